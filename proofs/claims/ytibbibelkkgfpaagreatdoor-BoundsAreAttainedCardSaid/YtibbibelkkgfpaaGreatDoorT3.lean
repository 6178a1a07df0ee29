/- Part T3: a typed interpreter of abstract code, proved sound over the machine. No condition. -/
import Derived.Test.YtibbibelkkgfpaaGreatDoorT2
set_option linter.unusedSimpArgs false
set_option linter.unusedVariables false
namespace Go.Am
theorem qzr0{m m':List (Nat×Aa)}{n:Nat}(h:∀i,i<n->look m i=look m' i):tl m n=tl m' n:=by unfold tl;exact H6 fun i hi=>h i (Jl.1 hi)
section
variable {E:Nat->Aa}{P:Program}
theorem qzp4{a b:Bool}:eqB a b=true↔a=b:=by cases a<;>cases b<;>decide
theorem wzqb{c d:Bool}{x:Aa}(h:unc c x):unc (c&&d) x:=by cases x<;>simp only[unc]at h |-;intro e;simp only[AH]at e;exact h e.1
theorem wzbf{c:Bool}{t:List Aa}{a:Ae}(h:∀n,a=.t n->unc c (t.getD n .top)):BO c t [a]:=by
 cases a with
 |t n=>exact⟨h n rfl,trivial⟩
 |c v=>exact trivial
 |g i=>exact trivial
theorem qzqx{o:Ak}{S:As}{v:Aa}{rd:List Nat}{out:Option (Nat×Ad)}(hg:o.guard=none)(hc:o.op.isCall=false)(h1:(o.op.req (Ah E S.t) S.h).ok)(h2:VEq (o.op.req (Ah E S.t) S.h).v v)(h3:∀j∈(o.op.req (Ah E S.t) S.h).rd,j∈rd)(h4:OutW S.h (o.op.req (Ah E S.t) S.h).out out) (h5:∀i ob,out=some (i,ob)->i∈rd):Bm E P o S v rd out:=by
 unfold Bm;rw[hg]
 cases aT:o.op<;>rw[aT]at hc h1 h2 h3 h4<;>first
  |(cases hc;done)
  |exact⟨h1,h2,h3,h4,h5⟩
theorem wzac{o:Ak}{S:As}{tg:Nat}{want c:Bool}{x:Aa}{rd:List Nat}(hg:o.guard=some (tg,want))(hc:o.op.isCall=false)(h0:HA (S.t.getD tg .top) want=some c)(hq:o.op.quiet=true)(h:c=true->o.op.unAll E c S.t/\(o.op.req (argU E S.t) S.h).ok/\VEq (o.op.req (argU E S.t) S.h).v x/\∀j∈(o.op.req (argU E S.t) S.h).rd,j∈rd):Bm E P o S (.cnd c x) rd none:=by
 unfold Bm;rw[hg];refine⟨c,x,h0,rfl,rfl,?_⟩
 cases aT:o.op<;>rw[aT]at hc hq h<;>first
  |(cases hc;done)
  |exact⟨hq,h⟩
theorem qzxe{o:An}(h:Hh o=true):o.isCall=false:=by cases o<;>first|rfl|cases h
end
section
variable [Tab]
structure Fd(U:Phi)(T:Av)(U':Phi)(T':Av):Prop where
 b:T'.b=T.b
 le:T.rf<=T'.rf
 sr:50<=T.rf->T'.rf=T.rf
 wo:1899∉T'.wo->1899∉T.wo
 hy:Aw T.h 1899≠none->Aw T'.h 1899≠none
 rg:∀i,inR T.b i=true->U'.X i=U.X i
 eq:T'.rf=T.rf->T.b=0\/(1899∉T'.wo/\Aw T.h 1899≠none)->U'.X=U.X/\U'.ds=U.ds
theorem Fd.refl(U:Phi)(T:Av):Fd U T U T:=⟨rfl,A8 _,fun _=>rfl,id,id,fun _ _=>rfl,fun _ _=>⟨rfl,rfl⟩⟩
theorem Fd.same{U U':Phi}{T T':Av}(hb:T'.b=T.b)(hr:T'.rf=T.rf)(hw:1899∉T'.wo->1899∉T.wo)(hX:U'.X=U.X)(hd:U'.ds=U.ds)(hy:Aw T.h 1899≠none->Aw T'.h 1899≠none):Fd U T U' T' := ⟨hb,by rw[hr];exact A8 _,fun _=>hr,hw,hy,fun _ _=>by rw[hX],fun _ _=>⟨hX,hd⟩⟩
theorem Fd.trans{U U' U'':Phi}{T T' T'':Av}(h:Fd U T U' T')(k:Fd U' T' U'' T''):Fd U T U'' T'':=by refine⟨k.b.trans h.b,AS h.le k.le,fun e=>(k.sr (by rw[h.sr e];exact e)).trans (h.sr e),fun e=>h.wo (k.wo e),fun e=>k.hy (h.hy e),fun i e=>(k.rg i (by rw[h.b];exact e)).trans (h.rg i e),fun e e2=>?_⟩;have h1:=h.le;have h2:=k.le;obtain⟨c,d⟩:=k.eq (by omega) (e2.imp (fun e=>h.b.trans e) fun e=>⟨e.1,h.hy e.2⟩);obtain⟨a,b⟩:=h.eq (by omega) (e2.imp id fun e=>⟨k.wo e.1,e.2⟩);exact⟨c.trans a,d.trans b⟩
theorem Fr.of{U U':Phi}{T T':Av}(h:Fr U T)(hb:T'.b=T.b)(hr:T'.rf=T.rf)(hX:U'.X=U.X)(hd:U'.ds=U.ds)(hc:U'.c=U.c)(ho:∀id p,Aw T'.h id=some p->inR T.b id=true):Fr U' T' :=
 ⟨fun id p e=>by rw[hb];exact ho id p e,fun i e=>by rw[hX];exact h.rx i (by rw[<-hb];exact e),fun i e1 e2=>by rw[hX];exact h.rz i (by rw[<-hb,<-hr];exact e1) (by rw[<-hb];exact e2),fun D hD=>by rw[hX,hb,hr];exact h.dd D (by rw[<-hd];exact hD),
  fun e1 e2=>by rw[hX];exact h.ry (by rw[<-hb];exact e1) (by rw[<-hr];exact e2),trivial,trivial⟩
theorem Fr.ofh{U U':Phi}{T T':Av}(h:Fr U T)(hb:T'.b=T.b)(hr:T'.rf=T.rf)(hX:U'.X=U.X)(hd:U'.ds=U.ds)(hc:U'.c=U.c)(hh:T'.h=T.h):Fr U' T' :=
 h.of hb hr hX hd hc (fun id p e=>h.ro id p (by rw[<-hh];exact e))
structure Log(U:Phi)(T:Av)(U':Phi)(T':Av):Prop where
 n:T'.n=T.n
 nx:T.nx<=T'.nx
 ext:Ext T.nx U U'
 sl:∀i,i∉T'.w->i∉T.w/\eT U' (Ay T'.t i)=eT U (Ay T.t i)
 ob:∀i,i∉T'.wo->i∉T.wo/\(inR T.b i=true->hO U' i (Aw T'.h i)=hO U i (Aw T.h i))
 fr:Fd U T U' T'
theorem Log.refl(U:Phi)(T:Av):Log U T U T:=⟨rfl,A8 _,.refl _ _,fun i h=>⟨h,rfl⟩,fun i h=>⟨h,fun _=>rfl⟩,.refl _ _⟩
theorem Log.trans{U U' U'':Phi}{T T' T'':Av}(h:Log U T U' T')(k:Log U' T' U'' T''):Log U T U'' T'' := ⟨k.n.trans h.n,AS h.nx k.nx,h.ext.trans k.ext h.nx,fun i hi=>⟨(h.sl i (k.sl i hi).1).1,(k.sl i hi).2.trans (h.sl i (k.sl i hi).1).2⟩,fun i hi=>⟨(h.ob i (k.ob i hi).1).1,fun e=>((k.ob i hi).2 (by rw[h.fr.b];exact e)).trans ((h.ob i (k.ob i hi).1).2 e)⟩,h.fr.trans k.fr⟩
def TV.pv:TV->PV
 |.v x=>x
 |.cnd _ _ _ x=>x
theorem Nw{U:Phi}{T:Av}{x:TV}(h:TOk U T x):StP T.nx x.pv:=by cases x<;>exact h.1
theorem IZ{U U':Phi}{nx:Nat}(h:Ext nx U U'){x:TV}(hx:StP nx x.pv):eT U' x=eT U x:=by
 cases x with
 |v x=>exact IX h hx
 |cnd a b c x=>show Aa.cnd c (eP U' x)=.cnd c (eP U x);rw[IX h (x:=x) hx]
theorem Ny{U U':Phi}{nx e:Nat}(h:Ext nx U U'){o:TO}(hr:RfO U nx o):eO U' e o=eO U e o:=by
 cases o with
 |_=>rfl
theorem qzm2{U U':Phi}{nx m:Nat}(h:Ext nx U U')(hm:nx<=m){o:TO}(hr:RfO U nx o):RfO U' m o:=by
 cases o with
 |_=>trivial
theorem RG{U U':Phi}{nx id st:Nat}(h:Ext nx U U')(hs:st<nx){o:TO}(k:OkO (U id st) o):OkO (U' id st) o:=by rw[h.s _ _ hs];exact k
section
variable {U:Phi}{T:Av}
theorem Et(hI:InvT U T)(n:Nat):(em U T).t.getD n .top=eT U (Ay T.t n):=em_t hI n
theorem Ja{tg tg':Nat}{want want' g g':Bool}{x y:PV}{n:Nat}(hl:Ay T.t n=.cnd tg want g x)(h:argP T (some (tg',want',g')) (.t n)=some y):tg=tg'/\want=want'/\x=y:=by
 simp only[argP,hl]at h;cases h1:Nat.beq tg tg'<;>rw[h1]at h
 ·cases h
 ·cases h2:eqB want want'<;>rw[h2]at h;·cases h
  ·cases h;exact⟨AL.1 h1,qzp4.1 h2,rfl⟩
theorem FT(hI:InvT U T):Ar U T none (Ah TabT.E (em U T).t) (em U T).h:=by
 refine⟨fun a x h=>?_,fun id st o h=>⟨Hm h,(hI.ob _ _ _ h).2⟩⟩;cases a with
 |t n =>
  have e:Ah TabT.E (em U T).t (.t n)=eT U (Ay T.t n):=Et hI n;have hs:=hI.sl n;cases hl:Ay T.t n with
  |v y =>simp only[argP,hl]at h;cases h;rw[hl]at e hs;exact⟨e,hs.1,fun _=>hs.2⟩
  |cnd a b c y=>simp only[argP,hl]at h;cases h
 |c v =>
  simp only[argP]at h;split at h
  ·rename_i w hw;cases h;exact⟨(KJ hw).symm,trivial,fun _=>trivial⟩
  ·cases h
 |g i=>cases h
theorem qz7z(hI:InvT U T){tg:Nat}{want b:Bool}(hb:gdT want (Ay T.t tg)=some b):Ar U T (some (tg,want,b)) (argU TabT.E (em U T).t) (em U T).h:=by
 refine⟨fun a x h=>?_,fun id st o h=>⟨Hm h,(hI.ob _ _ _ h).2⟩⟩;cases a with
 |t n =>
  have e:argU TabT.E (em U T).t (.t n)=unv (eT U (Ay T.t n)):=by show unv ((em U T).t.getD n .top)=_;rw[Et hI n]
  have hs:=hI.sl n;cases hl:Ay T.t n with
  |v y =>simp only[argP,hl]at h;cases h;rw[hl]at e hs;exact⟨e.trans (KK _),hs.1,fun _=>hs.2⟩
  |cnd a b' c y =>obtain⟨rfl,rfl,rfl⟩:=Ja hl h;rw[hl]at e hs;obtain⟨k1,k2,k3,k4⟩:=hs;rw[hb]at k4;cases k4;exact⟨e,k1,fun ha=>k2 ha⟩
 |c v =>
  simp only[argP]at h;split at h
  ·rename_i w hw;cases h;exact⟨(KJ hw).symm,trivial,fun _=>trivial⟩
  ·cases h
 |g i=>cases h
theorem wzk2{want g:Bool}{x:TV}(h:gdT want x=some g){b:Bool}(hx:∃c,(c=true->eT U x=.bool b)/\eT U x=.bool b):g=Ac want b (!b):=by
 obtain⟨_,_,hx⟩:=hx;cases x with
 |v y =>
  cases y with
  |s v=>cases v with
   |bool b'=>cases hx;cases h;rfl
   |_=>cases h
  |_=>cases h
 |cnd a c d y=>cases hx
theorem wzpo(hI:InvT U T):Pk U T (Ah TabT.E (em U T).t):=by
 intro a n w b x h hb;have hb:(em U T).t.getD n .top=.bool b:=hb;rw[Et hI]at hb;cases a with
 |t m =>
  have e:Ah TabT.E (em U T).t (.t m)=eT U (Ay T.t m):=Et hI m;have hs:=hI.sl m;cases hl:Ay T.t m with
  |v y =>simp only[argP,hl]at h;cases h;rw[e,hl];exact⟨KK _,KL _ _⟩
  |cnd a b' c y =>obtain⟨rfl,rfl,rfl⟩:=Ja hl h;rw[e,hl];rw[hl]at hs;obtain⟨k1,k2,k3,k4⟩:=hs;have:=wzk2 (U:=U) k4 (b:=b) ⟨true,fun _=>hb,hb⟩;exact⟨rfl,fun e=>this.trans e⟩
 |c v =>
  simp only[argP]at h;split at h
  ·rename_i w hw;cases h;have:Ah TabT.E (em U T).t (.c v)=A0 w:=(KJ hw).symm;rw[this];exact⟨QR _,QS _ _⟩
  ·cases h
 |g i=>cases h
theorem wzrm(hI:InvT U T):Pk U T (argU TabT.E (em U T).t):=by
 intro a n w b x h hb;cases a with
 |t m =>
  have e:argU TabT.E (em U T).t (.t m)=unv (eT U (Ay T.t m)):=by show unv ((em U T).t.getD m .top)=_;rw[Et hI m]
  have key:argU TabT.E (em U T).t (.t m)=eP U x:=by
   cases hl:Ay T.t m with
   |v y =>simp only[argP,hl]at h;cases h;rw[e,hl];exact KK _
   |cnd a b' c y =>obtain⟨rfl,rfl,rfl⟩:=Ja hl h;rw[e,hl];rfl
  rw[key];exact⟨KK _,KL _ _⟩
 |c v =>
  simp only[argP]at h;split at h
  ·rename_i w hw;cases h;have:argU TabT.E (em U T).t (.c v)=A0 w:=(KJ hw).symm;rw[this];exact⟨QR _,QS _ _⟩
  ·cases h
 |g i=>cases h
theorem qz9f(hI:InvT U T){tg n:Nat}{want b:Bool}{x:PV}(hb:gdT want (Ay T.t tg)=some b)(h:argP T (some (tg,want,b)) (.t n)=some x):unc b ((em U T).t.getD n .top):=by
 rw[Et hI];have hs:=hI.sl n;cases hl:Ay T.t n with
 |v y=>exact KL _ _
 |cnd a b' c y =>obtain⟨rfl,rfl,rfl⟩:=Ja hl h;rw[hl]at hs;obtain⟨k1,k2,k3,k4⟩:=hs;rw[hb]at k4;cases k4;exact fun e=>e
theorem RH(hI:InvT U T){tg:Nat}{want b:Bool}(hb:gdT want (Ay T.t tg)=some b):∀{l:List Ae},allA T (some (tg,want,b)) l=true->BO b (em U T).t l
 |[],_=>trivial
 |a :: l,h=>by
  simp only[allA]at h;split at h
  ·rename_i x hx;have ih:=RH hI hb h;cases a with
   |t n=>exact⟨qz9f hI hb hx,ih⟩
   |c v=>exact ih
   |g i=>exact ih
  ·cases h
theorem Nz(hI:InvT U T){tg n:Nat}{want g w b:Bool}{a:Ae}{x:PV}(hg:gdT want (Ay T.t tg)=some g)(hb:argP T (some (tg,want,g)) (.t n)=some (.s (.bool b)))(h:IV T (some (tg,want,g)) n w a=some x):BO (g&&Ac w b (!b)) (em U T).t [a]:=by
 refine wzbf fun m e=>?_;subst e;have h:(match argP T (some (tg,want,g)) (.t m) with | some p=>some p | none=>argP T (some (n,w,w)) (.t m))=some x:=h;split at h
 ·rename_i p hp;exact wzqb (qz9f hI hg hp)
 ·rw[Et hI];have hs:=hI.sl m;cases hl:Ay T.t m with
  |v y=>exact KL _ _
  |cnd a b' c y =>
   obtain⟨rfl,rfl,rfl⟩:=Ja hl h;rw[hl]at hs;obtain⟨k1,k2,k3,k4⟩:=hs
   have hc:g=true->c=Ac b' b (!b):=by
    intro e;have hn:=hI.sl a;revert hb k4;cases cn:Ay T.t a with
    |v y =>intro hb k4;simp only[argP,cn]at hb;cases hb;cases k4;rfl
    |cnd a2 b2 c2 y2 =>intro hb k4;obtain⟨rfl,rfl,rfl⟩:=Ja cn hb;rw[cn]at hn;obtain⟨q1,q2,q3,q4⟩:=hn;rw[hg]at q4;cases q4;have k4:some (g&&Ac b' b (!b))=some c:=k4;cases k4;rw[e,Gau]
   intro e;simp only[AH]at e;rw[hc e.1];exact e.2
theorem wzks[TabOk](hI:InvT U T){α:Type}{H:List Fe}{ty:List (Nat×CT)}{K:PV->List Nat->Option α}{r:α}{tg:Nat}{want g:Bool}{o:An}(hg:gdT want (Ay T.t tg)=some g)(cY:allO T (some (tg,want,g)) o=true)(h:opV H ty T (some (tg,want,g)) o K=some r):o.unAll TabT.E g (em U T).t:=by
  cases o<;>first
    |exact RH hI hg cY
    | (rename_i c x y
       replace h:KD H T (some (tg,want,g)) c x y K=some r:=h;unfold KD at h;split at h
       · rename_i n
         split at h
         · rename_i b hb
           have e0:argU TabT.E (em U T).t (.t n)=.bool b:=((qz7z hI hg).a _ _ hb).1;show BO g (em U T).t [.t n]/\(match argU TabT.E (em U T).t (.t n) with | .bool b=>BO (g&&b) (em U T).t [x]/\BO (g&&!b) (em U T).t [y] | _=>False);rw[e0];refine⟨RH hI hg cY,?_⟩;split at h
           · rename_i p q hp hq
             exact⟨Nz (w:=true) hI hg hb hp,Nz (w:=false) hI hg hb hq⟩
           · rename_i k p k' q hp hq
             exact⟨Nz (w:=true) hI hg hb hp,Nz (w:=false) hI hg hb hq⟩
           · cases h
         · cases h
       · cases h)
def GK(T T':Av):Prop:=∀g,memN g T.gs=true->memN g T'.gs=true/\∀w,gdT w (Ay T'.t g)=gdT w (Ay T.t g)
structure Step(U:Phi)(T:Av)(o:Ak)(U':Phi)(T':Av)(rd:List Nat)(out:Option Nat):Prop where
 inv:InvT U' T'
 log:Log U T U' T'
 gk:GK T T'
 ex:∃v ob,Bm TabT.E TabT.P o (em U T) v rd ob/\out=ob.map (·.1)/\em U' T'=⟨putT (em U T).t o.dst v,putH (em U T).h ob,U.ds⟩
theorem wzdl{T:Av}{d:Nat}(h:Er T (some d)=true):d<T.n/\memN d T.gs=false:=by
 have h:Ac (Nat.blt d T.n) (!memN d T.gs) false=true:=h;cases h1:Nat.blt d T.n<;>rw[h1]at h
 ·cases h
 ·exact⟨by simpa [Gt] using h1,by rw[II]at h;simpa using h⟩
theorem Hr{d:Option Tmp}{x:TV}:em U (putS T d x)=⟨putT (em U T).t d (eT U x),(em U T).h,U.ds⟩:=by
 cases d with
 |none=>rfl
 |some d =>show As.mk (tl ((d,eT U x) :: eTm U T.t) T.n) (em U T).h U.ds=⟨(tl (eTm U T.t) T.n).set d (eT U x),(em U T).h,U.ds⟩;rw[Ut]
theorem qznk{U:Phi}{T T':Av}{x:TV}(h:TOk U T x)(hn:T.nx<=T'.nx)(hg:∀g,memN g T.gs=true->memN g T'.gs=true/\Ay T'.t g=Ay T.t g):TOk U T' x:=by
 cases x with
 |v x=>exact⟨FQ hn h.1,h.2⟩
 |cnd a b c x =>obtain⟨k1,k2,k3,k4⟩:=h;exact⟨FQ hn k1,k2,(hg _ k3).1,by rw[(hg _ k3).2];exact k4⟩
theorem Ff(hI:InvT U T){d:Option Tmp}{x:TV}(hd:Er T d=true)(hx:TOk U T x):InvT U (putS T d x):=by
 cases d with
 |none=>exact hI
 |some d =>
  obtain⟨h1,h2⟩:=wzdl hd;have hm:∀y,TOk U T y->TOk U (putS T (some d) x) y:=fun y hy=>qznk hy (A8 _) fun g hg=>⟨hg,by show Ay ((d,x) :: T.t) g=_;rw[Bt,Ag (fun e=>by simp only at e;subst e;rw[hg]at h2;cases h2)]⟩;refine⟨fun i=>?_,fun i hi=>?_,hI.ob,hI.fr.ofh rfl rfl rfl rfl rfl rfl⟩
  ·show TOk U _ (Ay ((d,x) :: T.t) i);rw[Bt];split
   ·exact hm _ hx
   ·exact hm _ (hI.sl i)
  ·show Ay ((d,x) :: T.t) i=_;have hi:T.n<=i:=hi;rw[Bt,Ag (by simp only;omega)];exact hI.hi i hi
theorem N2{d:Option Tmp}{x:TV}:Log U T U (putS T d x):=by
 cases d with
 |none=>exact .refl _ _
 |some d =>refine⟨rfl,A8 _,.refl _ _,fun i hi=>?_,fun i hi=>⟨hi,fun _=>rfl⟩,.same rfl rfl id rfl rfl id⟩;have hi:i∉d :: T.w:=hi;simp only[AY,DL]at hi;refine⟨hi.2,?_⟩;show eT U (Ay ((d,x) :: T.t) i)=_;rw[Bt,Ag (fun e=>hi.1 e.symm)]
theorem RI(hI:InvT U T)(tg:Nat):InvT U (addG T tg):=by refine⟨fun i=>qznk (hI.sl i) (A8 _) fun g hg=>⟨?_,rfl⟩,hI.hi,hI.ob,hI.fr.ofh rfl rfl rfl rfl rfl rfl⟩;show memN g (tg :: T.gs)=true;exact Hl.2 (AQ _ (Hl.1 hg))
theorem qzjc(tg:Nat):Log U T U (addG T tg):=⟨rfl,A8 _,.refl _ _,fun i hi=>⟨hi,rfl⟩,fun i hi=>⟨hi,fun _=>rfl⟩,.same rfl rfl id rfl rfl id⟩
theorem qzq6(hI:InvT U T){tg:Nat}{want b:Bool}(hb:gdT want (Ay T.t tg)=some b):HA ((em U T).t.getD tg .top) want=some b:=by
 rw[Et hI];revert hb;cases Ay T.t tg with
 |v y =>
  cases y with
  |s v=>cases v with
   |bool b'=>intro h;cases h;cases want<;>rfl
   |_=>intro h;cases h
  |_=>intro h;cases h
 |cnd a c d y =>
  cases y with
  |s v=>cases v with
   |bool b'=>intro h;cases h;cases want<;>rfl
   |_=>intro h;cases h
  |_=>intro h;cases h
theorem RJ{id st nx:Nat}:∀{l:List (Nat×TV)} {i:Nat},Ay (Hk id st nx l) i=(match Ay l i with | .v x=>.v (EZ id st nx x) | y=>y)
 |[],i=>rfl
 |(j,.v x) :: l,i=>by
  show Ay ((j,.v (EZ id st nx x)) :: Hk id st nx l) i=_;rw[Bt,Bt];split
  ·rfl
  ·exact RJ
 |(j,.cnd a b c x) :: l,i=>by
  show Ay ((j,.cnd a b c x) :: Hk id st nx l) i=_;rw[Bt,Bt];split
  ·rfl
  ·exact RJ
theorem qz6e{id st nx:Nat}{w:Bool}{x:PV}:gdT w (.v (EZ id st nx x))=gdT w (.v x):=by
 cases x with
 |ptr i s off=>show gdT w (.v (Ac (Nat.beq i id) (Ac (Nat.beq s st) _ _) _))=_;cases Nat.beq i id<;>cases Nat.beq s st<;>rfl
 |vec i s=>show gdT w (.v (Ac (Nat.beq i id) (Ac (Nat.beq s st) _ _) _))=_;cases Nat.beq i id<;>cases Nat.beq s st<;>rfl
 |vs i s lo hi=>show gdT w (.v (Ac (Nat.beq i id) (Ac (Nat.beq s st) _ _) _))=_;cases Nat.beq i id<;>cases Nat.beq s st<;>rfl
 |mp i s=>show gdT w (.v (Ac (Nat.beq i id) (Ac (Nat.beq s st) _ _) _))=_;cases Nat.beq i id<;>cases Nat.beq s st<;>rfl
 |own i s=>show gdT w (.v (Ac (Nat.beq i id) (Ac (Nat.beq s st) _ _) _))=_;cases Nat.beq i id<;>cases Nat.beq s st<;>rfl
 |_=>rfl
theorem qzph{id st:Nat}{G:HB}{x:PV}(hx:StP T.nx x)(h1:(U id st).ep=G.ep)(h2:(U id st).n=G.n):eP (upd U id T.nx G) (EZ id st T.nx x)=eP U x/\StP (T.nx+1) (EZ id st T.nx x)/\(OkP U x->OkP (upd U id T.nx G) (EZ id st T.nx x)):=by
 have aJ:Ext T.nx U (upd U id T.nx G):=RA;have same:eP (upd U id T.nx G) x=eP U x/\StP (T.nx+1) x/\(OkP U x->OkP (upd U id T.nx G) x):=⟨IX aJ hx,FQ (H8 _) hx,IY aJ hx⟩;cases x with
 |ptr i s off =>
  show eP _ (Ac (Nat.beq i id) (Ac (Nat.beq s st) (.ptr i T.nx off) (.ptr i s off)) (.ptr i s off))=_/\StP _ (Ac (Nat.beq i id) (Ac (Nat.beq s st) (.ptr i T.nx off) (.ptr i s off)) (.ptr i s off))/\(_->OkP _ (Ac (Nat.beq i id) (Ac (Nat.beq s st) (.ptr i T.nx off) (.ptr i s off)) (.ptr i s off)));cases h:Nat.beq i id
  ·exact same
  ·cases k:Nat.beq s st;·exact same
   ·obtain rfl:=AL.1 h;obtain rfl:=AL.1 k;refine⟨?_,CU _,fun _=>trivial⟩;show Aa.ptr i (upd U i T.nx G i T.nx).ep off=.ptr i (U i s).ep off;rw[yzj,h1]
 |vec i s =>
  show eP _ (Ac (Nat.beq i id) (Ac (Nat.beq s st) (.vec i T.nx) (.vec i s)) (.vec i s))=_/\StP _ (Ac (Nat.beq i id) (Ac (Nat.beq s st) (.vec i T.nx) (.vec i s)) (.vec i s))/\(_->OkP _ (Ac (Nat.beq i id) (Ac (Nat.beq s st) (.vec i T.nx) (.vec i s)) (.vec i s)));cases h:Nat.beq i id
  ·exact same
  ·cases k:Nat.beq s st;·exact same
   ·obtain rfl:=AL.1 h;obtain rfl:=AL.1 k;refine⟨?_,CU _,fun _=>trivial⟩;show Aa.vec i (upd U i T.nx G i T.nx).ep 0 (upd U i T.nx G i T.nx).n=.vec i (U i s).ep 0 (U i s).n;rw[yzj,h1,h2]
 |mp i s =>
  show eP _ (Ac (Nat.beq i id) (Ac (Nat.beq s st) (.mp i T.nx) (.mp i s)) (.mp i s))=_/\StP _ (Ac (Nat.beq i id) (Ac (Nat.beq s st) (.mp i T.nx) (.mp i s)) (.mp i s))/\(_->OkP _ (Ac (Nat.beq i id) (Ac (Nat.beq s st) (.mp i T.nx) (.mp i s)) (.mp i s)));cases h:Nat.beq i id
  ·exact same
  ·cases k:Nat.beq s st;·exact same
   ·obtain rfl:=AL.1 h;obtain rfl:=AL.1 k;refine⟨?_,CU _,fun _=>trivial⟩;show Aa.mp i (upd U i T.nx G i T.nx).ep=.mp i (U i s).ep;rw[yzj,h1]
 |vs i s lo hi =>
  show eP _ (Ac (Nat.beq i id) (Ac (Nat.beq s st) (.vs i T.nx lo hi) (.vs i s lo hi)) (.vs i s lo hi))=_/\StP _ (Ac (Nat.beq i id) (Ac (Nat.beq s st) (.vs i T.nx lo hi) (.vs i s lo hi)) (.vs i s lo hi))/\(_->OkP _ (Ac (Nat.beq i id) (Ac (Nat.beq s st) (.vs i T.nx lo hi) (.vs i s lo hi)) (.vs i s lo hi)));cases h:Nat.beq i id
  ·exact same
  ·cases k:Nat.beq s st;·exact same
   ·obtain rfl:=AL.1 h;obtain rfl:=AL.1 k;refine⟨?_,CU _,fun k=>?_⟩
    ·show Aa.vec i (upd U i T.nx G i T.nx).ep lo.toNat (hi-lo).toNat=.vec i (U i s).ep lo.toNat (hi-lo).toNat;rw[yzj,h1]
    ·show 0<=lo/\lo<=hi/\hi<=(upd U i T.nx G i T.nx).n;rw[yzj,<-h2];exact k
 |own i s =>
  show eP _ (Ac (Nat.beq i id) (Ac (Nat.beq s st) (.own i T.nx) (.own i s)) (.own i s))=_/\StP _ (Ac (Nat.beq i id) (Ac (Nat.beq s st) (.own i T.nx) (.own i s)) (.own i s))/\(_->OkP _ (Ac (Nat.beq i id) (Ac (Nat.beq s st) (.own i T.nx) (.own i s)) (.own i s)));cases h:Nat.beq i id
  ·exact same
  ·cases k:Nat.beq s st;·exact same
   ·obtain rfl:=AL.1 h;obtain rfl:=AL.1 k;refine⟨?_,CU _,fun _=>trivial⟩;show(match (upd U i T.nx G i T.nx).n with | 0=>Aa.nils | n+1=>.vec i (upd U i T.nx G i T.nx).ep 0 (n+1))=(match (U i s).n with | 0=>Aa.nils | n+1=>.vec i (U i s).ep 0 (n+1));rw[yzj,h1,h2]
 |s v=>exact same
 |eptr i s j off c x=>exact same
theorem RK{id st nx:Nat}:∀{l:List (Nat×Nat×TO)} {i:Nat},Aw (Hj id st nx l) i=(match Aw l i with | some (s,o)=>some (s,R8 id st nx o) | none=>none)
 |[],i=>rfl
 |(j,s,o) :: l,i=>by
  show Aw ((j,s,R8 id st nx o) :: Hj id st nx l) i=_;rw[Cm,Cm];split
  ·rfl
  ·exact RK
def rsH(T:Av)(id:Nat)(re:Bool):List (Nat×Nat×TO):=Ac re (match Aw T.h id with
  |some (st,_)=>Hj id st T.nx T.h
  | none=>T.h) T.h
def rs(T:Av)(id:Nat)(re:Bool)(x:TV):TV:=Ac re (match Aw T.h id with
 |some (st,_)=>(match x with | .v x=>.v (EZ id st T.nx x) | y=>y)
 | none=>x) x
def rsK(U U':Phi):TV->TV->Prop
 |.v y,z=>∃y',z=.v y'/\(OkP U y->OkP U' y')
 |.cnd a b c y,z=>z=.cnd a b c y
theorem Jb{id:Nat}{o:TO}{re:Bool}{i:Nat}:Ay (putO T id o re).t i=rs T id re (Ay T.t i):=by
 show Ay (Ac re (match Aw T.h id with | some (st,_)=>Hk id st T.nx T.t | none=>T.t) T.t) i=_;unfold rs;cases re
 ·rfl
 ·simp only[II];cases Aw T.h id with
  |none=>rfl
  |some q=>exact RJ
theorem RL(hI:InvT U T){id:Nat}{ob:TO}{re:Bool}{G:HB}(hid:inR T.b id=true)(aB:OkO G ob)(iK:RfO (upd U id T.nx G) (T.nx+1) ob)(lU:re=true->∃st o0,Aw T.h id=some (st,o0)/\(U id st).ep=G.ep/\(U id st).n=G.n) :
  InvT (upd U id T.nx G) (putO T id ob re)/\Log U T (upd U id T.nx G) (putO T id ob re)/\em (upd U id T.nx G) (putO T id ob re)=⟨(em U T).t,putH (em U T).h (some (id,eO (upd U id T.nx G) G.ep ob)),U.ds⟩:=by
 have aJ:Ext T.nx U (upd U id T.nx G):=RA
 have key:∀x,TOk U T x->eT (upd U id T.nx G) (rs T id re x)=eT U x/\StP (T.nx+1) (rs T id re x).pv/\(∀w,gdT w (rs T id re x)=gdT w x) /\
   rsK U (upd U id T.nx G) x (rs T id re x):=by
  intro x hx
  have plain:rs T id re x=x->eT (upd U id T.nx G) (rs T id re x)=eT U x/\StP (T.nx+1) (rs T id re x).pv/\(∀w,gdT w (rs T id re x)=gdT w x) /\
   rsK U (upd U id T.nx G) x (rs T id re x):=by
   intro e;rw[e];refine⟨IZ aJ (Nw hx),FQ (H8 _) (Nw hx),fun _=>rfl,?_⟩;cases x with
   |v y=>exact⟨y,rfl,IY aJ hx.1⟩
   |cnd a b c y=>rfl
  cases re with
  |false=>exact plain rfl
  |true =>
   obtain⟨st,o0,h0,h1,h2⟩:=lU rfl;cases x with
   |cnd a b c y=>exact plain (by unfold rs;rw[h0];rfl)
   |v y =>have e:rs T id true (.v y)=.v (EZ id st T.nx y):=(by unfold rs;rw[h0];rfl);obtain⟨k1,k2,k3⟩:=qzph (U:=U) (T:=T) (id:=id) (st:=st) (G:=G) hx.1 h1 h2;rw[e];exact⟨k1,k2,fun w=>qz6e,_,rfl,k3⟩
 have obs:∀i st' o',Aw (rsH T id re) i=some (st',o')->∃o,Aw T.h i=some (st',o)/\(eO (upd U id T.nx G) (U i st').ep o'=eO U (U i st').ep o)/\(OkO (U i st') o->OkO (U i st') o')/\RfO (upd U id T.nx G) (T.nx+1) o':=by
  intro i st' o' ho;have plain:Aw T.h i=some (st',o')->∃o,Aw T.h i=some (st',o)/\(eO (upd U id T.nx G) (U i st').ep o'=eO U (U i st').ep o)/\(OkO (U i st') o->OkO (U i st') o')/\RfO (upd U id T.nx G) (T.nx+1) o':=fun h=>by obtain⟨_,_,h2⟩:=hI.ob _ _ _ h;exact⟨o',h,Ny aJ h2,fun k=>k,qzm2 aJ (H8 _) h2⟩
  cases re with
  |false=>exact plain ho
  |true =>
   obtain⟨st,o0,h0,h1,h2⟩:=lU rfl;have e:rsH T id true=Hj id st T.nx T.h:=by unfold rsH;rw[h0];rfl
   rw[e,RK]at ho;cases hx:Aw T.h i with
   |none=>rw[hx]at ho;cases ho
   |some q =>
    obtain⟨s1,o1⟩:=q;rw[hx]at ho;cases ho;obtain⟨_,_,k2⟩:=hI.ob _ _ _ hx;refine⟨o1,rfl,?_,?_,?_⟩
    ·cases o1 with
     |_=>rfl
    ·cases o1 with
     |_=>exact fun k=>k
    ·cases o1 with
     |_=>trivial
 have obn:∀i,Aw (rsH T id re) i=none↔Aw T.h i=none:=by
  intro i;cases re with
  |false=>exact Iff.rfl
  |true =>
   obtain⟨st,o0,h0,_,_⟩:=lU rfl;have e:rsH T id true=Hj id st T.nx T.h:=by unfold rsH;rw[h0];rfl
   rw[e,RK];cases Aw T.h i with
   |none=>exact⟨fun _=>rfl,fun _=>rfl⟩
   |some q=>exact⟨fun h=>(by cases h),fun h=>(by cases h)⟩
 have eh:(putO T id ob re).h=(id,T.nx,ob) :: rsH T id re:=rfl
 have obj:∀i,hO (upd U id T.nx G) i (Aw ((id,T.nx,ob) :: rsH T id re) i)=if i=id then eO (upd U id T.nx G) G.ep ob else hO U i (Aw T.h i):=by
  intro i;rw[Cm];by_cases h:i=id
  ·subst h;rw[Aj rfl,Aj rfl];show eO (upd U i T.nx G) (upd U i T.nx G i T.nx).ep ob=_;rw[yzj]
  ·rw[Ag (fun e=>h e.symm),Ag h];cases hx:Aw (rsH T id re) i with
   |none=>rw[(obn i).1 hx];rfl
   |some q =>obtain⟨st',o'⟩:=q;obtain⟨o,h1,h2,_,_⟩:=obs i st' o' hx;rw[h1];show eO (upd U id T.nx G) (upd U id T.nx G i st').ep o'=eO U (U i st').ep o;rw[aJ.s i st' (hI.ob _ _ _ h1).1,h2]
 have fg:∀i p,Aw ((id,T.nx,ob) :: rsH T id re) i=some p->inR T.b i=true:=by
  intro i p e;rw[Cm]at e;by_cases h:id=i
  ·subst h;exact hid
  ·rw[Ag h]at e;obtain⟨st',o'⟩:=p;obtain⟨o,h1,_⟩:=obs i st' o' e;exact hI.fr.ro _ _ h1
 have lV:Aw T.h 1899≠none->Aw ((id,T.nx,ob) :: rsH T id re) 1899≠none:=by
  intro e;rw[Cm];split
  ·intro e;cases e
  ·exact fun h=>e ((obn _).1 h)
 refine⟨⟨fun i=>?_,fun i hi=>?_,fun i st o ho=>?_,hI.fr.of rfl rfl rfl rfl rfl fg⟩,⟨rfl,H8 _,aJ,fun i hi=>?_,fun i hi=>?_,.same rfl rfl (fun h e=>h (AQ _ e)) rfl rfl (fun e=>lV e)⟩,?_⟩
 ·rw[Jb];obtain⟨k1,k2,k3,k4⟩:=key _ (hI.sl i);have hx:=hI.sl i;revert k2 k4 hx;cases Ay T.t i with
  |v y =>intro k2 ⟨y',e,k⟩ hx;rw[e]at k2 |-;exact⟨k2,k hx.2⟩
  |cnd a b c y =>intro k2 e hx;have e:rs T id re (.cnd a b c y)=.cnd a b c y:=e;rw[e];obtain⟨q1,q2,q3,q4⟩:=hx;refine⟨FQ (H8 _) q1,fun e=>IY aJ q1 (q2 e),q3,?_⟩;rw[Jb,(key _ (hI.sl a)).2.2.1 b,q4]
 ·rw[Jb,hI.hi i hi];unfold rs;cases re
  ·rfl
  ·simp only[II];cases Aw T.h id<;>rfl
 ·have ho:Aw ((id,T.nx,ob) :: rsH T id re) i=some (st,o):=ho;rw[Cm]at ho;by_cases h:id=i
  ·subst h;rw[Aj rfl]at ho;cases ho;exact⟨CU _,by rw[yzj];exact aB,iK⟩
  ·rw[Ag h]at ho;obtain⟨o1,h1,_,h3,h4⟩:=obs i st o ho;obtain⟨q1,q2,_⟩:=hI.ob _ _ _ h1;exact⟨Nat.lt_succ_of_lt q1,RG aJ q1 (h3 q2),h4⟩
 ·exact⟨hi,by rw[Jb];exact(key _ (hI.sl i)).1⟩
 ·have hi:i∉id :: T.wo:=hi;simp only[AY,DL]at hi;refine⟨hi.2,fun _=>?_⟩;show hO _ i (Aw ((id,T.nx,ob) :: rsH T id re) i)=_;rw[obj,Ag hi.1]
 ·show As.mk (tl (eTm _ (putO T id ob re).t) T.n) (fun i=>hO (upd U id T.nx G) i (Aw ((id,T.nx,ob) :: rsH T id re) i)) U.ds=⟨tl (eTm U T.t) T.n,hset (em U T).h id (eO (upd U id T.nx G) G.ep ob),U.ds⟩;congr 1
  ·refine qzr0 fun i _=>?_;rw[Lh,Lh,Jb];exact(key _ (hI.sl i)).1
  ·funext i;show hO (upd U id T.nx G) i (Aw ((id,T.nx,ob) :: rsH T id re) i)=if i=id then eO (upd U id T.nx G) G.ep ob else(em U T).h i;rw[obj,em_h]
theorem qz21[TabOk]{α:Type}{H:List Fe}{ty:List (Nat×CT)}{T:Av}{G:Gd}{o:An}{K:PV->List Nat->Option α}{r:α}(h:opV H ty T G o K=some r):o.isCall=false\/(∃f ags,o=.callf f ags/\Nf H T G f ags K=some r)\/(∃x ags,o=.callv x ags/\Ng H T G x ags K=some r):=by
 cases o<;>first
  |exact .inl rfl
  |(cases h;done)
  |exact .inr (.inl ⟨_,_,rfl,h⟩)
  |exact .inr (.inr ⟨_,_,rfl,h⟩)
theorem qz3y[TabOk]{α:Type}{H:List Fe}{G:Gd}{ar:Ae->Aa}{hh:Aq}(hA:Ar U T G ar hh){f:FuncId}{ags:List Ae}{K:PV->List Nat->Option α}{r:α}(h:Nf H T G f ags K=some r) : ∃p rd,K p rd=some r/\StP T.nx p/\(act G->OkP U p/\CZ TabT.E TabT.P f (ags.map ar) hh rd (eP U p)):=by
 unfold Nf at h;split at h
 ·rename_i C h1;split at h
  ·rename_i vs h2;split at h
   ·rename_i x hx;replace h:=KM h;obtain⟨y,h,hy⟩:=h;exact⟨_,_,h,trivial,fun ha=>⟨trivial,by rw[Hq hA h2,<-IT h1];exact(C.call (KC hx) (hy ha)).2.on hh []⟩⟩
   ·cases h
  ·cases h
 ·cases h
theorem qz2z[TabOk]{α:Type}{H:List Fe}{G:Gd}{ar:Ae->Aa}{hh:Aq}(hA:Ar U T G ar hh){x:Ae}{ags:List Ae}{K:PV->List Nat->Option α}{r:α}(h:Ng H T G x ags K=some r) : ∃v,K (.s v) []=some r/\(act G->∃f nb caps,ar x=.fn f nb caps/\CQ TabT.P f=true/\CZ TabT.E TabT.P f (fnArgs nb (ags.map ar) caps) hh [] (A0 v)):=by
 unfold Ng at h;split at h
 ·rename_i f nb caps vs h1 h2;split at h
  ·rename_i C h3;split at h
   ·rename_i y hy;replace h:=KM h;obtain⟨z,h,hz⟩:=h;refine⟨_,h,fun ha=>⟨f,nb,Ax caps,(hA.a _ _ h1).1,?_⟩⟩;rw[Hq hA h2,<-ZM,<-IT h3];obtain⟨k1,k2⟩:=C.call (KC hy) (hz ha);exact⟨k1,k2.on hh []⟩
   ·cases h
  ·cases h
 ·rename_i i z vs h1 h2;split at h
  ·rename_i y hy;replace h:=@KM _ _ (inhR i) _ _ _ _ h;obtain⟨w,h,hw⟩:=h;refine⟨_,h,fun ha=>⟨z.f,z.nb,z.caps,(hA.a _ _ h1).1,?_⟩⟩;obtain⟨k1,k2⟩:=z.ok _ _ (hw ha);have e:TabT.aR i w=A0 (retT (Tab.fr i) (cast (Tab.eR i).symm w)):=by rw[<-TabOk.aR,cast_cast,cast_eq]
   rw[TabOk.aA,e]at k2;rw[Hq hA h2];refine⟨k1,(k2.w ?_).on hh []⟩;have hw:=qzrw hy;unfold fnArgs;exact .append (.append (.refl _) hw) (.refl _)
  ·cases h
 ·cases h
theorem GK.trans{T T' T'':Av}(h:GK T T')(k:GK T' T''):GK T T'':=fun g hg=>⟨(k g (h g hg).1).1,fun w=>((k g (h g hg).1).2 w).trans ((h g hg).2 w)⟩
theorem Hs{d:Option Tmp}{x:TV}(hd:Er T d=true):GK T (putS T d x):=fun g hg=>by
 cases d with
 |none=>exact⟨hg,fun _=>rfl⟩
 |some d =>refine⟨hg,fun w=>?_⟩;show gdT w (Ay ((d,x) :: T.t) g)=_;rw[Bt,Ag];intro e;have:=(wzdl hd).2;have e:d=g:=e;rw[e,hg]at this;cases this
theorem qzpq{id:Nat}{ob:TO}{re:Bool}:GK T (putO T id ob re):=fun g hg=>⟨hg,fun w=>by
 rw[Jb];unfold rs;cases re
 ·rfl
 ·rw[II];cases Aw T.h id with
  |none=>rfl
  |some q =>
   cases Ay T.t g with
   |v x=>exact qz6e
   |cnd a b c y=>rfl⟩
theorem RM(tg:Nat):GK T (addG T tg):=fun g hg=>⟨Hl.2 (AQ _ (Hl.1 hg)),fun _=>rfl⟩
theorem wzwr(hI:InvT U T):Hp U T (Ah TabT.E (em U T).t) (em U T).h:=⟨FT hI,fun i=>Nj hI i,hI.fr.ro⟩
theorem qz5m[TabOk]{α:Type}{H:List Fe}{ty:List (Nat×CT)}{o:Ak}{K:Av->List Nat->Option Nat->Option α}{r:α}(hI:InvT U T)(h:Fa H ty T o K=some r) : ∃U' T' rd out,K T' rd out=some r/\Step U T o U' T' rd out:=by
 unfold Fa at h;split at h
 ·rename_i hg;replace h:=AG h;obtain⟨hd,h⟩:=h;cases ho:Hh o.op with
  |true =>
   rw[ho]at h;obtain⟨fx,h⟩:=AG (show Ac (QZ T.b o.op) (opO ty T o.op fun v id ob re rd=>K (putS (putO T id ob re) o.dst (.v v)) rd (some id)) none=some r from h);obtain⟨p,id,ob,re,rd,ep,G,hK,V⟩:=wzdr (wzwr hI) fx h;obtain⟨i1,l1,e1⟩:=RL hI V.idr (G:=ghoR G ep ob) qzyq V.rfo (re:=re) (id:=id) (ob:=ob) (fun hr=>by obtain⟨st,o0,q1,q2,q3⟩:=V.re hr;exact⟨st,o0,q1,by rw[RF];exact q2,q3⟩);have ia:Er (putO T id ob re) o.dst=true:=hd;refine⟨_,_,_,_,hK,Ff i1 ia ⟨V.st,V.okp⟩,l1.trans N2,qzpq.trans (Hs ia),eP (upd U id T.nx (ghoR G ep ob)) p,some (id,eO (upd U id T.nx (ghoR G ep ob)) ep ob),?_,rfl,?_⟩
   ·exact qzqx hg (qzxe ho) V.ok V.v V.hrd V.hout fun i ob e=>by cases e;exact V.hid
   ·rw[Hr,e1,RF];rfl
  |false =>
   rw[ho]at h;rcases qz21 h with hc|⟨f,ags,aT,hc⟩|⟨x,ags,aT,hc⟩
   ·obtain⟨p,rd,hK,hs,hq,k⟩:=wzh3 (FT hI) (wzpo hI) (fun i=>Nj hI i) hc h;obtain⟨k1,k2,k3,k4,k5⟩:=k trivial;refine⟨_,_,_,_,hK,Ff hI hd ⟨hs,k1⟩,N2,Hs hd,eP U p,none,?_,rfl,Hr⟩;exact qzqx hg hc k2 k3 k4 k5 fun i ob e=>by cases e
   ·obtain⟨p,rd,hK,hs,k⟩:=qz3y (FT hI) hc;obtain⟨k1,k2⟩:=k trivial;refine⟨_,_,_,_,hK,Ff hI hd ⟨hs,k1⟩,N2,Hs hd,eP U p,none,?_,rfl,Hr⟩;unfold Bm;rw[hg,aT];exact⟨k2,rfl⟩
   ·obtain⟨v,hK,k⟩:=qz2z (FT hI) hc;refine⟨_,_,_,_,hK,Ff hI hd ⟨trivial,trivial⟩,N2,Hs hd,A0 v,none,?_,rfl,Hr⟩;unfold Bm;rw[hg,aT];exact⟨k trivial,rfl⟩
 ·rename_i tg want hg;split at h
  ·rename_i g hb;replace h:=AG h;obtain⟨hd,h⟩:=h;have h:Ac (Hh o.op) none (Ac (allO T (some (tg,want,g)) o.op) (opV H ty T (some (tg,want,g)) o.op fun v rd=>K (putS (addG T tg) o.dst (.cnd tg want g v)) rd none) none)=some r:=h
   have ho:Hh o.op=false:=by
    cases ho:Hh o.op
    ·rfl
    ·rw[ho]at h;cases h
   rw[ho]at h;replace h:=AG h;obtain⟨cY,h⟩:=h;have hu:=wzks hI hb cY h;have ha:=qz7z hI hb (want:=want);have h0:=qzq6 hI hb (want:=want);have tok:∀p,StP T.nx p->(g=true->OkP U p)->TOk U (addG T tg) (.cnd tg want g p):=fun p h1 h2=>⟨h1,h2,Hl.2 (AP ..),hb⟩;have e1:∀p,em U (putS (addG T tg) o.dst (.cnd tg want g p))=⟨putT (em U T).t o.dst (.cnd g (eP U p)),putH (em U T).h none,U.ds⟩:=fun p=>Hr (T:=addG T tg);have l1:∀p,Log U T U (putS (addG T tg) o.dst (.cnd tg want g p)):=fun p=>(qzjc tg).trans N2;rcases qz21 h with hc|⟨f,ags,aT,hc⟩|⟨x,ags,aT,hc⟩
   ·obtain⟨p,rd,hK,hs,hq,k⟩:=wzh3 ha (wzrm hI) (fun i=>Nj hI i) hc h;refine⟨_,_,_,_,hK,Ff (RI hI tg) hd (tok p hs fun e=>(k e).1),l1 p,(RM tg).trans (Hs hd),_,none,?_,rfl,e1 p⟩;refine wzac hg hc h0 hq fun e=>?_;obtain⟨k1,k2,k3,k4,k5⟩:=k e;exact⟨hu,k2,k3,k4⟩
   ·obtain⟨p,rd,hK,hs,k⟩:=qz3y ha hc;refine⟨_,_,_,_,hK,Ff (RI hI tg) hd (tok _ hs fun e=>(k e).1),l1 _,(RM tg).trans (Hs hd),_,none,?_,rfl,e1 _⟩;rw[aT]at hu;unfold Bm;rw[hg,aT];exact⟨_,_,h0,rfl,rfl,fun e=>⟨hu,(k e).2⟩⟩
   ·obtain⟨v,hK,k⟩:=qz2z ha hc;refine⟨_,_,_,_,hK,Ff (RI hI tg) hd (tok _ trivial fun e=>trivial),l1 _,(RM tg).trans (Hs hd),_,none,?_,rfl,e1 _⟩;rw[aT]at hu;unfold Bm;rw[hg,aT];refine⟨_,_,h0,rfl,rfl,fun e=>?_⟩;obtain⟨f,nb,caps,q1,q2,q3⟩:=k e;exact⟨f,nb,caps,q1,q2,hu,q3⟩
  ·cases h
end
end
theorem N3{α Y:Type}{x:Option α}{f:α->Option Y}{r:Y}(h:bd x f=some r):∃y,x=some y/\f y=some r:=by
 cases x with
 |none=>cases h
 |some y=>exact⟨y,rfl,h⟩
theorem W.trans:∀{x y:Aa},W x y->∀{z:Aa},W y z->W x z:=by
 intro x y h;induction h with
 |top x=>intro z k;cases k with
  |top=>exact .top _
  |refl=>exact .top _
 |refl x=>intro z k;exact k
 |nil st f=>intro z k;cases k with
  |top=>exact .top _
  |refl=>exact .nil _ _
  |slc=>exact .nil _ _
 |agg l l' hn h ih=>intro z k;cases k with
  |top=>exact .top _
  |refl=>exact .agg _ _ hn h
  |agg _ l'' gW h' =>
   refine .agg _ _ (hn.trans gW) fun i a b ha hb=>?_;have hi:i<l'.length:=by rw[<-hn];exact(AE.1 ha).1
   exact ih i a _ ha (AC hi) (h' i _ b (AC hi) hb)
 |tup l l' hn h ih=>intro z k;cases k with
  |top=>exact .top _
  |refl=>exact .tup _ _ hn h
  |tup _ l'' gW h' =>
   refine .tup _ _ (hn.trans gW) fun i a b ha hb=>?_;have hi:i<l'.length:=by rw[<-hn];exact(AE.1 ha).1
   exact ih i a _ ha (AC hi) (h' i _ b (AC hi) hb)
 |slc st n f f' hn h ih=>intro z k;cases k with
  |top=>exact .top _
  |refl=>exact .slc _ _ _ _ hn h
  |slc _ _ _ f'' gW h' =>
   refine .slc _ _ _ _ (fun k hk=>(hn k hk).trans (gW k hk)) fun k i a b hk ha hb=>?_;have hi:i<(f' k).length:=by rw[<-hn k hk];exact(AE.1 ha).1
   exact ih k i a _ hk ha (AC hi) (h' k i _ b hk (AC hi) hb)
 |cptr f f' n off h ih=>intro z k;cases k with
  |top=>exact .top _
  |refl=>exact .cptr _ _ _ _ h
  |cptr _ f'' _ _ h'=>exact .cptr _ _ _ _ fun j hj=>ih j hj (h' j hj)
 |fn f nb l l' hn h ih=>intro z k;cases k with
  |top=>exact .top _
  |refl=>exact .fn _ _ _ _ hn h
  |fn _ _ _ l'' gW h' =>
   refine .fn _ _ _ _ (hn.trans gW) fun i a b ha hb=>?_;have hi:i<l'.length:=by rw[<-hn];exact(AE.1 ha).1
   exact ih i a _ ha (AC hi) (h' i _ b (AC hi) hb)
theorem Ws.trans{l m k:List Aa}(h:Ws l m)(h':Ws m k):Ws l k:=by
 refine .of (h.at.1.trans h'.at.1) fun i a b ha hb=>?_;have hi:i<m.length:=by rw[<-h.at.1];exact(AE.1 ha).1
 exact(h.at.2 i a _ ha (AC hi)).trans (h'.at.2 i _ b (AC hi) hb)
theorem FVl.map{id:Nat}{o:Ad}{α:Type}{f g:α->Aa}:∀{l:List α},(∀i,i∈l->FV id o (f i) (g i))->FVl id o (l.map f) (l.map g)
 |[],_=>trivial
 |x :: l,h=>⟨h x (AP ..),FVl.map fun i hi=>h i (AQ _ hi)⟩
section
variable {E:Nat->Aa}{P:Program}{ρ:Option Nat}
theorem See.pw{t t':List Aa}{h h':Aq}{ds:List (Nat×Nat)}(ht:Ws t t')(hh:∀i,WO (h i) (h' i))(hd:∀D∈ds,h' D.1=.dfr D.2):See E ⟨t,h,ds⟩ ⟨t',h',ds⟩:=by intro g a w hs;have hH:=hs.hr.wk hh;exact⟨g,⟨hH,ht.rvs hs.tm,hs.df,hd,hs.dn⟩,⟨.refl _ _,rfl,rfl,rfl,A8 _,fun _ _ _=>rfl,fun i ho=>.inl ⟨i,(hh i).owned ho,rfl⟩,fun _ h=>.inl h,A8 _⟩⟩
theorem See.bumpH{t:List Aa}{h:Aq}{ds:List (Nat×Nat)}(id e:Nat)(hg:h id=.gone e):See E ⟨t,h,ds⟩ ⟨t,hset h id (.gone (e+1)),ds⟩:=by
 intro g a w hs;obtain⟨g',H',aC,hb,hf,bJ⟩:=hs.hr.bump (id:=id) (e:=e) hg;refine⟨g',⟨H',hs.tm.mono aC,?_,fun D hD=>?_,hs.dn⟩,⟨aC,rfl,rfl,rfl,A8 _,fun _ _ _=>rfl,fun i ho=>?_,fun b bg=>.inl (by rw[hf]at bg;exact bg),A8 _⟩⟩
 ·have:=hs.df;rw[this];exact H6 fun D _=>by rw[hb]
 ·have hd:=hs.dk D hD;have aH:D.1≠id:=fun e'=>by rw[e',show(⟨t,h,ds⟩:As).h id=.gone e from hg]at hd;cases hd
  show(if D.1=id then _ else h D.1)=_;rw[Ag aH];exact hd
 ·by_cases hi:i=id;·subst hi;exfalso;simp[hset,Ad.owned]at ho
  ·refine .inl ⟨i,?_,(hb i).symm⟩;have:hset h id (.gone (e+1)) i=h i:=Ag hi;have ho:(hset h id (.gone (e+1)) i).owned=true:=ho;rw[this]at ho;exact ho
theorem See.veq{t t':List Aa}{h h':Aq}{ds:List (Nat×Nat)}(hl:t'.length=t.length)(hv:∀(i:Nat) (x y:Aa),t[i]?=some x->t'[i]?=some y->VEq x y)(ho:∀i,OEq (h i) (h' i)):See E ⟨t,h,ds⟩ ⟨t',h',ds⟩ :=
 fun g a w hs=>⟨g,SR.veq (S:=⟨t,h,ds⟩) hs hl hv ho,(Stp.refl g h w).oeq ho⟩
theorem qzta{t:List Aa}{d:Option Tmp}{v v':Aa}(h:VEq v v'):(putT t d v').length=(putT t d v).length/\∀(i:Nat) (x y:Aa),(putT t d v)[i]?=some x->(putT t d v')[i]?=some y->VEq x y:=by
 cases d with
 |none=>exact⟨rfl,fun i x y hx hy=>by rw[show putT t none v=t from rfl]at hx;rw[show putT t none v'=t from rfl,hx]at hy;cases hy;exact .refl _⟩
 |some d =>
  refine⟨by show(t.set d v').length=(t.set d v).length;simp,fun i x y hx hy=>?_⟩;have hx:(t.set d v)[i]?=some x:=hx;have hy:(t.set d v')[i]?=some y:=hy;rw[DK]at hx hy;split at hx
  ·rename_i e;rw[Aj e]at hy;split at hx
   ·rename_i e2;rw[Aj e2]at hy;cases hx;cases hy;exact h
   ·cases hx
  ·rename_i e;rw[Ag e,hx]at hy;cases hy;exact .refl _
end
section
variable [Tab]
section
variable {ρ:Option Nat}{U:Phi}{T:Av}
theorem wzbg{U':Phi}{T':Av}(fu:InvT U' T')(d6:U'.ds=U.ds)(hn:T'.n=T.n)(ht:∀i,W (eT U (Ay T.t i)) (eT U' (Ay T'.t i)))(hh:∀i,WO (hO U i (Aw T.h i)) (hO U' i (Aw T'.h i))):See TabT.E (em U T) (em U' T'):=by
 have hd:=Nk fu;have e:em U' T'=⟨tl (eTm U' T'.t) T'.n,(em U' T').h,U.ds⟩:=by rw[<-d6];rfl
 rw[e];refine .pw (t:=tl (eTm U T.t) T.n) (t':=tl (eTm U' T'.t) T'.n) ?_ (fun i=>?_) (by rw[<-d6];exact hd)
 ·rw[hn];refine .of (by rw[EJ,EJ]) fun i x y hx hy=>?_;rw[DW]at hx hy;split at hx
  ·rename_i hi;rw[Aj hi]at hy;cases hx;cases hy;rw[Lh,Lh];exact ht i
  ·cases hx
 ·exact hh i
theorem FU{id st:Nat}{o:TO}:∀{l:List (Nat×TV)} {i:Nat},Ay (frzT id st o l) i=(match Ay l i with | .v x=>.v (frzP id st o x) | y=>y)
 |[],i=>rfl
 |(j,.v x) :: l,i=>by
  show Ay ((j,.v (frzP id st o x)) :: frzT id st o l) i=_;rw[Bt,Bt];split
  ·rfl
  ·exact FU
 |(j,.cnd a b c x) :: l,i=>by
  show Ay ((j,.cnd a b c x) :: frzT id st o l) i=_;rw[Bt,Bt];split
  ·rfl
  ·exact FU
theorem qz9p{id st:Nat}{o:TO}{x:PV}(h:KF id st x=false):frzP id st o x=x:=by
 cases x with
 |ptr i s off =>
  have h:Ac (Nat.beq i id) (Nat.beq s st) false=false:=h;show Ac (Nat.beq i id) (Ac (Nat.beq s st) _ _) _=_;cases h1:Nat.beq i id
  ·rfl
  ·rw[h1]at h;have h:Nat.beq s st=false:=h;rw[h];rfl
 |vec i s =>
  have h:Ac (Nat.beq i id) (Nat.beq s st) false=false:=h;show Ac (Nat.beq i id) (Ac (Nat.beq s st) _ _) _=_;cases h1:Nat.beq i id
  ·rfl
  ·rw[h1]at h;have h:Nat.beq s st=false:=h;rw[h];rfl
 |own i s =>
  have h:Ac (Nat.beq i id) (Nat.beq s st) false=false:=h;show Ac (Nat.beq i id) (Ac (Nat.beq s st) _ _) _=_;cases h1:Nat.beq i id
  ·rfl
  ·rw[h1]at h;have h:Nat.beq s st=false:=h;rw[h];rfl
 |s v=>rfl
 |eptr i s j off c x=>rfl
 |vs i s lo hi=>rfl
 |mp i s=>rfl
theorem N4{id st i:Nat}:∀{l:List (Nat×TV)} {w:List Nat},i∉frzW id st l w->i∉w/\∀x,Ay l i=.v x->KF id st x=false
 |[],w,h=>⟨h,fun x hx=>by cases hx;rfl⟩
 |(j,.v y) :: l,w,h=>by
  have h:i∉Ac (KF id st y) (j :: frzW id st l w) (frzW id st l w):=h;cases hr:KF id st y<;>rw[hr]at h
  ·obtain⟨h1,h2⟩:=N4 h;refine⟨h1,fun x hx=>?_⟩;rw[Bt]at hx;split at hx
   ·cases hx;exact hr
   ·exact h2 x hx
  ·have h:i∉j :: frzW id st l w:=h;simp only[AY,DL]at h;obtain⟨h1,h2⟩:=N4 h.2;refine⟨h1,fun x hx=>?_⟩;rw[Bt,Ag (fun e=>h.1 e.symm)]at hx;exact h2 x hx
 |(j,.cnd a b c y) :: l,w,h=>by
  have h:i∉frzW id st l w:=h;obtain⟨h1,h2⟩:=N4 h;refine⟨h1,fun x hx=>?_⟩;rw[Bt]at hx;split at hx
  ·cases hx
  ·exact h2 x hx
theorem RN{U':Phi}{id st nx:Nat}{o:TO}{x:PV}(aJ:Ext nx U U')(hx:StP nx x)(hO:OkO (U id st) o) :
  StP (nx+1) (frzP id st o x)/\(OkP U x->OkP U' (frzP id st o x))/\((∃c,o=.own c [])->W (eP U x) (eP U' (frzP id st o x)))/\((∀c,o≠.own c [])->FV id (eO U (U id st).ep o) (eP U x) (eP U' (frzP id st o x))):=by
 have same:StP (nx+1) x/\(OkP U x->OkP U' x)/\((∃c,o=.own c [])->W (eP U x) (eP U' x))/\((∀c,o≠.own c [])->FV id (eO U (U id st).ep o) (eP U x) (eP U' x)):=by
  refine⟨FQ (H8 _) hx,IY aJ hx,fun _=>?_,fun _=>?_⟩
  ·rw[IX aJ hx];exact .refl _
  ·rw[IX aJ hx];exact .refl _
 cases x with
 |ptr i s off =>
  have e:frzP id st o (.ptr i s off)=Ac (Nat.beq i id) (Ac (Nat.beq s st) (match (generalizing:=false) o with | .box cs=>.s (.cptr cs off) | _=>.ptr i s off) (.ptr i s off)) (.ptr i s off):=rfl;rw[e];cases h1:Nat.beq i id
  ·exact same
  ·cases h2:Nat.beq s st;·exact same
   ·obtain rfl:=AL.1 h1;obtain rfl:=AL.1 h2;cases o with
    |box cs =>refine⟨trivial,fun _=>trivial,fun⟨c,e⟩=>(by cases e),fun _=>?_⟩;have:=FV.box (id:=i) (o:=eO U (U i s).ep (.box cs)) (U i s).ep off (Ax cs) (fun k=>(Ax cs).getD k .top) rfl (fun _ _=>rfl);rw[Gp]at this;exact this
    |gone=>exact same
    |vec c l=>exact same
    |own c l=>exact same
    |map k v l=>exact same
 |vec i s =>
  have e:frzP id st o (.vec i s)=Ac (Nat.beq i id) (Ac (Nat.beq s st) (match (generalizing:=false) o with | .vec c l=>.s (.slc c l) | _=>.vec i s) (.vec i s)) (.vec i s):=rfl;rw[e];cases h1:Nat.beq i id
  ·exact same
  ·cases h2:Nat.beq s st;·exact same
   ·obtain rfl:=AL.1 h1;obtain rfl:=AL.1 h2;cases o with
    |vec c l =>refine⟨trivial,fun _=>trivial,fun⟨c,e⟩=>(by cases e),fun _=>?_⟩;show FV i _ (.vec i (U i s).ep 0 (U i s).n) (.slc c.n l.length (Ai c.cA l));have hO:(U i s).n=l.length/\(U i s).f=Ai c.cA l:=hO;rw[hO.1];exact .vec _ _ l.length (Ai c.cA l) 0 l.length _ rfl (by omega) fun k _=>by rw[Bq]
    |gone=>exact same
    |box cs=>exact same
    |own c l=>exact same
    |map k v l=>exact same
 |own i s =>
  have e:frzP id st o (.own i s)=Ac (Nat.beq i id) (Ac (Nat.beq s st) (match (generalizing:=false) o with | .own c l=>.s (.slc c l) | _=>.own i s) (.own i s)) (.own i s):=rfl;rw[e];cases h1:Nat.beq i id
  ·exact same
  ·cases h2:Nat.beq s st;·exact same
   ·obtain rfl:=AL.1 h1;obtain rfl:=AL.1 h2;cases o with
    |own c l =>
     have hO:(U i s).n=l.length/\(U i s).f=Ai c.cA l:=hO;have e1:eP U (.own i s)=match l.length with | 0=>.nils | n+1=>.vec i (U i s).ep 0 (n+1):=by show(match (U i s).n with | 0=>Aa.nils | n+1=>.vec i (U i s).ep 0 (n+1))=_;rw[hO.1]
     rw[e1];refine⟨trivial,fun _=>trivial,fun⟨c',e⟩=>?_,fun aH=>?_⟩
     ·cases e;exact .nil _ _
     ·cases l with
      |nil=>exact absurd rfl (aH c)
      |cons y l =>show FV i (.vec (U i s).ep c.n (l.length+1) (Ai c.cA (y :: l))) (.vec i (U i s).ep 0 (l.length+1)) (.slc c.n (l.length+1) (Ai c.cA (y :: l)));exact .vec _ _ (l.length+1) (Ai c.cA (y :: l)) 0 (l.length+1) _ rfl (by omega) fun k _=>by rw[Bq]
    |gone=>exact same
    |box cs=>exact same
    |vec c l=>exact same
    |map k v l=>exact same
 |s v=>exact same
 |eptr i s j off c x=>exact same
 |vs i s lo hi=>exact same
 |mp i s=>exact same
theorem wzrd{id st:Nat}{o:TO}{w:Bool}{x:TV}:gdT w (match x with | .v x=>.v (frzP id st o x) | y=>y)=gdT w x:=by
 cases x with
 |cnd a b c y=>rfl
 |v x =>
  cases x with
  |ptr i s off=>show gdT w (.v (Ac (Nat.beq i id) (Ac (Nat.beq s st) _ _) _))=_;cases Nat.beq i id<;>cases Nat.beq s st<;>cases o<;>rfl
  |vec i s=>show gdT w (.v (Ac (Nat.beq i id) (Ac (Nat.beq s st) _ _) _))=_;cases Nat.beq i id<;>cases Nat.beq s st<;>cases o<;>rfl
  |own i s=>show gdT w (.v (Ac (Nat.beq i id) (Ac (Nat.beq s st) _ _) _))=_;cases Nat.beq i id<;>cases Nat.beq s st<;>cases o<;>rfl
  |_=>rfl
theorem KO{id st:Nat}{o:TO}:∀{l:List (Nat×Nat×TO)} {i:Nat},Aw (frzH id st o l) i=(match Aw l i with | some (s,x)=>some (s,frzO id st o x) | none=>none)
 |[],i=>rfl
 |(j,s,x) :: l,i=>by
  show Aw ((j,s,frzO id st o x) :: frzH id st o l) i=_;rw[Cm,Cm];split
  ·rfl
  ·exact KO
theorem N5{id st i:Nat}:∀{l:List (Nat×Nat×TO)} {w:List Nat},i∉Es id st l w->i∉w/\∀s x,Aw l i=some (s,x)->KG id st x=false
 |[],w,h=>⟨h,fun s x hx=>by cases hx⟩
 |(j,s0,y) :: l,w,h=>by
  have h:i∉Ac (KG id st y) (j :: Es id st l w) (Es id st l w):=h;cases hr:KG id st y<;>rw[hr]at h
  ·obtain⟨h1,h2⟩:=N5 h;refine⟨h1,fun s x hx=>?_⟩;rw[Cm]at hx;split at hx
   ·cases hx;exact hr
   ·exact h2 s x hx
  ·have h:i∉j :: Es id st l w:=h;simp only[AY,DL]at h;obtain⟨h1,h2⟩:=N5 h.2;refine⟨h1,fun s x hx=>?_⟩;rw[Cm,Ag (fun e=>h.1 e.symm)]at hx;exact h2 s x hx
theorem wzo5{id st:Nat}{o x:TO}{U:Phi}{nx:Nat}(h:KG id st x=false)(hr:RfO U nx x):frzO id st o x=x:=by
 cases x with
 |_=>rfl
theorem RO{U':Phi}{id st nx e:Nat}{o x:TO}{G:HB}(aJ:Ext nx U U')(hr:RfO U nx x)(hk:OkO G x)(hO:OkO (U id st) o) :
  RfO U' (nx+1) (frzO id st o x)/\OkO G (frzO id st o x)/\((∃c,o=.own c [])->WO (eO U e x) (eO U' e (frzO id st o x)))/\((∀c,o≠.own c [])->OF id (eO U (U id st).ep o) (eO U e x) (eO U' e (frzO id st o x))):=by
 cases x with
 |gone=>exact⟨trivial,hk,fun _=>GA.2 trivial,fun _=>.inl rfl⟩
 |box cs=>exact⟨trivial,hk,fun _=>GA.2 trivial,fun _=>.inl rfl⟩
 |vec c l=>exact⟨trivial,hk,fun _=>GA.2 trivial,fun _=>.inl rfl⟩
 |own c l=>exact⟨trivial,hk,fun _=>GA.2 trivial,fun _=>.inl rfl⟩
 |map k v l=>exact⟨trivial,hk,fun _=>GA.2 trivial,fun _=>.inl rfl⟩
theorem wzqv(hI:InvT U T)(id:Nat):∃U',InvT U' (frz1 T id)/\Log U T U' (frz1 T id)/\(frz1 T id).gs=T.gs/\See TabT.E (em U T) (em U' (frz1 T id)):=by
 have none':frz1 T id=T->∃U',InvT U' (frz1 T id)/\Log U T U' (frz1 T id)/\(frz1 T id).gs=T.gs/\See TabT.E (em U T) (em U' (frz1 T id)):=fun e=>by rw[e];exact⟨U,hI,.refl _ _,rfl,.refl _⟩
 have main:∀st o,Aw T.h id=some (st,o)->o≠.gone->(∀k v l,o≠.map k v l)->frz1 T id=⟨frzT id st o T.t,(id,T.nx,.gone) :: frzH id st o T.h,T.nx+1,T.n,T.gs,frzW id st T.t T.w,id :: Es id st T.h T.wo,T.b,T.rf⟩->∃U',InvT U' (frz1 T id)/\Log U T U' (frz1 T id)/\(frz1 T id).gs=T.gs/\See TabT.E (em U T) (em U' (frz1 T id)):=by
  intro st o ho aH fm e;rw[e];obtain⟨aL,aB,_⟩:=hI.ob _ _ _ ho;have aJ:Ext T.nx U (upd U id T.nx ⟨(U id st).ep+1,0,fun _=>[]⟩):=RA
  have obs:∀i s x',Aw (frzH id st o T.h) i=some (s,x')->∃x,Aw T.h i=some (s,x)/\x'=frzO id st o x:=by
   intro i s x' h;rw[KO]at h;cases hx:Aw T.h i with
   |none=>rw[hx]at h;cases h
   |some q=>obtain⟨s1,x⟩:=q;rw[hx]at h;cases h;exact⟨x,rfl,rfl⟩
  have obn:∀i,Aw T.h i=none->Aw (frzH id st o T.h) i=none:=fun i h=>by rw[KO,h]
  have at_id:hO (upd U id T.nx ⟨(U id st).ep+1,0,fun _=>[]⟩) id (Aw ((id,T.nx,TO.gone) :: frzH id st o T.h) id)=.gone ((U id st).ep+1):=by rw[Cm,Aj rfl];show Ad.gone (upd U id T.nx _ id T.nx).ep=_;rw[yzj]
  have at_i:∀i,i≠id->(Aw T.h i=none/\hO (upd U id T.nx ⟨(U id st).ep+1,0,fun _=>[]⟩) i (Aw ((id,T.nx,TO.gone) :: frzH id st o T.h) i)=U.X i) \/ ∃s x,Aw T.h i=some (s,x)/\hO (upd U id T.nx ⟨(U id st).ep+1,0,fun _=>[]⟩) i (Aw ((id,T.nx,TO.gone) :: frzH id st o T.h) i)=eO (upd U id T.nx ⟨(U id st).ep+1,0,fun _=>[]⟩) (U i s).ep (frzO id st o x):=by
   intro i aH;rw[Cm,Ag (fun e=>aH e.symm)];cases hx:Aw T.h i with
   |none=>rw[obn i hx];exact .inl ⟨rfl,rfl⟩
   |some q =>obtain⟨s,x⟩:=q;refine .inr ⟨s,x,rfl,?_⟩;rw[KO,hx];show eO (upd U id T.nx ⟨(U id st).ep+1,0,fun _=>[]⟩) (upd U id T.nx _ i s).ep _=_;rw[aJ.s i s (hI.ob _ _ _ hx).1]
  have hid:=hI.fr.ro _ _ ho
  have fg:∀i p,Aw ((id,T.nx,TO.gone) :: frzH id st o T.h) i=some p->inR T.b i=true:=by
   intro i p e;rw[Cm]at e;by_cases h:id=i
   ·subst h;exact hid
   ·rw[Ag h]at e;obtain⟨s,x'⟩:=p;obtain⟨x,h1,_⟩:=obs i s x' e;exact hI.fr.ro _ _ h1
  have lV:Aw T.h 1899≠none->Aw ((id,T.nx,TO.gone) :: frzH id st o T.h) 1899≠none:=by
   intro e;rw[Cm];split
   ·intro e;cases e
   ·rw[KO];cases hx:Aw T.h 1899 with
    |none=>exact absurd hx e
    |some q=>intro e;cases e
  have lW:Fr (upd U id T.nx ⟨(U id st).ep+1,0,fun _=>[]⟩) ⟨frzT id st o T.t,(id,T.nx,.gone) :: frzH id st o T.h,T.nx+1,T.n,T.gs,frzW id st T.t T.w,id :: Es id st T.h T.wo,T.b,T.rf⟩:=hI.fr.of rfl rfl rfl rfl rfl fg;refine⟨upd U id T.nx ⟨(U id st).ep+1,0,fun _=>[]⟩,⟨fun i=>?_,fun i hi=>?_,fun i s o' dh=>?_,lW⟩,⟨rfl,H8 _,aJ,fun i hi=>?_,fun i hi=>?_,.same rfl rfl (fun h=>(N5 (fun e=>h (AQ _ e))).1) rfl rfl (fun e=>lV e)⟩,rfl,?_⟩
  ·show TOk _ _ (Ay (frzT id st o T.t) i);rw[FU];have hx:=hI.sl i;revert hx;cases Ay T.t i with
   |v x =>intro hx;obtain⟨k1,k2,k3,k4⟩:=RN (id:=id) (st:=st) (o:=o) aJ hx.1 aB;exact⟨k1,k2 hx.2⟩
   |cnd a b c y =>intro hx;obtain⟨q1,q2,q3,q4⟩:=hx;refine⟨FQ (H8 _) q1,fun e=>IY aJ q1 (q2 e),q3,?_⟩;show gdT b (Ay (frzT id st o T.t) a)=_;rw[FU,<-q4];exact wzrd
  ·show Ay (frzT id st o T.t) i=_;rw[FU,hI.hi i hi];rfl
  ·have dh:Aw ((id,T.nx,TO.gone) :: frzH id st o T.h) i=some (s,o'):=dh;rw[Cm]at dh;by_cases h:id=i
   ·rw[Aj h]at dh;cases dh;exact⟨CU _,trivial,trivial⟩
   ·rw[Ag h]at dh;obtain⟨x,h1,rfl⟩:=obs i s o' dh;obtain⟨q1,q2,q3⟩:=hI.ob _ _ _ h1;obtain⟨k1,k2,_,_⟩:=RO (id:=id) (st:=st) (o:=o) (e:=0) aJ q3 q2 aB;exact⟨Nat.lt_succ_of_lt q1,RG aJ q1 k2,k1⟩
  ·obtain⟨h1,h2⟩:=N4 (l:=T.t) (w:=T.w) hi;refine⟨h1,?_⟩;show eT _ (Ay (frzT id st o T.t) i)=_;rw[FU];have hx:=hI.sl i;revert hx h2;cases Ay T.t i with
   |v x =>intro h2 hx;show eP _ (frzP id st o x)=eP U x;rw[qz9p (h2 x rfl)];exact IX aJ hx.1
   |cnd a b c y=>intro _ hx;exact IZ aJ (x:=.cnd a b c y) hx.1
  ·have hi:i∉id :: Es id st T.h T.wo:=hi;simp only[AY,DL]at hi;obtain⟨h1,h2⟩:=N5 hi.2;refine⟨h1,fun _=>?_⟩;show hO _ i (Aw ((id,T.nx,TO.gone) :: frzH id st o T.h) i)=_;rcases at_i i hi.1 with ⟨k1,k2⟩|⟨s,x,k1,k2⟩
   ·rw[k2,k1];rfl
   ·obtain⟨_,_,q3⟩:=hI.ob _ _ _ k1;rw[k2,k1,wzo5 (h2 s x k1) q3];exact Ny aJ q3
  ·by_cases hc:∃c,o=.own c []
   ·have hg:(em U T).h id=.gone (U id st).ep:=by
     rw[em_h,ho];obtain⟨c,rfl⟩:=hc;rfl
    have ff:∀D∈U.ds,D.1≠id:=fun D hD e=>by have:=(hI.fr.dd D hD).2.1;have:=yzi hid;omega
    refine(See.bumpH (t:=tl (eTm U T.t) T.n) (ds:=U.ds) id (U id st).ep hg).trans (.pw (t:=tl (eTm U T.t) T.n) (t':=tl (eTm _ (frzT id st o T.t)) T.n) ?_ (fun i=>?_) fun D hD=>?_)
    ·refine .of (by rw[EJ,EJ]) fun i x y hx hy=>?_;rw[DW]at hx hy;split at hx
     ·rename_i hi;rw[Aj hi]at hy;cases hx;cases hy;rw[Lh,Lh,FU];have hx:=hI.sl i;revert hx;cases Ay T.t i with
      |v x=>intro hx;exact(RN (id:=id) (st:=st) (o:=o) aJ hx.1 aB).2.2.1 hc
      |cnd a b c y=>intro hx;rw[IZ aJ (x:=.cnd a b c y) hx.1];exact .refl _
     ·cases hx
    ·show WO (if i=id then .gone ((U id st).ep+1) else(em U T).h i) (hO _ i (Aw ((id,T.nx,TO.gone) :: frzH id st o T.h) i));by_cases h:i=id
     ·rw[Aj h,h,at_id];exact GA.2 trivial
     ·rw[Ag h,em_h];rcases at_i i h with ⟨k1,k2⟩|⟨s,x,k1,k2⟩
      ·rw[k1,k2];exact GA.2 trivial
      ·obtain⟨_,q2,q3⟩:=hI.ob _ _ _ k1;rw[k1,k2];exact(RO (id:=id) (st:=st) (o:=o) aJ q3 q2 aB).2.2.1 hc
    ·show hO _ D.1 (Aw ((id,T.nx,TO.gone) :: frzH id st o T.h) D.1)=_;rcases at_i D.1 (ff D hD) with ⟨k1,k2⟩|⟨s,x,k1,k2⟩
     ·rw[k2];exact(hI.fr.dd D hD).1
     ·have h1:=yzi (hI.fr.ro _ _ k1);have h2:=(hI.fr.dd D hD).2.1;omega
   ·have hc:∀c,o≠.own c []:=fun c e=>hc ⟨c,e⟩;refine See.freeze (id:=id) (o:=eO U (U id st).ep o) (Hm ho) ?_ ZT ?_ (fun j hj=>?_) ?_ rfl
    ·cases o with
     |gone=>exact absurd rfl aH
     |map k v l=>exact absurd rfl (fm k v l)
     |box cs=>rfl
     |vec c l=>rfl
     |own c l=>cases l with
      |nil=>exact absurd rfl (hc c)
      |cons y l=>rfl
    ·rw[em_h,Ni];exact at_id
    ·rw[em_h,em_h];rcases at_i j hj with ⟨k1,k2⟩|⟨s,x,k1,k2⟩
     ·refine .inl ?_;rw[k1];exact k2
     ·obtain⟨_,q2,q3⟩:=hI.ob _ _ _ k1;have:=(RO (id:=id) (st:=st) (o:=o) (e:=(U j s).ep) aJ q3 q2 aB).2.2.2 hc;rw[<-k2]at this;rw[k1];exact this
    ·refine FVl.map (l:=List.range T.n) fun i _=>?_;show FV id _ (look (eTm U T.t) i) (look (eTm _ (frzT id st o T.t)) i);rw[Lh,Lh,FU];have hx:=hI.sl i;revert hx;cases Ay T.t i with
     |v x=>intro hx;exact(RN (id:=id) (st:=st) (o:=o) aJ hx.1 aB).2.2.2 hc
     |cnd a b c y=>intro hx;rw[IZ aJ (x:=.cnd a b c y) hx.1];exact .refl _
 cases ho:Aw T.h id with
 |none=>exact none' (by unfold frz1;rw[ho])
 |some p =>
  obtain⟨st,o⟩:=p;cases o with
  |gone=>exact none' (by unfold frz1;rw[ho])
  |map k v l=>exact none' (by unfold frz1;rw[ho])
  |box cs=>exact main st _ ho (by intro e;cases e) (by intro k v l e;cases e) (by unfold frz1;rw[ho])
  |vec c l=>exact main st _ ho (by intro e;cases e) (by intro k v l e;cases e) (by unfold frz1;rw[ho])
  |own c l=>exact main st _ ho (by intro e;cases e) (by intro k v l e;cases e) (by unfold frz1;rw[ho])
theorem KP:∀(l:List Nat) {U:Phi} {T:Av},InvT U T->∃U',InvT U' (frzA T l)/\Log U T U' (frzA T l)/\(frzA T l).gs=T.gs/\See TabT.E (em U T) (em U' (frzA T l))
 |[],U,T,hI=>⟨U,hI,.refl _ _,rfl,.refl _⟩
 |id :: l,U,T,hI=>by obtain⟨U1,h1,h2,h3,h4⟩:=wzqv hI id;obtain⟨U2,k1,k2,k3,k4⟩:=KP l h1;exact⟨U2,k1,h2.trans k2,k3.trans h3,h4.trans k4⟩
def CW(T:Av):Prop:=∀i a b c x,Ay T.t i=.cnd a b c x->i∈T.w
theorem wzsh{x:PV}{g:Bool}{y:Aa}:eP U x≠.cnd g y:=by
 cases x with
 |s v=>cases v with
  |_=>intro h;cases h
 |own id st =>show(match (U id st).n with | 0=>Aa.nils | n+1=>.vec id (U id st).ep 0 (n+1))≠_;cases (U id st).n<;>(intro h;cases h)
 |_=>intro h;cases h
theorem CW.log{U':Phi}{T':Av}(h:CW T)(L:Log U T U' T'):CW T':=by
 intro i a b c x hx;apply Classical.byContradiction;intro hi;obtain⟨h1,h2⟩:=L.sl i hi;rw[hx]at h2;cases hy:Ay T.t i with
 |v y=>rw[hy]at h2;exact wzsh h2.symm
 |cnd a b c y=>exact h1 (h i _ _ _ _ hy)
theorem CW.of(hI:InvT U T)(hg:T.gs=[]):CW T:=by intro i a b c x hx;have:=hI.sl i;rw[hx]at this;obtain⟨_,_,h,_⟩:=this;rw[hg]at h;cases h
theorem Jc:∀{l:List (Nat×TV)} {i:Nat},Ay (Do l) i=(match Ay l i with | .v x=>.v x | _=>.v (.s .top))
 |[],i=>rfl
 |(j,.v x) :: l,i=>by
  show Ay ((j,.v x) :: Do l) i=_;rw[Bt,Bt];split
  ·rfl
  ·exact Jc
 |(j,.cnd a b c x) :: l,i=>by
  show Ay ((j,.v (.s .top)) :: Do l) i=_;rw[Bt,Bt];split
  ·rfl
  ·exact Jc
theorem qzy9(hI:InvT U T)(hC:CW T):InvT U (endT T)/\Log U T U (endT T)/\(endT T).gs=[]/\See TabT.E (em U T) (em U (endT T)):=by
 cases hg:T.gs with
 |nil =>
  have e:endT T=T:=by unfold endT;rw[hg]
  rw[e];exact⟨hI,.refl _ _,hg,.refl _⟩
 |cons a l =>
  have e:endT T=⟨Do T.t,T.h,T.nx,T.n,[],T.w,T.wo,T.b,T.rf⟩:=by unfold endT;rw[hg]
  rw[e]
  have fu:InvT U ⟨Do T.t,T.h,T.nx,T.n,[],T.w,T.wo,T.b,T.rf⟩:=by
   refine⟨fun i=>?_,fun i hi=>?_,hI.ob,hI.fr.ofh rfl rfl rfl rfl rfl rfl⟩
   ·show TOk _ _ (Ay (Do T.t) i);rw[Jc];have hx:=hI.sl i;revert hx;cases Ay T.t i with
    |v x=>exact fun hx=>hx
    |cnd a b c y=>exact fun _=>⟨trivial,trivial⟩
   ·show Ay (Do T.t) i=_;rw[Jc,hI.hi i hi]
  refine⟨fu,⟨rfl,A8 _,.refl _ _,fun i hi=>⟨hi,?_⟩,fun i hi=>⟨hi,fun _=>rfl⟩,.same rfl rfl id rfl rfl id⟩,rfl,wzbg fu rfl rfl (fun i=>?_) fun i=>GA.2 trivial⟩
  ·show eT U (Ay (Do T.t) i)=_;rw[Jc];cases hx:Ay T.t i with
   |v x=>rfl
   |cnd a b c y=>exact absurd (hC i _ _ _ _ hx) hi
  ·show W _ (eT U (Ay (Do T.t) i));rw[Jc];cases Ay T.t i with
   |v x=>exact .refl _
   |cnd a b c y=>exact .top _
theorem wzpi[TabOk]{α:Type}{H:List Fe}{o:Ak}{f:FuncId}{x:Ae}{l:List Ae}{K:Av->Option α}{r:α}(hI:InvT U T)(hC:CW T)(hg:o.guard=none)(aT:o.op=.callf f (x :: l))(h:inwT H T o.dst f x l K=some r) :
  aop TabT.E TabT.P o (em U T) fun S'=>∃U' T',K T'=some r/\InvT U' T'/\Log U T U' T'/\CW T'/\S'=em U' T':=by
 unfold inwT at h;split at h
 ·rename_i C id st vs h1 h2 h3;split at h
  ·rename_i st' c m y h4 h5;split at h
   ·rename_i m1 h6;obtain⟨hd,h⟩:=AG h;obtain⟨p1,h⟩:=AG h;obtain⟨m2,hF,hK⟩:=N3 h;obtain rfl:=AL.1 p1;have hA:=FT hI;obtain⟨g1,g2,g3,g4⟩:=EY h6;subst g4
    have e1:m1=m:=by
     unfold BA at h6;split at h6
     ·cases h6;rfl
     ·cases h6
    subst e1;obtain⟨o1,o2,o3⟩:=hA.own h4;have hv:Ah TabT.E (em U T).t x=ownV id (U id st).ep m1:=by rw[(hA.a _ _ h2).1];show(match (U id st).n with | 0=>Aa.nils | n+1=>.vec id (U id st).ep 0 (n+1))=_;rw[o2];cases m1<;>rfl
    unfold aop;simp only[hg,aT];rw[NW,hv,Hq hA h3,<-MZ h1];refine(ATr.w (args:=ownV id (U id st).ep m1 :: Ax vs) (C.ok.ok m1 y m2 _ id _ hF o1) ⟨.refl _,KC h5⟩).mono ?_;rintro v h' ⟨rfl,rfl,hl⟩;have aQ:=hI.fr.ro _ _ h4;obtain⟨i1,l1,em1⟩:=RL hI (id:=id) (ob:=.own C.c m2) (re:=true) (G:=⟨(U id st).ep,m2.length,Ai C.c.cA m2⟩) aQ ⟨rfl,rfl⟩ trivial (fun _=>⟨st,_,h4,rfl,by rw[o2,hl]⟩);refine⟨fun D hD=>?_,?_⟩
    ·have aH:D.1≠id:=fun e=>by
      have k1:=(hI.fr.dd D hD).2.1;have k2:=yzi aQ;omega
     show(if D.1=id then _ else(em U T).h D.1)=_;rw[Ag aH];exact Nk hI D hD
    ·have iI:Er (putO T id (.own C.c m2) true) o.dst=true:=hd;refine⟨_,_,hK,Ff i1 iI ⟨trivial,trivial⟩,l1.trans N2,(hC.log l1).log (N2 (U:=upd U id T.nx ⟨(U id st).ep,m2.length,Ai C.c.cA m2⟩)),?_⟩;rw[Hr,em1];rfl
   ·cases h
  ·cases h
 ·cases h
theorem wzoi[TabOk]{c:CT}{s:Nat}{x:Ae}{m:List c.T}(hI:InvT U T)(h:srcT T c s x=some m):∃X,W (Ah TabT.E (em U T).t x) X/\ZN c m X (em U T).h s:=by
 have hA:=FT hI;unfold srcT at h;split at h
 ·rename_i v h1;exact⟨_,by rw[(hA.a _ _ h1).1];exact(MW h).1,.inl rfl⟩
 ·rename_i id st h1;split at h
  ·rename_i st' c' m' ho;obtain⟨p1,k⟩:=AG h;clear h;obtain rfl:=AL.1 p1
   have aH:id≠s:=by
    cases hb:Nat.beq id s
    ·exact Ep.1 hb
    ·rw[hb]at k;cases k
   have h:BA c' c m'=some m:=by
    cases hb:Nat.beq id s
    ·rw[hb]at k;exact k
    ·rw[hb]at k;cases k
   obtain⟨g1,g2,g3,g4⟩:=EY h;subst g4
   have e1:m=m':=by
    unfold BA at h;split at h
    ·cases h;rfl
    ·cases h
   subst e1;obtain⟨o1,o2,o3⟩:=hA.own ho;have hv:Ah TabT.E (em U T).t x=ownV id (U id st).ep m:=by rw[(hA.a _ _ h1).1];show(match (U id st).n with | 0=>Aa.nils | n+1=>.vec id (U id st).ep 0 (n+1))=_;rw[o2];cases m<;>rfl
   rw[hv];cases m with
   |nil=>exact⟨_,.nil _ _,.inl rfl⟩
   |cons y m=>exact⟨_,.refl _,.inr ⟨id,_,0,y :: m,aH,rfl,o1,by omega,fun k _=>by rw[Bq]⟩⟩
  ·cases h
 ·rename_i id st h1;split at h
  ·rename_i st' c' m' ho;obtain⟨p1,k⟩:=AG h;clear h;obtain rfl:=AL.1 p1
   have aH:id≠s:=by
    cases hb:Nat.beq id s
    ·exact Ep.1 hb
    ·rw[hb]at k;cases k
   have h:BA c' c m'=some m:=by
    cases hb:Nat.beq id s
    ·rw[hb]at k;exact k
    ·rw[hb]at k;cases k
   obtain⟨g1,g2,g3,g4⟩:=EY h;subst g4
   have e1:m=m':=by
    unfold BA at h;split at h
    ·cases h;rfl
    ·cases h
   subst e1;have o1:=Hm (U:=U) ho;have o2:(U id st).n=m.length:=(hI.ob _ _ _ ho).2.1.1;refine⟨_,.refl _,.inr ⟨id,(U id st).ep,0,m,aH,?_,o1,by omega,fun k _=>by rw[Bq]⟩⟩;rw[(hA.a _ _ h1).1];show Aa.vec id (U id st).ep 0 (U id st).n=_;rw[o2]
  ·cases h
 ·rename_i id st lo hi h1;split at h
  ·rename_i st' c' m' ho;obtain⟨p1,k⟩:=AG h;clear h;obtain rfl:=AL.1 p1
   have aH:id≠s:=by
    cases hb:Nat.beq id s
    ·exact Ep.1 hb
    ·rw[hb]at k;cases k
   have h:(match BA c' c m' with
    |some m=>some (sub m lo hi)
    | none=>none)=some m:=by
    cases hb:Nat.beq id s
    ·rw[hb]at k;exact k
    ·rw[hb]at k;cases k
   split at h
   ·rename_i m1 hm;cases h;have h:=hm;obtain⟨g1,g2,g3,g4⟩:=EY h;subst g4
    have e1:m1=m':=by
     unfold BA at h;split at h
     ·cases h;rfl
     ·cases h
    subst e1;have o1:=Hm (U:=U) ho;have o2:(U id st).n=m1.length:=(hI.ob _ _ _ ho).2.1.1;obtain⟨q1,q2,q3⟩:0<=lo/\lo<=hi/\hi<=(U id st).n:=(hA.a _ _ h1).2.2 trivial;have hs:C3 m1 lo hi=true:=by simp[C3];omega
    have hl:=wza2 hs;refine⟨_,.refl _,.inr ⟨id,(U id st).ep,lo.toNat,m1,aH,?_,o1,by rw[hl];omega,fun k hk=>?_⟩⟩
    ·rw[(hA.a _ _ h1).1,hl];rfl
    ·rw[hl]at hk;unfold Ai sub;rw[List.getElem?_take_of_lt hk,Gf]
   ·cases h
  ·cases h
 ·cases h
theorem wzrv[TabOk]{α:Type}{H:List Fe}{o:Ak}{f:FuncId}{x:Ae}{l:List Ae}{K:Av->Option α}{r:α}(hI:InvT U T)(hC:CW T)(hg:o.guard=none)(aT:o.op=.callf f (x :: l))(h:clnT H T o.dst f x l K=some r) :
  aop TabT.E TabT.P o (em U T) fun S'=>∃U' T',K T'=some r/\InvT U' T'/\Log U T U' T'/\CW T'/\S'=em U' T':=by
 unfold clnT at h;split at h
 ·rename_i C d h1 bN;split at h
  ·rename_i m vs h2 h3;split at h
   ·rename_i y h4;obtain⟨hd,h⟩:=AG h;obtain⟨aQ,h⟩:=AG h;obtain⟨m2,hF,hK⟩:=N3 h;have hA:=FT hI;obtain⟨X,hX,bX⟩:=wzoi hI h2;unfold aop;simp only[hg,aT];rw[NW,Hq hA h3,<-Na h1];generalize hs:clS T.b d=s at *;refine(ATr.w (args:=Ah TabT.E (em U T).t x :: Ax vs) (C.ok.ok m y m2 X _ s hF (Nj hI s aQ) bX) ⟨hX,KC h4⟩).mono ?_;rintro v h' ⟨ep,rfl,hl,rfl⟩;obtain⟨i1,l1,em1⟩:=RL hI (id:=s) (ob:=.vec C.c m2) (re:=false) (G:=⟨ep,m2.length,Ai C.c.cA m2⟩) aQ ⟨rfl,rfl⟩ trivial (fun e=>by cases e);refine⟨fun D hD=>?_,?_⟩
    ·have aH:D.1≠s:=fun e=>by
      have k1:=(hI.fr.dd D hD).2.1;have k2:=yzi aQ;omega
     show(if D.1=s then _ else(em U T).h D.1)=_;rw[Ag aH];exact Nk hI D hD
    ·have iI:Er (putO T s (.vec C.c m2) false) (some d)=true:=hd;refine⟨_,_,hK,Ff i1 iI ⟨CU _,trivial⟩,l1.trans N2,(hC.log l1).log (N2 (U:=upd U s T.nx ⟨ep,m2.length,Ai C.c.cA m2⟩)),?_⟩;rw[Hr,em1,bN];have e1:eT (upd U s T.nx ⟨ep,m2.length,Ai C.c.cA m2⟩) (.v (.vec s T.nx))=.vec s ep 0 m2.length:=by show Aa.vec s (upd U s T.nx ⟨ep,m2.length,Ai C.c.cA m2⟩ s T.nx).ep 0 (upd U s T.nx ⟨ep,m2.length,Ai C.c.cA m2⟩ s T.nx).n=_;rw[yzj]
     rw[e1];rfl
   ·cases h
  ·cases h
 ·cases h
theorem wzrk[TabOk]{α:Type}{H:List Fe}{o:Ak}{K:Av->Option α}{r:α}(hI:InvT U T)(hC:CW T)(hg:o.guard=none)(h:inpT H T o K=some r) :
  aop TabT.E TabT.P o (em U T) fun S'=>∃U' T',K T'=some r/\InvT U' T'/\Log U T U' T'/\CW T'/\S'=em U' T':=by
 unfold inpT at h;split at h
 ·rename_i f x l aT;split at h
  ·exact wzrv hI hC hg aT h
  ·exact wzpi hI hC hg aT h
 ·cases h
theorem wzwk{H:List Fe}{o:Ak}(h:isW H o=true):o.guard=none:=by
 unfold isW at h;split at h
 ·assumption
 ·cases h
theorem RP[TabOk]{α:Type}{H:List Fe}{ty:List (Nat×CT)}:∀{ops:List Ak} {U:Phi} {T:Av} {K:Av->Option α} {r:α},regT H ty ops T K=some r->InvT U T->CW T ->
  aseq TabT.E TabT.P ops (em U T) fun S'=>∃U' T',K T'=some r/\InvT U' T'/\Log U T U' T'/\T'.gs=[]/\See TabT.E S' (em U' T')
 |[],U,T,K,r,h,hI,hC=>by obtain⟨h1,h2,h3,h4⟩:=qzy9 hI hC;exact⟨_,.refl _,U,endT T,h,h1,h2,h3,h4⟩
 |o :: ops,U,T,K,r,h,hI,hC=>by
  have h:(fun T=>Ac (isW H o) (inpT H T o fun T'=>regT H ty ops T' K) (Fa H ty T o fun T' _ _=>regT H ty ops T' K)) (frzA T (Nh H T o))=some r:=h;obtain⟨U1,i1,l1,g1,s1⟩:=KP (Nh H T o) hI;have mK:=hC.log l1;refine⟨_,s1,?_⟩;generalize frzA T (Nh H T o)=T1 at *;have h:Ac (isW H o) (inpT H T1 o fun T'=>regT H ty ops T' K) (Fa H ty T1 o fun T' _ _=>regT H ty ops T' K)=some r:=h;have rest:∀{S':As},(∃U2 T2,regT H ty ops T2 K=some r/\InvT U2 T2/\Log U1 T1 U2 T2/\CW T2/\S'=em U2 T2)->aseq TabT.E TabT.P ops S' fun S'=>∃U' T',K T'=some r/\InvT U' T'/\Log U T U' T'/\T'.gs=[]/\See TabT.E S' (em U' T'):=by rintro S' ⟨U2,T2,hk,i2,l2,c2,rfl⟩;refine(RP hk i2 c2).mono ?_;rintro S ⟨U',T',k1,k2,k3,k4,k5⟩;exact⟨U',T',k1,k2,(l1.trans l2).trans k3,k4,k5⟩
  cases hw:isW H o
  ·rw[hw]at h;replace h:Fa H ty T1 o (fun T' _ _=>regT H ty ops T' K)=some r:=h;obtain⟨U2,T2,rd,out,hk,hS⟩:=qz5m i1 h;obtain⟨v,ob,d1,d2,d3⟩:=hS.ex;have k5:=RP hk hS.inv (mK.log hS.log);refine(Ua (Nk i1) d1).mono ?_;rintro S' ⟨v',out',e1,e2,rfl⟩;rw[d3]at k5;refine .see (.veq (qzta e1).1 (qzta e1).2 e2.put) (k5.mono ?_);rintro S ⟨U',T',k1,k2,k3,k4,k5⟩;exact⟨U',T',k1,k2,(l1.trans hS.log).trans k3,k4,k5⟩
  ·rw[hw]at h;replace h:inpT H T1 o (fun T'=>regT H ty ops T' K)=some r:=h;exact(wzrk i1 mK (wzwk hw) h).mono fun S'=>rest
def qzq7{α:Type}(U:Phi)(T:Av)(o:Ak)(K:Av->List Nat->Option Nat->Option α)(r:α):Prop := ∃U' T' rd out,K T' rd out=some r/\InvT U' T'/\Log U T U' T'/\GK T T'/\∃v ob,B5 TabT.E TabT.P o (em U T) v rd ob/\out=ob.map (·.1)/\em U' T'=⟨putT (em U T).t o.dst v,putH (em U T).h ob,U.ds⟩
theorem qztd[TabOk]{α:Type}{H:List Fe}{ty:List (Nat×CT)}{o:Ak}{K:Av->List Nat->Option Nat->Option α}{r:α}(hI:InvT U T)(h:Fa H ty T o K=some r):qzq7 U T o K r:=by obtain⟨U',T',rd,out,k,S⟩:=qz5m hI h;obtain⟨v,ob,d1,d2,d3⟩:=S.ex;exact⟨U',T',rd,out,k,S.inv,S.log,S.gk,v,ob,.inl d1,d2,d3⟩
theorem qzvq[TabOk]{α:Type}{H:List Fe}{ty:List (Nat×CT)}:∀{ops:List Ak} {U:Phi} {T:Av} {K:Av->List (List Nat×Option Nat)->Option α} {r:α},KH H ty ops T K=some r->InvT U T -> ∃U' T' tr,K T' tr=some r/\InvT U' T'/\Log U T U' T'/\∀K':As->List (List Nat×Option Nat)->Prop,K' (em U' T') tr->G7 TabT.E TabT.P ops (em U T) K'
 |[],U,T,K,r,h,hI=>⟨U,T,[],h,hI,.refl _ _,fun K' k=>k⟩
 |o :: ops,U,T,K,r,h,hI=>by obtain⟨U2,T2,rd,out,hK,s1,s2,g2,v,ob,d1,d2,d3⟩:=qztd hI (show Fa H ty T o (fun T' rd out=>KH H ty ops T' fun T'' tr=>K T'' ((rd,out) :: tr))=some r from h);obtain⟨U3,T3,tr,k1,k2,k3,k4⟩:=qzvq hK s1;refine⟨U3,T3,(rd,out) :: tr,k1,k2,s2.trans k3,fun K' kk=>⟨v,rd,ob,d1,?_⟩⟩;have:=k4 (fun S' tr=>K' S' ((rd,ob.map (·.1)) :: tr)) (by rw[<-d2];exact kk);rw[d3]at this;exact this
end
end
theorem CR{Y:Type}{p:Nat×Y}{l:List (Nat×Y)}{i:Nat}:hasK i (p :: l)=if p.1=i then true else hasK i l:=by
 show Ac (Nat.beq p.1 i) _ _=_;cases h:Nat.beq p.1 i
 ·rw[Ag (Ep.1 h)];rfl
 ·rw[Aj (AL.1 h)];rfl
theorem N6{i:Nat}{l:List Nat}(h:memN i l=false):i∉l:=fun e=>by rw[Hl.2 e]at h;cases h
theorem KQ{c x:Bool}(h:Ac c false x=true):c=false/\x=true:=by cases c<;>first|exact⟨rfl,h⟩|cases h
theorem BH{c x:Bool}(h:Ac c x false=true):c=true/\x=true:=by cases c<;>first|exact⟨rfl,h⟩|cases h
theorem RQ{b i:Nat}:∀{ob:List (Nat×OH)},obR b ob=true->hasK i ob=true->inR b i=true
 |[],_,h=>by cases h
 |p :: l,h,k=>by
  have h:Ac (inR b p.1) (obR b l) false=true:=h;obtain⟨h1,h2⟩:=BH h;rw[CR]at k;by_cases e:p.1=i
  ·rw[<-e];exact h1
  ·rw[Ag e]at k;exact RQ h2 k
theorem wzgz{n i:Nat}(hn:n<=i):∀{sl:List (Nat×SH)},ltK n sl=true->hasK i sl=false
 |[],_=>rfl
 |p :: l,h=>by
  have h:Ac (Nat.blt p.1 n) (ltK n l) false=true:=h;obtain⟨h1,h2⟩:=BH h;have h1:p.1<n:=by simpa [Gt] using h1
  rw[CR,Ag (by omega)];exact wzgz hn h2
section
variable [Tab]
def Rv(x y:SV):Prop:=W (A0 x) (A0 y)/\(∀c m,x=.slc c m->y=x)/\∀k v m,x=.mpv k v m->y=x
def Rvs:List SV->List SV->Prop
 |[],[]=>True
 |x :: l,y :: m=>Rv x y/\Rvs l m
 |_,_=>False
theorem Rvs.split:∀{a b v:List SV},Rvs (a++b) v->∃a' b',v=a'++b'/\Rvs a a'/\Rvs b b'/\a'.length=a.length
 |[],b,v,h=>⟨[],v,rfl,trivial,h,rfl⟩
 |x :: a,b,[],h=>h.elim
 |x :: a,b,y :: v,h=>by obtain⟨a',b',e,h1,h2,h3⟩:=Rvs.split (a:=a) h.2;exact⟨y :: a',b',by rw[e];rfl,⟨h.1,h1⟩,h2,by simp[h3]⟩
theorem wzc9[TabOk]{c:CT}{v:SV}{x:c.T}(h:ofW c v=some x):Rv v (wT c x):=by
 refine⟨Dn h,fun c' m e=>?_,fun k' v' m e=>?_⟩
 ·subst e;cases c with
  |us i=>have h:(none:Option (TabT.T i))=some x:=h;cases h
  |int k=>have h:(none:Option Int)=some x:=h;cases h
  |bool=>have h:(none:Option Bool)=some x:=h;cases h
  |str=>have h:(none:Option (List UInt8))=some x:=h;cases h
  |fn i=>have h:(none:Option (FnV i))=some x:=h;cases h
  |mp k v=>have h:(none:Option (List (k.T×v.T)))=some x:=h;cases h
  |slc c =>
   have h:BA c' c m=some x:=h;unfold BA at h;split at h
   ·rename_i e _;subst e;cases h;rfl
   ·cases h
 ·subst e;cases c with
  |us i=>have h:(none:Option (TabT.T i))=some x:=h;cases h
  |int k=>have h:(none:Option Int)=some x:=h;cases h
  |bool=>have h:(none:Option Bool)=some x:=h;cases h
  |str=>have h:(none:Option (List UInt8))=some x:=h;cases h
  |fn i=>have h:(none:Option (FnV i))=some x:=h;cases h
  |slc c=>have h:(none:Option (List c.T))=some x:=h;cases h
  |mp k v =>
   have h:QP k' v' k v m=some x:=h;unfold QP at h;split at h
   ·rename_i e1 e2 _ _;subst e1;subst e2;cases h;rfl
   ·cases h
theorem qzyd[TabOk]:∀(c:CT) (l:List CT) (v:List SV) (r:RowC c.T l),IH c l v=some r->Rvs v (Hc c l r)
 |c,[],v,r,h=>by obtain⟨u,rfl,h⟩:=DG (f:=ofW c) h;exact⟨wzc9 h,trivial⟩
 |c,d :: l,v,r,h=>by obtain⟨y,q,rfl,h1,h2⟩:=IN (f:=ofW c) (g:=IH d l) h;exact⟨wzc9 h1,qzyd d l q r.2 h2⟩
theorem wzhu[TabOk]{l:List CT}{v:List SV}{r:Row l}(h:MP l v=some r):Rvs v (rowW l r):=by
 cases l with
 |nil=>rw[IP h];exact trivial
 |cons c l=>exact qzyd c l v r h
theorem qzw1{v:SV}{l:List SV}(h:v.cells=some l):v=.agg l\/(l=[v]/\(A0 v).one=true):=by
 cases v with
 |agg m=>cases h;exact .inl rfl
 |tup m=>cases h
 |top=>cases h
 |mpv k v l=>cases h
 |_=>cases h;exact .inr ⟨rfl,rfl⟩
theorem wzc6{x y:SV}{l m:List SV}(h:W (A0 x) (A0 y))(hx:x.cells=some l)(hy:y.cells=some m):Ws (Ax l) (Ax m):=by
 rcases qzw1 hx with rfl|⟨rfl,h1⟩<;>rcases qzw1 hy with rfl|⟨rfl,h2⟩
 ·exact OJ.1 h
 ·exfalso;have h:W (.agg (Ax l)) (A0 y):=h;revert h h2;generalize A0 y=b;intro h2 h;cases h<;>cases h2
 ·exfalso;have h:W (A0 x) (.agg (Ax m)):=h;revert h h1;generalize A0 x=a;intro h1 h;cases h<;>cases h1
 ·exact⟨h,trivial⟩
theorem qz6n(c:CT)(x:c.T)(h:∀k v,c≠.mp k v):(wT c x).cells=some (Dm c x):=by
 cases c with
 |mp k v=>exact absurd rfl (h k v)
 |_=>rfl
theorem wzpq{v:SV}{a:Aa}(h:eqA1 v a=true):A0 v=a:=by
  cases v<;>cases a<;>simp only[eqA1]at h<;>first
    |(cases h;done)
    |rfl
    | (rename_i k n k' m
       by_cases e:k=k'
       · rw[Aj e]at h;subst e;rw[BK h];rfl
       · rw[Ag e]at h;cases h)
    |(rename_i a b;rw[qzp4.1 h];rfl)
    |(rename_i a b;rw[BK h];rfl)
section
variable {U0 U1:Phi}{T0 T1:Av}{ob:List (Nat×OH)}
inductive Sl1(T0 T1:Av)(ob:List (Nat×OH))(i:Nat):TV->Prop where
 |k (h:i∉T1.w) (k:kpP T0 T1 (Ay T0.t i)=true):Sl1 T0 T1 ob i (Ay T0.t i)
 |v (x0 x:SV) (h:Ay T1.t i=.v (.s x0)) (w:W (A0 x0) (A0 x)):Sl1 T0 T1 ob i (.v (.s x))
 |own (id st:Nat) (h:Ay T1.t i=.v (.own id st)) (k:curW T1 id st=true) (o:DH id ob=true):Sl1 T0 T1 ob i (.v (.own id T0.nx))
 |own0 (id:Nat) (h:Ay T1.t i=.v (.s .nil)) (k:∀st o,Aw T1.h id=some (st,o)->o=.gone) (o:DH id ob=true):Sl1 T0 T1 ob i (.v (.own id T0.nx))
 |vec (id st:Nat) (h:Ay T1.t i=.v (.vec id st)) (k:curO T1 id st=true) (o:IW id ob=true):Sl1 T0 T1 ob i (.v (.vec id T0.nx))
 |ptr (id st off:Nat) (h:Ay T1.t i=.v (.ptr id st off)) (k:curO T1 id st=true):Sl1 T0 T1 ob i (.v (.ptr id T0.nx off))
 |mp (id st:Nat) (h:Ay T1.t i=.v (.mp id st)) (k:curO T1 id st=true):Sl1 T0 T1 ob i (.v (.mp id T0.nx))
theorem Eu{i j:Nat}{s:SH}{sl:List (Nat×SH)}{y:TV}{L:List (Nat×TV)}(h1:j=i->Sl1 T0 T1 ob i y)(h2:(hasK i sl=false/\Ay L i=.v (.s .top))\/Sl1 T0 T1 ob i (Ay L i)) : (hasK i ((j,s) :: sl)=false/\Ay ((j,y) :: L) i=.v (.s .top))\/Sl1 T0 T1 ob i (Ay ((j,y) :: L) i):=by
 rw[CR,Bt];by_cases h:j=i
 ·rw[Aj h,Aj h];exact .inr (h1 h)
 ·rw[Ag h,Ag h];exact h2
theorem Ev{i:Nat}{rest:List SV}:∀{sl:List (Nat×SH)} {a a':List SV},svS T1 sl=some a->chS T0 T1 ob sl=true->Rvs a a' -> (hasK i sl=false/\Ay (rbS T0 sl (a'++rest)) i=.v (.s .top))\/Sl1 T0 T1 ob i (Ay (rbS T0 sl (a'++rest)) i)
 |[],a,a',_,_,_=>.inl ⟨rfl,rfl⟩
 |(j,.k) :: sl,a,a',h1,h2,h3=>by have h2:Ac (memN j T1.w) false (Ac (kpP T0 T1 (Ay T0.t j)) (chS T0 T1 ob sl) false)=true:=h2;obtain⟨p1,h2⟩:=KQ h2;obtain⟨p2,h2⟩:=BH h2;exact Eu (s:=.k) (fun e=>by subst e;exact .k (N6 p1) p2) (Ev (sl:=sl) h1 h2 h3)
 |(j,.v c) :: sl,a,a',h1,h2,h3=>by
  simp only[svS]at h1;split at h1
  ·rename_i v r q1 q2;cases h1;cases a' with
   |nil=>exact h3.elim
   |cons y a'=>exact Eu (s:=.v c) (fun e=>by subst e;exact .v v y q1 h3.1.1) (Ev (sl:=sl) q2 h2 h3.2)
  ·cases h1
 |(j,.c b) :: sl,a,a',h1,h2,h3=>by
  simp only[chS]at h2;split at h2
  ·rename_i v q1;obtain⟨p1,h2⟩:=BH h2;have p1:=wzpq p1;have ih:=Ev (i:=i) (rest:=rest) (sl:=sl) h1 h2 h3;show(_/\Ay ((match ofA1 b with | some x=>(j,.v (.s x)) | none=>(j,.v (.s .top))) :: rbS T0 sl (a'++rest)) i=_)\/Sl1 T0 T1 ob i (Ay ((match ofA1 b with | some x=>(j,.v (.s x)) | none=>(j,.v (.s .top))) :: rbS T0 sl (a'++rest)) i);cases hb:ofA1 b with
   |none=>exact Eu (s:=.c b) (fun e=>by subst e;exact .v v .top q1 (.top _)) ih
   |some x=>exact Eu (s:=.c b) (fun e=>by subst e;exact .v v x q1 (by rw[p1,Nm hb];exact .refl _)) ih
  ·cases h2
 |(j,.own id) :: sl,a,a',h1,h2,h3=>by
  simp only[chS]at h2;split at h2
  ·rename_i id' st q1;obtain⟨p1,h2⟩:=BH h2;obtain⟨p2,h2⟩:=BH h2;obtain⟨p3,h2⟩:=BH h2;have p2:=AL.1 p2;exact Eu (s:=.own id) (fun e=>by subst e;exact .own id st (by rw[q1,p2]) p3 p1) (Ev (sl:=sl) h1 h2 h3)
  ·rename_i q1;split at h2
   ·rename_i st ho;obtain⟨p1,h2⟩:=BH h2;exact Eu (s:=.own id) (fun e=>by subst e;exact .own0 id q1 (fun st o e=>by rw[ho]at e;cases e;rfl) p1) (Ev (sl:=sl) h1 h2 h3)
   ·rename_i ho;obtain⟨p1,h2⟩:=BH h2;exact Eu (s:=.own id) (fun e=>by subst e;exact .own0 id q1 (fun st o e=>by rw[ho]at e;cases e) p1) (Ev (sl:=sl) h1 h2 h3)
   ·cases h2
  ·cases h2
 |(j,.vec id) :: sl,a,a',h1,h2,h3=>by
  simp only[chS]at h2;split at h2
  ·rename_i id' st q1;obtain⟨p1,h2⟩:=BH h2;obtain⟨p2,h2⟩:=BH h2;obtain⟨p3,h2⟩:=BH h2;have p2:=AL.1 p2;exact Eu (s:=.vec id) (fun e=>by subst e;exact .vec id st (by rw[q1,p2]) p3 p1) (Ev (sl:=sl) h1 h2 h3)
  ·cases h2
 |(j,.ptr id off) :: sl,a,a',h1,h2,h3=>by
  simp only[chS]at h2;split at h2
  ·rename_i id' st off' q1;obtain⟨p1,h2⟩:=BH h2;obtain⟨p2,h2⟩:=BH h2;obtain⟨p3,h2⟩:=BH h2;have p1:=AL.1 p1;have p2:=AL.1 p2;exact Eu (s:=.ptr id off) (fun e=>by subst e;exact .ptr id st off (by rw[q1,p1,p2]) p3) (Ev (sl:=sl) h1 h2 h3)
  ·cases h2
 |(j,.mp id) :: sl,a,a',h1,h2,h3=>by
  simp only[chS]at h2;split at h2
  ·rename_i id' st q1;obtain⟨p1,h2⟩:=BH h2;obtain⟨p3,h2⟩:=BH h2;have p1:=AL.1 p1;exact Eu (s:=.mp id) (fun e=>by subst e;exact .mp id st (by rw[q1,p1]) p3) (Ev (sl:=sl) h1 h2 h3)
  ·cases h2
inductive Ob1(T0 T1:Av)(oA:List (Nat×OH))(id:Nat):Option (Nat×TO)->Prop where
 |k0 (h:id∉T1.wo) (p:Nat×TO) (e:Aw T0.h id=some p):Ob1 T0 T1 oA id (some p)
 |k1 (h:id∉T1.wo) (e:Aw T0.h id=none):Ob1 T0 T1 oA id (some (T0.nx,.gone))
 |gone:Ob1 T0 T1 oA id (some (T0.nx,.gone))
 |box (st:Nat) (cs cs':List SV) (h:Aw T1.h id=some (st,.box cs)) (w:Ws (Ax cs) (Ax cs')):Ob1 T0 T1 oA id (some (T0.nx,.box cs'))
 |own (st:Nat) (c:CT) (m:List c.T) (h:Aw T1.h id=some (st,.own c m)):Ob1 T0 T1 oA id (some (T0.nx,.own c m))
 |own0 (c:CT) (h:∀st o,Aw T1.h id=some (st,o)->o=.gone):Ob1 T0 T1 oA id (some (T0.nx,.own c []))
 |map (st:Nat) (k v:CT) (m:List (k.T×v.T)) (h:Aw T1.h id=some (st,.map k v m)):Ob1 T0 T1 oA id (some (T0.nx,.map k v m))
 |vec (st:Nat) (c:CT) (m:List c.T) (h:Aw T1.h id=some (st,.vec c m)):Ob1 T0 T1 oA id (some (T0.nx,.vec c m))
theorem wzjn{i j:Nat}{s:OH}{oA ob:List (Nat×OH)}{y:Nat×TO}{L:List (Nat×Nat×TO)}(h1:j=i->Ob1 T0 T1 oA i (some y))(h2:(hasK i ob=false/\Aw L i=none)\/Ob1 T0 T1 oA i (Aw L i)) : (hasK i ((j,s) :: ob)=false/\Aw ((j,y) :: L) i=none)\/Ob1 T0 T1 oA i (Aw ((j,y) :: L) i):=by
 rw[CR,Cm];by_cases h:j=i
 ·rw[Aj h,Aj h];exact .inr (h1 h)
 ·rw[Ag h,Ag h];exact h2
theorem wzia[TabOk]{oA:List (Nat×OH)}{i:Nat}:∀{ob:List (Nat×OH)} {b b':List SV},svO T1 ob=some b->chO T0 T1 oA ob=true->Rvs b b' -> ((hasK i ob=false/\Aw (rbO T0 ob b') i=none)\/Ob1 T0 T1 oA i (Aw (rbO T0 ob b') i))/\(DH i ob=true->∃c m,Aw (rbO T0 ob b') i=some (T0.nx,.own c m))/\(IW i ob=true->∃c m,Aw (rbO T0 ob b') i=some (T0.nx,.vec c m))
 |[],b,b',_,_,_=>⟨.inl ⟨rfl,rfl⟩,(fun h=>by cases h),fun h=>by cases h⟩
 |(j,s) :: ob,b,b',h1,h2,h3=>by
  have key:∃y b2 b2',rbO T0 ((j,s) :: ob) b'=(j,y) :: rbO T0 ob b2'/\svO T1 ob=some b2/\Rvs b2 b2'/\chO T0 T1 oA ob=true/\(j=i->Ob1 T0 T1 oA i (some y))/\((∃c,s=.own c)->∃c m,y=(T0.nx,.own c m))/\((∃c,s=.vec c)->∃c m,y=(T0.nx,.vec c m)):=by
   cases s with
   |k =>
    have h2:Ac (memN j T1.wo) false (chO T0 T1 oA ob)=true:=h2;obtain⟨p1,h2⟩:=KQ h2;have e0:rbO T0 ((j,.k) :: ob) b'=(match Aw T0.h j with | some p=>(j,p) :: rbO T0 ob b' | none=>(j,T0.nx,.gone) :: rbO T0 ob b'):=rfl;cases ho:Aw T0.h j with
    |none =>rw[ho]at e0;exact⟨_,_,_,e0,h1,h3,h2,fun e=>(by subst e;exact .k1 (N6 p1) ho),fun⟨c,e⟩=>(by cases e),fun⟨c,e⟩=>(by cases e)⟩
    |some p =>rw[ho]at e0;exact⟨_,_,_,e0,h1,h3,h2,fun e=>(by subst e;exact .k0 (N6 p1) p ho),fun⟨c,e⟩=>(by cases e),fun⟨c,e⟩=>(by cases e)⟩
   |gone=>exact⟨_,_,_,rfl,h1,h3,h2,fun e=>.gone,fun⟨c,e⟩=>(by cases e),fun⟨c,e⟩=>(by cases e)⟩
   |box c =>
    simp only[svO]at h1;split at h1
    ·rename_i st cs r q1 q2;split at h1
     ·rename_i x q3;cases h1;cases b' with
      |nil=>exact h3.elim
      |cons y b' =>
       have e0:rbO T0 ((j,.box c) :: ob) (y :: b')=(match y.cells with | some cs=>(j,T0.nx,.box cs) | none=>(j,T0.nx,.gone)) :: rbO T0 ob b':=rfl;cases hy:y.cells with
       |none =>rw[hy]at e0;exact⟨_,_,_,e0,q2,h3.2,h2,fun e=>.gone,fun⟨c,e⟩=>(by cases e),fun⟨c,e⟩=>(by cases e)⟩
       |some cs' =>rw[hy]at e0;refine⟨_,_,_,e0,q2,h3.2,h2,fun e=>?_,fun⟨c,e⟩=>(by cases e),fun⟨c,e⟩=>(by cases e)⟩;subst e;refine .box st cs cs' q1 ((IR q3).1.trans ?_);rw[<-IQ];exact wzc6 h3.1.1 (qz6n c x (fun k v e=>by subst e;cases q3)) hy
     ·cases h1
    ·cases h1
   |own c =>
    simp only[svO]at h1;split at h1
    ·rename_i st c' m r q1 q2;cases h1;cases b' with
     |nil=>exact h3.elim
     |cons y b' =>have hy:=h3.1.2.1 c' m rfl;subst hy;exact⟨(T0.nx,.own c' m),_,_,rfl,q2,h3.2,h2,fun e=>(by subst e;exact .own st c' m q1),fun _=>⟨c',m,rfl⟩,fun⟨c,e⟩=>(by cases e)⟩
    ·rename_i st r q1 q2;cases h1;cases b' with
     |nil=>exact h3.elim
     |cons y b' =>have hy:=h3.1.2.1 c [] rfl;subst hy;exact⟨(T0.nx,.own c []),_,_,rfl,q2,h3.2,h2,fun e=>(by subst e;exact .own0 c (fun st o e=>by rw[q1]at e;cases e;rfl)),fun _=>⟨c,[],rfl⟩,fun⟨c,e⟩=>(by cases e)⟩
    ·rename_i r q1 q2;cases h1;cases b' with
     |nil=>exact h3.elim
     |cons y b' =>have hy:=h3.1.2.1 c [] rfl;subst hy;exact⟨(T0.nx,.own c []),_,_,rfl,q2,h3.2,h2,fun e=>(by subst e;exact .own0 c (fun st o e=>by rw[q1]at e;cases e)),fun _=>⟨c,[],rfl⟩,fun⟨c,e⟩=>(by cases e)⟩
    ·cases h1
   |vec c =>
    simp only[svO]at h1;split at h1
    ·rename_i st c' m r q1 q2;cases h1;cases b' with
     |nil=>exact h3.elim
     |cons y b' =>have hy:=h3.1.2.1 c' m rfl;subst hy;exact⟨(T0.nx,.vec c' m),_,_,rfl,q2,h3.2,h2,fun e=>(by subst e;exact .vec st c' m q1),fun⟨c,e⟩=>(by cases e),fun _=>⟨c',m,rfl⟩⟩
    ·cases h1
   |map kk vv =>
    simp only[svO]at h1;split at h1
    ·rename_i st k' v' m r q1 q2;cases h1;cases b' with
     |nil=>exact h3.elim
     |cons y b' =>have hy:=h3.1.2.2 k' v' m rfl;subst hy;exact⟨(T0.nx,.map k' v' m),_,_,rfl,q2,h3.2,h2,fun e=>(by subst e;exact .map st k' v' m q1),fun⟨c,e⟩=>(by cases e),fun⟨c,e⟩=>(by cases e)⟩
    ·cases h1
  obtain⟨y,b2,b2',k1,k2,k3,k4,k5,k6,k7⟩:=key;obtain⟨r1,r2,r3⟩:=wzia (i:=i) k2 k4 k3;rw[k1];refine⟨wzjn k5 r1,fun h=>?_,fun h=>?_⟩
  ·have h:Ac (Nat.beq j i) (match (generalizing:=false) s with | .own _=>true | _=>false) (DH i ob)=true:=h;rw[Cm];cases hj:Nat.beq j i
   ·rw[hj]at h;rw[Ag (Ep.1 hj)];exact r2 h
   ·rw[hj]at h;rw[Aj (AL.1 hj)];obtain⟨c,m,e⟩:=k6 (by cases s<;>first|exact⟨_,rfl⟩|cases h);exact⟨c,m,by rw[e]⟩
  ·have h:Ac (Nat.beq j i) (match (generalizing:=false) s with | .vec _=>true | _=>false) (IW i ob)=true:=h;rw[Cm];cases hj:Nat.beq j i
   ·rw[hj]at h;rw[Ag (Ep.1 hj)];exact r3 h
   ·rw[hj]at h;rw[Aj (AL.1 hj)];obtain⟨c,m,e⟩:=k7 (by cases s<;>first|exact⟨_,rfl⟩|cases h);exact⟨c,m,by rw[e]⟩
theorem N7{l:List (Nat×OH)}:∀{h:List (Nat×Nat×TO)} {i:Nat},KI l h=true->hasK i l=false->Aw h i=none
 |[],i,_,_=>rfl
 |p :: r,i,h,k=>by have h:Ac (hasK p.1 l) (KI l r) false=true:=h;obtain⟨h1,h2⟩:=BH h;rw[Cm,Ag (fun e=>by rw[e,k]at h1;cases h1)];exact N7 h2 k
theorem Ew{i:Nat}:∀{sl:List (Nat×SH)} {v:List SV},hasK i sl=false->Ay (rbS T0 sl v) i=.v (.s .top)
 |[],v,_=>rfl
 |(j,s) :: sl,v,h=>by
  rw[CR]at h;have hj:j≠i:=fun e=>by rw[Aj e]at h;cases h
  rw[Ag hj]at h;cases s with
  |k=>show Ay ((j,_) :: rbS T0 sl v) i=_;rw[Bt,Ag hj];exact Ew h
  |v c =>
   cases v with
   |nil=>exact Ew (sl:=sl) (v:=[]) h
   |cons x v=>show Ay ((j,_) :: rbS T0 sl v) i=_;rw[Bt,Ag hj];exact Ew h
  |c a =>show Ay ((match ofA1 a with | some x=>(j,.v (.s x)) | none=>(j,.v (.s .top))) :: rbS T0 sl v) i=_;cases ofA1 a<;>(show Ay ((j,_) :: rbS T0 sl v) i=_;rw[Bt,Ag hj];exact Ew h)
  |own id=>show Ay ((j,_) :: rbS T0 sl v) i=_;rw[Bt,Ag hj];exact Ew h
  |vec id=>show Ay ((j,_) :: rbS T0 sl v) i=_;rw[Bt,Ag hj];exact Ew h
  |ptr id off=>show Ay ((j,_) :: rbS T0 sl v) i=_;rw[Bt,Ag hj];exact Ew h
  |mp id=>show Ay ((j,_) :: rbS T0 sl v) i=_;rw[Bt,Ag hj];exact Ew h
theorem Fg{i:Nat}{w:List Nat}:∀{sl:List (Nat×SH)} {v:List SV},i∉setW sl w->i∉w/\(hasK i sl=true->Ay (rbS T0 sl v) i=Ay T0.t i)
 |[],v,h=>⟨h,fun e=>by cases e⟩
 |(j,.k) :: sl,v,h=>by
  obtain⟨h1,h2⟩:=Fg (sl:=sl) (v:=v) h;refine⟨h1,fun e=>?_⟩;rw[CR]at e;by_cases hj:j=i
  ·subst hj;show Ay ((j,Ay T0.t j) :: rbS T0 sl v) j=_;rw[Bt,Aj rfl]
  ·rw[Ag hj]at e;have q:=h2 e;show Ay ((j,Ay T0.t j) :: rbS T0 sl v) i=_;rw[Bt,Ag hj];exact q
 |(j,.v c) :: sl,v,h=>by
  have h:i∉j :: setW sl w:=h;simp only[AY,DL]at h;cases v with
  |nil =>obtain⟨h1,h2⟩:=Fg (sl:=sl) (v:=[]) h.2;refine⟨h1,fun e=>?_⟩;rw[CR,Ag (fun e=>h.1 e.symm)]at e;exact h2 e
  |cons x v =>obtain⟨h1,h2⟩:=Fg (sl:=sl) (v:=v) h.2;refine⟨h1,fun e=>?_⟩;rw[CR,Ag (fun e=>h.1 e.symm)]at e;have q:=h2 e;show Ay ((j,_) :: rbS T0 sl v) i=_;rw[Bt,Ag (fun e=>h.1 e.symm)];exact q
 |(j,.c a) :: sl,v,h=>by have h:i∉j :: setW sl w:=h;simp only[AY,DL]at h;obtain⟨h1,h2⟩:=Fg (sl:=sl) (v:=v) h.2;refine⟨h1,fun e=>?_⟩;rw[CR,Ag (fun e=>h.1 e.symm)]at e;have q:=h2 e;show Ay ((match ofA1 a with | some x=>(j,.v (.s x)) | none=>(j,.v (.s .top))) :: rbS T0 sl v) i=_;cases ofA1 a<;>(show Ay ((j,_) :: rbS T0 sl v) i=_;rw[Bt,Ag (fun e=>h.1 e.symm)];exact q)
 |(j,.own id) :: sl,v,h=>by have h:i∉j :: setW sl w:=h;simp only[AY,DL]at h;obtain⟨h1,h2⟩:=Fg (sl:=sl) (v:=v) h.2;refine⟨h1,fun e=>?_⟩;rw[CR,Ag (fun e=>h.1 e.symm)]at e;have q:=h2 e;show Ay ((j,_) :: rbS T0 sl v) i=_;rw[Bt,Ag (fun e=>h.1 e.symm)];exact q
 |(j,.vec id) :: sl,v,h=>by have h:i∉j :: setW sl w:=h;simp only[AY,DL]at h;obtain⟨h1,h2⟩:=Fg (sl:=sl) (v:=v) h.2;refine⟨h1,fun e=>?_⟩;rw[CR,Ag (fun e=>h.1 e.symm)]at e;have q:=h2 e;show Ay ((j,_) :: rbS T0 sl v) i=_;rw[Bt,Ag (fun e=>h.1 e.symm)];exact q
 |(j,.ptr id off) :: sl,v,h=>by have h:i∉j :: setW sl w:=h;simp only[AY,DL]at h;obtain⟨h1,h2⟩:=Fg (sl:=sl) (v:=v) h.2;refine⟨h1,fun e=>?_⟩;rw[CR,Ag (fun e=>h.1 e.symm)]at e;have q:=h2 e;show Ay ((j,_) :: rbS T0 sl v) i=_;rw[Bt,Ag (fun e=>h.1 e.symm)];exact q
 |(j,.mp id) :: sl,v,h=>by have h:i∉j :: setW sl w:=h;simp only[AY,DL]at h;obtain⟨h1,h2⟩:=Fg (sl:=sl) (v:=v) h.2;refine⟨h1,fun e=>?_⟩;rw[CR,Ag (fun e=>h.1 e.symm)]at e;have q:=h2 e;show Ay ((j,_) :: rbS T0 sl v) i=_;rw[Bt,Ag (fun e=>h.1 e.symm)];exact q
theorem RR{i:Nat}{sl:List (Nat×SH)}:∀{t:List (Nat×TV)} {w:List Nat},i∉FP sl t w->i∉w/\(hasK i sl=false->Ay t i=.v (.s .top))
 |[],w,h=>⟨h,fun _=>rfl⟩
 |p :: l,w,h=>by
  have h:i∉Ac (hasK p.1 sl) (FP sl l w) (p.1 :: FP sl l w):=h;cases hp:hasK p.1 sl<;>rw[hp]at h
  ·have h:i∉p.1 :: FP sl l w:=h;simp only[AY,DL]at h;obtain⟨h1,h2⟩:=RR h.2;exact⟨h1,fun e=>by rw[Bt,Ag (fun e=>h.1 e.symm)];exact h2 e⟩
  ·obtain⟨h1,h2⟩:=RR (t:=l) h;exact⟨h1,fun e=>by rw[Bt,Ag (fun e'=>by rw[e',e]at hp;cases hp)];exact h2 e⟩
theorem Gq{i:Nat}{w:List Nat}:∀{ob:List (Nat×OH)} {v:List SV},i∉Fs ob w->i∉w/\(hasK i ob=true->Aw (rbO T0 ob v) i=match Aw T0.h i with | some p=>some p | none=>some (T0.nx,.gone))
 |[],v,h=>⟨h,fun e=>by cases e⟩
 |(j,.k) :: ob,v,h=>by
  obtain⟨h1,h2⟩:=Gq (ob:=ob) (v:=v) h;refine⟨h1,fun e=>?_⟩;rw[CR]at e;have e0:rbO T0 ((j,.k) :: ob) v=(match Aw T0.h j with | some p=>(j,p) :: rbO T0 ob v | none=>(j,T0.nx,.gone) :: rbO T0 ob v):=rfl;rw[e0];by_cases hj:j=i
  ·subst hj;cases Aw T0.h j<;>simp only[Cm,AZ]
  ·rw[Ag hj]at e;have:=h2 e;cases Aw T0.h j<;>(simp only[Cm];rw[Ag hj];exact this)
 |(j,.gone) :: ob,v,h=>by have h:i∉j :: Fs ob w:=h;simp only[AY,DL]at h;obtain⟨h1,h2⟩:=Gq (ob:=ob) (v:=v) h.2;refine⟨h1,fun e=>?_⟩;rw[CR,Ag (fun e=>h.1 e.symm)]at e;show Aw ((j,_) :: rbO T0 ob v) i=_;rw[Cm,Ag (fun e=>h.1 e.symm)];exact h2 e
 |(j,.box c) :: ob,v,h=>by
  have h:i∉j :: Fs ob w:=h;simp only[AY,DL]at h;refine⟨(Gq (ob:=ob) (v:=v) h.2).1,fun e=>?_⟩;rw[CR,Ag (fun e=>h.1 e.symm)]at e;cases v with
  |nil=>show Aw ((j,_) :: rbO T0 ob []) i=_;rw[Cm,Ag (fun e=>h.1 e.symm)];exact(Gq (ob:=ob) (v:=[]) h.2).2 e
  |cons x v =>show Aw ((match x.cells with | some cs=>(j,T0.nx,.box cs) | none=>(j,T0.nx,.gone)) :: rbO T0 ob v) i=_;cases x.cells<;>(simp only[Cm];rw[Ag (fun e=>h.1 e.symm)];exact(Gq (ob:=ob) (v:=v) h.2).2 e)
 |(j,.own c) :: ob,v,h=>by
  have h:i∉j :: Fs ob w:=h;simp only[AY,DL]at h;refine⟨(Gq (ob:=ob) (v:=v) h.2).1,fun e=>?_⟩;rw[CR,Ag (fun e=>h.1 e.symm)]at e;cases v with
  |nil=>show Aw ((j,_) :: rbO T0 ob []) i=_;rw[Cm,Ag (fun e=>h.1 e.symm)];exact(Gq (ob:=ob) (v:=[]) h.2).2 e
  |cons x v=>cases x<;>(show Aw ((j,_) :: rbO T0 ob v) i=_;rw[Cm,Ag (fun e=>h.1 e.symm)];exact(Gq (ob:=ob) (v:=v) h.2).2 e)
 |(j,.vec c) :: ob,v,h=>by
  have h:i∉j :: Fs ob w:=h;simp only[AY,DL]at h;refine⟨(Gq (ob:=ob) (v:=v) h.2).1,fun e=>?_⟩;rw[CR,Ag (fun e=>h.1 e.symm)]at e;cases v with
  |nil=>show Aw ((j,_) :: rbO T0 ob []) i=_;rw[Cm,Ag (fun e=>h.1 e.symm)];exact(Gq (ob:=ob) (v:=[]) h.2).2 e
  |cons x v=>cases x<;>(show Aw ((j,_) :: rbO T0 ob v) i=_;rw[Cm,Ag (fun e=>h.1 e.symm)];exact(Gq (ob:=ob) (v:=v) h.2).2 e)
 |(j,.map _ _) :: ob,v,h=>by
  have h:i∉j :: Fs ob w:=h;simp only[AY,DL]at h;refine⟨(Gq (ob:=ob) (v:=v) h.2).1,fun e=>?_⟩;rw[CR,Ag (fun e=>h.1 e.symm)]at e;cases v with
  |nil=>show Aw ((j,_) :: rbO T0 ob []) i=_;rw[Cm,Ag (fun e=>h.1 e.symm)];exact(Gq (ob:=ob) (v:=[]) h.2).2 e
  |cons x v=>cases x<;>(show Aw ((j,_) :: rbO T0 ob v) i=_;rw[Cm,Ag (fun e=>h.1 e.symm)];exact(Gq (ob:=ob) (v:=v) h.2).2 e)
theorem RS{i:Nat}:∀{ob:List (Nat×OH)} {v:List SV},hasK i ob=false->Aw (rbO T0 ob v) i=none
 |[],v,_=>rfl
 |(j,s) :: ob,v,h=>by
  rw[CR]at h;have hj:j≠i:=fun e=>by rw[Aj e]at h;cases h
  rw[Ag hj]at h;have c:∀(y:Nat×TO) v,Aw ((j,y) :: rbO T0 ob v) i=none:=fun y v=>by rw[Cm,Ag hj];exact RS h
  cases s with
  |k =>show Aw (match Aw T0.h j with | some p=>(j,p) :: rbO T0 ob v | none=>(j,T0.nx,.gone) :: rbO T0 ob v) i=_;cases Aw T0.h j<;>exact c _ _
  |gone=>exact c _ _
  |box d =>
   cases v with
   |nil=>exact c _ _
   |cons x v =>show Aw ((match x.cells with | some cs=>(j,T0.nx,.box cs) | none=>(j,T0.nx,.gone)) :: rbO T0 ob v) i=_;cases x.cells<;>exact c _ _
  |own d=>cases v with
   |nil=>exact c _ _
   |cons x v=>cases x<;>exact c _ _
  |vec d=>cases v with
   |nil=>exact c _ _
   |cons x v=>cases x<;>exact c _ _
  |map d d'=>cases v with
   |nil=>exact c _ _
   |cons x v=>cases x<;>exact c _ _
theorem FX{oA:List (Nat×OH)}{i:Nat}{w:List Nat}:∀{ob:List (Nat×OH)},i∉Fs ob w->hasK i ob=true->chO T0 T1 oA ob=true->i∉T1.wo
 |[],_,h,_=>by cases h
 |(j,.k) :: ob,h1,h2,h3=>by
  have h3:Ac (memN j T1.wo) false (chO T0 T1 oA ob)=true:=h3;obtain⟨p,h3⟩:=KQ h3;rw[CR]at h2;by_cases hj:j=i
  ·subst hj;exact N6 p
  ·rw[Ag hj]at h2;exact FX (ob:=ob) h1 h2 h3
 |(j,.gone) :: ob,h1,h2,h3=>by have h1:i∉j :: Fs ob w:=h1;simp only[AY,DL]at h1;rw[CR,Ag (fun e=>h1.1 e.symm)]at h2;exact FX (ob:=ob) h1.2 h2 h3
 |(j,.box _) :: ob,h1,h2,h3=>by have h1:i∉j :: Fs ob w:=h1;simp only[AY,DL]at h1;rw[CR,Ag (fun e=>h1.1 e.symm)]at h2;exact FX (ob:=ob) h1.2 h2 h3
 |(j,.own _) :: ob,h1,h2,h3=>by have h1:i∉j :: Fs ob w:=h1;simp only[AY,DL]at h1;rw[CR,Ag (fun e=>h1.1 e.symm)]at h2;exact FX (ob:=ob) h1.2 h2 h3
 |(j,.vec _) :: ob,h1,h2,h3=>by have h1:i∉j :: Fs ob w:=h1;simp only[AY,DL]at h1;rw[CR,Ag (fun e=>h1.1 e.symm)]at h2;exact FX (ob:=ob) h1.2 h2 h3
 |(j,.map _ _) :: ob,h1,h2,h3=>by have h1:i∉j :: Fs ob w:=h1;simp only[AY,DL]at h1;rw[CR,Ag (fun e=>h1.1 e.symm)]at h2;exact FX (ob:=ob) h1.2 h2 h3
theorem FY:∀{sl:List (Nat×SH)} {a:List SV},svS T1 sl=some a->a.length=nV sl
 |[],a,h=>by cases h;rfl
 |(j,.v c) :: sl,a,h=>by
  simp only[svS]at h;split at h
  ·rename_i v r q1 q2;cases h;show r.length+1=nV sl+1;rw[FY q2]
  ·cases h
 |(j,.k) :: sl,a,h=>FY (sl:=sl) h
 |(j,.c _) :: sl,a,h=>FY (sl:=sl) h
 |(j,.own _) :: sl,a,h=>FY (sl:=sl) h
 |(j,.vec _) :: sl,a,h=>FY (sl:=sl) h
 |(j,.ptr _ _) :: sl,a,h=>FY (sl:=sl) h
 |(j,.mp _) :: sl,a,h=>FY (sl:=sl) h
def phJ(U0 U1:Phi)(nx:Nat)(hh:Aq)(h:List (Nat×Nat×TO)):Phi:=⟨fun id s=>if s=nx then ghoR ⟨0,0,fun _=>[]⟩ (hh id).ep (match Aw h id with | some (_,o)=>o | none=>.gone) else U0 id s,U1.X,U1.ds,U0.c⟩
theorem qz9d{nx:Nat}{hh:Aq}{h:List (Nat×Nat×TO)}:Ext nx U0 (phJ U0 U1 nx hh h):=⟨fun id s hs=>by show(if s=nx then _ else U0 id s)=U0 id s;rw[Ag (by omega)],rfl⟩
theorem Ex{nx id:Nat}{hh:Aq}{h:List (Nat×Nat×TO)}:(phJ U0 U1 nx hh h id nx).ep=(hh id).ep:=by show(if nx=nx then _ else U0 id nx).ep=_;rw[Aj rfl,RF]
theorem N8{nx id st:Nat}{hh:Aq}{h:List (Nat×Nat×TO)}{o:TO}(e:Aw h id=some (st,o)):phJ U0 U1 nx hh h id nx=ghoR ⟨0,0,fun _=>[]⟩ (hh id).ep o:=by show(if nx=nx then _ else U0 id nx)=_;rw[Aj rfl,e]
theorem RT{T:Av}{id st:Nat}(h:curO T id st=true):∃o,Aw T.h id=some (st,o):=by
 unfold curO at h;split at h
 ·rename_i st' o e;rw[e,AL.1 h];exact⟨o,rfl⟩
 ·cases h
theorem wzq8{T:Av}{id st:Nat}(h:curW T id st=true):∃c l,Aw T.h id=some (st,.own c l):=by
 unfold curW at h;split at h
 ·rename_i st' c l e;rw[e,AL.1 h];exact⟨c,l,rfl⟩
 ·cases h
theorem wzsp{T:Av}{x:TV}(h:kpP T0 T x=true)(hx:TOk U0 T0 x){U:Phi}(he:Ext T0.nx U0 U){T':Av}(hn:T0.nx<=T'.nx):TOk U T' x:=by
 cases x with
 |v x =>refine⟨FQ hn hx.1,?_⟩;exact IY he hx.1 hx.2
 |cnd a b c x=>cases h
structure Jn(U0:Phi)(T0:Av)(U1:Phi)(T1:Av)(U':Phi)(T':Av):Prop where
 inv:InvT U' T'
 log:Log U0 T0 U' T'
 X:U'.X=U1.X
 ds:U'.ds=U1.ds
 w:∀i,W (eT U1 (Ay T1.t i)) (eT U' (Ay T'.t i))
 wo:∀i,WO (hO U1 i (Aw T1.h i)) (hO U' i (Aw T'.h i))
 see:See TabT.E (em U1 T1) (em U' T')
theorem qz4y[TabOk](cM:InvT U0 T0)(hL:Log U0 (cl0 T0) U1 T1)(gp:InvT U1 T1){H:OutH}{r:Row H.cts}(hA:arrT T0 T1 H=some r) : ∃U',Jn U0 T0 U1 T1 U' (rebT T0 H r):=by
 unfold arrT at hA;split at hA
 ·rename_i a b ha hb;replace hA:=AG hA;obtain⟨ki,hA⟩:=hA;replace hA:=AG hA;obtain⟨dt,hA⟩:=hA;replace hA:=AG hA;obtain⟨gL,hA⟩:=hA;replace hA:=AG hA;obtain⟨mL,hA⟩:=hA;replace hA:=AG hA;obtain⟨oP,hA⟩:=hA;replace hA:=AG hA;obtain⟨oQ,hA⟩:=hA;replace hA:=AG hA;obtain⟨mM,hA⟩:=hA;have iK:T1.rf=T0.rf:=AL.1 oQ;obtain⟨a',b',hv,ra,rb,hl⟩:=(wzhu hA).split;have jL:(rowW H.cts r).drop (nV H.sl)=b':=by rw[hv,<-FY ha,<-hl];simp
  have eT0:(rebT T0 H r).t=rbS T0 H.sl (a'++b'):=by rw[<-hv];rfl
  have eH0:(rebT T0 H r).h=rbO T0 H.ob b':=by rw[<-jL];rfl
  have sl1:=fun i=>Ev (i:=i) (rest:=b') ha ki ra;have ob1:=fun i=>wzia (oA:=H.ob) (i:=i) hb dt rb;have eI:∀i,i∉T1.w->eT U1 (Ay T1.t i)=eT U0 (Ay T0.t i):=fun i hi=>(hL.sl i hi).2;have dC:∀i,i∉T1.wo->inR T0.b i=true->hO U1 i (Aw T1.h i)=hO U0 i (Aw T0.h i):=fun i hi e=>(hL.ob i hi).2 e;have fe:T0.nx<=(rebT T0 H r).nx:=H8 _
  have fg:∀i p,Aw (rebT T0 H r).h i=some p->inR T0.b i=true:=fun i p e=>by
   rw[eH0]at e;refine RQ mM ?_;cases hk:hasK i H.ob
   ·rw[RS hk]at e;cases e
   ·rfl
  have fH:T1.b=T0.b:=hL.fr.b;have oR:U1.c=U0.c:=hL.ext.c;have lW:Fr (phJ U0 U1 T0.nx (em U1 T1).h (rbO T0 H.ob b')) (rebT T0 H r):=by refine⟨fg,fun i e=>gp.fr.rx i (by rw[fH];exact e),fun i e1 e2=>gp.fr.rz i (by rw[fH,iK];exact e1) (by rw[fH];exact e2),fun D hD=>by have:=gp.fr.dd D hD;rw[fH,iK]at this;exact this,fun e1 e2=>gp.fr.ry (by rw[fH];exact e1) (by rw[iK];exact e2),trivial,trivial⟩
  have aJ:Ext T0.nx U0 (phJ U0 U1 T0.nx (em U1 T1).h (rbO T0 H.ob b')):=qz9d;have st0:∀i st o,Aw T0.h i=some (st,o)->st<T0.nx:=fun i st o h=>(cM.ob _ _ _ h).1;have rf0:∀i st o,Aw T0.h i=some (st,o)->RfO U0 T0.nx o:=fun i st o h=>(cM.ob _ _ _ h).2.2
  have tok:∀i y,Sl1 T0 T1 H.ob i y->TOk (phJ U0 U1 T0.nx (em U1 T1).h (rbO T0 H.ob b')) (rebT T0 H r) y:=by
   intro i y h;cases h with
   |k h k=>exact wzsp k (cM.sl i) (U:=phJ U0 U1 T0.nx (em U1 T1).h (rbO T0 H.ob b')) qz9d fe
   |v=>exact⟨trivial,trivial⟩
   |own=>exact⟨CU _,trivial⟩
   |own0=>exact⟨CU _,trivial⟩
   |vec=>exact⟨CU _,trivial⟩
   |ptr=>exact⟨CU _,trivial⟩
   |mp=>exact⟨CU _,trivial⟩
  have epO:∀i st o,Aw T1.h i=some (st,o)->((em U1 T1).h i).ep=(U1 i st).ep:=fun i st o h=>by rw[Hm h,Ni]
  have wvec:∀id st,curO T1 id st=true->IW id H.ob=true->W (.vec id (U1 id st).ep 0 (U1 id st).n) (.vec id (phJ U0 U1 T0.nx (em U1 T1).h (rbO T0 H.ob b') id T0.nx).ep 0 (phJ U0 U1 T0.nx (em U1 T1).h (rbO T0 H.ob b') id T0.nx).n):=by
   intro id st k o;obtain⟨o1,ho⟩:=RT k;obtain⟨c',m,hr⟩:=(ob1 id).2.2 o;show W (.vec id (U1 id st).ep 0 (U1 id st).n) (.vec id (phJ U0 U1 T0.nx (em U1 T1).h (rbO T0 H.ob b') id T0.nx).ep 0 (phJ U0 U1 T0.nx (em U1 T1).h (rbO T0 H.ob b') id T0.nx).n)
   have hm:(phJ U0 U1 T0.nx (em U1 T1).h (rbO T0 H.ob b') id T0.nx).n=(U1 id st).n:=by
    rw[N8 hr];show m.length=_;rcases(ob1 id).1 with ⟨_,q⟩|h
    ·rw[q]at hr;cases hr
    ·rw[hr]at h;generalize hp:some (T0.nx,TO.vec c' m)=p at h;cases h with
     |k0 h p e=>cases hp;exact absurd (st0 _ _ _ e) (Nat.lt_irrefl _)
     |k1 h e=>cases hp
     |gone=>cases hp
     |map _ _ _ _ _=>cases hp
     |box st cs cs' h w=>cases hp
     |own st c m h=>cases hp
     |own0 c h=>cases hp
     |vec st c m h=>cases hp;rw[ho]at h;cases h;exact(gp.ob _ _ _ ho).2.1.1.symm
   rw[hm,Ex,epO _ _ _ ho];exact .refl _
  have wownE:∀id st,curW T1 id st=true->DH id H.ob=true->eP U1 (.own id st)=eP (phJ U0 U1 T0.nx (em U1 T1).h (rbO T0 H.ob b')) (.own id T0.nx):=by
   intro id st k o;obtain⟨c,l,ho⟩:=wzq8 k;obtain⟨c',m,hr⟩:=(ob1 id).2.1 o;show(match (U1 id st).n with | 0=>Aa.nils | n+1=>.vec id (U1 id st).ep 0 (n+1))=(match (phJ U0 U1 T0.nx (em U1 T1).h (rbO T0 H.ob b') id T0.nx).n with | 0=>.nils | n+1=>.vec id (phJ U0 U1 T0.nx (em U1 T1).h (rbO T0 H.ob b') id T0.nx).ep 0 (n+1));have hn:(U1 id st).n=l.length:=(gp.ob _ _ _ ho).2.1.1
   have hm:(phJ U0 U1 T0.nx (em U1 T1).h (rbO T0 H.ob b') id T0.nx).n=l.length:=by
    rw[N8 hr];show m.length=l.length;rcases(ob1 id).1 with ⟨_,q⟩|h
    ·rw[q]at hr;cases hr
    ·rw[hr]at h;generalize hp:some (T0.nx,TO.own c' m)=p at h;cases h with
     |k0 h p e=>cases hp;exact absurd (st0 _ _ _ e) (Nat.lt_irrefl _)
     |k1 h e=>cases hp
     |gone=>cases hp
     |map _ _ _ _ _=>cases hp
     |box st cs cs' h w=>cases hp
     |own st c m h=>cases hp;rw[ho]at h;cases h;rfl
     |own0 c h=>cases h _ _ ho
     |vec st c m h=>cases hp
   rw[hn,hm,Ex,epO _ _ _ ho]
  have wown:∀id st,curW T1 id st=true->DH id H.ob=true->W (eP U1 (.own id st)) (eP (phJ U0 U1 T0.nx (em U1 T1).h (rbO T0 H.ob b')) (.own id T0.nx)):=fun id st k o=>by rw[wownE id st k o];exact .refl _
  have wown0:∀id,(∀st o,Aw T1.h id=some (st,o)->o=.gone)->DH id H.ob=true->W Aa.nils (eP (phJ U0 U1 T0.nx (em U1 T1).h (rbO T0 H.ob b')) (.own id T0.nx)):=by
   intro id k o;obtain⟨c',m,hr⟩:=(ob1 id).2.1 o;show W Aa.nils (match (phJ U0 U1 T0.nx (em U1 T1).h (rbO T0 H.ob b') id T0.nx).n with | 0=>.nils | n+1=>.vec id (phJ U0 U1 T0.nx (em U1 T1).h (rbO T0 H.ob b') id T0.nx).ep 0 (n+1))
   have hm:(phJ U0 U1 T0.nx (em U1 T1).h (rbO T0 H.ob b') id T0.nx).n=0:=by
    rw[N8 hr];show m.length=0;rcases(ob1 id).1 with ⟨_,q⟩|h
    ·rw[q]at hr;cases hr
    ·rw[hr]at h;generalize hp:some (T0.nx,TO.own c' m)=p at h;cases h with
     |k0 h p e=>cases hp;exact absurd (st0 _ _ _ e) (Nat.lt_irrefl _)
     |k1 h e=>cases hp
     |gone=>cases hp
     |map _ _ _ _ _=>cases hp
     |box st cs cs' h w=>cases hp
     |own st c m h=>cases k _ _ h
     |own0 c h=>cases hp;rfl
     |vec st c m h=>cases hp
   rw[hm];exact .refl _
  have objW:∀i,WO (hO U1 i (Aw T1.h i)) (hO (phJ U0 U1 T0.nx (em U1 T1).h (rbO T0 H.ob b')) i (Aw (rbO T0 H.ob b') i)):=by
   intro i;rcases(ob1 i).1 with ⟨h1,h2⟩|h
   ·rw[h2,N7 gL h1];exact GA.2 trivial
   ·have hg:WO (hO U1 i (Aw T1.h i)) (hO (phJ U0 U1 T0.nx (em U1 T1).h (rbO T0 H.ob b')) i (some (T0.nx,.gone))):=by
     show WO _ (Ad.gone (phJ U0 U1 T0.nx (em U1 T1).h (rbO T0 H.ob b') i T0.nx).ep);rw[Ex,yzc,em_h]
    generalize Aw (rbO T0 H.ob b') i=p0 at h |-;cases h with
    |k0 h p e =>obtain⟨st,o⟩:=p;rw[dC i h (cM.fr.ro _ _ e),e];show WO (eO U0 (U0 i st).ep o) (eO (phJ U0 U1 T0.nx (em U1 T1).h (rbO T0 H.ob b')) (phJ U0 U1 T0.nx (em U1 T1).h (rbO T0 H.ob b') i st).ep o);rw[aJ.s i st (st0 _ _ _ e),Ny aJ (rf0 _ _ _ e)];exact GA.2 trivial
    |k1 h e=>exact hg
    |gone=>exact hg
    |box st cs cs' h w =>rw[h];show WO (.box (U1 i st).ep (Ax cs)) (.box (phJ U0 U1 T0.nx (em U1 T1).h (rbO T0 H.ob b') i T0.nx).ep (Ax cs'));rw[Ex,epO _ _ _ h];exact vze.2 ⟨rfl,w⟩
    |own st c m h =>rw[h];show WO (eO U1 (U1 i st).ep (.own c m)) (eO (phJ U0 U1 T0.nx (em U1 T1).h (rbO T0 H.ob b')) (phJ U0 U1 T0.nx (em U1 T1).h (rbO T0 H.ob b') i T0.nx).ep (.own c m));rw[Ex,epO _ _ _ h];exact GA.2 trivial
    |own0 c h=>exact hg
    |map st k v m h =>rw[h];show WO (.amap (U1 i st).ep (mEs k v m)) (.amap ((phJ U0 U1 T0.nx (em U1 T1).h (rbO T0 H.ob b')) i T0.nx).ep (mEs k v m));rw[Ex,epO _ _ _ h];exact GA.2 trivial
    |vec st c m h =>rw[h];show WO (eO U1 (U1 i st).ep (.vec c m)) (eO (phJ U0 U1 T0.nx (em U1 T1).h (rbO T0 H.ob b')) (phJ U0 U1 T0.nx (em U1 T1).h (rbO T0 H.ob b') i T0.nx).ep (.vec c m));rw[Ex,epO _ _ _ h];exact GA.2 trivial
  have fu:InvT (phJ U0 U1 T0.nx (em U1 T1).h (rbO T0 H.ob b')) (rebT T0 H r):=by
   refine⟨fun i=>?_,fun i hi=>?_,fun i st o ho=>?_,lW⟩
   ·rw[eT0];rcases sl1 i with ⟨h1,h2⟩|h
    ·rw[h2];exact⟨trivial,trivial⟩
    ·exact tok i _ h
   ·rw[eT0];exact Ew (wzgz hi oP)
   ·rw[eH0]at ho;have key:st=T0.nx->RfO (phJ U0 U1 T0.nx (em U1 T1).h (rbO T0 H.ob b')) (T0.nx+1) o->st<(rebT T0 H r).nx/\OkO (phJ U0 U1 T0.nx (em U1 T1).h (rbO T0 H.ob b') i st) o/\RfO (phJ U0 U1 T0.nx (em U1 T1).h (rbO T0 H.ob b')) (rebT T0 H r).nx o:=fun e hr=>by subst e;exact⟨CU _,by rw[N8 ho];exact qzyq,hr⟩
    rcases(ob1 i).1 with ⟨h1,h2⟩|h
    ·rw[h2]at ho;cases ho
    ·rw[ho]at h;generalize hp:some (st,o)=p at h;cases h with
     |k0 h p e =>cases hp;have h1:=st0 _ _ _ e;exact⟨Gi h1 fe,RG aJ h1 (cM.ob _ _ _ e).2.1,qzm2 aJ fe (cM.ob _ _ _ e).2.2⟩
     |k1 h e=>cases hp;exact key rfl trivial
     |gone=>cases hp;exact key rfl trivial
     |box st cs cs' h w=>cases hp;exact key rfl trivial
     |own st c m h=>cases hp;exact key rfl trivial
     |own0 c h=>cases hp;exact key rfl trivial
     |vec st c m h=>cases hp;exact key rfl trivial
     |map _ _ _ _ _=>cases hp;exact key rfl trivial
  have mP:∀i,inR T0.b i=true->U1.X i=U0.X i:=hL.fr.rg
  have mQ:Aw T0.h 1899≠none->hasK 1899 H.ob=true:=fun h=>by
   cases hk:hasK 1899 H.ob
   ·exact absurd (N7 mL hk) h
   ·rfl
  have slW:∀i,W (eT U1 (Ay T1.t i)) (eT (phJ U0 U1 T0.nx (em U1 T1).h (rbO T0 H.ob b')) (Ay (rebT T0 H r).t i)):=fun i=>by
   rw[eT0];rcases sl1 i with ⟨h1,h2⟩|h
   ·rw[h2];exact .top _
   ·generalize Ay (rbS T0 H.sl (a'++b')) i=y at h;cases h with
    |k h k=>rw[eI i h,IZ aJ (Nw (cM.sl i))];exact .refl _
    |v x0 x h w=>rw[h];exact w
    |own id st h k o=>rw[h];exact wown id st k o
    |own0 id h k o=>rw[h];exact wown0 id k o
    |vec id st h k o=>rw[h];exact wvec id st k o
    |ptr id st off h k =>obtain⟨o1,ho⟩:=RT k;rw[h];show W (.ptr id (U1 id st).ep off) (.ptr id (phJ U0 U1 T0.nx (em U1 T1).h (rbO T0 H.ob b') id T0.nx).ep off);rw[Ex,epO _ _ _ ho];exact .refl _
    |mp id st h k =>obtain⟨o1,ho⟩:=RT k;rw[h];show W (.mp id (U1 id st).ep) (.mp id ((phJ U0 U1 T0.nx (em U1 T1).h (rbO T0 H.ob b')) id T0.nx).ep);rw[Ex,epO _ _ _ ho];exact .refl _
  have obW:∀i,WO (hO U1 i (Aw T1.h i)) (hO (phJ U0 U1 T0.nx (em U1 T1).h (rbO T0 H.ob b')) i (Aw (rebT T0 H r).h i)):=fun i=>by rw[eH0];exact objW i
  refine⟨_,fu,⟨rfl,fe,aJ,fun i hi=>?_,fun i hi=>?_,⟨rfl,A8 _,fun _=>rfl,fun h=>(Gq (T0:=T0) (v:=b') (show 1899∉Fs H.ob T0.wo from h)).1,fun h=>?_,mP,fun _ e=>hL.fr.eq iK (e.imp id fun e=>⟨FX (T0:=T0) (T1:=T1) (show 1899∉Fs H.ob T0.wo from e.1) (mQ e.2) dt,e.2⟩)⟩⟩,rfl,rfl,slW,obW,wzbg fu rfl hL.n.symm slW obW⟩
  ·have hi:i∉setW H.sl (FP H.sl T0.t T0.w):=hi;obtain⟨h1,h2⟩:=Fg (T0:=T0) (v:=a'++b') hi;obtain⟨h3,h4⟩:=RR h1;refine⟨h3,?_⟩;rw[eT0];cases hk:hasK i H.sl
   ·rw[Ew hk,h4 hk];rfl
   ·rw[h2 hk];exact IZ aJ (Nw (cM.sl i))
  ·have hi:i∉Fs H.ob T0.wo:=hi;obtain⟨h1,h2⟩:=Gq (T0:=T0) (v:=b') hi;refine⟨h1,fun aQ=>?_⟩;rw[eH0];cases hk:hasK i H.ob
   ·rw[RS hk,N7 mL hk];exact mP i aQ
   ·rw[h2 hk];cases ho:Aw T0.h i with
    |some p =>obtain⟨st,o⟩:=p;show eO (phJ U0 U1 T0.nx (em U1 T1).h (rbO T0 H.ob b')) ((phJ U0 U1 T0.nx (em U1 T1).h (rbO T0 H.ob b')) i st).ep o=eO U0 (U0 i st).ep o;rw[aJ.s i st (st0 _ _ _ ho),Ny aJ (rf0 _ _ _ ho)]
    |none =>show Ad.gone (phJ U0 U1 T0.nx (em U1 T1).h (rbO T0 H.ob b') i T0.nx).ep=U0.X i;rw[Ex,em_h];have:=FX (T0:=T0) (T1:=T1) hi hk dt;rw[dC i this aQ,ho];obtain⟨e,he⟩:=cM.fr.rx i (RQ mM hk);show Ad.gone (U0.X i).ep=U0.X i;rw[he];rfl
  ·rw[eH0];rcases(ob1 1899).1 with ⟨h1,_⟩|h'
   ·rw[mQ h]at h1;cases h1
   ·generalize Aw (rbO T0 H.ob b') 1899=p at h';cases h'<;>(intro e;cases e)
 ·cases hA
theorem N9[TabOk](cM:InvT U0 T0)(hL:Log U0 (cl0 T0) U1 T1)(gp:InvT U1 T1){H:OutH}{r:Row H.cts}(hA:arrT T0 T1 H=some r) : ∃U',InvT U' (rebT T0 H r)/\Log U0 T0 U' (rebT T0 H r)/\See TabT.E (em U1 T1) (em U' (rebT T0 H r)):=by obtain⟨U',J⟩:=qz4y cM hL gp hA;exact⟨U',J.inv,J.log,J.see⟩
end
end
section
variable [Tab]
variable {ρ:Option Nat}{U:Phi}{T:Av}
def FinT{α:Type}(K:Exit->Av->Option α)(r:α)(U:Phi)(T:Av)(e:Exit)(S:As):Prop := ∃U' T',K e T'=some r/\InvT U' T'/\Log U T U' T'/\T'.gs=[]/\See TabT.E S (em U' T')
theorem FinT.step{α:Type}{K:Exit->Av->Option α}{r:α}{U1:Phi}{T1:Av}{e:Exit}{S:As}(L:Log U T U1 T1)(h:FinT K r U1 T1 e S):FinT K r U T e S:=by obtain⟨U',T',k1,k2,k3,k4,k5⟩:=h;exact⟨U',T',k1,k2,L.trans k3,k4,k5⟩
theorem qzts(hI:InvT U T)(hg:T.gs=[]):InvT U (cl0 T):=by
 refine⟨fun i=>?_,hI.hi,hI.ob,hI.fr.ofh rfl rfl rfl rfl rfl rfl⟩;have hx:=hI.sl i;show TOk U (cl0 T) (Ay T.t i);revert hx;cases Ay T.t i with
 |v x=>exact fun h=>h
 |cnd a b c x =>rintro⟨_,_,h,_⟩;rw[hg]at h;cases h
theorem RU{T1:Av}:∀{l:List OutH} {e:Exit} {y:OutT l},injT T l e T1=some y->∃H r,arrT T T1 H=some r/\isE H.e e=true/\∀{α:Type} (T':Av) (K:Exit->Av->Option α),aftT T' K l y=K e (rebT T' H r)
 |[],e,y,h=>by cases h
 |[H],e,y,h=>by obtain⟨h1,h2⟩:=AG (show Ac (isE H.e e) (arrT T T1 H) none=some y from h);refine⟨H,y,h2,h1,fun T' K=>?_⟩;show K H.e.ex (rebT T' H y)=_;rw[isE_ex h1]
 |H :: H' :: l,e,y,h=>by
  have h:Ac (isE H.e e) (match arrT T T1 H with | some r=>some (.inl r) | none=>none) (match injT T (H' :: l) e T1 with | some r=>some (.inr r) | none=>none)=some y:=h;cases he:isE H.e e
  ·rw[he]at h;have h:(match injT T (H' :: l) e T1 with | some r=>some (Sum.inr r) | none=>none)=some y:=h;split at h
   ·rename_i r hr;cases h;obtain⟨H1,r1,k1,k3,k2⟩:=RU (l:=H' :: l) hr;exact⟨H1,r1,k1,k3,k2⟩
   ·cases h
  ·rw[he]at h;have h:(match arrT T T1 H with | some r=>some (Sum.inl r) | none=>none)=some y:=h;split at h
   ·rename_i r hr;cases h;refine⟨H,r,hr,he,fun T' K=>?_⟩;show K H.e.ex (rebT T' H r)=_;rw[isE_ex he]
   ·cases h
where
 isE_ex {o:OE} {e:Exit} (h:isE o e=true):o.ex=e:=by
  cases o<;>cases e<;>first
   |rfl
   |(cases h;done)
   |(rename_i i j;rw[show i=j from AL.1 h];rfl)
end
end Go.Am

