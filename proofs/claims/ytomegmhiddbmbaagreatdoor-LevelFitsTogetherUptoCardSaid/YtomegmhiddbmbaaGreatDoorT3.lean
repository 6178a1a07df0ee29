/- Part T3: a typed interpreter of abstract code, proved sound over the machine. No condition. -/
import Derived.Test.YtomegmhiddbmbaaGreatDoorT2
set_option linter.unusedSimpArgs false
set_option linter.unusedVariables false
namespace Go.Am
theorem Nc{m m':List (Nat×Aa)}{n:Nat}(h:∀i,i<n->look m i=look m' i):tl m n=tl m' n:=by unfold tl;exact Iv fun i hi=>h i (Fz.1 hi)
section
variable {E:Nat->Aa}{P:Program}
theorem Nd{a b:Bool}:eqB a b=true↔a=b:=by cases a<;>cases b<;>decide
theorem wzu0{c d:Bool}{x:Aa}(h:unc c x):unc (c&&d) x:=by cases x<;>simp only[unc]at h ⊢;intro e;simp only[AE]at e;exact h e.1
theorem wzr8{c:Bool}{t:List Aa}{a:Ac}(h:∀n,a=.t n->unc c (t.getD n .top)):BW c t [a]:=by
 cases a with
 |t n=>exact⟨h n rfl,trivial⟩
 |c v=>exact trivial
 |g i=>exact trivial
theorem Uc{o:As}{S:Ay}{v:Aa}{rd:List Nat}{out:Option (Nat×Ai)}(hg:o.guard=none)(hc:o.op.isCall=false)(h1:(o.op.req (Ae E S.t) S.h).ok)(h2:VEq (o.op.req (Ae E S.t) S.h).v v)(h3:∀j∈(o.op.req (Ae E S.t) S.h).rd,j∈rd)(h4:OutW S.h (o.op.req (Ae E S.t) S.h).out out) (h5:∀i ob,out=some (i,ob)->i∈rd):BJ E P o S v rd out:=by
 unfold BJ;rw[hg]
 cases aK:o.op<;>rw[aK]at hc h1 h2 h3 h4<;>first
  |(cases hc;done)
  |exact⟨h1,h2,h3,h4,h5⟩
theorem wzr2{o:As}{S:Ay}{tg:Nat}{want c:Bool}{x:Aa}{rd:List Nat}(hg:o.guard=some (tg,want))(hc:o.op.isCall=false)(h0:BV (S.t.getD tg .top) want=some c)(hq:o.op.quiet=true)(h:c=true->o.op.unAll E c S.t/\(o.op.req (argU E S.t) S.h).ok/\VEq (o.op.req (argU E S.t) S.h).v x/\∀j∈(o.op.req (argU E S.t) S.h).rd,j∈rd):BJ E P o S (.cnd c x) rd none:=by
 unfold BJ;rw[hg];refine⟨c,x,h0,rfl,rfl,?_⟩
 cases aK:o.op<;>rw[aK]at hc hq h<;>first
  |(cases hc;done)
  |exact⟨hq,h⟩
theorem wzrr{o:Al}(h:Ff o=true):o.isCall=false:=by cases o<;>first|rfl|cases h
end
section
variable [Tab]
structure Fm(B:Phi)(T:Ap)(B':Phi)(T':Ap):Prop where
 b:T'.b=T.b
 le:T.rf<=T'.rf
 sr:50<=T.rf->T'.rf=T.rf
 wo:1899∉T'.wo->1899∉T.wo
 hy:Ad T.h 1899≠none->Ad T'.h 1899≠none
 rg:∀i,inR T.b i=true->B'.X i=B.X i
 eq:T'.rf=T.rf->T.b=0\/(1899∉T'.wo/\Ad T.h 1899≠none)->B'.X=B.X/\B'.ds=B.ds
theorem Fm.refl(B:Phi)(T:Ap):Fm B T B T:=⟨rfl,AD _,fun _=>rfl,id,id,fun _ _=>rfl,fun _ _=>⟨rfl,rfl⟩⟩
theorem Fm.same{B B':Phi}{T T':Ap}(hb:T'.b=T.b)(hr:T'.rf=T.rf)(hw:1899∉T'.wo->1899∉T.wo)(hX:B'.X=B.X)(hd:B'.ds=B.ds)(hy:Ad T.h 1899≠none->Ad T'.h 1899≠none):Fm B T B' T' := ⟨hb,by rw[hr];exact AD _,fun _=>hr,hw,hy,fun _ _=>by rw[hX],fun _ _=>⟨hX,hd⟩⟩
theorem Fm.trans{B B' B'':Phi}{T T' T'':Ap}(h:Fm B T B' T')(k:Fm B' T' B'' T''):Fm B T B'' T'':=by refine⟨k.b.trans h.b,Bg h.le k.le,fun e=>(k.sr (by rw[h.sr e];exact e)).trans (h.sr e),fun e=>h.wo (k.wo e),fun e=>k.hy (h.hy e),fun i e=>(k.rg i (by rw[h.b];exact e)).trans (h.rg i e),fun e e2=>?_⟩;have h1:=h.le;have h2:=k.le;obtain⟨c,d⟩:=k.eq (by omega) (e2.imp (fun e=>h.b.trans e) fun e=>⟨e.1,h.hy e.2⟩);obtain⟨a,b⟩:=h.eq (by omega) (e2.imp id fun e=>⟨k.wo e.1,e.2⟩);exact⟨c.trans a,d.trans b⟩
theorem Fr.of{B B':Phi}{T T':Ap}(h:Fr B T)(hb:T'.b=T.b)(hr:T'.rf=T.rf)(hX:B'.X=B.X)(hd:B'.ds=B.ds)(hc:B'.c=B.c)(ho:∀id p,Ad T'.h id=some p->inR T.b id=true)(hy:∀st i l b,Ad T'.h 1899=some (st,.out i l b)->∃st',Ad T.h 1899=some (st',.out i l b)):Fr B' T' :=
 ⟨fun id p e=>by rw[hb];exact ho id p e,fun i e=>by rw[hX];exact h.rx i (by rw[<-hb];exact e),fun i e1 e2=>by rw[hX];exact h.rz i (by rw[<-hb,<-hr];exact e1) (by rw[<-hb];exact e2),fun D hD=>by rw[hX,hb,hr];exact h.dd D (by rw[<-hd];exact hD),
  fun e1 e2=>by rw[hX];exact h.ry (by rw[<-hb];exact e1) (by rw[<-hr];exact e2),by rw[hc];exact h.cs,fun st i l b e=>by obtain⟨st',e'⟩:=hy st i l b e;rw[hb,hr,hc,hX];exact h.yo st' i l b e'⟩
theorem Fr.ofh{B B':Phi}{T T':Ap}(h:Fr B T)(hb:T'.b=T.b)(hr:T'.rf=T.rf)(hX:B'.X=B.X)(hd:B'.ds=B.ds)(hc:B'.c=B.c)(hh:T'.h=T.h):Fr B' T' :=
 h.of hb hr hX hd hc (fun id p e=>h.ro id p (by rw[<-hh];exact e)) fun st i l b e=>⟨st,by rw[<-hh];exact e⟩
structure Log(B:Phi)(T:Ap)(B':Phi)(T':Ap):Prop where
 n:T'.n=T.n
 nx:T.nx<=T'.nx
 ext:Ext T.nx B B'
 sl:∀i,i∉T'.w->i∉T.w/\eT B' (Ah T'.t i)=eT B (Ah T.t i)
 ob:∀i,i∉T'.wo->i∉T.wo/\(inR T.b i=true->hO B' i (Ad T'.h i)=hO B i (Ad T.h i))
 fr:Fm B T B' T'
theorem Log.refl(B:Phi)(T:Ap):Log B T B T:=⟨rfl,AD _,.refl _ _,fun i h=>⟨h,rfl⟩,fun i h=>⟨h,fun _=>rfl⟩,.refl _ _⟩
theorem Log.trans{B B' B'':Phi}{T T' T'':Ap}(h:Log B T B' T')(k:Log B' T' B'' T''):Log B T B'' T'' := ⟨k.n.trans h.n,Bg h.nx k.nx,h.ext.trans k.ext h.nx,fun i hi=>⟨(h.sl i (k.sl i hi).1).1,(k.sl i hi).2.trans (h.sl i (k.sl i hi).1).2⟩,fun i hi=>⟨(h.ob i (k.ob i hi).1).1,fun e=>((k.ob i hi).2 (by rw[h.fr.b];exact e)).trans ((h.ob i (k.ob i hi).1).2 e)⟩,h.fr.trans k.fr⟩
def TV.pv:TV->PV
 |.v x=>x
 |.cnd _ _ _ x=>x
theorem JI{B:Phi}{T:Ap}{x:TV}(h:TOk B T x):StP T.nx x.pv:=by cases x<;>exact h.1
theorem GN{B B':Phi}{nx:Nat}(h:Ext nx B B'){x:TV}(hx:StP nx x.pv):eT B' x=eT B x:=by
 cases x with
 |v x=>exact Ez h hx
 |cnd a b c x=>show Aa.cnd c (eP B' x)=.cnd c (eP B x);rw[Ez h (x:=x) hx]
theorem HZ{B B':Phi}{nx e:Nat}(h:Ext nx B B'){o:TO}(hr:RfO B nx o):eO B' e o=eO B e o:=by
 cases o with
 |ref p=>show Ai.box e [eP B' p]=.box e [eP B p];rw[Ez h hr.1]
 |rag cs k i s=>show Ai.box e ((At cs).set k (eP B' (.vec i s)))=.box e ((At cs).set k (eP B (.vec i s)));rw[Ez h (x:=.vec i s) hr]
 |_=>rfl
theorem JJ{B B':Phi}{nx m:Nat}(h:Ext nx B B')(hm:nx<=m){o:TO}(hr:RfO B nx o):RfO B' m o:=by
 cases o with
 |ref p=>exact⟨E1 hm hr.1,E0 h hr.1 hr.2.1,hr.2.2⟩
 |rag cs k i s=>exact F3 hr hm
 |_=>trivial
theorem Nf{B B':Phi}{nx id st:Nat}(h:Ext nx B B')(hs:st<nx){o:TO}(k:OkO (B id st) o):OkO (B' id st) o:=by rw[h.s _ _ hs];exact k
section
variable {B:Phi}{T:Ap}
theorem Fo(hI:InvT B T)(n:Nat):(em B T).t.getD n .top=eT B (Ah T.t n):=em_t hI n
theorem JK{tg tg':Nat}{want want' g g':Bool}{x y:PV}{n:Nat}(hl:Ah T.t n=.cnd tg want g x)(h:argP T (some (tg',want',g')) (.t n)=some y):tg=tg'/\want=want'/\x=y:=by
 simp only[argP,hl]at h;cases h1:Nat.beq tg tg'<;>rw[h1]at h
 ·cases h
 ·cases h2:eqB want want'<;>rw[h2]at h;·cases h
  ·cases h;exact⟨Ao.1 h1,Nd.1 h2,rfl⟩
theorem Da(hI:InvT B T):Ar B T none (Ae TabT.E (em B T).t) (em B T).h:=by
 refine⟨fun a x h=>?_,fun id st o h=>⟨FO h,(hI.ob _ _ _ h).2⟩⟩;cases a with
 |t n =>
  have e:Ae TabT.E (em B T).t (.t n)=eT B (Ah T.t n):=Fo hI n;have hs:=hI.sl n;cases hl:Ah T.t n with
  |v y =>simp only[argP,hl]at h;cases h;rw[hl]at e hs;exact⟨e,hs.1,fun _=>hs.2⟩
  |cnd a b c y=>simp only[argP,hl]at h;cases h
 |c v =>
  simp only[argP]at h;split at h
  ·rename_i w hw;cases h;exact⟨(HW hw).symm,trivial,fun _=>trivial⟩
  ·cases h
 |g i=>cases h
theorem wzrm(hI:InvT B T){tg:Nat}{want b:Bool}(hb:gdT want (Ah T.t tg)=some b):Ar B T (some (tg,want,b)) (argU TabT.E (em B T).t) (em B T).h:=by
 refine⟨fun a x h=>?_,fun id st o h=>⟨FO h,(hI.ob _ _ _ h).2⟩⟩;cases a with
 |t n =>
  have e:argU TabT.E (em B T).t (.t n)=unv (eT B (Ah T.t n)):=by show unv ((em B T).t.getD n .top)=_;rw[Fo hI n]
  have hs:=hI.sl n;cases hl:Ah T.t n with
  |v y =>simp only[argP,hl]at h;cases h;rw[hl]at e hs;exact⟨e.trans (GJ _),hs.1,fun _=>hs.2⟩
  |cnd a b' c y =>obtain⟨rfl,rfl,rfl⟩:=JK hl h;rw[hl]at e hs;obtain⟨k1,k2,k3,k4⟩:=hs;rw[hb]at k4;cases k4;exact⟨e,k1,fun ha=>k2 ha⟩
 |c v =>
  simp only[argP]at h;split at h
  ·rename_i w hw;cases h;exact⟨(HW hw).symm,trivial,fun _=>trivial⟩
  ·cases h
 |g i=>cases h
theorem wztg{want g:Bool}{x:TV}(h:gdT want x=some g){b:Bool}(hx:∃c,(c=true->eT B x=.bool b)/\eT B x=.bool b):g=Ab want b (!b):=by
 obtain⟨_,_,hx⟩:=hx;cases x with
 |v y =>
  cases y with
  |s v=>cases v with
   |bool b'=>cases hx;cases h;rfl
   |_=>cases h
  |_=>cases h
 |cnd a c d y=>cases hx
theorem wzvo(hI:InvT B T):Pk B T (Ae TabT.E (em B T).t):=by
 intro a n w b x h hb;have hb:(em B T).t.getD n .top=.bool b:=hb;rw[Fo hI]at hb;cases a with
 |t m =>
  have e:Ae TabT.E (em B T).t (.t m)=eT B (Ah T.t m):=Fo hI m;have hs:=hI.sl m;cases hl:Ah T.t m with
  |v y =>simp only[argP,hl]at h;cases h;rw[e,hl];exact⟨GJ _,GL _ _⟩
  |cnd a b' c y =>obtain⟨rfl,rfl,rfl⟩:=JK hl h;rw[e,hl];rw[hl]at hs;obtain⟨k1,k2,k3,k4⟩:=hs;have:=wztg (B:=B) k4 (b:=b) ⟨true,fun _=>hb,hb⟩;exact⟨rfl,fun e=>this.trans e⟩
 |c v =>
  simp only[argP]at h;split at h
  ·rename_i w hw;cases h;have:Ae TabT.E (em B T).t (.c v)=A7 w:=(HW hw).symm;rw[this];exact⟨SY _,SZ _ _⟩
  ·cases h
 |g i=>cases h
theorem wzvf(hI:InvT B T):Pk B T (argU TabT.E (em B T).t):=by
 intro a n w b x h hb;cases a with
 |t m =>
  have e:argU TabT.E (em B T).t (.t m)=unv (eT B (Ah T.t m)):=by show unv ((em B T).t.getD m .top)=_;rw[Fo hI m]
  have key:argU TabT.E (em B T).t (.t m)=eP B x:=by
   cases hl:Ah T.t m with
   |v y =>simp only[argP,hl]at h;cases h;rw[e,hl];exact GJ _
   |cnd a b' c y =>obtain⟨rfl,rfl,rfl⟩:=JK hl h;rw[e,hl];rfl
  rw[key];exact⟨GJ _,GL _ _⟩
 |c v =>
  simp only[argP]at h;split at h
  ·rename_i w hw;cases h;have:argU TabT.E (em B T).t (.c v)=A7 w:=(HW hw).symm;rw[this];exact⟨SY _,SZ _ _⟩
  ·cases h
 |g i=>cases h
theorem wzq7(hI:InvT B T){tg n:Nat}{want b:Bool}{x:PV}(hb:gdT want (Ah T.t tg)=some b)(h:argP T (some (tg,want,b)) (.t n)=some x):unc b ((em B T).t.getD n .top):=by
 rw[Fo hI];have hs:=hI.sl n;cases hl:Ah T.t n with
 |v y=>exact GL _ _
 |cnd a b' c y =>obtain⟨rfl,rfl,rfl⟩:=JK hl h;rw[hl]at hs;obtain⟨k1,k2,k3,k4⟩:=hs;rw[hb]at k4;cases k4;exact fun e=>e
theorem Ud(hI:InvT B T){tg:Nat}{want b:Bool}(hb:gdT want (Ah T.t tg)=some b):∀{l:List Ac},allA T (some (tg,want,b)) l=true->BW b (em B T).t l
 |[],_=>trivial
 |a :: l,h=>by
  simp only[allA]at h;split at h
  ·rename_i x hx;have ih:=Ud hI hb h;cases a with
   |t n=>exact⟨wzq7 hI hb hx,ih⟩
   |c v=>exact ih
   |g i=>exact ih
  ·cases h
theorem PC(hI:InvT B T){tg n:Nat}{want g w b:Bool}{a:Ac}{x:PV}(hg:gdT want (Ah T.t tg)=some g)(hb:argP T (some (tg,want,g)) (.t n)=some (.s (.bool b)))(h:JD T (some (tg,want,g)) n w a=some x):BW (g&&Ab w b (!b)) (em B T).t [a]:=by
 refine wzr8 fun m e=>?_;subst e;have h:(match argP T (some (tg,want,g)) (.t m) with | some p=>some p | none=>argP T (some (n,w,w)) (.t m))=some x:=h;split at h
 ·rename_i p hp;exact wzu0 (wzq7 hI hg hp)
 ·rw[Fo hI];have hs:=hI.sl m;cases hl:Ah T.t m with
  |v y=>exact GL _ _
  |cnd a b' c y =>
   obtain⟨rfl,rfl,rfl⟩:=JK hl h;rw[hl]at hs;obtain⟨k1,k2,k3,k4⟩:=hs
   have hc:g=true->c=Ab b' b (!b):=by
    intro e;have hn:=hI.sl a;revert hb k4;cases c8:Ah T.t a with
    |v y =>intro hb k4;simp only[argP,c8]at hb;cases hb;cases k4;rfl
    |cnd a2 b2 c2 y2 =>intro hb k4;obtain⟨rfl,rfl,rfl⟩:=JK c8 hb;rw[c8]at hn;obtain⟨q1,q2,q3,q4⟩:=hn;rw[hg]at q4;cases q4;have k4:some (g&&Ab b' b (!b))=some c:=k4;cases k4;rw[e,Gau]
   intro e;simp only[AE]at e;rw[hc e.1];exact e.2
theorem wztp[TabOk](hI:InvT B T){U:Type}{H:List Fe}{ty:List (Nat×CT)}{K:PV->List Nat->Option U}{r:U}{tg:Nat}{want g:Bool}{o:Al}(hg:gdT want (Ah T.t tg)=some g)(be:allO T (some (tg,want,g)) o=true)(h:opV H ty T (some (tg,want,g)) o K=some r):o.unAll TabT.E g (em B T).t:=by
  cases o<;>first
    |exact Ud hI hg be
    | (rename_i c x y
       replace h:MQ H T (some (tg,want,g)) c x y K=some r:=h;unfold MQ at h;split at h
       · rename_i n
         split at h
         · rename_i b hb
           have e0:argU TabT.E (em B T).t (.t n)=.bool b:=((wzrm hI hg).a _ _ hb).1;show BW g (em B T).t [.t n]/\(match argU TabT.E (em B T).t (.t n) with | .bool b=>BW (g&&b) (em B T).t [x]/\BW (g&&!b) (em B T).t [y] | _=>False);rw[e0];refine⟨Ud hI hg be,?_⟩;split at h
           · rename_i p q hp hq
             exact⟨PC (w:=true) hI hg hb hp,PC (w:=false) hI hg hb hq⟩
           · rename_i k p k' q hp hq
             exact⟨PC (w:=true) hI hg hb hp,PC (w:=false) hI hg hb hq⟩
           · cases h
         · cases h
       · cases h)
def GK(T T':Ap):Prop:=∀g,memN g T.gs=true->memN g T'.gs=true/\∀w,gdT w (Ah T'.t g)=gdT w (Ah T.t g)
structure Step(B:Phi)(T:Ap)(o:As)(B':Phi)(T':Ap)(rd:List Nat)(out:Option Nat):Prop where
 inv:InvT B' T'
 log:Log B T B' T'
 gk:GK T T'
 ex:∃v ob,BJ TabT.E TabT.P o (em B T) v rd ob/\out=ob.map (·.1)/\em B' T'=⟨putT (em B T).t o.dst v,putH (em B T).h ob,B.ds⟩
theorem wzwk{T:Ap}{d:Nat}(h:Bw T (some d)=true):d<T.n/\memN d T.gs=false:=by
 have h:Ab (Nat.blt d T.n) (!memN d T.gs) false=true:=h;cases h1:Nat.blt d T.n<;>rw[h1]at h
 ·cases h
 ·exact⟨by simpa [Hb] using h1,by rw[GC]at h;simpa using h⟩
theorem CI{d:Option Tmp}{x:TV}:em B (putS T d x)=⟨putT (em B T).t d (eT B x),(em B T).h,B.ds⟩:=by
 cases d with
 |none=>rfl
 |some d =>show Ay.mk (tl ((d,eT B x) :: eTm B T.t) T.n) (em B T).h B.ds=⟨(tl (eTm B T.t) T.n).set d (eT B x),(em B T).h,B.ds⟩;rw[Hs]
theorem Ng{B:Phi}{T T':Ap}{x:TV}(h:TOk B T x)(hn:T.nx<=T'.nx)(hg:∀g,memN g T.gs=true->memN g T'.gs=true/\Ah T'.t g=Ah T.t g):TOk B T' x:=by
 cases x with
 |v x=>exact⟨E1 hn h.1,h.2⟩
 |cnd a b c x =>obtain⟨k1,k2,k3,k4⟩:=h;exact⟨E1 hn k1,k2,(hg _ k3).1,by rw[(hg _ k3).2];exact k4⟩
theorem jzbt{B B':Phi}{T:Ap}{x:TV}(h:TOk B T x)(he:Ext T.nx B B'):TOk B' T x:=by
 cases x with
 |v x=>exact⟨h.1,E0 he h.1 h.2⟩
 |cnd a b c x=>exact⟨h.1,fun e=>E0 he h.1 (h.2.1 e),h.2.2⟩
theorem Cf(hI:InvT B T){d:Option Tmp}{x:TV}(hd:Bw T d=true)(hx:TOk B T x):InvT B (putS T d x):=by
 cases d with
 |none=>exact hI
 |some d =>
  obtain⟨h1,h2⟩:=wzwk hd;have hm:∀y,TOk B T y->TOk B (putS T (some d) x) y:=fun y hy=>Ng hy (AD _) fun g hg=>⟨hg,by show Ah ((d,x) :: T.t) g=_;rw[AB,Ak (fun e=>by simp only at e;subst e;rw[hg]at h2;cases h2)]⟩;refine⟨fun i=>?_,fun i hi=>?_,hI.ob,hI.fr.ofh rfl rfl rfl rfl rfl rfl⟩
  ·show TOk B _ (Ah ((d,x) :: T.t) i);rw[AB];split
   ·exact hm _ hx
   ·exact hm _ (hI.sl i)
  ·show Ah ((d,x) :: T.t) i=_;have hi:T.n<=i:=hi;rw[AB,Ak (by simp only;omega)];exact hI.hi i hi
theorem B9{d:Option Tmp}{x:TV}:Log B T B (putS T d x):=by
 cases d with
 |none=>exact .refl _ _
 |some d =>refine⟨rfl,AD _,.refl _ _,fun i hi=>?_,fun i hi=>⟨hi,fun _=>rfl⟩,.same rfl rfl id rfl rfl id⟩;have hi:i∉d :: T.w:=hi;simp only[AM,Cg]at hi;refine⟨hi.2,?_⟩;show eT B (Ah ((d,x) :: T.t) i)=_;rw[AB,Ak (fun e=>hi.1 e.symm)]
theorem JL(hI:InvT B T)(tg:Nat):InvT B (addG T tg):=by refine⟨fun i=>Ng (hI.sl i) (AD _) fun g hg=>⟨?_,rfl⟩,hI.hi,hI.ob,hI.fr.ofh rfl rfl rfl rfl rfl rfl⟩;show memN g (tg :: T.gs)=true;exact Fj.2 (Bi _ (Fj.1 hg))
theorem Ia(tg:Nat):Log B T B (addG T tg):=⟨rfl,AD _,.refl _ _,fun i hi=>⟨hi,rfl⟩,fun i hi=>⟨hi,fun _=>rfl⟩,.same rfl rfl id rfl rfl id⟩
theorem PD(hI:InvT B T){tg:Nat}{want b:Bool}(hb:gdT want (Ah T.t tg)=some b):BV ((em B T).t.getD tg .top) want=some b:=by
 rw[Fo hI];revert hb;cases Ah T.t tg with
 |v y =>
  cases y with
  |s v=>cases v with
   |bool b'=>intro h;cases h;cases want<;>rfl
   |_=>intro h;cases h
  |_=>intro h;cases h
 |cnd a c d y =>
  cases y with
  |s v=>cases v with
   |bool b'=>intro h;cases h;cases want<;>rfl
   |_=>intro h;cases h
  |_=>intro h;cases h
theorem Ue{id st nx:Nat}:∀{l:List (Nat×TV)} {i:Nat},Ah (HQ id st nx l) i=(match Ah l i with | .v x=>.v (DC id st nx x) | y=>y)
 |[],i=>rfl
 |(j,.v x) :: l,i=>by
  show Ah ((j,.v (DC id st nx x)) :: HQ id st nx l) i=_;rw[AB,AB];split
  ·rfl
  ·exact Ue
 |(j,.cnd a b c x) :: l,i=>by
  show Ah ((j,.cnd a b c x) :: HQ id st nx l) i=_;rw[AB,AB];split
  ·rfl
  ·exact Ue
theorem wzti{id st nx:Nat}{w:Bool}{x:PV}:gdT w (.v (DC id st nx x))=gdT w (.v x):=by
 cases x with
 |ptr i s off=>show gdT w (.v (Ab (Nat.beq i id) (Ab (Nat.beq s st) _ _) _))=_;cases Nat.beq i id<;>cases Nat.beq s st<;>rfl
 |vec i s=>show gdT w (.v (Ab (Nat.beq i id) (Ab (Nat.beq s st) _ _) _))=_;cases Nat.beq i id<;>cases Nat.beq s st<;>rfl
 |vs i s lo hi=>show gdT w (.v (Ab (Nat.beq i id) (Ab (Nat.beq s st) _ _) _))=_;cases Nat.beq i id<;>cases Nat.beq s st<;>rfl
 |mp i s=>show gdT w (.v (Ab (Nat.beq i id) (Ab (Nat.beq s st) _ _) _))=_;cases Nat.beq i id<;>cases Nat.beq s st<;>rfl
 |own i s=>show gdT w (.v (Ab (Nat.beq i id) (Ab (Nat.beq s st) _ _) _))=_;cases Nat.beq i id<;>cases Nat.beq s st<;>rfl
 |ag cs k i s=>show gdT w (.v (Ab (Nat.beq i id) (Ab (Nat.beq s st) _ _) _))=_;cases Nat.beq i id<;>cases Nat.beq s st<;>rfl
 |_=>rfl
theorem Nh{id st:Nat}{G:HS}{x:PV}(hx:StP T.nx x)(h1:(B id st).ep=G.ep)(h2:(B id st).n=G.n):eP (upd B id T.nx G) (DC id st T.nx x)=eP B x/\StP (T.nx+1) (DC id st T.nx x)/\(OkP B x->OkP (upd B id T.nx G) (DC id st T.nx x)):=by
 have aG:Ext T.nx B (upd B id T.nx G):=GG;have same:eP (upd B id T.nx G) x=eP B x/\StP (T.nx+1) x/\(OkP B x->OkP (upd B id T.nx G) x):=⟨Ez aG hx,E1 (E8 _) hx,E0 aG hx⟩;cases x with
 |ptr i s off =>
  show eP _ (Ab (Nat.beq i id) (Ab (Nat.beq s st) (.ptr i T.nx off) (.ptr i s off)) (.ptr i s off))=_/\StP _ (Ab (Nat.beq i id) (Ab (Nat.beq s st) (.ptr i T.nx off) (.ptr i s off)) (.ptr i s off))/\(_->OkP _ (Ab (Nat.beq i id) (Ab (Nat.beq s st) (.ptr i T.nx off) (.ptr i s off)) (.ptr i s off)));cases h:Nat.beq i id
  ·exact same
  ·cases k:Nat.beq s st;·exact same
   ·obtain rfl:=Ao.1 h;obtain rfl:=Ao.1 k;refine⟨?_,Co _,fun _=>trivial⟩;show Aa.ptr i (upd B i T.nx G i T.nx).ep off=.ptr i (B i s).ep off;rw[B8,h1]
 |vec i s =>
  show eP _ (Ab (Nat.beq i id) (Ab (Nat.beq s st) (.vec i T.nx) (.vec i s)) (.vec i s))=_/\StP _ (Ab (Nat.beq i id) (Ab (Nat.beq s st) (.vec i T.nx) (.vec i s)) (.vec i s))/\(_->OkP _ (Ab (Nat.beq i id) (Ab (Nat.beq s st) (.vec i T.nx) (.vec i s)) (.vec i s)));cases h:Nat.beq i id
  ·exact same
  ·cases k:Nat.beq s st;·exact same
   ·obtain rfl:=Ao.1 h;obtain rfl:=Ao.1 k;refine⟨?_,Co _,fun _=>trivial⟩;show Aa.vec i (upd B i T.nx G i T.nx).ep 0 (upd B i T.nx G i T.nx).n=.vec i (B i s).ep 0 (B i s).n;rw[B8,h1,h2]
 |mp i s =>
  show eP _ (Ab (Nat.beq i id) (Ab (Nat.beq s st) (.mp i T.nx) (.mp i s)) (.mp i s))=_/\StP _ (Ab (Nat.beq i id) (Ab (Nat.beq s st) (.mp i T.nx) (.mp i s)) (.mp i s))/\(_->OkP _ (Ab (Nat.beq i id) (Ab (Nat.beq s st) (.mp i T.nx) (.mp i s)) (.mp i s)));cases h:Nat.beq i id
  ·exact same
  ·cases k:Nat.beq s st;·exact same
   ·obtain rfl:=Ao.1 h;obtain rfl:=Ao.1 k;refine⟨?_,Co _,fun _=>trivial⟩;show Aa.mp i (upd B i T.nx G i T.nx).ep=.mp i (B i s).ep;rw[B8,h1]
 |vs i s lo hi =>
  show eP _ (Ab (Nat.beq i id) (Ab (Nat.beq s st) (.vs i T.nx lo hi) (.vs i s lo hi)) (.vs i s lo hi))=_/\StP _ (Ab (Nat.beq i id) (Ab (Nat.beq s st) (.vs i T.nx lo hi) (.vs i s lo hi)) (.vs i s lo hi))/\(_->OkP _ (Ab (Nat.beq i id) (Ab (Nat.beq s st) (.vs i T.nx lo hi) (.vs i s lo hi)) (.vs i s lo hi)));cases h:Nat.beq i id
  ·exact same
  ·cases k:Nat.beq s st;·exact same
   ·obtain rfl:=Ao.1 h;obtain rfl:=Ao.1 k;refine⟨?_,Co _,fun k=>?_⟩
    ·show Aa.vec i (upd B i T.nx G i T.nx).ep lo.toNat (hi-lo).toNat=.vec i (B i s).ep lo.toNat (hi-lo).toNat;rw[B8,h1]
    ·show 0<=lo/\lo<=hi/\hi<=(upd B i T.nx G i T.nx).n;rw[B8,<-h2];exact k
 |own i s =>
  show eP _ (Ab (Nat.beq i id) (Ab (Nat.beq s st) (.own i T.nx) (.own i s)) (.own i s))=_/\StP _ (Ab (Nat.beq i id) (Ab (Nat.beq s st) (.own i T.nx) (.own i s)) (.own i s))/\(_->OkP _ (Ab (Nat.beq i id) (Ab (Nat.beq s st) (.own i T.nx) (.own i s)) (.own i s)));cases h:Nat.beq i id
  ·exact same
  ·cases k:Nat.beq s st;·exact same
   ·obtain rfl:=Ao.1 h;obtain rfl:=Ao.1 k;refine⟨?_,Co _,fun _=>trivial⟩;show(match (upd B i T.nx G i T.nx).n with | 0=>Aa.nils | n+1=>.vec i (upd B i T.nx G i T.nx).ep 0 (n+1))=(match (B i s).n with | 0=>Aa.nils | n+1=>.vec i (B i s).ep 0 (n+1));rw[B8,h1,h2]
 |ag cs n i s =>
  show eP _ (Ab (Nat.beq i id) (Ab (Nat.beq s st) (.ag cs n i T.nx) (.ag cs n i s)) (.ag cs n i s))=_/\StP _ (Ab (Nat.beq i id) (Ab (Nat.beq s st) (.ag cs n i T.nx) (.ag cs n i s)) (.ag cs n i s))/\(_->OkP _ (Ab (Nat.beq i id) (Ab (Nat.beq s st) (.ag cs n i T.nx) (.ag cs n i s)) (.ag cs n i s)));cases h:Nat.beq i id
  ·exact same
  ·cases k:Nat.beq s st;·exact same
   ·obtain rfl:=Ao.1 h;obtain rfl:=Ao.1 k;refine⟨?_,Co _,fun _=>trivial⟩;show Aa.agg ((At cs).set n (.vec i (upd B i T.nx G i T.nx).ep 0 (upd B i T.nx G i T.nx).n))=.agg ((At cs).set n (.vec i (B i s).ep 0 (B i s).n));rw[B8,h1,h2]
 |s v=>exact same
 |eptr i s j off c x=>exact same
 |yl i st=>exact same
 |kys id' st' g=>exact same
theorem PE{id st nx:Nat}{cs:List SV}{k i s:Nat}:∃s',MS id st nx (.rag cs k i s)=.rag cs k i s'/\DC id st nx (.vec i s)=.vec i s':=by show ∃s',Ab (Nat.beq i id) (Ab (Nat.beq s st) (TO.rag cs k i nx) (.rag cs k i s)) (.rag cs k i s)=.rag cs k i s'/\Ab (Nat.beq i id) (Ab (Nat.beq s st) (PV.vec i nx) (.vec i s)) (.vec i s)=.vec i s';cases Nat.beq i id<;>cases Nat.beq s st<;>exact⟨_,rfl,rfl⟩
theorem jzc0{id st nx:Nat}{p:PV}(h:Fd p=true):Fd (DC id st nx p)=true:=by
 cases p with
 |vec i s=>show Fd (Ab (Nat.beq i id) (Ab (Nat.beq s st) (.vec i nx) (.vec i s)) (.vec i s))=true;cases Nat.beq i id<;>cases Nat.beq s st<;>rfl
 |own i s=>show Fd (Ab (Nat.beq i id) (Ab (Nat.beq s st) (.own i nx) (.own i s)) (.own i s))=true;cases Nat.beq i id<;>cases Nat.beq s st<;>rfl
 |mp i s=>show Fd (Ab (Nat.beq i id) (Ab (Nat.beq s st) (.mp i nx) (.mp i s)) (.mp i s))=true;cases Nat.beq i id<;>cases Nat.beq s st<;>rfl
 |_=>cases h
theorem PF{id st nx:Nat}:∀{l:List (Nat×Nat×TO)} {i:Nat},Ad (GF id st nx l) i=(match Ad l i with | some (s,o)=>some (s,MS id st nx o) | none=>none)
 |[],i=>rfl
 |(j,s,o) :: l,i=>by
  show Ad ((j,s,MS id st nx o) :: GF id st nx l) i=_;rw[AJ,AJ];split
  ·rfl
  ·exact PF
def rsH(T:Ap)(id:Nat)(re:Bool):List (Nat×Nat×TO):=Ab re (match Ad T.h id with
  |some (st,_)=>GF id st T.nx T.h
  | none=>T.h) T.h
def rs(T:Ap)(id:Nat)(re:Bool)(x:TV):TV:=Ab re (match Ad T.h id with
 |some (st,_)=>(match x with | .v x=>.v (DC id st T.nx x) | y=>y)
 | none=>x) x
def rsK(B B':Phi):TV->TV->Prop
 |.v y,z=>∃y',z=.v y'/\(OkP B y->OkP B' y')
 |.cnd a b c y,z=>z=.cnd a b c y
theorem JM{id:Nat}{o:TO}{re:Bool}{i:Nat}:Ah (putO T id o re).t i=rs T id re (Ah T.t i):=by
 show Ah (Ab re (match Ad T.h id with | some (st,_)=>HQ id st T.nx T.t | none=>T.t) T.t) i=_;unfold rs;cases re
 ·rfl
 ·simp only[GC];cases Ad T.h id with
  |none=>rfl
  |some q=>exact Ue
theorem jzf9{id:Nat}{re:Bool}{j st i:Nat}{l:List (TabT.FA i)}{b:Bool}(h:Ad (rsH T id re) j=some (st,.out i l b)):Ad T.h j=some (st,.out i l b):=by
 unfold rsH at h;cases re with
 |false=>exact h
 |true =>
  simp only[GC]at h;cases hx:Ad T.h id with
  |none=>rw[hx]at h;exact h
  |some q =>
   obtain⟨s,o⟩:=q;rw[hx]at h;have h:Ad (GF id s T.nx T.h) j=some (st,.out i l b):=h;rw[PF]at h;cases hy:Ad T.h j with
   |none=>rw[hy]at h;cases h
   |some p =>
    obtain⟨s',o'⟩:=p;rw[hy]at h;cases o' with
    |rag cs k i2 s2 =>obtain⟨s3,q,_⟩:=PE (id:=id) (st:=s) (nx:=T.nx) (cs:=cs) (k:=k) (i:=i2) (s:=s2);have h:some (s',MS id s T.nx (TO.rag cs k i2 s2))=some (st,TO.out i l b):=h;rw[q]at h;cases h
    |_=>cases h<;>rfl
theorem Ib(hI:InvT B T){id:Nat}{ob:TO}{re:Bool}{G:HS}(hid:inR T.b id=true)(aB:OkO G ob)(dB:RfO (upd B id T.nx G) (T.nx+1) ob)(kW:re=true->∃st o0,Ad T.h id=some (st,o0)/\(B id st).ep=G.ep/\(B id st).n=G.n)(bQ:MT ob=true) :
  InvT (upd B id T.nx G) (putO T id ob re)/\Log B T (upd B id T.nx G) (putO T id ob re)/\em (upd B id T.nx G) (putO T id ob re)=⟨(em B T).t,putH (em B T).h (some (id,eO (upd B id T.nx G) G.ep ob)),B.ds⟩:=by
 have aG:Ext T.nx B (upd B id T.nx G):=GG
 have key:∀x,TOk B T x->eT (upd B id T.nx G) (rs T id re x)=eT B x/\StP (T.nx+1) (rs T id re x).pv/\(∀w,gdT w (rs T id re x)=gdT w x) /\
   rsK B (upd B id T.nx G) x (rs T id re x):=by
  intro x hx
  have plain:rs T id re x=x->eT (upd B id T.nx G) (rs T id re x)=eT B x/\StP (T.nx+1) (rs T id re x).pv/\(∀w,gdT w (rs T id re x)=gdT w x) /\
   rsK B (upd B id T.nx G) x (rs T id re x):=by
   intro e;rw[e];refine⟨GN aG (JI hx),E1 (E8 _) (JI hx),fun _=>rfl,?_⟩;cases x with
   |v y=>exact⟨y,rfl,E0 aG hx.1⟩
   |cnd a b c y=>rfl
  cases re with
  |false=>exact plain rfl
  |true =>
   obtain⟨st,o0,h0,h1,h2⟩:=kW rfl;cases x with
   |cnd a b c y=>exact plain (by unfold rs;rw[h0];rfl)
   |v y =>have e:rs T id true (.v y)=.v (DC id st T.nx y):=(by unfold rs;rw[h0];rfl);obtain⟨k1,k2,k3⟩:=Nh (B:=B) (T:=T) (id:=id) (st:=st) (G:=G) hx.1 h1 h2;rw[e];exact⟨k1,k2,fun w=>wzti,_,rfl,k3⟩
 have obs:∀i st' o',Ad (rsH T id re) i=some (st',o')->∃o,Ad T.h i=some (st',o)/\(eO (upd B id T.nx G) (B i st').ep o'=eO B (B i st').ep o)/\(OkO (B i st') o->OkO (B i st') o')/\RfO (upd B id T.nx G) (T.nx+1) o':=by
  intro i st' o' ho;have plain:Ad T.h i=some (st',o')->∃o,Ad T.h i=some (st',o)/\(eO (upd B id T.nx G) (B i st').ep o'=eO B (B i st').ep o)/\(OkO (B i st') o->OkO (B i st') o')/\RfO (upd B id T.nx G) (T.nx+1) o':=fun h=>by obtain⟨_,_,h2⟩:=hI.ob _ _ _ h;exact⟨o',h,HZ aG h2,fun k=>k,JJ aG (E8 _) h2⟩
  cases re with
  |false=>exact plain ho
  |true =>
   obtain⟨st,o0,h0,h1,h2⟩:=kW rfl;have e:rsH T id true=GF id st T.nx T.h:=by unfold rsH;rw[h0];rfl
   rw[e,PF]at ho;cases hx:Ad T.h i with
   |none=>rw[hx]at ho;cases ho
   |some q =>
    obtain⟨s1,o1⟩:=q;rw[hx]at ho;cases ho;obtain⟨_,_,k2⟩:=hI.ob _ _ _ hx;refine⟨o1,rfl,?_,?_,?_⟩
    ·cases o1 with
     |ref p=>show Ai.box _ [eP _ (DC id st T.nx p)]=.box _ [eP B p];rw[(Nh (B:=B) (T:=T) k2.1 h1 h2).1]
     |rag cs k i s =>obtain⟨s',q1,q2⟩:=PE (id:=id) (st:=st) (nx:=T.nx) (cs:=cs) (k:=k) (i:=i) (s:=s);rw[q1];show Ai.box _ ((At cs).set k (eP _ (.vec i s')))=.box _ ((At cs).set k (eP B (.vec i s)));rw[<-q2,(Nh (B:=B) (T:=T) (x:=.vec i s) k2 h1 h2).1]
     |_=>rfl
    ·cases o1 with
     |rag cs k i s =>obtain⟨s',q1,q2⟩:=PE (id:=id) (st:=st) (nx:=T.nx) (cs:=cs) (k:=k) (i:=i) (s:=s);rw[q1];exact fun k=>k
     |_=>exact fun k=>k
    ·cases o1 with
     |ref p =>obtain⟨_,q2,q3⟩:=Nh (B:=B) (T:=T) (id:=id) (st:=st) (G:=G) k2.1 h1 h2;exact⟨q2,q3 k2.2.1,jzc0 k2.2.2⟩
     |rag cs k i s =>obtain⟨s',q1,q2⟩:=PE (id:=id) (st:=st) (nx:=T.nx) (cs:=cs) (k:=k) (i:=i) (s:=s);rw[q1];have:=(Nh (B:=B) (T:=T) (x:=.vec i s) (id:=id) (st:=st) (G:=G) k2 h1 h2).2.1;rw[q2]at this;exact this
     |_=>trivial
 have obn:∀i,Ad (rsH T id re) i=none↔Ad T.h i=none:=by
  intro i;cases re with
  |false=>exact Iff.rfl
  |true =>
   obtain⟨st,o0,h0,_,_⟩:=kW rfl;have e:rsH T id true=GF id st T.nx T.h:=by unfold rsH;rw[h0];rfl
   rw[e,PF];cases Ad T.h i with
   |none=>exact⟨fun _=>rfl,fun _=>rfl⟩
   |some q=>exact⟨fun h=>(by cases h),fun h=>(by cases h)⟩
 have eh:(putO T id ob re).h=(id,T.nx,ob) :: rsH T id re:=rfl
 have obj:∀i,hO (upd B id T.nx G) i (Ad ((id,T.nx,ob) :: rsH T id re) i)=if i=id then eO (upd B id T.nx G) G.ep ob else hO B i (Ad T.h i):=by
  intro i;rw[AJ];by_cases h:i=id
  ·subst h;rw[Aq rfl,Aq rfl];show eO _ (upd B i T.nx G i T.nx).ep ob=_;rw[B8]
  ·rw[Ak (fun e=>h e.symm),Ak h];cases hx:Ad (rsH T id re) i with
   |none=>rw[(obn i).1 hx];rfl
   |some q =>obtain⟨st',o'⟩:=q;obtain⟨o,h1,h2,_,_⟩:=obs i st' o' hx;rw[h1];show eO _ (upd B id T.nx G i st').ep o'=eO B (B i st').ep o;rw[aG.s i st' (hI.ob _ _ _ h1).1,h2]
 have dG:∀i p,Ad ((id,T.nx,ob) :: rsH T id re) i=some p->inR T.b i=true:=by
  intro i p e;rw[AJ]at e;by_cases h:id=i
  ·subst h;exact hid
  ·rw[Ak h]at e;obtain⟨st',o'⟩:=p;obtain⟨o,h1,_⟩:=obs i st' o' e;exact hI.fr.ro _ _ h1
 have iX:Ad T.h 1899≠none->Ad ((id,T.nx,ob) :: rsH T id re) 1899≠none:=by
  intro e;rw[AJ];split
  ·intro e;cases e
  ·exact fun h=>e ((obn _).1 h)
 have kX:∀st i l b,Ad ((id,T.nx,ob) :: rsH T id re) 1899=some (st,.out i l b)->∃st',Ad T.h 1899=some (st',.out i l b):=by
  intro st i l b e;rw[AJ]at e;split at e
  ·cases e;cases bQ
  ·exact⟨_,jzf9 e⟩
 refine⟨⟨fun i=>?_,fun i hi=>?_,fun i st o ho=>?_,hI.fr.of rfl rfl rfl rfl rfl dG kX⟩,⟨rfl,E8 _,aG,fun i hi=>?_,fun i hi=>?_,.same rfl rfl (fun h e=>h (Bi _ e)) rfl rfl (fun e=>iX e)⟩,?_⟩
 ·rw[JM];obtain⟨k1,k2,k3,k4⟩:=key _ (hI.sl i);have hx:=hI.sl i;revert k2 k4 hx;cases Ah T.t i with
  |v y =>intro k2 ⟨y',e,k⟩ hx;rw[e]at k2 ⊢;exact⟨k2,k hx.2⟩
  |cnd a b c y =>intro k2 e hx;have e:rs T id re (.cnd a b c y)=.cnd a b c y:=e;rw[e];obtain⟨q1,q2,q3,q4⟩:=hx;refine⟨E1 (E8 _) q1,fun e=>E0 aG q1 (q2 e),q3,?_⟩;rw[JM,(key _ (hI.sl a)).2.2.1 b,q4]
 ·rw[JM,hI.hi i hi];unfold rs;cases re
  ·rfl
  ·simp only[GC];cases Ad T.h id<;>rfl
 ·have ho:Ad ((id,T.nx,ob) :: rsH T id re) i=some (st,o):=ho;rw[AJ]at ho;by_cases h:id=i
  ·subst h;rw[Aq rfl]at ho;cases ho;exact⟨Co _,by rw[B8];exact aB,dB⟩
  ·rw[Ak h]at ho;obtain⟨o1,h1,_,h3,h4⟩:=obs i st o ho;obtain⟨q1,q2,_⟩:=hI.ob _ _ _ h1;exact⟨Nat.lt_succ_of_lt q1,Nf aG q1 (h3 q2),h4⟩
 ·exact⟨hi,by rw[JM];exact(key _ (hI.sl i)).1⟩
 ·have hi:i∉id :: T.wo:=hi;simp only[AM,Cg]at hi;refine⟨hi.2,fun _=>?_⟩;show hO _ i (Ad ((id,T.nx,ob) :: rsH T id re) i)=_;rw[obj,Ak hi.1]
 ·show Ay.mk (tl (eTm _ (putO T id ob re).t) T.n) (fun i=>hO (upd B id T.nx G) i (Ad ((id,T.nx,ob) :: rsH T id re) i)) B.ds=⟨tl (eTm B T.t) T.n,hset (em B T).h id (eO (upd B id T.nx G) G.ep ob),B.ds⟩;congr 1
  ·refine Nc fun i _=>?_;rw[BT,BT,JM];exact(key _ (hI.sl i)).1
  ·funext i;show hO (upd B id T.nx G) i (Ad ((id,T.nx,ob) :: rsH T id re) i)=if i=id then eO (upd B id T.nx G) G.ep ob else(em B T).h i;rw[obj,em_h]
theorem wzqu[TabOk]{U:Type}{H:List Fe}{ty:List (Nat×CT)}{T:Ap}{G:Gd}{o:Al}{K:PV->List Nat->Option U}{r:U}(h:opV H ty T G o K=some r):o.isCall=false\/(∃f ags,o=.callf f ags/\Pw H T G f ags K=some r)\/(∃x ags,o=.callv x ags/\Px H T G x ags K=some r):=by
 cases o<;>first
  |exact .inl rfl
  |(cases h;done)
  |exact .inr (.inl ⟨_,_,rfl,h⟩)
  |exact .inr (.inr ⟨_,_,rfl,h⟩)
theorem wzqy[TabOk]{U:Type}{H:List Fe}{G:Gd}{ar:Ac->Aa}{hh:Ax}(hA:Ar B T G ar hh){f:FuncId}{ags:List Ac}{K:PV->List Nat->Option U}{r:U}(h:Pw H T G f ags K=some r) : ∃p rd,K p rd=some r/\StP T.nx p/\(act G->OkP B p/\C9 TabT.E TabT.P f (ags.map ar) hh rd (eP B p)):=by
 unfold Pw at h;split at h
 ·rename_i C h1;split at h
  ·rename_i vs h2;split at h
   ·rename_i x hx;replace h:=Fl h;obtain⟨y,h,hy⟩:=h;exact⟨_,_,h,trivial,fun ha=>⟨trivial,by rw[DF hA h2,<-DA h1];exact(C.call (Fb hx) (hy ha)).2.on hh []⟩⟩
   ·cases h
  ·cases h
 ·split at h
  ·unfold ZR at h;split at h
   ·rename_i C x l h1;split at h
    ·rename_i id st g vs h2 h3;split at h
     ·rename_i st' k v m y h4 h5;split at h
      ·rename_i m' h6;obtain⟨p1,h⟩:=An h;obtain⟨p2,h⟩:=An h;obtain⟨z,h,hz⟩:=Fl h;refine⟨_,_,h,trivial,fun ha=>⟨trivial,?_⟩⟩;obtain rfl:=Ao.1 p1;obtain rfl:=Ao.1 p2;unfold ML at h6;split at h6
       ·rename_i e1 e2 _ _;have ho:hh id=.amap (B id st).ep (mEs k v m):=(hA.h _ _ _ h4).1;have hm:mEs k v m=mEs C.k C.v m':=(by obtain⟨C,hC⟩:=C;obtain⟨f,g,ck,cv,a,p,rr,F⟩:=C;simp only at e1 e2 h6;subst e1 e2;cases h6;rfl);rw[hm]at ho;have:=C.ok.ok m' y z hh id _ (hz ha) ho;rw[JZ,(hA.a _ _ h2).1,DF hA h3,<-EW h1];exact fun h' e=>(this h' e).w ⟨.refl _,Fb h5⟩
       ·cases h6
      ·cases h
     ·cases h
    ·cases h
   ·cases h
  ·split at h
   ·unfold ZQ at h;split at h
    ·rename_i M x h1;split at h
     ·rename_i id st h2;refine⟨_,_,h,(hA.a _ _ h2).2.1,fun ha=>⟨trivial,?_⟩⟩;rw[<-EV h1];show C9 _ _ _ [ar x] _ _ _;rw[(hA.a _ _ h2).1];exact(M.ok id _).on hh []
     ·cases h
    ·cases h
   ·unfold ZS at h;split at h
    ·rename_i Q vs h1 h2;split at h
     ·rename_i x hx;obtain⟨y,h,hy⟩:=Fl h;refine⟨_,_,h,trivial,fun ha=>⟨trivial,?_⟩⟩;rw[DF hA h2,<-EU h1];exact((Q.ok.ok x y (hy ha)).w (Fb hx)).on hh []
     ·cases h
    ·cases h
theorem wzq6[TabOk]{U:Type}{H:List Fe}{G:Gd}{ar:Ac->Aa}{hh:Ax}(hA:Ar B T G ar hh){x:Ac}{ags:List Ac}{K:PV->List Nat->Option U}{r:U}(h:Px H T G x ags K=some r) : ∃v,K (.s v) []=some r/\(act G->∃f nb caps,ar x=.fn f nb caps/\Ci TabT.P f=true/\C9 TabT.E TabT.P f (fnArgs nb (ags.map ar) caps) hh [] (A7 v)):=by
 unfold Px at h;split at h
 ·rename_i f nb caps vs h1 h2;split at h
  ·rename_i C h3;split at h
   ·rename_i y hy;replace h:=Fl h;obtain⟨z,h,hz⟩:=h;refine⟨_,h,fun ha=>⟨f,nb,At caps,(hA.a _ _ h1).1,?_⟩⟩;rw[DF hA h2,<-ZK,<-DA h3];obtain⟨k1,k2⟩:=C.call (Fb hy) (hz ha);exact⟨k1,k2.on hh []⟩
   ·cases h
  ·cases h
 ·rename_i i z vs h1 h2;split at h
  ·rename_i y hy;replace h:=@Fl _ _ (inhR i) _ _ _ _ h;obtain⟨w,h,hw⟩:=h;refine⟨_,h,fun ha=>⟨z.f,z.nb,z.caps,(hA.a _ _ h1).1,?_⟩⟩;obtain⟨k1,k2⟩:=z.ok _ _ (hw ha);have e:TabT.aR i w=A7 (retT (Tab.fr i) (cast (Tab.eR i).symm w)):=by rw[<-TabOk.aR,cast_cast,cast_eq]
   rw[TabOk.aA,e]at k2;rw[DF hA h2];refine⟨k1,(k2.w ?_).on hh []⟩;have hw:=Tf hy;unfold fnArgs;exact .append (.append (.refl _) hw) (.refl _)
  ·cases h
 ·cases h
theorem GK.trans{T T' T'':Ap}(h:GK T T')(k:GK T' T''):GK T T'':=fun g hg=>⟨(k g (h g hg).1).1,fun w=>((k g (h g hg).1).2 w).trans ((h g hg).2 w)⟩
theorem E2{d:Option Tmp}{x:TV}(hd:Bw T d=true):GK T (putS T d x):=fun g hg=>by
 cases d with
 |none=>exact⟨hg,fun _=>rfl⟩
 |some d =>refine⟨hg,fun w=>?_⟩;show gdT w (Ah ((d,x) :: T.t) g)=_;rw[AB,Ak];intro e;have:=(wzwk hd).2;have e:d=g:=e;rw[e,hg]at this;cases this
theorem Ni{id:Nat}{ob:TO}{re:Bool}:GK T (putO T id ob re):=fun g hg=>⟨hg,fun w=>by
 rw[JM];unfold rs;cases re
 ·rfl
 ·rw[GC];cases Ad T.h id with
  |none=>rfl
  |some q =>
   cases Ah T.t g with
   |v x=>exact wzti
   |cnd a b c y=>rfl⟩
theorem Uf(tg:Nat):GK T (addG T tg):=fun g hg=>⟨Fj.2 (Bi _ (Fj.1 hg)),fun _=>rfl⟩
theorem wzws(hI:InvT B T):Hp B T (Ae TabT.E (em B T).t) (em B T).h:=⟨Da hI,fun i=>JG hI i,hI.fr.ro⟩
theorem wzq3[TabOk]{U:Type}{H:List Fe}{ty:List (Nat×CT)}{o:As}{K:Ap->List Nat->Option Nat->Option U}{r:U}(hI:InvT B T)(h:DD H ty T o K=some r) : ∃B' T' rd out,K T' rd out=some r/\Step B T o B' T' rd out:=by
 unfold DD at h;split at h
 ·rename_i hg;replace h:=An h;obtain⟨hd,h⟩:=h;cases ho:Ff o.op with
  |true =>
   rw[ho]at h;obtain⟨cD,h⟩:=An (show Ab (Ps T.b o.op) (opO ty T o.op fun v id ob re rd=>Ab (MT ob) (K (putS (putO T id ob re) o.dst (.v v)) rd (some id)) none) none=some r from h);obtain⟨p,id,ob,re,rd,ep,G,hK,V⟩:=wzwc (wzws hI) cD h;obtain⟨bQ,hK⟩:=An hK;obtain⟨i1,l1,e1⟩:=Ib hI V.idr (G:=ghoR G ep ob) Ub V.rfo (re:=re) (id:=id) (ob:=ob) (fun hr=>by obtain⟨st,o0,q1,q2,q3⟩:=V.re hr;exact⟨st,o0,q1,by rw[Nb];exact q2,q3⟩) bQ;have fZ:Bw (putO T id ob re) o.dst=true:=hd;refine⟨_,_,_,_,hK,Cf i1 fZ ⟨V.st,V.okp⟩,l1.trans B9,Ni.trans (E2 fZ),eP (upd B id T.nx (ghoR G ep ob)) p,some (id,eO (upd B id T.nx (ghoR G ep ob)) ep ob),?_,rfl,?_⟩
   ·exact Uc hg (wzrr ho) V.ok V.v V.hrd V.hout fun i ob e=>by cases e;exact V.hid
   ·rw[CI,e1,Nb];rfl
  |false =>
   rw[ho]at h;rcases wzqu h with hc|⟨f,ags,aK,hc⟩|⟨x,ags,aK,hc⟩
   ·obtain⟨p,rd,hK,hs,hq,k⟩:=wzsj (Da hI) (wzvo hI) (fun i=>JG hI i) hc h;obtain⟨k1,k2,k3,k4,k5⟩:=k trivial;refine⟨_,_,_,_,hK,Cf hI hd ⟨hs,k1⟩,B9,E2 hd,eP B p,none,?_,rfl,CI⟩;exact Uc hg hc k2 k3 k4 k5 fun i ob e=>by cases e
   ·obtain⟨p,rd,hK,hs,k⟩:=wzqy (Da hI) hc;obtain⟨k1,k2⟩:=k trivial;refine⟨_,_,_,_,hK,Cf hI hd ⟨hs,k1⟩,B9,E2 hd,eP B p,none,?_,rfl,CI⟩;unfold BJ;rw[hg,aK];exact⟨k2,rfl⟩
   ·obtain⟨v,hK,k⟩:=wzq6 (Da hI) hc;refine⟨_,_,_,_,hK,Cf hI hd ⟨trivial,trivial⟩,B9,E2 hd,A7 v,none,?_,rfl,CI⟩;unfold BJ;rw[hg,aK];exact⟨k trivial,rfl⟩
 ·rename_i tg want hg;split at h
  ·rename_i g hb;replace h:=An h;obtain⟨hd,h⟩:=h;have h:Ab (Ff o.op) none (Ab (allO T (some (tg,want,g)) o.op) (opV H ty T (some (tg,want,g)) o.op fun v rd=>K (putS (addG T tg) o.dst (.cnd tg want g v)) rd none) none)=some r:=h
   have ho:Ff o.op=false:=by
    cases ho:Ff o.op
    ·rfl
    ·rw[ho]at h;cases h
   rw[ho]at h;replace h:=An h;obtain⟨be,h⟩:=h;have hu:=wztp hI hb be h;have ha:=wzrm hI hb (want:=want);have h0:=PD hI hb (want:=want);have tok:∀p,StP T.nx p->(g=true->OkP B p)->TOk B (addG T tg) (.cnd tg want g p):=fun p h1 h2=>⟨h1,h2,Fj.2 (Be ..),hb⟩;have e1:∀p,em B (putS (addG T tg) o.dst (.cnd tg want g p))=⟨putT (em B T).t o.dst (.cnd g (eP B p)),putH (em B T).h none,B.ds⟩:=fun p=>CI (T:=addG T tg);have l1:∀p,Log B T B (putS (addG T tg) o.dst (.cnd tg want g p)):=fun p=>(Ia tg).trans B9;rcases wzqu h with hc|⟨f,ags,aK,hc⟩|⟨x,ags,aK,hc⟩
   ·obtain⟨p,rd,hK,hs,hq,k⟩:=wzsj ha (wzvf hI) (fun i=>JG hI i) hc h;refine⟨_,_,_,_,hK,Cf (JL hI tg) hd (tok p hs fun e=>(k e).1),l1 p,(Uf tg).trans (E2 hd),_,none,?_,rfl,e1 p⟩;refine wzr2 hg hc h0 hq fun e=>?_;obtain⟨k1,k2,k3,k4,k5⟩:=k e;exact⟨hu,k2,k3,k4⟩
   ·obtain⟨p,rd,hK,hs,k⟩:=wzqy ha hc;refine⟨_,_,_,_,hK,Cf (JL hI tg) hd (tok _ hs fun e=>(k e).1),l1 _,(Uf tg).trans (E2 hd),_,none,?_,rfl,e1 _⟩;rw[aK]at hu;unfold BJ;rw[hg,aK];exact⟨_,_,h0,rfl,rfl,fun e=>⟨hu,(k e).2⟩⟩
   ·obtain⟨v,hK,k⟩:=wzq6 ha hc;refine⟨_,_,_,_,hK,Cf (JL hI tg) hd (tok _ trivial fun e=>trivial),l1 _,(Uf tg).trans (E2 hd),_,none,?_,rfl,e1 _⟩;rw[aK]at hu;unfold BJ;rw[hg,aK];refine⟨_,_,h0,rfl,rfl,fun e=>?_⟩;obtain⟨f,nb,caps,q1,q2,q3⟩:=k e;exact⟨f,nb,caps,q1,q2,hu,q3⟩
  ·cases h
end
end
theorem FP{U β:Type}{x:Option U}{f:U->Option β}{r:β}(h:bd x f=some r):∃y,x=some y/\f y=some r:=by
 cases x with
 |none=>cases h
 |some y=>exact⟨y,rfl,h⟩
theorem W.trans:∀{x y:Aa},W x y->∀{z:Aa},W y z->W x z:=by
 intro x y h;induction h with
 |top x=>intro z k;cases k with
  |top=>exact .top _
  |refl=>exact .top _
 |refl x=>intro z k;exact k
 |nil st f=>intro z k;cases k with
  |top=>exact .top _
  |refl=>exact .nil _ _
  |slc=>exact .nil _ _
 |agg l l' hn h ih=>intro z k;cases k with
  |top=>exact .top _
  |refl=>exact .agg _ _ hn h
  |agg _ l'' fH h' =>
   refine .agg _ _ (hn.trans fH) fun i a b ha hb=>?_;have hi:i<l'.length:=by rw[<-hn];exact(AU.1 ha).1
   exact ih i a _ ha (AG hi) (h' i _ b (AG hi) hb)
 |tup l l' hn h ih=>intro z k;cases k with
  |top=>exact .top _
  |refl=>exact .tup _ _ hn h
  |tup _ l'' fH h' =>
   refine .tup _ _ (hn.trans fH) fun i a b ha hb=>?_;have hi:i<l'.length:=by rw[<-hn];exact(AU.1 ha).1
   exact ih i a _ ha (AG hi) (h' i _ b (AG hi) hb)
 |slc st n f f' hn h ih=>intro z k;cases k with
  |top=>exact .top _
  |refl=>exact .slc _ _ _ _ hn h
  |slc _ _ _ f'' fH h' =>
   refine .slc _ _ _ _ (fun k hk=>(hn k hk).trans (fH k hk)) fun k i a b hk ha hb=>?_;have hi:i<(f' k).length:=by rw[<-hn k hk];exact(AU.1 ha).1
   exact ih k i a _ hk ha (AG hi) (h' k i _ b hk (AG hi) hb)
 |cptr f f' n off h ih=>intro z k;cases k with
  |top=>exact .top _
  |refl=>exact .cptr _ _ _ _ h
  |cptr _ f'' _ _ h'=>exact .cptr _ _ _ _ fun j hj=>ih j hj (h' j hj)
 |fn f nb l l' hn h ih=>intro z k;cases k with
  |top=>exact .top _
  |refl=>exact .fn _ _ _ _ hn h
  |fn _ _ _ l'' fH h' =>
   refine .fn _ _ _ _ (hn.trans fH) fun i a b ha hb=>?_;have hi:i<l'.length:=by rw[<-hn];exact(AU.1 ha).1
   exact ih i a _ ha (AG hi) (h' i _ b (AG hi) hb)
theorem Ws.trans{l m k:List Aa}(h:Ws l m)(h':Ws m k):Ws l k:=by
 refine .of (h.at.1.trans h'.at.1) fun i a b ha hb=>?_;have hi:i<m.length:=by rw[<-h.at.1];exact(AU.1 ha).1
 exact(h.at.2 i a _ ha (AG hi)).trans (h'.at.2 i _ b (AG hi) hb)
theorem FVl.map{id:Nat}{o:Ai}{U:Type}{f g:U->Aa}:∀{l:List U},(∀i,i∈l->FV id o (f i) (g i))->FVl id o (l.map f) (l.map g)
 |[],_=>trivial
 |x :: l,h=>⟨h x (Be ..),FVl.map fun i hi=>h i (Bi _ hi)⟩
section
variable {E:Nat->Aa}{P:Program}{ρ:Option Nat}
theorem See.pw{t t':List Aa}{h h':Ax}{ds:List (Nat×Nat)}(ht:Ws t t')(hh:∀i,WO (h i) (h' i))(hd:∀D∈ds,h' D.1=.dfr D.2):See E ⟨t,h,ds⟩ ⟨t',h',ds⟩:=by intro g a w hs;have hH:=hs.hr.wk hh;exact⟨g,⟨hH,ht.rvs hs.tm,hs.df,hd,hs.dn⟩,⟨.refl _ _,rfl,rfl,rfl,AD _,fun _ _ _=>rfl,fun i ho=>.inl ⟨i,(hh i).owned ho,rfl⟩,fun _ h=>.inl h,AD _⟩⟩
theorem Ug:∀{ps:List Tmp} {t t' l l':List Aa},Ws t t'->Ws l l'->Ws (D1 t ps l) (D1 t' ps l')
 |[],t,t',l,l',h,_=>by cases l<;>cases l'<;>exact h
 |p :: ps,t,t',[],[],h,_=>h
 |p :: ps,t,t',x :: l,y :: l',h,k=>by
  refine Ug (ps:=ps) (.of (by simp[h.at.1]) fun i u v hu hv=>?_) k.2;rw[JW]at hu hv;by_cases e:p=i
  ·subst e;simp only[BK]at hu hv;split at hu
   ·split at hv;·cases hu;cases hv;exact k.1
    ·cases hv
   ·cases hu
  ·simp only[e,Df]at hu hv;exact h.at.2 i u v hu hv
 |p :: ps,t,t',[],_ :: _,_,k=>k.elim
 |p :: ps,t,t',_ :: _,[],_,k=>k.elim
theorem BN.w{id ep:Nat}{args args':List Aa}{h:Ax}{K:Aa->Ax->Prop}(R:BN E P id ep args' h K)(ha:Ws args args'):BN E P id ep args h K:=by obtain⟨ts,ps,asg,body,D,eD,h1,h2,h3⟩:=R;exact⟨ts,ps,asg,body,D,eD,h1,ha.at.1.trans h2,fun ρ=>(h3 ρ).see (.pw (Ug (.refl _) ha) (fun i=>Bh.2 trivial) fun D hD=>by cases hD)⟩
theorem BN.mono{id ep:Nat}{args:List Aa}{h:Ax}{K K':Aa->Ax->Prop}(R:BN E P id ep args h K)(hk:∀r h',K r h'->K' r h'):BN E P id ep args h K':=by obtain⟨ts,ps,asg,body,D,eD,h1,h2,h3⟩:=R;refine⟨ts,ps,asg,body,D,eD,h1,h2,fun ρ=>(h3 ρ).mono ?_⟩;rintro e S ⟨he,hid,hb⟩;refine⟨he,hid,hb.mono ?_⟩;intro e' S' hp;cases e'<;>first|exact⟨hp.1,hk _ _ hp.2⟩|exact hp
theorem See.bumpH{t:List Aa}{h:Ax}{ds:List (Nat×Nat)}(id e:Nat)(hg:h id=.gone e):See E ⟨t,h,ds⟩ ⟨t,hset h id (.gone (e+1)),ds⟩:=by
 intro g a w hs;obtain⟨g',H',aD,hb,hf,bF⟩:=hs.hr.bump (id:=id) (e:=e) hg;refine⟨g',⟨H',hs.tm.mono aD,?_,fun D hD=>?_,hs.dn⟩,⟨aD,rfl,rfl,rfl,AD _,fun _ _ _=>rfl,fun i ho=>?_,fun b bk=>.inl (by rw[hf]at bk;exact bk),AD _⟩⟩
 ·have:=hs.df;rw[this];exact Iv fun D _=>by rw[hb]
 ·have hd:=hs.dk D hD;have aL:D.1≠id:=fun e'=>by rw[e',show(⟨t,h,ds⟩:Ay).h id=.gone e from hg]at hd;cases hd
  show(if D.1=id then _ else h D.1)=_;rw[Ak aL];exact hd
 ·by_cases hi:i=id;·subst hi;exfalso;simp[hset,Ai.owned]at ho
  ·refine .inl ⟨i,?_,(hb i).symm⟩;have:hset h id (.gone (e+1)) i=h i:=Ak hi;have ho:(hset h id (.gone (e+1)) i).owned=true:=ho;rw[this]at ho;exact ho
theorem See.veq{t t':List Aa}{h h':Ax}{ds:List (Nat×Nat)}(hl:t'.length=t.length)(hv:∀(i:Nat) (x y:Aa),t[i]?=some x->t'[i]?=some y->VEq x y)(ho:∀i,OEq (h i) (h' i)):See E ⟨t,h,ds⟩ ⟨t',h',ds⟩ :=
 fun g a w hs=>⟨g,SR.veq (S:=⟨t,h,ds⟩) hs hl hv ho,(Stp.refl g h w).oeq ho⟩
theorem PG{t:List Aa}{d:Option Tmp}{v v':Aa}(h:VEq v v'):(putT t d v').length=(putT t d v).length/\∀(i:Nat) (x y:Aa),(putT t d v)[i]?=some x->(putT t d v')[i]?=some y->VEq x y:=by
 cases d with
 |none=>exact⟨rfl,fun i x y hx hy=>by rw[show putT t none v=t from rfl]at hx;rw[show putT t none v'=t from rfl,hx]at hy;cases hy;exact .refl _⟩
 |some d =>
  refine⟨by show(t.set d v').length=(t.set d v).length;simp,fun i x y hx hy=>?_⟩;have hx:(t.set d v)[i]?=some x:=hx;have hy:(t.set d v')[i]?=some y:=hy;rw[JW]at hx hy;split at hx
  ·rename_i e;rw[Aq e]at hy;split at hx
   ·rename_i e2;rw[Aq e2]at hy;cases hx;cases hy;exact h
   ·cases hx
  ·rename_i e;rw[Ak e,hx]at hy;cases hy;exact .refl _
end
theorem wz0d{b:Bool}{X Y:Aa}(h:unc b X/\unc (!b) Y):(Cy b X Y).ok/\(Cy b X Y).rd=[]:=by
 unfold Cy;split
 ·exact⟨h,rfl⟩
 ·split<;>exact⟨h,rfl⟩
 ·exact⟨h,rfl⟩
section
variable [Tab]
section
variable {ρ:Option Nat}{B:Phi}{T:Ap}
theorem Uh{B':Phi}{T':Ap}(fB:InvT B' T')(cr:B'.ds=B.ds)(hn:T'.n=T.n)(ht:∀i,W (eT B (Ah T.t i)) (eT B' (Ah T'.t i)))(hh:∀i,WO (hO B i (Ad T.h i)) (hO B' i (Ad T'.h i))):See TabT.E (em B T) (em B' T'):=by
 have hd:=HU fB;have e:em B' T'=⟨tl (eTm B' T'.t) T'.n,(em B' T').h,B.ds⟩:=by rw[<-cr];rfl
 rw[e];refine .pw (t:=tl (eTm B T.t) T.n) (t':=tl (eTm B' T'.t) T'.n) ?_ (fun i=>?_) (by rw[<-cr];exact hd)
 ·rw[hn];refine .of (by rw[CX,CX]) fun i x y hx hy=>?_;rw[DS]at hx hy;split at hx
  ·rename_i hi;rw[Aq hi]at hy;cases hx;cases hy;rw[BT,BT];exact ht i
  ·cases hx
 ·exact hh i
theorem GO{id st:Nat}{o:TO}:∀{l:List (Nat×TV)} {i:Nat},Ah (frzT id st o l) i=(match Ah l i with | .v x=>.v (frzP id st o x) | y=>y)
 |[],i=>rfl
 |(j,.v x) :: l,i=>by
  show Ah ((j,.v (frzP id st o x)) :: frzT id st o l) i=_;rw[AB,AB];split
  ·rfl
  ·exact GO
 |(j,.cnd a b c x) :: l,i=>by
  show Ah ((j,.cnd a b c x) :: frzT id st o l) i=_;rw[AB,AB];split
  ·rfl
  ·exact GO
theorem wzvu{id st:Nat}{o:TO}{x:PV}(h:JE id st x=false):frzP id st o x=x:=by
 cases x with
 |ptr i s off =>
  have h:Ab (Nat.beq i id) (Nat.beq s st) false=false:=h;show Ab (Nat.beq i id) (Ab (Nat.beq s st) _ _) _=_;cases h1:Nat.beq i id
  ·rfl
  ·rw[h1]at h;have h:Nat.beq s st=false:=h;rw[h];rfl
 |vec i s =>
  have h:Ab (Nat.beq i id) (Nat.beq s st) false=false:=h;show Ab (Nat.beq i id) (Ab (Nat.beq s st) _ _) _=_;cases h1:Nat.beq i id
  ·rfl
  ·rw[h1]at h;have h:Nat.beq s st=false:=h;rw[h];rfl
 |own i s =>
  have h:Ab (Nat.beq i id) (Nat.beq s st) false=false:=h;show Ab (Nat.beq i id) (Ab (Nat.beq s st) _ _) _=_;cases h1:Nat.beq i id
  ·rfl
  ·rw[h1]at h;have h:Nat.beq s st=false:=h;rw[h];rfl
 |ag cs n i s =>
  have h:Ab (Nat.beq i id) (Nat.beq s st) false=false:=h;show Ab (Nat.beq i id) (Ab (Nat.beq s st) _ _) _=_;cases h1:Nat.beq i id
  ·rfl
  ·rw[h1]at h;have h:Nat.beq s st=false:=h;rw[h];rfl
 |s v=>rfl
 |eptr i s j off c x=>rfl
 |vs i s lo hi=>rfl
 |mp i s=>rfl
 |yl i st=>rfl
 |kys id' st' g=>rfl
theorem PH{id st i:Nat}:∀{l:List (Nat×TV)} {w:List Nat},i∉frzW id st l w->i∉w/\∀x,Ah l i=.v x->JE id st x=false
 |[],w,h=>⟨h,fun x hx=>by cases hx;rfl⟩
 |(j,.v y) :: l,w,h=>by
  have h:i∉Ab (JE id st y) (j :: frzW id st l w) (frzW id st l w):=h;cases hr:JE id st y<;>rw[hr]at h
  ·obtain⟨h1,h2⟩:=PH h;refine⟨h1,fun x hx=>?_⟩;rw[AB]at hx;split at hx
   ·cases hx;exact hr
   ·exact h2 x hx
  ·have h:i∉j :: frzW id st l w:=h;simp only[AM,Cg]at h;obtain⟨h1,h2⟩:=PH h.2;refine⟨h1,fun x hx=>?_⟩;rw[AB,Ak (fun e=>h.1 e.symm)]at hx;exact h2 x hx
 |(j,.cnd a b c y) :: l,w,h=>by
  have h:i∉frzW id st l w:=h;obtain⟨h1,h2⟩:=PH h;refine⟨h1,fun x hx=>?_⟩;rw[AB]at hx;split at hx
  ·cases hx
  ·exact h2 x hx
theorem Nj{B':Phi}{id st nx:Nat}{o:TO}{x:PV}(aG:Ext nx B B')(hx:StP nx x)(hO:OkO (B id st) o) :
  StP (nx+1) (frzP id st o x)/\(OkP B x->OkP B' (frzP id st o x))/\((∃c,o=.own c [])->W (eP B x) (eP B' (frzP id st o x)))/\((∀c,o≠.own c [])->FV id (eO B (B id st).ep o) (eP B x) (eP B' (frzP id st o x))):=by
 have same:StP (nx+1) x/\(OkP B x->OkP B' x)/\((∃c,o=.own c [])->W (eP B x) (eP B' x))/\((∀c,o≠.own c [])->FV id (eO B (B id st).ep o) (eP B x) (eP B' x)):=by
  refine⟨E1 (E8 _) hx,E0 aG hx,fun _=>?_,fun _=>?_⟩
  ·rw[Ez aG hx];exact .refl _
  ·rw[Ez aG hx];exact .refl _
 cases x with
 |ptr i s off =>
  have e:frzP id st o (.ptr i s off)=Ab (Nat.beq i id) (Ab (Nat.beq s st) (match (generalizing:=false) o with | .box cs=>.s (.cptr cs off) | _=>.ptr i s off) (.ptr i s off)) (.ptr i s off):=rfl;rw[e];cases h1:Nat.beq i id
  ·exact same
  ·cases h2:Nat.beq s st;·exact same
   ·obtain rfl:=Ao.1 h1;obtain rfl:=Ao.1 h2;cases o with
    |box cs =>refine⟨trivial,fun _=>trivial,fun⟨c,e⟩=>(by cases e),fun _=>?_⟩;have:=FV.box (id:=i) (o:=eO B (B i s).ep (.box cs)) (B i s).ep off (At cs) (fun k=>(At cs).getD k .top) rfl (fun _ _=>rfl);rw[AT]at this;exact this
    |gone=>exact same
    |vec c l=>exact same
    |own c l=>exact same
    |ref q=>exact same
    |map k v l=>exact same
    |out i l b=>exact same
    |rag cs2 k2 i2 s2=>exact same
 |vec i s =>
  have e:frzP id st o (.vec i s)=Ab (Nat.beq i id) (Ab (Nat.beq s st) (match (generalizing:=false) o with | .vec c l=>.s (.slc c l) | _=>.vec i s) (.vec i s)) (.vec i s):=rfl;rw[e];cases h1:Nat.beq i id
  ·exact same
  ·cases h2:Nat.beq s st;·exact same
   ·obtain rfl:=Ao.1 h1;obtain rfl:=Ao.1 h2;cases o with
    |vec c l =>refine⟨trivial,fun _=>trivial,fun⟨c,e⟩=>(by cases e),fun _=>?_⟩;show FV i _ (.vec i (B i s).ep 0 (B i s).n) (.slc c.n l.length (Az c.cA l));have hO:(B i s).n=l.length/\(B i s).f=Az c.cA l:=hO;rw[hO.1];exact .vec _ _ l.length (Az c.cA l) 0 l.length _ rfl (by omega) fun k _=>by rw[Dj]
    |gone=>exact same
    |box cs=>exact same
    |own c l=>exact same
    |ref q=>exact same
    |map k v l=>exact same
    |out i l b=>exact same
    |rag cs2 k2 i2 s2=>exact same
 |own i s =>
  have e:frzP id st o (.own i s)=Ab (Nat.beq i id) (Ab (Nat.beq s st) (match (generalizing:=false) o with | .own c l=>.s (.slc c l) | _=>.own i s) (.own i s)) (.own i s):=rfl;rw[e];cases h1:Nat.beq i id
  ·exact same
  ·cases h2:Nat.beq s st;·exact same
   ·obtain rfl:=Ao.1 h1;obtain rfl:=Ao.1 h2;cases o with
    |own c l =>
     have hO:(B i s).n=l.length/\(B i s).f=Az c.cA l:=hO;have e1:eP B (.own i s)=match l.length with | 0=>.nils | n+1=>.vec i (B i s).ep 0 (n+1):=by show(match (B i s).n with | 0=>Aa.nils | n+1=>.vec i (B i s).ep 0 (n+1))=_;rw[hO.1]
     rw[e1];refine⟨trivial,fun _=>trivial,fun⟨c',e⟩=>?_,fun aL=>?_⟩
     ·cases e;exact .nil _ _
     ·cases l with
      |nil=>exact absurd rfl (aL c)
      |cons y l =>show FV i (.vec (B i s).ep c.n (l.length+1) (Az c.cA (y :: l))) (.vec i (B i s).ep 0 (l.length+1)) (.slc c.n (l.length+1) (Az c.cA (y :: l)));exact .vec _ _ (l.length+1) (Az c.cA (y :: l)) 0 (l.length+1) _ rfl (by omega) fun k _=>by rw[Dj]
    |gone=>exact same
    |box cs=>exact same
    |vec c l=>exact same
    |ref q=>exact same
    |map k v l=>exact same
    |out i l b=>exact same
    |rag cs2 k2 i2 s2=>exact same
 |ag cs n i s =>
  have e:frzP id st o (.ag cs n i s)=Ab (Nat.beq i id) (Ab (Nat.beq s st) (match (generalizing:=false) o with | .vec c l=>.s (.agg (cs.set n (.slc c l))) | _=>.ag cs n i s) (.ag cs n i s)) (.ag cs n i s):=rfl;rw[e];cases h1:Nat.beq i id
  ·exact same
  ·cases h2:Nat.beq s st;·exact same
   ·obtain rfl:=Ao.1 h1;obtain rfl:=Ao.1 h2;cases o with
    |vec c l =>have hO:(B i s).n=l.length/\(B i s).f=Az c.cA l:=hO;have e2:eP B' (.s (.agg (cs.set n (.slc c l))))=.agg ((At cs).set n (A7 (.slc c l))):=(by show Aa.agg (At _)=_;rw[ZA]);refine⟨trivial,fun _=>trivial,fun⟨c',e⟩=>(by cases e),fun _=>?_⟩;show FV i _ (.agg ((At cs).set n (.vec i (B i s).ep 0 (B i s).n))) (eP B' (.s (.agg (cs.set n (.slc c l)))));rw[e2,hO.1];exact .aggl (TX (l:=At cs) (k:=n) (.vec _ _ l.length (Az c.cA l) 0 l.length _ rfl (by omega) fun k _=>by rw[Dj]))
    |gone=>exact same
    |box cs=>exact same
    |own c l=>exact same
    |ref q=>exact same
    |map k v l=>exact same
    |out i l b=>exact same
    |rag cs2 k2 i2 s2=>exact same
 |s v=>exact same
 |eptr i s j off c x=>exact same
 |vs i s lo hi=>exact same
 |yl i st=>exact same
 |kys id' st' g=>exact same
 |mp i s=>exact same
theorem wzvp{id st:Nat}{o:TO}{w:Bool}{x:TV}:gdT w (match x with | .v x=>.v (frzP id st o x) | y=>y)=gdT w x:=by
 cases x with
 |cnd a b c y=>rfl
 |v x =>
  cases x with
  |ptr i s off=>show gdT w (.v (Ab (Nat.beq i id) (Ab (Nat.beq s st) _ _) _))=_;cases Nat.beq i id<;>cases Nat.beq s st<;>cases o<;>rfl
  |vec i s=>show gdT w (.v (Ab (Nat.beq i id) (Ab (Nat.beq s st) _ _) _))=_;cases Nat.beq i id<;>cases Nat.beq s st<;>cases o<;>rfl
  |own i s=>show gdT w (.v (Ab (Nat.beq i id) (Ab (Nat.beq s st) _ _) _))=_;cases Nat.beq i id<;>cases Nat.beq s st<;>cases o<;>rfl
  |ag cs n i s=>show gdT w (.v (Ab (Nat.beq i id) (Ab (Nat.beq s st) _ _) _))=_;cases Nat.beq i id<;>cases Nat.beq s st<;>cases o<;>rfl
  |_=>rfl
theorem jzd9{id st:Nat}{o:TO}{x:PV}(h:Fd x=true):(∃v,frzP id st o x=.s v)\/frzP id st o x=x:=by
 cases x with
 |vec i s =>have e:frzP id st o (.vec i s)=Ab (Nat.beq i id) (Ab (Nat.beq s st) (match (generalizing:=false) o with | .vec c l=>.s (.slc c l) | _=>.vec i s) (.vec i s)) (.vec i s):=rfl;rw[e];cases Nat.beq i id<;>cases Nat.beq s st<;>cases o<;>first|exact .inr rfl|exact .inl ⟨_,rfl⟩
 |own i s =>have e:frzP id st o (.own i s)=Ab (Nat.beq i id) (Ab (Nat.beq s st) (match (generalizing:=false) o with | .own c l=>.s (.slc c l) | _=>.own i s) (.own i s)) (.own i s):=rfl;rw[e];cases Nat.beq i id<;>cases Nat.beq s st<;>cases o<;>first|exact .inr rfl|exact .inl ⟨_,rfl⟩
 |mp i s=>exact .inr rfl
 |_=>cases h
theorem Nk{id st:Nat}{o:TO}:∀{l:List (Nat×Nat×TO)} {i:Nat},Ad (frzH id st o l) i=(match Ad l i with | some (s,x)=>some (s,frzO id st o x) | none=>none)
 |[],i=>rfl
 |(j,s,x) :: l,i=>by
  show Ad ((j,s,frzO id st o x) :: frzH id st o l) i=_;rw[AJ,AJ];split
  ·rfl
  ·exact Nk
theorem PI{id st i:Nat}:∀{l:List (Nat×Nat×TO)} {w:List Nat},i∉Fg id st l w->i∉w/\∀s x,Ad l i=some (s,x)->MU id st x=false
 |[],w,h=>⟨h,fun s x hx=>by cases hx⟩
 |(j,s0,y) :: l,w,h=>by
  have h:i∉Ab (MU id st y) (j :: Fg id st l w) (Fg id st l w):=h;cases hr:MU id st y<;>rw[hr]at h
  ·obtain⟨h1,h2⟩:=PI h;refine⟨h1,fun s x hx=>?_⟩;rw[AJ]at hx;split at hx
   ·cases hx;exact hr
   ·exact h2 s x hx
  ·have h:i∉j :: Fg id st l w:=h;simp only[AM,Cg]at h;obtain⟨h1,h2⟩:=PI h.2;refine⟨h1,fun s x hx=>?_⟩;rw[AJ,Ak (fun e=>h.1 e.symm)]at hx;exact h2 s x hx
theorem jzg9{id st:Nat}{o x:TO}{B:Phi}{nx:Nat}(h:MU id st x=false)(hr:RfO B nx x):frzO id st o x=x:=by
 cases x with
 |ref p =>show(match frzP id st o p with | .s v=>TO.box [v] | q=>.ref q)=.ref p;rw[wzvu h];cases p<;>first|rfl|cases hr.2.2
 |rag cs n i s =>
  have h:Ab (Nat.beq i id) (Nat.beq s st) false=false:=h;show Ab (Nat.beq i id) (Ab (Nat.beq s st) _ _) _=_;cases h1:Nat.beq i id
  ·rfl
  ·rw[h1]at h;have h:Nat.beq s st=false:=h;rw[h];rfl
 |_=>rfl
theorem jz4f{id st:Nat}{o:TO}{cs:List SV}{n i s:Nat}:(∃c l,o=.vec c l/\i=id/\s=st/\frzO id st o (.rag cs n i s)=.box (cs.set n (.slc c l)))\/frzO id st o (.rag cs n i s)=.rag cs n i s:=by
 have e:frzO id st o (.rag cs n i s)=Ab (Nat.beq i id) (Ab (Nat.beq s st) (match (generalizing:=false) o with | .vec c l=>.box (cs.set n (.slc c l)) | _=>.rag cs n i s) (.rag cs n i s)) (.rag cs n i s):=rfl;rw[e];cases h1:Nat.beq i id
 ·exact .inr rfl
 ·cases h2:Nat.beq s st;·exact .inr rfl
  ·cases o with
   |vec c l=>exact .inl ⟨c,l,rfl,Ao.1 h1,Ao.1 h2,rfl⟩
   |_=>exact .inr rfl
theorem Ui{B':Phi}{id st nx e:Nat}{o x:TO}{G:HS}(aG:Ext nx B B')(hr:RfO B nx x)(hk:OkO G x)(hO:OkO (B id st) o) :
  RfO B' (nx+1) (frzO id st o x)/\OkO G (frzO id st o x)/\((∃c,o=.own c [])->WO (eO B e x) (eO B' e (frzO id st o x)))/\((∀c,o≠.own c [])->OF id (eO B (B id st).ep o) (eO B e x) (eO B' e (frzO id st o x))):=by
 cases x with
 |ref p =>
  obtain⟨k1,k2,k3⟩:=hr;obtain⟨q1,q2,q3,q4⟩:=Nj (id:=id) (st:=st) (o:=o) aG k1 hO;rcases jzd9 (id:=id) (st:=st) (o:=o) k3 with ⟨v,hv⟩|hv
  ·have ef:frzO id st o (.ref p)=.box [v]:=by show(match frzP id st o p with | .s v=>TO.box [v] | q=>.ref q)=_;rw[hv]
   rw[hv]at q3 q4;rw[ef];exact⟨trivial,trivial,fun h=>D3.2 ⟨rfl,q3 h,trivial⟩,fun h=>.inr (.inl ⟨e,[eP B p],[A7 v],rfl,rfl,q4 h,trivial⟩)⟩
  ·have ef:frzO id st o (.ref p)=.ref p:=by
    show(match frzP id st o p with | .s v=>TO.box [v] | q=>.ref q)=_;rw[hv];cases p<;>first|rfl|cases k3
   rw[ef];have e0:eO B' e (.ref p)=eO B e (.ref p):=HZ aG ⟨k1,k2,k3⟩;rw[e0];exact⟨JJ aG (E8 _) ⟨k1,k2,k3⟩,hk,fun _=>Bh.2 trivial,fun _=>.inl rfl⟩
 |rag cs n i s =>
  rcases jz4f (id:=id) (st:=st) (o:=o) (cs:=cs) (n:=n) (i:=i) (s:=s) with ⟨c,l,rfl,rfl,rfl,hf⟩|hf
  ·rw[hf];have hO:(B i s).n=l.length/\(B i s).f=Az c.cA l:=hO;have e1:eO B e (.rag cs n i s)=.box e ((At cs).set n (.vec i (B i s).ep 0 l.length)):=by show Ai.box e ((At cs).set n (.vec i (B i s).ep 0 (B i s).n))=_;rw[hO.1]
   have e2:eO B' e (.box (cs.set n (.slc c l)))=.box e ((At cs).set n (A7 (.slc c l))):=by show Ai.box e (At _)=_;rw[ZA]
   rw[e1,e2];exact⟨trivial,trivial,fun⟨c',e⟩=>(by cases e),fun _=>.inr (.inl ⟨e,_,_,rfl,rfl,TX (.vec _ _ l.length (Az c.cA l) 0 l.length _ rfl (by omega) fun k _=>by rw[Dj])⟩)⟩
  ·rw[hf];have e0:eO B' e (.rag cs n i s)=eO B e (.rag cs n i s):=HZ aG hr;rw[e0];exact⟨JJ aG (E8 _) hr,hk,fun _=>Bh.2 trivial,fun _=>.inl rfl⟩
 |gone=>exact⟨trivial,hk,fun _=>Bh.2 trivial,fun _=>.inl rfl⟩
 |box cs=>exact⟨trivial,hk,fun _=>Bh.2 trivial,fun _=>.inl rfl⟩
 |vec c l=>exact⟨trivial,hk,fun _=>Bh.2 trivial,fun _=>.inl rfl⟩
 |own c l=>exact⟨trivial,hk,fun _=>Bh.2 trivial,fun _=>.inl rfl⟩
 |map k v l=>exact⟨trivial,hk,fun _=>Bh.2 trivial,fun _=>.inl rfl⟩
 |out i l b=>exact⟨trivial,hk,fun _=>Bh.2 trivial,fun _=>.inl rfl⟩
theorem wzu6(hI:InvT B T)(id:Nat):∃B',InvT B' (frz1 T id)/\Log B T B' (frz1 T id)/\(frz1 T id).gs=T.gs/\See TabT.E (em B T) (em B' (frz1 T id)):=by
 have none':frz1 T id=T->∃B',InvT B' (frz1 T id)/\Log B T B' (frz1 T id)/\(frz1 T id).gs=T.gs/\See TabT.E (em B T) (em B' (frz1 T id)):=fun e=>by rw[e];exact⟨B,hI,.refl _ _,rfl,.refl _⟩
 have main:∀st o,Ad T.h id=some (st,o)->o≠.gone->((∀p,o≠.ref p)/\∀cs n i s,o≠.rag cs n i s)->(∀k v l,o≠.map k v l)->MT o=true->frz1 T id=⟨frzT id st o T.t,(id,T.nx,.gone) :: frzH id st o T.h,T.nx+1,T.n,T.gs,frzW id st T.t T.w,id :: Fg id st T.h T.wo,T.b,T.rf⟩->∃B',InvT B' (frz1 T id)/\Log B T B' (frz1 T id)/\(frz1 T id).gs=T.gs/\See TabT.E (em B T) (em B' (frz1 T id)):=by
  intro st o ho aL lZ fK bQ e;rw[e];obtain⟨aH,aB,_⟩:=hI.ob _ _ _ ho;have aG:Ext T.nx B (upd B id T.nx ⟨(B id st).ep+1,0,fun _=>[]⟩):=GG
  have obs:∀i s x',Ad (frzH id st o T.h) i=some (s,x')->∃x,Ad T.h i=some (s,x)/\x'=frzO id st o x:=by
   intro i s x' h;rw[Nk]at h;cases hx:Ad T.h i with
   |none=>rw[hx]at h;cases h
   |some q=>obtain⟨s1,x⟩:=q;rw[hx]at h;cases h;exact⟨x,rfl,rfl⟩
  have obn:∀i,Ad T.h i=none->Ad (frzH id st o T.h) i=none:=fun i h=>by rw[Nk,h]
  have at_id:hO (upd B id T.nx ⟨(B id st).ep+1,0,fun _=>[]⟩) id (Ad ((id,T.nx,TO.gone) :: frzH id st o T.h) id)=.gone ((B id st).ep+1):=by rw[AJ,Aq rfl];show Ai.gone (upd B id T.nx _ id T.nx).ep=_;rw[B8]
  have at_i:∀i,i≠id->(Ad T.h i=none/\hO (upd B id T.nx ⟨(B id st).ep+1,0,fun _=>[]⟩) i (Ad ((id,T.nx,TO.gone) :: frzH id st o T.h) i)=B.X i) \/ ∃s x,Ad T.h i=some (s,x)/\hO (upd B id T.nx ⟨(B id st).ep+1,0,fun _=>[]⟩) i (Ad ((id,T.nx,TO.gone) :: frzH id st o T.h) i)=eO (upd B id T.nx ⟨(B id st).ep+1,0,fun _=>[]⟩) (B i s).ep (frzO id st o x):=by
   intro i aL;rw[AJ,Ak (fun e=>aL e.symm)];cases hx:Ad T.h i with
   |none=>rw[obn i hx];exact .inl ⟨rfl,rfl⟩
   |some q =>obtain⟨s,x⟩:=q;refine .inr ⟨s,x,rfl,?_⟩;rw[Nk,hx];show eO _ (upd B id T.nx _ i s).ep _=_;rw[aG.s i s (hI.ob _ _ _ hx).1]
  have hid:=hI.fr.ro _ _ ho
  have dG:∀i p,Ad ((id,T.nx,TO.gone) :: frzH id st o T.h) i=some p->inR T.b i=true:=by
   intro i p e;rw[AJ]at e;by_cases h:id=i
   ·subst h;exact hid
   ·rw[Ak h]at e;obtain⟨s,x'⟩:=p;obtain⟨x,h1,_⟩:=obs i s x' e;exact hI.fr.ro _ _ h1
  have kX:∀s j l b,Ad ((id,T.nx,TO.gone) :: frzH id st o T.h) 1899=some (s,.out j l b)->∃st',Ad T.h 1899=some (st',.out j l b):=by
   intro s j l b e;rw[AJ]at e;split at e
   ·cases e
   ·obtain⟨x,h1,h2⟩:=obs _ _ _ e;cases x with
    |ref p =>have h2:TO.out j l b=(match frzP id st o p with | .s v=>TO.box [v] | q=>.ref q):=h2;split at h2<;>cases h2
    |rag cs n i s2 =>rcases jz4f (id:=id) (st:=st) (o:=o) (cs:=cs) (n:=n) (i:=i) (s:=s2) with ⟨c,l2,_,_,_,hf⟩|hf<;>(rw[hf]at h2;cases h2)
    |out a b c=>cases h2;exact⟨_,h1⟩
    |_=>cases h2
  have iX:Ad T.h 1899≠none->Ad ((id,T.nx,TO.gone) :: frzH id st o T.h) 1899≠none:=by
   intro e;rw[AJ];split
   ·intro e;cases e
   ·rw[Nk];cases hx:Ad T.h 1899 with
    |none=>exact absurd hx e
    |some q=>intro e;cases e
  have kY:Fr (upd B id T.nx ⟨(B id st).ep+1,0,fun _=>[]⟩) ⟨frzT id st o T.t,(id,T.nx,.gone) :: frzH id st o T.h,T.nx+1,T.n,T.gs,frzW id st T.t T.w,id :: Fg id st T.h T.wo,T.b,T.rf⟩:=hI.fr.of rfl rfl rfl rfl rfl dG kX;refine⟨upd B id T.nx ⟨(B id st).ep+1,0,fun _=>[]⟩,⟨fun i=>?_,fun i hi=>?_,fun i s o' cN=>?_,kY⟩,⟨rfl,E8 _,aG,fun i hi=>?_,fun i hi=>?_,.same rfl rfl (fun h=>(PI (fun e=>h (Bi _ e))).1) rfl rfl (fun e=>iX e)⟩,rfl,?_⟩
  ·show TOk _ _ (Ah (frzT id st o T.t) i);rw[GO];have hx:=hI.sl i;revert hx;cases Ah T.t i with
   |v x =>intro hx;obtain⟨k1,k2,k3,k4⟩:=Nj (id:=id) (st:=st) (o:=o) aG hx.1 aB;exact⟨k1,k2 hx.2⟩
   |cnd a b c y =>intro hx;obtain⟨q1,q2,q3,q4⟩:=hx;refine⟨E1 (E8 _) q1,fun e=>E0 aG q1 (q2 e),q3,?_⟩;show gdT b (Ah (frzT id st o T.t) a)=_;rw[GO,<-q4];exact wzvp
  ·show Ah (frzT id st o T.t) i=_;rw[GO,hI.hi i hi];rfl
  ·have cN:Ad ((id,T.nx,TO.gone) :: frzH id st o T.h) i=some (s,o'):=cN;rw[AJ]at cN;by_cases h:id=i
   ·rw[Aq h]at cN;cases cN;exact⟨Co _,trivial,trivial⟩
   ·rw[Ak h]at cN;obtain⟨x,h1,rfl⟩:=obs i s o' cN;obtain⟨q1,q2,q3⟩:=hI.ob _ _ _ h1;obtain⟨k1,k2,_,_⟩:=Ui (id:=id) (st:=st) (o:=o) (e:=0) aG q3 q2 aB;exact⟨Nat.lt_succ_of_lt q1,Nf aG q1 k2,k1⟩
  ·obtain⟨h1,h2⟩:=PH (l:=T.t) (w:=T.w) hi;refine⟨h1,?_⟩;show eT _ (Ah (frzT id st o T.t) i)=_;rw[GO];have hx:=hI.sl i;revert hx h2;cases Ah T.t i with
   |v x =>intro h2 hx;show eP _ (frzP id st o x)=eP B x;rw[wzvu (h2 x rfl)];exact Ez aG hx.1
   |cnd a b c y=>intro _ hx;exact GN aG (x:=.cnd a b c y) hx.1
  ·have hi:i∉id :: Fg id st T.h T.wo:=hi;simp only[AM,Cg]at hi;obtain⟨h1,h2⟩:=PI hi.2;refine⟨h1,fun _=>?_⟩;show hO _ i (Ad ((id,T.nx,TO.gone) :: frzH id st o T.h) i)=_;rcases at_i i hi.1 with ⟨k1,k2⟩|⟨s,x,k1,k2⟩
   ·rw[k2,k1];rfl
   ·obtain⟨_,_,q3⟩:=hI.ob _ _ _ k1;rw[k2,k1,jzg9 (h2 s x k1) q3];exact HZ aG q3
  ·by_cases hc:∃c,o=.own c []
   ·have hg:(em B T).h id=.gone (B id st).ep:=by
     rw[em_h,ho];obtain⟨c,rfl⟩:=hc;rfl
    have cX:∀D∈B.ds,D.1≠id:=fun D hD e=>by have:=(hI.fr.dd D hD).2.1;have:=Bm hid;omega
    refine(See.bumpH (t:=tl (eTm B T.t) T.n) (ds:=B.ds) id (B id st).ep hg).trans (.pw (t:=tl (eTm B T.t) T.n) (t':=tl (eTm _ (frzT id st o T.t)) T.n) ?_ (fun i=>?_) fun D hD=>?_)
    ·refine .of (by rw[CX,CX]) fun i x y hx hy=>?_;rw[DS]at hx hy;split at hx
     ·rename_i hi;rw[Aq hi]at hy;cases hx;cases hy;rw[BT,BT,GO];have hx:=hI.sl i;revert hx;cases Ah T.t i with
      |v x=>intro hx;exact(Nj (id:=id) (st:=st) (o:=o) aG hx.1 aB).2.2.1 hc
      |cnd a b c y=>intro hx;rw[GN aG (x:=.cnd a b c y) hx.1];exact .refl _
     ·cases hx
    ·show WO (if i=id then .gone ((B id st).ep+1) else(em B T).h i) (hO _ i (Ad ((id,T.nx,TO.gone) :: frzH id st o T.h) i));by_cases h:i=id
     ·rw[Aq h,h,at_id];exact Bh.2 trivial
     ·rw[Ak h,em_h];rcases at_i i h with ⟨k1,k2⟩|⟨s,x,k1,k2⟩
      ·rw[k1,k2];exact Bh.2 trivial
      ·obtain⟨_,q2,q3⟩:=hI.ob _ _ _ k1;rw[k1,k2];exact(Ui (id:=id) (st:=st) (o:=o) aG q3 q2 aB).2.2.1 hc
    ·show hO _ D.1 (Ad ((id,T.nx,TO.gone) :: frzH id st o T.h) D.1)=_;rcases at_i D.1 (cX D hD) with ⟨k1,k2⟩|⟨s,x,k1,k2⟩
     ·rw[k2];exact(hI.fr.dd D hD).1
     ·have h1:=Bm (hI.fr.ro _ _ k1);have h2:=(hI.fr.dd D hD).2.1;omega
   ·have hc:∀c,o≠.own c []:=fun c e=>hc ⟨c,e⟩;refine See.freeze (id:=id) (o:=eO B (B id st).ep o) (FO ho) ?_ P2 ?_ (fun j hj=>?_) ?_ rfl
    ·cases o with
     |gone=>exact absurd rfl aL
     |ref q=>exact absurd rfl (lZ.1 q)
     |rag cs n i s=>exact absurd rfl (lZ.2 cs n i s)
     |map k v l=>exact absurd rfl (fK k v l)
     |out i l b=>cases bQ
     |box cs=>rfl
     |vec c l=>rfl
     |own c l=>cases l with
      |nil=>exact absurd rfl (hc c)
      |cons y l=>rfl
    ·rw[em_h,MY];exact at_id
    ·rw[em_h,em_h];rcases at_i j hj with ⟨k1,k2⟩|⟨s,x,k1,k2⟩
     ·refine .inl ?_;rw[k1];exact k2
     ·obtain⟨_,q2,q3⟩:=hI.ob _ _ _ k1;have:=(Ui (id:=id) (st:=st) (o:=o) (e:=(B j s).ep) aG q3 q2 aB).2.2.2 hc;rw[<-k2]at this;rw[k1];exact this
    ·refine FVl.map (l:=List.range T.n) fun i _=>?_;show FV id _ (look (eTm B T.t) i) (look (eTm _ (frzT id st o T.t)) i);rw[BT,BT,GO];have hx:=hI.sl i;revert hx;cases Ah T.t i with
     |v x=>intro hx;exact(Nj (id:=id) (st:=st) (o:=o) aG hx.1 aB).2.2.2 hc
     |cnd a b c y=>intro hx;rw[GN aG (x:=.cnd a b c y) hx.1];exact .refl _
 cases ho:Ad T.h id with
 |none=>exact none' (by unfold frz1;rw[ho])
 |some p =>
  obtain⟨st,o⟩:=p;cases o with
  |gone=>exact none' (by unfold frz1;rw[ho])
  |ref q=>exact none' (by unfold frz1;rw[ho])
  |rag cs n i s=>exact none' (by unfold frz1;rw[ho])
  |map k v l=>exact none' (by unfold frz1;rw[ho])
  |out i l b=>exact none' (by unfold frz1;rw[ho])
  |box cs=>exact main st _ ho (by intro e;cases e) ⟨(by intro q e;cases e),(by intro a b c d e;cases e)⟩ (by intro k v l e;cases e) rfl (by unfold frz1;rw[ho])
  |vec c l=>exact main st _ ho (by intro e;cases e) ⟨(by intro q e;cases e),(by intro a b c d e;cases e)⟩ (by intro k v l e;cases e) rfl (by unfold frz1;rw[ho])
  |own c l=>exact main st _ ho (by intro e;cases e) ⟨(by intro q e;cases e),(by intro a b c d e;cases e)⟩ (by intro k v l e;cases e) rfl (by unfold frz1;rw[ho])
theorem Ic:∀(l:List Nat) {B:Phi} {T:Ap},InvT B T->∃B',InvT B' (frzA T l)/\Log B T B' (frzA T l)/\(frzA T l).gs=T.gs/\See TabT.E (em B T) (em B' (frzA T l))
 |[],B,T,hI=>⟨B,hI,.refl _ _,rfl,.refl _⟩
 |id :: l,B,T,hI=>by obtain⟨B1,h1,h2,h3,h4⟩:=wzu6 hI id;obtain⟨B2,k1,k2,k3,k4⟩:=Ic l h1;exact⟨B2,k1,h2.trans k2,k3.trans h3,h4.trans k4⟩
def CW(T:Ap):Prop:=∀i a b c x,Ah T.t i=.cnd a b c x->i∈T.w
theorem wzwi{x:PV}{g:Bool}{y:Aa}:eP B x≠.cnd g y:=by
 cases x with
 |s v=>cases v with
  |optr c x=>cases x<;>(intro h;cases h)
  |_=>intro h;cases h
 |own id st =>show(match (B id st).n with | 0=>Aa.nils | n+1=>.vec id (B id st).ep 0 (n+1))≠_;cases (B id st).n<;>(intro h;cases h)
 |_=>intro h;cases h
theorem CW.log{B':Phi}{T':Ap}(h:CW T)(L:Log B T B' T'):CW T':=by
 intro i a b c x hx;apply Classical.byContradiction;intro hi;obtain⟨h1,h2⟩:=L.sl i hi;rw[hx]at h2;cases hy:Ah T.t i with
 |v y=>rw[hy]at h2;exact wzwi h2.symm
 |cnd a b c y=>exact h1 (h i _ _ _ _ hy)
theorem CW.of(hI:InvT B T)(hg:T.gs=[]):CW T:=by intro i a b c x hx;have:=hI.sl i;rw[hx]at this;obtain⟨_,_,h,_⟩:=this;rw[hg]at h;cases h
theorem JN:∀{l:List (Nat×TV)} {i:Nat},Ah (DZ l) i=(match Ah l i with | .v x=>.v x | _=>.v (.s .top))
 |[],i=>rfl
 |(j,.v x) :: l,i=>by
  show Ah ((j,.v x) :: DZ l) i=_;rw[AB,AB];split
  ·rfl
  ·exact JN
 |(j,.cnd a b c x) :: l,i=>by
  show Ah ((j,.v (.s .top)) :: DZ l) i=_;rw[AB,AB];split
  ·rfl
  ·exact JN
theorem Uj(hI:InvT B T)(hC:CW T):InvT B (endT T)/\Log B T B (endT T)/\(endT T).gs=[]/\See TabT.E (em B T) (em B (endT T)):=by
 cases hg:T.gs with
 |nil =>
  have e:endT T=T:=by unfold endT;rw[hg]
  rw[e];exact⟨hI,.refl _ _,hg,.refl _⟩
 |cons a l =>
  have e:endT T=⟨DZ T.t,T.h,T.nx,T.n,[],T.w,T.wo,T.b,T.rf⟩:=by unfold endT;rw[hg]
  rw[e]
  have fB:InvT B ⟨DZ T.t,T.h,T.nx,T.n,[],T.w,T.wo,T.b,T.rf⟩:=by
   refine⟨fun i=>?_,fun i hi=>?_,hI.ob,hI.fr.ofh rfl rfl rfl rfl rfl rfl⟩
   ·show TOk _ _ (Ah (DZ T.t) i);rw[JN];have hx:=hI.sl i;revert hx;cases Ah T.t i with
    |v x=>exact fun hx=>hx
    |cnd a b c y=>exact fun _=>⟨trivial,trivial⟩
   ·show Ah (DZ T.t) i=_;rw[JN,hI.hi i hi]
  refine⟨fB,⟨rfl,AD _,.refl _ _,fun i hi=>⟨hi,?_⟩,fun i hi=>⟨hi,fun _=>rfl⟩,.same rfl rfl id rfl rfl id⟩,rfl,Uh fB rfl rfl (fun i=>?_) fun i=>Bh.2 trivial⟩
  ·show eT B (Ah (DZ T.t) i)=_;rw[JN];cases hx:Ah T.t i with
   |v x=>rfl
   |cnd a b c y=>exact absurd (hC i _ _ _ _ hx) hi
  ·show W _ (eT B (Ah (DZ T.t) i));rw[JN];cases Ah T.t i with
   |v x=>exact .refl _
   |cnd a b c y=>exact .top _
def ylX(X h:Ax):Ax:=fun i=>if 1000<=i/\i<2000 then X i else h i
theorem wz0c{T:Ap}{n:Nat}{x:PV}(h:argP T none (.t n)=some x):Ah T.t n=.v x:=by
 cases hl:Ah T.t n with
 |v y=>simp only[argP,hl]at h;cases h;rfl
 |cnd a b c y=>simp only[argP,hl]at h;cases h
theorem PJ{tg:Nat}{want:Bool}:∀{l:List (Nat×TV)} {i:Nat},Ah (unG tg want l) i=(match Ah l i with
  |.cnd a b g x=>Ab (Nat.beq a tg) (Ab (eqB b want) (.v x) (.cnd a b g x)) (.cnd a b g x)
  | y=>y)
 |[],i=>rfl
 |(j,.v y) :: l,i=>by
  show Ah ((j,.v y) :: unG tg want l) i=_;rw[AB,AB];split
  ·rfl
  ·exact PJ
 |(j,.cnd a b g y) :: l,i=>by
  show Ah ((j,Ab (Nat.beq a tg) (Ab (eqB b want) (.v y) (.cnd a b g y)) (.cnd a b g y)) :: unG tg want l) i=_;rw[AB,AB];split
  ·rfl
  ·exact PJ
theorem Uk(hI:InvT B T){tg:Nat}{want:Bool}(hb:gdT want (Ah T.t tg)=some true):Ar B (unT T tg want) none (argU TabT.E (em B T).t) (em B T).h:=by
 refine⟨fun a x h=>?_,fun id st o h=>⟨FO h,(hI.ob _ _ _ h).2⟩⟩;cases a with
 |t n =>
  have e:argU TabT.E (em B T).t (.t n)=unv (eT B (Ah T.t n)):=by show unv ((em B T).t.getD n .top)=_;rw[em_t hI]
  have hs:=hI.sl n;have h':Ah (unG tg want T.t) n=.v x:=wz0c h;clear h;rw[PJ]at h';cases hl:Ah T.t n with
  |v y =>rw[hl]at h' e hs;cases h';exact⟨by rw[e];exact GJ _,hs.1,fun _=>hs.2⟩
  |cnd a b c y =>
   rw[hl]at h' e hs;dsimp only at h';cases h1:Nat.beq a tg<;>rw[h1]at h'
   ·cases h'
   ·cases h2:eqB b want<;>rw[h2]at h';·cases h'
    ·obtain rfl:=Ao.1 h1;obtain rfl:=Nd.1 h2;cases h';obtain⟨q1,q2,_,q4⟩:=hs;rw[hb]at q4;cases q4;exact⟨e,q1,fun _=>q2 rfl⟩
 |c v =>
  simp only[argP]at h;split at h
  ·rename_i w hw;cases h;exact⟨(HW hw).symm,trivial,fun _=>trivial⟩
  ·cases h
 |g i=>cases h
theorem Nl(hI:InvT B T){tg:Nat}{want:Bool}(hb:gdT want (Ah T.t tg)=some true):∀{l:List Ac},allA (unT T tg want) none l=true->BW true (em B T).t l
 |[],_=>trivial
 |.c v :: l,h=>by
  simp only[allA]at h;split at h
  ·exact Nl hI hb (l:=l) h
  ·cases h
 |.g i :: l,h=>by simp only[allA,argP]at h;cases h
 |.t n :: l,h=>by
  simp only[allA]at h;split at h
  ·rename_i p hp;refine⟨?_,Nl hI hb h⟩;rw[em_t hI];have hs:=hI.sl n;have hp:Ah (unG tg want T.t) n=.v p:=wz0c hp;rw[PJ]at hp;cases hl:Ah T.t n with
   |v y=>exact GL _ _
   |cnd a b c y =>
    rw[hl]at hp hs;dsimp only at hp;cases h1:Nat.beq a tg<;>rw[h1]at hp
    ·cases hp
    ·cases h2:eqB b want<;>rw[h2]at hp;·cases hp
     ·obtain rfl:=Ao.1 h1;obtain rfl:=Nd.1 h2;obtain⟨_,_,_,q4⟩:=hs;rw[hb]at q4;cases q4;exact fun _=>rfl
  ·cases h
theorem kzn5[TabOk](hI:InvT B T){j s0:Nat}{l:List (TabT.FA j)}{st:List (TabT.FA j)->Option Bool}(h3:Ad T.h 1899=some (s0,.out j l false))(aH:B.c.st j=st){y:TabT.FA j}{vs:List Aa}(hw:Ws vs (TabT.aA j y)){s:Bool}(hs:st (l++[y])=some s) :
  BN TabT.E TabT.P B.c.L B.c.e vs (em B T).h fun v h'=>(∀D∈B.ds,h' D.1=.dfr D.2)/\v=.bool (!s)/\∃B1,InvT B1 (putO T 1899 (.out j (l++[y]) s) false)/\Log B T B1 (putO T 1899 (.out j (l++[y]) s) false)/\em B1 (putO T 1899 (.out j (l++[y]) s) false)=⟨(em B T).t,h',B.ds⟩:=by
 obtain⟨hb,dB,hH,_⟩:=hI.fr.yo _ _ _ _ h3;have hH:=hH rfl;have cs:=hI.fr.cs j
 have ma:∀k,k<1000\/2000<=k->Ad T.h k=none:=fun k hk=>by
  cases hl:Ad T.h k with
  |none=>rfl
  |some p=>have:=Bm (hI.fr.ro _ _ hl);omega
 have nN:B.c.HC j l (em B T).h:=cs.loc l B.X _ (fun k hk=>by rw[em_h,ma k hk];rfl) hH;refine BN.mono (BN.w (cs.round l y s _ nN (by rw[aH];exact hs)) hw) ?_;rintro v h' ⟨rfl,q1,q2,q3⟩;have cX:∀D∈B.ds,h' D.1=.dfr D.2:=fun D hD=>by obtain⟨_,k2,k3⟩:=hI.fr.dd D hD;omega
 refine⟨cX,rfl,?_⟩
 have main:∀b:Bool,(b=false->B.c.HC j (l++[y]) h')->(b=true->B.c.HX j (l++[y]) h') -> ∃B1,InvT B1 (putO T 1899 (.out j (l++[y]) b) false)/\Log B T B1 (putO T 1899 (.out j (l++[y]) b) false)/\em B1 (putO T 1899 (.out j (l++[y]) b) false)=⟨(em B T).t,h',B.ds⟩:=by
  intro b p1 p2
  let G:HS:=⟨(B 1899 s0).ep,0,fun _=>[]⟩
  let B1:Phi:=⟨(upd B 1899 T.nx G).o,ylX B.X h',B.ds,B.c⟩
  let T1:Ap:=putO T 1899 (.out j (l++[y]) b) false
  have aG:Ext T.nx B B1:=⟨(GG (B:=B) (id:=1899) (G:=G)).s,rfl⟩;have eT1:T1.h=(1899,T.nx,.out j (l++[y]) b) :: T.h:=rfl;have xin:∀k,1000<=k->k<2000->B1.X k=B.X k:=fun k a b=>by show ylX B.X h' k=_;unfold ylX;rw[Aq ⟨a,b⟩]
  have xout:∀k,k<1000\/2000<=k->B1.X k=h' k:=fun k a=>by show ylX B.X h' k=_;unfold ylX;rw[Ak (by omega)]
  have inr:∀k,inR T.b k=true->1000<=k/\k<1900:=fun k e=>by have:=Bm e;omega
  have bY:∀k,k≠1899->hO B1 k (Ad T1.h k)=(match Ad T.h k with | some p=>hO B k (some p) | none=>B1.X k):=fun k hk=>by
   rw[eT1,AJ,Ak (fun e=>hk e.symm)];cases hl:Ad T.h k with
   |none=>rfl
   |some p =>obtain⟨st',o'⟩:=p;obtain⟨z1,_,z3⟩:=hI.ob _ _ _ hl;show eO B1 (B1 k st').ep o'=eO B (B k st').ep o';rw[aG.s _ _ z1,HZ aG z3]
  have nO:hO B1 1899 (Ad T1.h 1899)=.gone (B 1899 s0).ep:=by rw[eT1,AJ,Aq rfl];show Ai.gone (B1 1899 T.nx).ep=_;show Ai.gone (upd B 1899 T.nx G 1899 T.nx).ep=_;rw[B8]
  have i1:InvT B1 T1:=by
   refine⟨fun k=>Ng (jzbt (hI.sl k) aG) (E8 _) fun g hg=>⟨hg,rfl⟩,hI.hi,fun id st o ho=>?_,?_⟩
   ·rw[eT1,AJ]at ho;split at ho
    ·cases ho;exact⟨Co _,trivial,trivial⟩
    ·obtain⟨z1,z2,z3⟩:=hI.ob _ _ _ ho;exact⟨Nat.lt_succ_of_lt z1,Nf aG z1 z2,JJ aG (E8 _) z3⟩
   ·refine⟨fun id p e=>?_,fun k e=>?_,fun k e1 e2=>?_,fun D hD=>?_,fun e=>?_,hI.fr.cs,fun st i' l' b' e=>?_⟩
    ·rw[eT1,AJ]at e;split at e
     ·rename_i e1;have e1:1899=id:=e1;rw[<-e1];exact hI.fr.ro _ _ h3
     ·exact hI.fr.ro _ _ e
    ·have:=inr k e;rw[xin k (by omega) (by omega)];exact hI.fr.rx k e
    ·have e1:T.b+900+2*T.rf<=k:=e1;have e2:k<T.b+1000:=e2;rw[xin k (by omega) (by omega)];exact hI.fr.rz k e1 e2
    ·obtain⟨_,k2,k3⟩:=hI.fr.dd D hD;omega
    ·have e:T.b=0:=e;omega
    ·rw[eT1,AJ,Aq rfl]at e;cases e;refine⟨hb,dB,fun e=>?_,fun e=>.inr ?_⟩
     ·exact cs.loc _ h' _ (fun k hk=>xout k hk) (p1 e)
     ·exact cs.lox _ h' _ (fun k hk=>xout k hk) (p2 e)
  have l1:Log B T B1 T1:=by
   refine⟨rfl,E8 _,aG,fun k hk=>⟨hk,?_⟩,fun k hk=>?_,⟨rfl,AD _,fun _=>rfl,fun hk e=>hk (Bi _ e),fun _ e=>?_,fun k e=>?_,fun _ e=>?_⟩⟩
   ·exact GN aG (JI (hI.sl k))
   ·have hk:k∉1899 :: T.wo:=hk;simp only[AM,Cg]at hk;refine⟨hk.2,fun e=>?_⟩;rw[bY k hk.1];have:=inr k e;cases hl:Ad T.h k with
    |none=>exact xin k (by omega) (by omega)
    |some p=>rfl
   ·rw[eT1,AJ,Aq rfl]at e;cases e
   ·have:=inr k e;exact xin k (by omega) (by omega)
   ·rcases e with e|e;·omega
    ·exact absurd (Be ..) e.1
  have e1:em B1 T1=⟨(em B T).t,h',B.ds⟩:=by
   show Ay.mk (tl (eTm B1 T.t) T.n) (fun k=>hO B1 k (Ad T1.h k)) B.ds=⟨tl (eTm B T.t) T.n,h',B.ds⟩;congr 1
   ·refine Nc fun k _=>?_;rw[BT,BT];exact GN aG (JI (hI.sl k))
   ·funext k;by_cases hk:k=1899
    ·subst hk;rw[nO,q3 1899 (by omega) (by omega),em_h,h3];rfl
    ·rw[bY k hk];by_cases hr:1000<=k/\k<2000
     ·rw[q3 k hr.1 hr.2,em_h];cases hl:Ad T.h k with
      |none=>exact xin k hr.1 hr.2
      |some p=>rfl
     ·rw[ma k (by omega)];exact xout k (by omega)
  exact⟨B1,i1,l1,e1⟩
 cases s with
 |true=>exact main true (fun e=>by cases e) q2
 |false=>exact main false q1 (fun e=>by cases e)
theorem jzg1[TabOk]{U:Type}{o:As}{K:Ap->Option U}{r:U}(hI:InvT B T)(hC:CW T)(hg:o.guard=none)(h:yldT T o K=some r) :
  aop TabT.E TabT.P o (em B T) fun S'=>∃B' T',K T'=some r/\InvT B' T'/\Log B T B' T'/\CW T'/\S'=em B' T':=by
 unfold yldT at h;split at h
 ·rename_i x ags aK;split at h
  ·rename_i i st vs s0 j l h1 h2 h3;split at h
   ·rename_i m y h4 h5;obtain⟨hd,h⟩:=An h;obtain⟨s,hs,h⟩:=FP h;unfold JF at h4;split at h4
    ·rename_i e;subst e;cases h4;have hA:=Da hI;have aH:B.c.st j=st:=(hA.a _ _ h1).2.2 trivial;have hx:Ae TabT.E (em B T).t x=.yld B.c.L B.c.e:=(hA.a _ _ h1).1;have hw:Ws (ags.map (Ae TabT.E (em B T).t)) (TabT.aA j (cast (Tab.eA j) y)):=by rw[DF hA h2,TabOk.aA];exact Tf h5
     unfold aop;simp only[hg,aK,hx];refine(kzn5 hI h3 aH hw hs).mono ?_;rintro v h' ⟨cX,rfl,B1,i1,l1,e1⟩;refine⟨cX,B1,putS (putO T 1899 (.out j (l++[cast (Tab.eA j) y]) s) false) o.dst (.v (.s (.bool (!s)))),by cases s<;>exact h,Cf i1 (by exact hd) ⟨trivial,trivial⟩,l1.trans B9,(hC.log l1).log (B9 (B:=B1)),?_⟩;rw[CI,e1,show B1.ds=B.ds from E9 Ay.ds e1];rfl
    ·cases h4
   ·cases h
  ·cases h
 ·cases h
theorem kzuj(hI:InvT B T){t:List (Nat×TV)}(h:∀i,Ah t i=Ah T.t i):InvT B ⟨t,T.h,T.nx,T.n,T.gs,T.w,T.wo,T.b,T.rf⟩/\Log B T B ⟨t,T.h,T.nx,T.n,T.gs,T.w,T.wo,T.b,T.rf⟩/\em B ⟨t,T.h,T.nx,T.n,T.gs,T.w,T.wo,T.b,T.rf⟩=em B T:=by
 refine⟨⟨fun i=>?_,fun i hi=>(h i).trans (hI.hi i hi),hI.ob,hI.fr.ofh rfl rfl rfl rfl rfl rfl⟩,⟨rfl,AD _,.refl _ _,fun i hi=>⟨hi,by show eT B (Ah t i)=_;rw[h i]⟩,fun i hi=>⟨hi,fun _=>rfl⟩,.same rfl rfl id rfl rfl id⟩,?_⟩
 ·show TOk B _ (Ah t i);rw[h i];exact Ng (hI.sl i) (AD _) fun g hg=>⟨hg,h g⟩
 ·show Ay.mk (tl (eTm B t) T.n) _ B.ds=Ay.mk (tl (eTm B T.t) T.n) _ B.ds;congr 1;refine Nc fun k _=>?_;rw[BT,BT,h k]
theorem kzoi(hI:InvT B T){tg:Nat}{b:Bool}(h:Ah T.t tg=.v (.s (.bool b))):InvT B (litT T tg b)/\Log B T B (litT T tg b)/\em B (litT T tg b)=em B T:=by
 refine kzuj hI fun i=>?_;rw[AB];split
 ·rename_i e;have e:tg=i:=e;subst e;exact h.symm
 ·rfl
theorem kzt0[TabOk]{U:Type}{o:As}{K:Ap->Option U}{r:U}(hI:InvT B T)(hC:CW T)(h:yldG T o K=some r) :
  aop TabT.E TabT.P o (em B T) fun S'=>∃B' T',K T'=some r/\InvT B' T'/\Log B T B' T'/\CW T'/\See TabT.E S' (em B' T'):=by
 unfold yldG at h;split at h
 ·rename_i tg want x ags hg aK;split at h
  ·rename_i b hb;obtain⟨hd,h⟩:=An h;have nP:gdT want (Ah T.t tg)=some (Ab want b (!b)):=by rw[hb];rfl
   have h0:=PD hI nP;unfold aop;simp only[hg,aK,h0];have dY:=JL hI tg;have hm:memN tg (addG T tg).gs=true:=Fj.2 (Be ..);have e0:em B (addG T tg)=em B T:=rfl;have cK:Ah (addG T tg).t tg=.v (.s (.bool b)):=hb;cases hc:Ab want b (!b) with
   |false =>
    rw[hc]at h;refine⟨fun _=>?_,(fun e=>by cases e)⟩;have cw:b=!want:=by cases want<;>cases b<;>first|rfl|cases hc
    rw[cw]at cK;obtain⟨i1,l1,e1⟩:=kzoi dY cK;have dt:gdT want (Ah (litT (addG T tg) tg (!want)).t tg)=some false:=by show gdT want (Ah ((tg,.v (.s (.bool (!want)))) :: T.t) tg)=_;rw[AB,Aq rfl];cases want<;>rfl
    refine⟨B,_,h,Cf i1 (by exact hd) ⟨trivial,(fun e=>by cases e),hm,dt⟩,((Ia tg).trans l1).trans B9,((hC.log (Ia (B:=B) tg)).log l1).log (B9 (B:=B)),?_⟩;rw[CI,e1];exact .veq (PG (.cnd fun e=>by cases e)).1 (PG (.cnd fun e=>by cases e)).2 fun i=>.refl _
   |true =>
    rw[hc]at h;replace h:yldH (litT (addG T tg) tg want) tg want o.dst x ags K=some r:=h;refine⟨(fun e=>by cases e),fun _=>?_⟩;have cw:b=want:=by cases want<;>cases b<;>first|rfl|cases hc
    rw[cw]at cK;obtain⟨i1,l1,e1⟩:=kzoi dY cK;have dt:gdT want (Ah (litT (addG T tg) tg want).t tg)=some true:=by show gdT want (Ah ((tg,.v (.s (.bool want))) :: T.t) tg)=_;rw[AB,Aq rfl];cases want<;>rfl
    have gV:CW (litT (addG T tg) tg want):=(hC.log (Ia (B:=B) tg)).log l1;have L1:Log B T B (litT (addG T tg) tg want):=(Ia tg).trans l1;have d9:memN tg (litT (addG T tg) tg want).gs=true:=hm;have dX:Bw (litT (addG T tg) tg want) o.dst=true:=hd;rw[<-e0,<-e1];generalize litT (addG T tg) tg want=T1 at *;unfold yldH at h;split at h
    ·rename_i i st vs s0 j l h1 h2 h3;split at h
     ·rename_i m y h4 h5;obtain⟨ha,h⟩:=An h;obtain⟨s,hs,h⟩:=FP h;unfold JF at h4;split at h4
      ·rename_i e;subst e;cases h4;have hA:=Uk i1 dt;have aH:B.c.st j=st:=(hA.a _ _ h1).2.2 trivial;have hx:argU TabT.E (em B T1).t x=.yld B.c.L B.c.e:=(hA.a _ _ h1).1;have hw:Ws (ags.map (argU TabT.E (em B T1).t)) (TabT.aA j (cast (Tab.eA j) y)):=by rw[DF hA h2,TabOk.aA];exact Tf h5
       simp only[hx];refine⟨fun _=>⟨Nl i1 dt ha,?_⟩,fun e=>by cases e⟩;refine(kzn5 i1 h3 aH hw hs).mono ?_;rintro v h' ⟨cX,rfl,B1,k1,k2,k3⟩;refine⟨cX,B1,putS (putO T1 1899 (.out j (l++[cast (Tab.eA j) y]) s) false) o.dst (.cnd tg want true (.s (.bool (!s)))),by cases s<;>exact h,Cf k1 (by exact dX) ⟨trivial,fun _=>trivial,d9,dt⟩,(L1.trans k2).trans B9,(gV.log k2).log (B9 (B:=B1)),?_⟩;rw[CI,k3,show B1.ds=B.ds from E9 Ay.ds k3];exact .refl _
      ·cases h4
     ·cases h
    ·cases h
  ·cases h
 ·cases h
theorem jzg4[TabOk]{U:Type}{H:List Fe}{o:As}{f:FuncId}{x:Ac}{l:List Ac}{K:Ap->Option U}{r:U}(hI:InvT B T)(hC:CW T)(hg:o.guard=none)(aK:o.op=.callf f (x :: l))(h:inwT H T o.dst f x l K=some r) :
  aop TabT.E TabT.P o (em B T) fun S'=>∃B' T',K T'=some r/\InvT B' T'/\Log B T B' T'/\CW T'/\S'=em B' T':=by
 unfold inwT at h;split at h
 ·rename_i C id st vs h1 h2 h3;split at h
  ·rename_i st' c m y h4 h5;split at h
   ·rename_i m1 h6;obtain⟨hd,h⟩:=An h;obtain⟨p1,h⟩:=An h;obtain⟨m2,hF,hK⟩:=FP h;obtain rfl:=Ao.1 p1;have hA:=Da hI;obtain⟨g1,g2,g3,g4⟩:=ER h6;subst g4
    have e1:m1=m:=by
     unfold BQ at h6;split at h6
     ·cases h6;rfl
     ·cases h6
    subst e1;obtain⟨o1,o2,o3⟩:=hA.own h4;have hv:Ae TabT.E (em B T).t x=ownV id (B id st).ep m1:=by rw[(hA.a _ _ h2).1];show(match (B id st).n with | 0=>Aa.nils | n+1=>.vec id (B id st).ep 0 (n+1))=_;rw[o2];cases m1<;>rfl
    unfold aop;simp only[hg,aK];rw[JZ,hv,DF hA h3,<-EX h1];refine(ATr.w (args:=ownV id (B id st).ep m1 :: At vs) (C.ok.ok m1 y m2 _ id _ hF o1) ⟨.refl _,Fb h5⟩).mono ?_;rintro v h' ⟨rfl,rfl,hl⟩;have bh:=hI.fr.ro _ _ h4;obtain⟨i1,l1,em1⟩:=Ib hI (id:=id) (ob:=.own C.c m2) (re:=true) (G:=⟨(B id st).ep,m2.length,Az C.c.cA m2⟩) bh ⟨rfl,rfl⟩ trivial (fun _=>⟨st,_,h4,rfl,by rw[o2,hl]⟩) rfl;refine⟨fun D hD=>?_,?_⟩
    ·have aL:D.1≠id:=fun e=>by
      have k1:=(hI.fr.dd D hD).2.1;have k2:=Bm bh;omega
     show(if D.1=id then _ else(em B T).h D.1)=_;rw[Ak aL];exact HU hI D hD
    ·have dX:Bw (putO T id (.own C.c m2) true) o.dst=true:=hd;refine⟨_,_,hK,Cf i1 dX ⟨trivial,trivial⟩,l1.trans B9,(hC.log l1).log (B9 (B:=upd B id T.nx ⟨(B id st).ep,m2.length,Az C.c.cA m2⟩)),?_⟩;rw[CI,em1];rfl
   ·cases h
  ·cases h
 ·cases h
theorem jzgb[TabOk]{c:CT}{s:Nat}{x:Ac}{m:List c.T}(hI:InvT B T)(h:srcT T c s x=some m):∃X,W (Ae TabT.E (em B T).t x) X/\ZL c m X (em B T).h s:=by
 have hA:=Da hI;unfold srcT at h;split at h
 ·rename_i v h1;exact⟨_,by rw[(hA.a _ _ h1).1];exact(Pn h).1,.inl rfl⟩
 ·rename_i id st h1;split at h
  ·rename_i st' c' m' ho;obtain⟨p1,k⟩:=An h;clear h;obtain rfl:=Ao.1 p1
   have aL:id≠s:=by
    cases hb:Nat.beq id s
    ·exact BS.1 hb
    ·rw[hb]at k;cases k
   have h:BQ c' c m'=some m:=by
    cases hb:Nat.beq id s
    ·rw[hb]at k;exact k
    ·rw[hb]at k;cases k
   obtain⟨g1,g2,g3,g4⟩:=ER h;subst g4
   have e1:m=m':=by
    unfold BQ at h;split at h
    ·cases h;rfl
    ·cases h
   subst e1;obtain⟨o1,o2,o3⟩:=hA.own ho;have hv:Ae TabT.E (em B T).t x=ownV id (B id st).ep m:=by rw[(hA.a _ _ h1).1];show(match (B id st).n with | 0=>Aa.nils | n+1=>.vec id (B id st).ep 0 (n+1))=_;rw[o2];cases m<;>rfl
   rw[hv];cases m with
   |nil=>exact⟨_,.nil _ _,.inl rfl⟩
   |cons y m=>exact⟨_,.refl _,.inr ⟨id,_,0,y :: m,aL,rfl,o1,by omega,fun k _=>by rw[Dj]⟩⟩
  ·cases h
 ·rename_i id st h1;split at h
  ·rename_i st' c' m' ho;obtain⟨p1,k⟩:=An h;clear h;obtain rfl:=Ao.1 p1
   have aL:id≠s:=by
    cases hb:Nat.beq id s
    ·exact BS.1 hb
    ·rw[hb]at k;cases k
   have h:BQ c' c m'=some m:=by
    cases hb:Nat.beq id s
    ·rw[hb]at k;exact k
    ·rw[hb]at k;cases k
   obtain⟨g1,g2,g3,g4⟩:=ER h;subst g4
   have e1:m=m':=by
    unfold BQ at h;split at h
    ·cases h;rfl
    ·cases h
   subst e1;have o1:=FO (B:=B) ho;have o2:(B id st).n=m.length:=(hI.ob _ _ _ ho).2.1.1;refine⟨_,.refl _,.inr ⟨id,(B id st).ep,0,m,aL,?_,o1,by omega,fun k _=>by rw[Dj]⟩⟩;rw[(hA.a _ _ h1).1];show Aa.vec id (B id st).ep 0 (B id st).n=_;rw[o2]
  ·cases h
 ·rename_i id st lo hi h1;split at h
  ·rename_i st' c' m' ho;obtain⟨p1,k⟩:=An h;clear h;obtain rfl:=Ao.1 p1
   have aL:id≠s:=by
    cases hb:Nat.beq id s
    ·exact BS.1 hb
    ·rw[hb]at k;cases k
   have h:(match BQ c' c m' with
    |some m=>some (sub m lo hi)
    | none=>none)=some m:=by
    cases hb:Nat.beq id s
    ·rw[hb]at k;exact k
    ·rw[hb]at k;cases k
   split at h
   ·rename_i m1 hm;cases h;have h:=hm;obtain⟨g1,g2,g3,g4⟩:=ER h;subst g4
    have e1:m1=m':=by
     unfold BQ at h;split at h
     ·cases h;rfl
     ·cases h
    subst e1;have o1:=FO (B:=B) ho;have o2:(B id st).n=m1.length:=(hI.ob _ _ _ ho).2.1.1;obtain⟨q1,q2,q3⟩:0<=lo/\lo<=hi/\hi<=(B id st).n:=(hA.a _ _ h1).2.2 trivial;have hs:Dv m1 lo hi=true:=by simp[Dv];omega
    have hl:=vzn hs;refine⟨_,.refl _,.inr ⟨id,(B id st).ep,lo.toNat,m1,aL,?_,o1,by rw[hl];omega,fun k hk=>?_⟩⟩
    ·rw[(hA.a _ _ h1).1,hl];rfl
    ·rw[hl]at hk;unfold Az sub;rw[List.getElem?_take_of_lt hk,Im]
   ·cases h
  ·cases h
 ·cases h
theorem jzha[TabOk]{U:Type}{H:List Fe}{o:As}{f:FuncId}{x:Ac}{l:List Ac}{K:Ap->Option U}{r:U}(hI:InvT B T)(hC:CW T)(hg:o.guard=none)(aK:o.op=.callf f (x :: l))(h:clnT H T o.dst f x l K=some r) :
  aop TabT.E TabT.P o (em B T) fun S'=>∃B' T',K T'=some r/\InvT B' T'/\Log B T B' T'/\CW T'/\S'=em B' T':=by
 unfold clnT at h;split at h
 ·rename_i C d h1 br;split at h
  ·rename_i m vs h2 h3;split at h
   ·rename_i y h4;obtain⟨hd,h⟩:=An h;obtain⟨bh,h⟩:=An h;obtain⟨m2,hF,hK⟩:=FP h;have hA:=Da hI;obtain⟨X,hX,cn⟩:=jzgb hI h2;unfold aop;simp only[hg,aK];rw[JZ,DF hA h3,<-EY h1];generalize hs:clS T.b d=s at *;refine(ATr.w (args:=Ae TabT.E (em B T).t x :: At vs) (C.ok.ok m y m2 X _ s hF (JG hI s bh) cn) ⟨hX,Fb h4⟩).mono ?_;rintro v h' ⟨ep,rfl,hl,rfl⟩;obtain⟨i1,l1,em1⟩:=Ib hI (id:=s) (ob:=.vec C.c m2) (re:=false) (G:=⟨ep,m2.length,Az C.c.cA m2⟩) bh ⟨rfl,rfl⟩ trivial (fun e=>by cases e) rfl;refine⟨fun D hD=>?_,?_⟩
    ·have aL:D.1≠s:=fun e=>by
      have k1:=(hI.fr.dd D hD).2.1;have k2:=Bm bh;omega
     show(if D.1=s then _ else(em B T).h D.1)=_;rw[Ak aL];exact HU hI D hD
    ·have dX:Bw (putO T s (.vec C.c m2) false) (some d)=true:=hd;refine⟨_,_,hK,Cf i1 dX ⟨Co _,trivial⟩,l1.trans B9,(hC.log l1).log (B9 (B:=upd B s T.nx ⟨ep,m2.length,Az C.c.cA m2⟩)),?_⟩;rw[CI,em1,br];have e1:eT (upd B s T.nx ⟨ep,m2.length,Az C.c.cA m2⟩) (.v (.vec s T.nx))=.vec s ep 0 m2.length:=by show Aa.vec s (upd B s T.nx ⟨ep,m2.length,Az C.c.cA m2⟩ s T.nx).ep 0 (upd B s T.nx ⟨ep,m2.length,Az C.c.cA m2⟩ s T.nx).n=_;rw[B8]
     rw[e1];rfl
   ·cases h
  ·cases h
 ·cases h
theorem kza4[TabOk]{U:Type}{H:List Fe}{o:As}{f:FuncId}{x:Ac}{l:List Ac}{K:Ap->Option U}{r:U}(hI:InvT B T)(hC:CW T)(hg:o.guard=none)(aK:o.op=.callf f (x :: l))(h:zinT H T o.dst f x l K=some r) :
  aop TabT.E TabT.P o (em B T) fun S'=>∃B' T',K T'=some r/\InvT B' T'/\Log B T B' T'/\CW T'/\S'=em B' T':=by
 unfold zinT at h;split at h
 ·rename_i C id st vs h1 h2 h3;split at h
  ·rename_i st' c m y h4 h5;split at h
   ·rename_i m1 h6;obtain⟨hd,h⟩:=An h;obtain⟨p1,h⟩:=An h;obtain⟨m2,hF,hK⟩:=FP h;obtain rfl:=Ao.1 p1;have hA:=Da hI;obtain⟨g1,g2,g3,g4⟩:=ER h6;subst g4
    have e1:m1=m:=by
     unfold BQ at h6;split at h6
     ·cases h6;rfl
     ·cases h6
    subst e1;obtain⟨o1,o2,o3⟩:=hA.own h4;have hv:Ae TabT.E (em B T).t x=ownV id (B id st).ep m1:=by rw[(hA.a _ _ h2).1];show(match (B id st).n with | 0=>Aa.nils | n+1=>.vec id (B id st).ep 0 (n+1))=_;rw[o2];cases m1<;>rfl
    unfold aop;simp only[hg,aK];rw[JZ,hv,DF hA h3,<-Fa h1];refine(ATr.w (args:=ownV id (B id st).ep m1 :: At vs) (C.ok.ok m1 y m2 _ id _ hF o1) ⟨.refl _,Fb h5⟩).mono ?_;rintro v h' ⟨rfl,e,rfl⟩;have bh:=hI.fr.ro _ _ h4;obtain⟨i1,l1,em1⟩:=Ib hI (id:=id) (ob:=.gone) (re:=false) (G:=⟨e,0,fun _=>[]⟩) bh trivial trivial (fun e=>by cases e) rfl;refine⟨fun D hD=>?_,?_⟩
    ·have aL:D.1≠id:=fun e=>by
      have k1:=(hI.fr.dd D hD).2.1;have k2:=Bm bh;omega
     show(if D.1=id then _ else(em B T).h D.1)=_;rw[Ak aL];exact HU hI D hD
    ·have dX:Bw (putO T id .gone false) o.dst=true:=hd;refine⟨_,_,hK,Cf i1 dX ⟨trivial,trivial⟩,l1.trans B9,(hC.log l1).log (B9 (B:=upd B id T.nx ⟨e,0,fun _=>[]⟩)),?_⟩;rw[CI,em1];rfl
   ·cases h
  ·cases h
 ·cases h
theorem kzaz[TabOk]{U:Type}{H:List Fe}{o:As}{f:FuncId}{l:List Ac}{K:Ap->Option U}{r:U}(hI:InvT B T)(hC:CW T)(hg:o.guard=none)(aK:o.op=.callf f l)(h:dinT H T o.dst f l K=some r) :
  aop TabT.E TabT.P o (em B T) fun S'=>∃B' T',K T'=some r/\InvT B' T'/\Log B T B' T'/\CW T'/\S'=em B' T':=by
 unfold dinT at h;split at h
 ·rename_i C d h1 br;split at h
  ·rename_i vs h3;split at h
   ·rename_i y h4;obtain⟨hd,h⟩:=An h;obtain⟨bh,h⟩:=An h;obtain⟨m2,hF,hK⟩:=FP h;have hA:=Da hI;unfold aop;simp only[hg,aK];rw[DF hA h3,<-EZ h1];generalize hs:clS T.b d=s at *;refine(ATr.w (args:=At vs) (C.ok.ok y m2 _ s hF (JG hI s bh)) (Fb h4)).mono ?_;rintro v h' ⟨ep,rfl,rfl⟩;obtain⟨i1,l1,em1⟩:=Ib hI (id:=s) (ob:=.own C.c m2) (re:=false) (G:=⟨ep,m2.length,Az C.c.cA m2⟩) bh ⟨rfl,rfl⟩ trivial (fun e=>by cases e) rfl;refine⟨fun D hD=>?_,?_⟩
    ·have aL:D.1≠s:=fun e=>by
      have k1:=(hI.fr.dd D hD).2.1;have k2:=Bm bh;omega
     show(if D.1=s then _ else(em B T).h D.1)=_;rw[Ak aL];exact HU hI D hD
    ·have dX:Bw (putO T s (.own C.c m2) false) (some d)=true:=hd;refine⟨_,_,hK,Cf i1 dX ⟨Co _,trivial⟩,l1.trans B9,(hC.log l1).log (B9 (B:=upd B s T.nx ⟨ep,m2.length,Az C.c.cA m2⟩)),?_⟩;rw[CI,em1,br];have e1:eT (upd B s T.nx ⟨ep,m2.length,Az C.c.cA m2⟩) (.v (.own s T.nx))=ownV s ep m2:=by show(match (upd B s T.nx ⟨ep,m2.length,Az C.c.cA m2⟩ s T.nx).n with | 0=>Aa.nils | n+1=>.vec s (upd B s T.nx ⟨ep,m2.length,Az C.c.cA m2⟩ s T.nx).ep 0 (n+1))=_;rw[B8];cases m2<;>rfl
     rw[e1];rfl
   ·cases h
  ·cases h
 ·cases h
theorem jzgm[TabOk]{U:Type}{H:List Fe}{o:As}{K:Ap->Option U}{r:U}(hI:InvT B T)(hC:CW T)(hg:o.guard=none)(h:inpT H T o K=some r) :
  aop TabT.E TabT.P o (em B T) fun S'=>∃B' T',K T'=some r/\InvT B' T'/\Log B T B' T'/\CW T'/\S'=em B' T':=by
 unfold inpT at h;split at h
 ·rename_i f x l aK;split at h
  ·exact jzha hI hC hg aK h
  ·split at h;·exact kza4 hI hC hg aK h
   ·split at h;·exact kzaz hI hC hg aK h
    ·exact jzg4 hI hC hg aK h
 ·cases h
theorem jzjt{o:As}(h:isY T o=true):o.guard=none:=by
 unfold isY at h;split at h
 ·assumption
 ·cases h
theorem jzjw{H:List Fe}{o:As}(h:isW H o=true):o.guard=none:=by
 unfold isW at h;split at h
 ·assumption
 ·cases h
theorem Nm[TabOk]{U:Type}{H:List Fe}{ty:List (Nat×CT)}:∀{ops:List As} {B:Phi} {T:Ap} {K:Ap->Option U} {r:U},regT H ty ops T K=some r->InvT B T->CW T ->
  aseq TabT.E TabT.P ops (em B T) fun S'=>∃B' T',K T'=some r/\InvT B' T'/\Log B T B' T'/\T'.gs=[]/\See TabT.E S' (em B' T')
 |[],B,T,K,r,h,hI,hC=>by obtain⟨h1,h2,h3,h4⟩:=Uj hI hC;exact⟨_,.refl _,B,endT T,h,h1,h2,h3,h4⟩
 |o :: ops,B,T,K,r,h,hI,hC=>by
  have h:(fun T=>Ab (isW H o) (inpT H T o fun T'=>regT H ty ops T' K) (Ab (isY T o) (yldT T o fun T'=>regT H ty ops T' K) (Ab (isYg T o) (yldG T o fun T'=>regT H ty ops T' K) (DD H ty T o fun T' _ _=>regT H ty ops T' K)))) (frzA T (Py H T o))=some r:=h;obtain⟨B1,i1,l1,g1,s1⟩:=Ic (Py H T o) hI;have gV:=hC.log l1;refine⟨_,s1,?_⟩;generalize frzA T (Py H T o)=T1 at *;have h:Ab (isW H o) (inpT H T1 o fun T'=>regT H ty ops T' K) (Ab (isY T1 o) (yldT T1 o fun T'=>regT H ty ops T' K) (Ab (isYg T1 o) (yldG T1 o fun T'=>regT H ty ops T' K) (DD H ty T1 o fun T' _ _=>regT H ty ops T' K)))=some r:=h;have rest:∀{S':Ay},(∃B2 T2,regT H ty ops T2 K=some r/\InvT B2 T2/\Log B1 T1 B2 T2/\CW T2/\S'=em B2 T2)->aseq TabT.E TabT.P ops S' fun S'=>∃B' T',K T'=some r/\InvT B' T'/\Log B T B' T'/\T'.gs=[]/\See TabT.E S' (em B' T'):=by rintro S' ⟨B2,T2,hk,i2,l2,c2,rfl⟩;refine(Nm hk i2 c2).mono ?_;rintro S ⟨B',T',k1,k2,k3,k4,k5⟩;exact⟨B',T',k1,k2,(l1.trans l2).trans k3,k4,k5⟩
  cases hw:isW H o
  ·rw[hw]at h;replace h:Ab (isY T1 o) (yldT T1 o fun T'=>regT H ty ops T' K) (Ab (isYg T1 o) (yldG T1 o fun T'=>regT H ty ops T' K) (DD H ty T1 o fun T' _ _=>regT H ty ops T' K))=some r:=h;cases hy:isY T1 o
   ·rw[hy]at h;replace h:Ab (isYg T1 o) (yldG T1 o fun T'=>regT H ty ops T' K) (DD H ty T1 o fun T' _ _=>regT H ty ops T' K)=some r:=h;cases mb:isYg T1 o;rotate_left
    ·rw[mb]at h;replace h:yldG T1 o (fun T'=>regT H ty ops T' K)=some r:=h;refine(kzt0 i1 gV h).mono ?_;rintro S' ⟨B2,T2,hk,i2,l2,c2,se⟩;refine .see se ((Nm hk i2 c2).mono ?_);rintro S ⟨B',T',k1,k2,k3,k4,k5⟩;exact⟨B',T',k1,k2,(l1.trans l2).trans k3,k4,k5⟩
    rw[mb]at h;replace h:DD H ty T1 o (fun T' _ _=>regT H ty ops T' K)=some r:=h;obtain⟨B2,T2,rd,out,hk,hS⟩:=wzq3 i1 h;obtain⟨v,ob,d1,d2,d3⟩:=hS.ex;have k5:=Nm hk hS.inv (gV.log hS.log);refine(Wi (HU i1) d1).mono ?_;rintro S' ⟨v',out',e1,e2,rfl⟩;rw[d3]at k5;refine .see (.veq (PG e1).1 (PG e1).2 e2.put) (k5.mono ?_);rintro S ⟨B',T',k1,k2,k3,k4,k5⟩;exact⟨B',T',k1,k2,(l1.trans hS.log).trans k3,k4,k5⟩
   ·rw[hy]at h;replace h:yldT T1 o (fun T'=>regT H ty ops T' K)=some r:=h;exact(jzg1 i1 gV (jzjt hy) h).mono fun S'=>rest
  ·rw[hw]at h;replace h:inpT H T1 o (fun T'=>regT H ty ops T' K)=some r:=h;exact(jzgm i1 gV (jzjw hw) h).mono fun S'=>rest
theorem wzzp{nx:Nat}{ar:Ac->Aa}(hA:∀a x,argP T none a=some x->ar a=eP B x/\StP nx x){B':Phi}{id st:Nat}{ob:TO}(aG:Ext nx B B')(aB:OkO (B id st) ob):∀{l:List Ac} {vs:List SV},Pz T id st ob l=some vs -> ((∃c,ob=.own c [])->Ws (l.map ar) (At vs))/\((∀c,ob≠.own c [])->FVl id (eO B (B id st).ep ob) (l.map ar) (At vs))
 |[],vs,h=>by cases h;exact⟨fun _=>trivial,fun _=>trivial⟩
 |a :: l,vs,h=>by
  simp only[Pz]at h;split at h
  ·rename_i x r h1 h2;obtain⟨e1,e2⟩:=hA _ _ h1;obtain⟨i1,i2⟩:=wzzp hA aG aB h2;obtain⟨_,_,p3,p4⟩:=Nj (id:=id) (st:=st) (o:=ob) aG e2 aB;split at h
   ·rename_i v hv;cases h;rw[hv]at p3 p4;rw[<-e1]at p3 p4;exact⟨fun hc=>⟨p3 hc,i1 hc⟩,fun hc=>⟨p4 hc,i2 hc⟩⟩
   ·cases h
  ·cases h
def Ie{U:Type}(B:Phi)(T:Ap)(o:As)(K:Ap->List Nat->Option Nat->Option U)(r:U):Prop := ∃B' T' rd out,K T' rd out=some r/\InvT B' T'/\Log B T B' T'/\GK T T'/\∃v ob,BX TabT.E TabT.P o (em B T) v rd ob/\out=ob.map (·.1)/\em B' T'=⟨putT (em B T).t o.dst v,putH (em B T).h ob,B.ds⟩
theorem wzz7[TabOk]{U:Type}{H:List Fe}{T0:Ap}{ar:Ac->Aa}(hI:InvT B T)(e1:T0.h=T.h)(e2:T0.nx=T.nx)(hA:Ar B T0 none ar (em B T).h){f:FuncId}{ags:List Ac}{id:Nat}{K:PV->Option U}{r:U}(h:P0 H T0 f ags id K=some r) : ∃(v:SV) (e:Nat),K (.s v)=some r/\DFz TabT.E TabT.P f (ags.map ar) (em B T).h (A7 v) [id] (some (id,.gone e))/\inR T.b id=true:=by
 unfold P0 at h;rw[e1]at h;split at h
 ·rename_i st ob C h1 h2;split at h
  ·rename_i vs h3;split at h
   ·rename_i x h4;obtain⟨hs,h⟩:=An h
    obtain⟨y,hy,hK⟩:∃y,C.F x=some y/\K (.s (retT C.r y))=some r:=by
     cases hx:C.F x with
     |none=>rw[hx]at h;cases h
     |some y=>rw[hx]at h;exact⟨y,rfl,h⟩
    have ct:AY TabT.E TabT.P f (At vs) (A7 (retT C.r y)):=DA h2▸(C.call (Fb h4) hy).2;obtain⟨aH,aB,_⟩:=hI.ob _ _ _ h1;have hh:(em B T).h id=eO B (B id st).ep ob:=FO h1;obtain⟨a1,a2⟩:=wzzp (T:=T0) (ar:=ar) (B:=B) (fun a x hx=>⟨(hA.a a x hx).1,e2▸(hA.a a x hx).2.1⟩) (B':=B) (nx:=T.nx) (.refl _ _) aB h3;by_cases hc:∃c,ob=.own c []
    ·obtain⟨c,rfl⟩:=hc;exact⟨_,(B id st).ep,hK,⟨id,Be ..,by rw[hh];exact P2,.inr (.inl ⟨by rw[hh];rfl,ct.w (a1 ⟨c,rfl⟩)⟩)⟩,hI.fr.ro _ _ h1⟩
    ·have hc:∀c,ob≠.own c []:=fun c e=>hc ⟨c,e⟩;refine⟨_,(B id st).ep+1,hK,⟨id,Be ..,by rw[hh];exact P2,.inl ⟨by rw[hh,MY],?_,_,?_,ct⟩⟩,hI.fr.ro _ _ h1⟩
     ·rw[hh];cases ob with
      |vec c l=>rfl
      |own c l=>cases l with
       |nil=>exact absurd rfl (hc c)
       |cons y l=>rfl
      |_=>cases hs
     ·rw[hh];exact a2 hc
   ·cases h
  ·cases h
 ·cases h
theorem wzz9(hI:InvT B T){id e:Nat}(hid:inR T.b id=true){d:Option Tmp}{x:TV}(hd:Bw T d=true)(hx:∀B',Ext T.nx B B'->TOk B' (putO T id .gone false) x) : ∃B',InvT B' (putS (putO T id .gone false) d x)/\Log B T B' (putS (putO T id .gone false) d x)/\GK T (putS (putO T id .gone false) d x)/\em B' (putS (putO T id .gone false) d x)=⟨putT (em B T).t d (eT B' x),putH (em B T).h (some (id,.gone e)),B.ds⟩:=by obtain⟨i1,l1,e1⟩:=Ib hI hid (G:=⟨e,0,fun _=>[]⟩) (ob:=.gone) trivial trivial (re:=false) (id:=id) (fun hr=>by cases hr) rfl;exact⟨_,Cf i1 hd (hx _ GG),l1.trans B9,Ni.trans (E2 (T:=putO T id .gone false) hd),by rw[CI,e1];rfl⟩
theorem PK[TabOk]{U:Type}{H:List Fe}{ty:List (Nat×CT)}{o:As}{K:Ap->List Nat->Option Nat->Option U}{r:U}(hI:InvT B T)(h:DD H ty T o K=some r):Ie B T o K r:=by obtain⟨B',T',rd,out,k,S⟩:=wzq3 hI h;obtain⟨v,ob,d1,d2,d3⟩:=S.ex;exact⟨B',T',rd,out,k,S.inv,S.log,S.gk,v,ob,.inl d1,d2,d3⟩
theorem Ig[TabOk]{U:Type}{H:List Fe}{ty:List (Nat×CT)}{o:As}{K:Ap->List Nat->Option Nat->Option U}{r:U}(hI:InvT B T)(h:Ey H ty T o K=some r):Ie B T o K r:=by
 unfold Ey at h;split at h
 ·rename_i f ags hg aK;split at h
  ·exact PK hI h
  ·rename_i id _ _;obtain⟨hd,h⟩:=An h;obtain⟨v,e,hK,hz,hid⟩:=wzz7 hI rfl rfl (Da hI) h;obtain⟨B',i1,l1,g1,e1⟩:=wzz9 hI hid (id:=id) (e:=e) (x:=.v (.s v)) hd fun B' _=>⟨trivial,trivial⟩;refine⟨B',_,_,_,hK,i1,l1,g1,A7 v,_,.inr ?_,rfl,e1⟩;unfold D2;rw[hg];exact⟨f,ags,aK,hz⟩
 ·exact PK hI h
theorem wz16[TabOk]{U:Type}{H:List Fe}{ty:List (Nat×CT)}{o:As}{tg:Nat}{want:Bool}{K:Ap->List Nat->Option Nat->Option U}{r:U}(hI:InvT B T)(hg:o.guard=some (tg,want))(hb:gdT want (Ah T.t tg)=some true)(hm:memN tg T.gs=true)(h:MV H ty T o tg want K=some r):Ie B T o K r:=by
 unfold MV at h;obtain⟨hd,h⟩:=An h;have h0:=PD hI hb;have tok:∀{B':Phi} {T':Ap} {p:PV},GK T T'->StP T'.nx p->OkP B' p->TOk B' T' (.cnd tg want true p):=fun g h1 h2=>⟨h1,fun _=>h2,(g tg hm).1,by rw[(g tg hm).2];exact hb⟩;split at h
 ·rename_i f ags aK;split at h
  ·exact PK hI h
  ·rename_i id _ _;obtain⟨be,h⟩:=An h;obtain⟨v,e,hK,hz,hid⟩:=wzz7 hI (T0:=unT T tg want) rfl rfl (Uk hI hb) h;obtain⟨B',i1,l1,g1,e1⟩:=wzz9 hI hid (id:=id) (e:=e) (x:=.cnd tg want true (.s v)) hd fun B' _=>tok Ni trivial trivial;refine⟨B',_,_,_,hK,i1,l1,g1,.cnd true (A7 v),_,.inr ?_,rfl,e1⟩;unfold D2;rw[hg];exact⟨true,A7 v,h0,rfl,(fun e=>by cases e),.inl ⟨f,ags,aK,fun _=>⟨Nl hI hb be,hz⟩⟩⟩
 ·rename_i bQ;cases ho:Ff o.op with
  |false=>rw[ho]at h;exact PK hI h
  |true =>
   rw[ho]at h;obtain⟨be,h⟩:=An h;have hp:Hp B (unT T tg want) (argU TabT.E (em B T).t) (em B T).h:=⟨Uk hI hb,fun i=>JG hI i,hI.fr.ro⟩;obtain⟨cD,h⟩:=An h;obtain⟨p,id,ob,re,rd,ep,G,hK,V⟩:=wzwc hp cD h;obtain⟨bQ,hK⟩:=An hK;obtain⟨i1,l1,e1⟩:=Ib hI V.idr (G:=ghoR G ep ob) Ub V.rfo (re:=re) (id:=id) (ob:=ob) (fun hr=>by obtain⟨st,o0,q1,q2,q3⟩:=V.re hr;exact⟨st,o0,q1,by rw[Nb];exact q2,q3⟩) bQ;have fZ:Bw (putO T id ob re) o.dst=true:=hd;refine⟨_,_,_,_,hK,Cf i1 fZ (tok Ni V.st V.okp),l1.trans B9,Ni.trans (E2 fZ),.cnd true (eP (upd B id T.nx (ghoR G ep ob)) p),some (id,eO (upd B id T.nx (ghoR G ep ob)) ep ob),.inr ?_,rfl,?_⟩
   ·unfold D2;rw[hg];refine⟨true,_,h0,rfl,(fun e=>by cases e),.inr ⟨wzrr ho,fun _=>⟨?_,V.ok,V.v,V.hrd,V.hout,fun i ob e=>by cases e;exact V.hid⟩⟩⟩;have hu:=Nl hI hb be;revert ho hu;cases o.op<;>first | exact fun _ hu=>hu | exact fun ho _=>by cases ho
   ·rw[CI,e1,Nb];rfl
theorem wz17{U:Type}{o:As}{tg:Nat}{want:Bool}{K:Ap->List Nat->Option Nat->Option U}{r:U}(hI:InvT B T)(hg:o.guard=some (tg,want))(hb:gdT want (Ah T.t tg)=some false)(hm:memN tg T.gs=true)(h:MW T o tg want K=some r):Ie B T o K r:=by
 unfold MW at h;obtain⟨hd,h⟩:=An h;obtain⟨hv,hK⟩:=An h;have h0:=PD hI hb;refine⟨B,_,_,_,hK,Cf hI hd ⟨trivial,(fun e=>by cases e),hm,hb⟩,B9,E2 hd,.cnd false .top,none,.inr ?_,rfl,CI⟩;unfold D2;rw[hg];refine⟨false,.top,h0,rfl,fun _=>rfl,?_⟩
 cases aK:o.op<;>rw[aK]at hv<;>first
  |exact .inl ⟨_,_,rfl,fun e=>by cases e⟩
  |exact .inr ⟨rfl,fun e=>by cases e⟩
  |cases hv
theorem wz0e{U:Type}{o:As}{n:Nat}{want:Bool}{x y:Ac}{K:Ap->List Nat->Option Nat->Option U}{r:U}(hI:InvT B T)(hg:o.guard=none)(aK:o.op=.pick (.t n) x y)(hb:gdT want (Ah T.t n)=some false)(h:P1 T o n (Ab want y x) K=some r):Ie B T o K r:=by
 unfold P1 at h;split at h
 ·rename_i b p h1 h2;obtain⟨hd,hK⟩:=An h;have hA:=Da hI;obtain⟨a1,a2,a3⟩:=hA.a _ _ h2;have hc:Ae TabT.E (em B T).t (.t n)=.bool b:=(hA.a (.t n) (.s (.bool b)) (by simp only[argP,h1])).1;rw[h1]at hb;have hb:b=!want:=by have:some (Ab want b (!b))=some false:=hb;cases want<;>cases b<;>first|rfl|(cases this;done)
  subst hb;refine⟨B,_,_,_,hK,Cf hI hd ⟨a2,a3 trivial⟩,B9,E2 hd,eP B p,none,.inl ?_,rfl,CI⟩
  have hq:unc (!want) (Ae TabT.E (em B T).t x)/\unc (!!want) (Ae TabT.E (em B T).t y):=by
   cases want
   ·exact⟨by rw[show Ae TabT.E (em B T).t x=eP B p from a1];exact GL _ _,by cases Ae TabT.E (em B T).t y<;>first|trivial|(intro e;cases e)⟩
   ·exact⟨by cases Ae TabT.E (em B T).t x<;>first|trivial|(intro e;cases e),by rw[show Ae TabT.E (em B T).t y=eP B p from a1];exact GL _ _⟩
  obtain⟨o1,o2⟩:=wz0d hq;have e:o.op.req (Ae TabT.E (em B T).t) (em B T).h=Cy (!want) (Ae TabT.E (em B T).t x) (Ae TabT.E (em B T).t y):=by rw[aK];simp only[Al.req,hc]
  refine Uc hg (by rw[aK];rfl) (by rw[e];exact o1) ?_ (by rw[e,o2];intro j hj;cases hj) (by rw[e,QH];trivial) (fun i ob e=>by cases e);rw[e,VS];cases want
  ·show VEq (unv (Ae TabT.E (em B T).t x)) _;rw[show Ae TabT.E (em B T).t x=eP B p from a1,GJ];exact .refl _
  ·show VEq (unv (Ae TabT.E (em B T).t y)) _;rw[show Ae TabT.E (em B T).t y=eP B p from a1,GJ];exact .refl _
 ·cases h
def KnOk(T:Ap)(kn:Kn):Prop:=∀tg want b,kn=some (tg,want,b)->gdT want (Ah T.t tg)=some b/\memN tg T.gs=true
theorem KnOk.gk{T T':Ap}{kn:Kn}(h:KnOk T kn)(g:GK T T'):KnOk T' kn:=fun tg want b e=>by obtain⟨h1,h2⟩:=h tg want b e;exact⟨by rw[(g tg h2).2];exact h1,(g tg h2).1⟩
theorem wz2a[TabOk]{U:Type}{H:List Fe}{ty:List (Nat×CT)}{kn:Kn}{o:As}{K:Ap->List Nat->Option Nat->Option U}{r:U}(hI:InvT B T)(hk:KnOk T kn)(h:TU H ty kn T o K=some r):Ie B T o K r:=by
 unfold TU at h;split at h
 ·exact Ig hI h
 ·rename_i tg want b;obtain⟨k1,k2⟩:=hk tg want b rfl;split at h
  ·rename_i tg' want' hg;cases h1:Nat.beq tg' tg<;>rw[h1]at h
   ·exact Ig hI h
   ·cases h2:eqB want' want<;>rw[h2]at h;·exact Ig hI h
    ·obtain rfl:=Ao.1 h1;obtain rfl:=Nd.1 h2;cases b
     ·exact wz17 hI hg k1 k2 h
     ·exact wz16 hI hg k1 k2 h
  ·rename_i hg;cases b
   ·replace h:(match o.op with
     |.pick (.t n) x y=>Ab (Nat.beq n tg) (P1 T o tg (Ab want y x) K) (Ey H ty T o K)
     | _=>Ey H ty T o K)=some r:=h
    split at h
    ·rename_i n x y aK;cases h1:Nat.beq n tg<;>rw[h1]at h
     ·exact Ig hI h
     ·obtain rfl:=Ao.1 h1;exact wz0e hI hg aK k1 h
    ·exact Ig hI h
   ·exact Ig hI h
theorem Ul[TabOk]{U:Type}{H:List Fe}{ty:List (Nat×CT)}:∀{ops:List As} {kn:Kn} {B:Phi} {T:Ap} {K:Ap->List (List Nat×Option Nat)->Option U} {r:U},CZ H ty ops kn T K=some r->InvT B T->KnOk T kn -> ∃B' T' tr,K T' tr=some r/\InvT B' T'/\Log B T B' T'/\∀K':Ay->List (List Nat×Option Nat)->Prop,K' (em B' T') tr->EC TabT.E TabT.P ops (em B T) K'
 |[],kn,B,T,K,r,h,hI,_=>⟨B,T,[],h,hI,.refl _ _,fun K' k=>k⟩
 |o :: ops,kn,B,T,K,r,h,hI,hk=>by
  have go:∀{kn':Kn} {T0:Ap},Log B T B T0->em B T0=em B T->KnOk T0 kn'->Ie B T0 o (fun T' rd out=>CZ H ty ops kn' T' fun T'' tr=>K T'' ((rd,out) :: tr)) r -> ∃B' T' tr,K T' tr=some r/\InvT B' T'/\Log B T B' T'/\∀K':Ay->List (List Nat×Option Nat)->Prop,K' (em B' T') tr->EC TabT.E TabT.P (o :: ops) (em B T) K':=by intro kn' T0 l0 e0 dq hS;obtain⟨B2,T2,rd,out,hK,s1,s2,g2,v,ob,d1,d2,d3⟩:=hS;obtain⟨B3,T3,tr,k1,k2,k3,k4⟩:=Ul hK s1 (dq.gk g2);refine⟨B3,T3,(rd,out) :: tr,k1,k2,(l0.trans s2).trans k3,fun K' kk=>?_⟩;rw[<-e0];refine⟨v,rd,ob,d1,?_⟩;have:=k4 (fun S' tr=>K' S' ((rd,ob.map (·.1)) :: tr)) (by rw[<-d2];exact kk);rw[d3]at this;exact this
  unfold CZ at h;split at h
  ·rename_i tg want hg;cases hs:ZV T tg want o.op<;>rw[hs]at h
   ·exact go (.refl _ _) rfl hk (Ig hI h)
   ·replace h:(match gdT want (Ah T.t tg) with
     |some g=>ite' g (MV H ty (addG T tg) o tg want fun T' rd out=>CZ H ty ops (some (tg,want,true)) T' fun T'' tr=>K T'' ((rd,out) :: tr))
       (MW (addG T tg) o tg want fun T' rd out=>CZ H ty ops (some (tg,want,false)) T' fun T'' tr=>K T'' ((rd,out) :: tr))
     | none=>none)=some r:=h
    split at h
    ·rename_i g hb;have bk:gdT want (Ah (addG T tg).t tg)=some g:=hb;have hm:memN tg (addG T tg).gs=true:=Fj.2 (Be ..);have dK:KnOk (addG T tg) (some (tg,want,g)):=fun a b c e=>by cases e;exact⟨bk,hm⟩
     cases g
     ·exact go (Ia tg) rfl dK (wz17 (JL hI tg) hg bk hm h)
     ·exact go (Ia tg) rfl dK (wz16 (JL hI tg) hg bk hm h)
    ·cases h
  ·exact go (.refl _ _) rfl hk (wz2a hI hk h)
end
end
theorem AS{β:Type}{p:Nat×β}{l:List (Nat×β)}{i:Nat}:hasK i (p :: l)=if p.1=i then true else hasK i l:=by
 show Ab (Nat.beq p.1 i) _ _=_;cases h:Nat.beq p.1 i
 ·rw[Ak (BS.1 h)];rfl
 ·rw[Aq (Ao.1 h)];rfl
theorem Ih{i:Nat}{l:List Nat}(h:memN i l=false):i∉l:=fun e=>by rw[Fj.2 e]at h;cases h
theorem CJ{c x:Bool}(h:Ab c false x=true):c=false/\x=true:=by cases c<;>first|exact⟨rfl,h⟩|cases h
theorem Aw{c x:Bool}(h:Ab c x false=true):c=true/\x=true:=by cases c<;>first|exact⟨rfl,h⟩|cases h
theorem Um{b i:Nat}:∀{ob:List (Nat×OH)},obR b ob=true->hasK i ob=true->inR b i=true
 |[],_,h=>by cases h
 |p :: l,h,k=>by
  have h:Ab (inR b p.1) (obR b l) false=true:=h;obtain⟨h1,h2⟩:=Aw h;rw[AS]at k;by_cases e:p.1=i
  ·rw[<-e];exact h1
  ·rw[Ak e]at k;exact Um h2 k
theorem wzs6{n i:Nat}(hn:n<=i):∀{sl:List (Nat×SH)},ltK n sl=true->hasK i sl=false
 |[],_=>rfl
 |p :: l,h=>by
  have h:Ab (Nat.blt p.1 n) (ltK n l) false=true:=h;obtain⟨h1,h2⟩:=Aw h;have h1:p.1<n:=by simpa [Hb] using h1
  rw[AS,Ak (by omega)];exact wzs6 hn h2
section
variable [Tab]
def Rv(x y:SV):Prop:=W (A7 x) (A7 y)/\(∀c m,x=.slc c m->y=x)/\(∀k v m,x=.mpv k v m->y=x)/\∀i m,x=.ylv i m->y=x
def Rvs:List SV->List SV->Prop
 |[],[]=>True
 |x :: l,y :: m=>Rv x y/\Rvs l m
 |_,_=>False
theorem Rvs.split:∀{a b v:List SV},Rvs (a++b) v->∃a' b',v=a'++b'/\Rvs a a'/\Rvs b b'/\a'.length=a.length
 |[],b,v,h=>⟨[],v,rfl,trivial,h,rfl⟩
 |x :: a,b,[],h=>h.elim
 |x :: a,b,y :: v,h=>by obtain⟨a',b',e,h1,h2,h3⟩:=Rvs.split (a:=a) h.2;exact⟨y :: a',b',by rw[e];rfl,⟨h.1,h1⟩,h2,by simp[h3]⟩
theorem wzsm[TabOk]{c:CT}{v:SV}{x:c.T}(h:ofW c v=some x):Rv v (wT c x):=by
 refine⟨Dr h,fun c' m e=>?_,fun k' v' m e=>?_,fun i m e=>?_⟩
 ·subst e;cases c with
  |us i=>have h:(none:Option (TabT.T i))=some x:=h;cases h
  |int k=>have h:(none:Option Int)=some x:=h;cases h
  |bool=>have h:(none:Option Bool)=some x:=h;cases h
  |str=>have h:(none:Option (List UInt8))=some x:=h;cases h
  |fn i=>have h:(none:Option (FnV i))=some x:=h;cases h
  |ptr c=>have h:(none:Option (Option c.T))=some x:=h;cases h
  |mp k v=>have h:(none:Option (List (k.T×v.T)))=some x:=h;cases h
  |sq i=>have h:(none:Option (SqV i))=some x:=h;cases h
  |yl i=>have h:(none:Option (List (TabT.FA i)))=some x:=h;cases h
  |slc c =>
   have h:BQ c' c m=some x:=h;unfold BQ at h;split at h
   ·rename_i e _;subst e;cases h;rfl
   ·cases h
 ·subst e;cases c with
  |us i=>have h:(none:Option (TabT.T i))=some x:=h;cases h
  |int k=>have h:(none:Option Int)=some x:=h;cases h
  |bool=>have h:(none:Option Bool)=some x:=h;cases h
  |str=>have h:(none:Option (List UInt8))=some x:=h;cases h
  |fn i=>have h:(none:Option (FnV i))=some x:=h;cases h
  |ptr c=>have h:(none:Option (Option c.T))=some x:=h;cases h
  |slc c=>have h:(none:Option (List c.T))=some x:=h;cases h
  |sq i=>have h:(none:Option (SqV i))=some x:=h;cases h
  |yl i=>have h:(none:Option (List (TabT.FA i)))=some x:=h;cases h
  |mp k v =>
   have h:ML k' v' k v m=some x:=h;unfold ML at h;split at h
   ·rename_i e1 e2 _ _;subst e1;subst e2;cases h;rfl
   ·cases h
 ·subst e;cases c with
  |us j=>have h:(none:Option (TabT.T j))=some x:=h;cases h
  |int k=>have h:(none:Option Int)=some x:=h;cases h
  |bool=>have h:(none:Option Bool)=some x:=h;cases h
  |str=>have h:(none:Option (List UInt8))=some x:=h;cases h
  |fn j=>have h:(none:Option (FnV j))=some x:=h;cases h
  |ptr c=>have h:(none:Option (Option c.T))=some x:=h;cases h
  |slc c=>have h:(none:Option (List c.T))=some x:=h;cases h
  |mp k v=>have h:(none:Option (List (k.T×v.T)))=some x:=h;cases h
  |sq j=>have h:(none:Option (SqV j))=some x:=h;cases h
  |yl j =>have h:ofYl j (.ylv i m)=some x:=h;have e:=Ta h;show SV.ylv j x=_;rw[e]
theorem wzot[TabOk]:∀(c:CT) (l:List CT) (v:List SV) (r:RowC c.T l),Jy c l v=some r->Rvs v (GB c l r)
 |c,[],v,r,h=>by obtain⟨u,rfl,h⟩:=D9 (f:=ofW c) h;exact⟨wzsm h,trivial⟩
 |c,d :: l,v,r,h=>by obtain⟨y,q,rfl,h1,h2⟩:=J5 (f:=ofW c) (g:=Jy d l) h;exact⟨wzsm h1,wzot d l q r.2 h2⟩
theorem wzsn[TabOk]{l:List CT}{v:List SV}{r:Row l}(h:Jz l v=some r):Rvs v (rowW l r):=by
 cases l with
 |nil=>rw[J6 h];exact trivial
 |cons c l=>exact wzot c l v r h
theorem wz8t{v:SV}{l:List SV}(h:v.cells=some l):v=.agg l\/(l=[v]/\(A7 v).one=true):=by
 cases v with
 |optr c x=>cases h;exact .inr ⟨rfl,Z8⟩
 |agg m=>cases h;exact .inl rfl
 |tup m=>cases h
 |top=>cases h
 |mpv k v l=>cases h
 |ylv i l=>cases h
 |_=>cases h;exact .inr ⟨rfl,rfl⟩
theorem wzwm{x y:SV}{l m:List SV}(h:W (A7 x) (A7 y))(hx:x.cells=some l)(hy:y.cells=some m):Ws (At l) (At m):=by
 rcases wz8t hx with rfl|⟨rfl,h1⟩<;>rcases wz8t hy with rfl|⟨rfl,h2⟩
 ·exact Gu.1 h
 ·exfalso;have h:W (.agg (At l)) (A7 y):=h;revert h h2;generalize A7 y=b;intro h2 h;cases h<;>cases h2
 ·exfalso;have h:W (A7 x) (.agg (At m)):=h;revert h h1;generalize A7 x=a;intro h1 h;cases h<;>cases h1
 ·exact⟨h,trivial⟩
theorem wztj(c:CT)(x:c.T)(h:∀k v,c≠.mp k v)(h':∀i,c≠.yl i):(wT c x).cells=some (Cv c x):=by
 cases c with
 |mp k v=>exact absurd rfl (h k v)
 |yl i=>exact absurd rfl (h' i)
 |_=>rfl
theorem wzvd{v:SV}{a:Aa}(h:eqA1 v a=true):A7 v=a:=by
  cases v<;>cases a<;>simp only[eqA1]at h<;>first
    |(cases h;done)
    |rfl
    | (rename_i k n k' m
       by_cases e:k=k'
       · rw[Aq e]at h;subst e;rw[Ip h];rfl
       · rw[Ak e]at h;cases h)
    |(rename_i a b;rw[Nd.1 h];rfl)
    |(rename_i a b;rw[Ip h];rfl)
section
variable {B0 B1:Phi}{T0 T1:Ap}{ob:List (Nat×OH)}
inductive Sl1(T0 T1:Ap)(ob:List (Nat×OH))(i:Nat):TV->Prop where
 |k (h:i∉T1.w) (k:kpP T0 T1 (Ah T0.t i)=true):Sl1 T0 T1 ob i (Ah T0.t i)
 |v (x0 x:SV) (h:Ah T1.t i=.v (.s x0)) (w:W (A7 x0) (A7 x)):Sl1 T0 T1 ob i (.v (.s x))
 |own (id st:Nat) (h:Ah T1.t i=.v (.own id st)) (k:curW T1 id st=true) (o:By id ob=true):Sl1 T0 T1 ob i (.v (.own id T0.nx))
 |own0 (id:Nat) (h:Ah T1.t i=.v (.s .nil)) (k:∀st o,Ad T1.h id=some (st,o)->o=.gone) (o:By id ob=true):Sl1 T0 T1 ob i (.v (.own id T0.nx))
 |owk (id st:Nat) (hw:i∉T1.w) (h:Ah T1.t i=.v (.own id st)) (k:curW T1 id st=true) (o:By id ob=true):Sl1 T0 T1 ob i (.v (.own id T0.nx))
 |vec (id st:Nat) (h:Ah T1.t i=.v (.vec id st)) (k:curO T1 id st=true) (o:Fh id ob=true):Sl1 T0 T1 ob i (.v (.vec id T0.nx))
 |ptr (id st off:Nat) (h:Ah T1.t i=.v (.ptr id st off)) (k:curO T1 id st=true):Sl1 T0 T1 ob i (.v (.ptr id T0.nx off))
 |mp (id st:Nat) (h:Ah T1.t i=.v (.mp id st)) (k:curO T1 id st=true):Sl1 T0 T1 ob i (.v (.mp id T0.nx))
theorem E3{i j:Nat}{s:SH}{sl:List (Nat×SH)}{y:TV}{L:List (Nat×TV)}(h1:j=i->Sl1 T0 T1 ob i y)(h2:(hasK i sl=false/\Ah L i=.v (.s .top))\/Sl1 T0 T1 ob i (Ah L i)) : (hasK i ((j,s) :: sl)=false/\Ah ((j,y) :: L) i=.v (.s .top))\/Sl1 T0 T1 ob i (Ah ((j,y) :: L) i):=by
 rw[AS,AB];by_cases h:j=i
 ·rw[Aq h,Aq h];exact .inr (h1 h)
 ·rw[Ak h,Ak h];exact h2
theorem E4{i:Nat}{rest:List SV}:∀{sl:List (Nat×SH)} {a a':List SV},svS T1 sl=some a->chS T0 T1 ob sl=true->Rvs a a' -> (hasK i sl=false/\Ah (rbS T0 sl (a'++rest)) i=.v (.s .top))\/Sl1 T0 T1 ob i (Ah (rbS T0 sl (a'++rest)) i)
 |[],a,a',_,_,_=>.inl ⟨rfl,rfl⟩
 |(j,.k) :: sl,a,a',h1,h2,h3=>by have h2:Ab (memN j T1.w) false (Ab (kpP T0 T1 (Ah T0.t j)) (chS T0 T1 ob sl) false)=true:=h2;obtain⟨p1,h2⟩:=CJ h2;obtain⟨p2,h2⟩:=Aw h2;exact E3 (s:=.k) (fun e=>by subst e;exact .k (Ih p1) p2) (E4 (sl:=sl) h1 h2 h3)
 |(j,.v c) :: sl,a,a',h1,h2,h3=>by
  simp only[svS]at h1;split at h1
  ·rename_i v r q1 q2;cases h1;cases a' with
   |nil=>exact h3.elim
   |cons y a'=>exact E3 (s:=.v c) (fun e=>by subst e;exact .v v y q1 h3.1.1) (E4 (sl:=sl) q2 h2 h3.2)
  ·cases h1
 |(j,.c b) :: sl,a,a',h1,h2,h3=>by
  simp only[chS]at h2;split at h2
  ·rename_i v q1;obtain⟨p1,h2⟩:=Aw h2;have p1:=wzvd p1;have ih:=E4 (i:=i) (rest:=rest) (sl:=sl) h1 h2 h3;show(_/\Ah ((match ofA1 b with | some x=>(j,.v (.s x)) | none=>(j,.v (.s .top))) :: rbS T0 sl (a'++rest)) i=_)\/Sl1 T0 T1 ob i (Ah ((match ofA1 b with | some x=>(j,.v (.s x)) | none=>(j,.v (.s .top))) :: rbS T0 sl (a'++rest)) i);cases hb:ofA1 b with
   |none=>exact E3 (s:=.c b) (fun e=>by subst e;exact .v v .top q1 (.top _)) ih
   |some x=>exact E3 (s:=.c b) (fun e=>by subst e;exact .v v x q1 (by rw[p1,P3 hb];exact .refl _)) ih
  ·cases h2
 |(j,.own id) :: sl,a,a',h1,h2,h3=>by
  simp only[chS]at h2;split at h2
  ·rename_i id' st q1;obtain⟨p1,h2⟩:=Aw h2;obtain⟨p2,h2⟩:=Aw h2;obtain⟨p3,h2⟩:=Aw h2;have p2:=Ao.1 p2;exact E3 (s:=.own id) (fun e=>by subst e;exact .own id st (by rw[q1,p2]) p3 p1) (E4 (sl:=sl) h1 h2 h3)
  ·rename_i q1;split at h2
   ·rename_i st ho;obtain⟨p1,h2⟩:=Aw h2;exact E3 (s:=.own id) (fun e=>by subst e;exact .own0 id q1 (fun st o e=>by rw[ho]at e;cases e;rfl) p1) (E4 (sl:=sl) h1 h2 h3)
   ·rename_i ho;obtain⟨p1,h2⟩:=Aw h2;exact E3 (s:=.own id) (fun e=>by subst e;exact .own0 id q1 (fun st o e=>by rw[ho]at e;cases e) p1) (E4 (sl:=sl) h1 h2 h3)
   ·cases h2
  ·cases h2
 |(j,.owk id) :: sl,a,a',h1,h2,h3=>by
  have h2:Ab (memN j T1.w) false (match Ah T1.t j with
   |.v (.own id' st)=>Ab (By id ob) (Ab (Nat.beq id' id) (Ab (curW T1 id st) (chS T0 T1 ob sl) false) false) false
   | _=>false)=true:=h2
  obtain⟨p0,h2⟩:=CJ h2;split at h2
  ·rename_i id' st q1;obtain⟨p1,h2⟩:=Aw h2;obtain⟨p2,h2⟩:=Aw h2;obtain⟨p3,h2⟩:=Aw h2;have p2:=Ao.1 p2;exact E3 (s:=.owk id) (fun e=>by subst e;exact .owk id st (Ih p0) (by rw[q1,p2]) p3 p1) (E4 (sl:=sl) h1 h2 h3)
  ·cases h2
 |(j,.vec id) :: sl,a,a',h1,h2,h3=>by
  simp only[chS]at h2;split at h2
  ·rename_i id' st q1;obtain⟨p1,h2⟩:=Aw h2;obtain⟨p2,h2⟩:=Aw h2;obtain⟨p3,h2⟩:=Aw h2;have p2:=Ao.1 p2;exact E3 (s:=.vec id) (fun e=>by subst e;exact .vec id st (by rw[q1,p2]) p3 p1) (E4 (sl:=sl) h1 h2 h3)
  ·cases h2
 |(j,.ptr id off) :: sl,a,a',h1,h2,h3=>by
  simp only[chS]at h2;split at h2
  ·rename_i id' st off' q1;obtain⟨p1,h2⟩:=Aw h2;obtain⟨p2,h2⟩:=Aw h2;obtain⟨p3,h2⟩:=Aw h2;have p1:=Ao.1 p1;have p2:=Ao.1 p2;exact E3 (s:=.ptr id off) (fun e=>by subst e;exact .ptr id st off (by rw[q1,p1,p2]) p3) (E4 (sl:=sl) h1 h2 h3)
  ·cases h2
 |(j,.mp id) :: sl,a,a',h1,h2,h3=>by
  simp only[chS]at h2;split at h2
  ·rename_i id' st q1;obtain⟨p1,h2⟩:=Aw h2;obtain⟨p3,h2⟩:=Aw h2;have p1:=Ao.1 p1;exact E3 (s:=.mp id) (fun e=>by subst e;exact .mp id st (by rw[q1,p1]) p3) (E4 (sl:=sl) h1 h2 h3)
  ·cases h2
inductive Ob1(T0 T1:Ap)(oA:List (Nat×OH))(id:Nat):Option (Nat×TO)->Prop where
 |k0 (h:id∉T1.wo) (p:Nat×TO) (e:Ad T0.h id=some p):Ob1 T0 T1 oA id (some p)
 |k1 (h:id∉T1.wo) (e:Ad T0.h id=none):Ob1 T0 T1 oA id (some (T0.nx,.gone))
 |gone:Ob1 T0 T1 oA id (some (T0.nx,.gone))
 |box (st:Nat) (cs cs':List SV) (h:Ad T1.h id=some (st,.box cs)) (w:Ws (At cs) (At cs')):Ob1 T0 T1 oA id (some (T0.nx,.box cs'))
 |own (st:Nat) (c:CT) (m:List c.T) (h:Ad T1.h id=some (st,.own c m)):Ob1 T0 T1 oA id (some (T0.nx,.own c m))
 |own0 (c:CT) (h:∀st o,Ad T1.h id=some (st,o)->o=.gone):Ob1 T0 T1 oA id (some (T0.nx,.own c []))
 |map (st:Nat) (k v:CT) (m:List (k.T×v.T)) (h:Ad T1.h id=some (st,.map k v m)):Ob1 T0 T1 oA id (some (T0.nx,.map k v m))
 |out (st i:Nat) (m:List (TabT.FA i)) (b' b:Bool) (h:Ad T1.h id=some (st,.out i m b')) (hb:b'=true->b=true):Ob1 T0 T1 oA id (some (T0.nx,.out i m b))
 |vec (st:Nat) (c:CT) (m:List c.T) (h:Ad T1.h id=some (st,.vec c m)):Ob1 T0 T1 oA id (some (T0.nx,.vec c m))
 |rvec (id2 st st2:Nat) (h:Ad T1.h id=some (st,.ref (.vec id2 st2))) (k:curO T1 id2 st2=true) (o:Fh id2 oA=true):Ob1 T0 T1 oA id (some (T0.nx,.ref (.vec id2 T0.nx)))
 |rmp (id2 st st2:Nat) (h:Ad T1.h id=some (st,.ref (.mp id2 st2))) (k:curO T1 id2 st2=true):Ob1 T0 T1 oA id (some (T0.nx,.ref (.mp id2 T0.nx)))
 |rown (id2 st st2:Nat) (h:Ad T1.h id=some (st,.ref (.own id2 st2))) (k:curW T1 id2 st2=true) (o:By id2 oA=true):Ob1 T0 T1 oA id (some (T0.nx,.ref (.own id2 T0.nx)))
 |rown0 (id2 st:Nat) (h:Ad T1.h id=some (st,.box [.nil])) (k:∀st o,Ad T1.h id2=some (st,o)->o=.gone) (o:By id2 oA=true):Ob1 T0 T1 oA id (some (T0.nx,.ref (.own id2 T0.nx)))
 |rag (cs cs':List SV) (k st id2 st2:Nat) (h:Ad T1.h id=some (st,.rag cs k id2 st2)) (w:Ws (At cs) (At cs')) (c:curO T1 id2 st2=true) (o:Fh id2 oA=true):Ob1 T0 T1 oA id (some (T0.nx,.rag cs' k id2 T0.nx))
theorem wztt{i j:Nat}{s:OH}{oA ob:List (Nat×OH)}{y:Nat×TO}{L:List (Nat×Nat×TO)}(h1:j=i->Ob1 T0 T1 oA i (some y))(h2:(hasK i ob=false/\Ad L i=none)\/Ob1 T0 T1 oA i (Ad L i)) : (hasK i ((j,s) :: ob)=false/\Ad ((j,y) :: L) i=none)\/Ob1 T0 T1 oA i (Ad ((j,y) :: L) i):=by
 rw[AS,AJ];by_cases h:j=i
 ·rw[Aq h,Aq h];exact .inr (h1 h)
 ·rw[Ak h,Ak h];exact h2
theorem wzs1[TabOk]{oA:List (Nat×OH)}{i:Nat}:∀{ob:List (Nat×OH)} {b b':List SV},svO T1 ob=some b->chO T0 T1 oA ob=true->Rvs b b' -> ((hasK i ob=false/\Ad (rbO T0 ob b') i=none)\/Ob1 T0 T1 oA i (Ad (rbO T0 ob b') i))/\(By i ob=true->∃c m,Ad (rbO T0 ob b') i=some (T0.nx,.own c m))/\(Fh i ob=true->∃c m,Ad (rbO T0 ob b') i=some (T0.nx,.vec c m))
 |[],b,b',_,_,_=>⟨.inl ⟨rfl,rfl⟩,(fun h=>by cases h),fun h=>by cases h⟩
 |(j,s) :: ob,b,b',h1,h2,h3=>by
  have key:∃y b2 b2',rbO T0 ((j,s) :: ob) b'=(j,y) :: rbO T0 ob b2'/\svO T1 ob=some b2/\Rvs b2 b2'/\chO T0 T1 oA ob=true/\(j=i->Ob1 T0 T1 oA i (some y))/\((∃c,s=.own c)->∃c m,y=(T0.nx,.own c m))/\((∃c,s=.vec c)->∃c m,y=(T0.nx,.vec c m)):=by
   cases s with
   |k =>
    have h2:Ab (memN j T1.wo) false (chO T0 T1 oA ob)=true:=h2;obtain⟨p1,h2⟩:=CJ h2;have e0:rbO T0 ((j,.k) :: ob) b'=(match Ad T0.h j with | some p=>(j,p) :: rbO T0 ob b' | none=>(j,T0.nx,.gone) :: rbO T0 ob b'):=rfl;cases ho:Ad T0.h j with
    |none =>rw[ho]at e0;exact⟨_,_,_,e0,h1,h3,h2,fun e=>(by subst e;exact .k1 (Ih p1) ho),fun⟨c,e⟩=>(by cases e),fun⟨c,e⟩=>(by cases e)⟩
    |some p =>rw[ho]at e0;exact⟨_,_,_,e0,h1,h3,h2,fun e=>(by subst e;exact .k0 (Ih p1) p ho),fun⟨c,e⟩=>(by cases e),fun⟨c,e⟩=>(by cases e)⟩
   |gone=>exact⟨_,_,_,rfl,h1,h3,h2,fun e=>.gone,fun⟨c,e⟩=>(by cases e),fun⟨c,e⟩=>(by cases e)⟩
   |rvec id2 =>
    simp only[chO]at h2;split at h2
    ·rename_i st id' st2 q1;obtain⟨p1,h2⟩:=Aw h2;obtain⟨p2,h2⟩:=Aw h2;obtain⟨p3,h2⟩:=Aw h2;have p2:=Ao.1 p2;exact⟨_,_,_,rfl,h1,h3,h2,fun e=>(by subst e;exact .rvec id2 st st2 (by rw[q1,p2]) p3 p1),fun⟨c,e⟩=>(by cases e),fun⟨c,e⟩=>(by cases e)⟩
    ·cases h2
   |rmp id2 =>
    simp only[chO]at h2;split at h2
    ·rename_i st id' st2 q1;obtain⟨p2,h2⟩:=Aw h2;obtain⟨p3,h2⟩:=Aw h2;have p2:=Ao.1 p2;exact⟨_,_,_,rfl,h1,h3,h2,fun e=>(by subst e;exact .rmp id2 st st2 (by rw[q1,p2]) p3),fun⟨c,e⟩=>(by cases e),fun⟨c,e⟩=>(by cases e)⟩
    ·cases h2
   |rag c k id2 =>
    simp only[chO]at h2;split at h2
    ·rename_i st0 cs0 k' id' st2 q0;obtain⟨p1,h2⟩:=Aw h2;obtain⟨p2,h2⟩:=Aw h2;obtain⟨p3,h2⟩:=Aw h2;obtain⟨p4,mc⟩:=Aw h2;obtain rfl:=Ao.1 p1;obtain rfl:=Ao.1 p3;simp only[svO]at h1;split at h1
     ·rename_i st cs ka ia sa r q1 q2;rw[q0]at q1;cases q1;split at h1
      ·rename_i x q3;cases h1;cases b' with
       |nil=>exact h3.elim
       |cons y b' =>
        have e0:rbO T0 ((j,.rag c k' id') :: ob) (y :: b')=(match y.cells with | some cs=>(j,T0.nx,.rag cs k' id' T0.nx) | none=>(j,T0.nx,.gone)) :: rbO T0 ob b':=rfl;cases hy:y.cells with
        |none =>rw[hy]at e0;exact⟨_,_,_,e0,q2,h3.2,mc,fun e=>.gone,fun⟨c,e⟩=>(by cases e),fun⟨c,e⟩=>(by cases e)⟩
        |some cs' =>rw[hy]at e0;refine⟨_,_,_,e0,q2,h3.2,mc,fun e=>?_,fun⟨c,e⟩=>(by cases e),fun⟨c,e⟩=>(by cases e)⟩;subst e;refine .rag cs0 cs' k' st0 id' st2 q0 ((FN q3).1.trans ?_) p4 p2;rw[<-ES];exact wzwm h3.1.1 (wztj c x (fun k v e=>by subst e;cases q3) (fun i e=>by subst e;cases q3)) hy
      ·cases h1
     ·cases h1
    ·cases h2
   |rown id2 =>
    simp only[chO]at h2;split at h2
    ·rename_i st id' st2 q1;obtain⟨p1,h2⟩:=Aw h2;obtain⟨p2,h2⟩:=Aw h2;obtain⟨p3,h2⟩:=Aw h2;have p2:=Ao.1 p2;exact⟨_,_,_,rfl,h1,h3,h2,fun e=>(by subst e;exact .rown id2 st st2 (by rw[q1,p2]) p3 p1),fun⟨c,e⟩=>(by cases e),fun⟨c,e⟩=>(by cases e)⟩
    ·rename_i st q1;split at h2
     ·rename_i st' ho;obtain⟨p1,h2⟩:=Aw h2;exact⟨_,_,_,rfl,h1,h3,h2,fun e=>(by subst e;exact .rown0 id2 st q1 (fun st o e=>by rw[ho]at e;cases e;rfl) p1),fun⟨c,e⟩=>(by cases e),fun⟨c,e⟩=>(by cases e)⟩
     ·rename_i ho;obtain⟨p1,h2⟩:=Aw h2;exact⟨_,_,_,rfl,h1,h3,h2,fun e=>(by subst e;exact .rown0 id2 st q1 (fun st o e=>by rw[ho]at e;cases e) p1),fun⟨c,e⟩=>(by cases e),fun⟨c,e⟩=>(by cases e)⟩
     ·cases h2
    ·cases h2
   |box c =>
    simp only[svO]at h1;split at h1
    ·rename_i st cs r q1 q2;split at h1
     ·rename_i x q3;cases h1;cases b' with
      |nil=>exact h3.elim
      |cons y b' =>
       have e0:rbO T0 ((j,.box c) :: ob) (y :: b')=(match y.cells with | some cs=>(j,T0.nx,.box cs) | none=>(j,T0.nx,.gone)) :: rbO T0 ob b':=rfl;cases hy:y.cells with
       |none =>rw[hy]at e0;exact⟨_,_,_,e0,q2,h3.2,h2,fun e=>.gone,fun⟨c,e⟩=>(by cases e),fun⟨c,e⟩=>(by cases e)⟩
       |some cs' =>rw[hy]at e0;refine⟨_,_,_,e0,q2,h3.2,h2,fun e=>?_,fun⟨c,e⟩=>(by cases e),fun⟨c,e⟩=>(by cases e)⟩;subst e;refine .box st cs cs' q1 ((FN q3).1.trans ?_);rw[<-ES];exact wzwm h3.1.1 (wztj c x (fun k v e=>by subst e;cases q3) (fun i e=>by subst e;cases q3)) hy
     ·cases h1
    ·cases h1
   |own c =>
    simp only[svO]at h1;split at h1
    ·rename_i st c' m r q1 q2;cases h1;cases b' with
     |nil=>exact h3.elim
     |cons y b' =>have hy:=h3.1.2.1 c' m rfl;subst hy;exact⟨(T0.nx,.own c' m),_,_,rfl,q2,h3.2,h2,fun e=>(by subst e;exact .own st c' m q1),fun _=>⟨c',m,rfl⟩,fun⟨c,e⟩=>(by cases e)⟩
    ·rename_i st r q1 q2;cases h1;cases b' with
     |nil=>exact h3.elim
     |cons y b' =>have hy:=h3.1.2.1 c [] rfl;subst hy;exact⟨(T0.nx,.own c []),_,_,rfl,q2,h3.2,h2,fun e=>(by subst e;exact .own0 c (fun st o e=>by rw[q1]at e;cases e;rfl)),fun _=>⟨c,[],rfl⟩,fun⟨c,e⟩=>(by cases e)⟩
    ·rename_i r q1 q2;cases h1;cases b' with
     |nil=>exact h3.elim
     |cons y b' =>have hy:=h3.1.2.1 c [] rfl;subst hy;exact⟨(T0.nx,.own c []),_,_,rfl,q2,h3.2,h2,fun e=>(by subst e;exact .own0 c (fun st o e=>by rw[q1]at e;cases e)),fun _=>⟨c,[],rfl⟩,fun⟨c,e⟩=>(by cases e)⟩
    ·cases h1
   |vec c =>
    simp only[svO]at h1;split at h1
    ·rename_i st c' m r q1 q2;cases h1;cases b' with
     |nil=>exact h3.elim
     |cons y b' =>have hy:=h3.1.2.1 c' m rfl;subst hy;exact⟨(T0.nx,.vec c' m),_,_,rfl,q2,h3.2,h2,fun e=>(by subst e;exact .vec st c' m q1),fun⟨c,e⟩=>(by cases e),fun _=>⟨c',m,rfl⟩⟩
    ·cases h1
   |map kk vv =>
    simp only[svO]at h1;split at h1
    ·rename_i st k' v' m r q1 q2;cases h1;cases b' with
     |nil=>exact h3.elim
     |cons y b' =>have hy:=h3.1.2.2.1 k' v' m rfl;subst hy;exact⟨(T0.nx,.map k' v' m),_,_,rfl,q2,h3.2,h2,fun e=>(by subst e;exact .map st k' v' m q1),fun⟨c,e⟩=>(by cases e),fun⟨c,e⟩=>(by cases e)⟩
    ·cases h1
   |out i0 b0 =>
    simp only[svO]at h1;split at h1
    ·rename_i st j0 m b1 r q1 q2;obtain⟨hb,h1⟩:=An h1;cases h1;cases b' with
     |nil=>exact h3.elim
     |cons y b' =>have hy:=h3.1.2.2.2 j0 m rfl;subst hy;exact⟨(T0.nx,.out j0 m b0),_,_,rfl,q2,h3.2,h2,fun e=>(by subst e;exact .out st j0 m b1 b0 q1 (fun e=>by rw[e]at hb;exact hb)),fun⟨c,e⟩=>(by cases e),fun⟨c,e⟩=>(by cases e)⟩
    ·cases h1
  obtain⟨y,b2,b2',k1,k2,k3,k4,k5,k6,k7⟩:=key;obtain⟨r1,r2,r3⟩:=wzs1 (i:=i) k2 k4 k3;rw[k1];refine⟨wztt k5 r1,fun h=>?_,fun h=>?_⟩
  ·have h:Ab (Nat.beq j i) (match (generalizing:=false) s with | .own _=>true | _=>false) (By i ob)=true:=h;rw[AJ];cases hj:Nat.beq j i
   ·rw[hj]at h;rw[Ak (BS.1 hj)];exact r2 h
   ·rw[hj]at h;rw[Aq (Ao.1 hj)];obtain⟨c,m,e⟩:=k6 (by cases s<;>first|exact⟨_,rfl⟩|cases h);exact⟨c,m,by rw[e]⟩
  ·have h:Ab (Nat.beq j i) (match (generalizing:=false) s with | .vec _=>true | _=>false) (Fh i ob)=true:=h;rw[AJ];cases hj:Nat.beq j i
   ·rw[hj]at h;rw[Ak (BS.1 hj)];exact r3 h
   ·rw[hj]at h;rw[Aq (Ao.1 hj)];obtain⟨c,m,e⟩:=k7 (by cases s<;>first|exact⟨_,rfl⟩|cases h);exact⟨c,m,by rw[e]⟩
theorem PL{l:List (Nat×OH)}:∀{h:List (Nat×Nat×TO)} {i:Nat},MX l h=true->hasK i l=false->Ad h i=none
 |[],i,_,_=>rfl
 |p :: r,i,h,k=>by have h:Ab (hasK p.1 l) (MX l r) false=true:=h;obtain⟨h1,h2⟩:=Aw h;rw[AJ,Ak (fun e=>by rw[e,k]at h1;cases h1)];exact PL h2 k
theorem E5{i:Nat}:∀{sl:List (Nat×SH)} {v:List SV},hasK i sl=false->Ah (rbS T0 sl v) i=.v (.s .top)
 |[],v,_=>rfl
 |(j,s) :: sl,v,h=>by
  rw[AS]at h;have hj:j≠i:=fun e=>by rw[Aq e]at h;cases h
  rw[Ak hj]at h;cases s with
  |k=>show Ah ((j,_) :: rbS T0 sl v) i=_;rw[AB,Ak hj];exact E5 h
  |v c =>
   cases v with
   |nil=>exact E5 (sl:=sl) (v:=[]) h
   |cons x v=>show Ah ((j,_) :: rbS T0 sl v) i=_;rw[AB,Ak hj];exact E5 h
  |c a =>show Ah ((match ofA1 a with | some x=>(j,.v (.s x)) | none=>(j,.v (.s .top))) :: rbS T0 sl v) i=_;cases ofA1 a<;>(show Ah ((j,_) :: rbS T0 sl v) i=_;rw[AB,Ak hj];exact E5 h)
  |own id=>show Ah ((j,_) :: rbS T0 sl v) i=_;rw[AB,Ak hj];exact E5 h
  |vec id=>show Ah ((j,_) :: rbS T0 sl v) i=_;rw[AB,Ak hj];exact E5 h
  |owk id=>show Ah ((j,_) :: rbS T0 sl v) i=_;rw[AB,Ak hj];exact E5 h
  |ptr id off=>show Ah ((j,_) :: rbS T0 sl v) i=_;rw[AB,Ak hj];exact E5 h
  |mp id=>show Ah ((j,_) :: rbS T0 sl v) i=_;rw[AB,Ak hj];exact E5 h
theorem Fp{i:Nat}{w:List Nat}:∀{sl:List (Nat×SH)} {v:List SV},i∉setW sl w->i∉w/\(hasK i sl=true->hasW i sl=true\/Ah (rbS T0 sl v) i=Ah T0.t i)
 |[],v,h=>⟨h,fun e=>by cases e⟩
 |(j,.k) :: sl,v,h=>by
  obtain⟨h1,h2⟩:=Fp (sl:=sl) (v:=v) h;refine⟨h1,fun e=>?_⟩;rw[AS]at e;by_cases hj:j=i
  ·subst hj;refine .inr ?_;show Ah ((j,Ah T0.t j) :: rbS T0 sl v) j=_;rw[AB,Aq rfl]
  ·rw[Ak hj]at e;refine(h2 e).imp (fun q=>by rw[Fi hj];exact q) fun q=>?_;show Ah ((j,Ah T0.t j) :: rbS T0 sl v) i=_;rw[AB,Ak hj];exact q
 |(j,.owk id) :: sl,v,h=>by
  obtain⟨h1,h2⟩:=Fp (sl:=sl) (v:=v) h;refine⟨h1,fun e=>?_⟩;rw[AS]at e;by_cases hj:j=i
  ·subst hj;refine .inl ?_;show Ab (Nat.beq j j) true (hasW j sl)=true;rw[Ao.2 rfl];rfl
  ·rw[Ak hj]at e;refine(h2 e).imp (fun q=>by rw[Fi hj];exact q) fun q=>?_;show Ah ((j,_) :: rbS T0 sl v) i=_;rw[AB,Ak hj];exact q
 |(j,.v c) :: sl,v,h=>by
  have h:i∉j :: setW sl w:=h;simp only[AM,Cg]at h;cases v with
  |nil =>obtain⟨h1,h2⟩:=Fp (sl:=sl) (v:=[]) h.2;refine⟨h1,fun e=>?_⟩;rw[AS,Ak (fun e=>h.1 e.symm)]at e;exact(h2 e).imp (fun q=>by rw[Fi (fun e=>h.1 e.symm)];exact q) fun q=>q
  |cons x v =>obtain⟨h1,h2⟩:=Fp (sl:=sl) (v:=v) h.2;refine⟨h1,fun e=>?_⟩;rw[AS,Ak (fun e=>h.1 e.symm)]at e;refine(h2 e).imp (fun q=>by rw[Fi (fun e=>h.1 e.symm)];exact q) fun q=>?_;show Ah ((j,_) :: rbS T0 sl v) i=_;rw[AB,Ak (fun e=>h.1 e.symm)];exact q
 |(j,.c a) :: sl,v,h=>by have h:i∉j :: setW sl w:=h;simp only[AM,Cg]at h;obtain⟨h1,h2⟩:=Fp (sl:=sl) (v:=v) h.2;refine⟨h1,fun e=>?_⟩;rw[AS,Ak (fun e=>h.1 e.symm)]at e;refine(h2 e).imp (fun q=>by rw[Fi (fun e=>h.1 e.symm)];exact q) fun q=>?_;show Ah ((match ofA1 a with | some x=>(j,.v (.s x)) | none=>(j,.v (.s .top))) :: rbS T0 sl v) i=_;cases ofA1 a<;>(show Ah ((j,_) :: rbS T0 sl v) i=_;rw[AB,Ak (fun e=>h.1 e.symm)];exact q)
 |(j,.own id) :: sl,v,h=>by have h:i∉j :: setW sl w:=h;simp only[AM,Cg]at h;obtain⟨h1,h2⟩:=Fp (sl:=sl) (v:=v) h.2;refine⟨h1,fun e=>?_⟩;rw[AS,Ak (fun e=>h.1 e.symm)]at e;refine(h2 e).imp (fun q=>by rw[Fi (fun e=>h.1 e.symm)];exact q) fun q=>?_;show Ah ((j,_) :: rbS T0 sl v) i=_;rw[AB,Ak (fun e=>h.1 e.symm)];exact q
 |(j,.vec id) :: sl,v,h=>by have h:i∉j :: setW sl w:=h;simp only[AM,Cg]at h;obtain⟨h1,h2⟩:=Fp (sl:=sl) (v:=v) h.2;refine⟨h1,fun e=>?_⟩;rw[AS,Ak (fun e=>h.1 e.symm)]at e;refine(h2 e).imp (fun q=>by rw[Fi (fun e=>h.1 e.symm)];exact q) fun q=>?_;show Ah ((j,_) :: rbS T0 sl v) i=_;rw[AB,Ak (fun e=>h.1 e.symm)];exact q
 |(j,.ptr id off) :: sl,v,h=>by have h:i∉j :: setW sl w:=h;simp only[AM,Cg]at h;obtain⟨h1,h2⟩:=Fp (sl:=sl) (v:=v) h.2;refine⟨h1,fun e=>?_⟩;rw[AS,Ak (fun e=>h.1 e.symm)]at e;refine(h2 e).imp (fun q=>by rw[Fi (fun e=>h.1 e.symm)];exact q) fun q=>?_;show Ah ((j,_) :: rbS T0 sl v) i=_;rw[AB,Ak (fun e=>h.1 e.symm)];exact q
 |(j,.mp id) :: sl,v,h=>by have h:i∉j :: setW sl w:=h;simp only[AM,Cg]at h;obtain⟨h1,h2⟩:=Fp (sl:=sl) (v:=v) h.2;refine⟨h1,fun e=>?_⟩;rw[AS,Ak (fun e=>h.1 e.symm)]at e;refine(h2 e).imp (fun q=>by rw[Fi (fun e=>h.1 e.symm)];exact q) fun q=>?_;show Ah ((j,_) :: rbS T0 sl v) i=_;rw[AB,Ak (fun e=>h.1 e.symm)];exact q
theorem Un{i:Nat}{sl:List (Nat×SH)}:∀{t:List (Nat×TV)} {w:List Nat},i∉Cw sl t w->i∉w/\(hasK i sl=false->Ah t i=.v (.s .top))
 |[],w,h=>⟨h,fun _=>rfl⟩
 |p :: l,w,h=>by
  have h:i∉Ab (hasK p.1 sl) (Cw sl l w) (p.1 :: Cw sl l w):=h;cases hp:hasK p.1 sl<;>rw[hp]at h
  ·have h:i∉p.1 :: Cw sl l w:=h;simp only[AM,Cg]at h;obtain⟨h1,h2⟩:=Un h.2;exact⟨h1,fun e=>by rw[AB,Ak (fun e=>h.1 e.symm)];exact h2 e⟩
  ·obtain⟨h1,h2⟩:=Un (t:=l) h;exact⟨h1,fun e=>by rw[AB,Ak (fun e'=>by rw[e',e]at hp;cases hp)];exact h2 e⟩
theorem Bp{i:Nat}{w:List Nat}:∀{ob:List (Nat×OH)} {v:List SV},i∉AV ob w->i∉w/\(hasK i ob=true->Ad (rbO T0 ob v) i=match Ad T0.h i with | some p=>some p | none=>some (T0.nx,.gone))
 |[],v,h=>⟨h,fun e=>by cases e⟩
 |(j,.k) :: ob,v,h=>by
  obtain⟨h1,h2⟩:=Bp (ob:=ob) (v:=v) h;refine⟨h1,fun e=>?_⟩;rw[AS]at e;have e0:rbO T0 ((j,.k) :: ob) v=(match Ad T0.h j with | some p=>(j,p) :: rbO T0 ob v | none=>(j,T0.nx,.gone) :: rbO T0 ob v):=rfl;rw[e0];by_cases hj:j=i
  ·subst hj;cases Ad T0.h j<;>simp only[AJ,BK]
  ·rw[Ak hj]at e;have:=h2 e;cases Ad T0.h j<;>(simp only[AJ];rw[Ak hj];exact this)
 |(j,.gone) :: ob,v,h=>by have h:i∉j :: AV ob w:=h;simp only[AM,Cg]at h;obtain⟨h1,h2⟩:=Bp (ob:=ob) (v:=v) h.2;refine⟨h1,fun e=>?_⟩;rw[AS,Ak (fun e=>h.1 e.symm)]at e;show Ad ((j,_) :: rbO T0 ob v) i=_;rw[AJ,Ak (fun e=>h.1 e.symm)];exact h2 e
 |(j,.rmp _) :: ob,v,h=>by have h:i∉j :: AV ob w:=h;simp only[AM,Cg]at h;obtain⟨h1,h2⟩:=Bp (ob:=ob) (v:=v) h.2;refine⟨h1,fun e=>?_⟩;rw[AS,Ak (fun e=>h.1 e.symm)]at e;show Ad ((j,_) :: rbO T0 ob v) i=_;rw[AJ,Ak (fun e=>h.1 e.symm)];exact h2 e
 |(j,.rvec _) :: ob,v,h=>by have h:i∉j :: AV ob w:=h;simp only[AM,Cg]at h;obtain⟨h1,h2⟩:=Bp (ob:=ob) (v:=v) h.2;refine⟨h1,fun e=>?_⟩;rw[AS,Ak (fun e=>h.1 e.symm)]at e;show Ad ((j,_) :: rbO T0 ob v) i=_;rw[AJ,Ak (fun e=>h.1 e.symm)];exact h2 e
 |(j,.rag c _ _) :: ob,v,h=>by
  have h:i∉j :: AV ob w:=h;simp only[AM,Cg]at h;refine⟨(Bp (ob:=ob) (v:=v) h.2).1,fun e=>?_⟩;rw[AS,Ak (fun e=>h.1 e.symm)]at e;cases v with
  |nil=>show Ad ((j,_) :: rbO T0 ob []) i=_;rw[AJ,Ak (fun e=>h.1 e.symm)];exact(Bp (ob:=ob) (v:=[]) h.2).2 e
  |cons x v =>show Ad ((match x.cells with | some cs=>(j,T0.nx,.rag cs _ _ T0.nx) | none=>(j,T0.nx,.gone)) :: rbO T0 ob v) i=_;cases x.cells<;>(simp only[AJ];rw[Ak (fun e=>h.1 e.symm)];exact(Bp (ob:=ob) (v:=v) h.2).2 e)
 |(j,.rown _) :: ob,v,h=>by have h:i∉j :: AV ob w:=h;simp only[AM,Cg]at h;obtain⟨h1,h2⟩:=Bp (ob:=ob) (v:=v) h.2;refine⟨h1,fun e=>?_⟩;rw[AS,Ak (fun e=>h.1 e.symm)]at e;show Ad ((j,_) :: rbO T0 ob v) i=_;rw[AJ,Ak (fun e=>h.1 e.symm)];exact h2 e
 |(j,.box c) :: ob,v,h=>by
  have h:i∉j :: AV ob w:=h;simp only[AM,Cg]at h;refine⟨(Bp (ob:=ob) (v:=v) h.2).1,fun e=>?_⟩;rw[AS,Ak (fun e=>h.1 e.symm)]at e;cases v with
  |nil=>show Ad ((j,_) :: rbO T0 ob []) i=_;rw[AJ,Ak (fun e=>h.1 e.symm)];exact(Bp (ob:=ob) (v:=[]) h.2).2 e
  |cons x v =>show Ad ((match x.cells with | some cs=>(j,T0.nx,.box cs) | none=>(j,T0.nx,.gone)) :: rbO T0 ob v) i=_;cases x.cells<;>(simp only[AJ];rw[Ak (fun e=>h.1 e.symm)];exact(Bp (ob:=ob) (v:=v) h.2).2 e)
 |(j,.own c) :: ob,v,h=>by
  have h:i∉j :: AV ob w:=h;simp only[AM,Cg]at h;refine⟨(Bp (ob:=ob) (v:=v) h.2).1,fun e=>?_⟩;rw[AS,Ak (fun e=>h.1 e.symm)]at e;cases v with
  |nil=>show Ad ((j,_) :: rbO T0 ob []) i=_;rw[AJ,Ak (fun e=>h.1 e.symm)];exact(Bp (ob:=ob) (v:=[]) h.2).2 e
  |cons x v=>cases x<;>(show Ad ((j,_) :: rbO T0 ob v) i=_;rw[AJ,Ak (fun e=>h.1 e.symm)];exact(Bp (ob:=ob) (v:=v) h.2).2 e)
 |(j,.vec c) :: ob,v,h=>by
  have h:i∉j :: AV ob w:=h;simp only[AM,Cg]at h;refine⟨(Bp (ob:=ob) (v:=v) h.2).1,fun e=>?_⟩;rw[AS,Ak (fun e=>h.1 e.symm)]at e;cases v with
  |nil=>show Ad ((j,_) :: rbO T0 ob []) i=_;rw[AJ,Ak (fun e=>h.1 e.symm)];exact(Bp (ob:=ob) (v:=[]) h.2).2 e
  |cons x v=>cases x<;>(show Ad ((j,_) :: rbO T0 ob v) i=_;rw[AJ,Ak (fun e=>h.1 e.symm)];exact(Bp (ob:=ob) (v:=v) h.2).2 e)
 |(j,.map _ _) :: ob,v,h=>by
  have h:i∉j :: AV ob w:=h;simp only[AM,Cg]at h;refine⟨(Bp (ob:=ob) (v:=v) h.2).1,fun e=>?_⟩;rw[AS,Ak (fun e=>h.1 e.symm)]at e;cases v with
  |nil=>show Ad ((j,_) :: rbO T0 ob []) i=_;rw[AJ,Ak (fun e=>h.1 e.symm)];exact(Bp (ob:=ob) (v:=[]) h.2).2 e
  |cons x v=>cases x<;>(show Ad ((j,_) :: rbO T0 ob v) i=_;rw[AJ,Ak (fun e=>h.1 e.symm)];exact(Bp (ob:=ob) (v:=v) h.2).2 e)
 |(j,.out _ _) :: ob,v,h=>by
  have h:i∉j :: AV ob w:=h;simp only[AM,Cg]at h;refine⟨(Bp (ob:=ob) (v:=v) h.2).1,fun e=>?_⟩;rw[AS,Ak (fun e=>h.1 e.symm)]at e;cases v with
  |nil=>show Ad ((j,_) :: rbO T0 ob []) i=_;rw[AJ,Ak (fun e=>h.1 e.symm)];exact(Bp (ob:=ob) (v:=[]) h.2).2 e
  |cons x v=>cases x<;>(show Ad ((j,_) :: rbO T0 ob v) i=_;rw[AJ,Ak (fun e=>h.1 e.symm)];exact(Bp (ob:=ob) (v:=v) h.2).2 e)
theorem Uo{i:Nat}:∀{ob:List (Nat×OH)} {v:List SV},hasK i ob=false->Ad (rbO T0 ob v) i=none
 |[],v,_=>rfl
 |(j,s) :: ob,v,h=>by
  rw[AS]at h;have hj:j≠i:=fun e=>by rw[Aq e]at h;cases h
  rw[Ak hj]at h;have c:∀(y:Nat×TO) v,Ad ((j,y) :: rbO T0 ob v) i=none:=fun y v=>by rw[AJ,Ak hj];exact Uo h
  cases s with
  |k =>show Ad (match Ad T0.h j with | some p=>(j,p) :: rbO T0 ob v | none=>(j,T0.nx,.gone) :: rbO T0 ob v) i=_;cases Ad T0.h j<;>exact c _ _
  |gone=>exact c _ _
  |rvec d=>exact c _ _
  |rmp d=>exact c _ _
  |rown d=>exact c _ _
  |rag d k id =>
   cases v with
   |nil=>exact c _ _
   |cons x v =>show Ad ((match x.cells with | some cs=>(j,T0.nx,.rag cs k id T0.nx) | none=>(j,T0.nx,.gone)) :: rbO T0 ob v) i=_;cases x.cells<;>exact c _ _
  |box d =>
   cases v with
   |nil=>exact c _ _
   |cons x v =>show Ad ((match x.cells with | some cs=>(j,T0.nx,.box cs) | none=>(j,T0.nx,.gone)) :: rbO T0 ob v) i=_;cases x.cells<;>exact c _ _
  |own d=>cases v with
   |nil=>exact c _ _
   |cons x v=>cases x<;>exact c _ _
  |vec d=>cases v with
   |nil=>exact c _ _
   |cons x v=>cases x<;>exact c _ _
  |map d d'=>cases v with
   |nil=>exact c _ _
   |cons x v=>cases x<;>exact c _ _
  |out d d'=>cases v with
   |nil=>exact c _ _
   |cons x v=>cases x<;>exact c _ _
theorem Db{oA:List (Nat×OH)}{i:Nat}{w:List Nat}:∀{ob:List (Nat×OH)},i∉AV ob w->hasK i ob=true->chO T0 T1 oA ob=true->i∉T1.wo
 |[],_,h,_=>by cases h
 |(j,.k) :: ob,h1,h2,h3=>by
  have h3:Ab (memN j T1.wo) false (chO T0 T1 oA ob)=true:=h3;obtain⟨p,h3⟩:=CJ h3;rw[AS]at h2;by_cases hj:j=i
  ·subst hj;exact Ih p
  ·rw[Ak hj]at h2;exact Db (ob:=ob) h1 h2 h3
 |(j,.gone) :: ob,h1,h2,h3=>by have h1:i∉j :: AV ob w:=h1;simp only[AM,Cg]at h1;rw[AS,Ak (fun e=>h1.1 e.symm)]at h2;exact Db (ob:=ob) h1.2 h2 h3
 |(j,.rmp _) :: ob,h1,h2,h3=>by
  have h1:i∉j :: AV ob w:=h1;simp only[AM,Cg]at h1;rw[AS,Ak (fun e=>h1.1 e.symm)]at h2;simp only[chO]at h3;split at h3
  ·obtain⟨_,h3⟩:=Aw h3;obtain⟨_,h3⟩:=Aw h3;exact Db (ob:=ob) h1.2 h2 h3
  ·cases h3
 |(j,.rvec _) :: ob,h1,h2,h3=>by
  have h1:i∉j :: AV ob w:=h1;simp only[AM,Cg]at h1;rw[AS,Ak (fun e=>h1.1 e.symm)]at h2;simp only[chO]at h3;split at h3
  ·obtain⟨_,h3⟩:=Aw h3;obtain⟨_,h3⟩:=Aw h3;obtain⟨_,h3⟩:=Aw h3;exact Db (ob:=ob) h1.2 h2 h3
  ·cases h3
 |(j,.rag _ _ _) :: ob,h1,h2,h3=>by
  have h1:i∉j :: AV ob w:=h1;simp only[AM,Cg]at h1;rw[AS,Ak (fun e=>h1.1 e.symm)]at h2;simp only[chO]at h3;split at h3
  ·obtain⟨_,h3⟩:=Aw h3;obtain⟨_,h3⟩:=Aw h3;obtain⟨_,h3⟩:=Aw h3;obtain⟨_,h3⟩:=Aw h3;exact Db (ob:=ob) h1.2 h2 h3
  ·cases h3
 |(j,.rown _) :: ob,h1,h2,h3=>by
  have h1:i∉j :: AV ob w:=h1;simp only[AM,Cg]at h1;rw[AS,Ak (fun e=>h1.1 e.symm)]at h2;simp only[chO]at h3;split at h3
  ·obtain⟨_,h3⟩:=Aw h3;obtain⟨_,h3⟩:=Aw h3;obtain⟨_,h3⟩:=Aw h3;exact Db (ob:=ob) h1.2 h2 h3
  ·split at h3;·obtain⟨_,h3⟩:=Aw h3;exact Db (ob:=ob) h1.2 h2 h3
   ·obtain⟨_,h3⟩:=Aw h3;exact Db (ob:=ob) h1.2 h2 h3
   ·cases h3
  ·cases h3
 |(j,.box _) :: ob,h1,h2,h3=>by have h1:i∉j :: AV ob w:=h1;simp only[AM,Cg]at h1;rw[AS,Ak (fun e=>h1.1 e.symm)]at h2;exact Db (ob:=ob) h1.2 h2 h3
 |(j,.own _) :: ob,h1,h2,h3=>by have h1:i∉j :: AV ob w:=h1;simp only[AM,Cg]at h1;rw[AS,Ak (fun e=>h1.1 e.symm)]at h2;exact Db (ob:=ob) h1.2 h2 h3
 |(j,.vec _) :: ob,h1,h2,h3=>by have h1:i∉j :: AV ob w:=h1;simp only[AM,Cg]at h1;rw[AS,Ak (fun e=>h1.1 e.symm)]at h2;exact Db (ob:=ob) h1.2 h2 h3
 |(j,.map _ _) :: ob,h1,h2,h3=>by have h1:i∉j :: AV ob w:=h1;simp only[AM,Cg]at h1;rw[AS,Ak (fun e=>h1.1 e.symm)]at h2;exact Db (ob:=ob) h1.2 h2 h3
 |(j,.out _ _) :: ob,h1,h2,h3=>by have h1:i∉j :: AV ob w:=h1;simp only[AM,Cg]at h1;rw[AS,Ak (fun e=>h1.1 e.symm)]at h2;exact Db (ob:=ob) h1.2 h2 h3
theorem Fq{ob:List (Nat×OH)}{i:Nat}:∀{sl:List (Nat×SH)} {v:List SV},hasW i sl=true->chS T0 T1 ob sl=true->∃id st,i∉T1.w/\Ah T1.t i=.v (.own id st)/\curW T1 id st=true/\By id ob=true/\Ah (rbS T0 sl v) i=.v (.own id T0.nx)
 |[],_,h,_=>by cases h
 |(j,.owk id) :: sl,v,h,h2=>by
  have h2:Ab (memN j T1.w) false (match Ah T1.t j with
   |.v (.own id' st)=>Ab (By id ob) (Ab (Nat.beq id' id) (Ab (curW T1 id st) (chS T0 T1 ob sl) false) false) false
   | _=>false)=true:=h2
  obtain⟨p0,h2⟩:=CJ h2;split at h2
  ·rename_i id' st q1;obtain⟨p1,h2⟩:=Aw h2;obtain⟨p2,h2⟩:=Aw h2;obtain⟨p3,h2⟩:=Aw h2;have p2:=Ao.1 p2;show ∃id st,_/\_/\_/\_/\Ah ((j,.v (.own _ T0.nx)) :: rbS T0 sl v) i=_;by_cases hj:j=i
   ·subst hj;exact⟨id,st,Ih p0,by rw[q1,p2],p3,p1,by rw[AB,Aq rfl]⟩
   ·rw[Fi hj]at h;obtain⟨a,b,c1,c2,c3,c4,c5⟩:=Fq (v:=v) h h2;exact⟨a,b,c1,c2,c3,c4,by rw[AB,Ak hj];exact c5⟩
  ·cases h2
 |(j,.k) :: sl,v,h,h2=>by have h2:Ab (memN j T1.w) false (Ab (kpP T0 T1 (Ah T0.t j)) (chS T0 T1 ob sl) false)=true:=h2;obtain⟨_,h2⟩:=CJ h2;obtain⟨_,h2⟩:=Aw h2;have h:Ab (Nat.beq j i) false (hasW i sl)=true:=h;obtain⟨hb,h⟩:=CJ h;obtain⟨a,b,c1,c2,c3,c4,c5⟩:=Fq (v:=v) h h2;exact⟨a,b,c1,c2,c3,c4,by show Ah ((j,_) :: rbS T0 sl v) i=_;rw[AB,Ak (BS.1 hb)];exact c5⟩
 |(j,.v c) :: sl,v,h,h2=>by
  have h2:chS T0 T1 ob sl=true:=h2;have h:Ab (Nat.beq j i) false (hasW i sl)=true:=h;obtain⟨hb,h⟩:=CJ h;cases v with
  |nil =>obtain⟨a,b,c1,c2,c3,c4,c5⟩:=Fq (v:=[]) h h2;exact⟨a,b,c1,c2,c3,c4,c5⟩
  |cons x v =>obtain⟨a,b,c1,c2,c3,c4,c5⟩:=Fq (v:=v) h h2;exact⟨a,b,c1,c2,c3,c4,by show Ah ((j,_) :: rbS T0 sl v) i=_;rw[AB,Ak (BS.1 hb)];exact c5⟩
 |(j,.c x) :: sl,v,h,h2=>by
  have h:Ab (Nat.beq j i) false (hasW i sl)=true:=h;obtain⟨hb,h⟩:=CJ h;simp only[chS]at h2;split at h2
  ·obtain⟨_,h2⟩:=Aw h2;obtain⟨a,b,c1,c2,c3,c4,c5⟩:=Fq (v:=v) h h2;refine⟨a,b,c1,c2,c3,c4,?_⟩;show Ah ((match ofA1 x with | some x=>(j,.v (.s x)) | none=>(j,.v (.s .top))) :: rbS T0 sl v) i=_;cases ofA1 x<;>(show Ah ((j,_) :: rbS T0 sl v) i=_;rw[AB,Ak (BS.1 hb)];exact c5)
  ·cases h2
 |(j,.own id) :: sl,v,h,h2=>by
  have h:Ab (Nat.beq j i) false (hasW i sl)=true:=h;obtain⟨hb,h⟩:=CJ h
  have key:chS T0 T1 ob sl=true:=by
   simp only[chS]at h2;split at h2
   ·obtain⟨_,h2⟩:=Aw h2;obtain⟨_,h2⟩:=Aw h2;obtain⟨_,h2⟩:=Aw h2;exact h2
   ·split at h2;·exact(Aw h2).2
    ·exact(Aw h2).2
    ·cases h2
   ·cases h2
  obtain⟨a,b,c1,c2,c3,c4,c5⟩:=Fq (v:=v) h key;exact⟨a,b,c1,c2,c3,c4,by show Ah ((j,_) :: rbS T0 sl v) i=_;rw[AB,Ak (BS.1 hb)];exact c5⟩
 |(j,.vec id) :: sl,v,h,h2=>by
  have h:Ab (Nat.beq j i) false (hasW i sl)=true:=h;obtain⟨hb,h⟩:=CJ h;simp only[chS]at h2;split at h2
  ·obtain⟨_,h2⟩:=Aw h2;obtain⟨_,h2⟩:=Aw h2;obtain⟨_,h2⟩:=Aw h2;obtain⟨a,b,c1,c2,c3,c4,c5⟩:=Fq (v:=v) h h2;exact⟨a,b,c1,c2,c3,c4,by show Ah ((j,_) :: rbS T0 sl v) i=_;rw[AB,Ak (BS.1 hb)];exact c5⟩
  ·cases h2
 |(j,.ptr id off) :: sl,v,h,h2=>by
  have h:Ab (Nat.beq j i) false (hasW i sl)=true:=h;obtain⟨hb,h⟩:=CJ h;simp only[chS]at h2;split at h2
  ·obtain⟨_,h2⟩:=Aw h2;obtain⟨_,h2⟩:=Aw h2;obtain⟨_,h2⟩:=Aw h2;obtain⟨a,b,c1,c2,c3,c4,c5⟩:=Fq (v:=v) h h2;exact⟨a,b,c1,c2,c3,c4,by show Ah ((j,_) :: rbS T0 sl v) i=_;rw[AB,Ak (BS.1 hb)];exact c5⟩
  ·cases h2
 |(j,.mp id) :: sl,v,h,h2=>by
  have h:Ab (Nat.beq j i) false (hasW i sl)=true:=h;obtain⟨hb,h⟩:=CJ h;simp only[chS]at h2;split at h2
  ·obtain⟨_,h2⟩:=Aw h2;obtain⟨_,h2⟩:=Aw h2;obtain⟨a,b,c1,c2,c3,c4,c5⟩:=Fq (v:=v) h h2;exact⟨a,b,c1,c2,c3,c4,by show Ah ((j,_) :: rbS T0 sl v) i=_;rw[AB,Ak (BS.1 hb)];exact c5⟩
  ·cases h2
theorem FQ:∀{sl:List (Nat×SH)} {a:List SV},svS T1 sl=some a->a.length=nV sl
 |[],a,h=>by cases h;rfl
 |(j,.v c) :: sl,a,h=>by
  simp only[svS]at h;split at h
  ·rename_i v r q1 q2;cases h;show r.length+1=nV sl+1;rw[FQ q2]
  ·cases h
 |(j,.k) :: sl,a,h=>FQ (sl:=sl) h
 |(j,.c _) :: sl,a,h=>FQ (sl:=sl) h
 |(j,.own _) :: sl,a,h=>FQ (sl:=sl) h
 |(j,.vec _) :: sl,a,h=>FQ (sl:=sl) h
 |(j,.ptr _ _) :: sl,a,h=>FQ (sl:=sl) h
 |(j,.owk _) :: sl,a,h=>FQ (sl:=sl) h
 |(j,.mp _) :: sl,a,h=>FQ (sl:=sl) h
def phJ(B0 B1:Phi)(nx:Nat)(hh:Ax)(h:List (Nat×Nat×TO)):Phi:=⟨fun id s=>if s=nx then ghoR ⟨0,0,fun _=>[]⟩ (hh id).ep (match Ad h id with | some (_,o)=>o | none=>.gone) else B0 id s,B1.X,B1.ds,B0.c⟩
theorem wzve{nx:Nat}{hh:Ax}{h:List (Nat×Nat×TO)}:Ext nx B0 (phJ B0 B1 nx hh h):=⟨fun id s hs=>by show(if s=nx then _ else B0 id s)=B0 id s;rw[Ak (by omega)],rfl⟩
theorem Cx{nx id:Nat}{hh:Ax}{h:List (Nat×Nat×TO)}:(phJ B0 B1 nx hh h id nx).ep=(hh id).ep:=by show(if nx=nx then _ else B0 id nx).ep=_;rw[Aq rfl,Nb]
theorem PM{nx id st:Nat}{hh:Ax}{h:List (Nat×Nat×TO)}{o:TO}(e:Ad h id=some (st,o)):phJ B0 B1 nx hh h id nx=ghoR ⟨0,0,fun _=>[]⟩ (hh id).ep o:=by show(if nx=nx then _ else B0 id nx)=_;rw[Aq rfl,e]
theorem PN{T:Ap}{id st:Nat}(h:curO T id st=true):∃o,Ad T.h id=some (st,o):=by
 unfold curO at h;split at h
 ·rename_i st' o e;rw[e,Ao.1 h];exact⟨o,rfl⟩
 ·cases h
theorem wzvj{T:Ap}{id st:Nat}(h:curW T id st=true):∃c l,Ad T.h id=some (st,.own c l):=by
 unfold curW at h;split at h
 ·rename_i st' c l e;rw[e,Ao.1 h];exact⟨c,l,rfl⟩
 ·cases h
theorem wzv1{T:Ap}{x:TV}(h:kpP T0 T x=true)(hx:TOk B0 T0 x){B:Phi}(he:Ext T0.nx B0 B){T':Ap}(hn:T0.nx<=T'.nx):TOk B T' x:=by
 cases x with
 |v x =>refine⟨E1 hn hx.1,?_⟩;exact E0 he hx.1 hx.2
 |cnd a b c x=>cases h
structure Jn(B0:Phi)(T0:Ap)(B1:Phi)(T1:Ap)(B':Phi)(T':Ap):Prop where
 inv:InvT B' T'
 log:Log B0 T0 B' T'
 X:B'.X=B1.X
 ds:B'.ds=B1.ds
 w:∀i,W (eT B1 (Ah T1.t i)) (eT B' (Ah T'.t i))
 wo:∀i,WO (hO B1 i (Ad T1.h i)) (hO B' i (Ad T'.h i))
 see:See TabT.E (em B1 T1) (em B' T')
theorem Up[TabOk](c7:InvT B0 T0)(hL:Log B0 (cl0 T0) B1 T1)(dY:InvT B1 T1){H:OutH}{r:Row H.cts}(hA:arrT T0 T1 H=some r) : ∃B',Jn B0 T0 B1 T1 B' (rebT T0 H r):=by
 unfold arrT at hA;split at hA
 ·rename_i a b ha hb;replace hA:=An hA;obtain⟨kr,hA⟩:=hA;replace hA:=An hA;obtain⟨fE,hA⟩:=hA;replace hA:=An hA;obtain⟨gP,hA⟩:=hA;replace hA:=An hA;obtain⟨md,hA⟩:=hA;replace hA:=An hA;obtain⟨nQ,hA⟩:=hA;replace hA:=An hA;obtain⟨nR,hA⟩:=hA;replace hA:=An hA;obtain⟨me,hA⟩:=hA;have dB:T1.rf=T0.rf:=Ao.1 nR;obtain⟨a',b',hv,ra,rb,hl⟩:=(wzsn hA).split;have eK:(rowW H.cts r).drop (nV H.sl)=b':=by rw[hv,<-FQ ha,<-hl];simp
  have eT0:(rebT T0 H r).t=rbS T0 H.sl (a'++b'):=by rw[<-hv];rfl
  have eH0:(rebT T0 H r).h=rbO T0 H.ob b':=by rw[<-eK];rfl
  have sl1:=fun i=>E4 (i:=i) (rest:=b') ha kr ra;have ob1:=fun i=>wzs1 (oA:=H.ob) (i:=i) hb fE rb;have d6:∀i,i∉T1.w->eT B1 (Ah T1.t i)=eT B0 (Ah T0.t i):=fun i hi=>(hL.sl i hi).2;have bY:∀i,i∉T1.wo->inR T0.b i=true->hO B1 i (Ad T1.h i)=hO B0 i (Ad T0.h i):=fun i hi e=>(hL.ob i hi).2 e;have dI:T0.nx<=(rebT T0 H r).nx:=E8 _
  have dG:∀i p,Ad (rebT T0 H r).h i=some p->inR T0.b i=true:=fun i p e=>by
   rw[eH0]at e;refine Um me ?_;cases hk:hasK i H.ob
   ·rw[Uo hk]at e;cases e
   ·rfl
  have cK:T1.b=T0.b:=hL.fr.b;have kZ:B1.c=B0.c:=hL.ext.c
  have kY:Fr (phJ B0 B1 T0.nx (em B1 T1).h (rbO T0 H.ob b')) (rebT T0 H r):=by
   refine⟨dG,fun i e=>dY.fr.rx i (by rw[cK];exact e),fun i e1 e2=>dY.fr.rz i (by rw[cK,dB];exact e1) (by rw[cK];exact e2),fun D hD=>by have:=dY.fr.dd D hD;rw[cK,dB]at this;exact this,fun e1 e2=>dY.fr.ry (by rw[cK];exact e1) (by rw[dB];exact e2),c7.fr.cs,fun st i l b e=>?_⟩;rw[eH0]at e;rcases(ob1 1899).1 with ⟨_,h2⟩|h
   ·rw[h2]at e;cases e
   ·rw[e]at h;generalize hp:some (st,TO.out i l b)=p at h;cases h with
    |k0 h p e =>cases hp;obtain⟨hX,_⟩:=hL.fr.eq dB (.inr ⟨h,by rw[show(cl0 T0).h=T0.h from rfl,e];intro e;cases e⟩);show T0.b=1000/\T0.rf=0/\(b=false->B0.c.HC i l B1.X)/\(b=true->B0.c.HC i l B1.X\/B0.c.HX i l B1.X);rw[hX];exact c7.fr.yo _ _ _ _ e
    |out st1 i m b1 b2 h hb =>
     cases hp;obtain⟨z1,z2,z3,z4⟩:=dY.fr.yo _ _ _ _ h;rw[cK]at z1;rw[dB]at z2;rw[kZ]at z3 z4;refine⟨z1,z2,fun e=>z3 ?_,fun e=>?_⟩
     ·cases b1 with
      |false=>rfl
      |true=>rw[hb rfl]at e;cases e
     ·cases b1 with
      |false=>exact .inl (z3 rfl)
      |true=>exact z4 rfl
    |k1 h e=>cases hp
    |gone=>cases hp
    |rvec _ _ _ _ _ _=>cases hp
    |rmp _ _ _ _ _=>cases hp
    |rown _ _ _ _ _ _=>cases hp
    |rown0 _ _ _ _ _=>cases hp
    |rag=>cases hp
    |map _ _ _ _ _=>cases hp
    |box st cs cs' h w=>cases hp
    |own st c m h=>cases hp
    |own0 c h=>cases hp
    |vec st c m h=>cases hp
  have aG:Ext T0.nx B0 (phJ B0 B1 T0.nx (em B1 T1).h (rbO T0 H.ob b')):=wzve;have st0:∀i st o,Ad T0.h i=some (st,o)->st<T0.nx:=fun i st o h=>(c7.ob _ _ _ h).1;have rf0:∀i st o,Ad T0.h i=some (st,o)->RfO B0 T0.nx o:=fun i st o h=>(c7.ob _ _ _ h).2.2
  have tok:∀i y,Sl1 T0 T1 H.ob i y->TOk (phJ B0 B1 T0.nx (em B1 T1).h (rbO T0 H.ob b')) (rebT T0 H r) y:=by
   intro i y h;cases h with
   |k h k=>exact wzv1 k (c7.sl i) (B:=phJ B0 B1 T0.nx (em B1 T1).h (rbO T0 H.ob b')) wzve dI
   |v=>exact⟨trivial,trivial⟩
   |own=>exact⟨Co _,trivial⟩
   |own0=>exact⟨Co _,trivial⟩
   |vec=>exact⟨Co _,trivial⟩
   |owk=>exact⟨Co _,trivial⟩
   |ptr=>exact⟨Co _,trivial⟩
   |mp=>exact⟨Co _,trivial⟩
  have epO:∀i st o,Ad T1.h i=some (st,o)->((em B1 T1).h i).ep=(B1 i st).ep:=fun i st o h=>by rw[FO h,MY]
  have wvec:∀id st,curO T1 id st=true->Fh id H.ob=true->W (.vec id (B1 id st).ep 0 (B1 id st).n) (.vec id (phJ B0 B1 T0.nx (em B1 T1).h (rbO T0 H.ob b') id T0.nx).ep 0 (phJ B0 B1 T0.nx (em B1 T1).h (rbO T0 H.ob b') id T0.nx).n):=by
   intro id st k o;obtain⟨o1,ho⟩:=PN k;obtain⟨c',m,hr⟩:=(ob1 id).2.2 o;show W (.vec id (B1 id st).ep 0 (B1 id st).n) (.vec id (phJ B0 B1 T0.nx (em B1 T1).h (rbO T0 H.ob b') id T0.nx).ep 0 (phJ B0 B1 T0.nx (em B1 T1).h (rbO T0 H.ob b') id T0.nx).n)
   have hm:(phJ B0 B1 T0.nx (em B1 T1).h (rbO T0 H.ob b') id T0.nx).n=(B1 id st).n:=by
    rw[PM hr];show m.length=_;rcases(ob1 id).1 with ⟨_,q⟩|h
    ·rw[q]at hr;cases hr
    ·rw[hr]at h;generalize hp:some (T0.nx,TO.vec c' m)=p at h;cases h with
     |k0 h p e=>cases hp;exact absurd (st0 _ _ _ e) (Nat.lt_irrefl _)
     |k1 h e=>cases hp
     |gone=>cases hp
     |rvec _ _ _ _ _ _=>cases hp
     |rmp _ _ _ _ _=>cases hp
     |rown _ _ _ _ _ _=>cases hp
     |rown0 _ _ _ _ _=>cases hp
     |rag=>cases hp
     |map _ _ _ _ _=>cases hp
     |out _ _ _ _ _ _ _=>cases hp
     |box st cs cs' h w=>cases hp
     |own st c m h=>cases hp
     |own0 c h=>cases hp
     |vec st c m h=>cases hp;rw[ho]at h;cases h;exact(dY.ob _ _ _ ho).2.1.1.symm
   rw[hm,Cx,epO _ _ _ ho];exact .refl _
  have wownE:∀id st,curW T1 id st=true->By id H.ob=true->eP B1 (.own id st)=eP (phJ B0 B1 T0.nx (em B1 T1).h (rbO T0 H.ob b')) (.own id T0.nx):=by
   intro id st k o;obtain⟨c,l,ho⟩:=wzvj k;obtain⟨c',m,hr⟩:=(ob1 id).2.1 o;show(match (B1 id st).n with | 0=>Aa.nils | n+1=>.vec id (B1 id st).ep 0 (n+1))=(match (phJ B0 B1 T0.nx (em B1 T1).h (rbO T0 H.ob b') id T0.nx).n with | 0=>.nils | n+1=>.vec id (phJ B0 B1 T0.nx (em B1 T1).h (rbO T0 H.ob b') id T0.nx).ep 0 (n+1));have hn:(B1 id st).n=l.length:=(dY.ob _ _ _ ho).2.1.1
   have hm:(phJ B0 B1 T0.nx (em B1 T1).h (rbO T0 H.ob b') id T0.nx).n=l.length:=by
    rw[PM hr];show m.length=l.length;rcases(ob1 id).1 with ⟨_,q⟩|h
    ·rw[q]at hr;cases hr
    ·rw[hr]at h;generalize hp:some (T0.nx,TO.own c' m)=p at h;cases h with
     |k0 h p e=>cases hp;exact absurd (st0 _ _ _ e) (Nat.lt_irrefl _)
     |k1 h e=>cases hp
     |gone=>cases hp
     |rvec _ _ _ _ _ _=>cases hp
     |rmp _ _ _ _ _=>cases hp
     |rown _ _ _ _ _ _=>cases hp
     |rown0 _ _ _ _ _=>cases hp
     |rag=>cases hp
     |map _ _ _ _ _=>cases hp
     |out _ _ _ _ _ _ _=>cases hp
     |box st cs cs' h w=>cases hp
     |own st c m h=>cases hp;rw[ho]at h;cases h;rfl
     |own0 c h=>cases h _ _ ho
     |vec st c m h=>cases hp
   rw[hn,hm,Cx,epO _ _ _ ho]
  have wown:∀id st,curW T1 id st=true->By id H.ob=true->W (eP B1 (.own id st)) (eP (phJ B0 B1 T0.nx (em B1 T1).h (rbO T0 H.ob b')) (.own id T0.nx)):=fun id st k o=>by rw[wownE id st k o];exact .refl _
  have wown0:∀id,(∀st o,Ad T1.h id=some (st,o)->o=.gone)->By id H.ob=true->W Aa.nils (eP (phJ B0 B1 T0.nx (em B1 T1).h (rbO T0 H.ob b')) (.own id T0.nx)):=by
   intro id k o;obtain⟨c',m,hr⟩:=(ob1 id).2.1 o;show W Aa.nils (match (phJ B0 B1 T0.nx (em B1 T1).h (rbO T0 H.ob b') id T0.nx).n with | 0=>.nils | n+1=>.vec id (phJ B0 B1 T0.nx (em B1 T1).h (rbO T0 H.ob b') id T0.nx).ep 0 (n+1))
   have hm:(phJ B0 B1 T0.nx (em B1 T1).h (rbO T0 H.ob b') id T0.nx).n=0:=by
    rw[PM hr];show m.length=0;rcases(ob1 id).1 with ⟨_,q⟩|h
    ·rw[q]at hr;cases hr
    ·rw[hr]at h;generalize hp:some (T0.nx,TO.own c' m)=p at h;cases h with
     |k0 h p e=>cases hp;exact absurd (st0 _ _ _ e) (Nat.lt_irrefl _)
     |k1 h e=>cases hp
     |gone=>cases hp
     |rvec _ _ _ _ _ _=>cases hp
     |rmp _ _ _ _ _=>cases hp
     |rown _ _ _ _ _ _=>cases hp
     |rown0 _ _ _ _ _=>cases hp
     |rag=>cases hp
     |map _ _ _ _ _=>cases hp
     |out _ _ _ _ _ _ _=>cases hp
     |box st cs cs' h w=>cases hp
     |own st c m h=>cases k _ _ h
     |own0 c h=>cases hp;rfl
     |vec st c m h=>cases hp
   rw[hm];exact .refl _
  have objW:∀i,WO (hO B1 i (Ad T1.h i)) (hO (phJ B0 B1 T0.nx (em B1 T1).h (rbO T0 H.ob b')) i (Ad (rbO T0 H.ob b') i)):=by
   intro i;rcases(ob1 i).1 with ⟨h1,h2⟩|h
   ·rw[h2,PL gP h1];exact Bh.2 trivial
   ·have hg:WO (hO B1 i (Ad T1.h i)) (hO (phJ B0 B1 T0.nx (em B1 T1).h (rbO T0 H.ob b')) i (some (T0.nx,.gone))):=by
     show WO _ (Ai.gone (phJ B0 B1 T0.nx (em B1 T1).h (rbO T0 H.ob b') i T0.nx).ep);rw[Cx,Hu,em_h]
    generalize Ad (rbO T0 H.ob b') i=p0 at h ⊢;cases h with
    |k0 h p e =>obtain⟨st,o⟩:=p;rw[bY i h (c7.fr.ro _ _ e),e];show WO (eO B0 (B0 i st).ep o) (eO (phJ B0 B1 T0.nx (em B1 T1).h (rbO T0 H.ob b')) (phJ B0 B1 T0.nx (em B1 T1).h (rbO T0 H.ob b') i st).ep o);rw[aG.s i st (st0 _ _ _ e),HZ aG (rf0 _ _ _ e)];exact Bh.2 trivial
    |k1 h e=>exact hg
    |gone=>exact hg
    |box st cs cs' h w =>rw[h];show WO (.box (B1 i st).ep (At cs)) (.box (phJ B0 B1 T0.nx (em B1 T1).h (rbO T0 H.ob b') i T0.nx).ep (At cs'));rw[Cx,epO _ _ _ h];exact D3.2 ⟨rfl,w⟩
    |own st c m h =>rw[h];show WO (eO B1 (B1 i st).ep (.own c m)) (eO (phJ B0 B1 T0.nx (em B1 T1).h (rbO T0 H.ob b')) (phJ B0 B1 T0.nx (em B1 T1).h (rbO T0 H.ob b') i T0.nx).ep (.own c m));rw[Cx,epO _ _ _ h];exact Bh.2 trivial
    |own0 c h=>exact hg
    |rvec id2 st st2 h k o =>rw[h];show WO (.box (B1 i st).ep [eP B1 (.vec id2 st2)]) (.box (phJ B0 B1 T0.nx (em B1 T1).h (rbO T0 H.ob b') i T0.nx).ep [eP (phJ B0 B1 T0.nx (em B1 T1).h (rbO T0 H.ob b')) (.vec id2 T0.nx)]);rw[Cx,epO _ _ _ h];exact D3.2 ⟨rfl,wvec id2 st2 k o,trivial⟩
    |rmp id2 st st2 h k =>rw[h];show WO (.box (B1 i st).ep [eP B1 (.mp id2 st2)]) (.box (phJ B0 B1 T0.nx (em B1 T1).h (rbO T0 H.ob b') i T0.nx).ep [eP (phJ B0 B1 T0.nx (em B1 T1).h (rbO T0 H.ob b')) (.mp id2 T0.nx)]);rw[Cx,epO _ _ _ h];obtain⟨o1,ho⟩:=PN k;refine D3.2 ⟨rfl,?_,trivial⟩;show W (.mp id2 (B1 id2 st2).ep) (.mp id2 (phJ B0 B1 T0.nx (em B1 T1).h (rbO T0 H.ob b') id2 T0.nx).ep);rw[Cx,epO _ _ _ ho];exact .refl _
    |rown id2 st st2 h k o =>rw[h];show WO (.box (B1 i st).ep [eP B1 (.own id2 st2)]) (.box (phJ B0 B1 T0.nx (em B1 T1).h (rbO T0 H.ob b') i T0.nx).ep [eP (phJ B0 B1 T0.nx (em B1 T1).h (rbO T0 H.ob b')) (.own id2 T0.nx)]);rw[Cx,epO _ _ _ h];exact D3.2 ⟨rfl,wown id2 st2 k o,trivial⟩
    |rag cs cs' k st id2 st2 h w c o =>rw[h];show WO (.box (B1 i st).ep ((At cs).set k (eP B1 (.vec id2 st2)))) (.box (phJ B0 B1 T0.nx (em B1 T1).h (rbO T0 H.ob b') i T0.nx).ep ((At cs').set k (eP (phJ B0 B1 T0.nx (em B1 T1).h (rbO T0 H.ob b')) (.vec id2 T0.nx))));rw[Cx,epO _ _ _ h];exact D3.2 ⟨rfl,ZY (wvec id2 st2 c o) w⟩
    |rown0 id2 st h k o =>rw[h];show WO (.box (B1 i st).ep [Aa.nils]) (.box (phJ B0 B1 T0.nx (em B1 T1).h (rbO T0 H.ob b') i T0.nx).ep [eP (phJ B0 B1 T0.nx (em B1 T1).h (rbO T0 H.ob b')) (.own id2 T0.nx)]);rw[Cx,epO _ _ _ h];exact D3.2 ⟨rfl,wown0 id2 k o,trivial⟩
    |out st i0 m b1 b2 h hb =>rw[h];show WO (.gone (B1 i st).ep) (.gone ((phJ B0 B1 T0.nx (em B1 T1).h (rbO T0 H.ob b')) i T0.nx).ep);rw[Cx,epO _ _ _ h];exact Bh.2 trivial
    |map st k v m h =>rw[h];show WO (.amap (B1 i st).ep (mEs k v m)) (.amap ((phJ B0 B1 T0.nx (em B1 T1).h (rbO T0 H.ob b')) i T0.nx).ep (mEs k v m));rw[Cx,epO _ _ _ h];exact Bh.2 trivial
    |vec st c m h =>rw[h];show WO (eO B1 (B1 i st).ep (.vec c m)) (eO (phJ B0 B1 T0.nx (em B1 T1).h (rbO T0 H.ob b')) (phJ B0 B1 T0.nx (em B1 T1).h (rbO T0 H.ob b') i T0.nx).ep (.vec c m));rw[Cx,epO _ _ _ h];exact Bh.2 trivial
  have fB:InvT (phJ B0 B1 T0.nx (em B1 T1).h (rbO T0 H.ob b')) (rebT T0 H r):=by
   refine⟨fun i=>?_,fun i hi=>?_,fun i st o ho=>?_,kY⟩
   ·rw[eT0];rcases sl1 i with ⟨h1,h2⟩|h
    ·rw[h2];exact⟨trivial,trivial⟩
    ·exact tok i _ h
   ·rw[eT0];exact E5 (wzs6 hi nQ)
   ·rw[eH0]at ho;have key:st=T0.nx->RfO (phJ B0 B1 T0.nx (em B1 T1).h (rbO T0 H.ob b')) (T0.nx+1) o->st<(rebT T0 H r).nx/\OkO (phJ B0 B1 T0.nx (em B1 T1).h (rbO T0 H.ob b') i st) o/\RfO (phJ B0 B1 T0.nx (em B1 T1).h (rbO T0 H.ob b')) (rebT T0 H r).nx o:=fun e hr=>by subst e;exact⟨Co _,by rw[PM ho];exact Ub,hr⟩
    rcases(ob1 i).1 with ⟨h1,h2⟩|h
    ·rw[h2]at ho;cases ho
    ·rw[ho]at h;generalize hp:some (st,o)=p at h;cases h with
     |k0 h p e =>cases hp;have h1:=st0 _ _ _ e;exact⟨F3 h1 dI,Nf aG h1 (c7.ob _ _ _ e).2.1,JJ aG dI (c7.ob _ _ _ e).2.2⟩
     |k1 h e=>cases hp;exact key rfl trivial
     |gone=>cases hp;exact key rfl trivial
     |box st cs cs' h w=>cases hp;exact key rfl trivial
     |own st c m h=>cases hp;exact key rfl trivial
     |own0 c h=>cases hp;exact key rfl trivial
     |vec st c m h=>cases hp;exact key rfl trivial
     |rvec _ _ _ _ _ _=>cases hp;exact key rfl ⟨Co _,trivial,rfl⟩
     |rmp _ _ _ _ _=>cases hp;exact key rfl ⟨Co _,trivial,rfl⟩
     |rown _ _ _ _ _ _=>cases hp;exact key rfl ⟨Co _,trivial,rfl⟩
     |rown0 _ _ _ _ _=>cases hp;exact key rfl ⟨Co _,trivial,rfl⟩
     |rag=>cases hp;exact key rfl (Co _)
     |map _ _ _ _ _=>cases hp;exact key rfl trivial
     |out _ _ _ _ _ _ _=>cases hp;exact key rfl trivial
  have mf:∀i,inR T0.b i=true->B1.X i=B0.X i:=hL.fr.rg
  have jt:Ad T0.h 1899≠none->hasK 1899 H.ob=true:=fun h=>by
   cases hk:hasK 1899 H.ob
   ·exact absurd (PL md hk) h
   ·rfl
  have slW:∀i,W (eT B1 (Ah T1.t i)) (eT (phJ B0 B1 T0.nx (em B1 T1).h (rbO T0 H.ob b')) (Ah (rebT T0 H r).t i)):=fun i=>by
   rw[eT0];rcases sl1 i with ⟨h1,h2⟩|h
   ·rw[h2];exact .top _
   ·generalize Ah (rbS T0 H.sl (a'++b')) i=y at h;cases h with
    |k h k=>rw[d6 i h,GN aG (JI (c7.sl i))];exact .refl _
    |v x0 x h w=>rw[h];exact w
    |own id st h k o=>rw[h];exact wown id st k o
    |owk id st hw h k o=>rw[h];exact wown id st k o
    |own0 id h k o=>rw[h];exact wown0 id k o
    |vec id st h k o=>rw[h];exact wvec id st k o
    |ptr id st off h k =>obtain⟨o1,ho⟩:=PN k;rw[h];show W (.ptr id (B1 id st).ep off) (.ptr id (phJ B0 B1 T0.nx (em B1 T1).h (rbO T0 H.ob b') id T0.nx).ep off);rw[Cx,epO _ _ _ ho];exact .refl _
    |mp id st h k =>obtain⟨o1,ho⟩:=PN k;rw[h];show W (.mp id (B1 id st).ep) (.mp id ((phJ B0 B1 T0.nx (em B1 T1).h (rbO T0 H.ob b')) id T0.nx).ep);rw[Cx,epO _ _ _ ho];exact .refl _
  have obW:∀i,WO (hO B1 i (Ad T1.h i)) (hO (phJ B0 B1 T0.nx (em B1 T1).h (rbO T0 H.ob b')) i (Ad (rebT T0 H r).h i)):=fun i=>by rw[eH0];exact objW i
  refine⟨_,fB,⟨rfl,dI,aG,fun i hi=>?_,fun i hi=>?_,⟨rfl,AD _,fun _=>rfl,fun h=>(Bp (T0:=T0) (v:=b') (show 1899∉AV H.ob T0.wo from h)).1,fun h=>?_,mf,fun _ e=>hL.fr.eq dB (e.imp id fun e=>⟨Db (T0:=T0) (T1:=T1) (show 1899∉AV H.ob T0.wo from e.1) (jt e.2) fE,e.2⟩)⟩⟩,rfl,rfl,slW,obW,Uh fB rfl hL.n.symm slW obW⟩
  ·have hi:i∉setW H.sl (Cw H.sl T0.t T0.w):=hi;obtain⟨h1,h2⟩:=Fp (T0:=T0) (v:=a'++b') hi;obtain⟨h3,h4⟩:=Un h1;refine⟨h3,?_⟩;rw[eT0];cases hk:hasK i H.sl
   ·rw[E5 hk,h4 hk];rfl
   ·rcases h2 hk with hw|h2
    ·rcases sl1 i with ⟨q1,_⟩|q;·rw[hk]at q1;cases q1
     ·have hq:=Fq (T0:=T0) (T1:=T1) (v:=a'++b') hw kr;obtain⟨id,st,p1,p2,p3,p4,p5⟩:=hq;rw[p5,<-d6 i p1,p2];exact(wownE id st p3 p4).symm
    ·rw[h2];exact GN aG (JI (c7.sl i))
  ·have hi:i∉AV H.ob T0.wo:=hi;obtain⟨h1,h2⟩:=Bp (T0:=T0) (v:=b') hi;refine⟨h1,fun bh=>?_⟩;rw[eH0];cases hk:hasK i H.ob
   ·rw[Uo hk,PL md hk];exact mf i bh
   ·rw[h2 hk];cases ho:Ad T0.h i with
    |some p =>obtain⟨st,o⟩:=p;show eO _ ((phJ B0 B1 T0.nx (em B1 T1).h (rbO T0 H.ob b')) i st).ep o=eO B0 (B0 i st).ep o;rw[aG.s i st (st0 _ _ _ ho),HZ aG (rf0 _ _ _ ho)]
    |none =>show Ai.gone (phJ B0 B1 T0.nx (em B1 T1).h (rbO T0 H.ob b') i T0.nx).ep=B0.X i;rw[Cx,em_h];have:=Db (T0:=T0) (T1:=T1) hi hk fE;rw[bY i this bh,ho];obtain⟨e,he⟩:=c7.fr.rx i (Um me hk);show Ai.gone (B0.X i).ep=B0.X i;rw[he];rfl
  ·rw[eH0];rcases(ob1 1899).1 with ⟨h1,_⟩|h'
   ·rw[jt h]at h1;cases h1
   ·generalize Ad (rbO T0 H.ob b') 1899=p at h';cases h'<;>(intro e;cases e)
 ·cases hA
theorem PO[TabOk](c7:InvT B0 T0)(hL:Log B0 (cl0 T0) B1 T1)(dY:InvT B1 T1){H:OutH}{r:Row H.cts}(hA:arrT T0 T1 H=some r) : ∃B',InvT B' (rebT T0 H r)/\Log B0 T0 B' (rebT T0 H r)/\See TabT.E (em B1 T1) (em B' (rebT T0 H r)):=by obtain⟨B',J⟩:=Up c7 hL dY hA;exact⟨B',J.inv,J.log,J.see⟩
end
end
theorem jzat(sl:List (Nat×SH))(w:List Nat):setW sl w=setW sl []++w:=by
 induction sl with
 |nil=>rfl
 |cons p l ih =>
  obtain⟨i,s⟩:=p;cases s with
  |k=>exact ih
  |owk id=>exact ih
  |_=>exact E9 (i :: ·) ih
theorem wz9n(ob:List (Nat×OH))(w:List Nat):AV ob w=AV ob []++w:=by
 induction ob with
 |nil=>rfl
 |cons p l ih =>
  obtain⟨i,s⟩:=p;cases s with
  |k=>exact ih
  |_=>exact E9 (i :: ·) ih
theorem PP{U O ω:Type}{body:U->O->Option (O⊕ω)}{x:U}:∀{l:List U} {s s':O},BG body l s=some (.inl s')->BG body (l++[x]) s=body x s'
 |[],s,s',h=>by
  cases h;show(match body x s with | some (Sum.inl s')=>some (Sum.inl s') | some (Sum.inr o)=>some (Sum.inr o) | none=>none)=_;cases body x s with
  |none=>rfl
  |some o=>cases o<;>rfl
 |y :: l,s,s',h=>by
  unfold BG at h;show(match body y s with | some (Sum.inl s')=>BG body (l++[x]) s' | some (Sum.inr o)=>some (Sum.inr o) | none=>none)=_;split at h
  ·rename_i s1 e;rw[e];exact PP (l:=l) h
  ·cases h
  ·cases h
def isR{U β:Type}:U⊕β->Bool
 |.inl _=>false
 |.inr _=>true
theorem jzdg{U O ω:Type}{body:U->O->Option (O⊕ω)}{x:U}{l:List U}{s s':O}{b:Bool}(h:BG body l s=some (.inl s'))(k:D5 body (l++[x]) s=some b):∃o,body x s'=some o/\b=isR o:=by
 unfold D5 at k;rw[PP h]at k;cases ho:body x s' with
 |none=>rw[ho]at k;cases k
 |some o=>rw[ho]at k;cases o<;>cases k<;>exact⟨_,rfl,rfl⟩
section
variable [Tab]
variable {ρ:Option Nat}{B:Phi}{T:Ap}
def FinT{U:Type}(K:Exit->Ap->Option U)(r:U)(B:Phi)(T:Ap)(e:Exit)(S:Ay):Prop := ∃B' T',K e T'=some r/\InvT B' T'/\Log B T B' T'/\T'.gs=[]/\See TabT.E S (em B' T')
theorem FinT.step{U:Type}{K:Exit->Ap->Option U}{r:U}{B1:Phi}{T1:Ap}{e:Exit}{S:Ay}(L:Log B T B1 T1)(h:FinT K r B1 T1 e S):FinT K r B T e S:=by obtain⟨B',T',k1,k2,k3,k4,k5⟩:=h;exact⟨B',T',k1,k2,L.trans k3,k4,k5⟩
theorem PQ(hI:InvT B T)(hg:T.gs=[]):InvT B (cl0 T):=by
 refine⟨fun i=>?_,hI.hi,hI.ob,hI.fr.ofh rfl rfl rfl rfl rfl rfl⟩;have hx:=hI.sl i;show TOk B (cl0 T) (Ah T.t i);revert hx;cases Ah T.t i with
 |v x=>exact fun h=>h
 |cnd a b c x =>rintro⟨_,_,h,_⟩;rw[hg]at h;cases h
theorem Ii{T1:Ap}:∀{l:List OutH} {e:Exit} {y:OutT l},injT T l e T1=some y->∃H r,arrT T T1 H=some r/\isE H.e e=true/\∀{U:Type} (T':Ap) (K:Exit->Ap->Option U),aftT T' K l y=K e (rebT T' H r)
 |[],e,y,h=>by cases h
 |[H],e,y,h=>by obtain⟨h1,h2⟩:=An (show Ab (isE H.e e) (arrT T T1 H) none=some y from h);refine⟨H,y,h2,h1,fun T' K=>?_⟩;show K H.e.ex (rebT T' H y)=_;rw[isE_ex h1]
 |H :: H' :: l,e,y,h=>by
  have h:Ab (isE H.e e) (match arrT T T1 H with | some r=>some (.inl r) | none=>none) (match injT T (H' :: l) e T1 with | some r=>some (.inr r) | none=>none)=some y:=h;cases he:isE H.e e
  ·rw[he]at h;have h:(match injT T (H' :: l) e T1 with | some r=>some (Sum.inr r) | none=>none)=some y:=h;split at h
   ·rename_i r hr;cases h;obtain⟨H1,r1,k1,k3,k2⟩:=Ii (l:=H' :: l) hr;exact⟨H1,r1,k1,k3,k2⟩
   ·cases h
  ·rw[he]at h;have h:(match arrT T T1 H with | some r=>some (Sum.inl r) | none=>none)=some y:=h;split at h
   ·rename_i r hr;cases h;refine⟨H,r,hr,he,fun T' K=>?_⟩;show K H.e.ex (rebT T' H r)=_;rw[isE_ex he]
   ·cases h
where
 isE_ex {o:OE} {e:Exit} (h:isE o e=true):o.ex=e:=by
  cases o<;>cases e<;>first
   |rfl
   |(cases h;done)
   |(rename_i i j;rw[show i=j from Ao.1 h];rfl)
theorem Ext.of{n:Nat}{B B':Phi}(ho:B'.o=B.o)(hc:B'.c=B.c):Ext n B B':=⟨fun _ _ _=>by rw[ho],hc⟩
theorem InvT.re{B':Phi}{T':Ap}(h:InvT B T)(ho:B'.o=B.o)(hc:B'.c=B.c)(et:T'.t=T.t)(eh:T'.h=T.h)(en:T'.nx=T.nx)(em:T'.n=T.n)(eg:T'.gs=T.gs)(hf:Fr B' T'):InvT B' T':=by
 have he:Ext T.nx B B':=.of ho hc;refine⟨fun i=>?_,fun i hi=>?_,fun id st o e=>?_,hf⟩
 ·rw[et];exact Ng (jzbt (h.sl i) he) (by rw[en];exact AD _) fun g hg=>⟨by rw[eg];exact hg,by rw[et]⟩
 ·rw[et];exact h.hi i (by rw[<-em];exact hi)
 ·rw[eh]at e;obtain⟨k1,k2,k3⟩:=h.ob id st o e;exact⟨by rw[en];exact k1,Nf he k1 k2,by rw[en];exact JJ he (AD _) k3⟩
theorem Dd{B':Phi}(ho:B'.o=B.o)(hc:B'.c=B.c)(x:TV):eT B' x=eT B x:=by
 have:∀p:PV,eP B' p=eP B p:=fun p=>by cases p<;>simp only[eP,ho,hc]
 cases x with
 |v p=>exact this p
 |cnd a b c p=>show Aa.cnd c (eP B' p)=.cnd c (eP B p);rw[this p]
theorem jzii{B':Phi}(ho:B'.o=B.o)(hc:B'.c=B.c)(e:Nat)(o:TO):eO B' e o=eO B e o:=by
 cases o with
 |ref p=>show Ai.box e [eP B' p]=.box e [eP B p];rw[show eP B' p=eP B p from Dd ho hc (.v p)]
 |rag cs k i s=>show Ai.box e ((At cs).set k (eP B' (.vec i s)))=.box e ((At cs).set k (eP B (.vec i s)));rw[show eP B' (.vec i s)=eP B (.vec i s) from Dd ho hc (.v (.vec i s))]
 |_=>rfl
theorem Eb{B':Phi}(ho:B'.o=B.o)(hc:B'.c=B.c){id:Nat}{x:Option (Nat×TO)}(hX:x=none->B'.X id=B.X id):hO B' id x=hO B id x:=by
 cases x with
 |none=>exact hX rfl
 |some p=>show eO B' (B'.o id p.1).ep p.2=eO B (B.o id p.1).ep p.2;rw[ho,jzii ho hc]
theorem jzdm(sl:List (Nat×SH))(t:List (Nat×TV))(w:List Nat):Cw sl t w=Cw sl t []++w:=by
 induction t with
 |nil=>rfl
 |cons p l ih =>
  show Ab (hasK p.1 sl) (Cw sl l w) (p.1 :: Cw sl l w)=Ab (hasK p.1 sl) (Cw sl l []) (p.1 :: Cw sl l [])++w;cases hasK p.1 sl
  ·exact E9 (p.1 :: ·) ih
  ·exact ih
theorem jzb6:∀{ps:List Tmp} {vs:List SV} {T:Ap},em B (putP T ps vs)=⟨D1 (em B T).t ps (At vs),(em B T).h,B.ds⟩
 |[],[],T=>rfl
 |[],_ :: _,T=>rfl
 |p :: ps,[],T=>rfl
 |p :: ps,v :: vs,T=>by show em B (putP ⟨(p,.v (.s v)) :: T.t,T.h,T.nx,T.n,T.gs,p :: T.w,T.wo,T.b,T.rf⟩ ps vs)=_;rw[jzb6 (ps:=ps)];show Ay.mk (D1 (tl ((p,A7 v) :: eTm B T.t) T.n) ps (At vs)) _ _=⟨D1 ((tl (eTm B T.t) T.n).set p (A7 v)) ps (At vs),_,_⟩;rw[Hs];rfl
theorem jza9:∀{ps:List Tmp} {vs:List SV} {T:Ap},InvT B T->T.gs=[]->psOk T.n ps=true->InvT B (putP T ps vs)/\(putP T ps vs).gs=[]
 |[],[],T,h,hg,_=>⟨h,hg⟩
 |[],_ :: _,T,h,hg,_=>⟨h,hg⟩
 |p :: ps,[],T,h,hg,_=>⟨h,hg⟩
 |p :: ps,v :: vs,T,h,hg,hp=>by
  obtain⟨h1,h2⟩:=cond_okB (show Ab (Nat.blt p T.n) (psOk T.n ps) false=true from hp);have hd:Bw T (some p)=true:=by show Ab (Nat.blt p T.n) (!memN p T.gs) false=true;rw[h1,hg];rfl
  exact jza9 (ps:=ps) (Cf h (d:=some p) (x:=.v (.s v)) hd ⟨trivial,trivial⟩) hg h2
where
 cond_okB {c d:Bool} (h:Ab c d false=true):c=true/\d=true:=by
  cases c
  ·cases h
  ·exact⟨rfl,h⟩
theorem jzbb:∀{ps:List Tmp} {vs:List SV} {T:Ap},Log B T B (putP T ps vs)
 |[],[],T=>.refl _ _
 |[],_ :: _,T=>.refl _ _
 |p :: ps,[],T=>.refl _ _
 |p :: ps,v :: vs,T=>(B9 (d:=some p) (x:=.v (.s v))).trans (jzbb (ps:=ps))
theorem PR{w:List Nat}:∀{l:List (Nat×TV)} {i:Nat},Ah (rstS w l) i=if i∈w then .v (.s .top) else Ah l i
 |[],i=>by split<;>rfl
 |p :: l,i=>by
  show Ah (Ab (memN p.1 w) (rstS w l) (p :: rstS w l)) i=_;cases h:memN p.1 w
  ·rw[SW,AB,AB,PR];split
   ·rename_i e;rw[Ak (by rw[<-e];exact Ih h)]
   ·rfl
  ·rw[GC,PR,AB];split
   ·rfl
   ·rename_i h';rw[Ak (fun e=>h' (by rw[<-e];exact Fj.1 h))]
theorem Fs{T':Ap}(h1:T.t=T'.t)(h2:T.nx=T'.nx):∀(sl:List (Nat×SH)) (v:List SV),rbS T sl v=rbS T' sl v
 |[],v=>rfl
 |(i,.k) :: l,v=>by show(i,Ah T.t i) :: rbS T l v=(i,Ah T'.t i) :: rbS T' l v;rw[h1,Fs h1 h2]
 |(i,.v _) :: l,x :: v=>by show(i,.v (.s x)) :: rbS T l v=(i,.v (.s x)) :: rbS T' l v;rw[Fs h1 h2]
 |(i,.v _) :: l,[]=>Fs h1 h2 l []
 |(i,.c a) :: l,v=>by show _ :: rbS T l v=_ :: rbS T' l v;rw[Fs h1 h2]
 |(i,.own id) :: l,v=>by show(i,.v (.own id T.nx)) :: rbS T l v=(i,.v (.own id T'.nx)) :: rbS T' l v;rw[h2,Fs h1 h2]
 |(i,.vec id) :: l,v=>by show(i,.v (.vec id T.nx)) :: rbS T l v=(i,.v (.vec id T'.nx)) :: rbS T' l v;rw[h2,Fs h1 h2]
 |(i,.owk id) :: l,v=>by show(i,.v (.own id T.nx)) :: rbS T l v=(i,.v (.own id T'.nx)) :: rbS T' l v;rw[h2,Fs h1 h2]
 |(i,.ptr id off) :: l,v=>by show(i,.v (.ptr id T.nx off)) :: rbS T l v=(i,.v (.ptr id T'.nx off)) :: rbS T' l v;rw[h2,Fs h1 h2]
 |(i,.mp id) :: l,v=>by show(i,.v (.mp id T.nx)) :: rbS T l v=(i,.v (.mp id T'.nx)) :: rbS T' l v;rw[h2,Fs h1 h2]
theorem Cm{T':Ap}(h1:T.h=T'.h)(h2:T.nx=T'.nx):∀(ob:List (Nat×OH)) (v:List SV),rbO T ob v=rbO T' ob v
 |[],v=>rfl
 |(i,.k) :: l,v=>by show(match Ad T.h i with | some p=>(i,p) :: rbO T l v | none=>(i,T.nx,.gone) :: rbO T l v)=(match Ad T'.h i with | some p=>(i,p) :: rbO T' l v | none=>(i,T'.nx,.gone) :: rbO T' l v);rw[h1,h2,Cm h1 h2]
 |(i,.gone) :: l,v=>by show(i,T.nx,.gone) :: rbO T l v=(i,T'.nx,.gone) :: rbO T' l v;rw[h2,Cm h1 h2]
 |(i,.rvec id) :: l,v=>by show(i,T.nx,.ref (.vec id T.nx)) :: rbO T l v=(i,T'.nx,.ref (.vec id T'.nx)) :: rbO T' l v;rw[h2,Cm h1 h2]
 |(i,.rmp id) :: l,v=>by show(i,T.nx,.ref (.mp id T.nx)) :: rbO T l v=(i,T'.nx,.ref (.mp id T'.nx)) :: rbO T' l v;rw[h2,Cm h1 h2]
 |(i,.rag _ k id) :: l,x :: v=>by show(match x.cells with | some cs=>(i,T.nx,.rag cs k id T.nx) | none=>(i,T.nx,.gone)) :: rbO T l v=(match x.cells with | some cs=>(i,T'.nx,.rag cs k id T'.nx) | none=>(i,T'.nx,.gone)) :: rbO T' l v;rw[h2,Cm h1 h2]
 |(i,.rag _ _ _) :: l,[]=>by show(i,T.nx,.gone) :: rbO T l []=(i,T'.nx,.gone) :: rbO T' l [];rw[h2,Cm h1 h2]
 |(i,.rown id) :: l,v=>by show(i,T.nx,.ref (.own id T.nx)) :: rbO T l v=(i,T'.nx,.ref (.own id T'.nx)) :: rbO T' l v;rw[h2,Cm h1 h2]
 |(i,.box _) :: l,x :: v=>by show(match x.cells with | some cs=>(i,T.nx,.box cs) | none=>(i,T.nx,.gone)) :: rbO T l v=(match x.cells with | some cs=>(i,T'.nx,.box cs) | none=>(i,T'.nx,.gone)) :: rbO T' l v;rw[h2,Cm h1 h2]
 |(i,.own _) :: l,x :: v=>by cases x<;>(show(i,T.nx,_) :: rbO T l v=(i,T'.nx,_) :: rbO T' l v;rw[h2,Cm h1 h2])
 |(i,.vec _) :: l,x :: v=>by cases x<;>(show(i,T.nx,_) :: rbO T l v=(i,T'.nx,_) :: rbO T' l v;rw[h2,Cm h1 h2])
 |(i,.map _ _) :: l,x :: v=>by cases x<;>(show(i,T.nx,_) :: rbO T l v=(i,T'.nx,_) :: rbO T' l v;rw[h2,Cm h1 h2])
 |(i,.out _ _) :: l,x :: v=>by cases x<;>(show(i,T.nx,_) :: rbO T l v=(i,T'.nx,_) :: rbO T' l v;rw[h2,Cm h1 h2])
 |(i,.box _) :: l,[]=>by show(i,T.nx,.gone) :: rbO T l []=(i,T'.nx,.gone) :: rbO T' l [];rw[h2,Cm h1 h2]
 |(i,.own _) :: l,[]=>by show(i,T.nx,.gone) :: rbO T l []=(i,T'.nx,.gone) :: rbO T' l [];rw[h2,Cm h1 h2]
 |(i,.vec _) :: l,[]=>by show(i,T.nx,.gone) :: rbO T l []=(i,T'.nx,.gone) :: rbO T' l [];rw[h2,Cm h1 h2]
 |(i,.map _ _) :: l,[]=>by show(i,T.nx,.gone) :: rbO T l []=(i,T'.nx,.gone) :: rbO T' l [];rw[h2,Cm h1 h2]
 |(i,.out _ _) :: l,[]=>by show(i,T.nx,.gone) :: rbO T l []=(i,T'.nx,.gone) :: rbO T' l [];rw[h2,Cm h1 h2]
theorem Uq{H:OutH}{r:Row H.cts}:(rebT (rnA T) H r).t=(rebT (rnd T) H r).t:=Fs (T:=rnA T) (T':=rnd T) rfl rfl _ _
theorem JO{H:OutH}{r:Row H.cts}:(rebT (rnA T) H r).h=(rebT (rnd T) H r).h:=Cm (T:=rnA T) (T':=rnd T) rfl rfl _ _
structure LogR(B:Phi)(T:Ap)(B':Phi)(T':Ap):Prop where
 nx:T.nx<=T'.nx
 ext:Ext T.nx B B'
 sl:∀i,i∉T'.w->i∉T.w/\eT B' (Ah T'.t i)=eT B (Ah T.t i)
 ob:∀i,i∉T'.wo->i∉T.wo/\(inR T.b i=true->hO B' i (Ad T'.h i)=hO B i (Ad T.h i))
 hy:Ad T.h 1899≠none->Ad T'.h 1899≠none
 rg:∀i,inR T.b i=true->B'.X i=B.X i
theorem Ur:∀{ps:List Tmp} {vs:List SV} {T:Ap},(putP T ps vs).h=T.h/\(putP T ps vs).nx=T.nx/\(putP T ps vs).n=T.n/\(putP T ps vs).wo=T.wo/\(putP T ps vs).b=T.b/\(putP T ps vs).rf=T.rf
 |[],[],T=>⟨rfl,rfl,rfl,rfl,rfl,rfl⟩
 |[],_ :: _,T=>⟨rfl,rfl,rfl,rfl,rfl,rfl⟩
 |p :: ps,[],T=>⟨rfl,rfl,rfl,rfl,rfl,rfl⟩
 |p :: ps,v :: vs,T=>Ur (ps:=ps) (vs:=vs) (T:=⟨(p,.v (.s v)) :: T.t,T.h,T.nx,T.n,T.gs,p :: T.w,T.wo,T.b,T.rf⟩)
theorem ATr.wo{f:FuncId}{args:List Aa}{h h':Ax}{R:Aa->Ax->Prop}(hw:∀i,WO (h i) (h' i))(H:ATr TabT.E TabT.P f args h' R):ATr TabT.E TabT.P f args h R:=fun g w vs hh hv =>
 (H g w vs (hh.wk hw) hv).mono fun _ _ ⟨g',cH,r,v,q,e,rv,hr,st⟩=>⟨g',cH,r,v,q,e,rv,hr,Stp.trans ⟨.refl _ _,rfl,rfl,rfl,AD _,fun _ _ _=>rfl,fun i ho=>.inl ⟨i,(hw i).owned ho,rfl⟩,fun _ h=>.inl h,AD _⟩ st⟩
structure Aft(B:Phi)(T:Ap)(ps:Array Tmp)(a b:Code)(D L eD eL:Nat)(H1:OutH)(r1:Row H1.cts)(st:LoopState)(pd:Option Code)(B1:Phi)(h:Ax):Prop where
 inv:InvT B1 (rebT (rnd T) H1 r1)
 log:LogR B (rnd T) B1 (rebT (rnd T) H1 r1)
 X:∀i,i<1000->i≠L->B1.X i=B.X i
 XL:B1.X L=.loop eL st pd (em B T).t ps a b D eD
 ds:B1.ds=[]
 w:∀i,W ((em B T).t.getD i .top) (eT B1 (Ah (rebT (rnd T) H1 r1).t i))
 h:∀i,i<1000\/2000<=i->h i=hO B1 i (Ad (rebT (rnd T) H1 r1).h i)
def BR(B:Phi)(T:Ap)(ps:Array Tmp)(a b:Code)(D L eD eL:Nat):Phi := ⟨B.o,fun i=>if i=L then .loop eL .ready none (em B T).t ps a b D eD else if i=D then .dfr eD else B.X i,[],B.c⟩
theorem eT_R{ps:Array Tmp}{a b:Code}{D L eD eL:Nat}(x:TV):eT (BR B T ps a b D L eD eL) x=eT B x:=Dd rfl rfl x
theorem GP{ps:Array Tmp}{a b:Code}{D L eD eL:Nat}:(em (BR B T ps a b D L eD eL) T).t=(em B T).t:=by refine Nc fun i _=>?_;rw[BT,BT,eT_R]
theorem jze6(hI:InvT B T)(hg:T.gs=[])(hb:T.b=0){ps:Array Tmp}{a b:Code}{D L eD eL:Nat}(hD:900<=D)(hL:900<=L):InvT (BR B T ps a b D L eD eL) (rnd T):=by
 refine InvT.re (B:=B) (T:=cl0 T) (PQ hI hg) rfl rfl rfl rfl rfl rfl rfl ⟨hI.fr.ro,fun i e=>?_,fun i e1 e2=>?_,fun D hD=>(by cases hD),fun _ e=>?_,hI.fr.cs,fun st i l b e=>?_⟩
 ·have:=Bm e;have h0:(rnd T).b=0:=hb;show ∃e,(if i=L then Ai.loop eL .ready none (em B T).t ps a b D eD else if i=D then .dfr eD else B.X i)=.gone e;rw[Ak (by omega),Ak (by omega)];exact hI.fr.rx i e
 ·have e1:T.b+900+2*(T.rf+50)<=i:=e1;have e2:i<T.b+1000:=e2;omega
 ·have e:T.rf+50<50:=e;omega
 ·have:=(hI.fr.yo st i l b e).1;omega
theorem Aft.Xn{ps:Array Tmp}{a b:Code}{D L eD eL:Nat}{H1:OutH}{r1:Row H1.cts}{st:LoopState}{pd:Option Code}{B1:Phi}{h:Ax}(A:Aft (BR B T ps a b D L eD eL) T ps a b D L eD eL H1 r1 st pd B1 h){i:Nat}(hi:i<1000)(h1:i≠L)(h2:i≠D):B1.X i=B.X i:=by rw[A.X i hi h1];show(if i=L then _ else if i=D then _ else B.X i)=B.X i;rw[Ak h1,Ak h2]
theorem jzbq(hI:InvT B T)(hg:T.gs=[])(hb:T.b=0)(dB:T.rf<50){ps:Array Tmp}{a b:Code}{D L eD eL:Nat}(hD:D=900+2*T.rf)(hL:L=D+1){H1:OutH}{r1:Row H1.cts}{st:LoopState}{pd:Option Code}{B1:Phi}{h:Ax}(A:Aft (BR B T ps a b D L eD eL) T ps a b D L eD eL H1 r1 st pd B1 h) : ∃B',InvT B' (rebT (rnA T) H1 r1)/\Log B T B' (rebT (rnA T) H1 r1)/\(rebT (rnA T) H1 r1).gs=[]/\See TabT.E ⟨(em B T).t,hset h L (.gone eL),(D,eD) :: B.ds⟩ (em B' (rebT (rnA T) H1 r1))/\h L=.loop eL st pd (em B T).t ps a b D eD/\h D=.dfr eD/\∀X∈B.ds,h X.1=.dfr X.2:=by
 have dG:∀i p,Ad (rebT (rnd T) H1 r1).h i=some p->i<900:=fun i p e=>by have:=Bm (A.inv.fr.ro i p e);have h0:(rebT (rnd T) H1 r1).b=0:=hb;omega
 have bQ:∀i,900<=i->Ad (rebT (rnd T) H1 r1).h i=none:=fun i hi=>by
  cases e:Ad (rebT (rnd T) H1 r1).h i with
  |none=>rfl
  |some p=>have:=dG i p e;omega
 have xD:B1.X D=.dfr eD:=by rw[A.X D (by omega) (by omega)];show(if D=L then _ else if D=D then _ else B.X D)=_;rw[Ak (by omega),Aq rfl]
 have la:∀i,900<=i->i<1000->h i=B1.X i:=fun i h1 h2=>by rw[A.h i (.inl h2),bQ i h1];rfl
 have dds:∀X∈B.ds,B1.X X.1=.dfr X.2/\900<=X.1/\X.1<D:=fun X hX=>by obtain⟨k1,k2,k3⟩:=hI.fr.dd X hX;refine⟨?_,by omega,by omega⟩;rw[A.Xn (by omega) (by omega) (by omega)];exact k1
 let B7:Phi:=⟨B1.o,fun i=>if i=L then .gone eL else if 1000<=i/\i<2000 then .gone (h i).ep else B1.X i,(D,eD) :: B.ds,B1.c⟩
 have x7:∀i,i<1000->i≠L->B7.X i=B1.X i:=fun i h1 h2=>by show(if i=L then _ else if 1000<=i/\i<2000 then _ else B1.X i)=_;rw[Ak h2,Ak (by omega)]
 have xL:B7.X L=.gone eL:=by show(if L=L then _ else _)=_;rw[Aq rfl]
 have hf:Fr B7 (rebT (rnA T) H1 r1):=by
  refine⟨fun i p e=>A.inv.fr.ro i p (by rw[<-JO];exact e),fun i e=>?_,fun i e1 e2=>?_,fun X hX=>?_,fun _ _ i h1 h2=>⟨(h i).ep,?_⟩,A.inv.fr.cs,fun st i l b e=>?_⟩
  ·have:=Bm e;have h0:(rebT (rnA T) H1 r1).b=0:=hb;rw[x7 i (by omega) (by omega)];exact A.inv.fr.rx i e
  ·have e1:T.b+900+2*(T.rf+1)<=i:=e1;have e2:i<T.b+1000:=e2;rw[x7 i (by omega) (by omega),A.Xn (by omega) (by omega) (by omega)];exact hI.fr.rz i (by omega) e2
  ·have e0:(rebT (rnA T) H1 r1).b=T.b:=rfl;have e1:(rebT (rnA T) H1 r1).rf=T.rf+1:=rfl;rw[e0,e1];rcases AM.1 hX with rfl|hX
   ·exact⟨(x7 D (by omega) (by omega)).trans xD,by show T.b+900<=D;omega,by show D<_;omega⟩
   ·obtain⟨k1,k2,k3⟩:=dds X hX;exact⟨(x7 X.1 (by omega) (by omega)).trans k1,by omega,by omega⟩
  ·show(if i=L then _ else if 1000<=i/\i<2000 then _ else B1.X i)=_;rw[Ak (by omega),Aq ⟨h1,h2⟩]
  ·have h0:=(A.inv.fr.yo st i l b (by rw[<-JO];exact e)).1;have h1:(rebT (rnd T) H1 r1).b=0:=hb;omega
 have mg:InvT B7 (rebT (rnA T) H1 r1):=A.inv.re rfl rfl Uq JO rfl rfl rfl hf
 have eR:∀i,hO (BR B T ps a b D L eD eL) i (Ad T.h i)=if i=L then Ai.loop eL .ready none (em B T).t ps a b D eD else if i=D then .dfr eD else hO B i (Ad T.h i):=fun i=>by
  have hn:900<=i->Ad T.h i=none:=fun hi=>by
   cases e:Ad T.h i with
   |none=>rfl
   |some p=>have:=Bm (hI.fr.ro i p e);omega
  by_cases h1:i=L
  ·rw[Aq h1,hn (by omega)];show(if i=L then _ else _)=_;rw[Aq h1]
  ·rw[Ak h1];by_cases h2:i=D
   ·rw[Aq h2,hn (by omega)];show(if i=L then _ else if i=D then _ else _)=_;rw[Ak h1,Aq h2]
   ·rw[Ak h2];refine Eb (B:=B) (B':=BR B T ps a b D L eD eL) rfl rfl fun _=>?_;show(if i=L then _ else if i=D then _ else B.X i)=B.X i;rw[Ak h1,Ak h2]
 have hl:Log B T B7 (rebT (rnA T) H1 r1):=by
  refine⟨rfl,A.log.nx,⟨fun id st hs=>A.log.ext.s id st hs,A.log.ext.c⟩,fun i hi=>?_,fun i hi=>?_,⟨rfl,E8 _,fun e=>?_,fun e=>?_,fun e=>(by rw[JO];exact A.log.hy e),fun i e=>?_,fun e=>?_⟩⟩
  ·have hi:i∉setW H1.sl (Cw H1.sl T.t T.w):=hi;rw[jzat,jzdm]at hi;simp only[DJ,Cg]at hi;refine⟨hi.2.2,?_⟩;have h1:i∉(rebT (rnd T) H1 r1).w:=by show i∉setW H1.sl (Cw H1.sl T.t []);rw[jzat];simp only[DJ,Cg];exact⟨hi.1,hi.2.1⟩
   rw[<-eT_R (T:=T) (ps:=ps) (a:=a) (b:=b) (D:=D) (L:=L) (eD:=eD) (eL:=eL) (Ah T.t i),<-show _=eT (BR B T ps a b D L eD eL) (Ah T.t i) from(A.log.sl i h1).2];rw[Uq];exact Dd rfl rfl _
  ·have hi:i∉AV H1.ob T.wo:=hi;rw[wz9n]at hi;simp only[DJ,Cg]at hi;refine⟨hi.2,fun bh=>?_⟩;have hr:=Bm bh;have h1:i∉(rebT (rnd T) H1 r1).wo:=by show i∉AV H1.ob [];exact hi.1
   have h2:=(A.log.ob i h1).2 bh;rw[show Ad (rnd T).h i=Ad T.h i from rfl,eR i,Ak (by omega),Ak (by omega)]at h2;rw[<-h2,JO];exact Eb (B:=B1) (B':=B7) rfl rfl fun _=>x7 i (by omega) (by omega)
  ·omega
  ·have e:1899∉AV H1.ob T.wo:=e;rw[wz9n]at e;simp only[DJ,Cg]at e;exact e.2
  ·have hr:=Bm e;rw[x7 i (by omega) (by omega),A.Xn (by omega) (by omega) (by omega)]
  ·have e:T.rf+1=T.rf:=e;omega
 refine⟨B7,mg,hl,rfl,?_,?_,?_,fun X hX=>?_⟩
 ·have hd:=HU mg;refine .pw (t:=(em B T).t) (t':=(em B7 (rebT (rnA T) H1 r1)).t) (.of ?_ fun i x y hx hy=>?_) (fun i=>?_) hd
  ·show(tl _ T.n).length=(tl _ T.n).length;rw[CX,CX]
  ·have:=A.w i;have cP:(em B T).t.getD i .top=x:=by simp[List.getD,hx]
   rw[GP,cP]at this;have hi:i<T.n:=by have h1:=(AU.1 hx).1;have h2:(em B T).t.length=T.n:=CX _ _;omega
   have hy:(tl (eTm B7 (rebT (rnA T) H1 r1).t) T.n)[i]?=some y:=hy;rw[Uq,DS,Aq hi,BT]at hy;cases hy;rw[show eT B7 (Ah (rebT (rnd T) H1 r1).t i)=eT B1 (Ah (rebT (rnd T) H1 r1).t i) from Dd rfl rfl _];exact this
  ·show WO (if i=L then Ai.gone eL else h i) (hO B7 i (Ad (rebT (rnA T) H1 r1).h i));rw[JO];by_cases h1:i=L
   ·rw[Aq h1,h1,bQ L (by omega)];show WO _ (B7.X L);rw[xL];exact Bh.2 trivial
   ·rw[Ak h1];by_cases h2:1000<=i/\i<2000
    ·rw[bQ i (by omega)];show WO _ (if i=L then _ else if 1000<=i/\i<2000 then _ else B1.X i);rw[Ak h1,Aq h2];exact Hu.2 rfl
    ·rw[A.h i (by omega)];have:hO B7 i (Ad (rebT (rnd T) H1 r1).h i)=hO B1 i (Ad (rebT (rnd T) H1 r1).h i):=Eb (B:=B1) (B':=B7) rfl rfl fun _=>by show(if i=L then _ else if 1000<=i/\i<2000 then _ else B1.X i)=_;rw[Ak h1,Ak h2]
     rw[this];exact Bh.2 trivial
 ·rw[la L (by omega) (by omega)];rw[A.XL,GP]
 ·rw[la D (by omega) (by omega)];exact xD
 ·obtain⟨k1,k2,k3⟩:=dds X hX;rw[la X.1 k2 (by omega)];exact k1
theorem jzh8[TabOk]{B1 B4:Phi}{T1 T4:Ap}{w0:List Nat}(ju:InvT B4 T4)(nS:T4.gs=[])(L4:Log B1 T1 B4 T4)(hn:T1.n=T.n)(dI:T.nx<=T1.nx)(aG:Ext T.nx B B1)(hw:∀i,i∉w0->i∉T1.w->i∉T.w/\eT B1 (Ah T1.t i)=eT B (Ah T.t i))(bY:∀i,i∉T1.wo->i∉T.wo/\(inR T.b i=true->hO B1 i (Ad T1.h i)=hO B i (Ad T.h i))) (mh:Fm B T B1 T1):InvT B4 (rstT w0 T4)/\Log B T B4 (rstT w0 T4)/\See TabT.E (em B4 T4) (em B4 (rstT w0 T4)):=by
 have hl:∀i,Ah (rstT w0 T4).t i=if i∈T4.w then .v (.s .top) else Ah T4.t i:=fun i=>PR
 have hI:InvT B4 (rstT w0 T4):=by
  refine⟨fun i=>?_,fun i hi=>?_,ju.ob,ju.fr.ofh rfl rfl rfl rfl rfl rfl⟩
  ·rw[hl];split
   ·exact⟨trivial,trivial⟩
   ·have hx:=ju.sl i;revert hx;cases Ah T4.t i with
    |v x=>exact fun h=>h
    |cnd a b c x =>rintro⟨_,_,h,_⟩;rw[nS]at h;cases h
  ·rw[hl];split
   ·rfl
   ·exact ju.hi i hi
 have ff:=mh.trans L4.fr;refine⟨hI,⟨L4.n.trans hn,Bg dI L4.nx,aG.trans L4.ext dI,fun i hi=>?_,fun i hi=>?_,⟨ff.b,ff.le,ff.sr,ff.wo,ff.hy,ff.rg,ff.eq⟩⟩,Uh hI rfl rfl (fun i=>?_) fun i=>Bh.2 trivial⟩
 ·have hi:i∉T4.w++w0:=hi;simp only[DJ,Cg]at hi;obtain⟨h1,h2⟩:=hw i hi.2 (L4.sl i hi.1).1;refine⟨h1,?_⟩;rw[hl,Ak hi.1,(L4.sl i hi.1).2,h2]
 ·obtain⟨h1,h2⟩:=bY i (L4.ob i hi).1;exact⟨h1,fun e=>((L4.ob i hi).2 (by rw[mh.b];exact e)).trans (h2 e)⟩
 ·rw[hl];split
  ·exact .top _
  ·exact .refl _
def jziq(ρ:Option Nat)(T:Ap)(ps:List Tmp)(a b:AX)(hd:OutH)(J:List OutH)(T1:Ap)(o:Row hd.cts⊕OutT J):Prop :=
 ∀B1,InvT B1 T1->AW TabT.E ρ TabT.P a (fun e S1=>∃B2 T2,e=.normal/\InvT B2 T2/\Log B1 T1 B2 T2/\T2.gs=[]/\See TabT.E S1 (em B2 T2) /\
  ∀B3,InvT B3 T2->AW TabT.E ρ TabT.P b (fun e S2=>∃B4 T4,(match e with
   |.normal=>∃r',arrT (rnd T) (rstT (rndW T hd) T4) hd=some r'/\o=.inl r'
   | e=>∃q,injT (rnd T) J e (rstT (rndW T hd) T4)=some q/\o=.inr q)/\InvT B4 T4/\Log B3 T2 B4 T4/\T4.gs=[]/\See TabT.E S2 (em B4 T4)) (em B3 T2)) (em B1 T1)
theorem jzd8[TabOk]{f:Ac}{ps:List Tmp}{a b:AX}{i:Nat}{z:SqV i}{hd:OutH}{J:List OutH}{r0:Row hd.cts}{body:TabT.FA i->Row hd.cts->Option (Row hd.cts⊕OutT J)}{U:Type}{K:Exit->Ap->Option U}{r:U}(hI:InvT B T) (hg:T.gs=[]) (hf:Ae TabT.E (em B T).t f=.fn z.f 0 z.caps) (h0:arrT (rnd T) (rnd T) hd=some r0) (hb:T.b=0) (dB:T.rf<50) (fp:ps.length=(Tab.fa i).length) (nT:psOk T.n ps=true)
  (hc:bd (z.g fun l=>D5 body l r0) (fun l=>bd (BG body l r0) fun o=>match o with
   |.inl r=>K .normal (rebT (rnA T) hd r)
   | .inr q=>aftT (rnA T) K J q)=some r)
  (cY:∀(ρ:Option Nat) (x:TabT.FA i) (r1:Row hd.cts) (o:Row hd.cts⊕OutT J),body x r1=some o->jziq ρ T ps a b hd J (putP (strT (rebT (rnd T) hd r1)) ps (rowW (Tab.fa i) (cast (Tab.eA i).symm x))) o) :
  AW TabT.E none TabT.P (.rfunc f ps a b) (FinT K r B T) (em B T):=by
 obtain⟨l,hz,hc⟩:=FP hc;obtain⟨nU,nW⟩:=z.ok _ _ hz
 have fu:∀j,900+2*T.rf<=j->j<1000->∃e,(em B T).h j=.gone e:=fun j h1 h2=>by
  have hn:Ad T.h j=none:=by
   cases e:Ad T.h j with
   |none=>rfl
   |some p=>have:=Bm (hI.fr.ro j p e);omega
  rw[em_h,hn];exact hI.fr.rz j (by omega) (by omega)
 obtain⟨e1,hD⟩:=fu (900+2*T.rf) (by omega) (by omega);obtain⟨e2,hL⟩:=fu (900+2*T.rf+1) (by omega) (by omega);refine .rfunc (900+2*T.rf) (900+2*T.rf+1) (by omega) (by rw[hD];trivial) (by rw[hL];trivial) hf nU ?_;intro ps' a' b' iY ha bk;rw[hD,hL];generalize mi:900+2*T.rf=D at *;have eDe:(Ai.gone e1).ep=e1:=rfl;have eLe:(Ai.gone e2).ep=e2:=rfl;rw[eDe,eLe]
 let HC:List (TabT.FA i)->Ax->Prop:=fun l h=>∃r1 B1,BG body l r0=some (.inl r1)/\Aft (BR B T ps' a' b' D (D+1) (e1+1) (e2+1)) T ps' a' b' D (D+1) (e1+1) (e2+1) hd r1 .ready none B1 h
 let HX:List (TabT.FA i)->Ax->Prop:=fun l h=>∃q H1 r1 e c B1,BG body l r0=some (.inr q)/\(∀{U:Type} (T':Ap) (K:Exit->Ap->Option U),aftT T' K J q=K e (rebT T' H1 r1))/\((e=.ret/\c=.ret)\/∃j,e=.exit j/\c=.exit j) /\
  Aft (BR B T ps' a' b' D (D+1) (e1+1) (e2+1)) T ps' a' b' D (D+1) (e1+1) (e2+1) H1 r1 .done (some c) B1 h
 have csm:Csm TabT.E TabT.P (TabT.aA i) (fun l=>D5 body l r0) (D+1) (e2+1) HC HX:=by
  refine⟨?_,?_,?_⟩
  ·rintro l h h' hh ⟨r1,B1,k1,A⟩;exact⟨r1,B1,k1,A.inv,A.log,A.X,A.XL,A.ds,A.w,fun j hj=>(hh j hj).trans (A.h j hj)⟩
  ·rintro l h h' hh ⟨q,H1,r1,e,c,B1,k1,k2,k3,A⟩;exact⟨q,H1,r1,e,c,B1,k1,k2,k3,A.inv,A.log,A.X,A.XL,A.ds,A.w,fun j hj=>(hh j hj).trans (A.h j hj)⟩
  ·rintro l x s h ⟨r1,B1,k1,A⟩ aH;obtain⟨o,ho,hs⟩:=jzdg k1 aH;have dG:∀j p,Ad (rebT (rnd T) hd r1).h j=some p->j<900:=fun j p e=>by have:=Bm (A.inv.fr.ro j p e);have h0:(rebT (rnd T) hd r1).b=0:=hb;omega
   have bQ:∀j,900<=j->Ad (rebT (rnd T) hd r1).h j=none:=fun j hj=>by
    cases e:Ad (rebT (rnd T) hd r1).h j with
    |none=>rfl
    |some p=>have:=dG j p e;omega
   have nX:h (D+1)=.loop (e2+1) .ready none (em B T).t ps' a' b' D (e1+1):=by rw[A.h (D+1) (by omega),bQ (D+1) (by omega)];show B1.X (D+1)=_;rw[A.XL,GP]
   let Bs:Phi:=⟨B1.o,fun j=>if 1000<=j/\j<2000 then h j else B1.X j,B1.ds,B1.c⟩
   have xs:∀j,j<1000\/2000<=j->Bs.X j=B1.X j:=fun j hj=>by show(if 1000<=j/\j<2000 then _ else B1.X j)=_;rw[Ak (by omega)]
   have frs:∀{B':Phi} {T':Ap},T'.b=0->50<=T'.rf->(∀id p,Ad T'.h id=some p->inR T'.b id=true)->(∀j,j<900->B'.X j=B1.X j)->B'.ds=[]->CsOk B'.c->(∀st j l b,Ad T'.h 1899=some (st,.out j l b)->False)->Fr B' T':=fun {B' T'} t1 t2 t3 t4 t5 t6 t7=>by
    refine⟨t3,fun j e=>?_,fun j u1 u2=>?_,fun X hX=>?_,fun _ u=>?_,t6,fun st j l b e=>(t7 st j l b e).elim⟩
    ·have:=Bm e;rw[t4 j (by omega)];refine A.inv.fr.rx j ?_;rw[show(rebT (rnd T) hd r1).b=0 from hb,<-t1];exact e
    ·omega
    ·rw[t5]at hX;cases hX
    ·omega
   have nY:InvT Bs (strT (rebT (rnd T) hd r1)):=A.inv.re rfl rfl rfl rfl rfl rfl rfl (frs (T':=strT (rebT (rnd T) hd r1)) hb (by show 50<=T.rf+50;omega) A.inv.fr.ro (fun j hj=>xs j (by omega)) A.ds A.inv.fr.cs (fun st j l b e=>by have h1:=(A.inv.fr.yo st j l b e).1;have h2:(rebT (rnd T) hd r1).b=0:=hb;omega))
   have nZ:(em Bs (strT (rebT (rnd T) hd r1))).h=h:=by
    funext j;show hO Bs j (Ad (rebT (rnd T) hd r1).h j)=h j;by_cases hj:1000<=j/\j<2000
    ·rw[bQ j (by omega)];show(if 1000<=j/\j<2000 then h j else _)=_;rw[Aq hj]
    ·rw[A.h j (by omega)];exact Eb (B:=B1) (B':=Bs) rfl rfl fun _=>xs j (by omega)
   obtain⟨oa,oQ⟩:=jza9 (ps:=ps) (vs:=rowW (Tab.fa i) (cast (Tab.eA i).symm x)) nY rfl nT;have eA:TabT.aA i x=At (rowW (Tab.fa i) (cast (Tab.eA i).symm x)):=by rw[<-TabOk.aA,cast_cast,cast_eq]
   refine⟨(em B T).t,ps',a',b',D,e1+1,nX,?_,fun ρ=>?_⟩
   ·rw[eA,AT,jzez,<-fp,<-iY];simp
   refine .see (S':=em Bs (putP (strT (rebT (rnd T) hd r1)) ps (rowW (Tab.fa i) (cast (Tab.eA i).symm x)))) ?_ ((cY ρ x r1 o ho Bs oa a' ha).post ?_)
   ·rw[jzb6,nZ,show Bs.ds=[] from A.ds,iY,eA];refine .pw (Ug (.of ?_ fun j u v hu hv=>?_) (.refl _)) (fun j=>Bh.2 trivial) fun D hD=>by cases hD
    ·show(tl _ T.n).length=(tl _ T.n).length;rw[CX,CX]
    ·have hw:=A.w j;have gD:(em B T).t.getD j .top=u:=(by simp[List.getD,hu]);rw[GP,gD]at hw;have hj:j<T.n:=(by have h1:=(AU.1 hu).1;have h2:(em B T).t.length=T.n:=CX _ _;omega);have hv:(tl (eTm Bs (rebT (rnd T) hd r1).t) T.n)[j]?=some v:=hv;rw[DS,Aq hj,BT]at hv;cases hv;rw[show eT Bs (Ah (rebT (rnd T) hd r1).t j)=eT B1 (Ah (rebT (rnd T) hd r1).t j) from Dd rfl rfl _];exact hw
   generalize lb:putP (strT (rebT (rnd T) hd r1)) ps (rowW (Tab.fa i) (cast (Tab.eA i).symm x))=T1 at *;obtain⟨p1,p2,p3,p4,p5,p6⟩:=Ur (ps:=ps) (vs:=rowW (Tab.fa i) (cast (Tab.eA i).symm x)) (T:=strT (rebT (rnd T) hd r1));have pl:=jzbb (B:=Bs) (ps:=ps) (vs:=rowW (Tab.fa i) (cast (Tab.eA i).symm x)) (T:=strT (rebT (rnd T) hd r1));rw[lb]at p1 p2 p3 p4 p5 p6 pl;have b1:T1.b=0:=p5.trans hb;have f1:T1.rf=T.rf+50:=p6;rintro e S1 ⟨B2,T2,rfl,i2,l2,g2,s2,nx⟩;have f2:T2.rf=T.rf+50:=(l2.fr.sr (by omega)).trans f1;have b2:T2.b=0:=l2.fr.b.trans b1;obtain⟨x2,d2⟩:=l2.fr.eq (by omega) (.inl b1);have d2:B2.ds=[]:=d2.trans A.ds
   have no2:∀j,900<=j->Ad T2.h j=none:=fun j hj=>by
    cases e:Ad T2.h j with
    |none=>rfl
    |some p=>have:=Bm (i2.fr.ro j p e);omega
   have yo2:∀st j l b,Ad T2.h 1899=some (st,.out j l b)->False:=fun st j l b e=>by rw[no2 1899 (by omega)]at e;cases e
   have oc:(em B2 T2).h (D+1)=.loop (e2+1) .ready none (em B T).t ps' a' b' D (e1+1):=by rw[em_h,no2 (D+1) (by omega)];show B2.X (D+1)=_;rw[x2,xs (D+1) (by omega),A.XL,GP]
   refine⟨em B2 T2,s2,rfl,oc,?_⟩
   let B3:Phi:=⟨B2.o,hset B2.X (D+1) (.loop (e2+1) .busy none (em B T).t ps' a' b' D (e1+1)),B2.ds,B2.c⟩
   have i3:InvT B3 T2:=i2.re rfl rfl rfl rfl rfl rfl rfl (frs b2 (by omega) i2.fr.ro (fun j hj=>by show(if j=D+1 then _ else B2.X j)=_;rw[Ak (by omega),x2,xs j (by omega)]) d2 i2.fr.cs yo2)
   have em3:(⟨(em B2 T2).t,hset (em B2 T2).h (D+1) (.loop (e2+1) .busy none (em B T).t ps' a' b' D (e1+1)),(em B2 T2).ds⟩:Ay)=em B3 T2:=by
    show Ay.mk (tl (eTm B2 T2.t) T2.n) _ B2.ds=⟨tl (eTm B3 T2.t) T2.n,fun j=>hO B3 j (Ad T2.h j),B2.ds⟩;have et:tl (eTm B2 T2.t) T2.n=tl (eTm B3 T2.t) T2.n:=Nc fun k _=>by rw[BT,BT];exact(Dd (B:=B2) (B':=B3) rfl rfl _).symm
    rw[et];congr 1
    ·funext j;show(if j=D+1 then _ else(em B2 T2).h j)=_;by_cases hj:j=D+1
     ·rw[Aq hj,no2 j (by omega)];show _=(if j=D+1 then _ else B2.X j);rw[Aq hj]
     ·rw[Ak hj,em_h];refine(Eb (B:=B2) (B':=B3) rfl rfl fun _=>?_).symm;show(if j=D+1 then _ else B2.X j)=_;rw[Ak hj]
   rw[em3];refine(nx B3 i3 b' bk).post ?_;rintro e S2 ⟨B4,T4,hq,i4,l4,g4,s4⟩;have f4:T4.rf=T.rf+50:=(l4.fr.sr (by omega)).trans f2;obtain⟨x4,d4⟩:=l4.fr.eq (by omega) (.inl b2);have d4:B4.ds=[]:=d4.trans d2;have x4':∀j,j≠D+1->B4.X j=Bs.X j:=fun j hj=>by rw[x4];show(if j=D+1 then _ else B2.X j)=_;rw[Ak hj,x2]
   have x4L:B4.X (D+1)=.loop (e2+1) .busy none (em B T).t ps' a' b' D (e1+1):=by rw[x4];show(if D+1=D+1 then _ else _)=_;rw[Aq rfl]
   let Bk:Phi:=⟨B.o,B3.X,[],B.c⟩
   have xk:∀j,j<900->B3.X j=B1.X j:=fun j hj=>by show(if j=D+1 then _ else B2.X j)=_;rw[Ak (by omega),x2,xs j (by omega)]
   have rgR:∀j,j<900->B1.X j=B.X j:=fun j hj=>A.Xn (by omega) (by omega) (by omega);have ik:InvT Bk (rnd T):=(PQ hI hg).re rfl rfl rfl rfl rfl rfl rfl (frs (T':=rnd T) hb (by show 50<=T.rf+50;omega) hI.fr.ro xk rfl hI.fr.cs fun st j l b e=>by have:=(hI.fr.yo st j l b e).1;omega);have bh:∀j,inR T.b j=true->j<900:=fun j e=>by have:=Bm e;omega
   obtain⟨iz,lz,sz⟩:=jzh8 (B:=Bk) (T:=rnd T) (w0:=rndW T hd) i4 g4 l4 (l2.n.trans p3) (by have:=l2.nx;rw[p2]at this;exact Bg A.log.nx this) ⟨fun id st hs=>by have h1:=l2.ext.s id st (by rw[p2];exact F3 hs A.log.nx);exact h1.trans (A.log.ext.s id st hs),l2.ext.c.trans A.log.ext.c⟩ (fun j h1 h2=>⟨(by intro e;cases e),by obtain⟨k1,k2⟩:=l2.sl j h2;rw[show eT B3 (Ah T2.t j)=eT B2 (Ah T2.t j) from Dd (B:=B2) (B':=B3) rfl rfl _,k2,(pl.sl j k1).2];have:=(A.log.sl j h1).2;rw[eT_R]at this;rw[show eT Bk (Ah (rnd T).t j)=eT B (Ah (rnd T).t j) from Dd rfl rfl _,<-this];exact Dd rfl rfl _⟩)
    (fun j hj=>⟨(by intro e;cases e),fun e=>by
     have gz:=bh j e;obtain⟨k1,k2⟩:=l2.ob j hj;rw[p4]at k1
     rw[show hO B3 j (Ad T2.h j)=hO B2 j (Ad T2.h j) from Eb (B:=B2) (B':=B3) rfl rfl fun _=>(Ak (by omega)),k2 (by rw[b1,<-hb];exact e),p1,
      show hO Bs j (Ad (strT (rebT (rnd T) hd r1)).h j)=hO B1 j (Ad (rebT (rnd T) hd r1).h j) from Eb (B:=B1) (B':=Bs) rfl rfl fun _=>xs j (by omega),(A.log.ob j k1).2 e]
     refine Eb (B:=Bk) (B':=BR B T ps' a' b' D (D+1) (e1+1) (e2+1)) rfl rfl fun _=>?_;show(if j=D+1 then _ else if j=D then _ else B.X j)=B3.X j;rw[Ak (by omega),Ak (by omega),xk j gz,rgR j gz]⟩)
    ⟨b2.trans hb.symm,by rw[f2];exact AD _,fun _=>f2,fun _ e=>(by cases e),fun e=>absurd (show Ad T.h 1899=none from by
     cases e:Ad T.h 1899 with
     |none=>rfl
     | some p=>have:=Bm (hI.fr.ro 1899 p e);omega) e,fun _ _=>rfl,fun _ _=>⟨rfl,d2⟩⟩
   have key:∀(H1:OutH) (r2:Row H1.cts),arrT (rnd T) (rstT (rndW T hd) T4) H1=some r2->∃B5,See TabT.E S2 (em B5 (rebT (rnd T) H1 r2))/\(em B5 (rebT (rnd T) H1 r2)).h (D+1)=.loop (e2+1) .busy none (em B T).t ps' a' b' D (e1+1) /\ ∀st pd,(∃B6,Aft (BR B T ps' a' b' D (D+1) (e1+1) (e2+1)) T ps' a' b' D (D+1) (e1+1) (e2+1) H1 r2 st pd B6 (hset (em B5 (rebT (rnd T) H1 r2)).h (D+1) (.loop (e2+1) st pd (em B T).t ps' a' b' D (e1+1)))) /\ ∀j,1000<=j->j<2000->hset (em B5 (rebT (rnd T) H1 r2)).h (D+1) (.loop (e2+1) st pd (em B T).t ps' a' b' D (e1+1)) j=h j:=by
    intro H1 r2 eH;obtain⟨B5,J⟩:=Up ik lz iz eH
    have fI:∀j,900<=j->Ad (rebT (rnd T) H1 r2).h j=none:=fun j hj=>by
     cases e:Ad (rebT (rnd T) H1 r2).h j with
     |none=>rfl
     |some p =>have:=Bm (J.inv.fr.ro j p e);have h0:(rebT (rnd T) H1 r2).b=0:=hb;omega
    have x5:∀j,j≠D+1->B5.X j=Bs.X j:=fun j hj=>by rw[J.X,x4' j hj]
    refine⟨B5,(s4.trans sz).trans J.see,?_,fun st pd=>⟨⟨⟨B5.o,hset B5.X (D+1) (.loop (e2+1) st pd (em B T).t ps' a' b' D (e1+1)),[],B5.c⟩,?_⟩,fun j h1 h2=>?_⟩⟩
    ·rw[em_h,fI (D+1) (by omega)];show B5.X (D+1)=_;rw[J.X,x4L]
    ·have x6:∀j,j≠D+1->hset B5.X (D+1) (.loop (e2+1) st pd (em B T).t ps' a' b' D (e1+1)) j=Bs.X j:=fun j hj=>by
      show(if j=D+1 then _ else B5.X j)=_;rw[Ak hj,x5 j hj]
     refine⟨J.inv.re rfl rfl rfl rfl rfl rfl rfl (frs hb (by show 50<=T.rf+50;omega) J.inv.fr.ro (fun j hj=>?_) rfl J.inv.fr.cs fun st j l b e=>?_),⟨J.log.nx,⟨J.log.ext.s,J.log.ext.c⟩,fun j hj=>?_,fun j hj=>?_,J.log.fr.hy,fun j e=>?_⟩,fun j h1 h2=>?_,?_,rfl,fun j=>?_,fun j hj=>?_⟩
     ·exact(x6 j (by omega)).trans (xs j (by omega))
     ·rw[fI 1899 (by omega)]at e;cases e
     ·obtain⟨k1,k2⟩:=J.log.sl j hj;refine⟨k1,(Dd (B:=B5) rfl rfl _).trans (k2.trans ?_)⟩;exact Dd (B:=BR B T ps' a' b' D (D+1) (e1+1) (e2+1)) (B':=Bk) rfl rfl _
     ·obtain⟨k1,k2⟩:=J.log.ob j hj;refine⟨k1,fun e=>?_⟩;have gz:=bh j e;refine(Eb (B:=B5) (B':=⟨B5.o,hset B5.X (D+1) (.loop (e2+1) st pd (em B T).t ps' a' b' D (e1+1)),[],B5.c⟩) rfl rfl fun _=>?_).trans ((k2 e).trans (Eb (B:=BR B T ps' a' b' D (D+1) (e1+1) (e2+1)) (B':=Bk) rfl rfl fun _=>?_))
      ·exact Ak (by omega)
      ·show B3.X j=(if j=D+1 then _ else if j=D then _ else B.X j);rw[Ak (by omega),Ak (by omega),xk j gz,rgR j gz]
     ·have gz:=bh j e;show hset B5.X (D+1) _ j=(if j=D+1 then _ else if j=D then _ else B.X j);rw[x6 j (by omega),Ak (by omega),Ak (by omega),xs j (by omega),rgR j gz]
     ·show hset B5.X (D+1) _ j=_;rw[x6 j h2,xs j (by omega),A.X j h1 h2]
     ·show(if D+1=D+1 then _ else _)=_;rw[Aq rfl,GP]
     ·refine(?_:W _ (eT B5 (Ah (rebT (rnd T) H1 r2).t j))).trans (by rw[Dd (B:=B5) rfl rfl];exact .refl _);refine W.trans ?_ (J.w j);rw[show Ah (rstT (rndW T hd) T4).t j=_ from PR];split
      ·exact .top _
      ·rename_i hj;obtain⟨k1,k2⟩:=l4.sl j hj;obtain⟨k3,k4⟩:=l2.sl j k1;rw[k2,show eT B3 (Ah T2.t j)=eT B2 (Ah T2.t j) from Dd rfl rfl _,k4,(pl.sl j k3).2,show eT Bs (Ah (strT (rebT (rnd T) hd r1)).t j)=eT B1 (Ah (rebT (rnd T) hd r1).t j) from Dd rfl rfl _];exact A.w j
     ·show(if j=D+1 then _ else(em B5 (rebT (rnd T) H1 r2)).h j)=_;by_cases h1:j=D+1
      ·rw[Aq h1,fI j (by omega)];show _=(if j=D+1 then _ else B5.X j);rw[Aq h1]
      ·rw[Ak h1,em_h];exact(Eb (B:=B5) (B':=⟨B5.o,hset B5.X (D+1) (.loop (e2+1) st pd (em B T).t ps' a' b' D (e1+1)),[],B5.c⟩) rfl rfl fun _=>(Ak h1)).symm
    ·show(if j=D+1 then _ else(em B5 (rebT (rnd T) H1 r2)).h j)=_;rw[Ak (by omega),em_h,fI j (by omega)];show B5.X j=_;rw[x5 j (by omega)];show(if 1000<=j/\j<2000 then h j else _)=_;rw[Aq ⟨h1,h2⟩]
   have stop:∀(q:OutT J) (e:Exit) (c:Code),injT (rnd T) J e (rstT (rndW T hd) T4)=some q->o=.inr q->((e=.ret/\c=.ret)\/∃j,e=.exit j/\c=.exit j)->∃S'',See TabT.E S2 S''/\(∃pd,S''.h (D+1)=.loop (e2+1) .busy pd (em B T).t ps' a' b' D (e1+1)) /\ (fun(v:Aa) h'=>v=.bool (!s)/\(s=false->HC (l++[x]) h')/\(s=true->HX (l++[x]) h')/\∀i,1000<=i->i<2000->h' i=h i) (.bool false) (hset S''.h (D+1) (.loop (e2+1) .done (some c) (em B T).t ps' a' b' D (e1+1))):=by
    intro q e c hq dF od;obtain⟨H1,r2,k1',_,k2'⟩:=Ii hq;obtain⟨B5,s5,h5,A5⟩:=key H1 r2 k1';obtain⟨⟨B6,A6⟩,rg6⟩:=A5 .done (some c);have dh:s=true:=by rw[hs,dF];rfl
    exact⟨_,s5,⟨none,h5⟩,by rw[dh];rfl,fun e=>(by rw[dh]at e;cases e),fun _=>⟨q,H1,r2,e,c,B6,(by rw[PP k1,ho,dF]),k2',od,A6⟩,rg6⟩
   cases e with
   |normal =>
    obtain⟨r2,eH,dF⟩:=hq;obtain⟨B5,s5,h5,A5⟩:=key hd r2 eH;obtain⟨⟨B6,A6⟩,rg6⟩:=A5 .ready none;have fj:s=false:=by rw[hs,dF];rfl
    exact⟨_,s5,⟨none,h5⟩,by rw[fj];rfl,fun _=>⟨r2,B6,(by rw[PP k1,ho,dF]),A6⟩,fun e=>(by rw[fj]at e;cases e),rg6⟩
   |ret =>obtain⟨q,hq,dF⟩:=hq;obtain⟨S'',z1,z2,z3⟩:=stop q .ret .ret hq dF (.inl ⟨rfl,rfl⟩);exact⟨S'',z1,z2,z3⟩
   |exit k =>obtain⟨q,hq,dF⟩:=hq;obtain⟨S'',z1,z2,z3⟩:=stop q (.exit k) (.exit k) hq dF (.inr ⟨k,rfl,rfl⟩);exact⟨S'',z1,z2,z3⟩
   |goto k=>obtain⟨q,hq,dF⟩:=hq;obtain⟨H1,r2,_,k2',_⟩:=Ii hq;cases hH:H1.e<;>rw[hH]at k2'<;>cases k2'
   |panic k=>obtain⟨q,hq,dF⟩:=hq;obtain⟨H1,r2,_,k2',_⟩:=Ii hq;cases hH:H1.e<;>rw[hH]at k2'<;>cases k2'
   |outgrown=>obtain⟨q,hq,dF⟩:=hq;obtain⟨H1,r2,_,k2',_⟩:=Ii hq;cases hH:H1.e<;>rw[hH]at k2'<;>cases k2'
 obtain⟨B0,J0⟩:=Up (jze6 hI hg hb (ps:=ps') (a:=a') (b:=b') (D:=D) (L:=D+1) (eD:=e1+1) (eL:=e2+1) (by omega) (by omega)) (.refl _ _) (jze6 hI hg hb (by omega) (by omega)) h0
 have mj:∀j,900<=j->Ad T.h j=none:=fun j hj=>by
  cases e:Ad T.h j with
  |none=>rfl
  |some p=>have:=Bm (hI.fr.ro j p e);omega
 have jt:∀j,hset (hset (em B T).h D (.dfr (e1+1))) (D+1) (.loop (e2+1) .ready none (em B T).t ps' a' b' D (e1+1)) j=hO (BR B T ps' a' b' D (D+1) (e1+1) (e2+1)) j (Ad (rnd T).h j):=fun j=>by
  show(if j=D+1 then _ else if j=D then _ else(em B T).h j)=_;by_cases h1:j=D+1
  ·rw[Aq h1,show Ad (rnd T).h j=none from mj j (by omega)];show _=(if j=D+1 then _ else _);rw[Aq h1]
  ·rw[Ak h1];by_cases h2:j=D
   ·rw[Aq h2,show Ad (rnd T).h j=none from mj j (by omega)];show _=(if j=D+1 then _ else if j=D then _ else _);rw[Ak h1,Aq h2]
   ·rw[Ak h2,em_h];refine(Eb (B:=B) (B':=BR B T ps' a' b' D (D+1) (e1+1) (e2+1)) rfl rfl fun _=>?_).symm;show(if j=D+1 then _ else if j=D then _ else B.X j)=_;rw[Ak h1,Ak h2]
 refine ATr.wo (h':=(em B0 (rebT (rnd T) hd r0)).h) (fun j=>by rw[jt j];exact J0.wo j) ((nW (D+1) (e2+1) HC HX csm _ ?_ ?_).mono ?_)
 ·refine⟨r0,B0,rfl,J0.inv,⟨J0.log.nx,J0.log.ext,J0.log.sl,J0.log.ob,J0.log.fr.hy,J0.log.fr.rg⟩,fun j _ _=>by rw[J0.X],?_,J0.ds,fun j=>?_,fun j _=>rfl⟩;·rw[J0.X,GP];show(if D+1=D+1 then _ else _)=_;rw[Aq rfl]
  ·rw[GP,em_t hI,<-eT_R (T:=T) (ps:=ps') (a:=a') (b:=b') (D:=D) (L:=D+1) (eD:=e1+1) (eL:=e2+1)];exact J0.w j
 ·intro j h1 h2
  have hn:Ad (rebT (rnd T) hd r0).h j=none:=by
   cases e:Ad (rebT (rnd T) hd r0).h j with
   |none=>rfl
   |some p =>have:=Bm (J0.inv.fr.ro j p e);have h0:(rebT (rnd T) hd r0).b=0:=hb;omega
  rw[em_h,hn];show ∃e,B0.X j=.gone e;rw[J0.X];show ∃e,(if j=D+1 then _ else if j=D then _ else B.X j)=.gone e;rw[Ak (by omega),Ak (by omega)];exact hI.fr.ry hb dB j h1 h2
 ·rintro v h' (⟨r1,B1,k1,A⟩|⟨q,H1,r1,e,c,B1,k1,k2,k3,A⟩);·obtain⟨B7,j1,j2,j3,j4,j5,j6,j7⟩:=jzbq hI hg hb dB mi.symm rfl A;rw[k1]at hc;refine⟨.ready,none,(by intro e;cases e),j5,j6,j7,?_⟩;exact⟨B7,_,hc,j1,j2,j3,j4⟩
  ·obtain⟨B7,j1,j2,j3,j4,j5,j6,j7⟩:=jzbq hI hg hb dB mi.symm rfl A;rw[k1]at hc;have hc:aftT (rnA T) K J q=some r:=hc;rw[k2]at hc;rcases k3 with ⟨rfl,rfl⟩|⟨k,rfl,rfl⟩
   ·exact⟨.done,some .ret,(by intro e;cases e),j5,j6,j7,B7,_,hc,j1,j2,j3,j4⟩
   ·exact⟨.done,some (.exit k),(by intro e;cases e),j5,j6,j7,B7,_,hc,j1,j2,j3,j4⟩
end
end Go.Am

