/- Part V2: the mathematics of flows and levels. No condition. -/
import Derived.Test.YtibbibelkkgfpaaGreatDoorV1
set_option linter.unusedSimpArgs false
set_option linter.unusedVariables false
namespace Go.Am
noncomputable section
def sm:Nat->(Nat->Rat)->Rat
 |0,_=>0
 |n+1,f=>sm n f+f n
theorem Be{f g:Nat->Rat}:∀{n:Nat},(∀i,i<n->f i=g i)->sm n f=sm n g
 |0,_=>rfl
 |n+1,h=>by show sm n f+f n=sm n g+g n;rw[Be fun i hi=>h i (by omega),h n (by omega)]
theorem DJ(n:Nat):sm n (fun _=>0)=0:=by
 induction n with
 |zero=>rfl
 |succ n ih=>show sm n _+0=0;rw[ih];grind
theorem E0(f g:Nat->Rat):∀n,sm n (fun i=>f i+g i)=sm n f+sm n g
 |0=>by show(0:Rat)=0+0;grind
 |n+1=>by show sm n _+(f n+g n)=sm n f+f n+(sm n g+g n);rw[E0 f g n];grind
theorem Fm(c:Rat)(f:Nat->Rat):∀n,sm n (fun i=>c*f i)=c*sm n f
 |0=>by show(0:Rat)=c*0;grind
 |n+1=>by show sm n _+c*f n=c*(sm n f+f n);rw[Fm c f n];grind
theorem Sd(f g:Nat->Rat)(n:Nat):sm n (fun i=>f i-g i)=sm n f-sm n g:=by have h1:=E0 f (fun i=>-1*g i) n;rw[Fm]at h1;rw[Be (g:=fun i=>f i+-1*g i) fun i _=>by grind,h1];grind
theorem Hu{f g:Nat->Rat}:∀{n:Nat},(∀i,i<n->f i<=g i)->sm n f<=sm n g
 |0,_=>Rat.le_refl
 |n+1,h=>by
  have h1:=Hu (n:=n) fun i hi=>h i (by omega);have h2:=h n (by omega);show sm n f+f n<=sm n g+g n
  grind
theorem Se(f:Nat->Nat->Rat)(m:Nat):∀n,sm n (fun i=>sm m (fun j=>f i j))=sm m (fun j=>sm n (fun i=>f i j))
 |0=>(DJ m).symm
 |n+1=>by show sm n _+sm m (fun j=>f n j)=sm m (fun j=>sm n (fun i=>f i j)+f n j);rw[Se f m n,E0]
theorem NF{f:Nat->Rat}:∀{n:Nat},(∀i,i<n->0<=f i)->sm n f=0->∀i,i<n->f i=0
 |0,_,_,i,hi=>by omega
 |n+1,h,e,i,hi=>by
  have h1:0<=sm n f:=by
   have:=Hu (f:=fun _=>0) (g:=f) (n:=n) fun i hi=>h i (by omega)
   rwa [DJ]at this
  have h2:=h n (by omega);have e:sm n f+f n=0:=e;by_cases hn:i=n
  ·subst hn;grind
  ·exact NF (n:=n) (fun i hi=>h i (by omega)) (by grind) i (by omega)
theorem wzg7{f:Nat->Rat}:∀{n:Nat},(∀i,i<n->0<=f i)->sm n f≠0->∃i,i<n/\0<f i
 |0,_,e=>absurd rfl e
 |n+1,h,e=>by
  by_cases h2:0<f n
  ·exact⟨n,by omega,h2⟩
  ·have h3:f n=0:=by have:=h n (by omega);grind
   have e:sm n f+f n≠0:=e;rw[h3]at e;obtain⟨i,hi,h4⟩:=wzg7 (n:=n) (fun i hi=>h i (by omega)) (by grind);exact⟨i,by omega,h4⟩
def Bj(S n:Nat)(c x:Nat->Nat->Rat):Rat:=sm S fun s=>sm n fun b=>c s b*x s b
theorem wzr6{S n:Nat}{c x y:Nat->Nat->Rat}{d:Nat->Rat}(hr:∀s,s<S->sm n (x s)=sm n (y s))(hc:∀b,b<n->sm S (fun s=>x s b)=sm S (fun s=>y s b))(hx:∀s b,s<S->b<n->0<=x s b) (hy:∀s b,s<S->b<n->0<=y s b) (hp:∀s a b,s<S->a<n->b<n->0<x s a->c s a-d a<=c s b-d b):Bj S n c x<=Bj S n c y:=by
 have split:∀z:Nat->Nat->Rat,Bj S n c z=sm S (fun s=>sm n fun b=>(c s b-d b)*z s b)+sm n (fun b=>d b*sm S (fun s=>z s b)):=fun z=>by
  have e1:sm n (fun b=>d b*sm S (fun s=>z s b))=sm S (fun s=>sm n fun b=>d b*z s b):=by rw[Se];exact Be fun b _=>(Fm (d b) (fun s=>z s b) S).symm
  rw[e1,<-E0];refine Be fun s _=>?_;rw[<-E0];exact Be fun b _=>by grind
 rw[split x,split y,Be (n:=n) (g:=fun b=>d b*sm S (fun s=>y s b)) fun b hb=>by rw[hc b hb]]
 have:sm S (fun s=>sm n fun b=>(c s b-d b)*x s b)<=sm S (fun s=>sm n fun b=>(c s b-d b)*y s b):=by
  refine Hu fun s hs=>?_;by_cases h0:sm n (x s)=0
  ·have jU:=NF (fun i hi=>hx s i hs hi) h0;have jx:=NF (fun i hi=>hy s i hs hi) ((hr s hs).symm.trans h0);rw[Be (g:=fun _=>0) fun b hb=>by rw[jU b hb];grind,Be (f:=fun b=>(c s b-d b)*y s b) (g:=fun _=>0) fun b hb=>by rw[jx b hb];grind];exact Rat.le_refl
  ·obtain⟨a,ha,mV⟩:=wzg7 (fun i hi=>hx s i hs hi) h0;rw[Be (g:=fun b=>(c s a-d a)*x s b) fun b hb=>?_,Fm,hr s hs,<-Fm]
   ·refine Hu fun b hb=>?_;have h1:=hp s a b hs ha hb mV;have h2:=hy s b hs hb;exact Rat.mul_le_mul_of_nonneg_right h1 h2
   ·by_cases eu:0<x s b;·have h1:=hp s a b hs ha hb mV;have h2:=hp s b a hs hb ha eu;rw[Rat.le_antisymm h2 h1]
    ·have:x s b=0:=(by have:=hx s b hs hb;grind);rw[this];grind
 grind
structure BF where
 D:Nat->Rat
 P:Nat->Nat
 T:Nat->Nat
def updN{α:Type}(f:Nat->α)(i:Nat)(a:α):Nat->α:=fun j=>if j=i then a else f j
theorem C0{α:Type}(f:Nat->α)(i:Nat)(a:α):updN f i a i=a:=Aj rfl
theorem yzm{α:Type}(f:Nat->α){i j:Nat}(a:α)(h:j≠i):updN f i a j=f j:=Ag h
def rlx(w:Nat->Nat->Option Rat)(t a b:Nat)(s:BF):BF:=open Classical in match w a b with
 |none=>s
 |some y=>if a≠b/\s.D a+y<s.D b then⟨updN s.D b (s.D a+y),updN s.P b a,updN s.T b (t+1)⟩ else s
structure BFI(w:Nat->Nat->Option Rat)(n t:Nat)(s:BF):Prop where
 j1:∀v,s.T v<=t
 j2:∀v,0<s.T v->v<n/\s.P v<n/\s.P v≠v/\∃y,w (s.P v) v=some y/\s.D (s.P v)+y<=s.D v/\(s.T v<s.T (s.P v)->s.D (s.P v)+y<s.D v)
 j3:∀u v,0<s.T u->s.T u=s.T v->u=v
 j4:∀a b y k,a<n->b<n->a≠b->w a b=some y->k<t->t<=k+n*n->k%(n*n)=a*n+b->s.T a<=k->s.D b<=s.D a+y
 j5:∀v,0<s.T v->s.T v<=n*n\/s.T v<=s.T (s.P v)+n*n
theorem wzqo(w:Nat->Nat->Option Rat)(n:Nat)(P:Nat->Nat):BFI w n 0 ⟨fun _=>0,P,fun _=>0⟩ := ⟨fun _=>A8 _,fun v h=>by simp at h,fun u v h=>by simp at h,fun a b y k _ _ _ _ h=>by omega,fun v h=>by simp at h⟩
theorem qz8v{n a b c d:Nat}(hb:b<n)(hd:d<n)(h:a*n+b=c*n+d):a=c/\b=d:=by
 have hn:0<n:=by omega
 have h1:(a*n+b) / n=a:=by rw[Bb,Lm hn,Jo hb];omega
 have h2:(c*n+d) / n=c:=by rw[Bb,Lm hn,Jo hd];omega
 have:a=c:=by rw[<-h1,h,h2]
 subst this;exact⟨rfl,by omega⟩
theorem wzq9{w:Nat->Nat->Option Rat}{n t a b:Nat}{s:BF}(H:BFI w n t s)(ha:a<n)(hb:b<n)(hp:t%(n*n)=a*n+b):BFI w n (t+1) (rlx w t a b s):=by
 have pN:0<n*n:=Nat.mul_pos (by omega) (by omega);by_cases hy:∃y,w a b=some y/\a≠b/\s.D a+y<s.D b
 ·obtain⟨y,e,bm,hlt⟩:=hy;have er:rlx w t a b s=⟨updN s.D b (s.D a+y),updN s.P b a,updN s.T b (t+1)⟩:=by unfold rlx;rw[e];simp only;rw[Aj ⟨bm,hlt⟩]
  rw[er];refine⟨fun v=>?_,fun v hv=>?_,fun u v hu dG=>?_,fun c d z k hc hd kl hz hk ew jM ht=>?_,fun v hv=>?_⟩
  ·show updN s.T b (t+1) v<=t+1;unfold updN;have:=H.j1 v;split<;>omega
  ·simp only at hv |-;by_cases vb:v=b
   ·subst vb;rw[C0,C0,yzm _ _ bm,C0,yzm _ _ bm];have:=H.j1 a;exact⟨hb,ha,bm,y,e,Rat.le_refl,fun h=>by omega⟩
   ·rw[yzm _ _ vb]at hv;obtain⟨h1,h2,h3,z,h4,h5,h6⟩:=H.j2 v hv;rw[yzm _ _ vb,yzm s.D _ vb,yzm s.T _ vb];refine⟨h1,h2,h3,z,h4,?_⟩;by_cases pb:s.P v=b
    ·rw[pb]at h5 h6 |-;rw[C0,C0];exact⟨by grind,fun _=>by grind⟩
    ·rw[yzm _ _ pb,yzm _ _ pb];exact⟨h5,h6⟩
  ·simp only at hu dG;have h1:=H.j1 u;have h2:=H.j1 v;by_cases ub:u=b
   ·by_cases vb:v=b;·rw[ub,vb]
    ·rw[ub,C0,yzm _ _ vb]at dG;omega
   ·by_cases vb:v=b;·rw[vb,C0,yzm _ _ ub]at dG;omega
    ·rw[yzm _ _ ub]at hu dG;rw[yzm _ _ vb]at dG;exact H.j3 u v hu dG
  ·simp only at ht |-;by_cases kt:k=t
   ·subst kt;obtain⟨rfl,rfl⟩:=qz8v hb hd (hp.symm.trans jM);rw[e]at hz;cases hz;rw[C0,yzm _ _ bm];exact Rat.le_refl
   ·by_cases cb:c=b;·rw[cb,C0]at ht;omega
    ·rw[yzm _ _ cb]at ht |-;have h5:=H.j4 c d z k hc hd kl hz (by omega) (by omega) jM ht;by_cases db:d=b
     ·subst db;rw[C0];grind
     ·rw[yzm _ _ db];exact h5
  ·simp only at hv |-;by_cases vb:v=b
   ·subst vb;rw[C0,C0,yzm _ _ bm];by_cases h0:t<n*n
    ·exact .inl (by omega)
    ·refine .inr ?_
     have:¬s.T a<=t-n*n:=fun h=>by
      have:=H.j4 a v y (t-n*n) ha hb bm e (by omega) (by omega) (by
       rw[<-hp]
       conv=>rhs;rw[show t=t-n*n+n*n by omega]
       rw[Nat.add_mod_right]) h
      grind
     omega
   ·rw[yzm _ _ vb]at hv;rw[yzm _ _ vb,yzm s.P _ vb];rcases H.j5 v hv with h|h
    ·exact .inl h
    ·refine .inr ?_;by_cases pb:s.P v=b
     ·rw[pb]at h |-;rw[C0];have:=H.j1 b;omega
     ·rw[yzm _ _ pb];exact h
 ·have er:rlx w t a b s=s:=by
   unfold rlx;cases e:w a b with
   |none=>rfl
   |some y=>simp only;rw[Ag fun h=>hy ⟨y,e,h⟩]
  rw[er];refine⟨fun v=>Nat.le_succ_of_le (H.j1 v),H.j2,H.j3,fun c d z k hc hd kl hz hk ew jM ht=>?_,H.j5⟩;by_cases kt:k=t
  ·subst kt;obtain⟨rfl,rfl⟩:=qz8v hb hd (hp.symm.trans jM);refine Rat.not_lt.1 fun h=>hy ⟨z,hz,kl,h⟩
  ·exact H.j4 c d z k hc hd kl hz (by omega) (by omega) jM ht
theorem wzrz{w:Nat->Nat->Option Rat}{n p:Nat}{s:BF}(H:BFI w n ((p+1)*(n*n)) s)(hT:∀v,s.T v<=p*(n*n)):∀a b y,a<n->b<n->a≠b->w a b=some y->s.D b<=s.D a+y:=fun a b y ha hb bm hy=>by
 have h1:a*n+b<n*n:=by
  have:a*n+n<=n*n:=by rw[<-BY];exact Bd _ (by omega)
  omega
 have h2:=hT a;have h3:(p+1)*(n*n)=p*(n*n)+n*n:=BY ..;exact H.j4 a b y (p*(n*n)+(a*n+b)) ha hb bm hy (by omega) (by omega) (by rw[Bb p,NX,C2 h1]) (by omega)
def bk(P:Nat->Nat):Nat->Nat->Nat
 |0,v=>v
 |k+1,v=>bk P k (P v)
theorem Gb(P:Nat->Nat):∀(j k v:Nat),bk P (j+k) v=bk P k (bk P j v)
 |0,k,v=>by rw[Bq];rfl
 |j+1,k,v=>by rw[show j+1+k=(j+k)+1 by omega];show bk P (j+k) (P v)=bk P k (bk P j (P v));exact Gb P j k (P v)
theorem Jd(P:Nat->Nat)(k v:Nat):bk P (k+1) v=P (bk P k v):=Gb P k 1 v
theorem wzdu{w:Nat->Nat->Option Rat}{n t:Nat}{s:BF}(H:BFI w n t s){v:Nat}(hv:n*(n*n)<s.T v):∀k,k<=n->(n-k)*(n*n)<s.T (bk s.P k v)
 |0,_=>hv
 |k+1,hk=>by
  have ih:=wzdu H hv k (by omega);rw[Jd];have e:(n-k)*(n*n)=(n-(k+1))*(n*n)+n*n:=by rw[<-BY];congr 1;omega
  rw[e]at ih;generalize (n-(k+1))*(n*n)=z at *;rcases H.j5 (bk s.P k v) (by omega) with h|h<;>omega
theorem wzd2{n:Nat}{f:Nat->Nat}(h:∀k,k<=n->f k<n):∃i j,i<j/\j<=n/\f i=f j:=by
 induction n generalizing f with
 |zero=>have:=h 0 (by omega);omega
 |succ n ih =>
  by_cases hx:∃k,k<=n/\f k=f (n+1)
  ·obtain⟨k,hk,e⟩:=hx;exact⟨k,n+1,by omega,by omega,e⟩
  ·obtain⟨i,j,h1,h2,h3⟩:=ih (f:=fun k=>if f k=n then f (n+1) else f k) fun k hk=>by
    have h1:=h k (by omega);have h2:=h (n+1) (by omega);have h3:f k≠f (n+1):=fun e=>hx ⟨k,hk,e⟩;show(if f k=n then f (n+1) else f k)<n;split<;>omega
   refine⟨i,j,h1,by omega,?_⟩;have h4:f i≠f (n+1):=fun e=>hx ⟨i,by omega,e⟩;have h5:f j≠f (n+1):=fun e=>hx ⟨j,by omega,e⟩;have h3:(if f i=n then f (n+1) else f i)=(if f j=n then f (n+1) else f j):=h3;split at h3<;>split at h3<;>omega
theorem wzjt{w:Nat->Nat->Option Rat}{n t:Nat}{s:BF}(H:BFI w n t s){v:Nat}(hv:n*(n*n)<s.T v):∃q,0<q/\q<=n/\bk s.P q (bk s.P n v)=bk s.P n v/\∀k,0<s.T (bk s.P k (bk s.P n v)):=by
 have aM:∀k,k<=n->0<s.T (bk s.P k v):=fun k hk=>by have:=wzdu H hv k hk;omega
 obtain⟨i,j,iy,hj,e⟩:=wzd2 (f:=fun k=>bk s.P k v) fun k hk=>(H.j2 _ (aM k hk)).1;have e:bk s.P i v=bk s.P j v:=e;have per:∀m,bk s.P (i+m) v=bk s.P (j+m) v:=fun m=>by rw[Gb,Gb,e]
 have low:∀m,∃m',m'<=n/\bk s.P m v=bk s.P m' v:=by
  intro m;induction m using Nat.strongRecOn with
  |ind m ih =>
   by_cases hm:m<=n
   ·exact⟨m,hm,rfl⟩
   ·obtain⟨m',h1,h2⟩:=ih (m-(j-i)) (by omega);refine⟨m',h1,?_⟩;rw[<-h2,show m=j+(m-j) by omega,<-per,show i+(m-j)=j+(m-j)-(j-i) by omega]
 refine⟨j-i,by omega,by omega,?_,fun k=>?_⟩
 ·rw[<-Gb,show n+(j-i)=j+(n-i) by omega,<-per,show i+(n-i)=n by omega]
 ·rw[<-Gb];obtain⟨m',h1,h2⟩:=low (n+k);rw[h2];exact aM m' h1
def BW(w:Nat->Nat->Option Rat)(P:Nat->Nat):Nat->Nat->Rat
 |0,_=>0
 |k+1,v=>(w (P v) v).getD 0+BW w P k (P v)
theorem qz3f{w:Nat->Nat->Option Rat}{n t:Nat}{s:BF}(H:BFI w n t s):∀(k v:Nat),(∀j,j<k->0<s.T (bk s.P j v))->BW w s.P k v+s.D (bk s.P k v)<=s.D v/\((∃j,j<k/\s.T (bk s.P j v)<s.T (bk s.P (j+1) v))->BW w s.P k v+s.D (bk s.P k v)<s.D v)
 |0,v,_=>⟨by show(0:Rat)+s.D v<=s.D v;grind,fun⟨j,h,_⟩=>by omega⟩
 |k+1,v,h=>by
  obtain⟨ih1,ih2⟩:=qz3f H k (s.P v) fun j hj=>h (j+1) (by omega);obtain⟨_,_,_,y,h4,h5,h6⟩:=H.j2 v (h 0 (by omega));show(w (s.P v) v).getD 0+BW w s.P k (s.P v)+s.D (bk s.P k (s.P v))<=s.D v/\(_->(w (s.P v) v).getD 0+BW w s.P k (s.P v)+s.D (bk s.P k (s.P v))<s.D v);rw[h4];show y+BW w s.P k (s.P v)+s.D (bk s.P k (s.P v))<=s.D v/\(_->y+BW w s.P k (s.P v)+s.D (bk s.P k (s.P v))<s.D v);refine⟨by grind,fun⟨j,hj,hlt⟩=>?_⟩
  match j,hj,hlt with
  |0,_,hlt=>have:=h6 hlt;grind
  |j+1,hj,hlt=>have:=ih2 ⟨j,by omega,hlt⟩;grind
theorem wzs2{w:Nat->Nat->Option Rat}{n t:Nat}{s:BF}(H:BFI w n t s){c q:Nat}(hq:0<q)(hc:bk s.P q c=c)(hT:∀k,0<s.T (bk s.P k c)):BW w s.P q c<0:=by
 have oT:∃j,j<q/\s.T (bk s.P j c)<s.T (bk s.P (j+1) c):=by
  refine Decidable.byContradiction fun hn=>?_
  have aC:∀j,j<q->s.T (bk s.P (j+1) c)<s.T (bk s.P j c):=fun j hj=>by
   have h1:¬s.T (bk s.P j c)<s.T (bk s.P (j+1) c):=fun h=>hn ⟨j,hj,h⟩;have h2:s.T (bk s.P (j+1) c)≠s.T (bk s.P j c):=fun e=>by have:=H.j3 _ _ (hT (j+1)) e;rw[Jd]at this;exact(H.j2 _ (hT j)).2.2.1 this
   omega
  have lY:∀j,j<=q->s.T (bk s.P j c)+j<=s.T c:=by
   intro j;induction j with
   |zero=>intro _;exact A8 _
   |succ j ih=>intro hj;have:=ih (by omega);have:=aC j (by omega);omega
  have:=lY q (A8 _);rw[hc]at this;omega
 have:=(qz3f H q c fun j _=>hT j).2 oT;rw[hc]at this
 grind
def mvX(x:Nat->Nat->Rat)(s a b:Nat)(m:Rat):Nat->Nat->Rat:=fun r v=>if r=s then(if v=a then x r v-m else if v=b then x r v+m else x r v) else x r v
def cycX(P:Nat->Nat)(g:Nat->Nat->Nat)(m:Rat):Nat->Nat->(Nat->Nat->Rat)->Nat->Nat->Rat
 |0,_,x=>x
 |k+1,v,x=>cycX P g m k (P v) (mvX x (g (P v) v) (P v) v m)
theorem Je{n i:Nat}(hi:i<n)(m:Rat):sm n (fun j=>if j=i then m else 0)=m:=by
 induction n with
 |zero=>omega
 |succ n ih =>
  show sm n _+(if n=i then m else 0)=m;by_cases e:n=i
  ·subst e;rw[Aj rfl,Be (g:=fun _=>0) fun j hj=>Ag (by omega),DJ];grind
  ·rw[Ag e,ih (by omega)];grind
theorem wzpe{x:Nat->Nat->Rat}{n s a b:Nat}{m:Rat}(ha:a<n)(hb:b<n)(bm:a≠b)(r:Nat):sm n (mvX x s a b m r)=sm n (x r):=by
 by_cases e:r=s
 ·have:sm n (mvX x s a b m r)=sm n (fun v=>x r v+((if v=b then m else 0)-(if v=a then m else 0))):=Be fun v _=>by
   unfold mvX;rw[Aj e];by_cases va:v=a
   ·rw[Aj va,Aj va,Ag (by omega)];grind
   ·rw[Ag va,Ag va];by_cases vb:v=b
    ·rw[Aj vb,Aj vb];grind
    ·rw[Ag vb,Ag vb];grind
  rw[this,E0,Sd,Je hb,Je ha];grind
 ·exact Be fun v _=>by unfold mvX;rw[Ag e]
theorem wzqm{x:Nat->Nat->Rat}{S s a b:Nat}{m:Rat}(hs:s<S)(bm:a≠b)(v:Nat):sm S (fun r=>mvX x s a b m r v)=sm S (fun r=>x r v)+((if v=b then m else 0)-(if v=a then m else 0)):=by
 have:sm S (fun r=>mvX x s a b m r v)=sm S (fun r=>x r v+(if r=s then((if v=b then m else 0)-(if v=a then m else 0)) else 0)):=Be fun r _=>by
  unfold mvX;by_cases e:r=s
  ·rw[Aj e,Aj e];by_cases va:v=a
   ·rw[Aj va,Aj va,Ag (by omega)];grind
   ·rw[Ag va,Ag va];by_cases vb:v=b
    ·rw[Aj vb,Aj vb];grind
    ·rw[Ag vb,Ag vb];grind
  ·rw[Ag e,Ag e];grind
 rw[this,E0,Je hs]
theorem wzkg{c x:Nat->Nat->Rat}{S n s a b:Nat}{m:Rat}(hs:s<S)(ha:a<n)(hb:b<n)(bm:a≠b):Bj S n c (mvX x s a b m)=Bj S n c x+m*(c s b-c s a):=by
 unfold Bj
 have:sm S (fun r=>sm n fun v=>c r v*mvX x s a b m r v)=sm S (fun r=>sm n (fun v=>c r v*x r v)+(if r=s then m*(c s b-c s a) else 0)):=Be fun r _=>by
  by_cases e:r=s
  ·subst e;rw[Aj rfl]
   have:sm n (fun v=>c r v*mvX x r a b m r v)=sm n (fun v=>c r v*x r v+((if v=b then m*c r b else 0)-(if v=a then m*c r a else 0))):=Be fun v _=>by
    unfold mvX;rw[Aj rfl];by_cases va:v=a
    ·subst va;rw[Aj rfl,Aj rfl,Ag bm];grind
    ·rw[Ag va,Ag va];by_cases vb:v=b
     ·subst vb;rw[Aj rfl,Aj rfl];grind
     ·rw[Ag vb,Ag vb];grind
   rw[this,E0,Sd,Je hb,Je ha];grind
  ·rw[Ag e,Be (g:=fun v=>c r v*x r v) fun v _=>by unfold mvX;rw[Ag e]];grind
 rw[this,E0,Je hs]
structure WkB(S n:Nat)(P:Nat->Nat)(g:Nat->Nat->Nat)(q c:Nat):Prop where
 ok:∀k,k<q->bk P k c<n/\bk P (k+1) c<n/\bk P (k+1) c≠bk P k c/\g (bk P (k+1) c) (bk P k c)<S
theorem WkB.tail{S n:Nat}{P:Nat->Nat}{g:Nat->Nat->Nat}{k c:Nat}(H:WkB S n P g (k+1) c):WkB S n P g k (P c):=⟨fun j hj=>H.ok (j+1) (by omega)⟩
theorem qz4g{S n:Nat}{P:Nat->Nat}{g:Nat->Nat->Nat}{m:Rat}:∀(k c:Nat) (x:Nat->Nat->Rat),WkB S n P g k c->∀r,sm n (cycX P g m k c x r)=sm n (x r)
 |0,_,_,_,_=>rfl
 |k+1,c,x,H,r=>by obtain⟨h1,h2,h3,h4⟩:=H.ok 0 (by omega);show sm n (cycX P g m k (P c) (mvX x (g (P c) c) (P c) c m) r)=_;rw[qz4g k (P c) _ H.tail r];exact wzpe h2 h1 h3 r
theorem qz0h{S n:Nat}{P:Nat->Nat}{g:Nat->Nat->Nat}{m:Rat}{co:Nat->Nat->Rat}{w:Nat->Nat->Option Rat}:∀(k c:Nat) (x:Nat->Nat->Rat),WkB S n P g k c -> (∀j,j<k->w (bk P (j+1) c) (bk P j c)=some (co (g (bk P (j+1) c) (bk P j c)) (bk P j c)-co (g (bk P (j+1) c) (bk P j c)) (bk P (j+1) c)))->Bj S n co (cycX P g m k c x)=Bj S n co x+m*BW w P k c
 |0,_,x,_,_=>by show Bj S n co x=Bj S n co x+m*0;grind
 |k+1,c,x,H,hw=>by
  obtain⟨h1,h2,h3,h4⟩:=H.ok 0 (by omega);have h0:=hw 0 (by omega);show Bj S n co (cycX P g m k (P c) (mvX x (g (P c) c) (P c) c m))=Bj S n co x+m*((w (P c) c).getD 0+BW w P k (P c));have h6:Bj S n co (mvX x (g (P c) c) (P c) c m)=Bj S n co x+m*(co (g (P c) c) c-co (g (P c) c) (P c)):=wzkg h4 h2 h1 h3;rw[qz0h k (P c) _ H.tail fun j hj=>hw (j+1) (by omega),h6];have h0:w (P c) c=some (co (g (P c) c) c-co (g (P c) c) (P c)):=h0;have h5:(w (P c) c).getD 0=co (g (P c) c) c-co (g (P c) c) (P c):=by rw[h0];rfl
  rw[h5];show Bj S n co x+m*(co (g (P c) c) c-co (g (P c) c) (P c))+m*BW w P k (P c)=_
  grind
def onB(P:Nat->Nat)(v:Nat):Nat->Nat->Rat
 |0,_=>0
 |k+1,c=>(if v=c then 1 else 0)+onB P v k (P c)
theorem qz3e(P:Nat->Nat)(v:Nat):∀k c,onB P v (k+1) c=onB P v k c+(if v=bk P k c then 1 else 0)
 |0,c=>by show(if v=c then(1:Rat) else 0)+0=0+(if v=c then 1 else 0);grind
 |k+1,c=>by show(if v=c then(1:Rat) else 0)+onB P v (k+1) (P c)=(if v=c then 1 else 0)+onB P v k (P c)+(if v=bk P k (P c) then 1 else 0);rw[qz3e P v k (P c)];grind
theorem qz0n{S n:Nat}{P:Nat->Nat}{g:Nat->Nat->Nat}{m:Rat}:∀(k c:Nat) (x:Nat->Nat->Rat),WkB S n P g k c->∀v,sm S (fun r=>cycX P g m k c x r v)=sm S (fun r=>x r v)+m*(onB P v k c-onB P v k (P c))
 |0,_,x,_,v=>by show sm S (fun r=>x r v)=sm S (fun r=>x r v)+m*(0-0);grind
 |k+1,c,x,H,v=>by obtain⟨h1,h2,h3,h4⟩:=H.ok 0 (by omega);show sm S (fun r=>cycX P g m k (P c) (mvX x (g (P c) c) (P c) c m) r v)=_;have h6:sm S (fun r=>mvX x (g (P c) c) (P c) c m r v)=sm S (fun r=>x r v)+((if v=c then m else 0)-(if v=P c then m else 0)):=wzqm h4 h3 v;rw[qz0n k (P c) _ H.tail v,h6];show sm S (fun r=>x r v)+((if v=c then m else 0)-(if v=P c then m else 0))+m*(onB P v k (P c)-onB P v k (P (P c)))=sm S (fun r=>x r v)+m*((if v=c then 1 else 0)+onB P v k (P c)-((if v=P c then 1 else 0)+onB P v k (P (P c))));split<;>split<;>grind
theorem wzkc{S n:Nat}{P:Nat->Nat}{g:Nat->Nat->Nat}{m:Rat}{q c:Nat}{x:Nat->Nat->Rat}(H:WkB S n P g q c)(hc:bk P q c=c)(v:Nat):sm S (fun r=>cycX P g m q c x r v)=sm S (fun r=>x r v):=by
 rw[qz0n q c x H v];have e1:=qz3e P v q c;have e2:onB P v (q+1) c=(if v=c then 1 else 0)+onB P v q (P c):=rfl;rw[hc]at e1;have:onB P v q c=onB P v q (P c):=by grind
 rw[this];grind
theorem qz4h{S n:Nat}{P:Nat->Nat}{g:Nat->Nat->Nat}{m:Rat}(hm:0<=m):∀(k c:Nat) (x:Nat->Nat->Rat),WkB S n P g k c->(∀i j,i<j->j<=k->0<i->bk P i c≠bk P j c)->(∀r v,r<S->v<n->0<=x r v) -> (∀j,j<k->m<=x (g (bk P (j+1) c) (bk P j c)) (bk P (j+1) c))->∀r v,r<S->v<n->0<=cycX P g m k c x r v
 |0,_,x,_,_,hx,_,r,v,hr,hv=>hx r v hr hv
 |k+1,c,x,H,hs,hx,hg,r,v,hr,hv=>by
  obtain⟨h1,h2,h3,h4⟩:=H.ok 0 (by omega);have h0:=hg 0 (by omega);refine qz4h hm k (P c) (mvX x (g (P c) c) (P c) c m) H.tail (fun i j hi hj h=>hs (i+1) (j+1) (by omega) (by omega) (by omega)) (fun r v hr hv=>?_) (fun j hj=>?_) r v hr hv
  ·unfold mvX;have:=hx r v hr hv;split
   ·rename_i e;split
    ·rename_i e2;subst e e2;have h0:m<=x (g (P c) c) (P c):=h0
     grind
    ·split<;>grind
   ·exact this
  ·have h5:=hg (j+1) (by omega);have aH:bk P (j+1) (P c)≠P c:=fun e=>hs 1 (j+1+1) (by omega) (by omega) (by omega) e.symm;have h5:m<=x (g (bk P (j+1) (P c)) (bk P j (P c))) (bk P (j+1) (P c)):=h5;unfold mvX;rw[Ag aH];split
   ·split<;>grind
   ·exact h5
theorem Jf{G:Type}{f:G->Nat->Option G}{N:Nat}(I:Nat->G->Prop)(h:∀k s,k<N->I k s->∃s',f s k=some s'/\I (k+1) s'):∀(m k:Nat) (s:G),k+m=N->I k s->∃s',forN f m k s=some s'/\I N s'
 |0,k,s,e,hi=>⟨s,rfl,by rw[<-e];exact hi⟩
 |m+1,k,s,e,hi=>by obtain⟨s1,e1,h1⟩:=h k s (by omega) hi;obtain⟨s2,e2,h2⟩:=Jf I h m (k+1) s1 (by omega) h1;exact⟨s2,by unfold forN;rw[e1];exact e2,h2⟩
structure Tsk(A n S:Nat)(co:List (List Af))(x:List (List Int)):Prop where
 n1:1<=n
 n2:n<=9
 s2:S<=1000000
 a1:1<=A
 a2:A<=5242900
 cl:co.length=S
 xl:x.length=S
 cr:∀r,r∈co->r.length=n/\∀e,e∈r->Vd e/\Sz A e
 xr:∀r,r∈x->r.length=n/\∀v,v∈r->0<=v/\v<=1402560
def cFb(co:List (List Af))(s b:Nat):Rat:=rq ((co.getD s []).getD b ⟨false,[],[]⟩)
def xI(x:List (List Int))(s b:Nat):Int:=(x.getD s []).getD b 0
def xF(x:List (List Int))(s b:Nat):Rat:=(xI x s b:Rat)
theorem AR{α:Type}{l:List α}{k:Nat}(h:k<l.length):∃x,l[k]?=some x:=⟨_,AC h⟩
theorem Tsk.co{A n S:Nat}{co:List (List Af)}{x:List (List Int)}(H:Tsk A n S co x){s b:Nat}(hs:s<S)(hb:b<n):∃r e,co[s]?=some r/\r[b]?=some e/\rq e=cFb co s b/\Sz A e:=by obtain⟨r,h1⟩:=AR (l:=co) (k:=s) (by rw[H.cl];exact hs);obtain⟨h2,h3⟩:=H.cr _ (AI h1);obtain⟨e,h4⟩:=AR (l:=r) (k:=b) (by rw[h2];exact hb);refine⟨r,e,h1,h4,?_,(h3 _ (AI h4)).2⟩;simp[cFb,List.getD,h1,h4]
theorem Tsk.x{A n S:Nat}{co:List (List Af)}{x:List (List Int)}(H:Tsk A n S co x){s b:Nat}(hs:s<S)(hb:b<n):∃r,x[s]?=some r/\r.length=n/\r[b]?=some (xI x s b)/\0<=xI x s b/\xI x s b<=1402560:=by
 obtain⟨r,h1⟩:=AR (l:=x) (k:=s) (by rw[H.xl];exact hs);obtain⟨h2,h3⟩:=H.xr _ (AI h1);obtain⟨v,h4⟩:=AR (l:=r) (k:=b) (by rw[h2];exact hb);have e:xI x s b=v:=by simp[xI,List.getD,h1,h4]
 rw[e];exact⟨r,h1,h2,h4,h3 _ (AI h4)⟩
structure MvI(A S:Nat)(co:List (List Af))(x:List (List Int))(a b k:Nat)(m:Int×Af):Prop where
 no:m.1<0->m.1 = -1/\∀s,s<k->xI x s a<=0
 yes:0<=m.1->∃s,m.1=(s:Nat)/\s<k/\0<xI x s a/\rq m.2=cFb co s b-cFb co s a/\Sz (2*A+1) m.2/\∀r,r<k->0<xI x r a->rq m.2<=cFb co r b-cFb co r a
theorem wzay{a b:Af}{n m:Nat}(ha:Sz n a)(hb:Sz m b)(n1:1<=n)(m1:1<=m)(hn:n<=8589934592)(hm:m<=8589934592):De a b=some (rof (rq a-rq b))/\Sz (n+m+1) (rof (rq a-rq b)):=Z2 ha hb n1 m1 hn hm
theorem wzt3{A n S:Nat}{co:List (List Af)}{x:List (List Int)}(H:Tsk A n S co x){a b:Nat}(ha:a<n)(hb:b<n):∃m,imM co x a b=some m/\MvI A S co x a b S m:=by
 have h1:=H.a1;have h2:=H.a2;unfold imM;rw[H.xl];refine Jf (N:=S) (fun k m=>MvI A S co x a b k m) (fun s m hs I=>?_) S 0 _ (by omega) ⟨fun _=>⟨rfl,fun s h=>by omega⟩,fun h=>by have h:(0:Int)<=-1:=h;omega⟩;obtain⟨r,cb,e1,e2,e3,e4⟩:=H.co hs hb;obtain⟨r',ca,e1',e5,e6,e7⟩:=H.co hs ha;rw[e1]at e1';cases e1';obtain⟨xr,e8,_,e9,e10,e11⟩:=H.x hs ha;obtain⟨d1,d2⟩:=wzay e4 e7 h1 h1 (by omega) (by omega);rw[e3,e6]at d1 d2
 have aM:(m.1<0\/cFb co s b-cFb co s a<rq m.2)->0<xI x s a->MvI A S co x a b (s+1) ((s:Int),rof (cFb co s b-cFb co s a)):=fun hc hx=>by
  refine⟨fun h=>by have h:(s:Int)<0:=h;omega,fun _=>⟨s,rfl,by omega,hx,Cl _,d2.mono (by omega),fun r hr ee=>?_⟩⟩;show rq (rof _)<=_;rw[Cl];by_cases er:r=s
  ·subst er;exact Rat.le_refl
  ·rcases hc with hc|hc;·have:=(I.no hc).2 r (by omega);omega
   ·by_cases h0:0<=m.1
    ·obtain⟨_,_,_,_,_,_,h⟩:=I.yes h0;have:=h r (by omega) ee
     grind
    ·have:=(I.no (by omega)).2 r (by omega);omega
 have be:(0<xI x s a->0<=m.1/\rq m.2<=cFb co s b-cFb co s a)->MvI A S co x a b (s+1) m:=fun hc=>by
  refine⟨fun h=>⟨(I.no h).1,fun r hr=>?_⟩,fun h=>?_⟩
  ·by_cases er:r=s;·subst er;exact Int.not_lt.1 fun hx=>by have:=(hc hx).1;omega
   ·exact(I.no h).2 r (by omega)
  ·obtain⟨t,q1,q2,q3,q4,q5,q6⟩:=I.yes h;refine⟨t,q1,by omega,q3,q4,q5,fun r hr ee=>?_⟩;by_cases er:r=s
   ·subst er;exact(hc ee).2
   ·exact q6 r (by omega) ee
 unfold imS;rw[at_e rfl e1,Ab,at_e rfl e2,Ab,at_e rfl e5,Ab,d1,Ab,at_e rfl e8,Ab,at_e rfl e9,Ab];by_cases hx:0<xI x s a
 ·rw[it_d hx];by_cases hm:m.1<0
  ·rw[it_d hm];exact⟨_,rfl,aM (.inl hm) hx⟩
  ·rw[it_n hm];obtain⟨_,_,_,_,_,aO,_⟩:=I.yes (by omega);rw[K6 d2 aO (by omega) (by omega) (by omega) (by omega),Ab,Cl];by_cases hq:cmpQ (cFb co s b-cFb co s a) (rq m.2)<0
   ·rw[it_d hq];exact⟨_,rfl,aM (.inr (FZ.1 hq)) hx⟩
   ·rw[it_n hq];exact⟨_,rfl,be fun _=>⟨by omega,Rat.not_lt.1 fun h=>hq (FZ.2 h)⟩⟩
 ·rw[it_n hx];exact⟨_,rfl,be fun h=>absurd h hx⟩
structure MvT(A n S:Nat)(co:List (List Af))(x:List (List Int))(mv:List (List (Int×Af))):Prop where
 ok:∀a b,a<n->b<n->∃r m,mv[a]?=some r/\r[b]?=some m/\MvI A S co x a b S m
theorem wzpw{A n S:Nat}{co:List (List Af)}{x:List (List Int)}(H:Tsk A n S co x):∃mv,imMv co x n=some mv/\MvT A n S co x mv:=by
 have row:∀a,a<n->∃r,Ii co x n a=some r/\r.length=n/\∀b,b<n->∃m,r[b]?=some m/\MvI A S co x a b S m:=fun a ha=>by
  obtain⟨r,e,h1,h2⟩:=Jf (N:=n) (f:=fun l b=>bd (imM co x a b) fun m=>some (l++[m])) (fun k l=>l.length=k/\∀b,b<k->∃m,l[b]?=some m/\MvI A S co x a b S m) (fun k l hk I=>by
   obtain⟨m,e1,e2⟩:=wzt3 H ha hk;refine⟨l++[m],by rw[e1,Ab],by simp[I.1],fun b hb=>?_⟩;by_cases eb:b=k
   ·subst eb;exact⟨m,by rw[Ge (by omega),I.1];simp,e2⟩
   ·obtain⟨m',q1,q2⟩:=I.2 b (by omega);exact⟨m',by rw[Fu (by omega)];exact q1,q2⟩) n 0 [] (by omega) ⟨rfl,fun b h=>by omega⟩
  exact⟨r,e,h1,h2⟩
 obtain⟨mv,e,h1,h2⟩:=Jf (N:=n) (f:=fun l a=>bd (Ii co x n a) fun r=>some (l++[r])) (fun k l=>l.length=k/\∀a,a<k->∃r,l[a]?=some r/\∀b,b<n->∃m,r[b]?=some m/\MvI A S co x a b S m) (fun k l hk I=>by
  obtain⟨r,e1,_,e2⟩:=row k hk;refine⟨l++[r],by rw[e1,Ab],by simp[I.1],fun a ha=>?_⟩;by_cases ea:a=k
  ·subst ea;exact⟨r,by rw[Ge (by omega),I.1];simp,e2⟩
  ·obtain⟨r',q1,q2⟩:=I.2 a (by omega);exact⟨r',by rw[Fu (by omega)];exact q1,q2⟩) n 0 [] (by omega) ⟨rfl,fun a h=>by omega⟩
 refine⟨mv,e,⟨fun a b ha hb=>?_⟩⟩;obtain⟨r,q1,q2⟩:=h2 a ha;obtain⟨m,q3,q4⟩:=q2 b hb;exact⟨r,m,q1,q3,q4⟩
def wF(mv:List (List (Int×Af)))(a b:Nat):Option Rat:=match mv[a]? with
 |none=>none
 |some r=>match r[b]? with
  |none=>none
  |some m=>if 0<=m.1 then some (rq m.2) else none
theorem Sf{mv:List (List (Int×Af))}{a b:Nat}{r:List (Int×Af)}{m:Int×Af}(h1:mv[a]?=some r)(h2:r[b]?=some m):wF mv a b=if 0<=m.1 then some (rq m.2) else none:=by unfold wF;rw[h1];simp only;rw[h2]
def dF(d:List Af)(v:Nat):Rat:=rq (d.getD v ⟨false,[],[]⟩)
def fF(f:List Int)(v:Nat):Nat:=(f.getD v 0).toNat
theorem wzty{d:List Af}{b:Nat}(hb:b<d.length)(e:Af):dF (d.set b e)=updN (dF d) b (rq e):=by
 funext v;unfold dF updN;by_cases h:v=b
 ·subst h;simp[List.getD,hb]
 ·rw[Ag h];simp[List.getD,DK,Ne.symm h]
theorem wzt8{f:List Int}{b a:Nat}(hb:b<f.length):fF (f.set b (a:Int))=updN (fF f) b a:=by
 funext v;unfold fF updN;by_cases h:v=b
 ·subst h;simp[List.getD,hb]
 ·rw[Ag h];simp[List.getD,DK,Ne.symm h]
structure PsI(w:Nat->Nat->Option Rat)(n B t p:Nat)(s:List Af×List Int×Int):Prop where
 dl:s.1.length=n
 fl:s.2.1.length=n
 dz:∀e,e∈s.1->Sz (1+t*(B+1)) e
 fr:∀v,v<n->∃i:Nat,s.2.1[v]?=some (i:Int)/\i<n
 bf:∃T,BFI w n t ⟨dF s.1,fF s.2.1,T⟩/\((s.2.2 = -1/\∀v,T v<=p*(n*n))\/∃c:Nat,s.2.2=(c:Int)/\c<n/\p*(n*n)<T c)
theorem wzqn{w:Nat->Nat->Option Rat}{t a b:Nat}{s:BF}{y:Rat}(e:w a b=some y)(bm:a≠b)(h:s.D a+y<s.D b):rlx w t a b s=⟨updN s.D b (s.D a+y),updN s.P b a,updN s.T b (t+1)⟩:=by unfold rlx;rw[e];simp only;rw[Aj ⟨bm,h⟩]
theorem wztt{w:Nat->Nat->Option Rat}{t a b:Nat}{s:BF}(h:∀y,w a b=some y->¬(a≠b/\s.D a+y<s.D b)):rlx w t a b s=s:=by
 unfold rlx;cases e:w a b with
 |none=>rfl
 |some y=>simp only;rw[Ag (h y e)]
theorem wztk{A n S t p:Nat}{co:List (List Af)}{x:List (List Int)}{mv:List (List (Int×Af))}(H:Tsk A n S co x)(M:MvT A n S co x mv){a b:Nat}(ha:a<n)(hb:b<n)(ht:t=p*(n*n)+(a*n+b))(hp:p<=n){s:List Af×List Int×Int}(I:PsI (wF mv) n (2*A+1) t p s) : ∃s',imE mv a s b=some s'/\PsI (wF mv) n (2*A+1) (t+1) p s':=by
 obtain⟨r,m,e1,e2,I1⟩:=M.ok a b ha hb;have hw:=Sf e1 e2;have hA:=H.a2;have hn:=H.n2
 have bt:a*n+b<n*n:=by
  have:a*n+n<=n*n:=by rw[<-BY];exact Bd _ (by omega)
  omega
 have lZ:t%(n*n)=a*n+b:=by rw[ht,Bb p,NX,C2 bt]
 have pO:t<810:=by have h1:n*n<=9*9:=Nat.mul_le_mul hn hn;have h2:p*(n*n)<=9*81:=Nat.mul_le_mul (by omega) h1;omega
 have hB:1+t*(2*A+1+1)<=8589934592:=by have:t*(2*A+1+1)<=809*(2*A+1+1):=Bd _ (by omega);omega
 have oU:1+t*(2*A+1+1)+(2*A+1)+1<=8589934592:=by have:t*(2*A+1+1)<=809*(2*A+1+1):=Bd _ (by omega);omega
 obtain⟨T,H1,H2⟩:=I.bf;have H3:=wzq9 H1 ha hb lZ;have pP:(t+1)*(2*A+1+1)=t*(2*A+1+1)+(2*A+1+1):=BY t _;have aO:∀e,e∈s.1->Sz (1+(t+1)*(2*A+1+1)) e:=fun e he=>(I.dz e he).mono (by omega);have keep:(∀y,wF mv a b=some y->¬(a≠b/\dF s.1 a+y<dF s.1 b))->PsI (wF mv) n (2*A+1) (t+1) p s:=fun h=>by rw[wztt h]at H3;exact⟨I.dl,I.fl,aO,I.fr,T,H3,H2⟩
 unfold imE;rw[at_e rfl e1,Ab,at_e rfl e2,Ab];by_cases hc:¬a=b/\0<=m.1
 ·have bm:¬(a:Int)=(b:Int):=by omega
  rw[Aj hc.2]at hw;obtain⟨da,f1⟩:=AR (l:=s.1) (k:=a) (by rw[I.dl];exact ha);obtain⟨db,f2⟩:=AR (l:=s.1) (k:=b) (by rw[I.dl];exact hb);have g1:dF s.1 a=rq da:=by simp[dF,List.getD,f1]
  have g2:dF s.1 b=rq db:=by simp[dF,List.getD,f2]
  obtain⟨_,_,_,_,_,mz,_⟩:=I1.yes hc.2;obtain⟨a1,a2⟩:=K4 (I.dz da (AI f1)) mz (by omega) (by omega) hB (by omega);rw[AA bm,AD hc.2,it_t (c:=bif !false then true else false) rfl,at_e rfl f1,Ab,a1,Ab,at_e rfl f2,Ab];rw[K6 a2 (I.dz db (AI f2)) (by omega) (by omega) oU hB,Ab,Cl];by_cases hq:cmpQ (rq da+rq m.2) (rq db)<0
  ·rw[it_d hq];have hlt:dF s.1 a+rq m.2<dF s.1 b:=by rw[g1,g2];exact FZ.1 hq
   rw[wzqn hw hc.1 hlt]at H3;refine⟨_,rfl,⟨by simp[I.dl],by simp[I.fl],fun e he=>?_,fun v hv=>?_,updN T b (t+1),?_,.inr ⟨b,rfl,hb,by rw[C0];omega⟩⟩⟩
   ·rcases List.mem_or_eq_of_mem_set he with he|rfl;·exact aO e he
    ·exact a2.mono (by omega)
   ·by_cases oW:v=b;·exact⟨a,by rw[oW];simp[I.fl,hb],ha⟩
    ·obtain⟨i,h1,h2⟩:=I.fr v hv;exact⟨i,by rw[List.getElem?_set_ne (by omega)];exact h1,h2⟩
   ·show BFI (wF mv) n (t+1) ⟨dF (s.1.set b (rof (rq da+rq m.2))),fF (s.2.1.set b (a:Int)),updN T b (t+1)⟩;rw[wzty (by rw[I.dl];exact hb),wzt8 (by rw[I.fl];exact hb),Cl,<-g1];exact H3
  ·rw[it_n hq];refine⟨s,rfl,keep fun y hy h=>?_⟩;rw[hw]at hy;cases hy;rw[g1,g2]at h;exact hq (FZ.2 h.2)
 ·refine⟨s,?_,keep fun y hy h=>?_⟩
  ·rw[it_f (by
    by_cases h:a=b
    ·subst h;simp
    ·have:¬0<=m.1:=fun k=>hc ⟨h,k⟩;simp[this])]
  ·rw[hw]at hy;by_cases h0:0<=m.1
   ·exact hc ⟨h.1,h0⟩
   ·rw[Ag h0]at hy;cases hy
theorem wzhx{A n S p:Nat}{co:List (List Af)}{x:List (List Int)}{mv:List (List (Int×Af))}(H:Tsk A n S co x)(M:MvT A n S co x mv)(hp:p<=n){d:List Af}{f:List Int}(I:PsI (wF mv) n (2*A+1) (p*(n*n)) p (d,f,-1)) : ∃s',JR mv n d f=some s'/\PsI (wF mv) n (2*A+1) ((p+1)*(n*n)) p s':=by have:=Jf (N:=n) (f:=fun s a=>forN (imE mv a) n 0 s) (fun a s=>PsI (wF mv) n (2*A+1) (p*(n*n)+a*n) p s) (fun a s ha I=>by have:=Jf (N:=n) (f:=imE mv a) (fun b s=>PsI (wF mv) n (2*A+1) (p*(n*n)+(a*n+b)) p s) (fun b s hb I=>wztk H M ha hb rfl hp I) n 0 s (by omega) I;obtain⟨s',e,h⟩:=this;exact⟨s',e,by rw[show p*(n*n)+(a+1)*n=p*(n*n)+(a*n+n) by rw[BY]];exact h⟩) n 0 (d,f,-1) (by omega) (by rw[Nat.zero_mul,Gg];exact I);obtain⟨s',e,h⟩:=this;exact⟨s',e,by rw[BY p (n*n)];exact h⟩
inductive PsO(w:Nat->Nat->Option Rat)(n:Nat):Option (List Int×Int)->Prop where
 |pot (D:Nat->Rat) (h:∀a b y,a<n->b<n->a≠b->w a b=some y->D b<=D a+y):PsO w n none
 |cyc (f:List Int) (c:Nat) (D:Nat->Rat) (T:Nat->Nat) (fl:f.length=n) (fr:∀v,v<n->∃i:Nat,f[v]?=some (i:Int)/\i<n) (hB:BFI w n ((n+1)*(n*n)) ⟨D,fF f,T⟩) (hc:c<n) (hT:n*(n*n)<T c):PsO w n (some (f,(c:Int)))
theorem qz9s{A n S:Nat}{co:List (List Af)}{x:List (List Int)}{mv:List (List (Int×Af))}(H:Tsk A n S co x)(M:MvT A n S co x mv):∀(k p:Nat) (d:List Af) (f:List Int) (c:Int),p+k=n+1->PsI (wF mv) n (2*A+1) (p*(n*n)) (p-1) (d,f,c)->(k=0->0<=c) -> ∃o,imPs mv n k d f c=some o/\PsO (wF mv) n o
 |0,p,d,f,c,hp,I,hc=>by
  obtain rfl:p=n+1:=by omega
  obtain⟨T,H1,H2⟩:=I.bf;have hc:=hc rfl;rcases H2 with ⟨h,_⟩|⟨v,h1,h2,h3⟩
  ·have h:c = -1:=h;omega
  ·have h1:c=(v:Int):=h1;subst h1;exact⟨_,rfl,.cyc f v _ T I.fl I.fr H1 h2 h3⟩
 |k+1,p,d,f,c,hp,I,_=>by
  obtain⟨T,H1,_⟩:=I.bf;obtain⟨s,e,I2⟩:=wzhx H M (p:=p) (by omega) (d:=d) (f:=f) ⟨I.dl,I.fl,I.dz,I.fr,T,H1,.inl ⟨rfl,H1.j1⟩⟩;unfold imPs;rw[e,Ab];by_cases hs:s.2.2<0
  ·rw[it_d hs];obtain⟨T2,H3,H4⟩:=I2.bf;rcases H4 with ⟨_,h⟩|⟨v,h1,_⟩
   ·exact⟨_,rfl,.pot _ (wzrz H3 h)⟩
   ·omega
  ·rw[it_n hs];exact qz9s H M k (p+1) s.1 s.2.1 s.2.2 (by omega) I2 (fun _=>by omega)
theorem wzby{A n S:Nat}{co:List (List Af)}{x:List (List Int)}{mv:List (List (Int×Af))}(H:Tsk A n S co x)(M:MvT A n S co x mv){f:List Int}(fl:f.length=n)(fr:∀v,v<n->∃i:Nat,f[v]?=some (i:Int)/\i<n) : ∃o,imPs mv n (n+1) (List.replicate n ⟨false,[],[]⟩) f (-1)=some o/\PsO (wF mv) n o:=by
 refine qz9s H M (n+1) 0 _ f (-1) (by omega) ⟨by simp,fl,fun e he=>?_,fr,fun _=>0,?_,.inl ⟨rfl,fun _=>B3 _⟩⟩ (fun h=>by omega)
 ·rw[(List.mem_replicate.1 he).2];exact Sz.zero _
 ·rw[Nat.zero_mul]
  have:dF (List.replicate n ⟨false,[],[]⟩)=fun _=>0:=by
   funext v;unfold dF;have:(List.replicate n (⟨false,[],[]⟩:Af)).getD v ⟨false,[],[]⟩=⟨false,[],[]⟩:=by simp[List.getD,Gbk];split<;>rfl
   rw[this,<-Dl,Cl]
  show BFI (wF mv) n 0 ⟨dF (List.replicate n ⟨false,[],[]⟩),fF f,fun _=>0⟩;rw[this];exact wzqo _ _ _
def gS(mv:List (List (Int×Af)))(a b:Nat):Nat:=((mv.getD a []).getD b (0,⟨false,[],[]⟩)).1.toNat
theorem E1{f:List Int}{n:Nat}(fr:∀v,v<n->∃i:Nat,f[v]?=some (i:Int)/\i<n):∀(m v:Nat),v<n->bk (fF f) m v<n
 |0,_,h=>h
 |m+1,v,h=>by
  obtain⟨i,h1,h2⟩:=fr v h;have:fF f v=i:=by simp[fF,List.getD,h1]
  show bk (fF f) m (fF f v)<n;rw[this];exact E1 fr m i h2
theorem wzl8{f:List Int}{n:Nat}(fr:∀v,v<n->∃i:Nat,f[v]?=some (i:Int)/\i<n){v:Nat}(h:v<n):f[v]?=some (fF f v:Int)/\fF f v<n:=by
 obtain⟨i,h1,h2⟩:=fr v h;have:fF f v=i:=by simp[fF,List.getD,h1]
 rw[this];exact⟨h1,h2⟩
theorem qz8w{f:List Int}{n:Nat}(fr:∀v,v<n->∃i:Nat,f[v]?=some (i:Int)/\i<n):∀(m k v:Nat),v<n->forN (fun(at0:Int) (_:Nat)=>at? f at0) m k (v:Int)=some ((bk (fF f) m v:Nat):Int)
 |0,_,_,_=>rfl
 |m+1,k,v,h=>by obtain⟨h1,h2⟩:=wzl8 fr h;unfold forN;rw[at_e rfl h1,Ab];exact qz8w fr m (k+1) _ h2
theorem wzei{P:Nat->Nat}{c:Nat}:∀q,0<q->bk P q c=c->∃r,0<r/\r<=q/\bk P r c=c/\∀k,0<k->k<r->bk P k c≠c:=by
 intro q;induction q using Nat.strongRecOn with
 |ind q ih =>
  intro h0 h1;by_cases h:∃k,0<k/\k<q/\bk P k c=c
  ·obtain⟨k,k1,k2,k3⟩:=h;obtain⟨r,r1,r2,r3,r4⟩:=ih k k2 k1 k3;exact⟨r,r1,by omega,r3,r4⟩
  ·exact⟨q,h0,A8 _,h1,fun k k1 k2 k3=>h ⟨k,k1,k2,k3⟩⟩
structure Cyc(n:Nat)(mv:List (List (Int×Af)))(f:List Int)(z q:Nat):Prop where
 fr:∀v,v<n->∃i:Nat,f[v]?=some (i:Int)/\i<n
 fl:f.length=n
 zn:z<n
 q0:0<q
 q1:q<=n
 per:bk (fF f) q z=z
 min:∀k,0<k->k<q->bk (fF f) k z≠z
 use:∀k,fF f (bk (fF f) k z)≠bk (fF f) k z/\∃y,wF mv (fF f (bk (fF f) k z)) (bk (fF f) k z)=some y
 neg:BW (wF mv) (fF f) q z<0
theorem wzs6{n:Nat}{mv:List (List (Int×Af))}{f:List Int}{c:Nat}{D:Nat->Rat}{T:Nat->Nat}(fl:f.length=n)(fr:∀v,v<n->∃i:Nat,f[v]?=some (i:Int)/\i<n)(hB:BFI (wF mv) n ((n+1)*(n*n)) ⟨D,fF f,T⟩)(hc:c<n)(hT:n*(n*n)<T c):∃q,Cyc n mv f (bk (fF f) n c) q:=by obtain⟨q,h1,h2,h3,h4⟩:=wzjt hB hT;obtain⟨r,r1,r2,r3,r4⟩:=wzei q h1 h3;refine⟨r,fr,fl,E1 fr n c hc,r1,by omega,r3,r4,fun k=>?_,wzs2 hB r1 r3 h4⟩;obtain⟨_,_,q3,y,q4,_⟩:=hB.j2 _ (h4 k);exact⟨q3,y,q4⟩
theorem Cyc.dist{n:Nat}{mv:List (List (Int×Af))}{f:List Int}{z q:Nat}(C:Cyc n mv f z q):∀i j,i<j->j<=q->0<i->bk (fF f) i z≠bk (fF f) j z:=fun i j iy hj hi e=>by
 by_cases hq:j=q
 ·rw[hq,C.per]at e;exact C.min i hi (by omega) e
 ·have:bk (fF f) (i+(q-j)) z=z:=by
   rw[Gb,e,<-Gb,show j+(q-j)=q by omega,C.per]
  exact C.min _ (by omega) (by omega) this
theorem Cyc.g{A n S:Nat}{co:List (List Af)}{x:List (List Int)}{mv:List (List (Int×Af))}{f:List Int}{z q:Nat}(H:Tsk A n S co x)(M:MvT A n S co x mv)(C:Cyc n mv f z q)(k:Nat) :
  imG mv f (bk (fF f) k z:Int)=some ((bk (fF f) (k+1) z:Int),(gS mv (bk (fF f) (k+1) z) (bk (fF f) k z):Int))/\gS mv (bk (fF f) (k+1) z) (bk (fF f) k z)<S/\0<xI x (gS mv (bk (fF f) (k+1) z) (bk (fF f) k z)) (bk (fF f) (k+1) z) /\
  wF mv (bk (fF f) (k+1) z) (bk (fF f) k z)=some (cFb co (gS mv (bk (fF f) (k+1) z) (bk (fF f) k z)) (bk (fF f) k z)-cFb co (gS mv (bk (fF f) (k+1) z) (bk (fF f) k z)) (bk (fF f) (k+1) z)):=by
 have hb:=E1 C.fr k z C.zn;obtain⟨h1,h2⟩:=wzl8 C.fr hb;obtain⟨u1,y,u2⟩:=C.use k;rw[Jd];obtain⟨r,m,e1,e2,I⟩:=M.ok _ _ h2 hb;have hw:=Sf e1 e2;have hg:gS mv (fF f (bk (fF f) k z)) (bk (fF f) k z)=m.1.toNat:=by simp[gS,List.getD,e1,e2]
 have h0:0<=m.1:=by
  by_cases h:0<=m.1
  ·exact h
  ·rw[hw,Ag h]at u2;cases u2
 obtain⟨s,s1,s2,s3,s4,_⟩:=I.yes h0;rw[hg,s1,B2];refine⟨?_,s2,s3,by rw[hw,Aj h0,s4]⟩;unfold imG;rw[at_e rfl h1,Ab,at_e rfl e1,Ab,at_e rfl e2,Ab,s1]
def mmF(mv:List (List (Int×Af)))(x:List (List Int))(P:Nat->Nat)(z:Nat):Nat->Int
 |0=>1402560
 |k+1=>min (mmF mv x P z k) (xI x (gS mv (bk P (k+1) z) (bk P k z)) (bk P (k+1) z))
theorem wze7{A n S:Nat}{co:List (List Af)}{x:List (List Int)}{mv:List (List (Int×Af))}{f:List Int}{z q:Nat}(H:Tsk A n S co x)(M:MvT A n S co x mv)(C:Cyc n mv f z q):∀k,1<=mmF mv x (fF f) z k/\mmF mv x (fF f) z k<=1402560/\∀j,j<k->mmF mv x (fF f) z k<=xI x (gS mv (bk (fF f) (j+1) z) (bk (fF f) j z)) (bk (fF f) (j+1) z)
 |0=>⟨by show(1:Int)<=1402560;omega,Jj _,fun j h=>by omega⟩
 |k+1=>by
  obtain⟨h1,h2,h3⟩:=wze7 H M C k;obtain⟨_,_,g3,_⟩:=C.g H M k;show 1<=min _ _/\min _ _<=1402560/\∀j,j<k+1->min _ _<=_;refine⟨by omega,by omega,fun j hj=>?_⟩;by_cases e:j=k
  ·subst e;exact Int.min_le_right ..
  ·exact Int.le_trans (Int.min_le_left ..) (h3 j (by omega))
theorem Cyc.cond{n:Nat}{mv:List (List (Int×Af))}{f:List Int}{z q:Nat}(C:Cyc n mv f z q){k:Nat}(hk:k<q):(bif !decide (0<k) then true else !decide ((bk (fF f) k z:Int)=(z:Int)))=true:=by
 by_cases h:0<k
 ·have:¬(bk (fF f) k z:Int)=(z:Int):=fun e=>C.min k h hk (by omega);simp[h,this]
 ·simp[h]
theorem Cyc.last{n:Nat}{mv:List (List (Int×Af))}{f:List Int}{z q:Nat}(C:Cyc n mv f z q):(bif !decide (0<q) then true else !decide ((bk (fF f) q z:Int)=(z:Int)))=false:=by rw[C.per];simp[C.q0]
theorem wzdy{A n S:Nat}{co:List (List Af)}{x:List (List Int)}{mv:List (List (Int×Af))}{f:List Int}{z q:Nat}(H:Tsk A n S co x)(M:MvT A n S co x mv)(C:Cyc n mv f z q) :
  lp (Ea mv x f (z:Int)) ((z:Int),false,1402560)=some (mmF mv x (fF f) z q):=by
 have hq:=C.q1;have hn:=H.n2;refine NC (fun k=>((bk (fF f) k z:Int),decide (0<k),mmF mv x (fF f) z k)) q (by omega) (fun k hk=>?_) ?_ rfl
 ·obtain⟨g1,g2,g3,_⟩:=C.g H M k;obtain⟨xr,e8,_,e9,_⟩:=H.x g2 (E1 C.fr (k+1) z C.zn);simp only[Ea];rw[it_t (C.cond hk),g1,Ab,at_e rfl e8,Ab,at_e rfl e9,Ab];rfl
 ·simp only[Ea];rw[it_f C.last]
def ptF(mv:List (List (Int×Af)))(P:Nat->Nat)(z:Nat)(m:Int)(x:List (List Int)):Nat->List (List Int)
 |0=>x
 |k+1=>(ptF mv P z m x k).set (gS mv (bk P (k+1) z) (bk P k z)) ((((ptF mv P z m x k).getD (gS mv (bk P (k+1) z) (bk P k z)) []).set (bk P (k+1) z) (xI (ptF mv P z m x k) (gS mv (bk P (k+1) z) (bk P k z)) (bk P (k+1) z)-m)).set (bk P k z) (xI (ptF mv P z m x k) (gS mv (bk P (k+1) z) (bk P k z)) (bk P k z)+m))
theorem qz1d(P:Nat->Nat)(g:Nat->Nat->Nat)(m:Rat):∀(k c:Nat) (x:Nat->Nat->Rat),cycX P g m (k+1) c x=mvX (cycX P g m k c x) (g (bk P (k+1) c) (bk P k c)) (bk P (k+1) c) (bk P k c) m
 |0,_,_=>rfl
 |k+1,c,x=>qz1d P g m k (P c) _
theorem wzsr{x:List (List Int)}{s a b n:Nat}(hs:s<x.length)(hn:(x.getD s []).length=n)(ha:a<n)(hb:b<n)(bm:a≠b)(u v:Int)(r t:Nat):xI (x.set s (((x.getD s []).set a u).set b v)) r t=if r=s then(if t=a then u else if t=b then v else xI x r t) else xI x r t:=by
 unfold xI;by_cases e:r=s
 ·subst e;rw[Aj rfl];have e1:(x.set r (((x.getD r []).set a u).set b v)).getD r []=((x.getD r []).set a u).set b v:=by simp[List.getD,hs]
  rw[e1];generalize x.getD r []=l at *;by_cases ta:t=a
  ·subst ta;rw[Aj rfl];simp[List.getD,DK,Ne.symm bm,hn,ha]
  ·rw[Ag ta];by_cases tb:t=b
   ·subst tb;rw[Aj rfl];simp[List.getD,DK,hn,hb]
   ·rw[Ag tb];simp[List.getD,DK,Ne.symm ta,Ne.symm tb]
 ·rw[Ag e];have:(x.set s (((x.getD s []).set a u).set b v)).getD r []=x.getD r []:=by simp[List.getD,DK,Ne.symm e]
  rw[this]
structure PtI(n S:Nat)(x y:List (List Int))(B:Int):Prop where
 len:y.length=S
 row:∀s,s<S->(y.getD s []).length=n
 bd:∀s b,s<S->b<n->-B<=xI y s b/\xI y s b<=B
theorem Sg{A n S:Nat}{co:List (List Af)}{x:List (List Int)}{mv:List (List (Int×Af))}{f:List Int}{z q:Nat}(H:Tsk A n S co x)(M:MvT A n S co x mv)(C:Cyc n mv f z q){m:Int}(m1:1<=m)(m2:m<=1402560):∀k,PtI n S x (ptF mv (fF f) z m x k) (((k:Int)+1)*1402560)/\xF (ptF mv (fF f) z m x k)=cycX (fF f) (gS mv) (m:Rat) k z (xF x)
 |0=>⟨⟨H.xl,fun s hs=>by
   obtain⟨r,h1,h2,_⟩:=H.x hs (show 0<n by have:=H.n1;omega);show(x.getD s []).length=n;simp[List.getD,h1,h2],fun s b hs hb=>by
   obtain⟨_,_,_,_,h1,h2⟩:=H.x hs hb;show -((((0:Nat):Int)+1)*1402560)<=xI x s b/\xI x s b<=(((0:Nat):Int)+1)*1402560;omega⟩,rfl⟩
 |k+1=>by
  obtain⟨⟨h1,h2,h3⟩,h4⟩:=Sg H M C m1 m2 k;obtain⟨_,g2,_,_⟩:=C.g H M k;have ha:=E1 C.fr (k+1) z C.zn;have hb:=E1 C.fr k z C.zn;have bm:bk (fF f) (k+1) z≠bk (fF f) k z:=by rw[Jd];exact(C.use k).1
  have key:=wzsr (x:=ptF mv (fF f) z m x k) (by rw[h1];exact g2) (h2 _ g2) ha hb bm (xI (ptF mv (fF f) z m x k) (gS mv (bk (fF f) (k+1) z) (bk (fF f) k z)) (bk (fF f) (k+1) z)-m) (xI (ptF mv (fF f) z m x k) (gS mv (bk (fF f) (k+1) z) (bk (fF f) k z)) (bk (fF f) k z)+m);refine⟨⟨?_,fun s hs=>?_,fun s b hs bg=>?_⟩,?_⟩
  ·show(List.set _ _ _).length=S;rw[J0];exact h1
  ·show((List.set _ _ _).getD s []).length=n;by_cases e:s=gS mv (bk (fF f) (k+1) z) (bk (fF f) k z)
   ·rw[e];simp only[List.getD,DK,h1,g2,AZ,Le,J0];exact h2 _ g2
   ·simp only[List.getD,DK,Ne.symm e,C9];exact h2 s hs
  ·have b1:=h3 s b hs bg;show -((((k+1:Nat):Int)+1)*1402560)<=xI (List.set _ _ _) s b/\xI (List.set _ _ _) s b<=(((k+1:Nat):Int)+1)*1402560;rw[key];split
   ·rename_i e;subst e;split
    ·rename_i e;subst e;omega
    ·split;·rename_i e;subst e;omega
     ·omega
   ·omega
  ·rw[qz1d,<-h4];funext r t;show((xI (List.set _ _ _) r t:Int):Rat)=mvX _ _ _ _ _ r t;rw[key];unfold mvX xF;split
   ·rename_i e;subst e;split
    ·rename_i e;subst e;rw[Rat.intCast_sub]
    ·split;·rename_i e;subst e;rw[Rat.intCast_add]
     ·rfl
   ·rfl
theorem wzkn{A n S:Nat}{co:List (List Af)}{x:List (List Int)}{mv:List (List (Int×Af))}{f:List Int}{z q:Nat}(H:Tsk A n S co x)(M:MvT A n S co x mv)(C:Cyc n mv f z q){m:Int}(m1:1<=m)(m2:m<=1402560) :
  lp (Eb mv f (z:Int) m) ((z:Int),false,x)=some (ptF mv (fF f) z m x q):=by
 have hq:=C.q1;have hn:=H.n2;refine NC (fun k=>((bk (fF f) k z:Int),decide (0<k),ptF mv (fF f) z m x k)) q (by omega) (fun k hk=>?_) ?_ rfl
 ·obtain⟨g1,g2,g3,_⟩:=C.g H M k;obtain⟨⟨h1,h2,h3⟩,h4⟩:=Sg H M C m1 m2 k;have ha:=E1 C.fr (k+1) z C.zn;have hb:=E1 C.fr k z C.zn;have bm:bk (fF f) (k+1) z≠bk (fF f) k z:=by rw[Jd];exact(C.use k).1
  have r1:=h3 _ _ g2 ha;have r2:=h3 _ _ g2 hb;have aF:=h2 _ g2;obtain⟨row,e1⟩:=AR (l:=ptF mv (fF f) z m x k) (k:=gS mv (bk (fF f) (k+1) z) (bk (fF f) k z)) (by rw[h1];exact g2);have e2:(ptF mv (fF f) z m x k).getD (gS mv (bk (fF f) (k+1) z) (bk (fF f) k z)) []=row:=by simp[List.getD,e1]
  rw[e2]at aF;have e3:∀b,b<n->row[b]?=some (xI (ptF mv (fF f) z m x k) (gS mv (bk (fF f) (k+1) z) (bk (fF f) k z)) b):=fun b hb=>by obtain⟨v,hv⟩:=AR (l:=row) (k:=b) (by omega);rw[hv];unfold xI;rw[e2];simp[List.getD,hv]
  simp only[Eb];rw[it_t (C.cond hk),g1,Ab];simp only;rw[at_e rfl e1,Ab,at_e rfl (e3 _ ha),Ab,A7 (by omega),at_e (n:=bk (fF f) k z) (x:=xI (ptF mv (fF f) z m x k) (gS mv (bk (fF f) (k+1) z) (bk (fF f) k z)) (bk (fF f) k z)) rfl (by rw[B2,List.getElem?_set_ne bm];exact e3 _ hb),Ab,A7 (by omega)];rw[B2,B2,B2];show _=some (Sum.inl ((bk (fF f) (k+1) z:Int),true,ptF mv (fF f) z m x (k+1)));rw[show ptF mv (fF f) z m x (k+1)=(ptF mv (fF f) z m x k).set (gS mv (bk (fF f) (k+1) z) (bk (fF f) k z)) ((row.set (bk (fF f) (k+1) z) (xI (ptF mv (fF f) z m x k) (gS mv (bk (fF f) (k+1) z) (bk (fF f) k z)) (bk (fF f) (k+1) z)-m)).set (bk (fF f) k z) (xI (ptF mv (fF f) z m x k) (gS mv (bk (fF f) (k+1) z) (bk (fF f) k z)) (bk (fF f) k z)+m)) by rw[<-e2];rfl]
 ·simp only[Eb];rw[it_f C.last]
theorem wznu{f:Nat->Rat}:∀{n:Nat},(∀i,i<n->0<=f i)->∀i,i<n->f i<=sm n f
 |0,_,i,hi=>by omega
 |n+1,h,i,hi=>by
  have h1:0<=sm n f:=by
   have:=Hu (f:=fun _=>0) (g:=f) (n:=n) fun i hi=>h i (by omega)
   rwa [DJ]at this
  have h2:=h n (by omega);show f i<=sm n f+f n;by_cases e:i=n
  ·subst e;grind
  ·have:=wznu (n:=n) (fun i hi=>h i (by omega)) i (by omega)
   grind
def Pot(n S:Nat)(co:List (List Af))(x:List (List Int))(D:Nat->Rat):Prop:=∀s a b,s<S->a<n->b<n->0<xF x s a->cFb co s a-D a<=cFb co s b-D b
structure E2(n S:Nat)(x y:List (List Int)):Prop where
 row:∀s,s<S->sm n (xF x s)=sm n (xF y s)
 col:∀b,b<n->sm S (fun s=>xF x s b)=sm S (fun s=>xF y s b)
theorem E2.refl{n S:Nat}(x:List (List Int)):E2 n S x x:=⟨fun _ _=>rfl,fun _ _=>rfl⟩
theorem E2.trans{n S:Nat}{x y z:List (List Int)}(h:E2 n S x y)(k:E2 n S y z):E2 n S x z:=⟨fun s hs=>(h.row s hs).trans (k.row s hs),fun b hb=>(h.col b hb).trans (k.col b hb)⟩
def FrV(n:Nat)(f:List Int):Prop:=f.length=n/\∀v,v<n->∃i:Nat,f[v]?=some (i:Int)/\i<n
theorem qz9k{A n S:Nat}{co:List (List Af)}{x:List (List Int)}(H:Tsk A n S co x):∀s b,s<S->b<n->0<=xF x s b:=fun s b hs hb=>by obtain⟨_,_,_,_,h,_⟩:=H.x hs hb;exact Rat.intCast_nonneg.2 h
theorem wzav{A n S:Nat}{co:List (List Af)}{x:List (List Int)}{f:List Int}(H:Tsk A n S co x)(hR:∀s,s<S->sm n (xF x s)<=1402560)(F:FrV n f) : (GE co n (x,f)=some (.inr x)/\∃D,Pot n S co x D)\/∃x' f',GE co n (x,f)=some (.inl (x',f'))/\Tsk A n S co x'/\E2 n S x' x/\FrV n f'/\Bj S n (cFb co) (xF x')<Bj S n (cFb co) (xF x):=by
 obtain⟨mv,e1,M⟩:=wzpw H;obtain⟨o,e2,O⟩:=wzby H M F.1 F.2;unfold GE;simp only;rw[e1,Ab,e2,Ab];cases O with
 |pot D h =>
  refine .inl ⟨rfl,D,fun s a b hs ha hb hx=>?_⟩;by_cases bm:a=b
  ·subst bm;exact Rat.le_refl
  ·obtain⟨r,m,q1,q2,I⟩:=M.ok a b ha hb;have hx:0<xI x s a:=Rat.intCast_pos.1 hx;have hm:0<=m.1:=Int.not_lt.1 fun k=>by have:=(I.no k).2 s hs;omega
   obtain⟨_,_,_,_,_,_,h6⟩:=I.yes hm;have h7:=h6 s hs hx;have h8:=h a b (rq m.2) ha hb bm (by rw[Sf q1 q2,Aj hm])
   grind
 |cyc f c D T fl fr hB hc hT =>
  obtain⟨q,C⟩:=wzs6 fl fr hB hc hT;have hz:=C.zn;simp only;rw[qz8w fr n 0 c hc,Ab];generalize bk (fF f) n c=z at *;obtain⟨m1,m2,m3⟩:=wze7 H M C q;rw[wzdy H M C,Ab,wzkn H M C m1 m2,Ab];obtain⟨⟨p1,p2,p3⟩,p4⟩:=Sg H M C m1 m2 q;generalize mmF mv x (fF f) z q=m at *;have W:WkB S n (fF f) (gS mv) q z:=⟨fun k hk=>⟨E1 fr k z hz,E1 fr (k+1) z hz,by rw[Jd];exact(C.use k).1,(C.g H M k).2.1⟩⟩;have dL:(0:Rat)<=(m:Rat):=Rat.intCast_nonneg.2 (by omega);have pos:∀r v,r<S->v<n->0<=xF (ptF mv (fF f) z m x q) r v:=by rw[p4];exact qz4h dL q z (xF x) W C.dist (qz9k H) fun j hj=>Rat.intCast_le_intCast.2 (m3 j hj)
  have rows:∀s,sm n (xF (ptF mv (fF f) z m x q) s)=sm n (xF x s):=fun s=>by rw[p4];exact qz4g q z (xF x) W s
  refine .inr ⟨_,f,rfl,⟨H.n1,H.n2,H.s2,H.a1,H.a2,H.cl,p1,H.cr,fun r hr=>?_⟩,⟨fun s _=>rows s,fun b _=>by rw[p4];exact wzkc W C.per b⟩,⟨fl,fr⟩,?_⟩
  ·obtain⟨s,hs⟩:=Dy.1 hr;have gR:s<S:=by have:=(AE.1 hs).1;omega
   have aF:=p2 s gR;have e3:(ptF mv (fF f) z m x q).getD s []=r:=by simp[List.getD,hs]
   rw[e3]at aF;refine⟨aF,fun v hv=>?_⟩;obtain⟨b,hb⟩:=Dy.1 hv;have mW:b<n:=by have:=(AE.1 hb).1;omega
   have e4:xI (ptF mv (fF f) z m x q) s b=v:=by unfold xI;rw[e3];simp[List.getD,hb]
   have h1:=pos s b gR mW;have h2:=wznu (fun i hi=>pos s i gR hi) b mW;rw[rows s]at h2;have h3:=hR s gR;unfold xF at h1 h2;rw[e4]at h1 h2;refine⟨Rat.intCast_nonneg.1 h1,?_⟩;have h5:(v:Rat)<=((1402560:Int):Rat):=Rat.le_trans h2 h3;exact Rat.intCast_le_intCast.1 h5
  ·rw[p4,qz0h q z (xF x) W fun j _=>(C.g H M j).2.2.2];have oX:=C.neg;have dY:(1:Rat)<=(m:Rat):=Rat.intCast_le_intCast.2 m1
   have:(m:Rat)*BW (wF mv) (fF f) q z<0:=by
    have h9:(m:Rat)*BW (wF mv) (fF f) q z<=1*BW (wF mv) (fF f) q z:=by
     have:=Rat.mul_le_mul_of_nonneg_right dY (show 0<=-BW (wF mv) (fF f) q z by grind)
     grind
    grind
   grind
def CM(B:Nat):List Nat->Nat
 |[]=>0
 |v :: l=>v+B*CM B l
theorem qz4x{B:Nat}:∀{l:List Nat},(∀v,v∈l->v<B)->CM B l<B ^ l.length
 |[],_=>by show 0<1;omega
 |v :: l,h=>by have h1:=h v (AP ..);have h2:=qz4x (l:=l) fun u hu=>h u (AQ _ hu);show v+B*CM B l<B ^ (l.length+1);rw[Dr,Bb _ B];have h3:B*(CM B l+1)<=B*B ^ l.length:=NY _ h2;rw[Nat.mul_add]at h3;omega
theorem qzzx{B:Nat}:∀{l m:List Nat},l.length=m.length->(∀v,v∈l->v<B)->(∀v,v∈m->v<B)->CM B l=CM B m->l=m
 |[],[],_,_,_,_=>rfl
 |v :: l,u :: m,hl,h,k,e=>by
  have h1:=h v (AP ..);have k1:=k u (AP ..);have e:v+B*CM B l=u+B*CM B m:=e
  have e1:v=u:=by
   have a1:(v+B*CM B l)%B=v:=by rw[Nat.add_mul_mod_self_left,C2 h1]
   have a2:(u+B*CM B m)%B=u:=by rw[Nat.add_mul_mod_self_left,C2 k1]
   rw[<-a1,e,a2]
  subst e1;have e2:CM B l=CM B m:=Nat.eq_of_mul_eq_mul_left (show 0<B by omega) (by omega);rw[qzzx (by simpa using hl) (fun w hw=>h w (AQ _ hw)) (fun w hw=>k w (AQ _ hw)) e2]
 |[],_ :: _,hl,_,_,_=>by simp at hl
 |_ :: _,[],hl,_,_,_=>by simp at hl
def NG(x:List (List Int)):Nat:=CM (2 ^ 21) (x.flatMap fun r=>r.map Int.toNat)
theorem NH{n:Nat}:∀{x:List (List Int)},(∀r,r∈x->r.length=n)->(x.flatMap fun r=>r.map Int.toNat).length=x.length*n
 |[],_=>by simp
 |r :: x,h=>by rw[List.flatMap_cons,Dv,Jz,h r (AP ..),NH fun s hs=>h s (AQ _ hs),Bl,BY];omega
theorem qz34{n:Nat}:∀{x y:List (List Int)},x.length=y.length->(∀r,r∈x->r.length=n/\∀v,v∈r->0<=v)->(∀r,r∈y->r.length=n/\∀v,v∈r->0<=v)->(x.flatMap fun r=>r.map Int.toNat)=(y.flatMap fun r=>r.map Int.toNat)->x=y
 |[],[],_,_,_,_=>rfl
 |r :: x,s :: y,hl,h,k,e=>by
  obtain⟨h1,h2⟩:=h r (AP ..);obtain⟨k1,k2⟩:=k s (AP ..);rw[List.flatMap_cons,List.flatMap_cons]at e;obtain⟨e1,e2⟩:=List.append_inj e (by simp[h1,k1])
  have e3:r=s:=by
   have back:∀l:List Int,(∀v,v∈l->0<=v)->(l.map Int.toNat).map (fun(m:Nat)=>(m:Int))=l:=fun l hl=>by
    rw[List.map_map]
    conv=>rhs;rw[<-List.map_id l]
    exact H6 fun v hv=>by show((v.toNat:Nat):Int)=v;have:=hl v hv;omega
   rw[<-back r h2,e1,back s k2]
  rw[e3,qz34 (by simpa using hl) (fun q hq=>h q (AQ _ hq)) (fun q hq=>k q (AQ _ hq)) e2]
 |[],_ :: _,hl,_,_,_=>by simp at hl
 |_ :: _,[],hl,_,_,_=>by simp at hl
theorem Si{A n S:Nat}{co:List (List Af)}{x:List (List Int)}(H:Tsk A n S co x):∀v,v∈(x.flatMap fun r=>r.map Int.toNat)->v<2 ^ 21:=fun v hv=>by obtain⟨r,hr,hv⟩:=List.mem_flatMap.1 hv;obtain⟨u,hu,rfl⟩:=C7.1 hv;have:=(H.xr r hr).2 u hu;omega
theorem qz03{a b:Nat}(h:a<=b):2 ^ a<=2 ^ b:=Cr (by decide) h
theorem wzrs:2 ^ 3780<=bigF:=by unfold bigF;exact qz03 (a:=3780) (b:=4096) (by decide)
theorem wzj5{A n S:Nat}{co:List (List Af)}{x:List (List Int)}(H:Tsk A n S co x)(hS:S<=20):NG x<2 ^ 3780:=by have h1:=qz4x (Si H);rw[NH fun r hr=>(H.xr r hr).1,H.xl,<-Nat.pow_mul]at h1;refine Gi h1 (qz03 (b:=3780) ?_);have:=H.n2;have h2:S*n<=20*9:=Nat.mul_le_mul hS this;omega
theorem wzeo{A n S:Nat}{co:List (List Af)}{x y:List (List Int)}(H:Tsk A n S co x)(K:Tsk A n S co y)(e:NG x=NG y):x=y:=by refine qz34 (n:=n) (by rw[H.xl,K.xl]) (fun r hr=>⟨(H.xr r hr).1,fun v hv=>((H.xr r hr).2 v hv).1⟩) (fun r hr=>⟨(K.xr r hr).1,fun v hv=>((K.xr r hr).2 v hv).1⟩) ?_;refine qzzx ?_ (Si H) (Si K) e;rw[NH fun r hr=>(H.xr r hr).1,NH fun r hr=>(K.xr r hr).1,H.xl,K.xl]
theorem qzrj:∀(n:Nat) (l:List Nat),l.Nodup->(∀x,x∈l->x<n)->l.length<=n
 |0,l,_,h=>by
  cases l with
  |nil=>exact A8 _
  |cons a l=>have:=h a (AP ..);omega
 |n+1,l,hn,h=>by
  have h1:=qzrj n (l.filter fun x=>decide (x≠n)) (hn.filter _) fun x hx=>by obtain⟨a,b⟩:=List.mem_filter.1 hx;have:=h x a;have:=BK b;omega
  have h2:l.length=(l.filter fun x=>decide (x≠n)).length+l.count n:=by have:=List.length_eq_countP_add_countP (fun x=>decide (x≠n)) (l:=l);rw[this,List.countP_eq_length_filter];congr 1;rw[List.count_eq_countP];exact List.countP_congr fun x _=>by simp
  have h3:l.count n<=1:=List.nodup_iff_count.1 hn n;omega
theorem wzrc{G ω:Type}{body:G->Option (G⊕ω)}(I:G->Prop)(R:ω->Prop)(K:Nat)(code:G->Nat)(cost:G->Rat)(h1:∀s,I s->code s<K)(h2:∀s t,I s->I t->code s=code t->cost s=cost t)(step:∀s,I s->(∃o,body s=some (.inr o)/\R o)\/∃t,body s=some (.inl t)/\I t/\cost t<cost s):∀(m:Nat) (vis:List Nat) (s:G),I s->vis.Nodup->(∀c,c∈vis->c<K)->(∀c t,c∈vis->I t->code t=c->cost s<cost t)->K<=m+vis.length->∃o,lpN body m s=some o/\R o:=by
 intro m;induction m with
 |zero =>
  intro vis s hs hn hK hc hm;have dA:code s∉vis:=fun h=>absurd (hc _ s h hs rfl) Rat.lt_irrefl
  have:=qzrj K (code s :: vis) (List.nodup_cons.2 ⟨dA,hn⟩) fun x hx=>by
   rcases AY.1 hx with rfl|hx
   ·exact h1 s hs
   ·exact hK x hx
  simp at this;omega
 |succ m ih =>
  intro vis s hs hn hK hc hm;have dA:code s∉vis:=fun h=>absurd (hc _ s h hs rfl) Rat.lt_irrefl;unfold lpN;rcases step s hs with ⟨o,e,ho⟩|⟨t,e,ht,hlt⟩
  ·rw[e];exact⟨o,rfl,ho⟩
  ·rw[e];refine ih (code s :: vis) t ht (List.nodup_cons.2 ⟨dA,hn⟩) (fun x hx=>?_) (fun c u hcm hu mX=>?_) (by simp;omega)
   ·rcases AY.1 hx with rfl|hx;·exact h1 s hs
    ·exact hK x hx
   ·rcases AY.1 hcm with rfl|hcm;·rw[h2 u s hu hs mX];exact hlt
    ·have:=hc c u hcm hu mX;grind
theorem wza1{A n S:Nat}{co:List (List Af)}{x:List (List Int)}(H:Tsk A n S co x)(hS:S<=20)(hR:∀s,s<S->sm n (xF x s)<=1402560) : ∃y,F9 co x n=some y/\Tsk A n S co y/\E2 n S y x/\∃D,Pot n S co y D:=by
 unfold F9 lpB;refine wzrc (fun s=>Tsk A n S co s.1/\E2 n S s.1 x/\FrV n s.2) (fun y=>Tsk A n S co y/\E2 n S y x/\∃D,Pot n S co y D) (2 ^ 3780) (fun s=>NG s.1) (fun s=>Bj S n (cFb co) (xF s.1)) (fun s h=>wzj5 h.1 hS) (fun s t h k e=>by rw[wzeo h.1 k.1 e]) (fun s h=>?_) bigF [] (x,List.replicate n 0) ⟨H,.refl x,by simp,fun v hv=>⟨0,by simp[hv],by omega⟩⟩ .nil (fun c h=>by cases h) (fun c t h=>by cases h) ?_
 ·obtain⟨y,f⟩:=s;obtain⟨h1,h2,h3⟩:=h;rcases wzav h1 (fun s hs=>by rw[h2.row s hs];exact hR s hs) h3 with ⟨e,D,hD⟩ | ⟨y',f',e,k1,k2,k3,k4⟩
  ·exact .inl ⟨y,e,h1,h2,D,hD⟩
  ·exact .inr ⟨(y',f'),e,⟨k1,k2.trans h2,k3⟩,k4⟩
 ·exact AS wzrs (Nat.le_add_right _ _)
def isum:List Int->Int
 |[]=>0
 |v :: l=>v+isum l
theorem KS:∀{l:List Int},(∀v,v∈l->0<=v)->0<=isum l
 |[],_=>Jj _
 |v :: l,h=>by have h1:=h v (AP ..);have h2:=KS (l:=l) fun u hu=>h u (AQ _ hu);show 0<=v+isum l;omega
theorem Sj:∀{l:List Int} {k:Nat} {v u:Int},l[k]?=some v->isum (l.set k u)=isum l-v+u
 |[],_,_,_,h=>by simp at h
 |w :: l,0,v,u,h=>by
  have h:w=v:=by simpa using h
  show u+isum l=w+isum l-v+u;omega
 |w :: l,k+1,v,u,h=>by have:=Sj (l:=l) (k:=k) (v:=v) (u:=u) (by simpa using h);show w+isum (l.set k u)=w+isum l-v+u;omega
theorem Sk:∀{l:List Int},(∀v,v∈l->v=0)->isum l=0
 |[],_=>rfl
 |v :: l,h=>by have h1:=h v (AP ..);have h2:=Sk (l:=l) fun u hu=>h u (AQ _ hu);show v+isum l=0;omega
theorem KT:∀{l:List Int},(∀v,v∈l->0<=v)->∀v,v∈l->v<=isum l
 |[],_,v,h=>by cases h
 |w :: l,h,v,hv=>by
  have h1:=h w (AP ..);have h2:=KS (l:=l) fun u hu=>h u (AQ _ hu);show v<=w+isum l;rcases AY.1 hv with rfl|hv
  ·omega
  ·have:=KT (fun u hu=>h u (AQ _ hu)) v hv;omega
structure FlI(n:Nat)(T R:Int)(left0:List Int)(s:Int×Int×List Int×List Int):Prop where
 n0:0<=s.1
 a0:∃k:Nat,s.2.1=(k:Int)/\k<=n/\∀j,j<k->s.2.2.1[j]?=some 0
 ll:s.2.2.1.length=n
 rl:s.2.2.2.length=n
 lp:∀v,v∈s.2.2.1->0<=v
 rp:∀v,v∈s.2.2.2->0<=v
 sl:isum s.2.2.1=s.1+R
 sr:isum s.2.2.2+s.1=T
 co:∀(j:Nat) (u v w:Int),s.2.2.1[j]?=some u->s.2.2.2[j]?=some v->left0[j]?=some w->u+v=w
theorem wzeq{n:Nat}{T R:Int}{left0:List Int}(hn:n<=1000000)(hR:0<=R)(hT:T+R<=100000000){s:Int×Int×List Int×List Int}(I:FlI n T R left0 s) : ∃r,lp GF s=some r/\FlI n T R left0 (0,r.1,r.2.1,r.2.2):=by
 refine C6 (fun s=>FlI n T R left0 s) (fun s=>s.1.toNat+(n-s.2.1.toNat)) (fun(r:Int×List Int×List Int)=>FlI n T R left0 (0,r.1,r.2.1,r.2.2)) (fun s I=>?_) I ?_;rotate_left
 ·obtain⟨k,h1,h2,_⟩:=I.a0;have h3:=I.n0;have h4:=I.sr;have h5:=KS I.rp;omega
 obtain⟨m,at0,left,row⟩:=s;obtain⟨k,h1,h2,h3⟩:=I.a0;have h0:=I.n0;have eI:=I.sl;have fx:=I.sr;simp only at h1 h3 h0 eI fx;subst h1;simp only[GF];by_cases hm:0<m
 ·left;rw[it_d hm]
  have cH:k<n:=by
   refine Nat.lt_of_le_of_ne h2 fun e=>?_;have:isum left=0:=Sk fun v hv=>by obtain⟨j,hj⟩:=Dy.1 hv;have hl:=I.ll;simp only at hl;have:=h3 j (by have:=(AE.1 hj).1;omega);rw[hj]at this;cases this;rfl
   omega
  obtain⟨la,e1⟩:=AR (l:=left) (k:=k) (by have:=I.ll;simp only at this;omega);obtain⟨xa,e2⟩:=AR (l:=row) (k:=k) (by have:=I.rl;simp only at this;omega);have l8:=I.lp la (AI e1);have i9:=I.rp xa (AI e2);have oY:=KT I.rp xa (AI e2);have i7:=KT I.lp la (AI e1);simp only at oY i7;have oZ:=KS I.rp;simp only at oZ;rw[at_e rfl e1,Ab];by_cases hz:la=0
  ·rw[it_d hz,A7 (by omega)];refine⟨_,rfl,⟨h0,⟨k+1,by simp only;omega,by omega,fun j hj=>?_⟩,I.ll,I.rl,I.lp,I.rp,eI,fx,I.co⟩,by simp only;omega⟩;by_cases jN:j=k
   ·subst jN;rw[<-hz];exact e1
   ·exact h3 j (by omega)
  ·rw[it_n hz,at_e rfl e2,Ab,ck_t (by simp[Au];omega),B2];refine⟨_,rfl,⟨by simp only;omega,⟨k,rfl,by omega,fun j hj=>?_⟩,by simp;exact I.ll,by simp;exact I.rl,fun v hv=>?_,fun v hv=>?_,?_,?_,fun j u v w hu hv hw=>?_⟩,by simp only;omega⟩
   ·simp only;rw[List.getElem?_set_ne (by omega)];exact h3 j hj
   ·rcases List.mem_or_eq_of_mem_set hv with hv|rfl;·exact I.lp v hv
    ·omega
   ·rcases List.mem_or_eq_of_mem_set hv with hv|rfl;·exact I.rp v hv
    ·omega
   ·simp only;rw[Sj e1];omega
   ·simp only;rw[Sj e2];omega
   ·simp only at hu hv;by_cases jN:j=k
    ·subst jN;have hc:=I.co j la xa w e1 e2 hw;rw[List.getElem?_set_self (by have:=I.ll;simp only at this;omega)]at hu;rw[List.getElem?_set_self (by have:=I.rl;simp only at this;omega)]at hv;cases hu;cases hv;omega
    ·rw[List.getElem?_set_ne (by omega)]at hu hv;exact I.co j u v w hu hv hw
 ·right;rw[it_n hm];obtain rfl:m=0:=by omega
  exact⟨_,rfl,I⟩
theorem qz3u{rate:Int->Int->Option Af}{rt:Int->Int->Af}{st:Int}:∀{cl:List A9},(∀c,c∈cl->rate c.Span st=some (rt c.Span st))->GG rate st cl=some (cl.map fun c=>rt c.Span st)
 |[],_=>rfl
 |c :: cl,h=>by unfold GG;rw[h c (AP ..),Ab,qz3u fun d hd=>h d (AQ _ hd),Ab];rfl
def icol(x:List (List Int))(j:Nat):Int:=isum (x.map fun r=>r.getD j 0)
theorem wzgs{l:List Int}(h:∀v,v∈l->0<=v)(e:isum l=0):∀v,v∈l->v=0:=fun v hv=>by have h1:=KT h v hv;have h2:=h v hv;omega
theorem wzk4(n:Nat):isum (List.replicate n 0)=0:=Sk fun v hv=>(List.mem_replicate.1 hv).2
theorem wzft{rate:Int->Int->Option Af}{rt:Int->Int->Af}{cl:List A9}(hn:cl.length<=1000000):∀(t:List AM),(∀h c,h∈t->c∈cl->rate c.Span h.Stage=some (rt c.Span h.Stage))->(∀h,h∈t->0<=h.Ticks)->isum (t.map (·.Ticks))<=100000000 -> ∀(at0:Int) (left:List Int) (co:List (List Af)) (x:List (List Int)),(∃k:Nat,at0=(k:Int)/\k<=cl.length/\∀j,j<k->left[j]?=some 0)->left.length=cl.length->(∀v,v∈left->0<=v)->isum left=isum (t.map (·.Ticks)) -> ∃y,bgL rate cl t at0 left co x=some (co++t.map (fun h=>cl.map fun c=>rt c.Span h.Stage),x++y)/\y.length=t.length/\(∀r,r∈y->r.length=cl.length/\∀v,v∈r->0<=v)/\(∀(i:Nat) (h:AM) (r:List Int),t[i]?=some h->y[i]?=some r->isum r=h.Ticks)/\∀j w,left[j]?=some w->icol y j=w
 |[],_,_,_,at0,left,co,x,_,hl,hp,hs=>⟨[],by simp[bgL],rfl,(fun r h=>by cases h),(fun i h r e=>by simp at e),fun j w hw=>by have:=wzgs hp hs w (AI hw);rw[this];rfl⟩
 |h :: t,hr,ht,hT,at0,left,co,x,hk,hl,hp,hs=>by
  have h1:=ht h (AP ..);have h2:0<=isum (t.map (·.Ticks)):=KS fun v hv=>by obtain⟨u,hu,rfl⟩:=C7.1 hv;exact ht u (AQ _ hu)
  have hs:isum left=h.Ticks+isum (t.map (·.Ticks)):=hs;have hT:h.Ticks+isum (t.map (·.Ticks))<=100000000:=hT
  obtain⟨r,e1,F⟩:=wzeq (n:=cl.length) (T:=h.Ticks) (R:=isum (t.map (·.Ticks))) (left0:=left) hn h2 hT (s:=(h.Ticks,at0,left,List.replicate cl.length 0)) ⟨h1,hk,hl,by simp,hp,(fun v hv=>by rw[(List.mem_replicate.1 hv).2];omega),hs,by simp only;rw[wzk4];omega,fun j u v w hu hv hw=>by
   simp only at hu hv;rw[hu]at hw;cases hw;rw[Gbk]at hv;split at hv
   ·cases hv;omega
   ·cases hv⟩
  obtain⟨y,e2,y1,y2,y3,y4⟩:=wzft hn t (fun h' c hh hc=>hr h' c (AQ _ hh) hc) (fun h' hh=>ht h' (AQ _ hh)) (by omega) r.1 r.2.1 (co++[cl.map fun c=>rt c.Span h.Stage]) (x++[r.2.2]) F.a0 F.ll F.lp (by have:=F.sl;simp only at this;omega);refine⟨r.2.2 :: y,?_,by simp[y1],fun q hq=>?_,fun i h' q hh hq=>?_,fun j w hw=>?_⟩
  ·unfold bgL;rw[qz3u fun c hc=>hr h c (AP ..) hc,Ab,e1,Ab,e2];simp
  ·rcases AY.1 hq with rfl|hq;·exact⟨F.rl,F.rp⟩
   ·exact y2 q hq
  ·cases i with
   |zero =>simp at hh hq;subst hh hq;have:=F.sr;simp only at this;omega
   |succ i=>exact y3 i h' q (by simpa using hh) (by simpa using hq)
  ·have hj:=(AE.1 hw).1;obtain⟨u,hu⟩:=AR (l:=r.2.1) (k:=j) (by have:=F.ll;simp only at this;omega);obtain⟨v,hv⟩:=AR (l:=r.2.2) (k:=j) (by have:=F.rl;simp only at this;omega);have c1:=F.co j u v w hu hv hw;have c2:=y4 j u hu;have c3:r.2.2.getD j 0=v:=by simp[List.getD,hv]
   show r.2.2.getD j 0+icol y j=w;rw[c3,c2];omega
end
end Go.Am

