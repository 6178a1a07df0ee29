/- Part N1: plain lemmas about digits. No condition. -/
import Derived.Test.YtibbibelkkgfpaaGreatDoorA1
set_option linter.unusedSimpArgs false
set_option linter.unusedVariables false
namespace Go.Am
structure Base where
 n:Nat
 pos:0<n
theorem Base.pw(b:Base)(k:Nat):0<b.n ^ k:=Nat.pow_pos b.pos
def b32:Base:=⟨4294967296,by decide⟩
def b8:Base:=⟨256,by decide⟩
theorem B8:b32.n=4294967296:=rfl
theorem b8_n:b8.n=256:=rfl
variable {b:Base}
def vl(b:Base)(f:Nat->Nat):Nat->Nat
 |0=>0
 |n+1=>vl b f n+f n*b.n ^ n
theorem CJ{f g:Nat->Nat}:∀{n:Nat},(∀i,i<n->f i=g i)->vl b f n=vl b g n
 |0,_=>rfl
 |n+1,h=>by simp only[vl];rw[CJ (fun i hi=>h i (by omega)),h n (by omega)]
theorem FI{f:Nat->Nat}:∀{n:Nat},(∀i,i<n->f i<b.n)->vl b f n<b.n ^ n
 |0,_=>by simp[vl]
 |n+1,h=>by have h1:=FI (n:=n) (fun i hi=>h i (by omega));have h2:f n+1<=b.n:=h n (by omega);have h3:=Bd (b.n ^ n) h2;simp only[vl,Dr];rw[AT,Bb b.n]at h3;omega
theorem wzsx{f:Nat->Nat}{n:Nat}(h:f n=0):vl b f (n+1)=vl b f n:=by simp[vl,h]
theorem Ql{f:Nat->Nat}{m:Nat}:∀{n:Nat},m<=n->vl b f m<=vl b f n
 |0,h=>by simp[show m=0 by omega]
 |n+1,h=>by
  rcases C8 n m with h'|h'
  ·rw[show m=n+1 by omega];exact A8 _
  ·have:=Ql (f:=f) h';simp only[vl];omega
theorem Ks(f:Nat->Nat)(j:Nat):∀n:Nat,vl b f (j+n)=vl b f j+b.n ^ j*vl b (fun i=>f (j+i)) n
 |0=>by simp[vl]
 |n+1=>by
  rw[<-Fv];simp only[vl];rw[Ks f j n,HD,Nat.mul_add];have:f (j+n)*(b.n ^ j*b.n ^ n)=b.n ^ j*(f (j+n)*b.n ^ n):=by rw[Ld]
  omega
theorem Kt:∀n:Nat,vl b (fun _=>0) n=0
 |0=>rfl
 |n+1=>by simp[vl,Kt n]
theorem Y6{f:Nat->Nat}{m:Nat}(h:∀i,m<=i->f i=0):∀{n:Nat},m<=n->vl b f n=vl b f m
 |0,h'=>by simp[show m=0 by omega]
 |n+1,h'=>by
  rcases C8 n m with h2|h2
  ·rw[show m=n+1 by omega]
  ·rw[wzsx (h n h2)];exact Y6 h h2
theorem M0{f:Nat->Nat}{k x:Nat}:∀{n:Nat},k<n->vl b (fun i=>if i=k then x else f i) n+f k*b.n ^ k=vl b f n+x*b.n ^ k
 |0,h=>by omega
 |n+1,h=>by
  rcases C8 k n with h'|h'
  ·have:=M0 (f:=f) (x:=x) h';simp only[vl];rw[Ag (by omega)];omega
  ·obtain rfl:k=n:=by omega
   simp only[vl,AZ];rw[CJ (g:=f) (fun i hi=>Ag (by omega))];omega
def Norm(f:Nat->Nat)(n:Nat):Prop:=n=0\/f (n-1)≠0
theorem wzuy{f:Nat->Nat}{n:Nat}(h:f n≠0):b.n ^ n<=vl b f (n+1):=by simp only[vl];have:1*b.n ^ n<=f n*b.n ^ n:=Bd _ (by omega);omega
theorem wzri{f:Nat->Nat}{n:Nat}(h:Norm f n)(hn:0<n):b.n ^ (n-1)<=vl b f n:=by
 obtain⟨m,rfl⟩:∃m,n=m+1:=⟨n-1,by omega⟩;rcases h with h|h
 ·omega
 ·exact wzuy h
theorem Qm{f g:Nat->Nat}{k:Nat}(hf:∀i,i<k->f i<b.n)(h:f k<g k):∀{n:Nat},k<n->(∀i,k<i->i<n->f i=g i)->vl b f n<vl b g n
 |0,h0,_=>by omega
 |n+1,h0,he=>by
  rcases C8 k n with h'|h'
  ·have:=Qm hf h h' (fun i h1 h2=>he i h1 (by omega));simp only[vl];rw[he n h' (by omega)];omega
  ·obtain rfl:k=n:=by omega
   have h1:=FI hf;have h2:(f k+1)*b.n ^ k<=g k*b.n ^ k:=Bd _ h;rw[AT]at h2;simp only[vl];omega
def dg(b:Base)(v i:Nat):Nat:=v / b.n ^ i%b.n
theorem Eg(v i:Nat):dg b v i<b.n:=Gj _ b.pos
theorem Qn{f:Nat->Nat}:∀{n:Nat},(∀i,i<n->f i<b.n)->∀i,i<n->dg b (vl b f n) i=f i
 |0,_,i,h=>by omega
 |n+1,hf,i,h=>by
  have h1:=FI (n:=n) (fun i hi=>hf i (by omega));unfold dg;simp only[vl];rcases C8 i n with h'|h'
  ·have ih:=Qn (n:=n) (fun i hi=>hf i (by omega)) i h';unfold dg at ih;obtain⟨d,rfl⟩:∃d,n=i+d+1:=⟨n-i-1,by omega⟩;have e:f (i+d+1)*b.n ^ (i+d+1)=b.n ^ i*(b.n*(b.n ^ d*f (i+d+1))):=by rw[Dr,HD];simp only[Bb,Ld,E3]
   rw[e,Nat.add_mul_div_left _ _ (b.pw i),Nat.add_mul_mod_self_left];exact ih
  ·obtain rfl:i=n:=by omega
   rw[Bb,Nat.add_mul_div_left _ _ (b.pw i),Jo h1,Bq];exact C2 (hf i (by omega))
theorem Qo{v i:Nat}(h:v<b.n ^ i):dg b v i=0:=by unfold dg;rw[Jo h];rfl
theorem M1(v:Nat):∀n:Nat,vl b (dg b v) n=v%b.n ^ n
 |0=>by simp[vl,Nat.mod_one]
 |n+1=>by simp only[vl];rw[M1 v n,Dr,Nat.mod_mul];unfold dg;rw[Bb (b.n ^ n)]
theorem wzef{q v vtop vlow part top low K:Nat}(hv:v=vtop*K+vlow)(hp:part=top*K+low)(eU:low<K)(hq:q*v<=part)(iE:0<vtop):q<=top / vtop:=by
 rw[Od iE];rcases C8 top (q*vtop) with h|h
 ·have h1:(top+1)*K<=q*vtop*K:=Bd K h;rw[AT]at h1;have h2:q*v=q*vtop*K+q*vlow:=by rw[hv,Nat.mul_add,E3]
  omega
 ·exact h
theorem qz65{q g v v2 v1 vlow part t0 low K left r:Nat}(hv:v=(v1*b.n+v2)*K+vlow)(hp:part=(t0*b.n+r)*K+low)(eU:low<K)(hq:q*v<=part)(hl:left+g*v1=t0)(oh:left*b.n+r<g*v2):q<g:=by
 rcases C8 q g with h|h
 ·exact h
 exfalso;have h0:g*v<=part:=AS (Bd v h) hq
 have h1:g*(v1*b.n+v2)<=t0*b.n+r:=by
  rcases C8 (t0*b.n+r) (g*(v1*b.n+v2)) with h'|h'
  ·have h2:(t0*b.n+r+1)*K<=g*(v1*b.n+v2)*K:=Bd K h';rw[AT _ 1]at h2;have h3:g*v=g*(v1*b.n+v2)*K+g*vlow:=by rw[hv,Nat.mul_add,E3]
   omega
  ·exact h'
 rw[Nat.mul_add,<-E3,<-hl,AT]at h1;omega
def ln(v:Nat):Nat:=if v=0 then 0 else Nat.log2 v / 32+1
theorem Y8(n:Nat):b32.n ^ n=2 ^ (32*n):=by rw[Nat.pow_mul];rfl
theorem D7(v:Nat):v<b32.n ^ ln v:=by
 unfold ln;by_cases h:v=0
 ·simp[h]
 ·rw[Ag h,Y8];have:=Nat.lt_log2_self (n:=v);exact Gi this (Cr (by decide) (by omega))
theorem Iw{v:Nat}(h:v≠0):b32.n ^ (ln v-1)<=v:=by unfold ln;rw[Ag h,Y8];have:=Nat.log2_self_le h;exact AS (Cr (by decide) (by omega)) this
theorem Y9{v n:Nat}(h1:v<b32.n ^ n)(h2:n=0\/b32.n ^ (n-1)<=v):n=ln v:=by
 rcases h2 with rfl|h2
 ·simp at h1;simp[h1,ln]
 by_cases hv:v=0
 ·subst hv;have:=b32.pw (n-1);omega
 have a:=D7 v;have b:=Iw hv
 have c1:n-1<ln v:=by
  rcases C8 (n-1) (ln v) with h|h
  ·exact h
  ·have:=Cr b32.pos h;omega
 have c2:ln v-1<n:=by
  rcases C8 (ln v-1) n with h|h
  ·exact h
  ·have:=Cr b32.pos h;omega
 have:0<ln v:=by unfold ln;rw[Ag hv];omega
 rcases E7 n with rfl|h
 ·simp at h1;omega
 ·omega
theorem wzo2{f:Nat->Nat}{n:Nat}(hf:∀i,i<n->f i<b32.n)(h:Norm f n):n=ln (vl b32 f n):=by
 refine Y9 (FI hf) ?_;rcases E7 n with h'|h'
 ·exact .inl h'
 ·exact .inr (wzri h h')
theorem wzp7(v:Nat):Norm (dg b32 v) (ln v):=by
 by_cases hv:v=0
 ·exact .inl (by simp[ln,hv])
 refine .inr ?_;have a:=D7 v;have b:=Iw hv;have hp:0<ln v:=by unfold ln;rw[Ag hv];omega
 obtain⟨m,hm⟩:∃m,ln v=m+1:=⟨ln v-1,by omega⟩;rw[hm]at a b |-;simp only[Nat.add_sub_cancel]at b |-;unfold dg;have h1:1<=v / b32.n ^ m:=(Od (b32.pw m)).2 (by omega);have h2:v / b32.n ^ m<b32.n:=Nat.div_lt_of_lt_mul (by rw[Dr]at a;exact a);rw[C2 h2];omega
theorem Ix(v:Nat):vl b32 (dg b32 v) (ln v)=v:=by rw[M1,C2 (D7 v)]
variable {b:Base}
theorem Eh(f:Nat->Nat)(n:Nat):vl b f (n+1)=vl b f n+f n*b.n ^ n:=rfl
theorem YD{o x y:Nat->Nat}{k c s:Nat}(h:vl b o k+c*b.n ^ k=vl b x k+vl b y k)(hs:s=x k+y k+c)(ho:o k=s%b.n):vl b o (k+1)+s / b.n*b.n ^ (k+1)=vl b x (k+1)+vl b y (k+1):=by
 simp only[Eh,ho,Dr];have e:s%b.n*b.n ^ k+s / b.n*(b.n ^ k*b.n)=s*b.n ^ k:=by rw[Bb (b.n ^ k) b.n,<-E3,<-AT];congr 1;have:=Jm s b.n;rw[Bb]at this;omega
 rw[hs,AT,AT]at e;rw[<-hs]at e;omega
theorem M2{o x y:Nat->Nat}{k w w':Nat}(h:vl b o k+vl b y k=vl b x k+w*b.n ^ k)(ho:o k+y k+w=x k+w'*b.n):vl b o (k+1)+vl b y (k+1)=vl b x (k+1)+w'*b.n ^ (k+1):=by
 simp only[Eh,Dr];have e:(o k+y k+w)*b.n ^ k=(x k+w'*b.n)*b.n ^ k:=by rw[ho]
 simp only[AT]at e;rw[show w'*(b.n ^ k*b.n)=w'*b.n*b.n ^ k by simp only[Bb,Ld,E3]];omega
theorem wza3{out x:Nat->Nat}{n k by' r q r':Nat}(h:vl b x n=by'*vl b out n+r*b.n ^ (k+1)+vl b x (k+1))(hk:k<n)(h0:out k=0)(hq:r*b.n+x k=q*by'+r') :
  vl b x n=by'*vl b (fun i=>if i=k then q else out i) n+r'*b.n ^ k+vl b x k:=by
 have e:=M0 (b:=b) (f:=out) (x:=q) hk;rw[h0,Nat.zero_mul,Gg]at e;rw[e,Nat.mul_add];have e2:(r*b.n+x k)*b.n ^ k=(q*by'+r')*b.n ^ k:=by rw[hq]
 simp only[AT]at e2;rw[h,Eh,Dr];have e3:r*(b.n ^ k*b.n)=r*b.n*b.n ^ k:=by simp only[Bb,Ld,E3]
 have e4:by'*(q*b.n ^ k)=q*by'*b.n ^ k:=by simp only[Bb,Ld,E3]
 omega
theorem YJ{out y:Nat->Nat}{N i k a c s T:Nat}(h:vl b out N+c*b.n ^ (i+k)=T+a*vl b y k*b.n ^ i)(hk:i+k<N)(hs:s=a*y k+out (i+k)+c) :
  vl b (fun j=>if j=i+k then s%b.n else out j) N+s / b.n*b.n ^ (i+(k+1))=T+a*vl b y (k+1)*b.n ^ i:=by
 have e:=M0 (b:=b) (f:=out) (x:=s%b.n) hk;have e1:s%b.n*b.n ^ (i+k)+s / b.n*b.n ^ (i+(k+1))=s*b.n ^ (i+k):=by rw[<-Fv i k 1,Dr,Bb (b.n ^ (i+k)) b.n,<-E3,<-AT];congr 1;have:=Jm s b.n;rw[Bb]at this;omega
 have e2:s*b.n ^ (i+k)=a*y k*b.n ^ (i+k)+out (i+k)*b.n ^ (i+k)+c*b.n ^ (i+k):=by rw[hs,AT,AT]
 rw[Eh,Nat.mul_add,AT];have e3:a*(y k*b.n ^ k)*b.n ^ i=a*y k*b.n ^ (i+k):=by rw[HD];simp only[Bb,Ld,E3]
 omega
theorem YO{out x y:Nat->Nat}{N i k m a c:Nat}(hx:∀j,j<m->y j<b.n)(ha:a<b.n)(hX:vl b x i<b.n ^ i)(h:vl b out N+c*b.n ^ (i+k)=vl b x i*vl b y m+a*vl b y m*b.n ^ i)(hc:0<c):k<=m:=by
 rcases C8 m k with h'|h'
 ·exfalso;have h1:=FI (b:=b) hx;have h2:b.n ^ (i+(m+1))<=b.n ^ (i+k):=Cr b.pos (by omega);have h3:1*b.n ^ (i+k)<=c*b.n ^ (i+k):=Bd _ hc
  have h4:(vl b x i+a*b.n ^ i)*vl b y m<b.n ^ (i+1)*b.n ^ m:=by
   have h5:vl b x i+a*b.n ^ i<b.n ^ (i+1):=by have:(a+1)*b.n ^ i<=b.n*b.n ^ i:=Bd _ ha;rw[AT]at this;rw[Dr,Bb _ b.n];omega
   exact SN (Bd _ (Gu h5)) (Nat.mul_lt_mul_of_pos_left h1 (b.pw _))
  rw[<-HD,show i+1+m=i+(m+1) by omega,AT]at h4;have h6:a*b.n ^ i*vl b y m=a*vl b y m*b.n ^ i:=by simp only[Bb,Ld,E3]
  omega
 ·exact h'
theorem wzqz{q:Nat->Nat}{Q j d v part rest rest' X R:Nat}(h:X=v*vl b q Q+rest)(hj:j<Q)(h0:q j=0)(hr:rest=part*b.n ^ j+R)(bu:rest'=(part-d*v)*b.n ^ j+R)(hd:d*v<=part) :
  X=v*vl b (fun i=>if i=j then d else q i) Q+rest':=by
 have e:=M0 (b:=b) (f:=q) (x:=d) hj;rw[h0,Nat.zero_mul,Gg]at e;rw[e,Nat.mul_add,h,hr,bu];have e2:v*(d*b.n ^ j)=d*v*b.n ^ j:=by simp only[Bb,Ld,E3]
 have e3:part*b.n ^ j=(part-d*v)*b.n ^ j+d*v*b.n ^ j:=by rw[<-AT,Nat.sub_add_cancel hd]
 omega
theorem wzpx{v part d j R:Nat}(h1:part<(d+1)*v)(h2:d*v<=part)(hR:R<b.n ^ j):(part-d*v)*b.n ^ j+R<v*b.n ^ j:=by
 have h3:part-d*v+1<=v:=by rw[AT]at h1;omega
 have h4:=Bd (b.n ^ j) h3;rw[AT]at h4;omega
def sv:List UInt8->Nat
 |[]=>0
 |b :: r=>b.toNat*256 ^ r.length+sv r
theorem FJ:∀l m:List UInt8,sv (l++m)=sv l*256 ^ m.length+sv m
 |[],m=>by simp[sv]
 |b :: r,m=>by simp only[Ga1,sv,FJ r m,Dv,HD,AT,E3,Fv]
theorem M3(b:UInt8):b.toNat<256:=UInt8.toNat_lt b
theorem Cz:∀l:List UInt8,sv l<256 ^ l.length
 |[]=>by simp[sv]
 |b :: r=>by have h1:=Cz r;have h2:(b.toNat+1)*256 ^ r.length<=256*256 ^ r.length:=Bd _ (M3 b);simp only[sv,Bl,Dr,AT]at h2 |-;omega
theorem Ku(b:UInt8):sv [b]=b.toNat:=by simp[sv]
def yzg:List UInt8->Prop
 |[]=>True
 |b :: _=>b≠0
theorem M4{b:UInt8}(h:b≠0):1<=b.toNat:=by
 rcases E7 b.toNat with h'|h'
 ·exact absurd (UInt8.toNat_inj.1 h') h
 ·exact h'
theorem YQ{b:UInt8}{r:List UInt8}(h:b≠0):256 ^ r.length<=sv (b :: r):=by have:1*256 ^ r.length<=b.toNat*256 ^ r.length:=Bd _ (M4 h);simp only[sv];omega
theorem YU:∀{l m:List UInt8},l.length=m.length->sv l=sv m->l=m
 |[],[],_,_=>rfl
 |a :: r,b :: s,hl,h=>by
  have dI:r.length=s.length:=by simpa using hl
  have h1:=Cz r;have h2:=Cz s;simp only[sv,dI]at h;rw[dI]at h1;have hp:0<256 ^ s.length:=Nat.pow_pos (by decide);have e:(a.toNat*256 ^ s.length+sv r) / 256 ^ s.length=(b.toNat*256 ^ s.length+sv s) / 256 ^ s.length:=by rw[h]
  rw[Bb a.toNat,Bb b.toNat,Lm hp,Lm hp,Jo h1,Jo h2]at e;have e':a.toNat=b.toNat:=by omega
  have bm:a=b:=UInt8.toNat_inj.1 e';subst bm;rw[YU dI (by omega)]
theorem YW{l m:List UInt8}(hl:yzg l)(h:sv l=sv m):l.length<=m.length:=by
 cases l with
 |nil=>simp
 |cons b r =>
  have h1:=YQ (r:=r) hl;have h2:=Cz m;rcases C8 m.length (r.length+1) with h'|h'
  ·exfalso;have:=Cr (n:=256) (by decide) (show m.length<=r.length by omega);omega
  ·exact h'
theorem wzgk{l m:List UInt8}(hl:yzg l)(hm:yzg m)(h:sv l=sv m):l=m :=
 YU (Nat.le_antisymm (YW hl h) (YW hm h.symm)) h
def bsK:Nat->Nat->List UInt8
 |0,_=>[]
 |k+1,v=>if v=0 then [] else bsK k (v / 256)++[UInt8.ofNat v]
def bs(v:Nat):List UInt8:=bsK v v
theorem YX(v:Nat):(UInt8.ofNat v).toNat=v%256:=by simp
theorem Qp:∀(k v:Nat),v<=k->sv (bsK k v)=v/\yzg (bsK k v)/\(v≠0->bsK k v≠[])
 |0,v,h=>by simp[bsK,sv,yzg];omega
 |k+1,v,h=>by
  unfold bsK;by_cases hv:v=0
  ·simp[hv,sv,yzg]
  ·rw[Ag hv];obtain⟨h1,h2,h3⟩:=Qp k (v / 256) (by omega);refine⟨?_,?_,by simp⟩
   ·rw[FJ,h1,Ku,YX];simp only[Dw,Nat.pow_one];omega
   ·cases hb:bsK k (v / 256) with
    |nil =>
     rw[hb]at h1 h3;have:v / 256=0:=by simpa [sv] using h1.symm
     show UInt8.ofNat v≠0;intro hz;have:=YX v;rw[hz]at this;simp at this;omega
    |cons b r =>rw[hb]at h2;exact h2
theorem AN(v:Nat):sv (bs v)=v:=(Qp v v (A8 _)).1
theorem CK(v:Nat):yzg (bs v):=(Qp v v (A8 _)).2.1
theorem Iy{l:List UInt8}(h:yzg l):bs (sv l)=l:=wzgk (CK _) h (AN _)
theorem Qq{u v:Nat}(h:bs u=bs v):u=v:=by rw[<-AN u,h,AN]
theorem Dh{v:Nat}:bs v=[]↔v=0:=by
 constructor
 ·intro h;rw[<-AN v,h];rfl
 ·rintro rfl;rfl
def Bz:List UInt8->List UInt8
 |[]=>[]
 |b :: r=>if b=0 then Bz r else b :: r
theorem M5:∀l:List UInt8,sv (Bz l)=sv l/\yzg (Bz l)
 |[]=>⟨rfl,trivial⟩
 |b :: r=>by
  unfold Bz;by_cases h:b=0
  ·rw[Aj h];have:=M5 r;exact⟨by rw[this.1,h];simp[sv],this.2⟩
  ·rw[Ag h];exact⟨rfl,h⟩
theorem D8(l:List UInt8):Bz l=bs (sv l):=by rw[<-(M5 l).1,Iy (M5 l).2]
theorem wzje{l:List UInt8}:Bz l=l↔yzg l:=by
 constructor
 ·intro h;rw[<-h];exact(M5 l).2
 ·intro h;rw[D8,Iy h]
theorem Qr{v n:Nat}(h:v<256 ^ n):(bs v).length<=n:=by
 cases hb:bs v with
 |nil=>simp
 |cons b r =>
  have h1:=CK v;have h2:=AN v;rw[hb]at h1 h2;have h3:=YQ (r:=r) h1;rw[h2]at h3;rcases C8 r.length n with h'|h'
  ·exact h'
  ·have:=Cr (n:=256) (by decide) h';omega
theorem YY(k:Nat):b32.n ^ k=256 ^ (4*k):=by rw[Nat.pow_mul];rfl
theorem wzc5{l:List UInt8}{x:Nat->Nat}{k e:Nat}(h:vl b32 x k=sv (l.drop e))(he:l.length=e+4*k)(hx:x k=sv ((l.drop (e-4)).take (e-(e-4)))):vl b32 x (k+1)=sv (l.drop (e-4)):=by
 have e1:l.drop (e-4)=(l.drop (e-4)).take (e-(e-4))++l.drop e:=by have:=SL (e-(e-4)) (l.drop (e-4));rw[NT,show e-4+(e-(e-4))=e by omega]at this;exact this.symm
 rw[e1,FJ,<-h,<-hx,Eh,YY];rw[H5,show l.length-e=4*k by omega];omega
theorem wzqy{l:List UInt8}(h:l.length<=4):sv l<b32.n:=by have h1:=Cz l;have h2:256 ^ l.length<=256 ^ 4:=Cr (by decide) h;have:b32.n=256 ^ 4:=rfl;omega
theorem wzdp{b:List UInt8}{x:Nat->Nat}{k:Nat}{b0 b1 b2 b3:UInt8}(h:sv b.reverse=vl b32 x k)(hb:b.length=4*k)(hx:x k=b0.toNat+256*(b1.toNat+256*(b2.toNat+256*b3.toNat))) :
  sv (b++[b0,b1,b2,b3]).reverse=vl b32 x (k+1):=by
 rw[List.reverse_append,FJ,h,Eh,YY,hx,List.length_reverse,hb];simp only[List.reverse_cons,List.reverse_nil,Gcd,Ga1,sv,Bl,List.length_nil];have:b3.toNat*256 ^ (0+1+1+1)+(b2.toNat*256 ^ (0+1+1)+(b1.toNat*256 ^ (0+1)+(b0.toNat*256 ^ 0+0)))=b0.toNat+256*(b1.toNat+256*(b2.toNat+256*b3.toNat)):=by omega
 rw[this];omega
structure Rx where
 neg:Bool
 num:List UInt8
 den:List UInt8
def Rx.zero:Rx:=⟨false,[],[]⟩
def sg(neg:Bool)(n:Nat):Int:=if neg then -(n:Int) else n
theorem Qs(neg:Bool)(n:Nat):(sg neg n).natAbs=n:=by unfold sg;split<;>simp
theorem wzq2(neg:Bool):sg neg 0=0:=by unfold sg;split<;>rfl
theorem wzsm(a b:Bool)(n m:Nat):sg a n*sg b m=sg (a != b) (n*m):=by cases a<;>cases b<;>simp[sg,Int.neg_mul,Int.mul_neg]
theorem wzs5(neg:Bool){n g:Nat}(h:g ∣ n):sg neg n / g=sg neg (n / g):=by
 obtain⟨k,rfl⟩:=h;rcases E7 g with rfl|hg
 ·cases neg<;>simp[sg]
 cases neg
 ·simp[sg]
 ·simp only[sg,AZ];rw[Nat.mul_div_cancel_left _ hg,Int.neg_ediv_of_dvd (by exact_mod_cast Nat.dvd_mul_right g k)];congr 1;rw[NS,Int.mul_ediv_cancel_left _ (by omega)]
def fv(neg:Bool)(n d:Nat):Rat:=mkRat (sg neg n) d
def Rx.of(q:Rat):Rx:=if q.num=0 then Rx.zero else⟨decide (q.num<0),bs q.num.natAbs,bs q.den⟩
def Rx.Valid(r:Rx):Prop:=r=Rx.zero\/(r.num≠[]/\r.den≠[]/\yzg r.num/\yzg r.den/\Nat.gcd (sv r.num) (sv r.den)=1)
theorem Qt{neg:Bool}{n d:Nat}(hd:d≠0):(fv neg n d).num=sg neg (n / Nat.gcd n d)/\(fv neg n d).den=d / Nat.gcd n d:=by unfold fv mkRat;rw[dif_neg hd,Rat.normalize_eq];simp only[Qs];exact⟨wzs5 neg (Nat.gcd_dvd_left n d),trivial⟩
theorem M6{neg:Bool}{d:Nat}:fv neg 0 d=0:=by unfold fv;rw[wzq2];exact Rat.zero_mkRat d
theorem wzbh{neg:Bool}{n d:Nat}(hd:d≠0):fv neg n d=0↔n=0:=by
 constructor
 ·intro h;have h1:=(Qt (neg:=neg) (n:=n) hd).1;rw[h]at h1;have h2:n / Nat.gcd n d=0:=by have:=Gk Int.natAbs h1;rw[Qs]at this;simpa using this.symm
  rcases E7 n with h3|h3
  ·exact h3
  ·have:=Nat.div_pos (Nat.le_of_dvd h3 (Nat.gcd_dvd_left n d)) (Nat.gcd_pos_of_pos_left d h3);omega
 ·rintro rfl;exact M6
theorem Za{neg:Bool}{n d:Nat}(hn:n≠0)(hd:d≠0):Rx.of (fv neg n d)=⟨neg,bs (n / Nat.gcd n d),bs (d / Nat.gcd n d)⟩:=by
 obtain⟨h1,h2⟩:=Qt (neg:=neg) (n:=n) hd;have hp:0<n / Nat.gcd n d:=Nat.div_pos (Nat.le_of_dvd (by omega) (Nat.gcd_dvd_left n d)) (Nat.gcd_pos_of_pos_left d (by omega));unfold Rx.of;have hz:(fv neg n d).num≠0:=by rw[h1];unfold sg;split<;>omega
 rw[Ag hz,h1,h2,Qs];congr 1;unfold sg;cases neg
 ·simp;exact Int.ediv_nonneg (by omega) (by omega)
 ·simp;omega
theorem wzqx:Rx.of 0=Rx.zero:=rfl
theorem Zb(q:Rat):(Rx.of q).Valid:=by
 unfold Rx.of;split
 ·exact .inl rfl
 ·rename_i h;refine .inr ⟨?_,?_,CK _,CK _,?_⟩
  ·simp only[ne_eq,Dh];omega
  ·simp only[ne_eq,Dh];exact q.den_nz
  ·simp only[AN];exact q.reduced
theorem wzr1{p q:Rat}(h:Rx.of p=Rx.of q):p=q:=by
 unfold Rx.of at h;split at h<;>split at h
 ·rename_i h1 h2;rw[Rat.num_eq_zero.1 h1,Rat.num_eq_zero.1 h2]
 ·rename_i h1 h2;have:=Gk Rx.num h;exact absurd (Dh.1 this.symm) (by omega)
 ·rename_i h1 h2;have:=Gk Rx.num h;exact absurd (Dh.1 this) (by omega)
 ·have a1:=Qq (Gk Rx.num h);have a2:=Qq (Gk Rx.den h);have a3:=Gk Rx.neg h;simp only[decide_eq_decide]at a3;exact Rat.ext (by omega) a2
noncomputable def Rx.q(r:Rx):Rat:=open Classical in if r.Valid then fv r.neg (sv r.num) (sv r.den) else 0
theorem Ei{l:List UInt8}(h1:l≠[])(h2:yzg l):sv l≠0:=by intro h;have:=Iy h2;rw[h]at this;exact h1 this.symm
theorem Rx.of_q{r:Rx}(h:r.Valid):Rx.of r.q=r:=by
 unfold Rx.q;rw[Aj h];rcases h with rfl|⟨h1,h2,h3,h4,h5⟩
 ·show Rx.of (fv false 0 0)=_;rw[M6];rfl
 ·rw[Za (Ei h1 h3) (Ei h2 h4),h5,Nat.div_one,Nat.div_one,Iy h3,Iy h4]
theorem Rx.q_of(q:Rat):(Rx.of q).q=q:=wzr1 (Rx.of_q (Zb q))
theorem Rx.q_zero:Rx.zero.q=0:=by rw[<-wzqx,Rx.q_of]
theorem Rx.q_bad{r:Rx}(h:¬r.Valid):r.q=0:=by unfold Rx.q;rw[Ag h]
theorem Rx.q_good{r:Rx}(h:r.Valid)(h0:r.num≠[]):r.q=fv r.neg (sv r.num) (sv r.den)/\sv r.num≠0/\sv r.den≠0:=by
 rcases h with rfl|⟨h1,h2,h3,h4,h5⟩
 ·exact absurd rfl h0
 ·exact⟨by unfold Rx.q;rw[Aj (.inr ⟨h1,h2,h3,h4,h5⟩)],Ei h1 h3,Ei h2 h4⟩
theorem Rx.q_num{r:Rx}(h0:r.num=[]):r.q=0:=by
 by_cases h:r.Valid
 ·rcases h with rfl|⟨h1,_⟩;·exact Rx.q_zero
  ·exact absurd h0 h1
 ·exact Rx.q_bad h
theorem Qu(a b:Bool)(n m d e:Nat):fv a n d*fv b m e=fv (a != b) (n*m) (d*e):=by unfold fv;rw[Rat.mkRat_mul_mkRat,wzsm]
theorem Zc(a:Bool)(n m:Nat){d e:Nat}(hd:d≠0)(he:e≠0):fv a n d+fv a m e=fv a (n*e+m*d) (d*e):=by unfold fv;rw[Rat.mkRat_add_mkRat _ _ hd he];congr 1;cases a<;>simp[sg,Int.natCast_add,NS,Int.neg_mul]<;>omega
theorem M7(a:Bool)(n m:Nat){d e:Nat}(hd:d≠0)(he:e≠0)(h:m*d<=n*e):fv a n d+fv (!a) m e=fv a (n*e-m*d) (d*e):=by
 unfold fv;rw[Rat.mkRat_add_mkRat _ _ hd he];congr 1;have:((n*e-m*d:Nat):Int)=(n:Int)*e-(m:Int)*d:=by rw[Int.ofNat_sub h,NS,NS]
 cases a<;>simp[sg,this,Int.neg_mul]<;>omega
theorem wzt4(a:Bool)(n d:Nat):fv (!a) n d = -fv a n d:=by unfold fv;rw[Rat.neg_mkRat];congr 1;cases a<;>simp[sg]
theorem Zd(a:Bool){n d:Nat}(hn:n≠0)(hd:d≠0):(fv a n d)⁻¹=fv a d n:=by
 unfold fv;rw[<-Rat.divInt_ofNat,Rat.inv_divInt,<-Rat.divInt_ofNat];cases a
 ·rfl
 ·simp only[sg,AZ];rw[Rat.divInt_neg']
theorem wzsc(a b:Bool){n m d e:Nat}(hm:m≠0)(he:e≠0):fv a n d / fv b m e=fv (a != b) (n*e) (d*m):=by rw[Rat.div_def,Zd b hm he,Qu]
theorem wzst{a:Bool}{n d:Nat}(hn:n≠0)(hd:d≠0):0<fv a n d↔a=false:=by rw[Rat.lt_iff,(Qt hd).1];have hp:0<n / Nat.gcd n d:=Nat.div_pos (Nat.le_of_dvd (by omega) (Nat.gcd_dvd_left n d)) (Nat.gcd_pos_of_pos_left d (by omega));cases a<;>simp[sg]<;>omega
end Go.Am

