/- Part U3: the mathematics of the functions of this seat. No condition. -/
import Derived.Test.YtjlgleghnenojaaDoorU2
set_option linter.unusedSimpArgs false
set_option linter.unusedVariables false
namespace Go.Am
def lens(j:Nat):Int:=[31,28,31,30,31,30,31,31,30,31,30,31].getD j 0
def leap(y:Int):Bool:=(decide (y.tmod 4=0)&&!decide (y.tmod 100=0))||decide (y.tmod 400=0)
def kzj7(y:Int):Int:=if leap y then 366 else 365
def mlen(y m:Int):Int:=if m=2/\leap y=true then 29 else lens (m-1).toNat
def cd:Nat->Int
 |0=>0
 |k+1=>cd k+kzj7 (2000+k)
def cm(y:Int):Nat->Int
 |0=>0
 |j+1=>cm y j+mlen y (1+j)
theorem kzkw(y:Int):365<=kzj7 y/\kzj7 y<=366:=by unfold kzj7;split<;>omega
theorem kzj1{a b:Nat}(h:a<=b):cd a<=cd b:=by
 induction h with
 |refl=>omega
 |@step m h ih=>have:=kzkw (2000+m);simp only[cd];omega
theorem kzlf(y:Int)(j:Nat)(hj:j<12):28<=mlen y (1+j)/\mlen y (1+j)<=31:=by
 unfold mlen;split
 ·omega
 ·have:j=0\/j=1\/j=2\/j=3\/j=4\/j=5\/j=6\/j=7\/j=8\/j=9\/j=10\/j=11:=by omega
  have e:((1+(j:Int))-1).toNat=j:=by omega
  rw[e];rcases this with rfl|rfl|rfl|rfl|rfl|rfl|rfl|rfl|rfl|rfl|rfl|rfl<;>decide
theorem kzkb{y:Int}{a b:Nat}(hb:b<=12)(h:a<=b):cm y a<=cm y b:=by
 induction h with
 |refl=>omega
 |@step m h ih=>have:=kzlf y m (by omega);have:=ih (by omega);simp only[cm];omega
def arF(l t:Int)(n m:Nat):Int:=if l=0 then t-t.tmod 1 else if l=1 then t-t.tmod 4 else if l=2 then t-t.tmod 96 else if l=4 then cd n*96 else(cd n+cm (2000+n) m)*96
def arT(l t:Int)(n m:Nat):Int:=if l=0 then t-t.tmod 1+1 else if l=1 then t-t.tmod 4+4 else if l=2 then t-t.tmod 96+96 else if l=4 then(cd n+kzj7 (2000+n))*96 else(cd n+cm (2000+n) m+mlen (2000+n) (1+m))*96
structure kzj0(d:Int)(n m:Nat):Prop where
 nn:n<40
 mm:m<12
 h1:cd n<=d
 h2:d<cd (n+1)
 h3:cm (2000+n) m<=d-cd n
 h4:d-cd n<cm (2000+n) (m+1)
theorem ivt(f:Nat->Int)(d:Int):∀K:Nat,f 0<=d->d<f K->∃k,k<K/\f k<=d/\d<f (k+1)
 |0,h0,h1=>by omega
 |K+1,h0,h1=>by
  by_cases h:f K<=d
  ·exact⟨K,by omega,h,h1⟩
  ·obtain⟨k,hk,h2,h3⟩:=ivt f d K h0 (by omega);exact⟨k,by omega,h2,h3⟩
theorem cm12(y:Int):cm y 12=kzj7 y:=by simp only[cm,mlen,kzj7,lens];cases leap y<;>decide
theorem kzsg(d:Int)(h0:0<=d)(h1:d<=14609):∃n m,kzj0 d n m:=by
 have e40:cd 40=14610:=by decide
 obtain⟨n,hn,a,b⟩:=ivt cd d 40 (by simpa [cd] using h0) (by omega);have hs:cd (n+1)=cd n+kzj7 (2000+n):=rfl;have e12:=cm12 (2000+n);obtain⟨m,hm,a',b'⟩:=ivt (cm (2000+n)) (d-cd n) 12 (by simp only[cm];omega) (by omega);exact⟨n,m,hn,hm,a,b,a',b'⟩
open Classical in
noncomputable def dn(d:Int):Nat:=if h:∃n m,kzj0 d n m then h.choose else 0
open Classical in
noncomputable def dm(d:Int):Nat:=if h:∃n m,kzj0 d n m then h.choose_spec.choose else 0
theorem kzl2(d:Int)(h0:0<=d)(h1:d<=14609):kzj0 d (dn d) (dm d):=by have h:=kzsg d h0 h1;unfold dn dm;rw[dif_pos h,dif_pos h];exact h.choose_spec.choose_spec
noncomputable def bF(l t:Int):Int:=arF l t (dn (t.tdiv 96)) (dm (t.tdiv 96))
noncomputable def bT(l t:Int):Int:=arT l t (dn (t.tdiv 96)) (dm (t.tdiv 96))
theorem tday(t:Int)(ht:0<=t)(ht2:t<1402560):0<=t.tdiv 96/\t.tdiv 96<=14609:=by rw[Gay ht];omega
theorem kzo3(l t:Int)(ht:0<=t)(ht2:t<1402560):0<=bF l t/\bF l t<=t:=by
 have D:=kzl2 _ (tday t ht ht2).1 (tday t ht ht2).2;have h1:=D.h1;have h3:=D.h3;have k1:0<=cd (dn (t.tdiv 96)):=kzj1 (Gdl _);have k2:0<=cm (2000+(dn (t.tdiv 96):Nat)) (dm (t.tdiv 96)):=kzkb (by have:=D.mm;omega) (Gdl _);unfold bF arF;rw[Int.tmod_eq_emod_of_nonneg ht,Int.tmod_eq_emod_of_nonneg ht,Int.tmod_eq_emod_of_nonneg ht];have hq:=Gay ht (b:=96);split
 ·omega
 split
 ·omega
 split
 ·omega
 split
 ·omega
 ·omega
theorem kztn(l t:Int)(hl:0<=l)(hl2:l<=4)(ht:0<=t)(ht2:t<1402560):0<=bT l t/\bT l t<=1402560:=by
 have D:=kzl2 _ (tday t ht ht2).1 (tday t ht ht2).2;have hn:=D.nn;have hm:=D.mm;have h1:cd (dn (t.tdiv 96)+1)<=cd 40:=kzj1 (by omega);have h40:cd 40=14610:=by decide
 have hs:cd (dn (t.tdiv 96)+1)=cd (dn (t.tdiv 96))+kzj7 (2000+(dn (t.tdiv 96):Nat)):=rfl;have hcm:cm (2000+(dn (t.tdiv 96):Nat)) (dm (t.tdiv 96)+1)<=cm (2000+(dn (t.tdiv 96):Nat)) 12:=kzkb (by omega) (by omega);have h12:=cm12 (2000+(dn (t.tdiv 96):Nat));have hsm:cm (2000+(dn (t.tdiv 96):Nat)) (dm (t.tdiv 96)+1)=cm (2000+(dn (t.tdiv 96):Nat)) (dm (t.tdiv 96))+mlen (2000+(dn (t.tdiv 96):Nat)) (1+(dm (t.tdiv 96):Nat)):=rfl;have hk0:0<=cd (dn (t.tdiv 96)):=kzj1 (Gdl _);have hk1:0<=cm (2000+(dn (t.tdiv 96):Nat)) (dm (t.tdiv 96)):=kzkb (by omega) (Gdl _);have hb1:=kzlf (2000+(dn (t.tdiv 96):Nat)) (dm (t.tdiv 96)) hm;have hb2:=kzkw (2000+(dn (t.tdiv 96):Nat));unfold bT arT;rw[Int.tmod_eq_emod_of_nonneg ht,Int.tmod_eq_emod_of_nonneg ht,Int.tmod_eq_emod_of_nonneg ht];split
 ·omega
 split
 ·omega
 split
 ·omega
 split
 ·omega
 ·omega
theorem kzks(k:Nat):cd (k+1)=cd k+kzj7 (2000+k):=rfl
theorem kzl0(y:Int)(j:Nat):cm y (j+1)=cm y j+mlen y (1+j):=rfl
theorem cd40:cd 40=14610:=by decide
theorem kzj0.uniq{d:Int}{n m n' m':Nat}(D:kzj0 d n m)(D':kzj0 d n' m'):n=n'/\m=m':=by
 have hn:n=n':=by
  rcases Nat.lt_trichotomy n n' with h|h|h
  ·have:=kzj1 (show n+1<=n' from h);have:=D.h2;have:=D'.h1;omega
  ·exact h
  ·have:=kzj1 (show n'+1<=n from h);have:=D'.h2;have:=D.h1;omega
 subst hn;refine⟨rfl,?_⟩;rcases Nat.lt_trichotomy m m' with h|h|h
 ·have:=kzkb (y:=2000+n) (by have:=D'.mm;omega) (show m+1<=m' from h);have:=D.h4;have:=D'.h3;omega
 ·exact h
 ·have:=kzkb (y:=2000+n) (by have:=D.mm;omega) (show m'+1<=m from h);have:=D'.h4;have:=D.h3;omega
theorem kzj0.eq{d:Int}{n m:Nat}(D:kzj0 d n m)(h0:0<=d)(h1:d<=14609):dn d=n/\dm d=m:=(kzl2 d h0 h1).uniq D
def fd(l:Int)(n m:Nat):Int:=if l=4 then cd n else cd n+cm (2000+n) m
def ed(l:Int)(n m:Nat):Int:=if l=4 then cd (n+1) else cd n+cm (2000+n) (m+1)
theorem kzkh(l t:Int)(hl:l=3\/l=4):bF l t=fd l (dn (t.tdiv 96)) (dm (t.tdiv 96))*96:=by unfold bF arF fd;rcases hl with rfl|rfl<;>simp
theorem kzke(l t:Int)(hl:l=3\/l=4):bT l t=ed l (dn (t.tdiv 96)) (dm (t.tdiv 96))*96:=by unfold bT arT ed;rcases hl with rfl|rfl<;>simp[kzks,kzl0,Int.add_assoc]
theorem cm0(y:Int):cm y 0=0:=rfl
theorem kzlz(k:Nat):0<=cd k:=kzj1 (Gdl k)
theorem kzng(y:Int)(k:Nat)(h:k<=12):0<=cm y k:=kzkb h (Gdl k)
theorem kzj0.inside{l d:Int}(hl:l=3\/l=4){n m:Nat}(D:kzj0 d n m)(hd:d<=14609){j:Int}(h1:fd l n m<=j)(h2:j<ed l n m):0<=j/\j<=14609/\∃m',kzj0 j n m'/\(l=3->m'=m):=by
 have nn:=D.nn;have mm:=D.mm;have k0:=kzlz n;have k1:=kzng (2000+n) m (by omega);have k40:cd (n+1)<=14610:=by rw[<-cd40];exact kzj1 nn
 have e12:=cm12 (2000+n);have km:cm (2000+n) (m+1)<=cm (2000+n) 12:=kzkb (by omega) (by omega);have hs:=kzks n;rcases hl with rfl|rfl
 ·simp only[fd,ed,show ¬((3:Int)=4) by omega,Gd2]at h1 h2;exact⟨by omega,by omega,m,⟨nn,mm,by omega,by omega,by omega,by omega⟩,fun _=>rfl⟩
 ·simp only[fd,ed,Gd5]at h1 h2;obtain⟨m',hm',a,b⟩:=ivt (cm (2000+n)) (j-cd n) 12 (by rw[cm0];omega) (by omega);exact⟨by omega,by omega,m',⟨nn,hm',by omega,by omega,a,b⟩,fun e=>by omega⟩
theorem kztu(l:Int)(hl:l=1\/l=2){t t':Int}(ht:0<=t)(ht':0<=t')(ha:bF l t<=t')(hb:t'<bT l t):t'.tdiv 96=t.tdiv 96/\(l=1->t'-t'.tmod 4=t-t.tmod 4)/\t'-t'.tmod 96=t-t.tmod 96:=by
 rw[Gay ht,Gay ht',Int.tmod_eq_emod_of_nonneg ht,Int.tmod_eq_emod_of_nonneg ht',Int.tmod_eq_emod_of_nonneg ht,Int.tmod_eq_emod_of_nonneg ht'];unfold bF arF at ha;unfold bT arT at hb;rw[Int.tmod_eq_emod_of_nonneg ht,Int.tmod_eq_emod_of_nonneg ht,Int.tmod_eq_emod_of_nonneg ht]at ha hb;rcases hl with rfl|rfl
 ·simp only[show ¬((1:Int)=0) by omega,Gd2,Gd5]at ha hb;refine⟨by omega,fun _=>by omega,by omega⟩
 ·simp only[show ¬((2:Int)=0) by omega,show ¬((2:Int)=1) by omega,Gd2,Gd5]at ha hb;refine⟨by omega,fun h=>by omega,by omega⟩
theorem kzwy{l t:Int}(ht:0<=t)(ht2:t<1402560):0<=bF l t:=(kzo3 l t ht ht2).1
theorem nest{l l' t t':Int}(h1:1<=l)(h2:l<=l')(h3:l'<=4)(ht:0<=t)(ht2:t<1402560)(ha:bF l t<=t')(hb:t'<bT l t):bF l' t'=bF l' t/\bT l' t'=bT l' t:=by
 have ht':0<=t':=by have:=kzwy (l:=l) ht ht2;omega
 have dd:=tday t ht ht2;have D:=kzl2 _ dd.1 dd.2;by_cases hl:l=1\/l=2
 ·obtain⟨e1,e2,e3⟩:=kztu l hl ht ht' ha hb;have cases:l'=1\/l'=2\/l'=3\/l'=4:=by omega
  rcases cases with rfl|rfl|rfl|rfl
  ·have e2:=e2 (by omega);unfold bF bT arF arT;simp only[show ¬((1:Int)=0) by omega,Gd2,Gd5];omega
  ·unfold bF bT arF arT;simp only[show ¬((2:Int)=0) by omega,show ¬((2:Int)=1) by omega,Gd2,Gd5];omega
  ·rw[kzkh _ _ (.inl rfl),kzkh _ _ (.inl rfl),kzke _ _ (.inl rfl),kzke _ _ (.inl rfl),e1];exact⟨rfl,rfl⟩
  ·rw[kzkh _ _ (.inr rfl),kzkh _ _ (.inr rfl),kzke _ _ (.inr rfl),kzke _ _ (.inr rfl),e1];exact⟨rfl,rfl⟩
 ·have hl:l=3\/l=4:=by omega
  rw[kzkh _ _ hl]at ha;rw[kzke _ _ hl]at hb;have q:=Gay ht' (b:=96);obtain⟨j0,j1,m',D',hm⟩:=D.inside hl dd.2 (j:=t'.tdiv 96) (by omega) (by omega);obtain⟨e1,e2⟩:=D'.eq j0 j1;rcases hl with rfl|rfl
  ·have hm:=hm rfl;subst hm;have hl':l'=3\/l'=4:=by omega
   rw[kzkh _ _ hl',kzkh _ _ hl',kzke _ _ hl',kzke _ _ hl',e1,e2];exact⟨rfl,rfl⟩
  ·obtain rfl:l'=4:=by omega
   rw[kzkh _ _ (.inr rfl),kzkh _ _ (.inr rfl),kzke _ _ (.inr rfl),kzke _ _ (.inr rfl)];simp only[fd,ed,Gd5,e1];exact⟨trivial,trivial⟩
theorem kzoe(y:Int):kzih y=some (leap y):=by unfold kzih leap;cases decide (y.tmod 4=0)<;>cases decide (y.tmod 100=0)<;>rfl
theorem kzd2(y:Int):kzip y=some (kzj7 y):=by unfold kzip kzj7;rw[kzoe,bd_s];cases leap y<;>rfl
theorem kzk0(y:Int)(m:Nat)(hm:m<12):kzh7 y (1+m)=some (mlen y (1+m)):=by
 unfold kzh7 mlen;by_cases h:(1+(m:Int))=2
 ·rw[Gdy h,qzbx,kzoe,bd_s];simp only[Gdu];cases hl:leap y
  ·rw[qzil,Gd3 (by simp)];obtain rfl:m=1:=by omega
   rfl
  ·rw[wzdh,Gd4 ⟨h,rfl⟩]
 ·rw[Gdw h,wzcn,bd_s];simp only[Gdt];rw[qzil,Gd3 (fun h'=>h h'.1)];have:m=0\/m=1\/m=2\/m=3\/m=4\/m=5\/m=6\/m=7\/m=8\/m=9\/m=10\/m=11:=by omega
  rcases this with rfl|rfl|rfl|rfl|rfl|rfl|rfl|rfl|rfl|rfl|rfl|rfl<;>rfl
theorem kzty{d:Int}(h0:0<=d)(h1:d<=14609){n m:Nat}(D:kzj0 d n m):kzju d=some ((2000:Int)+n,(1:Int)+m,d-cd n-cm (2000+n) m+1,0):=by
 have nn:=D.nn;have mm:=D.mm;have a1:=D.h1;have a2:=D.h2;have a3:=D.h3;have a4:=D.h4;unfold kzju;rw[Gdw (show ¬d<0 by omega),Gdw (show ¬14609<d by omega)];simp only[Gdt,qzil]
 have e1:lp kzje (d,2000)=some (d-cd n,(2000:Int)+n):=by
  refine jzct (fun k:Nat=>(d-cd k,(2000:Int)+k)) n (by omega) (fun k hk=>?_) ?_ (by simp[cd])
  ·have k1:=kzj1 (show k+1<=n from hk);have k2:=kzks k;have k3:=kzlz k;have k4:=kzkw (2000+k);unfold kzje;dsimp only;rw[kzd2,bd_s,it_d (by omega),bd_s,qz3 (by omega),qz3 (by omega),k2];congr 3
   ·omega
  ·have k2:=kzks n;unfold kzje;dsimp only;rw[kzd2,bd_s,it_n (by omega)]
 rw[e1,bd_s];dsimp only
 have e2:lp (kzjd (2000+n)) (d-cd n,1)=some (d-cd n-cm (2000+n) m,(1:Int)+m):=by
  refine jzct (fun k:Nat=>(d-cd n-cm (2000+n) k,(1:Int)+k)) m (by omega) (fun k hk=>?_) ?_ (by simp[cm])
  ·have k1:=kzkb (y:=2000+n) (by omega) (show k+1<=m from hk);have k2:=kzl0 (2000+n) k;have k3:=kzng (2000+n) k (by omega);have k4:=kzlf (2000+n) k (by omega);have k5:=kzlz n;unfold kzjd;dsimp only;rw[kzk0 _ _ (by omega),bd_s,it_d (by omega),bd_s,qz3 (by omega),qz3 (by omega),k2];congr 3
   ·omega
  ·have k2:=kzl0 (2000+n) m;unfold kzjd;dsimp only;rw[kzk0 _ _ (by omega),bd_s,it_n (by omega)]
 have k5:=kzlz n;have k3:=kzng (2000+n) m (by omega);rw[e2,bd_s];dsimp only;rw[qz3 (by omega)]
theorem kzvl{n:Nat}(hn:n<40):kzj3 (2000+n) 1 1=some (cd n,0):=by
 unfold kzj3;rw[Gdw (show ¬(2000+(n:Int))<2000 by omega),Gdw (show ¬2040<=(2000+(n:Int)) by omega),Gdw (show ¬(1:Int)<1 by omega),Gdw (show ¬(12:Int)<1 by omega)];simp only[Gdt,Gap,qzbx];have e0:=kzk0 (2000+n) 0 (by omega);have e0:kzh7 (2000+n) 1=some (mlen (2000+n) 1):=e0;have b0:28<=mlen (2000+n) 1:=(kzlf (2000+n) 0 (by omega)).1;rw[e0,bd_s,it_n (by omega),qz3 (by omega)]
 have e1:lp (kzjj (2000+n)) ((1:Int)-1,2000)=some (cd n):=by
  refine jzct (fun k:Nat=>(cd k,(2000:Int)+k)) n (by omega) (fun k hk=>?_) ?_ rfl
  ·have k2:=kzks k;have k3:=kzlz k;have k4:=kzkw (2000+k);have k1:=kzj1 (show k<=40 by omega);rw[cd40]at k1;unfold kzjj;dsimp only;rw[it_d (by omega),kzd2,bd_s,qz3 (by omega),qz3 (by omega),k2];congr 3
  ·unfold kzjj;dsimp only;rw[it_n (by omega)]
 rw[e1,bd_s];have e2:lp (kzj5 1 (2000+n)) (cd n,1)=some (cd n):=by refine jzct (fun k:Nat=>(cd n,(1:Int))) 0 (by omega) (fun k hk=>by omega) ?_ rfl;unfold kzj5;dsimp only;rw[it_n (by omega)]
 rw[e2,bd_s]
theorem kzmk{k l t:Int}(hk:1<=k)(hk2:k<=96)(ht:0<=t)(ht2:t<1402560):kzik k l t=some ⟨l,t-t.tmod k,t-t.tmod k+k⟩:=by have h1:=Int.tmod_nonneg k ht;have h2:t.tmod k<k:=Int.tmod_lt_of_pos t (by omega);unfold kzik;rw[qzwv (by omega),qz3 (by omega),qzwv (by omega),qz3 (by omega),qz3 (by omega)]
theorem kzm7{l t:Int}(h0:1<=l)(h1:l<=4)(ht:0<=t)(ht2:t<1402560):kzi2 l t=some ⟨l,bF l t,bT l t⟩:=by
 have dd:=tday t ht ht2;have D:=kzl2 _ dd.1 dd.2;unfold kzi2 bF bT arF arT;rw[it_n (by omega)];by_cases c1:l=1
 ·subst c1;rw[it_d rfl,kzmk (by omega) (by omega) ht ht2,bd_s];simp
 rw[it_n c1];by_cases c2:l=2
 ·subst c2;rw[it_d rfl,kzmk (by omega) (by omega) ht ht2,bd_s];simp
 have nn:=D.nn;have mm:=D.mm;have a1:=D.h1;have a2:=D.h2;have a3:=D.h3;have a4:=D.h4;generalize dn (t.tdiv 96)=n at *;generalize dm (t.tdiv 96)=m at *;have k1:=kzlz n;have k2:=kzng (2000+n) m (by omega);have k3:=kzlf (2000+n) m mm;have k4:=kzkw (2000+n);rw[it_n c2,qz3 (by omega),kzty dd.1 dd.2 D,bd_s];dsimp only;rw[qz3 (by omega),qz3 (by omega),kzk0 _ _ mm,bd_s];simp only[show ¬l=0 by omega,c1,c2,Gd2];by_cases c4:l=4
 ·rw[it_d c4,kzvl nn,bd_s,kzd2,bd_s];dsimp only;rw[qz3 (by omega),qz3 (by omega),qz3 (by omega)];simp only[c4,Gd5]
 ·rw[it_n c4,qz3 (by omega),qz3 (by omega),qz3 (by omega)];simp only[c4,Gd2];congr 2
  ·omega
  ·omega
theorem qz27{l:Int}(h0:0<=l)(h1:l<=4):kzi8 l=some true:=by unfold kzi8;rw[Gdy h0,Gdy h1];rfl
theorem kzsh{l t:Int}(h0:1<=l)(h1:l<=4)(ht:0<=t)(ht2:t<1402560):kzic l t=some (⟨l,bF l t,bT l t⟩,0):=by unfold kzic;rw[qz27 (by omega) h1,bd_s,Gdw (show ¬t<0 by omega),Gdw (show ¬1402560<=t by omega)];simp only[Gaq,Gdt,qzil];rw[kzm7 h0 h1 ht ht2,bd_s]
theorem kzov{l t:Int}(h0:1<=l)(h1:l<=4)(ht:0<=t)(ht2:t<1402560):t<bT l t:=by
 have dd:=tday t ht ht2;have D:=kzl2 _ dd.1 dd.2;have a2:=D.h2;have a4:=D.h4;have s1:=kzks (dn (t.tdiv 96));have s2:=kzl0 (2000+(dn (t.tdiv 96):Nat)) (dm (t.tdiv 96));have hq:=Gay ht (b:=96);unfold bT arT;rw[Int.tmod_eq_emod_of_nonneg ht,Int.tmod_eq_emod_of_nonneg ht,Int.tmod_eq_emod_of_nonneg ht];split
 ·omega
 split
 ·omega
 split
 ·omega
 split
 ·omega
 ·omega
theorem kzsa{l t:Int}(h0:1<=l)(h1:l<=4)(ht:0<=t)(ht2:t<1402560):kziw ⟨l,bF l t,bT l t⟩=some true:=by have b1:=kzo3 l t ht ht2;have b2:=kzov h0 h1 ht ht2;obtain⟨e1,e2⟩:=nest (l:=l) (l':=l) (t:=t) (t':=bF l t) h0 (Gaw _) h1 ht ht2 (Gaw _) (by omega);unfold kziw;dsimp only;rw[qz27 (by omega) h1,bd_s,Gdy (show 0<=bF l t by omega),Gdy (show bF l t<1402560 by omega)];simp only[Gdu,qzbx];rw[kzm7 h0 h1 (by omega) (by omega),bd_s,e1,e2];simp
theorem kzl9{fs:List kzhv}{f:kzhv->Option Bool}{p:kzhv->Bool}(hf:∀x∈fs,f x=some (p x))(hl:fs.length<=1000000):jz8 fs f=some (fs.any p):=by
 unfold jz8 qzas
 have e0:lp (kze f fs) 0=some (sOut (scan (fun k x=>if p x=true then some (k:Int) else none) 0 fs)):=by
  refine wz3m _ (by omega) (fun k x hk=>?_) ?_
  ·have hlt:=(Gbg.1 hk).1;unfold kze;dsimp only;rw[it_d (by omega),at_e rfl hk,bd_s,hf x (Gb9 hk),bd_s];cases p x
   ·rw[qzil,qz3 (by omega)];rfl
   ·rw[wzdh];rfl
  ·unfold kze;dsimp only;rw[it_n (by omega)]
 rw[e0];cases hs:scan (fun k x=>if p x=true then some (k:Int) else none) 0 fs with
 |none =>
  have:fs.any p=false:=by rw[List.any_eq_false];intro x hx hp;obtain⟨i,hi⟩:=List.getElem?_of_mem hx;have:=wz5l hs hi;rw[Gd4 hp]at this;cases this
  rw[this];rfl
 |some o =>
  obtain⟨i,x,h1,h2,_⟩:=wz6q _ _ _ hs;have hp:p x=true:=by apply Classical.byContradiction;intro h;rw[Gd3 h]at h2;cases h2
  have:fs.any p=true:=List.any_eq_true.2 ⟨x,Gb9 h1,hp⟩;rw[Gd4 hp]at h2;rw[this];cases h2;show some (decide ((0:Int)<=((0+i:Nat):Int)))=_;rw[Gdy (by omega)]
def lim(k:kzhu)(l:Int):Int:=if l=1 then k.limits.e1 else if l=2 then k.limits.e2 else if l=3 then k.limits.e3 else k.limits.e4
def hits(a b:Int)(x:kzhv):Bool:=decide (x.From<b)&&decide (a<x.To)
noncomputable def kzin(k:kzhu)(l t:Int):Bool:=decide (lim k l<k.today-(bT l t-1).tdiv 96)&&!k.freezes.any (hits (bF l t) (bT l t))
structure KOk(k:kzhu):Prop where
 t:0<=k.today/\k.today<=14609
 f:k.freezes.length<=1000
theorem kzvy{k:kzhu}(K:KOk k){l t:Int}(h0:1<=l)(h1:l<=4)(ht:0<=t)(ht2:t<1402560):kzh6 k ⟨l,bF l t,bT l t⟩=some (kzin k l t):=by
 have b1:=kztn l t (by omega) h1 ht ht2;have b2:=kzov h0 h1 ht ht2;have k1:=K.t;have hq:=Gay (a:=bT l t-1) (by omega) (b:=96);unfold kzh6;dsimp only;rw[qz3 (by omega),qz3 (by omega)]
 have e:at? [k.limits.e0,k.limits.e1,k.limits.e2,k.limits.e3,k.limits.e4] l=some (lim k l):=by
  have:l=1\/l=2\/l=3\/l=4:=by omega
  rcases this with rfl|rfl|rfl|rfl<;>rfl
 rw[e,bd_s];unfold kzin;by_cases c:lim k l<k.today-(bT l t-1).tdiv 96
 ·rw[Gdy c,qzbx,kzl9 (p:=hits (bF l t) (bT l t)) (fun x hx=>?_) (by have:=K.f;omega),bd_s];·rfl
  ·unfold kzh1 hits;dsimp only;cases decide (x.From<bT l t)<;>rfl
 ·rw[Gdw c,wzcn,bd_s];rfl
noncomputable def due(k:kzhu)(t:Int):kzht :=
 if kzin k 4 t then⟨4,bF 4 t,bT 4 t⟩ else if kzin k 3 t then⟨3,bF 3 t,bT 3 t⟩ else if kzin k 2 t then⟨2,bF 2 t,bT 2 t⟩ else if kzin k 1 t then⟨1,bF 1 t,bT 1 t⟩ else⟨0,bF 1 t,bT 1 t⟩
theorem kzu1{k:kzhu}(K:KOk k){t:Int}(ht:0<=t)(ht2:t<1402560):kzid k t=some (due k t):=by
 have step:∀(n:Nat) (l:Int),1<=l->l<=4->kzh3 k t (n+1) l=ite' (kzin k l t) (some ⟨l,bF l t,bT l t⟩) (ite' (decide (l=1)) (some ⟨0,bF l t,bT l t⟩) (kzh3 k t n (l-1))):=fun n l h0 h1=>by show bd (kzic l t) _=_;rw[kzsh h0 h1 ht ht2,bd_s,kzvy K h0 h1 ht ht2,bd_s]
 unfold kzid due;rw[step 3 4 (by omega) (by omega)];cases kzin k 4 t
 ·rw[qzil,it_n (by omega),show(4:Int)-1=3 from rfl,step 2 3 (by omega) (by omega)];cases kzin k 3 t
  ·rw[qzil,it_n (by omega),show(3:Int)-1=2 from rfl,step 1 2 (by omega) (by omega)];cases kzin k 2 t
   ·rw[qzil,it_n (by omega),show(2:Int)-1=1 from rfl,step 0 1 (by omega) (by omega)];cases kzin k 1 t
    ·rw[qzil,it_d rfl];rfl
    ·rfl
   ·rfl
  ·rfl
 ·rfl
theorem kzq8(k:kzhu)(t:Int):∃l,1<=l/\l<=4/\(due k t).From=bF l t/\(due k t).To=bT l t/\((due k t).Level=l\/((due k t).Level=0/\l=1)):=by
 unfold due;split
 ·exact⟨4,by omega,by omega,rfl,rfl,.inl rfl⟩
 split
 ·exact⟨3,by omega,by omega,rfl,rfl,.inl rfl⟩
 split
 ·exact⟨2,by omega,by omega,rfl,rfl,.inl rfl⟩
 split
 ·exact⟨1,by omega,by omega,rfl,rfl,.inl rfl⟩
 ·exact⟨1,by omega,by omega,rfl,rfl,.inr ⟨rfl,rfl⟩⟩
theorem kzuu{k:kzhu}{t:Int}(ht:0<=t)(ht2:t<1402560):0<=(due k t).From/\(due k t).From<=t/\t<(due k t).To/\(due k t).To<=1402560:=by obtain⟨l,h0,h1,e1,e2,_⟩:=kzq8 k t;have b1:=kzo3 l t ht ht2;have b2:=kzov h0 h1 ht ht2;have b3:=kztn l t (by omega) h1 ht ht2;rw[e1,e2];omega
theorem kzsm{k:kzhu}{t u:Int}(ht:0<=t)(ht2:t<1402560)(h1:(due k t).From<=u)(h2:u<(due k t).To):due k u=due k t:=by
 have mm:∀l,(∀l',l<=l'->l'<=4->1<=l->bF l' u=bF l' t/\bT l' u=bT l' t)->∀l',l<=l'->l'<=4->1<=l->kzin k l' u=kzin k l' t:=fun l h l' a b c=>by unfold kzin;rw[(h l' a b c).1,(h l' a b c).2]
 have nn:∀l,bF l t<=u->u<bT l t->∀l',l<=l'->l'<=4->1<=l->bF l' u=bF l' t/\bT l' u=bT l' t:=fun l a b l' c d e=>nest e c d ht ht2 a b;unfold due at h1 h2 ⊢;by_cases m4:kzin k 4 t=true
 ·rw[Gd4 m4]at h1 h2 ⊢;have n:=nn 4 h1 h2;rw[mm 4 n 4 (by omega) (by omega) (by omega),Gd4 m4,(n 4 (by omega) (by omega) (by omega)).1,(n 4 (by omega) (by omega) (by omega)).2]
 rw[Gd3 m4]at h1 h2 ⊢;by_cases m3:kzin k 3 t=true
 ·rw[Gd4 m3]at h1 h2 ⊢;have n:=nn 3 h1 h2;rw[mm 3 n 4 (by omega) (by omega) (by omega),mm 3 n 3 (by omega) (by omega) (by omega),Gd3 m4,Gd4 m3,(n 3 (by omega) (by omega) (by omega)).1,(n 3 (by omega) (by omega) (by omega)).2]
 rw[Gd3 m3]at h1 h2 ⊢;by_cases m2:kzin k 2 t=true
 ·rw[Gd4 m2]at h1 h2 ⊢;have n:=nn 2 h1 h2;rw[mm 2 n 4 (by omega) (by omega) (by omega),mm 2 n 3 (by omega) (by omega) (by omega),mm 2 n 2 (by omega) (by omega) (by omega),Gd3 m4,Gd3 m3,Gd4 m2,(n 2 (by omega) (by omega) (by omega)).1,(n 2 (by omega) (by omega) (by omega)).2]
 rw[Gd3 m2]at h1 h2 ⊢;by_cases m1:kzin k 1 t=true
 ·rw[Gd4 m1]at h1 h2 ⊢;have n:=nn 1 h1 h2;rw[mm 1 n 4 (by omega) (by omega) (by omega),mm 1 n 3 (by omega) (by omega) (by omega),mm 1 n 2 (by omega) (by omega) (by omega),mm 1 n 1 (by omega) (by omega) (by omega),Gd3 m4,Gd3 m3,Gd3 m2,Gd4 m1,(n 1 (by omega) (by omega) (by omega)).1,(n 1 (by omega) (by omega) (by omega)).2]
 ·rw[Gd3 m1]at h1 h2 ⊢;have n:=nn 1 h1 h2;rw[mm 1 n 4 (by omega) (by omega) (by omega),mm 1 n 3 (by omega) (by omega) (by omega),mm 1 n 2 (by omega) (by omega) (by omega),mm 1 n 1 (by omega) (by omega) (by omega),Gd3 m4,Gd3 m3,Gd3 m2,Gd3 m1,(n 1 (by omega) (by omega) (by omega)).1,(n 1 (by omega) (by omega) (by omega)).2]
theorem kzpr{k k':kzhu}(hl:k.limits=k'.limits)(hf:k.freezes=k'.freezes)(ht:k.today<=k'.today){t:Int}(h:(due k' t).Level=0):(due k t).Level=0:=by
 have mono:∀l,kzin k l t=true->kzin k' l t=true:=fun l h=>by unfold kzin lim at h ⊢;rw[<-hl,<-hf];simp only[Gai,Gdz]at h ⊢;exact⟨by omega,h.2⟩
 unfold due at h ⊢;have n4:¬kzin k' 4 t=true:=fun e=>by rw[Gd4 e]at h;simp at h
 rw[Gd3 n4]at h;have n3:¬kzin k' 3 t=true:=fun e=>by rw[Gd4 e]at h;simp at h
 rw[Gd3 n3]at h;have n2:¬kzin k' 2 t=true:=fun e=>by rw[Gd4 e]at h;simp at h
 rw[Gd3 n2]at h;have n1:¬kzin k' 1 t=true:=fun e=>by rw[Gd4 e]at h;simp at h
 rw[Gd3 fun e=>n4 (mono 4 e),Gd3 fun e=>n3 (mono 3 e),Gd3 fun e=>n2 (mono 2 e),Gd3 fun e=>n1 (mono 1 e)]
theorem kzrd{k:kzhu}{t:Int}(ht:0<=t)(ht2:t<1402560)(h:(due k t).Level≠0):kziw (due k t)=some true:=by
 obtain⟨l,h0,h1,e1,e2,e3⟩:=kzq8 k t;have e4:(due k t).Level=l:=e3.resolve_right fun h'=>h h'.1
 have e:due k t=⟨l,bF l t,bT l t⟩:=by
  rw[<-e1,<-e2]
  conv=>rhs;rw[<-e4]
 rw[e];exact kzsa h0 h1 ht ht2
structure El(k:kzhu)(x:kzht):Prop where
 a:0<=x.From
 b:x.From<x.To
 c:x.To<=1402560
 r:x.Level=0->∀u,x.From<=u->u<x.To->(due k u).Level=0
 l:x.Level≠0->x=due k x.From
def Els(k:kzhu)(L:List kzht):Prop:=L.Pairwise (fun x y=>x.To<=y.From)/\∀x∈L,El k x
theorem Els.snoc{k:kzhu}{L:List kzht}{x:kzht}(h:Els k L)(hx:El k x)(hl:∀y∈L,y.To<=x.From):Els k (L++[x]):=by
 refine⟨List.pairwise_append.2 ⟨h.1,Gch _ _,fun a ha b hb=>?_⟩,fun y hy=>?_⟩
 ·rw[Gcc.1 hb];exact hl a ha
 ·rcases Gb2.1 hy with hy|hy;·exact h.2 y hy
  ·rw[Gcc.1 hy];exact hx
theorem kzn3:∀{l s:List kzht},s.length+l.length<=4000->wz20 kzij l s=some (.inl (s++l))
 |[],s,_=>by simp[wz20]
 |x :: l,s,h=>by
  simp only[Gbr]at h;unfold wz20;have e:kzij x s=some (.inl (s++[x])):=by unfold kzij;dsimp only;rw[it_n (by omega),ck_d (by simp only[Gbq,Gby];omega)]
  rw[e];dsimp only;rw[kzn3 (by simp only[Gbq,Gby];omega)];simp
theorem kzmi{l:List kzht}(h:l.length<=4000):wz4k kzij l []=some false:=by unfold wz4k;rw[kzn3 (by simpa using h)]
structure Bs(k:kzhu)(f t:Int)(at' rF rT:Int)(ys:List kzht):Prop where
 e:Els k ys
 o:∀x∈ys,x.To<=rF
 a:f<=at'/\0<=rF/\rF<=rT/\rT<=at'/\rT<=1402560/\at'<=1402560
 n:at'<t->rT=at'
 r:∀u,rF<=u->u<rT->(due k u).Level=0
 p:(at'=f/\ys=[]/\rF=f/\rT=f)\/(0<at'/\(due k (at'-1)).To=at')
 s:(ys.length:Int)<=2*(at'-f)
theorem kzt3{k:kzhu}(K:KOk k){f t:Int}(h0:0<=f)(h1:f<=t)(h2:t<=1402560)(h3:t-f<=300):∃L,kzil ⟨f,t⟩ k (fun l=>wz4k kzij l [])=some L/\Els k L/\L.length<=4000:=by
 unfold kzil
 obtain⟨o,e,b,ys,rfl,rF,rT,at',eb,hB⟩:∃o,lp (kzi4 ⟨f,t⟩ k (fun l=>wz4k kzij l [])) (f,kzht.mk 0 f f,[])=some o/\∃b ys,o=.inl (b,ys)/\∃rF rT at',b=⟨0,rF,rT⟩/\Bs k f t at' rF rT ys/\ys.length<=700:=by
  refine jzd2 (ι:=Int×Int×Int×List kzht) (fun i=>(i.1,kzht.mk 0 i.2.1 i.2.2.1,i.2.2.2)) (fun i=>Bs k f t i.1 i.2.1 i.2.2.1 i.2.2.2/\i.2.2.2.length<=700/\(i.1<t->(i.2.2.2.length:Int)<=600)) (fun i=>(t-i.1).toNat) _ ?_ (f,f,f,[]) rfl ?_ (by show(t-f).toNat<_;omega)
  ·rintro⟨at',rF,rT,ys⟩ ⟨B,bl,bl2⟩;simp only at B bl bl2 ⊢;obtain⟨a1,a2,a3,a4,a5,a6⟩:=B.a;unfold kzi4;dsimp only;by_cases c:at'<t
   ·left;have rt:=B.n c;have bl2:=bl2 c;obtain⟨d1,d2,d3,d4⟩:=kzuu (k:=k) (t:=at') (by omega) (by omega);have hsame:=fun u (p:(due k at').From<=u) (q:u<(due k at').To)=>kzsm (k:=k) (t:=at') (u:=u) (by omega) (by omega) p q;have hnext:due k ((due k at').To-1)=due k at':=hsame _ (by omega) (by omega);have hfirst:(0<at'/\(due k (at'-1)).To=at')->(due k at').From=at':=fun⟨p,q⟩=>Classical.byContradiction fun hne=>by have:=hsame (at'-1) (by omega) (by omega);rw[this]at q;omega
    rw[it_d c,kzu1 K (by omega) (by omega),bd_s];by_cases cl:(due k at').Level=0
    ·rw[it_d cl];refine⟨((due k at').To,rF,min (due k at').To t,ys),rfl,⟨⟨B.e,B.o,⟨by simp only;omega,a2,by simp only;omega,by simp only;omega,by simp only;omega,d4⟩,fun h=>by simp only at h ⊢;omega,fun u p q=>?_,.inr ⟨by simp only;omega,by simp only;rw[hnext]⟩,?_⟩,bl,fun h=>?_⟩,?_⟩
     ·by_cases hu:u<rT;·exact B.r u p hu
      ·rw[hsame u (by omega) (by simp only at q;omega)];exact cl
     ·have:=B.s;simp only;omega
     ·simp only at h ⊢;exact bl2
     ·simp only;omega
    ·rw[it_n cl];have hEl:El k (due k at'):=⟨d1,by omega,d4,fun h=>absurd h cl,fun _=>(hsame _ (Gaw _) (by omega)).symm⟩;by_cases cr:rF<rT
     ·have hp:0<at'/\(due k (at'-1)).To=at':=by
       rcases B.p with ⟨p1,p2,p3,p4⟩|h
       ·omega
       ·exact h
      have hf:=hfirst hp;have hR:El k ⟨0,rF,rT⟩:=⟨a2,cr,a5,fun _=>B.r,fun h=>absurd rfl h⟩;have E1:=B.e.snoc hR B.o
      have E2:=E1.snoc hEl fun y hy=>by
       rcases Gb2.1 hy with hy|hy
       ·have:=B.o y hy;omega
       ·rw[Gcc.1 hy];simp only;omega
      have l1:(ys++[kzht.mk 0 rF rT]).length=ys.length+1:=(by simp);have l2:((ys++[kzht.mk 0 rF rT])++[due k at']).length=ys.length+2:=(by simp);rw[it_d cr,kzmi (by omega),bd_s,qzil,kzmi (by omega),bd_s,qzil];refine⟨((due k at').To,(due k at').To,(due k at').To,(ys++[kzht.mk 0 rF rT])++[due k at']),rfl,⟨⟨E2,fun x hx=>?_,⟨by simp only;omega,by simp only;omega,Gaw _,Gaw _,d4,d4⟩,fun h=>rfl,fun u p q=>by simp only at p q;omega,.inr ⟨by simp only;omega,by simp only;rw[hnext]⟩,?_⟩,by simp only;omega,fun h=>?_⟩,?_⟩
      ·simp only at hx ⊢;rcases Gb2.1 hx with hx|hx
       ·rcases Gb2.1 hx with hx|hx;·have:=B.o x hx;omega
        ·rw[Gcc.1 hx];simp only;omega
       ·rw[Gcc.1 hx];omega
      ·have:=B.s;simp only;omega
      ·have:=B.s;simp only at h ⊢;omega
      ·simp only;omega
     ·have hlo:∀y∈ys,y.To<=(due k at').From:=fun y hy=>by
       rcases B.p with ⟨p1,p2,p3,p4⟩|h
       ·rw[p2]at hy;cases hy
       ·have:=hfirst h;have:=B.o y hy;omega
      have E1:=B.e.snoc hEl hlo;have l1:(ys++[due k at']).length=ys.length+1:=(by simp);rw[it_n cr,kzmi (by omega),bd_s,qzil];refine⟨((due k at').To,(due k at').To,(due k at').To,ys++[due k at']),rfl,⟨⟨E1,fun x hx=>?_,⟨by simp only;omega,by simp only;omega,Gaw _,Gaw _,d4,d4⟩,fun h=>rfl,fun u p q=>by simp only at p q;omega,.inr ⟨by simp only;omega,by simp only;rw[hnext]⟩,?_⟩,by simp only;omega,fun h=>?_⟩,?_⟩
      ·simp only at hx ⊢;rcases Gb2.1 hx with hx|hx
       ·have:=B.o x hx;omega
       ·rw[Gcc.1 hx];omega
      ·have:=B.s;simp only;omega
      ·have:=B.s;simp only at h ⊢;omega
      ·simp only;omega
   ·right;rw[it_n c];exact⟨_,rfl,_,_,rfl,rF,rT,at',rfl,B,bl⟩
  ·refine⟨⟨⟨List.Pairwise.nil,fun x hx=>by cases hx⟩,(fun x hx=>by cases hx),⟨by simp,h0,Gaw _,Gaw _,by simp only;omega,by simp only;omega⟩,fun _=>rfl,fun u p q=>by simp only at p q;omega,.inl ⟨rfl,rfl,rfl,rfl⟩,by simp⟩,by simp,by simp⟩
 obtain⟨B,bl⟩:=hB;subst eb;obtain⟨a1,a2,a3,a4,a5,a6⟩:=B.a;rw[e,bd_s];dsimp only;by_cases cr:rF<rT
 ·have l1:(ys++[kzht.mk 0 rF rT]).length=ys.length+1:=by simp
  rw[it_d cr,kzmi (by omega),bd_s,qzil];exact⟨_,rfl,B.e.snoc ⟨a2,cr,a5,fun _=>B.r,fun h=>absurd rfl h⟩ B.o,by omega⟩
 ·rw[it_n cr];exact⟨_,rfl,B.e,by omega⟩
theorem kzp5(w:kzhx){f:List kzhv}(g:Int){a b:Int}(today:Int)(hf:f.length<=12)(h0:0<=a)(h1:a<=b)(h2:b<=1402560)(h3:b-a<=300) : ∃r,kzjn w f g ⟨a,b⟩ today=some r/\(r.2=0->∃k,KOk k/\k.limits=⟨0,w.Raw,w.Hour,w.Day,w.Month⟩/\k.freezes=f.filter (fun x=>decide (x.Gauge=g))/\k.today=today/\Els k r.1/\r.1.length<=4000):=by
 obtain⟨e,he⟩:∃e,kzig w f=some e:=by
  unfold kzig;generalize (bif (bif (bif (bif (decide (w.Raw<0)) then true else(decide (w.Hour<w.Raw))) then true else(decide (w.Day<w.Hour))) then true else(decide (w.Month<w.Day))) then true else(decide (14609<w.Month)))=c;cases c
  ·rw[qzil,it_n (by omega)];rw[kzl9 (p:=fun x=>(kzja x).getD false) (fun x hx=>?_) (by omega),bd_s]
   ·cases f.any fun x=>(kzja x).getD false;·exact⟨_,rfl⟩
    ·exact⟨_,rfl⟩
   ·unfold kzja kziv;rfl
  ·exact⟨_,rfl⟩
 unfold kzjn kzio;rw[he];simp only[bd_s];by_cases c1:e=0
 ·rw[qzk5 c1];have hg:kziv g=some (bif decide (0<=g) then decide (g<40) else false):=rfl;rw[hg];simp only[bd_s];by_cases c2:(bif (bif !(bif decide (0<=g) then decide (g<40) else false) then true else decide (today<0)) then true else decide (14609<today))=true
  ·rw[it_t c2,bd_s];dsimp only;exact⟨_,rfl,fun h=>by cases h⟩
  ·have c2:(bif (bif !(bif decide (0<=g) then decide (g<40) else false) then true else decide (today<0)) then true else decide (14609<today))=false:=by simpa using c2
   rw[it_f c2,bd_s];dsimp only;rw[qzk5 rfl]
   have ht:0<=today/\today<=14609:=by
    cases hx:(bif decide (0<=g) then decide (g<40) else false)<;>rw[hx]at c2
    ·cases c2
    ·simp only[Gaq,Gdt]at c2;cases hy:decide (today<0)<;>rw[hy]at c2
     ·have:=of_decide_eq_false hy;have:=of_decide_eq_false (show decide (14609<today)=false from c2);omega
     ·cases c2
   have hi:kzi1 a b=some true:=by unfold kzi1;rw[Gdy h0,Gdy h1,Gdy h2];rfl
   rw[hi,bd_s];simp only[Gaq,qzil];have K:KOk ⟨⟨0,w.Raw,w.Hour,w.Day,w.Month⟩,List.filter (fun x=>decide (x.Gauge=g)) f,today⟩:=⟨ht,by have:=List.length_filter_le (fun x:kzhv=>decide (x.Gauge=g)) f;show(List.filter _ f).length<=1000;omega⟩;obtain⟨L,e1,e2,e3⟩:=kzt3 K h0 h1 h2 h3;unfold kzi5;rw[bd_s];dsimp only;rw[e1,bd_s,kzn3 (by simpa using e3),bd_s];refine⟨_,rfl,fun _=>⟨_,K,rfl,rfl,rfl,e2,e3⟩⟩
 ·rw[qzhj c1,bd_s];dsimp only;rw[qzhj c1];exact⟨_,rfl,fun h=>absurd h c1⟩
def inT(a b:Int)(x:kzht):Bool:=decide (a<=x.From)&&decide (x.To<=b)
theorem kzl8{α:Type}{l:List α}{k:Nat}{x:α}(p:α->Bool)(h:l[k]?=some x):(l.take (k+1)).filter p=(l.take k).filter p++(bif p x then [x] else []):=by rw[jzlb h,List.filter_append];cases hp:p x<;>simp[hp]
theorem kzsd{l:List kzht}{a b:Int}(hl:l.length<=100000):kzjq l ⟨a,b⟩=some (l.filter (inT a b)):=by
 unfold kzjq
 have e:lp (kzjp l ⟨a,b⟩) (0,[])=some (l.filter (inT a b)):=by
  refine wz69 (l:=l) (fun k=>((k:Int),(l.take k).filter (inT a b))) (by omega) (fun k x hk=>?_) ?_ rfl
  ·have hlt:=(Gbg.1 hk).1;have h1:=List.length_filter_le (inT a b) (l.take k);have h2:(l.take k).length<=l.length:=by rw[Gbz];omega
   rw[kzl8 _ hk];generalize (l.take k).filter (inT a b)=m at *;unfold kzjp;dsimp only;rw[it_d (by omega),at_e rfl hk,bd_s];unfold inT;cases decide (a<=x.From)<;>cases decide (x.To<=b)
   ·simp only[Gdt,qzil,Bool.and_false,List.append_nil];rw[qz3 (by omega)];norm_cast
   ·simp only[Gdt,qzil,Bool.false_and,List.append_nil];rw[qz3 (by omega)];norm_cast
   ·simp only[Gdu,Gdt,qzil,Bool.and_false,List.append_nil];rw[qz3 (by omega)];norm_cast
   ·simp only[Gdu,wzdh,Bool.and_self];rw[ck_d (by simp only[Gbq,Gby];omega),qz3 (by omega)];norm_cast
  ·unfold kzjp;dsimp only;rw[it_n (by omega),List.take_length]
 rw[e,bd_s]
def inO(o:List kzht)(x:kzht):Bool:=o.any fun y=>decide (y.From<=x.From)&&decide (x.To<=y.To)
theorem qz1i{l o:List kzht}(hl:l.length<=100000)(ho:o.length<=100000):kzjl l o=some (l.filter (inO o)):=by
 have inner:∀x:kzht,lp (kzji o x) (false,0)=some (inO o x):=fun x=>by
  refine wz69 (l:=o) (fun k=>(inO (o.take k) x,(k:Int))) (by omega) (fun k y hk=>?_) ?_ rfl
  ·have hlt:=(Gbg.1 hk).1;have e:inO (o.take (k+1)) x=(inO (o.take k) x||(decide (y.From<=x.From)&&decide (x.To<=y.To))):=by unfold inO;rw[jzlb hk,List.any_append];simp
   rw[e];unfold kzji;dsimp only;rw[it_d (by omega),at_e rfl hk,bd_s,qz3 (by omega)];congr 3;cases inO (o.take k) x<;>cases decide (y.From<=x.From)<;>rfl
  ·unfold kzji;dsimp only;rw[it_n (by omega),List.take_length]
 unfold kzjl
 have e:lp (kzjh l o) (0,[])=some (l.filter (inO o)):=by
  refine wz69 (l:=l) (fun k=>((k:Int),(l.take k).filter (inO o))) (by omega) (fun k x hk=>?_) ?_ rfl
  ·have hlt:=(Gbg.1 hk).1;have h1:=List.length_filter_le (inO o) (l.take k);have h2:(l.take k).length<=l.length:=by rw[Gbz];omega
   rw[kzl8 _ hk];generalize (l.take k).filter (inO o)=m at *;unfold kzjh;dsimp only;rw[it_d (by omega),at_e rfl hk,bd_s,inner x,bd_s];cases inO o x
   ·rw[qzil,qz3 (by omega)];simp only[Gdt,List.append_nil];norm_cast
   ·rw[wzdh,ck_d (by simp only[Gbq,Gby];omega),qz3 (by omega)];simp only[Gdu];norm_cast
  ·unfold kzjh;dsimp only;rw[it_n (by omega),List.take_length]
 rw[e,bd_s]
theorem kzt4{l:List wz3g}{a b:Int}(H:Ch a l b)(hb:b-a<=2000):kzjy l l=some true:=by
 have hl:=H.len;unfold kzjy;rw[qzk5 rfl]
 have e:lp (kzjt l l) 0=some (.inl ()):=by
  refine wz69 (l:=l) (fun k=>(k:Int)) (by omega) (fun k x hk=>?_) ?_ rfl
  ·have hlt:=(Gbg.1 hk).1;obtain⟨hr,_,_⟩:=H.ok x (Gb9 hk);have hx:=hr.len;have ha:=hr.a;have hc:=hr.c;have hat:at? l (k:Int)=some x:=at_e rfl hk;unfold kzjt;dsimp only;rw[it_d (by omega),hat];simp only[bd_s,decide_true,Gaq,Gap,qzbx,Gdt,qzil]
   have e2:lp (kzjs l l (k:Int)) 0=some (.inl ()):=by
    refine wz69 (l:=x.Table) (fun k=>(k:Int)) (by omega) (fun i h hi=>?_) ?_ rfl
    ·have hlt2:=(Gbg.1 hi).1;have hat2:at? x.Table (i:Int)=some h:=at_e rfl hi;unfold kzjs;dsimp only;simp only[hat,bd_s];rw[it_d (by omega)];simp only[hat2,bd_s,decide_true,Bool.and_self,Gaq,qzil];rw[qz3 (by omega)]
     norm_cast
    ·unfold kzjs;dsimp only;rw[hat,bd_s,it_n (by omega)]
   rw[e2];simp only[bd_s];rw[qz3 (by omega)]
   norm_cast
  ·unfold kzjt;dsimp only;rw[it_n (by omega)]
 rw[e,bd_s]
theorem kzr7(h:wz2c):∃b,wz4t h=some b/\(b=true->h.Stages.length<=300->HOk h):=by
 unfold wz4t;by_cases c:(bif decide (h.From<0) then true else decide (40000<(h.Stages.length:Int)))=true
 ·rw[c];simp only[Gaq,Gap,Bool.true_or,wzdp,Gdu,wzdh];exact⟨false,rfl,fun e=>by cases e⟩
 ·have c:(bif decide (h.From<0) then true else decide (40000<(h.Stages.length:Int)))=false:=by simpa using c
  have c1:¬h.From<0/\¬40000<(h.Stages.length:Int):=by
   cases hx:decide (h.From<0)<;>rw[hx]at c
   ·exact⟨of_decide_eq_false hx,of_decide_eq_false c⟩
   ·cases c
  rw[c];simp only[Gaq,Gap,Bool.false_or,Gdt];rw[qz3 (by omega)];by_cases c2:1402560-(h.Stages.length:Int)<h.From
  ·rw[it_d c2];exact⟨false,rfl,fun e=>by cases e⟩
  ·rw[it_n c2]
   have e0:lp (wz46 h) 0=some (sOut (scan (fun _ x=>if x<0\/1000<x then some false else none) 0 h.Stages)):=by
    refine wz3m _ (by omega) (fun k x hk=>?_) ?_
    ·have hlt:=(Gbg.1 hk).1;unfold wz46;dsimp only;rw[it_d (by omega),at_e rfl hk,bd_s];by_cases d1:x<0
     ·rw[Gdy d1];simp only[Gaq,wzcn,bd_s,Gdu,wzdh];rw[Gd4 (.inl d1)]
     ·rw[Gdw d1];simp only[Gap,qzbx,bd_s,Gdt];by_cases d2:1000<x
      ·rw[it_d d2,Gd4 (.inr d2)]
      ·rw[it_n d2,qz3 (by omega),Gd3 (by omega)]
    ·unfold wz46;dsimp only;rw[it_n (by omega)]
   rw[e0,bd_s];cases hs:scan (fun _ x=>if x<0\/1000<x then some false else none) 0 h.Stages with
   |none =>
    refine⟨true,rfl,fun _ h3=>⟨by omega,by omega,h3,fun s hm=>?_⟩⟩;obtain⟨i,hi⟩:=List.getElem?_of_mem hm;have:=wz5l hs hi;by_cases d:s<0\/1000<s
    ·rw[Gd4 d]at this;cases this
    ·omega
   |some o =>
    obtain⟨i,x,h1,h2,_⟩:=wz6q _ _ _ hs
    have:o=false:=by
     by_cases d:x<0\/1000<x
     ·rw[Gd4 d]at h2;cases h2;rfl
     ·rw[Gd3 d]at h2;cases h2
    subst this;exact⟨false,rfl,fun e=>by cases e⟩
theorem bok{k:kzhu}{lo hi:Int}:∀{L:List kzht},Els k L->(∀x∈L,x.Level≠0->lo<=x.From/\x.To<=hi)->BOk hi lo L
 |[],_,_=>trivial
 |x :: L,h,hb=>by obtain⟨h1,h2⟩:=Gcf.1 h.1;have hE:Els k L:=⟨h2,fun y hy=>h.2 y (Gb4 _ hy)⟩;have hx:=h.2 x (Gb5 ..);refine⟨fun _=>bok hE fun y hy=>hb y (Gb4 _ hy),fun e=>?_⟩;obtain⟨b1,b2⟩:=hb x (Gb5 ..) e;have hd:=hx.l e;refine⟨?_,b1,hx.b,b2,bok hE fun y hy e'=>⟨h1 y hy,(hb y (Gb4 _ hy) e').2⟩⟩;rw[hd];exact kzrd hx.a (by have:=hx.b;have:=hx.c;omega) (by rw[<-hd];exact e)
theorem kznj:kzi6=some true:=by decide +kernel
theorem kzmh{k:kzhu}{L:List kzht}(p:kzht->Bool)(h:Els k L):Els k (L.filter p):=⟨h.1.filter _,fun x hx=>h.2 x (List.mem_filter.1 hx).1⟩
theorem kzts(h:wz2c)(w:kzhx)(q:kzh0):kzjf h w q=some true:=by
 obtain⟨rb,e1,hr⟩:=kzr7 h;unfold kzjf;rw[e1,bd_s];by_cases c0:(bif (bif (bif (bif (decide ((h.Stages.length:Int)=0)) then true else(decide (300<(h.Stages.length:Int)))) then true else(!rb)) then true else(decide (12<(q.Freezes.length:Int)))) then true else(decide (q.Today<q.Before)))=true
 ·rw[it_t c0,kznj];rfl
 have c0:(bif (bif (bif (bif (decide ((h.Stages.length:Int)=0)) then true else(decide (300<(h.Stages.length:Int)))) then true else(!rb)) then true else(decide (12<(q.Freezes.length:Int)))) then true else(decide (q.Today<q.Before)))=false:=by simpa using c0
 have hc:¬(h.Stages.length:Int)=0/\¬300<(h.Stages.length:Int)/\rb=true/\¬12<(q.Freezes.length:Int)/\¬q.Today<q.Before:=by
  cases d1:decide ((h.Stages.length:Int)=0)<;>rw[d1]at c0
  ·cases d2:decide (300<(h.Stages.length:Int))<;>rw[d2]at c0
   ·cases rb;·cases c0
    ·cases d3:decide (12<(q.Freezes.length:Int))<;>rw[d3]at c0;·exact⟨of_decide_eq_false d1,of_decide_eq_false d2,rfl,of_decide_eq_false d3,of_decide_eq_false c0⟩
     ·cases c0
   ·cases c0
  ·cases c0
 rw[it_f c0];obtain⟨n0,n1,n2,n3,n4⟩:=hc;have H:=hr n2 (by omega);have a0:=H.a;have a1:=H.b;have hraw:=kzog H;obtain⟨tk0,tw⟩:=kzpz H;generalize hb:h.From+(h.Stages.length:Int)=b at *;rw[qz3 (by omega)];obtain⟨r3,e3,p3⟩:=kzp5 w (f:=q.Freezes) q.Gauge (a:=h.From) (b:=b) q.Before (by omega) a0 (by omega) a1 (by omega);obtain⟨r4,e4,p4⟩:=kzp5 w (f:=q.Freezes) q.Gauge (a:=h.From) (b:=b) q.Today (by omega) a0 (by omega) a1 (by omega);rw[e3,bd_s,e4,bd_s];by_cases c3:r3.2=0;rotate_left
 ·rw[Gdw c3];simp only[Gap,Gdu,wzdh];rw[kznj];rfl
 by_cases c4:r4.2=0;rotate_left
 ·rw[Gdy c3,Gdw c4];simp only[Gap,Gaq,Gdt,wzdh];rw[kznj];rfl
 rw[Gdy c3,Gdy c4];simp only[Gaq,Gdt,qzil];obtain⟨k1,K1,l1,f1,t1,E1,z1⟩:=p3 c3;obtain⟨k2,K2,l2,f2,t2,E2,z2⟩:=p4 c4
 let L:List kzht:=r4.1.filter (inT h.From b)
 let A:List kzht:=r3.1.filter (inO L)
 have eL:kzjq r4.1 ⟨h.From,b⟩=some L:=kzsd (by omega);have hL1:L.length<=4000:=Gc0 (List.length_filter_le _ _) z2;have hA1:A.length<=4000:=Gc0 (List.length_filter_le _ _) z1;have eA:kzjl r3.1 L=some A:=qz1i (by omega) (by omega);have EL:Els k2 L:=kzmh _ E2;have EA:Els k1 A:=kzmh _ E1;have hin:∀x∈L,h.From<=x.From/\x.To<=b:=fun x hx=>by have:=(List.mem_filter.1 hx).2;unfold inT at this;simp only[Gai,Gdz]at this;exact this
 have hAz:∀x∈A,∃z∈L,z.From<=x.From/\x.To<=z.To:=fun x hx=>by have:=(List.mem_filter.1 hx).2;unfold inO at this;obtain⟨z,hz,hp⟩:=List.any_eq_true.1 this;simp only[Gai,Gdz]at hp;exact⟨z,hz,hp⟩
 have BL:BOk b h.From L:=bok EL fun x hx _=>hin x hx;have BA:BOk b h.From A:=bok EA fun x hx _=>by obtain⟨z,hz,p,q⟩:=hAz x hx;have:=hin z hz;omega
 have hI:InB A L:=fun x hx hl=>by obtain⟨z,hz,p,q⟩:=hAz x hx;refine⟨z,hz,fun e=>hl ?_,p,q⟩;have xe:=EA.2 x hx;have ze:=EL.2 z hz;have xb:=xe.b;have zr:=ze.r e x.From p (by omega);have:=kzpr (k:=k1) (k':=k2) (by rw[l1,l2]) (by rw[f1,f2]) (by omega) zr;rw[xe.l hl];exact this
 have r0:=kzne (a:=h.From) tk0 a0 (by omega);rw[tw,hb]at r0;obtain⟨r01,r02⟩:=r0;have S1:SpT h.From (toks (nf h.From (hts h))) A:=by rw[r02];exact SpT.raw hraw BA (by omega)
 have S2:SpT h.From (toks (nf h.From (hts h))) L:=by rw[r02];exact SpT.raw hraw BL (by omega)
 obtain⟨oe,e9,k9⟩:=kzmw r01 (r01.ne (by omega)) (by omega) BA (by omega) a0 S1;obtain⟨o1,e11,k11⟩:=kzmw r01 (r01.ne (by omega)) (by omega) BL (by omega) a0 S2;rw[r02]at k9 k11;obtain⟨_,we,te,_,_⟩:=k9.same hraw BA;obtain⟨_,w1,te1,_,_⟩:=k11.same hraw BL;have q0:=kzne (a:=h.From) te a0 (by omega);rw[we,tw,hb]at q0;obtain⟨q01,q02⟩:=q0;have q1:=kzne (a:=h.From) te1 a0 (by omega);rw[w1,tw,hb]at q1;obtain⟨q11,q12⟩:=q1;obtain⟨s1,s2⟩:=kznn hraw (by omega) BL BA hI k9;obtain⟨ol,e10,k10⟩:=kzmw q01 (q01.ne (by omega)) (by omega) BL (by omega) a0 (by rw[q02];exact s1);rw[q02]at k10;have eo:ol=o1:=s2 o1 ol k11 k10;subst eo;have ag1:=k9.ag hraw BA;have ag2:=k11.ag hraw BL;have hF:=kzsb hraw (by omega) q01 q11 (q01.ne (by omega)) (q11.ne (by omega)) (by rw[q02];exact ag1) (by rw[q12];exact ag2) (bnd hraw BA BL hI k9 k11 q01 q11 q02 q12);have g1:=kznk H (l:=nf h.From oe) (by rw[hb];exact q01) (q01.ne (by omega)) (by rw[q02];exact ag1);have g2:=kznk H (l:=nf h.From ol) (by rw[hb];exact q11) (q11.ne (by omega)) (by rw[q12];exact ag2);rw[kzwd H,bd_s,eL,bd_s,eA,bd_s];dsimp only;rw[e9,bd_s];dsimp only;rw[e10,bd_s,e11,bd_s];simp only[decide_true,Gaq,Gap,Gdt,qzbx];rw[kzt4 q11 (by omega),bd_s];simp only[Gaq,Gdt,qzil];rw[hF,bd_s,kznj,bd_s];simp only[decide_true,Gdu,qzbx];rw[g1,bd_s];simp only[Gdu,qzbx];rw[g2,bd_s]
end Go.Am

