/- Part U1: the mathematics of the functions of this seat. No condition. -/
import Derived.Test.YtbidhbeoimpjbaaGreatDoorR2
set_option linter.unusedSimpArgs false
set_option linter.unusedVariables false
namespace Go.Am
noncomputable section
section
variable {α ω O:Type}
def scan(f:Nat->α->Option ω):Nat->List α->Option ω
 |_,[]=>none
 |k,x :: l=>match f k x with
  |some o=>some o
  |none=>scan f (k+1) l
theorem ZF{f:Nat->α->Option ω}:∀(k:Nat) (l:List α),scan f k l=none->∀i x,l[i]?=some x->f (k+i) x=none
 |k,[],_,i,x,h=>by simp at h
 |k,y :: l,e,i,x,h=>by
  unfold scan at e;split at e
  ·cases e
  ·rename_i e1;cases i with
   |zero=>simp at h;subst h;exact e1
   |succ i=>have:=ZF (k+1) l e i x (by simpa using h);rwa [show k+(i+1)=k+1+i by omega]
theorem TT{f:Nat->α->Option ω}:∀(k:Nat) (l:List α),(∀i x,l[i]?=some x->f (k+i) x=none)->scan f k l=none
 |k,[],_=>rfl
 |k,y :: l,e=>by unfold scan;rw[show f k y=none from e 0 y rfl];exact TT (k+1) l fun i x h=>by have:=e (i+1) x (by simpa using h);rwa [show k+(i+1)=k+1+i by omega]at this
theorem jzdu{f:Nat->α->Option ω}{l:List α}{k:Nat}{x:α}(h:l[k]?=some x):scan f k (l.drop k)=(match f k x with
  |some o=>some o
  | none=>scan f (k+1) (l.drop (k+1))):=by
 obtain⟨hk,rfl⟩:=AN.1 h;rw[Li hk];rfl
def sOut:Option ω->Unit⊕ω
 |some o=>.inr o
 |none=>.inl ()
theorem jzak{body:O->Option (O⊕(Unit⊕ω))}{l:List α}(st:Nat->O)(f:Nat->α->Option ω)(hl:l.length<=1000000000)(hs:∀(k:Nat) (x:α),l[k]?=some x->body (st k)=some (match f k x with | some o=>.inr (.inr o) | none=>.inl (st (k+1)))) (he:body (st l.length)=some (.inr (.inl ()))) {s:O} (h0:s=st 0):lp body s=some (sOut (scan f 0 l)):=by
 obtain⟨o,e,ho⟩:=XI (body:=body) st (fun k=>k<=l.length/\scan f 0 l=scan f k (l.drop k)) (fun k=>l.length-k) (fun o=>o=sOut (scan f 0 l)) (by
  rintro k ⟨hk,qx⟩;by_cases hlt:k<l.length
  ·have hx:=AD hlt;have h1:=hs k _ hx;have h2:=jzdu (f:=f) hx;cases hf:f k l[k] with
   |some o =>right;rw[hf]at h1 h2;exact⟨_,h1,by rw[qx,h2];rfl⟩
   |none =>left;rw[hf]at h1 h2;exact⟨k+1,h1,⟨hlt,qx.trans h2⟩,by omega⟩
  ·right;have:k=l.length:=by omega
   subst this;refine⟨_,he,?_⟩;rw[qx,List.drop_length];rfl) 0 h0 ⟨Ej _,rfl⟩ (by omega)
 rw[e,ho]
theorem GJ{body:Int->Option (Int⊕(Unit⊕ω))}{l:List α}(f:Nat->α->Option ω)(hl:l.length<=1000000000)(hs:∀(k:Nat) (x:α),l[k]?=some x->body (k:Int)=some (match f k x with | some o=>.inr (.inr o) | none=>.inl ((k:Int)+1))) (he:body (l.length:Int)=some (.inr (.inl ()))):lp body 0=some (sOut (scan f 0 l)) :=
 jzak (fun k=>(k:Int)) f hl (fun k x h=>by rw[hs k x h];cases f k x<;>rfl) he rfl
end
theorem Pp{o:Option Int}{z:Int}:(match sOut o with | .inl ()=>some z | .inr o=>some o)=some (o.getD z):=by cases o<;>rfl
theorem Pq{α:Type}[Inhabited α]{l:List α}{k:Nat}{x:α}(h:l[k]?=some x)(h0:0<k):at? l ((k:Int)-1)=some (l.getD (k-1) default):=by
 have hk:=(AN.1 h).1;have h1:k-1<l.length:=by omega
 rw[at_e (n:=k-1) (by omega) (AD h1)];simp[List.getD,h1]
theorem ZG{α:Type}[Inhabited α]{l:List α}{k:Nat}{x:α}(h:l[k]?=some x)(h0:0<k):l.getD (k-1) default∈l:=by
 have hk:=(AN.1 h).1;have h1:k-1<l.length:=by omega
 simp[List.getD,h1]
theorem Lf{α ω:Type}{f:Nat->α->Option ω}:∀(k:Nat) (l:List α) (o:ω),scan f k l=some o->∃i x,l[i]?=some x/\f (k+i) x=some o/\∀j y,j<i->l[j]?=some y->f (k+j) y=none
 |k,[],o,h=>by cases h
 |k,y :: l,o,h=>by
  unfold scan at h;split at h
  ·rename_i o' ho;cases h;exact⟨0,y,rfl,ho,fun j y h=>by omega⟩
  ·rename_i hn;obtain⟨i,x,h1,h2,h3⟩:=Lf (k+1) l o h;refine⟨i+1,x,by simpa using h1,by rwa [show k+(i+1)=k+1+i by omega],fun j z hj hz=>?_⟩;cases j with
   |zero=>simp at hz;subst hz;exact hn
   |succ j =>
    have:=h3 j z (by omega) (by simpa using hz)
    rwa [show k+(j+1)=k+1+j by omega]
section
variable {α U ω O:Type}
theorem D_{body:O->Option (O⊕ω)}(st:Nat->O)(n:Nat)(hn:n<4611686018427387904)(hs:∀k,k<n->body (st k)=some (.inl (st (k+1)))){o:ω}(he:body (st n)=some (.inr o)){s:O}(h0:s=st 0):lp body s=some o:=by
 obtain⟨o',e,ho⟩:=XI (body:=body) st (fun k=>k<=n) (fun k=>n-k) (fun o'=>o'=o) (by
  intro k hk;by_cases h:k<n
  ·exact .inl ⟨k+1,hs k h,h,by omega⟩
  ·right;obtain rfl:k=n:=by omega
   exact⟨_,he,rfl⟩) 0 h0 (Ej _) (by omega)
 rw[e,ho]
theorem Jv{body:O->Option (O⊕ω)}{l:List α}(st:Nat->O)(hl:l.length<4611686018427387904)(hs:∀k x,l[k]?=some x->body (st k)=some (.inl (st (k+1)))){o:ω}(he:body (st l.length)=some (.inr o)){s:O}(h0:s=st 0):lp body s=some o :=
 D_ st l.length hl (fun k hk=>hs k _ (AD hk)) he h0
theorem Fw{l:List α}{k:Nat}{x:α}(h:l[k]?=some x):l.take (k+1)=l.take k++[x]:=by rw[List.take_add_one,h];rfl
theorem Pr{f:Nat->α->Option ω}{l:List α}(h:scan f 0 l=none){i:Nat}{x:α}(hx:l[i]?=some x):f i x=none:=by
 have:=ZF 0 l h i x hx
 rwa [Cx]at this
end
def SAsc(l:List Int):Prop:=l.Pairwise (· < ·)
theorem ZH:∀{D E:List Int},SAsc D->SAsc E->(∀x,x∈D↔x∈E)->D=E
 |[],[],_,_,_=>rfl
 |[],e :: E,_,_,h=>by have:=(h e).2 (BL ..);cases this
 |d :: D,[],_,_,h=>by have:=(h d).1 (BL ..);cases this
 |d :: D,e :: E,hd,he,h=>by
  obtain⟨d1,d2⟩:=GU.1 hd;obtain⟨e1,e2⟩:=GU.1 he
  have mg:d=e:=by
   rcases AI.1 ((h d).1 (BL ..)) with p|p
   ·exact p
   ·rcases AI.1 ((h e).2 (BL ..)) with q|q;·exact q.symm
    ·have:=d1 e q;have:=e1 d p;omega
  subst mg;rw[ZH d2 e2 fun x=>⟨fun hx=>?_,fun hx=>?_⟩]
  ·rcases AI.1 ((h x).1 (Db _ hx)) with p|p;·subst p;have:=d1 x hx;omega
   ·exact p
  ·rcases AI.1 ((h x).2 (Db _ hx)) with p|p;·subst p;have:=e1 x hx;omega
   ·exact p
theorem TU(a:Int):∀l x,x∈Ba a l↔x=a\/x∈l
 |[],x=>by simp[Ba]
 |b :: l,x=>by
  unfold Ba;cases decide (a<=b)
  ·show x∈b :: Ba a l↔_;rw[AI,TU a l x,AI];constructor
   ·rintro(h|h|h);·exact .inr (.inl h)
    ·exact .inl h
    ·exact .inr (.inr h)
   ·rintro(h|h|h);·exact .inr (.inl h)
    ·exact .inl h
    ·exact .inr (.inr h)
  ·show x∈a :: b :: l↔_;exact AI
theorem TW:∀l x,x∈Bj l↔x∈l
 |[],x=>Iff.rfl
 |a :: l,x=>by show x∈Ba a (Bj l)↔_;rw[TU,TW l x,AI]
theorem ZK(a:Int):∀l,(Ba a l).length=l.length+1
 |[]=>rfl
 |b :: l=>by
  unfold Ba;cases decide (a<=b)
  ·show(b :: Ba a l).length=_;simp[ZK a l]
  ·rfl
theorem ZL:∀l,(Bj l).length=l.length
 |[]=>rfl
 |a :: l=>by show(Ba a (Bj l)).length=_;rw[ZK,ZL l];rfl
structure CSz(c:AG):Prop where
 len:c.Points.length<=1048576
 sz:∀p,p∈c.Points->Sz 1048576 p.Flow
def crvF(l:List AC)(k:Nat)(p:AC):Option Int :=
 if p.Stage < -1000\/2000<p.Stage then some 3 else if ¬Vd p.Flow\/p.Flow.Neg=true then some 1
 else if 0<k/\(p.Stage<=(l.getD (k-1) default).Stage\/rq p.Flow<rq (l.getD (k-1) default).Flow) then some 1 else none
def Jw(c:AG):Int:=if c.Points.length<1\/16<c.Points.length then 2 else(scan (crvF c.Points) 0 c.Points).getD 0
theorem Pt{p q:Rat}:cmpQ p q<0↔p<q:=by
 unfold cmpQ;split
 ·simp[*]
 ·split<;>simp[*]
theorem wz7j{c:AG}(h:CSz c):NG c=some (Jw c):=by
 unfold NG Jw;by_cases h1:c.Points.length<1
 ·rw[it_t (by simp;omega),Ap (.inl h1)]
 by_cases h2:16<c.Points.length
 ·rw[it_t (by simp;omega),Ap (.inr h2)]
 rw[it_f (by simp;omega),ifN];rw[GJ (l:=c.Points) (crvF c.Points) (by omega) ?_ ?_]
 ·simp only[Af];exact Pp
 ·intro k p hp;have hk:=(AN.1 hp).1;have hm:=Dx hp;have hz:=h.sz p hm;simp only[R3];rw[it_d,at_e rfl hp];simp only[Af,QX,crvF];by_cases p1:p.Stage < -1000\/2000<p.Stage
  ·rw[Ap p1,it_t (by rcases p1 with p1|p1<;>simp<;>omega)]
  rw[Aj p1,it_f (by simp;omega)];simp only[Ru];rw[Ya (hz.mono (by omega))];simp only[Af];by_cases p2:¬Vd p.Flow\/p.Flow.Neg=true
  ·rw[Ap p2,it_t (by rcases p2 with p2|p2<;>simp[p2])]
  rw[Aj p2];have p3:Vd p.Flow:=Decidable.byContradiction fun e=>p2 (.inl e);have p4:p.Flow.Neg=false:=by simpa using fun e=>p2 (.inr e)
  rw[it_f (by simp[p3,p4])];by_cases h0:k=0
  ·subst h0;rw[ck_t (by simp),show decide ((0:Int)<((0:Nat):Int))=false by simp];simp only[PE,AQ,Af];rw[ck_t (by simp),ifN,it_f (by simp),AA]
  have h0:0<k:=by omega
  rw[ck_t (by simp[As];omega),show decide ((0:Int)<(k:Int))=true by simp;omega];simp only[P2,AU];rw[Pq hp h0];simp only[Af];have hq:=h.sz _ (ZG hp h0);generalize c.Points.getD (k-1) default=q at *;rw[ck_t (by simp[As];omega)];by_cases p5:p.Stage<=q.Stage
  ·rw[show decide (p.Stage<=q.Stage)=true by simp[p5]];simp only[Da,AQ,Af];rw[Ap ⟨h0,.inl p5⟩,it_t (by simp)]
  ·rw[show decide (p.Stage<=q.Stage)=false by simp[p5]];simp only[CZ,AU,Af];rw[jz9 hz hq (by omega) (by omega) (by omega) (by omega)];simp only[Af];by_cases p6:rq p.Flow<rq q.Flow
   ·rw[Ap ⟨h0,.inr p6⟩,it_t (by simp[Pt,p6])]
   ·rw[Aj (by simp[p5,p6]),it_f (by simp[Pt,p6]),AA]
 ·simp only[R3];rw[it_n]
theorem jzbg{c:AG}(h:CSz c):R8 c=some (Jw c):=by
 unfold R8 Jw;by_cases h1:c.Points.length<1
 ·rw[it_t (by simp;omega),Ap (.inl h1)]
 by_cases h2:16<c.Points.length
 ·rw[it_t (by simp;omega),Ap (.inr h2)]
 rw[it_f (by simp;omega),ifN];rw[GJ (l:=c.Points) (crvF c.Points) (by omega) ?_ ?_]
 ·simp only[Af];exact Pp
 ·intro k p hp;have hk:=(AN.1 hp).1;have hm:=Dx hp;have hz:=h.sz p hm;simp only[R7];rw[it_d,at_e rfl hp];simp only[Af,crvF];by_cases p1:p.Stage < -1000\/2000<p.Stage
  ·rw[Ap p1,it_t (by rcases p1 with p1|p1<;>simp<;>omega)]
  rw[Aj p1,it_f (by simp;omega)];rw[Ye (hz.mono (by omega))];simp only[Af];by_cases p2:¬Vd p.Flow\/p.Flow.Neg=true
  ·rw[Ap p2,it_t (by rcases p2 with p2|p2<;>simp[p2])]
  rw[Aj p2];have p3:Vd p.Flow:=Decidable.byContradiction fun e=>p2 (.inl e);have p4:p.Flow.Neg=false:=by simpa using fun e=>p2 (.inr e)
  rw[it_f (by simp[p3,p4])];by_cases h0:k=0
  ·subst h0;rw[ck_t (by simp),show decide ((0:Int)<((0:Nat):Int))=false by simp];simp only[AQ,Af];rw[it_f (by simp),ck_t (by simp)];rw[ifN,it_f (by simp),AA]
  have h0:0<k:=by omega
  rw[ck_t (by simp[As];omega),show decide ((0:Int)<(k:Int))=true by simp;omega];simp only[AU];rw[Pq hp h0];simp only[Af];have hq:=h.sz _ (ZG hp h0);generalize c.Points.getD (k-1) default=q at *;by_cases p5:p.Stage<=q.Stage
  ·rw[Ap ⟨h0,.inl p5⟩,it_t (by simp[p5])]
  ·rw[it_f (by simp[p5]),ck_t (by simp[As];omega),yT hz hq (by omega) (by omega) (by omega) (by omega)];simp only[Af];by_cases p6:rq p.Flow<rq q.Flow
   ·rw[Ap ⟨h0,.inr p6⟩,it_t (by simp[Pt,p6])]
   ·rw[Aj (by simp[p5,p6]),it_f (by simp[Pt,p6]),AA]
 ·simp only[R7];rw[it_n]
section
variable {U:Type}
def Cd(f:Int->U)(b:Int):Option U->Int->List (Int×Int×U)->Prop
 |_,a,[]=>a=b
 |v,a,p :: l=>p.1=a/\a<p.2.1/\(∀x,a<=x->x<p.2.1->f x=p.2.2)/\v≠some p.2.2/\Cd f b (some p.2.2) p.2.1 l
theorem Cd.le{f:Int->U}{b:Int}:∀{l:List (Int×Int×U)} {v:Option U} {a:Int},Cd f b v a l->a<=b
 |[],_,_,h=>Int.le_of_eq h
 |p :: l,_,_,h=>by obtain⟨_,h1,_,_,h2⟩:=h;have:=h2.le;omega
theorem Cd.uniq{f:Int->U}{b:Int}:∀{l m:List (Int×Int×U)} {v w:Option U} {a:Int},Cd f b v a l->Cd f b w a m->l=m
 |[],[],_,_,_,_,_=>rfl
 |[],q :: m,_,_,_,h,k=>by obtain⟨_,k1,_,_,k2⟩:=k;have h:_=_:=h;have:=k2.le;omega
 |p :: l,[],_,_,_,h,k=>by obtain⟨_,k1,_,_,k2⟩:=h;have k:_=_:=k;have:=k2.le;omega
 |p :: l,q :: m,v,w,a,h,k=>by
  obtain⟨h1,h2,h3,h4,h5⟩:=h;obtain⟨k1,k2,k3,k4,k5⟩:=k;have e3:p.2.2=q.2.2:=by rw[<-h3 a (Lp _) h2,<-k3 a (Lp _) k2]
  have gen:∀{l:List (Int×Int×U)} {p q:Int×Int×U} {b:Int},p.2.2=q.2.2->a<p.2.1->p.2.1<q.2.1->q.2.1<=b->(∀x,a<=x->x<q.2.1->f x=q.2.2)->Cd f b (some p.2.2) p.2.1 l->False:=by
   intro l p q b e u1 u2 u3 u4 u5;cases l with
   |nil=>have u5:_=_:=u5;omega
   |cons r l =>obtain⟨r1,r2,r3,r4,_⟩:=u5;apply r4;rw[<-r3 _ (Lp _) r2,u4 _ (by omega) u2,e]
  have e2:p.2.1=q.2.1:=by
   rcases Int.lt_trichotomy p.2.1 q.2.1 with c|c|c
   ·exact(gen e3 h2 c k5.le k3 h5).elim
   ·exact c
   ·exact(gen e3.symm k2 c h5.le h3 k5).elim
  have e:p=q:=by obtain⟨p1,p2,p3⟩:=p;obtain⟨q1,q2,q3⟩:=q;simp only at *;rw[h1,k1,e2,e3]
  subst e;rw[h5.uniq k5]
theorem Cd.congr{f g:Int->U}{b:Int}:∀{l:List (Int×Int×U)} {v:Option U} {a:Int},(∀x,a<=x->x<b->f x=g x)->Cd f b v a l->Cd g b v a l
 |[],_,_,_,h=>h
 |p :: l,v,a,e,h=>by obtain⟨h1,h2,h3,h4,h5⟩:=h;have hl:=h5.le;exact⟨h1,h2,fun x x1 x2=>by rw[<-e x x1 (by omega)];exact h3 x x1 x2,h4,h5.congr fun x x1 x2=>e x (by omega) x2⟩
theorem Cd.app{f:Int->U}:∀{l:List (Int×Int×U)} {v:Option U} {a b:Int} {p:Int×Int×U},Cd f b v a l->p.1=b->b<p.2.1->(∀x,b<=x->x<p.2.1->f x=p.2.2)->((l.getLast?.map (·.2.2)).or v≠some p.2.2)->Cd f p.2.1 v a (l++[p])
 |[],v,a,b,p,h,h1,h2,h3,h4=>by obtain rfl:a=b:=h;exact⟨h1,h2,h3,by simpa using h4,rfl⟩
 |q :: l,v,a,b,p,h,h1,h2,h3,h4=>by
  obtain⟨k1,k2,k3,k4,k5⟩:=h;refine⟨k1,k2,k3,k4,k5.app h1 h2 h3 ?_⟩;cases l with
  |nil=>simpa using h4
  |cons r l=>rw[List.getLast?_cons_cons]at h4;rw[List.getLast?_cons]at *;simpa using h4
theorem Cd.ext{f:Int->U}:∀{l:List (Int×Int×U)} {v:Option U} {a b c:Int} {q:Int×Int×U},Cd f b v a (l++[q])->b<c->(∀x,b<=x->x<c->f x=q.2.2)->Cd f c v a (l++[(q.1,c,q.2.2)])
 |[],v,a,b,c,q,h,h1,h2=>by
  obtain⟨k1,k2,k3,k4,k5⟩:=h;have k5:q.2.1=b:=k5;refine⟨k1,by show a<c;omega,fun x x1 x2=>?_,k4,rfl⟩;by_cases hx:x<q.2.1
  ·exact k3 x x1 hx
  ·exact h2 x (by omega) x2
 |r :: l,v,a,b,c,q,h,h1,h2=>by obtain⟨k1,k2,k3,k4,k5⟩:=h;exact⟨k1,k2,k3,k4,k5.ext h1 h2⟩
theorem Cd.mem{f:Int->U}{b:Int}:∀{l:List (Int×Int×U)} {v:Option U} {a:Int},Cd f b v a l->∀p,p∈l->p.1<p.2.1/\a<=p.1/\p.2.1<=b/\∀x,p.1<=x->x<p.2.1->f x=p.2.2
 |q :: l,v,a,h,p,hp=>by
  obtain⟨k1,k2,k3,k4,k5⟩:=h;have hl:=k5.le;rcases AI.1 hp with e|e
  ·subst e;exact⟨by omega,by omega,hl,fun x x1 x2=>k3 x (by omega) x2⟩
  ·obtain⟨m1,m2,m3,m4⟩:=k5.mem p e;exact⟨m1,by omega,m3,m4⟩
theorem Cd.ex{f:Int->U}{b:Int}:∀{l:List (Int×Int×U)} {v:Option U} {a:Int},Cd f b v a l->∀x,a<=x->x<b->∃p,p∈l/\p.1<=x/\x<p.2.1
 |[],v,a,h,x,h1,h2=>by have h:a=b:=h;omega
 |q :: l,v,a,h,x,h1,h2=>by
  obtain⟨k1,k2,k3,k4,k5⟩:=h;by_cases hx:x<q.2.1
  ·exact⟨q,BL ..,by omega,hx⟩
  ·obtain⟨p,hp,e⟩:=k5.ex x (by omega) h2;exact⟨p,Db _ hp,e⟩
theorem Cd.one{f:Int->U}{b:Int}:∀{l:List (Int×Int×U)} {v:Option U} {a:Int},Cd f b v a l->∀p q,p∈l->q∈l->∀x,p.1<=x->x<p.2.1->q.1<=x->x<q.2.1->p=q
 |r :: l,v,a,h,p,q,hp,hq,x,p1,p2,q1,q2=>by
  obtain⟨k1,k2,k3,k4,k5⟩:=h;rcases AI.1 hp with e|e<;>rcases AI.1 hq with e'|e'
  ·rw[e,e']
  ·have:=(k5.mem q e').2.1;subst e;omega
  ·have:=(k5.mem p e).2.1;subst e';omega
  ·exact k5.one p q e e' x p1 p2 q1 q2
end
theorem ZM(x y:Int):Gw x y=some (if x<y then -1 else if y<x then 1 else 0):=by
 unfold Gw I9;simp only[Af,decide_true,Da];rw[Be,Be];by_cases h:x<y
 ·rw[it_d h,Ap h]
 ·rw[it_n h,Aj h];by_cases h2:y<x
  ·rw[it_d h2,Ap h2]
  ·rw[it_n h2,Aj h2]
def vlt(a b:Ac):Prop:=a.Gauge<b.Gauge\/a.Gauge=b.Gauge/\a.Seq<b.Seq
instance (a b:Ac):Decidable (vlt a b):=by unfold vlt;infer_instance
def VRi(v:Ac):Prop:=((0<=v.Gauge/\v.Gauge<=39)/\(0<=v.Seq/\v.Seq<=1099511627776)/\(0<=v.Known/\v.Known<=14609)/\0<=v.From/\v.From<v.To/\v.To<=1402560) /\ ((v.Kind=1/\v.Shift=0/\Jw v.Curve=0)\/(v.Kind=2/\v.Curve.Points.length=0/\-1000<=v.Shift/\v.Shift<=1000)\/(v.Kind=3/\v.Curve.Points.length=0/\-960<=v.Shift/\v.Shift<=960))
noncomputable instance(v:Ac):Decidable (VRi v):=Classical.propDecidable _
theorem ZN{v:Ac}(x:Bool)(h:((0<=v.Gauge/\v.Gauge<=39)/\(0<=v.Seq/\v.Seq<=1099511627776)/\(0<=v.Known/\v.Known<=14609)/\0<=v.From/\v.From<v.To/\v.To<=1402560)):(bif (bif (bif (bif (bif (bif (bif (bif (decide (v.Gauge<0)) then true else(decide (40<=v.Gauge))) then true else(decide (v.Seq<0))) then true else(decide (1099511627776<v.Seq))) then true else(decide (v.Known<0))) then true else(decide (14609<v.Known))) then true else(decide (v.From<0))) then true else(decide (v.To<=v.From))) then true else(decide (1402560<v.To)))=false:=by simp only[HV,Ul,PK];omega
theorem ZO{v:Ac}(h:¬((0<=v.Gauge/\v.Gauge<=39)/\(0<=v.Seq/\v.Seq<=1099511627776)/\(0<=v.Known/\v.Known<=14609)/\0<=v.From/\v.From<v.To/\v.To<=1402560)):(bif (bif (bif (bif (bif (bif (bif (bif (decide (v.Gauge<0)) then true else(decide (40<=v.Gauge))) then true else(decide (v.Seq<0))) then true else(decide (1099511627776<v.Seq))) then true else(decide (v.Known<0))) then true else(decide (14609<v.Known))) then true else(decide (v.From<0))) then true else(decide (v.To<=v.From))) then true else(decide (1402560<v.To)))=true:=by simp only[HV,Fz,BB];omega
theorem HU{v:Ac}(hc:CSz v.Curve):Hr v=some (decide (VRi v)):=by
 unfold Hr;by_cases h:((0<=v.Gauge/\v.Gauge<=39)/\(0<=v.Seq/\v.Seq<=1099511627776)/\(0<=v.Known/\v.Known<=14609)/\0<=v.From/\v.From<v.To/\v.To<=1402560);rotate_left
 ·rw[it_t (ZO h),Bz (fun e:VRi v=>h e.1)]
 rw[it_f (ZN true h)];by_cases k1:v.Kind=1
 ·rw[it_d k1];by_cases s0:v.Shift=0
  ·rw[Cy s0];simp only[AU,Cj];rw[wz7j hc];simp only[Af];congr 1;rw[GQ,Ii,Ii];constructor
   ·intro e;exact⟨h,.inl ⟨k1,s0,e⟩⟩
   ·rintro⟨_,⟨_,_,e⟩|⟨e,_⟩|⟨e,_⟩⟩;·exact e
    ·omega
    ·omega
  ·rw[Bz s0];simp only[AQ,Af,Cq];rw[Bz];rintro⟨_,⟨_,e,_⟩|⟨e,_⟩|⟨e,_⟩⟩<;>omega
 rw[it_n k1]
 have hm:mget keqI (mput keqI (mput keqI ([]:List (Int×Int)) 2 1000) 3 960) v.Kind=if v.Kind=2 then some 1000 else if v.Kind=3 then some 960 else none:=by
  by_cases k2:v.Kind=2
  ·rw[Ap k2,k2];rfl
  ·by_cases k3:v.Kind=3;·rw[Aj k2,Ap k3,k3];rfl
   ·rw[Aj k2,Aj k3];simp[mput,mget,keqI,k2,k3]
 rw[hm];by_cases k2:v.Kind=2
 ·rw[Ap k2,ck_t (by simp[As])];congr 1;simp only[Option.isSome_some,Lr,Cj,P0];rw[GQ,Ii];simp only[AE,BB];constructor
  ·rintro⟨⟨a,b⟩,c⟩;exact⟨h,.inr (.inl ⟨k2,by omega,by omega,by omega⟩)⟩
  ·rintro⟨_,⟨e,_⟩|⟨_,a,b,c⟩|⟨e,_⟩⟩<;>omega
 by_cases k3:v.Kind=3
 ·rw[Aj k2,Ap k3,ck_t (by simp[As])];congr 1;simp only[Option.isSome_some,Lr,Cj,P0];rw[GQ,Ii];simp only[AE,BB];constructor
  ·rintro⟨⟨a,b⟩,c⟩;exact⟨h,.inr (.inr ⟨k3,by omega,by omega,by omega⟩)⟩
  ·rintro⟨_,⟨e,_⟩|⟨e,_⟩|⟨_,a,b,c⟩⟩<;>omega
 ·rw[Aj k2,Aj k3,ck_t (by simp[As])];rw[Bz (show ¬VRi v by rintro⟨_,⟨e,_⟩|⟨e,_⟩|⟨e,_⟩⟩<;>omega)];rfl
theorem ZP{v:Ac}(hc:CSz v.Curve):NI v=some (decide (VRi v)):=by
 unfold NI;have hd:(bif (bif (bif (bif (bif (bif (bif (bif (decide (v.Gauge<0)) then true else(decide (39<v.Gauge))) then true else(decide (v.Seq<0))) then true else(decide (1099511627776<v.Seq))) then true else(decide (v.Known<0))) then true else(decide (14609<v.Known))) then true else(decide (v.From<0))) then true else(decide (v.To<=v.From))) then true else(decide (1402560<v.To)))=(bif (bif (bif (bif (bif (bif (bif (bif (decide (v.Gauge<0)) then true else(decide (40<=v.Gauge))) then true else(decide (v.Seq<0))) then true else(decide (1099511627776<v.Seq))) then true else(decide (v.Known<0))) then true else(decide (14609<v.Known))) then true else(decide (v.From<0))) then true else(decide (v.To<=v.From))) then true else(decide (1402560<v.To))):=by rw[show(decide (39<v.Gauge))=decide (40<=v.Gauge) from decide_eq_decide.2 (by omega)]
 rw[hd];by_cases h:((0<=v.Gauge/\v.Gauge<=39)/\(0<=v.Seq/\v.Seq<=1099511627776)/\(0<=v.Known/\v.Known<=14609)/\0<=v.From/\v.From<v.To/\v.To<=1402560);rotate_left
 ·rw[it_t (ZO h),Bz (fun e:VRi v=>h e.1)]
 rw[it_f (ZN true h)];by_cases k1:v.Kind=1
 ·rw[it_d k1];by_cases s0:v.Shift=0
  ·rw[Cy s0];simp only[AU,Cj];rw[jzbg hc];simp only[Af];congr 1;rw[GQ,Ii,Ii];constructor
   ·intro e;exact⟨h,.inl ⟨k1,s0,e⟩⟩
   ·rintro⟨_,⟨_,_,e⟩|⟨e,_⟩|⟨e,_⟩⟩;·exact e
    ·omega
    ·omega
  ·rw[Bz s0];simp only[AQ,Af,Cq];rw[Bz];rintro⟨_,⟨_,e,_⟩|⟨e,_⟩|⟨e,_⟩⟩<;>omega
 rw[it_n k1];by_cases k2:v.Kind=2
 ·rw[it_d k2];congr 1;simp only[P0];rw[GQ,Ii];simp only[AE,BB];constructor
  ·rintro⟨⟨a,b⟩,c⟩;exact⟨h,.inr (.inl ⟨k2,by omega,by omega,by omega⟩)⟩
  ·rintro⟨_,⟨e,_⟩|⟨_,a,b,c⟩|⟨e,_⟩⟩<;>omega
 rw[it_n k2];by_cases k3:v.Kind=3
 ·rw[it_d k3];congr 1;simp only[P0];rw[GQ,Ii];simp only[AE,BB];constructor
  ·rintro⟨⟨a,b⟩,c⟩;exact⟨h,.inr (.inr ⟨k3,by omega,by omega,by omega⟩)⟩
  ·rintro⟨_,⟨e,_⟩|⟨e,_⟩|⟨_,a,b,c⟩⟩<;>omega
 ·rw[it_n k3];rw[Bz];rintro⟨_,⟨e,_⟩|⟨e,_⟩|⟨e,_⟩⟩<;>omega
def vsm(a b:Ac):Prop:=a.Gauge=b.Gauge/\a.Seq=b.Seq
instance (a b:Ac):Decidable (vsm a b):=by unfold vsm;infer_instance
def vcmp(a b:Ac):Int:=if vlt a b then -1 else if vsm a b then 0 else 1
theorem Ua(a b:Ac):DT a b=some (vcmp a b):=by
 unfold DT;rw[ZM];simp only[Af];unfold vcmp;by_cases h1:a.Gauge<b.Gauge
 ·rw[Ap h1,Ap (show vlt a b from .inl h1),BU (by decide)]
 ·by_cases h2:b.Gauge<a.Gauge;·rw[Aj h1,Ap h2,BU (by decide),Aj (show ¬vlt a b by unfold vlt;omega),Aj (show ¬vsm a b by unfold vsm;omega)]
  ·rw[Aj h1,Aj h2,Bu rfl,ZM];simp only[Af];have:a.Gauge=b.Gauge:=by omega
   by_cases h3:a.Seq<b.Seq
   ·rw[Ap h3,Ap (show vlt a b from .inr ⟨this,h3⟩)]
   ·by_cases h4:b.Seq<a.Seq;·rw[Aj h3,Ap h4,Aj (show ¬vlt a b by unfold vlt;omega),Aj (show ¬vsm a b by unfold vsm;omega)]
    ·rw[Aj h3,Aj h4,Aj (show ¬vlt a b by unfold vlt;omega),Ap (show vsm a b by unfold vsm;omega)]
theorem Pu{a b:Ac}:vcmp a b<0↔vlt a b:=by
 unfold vcmp;split
 ·simp[*]
 ·split<;>simp[*]
theorem Ub(a b:Ac):Kl a b=some (decide (vlt a b)):=by
 unfold Kl;congr 1;rw[GQ,Ii];unfold vlt;by_cases h1:a.Gauge<b.Gauge
 ·simp[h1]
 ·by_cases h2:a.Gauge=b.Gauge<;>simp[h1,h2]
def VsSz(l:List Ac):Prop:=∀v,v∈l->CSz v.Curve
def vchF(l:List Ac)(k:Nat)(v:Ac):Option Int:=if VRi v/\(0<k->vlt (l.getD (k-1) default) v) then none else some 1
def vchE(l:List Ac):Int:=if 400<l.length then 2 else(scan (vchF l) 0 l).getD 0
theorem GL{l:List Ac}(hs:VsSz l):DU l=some (vchE l):=by
 unfold DU vchE;by_cases h0:400<l.length
 ·rw[it_d,Ap h0]
 rw[it_n,Aj h0,GJ (l:=l) (vchF l) (by omega) ?_ ?_]
 ·simp only[Af];exact Pp
 ·intro k x hx;have hk:=(AN.1 hx).1;simp only[R5];rw[it_d,at_e rfl hx];simp only[Af];rw[HU (hs x (Dx hx))];simp only[Af,vchF];by_cases hr:VRi x;rotate_left
  ·rw[Bz hr];simp only[CZ,Da,PE,Bool.true_or];rw[G2,AQ];simp only[Af];rw[AQ];simp only[Af,Cj];rw[Dp,Aj (fun h=>hr h.1)]
  rw[Cy hr];simp only[Da,CZ,P2];by_cases iU:k=0
  ·subst iU;rw[show decide ((0:Int)<((0:Nat):Int))=false by simp];simp only[CZ,Bool.true_or];rw[G2,AQ];simp only[Af];rw[AQ];simp only[Af,Cq];rw[Be,AA,Ap ⟨hr,fun h=>by omega⟩]
  have eX:0<k:=by omega
  rw[show decide ((0:Int)<(k:Int))=true by simp;omega];rw[ck_t (by simp[As];omega),AU,Pq hx eX];simp only[Af];rw[AU,Ua];simp only[Af,Cq,Cj];by_cases hl:vlt (l.getD (k-1) default) x
  ·rw[it_n (by have:=Pu.2 hl;omega),AA,Ap ⟨hr,fun _=>hl⟩]
  ·rw[it_d (by have:=mt Pu.1 hl;omega),Aj (fun h=>hl (h.2 eX))]
 ·simp only[R5];rw[it_n]
theorem F_{l:List Ac}(hs:VsSz l):RA l=some (vchE l):=by
 unfold RA vchE;by_cases h0:400<l.length
 ·rw[it_d,Ap h0]
 rw[it_n,Aj h0,GJ (l:=l) (vchF l) (by omega) ?_ ?_]
 ·simp only[Af];exact Pp
 ·intro k x hx;have hk:=(AN.1 hx).1;simp only[R9];rw[it_d,at_e rfl hx];simp only[Af];rw[ZP (hs x (Dx hx))];simp only[Af,vchF];by_cases iU:k=0
  ·subst iU;rw[show decide (((0:Nat):Int)=0)=true by simp];simp only[Da,CZ,Bool.true_or,AQ,Af,Cj,Cq];rw[G2];by_cases hr:VRi x
   ·rw[it_f (by simp[hr]),AA,Ap ⟨hr,fun h=>by omega⟩]
   ·rw[it_t (by simp[hr]),Aj (fun h=>hr h.1)]
  have eX:0<k:=by omega
  rw[show decide ((k:Int)=0)=false by simp;omega];simp only[Da,CZ,Bool.false_or,AU,Cq];rw[AA,Pq hx eX];simp only[Af];rw[Ub];simp only[Af];by_cases hr:VRi x
  ·by_cases hl:vlt (l.getD (k-1) default) x;·rw[it_f (by rw[Cy hr,Cy hl];rfl),AA,Ap ⟨hr,fun _=>hl⟩]
   ·rw[it_t (by rw[Cy hr,Bz hl];rfl),Aj (fun h=>hl (h.2 eX))]
  ·rw[it_t (by simp[hr]),Aj (fun h=>hr h.1)]
 ·simp only[R9];rw[it_n]
theorem Jx{a b c:Ac}(h:vlt a b)(k:vlt b c):vlt a c:=by unfold vlt at *;omega
structure VBk(l:List Ac):Prop where
 right:∀r,r∈l->VRi r
 asc:l.Pairwise vlt
theorem Fx{l:List Ac}:vchE l=0↔l.length<=400/\VBk l:=by
 unfold vchE;by_cases h0:400<l.length
 ·rw[Ap h0];exact⟨fun h=>(by cases h),fun h=>by omega⟩
 rw[Aj h0];constructor
 ·intro h;refine⟨by omega,?_⟩;cases hs:scan (vchF l) 0 l with
  |some o =>
   obtain⟨i,x,hx,hi,_⟩:=Lf 0 l o hs;rw[hs]at h;simp only[Lr]at h;unfold vchF at hi;split at hi
   ·cases hi
   ·cases hi;cases h
  |none =>
   have hn:∀i x,l[i]?=some x->VRi x/\(0<i->vlt (l.getD (i-1) default) x):=fun i x hx=>by
    have:=Pr hs hx;unfold vchF at this;split at this
    ·assumption
    ·cases this
   refine⟨fun r hr=>?_,?_⟩
   ·obtain⟨i,hi,rfl⟩:=J6 hr;exact(hn i _ (AD hi)).1
   ·have step:∀i,(hi:i+1<l.length)->vlt l[i] l[i+1]:=fun i hi=>by
     have:=(hn (i+1) _ (AD hi)).2 (by omega);simpa [List.getD,show i<l.length by omega] using this
    rw[U4];intro i j hi hj mh;induction j with
    |zero=>omega
    |succ j ih =>
     by_cases e:i=j
     ·subst e;exact step i hj
     ·exact Jx (ih (by omega) (by omega)) (step j hj)
 ·rintro⟨_,hb⟩;rw[TT]
  ·rfl
  ·intro i x hx;obtain⟨hi,rfl⟩:=AN.1 hx;unfold vchF;rw[Ap];refine⟨hb.right _ (GT _),fun h=>?_⟩;have:=U4.1 hb.asc (0+i-1) i (by omega) hi (by omega);simpa [List.getD,show i-1<l.length by omega] using this
def vfit(kind gauge tick known:Int)(v:Ac):Prop:=v.Kind=kind/\v.Gauge=gauge/\v.Known<=known/\v.From<=tick/\tick<v.To
instance (a b c d:Int)(v:Ac):Decidable (vfit a b c d v):=by unfold vfit;infer_instance
def DI(kind gauge tick known:Int)(b:Option Ac)(v:Ac):Option Ac :=
 if vfit kind gauge tick known v then(match b with | none=>some v | some w=>if w.Known<=v.Known then some v else some w) else b
def vfrc(l:List Ac)(kind gauge tick known:Int):Option Ac:=l.foldl (DI kind gauge tick known) none
theorem Jy{l:List Ac}{v:Ac}{a b c d:Int}:vfrc (l++[v]) a b c d=DI a b c d (vfrc l a b c d) v:=by unfold vfrc;rw[List.foldl_append];rfl
theorem Uc(a b c d:Int):∀(n:Nat) (l:List Ac),l.length=n->∀w,vfrc l a b c d=some w->w∈l/\vfit a b c d w:=by
 intro n;induction n with
 |zero=>intro l hl w h;rw[J7.1 hl]at h;cases h
 |succ n ih =>
  intro l hl w h;have aH:l≠[]:=fun e=>by rw[e]at hl;cases hl
  obtain⟨m,v,rfl⟩:∃m v,l=m++[v]:=⟨_,_,(List.dropLast_concat_getLast aH).symm⟩;rw[Jy]at h;have hm:m.length=n:=by simpa using hl
  unfold DI at h;split at h
  ·rename_i hf;split at h
   ·cases h;exact⟨by simp,hf⟩
   ·rename_i w' e;split at h
    ·cases h;exact⟨by simp,hf⟩
    ·cases h;obtain⟨h1,h2⟩:=ih m hm _ e;exact⟨Cp.2 (.inl h1),h2⟩
  ·obtain⟨h1,h2⟩:=ih m hm _ h;exact⟨Cp.2 (.inl h1),h2⟩
theorem Ud{l:List Ac}(hl:l.length<=1000)(ha:l.Pairwise vlt)(kind gauge tick known:Int):Gu l kind gauge tick known=some (vfrc l kind gauge tick known):=by
 unfold Gu;rw[Jv (l:=l) (fun k=>(vfrc (l.take k) kind gauge tick known,(k:Int))) (by omega) (o:=vfrc l kind gauge tick known) ?_ ?_ ?_]
 ·simp only[Af]
 ·intro k x hx;have hk:=(AN.1 hx).1;simp only[QR];rw[it_d,at_e rfl hx];simp only[Af];have eB:l.take (k+1)=l.take k++[x]:=Fw hx;have hlt:∀w,w∈l.take k->vlt w x:=fun w hw=>by obtain⟨i,hi,rfl⟩:=J6 hw;obtain⟨_,rfl⟩:=AN.1 hx;rw[Eg]at hi;rw[List.getElem_take];exact U4.1 ha i k (by omega) hk (by omega)
  rw[eB,Jy];have aZ:=Uc kind gauge tick known _ (l.take k) rfl;generalize vfrc (l.take k) kind gauge tick known=b at *;by_cases hf:vfit kind gauge tick known x;rotate_left
  ·rw[it_t (by
    simp only[HV,Fz,BB,GR,PK];unfold vfit at hf;omega)]
   simp only[Af];rw[AA];unfold DI;rw[Aj hf];rfl
  rw[it_f (by simp only[HV,Ul,PK,Bool.not_eq_false',BB];unfold vfit at hf;omega)];simp only[Af];unfold DI;rw[Ap hf];cases b with
  |none =>simp only[Option.isSome_none,CZ,Da,AQ,Af,Cj,PE];rw[Dp,AA];rfl
  |some w =>
   obtain⟨hw,pH⟩:=aZ w rfl;have hv:=hlt w hw;have hs:w.Seq<x.Seq:=by unfold vfit at hf pH;unfold vlt at hv;omega
   simp only[Option.isSome_some,Da,CZ,AU,Af,Cq];by_cases h1:w.Known<x.Known
   ·rw[Cy h1];simp only[Da,AQ,Af,Cj,PE];rw[Dp,AA,ifP];rfl
   ·rw[Bz h1];simp only[CZ,AU,Af,Cq,P2];by_cases h2:x.Known=w.Known
    ·rw[Cy h2];simp only[AU,Af,Cj];rw[it_d hs,AA,ifP];rfl
    ·rw[Bz h2];simp only[AQ,Af,Cq];rw[Be,AA,ifN];rfl
 ·simp only[QR];rw[it_n,List.take_length]
 ·rfl
theorem ZQ{l:List Ac}(hl:l.length<=1000)(kind gauge tick known:Int):∃j:Int,N2 l kind gauge tick known=some j/\((j = -1/\vfrc l kind gauge tick known=none)\/∃k:Nat,∃w,j=(k:Int)/\l[k]?=some w/\vfrc l kind gauge tick known=some w):=by
 unfold N2
 obtain⟨o,e,ho⟩:=Dw (s:=((-1:Int),(0:Int))) (body:=QS gauge kind known l tick) (fun s=>∃k:Nat,∃j:Int,s=(j,(k:Int))/\k<=l.length/\((j = -1/\vfrc (l.take k) kind gauge tick known=none)\/∃i:Nat,∃w,j=(i:Int)/\l[i]?=some w/\vfrc (l.take k) kind gauge tick known=some w)) (fun s=>(l.length-s.2).toNat) (fun j=>(j = -1/\vfrc l kind gauge tick known=none)\/∃k:Nat,∃w,j=(k:Int)/\l[k]?=some w/\vfrc l kind gauge tick known=some w) (by
  rintro s ⟨k,j,rfl,hk,hI⟩;simp only[QS];by_cases hlt:k<l.length;rotate_left
  ·right;rw[it_n];rw[Ia (by omega)]at hI;exact⟨_,rfl,hI⟩
  left;have hx:=AD hlt;have eB:l.take (k+1)=l.take k++[l[k]]:=Fw hx;rw[it_d,at_e rfl hx];simp only[Af];have eU:=Jy (l:=l.take k) (v:=l[k]) (a:=kind) (b:=gauge) (c:=tick) (d:=known);rw[<-eB]at eU;generalize l[k]=x at *
  have lw:(bif (bif (bif (bif (decide (x.Kind=kind)) then(decide (x.Gauge=gauge)) else false) then(decide (x.Known<=known)) else false) then(decide (x.From<=tick)) else false) then(decide (tick<x.To)) else false)=decide (vfit kind gauge tick known x):=by
   rw[GQ,Ii];simp only[P0,AE,BB];unfold vfit;constructor
   ·rintro⟨⟨⟨⟨a,b⟩,c⟩,d⟩,e⟩;exact⟨a,b,c,d,e⟩
   ·rintro⟨a,b,c,d,e⟩;exact⟨⟨⟨⟨a,b⟩,c⟩,d⟩,e⟩
  rw[lw];unfold DI at eU;by_cases hf:vfit kind gauge tick known x;rotate_left
  ·rw[Aj hf]at eU;rw[Bz hf];simp only[PE,AQ,Af,Cq];rw[Be,AA];refine⟨_,rfl,⟨k+1,j,by simp,hlt,?_⟩,by simp only;omega⟩;rw[eU];exact hI
  rw[Ap hf]at eU;rw[Cy hf];simp only[P2,Cj];rcases hI with ⟨rfl,hn⟩|⟨i,w,rfl,hw,hn⟩
  ·rw[hn]at eU;rw[show decide ((-1:Int)<0)=true by decide];simp only[Da,AQ,Af,Cj];rw[Dp,AA];exact⟨_,rfl,⟨k+1,(k:Int),by simp,hlt,.inr ⟨k,x,rfl,hx,eU⟩⟩,by simp only;omega⟩
  ·rw[hn]at eU;simp only at eU;rw[show decide ((i:Int)<0)=false by simp];simp only[CZ,AU,Cq];rw[show max 0 (i:Int)=(i:Int) by omega,at_e rfl hw];simp only[Af];by_cases dr:w.Known<=x.Known
   ·rw[Ap dr]at eU;rw[it_d dr,AA];exact⟨_,rfl,⟨k+1,(k:Int),by simp,hlt,.inr ⟨k,x,rfl,hx,eU⟩⟩,by simp only;omega⟩
   ·rw[Aj dr]at eU;rw[it_n dr,AA];exact⟨_,rfl,⟨k+1,(i:Int),by simp,hlt,.inr ⟨i,w,rfl,hw,eU⟩⟩,by simp only;omega⟩) ⟨0,-1,rfl,Ej _,.inl ⟨rfl,rfl⟩⟩ (by simp only;omega)
 rw[e];exact⟨o,rfl,ho⟩
theorem ZR(c:AG):∃b,Kj c=some b/\(b=true->CSz c):=by
 unfold Kj;by_cases h:20<c.Points.length
 ·rw[it_d];exact⟨_,rfl,fun e=>by cases e⟩
 rw[it_n,GJ (l:=c.Points) (fun _ p=>if p.Flow.Num.length<=12/\p.Flow.Den.length<=12 then none else some false) (by omega) ?_ ?_]
 ·cases hs:scan (fun _ (p:AC)=>if p.Flow.Num.length<=12/\p.Flow.Den.length<=12 then none else some false) 0 c.Points with
  |some o =>
   obtain⟨i,x,hx,hi,_⟩:=Lf 0 c.Points o hs;refine⟨o,rfl,fun e=>?_⟩;split at hi
   ·cases hi
   ·cases hi;cases e
  |none =>
   refine⟨true,rfl,fun _=>⟨by omega,fun p hp=>?_⟩⟩;obtain⟨i,hi,rfl⟩:=J6 hp;have:=Pr hs (AD hi);split at this
   ·rename_i h';exact⟨by omega,by omega⟩
   ·cases this
 ·intro k p hp;have hk:=(AN.1 hp).1;simp only[QP];rw[it_d,at_e rfl hp];simp only[Af];by_cases h1:12<p.Flow.Num.length
  ·rw[Cy (show(12:Int)<(p.Flow.Num.length:Int) by omega)];simp only[Da,AQ,Af,Cj];rw[Dp,ifN]
  ·rw[Bz (show ¬(12:Int)<(p.Flow.Num.length:Int) by omega)];simp only[CZ,AU,Af,Cq];by_cases h2:12<p.Flow.Den.length
   ·rw[it_d,ifN]
   ·rw[it_n,AA,ifP]
 ·simp only[QP];rw[it_n]
theorem nu(vs:List Ac)(m:Int):∃b,N5 vs m=some b/\(b=true->VsSz vs):=by
 unfold N5;by_cases h:410<vs.length
 ·rw[it_t (by simp only[HV,Fz,BB];exact .inr (by omega))];exact⟨_,rfl,fun e=>by cases e⟩
 cases hd:(bif (bif (decide (m<(List.length vs:Int))) then(decide ((List.length vs:Int)<=400)) else false) then true else(decide (410<(List.length vs:Int))));rotate_left
 ·rw[Dp];exact⟨_,rfl,fun e=>by cases e⟩
 rw[Be]
 obtain⟨o,e,ho⟩:=Dw (s:=(0:Int)) (body:=Re vs) (fun s=>∃k:Nat,s=(k:Int)/\k<=vs.length/\∀v,v∈vs.take k->CSz v.Curve) (fun s=>(vs.length-s).toNat) (fun o=>(o=.inl ()/\VsSz vs)\/o=.inr false) (by
  rintro s ⟨k,rfl,hk,hI⟩;simp only[Re];by_cases hlt:k<vs.length;rotate_left
  ·right;rw[it_n];rw[Ia (by omega)]at hI;exact⟨_,rfl,.inl ⟨rfl,hI⟩⟩
  have hx:=AD hlt;have eB:vs.take (k+1)=vs.take k++[vs[k]]:=Fw hx;rw[it_d,at_e rfl hx];simp only[Af];obtain⟨b,eb,hb⟩:=ZR vs[k].Curve;rw[eb];simp only[Af];cases b
  ·rw[CZ,Dp];exact .inr ⟨_,rfl,.inr rfl⟩
  ·rw[Da,Be,AA];refine .inl ⟨_,rfl,⟨k+1,by simp,hlt,fun v hv=>?_⟩,by omega⟩;rw[eB]at hv;rcases Cp.1 hv with p|p
   ·exact hI v p
   ·rw[BX.1 p];exact hb rfl) ⟨0,rfl,Ej _,fun v hv=>by simp at hv⟩ (by omega)
 rw[e];simp only[Af];rcases ho with ⟨rfl,h⟩|rfl
 ·exact⟨true,rfl,fun _=>h⟩
 ·exact⟨false,rfl,fun e=>by cases e⟩
theorem Cd.next{U:Type}{f:Int->U}{b:Int}:∀{l:List (Int×Int×U)} {v:Option U} {a:Int},Cd f b v a l->∀i,(h:i<l.length)->(l[i].2.1<b->∃h2:i+1<l.length,l[i+1].1=l[i].2.1)/\(i+1<l.length->l[i].2.1<b)
 |p :: l,v,a,h,i,hi=>by
  obtain⟨k1,k2,k3,k4,k5⟩:=h;cases i with
  |zero =>
   simp only[List.getElem_cons_zero];cases l with
   |nil =>have k5:_=_:=k5;exact⟨fun h=>by omega,fun h=>by simp at h⟩
   |cons q l =>obtain⟨m1,m2,_,_,m5⟩:=k5;refine⟨fun _=>⟨by simp,m1⟩,fun _=>?_⟩;have:=m5.le;omega
  |succ i =>simp only[Df]at hi |-;have:=k5.next i (by omega);simp only[List.getElem_cons_succ];exact⟨fun h=>by obtain⟨h2,e⟩:=this.1 h;exact⟨by omega,e⟩,fun h=>this.2 (by omega)⟩
theorem Cd.first{U:Type}{f:Int->U}{b:Int}{l:List (Int×Int×U)}{v:Option U}{a:Int}(h:Cd f b v a l)(gH:a<b):∃hp:0<l.length,l[0].1=a:=by
 cases l with
 |nil=>have h:a=b:=h;omega
 |cons p l=>exact⟨by simp,h.1⟩
theorem jzxq{α:Type}{l:List α}{k:Nat}{r x:α}:x∈insL l k r↔x∈l\/x=r:=by
 unfold insL
 conv=>rhs;rw[<-P7 k l]
 simp only[Cp,BX];constructor
 ·rintro((h|h)|h);·exact .inl (.inl h)
  ·exact .inr h
  ·exact .inl (.inr h)
 ·rintro((h|h)|h);·exact .inl (.inl h)
  ·exact .inr h
  ·exact .inl (.inr h)
theorem jzxr{α:Type}{l:List α}{k:Nat}{r:α}:(insL l k r).length=l.length+1:=by unfold insL;simp only[BK,Eg,EB,Dh];omega
theorem keqP(x y:AC):(decide (x.Stage=y.Stage)&&((x.Flow.Neg==y.Flow.Neg)&&(decide (x.Flow.Num=y.Flow.Num)&&(decide (x.Flow.Den=y.Flow.Den)&&true))))=decide (x=y):=by obtain⟨a,b,c,d⟩:=x;obtain⟨e,f,g,h⟩:=y;rw[GQ];simp
theorem ZS{a b:List AC}(hl:a.length<=1048576){body:Int->Option (Int⊕(Unit⊕Bool))}(hb:∀k:Int,body k=ite' (decide (k<(List.length a:Int))) (bd (at? a k) fun x1=>bd (at? b k) fun x2=>ite' (!(decide (x1.Stage=x2.Stage)&&((x1.Flow.Neg==x2.Flow.Neg)&&(decide (x1.Flow.Num=x2.Flow.Num)&&(decide (x1.Flow.Den=x2.Flow.Den)&&true))))) (some (.inr (.inr false))) (ck (As .i64 (k+1))<|some (.inl (k+1)))) (some (.inr (.inl ())))) : (ite' (!decide ((List.length a:Int)=(List.length b:Int))) (some false) (bd (lp body 0) fun o=>match o with | .inl ()=>some true | .inr o=>some o))=some (decide (a=b)):=by
 by_cases hn:a.length=b.length;rotate_left
 ·rw[BU,Bz fun e=>hn (by rw[e])]
 rw[Bu,GJ (l:=a) (fun k x=>if x=b.getD k default then none else some false) (by omega) ?_ ?_]
 ·cases hs:scan (fun k x=>if x=b.getD k default then none else some false) 0 a with
  |none =>
   have:a=b:=by
    refine List.ext_getElem hn fun i h1 h2=>?_;have:=Pr hs (AD h1);split at this
    ·rename_i h;rw[h];simp[List.getD,h2]
    ·cases this
   subst this;simp[sOut,Af]
  |some o =>
   obtain⟨i,x,hx,hi,_⟩:=Lf 0 a o hs;split at hi
   ·cases hi
   ·rename_i h;cases hi;rw[Bz]
    ·simp[sOut,Af]
    ·rintro rfl;apply h;rw[Cx,List.getD,hx];rfl
 ·intro k x hx;have hk:=(AN.1 hx).1;have aW:b[k]?=some (b.getD k default):=by simp[List.getD,show k<b.length by omega]
  rw[hb,it_d,at_e rfl hx,at_e rfl aW];simp only[Af];rw[keqP];by_cases h:x=b.getD k default
  ·rw[Bu h,AA,Ap h]
  ·rw[BU h,Aj h]
 ·rw[hb,it_n]
theorem ZT(v w:Ac):(decide (v.Curve.Points=w.Curve.Points)=true/\((((((v.Kind=w.Kind/\v.Gauge=w.Gauge)/\v.Seq=w.Seq)/\v.Known=w.Known)/\v.From=w.From)/\v.To=w.To)/\v.Shift=w.Shift))↔v=w:=by
 obtain⟨a1,a2,a3,a4,a5,a6,a7,⟨a8⟩⟩:=v;obtain⟨b1,b2,b3,b4,b5,b6,b7,⟨b8⟩⟩:=w;simp only[BB,Ac.mk.injEq,AG.mk.injEq];constructor
 ·rintro⟨h8,⟨⟨⟨⟨⟨⟨h1,h2⟩,h3⟩,h4⟩,h5⟩,h6⟩,h7⟩⟩;exact⟨h1,h2,h3,h4,h5,h6,h7,h8⟩
 ·rintro⟨h1,h2,h3,h4,h5,h6,h7,h8⟩;exact⟨h8,⟨⟨⟨⟨⟨⟨h1,h2⟩,h3⟩,h4⟩,h5⟩,h6⟩,h7⟩⟩
theorem ZU{a b:List AC}(h:a.length<=1048576):QZ a b=some (decide (a=b)):=ZS (b:=b) (body:=yzi a b) h (fun k=>rfl)
theorem Ue{a b:AG}(h:a.Points.length<=1048576):Hs a b=some (decide (a.Points=b.Points)):=ZS (b:=b.Points) (body:=Xa a b) h (fun k=>rfl)
theorem ZV{v w:Ac}(h:v.Curve.Points.length<=1048576):IA v w=some (decide (v=w)):=by
 unfold IA Hv;rw[ZU h];simp only[Af];by_cases hp:v.Curve.Points=w.Curve.Points
 ·rw[Bu hp];congr 1;simp only[P0];rw[GQ,Ii,<-ZT];simp[hp]
 ·rw[BU hp,Bz (fun e=>hp (by rw[e]))]
theorem ZJ{v w:Ac}(h:v.Curve.Points.length<=1048576):Kt v w=some (decide (v=w)):=by
 unfold Kt;rw[Ue h];simp only[Af];congr 1;simp only[P0];rw[GQ,Ii,<-ZT];simp only[AE,BB];constructor
 ·rintro⟨⟨⟨⟨⟨⟨⟨h8,h1⟩,h2⟩,h3⟩,h4⟩,h5⟩,h6⟩,h7⟩;exact⟨h8,⟨⟨⟨⟨⟨⟨h1,h2⟩,h3⟩,h4⟩,h5⟩,h6⟩,h7⟩⟩
 ·rintro⟨h8,⟨⟨⟨⟨⟨⟨h1,h2⟩,h3⟩,h4⟩,h5⟩,h6⟩,h7⟩⟩;exact⟨⟨⟨⟨⟨⟨⟨h8,h1⟩,h2⟩,h3⟩,h4⟩,h5⟩,h6⟩,h7⟩
theorem ZW{a:Ac}:¬vlt a a:=by unfold vlt;omega
theorem Q_{a b:Ac}(h:vlt a b):¬vlt b a:=by unfold vlt at *;omega
theorem Pv(a b:Ac):vlt a b\/vsm a b\/vlt b a:=by unfold vlt vsm;omega
theorem Uf{a b:Ac}(h:vlt a b):¬vsm a b:=by unfold vlt at h;unfold vsm;omega
theorem ZX{a b:Ac}(h:vlt a b):¬vsm b a:=by unfold vlt at h;unfold vsm;omega
theorem Ug:∀{D E:List Ac},D.Pairwise vlt->E.Pairwise vlt->(∀x,x∈D↔x∈E)->D=E
 |[],[],_,_,_=>rfl
 |[],e :: E,_,_,h=>by have:=(h e).2 (BL ..);cases this
 |d :: D,[],_,_,h=>by have:=(h d).1 (BL ..);cases this
 |d :: D,e :: E,hd,he,h=>by
  obtain⟨d1,d2⟩:=GU.1 hd;obtain⟨e1,e2⟩:=GU.1 he
  have mg:d=e:=by
   rcases AI.1 ((h d).1 (BL ..)) with p|p
   ·exact p
   ·rcases AI.1 ((h e).2 (BL ..)) with q|q;·exact q.symm
    ·exact absurd (d1 e q) (Q_ (e1 d p))
  subst mg;rw[Ug d2 e2 fun x=>⟨fun hx=>?_,fun hx=>?_⟩]
  ·rcases AI.1 ((h x).1 (Db _ hx)) with p|p;·subst p;exact absurd (d1 x hx) ZW
   ·exact p
  ·rcases AI.1 ((h x).2 (Db _ hx)) with p|p;·subst p;exact absurd (e1 x hx) ZW
   ·exact p
theorem ZY{a b:Ac}:vcmp a b=0↔vsm a b:=by
 unfold vcmp;split
 ·rename_i h;simp[Uf h]
 ·split<;>simp[*]
theorem vget{l:List Ac}(h:l.Pairwise vlt){i j:Nat}(hi:i<l.length)(hj:j<l.length)(mh:i<j):vlt l[i] l[j]:=U4.1 h i j hi hj mh
theorem jz3e{l:List Ac}(hl:l.length<=4000)(ha:l.Pairwise vlt)(r:Ac):∃k:Nat,∃b:Bool,I8 l r (fun a0 a1=>DT a0 a1)=some ((k:Int),b)/\k<=l.length/\(∀i,(hi:i<l.length)->i<k->vlt l[i] r)/\(∀i,(hi:i<l.length)->k<=i->¬vlt l[i] r)/\(b=true↔∃h:k<l.length,vsm l[k] r):=by
 unfold I8
 obtain⟨o,e,k,rfl,hk,h1,h2⟩:=Dw (s:=((0:Int),(l.length:Int))) (body:=QQ (fun a0 a1=>DT a0 a1) r l) (fun s=>∃i j:Nat,s=((i:Int),(j:Int))/\i<=j/\j<=l.length/\(∀m,(hm:m<l.length)->m<i->vlt l[m] r)/\(∀m,(hm:m<l.length)->j<=m->¬vlt l[m] r)) (fun s=>(s.2-s.1).toNat) (fun o=>∃k:Nat,o=(k:Int)/\k<=l.length/\(∀m,(hm:m<l.length)->m<k->vlt l[m] r)/\(∀m,(hm:m<l.length)->k<=m->¬vlt l[m] r)) (by
  rintro s ⟨i,j,rfl,mh,hj,h1,h2⟩;simp only[QQ];by_cases h:i<j;rotate_left
  ·right;rw[it_n];obtain rfl:i=j:=by omega
   exact⟨_,rfl,i,rfl,hj,h1,h2⟩
  left;have hm:Int.fdiv (((i:Int)+j)%18446744073709551616) 2=(((i+j) / 2:Nat):Int):=by rw[Int.emod_eq_of_lt (by omega) (by omega),P3 _ (by decide)];omega
  rw[it_d,AA,hm,AA];have hlt:(i+j) / 2<l.length:=by omega
  rw[at_e rfl (AD hlt)];simp only[Af];rw[Ua];simp only[Af];by_cases hc:vlt l[(i+j) / 2] r
  ·rw[it_d (Pu.2 hc),AA];refine⟨_,rfl,⟨(i+j) / 2+1,j,by simp,by omega,hj,fun m hm kl=>?_,h2⟩,by simp only;omega⟩;by_cases e:m=(i+j) / 2
   ·subst e;exact hc
   ·exact Jx (vget ha hm hlt (by omega)) hc
  ·rw[it_n (mt Pu.1 hc)];refine⟨_,rfl,⟨i,(i+j) / 2,rfl,by omega,by omega,h1,fun m hm kl hr=>?_⟩,by simp only;omega⟩;by_cases e:m=(i+j) / 2
   ·subst e;exact hc hr
   ·exact hc (Jx (vget ha hlt hm (by omega)) hr)) ⟨0,l.length,by simp,Ej _,AB _,fun m hm h=>by omega,fun m hm h=>by omega⟩ (by simp;omega)
 rw[e];simp only[Af];by_cases dr:k<l.length
 ·rw[show decide ((k:Int)<(l.length:Int))=true by simp;omega];simp only[AU,Cj];rw[at_e rfl (AD dr)];simp only[Af];rw[Ua];simp only[Af];exact⟨k,_,rfl,hk,h1,h2,by simp[dr,ZY]⟩
 ·rw[show decide ((k:Int)<(l.length:Int))=false by simp;omega];simp only[AQ,Cq,Af];exact⟨k,_,rfl,hk,h1,h2,by simp[dr]⟩
structure Pw(l m:List Ac)(v:Ac):Prop where
 asc:m.Pairwise vlt
 mem:∀y,y∈m↔y∈l\/y=v
 len:m.length=l.length+1
def VAdd(F:Option (List Ac×Int))(l:List Ac)(v:Ac):Prop := (vchE l≠0/\F=some ([],vchE l))\/(vchE l=0/\¬VRi v/\F=some ([],1))\/(vchE l=0/\VRi v /\
 ((∃x,x∈l/\vsm x v/\((x=v/\F=some ([],9))\/(x≠v/\F=some ([],24))))
  \/ ((∀x,x∈l->¬vsm x v)/\((400<=l.length/\F=some ([],2))\/(l.length<400/\∃m,F=some (m,0)/\Pw l m v)))))
theorem vone{l:List Ac}(h:l.Pairwise vlt){a b:Ac}(ha:a∈l)(hb:b∈l)(e:vsm a b):a=b:=by
 induction l with
 |nil=>cases ha
 |cons x l ih =>
  obtain⟨h1,h2⟩:=GU.1 h;rcases AI.1 ha with p|p<;>rcases AI.1 hb with q|q
  ·rw[p,q]
  ·subst p;exact absurd e (Uf (h1 b q))
  ·subst q;exact absurd e (ZX (h1 a p))
  ·exact ih h2 p q
theorem vsm.symm{a b:Ac}(h:vsm a b):vsm b a:=⟨h.1.symm,h.2.symm⟩
theorem vsm.trans{a b c:Ac}(h:vsm a b)(k:vsm b c):vsm a c:=⟨h.1.trans k.1,h.2.trans k.2⟩
theorem VAdd.uniq{l:List Ac}{v:Ac}{F G:Option (List Ac×Int)}(hF:VAdd F l v)(hG:VAdd G l v):F=G:=by
 rcases hF with ⟨a,e⟩|⟨a,b,e⟩|⟨a,b,c⟩<;>rcases hG with ⟨a',e'⟩|⟨a',b',e'⟩|⟨a',b',c'⟩ <;>
  first|exact absurd a a'|exact absurd a' a|exact absurd b b'|exact absurd b' b|(rw[e,e'];done)|skip
 have ha:=(Fx.1 a).2.asc;rcases c with ⟨x,hx,hs,d⟩|⟨hn,d⟩<;>rcases c' with ⟨y,hy,ht,d'⟩|⟨hm,d'⟩
 ·obtain rfl:=vone ha hx hy (hs.trans ht.symm);rcases d with ⟨p,e⟩|⟨p,e⟩<;>rcases d' with ⟨p',e'⟩|⟨p',e'⟩<;>first|exact absurd p p'|exact absurd p' p|rw[e,e']
 ·exact absurd hs (hm x hx)
 ·exact absurd ht (hn y hy)
 ·rcases d with ⟨p,e⟩|⟨p,m,e,hm⟩<;>rcases d' with ⟨p',e'⟩|⟨p',m',e',ce⟩;·rw[e,e']
  ·omega
  ·omega
  ·rw[e,e',Ug hm.asc ce.asc fun z=>(hm.mem z).trans (ce.mem z).symm]
theorem jz3c{l:List Ac}(h:l.Pairwise vlt){k:Nat}{r:Ac}(cg:∀i,(hi:i<l.length)->i<k->vlt l[i] r)(dj:∀i,(hi:i<l.length)->k<=i->vlt r l[i]):(insL l k r).Pairwise vlt:=by
 unfold insL;rw[List.pairwise_append,List.pairwise_append];refine⟨⟨List.Pairwise.sublist (List.take_sublist ..) h,P6 _ _,fun a ha b hb=>?_⟩,List.Pairwise.sublist (List.drop_sublist ..) h,fun a ha b hb=>?_⟩
 ·obtain⟨i,hi,rfl⟩:=J6 ha;rw[BX.1 hb,List.getElem_take];simp only[Eg]at hi;exact cg i (by omega) (by omega)
 ·obtain⟨j,hj,rfl⟩:=J6 hb;simp only[EB]at hj;rw[List.getElem_drop];have h2:=dj (k+j) (by omega) (by omega);rcases Cp.1 ha with ha|ha
  ·obtain⟨i,hi,rfl⟩:=J6 ha;rw[List.getElem_take];simp only[Eg]at hi;exact Jx (cg i (by omega) (by omega)) h2
  ·rw[BX.1 ha];exact h2
theorem jz3j{l:List Ac}{v:Ac}(hs:VsSz l)(hv:CSz v.Curve):VAdd (Cf l v) l v:=by
 by_cases h:vchE l=0;rotate_left
 ·left;refine⟨h,?_⟩;have e:Dn l v=some ([],vchE l):=by unfold Dn;rw[GL hs];simp only[Af];rw[BU h]
  unfold Cf;rw[e]
 right;by_cases hr:VRi v;rotate_left
 ·left;refine⟨h,hr,?_⟩;have e:Dn l v=some ([],1):=by unfold Dn;rw[GL hs];simp only[Af];rw[Bu h,HU hv];simp only[Af];rw[BU hr]
  unfold Cf;rw[e]
 right;refine⟨h,hr,?_⟩;obtain⟨hl,hb⟩:=Fx.1 h;obtain⟨k,b,ef,hk,h1,h2,h3⟩:=jz3e (by omega) hb.asc v;cases b
 ·have hn:∀x,x∈l->¬vsm x v:=fun x hx hs=>by
   obtain⟨i,hi,rfl⟩:=J6 hx;by_cases iM:i<k
   ·exact Uf (h1 i hi iM) hs
   ·have jQ:k<l.length:=(by omega);have h4:=h2 k jQ (AB _);have h5:¬vsm l[k] v:=fun e=>by have:=h3.2 ⟨jQ,e⟩;cases this
    rcases Pv l[k] v with h|h|h
    ·exact h4 h
    ·exact h5 h
    ·by_cases e:i=k;·subst e;exact h5 hs
     ·exact ZX (Jx h (vget hb.asc jQ hi (by omega))) hs
  refine .inr ⟨hn,?_⟩;by_cases h4:400<=l.length
  ·refine .inl ⟨h4,?_⟩;have e:Dn l v=some ([],2):=by unfold Dn;rw[GL hs];simp only[Af];rw[Bu h,HU hv];simp only[Af];rw[Bu hr,ef];simp only[Af];rw[Be,it_d]
   unfold Cf;rw[e]
  ·refine .inr ⟨by omega,insL l k v,?_,?_,fun y=>jzxq,jzxr⟩
   ·have e:Dn l v=none:=by
     unfold Dn;rw[GL hs];simp only[Af];rw[Bu h,HU hv];simp only[Af];rw[Bu hr,ef];simp only[Af];rw[Be,it_n]
    unfold Cf;rw[e];unfold Q6;rw[GL hs,HU hv,ef];simp only[Af];rw[ck_t (by simp[h,hr];omega)];rfl
   ·refine jz3c hb.asc h1 fun i hi pI=>?_;rcases Pv l[i] v with h|h|h
    ·exact absurd h (h2 i hi pI)
    ·exact absurd h (hn _ (GT _))
    ·exact h
 ·obtain⟨jQ,ku⟩:=h3.1 rfl;refine .inl ⟨l[k],GT _,ku,?_⟩;have ea:at? l (k:Int)=some l[k]:=at_e rfl (AD jQ);have hc:=(hs l[k] (GT _)).len;by_cases he:l[k]=v
  ·refine .inl ⟨he,?_⟩;have e:Dn l v=some ([],9):=by unfold Dn;rw[GL hs];simp only[Af];rw[Bu h,HU hv];simp only[Af];rw[Bu hr,ef];simp only[Af];rw[Dp,ea];simp only[Af];rw[ZV hc];simp only[Af];rw[it_d he]
   unfold Cf;rw[e]
  ·refine .inr ⟨he,?_⟩;have e:Dn l v=some ([],24):=by unfold Dn;rw[GL hs];simp only[Af];rw[Bu h,HU hv];simp only[Af];rw[Bu hr,ef];simp only[Af];rw[Dp,ea];simp only[Af];rw[ZV hc];simp only[Af];rw[it_n he]
   unfold Cf;rw[e]
theorem n_{l:List Ac}{v:Ac}(hl:l.length<=100000)(ha:l.Pairwise vlt)(hn:∀x,x∈l->¬vsm x v):∃m,Rh l v=some m/\Pw l m v:=by
 unfold Rh
 obtain⟨o,e2,d,out,rfl,h1,h2,h3,h5⟩:=Dw (s:=(false,(0:Int),([]:List Ac))) (body:=Rg l v) (fun s=>∃k:Nat,∃d out,s=(d,(k:Int),out)/\k<=l.length/\out.Pairwise vlt/\(∀x,x∈out↔(x=v/\d=true)\/x∈l.take k)/\(d=false->∀x,x∈l.take k->vlt x v)/\(d=true->∀x,x∈l.drop k->vlt v x)/\out.length=k+d.toNat) (fun s=>(l.length-s.2.1).toNat) (fun o=>∃d out,o=(d,out)/\out.Pairwise vlt/\(∀x,x∈out↔(x=v/\d=true)\/x∈l)/\(d=false->∀x,x∈l->vlt x v)/\out.length=l.length+d.toNat) (by
   rintro s ⟨k,d,out,rfl,hk,h1,h2,h3,h4,h5⟩;simp only[Rg];by_cases hlt:k<l.length;rotate_left
   ·right;rw[it_n];rw[Ia (by omega)]at h2 h3;exact⟨_,rfl,d,out,rfl,h1,h2,h3,by omega⟩
   left;have hx:=AD hlt;have eB:l.take (k+1)=l.take k++[l[k]]:=Fw hx;have dR:l.drop k=l[k] :: l.drop (k+1):=Li hlt;have cg:∀x,x∈l.take k->vlt x l[k]:=fun x hx=>by obtain⟨i,hi,rfl⟩:=J6 hx;rw[Eg]at hi;rw[List.getElem_take];exact vget ha (by omega) hlt (by omega)
   have dj:∀x,x∈l.drop (k+1)->vlt l[k] x:=fun x hx=>by obtain⟨i,hi,rfl⟩:=J6 hx;rw[EB]at hi;rw[List.getElem_drop];exact vget ha hlt (by omega) (by omega)
   have iw:=hn l[k] (GT _);generalize l[k]=y at *;have dA:at? l (k:Int)=some y:=at_e rfl hx;rw[it_d,dA];simp only[Af];rw[Ub,Ub];simp only[Af]
   have ey:(bif decide (vlt v y) then true else decide (vlt y v))=true:=by
    rcases Pv y v with h|h|h
    ·simp[h]
    ·exact absurd h iw
    ·simp[h]
   have step:∀d' out',out'.Pairwise vlt->(∀x,x∈out'↔(x=v/\d'=true)\/x∈l.take k)->(d'=false->vlt y v/\∀x,x∈l.take k->vlt x v)->(d'=true->vlt v y)->out'.length=k+d'.toNat -> ∃k':Nat,∃d out,((d',((k:Int)+1),(out'++[y])):Bool×Int×List Ac)=(d,(k':Int),out)/\k'<=l.length/\out.Pairwise vlt/\(∀x,x∈out↔(x=v/\d=true)\/x∈l.take k')/\(d=false->∀x,x∈l.take k'->vlt x v)/\(d=true->∀x,x∈l.drop k'->vlt v x)/\out.length=k'+d.toNat:=by
    intro d' out' g1 g2 g3 g4 g5;refine⟨k+1,d',_,rfl,hlt,?_,fun x=>?_,fun e x hx=>?_,fun e x hx=>Jx (g4 e) (dj x hx),by simp;omega⟩
    ·refine List.pairwise_append.2 ⟨g1,P6 _ _,fun a ha b hb=>?_⟩;rw[BX.1 hb];rcases(g2 a).1 ha with ⟨e,e'⟩|e
     ·rw[e];exact g4 e'
     ·exact cg a e
    ·rw[Cp,g2,eB,Cp,or_assoc]
    ·rw[eB]at hx;rcases Cp.1 hx with hx|hx
     ·exact(g3 e).2 x hx
     ·rw[BX.1 hx];exact(g3 e).1
   have gi:out.length<=k+1:=by cases d<;>simp at h5<;>omega
   cases d with
   |true =>rw[it_f (by simp)];simp only[Af];rw[it_t ey,ck_d (by simp;omega),AA];exact⟨_,rfl,step true out h1 h2 (fun e=>by cases e) (fun e=>h4 e y (by rw[dR];exact BL ..)) h5,by simp only;omega⟩
   |false =>
    have pJ:out.length=k:=(by simpa using h5);by_cases hc:vlt y v
    ·rw[it_f (by simp[hc])];simp only[Af];rw[it_t ey,ck_d (by simp;omega),AA];exact⟨_,rfl,step false out h1 h2 (fun _=>⟨hc,h3 rfl⟩) (fun e=>by cases e) h5,by simp only;omega⟩
    ·have fC:vlt v y:=by
      rcases Pv y v with h|h|h
      ·exact absurd h hc
      ·exact absurd h iw
      ·exact h
     rw[it_t (by simp[hc]),ck_d (by simp;omega)];simp only[Af];rw[it_t ey,ck_d (by simp;omega),AA];refine⟨_,rfl,step true (out++[v]) ?_ (fun x=>?_) (fun e=>by cases e) (fun _=>fC) (by simp;omega),by simp only;omega⟩
     ·refine List.pairwise_append.2 ⟨h1,P6 _ _,fun a ha b hb=>?_⟩;rw[BX.1 hb];rcases(h2 a).1 ha with ⟨_,e⟩|e
      ·cases e
      ·exact h3 rfl a e
     ·rw[Cp,h2,BX];constructor
      ·rintro((⟨_,e⟩|e)|e);·cases e
       ·exact .inr e
       ·exact .inl ⟨e,rfl⟩
      ·rintro(⟨e,_⟩|e);·exact .inr e
       ·exact .inl (.inr e)) ⟨0,false,[],rfl,Ej _,List.Pairwise.nil,fun x=>by simp,fun _ x hx=>by simp at hx,fun e=>(by cases e),by simp⟩ (by simp only;omega)
 rw[e2];simp only[Af];cases d with
 |true =>
  rw[it_f (by rfl)];refine⟨_,rfl,h1,fun y=>?_,by simpa using h5⟩;rw[h2];constructor
  ·rintro(⟨e,_⟩|e);·exact .inr e
   ·exact .inl e
  ·rintro(e|e);·exact .inr e
   ·exact .inl ⟨e,rfl⟩
 |false =>
  have pJ:out.length=l.length:=by simpa using h5
  rw[it_t (by rfl),ck_d (by simp;omega)];refine⟨_,rfl,?_,fun y=>?_,by simp;omega⟩
  ·refine List.pairwise_append.2 ⟨h1,P6 _ _,fun a ha b hb=>?_⟩;rw[BX.1 hb];rcases(h2 a).1 ha with ⟨_,e⟩|e
   ·cases e
   ·exact h3 rfl a e
  ·rw[Cp,h2,BX];constructor
   ·rintro((⟨_,e⟩|e)|e);·cases e
    ·exact .inl e
    ·exact .inr e
   ·rintro(e|e);·exact .inl (.inr e)
    ·exact .inr e
theorem jz28{l:List Ac}{v:Ac}(hs:VsSz l)(hv:CSz v.Curve):∃b:AZ,RC l v=some b/\VAdd (some (b.L,b.E)) l v:=by
 unfold RC;rw[F_ hs];simp only[Af];by_cases h:vchE l=0;rotate_left
 ·rw[BU h];exact⟨_,rfl,.inl ⟨h,rfl⟩⟩
 rw[Bu h,ZP hv];simp only[Af];by_cases hr:VRi v;rotate_left
 ·rw[BU hr];exact⟨_,rfl,.inr (.inl ⟨h,hr,rfl⟩)⟩
 rw[Bu hr];obtain⟨hl,hb⟩:=Fx.1 h;rw[GJ (l:=l) (fun _ x=>if vsm x v then some (if x=v then(⟨[],9⟩:AZ) else⟨[],24⟩) else none) (by omega) ?_ ?_]
 ·cases qx:scan (fun _ (x:Ac)=>if vsm x v then some (if x=v then(⟨[],9⟩:AZ) else⟨[],24⟩) else none) 0 l with
  |some o =>
   obtain⟨i,x,hx,hi,_⟩:=Lf 0 l o qx;split at hi
   ·rename_i ku;cases hi;refine⟨_,rfl,.inr (.inr ⟨h,hr,.inl ⟨x,Dx hx,ku,?_⟩⟩)⟩;by_cases he:x=v
    ·rw[Ap he];exact .inl ⟨he,rfl⟩
    ·rw[Aj he];exact .inr ⟨he,rfl⟩
   ·cases hi
  |none =>
   have hn:∀x,x∈l->¬vsm x v:=fun x hx e=>by obtain⟨i,hi,rfl⟩:=J6 hx;have:=Pr qx (AD hi);rw[Ap e]at this;cases this
   simp only[sOut,Af];by_cases h4:400<=l.length
   ·rw[it_d];exact⟨_,rfl,.inr (.inr ⟨h,hr,.inr ⟨hn,.inl ⟨h4,rfl⟩⟩⟩)⟩
   ·obtain⟨m,e,hm⟩:=n_ (v:=v) (by omega) hb.asc hn;rw[it_n,e];exact⟨_,rfl,.inr (.inr ⟨h,hr,.inr ⟨hn,.inr ⟨by omega,m,rfl,hm⟩⟩⟩)⟩
 ·intro k x hx;have hk:=(AN.1 hx).1;simp only[RB];rw[it_d,at_e rfl hx];simp only[Af];by_cases h1:x.Gauge=v.Gauge
  ·simp only[h1,decide_true,AU,Af,Cj];by_cases h2:x.Seq=v.Seq
   ·rw[it_d h2,ZJ (hs x (Dx hx)).len,Ap (show vsm x v from⟨h1,h2⟩)];simp only[Af];by_cases he:x=v
    ·rw[it_d he,Ap he]
    ·rw[it_n he,Aj he]
   ·rw[it_n h2,AA,Aj (fun e:vsm x v=>h2 e.2)]
  ·simp only[h1,decide_false,AQ,Af,Cq];rw[Be,AA,Aj (fun e:vsm x v=>h1 e.1)]
 ·simp only[RB];rw[it_n]
end
end Go.Am

