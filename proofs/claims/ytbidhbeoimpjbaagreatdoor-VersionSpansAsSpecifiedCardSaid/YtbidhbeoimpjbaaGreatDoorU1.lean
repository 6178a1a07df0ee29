/- Part U1: the mathematics of the functions of this seat. No condition. -/
import Derived.Test.YtbidhbeoimpjbaaGreatDoorR2
set_option linter.unusedSimpArgs false
set_option linter.unusedVariables false
namespace Go.Am
section
variable {α ω O:Type}
def scan(f:Nat->α->Option ω):Nat->List α->Option ω
 |_,[]=>none
 |k,x :: l=>match f k x with
  |some o=>some o
  |none=>scan f (k+1) l
theorem ZP{f:Nat->α->Option ω}:∀(k:Nat) (l:List α),scan f k l=none->∀i x,l[i]?=some x->f (k+i) x=none
 |k,[],_,i,x,h=>by simp at h
 |k,y :: l,e,i,x,h=>by
  unfold scan at e;split at e
  ·cases e
  ·rename_i e1;cases i with
   |zero=>simp at h;subst h;exact e1
   |succ i=>have:=ZP (k+1) l e i x (by simpa using h);rwa [show k+(i+1)=k+1+i by omega]
theorem Ug{f:Nat->α->Option ω}:∀(k:Nat) (l:List α),(∀i x,l[i]?=some x->f (k+i) x=none)->scan f k l=none
 |k,[],_=>rfl
 |k,y :: l,e=>by unfold scan;rw[show f k y=none from e 0 y rfl];exact Ug (k+1) l fun i x h=>by have:=e (i+1) x (by simpa using h);rwa [show k+(i+1)=k+1+i by omega]at this
theorem jzdu{f:Nat->α->Option ω}{l:List α}{k:Nat}{x:α}(h:l[k]?=some x):scan f k (l.drop k)=(match f k x with
  |some o=>some o
  | none=>scan f (k+1) (l.drop (k+1))):=by
 obtain⟨hk,rfl⟩:=AM.1 h;rw[JK hk];rfl
def sOut:Option ω->Unit⊕ω
 |some o=>.inr o
 |none=>.inl ()
theorem jzak{body:O->Option (O⊕(Unit⊕ω))}{l:List α}(st:Nat->O)(f:Nat->α->Option ω)(hl:l.length<=1000000000)(hs:∀(k:Nat) (x:α),l[k]?=some x->body (st k)=some (match f k x with | some o=>.inr (.inr o) | none=>.inl (st (k+1)))) (he:body (st l.length)=some (.inr (.inl ()))) {s:O} (h0:s=st 0):lp body s=some (sOut (scan f 0 l)):=by
 obtain⟨o,e,ho⟩:=XV (body:=body) st (fun k=>k<=l.length/\scan f 0 l=scan f k (l.drop k)) (fun k=>l.length-k) (fun o=>o=sOut (scan f 0 l)) (by
  rintro k ⟨hk,gq⟩;by_cases hlt:k<l.length
  ·have hx:=AD hlt;have h1:=hs k _ hx;have h2:=jzdu (f:=f) hx;cases hf:f k l[k] with
   |some o =>right;rw[hf]at h1 h2;exact⟨_,h1,by rw[gq,h2];rfl⟩
   |none =>left;rw[hf]at h1 h2;exact⟨k+1,h1,⟨hlt,gq.trans h2⟩,by omega⟩
  ·right;have:k=l.length:=by omega
   subst this;refine⟨_,he,?_⟩;rw[gq,List.drop_length];rfl) 0 h0 ⟨Ej _,rfl⟩ (by omega)
 rw[e,ho]
theorem GM{body:Int->Option (Int⊕(Unit⊕ω))}{l:List α}(f:Nat->α->Option ω)(hl:l.length<=1000000000)(hs:∀(k:Nat) (x:α),l[k]?=some x->body (k:Int)=some (match f k x with | some o=>.inr (.inr o) | none=>.inl ((k:Int)+1))) (he:body (l.length:Int)=some (.inr (.inl ()))):lp body 0=some (sOut (scan f 0 l)) :=
 jzak (fun k=>(k:Int)) f hl (fun k x h=>by rw[hs k x h];cases f k x<;>rfl) he rfl
end
theorem P4{o:Option Int}{z:Int}:(match sOut o with | .inl ()=>some z | .inr o=>some o)=some (o.getD z):=by cases o<;>rfl
theorem P5{α:Type}[Inhabited α]{l:List α}{k:Nat}{x:α}(h:l[k]?=some x)(h0:0<k):at? l ((k:Int)-1)=some (l.getD (k-1) default):=by
 have hk:=(AM.1 h).1;have h1:k-1<l.length:=by omega
 rw[at_e (n:=k-1) (by omega) (AD h1)];simp[List.getD,h1]
theorem ZQ{α:Type}[Inhabited α]{l:List α}{k:Nat}{x:α}(h:l[k]?=some x)(h0:0<k):l.getD (k-1) default∈l:=by
 have hk:=(AM.1 h).1;have h1:k-1<l.length:=by omega
 simp[List.getD,h1]
theorem Lp{α ω:Type}{f:Nat->α->Option ω}:∀(k:Nat) (l:List α) (o:ω),scan f k l=some o->∃i x,l[i]?=some x/\f (k+i) x=some o/\∀j y,j<i->l[j]?=some y->f (k+j) y=none
 |k,[],o,h=>by cases h
 |k,y :: l,o,h=>by
  unfold scan at h;split at h
  ·rename_i o' ho;cases h;exact⟨0,y,rfl,ho,fun j y h=>by omega⟩
  ·rename_i hn;obtain⟨i,x,h1,h2,h3⟩:=Lp (k+1) l o h;refine⟨i+1,x,by simpa using h1,by rwa [show k+(i+1)=k+1+i by omega],fun j z hj hz=>?_⟩;cases j with
   |zero=>simp at hz;subst hz;exact hn
   |succ j =>
    have:=h3 j z (by omega) (by simpa using hz)
    rwa [show k+(j+1)=k+1+j by omega]
section
variable {α U ω O:Type}
theorem jzct{body:O->Option (O⊕ω)}(st:Nat->O)(n:Nat)(hn:n<4611686018427387904)(hs:∀k,k<n->body (st k)=some (.inl (st (k+1)))){o:ω}(he:body (st n)=some (.inr o)){s:O}(h0:s=st 0):lp body s=some o:=by
 obtain⟨o',e,ho⟩:=XV (body:=body) st (fun k=>k<=n) (fun k=>n-k) (fun o'=>o'=o) (by
  intro k hk;by_cases h:k<n
  ·exact .inl ⟨k+1,hs k h,h,by omega⟩
  ·right;obtain rfl:k=n:=by omega
   exact⟨_,he,rfl⟩) 0 h0 (Ej _) (by omega)
 rw[e,ho]
theorem J7{body:O->Option (O⊕ω)}{l:List α}(st:Nat->O)(hl:l.length<4611686018427387904)(hs:∀k x,l[k]?=some x->body (st k)=some (.inl (st (k+1)))){o:ω}(he:body (st l.length)=some (.inr o)){s:O}(h0:s=st 0):lp body s=some o :=
 jzct st l.length hl (fun k hk=>hs k _ (AD hk)) he h0
theorem FT{l:List α}{k:Nat}{x:α}(h:l[k]?=some x):l.take (k+1)=l.take k++[x]:=by rw[List.take_add_one,h];rfl
theorem P6{f:Nat->α->Option ω}{l:List α}(h:scan f 0 l=none){i:Nat}{x:α}(hx:l[i]?=some x):f i x=none:=by
 have:=ZP 0 l h i x hx
 rwa [Cy]at this
end
def SAsc(l:List Int):Prop:=l.Pairwise (· < ·)
theorem ZR:∀{D E:List Int},SAsc D->SAsc E->(∀x,x∈D↔x∈E)->D=E
 |[],[],_,_,_=>rfl
 |[],e :: E,_,_,h=>by have:=(h e).2 (BO ..);cases this
 |d :: D,[],_,_,h=>by have:=(h d).1 (BO ..);cases this
 |d :: D,e :: E,hd,he,h=>by
  obtain⟨d1,d2⟩:=JO.1 hd;obtain⟨e1,e2⟩:=JO.1 he
  have lU:d=e:=by
   rcases AL.1 ((h d).1 (BO ..)) with p|p
   ·exact p
   ·rcases AL.1 ((h e).2 (BO ..)) with q|q;·exact q.symm
    ·have:=d1 e q;have:=e1 d p;omega
  subst lU;rw[ZR d2 e2 fun x=>⟨fun hx=>?_,fun hx=>?_⟩]
  ·rcases AL.1 ((h x).1 (Da _ hx)) with p|p;·subst p;have:=d1 x hx;omega
   ·exact p
  ·rcases AL.1 ((h x).2 (Da _ hx)) with p|p;·subst p;have:=e1 x hx;omega
   ·exact p
theorem Uh(a:Int):∀l x,x∈Bb a l↔x=a\/x∈l
 |[],x=>by simp[Bb]
 |b :: l,x=>by
  unfold Bb;cases decide (a<=b)
  ·show x∈b :: Bb a l↔_;rw[AL,Uh a l x,AL];constructor
   ·rintro(h|h|h);·exact .inr (.inl h)
    ·exact .inl h
    ·exact .inr (.inr h)
   ·rintro(h|h|h);·exact .inr (.inl h)
    ·exact .inl h
    ·exact .inr (.inr h)
  ·show x∈a :: b :: l↔_;exact AL
theorem ZS(a:Int):∀l,SAsc l->a∉l->SAsc (Bb a l)
 |[],_,_=>PO _ _
 |b :: l,h,hn=>by
  obtain⟨h1,h2⟩:=JO.1 h;have jW:a≠b:=fun e=>hn (by simp[e]);have kE:a∉l:=fun e=>hn (by simp[e]);unfold Bb;cases hd:decide (a<=b)
  ·have hd:=of_decide_eq_false hd;refine JO.2 ⟨fun c hc=>?_,ZS a l h2 kE⟩;rcases(Uh a l c).1 hc with rfl|hc
   ·omega
   ·exact h1 c hc
  ·have hd:=GX hd;refine JO.2 ⟨fun c hc=>?_,h⟩;rcases AL.1 hc with rfl|hc
   ·omega
   ·have:=h1 c hc;omega
theorem Ui:∀l x,x∈Bm l↔x∈l
 |[],x=>Iff.rfl
 |a :: l,x=>by show x∈Bb a (Bm l)↔_;rw[Uh,Ui l x,AL]
theorem ZT:∀l:List Int,l.Nodup->SAsc (Bm l)
 |[],_=>List.Pairwise.nil
 |a :: l,h=>by obtain⟨h1,h2⟩:=List.nodup_cons.1 h;exact ZS a _ (ZT l h2) fun e=>h1 ((Ui l a).1 e)
theorem ZU(a:Int):∀l,(Bb a l).length=l.length+1
 |[]=>rfl
 |b :: l=>by
  unfold Bb;cases decide (a<=b)
  ·show(b :: Bb a l).length=_;simp[ZU a l]
  ·rfl
theorem ZV:∀l,(Bm l).length=l.length
 |[]=>rfl
 |a :: l=>by show(Bb a (Bm l)).length=_;rw[ZU,ZV l];rfl
theorem P7(k:Int):∀(m:List (Int×Bool)),((mput keqI m k true).map (·.1))=if k∈m.map (·.1) then m.map (·.1) else m.map (·.1)++[k]
 |[]=>by simp[mput]
 |p :: m=>by
  unfold mput;by_cases h:k=p.1
  ·rw[show keqI k p.1=true by simp[keqI,h]];simp[h]
  ·rw[show keqI k p.1=false by simp[keqI,h]];simp only[JH];rw[P7 k m];by_cases h2:k∈m.map (·.1)
   ·rw[Ap h2,Ap (Da _ h2)]
   ·rw[Aj h2,Aj (by simp only[AL,BQ];exact⟨h,h2⟩)];rfl
theorem Uj{k:Int}{m:List (Int×Bool)}(h:(m.map (·.1)).Nodup):((mput keqI m k true).map (·.1)).Nodup:=by
 rw[P7];split
 ·exact h
 ·rename_i hn;rw[List.nodup_append];exact⟨h,by simp,fun a ha b hb e=>by rw[Ce.1 hb]at e;subst e;exact hn ha⟩
theorem Uk{k x:Int}{m:List (Int×Bool)}:x∈(mput keqI m k true).map (·.1)↔x∈m.map (·.1)\/x=k:=by
 rw[P7];split
 ·rename_i h;exact⟨.inl,fun h'=>h'.elim id fun e=>e▸h⟩
 ·simp only[Cq,Ce]
theorem Ul{k:Int}{m:List (Int×Bool)}:(mput keqI m k true).length<=m.length+1:=by
 have:((mput keqI m k true).map (·.1)).length<=m.length+1:=by rw[P7];split<;>simp
 simpa using this
structure CSz(c:AH):Prop where
 len:c.Points.length<=1048576
 sz:∀p,p∈c.Points->Sz 1048576 p.Flow
noncomputable def crvF(l:List AF)(k:Nat)(p:AF):Option Int :=
 if p.Stage < -1000\/2000<p.Stage then some 3 else if ¬Vd p.Flow\/p.Flow.Neg=true then some 1
 else if 0<k/\(p.Stage<=(l.getD (k-1) default).Stage\/rq p.Flow<rq (l.getD (k-1) default).Flow) then some 1 else none
noncomputable def GN(c:AH):Int:=if c.Points.length<1\/16<c.Points.length then 2 else(scan (crvF c.Points) 0 c.Points).getD 0
theorem P8{p q:Rat}:cmpQ p q<0↔p<q:=by
 unfold cmpQ;split
 ·simp[*]
 ·split<;>simp[*]
theorem wz7j{c:AH}(h:CSz c):NS c=some (GN c):=by
 unfold NS GN;by_cases h1:c.Points.length<1
 ·rw[it_t (by simp;omega),Ap (.inl h1)]
 by_cases h2:16<c.Points.length
 ·rw[it_t (by simp;omega),Ap (.inr h2)]
 rw[it_f (by simp;omega),ifN];rw[GM (l:=c.Points) (crvF c.Points) (by omega) ?_ ?_]
 ·simp only[Ae];exact P4
 ·intro k p hp;have hk:=(AM.1 hp).1;have hm:=Dw hp;have hz:=h.sz p hm;simp only[RF];rw[it_d,at_e rfl hp];simp only[Ae,Ro,crvF];by_cases p1:p.Stage < -1000\/2000<p.Stage
  ·rw[Ap p1,it_t (by rcases p1 with p1|p1<;>simp<;>omega)]
  rw[Aj p1,it_f (by simp;omega)];simp only[RD];rw[SC (hz.mono (by omega))];simp only[Ae];by_cases p2:¬Vd p.Flow\/p.Flow.Neg=true
  ·rw[Ap p2,it_t (by rcases p2 with p2|p2<;>simp[p2])]
  rw[Aj p2];have p3:Vd p.Flow:=Decidable.byContradiction fun e=>p2 (.inl e);have p4:p.Flow.Neg=false:=by simpa using fun e=>p2 (.inr e)
  rw[it_f (by simp[p3,p4])];by_cases h0:k=0
  ·subst h0;rw[ck_t (by simp),show decide ((0:Int)<((0:Nat):Int))=false by simp];simp only[PX,AP,Ae];rw[ck_t (by simp),ifN,it_f (by simp),AA]
  have h0:0<k:=by omega
  rw[ck_t (by simp[At];omega),show decide ((0:Int)<(k:Int))=true by simp;omega];simp only[PY,AR];rw[P5 hp h0];simp only[Ae];have hq:=h.sz _ (ZQ hp h0);generalize c.Points.getD (k-1) default=q at *;rw[ck_t (by simp[At];omega)];by_cases p5:p.Stage<=q.Stage
  ·rw[show decide (p.Stage<=q.Stage)=true by simp[p5]];simp only[De,AP,Ae];rw[Ap ⟨h0,.inl p5⟩,it_t (by simp)]
  ·rw[show decide (p.Stage<=q.Stage)=false by simp[p5]];simp only[Dt,AR,Ae];rw[jz9 hz hq (by omega) (by omega) (by omega) (by omega)];simp only[Ae];by_cases p6:rq p.Flow<rq q.Flow
   ·rw[Ap ⟨h0,.inr p6⟩,it_t (by simp[P8,p6])]
   ·rw[Aj (by simp[p5,p6]),it_f (by simp[P8,p6]),AA]
 ·simp only[RF];rw[it_n]
theorem jzbg{c:AH}(h:CSz c):NU c=some (GN c):=by
 unfold NU GN;by_cases h1:c.Points.length<1
 ·rw[it_t (by simp;omega),Ap (.inl h1)]
 by_cases h2:16<c.Points.length
 ·rw[it_t (by simp;omega),Ap (.inr h2)]
 rw[it_f (by simp;omega),ifN];rw[GM (l:=c.Points) (crvF c.Points) (by omega) ?_ ?_]
 ·simp only[Ae];exact P4
 ·intro k p hp;have hk:=(AM.1 hp).1;have hm:=Dw hp;have hz:=h.sz p hm;simp only[RI];rw[it_d,at_e rfl hp];simp only[Ae,crvF];by_cases p1:p.Stage < -1000\/2000<p.Stage
  ·rw[Ap p1,it_t (by rcases p1 with p1|p1<;>simp<;>omega)]
  rw[Aj p1,it_f (by simp;omega)];rw[SE (hz.mono (by omega))];simp only[Ae];by_cases p2:¬Vd p.Flow\/p.Flow.Neg=true
  ·rw[Ap p2,it_t (by rcases p2 with p2|p2<;>simp[p2])]
  rw[Aj p2];have p3:Vd p.Flow:=Decidable.byContradiction fun e=>p2 (.inl e);have p4:p.Flow.Neg=false:=by simpa using fun e=>p2 (.inr e)
  rw[it_f (by simp[p3,p4])];by_cases h0:k=0
  ·subst h0;rw[ck_t (by simp),show decide ((0:Int)<((0:Nat):Int))=false by simp];simp only[AP,Ae];rw[it_f (by simp),ck_t (by simp)];rw[ifN,it_f (by simp),AA]
  have h0:0<k:=by omega
  rw[ck_t (by simp[At];omega),show decide ((0:Int)<(k:Int))=true by simp;omega];simp only[AR];rw[P5 hp h0];simp only[Ae];have hq:=h.sz _ (ZQ hp h0);generalize c.Points.getD (k-1) default=q at *;by_cases p5:p.Stage<=q.Stage
  ·rw[Ap ⟨h0,.inl p5⟩,it_t (by simp[p5])]
  ·rw[it_f (by simp[p5]),ck_t (by simp[At];omega),wzle hz hq (by omega) (by omega) (by omega) (by omega)];simp only[Ae];by_cases p6:rq p.Flow<rq q.Flow
   ·rw[Ap ⟨h0,.inr p6⟩,it_t (by simp[P8,p6])]
   ·rw[Aj (by simp[p5,p6]),it_f (by simp[P8,p6]),AA]
 ·simp only[RI];rw[it_n]
section
variable {U:Type}
def Cd(f:Int->U)(b:Int):Option U->Int->List (Int×Int×U)->Prop
 |_,a,[]=>a=b
 |v,a,p :: l=>p.1=a/\a<p.2.1/\(∀x,a<=x->x<p.2.1->f x=p.2.2)/\v≠some p.2.2/\Cd f b (some p.2.2) p.2.1 l
theorem Cd.le{f:Int->U}{b:Int}:∀{l:List (Int×Int×U)} {v:Option U} {a:Int},Cd f b v a l->a<=b
 |[],_,_,h=>Int.le_of_eq h
 |p :: l,_,_,h=>by obtain⟨_,h1,_,_,h2⟩:=h;have:=h2.le;omega
theorem Cd.uniq{f:Int->U}{b:Int}:∀{l m:List (Int×Int×U)} {v w:Option U} {a:Int},Cd f b v a l->Cd f b w a m->l=m
 |[],[],_,_,_,_,_=>rfl
 |[],q :: m,_,_,_,h,k=>by obtain⟨_,k1,_,_,k2⟩:=k;have h:_=_:=h;have:=k2.le;omega
 |p :: l,[],_,_,_,h,k=>by obtain⟨_,k1,_,_,k2⟩:=h;have k:_=_:=k;have:=k2.le;omega
 |p :: l,q :: m,v,w,a,h,k=>by
  obtain⟨h1,h2,h3,h4,h5⟩:=h;obtain⟨k1,k2,k3,k4,k5⟩:=k;have e3:p.2.2=q.2.2:=by rw[<-h3 a (PZ _) h2,<-k3 a (PZ _) k2]
  have gen:∀{l:List (Int×Int×U)} {p q:Int×Int×U} {b:Int},p.2.2=q.2.2->a<p.2.1->p.2.1<q.2.1->q.2.1<=b->(∀x,a<=x->x<q.2.1->f x=q.2.2)->Cd f b (some p.2.2) p.2.1 l->False:=by
   intro l p q b e u1 u2 u3 u4 u5;cases l with
   |nil=>have u5:_=_:=u5;omega
   |cons r l =>obtain⟨r1,r2,r3,r4,_⟩:=u5;apply r4;rw[<-r3 _ (PZ _) r2,u4 _ (by omega) u2,e]
  have e2:p.2.1=q.2.1:=by
   rcases Int.lt_trichotomy p.2.1 q.2.1 with c|c|c
   ·exact(gen e3 h2 c k5.le k3 h5).elim
   ·exact c
   ·exact(gen e3.symm k2 c h5.le h3 k5).elim
  have e:p=q:=by obtain⟨p1,p2,p3⟩:=p;obtain⟨q1,q2,q3⟩:=q;simp only at *;rw[h1,k1,e2,e3]
  subst e;rw[h5.uniq k5]
theorem Cd.app{f:Int->U}:∀{l:List (Int×Int×U)} {v:Option U} {a b:Int} {p:Int×Int×U},Cd f b v a l->p.1=b->b<p.2.1->(∀x,b<=x->x<p.2.1->f x=p.2.2)->((l.getLast?.map (·.2.2)).or v≠some p.2.2)->Cd f p.2.1 v a (l++[p])
 |[],v,a,b,p,h,h1,h2,h3,h4=>by obtain rfl:a=b:=h;exact⟨h1,h2,h3,by simpa using h4,rfl⟩
 |q :: l,v,a,b,p,h,h1,h2,h3,h4=>by
  obtain⟨k1,k2,k3,k4,k5⟩:=h;refine⟨k1,k2,k3,k4,k5.app h1 h2 h3 ?_⟩;cases l with
  |nil=>simpa using h4
  |cons r l=>rw[List.getLast?_cons_cons]at h4;rw[List.getLast?_cons]at *;simpa using h4
theorem Cd.ext{f:Int->U}:∀{l:List (Int×Int×U)} {v:Option U} {a b c:Int} {q:Int×Int×U},Cd f b v a (l++[q])->b<c->(∀x,b<=x->x<c->f x=q.2.2)->Cd f c v a (l++[(q.1,c,q.2.2)])
 |[],v,a,b,c,q,h,h1,h2=>by
  obtain⟨k1,k2,k3,k4,k5⟩:=h;have k5:q.2.1=b:=k5;refine⟨k1,by show a<c;omega,fun x x1 x2=>?_,k4,rfl⟩;by_cases hx:x<q.2.1
  ·exact k3 x x1 hx
  ·exact h2 x (by omega) x2
 |r :: l,v,a,b,c,q,h,h1,h2=>by obtain⟨k1,k2,k3,k4,k5⟩:=h;exact⟨k1,k2,k3,k4,k5.ext h1 h2⟩
theorem Cd.mem{f:Int->U}{b:Int}:∀{l:List (Int×Int×U)} {v:Option U} {a:Int},Cd f b v a l->∀p,p∈l->p.1<p.2.1/\a<=p.1/\p.2.1<=b/\∀x,p.1<=x->x<p.2.1->f x=p.2.2
 |q :: l,v,a,h,p,hp=>by
  obtain⟨k1,k2,k3,k4,k5⟩:=h;have hl:=k5.le;rcases AL.1 hp with e|e
  ·subst e;exact⟨by omega,by omega,hl,fun x x1 x2=>k3 x (by omega) x2⟩
  ·obtain⟨m1,m2,m3,m4⟩:=k5.mem p e;exact⟨m1,by omega,m3,m4⟩
theorem Cd.ex{f:Int->U}{b:Int}:∀{l:List (Int×Int×U)} {v:Option U} {a:Int},Cd f b v a l->∀x,a<=x->x<b->∃p,p∈l/\p.1<=x/\x<p.2.1
 |[],v,a,h,x,h1,h2=>by have h:a=b:=h;omega
 |q :: l,v,a,h,x,h1,h2=>by
  obtain⟨k1,k2,k3,k4,k5⟩:=h;by_cases hx:x<q.2.1
  ·exact⟨q,BO ..,by omega,hx⟩
  ·obtain⟨p,hp,e⟩:=k5.ex x (by omega) h2;exact⟨p,Da _ hp,e⟩
theorem Cd.one{f:Int->U}{b:Int}:∀{l:List (Int×Int×U)} {v:Option U} {a:Int},Cd f b v a l->∀p q,p∈l->q∈l->∀x,p.1<=x->x<p.2.1->q.1<=x->x<q.2.1->p=q
 |r :: l,v,a,h,p,q,hp,hq,x,p1,p2,q1,q2=>by
  obtain⟨k1,k2,k3,k4,k5⟩:=h;rcases AL.1 hp with e|e<;>rcases AL.1 hq with e'|e'
  ·rw[e,e']
  ·have:=(k5.mem q e').2.1;subst e;omega
  ·have:=(k5.mem p e).2.1;subst e';omega
  ·exact k5.one p q e e' x p1 p2 q1 q2
end
theorem ZW(x y:Int):Gz x y=some (if x<y then -1 else if y<x then 1 else 0):=by
 unfold Gz IA;simp only[Ae,decide_true,De];rw[AX,AX];by_cases h:x<y
 ·rw[it_d h,Ap h]
 ·rw[it_n h,Aj h];by_cases h2:y<x
  ·rw[it_d h2,Ap h2]
  ·rw[it_n h2,Aj h2]
def vlt(a b:Ac):Prop:=a.Gauge<b.Gauge\/a.Gauge=b.Gauge/\a.Seq<b.Seq
instance (a b:Ac):Decidable (vlt a b):=by unfold vlt;infer_instance
def VRi(v:Ac):Prop:=((0<=v.Gauge/\v.Gauge<=39)/\(0<=v.Seq/\v.Seq<=1099511627776)/\(0<=v.Known/\v.Known<=14609)/\0<=v.From/\v.From<v.To/\v.To<=1402560) /\ ((v.Kind=1/\v.Shift=0/\GN v.Curve=0)\/(v.Kind=2/\v.Curve.Points.length=0/\-1000<=v.Shift/\v.Shift<=1000)\/(v.Kind=3/\v.Curve.Points.length=0/\-960<=v.Shift/\v.Shift<=960))
noncomputable instance(v:Ac):Decidable (VRi v):=Classical.propDecidable _
theorem ZX{v:Ac}(x:Bool)(h:((0<=v.Gauge/\v.Gauge<=39)/\(0<=v.Seq/\v.Seq<=1099511627776)/\(0<=v.Known/\v.Known<=14609)/\0<=v.From/\v.From<v.To/\v.To<=1402560)):(bif (bif (bif (bif (bif (bif (bif (bif (decide (v.Gauge<0)) then true else(decide (40<=v.Gauge))) then true else(decide (v.Seq<0))) then true else(decide (1099511627776<v.Seq))) then true else(decide (v.Known<0))) then true else(decide (14609<v.Known))) then true else(decide (v.From<0))) then true else(decide (v.To<=v.From))) then true else(decide (1402560<v.To)))=false:=by simp only[JB,UB,U5];omega
theorem ZY{v:Ac}(h:¬((0<=v.Gauge/\v.Gauge<=39)/\(0<=v.Seq/\v.Seq<=1099511627776)/\(0<=v.Known/\v.Known<=14609)/\0<=v.From/\v.From<v.To/\v.To<=1402560)):(bif (bif (bif (bif (bif (bif (bif (bif (decide (v.Gauge<0)) then true else(decide (40<=v.Gauge))) then true else(decide (v.Seq<0))) then true else(decide (1099511627776<v.Seq))) then true else(decide (v.Known<0))) then true else(decide (14609<v.Known))) then true else(decide (v.From<0))) then true else(decide (v.To<=v.From))) then true else(decide (1402560<v.To)))=true:=by simp only[JB,Fx,BE];omega
theorem HQ{v:Ac}(hc:CSz v.Curve):Hq v=some (decide (VRi v)):=by
 unfold Hq;by_cases h:((0<=v.Gauge/\v.Gauge<=39)/\(0<=v.Seq/\v.Seq<=1099511627776)/\(0<=v.Known/\v.Known<=14609)/\0<=v.From/\v.From<v.To/\v.To<=1402560);rotate_left
 ·rw[it_t (ZY h),BA (fun e:VRi v=>h e.1)]
 rw[it_f (ZX true h)];by_cases k1:v.Kind=1
 ·rw[it_d k1];by_cases s0:v.Shift=0
  ·rw[CN s0];simp only[AR,BP];rw[wz7j hc];simp only[Ae];congr 1;rw[HU,Ih,Ih];constructor
   ·intro e;exact⟨h,.inl ⟨k1,s0,e⟩⟩
   ·rintro⟨_,⟨_,_,e⟩|⟨e,_⟩|⟨e,_⟩⟩;·exact e
    ·omega
    ·omega
  ·rw[BA s0];simp only[AP,Ae,CM];rw[BA];rintro⟨_,⟨_,e,_⟩|⟨e,_⟩|⟨e,_⟩⟩<;>omega
 rw[it_n k1]
 have hm:mget keqI (mput keqI (mput keqI ([]:List (Int×Int)) 2 1000) 3 960) v.Kind=if v.Kind=2 then some 1000 else if v.Kind=3 then some 960 else none:=by
  by_cases k2:v.Kind=2
  ·rw[Ap k2,k2];rfl
  ·by_cases k3:v.Kind=3;·rw[Aj k2,Ap k3,k3];rfl
   ·rw[Aj k2,Aj k3];simp[mput,mget,keqI,k2,k3]
 rw[hm];by_cases k2:v.Kind=2
 ·rw[Ap k2,ck_t (by simp[At])];congr 1;simp only[Option.isSome_some,L5,BP,L1];rw[HU,Ih];simp only[AE,BE];constructor
  ·rintro⟨⟨a,b⟩,c⟩;exact⟨h,.inr (.inl ⟨k2,by omega,by omega,by omega⟩)⟩
  ·rintro⟨_,⟨e,_⟩|⟨_,a,b,c⟩|⟨e,_⟩⟩<;>omega
 by_cases k3:v.Kind=3
 ·rw[Aj k2,Ap k3,ck_t (by simp[At])];congr 1;simp only[Option.isSome_some,L5,BP,L1];rw[HU,Ih];simp only[AE,BE];constructor
  ·rintro⟨⟨a,b⟩,c⟩;exact⟨h,.inr (.inr ⟨k3,by omega,by omega,by omega⟩)⟩
  ·rintro⟨_,⟨e,_⟩|⟨e,_⟩|⟨_,a,b,c⟩⟩<;>omega
 ·rw[Aj k2,Aj k3,ck_t (by simp[At])];rw[BA (show ¬VRi v by rintro⟨_,⟨e,_⟩|⟨e,_⟩|⟨e,_⟩⟩<;>omega)];rfl
theorem ZZ{v:Ac}(hc:CSz v.Curve):KA v=some (decide (VRi v)):=by
 unfold KA;have hd:(bif (bif (bif (bif (bif (bif (bif (bif (decide (v.Gauge<0)) then true else(decide (39<v.Gauge))) then true else(decide (v.Seq<0))) then true else(decide (1099511627776<v.Seq))) then true else(decide (v.Known<0))) then true else(decide (14609<v.Known))) then true else(decide (v.From<0))) then true else(decide (v.To<=v.From))) then true else(decide (1402560<v.To)))=(bif (bif (bif (bif (bif (bif (bif (bif (decide (v.Gauge<0)) then true else(decide (40<=v.Gauge))) then true else(decide (v.Seq<0))) then true else(decide (1099511627776<v.Seq))) then true else(decide (v.Known<0))) then true else(decide (14609<v.Known))) then true else(decide (v.From<0))) then true else(decide (v.To<=v.From))) then true else(decide (1402560<v.To))):=by rw[show(decide (39<v.Gauge))=decide (40<=v.Gauge) from decide_eq_decide.2 (by omega)]
 rw[hd];by_cases h:((0<=v.Gauge/\v.Gauge<=39)/\(0<=v.Seq/\v.Seq<=1099511627776)/\(0<=v.Known/\v.Known<=14609)/\0<=v.From/\v.From<v.To/\v.To<=1402560);rotate_left
 ·rw[it_t (ZY h),BA (fun e:VRi v=>h e.1)]
 rw[it_f (ZX true h)];by_cases k1:v.Kind=1
 ·rw[it_d k1];by_cases s0:v.Shift=0
  ·rw[CN s0];simp only[AR,BP];rw[jzbg hc];simp only[Ae];congr 1;rw[HU,Ih,Ih];constructor
   ·intro e;exact⟨h,.inl ⟨k1,s0,e⟩⟩
   ·rintro⟨_,⟨_,_,e⟩|⟨e,_⟩|⟨e,_⟩⟩;·exact e
    ·omega
    ·omega
  ·rw[BA s0];simp only[AP,Ae,CM];rw[BA];rintro⟨_,⟨_,e,_⟩|⟨e,_⟩|⟨e,_⟩⟩<;>omega
 rw[it_n k1];by_cases k2:v.Kind=2
 ·rw[it_d k2];congr 1;simp only[L1];rw[HU,Ih];simp only[AE,BE];constructor
  ·rintro⟨⟨a,b⟩,c⟩;exact⟨h,.inr (.inl ⟨k2,by omega,by omega,by omega⟩)⟩
  ·rintro⟨_,⟨e,_⟩|⟨_,a,b,c⟩|⟨e,_⟩⟩<;>omega
 rw[it_n k2];by_cases k3:v.Kind=3
 ·rw[it_d k3];congr 1;simp only[L1];rw[HU,Ih];simp only[AE,BE];constructor
  ·rintro⟨⟨a,b⟩,c⟩;exact⟨h,.inr (.inr ⟨k3,by omega,by omega,by omega⟩)⟩
  ·rintro⟨_,⟨e,_⟩|⟨e,_⟩|⟨_,a,b,c⟩⟩<;>omega
 ·rw[it_n k3];rw[BA];rintro⟨_,⟨e,_⟩|⟨e,_⟩|⟨e,_⟩⟩<;>omega
def vsm(a b:Ac):Prop:=a.Gauge=b.Gauge/\a.Seq=b.Seq
instance (a b:Ac):Decidable (vsm a b):=by unfold vsm;infer_instance
def vcmp(a b:Ac):Int:=if vlt a b then -1 else if vsm a b then 0 else 1
theorem Um(a b:Ac):DT a b=some (vcmp a b):=by
 unfold DT;rw[ZW];simp only[Ae];unfold vcmp;by_cases h1:a.Gauge<b.Gauge
 ·rw[Ap h1,Ap (show vlt a b from .inl h1),B9 (by decide)]
 ·by_cases h2:b.Gauge<a.Gauge;·rw[Aj h1,Ap h2,B9 (by decide),Aj (show ¬vlt a b by unfold vlt;omega),Aj (show ¬vsm a b by unfold vsm;omega)]
  ·rw[Aj h1,Aj h2,Bf rfl,ZW];simp only[Ae];have:a.Gauge=b.Gauge:=by omega
   by_cases h3:a.Seq<b.Seq
   ·rw[Ap h3,Ap (show vlt a b from .inr ⟨this,h3⟩)]
   ·by_cases h4:b.Seq<a.Seq;·rw[Aj h3,Ap h4,Aj (show ¬vlt a b by unfold vlt;omega),Aj (show ¬vsm a b by unfold vsm;omega)]
    ·rw[Aj h3,Aj h4,Aj (show ¬vlt a b by unfold vlt;omega),Ap (show vsm a b by unfold vsm;omega)]
theorem P9{a b:Ac}:vcmp a b<0↔vlt a b:=by
 unfold vcmp;split
 ·simp[*]
 ·split<;>simp[*]
theorem Un(a b:Ac):I9 a b=some (decide (vlt a b)):=by
 unfold I9;congr 1;rw[HU,Ih];unfold vlt;by_cases h1:a.Gauge<b.Gauge
 ·simp[h1]
 ·by_cases h2:a.Gauge=b.Gauge<;>simp[h1,h2]
def VsSz(l:List Ac):Prop:=∀v,v∈l->CSz v.Curve
noncomputable def vchF(l:List Ac)(k:Nat)(v:Ac):Option Int:=if VRi v/\(0<k->vlt (l.getD (k-1) default) v) then none else some 1
noncomputable def vchE(l:List Ac):Int:=if 400<l.length then 2 else(scan (vchF l) 0 l).getD 0
theorem FU{l:List Ac}(hs:VsSz l):DU l=some (vchE l):=by
 unfold DU vchE;by_cases h0:400<l.length
 ·rw[it_d,Ap h0]
 rw[it_n,Aj h0,GM (l:=l) (vchF l) (by omega) ?_ ?_]
 ·simp only[Ae];exact P4
 ·intro k x hx;have hk:=(AM.1 hx).1;simp only[RG];rw[it_d,at_e rfl hx];simp only[Ae];rw[HQ (hs x (Dw hx))];simp only[Ae,vchF];by_cases hr:VRi x;rotate_left
  ·rw[BA hr];simp only[Dt,De,PX,Bool.true_or];rw[DZ,AP];simp only[Ae];rw[AP];simp only[Ae,BP];rw[Do,Aj (fun h=>hr h.1)]
  rw[CN hr];simp only[De,Dt,PY];by_cases iK:k=0
  ·subst iK;rw[show decide ((0:Int)<((0:Nat):Int))=false by simp];simp only[Dt,Bool.true_or];rw[DZ,AP];simp only[Ae];rw[AP];simp only[Ae,CM];rw[AX,AA,Ap ⟨hr,fun h=>by omega⟩]
  have eS:0<k:=by omega
  rw[show decide ((0:Int)<(k:Int))=true by simp;omega];rw[ck_t (by simp[At];omega),AR,P5 hx eS];simp only[Ae];rw[AR,Um];simp only[Ae,CM,BP];by_cases hl:vlt (l.getD (k-1) default) x
  ·rw[it_n (by have:=P9.2 hl;omega),AA,Ap ⟨hr,fun _=>hl⟩]
  ·rw[it_d (by have:=mt P9.1 hl;omega),Aj (fun h=>hl (h.2 eS))]
 ·simp only[RG];rw[it_n]
theorem jzz4{l:List Ac}(hs:VsSz l):KB l=some (vchE l):=by
 unfold KB vchE;by_cases h0:400<l.length
 ·rw[it_d,Ap h0]
 rw[it_n,Aj h0,GM (l:=l) (vchF l) (by omega) ?_ ?_]
 ·simp only[Ae];exact P4
 ·intro k x hx;have hk:=(AM.1 hx).1;simp only[RJ];rw[it_d,at_e rfl hx];simp only[Ae];rw[ZZ (hs x (Dw hx))];simp only[Ae,vchF];by_cases iK:k=0
  ·subst iK;rw[show decide (((0:Nat):Int)=0)=true by simp];simp only[De,Dt,Bool.true_or,AP,Ae,BP,CM];rw[DZ];by_cases hr:VRi x
   ·rw[it_f (by simp[hr]),AA,Ap ⟨hr,fun h=>by omega⟩]
   ·rw[it_t (by simp[hr]),Aj (fun h=>hr h.1)]
  have eS:0<k:=by omega
  rw[show decide ((k:Int)=0)=false by simp;omega];simp only[De,Dt,Bool.false_or,AR,CM];rw[AA,P5 hx eS];simp only[Ae];rw[Un];simp only[Ae];by_cases hr:VRi x
  ·by_cases hl:vlt (l.getD (k-1) default) x;·rw[it_f (by rw[CN hr,CN hl];rfl),AA,Ap ⟨hr,fun _=>hl⟩]
   ·rw[it_t (by rw[CN hr,BA hl];rfl),Aj (fun h=>hl (h.2 eS))]
  ·rw[it_t (by simp[hr]),Aj (fun h=>hr h.1)]
 ·simp only[RJ];rw[it_n]
theorem J8{a b c:Ac}(h:vlt a b)(k:vlt b c):vlt a c:=by unfold vlt at *;omega
structure VBk(l:List Ac):Prop where
 right:∀r,r∈l->VRi r
 asc:l.Pairwise vlt
theorem EA{l:List Ac}:vchE l=0↔l.length<=400/\VBk l:=by
 unfold vchE;by_cases h0:400<l.length
 ·rw[Ap h0];exact⟨fun h=>(by cases h),fun h=>by omega⟩
 rw[Aj h0];constructor
 ·intro h;refine⟨by omega,?_⟩;cases hs:scan (vchF l) 0 l with
  |some o =>
   obtain⟨i,x,hx,hi,_⟩:=Lp 0 l o hs;rw[hs]at h;simp only[L5]at h;unfold vchF at hi;split at hi
   ·cases hi
   ·cases hi;cases h
  |none =>
   have hn:∀i x,l[i]?=some x->VRi x/\(0<i->vlt (l.getD (i-1) default) x):=fun i x hx=>by
    have:=P6 hs hx;unfold vchF at this;split at this
    ·assumption
    ·cases this
   refine⟨fun r hr=>?_,?_⟩
   ·obtain⟨i,hi,rfl⟩:=JG hr;exact(hn i _ (AD hi)).1
   ·have step:∀i,(hi:i+1<l.length)->vlt l[i] l[i+1]:=fun i hi=>by
     have:=(hn (i+1) _ (AD hi)).2 (by omega);simpa [List.getD,show i<l.length by omega] using this
    rw[Gcg];intro i j hi hj lV;induction j with
    |zero=>omega
    |succ j ih =>
     by_cases e:i=j
     ·subst e;exact step i hj
     ·exact J8 (ih (by omega) (by omega)) (step j hj)
 ·rintro⟨_,hb⟩;rw[Ug]
  ·rfl
  ·intro i x hx;obtain⟨hi,rfl⟩:=AM.1 hx;unfold vchF;rw[Ap];refine⟨hb.right _ (HV _),fun h=>?_⟩;have:=Gcg.1 hb.asc (0+i-1) i (by omega) hi (by omega);simpa [List.getD,show i-1<l.length by omega] using this
def vfit(kind gauge tick known:Int)(v:Ac):Prop:=v.Kind=kind/\v.Gauge=gauge/\v.Known<=known/\v.From<=tick/\tick<v.To
instance (a b c d:Int)(v:Ac):Decidable (vfit a b c d v):=by unfold vfit;infer_instance
def J9(kind gauge tick known:Int)(b:Option Ac)(v:Ac):Option Ac :=
 if vfit kind gauge tick known v then(match b with | none=>some v | some w=>if w.Known<=v.Known then some v else some w) else b
def vfrc(l:List Ac)(kind gauge tick known:Int):Option Ac:=l.foldl (J9 kind gauge tick known) none
theorem Uo{l:List Ac}{v:Ac}{a b c d:Int}:vfrc (l++[v]) a b c d=J9 a b c d (vfrc l a b c d) v:=by unfold vfrc;rw[List.foldl_append];rfl
theorem Up(a b c d:Int):∀(n:Nat) (l:List Ac),l.length=n->∀w,vfrc l a b c d=some w->w∈l/\vfit a b c d w:=by
 intro n;induction n with
 |zero=>intro l hl w h;rw[L3.1 hl]at h;cases h
 |succ n ih =>
  intro l hl w h;have aH:l≠[]:=fun e=>by rw[e]at hl;cases hl
  obtain⟨m,v,rfl⟩:∃m v,l=m++[v]:=⟨_,_,(List.dropLast_concat_getLast aH).symm⟩;rw[Uo]at h;have hm:m.length=n:=by simpa using hl
  unfold J9 at h;split at h
  ·rename_i hf;split at h
   ·cases h;exact⟨by simp,hf⟩
   ·rename_i w' e;split at h
    ·cases h;exact⟨by simp,hf⟩
    ·cases h;obtain⟨h1,h2⟩:=ih m hm _ e;exact⟨Cq.2 (.inl h1),h2⟩
  ·obtain⟨h1,h2⟩:=ih m hm _ h;exact⟨Cq.2 (.inl h1),h2⟩
theorem PA{l:List Ac}(hl:l.length<=1000)(ha:l.Pairwise vlt)(kind gauge tick known:Int):Gx l kind gauge tick known=some (vfrc l kind gauge tick known):=by
 unfold Gx;rw[J7 (l:=l) (fun k=>(vfrc (l.take k) kind gauge tick known,(k:Int))) (by omega) (o:=vfrc l kind gauge tick known) ?_ ?_ ?_]
 ·simp only[Ae]
 ·intro k x hx;have hk:=(AM.1 hx).1;simp only[Rl];rw[it_d,at_e rfl hx];simp only[Ae];have ew:l.take (k+1)=l.take k++[x]:=FT hx;have hlt:∀w,w∈l.take k->vlt w x:=fun w hw=>by obtain⟨i,hi,rfl⟩:=JG hw;obtain⟨_,rfl⟩:=AM.1 hx;rw[Eg]at hi;rw[List.getElem_take];exact Gcg.1 ha i k (by omega) hk (by omega)
  rw[ew,Uo];have bA:=Up kind gauge tick known _ (l.take k) rfl;generalize vfrc (l.take k) kind gauge tick known=b at *;by_cases hf:vfit kind gauge tick known x;rotate_left
  ·rw[it_t (by
    simp only[JB,Fx,BE,GS,U5];unfold vfit at hf;omega)]
   simp only[Ae];rw[AA];unfold J9;rw[Aj hf];rfl
  rw[it_f (by simp only[JB,UB,U5,Bool.not_eq_false',BE];unfold vfit at hf;omega)];simp only[Ae];unfold J9;rw[Ap hf];cases b with
  |none =>simp only[Option.isSome_none,Dt,De,AP,Ae,BP,PX];rw[Do,AA];rfl
  |some w =>
   obtain⟨hw,pu⟩:=bA w rfl;have hv:=hlt w hw;have hs:w.Seq<x.Seq:=by unfold vfit at hf pu;unfold vlt at hv;omega
   simp only[Option.isSome_some,De,Dt,AR,Ae,CM];by_cases h1:w.Known<x.Known
   ·rw[CN h1];simp only[De,AP,Ae,BP,PX];rw[Do,AA,ifP];rfl
   ·rw[BA h1];simp only[Dt,AR,Ae,CM,PY];by_cases h2:x.Known=w.Known
    ·rw[CN h2];simp only[AR,Ae,BP];rw[it_d hs,AA,ifP];rfl
    ·rw[BA h2];simp only[AP,Ae,CM];rw[AX,AA,ifN];rfl
 ·simp only[Rl];rw[it_n,List.take_length]
 ·rfl
theorem PB{l:List Ac}(hl:l.length<=1000)(kind gauge tick known:Int):∃j:Int,Hr l kind gauge tick known=some j/\((j = -1/\vfrc l kind gauge tick known=none)\/∃k:Nat,∃w,j=(k:Int)/\l[k]?=some w/\vfrc l kind gauge tick known=some w):=by
 unfold Hr
 obtain⟨o,e,ho⟩:=DA (s:=((-1:Int),(0:Int))) (body:=Rm gauge kind known l tick) (fun s=>∃k:Nat,∃j:Int,s=(j,(k:Int))/\k<=l.length/\((j = -1/\vfrc (l.take k) kind gauge tick known=none)\/∃i:Nat,∃w,j=(i:Int)/\l[i]?=some w/\vfrc (l.take k) kind gauge tick known=some w)) (fun s=>(l.length-s.2).toNat) (fun j=>(j = -1/\vfrc l kind gauge tick known=none)\/∃k:Nat,∃w,j=(k:Int)/\l[k]?=some w/\vfrc l kind gauge tick known=some w) (by
  rintro s ⟨k,j,rfl,hk,hI⟩;simp only[Rm];by_cases hlt:k<l.length;rotate_left
  ·right;rw[it_n];rw[HZ (by omega)]at hI;exact⟨_,rfl,hI⟩
  left;have hx:=AD hlt;have ew:l.take (k+1)=l.take k++[l[k]]:=FT hx;rw[it_d,at_e rfl hx];simp only[Ae];have eK:=Uo (l:=l.take k) (v:=l[k]) (a:=kind) (b:=gauge) (c:=tick) (d:=known);rw[<-ew]at eK;generalize l[k]=x at *
  have lj:(bif (bif (bif (bif (decide (x.Kind=kind)) then(decide (x.Gauge=gauge)) else false) then(decide (x.Known<=known)) else false) then(decide (x.From<=tick)) else false) then(decide (tick<x.To)) else false)=decide (vfit kind gauge tick known x):=by
   rw[HU,Ih];simp only[L1,AE,BE];unfold vfit;constructor
   ·rintro⟨⟨⟨⟨a,b⟩,c⟩,d⟩,e⟩;exact⟨a,b,c,d,e⟩
   ·rintro⟨a,b,c,d,e⟩;exact⟨⟨⟨⟨a,b⟩,c⟩,d⟩,e⟩
  rw[lj];unfold J9 at eK;by_cases hf:vfit kind gauge tick known x;rotate_left
  ·rw[Aj hf]at eK;rw[BA hf];simp only[PX,AP,Ae,CM];rw[AX,AA];refine⟨_,rfl,⟨k+1,j,by simp,hlt,?_⟩,by simp only;omega⟩;rw[eK];exact hI
  rw[Ap hf]at eK;rw[CN hf];simp only[PY,BP];rcases hI with ⟨rfl,hn⟩|⟨i,w,rfl,hw,hn⟩
  ·rw[hn]at eK;rw[show decide ((-1:Int)<0)=true by decide];simp only[De,AP,Ae,BP];rw[Do,AA];exact⟨_,rfl,⟨k+1,(k:Int),by simp,hlt,.inr ⟨k,x,rfl,hx,eK⟩⟩,by simp only;omega⟩
  ·rw[hn]at eK;simp only at eK;rw[show decide ((i:Int)<0)=false by simp];simp only[Dt,AR,CM];rw[show max 0 (i:Int)=(i:Int) by omega,at_e rfl hw];simp only[Ae];by_cases cm:w.Known<=x.Known
   ·rw[Ap cm]at eK;rw[it_d cm,AA];exact⟨_,rfl,⟨k+1,(k:Int),by simp,hlt,.inr ⟨k,x,rfl,hx,eK⟩⟩,by simp only;omega⟩
   ·rw[Aj cm]at eK;rw[it_n cm,AA];exact⟨_,rfl,⟨k+1,(i:Int),by simp,hlt,.inr ⟨i,w,rfl,hw,eK⟩⟩,by simp only;omega⟩) ⟨0,-1,rfl,Ej _,.inl ⟨rfl,rfl⟩⟩ (by simp only;omega)
 rw[e];exact⟨o,rfl,ho⟩
theorem wz9q(c:AH):∃b,Ku c=some b/\(b=true->CSz c):=by
 unfold Ku;by_cases h:20<c.Points.length
 ·rw[it_d];exact⟨_,rfl,fun e=>by cases e⟩
 rw[it_n,GM (l:=c.Points) (fun _ p=>if p.Flow.Num.length<=12/\p.Flow.Den.length<=12 then none else some false) (by omega) ?_ ?_]
 ·cases hs:scan (fun _ (p:AF)=>if p.Flow.Num.length<=12/\p.Flow.Den.length<=12 then none else some false) 0 c.Points with
  |some o =>
   obtain⟨i,x,hx,hi,_⟩:=Lp 0 c.Points o hs;refine⟨o,rfl,fun e=>?_⟩;split at hi
   ·cases hi
   ·cases hi;cases e
  |none =>
   refine⟨true,rfl,fun _=>⟨by omega,fun p hp=>?_⟩⟩;obtain⟨i,hi,rfl⟩:=JG hp;have:=P6 hs (AD hi);split at this
   ·rename_i h';exact⟨by omega,by omega⟩
   ·cases this
 ·intro k p hp;have hk:=(AM.1 hp).1;simp only[Rh];rw[it_d,at_e rfl hp];simp only[Ae];by_cases h1:12<p.Flow.Num.length
  ·rw[CN (show(12:Int)<(p.Flow.Num.length:Int) by omega)];simp only[De,AP,Ae,BP];rw[Do,ifN]
  ·rw[BA (show ¬(12:Int)<(p.Flow.Num.length:Int) by omega)];simp only[Dt,AR,Ae,CM];by_cases h2:12<p.Flow.Den.length
   ·rw[it_d,ifN]
   ·rw[it_n,AA,ifP]
 ·simp only[Rh];rw[it_n]
theorem jz09(vs:List Ac)(m:Int):∃b,NF vs m=some b/\(b=true->VsSz vs):=by
 unfold NF;by_cases h:410<vs.length
 ·rw[it_t (by simp only[JB,Fx,BE];exact .inr (by omega))];exact⟨_,rfl,fun e=>by cases e⟩
 cases hd:(bif (bif (decide (m<(List.length vs:Int))) then(decide ((List.length vs:Int)<=400)) else false) then true else(decide (410<(List.length vs:Int))));rotate_left
 ·rw[Do];exact⟨_,rfl,fun e=>by cases e⟩
 rw[AX]
 obtain⟨o,e,ho⟩:=DA (s:=(0:Int)) (body:=Rw vs) (fun s=>∃k:Nat,s=(k:Int)/\k<=vs.length/\∀v,v∈vs.take k->CSz v.Curve) (fun s=>(vs.length-s).toNat) (fun o=>(o=.inl ()/\VsSz vs)\/o=.inr false) (by
  rintro s ⟨k,rfl,hk,hI⟩;simp only[Rw];by_cases hlt:k<vs.length;rotate_left
  ·right;rw[it_n];rw[HZ (by omega)]at hI;exact⟨_,rfl,.inl ⟨rfl,hI⟩⟩
  have hx:=AD hlt;have ew:vs.take (k+1)=vs.take k++[vs[k]]:=FT hx;rw[it_d,at_e rfl hx];simp only[Ae];obtain⟨b,eb,hb⟩:=wz9q vs[k].Curve;rw[eb];simp only[Ae];cases b
  ·rw[Dt,Do];exact .inr ⟨_,rfl,.inr rfl⟩
  ·rw[De,AX,AA];refine .inl ⟨_,rfl,⟨k+1,by simp,hlt,fun v hv=>?_⟩,by omega⟩;rw[ew]at hv;rcases Cq.1 hv with p|p
   ·exact hI v p
   ·rw[Ce.1 p];exact hb rfl) ⟨0,rfl,Ej _,fun v hv=>by simp at hv⟩ (by omega)
 rw[e];simp only[Ae];rcases ho with ⟨rfl,h⟩|rfl
 ·exact⟨true,rfl,fun _=>h⟩
 ·exact⟨false,rfl,fun e=>by cases e⟩
def outJ(out:List Au)(a b:Int):List Au:=match out.getLast? with
 |some q=>if q.To=a then out.dropLast++[⟨q.From,b⟩] else out++[⟨a,b⟩]
 |none=>out++[⟨a,b⟩]
theorem jz94(out:List Au)(a b:Int):(outJ out a b).length<=out.length+1:=by
 unfold outJ;cases h:out.getLast? with
 |none=>simp
 |some q =>
  simp only;split
  ·simp only[BN,List.length_dropLast,Df];omega
  ·simp
theorem Cd.next{U:Type}{f:Int->U}{b:Int}:∀{l:List (Int×Int×U)} {v:Option U} {a:Int},Cd f b v a l->∀i,(h:i<l.length)->(l[i].2.1<b->∃h2:i+1<l.length,l[i+1].1=l[i].2.1)/\(i+1<l.length->l[i].2.1<b)
 |p :: l,v,a,h,i,hi=>by
  obtain⟨k1,k2,k3,k4,k5⟩:=h;cases i with
  |zero =>
   simp only[List.getElem_cons_zero];cases l with
   |nil =>have k5:_=_:=k5;exact⟨fun h=>by omega,fun h=>by simp at h⟩
   |cons q l =>obtain⟨m1,m2,_,_,m5⟩:=k5;refine⟨fun _=>⟨by simp,m1⟩,fun _=>?_⟩;have:=m5.le;omega
  |succ i =>simp only[CZ]at hi ⊢;have:=k5.next i (by omega);simp only[List.getElem_cons_succ];exact⟨fun h=>by obtain⟨h2,e⟩:=this.1 h;exact⟨by omega,e⟩,fun h=>this.2 (by omega)⟩
theorem jzxq{α:Type}{l:List α}{k:Nat}{r x:α}:x∈insL l k r↔x∈l\/x=r:=by
 unfold insL
 conv=>rhs;rw[<-PP k l]
 simp only[Cq,Ce];constructor
 ·rintro((h|h)|h);·exact .inl (.inl h)
  ·exact .inr h
  ·exact .inl (.inr h)
 ·rintro((h|h)|h);·exact .inl (.inl h)
  ·exact .inr h
  ·exact .inl (.inr h)
theorem jzxr{α:Type}{l:List α}{k:Nat}{r:α}:(insL l k r).length=l.length+1:=by unfold insL;simp only[BN,Eg,EC,Df];omega
theorem keqP(x y:AF):(decide (x.Stage=y.Stage)&&((x.Flow.Neg==y.Flow.Neg)&&(decide (x.Flow.Num=y.Flow.Num)&&(decide (x.Flow.Den=y.Flow.Den)&&true))))=decide (x=y):=by obtain⟨a,b,c,d⟩:=x;obtain⟨e,f,g,h⟩:=y;rw[HU];simp
theorem jz24{a b:List AF}(hl:a.length<=1048576){body:Int->Option (Int⊕(Unit⊕Bool))}(hb:∀k:Int,body k=ite' (decide (k<(List.length a:Int))) (bd (at? a k) fun x1=>bd (at? b k) fun x2=>ite' (!(decide (x1.Stage=x2.Stage)&&((x1.Flow.Neg==x2.Flow.Neg)&&(decide (x1.Flow.Num=x2.Flow.Num)&&(decide (x1.Flow.Den=x2.Flow.Den)&&true))))) (some (.inr (.inr false))) (ck (At .i64 (k+1))<|some (.inl (k+1)))) (some (.inr (.inl ())))) : (ite' (!decide ((List.length a:Int)=(List.length b:Int))) (some false) (bd (lp body 0) fun o=>match o with | .inl ()=>some true | .inr o=>some o))=some (decide (a=b)):=by
 by_cases hn:a.length=b.length;rotate_left
 ·rw[B9,BA fun e=>hn (by rw[e])]
 rw[Bf,GM (l:=a) (fun k x=>if x=b.getD k default then none else some false) (by omega) ?_ ?_]
 ·cases hs:scan (fun k x=>if x=b.getD k default then none else some false) 0 a with
  |none =>
   have:a=b:=by
    refine List.ext_getElem hn fun i h1 h2=>?_;have:=P6 hs (AD h1);split at this
    ·rename_i h;rw[h];simp[List.getD,h2]
    ·cases this
   subst this;simp[sOut,Ae]
  |some o =>
   obtain⟨i,x,hx,hi,_⟩:=Lp 0 a o hs;split at hi
   ·cases hi
   ·rename_i h;cases hi;rw[BA]
    ·simp[sOut,Ae]
    ·rintro rfl;apply h;rw[Cy,List.getD,hx];rfl
 ·intro k x hx;have hk:=(AM.1 hx).1;have aW:b[k]?=some (b.getD k default):=by simp[List.getD,show k<b.length by omega]
  rw[hb,it_d,at_e rfl hx,at_e rfl aW];simp only[Ae];rw[keqP];by_cases h:x=b.getD k default
  ·rw[Bf h,AA,Ap h]
  ·rw[B9 h,Aj h]
 ·rw[hb,it_n]
theorem jz26(v w:Ac):(decide (v.Curve.Points=w.Curve.Points)=true/\((((((v.Kind=w.Kind/\v.Gauge=w.Gauge)/\v.Seq=w.Seq)/\v.Known=w.Known)/\v.From=w.From)/\v.To=w.To)/\v.Shift=w.Shift))↔v=w:=by
 obtain⟨a1,a2,a3,a4,a5,a6,a7,⟨a8⟩⟩:=v;obtain⟨b1,b2,b3,b4,b5,b6,b7,⟨b8⟩⟩:=w;simp only[BE,Ac.mk.injEq,AH.mk.injEq];constructor
 ·rintro⟨h8,⟨⟨⟨⟨⟨⟨h1,h2⟩,h3⟩,h4⟩,h5⟩,h6⟩,h7⟩⟩;exact⟨h1,h2,h3,h4,h5,h6,h7,h8⟩
 ·rintro⟨h1,h2,h3,h4,h5,h6,h7,h8⟩;exact⟨h8,⟨⟨⟨⟨⟨⟨h1,h2⟩,h3⟩,h4⟩,h5⟩,h6⟩,h7⟩⟩
theorem jz3k{a b:List AF}(h:a.length<=1048576):Rq a b=some (decide (a=b)):=jz24 (b:=b) (body:=yzi a b) h (fun k=>rfl)
theorem PC{a b:AH}(h:a.Points.length<=1048576):I8 a b=some (decide (a.Points=b.Points)):=jz24 (b:=b.Points) (body:=Xl a b) h (fun k=>rfl)
theorem jz22{v w:Ac}(h:v.Curve.Points.length<=1048576):IG v w=some (decide (v=w)):=by
 unfold IG Ht;rw[jz3k h];simp only[Ae];by_cases hp:v.Curve.Points=w.Curve.Points
 ·rw[Bf hp];congr 1;simp only[L1];rw[HU,Ih,<-jz26];simp[hp]
 ·rw[B9 hp,BA (fun e=>hp (by rw[e]))]
theorem jz3a{v w:Ac}(h:v.Curve.Points.length<=1048576):K4 v w=some (decide (v=w)):=by
 unfold K4;rw[PC h];simp only[Ae];congr 1;simp only[L1];rw[HU,Ih,<-jz26];simp only[AE,BE];constructor
 ·rintro⟨⟨⟨⟨⟨⟨⟨h8,h1⟩,h2⟩,h3⟩,h4⟩,h5⟩,h6⟩,h7⟩;exact⟨h8,⟨⟨⟨⟨⟨⟨h1,h2⟩,h3⟩,h4⟩,h5⟩,h6⟩,h7⟩⟩
 ·rintro⟨h8,⟨⟨⟨⟨⟨⟨h1,h2⟩,h3⟩,h4⟩,h5⟩,h6⟩,h7⟩⟩;exact⟨⟨⟨⟨⟨⟨⟨h8,h1⟩,h2⟩,h3⟩,h4⟩,h5⟩,h6⟩,h7⟩
theorem jz1w{a:Ac}:¬vlt a a:=by unfold vlt;omega
theorem jz11{a b:Ac}(h:vlt a b):¬vlt b a:=by unfold vlt at *;omega
theorem PD(a b:Ac):vlt a b\/vsm a b\/vlt b a:=by unfold vlt vsm;omega
theorem Uq{a b:Ac}(h:vlt a b):¬vsm a b:=by unfold vlt at h;unfold vsm;omega
theorem jz1x{a b:Ac}(h:vlt a b):¬vsm b a:=by unfold vlt at h;unfold vsm;omega
theorem jz1s:∀{D E:List Ac},D.Pairwise vlt->E.Pairwise vlt->(∀x,x∈D↔x∈E)->D=E
 |[],[],_,_,_=>rfl
 |[],e :: E,_,_,h=>by have:=(h e).2 (BO ..);cases this
 |d :: D,[],_,_,h=>by have:=(h d).1 (BO ..);cases this
 |d :: D,e :: E,hd,he,h=>by
  obtain⟨d1,d2⟩:=JO.1 hd;obtain⟨e1,e2⟩:=JO.1 he
  have lU:d=e:=by
   rcases AL.1 ((h d).1 (BO ..)) with p|p
   ·exact p
   ·rcases AL.1 ((h e).2 (BO ..)) with q|q;·exact q.symm
    ·exact absurd (d1 e q) (jz11 (e1 d p))
  subst lU;rw[jz1s d2 e2 fun x=>⟨fun hx=>?_,fun hx=>?_⟩]
  ·rcases AL.1 ((h x).1 (Da _ hx)) with p|p;·subst p;exact absurd (d1 x hx) jz1w
   ·exact p
  ·rcases AL.1 ((h x).2 (Da _ hx)) with p|p;·subst p;exact absurd (e1 x hx) jz1w
   ·exact p
theorem jz3i{a b:Ac}:vcmp a b=0↔vsm a b:=by
 unfold vcmp;split
 ·rename_i h;simp[Uq h]
 ·split<;>simp[*]
theorem vget{l:List Ac}(h:l.Pairwise vlt){i j:Nat}(hi:i<l.length)(hj:j<l.length)(lV:i<j):vlt l[i] l[j]:=Gcg.1 h i j hi hj lV
theorem jz3e{l:List Ac}(hl:l.length<=4000)(ha:l.Pairwise vlt)(r:Ac):∃k:Nat,∃b:Bool,I7 l r (fun a0 a1=>DT a0 a1)=some ((k:Int),b)/\k<=l.length/\(∀i,(hi:i<l.length)->i<k->vlt l[i] r)/\(∀i,(hi:i<l.length)->k<=i->¬vlt l[i] r)/\(b=true↔∃h:k<l.length,vsm l[k] r):=by
 unfold I7
 obtain⟨o,e,k,rfl,hk,h1,h2⟩:=DA (s:=((0:Int),(l.length:Int))) (body:=Rj (fun a0 a1=>DT a0 a1) r l) (fun s=>∃i j:Nat,s=((i:Int),(j:Int))/\i<=j/\j<=l.length/\(∀m,(hm:m<l.length)->m<i->vlt l[m] r)/\(∀m,(hm:m<l.length)->j<=m->¬vlt l[m] r)) (fun s=>(s.2-s.1).toNat) (fun o=>∃k:Nat,o=(k:Int)/\k<=l.length/\(∀m,(hm:m<l.length)->m<k->vlt l[m] r)/\(∀m,(hm:m<l.length)->k<=m->¬vlt l[m] r)) (by
  rintro s ⟨i,j,rfl,lV,hj,h1,h2⟩;simp only[Rj];by_cases h:i<j;rotate_left
  ·right;rw[it_n];obtain rfl:i=j:=by omega
   exact⟨_,rfl,i,rfl,hj,h1,h2⟩
  left;have hm:Int.fdiv (((i:Int)+j)%18446744073709551616) 2=(((i+j) / 2:Nat):Int):=by rw[Int.emod_eq_of_lt (by omega) (by omega),PL _ (by decide)];omega
  rw[it_d,AA,hm,AA];have hlt:(i+j) / 2<l.length:=by omega
  rw[at_e rfl (AD hlt)];simp only[Ae];rw[Um];simp only[Ae];by_cases hc:vlt l[(i+j) / 2] r
  ·rw[it_d (P9.2 hc),AA];refine⟨_,rfl,⟨(i+j) / 2+1,j,by simp,by omega,hj,fun m hm jY=>?_,h2⟩,by simp only;omega⟩;by_cases e:m=(i+j) / 2
   ·subst e;exact hc
   ·exact J8 (vget ha hm hlt (by omega)) hc
  ·rw[it_n (mt P9.1 hc)];refine⟨_,rfl,⟨i,(i+j) / 2,rfl,by omega,by omega,h1,fun m hm jY hr=>?_⟩,by simp only;omega⟩;by_cases e:m=(i+j) / 2
   ·subst e;exact hc hr
   ·exact hc (J8 (vget ha hlt hm (by omega)) hr)) ⟨0,l.length,by simp,Ej _,AC _,fun m hm h=>by omega,fun m hm h=>by omega⟩ (by simp;omega)
 rw[e];simp only[Ae];by_cases cm:k<l.length
 ·rw[show decide ((k:Int)<(l.length:Int))=true by simp;omega];simp only[AR,BP];rw[at_e rfl (AD cm)];simp only[Ae];rw[Um];simp only[Ae];exact⟨k,_,rfl,hk,h1,h2,by simp[cm,jz3i]⟩
 ·rw[show decide ((k:Int)<(l.length:Int))=false by simp;omega];simp only[AP,CM,Ae];exact⟨k,_,rfl,hk,h1,h2,by simp[cm]⟩
structure Ur(l m:List Ac)(v:Ac):Prop where
 asc:m.Pairwise vlt
 mem:∀y,y∈m↔y∈l\/y=v
 len:m.length=l.length+1
def VAdd(F:Option (List Ac×Int))(l:List Ac)(v:Ac):Prop := (vchE l≠0/\F=some ([],vchE l))\/(vchE l=0/\¬VRi v/\F=some ([],1))\/(vchE l=0/\VRi v /\
 ((∃x,x∈l/\vsm x v/\((x=v/\F=some ([],9))\/(x≠v/\F=some ([],24))))
  \/ ((∀x,x∈l->¬vsm x v)/\((400<=l.length/\F=some ([],2))\/(l.length<400/\∃m,F=some (m,0)/\Ur l m v)))))
theorem vone{l:List Ac}(h:l.Pairwise vlt){a b:Ac}(ha:a∈l)(hb:b∈l)(e:vsm a b):a=b:=by
 induction l with
 |nil=>cases ha
 |cons x l ih =>
  obtain⟨h1,h2⟩:=JO.1 h;rcases AL.1 ha with p|p<;>rcases AL.1 hb with q|q
  ·rw[p,q]
  ·subst p;exact absurd e (Uq (h1 b q))
  ·subst q;exact absurd e (jz1x (h1 a p))
  ·exact ih h2 p q
theorem vsm.symm{a b:Ac}(h:vsm a b):vsm b a:=⟨h.1.symm,h.2.symm⟩
theorem vsm.trans{a b c:Ac}(h:vsm a b)(k:vsm b c):vsm a c:=⟨h.1.trans k.1,h.2.trans k.2⟩
theorem VAdd.uniq{l:List Ac}{v:Ac}{F G:Option (List Ac×Int)}(hF:VAdd F l v)(hG:VAdd G l v):F=G:=by
 rcases hF with ⟨a,e⟩|⟨a,b,e⟩|⟨a,b,c⟩<;>rcases hG with ⟨a',e'⟩|⟨a',b',e'⟩|⟨a',b',c'⟩ <;>
  first|exact absurd a a'|exact absurd a' a|exact absurd b b'|exact absurd b' b|(rw[e,e'];done)|skip
 have ha:=(EA.1 a).2.asc;rcases c with ⟨x,hx,hs,d⟩|⟨hn,d⟩<;>rcases c' with ⟨y,hy,ht,d'⟩|⟨hm,d'⟩
 ·obtain rfl:=vone ha hx hy (hs.trans ht.symm);rcases d with ⟨p,e⟩|⟨p,e⟩<;>rcases d' with ⟨p',e'⟩|⟨p',e'⟩<;>first|exact absurd p p'|exact absurd p' p|rw[e,e']
 ·exact absurd hs (hm x hx)
 ·exact absurd ht (hn y hy)
 ·rcases d with ⟨p,e⟩|⟨p,m,e,hm⟩<;>rcases d' with ⟨p',e'⟩|⟨p',m',e',bV⟩;·rw[e,e']
  ·omega
  ·omega
  ·rw[e,e',jz1s hm.asc bV.asc fun z=>(hm.mem z).trans (bV.mem z).symm]
theorem jz3c{l:List Ac}(h:l.Pairwise vlt){k:Nat}{r:Ac}(bW:∀i,(hi:i<l.length)->i<k->vlt l[i] r)(db:∀i,(hi:i<l.length)->k<=i->vlt r l[i]):(insL l k r).Pairwise vlt:=by
 unfold insL;rw[List.pairwise_append,List.pairwise_append];refine⟨⟨List.Pairwise.sublist (List.take_sublist ..) h,PO _ _,fun a ha b hb=>?_⟩,List.Pairwise.sublist (List.drop_sublist ..) h,fun a ha b hb=>?_⟩
 ·obtain⟨i,hi,rfl⟩:=JG ha;rw[Ce.1 hb,List.getElem_take];simp only[Eg]at hi;exact bW i (by omega) (by omega)
 ·obtain⟨j,hj,rfl⟩:=JG hb;simp only[EC]at hj;rw[List.getElem_drop];have h2:=db (k+j) (by omega) (by omega);rcases Cq.1 ha with ha|ha
  ·obtain⟨i,hi,rfl⟩:=JG ha;rw[List.getElem_take];simp only[Eg]at hi;exact J8 (bW i (by omega) (by omega)) h2
  ·rw[Ce.1 ha];exact h2
theorem jz3j{l:List Ac}{v:Ac}(hs:VsSz l)(hv:CSz v.Curve):VAdd (Cu l v) l v:=by
 by_cases h:vchE l=0;rotate_left
 ·left;refine⟨h,?_⟩;have e:Dm l v=some ([],vchE l):=by unfold Dm;rw[FU hs];simp only[Ae];rw[B9 h]
  unfold Cu;rw[e]
 right;by_cases hr:VRi v;rotate_left
 ·left;refine⟨h,hr,?_⟩;have e:Dm l v=some ([],1):=by unfold Dm;rw[FU hs];simp only[Ae];rw[Bf h,HQ hv];simp only[Ae];rw[B9 hr]
  unfold Cu;rw[e]
 right;refine⟨h,hr,?_⟩;obtain⟨hl,hb⟩:=EA.1 h;obtain⟨k,b,ef,hk,h1,h2,h3⟩:=jz3e (by omega) hb.asc v;cases b
 ·have hn:∀x,x∈l->¬vsm x v:=fun x hx hs=>by
   obtain⟨i,hi,rfl⟩:=JG hx;by_cases iC:i<k
   ·exact Uq (h1 i hi iC) hs
   ·have jH:k<l.length:=(by omega);have h4:=h2 k jH (AC _);have h5:¬vsm l[k] v:=fun e=>by have:=h3.2 ⟨jH,e⟩;cases this
    rcases PD l[k] v with h|h|h
    ·exact h4 h
    ·exact h5 h
    ·by_cases e:i=k;·subst e;exact h5 hs
     ·exact jz1x (J8 h (vget hb.asc jH hi (by omega))) hs
  refine .inr ⟨hn,?_⟩;by_cases h4:400<=l.length
  ·refine .inl ⟨h4,?_⟩;have e:Dm l v=some ([],2):=by unfold Dm;rw[FU hs];simp only[Ae];rw[Bf h,HQ hv];simp only[Ae];rw[Bf hr,ef];simp only[Ae];rw[AX,it_d]
   unfold Cu;rw[e]
  ·refine .inr ⟨by omega,insL l k v,?_,?_,fun y=>jzxq,jzxr⟩
   ·have e:Dm l v=none:=by
     unfold Dm;rw[FU hs];simp only[Ae];rw[Bf h,HQ hv];simp only[Ae];rw[Bf hr,ef];simp only[Ae];rw[AX,it_n]
    unfold Cu;rw[e];unfold QO;rw[FU hs,HQ hv,ef];simp only[Ae];rw[ck_t (by simp[h,hr];omega)];rfl
   ·refine jz3c hb.asc h1 fun i hi pz=>?_;rcases PD l[i] v with h|h|h
    ·exact absurd h (h2 i hi pz)
    ·exact absurd h (hn _ (HV _))
    ·exact h
 ·obtain⟨jH,kg⟩:=h3.1 rfl;refine .inl ⟨l[k],HV _,kg,?_⟩;have ea:at? l (k:Int)=some l[k]:=at_e rfl (AD jH);have hc:=(hs l[k] (HV _)).len;by_cases he:l[k]=v
  ·refine .inl ⟨he,?_⟩;have e:Dm l v=some ([],9):=by unfold Dm;rw[FU hs];simp only[Ae];rw[Bf h,HQ hv];simp only[Ae];rw[Bf hr,ef];simp only[Ae];rw[Do,ea];simp only[Ae];rw[jz22 hc];simp only[Ae];rw[it_d he]
   unfold Cu;rw[e]
  ·refine .inr ⟨he,?_⟩;have e:Dm l v=some ([],24):=by unfold Dm;rw[FU hs];simp only[Ae];rw[Bf h,HQ hv];simp only[Ae];rw[Bf hr,ef];simp only[Ae];rw[Do,ea];simp only[Ae];rw[jz22 hc];simp only[Ae];rw[it_n he]
   unfold Cu;rw[e]
theorem jz29{l:List Ac}{v:Ac}(hl:l.length<=100000)(ha:l.Pairwise vlt)(hn:∀x,x∈l->¬vsm x v):∃m,NG l v=some m/\Ur l m v:=by
 unfold NG
 obtain⟨o,e2,d,out,rfl,h1,h2,h3,h5⟩:=DA (s:=(false,(0:Int),([]:List Ac))) (body:=Rz l v) (fun s=>∃k:Nat,∃d out,s=(d,(k:Int),out)/\k<=l.length/\out.Pairwise vlt/\(∀x,x∈out↔(x=v/\d=true)\/x∈l.take k)/\(d=false->∀x,x∈l.take k->vlt x v)/\(d=true->∀x,x∈l.drop k->vlt v x)/\out.length=k+d.toNat) (fun s=>(l.length-s.2.1).toNat) (fun o=>∃d out,o=(d,out)/\out.Pairwise vlt/\(∀x,x∈out↔(x=v/\d=true)\/x∈l)/\(d=false->∀x,x∈l->vlt x v)/\out.length=l.length+d.toNat) (by
   rintro s ⟨k,d,out,rfl,hk,h1,h2,h3,h4,h5⟩;simp only[Rz];by_cases hlt:k<l.length;rotate_left
   ·right;rw[it_n];rw[HZ (by omega)]at h2 h3;exact⟨_,rfl,d,out,rfl,h1,h2,h3,by omega⟩
   left;have hx:=AD hlt;have ew:l.take (k+1)=l.take k++[l[k]]:=FT hx;have dM:l.drop k=l[k] :: l.drop (k+1):=JK hlt;have bW:∀x,x∈l.take k->vlt x l[k]:=fun x hx=>by obtain⟨i,hi,rfl⟩:=JG hx;rw[Eg]at hi;rw[List.getElem_take];exact vget ha (by omega) hlt (by omega)
   have db:∀x,x∈l.drop (k+1)->vlt l[k] x:=fun x hx=>by obtain⟨i,hi,rfl⟩:=JG hx;rw[EC]at hi;rw[List.getElem_drop];exact vget ha hlt (by omega) (by omega)
   have ii:=hn l[k] (HV _);generalize l[k]=y at *;have d5:at? l (k:Int)=some y:=at_e rfl hx;rw[it_d,d5];simp only[Ae];rw[Un,Un];simp only[Ae]
   have eu:(bif decide (vlt v y) then true else decide (vlt y v))=true:=by
    rcases PD y v with h|h|h
    ·simp[h]
    ·exact absurd h ii
    ·simp[h]
   have step:∀d' out',out'.Pairwise vlt->(∀x,x∈out'↔(x=v/\d'=true)\/x∈l.take k)->(d'=false->vlt y v/\∀x,x∈l.take k->vlt x v)->(d'=true->vlt v y)->out'.length=k+d'.toNat -> ∃k':Nat,∃d out,((d',((k:Int)+1),(out'++[y])):Bool×Int×List Ac)=(d,(k':Int),out)/\k'<=l.length/\out.Pairwise vlt/\(∀x,x∈out↔(x=v/\d=true)\/x∈l.take k')/\(d=false->∀x,x∈l.take k'->vlt x v)/\(d=true->∀x,x∈l.drop k'->vlt v x)/\out.length=k'+d.toNat:=by
    intro d' out' g1 g2 g3 g4 g5;refine⟨k+1,d',_,rfl,hlt,?_,fun x=>?_,fun e x hx=>?_,fun e x hx=>J8 (g4 e) (db x hx),by simp;omega⟩
    ·refine List.pairwise_append.2 ⟨g1,PO _ _,fun a ha b hb=>?_⟩;rw[Ce.1 hb];rcases(g2 a).1 ha with ⟨e,e'⟩|e
     ·rw[e];exact g4 e'
     ·exact bW a e
    ·rw[Cq,g2,ew,Cq,or_assoc]
    ·rw[ew]at hx;rcases Cq.1 hx with hx|hx
     ·exact(g3 e).2 x hx
     ·rw[Ce.1 hx];exact(g3 e).1
   have eW:out.length<=k+1:=by cases d<;>simp at h5<;>omega
   cases d with
   |true =>rw[it_f (by simp)];simp only[Ae];rw[it_t eu,ck_d (by simp;omega),AA];exact⟨_,rfl,step true out h1 h2 (fun e=>by cases e) (fun e=>h4 e y (by rw[dM];exact BO ..)) h5,by simp only;omega⟩
   |false =>
    have p8:out.length=k:=(by simpa using h5);by_cases hc:vlt y v
    ·rw[it_f (by simp[hc])];simp only[Ae];rw[it_t eu,ck_d (by simp;omega),AA];exact⟨_,rfl,step false out h1 h2 (fun _=>⟨hc,h3 rfl⟩) (fun e=>by cases e) h5,by simp only;omega⟩
    ·have f7:vlt v y:=by
      rcases PD y v with h|h|h
      ·exact absurd h hc
      ·exact absurd h ii
      ·exact h
     rw[it_t (by simp[hc]),ck_d (by simp;omega)];simp only[Ae];rw[it_t eu,ck_d (by simp;omega),AA];refine⟨_,rfl,step true (out++[v]) ?_ (fun x=>?_) (fun e=>by cases e) (fun _=>f7) (by simp;omega),by simp only;omega⟩
     ·refine List.pairwise_append.2 ⟨h1,PO _ _,fun a ha b hb=>?_⟩;rw[Ce.1 hb];rcases(h2 a).1 ha with ⟨_,e⟩|e
      ·cases e
      ·exact h3 rfl a e
     ·rw[Cq,h2,Ce];constructor
      ·rintro((⟨_,e⟩|e)|e);·cases e
       ·exact .inr e
       ·exact .inl ⟨e,rfl⟩
      ·rintro(⟨e,_⟩|e);·exact .inr e
       ·exact .inl (.inr e)) ⟨0,false,[],rfl,Ej _,List.Pairwise.nil,fun x=>by simp,fun _ x hx=>by simp at hx,fun e=>(by cases e),by simp⟩ (by simp only;omega)
 rw[e2];simp only[Ae];cases d with
 |true =>
  rw[it_f (by rfl)];refine⟨_,rfl,h1,fun y=>?_,by simpa using h5⟩;rw[h2];constructor
  ·rintro(⟨e,_⟩|e);·exact .inr e
   ·exact .inl e
  ·rintro(e|e);·exact .inr e
   ·exact .inl ⟨e,rfl⟩
 |false =>
  have p8:out.length=l.length:=by simpa using h5
  rw[it_t (by rfl),ck_d (by simp;omega)];refine⟨_,rfl,?_,fun y=>?_,by simp;omega⟩
  ·refine List.pairwise_append.2 ⟨h1,PO _ _,fun a ha b hb=>?_⟩;rw[Ce.1 hb];rcases(h2 a).1 ha with ⟨_,e⟩|e
   ·cases e
   ·exact h3 rfl a e
  ·rw[Cq,h2,Ce];constructor
   ·rintro((⟨_,e⟩|e)|e);·cases e
    ·exact .inl e
    ·exact .inr e
   ·rintro(e|e);·exact .inl (.inr e)
    ·exact .inr e
theorem jz28{l:List Ac}{v:Ac}(hs:VsSz l)(hv:CSz v.Curve):∃b:Ba,NY l v=some b/\VAdd (some (b.L,b.E)) l v:=by
 unfold NY;rw[jzz4 hs];simp only[Ae];by_cases h:vchE l=0;rotate_left
 ·rw[B9 h];exact⟨_,rfl,.inl ⟨h,rfl⟩⟩
 rw[Bf h,ZZ hv];simp only[Ae];by_cases hr:VRi v;rotate_left
 ·rw[B9 hr];exact⟨_,rfl,.inr (.inl ⟨h,hr,rfl⟩)⟩
 rw[Bf hr];obtain⟨hl,hb⟩:=EA.1 h;rw[GM (l:=l) (fun _ x=>if vsm x v then some (if x=v then(⟨[],9⟩:Ba) else⟨[],24⟩) else none) (by omega) ?_ ?_]
 ·cases gq:scan (fun _ (x:Ac)=>if vsm x v then some (if x=v then(⟨[],9⟩:Ba) else⟨[],24⟩) else none) 0 l with
  |some o =>
   obtain⟨i,x,hx,hi,_⟩:=Lp 0 l o gq;split at hi
   ·rename_i kg;cases hi;refine⟨_,rfl,.inr (.inr ⟨h,hr,.inl ⟨x,Dw hx,kg,?_⟩⟩)⟩;by_cases he:x=v
    ·rw[Ap he];exact .inl ⟨he,rfl⟩
    ·rw[Aj he];exact .inr ⟨he,rfl⟩
   ·cases hi
  |none =>
   have hn:∀x,x∈l->¬vsm x v:=fun x hx e=>by obtain⟨i,hi,rfl⟩:=JG hx;have:=P6 gq (AD hi);rw[Ap e]at this;cases this
   simp only[sOut,Ae];by_cases h4:400<=l.length
   ·rw[it_d];exact⟨_,rfl,.inr (.inr ⟨h,hr,.inr ⟨hn,.inl ⟨h4,rfl⟩⟩⟩)⟩
   ·obtain⟨m,e,hm⟩:=jz29 (v:=v) (by omega) hb.asc hn;rw[it_n,e];exact⟨_,rfl,.inr (.inr ⟨h,hr,.inr ⟨hn,.inr ⟨by omega,m,rfl,hm⟩⟩⟩)⟩
 ·intro k x hx;have hk:=(AM.1 hx).1;simp only[RK];rw[it_d,at_e rfl hx];simp only[Ae];by_cases h1:x.Gauge=v.Gauge
  ·simp only[h1,decide_true,AR,Ae,BP];by_cases h2:x.Seq=v.Seq
   ·rw[it_d h2,jz3a (hs x (Dw hx)).len,Ap (show vsm x v from⟨h1,h2⟩)];simp only[Ae];by_cases he:x=v
    ·rw[it_d he,Ap he]
    ·rw[it_n he,Aj he]
   ·rw[it_n h2,AA,Aj (fun e:vsm x v=>h2 e.2)]
  ·simp only[h1,decide_false,AP,Ae,CM];rw[AX,AA,Aj (fun e:vsm x v=>h1 e.1)]
 ·simp only[RK];rw[it_n]
theorem jz2x{a:List Au}(h:a.length<=1000000):Kv a a=some true:=by
 unfold Kv;rw[Bf rfl,J7 (l:=a) (s:=0) (fun k=>(k:Int)) (by omega) (o:=.inl ()) ?_ ?_ rfl]
 ·simp only[Ae]
 ·intro k x hx;have hk:=(AM.1 hx).1;simp only[Ri];rw[it_d,at_e rfl hx];simp only[Ae,decide_true,Bool.and_self,De];rw[AX,AA];rfl
 ·simp only[Ri];rw[it_n]
theorem VAdd.bk{l m:List Ac}{v:Ac}(hs:VsSz l)(hv:CSz v.Curve)(h:VAdd (some (m,0)) l v):vchE l=0/\VRi v/\vchE m=0/\VsSz m/\Ur l m v:=by
 have fin:∀m' E,some (m,(0:Int))=some ((m',E):List Ac×Int)->m=m'/\E=0:=fun m' E h=>⟨F3 (·.1) (BD h),(F3 (·.2) (BD h)).symm⟩;rcases h with ⟨a,e'⟩|⟨a,b,e'⟩|⟨a,b,⟨x,hx,kg,⟨_,e'⟩|⟨_,e'⟩⟩|⟨hn,⟨_,e'⟩|⟨h4,m',e',hm⟩⟩⟩
 ·obtain⟨_,h0⟩:=fin _ _ e';exact absurd h0 a
 ·obtain⟨_,h0⟩:=fin _ _ e';cases h0
 ·obtain⟨_,h0⟩:=fin _ _ e';cases h0
 ·obtain⟨_,h0⟩:=fin _ _ e';cases h0
 ·obtain⟨_,h0⟩:=fin _ _ e';cases h0
 ·obtain⟨rfl,_⟩:=fin _ _ e';have hb:=(EA.1 a).2;refine⟨a,b,EA.2 ⟨by rw[hm.len];omega,fun y hy=>?_,hm.asc⟩,fun y hy=>?_,hm⟩
  ·rcases(hm.mem y).1 hy with h|h;·exact hb.right y h
   ·rw[h];exact b
  ·rcases(hm.mem y).1 hy with h|h;·exact hs y h
   ·rw[h];exact hv
end Go.Am

