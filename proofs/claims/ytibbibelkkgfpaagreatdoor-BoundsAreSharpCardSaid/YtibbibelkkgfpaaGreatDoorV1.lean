/- Part V1: the mathematics of flows and levels. No condition. -/
import Derived.Test.YtibbibelkkgfpaaGreatDoorR1
set_option linter.unusedSimpArgs false
set_option linter.unusedVariables false
namespace Go.Am
variable {f:List Int}{l:List An}{k z p q n i S j a b t v A:Nat}{s d st:Int}{α σ ω:Type}{c:Bh}{m y:Rat}{w:Nat->Nat->Option Rat}{P:Nat->Nat}{mv:List (List (Int×Af))}{tu:Bool}
noncomputable section
section
def scan(f:Nat->α->Option ω):Nat->List α->Option ω
 |_,[]=>none
 |k,x :: l=>match f k x with
  |some o=>some o
  |none=>scan f (k+1) l
theorem Fj{f:Nat->α->Option ω}:∀(k:Nat) (l:List α),scan f k l=none->∀i x,l[i]?=some x->f (k+i) x=none
 |k,[],_,i,x,h=>by simp at h
 |k,y :: l,e,i,x,h=>by
  unfold scan at e;split at e
  ·cases e
  ·rename_i e1;cases i with
   |zero=>simp at h;subst h;exact e1
   |succ i=>have:=Fj (k+1) l e i x (by simpa using h);rwa [show k+(i+1)=k+1+i by omega]
theorem Jk{f:Nat->α->Option ω}:∀(k:Nat) (l:List α),(∀i x,l[i]?=some x->f (k+i) x=none)->scan f k l=none
 |k,[],_=>rfl
 |k,y :: l,e=>by unfold scan;rw[show f k y=none from e 0 y rfl];exact Jk (k+1) l fun i x h=>by have:=e (i+1) x (by simpa using h);rwa [show k+(i+1)=k+1+i by omega]at this
theorem wzev{f:Nat->α->Option ω}{l:List α}{x:α}(h:l[k]?=some x):scan f k (l.drop k)=(match f k x with
  |some o=>some o
  | none=>scan f (k+1) (l.drop (k+1))):=by
 obtain⟨hk,rfl⟩:=A8.1 h;rw[Fn hk];rfl
def sOut:Option ω->Unit⊕ω
 |some o=>.inr o
 |none=>.inl ()
theorem qz4u{body:σ->Option (σ⊕(Unit⊕ω))}{l:List α}(st:Nat->σ)(f:Nat->α->Option ω)(hl:l.length<=1000000000)(hs:∀(k:Nat) (x:α),l[k]?=some x->body (st k)=some (match f k x with | some o=>.inr (.inr o) | none=>.inl (st (k+1)))) (he:body (st l.length)=some (.inr (.inl ()))) {s:σ} (h0:s=st 0):lp body s=some (sOut (scan f 0 l)):=by
 obtain⟨o,e,ho⟩:=Z8 (body:=body) st (fun k=>k<=l.length/\scan f 0 l=scan f k (l.drop k)) (fun k=>l.length-k) (fun o=>o=sOut (scan f 0 l)) (by
  rintro k ⟨hk,bR⟩;by_cases hlt:k<l.length
  ·have hx:=AF hlt;have h1:=hs k _ hx;have h2:=wzev (f:=f) hx;cases hf:f k l[k] with
   |some o =>right;rw[hf]at h1 h2;exact⟨_,h1,by rw[bR,h2];rfl⟩
   |none =>left;rw[hf]at h1 h2;exact⟨k+1,h1,⟨hlt,bR.trans h2⟩,by omega⟩
  ·right;have:k=l.length:=by omega
   subst this;refine⟨_,he,?_⟩;rw[bR,List.drop_length];rfl) 0 h0 ⟨BA _,rfl⟩ (by omega)
 rw[e,ho]
theorem CS{body:Int->Option (Int⊕(Unit⊕ω))}{l:List α}(f:Nat->α->Option ω)(hl:l.length<=1000000000)(hs:∀(k:Nat) (x:α),l[k]?=some x->body (k:Int)=some (match f k x with | some o=>.inr (.inr o) | none=>.inl ((k:Int)+1))) (he:body (l.length:Int)=some (.inr (.inl ()))):lp body 0=some (sOut (scan f 0 l)) :=
 qz4u (fun k=>(k:Int)) f hl (fun k x h=>by rw[hs k x h];cases f k x<;>rfl) he rfl
end
structure CSz(c:Bh):Prop where
 len:c.Points.length<=1048576
 sz:∀p,p∈c.Points->Sz 1048576 p.Flow
def crvF(l:List Bz)(k:Nat)(p:Bz):Option Int :=
 if p.Stage < -1000\/2000<p.Stage then some 3 else if ¬Vd p.Flow\/p.Flow.Neg=true then some 1
 else if 0<k/\(p.Stage<=(l.getD (k-1) default).Stage\/rq p.Flow<rq (l.getD (k-1) default).Flow) then some 1 else none
def Fl(c:Bh):Int:=if c.Points.length<1\/16<c.Points.length then 2 else(scan (crvF c.Points) 0 c.Points).getD 0
theorem Su{o:Option Int}{z:Int}:(match sOut o with | .inl ()=>some z | .inr o=>some o)=some (o.getD z):=by cases o<;>rfl
theorem Sv[Inhabited α]{l:List α}{x:α}(h:l[k]?=some x)(h0:0<k):at? l ((k:Int)-1)=some (l.getD (k-1) default):=by
 have hk:=(A8.1 h).1;have h1:k-1<l.length:=by omega
 rw[at_e (n:=k-1) (by omega) (AF h1)];simp[List.getD,h1]
theorem wzi5[Inhabited α]{l:List α}{x:α}(h:l[k]?=some x)(h0:0<k):l.getD (k-1) default∈l:=by
 have hk:=(A8.1 h).1;have h1:k-1<l.length:=by omega
 simp[List.getD,h1]
theorem FZ{p q:Rat}:cmpQ p q<0↔p<q:=by
 unfold cmpQ;split
 ·simp[*]
 ·split<;>simp[*]
theorem qzri(h:CSz c):Ks c=some (Fl c):=by
 unfold Ks Fl;by_cases h1:c.Points.length<1
 ·rw[it_t (by simp;omega),Aj (.inl h1)]
 by_cases h2:16<c.Points.length
 ·rw[it_t (by simp;omega),Aj (.inr h2)]
 rw[it_f (by simp;omega),Ag (by omega)];rw[CS (l:=c.Points) (crvF c.Points) (by omega) ?_ ?_]
 ·simp only[Ab];exact Su
 ·intro k p hp;have hk:=(A8.1 hp).1;have hm:=AG hp;have hz:=h.sz p hm;simp only[Qx];rw[it_d (by omega),at_e rfl hp];simp only[Ab,PQ,crvF];by_cases p1:p.Stage < -1000\/2000<p.Stage
  ·rw[Aj p1,it_t (by rcases p1 with p1|p1<;>simp<;>omega)]
  rw[Ag p1,it_f (by simp;omega)];simp only[Qu];rw[Ra (hz.mono (by omega))];simp only[Ab];by_cases p2:¬Vd p.Flow\/p.Flow.Neg=true
  ·rw[Aj p2,it_t (by rcases p2 with p2|p2<;>simp[p2])]
  rw[Ag p2];have p3:Vd p.Flow:=Decidable.byContradiction fun e=>p2 (.inl e);have p4:p.Flow.Neg=false:=by simpa using fun e=>p2 (.inr e)
  rw[it_f (by simp[p3,p4])];by_cases h0:k=0
  ·subst h0;rw[ck_t (by simp),show decide ((0:Int)<((0:Nat):Int))=false by simp];simp only[Gam,Be,Ab];rw[ck_t (by simp),Ag (by omega),it_f (by simp),A0 (by omega)]
  have h0:0<k:=by omega
  rw[ck_t (by simp[As];omega),show decide ((0:Int)<(k:Int))=true by simp;omega];simp only[Td,Bv];rw[Sv hp h0];simp only[Ab];have hq:=h.sz _ (wzi5 hp h0);generalize c.Points.getD (k-1) default=q at *;rw[ck_t (by simp[As];omega)];by_cases p5:p.Stage<=q.Stage
  ·rw[show decide (p.Stage<=q.Stage)=true by simp[p5]];simp only[E6,Be,Ab];rw[Aj ⟨h0,.inl p5⟩,it_t (by simp)]
  ·rw[show decide (p.Stage<=q.Stage)=false by simp[p5]];simp only[E5,Bv,Ab];rw[IG hz hq (by omega) (by omega) (by omega) (by omega)];simp only[Ab];by_cases p6:rq p.Flow<rq q.Flow
   ·rw[Aj ⟨h0,.inr p6⟩,it_t (by simp[FZ,p6])]
   ·rw[Ag (by simp[p5,p6]),it_f (by simp[FZ,p6]),A0 (by omega)]
 ·simp only[Qx];rw[it_n (by omega)]
structure SSz(s:An):Prop where
 c:CSz s.Curve
 w:Sz 1048576 s.Weight
structure LSz(l:List An):Prop where
 len:l.length<=1048576
 sz:∀s,s∈l->SSz s
def BL(s:An):Prop:=0<=s.From/\s.From<s.To/\s.To<=1402560/\-1000<=s.Datum/\s.Datum<=1000/\Vd s.Weight/\Fl s.Curve=0
noncomputable instance(s:An):Decidable (BL s):=inferInstanceAs (Decidable (_/\_))
def spnF(l:List An)(k:Nat)(s:An):Option Int:=if BL s/\(0<k->(l.getD (k-1) default).To<=s.From) then none else some 1
def Ga(l:List An):Int:=if 400<l.length then 2 else(scan (spnF l) 0 l).getD 0
theorem qzus{s:An}(h:SSz s):Kt s=some (decide (BL s)):=by
 unfold Kt;by_cases p:s.From<0\/s.To<=s.From\/1402560<s.To\/s.Datum < -1000\/1000<s.Datum
 ·rw[it_t (by rcases p with p|p|p|p|p<;>simp[p])];rw[A9 (fun e=>by unfold BL at e;omega)]
 ·rw[it_f (by simp;omega),Ra (h.w.mono (by omega))];simp only[Ab];by_cases p2:Vd s.Weight
  ·rw[AC p2,Bv,qzri h.c];simp only[Ab,Cg];congr 1;refine decide_eq_decide.2 ⟨fun e=>⟨by omega,by omega,by omega,by omega,by omega,p2,e⟩,fun e=>e.2.2.2.2.2.2⟩
  ·rw[A9 p2,Be];simp only[Ab,BO];rw[A9 (fun e=>p2 e.2.2.2.2.2.1)]
theorem qzu3(h:LSz l):ER l=some (Ga l):=by
 unfold ER Ga;by_cases h1:400<l.length
 ·rw[it_d (by omega),Aj h1]
 rw[it_n (by omega),Ag h1];rw[qz4u (l:=l) (fun k=>(if k=0 then 0 else(l.getD (k-1) default).To,(k:Int))) (spnF l) (by omega) ?_ ?_ (by simp)]
 ·simp only[Ab];exact Su
 ·intro k s hs;have hk:=(A8.1 hs).1;have hz:=h.sz s (AG hs);simp only[Qy];rw[it_d (by omega),at_e rfl hs];simp only[Ab];rw[qzus hz];simp only[Ab];by_cases p:BL s
  ·have p0:=p.1;by_cases p2:0<k->(l.getD (k-1) default).To<=s.From
   ·have e1:spnF l k s=none:=Aj ⟨p,p2⟩;rw[e1,it_f,A0 (by omega)]
    ·simp[hs]
    ·rw[AC p];by_cases h0:k=0
     ·simp[h0];omega
     ·rw[Ag h0];have:=p2 (by omega);simp only[E6,BO];exact A9 (by omega)
   ·have e1:spnF l k s=some 1:=Ag (fun e=>p2 e.2);rw[e1,it_t];rw[AC p];have h0:¬k=0:=fun e=>p2 (fun h=>by omega);rw[Ag h0];simp only[E6,BO];refine AC (Int.not_le.1 fun e=>p2 fun _=>e)
  ·have e1:spnF l k s=some 1:=Ag (fun e=>p e.1);rw[e1,it_t (by simp[p])]
 ·simp only[Qy];rw[it_n (by omega)]
def hisR(h:AD):Prop:=0<=h.From/\h.Stages.length<=40000/\h.From<=1402560-(h.Stages.length:Int)/\∀s,s∈h.Stages->0<=s/\s<=1000
instance (h:AD):Decidable (hisR h):=inferInstanceAs (Decidable (_/\_))
theorem qz38{p:Int->Bool}:∀(l:List Int) (k:Nat),(0<=(scan (fun k s=>if p s then some (k:Int) else none) k l).getD (-1))↔∃s,s∈l/\p s=true
 |[],k=>by simp[scan]
 |x :: l,k=>by
  have:=qz38 (p:=p) l (k+1);unfold scan;by_cases h:p x=true
  ·simp[h]
  ·have h':p x=false:=by simpa using h
   simp only[h',J3,CG,this,AV,exists_eq_or_imp,false_or]
theorem wz2c{h:AD}(hl:h.Stages.length<=1048576):Mg h=some (decide (hisR h)):=by
 unfold Mg;rw[ck_t (by simp[As];omega)];by_cases p1:h.From<0\/40000<h.Stages.length\/1402560-(h.Stages.length:Int)<h.From
 ·rw[it_t (by rcases p1 with p1|p1|p1<;>simp<;>omega)];rw[A9 (fun e=>by obtain⟨e1,e2,e3,_⟩:=e;omega)]
 ·rw[it_f (by simp;omega)];rw[CS (l:=h.Stages) (fun k s=>if s<0\/1000<s then some false else none) (by omega) ?_ ?_]
  ·simp only[Ab];cases bR:scan (fun(k:Nat) (s:Int)=>if s<0\/1000<s then some false else none) 0 h.Stages with
   |none =>have:=Fj _ _ bR;simp only[sOut];rw[AC];refine⟨by omega,by omega,by omega,fun s hs=>?_⟩;obtain⟨i,hi,rfl⟩:=Th hs;have:=this i _ (AF hi);simp at this;omega
   |some b =>
    simp only[sOut]
    have hb:b=false:=by
     have:∀(k:Nat) (l:List Int),scan (fun(k:Nat) (s:Int)=>if s<0\/1000<s then some false else none) k l=some b->b=false:=by
      intro k l;induction l generalizing k with
      |nil=>intro e;cases e
      |cons x l ih =>
       intro e;unfold scan at e;split at e
       ·rename_i o ho;cases e;split at ho
        ·cases ho;rfl
        ·cases ho
       ·exact ih _ e
     exact this _ _ bR
    subst hb;rw[A9];intro e;have:=Jk (f:=fun(k:Nat) (s:Int)=>if s<0\/1000<s then some false else none) 0 h.Stages (fun i x hx=>by have:=e.2.2.2 x (AG hx);rw[Ag (by omega)]);rw[bR]at this;cases this
  ·intro k s hs;have hk:=(A8.1 hs).1;simp only[PJ];rw[it_d (by omega),at_e rfl hs];simp only[Ab];by_cases q:s<0
   ·rw[AC q];simp only[E6,Be,Ab,Cg];rw[Em,Aj (.inl q)]
   ·rw[A9 q];simp only[E5,Bv,Ab,BO];by_cases q2:1000<s
    ·rw[it_d q2,Aj (.inr q2)]
    ·rw[it_n q2,Ag (by omega),A0 (by omega)]
  ·simp only[PJ];rw[it_n (by omega)]
structure CrvR(c:Bh):Prop where
 sz:CSz c
 pos:0<c.Points.length
 len:c.Points.length<=16
 st:∀p,p∈c.Points->-1000<=p.Stage/\p.Stage<=2000
 vd:∀p,p∈c.Points->Vd p.Flow
 asc:∀k (h:k+1<c.Points.length),c.Points[k].Stage<c.Points[k+1].Stage
theorem NW(h:CSz c)(e:Fl c=0):CrvR c:=by
 unfold Fl at e;split at e
 ·cases e
 ·rename_i hl
  have bR:scan (crvF c.Points) 0 c.Points=none:=by
   cases hs:scan (crvF c.Points) 0 c.Points with
   |none=>rfl
   |some o =>
    rw[hs]at e;have e:o=0:=e;subst e
    have:∀(k:Nat) (l:List Bz),scan (crvF c.Points) k l=some 0->False:=by
     intro k l;induction l generalizing k with
     |nil=>intro e;cases e
     |cons x l ih =>
      intro e;unfold scan at e;split at e
      ·rename_i o ho;cases e;unfold crvF at ho;split at ho
       ·cases ho
       ·split at ho;·cases ho
        ·split at ho<;>cases ho
      ·exact ih _ e
    exact(this _ _ hs).elim
  have at':∀i (hi:i<c.Points.length),crvF c.Points i c.Points[i]=none:=fun i hi=>by
   have:=Fj _ _ bR i _ (AF hi)
   rwa [Bn]at this
  have key:∀i (hi:i<c.Points.length),(-1000<=c.Points[i].Stage/\c.Points[i].Stage<=2000)/\Vd c.Points[i].Flow/\(0<i->¬c.Points[i].Stage<=(c.Points.getD (i-1) default).Stage):=fun i hi=>by
   have:=at' i hi;unfold crvF at this;split at this
   ·cases this
   ·rename_i h1;split at this
    ·cases this
    ·rename_i h2;split at this
     ·cases this
     ·rename_i h3;exact⟨by omega,Decidable.byContradiction fun e=>h2 (.inl e),fun h0 h4=>h3 ⟨h0,.inl h4⟩⟩
  refine⟨h,by omega,by omega,fun p hp=>?_,fun p hp=>?_,fun k hk=>?_⟩
  ·obtain⟨i,hi,rfl⟩:=Th hp;exact(key i hi).1
  ·obtain⟨i,hi,rfl⟩:=Th hp;exact(key i hi).2.1
  ·have:=(key (k+1) hk).2.2 (by omega);simp[List.getD,show k<c.Points.length by omega]at this;exact this
theorem wzfr{n:Int}(h1:-999999999999999<=n)(h2:n<=999999999999999)(h3:-999999999999999<=d)(h4:d<=999999999999999)(h0:d≠0):Qp n d=some ⟨rof ((n:Rat) / (d:Rat)),0⟩:=by
 unfold Qp;rw[ZZ h1 h2,ZZ h3 h4];simp only[Ab];rw[it_f (show(bif !true then true else !true)=false from rfl),it_n h0,qzrr h1 h2,qzrr h3 h4];simp only[Ab];have e1:sv (bs d.natAbs)≠0:=by rw[AP];omega
 rw[KC (AU (Re (by omega)) (by omega)) (AU (Re (by omega)) (by omega)) e1];simp only[Ab,AP];rw[<-Rd n,<-Rd d,wzsc _ _ (by omega) (by omega),Nat.mul_one,Nat.one_mul];rfl
structure Nx(l:List Bz)(s:Int)(n:Nat):Prop where
 le:n<=l.length
 lo:∀k (h:k<l.length),k<n->l[k].Stage<=s
 hi:∀k (h:k<l.length),n<=k->s<l[k].Stage
theorem Nx.uniq{l:List Bz}{m:Nat}(h:Nx l s n)(k:Nx l s m):n=m:=by
 rcases Nat.lt_trichotomy n m with e|e|e
 ·have:=h.hi n (by have:=k.le;omega) (AA _);have:=k.lo n (by have:=k.le;omega) e;omega
 ·exact e
 ·have:=k.hi m (by have:=h.le;omega) (AA _);have:=h.lo m (by have:=h.le;omega) e;omega
def BM(l:List Bz)(s:Int)(n:Nat):Rat :=
 if n=0 then 0 else if n=l.length then rq (l.getD (n-1) default).Flow else
  rq (l.getD (n-1) default).Flow+(((s-(l.getD (n-1) default).Stage:Int):Rat) / (((l.getD n default).Stage-(l.getD (n-1) default).Stage:Int):Rat))*(rq (l.getD n default).Flow-rq (l.getD (n-1) default).Flow)
theorem Dy[Inhabited α]{l:List α}(h:k<l.length):l.getD k default=l[k]:=by simp[List.getD,h]
theorem NX(H:CrvR c):∀(j k:Nat) (hk:k<c.Points.length) (hj:j<k),(c.Points[j]'(by omega)).Stage<c.Points[k].Stage:=by
 intro j k hk hj;induction k with
 |zero=>omega
 |succ k ih =>
  have h1:=H.asc k hk;by_cases e:j=k
  ·subst e;exact h1
  ·exact Int.lt_trans (ih (by omega) (by omega)) h1
theorem qz47(H:CrvR c)(hs:-100000<=s/\s<=100000)(hn:Nx c.Points s n):Sz 4194304 (rof (BM c.Points s n)) /\
  (0<n->n<c.Points.length->Kp (s-(c.Points.getD (n-1) default).Stage) ((c.Points.getD n default).Stage-(c.Points.getD (n-1) default).Stage)=some (rof (((s-(c.Points.getD (n-1) default).Stage:Int):Rat) / (((c.Points.getD n default).Stage-(c.Points.getD (n-1) default).Stage:Int):Rat)),0) /\
   Qp (s-(c.Points.getD (n-1) default).Stage) ((c.Points.getD n default).Stage-(c.Points.getD (n-1) default).Stage)=some ⟨rof (((s-(c.Points.getD (n-1) default).Stage:Int):Rat) / (((c.Points.getD n default).Stage-(c.Points.getD (n-1) default).Stage:Int):Rat)),0⟩ /\
   ∀(x:Af),x=rof (((s-(c.Points.getD (n-1) default).Stage:Int):Rat) / (((c.Points.getD n default).Stage-(c.Points.getD (n-1) default).Stage:Int):Rat)) -> (bd (Dm (c.Points.getD n default).Flow (c.Points.getD (n-1) default).Flow) fun r3=>bd (Dl x r3) fun r4=>bd (Ct (c.Points.getD (n-1) default).Flow r4) fun r5=>some r5)=some (rof (BM c.Points s n)) /\ ∀{Y:Type} (K:Af->Option Y),(bd (Qv (c.Points.getD n default).Flow (c.Points.getD (n-1) default).Flow) fun r3=>bd (Qt x r3) fun r4=>bd (ME (c.Points.getD (n-1) default).Flow r4) fun r5=>K r5)=K (rof (BM c.Points s n))):=by
 unfold BM;have aC:=hn.le;by_cases h0:n=0
 ·rw[Aj h0];exact⟨Sz.zero _,fun h=>by omega⟩
 rw[Ag h0];have h1:n-1<c.Points.length:=by omega
 have hp:c.Points.getD (n-1) default∈c.Points:=by rw[Dy h1];exact J4 h1
 have s1:=(H.sz.sz _ hp);by_cases h2:n=c.Points.length
 ·rw[Aj h2];refine⟨(IH s1).mono (by omega),fun _ h=>by omega⟩
 rw[Ag h2];have h3:n<c.Points.length:=by omega
 have hq:c.Points.getD n default∈c.Points:=by rw[Dy h3];exact J4 h3
 have s2:=(H.sz.sz _ hq);have t1:=H.st _ hp;have t2:=H.st _ hq;have t3:(c.Points.getD (n-1) default).Stage<(c.Points.getD n default).Stage:=by rw[Dy h1,Dy h3];exact NX H (n-1) n h3 (by omega)
 generalize c.Points.getD (n-1) default=p at *;generalize c.Points.getD n default=q at *;obtain⟨m1,m2⟩:=wzai (n:=s-p.Stage) (d:=q.Stage-p.Stage) (by omega) (by omega) (by omega) (by omega) (by omega);have m3:=wzfr (n:=s-p.Stage) (d:=q.Stage-p.Stage) (by omega) (by omega) (by omega) (by omega) (by omega);obtain⟨d1,d2⟩:=ZW s2 s1 (by omega) (by omega) (by omega) (by omega);have d3:=wzit s2 s1 (by omega) (by omega) (by omega) (by omega);generalize (((s-p.Stage:Int):Rat) / ((q.Stage-p.Stage:Int):Rat))=z at *;obtain⟨u1,u2⟩:=K9 m2 d2 (by omega) (by omega) (by omega) (by omega);have u3:=wzi9 m2 d2 (by omega) (by omega) (by omega) (by omega);rw[Cq,Cq]at u1 u2 u3;obtain⟨v1,v2⟩:=K8 s1 u2 (by omega) (by omega) (by omega) (by omega);have v3:=ZX s1 u2 (by omega) (by omega) (by omega) (by omega);rw[Cq]at v1 v2 v3;refine⟨v2.mono (by omega),fun _ _=>⟨m1,m3,fun x hx=>⟨?_,fun K=>?_⟩⟩⟩
 ·rw[hx,d1];simp only[Ab];rw[u1];simp only[Ab];rw[v1];rfl
 ·rw[hx,d3];simp only[Ab];rw[u3];simp only[Ab];rw[v3];rfl
theorem qz0s(H:CrvR c)(s:Int):∃n,Nx c.Points s n/\J0 (c.Points.length:Int) (fun a0=>Kg a0 c s)=some (n:Int):=by
 have hl:=H.len;unfold J0
 obtain⟨o,e,n,rfl,hn⟩:=Cv (s:=((0:Int),(c.Points.length:Int))) (body:=Kc (fun a0=>Kg a0 c s)) (fun t=>∃i j:Nat,t=((i:Int),(j:Int))/\i<=j/\j<=c.Points.length/\(∀k (h:k<c.Points.length),k<i->c.Points[k].Stage<=s)/\(∀k (h:k<c.Points.length),j<=k->s<c.Points[k].Stage)) (fun t=>(t.2-t.1).toNat) (fun o=>∃n:Nat,o=(n:Int)/\Nx c.Points s n) (by
  rintro t ⟨i,j,rfl,iD,hj,lo,hi⟩;simp only[Kc];by_cases hlt:i<j
  ·left;have ib:Int.fdiv (((i:Int)+(j:Int))%18446744073709551616) 2=(((i+j) / 2:Nat):Int):=by rw[show(((i:Int)+(j:Int))%18446744073709551616)=((i+j:Nat):Int) by omega,Lh _ (by omega)];omega
   have hm:(i+j) / 2<c.Points.length:=by omega
   rw[it_d (by omega),A0 (by omega),ib,A0 (by omega)];simp only[Kg];rw[at_e rfl (AF hm)];simp only[Ab];by_cases aL:s<c.Points[(i+j) / 2].Stage
   ·rw[Bl aL];refine⟨_,rfl,⟨i,(i+j) / 2,rfl,by omega,by omega,lo,fun k hk h2=>?_⟩,by dsimp only;omega⟩;by_cases e:k=(i+j) / 2
    ·subst e;exact aL
    ·exact Int.lt_trans aL (NX H _ k hk (by omega))
   ·rw[BJ aL,A0 (by omega)];refine⟨_,rfl,⟨(i+j) / 2+1,j,by simp,by omega,hj,fun k hk h2=>?_,hi⟩,by dsimp only;omega⟩;by_cases e:k=(i+j) / 2
    ·subst e;omega
    ·have:=NX H k ((i+j) / 2) hm (by omega);omega
  ·right;rw[it_n (by omega)];obtain rfl:i=j:=by omega
   exact⟨_,rfl,i,rfl,hj,lo,hi⟩) ⟨0,c.Points.length,rfl,by omega,AA _,fun k _ h=>by omega,fun k h h2=>by omega⟩ (by show((c.Points.length:Int)-0).toNat<_;omega)
 exact⟨n,hn,by rw[e];rfl⟩
theorem wzab(H:CrvR c)(hs:-100000<=s/\s<=100000)(hn:Nx c.Points s n):MG c s=some (rof (BM c.Points s n)):=by
 obtain⟨m,hm,e⟩:=qz0s H s;obtain rfl:=hn.uniq hm;have aC:=hn.le;have hl:=H.len;unfold MG;rw[e];simp only[Ab];by_cases h0:n=0
 ·subst h0;rw[it_d (by simp)];unfold BM;rw[Aj rfl,Dt]
 ·rw[it_n (by omega),A0 (by omega)];have h1:n-1<c.Points.length:=by omega
  rw[at_e (n:=n-1) (by omega) (AF h1),<-Dy h1];simp only[Ab];have hp:c.Points.getD (n-1) default∈c.Points:=by rw[Dy h1];exact J4 h1
  by_cases h2:n=c.Points.length
  ·rw[it_d (by omega)];unfold BM;rw[Ag h0,Aj h2,Nh (H.vd _ hp)]
  ·rw[it_n (by omega)];have h3:n<c.Points.length:=by omega
   rw[at_e rfl (AF h3),<-Dy h3];simp only[Ab];have hq:c.Points.getD n default∈c.Points:=by rw[Dy h3];exact J4 h3
   have t1:=H.st _ hp;have t2:=H.st _ hq;obtain⟨_,hk⟩:=qz47 H hs hn;obtain⟨k1,_,k2⟩:=hk (by omega) h3;rw[A0 (by omega),A0 (by omega),k1];simp only[Ab];exact(k2 _ rfl).1
section
variable {Y:Type}
theorem NY{body:σ->Option (σ⊕ω)}(st:Nat->σ)(n:Nat)(hn:n<4611686018427387904)(hs:∀k,k<n->body (st k)=some (.inl (st (k+1)))){o:ω}(he:body (st n)=some (.inr o)){s:σ}(h0:s=st 0):lp body s=some o:=by
 obtain⟨o',e,ho⟩:=Z8 (body:=body) st (fun k=>k<=n) (fun k=>n-k) (fun o'=>o'=o) (by
  intro k hk;by_cases h:k<n
  ·exact .inl ⟨k+1,hs k h,h,by omega⟩
  ·right;obtain rfl:k=n:=by omega
   exact⟨_,he,rfl⟩) 0 h0 (BA _) (by omega)
 rw[e,ho]
theorem qz72{l:List α}{x:α}(h:l[k]?=some x):l.take (k+1)=l.take k++[x]:=by rw[List.take_add_one,h];rfl
theorem Sw{f:Nat->α->Option ω}:∀(k:Nat) (l:List α) (i:Nat) (x:α) (o:ω),l[i]?=some x->f (k+i) x=some o->(∀j y,j<i->l[j]?=some y->f (k+j) y=none)->scan f k l=some o
 |k,[],i,x,o,h,_,_=>by simp at h
 |k,y :: l,0,x,o,h,e,_=>by simp at h;subst h;unfold scan;rw[show f k y=some o from e]
 |k,y :: l,i+1,x,o,h,e,hn=>by
  unfold scan;rw[show f k y=none from hn 0 y (by omega) rfl]
  exact Sw (k+1) l i x o (by simpa using h) (by rwa [show k+1+i=k+(i+1) by omega]) fun j y' hj hy=>by
   have:=hn (j+1) y' (by omega) (by simpa using hy)
   rwa [show k+1+j=k+(j+1) by omega]
theorem Hu{f:Nat->α->Option ω}{l:List α}(h:scan f 0 l=none){x:α}(hx:l[i]?=some x):f i x=none:=by
 have:=Fj 0 l h i x hx
 rwa [Bn]at this
theorem Sx{v:Y}{k x:Int}:∀(m:List (Int×Y)),mget keqI (mput keqI m k v) x=if x=k then some v else mget keqI m x
 |[]=>by by_cases h:x=k<;>simp[mput,mget,keqI,h]
 |p :: m=>by
  unfold mput;by_cases h:k=p.1
  ·rw[show keqI k p.1=true by simp[keqI,h]];by_cases h2:x=k
   ·simp[mget,keqI,h2]
   ·have h3:keqI x k=false:=(by simp[keqI,h2]);have h4:keqI x p.1=false:=(by rw[<-h];exact h3);simp only[mget,h3,h4,Ag h2]
  ·rw[show keqI k p.1=false by simp[keqI,h]];have ih:=Sx (v:=v) (k:=k) (x:=x) m;by_cases h2:x=p.1
   ·have h3:keqI x p.1=true:=(by simp[keqI,h2]);simp only[mget,h3];rw[Ag (fun e:x=k=>h (e.symm.trans h2))]
   ·have h3:keqI x p.1=false:=(by simp[keqI,h2]);simp only[mget,h3];exact ih
end
def nxN(l:List Bz)(s:Int):Nat:=open Classical in if h:∃n,Nx l s n then h.choose else 0
def flw(c:Bh)(s:Int):Af:=rof (BM c.Points s (nxN c.Points s))
theorem NZ(H:CrvR c)(s:Int):Nx c.Points s (nxN c.Points s):=by
 have h:∃n,Nx c.Points s n:=let ⟨n,hn,_⟩:=qz0s H s;⟨n,hn⟩
 unfold nxN;rw[dif_pos h];exact h.choose_spec
theorem wzti(H:CrvR c)(hs:-100000<=s/\s<=100000):Sz 4194304 (flw c s):=(qz47 H hs (NZ H s)).1
theorem wzk7(h:CSz c)(e:Fl c=0)(hs:-100000<=s/\s<=100000):MI c s=some (flw c s):=by unfold MI;rw[qzri h,Ab,Bl e,wzab (NW h e) hs (NZ (NW h e) s)];rfl
theorem qz8q{α:Type}{f:Nat->α->Option Int}{z:Int}(hf:∀k x o,f k x=some o->o≠z):∀(k:Nat) (l:List α) ,scan f k l≠some z
 |k,[]=>by simp[scan]
 |k,x :: l=>by
  unfold scan;intro e;split at e
  ·rename_i o ho;cases e;exact hf _ _ _ ho rfl
  ·exact qz8q hf (k+1) l e
theorem wze2{f:Nat->α->Option Int}{l:List α}(hf:∀k x o,f k x=some o->o≠0)(h:(scan f 0 l).getD 0=0):scan f 0 l=none:=by
 cases e:scan f 0 l with
 |none=>rfl
 |some o =>rw[e]at h;have h:o=0:=h;subst h;exact(qz8q hf _ _ e).elim
def inS(s:An)(t:Int):Prop:=s.From<=t/\t<s.To
instance (s:An)(t:Int):Decidable (inS s t):=inferInstanceAs (Decidable (_/\_))
def atF(t:Int)(k:Nat)(s:An):Option Int:=if inS s t then some (k:Int) else none
def sm:Nat->(Nat->Rat)->Rat
 |0,_=>0
 |n+1,f=>sm n f+f n
theorem Bf{f g:Nat->Rat}:∀{n:Nat},(∀i,i<n->f i=g i)->sm n f=sm n g
 |0,_=>rfl
 |n+1,h=>by show sm n f+f n=sm n g+g n;rw[Bf fun i hi=>h i (by omega),h n (by omega)]
theorem DN(n:Nat):sm n (fun _=>0)=0:=by
 induction n with
 |zero=>rfl
 |succ n ih=>show sm n _+0=0;rw[ih];grind
theorem E2(f g:Nat->Rat):∀n,sm n (fun i=>f i+g i)=sm n f+sm n g
 |0=>by show(0:Rat)=0+0;grind
 |n+1=>by show sm n _+(f n+g n)=sm n f+f n+(sm n g+g n);rw[E2 f g n];grind
theorem Fm(c:Rat)(f:Nat->Rat):∀n,sm n (fun i=>c*f i)=c*sm n f
 |0=>by show(0:Rat)=c*0;grind
 |n+1=>by show sm n _+c*f n=c*(sm n f+f n);rw[Fm c f n];grind
theorem Sy(f g:Nat->Rat)(n:Nat):sm n (fun i=>f i-g i)=sm n f-sm n g:=by have h1:=E2 f (fun i=>-1*g i) n;rw[Fm]at h1;rw[Bf (g:=fun i=>f i+-1*g i) fun i _=>by grind,h1];grind
theorem Hv{f g:Nat->Rat}:∀{n:Nat},(∀i,i<n->f i<=g i)->sm n f<=sm n g
 |0,_=>Rat.le_refl
 |n+1,h=>by
  have h1:=Hv (n:=n) fun i hi=>h i (by omega);have h2:=h n (by omega);show sm n f+f n<=sm n g+g n
  grind
theorem S0(f:Nat->Nat->Rat)(m:Nat):∀n,sm n (fun i=>sm m (fun j=>f i j))=sm m (fun j=>sm n (fun i=>f i j))
 |0=>(DN m).symm
 |n+1=>by show sm n _+sm m (fun j=>f n j)=sm m (fun j=>sm n (fun i=>f i j)+f n j);rw[S0 f m n,E2]
theorem Oa{f:Nat->Rat}:∀{n:Nat},(∀i,i<n->0<=f i)->sm n f=0->∀i,i<n->f i=0
 |0,_,_,i,hi=>by omega
 |n+1,h,e,i,hi=>by
  have h1:0<=sm n f:=by
   have:=Hv (f:=fun _=>0) (g:=f) (n:=n) fun i hi=>h i (by omega)
   rwa [DN]at this
  have h2:=h n (by omega);have e:sm n f+f n=0:=e;by_cases hn:i=n
  ·subst hn;grind
  ·exact Oa (n:=n) (fun i hi=>h i (by omega)) (by grind) i (by omega)
theorem wzg7{f:Nat->Rat}:∀{n:Nat},(∀i,i<n->0<=f i)->sm n f≠0->∃i,i<n/\0<f i
 |0,_,e=>absurd rfl e
 |n+1,h,e=>by
  by_cases h2:0<f n
  ·exact⟨n,by omega,h2⟩
  ·have h3:f n=0:=by have:=h n (by omega);grind
   have e:sm n f+f n≠0:=e;rw[h3]at e;obtain⟨i,hi,h4⟩:=wzg7 (n:=n) (fun i hi=>h i (by omega)) (by grind);exact⟨i,by omega,h4⟩
def Bm(S n:Nat)(c x:Nat->Nat->Rat):Rat:=sm S fun s=>sm n fun b=>c s b*x s b
theorem wzr6{c x y:Nat->Nat->Rat}{d:Nat->Rat}(hr:∀s,s<S->sm n (x s)=sm n (y s))(hc:∀b,b<n->sm S (fun s=>x s b)=sm S (fun s=>y s b))(hx:∀s b,s<S->b<n->0<=x s b) (hy:∀s b,s<S->b<n->0<=y s b) (hp:∀s a b,s<S->a<n->b<n->0<x s a->c s a-d a<=c s b-d b):Bm S n c x<=Bm S n c y:=by
 have split:∀z:Nat->Nat->Rat,Bm S n c z=sm S (fun s=>sm n fun b=>(c s b-d b)*z s b)+sm n (fun b=>d b*sm S (fun s=>z s b)):=fun z=>by
  have e1:sm n (fun b=>d b*sm S (fun s=>z s b))=sm S (fun s=>sm n fun b=>d b*z s b):=by rw[S0];exact Bf fun b _=>(Fm (d b) (fun s=>z s b) S).symm
  rw[e1,<-E2];refine Bf fun s _=>?_;rw[<-E2];exact Bf fun b _=>by grind
 rw[split x,split y,Bf (n:=n) (g:=fun b=>d b*sm S (fun s=>y s b)) fun b hb=>by rw[hc b hb]]
 have:sm S (fun s=>sm n fun b=>(c s b-d b)*x s b)<=sm S (fun s=>sm n fun b=>(c s b-d b)*y s b):=by
  refine Hv fun s hs=>?_;by_cases h0:sm n (x s)=0
  ·have kc:=Oa (fun i hi=>hx s i hs hi) h0;have jA:=Oa (fun i hi=>hy s i hs hi) ((hr s hs).symm.trans h0);rw[Bf (g:=fun _=>0) fun b hb=>by rw[kc b hb];grind,Bf (f:=fun b=>(c s b-d b)*y s b) (g:=fun _=>0) fun b hb=>by rw[jA b hb];grind];exact Rat.le_refl
  ·obtain⟨a,ha,nk⟩:=wzg7 (fun i hi=>hx s i hs hi) h0;rw[Bf (g:=fun b=>(c s a-d a)*x s b) fun b hb=>?_,Fm,hr s hs,<-Fm]
   ·refine Hv fun b hb=>?_;have h1:=hp s a b hs ha hb nk;have h2:=hy s b hs hb;exact Rat.mul_le_mul_of_nonneg_right h1 h2
   ·by_cases eD:0<x s b;·have h1:=hp s a b hs ha hb nk;have h2:=hp s b a hs hb ha eD;rw[Rat.le_antisymm h2 h1]
    ·have:x s b=0:=(by have:=hx s b hs hb;grind);rw[this];grind
 grind
structure BF where
 D:Nat->Rat
 P:Nat->Nat
 T:Nat->Nat
def updN(f:Nat->α)(i:Nat)(a:α):Nat->α:=fun j=>if j=i then a else f j
theorem C8(f:Nat->α)(i:Nat)(a:α):updN f i a i=a:=Aj rfl
theorem yzm(f:Nat->α)(a:α)(h:j≠i):updN f i a j=f j:=Ag h
def rlx(w:Nat->Nat->Option Rat)(t a b:Nat)(s:BF):BF:=open Classical in match w a b with
 |none=>s
 |some y=>if a≠b/\s.D a+y<s.D b then⟨updN s.D b (s.D a+y),updN s.P b a,updN s.T b (t+1)⟩ else s
structure BFI(w:Nat->Nat->Option Rat)(n t:Nat)(s:BF):Prop where
 j1:∀v,s.T v<=t
 j2:∀v,0<s.T v->v<n/\s.P v<n/\s.P v≠v/\∃y,w (s.P v) v=some y/\s.D (s.P v)+y<=s.D v/\(s.T v<s.T (s.P v)->s.D (s.P v)+y<s.D v)
 j3:∀u v,0<s.T u->s.T u=s.T v->u=v
 j4:∀a b y k,a<n->b<n->a≠b->w a b=some y->k<t->t<=k+n*n->k%(n*n)=a*n+b->s.T a<=k->s.D b<=s.D a+y
 j5:∀v,0<s.T v->s.T v<=n*n\/s.T v<=s.T (s.P v)+n*n
theorem wzqo(w:Nat->Nat->Option Rat)(n:Nat)(P:Nat->Nat):BFI w n 0 ⟨fun _=>0,P,fun _=>0⟩ := ⟨fun _=>AA _,fun v h=>by simp at h,fun u v h=>by simp at h,fun a b y k _ _ _ _ h=>by omega,fun v h=>by simp at h⟩
theorem qz8v{c d:Nat}(hb:b<n)(hd:d<n)(h:a*n+b=c*n+d):a=c/\b=d:=by
 have hn:0<n:=by omega
 have h1:(a*n+b) / n=a:=by rw[Bc,Lu hn,Jt hb];omega
 have h2:(c*n+d) / n=c:=by rw[Bc,Lu hn,Jt hd];omega
 have:a=c:=by rw[<-h1,h,h2]
 subst this;exact⟨rfl,by omega⟩
theorem wzq9{s:BF}(H:BFI w n t s)(ha:a<n)(hb:b<n)(hp:t%(n*n)=a*n+b):BFI w n (t+1) (rlx w t a b s):=by
 have qb:0<n*n:=Nat.mul_pos (by omega) (by omega);by_cases hy:∃y,w a b=some y/\a≠b/\s.D a+y<s.D b
 ·obtain⟨y,e,bn,hlt⟩:=hy;have er:rlx w t a b s=⟨updN s.D b (s.D a+y),updN s.P b a,updN s.T b (t+1)⟩:=by unfold rlx;rw[e];simp only;rw[Aj ⟨bn,hlt⟩]
  rw[er];refine⟨fun v=>?_,fun v hv=>?_,fun u v hu dJ=>?_,fun c d z k hc hd ks hz hk eE jR ht=>?_,fun v hv=>?_⟩
  ·show updN s.T b (t+1) v<=t+1;unfold updN;have:=H.j1 v;split<;>omega
  ·simp only at hv |-;by_cases vb:v=b
   ·subst vb;rw[C8,C8,yzm _ _ bn,C8,yzm _ _ bn];have:=H.j1 a;exact⟨hb,ha,bn,y,e,Rat.le_refl,fun h=>by omega⟩
   ·rw[yzm _ _ vb]at hv;obtain⟨h1,h2,h3,z,h4,h5,h6⟩:=H.j2 v hv;rw[yzm _ _ vb,yzm s.D _ vb,yzm s.T _ vb];refine⟨h1,h2,h3,z,h4,?_⟩;by_cases pb:s.P v=b
    ·rw[pb]at h5 h6 |-;rw[C8,C8];exact⟨by grind,fun _=>by grind⟩
    ·rw[yzm _ _ pb,yzm _ _ pb];exact⟨h5,h6⟩
  ·simp only at hu dJ;have h1:=H.j1 u;have h2:=H.j1 v;by_cases ub:u=b
   ·by_cases vb:v=b;·rw[ub,vb]
    ·rw[ub,C8,yzm _ _ vb]at dJ;omega
   ·by_cases vb:v=b;·rw[vb,C8,yzm _ _ ub]at dJ;omega
    ·rw[yzm _ _ ub]at hu dJ;rw[yzm _ _ vb]at dJ;exact H.j3 u v hu dJ
  ·simp only at ht |-;by_cases kt:k=t
   ·subst kt;obtain⟨rfl,rfl⟩:=qz8v hb hd (hp.symm.trans jR);rw[e]at hz;cases hz;rw[C8,yzm _ _ bn];exact Rat.le_refl
   ·by_cases cb:c=b;·rw[cb,C8]at ht;omega
    ·rw[yzm _ _ cb]at ht |-;have h5:=H.j4 c d z k hc hd ks hz (by omega) (by omega) jR ht;by_cases db:d=b
     ·subst db;rw[C8];grind
     ·rw[yzm _ _ db];exact h5
  ·simp only at hv |-;by_cases vb:v=b
   ·subst vb;rw[C8,C8,yzm _ _ bn];by_cases h0:t<n*n
    ·exact .inl (by omega)
    ·refine .inr ?_
     have:¬s.T a<=t-n*n:=fun h=>by
      have:=H.j4 a v y (t-n*n) ha hb bn e (by omega) (by omega) (by
       rw[<-hp]
       conv=>rhs;rw[show t=t-n*n+n*n by omega]
       rw[Nat.add_mod_right]) h
      grind
     omega
   ·rw[yzm _ _ vb]at hv;rw[yzm _ _ vb,yzm s.P _ vb];rcases H.j5 v hv with h|h
    ·exact .inl h
    ·refine .inr ?_;by_cases pb:s.P v=b
     ·rw[pb]at h |-;rw[C8];have:=H.j1 b;omega
     ·rw[yzm _ _ pb];exact h
 ·have er:rlx w t a b s=s:=by
   unfold rlx;cases e:w a b with
   |none=>rfl
   |some y=>simp only;rw[Ag fun h=>hy ⟨y,e,h⟩]
  rw[er];refine⟨fun v=>Nat.le_succ_of_le (H.j1 v),H.j2,H.j3,fun c d z k hc hd ks hz hk eE jR ht=>?_,H.j5⟩;by_cases kt:k=t
  ·subst kt;obtain⟨rfl,rfl⟩:=qz8v hb hd (hp.symm.trans jR);refine Rat.not_lt.1 fun h=>hy ⟨z,hz,ks,h⟩
  ·exact H.j4 c d z k hc hd ks hz (by omega) (by omega) jR ht
theorem wzrz{s:BF}(H:BFI w n ((p+1)*(n*n)) s)(hT:∀v,s.T v<=p*(n*n)):∀a b y,a<n->b<n->a≠b->w a b=some y->s.D b<=s.D a+y:=fun a b y ha hb bn hy=>by
 have h1:a*n+b<n*n:=by
  have:a*n+n<=n*n:=by rw[<-BR];exact Bd _ (by omega)
  omega
 have h2:=hT a;have h3:(p+1)*(n*n)=p*(n*n)+n*n:=BR ..;exact H.j4 a b y (p*(n*n)+(a*n+b)) ha hb bn hy (by omega) (by omega) (by rw[Bc p,Ou,C9 h1]) (by omega)
def bk(P:Nat->Nat):Nat->Nat->Nat
 |0,v=>v
 |k+1,v=>bk P k (P v)
theorem Gb(P:Nat->Nat):∀(j k v:Nat),bk P (j+k) v=bk P k (bk P j v)
 |0,k,v=>by rw[Bn];rfl
 |j+1,k,v=>by rw[show j+1+k=(j+k)+1 by omega];show bk P (j+k) (P v)=bk P k (bk P j (P v));exact Gb P j k (P v)
theorem Jl(P:Nat->Nat)(k v:Nat):bk P (k+1) v=P (bk P k v):=Gb P k 1 v
theorem wzdu{w:Nat->Nat->Option Rat}{n t:Nat}{s:BF}(H:BFI w n t s){v:Nat}(hv:n*(n*n)<s.T v):∀k,k<=n->(n-k)*(n*n)<s.T (bk s.P k v)
 |0,_=>hv
 |k+1,hk=>by
  have ih:=wzdu H hv k (by omega);rw[Jl];have e:(n-k)*(n*n)=(n-(k+1))*(n*n)+n*n:=by rw[<-BR];congr 1;omega
  rw[e]at ih;generalize (n-(k+1))*(n*n)=z at *;rcases H.j5 (bk s.P k v) (by omega) with h|h<;>omega
theorem wzd2{f:Nat->Nat}(h:∀k,k<=n->f k<n):∃i j,i<j/\j<=n/\f i=f j:=by
 induction n generalizing f with
 |zero=>have:=h 0 (by omega);omega
 |succ n ih =>
  by_cases hx:∃k,k<=n/\f k=f (n+1)
  ·obtain⟨k,hk,e⟩:=hx;exact⟨k,n+1,by omega,by omega,e⟩
  ·obtain⟨i,j,h1,h2,h3⟩:=ih (f:=fun k=>if f k=n then f (n+1) else f k) fun k hk=>by
    have h1:=h k (by omega);have h2:=h (n+1) (by omega);have h3:f k≠f (n+1):=fun e=>hx ⟨k,hk,e⟩;show(if f k=n then f (n+1) else f k)<n;split<;>omega
   refine⟨i,j,h1,by omega,?_⟩;have h4:f i≠f (n+1):=fun e=>hx ⟨i,by omega,e⟩;have h5:f j≠f (n+1):=fun e=>hx ⟨j,by omega,e⟩;have h3:(if f i=n then f (n+1) else f i)=(if f j=n then f (n+1) else f j):=h3;split at h3<;>split at h3<;>omega
theorem wzjt{s:BF}(H:BFI w n t s)(hv:n*(n*n)<s.T v):∃q,0<q/\q<=n/\bk s.P q (bk s.P n v)=bk s.P n v/\∀k,0<s.T (bk s.P k (bk s.P n v)):=by
 have aM:∀k,k<=n->0<s.T (bk s.P k v):=fun k hk=>by have:=wzdu H hv k hk;omega
 obtain⟨i,j,iD,hj,e⟩:=wzd2 (f:=fun k=>bk s.P k v) fun k hk=>(H.j2 _ (aM k hk)).1;have e:bk s.P i v=bk s.P j v:=e;have per:∀m,bk s.P (i+m) v=bk s.P (j+m) v:=fun m=>by rw[Gb,Gb,e]
 have low:∀m,∃m',m'<=n/\bk s.P m v=bk s.P m' v:=by
  intro m;induction m using Nat.strongRecOn with
  |ind m ih =>
   by_cases hm:m<=n
   ·exact⟨m,hm,rfl⟩
   ·obtain⟨m',h1,h2⟩:=ih (m-(j-i)) (by omega);refine⟨m',h1,?_⟩;rw[<-h2,show m=j+(m-j) by omega,<-per,show i+(m-j)=j+(m-j)-(j-i) by omega]
 refine⟨j-i,by omega,by omega,?_,fun k=>?_⟩
 ·rw[<-Gb,show n+(j-i)=j+(n-i) by omega,<-per,show i+(n-i)=n by omega]
 ·rw[<-Gb];obtain⟨m',h1,h2⟩:=low (n+k);rw[h2];exact aM m' h1
def Cf(w:Nat->Nat->Option Rat)(P:Nat->Nat):Nat->Nat->Rat
 |0,_=>0
 |k+1,v=>(w (P v) v).getD 0+Cf w P k (P v)
theorem qz3f{w:Nat->Nat->Option Rat}{n t:Nat}{s:BF}(H:BFI w n t s):∀(k v:Nat),(∀j,j<k->0<s.T (bk s.P j v))->Cf w s.P k v+s.D (bk s.P k v)<=s.D v/\((∃j,j<k/\s.T (bk s.P j v)<s.T (bk s.P (j+1) v))->Cf w s.P k v+s.D (bk s.P k v)<s.D v)
 |0,v,_=>⟨by show(0:Rat)+s.D v<=s.D v;grind,fun⟨j,h,_⟩=>by omega⟩
 |k+1,v,h=>by
  obtain⟨ih1,ih2⟩:=qz3f H k (s.P v) fun j hj=>h (j+1) (by omega);obtain⟨_,_,_,y,h4,h5,h6⟩:=H.j2 v (h 0 (by omega));show(w (s.P v) v).getD 0+Cf w s.P k (s.P v)+s.D (bk s.P k (s.P v))<=s.D v/\(_->(w (s.P v) v).getD 0+Cf w s.P k (s.P v)+s.D (bk s.P k (s.P v))<s.D v);rw[h4];show y+Cf w s.P k (s.P v)+s.D (bk s.P k (s.P v))<=s.D v/\(_->y+Cf w s.P k (s.P v)+s.D (bk s.P k (s.P v))<s.D v);refine⟨by grind,fun⟨j,hj,hlt⟩=>?_⟩
  match j,hj,hlt with
  |0,_,hlt=>have:=h6 hlt;grind
  |j+1,hj,hlt=>have:=ih2 ⟨j,by omega,hlt⟩;grind
theorem wzs2{s:BF}(H:BFI w n t s){c:Nat}(hq:0<q)(hc:bk s.P q c=c)(hT:∀k,0<s.T (bk s.P k c)):Cf w s.P q c<0:=by
 have pj:∃j,j<q/\s.T (bk s.P j c)<s.T (bk s.P (j+1) c):=by
  refine Decidable.byContradiction fun hn=>?_
  have aC:∀j,j<q->s.T (bk s.P (j+1) c)<s.T (bk s.P j c):=fun j hj=>by
   have h1:¬s.T (bk s.P j c)<s.T (bk s.P (j+1) c):=fun h=>hn ⟨j,hj,h⟩;have h2:s.T (bk s.P (j+1) c)≠s.T (bk s.P j c):=fun e=>by have:=H.j3 _ _ (hT (j+1)) e;rw[Jl]at this;exact(H.j2 _ (hT j)).2.2.1 this
   omega
  have me:∀j,j<=q->s.T (bk s.P j c)+j<=s.T c:=by
   intro j;induction j with
   |zero=>intro _;exact AA _
   |succ j ih=>intro hj;have:=ih (by omega);have:=aC j (by omega);omega
  have:=me q (AA _);rw[hc]at this;omega
 have:=(qz3f H q c fun j _=>hT j).2 pj;rw[hc]at this
 grind
def mvX(x:Nat->Nat->Rat)(s a b:Nat)(m:Rat):Nat->Nat->Rat:=fun r v=>if r=s then(if v=a then x r v-m else if v=b then x r v+m else x r v) else x r v
def cycX(P:Nat->Nat)(g:Nat->Nat->Nat)(m:Rat):Nat->Nat->(Nat->Nat->Rat)->Nat->Nat->Rat
 |0,_,x=>x
 |k+1,v,x=>cycX P g m k (P v) (mvX x (g (P v) v) (P v) v m)
theorem Jm(hi:i<n)(m:Rat):sm n (fun j=>if j=i then m else 0)=m:=by
 induction n with
 |zero=>omega
 |succ n ih =>
  show sm n _+(if n=i then m else 0)=m;by_cases e:n=i
  ·subst e;rw[Aj rfl,Bf (g:=fun _=>0) fun j hj=>Ag (by omega),DN];grind
  ·rw[Ag e,ih (by omega)];grind
theorem wzpe{x:Nat->Nat->Rat}{s:Nat}(ha:a<n)(hb:b<n)(bn:a≠b)(r:Nat):sm n (mvX x s a b m r)=sm n (x r):=by
 by_cases e:r=s
 ·have:sm n (mvX x s a b m r)=sm n (fun v=>x r v+((if v=b then m else 0)-(if v=a then m else 0))):=Bf fun v _=>by
   unfold mvX;rw[Aj e];by_cases va:v=a
   ·rw[Aj va,Aj va,Ag (by omega)];grind
   ·rw[Ag va,Ag va];by_cases vb:v=b
    ·rw[Aj vb,Aj vb];grind
    ·rw[Ag vb,Ag vb];grind
  rw[this,E2,Sy,Jm hb,Jm ha];grind
 ·exact Bf fun v _=>by unfold mvX;rw[Ag e]
theorem wzqm{x:Nat->Nat->Rat}{s:Nat}(hs:s<S)(bn:a≠b)(v:Nat):sm S (fun r=>mvX x s a b m r v)=sm S (fun r=>x r v)+((if v=b then m else 0)-(if v=a then m else 0)):=by
 have:sm S (fun r=>mvX x s a b m r v)=sm S (fun r=>x r v+(if r=s then((if v=b then m else 0)-(if v=a then m else 0)) else 0)):=Bf fun r _=>by
  unfold mvX;by_cases e:r=s
  ·rw[Aj e,Aj e];by_cases va:v=a
   ·rw[Aj va,Aj va,Ag (by omega)];grind
   ·rw[Ag va,Ag va];by_cases vb:v=b
    ·rw[Aj vb,Aj vb];grind
    ·rw[Ag vb,Ag vb];grind
  ·rw[Ag e,Ag e];grind
 rw[this,E2,Jm hs]
theorem wzkg{c x:Nat->Nat->Rat}{s:Nat}(hs:s<S)(ha:a<n)(hb:b<n)(bn:a≠b):Bm S n c (mvX x s a b m)=Bm S n c x+m*(c s b-c s a):=by
 unfold Bm
 have:sm S (fun r=>sm n fun v=>c r v*mvX x s a b m r v)=sm S (fun r=>sm n (fun v=>c r v*x r v)+(if r=s then m*(c s b-c s a) else 0)):=Bf fun r _=>by
  by_cases e:r=s
  ·subst e;rw[Aj rfl]
   have:sm n (fun v=>c r v*mvX x r a b m r v)=sm n (fun v=>c r v*x r v+((if v=b then m*c r b else 0)-(if v=a then m*c r a else 0))):=Bf fun v _=>by
    unfold mvX;rw[Aj rfl];by_cases va:v=a
    ·subst va;rw[Aj rfl,Aj rfl,Ag bn];grind
    ·rw[Ag va,Ag va];by_cases vb:v=b
     ·subst vb;rw[Aj rfl,Aj rfl];grind
     ·rw[Ag vb,Ag vb];grind
   rw[this,E2,Sy,Jm hb,Jm ha];grind
  ·rw[Ag e,Bf (g:=fun v=>c r v*x r v) fun v _=>by unfold mvX;rw[Ag e]];grind
 rw[this,E2,Jm hs]
structure WkB(S n:Nat)(P:Nat->Nat)(g:Nat->Nat->Nat)(q c:Nat):Prop where
 ok:∀k,k<q->bk P k c<n/\bk P (k+1) c<n/\bk P (k+1) c≠bk P k c/\g (bk P (k+1) c) (bk P k c)<S
theorem WkB.tail{g:Nat->Nat->Nat}{c:Nat}(H:WkB S n P g (k+1) c):WkB S n P g k (P c):=⟨fun j hj=>H.ok (j+1) (by omega)⟩
theorem qz4g{S n:Nat}{P:Nat->Nat}{g:Nat->Nat->Nat}{m:Rat}:∀(k c:Nat) (x:Nat->Nat->Rat),WkB S n P g k c->∀r,sm n (cycX P g m k c x r)=sm n (x r)
 |0,_,_,_,_=>rfl
 |k+1,c,x,H,r=>by obtain⟨h1,h2,h3,h4⟩:=H.ok 0 (by omega);show sm n (cycX P g m k (P c) (mvX x (g (P c) c) (P c) c m) r)=_;rw[qz4g k (P c) _ H.tail r];exact wzpe h2 h1 h3 r
theorem qz0h{S n:Nat}{P:Nat->Nat}{g:Nat->Nat->Nat}{m:Rat}{co:Nat->Nat->Rat}{w:Nat->Nat->Option Rat}:∀(k c:Nat) (x:Nat->Nat->Rat),WkB S n P g k c -> (∀j,j<k->w (bk P (j+1) c) (bk P j c)=some (co (g (bk P (j+1) c) (bk P j c)) (bk P j c)-co (g (bk P (j+1) c) (bk P j c)) (bk P (j+1) c)))->Bm S n co (cycX P g m k c x)=Bm S n co x+m*Cf w P k c
 |0,_,x,_,_=>by show Bm S n co x=Bm S n co x+m*0;grind
 |k+1,c,x,H,hw=>by
  obtain⟨h1,h2,h3,h4⟩:=H.ok 0 (by omega);have h0:=hw 0 (by omega);show Bm S n co (cycX P g m k (P c) (mvX x (g (P c) c) (P c) c m))=Bm S n co x+m*((w (P c) c).getD 0+Cf w P k (P c));have h6:Bm S n co (mvX x (g (P c) c) (P c) c m)=Bm S n co x+m*(co (g (P c) c) c-co (g (P c) c) (P c)):=wzkg h4 h2 h1 h3;rw[qz0h k (P c) _ H.tail fun j hj=>hw (j+1) (by omega),h6];have h0:w (P c) c=some (co (g (P c) c) c-co (g (P c) c) (P c)):=h0;have h5:(w (P c) c).getD 0=co (g (P c) c) c-co (g (P c) c) (P c):=by rw[h0];rfl
  rw[h5];show Bm S n co x+m*(co (g (P c) c) c-co (g (P c) c) (P c))+m*Cf w P k (P c)=_
  grind
def onB(P:Nat->Nat)(v:Nat):Nat->Nat->Rat
 |0,_=>0
 |k+1,c=>(if v=c then 1 else 0)+onB P v k (P c)
theorem qz3e(P:Nat->Nat)(v:Nat):∀k c,onB P v (k+1) c=onB P v k c+(if v=bk P k c then 1 else 0)
 |0,c=>by show(if v=c then(1:Rat) else 0)+0=0+(if v=c then 1 else 0);grind
 |k+1,c=>by show(if v=c then(1:Rat) else 0)+onB P v (k+1) (P c)=(if v=c then 1 else 0)+onB P v k (P c)+(if v=bk P k (P c) then 1 else 0);rw[qz3e P v k (P c)];grind
theorem qz0n{S n:Nat}{P:Nat->Nat}{g:Nat->Nat->Nat}{m:Rat}:∀(k c:Nat) (x:Nat->Nat->Rat),WkB S n P g k c->∀v,sm S (fun r=>cycX P g m k c x r v)=sm S (fun r=>x r v)+m*(onB P v k c-onB P v k (P c))
 |0,_,x,_,v=>by show sm S (fun r=>x r v)=sm S (fun r=>x r v)+m*(0-0);grind
 |k+1,c,x,H,v=>by obtain⟨h1,h2,h3,h4⟩:=H.ok 0 (by omega);show sm S (fun r=>cycX P g m k (P c) (mvX x (g (P c) c) (P c) c m) r v)=_;have h6:sm S (fun r=>mvX x (g (P c) c) (P c) c m r v)=sm S (fun r=>x r v)+((if v=c then m else 0)-(if v=P c then m else 0)):=wzqm h4 h3 v;rw[qz0n k (P c) _ H.tail v,h6];show sm S (fun r=>x r v)+((if v=c then m else 0)-(if v=P c then m else 0))+m*(onB P v k (P c)-onB P v k (P (P c)))=sm S (fun r=>x r v)+m*((if v=c then 1 else 0)+onB P v k (P c)-((if v=P c then 1 else 0)+onB P v k (P (P c))));split<;>split<;>grind
theorem wzkc{g:Nat->Nat->Nat}{c:Nat}{x:Nat->Nat->Rat}(H:WkB S n P g q c)(hc:bk P q c=c)(v:Nat):sm S (fun r=>cycX P g m q c x r v)=sm S (fun r=>x r v):=by
 rw[qz0n q c x H v];have e1:=qz3e P v q c;have e2:onB P v (q+1) c=(if v=c then 1 else 0)+onB P v q (P c):=rfl;rw[hc]at e1;have:onB P v q c=onB P v q (P c):=by grind
 rw[this];grind
theorem qz4h{S n:Nat}{P:Nat->Nat}{g:Nat->Nat->Nat}{m:Rat}(hm:0<=m):∀(k c:Nat) (x:Nat->Nat->Rat),WkB S n P g k c->(∀i j,i<j->j<=k->0<i->bk P i c≠bk P j c)->(∀r v,r<S->v<n->0<=x r v) -> (∀j,j<k->m<=x (g (bk P (j+1) c) (bk P j c)) (bk P (j+1) c))->∀r v,r<S->v<n->0<=cycX P g m k c x r v
 |0,_,x,_,_,hx,_,r,v,hr,hv=>hx r v hr hv
 |k+1,c,x,H,hs,hx,hg,r,v,hr,hv=>by
  obtain⟨h1,h2,h3,h4⟩:=H.ok 0 (by omega);have h0:=hg 0 (by omega);refine qz4h hm k (P c) (mvX x (g (P c) c) (P c) c m) H.tail (fun i j hi hj h=>hs (i+1) (j+1) (by omega) (by omega) (by omega)) (fun r v hr hv=>?_) (fun j hj=>?_) r v hr hv
  ·unfold mvX;have:=hx r v hr hv;split
   ·rename_i e;split
    ·rename_i e2;subst e e2;have h0:m<=x (g (P c) c) (P c):=h0
     grind
    ·split<;>grind
   ·exact this
  ·have h5:=hg (j+1) (by omega);have aI:bk P (j+1) (P c)≠P c:=fun e=>hs 1 (j+1+1) (by omega) (by omega) (by omega) e.symm;have h5:m<=x (g (bk P (j+1) (P c)) (bk P j (P c))) (bk P (j+1) (P c)):=h5;unfold mvX;rw[Ag aI];split
   ·split<;>grind
   ·exact h5
theorem Jo{σ:Type}{f:σ->Nat->Option σ}{N:Nat}(I:Nat->σ->Prop)(h:∀k s,k<N->I k s->∃s',f s k=some s'/\I (k+1) s'):∀(m k:Nat) (s:σ),k+m=N->I k s->∃s',forN f m k s=some s'/\I N s'
 |0,k,s,e,hi=>⟨s,rfl,by rw[<-e];exact hi⟩
 |m+1,k,s,e,hi=>by obtain⟨s1,e1,h1⟩:=h k s (by omega) hi;obtain⟨s2,e2,h2⟩:=Jo I h m (k+1) s1 (by omega) h1;exact⟨s2,by unfold forN;rw[e1];exact e2,h2⟩
structure Tsk(A n S:Nat)(co:List (List Af))(x:List (List Int)):Prop where
 n1:1<=n
 n2:n<=9
 s2:S<=1000000
 a1:1<=A
 a2:A<=5242900
 cl:co.length=S
 xl:x.length=S
 cr:∀r,r∈co->r.length=n/\∀e,e∈r->Vd e/\Sz A e
 xr:∀r,r∈x->r.length=n/\∀v,v∈r->0<=v/\v<=1402560
def cFb(co:List (List Af))(s b:Nat):Rat:=rq ((co.getD s []).getD b ⟨false,[],[]⟩)
def xI(x:List (List Int))(s b:Nat):Int:=(x.getD s []).getD b 0
def xF(x:List (List Int))(s b:Nat):Rat:=(xI x s b:Rat)
theorem AQ{l:List α}(h:k<l.length):∃x,l[k]?=some x:=⟨_,AF h⟩
theorem Tsk.co{co:List (List Af)}{x:List (List Int)}(H:Tsk A n S co x){s:Nat}(hs:s<S)(hb:b<n):∃r e,co[s]?=some r/\r[b]?=some e/\rq e=cFb co s b/\Sz A e:=by obtain⟨r,h1⟩:=AQ (l:=co) (k:=s) (by rw[H.cl];exact hs);obtain⟨h2,h3⟩:=H.cr _ (AG h1);obtain⟨e,h4⟩:=AQ (l:=r) (k:=b) (by rw[h2];exact hb);refine⟨r,e,h1,h4,?_,(h3 _ (AG h4)).2⟩;simp[cFb,List.getD,h1,h4]
theorem Tsk.x{co:List (List Af)}{x:List (List Int)}(H:Tsk A n S co x){s:Nat}(hs:s<S)(hb:b<n):∃r,x[s]?=some r/\r.length=n/\r[b]?=some (xI x s b)/\0<=xI x s b/\xI x s b<=1402560:=by
 obtain⟨r,h1⟩:=AQ (l:=x) (k:=s) (by rw[H.xl];exact hs);obtain⟨h2,h3⟩:=H.xr _ (AG h1);obtain⟨v,h4⟩:=AQ (l:=r) (k:=b) (by rw[h2];exact hb);have e:xI x s b=v:=by simp[xI,List.getD,h1,h4]
 rw[e];exact⟨r,h1,h2,h4,h3 _ (AG h4)⟩
structure MvI(A S:Nat)(co:List (List Af))(x:List (List Int))(a b k:Nat)(m:Int×Af):Prop where
 no:m.1<0->m.1 = -1/\∀s,s<k->xI x s a<=0
 yes:0<=m.1->∃s,m.1=(s:Nat)/\s<k/\0<xI x s a/\rq m.2=cFb co s b-cFb co s a/\Sz (2*A+1) m.2/\∀r,r<k->0<xI x r a->rq m.2<=cFb co r b-cFb co r a
theorem wzay{a b:Af}{m:Nat}(ha:Sz n a)(hb:Sz m b)(n1:1<=n)(m1:1<=m)(hn:n<=8589934592)(hm:m<=8589934592):Dm a b=some (rof (rq a-rq b))/\Sz (n+m+1) (rof (rq a-rq b)):=ZW ha hb n1 m1 hn hm
theorem wzt3{co:List (List Af)}{x:List (List Int)}(H:Tsk A n S co x)(ha:a<n)(hb:b<n):∃m,imM co x a b=some m/\MvI A S co x a b S m:=by
 have h1:=H.a1;have h2:=H.a2;unfold imM;rw[H.xl];refine Jo (N:=S) (fun k m=>MvI A S co x a b k m) (fun s m hs I=>?_) S 0 _ (by omega) ⟨fun _=>⟨rfl,fun s h=>by omega⟩,fun h=>by have h:(0:Int)<=-1:=h;omega⟩;obtain⟨r,cb,e1,e2,e3,e4⟩:=H.co hs hb;obtain⟨r',ca,e1',e5,e6,e7⟩:=H.co hs ha;rw[e1]at e1';cases e1';obtain⟨xr,e8,_,e9,e10,e11⟩:=H.x hs ha;obtain⟨d1,d2⟩:=wzay e4 e7 h1 h1 (by omega) (by omega);rw[e3,e6]at d1 d2
 have aM:(m.1<0\/cFb co s b-cFb co s a<rq m.2)->0<xI x s a->MvI A S co x a b (s+1) ((s:Int),rof (cFb co s b-cFb co s a)):=fun hc hx=>by
  refine⟨fun h=>by have h:(s:Int)<0:=h;omega,fun _=>⟨s,rfl,by omega,hx,Cq _,d2.mono (by omega),fun r hr ey=>?_⟩⟩;show rq (rof _)<=_;rw[Cq];by_cases er:r=s
  ·subst er;exact Rat.le_refl
  ·rcases hc with hc|hc;·have:=(I.no hc).2 r (by omega);omega
   ·by_cases h0:0<=m.1
    ·obtain⟨_,_,_,_,_,_,h⟩:=I.yes h0;have:=h r (by omega) ey
     grind
    ·have:=(I.no (by omega)).2 r (by omega);omega
 have be:(0<xI x s a->0<=m.1/\rq m.2<=cFb co s b-cFb co s a)->MvI A S co x a b (s+1) m:=fun hc=>by
  refine⟨fun h=>⟨(I.no h).1,fun r hr=>?_⟩,fun h=>?_⟩
  ·by_cases er:r=s;·subst er;exact Int.not_lt.1 fun hx=>by have:=(hc hx).1;omega
   ·exact(I.no h).2 r (by omega)
  ·obtain⟨t,q1,q2,q3,q4,q5,q6⟩:=I.yes h;refine⟨t,q1,by omega,q3,q4,q5,fun r hr ey=>?_⟩;by_cases er:r=s
   ·subst er;exact(hc ey).2
   ·exact q6 r (by omega) ey
 unfold imS;rw[at_e rfl e1,Ab,at_e rfl e2,Ab,at_e rfl e5,Ab,d1,Ab,at_e rfl e8,Ab,at_e rfl e9,Ab];by_cases hx:0<xI x s a
 ·rw[it_d hx];by_cases hm:m.1<0
  ·rw[it_d hm];exact⟨_,rfl,aM (.inl hm) hx⟩
  ·rw[it_n hm];obtain⟨_,_,_,_,_,aO,_⟩:=I.yes (by omega);rw[IG d2 aO (by omega) (by omega) (by omega) (by omega),Ab,Cq];by_cases hq:cmpQ (cFb co s b-cFb co s a) (rq m.2)<0
   ·rw[it_d hq];exact⟨_,rfl,aM (.inr (FZ.1 hq)) hx⟩
   ·rw[it_n hq];exact⟨_,rfl,be fun _=>⟨by omega,Rat.not_lt.1 fun h=>hq (FZ.2 h)⟩⟩
 ·rw[it_n hx];exact⟨_,rfl,be fun h=>absurd h hx⟩
structure MvT(A n S:Nat)(co:List (List Af))(x:List (List Int))(mv:List (List (Int×Af))):Prop where
 ok:∀a b,a<n->b<n->∃r m,mv[a]?=some r/\r[b]?=some m/\MvI A S co x a b S m
theorem wzpw{co:List (List Af)}{x:List (List Int)}(H:Tsk A n S co x):∃mv,imMv co x n=some mv/\MvT A n S co x mv:=by
 have row:∀a,a<n->∃r,Io co x n a=some r/\r.length=n/\∀b,b<n->∃m,r[b]?=some m/\MvI A S co x a b S m:=fun a ha=>by
  obtain⟨r,e,h1,h2⟩:=Jo (N:=n) (f:=fun l b=>bd (imM co x a b) fun m=>some (l++[m])) (fun k l=>l.length=k/\∀b,b<k->∃m,l[b]?=some m/\MvI A S co x a b S m) (fun k l hk I=>by
   obtain⟨m,e1,e2⟩:=wzt3 H ha hk;refine⟨l++[m],by rw[e1,Ab],by simp[I.1],fun b hb=>?_⟩;by_cases eb:b=k
   ·subst eb;exact⟨m,by rw[Ft (by omega),I.1];simp,e2⟩
   ·obtain⟨m',q1,q2⟩:=I.2 b (by omega);exact⟨m',by rw[E9 (by omega)];exact q1,q2⟩) n 0 [] (by omega) ⟨rfl,fun b h=>by omega⟩
  exact⟨r,e,h1,h2⟩
 obtain⟨mv,e,h1,h2⟩:=Jo (N:=n) (f:=fun l a=>bd (Io co x n a) fun r=>some (l++[r])) (fun k l=>l.length=k/\∀a,a<k->∃r,l[a]?=some r/\∀b,b<n->∃m,r[b]?=some m/\MvI A S co x a b S m) (fun k l hk I=>by
  obtain⟨r,e1,_,e2⟩:=row k hk;refine⟨l++[r],by rw[e1,Ab],by simp[I.1],fun a ha=>?_⟩;by_cases ea:a=k
  ·subst ea;exact⟨r,by rw[Ft (by omega),I.1];simp,e2⟩
  ·obtain⟨r',q1,q2⟩:=I.2 a (by omega);exact⟨r',by rw[E9 (by omega)];exact q1,q2⟩) n 0 [] (by omega) ⟨rfl,fun a h=>by omega⟩
 refine⟨mv,e,⟨fun a b ha hb=>?_⟩⟩;obtain⟨r,q1,q2⟩:=h2 a ha;obtain⟨m,q3,q4⟩:=q2 b hb;exact⟨r,m,q1,q3,q4⟩
def wF(mv:List (List (Int×Af)))(a b:Nat):Option Rat:=match mv[a]? with
 |none=>none
 |some r=>match r[b]? with
  |none=>none
  |some m=>if 0<=m.1 then some (rq m.2) else none
theorem S3{r:List (Int×Af)}{m:Int×Af}(h1:mv[a]?=some r)(h2:r[b]?=some m):wF mv a b=if 0<=m.1 then some (rq m.2) else none:=by unfold wF;rw[h1];simp only;rw[h2]
def dF(d:List Af)(v:Nat):Rat:=rq (d.getD v ⟨false,[],[]⟩)
def fF(f:List Int)(v:Nat):Nat:=(f.getD v 0).toNat
theorem wzty{d:List Af}(hb:b<d.length)(e:Af):dF (d.set b e)=updN (dF d) b (rq e):=by
 funext v;unfold dF updN;by_cases h:v=b
 ·subst h;simp[List.getD,hb]
 ·rw[Ag h];simp[List.getD,DP,Ne.symm h]
theorem wzt8(hb:b<f.length):fF (f.set b (a:Int))=updN (fF f) b a:=by
 funext v;unfold fF updN;by_cases h:v=b
 ·subst h;simp[List.getD,hb]
 ·rw[Ag h];simp[List.getD,DP,Ne.symm h]
structure PsI(w:Nat->Nat->Option Rat)(n B t p:Nat)(s:List Af×List Int×Int):Prop where
 dl:s.1.length=n
 fl:s.2.1.length=n
 dz:∀e,e∈s.1->Sz (1+t*(B+1)) e
 fr:∀v,v<n->∃i:Nat,s.2.1[v]?=some (i:Int)/\i<n
 bf:∃T,BFI w n t ⟨dF s.1,fF s.2.1,T⟩/\((s.2.2 = -1/\∀v,T v<=p*(n*n))\/∃c:Nat,s.2.2=(c:Int)/\c<n/\p*(n*n)<T c)
theorem wzqn{s:BF}(e:w a b=some y)(bn:a≠b)(h:s.D a+y<s.D b):rlx w t a b s=⟨updN s.D b (s.D a+y),updN s.P b a,updN s.T b (t+1)⟩:=by unfold rlx;rw[e];simp only;rw[Aj ⟨bn,h⟩]
theorem wztt{s:BF}(h:∀y,w a b=some y->¬(a≠b/\s.D a+y<s.D b)):rlx w t a b s=s:=by
 unfold rlx;cases e:w a b with
 |none=>rfl
 |some y=>simp only;rw[Ag (h y e)]
theorem wztk{co:List (List Af)}{x:List (List Int)}(H:Tsk A n S co x)(M:MvT A n S co x mv)(ha:a<n)(hb:b<n)(ht:t=p*(n*n)+(a*n+b))(hp:p<=n){s:List Af×List Int×Int}(I:PsI (wF mv) n (2*A+1) t p s) : ∃s',imE mv a s b=some s'/\PsI (wF mv) n (2*A+1) (t+1) p s':=by
 obtain⟨r,m,e1,e2,I1⟩:=M.ok a b ha hb;have hw:=S3 e1 e2;have hA:=H.a2;have hn:=H.n2
 have bt:a*n+b<n*n:=by
  have:a*n+n<=n*n:=by rw[<-BR];exact Bd _ (by omega)
  omega
 have mf:t%(n*n)=a*n+b:=by rw[ht,Bc p,Ou,C9 bt]
 have qc:t<810:=by have h1:n*n<=9*9:=Nat.mul_le_mul hn hn;have h2:p*(n*n)<=9*81:=Nat.mul_le_mul (by omega) h1;omega
 have hB:1+t*(2*A+1+1)<=8589934592:=by have:t*(2*A+1+1)<=809*(2*A+1+1):=Bd _ (by omega);omega
 have pk:1+t*(2*A+1+1)+(2*A+1)+1<=8589934592:=by have:t*(2*A+1+1)<=809*(2*A+1+1):=Bd _ (by omega);omega
 obtain⟨T,H1,H2⟩:=I.bf;have H3:=wzq9 H1 ha hb mf;have qd:(t+1)*(2*A+1+1)=t*(2*A+1+1)+(2*A+1+1):=BR t _;have aO:∀e,e∈s.1->Sz (1+(t+1)*(2*A+1+1)) e:=fun e he=>(I.dz e he).mono (by omega);have keep:(∀y,wF mv a b=some y->¬(a≠b/\dF s.1 a+y<dF s.1 b))->PsI (wF mv) n (2*A+1) (t+1) p s:=fun h=>by rw[wztt h]at H3;exact⟨I.dl,I.fl,aO,I.fr,T,H3,H2⟩
 unfold imE;rw[at_e rfl e1,Ab,at_e rfl e2,Ab];by_cases hc:¬a=b/\0<=m.1
 ·have bn:¬(a:Int)=(b:Int):=by omega
  rw[Aj hc.2]at hw;obtain⟨da,f1⟩:=AQ (l:=s.1) (k:=a) (by rw[I.dl];exact ha);obtain⟨db,f2⟩:=AQ (l:=s.1) (k:=b) (by rw[I.dl];exact hb);have g1:dF s.1 a=rq da:=by simp[dF,List.getD,f1]
  have g2:dF s.1 b=rq db:=by simp[dF,List.getD,f2]
  obtain⟨_,_,_,_,_,mz,_⟩:=I1.yes hc.2;obtain⟨a1,a2⟩:=K8 (I.dz da (AG f1)) mz (by omega) (by omega) hB (by omega);rw[A9 bn,AC hc.2,it_t (c:=bif !false then true else false) rfl,at_e rfl f1,Ab,a1,Ab,at_e rfl f2,Ab];rw[IG a2 (I.dz db (AG f2)) (by omega) (by omega) pk hB,Ab,Cq];by_cases hq:cmpQ (rq da+rq m.2) (rq db)<0
  ·rw[it_d hq];have hlt:dF s.1 a+rq m.2<dF s.1 b:=by rw[g1,g2];exact FZ.1 hq
   rw[wzqn hw hc.1 hlt]at H3;refine⟨_,rfl,⟨by simp[I.dl],by simp[I.fl],fun e he=>?_,fun v hv=>?_,updN T b (t+1),?_,.inr ⟨b,rfl,hb,by rw[C8];omega⟩⟩⟩
   ·rcases List.mem_or_eq_of_mem_set he with he|rfl;·exact aO e he
    ·exact a2.mono (by omega)
   ·by_cases pm:v=b;·exact⟨a,by rw[pm];simp[I.fl,hb],ha⟩
    ·obtain⟨i,h1,h2⟩:=I.fr v hv;exact⟨i,by rw[List.getElem?_set_ne (by omega)];exact h1,h2⟩
   ·show BFI (wF mv) n (t+1) ⟨dF (s.1.set b (rof (rq da+rq m.2))),fF (s.2.1.set b (a:Int)),updN T b (t+1)⟩;rw[wzty (by rw[I.dl];exact hb),wzt8 (by rw[I.fl];exact hb),Cq,<-g1];exact H3
  ·rw[it_n hq];refine⟨s,rfl,keep fun y hy h=>?_⟩;rw[hw]at hy;cases hy;rw[g1,g2]at h;exact hq (FZ.2 h.2)
 ·refine⟨s,?_,keep fun y hy h=>?_⟩
  ·rw[it_f (by
    by_cases h:a=b
    ·subst h;simp
    ·have:¬0<=m.1:=fun k=>hc ⟨h,k⟩;simp[this])]
  ·rw[hw]at hy;by_cases h0:0<=m.1
   ·exact hc ⟨h.1,h0⟩
   ·rw[Ag h0]at hy;cases hy
theorem wzhx{co:List (List Af)}{x:List (List Int)}(H:Tsk A n S co x)(M:MvT A n S co x mv)(hp:p<=n){d:List Af}(I:PsI (wF mv) n (2*A+1) (p*(n*n)) p (d,f,-1)) : ∃s',JU mv n d f=some s'/\PsI (wF mv) n (2*A+1) ((p+1)*(n*n)) p s':=by have:=Jo (N:=n) (f:=fun s a=>forN (imE mv a) n 0 s) (fun a s=>PsI (wF mv) n (2*A+1) (p*(n*n)+a*n) p s) (fun a s ha I=>by have:=Jo (N:=n) (f:=imE mv a) (fun b s=>PsI (wF mv) n (2*A+1) (p*(n*n)+(a*n+b)) p s) (fun b s hb I=>wztk H M ha hb rfl hp I) n 0 s (by omega) I;obtain⟨s',e,h⟩:=this;exact⟨s',e,by rw[show p*(n*n)+(a+1)*n=p*(n*n)+(a*n+n) by rw[BR]];exact h⟩) n 0 (d,f,-1) (by omega) (by rw[Nat.zero_mul,Gg];exact I);obtain⟨s',e,h⟩:=this;exact⟨s',e,by rw[BR p (n*n)];exact h⟩
inductive PsO(w:Nat->Nat->Option Rat)(n:Nat):Option (List Int×Int)->Prop where
 |pot (D:Nat->Rat) (h:∀a b y,a<n->b<n->a≠b->w a b=some y->D b<=D a+y):PsO w n none
 |cyc (f:List Int) (c:Nat) (D:Nat->Rat) (T:Nat->Nat) (fl:f.length=n) (fr:∀v,v<n->∃i:Nat,f[v]?=some (i:Int)/\i<n) (hB:BFI w n ((n+1)*(n*n)) ⟨D,fF f,T⟩) (hc:c<n) (hT:n*(n*n)<T c):PsO w n (some (f,(c:Int)))
theorem qz9s{A n S:Nat}{co:List (List Af)}{x:List (List Int)}{mv:List (List (Int×Af))}(H:Tsk A n S co x)(M:MvT A n S co x mv):∀(k p:Nat) (d:List Af) (f:List Int) (c:Int),p+k=n+1->PsI (wF mv) n (2*A+1) (p*(n*n)) (p-1) (d,f,c)->(k=0->0<=c) -> ∃o,imPs mv n k d f c=some o/\PsO (wF mv) n o
 |0,p,d,f,c,hp,I,hc=>by
  obtain rfl:p=n+1:=by omega
  obtain⟨T,H1,H2⟩:=I.bf;have hc:=hc rfl;rcases H2 with ⟨h,_⟩|⟨v,h1,h2,h3⟩
  ·have h:c = -1:=h;omega
  ·have h1:c=(v:Int):=h1;subst h1;exact⟨_,rfl,.cyc f v _ T I.fl I.fr H1 h2 h3⟩
 |k+1,p,d,f,c,hp,I,_=>by
  obtain⟨T,H1,_⟩:=I.bf;obtain⟨s,e,I2⟩:=wzhx H M (p:=p) (by omega) (d:=d) (f:=f) ⟨I.dl,I.fl,I.dz,I.fr,T,H1,.inl ⟨rfl,H1.j1⟩⟩;unfold imPs;rw[e,Ab];by_cases hs:s.2.2<0
  ·rw[it_d hs];obtain⟨T2,H3,H4⟩:=I2.bf;rcases H4 with ⟨_,h⟩|⟨v,h1,_⟩
   ·exact⟨_,rfl,.pot _ (wzrz H3 h)⟩
   ·omega
  ·rw[it_n hs];exact qz9s H M k (p+1) s.1 s.2.1 s.2.2 (by omega) I2 (fun _=>by omega)
theorem wzby{co:List (List Af)}{x:List (List Int)}(H:Tsk A n S co x)(M:MvT A n S co x mv)(fl:f.length=n)(fr:∀v,v<n->∃i:Nat,f[v]?=some (i:Int)/\i<n) : ∃o,imPs mv n (n+1) (List.replicate n ⟨false,[],[]⟩) f (-1)=some o/\PsO (wF mv) n o:=by
 refine qz9s H M (n+1) 0 _ f (-1) (by omega) ⟨by simp,fl,fun e he=>?_,fr,fun _=>0,?_,.inl ⟨rfl,fun _=>BA _⟩⟩ (fun h=>by omega)
 ·rw[(List.mem_replicate.1 he).2];exact Sz.zero _
 ·rw[Nat.zero_mul]
  have:dF (List.replicate n ⟨false,[],[]⟩)=fun _=>0:=by
   funext v;unfold dF;have:(List.replicate n (⟨false,[],[]⟩:Af)).getD v ⟨false,[],[]⟩=⟨false,[],[]⟩:=by simp[List.getD,Gbk];split<;>rfl
   rw[this,<-Dt,Cq]
  show BFI (wF mv) n 0 ⟨dF (List.replicate n ⟨false,[],[]⟩),fF f,fun _=>0⟩;rw[this];exact wzqo _ _ _
def gS(mv:List (List (Int×Af)))(a b:Nat):Nat:=((mv.getD a []).getD b (0,⟨false,[],[]⟩)).1.toNat
theorem E3{f:List Int}{n:Nat}(fr:∀v,v<n->∃i:Nat,f[v]?=some (i:Int)/\i<n):∀(m v:Nat),v<n->bk (fF f) m v<n
 |0,_,h=>h
 |m+1,v,h=>by
  obtain⟨i,h1,h2⟩:=fr v h;have:fF f v=i:=by simp[fF,List.getD,h1]
  show bk (fF f) m (fF f v)<n;rw[this];exact E3 fr m i h2
theorem wzl8(fr:∀v,v<n->∃i:Nat,f[v]?=some (i:Int)/\i<n)(h:v<n):f[v]?=some (fF f v:Int)/\fF f v<n:=by
 obtain⟨i,h1,h2⟩:=fr v h;have:fF f v=i:=by simp[fF,List.getD,h1]
 rw[this];exact⟨h1,h2⟩
theorem qz8w{f:List Int}{n:Nat}(fr:∀v,v<n->∃i:Nat,f[v]?=some (i:Int)/\i<n):∀(m k v:Nat),v<n->forN (fun(at0:Int) (_:Nat)=>at? f at0) m k (v:Int)=some ((bk (fF f) m v:Nat):Int)
 |0,_,_,_=>rfl
 |m+1,k,v,h=>by obtain⟨h1,h2⟩:=wzl8 fr h;unfold forN;rw[at_e rfl h1,Ab];exact qz8w fr m (k+1) _ h2
theorem wzei{c:Nat}:∀q,0<q->bk P q c=c->∃r,0<r/\r<=q/\bk P r c=c/\∀k,0<k->k<r->bk P k c≠c:=by
 intro q;induction q using Nat.strongRecOn with
 |ind q ih =>
  intro h0 h1;by_cases h:∃k,0<k/\k<q/\bk P k c=c
  ·obtain⟨k,k1,k2,k3⟩:=h;obtain⟨r,r1,r2,r3,r4⟩:=ih k k2 k1 k3;exact⟨r,r1,by omega,r3,r4⟩
  ·exact⟨q,h0,AA _,h1,fun k k1 k2 k3=>h ⟨k,k1,k2,k3⟩⟩
structure Cyc(n:Nat)(mv:List (List (Int×Af)))(f:List Int)(z q:Nat):Prop where
 fr:∀v,v<n->∃i:Nat,f[v]?=some (i:Int)/\i<n
 fl:f.length=n
 zn:z<n
 q0:0<q
 q1:q<=n
 per:bk (fF f) q z=z
 min:∀k,0<k->k<q->bk (fF f) k z≠z
 use:∀k,fF f (bk (fF f) k z)≠bk (fF f) k z/\∃y,wF mv (fF f (bk (fF f) k z)) (bk (fF f) k z)=some y
 neg:Cf (wF mv) (fF f) q z<0
theorem wzs6{c:Nat}{D:Nat->Rat}{T:Nat->Nat}(fl:f.length=n)(fr:∀v,v<n->∃i:Nat,f[v]?=some (i:Int)/\i<n)(hB:BFI (wF mv) n ((n+1)*(n*n)) ⟨D,fF f,T⟩)(hc:c<n)(hT:n*(n*n)<T c):∃q,Cyc n mv f (bk (fF f) n c) q:=by obtain⟨q,h1,h2,h3,h4⟩:=wzjt hB hT;obtain⟨r,r1,r2,r3,r4⟩:=wzei q h1 h3;refine⟨r,fr,fl,E3 fr n c hc,r1,by omega,r3,r4,fun k=>?_,wzs2 hB r1 r3 h4⟩;obtain⟨_,_,q3,y,q4,_⟩:=hB.j2 _ (h4 k);exact⟨q3,y,q4⟩
theorem Cyc.dist(C:Cyc n mv f z q):∀i j,i<j->j<=q->0<i->bk (fF f) i z≠bk (fF f) j z:=fun i j iD hj hi e=>by
 by_cases hq:j=q
 ·rw[hq,C.per]at e;exact C.min i hi (by omega) e
 ·have:bk (fF f) (i+(q-j)) z=z:=by
   rw[Gb,e,<-Gb,show j+(q-j)=q by omega,C.per]
  exact C.min _ (by omega) (by omega) this
theorem Cyc.g{co:List (List Af)}{x:List (List Int)}(H:Tsk A n S co x)(M:MvT A n S co x mv)(C:Cyc n mv f z q)(k:Nat) :
  imG mv f (bk (fF f) k z:Int)=some ((bk (fF f) (k+1) z:Int),(gS mv (bk (fF f) (k+1) z) (bk (fF f) k z):Int))/\gS mv (bk (fF f) (k+1) z) (bk (fF f) k z)<S/\0<xI x (gS mv (bk (fF f) (k+1) z) (bk (fF f) k z)) (bk (fF f) (k+1) z) /\
  wF mv (bk (fF f) (k+1) z) (bk (fF f) k z)=some (cFb co (gS mv (bk (fF f) (k+1) z) (bk (fF f) k z)) (bk (fF f) k z)-cFb co (gS mv (bk (fF f) (k+1) z) (bk (fF f) k z)) (bk (fF f) (k+1) z)):=by
 have hb:=E3 C.fr k z C.zn;obtain⟨h1,h2⟩:=wzl8 C.fr hb;obtain⟨u1,y,u2⟩:=C.use k;rw[Jl];obtain⟨r,m,e1,e2,I⟩:=M.ok _ _ h2 hb;have hw:=S3 e1 e2;have hg:gS mv (fF f (bk (fF f) k z)) (bk (fF f) k z)=m.1.toNat:=by simp[gS,List.getD,e1,e2]
 have h0:0<=m.1:=by
  by_cases h:0<=m.1
  ·exact h
  ·rw[hw,Ag h]at u2;cases u2
 obtain⟨s,s1,s2,s3,s4,_⟩:=I.yes h0;rw[hg,s1,B4];refine⟨?_,s2,s3,by rw[hw,Aj h0,s4]⟩;unfold imG;rw[at_e rfl h1,Ab,at_e rfl e1,Ab,at_e rfl e2,Ab,s1]
def mmF(mv:List (List (Int×Af)))(x:List (List Int))(P:Nat->Nat)(z:Nat):Nat->Int
 |0=>1402560
 |k+1=>min (mmF mv x P z k) (xI x (gS mv (bk P (k+1) z) (bk P k z)) (bk P (k+1) z))
theorem wze7{A n S:Nat}{co:List (List Af)}{x:List (List Int)}{mv:List (List (Int×Af))}{f:List Int}{z q:Nat}(H:Tsk A n S co x)(M:MvT A n S co x mv)(C:Cyc n mv f z q):∀k,1<=mmF mv x (fF f) z k/\mmF mv x (fF f) z k<=1402560/\∀j,j<k->mmF mv x (fF f) z k<=xI x (gS mv (bk (fF f) (j+1) z) (bk (fF f) j z)) (bk (fF f) (j+1) z)
 |0=>⟨by show(1:Int)<=1402560;omega,HE _,fun j h=>by omega⟩
 |k+1=>by
  obtain⟨h1,h2,h3⟩:=wze7 H M C k;obtain⟨_,_,g3,_⟩:=C.g H M k;show 1<=min _ _/\min _ _<=1402560/\∀j,j<k+1->min _ _<=_;refine⟨by omega,by omega,fun j hj=>?_⟩;by_cases e:j=k
  ·subst e;exact Int.min_le_right ..
  ·exact Int.le_trans (Int.min_le_left ..) (h3 j (by omega))
theorem Cyc.cond(C:Cyc n mv f z q)(hk:k<q):(bif !decide (0<k) then true else !decide ((bk (fF f) k z:Int)=(z:Int)))=true:=by
 by_cases h:0<k
 ·have:¬(bk (fF f) k z:Int)=(z:Int):=fun e=>C.min k h hk (by omega);simp[h,this]
 ·simp[h]
theorem Cyc.last(C:Cyc n mv f z q):(bif !decide (0<q) then true else !decide ((bk (fF f) q z:Int)=(z:Int)))=false:=by rw[C.per];simp[C.q0]
theorem wzdy{co:List (List Af)}{x:List (List Int)}(H:Tsk A n S co x)(M:MvT A n S co x mv)(C:Cyc n mv f z q) :
  lp (Ee mv x f (z:Int)) ((z:Int),false,1402560)=some (mmF mv x (fF f) z q):=by
 have hq:=C.q1;have hn:=H.n2;refine NY (fun k=>((bk (fF f) k z:Int),decide (0<k),mmF mv x (fF f) z k)) q (by omega) (fun k hk=>?_) ?_ rfl
 ·obtain⟨g1,g2,g3,_⟩:=C.g H M k;obtain⟨xr,e8,_,e9,_⟩:=H.x g2 (E3 C.fr (k+1) z C.zn);simp only[Ee];rw[it_t (C.cond hk),g1,Ab,at_e rfl e8,Ab,at_e rfl e9,Ab];rfl
 ·simp only[Ee];rw[it_f C.last]
def ptF(mv:List (List (Int×Af)))(P:Nat->Nat)(z:Nat)(m:Int)(x:List (List Int)):Nat->List (List Int)
 |0=>x
 |k+1=>(ptF mv P z m x k).set (gS mv (bk P (k+1) z) (bk P k z)) ((((ptF mv P z m x k).getD (gS mv (bk P (k+1) z) (bk P k z)) []).set (bk P (k+1) z) (xI (ptF mv P z m x k) (gS mv (bk P (k+1) z) (bk P k z)) (bk P (k+1) z)-m)).set (bk P k z) (xI (ptF mv P z m x k) (gS mv (bk P (k+1) z) (bk P k z)) (bk P k z)+m))
theorem qz1d(P:Nat->Nat)(g:Nat->Nat->Nat)(m:Rat):∀(k c:Nat) (x:Nat->Nat->Rat),cycX P g m (k+1) c x=mvX (cycX P g m k c x) (g (bk P (k+1) c) (bk P k c)) (bk P (k+1) c) (bk P k c) m
 |0,_,_=>rfl
 |k+1,c,x=>qz1d P g m k (P c) _
theorem wzsr{x:List (List Int)}{s:Nat}(hs:s<x.length)(hn:(x.getD s []).length=n)(ha:a<n)(hb:b<n)(bn:a≠b)(u v:Int)(r t:Nat):xI (x.set s (((x.getD s []).set a u).set b v)) r t=if r=s then(if t=a then u else if t=b then v else xI x r t) else xI x r t:=by
 unfold xI;by_cases e:r=s
 ·subst e;rw[Aj rfl];have e1:(x.set r (((x.getD r []).set a u).set b v)).getD r []=((x.getD r []).set a u).set b v:=by simp[List.getD,hs]
  rw[e1];generalize x.getD r []=l at *;by_cases ta:t=a
  ·subst ta;rw[Aj rfl];simp[List.getD,DP,Ne.symm bn,hn,ha]
  ·rw[Ag ta];by_cases tb:t=b
   ·subst tb;rw[Aj rfl];simp[List.getD,DP,hn,hb]
   ·rw[Ag tb];simp[List.getD,DP,Ne.symm ta,Ne.symm tb]
 ·rw[Ag e];have:(x.set s (((x.getD s []).set a u).set b v)).getD r []=x.getD r []:=by simp[List.getD,DP,Ne.symm e]
  rw[this]
structure PtI(n S:Nat)(x y:List (List Int))(B:Int):Prop where
 len:y.length=S
 row:∀s,s<S->(y.getD s []).length=n
 bd:∀s b,s<S->b<n->-B<=xI y s b/\xI y s b<=B
theorem S4{A n S:Nat}{co:List (List Af)}{x:List (List Int)}{mv:List (List (Int×Af))}{f:List Int}{z q:Nat}(H:Tsk A n S co x)(M:MvT A n S co x mv)(C:Cyc n mv f z q){m:Int}(m1:1<=m)(m2:m<=1402560):∀k,PtI n S x (ptF mv (fF f) z m x k) (((k:Int)+1)*1402560)/\xF (ptF mv (fF f) z m x k)=cycX (fF f) (gS mv) (m:Rat) k z (xF x)
 |0=>⟨⟨H.xl,fun s hs=>by
   obtain⟨r,h1,h2,_⟩:=H.x hs (show 0<n by have:=H.n1;omega);show(x.getD s []).length=n;simp[List.getD,h1,h2],fun s b hs hb=>by
   obtain⟨_,_,_,_,h1,h2⟩:=H.x hs hb;show -((((0:Nat):Int)+1)*1402560)<=xI x s b/\xI x s b<=(((0:Nat):Int)+1)*1402560;omega⟩,rfl⟩
 |k+1=>by
  obtain⟨⟨h1,h2,h3⟩,h4⟩:=S4 H M C m1 m2 k;obtain⟨_,g2,_,_⟩:=C.g H M k;have ha:=E3 C.fr (k+1) z C.zn;have hb:=E3 C.fr k z C.zn;have bn:bk (fF f) (k+1) z≠bk (fF f) k z:=by rw[Jl];exact(C.use k).1
  have key:=wzsr (x:=ptF mv (fF f) z m x k) (by rw[h1];exact g2) (h2 _ g2) ha hb bn (xI (ptF mv (fF f) z m x k) (gS mv (bk (fF f) (k+1) z) (bk (fF f) k z)) (bk (fF f) (k+1) z)-m) (xI (ptF mv (fF f) z m x k) (gS mv (bk (fF f) (k+1) z) (bk (fF f) k z)) (bk (fF f) k z)+m);refine⟨⟨?_,fun s hs=>?_,fun s b hs bg=>?_⟩,?_⟩
  ·show(List.set _ _ _).length=S;rw[J6];exact h1
  ·show((List.set _ _ _).getD s []).length=n;by_cases e:s=gS mv (bk (fF f) (k+1) z) (bk (fF f) k z)
   ·rw[e];simp only[List.getD,DP,h1,g2,AX,Ll,J6];exact h2 _ g2
   ·simp only[List.getD,DP,Ne.symm e,CG];exact h2 s hs
  ·have b1:=h3 s b hs bg;show -((((k+1:Nat):Int)+1)*1402560)<=xI (List.set _ _ _) s b/\xI (List.set _ _ _) s b<=(((k+1:Nat):Int)+1)*1402560;rw[key];split
   ·rename_i e;subst e;split
    ·rename_i e;subst e;omega
    ·split;·rename_i e;subst e;omega
     ·omega
   ·omega
  ·rw[qz1d,<-h4];funext r t;show((xI (List.set _ _ _) r t:Int):Rat)=mvX _ _ _ _ _ r t;rw[key];unfold mvX xF;split
   ·rename_i e;subst e;split
    ·rename_i e;subst e;rw[Rat.intCast_sub]
    ·split;·rename_i e;subst e;rw[Rat.intCast_add]
     ·rfl
   ·rfl
theorem wzkn{co:List (List Af)}{x:List (List Int)}(H:Tsk A n S co x)(M:MvT A n S co x mv)(C:Cyc n mv f z q){m:Int}(m1:1<=m)(m2:m<=1402560) :
  lp (Ef mv f (z:Int) m) ((z:Int),false,x)=some (ptF mv (fF f) z m x q):=by
 have hq:=C.q1;have hn:=H.n2;refine NY (fun k=>((bk (fF f) k z:Int),decide (0<k),ptF mv (fF f) z m x k)) q (by omega) (fun k hk=>?_) ?_ rfl
 ·obtain⟨g1,g2,g3,_⟩:=C.g H M k;obtain⟨⟨h1,h2,h3⟩,h4⟩:=S4 H M C m1 m2 k;have ha:=E3 C.fr (k+1) z C.zn;have hb:=E3 C.fr k z C.zn;have bn:bk (fF f) (k+1) z≠bk (fF f) k z:=by rw[Jl];exact(C.use k).1
  have r1:=h3 _ _ g2 ha;have r2:=h3 _ _ g2 hb;have aF:=h2 _ g2;obtain⟨row,e1⟩:=AQ (l:=ptF mv (fF f) z m x k) (k:=gS mv (bk (fF f) (k+1) z) (bk (fF f) k z)) (by rw[h1];exact g2);have e2:(ptF mv (fF f) z m x k).getD (gS mv (bk (fF f) (k+1) z) (bk (fF f) k z)) []=row:=by simp[List.getD,e1]
  rw[e2]at aF;have e3:∀b,b<n->row[b]?=some (xI (ptF mv (fF f) z m x k) (gS mv (bk (fF f) (k+1) z) (bk (fF f) k z)) b):=fun b hb=>by obtain⟨v,hv⟩:=AQ (l:=row) (k:=b) (by omega);rw[hv];unfold xI;rw[e2];simp[List.getD,hv]
  simp only[Ef];rw[it_t (C.cond hk),g1,Ab];simp only;rw[at_e rfl e1,Ab,at_e rfl (e3 _ ha),Ab,A0 (by omega),at_e (n:=bk (fF f) k z) (x:=xI (ptF mv (fF f) z m x k) (gS mv (bk (fF f) (k+1) z) (bk (fF f) k z)) (bk (fF f) k z)) rfl (by rw[B4,List.getElem?_set_ne bn];exact e3 _ hb),Ab,A0 (by omega)];rw[B4,B4,B4];show _=some (Sum.inl ((bk (fF f) (k+1) z:Int),true,ptF mv (fF f) z m x (k+1)));rw[show ptF mv (fF f) z m x (k+1)=(ptF mv (fF f) z m x k).set (gS mv (bk (fF f) (k+1) z) (bk (fF f) k z)) ((row.set (bk (fF f) (k+1) z) (xI (ptF mv (fF f) z m x k) (gS mv (bk (fF f) (k+1) z) (bk (fF f) k z)) (bk (fF f) (k+1) z)-m)).set (bk (fF f) k z) (xI (ptF mv (fF f) z m x k) (gS mv (bk (fF f) (k+1) z) (bk (fF f) k z)) (bk (fF f) k z)+m)) by rw[<-e2];rfl]
 ·simp only[Ef];rw[it_f C.last]
theorem wznu{f:Nat->Rat}:∀{n:Nat},(∀i,i<n->0<=f i)->∀i,i<n->f i<=sm n f
 |0,_,i,hi=>by omega
 |n+1,h,i,hi=>by
  have h1:0<=sm n f:=by
   have:=Hv (f:=fun _=>0) (g:=f) (n:=n) fun i hi=>h i (by omega)
   rwa [DN]at this
  have h2:=h n (by omega);show f i<=sm n f+f n;by_cases e:i=n
  ·subst e;grind
  ·have:=wznu (n:=n) (fun i hi=>h i (by omega)) i (by omega)
   grind
def Pot(n S:Nat)(co:List (List Af))(x:List (List Int))(D:Nat->Rat):Prop:=∀s a b,s<S->a<n->b<n->0<xF x s a->cFb co s a-D a<=cFb co s b-D b
structure E4(n S:Nat)(x y:List (List Int)):Prop where
 row:∀s,s<S->sm n (xF x s)=sm n (xF y s)
 col:∀b,b<n->sm S (fun s=>xF x s b)=sm S (fun s=>xF y s b)
theorem E4.refl(x:List (List Int)):E4 n S x x:=⟨fun _ _=>rfl,fun _ _=>rfl⟩
theorem E4.trans{n S:Nat}{x y z:List (List Int)}(h:E4 n S x y)(k:E4 n S y z):E4 n S x z:=⟨fun s hs=>(h.row s hs).trans (k.row s hs),fun b hb=>(h.col b hb).trans (k.col b hb)⟩
def FrV(n:Nat)(f:List Int):Prop:=f.length=n/\∀v,v<n->∃i:Nat,f[v]?=some (i:Int)/\i<n
theorem qz9k{co:List (List Af)}{x:List (List Int)}(H:Tsk A n S co x):∀s b,s<S->b<n->0<=xF x s b:=fun s b hs hb=>by obtain⟨_,_,_,_,h,_⟩:=H.x hs hb;exact Rat.intCast_nonneg.2 h
theorem wzav{co:List (List Af)}{x:List (List Int)}(H:Tsk A n S co x)(hR:∀s,s<S->sm n (xF x s)<=1402560)(F:FrV n f) : (GE co n (x,f)=some (.inr x)/\∃D,Pot n S co x D)\/∃x' f',GE co n (x,f)=some (.inl (x',f'))/\Tsk A n S co x'/\E4 n S x' x/\FrV n f'/\Bm S n (cFb co) (xF x')<Bm S n (cFb co) (xF x):=by
 obtain⟨mv,e1,M⟩:=wzpw H;obtain⟨o,e2,O⟩:=wzby H M F.1 F.2;unfold GE;simp only;rw[e1,Ab,e2,Ab];cases O with
 |pot D h =>
  refine .inl ⟨rfl,D,fun s a b hs ha hb hx=>?_⟩;by_cases bn:a=b
  ·subst bn;exact Rat.le_refl
  ·obtain⟨r,m,q1,q2,I⟩:=M.ok a b ha hb;have hx:0<xI x s a:=Rat.intCast_pos.1 hx;have hm:0<=m.1:=Int.not_lt.1 fun k=>by have:=(I.no k).2 s hs;omega
   obtain⟨_,_,_,_,_,_,h6⟩:=I.yes hm;have h7:=h6 s hs hx;have h8:=h a b (rq m.2) ha hb bn (by rw[S3 q1 q2,Aj hm])
   grind
 |cyc f c D T fl fr hB hc hT =>
  obtain⟨q,C⟩:=wzs6 fl fr hB hc hT;have hz:=C.zn;simp only;rw[qz8w fr n 0 c hc,Ab];generalize bk (fF f) n c=z at *;obtain⟨m1,m2,m3⟩:=wze7 H M C q;rw[wzdy H M C,Ab,wzkn H M C m1 m2,Ab];obtain⟨⟨p1,p2,p3⟩,p4⟩:=S4 H M C m1 m2 q;generalize mmF mv x (fF f) z q=m at *;have W:WkB S n (fF f) (gS mv) q z:=⟨fun k hk=>⟨E3 fr k z hz,E3 fr (k+1) z hz,by rw[Jl];exact(C.use k).1,(C.g H M k).2.1⟩⟩;have dP:(0:Rat)<=(m:Rat):=Rat.intCast_nonneg.2 (by omega);have pos:∀r v,r<S->v<n->0<=xF (ptF mv (fF f) z m x q) r v:=by rw[p4];exact qz4h dP q z (xF x) W C.dist (qz9k H) fun j hj=>Rat.intCast_le_intCast.2 (m3 j hj)
  have rows:∀s,sm n (xF (ptF mv (fF f) z m x q) s)=sm n (xF x s):=fun s=>by rw[p4];exact qz4g q z (xF x) W s
  refine .inr ⟨_,f,rfl,⟨H.n1,H.n2,H.s2,H.a1,H.a2,H.cl,p1,H.cr,fun r hr=>?_⟩,⟨fun s _=>rows s,fun b _=>by rw[p4];exact wzkc W C.per b⟩,⟨fl,fr⟩,?_⟩
  ·obtain⟨s,hs⟩:=Cj.1 hr;have gY:s<S:=by have:=(A8.1 hs).1;omega
   have aF:=p2 s gY;have e3:(ptF mv (fF f) z m x q).getD s []=r:=by simp[List.getD,hs]
   rw[e3]at aF;refine⟨aF,fun v hv=>?_⟩;obtain⟨b,hb⟩:=Cj.1 hv;have nl:b<n:=by have:=(A8.1 hb).1;omega
   have e4:xI (ptF mv (fF f) z m x q) s b=v:=by unfold xI;rw[e3];simp[List.getD,hb]
   have h1:=pos s b gY nl;have h2:=wznu (fun i hi=>pos s i gY hi) b nl;rw[rows s]at h2;have h3:=hR s gY;unfold xF at h1 h2;rw[e4]at h1 h2;refine⟨Rat.intCast_nonneg.1 h1,?_⟩;have h5:(v:Rat)<=((1402560:Int):Rat):=Rat.le_trans h2 h3;exact Rat.intCast_le_intCast.1 h5
  ·rw[p4,qz0h q z (xF x) W fun j _=>(C.g H M j).2.2.2];have pn:=C.neg;have ef:(1:Rat)<=(m:Rat):=Rat.intCast_le_intCast.2 m1
   have:(m:Rat)*Cf (wF mv) (fF f) q z<0:=by
    have h9:(m:Rat)*Cf (wF mv) (fF f) q z<=1*Cf (wF mv) (fF f) q z:=by
     have:=Rat.mul_le_mul_of_nonneg_right ef (show 0<=-Cf (wF mv) (fF f) q z by grind)
     grind
    grind
   grind
def CU(B:Nat):List Nat->Nat
 |[]=>0
 |v :: l=>v+B*CU B l
theorem qz4x{B:Nat}:∀{l:List Nat},(∀v,v∈l->v<B)->CU B l<B ^ l.length
 |[],_=>by show 0<1;omega
 |v :: l,h=>by have h1:=h v (AS ..);have h2:=qz4x (l:=l) fun u hu=>h u (AR _ hu);show v+B*CU B l<B ^ (l.length+1);rw[Dd,Bc _ B];have h3:B*(CU B l+1)<=B*B ^ l.length:=Ov _ h2;rw[Nat.mul_add]at h3;omega
theorem qzzx{B:Nat}:∀{l m:List Nat},l.length=m.length->(∀v,v∈l->v<B)->(∀v,v∈m->v<B)->CU B l=CU B m->l=m
 |[],[],_,_,_,_=>rfl
 |v :: l,u :: m,hl,h,k,e=>by
  have h1:=h v (AS ..);have k1:=k u (AS ..);have e:v+B*CU B l=u+B*CU B m:=e
  have e1:v=u:=by
   have a1:(v+B*CU B l)%B=v:=by rw[Nat.add_mul_mod_self_left,C9 h1]
   have a2:(u+B*CU B m)%B=u:=by rw[Nat.add_mul_mod_self_left,C9 k1]
   rw[<-a1,e,a2]
  subst e1;have e2:CU B l=CU B m:=Nat.eq_of_mul_eq_mul_left (show 0<B by omega) (by omega);rw[qzzx (by simpa using hl) (fun w hw=>h w (AR _ hw)) (fun w hw=>k w (AR _ hw)) e2]
 |[],_ :: _,hl,_,_,_=>by simp at hl
 |_ :: _,[],hl,_,_,_=>by simp at hl
def Ob(x:List (List Int)):Nat:=CU (2 ^ 21) (x.flatMap fun r=>r.map Int.toNat)
theorem Oc{n:Nat}:∀{x:List (List Int)},(∀r,r∈x->r.length=n)->(x.flatMap fun r=>r.map Int.toNat).length=x.length*n
 |[],_=>by simp
 |r :: x,h=>by rw[List.flatMap_cons,Db,J5,h r (AS ..),Oc fun s hs=>h s (AR _ hs),Bk,BR];omega
theorem qz34{n:Nat}:∀{x y:List (List Int)},x.length=y.length->(∀r,r∈x->r.length=n/\∀v,v∈r->0<=v)->(∀r,r∈y->r.length=n/\∀v,v∈r->0<=v)->(x.flatMap fun r=>r.map Int.toNat)=(y.flatMap fun r=>r.map Int.toNat)->x=y
 |[],[],_,_,_,_=>rfl
 |r :: x,s :: y,hl,h,k,e=>by
  obtain⟨h1,h2⟩:=h r (AS ..);obtain⟨k1,k2⟩:=k s (AS ..);rw[List.flatMap_cons,List.flatMap_cons]at e;obtain⟨e1,e2⟩:=List.append_inj e (by simp[h1,k1])
  have e3:r=s:=by
   have back:∀l:List Int,(∀v,v∈l->0<=v)->(l.map Int.toNat).map (fun(m:Nat)=>(m:Int))=l:=fun l hl=>by
    rw[List.map_map]
    conv=>rhs;rw[<-List.map_id l]
    exact H8 fun v hv=>by show((v.toNat:Nat):Int)=v;have:=hl v hv;omega
   rw[<-back r h2,e1,back s k2]
  rw[e3,qz34 (by simpa using hl) (fun q hq=>h q (AR _ hq)) (fun q hq=>k q (AR _ hq)) e2]
 |[],_ :: _,hl,_,_,_=>by simp at hl
 |_ :: _,[],hl,_,_,_=>by simp at hl
theorem S5{co:List (List Af)}{x:List (List Int)}(H:Tsk A n S co x):∀v,v∈(x.flatMap fun r=>r.map Int.toNat)->v<2 ^ 21:=fun v hv=>by obtain⟨r,hr,hv⟩:=List.mem_flatMap.1 hv;obtain⟨u,hu,rfl⟩:=CE.1 hv;have:=(H.xr r hr).2 u hu;omega
theorem qz03(h:a<=b):2 ^ a<=2 ^ b:=Cl (by decide) h
theorem wzrs:2 ^ 3780<=bigF:=by unfold bigF;exact qz03 (a:=3780) (b:=4096) (by decide)
theorem wzj5{co:List (List Af)}{x:List (List Int)}(H:Tsk A n S co x)(hS:S<=20):Ob x<2 ^ 3780:=by have h1:=qz4x (S5 H);rw[Oc fun r hr=>(H.xr r hr).1,H.xl,<-Nat.pow_mul]at h1;refine Gi h1 (qz03 (b:=3780) ?_);have:=H.n2;have h2:S*n<=20*9:=Nat.mul_le_mul hS this;omega
theorem wzeo{co:List (List Af)}{x y:List (List Int)}(H:Tsk A n S co x)(K:Tsk A n S co y)(e:Ob x=Ob y):x=y:=by refine qz34 (n:=n) (by rw[H.xl,K.xl]) (fun r hr=>⟨(H.xr r hr).1,fun v hv=>((H.xr r hr).2 v hv).1⟩) (fun r hr=>⟨(K.xr r hr).1,fun v hv=>((K.xr r hr).2 v hv).1⟩) ?_;refine qzzx ?_ (S5 H) (S5 K) e;rw[Oc fun r hr=>(H.xr r hr).1,Oc fun r hr=>(K.xr r hr).1,H.xl,K.xl]
theorem qzrj:∀(n:Nat) (l:List Nat),l.Nodup->(∀x,x∈l->x<n)->l.length<=n
 |0,l,_,h=>by
  cases l with
  |nil=>exact AA _
  |cons a l=>have:=h a (AS ..);omega
 |n+1,l,hn,h=>by
  have h1:=qzrj n (l.filter fun x=>decide (x≠n)) (hn.filter _) fun x hx=>by obtain⟨a,b⟩:=List.mem_filter.1 hx;have:=h x a;have:=BC b;omega
  have h2:l.length=(l.filter fun x=>decide (x≠n)).length+l.count n:=by have:=List.length_eq_countP_add_countP (fun x=>decide (x≠n)) (l:=l);rw[this,List.countP_eq_length_filter];congr 1;rw[List.count_eq_countP];exact List.countP_congr fun x _=>by simp
  have h3:l.count n<=1:=List.nodup_iff_count.1 hn n;omega
theorem wzrc{body:σ->Option (σ⊕ω)}(I:σ->Prop)(R:ω->Prop)(K:Nat)(code:σ->Nat)(cost:σ->Rat)(h1:∀s,I s->code s<K)(h2:∀s t,I s->I t->code s=code t->cost s=cost t)(step:∀s,I s->(∃o,body s=some (.inr o)/\R o)\/∃t,body s=some (.inl t)/\I t/\cost t<cost s):∀(m:Nat) (vis:List Nat) (s:σ),I s->vis.Nodup->(∀c,c∈vis->c<K)->(∀c t,c∈vis->I t->code t=c->cost s<cost t)->K<=m+vis.length->∃o,lpN body m s=some o/\R o:=by
 intro m;induction m with
 |zero =>
  intro vis s hs hn hK hc hm;have dA:code s∉vis:=fun h=>absurd (hc _ s h hs rfl) Rat.lt_irrefl
  have:=qzrj K (code s :: vis) (List.nodup_cons.2 ⟨dA,hn⟩) fun x hx=>by
   rcases AV.1 hx with rfl|hx
   ·exact h1 s hs
   ·exact hK x hx
  simp at this;omega
 |succ m ih =>
  intro vis s hs hn hK hc hm;have dA:code s∉vis:=fun h=>absurd (hc _ s h hs rfl) Rat.lt_irrefl;unfold lpN;rcases step s hs with ⟨o,e,ho⟩|⟨t,e,ht,hlt⟩
  ·rw[e];exact⟨o,rfl,ho⟩
  ·rw[e];refine ih (code s :: vis) t ht (List.nodup_cons.2 ⟨dA,hn⟩) (fun x hx=>?_) (fun c u hcm hu nm=>?_) (by simp;omega)
   ·rcases AV.1 hx with rfl|hx;·exact h1 s hs
    ·exact hK x hx
   ·rcases AV.1 hcm with rfl|hcm;·rw[h2 u s hu hs nm];exact hlt
    ·have:=hc c u hcm hu nm;grind
theorem wza1{co:List (List Af)}{x:List (List Int)}(H:Tsk A n S co x)(hS:S<=20)(hR:∀s,s<S->sm n (xF x s)<=1402560) : ∃y,F8 co x n=some y/\Tsk A n S co y/\E4 n S y x/\∃D,Pot n S co y D:=by
 unfold F8 lpB;refine wzrc (fun s=>Tsk A n S co s.1/\E4 n S s.1 x/\FrV n s.2) (fun y=>Tsk A n S co y/\E4 n S y x/\∃D,Pot n S co y D) (2 ^ 3780) (fun s=>Ob s.1) (fun s=>Bm S n (cFb co) (xF s.1)) (fun s h=>wzj5 h.1 hS) (fun s t h k e=>by rw[wzeo h.1 k.1 e]) (fun s h=>?_) bigF [] (x,List.replicate n 0) ⟨H,.refl x,by simp,fun v hv=>⟨0,by simp[hv],by omega⟩⟩ .nil (fun c h=>by cases h) (fun c t h=>by cases h) ?_
 ·obtain⟨y,f⟩:=s;obtain⟨h1,h2,h3⟩:=h;rcases wzav h1 (fun s hs=>by rw[h2.row s hs];exact hR s hs) h3 with ⟨e,D,hD⟩ | ⟨y',f',e,k1,k2,k3,k4⟩
  ·exact .inl ⟨y,e,h1,h2,D,hD⟩
  ·exact .inr ⟨(y',f'),e,⟨k1,k2.trans h2,k3⟩,k4⟩
 ·exact AU wzrs (Nat.le_add_right _ _)
def isum:List Int->Int
 |[]=>0
 |v :: l=>v+isum l
theorem KU:∀{l:List Int},(∀v,v∈l->0<=v)->0<=isum l
 |[],_=>HE _
 |v :: l,h=>by have h1:=h v (AS ..);have h2:=KU (l:=l) fun u hu=>h u (AR _ hu);show 0<=v+isum l;omega
theorem S6:∀{l:List Int} {k:Nat} {v u:Int},l[k]?=some v->isum (l.set k u)=isum l-v+u
 |[],_,_,_,h=>by simp at h
 |w :: l,0,v,u,h=>by
  have h:w=v:=by simpa using h
  show u+isum l=w+isum l-v+u;omega
 |w :: l,k+1,v,u,h=>by have:=S6 (l:=l) (k:=k) (v:=v) (u:=u) (by simpa using h);show w+isum (l.set k u)=w+isum l-v+u;omega
theorem S7:∀{l:List Int},(∀v,v∈l->v=0)->isum l=0
 |[],_=>rfl
 |v :: l,h=>by have h1:=h v (AS ..);have h2:=S7 (l:=l) fun u hu=>h u (AR _ hu);show v+isum l=0;omega
theorem KV:∀{l:List Int},(∀v,v∈l->0<=v)->∀v,v∈l->v<=isum l
 |[],_,v,h=>by cases h
 |w :: l,h,v,hv=>by
  have h1:=h w (AS ..);have h2:=KU (l:=l) fun u hu=>h u (AR _ hu);show v<=w+isum l;rcases AV.1 hv with rfl|hv
  ·omega
  ·have:=KV (fun u hu=>h u (AR _ hu)) v hv;omega
structure FlI(n:Nat)(T R:Int)(left0:List Int)(s:Int×Int×List Int×List Int):Prop where
 n0:0<=s.1
 a0:∃k:Nat,s.2.1=(k:Int)/\k<=n/\∀j,j<k->s.2.2.1[j]?=some 0
 ll:s.2.2.1.length=n
 rl:s.2.2.2.length=n
 lp:∀v,v∈s.2.2.1->0<=v
 rp:∀v,v∈s.2.2.2->0<=v
 sl:isum s.2.2.1=s.1+R
 sr:isum s.2.2.2+s.1=T
 co:∀(j:Nat) (u v w:Int),s.2.2.1[j]?=some u->s.2.2.2[j]?=some v->left0[j]?=some w->u+v=w
theorem wzeq{T R:Int}{left0:List Int}(hn:n<=1000000)(hR:0<=R)(hT:T+R<=100000000){s:Int×Int×List Int×List Int}(I:FlI n T R left0 s) : ∃r,lp GF s=some r/\FlI n T R left0 (0,r.1,r.2.1,r.2.2):=by
 refine Cv (fun s=>FlI n T R left0 s) (fun s=>s.1.toNat+(n-s.2.1.toNat)) (fun(r:Int×List Int×List Int)=>FlI n T R left0 (0,r.1,r.2.1,r.2.2)) (fun s I=>?_) I ?_;rotate_left
 ·obtain⟨k,h1,h2,_⟩:=I.a0;have h3:=I.n0;have h4:=I.sr;have h5:=KU I.rp;omega
 obtain⟨m,at0,left,row⟩:=s;obtain⟨k,h1,h2,h3⟩:=I.a0;have h0:=I.n0;have eU:=I.sl;have fI:=I.sr;simp only at h1 h3 h0 eU fI;subst h1;simp only[GF];by_cases hm:0<m
 ·left;rw[it_d hm]
  have cK:k<n:=by
   refine Nat.lt_of_le_of_ne h2 fun e=>?_;have:isum left=0:=S7 fun v hv=>by obtain⟨j,hj⟩:=Cj.1 hv;have hl:=I.ll;simp only at hl;have:=h3 j (by have:=(A8.1 hj).1;omega);rw[hj]at this;cases this;rfl
   omega
  obtain⟨la,e1⟩:=AQ (l:=left) (k:=k) (by have:=I.ll;simp only at this;omega);obtain⟨xa,e2⟩:=AQ (l:=row) (k:=k) (by have:=I.rl;simp only at this;omega);have lE:=I.lp la (AG e1);have iI:=I.rp xa (AG e2);have po:=KV I.rp xa (AG e2);have iG:=KV I.lp la (AG e1);simp only at po iG;have pp:=KU I.rp;simp only at pp;rw[at_e rfl e1,Ab];by_cases hz:la=0
  ·rw[it_d hz,A0 (by omega)];refine⟨_,rfl,⟨h0,⟨k+1,by simp only;omega,by omega,fun j hj=>?_⟩,I.ll,I.rl,I.lp,I.rp,eU,fI,I.co⟩,by simp only;omega⟩;by_cases jS:j=k
   ·subst jS;rw[<-hz];exact e1
   ·exact h3 j (by omega)
  ·rw[it_n hz,at_e rfl e2,Ab,ck_t (by simp[As];omega),B4];refine⟨_,rfl,⟨by simp only;omega,⟨k,rfl,by omega,fun j hj=>?_⟩,by simp;exact I.ll,by simp;exact I.rl,fun v hv=>?_,fun v hv=>?_,?_,?_,fun j u v w hu hv hw=>?_⟩,by simp only;omega⟩
   ·simp only;rw[List.getElem?_set_ne (by omega)];exact h3 j hj
   ·rcases List.mem_or_eq_of_mem_set hv with hv|rfl;·exact I.lp v hv
    ·omega
   ·rcases List.mem_or_eq_of_mem_set hv with hv|rfl;·exact I.rp v hv
    ·omega
   ·simp only;rw[S6 e1];omega
   ·simp only;rw[S6 e2];omega
   ·simp only at hu hv;by_cases jS:j=k
    ·subst jS;have hc:=I.co j la xa w e1 e2 hw;rw[List.getElem?_set_self (by have:=I.ll;simp only at this;omega)]at hu;rw[List.getElem?_set_self (by have:=I.rl;simp only at this;omega)]at hv;cases hu;cases hv;omega
    ·rw[List.getElem?_set_ne (by omega)]at hu hv;exact I.co j u v w hu hv hw
 ·right;rw[it_n hm];obtain rfl:m=0:=by omega
  exact⟨_,rfl,I⟩
theorem qz3u{rate:Int->Int->Option Af}{rt:Int->Int->Af}{st:Int}:∀{cl:List AB},(∀c,c∈cl->rate c.Span st=some (rt c.Span st))->GG rate st cl=some (cl.map fun c=>rt c.Span st)
 |[],_=>rfl
 |c :: cl,h=>by unfold GG;rw[h c (AS ..),Ab,qz3u fun d hd=>h d (AR _ hd),Ab];rfl
def icol(x:List (List Int))(j:Nat):Int:=isum (x.map fun r=>r.getD j 0)
theorem wzgs{l:List Int}(h:∀v,v∈l->0<=v)(e:isum l=0):∀v,v∈l->v=0:=fun v hv=>by have h1:=KV h v hv;have h2:=h v hv;omega
theorem wzk4(n:Nat):isum (List.replicate n 0)=0:=S7 fun v hv=>(List.mem_replicate.1 hv).2
theorem wzft{rate:Int->Int->Option Af}{rt:Int->Int->Af}{cl:List AB}(hn:cl.length<=1000000):∀(t:List AM),(∀h c,h∈t->c∈cl->rate c.Span h.Stage=some (rt c.Span h.Stage))->(∀h,h∈t->0<=h.Ticks)->isum (t.map (·.Ticks))<=100000000 -> ∀(at0:Int) (left:List Int) (co:List (List Af)) (x:List (List Int)),(∃k:Nat,at0=(k:Int)/\k<=cl.length/\∀j,j<k->left[j]?=some 0)->left.length=cl.length->(∀v,v∈left->0<=v)->isum left=isum (t.map (·.Ticks)) -> ∃y,bgL rate cl t at0 left co x=some (co++t.map (fun h=>cl.map fun c=>rt c.Span h.Stage),x++y)/\y.length=t.length/\(∀r,r∈y->r.length=cl.length/\∀v,v∈r->0<=v)/\(∀(i:Nat) (h:AM) (r:List Int),t[i]?=some h->y[i]?=some r->isum r=h.Ticks)/\∀j w,left[j]?=some w->icol y j=w
 |[],_,_,_,at0,left,co,x,_,hl,hp,hs=>⟨[],by simp[bgL],rfl,(fun r h=>by cases h),(fun i h r e=>by simp at e),fun j w hw=>by have:=wzgs hp hs w (AG hw);rw[this];rfl⟩
 |h :: t,hr,ht,hT,at0,left,co,x,hk,hl,hp,hs=>by
  have h1:=ht h (AS ..);have h2:0<=isum (t.map (·.Ticks)):=KU fun v hv=>by obtain⟨u,hu,rfl⟩:=CE.1 hv;exact ht u (AR _ hu)
  have hs:isum left=h.Ticks+isum (t.map (·.Ticks)):=hs;have hT:h.Ticks+isum (t.map (·.Ticks))<=100000000:=hT
  obtain⟨r,e1,F⟩:=wzeq (n:=cl.length) (T:=h.Ticks) (R:=isum (t.map (·.Ticks))) (left0:=left) hn h2 hT (s:=(h.Ticks,at0,left,List.replicate cl.length 0)) ⟨h1,hk,hl,by simp,hp,(fun v hv=>by rw[(List.mem_replicate.1 hv).2];omega),hs,by simp only;rw[wzk4];omega,fun j u v w hu hv hw=>by
   simp only at hu hv;rw[hu]at hw;cases hw;rw[Gbk]at hv;split at hv
   ·cases hv;omega
   ·cases hv⟩
  obtain⟨y,e2,y1,y2,y3,y4⟩:=wzft hn t (fun h' c hh hc=>hr h' c (AR _ hh) hc) (fun h' hh=>ht h' (AR _ hh)) (by omega) r.1 r.2.1 (co++[cl.map fun c=>rt c.Span h.Stage]) (x++[r.2.2]) F.a0 F.ll F.lp (by have:=F.sl;simp only at this;omega);refine⟨r.2.2 :: y,?_,by simp[y1],fun q hq=>?_,fun i h' q hh hq=>?_,fun j w hw=>?_⟩
  ·unfold bgL;rw[qz3u fun c hc=>hr h c (AS ..) hc,Ab,e1,Ab,e2];simp
  ·rcases AV.1 hq with rfl|hq;·exact⟨F.rl,F.rp⟩
   ·exact y2 q hq
  ·cases i with
   |zero =>simp at hh hq;subst hh hq;have:=F.sr;simp only at this;omega
   |succ i=>exact y3 i h' q (by simpa using hh) (by simpa using hq)
  ·have hj:=(A8.1 hw).1;obtain⟨u,hu⟩:=AQ (l:=r.2.1) (k:=j) (by have:=F.ll;simp only at this;omega);obtain⟨v,hv⟩:=AQ (l:=r.2.2) (k:=j) (by have:=F.rl;simp only at this;omega);have c1:=F.co j u v w hu hv hw;have c2:=y4 j u hu;have c3:r.2.2.getD j 0=v:=by simp[List.getD,hv]
   show r.2.2.getD j 0+icol y j=w;rw[c3,c2];omega
theorem qz8k{N:Nat}{f:Int->Option Bool}{p:Nat->Bool}(hN:N<=1000000000)(hf:∀k,k<N->f (k:Int)=some (p k))(mono:∀j k,j<=k->k<N->p j=true->p k=true) : ∃n,n<=N/\(∀k,k<n->p k=false)/\(∀k,n<=k->k<N->p k=true)/\J0 (N:Int) f=some (n:Int):=by
 unfold J0
 obtain⟨o,e,n,rfl,h1,h2,h3⟩:=Cv (s:=((0:Int),(N:Int))) (body:=Kc f) (fun t=>∃i j:Nat,t=((i:Int),(j:Int))/\i<=j/\j<=N/\(∀k,k<i->p k=false)/\(∀k,j<=k->k<N->p k=true)) (fun t=>(t.2-t.1).toNat) (fun o=>∃n:Nat,o=(n:Int)/\n<=N/\(∀k,k<n->p k=false)/\(∀k,n<=k->k<N->p k=true)) (by
  rintro t ⟨i,j,rfl,iD,hj,lo,hi⟩;simp only[Kc];by_cases hlt:i<j
  ·left;have ib:Int.fdiv (((i:Int)+(j:Int))%18446744073709551616) 2=(((i+j) / 2:Nat):Int):=by rw[show(((i:Int)+(j:Int))%18446744073709551616)=((i+j:Nat):Int) by omega,Lh _ (by omega)];omega
   have hm:(i+j) / 2<N:=by omega
   rw[it_d (by omega),A0 (by omega),ib,A0 (by omega),hf _ hm,Ab];cases hp:p ((i+j) / 2)
   ·rw[E5,Em,A0 (by omega)];refine⟨_,rfl,⟨(i+j) / 2+1,j,by simp,by omega,hj,fun k h2=>?_,hi⟩,by dsimp only;omega⟩;cases hk:p k
    ·rfl
    ·have:=mono k ((i+j) / 2) (by omega) hm hk;rw[hp]at this;cases this
   ·rw[E6,Dp];exact⟨_,rfl,⟨i,(i+j) / 2,rfl,by omega,by omega,lo,fun k h2 h4=>mono _ k h2 h4 hp⟩,by dsimp only;omega⟩
  ·right;rw[it_n (by omega)];obtain rfl:i=j:=by omega
   exact⟨_,rfl,i,rfl,hj,lo,hi⟩) ⟨0,N,rfl,by omega,AA _,fun k h=>by omega,fun k h h2=>by omega⟩ (by show((N:Int)-0).toNat<_;omega)
 exact⟨n,h1,h2,h3,by rw[e];rfl⟩
structure SpR(l:List An):Prop where
 len:l.length<=400
 sp:∀s,s∈l->0<=s.From/\s.From<s.To/\s.To<=1402560
 asc:∀k s t,l[k]?=some s->l[k+1]?=some t->s.To<=t.From
theorem SpR.far{l:List An}(H:SpR l):∀(d i:Nat) (s t:An),l[i]?=some s->l[i+(d+1)]?=some t->s.To<=t.From
 |0,i,s,t,h1,h2=>H.asc i s t h1 h2
 |d+1,i,s,t,h1,h2=>by obtain⟨u,h3⟩:=AQ (l:=l) (k:=i+(d+1)) (by have:=(A8.1 h2).1;omega);have a:=H.far d i s u h1 h3;have b:=H.asc (i+(d+1)) u t h3 h2;have c:=H.sp u (AG h3);omega
def ovl1(x:Al)(s:An):Int:=min x.To s.To-max x.From s.From
def clsL(x:Al):Int->List An->List AB
 |_,[]=>[]
 |k,s :: l=>if 0<ovl1 x s then⟨k,ovl1 x s⟩ :: clsL x (k+1) l else clsL x (k+1) l
theorem S8{x:Al}:∀(l:List An) (k:Int),(∀s,s∈l->ovl1 x s<=0)->clsL x k l=[]
 |[],_,_=>rfl
 |s :: l,k,h=>by have:=h s (AS ..);unfold clsL;rw[Ag (by omega)];exact S8 l _ fun t ht=>h t (AR _ ht)
theorem KW{x:Al}:∀(a b:List An) (k:Int),clsL x k (a++b)=clsL x k a++clsL x (k+a.length) b
 |[],b,k=>by simp[clsL]
 |s :: a,b,k=>by
  show(if 0<ovl1 x s then _ else _)=(if 0<ovl1 x s then _ else _)++_;have e:k+((s :: a).length:Int)=k+1+(a.length:Int):=by simp;omega
  rw[e];split
  ·rw[Tf,<-KW a b (k+1)];rfl
  ·rw[<-KW a b (k+1)];rfl
def clsT(l:List AB):Int:=isum (l.map (·.Ticks))
theorem S9(a b:List AB):clsT (a++b)=clsT a+clsT b:=by
 unfold clsT;rw[List.map_append];generalize a.map (·.Ticks)=u;induction u with
 |nil=>rw[Gcd,show isum []=0 from rfl];omega
 |cons v u ih=>show v+isum (u++_)=v+isum u+isum _;omega
def clsA(x:Al)(l:List An):List AB:=clsL x 0 l++(if 0<x.To-x.From-clsT (clsL x 0 l) then [⟨-1,x.To-x.From-clsT (clsL x 0 l)⟩] else [])
theorem wzaa{x:Al}(H:SpR l)(hx:0<=x.From/\x.From<x.To/\x.To<=1402560)(hT:∀k,k<=l.length->0<=clsT (clsL x 0 (l.take k))/\clsT (clsL x 0 (l.take k))<=x.To-x.From):Ip x l=some (clsA x l):=by
 have hl:=H.len
 obtain⟨n,n1,n2,n3,n4⟩:=qz8k (N:=l.length) (f:=fun a0=>Mk a0 l x) (p:=fun k=>decide (x.From<(l.getD k default).To)) (by omega) (fun k hk=>by
  obtain⟨s,hs⟩:=AQ hk;simp only[Mk];rw[at_e rfl hs,Ab];simp[List.getD,hs]) (fun j k jS hk hj=>by
  obtain⟨s,hs⟩:=AQ (show j<l.length by omega);obtain⟨t,ht⟩:=AQ hk;have e1:l.getD j default=s:=by simp[List.getD,hs]
  have e2:l.getD k default=t:=by simp[List.getD,ht]
  rw[e1]at hj;rw[e2];have hj:=BC hj;by_cases e:j=k
  ·subst e;rw[hs]at ht;cases ht;exact AC hj
  ·have:=H.far (k-j-1) j s t hs (by rw[show j+(k-j-1+1)=k by omega];exact ht);have:=H.sp t (AG ht);exact AC (by omega))
 have before:clsL x 0 (l.take n)=[]:=S8 _ _ fun s hs=>by
  obtain⟨k,hk⟩:=Cj.1 hs;have cK:k<n:=by have:=(A8.1 hk).1;simp at this;omega
  rw[List.getElem?_take_of_lt cK]at hk;have h1:=n2 k cK;have e1:l.getD k default=s:=by simp[List.getD,hk]
  simp only[e1,Gdx]at h1;unfold ovl1;omega
 unfold Ip;rw[A0 (by omega),n4,Ab]
 have fin:∀r:Int×List AB,r=(x.To-x.From-clsT (clsL x 0 l),clsL x 0 l)->r.2.length<=400->(match r with | (rest6,l3)=>ite' (decide (0<rest6)) (ck (decide (List.length (l3++[(AB.mk (-1) rest6)])*16<=140737488355328))<|some (l3++[(AB.mk (-1) rest6)])) (some l3))=some (clsA x l):=fun r hr aE=>by
  subst hr;unfold clsA;by_cases h:0<x.To-x.From-clsT (clsL x 0 l)
  ·rw[Aj h];simp only;rw[it_d h,ck_d (by simp at aE |-;omega)]
  ·rw[Ag h];simp only;rw[it_n h,List.append_nil]
 have clen:∀(m:List An) (k:Int),(clsL x k m).length<=m.length:=fun m=>by
  induction m with
  |nil=>intro k;exact AA _
  |cons s m ih =>
   intro k;have:=ih (k+1);unfold clsL;split
   ·simp;omega
   ·simp;omega
 obtain⟨r,e,hr⟩:=Cv (s:=(x.To-x.From,(n:Int),([]:List AB))) (body:=PY l x) (fun t=>∃k:Nat,n<=k/\k<=l.length/\t=(x.To-x.From-clsT (clsL x 0 (l.take k)),(k:Int),clsL x 0 (l.take k))) (fun t=>(l.length-t.2.1).toNat) (fun r=>r=(x.To-x.From-clsT (clsL x 0 l),clsL x 0 l)) (by
  rintro t ⟨k,k1,k2,rfl⟩;have hb:=hT k k2;simp only[PY];by_cases hk:k<l.length
  ·obtain⟨s,hs⟩:=AQ hk;have dq:=H.sp s (AG hs);have h3:=n3 k k1 hk;have e1:l.getD k default=s:=by simp[List.getD,hs]
   simp only[e1,CA]at h3;rw[AC (show(k:Int)<(l.length:Int) by omega),Bv,at_e rfl hs,Ab,Cg];by_cases hF:s.From<x.To
   ·left;rw[it_d hF];have pq:0<ovl1 x s:=by unfold ovl1;omega
    have gv:=qz72 hs;have cq:clsL x 0 (l.take (k+1))=clsL x 0 (l.take k)++[⟨(k:Int),ovl1 x s⟩]:=(by rw[gv,KW];congr 1;show(if 0<ovl1 x s then _ else _)=_;rw[Aj pq,Gf,Nat.min_eq_left (by omega)];simp[clsL]);have li:clsT (clsL x 0 (l.take (k+1)))=clsT (clsL x 0 (l.take k))+ovl1 x s:=(by rw[cq,S9];show _+(ovl1 x s+0)=_;omega);have cN:=clen (l.take k) 0;rw[Gf]at cN;have cD:=hT (k+1) (by omega);rw[li]at cD;have eo:min x.To s.To-max x.From s.From=ovl1 x s:=rfl;rw[Ab,Ab,eo,A0 (by unfold ovl1;omega),ck_d (by simp;omega),A0 (by omega),A0 (by omega)];exact⟨_,rfl,⟨k+1,by omega,by omega,by rw[cq,<-cq,li,cq];congr 1;omega⟩,by dsimp only;omega⟩
   ·right;rw[it_n hF]
    have bF:clsL x 0 l=clsL x 0 (l.take k):=by
     conv=>lhs;rw[<-Tj k l]
     rw[KW,S8 (l.drop k),List.append_nil];intro t ht;obtain⟨j,hj⟩:=Cj.1 ht;rw[Ge]at hj;have mo:=H.sp t (AG hj)
     have:s.From<=t.From:=by
      cases j with
      |zero=>rw[Gg,hs]at hj;cases hj;exact HE _
      |succ j=>have:=H.far j k s t hs hj;omega
     unfold ovl1;omega
    exact⟨_,rfl,by rw[bF]⟩
  ·right;rw[A9 (show ¬(k:Int)<(l.length:Int) by omega),Be,Ab,BO,it_f rfl,Tb (by omega)];exact⟨_,rfl,rfl⟩) ⟨n,Nat.le_refl _,n1,by rw[before];show _=(x.To-x.From-0,_,_);congr 1;omega⟩ (by dsimp only;omega)
 rw[e,Ab];exact fin r hr (by rw[hr];have:=clen l 0;simp only;omega)
def covE(x:Al)(l:List An):Nat->Int
 |0=>x.From
 |k+1=>max x.From (min x.To (l.getD k default).To)
theorem wzeg{x:Al}{l:List An}(H:SpR l)(hx:x.From<x.To):∀k,k<=l.length->0<=clsT (clsL x 0 (l.take k))/\clsT (clsL x 0 (l.take k))<=covE x l k-x.From
 |0,_=>by show 0<=(0:Int)/\(0:Int)<=x.From-x.From;omega
 |k+1,hk=>by
  obtain⟨h1,h2⟩:=wzeg H hx k (by omega);obtain⟨s,hs⟩:=AQ (l:=l) (k:=k) (by omega);have dq:=H.sp s (AG hs);have e1:l.getD k default=s:=by simp[List.getD,hs]
  have cq:clsT (clsL x 0 (l.take (k+1)))=clsT (clsL x 0 (l.take k))+(if 0<ovl1 x s then ovl1 x s else 0):=by
   rw[qz72 hs,KW,S9];congr 1;show clsT (if 0<ovl1 x s then _ else _)=_;split
   ·show ovl1 x s+0=_;omega
   ·rfl
  have hE:covE x l (k+1)=max x.From (min x.To s.To):=by show max x.From (min x.To (l.getD k default).To)=_;rw[e1]
  have np:covE x l k<=max x.From s.From:=by
   cases k with
   |zero=>show x.From<=_;omega
   |succ j =>
    obtain⟨t,ht⟩:=AQ (l:=l) (k:=j) (by omega);have e2:l.getD j default=t:=by simp[List.getD,ht]
    have:=H.asc j t s ht hs;show max x.From (min x.To (l.getD j default).To)<=_;rw[e2];omega
  rw[cq,hE];unfold ovl1;split
  ·omega
  ·refine⟨by omega,?_⟩
   have:covE x l k<=max x.From (min x.To s.To):=by
    cases k with
    |zero=>show x.From<=_;omega
    |succ j =>
     obtain⟨t,ht⟩:=AQ (l:=l) (k:=j) (by omega);have e2:l.getD j default=t:=by simp[List.getD,ht]
     have:=H.asc j t s ht hs;show max x.From (min x.To (l.getD j default).To)<=_;rw[e2];omega
   omega
theorem wzhd{x:Al}(H:SpR l)(hx:x.From<x.To):∀k,k<=l.length->0<=clsT (clsL x 0 (l.take k))/\clsT (clsL x 0 (l.take k))<=x.To-x.From:=fun k hk=>by
 obtain⟨h1,h2⟩:=wzeg H hx k hk;refine⟨h1,Int.le_trans h2 ?_⟩;cases k with
 |zero=>show x.From-x.From<=_;omega
 |succ k=>show max x.From (min x.To (l.getD k default).To)-x.From<=_;omega
theorem SA{x:Al}:∀(l:List An) (k:Int),∀c,c∈clsL x k l->0<c.Ticks
 |[],_,c,h=>by cases h
 |s :: l,k,c,h=>by
  unfold clsL at h;split at h
  ·rename_i h0;rcases AV.1 h with rfl|h
   ·exact h0
   ·exact SA l _ c h
  ·exact SA l _ c h
theorem qz9m{x:Al}(H:SpR l)(hx:0<=x.From/\x.From<x.To/\x.To<=1402560):Ip x l=some (clsA x l)/\(∀c,c∈clsA x l->0<c.Ticks)/\clsT (clsA x l)=x.To-x.From:=by
 have hb:=wzhd H hx.2.1;refine⟨wzaa H hx hb,fun c hc=>?_,?_⟩
 ·unfold clsA at hc;rcases CD.1 hc with h|h
  ·exact SA _ _ c h
  ·split at h;·rename_i h0;rw[B3.1 h];exact h0
   ·cases h
 ·have h2:=(hb l.length (AA _)).2;rw[List.take_length]at h2;unfold clsA;rw[S9];split
  ·show clsT (clsL x 0 l)+(x.To-x.From-clsT (clsL x 0 l)+0)=_;omega
  ·show clsT (clsL x 0 l)+0=_;omega
theorem qz0l{a:Af}(ha:Sz n a)(n1:1<=n)(hn:n<=8589934592):EU a=some (rof (-(rq a)))/\Sz (n+2) (rof (-(rq a))):=by
 obtain⟨f,e1,hf⟩:=DI (a:=⟨false,[],[]⟩) (Sz.zero 1) (by omega) (by omega);have e0:Cp ⟨false,[],[]⟩=some (AZ.mk false [] [1]):=by decide +kernel
 rw[e0]at e1;obtain rfl:=(AL e1).symm;obtain⟨g,e2,hg⟩:=DI ha n1 (by omega);obtain⟨k,e3,hk⟩:=Rc hf hg (by omega) (by omega);have hz:rq (Af.mk false [] [])=0:=by rw[<-Dt,Cq]
 rw[hz,show(0:Rat)-rq a = -(rq a) by grind]at hk;refine⟨?_,hk.sz.mono (by omega)⟩;unfold EU EV;rw[e2];simp only[Ab];rw[e3];simp only[Ab];rw[Ha hk (by omega)];rfl
def rtS(s:An)(st:Int):Rat:=rq s.Weight*rq (flw s.Curve (st+s.Datum))
theorem SB{s:An}(hz:SSz s)(hr:BL s)(h:0<=st/\st<=1000):D1 s st=some (rof (rtS s st))/\Sz 5242881 (rof (rtS s st)):=by
 obtain⟨a,b,c,d,e,f,g⟩:=hr;have gE:-100000<=st+s.Datum/\st+s.Datum<=100000:=by omega
 obtain⟨m1,m2⟩:=K9 hz.w (wzti (NW hz.c g) gE) (by omega) (by omega) (by omega) (by omega);refine⟨?_,m2⟩;unfold D1;rw[A0 (by omega),wzk7 hz.c g gE,Ab,m1,Ab];rfl
theorem wzbd{s:An}(hz:SSz s)(hr:BL s)(h:0<=st/\st<=1000):MJ s st=some (rof (rtS s st),0):=by unfold MJ;rw[qzus hz,AC hr];simp only[Ab,E6,Dp];rw[it_f (by simp;omega),(SB hz hr h).1,Ab]
def rtC(l:List An)(tu:Bool)(k st:Int):Rat:=if k<0 then 0 else bif tu then -(rtS (l.getD k.toNat default) st) else rtS (l.getD k.toNat default) st
theorem SC(hz:∀s,s∈l->SSz s/\BL s){k:Int}(hk:k<0\/k<l.length)(h:0<=st/\st<=1000):GJ k st l tu=some (rof (rtC l tu k st))/\Sz 5242890 (rof (rtC l tu k st)):=by
 unfold GJ rtC;by_cases h0:k<0
 ·rw[it_d h0,Aj h0,Dt];exact⟨rfl,Sz.zero _⟩
 ·rw[it_n h0,Ag h0];obtain⟨s,hs⟩:=AQ (l:=l) (k:=k.toNat) (by omega);have e:l.getD k.toNat default=s:=by simp[List.getD,hs]
  obtain⟨z1,z2⟩:=hz s (AG hs);obtain⟨r1,r2⟩:=SB z1 z2 h;rw[at_e (n:=k.toNat) (by omega) hs,Ab,wzbd z1 z2 h,Ab,e];cases tu
  ·exact⟨rfl,r2.mono (by omega)⟩
  ·obtain⟨n1,n2⟩:=qz0l r2 (by omega) (by omega);rw[Cq]at n1 n2;simp only[Em,Cg];rw[n1,Ab];exact⟨rfl,n2.mono (by omega)⟩
theorem wzte{a:Af}(h:a.Neg=false):0<=rq a:=by
 by_cases hv:Vd a
 ·rw[<-Nh hv]at h;by_cases h0:rq a=0
  ·rw[h0];exact Rat.le_refl
  ·have e:(rof (rq a)).Neg=decide ((rq a).num<0):=by simp[rof,Rx.of,h0]
   rw[e,Gdx]at h;exact Rat.num_nonneg.1 (by omega)
 ·rw[Ni hv];exact Rat.le_refl
structure CrvM(c:Bh):Prop where
 pos:∀(k:Nat) (p:Bz),c.Points[k]?=some p->0<=rq p.Flow
 up:∀(k:Nat) (p q:Bz),c.Points[k]?=some p->c.Points[k+1]?=some q->rq p.Flow<=rq q.Flow
theorem wzrn(e:Fl c=0):CrvM c:=by
 unfold Fl at e;split at e
 ·cases e
 ·have bR:=wze2 (f:=crvF c.Points) (l:=c.Points) (fun k x o ho=>by
   unfold crvF at ho;split at ho
   ·cases ho;omega
   ·split at ho;·cases ho;omega
    ·split at ho<;>cases ho;omega) e
  have at0:∀(k:Nat) (p:Bz),c.Points[k]?=some p->crvF c.Points k p=none:=fun k p hp=>Hu bR hp;refine⟨fun k p hp=>?_,fun k p q hp hq=>?_⟩
  ·have h:=at0 k p hp;unfold crvF at h;split at h
   ·cases h
   ·split at h;·cases h
    ·rename_i h2;refine wzte ?_;cases hn:p.Flow.Neg
     ·rfl
     ·exact absurd (.inr hn) h2
  ·have h:=at0 (k+1) q hq;unfold crvF at h;split at h
   ·cases h
   ·split at h;·cases h
    ·split at h;·cases h
     ·rename_i h3;have e1:c.Points.getD (k+1-1) default=p:=(by simp[List.getD,hp]);rw[e1]at h3;refine Rat.not_lt.1 fun hlt=>h3 ⟨by omega,.inr hlt⟩
def pF(c:Bh)(k:Nat):Rat:=rq (c.Points.getD k default).Flow
def pS(c:Bh)(k:Nat):Int:=(c.Points.getD k default).Stage
theorem wztv(M:CrvM c)(h:k<c.Points.length):0<=pF c k:=by
 obtain⟨p,hp⟩:=AQ h;have e:c.Points.getD k default=p:=by simp[List.getD,hp]
 unfold pF;rw[e];exact M.pos k p hp
theorem KX{c:Bh}(M:CrvM c):∀(d k:Nat),k+d<c.Points.length->pF c k<=pF c (k+d)
 |0,k,_=>Rat.le_refl
 |d+1,k,h=>by
  have h1:=KX M d k (by omega);obtain⟨p,hp⟩:=AQ (l:=c.Points) (k:=k+d) (by omega);obtain⟨q,hq⟩:=AQ (l:=c.Points) (k:=k+d+1) (by omega);have e1:c.Points.getD (k+d) default=p:=by simp[List.getD,hp]
  have e2:c.Points.getD (k+d+1) default=q:=by simp[List.getD,hq]
  have:=M.up (k+d) p q hp hq;refine Rat.le_trans h1 ?_;show pF c (k+d)<=pF c (k+d+1);unfold pF;rw[e1,e2];exact this
theorem SD(H:CrvR c)(hk:k<c.Points.length)(hj:j<k):pS c j<pS c k:=by have:=NX H j k hk hj;unfold pS;rw[Dy hk,Dy (show j<c.Points.length by omega)];exact this
theorem SE{a b:Int}(hd:0<d)(bn:a<=b):(a:Rat) / (d:Rat)<=(b:Rat) / (d:Rat):=by rw[Rat.div_def,Rat.div_def];have h1:(0:Rat)<((d:Rat))⁻¹:=Rat.inv_pos.2 (Rat.intCast_pos.2 hd);exact Rat.mul_le_mul_of_nonneg_right (Rat.intCast_le_intCast.2 bn) (by grind)
theorem wzd7:((0:Int):Rat) / (d:Rat)=0:=by rw[Rat.div_def];have:((0:Int):Rat)=0:=rfl;rw[this];grind
theorem wzka(hd:0<d):(d:Rat) / (d:Rat)=1:=by rw[Rat.div_def];have:(0:Rat)<(d:Rat):=Rat.intCast_pos.2 hd;exact Rat.mul_inv_cancel _ (by grind)
theorem Od(h0:n≠0)(h1:n≠c.Points.length):BM c.Points s n=pF c (n-1)+(((s-pS c (n-1):Int):Rat) / ((pS c n-pS c (n-1):Int):Rat))*(pF c n-pF c (n-1)):=by unfold BM;rw[Ag h0,Ag h1];rfl
theorem wzi3(H:CrvR c)(M:CrvM c)(hn:Nx c.Points s n)(h0:n≠0):pF c (n-1)<=BM c.Points s n:=by
 have aC:=hn.le;by_cases h1:n=c.Points.length
 ·unfold BM;rw[Ag h0,Aj h1];exact Rat.le_refl
 ·rw[Od h0 h1];have hd:=SD H (j:=n-1) (k:=n) (by omega) (by omega);have hs:pS c (n-1)<=s:=by have:=hn.lo (n-1) (by omega) (by omega);unfold pS;rw[Dy (by omega)];exact this
  have hf:=SE (a:=0) (b:=s-pS c (n-1)) (d:=pS c n-pS c (n-1)) (by omega) (by omega);rw[wzd7]at hf;have hu:=KX M 1 (n-1) (by omega);rw[show n-1+1=n by omega]at hu;have:=Rat.mul_nonneg hf (show 0<=pF c n-pF c (n-1) by grind)
  grind
theorem wzjz(H:CrvR c)(M:CrvM c)(hn:Nx c.Points s n)(h1:n<c.Points.length):BM c.Points s n<=pF c n:=by
 by_cases h0:n=0
 ·have:BM c.Points s n=0:=by unfold BM;rw[Aj h0]
  rw[this];exact wztv M h1
 ·rw[Od h0 (by omega)];have hd:=SD H (j:=n-1) (k:=n) h1 (by omega);have hs:s<pS c n:=by have:=hn.hi n h1 (AA _);unfold pS;rw[Dy h1];exact this
  have hf:=SE (a:=s-pS c (n-1)) (b:=pS c n-pS c (n-1)) (d:=pS c n-pS c (n-1)) (by omega) (by omega);rw[wzka (by omega)]at hf;have hu:=KX M 1 (n-1) (by omega);rw[show n-1+1=n by omega]at hu;have:=Rat.mul_le_mul_of_nonneg_right hf (show 0<=pF c n-pF c (n-1) by grind)
  grind
theorem wzfc(hz:CSz c)(e:Fl c=0){t:Int}(aL:s<=t):rq (flw c s)<=rq (flw c t):=by
 have H:=NW hz e;have M:=wzrn e;have hn:=NZ H s;have hm:=NZ H t;unfold flw;rw[Cq,Cq];generalize nxN c.Points s=n at *;generalize nxN c.Points t=m at *;have fA:n<=m:=Nat.not_lt.1 fun h=>by have h1:=hn.le;have a:=hn.lo m (by omega) h;have b:=hm.hi m (by omega) (AA _);omega
 by_cases hq:n=m
 ·subst hq;by_cases h0:n=0
  ·unfold BM;rw[Aj h0,Aj h0];exact Rat.le_refl
  ·by_cases h1:n=c.Points.length;·unfold BM;rw[Ag h0,Aj h1,Ag h0,Aj h1];exact Rat.le_refl
   ·have aC:=hn.le;rw[Od h0 h1,Od h0 h1];have hd:=SD H (j:=n-1) (k:=n) (by omega) (by omega);have hf:=SE (a:=s-pS c (n-1)) (b:=t-pS c (n-1)) (d:=pS c n-pS c (n-1)) (by omega) (by omega);have hu:=KX M 1 (n-1) (by omega);rw[show n-1+1=n by omega]at hu;have:=Rat.mul_le_mul_of_nonneg_right hf (show 0<=pF c n-pF c (n-1) by grind)
    grind
 ·have aC:=hm.le;have h1:=wzjz H M hn (by omega);have h2:=wzi3 H M hm (by omega);have h3:=KX M (m-1-n) n (by omega);rw[show n+(m-1-n)=m-1 by omega]at h3;exact Rat.le_trans h1 (Rat.le_trans h3 h2)
theorem wzsu{a x:Rat}(h:0<=a)(bV:x<=y):a*x<=a*y:=by
 have:=Rat.mul_le_mul_of_nonneg_right bV h
 grind
theorem wzt1{a x:Rat}(h:a<=0)(bV:x<=y):a*y<=a*x:=by
 have:=Rat.mul_le_mul_of_nonneg_right bV (show 0<=-a by grind)
 grind
theorem qz5q{s:An}(hz:SSz s)(hr:BL s):(∀u v,u<=v->rtS s u<=rtS s v)\/∀u v,u<=v->rtS s v<=rtS s u:=by
 obtain⟨a,b,c,d,e,f,g⟩:=hr;by_cases h:0<=rq s.Weight
 ·exact .inl fun u v dJ=>wzsu h (wzfc hz.c g (by omega))
 ·exact .inr fun u v dJ=>wzt1 (by grind) (wzfc hz.c g (by omega))
theorem wztj(hz:∀s,s∈l->SSz s/\BL s){k:Int}(hk:k<0\/k<l.length){lo hi:Int}(h1:lo<=st)(h2:st<=hi):rtC l tu k lo<=rtC l tu k st\/rtC l tu k hi<=rtC l tu k st:=by
 unfold rtC;by_cases h0:k<0
 ·rw[Aj h0,Aj h0];exact .inl Rat.le_refl
 ·rw[Ag h0,Ag h0,Ag h0];obtain⟨s,hs⟩:=AQ (l:=l) (k:=k.toNat) (by omega);have e:l.getD k.toNat default=s:=by simp[List.getD,hs]
  obtain⟨z1,z2⟩:=hz s (AG hs);rw[e];cases tu
  ·simp only[BO];rcases qz5q z1 z2 with m|m
   ·exact .inl (m _ _ h1)
   ·exact .inr (m _ _ h2)
  ·simp only[Cg];rcases qz5q z1 z2 with m|m
   ·refine .inr ?_;have:=m _ _ h2;grind
   ·refine .inl ?_;have:=m _ _ h1;grind
def gM(m:List (Int×List Int))(k:Int):List Int:=Option.getD (mget keqI m k) []
theorem wzh5(m:List (Int×List Int))(k s j:Int):gM (Bs m k s) j=if j=k then gM m k++[s] else gM m j:=by unfold Bs gM;rw[Sx];split<;>rfl
theorem SF(k s:Int):∀(n i:Nat) (m:List (Int×List Int)),∃m',forN (fun m (_:Nat)=>some (Bs m k s)) n i m=some m'/\∀j,gM m' j=if j=k then gM m k++List.replicate n s else gM m j
 |0,i,m=>⟨m,rfl,fun j=>by
   by_cases h:j=k
   ·subst h;rw[Aj rfl];simp
   ·rw[Ag h]⟩
 |n+1,i,m=>by
  obtain⟨m',e,h⟩:=SF k s n (i+1) (Bs m k s);refine⟨m',by unfold forN;rw[Ab];exact e,fun j=>?_⟩;rw[h j,wzh5,wzh5,Aj rfl];by_cases hj:j=k
  ·rw[Aj hj,Aj hj,List.append_assoc];rfl
  ·rw[Ag hj,Ag hj,Ag hj]
def byC(cl:List AB)(f:AB->List Int)(j:Int):List Int:=(cl.filter fun c=>decide (c.Span=j)).flatMap f
theorem SG(c:AB)(cl:List AB)(f:AB->List Int)(j:Int):byC (c :: cl) f j=(if j=c.Span then f c else [])++byC cl f j:=by
 unfold byC;rw[List.filter_cons];by_cases h:c.Span=j
 ·rw[Aj h.symm,Aj (AC h),List.flatMap_cons]
 ·rw[Ag (show ¬decide (c.Span=j)=true by simpa using h),Ag (show ¬j=c.Span from fun e=>h e.symm)];rfl
def bst(rc:Int->Int->Rat)(r:Al)(c:AB):Int:=open Classical in if rc c.Span r.Hi<rc c.Span r.Lo then r.Hi else r.Lo
theorem qz28{rate:Int->Int->Option Af}{rc:Int->Int->Rat}{A:Nat}{r:Al}(hA:1<=A/\A<=5242900):∀(cl:List AB) (m:List (Int×List Int)) (q:Rat) (K:Nat),(∀c,c∈cl->0<=c.Ticks/\c.Ticks<=1402560/\(rate c.Span r.Lo=some (rof (rc c.Span r.Lo))/\Sz A (rof (rc c.Span r.Lo)))/\(rate c.Span r.Hi=some (rof (rc c.Span r.Hi))/\Sz A (rof (rc c.Span r.Hi))))->Sz K (rof q)->1<=K->K+cl.length*(A+10)<=8589934592 -> ∃m',Eh rate r cl m (rof q)=some (m',rof (q+sQ (cl.map fun c=>(c.Ticks:Rat)*rc c.Span (bst rc r c))))/\Sz (K+cl.length*(A+10)) (rof (q+sQ (cl.map fun c=>(c.Ticks:Rat)*rc c.Span (bst rc r c))))/\∀j,gM m' j=gM m j++byC cl (fun c=>List.replicate c.Ticks.toNat (bst rc r c)) j
 |[],m,q,K,_,hK,_,_=>by
  have e:q+sQ ([].map fun c:AB=>(c.Ticks:Rat)*rc c.Span (bst rc r c))=q:=by show q+0=q;grind
  rw[e];exact⟨m,rfl,hK.mono (by simp),fun j=>by simp[byC]⟩
 |c :: cl,m,q,K,hc,hK,k1,hb=>by
  obtain⟨t1,t2,⟨l1,l2⟩,h1,h2⟩:=hc c (AS ..);rw[Bk,BR]at hb
  have kv:(bif decide (cmpQ (rc c.Span r.Hi) (rc c.Span r.Lo)<0) then r.Hi else r.Lo)=bst rc r c:=by
   unfold bst;by_cases h:rc c.Span r.Hi<rc c.Span r.Lo
   ·rw[Aj h,AC (FZ.2 h)];rfl
   ·rw[Ag h,A9 (fun k=>h (FZ.1 k))];rfl
  have nq:rate c.Span (bst rc r c)=some (rof (rc c.Span (bst rc r c)))/\Sz A (rof (rc c.Span (bst rc r c))):=by
   unfold bst;split
   ·exact⟨h1,h2⟩
   ·exact⟨l1,l2⟩
  obtain⟨m1,e1,g1⟩:=SF c.Span (bst rc r c) c.Ticks.toNat 0 m;obtain⟨i1,i2⟩:=Rh (n:=c.Ticks) (by omega) (by omega);obtain⟨p1,p2⟩:=K9 i2 nq.2 (by omega) (by omega) (by omega) (by omega);rw[Cq,Cq]at p1 p2;obtain⟨s1,s2⟩:=K8 hK p2 (by omega) (by omega) (by omega) (by omega);rw[Cq,Cq]at s1 s2;obtain⟨m',e2,z2,g2⟩:=qz28 hA cl m1 (q+(c.Ticks:Rat)*rc c.Span (bst rc r c)) (K+(8+A+1)+1) (fun d hd=>hc d (AR _ hd)) s2 (by omega) (by omega)
  have eq1:q+sQ ((c :: cl).map fun c=>(c.Ticks:Rat)*rc c.Span (bst rc r c))=q+(c.Ticks:Rat)*rc c.Span (bst rc r c)+sQ (cl.map fun c=>(c.Ticks:Rat)*rc c.Span (bst rc r c)):=by
   show q+((c.Ticks:Rat)*rc c.Span (bst rc r c)+sQ _)=_
   grind
  rw[eq1];refine⟨m',?_,z2.mono (by rw[Bk,BR];omega),fun j=>?_⟩
  ·unfold Eh;rw[h1,Ab,l1,Ab,IG h2 l2 (by omega) (by omega) (by omega) (by omega),Ab,Cq,Cq,kv,e1,Ab,i1,Ab,nq.1,Ab,p1,Ab,s1,Ab,e2]
  ·rw[g2 j,g1 j,SG];by_cases hj:j=c.Span
   ·rw[Aj hj,Aj hj,hj,List.append_assoc]
   ·rw[Ag hj,Ag hj];rfl
def Cs(st j:Int):List AB->List Int->List Int
 |c :: cl,n :: x=>(if j=c.Span then List.replicate n.toNat st else [])++Cs st j cl x
 |_,_=>[]
def rowQ:List Af->List Int->Rat
 |g :: co,n :: x=>(n:Rat)*rq g+rowQ co x
 |_,_=>0
theorem qz3s{h:AM}{A:Nat}(hA:1<=A/\A<=5242900):∀(cl:List AB) (co:List Af) (x:List Int) (m:List (Int×List Int)) (q:Rat) (K:Nat),co.length=cl.length->x.length=cl.length->(∀g,g∈co->Sz A g)->(∀n,n∈x->0<=n/\n<=1402560)->Sz K (rof q)->1<=K->K+cl.length*(A+10)<=8589934592 -> ∃m',D8 h cl co x m (rof q)=some (m',rof (q+rowQ co x))/\Sz (K+cl.length*(A+10)) (rof (q+rowQ co x))/\∀j,gM m' j=gM m j++Cs h.Stage j cl x
 |[],[],[],m,q,K,_,_,_,_,hK,_,_=>by
  have e:q+rowQ [] []=q:=by show q+0=q;grind
  rw[e];exact⟨m,rfl,hK.mono (by simp),fun j=>by simp[Cs]⟩
 |c :: cl,g :: co,n :: x,m,q,K,l1,l2,hg,hx,hK,k1,hb=>by
  rw[Bk,BR]at hb;obtain⟨n1,n2⟩:=hx n (AS ..);have pt:=hg g (AS ..);obtain⟨m1,e1,g1⟩:=SF c.Span h.Stage n.toNat 0 m;obtain⟨i1,i2⟩:=Rh (n:=n) (by omega) (by omega);obtain⟨p1,p2⟩:=K9 i2 pt (by omega) (by omega) (by omega) (by omega);rw[Cq]at p1 p2;obtain⟨s1,s2⟩:=K8 hK p2 (by omega) (by omega) (by omega) (by omega);rw[Cq,Cq]at s1 s2;obtain⟨m',e2,z2,g2⟩:=qz3s hA cl co x m1 (q+(n:Rat)*rq g) (K+(8+A+1)+1) (by simpa using l1) (by simpa using l2) (fun d hd=>hg d (AR _ hd)) (fun d hd=>hx d (AR _ hd)) s2 (by omega) (by omega)
  have eq1:q+rowQ (g :: co) (n :: x)=q+(n:Rat)*rq g+rowQ co x:=by
   show q+((n:Rat)*rq g+rowQ co x)=_
   grind
  rw[eq1];refine⟨m',?_,z2.mono (by rw[Bk,BR];omega),fun j=>?_⟩
  ·unfold D8;rw[e1,Ab,i1,Ab,p1,Ab,s1,Ab,e2]
  ·rw[g2 j,g1 j];show _=gM m j++((if j=c.Span then List.replicate n.toNat h.Stage else [])++Cs h.Stage j cl x);by_cases hj:j=c.Span
   ·rw[Aj hj,Aj hj,hj,List.append_assoc]
   ·rw[Ag hj,Ag hj];rfl
 |[],_ :: _,_,_,_,_,l1,_,_,_,_,_,_=>by simp at l1
 |[],[],_ :: _,_,_,_,_,l2,_,_,_,_,_=>by simp at l2
 |_ :: _,[],_,_,_,_,l1,_,_,_,_,_,_=>by simp at l1
 |_ :: _,_ :: _,[],_,_,_,_,l2,_,_,_,_,_=>by simp at l2
def tabS(j:Int)(cl:List AB):List AM->List (List Int)->List Int
 |h :: t,x :: xs=>Cs h.Stage j cl x++tabS j cl t xs
 |_,_=>[]
def tabQ:List (List Af)->List (List Int)->Rat
 |g :: co,x :: xs=>rowQ g x+tabQ co xs
 |_,_=>0
theorem qz4j{A:Nat}{cl:List AB}(hA:1<=A/\A<=5242900):∀(t:List AM) (co:List (List Af)) (x:List (List Int)) (m:List (Int×List Int)) (q:Rat) (K:Nat),co.length=t.length->x.length=t.length->(∀r,r∈co->r.length=cl.length/\∀g,g∈r->Sz A g)->(∀r,r∈x->r.length=cl.length/\∀n,n∈r->0<=n/\n<=1402560)->Sz K (rof q)->1<=K->K+t.length*(cl.length*(A+10))<=8589934592 -> ∃m',D9 cl t co x m (rof q)=some (m',rof (q+tabQ co x))/\Sz (K+t.length*(cl.length*(A+10))) (rof (q+tabQ co x))/\∀j,gM m' j=gM m j++tabS j cl t x
 |[],[],[],m,q,K,_,_,_,_,hK,_,_=>by
  have e:q+tabQ [] []=q:=by show q+0=q;grind
  rw[e];exact⟨m,rfl,hK.mono (by simp),fun j=>by simp[tabS]⟩
 |h :: t,g :: co,x :: xs,m,q,K,l1,l2,hg,hx,hK,k1,hb=>by
  rw[Bk,BR]at hb;obtain⟨a1,a2⟩:=hg g (AS ..);obtain⟨b1,b2⟩:=hx x (AS ..);obtain⟨m1,e1,z1,g1⟩:=qz3s (h:=h) hA cl g x m q K a1 b1 a2 b2 hK k1 (by omega);obtain⟨m',e2,z2,g2⟩:=qz4j hA t co xs m1 (q+rowQ g x) (K+cl.length*(A+10)) (by simpa using l1) (by simpa using l2) (fun d hd=>hg d (AR _ hd)) (fun d hd=>hx d (AR _ hd)) z1 (by omega) (by omega)
  have eq1:q+tabQ (g :: co) (x :: xs)=q+rowQ g x+tabQ co xs:=by
   show q+(rowQ g x+tabQ co xs)=_
   grind
  rw[eq1];refine⟨m',?_,z2.mono (by rw[Bk,BR];omega),fun j=>?_⟩
  ·unfold D9;rw[e1,Ab,e2]
  ·rw[g2 j,g1 j,List.append_assoc];rfl
 |[],_ :: _,_,_,_,_,l1,_,_,_,_,_,_=>by simp at l1
 |[],[],_ :: _,_,_,_,_,l2,_,_,_,_,_=>by simp at l2
 |_ :: _,[],_,_,_,_,l1,_,_,_,_,_,_=>by simp at l1
 |_ :: _,_ :: _,[],_,_,_,_,l2,_,_,_,_,_=>by simp at l2
def atC(l:List An)(t:Int):Int:=(scan (atF t) 0 l).getD (-1)
theorem wzp6(H:SpR l)(t:Int):enAt l t=some (atC l t):=by
 have hl:=H.len
 obtain⟨n,n1,n2,n3,n4⟩:=qz8k (N:=l.length) (f:=fun a0=>FB a0 l t) (p:=fun k=>decide (t<(l.getD k default).To)) (by omega) (fun k hk=>by
  obtain⟨s,hs⟩:=AQ hk;simp only[FB];rw[at_e rfl hs,Ab];simp[List.getD,hs]) (fun j k jS hk hj=>by
  obtain⟨s,hs⟩:=AQ (show j<l.length by omega);obtain⟨u,hu⟩:=AQ hk;have e1:l.getD j default=s:=by simp[List.getD,hs]
  have e2:l.getD k default=u:=by simp[List.getD,hu]
  rw[e1]at hj;rw[e2];have hj:=BC hj;by_cases e:j=k
  ·subst e;rw[hs]at hu;cases hu;exact AC hj
  ·have:=H.far (k-j-1) j s u hs (by rw[show j+(k-j-1+1)=k by omega];exact hu);have:=H.sp u (AG hu);exact AC (by omega))
 have low:∀i x,i<n->l[i]?=some x->atF t (0+i) x=none:=fun i x hi hx=>by
  have h1:=n2 i hi;have e1:l.getD i default=x:=by simp[List.getD,hx]
  simp only[e1,Gdx]at h1;unfold atF;rw[Ag (fun h:inS x t=>by unfold inS at h;omega)]
 unfold enAt atC;rw[n4,Ab];by_cases hn:n=l.length
 ·rw[AC (show(n:Int)=(l.length:Int) by omega),E6,Be,Ab,Cg,Cg,Jk];·rfl
  ·exact fun i x hx=>low i x (by have:=(A8.1 hx).1;omega) hx
 ·have hlt:n<l.length:=by omega
  obtain⟨x,hx⟩:=AQ hlt;have h3:=n3 n (AA _) hlt;have e1:l.getD n default=x:=by simp[List.getD,hx]
  simp only[e1,CA]at h3;rw[A9 (show ¬(n:Int)=(l.length:Int) by omega),E5,Bv,at_e rfl hx,Ab,BO];by_cases hF:t<x.From
  ·rw[AC hF,Cg,Jk];·rfl
   ·intro i y hy;by_cases hi:i<n
    ·exact low i y hi hy
    ·have qe:x.From<=y.From:=by
      by_cases e:i=n
      ·subst e;rw[hx]at hy;cases hy;exact HE _
      ·have:=H.far (i-n-1) n x y hx (by rw[show n+(i-n-1+1)=i by omega];exact hy);have:=H.sp x (AG hx);omega
     unfold atF;rw[Ag (fun h:inS y t=>by unfold inS at h;omega)]
  ·rw[A9 hF,BO,Sw 0 l n x (n:Int) hx (by unfold atF;rw[Aj (show inS x t from⟨by omega,h3⟩),Bn]) (fun j y hj hy=>low j y hj hy)];rfl
def cntC(l:List An)(t j:Int):Nat->Nat
 |0=>0
 |k+1=>cntC l t j k+(if atC l (t+(k:Int))=j then 1 else 0)
def tkS(l:List An)(from0 t:Int)(m:List (Int×List Int))(out:List Int):Nat->List (Int×List Int)×List Int
 |0=>(m,out)
 |k+1=>(mput keqI (tkS l from0 t m out k).1 (atC l (t+(k:Int))) (gM (tkS l from0 t m out k).1 (atC l (t+(k:Int)))).tail,(tkS l from0 t m out k).2.set (t+(k:Int)-from0).toNat ((gM (tkS l from0 t m out k).1 (atC l (t+(k:Int)))).headD 0))
theorem SI(l:List An)(from0 t:Int)(m:List (Int×List Int))(out:List Int):∀k j,gM (tkS l from0 t m out k).1 j=(gM m j).drop (cntC l t j k)
 |0,j=>rfl
 |k+1,j=>by
  show Option.getD (mget keqI (mput keqI _ _ _) j) []=_;rw[Sx];have ih:=SI l from0 t m out k;show _=(gM m j).drop (cntC l t j k+(if atC l (t+(k:Int))=j then 1 else 0));by_cases h:j=atC l (t+(k:Int))
  ·rw[Aj h,Aj h.symm,Ll,<-h,ih j,List.tail_drop]
  ·rw[Ag h,Ag (Ne.symm h),Gg,<-ih j];rfl
theorem Oe(l:List An)(from0 t:Int)(m:List (Int×List Int))(out:List Int):∀k,(tkS l from0 t m out k).2.length=out.length
 |0=>rfl
 |k+1=>by show(List.set _ _ _).length=_;rw[J6];exact Oe l from0 t m out k
theorem wzfk{l:List An}{from0 t:Int}{m:List (Int×List Int)}{out:List Int}(h0:from0<=t):∀k:Nat,t+(k:Int)-from0<=out.length->(∀i:Nat,i<k->(tkS l from0 t m out k).2[(t+(i:Int)-from0).toNat]?=some (((gM m (atC l (t+(i:Int)))).drop (cntC l t (atC l (t+(i:Int))) i)).headD 0)) /\ ∀i:Nat,(i:Int)<t-from0\/t+(k:Int)-from0<=(i:Int)->(tkS l from0 t m out k).2[i]?=out[i]?
 |0,_=>⟨fun i h=>by omega,fun i _=>rfl⟩
 |k+1,hk=>by
  obtain⟨h1,h2⟩:=wzfk (l:=l) (m:=m) (out:=out) h0 k (by omega);have hl:=Oe l from0 t m out k;refine⟨fun i hi=>?_,fun i hi=>?_⟩
  ·show(List.set _ _ _)[_]?=_;by_cases e:i=k
   ·subst e;rw[List.getElem?_set_self (by omega),SI]
   ·rw[List.getElem?_set_ne (by omega)];exact h1 i (by omega)
  ·show(List.set _ _ _)[_]?=_;rw[List.getElem?_set_ne (by omega)];exact h2 i (by omega)
theorem wzgc(H:SpR l){from0 t to0:Int}{m:List (Int×List Int)}{out:List Int}(h0:0<=from0/\from0<=t/\t<=to0/\to0<=1402560)(hl:to0-from0<=out.length)(hg:∀k:Nat,t+(k:Int)<to0->cntC l t (atC l (t+(k:Int))) k<(gM m (atC l (t+(k:Int)))).length) :
  lp (ES l from0 to0) (t,m,out)=some (tkS l from0 t m out (to0-t).toNat).2:=by
 refine NY (fun k=>(t+(k:Int),(tkS l from0 t m out k).1,(tkS l from0 t m out k).2)) (to0-t).toNat (by omega) (fun k hk=>?_) ?_ (by show(t,m,out)=(t+((0:Nat):Int),m,out);congr 1;omega)
 ·have eE:t+(k:Int)<to0:=by omega
  have aE:=Oe l from0 t m out k;have hc:=hg k eE;have kw:=SI l from0 t m out k (atC l (t+(k:Int)));simp only[ES];rw[it_d eE,wzp6 H,Ab];cases e:mget keqI (tkS l from0 t m out k).1 (atC l (t+(k:Int))) with
  |none =>
   have:gM (tkS l from0 t m out k).1 (atC l (t+(k:Int)))=[]:=by unfold gM;rw[e];rfl
   rw[this]at kw;have:=Gk List.length kw;rw[H7]at this;simp at this;omega
  |some q =>
   have e2:gM (tkS l from0 t m out k).1 (atC l (t+(k:Int)))=q:=by unfold gM;rw[e];rfl
   rw[Ab];cases q with
   |nil =>rw[e2]at kw;have:=Gk List.length kw;rw[H7]at this;simp at this;omega
   |cons s q =>simp only;rw[ck_t (by simp[As];omega)];show _=some (Sum.inl (t+((k+1:Nat):Int),mput keqI _ _ (gM (tkS l from0 t m out k).1 (atC l (t+(k:Int)))).tail,List.set _ _ ((gM (tkS l from0 t m out k).1 (atC l (t+(k:Int)))).headD 0)));rw[e2];show _=some (Sum.inl (t+((k+1:Nat):Int),mput keqI (tkS l from0 t m out k).1 (atC l (t+(k:Int))) q,List.set (tkS l from0 t m out k).2 (t+(k:Int)-from0).toNat s));congr 3;omega
 ·simp only[ES];rw[it_n (by omega)]
theorem wzr9(H:SpR l){s:An}(hs:l[j]?=some s){t:Int}(ht:inS s t):atC l t=(j:Int):=by unfold atC;rw[Sw 0 l j s (j:Int) hs (by unfold atF;rw[Aj ht,Bn]) (fun i x hi hx=>by have:=H.far (j-i-1) i x s hx (by rw[show i+(j-i-1+1)=j by omega];exact hs);unfold atF;rw[Ag (fun h:inS x t=>by unfold inS at h ht;omega)])];rfl
theorem DO{α ω:Type}{f:Nat->α->Option ω}:∀(k:Nat) (l:List α) (o:ω),scan f k l=some o->∃i x,l[i]?=some x/\f (k+i) x=some o
 |k,[],o,h=>by cases h
 |k,x :: l,o,h=>by
  unfold scan at h;cases e:f k x with
  |some o' =>rw[e]at h;cases h;exact⟨0,x,rfl,e⟩
  |none =>rw[e]at h;obtain⟨i,y,h1,h2⟩:=DO (k+1) l o h;exact⟨i+1,y,by simpa using h1,by rw[show k+(i+1)=k+1+i by omega];exact h2⟩
theorem SJ{t:Int}:(atC l t = -1/\∀s,s∈l->¬inS s t)\/∃(j:Nat) (s:An),l[j]?=some s/\inS s t/\atC l t=(j:Int):=by
 unfold atC;cases e:scan (atF t) 0 l with
 |none =>refine .inl ⟨rfl,fun s hs h=>?_⟩;obtain⟨i,hi⟩:=Cj.1 hs;have:=Hu e hi;unfold atF at this;rw[Aj h]at this;cases this
 |some o =>
  obtain⟨i,x,h1,h2⟩:=DO 0 l o e;unfold atF at h2;by_cases h:inS x t
  ·rw[Aj h]at h2;cases h2;exact .inr ⟨i,x,h1,h,by rw[Bn];rfl⟩
  ·rw[Ag h]at h2;cases h2
theorem SK(H:SpR l){s:An}(hs:l[j]?=some s){t:Int}:atC l t=(j:Int)↔inS s t:=by
 refine⟨fun h=>?_,wzr9 H hs⟩;rcases SJ (l:=l) (t:=t) with ⟨h1,_⟩|⟨i,x,h1,h2,h3⟩
 ·omega
 ·obtain rfl:i=j:=by omega
  rw[hs]at h1;cases h1;exact h2
theorem qzz7{l:List An}(H:SpR l){j:Nat}{s:An}(hs:l[j]?=some s)(t:Int):∀k:Nat,(cntC l t (j:Int) k:Int)=max 0 (min (t+(k:Int)) s.To-max t s.From)
 |0=>by show((0:Nat):Int)=max 0 (min (t+((0:Nat):Int)) s.To-max t s.From);omega
 |k+1=>by
  have ih:=qzz7 H hs t k;have dq:=H.sp s (AG hs);show((cntC l t (j:Int) k+(if atC l (t+(k:Int))=(j:Int) then 1 else 0):Nat):Int)=_;by_cases h:inS s (t+(k:Int))
  ·rw[Aj ((SK H hs).2 h)];unfold inS at h;omega
  ·rw[Ag (fun e=>h ((SK H hs).1 e))];unfold inS at h;omega
theorem wzi2(H:SpR l){x:Al}(hx:x.From<=x.To){s:An}(hs:l[j]?=some s):(cntC l x.From (j:Int) (x.To-x.From).toNat:Int)=max 0 (ovl1 x s):=by rw[qzz7 H hs];unfold ovl1;omega
end
end Go.Am

