/- Part V1: the mathematics of flows and levels. No condition. -/
import Derived.Test.YtibbibelkkgfpaaGreatDoorR2
set_option linter.unusedSimpArgs false
set_option linter.unusedVariables false
namespace Go.Am
noncomputable section
section
variable {α ω G:Type}
def scan(f:Nat->α->Option ω):Nat->List α->Option ω
 |_,[]=>none
 |k,x :: l=>match f k x with
  |some o=>some o
  |none=>scan f (k+1) l
theorem Fj{f:Nat->α->Option ω}:∀(k:Nat) (l:List α),scan f k l=none->∀i x,l[i]?=some x->f (k+i) x=none
 |k,[],_,i,x,h=>by simp at h
 |k,y :: l,e,i,x,h=>by
  unfold scan at e;split at e
  ·cases e
  ·rename_i e1;cases i with
   |zero=>simp at h;subst h;exact e1
   |succ i=>have:=Fj (k+1) l e i x (by simpa using h);rwa [show k+(i+1)=k+1+i by omega]
theorem KR{f:Nat->α->Option ω}:∀(k:Nat) (l:List α),(∀i x,l[i]?=some x->f (k+i) x=none)->scan f k l=none
 |k,[],_=>rfl
 |k,y :: l,e=>by unfold scan;rw[show f k y=none from e 0 y rfl];exact KR (k+1) l fun i x h=>by have:=e (i+1) x (by simpa using h);rwa [show k+(i+1)=k+1+i by omega]at this
theorem wzev{f:Nat->α->Option ω}{l:List α}{k:Nat}{x:α}(h:l[k]?=some x):scan f k (l.drop k)=(match f k x with
  |some o=>some o
  | none=>scan f (k+1) (l.drop (k+1))):=by
 obtain⟨hk,rfl⟩:=AE.1 h;rw[E5 hk];rfl
def sOut:Option ω->Unit⊕ω
 |some o=>.inr o
 |none=>.inl ()
theorem qz4u{body:G->Option (G⊕(Unit⊕ω))}{l:List α}(st:Nat->G)(f:Nat->α->Option ω)(hl:l.length<=1000000000)(hs:∀(k:Nat) (x:α),l[k]?=some x->body (st k)=some (match f k x with | some o=>.inr (.inr o) | none=>.inl (st (k+1)))) (he:body (st l.length)=some (.inr (.inl ()))) {s:G} (h0:s=st 0):lp body s=some (sOut (scan f 0 l)):=by
 obtain⟨o,e,ho⟩:=Ze (body:=body) st (fun k=>k<=l.length/\scan f 0 l=scan f k (l.drop k)) (fun k=>l.length-k) (fun o=>o=sOut (scan f 0 l)) (by
  rintro k ⟨hk,cy⟩;by_cases hlt:k<l.length
  ·have hx:=AC hlt;have h1:=hs k _ hx;have h2:=wzev (f:=f) hx;cases hf:f k l[k] with
   |some o =>right;rw[hf]at h1 h2;exact⟨_,h1,by rw[cy,h2];rfl⟩
   |none =>left;rw[hf]at h1 h2;exact⟨k+1,h1,⟨hlt,cy.trans h2⟩,by omega⟩
  ·right;have:k=l.length:=by omega
   subst this;refine⟨_,he,?_⟩;rw[cy,List.drop_length];rfl) 0 h0 ⟨B3 _,rfl⟩ (by omega)
 rw[e,ho]
theorem Ez{body:Int->Option (Int⊕(Unit⊕ω))}{l:List α}(f:Nat->α->Option ω)(hl:l.length<=1000000000)(hs:∀(k:Nat) (x:α),l[k]?=some x->body (k:Int)=some (match f k x with | some o=>.inr (.inr o) | none=>.inl ((k:Int)+1))) (he:body (l.length:Int)=some (.inr (.inl ()))):lp body 0=some (sOut (scan f 0 l)) :=
 qz4u (fun k=>(k:Int)) f hl (fun k x h=>by rw[hs k x h];cases f k x<;>rfl) he rfl
end
structure CSz(c:Bg):Prop where
 len:c.Points.length<=1048576
 sz:∀p,p∈c.Points->Sz 1048576 p.Flow
def crvF(l:List Bw)(k:Nat)(p:Bw):Option Int :=
 if p.Stage < -1000\/2000<p.Stage then some 3 else if ¬Vd p.Flow\/p.Flow.Neg=true then some 1
 else if 0<k/\(p.Stage<=(l.getD (k-1) default).Stage\/rq p.Flow<rq (l.getD (k-1) default).Flow) then some 1 else none
def Fl(c:Bg):Int:=if c.Points.length<1\/16<c.Points.length then 2 else(scan (crvF c.Points) 0 c.Points).getD 0
theorem RZ{o:Option Int}{z:Int}:(match sOut o with | .inl ()=>some z | .inr o=>some o)=some (o.getD z):=by cases o<;>rfl
theorem Sa{α:Type}[Inhabited α]{l:List α}{k:Nat}{x:α}(h:l[k]?=some x)(h0:0<k):at? l ((k:Int)-1)=some (l.getD (k-1) default):=by
 have hk:=(AE.1 h).1;have h1:k-1<l.length:=by omega
 rw[at_e (n:=k-1) (by omega) (AC h1)];simp[List.getD,h1]
theorem wzi5{α:Type}[Inhabited α]{l:List α}{k:Nat}{x:α}(h:l[k]?=some x)(h0:0<k):l.getD (k-1) default∈l:=by
 have hk:=(AE.1 h).1;have h1:k-1<l.length:=by omega
 simp[List.getD,h1]
theorem FZ{p q:Rat}:cmpQ p q<0↔p<q:=by
 unfold cmpQ;split
 ·simp[*]
 ·split<;>simp[*]
theorem qzri{c:Bg}(h:CSz c):Ko c=some (Fl c):=by
 unfold Ko Fl;by_cases h1:c.Points.length<1
 ·rw[it_t (by simp;omega),Aj (.inl h1)]
 by_cases h2:16<c.Points.length
 ·rw[it_t (by simp;omega),Aj (.inr h2)]
 rw[it_f (by simp;omega),Ag (by omega)];rw[Ez (l:=c.Points) (crvF c.Points) (by omega) ?_ ?_]
 ·simp only[Ab];exact RZ
 ·intro k p hp;have hk:=(AE.1 hp).1;have hm:=AI hp;have hz:=h.sz p hm;simp only[Qe];rw[it_d (by omega),at_e rfl hp];simp only[Ab,P6,crvF];by_cases p1:p.Stage < -1000\/2000<p.Stage
  ·rw[Aj p1,it_t (by rcases p1 with p1|p1<;>simp<;>omega)]
  rw[Ag p1,it_f (by simp;omega)];simp only[Qb];rw[QG (hz.mono (by omega))];simp only[Ab];by_cases p2:¬Vd p.Flow\/p.Flow.Neg=true
  ·rw[Aj p2,it_t (by rcases p2 with p2|p2<;>simp[p2])]
  rw[Ag p2];have p3:Vd p.Flow:=Decidable.byContradiction fun e=>p2 (.inl e);have p4:p.Flow.Neg=false:=by simpa using fun e=>p2 (.inr e)
  rw[it_f (by simp[p3,p4])];by_cases h0:k=0
  ·subst h0;rw[ck_t (by simp),show decide ((0:Int)<((0:Nat):Int))=false by simp];simp only[Bool.false_and,Bs,Ab];rw[ck_t (by simp),Ag (by omega),it_f (by simp),A7 (by omega)]
  have h0:0<k:=by omega
  rw[ck_t (by simp[Au];omega),show decide ((0:Int)<(k:Int))=true by simp;omega];simp only[Gau,Br];rw[Sa hp h0];simp only[Ab];have hq:=h.sz _ (wzi5 hp h0);generalize c.Points.getD (k-1) default=q at *;rw[ck_t (by simp[Au];omega)];by_cases p5:p.Stage<=q.Stage
  ·rw[show decide (p.Stage<=q.Stage)=true by simp[p5]];simp only[E4,Bs,Ab];rw[Aj ⟨h0,.inl p5⟩,it_t (by simp)]
  ·rw[show decide (p.Stage<=q.Stage)=false by simp[p5]];simp only[Ft,Br,Ab];rw[K6 hz hq (by omega) (by omega) (by omega) (by omega)];simp only[Ab];by_cases p6:rq p.Flow<rq q.Flow
   ·rw[Aj ⟨h0,.inr p6⟩,it_t (by simp[FZ,p6])]
   ·rw[Ag (by simp[p5,p6]),it_f (by simp[FZ,p6]),A7 (by omega)]
 ·simp only[Qe];rw[it_n (by omega)]
structure SSz(s:Al):Prop where
 c:CSz s.Curve
 w:Sz 1048576 s.Weight
structure LSz(l:List Al):Prop where
 len:l.length<=1048576
 sz:∀s,s∈l->SSz s
def BB(s:Al):Prop:=0<=s.From/\s.From<s.To/\s.To<=1402560/\-1000<=s.Datum/\s.Datum<=1000/\Vd s.Weight/\Fl s.Curve=0
noncomputable instance(s:Al):Decidable (BB s):=inferInstanceAs (Decidable (_/\_))
def spnF(l:List Al)(k:Nat)(s:Al):Option Int:=if BB s/\(0<k->(l.getD (k-1) default).To<=s.From) then none else some 1
def Ga(l:List Al):Int:=if 400<l.length then 2 else(scan (spnF l) 0 l).getD 0
theorem qzus{s:Al}(h:SSz s):Kp s=some (decide (BB s)):=by
 unfold Kp;by_cases p:s.From<0\/s.To<=s.From\/1402560<s.To\/s.Datum < -1000\/1000<s.Datum
 ·rw[it_t (by rcases p with p|p|p|p|p<;>simp[p])];rw[AA (fun e=>by unfold BB at e;omega)]
 ·rw[it_f (by simp;omega),QG (h.w.mono (by omega))];simp only[Ab];by_cases p2:Vd s.Weight
  ·rw[AD p2,Br,qzri h.c];simp only[Ab,BZ];congr 1;refine decide_eq_decide.2 ⟨fun e=>⟨by omega,by omega,by omega,by omega,by omega,p2,e⟩,fun e=>e.2.2.2.2.2.2⟩
  ·rw[AA p2,Bs];simp only[Ab,Co];rw[AA (fun e=>p2 e.2.2.2.2.2.1)]
theorem qzu3{l:List Al}(h:LSz l):EO l=some (Ga l):=by
 unfold EO Ga;by_cases h1:400<l.length
 ·rw[it_d (by omega),Aj h1]
 rw[it_n (by omega),Ag h1];rw[qz4u (l:=l) (fun k=>(if k=0 then 0 else(l.getD (k-1) default).To,(k:Int))) (spnF l) (by omega) ?_ ?_ (by simp)]
 ·simp only[Ab];exact RZ
 ·intro k s hs;have hk:=(AE.1 hs).1;have hz:=h.sz s (AI hs);simp only[Qf];rw[it_d (by omega),at_e rfl hs];simp only[Ab];rw[qzus hz];simp only[Ab];by_cases p:BB s
  ·have p0:=p.1;by_cases p2:0<k->(l.getD (k-1) default).To<=s.From
   ·have e1:spnF l k s=none:=Aj ⟨p,p2⟩;rw[e1,it_f,A7 (by omega)]
    ·simp[hs]
    ·rw[AD p];by_cases h0:k=0
     ·simp[h0];omega
     ·rw[Ag h0];have:=p2 (by omega);simp only[E4,Co];exact AA (by omega)
   ·have e1:spnF l k s=some 1:=Ag (fun e=>p2 e.2);rw[e1,it_t];rw[AD p];have h0:¬k=0:=fun e=>p2 (fun h=>by omega);rw[Ag h0];simp only[E4,Co];refine AD (Int.not_le.1 fun e=>p2 fun _=>e)
  ·have e1:spnF l k s=some 1:=Ag (fun e=>p e.1);rw[e1,it_t (by simp[p])]
 ·simp only[Qf];rw[it_n (by omega)]
def hisR(h:AU):Prop:=0<=h.From/\h.Stages.length<=40000/\h.From<=1402560-(h.Stages.length:Int)/\∀s,s∈h.Stages->0<=s/\s<=1000
instance (h:AU):Decidable (hisR h):=inferInstanceAs (Decidable (_/\_))
theorem qz38{p:Int->Bool}:∀(l:List Int) (k:Nat),(0<=(scan (fun k s=>if p s then some (k:Int) else none) k l).getD (-1))↔∃s,s∈l/\p s=true
 |[],k=>by simp[scan]
 |x :: l,k=>by
  have:=qz38 (p:=p) l (k+1);unfold scan;by_cases h:p x=true
  ·simp[h]
  ·have h':p x=false:=by simpa using h
   simp only[h',Jy,C9,this,AY,exists_eq_or_imp,false_or]
structure HSz(h:AU)(l:List Al):Prop where
 l:LSz l
 n:h.Stages.length<=1048576
structure CrvR(c:Bg):Prop where
 sz:CSz c
 pos:0<c.Points.length
 len:c.Points.length<=16
 st:∀p,p∈c.Points->-1000<=p.Stage/\p.Stage<=2000
 vd:∀p,p∈c.Points->Vd p.Flow
 asc:∀k (h:k+1<c.Points.length),c.Points[k].Stage<c.Points[k+1].Stage
theorem NA{c:Bg}(h:CSz c)(e:Fl c=0):CrvR c:=by
 unfold Fl at e;split at e
 ·cases e
 ·rename_i hl
  have cy:scan (crvF c.Points) 0 c.Points=none:=by
   cases hs:scan (crvF c.Points) 0 c.Points with
   |none=>rfl
   |some o =>
    rw[hs]at e;have e:o=0:=e;subst e
    have:∀(k:Nat) (l:List Bw),scan (crvF c.Points) k l=some 0->False:=by
     intro k l;induction l generalizing k with
     |nil=>intro e;cases e
     |cons x l ih =>
      intro e;unfold scan at e;split at e
      ·rename_i o ho;cases e;unfold crvF at ho;split at ho
       ·cases ho
       ·split at ho;·cases ho
        ·split at ho<;>cases ho
      ·exact ih _ e
    exact(this _ _ hs).elim
  have at':∀i (hi:i<c.Points.length),crvF c.Points i c.Points[i]=none:=fun i hi=>by
   have:=Fj _ _ cy i _ (AC hi)
   rwa [Bq]at this
  have key:∀i (hi:i<c.Points.length),(-1000<=c.Points[i].Stage/\c.Points[i].Stage<=2000)/\Vd c.Points[i].Flow/\(0<i->¬c.Points[i].Stage<=(c.Points.getD (i-1) default).Stage):=fun i hi=>by
   have:=at' i hi;unfold crvF at this;split at this
   ·cases this
   ·rename_i h1;split at this
    ·cases this
    ·rename_i h2;split at this
     ·cases this
     ·rename_i h3;exact⟨by omega,Decidable.byContradiction fun e=>h2 (.inl e),fun h0 h4=>h3 ⟨h0,.inl h4⟩⟩
  refine⟨h,by omega,by omega,fun p hp=>?_,fun p hp=>?_,fun k hk=>?_⟩
  ·obtain⟨i,hi,rfl⟩:=Gbp hp;exact(key i hi).1
  ·obtain⟨i,hi,rfl⟩:=Gbp hp;exact(key i hi).2.1
  ·have:=(key (k+1) hk).2.2 (by omega);simp[List.getD,show k<c.Points.length by omega]at this;exact this
theorem wzfr{n d:Int}(h1:-999999999999999<=n)(h2:n<=999999999999999)(h3:-999999999999999<=d)(h4:d<=999999999999999)(h0:d≠0):PW n d=some ⟨rof ((n:Rat) / (d:Rat)),0⟩:=by
 unfold PW;rw[Z5 h1 h2,Z5 h3 h4];simp only[Ab];rw[it_f (show(bif !true then true else !true)=false from rfl),it_n h0,Z6 h1 h2,Z6 h3 h4];simp only[Ab];have e1:sv (bs d.natAbs)≠0:=by rw[AN];omega
 rw[K9 (AS (QK (by omega)) (by omega)) (AS (QK (by omega)) (by omega)) e1];simp only[Ab,AN];rw[<-QJ n,<-QJ d,wzsc _ _ (by omega) (by omega),Nat.mul_one,Nat.one_mul];rfl
structure Nx(l:List Bw)(s:Int)(n:Nat):Prop where
 le:n<=l.length
 lo:∀k (h:k<l.length),k<n->l[k].Stage<=s
 hi:∀k (h:k<l.length),n<=k->s<l[k].Stage
theorem Nx.uniq{l:List Bw}{s:Int}{n m:Nat}(h:Nx l s n)(k:Nx l s m):n=m:=by
 rcases Nat.lt_trichotomy n m with e|e|e
 ·have:=h.hi n (by have:=k.le;omega) (A8 _);have:=k.lo n (by have:=k.le;omega) e;omega
 ·exact e
 ·have:=k.hi m (by have:=h.le;omega) (A8 _);have:=h.lo m (by have:=h.le;omega) e;omega
def BI(l:List Bw)(s:Int)(n:Nat):Rat :=
 if n=0 then 0 else if n=l.length then rq (l.getD (n-1) default).Flow else
  rq (l.getD (n-1) default).Flow+(((s-(l.getD (n-1) default).Stage:Int):Rat) / (((l.getD n default).Stage-(l.getD (n-1) default).Stage:Int):Rat))*(rq (l.getD n default).Flow-rq (l.getD (n-1) default).Flow)
theorem Dq{α:Type}[Inhabited α]{l:List α}{k:Nat}(h:k<l.length):l.getD k default=l[k]:=by simp[List.getD,h]
theorem NB{c:Bg}(H:CrvR c):∀(j k:Nat) (hk:k<c.Points.length) (hj:j<k),(c.Points[j]'(by omega)).Stage<c.Points[k].Stage:=by
 intro j k hk hj;induction k with
 |zero=>omega
 |succ k ih =>
  have h1:=H.asc k hk;by_cases e:j=k
  ·subst e;exact h1
  ·exact Int.lt_trans (ih (by omega) (by omega)) h1
theorem qz47{c:Bg}(H:CrvR c){s:Int}(hs:-100000<=s/\s<=100000){n:Nat}(hn:Nx c.Points s n):Sz 4194304 (rof (BI c.Points s n)) /\
  (0<n->n<c.Points.length->Kn (s-(c.Points.getD (n-1) default).Stage) ((c.Points.getD n default).Stage-(c.Points.getD (n-1) default).Stage)=some (rof (((s-(c.Points.getD (n-1) default).Stage:Int):Rat) / (((c.Points.getD n default).Stage-(c.Points.getD (n-1) default).Stage:Int):Rat)),0) /\
   PW (s-(c.Points.getD (n-1) default).Stage) ((c.Points.getD n default).Stage-(c.Points.getD (n-1) default).Stage)=some ⟨rof (((s-(c.Points.getD (n-1) default).Stage:Int):Rat) / (((c.Points.getD n default).Stage-(c.Points.getD (n-1) default).Stage:Int):Rat)),0⟩ /\
   ∀(x:Af),x=rof (((s-(c.Points.getD (n-1) default).Stage:Int):Rat) / (((c.Points.getD n default).Stage-(c.Points.getD (n-1) default).Stage:Int):Rat)) -> (bd (De (c.Points.getD n default).Flow (c.Points.getD (n-1) default).Flow) fun r3=>bd (Dd x r3) fun r4=>bd (Cp (c.Points.getD (n-1) default).Flow r4) fun r5=>some r5)=some (rof (BI c.Points s n)) /\ ∀{Y:Type} (K:Af->Option Y),(bd (Qc (c.Points.getD n default).Flow (c.Points.getD (n-1) default).Flow) fun r3=>bd (Qa x r3) fun r4=>bd (Mv (c.Points.getD (n-1) default).Flow r4) fun r5=>K r5)=K (rof (BI c.Points s n))):=by
 unfold BI;have aC:=hn.le;by_cases h0:n=0
 ·rw[Aj h0];exact⟨Sz.zero _,fun h=>by omega⟩
 rw[Ag h0];have h1:n-1<c.Points.length:=by omega
 have hp:c.Points.getD (n-1) default∈c.Points:=by rw[Dq h1];exact Jk h1
 have s1:=(H.sz.sz _ hp);by_cases h2:n=c.Points.length
 ·rw[Aj h2];refine⟨(IA s1).mono (by omega),fun _ h=>by omega⟩
 rw[Ag h2];have h3:n<c.Points.length:=by omega
 have hq:c.Points.getD n default∈c.Points:=by rw[Dq h3];exact Jk h3
 have s2:=(H.sz.sz _ hq);have t1:=H.st _ hp;have t2:=H.st _ hq;have t3:(c.Points.getD (n-1) default).Stage<(c.Points.getD n default).Stage:=by rw[Dq h1,Dq h3];exact NB H (n-1) n h3 (by omega)
 generalize c.Points.getD (n-1) default=p at *;generalize c.Points.getD n default=q at *;obtain⟨m1,m2⟩:=wzai (n:=s-p.Stage) (d:=q.Stage-p.Stage) (by omega) (by omega) (by omega) (by omega) (by omega);have m3:=wzfr (n:=s-p.Stage) (d:=q.Stage-p.Stage) (by omega) (by omega) (by omega) (by omega) (by omega);obtain⟨d1,d2⟩:=Z2 s2 s1 (by omega) (by omega) (by omega) (by omega);have d3:=wzit s2 s1 (by omega) (by omega) (by omega) (by omega);generalize (((s-p.Stage:Int):Rat) / ((q.Stage-p.Stage:Int):Rat))=z at *;obtain⟨u1,u2⟩:=K5 m2 d2 (by omega) (by omega) (by omega) (by omega);have u3:=wzi9 m2 d2 (by omega) (by omega) (by omega) (by omega);rw[Cl,Cl]at u1 u2 u3;obtain⟨v1,v2⟩:=K4 s1 u2 (by omega) (by omega) (by omega) (by omega);have v3:=Z3 s1 u2 (by omega) (by omega) (by omega) (by omega);rw[Cl]at v1 v2 v3;refine⟨v2.mono (by omega),fun _ _=>⟨m1,m3,fun x hx=>⟨?_,fun K=>?_⟩⟩⟩
 ·rw[hx,d1];simp only[Ab];rw[u1];simp only[Ab];rw[v1];rfl
 ·rw[hx,d3];simp only[Ab];rw[u3];simp only[Ab];rw[v3];rfl
theorem qz0s{c:Bg}(H:CrvR c)(s:Int):∃n,Nx c.Points s n/\Jv (c.Points.length:Int) (fun a0=>Kd a0 c s)=some (n:Int):=by
 have hl:=H.len;unfold Jv
 obtain⟨o,e,n,rfl,hn⟩:=C6 (s:=((0:Int),(c.Points.length:Int))) (body:=JZ (fun a0=>Kd a0 c s)) (fun t=>∃i j:Nat,t=((i:Int),(j:Int))/\i<=j/\j<=c.Points.length/\(∀k (h:k<c.Points.length),k<i->c.Points[k].Stage<=s)/\(∀k (h:k<c.Points.length),j<=k->s<c.Points[k].Stage)) (fun t=>(t.2-t.1).toNat) (fun o=>∃n:Nat,o=(n:Int)/\Nx c.Points s n) (by
  rintro t ⟨i,j,rfl,iy,hj,lo,hi⟩;simp only[JZ];by_cases hlt:i<j
  ·left;have gY:Int.fdiv (((i:Int)+(j:Int))%18446744073709551616) 2=(((i+j) / 2:Nat):Int):=by rw[show(((i:Int)+(j:Int))%18446744073709551616)=((i+j:Nat):Int) by omega,Lb _ (by omega)];omega
   have hm:(i+j) / 2<c.Points.length:=by omega
   rw[it_d (by omega),A7 (by omega),gY,A7 (by omega)];simp only[Kd];rw[at_e rfl (AC hm)];simp only[Ab];by_cases aL:s<c.Points[(i+j) / 2].Stage
   ·rw[B0 aL];refine⟨_,rfl,⟨i,(i+j) / 2,rfl,by omega,by omega,lo,fun k hk h2=>?_⟩,by dsimp only;omega⟩;by_cases e:k=(i+j) / 2
    ·subst e;exact aL
    ·exact Int.lt_trans aL (NB H _ k hk (by omega))
   ·rw[B9 aL,A7 (by omega)];refine⟨_,rfl,⟨(i+j) / 2+1,j,by simp,by omega,hj,fun k hk h2=>?_,hi⟩,by dsimp only;omega⟩;by_cases e:k=(i+j) / 2
    ·subst e;omega
    ·have:=NB H k ((i+j) / 2) hm (by omega);omega
  ·right;rw[it_n (by omega)];obtain rfl:i=j:=by omega
   exact⟨_,rfl,i,rfl,hj,lo,hi⟩) ⟨0,c.Points.length,rfl,by omega,A8 _,fun k _ h=>by omega,fun k h h2=>by omega⟩ (by show((c.Points.length:Int)-0).toNat<_;omega)
 exact⟨n,hn,by rw[e];rfl⟩
theorem wzab{c:Bg}(H:CrvR c){s:Int}(hs:-100000<=s/\s<=100000){n:Nat}(hn:Nx c.Points s n):Mx c s=some (rof (BI c.Points s n)):=by
 obtain⟨m,hm,e⟩:=qz0s H s;obtain rfl:=hn.uniq hm;have aC:=hn.le;have hl:=H.len;unfold Mx;rw[e];simp only[Ab];by_cases h0:n=0
 ·subst h0;rw[it_d (by simp)];unfold BI;rw[Aj rfl,Dl]
 ·rw[it_n (by omega),A7 (by omega)];have h1:n-1<c.Points.length:=by omega
  rw[at_e (n:=n-1) (by omega) (AC h1),<-Dq h1];simp only[Ab];have hp:c.Points.getD (n-1) default∈c.Points:=by rw[Dq h1];exact Jk h1
  by_cases h2:n=c.Points.length
  ·rw[it_d (by omega)];unfold BI;rw[Ag h0,Aj h2,MI (H.vd _ hp)]
  ·rw[it_n (by omega)];have h3:n<c.Points.length:=by omega
   rw[at_e rfl (AC h3),<-Dq h3];simp only[Ab];have hq:c.Points.getD n default∈c.Points:=by rw[Dq h3];exact Jk h3
   have t1:=H.st _ hp;have t2:=H.st _ hq;obtain⟨_,hk⟩:=qz47 H hs hn;obtain⟨k1,_,k2⟩:=hk (by omega) h3;rw[A7 (by omega),A7 (by omega),k1];simp only[Ab];exact(k2 _ rfl).1
section
variable {α Y ω G:Type}
theorem NC{body:G->Option (G⊕ω)}(st:Nat->G)(n:Nat)(hn:n<4611686018427387904)(hs:∀k,k<n->body (st k)=some (.inl (st (k+1)))){o:ω}(he:body (st n)=some (.inr o)){s:G}(h0:s=st 0):lp body s=some o:=by
 obtain⟨o',e,ho⟩:=Ze (body:=body) st (fun k=>k<=n) (fun k=>n-k) (fun o'=>o'=o) (by
  intro k hk;by_cases h:k<n
  ·exact .inl ⟨k+1,hs k h,h,by omega⟩
  ·right;obtain rfl:k=n:=by omega
   exact⟨_,he,rfl⟩) 0 h0 (B3 _) (by omega)
 rw[e,ho]
theorem wztc{body:G->Option (G⊕ω)}{l:List α}(st:Nat->G)(hl:l.length<4611686018427387904)(hs:∀k x,l[k]?=some x->body (st k)=some (.inl (st (k+1)))){o:ω}(he:body (st l.length)=some (.inr o)){s:G}(h0:s=st 0):lp body s=some o :=
 NC st l.length hl (fun k hk=>hs k _ (AC hk)) he h0
theorem qz72{l:List α}{k:Nat}{x:α}(h:l[k]?=some x):l.take (k+1)=l.take k++[x]:=by rw[List.take_add_one,h];rfl
theorem Sb{f:Nat->α->Option ω}:∀(k:Nat) (l:List α) (i:Nat) (x:α) (o:ω),l[i]?=some x->f (k+i) x=some o->(∀j y,j<i->l[j]?=some y->f (k+j) y=none)->scan f k l=some o
 |k,[],i,x,o,h,_,_=>by simp at h
 |k,y :: l,0,x,o,h,e,_=>by simp at h;subst h;unfold scan;rw[show f k y=some o from e]
 |k,y :: l,i+1,x,o,h,e,hn=>by
  unfold scan;rw[show f k y=none from hn 0 y (by omega) rfl]
  exact Sb (k+1) l i x o (by simpa using h) (by rwa [show k+1+i=k+(i+1) by omega]) fun j y' hj hy=>by
   have:=hn (j+1) y' (by omega) (by simpa using hy)
   rwa [show k+1+j=k+(j+1) by omega]
theorem ND{f:Nat->α->Option ω}{l:List α}(h:scan f 0 l=none){i:Nat}{x:α}(hx:l[i]?=some x):f i x=none:=by
 have:=Fj 0 l h i x hx
 rwa [Bq]at this
theorem Sc{v:Y}{k x:Int}:∀(m:List (Int×Y)),mget keqI (mput keqI m k v) x=if x=k then some v else mget keqI m x
 |[]=>by by_cases h:x=k<;>simp[mput,mget,keqI,h]
 |p :: m=>by
  unfold mput;by_cases h:k=p.1
  ·rw[show keqI k p.1=true by simp[keqI,h]];by_cases h2:x=k
   ·simp[mget,keqI,h2]
   ·have h3:keqI x k=false:=(by simp[keqI,h2]);have h4:keqI x p.1=false:=(by rw[<-h];exact h3);simp only[mget,h3,h4,Ag h2]
  ·rw[show keqI k p.1=false by simp[keqI,h]];have ih:=Sc (v:=v) (k:=k) (x:=x) m;by_cases h2:x=p.1
   ·have h3:keqI x p.1=true:=(by simp[keqI,h2]);simp only[mget,h3];rw[Ag (fun e:x=k=>h (e.symm.trans h2))]
   ·have h3:keqI x p.1=false:=(by simp[keqI,h2]);simp only[mget,h3];exact ih
end
def nxN(l:List Bw)(s:Int):Nat:=open Classical in if h:∃n,Nx l s n then h.choose else 0
def flw(c:Bg)(s:Int):Af:=rof (BI c.Points s (nxN c.Points s))
theorem NE{c:Bg}(H:CrvR c)(s:Int):Nx c.Points s (nxN c.Points s):=by
 have h:∃n,Nx c.Points s n:=let ⟨n,hn,_⟩:=qz0s H s;⟨n,hn⟩
 unfold nxN;rw[dif_pos h];exact h.choose_spec
theorem wzti{c:Bg}(H:CrvR c){s:Int}(hs:-100000<=s/\s<=100000):Sz 4194304 (flw c s):=(qz47 H hs (NE H s)).1
theorem wzk7{c:Bg}(h:CSz c)(e:Fl c=0){s:Int}(hs:-100000<=s/\s<=100000):My c s=some (flw c s):=by unfold My;rw[qzri h,Ab,B0 e,wzab (NA h e) hs (NE (NA h e) s)];rfl
structure LevR(h:AU)(l:List Al):Prop where
 sz:HSz h l
 his:hisR h
 len:l.length<=400
 span:∀s,s∈l->BB s
 asc:∀k (hk:k+1<l.length),l[k].To<=l[k+1].From
 gap:∀s,s∈l->h.From<=s.From/\s.To<=h.From+(h.Stages.length:Int)
theorem qz8q{α:Type}{f:Nat->α->Option Int}{z:Int}(hf:∀k x o,f k x=some o->o≠z):∀(k:Nat) (l:List α) ,scan f k l≠some z
 |k,[]=>by simp[scan]
 |k,x :: l=>by
  unfold scan;intro e;split at e
  ·rename_i o ho;cases e;exact hf _ _ _ ho rfl
  ·exact qz8q hf (k+1) l e
theorem wze2{α:Type}{f:Nat->α->Option Int}{l:List α}(hf:∀k x o,f k x=some o->o≠0)(h:(scan f 0 l).getD 0=0):scan f 0 l=none:=by
 cases e:scan f 0 l with
 |none=>rfl
 |some o =>rw[e]at h;have h:o=0:=h;subst h;exact(qz8q hf _ _ e).elim
theorem LevR.far{h:AU}{l:List Al}(H:LevR h l):∀(i j:Nat) (hj:j<l.length) (hi:i<j),(l[i]'(by omega)).To<=l[j].From:=by
 intro i j hj hi;induction j with
 |zero=>omega
 |succ j ih =>
  have h1:=H.asc j hj;by_cases e:i=j
  ·subst e;exact h1
  ·have h2:=ih (by omega) (by omega);have h3:=(H.span _ (Jk (show j<l.length by omega))).2.1;omega
def inS(s:Al)(t:Int):Prop:=s.From<=t/\t<s.To
instance (s:Al)(t:Int):Decidable (inS s t):=inferInstanceAs (Decidable (_/\_))
def atF(t:Int)(k:Nat)(s:Al):Option Int:=if inS s t then some (k:Int) else none
end
end Go.Am

