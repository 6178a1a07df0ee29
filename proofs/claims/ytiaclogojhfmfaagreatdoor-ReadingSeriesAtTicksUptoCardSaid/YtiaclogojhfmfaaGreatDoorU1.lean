/- Part U1: the mathematics of the functions of this seat. No condition. -/
import Derived.Test.YtiaclogojhfmfaaGreatDoorR2
set_option linter.unusedSimpArgs false
set_option linter.unusedVariables false
namespace Go.Am
section
variable {α ω O:Type}
def scan(f:Nat->α->Option ω):Nat->List α->Option ω
 |_,[]=>none
 |k,x :: l=>match f k x with
  |some o=>some o
  |none=>scan f (k+1) l
theorem wz6o{f:Nat->α->Option ω}:∀(k:Nat) (l:List α),scan f k l=none->∀i x,l[i]?=some x->f (k+i) x=none
 |k,[],_,i,x,h=>by simp at h
 |k,y :: l,e,i,x,h=>by
  unfold scan at e;split at e
  ·cases e
  ·rename_i e1;cases i with
   |zero=>simp at h;subst h;exact e1
   |succ i=>have:=wz6o (k+1) l e i x (by simpa using h);rwa [show k+(i+1)=k+1+i by omega]
theorem jzax{f:Nat->α->Option ω}:∀(k:Nat) (l:List α),(∀i x,l[i]?=some x->f (k+i) x=none)->scan f k l=none
 |k,[],_=>rfl
 |k,y :: l,e=>by unfold scan;rw[show f k y=none from e 0 y rfl];exact jzax (k+1) l fun i x h=>by have:=e (i+1) x (by simpa using h);rwa [show k+(i+1)=k+1+i by omega]at this
theorem jzdu{f:Nat->α->Option ω}{l:List α}{k:Nat}{x:α}(h:l[k]?=some x):scan f k (l.drop k)=(match f k x with
  |some o=>some o
  | none=>scan f (k+1) (l.drop (k+1))):=by
 obtain⟨hk,rfl⟩:=Gbg.1 h;rw[List.drop_eq_getElem_cons hk];rfl
def sOut:Option ω->Unit⊕ω
 |some o=>.inr o
 |none=>.inl ()
theorem jzak{body:O->Option (O⊕(Unit⊕ω))}{l:List α}(st:Nat->O)(f:Nat->α->Option ω)(hl:l.length<=1000000000)(hs:∀(k:Nat) (x:α),l[k]?=some x->body (st k)=some (match f k x with | some o=>.inr (.inr o) | none=>.inl (st (k+1)))) (he:body (st l.length)=some (.inr (.inl ()))) {s:O} (h0:s=st 0):lp body s=some (sOut (scan f 0 l)):=by
 obtain⟨o,e,ho⟩:=jzd2 (body:=body) st (fun k=>k<=l.length/\scan f 0 l=scan f k (l.drop k)) (fun k=>l.length-k) (fun o=>o=sOut (scan f 0 l)) (by
  rintro k ⟨hk,hsc⟩;by_cases hlt:k<l.length
  ·have hx:=Gbe hlt;have h1:=hs k _ hx;have h2:=jzdu (f:=f) hx;cases hf:f k l[k] with
   |some o =>right;rw[hf]at h1 h2;exact⟨_,h1,by rw[hsc,h2];rfl⟩
   |none =>left;rw[hf]at h1 h2;exact⟨k+1,h1,⟨hlt,hsc.trans h2⟩,by omega⟩
  ·right;have:k=l.length:=by omega
   subst this;refine⟨_,he,?_⟩;rw[hsc,List.drop_length];rfl) 0 h0 ⟨Gdl _,rfl⟩ (by omega)
 rw[e,ho]
theorem wz3m{body:Int->Option (Int⊕(Unit⊕ω))}{l:List α}(f:Nat->α->Option ω)(hl:l.length<=1000000000)(hs:∀(k:Nat) (x:α),l[k]?=some x->body (k:Int)=some (match f k x with | some o=>.inr (.inr o) | none=>.inl ((k:Int)+1))) (he:body (l.length:Int)=some (.inr (.inl ()))):lp body 0=some (sOut (scan f 0 l)) :=
 jzak (fun k=>(k:Int)) f hl (fun k x h=>by rw[hs k x h];cases f k x<;>rfl) he rfl
end
theorem wz5y{o:Option Int}{z:Int}:(match sOut o with | .inl ()=>some z | .inr o=>some o)=some (o.getD z):=by cases o<;>rfl
theorem wz9f{α:Type}[Inhabited α]{l:List α}{k:Nat}{x:α}(h:l[k]?=some x)(h0:0<k):at? l ((k:Int)-1)=some (l.getD (k-1) default):=by
 have hk:=(Gbg.1 h).1;have h1:k-1<l.length:=by omega
 rw[at_e (n:=k-1) (by omega) (Gbe h1)];simp[List.getD,h1]
theorem jzay{α:Type}[Inhabited α]{l:List α}{k:Nat}{x:α}(h:l[k]?=some x)(h0:0<k):l.getD (k-1) default∈l:=by
 have hk:=(Gbg.1 h).1;have h1:k-1<l.length:=by omega
 simp[List.getD,h1]
theorem wz6q{α ω:Type}{f:Nat->α->Option ω}:∀(k:Nat) (l:List α) (o:ω),scan f k l=some o->∃i x,l[i]?=some x/\f (k+i) x=some o/\∀j y,j<i->l[j]?=some y->f (k+j) y=none
 |k,[],o,h=>by cases h
 |k,y :: l,o,h=>by
  unfold scan at h;split at h
  ·rename_i o' ho;cases h;exact⟨0,y,rfl,ho,fun j y h=>by omega⟩
  ·rename_i hn;obtain⟨i,x,h1,h2,h3⟩:=wz6q (k+1) l o h;refine⟨i+1,x,by simpa using h1,by rwa [show k+(i+1)=k+1+i by omega],fun j z hj hz=>?_⟩;cases j with
   |zero=>simp at hz;subst hz;exact hn
   |succ j =>
    have:=h3 j z (by omega) (by simpa using hz)
    rwa [show k+(j+1)=k+1+j by omega]
section
variable {α U ω O:Type}
theorem jzct{body:O->Option (O⊕ω)}(st:Nat->O)(n:Nat)(hn:n<4611686018427387904)(hs:∀k,k<n->body (st k)=some (.inl (st (k+1)))){o:ω}(he:body (st n)=some (.inr o)){s:O}(h0:s=st 0):lp body s=some o:=by
 obtain⟨o',e,ho⟩:=jzd2 (body:=body) st (fun k=>k<=n) (fun k=>n-k) (fun o'=>o'=o) (by
  intro k hk;by_cases h:k<n
  ·exact .inl ⟨k+1,hs k h,h,by omega⟩
  ·right;obtain rfl:k=n:=by omega
   exact⟨_,he,rfl⟩) 0 h0 (Gdl _) (by omega)
 rw[e,ho]
theorem wz69{body:O->Option (O⊕ω)}{l:List α}(st:Nat->O)(hl:l.length<4611686018427387904)(hs:∀k x,l[k]?=some x->body (st k)=some (.inl (st (k+1)))){o:ω}(he:body (st l.length)=some (.inr o)){s:O}(h0:s=st 0):lp body s=some o :=
 jzct st l.length hl (fun k hk=>hs k _ (Gbe hk)) he h0
theorem jzlb{l:List α}{k:Nat}{x:α}(h:l[k]?=some x):l.take (k+1)=l.take k++[x]:=by rw[List.take_add_one,h];rfl
theorem wz5l{f:Nat->α->Option ω}{l:List α}(h:scan f 0 l=none){i:Nat}{x:α}(hx:l[i]?=some x):f i x=none:=by
 have:=wz6o 0 l h i x hx
 rwa [Gdk]at this
end
def SAsc(l:List Int):Prop:=l.Pairwise (· < ·)
theorem jzyr(a:Int):∀l x,x∈jzov a l↔x=a\/x∈l
 |[],x=>by simp[jzov]
 |b :: l,x=>by
  unfold jzov;cases decide (a<=b)
  ·show x∈b :: jzov a l↔_;rw[Gb3,jzyr a l x,Gb3];constructor
   ·rintro(h|h|h);·exact .inr (.inl h)
    ·exact .inl h
    ·exact .inr (.inr h)
   ·rintro(h|h|h);·exact .inr (.inl h)
    ·exact .inl h
    ·exact .inr (.inr h)
  ·show x∈a :: b :: l↔_;exact Gb3
theorem jzyv(a:Int):∀l,SAsc l->a∉l->SAsc (jzov a l)
 |[],_,_=>List.pairwise_singleton _ _
 |b :: l,h,hn=>by
  obtain⟨h1,h2⟩:=Gcf.1 h;have hab:a≠b:=fun e=>hn (by simp[e]);have hal:a∉l:=fun e=>hn (by simp[e]);unfold jzov;cases hd:decide (a<=b)
  ·have hd:=of_decide_eq_false hd;refine Gcf.2 ⟨fun c hc=>?_,jzyv a l h2 hal⟩;rcases(jzyr a l c).1 hc with rfl|hc
   ·omega
   ·exact h1 c hc
  ·have hd:=Gd7 hd;refine Gcf.2 ⟨fun c hc=>?_,h⟩;rcases Gb3.1 hc with rfl|hc
   ·omega
   ·have:=h1 c hc;omega
theorem jzyq:∀l x,x∈jzpf l↔x∈l
 |[],x=>Iff.rfl
 |a :: l,x=>by show x∈jzov a (jzpf l)↔_;rw[jzyr,jzyq l x,Gb3]
theorem jzyw:∀l:List Int,l.Nodup->SAsc (jzpf l)
 |[],_=>List.Pairwise.nil
 |a :: l,h=>by obtain⟨h1,h2⟩:=List.nodup_cons.1 h;exact jzyv a _ (jzyw l h2) fun e=>h1 ((jzyq l a).1 e)
theorem jzyz(a:Int):∀l,(jzov a l).length=l.length+1
 |[]=>rfl
 |b :: l=>by
  unfold jzov;cases decide (a<=b)
  ·show(b :: jzov a l).length=_;simp[jzyz a l]
  ·rfl
theorem jzy0:∀l,(jzpf l).length=l.length
 |[]=>rfl
 |a :: l=>by show(jzov a (jzpf l)).length=_;rw[jzyz,jzy0 l];rfl
theorem wz7m(k:Int):∀(m:List (Int×Bool)),((mput keqI m k true).map (·.1))=if k∈m.map (·.1) then m.map (·.1) else m.map (·.1)++[k]
 |[]=>by simp[mput]
 |p :: m=>by
  unfold mput;by_cases h:k=p.1
  ·rw[show keqI k p.1=true by simp[keqI,h]];simp[h]
  ·rw[show keqI k p.1=false by simp[keqI,h]];simp only[Gb1];rw[wz7m k m];by_cases h2:k∈m.map (·.1)
   ·rw[Gd4 h2,Gd4 (Gb4 _ h2)]
   ·rw[Gd3 h2,Gd3 (by simp only[Gb3,Gd6];exact⟨h,h2⟩)];rfl
theorem jzzc{k:Int}{m:List (Int×Bool)}(h:(m.map (·.1)).Nodup):((mput keqI m k true).map (·.1)).Nodup:=by
 rw[wz7m];split
 ·exact h
 ·rename_i hn;rw[List.nodup_append];exact⟨h,by simp,fun a ha b hb e=>by rw[Gcc.1 hb]at e;subst e;exact hn ha⟩
theorem jzy9{k x:Int}{m:List (Int×Bool)}:x∈(mput keqI m k true).map (·.1)↔x∈m.map (·.1)\/x=k:=by
 rw[wz7m];split
 ·rename_i h;exact⟨.inl,fun h'=>h'.elim id fun e=>e▸h⟩
 ·simp only[Gb2,Gcc]
theorem jzy7{k:Int}{m:List (Int×Bool)}:(mput keqI m k true).length<=m.length+1:=by
 have:((mput keqI m k true).map (·.1)).length<=m.length+1:=by rw[wz7m];split<;>simp
 simpa using this
structure CSz(c:wz2d):Prop where
 len:c.Points.length<=1048576
 sz:∀p,p∈c.Points->Sz 1048576 p.Flow
noncomputable def crvF(l:List wz2g)(k:Nat)(p:wz2g):Option Int :=
 if p.Stage < -1000\/2000<p.Stage then some 3 else if ¬Vd p.Flow\/p.Flow.Neg=true then some 1
 else if 0<k/\(p.Stage<=(l.getD (k-1) default).Stage\/rq p.Flow<rq (l.getD (k-1) default).Flow) then some 1 else none
noncomputable def wz5h(c:wz2d):Int:=if c.Points.length<1\/16<c.Points.length then 2 else(scan (crvF c.Points) 0 c.Points).getD 0
theorem wz49{p q:Rat}:cmpQ p q<0↔p<q:=by
 unfold cmpQ;split
 ·simp[*]
 ·split<;>simp[*]
theorem wz7j{c:wz2d}(h:CSz c):wz31 c=some (wz5h c):=by
 unfold wz31 wz5h;by_cases h1:c.Points.length<1
 ·rw[it_t (by simp;omega),Gd4 (.inl h1)]
 by_cases h2:16<c.Points.length
 ·rw[it_t (by simp;omega),Gd4 (.inr h2)]
 rw[it_f (by simp;omega),ifN];rw[wz3m (l:=c.Points) (crvF c.Points) (by omega) ?_ ?_]
 ·simp only[bd_s];exact wz5y
 ·intro k p hp;have hk:=(Gbg.1 hp).1;have hm:=Gb9 hp;have hz:=h.sz p hm;simp only[wz5e];rw[it_d,at_e rfl hp];simp only[bd_s,wz5p,crvF];by_cases p1:p.Stage < -1000\/2000<p.Stage
  ·rw[Gd4 p1,it_t (by rcases p1 with p1|p1<;>simp<;>omega)]
  rw[Gd3 p1,it_f (by simp;omega)];simp only[wz5b];rw[qzga (hz.mono (by omega))];simp only[bd_s];by_cases p2:¬Vd p.Flow\/p.Flow.Neg=true
  ·rw[Gd4 p2,it_t (by rcases p2 with p2|p2<;>simp[p2])]
  rw[Gd3 p2];have p3:Vd p.Flow:=Decidable.byContradiction fun e=>p2 (.inl e);have p4:p.Flow.Neg=false:=by simpa using fun e=>p2 (.inr e)
  rw[it_f (by simp[p3,p4])];by_cases h0:k=0
  ·subst h0;rw[ck_t (by simp),show decide ((0:Int)<((0:Nat):Int))=false by simp];simp only[Gam,wzcn,bd_s];rw[ck_t (by simp),ifN,it_f (by simp),qz3]
  have h0:0<k:=by omega
  rw[ck_t (by simp[inB];omega),show decide ((0:Int)<(k:Int))=true by simp;omega];simp only[Gau,qzbx];rw[wz9f hp h0];simp only[bd_s];have hq:=h.sz _ (jzay hp h0);generalize c.Points.getD (k-1) default=q at *;rw[ck_t (by simp[inB];omega)];by_cases p5:p.Stage<=q.Stage
  ·rw[show decide (p.Stage<=q.Stage)=true by simp[p5]];simp only[Gaq,wzcn,bd_s];rw[Gd4 ⟨h0,.inl p5⟩,it_t (by simp)]
  ·rw[show decide (p.Stage<=q.Stage)=false by simp[p5]];simp only[Gap,qzbx,bd_s];rw[jz9 hz hq (by omega) (by omega) (by omega) (by omega)];simp only[bd_s];by_cases p6:rq p.Flow<rq q.Flow
   ·rw[Gd4 ⟨h0,.inr p6⟩,it_t (by simp[wz49,p6])]
   ·rw[Gd3 (by simp[p5,p6]),it_f (by simp[wz49,p6]),qz3]
 ·simp only[wz5e];rw[it_n]
def rlt(a b:jzn4):Prop:=a.Gauge<b.Gauge\/a.Gauge=b.Gauge/\a.Seq<b.Seq
def rsm(a b:jzn4):Prop:=a.Gauge=b.Gauge/\a.Seq=b.Seq
def rrp(a b:jzn4):Prop:=a.Gauge=b.Gauge/\a.Seq=b.Seq/\a.From=b.From/\a.To=b.To/\a.Stage=b.Stage
instance (a b:jzn4):Decidable (rlt a b):=by unfold rlt;infer_instance
instance (a b:jzn4):Decidable (rsm a b):=by unfold rsm;infer_instance
instance (a b:jzn4):Decidable (rrp a b):=by unfold rrp;infer_instance
def RR(r:jzn4):Prop:=(0<=r.Gauge/\r.Gauge<=39)/\(0<=r.Seq/\r.Seq<=1099511627776)/\0<=r.From/\r.From<r.To/\r.To<=1402560/\(0<=r.Stage/\r.Stage<=1000)/\(0<=r.Known/\r.Known<=14609)
instance (r:jzn4):Decidable (RR r):=by unfold RR;infer_instance
theorem jzrg{a b c:jzn4}(h:rlt a b)(k:rlt b c):rlt a c:=by unfold rlt at *;omega
theorem jzqr{a b:jzn4}(h:rlt a b):¬rsm a b:=by unfold rlt at h;unfold rsm;omega
theorem jzpl{a b:jzn4}(h:rlt a b):¬rsm b a:=by unfold rlt at h;unfold rsm;omega
theorem jzqg(a:jzn4):rsm a a:=⟨rfl,rfl⟩
theorem rsm.symm{a b:jzn4}(h:rsm a b):rsm b a:=⟨h.1.symm,h.2.symm⟩
theorem rsm.trans{a b c:jzn4}(h:rsm a b)(k:rsm b c):rsm a c:=⟨h.1.trans k.1,h.2.trans k.2⟩
theorem rrp.symm{a b:jzn4}(h:rrp a b):rrp b a:=⟨h.1.symm,h.2.1.symm,h.2.2.1.symm,h.2.2.2.1.symm,h.2.2.2.2.symm⟩
theorem rrp.trans{a b c:jzn4}(h:rrp a b)(k:rrp b c):rrp a c:=⟨h.1.trans k.1,h.2.1.trans k.2.1,h.2.2.1.trans k.2.2.1,h.2.2.2.1.trans k.2.2.2.1,h.2.2.2.2.trans k.2.2.2.2⟩
theorem rrp.eq{a b:jzn4}(h:rrp a b)(k:a.Known=b.Known):a=b:=by obtain⟨h1,h2,h3,h4,h5⟩:=h;cases a;cases b;simp only at *;subst h1 h2 h3 h4 h5 k;rfl
def Asc(l:List jzn4):Prop:=l.Pairwise rlt
structure Bk(l:List jzn4):Prop where
 right:∀r,r∈l->RR r
 asc:Asc l
theorem Asc.one{l:List jzn4}(h:Asc l){a b:jzn4}(ha:a∈l)(hb:b∈l)(e:rsm a b):a=b:=by
 induction l with
 |nil=>cases ha
 |cons x l ih =>
  obtain⟨h1,h2⟩:=Gcf.1 h;rcases Gb3.1 ha with p|p<;>rcases Gb3.1 hb with q|q
  ·rw[p,q]
  ·subst p;exact absurd e (jzqr (h1 b q))
  ·subst q;exact absurd e (jzpl (h1 a p))
  ·exact ih h2 p q
structure RCon(L:List jzn4):Prop where
 right:∀r,r∈L->RR r
 rep:∀a b,a∈L->b∈L->rsm a b->rrp a b
def Best(L:List jzn4)(x:jzn4):Prop:=x∈L/\∀y,y∈L->rsm y x->x.Known<=y.Known
structure IsBk(L l:List jzn4):Prop where
 asc:Asc l
 mem:∀x,x∈l↔Best L x
theorem RCon.sub{L M:List jzn4}(h:∀x,x∈M->x∈L)(k:RCon L):RCon M := ⟨fun r hr=>k.right r (h r hr),fun a b ha hb=>k.rep a b (h a ha) (h b hb)⟩
theorem jzsu:∀(n:Nat) {L:List jzn4} {x:jzn4},x∈L->(∀r,r∈L->0<=r.Known)->x.Known.toNat<=n->∃y,Best L y/\rsm y x
 |0,L,x,hx,hp,hn=>⟨x,⟨hx,fun y hy _=>by have:=hp y hy;have:=hp x hx;omega⟩,jzqg _⟩
 |n+1,L,x,hx,hp,hn=>by
  by_cases h:∀y,y∈L->rsm y x->x.Known<=y.Known
  ·exact⟨x,⟨hx,h⟩,jzqg _⟩
  ·simp only[Classical.not_forall,Int.not_le]at h;obtain⟨y,hy,hs,hl⟩:=h;obtain⟨z,hz,hzs⟩:=jzsu n hy hp (by have:=hp y hy;have:=hp x hx;omega);exact⟨z,hz,hzs.trans hs⟩
theorem RCon.ex{L:List jzn4}(c:RCon L){x:jzn4}(hx:x∈L):∃y,Best L y/\rsm y x:=jzsu _ hx (fun r hr=>(c.right r hr).2.2.2.2.2.2.1) (Gcy _)
theorem Bk.own{l:List jzn4}(h:Bk l):IsBk l l:=⟨h.asc,fun x=>⟨fun hx=>⟨hx,fun y hy e=>by rw[h.asc.one hy hx e];exact Gaw _⟩,fun h=>h.1⟩⟩
theorem jzvh{l:List jzn4}(h:Asc l){i j:Nat}(hi:i<l.length)(hj:j<l.length)(hij:i<j):rlt l[i] l[j]:=Gcg.1 h i j hi hj hij
theorem jzrh:jzo6=some true:=by decide +kernel
theorem jztj(r:jzn4):jzom r=some (decide (RR r)):=by
 unfold jzom jzo0 RR;simp only[bd_s];by_cases h1:0<=r.Gauge/\r.Gauge<=39;rotate_left
 ·have e:(bif decide (0<=r.Gauge) then decide (r.Gauge<=39) else false)=false:=by
   by_cases h:0<=r.Gauge
   ·simp[h];omega
   ·simp[h]
  rw[e];simp[wzcn,bd_s,h1]
 by_cases h2:0<=r.Seq/\r.Seq<=1099511627776;rotate_left
 ·have e:(bif decide (0<=r.Seq) then decide (r.Seq<=1099511627776) else false)=false:=by
   by_cases h:0<=r.Seq
   ·simp[h];omega
   ·simp[h]
  rw[e];simp[qzbx,wzcn,bd_s,h1,h2]
 by_cases h3:(0<=r.From/\r.From<r.To)/\r.To<=1402560;rotate_left
 ·have e:(bif (bif (decide (0<=r.From)) then(decide (r.From<r.To)) else false) then(decide (r.To<=1402560)) else false)=false:=by
   rw[Gaj,Gaj,<-Bool.decide_and,<-Bool.decide_and,Gdw h3]
  simp[qzbx,wzcn,bd_s,h1,h2,h3]at e ⊢;by_cases f1:0<=r.From
  ·by_cases f2:r.From<r.To
   ·by_cases f3:r.To<=1402560;·omega
    ·simp[f1,f2,f3,wzcn,bd_s]
   ·simp[f1,f2,wzcn,bd_s]
  ·simp[f1,wzcn,bd_s]
 by_cases h4:0<=r.Stage/\r.Stage<=1000;rotate_left
 ·have e:(bif decide (0<=r.Stage) then decide (r.Stage<=1000) else false)=false:=by
   by_cases h:0<=r.Stage
   ·simp[h];omega
   ·simp[h]
  simp[qzbx,wzcn,bd_s,h1,h2,h3,e,h4]
 simp[qzbx,wzcn,bd_s,h1,h2,h3,h4,Gaj]
def rcmp(a b:jzn4):Int:=if rlt a b then -1 else if rsm a b then 0 else 1
theorem jzxe(x y:Int):qzca x y=some (if x<y then -1 else if y<x then 1 else 0):=by
 unfold qzca qzcc;simp only[bd_s,decide_true,Gaq];rw[qzil,qzil];by_cases h:x<y
 ·rw[it_d h,Gd4 h]
 ·rw[it_n h,Gd3 h];by_cases h2:y<x
  ·rw[it_d h2,Gd4 h2]
  ·rw[it_n h2,Gd3 h2]
theorem jzvz(x y:Int):jzqc [x,y]=some (if x=0 then y else x):=by
 unfold jzqc;rw[wz3m (l:=[x,y]) (fun _ z=>if z=0 then none else some z) (by simp) ?_ ?_]
 ·by_cases hx:x=0
  ·subst hx;by_cases hy:y=0
   ·subst hy;rfl
   ·simp[scan,hy,sOut,bd_s]
  ·simp[scan,hx,sOut,bd_s]
 ·intro k z hz;have hk:=(Gbg.1 hz).1;simp only[jzp9];rw[it_d,at_e rfl hz];simp only[bd_s];by_cases h:z=0
  ·rw[qzk5 h,qz3 (by simp at hk;omega),Gd4 h]
  ·rw[qzhj h,Gd3 h]
 ·simp only[jzp9];rw[it_n]
theorem jzr4(a b:jzn4):jzon a b=some (rcmp a b):=by
 unfold jzon;rw[jzxe,jzxe];simp only[bd_s];rw[jzvz];simp only[bd_s];congr 1;unfold rcmp rlt rsm;by_cases h1:a.Gauge<b.Gauge
 ·simp[h1]
 ·by_cases h2:b.Gauge<a.Gauge;·simp[h1,h2,show ¬a.Gauge=b.Gauge by omega]
  ·have:a.Gauge=b.Gauge:=by omega
   by_cases h3:a.Seq<b.Seq
   ·simp[this,h3]
   ·by_cases h4:b.Seq<a.Seq;·simp[this,h3,h4,show ¬a.Seq=b.Seq by omega]
    ·simp[this,h3,h4,show a.Seq=b.Seq by omega]
theorem jzri{a b:jzn4}:rcmp a b<0↔rlt a b:=by
 unfold rcmp;split
 ·simp[*]
 ·split<;>simp[*]
def rchF(l:List jzn4)(k:Nat)(r:jzn4):Option Int:=if RR r/\(0<k->rlt (l.getD (k-1) default) r) then none else some 1
def rchE(l:List jzn4):Int:=if 4000<l.length then 2 else(scan (rchF l) 0 l).getD 0
theorem wzsi(l:List jzn4):jzn8 l=some (rchE l):=by
 unfold jzn8 rchE;by_cases h0:4000<l.length
 ·rw[it_d,Gd4 h0]
 rw[it_n,Gd3 h0,wz3m (l:=l) (rchF l) (by omega) ?_ ?_]
 ·simp only[bd_s];exact wz5y
 ·intro k x hx;have hk:=(Gbg.1 hx).1;simp only[jzpn];rw[it_d,at_e rfl hx];simp only[bd_s];rw[jztj];simp only[bd_s,rchF];by_cases hr:RR x;rotate_left
  ·simp only[hr,decide_false,Gap,Gaq,Gam,Bool.true_or];rw[wzdp,wzcn];simp only[bd_s];rw[wzcn];simp only[bd_s,Gdu];rw[wzdh,Gd3 (by simp)]
  simp only[hr,decide_true,Gaq,Gap,Gau];by_cases hk0:k=0
  ·subst hk0;simp only[Int.ofNat_zero,Int.natCast_zero,Int.lt_irrefl,decide_false,Gap,Bool.true_or,Int.lt_irrefl,false_implies,and_true,Gd5];rw[wzdp,wzcn];simp only[bd_s];rw[wzcn];simp only[bd_s,Gdt];rw[qzil,qz3];rfl
  have hk1:0<k:=by omega
  rw[show decide ((0:Int)<(k:Int))=true by simp;omega];rw[ck_t (by simp[inB];omega),qzbx,wz9f hx hk1];simp only[bd_s];rw[qzbx,jzr4];simp only[bd_s,Gdt,Gdu];by_cases hl:rlt (l.getD (k-1) default) x
  ·rw[it_n (by have:=jzri.2 hl;omega),qz3,Gd4 (⟨trivial,fun _=>hl⟩)]
  ·rw[it_d (by have:=mt jzri.1 hl;omega),Gd3 (fun h=>hl (h.2 hk1))]
 ·simp only[jzpn];rw[it_n]
theorem jzp7{l:List jzn4}:rchE l=0↔l.length<=4000/\Bk l:=by
 unfold rchE;by_cases h0:4000<l.length
 ·rw[Gd4 h0];exact⟨fun h=>(by cases h),fun h=>by omega⟩
 rw[Gd3 h0];constructor
 ·intro h;refine⟨by omega,?_⟩;cases hs:scan (rchF l) 0 l with
  |some o =>
   obtain⟨i,x,hx,hi,_⟩:=wz6q 0 l o hs;rw[hs]at h;simp only[Gdm]at h;unfold rchF at hi;split at hi
   ·cases hi
   ·cases hi;cases h
  |none =>
   have hn:∀i x,l[i]?=some x->RR x/\(0<i->rlt (l.getD (i-1) default) x):=fun i x hx=>by
    have:=wz5l hs hx;unfold rchF at this;split at this
    ·assumption
    ·cases this
   refine⟨fun r hr=>?_,?_⟩
   ·obtain⟨i,hi,rfl⟩:=Gbp hr;exact(hn i _ (Gbe hi)).1
   ·have step:∀i,(hi:i+1<l.length)->rlt l[i] l[i+1]:=fun i hi=>by
     have:=(hn (i+1) _ (Gbe hi)).2 (by omega);simpa [List.getD,show i<l.length by omega] using this
    unfold Asc;rw[Gcg];intro i j hi hj hij;induction j with
    |zero=>omega
    |succ j ih =>
     by_cases e:i=j
     ·subst e;exact step i hj
     ·exact jzrg (ih (by omega) (by omega)) (step j hj)
 ·rintro⟨_,hb⟩;rw[jzax]
  ·rfl
  ·intro i x hx;obtain⟨hi,rfl⟩:=Gbg.1 hx;unfold rchF;rw[Gd4];refine⟨hb.right _ (Gbo _),fun h=>?_⟩;have:=jzvh hb.asc (show i-1<l.length by omega) hi (by omega);simpa [List.getD,show i-1<l.length by omega] using this
end Go.Am

namespace Go.Am
end Go.Am

namespace Go.Am
section
variable {U:Type}
def Cd(f:Int->U)(b:Int):Option U->Int->List (Int×Int×U)->Prop
 |_,a,[]=>a=b
 |v,a,p :: l=>p.1=a/\a<p.2.1/\(∀x,a<=x->x<p.2.1->f x=p.2.2)/\v≠some p.2.2/\Cd f b (some p.2.2) p.2.1 l
theorem Cd.le{f:Int->U}{b:Int}:∀{l:List (Int×Int×U)} {v:Option U} {a:Int},Cd f b v a l->a<=b
 |[],_,_,h=>Int.le_of_eq h
 |p :: l,_,_,h=>by obtain⟨_,h1,_,_,h2⟩:=h;have:=h2.le;omega
theorem Cd.app{f:Int->U}:∀{l:List (Int×Int×U)} {v:Option U} {a b:Int} {p:Int×Int×U},Cd f b v a l->p.1=b->b<p.2.1->(∀x,b<=x->x<p.2.1->f x=p.2.2)->((l.getLast?.map (·.2.2)).or v≠some p.2.2)->Cd f p.2.1 v a (l++[p])
 |[],v,a,b,p,h,h1,h2,h3,h4=>by obtain rfl:a=b:=h;exact⟨h1,h2,h3,by simpa using h4,rfl⟩
 |q :: l,v,a,b,p,h,h1,h2,h3,h4=>by
  obtain⟨k1,k2,k3,k4,k5⟩:=h;refine⟨k1,k2,k3,k4,k5.app h1 h2 h3 ?_⟩;cases l with
  |nil=>simpa using h4
  |cons r l=>rw[List.getLast?_cons_cons]at h4;rw[List.getLast?_cons]at *;simpa using h4
theorem Cd.ext{f:Int->U}:∀{l:List (Int×Int×U)} {v:Option U} {a b c:Int} {q:Int×Int×U},Cd f b v a (l++[q])->b<c->(∀x,b<=x->x<c->f x=q.2.2)->Cd f c v a (l++[(q.1,c,q.2.2)])
 |[],v,a,b,c,q,h,h1,h2=>by
  obtain⟨k1,k2,k3,k4,k5⟩:=h;have k5:q.2.1=b:=k5;refine⟨k1,by show a<c;omega,fun x x1 x2=>?_,k4,rfl⟩;by_cases hx:x<q.2.1
  ·exact k3 x x1 hx
  ·exact h2 x (by omega) x2
 |r :: l,v,a,b,c,q,h,h1,h2=>by obtain⟨k1,k2,k3,k4,k5⟩:=h;exact⟨k1,k2,k3,k4,k5.ext h1 h2⟩
theorem Cd.mem{f:Int->U}{b:Int}:∀{l:List (Int×Int×U)} {v:Option U} {a:Int},Cd f b v a l->∀p,p∈l->p.1<p.2.1/\a<=p.1/\p.2.1<=b/\∀x,p.1<=x->x<p.2.1->f x=p.2.2
 |q :: l,v,a,h,p,hp=>by
  obtain⟨k1,k2,k3,k4,k5⟩:=h;have hl:=k5.le;rcases Gb3.1 hp with e|e
  ·subst e;exact⟨by omega,by omega,hl,fun x x1 x2=>k3 x (by omega) x2⟩
  ·obtain⟨m1,m2,m3,m4⟩:=k5.mem p e;exact⟨m1,by omega,m3,m4⟩
theorem Cd.ex{f:Int->U}{b:Int}:∀{l:List (Int×Int×U)} {v:Option U} {a:Int},Cd f b v a l->∀x,a<=x->x<b->∃p,p∈l/\p.1<=x/\x<p.2.1
 |[],v,a,h,x,h1,h2=>by have h:a=b:=h;omega
 |q :: l,v,a,h,x,h1,h2=>by
  obtain⟨k1,k2,k3,k4,k5⟩:=h;by_cases hx:x<q.2.1
  ·exact⟨q,Gb5 ..,by omega,hx⟩
  ·obtain⟨p,hp,e⟩:=k5.ex x (by omega) h2;exact⟨p,Gb4 _ hp,e⟩
theorem Cd.one{f:Int->U}{b:Int}:∀{l:List (Int×Int×U)} {v:Option U} {a:Int},Cd f b v a l->∀p q,p∈l->q∈l->∀x,p.1<=x->x<p.2.1->q.1<=x->x<q.2.1->p=q
 |r :: l,v,a,h,p,q,hp,hq,x,p1,p2,q1,q2=>by
  obtain⟨k1,k2,k3,k4,k5⟩:=h;rcases Gb3.1 hp with e|e<;>rcases Gb3.1 hq with e'|e'
  ·rw[e,e']
  ·have:=(k5.mem q e').2.1;subst e;omega
  ·have:=(k5.mem p e).2.1;subst e';omega
  ·exact k5.one p q e e' x p1 p2 q1 q2
end
def vlt(a b:jzn5):Prop:=a.Gauge<b.Gauge\/a.Gauge=b.Gauge/\a.Seq<b.Seq
instance (a b:jzn5):Decidable (vlt a b):=by unfold vlt;infer_instance
def VRi(v:jzn5):Prop:=((0<=v.Gauge/\v.Gauge<=39)/\(0<=v.Seq/\v.Seq<=1099511627776)/\(0<=v.Known/\v.Known<=14609)/\0<=v.From/\v.From<v.To/\v.To<=1402560) /\ ((v.Kind=1/\v.Shift=0/\wz5h v.Curve=0)\/(v.Kind=2/\v.Curve.Points.length=0/\-1000<=v.Shift/\v.Shift<=1000)\/(v.Kind=3/\v.Curve.Points.length=0/\-960<=v.Shift/\v.Shift<=960))
noncomputable instance(v:jzn5):Decidable (VRi v):=Classical.propDecidable _
theorem jz03{v:jzn5}(x:Bool)(h:((0<=v.Gauge/\v.Gauge<=39)/\(0<=v.Seq/\v.Seq<=1099511627776)/\(0<=v.Known/\v.Known<=14609)/\0<=v.From/\v.From<v.To/\v.To<=1402560)):(bif (bif (bif (bif (bif (bif (bif (bif (decide (v.Gauge<0)) then true else(decide (40<=v.Gauge))) then true else(decide (v.Seq<0))) then true else(decide (1099511627776<v.Seq))) then true else(decide (v.Known<0))) then true else(decide (14609<v.Known))) then true else(decide (v.From<0))) then true else(decide (v.To<=v.From))) then true else(decide (1402560<v.To)))=false:=by simp only[Gak,Gar,Gdx];omega
theorem jz0q{v:jzn5}(h:¬((0<=v.Gauge/\v.Gauge<=39)/\(0<=v.Seq/\v.Seq<=1099511627776)/\(0<=v.Known/\v.Known<=14609)/\0<=v.From/\v.From<v.To/\v.To<=1402560)):(bif (bif (bif (bif (bif (bif (bif (bif (decide (v.Gauge<0)) then true else(decide (40<=v.Gauge))) then true else(decide (v.Seq<0))) then true else(decide (1099511627776<v.Seq))) then true else(decide (v.Known<0))) then true else(decide (14609<v.Known))) then true else(decide (v.From<0))) then true else(decide (v.To<=v.From))) then true else(decide (1402560<v.To)))=true:=by simp only[Gak,Gas,Gdz];omega
theorem jz0y{v:jzn5}(hc:CSz v.Curve):jzo9 v=some (decide (VRi v)):=by
 unfold jzo9;by_cases h:((0<=v.Gauge/\v.Gauge<=39)/\(0<=v.Seq/\v.Seq<=1099511627776)/\(0<=v.Known/\v.Known<=14609)/\0<=v.From/\v.From<v.To/\v.To<=1402560);rotate_left
 ·rw[it_t (jz0q h),Gdw (fun e:VRi v=>h e.1)]
 rw[it_f (jz03 true h)];by_cases k1:v.Kind=1
 ·rw[it_d k1];by_cases s0:v.Shift=0
  ·rw[Gdy s0];simp only[qzbx,Gdu];rw[wz7j hc];simp only[bd_s];congr 1;rw[Gal,Gd0,Gd0];constructor
   ·intro e;exact⟨h,.inl ⟨k1,s0,e⟩⟩
   ·rintro⟨_,⟨_,_,e⟩|⟨e,_⟩|⟨e,_⟩⟩;·exact e
    ·omega
    ·omega
  ·rw[Gdw s0];simp only[wzcn,bd_s,Gdt];rw[Gdw];rintro⟨_,⟨_,e,_⟩|⟨e,_⟩|⟨e,_⟩⟩<;>omega
 rw[it_n k1]
 have hm:mget keqI (mput keqI (mput keqI ([]:List (Int×Int)) 2 1000) 3 960) v.Kind=if v.Kind=2 then some 1000 else if v.Kind=3 then some 960 else none:=by
  by_cases k2:v.Kind=2
  ·rw[Gd4 k2,k2];rfl
  ·by_cases k3:v.Kind=3;·rw[Gd3 k2,Gd4 k3,k3];rfl
   ·rw[Gd3 k2,Gd3 k3];simp[mput,mget,keqI,k2,k3]
 rw[hm];by_cases k2:v.Kind=2
 ·rw[Gd4 k2,ck_t (by simp[inB])];congr 1;simp only[Option.isSome_some,Gdm,Gdu,Gaj];rw[Gal,Gd0];simp only[Gai,Gdz];constructor
  ·rintro⟨⟨a,b⟩,c⟩;exact⟨h,.inr (.inl ⟨k2,by omega,by omega,by omega⟩)⟩
  ·rintro⟨_,⟨e,_⟩|⟨_,a,b,c⟩|⟨e,_⟩⟩<;>omega
 by_cases k3:v.Kind=3
 ·rw[Gd3 k2,Gd4 k3,ck_t (by simp[inB])];congr 1;simp only[Option.isSome_some,Gdm,Gdu,Gaj];rw[Gal,Gd0];simp only[Gai,Gdz];constructor
  ·rintro⟨⟨a,b⟩,c⟩;exact⟨h,.inr (.inr ⟨k3,by omega,by omega,by omega⟩)⟩
  ·rintro⟨_,⟨e,_⟩|⟨e,_⟩|⟨_,a,b,c⟩⟩<;>omega
 ·rw[Gd3 k2,Gd3 k3,ck_t (by simp[inB])];rw[Gdw (show ¬VRi v by rintro⟨_,⟨e,_⟩|⟨e,_⟩|⟨e,_⟩⟩<;>omega)];rfl
def vsm(a b:jzn5):Prop:=a.Gauge=b.Gauge/\a.Seq=b.Seq
instance (a b:jzn5):Decidable (vsm a b):=by unfold vsm;infer_instance
def vcmp(a b:jzn5):Int:=if vlt a b then -1 else if vsm a b then 0 else 1
theorem jz0t(a b:jzn5):jzo3 a b=some (vcmp a b):=by
 unfold jzo3;rw[jzxe];simp only[bd_s];unfold vcmp;by_cases h1:a.Gauge<b.Gauge
 ·rw[Gd4 h1,Gd4 (show vlt a b from .inl h1),qzhj (by decide)]
 ·by_cases h2:b.Gauge<a.Gauge;·rw[Gd3 h1,Gd4 h2,qzhj (by decide),Gd3 (show ¬vlt a b by unfold vlt;omega),Gd3 (show ¬vsm a b by unfold vsm;omega)]
  ·rw[Gd3 h1,Gd3 h2,qzk5 rfl,jzxe];simp only[bd_s];have:a.Gauge=b.Gauge:=by omega
   by_cases h3:a.Seq<b.Seq
   ·rw[Gd4 h3,Gd4 (show vlt a b from .inr ⟨this,h3⟩)]
   ·by_cases h4:b.Seq<a.Seq;·rw[Gd3 h3,Gd4 h4,Gd3 (show ¬vlt a b by unfold vlt;omega),Gd3 (show ¬vsm a b by unfold vsm;omega)]
    ·rw[Gd3 h3,Gd3 h4,Gd3 (show ¬vlt a b by unfold vlt;omega),Gd4 (show vsm a b by unfold vsm;omega)]
theorem jz0k{a b:jzn5}:vcmp a b<0↔vlt a b:=by
 unfold vcmp;split
 ·simp[*]
 ·split<;>simp[*]
def VsSz(l:List jzn5):Prop:=∀v,v∈l->CSz v.Curve
noncomputable def vchF(l:List jzn5)(k:Nat)(v:jzn5):Option Int:=if VRi v/\(0<k->vlt (l.getD (k-1) default) v) then none else some 1
noncomputable def vchE(l:List jzn5):Int:=if 400<l.length then 2 else(scan (vchF l) 0 l).getD 0
theorem jzz6{l:List jzn5}(hs:VsSz l):jzoo l=some (vchE l):=by
 unfold jzoo vchE;by_cases h0:400<l.length
 ·rw[it_d,Gd4 h0]
 rw[it_n,Gd3 h0,wz3m (l:=l) (vchF l) (by omega) ?_ ?_]
 ·simp only[bd_s];exact wz5y
 ·intro k x hx;have hk:=(Gbg.1 hx).1;simp only[jzrd];rw[it_d,at_e rfl hx];simp only[bd_s];rw[jz0y (hs x (Gb9 hx))];simp only[bd_s,vchF];by_cases hr:VRi x;rotate_left
  ·rw[Gdw hr];simp only[Gap,Gaq,Gam,Bool.true_or];rw[wzdp,wzcn];simp only[bd_s];rw[wzcn];simp only[bd_s,Gdu];rw[wzdh,Gd3 (fun h=>hr h.1)]
  rw[Gdy hr];simp only[Gaq,Gap,Gau];by_cases hk0:k=0
  ·subst hk0;rw[show decide ((0:Int)<((0:Nat):Int))=false by simp];simp only[Gap,Bool.true_or];rw[wzdp,wzcn];simp only[bd_s];rw[wzcn];simp only[bd_s,Gdt];rw[qzil,qz3,Gd4 ⟨hr,fun h=>by omega⟩]
  have hk1:0<k:=by omega
  rw[show decide ((0:Int)<(k:Int))=true by simp;omega];rw[ck_t (by simp[inB];omega),qzbx,wz9f hx hk1];simp only[bd_s];rw[qzbx,jz0t];simp only[bd_s,Gdt,Gdu];by_cases hl:vlt (l.getD (k-1) default) x
  ·rw[it_n (by have:=jz0k.2 hl;omega),qz3,Gd4 ⟨hr,fun _=>hl⟩]
  ·rw[it_d (by have:=mt jz0k.1 hl;omega),Gd3 (fun h=>hl (h.2 hk1))]
 ·simp only[jzrd];rw[it_n]
theorem jz1b{a b c:jzn5}(h:vlt a b)(k:vlt b c):vlt a c:=by unfold vlt at *;omega
structure VBk(l:List jzn5):Prop where
 right:∀r,r∈l->VRi r
 asc:l.Pairwise vlt
theorem jz0b{l:List jzn5}:vchE l=0↔l.length<=400/\VBk l:=by
 unfold vchE;by_cases h0:400<l.length
 ·rw[Gd4 h0];exact⟨fun h=>(by cases h),fun h=>by omega⟩
 rw[Gd3 h0];constructor
 ·intro h;refine⟨by omega,?_⟩;cases hs:scan (vchF l) 0 l with
  |some o =>
   obtain⟨i,x,hx,hi,_⟩:=wz6q 0 l o hs;rw[hs]at h;simp only[Gdm]at h;unfold vchF at hi;split at hi
   ·cases hi
   ·cases hi;cases h
  |none =>
   have hn:∀i x,l[i]?=some x->VRi x/\(0<i->vlt (l.getD (i-1) default) x):=fun i x hx=>by
    have:=wz5l hs hx;unfold vchF at this;split at this
    ·assumption
    ·cases this
   refine⟨fun r hr=>?_,?_⟩
   ·obtain⟨i,hi,rfl⟩:=Gbp hr;exact(hn i _ (Gbe hi)).1
   ·have step:∀i,(hi:i+1<l.length)->vlt l[i] l[i+1]:=fun i hi=>by
     have:=(hn (i+1) _ (Gbe hi)).2 (by omega);simpa [List.getD,show i<l.length by omega] using this
    rw[Gcg];intro i j hi hj hij;induction j with
    |zero=>omega
    |succ j ih =>
     by_cases e:i=j
     ·subst e;exact step i hj
     ·exact jz1b (ih (by omega) (by omega)) (step j hj)
 ·rintro⟨_,hb⟩;rw[jzax]
  ·rfl
  ·intro i x hx;obtain⟨hi,rfl⟩:=Gbg.1 hx;unfold vchF;rw[Gd4];refine⟨hb.right _ (Gbo _),fun h=>?_⟩;have:=Gcg.1 hb.asc (0+i-1) i (by omega) hi (by omega);simpa [List.getD,show i-1<l.length by omega] using this
def vfit(kind gauge tick known:Int)(v:jzn5):Prop:=v.Kind=kind/\v.Gauge=gauge/\v.Known<=known/\v.From<=tick/\tick<v.To
instance (a b c d:Int)(v:jzn5):Decidable (vfit a b c d v):=by unfold vfit;infer_instance
def jzx1(kind gauge tick known:Int)(b:Option jzn5)(v:jzn5):Option jzn5 :=
 if vfit kind gauge tick known v then(match b with | none=>some v | some w=>if w.Known<=v.Known then some v else some w) else b
def vfrc(l:List jzn5)(kind gauge tick known:Int):Option jzn5:=l.foldl (jzx1 kind gauge tick known) none
theorem jzz5{l:List jzn5}{v:jzn5}{a b c d:Int}:vfrc (l++[v]) a b c d=jzx1 a b c d (vfrc l a b c d) v:=by unfold vfrc;rw[List.foldl_append];rfl
theorem jz0h(a b c d:Int):∀(n:Nat) (l:List jzn5),l.length=n->∀w,vfrc l a b c d=some w->w∈l/\vfit a b c d w:=by
 intro n;induction n with
 |zero=>intro l hl w h;rw[Gbt.1 hl]at h;cases h
 |succ n ih =>
  intro l hl w h;have hne:l≠[]:=fun e=>by rw[e]at hl;cases hl
  obtain⟨m,v,rfl⟩:∃m v,l=m++[v]:=⟨_,_,(List.dropLast_concat_getLast hne).symm⟩;rw[jzz5]at h;have hm:m.length=n:=by simpa using hl
  unfold jzx1 at h;split at h
  ·rename_i hf;split at h
   ·cases h;exact⟨by simp,hf⟩
   ·rename_i w' e;split at h
    ·cases h;exact⟨by simp,hf⟩
    ·cases h;obtain⟨h1,h2⟩:=ih m hm _ e;exact⟨Gb2.2 (.inl h1),h2⟩
  ·obtain⟨h1,h2⟩:=ih m hm _ h;exact⟨Gb2.2 (.inl h1),h2⟩
theorem jz0z{l:List jzn5}(hl:l.length<=1000)(ha:l.Pairwise vlt)(kind gauge tick known:Int):jzqj l kind gauge tick known=some (vfrc l kind gauge tick known):=by
 unfold jzqj;rw[wz69 (l:=l) (fun k=>(vfrc (l.take k) kind gauge tick known,(k:Int))) (by omega) (o:=vfrc l kind gauge tick known) ?_ ?_ ?_]
 ·simp only[bd_s]
 ·intro k x hx;have hk:=(Gbg.1 hx).1;simp only[jzre];rw[it_d,at_e rfl hx];simp only[bd_s];have htk:l.take (k+1)=l.take k++[x]:=jzlb hx;have hlt:∀w,w∈l.take k->vlt w x:=fun w hw=>by obtain⟨i,hi,rfl⟩:=Gbp hw;obtain⟨_,rfl⟩:=Gbg.1 hx;rw[Gbz]at hi;rw[List.getElem_take];exact Gcg.1 ha i k (by omega) hk (by omega)
  rw[htk,jzz5];have hfit:=jz0h kind gauge tick known _ (l.take k) rfl;generalize vfrc (l.take k) kind gauge tick known=b at *;by_cases hf:vfit kind gauge tick known x;rotate_left
  ·rw[it_t (by
    simp only[Gak,Gas,Gdz,Gao,Gdx];unfold vfit at hf;omega)]
   simp only[bd_s];rw[qz3];unfold jzx1;rw[Gd3 hf];rfl
  rw[it_f (by simp only[Gak,Gar,Gdx,Bool.not_eq_false',Gdz];unfold vfit at hf;omega)];simp only[bd_s];unfold jzx1;rw[Gd4 hf];cases b with
  |none =>simp only[Option.isSome_none,Gap,Gaq,wzcn,bd_s,Gdu,Gam];rw[wzdh,qz3];rfl
  |some w =>
   obtain⟨hw,hw2⟩:=hfit w rfl;have hv:=hlt w hw;have hs:w.Seq<x.Seq:=by unfold vfit at hf hw2;unfold vlt at hv;omega
   simp only[Option.isSome_some,Gaq,Gap,qzbx,bd_s,Gdt];by_cases h1:w.Known<x.Known
   ·rw[Gdy h1];simp only[Gaq,wzcn,bd_s,Gdu,Gam];rw[wzdh,qz3,ifP];rfl
   ·rw[Gdw h1];simp only[Gap,qzbx,bd_s,Gdt,Gau];by_cases h2:x.Known=w.Known
    ·rw[Gdy h2];simp only[qzbx,bd_s,Gdu];rw[it_d hs,qz3,ifP];rfl
    ·rw[Gdw h2];simp only[wzcn,bd_s,Gdt];rw[qzil,qz3,ifN];rfl
 ·simp only[jzre];rw[it_n,List.take_length]
 ·rfl
def vsh(l:List jzn5)(gauge tick known:Int):Int:=match vfrc l 3 gauge tick known with
 |some v=>v.Shift
 |none=>0
theorem jz0x{l:List jzn5}(hb:VBk l)(gauge tick known:Int):-960<=vsh l gauge tick known/\vsh l gauge tick known<=960:=by
 unfold vsh;cases h:vfrc l 3 gauge tick known with
 |none=>simp
 |some v =>
  obtain⟨h1,h2⟩:=jz0h 3 gauge tick known _ l rfl v h;have:=(hb.right v h1).2;have h3:v.Kind=3:=h2.1;simp only;rcases this with ⟨e,_⟩|⟨e,_⟩|⟨_,_,e1,e2⟩
  ·omega
  ·omega
  ·exact⟨e1,e2⟩
def shf(l:List jzn5)(known:Int)(r:jzn4):wz2h :=
 if min 1402560 (r.To+vsh l r.Gauge r.From known)<=max 0 (r.From+vsh l r.Gauge r.From known) then⟨0,0⟩ else⟨max 0 (r.From+vsh l r.Gauge r.From known),min 1402560 (r.To+vsh l r.Gauge r.From known)⟩
theorem jz0a{l:List jzn5}{r:jzn4}{known:Int}(hs:VsSz l)(hc:vchE l=0)(hr:RR r)(hk:0<=known/\known<=14609):jzpe r l known=some (shf l known r):=by
 obtain⟨hl,hb⟩:=jz0b.1 hc;unfold jzpe jzqh;rw[jzz6 hs];simp only[bd_s];unfold RR at hr;rw[qzk5 hc,it_f (by simp)];unfold jzqk;rw[it_f (by simp;omega)];simp only[bd_s,decide_true,Gaq];rw[qzil];unfold jzqm;rw[jz0z (by omega) hb.asc];simp only[bd_s];have hv:=jz0x hb r.Gauge r.From known
 have e:(ite' (Option.isSome (vfrc l 3 r.Gauge r.From known)) (bd (vfrc l 3 r.Gauge r.From known) fun x1=>some x1.Shift) (some 0))=some (vsh l r.Gauge r.From known):=by
  unfold vsh;cases vfrc l 3 r.Gauge r.From known with
  |none=>simp only[Option.isSome_none];rw[qzil]
  |some v=>simp only[Option.isSome_some,bd_s];rw[wzdh]
 rw[e];simp only[bd_s];unfold shf;generalize vsh l r.Gauge r.From known=n at *;rw[qz3,qz3];by_cases h:min 1402560 (r.To+n)<=max 0 (r.From+n)
 ·rw[it_d h,Gd4 h]
 ·rw[it_n h,Gd3 h]
def cov(vs:List jzn5)(known g x:Int)(r:jzn4):Prop:=r.Gauge=g/\r.Known<=known/\(shf vs known r).From<=x/\x<(shf vs known r).To
instance (vs:List jzn5)(known g x:Int)(r:jzn4):Decidable (cov vs known g x r):=by unfold cov;infer_instance
def stg(vs:List jzn5)(known g:Int)(l:List jzn4)(x:Int):Int:=l.foldl (fun s r=>if cov vs known g x r then r.Stage else s) (-1)
theorem jzz0{vs:List jzn5}{known g x:Int}{l:List jzn4}{r:jzn4}:stg vs known g (l++[r]) x=if cov vs known g x r then r.Stage else stg vs known g l x:=by unfold stg;rw[List.foldl_append];rfl
def clp(vs:List jzn5)(known g:Int)(t:wz2h)(r:jzn4):Option jzn7 :=
 if r.Gauge=g/\r.Known<=known/\max (shf vs known r).From t.From<min (shf vs known r).To t.To then some ⟨⟨max (shf vs known r).From t.From,min (shf vs known r).To t.To⟩,r.Stage⟩ else none
def ctg(cs:List jzn7)(x:Int):Int:=cs.foldl (fun s c=>if c.t.From<=x/\x<c.t.To then c.stage else s) (-1)
theorem jzz2{cs:List jzn7}{c:jzn7}{x:Int}:ctg (cs++[c]) x=if c.t.From<=x/\x<c.t.To then c.stage else ctg cs x:=by unfold ctg;rw[List.foldl_append];rfl
theorem jzz3{α:Type}{P:List α->Prop}(h0:P [])(h1:∀l x,P l->P (l++[x])):∀l,P l:=by
 intro l
 have:∀n (l:List α),l.length=n->P l:=by
  intro n;induction n with
  |zero=>intro l hl;rw[Gbt.1 hl];exact h0
  |succ n ih =>
   intro l hl;have hne:l≠[]:=fun e=>by rw[e]at hl;cases hl
   rw[<-List.dropLast_concat_getLast hne];exact h1 _ _ (ih _ (by rw[List.length_dropLast];omega))
 exact this _ l rfl
theorem jz06{vs:List jzn5}{known g x:Int}{t:wz2h}(hx:t.From<=x/\x<t.To):∀l:List jzn4,ctg (l.filterMap (clp vs known g t)) x=stg vs known g l x:=by
 refine jzz3 rfl fun l r ih=>?_;rw[jzz0,List.filterMap_append];cases h:clp vs known g t r with
 |none =>
  have:List.filterMap (clp vs known g t) [r]=[]:=by simp[h]
  rw[this,List.append_nil,ih,Gd3 (show ¬cov vs known g x r from fun e=>by obtain⟨a,b,c,d⟩:=e;unfold clp at h;rw[Gd4 ⟨a,b,by omega⟩]at h;cases h)]
 |some c =>
  have:List.filterMap (clp vs known g t) [r]=[c]:=by simp[h]
  rw[this,jzz2,ih];unfold clp at h;split at h
  ·rename_i h';cases h;simp only;by_cases e:(shf vs known r).From<=x/\x<(shf vs known r).To
   ·rw[ifP,Gd4 (show cov vs known g x r from⟨h'.1,h'.2.1,e⟩)]
   ·rw[ifN,Gd3 (show ¬cov vs known g x r from fun h=>e h.2.2)]
  ·cases h
theorem jzze{l:List Int}(h:SAsc l){i j:Nat}(hi:i<l.length)(hj:j<l.length)(hij:i<j):l[i]<l[j]:=Gcg.1 h i j hi hj hij
theorem jz0s{l:List Int}(hl:l.length<=1000000)(ha:SAsc l){y:Int}(hy:y∈l):∃k,∃h:k<l.length,jzpg l y=some ((k:Int),true)/\l[k]=y:=by
 unfold jzpg
 obtain⟨o,e,k,rfl,hk,h1,h2⟩:=vzf (s:=((0:Int),(l.length:Int))) (body:=jzqf y l) (fun s=>∃i j:Nat,s=((i:Int),(j:Int))/\i<=j/\j<=l.length/\(∀m,(hm:m<l.length)->m<i->l[m]<y)/\(∀m,(hm:m<l.length)->j<=m->¬l[m]<y)) (fun s=>(s.2-s.1).toNat) (fun o=>∃k:Nat,o=(k:Int)/\k<=l.length/\(∀m,(hm:m<l.length)->m<k->l[m]<y)/\(∀m,(hm:m<l.length)->k<=m->¬l[m]<y)) (by
  rintro s ⟨i,j,rfl,hij,hj,h1,h2⟩;simp only[jzqf];by_cases h:i<j;rotate_left
  ·right;rw[it_n];obtain rfl:i=j:=by omega
   exact⟨_,rfl,i,rfl,hj,h1,h2⟩
  left;have hm:Int.fdiv (((i:Int)+j)%18446744073709551616) 2=(((i+j) / 2:Nat):Int):=by rw[Int.emod_eq_of_lt (by omega) (by omega),Gav _ (by decide)];omega
  rw[it_d,qz3,hm,qz3];have hlt:(i+j) / 2<l.length:=by omega
  rw[at_e rfl (Gbe hlt)];simp only[bd_s,jzrr,qzcc,decide_true,Gaq,wzcn,Gdt];by_cases hc:l[(i+j) / 2]<y
  ·rw[it_d hc,qz3];refine⟨_,rfl,⟨(i+j) / 2+1,j,by simp,by omega,hj,fun m hm hm2=>?_,h2⟩,by simp only;omega⟩;by_cases e:m=(i+j) / 2
   ·subst e;exact hc
   ·have:=jzze ha hm hlt (by omega);omega
  ·rw[it_n hc];refine⟨_,rfl,⟨i,(i+j) / 2,rfl,by omega,by omega,h1,fun m hm hm2 hr=>?_⟩,by simp only;omega⟩;by_cases e:m=(i+j) / 2
   ·subst e;exact hc hr
   ·have:=jzze ha hlt hm (by omega);omega) ⟨0,l.length,by simp,Gdl _,Gcy _,fun m hm h=>by omega,fun m hm h=>by omega⟩ (by simp;omega)
 rw[e];simp only[bd_s];obtain⟨i,hi,hiy⟩:=Gbp hy
 have hki:k=i:=by
  have a1:¬i<k:=fun h=>by have:=h1 i hi h;omega
  have a2:¬k<i:=fun h=>by have:=jzze ha (show k<l.length by omega) hi h;have:=h2 k (by omega) (Gcy _);omega
  omega
 subst hki;rw[Gdy (show(k:Int)<(l.length:Int) by omega)];simp only[qzbx];rw[at_e rfl (Gbe hi)];simp only[bd_s];rw[Gdy hiy];simp only[Gaq,Bool.and_false,Gam,wzcn,bd_s,Gdu];exact⟨k,hi,rfl,hiy⟩
def tri(p:jzn6):Int×Int×Int:=(p.t.From,p.t.To,p.stage)
def PcOk(p:jzn6):Prop:=0<=p.t.From/\p.t.From<p.t.To/\p.t.To<=1402560
theorem jz0m{at' c1:List Int}(hn:0<at'.length)(hl:at'.length<=100000)(ha:SAsc at')(hc:c1.length=at'.length)(hb:∀x,x∈at'->0<=x/\x<=1402560){F:Int->Int}(hF:∀i,(h:i+1<at'.length)->∀x,at'[i]<=x->x<at'[i+1]->some (F x)=c1[i]?) {st:List jzn6->Option Bool} (hst:∀ys,ys.length<=at'.length->(∀p,p∈ys->PcOk p)->st ys=some false) : ∃P,jzou at' c1 st=some P/\Cd F (at'[at'.length-1]) none (at'[0]) (P.map tri)/\P.length<=at'.length/\∀p,p∈P->PcOk p:=by
 unfold jzou
 obtain⟨o,e,P,rfl,h1,h2,h3⟩:=vzf (s:=((0:Int),([]:List jzn6))) (body:=jzqs at' c1 st) (fun s=>∃k:Nat,∃ys,∃hk:k<at'.length,s=((k:Int),ys)/\Cd F at'[k] none at'[0] (ys.map tri)/\(k+1<at'.length->(ys.map tri).getLast?.map (·.2.2)≠c1[k]?)/\ys.length<=k/\∀p,p∈ys->PcOk p) (fun s=>(at'.length-s.1).toNat) (fun o=>∃P,o=.inl P/\Cd F (at'[at'.length-1]) none (at'[0]) (P.map tri)/\P.length<=at'.length/\∀p,p∈P->PcOk p) (by
  rintro s ⟨k,ys,hk,rfl,h1,h2,h3,h4⟩;simp only[jzqs];rw[qz3];by_cases hlt:k+1<at'.length;rotate_left
  ·right;rw[it_n];refine⟨_,rfl,ys,rfl,?_,by omega,h4⟩;have:k=at'.length-1:=by omega
   subst this;exact h1
  left;rw[it_d,qz3]
  obtain⟨o,e,q,hq,rfl,hq1,hq2,hq3⟩:=vzf (s:=((k:Int)+1)) (body:=jzqv at' c1 (k:Int)) (fun s=>∃q:Nat,s=(q:Int)/\k<q/\q<at'.length/\∀i,k<=i->i<q->c1[i]?=c1[k]?) (fun s=>(at'.length-s).toNat) (fun o=>∃q:Nat,∃hq:q<at'.length,o=(q:Int)/\k<q/\(∀i,k<=i->i<q->c1[i]?=c1[k]?)/\(q+1<at'.length->c1[q]?≠c1[k]?)) (by
   rintro s ⟨q,rfl,g1,g2,g3⟩;simp only[jzqv];rw[qz3];by_cases hq:q+1<at'.length;rotate_left
   ·right;rw[Gdw (show ¬((q:Int)+1<(at'.length:Int)) by omega)];simp only[wzcn,bd_s,Gdt];rw[qzil];exact⟨_,rfl,q,g2,rfl,g1,g3,fun h=>absurd h hq⟩
   have e1:=Gbe (show q<c1.length by omega);have e2:=Gbe (show k<c1.length by omega);rw[Gdy (show((q:Int)+1<(at'.length:Int)) by omega)];simp only[qzbx,Gdu];rw[at_e rfl e1,at_e rfl e2];simp only[bd_s];by_cases hc2:c1[q]=c1[k]
   ·left;rw[it_d hc2,qz3];refine⟨_,rfl,⟨q+1,by simp,by omega,hq,fun i i1 i2=>?_⟩,by omega⟩;by_cases ei:i=q
    ·subst ei;rw[e1,e2,hc2]
    ·exact g3 i i1 (by omega)
   ·right;rw[it_n hc2];exact⟨_,rfl,q,g2,rfl,g1,g3,fun _ h=>by rw[e1,e2]at h;exact hc2 (Gdp h)⟩) ⟨k+1,by simp,by omega,hlt,fun i i1 i2=>by rw[show i=k by omega]⟩ (by omega)
  rw[e];have a1:=Gbe hk;have a2:=Gbe hq;have e2:=Gbe (show k<c1.length by omega);simp only[bd_s];rw[at_e rfl a1,at_e rfl a2,at_e rfl e2];simp only[bd_s];have hab:=jzze ha hk hq hq1;have hba:=hb _ (Gbo hk);have hbb:=hb _ (Gbo hq)
  have hys:∀p,p∈ys++[jzn6.mk (wz2h.mk at'[k] at'[q]) c1[k]]->PcOk p:=fun p hp=>by
   rcases Gb2.1 hp with h|h
   ·exact h4 p h
   ·rw[Gcc.1 h];exact⟨hba.1,hab,hbb.2⟩
  rw[hst _ (by simp;omega) hys];simp only[bd_s];rw[qzil];refine⟨_,rfl,⟨q,_,hq,rfl,?_,fun h=>?_,by simp;omega,hys⟩,by simp only;omega⟩
  ·rw[List.map_append];refine Cd.app (p:=(at'[k],at'[q],c1[k])) h1 rfl hab (fun x x1 x2=>?_) ?_
   ·-- where x lies
    have:∀n,k+n<=q->(∀hn:k+n<at'.length,x<at'[k+n]->F x=c1[k]):=by
     intro n;induction n with
     |zero=>intro _ hn h;simp only[Gcn]at h;omega
     |succ n ih =>
      intro h1 hn h2;by_cases h3:x<at'[k+n]
      ·exact ih (by omega) (by omega) h3
      ·have h4:=hF (k+n) (by omega) x (by omega) h2;rw[hq2 (k+n) (by omega) (by omega),e2]at h4;exact Gdp h4
    have hqk:k+(q-k)=q:=(by omega);exact this (q-k) (by omega) (by omega) (by simpa only[hqk] using x2)
   ·have:=h2 hlt;rw[e2]at this;cases hg:(ys.map tri).getLast? with
    |none=>simp
    |some z=>rw[hg]at this;simpa using this
  ·have:=hq3 h;rw[e2]at this;have hgl:((ys++[jzn6.mk (wz2h.mk at'[k] at'[q]) c1[k]]).map tri).getLast?.map (·.2.2)=some c1[k]:=by simp[tri]
   rw[hgl];exact fun h=>this h.symm) ⟨0,[],hn,rfl,rfl,fun h=>by have:=Gbe (show 0<c1.length by omega);rw[this];simp,Gcy _,fun p hp=>by cases hp⟩ (by simp only;omega)
 rw[e];simp only[bd_s];exact⟨P,rfl,h1,h2,h3⟩
def jzzm(t:wz2h)(cs:List jzn7)(x:Int):Prop:=x=t.From\/x=t.To\/∃c,c∈cs/\(x=c.t.From\/x=c.t.To)
theorem jz0u{t:wz2h}{cs:List jzn7}{c:jzn7}{x:Int}:jzzm t (cs++[c]) x↔jzzm t cs x\/x=c.t.From\/x=c.t.To:=by
 unfold jzzm;simp only[Gb2,Gcc];constructor
 ·rintro(h|h|⟨d,hd|rfl,h⟩);·exact .inl (.inl h)
  ·exact .inl (.inr (.inl h))
  ·exact .inl (.inr (.inr ⟨d,hd,h⟩))
  ·exact .inr h
 ·rintro((h|h|⟨d,hd,h⟩)|h);·exact .inl h
  ·exact .inr (.inl h)
  ·exact .inr (.inr ⟨d,.inl hd,h⟩)
  ·exact .inr (.inr ⟨c,.inr rfl,h⟩)
theorem jz0j(vs:List jzn5)(known g:Int)(t:wz2h)(l:List jzn4):(l.filterMap (clp vs known g t)).length<=l.length:=List.length_filterMap_le _ _
theorem jz0p{t:wz2h}{cs:List jzn7}{at':List Int}(ha:SAsc at')(hm:∀x,jzzm t cs x->x∈at'){i:Nat}(h:i+1<at'.length){x:Int}(h1:at'[i]<=x)(h2:x<at'[i+1]):∀ds:List jzn7,(∀c,c∈ds->c∈cs)->ctg ds x=ctg ds at'[i]:=by
 refine jzz3 (fun _=>rfl) fun ds c ih hd=>?_;have hc:=hd c (by simp);have ih:=ih fun d hd'=>hd d (Gb2.2 (.inl hd'))
 have no:∀y,y∈at'->at'[i]<y->at'[i+1]<=y:=fun y hy hlt=>by
  obtain⟨j,hj,rfl⟩:=Gbp hy;by_cases e:j<=i
  ·by_cases e':j=i;·subst e';omega
   ·have:=jzze ha hj (show i<at'.length by omega) (by omega);omega
  ·by_cases e':j=i+1;·subst e';exact Gaw _
   ·have:=jzze ha h hj (by omega);omega
 have m1:=hm c.t.From (.inr (.inr ⟨c,hc,.inl rfl⟩));have m2:=hm c.t.To (.inr (.inr ⟨c,hc,.inr rfl⟩));have n1:=no _ m1;have n2:=no _ m2;rw[jzz2,jzz2,ih];by_cases e:c.t.From<=x/\x<c.t.To
 ·rw[Gd4 e,ifP]
 ·rw[Gd3 e,ifN]
theorem jz0n{vs:List jzn5}{known g:Int}{t:wz2h}{l:List jzn4}(hs:VsSz vs)(hc:vchE vs=0)(hr:∀r,r∈l->RR r)(hl:l.length<=5000)(hk:0<=known/\known<=14609)(ht:0<=t.From/\t.From<=t.To/\t.To<=1402560) : ∃at':List Int,jzop l vs g t known=some (at',at'.map (ctg (l.filterMap (clp vs known g t))))/\SAsc at'/\(∀x,x∈at'↔jzzm t (l.filterMap (clp vs known g t)) x)/\at'.length<=2*l.length+2:=by
 unfold jzop
 obtain⟨o,e,m,rfl,h1,h2,h3⟩:=vzf (s:=((0:Int),(mput keqI (mput keqI ([]:List (Int×Bool)) t.From true) t.To true),([]:List jzn7))) (body:=jzol g known l t vs) (fun s=>∃k:Nat,∃m,s=((k:Int),m,(l.take k).filterMap (clp vs known g t))/\k<=l.length/\(m.map (·.1)).Nodup/\(∀x,x∈m.map (·.1)↔jzzm t ((l.take k).filterMap (clp vs known g t)) x)/\m.length<=2*k+2) (fun s=>(l.length-s.1).toNat) (fun o=>∃m,o=(m,l.filterMap (clp vs known g t))/\(m.map (·.1)).Nodup/\(∀x,x∈m.map (·.1)↔jzzm t (l.filterMap (clp vs known g t)) x)/\m.length<=2*l.length+2) (by
  rintro s ⟨k,m,rfl,hk',h1,h2,h3⟩;simp only[jzol];by_cases hlt:k<l.length;rotate_left
  ·right;rw[it_n];rw[Gck (by omega)]at h2 ⊢;exact⟨_,rfl,m,rfl,h1,h2,by omega⟩
  left;have hx:=Gbe hlt;have htk:l.take (k+1)=l.take k++[l[k]]:=jzlb hx;have hrr:=hr _ (Gbo hlt);have hcl:=jz0j vs known g t (l.take k);rw[Gbz]at hcl;rw[it_d,at_e rfl hx];simp only[bd_s];generalize l[k]=r at *
  have hnone:clp vs known g t r=none->∃k':Nat,∃m',(((k:Int)+1),m,(l.take k).filterMap (clp vs known g t))=((k':Int),m',(l.take k').filterMap (clp vs known g t))/\k'<=l.length/\(m'.map (·.1)).Nodup/\(∀x,x∈m'.map (·.1)↔jzzm t ((l.take k').filterMap (clp vs known g t)) x)/\m'.length<=2*k'+2:=fun h=>by
   have e3:(l.take (k+1)).filterMap (clp vs known g t)=(l.take k).filterMap (clp vs known g t):=by rw[htk,List.filterMap_append];simp[h]
   exact⟨k+1,m,by rw[e3];simp,hlt,h1,fun x=>by rw[e3];exact h2 x,by omega⟩
  by_cases h:r.Gauge=g/\r.Known<=known;rotate_left
  ·rw[it_t (by simp only[Gak,Gas,Gdz,Gao,Gdx];omega)];simp only[bd_s];rw[qz3];exact⟨_,rfl,hnone (by unfold clp;rw[Gd3 (fun e=>h ⟨e.1,e.2.1⟩)]),by simp only;omega⟩
  rw[it_f (by simp only[Gak,Gar,Gdx,Bool.not_eq_false',Gdz];omega)];simp only[bd_s];rw[jz0a hs hc hrr hk];simp only[bd_s];by_cases h':max (shf vs known r).From t.From<min (shf vs known r).To t.To;rotate_left
  ·rw[it_n h',qz3];exact⟨_,rfl,hnone (by unfold clp;rw[Gd3 (fun e=>h' e.2.2)]),by simp only;omega⟩
  have hsome:clp vs known g t r=some ⟨⟨max (shf vs known r).From t.From,min (shf vs known r).To t.To⟩,r.Stage⟩:=by unfold clp;rw[Gd4 ⟨h.1,h.2,h'⟩]
  have e3:(l.take (k+1)).filterMap (clp vs known g t)=(l.take k).filterMap (clp vs known g t)++[⟨⟨max (shf vs known r).From t.From,min (shf vs known r).To t.To⟩,r.Stage⟩]:=by rw[htk,List.filterMap_append];simp[hsome]
  rw[it_d h',ck_d (by simp;omega),qz3,<-e3];refine⟨_,rfl,⟨k+1,mput keqI (mput keqI m (max (shf vs known r).From t.From) true) (min (shf vs known r).To t.To) true,by simp,hlt,jzzc (jzzc h1),fun x=>?_,?_⟩,by simp only;omega⟩
  ·rw[jzy9,jzy9,h2,e3,jz0u,or_assoc]
  ·have a:=jzy7 (k:=max (shf vs known r).From t.From) (m:=m);have b:=jzy7 (k:=min (shf vs known r).To t.To) (m:=mput keqI m (max (shf vs known r).From t.From) true);omega) ⟨0,_,rfl,Gdl _,jzzc (jzzc List.nodup_nil),fun x=>by rw[jzy9,jzy9];unfold jzzm;simp,by have a:=jzy7 (k:=t.From) (m:=[]);have b:=jzy7 (k:=t.To) (m:=mput keqI [] t.From true);simp only[List.length_nil]at a;omega⟩ (by simp only;omega)
 rw[e];simp only[bd_s];unfold jzoa
 have hm0:0<m.length:=by
  have:=List.length_pos_of_mem ((h2 t.From).2 (.inl rfl))
  rwa [Gbu]at this
 rw[ck_t (by (try rw[Gai]);simp only[Gdz];omega)];simp only[bd_s];generalize hcs:l.filterMap (clp vs known g t)=cs at *;have hcl:=jz0j vs known g t l;rw[hcs]at hcl;generalize hat:jzpf (m.map (·.1))=at' at *;have ha:SAsc at':=by rw[<-hat];exact jzyw _ h1
 have hmem:∀x,x∈at'↔jzzm t cs x:=fun x=>by rw[<-hat,jzyq,h2]
 have hlen:at'.length<=2*l.length+2:=by rw[<-hat,jzy0,Gbu];exact h3
 rw[qzwy]
 have step:∀k,k<at'.length->jzp0 at' ((k:Int),List.replicate k (-1:Int)++List.replicate (at'.length-k) 0)=some (.inl (((k+1:Nat):Int),List.replicate (k+1) (-1:Int)++List.replicate (at'.length-(k+1)) 0)):=fun k hk=>by
  simp only[jzp0];have hlen2:(List.replicate k (-1:Int)++List.replicate (at'.length-k) 0).length=at'.length:=by simp;omega
  rw[it_d (by simp;omega),at_e rfl (Gbe (by omega))];simp only[bd_s];rw[qz3];congr 2;refine Prod.ext (by simp) ?_;simp only;refine Ga7 fun i=>?_;rw[Gaz,Gbl];by_cases hik:k=i
  ·subst hik;rw[Gd4 rfl,ifP,Gba (by simp),Gbk,ifP]
  ·rw[Gd3 hik];by_cases hlt:i<k
   ·rw[Gba (by simp;omega),Gba (by simp;omega),Gbk,Gbk,ifP,ifP]
   ·rw[Gbb (by simp;omega),Gbb (by simp;omega),Gbk,Gbk];simp only[Gbw];by_cases h:i<at'.length
    ·rw[ifP,ifP]
    ·rw[ifN,ifN]
 have fin:jzp0 at' ((at'.length:Int),List.replicate at'.length (-1:Int)++List.replicate (at'.length-at'.length) 0)=some (.inr (List.replicate at'.length (-1))):=by simp only[jzp0];rw[it_n (by simp)];simp
 rw[jzct (fun k=>((k:Int),List.replicate k (-1:Int)++List.replicate (at'.length-k) 0)) at'.length (by omega) step fin (by simp)];simp only[bd_s];rw[wz69 (l:=cs) (fun k=>((k:Int),at'.map (ctg (cs.take k)))) (by omega) (o:=at'.map (ctg cs)) ?_ ?_ ?_]
 ·simp only[bd_s];exact⟨at',rfl,ha,hmem,hlen⟩
 ·intro k c hx;have hk:=(Gbg.1 hx).1;have hcm:=Gb9 hx;simp only[jzp1];rw[it_d,at_e rfl hx];simp only[bd_s];obtain⟨i,hi,ei,hie⟩:=jz0s (by omega) ha ((hmem c.t.From).2 (.inr (.inr ⟨c,hcm,.inl rfl⟩)));obtain⟨j,hj,ej,hje⟩:=jz0s (by omega) ha ((hmem c.t.To).2 (.inr (.inr ⟨c,hcm,.inr rfl⟩)));rw[ei,ej];simp only[bd_s]
  have hct:c.t.From<c.t.To:=by
   rw[<-hcs]at hcm;obtain⟨r,_,hr2⟩:=List.mem_filterMap.1 hcm;unfold clp at hr2;split at hr2
   ·rename_i h';cases hr2;exact h'.2.2
   ·cases hr2
  have hij:i<j:=by
   rcases Gc3 i j with h|h
   ·exact h
   ·by_cases e':i=j;·subst e';omega
    ·have:=jzze ha hj hi (by omega);omega
  have htk:cs.take (k+1)=cs.take k++[c]:=jzlb hx
  obtain⟨q,eq,hq⟩:=jzd2 (body:=jzq8 ((j:Int),true) c) (fun n:Nat=>(((i+n:Nat):Int),(at'.mapIdx fun p y=>if i<=p/\p<i+n then c.stage else ctg (cs.take k) y))) (fun n=>i+n<=j) (fun n=>j-i-n) (fun o=>o=at'.map (ctg (cs.take (k+1)))) (by
   intro n hn;simp only[jzq8];have hlm:(at'.mapIdx fun p y=>if i<=p/\p<i+n then c.stage else ctg (cs.take k) y).length=at'.length:=List.length_mapIdx;by_cases h:i+n<j
   ·left;rw[it_d,at_e rfl (Gbe (by omega))];simp only[bd_s];rw[qz3];refine⟨n+1,?_,by omega,by omega⟩;congr 2;refine Prod.ext (by simp only;omega) ?_;simp only;refine Ga7 fun p=>?_;rw[Gaz,Gbl];by_cases hp:i+n=p
    ·subst hp;rw[Gd4 rfl,ifP,Gbi,Gbe (by omega),Gdo,ifP]
    ·rw[Gd3 hp,Gbi,Gbi];congr 1;funext y;by_cases h2:i<=p/\p<i+n
     ·rw[Gd4 h2,ifP]
     ·rw[Gd3 h2,ifN]
   ·right;rw[it_n];refine⟨_,rfl,?_⟩;obtain rfl:n=j-i:=by omega
    refine Ga7 fun p=>?_;rw[Gbi,Gbh];cases hpp:at'[p]? with
    |none=>rfl
    |some y =>
     obtain⟨hpl,rfl⟩:=Gbg.1 hpp;simp only[Gdo];rw[htk,jzz2,<-hie,<-hje];congr 1
     have b1:i<=p↔at'[i]<=at'[p]:=by
      constructor
      ·intro h;by_cases e':i=p
       ·subst e';exact Gaw _
       ·have:=jzze ha hi hpl (by omega);omega
      ·intro h;rcases Gc3 p i with h'|h'
       ·have:=jzze ha hpl hi h';omega
       ·exact h'
     have b2:p<i+(j-i)↔at'[p]<at'[j]:=by
      constructor
      ·intro h;exact jzze ha hpl hj (by omega)
      ·intro h;rcases Gc3 p j with h'|h'
       ·omega
       ·by_cases e':p=j;·subst e';omega
        ·have:=jzze ha hj hpl (by omega);omega
     simp only[b1,b2]) (s:=((i:Int),at'.map (ctg (cs.take k)))) 0 (by
    refine Prod.ext (by simp) ?_;simp only;refine Ga7 fun p=>?_;rw[Gbi,Gbh];congr 1;funext y;rw[ifN]) (by omega) (by omega)
  rw[eq,hq];simp only[bd_s];rw[qz3];simp
 ·simp only[jzp1];rw[it_n,List.take_length]
 ·simp only[List.take_zero];refine Prod.ext (by simp) ?_;simp only;rw[show at'.map (ctg [])=at'.map (fun _=>(-1:Int)) from Gb0 fun x _=>rfl];simp[List.map_const']
theorem jz1c{vs:List jzn5}{known g:Int}{t:wz2h}{l:List jzn4}(hs:VsSz vs)(hc:vchE vs=0)(hr:∀r,r∈l->RR r)(hl:l.length<=5000)(hk:0<=known/\known<=14609)(ht:0<=t.From/\t.From<=t.To/\t.To<=1402560) : ∃c,jzop l vs g t known=some c/\∀st:List jzn6->Option Bool,(∀ys,ys.length<=2*l.length+2->(∀p,p∈ys->PcOk p)->st ys=some false) -> ∃P,jzou c.1 c.2 st=some P/\Cd (stg vs known g l) t.To none t.From (P.map tri)/\P.length<=2*l.length+2/\∀p,p∈P->PcOk p:=by
 obtain⟨at',e,ha,hm,hlen⟩:=jz0n (g:=g) hs hc hr hl hk ht;refine⟨_,e,fun st hst=>?_⟩
 have hrng:∀x,x∈at'->t.From<=x/\x<=t.To:=fun x hx=>by
  rcases(hm x).1 hx with h|h|⟨c,hcm,h⟩
  ·omega
  ·omega
  ·obtain⟨r,_,hr2⟩:=List.mem_filterMap.1 hcm;unfold clp at hr2;split at hr2
   ·rename_i h';cases hr2;simp only at h;omega
   ·cases hr2
 have hF:=(hm t.From).2 (.inl rfl);have hT:=(hm t.To).2 (.inr (.inl rfl));have hpos:=List.length_pos_of_mem hF
 have e0:at'[0]=t.From:=by
  obtain⟨i,hi,hie⟩:=Gbp hF;have:=hrng _ (Gbo hpos);by_cases h:i=0
  ·subst h;exact hie
  ·have:=jzze ha hpos hi (by omega);omega
 have e1:at'[at'.length-1]=t.To:=by
  obtain⟨i,hi,hie⟩:=Gbp hT;have:=hrng _ (Gbo (show at'.length-1<at'.length by omega));by_cases h:i=at'.length-1
  ·subst h;exact hie
  ·have:=jzze ha hi (show at'.length-1<at'.length by omega) (by omega);omega
 obtain⟨P,p1,p2,p3,p4⟩:=jz0m (at':=at') (c1:=at'.map (ctg (l.filterMap (clp vs known g t)))) (F:=stg vs known g l) (st:=st) hpos (by omega) ha (by simp) (fun x hx=>by have:=hrng x hx;omega) (fun i h x x1 x2=>by rw[Gbh,Gbe (by omega),Gdo];have r1:=hrng _ (Gbo (show i<at'.length by omega));have r2:=hrng _ (Gbo h);rw[<-jz0p ha (fun x hx=>(hm x).2 hx) h x1 x2 _ (fun c hc=>hc),jz06 (by omega)]) (fun ys h1 h2=>hst ys (by omega) h2);rw[e0,e1]at p2;exact⟨P,p1,p2,by omega,p4⟩
def jzzd(p:Int×Int×Int):wz3g:=if 0<=p.2.2 then⟨p.1,p.2.1,[⟨p.2.2,p.2.1-p.1⟩],0,0⟩ else⟨p.1,p.2.1,[],0,1000⟩
def Rng(g:Int)(t:wz2h)(known:Int):Prop:=(0<=g/\g<=39)/\(0<=t.From/\t.From<=t.To/\t.To<=1402560)/\0<=known/\known<=14609
instance (g:Int)(t:wz2h)(known:Int):Decidable (Rng g t known):=by unfold Rng;infer_instance
def SerR(l:List jzn4)(vs:List jzn5)(g:Int)(t:wz2h)(known:Int)(y:List wz3g×Int):Prop := (rchE l≠0/\y=([],rchE l))\/(rchE l=0/\vchE vs≠0/\y=([],vchE vs))\/(rchE l=0/\vchE vs=0/\¬Rng g t known/\y=([],3)) \/ (rchE l=0/\vchE vs=0/\Rng g t known/\∃P,Cd (stg vs known g l) t.To none t.From P/\P.length<=2*l.length+2/\y=if 2000<P.length then([],2) else(P.map jzzd,0))
theorem jz07(x y:Int):jzq3 [x,y]=some (if x=0 then y else x):=by
 unfold jzq3;rw[wz3m (l:=[x,y]) (fun _ z=>if z=0 then none else some z) (by simp) ?_ ?_]
 ·by_cases hx:x=0
  ·subst hx;by_cases hy:y=0
   ·subst hy;rfl
   ·simp[scan,hy,sOut,bd_s]
  ·simp[scan,hx,sOut,bd_s]
 ·intro k z hz;have hk:=(Gbg.1 hz).1;simp only[jzsp];rw[it_d,at_e rfl hz];simp only[bd_s];by_cases h:z=0
  ·rw[qzk5 h,qz3 (by simp at hk;omega),Gd4 h]
  ·rw[qzhj h,Gd3 h]
 ·simp only[jzsp];rw[it_n]
theorem jzz8(ys:List jzn6)(h:ys.length<=20000)(hp:∀p,p∈ys->PcOk p):wz20 jzpz ys []=some (.inl ((ys.map tri).map jzzd)):=by
 have gen:∀(ys:List jzn6) (out:List wz3g),out.length+ys.length<=20000->(∀p,p∈ys->PcOk p)->wz20 jzpz ys out=some (.inl (out++(ys.map tri).map jzzd)):=by
  intro ys;induction ys with
  |nil=>intro out _ _;simp[wz20]
  |cons p ys ih =>
   intro out h hp;simp only[Gbr]at h;have hpp:=hp p (Gb5 ..);unfold PcOk at hpp
   have e:jzpz p out=some (.inl (out++[jzzd (tri p)])):=by
    simp only[jzpz];unfold jzzd tri;by_cases hs:0<=p.stage
    ·rw[it_d hs,qz3,ck_d (by simp;omega),Gd4 hs]
    ·rw[it_n hs,ck_d (by simp;omega),Gd3 hs]
   unfold wz20;rw[e];simp only;rw[ih _ (by simp;omega) (fun q hq=>hp q (Gb4 _ hq))];simp
 have:=gen ys [] (by simpa using h) hp
 rwa [Gcd]at this
theorem jz0v{l:List jzn4}{vs:List jzn5}{g:Int}{t:wz2h}{known:Int}(hs:VsSz vs):∃y,jzpj l vs g t known=some y/\SerR l vs g t known y:=by
 unfold jzpj;rw[wzsi,jzz6 hs];simp only[bd_s];rw[jz07];simp only[bd_s];by_cases h1:rchE l=0;rotate_left
 ·rw[Gd3 h1,qzhj h1];exact⟨_,rfl,.inl ⟨h1,rfl⟩⟩
 rw[Gd4 h1];by_cases h2:vchE vs=0;rotate_left
 ·rw[qzhj h2];exact⟨_,rfl,.inr (.inl ⟨h1,h2,rfl⟩)⟩
 rw[qzk5 h2];by_cases h3:(0<=g/\g<=39)/\0<=t.From/\t.From<=t.To/\t.To<=1402560;rotate_left
 ·have e:(bif (bif (bif (bif (decide (g<0)) then true else(decide (40<=g))) then true else(decide (t.From<0))) then true else(decide (t.To<t.From))) then true else(decide (1402560<t.To)))=true:=by
   simp only[Gak,Gas,Gdz];omega
  rw[e];simp only[Gaq,wzcn,bd_s,Gdu];rw[wzdh];exact⟨_,rfl,.inr (.inr (.inl ⟨h1,h2,fun h=>h3 ⟨h.1,h.2.1⟩,rfl⟩))⟩
 have e:(bif (bif (bif (bif (decide (g<0)) then true else(decide (40<=g))) then true else(decide (t.From<0))) then true else(decide (t.To<t.From))) then true else(decide (1402560<t.To)))=false:=by simp only[Gak,Gar,Gdx];omega
 rw[e];simp only[Gap,qzbx,Gdt,jzpk,bd_s];by_cases h4:0<=known/\known<=14609;rotate_left
 ·rw[it_t (by simp only[Gaj,Gao,Bool.and_eq_false_iff,Gdx];omega)];exact⟨_,rfl,.inr (.inr (.inl ⟨h1,h2,fun h=>h4 h.2.2,rfl⟩))⟩
 rw[it_f (by simp only[Gaj,Bool.not_eq_false',Gai,Gdz];omega)];obtain⟨hl,hb⟩:=jzp7.1 h1;obtain⟨c,e1,hc⟩:=jz1c (g:=g) hs h2 hb.right (by omega) h4 h3.2;rw[e1];simp only[bd_s];obtain⟨P,p1,p2,p3,p4⟩:=hc (fun l=>wz4k jzpz l []) fun ys h1 h2=>by unfold wz4k;rw[jzz8 ys (by omega) h2]
 rw[p1];simp only[bd_s];rw[jzz8 P (by omega) p4];simp only[bd_s,Gbu];refine⟨if 2000<(P.map tri).length then([],2) else((P.map tri).map jzzd,0),?_,.inr (.inr (.inr ⟨h1,h2,⟨h3.1,h3.2,h4⟩,P.map tri,p2,by rw[Gbu];exact p3,rfl⟩))⟩;rw[Gbu];by_cases h:2000<P.length
 ·rw[it_d,Gd4 h]
 ·rw[it_n,Gd3 h]
theorem jz1a{vs:List jzn5}{known g x:Int}:∀{l:List jzn4},(∀r,r∈l->RR r)->-1<=stg vs known g l x:=by
 intro l;induction l using jzz3 with
 |h0=>intro _;exact Gaw _
 |h1 l r ih =>
  intro hr;rw[jzz0];split
  ·have:=(hr r (by simp)).2.2.2.2.2.1.1;omega
  ·exact ih fun q hq=>hr q (Gb2.2 (.inl hq))
end Go.Am

namespace Go.Am
theorem Cd.next{U:Type}{f:Int->U}{b:Int}:∀{l:List (Int×Int×U)} {v:Option U} {a:Int},Cd f b v a l->∀i,(h:i<l.length)->(l[i].2.1<b->∃h2:i+1<l.length,l[i+1].1=l[i].2.1)/\(i+1<l.length->l[i].2.1<b)
 |p :: l,v,a,h,i,hi=>by
  obtain⟨k1,k2,k3,k4,k5⟩:=h;cases i with
  |zero =>
   simp only[List.getElem_cons_zero];cases l with
   |nil =>have k5:_=_:=k5;exact⟨fun h=>by omega,fun h=>by simp at h⟩
   |cons q l =>obtain⟨m1,m2,_,_,m5⟩:=k5;refine⟨fun _=>⟨by simp,m1⟩,fun _=>?_⟩;have:=m5.le;omega
  |succ i =>simp only[Gbr]at hi ⊢;have:=k5.next i (by omega);simp only[List.getElem_cons_succ];exact⟨fun h=>by obtain⟨h2,e⟩:=this.1 h;exact⟨by omega,e⟩,fun h=>this.2 (by omega)⟩
theorem vsm.symm{a b:jzn5}(h:vsm a b):vsm b a:=⟨h.1.symm,h.2.symm⟩
theorem vsm.trans{a b c:jzn5}(h:vsm a b)(k:vsm b c):vsm a c:=⟨h.1.trans k.1,h.2.trans k.2⟩
theorem jz2i(k:Int):jzpk k=some (decide (0<=k/\k<=14609)):=by unfold jzpk;congr 1;rw[Gal,Gd0];simp
theorem SerR.ok{l:List jzn4}{vs:List jzn5}{g:Int}{t:wz2h}{known:Int}{y:List wz3g×Int}(h:SerR l vs g t known y):y.2≠0/\y.1=[]\/(y.2=0/\rchE l=0/\vchE vs=0/\Rng g t known/\∃P,Cd (stg vs known g l) t.To none t.From P/\P.length<=2000/\y.1=P.map jzzd):=by
 rcases h with ⟨a,e⟩|⟨a,b,e⟩|⟨a,b,c,e⟩|⟨a,b,c,P,d,_,e⟩
 ·rw[e];exact .inl ⟨a,rfl⟩
 ·rw[e];exact .inl ⟨b,rfl⟩
 ·rw[e];exact .inl ⟨by simp,rfl⟩
 ·rw[e];split
  ·exact .inl ⟨by simp,rfl⟩
  ·exact .inr ⟨rfl,a,b,c,P,d,by omega,rfl⟩
theorem jz2e(p:Int×Int×Int):(jzzd p).From=p.1/\(jzzd p).To=p.2.1/\(jzzd p).Lo=0:=by unfold jzzd;split<;>simp
theorem jz2c{p:Int×Int×Int}(h:0<=p.2.2):(jzzd p).Table=[⟨p.2.2,p.2.1-p.1⟩]/\(jzzd p).Hi=0:=by unfold jzzd;rw[Gd4 h];exact⟨rfl,rfl⟩
theorem jz2d{p:Int×Int×Int}(h:¬0<=p.2.2):(jzzd p).Table=[]/\(jzzd p).Hi=1000:=by unfold jzzd;rw[Gd3 h];exact⟨rfl,rfl⟩
theorem jz2b{F:Int->Int}{a b:Int}{P:List (Int×Int×Int)}(h:Cd F b none a P)(hge:∀x,-1<=F x)(hn:P.length<=1000000)(x:Int):jz18 (P.map jzzd) x=some (if a<=x/\x<b then F x else -1):=by
 unfold jz18;rw[wz3m (l:=P) (fun _ p=>if(p.1<=x/\x<p.2.1)/\0<=p.2.2 then some p.2.2 else none) (by omega) ?_ ?_]
 ·cases hs:scan (fun _ (p:Int×Int×Int)=>if(p.1<=x/\x<p.2.1)/\0<=p.2.2 then some p.2.2 else none) 0 P with
  |some o =>
   obtain⟨i,p,hp,hi,_⟩:=wz6q 0 P o hs;split at hi
   ·rename_i h';cases hi;obtain⟨m1,m2,m3,m4⟩:=h.mem p (Gb9 hp);simp only[sOut,bd_s];rw[ifP,m4 x h'.1.1 h'.1.2]
   ·cases hi
  |none =>
   simp only[sOut,bd_s];by_cases hx:a<=x/\x<b
   ·obtain⟨p,hp,h1,h2⟩:=h.ex x hx.1 hx.2;obtain⟨m1,m2,m3,m4⟩:=h.mem p hp;obtain⟨i,hi,rfl⟩:=Gbp hp;have:=wz5l hs (Gbe hi);split at this
    ·cases this
    ·rename_i h';have e:=m4 x h1 h2;have:=hge x;rw[Gd4 hx,e];congr 1;omega
   ·rw[Gd3 hx]
 ·intro k p hp;have hk:=(Gbg.1 hp).1;obtain⟨e1,e2,_⟩:=jz2e p;simp only[jz2a,Gbu];rw[it_d,at_e (x:=jzzd p) rfl (by rw[Gbh,hp];rfl)];simp only[bd_s,e1,e2];by_cases h0:0<=p.2.2
  ·obtain⟨e3,_⟩:=jz2c h0;rw[e3];by_cases hx:p.1<=x/\x<p.2.1
   ·rw[it_t (by simp[hx]),show at? [wz2w.mk p.2.2 (p.2.1-p.1)] 0=some (wz2w.mk p.2.2 (p.2.1-p.1)) from id rfl,Gd4 ⟨hx,h0⟩];simp only[bd_s]
   ·rw[it_f (by rw[Bool.eq_false_iff];simp only[Gaj,ne_eq,Gai,Gdz];omega),qz3,Gd3 (fun e=>hx e.1)]
  ·obtain⟨e3,_⟩:=jz2d h0;rw[e3,it_f (by simp),qz3,Gd3 (fun e=>h0 e.2)]
 ·simp only[jz2a,Gbu];rw[it_n]
theorem jz2f{r:jzn4}{vs:List jzn5}{known:Int}(hs:VsSz vs)(hv:vchE vs=0)(hr:RR r)(hk:0<=known/\known<=14609):jzqu r vs known=some (shf vs known r,0):=by unfold jzqu;rw[jztj];simp only[bd_s];rw[qzk5 hr,jzz6 hs];simp only[bd_s];rw[qzk5 hv,jz2i];simp only[bd_s];rw[qzk5 hk,jz0a hs hv hr hk];simp only[bd_s]
theorem jz2g{l:List jzn4}{vs:List jzn5}{q:jzoj}(hs:VsSz vs)(hv:vchE vs=0)(hb:Bk l)(hl:l.length<=100000)(hk:0<=q.Known/\q.Known<=14609)(x:Int):lp (jz14 l q vs x) (-1,-1,0)=some (.inl (stg vs q.Known q.Gauge l x)):=by
 obtain⟨o,e,ho⟩:=vzf (s:=((-1:Int),(-1:Int),(0:Int))) (body:=jz14 l q vs x) (fun s=>∃k:Nat,∃sq:Int,s=(sq,stg vs q.Known q.Gauge (l.take k) x,(k:Int))/\k<=l.length/\(sq = -1\/∃i:Nat,∃h:i<l.length,i<k/\l[i].Gauge=q.Gauge/\sq=l[i].Seq)) (fun s=>(l.length-s.2.2).toNat) (fun o=>o=.inl (stg vs q.Known q.Gauge l x)) (by
  rintro s ⟨k,sq,rfl,hk',hI⟩;simp only[jz14];by_cases hlt:k<l.length;rotate_left
  ·right;rw[it_n,Gck (by omega)];exact⟨_,rfl,rfl⟩
  left;have hx:=Gbe hlt;have htk:l.take (k+1)=l.take k++[l[k]]:=jzlb hx;have hsn:=jzz0 (vs:=vs) (known:=q.Known) (g:=q.Gauge) (x:=x) (l:=l.take k) (r:=l[k]);rw[<-htk]at hsn;have hrr:=hb.right _ (Gbo hlt);have hlow:∀i,(hi:i<l.length)->i<k->rlt l[i] l[k]:=fun i hi hik=>jzvh hb.asc hi hlt hik;rw[it_d,at_e rfl hx];simp only[bd_s];generalize hgr:l[k]=r at *;rw[jz2f hs hv hrr hk];simp only[bd_s,decide_true,Gaq];rw[qzil];by_cases hc:cov vs q.Known q.Gauge x r
  ·rw[Gd4 hc]at hsn
   have hsq:sq<r.Seq:=by
    rcases hI with h|⟨i,hi,h1,h2,h3⟩
    ·have:=hrr.2.1.1;omega
    ·have h4:=hlow i hi h1;have h5:=hc.1;unfold rlt at h4;omega
   rw[it_t (by simp only[Gaj,Gai,Gdz];exact⟨⟨⟨⟨hc.1,hc.2.1⟩,hc.2.2.1⟩,hc.2.2.2⟩,hsq⟩),qz3];exact⟨_,rfl,⟨k+1,r.Seq,by rw[hsn];simp,hlt,.inr ⟨k,hlt,by omega,by rw[hgr];exact hc.1,by rw[hgr]⟩⟩,by simp only;omega⟩
  ·rw[Gd3 hc]at hsn;rw[it_f (by rw[Bool.eq_false_iff];simp only[Gaj,ne_eq,Gai,Gdz];rintro⟨⟨⟨⟨a,b⟩,c⟩,d⟩,_⟩;exact hc ⟨a,b,c,d⟩),qz3];refine⟨_,rfl,⟨k+1,sq,by rw[hsn];simp,hlt,?_⟩,by simp only;omega⟩;rcases hI with h|⟨i,hi,h1,h2,h3⟩
   ·exact .inl h
   ·exact .inr ⟨i,hi,by omega,h2,h3⟩) ⟨0,-1,rfl,Gdl _,.inl rfl⟩ (by simp only;omega)
 rw[e,ho]
theorem jz2h{l:List jzn4}{vs:List jzn5}{q:jzoj}(hs:VsSz vs):jz19 l vs q=some true:=by
 unfold jz19;by_cases hn:60<l.length\/40<vs.length
 ·have e:(bif (decide (60<(List.length l:Int))) then true else(decide (40<(List.length vs:Int))))=true:=by
   simp only[Gak,Gas,Gdz];omega
  rw[e];simp only[Gaq,wzcn,bd_s,Gdu];rw[wzdh,jzrh];rfl
 have e:(bif (decide (60<(List.length l:Int))) then true else(decide (40<(List.length vs:Int))))=false:=by simp only[Gak,Gar,Gdx];omega
 rw[e];simp only[Gap,qzbx,Gdt];rw[wzsi];simp only[bd_s];by_cases h1:rchE l=0;rotate_left
 ·rw[qzhj h1,jzrh];rfl
 rw[qzk5 h1];obtain⟨y,y1,y2⟩:=jz0v (l:=l) (g:=q.Gauge) (t:=q.Ticks) (known:=q.Known) hs;rw[y1];simp only[bd_s];rcases y2.ok with ⟨h,e⟩|⟨h,_,h2,h3,P,hP,hPn,hy⟩
 ·rw[qzhj h,jzrh,e];rfl
 rw[qzk5 h];obtain⟨hl,hb⟩:=jzp7.1 h1;have hge:∀x,-1<=stg vs q.Known q.Gauge l x:=fun x=>jz1a hb.right;have hr3:=h3.2.1;generalize hF:stg vs q.Known q.Gauge l=F at *
 obtain⟨o,e0,pr,rfl,hpr,hpl⟩:=vzf (s:=(q.Ticks.From,(-2:Int),(0:Int),([]:List Int))) (body:=jz16 y) (fun s=>∃k:Nat,∃v:Option Int,∃c last:Int,∃pr:List Int,s=(c,last,(k:Int),pr)/\k<=P.length/\Cd F q.Ticks.To v c (P.drop k)/\((v=none/\last = -2)\/v=some last)/\q.Ticks.From<=c/\(∀x,x∈pr->q.Ticks.From<=x/\x<q.Ticks.To)/\pr.length=3*k) (fun s=>(P.length-s.2.2.1).toNat) (fun o=>∃pr,o=.inl (q.Ticks.To,pr)/\(∀x,x∈pr->q.Ticks.From<=x/\x<q.Ticks.To)/\pr.length<=6000) (by
  rintro s ⟨k,v,c,last,pr,rfl,hk,hC,hv,hc,hp,hpl⟩;simp only[jz16];rw[hy,Gbu];by_cases hlt:k<P.length;rotate_left
  ·right;rw[it_n];rw[List.drop_eq_nil_of_le (by omega)]at hC;have hC:c=q.Ticks.To:=hC;exact⟨_,rfl,pr,by rw[hC],hp,by omega⟩
  left;rw[List.drop_eq_getElem_cons hlt]at hC;obtain⟨c1,c2,c3,c4,c5⟩:=hC;have c6:=c5.le;have hpx:P[k]?=some P[k]:=Gbe hlt;have hsg:-1<=P[k].2.2:=by rw[<-c3 c (Gaw _) c2];exact hge c
  obtain⟨t1,t2,t3⟩:=jz2e P[k];rw[it_d,at_e (x:=jzzd P[k]) rfl (by rw[Gbh,hpx];rfl)];simp only[bd_s];rw[t1,t2,t3]
  have hlast:P[k].2.2≠last:=by
   rcases hv with ⟨rfl,rfl⟩|rfl
   ·omega
   ·intro e;exact c4 (by rw[e])
  have hstg:(ite' (decide (0<(List.length (jzzd P[k]).Table:Int))) (bd (at? (jzzd P[k]).Table 0) fun x2=>some x2.Stage) (some (-1)))=some P[k].2.2:=by
   by_cases h0:0<=P[k].2.2
   ·obtain⟨e3,_⟩:=jz2c h0;rw[e3,it_d (by simp),show at? [wz2w.mk P[k].2.2 (P[k].2.1-P[k].1)] 0=some (wz2w.mk P[k].2.2 (P[k].2.1-P[k].1)) from id rfl];simp only[bd_s]
   ·obtain⟨e3,_⟩:=jz2d h0;rw[e3,it_n (by simp)];congr 1;omega
  rw[hstg];simp only[bd_s];have hmid:(P[k].1+P[k].2.1).tdiv 2=(P[k].1+P[k].2.1) / 2:=Int.tdiv_eq_ediv_of_nonneg (by omega)
  have fin:(ck (inB .i64 (P[k].2.1-1))<|ck (inB .i64 (P[k].1+P[k].2.1))<|ck (inB .i64 ((P[k].1+P[k].2.1).tdiv 2)) <|
     ck (decide (List.length (pr++[P[k].1,(P[k].2.1-1),((P[k].1+P[k].2.1).tdiv 2)])*8<=140737488355328))<|ck (inB .i64 ((k:Int)+1)) <|
     some ((.inl (P[k].2.1,P[k].2.2,((k:Int)+1),(pr++[P[k].1,(P[k].2.1-1),((P[k].1+P[k].2.1).tdiv 2)])):(Int×Int×Int×List Int)⊕((Int×List Int)⊕Bool))))=some (.inl (P[k].2.1,P[k].2.2,((k:Int)+1),(pr++[P[k].1,(P[k].2.1-1),((P[k].1+P[k].2.1).tdiv 2)]))):=by
   rw[qz3,qz3,qz3,ck_d (by simp;omega),qz3]
  have hst:∃k':Nat,∃v:Option Int,∃c last:Int,∃pr':List Int,((P[k].2.1,P[k].2.2,((k:Int)+1),(pr++[P[k].1,(P[k].2.1-1),((P[k].1+P[k].2.1).tdiv 2)])):Int×Int×Int×List Int)=(c,last,(k':Int),pr')/\k'<=P.length/\Cd F q.Ticks.To v c (P.drop k')/\((v=none/\last = -2)\/v=some last)/\q.Ticks.From<=c/\(∀x,x∈pr'->q.Ticks.From<=x/\x<q.Ticks.To)/\pr'.length=3*k':=by
   refine⟨k+1,some P[k].2.2,P[k].2.1,P[k].2.2,pr++[P[k].1,(P[k].2.1-1),((P[k].1+P[k].2.1).tdiv 2)],by simp,hlt,c5,.inr rfl,by omega,fun x hx=>?_,by simp;omega⟩;rcases Gb2.1 hx with hx|hx
   ·exact hp x hx
   ·simp only[Gb3,Gce,Gd8]at hx;rcases hx with rfl|rfl|rfl
    ·omega
    ·omega
    ·rw[hmid];omega
  by_cases h0:0<=P[k].2.2
  ·obtain⟨e3,e4⟩:=jz2c h0;rw[e3,e4];have e5:(bif (bif (decide ((List.length [wz2w.mk P[k].2.2 (P[k].2.1-P[k].1)]:Int)=1)) then(decide True) else false) then(decide ((0:Int)=0)) else false)=true:=by simp
   rw[e5];simp only[qzbx];rw[show at? [wz2w.mk P[k].2.2 (P[k].2.1-P[k].1)] 0=some (wz2w.mk P[k].2.2 (P[k].2.1-P[k].1)) from id rfl];simp only[bd_s,Gaq,Bool.false_or];rw[qz3,it_f (by rw[Gdy c1,Gdw (show ¬P[k].2.1<=P[k].1 by omega),Gdw hlast];simp),fin];exact⟨_,rfl,hst,by simp only;omega⟩
  ·obtain⟨e3,e4⟩:=jz2d h0;rw[e3,e4];have e5:(bif (bif (decide ((List.length ([]:List wz2w):Int)=1)) then(decide True) else false) then(decide ((1000:Int)=0)) else false)=false:=by simp
   rw[e5];simp only[wzcn,bd_s,Gap,Bool.true_or];rw[wzdp,it_f (by rw[Gdy c1,Gdw (show ¬P[k].2.1<=P[k].1 by omega),Gdw hlast];simp),fin];exact⟨_,rfl,hst,by simp only;omega⟩) ⟨0,none,q.Ticks.From,-2,[],rfl,Gdl _,hP,.inl ⟨rfl,rfl⟩,Gaw _,fun x hx=>(by cases hx),rfl⟩ (by simp only;omega)
 rw[e0];simp only[bd_s,decide_true,Gaq];rw[qzil];have hat:=fun x=>jz2b hP hge (by omega) x;rw[wz69 (l:=pr) (s:=0) (fun k=>(k:Int)) (by omega) (o:=.inl ()) ?_ ?_ rfl];rotate_left
 ·intro k x hx;have hk:=(Gbg.1 hx).1;simp only[jz17];rw[it_d,at_e rfl hx];simp only[bd_s];rw[jz2g hs h2 hb (by omega) h3.2.2,hF];simp only[bd_s];rw[hy,hat,Gd4 (hpr x (Gb9 hx))];simp only[bd_s,decide_true,Gaq];rw[qzil,qz3];rfl
 ·simp only[jz17];rw[it_n]
 simp only[bd_s];have hmid:(q.Ticks.From+q.Ticks.To).tdiv 2=(q.Ticks.From+q.Ticks.To) / 2:=Int.tdiv_eq_ediv_of_nonneg (by omega);generalize hmd:(q.Ticks.From+q.Ticks.To).tdiv 2=md at *;rw[qz3,qz3];unfold jzor;simp only[bd_s];obtain⟨u,u1,u2⟩:=jz0v (l:=l) (g:=q.Gauge) (t:=⟨q.Ticks.From,md⟩) (known:=q.Known) hs;obtain⟨w,w1,w2⟩:=jz0v (l:=l) (g:=q.Gauge) (t:=⟨md,q.Ticks.To⟩) (known:=q.Known) hs
 have get:∀(t:wz2h) (z:List wz3g×Int),0<=t.From/\t.From<=t.To/\t.To<=1402560->SerR l vs q.Gauge t q.Known z->∃Q,Cd F t.To none t.From Q/\Q.length<=2000/\z=(Q.map jzzd,0):=fun t z ht hz=>by
  rcases hz with ⟨a,e⟩|⟨a,b,e⟩|⟨a,b,c,e⟩|⟨a,b,c,Q,hQ,hQn,e⟩
  ·exact absurd h1 a
  ·exact absurd h2 b
  ·exact absurd ⟨h3.1,ht,h3.2.2⟩ c
  ·rw[ifN]at e;rw[hF]at hQ;exact⟨Q,hQ,by omega,e⟩
 obtain⟨Uu,hU,hUn,rfl⟩:=get _ u (by simp only;omega) u2;obtain⟨W,hW,hWn,rfl⟩:=get _ w (by simp only;omega) w2;rw[u1,w1];simp only[bd_s,decide_true,Gaq,Gdt];rw[qzil,qz3,ck_d (by simp;omega)];rw[wz69 (l:=pr++[md,md-1]) (s:=0) (fun k=>(k:Int)) (by simp;omega) (o:=.inl ()) ?_ ?_ rfl];rotate_left
 ·intro k x hx;have hk:=(Gbg.1 hx).1;have hlen:(pr++[md,md-1]).length=pr.length+2:=by simp
  simp only[jz15,hmd];rw[it_d,at_e rfl hx];simp only[bd_s];rw[jz2b hU hge (by omega),jz2b hW hge (by omega),hy,hat];simp only[bd_s];by_cases hx2:md<=x
  ·rw[it_d hx2];simp only[bd_s]
   rw[qzk5 (by
    by_cases h5:x<q.Ticks.To
    ·rw[Gd4 ⟨hx2,h5⟩,Gd4 ⟨by omega,h5⟩]
    ·rw[Gd3 (fun e=>h5 e.2),Gd3 (fun e=>h5 e.2)]),qz3]
   rfl
  ·rw[it_n hx2];simp only[bd_s]
   rw[qzk5 (by
    by_cases h5:q.Ticks.From<=x
    ·rw[Gd4 ⟨h5,by omega⟩,Gd4 ⟨h5,by omega⟩]
    ·rw[Gd3 (fun e=>h5 e.1),Gd3 (fun e=>h5 e.1)]),qz3]
   rfl
 ·simp only[jz15,hmd];rw[it_n]
 simp only[bd_s];rw[jzrh];rfl
end Go.Am

