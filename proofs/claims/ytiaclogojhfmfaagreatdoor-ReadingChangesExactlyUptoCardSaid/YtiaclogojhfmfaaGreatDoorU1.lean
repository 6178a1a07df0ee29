/- Part U1: the mathematics of the functions of this seat. No condition. -/
import Derived.Test.YtiaclogojhfmfaaGreatDoorR2
set_option linter.unusedSimpArgs false
set_option linter.unusedVariables false
namespace Go.Am
section
variable {α ω O:Type}
def scan(f:Nat->α->Option ω):Nat->List α->Option ω
 |_,[]=>none
 |k,x :: l=>match f k x with
  |some o=>some o
  |none=>scan f (k+1) l
theorem XW{f:Nat->α->Option ω}:∀(k:Nat) (l:List α),scan f k l=none->∀i x,l[i]?=some x->f (k+i) x=none
 |k,[],_,i,x,h=>by simp at h
 |k,y :: l,e,i,x,h=>by
  unfold scan at e;split at e
  ·cases e
  ·rename_i e1;cases i with
   |zero=>simp at h;subst h;exact e1
   |succ i=>have:=XW (k+1) l e i x (by simpa using h);rwa [show k+(i+1)=k+1+i by omega]
theorem S8{f:Nat->α->Option ω}:∀(k:Nat) (l:List α),(∀i x,l[i]?=some x->f (k+i) x=none)->scan f k l=none
 |k,[],_=>rfl
 |k,y :: l,e=>by unfold scan;rw[show f k y=none from e 0 y rfl];exact S8 (k+1) l fun i x h=>by have:=e (i+1) x (by simpa using h);rwa [show k+(i+1)=k+1+i by omega]at this
theorem jzdu{f:Nat->α->Option ω}{l:List α}{k:Nat}{x:α}(h:l[k]?=some x):scan f k (l.drop k)=(match f k x with
  |some o=>some o
  | none=>scan f (k+1) (l.drop (k+1))):=by
 obtain⟨hk,rfl⟩:=AL.1 h;rw[SQ hk];rfl
def sOut:Option ω->Unit⊕ω
 |some o=>.inr o
 |none=>.inl ()
theorem jzak{body:O->Option (O⊕(Unit⊕ω))}{l:List α}(st:Nat->O)(f:Nat->α->Option ω)(hl:l.length<=1000000000)(hs:∀(k:Nat) (x:α),l[k]?=some x->body (st k)=some (match f k x with | some o=>.inr (.inr o) | none=>.inl (st (k+1)))) (he:body (st l.length)=some (.inr (.inl ()))) {s:O} (h0:s=st 0):lp body s=some (sOut (scan f 0 l)):=by
 obtain⟨o,e,ho⟩:=QC (body:=body) st (fun k=>k<=l.length/\scan f 0 l=scan f k (l.drop k)) (fun k=>l.length-k) (fun o=>o=sOut (scan f 0 l)) (by
  rintro k ⟨hk,gz⟩;by_cases hlt:k<l.length
  ·have hx:=AD hlt;have h1:=hs k _ hx;have h2:=jzdu (f:=f) hx;cases hf:f k l[k] with
   |some o =>right;rw[hf]at h1 h2;exact⟨_,h1,by rw[gz,h2];rfl⟩
   |none =>left;rw[hf]at h1 h2;exact⟨k+1,h1,⟨hlt,gz.trans h2⟩,by omega⟩
  ·right;have:k=l.length:=by omega
   subst this;refine⟨_,he,?_⟩;rw[gz,List.drop_length];rfl) 0 h0 ⟨DC _,rfl⟩ (by omega)
 rw[e,ho]
theorem Eb{body:Int->Option (Int⊕(Unit⊕ω))}{l:List α}(f:Nat->α->Option ω)(hl:l.length<=1000000000)(hs:∀(k:Nat) (x:α),l[k]?=some x->body (k:Int)=some (match f k x with | some o=>.inr (.inr o) | none=>.inl ((k:Int)+1))) (he:body (l.length:Int)=some (.inr (.inl ()))):lp body 0=some (sOut (scan f 0 l)) :=
 jzak (fun k=>(k:Int)) f hl (fun k x h=>by rw[hs k x h];cases f k x<;>rfl) he rfl
end
theorem Jl{o:Option Int}{z:Int}:(match sOut o with | .inl ()=>some z | .inr o=>some o)=some (o.getD z):=by cases o<;>rfl
theorem Hz{α:Type}[Inhabited α]{l:List α}{k:Nat}{x:α}(h:l[k]?=some x)(h0:0<k):at? l ((k:Int)-1)=some (l.getD (k-1) default):=by
 have hk:=(AL.1 h).1;have h1:k-1<l.length:=by omega
 rw[at_e (n:=k-1) (by omega) (AD h1)];simp[List.getD,h1]
theorem XX{α:Type}[Inhabited α]{l:List α}{k:Nat}{x:α}(h:l[k]?=some x)(h0:0<k):l.getD (k-1) default∈l:=by
 have hk:=(AL.1 h).1;have h1:k-1<l.length:=by omega
 simp[List.getD,h1]
theorem H6{α ω:Type}{f:Nat->α->Option ω}:∀(k:Nat) (l:List α) (o:ω),scan f k l=some o->∃i x,l[i]?=some x/\f (k+i) x=some o/\∀j y,j<i->l[j]?=some y->f (k+j) y=none
 |k,[],o,h=>by cases h
 |k,y :: l,o,h=>by
  unfold scan at h;split at h
  ·rename_i o' ho;cases h;exact⟨0,y,rfl,ho,fun j y h=>by omega⟩
  ·rename_i hn;obtain⟨i,x,h1,h2,h3⟩:=H6 (k+1) l o h;refine⟨i+1,x,by simpa using h1,by rwa [show k+(i+1)=k+1+i by omega],fun j z hj hz=>?_⟩;cases j with
   |zero=>simp at hz;subst hz;exact hn
   |succ j =>
    have:=h3 j z (by omega) (by simpa using hz)
    rwa [show k+(j+1)=k+1+j by omega]
section
variable {α U ω O:Type}
theorem XY{body:O->Option (O⊕ω)}(st:Nat->O)(n:Nat)(hn:n<4611686018427387904)(hs:∀k,k<n->body (st k)=some (.inl (st (k+1)))){o:ω}(he:body (st n)=some (.inr o)){s:O}(h0:s=st 0):lp body s=some o:=by
 obtain⟨o',e,ho⟩:=QC (body:=body) st (fun k=>k<=n) (fun k=>n-k) (fun o'=>o'=o) (by
  intro k hk;by_cases h:k<n
  ·exact .inl ⟨k+1,hs k h,h,by omega⟩
  ·right;obtain rfl:k=n:=by omega
   exact⟨_,he,rfl⟩) 0 h0 (DC _) (by omega)
 rw[e,ho]
theorem S9{body:O->Option (O⊕ω)}{l:List α}(st:Nat->O)(hl:l.length<4611686018427387904)(hs:∀k x,l[k]?=some x->body (st k)=some (.inl (st (k+1)))){o:ω}(he:body (st l.length)=some (.inr o)){s:O}(h0:s=st 0):lp body s=some o :=
 XY st l.length hl (fun k hk=>hs k _ (AD hk)) he h0
theorem KX{l:List α}{k:Nat}{x:α}(h:l[k]?=some x):l.take (k+1)=l.take k++[x]:=by rw[List.take_add_one,h];rfl
theorem Jm{f:Nat->α->Option ω}{l:List α}(h:scan f 0 l=none){i:Nat}{x:α}(hx:l[i]?=some x):f i x=none:=by
 have:=XW 0 l h i x hx
 rwa [Ce]at this
end
def SAsc(l:List Int):Prop:=l.Pairwise (· < ·)
theorem SA(a:Int):∀l x,x∈Bf a l↔x=a\/x∈l
 |[],x=>by simp[Bf]
 |b :: l,x=>by
  unfold Bf;cases decide (a<=b)
  ·show x∈b :: Bf a l↔_;rw[AM,SA a l x,AM];constructor
   ·rintro(h|h|h);·exact .inr (.inl h)
    ·exact .inl h
    ·exact .inr (.inr h)
   ·rintro(h|h|h);·exact .inr (.inl h)
    ·exact .inl h
    ·exact .inr (.inr h)
  ·show x∈a :: b :: l↔_;exact AM
theorem XZ(a:Int):∀l,SAsc l->a∉l->SAsc (Bf a l)
 |[],_,_=>Lh _ _
 |b :: l,h,hn=>by
  obtain⟨h1,h2⟩:=HJ.1 h;have eC:a≠b:=fun e=>hn (by simp[e]);have kW:a∉l:=fun e=>hn (by simp[e]);unfold Bf;cases hd:decide (a<=b)
  ·have hd:=of_decide_eq_false hd;refine HJ.2 ⟨fun c hc=>?_,XZ a l h2 kW⟩;rcases(SA a l c).1 hc with rfl|hc
   ·omega
   ·exact h1 c hc
  ·have hd:=Tj hd;refine HJ.2 ⟨fun c hc=>?_,h⟩;rcases AM.1 hc with rfl|hc
   ·omega
   ·have:=h1 c hc;omega
theorem SB:∀l x,x∈BD l↔x∈l
 |[],x=>Iff.rfl
 |a :: l,x=>by show x∈Bf a (BD l)↔_;rw[SA,SB l x,AM]
theorem Ya:∀l:List Int,l.Nodup->SAsc (BD l)
 |[],_=>List.Pairwise.nil
 |a :: l,h=>by obtain⟨h1,h2⟩:=List.nodup_cons.1 h;exact XZ a _ (Ya l h2) fun e=>h1 ((SB l a).1 e)
theorem Yb(a:Int):∀l,(Bf a l).length=l.length+1
 |[]=>rfl
 |b :: l=>by
  unfold Bf;cases decide (a<=b)
  ·show(b :: Bf a l).length=_;simp[Yb a l]
  ·rfl
theorem Yc:∀l,(BD l).length=l.length
 |[]=>rfl
 |a :: l=>by show(Bf a (BD l)).length=_;rw[Yb,Yc l];rfl
theorem NB(k:Int):∀(m:List (Int×Bool)),((mput keqI m k true).map (·.1))=if k∈m.map (·.1) then m.map (·.1) else m.map (·.1)++[k]
 |[]=>by simp[mput]
 |p :: m=>by
  unfold mput;by_cases h:k=p.1
  ·rw[show keqI k p.1=true by simp[keqI,h]];simp[h]
  ·rw[show keqI k p.1=false by simp[keqI,h]];simp only[J4];rw[NB k m];by_cases h2:k∈m.map (·.1)
   ·rw[An h2,An (Cv _ h2)]
   ·rw[Aj h2,Aj (by simp only[AM,BV];exact⟨h,h2⟩)];rfl
theorem NC{k:Int}{m:List (Int×Bool)}(h:(m.map (·.1)).Nodup):((mput keqI m k true).map (·.1)).Nodup:=by
 rw[NB];split
 ·exact h
 ·rename_i hn;rw[List.nodup_append];exact⟨h,by simp,fun a ha b hb e=>by rw[BK.1 hb]at e;subst e;exact hn ha⟩
theorem ND{k x:Int}{m:List (Int×Bool)}:x∈(mput keqI m k true).map (·.1)↔x∈m.map (·.1)\/x=k:=by
 rw[NB];split
 ·rename_i h;exact⟨.inl,fun h'=>h'.elim id fun e=>e▸h⟩
 ·simp only[BJ,BK]
theorem NE{k:Int}{m:List (Int×Bool)}:(mput keqI m k true).length<=m.length+1:=by
 have:((mput keqI m k true).map (·.1)).length<=m.length+1:=by rw[NB];split<;>simp
 simpa using this
structure CSz(c:AP):Prop where
 len:c.Points.length<=1048576
 sz:∀p,p∈c.Points->Sz 1048576 p.Flow
noncomputable def crvF(l:List AO)(k:Nat)(p:AO):Option Int :=
 if p.Stage < -1000\/2000<p.Stage then some 3 else if ¬Vd p.Flow\/p.Flow.Neg=true then some 1
 else if 0<k/\(p.Stage<=(l.getD (k-1) default).Stage\/rq p.Flow<rq (l.getD (k-1) default).Flow) then some 1 else none
noncomputable def KY(c:AP):Int:=if c.Points.length<1\/16<c.Points.length then 2 else(scan (crvF c.Points) 0 c.Points).getD 0
theorem NF{p q:Rat}:cmpQ p q<0↔p<q:=by
 unfold cmpQ;split
 ·simp[*]
 ·split<;>simp[*]
theorem wz7j{c:AP}(h:CSz c):Mq c=some (KY c):=by
 unfold Mq KY;by_cases h1:c.Points.length<1
 ·rw[it_t (by simp;omega),An (.inl h1)]
 by_cases h2:16<c.Points.length
 ·rw[it_t (by simp;omega),An (.inr h2)]
 rw[it_f (by simp;omega),ifN];rw[Eb (l:=c.Points) (crvF c.Points) (by omega) ?_ ?_]
 ·simp only[Ac];exact Jl
 ·intro k p hp;have hk:=(AL.1 hp).1;have hm:=Cq hp;have hz:=h.sz p hm;simp only[Qj];rw[it_d,at_e rfl hp];simp only[Ac,PC,crvF];by_cases p1:p.Stage < -1000\/2000<p.Stage
  ·rw[An p1,it_t (by rcases p1 with p1|p1<;>simp<;>omega)]
  rw[Aj p1,it_f (by simp;omega)];simp only[Qf];rw[Wz (hz.mono (by omega))];simp only[Ac];by_cases p2:¬Vd p.Flow\/p.Flow.Neg=true
  ·rw[An p2,it_t (by rcases p2 with p2|p2<;>simp[p2])]
  rw[Aj p2];have p3:Vd p.Flow:=Decidable.byContradiction fun e=>p2 (.inl e);have p4:p.Flow.Neg=false:=by simpa using fun e=>p2 (.inr e)
  rw[it_f (by simp[p3,p4])];by_cases h0:k=0
  ·subst h0;rw[ck_t (by simp),show decide ((0:Int)<((0:Nat):Int))=false by simp];simp only[Of,AJ,Ac];rw[ck_t (by simp),ifN,it_f (by simp),AB]
  have h0:0<k:=by omega
  rw[ck_t (by simp[Ay];omega),show decide ((0:Int)<(k:Int))=true by simp;omega];simp only[Og,AN];rw[Hz hp h0];simp only[Ac];have hq:=h.sz _ (XX hp h0);generalize c.Points.getD (k-1) default=q at *;rw[ck_t (by simp[Ay];omega)];by_cases p5:p.Stage<=q.Stage
  ·rw[show decide (p.Stage<=q.Stage)=true by simp[p5]];simp only[Dn,AJ,Ac];rw[An ⟨h0,.inl p5⟩,it_t (by simp)]
  ·rw[show decide (p.Stage<=q.Stage)=false by simp[p5]];simp only[DF,AN,Ac];rw[jz9 hz hq (by omega) (by omega) (by omega) (by omega)];simp only[Ac];by_cases p6:rq p.Flow<rq q.Flow
   ·rw[An ⟨h0,.inr p6⟩,it_t (by simp[NF,p6])]
   ·rw[Aj (by simp[p5,p6]),it_f (by simp[NF,p6]),AB]
 ·simp only[Qj];rw[it_n]
theorem jzbg{c:AP}(h:CSz c):Qn c=some (KY c):=by
 unfold Qn KY;by_cases h1:c.Points.length<1
 ·rw[it_t (by simp;omega),An (.inl h1)]
 by_cases h2:16<c.Points.length
 ·rw[it_t (by simp;omega),An (.inr h2)]
 rw[it_f (by simp;omega),ifN];rw[Eb (l:=c.Points) (crvF c.Points) (by omega) ?_ ?_]
 ·simp only[Ac];exact Jl
 ·intro k p hp;have hk:=(AL.1 hp).1;have hm:=Cq hp;have hz:=h.sz p hm;simp only[Qm];rw[it_d,at_e rfl hp];simp only[Ac,crvF];by_cases p1:p.Stage < -1000\/2000<p.Stage
  ·rw[An p1,it_t (by rcases p1 with p1|p1<;>simp<;>omega)]
  rw[Aj p1,it_f (by simp;omega)];rw[W4 (hz.mono (by omega))];simp only[Ac];by_cases p2:¬Vd p.Flow\/p.Flow.Neg=true
  ·rw[An p2,it_t (by rcases p2 with p2|p2<;>simp[p2])]
  rw[Aj p2];have p3:Vd p.Flow:=Decidable.byContradiction fun e=>p2 (.inl e);have p4:p.Flow.Neg=false:=by simpa using fun e=>p2 (.inr e)
  rw[it_f (by simp[p3,p4])];by_cases h0:k=0
  ·subst h0;rw[ck_t (by simp),show decide ((0:Int)<((0:Nat):Int))=false by simp];simp only[AJ,Ac];rw[it_f (by simp),ck_t (by simp)];rw[ifN,it_f (by simp),AB]
  have h0:0<k:=by omega
  rw[ck_t (by simp[Ay];omega),show decide ((0:Int)<(k:Int))=true by simp;omega];simp only[AN];rw[Hz hp h0];simp only[Ac];have hq:=h.sz _ (XX hp h0);generalize c.Points.getD (k-1) default=q at *;by_cases p5:p.Stage<=q.Stage
  ·rw[An ⟨h0,.inl p5⟩,it_t (by simp[p5])]
  ·rw[it_f (by simp[p5]),ck_t (by simp[Ay];omega),wzle hz hq (by omega) (by omega) (by omega) (by omega)];simp only[Ac];by_cases p6:rq p.Flow<rq q.Flow
   ·rw[An ⟨h0,.inr p6⟩,it_t (by simp[NF,p6])]
   ·rw[Aj (by simp[p5,p6]),it_f (by simp[NF,p6]),AB]
 ·simp only[Qm];rw[it_n]
def rlt(a b:Ae):Prop:=a.Gauge<b.Gauge\/a.Gauge=b.Gauge/\a.Seq<b.Seq
def rsm(a b:Ae):Prop:=a.Gauge=b.Gauge/\a.Seq=b.Seq
def rrp(a b:Ae):Prop:=a.Gauge=b.Gauge/\a.Seq=b.Seq/\a.From=b.From/\a.To=b.To/\a.Stage=b.Stage
instance (a b:Ae):Decidable (rlt a b):=by unfold rlt;infer_instance
instance (a b:Ae):Decidable (rsm a b):=by unfold rsm;infer_instance
instance (a b:Ae):Decidable (rrp a b):=by unfold rrp;infer_instance
def RR(r:Ae):Prop:=(0<=r.Gauge/\r.Gauge<=39)/\(0<=r.Seq/\r.Seq<=1099511627776)/\0<=r.From/\r.From<r.To/\r.To<=1402560/\(0<=r.Stage/\r.Stage<=1000)/\(0<=r.Known/\r.Known<=14609)
instance (r:Ae):Decidable (RR r):=by unfold RR;infer_instance
theorem SC{a:Ae}:¬rlt a a:=by unfold rlt;omega
theorem Jo{a b c:Ae}(h:rlt a b)(k:rlt b c):rlt a c:=by unfold rlt at *;omega
theorem jztu{a b:Ae}(h:rlt a b):¬rlt b a:=by unfold rlt at *;omega
theorem NG{a b:Ae}(h:rlt a b):¬rsm a b:=by unfold rlt at h;unfold rsm;omega
theorem SD{a b:Ae}(h:rlt a b):¬rsm b a:=by unfold rlt at h;unfold rsm;omega
theorem SE(a b:Ae):rlt a b\/rsm a b\/rlt b a:=by unfold rlt rsm;omega
theorem Yd(a:Ae):rsm a a:=⟨rfl,rfl⟩
theorem rsm.symm{a b:Ae}(h:rsm a b):rsm b a:=⟨h.1.symm,h.2.symm⟩
theorem rsm.trans{a b c:Ae}(h:rsm a b)(k:rsm b c):rsm a c:=⟨h.1.trans k.1,h.2.trans k.2⟩
theorem rrp.symm{a b:Ae}(h:rrp a b):rrp b a:=⟨h.1.symm,h.2.1.symm,h.2.2.1.symm,h.2.2.2.1.symm,h.2.2.2.2.symm⟩
theorem rrp.trans{a b c:Ae}(h:rrp a b)(k:rrp b c):rrp a c:=⟨h.1.trans k.1,h.2.1.trans k.2.1,h.2.2.1.trans k.2.2.1,h.2.2.2.1.trans k.2.2.2.1,h.2.2.2.2.trans k.2.2.2.2⟩
theorem rrp.eq{a b:Ae}(h:rrp a b)(k:a.Known=b.Known):a=b:=by obtain⟨h1,h2,h3,h4,h5⟩:=h;cases a;cases b;simp only at *;subst h1 h2 h3 h4 h5 k;rfl
theorem jzxz{a b c:Ae}(h:rlt a b)(k:rsm b c):rlt a c:=by unfold rlt rsm at *;omega
theorem jzrz{a b c:Ae}(k:rsm a b)(h:rlt b c):rlt a c:=by unfold rlt rsm at *;omega
def Asc(l:List Ae):Prop:=l.Pairwise rlt
structure Bk(l:List Ae):Prop where
 right:∀r,r∈l->RR r
 asc:Asc l
theorem NH:∀{D E:List Ae},Asc D->Asc E->(∀x,x∈D↔x∈E)->D=E
 |[],[],_,_,_=>rfl
 |[],e :: E,_,_,h=>by have:=(h e).2 (BG ..);cases this
 |d :: D,[],_,_,h=>by have:=(h d).1 (BG ..);cases this
 |d :: D,e :: E,hd,he,h=>by
  obtain⟨d1,d2⟩:=HJ.1 hd;obtain⟨e1,e2⟩:=HJ.1 he
  have mF:d=e:=by
   rcases AM.1 ((h d).1 (BG ..)) with p|p
   ·exact p
   ·rcases AM.1 ((h e).2 (BG ..)) with q|q;·exact q.symm
    ·exact absurd (d1 e q) (jztu (e1 d p))
  subst mF;rw[NH d2 e2 fun x=>⟨fun hx=>?_,fun hx=>?_⟩]
  ·rcases AM.1 ((h x).1 (Cv _ hx)) with p|p;·subst p;exact absurd (d1 x hx) SC
   ·exact p
  ·rcases AM.1 ((h x).2 (Cv _ hx)) with p|p;·subst p;exact absurd (e1 x hx) SC
   ·exact p
theorem Asc.one{l:List Ae}(h:Asc l){a b:Ae}(ha:a∈l)(hb:b∈l)(e:rsm a b):a=b:=by
 induction l with
 |nil=>cases ha
 |cons x l ih =>
  obtain⟨h1,h2⟩:=HJ.1 h;rcases AM.1 ha with p|p<;>rcases AM.1 hb with q|q
  ·rw[p,q]
  ·subst p;exact absurd e (NG (h1 b q))
  ·subst q;exact absurd e (SD (h1 a p))
  ·exact ih h2 p q
structure RCon(L:List Ae):Prop where
 right:∀r,r∈L->RR r
 rep:∀a b,a∈L->b∈L->rsm a b->rrp a b
def Best(L:List Ae)(x:Ae):Prop:=x∈L/\∀y,y∈L->rsm y x->x.Known<=y.Known
structure IsBk(L l:List Ae):Prop where
 asc:Asc l
 mem:∀x,x∈l↔Best L x
theorem IsBk.uniq{L l m:List Ae}(h:IsBk L l)(k:IsBk L m):l=m:=NH h.asc k.asc fun x=>(h.mem x).trans (k.mem x).symm
theorem jzs6{L M:List Ae}(h:∀x,x∈L↔x∈M)(x:Ae):Best L x↔Best M x := ⟨fun⟨a,b⟩=>⟨(h x).1 a,fun y hy=>b y ((h y).2 hy)⟩,fun⟨a,b⟩=>⟨(h x).2 a,fun y hy=>b y ((h y).1 hy)⟩⟩
theorem IsBk.congr{L M l:List Ae}(h:∀x,x∈L↔x∈M)(k:IsBk L l):IsBk M l:=⟨k.asc,fun x=>(k.mem x).trans (jzs6 h x)⟩
theorem RCon.congr{L M:List Ae}(h:∀x,x∈L↔x∈M)(k:RCon L):RCon M := ⟨fun r hr=>k.right r ((h r).2 hr),fun a b ha hb=>k.rep a b ((h a).2 ha) ((h b).2 hb)⟩
theorem RCon.sub{L M:List Ae}(h:∀x,x∈M->x∈L)(k:RCon L):RCon M := ⟨fun r hr=>k.right r (h r hr),fun a b ha hb=>k.rep a b (h a ha) (h b hb)⟩
theorem IsBk.bk{L l:List Ae}(h:IsBk L l)(c:RCon L):Bk l:=⟨fun r hr=>c.right r ((h.mem r).1 hr).1,h.asc⟩
theorem Ye:∀(n:Nat) {L:List Ae} {x:Ae},x∈L->(∀r,r∈L->0<=r.Known)->x.Known.toNat<=n->∃y,Best L y/\rsm y x
 |0,L,x,hx,hp,hn=>⟨x,⟨hx,fun y hy _=>by have:=hp y hy;have:=hp x hx;omega⟩,Yd _⟩
 |n+1,L,x,hx,hp,hn=>by
  by_cases h:∀y,y∈L->rsm y x->x.Known<=y.Known
  ·exact⟨x,⟨hx,h⟩,Yd _⟩
  ·simp only[Classical.not_forall,Int.not_le]at h;obtain⟨y,hy,hs,hl⟩:=h;obtain⟨z,hz,bh⟩:=Ye n hy hp (by have:=hp y hy;have:=hp x hx;omega);exact⟨z,hz,bh.trans hs⟩
theorem RCon.ex{L:List Ae}(c:RCon L){x:Ae}(hx:x∈L):∃y,Best L y/\rsm y x:=Ye _ hx (fun r hr=>(c.right r hr).2.2.2.2.2.2.1) (AC _)
theorem Bk.own{l:List Ae}(h:Bk l):IsBk l l:=⟨h.asc,fun x=>⟨fun hx=>⟨hx,fun y hy e=>by rw[h.asc.one hy hx e];exact Jv _⟩,fun h=>h.1⟩⟩
theorem E6{l:List Ae}(h:Asc l){i j:Nat}(hi:i<l.length)(hj:j<l.length)(dC:i<j):rlt l[i] l[j]:=Lg.1 h i j hi hj dC
theorem Yf{α:Type}{l:List α}{k:Nat}{r x:α}:x∈insL l k r↔x∈l\/x=r:=by
 unfold insL
 conv=>rhs;rw[<-Th k l]
 simp only[BJ,BK];constructor
 ·rintro((h|h)|h);·exact .inl (.inl h)
  ·exact .inr h
  ·exact .inl (.inr h)
 ·rintro((h|h)|h);·exact .inl (.inl h)
  ·exact .inr h
  ·exact .inl (.inr h)
theorem Yg{α:Type}{l:List α}{k:Nat}{r:α}:(insL l k r).length=l.length+1:=by unfold insL;simp only[Ch,Do,CQ,Ed];omega
theorem jzxo{l:List Ae}(h:Asc l){k:Nat}{r:Ae}(bz:∀i,(hi:i<l.length)->i<k->rlt l[i] r)(cn:∀i,(hi:i<l.length)->k<=i->rlt r l[i]):Asc (insL l k r):=by
 unfold insL Asc;rw[List.pairwise_append,List.pairwise_append];refine⟨⟨List.Pairwise.sublist (List.take_sublist ..) h,Lh _ _,fun a ha b hb=>?_⟩,List.Pairwise.sublist (List.drop_sublist ..) h,fun a ha b hb=>?_⟩
 ·obtain⟨i,hi,rfl⟩:=Dh ha;rw[BK.1 hb,List.getElem_take];simp only[Do]at hi;exact bz i (by omega) (by omega)
 ·obtain⟨j,hj,rfl⟩:=Dh hb;simp only[CQ]at hj;rw[List.getElem_drop];have h2:=cn (k+j) (by omega) (by omega);rcases BJ.1 ha with ha|ha
  ·obtain⟨i,hi,rfl⟩:=Dh ha;rw[List.getElem_take];simp only[Do]at hi;exact Jo (bz i (by omega) (by omega)) h2
  ·rw[BK.1 ha];exact h2
theorem Yh{l:List Ae}(h:Asc l){k:Nat}(hk:k<l.length){r:Ae}(e:rsm l[k] r):Asc (l.set k r):=by
 unfold Asc;rw[Lg];intro i j hi hj dC;simp only[H9]at hi hj;simp only[List.getElem_set];by_cases h1:k=i
 ·subst h1;rw[An rfl,ifN];exact jzrz e.symm (E6 h hi hj dC)
 ·rw[Aj h1];by_cases h2:k=j
  ·subst h2;rw[An rfl];exact jzxz (E6 h hi hj dC) e
  ·rw[Aj h2];exact E6 h hi hj dC
theorem Yi{l:List Ae}(h:Asc l){k:Nat}(hk:k<l.length){r:Ae}(e:rsm l[k] r){x:Ae}:x∈l.set k r↔x=r\/x∈l/\¬rsm x r:=by
 constructor
 ·intro hx;obtain⟨i,hi,rfl⟩:=Dh hx;simp only[H9]at hi;rw[List.getElem_set];by_cases h1:k=i
  ·rw[An h1];exact .inl rfl
  ·rw[Aj h1];refine .inr ⟨BI _,fun h2=>?_⟩;have h3:=h2.trans e.symm;by_cases h4:i<k
   ·exact NG (E6 h hi hk h4) h3
   ·exact SD (E6 h hk hi (by omega)) h3
 ·rintro(rfl|⟨hx,hn⟩);·exact List.mem_iff_getElem.2 ⟨k,by simpa using hk,by simp⟩
  ·obtain⟨i,hi,rfl⟩:=Dh hx;have h1:k≠i:=fun h1=>by subst h1;exact hn e
   exact List.mem_iff_getElem.2 ⟨i,by simpa using hi,by rw[List.getElem_set,Aj h1]⟩
theorem Yj:Kv=some true:=by decide +kernel
theorem Jp(r:Ae):F4 r=some (decide (RR r)):=by
 unfold F4 Ip RR;simp only[Ac];by_cases h1:0<=r.Gauge/\r.Gauge<=39;rotate_left
 ·have e:(bif decide (0<=r.Gauge) then decide (r.Gauge<=39) else false)=false:=by
   by_cases h:0<=r.Gauge
   ·simp[h];omega
   ·simp[h]
  rw[e];simp[AJ,Ac,h1]
 by_cases h2:0<=r.Seq/\r.Seq<=1099511627776;rotate_left
 ·have e:(bif decide (0<=r.Seq) then decide (r.Seq<=1099511627776) else false)=false:=by
   by_cases h:0<=r.Seq
   ·simp[h];omega
   ·simp[h]
  rw[e];simp[AN,AJ,Ac,h1,h2]
 by_cases h3:(0<=r.From/\r.From<r.To)/\r.To<=1402560;rotate_left
 ·have e:(bif (bif (decide (0<=r.From)) then(decide (r.From<r.To)) else false) then(decide (r.To<=1402560)) else false)=false:=by
   rw[G8,G8,<-Bool.decide_and,<-Bool.decide_and,Bj h3]
  simp[AN,AJ,Ac,h1,h2,h3]at e |-;by_cases f1:0<=r.From
  ·by_cases f2:r.From<r.To
   ·by_cases f3:r.To<=1402560;·omega
    ·simp[f1,f2,f3,AJ,Ac]
   ·simp[f1,f2,AJ,Ac]
  ·simp[f1,AJ,Ac]
 by_cases h4:0<=r.Stage/\r.Stage<=1000;rotate_left
 ·have e:(bif decide (0<=r.Stage) then decide (r.Stage<=1000) else false)=false:=by
   by_cases h:0<=r.Stage
   ·simp[h];omega
   ·simp[h]
  simp[AN,AJ,Ac,h1,h2,h3,e,h4]
 simp[AN,AJ,Ac,h1,h2,h3,h4,G8]
def rcmp(a b:Ae):Int:=if rlt a b then -1 else if rsm a b then 0 else 1
theorem NI(x y:Int):EG x y=some (if x<y then -1 else if y<x then 1 else 0):=by
 unfold EG F5;simp only[Ac,decide_true,Dn];rw[AV,AV];by_cases h:x<y
 ·rw[it_d h,An h]
 ·rw[it_n h,Aj h];by_cases h2:y<x
  ·rw[it_d h2,An h2]
  ·rw[it_n h2,Aj h2]
theorem jzvz(x y:Int):Mb [x,y]=some (if x=0 then y else x):=by
 unfold Mb;rw[Eb (l:=[x,y]) (fun _ z=>if z=0 then none else some z) (by simp) ?_ ?_]
 ·by_cases hx:x=0
  ·subst hx;by_cases hy:y=0
   ·subst hy;rfl
   ·simp[scan,hy,sOut,Ac]
  ·simp[scan,hx,sOut,Ac]
 ·intro k z hz;have hk:=(AL.1 hz).1;simp only[P4];rw[it_d,at_e rfl hz];simp only[Ac];by_cases h:z=0
  ·rw[AK h,AB (by simp at hk;omega),An h]
  ·rw[AY h,Aj h]
 ·simp only[P4];rw[it_n]
theorem SF(a b:Ae):Es a b=some (rcmp a b):=by
 unfold Es;rw[NI,NI];simp only[Ac];rw[jzvz];simp only[Ac];congr 1;unfold rcmp rlt rsm;by_cases h1:a.Gauge<b.Gauge
 ·simp[h1]
 ·by_cases h2:b.Gauge<a.Gauge;·simp[h1,h2,show ¬a.Gauge=b.Gauge by omega]
  ·have:a.Gauge=b.Gauge:=by omega
   by_cases h3:a.Seq<b.Seq
   ·simp[this,h3]
   ·by_cases h4:b.Seq<a.Seq;·simp[this,h3,h4,show ¬a.Seq=b.Seq by omega]
    ·simp[this,h3,h4,show a.Seq=b.Seq by omega]
theorem NJ{a b:Ae}:rcmp a b<0↔rlt a b:=by
 unfold rcmp;split
 ·simp[*]
 ·split<;>simp[*]
theorem jzxw{a b:Ae}:rcmp a b=0↔rsm a b:=by
 unfold rcmp;split
 ·rename_i h;simp[NG h]
 ·split<;>simp[*]
def rchF(l:List Ae)(k:Nat)(r:Ae):Option Int:=if RR r/\(0<k->rlt (l.getD (k-1) default) r) then none else some 1
def rchE(l:List Ae):Int:=if 4000<l.length then 2 else(scan (rchF l) 0 l).getD 0
theorem FJ(l:List Ae):DP l=some (rchE l):=by
 unfold DP rchE;by_cases h0:4000<l.length
 ·rw[it_d,An h0]
 rw[it_n,Aj h0,Eb (l:=l) (rchF l) (by omega) ?_ ?_]
 ·simp only[Ac];exact Jl
 ·intro k x hx;have hk:=(AL.1 hx).1;simp only[Qe];rw[it_d,at_e rfl hx];simp only[Ac];rw[Jp];simp only[Ac,rchF];by_cases hr:RR x;rotate_left
  ·simp only[hr,decide_false,DF,Dn,Of,Bool.true_or];rw[Gl,AJ];simp only[Ac];rw[AJ];simp only[Ac,CC];rw[C6,Aj (by simp)]
  simp only[hr,decide_true,Dn,DF,Og];by_cases fd:k=0
  ·subst fd;simp only[Int.ofNat_zero,Int.natCast_zero,Int.lt_irrefl,decide_false,DF,Bool.true_or,Int.lt_irrefl,false_implies,and_true,Ci];rw[Gl,AJ];simp only[Ac];rw[AJ];simp only[Ac,Cf];rw[AV,AB];rfl
  have di:0<k:=by omega
  rw[show decide ((0:Int)<(k:Int))=true by simp;omega];rw[ck_t (by simp[Ay];omega),AN,Hz hx di];simp only[Ac];rw[AN,SF];simp only[Ac,Cf,CC];by_cases hl:rlt (l.getD (k-1) default) x
  ·rw[it_n (by have:=NJ.2 hl;omega),AB,An (⟨trivial,fun _=>hl⟩)]
  ·rw[it_d (by have:=mt NJ.1 hl;omega),Aj (fun h=>hl (h.2 di))]
 ·simp only[Qe];rw[it_n]
theorem Fj{l:List Ae}:rchE l=0↔l.length<=4000/\Bk l:=by
 unfold rchE;by_cases h0:4000<l.length
 ·rw[An h0];exact⟨fun h=>(by cases h),fun h=>by omega⟩
 rw[Aj h0];constructor
 ·intro h;refine⟨by omega,?_⟩;cases hs:scan (rchF l) 0 l with
  |some o =>
   obtain⟨i,x,hx,hi,_⟩:=H6 0 l o hs;rw[hs]at h;simp only[Lk]at h;unfold rchF at hi;split at hi
   ·cases hi
   ·cases hi;cases h
  |none =>
   have hn:∀i x,l[i]?=some x->RR x/\(0<i->rlt (l.getD (i-1) default) x):=fun i x hx=>by
    have:=Jm hs hx;unfold rchF at this;split at this
    ·assumption
    ·cases this
   refine⟨fun r hr=>?_,?_⟩
   ·obtain⟨i,hi,rfl⟩:=Dh hr;exact(hn i _ (AD hi)).1
   ·have step:∀i,(hi:i+1<l.length)->rlt l[i] l[i+1]:=fun i hi=>by
     have:=(hn (i+1) _ (AD hi)).2 (by omega);simpa [List.getD,show i<l.length by omega] using this
    unfold Asc;rw[Lg];intro i j hi hj dC;induction j with
    |zero=>omega
    |succ j ih =>
     by_cases e:i=j
     ·subst e;exact step i hj
     ·exact Jo (ih (by omega) (by omega)) (step j hj)
 ·rintro⟨_,hb⟩;rw[S8]
  ·rfl
  ·intro i x hx;obtain⟨hi,rfl⟩:=AL.1 hx;unfold rchF;rw[An];refine⟨hb.right _ (BI _),fun h=>?_⟩;have:=E6 hb.asc (show i-1<l.length by omega) hi (by omega);simpa [List.getD,show i-1<l.length by omega] using this
theorem jzvi(a b:Ae):Io a b=some (decide (rrp a b)):=by unfold Io rrp;congr 1;rw[G9];simp;exact GD.symm
theorem jzxs{l:List Ae}(hl:l.length<=4000)(ha:Asc l)(r:Ae):∃k:Nat,∃b:Bool,Im l r (fun a0 a1=>Es a0 a1)=some ((k:Int),b)/\k<=l.length/\(∀i,(hi:i<l.length)->i<k->rlt l[i] r)/\(∀i,(hi:i<l.length)->k<=i->¬rlt l[i] r)/\(b=true↔∃h:k<l.length,rsm l[k] r):=by
 unfold Im
 obtain⟨o,e,k,rfl,hk,h1,h2⟩:=CF (s:=((0:Int),(l.length:Int))) (body:=Px (fun a0 a1=>Es a0 a1) r l) (fun s=>∃i j:Nat,s=((i:Int),(j:Int))/\i<=j/\j<=l.length/\(∀m,(hm:m<l.length)->m<i->rlt l[m] r)/\(∀m,(hm:m<l.length)->j<=m->¬rlt l[m] r)) (fun s=>(s.2-s.1).toNat) (fun o=>∃k:Nat,o=(k:Int)/\k<=l.length/\(∀m,(hm:m<l.length)->m<k->rlt l[m] r)/\(∀m,(hm:m<l.length)->k<=m->¬rlt l[m] r)) (by
  rintro s ⟨i,j,rfl,dC,hj,h1,h2⟩;simp only[Px];by_cases h:i<j;rotate_left
  ·right;rw[it_n];obtain rfl:i=j:=by omega
   exact⟨_,rfl,i,rfl,hj,h1,h2⟩
  left;have hm:Int.fdiv (((i:Int)+j)%18446744073709551616) 2=(((i+j) / 2:Nat):Int):=by rw[Int.emod_eq_of_lt (by omega) (by omega),Le _ (by decide)];omega
  rw[it_d,AB,hm,AB];have hlt:(i+j) / 2<l.length:=by omega
  rw[at_e rfl (AD hlt)];simp only[Ac];rw[SF];simp only[Ac];by_cases hc:rlt l[(i+j) / 2] r
  ·rw[it_d (NJ.2 hc),AB];refine⟨_,rfl,⟨(i+j) / 2+1,j,by simp,by omega,hj,fun m hm fG=>?_,h2⟩,by simp only;omega⟩;by_cases e:m=(i+j) / 2
   ·subst e;exact hc
   ·exact Jo (E6 ha hm hlt (by omega)) hc
  ·rw[it_n (mt NJ.1 hc)];refine⟨_,rfl,⟨i,(i+j) / 2,rfl,by omega,by omega,h1,fun m hm fG hr=>?_⟩,by simp only;omega⟩;by_cases e:m=(i+j) / 2
   ·subst e;exact hc hr
   ·exact hc (Jo (E6 ha hlt hm (by omega)) hr)) ⟨0,l.length,by simp,DC _,AC _,fun m hm h=>by omega,fun m hm h=>by omega⟩ (by simp;omega)
 rw[e];simp only[Ac];by_cases eu:k<l.length
 ·rw[show decide ((k:Int)<(l.length:Int))=true by simp;omega];simp only[AN,CC];rw[at_e rfl (AD eu)];simp only[Ac];rw[SF];simp only[Ac];exact⟨k,_,rfl,hk,h1,h2,by simp[eu,jzxw]⟩
 ·rw[show decide ((k:Int)<(l.length:Int))=false by simp;omega];simp only[AJ,Cf,Ac];exact⟨k,_,rfl,hk,h1,h2,by simp[eu]⟩
structure jzx2(l m:List Ae)(r:Ae):Prop where
 asc:Asc m
 mem:∀y,y∈m↔y∈l\/y=r
 len:m.length=l.length+1
structure jzx0(l m:List Ae)(r:Ae):Prop where
 asc:Asc m
 mem:∀y,y∈m↔y=r\/y∈l/\¬rsm y r
 len:m.length=l.length
def RAcc(F:Option (List Ae×Int))(l:List Ae)(r:Ae):Prop :=
 (∃x,x∈l/\rsm x r/\((¬rrp x r/\F=some ([],24))\/(rrp x r/\x.Known<=r.Known/\F=some ([],9))\/(rrp x r/\¬x.Known<=r.Known/\∃m,F=some (m,0)/\jzx0 l m r)))
  \/ ((∀x,x∈l->¬rsm x r)/\((l.length=4000/\F=some ([],2))\/(l.length<4000/\∃m,F=some (m,0)/\jzx2 l m r)))
theorem jzyu{l:List Ae}{r:Ae}(h:rchE l≠0):BE l r=some ([],rchE l):=by
 unfold BE;have e:DQ l r=some ([],rchE l):=by unfold DQ;rw[FJ];simp only[Ac];rw[AY h]
 rw[e]
theorem Yk{l:List Ae}{r:Ae}(h:rchE l=0)(hr:¬RR r):BE l r=some ([],1):=by
 unfold BE;have e:DQ l r=some ([],1):=by unfold DQ;rw[FJ];simp only[Ac];rw[AK h,Jp];simp only[Ac];rw[AY hr]
 rw[e]
theorem Yl{l:List Ae}{r:Ae}(h:rchE l=0)(hr:RR r):RAcc (BE l r) l r:=by
 obtain⟨hl,hb⟩:=Fj.1 h;obtain⟨k,b,ef,hk,h1,h2,h3⟩:=jzxs hl hb.asc r;cases b
 ·have hn:∀x,x∈l->¬rsm x r:=fun x hx hs=>by
   obtain⟨i,hi,rfl⟩:=Dh hx;by_cases dO:i<k
   ·exact NG (h1 i hi dO) hs
   ·have eE:k<l.length:=(by omega);have h4:=h2 k eE (AC _);have h5:¬rsm l[k] r:=fun e=>by have:=h3.2 ⟨eE,e⟩;cases this
    rcases SE l[k] r with h|h|h
    ·exact h4 h
    ·exact h5 h
    ·by_cases e:i=k;·subst e;exact h5 hs
     ·exact SD (Jo h (E6 hb.asc eE hi (by omega))) hs
  refine .inr ⟨hn,?_⟩;by_cases h4:l.length=4000
  ·refine .inl ⟨h4,?_⟩;unfold BE;have e:DQ l r=some ([],2):=by unfold DQ;rw[FJ];simp only[Ac];rw[AK h,Jp];simp only[Ac];rw[AK hr,ef];simp only[Ac,DF,CC];rw[it_d]
   rw[e]
  ·refine .inr ⟨by omega,insL l k r,?_,?_,fun y=>Yf,Yg⟩;·unfold BE;have e:DQ l r=none:=(by unfold DQ;rw[FJ];simp only[Ac];rw[AK h,Jp];simp only[Ac];rw[AK hr,ef];simp only[Ac,DF,CC];rw[it_n,C6]);rw[e];unfold Pq;rw[FJ,Jp,ef];simp only[Ac];rw[ck_t (by simp[h,hr];omega)];rfl
   ·refine jzxo hb.asc h1 fun i hi jX=>?_;have eE:k<l.length:=(by omega);rcases SE l[i] r with h|h|h
    ·exact absurd h (h2 i hi jX)
    ·exact absurd h (hn _ (BI _))
    ·exact h
 ·obtain⟨eE,hs⟩:=h3.1 rfl;refine .inl ⟨l[k],BI _,hs,?_⟩
  have he:∀z,(bd (at? l (k:Int)) fun x1=>bd (Io x1 r) fun r5=>ite' (!r5) (some (([]:List Ae),(24:Int))) (bd (at? l (k:Int)) fun x2=>ite' (decide (x2.Known<=r.Known)) (some ([],9)) (bd (SX l) fun r6=>bd (at? r6 (k:Int)) fun x3=>some ((List.set r6 (Int.toNat (k:Int)) r),0))))=some z->BE l r=some z:=fun z hz=>by
   unfold BE;have e:DQ l r=some z:=by unfold DQ;rw[FJ];simp only[Ac];rw[AK h,Jp];simp only[Ac];rw[AK hr,ef];simp only[Ac,Dn,Cf];rw[AV,AV];exact hz
   rw[e]
  have ea:at? l (k:Int)=some l[k]:=at_e rfl (AD eE);rw[ea]at he;simp only[Ac]at he;rw[jzvi]at he;simp only[Ac]at he;by_cases hp:rrp l[k] r;rotate_left
  ·exact .inl ⟨hp,he _ (by rw[AY hp])⟩
  rw[AK hp]at he;by_cases hq:l[k].Known<=r.Known
  ·exact .inr (.inl ⟨hp,hq,he _ (by rw[it_d hq])⟩)
  rw[it_n hq]at he;refine .inr (.inr ⟨hp,hq,l.set k r,he _ ?_,Yh hb.asc eE hs,fun y=>Yi hb.asc eE hs,H9⟩);unfold SX;rw[ck_t (by simp<;>omega)];simp only[Ac];rw[ea];simp only[Ac,CN]
theorem Ym{α:Type}[DecidableEq α]:∀(m L:List α),m.Nodup->(∀x,x∈m->x∈L)->m.length<=L.length
 |[],_,_,_=>DC _
 |x :: m,L,h,hs=>by
  obtain⟨h1,h2⟩:=List.nodup_cons.1 h;have hx:=hs x (BG ..);have:=Ym m (L.erase x) h2 fun y hy=>by refine(List.mem_erase_of_ne fun e=>?_).2 (hs y (Cv _ hy));subst e;exact h1 hy
  rw[List.length_erase_of_mem hx]at this;have:=List.length_pos_of_mem hx;simp only[Ek];omega
theorem jztb{l:List Ae}(h:rchE l=0):Bk l:=(Fj.1 h).2
theorem SG(r:Ae):LV r=some (decide (RR r)):=by unfold LV;congr 1;simp only[G8];rw[G9,GD];unfold RR;simp only[AF,BA];omega
theorem Yn(a b:Ae):LZ a b=some (decide (rlt a b)):=by
 unfold LZ rlt;congr 1;rw[G9];by_cases h1:a.Gauge<b.Gauge
 ·simp[h1]
 ·by_cases h2:a.Gauge=b.Gauge<;>simp[h1,h2]
theorem jzyt(a b:Ae):Pz a b=some (decide (rrp a b)):=by
 unfold Pz;congr 1;simp only[G8];rw[G9,GD];unfold rrp;simp only[AF,BA];constructor
 ·rintro⟨⟨⟨⟨h1,h2⟩,h3⟩,h4⟩,h5⟩;exact⟨h1,h2,h3,h4,h5⟩
 ·rintro⟨h1,h2,h3,h4,h5⟩;exact⟨⟨⟨⟨h1,h2⟩,h3⟩,h4⟩,h5⟩
theorem SI(l:List Ae):PK l=some (rchE l):=by
 unfold PK rchE;by_cases h0:4000<l.length
 ·rw[it_d,An h0]
 rw[it_n,Aj h0,Eb (l:=l) (rchF l) (by omega) ?_ ?_]
 ·simp only[Ac];exact Jl
 ·intro k x hx;have hk:=(AL.1 hx).1;simp only[PJ];rw[it_d,at_e rfl hx];simp only[Ac];rw[SG];simp only[Ac,rchF];by_cases fd:k=0
  ·subst fd;rw[show decide (((0:Nat):Int)=0)=true by simp];simp only[Dn,DF,Bool.true_or,AJ,Ac,CC,Cf];rw[Gl];by_cases hr:RR x
   ·rw[it_f (by simp[hr]),AB,An ⟨hr,fun h=>by omega⟩]
   ·rw[it_t (by simp[hr]),Aj (fun h=>hr h.1)]
  have di:0<k:=by omega
  rw[show decide ((k:Int)=0)=false by simp;omega];simp only[Dn,DF,Bool.false_or,AN,Cf];rw[AB,show max 0 ((k:Int)-1)=(k:Int)-1 by omega,Hz hx di];simp only[Ac];rw[Yn];simp only[Ac];by_cases hr:RR x
  ·by_cases hl:rlt (l.getD (k-1) default) x;·rw[it_f (by rw[B9 hr,B9 hl];rfl),AB,An ⟨hr,fun _=>hl⟩]
   ·rw[it_t (by rw[B9 hr,Bj hl];rfl),Aj (fun h=>hl (h.2 di))]
  ·rw[it_t (by simp[hr]),Aj (fun h=>hr h.1)]
 ·simp only[PJ];rw[it_n]
theorem jzyp{l:List Ae}(hl:l.length<=1000000)(r:Ae):(LY l r=some (-1)/\∀x,x∈l->¬rsm x r)\/∃k,∃h:k<l.length,LY l r=some (k:Int)/\rsm l[k] r:=by
 unfold LY;rw[Eb (l:=l) (fun k x=>if rsm x r then some (k:Int) else none) (by omega) ?_ ?_]
 ·cases hs:scan (fun k x=>if rsm x r then some (k:Int) else none) 0 l with
  |none =>left;refine⟨rfl,fun x hx e=>?_⟩;obtain⟨i,hi,rfl⟩:=Dh hx;have:=Jm hs (AD hi);rw[An e]at this;cases this
  |some o =>
   right;obtain⟨i,x,hx,hi,_⟩:=H6 0 l o hs;obtain⟨fx,rfl⟩:=AL.1 hx;split at hi
   ·rename_i e;cases hi;exact⟨i,fx,by simp[sOut,Ac],e⟩
   ·cases hi
 ·intro k x hx;have hk:=(AL.1 hx).1;simp only[Py];rw[it_d,at_e rfl hx];simp only[Ac];by_cases h:x.Gauge=r.Gauge
  ·simp only[h,decide_true,AN,Ac,CC];by_cases h2:x.Seq=r.Seq
   ·rw[it_d h2,An ⟨h,h2⟩]
   ·rw[it_n h2,AB,Aj (fun e=>h2 e.2)]
  ·simp only[h,decide_false,AJ,Ac,Cf];rw[AV,AB,Aj (fun e=>h e.1)]
 ·simp only[Py];rw[it_n]
theorem jzy6{l:List Ae}{r:Ae}{F G:Option (List Ae×Int)}(h:Asc l)(hF:RAcc F l r)(hG:RAcc G l r):F=G:=by
 rcases hF with ⟨x,hx,hs,a⟩|⟨hn,a⟩<;>rcases hG with ⟨y,hy,ht,b⟩|⟨hm,b⟩
 ·obtain rfl:=h.one hx hy (hs.trans ht.symm);rcases a with ⟨p,e⟩|⟨p,q,e⟩|⟨p,q,m,e,hm⟩<;>rcases b with ⟨p',e'⟩|⟨p',q',e'⟩|⟨p',q',m',e',bv⟩<;>first|exact absurd ‹rrp x r› ‹¬rrp x r›|exact absurd ‹x.Known<=r.Known› ‹¬x.Known<=r.Known›|(rw[e,e'];done)|skip
  rw[e,e',NH hm.asc bv.asc fun z=>(hm.mem z).trans (bv.mem z).symm]
 ·exact absurd hs (hm x hx)
 ·exact absurd ht (hn y hy)
 ·rcases a with ⟨p,e⟩|⟨p,m,e,hm⟩<;>rcases b with ⟨p',e'⟩|⟨p',m',e',bv⟩;·rw[e,e']
  ·omega
  ·omega
  ·rw[e,e',NH hm.asc bv.asc fun z=>(hm.mem z).trans (bv.mem z).symm]
def bkP(b:BC):List Ae×Int:=(b.L,b.E)
theorem jzy2{l:List Ae}{r:Ae}(h:rchE l≠0):Hg l r=some ⟨[],rchE l⟩:=by unfold Hg;rw[SI];simp only[Ac];rw[AY h]
theorem jzy1{l:List Ae}{r:Ae}(h:rchE l=0)(hr:¬RR r):Hg l r=some ⟨[],1⟩:=by unfold Hg;rw[SI];simp only[Ac];rw[AK h,SG];simp only[Ac];rw[AY hr]
theorem jzys{l:List Ae}{r:Ae}(h:rchE l=0)(hr:RR r):∃b,Hg l r=some b/\RAcc (some (bkP b)) l r:=by
 obtain⟨hl,hb⟩:=Fj.1 h;unfold Hg;rw[SI];simp only[Ac];rw[AK h,SG];simp only[Ac];rw[AK hr];rcases jzyp (l:=l) (by omega) r with ⟨e,hn⟩|⟨k,hk,e,hs⟩
 ·rw[e];simp only[Ac];rw[it_n (by decide)];by_cases h4:l.length=4000
  ·rw[it_d];exact⟨_,rfl,.inr ⟨hn,.inl ⟨h4,rfl⟩⟩⟩
  rw[it_n]
  obtain⟨o,e2,d,out,rfl,h1,h2,h3,h5⟩:=CF (s:=(false,(0:Int),([]:List Ae))) (body:=PZ l r) (fun s=>∃k:Nat,∃d out,s=(d,(k:Int),out)/\k<=l.length/\Asc out/\(∀x,x∈out↔(x=r/\d=true)\/x∈l.take k)/\(d=false->∀x,x∈l.take k->rlt x r)/\(d=true->∀x,x∈l.drop k->rlt r x)/\out.length=k+d.toNat) (fun s=>(l.length-s.2.1).toNat) (fun o=>∃d out,o=(d,out)/\Asc out/\(∀x,x∈out↔(x=r/\d=true)\/x∈l)/\(d=false->∀x,x∈l->rlt x r)/\out.length=l.length+d.toNat) (by
   rintro s ⟨k,d,out,rfl,hk,h1,h2,h3,h4,h5⟩;simp only[PZ];by_cases hlt:k<l.length;rotate_left
   ·right;rw[it_n];rw[J6 (by omega)]at h2 h3;exact⟨_,rfl,d,out,rfl,h1,h2,h3,by omega⟩
   left;have hx:=AD hlt;have dY:l.take (k+1)=l.take k++[l[k]]:=KX hx;have ez:l.drop k=l[k] :: l.drop (k+1):=SQ hlt;have bz:∀x,x∈l.take k->rlt x l[k]:=fun x hx=>by obtain⟨i,hi,rfl⟩:=Dh hx;rw[Do]at hi;rw[List.getElem_take];exact E6 hb.asc (by omega) hlt (by omega)
   have cn:∀x,x∈l.drop (k+1)->rlt l[k] x:=fun x hx=>by obtain⟨i,hi,rfl⟩:=Dh hx;rw[CQ]at hi;rw[List.getElem_drop];exact E6 hb.asc hlt (by omega) (by omega)
   have gu:=hn l[k] (BI _);generalize l[k]=y at *;have bQ:at? l (k:Int)=some y:=at_e rfl hx;rw[it_d,bQ];simp only[Ac];rw[Yn];simp only[Ac]
   have step:∀d' out',Asc out'->(∀x,x∈out'↔(x=r/\d'=true)\/x∈l.take k)->(d'=false->rlt y r/\∀x,x∈l.take k->rlt x r)->(d'=true->rlt r y)->out'.length=k+d'.toNat -> ∃k':Nat,∃d out,((d',((k:Int)+1),(out'++[y])):Bool×Int×List Ae)=(d,(k':Int),out)/\k'<=l.length/\Asc out/\(∀x,x∈out↔(x=r/\d=true)\/x∈l.take k')/\(d=false->∀x,x∈l.take k'->rlt x r)/\(d=true->∀x,x∈l.drop k'->rlt r x)/\out.length=k'+d.toNat:=by
    intro d' out' g1 g2 g3 g4 g5;refine⟨k+1,d',_,rfl,hlt,?_,fun x=>?_,fun e x hx=>?_,fun e x hx=>Jo (g4 e) (cn x hx),by simp;omega⟩
    ·refine List.pairwise_append.2 ⟨g1,Lh _ _,fun a ha b hb=>?_⟩;rw[BK.1 hb];rcases(g2 a).1 ha with ⟨e,e'⟩|e
     ·rw[e];exact g4 e'
     ·exact bz a e
    ·rw[BJ,g2,dY,BJ,or_assoc]
    ·rw[dY]at hx;rcases BJ.1 hx with hx|hx
     ·exact(g3 e).2 x hx
     ·rw[BK.1 hx];exact(g3 e).1
   have dQ:out.length<=k+1:=by cases d<;>simp at h5<;>omega
   cases d with
   |true =>rw[it_f (by simp)];simp only[Ac];rw[ck_d (by simp;omega),AB];exact⟨_,rfl,step true out h1 h2 (fun e=>by cases e) (fun e=>h4 e y (by rw[ez];exact BG ..)) h5,by simp only;omega⟩
   |false =>
    have mG:out.length=k:=(by simpa using h5);by_cases hc:rlt r y
    ·rw[it_t (by simp[hc]),ck_d (by simp;omega)];simp only[Ac];rw[ck_d (by simp;omega),AB];refine⟨_,rfl,step true (out++[r]) ?_ (fun x=>?_) (fun e=>by cases e) (fun _=>hc) (by simp;omega),by simp only;omega⟩
     ·refine List.pairwise_append.2 ⟨h1,Lh _ _,fun a ha b hb=>?_⟩;rw[BK.1 hb];rcases(h2 a).1 ha with ⟨_,e⟩|e
      ·cases e
      ·exact h3 rfl a e
     ·rw[BJ,h2,BK];constructor
      ·rintro((⟨_,e⟩|e)|e);·cases e
       ·exact .inr e
       ·exact .inl ⟨e,rfl⟩
      ·rintro(⟨e,_⟩|e);·exact .inr e
       ·exact .inl (.inr e)
    ·rw[it_f (by simp[hc])];simp only[Ac];rw[ck_d (by simp;omega),AB];refine⟨_,rfl,step false out h1 h2 (fun _=>⟨?_,h3 rfl⟩) (fun e=>by cases e) h5,by simp only;omega⟩;rcases SE y r with h|h|h
     ·exact h
     ·exact absurd h gu
     ·exact absurd h hc) ⟨0,false,[],rfl,DC _,List.Pairwise.nil,fun x=>by simp,fun _ x hx=>by simp at hx,fun e=>(by cases e),by simp⟩ (by simp only;omega)
  rw[e2];simp only[Ac];cases d with
  |true =>
   rw[it_f (by rfl)];refine⟨_,rfl,.inr ⟨hn,.inr ⟨by omega,out,rfl,h1,fun y=>?_,by simpa using h5⟩⟩⟩;rw[h2];constructor
   ·rintro(⟨e,_⟩|e);·exact .inr e
    ·exact .inl e
   ·rintro(e|e);·exact .inr e
    ·exact .inl ⟨e,rfl⟩
  |false =>
   have mG:out.length=l.length:=by simpa using h5
   rw[it_t (by rfl),ck_d (by simp;omega)];refine⟨_,rfl,.inr ⟨hn,.inr ⟨by omega,out++[r],rfl,?_,fun y=>?_,by simp;omega⟩⟩⟩
   ·refine List.pairwise_append.2 ⟨h1,Lh _ _,fun a ha b hb=>?_⟩;rw[BK.1 hb];rcases(h2 a).1 ha with ⟨_,e⟩|e
    ·cases e
    ·exact h3 rfl a e
   ·rw[BJ,h2,BK];constructor
    ·rintro((⟨_,e⟩|e)|e);·cases e
     ·exact .inl e
     ·exact .inr e
    ·rintro(e|e);·exact .inl (.inr e)
     ·exact .inr e
 ·rw[e];have ea:at? l (k:Int)=some l[k]:=at_e rfl (AD hk);simp only[Ac];rw[it_d,ea];simp only[Ac];rw[jzyt];simp only[Ac];by_cases hp:rrp l[k] r;rotate_left
  ·rw[Bj hp];simp only[AJ,Ac,Cf,DF];rw[AV,C6];exact⟨_,rfl,.inl ⟨l[k],BI _,hs,.inl ⟨hp,rfl⟩⟩⟩
  rw[B9 hp];simp only[AN,Ac,CC,Dn];by_cases hq:l[k].Known<=r.Known
  ·rw[it_d hq];exact⟨_,rfl,.inl ⟨l[k],BI _,hs,.inr (.inl ⟨hp,hq,rfl⟩)⟩⟩
  rw[it_n hq,AV,Lt,ck_d,ea];simp only[Ac,CN];exact⟨_,rfl,.inl ⟨l[k],BI _,hs,.inr (.inr ⟨hp,hq,_,rfl,Yh hb.asc hk hs,fun y=>Yi hb.asc hk hs,H9⟩)⟩⟩
theorem jzza(l:List Ae)(r:Ae):∃b,Hg l r=some b/\BE l r=some (bkP b):=by
 by_cases h:rchE l=0;rotate_left
 ·exact⟨_,jzy2 h,jzyu h⟩
 by_cases hr:RR r
 ·obtain⟨b,e,hb⟩:=jzys h hr;exact⟨b,e,jzy6 (jztb h).asc (Yl h hr) hb⟩
 ·exact⟨_,jzy1 h hr,Yk h hr⟩
section
variable {U:Type}
def Cd(f:Int->U)(b:Int):Option U->Int->List (Int×Int×U)->Prop
 |_,a,[]=>a=b
 |v,a,p :: l=>p.1=a/\a<p.2.1/\(∀x,a<=x->x<p.2.1->f x=p.2.2)/\v≠some p.2.2/\Cd f b (some p.2.2) p.2.1 l
theorem Cd.le{f:Int->U}{b:Int}:∀{l:List (Int×Int×U)} {v:Option U} {a:Int},Cd f b v a l->a<=b
 |[],_,_,h=>Int.le_of_eq h
 |p :: l,_,_,h=>by obtain⟨_,h1,_,_,h2⟩:=h;have:=h2.le;omega
theorem Cd.uniq{f:Int->U}{b:Int}:∀{l m:List (Int×Int×U)} {v w:Option U} {a:Int},Cd f b v a l->Cd f b w a m->l=m
 |[],[],_,_,_,_,_=>rfl
 |[],q :: m,_,_,_,h,k=>by obtain⟨_,k1,_,_,k2⟩:=k;have h:_=_:=h;have:=k2.le;omega
 |p :: l,[],_,_,_,h,k=>by obtain⟨_,k1,_,_,k2⟩:=h;have k:_=_:=k;have:=k2.le;omega
 |p :: l,q :: m,v,w,a,h,k=>by
  obtain⟨h1,h2,h3,h4,h5⟩:=h;obtain⟨k1,k2,k3,k4,k5⟩:=k;have e3:p.2.2=q.2.2:=by rw[<-h3 a (Jv _) h2,<-k3 a (Jv _) k2]
  have gen:∀{l:List (Int×Int×U)} {p q:Int×Int×U} {b:Int},p.2.2=q.2.2->a<p.2.1->p.2.1<q.2.1->q.2.1<=b->(∀x,a<=x->x<q.2.1->f x=q.2.2)->Cd f b (some p.2.2) p.2.1 l->False:=by
   intro l p q b e u1 u2 u3 u4 u5;cases l with
   |nil=>have u5:_=_:=u5;omega
   |cons r l =>obtain⟨r1,r2,r3,r4,_⟩:=u5;apply r4;rw[<-r3 _ (Jv _) r2,u4 _ (by omega) u2,e]
  have e2:p.2.1=q.2.1:=by
   rcases Int.lt_trichotomy p.2.1 q.2.1 with c|c|c
   ·exact(gen e3 h2 c k5.le k3 h5).elim
   ·exact c
   ·exact(gen e3.symm k2 c h5.le h3 k5).elim
  have e:p=q:=by obtain⟨p1,p2,p3⟩:=p;obtain⟨q1,q2,q3⟩:=q;simp only at *;rw[h1,k1,e2,e3]
  subst e;rw[h5.uniq k5]
theorem Cd.congr{f g:Int->U}{b:Int}:∀{l:List (Int×Int×U)} {v:Option U} {a:Int},(∀x,a<=x->x<b->f x=g x)->Cd f b v a l->Cd g b v a l
 |[],_,_,_,h=>h
 |p :: l,v,a,e,h=>by obtain⟨h1,h2,h3,h4,h5⟩:=h;have hl:=h5.le;exact⟨h1,h2,fun x x1 x2=>by rw[<-e x x1 (by omega)];exact h3 x x1 x2,h4,h5.congr fun x x1 x2=>e x (by omega) x2⟩
def jn[DecidableEq U](l:List (Int×Int×U))(p:Int×Int×U):List (Int×Int×U):=match l.getLast? with
 |some q=>if q.2.2=p.2.2 then l.dropLast++[(q.1,p.2.1,q.2.2)] else l++[p]
 |none=>[p]
theorem Cd.app{f:Int->U}:∀{l:List (Int×Int×U)} {v:Option U} {a b:Int} {p:Int×Int×U},Cd f b v a l->p.1=b->b<p.2.1->(∀x,b<=x->x<p.2.1->f x=p.2.2)->((l.getLast?.map (·.2.2)).or v≠some p.2.2)->Cd f p.2.1 v a (l++[p])
 |[],v,a,b,p,h,h1,h2,h3,h4=>by obtain rfl:a=b:=h;exact⟨h1,h2,h3,by simpa using h4,rfl⟩
 |q :: l,v,a,b,p,h,h1,h2,h3,h4=>by
  obtain⟨k1,k2,k3,k4,k5⟩:=h;refine⟨k1,k2,k3,k4,k5.app h1 h2 h3 ?_⟩;cases l with
  |nil=>simpa using h4
  |cons r l=>rw[List.getLast?_cons_cons]at h4;rw[List.getLast?_cons]at *;simpa using h4
theorem Cd.ext{f:Int->U}:∀{l:List (Int×Int×U)} {v:Option U} {a b c:Int} {q:Int×Int×U},Cd f b v a (l++[q])->b<c->(∀x,b<=x->x<c->f x=q.2.2)->Cd f c v a (l++[(q.1,c,q.2.2)])
 |[],v,a,b,c,q,h,h1,h2=>by
  obtain⟨k1,k2,k3,k4,k5⟩:=h;have k5:q.2.1=b:=k5;refine⟨k1,by show a<c;omega,fun x x1 x2=>?_,k4,rfl⟩;by_cases hx:x<q.2.1
  ·exact k3 x x1 hx
  ·exact h2 x (by omega) x2
 |r :: l,v,a,b,c,q,h,h1,h2=>by obtain⟨k1,k2,k3,k4,k5⟩:=h;exact⟨k1,k2,k3,k4,k5.ext h1 h2⟩
theorem Cd.jn[DecidableEq U]{f:Int->U}{l:List (Int×Int×U)}{a b:Int}{p:Int×Int×U}(h:Cd f b none a l)(h1:p.1=b)(h2:b<p.2.1)(h3:∀x,b<=x->x<p.2.1->f x=p.2.2):Cd f p.2.1 none a (jn l p):=by
 unfold Am.jn;cases e:l.getLast? with
 |none =>obtain rfl:=List.getLast?_eq_none_iff.1 e;exact Cd.app h h1 h2 h3 (by simp)
 |some q =>
  obtain⟨m,rfl⟩:=List.getLast?_eq_some_iff.1 e;simp only;split
  ·rename_i e2;rw[List.dropLast_concat];exact h.ext h2 fun x x1 x2=>by rw[e2];exact h3 x x1 x2
  ·rename_i e2;exact h.app h1 h2 h3 (by simpa using e2)
theorem Cd.mem{f:Int->U}{b:Int}:∀{l:List (Int×Int×U)} {v:Option U} {a:Int},Cd f b v a l->∀p,p∈l->p.1<p.2.1/\a<=p.1/\p.2.1<=b/\∀x,p.1<=x->x<p.2.1->f x=p.2.2
 |q :: l,v,a,h,p,hp=>by
  obtain⟨k1,k2,k3,k4,k5⟩:=h;have hl:=k5.le;rcases AM.1 hp with e|e
  ·subst e;exact⟨by omega,by omega,hl,fun x x1 x2=>k3 x (by omega) x2⟩
  ·obtain⟨m1,m2,m3,m4⟩:=k5.mem p e;exact⟨m1,by omega,m3,m4⟩
theorem Cd.ex{f:Int->U}{b:Int}:∀{l:List (Int×Int×U)} {v:Option U} {a:Int},Cd f b v a l->∀x,a<=x->x<b->∃p,p∈l/\p.1<=x/\x<p.2.1
 |[],v,a,h,x,h1,h2=>by have h:a=b:=h;omega
 |q :: l,v,a,h,x,h1,h2=>by
  obtain⟨k1,k2,k3,k4,k5⟩:=h;by_cases hx:x<q.2.1
  ·exact⟨q,BG ..,by omega,hx⟩
  ·obtain⟨p,hp,e⟩:=k5.ex x (by omega) h2;exact⟨p,Cv _ hp,e⟩
theorem Cd.one{f:Int->U}{b:Int}:∀{l:List (Int×Int×U)} {v:Option U} {a:Int},Cd f b v a l->∀p q,p∈l->q∈l->∀x,p.1<=x->x<p.2.1->q.1<=x->x<q.2.1->p=q
 |r :: l,v,a,h,p,q,hp,hq,x,p1,p2,q1,q2=>by
  obtain⟨k1,k2,k3,k4,k5⟩:=h;rcases AM.1 hp with e|e<;>rcases AM.1 hq with e'|e'
  ·rw[e,e']
  ·have:=(k5.mem q e').2.1;subst e;omega
  ·have:=(k5.mem p e).2.1;subst e';omega
  ·exact k5.one p q e e' x p1 p2 q1 q2
end
def vlt(a b:Ai):Prop:=a.Gauge<b.Gauge\/a.Gauge=b.Gauge/\a.Seq<b.Seq
instance (a b:Ai):Decidable (vlt a b):=by unfold vlt;infer_instance
def VRi(v:Ai):Prop:=((0<=v.Gauge/\v.Gauge<=39)/\(0<=v.Seq/\v.Seq<=1099511627776)/\(0<=v.Known/\v.Known<=14609)/\0<=v.From/\v.From<v.To/\v.To<=1402560) /\ ((v.Kind=1/\v.Shift=0/\KY v.Curve=0)\/(v.Kind=2/\v.Curve.Points.length=0/\-1000<=v.Shift/\v.Shift<=1000)\/(v.Kind=3/\v.Curve.Points.length=0/\-960<=v.Shift/\v.Shift<=960))
noncomputable instance(v:Ai):Decidable (VRi v):=Classical.propDecidable _
theorem Yo{v:Ai}(x:Bool)(h:((0<=v.Gauge/\v.Gauge<=39)/\(0<=v.Seq/\v.Seq<=1099511627776)/\(0<=v.Known/\v.Known<=14609)/\0<=v.From/\v.From<v.To/\v.To<=1402560)):(bif (bif (bif (bif (bif (bif (bif (bif (decide (v.Gauge<0)) then true else(decide (40<=v.Gauge))) then true else(decide (v.Seq<0))) then true else(decide (1099511627776<v.Seq))) then true else(decide (v.Known<0))) then true else(decide (14609<v.Known))) then true else(decide (v.From<0))) then true else(decide (v.To<=v.From))) then true else(decide (1402560<v.To)))=false:=by simp only[Ld,Ta,NZ];omega
theorem Yp{v:Ai}(h:¬((0<=v.Gauge/\v.Gauge<=39)/\(0<=v.Seq/\v.Seq<=1099511627776)/\(0<=v.Known/\v.Known<=14609)/\0<=v.From/\v.From<v.To/\v.To<=1402560)):(bif (bif (bif (bif (bif (bif (bif (bif (decide (v.Gauge<0)) then true else(decide (40<=v.Gauge))) then true else(decide (v.Seq<0))) then true else(decide (1099511627776<v.Seq))) then true else(decide (v.Known<0))) then true else(decide (14609<v.Known))) then true else(decide (v.From<0))) then true else(decide (v.To<=v.From))) then true else(decide (1402560<v.To)))=true:=by simp only[Ld,FL,BA];omega
theorem H7{v:Ai}(hc:CSz v.Curve):Hb v=some (decide (VRi v)):=by
 unfold Hb;by_cases h:((0<=v.Gauge/\v.Gauge<=39)/\(0<=v.Seq/\v.Seq<=1099511627776)/\(0<=v.Known/\v.Known<=14609)/\0<=v.From/\v.From<v.To/\v.To<=1402560);rotate_left
 ·rw[it_t (Yp h),Bj (fun e:VRi v=>h e.1)]
 rw[it_f (Yo true h)];by_cases k1:v.Kind=1
 ·rw[it_d k1];by_cases s0:v.Shift=0
  ·rw[B9 s0];simp only[AN,CC];rw[wz7j hc];simp only[Ac];congr 1;rw[G9,GD,GD];constructor
   ·intro e;exact⟨h,.inl ⟨k1,s0,e⟩⟩
   ·rintro⟨_,⟨_,_,e⟩|⟨e,_⟩|⟨e,_⟩⟩;·exact e
    ·omega
    ·omega
  ·rw[Bj s0];simp only[AJ,Ac,Cf];rw[Bj];rintro⟨_,⟨_,e,_⟩|⟨e,_⟩|⟨e,_⟩⟩<;>omega
 rw[it_n k1]
 have hm:mget keqI (mput keqI (mput keqI ([]:List (Int×Int)) 2 1000) 3 960) v.Kind=if v.Kind=2 then some 1000 else if v.Kind=3 then some 960 else none:=by
  by_cases k2:v.Kind=2
  ·rw[An k2,k2];rfl
  ·by_cases k3:v.Kind=3;·rw[Aj k2,An k3,k3];rfl
   ·rw[Aj k2,Aj k3];simp[mput,mget,keqI,k2,k3]
 rw[hm];by_cases k2:v.Kind=2
 ·rw[An k2,ck_t (by simp[Ay])];congr 1;simp only[Option.isSome_some,Lk,CC,G8];rw[G9,GD];simp only[AF,BA];constructor
  ·rintro⟨⟨a,b⟩,c⟩;exact⟨h,.inr (.inl ⟨k2,by omega,by omega,by omega⟩)⟩
  ·rintro⟨_,⟨e,_⟩|⟨_,a,b,c⟩|⟨e,_⟩⟩<;>omega
 by_cases k3:v.Kind=3
 ·rw[Aj k2,An k3,ck_t (by simp[Ay])];congr 1;simp only[Option.isSome_some,Lk,CC,G8];rw[G9,GD];simp only[AF,BA];constructor
  ·rintro⟨⟨a,b⟩,c⟩;exact⟨h,.inr (.inr ⟨k3,by omega,by omega,by omega⟩)⟩
  ·rintro⟨_,⟨e,_⟩|⟨e,_⟩|⟨_,a,b,c⟩⟩<;>omega
 ·rw[Aj k2,Aj k3,ck_t (by simp[Ay])];rw[Bj (show ¬VRi v by rintro⟨_,⟨e,_⟩|⟨e,_⟩|⟨e,_⟩⟩<;>omega)];rfl
theorem Yq{v:Ai}(hc:CSz v.Curve):Mr v=some (decide (VRi v)):=by
 unfold Mr;have hd:(bif (bif (bif (bif (bif (bif (bif (bif (decide (v.Gauge<0)) then true else(decide (39<v.Gauge))) then true else(decide (v.Seq<0))) then true else(decide (1099511627776<v.Seq))) then true else(decide (v.Known<0))) then true else(decide (14609<v.Known))) then true else(decide (v.From<0))) then true else(decide (v.To<=v.From))) then true else(decide (1402560<v.To)))=(bif (bif (bif (bif (bif (bif (bif (bif (decide (v.Gauge<0)) then true else(decide (40<=v.Gauge))) then true else(decide (v.Seq<0))) then true else(decide (1099511627776<v.Seq))) then true else(decide (v.Known<0))) then true else(decide (14609<v.Known))) then true else(decide (v.From<0))) then true else(decide (v.To<=v.From))) then true else(decide (1402560<v.To))):=by rw[show(decide (39<v.Gauge))=decide (40<=v.Gauge) from decide_eq_decide.2 (by omega)]
 rw[hd];by_cases h:((0<=v.Gauge/\v.Gauge<=39)/\(0<=v.Seq/\v.Seq<=1099511627776)/\(0<=v.Known/\v.Known<=14609)/\0<=v.From/\v.From<v.To/\v.To<=1402560);rotate_left
 ·rw[it_t (Yp h),Bj (fun e:VRi v=>h e.1)]
 rw[it_f (Yo true h)];by_cases k1:v.Kind=1
 ·rw[it_d k1];by_cases s0:v.Shift=0
  ·rw[B9 s0];simp only[AN,CC];rw[jzbg hc];simp only[Ac];congr 1;rw[G9,GD,GD];constructor
   ·intro e;exact⟨h,.inl ⟨k1,s0,e⟩⟩
   ·rintro⟨_,⟨_,_,e⟩|⟨e,_⟩|⟨e,_⟩⟩;·exact e
    ·omega
    ·omega
  ·rw[Bj s0];simp only[AJ,Ac,Cf];rw[Bj];rintro⟨_,⟨_,e,_⟩|⟨e,_⟩|⟨e,_⟩⟩<;>omega
 rw[it_n k1];by_cases k2:v.Kind=2
 ·rw[it_d k2];congr 1;simp only[G8];rw[G9,GD];simp only[AF,BA];constructor
  ·rintro⟨⟨a,b⟩,c⟩;exact⟨h,.inr (.inl ⟨k2,by omega,by omega,by omega⟩)⟩
  ·rintro⟨_,⟨e,_⟩|⟨_,a,b,c⟩|⟨e,_⟩⟩<;>omega
 rw[it_n k2];by_cases k3:v.Kind=3
 ·rw[it_d k3];congr 1;simp only[G8];rw[G9,GD];simp only[AF,BA];constructor
  ·rintro⟨⟨a,b⟩,c⟩;exact⟨h,.inr (.inr ⟨k3,by omega,by omega,by omega⟩)⟩
  ·rintro⟨_,⟨e,_⟩|⟨e,_⟩|⟨_,a,b,c⟩⟩<;>omega
 ·rw[it_n k3];rw[Bj];rintro⟨_,⟨e,_⟩|⟨e,_⟩|⟨e,_⟩⟩<;>omega
def vsm(a b:Ai):Prop:=a.Gauge=b.Gauge/\a.Seq=b.Seq
instance (a b:Ai):Decidable (vsm a b):=by unfold vsm;infer_instance
def vcmp(a b:Ai):Int:=if vlt a b then -1 else if vsm a b then 0 else 1
theorem SJ(a b:Ai):EF a b=some (vcmp a b):=by
 unfold EF;rw[NI];simp only[Ac];unfold vcmp;by_cases h1:a.Gauge<b.Gauge
 ·rw[An h1,An (show vlt a b from .inl h1),AY (by decide)]
 ·by_cases h2:b.Gauge<a.Gauge;·rw[Aj h1,An h2,AY (by decide),Aj (show ¬vlt a b by unfold vlt;omega),Aj (show ¬vsm a b by unfold vsm;omega)]
  ·rw[Aj h1,Aj h2,AK rfl,NI];simp only[Ac];have:a.Gauge=b.Gauge:=by omega
   by_cases h3:a.Seq<b.Seq
   ·rw[An h3,An (show vlt a b from .inr ⟨this,h3⟩)]
   ·by_cases h4:b.Seq<a.Seq;·rw[Aj h3,An h4,Aj (show ¬vlt a b by unfold vlt;omega),Aj (show ¬vsm a b by unfold vsm;omega)]
    ·rw[Aj h3,Aj h4,Aj (show ¬vlt a b by unfold vlt;omega),An (show vsm a b by unfold vsm;omega)]
theorem NK{a b:Ai}:vcmp a b<0↔vlt a b:=by
 unfold vcmp;split
 ·simp[*]
 ·split<;>simp[*]
theorem SK(a b:Ai):Kh a b=some (decide (vlt a b)):=by
 unfold Kh;congr 1;rw[G9,GD];unfold vlt;by_cases h1:a.Gauge<b.Gauge
 ·simp[h1]
 ·by_cases h2:a.Gauge=b.Gauge<;>simp[h1,h2]
def VsSz(l:List Ai):Prop:=∀v,v∈l->CSz v.Curve
noncomputable def vchF(l:List Ai)(k:Nat)(v:Ai):Option Int:=if VRi v/\(0<k->vlt (l.getD (k-1) default) v) then none else some 1
noncomputable def vchE(l:List Ai):Int:=if 400<l.length then 2 else(scan (vchF l) 0 l).getD 0
theorem E7{l:List Ai}(hs:VsSz l):Et l=some (vchE l):=by
 unfold Et vchE;by_cases h0:400<l.length
 ·rw[it_d,An h0]
 rw[it_n,Aj h0,Eb (l:=l) (vchF l) (by omega) ?_ ?_]
 ·simp only[Ac];exact Jl
 ·intro k x hx;have hk:=(AL.1 hx).1;simp only[Qo];rw[it_d,at_e rfl hx];simp only[Ac];rw[H7 (hs x (Cq hx))];simp only[Ac,vchF];by_cases hr:VRi x;rotate_left
  ·rw[Bj hr];simp only[DF,Dn,Of,Bool.true_or];rw[Gl,AJ];simp only[Ac];rw[AJ];simp only[Ac,CC];rw[C6,Aj (fun h=>hr h.1)]
  rw[B9 hr];simp only[Dn,DF,Og];by_cases fd:k=0
  ·subst fd;rw[show decide ((0:Int)<((0:Nat):Int))=false by simp];simp only[DF,Bool.true_or];rw[Gl,AJ];simp only[Ac];rw[AJ];simp only[Ac,Cf];rw[AV,AB,An ⟨hr,fun h=>by omega⟩]
  have di:0<k:=by omega
  rw[show decide ((0:Int)<(k:Int))=true by simp;omega];rw[ck_t (by simp[Ay];omega),AN,Hz hx di];simp only[Ac];rw[AN,SJ];simp only[Ac,Cf,CC];by_cases hl:vlt (l.getD (k-1) default) x
  ·rw[it_n (by have:=NK.2 hl;omega),AB,An ⟨hr,fun _=>hl⟩]
  ·rw[it_d (by have:=mt NK.1 hl;omega),Aj (fun h=>hl (h.2 di))]
 ·simp only[Qo];rw[it_n]
theorem jzz4{l:List Ai}(hs:VsSz l):Qr l=some (vchE l):=by
 unfold Qr vchE;by_cases h0:400<l.length
 ·rw[it_d,An h0]
 rw[it_n,Aj h0,Eb (l:=l) (vchF l) (by omega) ?_ ?_]
 ·simp only[Ac];exact Jl
 ·intro k x hx;have hk:=(AL.1 hx).1;simp only[Qq];rw[it_d,at_e rfl hx];simp only[Ac];rw[Yq (hs x (Cq hx))];simp only[Ac,vchF];by_cases fd:k=0
  ·subst fd;rw[show decide (((0:Nat):Int)=0)=true by simp];simp only[Dn,DF,Bool.true_or,AJ,Ac,CC,Cf];rw[Gl];by_cases hr:VRi x
   ·rw[it_f (by simp[hr]),AB,An ⟨hr,fun h=>by omega⟩]
   ·rw[it_t (by simp[hr]),Aj (fun h=>hr h.1)]
  have di:0<k:=by omega
  rw[show decide ((k:Int)=0)=false by simp;omega];simp only[Dn,DF,Bool.false_or,AN,Cf];rw[AB,Hz hx di];simp only[Ac];rw[SK];simp only[Ac];by_cases hr:VRi x
  ·by_cases hl:vlt (l.getD (k-1) default) x;·rw[it_f (by rw[B9 hr,B9 hl];rfl),AB,An ⟨hr,fun _=>hl⟩]
   ·rw[it_t (by rw[B9 hr,Bj hl];rfl),Aj (fun h=>hl (h.2 di))]
  ·rw[it_t (by simp[hr]),Aj (fun h=>hr h.1)]
 ·simp only[Qq];rw[it_n]
theorem Jq{a b c:Ai}(h:vlt a b)(k:vlt b c):vlt a c:=by unfold vlt at *;omega
structure VBk(l:List Ai):Prop where
 right:∀r,r∈l->VRi r
 asc:l.Pairwise vlt
theorem H8{l:List Ai}:vchE l=0↔l.length<=400/\VBk l:=by
 unfold vchE;by_cases h0:400<l.length
 ·rw[An h0];exact⟨fun h=>(by cases h),fun h=>by omega⟩
 rw[Aj h0];constructor
 ·intro h;refine⟨by omega,?_⟩;cases hs:scan (vchF l) 0 l with
  |some o =>
   obtain⟨i,x,hx,hi,_⟩:=H6 0 l o hs;rw[hs]at h;simp only[Lk]at h;unfold vchF at hi;split at hi
   ·cases hi
   ·cases hi;cases h
  |none =>
   have hn:∀i x,l[i]?=some x->VRi x/\(0<i->vlt (l.getD (i-1) default) x):=fun i x hx=>by
    have:=Jm hs hx;unfold vchF at this;split at this
    ·assumption
    ·cases this
   refine⟨fun r hr=>?_,?_⟩
   ·obtain⟨i,hi,rfl⟩:=Dh hr;exact(hn i _ (AD hi)).1
   ·have step:∀i,(hi:i+1<l.length)->vlt l[i] l[i+1]:=fun i hi=>by
     have:=(hn (i+1) _ (AD hi)).2 (by omega);simpa [List.getD,show i<l.length by omega] using this
    rw[Lg];intro i j hi hj dC;induction j with
    |zero=>omega
    |succ j ih =>
     by_cases e:i=j
     ·subst e;exact step i hj
     ·exact Jq (ih (by omega) (by omega)) (step j hj)
 ·rintro⟨_,hb⟩;rw[S8]
  ·rfl
  ·intro i x hx;obtain⟨hi,rfl⟩:=AL.1 hx;unfold vchF;rw[An];refine⟨hb.right _ (BI _),fun h=>?_⟩;have:=Lg.1 hb.asc (0+i-1) i (by omega) hi (by omega);simpa [List.getD,show i-1<l.length by omega] using this
def vfit(kind gauge tick known:Int)(v:Ai):Prop:=v.Kind=kind/\v.Gauge=gauge/\v.Known<=known/\v.From<=tick/\tick<v.To
instance (a b c d:Int)(v:Ai):Decidable (vfit a b c d v):=by unfold vfit;infer_instance
def Jr(kind gauge tick known:Int)(b:Option Ai)(v:Ai):Option Ai :=
 if vfit kind gauge tick known v then(match b with | none=>some v | some w=>if w.Known<=v.Known then some v else some w) else b
def vfrc(l:List Ai)(kind gauge tick known:Int):Option Ai:=l.foldl (Jr kind gauge tick known) none
theorem NL{l:List Ai}{v:Ai}{a b c d:Int}:vfrc (l++[v]) a b c d=Jr a b c d (vfrc l a b c d) v:=by unfold vfrc;rw[List.foldl_append];rfl
theorem Yr(a b c d:Int):∀(n:Nat) (l:List Ai),l.length=n->∀w,vfrc l a b c d=some w->w∈l/\vfit a b c d w:=by
 intro n;induction n with
 |zero=>intro l hl w h;rw[Lf.1 hl]at h;cases h
 |succ n ih =>
  intro l hl w h;have aI:l≠[]:=fun e=>by rw[e]at hl;cases hl
  obtain⟨m,v,rfl⟩:∃m v,l=m++[v]:=⟨_,_,(List.dropLast_concat_getLast aI).symm⟩;rw[NL]at h;have hm:m.length=n:=by simpa using hl
  unfold Jr at h;split at h
  ·rename_i hf;split at h
   ·cases h;exact⟨by simp,hf⟩
   ·rename_i w' e;split at h
    ·cases h;exact⟨by simp,hf⟩
    ·cases h;obtain⟨h1,h2⟩:=ih m hm _ e;exact⟨BJ.2 (.inl h1),h2⟩
  ·obtain⟨h1,h2⟩:=ih m hm _ h;exact⟨BJ.2 (.inl h1),h2⟩
theorem jz0z{l:List Ai}(hl:l.length<=1000)(ha:l.Pairwise vlt)(kind gauge tick known:Int):Mc l kind gauge tick known=some (vfrc l kind gauge tick known):=by
 unfold Mc;rw[S9 (l:=l) (fun k=>(vfrc (l.take k) kind gauge tick known,(k:Int))) (by omega) (o:=vfrc l kind gauge tick known) ?_ ?_ ?_]
 ·simp only[Ac]
 ·intro k x hx;have hk:=(AL.1 hx).1;simp only[PE];rw[it_d,at_e rfl hx];simp only[Ac];have dY:l.take (k+1)=l.take k++[x]:=KX hx;have hlt:∀w,w∈l.take k->vlt w x:=fun w hw=>by obtain⟨i,hi,rfl⟩:=Dh hw;obtain⟨_,rfl⟩:=AL.1 hx;rw[Do]at hi;rw[List.getElem_take];exact Lg.1 ha i k (by omega) hk (by omega)
  rw[dY,NL];have bm:=Yr kind gauge tick known _ (l.take k) rfl;generalize vfrc (l.take k) kind gauge tick known=b at *;by_cases hf:vfit kind gauge tick known x;rotate_left
  ·rw[it_t (by
    simp only[Ld,FL,BA,FK,NZ];unfold vfit at hf;omega)]
   simp only[Ac];rw[AB];unfold Jr;rw[Aj hf];rfl
  rw[it_f (by simp only[Ld,Ta,NZ,Bool.not_eq_false',BA];unfold vfit at hf;omega)];simp only[Ac];unfold Jr;rw[An hf];cases b with
  |none =>simp only[Option.isSome_none,DF,Dn,AJ,Ac,CC,Of];rw[C6,AB];rfl
  |some w =>
   obtain⟨hw,pG⟩:=bm w rfl;have hv:=hlt w hw;have hs:w.Seq<x.Seq:=by unfold vfit at hf pG;unfold vlt at hv;omega
   simp only[Option.isSome_some,Dn,DF,AN,Ac,Cf];by_cases h1:w.Known<x.Known
   ·rw[B9 h1];simp only[Dn,AJ,Ac,CC,Of];rw[C6,AB,ifP];rfl
   ·rw[Bj h1];simp only[DF,AN,Ac,Cf,Og];by_cases h2:x.Known=w.Known
    ·rw[B9 h2];simp only[AN,Ac,CC];rw[it_d hs,AB,ifP];rfl
    ·rw[Bj h2];simp only[AJ,Ac,Cf];rw[AV,AB,ifN];rfl
 ·simp only[PE];rw[it_n,List.take_length]
 ·rfl
def vsh(l:List Ai)(gauge tick known:Int):Int:=match vfrc l 3 gauge tick known with
 |some v=>v.Shift
 |none=>0
theorem jz0x{l:List Ai}(hb:VBk l)(gauge tick known:Int):-960<=vsh l gauge tick known/\vsh l gauge tick known<=960:=by
 unfold vsh;cases h:vfrc l 3 gauge tick known with
 |none=>simp
 |some v =>
  obtain⟨h1,h2⟩:=Yr 3 gauge tick known _ l rfl v h;have:=(hb.right v h1).2;have h3:v.Kind=3:=h2.1;simp only;rcases this with ⟨e,_⟩|⟨e,_⟩|⟨_,_,e1,e2⟩
  ·omega
  ·omega
  ·exact⟨e1,e2⟩
def shf(l:List Ai)(known:Int)(r:Ae):At :=
 if min 1402560 (r.To+vsh l r.Gauge r.From known)<=max 0 (r.From+vsh l r.Gauge r.From known) then⟨0,0⟩ else⟨max 0 (r.From+vsh l r.Gauge r.From known),min 1402560 (r.To+vsh l r.Gauge r.From known)⟩
theorem jz0a{l:List Ai}{r:Ae}{known:Int}(hs:VsSz l)(hc:vchE l=0)(hr:RR r)(hk:0<=known/\known<=14609):It r l known=some (shf l known r):=by
 obtain⟨hl,hb⟩:=H8.1 hc;unfold It Qp;rw[E7 hs];simp only[Ac];unfold RR at hr;rw[AK hc,it_f (by simp)];unfold PB;rw[it_f (by simp;omega)];simp only[Ac,decide_true,Dn];rw[AV];unfold PO;rw[jz0z (by omega) hb.asc];simp only[Ac];have hv:=jz0x hb r.Gauge r.From known
 have e:(ite' (Option.isSome (vfrc l 3 r.Gauge r.From known)) (bd (vfrc l 3 r.Gauge r.From known) fun x1=>some x1.Shift) (some 0))=some (vsh l r.Gauge r.From known):=by
  unfold vsh;cases vfrc l 3 r.Gauge r.From known with
  |none=>simp only[Option.isSome_none];rw[AV]
  |some v=>simp only[Option.isSome_some,Ac];rw[C6]
 rw[e];simp only[Ac];unfold shf;generalize vsh l r.Gauge r.From known=n at *;rw[AB,AB];by_cases h:min 1402560 (r.To+n)<=max 0 (r.From+n)
 ·rw[it_d h,An h]
 ·rw[it_n h,Aj h]
def cov(vs:List Ai)(known g x:Int)(r:Ae):Prop:=r.Gauge=g/\r.Known<=known/\(shf vs known r).From<=x/\x<(shf vs known r).To
instance (vs:List Ai)(known g x:Int)(r:Ae):Decidable (cov vs known g x r):=by unfold cov;infer_instance
def stg(vs:List Ai)(known g:Int)(l:List Ae)(x:Int):Int:=l.foldl (fun s r=>if cov vs known g x r then r.Stage else s) (-1)
theorem NM{vs:List Ai}{known g x:Int}{l:List Ae}{r:Ae}:stg vs known g (l++[r]) x=if cov vs known g x r then r.Stage else stg vs known g l x:=by unfold stg;rw[List.foldl_append];rfl
def clp(vs:List Ai)(known g:Int)(t:At)(r:Ae):Option AT :=
 if r.Gauge=g/\r.Known<=known/\max (shf vs known r).From t.From<min (shf vs known r).To t.To then some ⟨⟨max (shf vs known r).From t.From,min (shf vs known r).To t.To⟩,r.Stage⟩ else none
def ctg(cs:List AT)(x:Int):Int:=cs.foldl (fun s c=>if c.t.From<=x/\x<c.t.To then c.stage else s) (-1)
theorem NN{cs:List AT}{c:AT}{x:Int}:ctg (cs++[c]) x=if c.t.From<=x/\x<c.t.To then c.stage else ctg cs x:=by unfold ctg;rw[List.foldl_append];rfl
theorem KZ{α:Type}{P:List α->Prop}(h0:P [])(h1:∀l x,P l->P (l++[x])):∀l,P l:=by
 intro l
 have:∀n (l:List α),l.length=n->P l:=by
  intro n;induction n with
  |zero=>intro l hl;rw[Lf.1 hl];exact h0
  |succ n ih =>
   intro l hl;have aI:l≠[]:=fun e=>by rw[e]at hl;cases hl
   rw[<-List.dropLast_concat_getLast aI];exact h1 _ _ (ih _ (by rw[List.length_dropLast];omega))
 exact this _ l rfl
theorem jz06{vs:List Ai}{known g x:Int}{t:At}(hx:t.From<=x/\x<t.To):∀l:List Ae,ctg (l.filterMap (clp vs known g t)) x=stg vs known g l x:=by
 refine KZ rfl fun l r ih=>?_;rw[NM,List.filterMap_append];cases h:clp vs known g t r with
 |none =>
  have:List.filterMap (clp vs known g t) [r]=[]:=by simp[h]
  rw[this,List.append_nil,ih,Aj (show ¬cov vs known g x r from fun e=>by obtain⟨a,b,c,d⟩:=e;unfold clp at h;rw[An ⟨a,b,by omega⟩]at h;cases h)]
 |some c =>
  have:List.filterMap (clp vs known g t) [r]=[c]:=by simp[h]
  rw[this,NN,ih];unfold clp at h;split at h
  ·rename_i h';cases h;simp only;by_cases e:(shf vs known r).From<=x/\x<(shf vs known r).To
   ·rw[ifP,An (show cov vs known g x r from⟨h'.1,h'.2.1,e⟩)]
   ·rw[ifN,Aj (show ¬cov vs known g x r from fun h=>e h.2.2)]
  ·cases h
theorem DB{l:List Int}(h:SAsc l){i j:Nat}(hi:i<l.length)(hj:j<l.length)(dC:i<j):l[i]<l[j]:=Lg.1 h i j hi hj dC
theorem Ys{l:List Int}(hl:l.length<=1000000)(ha:SAsc l){y:Int}(hy:y∈l):∃k,∃h:k<l.length,Km l y=some ((k:Int),true)/\l[k]=y:=by
 unfold Km
 obtain⟨o,e,k,rfl,hk,h1,h2⟩:=CF (s:=((0:Int),(l.length:Int))) (body:=PL y l) (fun s=>∃i j:Nat,s=((i:Int),(j:Int))/\i<=j/\j<=l.length/\(∀m,(hm:m<l.length)->m<i->l[m]<y)/\(∀m,(hm:m<l.length)->j<=m->¬l[m]<y)) (fun s=>(s.2-s.1).toNat) (fun o=>∃k:Nat,o=(k:Int)/\k<=l.length/\(∀m,(hm:m<l.length)->m<k->l[m]<y)/\(∀m,(hm:m<l.length)->k<=m->¬l[m]<y)) (by
  rintro s ⟨i,j,rfl,dC,hj,h1,h2⟩;simp only[PL];by_cases h:i<j;rotate_left
  ·right;rw[it_n];obtain rfl:i=j:=by omega
   exact⟨_,rfl,i,rfl,hj,h1,h2⟩
  left;have hm:Int.fdiv (((i:Int)+j)%18446744073709551616) 2=(((i+j) / 2:Nat):Int):=by rw[Int.emod_eq_of_lt (by omega) (by omega),Le _ (by decide)];omega
  rw[it_d,AB,hm,AB];have hlt:(i+j) / 2<l.length:=by omega
  rw[at_e rfl (AD hlt)];simp only[Ac,P9,F5,decide_true,Dn,AJ,Cf];by_cases hc:l[(i+j) / 2]<y
  ·rw[it_d hc,AB];refine⟨_,rfl,⟨(i+j) / 2+1,j,by simp,by omega,hj,fun m hm fG=>?_,h2⟩,by simp only;omega⟩;by_cases e:m=(i+j) / 2
   ·subst e;exact hc
   ·have:=DB ha hm hlt (by omega);omega
  ·rw[it_n hc];refine⟨_,rfl,⟨i,(i+j) / 2,rfl,by omega,by omega,h1,fun m hm fG hr=>?_⟩,by simp only;omega⟩;by_cases e:m=(i+j) / 2
   ·subst e;exact hc hr
   ·have:=DB ha hlt hm (by omega);omega) ⟨0,l.length,by simp,DC _,AC _,fun m hm h=>by omega,fun m hm h=>by omega⟩ (by simp;omega)
 rw[e];simp only[Ac];obtain⟨i,hi,nG⟩:=Dh hy
 have jX:k=i:=by
  have a1:¬i<k:=fun h=>by have:=h1 i hi h;omega
  have a2:¬k<i:=fun h=>by have:=DB ha (show k<l.length by omega) hi h;have:=h2 k (by omega) (AC _);omega
  omega
 subst jX;rw[B9 (show(k:Int)<(l.length:Int) by omega)];simp only[AN];rw[at_e rfl (AD hi)];simp only[Ac];rw[B9 nG];simp only[Dn,Bool.and_false,Of,AJ,Ac,CC];exact⟨k,hi,rfl,nG⟩
def tri(p:Az):Int×Int×Int:=(p.t.From,p.t.To,p.stage)
def PcOk(p:Az):Prop:=0<=p.t.From/\p.t.From<p.t.To/\p.t.To<=1402560
theorem jz0m{at' c1:List Int}(hn:0<at'.length)(hl:at'.length<=100000)(ha:SAsc at')(hc:c1.length=at'.length)(hb:∀x,x∈at'->0<=x/\x<=1402560){F:Int->Int}(hF:∀i,(h:i+1<at'.length)->∀x,at'[i]<=x->x<at'[i+1]->some (F x)=c1[i]?) {st:List Az->Option Bool} (aH:∀ys,ys.length<=at'.length->(∀p,p∈ys->PcOk p)->st ys=some false) : ∃P,D1 at' c1 st=some P/\Cd F (at'[at'.length-1]) none (at'[0]) (P.map tri)/\P.length<=at'.length/\∀p,p∈P->PcOk p:=by
 unfold D1
 obtain⟨o,e,P,rfl,h1,h2,h3⟩:=CF (s:=((0:Int),([]:List Az))) (body:=P6 at' c1 st) (fun s=>∃k:Nat,∃ys,∃hk:k<at'.length,s=((k:Int),ys)/\Cd F at'[k] none at'[0] (ys.map tri)/\(k+1<at'.length->(ys.map tri).getLast?.map (·.2.2)≠c1[k]?)/\ys.length<=k/\∀p,p∈ys->PcOk p) (fun s=>(at'.length-s.1).toNat) (fun o=>∃P,o=.inl P/\Cd F (at'[at'.length-1]) none (at'[0]) (P.map tri)/\P.length<=at'.length/\∀p,p∈P->PcOk p) (by
  rintro s ⟨k,ys,hk,rfl,h1,h2,h3,h4⟩;simp only[P6];rw[AB];by_cases hlt:k+1<at'.length;rotate_left
  ·right;rw[it_n];refine⟨_,rfl,ys,rfl,?_,by omega,h4⟩;have:k=at'.length-1:=by omega
   subst this;exact h1
  left;rw[it_d,AB]
  obtain⟨o,e,q,hq,rfl,ks,iT,pH⟩:=CF (s:=((k:Int)+1)) (body:=P5 at' c1 (k:Int)) (fun s=>∃q:Nat,s=(q:Int)/\k<q/\q<at'.length/\∀i,k<=i->i<q->c1[i]?=c1[k]?) (fun s=>(at'.length-s).toNat) (fun o=>∃q:Nat,∃hq:q<at'.length,o=(q:Int)/\k<q/\(∀i,k<=i->i<q->c1[i]?=c1[k]?)/\(q+1<at'.length->c1[q]?≠c1[k]?)) (by
   rintro s ⟨q,rfl,g1,g2,g3⟩;simp only[P5];rw[AB];by_cases hq:q+1<at'.length;rotate_left
   ·right;rw[Bj (show ¬((q:Int)+1<(at'.length:Int)) by omega)];simp only[AJ,Ac,Cf];rw[AV];exact⟨_,rfl,q,g2,rfl,g1,g3,fun h=>absurd h hq⟩
   have e1:=AD (show q<c1.length by omega);have e2:=AD (show k<c1.length by omega);rw[B9 (show((q:Int)+1<(at'.length:Int)) by omega)];simp only[AN,CC];rw[at_e rfl e1,at_e rfl e2];simp only[Ac];by_cases dG:c1[q]=c1[k]
   ·left;rw[it_d dG,AB];refine⟨_,rfl,⟨q+1,by simp,by omega,hq,fun i i1 i2=>?_⟩,by omega⟩;by_cases ei:i=q
    ·subst ei;rw[e1,e2,dG]
    ·exact g3 i i1 (by omega)
   ·right;rw[it_n dG];exact⟨_,rfl,q,g2,rfl,g1,g3,fun _ h=>by rw[e1,e2]at h;exact dG (BM h)⟩) ⟨k+1,by simp,by omega,hlt,fun i i1 i2=>by rw[show i=k by omega]⟩ (by omega)
  rw[e];have a1:=AD hk;have a2:=AD hq;have e2:=AD (show k<c1.length by omega);simp only[Ac];rw[at_e rfl a1,at_e rfl a2,at_e rfl e2];simp only[Ac];have eC:=DB ha hk hq ks;have pI:=hb _ (BI hk);have jY:=hb _ (BI hq)
  have gM:∀p,p∈ys++[Az.mk (At.mk at'[k] at'[q]) c1[k]]->PcOk p:=fun p hp=>by
   rcases BJ.1 hp with h|h
   ·exact h4 p h
   ·rw[BK.1 h];exact⟨pI.1,eC,jY.2⟩
  rw[aH _ (by simp;omega) gM];simp only[Ac];rw[AV];refine⟨_,rfl,⟨q,_,hq,rfl,?_,fun h=>?_,by simp;omega,gM⟩,by simp only;omega⟩
  ·rw[List.map_append];refine Cd.app (p:=(at'[k],at'[q],c1[k])) h1 rfl eC (fun x x1 x2=>?_) ?_
   ·-- where x lies
    have:∀n,k+n<=q->(∀hn:k+n<at'.length,x<at'[k+n]->F x=c1[k]):=by
     intro n;induction n with
     |zero=>intro _ hn h;simp only[GJ]at h;omega
     |succ n ih =>
      intro h1 hn h2;by_cases h3:x<at'[k+n]
      ·exact ih (by omega) (by omega) h3
      ·have h4:=hF (k+n) (by omega) x (by omega) h2;rw[iT (k+n) (by omega) (by omega),e2]at h4;exact BM h4
    have pJ:k+(q-k)=q:=(by omega);exact this (q-k) (by omega) (by omega) (by simpa only[pJ] using x2)
   ·have:=h2 hlt;rw[e2]at this;cases hg:(ys.map tri).getLast? with
    |none=>simp
    |some z=>rw[hg]at this;simpa using this
  ·have:=pH h;rw[e2]at this;have fN:((ys++[Az.mk (At.mk at'[k] at'[q]) c1[k]]).map tri).getLast?.map (·.2.2)=some c1[k]:=by simp[tri]
   rw[fN];exact fun h=>this h.symm) ⟨0,[],hn,rfl,rfl,fun h=>by have:=AD (show 0<c1.length by omega);rw[this];simp,AC _,fun p hp=>by cases hp⟩ (by simp only;omega)
 rw[e];simp only[Ac];exact⟨P,rfl,h1,h2,h3⟩
def Fl(t:At)(cs:List AT)(x:Int):Prop:=x=t.From\/x=t.To\/∃c,c∈cs/\(x=c.t.From\/x=c.t.To)
theorem jz0u{t:At}{cs:List AT}{c:AT}{x:Int}:Fl t (cs++[c]) x↔Fl t cs x\/x=c.t.From\/x=c.t.To:=by
 unfold Fl;simp only[BJ,BK];constructor
 ·rintro(h|h|⟨d,hd|rfl,h⟩);·exact .inl (.inl h)
  ·exact .inl (.inr (.inl h))
  ·exact .inl (.inr (.inr ⟨d,hd,h⟩))
  ·exact .inr h
 ·rintro((h|h|⟨d,hd,h⟩)|h);·exact .inl h
  ·exact .inr (.inl h)
  ·exact .inr (.inr ⟨d,.inl hd,h⟩)
  ·exact .inr (.inr ⟨c,.inr rfl,h⟩)
theorem Yt(vs:List Ai)(known g:Int)(t:At)(l:List Ae):(l.filterMap (clp vs known g t)).length<=l.length:=List.length_filterMap_le _ _
theorem jz0p{t:At}{cs:List AT}{at':List Int}(ha:SAsc at')(hm:∀x,Fl t cs x->x∈at'){i:Nat}(h:i+1<at'.length){x:Int}(h1:at'[i]<=x)(h2:x<at'[i+1]):∀ds:List AT,(∀c,c∈ds->c∈cs)->ctg ds x=ctg ds at'[i]:=by
 refine KZ (fun _=>rfl) fun ds c ih hd=>?_;have hc:=hd c (by simp);have ih:=ih fun d fW=>hd d (BJ.2 (.inl fW))
 have no:∀y,y∈at'->at'[i]<y->at'[i+1]<=y:=fun y hy hlt=>by
  obtain⟨j,hj,rfl⟩:=Dh hy;by_cases e:j<=i
  ·by_cases e':j=i;·subst e';omega
   ·have:=DB ha hj (show i<at'.length by omega) (by omega);omega
  ·by_cases e':j=i+1;·subst e';exact Jv _
   ·have:=DB ha h hj (by omega);omega
 have m1:=hm c.t.From (.inr (.inr ⟨c,hc,.inl rfl⟩));have m2:=hm c.t.To (.inr (.inr ⟨c,hc,.inr rfl⟩));have n1:=no _ m1;have n2:=no _ m2;rw[NN,NN,ih];by_cases e:c.t.From<=x/\x<c.t.To
 ·rw[An e,ifP]
 ·rw[Aj e,ifN]
theorem jz0n{vs:List Ai}{known g:Int}{t:At}{l:List Ae}(hs:VsSz vs)(hc:vchE vs=0)(hr:∀r,r∈l->RR r)(hl:l.length<=5000)(hk:0<=known/\known<=14609)(ht:0<=t.From/\t.From<=t.To/\t.To<=1402560) : ∃at':List Int,Ev l vs g t known=some (at',at'.map (ctg (l.filterMap (clp vs known g t))))/\SAsc at'/\(∀x,x∈at'↔Fl t (l.filterMap (clp vs known g t)) x)/\at'.length<=2*l.length+2:=by
 unfold Ev
 obtain⟨o,e,m,rfl,h1,h2,h3⟩:=CF (s:=((0:Int),(mput keqI (mput keqI ([]:List (Int×Bool)) t.From true) t.To true),([]:List AT))) (body:=F6 g known l t vs) (fun s=>∃k:Nat,∃m,s=((k:Int),m,(l.take k).filterMap (clp vs known g t))/\k<=l.length/\(m.map (·.1)).Nodup/\(∀x,x∈m.map (·.1)↔Fl t ((l.take k).filterMap (clp vs known g t)) x)/\m.length<=2*k+2) (fun s=>(l.length-s.1).toNat) (fun o=>∃m,o=(m,l.filterMap (clp vs known g t))/\(m.map (·.1)).Nodup/\(∀x,x∈m.map (·.1)↔Fl t (l.filterMap (clp vs known g t)) x)/\m.length<=2*l.length+2) (by
  rintro s ⟨k,m,rfl,dm,h1,h2,h3⟩;simp only[F6];by_cases hlt:k<l.length;rotate_left
  ·right;rw[it_n];rw[J6 (by omega)]at h2 |-;exact⟨_,rfl,m,rfl,h1,h2,by omega⟩
  left;have hx:=AD hlt;have dY:l.take (k+1)=l.take k++[l[k]]:=KX hx;have pK:=hr _ (BI hlt);have bp:=Yt vs known g t (l.take k);rw[Do]at bp;rw[it_d,at_e rfl hx];simp only[Ac];generalize l[k]=r at *
  have gJ:clp vs known g t r=none->∃k':Nat,∃m',(((k:Int)+1),m,(l.take k).filterMap (clp vs known g t))=((k':Int),m',(l.take k').filterMap (clp vs known g t))/\k'<=l.length/\(m'.map (·.1)).Nodup/\(∀x,x∈m'.map (·.1)↔Fl t ((l.take k').filterMap (clp vs known g t)) x)/\m'.length<=2*k'+2:=fun h=>by
   have e3:(l.take (k+1)).filterMap (clp vs known g t)=(l.take k).filterMap (clp vs known g t):=by rw[dY,List.filterMap_append];simp[h]
   exact⟨k+1,m,by rw[e3];simp,hlt,h1,fun x=>by rw[e3];exact h2 x,by omega⟩
  by_cases h:r.Gauge=g/\r.Known<=known;rotate_left
  ·rw[it_t (by simp only[Ld,FL,BA,FK,NZ];omega)];simp only[Ac];rw[AB];exact⟨_,rfl,gJ (by unfold clp;rw[Aj (fun e=>h ⟨e.1,e.2.1⟩)]),by simp only;omega⟩
  rw[it_f (by simp only[Ld,Ta,NZ,Bool.not_eq_false',BA];omega)];simp only[Ac];rw[jz0a hs hc pK hk];simp only[Ac];by_cases h':max (shf vs known r).From t.From<min (shf vs known r).To t.To;rotate_left
  ·rw[it_n h',AB];exact⟨_,rfl,gJ (by unfold clp;rw[Aj (fun e=>h' e.2.2)]),by simp only;omega⟩
  have jZ:clp vs known g t r=some ⟨⟨max (shf vs known r).From t.From,min (shf vs known r).To t.To⟩,r.Stage⟩:=by unfold clp;rw[An ⟨h.1,h.2,h'⟩]
  have e3:(l.take (k+1)).filterMap (clp vs known g t)=(l.take k).filterMap (clp vs known g t)++[⟨⟨max (shf vs known r).From t.From,min (shf vs known r).To t.To⟩,r.Stage⟩]:=by rw[dY,List.filterMap_append];simp[jZ]
  rw[it_d h',ck_d (by simp;omega),AB,<-e3];refine⟨_,rfl,⟨k+1,mput keqI (mput keqI m (max (shf vs known r).From t.From) true) (min (shf vs known r).To t.To) true,by simp,hlt,NC (NC h1),fun x=>?_,?_⟩,by simp only;omega⟩
  ·rw[ND,ND,h2,e3,jz0u,or_assoc]
  ·have a:=NE (k:=max (shf vs known r).From t.From) (m:=m);have b:=NE (k:=min (shf vs known r).To t.To) (m:=mput keqI m (max (shf vs known r).From t.From) true);omega) ⟨0,_,rfl,DC _,NC (NC List.nodup_nil),fun x=>by rw[ND,ND];unfold Fl;simp,by have a:=NE (k:=t.From) (m:=[]);have b:=NE (k:=t.To) (m:=mput keqI [] t.From true);simp only[List.length_nil]at a;omega⟩ (by simp only;omega)
 rw[e];simp only[Ac];unfold D0
 have gN:0<m.length:=by
  have:=List.length_pos_of_mem ((h2 t.From).2 (.inl rfl))
  rwa [FN]at this
 rw[ck_t (by (try rw[AF]);simp only[BA];omega)];simp only[Ac];generalize aS:l.filterMap (clp vs known g t)=cs at *;have bp:=Yt vs known g t l;rw[aS]at bp;generalize bQ:BD (m.map (·.1))=at' at *;have ha:SAsc at':=by rw[<-bQ];exact Ya _ h1
 have dW:∀x,x∈at'↔Fl t cs x:=fun x=>by rw[<-bQ,SB,h2]
 have aD:at'.length<=2*l.length+2:=by rw[<-bQ,Yc,FN];exact h3
 rw[K3]
 have step:∀k,k<at'.length->Iu at' ((k:Int),List.replicate k (-1:Int)++List.replicate (at'.length-k) 0)=some (.inl (((k+1:Nat):Int),List.replicate (k+1) (-1:Int)++List.replicate (at'.length-(k+1)) 0)):=fun k hk=>by
  simp only[Iu];have nH:(List.replicate k (-1:Int)++List.replicate (at'.length-k) 0).length=at'.length:=by simp;omega
  rw[it_d (by simp;omega),at_e rfl (AD (by omega))];simp only[Ac];rw[AB];congr 2;refine Prod.ext (by simp) ?_;simp only;refine J1 fun i=>?_;rw[CN,Jw];by_cases dO:k=i
  ·subst dO;rw[An rfl,ifP,Fm (by simp),Oj,ifP]
  ·rw[Aj dO];by_cases hlt:i<k
   ·rw[Fm (by simp;omega),Fm (by simp;omega),Oj,Oj,ifP,ifP]
   ·rw[GB (by simp;omega),GB (by simp;omega),Oj,Oj];simp only[Tf];by_cases h:i<at'.length
    ·rw[ifP,ifP]
    ·rw[ifN,ifN]
 have fin:Iu at' ((at'.length:Int),List.replicate at'.length (-1:Int)++List.replicate (at'.length-at'.length) 0)=some (.inr (List.replicate at'.length (-1))):=by simp only[Iu];rw[it_n (by simp)];simp
 rw[XY (fun k=>((k:Int),List.replicate k (-1:Int)++List.replicate (at'.length-k) 0)) at'.length (by omega) step fin (by simp)];simp only[Ac];rw[S9 (l:=cs) (fun k=>((k:Int),at'.map (ctg (cs.take k)))) (by omega) (o:=at'.map (ctg cs)) ?_ ?_ ?_]
 ·simp only[Ac];exact⟨at',rfl,ha,dW,aD⟩
 ·intro k c hx;have hk:=(AL.1 hx).1;have h9:=Cq hx;simp only[Ms];rw[it_d,at_e rfl hx];simp only[Ac];obtain⟨i,hi,ei,ia⟩:=Ys (by omega) ha ((dW c.t.From).2 (.inr (.inr ⟨c,h9,.inl rfl⟩)));obtain⟨j,hj,ej,pL⟩:=Ys (by omega) ha ((dW c.t.To).2 (.inr (.inr ⟨c,h9,.inr rfl⟩)));rw[ei,ej];simp only[Ac]
  have jz:c.t.From<c.t.To:=by
   rw[<-aS]at h9;obtain⟨r,_,cu⟩:=List.mem_filterMap.1 h9;unfold clp at cu;split at cu
   ·rename_i h';cases cu;exact h'.2.2
   ·cases cu
  have dC:i<j:=by
   rcases BL i j with h|h
   ·exact h
   ·by_cases e':i=j;·subst e';omega
    ·have:=DB ha hj hi (by omega);omega
  have dY:cs.take (k+1)=cs.take k++[c]:=KX hx
  obtain⟨q,eq,hq⟩:=QC (body:=Qt ((j:Int),true) c) (fun n:Nat=>(((i+n:Nat):Int),(at'.mapIdx fun p y=>if i<=p/\p<i+n then c.stage else ctg (cs.take k) y))) (fun n=>i+n<=j) (fun n=>j-i-n) (fun o=>o=at'.map (ctg (cs.take (k+1)))) (by
   intro n hn;simp only[Qt];have ki:(at'.mapIdx fun p y=>if i<=p/\p<i+n then c.stage else ctg (cs.take k) y).length=at'.length:=List.length_mapIdx;by_cases h:i+n<j
   ·left;rw[it_d,at_e rfl (AD (by omega))];simp only[Ac];rw[AB];refine⟨n+1,?_,by omega,by omega⟩;congr 2;refine Prod.ext (by simp only;omega) ?_;simp only;refine J1 fun p=>?_;rw[CN,Jw];by_cases hp:i+n=p
    ·subst hp;rw[An rfl,ifP,Te,AD (by omega),Dp,ifP]
    ·rw[Aj hp,Te,Te];congr 1;funext y;by_cases h2:i<=p/\p<i+n
     ·rw[An h2,ifP]
     ·rw[Aj h2,ifN]
   ·right;rw[it_n];refine⟨_,rfl,?_⟩;obtain rfl:n=j-i:=by omega
    refine J1 fun p=>?_;rw[Te,FM];cases br:at'[p]? with
    |none=>rfl
    |some y =>
     obtain⟨cf,rfl⟩:=AL.1 br;simp only[Dp];rw[dY,NN,<-ia,<-pL];congr 1
     have b1:i<=p↔at'[i]<=at'[p]:=by
      constructor
      ·intro h;by_cases e':i=p
       ·subst e';exact Jv _
       ·have:=DB ha hi cf (by omega);omega
      ·intro h;rcases BL p i with h'|h'
       ·have:=DB ha cf hi h';omega
       ·exact h'
     have b2:p<i+(j-i)↔at'[p]<at'[j]:=by
      constructor
      ·intro h;exact DB ha cf hj (by omega)
      ·intro h;rcases BL p j with h'|h'
       ·omega
       ·by_cases e':p=j;·subst e';omega
        ·have:=DB ha hj cf (by omega);omega
     simp only[b1,b2]) (s:=((i:Int),at'.map (ctg (cs.take k)))) 0 (by
    refine Prod.ext (by simp) ?_;simp only;refine J1 fun p=>?_;rw[Te,FM];congr 1;funext y;rw[ifN]) (by omega) (by omega)
  rw[eq,hq];simp only[Ac];rw[AB];simp
 ·simp only[Ms];rw[it_n,List.take_length]
 ·simp only[List.take_zero];refine Prod.ext (by simp) ?_;simp only;rw[show at'.map (ctg [])=at'.map (fun _=>(-1:Int)) from HA fun x _=>rfl];simp[List.map_const']
theorem La{vs:List Ai}{known g:Int}{t:At}{l:List Ae}(hs:VsSz vs)(hc:vchE vs=0)(hr:∀r,r∈l->RR r)(hl:l.length<=5000)(hk:0<=known/\known<=14609)(ht:0<=t.From/\t.From<=t.To/\t.To<=1402560) : ∃c,Ev l vs g t known=some c/\∀st:List Az->Option Bool,(∀ys,ys.length<=2*l.length+2->(∀p,p∈ys->PcOk p)->st ys=some false) -> ∃P,D1 c.1 c.2 st=some P/\Cd (stg vs known g l) t.To none t.From (P.map tri)/\P.length<=2*l.length+2/\∀p,p∈P->PcOk p:=by
 obtain⟨at',e,ha,hm,aD⟩:=jz0n (g:=g) hs hc hr hl hk ht;refine⟨_,e,fun st aH=>?_⟩
 have fK:∀x,x∈at'->t.From<=x/\x<=t.To:=fun x hx=>by
  rcases(hm x).1 hx with h|h|⟨c,h9,h⟩
  ·omega
  ·omega
  ·obtain⟨r,_,cu⟩:=List.mem_filterMap.1 h9;unfold clp at cu;split at cu
   ·rename_i h';cases cu;simp only at h;omega
   ·cases cu
 have hF:=(hm t.From).2 (.inl rfl);have hT:=(hm t.To).2 (.inr (.inl rfl));have bJ:=List.length_pos_of_mem hF
 have e0:at'[0]=t.From:=by
  obtain⟨i,hi,ia⟩:=Dh hF;have:=fK _ (BI bJ);by_cases h:i=0
  ·subst h;exact ia
  ·have:=DB ha bJ hi (by omega);omega
 have e1:at'[at'.length-1]=t.To:=by
  obtain⟨i,hi,ia⟩:=Dh hT;have:=fK _ (BI (show at'.length-1<at'.length by omega));by_cases h:i=at'.length-1
  ·subst h;exact ia
  ·have:=DB ha hi (show at'.length-1<at'.length by omega) (by omega);omega
 obtain⟨P,p1,p2,p3,p4⟩:=jz0m (at':=at') (c1:=at'.map (ctg (l.filterMap (clp vs known g t)))) (F:=stg vs known g l) (st:=st) bJ (by omega) ha (by simp) (fun x hx=>by have:=fK x hx;omega) (fun i h x x1 x2=>by rw[FM,AD (by omega),Dp];have r1:=fK _ (BI (show i<at'.length by omega));have r2:=fK _ (BI h);rw[<-jz0p ha (fun x hx=>(hm x).2 hx) h x1 x2 _ (fun c hc=>hc),jz06 (by omega)]) (fun ys h1 h2=>aH ys (by omega) h2);rw[e0,e1]at p2;exact⟨P,p1,p2,by omega,p4⟩
def Bb(p:Int×Int×Int):AI:=if 0<=p.2.2 then⟨p.1,p.2.1,[⟨p.2.2,p.2.1-p.1⟩],0,0⟩ else⟨p.1,p.2.1,[],0,1000⟩
def Rng(g:Int)(t:At)(known:Int):Prop:=(0<=g/\g<=39)/\(0<=t.From/\t.From<=t.To/\t.To<=1402560)/\0<=known/\known<=14609
instance (g:Int)(t:At)(known:Int):Decidable (Rng g t known):=by unfold Rng;infer_instance
def SerR(l:List Ae)(vs:List Ai)(g:Int)(t:At)(known:Int)(y:List AI×Int):Prop := (rchE l≠0/\y=([],rchE l))\/(rchE l=0/\vchE vs≠0/\y=([],vchE vs))\/(rchE l=0/\vchE vs=0/\¬Rng g t known/\y=([],3)) \/ (rchE l=0/\vchE vs=0/\Rng g t known/\∃P,Cd (stg vs known g l) t.To none t.From P/\P.length<=2*l.length+2/\y=if 2000<P.length then([],2) else(P.map Bb,0))
theorem SerR.uniq{l:List Ae}{vs:List Ai}{g:Int}{t:At}{known:Int}{y z:List AI×Int}(h:SerR l vs g t known y)(k:SerR l vs g t known z):y=z:=by
 rcases h with ⟨a,e⟩|⟨a,b,e⟩|⟨a,b,c,e⟩|⟨a,b,c,P,d,_,e⟩<;>rcases k with ⟨a',e'⟩|⟨a',b',e'⟩|⟨a',b',c',e'⟩|⟨a',b',c',P',d',_,e'⟩ <;>
  first|exact absurd a a'|exact absurd a' a|exact absurd b b'|exact absurd b' b|exact absurd c c'|exact absurd c' c|(rw[e,e'];done)|skip
 rw[e,e',d.uniq d']
theorem SL(x y:Int):Iq [x,y]=some (if x=0 then y else x):=by
 unfold Iq;rw[Eb (l:=[x,y]) (fun _ z=>if z=0 then none else some z) (by simp) ?_ ?_]
 ·by_cases hx:x=0
  ·subst hx;by_cases hy:y=0
   ·subst hy;rfl
   ·simp[scan,hy,sOut,Ac]
  ·simp[scan,hx,sOut,Ac]
 ·intro k z hz;have hk:=(AL.1 hz).1;simp only[P0];rw[it_d,at_e rfl hz];simp only[Ac];by_cases h:z=0
  ·rw[AK h,AB (by simp at hk;omega),An h]
  ·rw[AY h,Aj h]
 ·simp only[P0];rw[it_n]
theorem Yu(ys:List Az)(h:ys.length<=20000)(hp:∀p,p∈ys->PcOk p):C0 Hh ys []=some (.inl ((ys.map tri).map Bb)):=by
 have gen:∀(ys:List Az) (out:List AI),out.length+ys.length<=20000->(∀p,p∈ys->PcOk p)->C0 Hh ys out=some (.inl (out++(ys.map tri).map Bb)):=by
  intro ys;induction ys with
  |nil=>intro out _ _;simp[C0]
  |cons p ys ih =>
   intro out h hp;simp only[Ek]at h;have br:=hp p (BG ..);unfold PcOk at br
   have e:Hh p out=some (.inl (out++[Bb (tri p)])):=by
    simp only[Hh];unfold Bb tri;by_cases hs:0<=p.stage
    ·rw[it_d hs,AB,ck_d (by simp;omega),An hs]
    ·rw[it_n hs,ck_d (by simp;omega),Aj hs]
   unfold C0;rw[e];simp only;rw[ih _ (by simp;omega) (fun q hq=>hp q (Cv _ hq))];simp
 have:=gen ys [] (by simpa using h) hp
 rwa [Lt]at this
theorem jz0v{l:List Ae}{vs:List Ai}{g:Int}{t:At}{known:Int}(hs:VsSz vs):∃y,CJ l vs g t known=some y/\SerR l vs g t known y:=by
 unfold CJ;rw[FJ,E7 hs];simp only[Ac];rw[SL];simp only[Ac];by_cases h1:rchE l=0;rotate_left
 ·rw[Aj h1,AY h1];exact⟨_,rfl,.inl ⟨h1,rfl⟩⟩
 rw[An h1];by_cases h2:vchE vs=0;rotate_left
 ·rw[AY h2];exact⟨_,rfl,.inr (.inl ⟨h1,h2,rfl⟩)⟩
 rw[AK h2];by_cases h3:(0<=g/\g<=39)/\0<=t.From/\t.From<=t.To/\t.To<=1402560;rotate_left
 ·have e:(bif (bif (bif (bif (decide (g<0)) then true else(decide (40<=g))) then true else(decide (t.From<0))) then true else(decide (t.To<t.From))) then true else(decide (1402560<t.To)))=true:=by
   simp only[Ld,FL,BA];omega
  rw[e];simp only[Dn,AJ,Ac,CC];rw[C6];exact⟨_,rfl,.inr (.inr (.inl ⟨h1,h2,fun h=>h3 ⟨h.1,h.2.1⟩,rfl⟩))⟩
 have e:(bif (bif (bif (bif (decide (g<0)) then true else(decide (40<=g))) then true else(decide (t.From<0))) then true else(decide (t.To<t.From))) then true else(decide (1402560<t.To)))=false:=by simp only[Ld,Ta,NZ];omega
 rw[e];simp only[DF,AN,Cf,Ge,Ac];by_cases h4:0<=known/\known<=14609;rotate_left
 ·rw[it_t (by simp only[G8,FK,Bool.and_eq_false_iff,NZ];omega)];exact⟨_,rfl,.inr (.inr (.inl ⟨h1,h2,fun h=>h4 h.2.2,rfl⟩))⟩
 rw[it_f (by simp only[G8,Bool.not_eq_false',AF,BA];omega)];obtain⟨hl,hb⟩:=Fj.1 h1;obtain⟨c,e1,hc⟩:=La (g:=g) hs h2 hb.right (by omega) h4 h3.2;rw[e1];simp only[Ac];obtain⟨P,p1,p2,p3,p4⟩:=hc (fun l=>Gg Hh l []) fun ys h1 h2=>by unfold Gg;rw[Yu ys (by omega) h2]
 rw[p1];simp only[Ac];rw[Yu P (by omega) p4];simp only[Ac,FN];refine⟨if 2000<(P.map tri).length then([],2) else((P.map tri).map Bb,0),?_,.inr (.inr (.inr ⟨h1,h2,⟨h3.1,h3.2,h4⟩,P.map tri,p2,by rw[FN];exact p3,rfl⟩))⟩;rw[FN];by_cases h:2000<P.length
 ·rw[it_d,An h]
 ·rw[it_n,Aj h]
theorem NO{vs:List Ai}{known g x:Int}:∀{l:List Ae},(∀r,r∈l->RR r)->-1<=stg vs known g l x:=by
 intro l;induction l using KZ with
 |h0=>intro _;exact Jv _
 |h1 l r ih =>
  intro hr;rw[NM];split
  ·have:=(hr r (by simp)).2.2.2.2.2.1.1;omega
  ·exact ih fun q hq=>hr q (BJ.2 (.inl hq))
end Go.Am

namespace Go.Am
def tks(L:List (Int×Int×Bool)):List At:=L.filterMap fun p=>if p.2.2 then some ⟨p.1,p.2.1⟩ else none
theorem Js(L M:List (Int×Int×Bool)):tks (L++M)=tks L++tks M:=List.filterMap_append
theorem NR(L:List (Int×Int×Bool)):(tks L).length<=L.length:=List.length_filterMap_le _ _
def outJ(out:List At)(a b:Int):List At:=match out.getLast? with
 |some q=>if q.To=a then out.dropLast++[⟨q.From,b⟩] else out++[⟨a,b⟩]
 |none=>out++[⟨a,b⟩]
theorem Cd.end'{U:Type}{f:Int->U}{b:Int}:∀{l:List (Int×Int×U)} {v:Option U} {a:Int} {q:Int×Int×U},Cd f b v a (l++[q])->q.2.1=b
 |[],v,a,q,h=>h.2.2.2.2
 |p :: l,v,a,q,h=>h.2.2.2.2.end'
theorem Cd.asc2{U:Type}{f:Int->U}{b:Int}:∀{l:List (Int×Int×U)} {v:Option U} {a:Int} {q:Int×Int×U},Cd f b v a (l++[q])->∀p,p∈l->p.2.1<=q.1
 |[],v,a,q,h,p,hp=>by cases hp
 |r :: l,v,a,q,h,p,hp=>by
  obtain⟨k1,k2,k3,k4,k5⟩:=h;rcases AM.1 hp with e|e
  ·subst e;exact(k5.mem q (by simp)).2.1
  ·exact k5.asc2 p e
theorem jz3d{G:Int->Bool}{a b c:Int}{L:List (Int×Int×Bool)}(h:Cd G b none a L)(hc:b<c)(s:Bool):tks (jn L (b,c,s))=if s then outJ (tks L) b c else tks L:=by
 unfold jn outJ;cases e:L.getLast? with
 |none =>obtain rfl:=List.getLast?_eq_none_iff.1 e;cases s<;>simp[tks]
 |some q =>
  obtain⟨M,rfl⟩:=List.getLast?_eq_some_iff.1 e;have hq:=h.end';obtain⟨q1,q2,q3⟩:=q;simp only at hq;subst hq;simp only;cases q3
  ·have hM:tks (M++[(q1,q2,false)])=tks M:=by rw[Js];simp[tks]
   cases s
   ·rw[An rfl,List.dropLast_concat,Js];simp[tks]
   ·rw[Aj (by simp),Js,hM];simp only[Ci];have:tks [(q2,c,true)]=[⟨q2,c⟩]:=rfl;rw[this];cases hg:(tks M).getLast? with
    |none=>rfl
    |some r =>
     have hr:=List.mem_of_getLast? hg;obtain⟨p,hp,c6⟩:=List.mem_filterMap.1 hr;split at c6
     ·cases c6;have h1:=h.asc2 p hp;have h2:=(h.mem (q1,q2,false) (by simp)).1;simp only at h1 h2 |-;rw[ifN]
     ·cases c6
  ·have hM:tks (M++[(q1,q2,true)])=tks M++[⟨q1,q2⟩]:=by rw[Js];simp[tks]
   cases s
   ·rw[Aj (by simp),Js];simp[tks]
   ·rw[An rfl,List.dropLast_concat,Js,hM];simp only[Ci,List.getLast?_append,List.getLast?_singleton,Option.some_or];rw[List.dropLast_concat];rfl
theorem Cd.next{U:Type}{f:Int->U}{b:Int}:∀{l:List (Int×Int×U)} {v:Option U} {a:Int},Cd f b v a l->∀i,(h:i<l.length)->(l[i].2.1<b->∃h2:i+1<l.length,l[i+1].1=l[i].2.1)/\(i+1<l.length->l[i].2.1<b)
 |p :: l,v,a,h,i,hi=>by
  obtain⟨k1,k2,k3,k4,k5⟩:=h;cases i with
  |zero =>
   simp only[List.getElem_cons_zero];cases l with
   |nil =>have k5:_=_:=k5;exact⟨fun h=>by omega,fun h=>by simp at h⟩
   |cons q l =>obtain⟨m1,m2,_,_,m5⟩:=k5;refine⟨fun _=>⟨by simp,m1⟩,fun _=>?_⟩;have:=m5.le;omega
  |succ i =>simp only[Ek]at hi |-;have:=k5.next i (by omega);simp only[List.getElem_cons_succ];exact⟨fun h=>by obtain⟨h2,e⟩:=this.1 h;exact⟨by omega,e⟩,fun h=>this.2 (by omega)⟩
theorem Cd.first{U:Type}{f:Int->U}{b:Int}{l:List (Int×Int×U)}{v:Option U}{a:Int}(h:Cd f b v a l)(eC:a<b):∃hp:0<l.length,l[0].1=a:=by
 cases l with
 |nil=>have h:a=b:=h;omega
 |cons p l=>exact⟨by simp,h.1⟩
theorem jz3g{out:List At}{a b:Int}(hn:out.length<=100000):(ck (!(decide (0<(List.length out:Int)))||Ay .i64 ((List.length out:Int)-1)) <|
     bd (gd (decide (0<(List.length out:Int))) (at? out ((List.length out:Int)-1))) fun x7 =>
     ite' (bif (decide (0<(List.length out:Int))) then(decide (x7.To=a)) else false) (
      ck (Ay .i64 ((List.length out:Int)-1)) <|
      bd (at? out ((List.length out:Int)-1)) fun x8 =>
      some (List.set out (Int.toNat ((List.length out:Int)-1)) (At.mk x8.From b))
      ) (
      ck (decide (List.length (out++[(At.mk a b)])*16<=140737488355328)) <|
      some (out++[(At.mk a b)])
      ))=some (outJ out a b):=by
 unfold outJ;cases h:out.getLast? with
 |none =>obtain rfl:=List.getLast?_eq_none_iff.1 h;rw[ck_t (by simp)];simp only[List.length_nil];rw[show decide ((0:Int)<((0:Nat):Int))=false by simp];simp only[AJ,Ac,Cf];rw[AV,ck_d (by simp)]
 |some q =>
  obtain⟨M,rfl⟩:=List.getLast?_eq_some_iff.1 h;have aD:(M++[q]).length=M.length+1:=by simp
  have bQ:at? (M++[q]) (((M++[q]).length:Int)-1)=some q:=at_e (n:=M.length) (by omega) (by simp);rw[ck_t (by simp[Ay];omega),show decide ((0:Int)<((M++[q]).length:Int))=true from B9 (by omega)];simp only[AN,CC];rw[bQ];simp only[Ac];by_cases e:q.To=a
  ·rw[it_d e,An e,AB,List.dropLast_concat,show Int.toNat (((M++[q]).length:Int)-1)=M.length by omega,List.set_append_right _ _ (AC _)];simp
  ·rw[it_n e,Aj e,ck_d (by simp;omega)]
theorem Yv{P:List Az}{q:(List Az->Option Bool)->Option (List Az)}(h:q (fun l=>ck (decide (List.length l<=1000000000)) (some false))=some P):LU q=some P:=h
theorem jz25{A B:Int->Int}{a b:Int}(eC:a<b)(hb:0<=a/\b<=1402560){P Q:List Az}(hP:Cd A b none a (P.map tri))(hQ:Cd B b none a (Q.map tri))(pM:P.length<=20000)(nI:Q.length<=20000) : ∃L,lp (Ma P Q) (0,0,[])=some (tks L)/\Cd (fun x=>decide (A x≠B x)) b none a L/\L.length<=40000:=by
 have fP:=hP.first eC;have fQ:=hQ.first eC
 obtain⟨o,e,L,rfl,h1,h2⟩:=CF (s:=((0:Int),(0:Int),([]:List At))) (body:=Ma P Q) (fun s=>∃i j:Nat,∃L:List (Int×Int×Bool),∃c:Int,s=((i:Int),(j:Int),tks L)/\i<=P.length/\j<=Q.length/\L.length<=i+j/\Cd (fun x=>decide (A x≠B x)) c none a L /\ ((c=b/\i=P.length/\j=Q.length)\/(c<b/\∃hi:i<P.length,∃hj:j<Q.length,c=max P[i].t.From Q[j].t.From/\c<P[i].t.To/\c<Q[j].t.To))) (fun s=>(P.length-s.1).toNat+(Q.length-s.2.1).toNat) (fun o=>∃L,o=tks L/\Cd (fun x=>decide (A x≠B x)) b none a L/\L.length<=40000) (by
  rintro s ⟨i,j,L,c,rfl,hi,hj,hL,hC,hI⟩;simp only[Ma];rcases hI with ⟨rfl,rfl,rfl⟩|⟨dM,aZ,aY,hc,jg,pN⟩
  ·right;rw[it_f (by simp)];exact⟨_,rfl,L,rfl,hC,by omega⟩
  left;have e1:=AD aZ;have e2:=AD aY;rw[it_t (by simp only[G8,AF,BA];omega),at_e rfl e1,at_e rfl e2];simp only[Ac];have mP:=hP.mem (tri P[i]) (J5 (BI aZ));have mQ:=hQ.mem (tri Q[j]) (J5 (BI aY));have nP:=hP.next i (by simpa using aZ);have nQ:=hQ.next j (by simpa using aY);simp only[List.getElem_map,FN]at nP nQ;have gP:∀h2:i+1<P.length,(tri P[i+1]).1=P[i+1].t.From/\P[i+1].t.From<P[i+1].t.To:=fun h2=>⟨rfl,(hP.mem (tri P[i+1]) (J5 (BI h2))).1⟩;have gQ:∀h2:j+1<Q.length,(tri Q[j+1]).1=Q[j+1].t.From/\Q[j+1].t.From<Q[j+1].t.To:=fun h2=>⟨rfl,(hQ.mem (tri Q[j+1]) (J5 (BI h2))).1⟩;generalize hp:P[i]=p at *;generalize hq:Q[j]=q at *;simp only[tri]at mP mQ nP nQ gP gQ;generalize ka:(∃h2:i+1<P.length,P[i+1].t.From=p.t.To)=NP at nP;generalize kb:(∃h2:j+1<Q.length,Q[j+1].t.From=q.t.To)=NQ at nQ;obtain⟨p1,p2,p3,p4⟩:=mP;obtain⟨q1,q2,q3,q4⟩:=mQ;have mH:c<min p.t.To q.t.To:=by omega
  have hG:∀x,c<=x->x<min p.t.To q.t.To->(decide (A x≠B x))=decide (p.stage≠q.stage):=fun x x1 x2=>by rw[p4 x (by omega) (by omega),q4 x (by omega) (by omega)]
  have hJ:Cd (fun x=>decide (A x≠B x)) (min p.t.To q.t.To) none a (jn L (c,min p.t.To q.t.To,decide (p.stage≠q.stage))):=Cd.jn (p:=(c,min p.t.To q.t.To,decide (p.stage≠q.stage))) hC rfl mH hG
  have qj:(jn L (c,min p.t.To q.t.To,decide (p.stage≠q.stage))).length<=L.length+1:=by
   unfold jn;cases L.getLast? with
   |none=>simp
   |some r =>
    simp only;split
    ·simp only[Ch,List.length_dropLast,Ed];omega
    ·simp
  have dY:=jz3d hC mH (decide (p.stage≠q.stage));have dQ:=NR L
  have hout:(ite' (!decide (p.stage=q.stage)) (
     ck (!(decide (0<(List.length (tks L):Int)))||Ay .i64 ((List.length (tks L):Int)-1)) <|
     bd (gd (decide (0<(List.length (tks L):Int))) (at? (tks L) ((List.length (tks L):Int)-1))) fun x7 =>
     ite' (bif (decide (0<(List.length (tks L):Int))) then(decide (x7.To=(max p.t.From q.t.From))) else false) (
      ck (Ay .i64 ((List.length (tks L):Int)-1)) <|
      bd (at? (tks L) ((List.length (tks L):Int)-1)) fun x8 =>
      some (List.set (tks L) (Int.toNat ((List.length (tks L):Int)-1)) (At.mk x8.From (min p.t.To q.t.To)))
      ) (
      ck (decide (List.length ((tks L)++[(At.mk (max p.t.From q.t.From) (min p.t.To q.t.To))])*16<=140737488355328)) <|
      some ((tks L)++[(At.mk (max p.t.From q.t.From) (min p.t.To q.t.To))])
      )
     ) (some (tks L)))=some (tks (jn L (c,min p.t.To q.t.To,decide (p.stage≠q.stage)))):=by
   by_cases hs:p.stage=q.stage
   ·rw[AK hs,dY];simp[hs]
   ·rw[AY hs,jz3g (by omega),dY,<-hc];simp[hs]
  rw[hout];simp only[Ac]
  have cJ:∀i' j':Nat,(i'=if p.t.To=min p.t.To q.t.To then i+1 else i)->(j'=if q.t.To=min p.t.To q.t.To then j+1 else j) -> (∃i'' j'':Nat,∃L':List (Int×Int×Bool),∃c':Int,(((i':Int),(j':Int),tks (jn L (c,min p.t.To q.t.To,decide (p.stage≠q.stage)))):Int×Int×List At)=((i'':Int),(j'':Int),tks L')/\i''<=P.length/\j''<=Q.length/\L'.length<=i''+j''/\Cd (fun x=>decide (A x≠B x)) c' none a L' /\ ((c'=b/\i''=P.length/\j''=Q.length)\/(c'<b/\∃hi:i''<P.length,∃hj:j''<Q.length,c'=max P[i''].t.From Q[j''].t.From/\c'<P[i''].t.To/\c'<Q[j''].t.To)))/\i+j<i'+j':=by
   intro i' j' gq dV;by_cases c1:p.t.To=min p.t.To q.t.To
   ·rw[An c1]at gq;subst gq;by_cases c2:q.t.To=min p.t.To q.t.To
    ·rw[An c2]at dV;subst dV;refine⟨⟨i+1,j+1,_,_,rfl,by omega,by omega,by omega,hJ,?_⟩,by omega⟩;by_cases jY:min p.t.To q.t.To=b
     ·left;refine⟨jY,?_,?_⟩
      ·rcases BL (i+1) P.length with h|h;·have:=nP.2 h;omega
       ·omega
      ·rcases BL (j+1) Q.length with h|h;·have:=nQ.2 h;omega
       ·omega
     ·right;have d9:min p.t.To q.t.To<b:=(by omega);have f1:min p.t.To q.t.To=max p.t.To q.t.To:=(by omega);have f2:=Int.min_le_left p.t.To q.t.To;have f3:=Int.min_le_right p.t.To q.t.To;have f4:p.t.To<b:=(by omega);have f5:q.t.To<b:=(by omega);obtain⟨u1,u2⟩:=ka▸nP.1 f4;obtain⟨v1,v2⟩:=kb▸nQ.1 f5;have g1:=(gP u1).2;have g2:=(gQ v1).2;rw[u2]at g1;rw[v2]at g2;exact⟨d9,u1,v1,by rw[u2,v2];exact f1,Int.lt_of_le_of_lt f2 g1,Int.lt_of_le_of_lt f3 g2⟩
    ·rw[Aj c2]at dV;subst dV;refine⟨⟨i+1,j',_,_,rfl,by omega,by omega,by omega,hJ,.inr ?_⟩,by omega⟩;have d9:min p.t.To q.t.To<b:=by omega
     have f1:min p.t.To q.t.To=max p.t.To q.t.From:=(by omega);have f2:=Int.min_le_left p.t.To q.t.To;have f3:min p.t.To q.t.To<q.t.To:=(by omega);have f4:p.t.To<b:=(by omega);obtain⟨u1,u2⟩:=ka▸nP.1 f4;have g1:=(gP u1).2;rw[u2]at g1;exact⟨d9,u1,aY,by rw[hq,u2];exact f1,Int.lt_of_le_of_lt f2 g1,by rw[hq];exact f3⟩
   ·rw[Aj c1]at gq;subst gq;have c2:q.t.To=min p.t.To q.t.To:=by omega
    rw[An c2]at dV;subst dV;refine⟨⟨i',j+1,_,_,rfl,by omega,by omega,by omega,hJ,.inr ?_⟩,by omega⟩;have d9:min p.t.To q.t.To<b:=by omega
    have f1:min p.t.To q.t.To=max p.t.From q.t.To:=(by omega);have f2:=Int.min_le_right p.t.To q.t.To;have f3:min p.t.To q.t.To<p.t.To:=(by omega);have f4:q.t.To<b:=(by omega);obtain⟨v1,v2⟩:=kb▸nQ.1 f4;have g2:=(gQ v1).2;rw[v2]at g2;exact⟨d9,aZ,v1,by rw[hp,v2];exact f1,by rw[hp];exact f3,Int.lt_of_le_of_lt f2 g2⟩
  by_cases c1:p.t.To=min p.t.To q.t.To
  ·rw[it_d c1,AB];simp only[Ac];by_cases c2:q.t.To=min p.t.To q.t.To
   ·rw[it_d c2,AB];obtain⟨r1,r2⟩:=cJ (i+1) (j+1) (by rw[An c1]) (by rw[An c2]);exact⟨_,rfl,by simpa using r1,by simp only;omega⟩
   ·rw[it_n c2];obtain⟨r1,r2⟩:=cJ (i+1) j (by rw[An c1]) (by rw[Aj c2]);exact⟨_,rfl,by simpa using r1,by simp only;omega⟩
  ·rw[it_n c1];simp only[Ac];have c2:q.t.To=min p.t.To q.t.To:=by omega
   rw[it_d c2,AB];obtain⟨r1,r2⟩:=cJ i (j+1) (by rw[Aj c1]) (by rw[An c2]);exact⟨_,rfl,by simpa using r1,by simp only;omega⟩) (by
  obtain⟨gm,f1⟩:=fP;obtain⟨gI,f2⟩:=fQ;simp only[FN]at gm gI;simp only[List.getElem_map,tri]at f1 f2;have m1:=(hP.mem (tri P[0]) (J5 (BI gm))).1;have m2:=(hQ.mem (tri Q[0]) (J5 (BI gI))).1;simp only[tri]at m1 m2;exact⟨0,0,[],a,rfl,DC _,DC _,AC _,rfl,.inr ⟨eC,gm,gI,by omega,by omega,by omega⟩⟩) (by simp only;omega)
 exact⟨L,e,h1,h2⟩
theorem Yw{A B:Int->Int}{b:Int}(hb:0<b/\b<=1402560){p q:(List Az->Option Bool)->Option (List Az)}{n:Nat}(hn:n<=20000)(hp:∀st:List Az->Option Bool,(∀ys,ys.length<=n->(∀p,p∈ys->PcOk p)->st ys=some false)->∃P,p st=some P/\Cd A b none 0 (P.map tri)/\P.length<=n/\∀p,p∈P->PcOk p)(hq:∀st:List Az->Option Bool,(∀ys,ys.length<=n->(∀p,p∈ys->PcOk p)->st ys=some false)->∃P,q st=some P/\Cd B b none 0 (P.map tri)/\P.length<=n/\∀p,p∈P->PcOk p) : ∃L,Kg p q=some (tks L)/\Cd (fun x=>decide (A x≠B x)) b none 0 L/\L.length<=40000:=by unfold Kg;have aH:∀ys:List Az,ys.length<=n->(∀p,p∈ys->PcOk p)->(ck (decide (List.length ys<=1000000000)) (some false))=some false:=fun ys h _=>ck_d;obtain⟨P,e1,P1,P2,_⟩:=hp (fun l=>ck (decide (List.length l<=1000000000)) (some false)) aH;obtain⟨Q,e2,Q1,Q2,_⟩:=hq (fun l=>ck (decide (List.length l<=1000000000)) (some false)) aH;rw[Yv e1,Yv e2];simp only[Ac];obtain⟨L,e,h1,h2⟩:=jz25 hb.1 ⟨Jv _,hb.2⟩ P1 Q1 (by omega) (by omega);rw[e];exact⟨L,rfl,h1,h2⟩
theorem keqP(x y:AO):(decide (x.Stage=y.Stage)&&((x.Flow.Neg==y.Flow.Neg)&&(decide (x.Flow.Num=y.Flow.Num)&&(decide (x.Flow.Den=y.Flow.Den)&&true))))=decide (x=y):=by obtain⟨a,b,c,d⟩:=x;obtain⟨e,f,g,h⟩:=y;rw[G9];simp
theorem Yx{a b:List AO}(hl:a.length<=1048576){body:Int->Option (Int⊕(Unit⊕Bool))}(hb:∀k:Int,body k=ite' (decide (k<(List.length a:Int))) (bd (at? a k) fun x1=>bd (at? b k) fun x2=>ite' (!(decide (x1.Stage=x2.Stage)&&((x1.Flow.Neg==x2.Flow.Neg)&&(decide (x1.Flow.Num=x2.Flow.Num)&&(decide (x1.Flow.Den=x2.Flow.Den)&&true))))) (some (.inr (.inr false))) (ck (Ay .i64 (k+1))<|some (.inl (k+1)))) (some (.inr (.inl ())))) : (ite' (!decide ((List.length a:Int)=(List.length b:Int))) (some false) (bd (lp body 0) fun o=>match o with | .inl ()=>some true | .inr o=>some o))=some (decide (a=b)):=by
 by_cases hn:a.length=b.length;rotate_left
 ·rw[AY,Bj fun e=>hn (by rw[e])]
 rw[AK,Eb (l:=a) (fun k x=>if x=b.getD k default then none else some false) (by omega) ?_ ?_]
 ·cases hs:scan (fun k x=>if x=b.getD k default then none else some false) 0 a with
  |none =>
   have:a=b:=by
    refine List.ext_getElem hn fun i h1 h2=>?_;have:=Jm hs (AD h1);split at this
    ·rename_i h;rw[h];simp[List.getD,h2]
    ·cases this
   subst this;simp[sOut,Ac]
  |some o =>
   obtain⟨i,x,hx,hi,_⟩:=H6 0 a o hs;split at hi
   ·cases hi
   ·rename_i h;cases hi;rw[Bj]
    ·simp[sOut,Ac]
    ·rintro rfl;apply h;rw[Ce,List.getD,hx];rfl
 ·intro k x hx;have hk:=(AL.1 hx).1;have bn:b[k]?=some (b.getD k default):=by simp[List.getD,show k<b.length by omega]
  rw[hb,it_d,at_e rfl hx,at_e rfl bn];simp only[Ac];rw[keqP];by_cases h:x=b.getD k default
  ·rw[AK h,AB,An h]
  ·rw[AY h,Aj h]
 ·rw[hb,it_n]
theorem Yy(v w:Ai):(decide (v.Curve.Points=w.Curve.Points)=true/\((((((v.Kind=w.Kind/\v.Gauge=w.Gauge)/\v.Seq=w.Seq)/\v.Known=w.Known)/\v.From=w.From)/\v.To=w.To)/\v.Shift=w.Shift))↔v=w:=by
 obtain⟨a1,a2,a3,a4,a5,a6,a7,⟨a8⟩⟩:=v;obtain⟨b1,b2,b3,b4,b5,b6,b7,⟨b8⟩⟩:=w;simp only[BA,Ai.mk.injEq,AP.mk.injEq];constructor
 ·rintro⟨h8,⟨⟨⟨⟨⟨⟨h1,h2⟩,h3⟩,h4⟩,h5⟩,h6⟩,h7⟩⟩;exact⟨h1,h2,h3,h4,h5,h6,h7,h8⟩
 ·rintro⟨h1,h2,h3,h4,h5,h6,h7,h8⟩;exact⟨h8,⟨⟨⟨⟨⟨⟨h1,h2⟩,h3⟩,h4⟩,h5⟩,h6⟩,h7⟩⟩
theorem jz3k{a b:List AO}(h:a.length<=1048576):PD a b=some (decide (a=b)):=Yx (b:=b) (body:=yzi a b) h (fun k=>rfl)
theorem jz3f{a b:AP}(h:a.Points.length<=1048576):V3 a b=some (decide (a.Points=b.Points)):=Yx (b:=b.Points) (body:=V2 a b) h (fun k=>rfl)
theorem Yz{v w:Ai}(h:v.Curve.Points.length<=1048576):Mi v w=some (decide (v=w)):=by
 unfold Mi PN;rw[jz3k h];simp only[Ac];by_cases hp:v.Curve.Points=w.Curve.Points
 ·rw[AK hp];congr 1;simp only[G8];rw[G9,GD,<-Yy];simp[hp]
 ·rw[AY hp,Bj (fun e=>hp (by rw[e]))]
theorem jz3a{v w:Ai}(h:v.Curve.Points.length<=1048576):PM v w=some (decide (v=w)):=by
 unfold PM;rw[jz3f h];simp only[Ac];congr 1;simp only[G8];rw[G9,GD,<-Yy];simp only[AF,BA];constructor
 ·rintro⟨⟨⟨⟨⟨⟨⟨h8,h1⟩,h2⟩,h3⟩,h4⟩,h5⟩,h6⟩,h7⟩;exact⟨h8,⟨⟨⟨⟨⟨⟨h1,h2⟩,h3⟩,h4⟩,h5⟩,h6⟩,h7⟩⟩
 ·rintro⟨h8,⟨⟨⟨⟨⟨⟨h1,h2⟩,h3⟩,h4⟩,h5⟩,h6⟩,h7⟩⟩;exact⟨⟨⟨⟨⟨⟨⟨h8,h1⟩,h2⟩,h3⟩,h4⟩,h5⟩,h6⟩,h7⟩
theorem Y0{a:Ai}:¬vlt a a:=by unfold vlt;omega
theorem jz11{a b:Ai}(h:vlt a b):¬vlt b a:=by unfold vlt at *;omega
theorem NS(a b:Ai):vlt a b\/vsm a b\/vlt b a:=by unfold vlt vsm;omega
theorem SM{a b:Ai}(h:vlt a b):¬vsm a b:=by unfold vlt at h;unfold vsm;omega
theorem Y1{a b:Ai}(h:vlt a b):¬vsm b a:=by unfold vlt at h;unfold vsm;omega
theorem SN:∀{D E:List Ai},D.Pairwise vlt->E.Pairwise vlt->(∀x,x∈D↔x∈E)->D=E
 |[],[],_,_,_=>rfl
 |[],e :: E,_,_,h=>by have:=(h e).2 (BG ..);cases this
 |d :: D,[],_,_,h=>by have:=(h d).1 (BG ..);cases this
 |d :: D,e :: E,hd,he,h=>by
  obtain⟨d1,d2⟩:=HJ.1 hd;obtain⟨e1,e2⟩:=HJ.1 he
  have mF:d=e:=by
   rcases AM.1 ((h d).1 (BG ..)) with p|p
   ·exact p
   ·rcases AM.1 ((h e).2 (BG ..)) with q|q;·exact q.symm
    ·exact absurd (d1 e q) (jz11 (e1 d p))
  subst mF;rw[SN d2 e2 fun x=>⟨fun hx=>?_,fun hx=>?_⟩]
  ·rcases AM.1 ((h x).1 (Cv _ hx)) with p|p;·subst p;exact absurd (d1 x hx) Y0
   ·exact p
  ·rcases AM.1 ((h x).2 (Cv _ hx)) with p|p;·subst p;exact absurd (e1 x hx) Y0
   ·exact p
theorem jz3i{a b:Ai}:vcmp a b=0↔vsm a b:=by
 unfold vcmp;split
 ·rename_i h;simp[SM h]
 ·split<;>simp[*]
theorem vget{l:List Ai}(h:l.Pairwise vlt){i j:Nat}(hi:i<l.length)(hj:j<l.length)(dC:i<j):vlt l[i] l[j]:=Lg.1 h i j hi hj dC
theorem jz3e{l:List Ai}(hl:l.length<=4000)(ha:l.Pairwise vlt)(r:Ai):∃k:Nat,∃b:Bool,In l r (fun a0 a1=>EF a0 a1)=some ((k:Int),b)/\k<=l.length/\(∀i,(hi:i<l.length)->i<k->vlt l[i] r)/\(∀i,(hi:i<l.length)->k<=i->¬vlt l[i] r)/\(b=true↔∃h:k<l.length,vsm l[k] r):=by
 unfold In
 obtain⟨o,e,k,rfl,hk,h1,h2⟩:=CF (s:=((0:Int),(l.length:Int))) (body:=P3 (fun a0 a1=>EF a0 a1) r l) (fun s=>∃i j:Nat,s=((i:Int),(j:Int))/\i<=j/\j<=l.length/\(∀m,(hm:m<l.length)->m<i->vlt l[m] r)/\(∀m,(hm:m<l.length)->j<=m->¬vlt l[m] r)) (fun s=>(s.2-s.1).toNat) (fun o=>∃k:Nat,o=(k:Int)/\k<=l.length/\(∀m,(hm:m<l.length)->m<k->vlt l[m] r)/\(∀m,(hm:m<l.length)->k<=m->¬vlt l[m] r)) (by
  rintro s ⟨i,j,rfl,dC,hj,h1,h2⟩;simp only[P3];by_cases h:i<j;rotate_left
  ·right;rw[it_n];obtain rfl:i=j:=by omega
   exact⟨_,rfl,i,rfl,hj,h1,h2⟩
  left;have hm:Int.fdiv (((i:Int)+j)%18446744073709551616) 2=(((i+j) / 2:Nat):Int):=by rw[Int.emod_eq_of_lt (by omega) (by omega),Le _ (by decide)];omega
  rw[it_d,AB,hm,AB];have hlt:(i+j) / 2<l.length:=by omega
  rw[at_e rfl (AD hlt)];simp only[Ac];rw[SJ];simp only[Ac];by_cases hc:vlt l[(i+j) / 2] r
  ·rw[it_d (NK.2 hc),AB];refine⟨_,rfl,⟨(i+j) / 2+1,j,by simp,by omega,hj,fun m hm fG=>?_,h2⟩,by simp only;omega⟩;by_cases e:m=(i+j) / 2
   ·subst e;exact hc
   ·exact Jq (vget ha hm hlt (by omega)) hc
  ·rw[it_n (mt NK.1 hc)];refine⟨_,rfl,⟨i,(i+j) / 2,rfl,by omega,by omega,h1,fun m hm fG hr=>?_⟩,by simp only;omega⟩;by_cases e:m=(i+j) / 2
   ·subst e;exact hc hr
   ·exact hc (Jq (vget ha hlt hm (by omega)) hr)) ⟨0,l.length,by simp,DC _,AC _,fun m hm h=>by omega,fun m hm h=>by omega⟩ (by simp;omega)
 rw[e];simp only[Ac];by_cases eu:k<l.length
 ·rw[show decide ((k:Int)<(l.length:Int))=true by simp;omega];simp only[AN,CC];rw[at_e rfl (AD eu)];simp only[Ac];rw[SJ];simp only[Ac];exact⟨k,_,rfl,hk,h1,h2,by simp[eu,jz3i]⟩
 ·rw[show decide ((k:Int)<(l.length:Int))=false by simp;omega];simp only[AJ,Cf,Ac];exact⟨k,_,rfl,hk,h1,h2,by simp[eu]⟩
structure Lb(l m:List Ai)(v:Ai):Prop where
 asc:m.Pairwise vlt
 mem:∀y,y∈m↔y∈l\/y=v
 len:m.length=l.length+1
def VAdd(F:Option (List Ai×Int))(l:List Ai)(v:Ai):Prop := (vchE l≠0/\F=some ([],vchE l))\/(vchE l=0/\¬VRi v/\F=some ([],1))\/(vchE l=0/\VRi v /\
 ((∃x,x∈l/\vsm x v/\((x=v/\F=some ([],9))\/(x≠v/\F=some ([],24))))
  \/ ((∀x,x∈l->¬vsm x v)/\((400<=l.length/\F=some ([],2))\/(l.length<400/\∃m,F=some (m,0)/\Lb l m v)))))
theorem vone{l:List Ai}(h:l.Pairwise vlt){a b:Ai}(ha:a∈l)(hb:b∈l)(e:vsm a b):a=b:=by
 induction l with
 |nil=>cases ha
 |cons x l ih =>
  obtain⟨h1,h2⟩:=HJ.1 h;rcases AM.1 ha with p|p<;>rcases AM.1 hb with q|q
  ·rw[p,q]
  ·subst p;exact absurd e (SM (h1 b q))
  ·subst q;exact absurd e (Y1 (h1 a p))
  ·exact ih h2 p q
theorem vsm.symm{a b:Ai}(h:vsm a b):vsm b a:=⟨h.1.symm,h.2.symm⟩
theorem vsm.trans{a b c:Ai}(h:vsm a b)(k:vsm b c):vsm a c:=⟨h.1.trans k.1,h.2.trans k.2⟩
theorem VAdd.uniq{l:List Ai}{v:Ai}{F G:Option (List Ai×Int)}(hF:VAdd F l v)(hG:VAdd G l v):F=G:=by
 rcases hF with ⟨a,e⟩|⟨a,b,e⟩|⟨a,b,c⟩<;>rcases hG with ⟨a',e'⟩|⟨a',b',e'⟩|⟨a',b',c'⟩ <;>
  first|exact absurd a a'|exact absurd a' a|exact absurd b b'|exact absurd b' b|(rw[e,e'];done)|skip
 have ha:=(H8.1 a).2.asc;rcases c with ⟨x,hx,hs,d⟩|⟨hn,d⟩<;>rcases c' with ⟨y,hy,ht,d'⟩|⟨hm,d'⟩
 ·obtain rfl:=vone ha hx hy (hs.trans ht.symm);rcases d with ⟨p,e⟩|⟨p,e⟩<;>rcases d' with ⟨p',e'⟩|⟨p',e'⟩<;>first|exact absurd p p'|exact absurd p' p|rw[e,e']
 ·exact absurd hs (hm x hx)
 ·exact absurd ht (hn y hy)
 ·rcases d with ⟨p,e⟩|⟨p,m,e,hm⟩<;>rcases d' with ⟨p',e'⟩|⟨p',m',e',bv⟩;·rw[e,e']
  ·omega
  ·omega
  ·rw[e,e',SN hm.asc bv.asc fun z=>(hm.mem z).trans (bv.mem z).symm]
theorem jz3c{l:List Ai}(h:l.Pairwise vlt){k:Nat}{r:Ai}(bz:∀i,(hi:i<l.length)->i<k->vlt l[i] r)(cn:∀i,(hi:i<l.length)->k<=i->vlt r l[i]):(insL l k r).Pairwise vlt:=by
 unfold insL;rw[List.pairwise_append,List.pairwise_append];refine⟨⟨List.Pairwise.sublist (List.take_sublist ..) h,Lh _ _,fun a ha b hb=>?_⟩,List.Pairwise.sublist (List.drop_sublist ..) h,fun a ha b hb=>?_⟩
 ·obtain⟨i,hi,rfl⟩:=Dh ha;rw[BK.1 hb,List.getElem_take];simp only[Do]at hi;exact bz i (by omega) (by omega)
 ·obtain⟨j,hj,rfl⟩:=Dh hb;simp only[CQ]at hj;rw[List.getElem_drop];have h2:=cn (k+j) (by omega) (by omega);rcases BJ.1 ha with ha|ha
  ·obtain⟨i,hi,rfl⟩:=Dh ha;rw[List.getElem_take];simp only[Do]at hi;exact Jq (bz i (by omega) (by omega)) h2
  ·rw[BK.1 ha];exact h2
theorem jz3j{l:List Ai}{v:Ai}(hs:VsSz l)(hv:CSz v.Curve):VAdd (CY l v) l v:=by
 by_cases h:vchE l=0;rotate_left
 ·left;refine⟨h,?_⟩;have e:CZ l v=some ([],vchE l):=by unfold CZ;rw[E7 hs];simp only[Ac];rw[AY h]
  unfold CY;rw[e]
 right;by_cases hr:VRi v;rotate_left
 ·left;refine⟨h,hr,?_⟩;have e:CZ l v=some ([],1):=by unfold CZ;rw[E7 hs];simp only[Ac];rw[AK h,H7 hv];simp only[Ac];rw[AY hr]
  unfold CY;rw[e]
 right;refine⟨h,hr,?_⟩;obtain⟨hl,hb⟩:=H8.1 h;obtain⟨k,b,ef,hk,h1,h2,h3⟩:=jz3e (by omega) hb.asc v;cases b
 ·have hn:∀x,x∈l->¬vsm x v:=fun x hx hs=>by
   obtain⟨i,hi,rfl⟩:=Dh hx;by_cases dO:i<k
   ·exact SM (h1 i hi dO) hs
   ·have eE:k<l.length:=(by omega);have h4:=h2 k eE (AC _);have h5:¬vsm l[k] v:=fun e=>by have:=h3.2 ⟨eE,e⟩;cases this
    rcases NS l[k] v with h|h|h
    ·exact h4 h
    ·exact h5 h
    ·by_cases e:i=k;·subst e;exact h5 hs
     ·exact Y1 (Jq h (vget hb.asc eE hi (by omega))) hs
  refine .inr ⟨hn,?_⟩;by_cases h4:400<=l.length
  ·refine .inl ⟨h4,?_⟩;have e:CZ l v=some ([],2):=by unfold CZ;rw[E7 hs];simp only[Ac];rw[AK h,H7 hv];simp only[Ac];rw[AK hr,ef];simp only[Ac];rw[AV,it_d]
   unfold CY;rw[e]
  ·refine .inr ⟨by omega,insL l k v,?_,?_,fun y=>Yf,Yg⟩
   ·have e:CZ l v=none:=by
     unfold CZ;rw[E7 hs];simp only[Ac];rw[AK h,H7 hv];simp only[Ac];rw[AK hr,ef];simp only[Ac];rw[AV,it_n]
    unfold CY;rw[e];unfold Ps;rw[E7 hs,H7 hv,ef];simp only[Ac];rw[ck_t (by simp[h,hr];omega)];rfl
   ·refine jz3c hb.asc h1 fun i hi jX=>?_;rcases NS l[i] v with h|h|h
    ·exact absurd h (h2 i hi jX)
    ·exact absurd h (hn _ (BI _))
    ·exact h
 ·obtain⟨eE,kD⟩:=h3.1 rfl;refine .inl ⟨l[k],BI _,kD,?_⟩;have ea:at? l (k:Int)=some l[k]:=at_e rfl (AD eE);have hc:=(hs l[k] (BI _)).len;by_cases he:l[k]=v
  ·refine .inl ⟨he,?_⟩;have e:CZ l v=some ([],9):=by unfold CZ;rw[E7 hs];simp only[Ac];rw[AK h,H7 hv];simp only[Ac];rw[AK hr,ef];simp only[Ac];rw[C6,ea];simp only[Ac];rw[Yz hc];simp only[Ac];rw[it_d he]
   unfold CY;rw[e]
  ·refine .inr ⟨he,?_⟩;have e:CZ l v=some ([],24):=by unfold CZ;rw[E7 hs];simp only[Ac];rw[AK h,H7 hv];simp only[Ac];rw[AK hr,ef];simp only[Ac];rw[C6,ea];simp only[Ac];rw[Yz hc];simp only[Ac];rw[it_n he]
   unfold CY;rw[e]
theorem jz29{l:List Ai}{v:Ai}(hl:l.length<=100000)(ha:l.Pairwise vlt)(hn:∀x,x∈l->¬vsm x v):∃m,P8 l v=some m/\Lb l m v:=by
 unfold P8
 obtain⟨o,e2,d,out,rfl,h1,h2,h3,h5⟩:=CF (s:=(false,(0:Int),([]:List Ai))) (body:=P7 l v) (fun s=>∃k:Nat,∃d out,s=(d,(k:Int),out)/\k<=l.length/\out.Pairwise vlt/\(∀x,x∈out↔(x=v/\d=true)\/x∈l.take k)/\(d=false->∀x,x∈l.take k->vlt x v)/\(d=true->∀x,x∈l.drop k->vlt v x)/\out.length=k+d.toNat) (fun s=>(l.length-s.2.1).toNat) (fun o=>∃d out,o=(d,out)/\out.Pairwise vlt/\(∀x,x∈out↔(x=v/\d=true)\/x∈l)/\(d=false->∀x,x∈l->vlt x v)/\out.length=l.length+d.toNat) (by
   rintro s ⟨k,d,out,rfl,hk,h1,h2,h3,h4,h5⟩;simp only[P7];by_cases hlt:k<l.length;rotate_left
   ·right;rw[it_n];rw[J6 (by omega)]at h2 h3;exact⟨_,rfl,d,out,rfl,h1,h2,h3,by omega⟩
   left;have hx:=AD hlt;have dY:l.take (k+1)=l.take k++[l[k]]:=KX hx;have ez:l.drop k=l[k] :: l.drop (k+1):=SQ hlt;have bz:∀x,x∈l.take k->vlt x l[k]:=fun x hx=>by obtain⟨i,hi,rfl⟩:=Dh hx;rw[Do]at hi;rw[List.getElem_take];exact vget ha (by omega) hlt (by omega)
   have cn:∀x,x∈l.drop (k+1)->vlt l[k] x:=fun x hx=>by obtain⟨i,hi,rfl⟩:=Dh hx;rw[CQ]at hi;rw[List.getElem_drop];exact vget ha hlt (by omega) (by omega)
   have gu:=hn l[k] (BI _);generalize l[k]=y at *;have bQ:at? l (k:Int)=some y:=at_e rfl hx;rw[it_d,bQ];simp only[Ac];rw[SK,SK];simp only[Ac]
   have ey:(bif decide (vlt v y) then true else decide (vlt y v))=true:=by
    rcases NS y v with h|h|h
    ·simp[h]
    ·exact absurd h gu
    ·simp[h]
   have step:∀d' out',out'.Pairwise vlt->(∀x,x∈out'↔(x=v/\d'=true)\/x∈l.take k)->(d'=false->vlt y v/\∀x,x∈l.take k->vlt x v)->(d'=true->vlt v y)->out'.length=k+d'.toNat -> ∃k':Nat,∃d out,((d',((k:Int)+1),(out'++[y])):Bool×Int×List Ai)=(d,(k':Int),out)/\k'<=l.length/\out.Pairwise vlt/\(∀x,x∈out↔(x=v/\d=true)\/x∈l.take k')/\(d=false->∀x,x∈l.take k'->vlt x v)/\(d=true->∀x,x∈l.drop k'->vlt v x)/\out.length=k'+d.toNat:=by
    intro d' out' g1 g2 g3 g4 g5;refine⟨k+1,d',_,rfl,hlt,?_,fun x=>?_,fun e x hx=>?_,fun e x hx=>Jq (g4 e) (cn x hx),by simp;omega⟩
    ·refine List.pairwise_append.2 ⟨g1,Lh _ _,fun a ha b hb=>?_⟩;rw[BK.1 hb];rcases(g2 a).1 ha with ⟨e,e'⟩|e
     ·rw[e];exact g4 e'
     ·exact bz a e
    ·rw[BJ,g2,dY,BJ,or_assoc]
    ·rw[dY]at hx;rcases BJ.1 hx with hx|hx
     ·exact(g3 e).2 x hx
     ·rw[BK.1 hx];exact(g3 e).1
   have dQ:out.length<=k+1:=by cases d<;>simp at h5<;>omega
   cases d with
   |true =>rw[it_f (by simp)];simp only[Ac];rw[it_t ey,ck_d (by simp;omega),AB];exact⟨_,rfl,step true out h1 h2 (fun e=>by cases e) (fun e=>h4 e y (by rw[ez];exact BG ..)) h5,by simp only;omega⟩
   |false =>
    have mG:out.length=k:=(by simpa using h5);by_cases hc:vlt y v
    ·rw[it_f (by simp[hc])];simp only[Ac];rw[it_t ey,ck_d (by simp;omega),AB];exact⟨_,rfl,step false out h1 h2 (fun _=>⟨hc,h3 rfl⟩) (fun e=>by cases e) h5,by simp only;omega⟩
    ·have dG:vlt v y:=by
      rcases NS y v with h|h|h
      ·exact absurd h hc
      ·exact absurd h gu
      ·exact h
     rw[it_t (by simp[hc]),ck_d (by simp;omega)];simp only[Ac];rw[it_t ey,ck_d (by simp;omega),AB];refine⟨_,rfl,step true (out++[v]) ?_ (fun x=>?_) (fun e=>by cases e) (fun _=>dG) (by simp;omega),by simp only;omega⟩
     ·refine List.pairwise_append.2 ⟨h1,Lh _ _,fun a ha b hb=>?_⟩;rw[BK.1 hb];rcases(h2 a).1 ha with ⟨_,e⟩|e
      ·cases e
      ·exact h3 rfl a e
     ·rw[BJ,h2,BK];constructor
      ·rintro((⟨_,e⟩|e)|e);·cases e
       ·exact .inr e
       ·exact .inl ⟨e,rfl⟩
      ·rintro(⟨e,_⟩|e);·exact .inr e
       ·exact .inl (.inr e)) ⟨0,false,[],rfl,DC _,List.Pairwise.nil,fun x=>by simp,fun _ x hx=>by simp at hx,fun e=>(by cases e),by simp⟩ (by simp only;omega)
 rw[e2];simp only[Ac];cases d with
 |true =>
  rw[it_f (by rfl)];refine⟨_,rfl,h1,fun y=>?_,by simpa using h5⟩;rw[h2];constructor
  ·rintro(⟨e,_⟩|e);·exact .inr e
   ·exact .inl e
  ·rintro(e|e);·exact .inr e
   ·exact .inl ⟨e,rfl⟩
 |false =>
  have mG:out.length=l.length:=by simpa using h5
  rw[it_t (by rfl),ck_d (by simp;omega)];refine⟨_,rfl,?_,fun y=>?_,by simp;omega⟩
  ·refine List.pairwise_append.2 ⟨h1,Lh _ _,fun a ha b hb=>?_⟩;rw[BK.1 hb];rcases(h2 a).1 ha with ⟨_,e⟩|e
   ·cases e
   ·exact h3 rfl a e
  ·rw[BJ,h2,BK];constructor
   ·rintro((⟨_,e⟩|e)|e);·cases e
    ·exact .inl e
    ·exact .inr e
   ·rintro(e|e);·exact .inl (.inr e)
    ·exact .inr e
theorem jz28{l:List Ai}{v:Ai}(hs:VsSz l)(hv:CSz v.Curve):∃b:Bz,V8 l v=some b/\VAdd (some (b.L,b.E)) l v:=by
 unfold V8;rw[jzz4 hs];simp only[Ac];by_cases h:vchE l=0;rotate_left
 ·rw[AY h];exact⟨_,rfl,.inl ⟨h,rfl⟩⟩
 rw[AK h,Yq hv];simp only[Ac];by_cases hr:VRi v;rotate_left
 ·rw[AY hr];exact⟨_,rfl,.inr (.inl ⟨h,hr,rfl⟩)⟩
 rw[AK hr];obtain⟨hl,hb⟩:=H8.1 h;rw[Eb (l:=l) (fun _ x=>if vsm x v then some (if x=v then(⟨[],9⟩:Bz) else⟨[],24⟩) else none) (by omega) ?_ ?_]
 ·cases gz:scan (fun _ (x:Ai)=>if vsm x v then some (if x=v then(⟨[],9⟩:Bz) else⟨[],24⟩) else none) 0 l with
  |some o =>
   obtain⟨i,x,hx,hi,_⟩:=H6 0 l o gz;split at hi
   ·rename_i kD;cases hi;refine⟨_,rfl,.inr (.inr ⟨h,hr,.inl ⟨x,Cq hx,kD,?_⟩⟩)⟩;by_cases he:x=v
    ·rw[An he];exact .inl ⟨he,rfl⟩
    ·rw[Aj he];exact .inr ⟨he,rfl⟩
   ·cases hi
  |none =>
   have hn:∀x,x∈l->¬vsm x v:=fun x hx e=>by obtain⟨i,hi,rfl⟩:=Dh hx;have:=Jm gz (AD hi);rw[An e]at this;cases this
   simp only[sOut,Ac];by_cases h4:400<=l.length
   ·rw[it_d];exact⟨_,rfl,.inr (.inr ⟨h,hr,.inr ⟨hn,.inl ⟨h4,rfl⟩⟩⟩)⟩
   ·obtain⟨m,e,hm⟩:=jz29 (v:=v) (by omega) hb.asc hn;rw[it_n,e];exact⟨_,rfl,.inr (.inr ⟨h,hr,.inr ⟨hn,.inr ⟨by omega,m,rfl,hm⟩⟩⟩)⟩
 ·intro k x hx;have hk:=(AL.1 hx).1;simp only[Qs];rw[it_d,at_e rfl hx];simp only[Ac];by_cases h1:x.Gauge=v.Gauge
  ·simp only[h1,decide_true,AN,Ac,CC];by_cases h2:x.Seq=v.Seq
   ·rw[it_d h2,jz3a (hs x (Cq hx)).len,An (show vsm x v from⟨h1,h2⟩)];simp only[Ac];by_cases he:x=v
    ·rw[it_d he,An he]
    ·rw[it_n he,Aj he]
   ·rw[it_n h2,AB,Aj (fun e:vsm x v=>h2 e.2)]
  ·simp only[h1,decide_false,AJ,Ac,Cf];rw[AV,AB,Aj (fun e:vsm x v=>h1 e.1)]
 ·simp only[Qs];rw[it_n]
theorem jz3l{l m:List Ae}{r:Ae}(h:rchE l=0)(hr:RR r)(e:BE l r=some (m,0)):Bk m/\m.length<=4000/\(∀y,y∈m->y∈l\/y=r):=by
 obtain⟨hl,hb⟩:=Fj.1 h;have fin:∀m' E,some (m,(0:Int))=some ((m',E):List Ae×Int)->m=m'/\E=0:=fun m' E h=>⟨Eg (·.1) (BM h),(Eg (·.2) (BM h)).symm⟩;rcases Yl h hr with ⟨x,hx,hs,⟨_,e'⟩|⟨_,_,e'⟩|⟨_,_,m',e',hm⟩⟩|⟨hn,⟨_,e'⟩|⟨h4,m',e',hm⟩⟩
 ·obtain⟨_,h0⟩:=fin _ _ (e.symm.trans e');cases h0
 ·obtain⟨_,h0⟩:=fin _ _ (e.symm.trans e');cases h0
 ·obtain⟨rfl,_⟩:=fin _ _ (e.symm.trans e');have aQ:∀y,y∈m->y∈l\/y=r:=fun y hy=>((hm.mem y).1 hy).elim .inr fun h=>.inl h.1;exact⟨⟨fun y hy=>(aQ y hy).elim (hb.right y) fun e=>e▸hr,hm.asc⟩,by rw[hm.len];omega,aQ⟩
 ·obtain⟨_,h0⟩:=fin _ _ (e.symm.trans e');cases h0
 ·obtain⟨rfl,_⟩:=fin _ _ (e.symm.trans e');have aQ:∀y,y∈m->y∈l\/y=r:=fun y hy=>(hm.mem y).1 hy;exact⟨⟨fun y hy=>(aQ y hy).elim (hb.right y) fun e=>e▸hr,hm.asc⟩,by rw[hm.len];omega,aQ⟩
theorem VAdd.bk{l m:List Ai}{v:Ai}(hs:VsSz l)(hv:CSz v.Curve)(h:VAdd (some (m,0)) l v):vchE l=0/\VRi v/\vchE m=0/\VsSz m/\Lb l m v:=by
 have fin:∀m' E,some (m,(0:Int))=some ((m',E):List Ai×Int)->m=m'/\E=0:=fun m' E h=>⟨Eg (·.1) (BM h),(Eg (·.2) (BM h)).symm⟩;rcases h with ⟨a,e'⟩|⟨a,b,e'⟩|⟨a,b,⟨x,hx,kD,⟨_,e'⟩|⟨_,e'⟩⟩|⟨hn,⟨_,e'⟩|⟨h4,m',e',hm⟩⟩⟩
 ·obtain⟨_,h0⟩:=fin _ _ e';exact absurd h0 a
 ·obtain⟨_,h0⟩:=fin _ _ e';cases h0
 ·obtain⟨_,h0⟩:=fin _ _ e';cases h0
 ·obtain⟨_,h0⟩:=fin _ _ e';cases h0
 ·obtain⟨_,h0⟩:=fin _ _ e';cases h0
 ·obtain⟨rfl,_⟩:=fin _ _ e';have hb:=(H8.1 a).2;refine⟨a,b,H8.2 ⟨by rw[hm.len];omega,fun y hy=>?_,hm.asc⟩,fun y hy=>?_,hm⟩
  ·rcases(hm.mem y).1 hy with h|h;·exact hb.right y h
   ·rw[h];exact b
  ·rcases(hm.mem y).1 hy with h|h;·exact hs y h
   ·rw[h];exact hv
theorem Y2(k:Int):Ge k=some (decide (0<=k/\k<=14609)):=by unfold Ge;congr 1;rw[G9,GD];simp
theorem SerR.ok{l:List Ae}{vs:List Ai}{g:Int}{t:At}{known:Int}{y:List AI×Int}(h:SerR l vs g t known y):y.2≠0/\y.1=[]\/(y.2=0/\rchE l=0/\vchE vs=0/\Rng g t known/\∃P,Cd (stg vs known g l) t.To none t.From P/\P.length<=2000/\y.1=P.map Bb):=by
 rcases h with ⟨a,e⟩|⟨a,b,e⟩|⟨a,b,c,e⟩|⟨a,b,c,P,d,_,e⟩
 ·rw[e];exact .inl ⟨a,rfl⟩
 ·rw[e];exact .inl ⟨b,rfl⟩
 ·rw[e];exact .inl ⟨by simp,rfl⟩
 ·rw[e];split
  ·exact .inl ⟨by simp,rfl⟩
  ·exact .inr ⟨rfl,a,b,c,P,d,by omega,rfl⟩
theorem SO(p:Int×Int×Int):(Bb p).From=p.1/\(Bb p).To=p.2.1/\(Bb p).Lo=0:=by unfold Bb;split<;>simp
theorem jz2c{p:Int×Int×Int}(h:0<=p.2.2):(Bb p).Table=[⟨p.2.2,p.2.1-p.1⟩]/\(Bb p).Hi=0:=by unfold Bb;rw[An h];exact⟨rfl,rfl⟩
theorem jz2d{p:Int×Int×Int}(h:¬0<=p.2.2):(Bb p).Table=[]/\(Bb p).Hi=1000:=by unfold Bb;rw[Aj h];exact⟨rfl,rfl⟩
theorem Y3{F:Int->Int}{a b:Int}{P:List (Int×Int×Int)}(h:Cd F b none a P)(hge:∀x,-1<=F x)(hn:P.length<=1000000)(x:Int):Kf (P.map Bb) x=some (if a<=x/\x<b then F x else -1):=by
 unfold Kf;rw[Eb (l:=P) (fun _ p=>if(p.1<=x/\x<p.2.1)/\0<=p.2.2 then some p.2.2 else none) (by omega) ?_ ?_]
 ·cases hs:scan (fun _ (p:Int×Int×Int)=>if(p.1<=x/\x<p.2.1)/\0<=p.2.2 then some p.2.2 else none) 0 P with
  |some o =>
   obtain⟨i,p,hp,hi,_⟩:=H6 0 P o hs;split at hi
   ·rename_i h';cases hi;obtain⟨m1,m2,m3,m4⟩:=h.mem p (Cq hp);simp only[sOut,Ac];rw[ifP,m4 x h'.1.1 h'.1.2]
   ·cases hi
  |none =>
   simp only[sOut,Ac];by_cases hx:a<=x/\x<b
   ·obtain⟨p,hp,h1,h2⟩:=h.ex x hx.1 hx.2;obtain⟨m1,m2,m3,m4⟩:=h.mem p hp;obtain⟨i,hi,rfl⟩:=Dh hp;have:=Jm hs (AD hi);split at this
    ·cases this
    ·rename_i h';have e:=m4 x h1 h2;have:=hge x;rw[An hx,e];congr 1;omega
   ·rw[Aj hx]
 ·intro k p hp;have hk:=(AL.1 hp).1;obtain⟨e1,e2,_⟩:=SO p;simp only[Pu,FN];rw[it_d,at_e (x:=Bb p) rfl (by rw[FM,hp];rfl)];simp only[Ac,e1,e2];by_cases h0:0<=p.2.2
  ·obtain⟨e3,_⟩:=jz2c h0;rw[e3];by_cases hx:p.1<=x/\x<p.2.1
   ·rw[it_t (by simp[hx]),show at? [Bn.mk p.2.2 (p.2.1-p.1)] 0=some (Bn.mk p.2.2 (p.2.1-p.1)) from id rfl,An ⟨hx,h0⟩];simp only[Ac]
   ·rw[it_f (by rw[Bool.eq_false_iff];simp only[G8,ne_eq,AF,BA];omega),AB,Aj (fun e=>hx e.1)]
  ·obtain⟨e3,_⟩:=jz2d h0;rw[e3,it_f (by simp),AB,Aj (fun e=>h0 e.2)]
 ·simp only[Pu,FN];rw[it_n]
def Apt(T:List At):Prop:=(∀t,t∈T->t.From<t.To)/\T.Pairwise fun a b=>a.To<b.From
theorem NT{G:Int->Bool}{b:Int}:∀{L:List (Int×Int×Bool)} {v:Option Bool} {a:Int},Cd G b v a L->(v=some true->∀t,t∈tks L->a<t.From)/\(∀t,t∈tks L->a<=t.From/\t.From<t.To)/\(tks L).Pairwise fun a b=>a.To<b.From
 |[],v,a,h=>⟨fun _ t ht=>(by cases ht),fun t ht=>(by cases ht),List.Pairwise.nil⟩
 |(p1,p2,p3) :: L,v,a,h=>by
  obtain⟨k1,k2,k3,k4,k5⟩:=h;simp only at k1 k2 k3 k4 k5;obtain⟨g1,g2,g3⟩:=NT k5;cases p3
  ·have e:tks ((p1,p2,false) :: L)=tks L:=rfl;rw[e];exact⟨fun _ t ht=>by have:=(g2 t ht).1;omega,fun t ht=>by have:=g2 t ht;omega,g3⟩
  ·have e:tks ((p1,p2,true) :: L)=⟨p1,p2⟩ :: tks L:=rfl;rw[e];refine⟨fun hv=>absurd hv k4,fun t ht=>?_,HJ.2 ⟨fun t ht=>g1 rfl t ht,g3⟩⟩;rcases AM.1 ht with rfl|ht
   ·simp only;omega
   ·have:=g2 t ht;omega
theorem jz35{G:Int->Bool}{a b:Int}{v:Option Bool}{L:List (Int×Int×Bool)}(h:Cd G b v a L){x:Int}(hx:a<=x/\x<b):G x=true↔∃t,t∈tks L/\t.From<=x/\x<t.To:=by
 constructor
 ·intro hg;obtain⟨p,hp,h1,h2⟩:=h.ex x hx.1 hx.2;have h3:=(h.mem p hp).2.2.2 x h1 h2;refine⟨⟨p.1,p.2.1⟩,List.mem_filterMap.2 ⟨p,hp,?_⟩,h1,h2⟩;rw[hg]at h3;rw[An h3.symm]
 ·rintro⟨t,ht,h1,h2⟩;obtain⟨p,hp,c6⟩:=List.mem_filterMap.1 ht;split at c6
  ·rename_i e;cases c6;rw[(h.mem p hp).2.2.2 x h1 h2,e]
  ·cases c6
theorem Y4{T:List At}(h:Apt T)(hn:T.length<=1000000)(hr:∀t,t∈T->0<=t.From/\t.To<=1402560):Hc T=some true:=by
 unfold Hc;rw[S9 (l:=T) (s:=0) (fun k=>(k:Int)) (by omega) (o:=.inl ()) ?_ ?_ rfl]
 ·simp only[Ac]
 ·intro k x hx;have hk:=(AL.1 hx).1;have h1:=h.1 x (Cq hx);simp only[Pv];rw[it_d,at_e rfl hx];simp only[Ac];rw[Bj (show ¬x.To<=x.From by omega)];simp only[DF,Og,Cf];by_cases fd:k=0
  ·subst fd;rw[show decide ((0:Int)<((0:Nat):Int))=false by simp];simp only[DF,Bool.true_or,AJ,Ac,Cf];rw[Gl,AV,AB];rfl
  ·have di:0<k:=by omega
   rw[show decide ((0:Int)<(k:Int))=true by simp;omega];simp only[Dn,Bool.false_or,AN,CC];rw[AB,Hz hx di];simp only[Ac];have h2:(T.getD (k-1) default).To<x.From:=by have:=Lg.1 h.2 (k-1) k (by omega) hk (by omega);obtain⟨_,rfl⟩:=AL.1 hx;simpa [List.getD,show k-1<T.length by omega] using this
   rw[it_n,AB];rfl
 ·simp only[Pv];rw[it_n]
theorem Y5{A B:Int->Int}{b:Int}(hb:0<b/\b<=1402560){P Q:List (Int×Int×Int)}(hP:Cd A b none 0 P)(hQ:Cd B b none 0 Q)(hA:∀x,-1<=A x)(hB:∀x,-1<=B x)(pM:P.length<=20000)(nI:Q.length<=20000){L:List (Int×Int×Bool)} (hL:Cd (fun x=>decide (A x≠B x)) b none 0 L) (kE:L.length<=40000):Hd (P.map Bb) (Q.map Bb) (tks L)=some true:=by
 unfold Hd;have fP:=hP.first hb.1;have fQ:=hQ.first hb.1;obtain⟨_,tg2,tg3⟩:=NT hL;have tl:=NR L
 have tT:∀t,t∈tks L->t.To<=b:=fun t ht=>by
  obtain⟨p,hp,c6⟩:=List.mem_filterMap.1 ht;split at c6
  ·cases c6;exact(hL.mem p hp).2.2.1
  ·cases c6
 have tM:=fun x (hx:0<=x/\x<b)=>jz35 hL hx;generalize qk:tks L=T at *;have stA:=fun x=>Y3 hP hA (by omega) x;have stB:=fun x=>Y3 hQ hB (by omega) x
 have seek:∀(n:Nat) (x:Int),n<=T.length->(∀m,(hm:m<T.length)->m<n->T[m].To<=x)->∃n':Nat,lp (LW x T) (n:Int)=some (n':Int)/\n'<=T.length/\(∀m,(hm:m<T.length)->m<n'->T[m].To<=x)/\∀h:n'<T.length,x<T[n'].To:=by
  intro n x hn bw
  obtain⟨o,e,n',rfl,h1,h2,h3⟩:=CF (s:=(n:Int)) (body:=LW x T) (fun s=>∃n:Nat,s=(n:Int)/\n<=T.length/\∀m,(hm:m<T.length)->m<n->T[m].To<=x) (fun s=>(T.length-s).toNat) (fun o=>∃n':Nat,o=(n':Int)/\n'<=T.length/\(∀m,(hm:m<T.length)->m<n'->T[m].To<=x)/\∀h:n'<T.length,x<T[n'].To) (by
   rintro s ⟨n,rfl,hn,bw⟩;simp only[LW];by_cases hlt:n<T.length
   ·rw[B9 (show(n:Int)<(T.length:Int) by omega)];simp only[AN,CC];rw[at_e rfl (AD hlt)];simp only[Ac];by_cases hx:T[n].To<=x
    ·left;rw[it_d hx,AB];refine⟨_,rfl,⟨n+1,by simp,hlt,fun m hm h=>?_⟩,by omega⟩;by_cases e:m=n
     ·subst e;exact hx
     ·exact bw m hm (by omega)
    ·right;rw[it_n hx];exact⟨_,rfl,n,rfl,hn,bw,fun _=>by omega⟩
   ·right;rw[Bj (show ¬(n:Int)<(T.length:Int) by omega)];simp only[AJ,Ac,Cf];rw[AV];exact⟨_,rfl,n,rfl,hn,bw,fun h=>absurd h hlt⟩) ⟨n,rfl,hn,bw⟩ (by omega)
  exact⟨n',e,h1,h2,h3⟩
 have walk:∀(n:Nat) (x y:Int) (r1 r2:Int) (x3 x4:AI),y=min x3.To x4.To->0<=x->y<=b->n<=T.length->(∀m,(hm:m<T.length)->m<n->T[m].To<=x)->(∀z,x<=z->z<y->A z=r1/\B z=r2) -> ∃n':Nat,lp (LX T r1 r2 x3 x4) ((n:Int),x)=some (.inl (n':Int))/\n'<=T.length/\(∀m,(hm:m<T.length)->m<n'->T[m].To<=y\/T[m].To<=x):=by
  intro n x y r1 r2 x3 x4 hy kR ql hn bw pO
  obtain⟨o,e,n',rfl,h1,h2⟩:=CF (s:=((n:Int),x)) (body:=LX T r1 r2 x3 x4) (fun s=>∃n:Nat,∃z:Int,s=((n:Int),z)/\x<=z/\n<=T.length/\(∀m,(hm:m<T.length)->m<n->T[m].To<=z)/\(∀m,(hm:m<T.length)->m<n->T[m].To<=y\/T[m].To<=x)) (fun s=>(y-s.2).toNat) (fun o=>∃n':Nat,o=.inl (n':Int)/\n'<=T.length/\(∀m,(hm:m<T.length)->m<n'->T[m].To<=y\/T[m].To<=x)) (by
   rintro s ⟨n,z,rfl,hz,hn,bw,kc⟩;simp only[LX];rw[<-hy];by_cases mI:z<y;rotate_left
   ·right;rw[it_n mI];exact⟨_,rfl,n,rfl,hn,kc⟩
   left;obtain⟨n',e,n1,n2,n3⟩:=seek n z hn bw;rw[it_d mI,e];simp only[Ac];have hd:=pO z hz mI;have fL:∀m,(hm:m<T.length)->m<n'->T[m].To<=y\/T[m].To<=x:=fun m hm h=>.inl (by have:=n2 m hm h;omega);have aQ:(decide (r1≠r2))=true↔∃t,t∈T/\t.From<=z/\z<t.To:=by have:=tM z ⟨by omega,by omega⟩;rw[<-hd.1,<-hd.2];exact this
   by_cases hlt:n'<T.length
   ·have hm:=BI hlt;have hT:=n3 hlt;have hG:=tg2 _ hm;have oS:=tT _ hm;rw[B9 (show(n':Int)<(T.length:Int) by omega)];simp only[AN,CC];rw[at_e rfl (AD hlt)];simp only[Ac];by_cases hf:T[n'].From<=z
    ·have:r1≠r2:=(by simpa using aQ.2 ⟨_,hm,hf,hT⟩);rw[B9 hf,Bj this,it_f (by simp),C6];refine⟨_,rfl,⟨n',T[n'].To,rfl,by omega,n1,fun m hm h=>by have:=n2 m hm h;omega,fL⟩,by simp only;omega⟩
    ·have:r1=r2:=by
      refine Decidable.byContradiction fun aI=>?_;obtain⟨t,ht,h1,h2⟩:=aQ.1 (by simpa using aI);obtain⟨i,hi,rfl⟩:=Dh ht;rcases BL i n' with h|h
      ·have:=n2 i hi h;omega
      ·by_cases e:i=n';·subst e;exact hf h1
       ·have h3:=Lg.1 tg3 n' i hlt hi (by omega);omega
     rw[Bj hf,B9 this,it_f (by simp),AV,C6];refine⟨_,rfl,⟨n',T[n'].From,rfl,by omega,n1,fun m hm h=>by have:=n2 m hm h;omega,fL⟩,by simp only;omega⟩
   ·have:r1=r2:=by
     refine Decidable.byContradiction fun aI=>?_;obtain⟨t,ht,h1,h2⟩:=aQ.1 (by simpa using aI);obtain⟨i,hi,rfl⟩:=Dh ht;have:=n2 i hi (by omega);omega
    rw[Bj (show ¬(n':Int)<(T.length:Int) by omega)];simp only[AJ,Ac,Cf];rw[B9 this,it_f (by simp),AV,AV];refine⟨_,rfl,⟨n',y,rfl,by omega,n1,fun m hm h=>by have:=n2 m hm h;omega,fL⟩,by simp only;omega⟩) ⟨n,x,rfl,Jv _,hn,bw,fun m hm h=>.inr (bw m hm h)⟩ (by simp only;omega)
  exact⟨n',e,h1,h2⟩
 obtain⟨o,e,rfl⟩:=CF (s:=((0:Int),(0:Int),(0:Int))) (body:=Pw (P.map Bb) (Q.map Bb) T) (fun s=>∃n i j:Nat,∃c:Int,s=((n:Int),(i:Int),(j:Int))/\n<=T.length/\i<=P.length/\j<=Q.length/\0<=c/\(∀m,(hm:m<T.length)->m<n->T[m].To<=c) /\ ((c=b/\i=P.length/\j=Q.length)\/(c<b/\∃hi:i<P.length,∃hj:j<Q.length,c=max P[i].1 Q[j].1/\c<P[i].2.1/\c<Q[j].2.1))) (fun s=>(P.length-s.2.1).toNat+(Q.length-s.2.2).toNat) (fun o=>o=.inl ()) (by
  rintro s ⟨n,i,j,c,rfl,hn,hi,hj,bV,bw,hI⟩;simp only[Pw,FN];rcases hI with ⟨rfl,rfl,rfl⟩|⟨dM,aZ,aY,hc,jg,pN⟩
  ·right;rw[it_f (by simp)];exact⟨_,rfl,rfl⟩
  left;have e1:(P.map Bb)[i]?=some (Bb P[i]):=by rw[FM,AD aZ];rfl
  have e2:(Q.map Bb)[j]?=some (Bb Q[j]):=by rw[FM,AD aY];rfl
  rw[it_t (by simp only[G8,AF,BA];omega),at_e rfl e1,at_e rfl e2];simp only[Ac];have mP:=hP.mem P[i] (BI aZ);have mQ:=hQ.mem Q[j] (BI aY);have nP:=hP.next i aZ;have nQ:=hQ.next j aY;have gP:∀h2:i+1<P.length,P[i+1].1<P[i+1].2.1:=fun h2=>(hP.mem P[i+1] (BI h2)).1;have gQ:∀h2:j+1<Q.length,Q[j+1].1<Q[j+1].2.1:=fun h2=>(hQ.mem Q[j+1] (BI h2)).1;generalize hp:P[i]=p at *;generalize hq:Q[j]=q at *;generalize ka:(∃h2:i+1<P.length,P[i+1].1=p.2.1)=NP at nP;generalize kb:(∃h2:j+1<Q.length,Q[j+1].1=q.2.1)=NQ at nQ;obtain⟨p1,p2,p3,p4⟩:=mP;obtain⟨q1,q2,q3,q4⟩:=mQ;obtain⟨a1,a2,_⟩:=SO p;obtain⟨b1,b2,_⟩:=SO q;rw[a1,a2,b1,b2,<-hc,stA,stB,An ⟨bV,dM⟩,An ⟨bV,dM⟩];simp only[Ac];obtain⟨n',w1,w2,w3⟩:=walk n c (min p.2.1 q.2.1) (A c) (B c) (Bb p) (Bb q) (by rw[a2,b2]) bV (by omega) hn bw (fun z z1 z2=>by rw[p4 z (by omega) (by omega),p4 c (by omega) (by omega),q4 z (by omega) (by omega),q4 c (by omega) (by omega)];exact⟨rfl,rfl⟩);rw[w1];simp only[Ac,a2,b2];have mH:c<min p.2.1 q.2.1:=by omega
  have fM:∀m,(hm:m<T.length)->m<n'->T[m].To<=min p.2.1 q.2.1:=fun m hm h=>by rcases w3 m hm h with h | h<;>omega
  have cJ:∀i' j':Nat,(i'=if p.2.1=min p.2.1 q.2.1 then i+1 else i)->(j'=if q.2.1=min p.2.1 q.2.1 then j+1 else j) -> (∃n'' i'' j'':Nat,∃c':Int,(((n':Int),(i':Int),(j':Int)):Int×Int×Int)=((n'':Int),(i'':Int),(j'':Int))/\n''<=T.length/\i''<=P.length/\j''<=Q.length/\0<=c'/\(∀m,(hm:m<T.length)->m<n''->T[m].To<=c') /\ ((c'=b/\i''=P.length/\j''=Q.length)\/(c'<b/\∃hi:i''<P.length,∃hj:j''<Q.length,c'=max P[i''].1 Q[j''].1/\c'<P[i''].2.1/\c'<Q[j''].2.1)))/\i+j<i'+j':=by
   intro i' j' gq dV;by_cases c1:p.2.1=min p.2.1 q.2.1
   ·rw[An c1]at gq;subst gq;by_cases c2:q.2.1=min p.2.1 q.2.1
    ·rw[An c2]at dV;subst dV;refine⟨⟨n',i+1,j+1,min p.2.1 q.2.1,rfl,w2,by omega,by omega,by omega,fM,?_⟩,by omega⟩;by_cases jY:min p.2.1 q.2.1=b
     ·left;refine⟨jY,?_,?_⟩
      ·rcases BL (i+1) P.length with h|h;·have:=nP.2 h;omega
       ·omega
      ·rcases BL (j+1) Q.length with h|h;·have:=nQ.2 h;omega
       ·omega
     ·right;have d9:min p.2.1 q.2.1<b:=(by omega);have f1:min p.2.1 q.2.1=max p.2.1 q.2.1:=(by omega);have f2:=Int.min_le_left p.2.1 q.2.1;have f3:=Int.min_le_right p.2.1 q.2.1;have f4:p.2.1<b:=(by omega);have f5:q.2.1<b:=(by omega);obtain⟨u1,u2⟩:=ka▸nP.1 f4;obtain⟨v1,v2⟩:=kb▸nQ.1 f5;have g1:=gP u1;have g2:=gQ v1;rw[u2]at g1;rw[v2]at g2;exact⟨d9,u1,v1,by rw[u2,v2];exact f1,Int.lt_of_le_of_lt f2 g1,Int.lt_of_le_of_lt f3 g2⟩
    ·rw[Aj c2]at dV;subst dV;refine⟨⟨n',i+1,j',min p.2.1 q.2.1,rfl,w2,by omega,by omega,by omega,fM,.inr ?_⟩,by omega⟩;have d9:min p.2.1 q.2.1<b:=by omega
     have f1:min p.2.1 q.2.1=max p.2.1 q.1:=(by omega);have f2:=Int.min_le_left p.2.1 q.2.1;have f3:min p.2.1 q.2.1<q.2.1:=(by omega);have f4:p.2.1<b:=(by omega);obtain⟨u1,u2⟩:=ka▸nP.1 f4;have g1:=gP u1;rw[u2]at g1;exact⟨d9,u1,aY,by rw[hq,u2];exact f1,Int.lt_of_le_of_lt f2 g1,by rw[hq];exact f3⟩
   ·rw[Aj c1]at gq;subst gq;have c2:q.2.1=min p.2.1 q.2.1:=by omega
    rw[An c2]at dV;subst dV;refine⟨⟨n',i',j+1,min p.2.1 q.2.1,rfl,w2,by omega,by omega,by omega,fM,.inr ?_⟩,by omega⟩;have d9:min p.2.1 q.2.1<b:=by omega
    have f1:min p.2.1 q.2.1=max p.1 q.2.1:=(by omega);have f2:=Int.min_le_right p.2.1 q.2.1;have f3:min p.2.1 q.2.1<p.2.1:=(by omega);have f4:q.2.1<b:=(by omega);obtain⟨v1,v2⟩:=kb▸nQ.1 f4;have g2:=gQ v1;rw[v2]at g2;exact⟨d9,aZ,v1,by rw[hp,v2];exact f1,by rw[hp];exact f3,Int.lt_of_le_of_lt f2 g2⟩
  by_cases c1:p.2.1=min p.2.1 q.2.1
  ·rw[B9 c1];simp only[AN,Ac,b2,CC];by_cases c2:q.2.1=min p.2.1 q.2.1
   ·rw[it_d c2,AB,AB];obtain⟨r1,r2⟩:=cJ (i+1) (j+1) (by rw[An c1]) (by rw[An c2]);exact⟨_,rfl,by simpa using r1,by simp only;omega⟩
   ·rw[it_n c2,C6,AB];obtain⟨r1,r2⟩:=cJ (i+1) j (by rw[An c1]) (by rw[Aj c2]);exact⟨_,rfl,by simpa using r1,by simp only;omega⟩
  ·rw[Bj c1];simp only[AJ,Ac,Cf];have c2:q.2.1=min p.2.1 q.2.1:=by omega
   rw[AV,AV,AB];obtain⟨r1,r2⟩:=cJ i (j+1) (by rw[Aj c1]) (by rw[An c2]);exact⟨_,rfl,by simpa using r1,by simp only;omega⟩) (by
  obtain⟨gm,f1⟩:=fP;obtain⟨gI,f2⟩:=fQ;have m1:=(hP.mem P[0] (BI gm)).1;have m2:=(hQ.mem Q[0] (BI gI)).1;exact⟨0,0,0,0,rfl,DC _,DC _,DC _,Jv _,fun m hm h=>by omega,.inr ⟨hb.1,gm,gI,by omega,by omega,by omega⟩⟩) (by simp only;omega)
 rw[e];simp only[Ac]
theorem jz33{l m:List Ae}{r:Ae}(hm:Bk m)(h:∀y,y∈m->y∈l\/y=r):m.length<=l.length+1:=by
 have hd:m.Nodup:=by refine hm.asc.imp fun {a b} e=>?_;intro k;subst k;exact SC e
 have:=Ym m (r :: l) hd fun x hx=>by
  rcases h x hx with h|h
  ·exact Cv _ h
  ·rw[h];exact BG ..
 simpa using this
theorem jz30{l:List Ae}{vs:List Ai}{r:Ae}{known:Int}(hs:VsSz vs):∃y,Kt l vs r known=some y/\(y.2≠0\/(y.2=0/\rchE l=0/\vchE vs=0/\RR r/\(0<=known/\known<=14609)/\∃m,BE l r=some (m,0)/\Bk m/\m.length<=4000/\m.length<=l.length+1/\∃L,Cd (fun x=>decide (stg vs known r.Gauge l x≠stg vs known r.Gauge m x)) 1402560 none 0 L/\L.length<=40000/\y.1=tks L)):=by
 unfold Kt;rw[FJ,E7 hs];simp only[Ac];rw[SL];simp only[Ac];by_cases h:(if rchE l=0 then vchE vs else rchE l)=0;rotate_left
 ·rw[AY h];exact⟨_,rfl,.inl h⟩
 rw[AK h]
 have h1:rchE l=0:=by
  by_cases e:rchE l=0
  ·exact e
  ·rw[Aj e]at h;exact h
 rw[An h1]at h;obtain⟨b,e1,e2⟩:=jzza l r;rw[e2];simp only[Ac];rw[show(bkP b).2=b.E from rfl,show(bkP b).1=b.L from rfl];by_cases hE:b.E=0;rotate_left
 ·rw[AY hE];exact⟨_,rfl,.inl hE⟩
 rw[AK hE,Y2];simp only[Ac];by_cases hk:0<=known/\known<=14609;rotate_left
 ·rw[AY hk];exact⟨_,rfl,.inl (by simp)⟩
 rw[AK hk];unfold Hf;simp only[Ac]
 have hr:RR r:=by
  by_cases hr:RR r
  ·exact hr
  ·rw[Yk h1 hr]at e2;have:=Eg (·.2) (BM e2);have:(1:Int)=b.E:=this;omega
 have e3:BE l r=some (b.L,0):=by rw[e2];unfold bkP;rw[hE]
 obtain⟨hl,hb⟩:=Fj.1 h1;obtain⟨jb,dx,aQ⟩:=jz3l h1 hr e3;obtain⟨c1,p1,q1⟩:=La (g:=r.Gauge) (t:=⟨0,1402560⟩) hs h hb.right (by omega) hk (by decide);obtain⟨c2,p2,q2⟩:=La (g:=r.Gauge) (t:=⟨0,1402560⟩) hs h jb.right (by omega) hk (by decide);rw[p1,p2];simp only[Ac];obtain⟨L,f1,f2,f3⟩:=Yw (A:=stg vs known r.Gauge l) (B:=stg vs known r.Gauge b.L) (b:=1402560) (by decide) (n:=8002) (by omega) (p:=D1 c1.1 c1.2) (q:=D1 c2.1 c2.2) (fun st aH=>by obtain⟨P,a1,a2,a3,a4⟩:=q1 st fun ys h1 h2=>aH ys (by omega) h2;exact⟨P,a1,a2,by omega,a4⟩) (fun st aH=>by obtain⟨P,a1,a2,a3,a4⟩:=q2 st fun ys h1 h2=>aH ys (by omega) h2;exact⟨P,a1,a2,by omega,a4⟩);rw[f1];exact⟨_,rfl,.inr ⟨rfl,h1,h,hr,hk,b.L,e2.symm.trans e3,jb,dx,jz33 jb aQ,L,f2,f3,rfl⟩⟩
theorem jz32{l:List Ae}{vs:List Ai}{v:Ai}{known:Int}(hs:VsSz vs)(hv:CSz v.Curve):∃y,Ku l vs v known=some y/\(y.2≠0\/(y.2=0/\rchE l=0/\vchE vs=0/\VRi v/\(0<=known/\known<=14609)/\∃m,CY vs v=some (m,0)/\vchE m=0/\VsSz m/\Lb vs m v/\∃L,Cd (fun x=>decide (stg vs known v.Gauge l x≠stg m known v.Gauge l x)) 1402560 none 0 L/\L.length<=40000/\y.1=tks L)):=by
 unfold Ku;rw[FJ,E7 hs];simp only[Ac];rw[SL];simp only[Ac];by_cases h:(if rchE l=0 then vchE vs else rchE l)=0;rotate_left
 ·rw[AY h];exact⟨_,rfl,.inl h⟩
 rw[AK h]
 have h1:rchE l=0:=by
  by_cases e:rchE l=0
  ·exact e
  ·rw[Aj e]at h;exact h
 rw[An h1]at h;obtain⟨b,e1,mJ⟩:=jz28 hs hv;have e2:=(jz3j hs hv).uniq mJ;rw[e2];simp only[Ac];by_cases hE:b.E=0;rotate_left
 ·rw[AY hE];exact⟨_,rfl,.inl hE⟩
 rw[AK hE,Y2];simp only[Ac];by_cases hk:0<=known/\known<=14609;rotate_left
 ·rw[AY hk];exact⟨_,rfl,.inl (by simp)⟩
 rw[AK hk];unfold Hf;simp only[Ac];rw[hE]at mJ e2;obtain⟨_,gE,gN,kF,iB⟩:=mJ.bk hs hv;obtain⟨hl,hb⟩:=Fj.1 h1;obtain⟨c1,p1,q1⟩:=La (g:=v.Gauge) (t:=⟨0,1402560⟩) hs h hb.right (by omega) hk (by decide);obtain⟨c2,p2,q2⟩:=La (g:=v.Gauge) (t:=⟨0,1402560⟩) kF gN hb.right (by omega) hk (by decide);rw[p1,p2];simp only[Ac];obtain⟨L,f1,f2,f3⟩:=Yw (A:=stg vs known v.Gauge l) (B:=stg b.L known v.Gauge l) (b:=1402560) (by decide) (n:=8002) (by omega) (p:=D1 c1.1 c1.2) (q:=D1 c2.1 c2.2) (fun st aH=>by obtain⟨P,a1,a2,a3,a4⟩:=q1 st fun ys h1 h2=>aH ys (by omega) h2;exact⟨P,a1,a2,by omega,a4⟩) (fun st aH=>by obtain⟨P,a1,a2,a3,a4⟩:=q2 st fun ys h1 h2=>aH ys (by omega) h2;exact⟨P,a1,a2,by omega,a4⟩);rw[f1];exact⟨_,rfl,.inr ⟨rfl,h1,h,gE,hk,b.L,by rw[hE],gN,kF,iB,L,f2,f3,rfl⟩⟩
theorem Y6(kind g tick known:Int):∀l:List Ai,vfrc (l.filter fun v=>decide (v.Kind=kind)) kind g tick known=vfrc l kind g tick known:=by
 refine KZ rfl fun l v ih=>?_;rw[List.filter_append,NL];by_cases h:v.Kind=kind
 ·have:[v].filter (fun v=>decide (v.Kind=kind))=[v]:=by simp[h]
  rw[this,NL,ih]
 ·have:[v].filter (fun v=>decide (v.Kind=kind))=[]:=by simp[h]
  rw[this,List.append_nil,ih];unfold Jr;rw[Aj (fun e:vfit kind g tick known v=>h e.1)]
theorem jz31{l m:List Ai}{v:Ai}(ha:l.Pairwise vlt)(h:Lb l m v)(hk:v.Kind≠3)(known g x:Int):∀rs:List Ae,stg m known g rs x=stg l known g rs x:=by
 have hf:m.filter (fun v=>decide (v.Kind=3))=l.filter (fun v=>decide (v.Kind=3)):=by
  refine SN (h.asc.sublist List.filter_sublist) (ha.sublist List.filter_sublist) fun y=>?_;rw[List.mem_filter,List.mem_filter,h.mem];constructor
  ·rintro⟨h1|rfl,h2⟩;·exact⟨h1,h2⟩
   ·exact absurd (by simpa using h2) hk
  ·rintro⟨h1,h2⟩;exact⟨.inl h1,h2⟩
 have hs:∀r:Ae,shf m known r=shf l known r:=fun r=>by unfold shf vsh;rw[<-Y6 3 r.Gauge r.From known m,hf,Y6]
 refine KZ rfl fun rs r ih=>?_;rw[NM,NM,ih];have key:cov m known g x r↔cov l known g x r:=by unfold cov;rw[hs]
 by_cases hc:cov l known g x r
 ·rw[An hc,An (key.2 hc)]
 ·rw[Aj hc,Aj (fun e=>hc (key.1 e))]
theorem jz34{G:Int->Bool}{a b:Int}{L:List (Int×Int×Bool)}(h:Cd G b none a L)(hG:∀x,a<=x->x<b->G x=false):tks L=[]:=by
 cases hT:tks L with
 |nil=>rfl
 |cons t T =>
  have ht:t∈tks L:=by rw[hT];exact BG ..
  obtain⟨p,hp,c6⟩:=List.mem_filterMap.1 ht;split at c6
  ·rename_i e;obtain⟨m1,m2,m3,m4⟩:=h.mem p hp;have:=m4 p.1 (Jv _) m1;rw[e,hG p.1 m2 (by omega)]at this;cases this
  ·cases c6
theorem NU{l:List Ae}{vs:List Ai}{g known:Int}(hs:VsSz vs)(h1:rchE l=0)(h2:vchE vs=0)(hg:0<=g/\g<=39)(hk:0<=known/\known<=14609)(hl:l.length<=900):∃P,CJ l vs g ⟨0,1402560⟩ known=some (P.map Bb,0)/\Cd (stg vs known g l) 1402560 none 0 P/\P.length<=2000:=by
 obtain⟨y,y1,y2⟩:=jz0v (l:=l) (g:=g) (t:=⟨0,1402560⟩) (known:=known) hs;rcases y2 with ⟨a,e⟩|⟨a,b,e⟩|⟨a,b,c,e⟩|⟨a,b,c,Q,hQ,nI,e⟩
 ·exact absurd h1 a
 ·exact absurd h2 b
 ·exact absurd ⟨hg,by decide,hk⟩ c
 ·rw[ifN]at e;exact⟨Q,by rw[y1,e],hQ,by omega⟩
theorem jz36{l:List Ae}{vs:List Ai}{x:Cm}(hs:VsSz vs)(hv:CSz x.V.Curve):Qu l vs x=some true:=by
 unfold Qu;by_cases hn:40<l.length\/40<vs.length\/x.Known<0\/14609<x.Known
 ·rw[it_t (by simp only[Ld,FL,BA];omega),Yj];rfl
 rw[it_f (by simp only[Ld,Ta,NZ];omega)];unfold Eu;simp only[Ac];obtain⟨y,y1,y2⟩:=jz30 (l:=l) (r:=x.R) (known:=x.Known) hs;rw[y1];simp only[Ac]
 have first:(ite' (decide (y.2=0)) (
    bd (BE l x.R) fun r4 =>
    bd (CJ l vs x.R.Gauge (At.mk 0 1402560) x.Known) fun r5 =>
    bd (CJ r4.1 vs x.R.Gauge (At.mk 0 1402560) x.Known) fun r6 =>
    bd (gd (!(bif (bif (!decide (r4.2=0)) then true else(!decide (r5.2=0))) then true else(!decide (r6.2=0)))) (Hc y.1)) fun r7 =>
    bd (gd (!(bif (bif (bif (!decide (r4.2=0)) then true else(!decide (r5.2=0))) then true else(!decide (r6.2=0))) then true else(!r7))) (Hd r5.1 r6.1 y.1)) fun r8 =>
    ite' (bif (bif (bif (bif (!decide (r4.2=0)) then true else(!decide (r5.2=0))) then true else(!decide (r6.2=0))) then true else(!r7)) then true else(!r8)) (
     some ((.inr false):Unit⊕Bool)
     ) (
     some (.inl ())
     )
    ) (
    some (.inl ())
    ))=some (.inl ()):=by
  rcases y2 with h|⟨h,h1,h2,hr,hk,m,em,jb,dx,pP,L,hL,kE,hy⟩
  ·rw[it_n h]
  rw[it_d h,em];simp only[Ac];obtain⟨hl,hb⟩:=Fj.1 h1;obtain⟨P,eP,cP,nP⟩:=NU (g:=x.R.Gauge) hs h1 h2 hr.1 hk (by omega);obtain⟨Q,eQ,cQ,nQ⟩:=NU (l:=m) (g:=x.R.Gauge) hs (Fj.2 ⟨dx,jb⟩) h2 hr.1 hk (by omega);rw[eP,eQ];simp only[Ac,decide_true,Dn,DF,Cf,AN];obtain⟨_,t2,t3⟩:=NT hL;have tl:=NR L
  have tT:∀t,t∈tks L->0<=t.From/\t.To<=1402560:=fun t ht=>by
   obtain⟨p,hp,c6⟩:=List.mem_filterMap.1 ht;split at c6
   ·cases c6;have:=hL.mem p hp;simp only;omega
   ·cases c6
  rw[hy,Y4 ⟨fun t ht=>(t2 t ht).2,t3⟩ (by omega) tT];simp only[Ac,Dn,DF,Cf,AN];rw[Y5 (by decide) cP cQ (fun z=>NO hb.right) (fun z=>NO jb.right) (by omega) (by omega) hL kE];simp only[Ac,Dn];rw[AV]
 rw[first];simp only[Ac];obtain⟨z,z1,z2⟩:=jz32 (l:=l) (known:=x.Known) hs hv;rw[z1];simp only[Ac]
 have second:(ite' (decide (z.2=0)) (
       bd (CY vs x.V) fun r10 =>
       bd (CJ l vs x.V.Gauge (At.mk 0 1402560) x.Known) fun r11 =>
       bd (CJ l r10.1 x.V.Gauge (At.mk 0 1402560) x.Known) fun r12 =>
       bd (gd (!(bif (bif (!decide (r10.2=0)) then true else(!decide (r11.2=0))) then true else(!decide (r12.2=0)))) (Hc z.1)) fun r13 =>
       bd (gd (!(bif (bif (bif (!decide (r10.2=0)) then true else(!decide (r11.2=0))) then true else(!decide (r12.2=0))) then true else(!r13))) (Hd r11.1 r12.1 z.1)) fun r14 =>
       ite' (bif (bif (bif (bif (bif (!decide (r10.2=0)) then true else(!decide (r11.2=0))) then true else(!decide (r12.2=0))) then true else(!r13)) then true else(!r14)) then true else(bif (!decide (x.V.Kind=3)) then(decide (0<(List.length z.1:Int))) else false)) (
        some ((.inr false):Unit⊕Bool)
        ) (
        some (.inl ())
        )
       ) (
       some (.inl ())
       ))=some (.inl ()):=by
  rcases z2 with h|⟨h,h1,h2,gE,hk,m,em,gN,kF,iB,L,hL,kE,hz⟩
  ·rw[it_n h]
  rw[it_d h,em];simp only[Ac];obtain⟨hl,hb⟩:=Fj.1 h1;obtain⟨P,eP,cP,nP⟩:=NU (g:=x.V.Gauge) hs h1 h2 gE.1.1 hk (by omega);obtain⟨Q,eQ,cQ,nQ⟩:=NU (l:=l) (g:=x.V.Gauge) kF h1 gN gE.1.1 hk (by omega);rw[eP,eQ];simp only[Ac,decide_true,Dn,DF,Cf,AN];obtain⟨_,t2,t3⟩:=NT hL;have tl:=NR L
  have tT:∀t,t∈tks L->0<=t.From/\t.To<=1402560:=fun t ht=>by
   obtain⟨p,hp,c6⟩:=List.mem_filterMap.1 ht;split at c6
   ·cases c6;have:=hL.mem p hp;simp only;omega
   ·cases c6
  have mK:(bif (!decide (x.V.Kind=3)) then(decide (0<(List.length (tks L):Int))) else false)=false:=by
   by_cases mL:x.V.Kind=3
   ·rw[B9 mL];rfl
   ·have:=jz34 hL fun w _ _=>by
     rw[jz31 (H8.1 h2).2.asc iB mL];simp
    rw[this,Bj mL];rfl
  rw[hz,Y4 ⟨fun t ht=>(t2 t ht).2,t3⟩ (by omega) tT];simp only[Ac,Dn,DF,Cf,AN];rw[Y5 (by decide) cP cQ (fun z=>NO hb.right) (fun z=>NO hb.right) (by omega) (by omega) hL kE];simp only[Ac,Dn,Cf];rw[it_f mK]
 rw[second];simp only[Ac];rw[Yj];rfl
end Go.Am

