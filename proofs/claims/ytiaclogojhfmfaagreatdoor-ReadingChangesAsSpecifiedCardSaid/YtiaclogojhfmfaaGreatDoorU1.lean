/- Part U1: the mathematics of the functions of this seat. No condition. -/
import Derived.Test.YtiaclogojhfmfaaGreatDoorR2
set_option linter.unusedSimpArgs false
set_option linter.unusedVariables false
namespace Go.Am
noncomputable section
section
variable {α ω O:Type}
def scan(f:Nat->α->Option ω):Nat->List α->Option ω
 |_,[]=>none
 |k,x :: l=>match f k x with
  |some o=>some o
  |none=>scan f (k+1) l
theorem Yp{f:Nat->α->Option ω}:∀(k:Nat) (l:List α),scan f k l=none->∀i x,l[i]?=some x->f (k+i) x=none
 |k,[],_,i,x,h=>by simp at h
 |k,y :: l,e,i,x,h=>by
  unfold scan at e;split at e
  ·cases e
  ·rename_i e1;cases i with
   |zero=>simp at h;subst h;exact e1
   |succ i=>have:=Yp (k+1) l e i x (by simpa using h);rwa [show k+(i+1)=k+1+i by omega]
theorem SO{f:Nat->α->Option ω}:∀(k:Nat) (l:List α),(∀i x,l[i]?=some x->f (k+i) x=none)->scan f k l=none
 |k,[],_=>rfl
 |k,y :: l,e=>by unfold scan;rw[show f k y=none from e 0 y rfl];exact SO (k+1) l fun i x h=>by have:=e (i+1) x (by simpa using h);rwa [show k+(i+1)=k+1+i by omega]at this
theorem jzdu{f:Nat->α->Option ω}{l:List α}{k:Nat}{x:α}(h:l[k]?=some x):scan f k (l.drop k)=(match f k x with
  |some o=>some o
  | none=>scan f (k+1) (l.drop (k+1))):=by
 obtain⟨hk,rfl⟩:=AK.1 h;rw[O0 hk];rfl
def sOut:Option ω->Unit⊕ω
 |some o=>.inr o
 |none=>.inl ()
theorem jzak{body:O->Option (O⊕(Unit⊕ω))}{l:List α}(st:Nat->O)(f:Nat->α->Option ω)(hl:l.length<=1000000000)(hs:∀(k:Nat) (x:α),l[k]?=some x->body (st k)=some (match f k x with | some o=>.inr (.inr o) | none=>.inl (st (k+1)))) (he:body (st l.length)=some (.inr (.inl ()))) {s:O} (h0:s=st 0):lp body s=some (sOut (scan f 0 l)):=by
 obtain⟨o,e,ho⟩:=QR (body:=body) st (fun k=>k<=l.length/\scan f 0 l=scan f k (l.drop k)) (fun k=>l.length-k) (fun o=>o=sOut (scan f 0 l)) (by
  rintro k ⟨hk,gv⟩;by_cases hlt:k<l.length
  ·have hx:=AD hlt;have h1:=hs k _ hx;have h2:=jzdu (f:=f) hx;cases hf:f k l[k] with
   |some o =>right;rw[hf]at h1 h2;exact⟨_,h1,by rw[gv,h2];rfl⟩
   |none =>left;rw[hf]at h1 h2;exact⟨k+1,h1,⟨hlt,gv.trans h2⟩,by omega⟩
  ·right;have:k=l.length:=by omega
   subst this;refine⟨_,he,?_⟩;rw[gv,List.drop_length];rfl) 0 h0 ⟨Dj _,rfl⟩ (by omega)
 rw[e,ho]
theorem Ea{body:Int->Option (Int⊕(Unit⊕ω))}{l:List α}(f:Nat->α->Option ω)(hl:l.length<=1000000000)(hs:∀(k:Nat) (x:α),l[k]?=some x->body (k:Int)=some (match f k x with | some o=>.inr (.inr o) | none=>.inl ((k:Int)+1))) (he:body (l.length:Int)=some (.inr (.inl ()))):lp body 0=some (sOut (scan f 0 l)) :=
 jzak (fun k=>(k:Int)) f hl (fun k x h=>by rw[hs k x h];cases f k x<;>rfl) he rfl
end
theorem Jv{o:Option Int}{z:Int}:(match sOut o with | .inl ()=>some z | .inr o=>some o)=some (o.getD z):=by cases o<;>rfl
theorem Jw{α:Type}[Inhabited α]{l:List α}{k:Nat}{x:α}(h:l[k]?=some x)(h0:0<k):at? l ((k:Int)-1)=some (l.getD (k-1) default):=by
 have hk:=(AK.1 h).1;have h1:k-1<l.length:=by omega
 rw[at_e (n:=k-1) (by omega) (AD h1)];simp[List.getD,h1]
theorem Yq{α:Type}[Inhabited α]{l:List α}{k:Nat}{x:α}(h:l[k]?=some x)(h0:0<k):l.getD (k-1) default∈l:=by
 have hk:=(AK.1 h).1;have h1:k-1<l.length:=by omega
 simp[List.getD,h1]
theorem Hx{α ω:Type}{f:Nat->α->Option ω}:∀(k:Nat) (l:List α) (o:ω),scan f k l=some o->∃i x,l[i]?=some x/\f (k+i) x=some o/\∀j y,j<i->l[j]?=some y->f (k+j) y=none
 |k,[],o,h=>by cases h
 |k,y :: l,o,h=>by
  unfold scan at h;split at h
  ·rename_i o' ho;cases h;exact⟨0,y,rfl,ho,fun j y h=>by omega⟩
  ·rename_i hn;obtain⟨i,x,h1,h2,h3⟩:=Hx (k+1) l o h;refine⟨i+1,x,by simpa using h1,by rwa [show k+(i+1)=k+1+i by omega],fun j z hj hz=>?_⟩;cases j with
   |zero=>simp at hz;subst hz;exact hn
   |succ j =>
    have:=h3 j z (by omega) (by simpa using hz)
    rwa [show k+(j+1)=k+1+j by omega]
section
variable {α U ω O:Type}
theorem Yr{body:O->Option (O⊕ω)}(st:Nat->O)(n:Nat)(hn:n<4611686018427387904)(hs:∀k,k<n->body (st k)=some (.inl (st (k+1)))){o:ω}(he:body (st n)=some (.inr o)){s:O}(h0:s=st 0):lp body s=some o:=by
 obtain⟨o',e,ho⟩:=QR (body:=body) st (fun k=>k<=n) (fun k=>n-k) (fun o'=>o'=o) (by
  intro k hk;by_cases h:k<n
  ·exact .inl ⟨k+1,hs k h,h,by omega⟩
  ·right;obtain rfl:k=n:=by omega
   exact⟨_,he,rfl⟩) 0 h0 (Dj _) (by omega)
 rw[e,ho]
theorem SP{body:O->Option (O⊕ω)}{l:List α}(st:Nat->O)(hl:l.length<4611686018427387904)(hs:∀k x,l[k]?=some x->body (st k)=some (.inl (st (k+1)))){o:ω}(he:body (st l.length)=some (.inr o)){s:O}(h0:s=st 0):lp body s=some o :=
 Yr st l.length hl (fun k hk=>hs k _ (AD hk)) he h0
theorem E4{l:List α}{k:Nat}{x:α}(h:l[k]?=some x):l.take (k+1)=l.take k++[x]:=by rw[List.take_add_one,h];rfl
theorem Jx{f:Nat->α->Option ω}{l:List α}(h:scan f 0 l=none){i:Nat}{x:α}(hx:l[i]?=some x):f i x=none:=by
 have:=Yp 0 l h i x hx
 rwa [Ci]at this
end
def SAsc(l:List Int):Prop:=l.Pairwise (· < ·)
theorem SQ(a:Int):∀l x,x∈Be a l↔x=a\/x∈l
 |[],x=>by simp[Be]
 |b :: l,x=>by
  unfold Be;cases decide (a<=b)
  ·show x∈b :: Be a l↔_;rw[AL,SQ a l x,AL];constructor
   ·rintro(h|h|h);·exact .inr (.inl h)
    ·exact .inl h
    ·exact .inr (.inr h)
   ·rintro(h|h|h);·exact .inr (.inl h)
    ·exact .inl h
    ·exact .inr (.inr h)
  ·show x∈a :: b :: l↔_;exact AL
theorem Ys(a:Int):∀l,SAsc l->a∉l->SAsc (Be a l)
 |[],_,_=>H9 _ _
 |b :: l,h,hn=>by
  obtain⟨h1,h2⟩:=J9.1 h;have dI:a≠b:=fun e=>hn (by simp[e]);have kT:a∉l:=fun e=>hn (by simp[e]);unfold Be;cases hd:decide (a<=b)
  ·have hd:=of_decide_eq_false hd;refine J9.2 ⟨fun c hc=>?_,Ys a l h2 kT⟩;rcases(SQ a l c).1 hc with rfl|hc
   ·omega
   ·exact h1 c hc
  ·have hd:=Ty hd;refine J9.2 ⟨fun c hc=>?_,h⟩;rcases AL.1 hc with rfl|hc
   ·omega
   ·have:=h1 c hc;omega
theorem SS:∀l x,x∈BD l↔x∈l
 |[],x=>Iff.rfl
 |a :: l,x=>by show x∈Be a (BD l)↔_;rw[SQ,SS l x,AL]
theorem Yt:∀l:List Int,l.Nodup->SAsc (BD l)
 |[],_=>List.Pairwise.nil
 |a :: l,h=>by obtain⟨h1,h2⟩:=List.nodup_cons.1 h;exact Ys a _ (Yt l h2) fun e=>h1 ((SS l a).1 e)
theorem Yu(a:Int):∀l,(Be a l).length=l.length+1
 |[]=>rfl
 |b :: l=>by
  unfold Be;cases decide (a<=b)
  ·show(b :: Be a l).length=_;simp[Yu a l]
  ·rfl
theorem Yv:∀l,(BD l).length=l.length
 |[]=>rfl
 |a :: l=>by show(Be a (BD l)).length=_;rw[Yu,Yv l];rfl
theorem NV(k:Int):∀(m:List (Int×Bool)),((mput keqI m k true).map (·.1))=if k∈m.map (·.1) then m.map (·.1) else m.map (·.1)++[k]
 |[]=>by simp[mput]
 |p :: m=>by
  unfold mput;by_cases h:k=p.1
  ·rw[show keqI k p.1=true by simp[keqI,h]];simp[h]
  ·rw[show keqI k p.1=false by simp[keqI,h]];simp only[JH];rw[NV k m];by_cases h2:k∈m.map (·.1)
   ·rw[An h2,An (CG _ h2)]
   ·rw[Ak h2,Ak (by simp only[AL,BW];exact⟨h,h2⟩)];rfl
theorem NW{k:Int}{m:List (Int×Bool)}(h:(m.map (·.1)).Nodup):((mput keqI m k true).map (·.1)).Nodup:=by
 rw[NV];split
 ·exact h
 ·rename_i hn;rw[List.nodup_append];exact⟨h,by simp,fun a ha b hb e=>by rw[Bi.1 hb]at e;subst e;exact hn ha⟩
theorem NX{k x:Int}{m:List (Int×Bool)}:x∈(mput keqI m k true).map (·.1)↔x∈m.map (·.1)\/x=k:=by
 rw[NV];split
 ·rename_i h;exact⟨.inl,fun h'=>h'.elim id fun e=>e▸h⟩
 ·simp only[Bh,Bi]
theorem NY{k:Int}{m:List (Int×Bool)}:(mput keqI m k true).length<=m.length+1:=by
 have:((mput keqI m k true).map (·.1)).length<=m.length+1:=by rw[NV];split<;>simp
 simpa using this
theorem NZ{l:List Int}{n:Int}(h:SAsc l)(hl:l.length<=1000000):∃m,Gi l n=some m/\SAsc m/\(∀x,x∈m↔x=n\/x∈l)/\m.length<=l.length+1:=by
 unfold Gi
 obtain⟨o,e,d,out,rfl,h1,h2,h3,h4⟩:=Cl (s:=(false,(0:Int),([]:List Int))) (body:=PF l n) (fun s=>∃k:Nat,∃d out,s=(d,(k:Int),out)/\k<=l.length/\SAsc out/\(∀x,x∈out↔(x=n/\d=true)\/(x∈l.take k/\x≠n))/\(d=false->∀x,x∈l.take k->x<n)/\(d=true->∀x,x∈l.drop k->n<=x)/\out.length<=k+d.toNat) (fun s=>(l.length-s.2.1).toNat) (fun o=>∃d out,o=(d,out)/\SAsc out/\(∀x,x∈out↔(x=n/\d=true)\/(x∈l/\x≠n))/\(d=false->∀x,x∈l->x<n)/\out.length<=l.length+d.toNat) (by
  rintro s ⟨k,d,out,rfl,hk,h1,h2,h3,h4,h5⟩;simp only[PF];by_cases hlt:k<l.length;rotate_left
  ·right;rw[it_n];rw[FT (by omega)]at h2 h3;exact⟨_,rfl,d,out,rfl,h1,h2,h3,by omega⟩
  left;have hx:=AD hlt;have bP:l.take (k+1)=l.take k++[l[k]]:=E4 hx;have d5:l.drop k=l[k] :: l.drop (k+1):=O0 hlt;have bu:∀x,x∈l.take k->x<l[k]:=fun x hx=>by obtain⟨i,hi,rfl⟩:=CF hx;rw[Df]at hi;rw[List.getElem_take];exact Lt.1 h i k (by omega) hlt (by omega)
  have bV:∀x,x∈l.drop (k+1)->l[k]<x:=fun x hx=>by obtain⟨i,hi,rfl⟩:=CF hx;rw[CO]at hi;rw[List.getElem_drop];exact Lt.1 h k (k+1+i) hlt (by omega) (by omega)
  generalize hy:l[k]=y at *;have bO:at? l (k:Int)=some y:=at_e rfl hx;rw[it_d]
  obtain⟨d',out',e1,g1,g2,g3,g4,g5⟩:∃d' out',(bd (gd (!d) (at? l (k:Int))) fun x1=>(ite' (bif (!d) then(decide (n<=x1)) else false) (ck (decide (List.length (out++[n])*8<=140737488355328))<|some (true,(out++[n]))) (some (d,out))))=some (d',out')/\SAsc out'/\(∀x,x∈out'↔(x=n/\d'=true)\/(x∈l.take k/\x≠n))/\(d'=false->y<n/\∀x,x∈l.take k->x<n)/\(d'=true->n<=y/\∀x,x∈l.drop k->n<=x)/\out'.length<=k+d'.toNat:=by
   cases d with
   |true =>simp only[Dn,AI,Ac,Cm];rw[AV];have hq:=h4 rfl;exact⟨true,out,rfl,h1,h2,fun e=>(by cases e),fun _=>⟨hq y (by rw[d5];exact BI ..),hq⟩,h5⟩
   |false =>
    simp only[DB,AN,BV];rw[bO];simp only[Ac];have hq:=h3 rfl;have jU:out.length<=k:=by simpa using h5
    by_cases hn:n<=y
    ·rw[it_d hn,ck_d (by simp;omega)];refine⟨true,_,rfl,?_,fun x=>?_,fun e=>(by cases e),fun _=>⟨hn,fun x hx=>?_⟩,by simp;omega⟩
     ·refine List.pairwise_append.2 ⟨h1,H9 _ _,fun a ha b hb=>?_⟩;rw[Bi.1 hb];rcases(h2 a).1 ha with ⟨_,e⟩|⟨e,_⟩
      ·cases e
      ·exact hq a e
     ·rw[Bh,h2,Bi];constructor
      ·rintro((⟨_,e⟩|e)|e);·cases e
       ·exact .inr e
       ·exact .inl ⟨e,rfl⟩
      ·rintro(⟨e,_⟩|e);·exact .inr e
       ·exact .inl (.inr e)
     ·rw[d5]at hx;rcases AL.1 hx with rfl|hx
      ·exact hn
      ·have:=bV x hx;omega
    ·rw[it_n hn];exact⟨false,out,rfl,h1,h2,fun _=>⟨by omega,hq⟩,fun e=>(by cases e),h5⟩
  have e1':(bd (gd (!d) (at? l (k:Int))) fun x1=>bd (α:=Bool×(List Int)) (ite' (bif (!d) then(decide (n<=x1)) else false) (ck (decide (List.length (out++[n])*8<=140737488355328))<|some (true,(out++[n]))) (some (d,out))) fun(done6',l1')=>bd (at? l (k:Int)) fun x2=>ite' (!decide (x2=n)) (bd (at? l (k:Int)) fun x3=>ck (decide (List.length (l1'++[x3])*8<=140737488355328))<|ck (Ax .i64 ((k:Int)+1))<|some (.inl (done6',((k:Int)+1),(l1'++[x3])))) (ck (Ax .i64 ((k:Int)+1))<|some (.inl (done6',((k:Int)+1),l1'))))=bd (at? l (k:Int)) fun x2=>ite' (!decide (x2=n)) (bd (at? l (k:Int)) fun x3=>ck (decide (List.length (out'++[x3])*8<=140737488355328))<|ck (Ax .i64 ((k:Int)+1))<|some ((.inl (d',((k:Int)+1),(out'++[x3])):(Bool×Int×List Int)⊕(Bool×List Int)))) (ck (Ax .i64 ((k:Int)+1))<|some (.inl (d',((k:Int)+1),out'))):=by
   cases hg:gd (!d) (at? l (k:Int)) with
   |none=>rw[hg]at e1;cases e1
   |some z =>rw[hg]at e1;simp only[Ac]at e1 |-;rw[e1];simp only[Ac]
  have jU:out'.length<=k+1:=by cases d'<;>simp at g5<;>omega
  rw[e1',bO];simp only[Ac];by_cases hn:y=n
  ·rw[AH hn,A7];refine⟨_,rfl,⟨k+1,d',out',rfl,hlt,g1,fun x=>?_,fun e=>?_,fun e x hx=>?_,by omega⟩,by simp only;omega⟩
   ·rw[g2,bP];simp only[Bh,Bi];constructor
    ·rintro(e|⟨e,e'⟩);·exact .inl e
     ·exact .inr ⟨.inl e,e'⟩
    ·rintro(e|⟨e|e,e'⟩);·exact .inl e
     ·exact .inr ⟨e,e'⟩
     ·exact absurd (e.trans hn) e'
   ·have:=(g3 e).1;omega
   ·have:=bV x hx;omega
  ·rw[AR hn,ck_d (by simp;omega),A7];refine⟨_,rfl,⟨k+1,d',out'++[y],rfl,hlt,?_,fun x=>?_,fun e x hx=>?_,fun e x hx=>?_,by simp;omega⟩,by simp only;omega⟩
   ·refine List.pairwise_append.2 ⟨g1,H9 _ _,fun a ha b hb=>?_⟩;rw[Bi.1 hb];rcases(g2 a).1 ha with ⟨e,e'⟩|⟨e,_⟩
    ·have:=(g4 e').1;omega
    ·exact bu a e
   ·rw[Bh,g2,bP,Bh];simp only[Bi];constructor
    ·rintro((e|⟨e,e'⟩)|rfl);·exact .inl e
     ·exact .inr ⟨.inl e,e'⟩
     ·exact .inr ⟨.inr rfl,hn⟩
    ·rintro(e|⟨e|e,e'⟩);·exact .inl (.inl e)
     ·exact .inl (.inr ⟨e,e'⟩)
     ·exact .inr e
   ·rw[bP]at hx;rcases Bh.1 hx with hx|hx
    ·exact(g3 e).2 x hx
    ·rw[Bi.1 hx];exact(g3 e).1
   ·exact(g4 e).2 x (by rw[d5];exact CG _ hx)) ⟨0,false,[],rfl,Dj _,List.Pairwise.nil,fun x=>by simp,fun _ x hx=>by simp at hx,fun e=>(by cases e),by simp⟩ (by simp only;omega)
 rw[e];simp only[Ac];cases d with
 |true =>
  rw[it_f (by rfl)];refine⟨out,rfl,h1,fun x=>?_,by simpa using h4⟩;rw[h2];constructor
  ·rintro(⟨e,_⟩|⟨e,_⟩);·exact .inl e
   ·exact .inr e
  ·rintro(e|e);·exact .inl ⟨e,rfl⟩
   ·by_cases hx:x=n;·exact .inl ⟨hx,rfl⟩
    ·exact .inr ⟨e,hx⟩
 |false =>
  have qe:out.length<=l.length:=by simpa using h4
  have hq:=h3 rfl;rw[it_t (by rfl),ck_d (by simp;omega)];refine⟨_,rfl,?_,fun x=>?_,by simp;omega⟩
  ·refine List.pairwise_append.2 ⟨h1,H9 _ _,fun a ha b hb=>?_⟩;rw[Bi.1 hb];rcases(h2 a).1 ha with ⟨_,e⟩|⟨e,_⟩
   ·cases e
   ·exact hq a e
  ·rw[Bh,h2,Bi];constructor
   ·rintro((⟨_,e⟩|⟨e,_⟩)|e);·cases e
    ·exact .inr e
    ·exact .inl e
   ·rintro(e|e);·exact .inr e
    ·exact .inl (.inr ⟨e,by have:=hq x e;omega⟩)
structure CSz(c:AM):Prop where
 len:c.Points.length<=1048576
 sz:∀p,p∈c.Points->Sz 1048576 p.Flow
def crvF(l:List AO)(k:Nat)(p:AO):Option Int :=
 if p.Stage < -1000\/2000<p.Stage then some 3 else if ¬Vd p.Flow\/p.Flow.Neg=true then some 1
 else if 0<k/\(p.Stage<=(l.getD (k-1) default).Stage\/rq p.Flow<rq (l.getD (k-1) default).Flow) then some 1 else none
def Ln(c:AM):Int:=if c.Points.length<1\/16<c.Points.length then 2 else(scan (crvF c.Points) 0 c.Points).getD 0
theorem Oa{p q:Rat}:cmpQ p q<0↔p<q:=by
 unfold cmpQ;split
 ·simp[*]
 ·split<;>simp[*]
theorem wz7j{c:AM}(h:CSz c):M3 c=some (Ln c):=by
 unfold M3 Ln;by_cases h1:c.Points.length<1
 ·rw[it_t (by simp;omega),An (.inl h1)]
 by_cases h2:16<c.Points.length
 ·rw[it_t (by simp;omega),An (.inr h2)]
 rw[it_f (by simp;omega),ifN];rw[Ea (l:=c.Points) (crvF c.Points) (by omega) ?_ ?_]
 ·simp only[Ac];exact Jv
 ·intro k p hp;have hk:=(AK.1 hp).1;have hm:=CB hp;have hz:=h.sz p hm;simp only[Qz];rw[it_d,at_e rfl hp];simp only[Ac,PT,crvF];by_cases p1:p.Stage < -1000\/2000<p.Stage
  ·rw[An p1,it_t (by rcases p1 with p1|p1<;>simp<;>omega)]
  rw[Ak p1,it_f (by simp;omega)];simp only[Qy];rw[WJ (hz.mono (by omega))];simp only[Ac];by_cases p2:¬Vd p.Flow\/p.Flow.Neg=true
  ·rw[An p2,it_t (by rcases p2 with p2|p2<;>simp[p2])]
  rw[Ak p2];have p3:Vd p.Flow:=Decidable.byContradiction fun e=>p2 (.inl e);have p4:p.Flow.Neg=false:=by simpa using fun e=>p2 (.inr e)
  rw[it_f (by simp[p3,p4])];by_cases h0:k=0
  ·subst h0;rw[ck_t (by simp),show decide ((0:Int)<((0:Nat):Int))=false by simp];simp only[L2,AI,Ac];rw[ck_t (by simp),ifN,it_f (by simp),A7]
  have h0:0<k:=by omega
  rw[ck_t (by simp[Ax];omega),show decide ((0:Int)<(k:Int))=true by simp;omega];simp only[On,AN];rw[Jw hp h0];simp only[Ac];have hq:=h.sz _ (Yq hp h0);generalize c.Points.getD (k-1) default=q at *;rw[ck_t (by simp[Ax];omega)];by_cases p5:p.Stage<=q.Stage
  ·rw[show decide (p.Stage<=q.Stage)=true by simp[p5]];simp only[Dn,AI,Ac];rw[An ⟨h0,.inl p5⟩,it_t (by simp)]
  ·rw[show decide (p.Stage<=q.Stage)=false by simp[p5]];simp only[DB,AN,Ac];rw[jz9 hz hq (by omega) (by omega) (by omega) (by omega)];simp only[Ac];by_cases p6:rq p.Flow<rq q.Flow
   ·rw[An ⟨h0,.inr p6⟩,it_t (by simp[Oa,p6])]
   ·rw[Ak (by simp[p5,p6]),it_f (by simp[Oa,p6]),A7]
 ·simp only[Qz];rw[it_n]
theorem jzbg{c:AM}(h:CSz c):M5 c=some (Ln c):=by
 unfold M5 Ln;by_cases h1:c.Points.length<1
 ·rw[it_t (by simp;omega),An (.inl h1)]
 by_cases h2:16<c.Points.length
 ·rw[it_t (by simp;omega),An (.inr h2)]
 rw[it_f (by simp;omega),ifN];rw[Ea (l:=c.Points) (crvF c.Points) (by omega) ?_ ?_]
 ·simp only[Ac];exact Jv
 ·intro k p hp;have hk:=(AK.1 hp).1;have hm:=CB hp;have hz:=h.sz p hm;simp only[Q0];rw[it_d,at_e rfl hp];simp only[Ac,crvF];by_cases p1:p.Stage < -1000\/2000<p.Stage
  ·rw[An p1,it_t (by rcases p1 with p1|p1<;>simp<;>omega)]
  rw[Ak p1,it_f (by simp;omega)];rw[WN (hz.mono (by omega))];simp only[Ac];by_cases p2:¬Vd p.Flow\/p.Flow.Neg=true
  ·rw[An p2,it_t (by rcases p2 with p2|p2<;>simp[p2])]
  rw[Ak p2];have p3:Vd p.Flow:=Decidable.byContradiction fun e=>p2 (.inl e);have p4:p.Flow.Neg=false:=by simpa using fun e=>p2 (.inr e)
  rw[it_f (by simp[p3,p4])];by_cases h0:k=0
  ·subst h0;rw[ck_t (by simp),show decide ((0:Int)<((0:Nat):Int))=false by simp];simp only[AI,Ac];rw[it_f (by simp),ck_t (by simp)];rw[ifN,it_f (by simp),A7]
  have h0:0<k:=by omega
  rw[ck_t (by simp[Ax];omega),show decide ((0:Int)<(k:Int))=true by simp;omega];simp only[AN];rw[Jw hp h0];simp only[Ac];have hq:=h.sz _ (Yq hp h0);generalize c.Points.getD (k-1) default=q at *;by_cases p5:p.Stage<=q.Stage
  ·rw[An ⟨h0,.inl p5⟩,it_t (by simp[p5])]
  ·rw[it_f (by simp[p5]),ck_t (by simp[Ax];omega),wzle hz hq (by omega) (by omega) (by omega) (by omega)];simp only[Ac];by_cases p6:rq p.Flow<rq q.Flow
   ·rw[An ⟨h0,.inr p6⟩,it_t (by simp[Oa,p6])]
   ·rw[Ak (by simp[p5,p6]),it_f (by simp[Oa,p6]),A7]
 ·simp only[Q0];rw[it_n]
def rlt(a b:Ae):Prop:=a.Gauge<b.Gauge\/a.Gauge=b.Gauge/\a.Seq<b.Seq
def rsm(a b:Ae):Prop:=a.Gauge=b.Gauge/\a.Seq=b.Seq
def rrp(a b:Ae):Prop:=a.Gauge=b.Gauge/\a.Seq=b.Seq/\a.From=b.From/\a.To=b.To/\a.Stage=b.Stage
instance (a b:Ae):Decidable (rlt a b):=by unfold rlt;infer_instance
instance (a b:Ae):Decidable (rsm a b):=by unfold rsm;infer_instance
instance (a b:Ae):Decidable (rrp a b):=by unfold rrp;infer_instance
def RR(r:Ae):Prop:=(0<=r.Gauge/\r.Gauge<=39)/\(0<=r.Seq/\r.Seq<=1099511627776)/\0<=r.From/\r.From<r.To/\r.To<=1402560/\(0<=r.Stage/\r.Stage<=1000)/\(0<=r.Known/\r.Known<=14609)
instance (r:Ae):Decidable (RR r):=by unfold RR;infer_instance
theorem Yw{a:Ae}:¬rlt a a:=by unfold rlt;omega
theorem Jy{a b c:Ae}(h:rlt a b)(k:rlt b c):rlt a c:=by unfold rlt at *;omega
theorem jztu{a b:Ae}(h:rlt a b):¬rlt b a:=by unfold rlt at *;omega
theorem Ob{a b:Ae}(h:rlt a b):¬rsm a b:=by unfold rlt at h;unfold rsm;omega
theorem ST{a b:Ae}(h:rlt a b):¬rsm b a:=by unfold rlt at h;unfold rsm;omega
theorem SU(a b:Ae):rlt a b\/rsm a b\/rlt b a:=by unfold rlt rsm;omega
theorem Yx(a:Ae):rsm a a:=⟨rfl,rfl⟩
theorem rsm.symm{a b:Ae}(h:rsm a b):rsm b a:=⟨h.1.symm,h.2.symm⟩
theorem rsm.trans{a b c:Ae}(h:rsm a b)(k:rsm b c):rsm a c:=⟨h.1.trans k.1,h.2.trans k.2⟩
theorem rrp.symm{a b:Ae}(h:rrp a b):rrp b a:=⟨h.1.symm,h.2.1.symm,h.2.2.1.symm,h.2.2.2.1.symm,h.2.2.2.2.symm⟩
theorem rrp.trans{a b c:Ae}(h:rrp a b)(k:rrp b c):rrp a c:=⟨h.1.trans k.1,h.2.1.trans k.2.1,h.2.2.1.trans k.2.2.1,h.2.2.2.1.trans k.2.2.2.1,h.2.2.2.2.trans k.2.2.2.2⟩
theorem rrp.eq{a b:Ae}(h:rrp a b)(k:a.Known=b.Known):a=b:=by obtain⟨h1,h2,h3,h4,h5⟩:=h;cases a;cases b;simp only at *;subst h1 h2 h3 h4 h5 k;rfl
theorem jzxz{a b c:Ae}(h:rlt a b)(k:rsm b c):rlt a c:=by unfold rlt rsm at *;omega
theorem jzrz{a b c:Ae}(k:rsm a b)(h:rlt b c):rlt a c:=by unfold rlt rsm at *;omega
def Asc(l:List Ae):Prop:=l.Pairwise rlt
structure Bk(l:List Ae):Prop where
 right:∀r,r∈l->RR r
 asc:Asc l
theorem Od:∀{D E:List Ae},Asc D->Asc E->(∀x,x∈D↔x∈E)->D=E
 |[],[],_,_,_=>rfl
 |[],e :: E,_,_,h=>by have:=(h e).2 (BI ..);cases this
 |d :: D,[],_,_,h=>by have:=(h d).1 (BI ..);cases this
 |d :: D,e :: E,hd,he,h=>by
  obtain⟨d1,d2⟩:=J9.1 hd;obtain⟨e1,e2⟩:=J9.1 he
  have mD:d=e:=by
   rcases AL.1 ((h d).1 (BI ..)) with p|p
   ·exact p
   ·rcases AL.1 ((h e).2 (BI ..)) with q|q;·exact q.symm
    ·exact absurd (d1 e q) (jztu (e1 d p))
  subst mD;rw[Od d2 e2 fun x=>⟨fun hx=>?_,fun hx=>?_⟩]
  ·rcases AL.1 ((h x).1 (CG _ hx)) with p|p;·subst p;exact absurd (d1 x hx) Yw
   ·exact p
  ·rcases AL.1 ((h x).2 (CG _ hx)) with p|p;·subst p;exact absurd (e1 x hx) Yw
   ·exact p
theorem Asc.one{l:List Ae}(h:Asc l){a b:Ae}(ha:a∈l)(hb:b∈l)(e:rsm a b):a=b:=by
 induction l with
 |nil=>cases ha
 |cons x l ih =>
  obtain⟨h1,h2⟩:=J9.1 h;rcases AL.1 ha with p|p<;>rcases AL.1 hb with q|q
  ·rw[p,q]
  ·subst p;exact absurd e (Ob (h1 b q))
  ·subst q;exact absurd e (ST (h1 a p))
  ·exact ih h2 p q
structure RCon(L:List Ae):Prop where
 right:∀r,r∈L->RR r
 rep:∀a b,a∈L->b∈L->rsm a b->rrp a b
def Best(L:List Ae)(x:Ae):Prop:=x∈L/\∀y,y∈L->rsm y x->x.Known<=y.Known
structure IsBk(L l:List Ae):Prop where
 asc:Asc l
 mem:∀x,x∈l↔Best L x
theorem IsBk.uniq{L l m:List Ae}(h:IsBk L l)(k:IsBk L m):l=m:=Od h.asc k.asc fun x=>(h.mem x).trans (k.mem x).symm
theorem RCon.sub{L M:List Ae}(h:∀x,x∈M->x∈L)(k:RCon L):RCon M := ⟨fun r hr=>k.right r (h r hr),fun a b ha hb=>k.rep a b (h a ha) (h b hb)⟩
theorem IsBk.bk{L l:List Ae}(h:IsBk L l)(c:RCon L):Bk l:=⟨fun r hr=>c.right r ((h.mem r).1 hr).1,h.asc⟩
theorem Yy:∀(n:Nat) {L:List Ae} {x:Ae},x∈L->(∀r,r∈L->0<=r.Known)->x.Known.toNat<=n->∃y,Best L y/\rsm y x
 |0,L,x,hx,hp,hn=>⟨x,⟨hx,fun y hy _=>by have:=hp y hy;have:=hp x hx;omega⟩,Yx _⟩
 |n+1,L,x,hx,hp,hn=>by
  by_cases h:∀y,y∈L->rsm y x->x.Known<=y.Known
  ·exact⟨x,⟨hx,h⟩,Yx _⟩
  ·simp only[Classical.not_forall,Int.not_le]at h;obtain⟨y,hy,hs,hl⟩:=h;obtain⟨z,hz,bm⟩:=Yy n hy hp (by have:=hp y hy;have:=hp x hx;omega);exact⟨z,hz,bm.trans hs⟩
theorem RCon.ex{L:List Ae}(c:RCon L){x:Ae}(hx:x∈L):∃y,Best L y/\rsm y x:=Yy _ hx (fun r hr=>(c.right r hr).2.2.2.2.2.2.1) (AC _)
theorem Bk.own{l:List Ae}(h:Bk l):IsBk l l:=⟨h.asc,fun x=>⟨fun hx=>⟨hx,fun y hy e=>by rw[h.asc.one hy hx e];exact L5 _⟩,fun h=>h.1⟩⟩
theorem Eb{l:List Ae}(h:Asc l){i j:Nat}(hi:i<l.length)(hj:j<l.length)(dD:i<j):rlt l[i] l[j]:=Lt.1 h i j hi hj dD
theorem Yz{α:Type}{l:List α}{k:Nat}{r x:α}:x∈insL l k r↔x∈l\/x=r:=by
 unfold insL
 conv=>rhs;rw[<-Tw k l]
 simp only[Bh,Bi];constructor
 ·rintro((h|h)|h);·exact .inl (.inl h)
  ·exact .inr h
  ·exact .inl (.inr h)
 ·rintro((h|h)|h);·exact .inl (.inl h)
  ·exact .inr h
  ·exact .inl (.inr h)
theorem Y0{α:Type}{l:List α}{k:Nat}{r:α}:(insL l k r).length=l.length+1:=by unfold insL;simp only[Ch,Df,CO,DE];omega
theorem jzxo{l:List Ae}(h:Asc l){k:Nat}{r:Ae}(bu:∀i,(hi:i<l.length)->i<k->rlt l[i] r)(bV:∀i,(hi:i<l.length)->k<=i->rlt r l[i]):Asc (insL l k r):=by
 unfold insL Asc;rw[List.pairwise_append,List.pairwise_append];refine⟨⟨List.Pairwise.sublist (List.take_sublist ..) h,H9 _ _,fun a ha b hb=>?_⟩,List.Pairwise.sublist (List.drop_sublist ..) h,fun a ha b hb=>?_⟩
 ·obtain⟨i,hi,rfl⟩:=CF ha;rw[Bi.1 hb,List.getElem_take];simp only[Df]at hi;exact bu i (by omega) (by omega)
 ·obtain⟨j,hj,rfl⟩:=CF hb;simp only[CO]at hj;rw[List.getElem_drop];have h2:=bV (k+j) (by omega) (by omega);rcases Bh.1 ha with ha|ha
  ·obtain⟨i,hi,rfl⟩:=CF ha;rw[List.getElem_take];simp only[Df]at hi;exact Jy (bu i (by omega) (by omega)) h2
  ·rw[Bi.1 ha];exact h2
theorem Y1{l:List Ae}(h:Asc l){k:Nat}(hk:k<l.length){r:Ae}(e:rsm l[k] r):Asc (l.set k r):=by
 unfold Asc;rw[Lt];intro i j hi hj dD;simp only[H6]at hi hj;simp only[List.getElem_set];by_cases h1:k=i
 ·subst h1;rw[An rfl,ifN];exact jzrz e.symm (Eb h hi hj dD)
 ·rw[Ak h1];by_cases h2:k=j
  ·subst h2;rw[An rfl];exact jzxz (Eb h hi hj dD) e
  ·rw[Ak h2];exact Eb h hi hj dD
theorem Y2{l:List Ae}(h:Asc l){k:Nat}(hk:k<l.length){r:Ae}(e:rsm l[k] r){x:Ae}:x∈l.set k r↔x=r\/x∈l/\¬rsm x r:=by
 constructor
 ·intro hx;obtain⟨i,hi,rfl⟩:=CF hx;simp only[H6]at hi;rw[List.getElem_set];by_cases h1:k=i
  ·rw[An h1];exact .inl rfl
  ·rw[Ak h1];refine .inr ⟨BH _,fun h2=>?_⟩;have h3:=h2.trans e.symm;by_cases h4:i<k
   ·exact Ob (Eb h hi hk h4) h3
   ·exact ST (Eb h hk hi (by omega)) h3
 ·rintro(rfl|⟨hx,hn⟩);·exact List.mem_iff_getElem.2 ⟨k,by simpa using hk,by simp⟩
  ·obtain⟨i,hi,rfl⟩:=CF hx;have h1:k≠i:=fun h1=>by subst h1;exact hn e
   exact List.mem_iff_getElem.2 ⟨i,by simpa using hi,by rw[List.getElem_set,Ak h1]⟩
theorem SW:KC=some true:=by decide +kernel
theorem Jz(r:Ae):F5 r=some (decide (RR r)):=by
 unfold F5 Im RR;simp only[Ac];by_cases h1:0<=r.Gauge/\r.Gauge<=39;rotate_left
 ·have e:(bif decide (0<=r.Gauge) then decide (r.Gauge<=39) else false)=false:=by
   by_cases h:0<=r.Gauge
   ·simp[h];omega
   ·simp[h]
  rw[e];simp[AI,Ac,h1]
 by_cases h2:0<=r.Seq/\r.Seq<=1099511627776;rotate_left
 ·have e:(bif decide (0<=r.Seq) then decide (r.Seq<=1099511627776) else false)=false:=by
   by_cases h:0<=r.Seq
   ·simp[h];omega
   ·simp[h]
  rw[e];simp[AN,AI,Ac,h1,h2]
 by_cases h3:(0<=r.From/\r.From<r.To)/\r.To<=1402560;rotate_left
 ·have e:(bif (bif (decide (0<=r.From)) then(decide (r.From<r.To)) else false) then(decide (r.To<=1402560)) else false)=false:=by
   rw[Fo,Fo,<-Bool.decide_and,<-Bool.decide_and,By h3]
  simp[AN,AI,Ac,h1,h2,h3]at e |-;by_cases f1:0<=r.From
  ·by_cases f2:r.From<r.To
   ·by_cases f3:r.To<=1402560;·omega
    ·simp[f1,f2,f3,AI,Ac]
   ·simp[f1,f2,AI,Ac]
  ·simp[f1,AI,Ac]
 by_cases h4:0<=r.Stage/\r.Stage<=1000;rotate_left
 ·have e:(bif decide (0<=r.Stage) then decide (r.Stage<=1000) else false)=false:=by
   by_cases h:0<=r.Stage
   ·simp[h];omega
   ·simp[h]
  simp[AN,AI,Ac,h1,h2,h3,e,h4]
 simp[AN,AI,Ac,h1,h2,h3,h4,Fo]
def rcmp(a b:Ae):Int:=if rlt a b then -1 else if rsm a b then 0 else 1
theorem Oe(x y:Int):ED x y=some (if x<y then -1 else if y<x then 1 else 0):=by
 unfold ED F7;simp only[Ac,decide_true,Dn];rw[AV,AV];by_cases h:x<y
 ·rw[it_d h,An h]
 ·rw[it_n h,Ak h];by_cases h2:y<x
  ·rw[it_d h2,An h2]
  ·rw[it_n h2,Ak h2]
theorem jzvz(x y:Int):Ml [x,y]=some (if x=0 then y else x):=by
 unfold Ml;rw[Ea (l:=[x,y]) (fun _ z=>if z=0 then none else some z) (by simp) ?_ ?_]
 ·by_cases hx:x=0
  ·subst hx;by_cases hy:y=0
   ·subst hy;rfl
   ·simp[scan,hy,sOut,Ac]
  ·simp[scan,hx,sOut,Ac]
 ·intro k z hz;have hk:=(AK.1 hz).1;simp only[PK];rw[it_d,at_e rfl hz];simp only[Ac];by_cases h:z=0
  ·rw[AH h,A7 (by simp at hk;omega),An h]
  ·rw[AR h,Ak h]
 ·simp only[PK];rw[it_n]
theorem SX(a b:Ae):Ep a b=some (rcmp a b):=by
 unfold Ep;rw[Oe,Oe];simp only[Ac];rw[jzvz];simp only[Ac];congr 1;unfold rcmp rlt rsm;by_cases h1:a.Gauge<b.Gauge
 ·simp[h1]
 ·by_cases h2:b.Gauge<a.Gauge;·simp[h1,h2,show ¬a.Gauge=b.Gauge by omega]
  ·have:a.Gauge=b.Gauge:=by omega
   by_cases h3:a.Seq<b.Seq
   ·simp[this,h3]
   ·by_cases h4:b.Seq<a.Seq;·simp[this,h3,h4,show ¬a.Seq=b.Seq by omega]
    ·simp[this,h3,h4,show a.Seq=b.Seq by omega]
theorem Of{a b:Ae}:rcmp a b<0↔rlt a b:=by
 unfold rcmp;split
 ·simp[*]
 ·split<;>simp[*]
theorem jzxw{a b:Ae}:rcmp a b=0↔rsm a b:=by
 unfold rcmp;split
 ·rename_i h;simp[Ob h]
 ·split<;>simp[*]
def rchF(l:List Ae)(k:Nat)(r:Ae):Option Int:=if RR r/\(0<k->rlt (l.getD (k-1) default) r) then none else some 1
def rchE(l:List Ae):Int:=if 4000<l.length then 2 else(scan (rchF l) 0 l).getD 0
theorem G8(l:List Ae):DO l=some (rchE l):=by
 unfold DO rchE;by_cases h0:4000<l.length
 ·rw[it_d,An h0]
 rw[it_n,Ak h0,Ea (l:=l) (rchF l) (by omega) ?_ ?_]
 ·simp only[Ac];exact Jv
 ·intro k x hx;have hk:=(AK.1 hx).1;simp only[Qx];rw[it_d,at_e rfl hx];simp only[Ac];rw[Jz];simp only[Ac,rchF];by_cases hr:RR x;rotate_left
  ·simp only[hr,decide_false,DB,Dn,L2,Bool.true_or];rw[FC,AI];simp only[Ac];rw[AI];simp only[Ac,BV];rw[BS,Ak (by simp)]
  simp only[hr,decide_true,Dn,DB,On];by_cases fV:k=0
  ·subst fV;simp only[Int.ofNat_zero,Int.natCast_zero,Int.lt_irrefl,decide_false,DB,Bool.true_or,Int.lt_irrefl,false_implies,and_true,Cn];rw[FC,AI];simp only[Ac];rw[AI];simp only[Ac,Cm];rw[AV,A7];rfl
  have dz:0<k:=by omega
  rw[show decide ((0:Int)<(k:Int))=true by simp;omega];rw[ck_t (by simp[Ax];omega),AN,Jw hx dz];simp only[Ac];rw[AN,SX];simp only[Ac,Cm,BV];by_cases hl:rlt (l.getD (k-1) default) x
  ·rw[it_n (by have:=Of.2 hl;omega),A7,An (⟨trivial,fun _=>hl⟩)]
  ·rw[it_d (by have:=mt Of.1 hl;omega),Ak (fun h=>hl (h.2 dz))]
 ·simp only[Qx];rw[it_n]
theorem J1{l:List Ae}:rchE l=0↔l.length<=4000/\Bk l:=by
 unfold rchE;by_cases h0:4000<l.length
 ·rw[An h0];exact⟨fun h=>(by cases h),fun h=>by omega⟩
 rw[Ak h0];constructor
 ·intro h;refine⟨by omega,?_⟩;cases hs:scan (rchF l) 0 l with
  |some o =>
   obtain⟨i,x,hx,hi,_⟩:=Hx 0 l o hs;rw[hs]at h;simp only[Lw]at h;unfold rchF at hi;split at hi
   ·cases hi
   ·cases hi;cases h
  |none =>
   have hn:∀i x,l[i]?=some x->RR x/\(0<i->rlt (l.getD (i-1) default) x):=fun i x hx=>by
    have:=Jx hs hx;unfold rchF at this;split at this
    ·assumption
    ·cases this
   refine⟨fun r hr=>?_,?_⟩
   ·obtain⟨i,hi,rfl⟩:=CF hr;exact(hn i _ (AD hi)).1
   ·have step:∀i,(hi:i+1<l.length)->rlt l[i] l[i+1]:=fun i hi=>by
     have:=(hn (i+1) _ (AD hi)).2 (by omega);simpa [List.getD,show i<l.length by omega] using this
    unfold Asc;rw[Lt];intro i j hi hj dD;induction j with
    |zero=>omega
    |succ j ih =>
     by_cases e:i=j
     ·subst e;exact step i hj
     ·exact Jy (ih (by omega) (by omega)) (step j hj)
 ·rintro⟨_,hb⟩;rw[SO]
  ·rfl
  ·intro i x hx;obtain⟨hi,rfl⟩:=AK.1 hx;unfold rchF;rw[An];refine⟨hb.right _ (BH _),fun h=>?_⟩;have:=Eb hb.asc (show i-1<l.length by omega) hi (by omega);simpa [List.getD,show i-1<l.length by omega] using this
theorem jzvi(a b:Ae):Il a b=some (decide (rrp a b)):=by unfold Il rrp;congr 1;rw[Fp];simp;exact FP.symm
theorem jzxs{l:List Ae}(hl:l.length<=4000)(ha:Asc l)(r:Ae):∃k:Nat,∃b:Bool,Ij l r (fun a0 a1=>Ep a0 a1)=some ((k:Int),b)/\k<=l.length/\(∀i,(hi:i<l.length)->i<k->rlt l[i] r)/\(∀i,(hi:i<l.length)->k<=i->¬rlt l[i] r)/\(b=true↔∃h:k<l.length,rsm l[k] r):=by
 unfold Ij
 obtain⟨o,e,k,rfl,hk,h1,h2⟩:=Cl (s:=((0:Int),(l.length:Int))) (body:=PD (fun a0 a1=>Ep a0 a1) r l) (fun s=>∃i j:Nat,s=((i:Int),(j:Int))/\i<=j/\j<=l.length/\(∀m,(hm:m<l.length)->m<i->rlt l[m] r)/\(∀m,(hm:m<l.length)->j<=m->¬rlt l[m] r)) (fun s=>(s.2-s.1).toNat) (fun o=>∃k:Nat,o=(k:Int)/\k<=l.length/\(∀m,(hm:m<l.length)->m<k->rlt l[m] r)/\(∀m,(hm:m<l.length)->k<=m->¬rlt l[m] r)) (by
  rintro s ⟨i,j,rfl,dD,hj,h1,h2⟩;simp only[PD];by_cases h:i<j;rotate_left
  ·right;rw[it_n];obtain rfl:i=j:=by omega
   exact⟨_,rfl,i,rfl,hj,h1,h2⟩
  left;have hm:Int.fdiv (((i:Int)+j)%18446744073709551616) 2=(((i+j) / 2:Nat):Int):=by rw[Int.emod_eq_of_lt (by omega) (by omega),Lr _ (by decide)];omega
  rw[it_d,A7,hm,A7];have hlt:(i+j) / 2<l.length:=by omega
  rw[at_e rfl (AD hlt)];simp only[Ac];rw[SX];simp only[Ac];by_cases hc:rlt l[(i+j) / 2] r
  ·rw[it_d (Of.2 hc),A7];refine⟨_,rfl,⟨(i+j) / 2+1,j,by simp,by omega,hj,fun m hm fG=>?_,h2⟩,by simp only;omega⟩;by_cases e:m=(i+j) / 2
   ·subst e;exact hc
   ·exact Jy (Eb ha hm hlt (by omega)) hc
  ·rw[it_n (mt Of.1 hc)];refine⟨_,rfl,⟨i,(i+j) / 2,rfl,by omega,by omega,h1,fun m hm fG hr=>?_⟩,by simp only;omega⟩;by_cases e:m=(i+j) / 2
   ·subst e;exact hc hr
   ·exact hc (Jy (Eb ha hlt hm (by omega)) hr)) ⟨0,l.length,by simp,Dj _,AC _,fun m hm h=>by omega,fun m hm h=>by omega⟩ (by simp;omega)
 rw[e];simp only[Ac];by_cases dr:k<l.length
 ·rw[show decide ((k:Int)<(l.length:Int))=true by simp;omega];simp only[AN,BV];rw[at_e rfl (AD dr)];simp only[Ac];rw[SX];simp only[Ac];exact⟨k,_,rfl,hk,h1,h2,by simp[dr,jzxw]⟩
 ·rw[show decide ((k:Int)<(l.length:Int))=false by simp;omega];simp only[AI,Cm,Ac];exact⟨k,_,rfl,hk,h1,h2,by simp[dr]⟩
structure jzx2(l m:List Ae)(r:Ae):Prop where
 asc:Asc m
 mem:∀y,y∈m↔y∈l\/y=r
 len:m.length=l.length+1
structure jzx0(l m:List Ae)(r:Ae):Prop where
 asc:Asc m
 mem:∀y,y∈m↔y=r\/y∈l/\¬rsm y r
 len:m.length=l.length
def RAcc(F:Option (List Ae×Int))(l:List Ae)(r:Ae):Prop :=
 (∃x,x∈l/\rsm x r/\((¬rrp x r/\F=some ([],24))\/(rrp x r/\x.Known<=r.Known/\F=some ([],9))\/(rrp x r/\¬x.Known<=r.Known/\∃m,F=some (m,0)/\jzx0 l m r)))
  \/ ((∀x,x∈l->¬rsm x r)/\((l.length=4000/\F=some ([],2))\/(l.length<4000/\∃m,F=some (m,0)/\jzx2 l m r)))
theorem jzyu{l:List Ae}{r:Ae}(h:rchE l≠0):Cb l r=some ([],rchE l):=by
 unfold Cb;have e:DP l r=some ([],rchE l):=by unfold DP;rw[G8];simp only[Ac];rw[AR h]
 rw[e]
theorem Y3{l:List Ae}{r:Ae}(h:rchE l=0)(hr:¬RR r):Cb l r=some ([],1):=by
 unfold Cb;have e:DP l r=some ([],1):=by unfold DP;rw[G8];simp only[Ac];rw[AH h,Jz];simp only[Ac];rw[AR hr]
 rw[e]
theorem Y4{l:List Ae}{r:Ae}(h:rchE l=0)(hr:RR r):RAcc (Cb l r) l r:=by
 obtain⟨hl,hb⟩:=J1.1 h;obtain⟨k,b,ef,hk,h1,h2,h3⟩:=jzxs hl hb.asc r;cases b
 ·have hn:∀x,x∈l->¬rsm x r:=fun x hx hs=>by
   obtain⟨i,hi,rfl⟩:=CF hx;by_cases dE:i<k
   ·exact Ob (h1 i hi dE) hs
   ·have eB:k<l.length:=(by omega);have h4:=h2 k eB (AC _);have h5:¬rsm l[k] r:=fun e=>by have:=h3.2 ⟨eB,e⟩;cases this
    rcases SU l[k] r with h|h|h
    ·exact h4 h
    ·exact h5 h
    ·by_cases e:i=k;·subst e;exact h5 hs
     ·exact ST (Jy h (Eb hb.asc eB hi (by omega))) hs
  refine .inr ⟨hn,?_⟩;by_cases h4:l.length=4000
  ·refine .inl ⟨h4,?_⟩;unfold Cb;have e:DP l r=some ([],2):=by unfold DP;rw[G8];simp only[Ac];rw[AH h,Jz];simp only[Ac];rw[AH hr,ef];simp only[Ac,DB,BV];rw[it_d]
   rw[e]
  ·refine .inr ⟨by omega,insL l k r,?_,?_,fun y=>Yz,Y0⟩;·unfold Cb;have e:DP l r=none:=(by unfold DP;rw[G8];simp only[Ac];rw[AH h,Jz];simp only[Ac];rw[AH hr,ef];simp only[Ac,DB,BV];rw[it_n,BS]);rw[e];unfold P8;rw[G8,Jz,ef];simp only[Ac];rw[ck_t (by simp[h,hr];omega)];rfl
   ·refine jzxo hb.asc h1 fun i hi jV=>?_;have eB:k<l.length:=(by omega);rcases SU l[i] r with h|h|h
    ·exact absurd h (h2 i hi jV)
    ·exact absurd h (hn _ (BH _))
    ·exact h
 ·obtain⟨eB,hs⟩:=h3.1 rfl;refine .inl ⟨l[k],BH _,hs,?_⟩
  have he:∀z,(bd (at? l (k:Int)) fun x1=>bd (Il x1 r) fun r5=>ite' (!r5) (some (([]:List Ae),(24:Int))) (bd (at? l (k:Int)) fun x2=>ite' (decide (x2.Known<=r.Known)) (some ([],9)) (bd (Tl l) fun r6=>bd (at? r6 (k:Int)) fun x3=>some ((List.set r6 (Int.toNat (k:Int)) r),0))))=some z->Cb l r=some z:=fun z hz=>by
   unfold Cb;have e:DP l r=some z:=by unfold DP;rw[G8];simp only[Ac];rw[AH h,Jz];simp only[Ac];rw[AH hr,ef];simp only[Ac,Dn,Cm];rw[AV,AV];exact hz
   rw[e]
  have ea:at? l (k:Int)=some l[k]:=at_e rfl (AD eB);rw[ea]at he;simp only[Ac]at he;rw[jzvi]at he;simp only[Ac]at he;by_cases hp:rrp l[k] r;rotate_left
  ·exact .inl ⟨hp,he _ (by rw[AR hp])⟩
  rw[AH hp]at he;by_cases hq:l[k].Known<=r.Known
  ·exact .inr (.inl ⟨hp,hq,he _ (by rw[it_d hq])⟩)
  rw[it_n hq]at he;refine .inr (.inr ⟨hp,hq,l.set k r,he _ ?_,Y1 hb.asc eB hs,fun y=>Y2 hb.asc eB hs,H6⟩);unfold Tl;rw[ck_t (by simp<;>omega)];simp only[Ac];rw[ea];simp only[Ac,CN]
theorem jztb{l:List Ae}(h:rchE l=0):Bk l:=(J1.1 h).2
theorem SY(r:Ae):Ks r=some (decide (RR r)):=by unfold Ks;congr 1;simp only[Fo];rw[Fp,FP];unfold RR;simp only[AE,Bp];omega
theorem Y5(a b:Ae):Kv a b=some (decide (rlt a b)):=by
 unfold Kv rlt;congr 1;rw[Fp];by_cases h1:a.Gauge<b.Gauge
 ·simp[h1]
 ·by_cases h2:a.Gauge=b.Gauge<;>simp[h1,h2]
theorem jzyt(a b:Ae):Mh a b=some (decide (rrp a b)):=by
 unfold Mh;congr 1;simp only[Fo];rw[Fp,FP];unfold rrp;simp only[AE,Bp];constructor
 ·rintro⟨⟨⟨⟨h1,h2⟩,h3⟩,h4⟩,h5⟩;exact⟨h1,h2,h3,h4,h5⟩
 ·rintro⟨h1,h2,h3,h4,h5⟩;exact⟨⟨⟨⟨h1,h2⟩,h3⟩,h4⟩,h5⟩
theorem Lp(l:List Ae):Ir l=some (rchE l):=by
 unfold Ir rchE;by_cases h0:4000<l.length
 ·rw[it_d,An h0]
 rw[it_n,Ak h0,Ea (l:=l) (rchF l) (by omega) ?_ ?_]
 ·simp only[Ac];exact Jv
 ·intro k x hx;have hk:=(AK.1 hx).1;simp only[Qa];rw[it_d,at_e rfl hx];simp only[Ac];rw[SY];simp only[Ac,rchF];by_cases fV:k=0
  ·subst fV;rw[show decide (((0:Nat):Int)=0)=true by simp];simp only[Dn,DB,Bool.true_or,AI,Ac,BV,Cm];rw[FC];by_cases hr:RR x
   ·rw[it_f (by simp[hr]),A7,An ⟨hr,fun h=>by omega⟩]
   ·rw[it_t (by simp[hr]),Ak (fun h=>hr h.1)]
  have dz:0<k:=by omega
  rw[show decide ((k:Int)=0)=false by simp;omega];simp only[Dn,DB,Bool.false_or,AN,Cm];rw[A7,show max 0 ((k:Int)-1)=(k:Int)-1 by omega,Jw hx dz];simp only[Ac];rw[Y5];simp only[Ac];by_cases hr:RR x
  ·by_cases hl:rlt (l.getD (k-1) default) x;·rw[it_f (by rw[BF hr,BF hl];rfl),A7,An ⟨hr,fun _=>hl⟩]
   ·rw[it_t (by rw[BF hr,By hl];rfl),Ak (fun h=>hl (h.2 dz))]
  ·rw[it_t (by simp[hr]),Ak (fun h=>hr h.1)]
 ·simp only[Qa];rw[it_n]
theorem jzyp{l:List Ae}(hl:l.length<=1000000)(r:Ae):(Ku l r=some (-1)/\∀x,x∈l->¬rsm x r)\/∃k,∃h:k<l.length,Ku l r=some (k:Int)/\rsm l[k] r:=by
 unfold Ku;rw[Ea (l:=l) (fun k x=>if rsm x r then some (k:Int) else none) (by omega) ?_ ?_]
 ·cases hs:scan (fun k x=>if rsm x r then some (k:Int) else none) 0 l with
  |none =>left;refine⟨rfl,fun x hx e=>?_⟩;obtain⟨i,hi,rfl⟩:=CF hx;have:=Jx hs (AD hi);rw[An e]at this;cases this
  |some o =>
   right;obtain⟨i,x,hx,hi,_⟩:=Hx 0 l o hs;obtain⟨fw,rfl⟩:=AK.1 hx;split at hi
   ·rename_i e;cases hi;exact⟨i,fw,by simp[sOut,Ac],e⟩
   ·cases hi
 ·intro k x hx;have hk:=(AK.1 hx).1;simp only[PE];rw[it_d,at_e rfl hx];simp only[Ac];by_cases h:x.Gauge=r.Gauge
  ·simp only[h,decide_true,AN,Ac,BV];by_cases h2:x.Seq=r.Seq
   ·rw[it_d h2,An ⟨h,h2⟩]
   ·rw[it_n h2,A7,Ak (fun e=>h2 e.2)]
  ·simp only[h,decide_false,AI,Ac,Cm];rw[AV,A7,Ak (fun e=>h e.1)]
 ·simp only[PE];rw[it_n]
theorem jzy6{l:List Ae}{r:Ae}{F G:Option (List Ae×Int)}(h:Asc l)(hF:RAcc F l r)(hG:RAcc G l r):F=G:=by
 rcases hF with ⟨x,hx,hs,a⟩|⟨hn,a⟩<;>rcases hG with ⟨y,hy,ht,b⟩|⟨hm,b⟩
 ·obtain rfl:=h.one hx hy (hs.trans ht.symm);rcases a with ⟨p,e⟩|⟨p,q,e⟩|⟨p,q,m,e,hm⟩<;>rcases b with ⟨p',e'⟩|⟨p',q',e'⟩|⟨p',q',m',e',bE⟩<;>first|exact absurd ‹rrp x r› ‹¬rrp x r›|exact absurd ‹x.Known<=r.Known› ‹¬x.Known<=r.Known›|(rw[e,e'];done)|skip
  rw[e,e',Od hm.asc bE.asc fun z=>(hm.mem z).trans (bE.mem z).symm]
 ·exact absurd hs (hm x hx)
 ·exact absurd ht (hn y hy)
 ·rcases a with ⟨p,e⟩|⟨p,m,e,hm⟩<;>rcases b with ⟨p',e'⟩|⟨p',m',e',bE⟩;·rw[e,e']
  ·omega
  ·omega
  ·rw[e,e',Od hm.asc bE.asc fun z=>(hm.mem z).trans (bE.mem z).symm]
def bkP(b:BC):List Ae×Int:=(b.L,b.E)
theorem jzy2{l:List Ae}{r:Ae}(h:rchE l≠0):F9 l r=some ⟨[],rchE l⟩:=by unfold F9;rw[Lp];simp only[Ac];rw[AR h]
theorem jzy1{l:List Ae}{r:Ae}(h:rchE l=0)(hr:¬RR r):F9 l r=some ⟨[],1⟩:=by unfold F9;rw[Lp];simp only[Ac];rw[AH h,SY];simp only[Ac];rw[AR hr]
theorem jzys{l:List Ae}{r:Ae}(h:rchE l=0)(hr:RR r):∃b,F9 l r=some b/\RAcc (some (bkP b)) l r:=by
 obtain⟨hl,hb⟩:=J1.1 h;unfold F9;rw[Lp];simp only[Ac];rw[AH h,SY];simp only[Ac];rw[AH hr];rcases jzyp (l:=l) (by omega) r with ⟨e,hn⟩|⟨k,hk,e,hs⟩
 ·rw[e];simp only[Ac];rw[it_n (by decide)];by_cases h4:l.length=4000
  ·rw[it_d];exact⟨_,rfl,.inr ⟨hn,.inl ⟨h4,rfl⟩⟩⟩
  rw[it_n]
  obtain⟨o,e2,d,out,rfl,h1,h2,h3,h5⟩:=Cl (s:=(false,(0:Int),([]:List Ae))) (body:=Qq l r) (fun s=>∃k:Nat,∃d out,s=(d,(k:Int),out)/\k<=l.length/\Asc out/\(∀x,x∈out↔(x=r/\d=true)\/x∈l.take k)/\(d=false->∀x,x∈l.take k->rlt x r)/\(d=true->∀x,x∈l.drop k->rlt r x)/\out.length=k+d.toNat) (fun s=>(l.length-s.2.1).toNat) (fun o=>∃d out,o=(d,out)/\Asc out/\(∀x,x∈out↔(x=r/\d=true)\/x∈l)/\(d=false->∀x,x∈l->rlt x r)/\out.length=l.length+d.toNat) (by
   rintro s ⟨k,d,out,rfl,hk,h1,h2,h3,h4,h5⟩;simp only[Qq];by_cases hlt:k<l.length;rotate_left
   ·right;rw[it_n];rw[FT (by omega)]at h2 h3;exact⟨_,rfl,d,out,rfl,h1,h2,h3,by omega⟩
   left;have hx:=AD hlt;have bP:l.take (k+1)=l.take k++[l[k]]:=E4 hx;have d5:l.drop k=l[k] :: l.drop (k+1):=O0 hlt;have bu:∀x,x∈l.take k->rlt x l[k]:=fun x hx=>by obtain⟨i,hi,rfl⟩:=CF hx;rw[Df]at hi;rw[List.getElem_take];exact Eb hb.asc (by omega) hlt (by omega)
   have bV:∀x,x∈l.drop (k+1)->rlt l[k] x:=fun x hx=>by obtain⟨i,hi,rfl⟩:=CF hx;rw[CO]at hi;rw[List.getElem_drop];exact Eb hb.asc hlt (by omega) (by omega)
   have gr:=hn l[k] (BH _);generalize l[k]=y at *;have bO:at? l (k:Int)=some y:=at_e rfl hx;rw[it_d,bO];simp only[Ac];rw[Y5];simp only[Ac]
   have step:∀d' out',Asc out'->(∀x,x∈out'↔(x=r/\d'=true)\/x∈l.take k)->(d'=false->rlt y r/\∀x,x∈l.take k->rlt x r)->(d'=true->rlt r y)->out'.length=k+d'.toNat -> ∃k':Nat,∃d out,((d',((k:Int)+1),(out'++[y])):Bool×Int×List Ae)=(d,(k':Int),out)/\k'<=l.length/\Asc out/\(∀x,x∈out↔(x=r/\d=true)\/x∈l.take k')/\(d=false->∀x,x∈l.take k'->rlt x r)/\(d=true->∀x,x∈l.drop k'->rlt r x)/\out.length=k'+d.toNat:=by
    intro d' out' g1 g2 g3 g4 g5;refine⟨k+1,d',_,rfl,hlt,?_,fun x=>?_,fun e x hx=>?_,fun e x hx=>Jy (g4 e) (bV x hx),by simp;omega⟩
    ·refine List.pairwise_append.2 ⟨g1,H9 _ _,fun a ha b hb=>?_⟩;rw[Bi.1 hb];rcases(g2 a).1 ha with ⟨e,e'⟩|e
     ·rw[e];exact g4 e'
     ·exact bu a e
    ·rw[Bh,g2,bP,Bh,or_assoc]
    ·rw[bP]at hx;rcases Bh.1 hx with hx|hx
     ·exact(g3 e).2 x hx
     ·rw[Bi.1 hx];exact(g3 e).1
   have dF:out.length<=k+1:=by cases d<;>simp at h5<;>omega
   cases d with
   |true =>rw[it_f (by simp)];simp only[Ac];rw[ck_d (by simp;omega),A7];exact⟨_,rfl,step true out h1 h2 (fun e=>by cases e) (fun e=>h4 e y (by rw[d5];exact BI ..)) h5,by simp only;omega⟩
   |false =>
    have jU:out.length=k:=(by simpa using h5);by_cases hc:rlt r y
    ·rw[it_t (by simp[hc]),ck_d (by simp;omega)];simp only[Ac];rw[ck_d (by simp;omega),A7];refine⟨_,rfl,step true (out++[r]) ?_ (fun x=>?_) (fun e=>by cases e) (fun _=>hc) (by simp;omega),by simp only;omega⟩
     ·refine List.pairwise_append.2 ⟨h1,H9 _ _,fun a ha b hb=>?_⟩;rw[Bi.1 hb];rcases(h2 a).1 ha with ⟨_,e⟩|e
      ·cases e
      ·exact h3 rfl a e
     ·rw[Bh,h2,Bi];constructor
      ·rintro((⟨_,e⟩|e)|e);·cases e
       ·exact .inr e
       ·exact .inl ⟨e,rfl⟩
      ·rintro(⟨e,_⟩|e);·exact .inr e
       ·exact .inl (.inr e)
    ·rw[it_f (by simp[hc])];simp only[Ac];rw[ck_d (by simp;omega),A7];refine⟨_,rfl,step false out h1 h2 (fun _=>⟨?_,h3 rfl⟩) (fun e=>by cases e) h5,by simp only;omega⟩;rcases SU y r with h|h|h
     ·exact h
     ·exact absurd h gr
     ·exact absurd h hc) ⟨0,false,[],rfl,Dj _,List.Pairwise.nil,fun x=>by simp,fun _ x hx=>by simp at hx,fun e=>(by cases e),by simp⟩ (by simp only;omega)
  rw[e2];simp only[Ac];cases d with
  |true =>
   rw[it_f (by rfl)];refine⟨_,rfl,.inr ⟨hn,.inr ⟨by omega,out,rfl,h1,fun y=>?_,by simpa using h5⟩⟩⟩;rw[h2];constructor
   ·rintro(⟨e,_⟩|e);·exact .inr e
    ·exact .inl e
   ·rintro(e|e);·exact .inr e
    ·exact .inl ⟨e,rfl⟩
  |false =>
   have jU:out.length=l.length:=by simpa using h5
   rw[it_t (by rfl),ck_d (by simp;omega)];refine⟨_,rfl,.inr ⟨hn,.inr ⟨by omega,out++[r],rfl,?_,fun y=>?_,by simp;omega⟩⟩⟩
   ·refine List.pairwise_append.2 ⟨h1,H9 _ _,fun a ha b hb=>?_⟩;rw[Bi.1 hb];rcases(h2 a).1 ha with ⟨_,e⟩|e
    ·cases e
    ·exact h3 rfl a e
   ·rw[Bh,h2,Bi];constructor
    ·rintro((⟨_,e⟩|e)|e);·cases e
     ·exact .inl e
     ·exact .inr e
    ·rintro(e|e);·exact .inl (.inr e)
     ·exact .inr e
 ·rw[e];have ea:at? l (k:Int)=some l[k]:=at_e rfl (AD hk);simp only[Ac];rw[it_d,ea];simp only[Ac];rw[jzyt];simp only[Ac];by_cases hp:rrp l[k] r;rotate_left
  ·rw[By hp];simp only[AI,Ac,Cm,DB];rw[AV,BS];exact⟨_,rfl,.inl ⟨l[k],BH _,hs,.inl ⟨hp,rfl⟩⟩⟩
  rw[BF hp];simp only[AN,Ac,BV,Dn];by_cases hq:l[k].Known<=r.Known
  ·rw[it_d hq];exact⟨_,rfl,.inl ⟨l[k],BH _,hs,.inr (.inl ⟨hp,hq,rfl⟩)⟩⟩
  rw[it_n hq,AV,Ot,ck_d,ea];simp only[Ac,CN];exact⟨_,rfl,.inl ⟨l[k],BH _,hs,.inr (.inr ⟨hp,hq,_,rfl,Y1 hb.asc hk hs,fun y=>Y2 hb.asc hk hs,H6⟩)⟩⟩
theorem jzza(l:List Ae)(r:Ae):∃b,F9 l r=some b/\Cb l r=some (bkP b):=by
 by_cases h:rchE l=0;rotate_left
 ·exact⟨_,jzy2 h,jzyu h⟩
 by_cases hr:RR r
 ·obtain⟨b,e,hb⟩:=jzys h hr;exact⟨b,e,jzy6 (jztb h).asc (Y4 h hr) hb⟩
 ·exact⟨_,jzy1 h hr,Y3 h hr⟩
theorem qzya(l:List Ae):Mg l 20=some (decide (l.length<=20\/4000<l.length/\l.length<=4010)):=by
 unfold Mg;congr 1;rw[Fp];by_cases h:l.length<=20
 ·rw[show decide ((l.length:Int)<=20)=true by simp;omega];simp[h]
 ·rw[show decide ((l.length:Int)<=20)=false by simp;omega];simp only[Fo,Cm,AE,Bp];omega
section
variable {U:Type}
def Cd(f:Int->U)(b:Int):Option U->Int->List (Int×Int×U)->Prop
 |_,a,[]=>a=b
 |v,a,p :: l=>p.1=a/\a<p.2.1/\(∀x,a<=x->x<p.2.1->f x=p.2.2)/\v≠some p.2.2/\Cd f b (some p.2.2) p.2.1 l
theorem Cd.le{f:Int->U}{b:Int}:∀{l:List (Int×Int×U)} {v:Option U} {a:Int},Cd f b v a l->a<=b
 |[],_,_,h=>Int.le_of_eq h
 |p :: l,_,_,h=>by obtain⟨_,h1,_,_,h2⟩:=h;have:=h2.le;omega
theorem Cd.uniq{f:Int->U}{b:Int}:∀{l m:List (Int×Int×U)} {v w:Option U} {a:Int},Cd f b v a l->Cd f b w a m->l=m
 |[],[],_,_,_,_,_=>rfl
 |[],q :: m,_,_,_,h,k=>by obtain⟨_,k1,_,_,k2⟩:=k;have h:_=_:=h;have:=k2.le;omega
 |p :: l,[],_,_,_,h,k=>by obtain⟨_,k1,_,_,k2⟩:=h;have k:_=_:=k;have:=k2.le;omega
 |p :: l,q :: m,v,w,a,h,k=>by
  obtain⟨h1,h2,h3,h4,h5⟩:=h;obtain⟨k1,k2,k3,k4,k5⟩:=k;have e3:p.2.2=q.2.2:=by rw[<-h3 a (L5 _) h2,<-k3 a (L5 _) k2]
  have gen:∀{l:List (Int×Int×U)} {p q:Int×Int×U} {b:Int},p.2.2=q.2.2->a<p.2.1->p.2.1<q.2.1->q.2.1<=b->(∀x,a<=x->x<q.2.1->f x=q.2.2)->Cd f b (some p.2.2) p.2.1 l->False:=by
   intro l p q b e u1 u2 u3 u4 u5;cases l with
   |nil=>have u5:_=_:=u5;omega
   |cons r l =>obtain⟨r1,r2,r3,r4,_⟩:=u5;apply r4;rw[<-r3 _ (L5 _) r2,u4 _ (by omega) u2,e]
  have e2:p.2.1=q.2.1:=by
   rcases Int.lt_trichotomy p.2.1 q.2.1 with c|c|c
   ·exact(gen e3 h2 c k5.le k3 h5).elim
   ·exact c
   ·exact(gen e3.symm k2 c h5.le h3 k5).elim
  have e:p=q:=by obtain⟨p1,p2,p3⟩:=p;obtain⟨q1,q2,q3⟩:=q;simp only at *;rw[h1,k1,e2,e3]
  subst e;rw[h5.uniq k5]
def jn[DecidableEq U](l:List (Int×Int×U))(p:Int×Int×U):List (Int×Int×U):=match l.getLast? with
 |some q=>if q.2.2=p.2.2 then l.dropLast++[(q.1,p.2.1,q.2.2)] else l++[p]
 |none=>[p]
theorem Cd.app{f:Int->U}:∀{l:List (Int×Int×U)} {v:Option U} {a b:Int} {p:Int×Int×U},Cd f b v a l->p.1=b->b<p.2.1->(∀x,b<=x->x<p.2.1->f x=p.2.2)->((l.getLast?.map (·.2.2)).or v≠some p.2.2)->Cd f p.2.1 v a (l++[p])
 |[],v,a,b,p,h,h1,h2,h3,h4=>by obtain rfl:a=b:=h;exact⟨h1,h2,h3,by simpa using h4,rfl⟩
 |q :: l,v,a,b,p,h,h1,h2,h3,h4=>by
  obtain⟨k1,k2,k3,k4,k5⟩:=h;refine⟨k1,k2,k3,k4,k5.app h1 h2 h3 ?_⟩;cases l with
  |nil=>simpa using h4
  |cons r l=>rw[List.getLast?_cons_cons]at h4;rw[List.getLast?_cons]at *;simpa using h4
theorem Cd.ext{f:Int->U}:∀{l:List (Int×Int×U)} {v:Option U} {a b c:Int} {q:Int×Int×U},Cd f b v a (l++[q])->b<c->(∀x,b<=x->x<c->f x=q.2.2)->Cd f c v a (l++[(q.1,c,q.2.2)])
 |[],v,a,b,c,q,h,h1,h2=>by
  obtain⟨k1,k2,k3,k4,k5⟩:=h;have k5:q.2.1=b:=k5;refine⟨k1,by show a<c;omega,fun x x1 x2=>?_,k4,rfl⟩;by_cases hx:x<q.2.1
  ·exact k3 x x1 hx
  ·exact h2 x (by omega) x2
 |r :: l,v,a,b,c,q,h,h1,h2=>by obtain⟨k1,k2,k3,k4,k5⟩:=h;exact⟨k1,k2,k3,k4,k5.ext h1 h2⟩
theorem Cd.jn[DecidableEq U]{f:Int->U}{l:List (Int×Int×U)}{a b:Int}{p:Int×Int×U}(h:Cd f b none a l)(h1:p.1=b)(h2:b<p.2.1)(h3:∀x,b<=x->x<p.2.1->f x=p.2.2):Cd f p.2.1 none a (jn l p):=by
 unfold Am.jn;cases e:l.getLast? with
 |none =>obtain rfl:=List.getLast?_eq_none_iff.1 e;exact Cd.app h h1 h2 h3 (by simp)
 |some q =>
  obtain⟨m,rfl⟩:=List.getLast?_eq_some_iff.1 e;simp only;split
  ·rename_i e2;rw[List.dropLast_concat];exact h.ext h2 fun x x1 x2=>by rw[e2];exact h3 x x1 x2
  ·rename_i e2;exact h.app h1 h2 h3 (by simpa using e2)
theorem Cd.mem{f:Int->U}{b:Int}:∀{l:List (Int×Int×U)} {v:Option U} {a:Int},Cd f b v a l->∀p,p∈l->p.1<p.2.1/\a<=p.1/\p.2.1<=b/\∀x,p.1<=x->x<p.2.1->f x=p.2.2
 |q :: l,v,a,h,p,hp=>by
  obtain⟨k1,k2,k3,k4,k5⟩:=h;have hl:=k5.le;rcases AL.1 hp with e|e
  ·subst e;exact⟨by omega,by omega,hl,fun x x1 x2=>k3 x (by omega) x2⟩
  ·obtain⟨m1,m2,m3,m4⟩:=k5.mem p e;exact⟨m1,by omega,m3,m4⟩
theorem Cd.ex{f:Int->U}{b:Int}:∀{l:List (Int×Int×U)} {v:Option U} {a:Int},Cd f b v a l->∀x,a<=x->x<b->∃p,p∈l/\p.1<=x/\x<p.2.1
 |[],v,a,h,x,h1,h2=>by have h:a=b:=h;omega
 |q :: l,v,a,h,x,h1,h2=>by
  obtain⟨k1,k2,k3,k4,k5⟩:=h;by_cases hx:x<q.2.1
  ·exact⟨q,BI ..,by omega,hx⟩
  ·obtain⟨p,hp,e⟩:=k5.ex x (by omega) h2;exact⟨p,CG _ hp,e⟩
theorem Cd.one{f:Int->U}{b:Int}:∀{l:List (Int×Int×U)} {v:Option U} {a:Int},Cd f b v a l->∀p q,p∈l->q∈l->∀x,p.1<=x->x<p.2.1->q.1<=x->x<q.2.1->p=q
 |r :: l,v,a,h,p,q,hp,hq,x,p1,p2,q1,q2=>by
  obtain⟨k1,k2,k3,k4,k5⟩:=h;rcases AL.1 hp with e|e<;>rcases AL.1 hq with e'|e'
  ·rw[e,e']
  ·have:=(k5.mem q e').2.1;subst e;omega
  ·have:=(k5.mem p e).2.1;subst e';omega
  ·exact k5.one p q e e' x p1 p2 q1 q2
end
def vlt(a b:Ah):Prop:=a.Gauge<b.Gauge\/a.Gauge=b.Gauge/\a.Seq<b.Seq
instance (a b:Ah):Decidable (vlt a b):=by unfold vlt;infer_instance
def VRi(v:Ah):Prop:=((0<=v.Gauge/\v.Gauge<=39)/\(0<=v.Seq/\v.Seq<=1099511627776)/\(0<=v.Known/\v.Known<=14609)/\0<=v.From/\v.From<v.To/\v.To<=1402560) /\ ((v.Kind=1/\v.Shift=0/\Ln v.Curve=0)\/(v.Kind=2/\v.Curve.Points.length=0/\-1000<=v.Shift/\v.Shift<=1000)\/(v.Kind=3/\v.Curve.Points.length=0/\-960<=v.Shift/\v.Shift<=960))
noncomputable instance(v:Ah):Decidable (VRi v):=Classical.propDecidable _
theorem Y6{v:Ah}(x:Bool)(h:((0<=v.Gauge/\v.Gauge<=39)/\(0<=v.Seq/\v.Seq<=1099511627776)/\(0<=v.Known/\v.Known<=14609)/\0<=v.From/\v.From<v.To/\v.To<=1402560)):(bif (bif (bif (bif (bif (bif (bif (bif (decide (v.Gauge<0)) then true else(decide (40<=v.Gauge))) then true else(decide (v.Seq<0))) then true else(decide (1099511627776<v.Seq))) then true else(decide (v.Known<0))) then true else(decide (14609<v.Known))) then true else(decide (v.From<0))) then true else(decide (v.To<=v.From))) then true else(decide (1402560<v.To)))=false:=by simp only[JD,Tp,O7];omega
theorem Y7{v:Ah}(h:¬((0<=v.Gauge/\v.Gauge<=39)/\(0<=v.Seq/\v.Seq<=1099511627776)/\(0<=v.Known/\v.Known<=14609)/\0<=v.From/\v.From<v.To/\v.To<=1402560)):(bif (bif (bif (bif (bif (bif (bif (bif (decide (v.Gauge<0)) then true else(decide (40<=v.Gauge))) then true else(decide (v.Seq<0))) then true else(decide (1099511627776<v.Seq))) then true else(decide (v.Known<0))) then true else(decide (14609<v.Known))) then true else(decide (v.From<0))) then true else(decide (v.To<=v.From))) then true else(decide (1402560<v.To)))=true:=by simp only[JD,Fq,Bp];omega
theorem Hy{v:Ah}(hc:CSz v.Curve):Hb v=some (decide (VRi v)):=by
 unfold Hb;by_cases h:((0<=v.Gauge/\v.Gauge<=39)/\(0<=v.Seq/\v.Seq<=1099511627776)/\(0<=v.Known/\v.Known<=14609)/\0<=v.From/\v.From<v.To/\v.To<=1402560);rotate_left
 ·rw[it_t (Y7 h),By (fun e:VRi v=>h e.1)]
 rw[it_f (Y6 true h)];by_cases k1:v.Kind=1
 ·rw[it_d k1];by_cases s0:v.Shift=0
  ·rw[BF s0];simp only[AN,BV];rw[wz7j hc];simp only[Ac];congr 1;rw[Fp,FP,FP];constructor
   ·intro e;exact⟨h,.inl ⟨k1,s0,e⟩⟩
   ·rintro⟨_,⟨_,_,e⟩|⟨e,_⟩|⟨e,_⟩⟩;·exact e
    ·omega
    ·omega
  ·rw[By s0];simp only[AI,Ac,Cm];rw[By];rintro⟨_,⟨_,e,_⟩|⟨e,_⟩|⟨e,_⟩⟩<;>omega
 rw[it_n k1]
 have hm:mget keqI (mput keqI (mput keqI ([]:List (Int×Int)) 2 1000) 3 960) v.Kind=if v.Kind=2 then some 1000 else if v.Kind=3 then some 960 else none:=by
  by_cases k2:v.Kind=2
  ·rw[An k2,k2];rfl
  ·by_cases k3:v.Kind=3;·rw[Ak k2,An k3,k3];rfl
   ·rw[Ak k2,Ak k3];simp[mput,mget,keqI,k2,k3]
 rw[hm];by_cases k2:v.Kind=2
 ·rw[An k2,ck_t (by simp[Ax])];congr 1;simp only[Option.isSome_some,Lw,BV,Fo];rw[Fp,FP];simp only[AE,Bp];constructor
  ·rintro⟨⟨a,b⟩,c⟩;exact⟨h,.inr (.inl ⟨k2,by omega,by omega,by omega⟩)⟩
  ·rintro⟨_,⟨e,_⟩|⟨_,a,b,c⟩|⟨e,_⟩⟩<;>omega
 by_cases k3:v.Kind=3
 ·rw[Ak k2,An k3,ck_t (by simp[Ax])];congr 1;simp only[Option.isSome_some,Lw,BV,Fo];rw[Fp,FP];simp only[AE,Bp];constructor
  ·rintro⟨⟨a,b⟩,c⟩;exact⟨h,.inr (.inr ⟨k3,by omega,by omega,by omega⟩)⟩
  ·rintro⟨_,⟨e,_⟩|⟨e,_⟩|⟨_,a,b,c⟩⟩<;>omega
 ·rw[Ak k2,Ak k3,ck_t (by simp[Ax])];rw[By (show ¬VRi v by rintro⟨_,⟨e,_⟩|⟨e,_⟩|⟨e,_⟩⟩<;>omega)];rfl
theorem Y8{v:Ah}(hc:CSz v.Curve):K9 v=some (decide (VRi v)):=by
 unfold K9;have hd:(bif (bif (bif (bif (bif (bif (bif (bif (decide (v.Gauge<0)) then true else(decide (39<v.Gauge))) then true else(decide (v.Seq<0))) then true else(decide (1099511627776<v.Seq))) then true else(decide (v.Known<0))) then true else(decide (14609<v.Known))) then true else(decide (v.From<0))) then true else(decide (v.To<=v.From))) then true else(decide (1402560<v.To)))=(bif (bif (bif (bif (bif (bif (bif (bif (decide (v.Gauge<0)) then true else(decide (40<=v.Gauge))) then true else(decide (v.Seq<0))) then true else(decide (1099511627776<v.Seq))) then true else(decide (v.Known<0))) then true else(decide (14609<v.Known))) then true else(decide (v.From<0))) then true else(decide (v.To<=v.From))) then true else(decide (1402560<v.To))):=by rw[show(decide (39<v.Gauge))=decide (40<=v.Gauge) from decide_eq_decide.2 (by omega)]
 rw[hd];by_cases h:((0<=v.Gauge/\v.Gauge<=39)/\(0<=v.Seq/\v.Seq<=1099511627776)/\(0<=v.Known/\v.Known<=14609)/\0<=v.From/\v.From<v.To/\v.To<=1402560);rotate_left
 ·rw[it_t (Y7 h),By (fun e:VRi v=>h e.1)]
 rw[it_f (Y6 true h)];by_cases k1:v.Kind=1
 ·rw[it_d k1];by_cases s0:v.Shift=0
  ·rw[BF s0];simp only[AN,BV];rw[jzbg hc];simp only[Ac];congr 1;rw[Fp,FP,FP];constructor
   ·intro e;exact⟨h,.inl ⟨k1,s0,e⟩⟩
   ·rintro⟨_,⟨_,_,e⟩|⟨e,_⟩|⟨e,_⟩⟩;·exact e
    ·omega
    ·omega
  ·rw[By s0];simp only[AI,Ac,Cm];rw[By];rintro⟨_,⟨_,e,_⟩|⟨e,_⟩|⟨e,_⟩⟩<;>omega
 rw[it_n k1];by_cases k2:v.Kind=2
 ·rw[it_d k2];congr 1;simp only[Fo];rw[Fp,FP];simp only[AE,Bp];constructor
  ·rintro⟨⟨a,b⟩,c⟩;exact⟨h,.inr (.inl ⟨k2,by omega,by omega,by omega⟩)⟩
  ·rintro⟨_,⟨e,_⟩|⟨_,a,b,c⟩|⟨e,_⟩⟩<;>omega
 rw[it_n k2];by_cases k3:v.Kind=3
 ·rw[it_d k3];congr 1;simp only[Fo];rw[Fp,FP];simp only[AE,Bp];constructor
  ·rintro⟨⟨a,b⟩,c⟩;exact⟨h,.inr (.inr ⟨k3,by omega,by omega,by omega⟩)⟩
  ·rintro⟨_,⟨e,_⟩|⟨e,_⟩|⟨_,a,b,c⟩⟩<;>omega
 ·rw[it_n k3];rw[By];rintro⟨_,⟨e,_⟩|⟨e,_⟩|⟨e,_⟩⟩<;>omega
def vsm(a b:Ah):Prop:=a.Gauge=b.Gauge/\a.Seq=b.Seq
instance (a b:Ah):Decidable (vsm a b):=by unfold vsm;infer_instance
def vcmp(a b:Ah):Int:=if vlt a b then -1 else if vsm a b then 0 else 1
theorem SZ(a b:Ah):EC a b=some (vcmp a b):=by
 unfold EC;rw[Oe];simp only[Ac];unfold vcmp;by_cases h1:a.Gauge<b.Gauge
 ·rw[An h1,An (show vlt a b from .inl h1),AR (by decide)]
 ·by_cases h2:b.Gauge<a.Gauge;·rw[Ak h1,An h2,AR (by decide),Ak (show ¬vlt a b by unfold vlt;omega),Ak (show ¬vsm a b by unfold vsm;omega)]
  ·rw[Ak h1,Ak h2,AH rfl,Oe];simp only[Ac];have:a.Gauge=b.Gauge:=by omega
   by_cases h3:a.Seq<b.Seq
   ·rw[An h3,An (show vlt a b from .inr ⟨this,h3⟩)]
   ·by_cases h4:b.Seq<a.Seq;·rw[Ak h3,An h4,Ak (show ¬vlt a b by unfold vlt;omega),Ak (show ¬vsm a b by unfold vsm;omega)]
    ·rw[Ak h3,Ak h4,Ak (show ¬vlt a b by unfold vlt;omega),An (show vsm a b by unfold vsm;omega)]
theorem Og{a b:Ah}:vcmp a b<0↔vlt a b:=by
 unfold vcmp;split
 ·simp[*]
 ·split<;>simp[*]
theorem Ta(a b:Ah):Io a b=some (decide (vlt a b)):=by
 unfold Io;congr 1;rw[Fp,FP];unfold vlt;by_cases h1:a.Gauge<b.Gauge
 ·simp[h1]
 ·by_cases h2:a.Gauge=b.Gauge<;>simp[h1,h2]
def VsSz(l:List Ah):Prop:=∀v,v∈l->CSz v.Curve
def vchF(l:List Ah)(k:Nat)(v:Ah):Option Int:=if VRi v/\(0<k->vlt (l.getD (k-1) default) v) then none else some 1
def vchE(l:List Ah):Int:=if 400<l.length then 2 else(scan (vchF l) 0 l).getD 0
theorem Fh{l:List Ah}(hs:VsSz l):Er l=some (vchE l):=by
 unfold Er vchE;by_cases h0:400<l.length
 ·rw[it_d,An h0]
 rw[it_n,Ak h0,Ea (l:=l) (vchF l) (by omega) ?_ ?_]
 ·simp only[Ac];exact Jv
 ·intro k x hx;have hk:=(AK.1 hx).1;simp only[Q3];rw[it_d,at_e rfl hx];simp only[Ac];rw[Hy (hs x (CB hx))];simp only[Ac,vchF];by_cases hr:VRi x;rotate_left
  ·rw[By hr];simp only[DB,Dn,L2,Bool.true_or];rw[FC,AI];simp only[Ac];rw[AI];simp only[Ac,BV];rw[BS,Ak (fun h=>hr h.1)]
  rw[BF hr];simp only[Dn,DB,On];by_cases fV:k=0
  ·subst fV;rw[show decide ((0:Int)<((0:Nat):Int))=false by simp];simp only[DB,Bool.true_or];rw[FC,AI];simp only[Ac];rw[AI];simp only[Ac,Cm];rw[AV,A7,An ⟨hr,fun h=>by omega⟩]
  have dz:0<k:=by omega
  rw[show decide ((0:Int)<(k:Int))=true by simp;omega];rw[ck_t (by simp[Ax];omega),AN,Jw hx dz];simp only[Ac];rw[AN,SZ];simp only[Ac,Cm,BV];by_cases hl:vlt (l.getD (k-1) default) x
  ·rw[it_n (by have:=Og.2 hl;omega),A7,An ⟨hr,fun _=>hl⟩]
  ·rw[it_d (by have:=mt Og.1 hl;omega),Ak (fun h=>hl (h.2 dz))]
 ·simp only[Q3];rw[it_n]
theorem Tb{l:List Ah}(hs:VsSz l):Iz l=some (vchE l):=by
 unfold Iz vchE;by_cases h0:400<l.length
 ·rw[it_d,An h0]
 rw[it_n,Ak h0,Ea (l:=l) (vchF l) (by omega) ?_ ?_]
 ·simp only[Ac];exact Jv
 ·intro k x hx;have hk:=(AK.1 hx).1;simp only[Q5];rw[it_d,at_e rfl hx];simp only[Ac];rw[Y8 (hs x (CB hx))];simp only[Ac,vchF];by_cases fV:k=0
  ·subst fV;rw[show decide (((0:Nat):Int)=0)=true by simp];simp only[Dn,DB,Bool.true_or,AI,Ac,BV,Cm];rw[FC];by_cases hr:VRi x
   ·rw[it_f (by simp[hr]),A7,An ⟨hr,fun h=>by omega⟩]
   ·rw[it_t (by simp[hr]),Ak (fun h=>hr h.1)]
  have dz:0<k:=by omega
  rw[show decide ((k:Int)=0)=false by simp;omega];simp only[Dn,DB,Bool.false_or,AN,Cm];rw[A7,Jw hx dz];simp only[Ac];rw[Ta];simp only[Ac];by_cases hr:VRi x
  ·by_cases hl:vlt (l.getD (k-1) default) x;·rw[it_f (by rw[BF hr,BF hl];rfl),A7,An ⟨hr,fun _=>hl⟩]
   ·rw[it_t (by rw[BF hr,By hl];rfl),Ak (fun h=>hl (h.2 dz))]
  ·rw[it_t (by simp[hr]),Ak (fun h=>hr h.1)]
 ·simp only[Q5];rw[it_n]
theorem J2{a b c:Ah}(h:vlt a b)(k:vlt b c):vlt a c:=by unfold vlt at *;omega
structure VBk(l:List Ah):Prop where
 right:∀r,r∈l->VRi r
 asc:l.Pairwise vlt
theorem Hz{l:List Ah}:vchE l=0↔l.length<=400/\VBk l:=by
 unfold vchE;by_cases h0:400<l.length
 ·rw[An h0];exact⟨fun h=>(by cases h),fun h=>by omega⟩
 rw[Ak h0];constructor
 ·intro h;refine⟨by omega,?_⟩;cases hs:scan (vchF l) 0 l with
  |some o =>
   obtain⟨i,x,hx,hi,_⟩:=Hx 0 l o hs;rw[hs]at h;simp only[Lw]at h;unfold vchF at hi;split at hi
   ·cases hi
   ·cases hi;cases h
  |none =>
   have hn:∀i x,l[i]?=some x->VRi x/\(0<i->vlt (l.getD (i-1) default) x):=fun i x hx=>by
    have:=Jx hs hx;unfold vchF at this;split at this
    ·assumption
    ·cases this
   refine⟨fun r hr=>?_,?_⟩
   ·obtain⟨i,hi,rfl⟩:=CF hr;exact(hn i _ (AD hi)).1
   ·have step:∀i,(hi:i+1<l.length)->vlt l[i] l[i+1]:=fun i hi=>by
     have:=(hn (i+1) _ (AD hi)).2 (by omega);simpa [List.getD,show i<l.length by omega] using this
    rw[Lt];intro i j hi hj dD;induction j with
    |zero=>omega
    |succ j ih =>
     by_cases e:i=j
     ·subst e;exact step i hj
     ·exact J2 (ih (by omega) (by omega)) (step j hj)
 ·rintro⟨_,hb⟩;rw[SO]
  ·rfl
  ·intro i x hx;obtain⟨hi,rfl⟩:=AK.1 hx;unfold vchF;rw[An];refine⟨hb.right _ (BH _),fun h=>?_⟩;have:=Lt.1 hb.asc (0+i-1) i (by omega) hi (by omega);simpa [List.getD,show i-1<l.length by omega] using this
def vfit(kind gauge tick known:Int)(v:Ah):Prop:=v.Kind=kind/\v.Gauge=gauge/\v.Known<=known/\v.From<=tick/\tick<v.To
instance (a b c d:Int)(v:Ah):Decidable (vfit a b c d v):=by unfold vfit;infer_instance
def J3(kind gauge tick known:Int)(b:Option Ah)(v:Ah):Option Ah :=
 if vfit kind gauge tick known v then(match b with | none=>some v | some w=>if w.Known<=v.Known then some v else some w) else b
def vfrc(l:List Ah)(kind gauge tick known:Int):Option Ah:=l.foldl (J3 kind gauge tick known) none
theorem Tc{l:List Ah}{v:Ah}{a b c d:Int}:vfrc (l++[v]) a b c d=J3 a b c d (vfrc l a b c d) v:=by unfold vfrc;rw[List.foldl_append];rfl
theorem Y9(a b c d:Int):∀(n:Nat) (l:List Ah),l.length=n->∀w,vfrc l a b c d=some w->w∈l/\vfit a b c d w:=by
 intro n;induction n with
 |zero=>intro l hl w h;rw[Ls.1 hl]at h;cases h
 |succ n ih =>
  intro l hl w h;have aJ:l≠[]:=fun e=>by rw[e]at hl;cases hl
  obtain⟨m,v,rfl⟩:∃m v,l=m++[v]:=⟨_,_,(List.dropLast_concat_getLast aJ).symm⟩;rw[Tc]at h;have hm:m.length=n:=by simpa using hl
  unfold J3 at h;split at h
  ·rename_i hf;split at h
   ·cases h;exact⟨by simp,hf⟩
   ·rename_i w' e;split at h
    ·cases h;exact⟨by simp,hf⟩
    ·cases h;obtain⟨h1,h2⟩:=ih m hm _ e;exact⟨Bh.2 (.inl h1),h2⟩
  ·obtain⟨h1,h2⟩:=ih m hm _ h;exact⟨Bh.2 (.inl h1),h2⟩
theorem jz0z{l:List Ah}(hl:l.length<=1000)(ha:l.Pairwise vlt)(kind gauge tick known:Int):Mo l kind gauge tick known=some (vfrc l kind gauge tick known):=by
 unfold Mo;rw[SP (l:=l) (fun k=>(vfrc (l.take k) kind gauge tick known,(k:Int))) (by omega) (o:=vfrc l kind gauge tick known) ?_ ?_ ?_]
 ·simp only[Ac]
 ·intro k x hx;have hk:=(AK.1 hx).1;simp only[PW];rw[it_d,at_e rfl hx];simp only[Ac];have bP:l.take (k+1)=l.take k++[x]:=E4 hx;have hlt:∀w,w∈l.take k->vlt w x:=fun w hw=>by obtain⟨i,hi,rfl⟩:=CF hw;obtain⟨_,rfl⟩:=AK.1 hx;rw[Df]at hi;rw[List.getElem_take];exact Lt.1 ha i k (by omega) hk (by omega)
  rw[bP,Tc];have bt:=Y9 kind gauge tick known _ (l.take k) rfl;generalize vfrc (l.take k) kind gauge tick known=b at *;by_cases hf:vfit kind gauge tick known x;rotate_left
  ·rw[it_t (by
    simp only[JD,Fq,Bp,FS,O7];unfold vfit at hf;omega)]
   simp only[Ac];rw[A7];unfold J3;rw[Ak hf];rfl
  rw[it_f (by simp only[JD,Tp,O7,Bool.not_eq_false',Bp];unfold vfit at hf;omega)];simp only[Ac];unfold J3;rw[An hf];cases b with
  |none =>simp only[Option.isSome_none,DB,Dn,AI,Ac,BV,L2];rw[BS,A7];rfl
  |some w =>
   obtain⟨hw,pD⟩:=bt w rfl;have hv:=hlt w hw;have hs:w.Seq<x.Seq:=by unfold vfit at hf pD;unfold vlt at hv;omega
   simp only[Option.isSome_some,Dn,DB,AN,Ac,Cm];by_cases h1:w.Known<x.Known
   ·rw[BF h1];simp only[Dn,AI,Ac,BV,L2];rw[BS,A7,ifP];rfl
   ·rw[By h1];simp only[DB,AN,Ac,Cm,On];by_cases h2:x.Known=w.Known
    ·rw[BF h2];simp only[AN,Ac,BV];rw[it_d hs,A7,ifP];rfl
    ·rw[By h2];simp only[AI,Ac,Cm];rw[AV,A7,ifN];rfl
 ·simp only[PW];rw[it_n,List.take_length]
 ·rfl
theorem wzyx{l:List Ah}(hl:l.length<=1000)(kind gauge tick known:Int):∃j:Int,Mm l kind gauge tick known=some j/\((j = -1/\vfrc l kind gauge tick known=none)\/∃k:Nat,∃w,j=(k:Int)/\l[k]?=some w/\vfrc l kind gauge tick known=some w):=by
 unfold Mm
 obtain⟨o,e,ho⟩:=Cl (s:=((-1:Int),(0:Int))) (body:=PN gauge kind known l tick) (fun s=>∃k:Nat,∃j:Int,s=(j,(k:Int))/\k<=l.length/\((j = -1/\vfrc (l.take k) kind gauge tick known=none)\/∃i:Nat,∃w,j=(i:Int)/\l[i]?=some w/\vfrc (l.take k) kind gauge tick known=some w)) (fun s=>(l.length-s.2).toNat) (fun j=>(j = -1/\vfrc l kind gauge tick known=none)\/∃k:Nat,∃w,j=(k:Int)/\l[k]?=some w/\vfrc l kind gauge tick known=some w) (by
  rintro s ⟨k,j,rfl,hk,hI⟩;simp only[PN];by_cases hlt:k<l.length;rotate_left
  ·right;rw[it_n];rw[FT (by omega)]at hI;exact⟨_,rfl,hI⟩
  left;have hx:=AD hlt;have bP:l.take (k+1)=l.take k++[l[k]]:=E4 hx;rw[it_d,at_e rfl hx];simp only[Ac];have dy:=Tc (l:=l.take k) (v:=l[k]) (a:=kind) (b:=gauge) (c:=tick) (d:=known);rw[<-bP]at dy;generalize l[k]=x at *
  have ia:(bif (bif (bif (bif (decide (x.Kind=kind)) then(decide (x.Gauge=gauge)) else false) then(decide (x.Known<=known)) else false) then(decide (x.From<=tick)) else false) then(decide (tick<x.To)) else false)=decide (vfit kind gauge tick known x):=by
   rw[Fp,FP];simp only[Fo,AE,Bp];unfold vfit;constructor
   ·rintro⟨⟨⟨⟨a,b⟩,c⟩,d⟩,e⟩;exact⟨a,b,c,d,e⟩
   ·rintro⟨a,b,c,d,e⟩;exact⟨⟨⟨⟨a,b⟩,c⟩,d⟩,e⟩
  rw[ia];unfold J3 at dy;by_cases hf:vfit kind gauge tick known x;rotate_left
  ·rw[Ak hf]at dy;rw[By hf];simp only[L2,AI,Ac,Cm];rw[AV,A7];refine⟨_,rfl,⟨k+1,j,by simp,hlt,?_⟩,by simp only;omega⟩;rw[dy];exact hI
  rw[An hf]at dy;rw[BF hf];simp only[On,BV];rcases hI with ⟨rfl,hn⟩|⟨i,w,rfl,hw,hn⟩
  ·rw[hn]at dy;rw[show decide ((-1:Int)<0)=true by decide];simp only[Dn,AI,Ac,BV];rw[BS,A7];exact⟨_,rfl,⟨k+1,(k:Int),by simp,hlt,.inr ⟨k,x,rfl,hx,dy⟩⟩,by simp only;omega⟩
  ·rw[hn]at dy;simp only at dy;rw[show decide ((i:Int)<0)=false by simp];simp only[DB,AN,Cm];rw[show max 0 (i:Int)=(i:Int) by omega,at_e rfl hw];simp only[Ac];by_cases dr:w.Known<=x.Known
   ·rw[An dr]at dy;rw[it_d dr,A7];exact⟨_,rfl,⟨k+1,(k:Int),by simp,hlt,.inr ⟨k,x,rfl,hx,dy⟩⟩,by simp only;omega⟩
   ·rw[Ak dr]at dy;rw[it_n dr,A7];exact⟨_,rfl,⟨k+1,(i:Int),by simp,hlt,.inr ⟨i,w,rfl,hw,dy⟩⟩,by simp only;omega⟩) ⟨0,-1,rfl,Dj _,.inl ⟨rfl,rfl⟩⟩ (by simp only;omega)
 rw[e];exact⟨o,rfl,ho⟩
def vsh(l:List Ah)(gauge tick known:Int):Int:=match vfrc l 3 gauge tick known with
 |some v=>v.Shift
 |none=>0
theorem YA{l:List Ah}(hb:VBk l)(gauge tick known:Int):-960<=vsh l gauge tick known/\vsh l gauge tick known<=960:=by
 unfold vsh;cases h:vfrc l 3 gauge tick known with
 |none=>simp
 |some v =>
  obtain⟨h1,h2⟩:=Y9 3 gauge tick known _ l rfl v h;have:=(hb.right v h1).2;have h3:v.Kind=3:=h2.1;simp only;rcases this with ⟨e,_⟩|⟨e,_⟩|⟨_,_,e1,e2⟩
  ·omega
  ·omega
  ·exact⟨e1,e2⟩
def shf(l:List Ah)(known:Int)(r:Ae):At :=
 if min 1402560 (r.To+vsh l r.Gauge r.From known)<=max 0 (r.From+vsh l r.Gauge r.From known) then⟨0,0⟩ else⟨max 0 (r.From+vsh l r.Gauge r.From known),min 1402560 (r.To+vsh l r.Gauge r.From known)⟩
theorem jz0a{l:List Ah}{r:Ae}{known:Int}(hs:VsSz l)(hc:vchE l=0)(hr:RR r)(hk:0<=known/\known<=14609):I0 r l known=some (shf l known r):=by
 obtain⟨hl,hb⟩:=Hz.1 hc;unfold I0 Q4;rw[Fh hs];simp only[Ac];unfold RR at hr;rw[AH hc,it_f (by simp)];unfold PR;rw[it_f (by simp;omega)];simp only[Ac,decide_true,Dn];rw[AV];unfold Qg;rw[jz0z (by omega) hb.asc];simp only[Ac];have hv:=YA hb r.Gauge r.From known
 have e:(ite' (Option.isSome (vfrc l 3 r.Gauge r.From known)) (bd (vfrc l 3 r.Gauge r.From known) fun x1=>some x1.Shift) (some 0))=some (vsh l r.Gauge r.From known):=by
  unfold vsh;cases vfrc l 3 r.Gauge r.From known with
  |none=>simp only[Option.isSome_none];rw[AV]
  |some v=>simp only[Option.isSome_some,Ac];rw[BS]
 rw[e];simp only[Ac];unfold shf;generalize vsh l r.Gauge r.From known=n at *;rw[A7,A7];by_cases h:min 1402560 (r.To+n)<=max 0 (r.From+n)
 ·rw[it_d h,An h]
 ·rw[it_n h,Ak h]
theorem YB{l:List Ah}{r:Ae}{known:Int}(hc:vchE l=0)(hr:RR r):K0 r l known=some (shf l known r):=by
 obtain⟨hl,hb⟩:=Hz.1 hc;unfold K0;obtain⟨j,e,hj⟩:=wzyx (l:=l) (by omega) 3 r.Gauge r.From known;rw[e];simp only[Ac];unfold RR at hr;have hv:=YA hb r.Gauge r.From known
 have e2:(ite' (decide (0<=j)) (bd (at? l j) fun x1=>some x1.Shift) (some 0))=some (vsh l r.Gauge r.From known):=by
  unfold vsh;rcases hj with ⟨rfl,h⟩|⟨k,w,rfl,hw,h⟩
  ·rw[h,it_n (by decide)]
  ·rw[h,it_d,at_e rfl hw];simp only[Ac]
 rw[e2];simp only[Ac];unfold shf;generalize vsh l r.Gauge r.From known=n at *;rw[A7,A7];by_cases h:min 1402560 (r.To+n)<=max 0 (r.From+n)
 ·rw[it_d h,An h]
 ·rw[it_n h,Ak h]
def cov(vs:List Ah)(known g x:Int)(r:Ae):Prop:=r.Gauge=g/\r.Known<=known/\(shf vs known r).From<=x/\x<(shf vs known r).To
instance (vs:List Ah)(known g x:Int)(r:Ae):Decidable (cov vs known g x r):=by unfold cov;infer_instance
def stg(vs:List Ah)(known g:Int)(l:List Ae)(x:Int):Int:=l.foldl (fun s r=>if cov vs known g x r then r.Stage else s) (-1)
theorem Oh{vs:List Ah}{known g x:Int}{l:List Ae}{r:Ae}:stg vs known g (l++[r]) x=if cov vs known g x r then r.Stage else stg vs known g l x:=by unfold stg;rw[List.foldl_append];rfl
def clp(vs:List Ah)(known g:Int)(t:At)(r:Ae):Option AU :=
 if r.Gauge=g/\r.Known<=known/\max (shf vs known r).From t.From<min (shf vs known r).To t.To then some ⟨⟨max (shf vs known r).From t.From,min (shf vs known r).To t.To⟩,r.Stage⟩ else none
def ctg(cs:List AU)(x:Int):Int:=cs.foldl (fun s c=>if c.t.From<=x/\x<c.t.To then c.stage else s) (-1)
theorem Oi{cs:List AU}{c:AU}{x:Int}:ctg (cs++[c]) x=if c.t.From<=x/\x<c.t.To then c.stage else ctg cs x:=by unfold ctg;rw[List.foldl_append];rfl
theorem Td{α:Type}{P:List α->Prop}(h0:P [])(h1:∀l x,P l->P (l++[x])):∀l,P l:=by
 intro l
 have:∀n (l:List α),l.length=n->P l:=by
  intro n;induction n with
  |zero=>intro l hl;rw[Ls.1 hl];exact h0
  |succ n ih =>
   intro l hl;have aJ:l≠[]:=fun e=>by rw[e]at hl;cases hl
   rw[<-List.dropLast_concat_getLast aJ];exact h1 _ _ (ih _ (by rw[List.length_dropLast];omega))
 exact this _ l rfl
theorem jz06{vs:List Ah}{known g x:Int}{t:At}(hx:t.From<=x/\x<t.To):∀l:List Ae,ctg (l.filterMap (clp vs known g t)) x=stg vs known g l x:=by
 refine Td rfl fun l r ih=>?_;rw[Oh,List.filterMap_append];cases h:clp vs known g t r with
 |none =>
  have:List.filterMap (clp vs known g t) [r]=[]:=by simp[h]
  rw[this,List.append_nil,ih,Ak (show ¬cov vs known g x r from fun e=>by obtain⟨a,b,c,d⟩:=e;unfold clp at h;rw[An ⟨a,b,by omega⟩]at h;cases h)]
 |some c =>
  have:List.filterMap (clp vs known g t) [r]=[c]:=by simp[h]
  rw[this,Oi,ih];unfold clp at h;split at h
  ·rename_i h';cases h;simp only;by_cases e:(shf vs known r).From<=x/\x<(shf vs known r).To
   ·rw[ifP,An (show cov vs known g x r from⟨h'.1,h'.2.1,e⟩)]
   ·rw[ifN,Ak (show ¬cov vs known g x r from fun h=>e h.2.2)]
  ·cases h
theorem Cg{l:List Int}(h:SAsc l){i j:Nat}(hi:i<l.length)(hj:j<l.length)(dD:i<j):l[i]<l[j]:=Lt.1 h i j hi hj dD
theorem YC{l:List Int}(hl:l.length<=1000000)(ha:SAsc l){y:Int}(hy:y∈l):∃k,∃h:k<l.length,K2 l y=some ((k:Int),true)/\l[k]=y:=by
 unfold K2
 obtain⟨o,e,k,rfl,hk,h1,h2⟩:=Cl (s:=((0:Int),(l.length:Int))) (body:=Qb y l) (fun s=>∃i j:Nat,s=((i:Int),(j:Int))/\i<=j/\j<=l.length/\(∀m,(hm:m<l.length)->m<i->l[m]<y)/\(∀m,(hm:m<l.length)->j<=m->¬l[m]<y)) (fun s=>(s.2-s.1).toNat) (fun o=>∃k:Nat,o=(k:Int)/\k<=l.length/\(∀m,(hm:m<l.length)->m<k->l[m]<y)/\(∀m,(hm:m<l.length)->k<=m->¬l[m]<y)) (by
  rintro s ⟨i,j,rfl,dD,hj,h1,h2⟩;simp only[Qb];by_cases h:i<j;rotate_left
  ·right;rw[it_n];obtain rfl:i=j:=by omega
   exact⟨_,rfl,i,rfl,hj,h1,h2⟩
  left;have hm:Int.fdiv (((i:Int)+j)%18446744073709551616) 2=(((i+j) / 2:Nat):Int):=by rw[Int.emod_eq_of_lt (by omega) (by omega),Lr _ (by decide)];omega
  rw[it_d,A7,hm,A7];have hlt:(i+j) / 2<l.length:=by omega
  rw[at_e rfl (AD hlt)];simp only[Ac,PP,F7,decide_true,Dn,AI,Cm];by_cases hc:l[(i+j) / 2]<y
  ·rw[it_d hc,A7];refine⟨_,rfl,⟨(i+j) / 2+1,j,by simp,by omega,hj,fun m hm fG=>?_,h2⟩,by simp only;omega⟩;by_cases e:m=(i+j) / 2
   ·subst e;exact hc
   ·have:=Cg ha hm hlt (by omega);omega
  ·rw[it_n hc];refine⟨_,rfl,⟨i,(i+j) / 2,rfl,by omega,by omega,h1,fun m hm fG hr=>?_⟩,by simp only;omega⟩;by_cases e:m=(i+j) / 2
   ·subst e;exact hc hr
   ·have:=Cg ha hlt hm (by omega);omega) ⟨0,l.length,by simp,Dj _,AC _,fun m hm h=>by omega,fun m hm h=>by omega⟩ (by simp;omega)
 rw[e];simp only[Ac];obtain⟨i,hi,nC⟩:=CF hy
 have jV:k=i:=by
  have a1:¬i<k:=fun h=>by have:=h1 i hi h;omega
  have a2:¬k<i:=fun h=>by have:=Cg ha (show k<l.length by omega) hi h;have:=h2 k (by omega) (AC _);omega
  omega
 subst jV;rw[BF (show(k:Int)<(l.length:Int) by omega)];simp only[AN];rw[at_e rfl (AD hi)];simp only[Ac];rw[BF nC];simp only[Dn,Bool.and_false,L2,AI,Ac,BV];exact⟨k,hi,rfl,nC⟩
def tri(p:Az):Int×Int×Int:=(p.t.From,p.t.To,p.stage)
def PcOk(p:Az):Prop:=0<=p.t.From/\p.t.From<p.t.To/\p.t.To<=1402560
theorem jz0m{at' c1:List Int}(hn:0<at'.length)(hl:at'.length<=100000)(ha:SAsc at')(hc:c1.length=at'.length)(hb:∀x,x∈at'->0<=x/\x<=1402560){F:Int->Int}(hF:∀i,(h:i+1<at'.length)->∀x,at'[i]<=x->x<at'[i+1]->some (F x)=c1[i]?) {st:List Az->Option Bool} (aH:∀ys,ys.length<=at'.length->(∀p,p∈ys->PcOk p)->st ys=some false) : ∃P,D0 at' c1 st=some P/\Cd F (at'[at'.length-1]) none (at'[0]) (P.map tri)/\P.length<=at'.length/\∀p,p∈P->PcOk p:=by
 unfold D0
 obtain⟨o,e,P,rfl,h1,h2,h3⟩:=Cl (s:=((0:Int),([]:List Az))) (body:=PM at' c1 st) (fun s=>∃k:Nat,∃ys,∃hk:k<at'.length,s=((k:Int),ys)/\Cd F at'[k] none at'[0] (ys.map tri)/\(k+1<at'.length->(ys.map tri).getLast?.map (·.2.2)≠c1[k]?)/\ys.length<=k/\∀p,p∈ys->PcOk p) (fun s=>(at'.length-s.1).toNat) (fun o=>∃P,o=.inl P/\Cd F (at'[at'.length-1]) none (at'[0]) (P.map tri)/\P.length<=at'.length/\∀p,p∈P->PcOk p) (by
  rintro s ⟨k,ys,hk,rfl,h1,h2,h3,h4⟩;simp only[PM];rw[A7];by_cases hlt:k+1<at'.length;rotate_left
  ·right;rw[it_n];refine⟨_,rfl,ys,rfl,?_,by omega,h4⟩;have:k=at'.length-1:=by omega
   subst this;exact h1
  left;rw[it_d,A7]
  obtain⟨o,e,q,hq,rfl,ko,iO,pE⟩:=Cl (s:=((k:Int)+1)) (body:=PL at' c1 (k:Int)) (fun s=>∃q:Nat,s=(q:Int)/\k<q/\q<at'.length/\∀i,k<=i->i<q->c1[i]?=c1[k]?) (fun s=>(at'.length-s).toNat) (fun o=>∃q:Nat,∃hq:q<at'.length,o=(q:Int)/\k<q/\(∀i,k<=i->i<q->c1[i]?=c1[k]?)/\(q+1<at'.length->c1[q]?≠c1[k]?)) (by
   rintro s ⟨q,rfl,g1,g2,g3⟩;simp only[PL];rw[A7];by_cases hq:q+1<at'.length;rotate_left
   ·right;rw[By (show ¬((q:Int)+1<(at'.length:Int)) by omega)];simp only[AI,Ac,Cm];rw[AV];exact⟨_,rfl,q,g2,rfl,g1,g3,fun h=>absurd h hq⟩
   have e1:=AD (show q<c1.length by omega);have e2:=AD (show k<c1.length by omega);rw[BF (show((q:Int)+1<(at'.length:Int)) by omega)];simp only[AN,BV];rw[at_e rfl e1,at_e rfl e2];simp only[Ac];by_cases dK:c1[q]=c1[k]
   ·left;rw[it_d dK,A7];refine⟨_,rfl,⟨q+1,by simp,by omega,hq,fun i i1 i2=>?_⟩,by omega⟩;by_cases ei:i=q
    ·subst ei;rw[e1,e2,dK]
    ·exact g3 i i1 (by omega)
   ·right;rw[it_n dK];exact⟨_,rfl,q,g2,rfl,g1,g3,fun _ h=>by rw[e1,e2]at h;exact dK (BJ h)⟩) ⟨k+1,by simp,by omega,hlt,fun i i1 i2=>by rw[show i=k by omega]⟩ (by omega)
  rw[e];have a1:=AD hk;have a2:=AD hq;have e2:=AD (show k<c1.length by omega);simp only[Ac];rw[at_e rfl a1,at_e rfl a2,at_e rfl e2];simp only[Ac];have dI:=Cg ha hk hq ko;have pF:=hb _ (BH hk);have mE:=hb _ (BH hq)
  have gJ:∀p,p∈ys++[Az.mk (At.mk at'[k] at'[q]) c1[k]]->PcOk p:=fun p hp=>by
   rcases Bh.1 hp with h|h
   ·exact h4 p h
   ·rw[Bi.1 h];exact⟨pF.1,dI,mE.2⟩
  rw[aH _ (by simp;omega) gJ];simp only[Ac];rw[AV];refine⟨_,rfl,⟨q,_,hq,rfl,?_,fun h=>?_,by simp;omega,gJ⟩,by simp only;omega⟩
  ·rw[List.map_append];refine Cd.app (p:=(at'[k],at'[q],c1[k])) h1 rfl dI (fun x x1 x2=>?_) ?_
   ·-- where x lies
    have:∀n,k+n<=q->(∀hn:k+n<at'.length,x<at'[k+n]->F x=c1[k]):=by
     intro n;induction n with
     |zero=>intro _ hn h;simp only[GJ]at h;omega
     |succ n ih =>
      intro h1 hn h2;by_cases h3:x<at'[k+n]
      ·exact ih (by omega) (by omega) h3
      ·have h4:=hF (k+n) (by omega) x (by omega) h2;rw[iO (k+n) (by omega) (by omega),e2]at h4;exact BJ h4
    have pG:k+(q-k)=q:=(by omega);exact this (q-k) (by omega) (by omega) (by simpa only[pG] using x2)
   ·have:=h2 hlt;rw[e2]at this;cases hg:(ys.map tri).getLast? with
    |none=>simp
    |some z=>rw[hg]at this;simpa using this
  ·have:=pE h;rw[e2]at this;have fM:((ys++[Az.mk (At.mk at'[k] at'[q]) c1[k]]).map tri).getLast?.map (·.2.2)=some c1[k]:=by simp[tri]
   rw[fM];exact fun h=>this h.symm) ⟨0,[],hn,rfl,rfl,fun h=>by have:=AD (show 0<c1.length by omega);rw[this];simp,AC _,fun p hp=>by cases hp⟩ (by simp only;omega)
 rw[e];simp only[Ac];exact⟨P,rfl,h1,h2,h3⟩
def Fi(t:At)(cs:List AU)(x:Int):Prop:=x=t.From\/x=t.To\/∃c,c∈cs/\(x=c.t.From\/x=c.t.To)
theorem jz0u{t:At}{cs:List AU}{c:AU}{x:Int}:Fi t (cs++[c]) x↔Fi t cs x\/x=c.t.From\/x=c.t.To:=by
 unfold Fi;simp only[Bh,Bi];constructor
 ·rintro(h|h|⟨d,hd|rfl,h⟩);·exact .inl (.inl h)
  ·exact .inl (.inr (.inl h))
  ·exact .inl (.inr (.inr ⟨d,hd,h⟩))
  ·exact .inr h
 ·rintro((h|h|⟨d,hd,h⟩)|h);·exact .inl h
  ·exact .inr (.inl h)
  ·exact .inr (.inr ⟨d,.inl hd,h⟩)
  ·exact .inr (.inr ⟨c,.inr rfl,h⟩)
theorem YD(vs:List Ah)(known g:Int)(t:At)(l:List Ae):(l.filterMap (clp vs known g t)).length<=l.length:=List.length_filterMap_le _ _
theorem jz0p{t:At}{cs:List AU}{at':List Int}(ha:SAsc at')(hm:∀x,Fi t cs x->x∈at'){i:Nat}(h:i+1<at'.length){x:Int}(h1:at'[i]<=x)(h2:x<at'[i+1]):∀ds:List AU,(∀c,c∈ds->c∈cs)->ctg ds x=ctg ds at'[i]:=by
 refine Td (fun _=>rfl) fun ds c ih hd=>?_;have hc:=hd c (by simp);have ih:=ih fun d fd=>hd d (Bh.2 (.inl fd))
 have no:∀y,y∈at'->at'[i]<y->at'[i+1]<=y:=fun y hy hlt=>by
  obtain⟨j,hj,rfl⟩:=CF hy;by_cases e:j<=i
  ·by_cases e':j=i;·subst e';omega
   ·have:=Cg ha hj (show i<at'.length by omega) (by omega);omega
  ·by_cases e':j=i+1;·subst e';exact L5 _
   ·have:=Cg ha h hj (by omega);omega
 have m1:=hm c.t.From (.inr (.inr ⟨c,hc,.inl rfl⟩));have m2:=hm c.t.To (.inr (.inr ⟨c,hc,.inr rfl⟩));have n1:=no _ m1;have n2:=no _ m2;rw[Oi,Oi,ih];by_cases e:c.t.From<=x/\x<c.t.To
 ·rw[An e,ifP]
 ·rw[Ak e,ifN]
theorem jz0n{vs:List Ah}{known g:Int}{t:At}{l:List Ae}(hs:VsSz vs)(hc:vchE vs=0)(hr:∀r,r∈l->RR r)(hl:l.length<=5000)(hk:0<=known/\known<=14609)(ht:0<=t.From/\t.From<=t.To/\t.To<=1402560) : ∃at':List Int,Et l vs g t known=some (at',at'.map (ctg (l.filterMap (clp vs known g t))))/\SAsc at'/\(∀x,x∈at'↔Fi t (l.filterMap (clp vs known g t)) x)/\at'.length<=2*l.length+2:=by
 unfold Et
 obtain⟨o,e,m,rfl,h1,h2,h3⟩:=Cl (s:=((0:Int),(mput keqI (mput keqI ([]:List (Int×Bool)) t.From true) t.To true),([]:List AU))) (body:=FB g known l t vs) (fun s=>∃k:Nat,∃m,s=((k:Int),m,(l.take k).filterMap (clp vs known g t))/\k<=l.length/\(m.map (·.1)).Nodup/\(∀x,x∈m.map (·.1)↔Fi t ((l.take k).filterMap (clp vs known g t)) x)/\m.length<=2*k+2) (fun s=>(l.length-s.1).toNat) (fun o=>∃m,o=(m,l.filterMap (clp vs known g t))/\(m.map (·.1)).Nodup/\(∀x,x∈m.map (·.1)↔Fi t (l.filterMap (clp vs known g t)) x)/\m.length<=2*l.length+2) (by
  rintro s ⟨k,m,rfl,dm,h1,h2,h3⟩;simp only[FB];by_cases hlt:k<l.length;rotate_left
  ·right;rw[it_n];rw[FT (by omega)]at h2 |-;exact⟨_,rfl,m,rfl,h1,h2,by omega⟩
  left;have hx:=AD hlt;have bP:l.take (k+1)=l.take k++[l[k]]:=E4 hx;have jW:=hr _ (BH hlt);have bw:=YD vs known g t (l.take k);rw[Df]at bw;rw[it_d,at_e rfl hx];simp only[Ac];generalize l[k]=r at *
  have gG:clp vs known g t r=none->∃k':Nat,∃m',(((k:Int)+1),m,(l.take k).filterMap (clp vs known g t))=((k':Int),m',(l.take k').filterMap (clp vs known g t))/\k'<=l.length/\(m'.map (·.1)).Nodup/\(∀x,x∈m'.map (·.1)↔Fi t ((l.take k').filterMap (clp vs known g t)) x)/\m'.length<=2*k'+2:=fun h=>by
   have e3:(l.take (k+1)).filterMap (clp vs known g t)=(l.take k).filterMap (clp vs known g t):=by rw[bP,List.filterMap_append];simp[h]
   exact⟨k+1,m,by rw[e3];simp,hlt,h1,fun x=>by rw[e3];exact h2 x,by omega⟩
  by_cases h:r.Gauge=g/\r.Known<=known;rotate_left
  ·rw[it_t (by simp only[JD,Fq,Bp,FS,O7];omega)];simp only[Ac];rw[A7];exact⟨_,rfl,gG (by unfold clp;rw[Ak (fun e=>h ⟨e.1,e.2.1⟩)]),by simp only;omega⟩
  rw[it_f (by simp only[JD,Tp,O7,Bool.not_eq_false',Bp];omega)];simp only[Ac];rw[jz0a hs hc jW hk];simp only[Ac];by_cases h':max (shf vs known r).From t.From<min (shf vs known r).To t.To;rotate_left
  ·rw[it_n h',A7];exact⟨_,rfl,gG (by unfold clp;rw[Ak (fun e=>h' e.2.2)]),by simp only;omega⟩
  have jX:clp vs known g t r=some ⟨⟨max (shf vs known r).From t.From,min (shf vs known r).To t.To⟩,r.Stage⟩:=by unfold clp;rw[An ⟨h.1,h.2,h'⟩]
  have e3:(l.take (k+1)).filterMap (clp vs known g t)=(l.take k).filterMap (clp vs known g t)++[⟨⟨max (shf vs known r).From t.From,min (shf vs known r).To t.To⟩,r.Stage⟩]:=by rw[bP,List.filterMap_append];simp[jX]
  rw[it_d h',ck_d (by simp;omega),A7,<-e3];refine⟨_,rfl,⟨k+1,mput keqI (mput keqI m (max (shf vs known r).From t.From) true) (min (shf vs known r).To t.To) true,by simp,hlt,NW (NW h1),fun x=>?_,?_⟩,by simp only;omega⟩
  ·rw[NX,NX,h2,e3,jz0u,or_assoc]
  ·have a:=NY (k:=max (shf vs known r).From t.From) (m:=m);have b:=NY (k:=min (shf vs known r).To t.To) (m:=mput keqI m (max (shf vs known r).From t.From) true);omega) ⟨0,_,rfl,Dj _,NW (NW List.nodup_nil),fun x=>by rw[NX,NX];unfold Fi;simp,by have a:=NY (k:=t.From) (m:=[]);have b:=NY (k:=t.To) (m:=mput keqI [] t.From true);simp only[List.length_nil]at a;omega⟩ (by simp only;omega)
 rw[e];simp only[Ac];unfold Dz
 have je:0<m.length:=by
  have:=List.length_pos_of_mem ((h2 t.From).2 (.inl rfl))
  rwa [J8]at this
 rw[ck_t (by (try rw[AE]);simp only[Bp];omega)];simp only[Ac];generalize aS:l.filterMap (clp vs known g t)=cs at *;have bw:=YD vs known g t l;rw[aS]at bw;generalize bO:BD (m.map (·.1))=at' at *;have ha:SAsc at':=by rw[<-bO];exact Yt _ h1
 have dY:∀x,x∈at'↔Fi t cs x:=fun x=>by rw[<-bO,SS,h2]
 have aD:at'.length<=2*l.length+2:=by rw[<-bO,Yv,J8];exact h3
 rw[KJ]
 have step:∀k,k<at'.length->I3 at' ((k:Int),List.replicate k (-1:Int)++List.replicate (at'.length-k) 0)=some (.inl (((k+1:Nat):Int),List.replicate (k+1) (-1:Int)++List.replicate (at'.length-(k+1)) 0)):=fun k hk=>by
  simp only[I3];have nD:(List.replicate k (-1:Int)++List.replicate (at'.length-k) 0).length=at'.length:=by simp;omega
  rw[it_d (by simp;omega),at_e rfl (AD (by omega))];simp only[Ac];rw[A7];congr 2;refine Prod.ext (by simp) ?_;simp only;refine JE fun i=>?_;rw[CN,J7];by_cases dE:k=i
  ·subst dE;rw[An rfl,ifP,Fj (by simp),O3,ifP]
  ·rw[Ak dE];by_cases hlt:i<k
   ·rw[Fj (by simp;omega),Fj (by simp;omega),O3,O3,ifP,ifP]
   ·rw[GB (by simp;omega),GB (by simp;omega),O3,O3];simp only[Tu];by_cases h:i<at'.length
    ·rw[ifP,ifP]
    ·rw[ifN,ifN]
 have fin:I3 at' ((at'.length:Int),List.replicate at'.length (-1:Int)++List.replicate (at'.length-at'.length) 0)=some (.inr (List.replicate at'.length (-1))):=by simp only[I3];rw[it_n (by simp)];simp
 rw[Yr (fun k=>((k:Int),List.replicate k (-1:Int)++List.replicate (at'.length-k) 0)) at'.length (by omega) step fin (by simp)];simp only[Ac];rw[SP (l:=cs) (fun k=>((k:Int),at'.map (ctg (cs.take k)))) (by omega) (o:=at'.map (ctg cs)) ?_ ?_ ?_]
 ·simp only[Ac];exact⟨at',rfl,ha,dY,aD⟩
 ·intro k c hx;have hk:=(AK.1 hx).1;have gW:=CB hx;simp only[M9];rw[it_d,at_e rfl hx];simp only[Ac];obtain⟨i,hi,ei,f9⟩:=YC (by omega) ha ((dY c.t.From).2 (.inr (.inr ⟨c,gW,.inl rfl⟩)));obtain⟨j,hj,ej,pH⟩:=YC (by omega) ha ((dY c.t.To).2 (.inr (.inr ⟨c,gW,.inr rfl⟩)));rw[ei,ej];simp only[Ac]
  have ju:c.t.From<c.t.To:=by
   rw[<-aS]at gW;obtain⟨r,_,cz⟩:=List.mem_filterMap.1 gW;unfold clp at cz;split at cz
   ·rename_i h';cases cz;exact h'.2.2
   ·cases cz
  have dD:i<j:=by
   rcases BU i j with h|h
   ·exact h
   ·by_cases e':i=j;·subst e';omega
    ·have:=Cg ha hj hi (by omega);omega
  have bP:cs.take (k+1)=cs.take k++[c]:=E4 hx
  obtain⟨q,eq,hq⟩:=QR (body:=Q7 ((j:Int),true) c) (fun n:Nat=>(((i+n:Nat):Int),(at'.mapIdx fun p y=>if i<=p/\p<i+n then c.stage else ctg (cs.take k) y))) (fun n=>i+n<=j) (fun n=>j-i-n) (fun o=>o=at'.map (ctg (cs.take (k+1)))) (by
   intro n hn;simp only[Q7];have kb:(at'.mapIdx fun p y=>if i<=p/\p<i+n then c.stage else ctg (cs.take k) y).length=at'.length:=List.length_mapIdx;by_cases h:i+n<j
   ·left;rw[it_d,at_e rfl (AD (by omega))];simp only[Ac];rw[A7];refine⟨n+1,?_,by omega,by omega⟩;congr 2;refine Prod.ext (by simp only;omega) ?_;simp only;refine JE fun p=>?_;rw[CN,J7];by_cases hp:i+n=p
    ·subst hp;rw[An rfl,ifP,Tt,AD (by omega),Do,ifP]
    ·rw[Ak hp,Tt,Tt];congr 1;funext y;by_cases h2:i<=p/\p<i+n
     ·rw[An h2,ifP]
     ·rw[Ak h2,ifN]
   ·right;rw[it_n];refine⟨_,rfl,?_⟩;obtain rfl:n=j-i:=by omega
    refine JE fun p=>?_;rw[Tt,GH];cases bG:at'[p]? with
    |none=>rfl
    |some y =>
     obtain⟨cn,rfl⟩:=AK.1 bG;simp only[Do];rw[bP,Oi,<-f9,<-pH];congr 1
     have b1:i<=p↔at'[i]<=at'[p]:=by
      constructor
      ·intro h;by_cases e':i=p
       ·subst e';exact L5 _
       ·have:=Cg ha hi cn (by omega);omega
      ·intro h;rcases BU p i with h'|h'
       ·have:=Cg ha cn hi h';omega
       ·exact h'
     have b2:p<i+(j-i)↔at'[p]<at'[j]:=by
      constructor
      ·intro h;exact Cg ha cn hj (by omega)
      ·intro h;rcases BU p j with h'|h'
       ·omega
       ·by_cases e':p=j;·subst e';omega
        ·have:=Cg ha hj cn (by omega);omega
     simp only[b1,b2]) (s:=((i:Int),at'.map (ctg (cs.take k)))) 0 (by
    refine Prod.ext (by simp) ?_;simp only;refine JE fun p=>?_;rw[Tt,GH];congr 1;funext y;rw[ifN]) (by omega) (by omega)
  rw[eq,hq];simp only[Ac];rw[A7];simp
 ·simp only[M9];rw[it_n,List.take_length]
 ·simp only[List.take_zero];refine Prod.ext (by simp) ?_;simp only;rw[show at'.map (ctg [])=at'.map (fun _=>(-1:Int)) from H7 fun x _=>rfl];simp[List.map_const']
theorem Oj{vs:List Ah}{known g:Int}{t:At}{l:List Ae}(hs:VsSz vs)(hc:vchE vs=0)(hr:∀r,r∈l->RR r)(hl:l.length<=5000)(hk:0<=known/\known<=14609)(ht:0<=t.From/\t.From<=t.To/\t.To<=1402560) : ∃c,Et l vs g t known=some c/\∀st:List Az->Option Bool,(∀ys,ys.length<=2*l.length+2->(∀p,p∈ys->PcOk p)->st ys=some false) -> ∃P,D0 c.1 c.2 st=some P/\Cd (stg vs known g l) t.To none t.From (P.map tri)/\P.length<=2*l.length+2/\∀p,p∈P->PcOk p:=by
 obtain⟨at',e,ha,hm,aD⟩:=jz0n (g:=g) hs hc hr hl hk ht;refine⟨_,e,fun st aH=>?_⟩
 have fK:∀x,x∈at'->t.From<=x/\x<=t.To:=fun x hx=>by
  rcases(hm x).1 hx with h|h|⟨c,gW,h⟩
  ·omega
  ·omega
  ·obtain⟨r,_,cz⟩:=List.mem_filterMap.1 gW;unfold clp at cz;split at cz
   ·rename_i h';cases cz;simp only at h;omega
   ·cases cz
 have hF:=(hm t.From).2 (.inl rfl);have hT:=(hm t.To).2 (.inr (.inl rfl));have bn:=List.length_pos_of_mem hF
 have e0:at'[0]=t.From:=by
  obtain⟨i,hi,f9⟩:=CF hF;have:=fK _ (BH bn);by_cases h:i=0
  ·subst h;exact f9
  ·have:=Cg ha bn hi (by omega);omega
 have e1:at'[at'.length-1]=t.To:=by
  obtain⟨i,hi,f9⟩:=CF hT;have:=fK _ (BH (show at'.length-1<at'.length by omega));by_cases h:i=at'.length-1
  ·subst h;exact f9
  ·have:=Cg ha hi (show at'.length-1<at'.length by omega) (by omega);omega
 obtain⟨P,p1,p2,p3,p4⟩:=jz0m (at':=at') (c1:=at'.map (ctg (l.filterMap (clp vs known g t)))) (F:=stg vs known g l) (st:=st) bn (by omega) ha (by simp) (fun x hx=>by have:=fK x hx;omega) (fun i h x x1 x2=>by rw[GH,AD (by omega),Do];have r1:=fK _ (BH (show i<at'.length by omega));have r2:=fK _ (BH h);rw[<-jz0p ha (fun x hx=>(hm x).2 hx) h x1 x2 _ (fun c hc=>hc),jz06 (by omega)]) (fun ys h1 h2=>aH ys (by omega) h2);rw[e0,e1]at p2;exact⟨P,p1,p2,by omega,p4⟩
def jzzd(p:Int×Int×Int):AT:=if 0<=p.2.2 then⟨p.1,p.2.1,[⟨p.2.2,p.2.1-p.1⟩],0,0⟩ else⟨p.1,p.2.1,[],0,1000⟩
def Rng(g:Int)(t:At)(known:Int):Prop:=(0<=g/\g<=39)/\(0<=t.From/\t.From<=t.To/\t.To<=1402560)/\0<=known/\known<=14609
instance (g:Int)(t:At)(known:Int):Decidable (Rng g t known):=by unfold Rng;infer_instance
def SerR(l:List Ae)(vs:List Ah)(g:Int)(t:At)(known:Int)(y:List AT×Int):Prop := (rchE l≠0/\y=([],rchE l))\/(rchE l=0/\vchE vs≠0/\y=([],vchE vs))\/(rchE l=0/\vchE vs=0/\¬Rng g t known/\y=([],3)) \/ (rchE l=0/\vchE vs=0/\Rng g t known/\∃P,Cd (stg vs known g l) t.To none t.From P/\P.length<=2*l.length+2/\y=if 2000<P.length then([],2) else(P.map jzzd,0))
theorem SerR.uniq{l:List Ae}{vs:List Ah}{g:Int}{t:At}{known:Int}{y z:List AT×Int}(h:SerR l vs g t known y)(k:SerR l vs g t known z):y=z:=by
 rcases h with ⟨a,e⟩|⟨a,b,e⟩|⟨a,b,c,e⟩|⟨a,b,c,P,d,_,e⟩<;>rcases k with ⟨a',e'⟩|⟨a',b',e'⟩|⟨a',b',c',e'⟩|⟨a',b',c',P',d',_,e'⟩ <;>
  first|exact absurd a a'|exact absurd a' a|exact absurd b b'|exact absurd b' b|exact absurd c c'|exact absurd c' c|(rw[e,e'];done)|skip
 rw[e,e',d.uniq d']
theorem YE(x y:Int):In [x,y]=some (if x=0 then y else x):=by
 unfold In;rw[Ea (l:=[x,y]) (fun _ z=>if z=0 then none else some z) (by simp) ?_ ?_]
 ·by_cases hx:x=0
  ·subst hx;by_cases hy:y=0
   ·subst hy;rfl
   ·simp[scan,hy,sOut,Ac]
  ·simp[scan,hx,sOut,Ac]
 ·intro k z hz;have hk:=(AK.1 hz).1;simp only[PI];rw[it_d,at_e rfl hz];simp only[Ac];by_cases h:z=0
  ·rw[AH h,A7 (by simp at hk;omega),An h]
  ·rw[AR h,Ak h]
 ·simp only[PI];rw[it_n]
theorem YF{vs:List Ah}{known g x:Int}{l:List Ae}(hc:vchE vs=0)(h:Bk l)(hl:l.length<=5000):K5 l vs g x known=some (stg vs known g l x):=by
 unfold K5 Qe
 obtain⟨o,e,ho⟩:=Cl (s:=((-1:Int),(0:Int))) (body:=Qd g known l x vs) (fun s=>∃k:Nat,∃j:Int,s=(j,(k:Int))/\k<=l.length/\((j = -1/\stg vs known g (l.take k) x = -1)\/∃i:Nat,∃h:i<l.length,j=(i:Int)/\i<k/\l[i].Gauge=g/\stg vs known g (l.take k) x=l[i].Stage)) (fun s=>(l.length-s.2).toNat) (fun j=>(j = -1/\stg vs known g l x = -1)\/∃i:Nat,∃h:i<l.length,j=(i:Int)/\stg vs known g l x=l[i].Stage) (by
  rintro s ⟨k,j,rfl,hk,hI⟩;simp only[Qd];by_cases hlt:k<l.length;rotate_left
  ·right;rw[it_n];rw[FT (by omega)]at hI;rcases hI with h|⟨i,hi,h1,h2,h3,h4⟩
   ·exact⟨_,rfl,.inl h⟩
   ·exact⟨_,rfl,.inr ⟨i,hi,h1,h4⟩⟩
  left;have hx:=AD hlt;have bP:l.take (k+1)=l.take k++[l[k]]:=E4 hx;have dy:=Oh (vs:=vs) (known:=known) (g:=g) (x:=x) (l:=l.take k) (r:=l[k]);rw[<-bP]at dy;have jW:=h.right _ (BH hlt);have dX:∀i,(hi:i<l.length)->i<k->rlt l[i] l[k]:=fun i hi dE=>Eb h.asc hi hlt dE;rw[it_d,at_e rfl hx];simp only[Ac];generalize nE:l[k]=r at *;rw[YB hc jW];simp only[Ac]
  have ia:(bif (bif (bif (decide (r.Gauge=g)) then(decide (r.Known<=known)) else false) then(decide ((shf vs known r).From<=x)) else false) then(decide (x<(shf vs known r).To)) else false)=decide (cov vs known g x r):=by
   rw[Fp,FP];simp only[Fo,AE,Bp];unfold cov;constructor
   ·rintro⟨⟨⟨a,b⟩,c⟩,d⟩;exact⟨a,b,c,d⟩
   ·rintro⟨a,b,c,d⟩;exact⟨⟨⟨a,b⟩,c⟩,d⟩
  have gE:∃z,gd (decide (r.Gauge=g)) (some r)=some z/\((decide (r.Gauge=g))=true->z=r):=by
   cases decide (r.Gauge=g)
   ·exact⟨_,rfl,fun e=>by cases e⟩
   ·exact⟨_,rfl,fun _=>rfl⟩
  obtain⟨z,kf,fO⟩:=gE;rw[kf];simp only[Ac]
  have cO:(bif (bif (bif (decide (r.Gauge=g)) then(decide (z.Known<=known)) else false) then(decide ((shf vs known r).From<=x)) else false) then(decide (x<(shf vs known r).To)) else false)=decide (cov vs known g x r):=by
   rw[<-ia];cases hd:decide (r.Gauge=g)
   ·rfl
   ·rw[fO hd]
  rw[cO];by_cases iW:cov vs known g x r;rotate_left
  ·rw[Ak iW]at dy;rw[By iW];simp only[L2,AI,Ac,Cm];rw[AV,A7];refine⟨_,rfl,⟨k+1,j,by simp,hlt,?_⟩,by simp only;omega⟩;rw[dy];rcases hI with h|⟨i,hi,h1,h2,h3,h4⟩
   ·exact .inl h
   ·exact .inr ⟨i,hi,h1,by omega,h3,h4⟩
  rw[An iW]at dy;rw[BF iW];simp only[On,BV];have fin:∃k':Nat,∃j:Int,(((k:Int)),((k:Int)+1))=(j,(k':Int))/\k'<=l.length/\((j = -1/\stg vs known g (l.take k') x = -1)\/∃i:Nat,∃h:i<l.length,j=(i:Int)/\i<k'/\l[i].Gauge=g/\stg vs known g (l.take k') x=l[i].Stage) := ⟨k+1,(k:Int),by simp,hlt,.inr ⟨k,hlt,rfl,by omega,by rw[nE];exact iW.1,by rw[dy,nE]⟩⟩;rcases hI with ⟨rfl,_⟩|⟨i,hi,rfl,h2,h3,h4⟩
  ·rw[show decide ((-1:Int)<0)=true by decide];simp only[Dn,AI,Ac,BV];rw[BS,A7];exact⟨_,rfl,fin,by simp only;omega⟩
  ·have bu:=dX i hi h2;have mA:l[i].Seq<r.Seq:=by have:=iW.1;unfold rlt at bu;omega
   rw[show decide ((i:Int)<0)=false by simp];simp only[DB,AN,Cm,Ac];rw[show max 0 (i:Int)=(i:Int) by omega,at_e rfl (AD hi)];simp only[Ac];rw[it_d mA,A7];exact⟨_,rfl,fin,by simp only;omega⟩) ⟨0,-1,rfl,Dj _,.inl ⟨rfl,rfl⟩⟩ (by simp only;omega)
 rw[e];simp only[Ac];rcases ho with ⟨rfl,h⟩|⟨i,hi,rfl,h⟩
 ·rw[it_d (by decide),h]
 ·rw[it_n,at_e rfl (AD hi),h];simp only[Ac]
def G9(vs:List Ah)(known g:Int)(t:At)(l:List Ae)(x:Int):Prop:=∃r,r∈l/\r.Gauge=g/\(x=(shf vs known r).From\/x=(shf vs known r).To)/\t.From<x/\x<t.To
theorem YG{vs:List Ah}{known g:Int}{t:At}{l:List Ae}{r:Ae}{x:Int}:G9 vs known g t (l++[r]) x↔G9 vs known g t l x\/(r.Gauge=g/\(x=(shf vs known r).From\/x=(shf vs known r).To)/\t.From<x/\x<t.To):=by
 unfold G9;constructor
 ·rintro⟨s,hs,h⟩;rcases Bh.1 hs with p|p
  ·exact .inl ⟨s,p,h⟩
  ·rw[Bi.1 p]at h;exact .inr h
 ·rintro(⟨s,hs,h⟩|h);·exact⟨s,Bh.2 (.inl hs),h⟩
  ·exact⟨r,Bh.2 (.inr (Bi.2 rfl)),h⟩
theorem YH{vs:List Ah}{known g:Int}{t:At}{l:List Ae}(hc:vchE vs=0)(hr:∀r,r∈l->RR r)(hl:l.length<=5000)(ht:t.From<=t.To) : ∃at':List Int,K4 l vs g t known=some at'/\SAsc at'/\(∀x,x∈at'↔x=t.From\/x=t.To\/G9 vs known g t l x)/\at'.length<=2*l.length+2:=by
 unfold K4
 obtain⟨o,e,h1,h2,h3⟩:=Cl (s:=([t.From],(0:Int))) (body:=Qr g known l t vs) (fun s=>∃k:Nat,∃m,s=(m,(k:Int))/\k<=l.length/\SAsc m/\(∀x,x∈m↔x=t.From\/G9 vs known g t (l.take k) x)/\m.length<=2*k+1) (fun s=>(l.length-s.2).toNat) (fun o=>SAsc o/\(∀x,x∈o↔x=t.From\/G9 vs known g t l x)/\o.length<=2*l.length+1) (by
  rintro s ⟨k,m,rfl,hk,h1,h2,h3⟩;simp only[Qr];by_cases hlt:k<l.length;rotate_left
  ·right;rw[it_n];rw[FT (by omega)]at h2;exact⟨_,rfl,h1,h2,by omega⟩
  left;have hx:=AD hlt;have bP:l.take (k+1)=l.take k++[l[k]]:=E4 hx;have jW:=hr _ (BH hlt);rw[it_d,at_e rfl hx];simp only[Ac];generalize l[k]=r at *;rw[YB hc jW];simp only[Ac]
  obtain⟨m1,e1,a1,a2,a3⟩:∃m1,(ite' (bif (bif (decide (r.Gauge=g)) then(decide (t.From<(shf vs known r).From)) else false) then(decide ((shf vs known r).From<t.To)) else false) (bd (Gi m (shf vs known r).From) fun r3=>some r3) (some m))=some m1/\SAsc m1/\(∀x,x∈m1↔x∈m\/(r.Gauge=g/\x=(shf vs known r).From/\t.From<x/\x<t.To))/\m1.length<=m.length+1:=by
   by_cases h:r.Gauge=g/\t.From<(shf vs known r).From/\(shf vs known r).From<t.To
   ·rw[it_t (by simp only[Fo,AE,Bp];omega)];obtain⟨q,q1,q2,q3,q4⟩:=NZ (n:=(shf vs known r).From) h1 (by omega);rw[q1];simp only[Ac];refine⟨q,rfl,q2,fun x=>?_,q4⟩;rw[q3];constructor
    ·rintro(rfl|h');·exact .inr ⟨h.1,rfl,h.2⟩
     ·exact .inl h'
    ·rintro(h'|⟨_,h',_⟩);·exact .inr h'
     ·exact .inl h'
   ·rw[it_f (by rw[Bool.eq_false_iff];simp only[Fo,ne_eq,AE,Bp];omega)];refine⟨m,rfl,h1,fun x=>⟨.inl,fun h'=>h'.elim id ?_⟩,by omega⟩;rintro⟨a,rfl,b⟩;exact absurd ⟨a,b⟩ h
  rw[e1];simp only[Ac];by_cases h:r.Gauge=g/\t.From<(shf vs known r).To/\(shf vs known r).To<t.To
  ·rw[it_t (by simp only[Fo,AE,Bp];omega)];obtain⟨q,q1,q2,q3,q4⟩:=NZ (n:=(shf vs known r).To) a1 (by omega);rw[q1];simp only[Ac];rw[A7];refine⟨_,rfl,⟨k+1,q,by simp,hlt,q2,fun x=>?_,by omega⟩,by simp only;omega⟩;rw[q3,a2,h2,bP,YG];constructor
   ·rintro(rfl|(h'|h')|⟨h',rfl,cu⟩);·exact .inr (.inr ⟨h.1,.inr rfl,h.2⟩)
    ·exact .inl h'
    ·exact .inr (.inl h')
    ·exact .inr (.inr ⟨h',.inl rfl,cu⟩)
   ·rintro(h'|h'|⟨h',rfl|rfl,cu⟩);·exact .inr (.inl (.inl h'))
    ·exact .inr (.inl (.inr h'))
    ·exact .inr (.inr ⟨h',rfl,cu⟩)
    ·exact .inl rfl
  ·rw[it_f (by rw[Bool.eq_false_iff];simp only[Fo,ne_eq,AE,Bp];omega),A7];refine⟨_,rfl,⟨k+1,m1,by simp,hlt,a1,fun x=>?_,by omega⟩,by simp only;omega⟩;rw[a2,h2,bP,YG];constructor
   ·rintro((h'|h')|⟨h',rfl,cu⟩);·exact .inl h'
    ·exact .inr (.inl h')
    ·exact .inr (.inr ⟨h',.inl rfl,cu⟩)
   ·rintro(h'|h'|⟨h',rfl|rfl,cu⟩);·exact .inl (.inl h')
    ·exact .inl (.inr h')
    ·exact .inr ⟨h',rfl,cu⟩
    ·exact absurd ⟨h',cu⟩ h) ⟨0,_,rfl,Dj _,H9 _ _,fun x=>by simp[G9],by simp⟩ (by simp only;omega)
 rw[e];simp only[Ac];obtain⟨q,q1,q2,q3,q4⟩:=NZ (n:=t.To) h1 (by omega);rw[q1];simp only[Ac];refine⟨q,rfl,q2,fun x=>?_,by omega⟩;rw[q3,h2];constructor
 ·rintro(h|h|h);·exact .inr (.inl h)
  ·exact .inl h
  ·exact .inr (.inr h)
 ·rintro(h|h|h);·exact .inr (.inl h)
  ·exact .inl h
  ·exact .inr (.inr h)
theorem YI{vs:List Ah}{known g:Int}{t:At}{l:List Ae}{at':List Int}(ha:SAsc at')(aQ:∀x,x∈at'->t.From<=x/\x<=t.To)(hm:∀x,G9 vs known g t l x->x∈at'){i:Nat}(h:i+1<at'.length){x:Int}(h1:at'[i]<=x)(h2:x<at'[i+1]) : ∀m:List Ae,(∀r,r∈m->r∈l)->stg vs known g m x=stg vs known g m at'[i]:=by
 refine Td (fun _=>rfl) fun m r ih hd=>?_;have hr:=hd r (by simp);have ih:=ih fun d fd=>hd d (Bh.2 (.inl fd))
 have no:∀y,y∈at'->at'[i]<y->at'[i+1]<=y:=fun y hy hlt=>by
  obtain⟨j,hj,rfl⟩:=CF hy;by_cases e:j<=i
  ·by_cases e':j=i;·subst e';omega
   ·have:=Cg ha hj (show i<at'.length by omega) (by omega);omega
  ·by_cases e':j=i+1;·subst e';exact L5 _
   ·have:=Cg ha h hj (by omega);omega
 have r1:=aQ _ (BH (show i<at'.length by omega));have r2:=aQ _ (BH h);rw[Oh,Oh,ih]
 have key:cov vs known g x r↔cov vs known g at'[i] r:=by
  unfold cov;by_cases hg:r.Gauge=g
  ·have f1:(shf vs known r).From<=x↔(shf vs known r).From<=at'[i]:=by
    constructor
    ·intro h';rcases Int.lt_or_le at'[i] (shf vs known r).From with h3|h3
     ·have:=no _ (hm _ ⟨r,hr,hg,.inl rfl,by omega,by omega⟩) h3;omega
     ·exact h3
    ·intro h';omega
   have f2:x<(shf vs known r).To↔at'[i]<(shf vs known r).To:=by
    constructor
    ·intro h';omega
    ·intro h';rcases Int.lt_or_le x (shf vs known r).To with h3|h3
     ·exact h3
     ·have:=no _ (hm _ ⟨r,hr,hg,.inr rfl,by omega,by omega⟩) h';omega
   rw[f1,f2]
  ·constructor<;>(intro h';exact absurd h'.1 hg)
 by_cases hc:cov vs known g x r
 ·rw[An hc,An (key.1 hc)]
 ·rw[Ak hc,Ak (fun e=>hc (key.2 e))]
theorem jz0l{at':List Int}(ha:SAsc at'){a b:Int}(h1:a∈at')(h2:b∈at')(hr:∀x,x∈at'->a<=x/\x<=b):∃hp:0<at'.length,at'[0]=a/\at'[at'.length-1]=b:=by
 have bn:=List.length_pos_of_mem h1;refine⟨bn,?_,?_⟩
 ·obtain⟨i,hi,f9⟩:=CF h1;have:=hr _ (BH bn);by_cases h:i=0
  ·subst h;exact f9
  ·have:=Cg ha bn hi (by omega);omega
 ·obtain⟨i,hi,f9⟩:=CF h2;have:=hr _ (BH (show at'.length-1<at'.length by omega));by_cases h:i=at'.length-1
  ·subst h;exact f9
  ·have:=Cg ha hi (show at'.length-1<at'.length by omega) (by omega);omega
theorem YJ(c:AM):∃b,Kt c=some b/\(b=true->CSz c):=by
 unfold Kt;by_cases h:20<c.Points.length
 ·rw[it_d];exact⟨_,rfl,fun e=>by cases e⟩
 rw[it_n,Ea (l:=c.Points) (fun _ p=>if p.Flow.Num.length<=12/\p.Flow.Den.length<=12 then none else some false) (by omega) ?_ ?_]
 ·cases hs:scan (fun _ (p:AO)=>if p.Flow.Num.length<=12/\p.Flow.Den.length<=12 then none else some false) 0 c.Points with
  |some o =>
   obtain⟨i,x,hx,hi,_⟩:=Hx 0 c.Points o hs;refine⟨o,rfl,fun e=>?_⟩;split at hi
   ·cases hi
   ·cases hi;cases e
  |none =>
   refine⟨true,rfl,fun _=>⟨by omega,fun p hp=>?_⟩⟩;obtain⟨i,hi,rfl⟩:=CF hp;have:=Jx hs (AD hi);split at this
   ·rename_i h';exact⟨by omega,by omega⟩
   ·cases this
 ·intro k p hp;have hk:=(AK.1 hp).1;simp only[PB];rw[it_d,at_e rfl hp];simp only[Ac];by_cases h1:12<p.Flow.Num.length
  ·rw[BF (show(12:Int)<(p.Flow.Num.length:Int) by omega)];simp only[Dn,AI,Ac,BV];rw[BS,ifN]
  ·rw[By (show ¬(12:Int)<(p.Flow.Num.length:Int) by omega)];simp only[DB,AN,Ac,Cm];by_cases h2:12<p.Flow.Den.length
   ·rw[it_d,ifN]
   ·rw[it_n,A7,ifP]
 ·simp only[PB];rw[it_n]
theorem jz09(vs:List Ah)(m:Int):∃b,Mi vs m=some b/\(b=true->VsSz vs):=by
 unfold Mi;by_cases h:410<vs.length
 ·rw[it_t (by simp only[JD,Fq,Bp];exact .inr (by omega))];exact⟨_,rfl,fun e=>by cases e⟩
 cases hd:(bif (bif (decide (m<(List.length vs:Int))) then(decide ((List.length vs:Int)<=400)) else false) then true else(decide (410<(List.length vs:Int))));rotate_left
 ·rw[BS];exact⟨_,rfl,fun e=>by cases e⟩
 rw[AV]
 obtain⟨o,e,ho⟩:=Cl (s:=(0:Int)) (body:=PH vs) (fun s=>∃k:Nat,s=(k:Int)/\k<=vs.length/\∀v,v∈vs.take k->CSz v.Curve) (fun s=>(vs.length-s).toNat) (fun o=>(o=.inl ()/\VsSz vs)\/o=.inr false) (by
  rintro s ⟨k,rfl,hk,hI⟩;simp only[PH];by_cases hlt:k<vs.length;rotate_left
  ·right;rw[it_n];rw[FT (by omega)]at hI;exact⟨_,rfl,.inl ⟨rfl,hI⟩⟩
  have hx:=AD hlt;have bP:vs.take (k+1)=vs.take k++[vs[k]]:=E4 hx;rw[it_d,at_e rfl hx];simp only[Ac];obtain⟨b,eb,hb⟩:=YJ vs[k].Curve;rw[eb];simp only[Ac];cases b
  ·rw[DB,BS];exact .inr ⟨_,rfl,.inr rfl⟩
  ·rw[Dn,AV,A7];refine .inl ⟨_,rfl,⟨k+1,by simp,hlt,fun v hv=>?_⟩,by omega⟩;rw[bP]at hv;rcases Bh.1 hv with p|p
   ·exact hI v p
   ·rw[Bi.1 p];exact hb rfl) ⟨0,rfl,Dj _,fun v hv=>by simp at hv⟩ (by omega)
 rw[e];simp only[Ac];rcases ho with ⟨rfl,h⟩|rfl
 ·exact⟨true,rfl,fun _=>h⟩
 ·exact⟨false,rfl,fun e=>by cases e⟩
theorem jz00(l:List Ae)(vs:List Ah):∃b,Mp l vs=some b/\(b=true->VsSz vs):=by
 unfold Mp;rw[qzya];simp only[Ac];cases decide (l.length<=20\/4000<l.length/\l.length<=4010)
 ·simp only[AI,Ac,Cm];exact⟨_,rfl,fun e=>by cases e⟩
 ·simp only[AN,BV];obtain⟨b,e,h⟩:=jz09 vs 12;rw[e];exact⟨b,rfl,h⟩
def tks(L:List (Int×Int×Bool)):List At:=L.filterMap fun p=>if p.2.2 then some ⟨p.1,p.2.1⟩ else none
theorem J4(L M:List (Int×Int×Bool)):tks (L++M)=tks L++tks M:=List.filterMap_append
theorem Ol(L:List (Int×Int×Bool)):(tks L).length<=L.length:=List.length_filterMap_le _ _
def outJ(out:List At)(a b:Int):List At:=match out.getLast? with
 |some q=>if q.To=a then out.dropLast++[⟨q.From,b⟩] else out++[⟨a,b⟩]
 |none=>out++[⟨a,b⟩]
theorem Cd.end'{U:Type}{f:Int->U}{b:Int}:∀{l:List (Int×Int×U)} {v:Option U} {a:Int} {q:Int×Int×U},Cd f b v a (l++[q])->q.2.1=b
 |[],v,a,q,h=>h.2.2.2.2
 |p :: l,v,a,q,h=>h.2.2.2.2.end'
theorem Cd.asc2{U:Type}{f:Int->U}{b:Int}:∀{l:List (Int×Int×U)} {v:Option U} {a:Int} {q:Int×Int×U},Cd f b v a (l++[q])->∀p,p∈l->p.2.1<=q.1
 |[],v,a,q,h,p,hp=>by cases hp
 |r :: l,v,a,q,h,p,hp=>by
  obtain⟨k1,k2,k3,k4,k5⟩:=h;rcases AL.1 hp with e|e
  ·subst e;exact(k5.mem q (by simp)).2.1
  ·exact k5.asc2 p e
theorem YK{G:Int->Bool}{a b c:Int}{L:List (Int×Int×Bool)}(h:Cd G b none a L)(hc:b<c)(s:Bool):tks (jn L (b,c,s))=if s then outJ (tks L) b c else tks L:=by
 unfold jn outJ;cases e:L.getLast? with
 |none =>obtain rfl:=List.getLast?_eq_none_iff.1 e;cases s<;>simp[tks]
 |some q =>
  obtain⟨M,rfl⟩:=List.getLast?_eq_some_iff.1 e;have hq:=h.end';obtain⟨q1,q2,q3⟩:=q;simp only at hq;subst hq;simp only;cases q3
  ·have hM:tks (M++[(q1,q2,false)])=tks M:=by rw[J4];simp[tks]
   cases s
   ·rw[An rfl,List.dropLast_concat,J4];simp[tks]
   ·rw[Ak (by simp),J4,hM];simp only[Cn];have:tks [(q2,c,true)]=[⟨q2,c⟩]:=rfl;rw[this];cases hg:(tks M).getLast? with
    |none=>rfl
    |some r =>
     have hr:=List.mem_of_getLast? hg;obtain⟨p,hp,jJ⟩:=List.mem_filterMap.1 hr;split at jJ
     ·cases jJ;have h1:=h.asc2 p hp;have h2:=(h.mem (q1,q2,false) (by simp)).1;simp only at h1 h2 |-;rw[ifN]
     ·cases jJ
  ·have hM:tks (M++[(q1,q2,true)])=tks M++[⟨q1,q2⟩]:=by rw[J4];simp[tks]
   cases s
   ·rw[Ak (by simp),J4];simp[tks]
   ·rw[An rfl,List.dropLast_concat,J4,hM];simp only[Cn,List.getLast?_append,List.getLast?_singleton,Option.some_or];rw[List.dropLast_concat];rfl
theorem Cd.next{U:Type}{f:Int->U}{b:Int}:∀{l:List (Int×Int×U)} {v:Option U} {a:Int},Cd f b v a l->∀i,(h:i<l.length)->(l[i].2.1<b->∃h2:i+1<l.length,l[i+1].1=l[i].2.1)/\(i+1<l.length->l[i].2.1<b)
 |p :: l,v,a,h,i,hi=>by
  obtain⟨k1,k2,k3,k4,k5⟩:=h;cases i with
  |zero =>
   simp only[List.getElem_cons_zero];cases l with
   |nil =>have k5:_=_:=k5;exact⟨fun h=>by omega,fun h=>by simp at h⟩
   |cons q l =>obtain⟨m1,m2,_,_,m5⟩:=k5;refine⟨fun _=>⟨by simp,m1⟩,fun _=>?_⟩;have:=m5.le;omega
  |succ i =>simp only[E7]at hi |-;have:=k5.next i (by omega);simp only[List.getElem_cons_succ];exact⟨fun h=>by obtain⟨h2,e⟩:=this.1 h;exact⟨by omega,e⟩,fun h=>this.2 (by omega)⟩
theorem Cd.first{U:Type}{f:Int->U}{b:Int}{l:List (Int×Int×U)}{v:Option U}{a:Int}(h:Cd f b v a l)(dI:a<b):∃hp:0<l.length,l[0].1=a:=by
 cases l with
 |nil=>have h:a=b:=h;omega
 |cons p l=>exact⟨by simp,h.1⟩
theorem jz3g{out:List At}{a b:Int}(hn:out.length<=100000):(ck (!(decide (0<(List.length out:Int)))||Ax .i64 ((List.length out:Int)-1)) <|
     bd (gd (decide (0<(List.length out:Int))) (at? out ((List.length out:Int)-1))) fun x7 =>
     ite' (bif (decide (0<(List.length out:Int))) then(decide (x7.To=a)) else false) (
      ck (Ax .i64 ((List.length out:Int)-1)) <|
      bd (at? out ((List.length out:Int)-1)) fun x8 =>
      some (List.set out (Int.toNat ((List.length out:Int)-1)) (At.mk x8.From b))
      ) (
      ck (decide (List.length (out++[(At.mk a b)])*16<=140737488355328)) <|
      some (out++[(At.mk a b)])
      ))=some (outJ out a b):=by
 unfold outJ;cases h:out.getLast? with
 |none =>obtain rfl:=List.getLast?_eq_none_iff.1 h;rw[ck_t (by simp)];simp only[List.length_nil];rw[show decide ((0:Int)<((0:Nat):Int))=false by simp];simp only[AI,Ac,Cm];rw[AV,ck_d (by simp)]
 |some q =>
  obtain⟨M,rfl⟩:=List.getLast?_eq_some_iff.1 h;have aD:(M++[q]).length=M.length+1:=by simp
  have bO:at? (M++[q]) (((M++[q]).length:Int)-1)=some q:=at_e (n:=M.length) (by omega) (by simp);rw[ck_t (by simp[Ax];omega),show decide ((0:Int)<((M++[q]).length:Int))=true from BF (by omega)];simp only[AN,BV];rw[bO];simp only[Ac];by_cases e:q.To=a
  ·rw[it_d e,An e,A7,List.dropLast_concat,show Int.toNat (((M++[q]).length:Int)-1)=M.length by omega,List.set_append_right _ _ (AC _)];simp
  ·rw[it_n e,Ak e,ck_d (by simp;omega)]
theorem YL{P:List Az}{q:(List Az->Option Bool)->Option (List Az)}(h:q (fun l=>ck (decide (List.length l<=1000000000)) (some false))=some P):Mf q=some P:=h
theorem jz25{A B:Int->Int}{a b:Int}(dI:a<b)(hb:0<=a/\b<=1402560){P Q:List Az}(hP:Cd A b none a (P.map tri))(hQ:Cd B b none a (Q.map tri))(qf:P.length<=20000)(qg:Q.length<=20000) : ∃L,lp (Mj P Q) (0,0,[])=some (tks L)/\Cd (fun x=>decide (A x≠B x)) b none a L/\L.length<=40000:=by
 have fP:=hP.first dI;have fQ:=hQ.first dI
 obtain⟨o,e,L,rfl,h1,h2⟩:=Cl (s:=((0:Int),(0:Int),([]:List At))) (body:=Mj P Q) (fun s=>∃i j:Nat,∃L:List (Int×Int×Bool),∃c:Int,s=((i:Int),(j:Int),tks L)/\i<=P.length/\j<=Q.length/\L.length<=i+j/\Cd (fun x=>decide (A x≠B x)) c none a L /\ ((c=b/\i=P.length/\j=Q.length)\/(c<b/\∃hi:i<P.length,∃hj:j<Q.length,c=max P[i].t.From Q[j].t.From/\c<P[i].t.To/\c<Q[j].t.To))) (fun s=>(P.length-s.1).toNat+(Q.length-s.2.1).toNat) (fun o=>∃L,o=tks L/\Cd (fun x=>decide (A x≠B x)) b none a L/\L.length<=40000) (by
  rintro s ⟨i,j,L,c,rfl,hi,hj,hL,hC,hI⟩;simp only[Mj];rcases hI with ⟨rfl,rfl,rfl⟩|⟨eY,bh,aZ,hc,kc,qh⟩
  ·right;rw[it_f (by simp)];exact⟨_,rfl,L,rfl,hC,by omega⟩
  left;have e1:=AD bh;have e2:=AD aZ;rw[it_t (by simp only[Fo,AE,Bp];omega),at_e rfl e1,at_e rfl e2];simp only[Ac];have mP:=hP.mem (tri P[i]) (JI (BH bh));have mQ:=hQ.mem (tri Q[j]) (JI (BH aZ));have nP:=hP.next i (by simpa using bh);have nQ:=hQ.next j (by simpa using aZ);simp only[List.getElem_map,J8]at nP nQ;have gP:∀h2:i+1<P.length,(tri P[i+1]).1=P[i+1].t.From/\P[i+1].t.From<P[i+1].t.To:=fun h2=>⟨rfl,(hP.mem (tri P[i+1]) (JI (BH h2))).1⟩;have gQ:∀h2:j+1<Q.length,(tri Q[j+1]).1=Q[j+1].t.From/\Q[j+1].t.From<Q[j+1].t.To:=fun h2=>⟨rfl,(hQ.mem (tri Q[j+1]) (JI (BH h2))).1⟩;generalize hp:P[i]=p at *;generalize hq:Q[j]=q at *;simp only[tri]at mP mQ nP nQ gP gQ;generalize nF:(∃h2:i+1<P.length,P[i+1].t.From=p.t.To)=NP at nP;generalize nG:(∃h2:j+1<Q.length,Q[j+1].t.From=q.t.To)=NQ at nQ;obtain⟨p1,p2,p3,p4⟩:=mP;obtain⟨q1,q2,q3,q4⟩:=mQ;have nH:c<min p.t.To q.t.To:=by omega
  have hG:∀x,c<=x->x<min p.t.To q.t.To->(decide (A x≠B x))=decide (p.stage≠q.stage):=fun x x1 x2=>by rw[p4 x (by omega) (by omega),q4 x (by omega) (by omega)]
  have hJ:Cd (fun x=>decide (A x≠B x)) (min p.t.To q.t.To) none a (jn L (c,min p.t.To q.t.To,decide (p.stage≠q.stage))):=Cd.jn (p:=(c,min p.t.To q.t.To,decide (p.stage≠q.stage))) hC rfl nH hG
  have pI:(jn L (c,min p.t.To q.t.To,decide (p.stage≠q.stage))).length<=L.length+1:=by
   unfold jn;cases L.getLast? with
   |none=>simp
   |some r =>
    simp only;split
    ·simp only[Ch,List.length_dropLast,DE];omega
    ·simp
  have bP:=YK hC nH (decide (p.stage≠q.stage));have dF:=Ol L
  have hout:(ite' (!decide (p.stage=q.stage)) (
     ck (!(decide (0<(List.length (tks L):Int)))||Ax .i64 ((List.length (tks L):Int)-1)) <|
     bd (gd (decide (0<(List.length (tks L):Int))) (at? (tks L) ((List.length (tks L):Int)-1))) fun x7 =>
     ite' (bif (decide (0<(List.length (tks L):Int))) then(decide (x7.To=(max p.t.From q.t.From))) else false) (
      ck (Ax .i64 ((List.length (tks L):Int)-1)) <|
      bd (at? (tks L) ((List.length (tks L):Int)-1)) fun x8 =>
      some (List.set (tks L) (Int.toNat ((List.length (tks L):Int)-1)) (At.mk x8.From (min p.t.To q.t.To)))
      ) (
      ck (decide (List.length ((tks L)++[(At.mk (max p.t.From q.t.From) (min p.t.To q.t.To))])*16<=140737488355328)) <|
      some ((tks L)++[(At.mk (max p.t.From q.t.From) (min p.t.To q.t.To))])
      )
     ) (some (tks L)))=some (tks (jn L (c,min p.t.To q.t.To,decide (p.stage≠q.stage)))):=by
   by_cases hs:p.stage=q.stage
   ·rw[AH hs,bP];simp[hs]
   ·rw[AR hs,jz3g (by omega),bP,<-hc];simp[hs]
  rw[hout];simp only[Ac]
  have fL:∀i' j':Nat,(i'=if p.t.To=min p.t.To q.t.To then i+1 else i)->(j'=if q.t.To=min p.t.To q.t.To then j+1 else j) -> (∃i'' j'':Nat,∃L':List (Int×Int×Bool),∃c':Int,(((i':Int),(j':Int),tks (jn L (c,min p.t.To q.t.To,decide (p.stage≠q.stage)))):Int×Int×List At)=((i'':Int),(j'':Int),tks L')/\i''<=P.length/\j''<=Q.length/\L'.length<=i''+j''/\Cd (fun x=>decide (A x≠B x)) c' none a L' /\ ((c'=b/\i''=P.length/\j''=Q.length)\/(c'<b/\∃hi:i''<P.length,∃hj:j''<Q.length,c'=max P[i''].t.From Q[j''].t.From/\c'<P[i''].t.To/\c'<Q[j''].t.To)))/\i+j<i'+j':=by
   intro i' j' kz gF;by_cases c1:p.t.To=min p.t.To q.t.To
   ·rw[An c1]at kz;subst kz;by_cases c2:q.t.To=min p.t.To q.t.To
    ·rw[An c2]at gF;subst gF;refine⟨⟨i+1,j+1,_,_,rfl,by omega,by omega,by omega,hJ,?_⟩,by omega⟩;by_cases mE:min p.t.To q.t.To=b
     ·left;refine⟨mE,?_,?_⟩
      ·rcases BU (i+1) P.length with h|h;·have:=nP.2 h;omega
       ·omega
      ·rcases BU (j+1) Q.length with h|h;·have:=nQ.2 h;omega
       ·omega
     ·right;have fk:min p.t.To q.t.To<b:=(by omega);have f1:min p.t.To q.t.To=max p.t.To q.t.To:=(by omega);have f2:=Int.min_le_left p.t.To q.t.To;have f3:=Int.min_le_right p.t.To q.t.To;have f4:p.t.To<b:=(by omega);have f5:q.t.To<b:=(by omega);obtain⟨u1,u2⟩:=nF▸nP.1 f4;obtain⟨v1,v2⟩:=nG▸nQ.1 f5;have g1:=(gP u1).2;have g2:=(gQ v1).2;rw[u2]at g1;rw[v2]at g2;exact⟨fk,u1,v1,by rw[u2,v2];exact f1,Int.lt_of_le_of_lt f2 g1,Int.lt_of_le_of_lt f3 g2⟩
    ·rw[Ak c2]at gF;subst gF;refine⟨⟨i+1,j',_,_,rfl,by omega,by omega,by omega,hJ,.inr ?_⟩,by omega⟩;have fk:min p.t.To q.t.To<b:=by omega
     have f1:min p.t.To q.t.To=max p.t.To q.t.From:=(by omega);have f2:=Int.min_le_left p.t.To q.t.To;have f3:min p.t.To q.t.To<q.t.To:=(by omega);have f4:p.t.To<b:=(by omega);obtain⟨u1,u2⟩:=nF▸nP.1 f4;have g1:=(gP u1).2;rw[u2]at g1;exact⟨fk,u1,aZ,by rw[hq,u2];exact f1,Int.lt_of_le_of_lt f2 g1,by rw[hq];exact f3⟩
   ·rw[Ak c1]at kz;subst kz;have c2:q.t.To=min p.t.To q.t.To:=by omega
    rw[An c2]at gF;subst gF;refine⟨⟨i',j+1,_,_,rfl,by omega,by omega,by omega,hJ,.inr ?_⟩,by omega⟩;have fk:min p.t.To q.t.To<b:=by omega
    have f1:min p.t.To q.t.To=max p.t.From q.t.To:=(by omega);have f2:=Int.min_le_right p.t.To q.t.To;have f3:min p.t.To q.t.To<p.t.To:=(by omega);have f4:q.t.To<b:=(by omega);obtain⟨v1,v2⟩:=nG▸nQ.1 f4;have g2:=(gQ v1).2;rw[v2]at g2;exact⟨fk,bh,v1,by rw[hp,v2];exact f1,by rw[hp];exact f3,Int.lt_of_le_of_lt f2 g2⟩
  by_cases c1:p.t.To=min p.t.To q.t.To
  ·rw[it_d c1,A7];simp only[Ac];by_cases c2:q.t.To=min p.t.To q.t.To
   ·rw[it_d c2,A7];obtain⟨r1,r2⟩:=fL (i+1) (j+1) (by rw[An c1]) (by rw[An c2]);exact⟨_,rfl,by simpa using r1,by simp only;omega⟩
   ·rw[it_n c2];obtain⟨r1,r2⟩:=fL (i+1) j (by rw[An c1]) (by rw[Ak c2]);exact⟨_,rfl,by simpa using r1,by simp only;omega⟩
  ·rw[it_n c1];simp only[Ac];have c2:q.t.To=min p.t.To q.t.To:=by omega
   rw[it_d c2,A7];obtain⟨r1,r2⟩:=fL i (j+1) (by rw[Ak c1]) (by rw[An c2]);exact⟨_,rfl,by simpa using r1,by simp only;omega⟩) (by
  obtain⟨iU,f1⟩:=fP;obtain⟨jL,f2⟩:=fQ;simp only[J8]at iU jL;simp only[List.getElem_map,tri]at f1 f2;have m1:=(hP.mem (tri P[0]) (JI (BH iU))).1;have m2:=(hQ.mem (tri Q[0]) (JI (BH jL))).1;simp only[tri]at m1 m2;exact⟨0,0,[],a,rfl,Dj _,Dj _,AC _,rfl,.inr ⟨dI,iU,jL,by omega,by omega,by omega⟩⟩) (by simp only;omega)
 exact⟨L,e,h1,h2⟩
theorem YM{A B:Int->Int}{b:Int}(hb:0<b/\b<=1402560){p q:(List Az->Option Bool)->Option (List Az)}{n:Nat}(hn:n<=20000)(hp:∀st:List Az->Option Bool,(∀ys,ys.length<=n->(∀p,p∈ys->PcOk p)->st ys=some false)->∃P,p st=some P/\Cd A b none 0 (P.map tri)/\P.length<=n/\∀p,p∈P->PcOk p)(hq:∀st:List Az->Option Bool,(∀ys,ys.length<=n->(∀p,p∈ys->PcOk p)->st ys=some false)->∃P,q st=some P/\Cd B b none 0 (P.map tri)/\P.length<=n/\∀p,p∈P->PcOk p) : ∃L,Kw p q=some (tks L)/\Cd (fun x=>decide (A x≠B x)) b none 0 L/\L.length<=40000:=by unfold Kw;have aH:∀ys:List Az,ys.length<=n->(∀p,p∈ys->PcOk p)->(ck (decide (List.length ys<=1000000000)) (some false))=some false:=fun ys h _=>ck_d;obtain⟨P,e1,P1,P2,_⟩:=hp (fun l=>ck (decide (List.length l<=1000000000)) (some false)) aH;obtain⟨Q,e2,Q1,Q2,_⟩:=hq (fun l=>ck (decide (List.length l<=1000000000)) (some false)) aH;rw[YL e1,YL e2];simp only[Ac];obtain⟨L,e,h1,h2⟩:=jz25 hb.1 ⟨L5 _,hb.2⟩ P1 Q1 (by omega) (by omega);rw[e];exact⟨L,rfl,h1,h2⟩
theorem YN{l m:List Ae}{vs ws:List Ah}{g known:Int}(hl:Bk l)(hm:Bk m)(nl:l.length<=5000)(nm:m.length<=5000)(hv:vchE vs=0)(hw:vchE ws=0) : ∃L,K6 l vs m ws g known=some (tks L)/\Cd (fun x=>decide (stg vs known g l x≠stg ws known g m x)) 1402560 none 0 L/\L.length<=40000:=by
 unfold K6;obtain⟨r1,e1,a1,a2,a3⟩:=YH (g:=g) (known:=known) (t:=⟨0,1402560⟩) hv hl.right (by omega) (by decide);obtain⟨r2,e2,b1,b2,b3⟩:=YH (g:=g) (known:=known) (t:=⟨0,1402560⟩) hw hm.right (by omega) (by decide);rw[e1,e2];simp only[Ac]
 obtain⟨at',e3,c1,c2,c3⟩:=Cl (s:=(r1,(0:Int))) (body:=Qs r2) (fun s=>∃k:Nat,∃m,s=(m,(k:Int))/\k<=r2.length/\SAsc m/\(∀x,x∈m↔x∈r1\/x∈r2.take k)/\m.length<=r1.length+k) (fun s=>(r2.length-s.2).toNat) (fun o=>SAsc o/\(∀x,x∈o↔x∈r1\/x∈r2)/\o.length<=r1.length+r2.length) (by
  rintro s ⟨k,m,rfl,hk,h1,h2,h3⟩;simp only[Qs];by_cases hlt:k<r2.length;rotate_left
  ·right;rw[it_n];rw[FT (by omega)]at h2;exact⟨_,rfl,h1,h2,by omega⟩
  left;have hx:=AD hlt;have bP:r2.take (k+1)=r2.take k++[r2[k]]:=E4 hx;rw[it_d,at_e rfl hx];simp only[Ac];obtain⟨q,q1,q2,q3,q4⟩:=NZ (n:=r2[k]) h1 (by omega);rw[q1];simp only[Ac];rw[A7];refine⟨_,rfl,⟨k+1,q,by simp,hlt,q2,fun x=>?_,by omega⟩,by simp only;omega⟩;rw[q3,h2,bP,Bh,Bi];constructor
  ·rintro(h|h|h);·exact .inr (.inr h)
   ·exact .inl h
   ·exact .inr (.inl h)
  ·rintro(h|h|h);·exact .inr (.inl h)
   ·exact .inr (.inr h)
   ·exact .inl h) ⟨0,r1,rfl,Dj _,a1,fun x=>by simp,by omega⟩ (by simp only;omega)
 rw[e3];simp only[Ac];have i1:∀x,x∈r1->(0:Int)<=x/\x<=1402560:=fun x hx=>by rcases(a2 x).1 hx with h|h|⟨_,_,_,_,h,h'⟩<;>simp only at*<;> omega
 have i2:∀x,x∈r2->(0:Int)<=x/\x<=1402560:=fun x hx=>by rcases(b2 x).1 hx with h|h|⟨_,_,_,_,h,h'⟩<;>simp only at*<;> omega
 have aQ:∀x,x∈at'->(0:Int)<=x/\x<=1402560:=fun x hx=>((c2 x).1 hx).elim (i1 x) (i2 x);obtain⟨bn,f0,f1⟩:=jz0l c1 ((c2 0).2 (.inl ((a2 0).2 (.inl rfl)))) ((c2 1402560).2 (.inl ((a2 1402560).2 (.inr (.inl rfl))))) aQ
 obtain⟨o,e4,L,rfl,p1,p2⟩:=Cl (s:=((0:Int),([]:List At))) (body:=Qt at' g known l m vs ws) (fun s=>∃k:Nat,∃hk:k<at'.length,∃L,s=((k:Int),tks L)/\Cd (fun x=>decide (stg vs known g l x≠stg ws known g m x)) at'[k] none at'[0] L/\L.length<=k) (fun s=>(at'.length-s.1).toNat) (fun o=>∃L,o=tks L/\Cd (fun x=>decide (stg vs known g l x≠stg ws known g m x)) (at'[at'.length-1]) none at'[0] L/\L.length<=at'.length) (by
  rintro s ⟨k,hk,L,rfl,hP,nc⟩;simp only[Qt];rw[A7];by_cases hlt:k+1<at'.length;rotate_left
  ·right;rw[it_n];have:k=at'.length-1:=by omega
   subst this;exact⟨_,rfl,L,rfl,hP,by omega⟩
  left;have a1':=AD hk;have a2':=AD hlt;have a3':at? at' ((k:Int)+1)=some at'[k+1]:=at_e (n:=k+1) (by omega) a2';rw[it_d,at_e rfl a1'];simp only[Ac];rw[YF hv hl (by omega),YF hw hm (by omega)];simp only[Ac];have dI:=Cg c1 hk hlt (by omega);have kp:∀x,at'[k]<=x->x<at'[k+1]->(decide (stg vs known g l x≠stg ws known g m x))=decide (stg vs known g l at'[k]≠stg ws known g m at'[k]):=fun x x1 x2=>by rw[YI (t:=⟨0,1402560⟩) c1 aQ (fun x hx=>(c2 x).2 (.inl ((a2 x).2 (.inr (.inr hx))))) hlt x1 x2 l fun r hr=>hr,YI (t:=⟨0,1402560⟩) c1 aQ (fun x hx=>(c2 x).2 (.inr ((b2 x).2 (.inr (.inr hx))))) hlt x1 x2 m fun r hr=>hr]
  generalize stg vs known g l at'[k]=u at *;generalize stg ws known g m at'[k]=w at *;have hJ:=Cd.jn (p:=(at'[k],at'[k+1],decide (u≠w))) hP rfl dI kp;have bP:=YK hP dI (decide (u≠w));have dF:=Ol L
  have pI:(jn L (at'[k],at'[k+1],decide (u≠w))).length<=L.length+1:=by
   unfold jn;cases L.getLast? with
   |none=>simp
   |some r =>
    simp only;split
    ·simp only[Ch,List.length_dropLast,DE];omega
    ·simp
  have fin:∃k':Nat,∃hk:k'<at'.length,∃L',(((k:Int)+1),tks (jn L (at'[k],at'[k+1],decide (u≠w))))=((k':Int),tks L')/\Cd (fun x=>decide (stg vs known g l x≠stg ws known g m x)) at'[k'] none at'[0] L'/\L'.length<=k' := ⟨k+1,hlt,_,by simp,hJ,by omega⟩;by_cases kC:u=w
  ·have hf:tks (jn L (at'[k],at'[k+1],decide (u≠w)))=tks L:=by rw[bP];simp[kC]
   rw[hf]at fin;rw[BF kC];simp only[Dn,Cm,DB,Bool.true_or,AI,Ac];rw[FC,AV,AV,A7];exact⟨_,rfl,fin,by simp only;omega⟩
  ·have hf:tks (jn L (at'[k],at'[k+1],decide (u≠w)))=outJ (tks L) at'[k] at'[k+1]:=by rw[bP];simp[kC]
   rw[hf]at fin;rw[By kC];simp only[DB,BV];unfold outJ at fin;cases hg:(tks L).getLast? with
   |none =>rw[hg]at fin;have bz:=List.getLast?_eq_none_iff.1 hg;rw[bz]at fin |-;rw[show decide ((0:Int)<(([]:List At).length:Int))=false by simp];simp only[DB,Bool.true_or,AI,Ac,Cm];rw[FC,AV,BS,A7,a3'];simp only[Ac];rw[ck_d (by simp),A7];exact⟨_,rfl,fin,by simp only;omega⟩
   |some q =>
    rw[hg]at fin;obtain⟨M,hM⟩:=List.getLast?_eq_some_iff.1 hg;have aD:(M++[q]).length=M.length+1:=by simp
    have bO:at? (M++[q]) (((M++[q]).length:Int)-1)=some q:=at_e (n:=M.length) (by omega) (by simp);rw[hM]at fin dF |-;rw[show decide ((0:Int)<((M++[q]).length:Int))=true from BF (by omega)];simp only[Dn,Bool.false_or,AN,BV];rw[A7,show max 0 (((M++[q]).length:Int)-1)=((M++[q]).length:Int)-1 by omega,bO];simp only[Ac];simp only at fin;by_cases hq:q.To=at'[k]
    ·rw[An hq]at fin;rw[it_d hq,A7,A7,a3'];simp only[Ac];rw[A7,show Int.toNat (((M++[q]).length:Int)-1)=M.length by omega,List.set_append_right _ _ (AC _)];rw[List.dropLast_concat]at fin;refine⟨_,rfl,?_,by simp only;omega⟩;simpa using fin
    ·rw[Ak hq]at fin;rw[it_n hq,BS,A7,a3'];simp only[Ac];rw[ck_d (by simp;omega),A7];exact⟨_,rfl,fin,by simp only;omega⟩) ⟨0,bn,[],rfl,rfl,AC _⟩ (by simp only;omega)
 rw[f0,f1]at p1;rw[e4];exact⟨L,rfl,p1,by omega⟩
theorem keqP(x y:AO):(decide (x.Stage=y.Stage)&&((x.Flow.Neg==y.Flow.Neg)&&(decide (x.Flow.Num=y.Flow.Num)&&(decide (x.Flow.Den=y.Flow.Den)&&true))))=decide (x=y):=by obtain⟨a,b,c,d⟩:=x;obtain⟨e,f,g,h⟩:=y;rw[Fp];simp
theorem YO{a b:List AO}(hl:a.length<=1048576){body:Int->Option (Int⊕(Unit⊕Bool))}(hb:∀k:Int,body k=ite' (decide (k<(List.length a:Int))) (bd (at? a k) fun x1=>bd (at? b k) fun x2=>ite' (!(decide (x1.Stage=x2.Stage)&&((x1.Flow.Neg==x2.Flow.Neg)&&(decide (x1.Flow.Num=x2.Flow.Num)&&(decide (x1.Flow.Den=x2.Flow.Den)&&true))))) (some (.inr (.inr false))) (ck (Ax .i64 (k+1))<|some (.inl (k+1)))) (some (.inr (.inl ())))) : (ite' (!decide ((List.length a:Int)=(List.length b:Int))) (some false) (bd (lp body 0) fun o=>match o with | .inl ()=>some true | .inr o=>some o))=some (decide (a=b)):=by
 by_cases hn:a.length=b.length;rotate_left
 ·rw[AR,By fun e=>hn (by rw[e])]
 rw[AH,Ea (l:=a) (fun k x=>if x=b.getD k default then none else some false) (by omega) ?_ ?_]
 ·cases hs:scan (fun k x=>if x=b.getD k default then none else some false) 0 a with
  |none =>
   have:a=b:=by
    refine List.ext_getElem hn fun i h1 h2=>?_;have:=Jx hs (AD h1);split at this
    ·rename_i h;rw[h];simp[List.getD,h2]
    ·cases this
   subst this;simp[sOut,Ac]
  |some o =>
   obtain⟨i,x,hx,hi,_⟩:=Hx 0 a o hs;split at hi
   ·cases hi
   ·rename_i h;cases hi;rw[By]
    ·simp[sOut,Ac]
    ·rintro rfl;apply h;rw[Ci,List.getD,hx];rfl
 ·intro k x hx;have hk:=(AK.1 hx).1;have bv:b[k]?=some (b.getD k default):=by simp[List.getD,show k<b.length by omega]
  rw[hb,it_d,at_e rfl hx,at_e rfl bv];simp only[Ac];rw[keqP];by_cases h:x=b.getD k default
  ·rw[AH h,A7,An h]
  ·rw[AR h,Ak h]
 ·rw[hb,it_n]
theorem YP(v w:Ah):(decide (v.Curve.Points=w.Curve.Points)=true/\((((((v.Kind=w.Kind/\v.Gauge=w.Gauge)/\v.Seq=w.Seq)/\v.Known=w.Known)/\v.From=w.From)/\v.To=w.To)/\v.Shift=w.Shift))↔v=w:=by
 obtain⟨a1,a2,a3,a4,a5,a6,a7,⟨a8⟩⟩:=v;obtain⟨b1,b2,b3,b4,b5,b6,b7,⟨b8⟩⟩:=w;simp only[Bp,Ah.mk.injEq,AM.mk.injEq];constructor
 ·rintro⟨h8,⟨⟨⟨⟨⟨⟨h1,h2⟩,h3⟩,h4⟩,h5⟩,h6⟩,h7⟩⟩;exact⟨h1,h2,h3,h4,h5,h6,h7,h8⟩
 ·rintro⟨h1,h2,h3,h4,h5,h6,h7,h8⟩;exact⟨h8,⟨⟨⟨⟨⟨⟨h1,h2⟩,h3⟩,h4⟩,h5⟩,h6⟩,h7⟩⟩
theorem jz3k{a b:List AO}(h:a.length<=1048576):PU a b=some (decide (a=b)):=YO (b:=b) (body:=yzi a b) h (fun k=>rfl)
theorem jz3f{a b:AM}(h:a.Points.length<=1048576):PS a b=some (decide (a.Points=b.Points)):=YO (b:=b.Points) (body:=VH a b) h (fun k=>rfl)
theorem YQ{v w:Ah}(h:v.Curve.Points.length<=1048576):Mv v w=some (decide (v=w)):=by
 unfold Mv Qf;rw[jz3k h];simp only[Ac];by_cases hp:v.Curve.Points=w.Curve.Points
 ·rw[AH hp];congr 1;simp only[Fo];rw[Fp,FP,<-YP];simp[hp]
 ·rw[AR hp,By (fun e=>hp (by rw[e]))]
theorem jz3a{v w:Ah}(h:v.Curve.Points.length<=1048576):Mr v w=some (decide (v=w)):=by
 unfold Mr;rw[jz3f h];simp only[Ac];congr 1;simp only[Fo];rw[Fp,FP,<-YP];simp only[AE,Bp];constructor
 ·rintro⟨⟨⟨⟨⟨⟨⟨h8,h1⟩,h2⟩,h3⟩,h4⟩,h5⟩,h6⟩,h7⟩;exact⟨h8,⟨⟨⟨⟨⟨⟨h1,h2⟩,h3⟩,h4⟩,h5⟩,h6⟩,h7⟩⟩
 ·rintro⟨h8,⟨⟨⟨⟨⟨⟨h1,h2⟩,h3⟩,h4⟩,h5⟩,h6⟩,h7⟩⟩;exact⟨⟨⟨⟨⟨⟨⟨h8,h1⟩,h2⟩,h3⟩,h4⟩,h5⟩,h6⟩,h7⟩
theorem YR{a:Ah}:¬vlt a a:=by unfold vlt;omega
theorem jz11{a b:Ah}(h:vlt a b):¬vlt b a:=by unfold vlt at *;omega
theorem Om(a b:Ah):vlt a b\/vsm a b\/vlt b a:=by unfold vlt vsm;omega
theorem Te{a b:Ah}(h:vlt a b):¬vsm a b:=by unfold vlt at h;unfold vsm;omega
theorem YS{a b:Ah}(h:vlt a b):¬vsm b a:=by unfold vlt at h;unfold vsm;omega
theorem YT:∀{D E:List Ah},D.Pairwise vlt->E.Pairwise vlt->(∀x,x∈D↔x∈E)->D=E
 |[],[],_,_,_=>rfl
 |[],e :: E,_,_,h=>by have:=(h e).2 (BI ..);cases this
 |d :: D,[],_,_,h=>by have:=(h d).1 (BI ..);cases this
 |d :: D,e :: E,hd,he,h=>by
  obtain⟨d1,d2⟩:=J9.1 hd;obtain⟨e1,e2⟩:=J9.1 he
  have mD:d=e:=by
   rcases AL.1 ((h d).1 (BI ..)) with p|p
   ·exact p
   ·rcases AL.1 ((h e).2 (BI ..)) with q|q;·exact q.symm
    ·exact absurd (d1 e q) (jz11 (e1 d p))
  subst mD;rw[YT d2 e2 fun x=>⟨fun hx=>?_,fun hx=>?_⟩]
  ·rcases AL.1 ((h x).1 (CG _ hx)) with p|p;·subst p;exact absurd (d1 x hx) YR
   ·exact p
  ·rcases AL.1 ((h x).2 (CG _ hx)) with p|p;·subst p;exact absurd (e1 x hx) YR
   ·exact p
theorem jz3i{a b:Ah}:vcmp a b=0↔vsm a b:=by
 unfold vcmp;split
 ·rename_i h;simp[Te h]
 ·split<;>simp[*]
theorem vget{l:List Ah}(h:l.Pairwise vlt){i j:Nat}(hi:i<l.length)(hj:j<l.length)(dD:i<j):vlt l[i] l[j]:=Lt.1 h i j hi hj dD
theorem jz3e{l:List Ah}(hl:l.length<=4000)(ha:l.Pairwise vlt)(r:Ah):∃k:Nat,∃b:Bool,Ik l r (fun a0 a1=>EC a0 a1)=some ((k:Int),b)/\k<=l.length/\(∀i,(hi:i<l.length)->i<k->vlt l[i] r)/\(∀i,(hi:i<l.length)->k<=i->¬vlt l[i] r)/\(b=true↔∃h:k<l.length,vsm l[k] r):=by
 unfold Ik
 obtain⟨o,e,k,rfl,hk,h1,h2⟩:=Cl (s:=((0:Int),(l.length:Int))) (body:=PJ (fun a0 a1=>EC a0 a1) r l) (fun s=>∃i j:Nat,s=((i:Int),(j:Int))/\i<=j/\j<=l.length/\(∀m,(hm:m<l.length)->m<i->vlt l[m] r)/\(∀m,(hm:m<l.length)->j<=m->¬vlt l[m] r)) (fun s=>(s.2-s.1).toNat) (fun o=>∃k:Nat,o=(k:Int)/\k<=l.length/\(∀m,(hm:m<l.length)->m<k->vlt l[m] r)/\(∀m,(hm:m<l.length)->k<=m->¬vlt l[m] r)) (by
  rintro s ⟨i,j,rfl,dD,hj,h1,h2⟩;simp only[PJ];by_cases h:i<j;rotate_left
  ·right;rw[it_n];obtain rfl:i=j:=by omega
   exact⟨_,rfl,i,rfl,hj,h1,h2⟩
  left;have hm:Int.fdiv (((i:Int)+j)%18446744073709551616) 2=(((i+j) / 2:Nat):Int):=by rw[Int.emod_eq_of_lt (by omega) (by omega),Lr _ (by decide)];omega
  rw[it_d,A7,hm,A7];have hlt:(i+j) / 2<l.length:=by omega
  rw[at_e rfl (AD hlt)];simp only[Ac];rw[SZ];simp only[Ac];by_cases hc:vlt l[(i+j) / 2] r
  ·rw[it_d (Og.2 hc),A7];refine⟨_,rfl,⟨(i+j) / 2+1,j,by simp,by omega,hj,fun m hm fG=>?_,h2⟩,by simp only;omega⟩;by_cases e:m=(i+j) / 2
   ·subst e;exact hc
   ·exact J2 (vget ha hm hlt (by omega)) hc
  ·rw[it_n (mt Og.1 hc)];refine⟨_,rfl,⟨i,(i+j) / 2,rfl,by omega,by omega,h1,fun m hm fG hr=>?_⟩,by simp only;omega⟩;by_cases e:m=(i+j) / 2
   ·subst e;exact hc hr
   ·exact hc (J2 (vget ha hlt hm (by omega)) hr)) ⟨0,l.length,by simp,Dj _,AC _,fun m hm h=>by omega,fun m hm h=>by omega⟩ (by simp;omega)
 rw[e];simp only[Ac];by_cases dr:k<l.length
 ·rw[show decide ((k:Int)<(l.length:Int))=true by simp;omega];simp only[AN,BV];rw[at_e rfl (AD dr)];simp only[Ac];rw[SZ];simp only[Ac];exact⟨k,_,rfl,hk,h1,h2,by simp[dr,jz3i]⟩
 ·rw[show decide ((k:Int)<(l.length:Int))=false by simp;omega];simp only[AI,Cm,Ac];exact⟨k,_,rfl,hk,h1,h2,by simp[dr]⟩
structure Tf(l m:List Ah)(v:Ah):Prop where
 asc:m.Pairwise vlt
 mem:∀y,y∈m↔y∈l\/y=v
 len:m.length=l.length+1
def VAdd(F:Option (List Ah×Int))(l:List Ah)(v:Ah):Prop := (vchE l≠0/\F=some ([],vchE l))\/(vchE l=0/\¬VRi v/\F=some ([],1))\/(vchE l=0/\VRi v /\
 ((∃x,x∈l/\vsm x v/\((x=v/\F=some ([],9))\/(x≠v/\F=some ([],24))))
  \/ ((∀x,x∈l->¬vsm x v)/\((400<=l.length/\F=some ([],2))\/(l.length<400/\∃m,F=some (m,0)/\Tf l m v)))))
theorem vone{l:List Ah}(h:l.Pairwise vlt){a b:Ah}(ha:a∈l)(hb:b∈l)(e:vsm a b):a=b:=by
 induction l with
 |nil=>cases ha
 |cons x l ih =>
  obtain⟨h1,h2⟩:=J9.1 h;rcases AL.1 ha with p|p<;>rcases AL.1 hb with q|q
  ·rw[p,q]
  ·subst p;exact absurd e (Te (h1 b q))
  ·subst q;exact absurd e (YS (h1 a p))
  ·exact ih h2 p q
theorem vsm.symm{a b:Ah}(h:vsm a b):vsm b a:=⟨h.1.symm,h.2.symm⟩
theorem vsm.trans{a b c:Ah}(h:vsm a b)(k:vsm b c):vsm a c:=⟨h.1.trans k.1,h.2.trans k.2⟩
theorem VAdd.uniq{l:List Ah}{v:Ah}{F G:Option (List Ah×Int)}(hF:VAdd F l v)(hG:VAdd G l v):F=G:=by
 rcases hF with ⟨a,e⟩|⟨a,b,e⟩|⟨a,b,c⟩<;>rcases hG with ⟨a',e'⟩|⟨a',b',e'⟩|⟨a',b',c'⟩ <;>
  first|exact absurd a a'|exact absurd a' a|exact absurd b b'|exact absurd b' b|(rw[e,e'];done)|skip
 have ha:=(Hz.1 a).2.asc;rcases c with ⟨x,hx,hs,d⟩|⟨hn,d⟩<;>rcases c' with ⟨y,hy,ht,d'⟩|⟨hm,d'⟩
 ·obtain rfl:=vone ha hx hy (hs.trans ht.symm);rcases d with ⟨p,e⟩|⟨p,e⟩<;>rcases d' with ⟨p',e'⟩|⟨p',e'⟩<;>first|exact absurd p p'|exact absurd p' p|rw[e,e']
 ·exact absurd hs (hm x hx)
 ·exact absurd ht (hn y hy)
 ·rcases d with ⟨p,e⟩|⟨p,m,e,hm⟩<;>rcases d' with ⟨p',e'⟩|⟨p',m',e',bE⟩;·rw[e,e']
  ·omega
  ·omega
  ·rw[e,e',YT hm.asc bE.asc fun z=>(hm.mem z).trans (bE.mem z).symm]
theorem jz3c{l:List Ah}(h:l.Pairwise vlt){k:Nat}{r:Ah}(bu:∀i,(hi:i<l.length)->i<k->vlt l[i] r)(bV:∀i,(hi:i<l.length)->k<=i->vlt r l[i]):(insL l k r).Pairwise vlt:=by
 unfold insL;rw[List.pairwise_append,List.pairwise_append];refine⟨⟨List.Pairwise.sublist (List.take_sublist ..) h,H9 _ _,fun a ha b hb=>?_⟩,List.Pairwise.sublist (List.drop_sublist ..) h,fun a ha b hb=>?_⟩
 ·obtain⟨i,hi,rfl⟩:=CF ha;rw[Bi.1 hb,List.getElem_take];simp only[Df]at hi;exact bu i (by omega) (by omega)
 ·obtain⟨j,hj,rfl⟩:=CF hb;simp only[CO]at hj;rw[List.getElem_drop];have h2:=bV (k+j) (by omega) (by omega);rcases Bh.1 ha with ha|ha
  ·obtain⟨i,hi,rfl⟩:=CF ha;rw[List.getElem_take];simp only[Df]at hi;exact J2 (bu i (by omega) (by omega)) h2
  ·rw[Bi.1 ha];exact h2
theorem jz3j{l:List Ah}{v:Ah}(hs:VsSz l)(hv:CSz v.Curve):VAdd (Es l v) l v:=by
 by_cases h:vchE l=0;rotate_left
 ·left;refine⟨h,?_⟩;have e:CY l v=some ([],vchE l):=by unfold CY;rw[Fh hs];simp only[Ac];rw[AR h]
  unfold Es;rw[e]
 right;by_cases hr:VRi v;rotate_left
 ·left;refine⟨h,hr,?_⟩;have e:CY l v=some ([],1):=by unfold CY;rw[Fh hs];simp only[Ac];rw[AH h,Hy hv];simp only[Ac];rw[AR hr]
  unfold Es;rw[e]
 right;refine⟨h,hr,?_⟩;obtain⟨hl,hb⟩:=Hz.1 h;obtain⟨k,b,ef,hk,h1,h2,h3⟩:=jz3e (by omega) hb.asc v;cases b
 ·have hn:∀x,x∈l->¬vsm x v:=fun x hx hs=>by
   obtain⟨i,hi,rfl⟩:=CF hx;by_cases dE:i<k
   ·exact Te (h1 i hi dE) hs
   ·have eB:k<l.length:=(by omega);have h4:=h2 k eB (AC _);have h5:¬vsm l[k] v:=fun e=>by have:=h3.2 ⟨eB,e⟩;cases this
    rcases Om l[k] v with h|h|h
    ·exact h4 h
    ·exact h5 h
    ·by_cases e:i=k;·subst e;exact h5 hs
     ·exact YS (J2 h (vget hb.asc eB hi (by omega))) hs
  refine .inr ⟨hn,?_⟩;by_cases h4:400<=l.length
  ·refine .inl ⟨h4,?_⟩;have e:CY l v=some ([],2):=by unfold CY;rw[Fh hs];simp only[Ac];rw[AH h,Hy hv];simp only[Ac];rw[AH hr,ef];simp only[Ac];rw[AV,it_d]
   unfold Es;rw[e]
  ·refine .inr ⟨by omega,insL l k v,?_,?_,fun y=>Yz,Y0⟩
   ·have e:CY l v=none:=by
     unfold CY;rw[Fh hs];simp only[Ac];rw[AH h,Hy hv];simp only[Ac];rw[AH hr,ef];simp only[Ac];rw[AV,it_n]
    unfold Es;rw[e];unfold PA;rw[Fh hs,Hy hv,ef];simp only[Ac];rw[ck_t (by simp[h,hr];omega)];rfl
   ·refine jz3c hb.asc h1 fun i hi jV=>?_;rcases Om l[i] v with h|h|h
    ·exact absurd h (h2 i hi jV)
    ·exact absurd h (hn _ (BH _))
    ·exact h
 ·obtain⟨eB,kD⟩:=h3.1 rfl;refine .inl ⟨l[k],BH _,kD,?_⟩;have ea:at? l (k:Int)=some l[k]:=at_e rfl (AD eB);have hc:=(hs l[k] (BH _)).len;by_cases he:l[k]=v
  ·refine .inl ⟨he,?_⟩;have e:CY l v=some ([],9):=by unfold CY;rw[Fh hs];simp only[Ac];rw[AH h,Hy hv];simp only[Ac];rw[AH hr,ef];simp only[Ac];rw[BS,ea];simp only[Ac];rw[YQ hc];simp only[Ac];rw[it_d he]
   unfold Es;rw[e]
  ·refine .inr ⟨he,?_⟩;have e:CY l v=some ([],24):=by unfold CY;rw[Fh hs];simp only[Ac];rw[AH h,Hy hv];simp only[Ac];rw[AH hr,ef];simp only[Ac];rw[BS,ea];simp only[Ac];rw[YQ hc];simp only[Ac];rw[it_n he]
   unfold Es;rw[e]
theorem jz29{l:List Ah}{v:Ah}(hl:l.length<=100000)(ha:l.Pairwise vlt)(hn:∀x,x∈l->¬vsm x v):∃m,Mn l v=some m/\Tf l m v:=by
 unfold Mn
 obtain⟨o,e2,d,out,rfl,h1,h2,h3,h5⟩:=Cl (s:=(false,(0:Int),([]:List Ah))) (body:=PO l v) (fun s=>∃k:Nat,∃d out,s=(d,(k:Int),out)/\k<=l.length/\out.Pairwise vlt/\(∀x,x∈out↔(x=v/\d=true)\/x∈l.take k)/\(d=false->∀x,x∈l.take k->vlt x v)/\(d=true->∀x,x∈l.drop k->vlt v x)/\out.length=k+d.toNat) (fun s=>(l.length-s.2.1).toNat) (fun o=>∃d out,o=(d,out)/\out.Pairwise vlt/\(∀x,x∈out↔(x=v/\d=true)\/x∈l)/\(d=false->∀x,x∈l->vlt x v)/\out.length=l.length+d.toNat) (by
   rintro s ⟨k,d,out,rfl,hk,h1,h2,h3,h4,h5⟩;simp only[PO];by_cases hlt:k<l.length;rotate_left
   ·right;rw[it_n];rw[FT (by omega)]at h2 h3;exact⟨_,rfl,d,out,rfl,h1,h2,h3,by omega⟩
   left;have hx:=AD hlt;have bP:l.take (k+1)=l.take k++[l[k]]:=E4 hx;have d5:l.drop k=l[k] :: l.drop (k+1):=O0 hlt;have bu:∀x,x∈l.take k->vlt x l[k]:=fun x hx=>by obtain⟨i,hi,rfl⟩:=CF hx;rw[Df]at hi;rw[List.getElem_take];exact vget ha (by omega) hlt (by omega)
   have bV:∀x,x∈l.drop (k+1)->vlt l[k] x:=fun x hx=>by obtain⟨i,hi,rfl⟩:=CF hx;rw[CO]at hi;rw[List.getElem_drop];exact vget ha hlt (by omega) (by omega)
   have gr:=hn l[k] (BH _);generalize l[k]=y at *;have bO:at? l (k:Int)=some y:=at_e rfl hx;rw[it_d,bO];simp only[Ac];rw[Ta,Ta];simp only[Ac]
   have ey:(bif decide (vlt v y) then true else decide (vlt y v))=true:=by
    rcases Om y v with h|h|h
    ·simp[h]
    ·exact absurd h gr
    ·simp[h]
   have step:∀d' out',out'.Pairwise vlt->(∀x,x∈out'↔(x=v/\d'=true)\/x∈l.take k)->(d'=false->vlt y v/\∀x,x∈l.take k->vlt x v)->(d'=true->vlt v y)->out'.length=k+d'.toNat -> ∃k':Nat,∃d out,((d',((k:Int)+1),(out'++[y])):Bool×Int×List Ah)=(d,(k':Int),out)/\k'<=l.length/\out.Pairwise vlt/\(∀x,x∈out↔(x=v/\d=true)\/x∈l.take k')/\(d=false->∀x,x∈l.take k'->vlt x v)/\(d=true->∀x,x∈l.drop k'->vlt v x)/\out.length=k'+d.toNat:=by
    intro d' out' g1 g2 g3 g4 g5;refine⟨k+1,d',_,rfl,hlt,?_,fun x=>?_,fun e x hx=>?_,fun e x hx=>J2 (g4 e) (bV x hx),by simp;omega⟩
    ·refine List.pairwise_append.2 ⟨g1,H9 _ _,fun a ha b hb=>?_⟩;rw[Bi.1 hb];rcases(g2 a).1 ha with ⟨e,e'⟩|e
     ·rw[e];exact g4 e'
     ·exact bu a e
    ·rw[Bh,g2,bP,Bh,or_assoc]
    ·rw[bP]at hx;rcases Bh.1 hx with hx|hx
     ·exact(g3 e).2 x hx
     ·rw[Bi.1 hx];exact(g3 e).1
   have dF:out.length<=k+1:=by cases d<;>simp at h5<;>omega
   cases d with
   |true =>rw[it_f (by simp)];simp only[Ac];rw[it_t ey,ck_d (by simp;omega),A7];exact⟨_,rfl,step true out h1 h2 (fun e=>by cases e) (fun e=>h4 e y (by rw[d5];exact BI ..)) h5,by simp only;omega⟩
   |false =>
    have jU:out.length=k:=(by simpa using h5);by_cases hc:vlt y v
    ·rw[it_f (by simp[hc])];simp only[Ac];rw[it_t ey,ck_d (by simp;omega),A7];exact⟨_,rfl,step false out h1 h2 (fun _=>⟨hc,h3 rfl⟩) (fun e=>by cases e) h5,by simp only;omega⟩
    ·have dK:vlt v y:=by
      rcases Om y v with h|h|h
      ·exact absurd h hc
      ·exact absurd h gr
      ·exact h
     rw[it_t (by simp[hc]),ck_d (by simp;omega)];simp only[Ac];rw[it_t ey,ck_d (by simp;omega),A7];refine⟨_,rfl,step true (out++[v]) ?_ (fun x=>?_) (fun e=>by cases e) (fun _=>dK) (by simp;omega),by simp only;omega⟩
     ·refine List.pairwise_append.2 ⟨h1,H9 _ _,fun a ha b hb=>?_⟩;rw[Bi.1 hb];rcases(h2 a).1 ha with ⟨_,e⟩|e
      ·cases e
      ·exact h3 rfl a e
     ·rw[Bh,h2,Bi];constructor
      ·rintro((⟨_,e⟩|e)|e);·cases e
       ·exact .inr e
       ·exact .inl ⟨e,rfl⟩
      ·rintro(⟨e,_⟩|e);·exact .inr e
       ·exact .inl (.inr e)) ⟨0,false,[],rfl,Dj _,List.Pairwise.nil,fun x=>by simp,fun _ x hx=>by simp at hx,fun e=>(by cases e),by simp⟩ (by simp only;omega)
 rw[e2];simp only[Ac];cases d with
 |true =>
  rw[it_f (by rfl)];refine⟨_,rfl,h1,fun y=>?_,by simpa using h5⟩;rw[h2];constructor
  ·rintro(⟨e,_⟩|e);·exact .inr e
   ·exact .inl e
  ·rintro(e|e);·exact .inr e
   ·exact .inl ⟨e,rfl⟩
 |false =>
  have jU:out.length=l.length:=by simpa using h5
  rw[it_t (by rfl),ck_d (by simp;omega)];refine⟨_,rfl,?_,fun y=>?_,by simp;omega⟩
  ·refine List.pairwise_append.2 ⟨h1,H9 _ _,fun a ha b hb=>?_⟩;rw[Bi.1 hb];rcases(h2 a).1 ha with ⟨_,e⟩|e
   ·cases e
   ·exact h3 rfl a e
  ·rw[Bh,h2,Bi];constructor
   ·rintro((⟨_,e⟩|e)|e);·cases e
    ·exact .inl e
    ·exact .inr e
   ·rintro(e|e);·exact .inl (.inr e)
    ·exact .inr e
theorem jz28{l:List Ah}{v:Ah}(hs:VsSz l)(hv:CSz v.Curve):∃b:B9,M6 l v=some b/\VAdd (some (b.L,b.E)) l v:=by
 unfold M6;rw[Tb hs];simp only[Ac];by_cases h:vchE l=0;rotate_left
 ·rw[AR h];exact⟨_,rfl,.inl ⟨h,rfl⟩⟩
 rw[AH h,Y8 hv];simp only[Ac];by_cases hr:VRi v;rotate_left
 ·rw[AR hr];exact⟨_,rfl,.inr (.inl ⟨h,hr,rfl⟩)⟩
 rw[AH hr];obtain⟨hl,hb⟩:=Hz.1 h;rw[Ea (l:=l) (fun _ x=>if vsm x v then some (if x=v then(⟨[],9⟩:B9) else⟨[],24⟩) else none) (by omega) ?_ ?_]
 ·cases gv:scan (fun _ (x:Ah)=>if vsm x v then some (if x=v then(⟨[],9⟩:B9) else⟨[],24⟩) else none) 0 l with
  |some o =>
   obtain⟨i,x,hx,hi,_⟩:=Hx 0 l o gv;split at hi
   ·rename_i kD;cases hi;refine⟨_,rfl,.inr (.inr ⟨h,hr,.inl ⟨x,CB hx,kD,?_⟩⟩)⟩;by_cases he:x=v
    ·rw[An he];exact .inl ⟨he,rfl⟩
    ·rw[Ak he];exact .inr ⟨he,rfl⟩
   ·cases hi
  |none =>
   have hn:∀x,x∈l->¬vsm x v:=fun x hx e=>by obtain⟨i,hi,rfl⟩:=CF hx;have:=Jx gv (AD hi);rw[An e]at this;cases this
   simp only[sOut,Ac];by_cases h4:400<=l.length
   ·rw[it_d];exact⟨_,rfl,.inr (.inr ⟨h,hr,.inr ⟨hn,.inl ⟨h4,rfl⟩⟩⟩)⟩
   ·obtain⟨m,e,hm⟩:=jz29 (v:=v) (by omega) hb.asc hn;rw[it_n,e];exact⟨_,rfl,.inr (.inr ⟨h,hr,.inr ⟨hn,.inr ⟨by omega,m,rfl,hm⟩⟩⟩)⟩
 ·intro k x hx;have hk:=(AK.1 hx).1;simp only[Q6];rw[it_d,at_e rfl hx];simp only[Ac];by_cases h1:x.Gauge=v.Gauge
  ·simp only[h1,decide_true,AN,Ac,BV];by_cases h2:x.Seq=v.Seq
   ·rw[it_d h2,jz3a (hs x (CB hx)).len,An (show vsm x v from⟨h1,h2⟩)];simp only[Ac];by_cases he:x=v
    ·rw[it_d he,An he]
    ·rw[it_n he,Ak he]
   ·rw[it_n h2,A7,Ak (fun e:vsm x v=>h2 e.2)]
  ·simp only[h1,decide_false,AI,Ac,Cm];rw[AV,A7,Ak (fun e:vsm x v=>h1 e.1)]
 ·simp only[Q6];rw[it_n]
theorem YU{a:List At}(h:a.length<=1000000):Hc a a=some true:=by
 unfold Hc;rw[AH rfl,SP (l:=a) (s:=0) (fun k=>(k:Int)) (by omega) (o:=.inl ()) ?_ ?_ rfl]
 ·simp only[Ac]
 ·intro k x hx;have hk:=(AK.1 hx).1;simp only[PC];rw[it_d,at_e rfl hx];simp only[Ac,decide_true,Bool.and_self,Dn];rw[AV,A7];rfl
 ·simp only[PC];rw[it_n]
theorem jz3l{l m:List Ae}{r:Ae}(h:rchE l=0)(hr:RR r)(e:Cb l r=some (m,0)):Bk m/\m.length<=4000/\(∀y,y∈m->y∈l\/y=r):=by
 obtain⟨hl,hb⟩:=J1.1 h;have fin:∀m' E,some (m,(0:Int))=some ((m',E):List Ae×Int)->m=m'/\E=0:=fun m' E h=>⟨Ef (·.1) (BJ h),(Ef (·.2) (BJ h)).symm⟩;rcases Y4 h hr with ⟨x,hx,hs,⟨_,e'⟩|⟨_,_,e'⟩|⟨_,_,m',e',hm⟩⟩|⟨hn,⟨_,e'⟩|⟨h4,m',e',hm⟩⟩
 ·obtain⟨_,h0⟩:=fin _ _ (e.symm.trans e');cases h0
 ·obtain⟨_,h0⟩:=fin _ _ (e.symm.trans e');cases h0
 ·obtain⟨rfl,_⟩:=fin _ _ (e.symm.trans e');have aQ:∀y,y∈m->y∈l\/y=r:=fun y hy=>((hm.mem y).1 hy).elim .inr fun h=>.inl h.1;exact⟨⟨fun y hy=>(aQ y hy).elim (hb.right y) fun e=>e▸hr,hm.asc⟩,by rw[hm.len];omega,aQ⟩
 ·obtain⟨_,h0⟩:=fin _ _ (e.symm.trans e');cases h0
 ·obtain⟨rfl,_⟩:=fin _ _ (e.symm.trans e');have aQ:∀y,y∈m->y∈l\/y=r:=fun y hy=>(hm.mem y).1 hy;exact⟨⟨fun y hy=>(aQ y hy).elim (hb.right y) fun e=>e▸hr,hm.asc⟩,by rw[hm.len];omega,aQ⟩
theorem VAdd.bk{l m:List Ah}{v:Ah}(hs:VsSz l)(hv:CSz v.Curve)(h:VAdd (some (m,0)) l v):vchE l=0/\VRi v/\vchE m=0/\VsSz m/\Tf l m v:=by
 have fin:∀m' E,some (m,(0:Int))=some ((m',E):List Ah×Int)->m=m'/\E=0:=fun m' E h=>⟨Ef (·.1) (BJ h),(Ef (·.2) (BJ h)).symm⟩;rcases h with ⟨a,e'⟩|⟨a,b,e'⟩|⟨a,b,⟨x,hx,kD,⟨_,e'⟩|⟨_,e'⟩⟩|⟨hn,⟨_,e'⟩|⟨h4,m',e',hm⟩⟩⟩
 ·obtain⟨_,h0⟩:=fin _ _ e';exact absurd h0 a
 ·obtain⟨_,h0⟩:=fin _ _ e';cases h0
 ·obtain⟨_,h0⟩:=fin _ _ e';cases h0
 ·obtain⟨_,h0⟩:=fin _ _ e';cases h0
 ·obtain⟨_,h0⟩:=fin _ _ e';cases h0
 ·obtain⟨rfl,_⟩:=fin _ _ e';have hb:=(Hz.1 a).2;refine⟨a,b,Hz.2 ⟨by rw[hm.len];omega,fun y hy=>?_,hm.asc⟩,fun y hy=>?_,hm⟩
  ·rcases(hm.mem y).1 hy with h|h;·exact hb.right y h
   ·rw[h];exact b
  ·rcases(hm.mem y).1 hy with h|h;·exact hs y h
   ·rw[h];exact hv
theorem YV(a b:Int):(ite' (decide (a=0)) (some b) (some a))=some (if a=0 then b else a):=by
 by_cases h:a=0
 ·rw[it_d h,An h]
 ·rw[it_n h,Ak h]
theorem YW(k:Int):He k=some (decide (0<=k/\k<=14609)):=by unfold He;congr 1;rw[Fp,FP];simp
theorem jz23{l:List Ae}{vs:List Ah}{r:Ae}{known:Int}(hs:VsSz vs):∃x:Bv,M7 l vs r known=some x/\KA l vs r known=some (x.L,x.E)/\x.L.length<=40000:=by
 unfold M7 KA;rw[Lp,G8,Tb hs,Fh hs];simp only[Ac];rw[YE,YV];simp only[Ac];by_cases h:(if rchE l=0 then vchE vs else rchE l)=0;rotate_left
 ·rw[AR h,AR h];exact⟨_,rfl,rfl,by simp⟩
 rw[AH h,AH h]
 have h1:rchE l=0:=by
  by_cases e:rchE l=0
  ·exact e
  ·rw[Ak e]at h;exact h
 rw[An h1]at h;obtain⟨b,e1,e2⟩:=jzza l r;rw[e1,e2];simp only[Ac];rw[show(bkP b).2=b.E from rfl,show(bkP b).1=b.L from rfl];by_cases hE:b.E=0;rotate_left
 ·rw[AR hE,AR hE];exact⟨_,rfl,rfl,by simp⟩
 rw[AH hE,AH hE,YW];simp only[Ac];by_cases hk:0<=known/\known<=14609;rotate_left
 ·rw[it_t (by simp only[JD,Fq,Bp];omega),AR hk];exact⟨_,rfl,rfl,by simp⟩
 rw[it_f (by simp only[JD,Tp,O7];omega),AH hk];unfold Hf;simp only[Ac]
 have hr:RR r:=by
  by_cases hr:RR r
  ·exact hr
  ·rw[Y3 h1 hr]at e2;have:=Ef (·.2) (BJ e2);have:(1:Int)=b.E:=this;omega
 obtain⟨hl,hb⟩:=J1.1 h1;obtain⟨nI,dQ,_⟩:=jz3l h1 hr (by rw[e2];unfold bkP;rw[hE]);obtain⟨c1,p1,q1⟩:=Oj (g:=r.Gauge) (t:=⟨0,1402560⟩) hs h hb.right (by omega) hk (by decide);obtain⟨c2,p2,q2⟩:=Oj (g:=r.Gauge) (t:=⟨0,1402560⟩) hs h nI.right (by omega) hk (by decide);rw[p1,p2];simp only[Ac];obtain⟨L,f1,f2,f3⟩:=YM (A:=stg vs known r.Gauge l) (B:=stg vs known r.Gauge b.L) (b:=1402560) (by decide) (n:=8002) (by omega) (p:=D0 c1.1 c1.2) (q:=D0 c2.1 c2.2) (fun st aH=>by obtain⟨P,a1,a2,a3,a4⟩:=q1 st fun ys h1 h2=>aH ys (by omega) h2;exact⟨P,a1,a2,by omega,a4⟩) (fun st aH=>by obtain⟨P,a1,a2,a3,a4⟩:=q2 st fun ys h1 h2=>aH ys (by omega) h2;exact⟨P,a1,a2,by omega,a4⟩);obtain⟨L',g1,g2,g3⟩:=YN (g:=r.Gauge) (known:=known) hb nI (by omega) (by omega) h h;obtain rfl:=f2.uniq g2;rw[f1,g1];exact⟨_,rfl,rfl,by have:=Ol L;simp only;omega⟩
theorem jz3b{l:List Ae}{vs:List Ah}{v:Ah}{known:Int}(hs:VsSz vs)(hv:CSz v.Curve):∃x:Bv,M8 l vs v known=some x/\KB l vs v known=some (x.L,x.E)/\x.L.length<=40000:=by
 unfold M8 KB;rw[Lp,G8,Tb hs,Fh hs];simp only[Ac];rw[YE,YV];simp only[Ac];by_cases h:(if rchE l=0 then vchE vs else rchE l)=0;rotate_left
 ·rw[AR h,AR h];exact⟨_,rfl,rfl,by simp⟩
 rw[AH h,AH h]
 have h1:rchE l=0:=by
  by_cases e:rchE l=0
  ·exact e
  ·rw[Ak e]at h;exact h
 rw[An h1]at h;obtain⟨b,e1,mF⟩:=jz28 hs hv;have e2:=(jz3j hs hv).uniq mF;rw[e1,e2];simp only[Ac];by_cases hE:b.E=0;rotate_left
 ·rw[AR hE,AR hE];exact⟨_,rfl,rfl,by simp⟩
 rw[AH hE,AH hE,YW];simp only[Ac];by_cases hk:0<=known/\known<=14609;rotate_left
 ·rw[it_t (by simp only[JD,Fq,Bp];omega),AR hk];exact⟨_,rfl,rfl,by simp⟩
 rw[it_f (by simp only[JD,Tp,O7];omega),AH hk];unfold Hf;simp only[Ac];rw[hE]at mF;obtain⟨_,_,je,pJ,_⟩:=mF.bk hs hv;obtain⟨hl,hb⟩:=J1.1 h1;obtain⟨c1,p1,q1⟩:=Oj (g:=v.Gauge) (t:=⟨0,1402560⟩) hs h hb.right (by omega) hk (by decide);obtain⟨c2,p2,q2⟩:=Oj (g:=v.Gauge) (t:=⟨0,1402560⟩) pJ je hb.right (by omega) hk (by decide);rw[p1,p2];simp only[Ac];obtain⟨L,f1,f2,f3⟩:=YM (A:=stg vs known v.Gauge l) (B:=stg b.L known v.Gauge l) (b:=1402560) (by decide) (n:=8002) (by omega) (p:=D0 c1.1 c1.2) (q:=D0 c2.1 c2.2) (fun st aH=>by obtain⟨P,a1,a2,a3,a4⟩:=q1 st fun ys h1 h2=>aH ys (by omega) h2;exact⟨P,a1,a2,by omega,a4⟩) (fun st aH=>by obtain⟨P,a1,a2,a3,a4⟩:=q2 st fun ys h1 h2=>aH ys (by omega) h2;exact⟨P,a1,a2,by omega,a4⟩);obtain⟨L',g1,g2,g3⟩:=YN (g:=v.Gauge) (known:=known) hb hb (by omega) (by omega) h je;obtain rfl:=f2.uniq g2;rw[f1,g1];exact⟨_,rfl,rfl,by have:=Ol L;simp only;omega⟩
theorem jz3h{l:List Ae}{vs:List Ah}{x:Cq}:Q8 l vs x=some true:=by
 unfold Q8;obtain⟨c,ec,hc⟩:=YJ x.V.Curve;obtain⟨b,e,hb⟩:=jz00 l vs;rw[ec,e];simp only[Ac];cases b
 ·rw[it_t (by rfl),SW];rfl
 cases c
 ·rw[it_t (by rfl),SW];rfl
 rw[it_f (by rfl)];have hs:=hb rfl;have hv:=hc rfl;obtain⟨y,y1,y2,y3⟩:=jz23 (l:=l) (r:=x.R) (known:=x.Known) hs;obtain⟨z,z1,z2,z3⟩:=jz3b (l:=l) (known:=x.Known) hs hv;rw[y1,y2,z1,z2,SW];simp only[Ac,AN];rw[YU (by omega)];simp only[Ac,decide_true,AN,BV];rw[YU (by omega)];simp only[Ac,BV]
end
end Go.Am

