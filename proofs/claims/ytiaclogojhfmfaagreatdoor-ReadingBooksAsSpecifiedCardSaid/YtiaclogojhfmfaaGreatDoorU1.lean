/- Part U1 of the proof that the last part closes: the mathematics of the functions of this seat. No condition. -/
import Derived.Test.YtiaclogojhfmfaaGreatDoorR1
import Derived.Test.YtiaclogojhfmfaaGreatDoorX1
import Derived.Test.YtiaclogojhfmfaaGreatDoorF1
set_option linter.unusedSimpArgs false
set_option linter.unusedVariables false
namespace Go.Am
section
variable {α ω σ:Type}
def scan(f:Nat→α→Option ω):Nat→List α→Option ω
 |_,[]=>none
 |k,x :: l=>match f k x with
  |some o=>some o
  |none=>scan f (k+1) l
theorem wz6o{f:Nat→α→Option ω}:∀(k:Nat) (l:List α),scan f k l=none→∀i x,l[i]?=some x→f (k+i) x=none
 |k,[],_,i,x,h=>by simp at h
 |k,y :: l,e,i,x,h=>by
  unfold scan at e
  split at e
  ·cases e
  ·rename_i e1
   cases i with
   |zero=>simp at h;subst h;exact e1
   |succ i=>have:=wz6o (k+1) l e i x (by simpa using h);rwa [show k+(i+1)=k+1+i by omega]
theorem jzax{f:Nat→α→Option ω}:∀(k:Nat) (l:List α),(∀i x,l[i]?=some x→f (k+i) x=none)→scan f k l=none
 |k,[],_=>rfl
 |k,y :: l,e=>by
  unfold scan
  rw[show f k y=none from e 0 y rfl]
  exact jzax (k+1) l fun i x h=>by have:=e (i+1) x (by simpa using h);rwa [show k+(i+1)=k+1+i by omega]at this
theorem jzdu{f:Nat→α→Option ω}{l:List α}{k:Nat}{x:α}(h:l[k]?=some x):scan f k (l.drop k)=(match f k x with
  |some o=>some o
  | none=>scan f (k+1) (l.drop (k+1))):=by
 obtain⟨hk,rfl⟩:=List.getElem?_eq_some_iff.1 h
 rw[List.drop_eq_getElem_cons hk];rfl
def sOut:Option ω→Unit⊕ω
 |some o=>.inr o
 |none=>.inl ()
theorem jzak{body:σ→Option (σ⊕(Unit⊕ω))}{l:List α}(st:Nat→σ)(f:Nat→α→Option ω)(hl:l.length≤1000000000)
  (hs:∀(k:Nat) (x:α),l[k]?=some x→body (st k)=some (match f k x with | some o=>.inr (.inr o) | none=>.inl (st (k+1)))) (he:body (st l.length)=some (.inr (.inl ()))) {s:σ} (h0:s=st 0):lp body s=some (sOut (scan f 0 l)):=by
 obtain⟨o,e,ho⟩:=jzd2 (body:=body) st (fun k=>k≤l.length∧scan f 0 l=scan f k (l.drop k)) (fun k=>l.length-k) (fun o=>o=sOut (scan f 0 l)) (by
  rintro k ⟨hk,hsc⟩
  by_cases hlt:k<l.length
  ·have hx:=List.getElem?_eq_getElem hlt
   have h1:=hs k _ hx
   have h2:=jzdu (f:=f) hx
   cases hf:f k l[k] with
   |some o =>
    right
    rw[hf]at h1 h2
    exact⟨_,h1,by rw[hsc,h2];rfl⟩
   |none =>
    left
    rw[hf]at h1 h2
    exact⟨k+1,h1,⟨hlt,hsc.trans h2⟩,by omega⟩
  ·right
   have:k=l.length:=by omega
   subst this
   refine⟨_,he,?_⟩
   rw[hsc,List.drop_length];rfl) 0 h0 ⟨Nat.zero_le _,rfl⟩ (by omega)
 rw[e,ho]
theorem wz3m{body:Int→Option (Int⊕(Unit⊕ω))}{l:List α}(f:Nat→α→Option ω)(hl:l.length≤1000000000)
  (hs:∀(k:Nat) (x:α),l[k]?=some x→body (k:Int)=some (match f k x with | some o=>.inr (.inr o) | none=>.inl ((k:Int)+1))) (he:body (l.length:Int)=some (.inr (.inl ()))):lp body 0=some (sOut (scan f 0 l)) :=
 jzak (fun k=>(k:Int)) f hl (fun k x h=>by rw[hs k x h];cases f k x<;>rfl) he rfl
end
theorem wz5y{o:Option Int}{z:Int}:(match sOut o with | .inl ()=>some z | .inr o=>some o)=some (o.getD z):=by cases o<;>rfl
theorem wz9f{α:Type}[Inhabited α]{l:List α}{k:Nat}{x:α}(h:l[k]?=some x)(h0:0<k):at? l ((k:Int)-1)=some (l.getD (k-1) default):=by
 have hk:=(List.getElem?_eq_some_iff.1 h).1
 have h1:k-1<l.length:=by omega
 rw[at_e (n:=k-1) (by omega) (List.getElem?_eq_getElem h1)]
 simp[List.getD,h1]
theorem wz6q{α ω:Type}{f:Nat→α→Option ω}:∀(k:Nat) (l:List α) (o:ω),scan f k l=some o→∃i x,l[i]?=some x∧f (k+i) x=some o∧∀j y,j<i→l[j]?=some y→f (k+j) y=none
 |k,[],o,h=>by cases h
 |k,y :: l,o,h=>by
  unfold scan at h
  split at h
  ·rename_i o' ho
   cases h
   exact⟨0,y,rfl,ho,fun j y h=>by omega⟩
  ·rename_i hn
   obtain⟨i,x,h1,h2,h3⟩:=wz6q (k+1) l o h
   refine⟨i+1,x,by simpa using h1,by rwa [show k+(i+1)=k+1+i by omega],fun j z hj hz=>?_⟩
   cases j with
   |zero=>simp at hz;subst hz;exact hn
   |succ j =>
    have:=h3 j z (by omega) (by simpa using hz)
    rwa [show k+(j+1)=k+1+j by omega]
section
variable {α β ω σ:Type}
theorem jzlb{l:List α}{k:Nat}{x:α}(h:l[k]?=some x):l.take (k+1)=l.take k++[x]:=by rw[List.take_add_one,h];rfl
theorem wz5l{f:Nat→α→Option ω}{l:List α}(h:scan f 0 l=none){i:Nat}{x:α}(hx:l[i]?=some x):f i x=none:=by
 have:=wz6o 0 l h i x hx
 rwa [Nat.zero_add]at this
end
def SAsc(l:List Int):Prop:=l.Pairwise (· < ·)
theorem jzyx:∀{D E:List Int},SAsc D→SAsc E→(∀x,x∈D↔x∈E)→D=E
 |[],[],_,_,_=>rfl
 |[],e :: E,_,_,h=>by have:=(h e).2 (List.mem_cons_self ..);cases this
 |d :: D,[],_,_,h=>by have:=(h d).1 (List.mem_cons_self ..);cases this
 |d :: D,e :: E,hd,he,h=>by
  obtain⟨d1,d2⟩:=List.pairwise_cons.1 hd
  obtain⟨e1,e2⟩:=List.pairwise_cons.1 he
  have hde:d=e:=by
   rcases List.mem_cons.1 ((h d).1 (List.mem_cons_self ..)) with p|p
   ·exact p
   ·rcases List.mem_cons.1 ((h e).2 (List.mem_cons_self ..)) with q|q
    ·exact q.symm
    ·have:=d1 e q;have:=e1 d p;omega
  subst hde
  rw[jzyx d2 e2 fun x=>⟨fun hx=>?_,fun hx=>?_⟩]
  ·rcases List.mem_cons.1 ((h x).1 (List.mem_cons_of_mem _ hx)) with p|p
   ·subst p;have:=d1 x hx;omega
   ·exact p
  ·rcases List.mem_cons.1 ((h x).2 (List.mem_cons_of_mem _ hx)) with p|p
   ·subst p;have:=e1 x hx;omega
   ·exact p
theorem jzyr(a:Int):∀l x,x∈jzov a l↔x=a∨x∈l
 |[],x=>by simp[jzov]
 |b :: l,x=>by
  unfold jzov
  cases decide (a≤b)
  ·show x∈b :: jzov a l↔_
   rw[List.mem_cons,jzyr a l x,List.mem_cons]
   constructor
   ·rintro(h|h|h)
    ·exact .inr (.inl h)
    ·exact .inl h
    ·exact .inr (.inr h)
   ·rintro(h|h|h)
    ·exact .inr (.inl h)
    ·exact .inl h
    ·exact .inr (.inr h)
  ·show x∈a :: b :: l↔_
   exact List.mem_cons
theorem jzyv(a:Int):∀l,SAsc l→a∉l→SAsc (jzov a l)
 |[],_,_=>List.pairwise_singleton _ _
 |b :: l,h,hn=>by
  obtain⟨h1,h2⟩:=List.pairwise_cons.1 h
  have hab:a≠b:=fun e=>hn (by simp[e])
  have hal:a∉l:=fun e=>hn (by simp[e])
  unfold jzov
  cases hd:decide (a≤b)
  ·have hd:=of_decide_eq_false hd
   refine List.pairwise_cons.2 ⟨fun c hc=>?_,jzyv a l h2 hal⟩
   rcases(jzyr a l c).1 hc with rfl|hc
   ·omega
   ·exact h1 c hc
  ·have hd:=of_decide_eq_true hd
   refine List.pairwise_cons.2 ⟨fun c hc=>?_,h⟩
   rcases List.mem_cons.1 hc with rfl|hc
   ·omega
   ·have:=h1 c hc;omega
theorem jzyq:∀l x,x∈jzpf l↔x∈l
 |[],x=>Iff.rfl
 |a :: l,x=>by
  show x∈jzov a (jzpf l)↔_
  rw[jzyr,jzyq l x,List.mem_cons]
theorem jzyw:∀l:List Int,l.Nodup→SAsc (jzpf l)
 |[],_=>List.Pairwise.nil
 |a :: l,h=>by
  obtain⟨h1,h2⟩:=List.nodup_cons.1 h
  exact jzyv a _ (jzyw l h2) fun e=>h1 ((jzyq l a).1 e)
theorem jzyz(a:Int):∀l,(jzov a l).length=l.length+1
 |[]=>rfl
 |b :: l=>by
  unfold jzov
  cases decide (a≤b)
  ·show(b :: jzov a l).length=_
   simp[jzyz a l]
  ·rfl
theorem jzy0:∀l,(jzpf l).length=l.length
 |[]=>rfl
 |a :: l=>by show(jzov a (jzpf l)).length=_;rw[jzyz,jzy0 l];rfl
theorem wz7m(k:Int):∀(m:List (Int×Bool)),((mput keqI m k true).map (·.1))=if k∈m.map (·.1) then m.map (·.1) else m.map (·.1)++[k]
 |[]=>by simp[mput]
 |p :: m=>by
  unfold mput
  by_cases h:k=p.1
  ·rw[show keqI k p.1=true by simp[keqI,h]]
   simp[h]
  ·rw[show keqI k p.1=false by simp[keqI,h]]
   simp only[List.map_cons]
   rw[wz7m k m]
   by_cases h2:k∈m.map (·.1)
   ·rw[if_pos h2,if_pos (List.mem_cons_of_mem _ h2)]
   ·rw[if_neg h2,if_neg (by simp only[List.mem_cons,not_or];exact⟨h,h2⟩)]
    rfl
theorem jzzc{k:Int}{m:List (Int×Bool)}(h:(m.map (·.1)).Nodup):((mput keqI m k true).map (·.1)).Nodup:=by
 rw[wz7m]
 split
 ·exact h
 ·rename_i hn
  rw[List.nodup_append]
  exact⟨h,by simp,fun a ha b hb e=>by rw[List.mem_singleton.1 hb]at e;subst e;exact hn ha⟩
theorem jzy9{k x:Int}{m:List (Int×Bool)}:x∈(mput keqI m k true).map (·.1)↔x∈m.map (·.1)∨x=k:=by
 rw[wz7m]
 split
 ·rename_i h
  exact⟨.inl,fun h'=>h'.elim id fun e=>e▸h⟩
 ·simp only[List.mem_append,List.mem_singleton]
theorem jzy7{k:Int}{m:List (Int×Bool)}:(mput keqI m k true).length≤m.length+1:=by
 have:((mput keqI m k true).map (·.1)).length≤m.length+1:=by
  rw[wz7m]
  split<;>simp
 simpa using this
theorem jzy5{l:List Int}{n:Int}(h:SAsc l)(hl:l.length≤1000000):∃m,jzyc l n=some m∧SAsc m∧(∀x,x∈m↔x=n∨x∈l)∧m.length≤l.length+1:=by
 unfold jzyc
 obtain⟨o,e,d,out,rfl,h1,h2,h3,h4⟩:=vzf (s:=(false,(0:Int),([]:List Int))) (body:=jzyd l n)
  (fun s=>∃k:Nat,∃d out,s=(d,(k:Int),out)∧k≤l.length∧SAsc out∧(∀x,x∈out↔(x=n∧d=true)∨(x∈l.take k∧x≠n))∧(d=false→∀x,x∈l.take k→x<n)∧(d=true→∀x,x∈l.drop k→n≤x)∧out.length≤k+d.toNat) (fun s=>(l.length-s.2.1).toNat)
  (fun o=>∃d out,o=(d,out)∧SAsc out∧(∀x,x∈out↔(x=n∧d=true)∨(x∈l∧x≠n))∧(d=false→∀x,x∈l→x<n)∧out.length≤l.length+d.toNat) (by
  rintro s ⟨k,d,out,rfl,hk,h1,h2,h3,h4,h5⟩
  simp only[jzyd]
  by_cases hlt:k<l.length
  rotate_left
  ·right
   rw[it_n (by omega)]
   rw[List.take_of_length_le (by omega)]at h2 h3
   exact⟨_,rfl,d,out,rfl,h1,h2,h3,by omega⟩
  left
  have hx:=List.getElem?_eq_getElem hlt
  have htk:l.take (k+1)=l.take k++[l[k]]:=jzlb hx
  have hdk:l.drop k=l[k] :: l.drop (k+1):=List.drop_eq_getElem_cons hlt
  have hlo:∀x,x∈l.take k→x<l[k]:=fun x hx=>by
   obtain⟨i,hi,rfl⟩:=List.getElem_of_mem hx
   rw[List.length_take]at hi
   rw[List.getElem_take]
   exact List.pairwise_iff_getElem.1 h i k (by omega) hlt (by omega)
  have hhi:∀x,x∈l.drop (k+1)→l[k]<x:=fun x hx=>by
   obtain⟨i,hi,rfl⟩:=List.getElem_of_mem hx
   rw[List.length_drop]at hi
   rw[List.getElem_drop]
   exact List.pairwise_iff_getElem.1 h k (k+1+i) hlt (by omega) (by omega)
  generalize hy:l[k]=y at *
  have hat:at? l (k:Int)=some y:=at_e rfl hx
  rw[it_d (by omega)]
  obtain⟨d',out',e1,g1,g2,g3,g4,g5⟩:∃d' out',(bd (gd (!d) (at? l (k:Int))) fun x1=>(ite' (bif (!d) then(decide (n≤x1)) else false) (ck (decide (List.length (out++[n])*8≤140737488355328))<|some (true,(out++[n]))) (some (d,out))))=some (d',out')∧SAsc out'∧(∀x,x∈out'↔(x=n∧d'=true)∨(x∈l.take k∧x≠n))∧(d'=false→y<n∧∀x,x∈l.take k→x<n)∧(d'=true→n≤y∧∀x,x∈l.drop k→n≤x)∧out'.length≤k+d'.toNat:=by
   cases d with
   |true =>
    simp only[Bool.not_true,wzcn,bd_s,cond_false]
    rw[qzil]
    have hq:=h4 rfl
    exact⟨true,out,rfl,h1,h2,fun e=>(by cases e),fun _=>⟨hq y (by rw[hdk];exact List.mem_cons_self ..),hq⟩,h5⟩
   |false =>
    simp only[Bool.not_false,qzbx,cond_true]
    rw[hat]
    simp only[bd_s]
    have hq:=h3 rfl
    have h5':out.length≤k:=by simpa using h5
    by_cases hn:n≤y
    ·rw[it_d hn,ck_d (by simp;omega)]
     refine⟨true,_,rfl,?_,fun x=>?_,fun e=>(by cases e),fun _=>⟨hn,fun x hx=>?_⟩,by simp;omega⟩
     ·refine List.pairwise_append.2 ⟨h1,List.pairwise_singleton _ _,fun a ha b hb=>?_⟩
      rw[List.mem_singleton.1 hb]
      rcases(h2 a).1 ha with ⟨_,e⟩|⟨e,_⟩
      ·cases e
      ·exact hq a e
     ·rw[List.mem_append,h2,List.mem_singleton]
      constructor
      ·rintro((⟨_,e⟩|e)|e)
       ·cases e
       ·exact .inr e
       ·exact .inl ⟨e,rfl⟩
      ·rintro(⟨e,_⟩|e)
       ·exact .inr e
       ·exact .inl (.inr e)
     ·rw[hdk]at hx
      rcases List.mem_cons.1 hx with rfl|hx
      ·exact hn
      ·have:=hhi x hx;omega
    ·rw[it_n hn]
     exact⟨false,out,rfl,h1,h2,fun _=>⟨by omega,hq⟩,fun e=>(by cases e),h5⟩
  have e1':(bd (gd (!d) (at? l (k:Int))) fun x1=>bd (α:=Bool×(List Int)) (ite' (bif (!d) then(decide (n≤x1)) else false) (ck (decide (List.length (out++[n])*8≤140737488355328))<|some (true,(out++[n]))) (some (d,out))) fun(done6',l1')=>bd (at? l (k:Int)) fun x2=>ite' (!decide (x2=n)) (bd (at? l (k:Int)) fun x3=>ck (decide (List.length (l1'++[x3])*8≤140737488355328))<|ck (inB .i64 ((k:Int)+1))<|some (.inl (done6',((k:Int)+1),(l1'++[x3])))) (ck (inB .i64 ((k:Int)+1))<|some (.inl (done6',((k:Int)+1),l1'))))=bd (at? l (k:Int)) fun x2=>ite' (!decide (x2=n)) (bd (at? l (k:Int)) fun x3=>ck (decide (List.length (out'++[x3])*8≤140737488355328))<|ck (inB .i64 ((k:Int)+1))<|some ((.inl (d',((k:Int)+1),(out'++[x3])):(Bool×Int×List Int)⊕(Bool×List Int)))) (ck (inB .i64 ((k:Int)+1))<|some (.inl (d',((k:Int)+1),out'))):=by
   cases hg:gd (!d) (at? l (k:Int)) with
   |none=>rw[hg]at e1;cases e1
   |some z =>
    rw[hg]at e1
    simp only[bd_s]at e1 ⊢
    rw[e1]
    simp only[bd_s]
  have h5':out'.length≤k+1:=by cases d'<;>simp at g5<;>omega
  rw[e1',hat]
  simp only[bd_s]
  by_cases hn:y=n
  ·rw[qzk5 hn,qz3 (by omega)]
   refine⟨_,rfl,⟨k+1,d',out',rfl,hlt,g1,fun x=>?_,fun e=>?_,fun e x hx=>?_,by omega⟩,by simp only;omega⟩
   ·rw[g2,htk]
    simp only[List.mem_append,List.mem_singleton]
    constructor
    ·rintro(e|⟨e,e'⟩)
     ·exact .inl e
     ·exact .inr ⟨.inl e,e'⟩
    ·rintro(e|⟨e|e,e'⟩)
     ·exact .inl e
     ·exact .inr ⟨e,e'⟩
     ·exact absurd (e.trans hn) e'
   ·have:=(g3 e).1;omega
   ·have:=hhi x hx;omega
  ·rw[qzhj hn,ck_d (by simp;omega),qz3 (by omega)]
   refine⟨_,rfl,⟨k+1,d',out'++[y],rfl,hlt,?_,fun x=>?_,fun e x hx=>?_,fun e x hx=>?_,by simp;omega⟩,by simp only;omega⟩
   ·refine List.pairwise_append.2 ⟨g1,List.pairwise_singleton _ _,fun a ha b hb=>?_⟩
    rw[List.mem_singleton.1 hb]
    rcases(g2 a).1 ha with ⟨e,e'⟩|⟨e,_⟩
    ·have:=(g4 e').1;omega
    ·exact hlo a e
   ·rw[List.mem_append,g2,htk,List.mem_append]
    simp only[List.mem_singleton]
    constructor
    ·rintro((e|⟨e,e'⟩)|rfl)
     ·exact .inl e
     ·exact .inr ⟨.inl e,e'⟩
     ·exact .inr ⟨.inr rfl,hn⟩
    ·rintro(e|⟨e|e,e'⟩)
     ·exact .inl (.inl e)
     ·exact .inl (.inr ⟨e,e'⟩)
     ·exact .inr e
   ·rw[htk]at hx
    rcases List.mem_append.1 hx with hx|hx
    ·exact(g3 e).2 x hx
    ·rw[List.mem_singleton.1 hx];exact(g3 e).1
   ·exact(g4 e).2 x (by rw[hdk];exact List.mem_cons_of_mem _ hx)) ⟨0,false,[],rfl,Nat.zero_le _,List.Pairwise.nil,fun x=>by simp,fun _ x hx=>by simp at hx,fun e=>(by cases e),by simp⟩ (by simp only;omega)
 rw[e]
 simp only[bd_s]
 cases d with
 |true =>
  rw[it_f (by rfl)]
  refine⟨out,rfl,h1,fun x=>?_,by simpa using h4⟩
  rw[h2]
  constructor
  ·rintro(⟨e,_⟩|⟨e,_⟩)
   ·exact .inl e
   ·exact .inr e
  ·rintro(e|e)
   ·exact .inl ⟨e,rfl⟩
   ·by_cases hx:x=n
    ·exact .inl ⟨hx,rfl⟩
    ·exact .inr ⟨e,hx⟩
 |false =>
  have h4':out.length≤l.length:=by simpa using h4
  have hq:=h3 rfl
  rw[it_t (by rfl),ck_d (by simp;omega)]
  refine⟨_,rfl,?_,fun x=>?_,by simp;omega⟩
  ·refine List.pairwise_append.2 ⟨h1,List.pairwise_singleton _ _,fun a ha b hb=>?_⟩
   rw[List.mem_singleton.1 hb]
   rcases(h2 a).1 ha with ⟨_,e⟩|⟨e,_⟩
   ·cases e
   ·exact hq a e
  ·rw[List.mem_append,h2,List.mem_singleton]
   constructor
   ·rintro((⟨_,e⟩|⟨e,_⟩)|e)
    ·cases e
    ·exact .inr e
    ·exact .inl e
   ·rintro(e|e)
    ·exact .inr e
    ·exact .inl (.inr ⟨e,by have:=hq x e;omega⟩)
def rlt(a b:jzn4):Prop:=a.Gauge<b.Gauge∨a.Gauge=b.Gauge∧a.Seq<b.Seq
def rsm(a b:jzn4):Prop:=a.Gauge=b.Gauge∧a.Seq=b.Seq
def rrp(a b:jzn4):Prop:=a.Gauge=b.Gauge∧a.Seq=b.Seq∧a.From=b.From∧a.To=b.To∧a.Stage=b.Stage
instance (a b:jzn4):Decidable (rlt a b):=by unfold rlt;infer_instance
instance (a b:jzn4):Decidable (rsm a b):=by unfold rsm;infer_instance
instance (a b:jzn4):Decidable (rrp a b):=by unfold rrp;infer_instance
def RR(r:jzn4):Prop:=(0≤r.Gauge∧r.Gauge≤39)∧(0≤r.Seq∧r.Seq≤1099511627776)∧0≤r.From∧r.From<r.To∧r.To≤1402560∧(0≤r.Stage∧r.Stage≤1000)∧(0≤r.Known∧r.Known≤14609)
instance (r:jzn4):Decidable (RR r):=by unfold RR;infer_instance
theorem jzts{a:jzn4}:¬rlt a a:=by unfold rlt;omega
theorem jzrg{a b c:jzn4}(h:rlt a b)(k:rlt b c):rlt a c:=by unfold rlt at *;omega
theorem jztu{a b:jzn4}(h:rlt a b):¬rlt b a:=by unfold rlt at *;omega
theorem jzqr{a b:jzn4}(h:rlt a b):¬rsm a b:=by unfold rlt at h;unfold rsm;omega
theorem jzpl{a b:jzn4}(h:rlt a b):¬rsm b a:=by unfold rlt at h;unfold rsm;omega
theorem jztc(a b:jzn4):rlt a b∨rsm a b∨rlt b a:=by unfold rlt rsm;omega
theorem jzqg(a:jzn4):rsm a a:=⟨rfl,rfl⟩
theorem rsm.symm{a b:jzn4}(h:rsm a b):rsm b a:=⟨h.1.symm,h.2.symm⟩
theorem rsm.trans{a b c:jzn4}(h:rsm a b)(k:rsm b c):rsm a c:=⟨h.1.trans k.1,h.2.trans k.2⟩
theorem rrp.sm{a b:jzn4}(h:rrp a b):rsm a b:=⟨h.1,h.2.1⟩
theorem rrp.symm{a b:jzn4}(h:rrp a b):rrp b a:=⟨h.1.symm,h.2.1.symm,h.2.2.1.symm,h.2.2.2.1.symm,h.2.2.2.2.symm⟩
theorem rrp.trans{a b c:jzn4}(h:rrp a b)(k:rrp b c):rrp a c:=⟨h.1.trans k.1,h.2.1.trans k.2.1,h.2.2.1.trans k.2.2.1,h.2.2.2.1.trans k.2.2.2.1,h.2.2.2.2.trans k.2.2.2.2⟩
theorem jzsa(a:jzn4):rrp a a:=⟨rfl,rfl,rfl,rfl,rfl⟩
theorem rrp.eq{a b:jzn4}(h:rrp a b)(k:a.Known=b.Known):a=b:=by
 obtain⟨h1,h2,h3,h4,h5⟩:=h
 cases a;cases b;simp only at *;subst h1 h2 h3 h4 h5 k;rfl
theorem jzxz{a b c:jzn4}(h:rlt a b)(k:rsm b c):rlt a c:=by unfold rlt rsm at *;omega
theorem jzrz{a b c:jzn4}(k:rsm a b)(h:rlt b c):rlt a c:=by unfold rlt rsm at *;omega
def Asc(l:List jzn4):Prop:=l.Pairwise rlt
structure Bk(l:List jzn4):Prop where
 right:∀r,r∈l→RR r
 asc:Asc l
theorem jzsw:∀{D E:List jzn4},Asc D→Asc E→(∀x,x∈D↔x∈E)→D=E
 |[],[],_,_,_=>rfl
 |[],e :: E,_,_,h=>by have:=(h e).2 (List.mem_cons_self ..);cases this
 |d :: D,[],_,_,h=>by have:=(h d).1 (List.mem_cons_self ..);cases this
 |d :: D,e :: E,hd,he,h=>by
  obtain⟨d1,d2⟩:=List.pairwise_cons.1 hd
  obtain⟨e1,e2⟩:=List.pairwise_cons.1 he
  have hde:d=e:=by
   rcases List.mem_cons.1 ((h d).1 (List.mem_cons_self ..)) with p|p
   ·exact p
   ·rcases List.mem_cons.1 ((h e).2 (List.mem_cons_self ..)) with q|q
    ·exact q.symm
    ·exact absurd (d1 e q) (jztu (e1 d p))
  subst hde
  rw[jzsw d2 e2 fun x=>⟨fun hx=>?_,fun hx=>?_⟩]
  ·rcases List.mem_cons.1 ((h x).1 (List.mem_cons_of_mem _ hx)) with p|p
   ·subst p;exact absurd (d1 x hx) jzts
   ·exact p
  ·rcases List.mem_cons.1 ((h x).2 (List.mem_cons_of_mem _ hx)) with p|p
   ·subst p;exact absurd (e1 x hx) jzts
   ·exact p
theorem Asc.one{l:List jzn4}(h:Asc l){a b:jzn4}(ha:a∈l)(hb:b∈l)(e:rsm a b):a=b:=by
 induction l with
 |nil=>cases ha
 |cons x l ih =>
  obtain⟨h1,h2⟩:=List.pairwise_cons.1 h
  rcases List.mem_cons.1 ha with p|p<;>rcases List.mem_cons.1 hb with q|q
  ·rw[p,q]
  ·subst p;exact absurd e (jzqr (h1 b q))
  ·subst q;exact absurd e (jzpl (h1 a p))
  ·exact ih h2 p q
structure RCon(L:List jzn4):Prop where
 right:∀r,r∈L→RR r
 rep:∀a b,a∈L→b∈L→rsm a b→rrp a b
def Best(L:List jzn4)(x:jzn4):Prop:=x∈L∧∀y,y∈L→rsm y x→x.Known≤y.Known
structure IsBk(L l:List jzn4):Prop where
 asc:Asc l
 mem:∀x,x∈l↔Best L x
theorem IsBk.uniq{L l m:List jzn4}(h:IsBk L l)(k:IsBk L m):l=m:=jzsw h.asc k.asc fun x=>(h.mem x).trans (k.mem x).symm
theorem jzs6{L M:List jzn4}(h:∀x,x∈L↔x∈M)(x:jzn4):Best L x↔Best M x :=
 ⟨fun⟨a,b⟩=>⟨(h x).1 a,fun y hy=>b y ((h y).2 hy)⟩,fun⟨a,b⟩=>⟨(h x).2 a,fun y hy=>b y ((h y).1 hy)⟩⟩
theorem IsBk.congr{L M l:List jzn4}(h:∀x,x∈L↔x∈M)(k:IsBk L l):IsBk M l:=⟨k.asc,fun x=>(k.mem x).trans (jzs6 h x)⟩
theorem RCon.congr{L M:List jzn4}(h:∀x,x∈L↔x∈M)(k:RCon L):RCon M :=
 ⟨fun r hr=>k.right r ((h r).2 hr),fun a b ha hb=>k.rep a b ((h a).2 ha) ((h b).2 hb)⟩
theorem RCon.sub{L M:List jzn4}(h:∀x,x∈M→x∈L)(k:RCon L):RCon M :=
 ⟨fun r hr=>k.right r (h r hr),fun a b ha hb=>k.rep a b (h a ha) (h b hb)⟩
theorem IsBk.bk{L l:List jzn4}(h:IsBk L l)(c:RCon L):Bk l:=⟨fun r hr=>c.right r ((h.mem r).1 hr).1,h.asc⟩
theorem jzsu:∀(n:Nat) {L:List jzn4} {x:jzn4},x∈L→(∀r,r∈L→0≤r.Known)→x.Known.toNat≤n→∃y,Best L y∧rsm y x
 |0,L,x,hx,hp,hn=>⟨x,⟨hx,fun y hy _=>by have:=hp y hy;have:=hp x hx;omega⟩,jzqg _⟩
 |n+1,L,x,hx,hp,hn=>by
  by_cases h:∀y,y∈L→rsm y x→x.Known≤y.Known
  ·exact⟨x,⟨hx,h⟩,jzqg _⟩
  ·simp only[Classical.not_forall,Int.not_le]at h
   obtain⟨y,hy,hs,hl⟩:=h
   obtain⟨z,hz,hzs⟩:=jzsu n hy hp (by have:=hp y hy;have:=hp x hx;omega)
   exact⟨z,hz,hzs.trans hs⟩
theorem RCon.ex{L:List jzn4}(c:RCon L){x:jzn4}(hx:x∈L):∃y,Best L y∧rsm y x:=jzsu _ hx (fun r hr=>(c.right r hr).2.2.2.2.2.2.1) (Nat.le_refl _)
theorem Bk.own{l:List jzn4}(h:Bk l):IsBk l l:=⟨h.asc,fun x=>⟨fun hx=>⟨hx,fun y hy e=>by rw[h.asc.one hy hx e];exact Int.le_refl _⟩,fun h=>h.1⟩⟩
theorem Bk.con{l:List jzn4}(h:Bk l):RCon l:=⟨h.right,fun a b ha hb e=>by rw[h.asc.one ha hb e];exact jzsa _⟩
theorem jzvh{l:List jzn4}(h:Asc l){i j:Nat}(hi:i<l.length)(hj:j<l.length)(hij:i<j):rlt l[i] l[j]:=List.pairwise_iff_getElem.1 h i j hi hj hij
theorem jzxq{α:Type}{l:List α}{k:Nat}{r x:α}:x∈insL l k r↔x∈l∨x=r:=by
 unfold insL
 conv=>rhs;rw[←List.take_append_drop k l]
 simp only[List.mem_append,List.mem_singleton]
 constructor
 ·rintro((h|h)|h)
  ·exact .inl (.inl h)
  ·exact .inr h
  ·exact .inl (.inr h)
 ·rintro((h|h)|h)
  ·exact .inl (.inl h)
  ·exact .inr h
  ·exact .inl (.inr h)
theorem jzxr{α:Type}{l:List α}{k:Nat}{r:α}:(insL l k r).length=l.length+1:=by
 unfold insL
 simp only[List.length_append,List.length_take,List.length_drop,List.length_singleton]
 omega
theorem jzxo{l:List jzn4}(h:Asc l){k:Nat}{r:jzn4}(hlo:∀i,(hi:i<l.length)→i<k→rlt l[i] r)(hhi:∀i,(hi:i<l.length)→k≤i→rlt r l[i]):Asc (insL l k r):=by
 unfold insL Asc
 rw[List.pairwise_append,List.pairwise_append]
 refine⟨⟨List.Pairwise.sublist (List.take_sublist ..) h,List.pairwise_singleton _ _,fun a ha b hb=>?_⟩,List.Pairwise.sublist (List.drop_sublist ..) h,fun a ha b hb=>?_⟩
 ·obtain⟨i,hi,rfl⟩:=List.getElem_of_mem ha
  rw[List.mem_singleton.1 hb,List.getElem_take]
  simp only[List.length_take]at hi
  exact hlo i (by omega) (by omega)
 ·obtain⟨j,hj,rfl⟩:=List.getElem_of_mem hb
  simp only[List.length_drop]at hj
  rw[List.getElem_drop]
  have h2:=hhi (k+j) (by omega) (by omega)
  rcases List.mem_append.1 ha with ha|ha
  ·obtain⟨i,hi,rfl⟩:=List.getElem_of_mem ha
   rw[List.getElem_take]
   simp only[List.length_take]at hi
   exact jzrg (hlo i (by omega) (by omega)) h2
  ·rw[List.mem_singleton.1 ha];exact h2
theorem jzxv{l:List jzn4}(h:Asc l){k:Nat}(hk:k<l.length){r:jzn4}(e:rsm l[k] r):Asc (l.set k r):=by
 unfold Asc
 rw[List.pairwise_iff_getElem]
 intro i j hi hj hij
 simp only[List.length_set]at hi hj
 simp only[List.getElem_set]
 by_cases h1:k=i
 ·subst h1
  rw[if_pos rfl,if_neg (by omega)]
  exact jzrz e.symm (jzvh h hi hj hij)
 ·rw[if_neg h1]
  by_cases h2:k=j
  ·subst h2
   rw[if_pos rfl]
   exact jzxz (jzvh h hi hj hij) e
  ·rw[if_neg h2]
   exact jzvh h hi hj hij
theorem jzxx{l:List jzn4}(h:Asc l){k:Nat}(hk:k<l.length){r:jzn4}(e:rsm l[k] r){x:jzn4}:x∈l.set k r↔x=r∨x∈l∧¬rsm x r:=by
 constructor
 ·intro hx
  obtain⟨i,hi,rfl⟩:=List.getElem_of_mem hx
  simp only[List.length_set]at hi
  rw[List.getElem_set]
  by_cases h1:k=i
  ·rw[if_pos h1];exact .inl rfl
  ·rw[if_neg h1]
   refine .inr ⟨List.getElem_mem _,fun h2=>?_⟩
   have h3:=h2.trans e.symm
   by_cases h4:i<k
   ·exact jzqr (jzvh h hi hk h4) h3
   ·exact jzpl (jzvh h hk hi (by omega)) h3
 ·rintro(rfl|⟨hx,hn⟩)
  ·exact List.mem_iff_getElem.2 ⟨k,by simpa using hk,by simp⟩
  ·obtain⟨i,hi,rfl⟩:=List.getElem_of_mem hx
   have h1:k≠i:=fun h1=>by subst h1;exact hn e
   exact List.mem_iff_getElem.2 ⟨i,by simpa using hi,by rw[List.getElem_set,if_neg h1]⟩
theorem jzxp{L l:List jzn4}(c:RCon L)(h:IsBk L l){r:jzn4}(hn:∀x,x∈l→¬rsm x r){m:List jzn4}(hm:Asc m)(he:∀x,x∈m↔x∈l∨x=r):IsBk (L++[r]) m:=by
 have hL:∀x,x∈L→¬rsm x r:=fun x hx e=>by
  obtain⟨y,hy,hs⟩:=c.ex hx
  exact hn y ((h.mem y).2 hy) (hs.trans e)
 refine⟨hm,fun x=>?_⟩
 rw[he,h.mem]
 constructor
 ·rintro(⟨h1,h2⟩|rfl)
  ·refine⟨List.mem_append.2 (.inl h1),fun y hy e=>?_⟩
   rcases List.mem_append.1 hy with p|p
   ·exact h2 y p e
   ·rw[List.mem_singleton.1 p]at e;exact absurd e.symm (hL x h1)
  ·refine⟨List.mem_append.2 (.inr (List.mem_singleton.2 rfl)),fun y hy e=>?_⟩
   rcases List.mem_append.1 hy with p|p
   ·exact absurd e (hL y p)
   ·rw[List.mem_singleton.1 p];exact Int.le_refl _
 ·rintro⟨h1,h2⟩
  rcases List.mem_append.1 h1 with p|p
  ·exact .inl ⟨p,fun y hy e=>h2 y (List.mem_append.2 (.inl hy)) e⟩
  ·exact .inr (List.mem_singleton.1 p)
theorem jzxn{L l:List jzn4}(c:RCon L)(h:IsBk L l){r z:jzn4}(hz:z∈l)(e:rrp z r)(hk:z.Known≤r.Known):IsBk (L++[r]) l:=by
 have bz:=(h.mem z).1 hz
 refine⟨h.asc,fun x=>?_⟩
 rw[h.mem]
 constructor
 ·rintro⟨h1,h2⟩
  refine⟨List.mem_append.2 (.inl h1),fun y hy e'=>?_⟩
  rcases List.mem_append.1 hy with p|p
  ·exact h2 y p e'
  ·obtain rfl:=List.mem_singleton.1 p
   have:=h2 z bz.1 (e.sm.trans e')
   omega
 ·rintro⟨h1,h2⟩
  rcases List.mem_append.1 h1 with p|p
  ·exact⟨p,fun y hy e=>h2 y (List.mem_append.2 (.inl hy)) e⟩
  ·obtain rfl:=List.mem_singleton.1 p
   have h3:=h2 z (List.mem_append.2 (.inl bz.1)) e.sm
   have:z=x:=e.eq (by omega)
   rw[←this];exact bz
theorem jzxt{L l:List jzn4}(c:RCon L)(h:IsBk L l){r z:jzn4}(hz:z∈l)(e:rrp z r)(hk:¬z.Known≤r.Known){m:List jzn4}(hm:Asc m)(he:∀x,x∈m↔x=r∨x∈l∧¬rsm x r):IsBk (L++[r]) m:=by
 have bz:=(h.mem z).1 hz
 refine⟨hm,fun x=>?_⟩
 rw[he,h.mem]
 constructor
 ·rintro(rfl|⟨⟨h1,h2⟩,h3⟩)
  ·refine⟨List.mem_append.2 (.inr (List.mem_singleton.2 rfl)),fun y hy e'=>?_⟩
   rcases List.mem_append.1 hy with p|p
   ·have:=bz.2 y p (e'.trans e.sm.symm);omega
   ·rw[List.mem_singleton.1 p];exact Int.le_refl _
  ·refine⟨List.mem_append.2 (.inl h1),fun y hy e'=>?_⟩
   rcases List.mem_append.1 hy with p|p
   ·exact h2 y p e'
   ·rw[List.mem_singleton.1 p]at e';exact absurd e'.symm h3
 ·rintro⟨h1,h2⟩
  rcases List.mem_append.1 h1 with p|p
  ·refine .inr ⟨⟨p,fun y hy e=>h2 y (List.mem_append.2 (.inl hy)) e⟩,fun e'=>?_⟩
   have h3:=h2 r (List.mem_append.2 (.inr (List.mem_singleton.2 rfl))) e'.symm
   have h4:=bz.2 x p (e'.trans e.sm.symm)
   omega
  ·exact .inl (List.mem_singleton.1 p)
def mrg:List jzn4→List jzn4→Option (List jzn4)
 |[],b=>some b
 |x :: a,[]=>some (x :: a)
 |x :: a,y :: b=>if rlt x y then(mrg a (y :: b)).map (x :: ·) else if rlt y x then(mrg (x :: a) b).map (y :: ·) else if rrp x y then(mrg a b).map ({ x with Known:=min x.Known y.Known } :: ·) else none
termination_by a b=>a.length+b.length
theorem jzpr:∀(n:Nat) (a b l:List jzn4),a.length+b.length≤n→mrg a b=some l→l.length≤a.length+b.length
 |_,[],b,l,_,h=>by rw[mrg]at h;cases h;simp
 |_,x :: a,[],l,_,h=>by rw[mrg]at h;cases h;simp
 |0,x :: a,y :: b,l,hn,h=>by simp at hn
 |n+1,x :: a,y :: b,l,hn,h=>by
  rw[mrg]at h
  simp only[List.length_cons]at hn ⊢
  split at h
  ·cases e:mrg a (y :: b) with
   |none=>rw[e]at h;cases h
   |some m =>
    rw[e]at h;cases h
    have:=jzpr n a (y :: b) m (by simp;omega) e
    simp at this ⊢;omega
  ·split at h
   ·cases e:mrg (x :: a) b with
    |none=>rw[e]at h;cases h
    |some m =>
     rw[e]at h;cases h
     have:=jzpr n (x :: a) b m (by simp;omega) e
     simp at this ⊢;omega
   ·split at h
    ·cases e:mrg a b with
     |none=>rw[e]at h;cases h
     |some m =>
      rw[e]at h;cases h
      have:=jzpr n a b m (by omega) e
      simp at this ⊢;omega
    ·cases h
theorem jzqz:∀(n:Nat) (a b:List jzn4),a.length+b.length≤n→Asc a→Asc b→(mrg a b=none↔∃x y,x∈a∧y∈b∧rsm x y∧¬rrp x y)
 |_,[],b,_,_,_=>by rw[mrg];constructor;intro h;cases h;rintro⟨x,_,h,_⟩;cases h
 |_,x :: a,[],_,_,_=>by rw[mrg];constructor;intro h;cases h;rintro⟨_,y,_,h,_⟩;cases h
 |0,x :: a,y :: b,hn,_,_=>by simp at hn
 |n+1,x :: a,y :: b,hn,ha,hb=>by
  rw[mrg]
  simp only[List.length_cons]at hn
  obtain⟨a1,a2⟩:=List.pairwise_cons.1 ha
  obtain⟨b1,b2⟩:=List.pairwise_cons.1 hb
  split
  ·rename_i h
   rw[Option.map_eq_none_iff,jzqz n a (y :: b) (by simp;omega) a2 hb]
   constructor
   ·rintro⟨u,v,hu,hv,k⟩;exact⟨u,v,List.mem_cons_of_mem _ hu,hv,k⟩
   ·rintro⟨u,v,hu,hv,k1,k2⟩
    rcases List.mem_cons.1 hu with rfl|hu
    ·rcases List.mem_cons.1 hv with rfl|hv
     ·exact absurd k1 (jzqr h)
     ·exact absurd k1 (jzqr (jzrg h (b1 v hv)))
    ·exact⟨u,v,hu,hv,k1,k2⟩
  ·split
   ·rename_i h
    rw[Option.map_eq_none_iff,jzqz n (x :: a) b (by simp;omega) ha b2]
    constructor
    ·rintro⟨u,v,hu,hv,k⟩;exact⟨u,v,hu,List.mem_cons_of_mem _ hv,k⟩
    ·rintro⟨u,v,hu,hv,k1,k2⟩
     rcases List.mem_cons.1 hv with rfl|hv
     ·rcases List.mem_cons.1 hu with rfl|hu
      ·exact absurd k1 (jzpl h)
      ·exact absurd k1 (jzpl (jzrg h (a1 u hu)))
     ·exact⟨u,v,hu,hv,k1,k2⟩
   ·rename_i h1 h2
    have hs:rsm x y:=by rcases jztc x y with h|h|h;exact absurd h h1;exact h;exact absurd h h2
    split
    ·rename_i h
     rw[Option.map_eq_none_iff,jzqz n a b (by omega) a2 b2]
     constructor
     ·rintro⟨u,v,hu,hv,k⟩;exact⟨u,v,List.mem_cons_of_mem _ hu,List.mem_cons_of_mem _ hv,k⟩
     ·rintro⟨u,v,hu,hv,k1,k2⟩
      rcases List.mem_cons.1 hu with rfl|hu
      ·rcases List.mem_cons.1 hv with rfl|hv
       ·exact absurd h k2
       ·exact absurd k1 (jzqr (jzrz hs (b1 v hv)))
      ·rcases List.mem_cons.1 hv with rfl|hv
       ·exact absurd k1 (jzpl (jzrz hs.symm (a1 u hu)))
       ·exact⟨u,v,hu,hv,k1,k2⟩
    ·rename_i h
     exact⟨fun _=>⟨x,y,List.mem_cons_self ..,List.mem_cons_self ..,hs,h⟩,fun _=>rfl⟩
theorem jzq1:∀(n:Nat) (a b l:List jzn4),a.length+b.length≤n→Asc a→Asc b→mrg a b=some l→Asc l∧∀z,z∈l↔Best (a++b) z
 |_,[],b,l,_,_,hb,h=>by
  rw[mrg]at h;cases h
  exact⟨hb,fun z=>⟨fun h=>⟨h,fun y hy e=>by rw[Asc.one hb hy h e];exact Int.le_refl _⟩,fun h=>h.1⟩⟩
 |_,x :: a,[],l,_,ha,_,h=>by
  rw[mrg]at h;cases h
  rw[List.append_nil]
  exact⟨ha,fun z=>⟨fun h=>⟨h,fun y hy e=>by rw[Asc.one ha hy h e];exact Int.le_refl _⟩,fun h=>h.1⟩⟩
 |0,x :: a,y :: b,l,hn,_,_,_=>by simp at hn
 |n+1,x :: a,y :: b,l,hn,ha,hb,h=>by
  rw[mrg]at h
  simp only[List.length_cons]at hn
  obtain⟨a1,a2⟩:=List.pairwise_cons.1 ha
  obtain⟨b1,b2⟩:=List.pairwise_cons.1 hb
  have gen:∀(a' b' m:List jzn4) (w:jzn4),(Asc m∧∀z,z∈m↔Best (a'++b') z)→(∀z,z∈a'++b'→rlt w z)→(∀z,z∈x :: a++y :: b→z∈a'++b'∨rsm z w∧w.Known≤z.Known)→w∈x :: a++y :: b→(∀z,z∈a'++b'→z∈x :: a++y :: b)→(∀z,z∈x :: a++y :: b→rsm z w→w.Known≤z.Known)→(∀z,z∈x :: a++y :: b→rsm z w→z.Known≤w.Known→z=w)→Asc (w :: m)∧∀z,z∈w :: m↔Best (x :: a++y :: b) z:=by
   rintro a' b' m w ⟨m1,m2⟩ w1 w2 w3 w4 w5 w6
   refine⟨List.pairwise_cons.2 ⟨fun z hz=>w1 z ((m2 z).1 hz).1,m1⟩,fun z=>?_⟩
   rw[List.mem_cons,m2]
   constructor
   ·rintro(rfl|⟨h1,h2⟩)
    ·exact⟨w3,fun y hy e=>w5 y hy e⟩
    ·refine⟨w4 z h1,fun y hy e=>?_⟩
     rcases w2 y hy with p|p
     ·exact h2 y p e
     ·exact absurd (p.1.symm.trans e) (jzqr (w1 z h1))
   ·rintro⟨h1,h2⟩
    rcases w2 z h1 with p|p
    ·exact .inr ⟨p,fun y hy e=>h2 y (w4 y hy) e⟩
    ·exact .inl (w6 z h1 p.1 (h2 w w3 p.1.symm))
  split at h
  ·rename_i hlt
   cases e:mrg a (y :: b) with
   |none=>rw[e]at h;cases h
   |some m =>
   rw[e]at h;cases h
   have ih:=jzq1 n a (y :: b) m (by simp;omega) a2 hb e
   have hall:∀z,z∈a++y :: b→rlt x z:=fun z hz=>by
    rcases List.mem_append.1 hz with p|p
    ·exact a1 z p
    ·rcases List.mem_cons.1 p with rfl|p
     ·exact hlt
     ·exact jzrg hlt (b1 z p)
   refine gen a (y :: b) m x ih hall (fun z hz=>?_) (by simp) (fun z hz=>List.mem_cons_of_mem _ hz) (fun z hz e=>?_) (fun z hz e _=>?_)
   ·rcases List.mem_cons.1 hz with rfl|p
    ·exact .inr ⟨jzqg _,Int.le_refl _⟩
    ·exact .inl p
   ·rcases List.mem_cons.1 hz with rfl|p
    ·exact Int.le_refl _
    ·exact absurd e (jzpl (hall z p))
   ·rcases List.mem_cons.1 hz with rfl|p
    ·rfl
    ·exact absurd e (jzpl (hall z p))
  ·split at h
   ·rename_i hlt
    cases e:mrg (x :: a) b with
    |none=>rw[e]at h;cases h
    |some m =>
    rw[e]at h;cases h
    have ih:=jzq1 n (x :: a) b m (by simp;omega) ha b2 e
    have hall:∀z,z∈x :: a++b→rlt y z:=fun z hz=>by
     rcases List.mem_append.1 hz with p|p
     ·rcases List.mem_cons.1 p with rfl|p
      ·exact hlt
      ·exact jzrg hlt (a1 z p)
     ·exact b1 z p
    have sp:∀z,z∈x :: a++y :: b→z=y∨z∈x :: a++b:=fun z hz=>by
     rcases List.mem_append.1 hz with p|p
     ·exact .inr (List.mem_append.2 (.inl p))
     ·rcases List.mem_cons.1 p with p|p
      ·exact .inl p
      ·exact .inr (List.mem_append.2 (.inr p))
    refine gen (x :: a) b m y ih hall (fun z hz=>?_) (by simp) (fun z hz=>?_) (fun z hz e=>?_) (fun z hz e _=>?_)
    ·rcases sp z hz with rfl|p
     ·exact .inr ⟨jzqg _,Int.le_refl _⟩
     ·exact .inl p
    ·rcases List.mem_append.1 hz with p|p
     ·exact List.mem_append.2 (.inl p)
     ·exact List.mem_append.2 (.inr (List.mem_cons_of_mem _ p))
    ·rcases sp z hz with rfl|p
     ·exact Int.le_refl _
     ·exact absurd e (jzpl (hall z p))
    ·rcases sp z hz with rfl|p
     ·rfl
     ·exact absurd e (jzpl (hall z p))
   ·rename_i h1 h2
    have hs:rsm x y:=by rcases jztc x y with h|h|h;exact absurd h h1;exact h;exact absurd h h2
    split at h
    rotate_left
    ·cases h
    rename_i hr
    cases e:mrg a b with
    |none=>rw[e]at h;cases h
    |some m =>
    rw[e]at h;cases h
    have ih:=jzq1 n a b m (by omega) a2 b2 e
    have hw:({ x with Known:=min x.Known y.Known }:jzn4)=x∧x.Known≤y.Known∨({ x with Known:=min x.Known y.Known }:jzn4)=y∧y.Known≤x.Known:=by
     by_cases hk:x.Known≤y.Known
     ·refine .inl ⟨?_,hk⟩
      rw[Int.min_eq_left hk]
     ·refine .inr ⟨?_,by omega⟩
      rw[Int.min_eq_right (by omega)]
      exact rrp.eq (a:={ x with Known:=y.Known }) hr rfl
    have sp:∀z,z∈x :: a++y :: b→z=x∨z=y∨z∈a++b:=fun z hz=>by
     rcases List.mem_append.1 hz with p|p
     ·rcases List.mem_cons.1 p with p|p
      ·exact .inl p
      ·exact .inr (.inr (List.mem_append.2 (.inl p)))
     ·rcases List.mem_cons.1 p with p|p
      ·exact .inr (.inl p)
      ·exact .inr (.inr (List.mem_append.2 (.inr p)))
    generalize ({ x with Known:=min x.Known y.Known }:jzn4)=w at *
    have sx:rsm x w:=by rcases hw with ⟨rfl,_⟩|⟨rfl,_⟩;exact jzqg _;exact hs
    have sy:rsm y w:=hs.symm.trans sx
    have kx:w.Known≤x.Known:=by rcases hw with ⟨rfl,_⟩|⟨rfl,k⟩;exact Int.le_refl _;exact k
    have ky:w.Known≤y.Known:=by rcases hw with ⟨rfl,k⟩|⟨rfl,_⟩;exact k;exact Int.le_refl _
    have rx:rrp x w:=by rcases hw with ⟨rfl,_⟩|⟨rfl,k⟩;exact jzsa _;exact hr
    have hall:∀z,z∈a++b→rlt w z:=fun z hz=>by
     rcases List.mem_append.1 hz with p|p
     ·exact jzrz sx.symm (a1 z p)
     ·exact jzrz sy.symm (b1 z p)
    refine gen a b m w ih hall (fun z hz=>?_) ?_ (fun z hz=>?_) (fun z hz e=>?_) (fun z hz e k=>?_)
    ·rcases sp z hz with rfl|rfl|p
     ·exact .inr ⟨sx,kx⟩
     ·exact .inr ⟨sy,ky⟩
     ·exact .inl p
    ·rcases hw with ⟨rfl,_⟩|⟨rfl,_⟩<;>simp
    ·rcases List.mem_append.1 hz with p|p
     ·exact List.mem_append.2 (.inl (List.mem_cons_of_mem _ p))
     ·exact List.mem_append.2 (.inr (List.mem_cons_of_mem _ p))
    ·rcases sp z hz with rfl|rfl|p
     ·exact kx
     ·exact ky
     ·exact absurd e (jzpl (hall z p))
    ·rcases sp z hz with rfl|rfl|p
     ·exact rx.eq (by omega)
     ·exact(hr.symm.trans rx).eq (by omega)
     ·exact absurd e (jzpl (hall z p))
theorem jzrh:jzo6=some true:=by decide +kernel
theorem jztj(r:jzn4):jzom r=some (decide (RR r)):=by
 unfold jzom jzo0 RR
 simp only[bd_s]
 by_cases h1:0≤r.Gauge∧r.Gauge≤39
 rotate_left
 ·have e:(bif decide (0≤r.Gauge) then decide (r.Gauge≤39) else false)=false:=by
   by_cases h:0≤r.Gauge
   ·simp[h];omega
   ·simp[h]
  rw[e]
  simp[wzcn,bd_s,h1]
 by_cases h2:0≤r.Seq∧r.Seq≤1099511627776
 rotate_left
 ·have e:(bif decide (0≤r.Seq) then decide (r.Seq≤1099511627776) else false)=false:=by
   by_cases h:0≤r.Seq
   ·simp[h];omega
   ·simp[h]
  rw[e]
  simp[qzbx,wzcn,bd_s,h1,h2]
 by_cases h3:(0≤r.From∧r.From<r.To)∧r.To≤1402560
 rotate_left
 ·have e:(bif (bif (decide (0≤r.From)) then(decide (r.From<r.To)) else false) then(decide (r.To≤1402560)) else false)=false:=by
   rw[Bool.cond_false_right,Bool.cond_false_right,←Bool.decide_and,←Bool.decide_and,decide_eq_false h3]
  simp[qzbx,wzcn,bd_s,h1,h2,h3]at e ⊢
  by_cases f1:0≤r.From
  ·by_cases f2:r.From<r.To
   ·by_cases f3:r.To≤1402560
    ·omega
    ·simp[f1,f2,f3,wzcn,bd_s]
   ·simp[f1,f2,wzcn,bd_s]
  ·simp[f1,wzcn,bd_s]
 by_cases h4:0≤r.Stage∧r.Stage≤1000
 rotate_left
 ·have e:(bif decide (0≤r.Stage) then decide (r.Stage≤1000) else false)=false:=by
   by_cases h:0≤r.Stage
   ·simp[h];omega
   ·simp[h]
  simp[qzbx,wzcn,bd_s,h1,h2,h3,e,h4]
 simp[qzbx,wzcn,bd_s,h1,h2,h3,h4,Bool.cond_false_right]
def rcmp(a b:jzn4):Int:=if rlt a b then -1 else if rsm a b then 0 else 1
theorem jzxe(x y:Int):qzca x y=some (if x<y then -1 else if y<x then 1 else 0):=by
 unfold qzca qzcc
 simp only[bd_s,decide_true,Bool.not_true]
 rw[qzil,qzil]
 by_cases h:x<y
 ·rw[it_d h,if_pos h]
 ·rw[it_n h,if_neg h]
  by_cases h2:y<x
  ·rw[it_d h2,if_pos h2]
  ·rw[it_n h2,if_neg h2]
theorem jzvz(x y:Int):jzqc [x,y]=some (if x=0 then y else x):=by
 unfold jzqc
 rw[wz3m (l:=[x,y]) (fun _ z=>if z=0 then none else some z) (by simp) ?_ ?_]
 ·by_cases hx:x=0
  ·subst hx
   by_cases hy:y=0
   ·subst hy;rfl
   ·simp[scan,hy,sOut,bd_s]
  ·simp[scan,hx,sOut,bd_s]
 ·intro k z hz
  have hk:=(List.getElem?_eq_some_iff.1 hz).1
  simp only[jzp9]
  rw[it_d (by omega),at_e rfl hz]
  simp only[bd_s]
  by_cases h:z=0
  ·rw[qzk5 h,qz3 (by simp at hk;omega),if_pos h]
  ·rw[qzhj h,if_neg h]
 ·simp only[jzp9]
  rw[it_n (by omega)]
theorem jzr4(a b:jzn4):jzon a b=some (rcmp a b):=by
 unfold jzon
 rw[jzxe,jzxe]
 simp only[bd_s]
 rw[jzvz]
 simp only[bd_s]
 congr 1
 unfold rcmp rlt rsm
 by_cases h1:a.Gauge<b.Gauge
 ·simp[h1]
 ·by_cases h2:b.Gauge<a.Gauge
  ·simp[h1,h2,show ¬a.Gauge=b.Gauge by omega]
  ·have:a.Gauge=b.Gauge:=by omega
   by_cases h3:a.Seq<b.Seq
   ·simp[this,h3]
   ·by_cases h4:b.Seq<a.Seq
    ·simp[this,h3,h4,show ¬a.Seq=b.Seq by omega]
    ·simp[this,h3,h4,show a.Seq=b.Seq by omega]
theorem jzri{a b:jzn4}:rcmp a b<0↔rlt a b:=by
 unfold rcmp
 split
 ·simp[*]
 ·split<;>simp[*]
theorem jzxw{a b:jzn4}:rcmp a b=0↔rsm a b:=by
 unfold rcmp
 split
 ·rename_i h;simp[jzqr h]
 ·split<;>simp[*]
theorem jzsv{a b:jzn4}:0<rcmp a b↔rlt b a:=by
 unfold rcmp
 split
 ·rename_i h;simp[jztu h]
 ·split
  ·rename_i h;simp;exact fun k=>jzqr k h.symm
  ·rename_i h1 h2;simp;rcases jztc a b with h|h|h;exact absurd h h1;exact absurd h h2;exact h
def rchF(l:List jzn4)(k:Nat)(r:jzn4):Option Int:=if RR r∧(0<k→rlt (l.getD (k-1) default) r) then none else some 1
def rchE(l:List jzn4):Int:=if 4000<l.length then 2 else(scan (rchF l) 0 l).getD 0
theorem wzsi(l:List jzn4):jzn8 l=some (rchE l):=by
 unfold jzn8 rchE
 by_cases h0:4000<l.length
 ·rw[it_d (by omega),if_pos h0]
 rw[it_n (by omega),if_neg h0,wz3m (l:=l) (rchF l) (by omega) ?_ ?_]
 ·simp only[bd_s];exact wz5y
 ·intro k x hx
  have hk:=(List.getElem?_eq_some_iff.1 hx).1
  simp only[jzpn]
  rw[it_d (by omega),at_e rfl hx]
  simp only[bd_s]
  rw[jztj]
  simp only[bd_s,rchF]
  by_cases hr:RR x
  rotate_left
  ·simp only[hr,decide_false,Bool.not_false,Bool.not_true,Bool.false_and,Bool.true_or]
   rw[wzdp,wzcn]
   simp only[bd_s]
   rw[wzcn]
   simp only[bd_s,cond_true]
   rw[wzdh,if_neg (by simp)]
  simp only[hr,decide_true,Bool.not_true,Bool.not_false,Bool.true_and]
  by_cases hk0:k=0
  ·subst hk0
   simp only[Int.ofNat_zero,Int.natCast_zero,Int.lt_irrefl,decide_false,Bool.not_false,Bool.true_or,Int.lt_irrefl,false_implies,and_true,if_true]
   rw[wzdp,wzcn]
   simp only[bd_s]
   rw[wzcn]
   simp only[bd_s,cond_false]
   rw[qzil,qz3 (by omega)]
   rfl
  have hk1:0<k:=by omega
  rw[show decide ((0:Int)<(k:Int))=true by simp;omega]
  rw[ck_t (by simp[inB];omega),qzbx,wz9f hx hk1]
  simp only[bd_s]
  rw[qzbx,jzr4]
  simp only[bd_s,cond_false,cond_true]
  by_cases hl:rlt (l.getD (k-1) default) x
  ·rw[it_n (by have:=jzri.2 hl;omega),qz3 (by omega),if_pos (⟨trivial,fun _=>hl⟩)]
  ·rw[it_d (by have:=mt jzri.1 hl;omega),if_neg (fun h=>hl (h.2 hk1))]
 ·simp only[jzpn]
  rw[it_n (by omega)]
theorem jzp7{l:List jzn4}:rchE l=0↔l.length≤4000∧Bk l:=by
 unfold rchE
 by_cases h0:4000<l.length
 ·rw[if_pos h0]
  exact⟨fun h=>(by cases h),fun h=>by omega⟩
 rw[if_neg h0]
 constructor
 ·intro h
  refine⟨by omega,?_⟩
  cases hs:scan (rchF l) 0 l with
  |some o =>
   obtain⟨i,x,hx,hi,_⟩:=wz6q 0 l o hs
   rw[hs]at h
   simp only[Option.getD_some]at h
   unfold rchF at hi
   split at hi
   ·cases hi
   ·cases hi;cases h
  |none =>
   have hn:∀i x,l[i]?=some x→RR x∧(0<i→rlt (l.getD (i-1) default) x):=fun i x hx=>by
    have:=wz5l hs hx
    unfold rchF at this
    split at this
    ·assumption
    ·cases this
   refine⟨fun r hr=>?_,?_⟩
   ·obtain⟨i,hi,rfl⟩:=List.getElem_of_mem hr
    exact(hn i _ (List.getElem?_eq_getElem hi)).1
   ·have step:∀i,(hi:i+1<l.length)→rlt l[i] l[i+1]:=fun i hi=>by
     have:=(hn (i+1) _ (List.getElem?_eq_getElem hi)).2 (by omega)
     simpa [List.getD,show i<l.length by omega] using this
    unfold Asc
    rw[List.pairwise_iff_getElem]
    intro i j hi hj hij
    induction j with
    |zero=>omega
    |succ j ih =>
     by_cases e:i=j
     ·subst e;exact step i hj
     ·exact jzrg (ih (by omega) (by omega)) (step j hj)
 ·rintro⟨_,hb⟩
  rw[jzax]
  ·rfl
  ·intro i x hx
   obtain⟨hi,rfl⟩:=List.getElem?_eq_some_iff.1 hx
   unfold rchF
   rw[if_pos]
   refine⟨hb.right _ (List.getElem_mem _),fun h=>?_⟩
   have:=jzvh hb.asc (show i-1<l.length by omega) hi (by omega)
   simpa [List.getD,show i-1<l.length by omega] using this
theorem jzvi(a b:jzn4):jzo4 a b=some (decide (rrp a b)):=by
 unfold jzo4 rrp
 congr 1
 rw[Bool.eq_iff_iff]
 simp
 exact decide_eq_true_iff.symm
theorem jzxs{l:List jzn4}(hl:l.length≤4000)(ha:Asc l)(r:jzn4):∃k:Nat,∃b:Bool,jzox l r (fun a0 a1=>jzon a0 a1)=some ((k:Int),b)∧k≤l.length∧(∀i,(hi:i<l.length)→i<k→rlt l[i] r)∧(∀i,(hi:i<l.length)→k≤i→¬rlt l[i] r)∧(b=true↔∃h:k<l.length,rsm l[k] r):=by
 unfold jzox
 obtain⟨o,e,k,rfl,hk,h1,h2⟩:=vzf (s:=((0:Int),(l.length:Int))) (body:=jzp4 (fun a0 a1=>jzon a0 a1) r l)
  (fun s=>∃i j:Nat,s=((i:Int),(j:Int))∧i≤j∧j≤l.length∧(∀m,(hm:m<l.length)→m<i→rlt l[m] r)∧(∀m,(hm:m<l.length)→j≤m→¬rlt l[m] r)) (fun s=>(s.2-s.1).toNat)
  (fun o=>∃k:Nat,o=(k:Int)∧k≤l.length∧(∀m,(hm:m<l.length)→m<k→rlt l[m] r)∧(∀m,(hm:m<l.length)→k≤m→¬rlt l[m] r)) (by
  rintro s ⟨i,j,rfl,hij,hj,h1,h2⟩
  simp only[jzp4]
  by_cases h:i<j
  rotate_left
  ·right
   rw[it_n (by omega)]
   obtain rfl:i=j:=by omega
   exact⟨_,rfl,i,rfl,hj,h1,h2⟩
  left
  have hm:Int.fdiv (((i:Int)+j)%18446744073709551616) 2=(((i+j) / 2:Nat):Int):=by
   rw[Int.emod_eq_of_lt (by omega) (by omega),Int.fdiv_eq_ediv_of_nonneg _ (by decide)];omega
  rw[it_d (by omega),qz3 (by omega),hm,qz3 (by omega)]
  have hlt:(i+j) / 2<l.length:=by omega
  rw[at_e rfl (List.getElem?_eq_getElem hlt)]
  simp only[bd_s]
  rw[jzr4]
  simp only[bd_s]
  by_cases hc:rlt l[(i+j) / 2] r
  ·rw[it_d (jzri.2 hc),qz3 (by omega)]
   refine⟨_,rfl,⟨(i+j) / 2+1,j,by simp,by omega,hj,fun m hm hm2=>?_,h2⟩,by simp only;omega⟩
   by_cases e:m=(i+j) / 2
   ·subst e;exact hc
   ·exact jzrg (jzvh ha hm hlt (by omega)) hc
  ·rw[it_n (mt jzri.1 hc)]
   refine⟨_,rfl,⟨i,(i+j) / 2,rfl,by omega,by omega,h1,fun m hm hm2 hr=>?_⟩,by simp only;omega⟩
   by_cases e:m=(i+j) / 2
   ·subst e;exact hc hr
   ·exact hc (jzrg (jzvh ha hlt hm (by omega)) hr)) ⟨0,l.length,by simp,Nat.zero_le _,Nat.le_refl _,fun m hm h=>by omega,fun m hm h=>by omega⟩ (by simp;omega)
 rw[e]
 simp only[bd_s]
 by_cases hk2:k<l.length
 ·rw[show decide ((k:Int)<(l.length:Int))=true by simp;omega]
  simp only[qzbx,cond_true]
  rw[at_e rfl (List.getElem?_eq_getElem hk2)]
  simp only[bd_s]
  rw[jzr4]
  simp only[bd_s]
  exact⟨k,_,rfl,hk,h1,h2,by simp[hk2,jzxw]⟩
 ·rw[show decide ((k:Int)<(l.length:Int))=false by simp;omega]
  simp only[wzcn,cond_false,bd_s]
  exact⟨k,_,rfl,hk,h1,h2,by simp[hk2]⟩
structure jzx2(l m:List jzn4)(r:jzn4):Prop where
 asc:Asc m
 mem:∀y,y∈m↔y∈l∨y=r
 len:m.length=l.length+1
structure jzx0(l m:List jzn4)(r:jzn4):Prop where
 asc:Asc m
 mem:∀y,y∈m↔y=r∨y∈l∧¬rsm y r
 len:m.length=l.length
def RAcc(F:Option (List jzn4×Int))(l:List jzn4)(r:jzn4):Prop :=
 (∃x,x∈l∧rsm x r∧((¬rrp x r∧F=some ([],24))∨(rrp x r∧x.Known≤r.Known∧F=some ([],9))∨(rrp x r∧¬x.Known≤r.Known∧∃m,F=some (m,0)∧jzx0 l m r)))
  ∨ ((∀x,x∈l→¬rsm x r)∧((l.length=4000∧F=some ([],2))∨(l.length<4000∧∃m,F=some (m,0)∧jzx2 l m r)))
theorem jzyu{l:List jzn4}{r:jzn4}(h:rchE l≠0):jzot l r=some ([],rchE l):=by
 unfold jzot
 have e:jzp8 l r=some ([],rchE l):=by
  unfold jzp8
  rw[wzsi]
  simp only[bd_s]
  rw[qzhj h]
 rw[e]
theorem jzxm{l:List jzn4}{r:jzn4}(h:rchE l=0)(hr:¬RR r):jzot l r=some ([],1):=by
 unfold jzot
 have e:jzp8 l r=some ([],1):=by
  unfold jzp8
  rw[wzsi]
  simp only[bd_s]
  rw[qzk5 h,jztj]
  simp only[bd_s]
  rw[qzhj hr]
 rw[e]
theorem jzxu{l:List jzn4}{r:jzn4}(h:rchE l=0)(hr:RR r):RAcc (jzot l r) l r:=by
 obtain⟨hl,hb⟩:=jzp7.1 h
 obtain⟨k,b,ef,hk,h1,h2,h3⟩:=jzxs hl hb.asc r
 cases b
 ·have hn:∀x,x∈l→¬rsm x r:=fun x hx hs=>by
   obtain⟨i,hi,rfl⟩:=List.getElem_of_mem hx
   by_cases hik:i<k
   ·exact jzqr (h1 i hi hik) hs
   ·have hkl:k<l.length:=by omega
    have h4:=h2 k hkl (Nat.le_refl _)
    have h5:¬rsm l[k] r:=fun e=>by have:=h3.2 ⟨hkl,e⟩;cases this
    rcases jztc l[k] r with h|h|h
    ·exact h4 h
    ·exact h5 h
    ·by_cases e:i=k
     ·subst e;exact h5 hs
     ·exact jzpl (jzrg h (jzvh hb.asc hkl hi (by omega))) hs
  refine .inr ⟨hn,?_⟩
  by_cases h4:l.length=4000
  ·refine .inl ⟨h4,?_⟩
   unfold jzot
   have e:jzp8 l r=some ([],2):=by
    unfold jzp8
    rw[wzsi]
    simp only[bd_s]
    rw[qzk5 h,jztj]
    simp only[bd_s]
    rw[qzk5 hr,ef]
    simp only[bd_s,Bool.not_false,cond_true]
    rw[it_d (by omega)]
   rw[e]
  ·refine .inr ⟨by omega,insL l k r,?_,?_,fun y=>jzxq,jzxr⟩
   ·unfold jzot
    have e:jzp8 l r=none:=by
     unfold jzp8
     rw[wzsi]
     simp only[bd_s]
     rw[qzk5 h,jztj]
     simp only[bd_s]
     rw[qzk5 hr,ef]
     simp only[bd_s,Bool.not_false,cond_true]
     rw[it_n (by omega),wzdh]
    rw[e]
    unfold jzp6
    rw[wzsi,jztj,ef]
    simp only[bd_s]
    rw[ck_t (by simp[h,hr];omega)]
    rfl
   ·refine jzxo hb.asc h1 fun i hi hki=>?_
    have hkl:k<l.length:=by omega
    rcases jztc l[i] r with h|h|h
    ·exact absurd h (h2 i hi hki)
    ·exact absurd h (hn _ (List.getElem_mem _))
    ·exact h
 ·obtain⟨hkl,hs⟩:=h3.1 rfl
  refine .inl ⟨l[k],List.getElem_mem _,hs,?_⟩
  have he:∀z,(bd (at? l (k:Int)) fun x1=>bd (jzo4 x1 r) fun r5=>ite' (!r5) (some (([]:List jzn4),(24:Int))) (bd (at? l (k:Int)) fun x2=>ite' (decide (x2.Known≤r.Known)) (some ([],9)) (bd (vzi l) fun r6=>bd (at? r6 (k:Int)) fun x3=>some ((List.set r6 (Int.toNat (k:Int)) r),0))))=some z→jzot l r=some z:=fun z hz=>by
   unfold jzot
   have e:jzp8 l r=some z:=by
    unfold jzp8
    rw[wzsi]
    simp only[bd_s]
    rw[qzk5 h,jztj]
    simp only[bd_s]
    rw[qzk5 hr,ef]
    simp only[bd_s,Bool.not_true,cond_false]
    rw[qzil,qzil]
    exact hz
   rw[e]
  have ea:at? l (k:Int)=some l[k]:=at_e rfl (List.getElem?_eq_getElem hkl)
  rw[ea]at he
  simp only[bd_s]at he
  rw[jzvi]at he
  simp only[bd_s]at he
  by_cases hp:rrp l[k] r
  rotate_left
  ·exact .inl ⟨hp,he _ (by rw[qzhj hp])⟩
  rw[qzk5 hp]at he
  by_cases hq:l[k].Known≤r.Known
  ·exact .inr (.inl ⟨hp,hq,he _ (by rw[it_d hq])⟩)
  rw[it_n hq]at he
  refine .inr (.inr ⟨hp,hq,l.set k r,he _ ?_,jzxv hb.asc hkl hs,fun y=>jzxx hb.asc hkl hs,List.length_set⟩)
  unfold vzi
  rw[ck_t (by simp<;>omega)]
  simp only[bd_s]
  rw[ea]
  simp only[bd_s,Int.toNat_natCast]
theorem jzru{α:Type}{e:α}{E:List α}:sub (e :: E) 1 ((e :: E).length:Int)=E:=by
 unfold sub
 simp
theorem jzuc:∀(n:Nat) (a b out:List jzn4),a.length+b.length≤n→out.length+n≤10000 →
  ∃o,lp jzow (a,b,out)=some o∧match mrg a b with
   |none=>o=.inr ([],24)
   |some l=>∃a' b' out',o=.inl (a',b',out')∧out'++a'++b'=out++l:=by
 intro n a b out hn ho
 obtain⟨o,e,ho⟩:=vzf (s:=(a,b,out)) (body:=jzow)
  (fun s=>s.2.2.length+s.1.length+s.2.1.length≤10000∧(match mrg a b,mrg s.1 s.2.1 with | none,none=>True | some l,some m=>out++l=s.2.2++m | _,_=>False)) (fun s=>s.1.length+s.2.1.length)
  (fun o=>match mrg a b with
   |none=>o=.inr ([],24)
   |some l=>∃a' b' out',o=.inl (a',b',out')∧out'++a'++b'=out++l) (by
  rintro⟨x,y,z⟩ ⟨hz,hI⟩
  simp only at hz hI
  match x,y with
  |[],y =>
   right
   simp only[jzow]
   rw[it_f (by simp)]
   refine⟨_,rfl,?_⟩
   rw[mrg]at hI
   cases h:mrg a b with
   |none=>rw[h]at hI;exact hI.elim
   |some l=>rw[h]at hI;exact⟨[],y,z,rfl,by simpa using hI.symm⟩
  |p :: x,[] =>
   right
   simp only[jzow]
   rw[it_f (by simp)]
   refine⟨_,rfl,?_⟩
   rw[mrg]at hI
   cases h:mrg a b with
   |none=>rw[h]at hI;exact hI.elim
   |some l=>rw[h]at hI;exact⟨p :: x,[],z,rfl,by simpa using hI.symm⟩
  |p :: x,q :: y =>
   simp only[List.length_cons]at hz
   simp only[jzow]
   rw[it_t (by simp),show at? (p :: x) 0=some p from id rfl,show at? (q :: y) 0=some q from id rfl]
   simp only[bd_s]
   rw[jzr4]
   simp only[bd_s]
   rw[mrg]at hI
   by_cases h1:rlt p q
   ·rw[it_d (jzri.2 h1),ck_d (by simp<;>omega),qzhn (by simp<;>omega),jzru]
    left
    refine⟨_,rfl,⟨by simp<;>omega,?_⟩,by simp<;>omega⟩
    rw[if_pos h1]at hI
    dsimp only
    cases hm:mrg x (q :: y) with
    |none =>
     rw[hm]at hI
     cases h:mrg a b with
     |none=>trivial
     |some l=>rw[h]at hI;exact hI.elim
    |some m =>
     rw[hm]at hI
     cases h:mrg a b with
     |none=>rw[h]at hI;exact hI.elim
     |some l=>rw[h]at hI;simpa using hI
   rw[it_n (mt jzri.1 h1)]
   rw[if_neg h1]at hI
   by_cases h2:rlt q p
   ·rw[it_d (jzsv.2 h2),ck_d (by simp<;>omega),qzhn (by simp<;>omega),jzru]
    left
    refine⟨_,rfl,⟨by simp<;>omega,?_⟩,by simp⟩
    rw[if_pos h2]at hI
    dsimp only
    cases hm:mrg (p :: x) y with
    |none =>
     rw[hm]at hI
     cases h:mrg a b with
     |none=>trivial
     |some l=>rw[h]at hI;exact hI.elim
    |some m =>
     rw[hm]at hI
     cases h:mrg a b with
     |none=>rw[h]at hI;exact hI.elim
     |some l=>rw[h]at hI;simpa using hI
   rw[it_n (mt jzsv.1 h2),jzvi]
   rw[if_neg h2]at hI
   simp only[bd_s]
   by_cases h3:rrp p q
   ·rw[qzk5 h3,ck_d (by simp<;>omega),qzhn (by simp<;>omega),qzhn (by simp<;>omega),jzru,jzru]
    left
    refine⟨_,rfl,⟨by simp<;>omega,?_⟩,by simp<;>omega⟩
    rw[if_pos h3]at hI
    dsimp only
    cases hm:mrg x y with
    |none =>
     rw[hm]at hI
     cases h:mrg a b with
     |none=>trivial
     |some l=>rw[h]at hI;exact hI.elim
    |some m =>
     rw[hm]at hI
     cases h:mrg a b with
     |none=>rw[h]at hI;exact hI.elim
     |some l=>rw[h]at hI;simpa using hI
   ·rw[qzhj h3]
    right
    refine⟨_,rfl,?_⟩
    rw[if_neg h3]at hI
    cases h:mrg a b with
    |none=>rfl
    | some l=>rw[h]at hI;exact hI.elim) ⟨by dsimp only;omega,by dsimp only;cases mrg a b<;>simp⟩ (by dsimp only;omega)
 exact⟨o,e,ho⟩
def mrgE(a b:List jzn4):List jzn4×Int:=if rchE a≠0 then([],rchE a) else if rchE b≠0 then([],rchE b) else match mrg a b with
 |none=>([],24)
 |some l=>if 4000<l.length then([],2) else(l,0)
theorem jzpp(a b:List jzn4):jzoc a b=some (mrgE a b):=by
 unfold jzoc mrgE
 rw[wz3m (l:=[a,b]) (fun _ z=>if rchE z≠0 then some (([]:List jzn4),rchE z) else none) (by simp) ?_ ?_]
 ·by_cases h1:rchE a≠0
  ·simp only[scan,if_pos h1,sOut,bd_s]
  by_cases h2:rchE b≠0
  ·simp only[scan,if_pos h2,if_neg h1,sOut,bd_s]
  simp only[scan,if_neg h2,if_neg h1,sOut,bd_s]
  obtain⟨ha,_⟩:=jzp7.1 (Decidable.not_not.1 h1)
  obtain⟨hb,_⟩:=jzp7.1 (Decidable.not_not.1 h2)
  obtain⟨o,e,ho⟩:=jzuc (a.length+b.length) a b [] (Nat.le_refl _) (by simp<;>omega)
  rw[e]
  simp only[bd_s]
  cases hm:mrg a b with
  |none=>rw[hm]at ho;subst ho;rfl
  |some l =>
   rw[hm]at ho
   obtain⟨a',b',out',rfl,ho⟩:=ho
   rw[List.nil_append]at ho
   have hlen:=jzpr _ a b l (Nat.le_refl _) hm
   have h5:(out'++a').length≤l.length:=by rw[←ho];simp
   simp only
   rw[ck_d (by omega),ho,ck_d (by omega)]
   by_cases h:4000<l.length
   ·rw[it_d (by omega),if_pos h]
   ·rw[it_n (by omega),if_neg h]
 ·intro k z hz
  have hk:=(List.getElem?_eq_some_iff.1 hz).1
  simp only[jzpo]
  rw[it_d (by omega),at_e rfl hz]
  simp only[bd_s]
  rw[wzsi]
  simp only[bd_s]
  by_cases h:rchE z=0
  ·rw[qzk5 h,qz3 (by simp at hk;omega),if_neg (by simp[h])]
  ·rw[qzhj h,if_pos h]
 ·simp only[jzpo]
  rw[it_n (by simp)]
theorem jzro{a b:List jzn4}(hl:a.length≤1000000):jzo7 a b=some (decide (a=b)):=by
 unfold jzo7
 by_cases hn:a.length=b.length
 rotate_left
 ·rw[qzhj (by omega),decide_eq_false fun e=>hn (by rw[e])]
 rw[qzk5 (by omega),wz3m (l:=a) (fun k x=>if x=b.getD k default then none else some false) (by omega) ?_ ?_]
 ·cases hs:scan (fun k x=>if x=b.getD k default then none else some false) 0 a with
  |none =>
   have:a=b:=by
    refine List.ext_getElem hn fun i h1 h2=>?_
    have:=wz5l hs (List.getElem?_eq_getElem h1)
    split at this
    ·rename_i h;rw[h];simp[List.getD,h2]
    ·cases this
   subst this
   simp[sOut,bd_s]
  |some o =>
   obtain⟨i,x,hx,hi,_⟩:=wz6q 0 a o hs
   split at hi
   ·cases hi
   ·rename_i h
    cases hi
    rw[decide_eq_false]
    ·simp[sOut,bd_s]
    ·rintro rfl
     apply h
     rw[Nat.zero_add,List.getD,hx];rfl
 ·intro k x hx
  have hk:=(List.getElem?_eq_some_iff.1 hx).1
  simp only[jzpy]
  have hb:b[k]?=some (b.getD k default):=by simp[List.getD,show k<b.length by omega]
  rw[it_d (by omega),at_e rfl hx,at_e rfl hb]
  simp only[bd_s]
  have he:(decide (x.Gauge=(b.getD k default).Gauge)&&(decide (x.Seq=(b.getD k default).Seq)&&(decide (x.From=(b.getD k default).From)&&(decide (x.To=(b.getD k default).To)&&(decide (x.Stage=(b.getD k default).Stage)&&(decide (x.Known=(b.getD k default).Known)&&true))))))=decide (x=b.getD k default):=by
   generalize b.getD k default=y
   cases x;cases y
   rw[Bool.eq_iff_iff]
   simp
  rw[he]
  by_cases h:x=b.getD k default
  ·rw[qzk5 h,qz3 (by omega),if_pos h]
  ·rw[qzhj h,if_neg h]
 ·simp only[jzpy]
  rw[it_n (by omega)]
theorem jzxl{α:Type}[DecidableEq α]:∀(m L:List α),m.Nodup→(∀x,x∈m→x∈L)→m.length≤L.length
 |[],_,_,_=>Nat.zero_le _
 |x :: m,L,h,hs=>by
  obtain⟨h1,h2⟩:=List.nodup_cons.1 h
  have hx:=hs x (List.mem_cons_self ..)
  have:=jzxl m (L.erase x) h2 fun y hy=>by
   refine(List.mem_erase_of_ne fun e=>?_).2 (hs y (List.mem_cons_of_mem _ hy))
   subst e;exact h1 hy
  rw[List.length_erase_of_mem hx]at this
  have:=List.length_pos_of_mem hx
  simp only[List.length_cons];omega
theorem jzxj{L m:List jzn4}(h:IsBk L m):m.length≤L.length:=by
 have hd:m.Nodup:=by
  refine h.asc.imp fun {a b} e=>?_
  intro k;subst k;exact jzts e
 have hs:∀x,x∈m→x∈L:=fun x hx=>((h.mem x).1 hx).1
 exact jzxl _ _ hd hs
theorem jztb{l:List jzn4}(h:rchE l=0):Bk l:=(jzp7.1 h).2
theorem jzp2{a b:List jzn4}(ha:rchE a=0)(hb:rchE b=0)(hn:a.length+b.length≤4000):mrgE a b=match mrg a b with
  |none=>([],24)
  |some l=>(l,0):=by
 unfold mrgE
 rw[if_neg (by simp[ha]),if_neg (by simp[hb])]
 cases h:mrg a b with
 |none=>rfl
 |some l =>
  have:=jzpr _ a b l (Nat.le_refl _) h
  simp only
  rw[if_neg (by omega)]
theorem jzqt{a b:List jzn4}(ha:Bk a)(hb:Bk b):mrg a b≠none↔RCon (a++b):=by
 rw[Ne,jzqz _ a b (Nat.le_refl _) ha.asc hb.asc]
 constructor
 ·intro h
  have h:∀x y,x∈a→y∈b→rsm x y→rrp x y:=fun x y hx hy e=>Decidable.byContradiction fun k=>h ⟨x,y,hx,hy,e,k⟩
  refine⟨fun r hr=>?_,fun x y hx hy e=>?_⟩
  ·rcases List.mem_append.1 hr with p|p
   ·exact ha.right r p
   ·exact hb.right r p
  ·rcases List.mem_append.1 hx with p|p<;>rcases List.mem_append.1 hy with q|q
   ·exact ha.con.rep x y p q e
   ·exact h x y p q e
   ·exact(h y x q p e.symm).symm
   ·exact hb.con.rep x y p q e
 ·rintro c ⟨x,y,hx,hy,e,k⟩
  exact k (c.rep x y (List.mem_append.2 (.inl hx)) (List.mem_append.2 (.inr hy)) e)
theorem jzp5{a b l:List jzn4}(ha:Bk a)(hb:Bk b)(h:mrg a b=some l):IsBk (a++b) l∧RCon (a++b)∧Bk l:=by
 obtain⟨h1,h2⟩:=jzq1 _ a b l (Nat.le_refl _) ha.asc hb.asc h
 have hc:=(jzqt ha hb).1 (by rw[h];simp)
 exact⟨⟨h1,h2⟩,hc,IsBk.bk ⟨h1,h2⟩ hc⟩
theorem jzym(r:jzn4):jzx6 r=some (decide (RR r)):=by
 unfold jzx6
 congr 1
 simp only[Bool.cond_false_right]
 rw[Bool.eq_iff_iff,decide_eq_true_iff]
 unfold RR
 simp only[Bool.and_eq_true,decide_eq_true_eq]
 omega
theorem jzyo(a b:jzn4):jzya a b=some (decide (rlt a b)):=by
 unfold jzya rlt
 congr 1
 rw[Bool.eq_iff_iff]
 by_cases h1:a.Gauge<b.Gauge
 ·simp[h1]
 ·by_cases h2:a.Gauge=b.Gauge<;>simp[h1,h2]
theorem jzyt(a b:jzn4):jzx7 a b=some (decide (rrp a b)):=by
 unfold jzx7
 congr 1
 simp only[Bool.cond_false_right]
 rw[Bool.eq_iff_iff,decide_eq_true_iff]
 unfold rrp
 simp only[Bool.and_eq_true,decide_eq_true_eq]
 constructor
 ·rintro⟨⟨⟨⟨h1,h2⟩,h3⟩,h4⟩,h5⟩;exact⟨h1,h2,h3,h4,h5⟩
 ·rintro⟨h1,h2,h3,h4,h5⟩;exact⟨⟨⟨⟨h1,h2⟩,h3⟩,h4⟩,h5⟩
theorem jzx8(l:List jzn4):jzx5 l=some (rchE l):=by
 unfold jzx5 rchE
 by_cases h0:4000<l.length
 ·rw[it_d (by omega),if_pos h0]
 rw[it_n (by omega),if_neg h0,wz3m (l:=l) (rchF l) (by omega) ?_ ?_]
 ·simp only[bd_s];exact wz5y
 ·intro k x hx
  have hk:=(List.getElem?_eq_some_iff.1 hx).1
  simp only[jzyi]
  rw[it_d (by omega),at_e rfl hx]
  simp only[bd_s]
  rw[jzym]
  simp only[bd_s,rchF]
  by_cases hk0:k=0
  ·subst hk0
   rw[show decide (((0:Nat):Int)=0)=true by simp]
   simp only[Bool.not_true,Bool.not_false,Bool.true_or,wzcn,bd_s,cond_true,cond_false]
   rw[wzdp]
   by_cases hr:RR x
   ·rw[it_f (by simp[hr]),qz3 (by omega),if_pos ⟨hr,fun h=>by omega⟩]
   ·rw[it_t (by simp[hr]),if_neg (fun h=>hr h.1)]
  have hk1:0<k:=by omega
  rw[show decide ((k:Int)=0)=false by simp;omega]
  simp only[Bool.not_true,Bool.not_false,Bool.false_or,qzbx,cond_false]
  rw[qz3 (by omega),show max 0 ((k:Int)-1)=(k:Int)-1 by omega,wz9f hx hk1]
  simp only[bd_s]
  rw[jzyo]
  simp only[bd_s]
  by_cases hr:RR x
  ·by_cases hl:rlt (l.getD (k-1) default) x
   ·rw[it_f (by rw[decide_eq_true hr,decide_eq_true hl];rfl),qz3 (by omega),if_pos ⟨hr,fun _=>hl⟩]
   ·rw[it_t (by rw[decide_eq_true hr,decide_eq_false hl];rfl),if_neg (fun h=>hl (h.2 hk1))]
  ·rw[it_t (by simp[hr]),if_neg (fun h=>hr h.1)]
 ·simp only[jzyi]
  rw[it_n (by omega)]
theorem jzyp{l:List jzn4}(hl:l.length≤1000000)(r:jzn4):(jzx9 l r=some (-1)∧∀x,x∈l→¬rsm x r)∨∃k,∃h:k<l.length,jzx9 l r=some (k:Int)∧rsm l[k] r:=by
 unfold jzx9
 rw[wz3m (l:=l) (fun k x=>if rsm x r then some (k:Int) else none) (by omega) ?_ ?_]
 ·cases hs:scan (fun k x=>if rsm x r then some (k:Int) else none) 0 l with
  |none =>
   left
   refine⟨rfl,fun x hx e=>?_⟩
   obtain⟨i,hi,rfl⟩:=List.getElem_of_mem hx
   have:=wz5l hs (List.getElem?_eq_getElem hi)
   rw[if_pos e]at this;cases this
  |some o =>
   right
   obtain⟨i,x,hx,hi,_⟩:=wz6q 0 l o hs
   obtain⟨hil,rfl⟩:=List.getElem?_eq_some_iff.1 hx
   split at hi
   ·rename_i e
    cases hi
    exact⟨i,hil,by simp[sOut,bd_s],e⟩
   ·cases hi
 ·intro k x hx
  have hk:=(List.getElem?_eq_some_iff.1 hx).1
  simp only[jzyk]
  rw[it_d (by omega),at_e rfl hx]
  simp only[bd_s]
  by_cases h:x.Gauge=r.Gauge
  ·simp only[h,decide_true,qzbx,bd_s,cond_true]
   by_cases h2:x.Seq=r.Seq
   ·rw[it_d h2,if_pos ⟨h,h2⟩]
   ·rw[it_n h2,qz3 (by omega),if_neg (fun e=>h2 e.2)]
  ·simp only[h,decide_false,wzcn,bd_s,cond_false]
   rw[qzil,qz3 (by omega),if_neg (fun e=>h e.1)]
 ·simp only[jzyk]
  rw[it_n (by omega)]
theorem jzy6{l:List jzn4}{r:jzn4}{F G:Option (List jzn4×Int)}(h:Asc l)(hF:RAcc F l r)(hG:RAcc G l r):F=G:=by
 rcases hF with ⟨x,hx,hs,a⟩|⟨hn,a⟩<;>rcases hG with ⟨y,hy,ht,b⟩|⟨hm,b⟩
 ·obtain rfl:=h.one hx hy (hs.trans ht.symm)
  rcases a with ⟨p,e⟩|⟨p,q,e⟩|⟨p,q,m,e,hm⟩<;>rcases b with ⟨p',e'⟩|⟨p',q',e'⟩|⟨p',q',m',e',hm'⟩<;>first|exact absurd ‹rrp x r› ‹¬rrp x r›|exact absurd ‹x.Known≤r.Known› ‹¬x.Known≤r.Known›|(rw[e,e'];done)|skip
  rw[e,e',jzsw hm.asc hm'.asc fun z=>(hm.mem z).trans (hm'.mem z).symm]
 ·exact absurd hs (hm x hx)
 ·exact absurd ht (hn y hy)
 ·rcases a with ⟨p,e⟩|⟨p,m,e,hm⟩<;>rcases b with ⟨p',e'⟩|⟨p',m',e',hm'⟩
  ·rw[e,e']
  ·omega
  ·omega
  ·rw[e,e',jzsw hm.asc hm'.asc fun z=>(hm.mem z).trans (hm'.mem z).symm]
def bkP(b:jzoi):List jzn4×Int:=(b.L,b.E)
theorem jzy2{l:List jzn4}{r:jzn4}(h:rchE l≠0):jzx3 l r=some ⟨[],rchE l⟩:=by
 unfold jzx3
 rw[jzx8]
 simp only[bd_s]
 rw[qzhj h]
theorem jzy1{l:List jzn4}{r:jzn4}(h:rchE l=0)(hr:¬RR r):jzx3 l r=some ⟨[],1⟩:=by
 unfold jzx3
 rw[jzx8]
 simp only[bd_s]
 rw[qzk5 h,jzym]
 simp only[bd_s]
 rw[qzhj hr]
theorem jzys{l:List jzn4}{r:jzn4}(h:rchE l=0)(hr:RR r):∃b,jzx3 l r=some b∧RAcc (some (bkP b)) l r:=by
 obtain⟨hl,hb⟩:=jzp7.1 h
 unfold jzx3
 rw[jzx8]
 simp only[bd_s]
 rw[qzk5 h,jzym]
 simp only[bd_s]
 rw[qzk5 hr]
 rcases jzyp (l:=l) (by omega) r with ⟨e,hn⟩|⟨k,hk,e,hs⟩
 ·rw[e]
  simp only[bd_s]
  rw[it_n (by decide)]
  by_cases h4:l.length=4000
  ·rw[it_d (by omega)]
   exact⟨_,rfl,.inr ⟨hn,.inl ⟨h4,rfl⟩⟩⟩
  rw[it_n (by omega)]
  obtain⟨o,e2,d,out,rfl,h1,h2,h3,h5⟩:=vzf (s:=(false,(0:Int),([]:List jzn4))) (body:=jzye l r)
   (fun s=>∃k:Nat,∃d out,s=(d,(k:Int),out)∧k≤l.length∧Asc out∧(∀x,x∈out↔(x=r∧d=true)∨x∈l.take k)∧(d=false→∀x,x∈l.take k→rlt x r)∧(d=true→∀x,x∈l.drop k→rlt r x)∧out.length=k+d.toNat) (fun s=>(l.length-s.2.1).toNat)
   (fun o=>∃d out,o=(d,out)∧Asc out∧(∀x,x∈out↔(x=r∧d=true)∨x∈l)∧(d=false→∀x,x∈l→rlt x r)∧out.length=l.length+d.toNat) (by
   rintro s ⟨k,d,out,rfl,hk,h1,h2,h3,h4,h5⟩
   simp only[jzye]
   by_cases hlt:k<l.length
   rotate_left
   ·right
    rw[it_n (by omega)]
    rw[List.take_of_length_le (by omega)]at h2 h3
    exact⟨_,rfl,d,out,rfl,h1,h2,h3,by omega⟩
   left
   have hx:=List.getElem?_eq_getElem hlt
   have htk:l.take (k+1)=l.take k++[l[k]]:=jzlb hx
   have hdk:l.drop k=l[k] :: l.drop (k+1):=List.drop_eq_getElem_cons hlt
   have hlo:∀x,x∈l.take k→rlt x l[k]:=fun x hx=>by
    obtain⟨i,hi,rfl⟩:=List.getElem_of_mem hx
    rw[List.length_take]at hi
    rw[List.getElem_take]
    exact jzvh hb.asc (by omega) hlt (by omega)
   have hhi:∀x,x∈l.drop (k+1)→rlt l[k] x:=fun x hx=>by
    obtain⟨i,hi,rfl⟩:=List.getElem_of_mem hx
    rw[List.length_drop]at hi
    rw[List.getElem_drop]
    exact jzvh hb.asc hlt (by omega) (by omega)
   have hny:=hn l[k] (List.getElem_mem _)
   generalize l[k]=y at *
   have hat:at? l (k:Int)=some y:=at_e rfl hx
   rw[it_d (by omega),hat]
   simp only[bd_s]
   rw[jzyo]
   simp only[bd_s]
   have step:∀d' out',Asc out'→(∀x,x∈out'↔(x=r∧d'=true)∨x∈l.take k)→(d'=false→rlt y r∧∀x,x∈l.take k→rlt x r)→(d'=true→rlt r y)→out'.length=k+d'.toNat →
     ∃k':Nat,∃d out,((d',((k:Int)+1),(out'++[y])):Bool×Int×List jzn4)=(d,(k':Int),out)∧k'≤l.length∧Asc out∧(∀x,x∈out↔(x=r∧d=true)∨x∈l.take k')∧(d=false→∀x,x∈l.take k'→rlt x r)∧(d=true→∀x,x∈l.drop k'→rlt r x)∧out.length=k'+d.toNat:=by
    intro d' out' g1 g2 g3 g4 g5
    refine⟨k+1,d',_,rfl,hlt,?_,fun x=>?_,fun e x hx=>?_,fun e x hx=>jzrg (g4 e) (hhi x hx),by simp;omega⟩
    ·refine List.pairwise_append.2 ⟨g1,List.pairwise_singleton _ _,fun a ha b hb=>?_⟩
     rw[List.mem_singleton.1 hb]
     rcases(g2 a).1 ha with ⟨e,e'⟩|e
     ·rw[e];exact g4 e'
     ·exact hlo a e
    ·rw[List.mem_append,g2,htk,List.mem_append,or_assoc]
    ·rw[htk]at hx
     rcases List.mem_append.1 hx with hx|hx
     ·exact(g3 e).2 x hx
     ·rw[List.mem_singleton.1 hx];exact(g3 e).1
   have hol:out.length≤k+1:=by cases d<;>simp at h5<;>omega
   cases d with
   |true =>
    rw[it_f (by simp)]
    simp only[bd_s]
    rw[ck_d (by simp;omega),qz3 (by omega)]
    exact⟨_,rfl,step true out h1 h2 (fun e=>by cases e) (fun e=>h4 e y (by rw[hdk];exact List.mem_cons_self ..)) h5,by simp only;omega⟩
   |false =>
    have h5':out.length=k:=by simpa using h5
    by_cases hc:rlt r y
    ·rw[it_t (by simp[hc]),ck_d (by simp;omega)]
     simp only[bd_s]
     rw[ck_d (by simp;omega),qz3 (by omega)]
     refine⟨_,rfl,step true (out++[r]) ?_ (fun x=>?_) (fun e=>by cases e) (fun _=>hc) (by simp;omega),by simp only;omega⟩
     ·refine List.pairwise_append.2 ⟨h1,List.pairwise_singleton _ _,fun a ha b hb=>?_⟩
      rw[List.mem_singleton.1 hb]
      rcases(h2 a).1 ha with ⟨_,e⟩|e
      ·cases e
      ·exact h3 rfl a e
     ·rw[List.mem_append,h2,List.mem_singleton]
      constructor
      ·rintro((⟨_,e⟩|e)|e)
       ·cases e
       ·exact .inr e
       ·exact .inl ⟨e,rfl⟩
      ·rintro(⟨e,_⟩|e)
       ·exact .inr e
       ·exact .inl (.inr e)
    ·rw[it_f (by simp[hc])]
     simp only[bd_s]
     rw[ck_d (by simp;omega),qz3 (by omega)]
     refine⟨_,rfl,step false out h1 h2 (fun _=>⟨?_,h3 rfl⟩) (fun e=>by cases e) h5,by simp only;omega⟩
     rcases jztc y r with h|h|h
     ·exact h
     ·exact absurd h hny
     ·exact absurd h hc) ⟨0,false,[],rfl,Nat.zero_le _,List.Pairwise.nil,fun x=>by simp,fun _ x hx=>by simp at hx,fun e=>(by cases e),by simp⟩ (by simp only;omega)
  rw[e2]
  simp only[bd_s]
  cases d with
  |true =>
   rw[it_f (by rfl)]
   refine⟨_,rfl,.inr ⟨hn,.inr ⟨by omega,out,rfl,h1,fun y=>?_,by simpa using h5⟩⟩⟩
   rw[h2]
   constructor
   ·rintro(⟨e,_⟩|e)
    ·exact .inr e
    ·exact .inl e
   ·rintro(e|e)
    ·exact .inr e
    ·exact .inl ⟨e,rfl⟩
  |false =>
   have h5':out.length=l.length:=by simpa using h5
   rw[it_t (by rfl),ck_d (by simp;omega)]
   refine⟨_,rfl,.inr ⟨hn,.inr ⟨by omega,out++[r],rfl,?_,fun y=>?_,by simp;omega⟩⟩⟩
   ·refine List.pairwise_append.2 ⟨h1,List.pairwise_singleton _ _,fun a ha b hb=>?_⟩
    rw[List.mem_singleton.1 hb]
    rcases(h2 a).1 ha with ⟨_,e⟩|e
    ·cases e
    ·exact h3 rfl a e
   ·rw[List.mem_append,h2,List.mem_singleton]
    constructor
    ·rintro((⟨_,e⟩|e)|e)
     ·cases e
     ·exact .inl e
     ·exact .inr e
    ·rintro(e|e)
     ·exact .inl (.inr e)
     ·exact .inr e
 ·rw[e]
  have ea:at? l (k:Int)=some l[k]:=at_e rfl (List.getElem?_eq_getElem hk)
  simp only[bd_s]
  rw[it_d (by omega),ea]
  simp only[bd_s]
  rw[jzyt]
  simp only[bd_s]
  by_cases hp:rrp l[k] r
  rotate_left
  ·rw[decide_eq_false hp]
   simp only[wzcn,bd_s,cond_false,Bool.not_false]
   rw[qzil,wzdh]
   exact⟨_,rfl,.inl ⟨l[k],List.getElem_mem _,hs,.inl ⟨hp,rfl⟩⟩⟩
  rw[decide_eq_true hp]
  simp only[qzbx,bd_s,cond_true,Bool.not_true]
  by_cases hq:l[k].Known≤r.Known
  ·rw[it_d hq]
   exact⟨_,rfl,.inl ⟨l[k],List.getElem_mem _,hs,.inr (.inl ⟨hp,hq,rfl⟩)⟩⟩
  rw[it_n hq,qzil,List.nil_append,ck_d (by omega),ea]
  simp only[bd_s,Int.toNat_natCast]
  exact⟨_,rfl,.inl ⟨l[k],List.getElem_mem _,hs,.inr (.inr ⟨hp,hq,_,rfl,jzxv hb.asc hk hs,fun y=>jzxx hb.asc hk hs,List.length_set⟩)⟩⟩
theorem jzza(l:List jzn4)(r:jzn4):∃b,jzx3 l r=some b∧jzot l r=some (bkP b):=by
 by_cases h:rchE l=0
 rotate_left
 ·exact⟨_,jzy2 h,jzyu h⟩
 by_cases hr:RR r
 ·obtain⟨b,e,hb⟩:=jzys h hr
  exact⟨b,e,jzy6 (jztb h).asc (jzxu h hr) hb⟩
 ·exact⟨_,jzy1 h hr,jzxm h hr⟩
theorem jzy4{a b:List jzn4}(h:rchE a≠0∨rchE b≠0∨a.length+b.length≤4000):∃x,jzyg a b=some x∧mrgE a b=bkP x:=by
 unfold jzyg
 rw[jzx8]
 simp only[bd_s]
 by_cases ha:rchE a=0
 rotate_left
 ·rw[qzhj ha]
  exact⟨_,rfl,by unfold mrgE;rw[if_pos ha];rfl⟩
 rw[qzk5 ha,jzx8]
 simp only[bd_s]
 by_cases hb:rchE b=0
 rotate_left
 ·rw[qzhj hb]
  exact⟨_,rfl,by unfold mrgE;rw[if_neg (by simp[ha]),if_pos hb];rfl⟩
 rw[qzk5 hb]
 have hn:a.length+b.length≤4000:=by
  rcases h with h|h|h
  ·exact absurd ha h
  ·exact absurd hb h
  ·exact h
 have A:=jztb ha
 have B:=jztb hb
 obtain⟨o,e,ho⟩:=vzf (s:=((0:Int),(0:Int))) (body:=jzyj a b)
  (fun s=>∃k m:Nat,s=((m:Int),(k:Int))∧k≤b.length∧m≤k∧∀x y,x∈a→y∈b.take k→rsm x y→rrp x y) (fun s=>(b.length-s.2).toNat)
  (fun o=>(RCon (a++b)∧∃m:Nat,o=.inl (m:Int)∧m≤b.length)∨(¬RCon (a++b)∧o=.inr ⟨[],24⟩)) (by
  rintro s ⟨k,m,rfl,hk,hm,hc⟩
  simp only[jzyj]
  by_cases hlt:k<b.length
  rotate_left
  ·right
   rw[it_n (by omega)]
   rw[List.take_of_length_le (by omega)]at hc
   refine⟨_,rfl,.inl ⟨?_,m,rfl,by omega⟩⟩
   refine(jzqt A B).1 fun e=>?_
   obtain⟨x,y,hx,hy,hs,hr⟩:=(jzqz _ a b (Nat.le_refl _) A.asc B.asc).1 e
   exact hr (hc x y hx hy hs)
  have hx:=List.getElem?_eq_getElem hlt
  have htk:b.take (k+1)=b.take k++[b[k]]:=jzlb hx
  rw[it_d (by omega),at_e rfl hx]
  simp only[bd_s]
  rcases jzyp (l:=a) (by omega) b[k] with ⟨e,hn⟩|⟨i,hi,e,hs⟩
  ·rw[e]
   simp only[bd_s]
   rw[it_d (by decide),qz3 (by omega)]
   simp only[bd_s]
   rw[qz3 (by omega)]
   refine .inl ⟨_,rfl,⟨k+1,m+1,by simp,hlt,by omega,fun x y hx hy e=>?_⟩,by simp only;omega⟩
   rw[htk]at hy
   rcases List.mem_append.1 hy with p|p
   ·exact hc x y hx p e
   ·rw[List.mem_singleton.1 p]at e;exact absurd e (hn x hx)
  ·rw[e]
   simp only[bd_s]
   rw[it_n (by omega)]
   simp only[bd_s]
   rw[at_e rfl (List.getElem?_eq_getElem hi)]
   simp only[bd_s]
   rw[jzyt]
   simp only[bd_s]
   by_cases hr:rrp a[i] b[k]
   ·rw[qzk5 hr,qz3 (by omega)]
    refine .inl ⟨_,rfl,⟨k+1,m,by simp,hlt,by omega,fun x y hx hy e=>?_⟩,by simp only;omega⟩
    rw[htk]at hy
    rcases List.mem_append.1 hy with p|p
    ·exact hc x y hx p e
    ·rw[List.mem_singleton.1 p]at e ⊢
     rw[A.asc.one hx (List.getElem_mem hi) (e.trans hs.symm)]
     exact hr
   ·rw[qzhj hr]
    refine .inr ⟨_,rfl,.inr ⟨fun c=>hr (c.rep _ _ (List.mem_append.2 (.inl (List.getElem_mem _))) (List.mem_append.2 (.inr (List.getElem_mem _))) hs),rfl⟩⟩) ⟨0,0,rfl,Nat.zero_le _,Nat.le_refl _,fun x y _ hy=>by simp at hy⟩ (by simp only;omega)
 rw[e]
 simp only[bd_s]
 rw[jzp2 ha hb hn]
 rcases ho with ⟨hc,m,rfl,hm⟩|⟨hc,rfl⟩
 rotate_left
 ·refine⟨_,rfl,?_⟩
  cases hmr:mrg a b with
  |none=>rfl
  |some l=>exact absurd (jzp5 A B hmr).2.1 hc
 simp only
 rw[qz3 (by omega),it_n (by omega)]
 obtain⟨o,e2,out,rfl,hout⟩:=vzf (s:=(a,(0:Int))) (body:=jzyh b)
  (fun s=>∃k:Nat,∃out,s=(out,(k:Int))∧k≤b.length∧IsBk (a++b.take k) out) (fun s=>(b.length-s.2).toNat)
  (fun o=>∃out,o=out∧IsBk (a++b) out) (by
  rintro s ⟨k,out,rfl,hk,hI⟩
  simp only[jzyh]
  by_cases hlt:k<b.length
  rotate_left
  ·right
   rw[it_n (by omega)]
   rw[List.take_of_length_le (by omega)]at hI
   exact⟨_,rfl,out,rfl,hI⟩
  left
  have hx:=List.getElem?_eq_getElem hlt
  have htk:a++b.take (k+1)=(a++b.take k)++[b[k]]:=by rw[show b.take (k+1)=b.take k++[b[k]] from jzlb hx,List.append_assoc]
  have hc':RCon (a++b.take k):=hc.sub fun x hx=>by
   rcases List.mem_append.1 hx with p|p
   ·exact List.mem_append.2 (.inl p)
   ·exact List.mem_append.2 (.inr (List.mem_of_mem_take p))
  have hlen:=jzxj hI
  rw[List.length_append,List.length_take]at hlen
  have h0:rchE out=0:=jzp7.2 ⟨by omega,hI.bk hc'⟩
  have hyb:b[k]∈b:=List.getElem_mem _
  generalize b[k]=y at *
  have hr:=B.right y hyb
  rw[it_d (by omega),at_e rfl hx]
  simp only[bd_s]
  obtain⟨w,e,hw⟩:=jzys h0 hr
  rw[e]
  simp only[bd_s]
  have wE:∀{m E},some (bkP w)=some ((m,E):List jzn4×Int)→w.L=m∧w.E=E:=fun {m E} h=>by
   have:=Option.some.inj h
   unfold bkP at this
   exact⟨congrArg (·.1) this,congrArg (·.2) this⟩
  have fin:∀m,IsBk (a++b.take k++[y]) m→∃k':Nat,∃out,((m,((k:Int)+1)):List jzn4×Int)=(out,(k':Int))∧k'≤b.length∧IsBk (a++b.take k') out:=fun m h1=>⟨k+1,m,by simp,hlt,by rw[htk];exact h1⟩
  rcases hw with ⟨z,hz,hs,hh⟩|⟨hn',hh⟩
  ·have hzl:=((hI.mem z).1 hz).1
   have hzab:z∈a++b:=by
    rcases List.mem_append.1 hzl with p|p
    ·exact List.mem_append.2 (.inl p)
    ·exact List.mem_append.2 (.inr (List.mem_of_mem_take p))
   rcases hh with ⟨hp,e⟩|⟨hp,hq,e⟩|⟨hp,hq,m,e,hm⟩
   ·exact absurd (hc.rep z y hzab (List.mem_append.2 (.inr hyb)) hs) hp
   ·obtain⟨_,e2⟩:=wE e
    rw[e2,it_n (by decide),qz3 (by omega)]
    exact⟨_,rfl,fin out (jzxn hc' hI hz hp hq),by simp only;omega⟩
   ·obtain⟨e1,e2⟩:=wE e
    rw[e2,it_d (by decide),qz3 (by omega),e1]
    exact⟨_,rfl,fin m (jzxt hc' hI hz hp hq hm.asc hm.mem),by simp only;omega⟩
  ·rcases hh with ⟨h4,e⟩|⟨h4,m,e,hm⟩
   ·obtain⟨_,e2⟩:=wE e
    omega
   ·obtain⟨e1,e2⟩:=wE e
    rw[e2,it_d (by decide),qz3 (by omega),e1]
    exact⟨_,rfl,fin m (jzxp hc' hI hn' hm.asc hm.mem),by simp only;omega⟩) ⟨0,a,rfl,Nat.zero_le _,by rw[List.take_zero,List.append_nil];exact A.own⟩ (by simp only;omega)
 rw[e2]
 simp only[bd_s]
 refine⟨_,rfl,?_⟩
 cases hmr:mrg a b with
 |none=>exact absurd hmr ((jzqt A B).2 hc)
 |some l=>rw[(jzp5 A B hmr).1.uniq hout];rfl
theorem jzyy{a b:List Int}(hl:a.length≤1000000):jzqd a b=some (decide (a=b)):=by
 unfold jzqd
 by_cases hn:a.length=b.length
 rotate_left
 ·rw[qzhj (by omega),decide_eq_false fun e=>hn (by rw[e])]
 rw[qzk5 (by omega),wz3m (l:=a) (fun k x=>if x=b.getD k default then none else some false) (by omega) ?_ ?_]
 ·cases hs:scan (fun k x=>if x=b.getD k default then none else some false) 0 a with
  |none =>
   have:a=b:=by
    refine List.ext_getElem hn fun i h1 h2=>?_
    have:=wz5l hs (List.getElem?_eq_getElem h1)
    split at this
    ·rename_i h;rw[h];simp[List.getD,h2]
    ·cases this
   subst this
   simp[sOut,bd_s]
  |some o =>
   obtain⟨i,x,hx,hi,_⟩:=wz6q 0 a o hs
   split at hi
   ·cases hi
   ·rename_i h
    cases hi
    rw[decide_eq_false]
    ·simp[sOut,bd_s]
    ·rintro rfl
     apply h
     rw[Nat.zero_add,List.getD,hx];rfl
 ·intro k x hx
  have hk:=(List.getElem?_eq_some_iff.1 hx).1
  simp only[jzq5]
  have hb:b[k]?=some (b.getD k default):=by simp[List.getD,show k<b.length by omega]
  rw[it_d (by omega),at_e rfl hx,at_e rfl hb]
  simp only[bd_s]
  by_cases h:x=b.getD k default
  ·rw[qzk5 h,qz3 (by omega),if_pos h]
  ·rw[qzhj h,if_neg h]
 ·simp only[jzq5]
  rw[it_n (by omega)]
def dayI(g:Int)(l:List jzn4)(x:Int):Prop:=∃r,r∈l∧r.Gauge=g∧r.Known=x
theorem jzyn{g:Int}{l:List jzn4}{r:jzn4}{x:Int}:dayI g (l++[r]) x↔dayI g l x∨(r.Gauge=g∧r.Known=x):=by
 unfold dayI
 constructor
 ·rintro⟨s,hs,h⟩
  rcases List.mem_append.1 hs with p|p
  ·exact .inl ⟨s,p,h⟩
  ·rw[List.mem_singleton.1 p]at h;exact .inr h
 ·rintro(⟨s,hs,h⟩|h)
  ·exact⟨s,List.mem_append.2 (.inl hs),h⟩
  ·exact⟨r,List.mem_append.2 (.inr (List.mem_singleton.2 rfl)),h⟩
theorem jzy8{l:List jzn4}{g:Int}:(rchE l≠0∧jzqx l g=some ([],rchE l))∨(rchE l=0∧∃d,jzqx l g=some (d,0)∧SAsc d∧(∀x,x∈d↔dayI g l x)∧d.length≤4000):=by
 unfold jzqx
 rw[wzsi]
 simp only[bd_s]
 by_cases h:rchE l=0
 rotate_left
 ·rw[qzhj h];exact .inl ⟨h,rfl⟩
 rw[qzk5 h]
 right
 have hl:=(jzp7.1 h).1
 refine⟨h,?_⟩
 obtain⟨o,e,h1,h2,h3⟩:=vzf (s:=((0:Int),([]:List (Int×Bool)))) (body:=jzrk g l)
  (fun s=>∃k:Nat,∃m,s=((k:Int),m)∧k≤l.length∧(m.map (·.1)).Nodup∧(∀x,x∈m.map (·.1)↔dayI g (l.take k) x)∧m.length≤k) (fun s=>(l.length-s.1).toNat)
  (fun o=>(o.map (·.1)).Nodup∧(∀x,x∈o.map (·.1)↔dayI g l x)∧o.length≤l.length) (by
  rintro s ⟨k,m,rfl,hk,h1,h2,h3⟩
  simp only[jzrk]
  by_cases hlt:k<l.length
  rotate_left
  ·right
   rw[it_n (by omega)]
   rw[List.take_of_length_le (by omega)]at h2
   exact⟨_,rfl,h1,h2,by omega⟩
  left
  have hx:=List.getElem?_eq_getElem hlt
  have htk:l.take (k+1)=l.take k++[l[k]]:=jzlb hx
  rw[it_d (by omega),at_e rfl hx]
  simp only[bd_s]
  by_cases hg:l[k].Gauge=g
  ·rw[it_d hg,qz3 (by omega)]
   refine⟨_,rfl,⟨k+1,mput keqI m l[k].Known true,by simp,hlt,jzzc h1,fun x=>?_,by have:=jzy7 (k:=l[k].Known) (m:=m);omega⟩,by simp only;omega⟩
   rw[jzy9,htk,jzyn,h2]
   simp only[hg,true_and]
   exact or_congr Iff.rfl eq_comm
  ·rw[it_n hg,qz3 (by omega)]
   refine⟨_,rfl,⟨k+1,_,by simp,hlt,h1,fun x=>?_,by omega⟩,by simp only;omega⟩
   rw[htk,jzyn,h2]
   simp[hg]) ⟨0,[],rfl,Nat.zero_le _,List.nodup_nil,fun x=>by simp[dayI],Nat.le_refl _⟩ (by simp only;omega)
 rw[e]
 simp only[bd_s]
 unfold jzoa
 rw[ck_d (by omega)]
 simp only[bd_s]
 exact⟨_,rfl,jzyw _ h1,fun x=>by rw[jzyq,h2],by rw[jzy0,List.length_map];omega⟩
theorem jzy3{l:List jzn4}{g:Int}:(rchE l≠0∧jzyb l g=some ⟨[],rchE l⟩)∨(rchE l=0∧∃d,jzyb l g=some ⟨d,0⟩∧SAsc d∧(∀x,x∈d↔dayI g l x)):=by
 unfold jzyb
 rw[jzx8]
 simp only[bd_s]
 by_cases h:rchE l=0
 rotate_left
 ·rw[qzhj h];exact .inl ⟨h,rfl⟩
 rw[qzk5 h]
 right
 have hl:=(jzp7.1 h).1
 refine⟨h,?_⟩
 obtain⟨o,e,h1,h2⟩:=vzf (s:=(([]:List Int),(0:Int))) (body:=jzyl g l)
  (fun s=>∃k:Nat,∃m,s=(m,(k:Int))∧k≤l.length∧SAsc m∧(∀x,x∈m↔dayI g (l.take k) x)∧m.length≤k) (fun s=>(l.length-s.2).toNat)
  (fun o=>SAsc o∧(∀x,x∈o↔dayI g l x)) (by
  rintro s ⟨k,m,rfl,hk,h1,h2,h3⟩
  simp only[jzyl]
  by_cases hlt:k<l.length
  rotate_left
  ·right
   rw[it_n (by omega)]
   rw[List.take_of_length_le (by omega)]at h2
   exact⟨_,rfl,h1,h2⟩
  left
  have hx:=List.getElem?_eq_getElem hlt
  have htk:l.take (k+1)=l.take k++[l[k]]:=jzlb hx
  rw[it_d (by omega),at_e rfl hx]
  simp only[bd_s]
  by_cases hg:l[k].Gauge=g
  ·obtain⟨q,e1,q1,q2,q3⟩:=jzy5 (n:=l[k].Known) h1 (by omega)
   rw[it_d hg,e1]
   simp only[bd_s]
   rw[qz3 (by omega)]
   refine⟨_,rfl,⟨k+1,_,by simp,hlt,q1,fun x=>?_,by omega⟩,by simp only;omega⟩
   rw[q2,htk,jzyn,h2]
   simp only[hg,true_and]
   rw[or_comm]
   exact or_congr Iff.rfl eq_comm
  ·rw[it_n hg,qz3 (by omega)]
   refine⟨_,rfl,⟨k+1,_,by simp,hlt,h1,fun x=>?_,by omega⟩,by simp only;omega⟩
   rw[htk,jzyn,h2]
   simp[hg]) ⟨0,[],rfl,Nat.zero_le _,List.Pairwise.nil,fun x=>by simp[dayI],Nat.le_refl _⟩ (by simp only;omega)
 rw[e]
 simp only[bd_s]
 exact⟨_,rfl,h1,h2⟩
theorem qzya(l:List jzn4):jzyf l 20=some (decide (l.length≤20∨4000<l.length∧l.length≤4010)):=by
 unfold jzyf
 congr 1
 rw[Bool.eq_iff_iff]
 by_cases h:l.length≤20
 ·rw[show decide ((l.length:Int)≤20)=true by simp;omega];simp[h]
 ·rw[show decide ((l.length:Int)≤20)=false by simp;omega]
  simp only[Bool.cond_false_right,cond_false,Bool.and_eq_true,decide_eq_true_eq]
  omega
theorem jzzb{B:jzpt}{r:jzn4}{g:Int}:jzx4 B r g=some true:=by
 unfold jzx4
 generalize B.e0=a
 generalize B.e1=b
 rw[qzya]
 simp only[bd_s]
 by_cases f1:a.length≤20∨4000<a.length∧a.length≤4010
 rotate_left
 ·rw[decide_eq_false f1]
  simp only[Bool.not_false,Bool.not_true,wzcn,bd_s,cond_true]
  rw[wzdh,jzrh];rfl
 rw[decide_eq_true f1]
 simp only[Bool.not_false,Bool.not_true,qzbx,cond_false]
 rw[qzya]
 simp only[bd_s]
 by_cases f2:b.length≤20∨4000<b.length∧b.length≤4010
 rotate_left
 ·rw[qzhj f2,jzrh];rfl
 rw[qzk5 f2]
 obtain⟨x,x1,x2⟩:=jzza a r
 obtain⟨y,y1,y2⟩:=jzy4 (a:=a) (b:=b) (by
  rcases f1 with f1|f1
  ·rcases f2 with f2|f2
   ·exact .inr (.inr (by omega))
   ·exact .inr (.inl fun h=>by have:=(jzp7.1 h).1;omega)
  ·exact .inl fun h=>by have:=(jzp7.1 h).1;omega)
 rw[x1,x2,jzpp,y1,y2]
 simp only[bd_s]
 have hd:∃d:jzod,jzyb a g=some d∧jzqx a g=some (d.L,d.E)∧d.L.length≤4000:=by
  rcases jzy8 (l:=a) (g:=g) with ⟨h,e⟩|⟨h,d,e,d1,d2,d3⟩<;>rcases jzy3 (l:=a) (g:=g) with ⟨h',e'⟩|⟨h',d',e',d1',d2'⟩
  ·exact⟨_,e',e,by simp⟩
  ·exact absurd h' h
  ·exact absurd h h'
  ·obtain rfl:=jzyx d1 d1' fun x=>(d2 x).trans (d2' x).symm
   exact⟨_,e',e,d3⟩
 obtain⟨d,e1,e2,e3⟩:=hd
 rw[e1,e2]
 simp only[bd_s]
 rw[jztj,jzym]
 simp only[bd_s,beq_self_eq_true,Bool.not_true,Bool.not_false,qzbx]
 rw[wzsi,jzx8]
 simp only[bd_s,beq_self_eq_true,decide_true,Bool.not_true,Bool.not_false,qzbx,cond_false]
 have lx:x.L.length≤4011:=by
  by_cases h:rchE a=0
  ·by_cases hr:RR r
   ·have:=jzxu h hr
    rw[x2]at this
    have al:=(jzp7.1 h).1
    have wE:∀{m E},some (bkP x)=some ((m,E):List jzn4×Int)→x.L=m:=fun {m E} h=>congrArg (·.1) (Option.some.inj h)
    rcases this with ⟨z,_,_,⟨_,e⟩|⟨_,_,e⟩|⟨_,_,m,e,hm⟩⟩|⟨_,⟨_,e⟩|⟨_,m,e,hm⟩⟩
    ·rw[wE e];simp
    ·rw[wE e];simp
    ·rw[wE e,hm.len];omega
    ·rw[wE e];simp
    ·rw[wE e,hm.len];omega
   ·rw[jzxm h hr]at x2
    have:=congrArg (·.1) (Option.some.inj x2)
    rw[show x.L=[] from this.symm];simp
  ·rw[jzyu h]at x2
   have:=congrArg (·.1) (Option.some.inj x2)
   rw[show x.L=[] from this.symm];simp
 rw[show(bkP x).1=x.L from rfl,show(bkP x).2=x.E from rfl,jzro (by omega)]
 simp only[bd_s,beq_self_eq_true,decide_true,Bool.not_true,Bool.not_false,qzbx,cond_false]
 rw[qzil,jzrh]
 simp only[bd_s,qzbx,cond_true]
 have ly:y.L.length≤4000:=by
  have:(mrgE a b).1.length≤4000:=by
   unfold mrgE
   split
   ·simp
   ·split
    ·simp
    ·split
     ·simp
     ·split
      ·simp
      ·simp only;omega
  rw[y2]at this
  exact this
 rw[show(bkP y).1=y.L from rfl,show(bkP y).2=y.E from rfl,jzro (by omega)]
 simp only[bd_s,decide_true,qzbx,cond_true]
 rw[jzyy (by omega)]
 simp only[bd_s,decide_true,cond_true]
end Go.Am

