/- Part U1 of the proof that the last part closes: the mathematics of the functions of this seat. No condition. -/
import Derived.Test.YtiaclogojhfmfaaGreatDoorR1
import Derived.Test.YtiaclogojhfmfaaGreatDoorX1
import Derived.Test.YtiaclogojhfmfaaGreatDoorF1
set_option linter.unusedSimpArgs false
set_option linter.unusedVariables false
namespace Go.Am
section
variable {α ω σ:Type}
def scan(f:Nat→α→Option ω):Nat→List α→Option ω
 |_,[]=>none
 |k,x :: l=>match f k x with
  |some o=>some o
  |none=>scan f (k+1) l
theorem wz6o{f:Nat→α→Option ω}:∀(k:Nat) (l:List α),scan f k l=none→∀i x,l[i]?=some x→f (k+i) x=none
 |k,[],_,i,x,h=>by simp at h
 |k,y :: l,e,i,x,h=>by
  unfold scan at e
  split at e
  ·cases e
  ·rename_i e1
   cases i with
   |zero=>simp at h;subst h;exact e1
   |succ i=>have:=wz6o (k+1) l e i x (by simpa using h);rwa [show k+(i+1)=k+1+i by omega]
theorem jzax{f:Nat→α→Option ω}:∀(k:Nat) (l:List α),(∀i x,l[i]?=some x→f (k+i) x=none)→scan f k l=none
 |k,[],_=>rfl
 |k,y :: l,e=>by
  unfold scan
  rw[show f k y=none from e 0 y rfl]
  exact jzax (k+1) l fun i x h=>by have:=e (i+1) x (by simpa using h);rwa [show k+(i+1)=k+1+i by omega]at this
theorem jzdu{f:Nat→α→Option ω}{l:List α}{k:Nat}{x:α}(h:l[k]?=some x):scan f k (l.drop k)=(match f k x with
  |some o=>some o
  | none=>scan f (k+1) (l.drop (k+1))):=by
 obtain⟨hk,rfl⟩:=List.getElem?_eq_some_iff.1 h
 rw[List.drop_eq_getElem_cons hk];rfl
def sOut:Option ω→Unit⊕ω
 |some o=>.inr o
 |none=>.inl ()
theorem jzak{body:σ→Option (σ⊕(Unit⊕ω))}{l:List α}(st:Nat→σ)(f:Nat→α→Option ω)(hl:l.length≤1000000000)
  (hs:∀(k:Nat) (x:α),l[k]?=some x→body (st k)=some (match f k x with | some o=>.inr (.inr o) | none=>.inl (st (k+1)))) (he:body (st l.length)=some (.inr (.inl ()))) {s:σ} (h0:s=st 0):lp body s=some (sOut (scan f 0 l)):=by
 obtain⟨o,e,ho⟩:=jzd2 (body:=body) st (fun k=>k≤l.length∧scan f 0 l=scan f k (l.drop k)) (fun k=>l.length-k) (fun o=>o=sOut (scan f 0 l)) (by
  rintro k ⟨hk,hsc⟩
  by_cases hlt:k<l.length
  ·have hx:=List.getElem?_eq_getElem hlt
   have h1:=hs k _ hx
   have h2:=jzdu (f:=f) hx
   cases hf:f k l[k] with
   |some o =>
    right
    rw[hf]at h1 h2
    exact⟨_,h1,by rw[hsc,h2];rfl⟩
   |none =>
    left
    rw[hf]at h1 h2
    exact⟨k+1,h1,⟨hlt,hsc.trans h2⟩,by omega⟩
  ·right
   have:k=l.length:=by omega
   subst this
   refine⟨_,he,?_⟩
   rw[hsc,List.drop_length];rfl) 0 h0 ⟨Nat.zero_le _,rfl⟩ (by omega)
 rw[e,ho]
theorem wz3m{body:Int→Option (Int⊕(Unit⊕ω))}{l:List α}(f:Nat→α→Option ω)(hl:l.length≤1000000000)
  (hs:∀(k:Nat) (x:α),l[k]?=some x→body (k:Int)=some (match f k x with | some o=>.inr (.inr o) | none=>.inl ((k:Int)+1))) (he:body (l.length:Int)=some (.inr (.inl ()))):lp body 0=some (sOut (scan f 0 l)) :=
 jzak (fun k=>(k:Int)) f hl (fun k x h=>by rw[hs k x h];cases f k x<;>rfl) he rfl
end
theorem wz5y{o:Option Int}{z:Int}:(match sOut o with | .inl ()=>some z | .inr o=>some o)=some (o.getD z):=by cases o<;>rfl
theorem wz9f{α:Type}[Inhabited α]{l:List α}{k:Nat}{x:α}(h:l[k]?=some x)(h0:0<k):at? l ((k:Int)-1)=some (l.getD (k-1) default):=by
 have hk:=(List.getElem?_eq_some_iff.1 h).1
 have h1:k-1<l.length:=by omega
 rw[at_e (n:=k-1) (by omega) (List.getElem?_eq_getElem h1)]
 simp[List.getD,h1]
theorem wz6q{α ω:Type}{f:Nat→α→Option ω}:∀(k:Nat) (l:List α) (o:ω),scan f k l=some o→∃i x,l[i]?=some x∧f (k+i) x=some o∧∀j y,j<i→l[j]?=some y→f (k+j) y=none
 |k,[],o,h=>by cases h
 |k,y :: l,o,h=>by
  unfold scan at h
  split at h
  ·rename_i o' ho
   cases h
   exact⟨0,y,rfl,ho,fun j y h=>by omega⟩
  ·rename_i hn
   obtain⟨i,x,h1,h2,h3⟩:=wz6q (k+1) l o h
   refine⟨i+1,x,by simpa using h1,by rwa [show k+(i+1)=k+1+i by omega],fun j z hj hz=>?_⟩
   cases j with
   |zero=>simp at hz;subst hz;exact hn
   |succ j =>
    have:=h3 j z (by omega) (by simpa using hz)
    rwa [show k+(j+1)=k+1+j by omega]
section
variable {α β ω σ:Type}
theorem jzlb{l:List α}{k:Nat}{x:α}(h:l[k]?=some x):l.take (k+1)=l.take k++[x]:=by rw[List.take_add_one,h];rfl
theorem wz5l{f:Nat→α→Option ω}{l:List α}(h:scan f 0 l=none){i:Nat}{x:α}(hx:l[i]?=some x):f i x=none:=by
 have:=wz6o 0 l h i x hx
 rwa [Nat.zero_add]at this
end
def rlt(a b:jzn4):Prop:=a.Gauge<b.Gauge∨a.Gauge=b.Gauge∧a.Seq<b.Seq
def rsm(a b:jzn4):Prop:=a.Gauge=b.Gauge∧a.Seq=b.Seq
def rrp(a b:jzn4):Prop:=a.Gauge=b.Gauge∧a.Seq=b.Seq∧a.From=b.From∧a.To=b.To∧a.Stage=b.Stage
instance (a b:jzn4):Decidable (rlt a b):=by unfold rlt;infer_instance
instance (a b:jzn4):Decidable (rsm a b):=by unfold rsm;infer_instance
instance (a b:jzn4):Decidable (rrp a b):=by unfold rrp;infer_instance
def RR(r:jzn4):Prop:=(0≤r.Gauge∧r.Gauge≤39)∧(0≤r.Seq∧r.Seq≤1099511627776)∧0≤r.From∧r.From<r.To∧r.To≤1402560∧(0≤r.Stage∧r.Stage≤1000)∧(0≤r.Known∧r.Known≤14609)
instance (r:jzn4):Decidable (RR r):=by unfold RR;infer_instance
theorem jzts{a:jzn4}:¬rlt a a:=by unfold rlt;omega
theorem jzrg{a b c:jzn4}(h:rlt a b)(k:rlt b c):rlt a c:=by unfold rlt at *;omega
theorem jztu{a b:jzn4}(h:rlt a b):¬rlt b a:=by unfold rlt at *;omega
theorem jzqr{a b:jzn4}(h:rlt a b):¬rsm a b:=by unfold rlt at h;unfold rsm;omega
theorem jzpl{a b:jzn4}(h:rlt a b):¬rsm b a:=by unfold rlt at h;unfold rsm;omega
theorem jztc(a b:jzn4):rlt a b∨rsm a b∨rlt b a:=by unfold rlt rsm;omega
theorem jzqg(a:jzn4):rsm a a:=⟨rfl,rfl⟩
theorem rsm.symm{a b:jzn4}(h:rsm a b):rsm b a:=⟨h.1.symm,h.2.symm⟩
theorem rsm.trans{a b c:jzn4}(h:rsm a b)(k:rsm b c):rsm a c:=⟨h.1.trans k.1,h.2.trans k.2⟩
theorem rrp.sm{a b:jzn4}(h:rrp a b):rsm a b:=⟨h.1,h.2.1⟩
theorem rrp.symm{a b:jzn4}(h:rrp a b):rrp b a:=⟨h.1.symm,h.2.1.symm,h.2.2.1.symm,h.2.2.2.1.symm,h.2.2.2.2.symm⟩
theorem rrp.trans{a b c:jzn4}(h:rrp a b)(k:rrp b c):rrp a c:=⟨h.1.trans k.1,h.2.1.trans k.2.1,h.2.2.1.trans k.2.2.1,h.2.2.2.1.trans k.2.2.2.1,h.2.2.2.2.trans k.2.2.2.2⟩
theorem jzsa(a:jzn4):rrp a a:=⟨rfl,rfl,rfl,rfl,rfl⟩
theorem rrp.eq{a b:jzn4}(h:rrp a b)(k:a.Known=b.Known):a=b:=by
 obtain⟨h1,h2,h3,h4,h5⟩:=h
 cases a;cases b;simp only at *;subst h1 h2 h3 h4 h5 k;rfl
theorem jzxz{a b c:jzn4}(h:rlt a b)(k:rsm b c):rlt a c:=by unfold rlt rsm at *;omega
theorem jzrz{a b c:jzn4}(k:rsm a b)(h:rlt b c):rlt a c:=by unfold rlt rsm at *;omega
def Asc(l:List jzn4):Prop:=l.Pairwise rlt
structure Bk(l:List jzn4):Prop where
 right:∀r,r∈l→RR r
 asc:Asc l
theorem jzsw:∀{D E:List jzn4},Asc D→Asc E→(∀x,x∈D↔x∈E)→D=E
 |[],[],_,_,_=>rfl
 |[],e :: E,_,_,h=>by have:=(h e).2 (List.mem_cons_self ..);cases this
 |d :: D,[],_,_,h=>by have:=(h d).1 (List.mem_cons_self ..);cases this
 |d :: D,e :: E,hd,he,h=>by
  obtain⟨d1,d2⟩:=List.pairwise_cons.1 hd
  obtain⟨e1,e2⟩:=List.pairwise_cons.1 he
  have hde:d=e:=by
   rcases List.mem_cons.1 ((h d).1 (List.mem_cons_self ..)) with p|p
   ·exact p
   ·rcases List.mem_cons.1 ((h e).2 (List.mem_cons_self ..)) with q|q
    ·exact q.symm
    ·exact absurd (d1 e q) (jztu (e1 d p))
  subst hde
  rw[jzsw d2 e2 fun x=>⟨fun hx=>?_,fun hx=>?_⟩]
  ·rcases List.mem_cons.1 ((h x).1 (List.mem_cons_of_mem _ hx)) with p|p
   ·subst p;exact absurd (d1 x hx) jzts
   ·exact p
  ·rcases List.mem_cons.1 ((h x).2 (List.mem_cons_of_mem _ hx)) with p|p
   ·subst p;exact absurd (e1 x hx) jzts
   ·exact p
theorem Asc.one{l:List jzn4}(h:Asc l){a b:jzn4}(ha:a∈l)(hb:b∈l)(e:rsm a b):a=b:=by
 induction l with
 |nil=>cases ha
 |cons x l ih =>
  obtain⟨h1,h2⟩:=List.pairwise_cons.1 h
  rcases List.mem_cons.1 ha with p|p<;>rcases List.mem_cons.1 hb with q|q
  ·rw[p,q]
  ·subst p;exact absurd e (jzqr (h1 b q))
  ·subst q;exact absurd e (jzpl (h1 a p))
  ·exact ih h2 p q
structure RCon(L:List jzn4):Prop where
 right:∀r,r∈L→RR r
 rep:∀a b,a∈L→b∈L→rsm a b→rrp a b
def Best(L:List jzn4)(x:jzn4):Prop:=x∈L∧∀y,y∈L→rsm y x→x.Known≤y.Known
structure IsBk(L l:List jzn4):Prop where
 asc:Asc l
 mem:∀x,x∈l↔Best L x
theorem IsBk.uniq{L l m:List jzn4}(h:IsBk L l)(k:IsBk L m):l=m:=jzsw h.asc k.asc fun x=>(h.mem x).trans (k.mem x).symm
theorem jzs6{L M:List jzn4}(h:∀x,x∈L↔x∈M)(x:jzn4):Best L x↔Best M x :=
 ⟨fun⟨a,b⟩=>⟨(h x).1 a,fun y hy=>b y ((h y).2 hy)⟩,fun⟨a,b⟩=>⟨(h x).2 a,fun y hy=>b y ((h y).1 hy)⟩⟩
theorem IsBk.congr{L M l:List jzn4}(h:∀x,x∈L↔x∈M)(k:IsBk L l):IsBk M l:=⟨k.asc,fun x=>(k.mem x).trans (jzs6 h x)⟩
theorem RCon.congr{L M:List jzn4}(h:∀x,x∈L↔x∈M)(k:RCon L):RCon M :=
 ⟨fun r hr=>k.right r ((h r).2 hr),fun a b ha hb=>k.rep a b ((h a).2 ha) ((h b).2 hb)⟩
theorem RCon.sub{L M:List jzn4}(h:∀x,x∈M→x∈L)(k:RCon L):RCon M :=
 ⟨fun r hr=>k.right r (h r hr),fun a b ha hb=>k.rep a b (h a ha) (h b hb)⟩
theorem IsBk.bk{L l:List jzn4}(h:IsBk L l)(c:RCon L):Bk l:=⟨fun r hr=>c.right r ((h.mem r).1 hr).1,h.asc⟩
theorem jzsu:∀(n:Nat) {L:List jzn4} {x:jzn4},x∈L→(∀r,r∈L→0≤r.Known)→x.Known.toNat≤n→∃y,Best L y∧rsm y x
 |0,L,x,hx,hp,hn=>⟨x,⟨hx,fun y hy _=>by have:=hp y hy;have:=hp x hx;omega⟩,jzqg _⟩
 |n+1,L,x,hx,hp,hn=>by
  by_cases h:∀y,y∈L→rsm y x→x.Known≤y.Known
  ·exact⟨x,⟨hx,h⟩,jzqg _⟩
  ·simp only[Classical.not_forall,Int.not_le]at h
   obtain⟨y,hy,hs,hl⟩:=h
   obtain⟨z,hz,hzs⟩:=jzsu n hy hp (by have:=hp y hy;have:=hp x hx;omega)
   exact⟨z,hz,hzs.trans hs⟩
theorem RCon.ex{L:List jzn4}(c:RCon L){x:jzn4}(hx:x∈L):∃y,Best L y∧rsm y x:=jzsu _ hx (fun r hr=>(c.right r hr).2.2.2.2.2.2.1) (Nat.le_refl _)
theorem Bk.own{l:List jzn4}(h:Bk l):IsBk l l:=⟨h.asc,fun x=>⟨fun hx=>⟨hx,fun y hy e=>by rw[h.asc.one hy hx e];exact Int.le_refl _⟩,fun h=>h.1⟩⟩
theorem Bk.con{l:List jzn4}(h:Bk l):RCon l:=⟨h.right,fun a b ha hb e=>by rw[h.asc.one ha hb e];exact jzsa _⟩
theorem jzt7{L l M m:List jzn4}(h:∀x,x∈l↔Best L x)(k:∀x,x∈m↔Best M x)(c:RCon (L++M))(x:jzn4):Best (l++m) x↔Best (L++M) x:=by
 have cL:RCon L:=c.sub fun x hx=>List.mem_append.2 (.inl hx)
 have cM:RCon M:=c.sub fun x hx=>List.mem_append.2 (.inr hx)
 constructor
 ·rintro⟨hx,hb⟩
  have hin:x∈L++M:=by
   rcases List.mem_append.1 hx with p|p
   ·exact List.mem_append.2 (.inl ((h x).1 p).1)
   ·exact List.mem_append.2 (.inr ((k x).1 p).1)
  refine⟨hin,fun y hy e=>?_⟩
  rcases List.mem_append.1 hy with p|p
  ·obtain⟨z,hz,ez⟩:=cL.ex p
   have h1:=hb z (List.mem_append.2 (.inl ((h z).2 hz))) (ez.trans e)
   have h2:=hz.2 y p ez.symm
   omega
  ·obtain⟨z,hz,ez⟩:=cM.ex p
   have h1:=hb z (List.mem_append.2 (.inr ((k z).2 hz))) (ez.trans e)
   have h2:=hz.2 y p ez.symm
   omega
 ·rintro⟨hx,hb⟩
  refine⟨?_,fun y hy e=>?_⟩
  ·rcases List.mem_append.1 hx with p|p
   ·exact List.mem_append.2 (.inl ((h x).2 ⟨p,fun y hy=>hb y (List.mem_append.2 (.inl hy))⟩))
   ·exact List.mem_append.2 (.inr ((k x).2 ⟨p,fun y hy=>hb y (List.mem_append.2 (.inr hy))⟩))
  ·rcases List.mem_append.1 hy with p|p
   ·exact hb y (List.mem_append.2 (.inl ((h y).1 p).1)) e
   ·exact hb y (List.mem_append.2 (.inr ((k y).1 p).1)) e
theorem jzvh{l:List jzn4}(h:Asc l){i j:Nat}(hi:i<l.length)(hj:j<l.length)(hij:i<j):rlt l[i] l[j]:=List.pairwise_iff_getElem.1 h i j hi hj hij
theorem jzxq{α:Type}{l:List α}{k:Nat}{r x:α}:x∈insL l k r↔x∈l∨x=r:=by
 unfold insL
 conv=>rhs;rw[←List.take_append_drop k l]
 simp only[List.mem_append,List.mem_singleton]
 constructor
 ·rintro((h|h)|h)
  ·exact .inl (.inl h)
  ·exact .inr h
  ·exact .inl (.inr h)
 ·rintro((h|h)|h)
  ·exact .inl (.inl h)
  ·exact .inr h
  ·exact .inl (.inr h)
theorem jzxr{α:Type}{l:List α}{k:Nat}{r:α}:(insL l k r).length=l.length+1:=by
 unfold insL
 simp only[List.length_append,List.length_take,List.length_drop,List.length_singleton]
 omega
theorem jzxo{l:List jzn4}(h:Asc l){k:Nat}{r:jzn4}(hlo:∀i,(hi:i<l.length)→i<k→rlt l[i] r)(hhi:∀i,(hi:i<l.length)→k≤i→rlt r l[i]):Asc (insL l k r):=by
 unfold insL Asc
 rw[List.pairwise_append,List.pairwise_append]
 refine⟨⟨List.Pairwise.sublist (List.take_sublist ..) h,List.pairwise_singleton _ _,fun a ha b hb=>?_⟩,List.Pairwise.sublist (List.drop_sublist ..) h,fun a ha b hb=>?_⟩
 ·obtain⟨i,hi,rfl⟩:=List.getElem_of_mem ha
  rw[List.mem_singleton.1 hb,List.getElem_take]
  simp only[List.length_take]at hi
  exact hlo i (by omega) (by omega)
 ·obtain⟨j,hj,rfl⟩:=List.getElem_of_mem hb
  simp only[List.length_drop]at hj
  rw[List.getElem_drop]
  have h2:=hhi (k+j) (by omega) (by omega)
  rcases List.mem_append.1 ha with ha|ha
  ·obtain⟨i,hi,rfl⟩:=List.getElem_of_mem ha
   rw[List.getElem_take]
   simp only[List.length_take]at hi
   exact jzrg (hlo i (by omega) (by omega)) h2
  ·rw[List.mem_singleton.1 ha];exact h2
theorem jzxv{l:List jzn4}(h:Asc l){k:Nat}(hk:k<l.length){r:jzn4}(e:rsm l[k] r):Asc (l.set k r):=by
 unfold Asc
 rw[List.pairwise_iff_getElem]
 intro i j hi hj hij
 simp only[List.length_set]at hi hj
 simp only[List.getElem_set]
 by_cases h1:k=i
 ·subst h1
  rw[if_pos rfl,if_neg (by omega)]
  exact jzrz e.symm (jzvh h hi hj hij)
 ·rw[if_neg h1]
  by_cases h2:k=j
  ·subst h2
   rw[if_pos rfl]
   exact jzxz (jzvh h hi hj hij) e
  ·rw[if_neg h2]
   exact jzvh h hi hj hij
theorem jzxx{l:List jzn4}(h:Asc l){k:Nat}(hk:k<l.length){r:jzn4}(e:rsm l[k] r){x:jzn4}:x∈l.set k r↔x=r∨x∈l∧¬rsm x r:=by
 constructor
 ·intro hx
  obtain⟨i,hi,rfl⟩:=List.getElem_of_mem hx
  simp only[List.length_set]at hi
  rw[List.getElem_set]
  by_cases h1:k=i
  ·rw[if_pos h1];exact .inl rfl
  ·rw[if_neg h1]
   refine .inr ⟨List.getElem_mem _,fun h2=>?_⟩
   have h3:=h2.trans e.symm
   by_cases h4:i<k
   ·exact jzqr (jzvh h hi hk h4) h3
   ·exact jzpl (jzvh h hk hi (by omega)) h3
 ·rintro(rfl|⟨hx,hn⟩)
  ·exact List.mem_iff_getElem.2 ⟨k,by simpa using hk,by simp⟩
  ·obtain⟨i,hi,rfl⟩:=List.getElem_of_mem hx
   have h1:k≠i:=fun h1=>by subst h1;exact hn e
   exact List.mem_iff_getElem.2 ⟨i,by simpa using hi,by rw[List.getElem_set,if_neg h1]⟩
theorem jzxp{L l:List jzn4}(c:RCon L)(h:IsBk L l){r:jzn4}(hn:∀x,x∈l→¬rsm x r){m:List jzn4}(hm:Asc m)(he:∀x,x∈m↔x∈l∨x=r):IsBk (L++[r]) m:=by
 have hL:∀x,x∈L→¬rsm x r:=fun x hx e=>by
  obtain⟨y,hy,hs⟩:=c.ex hx
  exact hn y ((h.mem y).2 hy) (hs.trans e)
 refine⟨hm,fun x=>?_⟩
 rw[he,h.mem]
 constructor
 ·rintro(⟨h1,h2⟩|rfl)
  ·refine⟨List.mem_append.2 (.inl h1),fun y hy e=>?_⟩
   rcases List.mem_append.1 hy with p|p
   ·exact h2 y p e
   ·rw[List.mem_singleton.1 p]at e;exact absurd e.symm (hL x h1)
  ·refine⟨List.mem_append.2 (.inr (List.mem_singleton.2 rfl)),fun y hy e=>?_⟩
   rcases List.mem_append.1 hy with p|p
   ·exact absurd e (hL y p)
   ·rw[List.mem_singleton.1 p];exact Int.le_refl _
 ·rintro⟨h1,h2⟩
  rcases List.mem_append.1 h1 with p|p
  ·exact .inl ⟨p,fun y hy e=>h2 y (List.mem_append.2 (.inl hy)) e⟩
  ·exact .inr (List.mem_singleton.1 p)
theorem jzxn{L l:List jzn4}(c:RCon L)(h:IsBk L l){r z:jzn4}(hz:z∈l)(e:rrp z r)(hk:z.Known≤r.Known):IsBk (L++[r]) l:=by
 have bz:=(h.mem z).1 hz
 refine⟨h.asc,fun x=>?_⟩
 rw[h.mem]
 constructor
 ·rintro⟨h1,h2⟩
  refine⟨List.mem_append.2 (.inl h1),fun y hy e'=>?_⟩
  rcases List.mem_append.1 hy with p|p
  ·exact h2 y p e'
  ·obtain rfl:=List.mem_singleton.1 p
   have:=h2 z bz.1 (e.sm.trans e')
   omega
 ·rintro⟨h1,h2⟩
  rcases List.mem_append.1 h1 with p|p
  ·exact⟨p,fun y hy e=>h2 y (List.mem_append.2 (.inl hy)) e⟩
  ·obtain rfl:=List.mem_singleton.1 p
   have h3:=h2 z (List.mem_append.2 (.inl bz.1)) e.sm
   have:z=x:=e.eq (by omega)
   rw[←this];exact bz
theorem jzxt{L l:List jzn4}(c:RCon L)(h:IsBk L l){r z:jzn4}(hz:z∈l)(e:rrp z r)(hk:¬z.Known≤r.Known){m:List jzn4}(hm:Asc m)(he:∀x,x∈m↔x=r∨x∈l∧¬rsm x r):IsBk (L++[r]) m:=by
 have bz:=(h.mem z).1 hz
 refine⟨hm,fun x=>?_⟩
 rw[he,h.mem]
 constructor
 ·rintro(rfl|⟨⟨h1,h2⟩,h3⟩)
  ·refine⟨List.mem_append.2 (.inr (List.mem_singleton.2 rfl)),fun y hy e'=>?_⟩
   rcases List.mem_append.1 hy with p|p
   ·have:=bz.2 y p (e'.trans e.sm.symm);omega
   ·rw[List.mem_singleton.1 p];exact Int.le_refl _
  ·refine⟨List.mem_append.2 (.inl h1),fun y hy e'=>?_⟩
   rcases List.mem_append.1 hy with p|p
   ·exact h2 y p e'
   ·rw[List.mem_singleton.1 p]at e';exact absurd e'.symm h3
 ·rintro⟨h1,h2⟩
  rcases List.mem_append.1 h1 with p|p
  ·refine .inr ⟨⟨p,fun y hy e=>h2 y (List.mem_append.2 (.inl hy)) e⟩,fun e'=>?_⟩
   have h3:=h2 r (List.mem_append.2 (.inr (List.mem_singleton.2 rfl))) e'.symm
   have h4:=bz.2 x p (e'.trans e.sm.symm)
   omega
  ·exact .inl (List.mem_singleton.1 p)
def mrg:List jzn4→List jzn4→Option (List jzn4)
 |[],b=>some b
 |x :: a,[]=>some (x :: a)
 |x :: a,y :: b=>if rlt x y then(mrg a (y :: b)).map (x :: ·) else if rlt y x then(mrg (x :: a) b).map (y :: ·) else if rrp x y then(mrg a b).map ({ x with Known:=min x.Known y.Known } :: ·) else none
termination_by a b=>a.length+b.length
theorem jzpr:∀(n:Nat) (a b l:List jzn4),a.length+b.length≤n→mrg a b=some l→l.length≤a.length+b.length
 |_,[],b,l,_,h=>by rw[mrg]at h;cases h;simp
 |_,x :: a,[],l,_,h=>by rw[mrg]at h;cases h;simp
 |0,x :: a,y :: b,l,hn,h=>by simp at hn
 |n+1,x :: a,y :: b,l,hn,h=>by
  rw[mrg]at h
  simp only[List.length_cons]at hn ⊢
  split at h
  ·cases e:mrg a (y :: b) with
   |none=>rw[e]at h;cases h
   |some m =>
    rw[e]at h;cases h
    have:=jzpr n a (y :: b) m (by simp;omega) e
    simp at this ⊢;omega
  ·split at h
   ·cases e:mrg (x :: a) b with
    |none=>rw[e]at h;cases h
    |some m =>
     rw[e]at h;cases h
     have:=jzpr n (x :: a) b m (by simp;omega) e
     simp at this ⊢;omega
   ·split at h
    ·cases e:mrg a b with
     |none=>rw[e]at h;cases h
     |some m =>
      rw[e]at h;cases h
      have:=jzpr n a b m (by omega) e
      simp at this ⊢;omega
    ·cases h
theorem jzqz:∀(n:Nat) (a b:List jzn4),a.length+b.length≤n→Asc a→Asc b→(mrg a b=none↔∃x y,x∈a∧y∈b∧rsm x y∧¬rrp x y)
 |_,[],b,_,_,_=>by rw[mrg];constructor;intro h;cases h;rintro⟨x,_,h,_⟩;cases h
 |_,x :: a,[],_,_,_=>by rw[mrg];constructor;intro h;cases h;rintro⟨_,y,_,h,_⟩;cases h
 |0,x :: a,y :: b,hn,_,_=>by simp at hn
 |n+1,x :: a,y :: b,hn,ha,hb=>by
  rw[mrg]
  simp only[List.length_cons]at hn
  obtain⟨a1,a2⟩:=List.pairwise_cons.1 ha
  obtain⟨b1,b2⟩:=List.pairwise_cons.1 hb
  split
  ·rename_i h
   rw[Option.map_eq_none_iff,jzqz n a (y :: b) (by simp;omega) a2 hb]
   constructor
   ·rintro⟨u,v,hu,hv,k⟩;exact⟨u,v,List.mem_cons_of_mem _ hu,hv,k⟩
   ·rintro⟨u,v,hu,hv,k1,k2⟩
    rcases List.mem_cons.1 hu with rfl|hu
    ·rcases List.mem_cons.1 hv with rfl|hv
     ·exact absurd k1 (jzqr h)
     ·exact absurd k1 (jzqr (jzrg h (b1 v hv)))
    ·exact⟨u,v,hu,hv,k1,k2⟩
  ·split
   ·rename_i h
    rw[Option.map_eq_none_iff,jzqz n (x :: a) b (by simp;omega) ha b2]
    constructor
    ·rintro⟨u,v,hu,hv,k⟩;exact⟨u,v,hu,List.mem_cons_of_mem _ hv,k⟩
    ·rintro⟨u,v,hu,hv,k1,k2⟩
     rcases List.mem_cons.1 hv with rfl|hv
     ·rcases List.mem_cons.1 hu with rfl|hu
      ·exact absurd k1 (jzpl h)
      ·exact absurd k1 (jzpl (jzrg h (a1 u hu)))
     ·exact⟨u,v,hu,hv,k1,k2⟩
   ·rename_i h1 h2
    have hs:rsm x y:=by rcases jztc x y with h|h|h;exact absurd h h1;exact h;exact absurd h h2
    split
    ·rename_i h
     rw[Option.map_eq_none_iff,jzqz n a b (by omega) a2 b2]
     constructor
     ·rintro⟨u,v,hu,hv,k⟩;exact⟨u,v,List.mem_cons_of_mem _ hu,List.mem_cons_of_mem _ hv,k⟩
     ·rintro⟨u,v,hu,hv,k1,k2⟩
      rcases List.mem_cons.1 hu with rfl|hu
      ·rcases List.mem_cons.1 hv with rfl|hv
       ·exact absurd h k2
       ·exact absurd k1 (jzqr (jzrz hs (b1 v hv)))
      ·rcases List.mem_cons.1 hv with rfl|hv
       ·exact absurd k1 (jzpl (jzrz hs.symm (a1 u hu)))
       ·exact⟨u,v,hu,hv,k1,k2⟩
    ·rename_i h
     exact⟨fun _=>⟨x,y,List.mem_cons_self ..,List.mem_cons_self ..,hs,h⟩,fun _=>rfl⟩
theorem jzq1:∀(n:Nat) (a b l:List jzn4),a.length+b.length≤n→Asc a→Asc b→mrg a b=some l→Asc l∧∀z,z∈l↔Best (a++b) z
 |_,[],b,l,_,_,hb,h=>by
  rw[mrg]at h;cases h
  exact⟨hb,fun z=>⟨fun h=>⟨h,fun y hy e=>by rw[Asc.one hb hy h e];exact Int.le_refl _⟩,fun h=>h.1⟩⟩
 |_,x :: a,[],l,_,ha,_,h=>by
  rw[mrg]at h;cases h
  rw[List.append_nil]
  exact⟨ha,fun z=>⟨fun h=>⟨h,fun y hy e=>by rw[Asc.one ha hy h e];exact Int.le_refl _⟩,fun h=>h.1⟩⟩
 |0,x :: a,y :: b,l,hn,_,_,_=>by simp at hn
 |n+1,x :: a,y :: b,l,hn,ha,hb,h=>by
  rw[mrg]at h
  simp only[List.length_cons]at hn
  obtain⟨a1,a2⟩:=List.pairwise_cons.1 ha
  obtain⟨b1,b2⟩:=List.pairwise_cons.1 hb
  have gen:∀(a' b' m:List jzn4) (w:jzn4),(Asc m∧∀z,z∈m↔Best (a'++b') z)→(∀z,z∈a'++b'→rlt w z)→(∀z,z∈x :: a++y :: b→z∈a'++b'∨rsm z w∧w.Known≤z.Known)→w∈x :: a++y :: b→(∀z,z∈a'++b'→z∈x :: a++y :: b)→(∀z,z∈x :: a++y :: b→rsm z w→w.Known≤z.Known)→(∀z,z∈x :: a++y :: b→rsm z w→z.Known≤w.Known→z=w)→Asc (w :: m)∧∀z,z∈w :: m↔Best (x :: a++y :: b) z:=by
   rintro a' b' m w ⟨m1,m2⟩ w1 w2 w3 w4 w5 w6
   refine⟨List.pairwise_cons.2 ⟨fun z hz=>w1 z ((m2 z).1 hz).1,m1⟩,fun z=>?_⟩
   rw[List.mem_cons,m2]
   constructor
   ·rintro(rfl|⟨h1,h2⟩)
    ·exact⟨w3,fun y hy e=>w5 y hy e⟩
    ·refine⟨w4 z h1,fun y hy e=>?_⟩
     rcases w2 y hy with p|p
     ·exact h2 y p e
     ·exact absurd (p.1.symm.trans e) (jzqr (w1 z h1))
   ·rintro⟨h1,h2⟩
    rcases w2 z h1 with p|p
    ·exact .inr ⟨p,fun y hy e=>h2 y (w4 y hy) e⟩
    ·exact .inl (w6 z h1 p.1 (h2 w w3 p.1.symm))
  split at h
  ·rename_i hlt
   cases e:mrg a (y :: b) with
   |none=>rw[e]at h;cases h
   |some m =>
   rw[e]at h;cases h
   have ih:=jzq1 n a (y :: b) m (by simp;omega) a2 hb e
   have hall:∀z,z∈a++y :: b→rlt x z:=fun z hz=>by
    rcases List.mem_append.1 hz with p|p
    ·exact a1 z p
    ·rcases List.mem_cons.1 p with rfl|p
     ·exact hlt
     ·exact jzrg hlt (b1 z p)
   refine gen a (y :: b) m x ih hall (fun z hz=>?_) (by simp) (fun z hz=>List.mem_cons_of_mem _ hz) (fun z hz e=>?_) (fun z hz e _=>?_)
   ·rcases List.mem_cons.1 hz with rfl|p
    ·exact .inr ⟨jzqg _,Int.le_refl _⟩
    ·exact .inl p
   ·rcases List.mem_cons.1 hz with rfl|p
    ·exact Int.le_refl _
    ·exact absurd e (jzpl (hall z p))
   ·rcases List.mem_cons.1 hz with rfl|p
    ·rfl
    ·exact absurd e (jzpl (hall z p))
  ·split at h
   ·rename_i hlt
    cases e:mrg (x :: a) b with
    |none=>rw[e]at h;cases h
    |some m =>
    rw[e]at h;cases h
    have ih:=jzq1 n (x :: a) b m (by simp;omega) ha b2 e
    have hall:∀z,z∈x :: a++b→rlt y z:=fun z hz=>by
     rcases List.mem_append.1 hz with p|p
     ·rcases List.mem_cons.1 p with rfl|p
      ·exact hlt
      ·exact jzrg hlt (a1 z p)
     ·exact b1 z p
    have sp:∀z,z∈x :: a++y :: b→z=y∨z∈x :: a++b:=fun z hz=>by
     rcases List.mem_append.1 hz with p|p
     ·exact .inr (List.mem_append.2 (.inl p))
     ·rcases List.mem_cons.1 p with p|p
      ·exact .inl p
      ·exact .inr (List.mem_append.2 (.inr p))
    refine gen (x :: a) b m y ih hall (fun z hz=>?_) (by simp) (fun z hz=>?_) (fun z hz e=>?_) (fun z hz e _=>?_)
    ·rcases sp z hz with rfl|p
     ·exact .inr ⟨jzqg _,Int.le_refl _⟩
     ·exact .inl p
    ·rcases List.mem_append.1 hz with p|p
     ·exact List.mem_append.2 (.inl p)
     ·exact List.mem_append.2 (.inr (List.mem_cons_of_mem _ p))
    ·rcases sp z hz with rfl|p
     ·exact Int.le_refl _
     ·exact absurd e (jzpl (hall z p))
    ·rcases sp z hz with rfl|p
     ·rfl
     ·exact absurd e (jzpl (hall z p))
   ·rename_i h1 h2
    have hs:rsm x y:=by rcases jztc x y with h|h|h;exact absurd h h1;exact h;exact absurd h h2
    split at h
    rotate_left
    ·cases h
    rename_i hr
    cases e:mrg a b with
    |none=>rw[e]at h;cases h
    |some m =>
    rw[e]at h;cases h
    have ih:=jzq1 n a b m (by omega) a2 b2 e
    have hw:({ x with Known:=min x.Known y.Known }:jzn4)=x∧x.Known≤y.Known∨({ x with Known:=min x.Known y.Known }:jzn4)=y∧y.Known≤x.Known:=by
     by_cases hk:x.Known≤y.Known
     ·refine .inl ⟨?_,hk⟩
      rw[Int.min_eq_left hk]
     ·refine .inr ⟨?_,by omega⟩
      rw[Int.min_eq_right (by omega)]
      exact rrp.eq (a:={ x with Known:=y.Known }) hr rfl
    have sp:∀z,z∈x :: a++y :: b→z=x∨z=y∨z∈a++b:=fun z hz=>by
     rcases List.mem_append.1 hz with p|p
     ·rcases List.mem_cons.1 p with p|p
      ·exact .inl p
      ·exact .inr (.inr (List.mem_append.2 (.inl p)))
     ·rcases List.mem_cons.1 p with p|p
      ·exact .inr (.inl p)
      ·exact .inr (.inr (List.mem_append.2 (.inr p)))
    generalize ({ x with Known:=min x.Known y.Known }:jzn4)=w at *
    have sx:rsm x w:=by rcases hw with ⟨rfl,_⟩|⟨rfl,_⟩;exact jzqg _;exact hs
    have sy:rsm y w:=hs.symm.trans sx
    have kx:w.Known≤x.Known:=by rcases hw with ⟨rfl,_⟩|⟨rfl,k⟩;exact Int.le_refl _;exact k
    have ky:w.Known≤y.Known:=by rcases hw with ⟨rfl,k⟩|⟨rfl,_⟩;exact k;exact Int.le_refl _
    have rx:rrp x w:=by rcases hw with ⟨rfl,_⟩|⟨rfl,k⟩;exact jzsa _;exact hr
    have hall:∀z,z∈a++b→rlt w z:=fun z hz=>by
     rcases List.mem_append.1 hz with p|p
     ·exact jzrz sx.symm (a1 z p)
     ·exact jzrz sy.symm (b1 z p)
    refine gen a b m w ih hall (fun z hz=>?_) ?_ (fun z hz=>?_) (fun z hz e=>?_) (fun z hz e k=>?_)
    ·rcases sp z hz with rfl|rfl|p
     ·exact .inr ⟨sx,kx⟩
     ·exact .inr ⟨sy,ky⟩
     ·exact .inl p
    ·rcases hw with ⟨rfl,_⟩|⟨rfl,_⟩<;>simp
    ·rcases List.mem_append.1 hz with p|p
     ·exact List.mem_append.2 (.inl (List.mem_cons_of_mem _ p))
     ·exact List.mem_append.2 (.inr (List.mem_cons_of_mem _ p))
    ·rcases sp z hz with rfl|rfl|p
     ·exact kx
     ·exact ky
     ·exact absurd e (jzpl (hall z p))
    ·rcases sp z hz with rfl|rfl|p
     ·exact rx.eq (by omega)
     ·exact(hr.symm.trans rx).eq (by omega)
     ·exact absurd e (jzpl (hall z p))
theorem jzrh:jzo6=some true:=by decide +kernel
theorem jztj(r:jzn4):jzom r=some (decide (RR r)):=by
 unfold jzom jzo0 RR
 simp only[bd_s]
 by_cases h1:0≤r.Gauge∧r.Gauge≤39
 rotate_left
 ·have e:(bif decide (0≤r.Gauge) then decide (r.Gauge≤39) else false)=false:=by
   by_cases h:0≤r.Gauge
   ·simp[h];omega
   ·simp[h]
  rw[e]
  simp[wzcn,bd_s,h1]
 by_cases h2:0≤r.Seq∧r.Seq≤1099511627776
 rotate_left
 ·have e:(bif decide (0≤r.Seq) then decide (r.Seq≤1099511627776) else false)=false:=by
   by_cases h:0≤r.Seq
   ·simp[h];omega
   ·simp[h]
  rw[e]
  simp[qzbx,wzcn,bd_s,h1,h2]
 by_cases h3:(0≤r.From∧r.From<r.To)∧r.To≤1402560
 rotate_left
 ·have e:(bif (bif (decide (0≤r.From)) then(decide (r.From<r.To)) else false) then(decide (r.To≤1402560)) else false)=false:=by
   rw[Bool.cond_false_right,Bool.cond_false_right,←Bool.decide_and,←Bool.decide_and,decide_eq_false h3]
  simp[qzbx,wzcn,bd_s,h1,h2,h3]at e ⊢
  by_cases f1:0≤r.From
  ·by_cases f2:r.From<r.To
   ·by_cases f3:r.To≤1402560
    ·omega
    ·simp[f1,f2,f3,wzcn,bd_s]
   ·simp[f1,f2,wzcn,bd_s]
  ·simp[f1,wzcn,bd_s]
 by_cases h4:0≤r.Stage∧r.Stage≤1000
 rotate_left
 ·have e:(bif decide (0≤r.Stage) then decide (r.Stage≤1000) else false)=false:=by
   by_cases h:0≤r.Stage
   ·simp[h];omega
   ·simp[h]
  simp[qzbx,wzcn,bd_s,h1,h2,h3,e,h4]
 simp[qzbx,wzcn,bd_s,h1,h2,h3,h4,Bool.cond_false_right]
def rcmp(a b:jzn4):Int:=if rlt a b then -1 else if rsm a b then 0 else 1
theorem jzxe(x y:Int):qzca x y=some (if x<y then -1 else if y<x then 1 else 0):=by
 unfold qzca qzcc
 simp only[bd_s,decide_true,Bool.not_true]
 rw[qzil,qzil]
 by_cases h:x<y
 ·rw[it_d h,if_pos h]
 ·rw[it_n h,if_neg h]
  by_cases h2:y<x
  ·rw[it_d h2,if_pos h2]
  ·rw[it_n h2,if_neg h2]
theorem jzvz(x y:Int):jzqc [x,y]=some (if x=0 then y else x):=by
 unfold jzqc
 rw[wz3m (l:=[x,y]) (fun _ z=>if z=0 then none else some z) (by simp) ?_ ?_]
 ·by_cases hx:x=0
  ·subst hx
   by_cases hy:y=0
   ·subst hy;rfl
   ·simp[scan,hy,sOut,bd_s]
  ·simp[scan,hx,sOut,bd_s]
 ·intro k z hz
  have hk:=(List.getElem?_eq_some_iff.1 hz).1
  simp only[jzp9]
  rw[it_d (by omega),at_e rfl hz]
  simp only[bd_s]
  by_cases h:z=0
  ·rw[qzk5 h,qz3 (by simp at hk;omega),if_pos h]
  ·rw[qzhj h,if_neg h]
 ·simp only[jzp9]
  rw[it_n (by omega)]
theorem jzr4(a b:jzn4):jzon a b=some (rcmp a b):=by
 unfold jzon
 rw[jzxe,jzxe]
 simp only[bd_s]
 rw[jzvz]
 simp only[bd_s]
 congr 1
 unfold rcmp rlt rsm
 by_cases h1:a.Gauge<b.Gauge
 ·simp[h1]
 ·by_cases h2:b.Gauge<a.Gauge
  ·simp[h1,h2,show ¬a.Gauge=b.Gauge by omega]
  ·have:a.Gauge=b.Gauge:=by omega
   by_cases h3:a.Seq<b.Seq
   ·simp[this,h3]
   ·by_cases h4:b.Seq<a.Seq
    ·simp[this,h3,h4,show ¬a.Seq=b.Seq by omega]
    ·simp[this,h3,h4,show a.Seq=b.Seq by omega]
theorem jzri{a b:jzn4}:rcmp a b<0↔rlt a b:=by
 unfold rcmp
 split
 ·simp[*]
 ·split<;>simp[*]
theorem jzxw{a b:jzn4}:rcmp a b=0↔rsm a b:=by
 unfold rcmp
 split
 ·rename_i h;simp[jzqr h]
 ·split<;>simp[*]
theorem jzsv{a b:jzn4}:0<rcmp a b↔rlt b a:=by
 unfold rcmp
 split
 ·rename_i h;simp[jztu h]
 ·split
  ·rename_i h;simp;exact fun k=>jzqr k h.symm
  ·rename_i h1 h2;simp;rcases jztc a b with h|h|h;exact absurd h h1;exact absurd h h2;exact h
def rchF(l:List jzn4)(k:Nat)(r:jzn4):Option Int:=if RR r∧(0<k→rlt (l.getD (k-1) default) r) then none else some 1
def rchE(l:List jzn4):Int:=if 4000<l.length then 2 else(scan (rchF l) 0 l).getD 0
theorem wzsi(l:List jzn4):jzn8 l=some (rchE l):=by
 unfold jzn8 rchE
 by_cases h0:4000<l.length
 ·rw[it_d (by omega),if_pos h0]
 rw[it_n (by omega),if_neg h0,wz3m (l:=l) (rchF l) (by omega) ?_ ?_]
 ·simp only[bd_s];exact wz5y
 ·intro k x hx
  have hk:=(List.getElem?_eq_some_iff.1 hx).1
  simp only[jzpn]
  rw[it_d (by omega),at_e rfl hx]
  simp only[bd_s]
  rw[jztj]
  simp only[bd_s,rchF]
  by_cases hr:RR x
  rotate_left
  ·simp only[hr,decide_false,Bool.not_false,Bool.not_true,Bool.false_and,Bool.true_or]
   rw[wzdp,wzcn]
   simp only[bd_s]
   rw[wzcn]
   simp only[bd_s,cond_true]
   rw[wzdh,if_neg (by simp)]
  simp only[hr,decide_true,Bool.not_true,Bool.not_false,Bool.true_and]
  by_cases hk0:k=0
  ·subst hk0
   simp only[Int.ofNat_zero,Int.natCast_zero,Int.lt_irrefl,decide_false,Bool.not_false,Bool.true_or,Int.lt_irrefl,false_implies,and_true,if_true]
   rw[wzdp,wzcn]
   simp only[bd_s]
   rw[wzcn]
   simp only[bd_s,cond_false]
   rw[qzil,qz3 (by omega)]
   rfl
  have hk1:0<k:=by omega
  rw[show decide ((0:Int)<(k:Int))=true by simp;omega]
  rw[ck_t (by simp[inB];omega),qzbx,wz9f hx hk1]
  simp only[bd_s]
  rw[qzbx,jzr4]
  simp only[bd_s,cond_false,cond_true]
  by_cases hl:rlt (l.getD (k-1) default) x
  ·rw[it_n (by have:=jzri.2 hl;omega),qz3 (by omega),if_pos (⟨trivial,fun _=>hl⟩)]
  ·rw[it_d (by have:=mt jzri.1 hl;omega),if_neg (fun h=>hl (h.2 hk1))]
 ·simp only[jzpn]
  rw[it_n (by omega)]
theorem jzp7{l:List jzn4}:rchE l=0↔l.length≤4000∧Bk l:=by
 unfold rchE
 by_cases h0:4000<l.length
 ·rw[if_pos h0]
  exact⟨fun h=>(by cases h),fun h=>by omega⟩
 rw[if_neg h0]
 constructor
 ·intro h
  refine⟨by omega,?_⟩
  cases hs:scan (rchF l) 0 l with
  |some o =>
   obtain⟨i,x,hx,hi,_⟩:=wz6q 0 l o hs
   rw[hs]at h
   simp only[Option.getD_some]at h
   unfold rchF at hi
   split at hi
   ·cases hi
   ·cases hi;cases h
  |none =>
   have hn:∀i x,l[i]?=some x→RR x∧(0<i→rlt (l.getD (i-1) default) x):=fun i x hx=>by
    have:=wz5l hs hx
    unfold rchF at this
    split at this
    ·assumption
    ·cases this
   refine⟨fun r hr=>?_,?_⟩
   ·obtain⟨i,hi,rfl⟩:=List.getElem_of_mem hr
    exact(hn i _ (List.getElem?_eq_getElem hi)).1
   ·have step:∀i,(hi:i+1<l.length)→rlt l[i] l[i+1]:=fun i hi=>by
     have:=(hn (i+1) _ (List.getElem?_eq_getElem hi)).2 (by omega)
     simpa [List.getD,show i<l.length by omega] using this
    unfold Asc
    rw[List.pairwise_iff_getElem]
    intro i j hi hj hij
    induction j with
    |zero=>omega
    |succ j ih =>
     by_cases e:i=j
     ·subst e;exact step i hj
     ·exact jzrg (ih (by omega) (by omega)) (step j hj)
 ·rintro⟨_,hb⟩
  rw[jzax]
  ·rfl
  ·intro i x hx
   obtain⟨hi,rfl⟩:=List.getElem?_eq_some_iff.1 hx
   unfold rchF
   rw[if_pos]
   refine⟨hb.right _ (List.getElem_mem _),fun h=>?_⟩
   have:=jzvh hb.asc (show i-1<l.length by omega) hi (by omega)
   simpa [List.getD,show i-1<l.length by omega] using this
theorem jzvi(a b:jzn4):jzo4 a b=some (decide (rrp a b)):=by
 unfold jzo4 rrp
 congr 1
 rw[Bool.eq_iff_iff]
 simp
 exact decide_eq_true_iff.symm
theorem jzxs{l:List jzn4}(hl:l.length≤4000)(ha:Asc l)(r:jzn4):∃k:Nat,∃b:Bool,jzox l r (fun a0 a1=>jzon a0 a1)=some ((k:Int),b)∧k≤l.length∧(∀i,(hi:i<l.length)→i<k→rlt l[i] r)∧(∀i,(hi:i<l.length)→k≤i→¬rlt l[i] r)∧(b=true↔∃h:k<l.length,rsm l[k] r):=by
 unfold jzox
 obtain⟨o,e,k,rfl,hk,h1,h2⟩:=vzf (s:=((0:Int),(l.length:Int))) (body:=jzp4 (fun a0 a1=>jzon a0 a1) r l)
  (fun s=>∃i j:Nat,s=((i:Int),(j:Int))∧i≤j∧j≤l.length∧(∀m,(hm:m<l.length)→m<i→rlt l[m] r)∧(∀m,(hm:m<l.length)→j≤m→¬rlt l[m] r)) (fun s=>(s.2-s.1).toNat)
  (fun o=>∃k:Nat,o=(k:Int)∧k≤l.length∧(∀m,(hm:m<l.length)→m<k→rlt l[m] r)∧(∀m,(hm:m<l.length)→k≤m→¬rlt l[m] r)) (by
  rintro s ⟨i,j,rfl,hij,hj,h1,h2⟩
  simp only[jzp4]
  by_cases h:i<j
  rotate_left
  ·right
   rw[it_n (by omega)]
   obtain rfl:i=j:=by omega
   exact⟨_,rfl,i,rfl,hj,h1,h2⟩
  left
  have hm:Int.fdiv (((i:Int)+j)%18446744073709551616) 2=(((i+j) / 2:Nat):Int):=by
   rw[Int.emod_eq_of_lt (by omega) (by omega),Int.fdiv_eq_ediv_of_nonneg _ (by decide)];omega
  rw[it_d (by omega),qz3 (by omega),hm,qz3 (by omega)]
  have hlt:(i+j) / 2<l.length:=by omega
  rw[at_e rfl (List.getElem?_eq_getElem hlt)]
  simp only[bd_s]
  rw[jzr4]
  simp only[bd_s]
  by_cases hc:rlt l[(i+j) / 2] r
  ·rw[it_d (jzri.2 hc),qz3 (by omega)]
   refine⟨_,rfl,⟨(i+j) / 2+1,j,by simp,by omega,hj,fun m hm hm2=>?_,h2⟩,by simp only;omega⟩
   by_cases e:m=(i+j) / 2
   ·subst e;exact hc
   ·exact jzrg (jzvh ha hm hlt (by omega)) hc
  ·rw[it_n (mt jzri.1 hc)]
   refine⟨_,rfl,⟨i,(i+j) / 2,rfl,by omega,by omega,h1,fun m hm hm2 hr=>?_⟩,by simp only;omega⟩
   by_cases e:m=(i+j) / 2
   ·subst e;exact hc hr
   ·exact hc (jzrg (jzvh ha hlt hm (by omega)) hr)) ⟨0,l.length,by simp,Nat.zero_le _,Nat.le_refl _,fun m hm h=>by omega,fun m hm h=>by omega⟩ (by simp;omega)
 rw[e]
 simp only[bd_s]
 by_cases hk2:k<l.length
 ·rw[show decide ((k:Int)<(l.length:Int))=true by simp;omega]
  simp only[qzbx,cond_true]
  rw[at_e rfl (List.getElem?_eq_getElem hk2)]
  simp only[bd_s]
  rw[jzr4]
  simp only[bd_s]
  exact⟨k,_,rfl,hk,h1,h2,by simp[hk2,jzxw]⟩
 ·rw[show decide ((k:Int)<(l.length:Int))=false by simp;omega]
  simp only[wzcn,cond_false,bd_s]
  exact⟨k,_,rfl,hk,h1,h2,by simp[hk2]⟩
structure jzx2(l m:List jzn4)(r:jzn4):Prop where
 asc:Asc m
 mem:∀y,y∈m↔y∈l∨y=r
 len:m.length=l.length+1
structure jzx0(l m:List jzn4)(r:jzn4):Prop where
 asc:Asc m
 mem:∀y,y∈m↔y=r∨y∈l∧¬rsm y r
 len:m.length=l.length
def RAcc(F:Option (List jzn4×Int))(l:List jzn4)(r:jzn4):Prop :=
 (∃x,x∈l∧rsm x r∧((¬rrp x r∧F=some ([],24))∨(rrp x r∧x.Known≤r.Known∧F=some ([],9))∨(rrp x r∧¬x.Known≤r.Known∧∃m,F=some (m,0)∧jzx0 l m r)))
  ∨ ((∀x,x∈l→¬rsm x r)∧((l.length=4000∧F=some ([],2))∨(l.length<4000∧∃m,F=some (m,0)∧jzx2 l m r)))
theorem jzxm{l:List jzn4}{r:jzn4}(h:rchE l=0)(hr:¬RR r):jzot l r=some ([],1):=by
 unfold jzot
 have e:jzp8 l r=some ([],1):=by
  unfold jzp8
  rw[wzsi]
  simp only[bd_s]
  rw[qzk5 h,jztj]
  simp only[bd_s]
  rw[qzhj hr]
 rw[e]
theorem jzxu{l:List jzn4}{r:jzn4}(h:rchE l=0)(hr:RR r):RAcc (jzot l r) l r:=by
 obtain⟨hl,hb⟩:=jzp7.1 h
 obtain⟨k,b,ef,hk,h1,h2,h3⟩:=jzxs hl hb.asc r
 cases b
 ·have hn:∀x,x∈l→¬rsm x r:=fun x hx hs=>by
   obtain⟨i,hi,rfl⟩:=List.getElem_of_mem hx
   by_cases hik:i<k
   ·exact jzqr (h1 i hi hik) hs
   ·have hkl:k<l.length:=by omega
    have h4:=h2 k hkl (Nat.le_refl _)
    have h5:¬rsm l[k] r:=fun e=>by have:=h3.2 ⟨hkl,e⟩;cases this
    rcases jztc l[k] r with h|h|h
    ·exact h4 h
    ·exact h5 h
    ·by_cases e:i=k
     ·subst e;exact h5 hs
     ·exact jzpl (jzrg h (jzvh hb.asc hkl hi (by omega))) hs
  refine .inr ⟨hn,?_⟩
  by_cases h4:l.length=4000
  ·refine .inl ⟨h4,?_⟩
   unfold jzot
   have e:jzp8 l r=some ([],2):=by
    unfold jzp8
    rw[wzsi]
    simp only[bd_s]
    rw[qzk5 h,jztj]
    simp only[bd_s]
    rw[qzk5 hr,ef]
    simp only[bd_s,Bool.not_false,cond_true]
    rw[it_d (by omega)]
   rw[e]
  ·refine .inr ⟨by omega,insL l k r,?_,?_,fun y=>jzxq,jzxr⟩
   ·unfold jzot
    have e:jzp8 l r=none:=by
     unfold jzp8
     rw[wzsi]
     simp only[bd_s]
     rw[qzk5 h,jztj]
     simp only[bd_s]
     rw[qzk5 hr,ef]
     simp only[bd_s,Bool.not_false,cond_true]
     rw[it_n (by omega),wzdh]
    rw[e]
    unfold jzp6
    rw[wzsi,jztj,ef]
    simp only[bd_s]
    rw[ck_t (by simp[h,hr];omega)]
    rfl
   ·refine jzxo hb.asc h1 fun i hi hki=>?_
    have hkl:k<l.length:=by omega
    rcases jztc l[i] r with h|h|h
    ·exact absurd h (h2 i hi hki)
    ·exact absurd h (hn _ (List.getElem_mem _))
    ·exact h
 ·obtain⟨hkl,hs⟩:=h3.1 rfl
  refine .inl ⟨l[k],List.getElem_mem _,hs,?_⟩
  have he:∀z,(bd (at? l (k:Int)) fun x1=>bd (jzo4 x1 r) fun r5=>ite' (!r5) (some (([]:List jzn4),(24:Int))) (bd (at? l (k:Int)) fun x2=>ite' (decide (x2.Known≤r.Known)) (some ([],9)) (bd (vzi l) fun r6=>bd (at? r6 (k:Int)) fun x3=>some ((List.set r6 (Int.toNat (k:Int)) r),0))))=some z→jzot l r=some z:=fun z hz=>by
   unfold jzot
   have e:jzp8 l r=some z:=by
    unfold jzp8
    rw[wzsi]
    simp only[bd_s]
    rw[qzk5 h,jztj]
    simp only[bd_s]
    rw[qzk5 hr,ef]
    simp only[bd_s,Bool.not_true,cond_false]
    rw[qzil,qzil]
    exact hz
   rw[e]
  have ea:at? l (k:Int)=some l[k]:=at_e rfl (List.getElem?_eq_getElem hkl)
  rw[ea]at he
  simp only[bd_s]at he
  rw[jzvi]at he
  simp only[bd_s]at he
  by_cases hp:rrp l[k] r
  rotate_left
  ·exact .inl ⟨hp,he _ (by rw[qzhj hp])⟩
  rw[qzk5 hp]at he
  by_cases hq:l[k].Known≤r.Known
  ·exact .inr (.inl ⟨hp,hq,he _ (by rw[it_d hq])⟩)
  rw[it_n hq]at he
  refine .inr (.inr ⟨hp,hq,l.set k r,he _ ?_,jzxv hb.asc hkl hs,fun y=>jzxx hb.asc hkl hs,List.length_set⟩)
  unfold vzi
  rw[ck_t (by simp<;>omega)]
  simp only[bd_s]
  rw[ea]
  simp only[bd_s,Int.toNat_natCast]
theorem jzru{α:Type}{e:α}{E:List α}:sub (e :: E) 1 ((e :: E).length:Int)=E:=by
 unfold sub
 simp
theorem jzuc:∀(n:Nat) (a b out:List jzn4),a.length+b.length≤n→out.length+n≤10000 →
  ∃o,lp jzow (a,b,out)=some o∧match mrg a b with
   |none=>o=.inr ([],24)
   |some l=>∃a' b' out',o=.inl (a',b',out')∧out'++a'++b'=out++l:=by
 intro n a b out hn ho
 obtain⟨o,e,ho⟩:=vzf (s:=(a,b,out)) (body:=jzow)
  (fun s=>s.2.2.length+s.1.length+s.2.1.length≤10000∧(match mrg a b,mrg s.1 s.2.1 with | none,none=>True | some l,some m=>out++l=s.2.2++m | _,_=>False)) (fun s=>s.1.length+s.2.1.length)
  (fun o=>match mrg a b with
   |none=>o=.inr ([],24)
   |some l=>∃a' b' out',o=.inl (a',b',out')∧out'++a'++b'=out++l) (by
  rintro⟨x,y,z⟩ ⟨hz,hI⟩
  simp only at hz hI
  match x,y with
  |[],y =>
   right
   simp only[jzow]
   rw[it_f (by simp)]
   refine⟨_,rfl,?_⟩
   rw[mrg]at hI
   cases h:mrg a b with
   |none=>rw[h]at hI;exact hI.elim
   |some l=>rw[h]at hI;exact⟨[],y,z,rfl,by simpa using hI.symm⟩
  |p :: x,[] =>
   right
   simp only[jzow]
   rw[it_f (by simp)]
   refine⟨_,rfl,?_⟩
   rw[mrg]at hI
   cases h:mrg a b with
   |none=>rw[h]at hI;exact hI.elim
   |some l=>rw[h]at hI;exact⟨p :: x,[],z,rfl,by simpa using hI.symm⟩
  |p :: x,q :: y =>
   simp only[List.length_cons]at hz
   simp only[jzow]
   rw[it_t (by simp),show at? (p :: x) 0=some p from id rfl,show at? (q :: y) 0=some q from id rfl]
   simp only[bd_s]
   rw[jzr4]
   simp only[bd_s]
   rw[mrg]at hI
   by_cases h1:rlt p q
   ·rw[it_d (jzri.2 h1),ck_d (by simp<;>omega),qzhn (by simp<;>omega),jzru]
    left
    refine⟨_,rfl,⟨by simp<;>omega,?_⟩,by simp<;>omega⟩
    rw[if_pos h1]at hI
    dsimp only
    cases hm:mrg x (q :: y) with
    |none =>
     rw[hm]at hI
     cases h:mrg a b with
     |none=>trivial
     |some l=>rw[h]at hI;exact hI.elim
    |some m =>
     rw[hm]at hI
     cases h:mrg a b with
     |none=>rw[h]at hI;exact hI.elim
     |some l=>rw[h]at hI;simpa using hI
   rw[it_n (mt jzri.1 h1)]
   rw[if_neg h1]at hI
   by_cases h2:rlt q p
   ·rw[it_d (jzsv.2 h2),ck_d (by simp<;>omega),qzhn (by simp<;>omega),jzru]
    left
    refine⟨_,rfl,⟨by simp<;>omega,?_⟩,by simp⟩
    rw[if_pos h2]at hI
    dsimp only
    cases hm:mrg (p :: x) y with
    |none =>
     rw[hm]at hI
     cases h:mrg a b with
     |none=>trivial
     |some l=>rw[h]at hI;exact hI.elim
    |some m =>
     rw[hm]at hI
     cases h:mrg a b with
     |none=>rw[h]at hI;exact hI.elim
     |some l=>rw[h]at hI;simpa using hI
   rw[it_n (mt jzsv.1 h2),jzvi]
   rw[if_neg h2]at hI
   simp only[bd_s]
   by_cases h3:rrp p q
   ·rw[qzk5 h3,ck_d (by simp<;>omega),qzhn (by simp<;>omega),qzhn (by simp<;>omega),jzru,jzru]
    left
    refine⟨_,rfl,⟨by simp<;>omega,?_⟩,by simp<;>omega⟩
    rw[if_pos h3]at hI
    dsimp only
    cases hm:mrg x y with
    |none =>
     rw[hm]at hI
     cases h:mrg a b with
     |none=>trivial
     |some l=>rw[h]at hI;exact hI.elim
    |some m =>
     rw[hm]at hI
     cases h:mrg a b with
     |none=>rw[h]at hI;exact hI.elim
     |some l=>rw[h]at hI;simpa using hI
   ·rw[qzhj h3]
    right
    refine⟨_,rfl,?_⟩
    rw[if_neg h3]at hI
    cases h:mrg a b with
    |none=>rfl
    | some l=>rw[h]at hI;exact hI.elim) ⟨by dsimp only;omega,by dsimp only;cases mrg a b<;>simp⟩ (by dsimp only;omega)
 exact⟨o,e,ho⟩
def mrgE(a b:List jzn4):List jzn4×Int:=if rchE a≠0 then([],rchE a) else if rchE b≠0 then([],rchE b) else match mrg a b with
 |none=>([],24)
 |some l=>if 4000<l.length then([],2) else(l,0)
theorem jzpp(a b:List jzn4):jzoc a b=some (mrgE a b):=by
 unfold jzoc mrgE
 rw[wz3m (l:=[a,b]) (fun _ z=>if rchE z≠0 then some (([]:List jzn4),rchE z) else none) (by simp) ?_ ?_]
 ·by_cases h1:rchE a≠0
  ·simp only[scan,if_pos h1,sOut,bd_s]
  by_cases h2:rchE b≠0
  ·simp only[scan,if_pos h2,if_neg h1,sOut,bd_s]
  simp only[scan,if_neg h2,if_neg h1,sOut,bd_s]
  obtain⟨ha,_⟩:=jzp7.1 (Decidable.not_not.1 h1)
  obtain⟨hb,_⟩:=jzp7.1 (Decidable.not_not.1 h2)
  obtain⟨o,e,ho⟩:=jzuc (a.length+b.length) a b [] (Nat.le_refl _) (by simp<;>omega)
  rw[e]
  simp only[bd_s]
  cases hm:mrg a b with
  |none=>rw[hm]at ho;subst ho;rfl
  |some l =>
   rw[hm]at ho
   obtain⟨a',b',out',rfl,ho⟩:=ho
   rw[List.nil_append]at ho
   have hlen:=jzpr _ a b l (Nat.le_refl _) hm
   have h5:(out'++a').length≤l.length:=by rw[←ho];simp
   simp only
   rw[ck_d (by omega),ho,ck_d (by omega)]
   by_cases h:4000<l.length
   ·rw[it_d (by omega),if_pos h]
   ·rw[it_n (by omega),if_neg h]
 ·intro k z hz
  have hk:=(List.getElem?_eq_some_iff.1 hz).1
  simp only[jzpo]
  rw[it_d (by omega),at_e rfl hz]
  simp only[bd_s]
  rw[wzsi]
  simp only[bd_s]
  by_cases h:rchE z=0
  ·rw[qzk5 h,qz3 (by simp at hk;omega),if_neg (by simp[h])]
  ·rw[qzhj h,if_pos h]
 ·simp only[jzpo]
  rw[it_n (by simp)]
theorem jzro{a b:List jzn4}(hl:a.length≤1000000):jzo7 a b=some (decide (a=b)):=by
 unfold jzo7
 by_cases hn:a.length=b.length
 rotate_left
 ·rw[qzhj (by omega),decide_eq_false fun e=>hn (by rw[e])]
 rw[qzk5 (by omega),wz3m (l:=a) (fun k x=>if x=b.getD k default then none else some false) (by omega) ?_ ?_]
 ·cases hs:scan (fun k x=>if x=b.getD k default then none else some false) 0 a with
  |none =>
   have:a=b:=by
    refine List.ext_getElem hn fun i h1 h2=>?_
    have:=wz5l hs (List.getElem?_eq_getElem h1)
    split at this
    ·rename_i h;rw[h];simp[List.getD,h2]
    ·cases this
   subst this
   simp[sOut,bd_s]
  |some o =>
   obtain⟨i,x,hx,hi,_⟩:=wz6q 0 a o hs
   split at hi
   ·cases hi
   ·rename_i h
    cases hi
    rw[decide_eq_false]
    ·simp[sOut,bd_s]
    ·rintro rfl
     apply h
     rw[Nat.zero_add,List.getD,hx];rfl
 ·intro k x hx
  have hk:=(List.getElem?_eq_some_iff.1 hx).1
  simp only[jzpy]
  have hb:b[k]?=some (b.getD k default):=by simp[List.getD,show k<b.length by omega]
  rw[it_d (by omega),at_e rfl hx,at_e rfl hb]
  simp only[bd_s]
  have he:(decide (x.Gauge=(b.getD k default).Gauge)&&(decide (x.Seq=(b.getD k default).Seq)&&(decide (x.From=(b.getD k default).From)&&(decide (x.To=(b.getD k default).To)&&(decide (x.Stage=(b.getD k default).Stage)&&(decide (x.Known=(b.getD k default).Known)&&true))))))=decide (x=b.getD k default):=by
   generalize b.getD k default=y
   cases x;cases y
   rw[Bool.eq_iff_iff]
   simp
  rw[he]
  by_cases h:x=b.getD k default
  ·rw[qzk5 h,qz3 (by omega),if_pos h]
  ·rw[qzhj h,if_neg h]
 ·simp only[jzpy]
  rw[it_n (by omega)]
theorem jzxk{L:List jzn4}{r:jzn4}(c:RCon L)(hr:RR r)(h:∀y,y∈L→rsm y r→rrp y r):RCon (L++[r]):=by
 refine⟨fun x hx=>?_,fun x y hx hy e=>?_⟩
 ·rcases List.mem_append.1 hx with p|p
  ·exact c.right x p
  ·rw[List.mem_singleton.1 p];exact hr
 ·rcases List.mem_append.1 hx with p|p<;>rcases List.mem_append.1 hy with q|q
  ·exact c.rep x y p q e
  ·rw[List.mem_singleton.1 q]at e ⊢;exact h x p e
  ·rw[List.mem_singleton.1 p]at e ⊢;exact(h y q e.symm).symm
  ·rw[List.mem_singleton.1 p,List.mem_singleton.1 q];exact jzsa _
theorem jzxl{α:Type}[DecidableEq α]:∀(m L:List α),m.Nodup→(∀x,x∈m→x∈L)→m.length≤L.length
 |[],_,_,_=>Nat.zero_le _
 |x :: m,L,h,hs=>by
  obtain⟨h1,h2⟩:=List.nodup_cons.1 h
  have hx:=hs x (List.mem_cons_self ..)
  have:=jzxl m (L.erase x) h2 fun y hy=>by
   refine(List.mem_erase_of_ne fun e=>?_).2 (hs y (List.mem_cons_of_mem _ hy))
   subst e;exact h1 hy
  rw[List.length_erase_of_mem hx]at this
  have:=List.length_pos_of_mem hx
  simp only[List.length_cons];omega
theorem jzxj{L m:List jzn4}(h:IsBk L m):m.length≤L.length:=by
 have hd:m.Nodup:=by
  refine h.asc.imp fun {a b} e=>?_
  intro k;subst k;exact jzts e
 have hs:∀x,x∈m→x∈L:=fun x hx=>((h.mem x).1 hx).1
 exact jzxl _ _ hd hs
theorem wz8x{l:List jzn4}(hl:l.length≤30):(RCon l∧∃m,jzxf l=some (m,true)∧IsBk l m)∨(¬RCon l∧∃m,jzxf l=some (m,false)):=by
 unfold jzxf
 obtain⟨o,e,ho⟩:=vzf (s:=(([]:List jzn4),(0:Int))) (body:=jzxi l)
  (fun s=>∃k:Nat,∃out,s=(out,(k:Int))∧k≤l.length∧RCon (l.take k)∧IsBk (l.take k) out) (fun s=>(l.length-s.2).toNat)
  (fun o=>(RCon l∧∃m,o=.inl m∧IsBk l m)∨(¬RCon l∧o=.inr ([],false))) (by
  rintro s ⟨k,out,rfl,hk,hc,hb⟩
  simp only[jzxi]
  by_cases hlt:k<l.length
  rotate_left
  ·right
   rw[it_n (by omega)]
   rw[List.take_of_length_le (by omega)]at hc hb
   exact⟨_,rfl,.inl ⟨hc,out,rfl,hb⟩⟩
  have hx:=List.getElem?_eq_getElem hlt
  have hxm:l[k]∈l:=List.getElem_mem _
  have htk:l.take (k+1)=l.take k++[l[k]]:=jzlb hx
  rw[it_d (by omega),at_e rfl hx]
  simp only[bd_s]
  generalize l[k]=x at *
  have hlen:=jzxj hb
  rw[List.length_take]at hlen
  have hz:rchE out=0:=jzp7.2 ⟨by omega,hb.bk hc⟩
  by_cases hr:RR x
  rotate_left
  ·rw[jzxm hz hr]
   simp only[bd_s]
   rw[it_n (by decide),it_n (by decide)]
   exact .inr ⟨_,rfl,.inr ⟨fun c=>hr (c.right x hxm),rfl⟩⟩
  have fin:∀m,IsBk (l.take k++[x]) m→RCon (l.take k++[x])→∃k':Nat,∃out,((m,((k:Int)+1)):List jzn4×Int)=(out,(k':Int))∧k'≤l.length∧RCon (l.take k')∧IsBk (l.take k') out:=fun m h1 h2 =>
   ⟨k+1,m,by simp,hlt,by rw[htk];exact h2,by rw[htk];exact h1⟩
  rcases jzxu hz hr with ⟨z,hz,hs,hh⟩|⟨hn,hh⟩
  ·have hzl:z∈l.take k:=((hb.mem z).1 hz).1
   rcases hh with ⟨hp,e⟩|⟨hp,hq,e⟩|⟨hp,hq,m,e,hm⟩
   ·rw[e]
    simp only[bd_s]
    rw[it_n (by decide),it_n (by decide)]
    exact .inr ⟨_,rfl,.inr ⟨fun c=>hp (c.rep z x (List.mem_of_mem_take hzl) hxm hs),rfl⟩⟩
   ·rw[e]
    simp only[bd_s]
    rw[it_n (by decide),it_d (by decide),qz3 (by omega)]
    exact .inl ⟨_,rfl,fin out (jzxn hc hb hz hp hq) (jzxk hc hr fun y hy e=>(hc.rep y z hy hzl (e.trans hs.symm)).trans hp),by simp only;omega⟩
   ·rw[e]
    simp only[bd_s]
    rw[it_d (by decide),qz3 (by omega)]
    exact .inl ⟨_,rfl,fin m (jzxt hc hb hz hp hq hm.asc hm.mem) (jzxk hc hr fun y hy e=>(hc.rep y z hy hzl (e.trans hs.symm)).trans hp),by simp only;omega⟩
  ·rcases hh with ⟨h4,e⟩|⟨h4,m,e,hm⟩
   ·omega
   ·rw[e]
    simp only[bd_s]
    rw[it_d (by decide),qz3 (by omega)]
    refine .inl ⟨_,rfl,fin m (jzxp hc hb hn hm.asc hm.mem) (jzxk hc hr fun y hy e=>?_),by simp only;omega⟩
    obtain⟨w,hw,hws⟩:=hc.ex hy
    exact absurd (hws.trans e) (hn w ((hb.mem w).2 hw))) ⟨0,[],rfl,Nat.zero_le _,⟨fun r h=>(by simp at h),fun a b h=>(by simp at h)⟩,⟨List.Pairwise.nil,fun x=>⟨fun h=>(by cases h),fun h=>(by have:=h.1;simp at this)⟩⟩⟩ (by simp only;omega)
 rw[e]
 simp only[bd_s]
 rcases ho with ⟨c,m,rfl,h⟩|⟨c,rfl⟩
 ·exact .inl ⟨c,m,rfl,h⟩
 ·exact .inr ⟨c,[],rfl⟩
theorem jzp2{a b:List jzn4}(ha:rchE a=0)(hb:rchE b=0)(hn:a.length+b.length≤4000):mrgE a b=match mrg a b with
  |none=>([],24)
  |some l=>(l,0):=by
 unfold mrgE
 rw[if_neg (by simp[ha]),if_neg (by simp[hb])]
 cases h:mrg a b with
 |none=>rfl
 |some l =>
  have:=jzpr _ a b l (Nat.le_refl _) h
  simp only
  rw[if_neg (by omega)]
theorem jzqt{a b:List jzn4}(ha:Bk a)(hb:Bk b):mrg a b≠none↔RCon (a++b):=by
 rw[Ne,jzqz _ a b (Nat.le_refl _) ha.asc hb.asc]
 constructor
 ·intro h
  have h:∀x y,x∈a→y∈b→rsm x y→rrp x y:=fun x y hx hy e=>Decidable.byContradiction fun k=>h ⟨x,y,hx,hy,e,k⟩
  refine⟨fun r hr=>?_,fun x y hx hy e=>?_⟩
  ·rcases List.mem_append.1 hr with p|p
   ·exact ha.right r p
   ·exact hb.right r p
  ·rcases List.mem_append.1 hx with p|p<;>rcases List.mem_append.1 hy with q|q
   ·exact ha.con.rep x y p q e
   ·exact h x y p q e
   ·exact(h y x q p e.symm).symm
   ·exact hb.con.rep x y p q e
 ·rintro c ⟨x,y,hx,hy,e,k⟩
  exact k (c.rep x y (List.mem_append.2 (.inl hx)) (List.mem_append.2 (.inr hy)) e)
theorem jzp5{a b l:List jzn4}(ha:Bk a)(hb:Bk b)(h:mrg a b=some l):IsBk (a++b) l∧RCon (a++b)∧Bk l:=by
 obtain⟨h1,h2⟩:=jzq1 _ a b l (Nat.le_refl _) ha.asc hb.asc h
 have hc:=(jzqt ha hb).1 (by rw[h];simp)
 exact⟨⟨h1,h2⟩,hc,IsBk.bk ⟨h1,h2⟩ hc⟩
theorem jzsj{L M l m:List jzn4}(hl:IsBk L l)(hm:IsBk M m)(c:RCon (L++M)):∃r,mrg l m=some r∧IsBk (L++M) r∧Bk r:=by
 have cL:RCon L:=c.sub fun x hx=>List.mem_append.2 (.inl hx)
 have cM:RCon M:=c.sub fun x hx=>List.mem_append.2 (.inr hx)
 have hc:RCon (l++m):=c.sub fun x hx=>by
  rcases List.mem_append.1 hx with p|p
  ·exact List.mem_append.2 (.inl ((hl.mem x).1 p).1)
  ·exact List.mem_append.2 (.inr ((hm.mem x).1 p).1)
 cases h:mrg l m with
 |none=>exact absurd h ((jzqt (hl.bk cL) (hm.bk cM)).2 hc)
 |some r =>
  obtain⟨h1,_,h3⟩:=jzp5 (hl.bk cL) (hm.bk cM) h
  exact⟨r,rfl,⟨h1.asc,fun x=>(h1.mem x).trans (jzt7 hl.mem hm.mem c x)⟩,h3⟩
theorem jzxy{l:List jzn4}{turn part:Int}(ht:0≤turn∧turn≤255)(hp:0≤part∧part≤4294967295):jzxh l turn part=some true:=by
 unfold jzxh
 by_cases hn:30<l.length
 ·rw[it_d (by omega),jzrh];rfl
 rw[it_n (by omega)]
 obtain⟨o,e,⟨b1,t1,u1,v1⟩,rfl,hb,ht1,ht2,huv,hul⟩:=vzf (s:=((0:Int),([]:List jzn4),([]:List jzn4),([]:List jzn4),([]:List jzn4))) (body:=jzxg l part turn)
  (fun s=>∃k:Nat,∃b t u v,s=((k:Int),b,t,u,v)∧k≤l.length∧b=l.reverse.take k∧t.length=k∧(∀j,j<k→t[j]?=l[(j+turn.toNat)%l.length]?)∧(∀x,x∈u++v↔x∈l.take k)∧u.length+v.length=k) (fun s=>(l.length-s.1).toNat)
  (fun o=>∃q:List jzn4×List jzn4×List jzn4×List jzn4,o=q∧q.1=l.reverse∧q.2.1.length=l.length∧(∀j,j<l.length→q.2.1[j]?=l[(j+turn.toNat)%l.length]?)∧(∀x,x∈q.2.2.1++q.2.2.2↔x∈l)∧q.2.2.1.length+q.2.2.2.length=l.length) (by
  rintro s ⟨k,b,t,u,v,rfl,hk,h1,h2,h3,h4,h5⟩
  simp only[jzxg]
  by_cases hlt:k<l.length
  rotate_left
  ·right
   rw[it_n (by omega)]
   obtain rfl:k=l.length:=by omega
   refine⟨_,rfl,(b,t,u,v),rfl,?_,h2,h3,?_,h5⟩
   ·rw[h1,List.take_of_length_le (by simp)]
   ·rwa [List.take_length]at h4
  left
  have hbl:b.length=k:=by rw[h1,List.length_take,List.length_reverse];omega
  have hx:=List.getElem?_eq_getElem hlt
  have hr:l[l.length-1-k]?=some l[l.length-1-k]:=List.getElem?_eq_getElem (by omega)
  have hmod:(k+turn.toNat)%l.length<l.length:=Nat.mod_lt _ (by omega)
  have hm:=List.getElem?_eq_getElem hmod
  have em:((k:Int)+turn).tmod (l.length:Int)=(((k+turn.toNat)%l.length:Nat):Int):=by
   rw[Int.tmod_eq_emod_of_nonneg (by omega)]
   rw[show(k:Int)+turn=((k+turn.toNat:Nat):Int) by omega]
   exact(Int.natCast_emod _ _).symm
  have htk:l.take (k+1)=l.take k++[l[k]]:=jzlb hx
  have hrk:l.reverse.take (k+1)=l.reverse.take k++[l[l.length-1-k]]:=by
   refine jzlb ?_
   rw[List.getElem?_reverse hlt,hr]
  rw[it_d (by omega),qz3 (by omega),qz3 (by omega),at_e (n:=l.length-1-k) (by omega) hr]
  simp only[bd_s]
  rw[ck_d (by simp<;>omega),qz3 (by omega),qz3 (by omega),qzwv (by omega),em,at_e rfl hm]
  simp only[bd_s]
  rw[ck_d (by simp<;>omega),ck_d (by omega)]
  have ht':∀j,j<k+1→(t++[l[(k+turn.toNat)%l.length]])[j]?=l[(j+turn.toNat)%l.length]?:=fun j hj=>by
   by_cases e:j<k
   ·rw[List.getElem?_append_left (by omega)];exact h3 j e
   ·obtain rfl:j=k:=by omega
    rw[List.getElem?_append_right (by omega),h2,Nat.sub_self,hm];rfl
  cases hd:decide (bitI .and .u32 (Int.fdiv part (2 ^ min (Int.toNat (k:Int)) 32)) 1=1)
  ·rw[qzil,at_e rfl hx]
   simp only[bd_s]
   rw[ck_d (by simp<;>omega),qz3 (by omega)]
   refine⟨_,rfl,⟨k+1,_,_,_,_,rfl,hlt,by rw[hrk,←h1],by simp[h2],ht',fun x=>?_,by simp;omega⟩,by simp only;omega⟩
   rw[htk,←List.append_assoc,List.mem_append,h4,List.mem_append]
  ·rw[wzdh,at_e rfl hx]
   simp only[bd_s]
   rw[ck_d (by simp<;>omega),qz3 (by omega)]
   refine⟨_,rfl,⟨k+1,_,_,_,_,rfl,hlt,by rw[hrk,←h1],by simp[h2],ht',fun x=>?_,by simp;omega⟩,by simp only;omega⟩
   rw[htk,List.mem_append (t:=[l[k]]),←h4]
   simp only[List.mem_append,List.mem_singleton]
   constructor
   ·rintro((h|h)|h)
    ·exact .inl (.inl h)
    ·exact .inr h
    ·exact .inl (.inr h)
   ·rintro((h|h)|h)
    ·exact .inl (.inl h)
    ·exact .inr h
    ·exact .inl (.inr h)) ⟨0,[],[],[],[],rfl,Nat.zero_le _,rfl,rfl,fun j h=>by omega,fun x=>by simp,rfl⟩ (by simp only;omega)
 simp only at hb ht1 ht2 huv hul
 have mb:∀x,x∈l↔x∈b1:=fun x=>by rw[hb,List.mem_reverse]
 have mt:∀x,x∈l↔x∈t1:=fun x=>by
  constructor
  ·intro hx
   obtain⟨i,hi,rfl⟩:=List.getElem_of_mem hx
   have h1:=ht2 ((i+(l.length-turn.toNat%l.length))%l.length) (Nat.mod_lt _ (by omega))
   have h2:((i+(l.length-turn.toNat%l.length))%l.length+turn.toNat)%l.length=i:=by
    have h3:turn.toNat%l.length<l.length:=Nat.mod_lt _ (by omega)
    rw[Nat.add_mod,Nat.mod_mod,←Nat.add_mod,←Nat.add_mod_mod,show i+(l.length-turn.toNat%l.length)+turn.toNat%l.length=i+l.length by omega,Nat.add_mod_right,Nat.mod_eq_of_lt hi]
   rw[h2,List.getElem?_eq_getElem hi]at h1
   exact List.mem_of_getElem? h1
  ·intro hx
   obtain⟨i,hi,rfl⟩:=List.getElem_of_mem hx
   have h1:=ht2 i (by omega)
   rw[List.getElem?_eq_getElem hi]at h1
   exact List.mem_of_getElem? h1.symm
 have lb:b1.length≤30:=by rw[hb,List.length_reverse];omega
 rcases wz8x (l:=l) (by omega) with ⟨hc,m,em,hm⟩|⟨hc,m,em⟩
 ·obtain⟨m2,em2,hm2⟩:∃m,jzxf b1=some (m,true)∧IsBk b1 m:=by
   rcases wz8x (l:=b1) lb with ⟨_,h⟩|⟨h,_⟩
   ·exact h
   ·exact absurd (hc.congr mb) h
  obtain⟨m3,em3,hm3⟩:∃m,jzxf t1=some (m,true)∧IsBk t1 m:=by
   rcases wz8x (l:=t1) (by omega) with ⟨_,h⟩|⟨h,_⟩
   ·exact h
   ·exact absurd (hc.congr mt) h
  have hcu:RCon (u1++v1):=hc.congr fun x=>(huv x).symm
  obtain⟨m4,em4,hm4⟩:∃m,jzxf u1=some (m,true)∧IsBk u1 m:=by
   rcases wz8x (l:=u1) (by omega) with ⟨_,h⟩|⟨h,_⟩
   ·exact h
   ·exact absurd (hcu.sub fun x hx=>List.mem_append.2 (.inl hx)) h
  obtain⟨m5,em5,hm5⟩:∃m,jzxf v1=some (m,true)∧IsBk v1 m:=by
   rcases wz8x (l:=v1) (by omega) with ⟨_,h⟩|⟨h,_⟩
   ·exact h
   ·exact absurd (hcu.sub fun x hx=>List.mem_append.2 (.inr hx)) h
  obtain rfl:=hm.uniq (hm2.congr fun x=>(mb x).symm)
  obtain rfl:=hm.uniq (hm3.congr fun x=>(mt x).symm)
  obtain⟨r,r1,r2,r3⟩:=jzsj hm4 hm5 hcu
  obtain rfl:=hm.uniq (r2.congr huv)
  have n:=jzxj hm
  have n4:=jzxj hm4
  have n5:=jzxj hm5
  have k4:rchE m4=0:=jzp7.2 ⟨by omega,hm4.bk (hcu.sub fun x hx=>List.mem_append.2 (.inl hx))⟩
  have k5:rchE m5=0:=jzp7.2 ⟨by omega,hm5.bk (hcu.sub fun x hx=>List.mem_append.2 (.inr hx))⟩
  have k0:rchE m=0:=jzp7.2 ⟨by omega,r3⟩
  rw[em,e]
  simp only[bd_s]
  rw[em2,em3]
  simp only[bd_s]
  rw[it_f (by simp),it_f (by simp),em4,em5]
  simp only[bd_s]
  rw[jzpp,jzp2 k4 k5 (by omega),r1,jzrh]
  simp only[bd_s,decide_true,cond_true,qzbx]
  rw[wzsi,k0]
  simp only[bd_s,decide_true,cond_true,qzbx]
  rw[jzro (by omega)]
  simp only[bd_s,decide_true,cond_true,qzbx]
 ·obtain⟨m2,em2⟩:∃m,jzxf b1=some (m,false):=by
   rcases wz8x (l:=b1) lb with ⟨h,_⟩|⟨_,h⟩
   ·exact absurd (h.congr fun x=>(mb x).symm) hc
   ·exact h
  obtain⟨m3,em3⟩:∃m,jzxf t1=some (m,false):=by
   rcases wz8x (l:=t1) (by omega) with ⟨h,_⟩|⟨_,h⟩
   ·exact absurd (h.congr fun x=>(mt x).symm) hc
   ·exact h
  rw[em,e]
  simp only[bd_s]
  rw[em2,em3]
  simp only[bd_s]
  rw[it_f (by simp),it_t (by simp),jzrh]
  rfl
end Go.Am

