/- Part U1: the mathematics of the functions of this seat. No condition. -/
import Derived.Test.YtjlgleghnenojaaDoorN1
import Derived.Test.YtjlgleghnenojaaDoorF1
set_option linter.unusedSimpArgs false
set_option linter.unusedVariables false
namespace Go.Am
section
variable {α β:Type}
theorem bd_s(a:α)(k:α->Option β):bd (some a) k=k a:=id rfl
theorem ck_t{c:Bool}{x:Option α}(h:c=true):ck c x=x:=by subst h;rfl
theorem ck_d{p:Prop}[Decidable p]{x:Option α}(h:p:=by omega):ck (decide p) x=x:=ck_t (Gdy h)
theorem qzwv{p:Prop}[Decidable p]{x:Option α}(h:¬p:=by omega):ck (!decide p) x=x:=ck_t (by simp[h])
theorem qz3{n:Int}{x:Option α}(h:-9223372036854775808<=n/\n<=9223372036854775807:=by omega):ck (inB .i64 n) x=x:=ck_t (by simp[inB,h])
theorem qzhn{l:List β}{lo hi:Int}{x:Option α}(h:0<=lo/\lo<=hi/\hi<=l.length:=by omega):ck (kzy l lo hi) x=x:=ck_t (by simp[kzy,h])
theorem ck_o{p:Prop}[Decidable p]{c:Bool}{x:Option α}(h:p->c=true):ck (!decide p||c) x=x:=ck_t (by by_cases hp:p<;>simp[hp,h])
theorem it_t{c:Bool}{x y:Option α}(h:c=true):ite' c x y=x:=by subst h;rfl
theorem it_f{c:Bool}{x y:Option α}(h:c=false):ite' c x y=y:=by subst h;rfl
theorem it_d{p:Prop}[Decidable p]{x y:Option α}(h:p:=by omega):ite' (decide p) x y=x:=it_t (Gdy h)
theorem it_n{p:Prop}[Decidable p]{x y:Option α}(h:¬p:=by omega):ite' (decide p) x y=y:=it_f (Gdw h)
theorem qzk5{p:Prop}[Decidable p]{x y:Option α}(h:p:=by omega):ite' (!decide p) x y=y:=it_f (by simp[h])
theorem qzhj{p:Prop}[Decidable p]{x y:Option α}(h:¬p:=by omega):ite' (!decide p) x y=x:=it_t (by simp[h])
theorem qzbx[Inhabited α]{x:Option α}:gd true x=x:=id rfl
theorem wzcn[Inhabited α]{x:Option α}:gd false x=some default:=id rfl
theorem wzdh{x y:Option α}:ite' true x y=x:=id rfl
theorem qzil{x y:Option α}:ite' false x y=y:=id rfl
theorem wzdp{x:Option α}:ck true x=x:=id rfl
theorem at_e{l:List α}{j:Int}{n:Nat}{x:α}(hj:j=n)(h:l[n]?=some x):at? l j=some x:=by subst hj;unfold at?;rw[Gdy (by omega:(0:Int)<=n)];exact h
end
theorem jzd2{ι O ω:Type}{body:O->Option (O⊕ω)}(f:ι->O)(I:ι->Prop)(J:ι->Nat)(R:ω->Prop)(step:∀i,I i->(∃i',body (f i)=some (.inl (f i'))/\I i'/\J i'<J i)\/(∃o,body (f i)=some (.inr o)/\R o)) {s:O} (i:ι) (hs:s=f i) (h:I i) (hb:J i<4611686018427387904):∃o,lp body s=some o/\R o:=by
 subst hs
 have key:∀(n:Nat) (i:ι),I i->J i<n->∃o,lpN body n (f i)=some o/\R o:=by
  intro n;induction n with
  |zero=>intro i _ h;omega
  |succ n ih =>
   intro i hs hn;rcases step i hs with ⟨s',e,hs',hm⟩|⟨o,e,ho⟩
   ·obtain⟨o,e2,ho⟩:=ih s' hs' (by omega);exact⟨o,by unfold lpN;rw[e];exact e2,ho⟩
   ·exact⟨o,by unfold lpN;rw[e],ho⟩
 rw[qztg];exact key _ i h hb
def lf(l:List Int)(i:Nat):Nat:=(l[i]?.getD 0).toNat
def val(b:Base)(l:List Int):Nat:=vl b (lf l) l.length
def dl(v:Nat):List Int:=(List.range (ln v)).map fun i=>(dg b32 v i:Int)
def bl(v:Nat):Nat:=(bs v).length
section
variable {α ω O:Type}
def scan(f:Nat->α->Option ω):Nat->List α->Option ω
 |_,[]=>none
 |k,x :: l=>match f k x with
  |some o=>some o
  |none=>scan f (k+1) l
theorem wz6o{f:Nat->α->Option ω}:∀(k:Nat) (l:List α),scan f k l=none->∀i x,l[i]?=some x->f (k+i) x=none
 |k,[],_,i,x,h=>by simp at h
 |k,y :: l,e,i,x,h=>by
  unfold scan at e;split at e
  ·cases e
  ·rename_i e1;cases i with
   |zero=>simp at h;subst h;exact e1
   |succ i=>have:=wz6o (k+1) l e i x (by simpa using h);rwa [show k+(i+1)=k+1+i by omega]
theorem jzax{f:Nat->α->Option ω}:∀(k:Nat) (l:List α),(∀i x,l[i]?=some x->f (k+i) x=none)->scan f k l=none
 |k,[],_=>rfl
 |k,y :: l,e=>by unfold scan;rw[show f k y=none from e 0 y rfl];exact jzax (k+1) l fun i x h=>by have:=e (i+1) x (by simpa using h);rwa [show k+(i+1)=k+1+i by omega]at this
theorem jzdu{f:Nat->α->Option ω}{l:List α}{k:Nat}{x:α}(h:l[k]?=some x):scan f k (l.drop k)=(match f k x with
  |some o=>some o
  | none=>scan f (k+1) (l.drop (k+1))):=by
 obtain⟨hk,rfl⟩:=Gbg.1 h;rw[Ga4 hk];rfl
def sOut:Option ω->Unit⊕ω
 |some o=>.inr o
 |none=>.inl ()
theorem jzak{body:O->Option (O⊕(Unit⊕ω))}{l:List α}(st:Nat->O)(f:Nat->α->Option ω)(hl:l.length<=1000000000)(hs:∀(k:Nat) (x:α),l[k]?=some x->body (st k)=some (match f k x with | some o=>.inr (.inr o) | none=>.inl (st (k+1)))) (he:body (st l.length)=some (.inr (.inl ()))) {s:O} (h0:s=st 0):lp body s=some (sOut (scan f 0 l)):=by
 obtain⟨o,e,ho⟩:=jzd2 (body:=body) st (fun k=>k<=l.length/\scan f 0 l=scan f k (l.drop k)) (fun k=>l.length-k) (fun o=>o=sOut (scan f 0 l)) (by
  rintro k ⟨hk,hsc⟩;by_cases hlt:k<l.length
  ·have hx:=Gbe hlt;have h1:=hs k _ hx;have h2:=jzdu (f:=f) hx;cases hf:f k l[k] with
   |some o =>right;rw[hf]at h1 h2;exact⟨_,h1,by rw[hsc,h2];rfl⟩
   |none =>left;rw[hf]at h1 h2;exact⟨k+1,h1,⟨hlt,hsc.trans h2⟩,by omega⟩
  ·right;have:k=l.length:=by omega
   subst this;refine⟨_,he,?_⟩;rw[hsc,List.drop_length];rfl) 0 h0 ⟨Gdl _,rfl⟩ (by omega)
 rw[e,ho]
theorem wz3m{body:Int->Option (Int⊕(Unit⊕ω))}{l:List α}(f:Nat->α->Option ω)(hl:l.length<=1000000000)(hs:∀(k:Nat) (x:α),l[k]?=some x->body (k:Int)=some (match f k x with | some o=>.inr (.inr o) | none=>.inl ((k:Int)+1))) (he:body (l.length:Int)=some (.inr (.inl ()))):lp body 0=some (sOut (scan f 0 l)) :=
 jzak (fun k=>(k:Int)) f hl (fun k x h=>by rw[hs k x h];cases f k x<;>rfl) he rfl
end
theorem wz6q{α ω:Type}{f:Nat->α->Option ω}:∀(k:Nat) (l:List α) (o:ω),scan f k l=some o->∃i x,l[i]?=some x/\f (k+i) x=some o/\∀j y,j<i->l[j]?=some y->f (k+j) y=none
 |k,[],o,h=>by cases h
 |k,y :: l,o,h=>by
  unfold scan at h;split at h
  ·rename_i o' ho;cases h;exact⟨0,y,rfl,ho,fun j y h=>by omega⟩
  ·rename_i hn;obtain⟨i,x,h1,h2,h3⟩:=wz6q (k+1) l o h;refine⟨i+1,x,by simpa using h1,by rwa [show k+(i+1)=k+1+i by omega],fun j z hj hz=>?_⟩;cases j with
   |zero=>simp at hz;subst hz;exact hn
   |succ j =>
    have:=h3 j z (by omega) (by simpa using hz)
    rwa [show k+(j+1)=k+1+j by omega]
section
variable {α β ω O:Type}
theorem jzct{body:O->Option (O⊕ω)}(st:Nat->O)(n:Nat)(hn:n<4611686018427387904)(hs:∀k,k<n->body (st k)=some (.inl (st (k+1)))){o:ω}(he:body (st n)=some (.inr o)){s:O}(h0:s=st 0):lp body s=some o:=by
 obtain⟨o',e,ho⟩:=jzd2 (body:=body) st (fun k=>k<=n) (fun k=>n-k) (fun o'=>o'=o) (by
  intro k hk;by_cases h:k<n
  ·exact .inl ⟨k+1,hs k h,h,by omega⟩
  ·right;obtain rfl:k=n:=by omega
   exact⟨_,he,rfl⟩) 0 h0 (Gdl _) (by omega)
 rw[e,ho]
theorem wz69{body:O->Option (O⊕ω)}{l:List α}(st:Nat->O)(hl:l.length<4611686018427387904)(hs:∀k x,l[k]?=some x->body (st k)=some (.inl (st (k+1)))){o:ω}(he:body (st l.length)=some (.inr o)){s:O}(h0:s=st 0):lp body s=some o :=
 jzct st l.length hl (fun k hk=>hs k _ (Gbe hk)) he h0
theorem jzlb{l:List α}{k:Nat}{x:α}(h:l[k]?=some x):l.take (k+1)=l.take k++[x]:=by rw[List.take_add_one,h];rfl
theorem wz5l{f:Nat->α->Option ω}{l:List α}(h:scan f 0 l=none){i:Nat}{x:α}(hx:l[i]?=some x):f i x=none:=by
 have:=wz6o 0 l h i x hx
 rwa [Gdk]at this
theorem wz8b{v:β}{k x:Int}:∀(m:List (Int×β)),mget keqI (mput keqI m k v) x=if x=k then some v else mget keqI m x
 |[]=>by by_cases h:x=k<;>simp[mput,mget,keqI,h]
 |p :: m=>by
  unfold mput;by_cases h:k=p.1
  ·rw[show keqI k p.1=true by simp[keqI,h]];by_cases h2:x=k
   ·simp[mget,keqI,h2]
   ·have h3:keqI x k=false:=(by simp[keqI,h2]);have h4:keqI x p.1=false:=(by rw[<-h];exact h3);simp only[mget,h3,h4,Gd3 h2]
  ·rw[show keqI k p.1=false by simp[keqI,h]];have ih:=wz8b (v:=v) (k:=k) (x:=x) m;by_cases h2:x=p.1
   ·have h3:keqI x p.1=true:=(by simp[keqI,h2]);simp only[mget,h3];rw[Gd3 (fun e:x=k=>h (e.symm.trans h2))]
   ·have h3:keqI x p.1=false:=(by simp[keqI,h2]);simp only[mget,h3];exact ih
end
def SAsc(l:List Int):Prop:=l.Pairwise (· < ·)
theorem jzyr(a:Int):∀l x,x∈jzov a l↔x=a\/x∈l
 |[],x=>by simp[jzov]
 |b :: l,x=>by
  unfold jzov;cases decide (a<=b)
  ·show x∈b :: jzov a l↔_;rw[Gb3,jzyr a l x,Gb3];constructor
   ·rintro(h|h|h);·exact .inr (.inl h)
    ·exact .inl h
    ·exact .inr (.inr h)
   ·rintro(h|h|h);·exact .inr (.inl h)
    ·exact .inl h
    ·exact .inr (.inr h)
  ·show x∈a :: b :: l↔_;exact Gb3
theorem jzyv(a:Int):∀l,SAsc l->a∉l->SAsc (jzov a l)
 |[],_,_=>Gch _ _
 |b :: l,h,hn=>by
  obtain⟨h1,h2⟩:=Gcf.1 h;have hab:a≠b:=fun e=>hn (by simp[e]);have hal:a∉l:=fun e=>hn (by simp[e]);unfold jzov;cases hd:decide (a<=b)
  ·have hd:=of_decide_eq_false hd;refine Gcf.2 ⟨fun c hc=>?_,jzyv a l h2 hal⟩;rcases(jzyr a l c).1 hc with rfl|hc
   ·omega
   ·exact h1 c hc
  ·have hd:=Gd7 hd;refine Gcf.2 ⟨fun c hc=>?_,h⟩;rcases Gb3.1 hc with rfl|hc
   ·omega
   ·have:=h1 c hc;omega
theorem jzyq:∀l x,x∈jzpf l↔x∈l
 |[],x=>Iff.rfl
 |a :: l,x=>by show x∈jzov a (jzpf l)↔_;rw[jzyr,jzyq l x,Gb3]
theorem jzyw:∀l:List Int,l.Nodup->SAsc (jzpf l)
 |[],_=>List.Pairwise.nil
 |a :: l,h=>by obtain⟨h1,h2⟩:=List.nodup_cons.1 h;exact jzyv a _ (jzyw l h2) fun e=>h1 ((jzyq l a).1 e)
theorem jzyz(a:Int):∀l,(jzov a l).length=l.length+1
 |[]=>rfl
 |b :: l=>by
  unfold jzov;cases decide (a<=b)
  ·show(b :: jzov a l).length=_;simp[jzyz a l]
  ·rfl
theorem jzy0:∀l,(jzpf l).length=l.length
 |[]=>rfl
 |a :: l=>by show(jzov a (jzpf l)).length=_;rw[jzyz,jzy0 l];rfl
end Go.Am

