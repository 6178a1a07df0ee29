/- Part V4: the mathematics of flows and levels. No condition. -/
import Derived.Test.YtibbibelkkgfpaaGreatDoorV3
set_option linter.unusedSimpArgs false
set_option linter.unusedVariables false
namespace Go.Am
noncomputable section
structure TabR(t:List AM)(n:Int):Prop where
 ne:t≠[]
 st:∀h,h∈t->0<=h.Stage/\h.Stage<=1000/\1<=h.Ticks/\h.Ticks<=1402560
 asc:∀k a b,t[k]?=some a->t[k+1]?=some b->a.Stage<b.Stage
 sum:isum (t.map (·.Ticks))=n
structure RunR(x:Ao):Prop where
 fr:0<=x.From/\x.From<x.To/\x.To<=1402560
 tb:(x.Table=[]/\0<=x.Lo/\x.Lo<=x.Hi/\x.Hi<=1000)\/(TabR x.Table (x.To-x.From)/\x.Lo=0/\x.Hi=0)
def hldF(k:Nat)(h:AM):Option Int:=if 0<=h.Stage/\h.Stage<=1000/\1<=h.Ticks/\h.Ticks<=1402560 then none else some 3
theorem wzsk{x:Ao}(hl:x.Table.length<=1000000):lp (LV x) 0=some (sOut (scan hldF 0 x.Table)):=by
 refine Ez hldF (by omega) (fun k h e=>?_) ?_
 ·have hk:=(AE.1 e).1;unfold LV;rw[it_d (by omega),at_e rfl e,Ab];unfold ET hldF;rw[Ab];by_cases h1:0<=h.Stage/\h.Stage<=1000
  ·rw[AD h1.1,AD h1.2];simp only[BZ,E4,Ft,Br,Ab];by_cases h2:1<=h.Ticks/\h.Ticks<=1402560
   ·rw[AD h2.1,AD h2.2,Aj ⟨h1.1,h1.2,h2.1,h2.2⟩];simp only[BZ,Co,E4];rw[Du,A7 (by omega)]
   ·rw[Ag (fun h=>h2 ⟨h.2.2.1,h.2.2.2⟩)]
    have:(bif decide (1<=h.Ticks) then decide (h.Ticks<=1402560) else false)=false:=by
     by_cases h3:1<=h.Ticks
     ·rw[AD h3,AA (fun h4=>h2 ⟨h3,h4⟩)];rfl
     ·rw[AA h3];rfl
    rw[this];rfl
  ·rw[Ag (fun h=>h1 ⟨h.1,h.2.1⟩)]
   have:(bif decide (0<=h.Stage) then decide (h.Stage<=1000) else false)=false:=by
    by_cases h3:0<=h.Stage
    ·rw[AD h3,AA (fun h4=>h1 ⟨h3,h4⟩)];rfl
    ·rw[AA h3];rfl
   rw[this];rfl
 ·unfold LV;rw[it_n (by omega)]
theorem wzs3{x:Ao}(hl:x.Table.length<=1000000):lp (LU x) 0=some (sOut (scan hldF 0 x.Table)):=by
 refine Ez hldF (by omega) (fun k h e=>?_) ?_
 ·have hk:=(AE.1 e).1;unfold LU;rw[it_d (by omega),at_e rfl e,Ab];unfold hldF;by_cases h1:0<=h.Stage/\h.Stage<=1000/\1<=h.Ticks/\h.Ticks<=1402560
  ·rw[Aj h1,AA (by omega),AA (by omega),AA (by omega),AA (by omega)];simp only[Co];rw[Du,A7 (by omega)]
  ·rw[Ag h1];refine it_t ?_;by_cases a1:h.Stage<0
   ·simp[a1]
   by_cases a2:1000<h.Stage
   ·simp[a2]
   by_cases a3:h.Ticks<1
   ·simp[a3]
   ·have a4:1402560<h.Ticks:=(by omega);simp[a4]
 ·unfold LU;rw[it_n (by omega)]
def AscT(t:List AM)(k:Nat):Prop:=∀j a b,j+1<k->t[j]?=some a->t[j+1]?=some b->a.Stage<b.Stage
theorem Jg{t:List AM}{k:Nat}{h:AM}(e:t[k]?=some h):isum ((t.take (k+1)).map (·.Ticks))=isum ((t.take k).map (·.Ticks))+h.Ticks:=by
 rw[List.take_add_one,e,List.map_append]
 have:∀(l:List Int) (v:Int),isum (l++[v])=isum l+v:=fun l v=>by
  induction l with
  |nil=>show v+0=0+v;omega
  |cons a l ih=>show a+isum (l++[v])=a+isum l+v;rw[ih];omega
 exact this _ _
theorem qz32:∀{l:List Int},(∀v,v∈l->0<=v/\v<=1402560)->0<=isum l/\isum l<=1402560*l.length
 |[],_=>⟨Jj _,by simp[isum]⟩
 |a :: l,h=>by have h1:=h a (AP ..);have h2:=qz32 (l:=l) fun v hv=>h v (AQ _ hv);show 0<=a+isum l/\a+isum l<=_;simp only[Bl];omega
def SumR(t:List AM):Int⊕Int->Prop
 |.inl s=>s=isum (t.map (·.Ticks))/\AscT t t.length
 |.inr e=>e=1/\¬AscT t t.length
theorem NK{t:List AM}(hl:t.length<=1000000)(hs:∀h,h∈t->0<=h.Ticks/\h.Ticks<=1402560)(k:Nat):0<=isum ((t.take k).map (·.Ticks))/\isum ((t.take k).map (·.Ticks))<=1402560000000:=by
 have:=qz32 (l:=(t.take k).map (·.Ticks)) fun v hv=>by obtain⟨h,hh,rfl⟩:=C7.1 hv;exact hs h (List.mem_of_mem_take hh)
 rw[Jz,Gs]at this;omega
theorem NL{t:List AM}{k:Nat}{h:AM}(e:t[k]?=some h)(ha:AscT t k)(h1:∀p,0<k->t[k-1]?=some p->p.Stage<h.Stage):AscT t (k+1):=fun j a b hj ea eb=>by
 by_cases jj:j+1<k
 ·exact ha j a b jj ea eb
 ·obtain rfl:k=j+1:=by omega
  rw[e]at eb;cases eb;exact h1 a (by omega) ea
theorem wztx{x:Ao}(hl:x.Table.length<=1000000)(hs:∀h,h∈x.Table->0<=h.Ticks/\h.Ticks<=1402560):∃o,lp (P2 x) (0,0)=some o/\SumR x.Table o:=by
 refine C6 (fun s=>∃k:Nat,s.2=(k:Int)/\k<=x.Table.length/\s.1=isum ((x.Table.take k).map (·.Ticks))/\AscT x.Table k) (fun s=>x.Table.length-s.2.toNat) (SumR x.Table) (fun s hI=>?_) ⟨0,rfl,B3 _,rfl,fun j a b h=>by omega⟩ (by simp only;omega);obtain⟨sum,t⟩:=s;obtain⟨k,rfl,hk,rfl,ha⟩:=hI;simp only at hk ha |-;simp only[P2];by_cases h:k<x.Table.length
 ·obtain⟨y,hy⟩:=AR h;have b1:=NK hl hs k;have b2:=NK hl hs (k+1);rw[Jg hy]at b2;rw[it_d (by omega),at_e rfl hy,Ab,ck_o (fun h=>by simp[Au];omega)];by_cases h0:0<k
  ·obtain⟨p,hp⟩:=AR (l:=x.Table) (k:=k-1) (by omega);rw[AD (show(0:Int)<k by omega),Br,at_e (n:=k-1) (by omega) hp,Ab];by_cases aC:y.Stage<=p.Stage
   ·right;rw[AD aC];refine⟨_,rfl,rfl,fun hA=>?_⟩;have:=hA (k-1) p y (by omega) hp (by rw[show k-1+1=k by omega];exact hy);omega
   ·left;rw[AA aC];simp only[BZ];rw[Du,A7 (by omega),A7 (by omega)];exact⟨_,rfl,⟨k+1,rfl,by omega,(Jg hy).symm,NL hy ha fun q _ hq=>by rw[hp]at hq;cases hq;omega⟩,by simp only;omega⟩
  ·left;rw[AA (show ¬(0:Int)<k by omega),Bs,Ab];simp only[Co];rw[Du,A7 (by omega),A7 (by omega)];exact⟨_,rfl,⟨k+1,rfl,by omega,(Jg hy).symm,NL hy ha fun q h1 _=>absurd h1 h0⟩,by simp only;omega⟩
 ·right;obtain rfl:k=x.Table.length:=by omega
  rw[it_n (by omega)];exact⟨_,rfl,by rw[List.take_length],ha⟩
theorem wzs9{x:Ao}(hl:x.Table.length<=1000000)(hs:∀h,h∈x.Table->0<=h.Ticks/\h.Ticks<=1402560):∃o,lp (P0 x) (0,0)=some o/\SumR x.Table o:=by
 refine C6 (fun s=>∃k:Nat,s.2=(k:Int)/\k<=x.Table.length/\s.1=isum ((x.Table.take k).map (·.Ticks))/\AscT x.Table k) (fun s=>x.Table.length-s.2.toNat) (SumR x.Table) (fun s hI=>?_) ⟨0,rfl,B3 _,rfl,fun j a b h=>by omega⟩ (by simp only;omega);obtain⟨sum,t⟩:=s;obtain⟨k,rfl,hk,rfl,ha⟩:=hI;simp only at hk ha |-;simp only[P0];by_cases h:k<x.Table.length
 ·obtain⟨y,hy⟩:=AR h;have b1:=NK hl hs k;have b2:=NK hl hs (k+1);rw[Jg hy]at b2;rw[it_d (by omega),ck_o (fun h=>by simp[Au];omega)];by_cases h0:0<k
  ·obtain⟨p,hp⟩:=AR (l:=x.Table) (k:=k-1) (by omega);rw[AD (show(0:Int)<k by omega),Br,at_e (n:=k-1) (by omega) hp,Ab,Br,at_e rfl hy,Ab];by_cases aC:y.Stage<=p.Stage
   ·right;rw[AD aC];refine⟨_,rfl,rfl,fun hA=>?_⟩;have:=hA (k-1) p y (by omega) hp (by rw[show k-1+1=k by omega];exact hy);omega
   ·left;rw[AA aC];simp only[BZ];rw[Du,Ab,A7 (by omega),A7 (by omega)];exact⟨_,rfl,⟨k+1,rfl,by omega,(Jg hy).symm,NL hy ha fun q _ hq=>by rw[hp]at hq;cases hq;omega⟩,by simp only;omega⟩
  ·left;rw[AA (show ¬(0:Int)<k by omega),Bs,Ab,Bs,Ab];simp only[Co];rw[Du,at_e rfl hy,Ab,A7 (by omega),A7 (by omega)];exact⟨_,rfl,⟨k+1,rfl,by omega,(Jg hy).symm,NL hy ha fun q h1 _=>absurd h1 h0⟩,by simp only;omega⟩
 ·right;obtain rfl:k=x.Table.length:=by omega
  rw[it_n (by omega)];exact⟨_,rfl,by rw[List.take_length],ha⟩
theorem qz5y{t:List AM}:scan hldF 0 t=none↔∀h,h∈t->0<=h.Stage/\h.Stage<=1000/\1<=h.Ticks/\h.Ticks<=1402560:=by
 constructor
 ·intro e h hh;obtain⟨i,hi⟩:=Dy.1 hh;have:=Fj 0 t e i h hi;unfold hldF at this;split at this
  ·assumption
  ·cases this
 ·intro H;refine KR 0 t fun i h hi=>?_;unfold hldF;rw[Aj (H h (AI hi))]
theorem wzk3{t:List AM}{o:Int}(h:scan hldF 0 t=some o):o=3:=by
 obtain⟨i,x,_,h2⟩:=Fn 0 t o h;unfold hldF at h2;split at h2
 ·cases h2
 ·exact(AJ h2).symm
theorem wzes{x:Ao}(hx:0<=x.From/\x.From<x.To/\x.To<=1402560)(hl:x.Table.length<=1000000)(aH:x.Table≠[]){l0:Option (Unit⊕Int)}{l1:Option (Int⊕Int)}(h0:l0=some (sOut (scan hldF 0 x.Table)))(h1:(∀h,h∈x.Table->0<=h.Ticks/\h.Ticks<=1402560)->∃o,l1=some o/\SumR x.Table o) :
  ∃e,(bd l0 fun o=>match o with
   | .inl ()=>(bd l1 fun o=>match o with
    |.inl sum5=>(ck (Au .i64 (x.To-x.From))<|ite' (bif (bif (!decide (sum5=(x.To-x.From))) then true else(!decide (x.Lo=0))) then true else(!decide (x.Hi=0))) (some 1) (some 0))
    | .inr o=>(some o))
   | .inr o=>(some o))=some e/\(e=0↔RunR x):=by
 subst h0;cases cy:scan hldF 0 x.Table with
 |some o =>
  obtain rfl:=wzk3 cy;refine⟨3,rfl,⟨(fun h=>by cases h),fun R=>?_⟩⟩;exfalso;rcases R.tb with ⟨h,_⟩|⟨h,_⟩
  ·exact aH h
  ·rw[qz5y.2 h.st]at cy;cases cy
 |none =>
  have aL:=qz5y.1 cy;obtain⟨o,rfl,ho⟩:=h1 fun h hh=>by have:=aL h hh;omega
  cases o with
  |inr e =>
   obtain⟨rfl,pd⟩:=ho;refine⟨1,rfl,⟨(fun h=>by cases h),fun R=>?_⟩⟩;exfalso;rcases R.tb with ⟨h,_⟩|⟨h,_⟩
   ·exact aH h
   ·exact pd fun j a b hj ea eb=>h.asc j a b ea eb
  |inl s =>
   obtain⟨rfl,ha⟩:=ho;show ∃e,(ck (Au .i64 (x.To-x.From)) _)=some e/\_;rw[A7 (by omega)];by_cases h:isum (x.Table.map (·.Ticks))=x.To-x.From/\x.Lo=0/\x.Hi=0
   ·rw[AD h.1,AD h.2.1,AD h.2.2];exact⟨0,rfl,fun _=>⟨hx,.inr ⟨⟨aH,aL,fun k a b ea eb=>ha k a b (AE.1 eb).1 ea eb,h.1⟩,h.2.1,h.2.2⟩⟩,fun _=>rfl⟩
   ·refine⟨1,it_t ?_,⟨(fun h=>by cases h),fun R=>?_⟩⟩
    ·by_cases a1:isum (x.Table.map (·.Ticks))=x.To-x.From
     ·by_cases a2:x.Lo=0;·have a3:¬x.Hi=0:=fun a3=>h ⟨a1,a2,a3⟩;simp[a1,a2,a3]
      ·simp[a1,a2]
     ·simp[a1]
    ·exfalso;rcases R.tb with ⟨h2,_⟩|⟨h2,h3,h4⟩
     ·exact aH h2
     ·exact h ⟨h2.sum,h3,h4⟩
theorem qz8o{x:Ao}(hx:0<=x.From/\x.From<x.To/\x.To<=1402560)(hn:x.Table=[]):∃e,(ite' (bif (bif (decide (x.Lo<0)) then true else(decide (x.Hi<x.Lo))) then true else(decide (1000<x.Hi))) (some 3) (some 0):Option Int)=some e/\(e=0↔RunR x):=by
 by_cases h:0<=x.Lo/\x.Lo<=x.Hi/\x.Hi<=1000
 ·rw[AA (by omega),AA (by omega),AA (by omega)];exact⟨0,rfl,fun _=>⟨hx,.inl ⟨hn,h⟩⟩,fun _=>rfl⟩
 ·refine⟨3,it_t ?_,⟨(fun h=>by cases h),fun R=>?_⟩⟩
  ·by_cases a1:x.Lo<0;·simp[a1]
   by_cases a2:x.Hi<x.Lo
   ·simp[a2]
   ·have a3:1000<x.Hi:=(by omega);simp[a3]
  ·exfalso;rcases R.tb with ⟨_,h2⟩|⟨h2,_⟩
   ·exact h h2
   ·exact h2.ne hn
theorem qz00{x:Ao}(hx:0<=x.From/\x.From<x.To/\x.To<=1402560)(hl:x.Table.length<=1000000):∃e,JY x=some e/\(e=0↔RunR x):=by
 unfold JY;rw[AA (show ¬x.From<0 by omega),AA (show ¬x.To<=x.From by omega),AA (show ¬1402560<x.To by omega)];simp only[Co];rw[Du];unfold ES;rw[Ab];by_cases hn:x.Table.length=0
 ·rw[it_d (by omega)];exact qz8o hx (NU hn)
 ·rw[it_n (by omega)];exact wzes hx hl (fun h=>hn (by rw[h];rfl)) (wzsk hl) (wztx hl)
theorem qzz5{x:Ao}(hx:0<=x.From/\x.From<x.To/\x.To<=1402560)(hl:x.Table.length<=1000000):∃e,Im x=some e/\(e=0↔RunR x):=by
 unfold Im;by_cases hn:x.Table.length=0
 ·rw[it_d (by omega)];exact qz8o hx (NU hn)
 ·rw[it_n (by omega)];exact wzes hx hl (fun h=>hn (by rw[h];rfl)) (wzs3 hl) (wzs9 hl)
def frR(x:Ao):Prop:=0<=x.From/\x.From<x.To/\x.To<=1402560
instance (x:Ao):Decidable (frR x):=inferInstanceAs (Decidable (_/\_))
def nz(o:Option Int):Option Int:=if o=some 0 then none else o
theorem nz_z:nz (some 0)=none:=Aj rfl
theorem nz_n{v:Int}(h:v≠0):nz (some v)=some v:=Ag fun e=>h (AJ e)
def oneF(one:Ao->Option Int)(l:List Ao)(k:Nat)(x:Ao):Option Int :=
 if ¬frR x then some 3 else if 0<k/\x.From≠(l.getD (k-1) default).To then some 1 else nz (one x)
structure Fo(l:List Ao):Prop where
 len:l.length<=2000
 run:∀x,x∈l->RunR x
 nxt:∀k x y,l[k]?=some x->l[k+1]?=some y->x.To=y.From
 all:∀x y,l[0]?=some x->l[l.length-1]?=some y->y.To-x.From<=40000
theorem qz25{one:Ao->Option Int}{l:List Ao}(H:∀x,x∈l->frR x->∃e,one x=some e/\(e=0↔RunR x)):scan (oneF one l) 0 l=none↔(∀x,x∈l->RunR x)/\∀k x y,l[k]?=some x->l[k+1]?=some y->x.To=y.From:=by
 constructor
 ·intro e
  have key:∀i x,l[i]?=some x->RunR x/\(0<i->x.From=(l.getD (i-1) default).To):=fun i x hi=>by
   have:=Fj 0 l e i x hi;rw[Bq]at this;unfold oneF at this;split at this
   ·cases this
   ·rename_i h1;split at this
    ·cases this
    ·rename_i h2;have h1:frR x:=(by false_or_by_contra;exact h1 ‹_›);obtain⟨v,hv,hr⟩:=H x (AI hi) h1;rw[hv]at this;refine⟨hr.1 ?_,fun h0=>?_⟩
     ·false_or_by_contra
      rename_i aH;rw[nz_n aH]at this;cases this
     ·false_or_by_contra
      exact h2 ⟨h0,‹_›⟩
  refine⟨fun x hx=>?_,fun k x y hx hy=>?_⟩
  ·obtain⟨i,hi⟩:=Dy.1 hx;exact(key i x hi).1
  ·have:=(key (k+1) y hy).2 (by omega);rw[this,Nat.add_sub_cancel,E6,hx];rfl
 ·rintro⟨h1,h2⟩;refine KR 0 l fun i x hi=>?_;have hr:=h1 x (AI hi);rw[Bq];unfold oneF;rw[Ag (fun h=>h hr.fr),Ag]
  ·obtain⟨v,hv,he⟩:=H x (AI hi) hr.fr;obtain rfl:=he.2 hr;rw[hv,nz_z]
  ·rintro⟨h0,aH⟩;obtain⟨p,hp⟩:=AR (l:=l) (k:=i-1) (by have:=(AE.1 hi).1;omega);have:=h2 (i-1) p x hp (by rw[show i-1+1=i by omega];exact hi);rw[E6,hp]at aH;exact aH this.symm
theorem qz9w{one:Ao->Option Int}{l:List Ao}{o:Int}(h:scan (oneF one l) 0 l=some o):o≠0:=by
 obtain⟨i,x,_,h2⟩:=Fn 0 l o h;unfold oneF at h2;split at h2
 ·cases h2;decide
 ·split at h2;·cases h2;decide
  ·unfold nz at h2;split at h2
   ·cases h2
   ·rename_i aH;rw[h2]at aH;exact fun e=>aH (by rw[e])
theorem wzsy{l:List Ao}(hl:l.length<=1000000)(ht:∀x,x∈l->x.Table.length<=1000000):lp (Md l) 0=some (sOut (scan (oneF JY l) 0 l)):=by
 refine Ez _ (by omega) (fun k x e=>?_) ?_
 ·have hk:=(AE.1 e).1;simp only[Md];rw[it_d (by omega),at_e rfl e,Ab];unfold oneF;by_cases h1:frR x
  ·rw[Ag (fun h=>h h1)];have c9:=h1;unfold frR at c9;rw[AA (show ¬x.From<0 by omega),AA (show ¬x.To<=x.From by omega),AA (show ¬1402560<x.To by omega)];simp only[Co];obtain⟨v,hv,_⟩:=qz00 h1 (ht x (AI e));rw[Du,ck_o (fun h=>by simp[Au];omega)];by_cases h0:0<k
   ·rw[AD (show(0:Int)<k by omega),Br,Sa e h0,Ab];simp only[BZ];by_cases hp:x.From=(l.getD (k-1) default).To
    ·rw[B0 hp,Ag (fun h=>h.2 hp)];rw[hv,Ab];by_cases hz:v=0
     ·subst hz;rw[B0 rfl,A7 (by omega),nz_z]
     ·rw[B9 hz,nz_n hz]
    ·rw[B9 hp,Aj ⟨h0,hp⟩]
   ·rw[AA (show ¬(0:Int)<k by omega),Bs,Ab,Ag (fun h=>h0 h.1)];simp only[Co];rw[Du];rw[hv,Ab];by_cases hz:v=0
    ·subst hz;rw[B0 rfl,A7 (by omega),nz_z]
    ·rw[B9 hz,nz_n hz]
  ·rw[Aj h1];refine it_t ?_;unfold frR at h1;by_cases a1:x.From<0
   ·simp[a1]
   by_cases a2:x.To<=x.From
   ·simp[a2]
   ·have a3:1402560<x.To:=(by omega);simp[a3]
 ·simp only[Md];rw[it_n (by omega)]
theorem wzt7{l:List Ao}(hl:l.length<=1000000)(H:∀x,x∈l->frR x->∃v,Im x=some v):lp (Ma l) 0=some (sOut (scan (oneF Im l) 0 l)):=by
 refine Ez _ (by omega) (fun k x e=>?_) ?_
 ·have hk:=(AE.1 e).1;simp only[Ma];rw[it_d (by omega),at_e rfl e,Ab];unfold oneF;by_cases a1:x.From<0
  ·rw[AD a1,Aj (fun h=>by unfold frR at h;omega)];rfl
  rw[AA a1];simp only[Ft,Br,Co];rw[Ab,Ab];by_cases a2:x.To<=x.From
  ·rw[AD a2,Aj (fun h=>by unfold frR at h;omega)];rfl
  rw[AA a2];simp only[Ft,Br,Co,Ab];by_cases a3:1402560<x.To
  ·rw[AD a3,Aj (fun h=>by unfold frR at h;omega)];rfl
  rw[AA a3,Du];have h1:frR x:=⟨by omega,by omega,by omega⟩;obtain⟨v,hv⟩:=H x (AI e) h1;rw[Ag (fun h=>h h1)];by_cases h0:0<k
  ·rw[AD (show(0:Int)<k by omega),Br,Ab,ck_t (by simp[Au];omega),Br,Sa e h0,Ab];simp only[BZ];by_cases hp:x.From=(l.getD (k-1) default).To
   ·rw[B0 hp,Ag (fun h=>h.2 hp)];rw[hv,Ab];by_cases hz:v=0
    ·subst hz;rw[B0 rfl,A7 (by omega),nz_z]
    ·rw[B9 hz,nz_n hz]
   ·rw[B9 hp,Aj ⟨h0,hp⟩]
  ·rw[AA (show ¬(0:Int)<k by omega),Bs,Ab,ck_t (by rfl),Bs,Ab,Ag (fun h=>h0 h.1)];simp only[Co];rw[Du];rw[hv,Ab];by_cases hz:v=0
   ·subst hz;rw[B0 rfl,A7 (by omega),nz_z]
   ·rw[B9 hz,nz_n hz]
 ·simp only[Ma];rw[it_n (by omega)]
theorem qz8j{l:List Ao}(hl:l.length<=2000){o:Option Int}(ho:o=none↔(∀x,x∈l->RunR x)/\∀k x y,l[k]?=some x->l[k+1]?=some y->x.To=y.From)(hn:∀v,o=some v->v≠0) :
  ∃e,(match sOut o with
   | .inl ()=>(ck (!(decide (0<(List.length l:Int)))||Au .i64 ((List.length l:Int)-1))<|bd (gd (decide (0<(List.length l:Int))) (at? l ((List.length l:Int)-1))) fun x3=>bd (gd (decide (0<(List.length l:Int))) (at? l 0)) fun x4 =>
    ck (!(decide (0<(List.length l:Int)))||Au .i64 (x3.To-x4.From))<|ite' (bif (decide (0<(List.length l:Int))) then(decide (40000<(x3.To-x4.From))) else false) (some 2) (some 0))
   | .inr o=>(some o))=some e/\(e=0↔Fo l):=by
 cases gG:o with
 |some v =>refine⟨v,rfl,⟨fun e=>absurd e (hn v gG),fun R=>?_⟩⟩;have:=ho.2 ⟨R.run,R.nxt⟩;rw[gG]at this;cases this
 |none =>
  obtain⟨h1,h2⟩:=ho.1 gG;show ∃e,(ck _ _)=some e/\_;by_cases h0:0<l.length
  ·obtain⟨x,hx⟩:=AR h0;obtain⟨y,hy⟩:=AR (l:=l) (k:=l.length-1) (by omega);have rx:=h1 x (AI hx);have ry:=h1 y (AI hy);rw[AD (show(0:Int)<l.length by omega),ck_t (by simp[Au];omega),Br,at_e (n:=l.length-1) (by omega) hy,Ab,Br,show at? l 0=some x from at_e (n:=0) rfl hx,Ab,ck_t (by have:=rx.fr;have:=ry.fr;simp[Au];omega)];by_cases hd:40000<y.To-x.From
   ·rw[AD hd];refine⟨2,rfl,⟨(fun e=>by cases e),fun R=>?_⟩⟩;have:=R.all x y hx hy;omega
   ·rw[AA hd];exact⟨0,rfl,⟨fun _=>⟨hl,h1,h2,fun a b ha hb=>by rw[hx]at ha;rw[hy]at hb;cases ha;cases hb;omega⟩,fun _=>rfl⟩⟩
  ·rw[AA (show ¬(0:Int)<l.length by omega),ck_t (by rfl),Bs,Ab,Bs,Ab,ck_t (by rfl)];exact⟨0,rfl,⟨fun _=>⟨hl,h1,h2,fun a b ha hb=>by have:=(AE.1 ha).1;omega⟩,fun _=>rfl⟩⟩
theorem qzux{l:List Ao}(hl:l.length<=1000000)(ht:∀x,x∈l->x.Table.length<=1000000):∃e,Kf l=some e/\(e=0↔Fo l):=by
 unfold Kf;by_cases h:2000<l.length
 ·rw[it_d (by omega)];exact⟨2,rfl,⟨(fun e=>by cases e),fun R=>by have:=R.len;omega⟩⟩
 ·rw[it_n (by omega),wzsy hl ht,Ab];exact qz8j (by omega) (qz25 fun x hx h1=>qz00 h1 (ht x hx)) fun v hv=>qz9w hv
theorem qz7i{l:List Ao}(hl:l.length<=1000000)(ht:∀x,x∈l->x.Table.length<=1000000):∃e,Ke l=some e/\(e=0↔Fo l):=by
 unfold Ke;by_cases h:2000<l.length
 ·rw[it_d (by omega)];exact⟨2,rfl,⟨(fun e=>by cases e),fun R=>by have:=R.len;omega⟩⟩
 ·rw[it_n (by omega),wzt7 hl (fun x hx h1=>(qzz5 h1 (ht x hx)).imp fun _ h=>h.1),Ab];exact qz8j (by omega) (qz25 fun x hx h1=>qzz5 h1 (ht x hx)) fun v hv=>qz9w hv
theorem qz1o(c:Bg):∃b,JX c=some b/\(b=true->CSz c):=by
 unfold JX;by_cases h1:20<c.Points.length
 ·rw[it_d (by omega)];exact⟨_,rfl,fun e=>by cases e⟩
 ·rw[it_n (by omega)];rw[Ez (l:=c.Points) (fun k (p:Bw)=>if 12<p.Flow.Num.length\/12<p.Flow.Den.length then some false else none) (by omega) ?_ ?_]
  ·simp only[Ab];cases cy:scan (fun k (p:Bw)=>if 12<p.Flow.Num.length\/12<p.Flow.Den.length then some false else none) 0 c.Points with
   |none =>
    refine⟨_,rfl,fun _=>⟨by omega,fun p hp=>?_⟩⟩;obtain⟨i,hi⟩:=List.getElem?_of_mem hp;have:=ND cy hi;split at this
    ·cases this
    ·exact⟨by omega,by omega⟩
   |some o =>
    refine⟨_,rfl,fun e=>?_⟩;obtain⟨i,x,h1,h2⟩:=Fn _ _ _ cy;split at h2
    ·cases h2;cases e
    ·cases h2
  ·intro k p hp;have hk:=(AE.1 hp).1;simp only[P1];rw[it_d (by omega),at_e rfl hp];simp only[Ab];by_cases p1:12<p.Flow.Num.length
   ·rw[show decide (12<(p.Flow.Num.length:Int))=true by simp;omega];simp only[E4,Bs,Ab,BZ];rw[GW,Aj (.inl p1)]
   ·rw[show decide (12<(p.Flow.Num.length:Int))=false by simp;omega];simp only[Ft,Br,Ab,Co];by_cases p2:12<p.Flow.Den.length
    ·rw[it_d (by omega),Aj (.inr p2)]
    ·rw[it_n (by omega),Ag (by omega),A7 (by omega)]
  ·simp only[P1];rw[it_n (by omega)]
theorem wzkx(l:List Al){m:Int}(hm:m<=400):∃b,Ip l m=some b/\(b=true->LSz l/\∀s,s∈l->Sz 40 s.Weight):=by
 unfold Ip;by_cases h1:(m<(l.length:Int)/\(l.length:Int)<=400)\/410<(l.length:Int)
 ·rw[it_t (by rcases h1 with h1|h1<;>simp[h1]<;>omega)];exact⟨_,rfl,fun e=>by cases e⟩
 ·rw[it_f (by simp;omega)]
  let g:Nat->Al->Option Bool:=fun k s=>if JX s.Curve=some true/\s.Weight.Num.length<=40/\s.Weight.Den.length<=40 then none else some false
  rw[Ez (l:=l) g (by omega) ?_ ?_]
  ·simp only[Ab];cases cy:scan g 0 l with
   |none =>
    suffices key:∀s,s∈l->SSz s/\Sz 40 s.Weight from⟨_,rfl,fun _=>⟨⟨by omega,fun s hs=>(key s hs).1⟩,fun s hs=>(key s hs).2⟩⟩
    intro s hs;obtain⟨i,hi⟩:=List.getElem?_of_mem hs;have:=ND cy hi;unfold g at this;split at this
    ·rename_i p;obtain⟨b,e1,e2⟩:=qz1o s.Curve;rw[e1]at p;obtain⟨p1,p2,p3⟩:=p;cases p1;exact⟨⟨e2 rfl,by omega,by omega⟩,by omega,by omega⟩
    ·cases this
   |some o =>
    refine⟨_,rfl,fun e=>?_⟩;obtain⟨i,x,h1,h2⟩:=Fn _ _ _ cy;unfold g at h2;split at h2
    ·cases h2
    ·cases h2;cases e
  ·intro k s hs;have hk:=(AE.1 hs).1;obtain⟨b,e1,e2⟩:=qz1o s.Curve;simp only[PC];rw[it_d (by omega),at_e rfl hs];simp only[Ab];unfold g;rw[e1];simp only[Ab];cases b with
   |false =>rw[Ag (fun e=>by cases e.1)];simp only[Ft,E4,BZ,Bs,Ab];rw[GW]
   |true =>
    simp only[Ft,E4,Co,Br,Ab];by_cases p1:40<s.Weight.Num.length
    ·rw[show decide (40<(s.Weight.Num.length:Int))=true by simp;omega,Ag (by omega)];simp only[E4,BZ,Bs,Ab];rw[GW]
    ·rw[show decide (40<(s.Weight.Num.length:Int))=false by simp;omega];simp only[Ft,Co,Br,Ab];by_cases p2:40<s.Weight.Den.length
     ·rw[it_d (by omega),Ag (by omega)]
     ·rw[it_n (by omega),Aj ⟨trivial,by omega,by omega⟩,A7 (by omega)]
  ·simp only[PC];rw[it_n (by omega)]
theorem wzee{l:List Al}{m:Int}(h:Ip l m=some true)(h2:l.length<=400):(l.length:Int)<=m:=by
 false_or_by_contra
 rename_i hn;unfold Ip at h;rw[AD (show m<(l.length:Int) by omega),AD (show(l.length:Int)<=400 by omega)]at h;cases h
def tabF(k:Nat)(x:Ao):Option Bool:=if x.Table.length<=20 then none else some false
theorem wzjy(l:List Ao)(t:Int):∃b,Mc l 12 t=some b/\(b=true->l.length<=12/\(∀x,x∈l->x.Table.length<=20)/\(Fo l->∀x y,l[0]?=some x->l[l.length-1]?=some y->y.To-x.From<=t)):=by
 unfold Mc;by_cases h:12<l.length
 ·rw[it_d (by omega)];exact⟨false,rfl,fun h=>by cases h⟩
 rw[it_n (by omega)]
 have e0:lp (Mb l) 0=some (sOut (scan tabF 0 l)):=by
  refine Ez tabF (by omega) (fun k x e=>?_) ?_
  ·have hk:=(AE.1 e).1;simp only[Mb];rw[it_d (by omega),at_e rfl e,Ab];unfold tabF;by_cases h1:x.Table.length<=20
   ·rw[Aj h1,it_n (by omega),A7 (by omega)]
   ·rw[Ag h1,it_d (by omega)]
  ·simp only[Mb];rw[it_n (by omega)]
 rw[e0,Ab];cases hs:scan tabF 0 l with
 |some o =>
  refine⟨o,rfl,fun ho=>?_⟩;obtain⟨i,x,_,h2⟩:=Fn 0 l o hs;unfold tabF at h2;split at h2
  ·cases h2
  ·cases h2;cases ho
 |none =>
  have ht:∀x,x∈l->x.Table.length<=20:=fun x hx=>by
   obtain⟨i,hi⟩:=Dy.1 hx;have:=Fj 0 l hs i x hi;unfold tabF at this;split at this
   ·assumption
   ·cases this
  obtain⟨e,he,hr⟩:=qz7i (l:=l) (by omega) fun x hx=>by have:=ht x hx;omega
  show ∃b,(bd (Ke l) _)=some b/\_;rw[he,Ab];by_cases hz:e=0
  ·have R:=hr.1 hz;rw[AD hz];by_cases h0:l.length=0
   ·rw[AD (show(l.length:Int)=0 by omega)];exact⟨true,rfl,fun _=>⟨by omega,ht,fun _ x y hx=>by have:=(AE.1 hx).1;omega⟩⟩
   ·obtain⟨x,hx⟩:=AR (l:=l) (k:=0) (by omega);obtain⟨y,hy⟩:=AR (l:=l) (k:=l.length-1) (by omega);have rx:=(R.run x (AI hx)).fr;have ry:=(R.run y (AI hy)).fr;rw[AA (show ¬(l.length:Int)=0 by omega)];rw[ck_t (by simp[Au];omega)];show ∃b,(bd (at? l ((l.length:Int)-1)) _)=some b/\_;rw[at_e (n:=l.length-1) (by omega) hy,Ab];show ∃b,(bd (at? l 0) _)=some b/\_;rw[show at? l 0=some x from at_e (n:=0) rfl hx,Ab,ck_t (by simp[Au];omega)];refine⟨decide (y.To-x.From<=t),rfl,fun hb=>⟨by omega,ht,fun _ a b ha bg=>?_⟩⟩;rw[hx]at ha;rw[hy]at bg;cases ha;cases bg;exact BK hb
  ·rw[AA hz];exact⟨true,rfl,fun _=>⟨by omega,ht,fun R=>absurd (hr.2 R) hz⟩⟩
structure FewS(l:List Ao)(s:List Al)(t:Int):Prop where
 len:l.length<=12
 tab:∀x,x∈l->x.Table.length<=20
 tot:Fo l->∀x y,l[0]?=some x->l[l.length-1]?=some y->y.To-x.From<=t
 sz:LSz s
 spn:s.length<=400->s.length<=8
theorem wzk9(l:List Ao)(s:List Al)(t:Int):∃b,Mk l s t=some b/\(b=true->FewS l s t/\∀x,x∈s->Sz 40 x.Weight):=by
 unfold Mk;obtain⟨b,e,hb⟩:=wzjy l t;rw[e,Ab];cases b with
 |false=>exact⟨false,rfl,fun h=>by cases h⟩
 |true =>
  obtain⟨h1,h2,h3⟩:=hb rfl;obtain⟨c,e2,hc⟩:=wzkx s (m:=8) (by omega);rw[Br,e2,Ab];cases c with
  |false=>exact⟨false,rfl,fun h=>by cases h⟩
  |true=>exact⟨true,rfl,fun _=>⟨⟨h1,h2,h3,(hc rfl).1,fun h=>by have:=wzee e2 h;omega⟩,(hc rfl).2⟩⟩
def cnA(a:Nat->Int)(j:Int):Nat->Nat
 |0=>0
 |k+1=>cnA a j k+(if a k=j then 1 else 0)
theorem wzdq{a:Nat->Int}{j:Int}:∀(d k:Nat),cnA a j k<=cnA a j (k+d)
 |0,k=>A8 _
 |d+1,k=>AS (wzdq d k) (Nat.le_add_right _ _)
theorem KW{a:Nat->Int}{i n:Nat}(h:i<n):cnA a (a i) i<cnA a (a i) n:=by
 have h1:=wzdq (a:=a) (j:=a i) (n-(i+1)) (i+1);rw[show i+1+(n-(i+1))=n by omega]at h1;have h2:cnA a (a i) (i+1)=cnA a (a i) i+1:=by show _+(if a i=a i then 1 else 0)=_;rw[Aj rfl]
 omega
theorem KX(l:List Al)(t j:Int):∀k,cntC l t j k=cnA (fun i=>atC l (t+(i:Int))) j k
 |0=>rfl
 |k+1=>by show cntC l t j k+_=cnA _ j k+_;rw[KX l t j k]
def smJ(J:List Int)(g:Int->Rat):Rat:=sQ (J.map g)
theorem Jh{f g:Int->Rat}:∀{J:List Int},(∀j,j∈J->f j=g j)->smJ J f=smJ J g
 |[],_=>rfl
 |x :: J,h=>by show f x+smJ J f=g x+smJ J g;rw[h x (AP ..),Jh fun j hj=>h j (AQ _ hj)]
theorem Sy{f g:Int->Rat}{j0:Int}{d:Rat}:∀{J:List Int},J.Nodup->j0∈J->(∀j,j∈J->j≠j0->g j=f j)->g j0=f j0+d->smJ J g=smJ J f+d
 |[],_,h,_,_=>by cases h
 |x :: J,hn,h,h1,h2=>by
  show g x+smJ J g=f x+smJ J f+d;obtain⟨n1,n2⟩:=List.nodup_cons.1 hn;by_cases e:x=j0
  ·subst e;rw[h2,Jh (f:=g) (g:=f) fun j hj=>h1 j (AQ _ hj) fun e=>n1 (e▸hj)];grind
  ·have hm:j0∈J:=by
    rcases AY.1 h with h|h
    ·exact absurd h.symm e
    ·exact h
   rw[h1 x (AP ..) e,Sy n2 hm (fun j hj=>h1 j (AQ _ hj)) h2];grind
def BJ(a:Nat->Int)(L:Int->List Int)(i:Nat):Int:=((L (a i)).drop (cnA a (a i) i)).headD 0
theorem qz79(U:Int->Int->Rat){a:Nat->Int}{L:Int->List Int}{J:List Int}{n:Nat}(hJ:J.Nodup)(ha:∀i,i<n->a i∈J)(hL:∀j,j∈J->(L j).length=cnA a j n) : ∀k,k<=n->sm k (fun i=>U (a i) (BJ a L i))=smJ J (fun j=>sQ (((L j).take (cnA a j k)).map (U j)))
 |0,_=>by
  have:∀J:List Int,smJ J (fun j=>sQ (((L j).take (cnA a j 0)).map (U j)))=0:=fun J=>by
   induction J with
   |nil=>rfl
   |cons x J ih=>show sQ (((L x).take 0).map (U x))+smJ J _=0;rw[ih];show(0:Rat)+0=0;grind
  rw[this];rfl
 |k+1,hk=>by
  have ih:=qz79 U hJ ha hL k (by omega);have hm:=ha k (by omega);have hlt:=KW (a:=a) (show k<n by omega);have hl:=hL (a k) hm;obtain⟨v,hv⟩:=AR (l:=L (a k)) (k:=cnA a (a k) k) (by omega);show sm k _+U (a k) (BJ a L k)=_;rw[ih];refine(Sy hJ hm (fun j hj aH=>?_) ?_).symm
  ·show sQ (((L j).take (cnA a j k+(if a k=j then 1 else 0))).map (U j))=_;rw[Ag (Ne.symm aH)];rfl
  ·show sQ (((L (a k)).take (cnA a (a k) k+(if a k=a k then 1 else 0))).map (U (a k)))=_;rw[Aj rfl,List.take_add_one,hv,List.map_append,MK];have:BJ a L k=v:=by unfold BJ;rw[E5 (by omega)];exact(AE.1 hv).2
   rw[this];show _+(U (a k) v+0)=_
   grind
theorem wzw6(U:Int->Int->Rat){a:Nat->Int}{L:Int->List Int}{J:List Int}{n:Nat}(hJ:J.Nodup)(ha:∀i,i<n->a i∈J)(hL:∀j,j∈J->(L j).length=cnA a j n) :
  sm n (fun i=>U (a i) (BJ a L i))=smJ J (fun j=>sQ ((L j).map (U j))):=by
 rw[qz79 U hJ ha hL n (A8 _)];exact Jh fun j hj=>by rw[<-hL j hj,List.take_length]
theorem qz7s{a:Nat->Int}{L:Int->List Int}{J:List Int}{n:Nat}(ha:∀i,i<n->a i∈J)(hL:∀j,j∈J->(L j).length=cnA a j n){i:Nat}(hi:i<n):BJ a L i∈L (a i):=by have hlt:=KW (a:=a) hi;have hl:=hL (a i) (ha i hi);unfold BJ;rw[E5 (by omega)];exact Jk _
def ind(a b:Int):Rat:=if a=b then 1 else 0
theorem Ji{a:Nat->Int}{j:Int}:∀n,((cnA a j n:Nat):Rat)=sm n (fun i=>ind (a i) j)
 |0=>rfl
 |n+1=>by
  show(((cnA a j n+(if a n=j then 1 else 0):Nat)):Rat)=sm n _+ind (a n) j;rw[<-Ji n];unfold ind;split
  ·rw[Rat.natCast_add];rfl
  ·rw[Gg];grind
theorem qz8p(f g:Int->Rat):∀J:List Int,smJ J (fun j=>f j+g j)=smJ J f+smJ J g
 |[]=>by show(0:Rat)=0+0;grind
 |x :: J=>by show f x+g x+smJ J _=f x+smJ J f+(g x+smJ J g);rw[qz8p f g J];grind
theorem qz4z(J:List Int):smJ J (fun _=>0)=0:=by
 induction J with
 |nil=>rfl
 |cons x J ih=>show 0+smJ J _=0;rw[ih];grind
theorem S0(f:Int->Nat->Rat)(J:List Int):∀n,smJ J (fun j=>sm n (f j))=sm n (fun i=>smJ J (fun j=>f j i))
 |0=>qz4z J
 |n+1=>by show smJ J (fun j=>sm n (f j)+f j n)=sm n _+smJ J (fun j=>f j n);rw[qz8p,S0 f J n]
theorem Hv{J:List Int}(hJ:J.Nodup){a:Int}(ha:a∈J)(g:Int->Rat):smJ J (fun j=>ind a j*g j)=g a:=by have:=Sy (f:=fun _=>0) (g:=fun j=>ind a j*g j) (d:=g a) hJ ha (fun j _ aH=>by unfold ind;rw[Ag (Ne.symm aH)];grind) (by unfold ind;rw[Aj rfl];grind);rw[this,qz4z];grind
theorem wzqc(f:Int->Rat)(J K:List Int):smJ (J++K) f=smJ J f+smJ K f:=by unfold smJ;rw[List.map_append,MK]
theorem qz8e{a:Nat->Int}{J:List Int}{n:Nat}(hJ:J.Nodup)(ha:∀i,i<n->a i∈J):smJ J (fun j=>((cnA a j n:Nat):Rat))=(n:Rat):=by
 rw[Jh (g:=fun j=>sm n (fun i=>ind (a i) j)) fun j _=>Ji n,S0];have h1:∀i,i<n->smJ J (fun j=>ind (a i) j)=1:=fun i hi=>by have:=Hv hJ (ha i hi) (fun _=>1);rw[<-this];exact Jh fun j _=>by grind
 rw[Be h1];clear h1 ha;induction n with
 |zero=>rfl
 |succ n ih=>show sm n _+1=_;rw[ih];rw[Rat.natCast_add];rfl
theorem NM{x:Ao}:∀(l:List Al) (k:Int) (c:A9),c∈clsL x k l↔∃(i:Nat) (s:Al),l[i]?=some s/\0<ovl1 x s/\c=⟨k+(i:Int),ovl1 x s⟩
 |[],k,c=>⟨(fun h=>by cases h),fun⟨i,s,h,_⟩=>by simp at h⟩
 |s :: l,k,c=>by
  have ih:=NM (x:=x) l (k+1) c
  have tail:(c∈clsL x (k+1) l)↔∃(i:Nat) (t:Al),(s :: l)[i+1]?=some t/\0<ovl1 x t/\c=⟨k+((i+1:Nat):Int),ovl1 x t⟩:=by
   rw[ih];constructor
   ·rintro⟨i,t,h1,h2,h3⟩;exact⟨i,t,by simpa using h1,h2,by rw[h3];congr 1;omega⟩
   ·rintro⟨i,t,h1,h2,h3⟩;exact⟨i,t,by simpa using h1,h2,by rw[h3];congr 1;omega⟩
  unfold clsL;constructor
  ·intro h;split at h
   ·rename_i h0;rcases AY.1 h with rfl|h
    ·exact⟨0,s,rfl,h0,by simp⟩
    ·obtain⟨i,t,h⟩:=tail.1 h;exact⟨i+1,t,h⟩
   ·obtain⟨i,t,h⟩:=tail.1 h;exact⟨i+1,t,h⟩
  ·rintro⟨i,t,h1,h2,h3⟩;cases i with
   |zero =>simp at h1;subst h1;rw[Aj h2];rw[h3];simp
   |succ i =>
    have:=tail.2 ⟨i,t,h1,h2,h3⟩;split
    ·exact AQ _ this
    ·exact this
theorem qzwh{x:Ao}:∀(l:List Al) (k:Int),((clsL x k l).map (·.Span)).Nodup/\∀j,j∈(clsL x k l).map (·.Span)->k<=j
 |[],k=>⟨.nil,fun j h=>by cases h⟩
 |s :: l,k=>by
  obtain⟨h1,h2⟩:=qzwh (x:=x) l (k+1);unfold clsL;split
  ·refine⟨List.nodup_cons.2 ⟨fun h=>?_,h1⟩,fun j hj=>?_⟩;·have:=h2 _ h;simp only at this;omega
   ·rcases AY.1 hj with rfl|hj;·exact Jj _
    ·have:=h2 j hj;omega
  ·exact⟨h1,fun j hj=>by have:=h2 j hj;omega⟩
theorem qz71(cl:List A9)(f:Int->Rat):smJ (cl.map (·.Span)) f=sQ (cl.map fun c=>f c.Span):=by unfold smJ;rw[List.map_map];rfl
theorem qz6r:∀cl:List A9,sQ (cl.map fun c=>(c.Ticks:Rat))=((clsT cl:Int):Rat)
 |[]=>rfl
 |c :: cl=>by show(c.Ticks:Rat)+sQ (cl.map _)=((c.Ticks+clsT cl:Int):Rat);rw[qz6r cl,Rat.intCast_add]
structure ClsR(l:List Al)(r:Ao)(a:Nat->Int)(n:Nat)(cl:List A9):Prop where
 nd:(cl.map (·.Span)).Nodup
 mem:∀i,i<n->a i∈cl.map (·.Span)
 cnt:∀c,c∈cl->c.Ticks=((cnA a c.Span n:Nat):Int)
 rng:∀c,c∈cl->c.Span<0\/c.Span<l.length
 len:cl.length<=l.length+1
 pos:0<cl.length
 tk:∀c,c∈cl->0<c.Ticks/\c.Ticks<=1402560
theorem qz2p{x:Ao}:∀(l:List Al) (k:Int),(clsL x k l).length<=l.length
 |[],_=>A8 _
 |s :: l,k=>by
  have:=qz2p (x:=x) l (k+1);unfold clsL;split
  ·simp only[Bl];omega
  ·simp only[Bl];omega
theorem wzif{l:List Al}(H:SpR l){r:Ao}(hx:frR r):Ij r l=some (clsA r l)/\ClsR l r (fun i=>atC l (r.From+(i:Int))) (r.To-r.From).toNat (clsA r l):=by
 obtain⟨e1,e2,e3⟩:=qz9m H hx;refine⟨e1,?_⟩;unfold frR at hx;obtain⟨n,hn⟩:∃n:Nat,r.To-r.From=n:=⟨(r.To-r.From).toNat,by omega⟩;have fy:(r.To-r.From).toNat=n:=by omega
 rw[fy];obtain⟨nd1,nd2⟩:=qzwh (x:=r) l 0;have ndx:((clsL r 0 l).map (fun c=>c.Span)++[(-1:Int)]).Nodup:=by rw[List.nodup_append];refine⟨nd1,by simp,fun x hx y hy e=>?_⟩;have:=nd2 x hx;rw[BX]at hy;omega
 have mem1:∀i,i<n->atC l (r.From+(i:Int))∈(clsL r 0 l).map (fun c=>c.Span)++[(-1:Int)]:=fun i hi=>by
  rcases Sw (l:=l) (t:=r.From+(i:Int)) with ⟨h1,_⟩|⟨j,s,h1,h2,h3⟩
  ·rw[h1];simp
  ·refine List.mem_append_left _ ?_;rw[h3];refine C7.2 ⟨⟨0+(j:Int),ovl1 r s⟩,(NM l 0 _).2 ⟨j,s,h1,?_,rfl⟩,by simp⟩;unfold inS at h2;unfold ovl1;omega
 have cnt1:∀c,c∈clsL r 0 l->c.Ticks=((cnA (fun i=>atC l (r.From+(i:Int))) c.Span n:Nat):Int):=fun c hc=>by obtain⟨j,s,h1,h2,rfl⟩:=(NM l 0 c).1 hc;have:=wzi2 H (x:=r) (by omega) h1;rw[fy,KX]at this;simp only[Int.zero_add];rw[this];omega
 have all:=qz8e (a:=fun i=>atC l (r.From+(i:Int))) ndx mem1;rw[wzqc,qz71]at all;have s1:sQ ((clsL r 0 l).map fun c=>((cnA (fun i=>atC l (r.From+(i:Int))) c.Span n:Nat):Rat))=((clsT (clsL r 0 l):Int):Rat):=by rw[<-qz6r];congr 1;refine H6 fun c hc=>?_;rw[cnt1 c hc];rfl
 have s2:smJ [-1] (fun j=>((cnA (fun i=>atC l (r.From+(i:Int))) j n:Nat):Rat))=((cnA (fun i=>atC l (r.From+(i:Int))) (-1) n:Nat):Rat):=by
  show _+0=_
  grind
 rw[s1,s2]at all
 have bD:clsT (clsL r 0 l)+((cnA (fun i=>atC l (r.From+(i:Int))) (-1) n:Nat):Int)=(n:Int):=by
  have:(((clsT (clsL r 0 l)+((cnA (fun i=>atC l (r.From+(i:Int))) (-1) n:Nat):Int)):Int):Rat)=((n:Int):Rat):=by rw[Rat.intCast_add];exact all
  exact Rat.intCast_inj.1 this
 have hL:∀c,c∈clsL r 0 l->0<=c.Span/\c.Span<l.length:=fun c hc=>by obtain⟨j,s,h1,h2,rfl⟩:=(NM l 0 c).1 hc;have:=(AE.1 h1).1;simp only;omega
 have ml:=qz2p (x:=r) l 0
 have bt:0<(clsA r l).length:=by
  have:clsA r l≠[]:=fun e=>by rw[e]at e3;have:clsT []=0:=rfl;omega
  exact List.length_pos_iff.2 this
 have gl:∀c,c∈clsA r l->c.Ticks=((cnA (fun i=>atC l (r.From+(i:Int))) c.Span n:Nat):Int):=fun c hc=>by
  unfold clsA at hc;rcases Dx.1 hc with h|h
  ·exact cnt1 c h
  ·split at h;·rw[BX.1 h];simp only;omega
   ·cases h
 have cnle:∀(j:Int) (k:Nat),cnA (fun i=>atC l (r.From+(i:Int))) j k<=k:=fun j k=>by
  induction k with
  |zero=>exact A8 _
  |succ k ih=>show _+(if _ then 1 else 0)<=_;split<;>omega
 refine⟨?_,?_,gl,?_,?_,bt,fun c hc=>⟨e2 c hc,by have:=gl c hc;have:=cnle c.Span n;omega⟩⟩
 ·unfold clsA;rw[List.map_append];split
  ·exact ndx
  ·simpa using nd1
 ·intro i hi;have:=mem1 i hi;unfold clsA;rw[List.map_append];split
  ·exact this
  ·rename_i h0;rcases Dx.1 this with h|h
   ·exact List.mem_append_left _ h
   ·exfalso;rw[BX]at h;have h2:=KW (a:=fun i=>atC l (r.From+(i:Int))) hi;rw[h]at h2;omega
 ·intro c hc;unfold clsA at hc;rcases Dx.1 hc with h|h
  ·exact .inr (hL c h).2
  ·split at h;·rw[BX.1 h];left;show(-1:Int)<0;omega
   ·cases h
 ·unfold clsA;rw[Dv];split
  ·simp only[Bl,List.length_nil];omega
  ·simp only[List.length_nil];omega
def AgR(r:Ao)(n:Nat)(f:Nat->Int):Prop :=
 if r.Table=[] then ∀i,i<n->r.Lo<=f i/\f i<=r.Hi
 else(∀i,i<n->∃h,h∈r.Table/\f i=h.Stage)/\∀h,h∈r.Table->sm n (fun i=>ind (f i) h.Stage)=(h.Ticks:Rat)
def cst(l:List Al)(tu:Bool)(t:Int)(n:Nat)(f:Nat->Int):Rat:=sm n fun i=>rtC l tu (atC l (t+(i:Int))) (f i)
def kys(m:List (Int×List Int)):List Int:=m.map fun p=>p.1
def KN(m:List (Int×List Int)):Prop:=(kys m).Nodup
theorem qz0p(a:Int)(b:List Int):∀m:List (Int×List Int),kys (mput keqI m a b)=if a∈kys m then kys m else kys m++[a]
 |[]=>by simp[mput,kys]
 |p :: m=>by
  have ih:=qz0p a b m;show kys (match keqI a p.1 with | true=>(a,b) :: m | false=>p :: mput keqI m a b)=if a∈p.1 :: kys m then p.1 :: kys m else p.1 :: kys m++[a];by_cases h:a=p.1
  ·rw[show keqI a p.1=true from AD h,Aj (by rw[h];exact AP ..)];show a :: kys m=_;rw[h]
  ·rw[show keqI a p.1=false from AA h];show p.1 :: kys (mput keqI m a b)=_;rw[ih];by_cases h2:a∈kys m
   ·rw[Aj h2,Aj (AQ _ h2)]
   ·rw[Ag h2,Ag (fun h3=>by rcases AY.1 h3 with h3 | h3<;>contradiction)];rfl
theorem KN.put{m:List (Int×List Int)}(H:KN m)(a:Int)(b:List Int):KN (mput keqI m a b):=by
 unfold KN;rw[qz0p];split
 ·exact H
 ·rename_i hn;rw[List.nodup_append];refine⟨H,by simp,fun x hx y hy e=>hn ?_⟩;rw[BX]at hy;rw[<-hy,<-e];exact hx
theorem KN.many{a s:Int}:∀{N j:Nat} {m m1:List (Int×List Int)},KN m->forN (fun m (_:Nat)=>some (Bp m a s)) N j m=some m1->KN m1
 |0,j,m,m1,H,h=>by cases h;exact H
 |N+1,j,m,m1,H,h=>KN.many (m:=Bp m a s) (H.put _ _) (show forN (fun m (_:Nat)=>some (Bp m a s)) N (j+1) (Bp m a s)=some m1 from h)
theorem bd_x{α Y:Type}{a:Option α}{k:α->Option Y}{r:Y}(h:bd a k=some r):∃x,a=some x/\k x=some r:=by
 cases a with
 |none=>cases h
 |some x=>exact⟨x,rfl,h⟩
theorem KN.gap{rate:Int->Int->Option Af}{r:Ao}:∀{cl:List A9} {m m1:List (Int×List Int)} {q q1:Af},KN m->Ed rate r cl m q=some (m1,q1)->KN m1
 |[],m,m1,q,q1,H,h=>by cases h;exact H
 |c :: l,m,m1,q,q1,H,h=>by obtain⟨a,_,h⟩:=bd_x (show bd (rate c.Span r.Hi) _=some (m1,q1) from h);obtain⟨b,_,h⟩:=bd_x h;obtain⟨e,_,h⟩:=bd_x h;obtain⟨m2,h1,h⟩:=bd_x h;obtain⟨i,_,h⟩:=bd_x h;obtain⟨g,_,h⟩:=bd_x h;obtain⟨p,_,h⟩:=bd_x h;obtain⟨q2,_,h⟩:=bd_x h;exact KN.gap (H.many h1) h
theorem KN.row{hd:AM}:∀{cl:List A9} {co:List Af} {x:List Int} {m m1:List (Int×List Int)} {q q1:Af},KN m->D5 hd cl co x m q=some (m1,q1)->KN m1
 |cl,co,[],m,m1,q,q1,H,h=>by
  have:some (m,q)=some (m1,q1):=by cases cl<;>cases co<;>exact h
  cases this;exact H
 |[],_,n :: x,m,m1,q,q1,H,h=>by cases h
 |c :: cl,[],n :: x,m,m1,q,q1,H,h=>by cases h
 |c :: cl,g :: co,n :: x,m,m1,q,q1,H,h=>by obtain⟨m2,h1,h⟩:=bd_x (show bd (forN _ n.toNat 0 m) _=some (m1,q1) from h);obtain⟨i,_,h⟩:=bd_x h;obtain⟨p,_,h⟩:=bd_x h;obtain⟨q2,_,h⟩:=bd_x h;exact KN.row (H.many h1) h
theorem KN.tab{cl:List A9}:∀{T:List AM} {co:List (List Af)} {x:List (List Int)} {m m1:List (Int×List Int)} {q q1:Af},KN m->D6 cl T co x m q=some (m1,q1)->KN m1
 |T,co,[],m,m1,q,q1,H,h=>by
  have:some (m,q)=some (m1,q1):=by cases T<;>cases co<;>exact h
  cases this;exact H
 |[],_,n :: x,m,m1,q,q1,H,h=>by cases h
 |c :: cl,[],n :: x,m,m1,q,q1,H,h=>by cases h
 |hd :: T,co :: cs,n :: x,m,m1,q,q1,H,h=>by obtain⟨⟨m2,q2⟩,h1,h⟩:=bd_x (show bd (D5 hd cl co n m q) _=some (m1,q1) from h);exact KN.tab (H.row h1) h
theorem KN.get{m:List (Int×List Int)}(H:KN m){e:Int×List Int}(he:e∈m):gM m e.1=e.2:=by
 unfold gM
 have:mget keqI m e.1=some e.2:=by
  induction m with
  |nil=>cases he
  |cons p m ih =>
   show(match keqI e.1 p.1 with | true=>some p.2 | false=>mget keqI m e.1)=_;obtain⟨n1,n2⟩:=List.nodup_cons.1 H;rcases AY.1 he with rfl|he
   ·rw[show keqI e.1 e.1=true from AD rfl]
   ·have aH:e.1≠p.1:=fun h=>n1 (by show p.1∈_;rw[<-h];exact C7.2 ⟨e,he,rfl⟩);rw[show keqI e.1 p.1=false from AA aH];exact ih n2 he
 rw[this];rfl
theorem qz77{m:List (Int×List Int)}(H:KN m){n:Nat}(hn:n<=1000000000)(hl:∀j,(gM m j).length<=n):(m.all fun e=>decide ((List.length e.2:Int)<=1000000000))=true:=by rw[CS];intro e he;have:=hl e.1;rw[H.get he]at this;exact AD (by omega)
theorem qz83{cl:List A9}{f:A9->List Int}{j:Int}:j∉cl.map (·.Span)->byC cl f j=[]:=by
 induction cl with
 |nil=>intro _;rfl
 |cons c cl ih =>intro h;rw[Su,Ag (fun e=>h (by rw[e];simp)),ih fun hm=>h (AQ _ hm)];rfl
theorem wzr5{cl:List A9}{f:A9->List Int}(hn:(cl.map (·.Span)).Nodup){c:A9}(hc:c∈cl):byC cl f c.Span=f c:=by
 induction cl with
 |nil=>cases hc
 |cons d cl ih =>
  obtain⟨n1,n2⟩:=List.nodup_cons.1 hn;rw[Su];rcases AY.1 hc with rfl|hc
  ·rw[Aj rfl,qz83 n1,List.append_nil]
  ·rw[Ag (fun e:c.Span=d.Span=>n1 (by simp only;rw[<-e];exact C7.2 ⟨c,hc,rfl⟩)),ih n2 hc];rfl
structure RunE(l:List Al)(tu:Bool)(r:Ao)(m:List (Int×List Int))(v:Rat):Prop where
 cap:(m.all fun e=>decide ((List.length e.2:Int)<=1000000000))=true
 len:∀i:Nat,i<(r.To-r.From).toNat->cntC l r.From (atC l (r.From+(i:Int))) i<(gM m (atC l (r.From+(i:Int)))).length
 ag:AgR r (r.To-r.From).toNat (BJ (fun i=>atC l (r.From+(i:Int))) (gM m))
 eq:cst l tu r.From (r.To-r.From).toNat (BJ (fun i=>atC l (r.From+(i:Int))) (gM m))=v
 le:∀f,AgR r (r.To-r.From).toNat f->v<=cst l tu r.From (r.To-r.From).toNat f
 st:∀i,i<(r.To-r.From).toNat->0<=BJ (fun i=>atC l (r.From+(i:Int))) (gM m) i/\BJ (fun i=>atC l (r.From+(i:Int))) (gM m) i<=1000
theorem wzo8{a:Nat->Int}{J:List Int}{n:Nat}(hJ:J.Nodup)(ha:∀i,i<n->a i∈J)(g:Int->Rat):sm n (fun i=>g (a i))=smJ J (fun j=>((cnA a j n:Nat):Rat)*g j):=by
 have h1:∀j,j∈J->((cnA a j n:Nat):Rat)*g j=sm n (fun i=>ind (a i) j*g j):=fun j _=>by rw[Ji,Be (f:=fun i=>ind (a i) j*g j) (g:=fun i=>g j*ind (a i) j) fun i _=>by grind,Fm];grind
 rw[Jh h1,S0];exact Be fun i hi=>(Hv hJ (ha i hi) g).symm
theorem S3(a:Nat->Int)(j:Int):∀k,cnA a j k<=k
 |0=>A8 _
 |k+1=>by have:=S3 a j k;show _+(if _ then 1 else 0)<=_;split<;>omega
def bsJ(l:List Al)(tu:Bool)(r:Ao)(j:Int):Int:=open Classical in if rtC l tu j r.Hi<rtC l tu j r.Lo then r.Hi else r.Lo
theorem wzog{l:List Al}(H:SpR l)(hl:l.length<=8)(hz:∀s,s∈l->SSz s/\BB s){tu:Bool}{r:Ao}(R:RunR r)(ht:r.Table=[]){q:Rat}{K:Nat}(hK:Sz K (rof q))(k1:1<=K)(hb:K+47186100<=8589934592) : ∃m v,(bd (Ij r l) fun cl=>ck (decide (cl.length<=1000000))<|Ed (fun s t=>GJ s t l tu) r cl [] (rof q))=some (m,rof (q+v))/\Sz (K+47186100) (rof (q+v))/\RunE l tu r m v:=by
 obtain⟨e1,C⟩:=wzif H R.fr
 have pe:0<=r.Lo/\r.Lo<=r.Hi/\r.Hi<=1000:=by
  rcases R.tb with ⟨_,h⟩|⟨h,_⟩
  ·exact h
  ·exact absurd ht h.ne
 have dr:=R.fr;generalize clsA r l=cl at e1 C;have aE:=C.len;obtain⟨m,e2,z2,g2⟩:=qz28 (A:=5242890) (r:=r) (rate:=fun s t=>GJ s t l tu) (rc:=rtC l tu) (by omega) cl [] q K (fun c hc=>⟨by have:=(C.tk c hc).1;omega,(C.tk c hc).2,Sq hz (C.rng c hc) (by omega),Sq hz (C.rng c hc) (by omega)⟩) hK k1 (by have:cl.length*(5242890+10)<=9*(5242890+10):=Bd _ (by omega);omega);have hg:∀j,gM m j=byC cl (fun c=>List.replicate c.Ticks.toNat (bst (rtC l tu) r c)) j:=fun j=>by rw[g2 j];rfl
 have bL:∀c,c∈cl->gM m c.Span=List.replicate c.Ticks.toNat (bsJ l tu r c.Span):=fun c hc=>by rw[hg,wzr5 C.nd hc];rfl
 have hJ:∀j,j∈cl.map (·.Span)->(gM m j).length=cnA (fun i=>atC l (r.From+(i:Int))) j (r.To-r.From).toNat:=fun j hj=>by obtain⟨c,hc,rfl⟩:=C7.1 hj;rw[bL c hc,Ob];have:=C.cnt c hc;omega
 have fK:∀i,i<(r.To-r.From).toNat->BJ (fun i=>atC l (r.From+(i:Int))) (gM m) i=bsJ l tu r (atC l (r.From+(i:Int))):=fun i hi=>by have h1:=qz7s C.mem hJ hi;obtain⟨c,hc,h2⟩:=C7.1 (C.mem i hi);have h2:c.Span=atC l (r.From+(i:Int)):=h2;have h1:_∈gM m (atC l (r.From+(i:Int))):=h1;rw[<-h2,bL c hc]at h1;rw[<-h2];exact(List.mem_replicate.1 h1).2
 have km:∀j,bsJ l tu r j=r.Hi\/bsJ l tu r j=r.Lo:=fun j=>by unfold bsJ;split;exact .inl rfl;exact .inr rfl
 have dH:cst l tu r.From (r.To-r.From).toNat (BJ (fun i=>atC l (r.From+(i:Int))) (gM m))=sQ (cl.map fun c=>(c.Ticks:Rat)*rtC l tu c.Span (bst (rtC l tu) r c)):=by unfold cst;rw[Be (g:=fun i=>(fun j=>rtC l tu j (bsJ l tu r j)) (atC l (r.From+(i:Int)))) fun i hi=>by rw[fK i hi],wzo8 C.nd C.mem (fun j=>rtC l tu j (bsJ l tu r j)),qz71];congr 1;refine H6 fun c hc=>?_;rw[C.cnt c hc];rfl
 refine⟨m,_,by rw[e1,Ab,ck_d (by omega)];exact e2,z2.mono (by have:cl.length*(5242890+10)<=9*(5242890+10):=Bd _ (by omega);omega),⟨?_,fun i hi=>?_,?_,dH,fun f hf=>?_,fun i hi=>?_⟩⟩
 ·refine qz77 (KN.gap (m:=[]) List.nodup_nil e2) (n:=1402560) (by omega) fun j=>?_;by_cases hj:j∈cl.map (·.Span)
  ·rw[hJ j hj];have:=S3 (fun i=>atC l (r.From+(i:Int))) j (r.To-r.From).toNat;omega
  ·rw[hg,qz83 hj];simp
 ·rw[hJ _ (C.mem i hi),KX];exact KW (a:=fun i=>atC l (r.From+(i:Int))) hi
 ·unfold AgR;rw[Aj ht];intro i hi;rw[fK i hi];rcases km (atC l (r.From+(i:Int))) with h|h<;>rw[h]<;>omega
 ·rw[<-dH];unfold cst;refine Hu fun i hi=>?_;unfold AgR at hf;rw[Aj ht]at hf;obtain⟨f1,f2⟩:=hf i hi;rw[fK i hi];have ma:atC l (r.From+(i:Int))<0\/atC l (r.From+(i:Int))<l.length:=by obtain⟨c,hc,h2⟩:=C7.1 (C.mem i hi);have:=C.rng c hc;have h2:c.Span=atC l (r.From+(i:Int)):=h2;rw[<-h2];exact this
  have:=wztj (tu:=tu) hz ma f1 f2;unfold bsJ;split
  ·rename_i h;rcases this with h2|h2
   ·grind
   ·exact h2
  ·rename_i h;rcases this with h2|h2
   ·exact h2
   ·grind
 ·rw[fK i hi];rcases km (atC l (r.From+(i:Int))) with h|h<;>rw[h]<;>omega
theorem KY(f:Nat->Rat):∀n,sm (n+1) f=f 0+sm n (fun i=>f (i+1))
 |0=>by show(0:Rat)+f 0=f 0+0;grind
 |n+1=>by show sm (n+1) f+f (n+1)=f 0+(sm n (fun i=>f (i+1))+f (n+1));rw[KY f n];grind
theorem Hw{α:Type}[Inhabited α](f:α->Rat):∀l:List α,sQ (l.map f)=sm l.length (fun b=>f (l.getD b default))
 |[]=>rfl
 |x :: l=>by show f x+sQ (l.map f)=sm (l.length+1) _;rw[KY,Hw f l];rfl
theorem NN:∀l:List Int,((isum l:Int):Rat)=sQ (l.map fun v:Int=>(v:Rat))
 |[]=>rfl
 |x :: l=>by show((x+isum l:Int):Rat)=(x:Rat)+sQ _;rw[Rat.intCast_add,NN l]
theorem wzts{x:List (List Int)}{s:Nat}{r:List Int}(h:x[s]?=some r):sm r.length (xF x s)=((isum r:Int):Rat):=by rw[NN,Hw];refine Be fun b _=>?_;unfold xF xI;rw[show x.getD s []=r by simp[List.getD,h]];rfl
theorem wzt9(x:List (List Int))(b:Nat):sm x.length (fun s=>xF x s b)=((icol x b:Int):Rat):=by unfold icol;rw[NN,List.map_map,Hw];rfl
theorem S4{st j:Int}:∀{cl:List A9} {x:List Int},j∉cl.map (·.Span)->Cn st j cl x=[]
 |[],x,_=>rfl
 |c :: cl,[],_=>rfl
 |c :: cl,n :: x,h=>by show(if j=c.Span then _ else [])++Cn st j cl x=[];rw[Ag (fun e=>h (by rw[e];simp)),S4 fun hm=>h (AQ _ hm)];rfl
theorem qz96{st:Int}:∀{cl:List A9} {x:List Int} {b:Nat} {c:A9},(cl.map (·.Span)).Nodup->cl[b]?=some c->x.length=cl.length->Cn st c.Span cl x=List.replicate (x.getD b 0).toNat st
 |[],_,_,_,_,h,_=>by simp at h
 |d :: cl,[],_,_,_,_,hl=>by simp at hl
 |d :: cl,n :: x,0,c,hn,h,hl=>by
  obtain⟨n1,n2⟩:=List.nodup_cons.1 hn;have h:d=c:=by simpa using h
  subst h;show(if d.Span=d.Span then _ else [])++Cn st d.Span cl x=_;rw[Aj rfl,S4 n1,List.append_nil];rfl
 |d :: cl,n :: x,b+1,c,hn,h,hl=>by
  obtain⟨n1,n2⟩:=List.nodup_cons.1 hn;have h:cl[b]?=some c:=by simpa using h
  show(if c.Span=d.Span then _ else [])++Cn st c.Span cl x=_;rw[Ag (fun e:c.Span=d.Span=>n1 (by show d.Span∈_;rw[<-e];exact C7.2 ⟨c,AI h,rfl⟩)),qz96 n2 h (by simpa using hl)];rfl
theorem qz5d{j:Int}{cl:List A9}:∀{T:List AM} {x:List (List Int)} {s:Int},s∈tabS j cl T x->∃h,h∈T/\s=h.Stage
 |[],_,s,h=>by cases h
 |d :: T,[],s,h=>by cases h
 |d :: T,r :: x,s,h=>by
  rcases Dx.1 (show s∈Cn d.Stage j cl r++tabS j cl T x from h) with h|h
  ·have:∀(cl:List A9) (r:List Int),s∈Cn d.Stage j cl r->s=d.Stage:=fun cl=>by
    induction cl with
    |nil=>intro r h;cases h
    |cons c cl ih =>
     intro r h;cases r with
     |nil=>cases h
     |cons n r =>
      rcases Dx.1 (show s∈(if j=c.Span then List.replicate n.toNat d.Stage else [])++Cn d.Stage j cl r from h) with h|h
      ·split at h;·exact(List.mem_replicate.1 h).2
       ·cases h
      ·exact ih r h
   exact⟨d,AP ..,this cl r h⟩
  ·obtain⟨h',h1,h2⟩:=qz5d h;exact⟨h',AQ _ h1,h2⟩
theorem wzf1(ψ:Int->Rat)(st:Int):∀n:Nat,sQ ((List.replicate n st).map ψ)=((n:Int):Rat)*ψ st
 |0=>by show(0:Rat)=(0:Rat)*ψ st;grind
 |n+1=>by
  show ψ st+sQ ((List.replicate n st).map ψ)=_;rw[wzf1 ψ st n,show((n+1:Nat):Int)=(n:Int)+1 from rfl,Rat.intCast_add];show ψ st+((n:Int):Rat)*ψ st=(((n:Int):Rat)+1)*ψ st
  grind
theorem S5(ψ:Int->Rat){cl:List A9}{b:Nat}{c:A9}(hn:(cl.map (·.Span)).Nodup)(hc:cl[b]?=some c):∀{T:List AM} {x:List (List Int)},x.length=T.length->(∀r,r∈x->r.length=cl.length/\∀v,v∈r->0<=v) ->
  sQ ((tabS c.Span cl T x).map ψ)=sm T.length (fun s=>xF x s b*ψ (T.getD s default).Stage)
 |[],x,_,_=>by cases x<;>rfl
 |d :: T,[],h,_=>by simp at h
 |d :: T,r :: x,h,hx=>by
  obtain⟨r1,r2⟩:=hx r (AP ..);have ih:=S5 ψ hn hc (T:=T) (x:=x) (by simpa using h) fun q hq=>hx q (AQ _ hq);show sQ ((Cn d.Stage c.Span cl r++tabS c.Span cl T x).map ψ)=sm (T.length+1) _;rw[List.map_append,MK,ih,KY,qz96 hn hc r1,wzf1];have hb:b<r.length:=by have:=(AE.1 hc).1;omega
  have hv:0<=r.getD b 0:=by obtain⟨v,hv⟩:=AR hb;rw[show r.getD b 0=v by simp[List.getD,hv]];exact r2 v (AI hv)
  rw[show((r.getD b 0).toNat:Int)=r.getD b 0 by omega];rfl
theorem qz85:∀{g:List Af} {x:List Int},g.length=x.length->rowQ g x=sm x.length (fun b=>((x.getD b 0:Int):Rat)*rq (g.getD b ⟨false,[],[]⟩))
 |[],[],_=>rfl
 |[],_ :: _,h=>by simp at h
 |_ :: _,[],h=>by simp at h
 |a :: g,n :: x,h=>by show(n:Rat)*rq a+rowQ g x=sm (x.length+1) _;rw[KY,qz85 (by simpa using h)];rfl
theorem qz75:∀{co:List (List Af)} {x:List (List Int)},co.length=x.length->tabQ co x=sm x.length (fun s=>rowQ (co.getD s []) (x.getD s []))
 |[],[],_=>rfl
 |[],_ :: _,h=>by simp at h
 |_ :: _,[],h=>by simp at h
 |a :: co,r :: x,h=>by show rowQ a r+tabQ co x=sm (x.length+1) _;rw[KY,qz75 (by simpa using h)];rfl
theorem Hx{α:Type}[Inhabited α](g:α->Int)(f:Int->Rat)(l:List α):smJ (l.map g) f=sm l.length (fun b=>f (g (l.getD b default))):=by unfold smJ;rw[List.map_map,Hw];rfl
theorem TabR.far{T:List AM}{n:Int}(H:TabR T n):∀(d k:Nat) (a b:AM),T[k]?=some a->T[k+(d+1)]?=some b->a.Stage<b.Stage
 |0,k,a,b,h1,h2=>H.asc k a b h1 h2
 |d+1,k,a,b,h1,h2=>by obtain⟨c,h3⟩:=AR (l:=T) (k:=k+(d+1)) (by have:=(AE.1 h2).1;omega);have e1:=H.far d k a c h1 h3;have e2:=H.asc (k+(d+1)) c b h3 h2;omega
theorem TabR.nodup{T:List AM}{n:Int}(H:TabR T n):(T.map (·.Stage)).Nodup:=by unfold List.Nodup;rw[List.pairwise_map,List.pairwise_iff_getElem];intro i j hi hj iy e;have:=H.far (j-i-1) i T[i] T[j] (AC hi) (by rw[show i+(j-i-1+1)=j by omega];exact AC hj);omega
theorem wzaw(cl:List A9):isum (cl.map (·.Ticks))=clsT cl:=rfl
theorem KZ(f:Nat->Nat->Rat)(n m:Nat):sm n (fun i=>sm m (fun j=>f i j))=sm m (fun j=>sm n (fun i=>f i j)):=Se f m n
theorem wziw{cl:List A9}{T:List AM}{a:Nat->Int}{n:Nat}{f:Nat->Int}(hJ:(cl.map (·.Span)).Nodup)(ha:∀i,i<n->a i∈cl.map (·.Span))(hT:(T.map (·.Stage)).Nodup)(hf:∀i,i<n->f i∈T.map (·.Stage))(G:Int->Int->Rat) :
  sm n (fun i=>G (a i) (f i))=sm T.length (fun s=>sm cl.length (fun b=>G (cl.getD b default).Span (T.getD s default).Stage*sm n (fun i=>ind (a i) (cl.getD b default).Span*ind (f i) (T.getD s default).Stage))):=by
 have h1:∀i,i<n->G (a i) (f i)=sm T.length (fun s=>sm cl.length (fun b=>G (cl.getD b default).Span (T.getD s default).Stage*(ind (a i) (cl.getD b default).Span*ind (f i) (T.getD s default).Stage))):=fun i hi=>by have e1:=Hv hT (hf i hi) (fun s=>G (a i) s);rw[Hx]at e1;rw[<-e1];refine Be fun s _=>?_;have e2:=Hv hJ (ha i hi) (fun j=>G j (T.getD s default).Stage);rw[Hx]at e2;rw[<-e2,<-Fm];exact Be fun b _=>by grind
 rw[Be h1,KZ];refine Be fun s _=>?_;rw[KZ];refine Be fun b _=>?_;rw[<-Fm]
set_option maxHeartbeats 1000000 in
theorem wzo9{l:List Al}(H:SpR l)(hl:l.length<=8)(hz:∀s,s∈l->SSz s/\BB s){tu:Bool}{r:Ao}(R:RunR r)(ht:r.Table≠[])(gZ:r.Table.length<=20){q:Rat}{K:Nat}(hK:Sz K (rof q))(k1:1<=K)(hb:K+r.Table.length*47186100<=8589934592) : ∃m v,(bd (FB r l (fun s t=>GJ s t l tu)) fun b=>bd (F9 b.2.1 b.2.2 b.1.length) fun x=>D6 b.1 r.Table b.2.1 x [] (rof q))=some (m,rof (q+v))/\Sz (K+r.Table.length*47186100) (rof (q+v))/\RunE l tu r m v:=by
 obtain⟨e1,C⟩:=wzif H R.fr
 obtain⟨TB,_,_⟩:TabR r.Table (r.To-r.From)/\r.Lo=0/\r.Hi=0:=by
  rcases R.tb with ⟨h,_⟩|h
  ·exact absurd h ht
  ·exact h
 have dr:=R.fr;have jO:clsT (clsA r l)=r.To-r.From:=(qz9m H R.fr).2.2;generalize clsA r l=cl at e1 C jO;have aE:=C.len;have bt:=C.pos;have gq:∀c,c∈cl->∀h,h∈r.Table->GJ c.Span h.Stage l tu=some (rof (rtC l tu c.Span h.Stage))/\Sz 5242890 (rof (rtC l tu c.Span h.Stage)):=fun c hc h hh=>Sq hz (C.rng c hc) (by have:=TB.st h hh;omega);obtain⟨y,e2,y1,y2,y3,y4⟩:=wzft (rate:=fun s t=>GJ s t l tu) (rt:=fun k s=>rof (rtC l tu k s)) (cl:=cl) (by omega) r.Table (fun h c hh hc=>(gq c hc h hh).1) (fun h hh=>by have:=TB.st h hh;omega) (by rw[TB.sum];omega) 0 (cl.map (·.Ticks)) [] [] ⟨0,rfl,B3 _,fun j hj=>by omega⟩ (by simp) (fun v hv=>by obtain⟨c,hc,rfl⟩:=C7.1 hv;have:=C.tk c hc;omega) (by rw[wzaw,jO,TB.sum]);simp only[Gcd]at e2;generalize gg:(r.Table.map fun h=>cl.map fun c=>rof (rtC l tu c.Span h.Stage))=co at e2;have cF_eq:∀s b,s<r.Table.length->b<cl.length->cFb co s b=rtC l tu (cl.getD b default).Span (r.Table.getD s default).Stage:=fun s b hs hb=>by obtain⟨h,hh⟩:=AR hs;obtain⟨c,hc⟩:=AR hb;unfold cFb;rw[<-gg];simp only[E6,Hz,hh,hc,DN,Le];rw[Cl]
 have T0:Tsk 5242890 cl.length r.Table.length co y:=by
  refine⟨by omega,by omega,by omega,by omega,by omega,by rw[<-gg,Jz],y1,fun row aF=>?_,fun row aF=>?_⟩
  ·rw[<-gg]at aF;obtain⟨h,hh,rfl⟩:=C7.1 aF;refine⟨by simp,fun e he=>?_⟩;obtain⟨c,hc,rfl⟩:=C7.1 he;exact⟨wzse _,(gq c hc h hh).2⟩
  ·obtain⟨r1,r2⟩:=y2 row aF;refine⟨r1,fun v hv=>⟨r2 v hv,?_⟩⟩;obtain⟨s,hs⟩:=Dy.1 aF;obtain⟨h,hh⟩:=AR (l:=r.Table) (k:=s) (by have:=(AE.1 hs).1;omega);have h1:=y3 s h row hh hs;have h2:=KT r2 v hv;have h3:=TB.st h (AI hh);omega
 have rowY:∀s,s<r.Table.length->sm cl.length (xF y s)=(((r.Table.getD s default).Ticks:Int):Rat):=fun s hs=>by obtain⟨h,hh⟩:=AR hs;obtain⟨row,aF⟩:=AR (l:=y) (k:=s) (by omega);have h1:=y3 s h row hh aF;have h2:=wzts aF;rw[(y2 row (AI aF)).1]at h2;rw[h2,h1];simp[List.getD,hh]
 have colY:∀b,b<cl.length->sm r.Table.length (fun s=>xF y s b)=(((cl.getD b default).Ticks:Int):Rat):=fun b hb=>by obtain⟨c,hc⟩:=AR hb;rw[<-y1,wzt9,y4 b c.Ticks (by rw[Hz,hc];rfl)];simp[List.getD,hc]
 obtain⟨z,e3,Z,ST,D,hD⟩:=wza1 T0 gZ fun s hs=>by rw[rowY s hs];obtain⟨h,hh⟩:=AR hs;have h3:=TB.st h (AI hh);rw[show r.Table.getD s default=h by simp[List.getD,hh]];exact Rat.intCast_le_intCast.2 h3.2.2.2
 have bound9:r.Table.length*(cl.length*(5242890+10))<=r.Table.length*47186100:=NY _ (by have:cl.length*(5242890+10)<=9*(5242890+10):=Bd _ (by omega);omega);obtain⟨m,e4,z4,g4⟩:=qz4j (A:=5242890) (cl:=cl) (by omega) r.Table co z [] q K T0.cl Z.xl (fun row aF=>⟨(T0.cr row aF).1,fun e he=>((T0.cr row aF).2 e he).2⟩) (fun row aF=>Z.xr row aF) hK k1 (by omega);have hg:∀j,gM m j=tabS j cl r.Table z:=fun j=>by rw[g4 j];rfl
 have zr:∀row,row∈z->row.length=cl.length/\∀v,v∈row->0<=v:=fun row aF=>⟨(Z.xr row aF).1,fun v hv=>((Z.xr row aF).2 v hv).1⟩;have rowZ:∀s,s<r.Table.length->sm cl.length (xF z s)=(((r.Table.getD s default).Ticks:Int):Rat):=fun s hs=>(ST.row s hs).trans (rowY s hs);have colZ:∀b,b<cl.length->sm r.Table.length (fun s=>xF z s b)=(((cl.getD b default).Ticks:Int):Rat):=fun b hb=>(ST.col b hb).trans (colY b hb);obtain⟨n,hn⟩:∃n:Nat,n=(r.To-r.From).toNat:=⟨_,rfl⟩;have gr:∀(ψ:Int->Int->Rat),smJ (cl.map (·.Span)) (fun j=>sQ ((gM m j).map (ψ j)))=sm r.Table.length (fun s=>sm cl.length (fun b=>xF z s b*ψ (cl.getD b default).Span (r.Table.getD s default).Stage)):=fun ψ=>by rw[Hx,KZ];refine Be fun b hb=>?_;obtain⟨c,hc⟩:=AR hb;rw[show cl.getD b default=c by simp[List.getD,hc],hg,S5 (ψ c.Span) C.nd hc Z.xl zr]
 have hJ:∀j,j∈cl.map (·.Span)->(gM m j).length=cnA (fun i=>atC l (r.From+(i:Int))) j (r.To-r.From).toNat:=fun j hj=>by
  obtain⟨c,hc,rfl⟩:=C7.1 hj;obtain⟨b,hb⟩:=Dy.1 hc;have fb:=(AE.1 hb).1;have h1:=S5 (fun _=>1) C.nd hb Z.xl zr (T:=r.Table) (x:=z)
  have h2:∀l:List Int,sQ (l.map fun _=>(1:Rat))=((l.length:Int):Rat):=fun l=>by
   induction l with
   |nil=>rfl
   |cons x l ih =>
    show 1+sQ (l.map _)=_;rw[ih,Bl,show((l.length+1:Nat):Int)=(l.length:Int)+1 from rfl,Rat.intCast_add];show(1:Rat)+_=_+(1:Rat)
    grind
  rw[h2,Be (g:=fun s=>xF z s b) fun s _=>by grind,colZ b fb,show cl.getD b default=c by simp[List.getD,hb]]at h1;have h3:=Rat.intCast_inj.1 h1;have h4:=C.cnt c hc;rw[hg];omega
 have gt:∀i,i<(r.To-r.From).toNat->∃h,h∈r.Table/\BJ (fun i=>atC l (r.From+(i:Int))) (gM m) i=h.Stage:=fun i hi=>by have h1:=qz7s C.mem hJ hi;rw[hg]at h1;exact qz5d h1
 have vEq:tabQ co z=Bj r.Table.length cl.length (cFb co) (xF z):=by
  rw[qz75 (by rw[T0.cl,Z.xl]),Z.xl];unfold Bj;refine Be fun s hs=>?_;obtain⟨row,aF⟩:=AR (l:=z) (k:=s) (by have:=Z.xl;omega);obtain⟨cr,mb⟩:=AR (l:=co) (k:=s) (by have:=T0.cl;omega);have fC:=(zr row (AI aF)).1;have cj:=(T0.cr cr (AI mb)).1;rw[show z.getD s []=row by simp[List.getD,aF],show co.getD s []=cr by simp[List.getD,mb],qz85 (by omega),fC];refine Be fun b hb=>?_;unfold cFb xF xI;rw[show z.getD s []=row by simp[List.getD,aF],show co.getD s []=cr by simp[List.getD,mb]]
  grind
 have cEq:∀(X:Nat->Nat->Rat),Bj r.Table.length cl.length (cFb co) X=sm r.Table.length (fun s=>sm cl.length (fun b=>rtC l tu (cl.getD b default).Span (r.Table.getD s default).Stage*X s b)):=fun X=>by unfold Bj;exact Be fun s hs=>Be fun b hb=>by rw[cF_eq s b hs hb]
 have dH:cst l tu r.From (r.To-r.From).toNat (BJ (fun i=>atC l (r.From+(i:Int))) (gM m))=tabQ co z:=by unfold cst;rw[wzw6 (fun j s=>rtC l tu j s) C.nd C.mem hJ,gr (fun j s=>rtC l tu j s),vEq,cEq];exact Be fun s _=>Be fun b _=>by grind
 refine⟨m,tabQ co z,?_,z4.mono (by omega),⟨?_,fun i hi=>?_,?_,dH,fun f hf=>?_,fun i hi=>?_⟩⟩
 ·unfold FB;rw[e1,Ab,ck_t (by simp;omega),e2,Ab,Ab];show(bd (F9 co y cl.length) fun x=>D6 cl r.Table co x [] (rof q))=_;rw[e3,Ab,e4]
 ·refine qz77 (KN.tab (m:=[]) List.nodup_nil e4) (n:=1402560) (by omega) fun j=>?_;by_cases hj:j∈cl.map (·.Span)
  ·rw[hJ j hj];have:=S3 (fun i=>atC l (r.From+(i:Int))) j (r.To-r.From).toNat;omega
  ·rw[hg]
   have:∀(T:List AM) (x:List (List Int)),tabS j cl T x=[]:=fun T=>by
    induction T with
    |nil=>intro x;rfl
    |cons d T ih =>
     intro x;cases x with
     |nil=>rfl
     |cons a x=>show Cn d.Stage j cl a++tabS j cl T x=[];rw[S4 hj,ih];rfl
   rw[this];simp
 ·rw[hJ _ (C.mem i hi),KX];exact KW (a:=fun i=>atC l (r.From+(i:Int))) hi
 ·unfold AgR;rw[Ag ht];refine⟨gt,fun h hh=>?_⟩;obtain⟨s0,gX⟩:=Dy.1 hh;have pf:=(AE.1 gX).1;rw[wzw6 (fun _ s=>ind s h.Stage) C.nd C.mem hJ,gr (fun _ s=>ind s h.Stage)];have e5:sm r.Table.length (fun s=>sm cl.length (fun b=>xF z s b*ind (r.Table.getD s default).Stage h.Stage))=sm r.Table.length (fun s=>ind (r.Table.getD s default).Stage h.Stage*sm cl.length (xF z s)):=Be fun s _=>by rw[<-Fm];exact Be fun b _=>by grind
  rw[e5,Be (g:=fun s=>ind (r.Table.getD s default).Stage h.Stage*(h.Ticks:Rat)) fun s hs=>?_]
  ·have e6:=Hv TB.nodup (C7.2 ⟨h,hh,rfl⟩) (fun _=>(h.Ticks:Rat));rw[Hx]at e6;refine Eq.trans (Be fun s _=>?_) e6;unfold ind;by_cases e7:(r.Table.getD s default).Stage=h.Stage
   ·rw[Aj e7,Aj e7.symm]
   ·rw[Ag e7,Ag (Ne.symm e7)]
  ·rw[rowZ s hs];unfold ind;by_cases e7:(r.Table.getD s default).Stage=h.Stage
   ·rw[Aj e7];obtain⟨g,ko⟩:=AR hs;rw[show r.Table.getD s default=g by simp[List.getD,ko]]at e7 |-
    have:s=s0:=by
     rcases Nat.lt_trichotomy s s0 with h2|h2|h2
     ·have:=TB.far (s0-s-1) s g h ko (by rw[show s+(s0-s-1+1)=s0 by omega];exact gX);omega
     ·exact h2
     ·have:=TB.far (s-s0-1) s0 h g gX (by rw[show s0+(s-s0-1+1)=s by omega];exact ko);omega
    subst this;rw[ko]at gX;cases gX;rfl
   ·rw[Ag e7];grind
 ·rw[vEq];unfold AgR at hf;rw[Ag ht]at hf;obtain⟨f1,f2⟩:=hf;have nc:∀i,i<(r.To-r.From).toNat->f i∈r.Table.map (·.Stage):=fun i hi=>by obtain⟨h,hh,e⟩:=f1 i hi;rw[e];exact C7.2 ⟨h,hh,rfl⟩
  unfold cst;rw[wziw C.nd C.mem TB.nodup nc (fun j s=>rtC l tu j s),<-cEq];refine wzr6 (d:=D) (fun s hs=>?_) (fun b hb=>?_) (fun s b hs hb=>qz9k Z s b hs hb) (fun s b hs hb=>?_) (fun s a b hs ha hb h=>hD s a b hs ha hb h)
  ·rw[rowZ s hs,KZ];obtain⟨h,hh⟩:=AR hs;rw[show r.Table.getD s default=h by simp[List.getD,hh],<-f2 h (AI hh)];refine Be fun i hi=>?_;have e6:=Hv C.nd (C.mem i hi) (fun _=>ind (f i) h.Stage);rw[Hx]at e6;exact e6.symm
  ·rw[colZ b hb,KZ];obtain⟨c,hc⟩:=AR hb;rw[show cl.getD b default=c by simp[List.getD,hc],C.cnt c (AI hc)];show((cnA _ c.Span _:Nat):Rat)=_;rw[Ji];refine Be fun i hi=>?_;have e6:=Hv TB.nodup (nc i hi) (fun _=>ind (atC l (r.From+(i:Int))) c.Span);rw[Hx]at e6;rw[<-e6];exact Be fun s _=>by grind
  ·have:=Hu (f:=fun _=>0) (g:=fun i=>ind (atC l (r.From+(i:Int))) (cl.getD b default).Span*ind (f i) (r.Table.getD s default).Stage) (n:=(r.To-r.From).toNat) fun i _=>by
    unfold ind;split<;>split<;>grind
   rwa [DJ]at this
 ·obtain⟨h,hh,e⟩:=gt i hi;rw[e];have:=TB.st h hh;omega
def ChR:Int->List Ao->Int->Prop
 |a,[],b=>a=b
 |a,x :: l,b=>RunR x/\x.From=a/\ChR x.To l b
theorem NO:∀{l:List Ao} {x:Ao},(∀y,y∈x :: l->RunR y)->(∀k y z,(x :: l)[k]?=some y->(x :: l)[k+1]?=some z->y.To=z.From)->∃y,(x :: l)[l.length]?=some y/\ChR x.From (x :: l) y.To
 |[],x,h1,_=>⟨x,rfl,h1 x (AP ..),rfl,rfl⟩
 |y :: l,x,h1,h2=>by obtain⟨z,hz,hc⟩:=NO (l:=l) (x:=y) (fun u hu=>h1 u (AQ _ hu)) fun k u v hu hv=>h2 (k+1) u v (by simpa using hu) (by simpa using hv);have:=h2 0 x y rfl rfl;exact⟨z,by simpa using hz,h1 x (AP ..),rfl,by rw[this];exact hc⟩
theorem ChR.le:∀{l:List Ao} {a b:Int},ChR a l b->a<=b
 |[],a,b,h=>by have h:a=b:=h;omega
 |x :: l,a,b,h=>by have:=ChR.le h.2.2;have:=h.1.fr;have:=h.2.1;omega
theorem ChR.mem:∀{l:List Ao} {a b:Int},ChR a l b->∀x,x∈l->RunR x/\a<=x.From/\x.To<=b
 |x :: l,a,b,h,y,hy=>by
  have h1:=h.1.fr;have h2:=h.2.1;have h3:=ChR.le h.2.2;rcases AY.1 hy with rfl|hy
  ·exact⟨h.1,by omega,h3⟩
  ·have:=ChR.mem h.2.2 y hy;exact⟨this.1,by omega,this.2.2⟩
def AgT(l:List Ao)(g:Int->Int):Prop:=∀r,r∈l->AgR r (r.To-r.From).toNat (fun i=>g (r.From+(i:Int)))
def cstT(s:List Al)(tu:Bool)(l:List Ao)(g:Int->Int):Rat:=sQ (l.map fun r=>cst s tu r.From (r.To-r.From).toNat (fun i=>g (r.From+(i:Int))))
theorem AgR.congr{r:Ao}{n:Nat}{f g:Nat->Int}(h:∀i,i<n->f i=g i)(H:AgR r n f):AgR r n g:=by
 unfold AgR at H |-;split
 ·rename_i ht;rw[Aj ht]at H;exact fun i hi=>by rw[<-h i hi];exact H i hi
 ·rename_i ht;rw[Ag ht]at H;refine⟨fun i hi=>by rw[<-h i hi];exact H.1 i hi,fun a ha=>?_⟩;rw[<-H.2 a ha];exact Be fun i hi=>by rw[h i hi]
theorem wzfp{s:List Al}{tu:Bool}{t:Int}{n:Nat}{f g:Nat->Int}(h:∀i,i<n->f i=g i):cst s tu t n f=cst s tu t n g:=Be fun i hi=>by rw[h i hi]
def atT(out:List Int)(from0 t:Int):Int:=out.getD (t-from0).toNat 0
theorem wzpm{s:List Al}(H:SpR s)(hl:s.length<=8)(hz:∀x,x∈s->SSz x/\BB x){tu:Bool}{r:Ao}(R:RunR r)(gZ:r.Table.length<=20){q:Rat}{K:Nat}(hK:Sz K (rof q))(k1:1<=K)(hb:K+(r.To-r.From).toNat*47186100<=8589934592) : ∃m v,(ite' (decide ((List.length r.Table:Int)=0)) (bd (Ij r s) fun cl=>ck (decide (cl.length<=1000000))<|Ed (fun k t=>GJ k t s tu) r cl [] (rof q)) (bd (FB r s (fun k t=>GJ k t s tu)) fun b=>bd (F9 b.2.1 b.2.2 b.1.length) fun x=>D6 b.1 r.Table b.2.1 x [] (rof q)))=some (m,rof (q+v))/\Sz (K+(r.To-r.From).toNat*47186100) (rof (q+v))/\RunE s tu r m v:=by
 have dr:=R.fr;by_cases h:r.Table=[]
 ·rw[it_d (by rw[h];rfl)];have h1:47186100<=(r.To-r.From).toNat*47186100:=Nat.le_mul_of_pos_left _ (by omega);obtain⟨m,v,e1,e2,e3⟩:=wzog H hl hz R h hK k1 (tu:=tu) (AS (Nat.add_le_add_left h1 K) hb);exact⟨m,v,e1,e2.mono (Nat.add_le_add_left h1 K),e3⟩
 ·have aE:r.Table.length≠0:=fun e=>h (NU e);rw[it_n (by omega)]
  have h2:r.Table.length<=(r.To-r.From).toNat:=by
   rcases R.tb with ⟨h3,_⟩|⟨h3,_⟩
   ·exact absurd h3 h
   ·have key:∀t:List AM,(∀a,a∈t->1<=a.Ticks)->(t.length:Int)<=isum (t.map (·.Ticks)):=fun t=>by
     induction t with
     |nil=>intro _;exact Jj _
     |cons a t ih =>intro ha;have:=ih fun b hb=>ha b (AQ _ hb);have:=ha a (AP ..);show((t.length+1:Nat):Int)<=a.Ticks+isum (t.map (·.Ticks));omega
    have:=key r.Table fun a ha=>(h3.st a ha).2.2.1;rw[h3.sum]at this;omega
  have h1:r.Table.length*47186100<=(r.To-r.From).toNat*47186100:=Bd _ h2;obtain⟨m,v,e1,e2,e3⟩:=wzo9 H hl hz R h gZ hK k1 (tu:=tu) (AS (Nat.add_le_add_left h1 K) hb);exact⟨m,v,e1,e2.mono (Nat.add_le_add_left h1 K),e3⟩
structure wzwp(s:List Al)(tu:Bool)(l:List Ao)(from0 a b:Int)(out out2:List Int)(V:Rat):Prop where
 len:out2.length=out.length
 keep:∀i:Nat,(i:Int)<a-from0\/b-from0<=(i:Int)->out2[i]?=out[i]?
 ag:AgT l (atT out2 from0)
 eq:cstT s tu l (atT out2 from0)=V
 le:∀g,AgT l g->V<=cstT s tu l g
 st:∀t,a<=t->t<b->0<=atT out2 from0 t/\atT out2 from0 t<=1000
theorem qz7w{s:List Al}(H:SpR s)(hl:s.length<=8)(hz:∀x,x∈s->SSz x/\BB x){tu:Bool}{from0:Int}(nf:0<=from0):∀(l:List Ao) (a b:Int) (q:Rat) (K:Nat) (out:List Int),ChR a l b->(∀x,x∈l->x.Table.length<=20)->from0<=a->b-from0<=out.length->Sz K (rof q)->1<=K->K+(b-a).toNat*47186100<=8589934592 -> ∃V out2,EQ s (fun k t=>GJ k t s tu) from0 l (rof q) out=some (rof (q+V),out2)/\Sz (K+(b-a).toNat*47186100) (rof (q+V))/\wzwp s tu l from0 a b out out2 V
 |[],a,b,q,K,out,hc,_,_,_,hK,_,_=>by
  have e:q+0=q:=by grind
  refine⟨0,out,by rw[e];rfl,by rw[e];exact hK.mono (by omega),⟨rfl,fun _ _=>rfl,(fun r h=>by cases h),rfl,fun g _=>Rat.le_refl,fun t h1 h2=>?_⟩⟩;have hc:a=b:=hc;omega
 |r :: l,a,b,q,K,out,hc,ht,ha,aE,hK,k1,hb=>by
  obtain⟨R,rfl,hc⟩:=hc;have dr:=R.fr;have aC:=hc.le;have hU:(b-r.From).toNat=(r.To-r.From).toNat+(b-r.To).toNat:=by omega
  rw[hU,AT]at hb |-;obtain⟨m,v,e1,z1,E⟩:=wzpm H hl hz (tu:=tu) R (ht r (AP ..)) hK k1 (AS (Nat.add_le_add_left (Nat.le_add_right _ _) K) hb);obtain⟨n,hn⟩:∃n:Nat,n=(r.To-r.From).toNat:=⟨_,rfl⟩;have e2:=wzgc H (from0:=from0) (t:=r.From) (to0:=r.To) (m:=m) (out:=out) ⟨nf,ha,by omega,dr.2.2⟩ (by omega) fun k hk=>E.len k (by omega);obtain⟨t1,t2⟩:=wzfk (l:=s) (m:=m) (out:=out) ha (r.To-r.From).toNat (by omega);have t3:=NJ s from0 r.From m out (r.To-r.From).toNat;generalize (tkS s from0 r.From m out (r.To-r.From).toNat).2=out1 at e2 t1 t2 t3;obtain⟨V,out2,e3,z3,F⟩:=qz7w H hl hz (tu:=tu) nf l r.To b (q+v) (K+(r.To-r.From).toNat*47186100) out1 hc (fun x hx=>ht x (AQ _ hx)) (by omega) (by omega) z1 (AS k1 (Nat.le_add_right _ _)) (by rw[Fv];exact hb);have hY:∀i:Nat,i<(r.To-r.From).toNat->atT out2 from0 (r.From+(i:Int))=BJ (fun i=>atC s (r.From+(i:Int))) (gM m) i:=fun i hi=>by unfold atT;have h1:=F.keep (r.From+(i:Int)-from0).toNat (.inl (by omega));rw[E6,h1,t1 i hi];unfold BJ;rw[KX];rfl
  refine⟨v+V,out2,?_,?_,⟨F.len.trans t3,fun i hi=>?_,fun x hx=>?_,?_,fun g hg=>?_,fun t h1 h2=>?_⟩⟩
  ·unfold EQ;rw[e1,Ab,ck_t E.cap];show(bd (lp (EP s from0 r.To) (r.From,m,out)) _)=_;rw[e2,Ab];show EQ s _ from0 l (rof (q+v)) out1=_;rw[e3,show q+v+V=q+(v+V) by grind]
  ·rw[show q+(v+V)=q+v+V by grind];exact z3.mono (Nat.le_of_eq (Fv _ _ _))
  ·rw[F.keep i (by omega),t2 i (by omega)]
  ·rcases AY.1 hx with rfl|hx;·exact E.ag.congr fun i hi=>(hY i hi).symm
   ·exact F.ag x hx
  ·show cst s tu r.From _ _+cstT s tu l (atT out2 from0)=v+V;rw[F.eq,wzfp hY,E.eq]
  ·show v+V<=cst s tu r.From _ _+cstT s tu l g;have a1:=E.le _ (hg r (AP ..));have a2:=F.le g fun x hx=>hg x (AQ _ hx)
   grind
  ·by_cases h3:t<r.To;·have:=hY (t-r.From).toNat (by omega);rw[show r.From+((t-r.From).toNat:Int)=t by omega]at this;rw[this];exact E.st _ (by omega)
   ·exact F.st t (by omega) h2
structure EndE(s:List Al)(tu:Bool)(l:List Ao)(h:AU)(V:Rat):Prop where
 nil:l=[]->h=⟨0,[]⟩/\V=0
 fr:∀x,l[0]?=some x->h.From=x.From
 to:∀x,l[l.length-1]?=some x->h.From+(h.Stages.length:Int)=x.To
 st:∀v,v∈h.Stages->0<=v/\v<=1000
 ag:AgT l (atT h.Stages h.From)
 eq:cstT s tu l (atT h.Stages h.From)=V
 le:∀g,AgT l g->V<=cstT s tu l g
theorem wzg0{s:List Al}(H:SpR s)(hl:s.length<=8)(hz:∀x,x∈s->SSz x/\BB x)(tu:Bool){l:List Ao}(R:Fo l)(ht:∀x,x∈l->x.Table.length<=20)(hT:∀x y,l[0]?=some x->l[l.length-1]?=some y->y.To-x.From<=100) : ∃V h,GL l s tu=some (rof (bif tu then -V else V),h)/\Sz 4718610010 (rof (bif tu then -V else V))/\EndE s tu l h V:=by
 unfold GL
 have fin:∀(V:Rat) (h:AU) (K:Nat),Sz K (rof V)->1<=K->K<=4718610001->(bd (ite' tu (ER (rof V)) (some (rof V))) fun q=>some (q,h))=some (rof (bif tu then -V else V),h)/\Sz 4718610010 (rof (bif tu then -V else V)):=fun V h K hK k1 k2=>by
  cases tu with
  |false=>exact⟨rfl,hK.mono (AS k2 (by decide))⟩
  |true =>obtain⟨n1,n2⟩:=qz0l hK k1 (AS k2 (by decide));rw[Cl]at n1 n2;rw[GW,n1];exact⟨rfl,n2.mono (AS (Nat.add_le_add_right k2 2) (by decide))⟩
 cases l with
 |nil =>obtain⟨f1,f2⟩:=fin 0 ⟨0,[]⟩ 1 (by rw[Dl];exact Sz.zero _) (by decide) (by decide);refine⟨0,⟨0,[]⟩,?_,f2,⟨fun _=>⟨rfl,rfl⟩,(fun x h=>by simp at h),(fun x h=>by simp at h),(fun v h=>by cases h),(fun r h=>by cases h),rfl,fun g _=>Rat.le_refl⟩⟩;rw[Dl]at f1;exact f1
 |cons r l =>
  obtain⟨z,dj,hc⟩:=NO (l:=l) (x:=r) R.run R.nxt;have h0:(r :: l)[(r :: l).length-1]?=some z:=by simpa using dj
  have mc:=hT r z rfl h0;have aE:=R.len;have aC:=hc.le;have hr:=(R.run r (AP ..)).fr;have pg:=(R.run z (AI dj)).fr;have hd:decide (0<((r :: l).length:Int))=true:=AD (by simp only[Bl];omega);have hlt:r.From<z.To:=by have:=hc.mem r (AP ..);omega
  obtain⟨V,out2,e,sz,E⟩:=qz7w H hl hz (tu:=tu) (from0:=r.From) hr.1 (r :: l) r.From z.To 0 1 (List.replicate (z.To-r.From).toNat 0) hc ht (Jj _) (by simp;omega) (by rw[Dl];exact Sz.zero _) (by decide) (by have:(z.To-r.From).toNat*47186100<=100*47186100:=Bd _ (by omega);exact AS (Nat.add_le_add_left this 1) (by decide));have e0:(0:Rat)+V=V:=by grind
  rw[e0]at e sz;rw[Dl]at e;obtain⟨f1,f2⟩:=fin V ⟨r.From,out2⟩ _ sz (Nat.le_add_right _ _) (by have:(z.To-r.From).toNat*47186100<=100*47186100:=Bd _ (by omega);exact AS (Nat.add_le_add_left this 1) (by decide));refine⟨V,⟨r.From,out2⟩,?_,f2,⟨(fun h=>by cases h),fun x hx=>by cases hx;rfl,fun x hx=>?_,fun v hv=>?_,E.ag,E.eq,E.le⟩⟩
  ·rw[hd,Br,show at? (r :: l) 0=some r from rfl,Ab,Br,at_e (n:=(r :: l).length-1) (by simp only[Bl];omega) h0,Ab];rw[ck_t (by simp only[Bl]at aE |-;simp[Au];omega)];show(bd (EQ s _ r.From (r :: l) ⟨false,[],[]⟩ (List.replicate (z.To-r.From).toNat 0)) _)=_;rw[e,Ab];exact f1
  ·rw[h0]at hx;cases hx;show r.From+(out2.length:Int)=z.To;rw[E.len,Ob];omega
  ·obtain⟨i,hi⟩:=Dy.1 hv;have jg:=(AE.1 hi).1;have h1:=E.len;rw[Ob]at h1;have jg:i<out2.length:=jg;have:=E.st (r.From+(i:Int)) (by omega) (by omega);unfold atT at this;rw[show(r.From+(i:Int)-r.From).toNat=i by omega]at this;have hi:out2[i]?=some v:=hi;rw[E6,hi]at this;exact this
end
end Go.Am

