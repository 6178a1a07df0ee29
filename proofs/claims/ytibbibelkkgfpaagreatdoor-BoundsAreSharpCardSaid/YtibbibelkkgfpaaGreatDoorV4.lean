/- Part V4: the mathematics of flows and levels. No condition. -/
import Derived.Test.YtibbibelkkgfpaaGreatDoorV1
set_option linter.unusedSimpArgs false
set_option linter.unusedVariables false
namespace Go.Am
variable {x r:Al}{t T:List AM}{k i n K:Nat}{h:AD}{o v b:Int}{one:Al->Option Int}{l:List Al}{m:List (Int×Int)}{a f g:Nat->Int}{L J:List Int}{α:Type}{cl:List AB}{tu:Bool}{q:Rat}{s:List An}
noncomputable section
structure TabR(t:List AM)(n:Int):Prop where
 ne:t≠[]
 st:∀h,h∈t->0<=h.Stage/\h.Stage<=1000/\1<=h.Ticks/\h.Ticks<=1402560
 asc:∀k a b,t[k]?=some a->t[k+1]?=some b->a.Stage<b.Stage
 sum:isum (t.map (·.Ticks))=n
structure RunR(x:Al):Prop where
 fr:0<=x.From/\x.From<x.To/\x.To<=1402560
 tb:(x.Table=[]/\0<=x.Lo/\x.Lo<=x.Hi/\x.Hi<=1000)\/(TabR x.Table (x.To-x.From)/\x.Lo=0/\x.Hi=0)
def hldF(k:Nat)(h:AM):Option Int:=if 0<=h.Stage/\h.Stage<=1000/\1<=h.Ticks/\h.Ticks<=1402560 then none else some 3
theorem wzsk(hl:x.Table.length<=1000000):lp (Mj x) 0=some (sOut (scan hldF 0 x.Table)):=by
 refine CS hldF (by omega) (fun k h e=>?_) ?_
 ·have hk:=(A8.1 e).1;unfold Mj;rw[it_d (by omega),at_e rfl e,Ab];unfold FE hldF;rw[Ab];by_cases h1:0<=h.Stage/\h.Stage<=1000
  ·rw[AC h1.1,AC h1.2];simp only[Cg,E6,E5,Bv,Ab];by_cases h2:1<=h.Ticks/\h.Ticks<=1402560
   ·rw[AC h2.1,AC h2.2,Aj ⟨h1.1,h1.2,h2.1,h2.2⟩];simp only[Cg,BO,E6];rw[Dp,A0 (by omega)]
   ·rw[Ag (fun h=>h2 ⟨h.2.2.1,h.2.2.2⟩)]
    have:(bif decide (1<=h.Ticks) then decide (h.Ticks<=1402560) else false)=false:=by
     by_cases h3:1<=h.Ticks
     ·rw[AC h3,A9 (fun h4=>h2 ⟨h3,h4⟩)];rfl
     ·rw[A9 h3];rfl
    rw[this];rfl
  ·rw[Ag (fun h=>h1 ⟨h.1,h.2.1⟩)]
   have:(bif decide (0<=h.Stage) then decide (h.Stage<=1000) else false)=false:=by
    by_cases h3:0<=h.Stage
    ·rw[AC h3,A9 (fun h4=>h1 ⟨h3,h4⟩)];rfl
    ·rw[A9 h3];rfl
   rw[this];rfl
 ·unfold Mj;rw[it_n (by omega)]
theorem wzs3(hl:x.Table.length<=1000000):lp (Mi x) 0=some (sOut (scan hldF 0 x.Table)):=by
 refine CS hldF (by omega) (fun k h e=>?_) ?_
 ·have hk:=(A8.1 e).1;unfold Mi;rw[it_d (by omega),at_e rfl e,Ab];unfold hldF;by_cases h1:0<=h.Stage/\h.Stage<=1000/\1<=h.Ticks/\h.Ticks<=1402560
  ·rw[Aj h1,A9 (by omega),A9 (by omega),A9 (by omega),A9 (by omega)];simp only[BO];rw[Dp,A0 (by omega)]
  ·rw[Ag h1];refine it_t ?_;by_cases a1:h.Stage<0
   ·simp[a1]
   by_cases a2:1000<h.Stage
   ·simp[a2]
   by_cases a3:h.Ticks<1
   ·simp[a3]
   ·have a4:1402560<h.Ticks:=(by omega);simp[a4]
 ·unfold Mi;rw[it_n (by omega)]
def AscT(t:List AM)(k:Nat):Prop:=∀j a b,j+1<k->t[j]?=some a->t[j+1]?=some b->a.Stage<b.Stage
theorem Jp{h:AM}(e:t[k]?=some h):isum ((t.take (k+1)).map (·.Ticks))=isum ((t.take k).map (·.Ticks))+h.Ticks:=by
 rw[List.take_add_one,e,List.map_append]
 have:∀(l:List Int) (v:Int),isum (l++[v])=isum l+v:=fun l v=>by
  induction l with
  |nil=>show v+0=0+v;omega
  |cons a l ih=>show a+isum (l++[v])=a+isum l+v;rw[ih];omega
 exact this _ _
theorem qz32:∀{l:List Int},(∀v,v∈l->0<=v/\v<=1402560)->0<=isum l/\isum l<=1402560*l.length
 |[],_=>⟨HE _,by simp[isum]⟩
 |a :: l,h=>by have h1:=h a (AS ..);have h2:=qz32 (l:=l) fun v hv=>h v (AR _ hv);show 0<=a+isum l/\a+isum l<=_;simp only[Bk];omega
def SumR(t:List AM):Int⊕Int->Prop
 |.inl s=>s=isum (t.map (·.Ticks))/\AscT t t.length
 |.inr e=>e=1/\¬AscT t t.length
theorem Of(hl:t.length<=1000000)(hs:∀h,h∈t->0<=h.Ticks/\h.Ticks<=1402560)(k:Nat):0<=isum ((t.take k).map (·.Ticks))/\isum ((t.take k).map (·.Ticks))<=1402560000000:=by
 have:=qz32 (l:=(t.take k).map (·.Ticks)) fun v hv=>by obtain⟨h,hh,rfl⟩:=CE.1 hv;exact hs h (List.mem_of_mem_take hh)
 rw[J5,Gf]at this;omega
theorem Og{h:AM}(e:t[k]?=some h)(ha:AscT t k)(h1:∀p,0<k->t[k-1]?=some p->p.Stage<h.Stage):AscT t (k+1):=fun j a b hj ea eb=>by
 by_cases jo:j+1<k
 ·exact ha j a b jo ea eb
 ·obtain rfl:k=j+1:=by omega
  rw[e]at eb;cases eb;exact h1 a (by omega) ea
theorem wztx(hl:x.Table.length<=1000000)(hs:∀h,h∈x.Table->0<=h.Ticks/\h.Ticks<=1402560):∃o,lp (PM x) (0,0)=some o/\SumR x.Table o:=by
 refine Cv (fun s=>∃k:Nat,s.2=(k:Int)/\k<=x.Table.length/\s.1=isum ((x.Table.take k).map (·.Ticks))/\AscT x.Table k) (fun s=>x.Table.length-s.2.toNat) (SumR x.Table) (fun s hI=>?_) ⟨0,rfl,BA _,rfl,fun j a b h=>by omega⟩ (by simp only;omega);obtain⟨sum,t⟩:=s;obtain⟨k,rfl,hk,rfl,ha⟩:=hI;simp only at hk ha |-;simp only[PM];by_cases h:k<x.Table.length
 ·obtain⟨y,hy⟩:=AQ h;have b1:=Of hl hs k;have b2:=Of hl hs (k+1);rw[Jp hy]at b2;rw[it_d (by omega),at_e rfl hy,Ab,ck_o (fun h=>by simp[As];omega)];by_cases h0:0<k
  ·obtain⟨p,hp⟩:=AQ (l:=x.Table) (k:=k-1) (by omega);rw[AC (show(0:Int)<k by omega),Bv,at_e (n:=k-1) (by omega) hp,Ab];by_cases aC:y.Stage<=p.Stage
   ·right;rw[AC aC];refine⟨_,rfl,rfl,fun hA=>?_⟩;have:=hA (k-1) p y (by omega) hp (by rw[show k-1+1=k by omega];exact hy);omega
   ·left;rw[A9 aC];simp only[Cg];rw[Dp,A0 (by omega),A0 (by omega)];exact⟨_,rfl,⟨k+1,rfl,by omega,(Jp hy).symm,Og hy ha fun q _ hq=>by rw[hp]at hq;cases hq;omega⟩,by simp only;omega⟩
  ·left;rw[A9 (show ¬(0:Int)<k by omega),Be,Ab];simp only[BO];rw[Dp,A0 (by omega),A0 (by omega)];exact⟨_,rfl,⟨k+1,rfl,by omega,(Jp hy).symm,Og hy ha fun q h1 _=>absurd h1 h0⟩,by simp only;omega⟩
 ·right;obtain rfl:k=x.Table.length:=by omega
  rw[it_n (by omega)];exact⟨_,rfl,by rw[List.take_length],ha⟩
theorem wzs9(hl:x.Table.length<=1000000)(hs:∀h,h∈x.Table->0<=h.Ticks/\h.Ticks<=1402560):∃o,lp (PK x) (0,0)=some o/\SumR x.Table o:=by
 refine Cv (fun s=>∃k:Nat,s.2=(k:Int)/\k<=x.Table.length/\s.1=isum ((x.Table.take k).map (·.Ticks))/\AscT x.Table k) (fun s=>x.Table.length-s.2.toNat) (SumR x.Table) (fun s hI=>?_) ⟨0,rfl,BA _,rfl,fun j a b h=>by omega⟩ (by simp only;omega);obtain⟨sum,t⟩:=s;obtain⟨k,rfl,hk,rfl,ha⟩:=hI;simp only at hk ha |-;simp only[PK];by_cases h:k<x.Table.length
 ·obtain⟨y,hy⟩:=AQ h;have b1:=Of hl hs k;have b2:=Of hl hs (k+1);rw[Jp hy]at b2;rw[it_d (by omega),ck_o (fun h=>by simp[As];omega)];by_cases h0:0<k
  ·obtain⟨p,hp⟩:=AQ (l:=x.Table) (k:=k-1) (by omega);rw[AC (show(0:Int)<k by omega),Bv,at_e (n:=k-1) (by omega) hp,Ab,Bv,at_e rfl hy,Ab];by_cases aC:y.Stage<=p.Stage
   ·right;rw[AC aC];refine⟨_,rfl,rfl,fun hA=>?_⟩;have:=hA (k-1) p y (by omega) hp (by rw[show k-1+1=k by omega];exact hy);omega
   ·left;rw[A9 aC];simp only[Cg];rw[Dp,Ab,A0 (by omega),A0 (by omega)];exact⟨_,rfl,⟨k+1,rfl,by omega,(Jp hy).symm,Og hy ha fun q _ hq=>by rw[hp]at hq;cases hq;omega⟩,by simp only;omega⟩
  ·left;rw[A9 (show ¬(0:Int)<k by omega),Be,Ab,Be,Ab];simp only[BO];rw[Dp,at_e rfl hy,Ab,A0 (by omega),A0 (by omega)];exact⟨_,rfl,⟨k+1,rfl,by omega,(Jp hy).symm,Og hy ha fun q h1 _=>absurd h1 h0⟩,by simp only;omega⟩
 ·right;obtain rfl:k=x.Table.length:=by omega
  rw[it_n (by omega)];exact⟨_,rfl,by rw[List.take_length],ha⟩
theorem qz5y:scan hldF 0 t=none↔∀h,h∈t->0<=h.Stage/\h.Stage<=1000/\1<=h.Ticks/\h.Ticks<=1402560:=by
 constructor
 ·intro e h hh;obtain⟨i,hi⟩:=Cj.1 hh;have:=Fj 0 t e i h hi;unfold hldF at this;split at this
  ·assumption
  ·cases this
 ·intro H;refine Jk 0 t fun i h hi=>?_;unfold hldF;rw[Aj (H h (AG hi))]
theorem wzk3(h:scan hldF 0 t=some o):o=3:=by
 obtain⟨i,x,_,h2⟩:=DO 0 t o h;unfold hldF at h2;split at h2
 ·cases h2
 ·exact(AL h2).symm
theorem wzes(hx:0<=x.From/\x.From<x.To/\x.To<=1402560)(hl:x.Table.length<=1000000)(aI:x.Table≠[]){l0:Option (Unit⊕Int)}{l1:Option (Int⊕Int)}(h0:l0=some (sOut (scan hldF 0 x.Table)))(h1:(∀h,h∈x.Table->0<=h.Ticks/\h.Ticks<=1402560)->∃o,l1=some o/\SumR x.Table o) :
  ∃e,(bd l0 fun o=>match o with
   | .inl ()=>(bd l1 fun o=>match o with
    |.inl sum5=>(ck (As .i64 (x.To-x.From))<|ite' (bif (bif (!decide (sum5=(x.To-x.From))) then true else(!decide (x.Lo=0))) then true else(!decide (x.Hi=0))) (some 1) (some 0))
    | .inr o=>(some o))
   | .inr o=>(some o))=some e/\(e=0↔RunR x):=by
 subst h0;cases bR:scan hldF 0 x.Table with
 |some o =>
  obtain rfl:=wzk3 bR;refine⟨3,rfl,⟨(fun h=>by cases h),fun R=>?_⟩⟩;exfalso;rcases R.tb with ⟨h,_⟩|⟨h,_⟩
  ·exact aI h
  ·rw[qz5y.2 h.st]at bR;cases bR
 |none =>
  have aL:=qz5y.1 bR;obtain⟨o,rfl,ho⟩:=h1 fun h hh=>by have:=aL h hh;omega
  cases o with
  |inr e =>
   obtain⟨rfl,pu⟩:=ho;refine⟨1,rfl,⟨(fun h=>by cases h),fun R=>?_⟩⟩;exfalso;rcases R.tb with ⟨h,_⟩|⟨h,_⟩
   ·exact aI h
   ·exact pu fun j a b hj ea eb=>h.asc j a b ea eb
  |inl s =>
   obtain⟨rfl,ha⟩:=ho;show ∃e,(ck (As .i64 (x.To-x.From)) _)=some e/\_;rw[A0 (by omega)];by_cases h:isum (x.Table.map (·.Ticks))=x.To-x.From/\x.Lo=0/\x.Hi=0
   ·rw[AC h.1,AC h.2.1,AC h.2.2];exact⟨0,rfl,fun _=>⟨hx,.inr ⟨⟨aI,aL,fun k a b ea eb=>ha k a b (A8.1 eb).1 ea eb,h.1⟩,h.2.1,h.2.2⟩⟩,fun _=>rfl⟩
   ·refine⟨1,it_t ?_,⟨(fun h=>by cases h),fun R=>?_⟩⟩
    ·by_cases a1:isum (x.Table.map (·.Ticks))=x.To-x.From
     ·by_cases a2:x.Lo=0;·have a3:¬x.Hi=0:=fun a3=>h ⟨a1,a2,a3⟩;simp[a1,a2,a3]
      ·simp[a1,a2]
     ·simp[a1]
    ·exfalso;rcases R.tb with ⟨h2,_⟩|⟨h2,h3,h4⟩
     ·exact aI h2
     ·exact h ⟨h2.sum,h3,h4⟩
theorem qz8o(hx:0<=x.From/\x.From<x.To/\x.To<=1402560)(hn:x.Table=[]):∃e,(ite' (bif (bif (decide (x.Lo<0)) then true else(decide (x.Hi<x.Lo))) then true else(decide (1000<x.Hi))) (some 3) (some 0):Option Int)=some e/\(e=0↔RunR x):=by
 by_cases h:0<=x.Lo/\x.Lo<=x.Hi/\x.Hi<=1000
 ·rw[A9 (by omega),A9 (by omega),A9 (by omega)];exact⟨0,rfl,fun _=>⟨hx,.inl ⟨hn,h⟩⟩,fun _=>rfl⟩
 ·refine⟨3,it_t ?_,⟨(fun h=>by cases h),fun R=>?_⟩⟩
  ·by_cases a1:x.Lo<0;·simp[a1]
   by_cases a2:x.Hi<x.Lo
   ·simp[a2]
   ·have a3:1000<x.Hi:=(by omega);simp[a3]
  ·exfalso;rcases R.tb with ⟨_,h2⟩|⟨h2,_⟩
   ·exact h h2
   ·exact h2.ne hn
theorem qz00(hx:0<=x.From/\x.From<x.To/\x.To<=1402560)(hl:x.Table.length<=1000000):∃e,Kb x=some e/\(e=0↔RunR x):=by
 unfold Kb;rw[A9 (show ¬x.From<0 by omega),A9 (show ¬x.To<=x.From by omega),A9 (show ¬1402560<x.To by omega)];simp only[BO];rw[Dp];unfold FD;rw[Ab];by_cases hn:x.Table.length=0
 ·rw[it_d (by omega)];exact qz8o hx (Li hn)
 ·rw[it_n (by omega)];exact wzes hx hl (fun h=>hn (by rw[h];rfl)) (wzsk hl) (wztx hl)
theorem qzz5(hx:0<=x.From/\x.From<x.To/\x.To<=1402560)(hl:x.Table.length<=1000000):∃e,Is x=some e/\(e=0↔RunR x):=by
 unfold Is;by_cases hn:x.Table.length=0
 ·rw[it_d (by omega)];exact qz8o hx (Li hn)
 ·rw[it_n (by omega)];exact wzes hx hl (fun h=>hn (by rw[h];rfl)) (wzs3 hl) (wzs9 hl)
def frR(x:Al):Prop:=0<=x.From/\x.From<x.To/\x.To<=1402560
instance (x:Al):Decidable (frR x):=inferInstanceAs (Decidable (_/\_))
def nz(o:Option Int):Option Int:=if o=some 0 then none else o
theorem nz_z:nz (some 0)=none:=Aj rfl
theorem nz_n(h:v≠0):nz (some v)=some v:=Ag fun e=>h (AL e)
def oneF(one:Al->Option Int)(l:List Al)(k:Nat)(x:Al):Option Int :=
 if ¬frR x then some 3 else if 0<k/\x.From≠(l.getD (k-1) default).To then some 1 else nz (one x)
structure CV(l:List Al):Prop where
 len:l.length<=2000
 run:∀x,x∈l->RunR x
 nxt:∀k x y,l[k]?=some x->l[k+1]?=some y->x.To=y.From
 all:∀x y,l[0]?=some x->l[l.length-1]?=some y->y.To-x.From<=40000
theorem qz25(H:∀x,x∈l->frR x->∃e,one x=some e/\(e=0↔RunR x)):scan (oneF one l) 0 l=none↔(∀x,x∈l->RunR x)/\∀k x y,l[k]?=some x->l[k+1]?=some y->x.To=y.From:=by
 constructor
 ·intro e
  have key:∀i x,l[i]?=some x->RunR x/\(0<i->x.From=(l.getD (i-1) default).To):=fun i x hi=>by
   have:=Fj 0 l e i x hi;rw[Bn]at this;unfold oneF at this;split at this
   ·cases this
   ·rename_i h1;split at this
    ·cases this
    ·rename_i h2;have h1:frR x:=(by false_or_by_contra;exact h1 ‹_›);obtain⟨v,hv,hr⟩:=H x (AG hi) h1;rw[hv]at this;refine⟨hr.1 ?_,fun h0=>?_⟩
     ·false_or_by_contra
      rename_i aI;rw[nz_n aI]at this;cases this
     ·false_or_by_contra
      exact h2 ⟨h0,‹_›⟩
  refine⟨fun x hx=>?_,fun k x y hx hy=>?_⟩
  ·obtain⟨i,hi⟩:=Cj.1 hx;exact(key i x hi).1
  ·have:=(key (k+1) y hy).2 (by omega);rw[this,Nat.add_sub_cancel,E7,hx];rfl
 ·rintro⟨h1,h2⟩;refine Jk 0 l fun i x hi=>?_;have hr:=h1 x (AG hi);rw[Bn];unfold oneF;rw[Ag (fun h=>h hr.fr),Ag]
  ·obtain⟨v,hv,he⟩:=H x (AG hi) hr.fr;obtain rfl:=he.2 hr;rw[hv,nz_z]
  ·rintro⟨h0,aI⟩;obtain⟨p,hp⟩:=AQ (l:=l) (k:=i-1) (by have:=(A8.1 hi).1;omega);have:=h2 (i-1) p x hp (by rw[show i-1+1=i by omega];exact hi);rw[E7,hp]at aI;exact aI this.symm
theorem qz9w(h:scan (oneF one l) 0 l=some o):o≠0:=by
 obtain⟨i,x,_,h2⟩:=DO 0 l o h;unfold oneF at h2;split at h2
 ·cases h2;decide
 ·split at h2;·cases h2;decide
  ·unfold nz at h2;split at h2
   ·cases h2
   ·rename_i aI;rw[h2]at aI;exact fun e=>aI (by rw[e])
theorem wzsy(hl:l.length<=1000000)(ht:∀x,x∈l->x.Table.length<=1000000):lp (Mv l) 0=some (sOut (scan (oneF Kb l) 0 l)):=by
 refine CS _ (by omega) (fun k x e=>?_) ?_
 ·have hk:=(A8.1 e).1;simp only[Mv];rw[it_d (by omega),at_e rfl e,Ab];unfold oneF;by_cases h1:frR x
  ·rw[Ag (fun h=>h h1)];have cC:=h1;unfold frR at cC;rw[A9 (show ¬x.From<0 by omega),A9 (show ¬x.To<=x.From by omega),A9 (show ¬1402560<x.To by omega)];simp only[BO];obtain⟨v,hv,_⟩:=qz00 h1 (ht x (AG e));rw[Dp,ck_o (fun h=>by simp[As];omega)];by_cases h0:0<k
   ·rw[AC (show(0:Int)<k by omega),Bv,Sv e h0,Ab];simp only[Cg];by_cases hp:x.From=(l.getD (k-1) default).To
    ·rw[Bl hp,Ag (fun h=>h.2 hp)];rw[hv,Ab];by_cases hz:v=0
     ·subst hz;rw[Bl rfl,A0 (by omega),nz_z]
     ·rw[BJ hz,nz_n hz]
    ·rw[BJ hp,Aj ⟨h0,hp⟩]
   ·rw[A9 (show ¬(0:Int)<k by omega),Be,Ab,Ag (fun h=>h0 h.1)];simp only[BO];rw[Dp];rw[hv,Ab];by_cases hz:v=0
    ·subst hz;rw[Bl rfl,A0 (by omega),nz_z]
    ·rw[BJ hz,nz_n hz]
  ·rw[Aj h1];refine it_t ?_;unfold frR at h1;by_cases a1:x.From<0
   ·simp[a1]
   by_cases a2:x.To<=x.From
   ·simp[a2]
   ·have a3:1402560<x.To:=(by omega);simp[a3]
 ·simp only[Mv];rw[it_n (by omega)]
theorem wzt7(hl:l.length<=1000000)(H:∀x,x∈l->frR x->∃v,Is x=some v):lp (Ms l) 0=some (sOut (scan (oneF Is l) 0 l)):=by
 refine CS _ (by omega) (fun k x e=>?_) ?_
 ·have hk:=(A8.1 e).1;simp only[Ms];rw[it_d (by omega),at_e rfl e,Ab];unfold oneF;by_cases a1:x.From<0
  ·rw[AC a1,Aj (fun h=>by unfold frR at h;omega)];rfl
  rw[A9 a1];simp only[E5,Bv,BO];rw[Ab,Ab];by_cases a2:x.To<=x.From
  ·rw[AC a2,Aj (fun h=>by unfold frR at h;omega)];rfl
  rw[A9 a2];simp only[E5,Bv,BO,Ab];by_cases a3:1402560<x.To
  ·rw[AC a3,Aj (fun h=>by unfold frR at h;omega)];rfl
  rw[A9 a3,Dp];have h1:frR x:=⟨by omega,by omega,by omega⟩;obtain⟨v,hv⟩:=H x (AG e) h1;rw[Ag (fun h=>h h1)];by_cases h0:0<k
  ·rw[AC (show(0:Int)<k by omega),Bv,Ab,ck_t (by simp[As];omega),Bv,Sv e h0,Ab];simp only[Cg];by_cases hp:x.From=(l.getD (k-1) default).To
   ·rw[Bl hp,Ag (fun h=>h.2 hp)];rw[hv,Ab];by_cases hz:v=0
    ·subst hz;rw[Bl rfl,A0 (by omega),nz_z]
    ·rw[BJ hz,nz_n hz]
   ·rw[BJ hp,Aj ⟨h0,hp⟩]
  ·rw[A9 (show ¬(0:Int)<k by omega),Be,Ab,ck_t (by rfl),Be,Ab,Ag (fun h=>h0 h.1)];simp only[BO];rw[Dp];rw[hv,Ab];by_cases hz:v=0
   ·subst hz;rw[Bl rfl,A0 (by omega),nz_z]
   ·rw[BJ hz,nz_n hz]
 ·simp only[Ms];rw[it_n (by omega)]
theorem qz8j(hl:l.length<=2000){o:Option Int}(ho:o=none↔(∀x,x∈l->RunR x)/\∀k x y,l[k]?=some x->l[k+1]?=some y->x.To=y.From)(hn:∀v,o=some v->v≠0) :
  ∃e,(match sOut o with
   | .inl ()=>(ck (!(decide (0<(List.length l:Int)))||As .i64 ((List.length l:Int)-1))<|bd (gd (decide (0<(List.length l:Int))) (at? l ((List.length l:Int)-1))) fun x3=>bd (gd (decide (0<(List.length l:Int))) (at? l 0)) fun x4 =>
    ck (!(decide (0<(List.length l:Int)))||As .i64 (x3.To-x4.From))<|ite' (bif (decide (0<(List.length l:Int))) then(decide (40000<(x3.To-x4.From))) else false) (some 2) (some 0))
   | .inr o=>(some o))=some e/\(e=0↔CV l):=by
 cases gO:o with
 |some v =>refine⟨v,rfl,⟨fun e=>absurd e (hn v gO),fun R=>?_⟩⟩;have:=ho.2 ⟨R.run,R.nxt⟩;rw[gO]at this;cases this
 |none =>
  obtain⟨h1,h2⟩:=ho.1 gO;show ∃e,(ck _ _)=some e/\_;by_cases h0:0<l.length
  ·obtain⟨x,hx⟩:=AQ h0;obtain⟨y,hy⟩:=AQ (l:=l) (k:=l.length-1) (by omega);have rx:=h1 x (AG hx);have ry:=h1 y (AG hy);rw[AC (show(0:Int)<l.length by omega),ck_t (by simp[As];omega),Bv,at_e (n:=l.length-1) (by omega) hy,Ab,Bv,show at? l 0=some x from at_e (n:=0) rfl hx,Ab,ck_t (by have:=rx.fr;have:=ry.fr;simp[As];omega)];by_cases hd:40000<y.To-x.From
   ·rw[AC hd];refine⟨2,rfl,⟨(fun e=>by cases e),fun R=>?_⟩⟩;have:=R.all x y hx hy;omega
   ·rw[A9 hd];exact⟨0,rfl,⟨fun _=>⟨hl,h1,h2,fun a b ha hb=>by rw[hx]at ha;rw[hy]at hb;cases ha;cases hb;omega⟩,fun _=>rfl⟩⟩
  ·rw[A9 (show ¬(0:Int)<l.length by omega),ck_t (by rfl),Be,Ab,Be,Ab,ck_t (by rfl)];exact⟨0,rfl,⟨fun _=>⟨hl,h1,h2,fun a b ha hb=>by have:=(A8.1 ha).1;omega⟩,fun _=>rfl⟩⟩
theorem qzux(hl:l.length<=1000000)(ht:∀x,x∈l->x.Table.length<=1000000):∃e,Kh l=some e/\(e=0↔CV l):=by
 unfold Kh;by_cases h:2000<l.length
 ·rw[it_d (by omega)];exact⟨2,rfl,⟨(fun e=>by cases e),fun R=>by have:=R.len;omega⟩⟩
 ·rw[it_n (by omega),wzsy hl ht,Ab];exact qz8j (by omega) (qz25 fun x hx h1=>qz00 h1 (ht x hx)) fun v hv=>qz9w hv
theorem qz7i(hl:l.length<=1000000)(ht:∀x,x∈l->x.Table.length<=1000000):∃e,Iv l=some e/\(e=0↔CV l):=by
 unfold Iv;by_cases h:2000<l.length
 ·rw[it_d (by omega)];exact⟨2,rfl,⟨(fun e=>by cases e),fun R=>by have:=R.len;omega⟩⟩
 ·rw[it_n (by omega),wzt7 hl (fun x hx h1=>(qzz5 h1 (ht x hx)).imp fun _ h=>h.1),Ab];exact qz8j (by omega) (qz25 fun x hx h1=>qzz5 h1 (ht x hx)) fun v hv=>qz9w hv
theorem qz1o(c:Bh):∃b,Ka c=some b/\(b=true->CSz c):=by
 unfold Ka;by_cases h1:20<c.Points.length
 ·rw[it_d (by omega)];exact⟨_,rfl,fun e=>by cases e⟩
 ·rw[it_n (by omega)];rw[CS (l:=c.Points) (fun k (p:Bz)=>if 12<p.Flow.Num.length\/12<p.Flow.Den.length then some false else none) (by omega) ?_ ?_]
  ·simp only[Ab];cases bR:scan (fun k (p:Bz)=>if 12<p.Flow.Num.length\/12<p.Flow.Den.length then some false else none) 0 c.Points with
   |none =>
    refine⟨_,rfl,fun _=>⟨by omega,fun p hp=>?_⟩⟩;obtain⟨i,hi⟩:=List.getElem?_of_mem hp;have:=Hu bR hi;split at this
    ·cases this
    ·exact⟨by omega,by omega⟩
   |some o =>
    refine⟨_,rfl,fun e=>?_⟩;obtain⟨i,x,h1,h2⟩:=DO _ _ _ bR;split at h2
    ·cases h2;cases e
    ·cases h2
  ·intro k p hp;have hk:=(A8.1 hp).1;simp only[PL];rw[it_d (by omega),at_e rfl hp];simp only[Ab];by_cases p1:12<p.Flow.Num.length
   ·rw[show decide (12<(p.Flow.Num.length:Int))=true by simp;omega];simp only[E6,Be,Ab,Cg];rw[Em,Aj (.inl p1)]
   ·rw[show decide (12<(p.Flow.Num.length:Int))=false by simp;omega];simp only[E5,Bv,Ab,BO];by_cases p2:12<p.Flow.Den.length
    ·rw[it_d (by omega),Aj (.inr p2)]
    ·rw[it_n (by omega),Ag (by omega),A0 (by omega)]
  ·simp only[PL];rw[it_n (by omega)]
theorem wzkx(l:List An){m:Int}(hm:m<=400):∃b,Iw l m=some b/\(b=true->LSz l/\∀s,s∈l->Sz 40 s.Weight):=by
 unfold Iw;by_cases h1:(m<(l.length:Int)/\(l.length:Int)<=400)\/410<(l.length:Int)
 ·rw[it_t (by rcases h1 with h1|h1<;>simp[h1]<;>omega)];exact⟨_,rfl,fun e=>by cases e⟩
 ·rw[it_f (by simp;omega)]
  let g:Nat->An->Option Bool:=fun k s=>if Ka s.Curve=some true/\s.Weight.Num.length<=40/\s.Weight.Den.length<=40 then none else some false
  rw[CS (l:=l) g (by omega) ?_ ?_]
  ·simp only[Ab];cases bR:scan g 0 l with
   |none =>
    suffices key:∀s,s∈l->SSz s/\Sz 40 s.Weight from⟨_,rfl,fun _=>⟨⟨by omega,fun s hs=>(key s hs).1⟩,fun s hs=>(key s hs).2⟩⟩
    intro s hs;obtain⟨i,hi⟩:=List.getElem?_of_mem hs;have:=Hu bR hi;unfold g at this;split at this
    ·rename_i p;obtain⟨b,e1,e2⟩:=qz1o s.Curve;rw[e1]at p;obtain⟨p1,p2,p3⟩:=p;cases p1;exact⟨⟨e2 rfl,by omega,by omega⟩,by omega,by omega⟩
    ·cases this
   |some o =>
    refine⟨_,rfl,fun e=>?_⟩;obtain⟨i,x,h1,h2⟩:=DO _ _ _ bR;unfold g at h2;split at h2
    ·cases h2
    ·cases h2;cases e
  ·intro k s hs;have hk:=(A8.1 hs).1;obtain⟨b,e1,e2⟩:=qz1o s.Curve;simp only[PX];rw[it_d (by omega),at_e rfl hs];simp only[Ab];unfold g;rw[e1];simp only[Ab];cases b with
   |false =>rw[Ag (fun e=>by cases e.1)];simp only[E5,E6,Cg,Be,Ab];rw[Em]
   |true =>
    simp only[E5,E6,BO,Bv,Ab];by_cases p1:40<s.Weight.Num.length
    ·rw[show decide (40<(s.Weight.Num.length:Int))=true by simp;omega,Ag (by omega)];simp only[E6,Cg,Be,Ab];rw[Em]
    ·rw[show decide (40<(s.Weight.Num.length:Int))=false by simp;omega];simp only[E5,BO,Bv,Ab];by_cases p2:40<s.Weight.Den.length
     ·rw[it_d (by omega),Ag (by omega)]
     ·rw[it_n (by omega),Aj ⟨trivial,by omega,by omega⟩,A0 (by omega)]
  ·simp only[PX];rw[it_n (by omega)]
theorem wzee{l:List An}{m:Int}(h:Iw l m=some true)(h2:l.length<=400):(l.length:Int)<=m:=by
 false_or_by_contra
 rename_i hn;unfold Iw at h;rw[AC (show m<(l.length:Int) by omega),AC (show(l.length:Int)<=400 by omega)]at h;cases h
def tabF(k:Nat)(x:Al):Option Bool:=if x.Table.length<=20 then none else some false
theorem wzjy(l:List Al)(t:Int):∃b,Mu l 12 t=some b/\(b=true->l.length<=12/\(∀x,x∈l->x.Table.length<=20)/\(CV l->∀x y,l[0]?=some x->l[l.length-1]?=some y->y.To-x.From<=t)):=by
 unfold Mu;by_cases h:12<l.length
 ·rw[it_d (by omega)];exact⟨false,rfl,fun h=>by cases h⟩
 rw[it_n (by omega)]
 have e0:lp (Mt l) 0=some (sOut (scan tabF 0 l)):=by
  refine CS tabF (by omega) (fun k x e=>?_) ?_
  ·have hk:=(A8.1 e).1;simp only[Mt];rw[it_d (by omega),at_e rfl e,Ab];unfold tabF;by_cases h1:x.Table.length<=20
   ·rw[Aj h1,it_n (by omega),A0 (by omega)]
   ·rw[Ag h1,it_d (by omega)]
  ·simp only[Mt];rw[it_n (by omega)]
 rw[e0,Ab];cases hs:scan tabF 0 l with
 |some o =>
  refine⟨o,rfl,fun ho=>?_⟩;obtain⟨i,x,_,h2⟩:=DO 0 l o hs;unfold tabF at h2;split at h2
  ·cases h2
  ·cases h2;cases ho
 |none =>
  have ht:∀x,x∈l->x.Table.length<=20:=fun x hx=>by
   obtain⟨i,hi⟩:=Cj.1 hx;have:=Fj 0 l hs i x hi;unfold tabF at this;split at this
   ·assumption
   ·cases this
  obtain⟨e,he,hr⟩:=qz7i (l:=l) (by omega) fun x hx=>by have:=ht x hx;omega
  show ∃b,(bd (Iv l) _)=some b/\_;rw[he,Ab];by_cases hz:e=0
  ·have R:=hr.1 hz;rw[AC hz];by_cases h0:l.length=0
   ·rw[AC (show(l.length:Int)=0 by omega)];exact⟨true,rfl,fun _=>⟨by omega,ht,fun _ x y hx=>by have:=(A8.1 hx).1;omega⟩⟩
   ·obtain⟨x,hx⟩:=AQ (l:=l) (k:=0) (by omega);obtain⟨y,hy⟩:=AQ (l:=l) (k:=l.length-1) (by omega);have rx:=(R.run x (AG hx)).fr;have ry:=(R.run y (AG hy)).fr;rw[A9 (show ¬(l.length:Int)=0 by omega)];rw[ck_t (by simp[As];omega)];show ∃b,(bd (at? l ((l.length:Int)-1)) _)=some b/\_;rw[at_e (n:=l.length-1) (by omega) hy,Ab];show ∃b,(bd (at? l 0) _)=some b/\_;rw[show at? l 0=some x from at_e (n:=0) rfl hx,Ab,ck_t (by simp[As];omega)];refine⟨decide (y.To-x.From<=t),rfl,fun hb=>⟨by omega,ht,fun _ a b ha bg=>?_⟩⟩;rw[hx]at ha;rw[hy]at bg;cases ha;cases bg;exact BC hb
  ·rw[A9 hz];exact⟨true,rfl,fun _=>⟨by omega,ht,fun R=>absurd (hr.2 R) hz⟩⟩
structure FewS(l:List Al)(s:List An)(t:Int):Prop where
 len:l.length<=12
 tab:∀x,x∈l->x.Table.length<=20
 tot:CV l->∀x y,l[0]?=some x->l[l.length-1]?=some y->y.To-x.From<=t
 sz:LSz s
 spn:s.length<=400->s.length<=8
theorem wzk9(l:List Al)(s:List An)(t:Int):∃b,M4 l s t=some b/\(b=true->FewS l s t/\∀x,x∈s->Sz 40 x.Weight):=by
 unfold M4;obtain⟨b,e,hb⟩:=wzjy l t;rw[e,Ab];cases b with
 |false=>exact⟨false,rfl,fun h=>by cases h⟩
 |true =>
  obtain⟨h1,h2,h3⟩:=hb rfl;obtain⟨c,e2,hc⟩:=wzkx s (m:=8) (by omega);rw[Bv,e2,Ab];cases c with
  |false=>exact⟨false,rfl,fun h=>by cases h⟩
  |true=>exact⟨true,rfl,fun _=>⟨⟨h1,h2,h3,(hc rfl).1,fun h=>by have:=wzee e2 h;omega⟩,(hc rfl).2⟩⟩
def cnA(a:Nat->Int)(j:Int):Nat->Nat
 |0=>0
 |k+1=>cnA a j k+(if a k=j then 1 else 0)
theorem wzdq{a:Nat->Int}{j:Int}:∀(d k:Nat),cnA a j k<=cnA a j (k+d)
 |0,k=>AA _
 |d+1,k=>AU (wzdq d k) (Nat.le_add_right _ _)
theorem KY(h:i<n):cnA a (a i) i<cnA a (a i) n:=by
 have h1:=wzdq (a:=a) (j:=a i) (n-(i+1)) (i+1);rw[show i+1+(n-(i+1))=n by omega]at h1;have h2:cnA a (a i) (i+1)=cnA a (a i) i+1:=by show _+(if a i=a i then 1 else 0)=_;rw[Aj rfl]
 omega
theorem KZ(l:List An)(t j:Int):∀k,cntC l t j k=cnA (fun i=>atC l (t+(i:Int))) j k
 |0=>rfl
 |k+1=>by show cntC l t j k+_=cnA _ j k+_;rw[KZ l t j k]
def smJ(J:List Int)(g:Int->Rat):Rat:=sQ (J.map g)
theorem Jq{f g:Int->Rat}:∀{J:List Int},(∀j,j∈J->f j=g j)->smJ J f=smJ J g
 |[],_=>rfl
 |x :: J,h=>by show f x+smJ J f=g x+smJ J g;rw[h x (AS ..),Jq fun j hj=>h j (AR _ hj)]
theorem SL{f g:Int->Rat}{j0:Int}{d:Rat}:∀{J:List Int},J.Nodup->j0∈J->(∀j,j∈J->j≠j0->g j=f j)->g j0=f j0+d->smJ J g=smJ J f+d
 |[],_,h,_,_=>by cases h
 |x :: J,hn,h,h1,h2=>by
  show g x+smJ J g=f x+smJ J f+d;obtain⟨n1,n2⟩:=List.nodup_cons.1 hn;by_cases e:x=j0
  ·subst e;rw[h2,Jq (f:=g) (g:=f) fun j hj=>h1 j (AR _ hj) fun e=>n1 (e▸hj)];grind
  ·have hm:j0∈J:=by
    rcases AV.1 h with h|h
    ·exact absurd h.symm e
    ·exact h
   rw[h1 x (AS ..) e,SL n2 hm (fun j hj=>h1 j (AR _ hj)) h2];grind
def BN(a:Nat->Int)(L:Int->List Int)(i:Nat):Int:=((L (a i)).drop (cnA a (a i) i)).headD 0
theorem qz79(U:Int->Int->Rat){a:Nat->Int}{L:Int->List Int}{J:List Int}{n:Nat}(hJ:J.Nodup)(ha:∀i,i<n->a i∈J)(hL:∀j,j∈J->(L j).length=cnA a j n) : ∀k,k<=n->sm k (fun i=>U (a i) (BN a L i))=smJ J (fun j=>sQ (((L j).take (cnA a j k)).map (U j)))
 |0,_=>by
  have:∀J:List Int,smJ J (fun j=>sQ (((L j).take (cnA a j 0)).map (U j)))=0:=fun J=>by
   induction J with
   |nil=>rfl
   |cons x J ih=>show sQ (((L x).take 0).map (U x))+smJ J _=0;rw[ih];show(0:Rat)+0=0;grind
  rw[this];rfl
 |k+1,hk=>by
  have ih:=qz79 U hJ ha hL k (by omega);have hm:=ha k (by omega);have hlt:=KY (a:=a) (show k<n by omega);have hl:=hL (a k) hm;obtain⟨v,hv⟩:=AQ (l:=L (a k)) (k:=cnA a (a k) k) (by omega);show sm k _+U (a k) (BN a L k)=_;rw[ih];refine(SL hJ hm (fun j hj aI=>?_) ?_).symm
  ·show sQ (((L j).take (cnA a j k+(if a k=j then 1 else 0))).map (U j))=_;rw[Ag (Ne.symm aI)];rfl
  ·show sQ (((L (a k)).take (cnA a (a k) k+(if a k=a k then 1 else 0))).map (U (a k)))=_;rw[Aj rfl,List.take_add_one,hv,List.map_append,Nk];have:BN a L k=v:=by unfold BN;rw[Fn (by omega)];exact(A8.1 hv).2
   rw[this];show _+(U (a k) v+0)=_
   grind
theorem wzw6(U:Int->Int->Rat){L:Int->List Int}(hJ:J.Nodup)(ha:∀i,i<n->a i∈J)(hL:∀j,j∈J->(L j).length=cnA a j n) :
  sm n (fun i=>U (a i) (BN a L i))=smJ J (fun j=>sQ ((L j).map (U j))):=by
 rw[qz79 U hJ ha hL n (AA _)];exact Jq fun j hj=>by rw[<-hL j hj,List.take_length]
theorem qz7s{L:Int->List Int}(ha:∀i,i<n->a i∈J)(hL:∀j,j∈J->(L j).length=cnA a j n)(hi:i<n):BN a L i∈L (a i):=by have hlt:=KY (a:=a) hi;have hl:=hL (a i) (ha i hi);unfold BN;rw[Fn (by omega)];exact J4 _
def ind(a b:Int):Rat:=if a=b then 1 else 0
theorem Hw{a:Nat->Int}{j:Int}:∀n,((cnA a j n:Nat):Rat)=sm n (fun i=>ind (a i) j)
 |0=>rfl
 |n+1=>by
  show(((cnA a j n+(if a n=j then 1 else 0):Nat)):Rat)=sm n _+ind (a n) j;rw[<-Hw n];unfold ind;split
  ·rw[Rat.natCast_add];rfl
  ·rw[Gg];grind
theorem qz8p(f g:Int->Rat):∀J:List Int,smJ J (fun j=>f j+g j)=smJ J f+smJ J g
 |[]=>by show(0:Rat)=0+0;grind
 |x :: J=>by show f x+g x+smJ J _=f x+smJ J f+(g x+smJ J g);rw[qz8p f g J];grind
theorem qz4z(J:List Int):smJ J (fun _=>0)=0:=by
 induction J with
 |nil=>rfl
 |cons x J ih=>show 0+smJ J _=0;rw[ih];grind
theorem SM(f:Int->Nat->Rat)(J:List Int):∀n,smJ J (fun j=>sm n (f j))=sm n (fun i=>smJ J (fun j=>f j i))
 |0=>qz4z J
 |n+1=>by show smJ J (fun j=>sm n (f j)+f j n)=sm n _+smJ J (fun j=>f j n);rw[qz8p,SM f J n]
theorem Hx(hJ:J.Nodup){a:Int}(ha:a∈J)(g:Int->Rat):smJ J (fun j=>ind a j*g j)=g a:=by have:=SL (f:=fun _=>0) (g:=fun j=>ind a j*g j) (d:=g a) hJ ha (fun j _ aI=>by unfold ind;rw[Ag (Ne.symm aI)];grind) (by unfold ind;rw[Aj rfl];grind);rw[this,qz4z];grind
theorem wzqc(f:Int->Rat)(J K:List Int):smJ (J++K) f=smJ J f+smJ K f:=by unfold smJ;rw[List.map_append,Nk]
theorem qz8e(hJ:J.Nodup)(ha:∀i,i<n->a i∈J):smJ J (fun j=>((cnA a j n:Nat):Rat))=(n:Rat):=by
 rw[Jq (g:=fun j=>sm n (fun i=>ind (a i) j)) fun j _=>Hw n,SM];have h1:∀i,i<n->smJ J (fun j=>ind (a i) j)=1:=fun i hi=>by have:=Hx hJ (ha i hi) (fun _=>1);rw[<-this];exact Jq fun j _=>by grind
 rw[Bf h1];clear h1 ha;induction n with
 |zero=>rfl
 |succ n ih=>show sm n _+1=_;rw[ih];rw[Rat.natCast_add];rfl
theorem Oh{x:Al}:∀(l:List An) (k:Int) (c:AB),c∈clsL x k l↔∃(i:Nat) (s:An),l[i]?=some s/\0<ovl1 x s/\c=⟨k+(i:Int),ovl1 x s⟩
 |[],k,c=>⟨(fun h=>by cases h),fun⟨i,s,h,_⟩=>by simp at h⟩
 |s :: l,k,c=>by
  have ih:=Oh (x:=x) l (k+1) c
  have tail:(c∈clsL x (k+1) l)↔∃(i:Nat) (t:An),(s :: l)[i+1]?=some t/\0<ovl1 x t/\c=⟨k+((i+1:Nat):Int),ovl1 x t⟩:=by
   rw[ih];constructor
   ·rintro⟨i,t,h1,h2,h3⟩;exact⟨i,t,by simpa using h1,h2,by rw[h3];congr 1;omega⟩
   ·rintro⟨i,t,h1,h2,h3⟩;exact⟨i,t,by simpa using h1,h2,by rw[h3];congr 1;omega⟩
  unfold clsL;constructor
  ·intro h;split at h
   ·rename_i h0;rcases AV.1 h with rfl|h
    ·exact⟨0,s,rfl,h0,by simp⟩
    ·obtain⟨i,t,h⟩:=tail.1 h;exact⟨i+1,t,h⟩
   ·obtain⟨i,t,h⟩:=tail.1 h;exact⟨i+1,t,h⟩
  ·rintro⟨i,t,h1,h2,h3⟩;cases i with
   |zero =>simp at h1;subst h1;rw[Aj h2];rw[h3];simp
   |succ i =>
    have:=tail.2 ⟨i,t,h1,h2,h3⟩;split
    ·exact AR _ this
    ·exact this
theorem qzwh{x:Al}:∀(l:List An) (k:Int),((clsL x k l).map (·.Span)).Nodup/\∀j,j∈(clsL x k l).map (·.Span)->k<=j
 |[],k=>⟨.nil,fun j h=>by cases h⟩
 |s :: l,k=>by
  obtain⟨h1,h2⟩:=qzwh (x:=x) l (k+1);unfold clsL;split
  ·refine⟨List.nodup_cons.2 ⟨fun h=>?_,h1⟩,fun j hj=>?_⟩;·have:=h2 _ h;simp only at this;omega
   ·rcases AV.1 hj with rfl|hj;·exact HE _
    ·have:=h2 j hj;omega
  ·exact⟨h1,fun j hj=>by have:=h2 j hj;omega⟩
theorem qz71(cl:List AB)(f:Int->Rat):smJ (cl.map (·.Span)) f=sQ (cl.map fun c=>f c.Span):=by unfold smJ;rw[List.map_map];rfl
theorem qz6r:∀cl:List AB,sQ (cl.map fun c=>(c.Ticks:Rat))=((clsT cl:Int):Rat)
 |[]=>rfl
 |c :: cl=>by show(c.Ticks:Rat)+sQ (cl.map _)=((c.Ticks+clsT cl:Int):Rat);rw[qz6r cl,Rat.intCast_add]
structure ClsR(l:List An)(r:Al)(a:Nat->Int)(n:Nat)(cl:List AB):Prop where
 nd:(cl.map (·.Span)).Nodup
 mem:∀i,i<n->a i∈cl.map (·.Span)
 cnt:∀c,c∈cl->c.Ticks=((cnA a c.Span n:Nat):Int)
 rng:∀c,c∈cl->c.Span<0\/c.Span<l.length
 len:cl.length<=l.length+1
 pos:0<cl.length
 tk:∀c,c∈cl->0<c.Ticks/\c.Ticks<=1402560
theorem qz2p{x:Al}:∀(l:List An) (k:Int),(clsL x k l).length<=l.length
 |[],_=>AA _
 |s :: l,k=>by
  have:=qz2p (x:=x) l (k+1);unfold clsL;split
  ·simp only[Bk];omega
  ·simp only[Bk];omega
theorem wzif{l:List An}(H:SpR l)(hx:frR r):Ip r l=some (clsA r l)/\ClsR l r (fun i=>atC l (r.From+(i:Int))) (r.To-r.From).toNat (clsA r l):=by
 obtain⟨e1,e2,e3⟩:=qz9m H hx;refine⟨e1,?_⟩;unfold frR at hx;obtain⟨n,hn⟩:∃n:Nat,r.To-r.From=n:=⟨(r.To-r.From).toNat,by omega⟩;have fJ:(r.To-r.From).toNat=n:=by omega
 rw[fJ];obtain⟨nd1,nd2⟩:=qzwh (x:=r) l 0;have ndx:((clsL r 0 l).map (fun c=>c.Span)++[(-1:Int)]).Nodup:=by rw[List.nodup_append];refine⟨nd1,by simp,fun x hx y hy e=>?_⟩;have:=nd2 x hx;rw[B3]at hy;omega
 have mem1:∀i,i<n->atC l (r.From+(i:Int))∈(clsL r 0 l).map (fun c=>c.Span)++[(-1:Int)]:=fun i hi=>by
  rcases SJ (l:=l) (t:=r.From+(i:Int)) with ⟨h1,_⟩|⟨j,s,h1,h2,h3⟩
  ·rw[h1];simp
  ·refine List.mem_append_left _ ?_;rw[h3];refine CE.2 ⟨⟨0+(j:Int),ovl1 r s⟩,(Oh l 0 _).2 ⟨j,s,h1,?_,rfl⟩,by simp⟩;unfold inS at h2;unfold ovl1;omega
 have cnt1:∀c,c∈clsL r 0 l->c.Ticks=((cnA (fun i=>atC l (r.From+(i:Int))) c.Span n:Nat):Int):=fun c hc=>by obtain⟨j,s,h1,h2,rfl⟩:=(Oh l 0 c).1 hc;have:=wzi2 H (x:=r) (by omega) h1;rw[fJ,KZ]at this;simp only[Int.zero_add];rw[this];omega
 have all:=qz8e (a:=fun i=>atC l (r.From+(i:Int))) ndx mem1;rw[wzqc,qz71]at all;have s1:sQ ((clsL r 0 l).map fun c=>((cnA (fun i=>atC l (r.From+(i:Int))) c.Span n:Nat):Rat))=((clsT (clsL r 0 l):Int):Rat):=by rw[<-qz6r];congr 1;refine H8 fun c hc=>?_;rw[cnt1 c hc];rfl
 have s2:smJ [-1] (fun j=>((cnA (fun i=>atC l (r.From+(i:Int))) j n:Nat):Rat))=((cnA (fun i=>atC l (r.From+(i:Int))) (-1) n:Nat):Rat):=by
  show _+0=_
  grind
 rw[s1,s2]at all
 have bF:clsT (clsL r 0 l)+((cnA (fun i=>atC l (r.From+(i:Int))) (-1) n:Nat):Int)=(n:Int):=by
  have:(((clsT (clsL r 0 l)+((cnA (fun i=>atC l (r.From+(i:Int))) (-1) n:Nat):Int)):Int):Rat)=((n:Int):Rat):=by rw[Rat.intCast_add];exact all
  exact Rat.intCast_inj.1 this
 have hL:∀c,c∈clsL r 0 l->0<=c.Span/\c.Span<l.length:=fun c hc=>by obtain⟨j,s,h1,h2,rfl⟩:=(Oh l 0 c).1 hc;have:=(A8.1 h1).1;simp only;omega
 have mw:=qz2p (x:=r) l 0
 have bt:0<(clsA r l).length:=by
  have:clsA r l≠[]:=fun e=>by rw[e]at e3;have:clsT []=0:=rfl;omega
  exact List.length_pos_iff.2 this
 have gv:∀c,c∈clsA r l->c.Ticks=((cnA (fun i=>atC l (r.From+(i:Int))) c.Span n:Nat):Int):=fun c hc=>by
  unfold clsA at hc;rcases CD.1 hc with h|h
  ·exact cnt1 c h
  ·split at h;·rw[B3.1 h];simp only;omega
   ·cases h
 have cnle:∀(j:Int) (k:Nat),cnA (fun i=>atC l (r.From+(i:Int))) j k<=k:=fun j k=>by
  induction k with
  |zero=>exact AA _
  |succ k ih=>show _+(if _ then 1 else 0)<=_;split<;>omega
 refine⟨?_,?_,gv,?_,?_,bt,fun c hc=>⟨e2 c hc,by have:=gv c hc;have:=cnle c.Span n;omega⟩⟩
 ·unfold clsA;rw[List.map_append];split
  ·exact ndx
  ·simpa using nd1
 ·intro i hi;have:=mem1 i hi;unfold clsA;rw[List.map_append];split
  ·exact this
  ·rename_i h0;rcases CD.1 this with h|h
   ·exact List.mem_append_left _ h
   ·exfalso;rw[B3]at h;have h2:=KY (a:=fun i=>atC l (r.From+(i:Int))) hi;rw[h]at h2;omega
 ·intro c hc;unfold clsA at hc;rcases CD.1 hc with h|h
  ·exact .inr (hL c h).2
  ·split at h;·rw[B3.1 h];left;show(-1:Int)<0;omega
   ·cases h
 ·unfold clsA;rw[Db];split
  ·simp only[Bk,List.length_nil];omega
  ·simp only[List.length_nil];omega
def AgR(r:Al)(n:Nat)(f:Nat->Int):Prop :=
 if r.Table=[] then ∀i,i<n->r.Lo<=f i/\f i<=r.Hi
 else(∀i,i<n->∃h,h∈r.Table/\f i=h.Stage)/\∀h,h∈r.Table->sm n (fun i=>ind (f i) h.Stage)=(h.Ticks:Rat)
def cst(l:List An)(tu:Bool)(t:Int)(n:Nat)(f:Nat->Int):Rat:=sm n fun i=>rtC l tu (atC l (t+(i:Int))) (f i)
def kys(m:List (Int×List Int)):List Int:=m.map fun p=>p.1
def KN(m:List (Int×List Int)):Prop:=(kys m).Nodup
theorem qz0p(a:Int)(b:List Int):∀m:List (Int×List Int),kys (mput keqI m a b)=if a∈kys m then kys m else kys m++[a]
 |[]=>by simp[mput,kys]
 |p :: m=>by
  have ih:=qz0p a b m;show kys (match keqI a p.1 with | true=>(a,b) :: m | false=>p :: mput keqI m a b)=if a∈p.1 :: kys m then p.1 :: kys m else p.1 :: kys m++[a];by_cases h:a=p.1
  ·rw[show keqI a p.1=true from AC h,Aj (by rw[h];exact AS ..)];show a :: kys m=_;rw[h]
  ·rw[show keqI a p.1=false from A9 h];show p.1 :: kys (mput keqI m a b)=_;rw[ih];by_cases h2:a∈kys m
   ·rw[Aj h2,Aj (AR _ h2)]
   ·rw[Ag h2,Ag (fun h3=>by rcases AV.1 h3 with h3 | h3<;>contradiction)];rfl
theorem KN.put{m:List (Int×List Int)}(H:KN m)(a:Int)(b:List Int):KN (mput keqI m a b):=by
 unfold KN;rw[qz0p];split
 ·exact H
 ·rename_i hn;rw[List.nodup_append];refine⟨H,by simp,fun x hx y hy e=>hn ?_⟩;rw[B3]at hy;rw[<-hy,<-e];exact hx
theorem KN.many{a s:Int}:∀{N j:Nat} {m m1:List (Int×List Int)},KN m->forN (fun m (_:Nat)=>some (Bs m a s)) N j m=some m1->KN m1
 |0,j,m,m1,H,h=>by cases h;exact H
 |N+1,j,m,m1,H,h=>KN.many (m:=Bs m a s) (H.put _ _) (show forN (fun m (_:Nat)=>some (Bs m a s)) N (j+1) (Bs m a s)=some m1 from h)
theorem bd_x{Y:Type}{a:Option α}{k:α->Option Y}{r:Y}(h:bd a k=some r):∃x,a=some x/\k x=some r:=by
 cases a with
 |none=>cases h
 |some x=>exact⟨x,rfl,h⟩
theorem KN.gap{rate:Int->Int->Option Af}{r:Al}:∀{cl:List AB} {m m1:List (Int×List Int)} {q q1:Af},KN m->Eh rate r cl m q=some (m1,q1)->KN m1
 |[],m,m1,q,q1,H,h=>by cases h;exact H
 |c :: l,m,m1,q,q1,H,h=>by obtain⟨a,_,h⟩:=bd_x (show bd (rate c.Span r.Hi) _=some (m1,q1) from h);obtain⟨b,_,h⟩:=bd_x h;obtain⟨e,_,h⟩:=bd_x h;obtain⟨m2,h1,h⟩:=bd_x h;obtain⟨i,_,h⟩:=bd_x h;obtain⟨g,_,h⟩:=bd_x h;obtain⟨p,_,h⟩:=bd_x h;obtain⟨q2,_,h⟩:=bd_x h;exact KN.gap (H.many h1) h
theorem KN.row{hd:AM}:∀{cl:List AB} {co:List Af} {x:List Int} {m m1:List (Int×List Int)} {q q1:Af},KN m->D8 hd cl co x m q=some (m1,q1)->KN m1
 |cl,co,[],m,m1,q,q1,H,h=>by
  have:some (m,q)=some (m1,q1):=by cases cl<;>cases co<;>exact h
  cases this;exact H
 |[],_,n :: x,m,m1,q,q1,H,h=>by cases h
 |c :: cl,[],n :: x,m,m1,q,q1,H,h=>by cases h
 |c :: cl,g :: co,n :: x,m,m1,q,q1,H,h=>by obtain⟨m2,h1,h⟩:=bd_x (show bd (forN _ n.toNat 0 m) _=some (m1,q1) from h);obtain⟨i,_,h⟩:=bd_x h;obtain⟨p,_,h⟩:=bd_x h;obtain⟨q2,_,h⟩:=bd_x h;exact KN.row (H.many h1) h
theorem KN.tab{cl:List AB}:∀{T:List AM} {co:List (List Af)} {x:List (List Int)} {m m1:List (Int×List Int)} {q q1:Af},KN m->D9 cl T co x m q=some (m1,q1)->KN m1
 |T,co,[],m,m1,q,q1,H,h=>by
  have:some (m,q)=some (m1,q1):=by cases T<;>cases co<;>exact h
  cases this;exact H
 |[],_,n :: x,m,m1,q,q1,H,h=>by cases h
 |c :: cl,[],n :: x,m,m1,q,q1,H,h=>by cases h
 |hd :: T,co :: cs,n :: x,m,m1,q,q1,H,h=>by obtain⟨⟨m2,q2⟩,h1,h⟩:=bd_x (show bd (D8 hd cl co n m q) _=some (m1,q1) from h);exact KN.tab (H.row h1) h
theorem KN.get{m:List (Int×List Int)}(H:KN m){e:Int×List Int}(he:e∈m):gM m e.1=e.2:=by
 unfold gM
 have:mget keqI m e.1=some e.2:=by
  induction m with
  |nil=>cases he
  |cons p m ih =>
   show(match keqI e.1 p.1 with | true=>some p.2 | false=>mget keqI m e.1)=_;obtain⟨n1,n2⟩:=List.nodup_cons.1 H;rcases AV.1 he with rfl|he
   ·rw[show keqI e.1 e.1=true from AC rfl]
   ·have aI:e.1≠p.1:=fun h=>n1 (by show p.1∈_;rw[<-h];exact CE.2 ⟨e,he,rfl⟩);rw[show keqI e.1 p.1=false from A9 aI];exact ih n2 he
 rw[this];rfl
theorem qz77{m:List (Int×List Int)}(H:KN m)(hn:n<=1000000000)(hl:∀j,(gM m j).length<=n):(m.all fun e=>decide ((List.length e.2:Int)<=1000000000))=true:=by rw[Da];intro e he;have:=hl e.1;rw[H.get he]at this;exact AC (by omega)
theorem qz83{f:AB->List Int}{j:Int}:j∉cl.map (·.Span)->byC cl f j=[]:=by
 induction cl with
 |nil=>intro _;rfl
 |cons c cl ih =>intro h;rw[SG,Ag (fun e=>h (by rw[e];simp)),ih fun hm=>h (AR _ hm)];rfl
theorem wzr5{f:AB->List Int}(hn:(cl.map (·.Span)).Nodup){c:AB}(hc:c∈cl):byC cl f c.Span=f c:=by
 induction cl with
 |nil=>cases hc
 |cons d cl ih =>
  obtain⟨n1,n2⟩:=List.nodup_cons.1 hn;rw[SG];rcases AV.1 hc with rfl|hc
  ·rw[Aj rfl,qz83 n1,List.append_nil]
  ·rw[Ag (fun e:c.Span=d.Span=>n1 (by simp only;rw[<-e];exact CE.2 ⟨c,hc,rfl⟩)),ih n2 hc];rfl
structure RunE(l:List An)(tu:Bool)(r:Al)(m:List (Int×List Int))(v:Rat):Prop where
 cap:(m.all fun e=>decide ((List.length e.2:Int)<=1000000000))=true
 len:∀i:Nat,i<(r.To-r.From).toNat->cntC l r.From (atC l (r.From+(i:Int))) i<(gM m (atC l (r.From+(i:Int)))).length
 ag:AgR r (r.To-r.From).toNat (BN (fun i=>atC l (r.From+(i:Int))) (gM m))
 eq:cst l tu r.From (r.To-r.From).toNat (BN (fun i=>atC l (r.From+(i:Int))) (gM m))=v
 le:∀f,AgR r (r.To-r.From).toNat f->v<=cst l tu r.From (r.To-r.From).toNat f
 st:∀i,i<(r.To-r.From).toNat->0<=BN (fun i=>atC l (r.From+(i:Int))) (gM m) i/\BN (fun i=>atC l (r.From+(i:Int))) (gM m) i<=1000
theorem wzo8(hJ:J.Nodup)(ha:∀i,i<n->a i∈J)(g:Int->Rat):sm n (fun i=>g (a i))=smJ J (fun j=>((cnA a j n:Nat):Rat)*g j):=by
 have h1:∀j,j∈J->((cnA a j n:Nat):Rat)*g j=sm n (fun i=>ind (a i) j*g j):=fun j _=>by rw[Hw,Bf (f:=fun i=>ind (a i) j*g j) (g:=fun i=>g j*ind (a i) j) fun i _=>by grind,Fm];grind
 rw[Jq h1,SM];exact Bf fun i hi=>(Hx hJ (ha i hi) g).symm
theorem SN(a:Nat->Int)(j:Int):∀k,cnA a j k<=k
 |0=>AA _
 |k+1=>by have:=SN a j k;show _+(if _ then 1 else 0)<=_;split<;>omega
def bsJ(l:List An)(tu:Bool)(r:Al)(j:Int):Int:=open Classical in if rtC l tu j r.Hi<rtC l tu j r.Lo then r.Hi else r.Lo
theorem wzog{l:List An}(H:SpR l)(hl:l.length<=8)(hz:∀s,s∈l->SSz s/\BL s)(R:RunR r)(ht:r.Table=[])(hK:Sz K (rof q))(k1:1<=K)(hb:K+47186100<=8589934592) : ∃m v,(bd (Ip r l) fun cl=>ck (decide (cl.length<=1000000))<|Eh (fun s t=>GJ s t l tu) r cl [] (rof q))=some (m,rof (q+v))/\Sz (K+47186100) (rof (q+v))/\RunE l tu r m v:=by
 obtain⟨e1,C⟩:=wzif H R.fr
 have pz:0<=r.Lo/\r.Lo<=r.Hi/\r.Hi<=1000:=by
  rcases R.tb with ⟨_,h⟩|⟨h,_⟩
  ·exact h
  ·exact absurd ht h.ne
 have dr:=R.fr;generalize clsA r l=cl at e1 C;have aE:=C.len;obtain⟨m,e2,z2,g2⟩:=qz28 (A:=5242890) (r:=r) (rate:=fun s t=>GJ s t l tu) (rc:=rtC l tu) (by omega) cl [] q K (fun c hc=>⟨by have:=(C.tk c hc).1;omega,(C.tk c hc).2,SC hz (C.rng c hc) (by omega),SC hz (C.rng c hc) (by omega)⟩) hK k1 (by have:cl.length*(5242890+10)<=9*(5242890+10):=Bd _ (by omega);omega);have hg:∀j,gM m j=byC cl (fun c=>List.replicate c.Ticks.toNat (bst (rtC l tu) r c)) j:=fun j=>by rw[g2 j];rfl
 have bP:∀c,c∈cl->gM m c.Span=List.replicate c.Ticks.toNat (bsJ l tu r c.Span):=fun c hc=>by rw[hg,wzr5 C.nd hc];rfl
 have hJ:∀j,j∈cl.map (·.Span)->(gM m j).length=cnA (fun i=>atC l (r.From+(i:Int))) j (r.To-r.From).toNat:=fun j hj=>by obtain⟨c,hc,rfl⟩:=CE.1 hj;rw[bP c hc,Ox];have:=C.cnt c hc;omega
 have fU:∀i,i<(r.To-r.From).toNat->BN (fun i=>atC l (r.From+(i:Int))) (gM m) i=bsJ l tu r (atC l (r.From+(i:Int))):=fun i hi=>by have h1:=qz7s C.mem hJ hi;obtain⟨c,hc,h2⟩:=CE.1 (C.mem i hi);have h2:c.Span=atC l (r.From+(i:Int)):=h2;have h1:_∈gM m (atC l (r.From+(i:Int))):=h1;rw[<-h2,bP c hc]at h1;rw[<-h2];exact(List.mem_replicate.1 h1).2
 have kv:∀j,bsJ l tu r j=r.Hi\/bsJ l tu r j=r.Lo:=fun j=>by unfold bsJ;split;exact .inl rfl;exact .inr rfl
 have dK:cst l tu r.From (r.To-r.From).toNat (BN (fun i=>atC l (r.From+(i:Int))) (gM m))=sQ (cl.map fun c=>(c.Ticks:Rat)*rtC l tu c.Span (bst (rtC l tu) r c)):=by unfold cst;rw[Bf (g:=fun i=>(fun j=>rtC l tu j (bsJ l tu r j)) (atC l (r.From+(i:Int)))) fun i hi=>by rw[fU i hi],wzo8 C.nd C.mem (fun j=>rtC l tu j (bsJ l tu r j)),qz71];congr 1;refine H8 fun c hc=>?_;rw[C.cnt c hc];rfl
 refine⟨m,_,by rw[e1,Ab,ck_d (by omega)];exact e2,z2.mono (by have:cl.length*(5242890+10)<=9*(5242890+10):=Bd _ (by omega);omega),⟨?_,fun i hi=>?_,?_,dK,fun f hf=>?_,fun i hi=>?_⟩⟩
 ·refine qz77 (KN.gap (m:=[]) List.nodup_nil e2) (n:=1402560) (by omega) fun j=>?_;by_cases hj:j∈cl.map (·.Span)
  ·rw[hJ j hj];have:=SN (fun i=>atC l (r.From+(i:Int))) j (r.To-r.From).toNat;omega
  ·rw[hg,qz83 hj];simp
 ·rw[hJ _ (C.mem i hi),KZ];exact KY (a:=fun i=>atC l (r.From+(i:Int))) hi
 ·unfold AgR;rw[Aj ht];intro i hi;rw[fU i hi];rcases kv (atC l (r.From+(i:Int))) with h|h<;>rw[h]<;>omega
 ·rw[<-dK];unfold cst;refine Hv fun i hi=>?_;unfold AgR at hf;rw[Aj ht]at hf;obtain⟨f1,f2⟩:=hf i hi;rw[fU i hi];have mg:atC l (r.From+(i:Int))<0\/atC l (r.From+(i:Int))<l.length:=by obtain⟨c,hc,h2⟩:=CE.1 (C.mem i hi);have:=C.rng c hc;have h2:c.Span=atC l (r.From+(i:Int)):=h2;rw[<-h2];exact this
  have:=wztj (tu:=tu) hz mg f1 f2;unfold bsJ;split
  ·rename_i h;rcases this with h2|h2
   ·grind
   ·exact h2
  ·rename_i h;rcases this with h2|h2
   ·exact h2
   ·grind
 ·rw[fU i hi];rcases kv (atC l (r.From+(i:Int))) with h|h<;>rw[h]<;>omega
theorem La(f:Nat->Rat):∀n,sm (n+1) f=f 0+sm n (fun i=>f (i+1))
 |0=>by show(0:Rat)+f 0=f 0+0;grind
 |n+1=>by show sm (n+1) f+f (n+1)=f 0+(sm n (fun i=>f (i+1))+f (n+1));rw[La f n];grind
theorem Hy{α:Type}[Inhabited α](f:α->Rat):∀l:List α,sQ (l.map f)=sm l.length (fun b=>f (l.getD b default))
 |[]=>rfl
 |x :: l=>by show f x+sQ (l.map f)=sm (l.length+1) _;rw[La,Hy f l];rfl
theorem Oi:∀l:List Int,((isum l:Int):Rat)=sQ (l.map fun v:Int=>(v:Rat))
 |[]=>rfl
 |x :: l=>by show((x+isum l:Int):Rat)=(x:Rat)+sQ _;rw[Rat.intCast_add,Oi l]
theorem wzts{x:List (List Int)}{s:Nat}{r:List Int}(h:x[s]?=some r):sm r.length (xF x s)=((isum r:Int):Rat):=by rw[Oi,Hy];refine Bf fun b _=>?_;unfold xF xI;rw[show x.getD s []=r by simp[List.getD,h]];rfl
theorem wzt9(x:List (List Int))(b:Nat):sm x.length (fun s=>xF x s b)=((icol x b:Int):Rat):=by unfold icol;rw[Oi,List.map_map,Hy];rfl
theorem SO{st j:Int}:∀{cl:List AB} {x:List Int},j∉cl.map (·.Span)->Cs st j cl x=[]
 |[],x,_=>rfl
 |c :: cl,[],_=>rfl
 |c :: cl,n :: x,h=>by show(if j=c.Span then _ else [])++Cs st j cl x=[];rw[Ag (fun e=>h (by rw[e];simp)),SO fun hm=>h (AR _ hm)];rfl
theorem qz96{st:Int}:∀{cl:List AB} {x:List Int} {b:Nat} {c:AB},(cl.map (·.Span)).Nodup->cl[b]?=some c->x.length=cl.length->Cs st c.Span cl x=List.replicate (x.getD b 0).toNat st
 |[],_,_,_,_,h,_=>by simp at h
 |d :: cl,[],_,_,_,_,hl=>by simp at hl
 |d :: cl,n :: x,0,c,hn,h,hl=>by
  obtain⟨n1,n2⟩:=List.nodup_cons.1 hn;have h:d=c:=by simpa using h
  subst h;show(if d.Span=d.Span then _ else [])++Cs st d.Span cl x=_;rw[Aj rfl,SO n1,List.append_nil];rfl
 |d :: cl,n :: x,b+1,c,hn,h,hl=>by
  obtain⟨n1,n2⟩:=List.nodup_cons.1 hn;have h:cl[b]?=some c:=by simpa using h
  show(if c.Span=d.Span then _ else [])++Cs st c.Span cl x=_;rw[Ag (fun e:c.Span=d.Span=>n1 (by show d.Span∈_;rw[<-e];exact CE.2 ⟨c,AG h,rfl⟩)),qz96 n2 h (by simpa using hl)];rfl
theorem qz5d{j:Int}{cl:List AB}:∀{T:List AM} {x:List (List Int)} {s:Int},s∈tabS j cl T x->∃h,h∈T/\s=h.Stage
 |[],_,s,h=>by cases h
 |d :: T,[],s,h=>by cases h
 |d :: T,r :: x,s,h=>by
  rcases CD.1 (show s∈Cs d.Stage j cl r++tabS j cl T x from h) with h|h
  ·have:∀(cl:List AB) (r:List Int),s∈Cs d.Stage j cl r->s=d.Stage:=fun cl=>by
    induction cl with
    |nil=>intro r h;cases h
    |cons c cl ih =>
     intro r h;cases r with
     |nil=>cases h
     |cons n r =>
      rcases CD.1 (show s∈(if j=c.Span then List.replicate n.toNat d.Stage else [])++Cs d.Stage j cl r from h) with h|h
      ·split at h;·exact(List.mem_replicate.1 h).2
       ·cases h
      ·exact ih r h
   exact⟨d,AS ..,this cl r h⟩
  ·obtain⟨h',h1,h2⟩:=qz5d h;exact⟨h',AR _ h1,h2⟩
theorem wzf1(ψ:Int->Rat)(st:Int):∀n:Nat,sQ ((List.replicate n st).map ψ)=((n:Int):Rat)*ψ st
 |0=>by show(0:Rat)=(0:Rat)*ψ st;grind
 |n+1=>by
  show ψ st+sQ ((List.replicate n st).map ψ)=_;rw[wzf1 ψ st n,show((n+1:Nat):Int)=(n:Int)+1 from rfl,Rat.intCast_add];show ψ st+((n:Int):Rat)*ψ st=(((n:Int):Rat)+1)*ψ st
  grind
theorem SP(ψ:Int->Rat){cl:List AB}{b:Nat}{c:AB}(hn:(cl.map (·.Span)).Nodup)(hc:cl[b]?=some c):∀{T:List AM} {x:List (List Int)},x.length=T.length->(∀r,r∈x->r.length=cl.length/\∀v,v∈r->0<=v) ->
  sQ ((tabS c.Span cl T x).map ψ)=sm T.length (fun s=>xF x s b*ψ (T.getD s default).Stage)
 |[],x,_,_=>by cases x<;>rfl
 |d :: T,[],h,_=>by simp at h
 |d :: T,r :: x,h,hx=>by
  obtain⟨r1,r2⟩:=hx r (AS ..);have ih:=SP ψ hn hc (T:=T) (x:=x) (by simpa using h) fun q hq=>hx q (AR _ hq);show sQ ((Cs d.Stage c.Span cl r++tabS c.Span cl T x).map ψ)=sm (T.length+1) _;rw[List.map_append,Nk,ih,La,qz96 hn hc r1,wzf1];have hb:b<r.length:=by have:=(A8.1 hc).1;omega
  have hv:0<=r.getD b 0:=by obtain⟨v,hv⟩:=AQ hb;rw[show r.getD b 0=v by simp[List.getD,hv]];exact r2 v (AG hv)
  rw[show((r.getD b 0).toNat:Int)=r.getD b 0 by omega];rfl
theorem qz85:∀{g:List Af} {x:List Int},g.length=x.length->rowQ g x=sm x.length (fun b=>((x.getD b 0:Int):Rat)*rq (g.getD b ⟨false,[],[]⟩))
 |[],[],_=>rfl
 |[],_ :: _,h=>by simp at h
 |_ :: _,[],h=>by simp at h
 |a :: g,n :: x,h=>by show(n:Rat)*rq a+rowQ g x=sm (x.length+1) _;rw[La,qz85 (by simpa using h)];rfl
theorem qz75:∀{co:List (List Af)} {x:List (List Int)},co.length=x.length->tabQ co x=sm x.length (fun s=>rowQ (co.getD s []) (x.getD s []))
 |[],[],_=>rfl
 |[],_ :: _,h=>by simp at h
 |_ :: _,[],h=>by simp at h
 |a :: co,r :: x,h=>by show rowQ a r+tabQ co x=sm (x.length+1) _;rw[La,qz75 (by simpa using h)];rfl
theorem Hz[Inhabited α](g:α->Int)(f:Int->Rat)(l:List α):smJ (l.map g) f=sm l.length (fun b=>f (g (l.getD b default))):=by unfold smJ;rw[List.map_map,Hy];rfl
theorem TabR.far{T:List AM}{n:Int}(H:TabR T n):∀(d k:Nat) (a b:AM),T[k]?=some a->T[k+(d+1)]?=some b->a.Stage<b.Stage
 |0,k,a,b,h1,h2=>H.asc k a b h1 h2
 |d+1,k,a,b,h1,h2=>by obtain⟨c,h3⟩:=AQ (l:=T) (k:=k+(d+1)) (by have:=(A8.1 h2).1;omega);have e1:=H.far d k a c h1 h3;have e2:=H.asc (k+(d+1)) c b h3 h2;omega
theorem TabR.nodup{n:Int}(H:TabR T n):(T.map (·.Stage)).Nodup:=by unfold List.Nodup;rw[List.pairwise_map,List.pairwise_iff_getElem];intro i j hi hj iD e;have:=H.far (j-i-1) i T[i] T[j] (AF hi) (by rw[show i+(j-i-1+1)=j by omega];exact AF hj);omega
theorem wzaw(cl:List AB):isum (cl.map (·.Ticks))=clsT cl:=rfl
theorem Lb(f:Nat->Nat->Rat)(n m:Nat):sm n (fun i=>sm m (fun j=>f i j))=sm m (fun j=>sm n (fun i=>f i j)):=S0 f m n
theorem wziw(hJ:(cl.map (·.Span)).Nodup)(ha:∀i,i<n->a i∈cl.map (·.Span))(hT:(T.map (·.Stage)).Nodup)(hf:∀i,i<n->f i∈T.map (·.Stage))(G:Int->Int->Rat) :
  sm n (fun i=>G (a i) (f i))=sm T.length (fun s=>sm cl.length (fun b=>G (cl.getD b default).Span (T.getD s default).Stage*sm n (fun i=>ind (a i) (cl.getD b default).Span*ind (f i) (T.getD s default).Stage))):=by
 have h1:∀i,i<n->G (a i) (f i)=sm T.length (fun s=>sm cl.length (fun b=>G (cl.getD b default).Span (T.getD s default).Stage*(ind (a i) (cl.getD b default).Span*ind (f i) (T.getD s default).Stage))):=fun i hi=>by have e1:=Hx hT (hf i hi) (fun s=>G (a i) s);rw[Hz]at e1;rw[<-e1];refine Bf fun s _=>?_;have e2:=Hx hJ (ha i hi) (fun j=>G j (T.getD s default).Stage);rw[Hz]at e2;rw[<-e2,<-Fm];exact Bf fun b _=>by grind
 rw[Bf h1,Lb];refine Bf fun s _=>?_;rw[Lb];refine Bf fun b _=>?_;rw[<-Fm]
set_option maxHeartbeats 1000000 in
theorem wzo9{l:List An}(H:SpR l)(hl:l.length<=8)(hz:∀s,s∈l->SSz s/\BL s)(R:RunR r)(ht:r.Table≠[])(dB:r.Table.length<=20)(hK:Sz K (rof q))(k1:1<=K)(hb:K+r.Table.length*47186100<=8589934592) : ∃m v,(bd (F9 r l (fun s t=>GJ s t l tu)) fun b=>bd (F8 b.2.1 b.2.2 b.1.length) fun x=>D9 b.1 r.Table b.2.1 x [] (rof q))=some (m,rof (q+v))/\Sz (K+r.Table.length*47186100) (rof (q+v))/\RunE l tu r m v:=by
 obtain⟨e1,C⟩:=wzif H R.fr
 obtain⟨TB,_,_⟩:TabR r.Table (r.To-r.From)/\r.Lo=0/\r.Hi=0:=by
  rcases R.tb with ⟨h,_⟩|h
  ·exact absurd h ht
  ·exact h
 have dr:=R.fr;have jT:clsT (clsA r l)=r.To-r.From:=(qz9m H R.fr).2.2;generalize clsA r l=cl at e1 C jT;have aE:=C.len;have bt:=C.pos;have g8:∀c,c∈cl->∀h,h∈r.Table->GJ c.Span h.Stage l tu=some (rof (rtC l tu c.Span h.Stage))/\Sz 5242890 (rof (rtC l tu c.Span h.Stage)):=fun c hc h hh=>SC hz (C.rng c hc) (by have:=TB.st h hh;omega);obtain⟨y,e2,y1,y2,y3,y4⟩:=wzft (rate:=fun s t=>GJ s t l tu) (rt:=fun k s=>rof (rtC l tu k s)) (cl:=cl) (by omega) r.Table (fun h c hh hc=>(g8 c hc h hh).1) (fun h hh=>by have:=TB.st h hh;omega) (by rw[TB.sum];omega) 0 (cl.map (·.Ticks)) [] [] ⟨0,rfl,BA _,fun j hj=>by omega⟩ (by simp) (fun v hv=>by obtain⟨c,hc,rfl⟩:=CE.1 hv;have:=C.tk c hc;omega) (by rw[wzaw,jT,TB.sum]);simp only[Gcd]at e2;generalize gr:(r.Table.map fun h=>cl.map fun c=>rof (rtC l tu c.Span h.Stage))=co at e2;have cF_eq:∀s b,s<r.Table.length->b<cl.length->cFb co s b=rtC l tu (cl.getD b default).Span (r.Table.getD s default).Stage:=fun s b hs hb=>by obtain⟨h,hh⟩:=AQ hs;obtain⟨c,hc⟩:=AQ hb;unfold cFb;rw[<-gr];simp only[E7,H6,hh,hc,DS,Ll];rw[Cq]
 have T0:Tsk 5242890 cl.length r.Table.length co y:=by
  refine⟨by omega,by omega,by omega,by omega,by omega,by rw[<-gr,J5],y1,fun row aF=>?_,fun row aF=>?_⟩
  ·rw[<-gr]at aF;obtain⟨h,hh,rfl⟩:=CE.1 aF;refine⟨by simp,fun e he=>?_⟩;obtain⟨c,hc,rfl⟩:=CE.1 he;exact⟨wzse _,(g8 c hc h hh).2⟩
  ·obtain⟨r1,r2⟩:=y2 row aF;refine⟨r1,fun v hv=>⟨r2 v hv,?_⟩⟩;obtain⟨s,hs⟩:=Cj.1 aF;obtain⟨h,hh⟩:=AQ (l:=r.Table) (k:=s) (by have:=(A8.1 hs).1;omega);have h1:=y3 s h row hh hs;have h2:=KV r2 v hv;have h3:=TB.st h (AG hh);omega
 have rowY:∀s,s<r.Table.length->sm cl.length (xF y s)=(((r.Table.getD s default).Ticks:Int):Rat):=fun s hs=>by obtain⟨h,hh⟩:=AQ hs;obtain⟨row,aF⟩:=AQ (l:=y) (k:=s) (by omega);have h1:=y3 s h row hh aF;have h2:=wzts aF;rw[(y2 row (AG aF)).1]at h2;rw[h2,h1];simp[List.getD,hh]
 have colY:∀b,b<cl.length->sm r.Table.length (fun s=>xF y s b)=(((cl.getD b default).Ticks:Int):Rat):=fun b hb=>by obtain⟨c,hc⟩:=AQ hb;rw[<-y1,wzt9,y4 b c.Ticks (by rw[H6,hc];rfl)];simp[List.getD,hc]
 obtain⟨z,e3,Z,ST,D,hD⟩:=wza1 T0 dB fun s hs=>by rw[rowY s hs];obtain⟨h,hh⟩:=AQ hs;have h3:=TB.st h (AG hh);rw[show r.Table.getD s default=h by simp[List.getD,hh]];exact Rat.intCast_le_intCast.2 h3.2.2.2
 have bound9:r.Table.length*(cl.length*(5242890+10))<=r.Table.length*47186100:=Ov _ (by have:cl.length*(5242890+10)<=9*(5242890+10):=Bd _ (by omega);omega);obtain⟨m,e4,z4,g4⟩:=qz4j (A:=5242890) (cl:=cl) (by omega) r.Table co z [] q K T0.cl Z.xl (fun row aF=>⟨(T0.cr row aF).1,fun e he=>((T0.cr row aF).2 e he).2⟩) (fun row aF=>Z.xr row aF) hK k1 (by omega);have hg:∀j,gM m j=tabS j cl r.Table z:=fun j=>by rw[g4 j];rfl
 have zr:∀row,row∈z->row.length=cl.length/\∀v,v∈row->0<=v:=fun row aF=>⟨(Z.xr row aF).1,fun v hv=>((Z.xr row aF).2 v hv).1⟩;have rowZ:∀s,s<r.Table.length->sm cl.length (xF z s)=(((r.Table.getD s default).Ticks:Int):Rat):=fun s hs=>(ST.row s hs).trans (rowY s hs);have colZ:∀b,b<cl.length->sm r.Table.length (fun s=>xF z s b)=(((cl.getD b default).Ticks:Int):Rat):=fun b hb=>(ST.col b hb).trans (colY b hb);obtain⟨n,hn⟩:∃n:Nat,n=(r.To-r.From).toNat:=⟨_,rfl⟩;have g9:∀(ψ:Int->Int->Rat),smJ (cl.map (·.Span)) (fun j=>sQ ((gM m j).map (ψ j)))=sm r.Table.length (fun s=>sm cl.length (fun b=>xF z s b*ψ (cl.getD b default).Span (r.Table.getD s default).Stage)):=fun ψ=>by rw[Hz,Lb];refine Bf fun b hb=>?_;obtain⟨c,hc⟩:=AQ hb;rw[show cl.getD b default=c by simp[List.getD,hc],hg,SP (ψ c.Span) C.nd hc Z.xl zr]
 have hJ:∀j,j∈cl.map (·.Span)->(gM m j).length=cnA (fun i=>atC l (r.From+(i:Int))) j (r.To-r.From).toNat:=fun j hj=>by
  obtain⟨c,hc,rfl⟩:=CE.1 hj;obtain⟨b,hb⟩:=Cj.1 hc;have fk:=(A8.1 hb).1;have h1:=SP (fun _=>1) C.nd hb Z.xl zr (T:=r.Table) (x:=z)
  have h2:∀l:List Int,sQ (l.map fun _=>(1:Rat))=((l.length:Int):Rat):=fun l=>by
   induction l with
   |nil=>rfl
   |cons x l ih =>
    show 1+sQ (l.map _)=_;rw[ih,Bk,show((l.length+1:Nat):Int)=(l.length:Int)+1 from rfl,Rat.intCast_add];show(1:Rat)+_=_+(1:Rat)
    grind
  rw[h2,Bf (g:=fun s=>xF z s b) fun s _=>by grind,colZ b fk,show cl.getD b default=c by simp[List.getD,hb]]at h1;have h3:=Rat.intCast_inj.1 h1;have h4:=C.cnt c hc;rw[hg];omega
 have gA:∀i,i<(r.To-r.From).toNat->∃h,h∈r.Table/\BN (fun i=>atC l (r.From+(i:Int))) (gM m) i=h.Stage:=fun i hi=>by have h1:=qz7s C.mem hJ hi;rw[hg]at h1;exact qz5d h1
 have vEq:tabQ co z=Bm r.Table.length cl.length (cFb co) (xF z):=by
  rw[qz75 (by rw[T0.cl,Z.xl]),Z.xl];unfold Bm;refine Bf fun s hs=>?_;obtain⟨row,aF⟩:=AQ (l:=z) (k:=s) (by have:=Z.xl;omega);obtain⟨cr,mh⟩:=AQ (l:=co) (k:=s) (by have:=T0.cl;omega);have fM:=(zr row (AG aF)).1;have cq:=(T0.cr cr (AG mh)).1;rw[show z.getD s []=row by simp[List.getD,aF],show co.getD s []=cr by simp[List.getD,mh],qz85 (by omega),fM];refine Bf fun b hb=>?_;unfold cFb xF xI;rw[show z.getD s []=row by simp[List.getD,aF],show co.getD s []=cr by simp[List.getD,mh]]
  grind
 have cEq:∀(X:Nat->Nat->Rat),Bm r.Table.length cl.length (cFb co) X=sm r.Table.length (fun s=>sm cl.length (fun b=>rtC l tu (cl.getD b default).Span (r.Table.getD s default).Stage*X s b)):=fun X=>by unfold Bm;exact Bf fun s hs=>Bf fun b hb=>by rw[cF_eq s b hs hb]
 have dK:cst l tu r.From (r.To-r.From).toNat (BN (fun i=>atC l (r.From+(i:Int))) (gM m))=tabQ co z:=by unfold cst;rw[wzw6 (fun j s=>rtC l tu j s) C.nd C.mem hJ,g9 (fun j s=>rtC l tu j s),vEq,cEq];exact Bf fun s _=>Bf fun b _=>by grind
 refine⟨m,tabQ co z,?_,z4.mono (by omega),⟨?_,fun i hi=>?_,?_,dK,fun f hf=>?_,fun i hi=>?_⟩⟩
 ·unfold F9;rw[e1,Ab,ck_t (by simp;omega),e2,Ab,Ab];show(bd (F8 co y cl.length) fun x=>D9 cl r.Table co x [] (rof q))=_;rw[e3,Ab,e4]
 ·refine qz77 (KN.tab (m:=[]) List.nodup_nil e4) (n:=1402560) (by omega) fun j=>?_;by_cases hj:j∈cl.map (·.Span)
  ·rw[hJ j hj];have:=SN (fun i=>atC l (r.From+(i:Int))) j (r.To-r.From).toNat;omega
  ·rw[hg]
   have:∀(T:List AM) (x:List (List Int)),tabS j cl T x=[]:=fun T=>by
    induction T with
    |nil=>intro x;rfl
    |cons d T ih =>
     intro x;cases x with
     |nil=>rfl
     |cons a x=>show Cs d.Stage j cl a++tabS j cl T x=[];rw[SO hj,ih];rfl
   rw[this];simp
 ·rw[hJ _ (C.mem i hi),KZ];exact KY (a:=fun i=>atC l (r.From+(i:Int))) hi
 ·unfold AgR;rw[Ag ht];refine⟨gA,fun h hh=>?_⟩;obtain⟨s0,ia⟩:=Cj.1 hh;have p9:=(A8.1 ia).1;rw[wzw6 (fun _ s=>ind s h.Stage) C.nd C.mem hJ,g9 (fun _ s=>ind s h.Stage)];have e5:sm r.Table.length (fun s=>sm cl.length (fun b=>xF z s b*ind (r.Table.getD s default).Stage h.Stage))=sm r.Table.length (fun s=>ind (r.Table.getD s default).Stage h.Stage*sm cl.length (xF z s)):=Bf fun s _=>by rw[<-Fm];exact Bf fun b _=>by grind
  rw[e5,Bf (g:=fun s=>ind (r.Table.getD s default).Stage h.Stage*(h.Ticks:Rat)) fun s hs=>?_]
  ·have e6:=Hx TB.nodup (CE.2 ⟨h,hh,rfl⟩) (fun _=>(h.Ticks:Rat));rw[Hz]at e6;refine Eq.trans (Bf fun s _=>?_) e6;unfold ind;by_cases e7:(r.Table.getD s default).Stage=h.Stage
   ·rw[Aj e7,Aj e7.symm]
   ·rw[Ag e7,Ag (Ne.symm e7)]
  ·rw[rowZ s hs];unfold ind;by_cases e7:(r.Table.getD s default).Stage=h.Stage
   ·rw[Aj e7];obtain⟨g,kx⟩:=AQ hs;rw[show r.Table.getD s default=g by simp[List.getD,kx]]at e7 |-
    have:s=s0:=by
     rcases Nat.lt_trichotomy s s0 with h2|h2|h2
     ·have:=TB.far (s0-s-1) s g h kx (by rw[show s+(s0-s-1+1)=s0 by omega];exact ia);omega
     ·exact h2
     ·have:=TB.far (s-s0-1) s0 h g ia (by rw[show s0+(s-s0-1+1)=s by omega];exact kx);omega
    subst this;rw[kx]at ia;cases ia;rfl
   ·rw[Ag e7];grind
 ·rw[vEq];unfold AgR at hf;rw[Ag ht]at hf;obtain⟨f1,f2⟩:=hf;have nt:∀i,i<(r.To-r.From).toNat->f i∈r.Table.map (·.Stage):=fun i hi=>by obtain⟨h,hh,e⟩:=f1 i hi;rw[e];exact CE.2 ⟨h,hh,rfl⟩
  unfold cst;rw[wziw C.nd C.mem TB.nodup nt (fun j s=>rtC l tu j s),<-cEq];refine wzr6 (d:=D) (fun s hs=>?_) (fun b hb=>?_) (fun s b hs hb=>qz9k Z s b hs hb) (fun s b hs hb=>?_) (fun s a b hs ha hb h=>hD s a b hs ha hb h)
  ·rw[rowZ s hs,Lb];obtain⟨h,hh⟩:=AQ hs;rw[show r.Table.getD s default=h by simp[List.getD,hh],<-f2 h (AG hh)];refine Bf fun i hi=>?_;have e6:=Hx C.nd (C.mem i hi) (fun _=>ind (f i) h.Stage);rw[Hz]at e6;exact e6.symm
  ·rw[colZ b hb,Lb];obtain⟨c,hc⟩:=AQ hb;rw[show cl.getD b default=c by simp[List.getD,hc],C.cnt c (AG hc)];show((cnA _ c.Span _:Nat):Rat)=_;rw[Hw];refine Bf fun i hi=>?_;have e6:=Hx TB.nodup (nt i hi) (fun _=>ind (atC l (r.From+(i:Int))) c.Span);rw[Hz]at e6;rw[<-e6];exact Bf fun s _=>by grind
  ·have:=Hv (f:=fun _=>0) (g:=fun i=>ind (atC l (r.From+(i:Int))) (cl.getD b default).Span*ind (f i) (r.Table.getD s default).Stage) (n:=(r.To-r.From).toNat) fun i _=>by
    unfold ind;split<;>split<;>grind
   rwa [DN]at this
 ·obtain⟨h,hh,e⟩:=gA i hi;rw[e];have:=TB.st h hh;omega
def ChR:Int->List Al->Int->Prop
 |a,[],b=>a=b
 |a,x :: l,b=>RunR x/\x.From=a/\ChR x.To l b
theorem Lc:∀{l:List Al} {x:Al},(∀y,y∈x :: l->RunR y)->(∀k y z,(x :: l)[k]?=some y->(x :: l)[k+1]?=some z->y.To=z.From)->∃y,(x :: l)[l.length]?=some y/\ChR x.From (x :: l) y.To
 |[],x,h1,_=>⟨x,rfl,h1 x (AS ..),rfl,rfl⟩
 |y :: l,x,h1,h2=>by obtain⟨z,hz,hc⟩:=Lc (l:=l) (x:=y) (fun u hu=>h1 u (AR _ hu)) fun k u v hu hv=>h2 (k+1) u v (by simpa using hu) (by simpa using hv);have:=h2 0 x y rfl rfl;exact⟨z,by simpa using hz,h1 x (AS ..),rfl,by rw[this];exact hc⟩
theorem ChR.le:∀{l:List Al} {a b:Int},ChR a l b->a<=b
 |[],a,b,h=>by have h:a=b:=h;omega
 |x :: l,a,b,h=>by have:=ChR.le h.2.2;have:=h.1.fr;have:=h.2.1;omega
theorem ChR.mem:∀{l:List Al} {a b:Int},ChR a l b->∀x,x∈l->RunR x/\a<=x.From/\x.To<=b
 |x :: l,a,b,h,y,hy=>by
  have h1:=h.1.fr;have h2:=h.2.1;have h3:=ChR.le h.2.2;rcases AV.1 hy with rfl|hy
  ·exact⟨h.1,by omega,h3⟩
  ·have:=ChR.mem h.2.2 y hy;exact⟨this.1,by omega,this.2.2⟩
def AgT(l:List Al)(g:Int->Int):Prop:=∀r,r∈l->AgR r (r.To-r.From).toNat (fun i=>g (r.From+(i:Int)))
def cstT(s:List An)(tu:Bool)(l:List Al)(g:Int->Int):Rat:=sQ (l.map fun r=>cst s tu r.From (r.To-r.From).toNat (fun i=>g (r.From+(i:Int))))
theorem AgR.congr(h:∀i,i<n->f i=g i)(H:AgR r n f):AgR r n g:=by
 unfold AgR at H |-;split
 ·rename_i ht;rw[Aj ht]at H;exact fun i hi=>by rw[<-h i hi];exact H i hi
 ·rename_i ht;rw[Ag ht]at H;refine⟨fun i hi=>by rw[<-h i hi];exact H.1 i hi,fun a ha=>?_⟩;rw[<-H.2 a ha];exact Bf fun i hi=>by rw[h i hi]
theorem wzfp{t:Int}(h:∀i,i<n->f i=g i):cst s tu t n f=cst s tu t n g:=Bf fun i hi=>by rw[h i hi]
def atT(out:List Int)(from0 t:Int):Int:=out.getD (t-from0).toNat 0
theorem wzpm(H:SpR s)(hl:s.length<=8)(hz:∀x,x∈s->SSz x/\BL x)(R:RunR r)(dB:r.Table.length<=20)(hK:Sz K (rof q))(k1:1<=K)(hb:K+(r.To-r.From).toNat*47186100<=8589934592) : ∃m v,(ite' (decide ((List.length r.Table:Int)=0)) (bd (Ip r s) fun cl=>ck (decide (cl.length<=1000000))<|Eh (fun k t=>GJ k t s tu) r cl [] (rof q)) (bd (F9 r s (fun k t=>GJ k t s tu)) fun b=>bd (F8 b.2.1 b.2.2 b.1.length) fun x=>D9 b.1 r.Table b.2.1 x [] (rof q)))=some (m,rof (q+v))/\Sz (K+(r.To-r.From).toNat*47186100) (rof (q+v))/\RunE s tu r m v:=by
 have dr:=R.fr;by_cases h:r.Table=[]
 ·rw[it_d (by rw[h];rfl)];have h1:47186100<=(r.To-r.From).toNat*47186100:=Nat.le_mul_of_pos_left _ (by omega);obtain⟨m,v,e1,e2,e3⟩:=wzog H hl hz R h hK k1 (tu:=tu) (AU (Nat.add_le_add_left h1 K) hb);exact⟨m,v,e1,e2.mono (Nat.add_le_add_left h1 K),e3⟩
 ·have aE:r.Table.length≠0:=fun e=>h (Li e);rw[it_n (by omega)]
  have h2:r.Table.length<=(r.To-r.From).toNat:=by
   rcases R.tb with ⟨h3,_⟩|⟨h3,_⟩
   ·exact absurd h3 h
   ·have key:∀t:List AM,(∀a,a∈t->1<=a.Ticks)->(t.length:Int)<=isum (t.map (·.Ticks)):=fun t=>by
     induction t with
     |nil=>intro _;exact HE _
     |cons a t ih =>intro ha;have:=ih fun b hb=>ha b (AR _ hb);have:=ha a (AS ..);show((t.length+1:Nat):Int)<=a.Ticks+isum (t.map (·.Ticks));omega
    have:=key r.Table fun a ha=>(h3.st a ha).2.2.1;rw[h3.sum]at this;omega
  have h1:r.Table.length*47186100<=(r.To-r.From).toNat*47186100:=Bd _ h2;obtain⟨m,v,e1,e2,e3⟩:=wzo9 H hl hz R h dB hK k1 (tu:=tu) (AU (Nat.add_le_add_left h1 K) hb);exact⟨m,v,e1,e2.mono (Nat.add_le_add_left h1 K),e3⟩
structure wzwp(s:List An)(tu:Bool)(l:List Al)(from0 a b:Int)(out out2:List Int)(V:Rat):Prop where
 len:out2.length=out.length
 keep:∀i:Nat,(i:Int)<a-from0\/b-from0<=(i:Int)->out2[i]?=out[i]?
 ag:AgT l (atT out2 from0)
 eq:cstT s tu l (atT out2 from0)=V
 le:∀g,AgT l g->V<=cstT s tu l g
 st:∀t,a<=t->t<b->0<=atT out2 from0 t/\atT out2 from0 t<=1000
theorem qz7w{s:List An}(H:SpR s)(hl:s.length<=8)(hz:∀x,x∈s->SSz x/\BL x){tu:Bool}{from0:Int}(nu:0<=from0):∀(l:List Al) (a b:Int) (q:Rat) (K:Nat) (out:List Int),ChR a l b->(∀x,x∈l->x.Table.length<=20)->from0<=a->b-from0<=out.length->Sz K (rof q)->1<=K->K+(b-a).toNat*47186100<=8589934592 -> ∃V out2,ET s (fun k t=>GJ k t s tu) from0 l (rof q) out=some (rof (q+V),out2)/\Sz (K+(b-a).toNat*47186100) (rof (q+V))/\wzwp s tu l from0 a b out out2 V
 |[],a,b,q,K,out,hc,_,_,_,hK,_,_=>by
  have e:q+0=q:=by grind
  refine⟨0,out,by rw[e];rfl,by rw[e];exact hK.mono (by omega),⟨rfl,fun _ _=>rfl,(fun r h=>by cases h),rfl,fun g _=>Rat.le_refl,fun t h1 h2=>?_⟩⟩;have hc:a=b:=hc;omega
 |r :: l,a,b,q,K,out,hc,ht,ha,aE,hK,k1,hb=>by
  obtain⟨R,rfl,hc⟩:=hc;have dr:=R.fr;have aC:=hc.le;have ic:(b-r.From).toNat=(r.To-r.From).toNat+(b-r.To).toNat:=by omega
  rw[ic,AT]at hb |-;obtain⟨m,v,e1,z1,E⟩:=wzpm H hl hz (tu:=tu) R (ht r (AS ..)) hK k1 (AU (Nat.add_le_add_left (Nat.le_add_right _ _) K) hb);obtain⟨n,hn⟩:∃n:Nat,n=(r.To-r.From).toNat:=⟨_,rfl⟩;have e2:=wzgc H (from0:=from0) (t:=r.From) (to0:=r.To) (m:=m) (out:=out) ⟨nu,ha,by omega,dr.2.2⟩ (by omega) fun k hk=>E.len k (by omega);obtain⟨t1,t2⟩:=wzfk (l:=s) (m:=m) (out:=out) ha (r.To-r.From).toNat (by omega);have t3:=Oe s from0 r.From m out (r.To-r.From).toNat;generalize (tkS s from0 r.From m out (r.To-r.From).toNat).2=out1 at e2 t1 t2 t3;obtain⟨V,out2,e3,z3,F⟩:=qz7w H hl hz (tu:=tu) nu l r.To b (q+v) (K+(r.To-r.From).toNat*47186100) out1 hc (fun x hx=>ht x (AR _ hx)) (by omega) (by omega) z1 (AU k1 (Nat.le_add_right _ _)) (by rw[Fu];exact hb);have ie:∀i:Nat,i<(r.To-r.From).toNat->atT out2 from0 (r.From+(i:Int))=BN (fun i=>atC s (r.From+(i:Int))) (gM m) i:=fun i hi=>by unfold atT;have h1:=F.keep (r.From+(i:Int)-from0).toNat (.inl (by omega));rw[E7,h1,t1 i hi];unfold BN;rw[KZ];rfl
  refine⟨v+V,out2,?_,?_,⟨F.len.trans t3,fun i hi=>?_,fun x hx=>?_,?_,fun g hg=>?_,fun t h1 h2=>?_⟩⟩
  ·unfold ET;rw[e1,Ab,ck_t E.cap];show(bd (lp (ES s from0 r.To) (r.From,m,out)) _)=_;rw[e2,Ab];show ET s _ from0 l (rof (q+v)) out1=_;rw[e3,show q+v+V=q+(v+V) by grind]
  ·rw[show q+(v+V)=q+v+V by grind];exact z3.mono (Nat.le_of_eq (Fu _ _ _))
  ·rw[F.keep i (by omega),t2 i (by omega)]
  ·rcases AV.1 hx with rfl|hx;·exact E.ag.congr fun i hi=>(ie i hi).symm
   ·exact F.ag x hx
  ·show cst s tu r.From _ _+cstT s tu l (atT out2 from0)=v+V;rw[F.eq,wzfp ie,E.eq]
  ·show v+V<=cst s tu r.From _ _+cstT s tu l g;have a1:=E.le _ (hg r (AS ..));have a2:=F.le g fun x hx=>hg x (AR _ hx)
   grind
  ·by_cases h3:t<r.To;·have:=ie (t-r.From).toNat (by omega);rw[show r.From+((t-r.From).toNat:Int)=t by omega]at this;rw[this];exact E.st _ (by omega)
   ·exact F.st t (by omega) h2
structure EndE(s:List An)(tu:Bool)(l:List Al)(h:AD)(V:Rat):Prop where
 nil:l=[]->h=⟨0,[]⟩/\V=0
 fr:∀x,l[0]?=some x->h.From=x.From
 to:∀x,l[l.length-1]?=some x->h.From+(h.Stages.length:Int)=x.To
 st:∀v,v∈h.Stages->0<=v/\v<=1000
 ag:AgT l (atT h.Stages h.From)
 eq:cstT s tu l (atT h.Stages h.From)=V
 le:∀g,AgT l g->V<=cstT s tu l g
theorem wzg0(H:SpR s)(hl:s.length<=8)(hz:∀x,x∈s->SSz x/\BL x)(tu:Bool)(R:CV l)(ht:∀x,x∈l->x.Table.length<=20)(hT:∀x y,l[0]?=some x->l[l.length-1]?=some y->y.To-x.From<=100) : ∃V h,GL l s tu=some (rof (bif tu then -V else V),h)/\Sz 4718610010 (rof (bif tu then -V else V))/\EndE s tu l h V:=by
 unfold GL
 have fin:∀(V:Rat) (h:AD) (K:Nat),Sz K (rof V)->1<=K->K<=4718610001->(bd (ite' tu (EU (rof V)) (some (rof V))) fun q=>some (q,h))=some (rof (bif tu then -V else V),h)/\Sz 4718610010 (rof (bif tu then -V else V)):=fun V h K hK k1 k2=>by
  cases tu with
  |false=>exact⟨rfl,hK.mono (AU k2 (by decide))⟩
  |true =>obtain⟨n1,n2⟩:=qz0l hK k1 (AU k2 (by decide));rw[Cq]at n1 n2;rw[Em,n1];exact⟨rfl,n2.mono (AU (Nat.add_le_add_right k2 2) (by decide))⟩
 cases l with
 |nil =>obtain⟨f1,f2⟩:=fin 0 ⟨0,[]⟩ 1 (by rw[Dt];exact Sz.zero _) (by decide) (by decide);refine⟨0,⟨0,[]⟩,?_,f2,⟨fun _=>⟨rfl,rfl⟩,(fun x h=>by simp at h),(fun x h=>by simp at h),(fun v h=>by cases h),(fun r h=>by cases h),rfl,fun g _=>Rat.le_refl⟩⟩;rw[Dt]at f1;exact f1
 |cons r l =>
  obtain⟨z,dy,hc⟩:=Lc (l:=l) (x:=r) R.run R.nxt;have h0:(r :: l)[(r :: l).length-1]?=some z:=by simpa using dy
  have mi:=hT r z rfl h0;have aE:=R.len;have aC:=hc.le;have hr:=(R.run r (AS ..)).fr;have qf:=(R.run z (AG dy)).fr;have hd:decide (0<((r :: l).length:Int))=true:=AC (by simp only[Bk];omega);have hlt:r.From<z.To:=by have:=hc.mem r (AS ..);omega
  obtain⟨V,out2,e,sz,E⟩:=qz7w H hl hz (tu:=tu) (from0:=r.From) hr.1 (r :: l) r.From z.To 0 1 (List.replicate (z.To-r.From).toNat 0) hc ht (HE _) (by simp;omega) (by rw[Dt];exact Sz.zero _) (by decide) (by have:(z.To-r.From).toNat*47186100<=100*47186100:=Bd _ (by omega);exact AU (Nat.add_le_add_left this 1) (by decide));have e0:(0:Rat)+V=V:=by grind
  rw[e0]at e sz;rw[Dt]at e;obtain⟨f1,f2⟩:=fin V ⟨r.From,out2⟩ _ sz (Nat.le_add_right _ _) (by have:(z.To-r.From).toNat*47186100<=100*47186100:=Bd _ (by omega);exact AU (Nat.add_le_add_left this 1) (by decide));refine⟨V,⟨r.From,out2⟩,?_,f2,⟨(fun h=>by cases h),fun x hx=>by cases hx;rfl,fun x hx=>?_,fun v hv=>?_,E.ag,E.eq,E.le⟩⟩
  ·rw[hd,Bv,show at? (r :: l) 0=some r from rfl,Ab,Bv,at_e (n:=(r :: l).length-1) (by simp only[Bk];omega) h0,Ab];rw[ck_t (by simp only[Bk]at aE |-;simp[As];omega)];show(bd (ET s _ r.From (r :: l) ⟨false,[],[]⟩ (List.replicate (z.To-r.From).toNat 0)) _)=_;rw[e,Ab];exact f1
  ·rw[h0]at hx;cases hx;show r.From+(out2.length:Int)=z.To;rw[E.len,Ox];omega
  ·obtain⟨i,hi⟩:=Cj.1 hv;have iz:=(A8.1 hi).1;have h1:=E.len;rw[Ox]at h1;have iz:i<out2.length:=iz;have:=E.st (r.From+(i:Int)) (by omega) (by omega);unfold atT at this;rw[show(r.From+(i:Int)-r.From).toNat=i by omega]at this;have hi:out2[i]?=some v:=hi;rw[E7,hi]at this;exact this
theorem wzdo{l:List Int}{g:Int->Option Bool}(hl:l.length<=1048576)(p:Int->Bool)(hg:∀s,s∈l->g s=some (p s)):Mm l g=some ((scan (fun k s=>if p s then some (k:Int) else none) 0 l).getD (-1)):=by
 unfold Mm;rw[CS (l:=l) (fun k s=>if p s then some (k:Int) else none) (by omega) ?_ ?_]
 ·simp only[Ab];exact Su
 ·intro k s hs;have hk:=(A8.1 hs).1;simp only[PO];rw[it_d (by omega),at_e rfl hs];simp only[Ab];rw[hg s (AG hs)];simp only[Ab];cases p s with
  |true=>rw[Em];rfl
  |false=>rw[Dp,A0 (by omega)];rfl
 ·simp only[PO];rw[it_n (by omega)]
theorem qzup(h:AD):EQ h=some (decide (hisR h)):=by
 unfold EQ FE;by_cases h2:h.Stages.length<=40000
 ·rw[show(decide ((List.length h.Stages:Int)<=40000))=true from AC (by omega)];rw[ck_t (by simp[As];omega)];simp only[Bv,Ab,Cg];by_cases h1:0<=h.From/\h.From<=1402560-(h.Stages.length:Int)
  ·rw[show(bif decide (0<=h.From) then decide (h.From<=1402560-(h.Stages.length:Int)) else false)=true by simp;omega];simp only[Bv,Cg];unfold PZ;rw[wzdo (g:=fun a0=>PN a0) (by omega) (fun s=>!(bif decide (0<=s) then decide (s<=1000) else false)) (fun s _=>rfl)];simp only[Ab,Cg];congr 1;rw[Bool.eq_iff_iff,H5,Gdx,qz38,decide_eq_true_iff];constructor
   ·intro hn;refine⟨h1.1,h2,h1.2,fun s hs=>?_⟩
    false_or_by_contra
    rename_i aI;exact hn ⟨s,hs,by simp;omega⟩
   ·rintro⟨_,_,_,h4⟩ ⟨s,hs,e⟩;have:=h4 s hs;simp at e;omega
  ·rw[show(bif decide (0<=h.From) then decide (h.From<=1402560-(h.Stages.length:Int)) else false)=false by
    by_cases h3:0<=h.From
    ·rw[AC h3,A9 (fun h4=>h1 ⟨h3,h4⟩)];rfl
    ·rw[A9 h3];rfl]
   rw[A9 (fun hh:hisR h=>h1 ⟨hh.1,hh.2.2.1⟩)];rfl
 ·rw[show(decide ((List.length h.Stages:Int)<=40000))=false from A9 (by omega)];rw[A9 (fun hh:hisR h=>h2 hh.2.1)];rfl
def rem(m:List (Int×Int))(s:Int):Int:=Option.getD (mget keqI m s) 0
theorem qzx7(a b k:Int):∀m:List (Int×Int),mget keqI (mput keqI m a b) k=if k=a then some b else mget keqI m k
 |[]=>by
  show(match keqI k a with | true=>some b | false=>none)=_;by_cases h:k=a
  ·rw[show keqI k a=true from AC h,Aj h]
  ·rw[show keqI k a=false from A9 h,Ag h];rfl
 |p :: m=>by
  show mget keqI (match keqI a p.1 with | true=>(a,b) :: m | false=>p :: mput keqI m a b) k=if k=a then some b else(match keqI k p.1 with | true=>some p.2 | false=>mget keqI m k);by_cases h:a=p.1
  ·rw[show keqI a p.1=true from AC h];show(match keqI k a with | true=>some b | false=>mget keqI m k)=_;by_cases h2:k=a
   ·rw[show keqI k a=true from AC h2,Aj h2]
   ·rw[show keqI k a=false from A9 h2,Ag h2,show keqI k p.1=false from A9 (by omega)]
  ·rw[show keqI a p.1=false from A9 h];show(match keqI k p.1 with | true=>some p.2 | false=>mget keqI (mput keqI m a b) k)=_;rw[qzx7 a b k m];by_cases h2:k=p.1
   ·simp only[show keqI k p.1=true from AC h2,Ag (show ¬k=a by omega)]
   ·rw[show keqI k p.1=false from A9 h2]
theorem qzte(m:List (Int×Int))(a b s:Int):rem (mput keqI m a b) s=if s=a then b else rem m s:=by unfold rem;rw[qzx7];split<;>rfl
def tabM(T:List AM)(m:List (Int×Int)):List (Int×Int):=T.foldl (fun m h=>mput keqI m h.Stage h.Ticks) m
theorem Ld:∀(T:List AM) (m:List (Int×Int)) (s:Int),(∀h,h∈T->h.Stage≠s)->rem (tabM T m) s=rem m s
 |[],m,s,_=>rfl
 |h :: T,m,s,hs=>by show rem (tabM T (mput keqI m h.Stage h.Ticks)) s=_;rw[Ld T _ s fun x hx=>hs x (AR _ hx),qzte,Ag (Ne.symm (hs h (AS ..)))]
theorem Le:∀(T:List AM) (m:List (Int×Int)) (h:AM),(T.map (·.Stage)).Nodup->h∈T->rem (tabM T m) h.Stage=h.Ticks
 |d :: T,m,h,hn,hh=>by
  obtain⟨n1,n2⟩:=List.nodup_cons.1 hn;show rem (tabM T (mput keqI m d.Stage d.Ticks)) h.Stage=_;rcases AV.1 hh with rfl|hh
  ·rw[Ld T _ _ fun x hx e=>n1 (by show h.Stage∈_;rw[<-e];exact CE.2 ⟨x,hx,rfl⟩),qzte,Aj rfl]
  ·exact Le T _ h n2 hh
def agL(x:Al):List Int->(Int->Int)->Prop
 |[],_=>True
 |v :: L,ρ=>(if x.Table=[] then x.Lo<=v/\v<=x.Hi else ρ v≠0)/\agL x L (fun s=>if s=v then ρ s-1 else ρ s)
def cntL(s:Int):List Int->Nat
 |[]=>0
 |v :: L=>(if v=s then 1 else 0)+cntL s L
theorem qz4i(s v:Int)(L:List Int):∀n,cnA (fun i=>(v :: L).getD i 0) s (n+1)=(if v=s then 1 else 0)+cnA (fun i=>L.getD i 0) s n
 |0=>by show 0+(if v=s then 1 else 0)=(if v=s then 1 else 0)+0;omega
 |n+1=>by show cnA (fun i=>(v :: L).getD i 0) s (n+1)+(if L.getD n 0=s then 1 else 0)=(if v=s then 1 else 0)+(cnA (fun i=>L.getD i 0) s n+(if L.getD n 0=s then 1 else 0));rw[qz4i s v L n];omega
theorem Oj(s:Int):∀L:List Int,cntL s L=cnA (fun i=>L.getD i 0) s L.length
 |[]=>rfl
 |v :: L=>by show(if v=s then 1 else 0)+cntL s L=cnA _ s (L.length+1);rw[qz4i,Oj s L]
theorem qz3g{s:Int}:∀{L:List Int},s∈L->1<=cntL s L
 |v :: L,h=>by
  show 1<=(if v=s then 1 else 0)+cntL s L;rcases AV.1 h with rfl|h
  ·rw[Aj rfl];omega
  ·have:=qz3g h;omega
theorem SQ{s:Int}:∀{L:List Int},s∉L->cntL s L=0
 |[],_=>rfl
 |v :: L,h=>by show(if v=s then 1 else 0)+cntL s L=0;rw[Ag (fun e=>h (by rw[e];exact AS ..)),SQ fun hm=>h (AR _ hm)]
theorem Lf{x:Al}(ht:x.Table≠[]):∀(L:List Int) (ρ:Int->Int),(∀s,0<=ρ s)->(agL x L ρ↔∀s,(cntL s L:Int)<=ρ s)
 |[],ρ,h=>⟨fun _ s=>h s,fun _=>trivial⟩
 |v :: L,ρ,h=>by
  show(if x.Table=[] then _ else ρ v≠0)/\agL x L _↔∀s,(((if v=s then 1 else 0)+cntL s L:Nat):Int)<=ρ s;rw[Ag ht];constructor
  ·rintro⟨h1,h2⟩ s;have hv:=h v
   have:=(Lf ht L _ (fun s=>by
    show 0<=(if s=v then ρ s-1 else ρ s);have:=h s;split
    ·rename_i e;rw[e];omega
    ·omega)).1 h2 s
   by_cases e:v=s
   ·subst e;rw[Aj rfl]at this |-;omega
   ·rw[Ag (Ne.symm e)]at this;rw[Ag e];omega
  ·intro h1;have h0:=h1 v;rw[Aj rfl]at h0
   refine⟨by omega,(Lf ht L _ (fun s=>by
    show 0<=(if s=v then ρ s-1 else ρ s);have:=h s;split
    ·rename_i e;rw[e];omega
    ·omega)).2 fun s=>?_⟩
   have:=h1 s;by_cases e:v=s
   ·subst e;rw[Aj rfl]at this |-;omega
   ·rw[Ag e]at this;rw[Ag (Ne.symm e)];omega
theorem SS{x:Al}(ht:x.Table=[]):∀(L:List Int) (ρ:Int->Int),agL x L ρ↔∀v,v∈L->x.Lo<=v/\v<=x.Hi
 |[],ρ=>⟨(fun _ v h=>by cases h),fun _=>trivial⟩
 |v :: L,ρ=>by
  show(if x.Table=[] then _ else ρ v≠0)/\agL x L _↔_;rw[Aj ht,SS ht L];constructor
  ·rintro⟨h1,h2⟩ w hw;rcases AV.1 hw with rfl|hw
   ·exact h1
   ·exact h2 w hw
  ·intro h1;exact⟨h1 v (AS ..),fun w hw=>h1 w (AR _ hw)⟩
theorem wzr2(R:RunR x)(hL:L.length=(x.To-x.From).toNat):agL x L (rem (tabM x.Table []))↔AgR x (x.To-x.From).toNat (fun i=>L.getD i 0):=by
 have dr:=R.fr;unfold AgR;by_cases ht:x.Table=[]
 ·rw[Aj ht,SS ht];constructor
  ·intro h i hi;obtain⟨v,hv⟩:=AQ (l:=L) (k:=i) (by omega);show x.Lo<=L.getD i 0/\L.getD i 0<=x.Hi;rw[show L.getD i 0=v by simp[List.getD,hv]];exact h v (AG hv)
  ·intro h v hv;obtain⟨i,hi⟩:=Cj.1 hv;have:x.Lo<=L.getD i 0/\L.getD i 0<=x.Hi:=h i (by have:=(A8.1 hi).1;omega);rw[show L.getD i 0=v by simp[List.getD,hi]]at this;exact this
 ·rw[Ag ht]
  have TB:TabR x.Table (x.To-x.From):=by
   rcases R.tb with ⟨h,_⟩|⟨h,_⟩
   ·exact absurd h ht
   ·exact h
  have aQ:∀h,h∈x.Table->rem (tabM x.Table []) h.Stage=h.Ticks:=fun h hh=>Le _ _ h TB.nodup hh;have hout:∀s,(∀h,h∈x.Table->h.Stage≠s)->rem (tabM x.Table []) s=0:=fun s hs=>Ld _ _ s hs
  have bt:∀s,0<=rem (tabM x.Table []) s:=fun s=>by
   by_cases h:∃h,h∈x.Table/\h.Stage=s
   ·obtain⟨h,hh,rfl⟩:=h;rw[aQ h hh];have:=TB.st h hh;omega
   ·rw[hout s fun a ha e=>h ⟨a,ha,e⟩];exact HE _
  rw[Lf ht L _ bt];constructor
  ·intro h
   have fg:∀v,v∈L->∃a,a∈x.Table/\v=a.Stage:=fun v hv=>by
    false_or_by_contra
    rename_i aI;have h1:=h v;rw[hout v fun a ha e=>aI ⟨a,ha,e.symm⟩]at h1;have:=qz3g hv;omega
   have hf:∀i,i<(x.To-x.From).toNat->∃a,a∈x.Table/\L.getD i 0=a.Stage:=fun i hi=>by obtain⟨v,hv⟩:=AQ (l:=L) (k:=i) (by omega);rw[show L.getD i 0=v by simp[List.getD,hv]];exact fg v (AG hv)
   refine⟨hf,fun a ha=>?_⟩;have all:=qz8e (a:=fun i=>L.getD i 0) (J:=x.Table.map (·.Stage)) (n:=(x.To-x.From).toNat) TB.nodup fun i hi=>by obtain⟨a,ha,e⟩:=hf i hi;rw[e];exact CE.2 ⟨a,ha,rfl⟩
   rw[Hz]at all;have tot:sm x.Table.length (fun k=>(((x.Table.getD k default).Ticks:Int):Rat))=((x.To-x.From).toNat:Rat):=by have e1:=Oi (x.Table.map (·.Ticks));rw[TB.sum,List.map_map,Hy]at e1;have e2:((x.To-x.From:Int):Rat)=(((x.To-x.From).toNat:Nat):Rat):=(by rw[show((((x.To-x.From).toNat:Nat)):Rat)=((((x.To-x.From).toNat:Nat):Int):Rat) from rfl];congr 1;omega);rw[<-e2,e1];rfl
   have dif:sm x.Table.length (fun k=>(((x.Table.getD k default).Ticks:Int):Rat)-((cnA (fun i=>L.getD i 0) (x.Table.getD k default).Stage (x.To-x.From).toNat:Nat):Rat))=0:=by rw[Sy,tot,all];grind
   obtain⟨k,hk⟩:=Cj.1 ha;have fK:=(A8.1 hk).1
   have each:=Oa (fun j hj=>by
    obtain⟨b,hb⟩:=AQ hj;rw[show x.Table.getD j default=b by simp[List.getD,hb]];have h1:=h b.Stage;rw[aQ b (AG hb),Oj,hL]at h1;have:(((cnA (fun i=>L.getD i 0) b.Stage (x.To-x.From).toNat:Nat):Int):Rat)<=((b.Ticks:Int):Rat):=Rat.intCast_le_intCast.2 h1;have e3:(((cnA (fun i=>L.getD i 0) b.Stage (x.To-x.From).toNat:Nat):Int):Rat)=((cnA (fun i=>L.getD i 0) b.Stage (x.To-x.From).toNat:Nat):Rat):=rfl;rw[e3]at this
    grind) dif k fK
   rw[show x.Table.getD k default=a by simp[List.getD,hk]]at each;rw[<-Hw]
   grind
  ·rintro⟨hf,hc⟩ s;by_cases h:∃h,h∈x.Table/\h.Stage=s
   ·obtain⟨a,ha,rfl⟩:=h;rw[aQ a ha,Oj,hL];have:=hc a ha;rw[<-Hw]at this;have e3:(((cnA (fun i=>L.getD i 0) a.Stage (x.To-x.From).toNat:Nat):Int):Rat)=((a.Ticks:Int):Rat):=this;have:=Rat.intCast_inj.1 e3;omega
   ·rw[hout s fun a ha e=>h ⟨a,ha,e⟩,SQ fun hm=>?_];·exact HE _
    ·obtain⟨i,hi⟩:=Cj.1 hm;obtain⟨a,ha,e⟩:=hf i (by have:=(A8.1 hi).1;omega);have e:L.getD i 0=a.Stage:=e;rw[show L.getD i 0=s by simp[List.getD,hi]]at e;exact h ⟨a,ha,e.symm⟩
structure AgH(l:List Al)(h:AD):Prop where
 runs:CV l
 his:hisR h
 nil:l=[]->h.Stages=[]
 fr:∀x,l[0]?=some x->h.From=x.From
 to:∀x,l[l.length-1]?=some x->h.From+(h.Stages.length:Int)=x.To
 ag:AgT l (atT h.Stages h.From)
theorem Ol:Ga s=0↔s.length<=400/\(∀x,x∈s->BL x)/\∀k x y,s[k]?=some x->s[k+1]?=some y->x.To<=y.From:=by
 unfold Ga;by_cases h:400<s.length
 ·rw[Aj h];exact⟨(fun e=>by cases e),fun e=>by omega⟩
 rw[Ag h];cases hs:scan (spnF s) 0 s with
 |some o =>
  obtain⟨i,x,h1,h2⟩:=DO 0 s o hs;rw[Bn]at h2;unfold spnF at h2;split at h2
  ·cases h2
  ·rename_i hn;cases h2;refine⟨(fun e=>by cases e),fun⟨_,a,b⟩=>?_⟩;exfalso;refine hn ⟨a x (AG h1),fun h0=>?_⟩;obtain⟨p,hp⟩:=AQ (l:=s) (k:=i-1) (by have:=(A8.1 h1).1;omega);have:=b (i-1) p x hp (by rw[show i-1+1=i by omega];exact h1);rw[E7,hp];exact this
 |none =>
  refine⟨fun _=>⟨by omega,fun x hx=>?_,fun k x y hx hy=>?_⟩,fun _=>rfl⟩
  ·obtain⟨i,hi⟩:=Cj.1 hx;have:=Fj 0 s hs i x hi;unfold spnF at this;split at this
   ·rename_i h1;exact h1.1
   ·cases this
  ·have:=Fj 0 s hs (k+1) y hy;unfold spnF at this;split at this
   ·rename_i h1;have:=h1.2 (by omega);rw[show 0+(k+1)-1=k by omega,E7,hx]at this;exact this
   ·cases this
theorem SU(h:Ga s=0):SpR s:=by obtain⟨h1,h2,h3⟩:=Ol.1 h;exact⟨h1,fun x hx=>⟨(h2 x hx).1,(h2 x hx).2.1,(h2 x hx).2.2.1⟩,h3⟩
structure BndR(l:List Al)(s:List An):Prop where
 run:CV l
 spn:Ga s=0
 fit:∀a b,s[0]?=some a->s[s.length-1]?=some b->∃x y,l[0]?=some x/\l[l.length-1]?=some y/\x.From<=a.From/\b.To<=y.To
theorem qzu6(hl:l.length<=1000000)(ht:∀x,x∈l->x.Table.length<=1000000)(hs:LSz s):∃e,GT l s=some e/\(e=0↔BndR l s):=by
 unfold GT;obtain⟨e,he,hr⟩:=qzux hl ht;rw[he,Ab];by_cases hz:e=0;rotate_left
 ·rw[BJ hz];exact⟨e,rfl,⟨fun h=>absurd h hz,fun B=>absurd (hr.2 B.run) hz⟩⟩
 have R:=hr.1 hz;rw[Bl hz,qzu3 hs,Ab];by_cases hc:Ga s=0;rotate_left
 ·rw[BJ hc];exact⟨Ga s,rfl,⟨fun h=>absurd h hc,fun B=>absurd B.spn hc⟩⟩
 rw[Bl hc];have jJ:=(Ol.1 hc).1;by_cases h0:0<s.length;rotate_left
 ·have hd:decide (0<(s.length:Int))=false:=A9 (by omega);rw[hd];refine⟨0,rfl,⟨fun _=>⟨R,hc,fun a b ha=>?_⟩,fun _=>rfl⟩⟩;have:=(A8.1 ha).1;omega
 have hd:decide (0<(s.length:Int))=true:=AC (by omega);rw[hd];obtain⟨a,ha⟩:=AQ h0;obtain⟨b,hb⟩:=AQ (l:=s) (k:=s.length-1) (by omega);cases l with
 |nil =>refine⟨19,rfl,⟨(fun h=>by cases h),fun B=>?_⟩⟩;obtain⟨x,y,hx,_⟩:=B.fit a b ha hb;simp at hx
 |cons r l =>
  have aI:¬((r :: l).length:Int)=0:=by simp only[Bk];omega
  rw[A9 aI];simp only[Td,E5,Bv,BO,Cg];rw[show at? s 0=some a from at_e (n:=0) rfl ha,Ab,show at? (r :: l) 0=some r from rfl,Ab];by_cases h1:a.From<r.From
  ·rw[AC h1];refine⟨19,rfl,⟨(fun h=>by cases h),fun B=>?_⟩⟩;obtain⟨x,y,hx,_,h3,_⟩:=B.fit a b ha hb;cases hx;omega
  ·rw[A9 h1];obtain⟨z,dy⟩:=AQ (l:=r :: l) (k:=(r :: l).length-1) (by simp);simp only[E5,Bv,BO];rw[ck_t (by simp[As];omega),at_e (n:=s.length-1) (by omega) hb,Ab,ck_t (by simp only[Bk]at hl |-;simp[As];omega),at_e (n:=(r :: l).length-1) (by simp only[Bk];omega) dy,Ab];by_cases h2:z.To<b.To
   ·rw[AC h2];refine⟨19,rfl,⟨(fun h=>by cases h),fun B=>?_⟩⟩;obtain⟨x,y,hx,hy,h3,h4⟩:=B.fit a b ha hb;rw[dy]at hy;cases hy;omega
   ·rw[A9 h2];refine⟨0,rfl,⟨fun _=>⟨R,hc,fun a' b' gN bg=>?_⟩,fun _=>rfl⟩⟩;rw[ha]at gN;rw[hb]at bg;cases gN;cases bg;exact⟨r,z,rfl,dy,by omega,by omega⟩
theorem BndR.inn(B:BndR l s){y:Al}(hx:l[0]?=some x)(hy:l[l.length-1]?=some y):∀t,t∈s->x.From<=t.From/\t.To<=y.To:=fun t ht=>by
 have H:=SU B.spn;obtain⟨i,hi⟩:=Cj.1 ht;have iz:=(A8.1 hi).1;obtain⟨a,ha⟩:=AQ (l:=s) (k:=0) (by omega);obtain⟨b,hb⟩:=AQ (l:=s) (k:=s.length-1) (by omega);obtain⟨x',y',bN,nv,h1,h2⟩:=B.fit a b ha hb;rw[hx]at bN;rw[hy]at nv;cases bN;cases nv
 have p1:a.From<=t.From:=by
  by_cases h:i=0
  ·subst h;rw[ha]at hi;cases hi;omega
  ·have:=H.far (i-1) 0 a t ha (by rw[show 0+(i-1+1)=i by omega];exact hi);have:=(H.sp a (AG ha)).2.1;omega
 have p2:t.To<=b.To:=by
  by_cases h:i=s.length-1
  ·subst h;rw[hb]at hi;cases hi;omega
  ·have:=H.far (s.length-1-i-1) i t b hi (by rw[show i+(s.length-1-i-1+1)=s.length-1 by omega];exact hb);have:=(H.sp b (AG hb)).2.1;omega
 omega
def mS(g:Int->Rat):List (Int×Int)->Rat
 |[]=>0
 |p :: m=>(p.2:Rat)*g p.1+mS g m
theorem wzoo{g:Int->Rat}{m':List (Int×Int)}(h:m'.Perm m):mS g m'=mS g m:=by
 induction h with
 |nil=>rfl
 |cons x _ ih=>simp only[mS,ih]
 |swap x y l=>simp only[mS];grind
 |trans _ _ a b=>exact a.trans b
theorem wzgv(g:Int->Rat)(s:Int):∀m:List (Int×Int),mS g (mput keqI m s (Option.getD (mget keqI m s) 0+1))=mS g m+g s
 |[]=>by show(((0:Int)+1:Int):Rat)*g s+0=0+g s;have:(((0:Int)+1:Int):Rat)=1:=rfl;rw[this];grind
 |p :: m=>by
  have ih:=wzgv g s m;by_cases h:s=p.1
  ·have hq:keqI s p.1=true:=AC h;have e1:mget keqI (p :: m) s=some p.2:=by show(match keqI s p.1 with | true=>some p.2 | false=>mget keqI m s)=_;rw[hq]
   have e2:∀b,mput keqI (p :: m) s b=(s,b) :: m:=fun b=>by show(match keqI s p.1 with | true=>(s,b) :: m | false=>p :: mput keqI m s b)=_;rw[hq]
   rw[e1,e2];show((p.2+1:Int):Rat)*g s+mS g m=(p.2:Rat)*g p.1+mS g m+g s;rw[<-h,Rat.intCast_add];have:((1:Int):Rat)=1:=rfl;rw[this];grind
  ·have hq:keqI s p.1=false:=A9 h;have e1:mget keqI (p :: m) s=mget keqI m s:=by show(match keqI s p.1 with | true=>some p.2 | false=>mget keqI m s)=_;rw[hq]
   have e2:∀b,mput keqI (p :: m) s b=p :: mput keqI m s b:=fun b=>by show(match keqI s p.1 with | true=>(s,b) :: m | false=>p :: mput keqI m s b)=_;rw[hq]
   rw[e1,e2];show(p.2:Rat)*g p.1+mS g (mput keqI m s _)=(p.2:Rat)*g p.1+mS g m+g s;rw[ih];grind
structure CntB(n:Nat)(m:List (Int×Int)):Prop where
 len:m.length<=n
 ent:∀p,p∈m->(0<=p.1/\p.1<=1000)/\0<=p.2/\p.2<=n
theorem wzki{s:Int}:∀p,p∈mput keqI m s b->p=(s,b)\/p∈m:=by
 induction m with
 |nil=>intro p hp;exact .inl (B3.1 hp)
 |cons q m ih =>
  intro p hp;cases hq:keqI s q.1
  ·have e2:mput keqI (q :: m) s b=q :: mput keqI m s b:=by show(match keqI s q.1 with | true=>(s,b) :: m | false=>q :: mput keqI m s b)=_;rw[hq]
   rw[e2]at hp;rcases AV.1 hp with rfl|hp
   ·exact .inr (AS ..)
   ·exact(ih p hp).imp id (AR _)
  ·have e2:mput keqI (q :: m) s b=(s,b) :: m:=by show(match keqI s q.1 with | true=>(s,b) :: m | false=>q :: mput keqI m s b)=_;rw[hq]
   rw[e2]at hp;exact(AV.1 hp).imp id (AR _)
theorem wzi4{s:Int}:(mput keqI m s b).length<=m.length+1:=by
 induction m with
 |nil=>exact AA _
 |cons q m ih =>
  cases hq:keqI s q.1
  ·have e2:mput keqI (q :: m) s b=q :: mput keqI m s b:=by show(match keqI s q.1 with | true=>(s,b) :: m | false=>q :: mput keqI m s b)=_;rw[hq]
   rw[e2];simp only[Bk];omega
  ·have e2:mput keqI (q :: m) s b=(s,b) :: m:=by show(match keqI s q.1 with | true=>(s,b) :: m | false=>q :: mput keqI m s b)=_;rw[hq]
   rw[e2];simp only[Bk];omega
theorem wzpv{s:Int}(h:mget keqI m s=some v):(s,v)∈m:=by
 induction m with
 |nil=>cases h
 |cons q m ih =>
  cases hq:keqI s q.1
  ·have e1:mget keqI (q :: m) s=mget keqI m s:=by show(match keqI s q.1 with | true=>some q.2 | false=>mget keqI m s)=_;rw[hq]
   rw[e1]at h;exact AR _ (ih h)
  ·have e1:mget keqI (q :: m) s=some q.2:=by show(match keqI s q.1 with | true=>some q.2 | false=>mget keqI m s)=_;rw[hq]
   rw[e1]at h;have:s=q.1:=BC hq;cases h;rw[this];exact AS ..
theorem wzh6(H:CntB n m){s:Int}(hs:0<=s/\s<=1000):(0<=Option.getD (mget keqI m s) 0/\Option.getD (mget keqI m s) 0<=n)/\CntB (n+1) (mput keqI m s (Option.getD (mget keqI m s) 0+1)):=by
 have hg:0<=Option.getD (mget keqI m s) 0/\Option.getD (mget keqI m s) 0<=n:=by
  cases e:mget keqI m s with
  |none=>exact⟨HE _,by show(0:Int)<=n;omega⟩
  |some v=>exact(H.ent _ (wzpv e)).2
 have hl:=H.len;refine⟨hg,⟨AU wzi4 (by omega),fun p hp=>?_⟩⟩;rcases wzki p hp with rfl|hp
 ·exact⟨hs,by dsimp only;omega,by dsimp only;omega⟩
 ·obtain⟨a,b,c⟩:=H.ent p hp;exact⟨a,b,by omega⟩
theorem qz5b(g:Int->Rat):∀(L:List Int) (m:List (Int×Int)) (n:Nat),CntB n m->(∀s,s∈L->0<=s/\s<=1000)->n+L.length<=1000000 -> ∃m',F6 L m=some m'/\CntB (n+L.length) m'/\mS g m'=mS g m+sQ (L.map g)
 |[],m,n,H,_,_=>⟨m,rfl,H,by show _=mS g m+0;grind⟩
 |s :: L,m,n,H,hs,hn=>by
  obtain⟨h1,h2⟩:=wzh6 H (hs s (AS ..));have hl:n+1+L.length<=1000000:=by simp at hn;omega
  obtain⟨m',e1,e2,e3⟩:=qz5b g L _ (n+1) h2 (fun t ht=>hs t (AR _ ht)) hl;refine⟨m',?_,?_,?_⟩
  ·unfold F6;rw[A0 (by omega)];exact e1
  ·rw[show n+(s :: L).length=n+1+L.length by simp;omega];exact e2
  ·rw[e3,wzgv];show mS g m+g s+sQ (L.map g)=mS g m+(g s+sQ (L.map g))
   grind
structure SW(s:An)(A:Nat)(g:Int->Rat):Prop where
 eq:∀st,0<=st->st<=1000->D1 s st=some (rof (g st))/\Sz A (rof (g st))
theorem SX{s:An}{A:Nat}{g:Int->Rat}(hR:SW s A g)(hA:1<=A/\A<=8388608):∀(m:List (Int×Int)) (q:Rat) (k:Nat),(∀p,p∈m->(0<=p.1/\p.1<=1000)/\0<=p.2/\p.2<=1000000)->Sz k (rof q)->1<=k->k+m.length*(A+10)<=2147483648 ->
  B7 s m (rof q)=some (rof (q+mS g m))/\Sz (k+m.length*(A+10)) (rof (q+mS g m))
 |[],q,k,_,hk,_,_=>by
  have e:q+mS g []=q:=by show q+0=q;grind
  rw[e];exact⟨rfl,hk.mono (by simp)⟩
 |p :: m,q,k,hm,hk,k1,hb=>by
  obtain⟨⟨a1,a2⟩,b1,b2⟩:=hm p (AS ..);have hl:(p :: m).length*(A+10)=m.length*(A+10)+(A+10):=by rw[Bk,BR]
  rw[hl]at hb;obtain⟨i1,i2⟩:=Rh (n:=p.2) (by omega) (by omega);obtain⟨r1,r2⟩:=hR.eq p.1 a1 a2;obtain⟨m1,m2⟩:=K9 i2 r2 (by omega) (by omega) (by omega) (by omega);rw[Cq,Cq]at m1 m2;obtain⟨s1,s2⟩:=K8 hk m2 (by omega) (by omega) (by omega) (by omega);rw[Cq,Cq]at s1 s2;obtain⟨t1,t2⟩:=SX hR hA m (q+(p.2:Rat)*g p.1) (k+(8+A+1)+1) (fun p hp=>hm p (AR _ hp)) s2 (by omega) (by omega);have e:q+mS g (p :: m)=q+(p.2:Rat)*g p.1+mS g m:=by show q+((p.2:Rat)*g p.1+mS g m)=_;grind
  rw[e];refine⟨?_,t2.mono (by omega)⟩;unfold B7;rw[i1,Ab,r1,Ab,m1,Ab,s1,Ab];exact t1
theorem qz06{α:Type}{x:α}:∀{l m:List α},m∈insA x l->m.Perm (x :: l)
 |[],m,h=>by rw[B3.1 h]
 |y :: l,m,h=>by
  rcases AV.1 h with rfl|h
  ·exact .refl _
  ·obtain⟨z,hz,rfl⟩:=CE.1 h;exact((qz06 hz).cons y).trans (.swap x y l)
theorem qzwr{α:Type}:∀{l m:List α},m∈JT l->m.Perm l
 |[],m,h=>by rw[B3.1 h]
 |x :: l,m,h=>by obtain⟨z,hz,hm⟩:=List.mem_flatMap.1 h;exact(qz06 hm).trans ((qzwr hz).cons x)
theorem wzj1(a:Af):eqR (some a) (some a)=true:=by simp[eqR]
theorem wzjb{s:An}{A:Nat}{g:Int->Rat}(hR:SW s A g)(hA:1<=A/\A<=8388608)(hm:∀p,p∈m->(0<=p.1/\p.1<=1000)/\0<=p.2/\p.2<=1000000)(hk:Sz k (rof q))(k1:1<=k)(hb:k+m.length*(A+10)<=2147483648) :
  F5 s m (rof q)=some (rof (q+mS g m))/\Sz (k+m.length*(A+10)) (rof (q+mS g m)):=by
 obtain⟨t1,t2⟩:=SX hR hA m q k hm hk k1 hb;refine⟨?_,t2⟩;unfold F5;rw[Da.2 fun m' hp=>?_]
 ·exact t1
 ·have hp:=qzwr hp;obtain⟨u1,_⟩:=SX hR hA m' q k (fun p pA=>hm p (hp.mem_iff.1 pA)) hk k1 (by rw[hp.length_eq];exact hb);rw[u1,t1,wzoo hp,wzj1]
def rwR(a b s:Int):Al:=⟨a,b,[⟨s,b-a⟩],0,0⟩
theorem qz9l{a s:Int}(h:-1000000000000<=a/\a<=1000000000000/\-1000000000000<=b/\b<=1000000000000):Eb a b s=some (rwR a b s):=by unfold Eb;rw[A0 (by omega)];rfl
theorem wzpz{a s c d u:Int}(h:0<=a/\a<=1402560/\0<=d/\d<=1402560):∃p,GB (rwR a b s) (rwR c d u)=some p/\(p.2=true->p.1=rwR a d s):=by
 unfold GB;have r1:∀x y z:Int,Mh (rwR x y z)=some true:=fun x y z=>rfl;have g1:∀x y z:Int,FD (rwR x y z)=some false:=fun x y z=>rfl;rw[r1,r1,g1];simp only[Ab,Bv,Cg];rw[at_e (j:=0) (n:=0) rfl (show(rwR a b s).Table[0]?=some ⟨s,b-a⟩ from rfl),at_e (j:=0) (n:=0) rfl (show(rwR c d u).Table[0]?=some ⟨u,d-c⟩ from rfl)];simp only[Ab];by_cases e:s=u
 ·rw[it_d e];rw[show Eb (rwR a b s).From (rwR c d u).To s=some (rwR a d s) from qz9l (by show _<=a/\a<=_/\_<=d/\d<=_;omega)];exact⟨_,rfl,fun _=>rfl⟩
 ·rw[it_n e];simp only[Be,Ab,BO,Dp];exact⟨_,rfl,fun h=>by cases h⟩
def RwO(out:List Al):Prop:=∀x,x∈out->∃a b s,x=rwR a b s/\0<=a/\a<=1402560
theorem wzdz{f:Int}(hf:0<=f):∀(l:List Int) (k:Int) (out:List Al),0<=k->f+k+l.length<=1402560->RwO out->∃o,ofL f k l out=some o/\o.length<=out.length+l.length
 |[],k,out,_,_,_=>⟨out,rfl,by simp⟩
 |s :: l,k,out,hk,hb,ho=>by
  have hb:f+k+l.length+1<=1402560:=by simp at hb;omega
  have hh:Eb (f+k) (f+k+1) s=some (rwR (f+k) (f+k+1) s):=qz9l (by omega)
  have key:∃o1,GC out (rwR (f+k) (f+k+1) s)=some o1/\RwO o1/\o1.length<=out.length+1:=by
   have hx:∃a b t,rwR (f+k) (f+k+1) s=rwR a b t/\0<=a/\a<=1402560:=⟨_,_,_,rfl,by omega,by omega⟩;rcases List.eq_nil_or_concat out with rfl|⟨m,a,rfl⟩
   ·exact⟨[_],rfl,fun x bN=>by rw[B3.1 bN];exact hx,by simp⟩
   ·rw[List.concat_eq_append]at *;obtain⟨a1,b1,s1,rfl,q1,q2⟩:=ho a (by simp);obtain⟨p,hp,gp⟩:=wzpz (a:=a1) (b:=b1) (s:=s1) (c:=f+k) (d:=f+k+1) (u:=s) (by omega);refine⟨bif p.2 then m++[p.1] else m++[rwR a1 b1 s1]++[rwR (f+k) (f+k+1) s],?_,?_,?_⟩
    ·unfold GC;rw[List.getLast?_concat];simp only;rw[hp,Ab,List.dropLast_concat]
    ·cases h2:p.2
     ·intro x bN;simp only[BO,List.append_assoc,CD,B3,AV,Oy,O0]at bN;rcases bN with bN|rfl|rfl
      ·exact ho x (by simp[bN])
      ·exact⟨_,_,_,rfl,q1,q2⟩
      ·exact hx
     ·intro x bN;simp only[Cg,CD,B3]at bN;rcases bN with bN|rfl
      ·exact ho x (by simp[bN])
      ·rw[gp h2];exact⟨_,_,_,rfl,q1,q2⟩
    ·cases p.2<;>simp
  obtain⟨o1,e1,e2,e3⟩:=key;obtain⟨o,e4,e5⟩:=wzdz hf l (k+1) o1 (by omega) (by omega) e2;refine⟨o,?_,by simp;omega⟩;unfold ofL;rw[ck_t (by simp[As];omega),hh,Ab,e1,Ab];exact e4
theorem qz22(hh:hisR h)(hn:h.Stages.length<=200):∃o,F4 h=some (o,0):=by unfold F4;rw[qzup h,AC hh];simp only[Ab,E6,Dp];obtain⟨h1,h2,h3,h4⟩:=hh;obtain⟨o,e1,e2⟩:=wzdz h1 h.Stages 0 [] (by omega) (by omega) (fun x hx=>by cases hx);rw[e1,Ab,it_n (by simp at e2;omega)];exact⟨o,rfl⟩
def segS(h:AD)(s:An):List Int:=sub h.Stages (s.From-h.From) (s.To-h.From)
def tkN:List An->Nat
 |[]=>0
 |s :: l=>(s.To-s.From).toNat+tkN l
theorem qz6q{s:An}(h1:h.From<=s.From)(h2:s.From<s.To)(h3:s.To<=h.From+(h.Stages.length:Int)):(segS h s).length=(s.To-s.From).toNat:=by unfold segS sub;rw[Gf,H7];omega
theorem wznx{h:AD}(hh:hisR h){A:Nat}(hA:1<=A/\A<=8388608):∀(l:List An) (q:Rat) (k:Nat),(∀s,s∈l->SW s A (rtS s)/\h.From<=s.From/\s.From<s.To/\s.To<=h.From+(h.Stages.length:Int))->Sz k (rof q)->1<=k->k+tkN l*(A+10)<=2147483648 ->
  vaL h l (rof q)=some (rof (q+sQ (l.map fun s=>sQ ((segS h s).map (rtS s)))),0)/\Sz (k+tkN l*(A+10)) (rof (q+sQ (l.map fun s=>sQ ((segS h s).map (rtS s)))))
 |[],q,k,_,hk,_,_=>by
  have e:q+sQ ([].map fun s:An=>sQ ((segS h s).map (rtS s)))=q:=by show q+0=q;grind
  rw[e];exact⟨rfl,hk.mono (Nat.le_add_right _ _)⟩
 |s :: l,q,k,hl,hk,k1,hb=>by
  obtain⟨h1,h2,h3,h4⟩:=hh;obtain⟨r,g1,g2,g3⟩:=hl s (AS ..);have aL:∀t,t∈segS h s->0<=t/\t<=1000:=fun t ht=>h4 t (Gca (List.mem_of_mem_take ht));have aE:=qz6q g1 g2 g3;obtain⟨m,e1,e2,e3⟩:=qz5b (rtS s) (segS h s) [] 0 ⟨by simp,fun p hp=>by cases hp⟩ aL (by rw[aE];omega);rw[aE,Bn]at e2;have e3:mS (rtS s) m=sQ ((segS h s).map (rtS s)):=by rw[e3];show 0+_=_;grind
  have ee:=e2.len;have gH:m.length*(A+10)<=(s.To-s.From).toNat*(A+10):=Bd _ ee;have hb:k+((s.To-s.From).toNat+tkN l)*(A+10)<=2147483648:=hb;rw[AT]at hb;obtain⟨a1,a2⟩:=wzjb r hA (m:=m) (q:=q) (k:=k) (fun p hp=>by obtain⟨x,y,z⟩:=e2.ent p hp;exact⟨x,y,by omega⟩) hk k1 (by omega);rw[e3]at a1 a2;obtain⟨ih,zih⟩:=wznx ⟨h1,h2,h3,h4⟩ hA l _ (k+(s.To-s.From).toNat*(A+10)) (fun s hs=>hl s (AR _ hs)) (a2.mono (by omega)) (by omega) (by omega)
  have eq:q+sQ ((s :: l).map fun s=>sQ ((segS h s).map (rtS s)))=q+sQ ((segS h s).map (rtS s))+sQ (l.map fun s=>sQ ((segS h s).map (rtS s))):=by
   show q+(_+_)=q+_+_
   grind
  rw[eq];refine⟨?_,zih.mono ?_⟩
  ·unfold vaL;rw[A0 (by omega),it_f (by simp;omega),ck_t (by simp[As,CC];omega)];show(bd (F6 (segS h s) []) _)=_;rw[e1,Ab,a1,Ab,ih]
  ·show _<=k+((s.To-s.From).toNat+tkN l)*(A+10);rw[AT,<-Fu];exact AA _
theorem SpR.tail{s:An}{l:List An}(H:SpR (s :: l)):SpR l:=⟨by have:=H.len;simp only[Bk]at this;omega,fun x hx=>H.sp x (AR _ hx),fun k x y hx hy=>H.asc (k+1) x y (by simpa using hx) (by simpa using hy)⟩
theorem wzet:∀{l:List An} {a b:Int},SpR l->a<=b->(∀x,x∈l->a<=x.From/\x.To<=b)->(tkN l:Int)<=b-a
 |[],a,b,_,h,_=>by show((0:Nat):Int)<=_;omega
 |s :: l,a,b,H,h,hx=>by
  have h1:=hx s (AS ..);have h2:=H.sp s (AS ..);have:=wzet (l:=l) (a:=s.To) (b:=b) H.tail (by omega) fun x hm=>by obtain⟨i,hi⟩:=Cj.1 hm;have:=H.far i 0 s x rfl (by rw[Bn];simpa using hi);exact⟨this,(hx x (AR _ hm)).2⟩
  show(((s.To-s.From).toNat+tkN l:Nat):Int)<=b-a;omega
theorem Lg(f:Nat->Rat)(m:Nat):∀n,sm (m+n) f=sm m f+sm n (fun i=>f (m+i))
 |0=>by show sm m f=sm m f+0;grind
 |n+1=>by show sm (m+n) f+f (m+n)=sm m f+(sm n _+f (m+n));rw[Lg f m n];grind
theorem wzhr{f:Nat->Rat}{j0:Nat}(h0:j0<n)(h:∀j,j<n->j≠j0->f j=0):sm n f=f j0:=by obtain⟨d,hd⟩:∃d,n=(j0+1)+d:=⟨n-(j0+1),by omega⟩;subst hd;rw[Lg,Bf (n:=d) (g:=fun _=>0) fun i hi=>h _ (by omega) (by omega),DN];show sm j0 f+f j0+0=f j0;rw[Bf (g:=fun _=>0) fun i hi=>h i (by omega) (by omega),DN];grind
theorem wzrq(ψ:Int->Rat){s:An}(h1:h.From<=s.From)(h2:s.From<s.To)(h3:s.To<=h.From+(h.Stages.length:Int)) :
  sQ ((segS h s).map ψ)=sm h.Stages.length (fun i=>if inS s (h.From+(i:Int)) then ψ (h.Stages.getD i 0) else 0):=by
 rw[Hy,qz6q h1 h2 h3];obtain⟨a,ha⟩:∃a:Nat,s.From-h.From=a:=⟨(s.From-h.From).toNat,by omega⟩;obtain⟨n,hn⟩:∃n:Nat,s.To-s.From=n:=⟨(s.To-s.From).toNat,by omega⟩;obtain⟨c,hc⟩:∃c:Nat,h.Stages.length=a+(n+c):=⟨h.Stages.length-a-n,by omega⟩;rw[hc,Lg,Lg,show(s.To-s.From).toNat=n by omega];rw[Bf (n:=a) (g:=fun _=>0) fun i hi=>Ag (fun e=>by unfold inS at e;omega),Bf (n:=c) (g:=fun _=>0) fun i hi=>Ag (fun e=>by unfold inS at e;omega),DN,DN];rw[Bf (n:=n) (f:=fun i=>if inS s (h.From+((a+i:Nat):Int)) then ψ (h.Stages.getD (a+i) 0) else 0) (g:=fun b=>ψ ((segS h s).getD b default)) fun i hi=>?_]
 ·grind
 ·rw[Aj (by unfold inS;omega)];congr 1;unfold segS sub;rw[E7,E7,List.getElem?_take_of_lt (by omega),Ge,show(s.From-h.From).toNat+i=a+i by omega];rfl
theorem qz70{α:Type}(f:α->Nat->Rat)(N:Nat):∀l:List α,sQ (l.map fun s=>sm N (f s))=sm N (fun i=>sQ (l.map fun s=>f s i))
 |[]=>(DN N).symm
 |s :: l=>by show sm N (f s)+sQ (l.map _)=sm N (fun i=>f s i+sQ (l.map fun s=>f s i));rw[qz70 f N l,E2]
theorem wzsd(H:SpR s)(t v:Int):sQ (s.map fun x=>if inS x t then rtS x v else 0)=rtC s false (atC s t) v:=by
 rw[Hy];rcases SJ (l:=s) (t:=t) with ⟨h1,h2⟩|⟨j,x,h1,h2,h3⟩
 ·rw[h1,Bf (g:=fun _=>0) fun i hi=>?_,DN];·unfold rtC;rw[Aj (by decide)]
  ·obtain⟨y,hy⟩:=AQ hi;rw[show s.getD i default=y by simp[List.getD,hy]];exact Ag (h2 y (AG hy))
 ·rw[h3,wzhr (j0:=j) (A8.1 h1).1 fun i hi aI=>?_];·rw[show s.getD j default=x by simp[List.getD,h1],Aj h2];unfold rtC;rw[Ag (by omega),show((j:Int)).toNat=j by omega,show s.getD j default=x by simp[List.getD,h1]];rfl
  ·obtain⟨y,hy⟩:=AQ hi;rw[show s.getD i default=y by simp[List.getD,hy]];refine Ag fun e=>aI ?_;have:=(SK H hy).2 e;omega
theorem qz8i{s:List An}{tu:Bool}{g:Int->Int}:∀{l:List Al} {a b:Int},ChR a l b->cstT s tu l g=sm (b-a).toNat (fun i=>rtC s tu (atC s (a+(i:Int))) (g (a+(i:Int))))
 |[],a,b,h=>by have h:a=b:=h;rw[show(b-a).toNat=0 by omega];rfl
 |r :: l,a,b,h=>by obtain⟨R,rfl,hc⟩:=h;have h1:=R.fr;have h2:=hc.le;rw[show(b-r.From).toNat=(r.To-r.From).toNat+(b-r.To).toNat by omega,Lg];show cst s tu r.From _ _+cstT s tu l g=_;rw[qz8i hc];congr 1;refine Bf fun i hi=>?_;rw[show r.From+(((r.To-r.From).toNat+i:Nat):Int)=r.To+(i:Int) by omega]
theorem wzkb(B:BndR l s)(hs:LSz s)(hT:∀x y,l[0]?=some x->l[l.length-1]?=some y->y.To-x.From<=100)(A:AgH l h):GD h s=some (rof (cstT s false l (atT h.Stages h.From)),0)/\Sz 2147483648 (rof (cstT s false l (atT h.Stages h.From))):=by
 have H:=SU B.spn;obtain⟨_,dq,_⟩:=Ol.1 B.spn;unfold GD;rw[qzu3 hs,B.spn,Ab,Bl rfl];cases l with
 |nil =>
  have hn:=A.nil rfl
  have pB:s=[]:=by
   cases s with
   |nil=>rfl
   |cons a s =>obtain⟨b,hb⟩:=AQ (l:=a :: s) (k:=(a :: s).length-1) (by simp);obtain⟨x,y,hx,_⟩:=B.fit a b rfl hb;simp at hx
  subst pB;obtain⟨o,e⟩:=qz22 A.his (by rw[hn];simp);rw[e,Ab,Bl rfl,show Af.mk false [] []=rof 0 from Dt.symm];exact⟨rfl,by show Sz _ (rof 0);rw[Dt];exact Sz.zero _⟩
 |cons r l =>
  obtain⟨z,dy,hc⟩:=Lc (l:=l) (x:=r) B.run.run B.run.nxt;have h0:(r :: l)[(r :: l).length-1]?=some z:=by simpa using dy
  have dr:=A.fr r rfl;have qg:=A.to z h0;have mi:=hT r z rfl h0;have aQ:=B.inn (x:=r) (y:=z) rfl h0;obtain⟨o,e⟩:=qz22 A.his (by omega);rw[e,Ab,Bl rfl,show Af.mk false [] []=rof 0 from Dt.symm];have aC:=hc.le;have gv:=wzet (b:=z.To) H aC aQ;have gH:tkN s*(5242881+10)<=100*(5242881+10):=Bd _ (by omega);obtain⟨w1,w2⟩:=wznx A.his (A:=5242881) (by omega) s 0 1 (fun x hx=>by have h1:=aQ x hx;have h2:=(H.sp x hx).2.1;exact⟨⟨fun st a b=>SB (hs.sz x hx) (dq x hx) ⟨a,b⟩⟩,by omega,h2,by omega⟩) (by rw[Dt];exact Sz.zero _) (by omega) (by omega)
  have key:(0:Rat)+sQ (s.map fun x=>sQ ((segS h x).map (rtS x)))=cstT s false (r :: l) (atT h.Stages h.From):=by
   rw[qz8i hc];have e1:s.map (fun x=>sQ ((segS h x).map (rtS x)))=s.map fun x=>sm h.Stages.length (fun i=>if inS x (h.From+(i:Int)) then rtS x (h.Stages.getD i 0) else 0):=H8 fun x hx=>by have h1:=aQ x hx;have h2:=(H.sp x hx).2.1;exact wzrq (rtS x) (by omega) h2 (by omega)
   rw[e1,qz70,show(z.To-r.From).toNat=h.Stages.length by omega];have e2:(0:Rat)+sm h.Stages.length (fun i=>sQ (s.map fun x=>if inS x (h.From+(i:Int)) then rtS x (h.Stages.getD i 0) else 0))=sm h.Stages.length (fun i=>sQ (s.map fun x=>if inS x (h.From+(i:Int)) then rtS x (h.Stages.getD i 0) else 0)):=by grind
   rw[e2];refine Bf fun i hi=>?_;rw[wzsd H,dr];congr 1;unfold atT;rw[show(r.From+(i:Int)-r.From).toNat=i by omega]
  rw[key]at w1 w2;exact⟨w1,w2.mono (by omega)⟩
theorem Om:GU=some true:=by decide +kernel
theorem wzj2(s:List An)(k v:Int):rtC s true k v = -(rtC s false k v):=by
 unfold rtC;split
 ·grind
 ·rfl
theorem wze5(f:Nat->Rat):∀n,sm n (fun i=>-(f i)) = -(sm n f)
 |0=>by show(0:Rat) = -0;grind
 |n+1=>by show sm n _+-(f n) = -(sm n f+f n);rw[wze5 f n];grind
theorem SY(s:List An)(g:Int->Int):∀l:List Al,cstT s true l g = -(cstT s false l g)
 |[]=>by show(0:Rat) = -0;grind
 |r :: l=>by
  show cst s true r.From _ _+cstT s true l g = -(cst s false r.From _ _+cstT s false l g);rw[SY s g l];have:∀n f,cst s true r.From n f = -(cst s false r.From n f):=fun n f=>by unfold cst;rw[<-wze5];exact Bf fun i _=>wzj2 s _ _
  rw[this];grind
structure Ends(l:List Al)(s:List An)(a b:Rat)(g h:AD):Prop where
 least:MK l s=some (rof a,g,0)
 most:ML l s=some (rof b,h,0)
 za:Sz 4718610010 (rof a)
 zb:Sz 4718610010 (rof b)
 ea:EndE s false l g a
 eb:EndE s true l h (-b)
theorem wzqk{t:Int}(ht:t<=100)(F:FewS l s t)(B:BndR l s):∃a b g h,Ends l s a b g h:=by
 have H:=SU B.spn;obtain⟨s400,dq,_⟩:=Ol.1 B.spn;have hz:∀x,x∈s->SSz x/\BL x:=fun x hx=>⟨F.sz.sz x hx,dq x hx⟩;have hT:∀x y,l[0]?=some x->l[l.length-1]?=some y->y.To-x.From<=100:=fun x y hx hy=>by have:=F.tot B.run x y hx hy;omega
 obtain⟨e,he,hr⟩:=qzu6 (l:=l) (s:=s) (by have:=F.len;omega) (fun x hx=>by have:=F.tab x hx;omega) F.sz;obtain rfl:=hr.2 B;obtain⟨V,g,f1,f2,f3⟩:=wzg0 H (F.spn s400) hz false B.run F.tab hT;obtain⟨W,h,f4,f5,f6⟩:=wzg0 H (F.spn s400) hz true B.run F.tab hT;refine⟨V,-W,g,h,⟨?_,?_,f2,f5,f3,?_⟩⟩
 ·unfold MK;rw[he,Ab,Bl rfl,f1,Ab];rfl
 ·unfold ML;rw[he,Ab,Bl rfl,f4,Ab];rfl
 ·rw[show -(-W)=W by grind];exact f6
theorem Ends.int{a b:Rat}{g:AD}(E:Ends l s a b g h):MM l s=some (⟨rof a,rof b⟩,0):=by unfold MM;rw[E.least,Ab,E.most,Ab];rfl
theorem Ends.mid{a b:Rat}{g:AD}(E:Ends l s a b g h){x:Int->Int}(hx:AgT l x):a<=cstT s false l x/\cstT s false l x<=b:=by have h1:=E.ea.le x hx;have h2:=E.eb.le x hx;rw[SY]at h2;exact⟨h1,by grind⟩
theorem EndE.agh{V:Rat}(E:EndE s tu l h V)(R:CV l):AgH l h:=by
 refine⟨R,?_,fun hl=>by rw[(E.nil hl).1],E.fr,E.to,E.ag⟩;cases l with
 |nil=>rw[(E.nil rfl).1];exact⟨by decide,by decide,by decide,fun s h=>by cases h⟩
 |cons r l =>obtain⟨y,hy⟩:=AQ (l:=r :: l) (k:=(r :: l).length-1) (by simp);have h1:=E.fr r rfl;have h2:=E.to y hy;have h3:=R.all r y rfl hy;have h4:=(R.run r (AS ..)).fr;have h5:=(R.run y (AG hy)).fr;exact⟨by omega,by omega,by omega,E.st⟩
theorem wzxm(R:CV l)(h:l.length≠0):∃x z,l[0]?=some x/\l[l.length-1]?=some z/\ChR x.From l z.To:=by
 cases l with
 |nil=>exact absurd rfl h
 |cons r l =>obtain⟨z,hz,hc⟩:=Lc (l:=l) (x:=r) R.run R.nxt;exact⟨r,z,rfl,by simpa using hz,hc⟩
theorem wz15(s v:Int):∀L:List Int,cntL s (L++[v])=cntL s L+if v=s then 1 else 0
 |[]=>by show(if v=s then 1 else 0)+0=0+_;omega
 |w :: L=>by show(if w=s then 1 else 0)+cntL s (L++[v])=(if w=s then 1 else 0)+cntL s L+_;rw[wz15 s v L];omega
theorem wz2d(s:Int):∀L:List Int,cntL s L<=L.length
 |[]=>AA _
 |w :: L=>by have:=wz2d s L;show(if w=s then 1 else 0)+cntL s L<=L.length+1;split<;>omega
theorem wz2l(hl:L.length<=1000000)(s:Int):Mo L s=some (cntL s L:Int):=by
 unfold Mo
 suffices e:lp (Mn L s) (0,0)=some (cntL s L:Int) by rw[e,Ab]
 refine NY (fun k=>((cntL s (L.take k):Int),(k:Int))) L.length (by omega) (fun k hk=>?_) ?_ rfl
 ·obtain⟨v,hv⟩:=AQ hk;have:=wz2d s (L.take k);rw[Gf]at this;simp only[Mn];rw[it_d (by omega),at_e rfl hv,Ab,List.take_add_one,hv,Option.toList_some,wz15];by_cases h:v=s
  ·rw[it_d h,Aj h,A0 (by omega),A0 (by omega)];rfl
  ·rw[it_n h,Ag h,A0 (by omega)];rfl
 ·simp only[Mn];rw[it_n (by omega),List.take_length]
theorem wz2y(hl:T.length<=1000000)(hn:(T.map (·.Stage)).Nodup)(s:Int):Mq T s=some (rem (tabM T []) s):=by
 unfold Mq
 have e0:lp (Mp s T) 0=some (sOut (scan (fun _ (h:AM)=>if h.Stage=s then some h.Ticks else none) 0 T)):=by
  refine CS _ (by omega) (fun k h e=>?_) ?_
  ·have hk:=(A8.1 e).1;simp only[Mp];rw[it_d (by omega),at_e rfl e,Ab];by_cases hs:h.Stage=s
   ·rw[it_d hs,Aj hs,Ab]
   ·rw[it_n hs,Ag hs,A0 (by omega)]
  ·simp only[Mp];rw[it_n (by omega)]
 rw[e0,Ab];cases e:scan (fun _ (h:AM)=>if h.Stage=s then some h.Ticks else none) 0 T with
 |some o =>
  obtain⟨i,h,h1,h2⟩:=DO 0 T o e;by_cases hs:h.Stage=s
  ·rw[Aj hs]at h2;cases h2;subst hs;rw[Le T [] h hn (AG h1)];rfl
  ·rw[Ag hs]at h2;cases h2
 |none =>
  rw[Ld T [] s fun h hh=>?_]
  ·rfl
  ·obtain⟨i,hi⟩:=Cj.1 hh;have:=Hu e hi;intro hs;rw[Aj hs]at this;cases this
def okV(x:Al)(L:List Int)(v:Int):Prop:=if x.Table=[] then x.Lo<=v/\v<=x.Hi else(cntL v L:Int)=rem (tabM x.Table []) v
theorem SZ(X:RunR x)(s:Int):0<=rem (tabM x.Table []) s:=by
 by_cases hs:∃a,a∈x.Table/\a.Stage=s
 ·obtain⟨a,ha,rfl⟩:=hs;rcases X.tb with ⟨h1,_⟩|⟨h1,_⟩
  ·rw[h1]at ha;cases ha
  ·rw[Le _ _ a h1.nodup ha];have:=h1.st a ha;omega
 ·rw[Ld _ _ s fun a ha e=>hs ⟨a,ha,e⟩];exact HE _
theorem wz22(X:RunR x)(hL:L.length=(x.To-x.From).toNat):(∀v,v∈L->okV x L v)↔AgR x (x.To-x.From).toNat (fun i=>L.getD i 0):=by
 rw[<-wzr2 X hL];by_cases ht:x.Table=[]
 ·rw[SS ht];exact forall_congr' fun v=>forall_congr' fun _=>by unfold okV;rw[Aj ht]
 ·have TB:TabR x.Table (x.To-x.From):=by
   rcases X.tb with ⟨h,_⟩|⟨h,_⟩
   ·exact absurd h ht
   ·exact h
  rw[Lf ht L _ (SZ X)];refine⟨fun h s=>?_,fun h v hv=>?_⟩
  ·by_cases hs:s∈L;·have:=h s hs;unfold okV at this;rw[Ag ht]at this;omega
   ·have:=SZ X s;rw[SQ hs];omega
  ·unfold okV;rw[Ag ht];have A:=(wzr2 X hL).1 ((Lf ht L _ (SZ X)).2 h);unfold AgR at A;rw[Ag ht]at A;obtain⟨i,hi⟩:=Cj.1 hv;obtain⟨a,ha,e⟩:=A.1 i (by have:=(A8.1 hi).1;omega);have e:L.getD i 0=a.Stage:=e;rw[show L.getD i 0=v by simp[List.getD,hi]]at e;have c:=A.2 a ha;rw[<-Hw]at c;have e3:(((cnA (fun i=>L.getD i 0) a.Stage (x.To-x.From).toNat:Nat):Int):Rat)=((a.Ticks:Int):Rat):=c;have:=Rat.intCast_inj.1 e3;rw[e,Le _ _ a TB.nodup ha,Oj,hL];exact this
theorem wz13(R:CV l)(hl:l.length<=1000000)(ht:∀x,x∈l->x.Table.length<=1000000)(hs:h.Stages.length<=1048576):∃b,Ei l h=some b/\(b=true↔AgH l h):=by
 unfold Ei;obtain⟨e,he,hr⟩:=qz7i hl ht;obtain rfl:=hr.2 R;rw[wz2c hs,Ab,he,Ab];by_cases hh:hisR h;rotate_left
 ·rw[A9 hh];exact⟨false,rfl,⟨(fun h=>by cases h),fun A=>absurd A.his hh⟩⟩
 rw[AC hh];show ∃b,(ite' false _ _)=some b/\_;rw[Dp];cases l with
 |nil =>
  refine⟨decide ((h.Stages.length:Int)=0),rfl,⟨fun hd=>?_,fun A=>?_⟩⟩
  ·have:=BC hd;exact⟨R,hh,fun _=>Li (by omega),(fun x hx=>by simp at hx),(fun x hx=>by simp at hx),fun r hr=>by cases hr⟩
  ·rw[A.nil rfl];rfl
 |cons r0 l =>
  obtain⟨z,dy,hc⟩:=Lc (l:=l) (x:=r0) R.run R.nxt;have h0:(r0 :: l)[(r0 :: l).length-1]?=some z:=by simpa using dy
  have qh:=hh.2.1;have qi:=hh.1;have pC:=hh.2.2.1;rw[it_n (by simp only[Bk];omega),show at? (r0 :: l) 0=some r0 from rfl,Ab];by_cases hf:h.From=r0.From;rotate_left
  ·rw[A9 hf];exact⟨false,rfl,⟨(fun h=>by cases h),fun A=>absurd (A.fr r0 rfl) hf⟩⟩
  rw[AC hf,ck_t (by simp[As];omega),ck_t (by simp only[Bk]at hl |-;simp[As];omega)];show ∃b,(bd (gd true (at? (r0 :: l) _)) _)=some b/\_;rw[Bv,at_e (n:=(r0 :: l).length-1) (by simp only[Bk];omega) h0,Ab];by_cases hn:h.From+(h.Stages.length:Int)=z.To;rotate_left
  ·rw[A9 hn];exact⟨false,rfl,⟨(fun h=>by cases h),fun A=>absurd (A.to z h0) hn⟩⟩
  rw[AC hn];show ∃b,(ite' false _ _)=some b/\_;rw[Dp]
  have seg:∀x,x∈r0 :: l->∃L,sub h.Stages (x.From-h.From) (x.To-h.From)=L/\L.length=(x.To-x.From).toNat/\∀i,i<(x.To-x.From).toNat->L.getD i 0=atT h.Stages h.From (x.From+(i:Int)):=fun x hx=>by
   obtain⟨X,x1,x2⟩:=hc.mem x hx;have:=X.fr;refine⟨_,rfl,?_,fun i hi=>?_⟩
   ·unfold sub;rw[Gf,H7];omega
   ·unfold sub atT;rw[E7,E7,List.getElem?_take_of_lt (by omega),Ge];congr 2;omega
  open Classical in
  let f:Nat->Al->Option Bool:=fun _ x=>if AgR x (x.To-x.From).toNat (fun i=>atT h.Stages h.From (x.From+(i:Int))) then none else some false
  have fT:∀k x,AgR x (x.To-x.From).toNat (fun i=>atT h.Stages h.From (x.From+(i:Int)))->f k x=none:=fun k x hA=>Aj hA;have fF:∀k x,¬AgR x (x.To-x.From).toNat (fun i=>atT h.Stages h.From (x.From+(i:Int)))->f k x=some false:=fun k x hA=>Ag hA
  clear_value f
  have e0:lp (Mx h (r0 :: l)) 0=some (sOut (scan f 0 (r0 :: l))):=by
   refine CS f (by omega) (fun k x e=>?_) ?_
   ·have hk:=(A8.1 e).1;have hx:=AG e;obtain⟨X,x1,x2⟩:=hc.mem x hx;have qj:=X.fr;obtain⟨L,s1,s2,s3⟩:=seg x hx;simp only[Mx];rw[it_d (by omega),at_e rfl e,Ab,A0 (by omega),A0 (by omega),DC (by omega)]
    have e2:∃g:Nat->Int->Option Bool,(∀i v,okV x L v->g i v=none)/\(∀i v,¬okV x L v->g i v=some false)/\lp (Mw h x) 0=some (sOut (scan g 0 L)):=by
     open Classical in
     refine⟨fun _ v=>if okV x L v then none else some false,fun i v h=>Aj h,fun i v h=>Ag h,CS _ (by omega) (fun i v hv=>?_) ?_⟩
     ·have hi:=(A8.1 hv).1;simp only[Mw,s1];rw[it_d (by omega)];by_cases hT:x.Table=[]
      ·have d1:decide ((List.length x.Table:Int)=0)=true:=(by rw[hT];rfl);have d2:decide (0<(List.length x.Table:Int))=false:=(by rw[hT];rfl);rw[d1,d2,Bv,at_e rfl hv,Ab];unfold okV;by_cases c1:v<x.Lo
       ·rw[AC c1];show(bd (gd false _) _)=_;rw[Be,Ab,Aj hT,Ag (by omega)];rfl
       ·rw[A9 c1];show(bd (gd true _) _)=_;rw[Bv,Ab,Aj hT];by_cases c2:x.Hi<v
        ·rw[AC c2,Ag (by omega)];rfl
        ·rw[A9 c2,Aj (by omega)];simp only[Cg,BO,Dp,Be,Ab];rw[A0 (by omega)]
      ·have hp:0<x.Table.length:=List.length_pos_iff.2 hT
       have TB:TabR x.Table (x.To-x.From):=by
        rcases X.tb with ⟨h,_⟩|⟨h,_⟩
        ·exact absurd h hT
        ·exact h
       rw[A9 (show ¬(List.length x.Table:Int)=0 by omega),AC (show 0<(List.length x.Table:Int) by omega)];simp only[Be,Bv,Ab,Gam,BO,Cg,Dp];rw[at_e rfl hv];simp only[Ab];rw[wz2l (by omega),wz2y (ht x hx) TB.nodup];simp only[Ab];unfold okV;rw[Ag hT];by_cases c1:(cntL v L:Int)=rem (tabM x.Table []) v
       ·rw[Bl c1,Aj c1,A0 (by omega)]
       ·rw[BJ c1,Ag c1]
     ·simp only[Mw,s1];rw[it_n (by omega)]
    obtain⟨g,g1,g2,g3⟩:=e2;rw[g3,Ab];have iff1:(∀v,v∈L->okV x L v)↔AgR x (x.To-x.From).toNat (fun i=>atT h.Stages h.From (x.From+(i:Int))):=by rw[wz22 X s2];exact⟨fun A=>A.congr s3,fun A=>A.congr fun i hi=>(s3 i hi).symm⟩
    cases e4:scan g 0 L with
    |none =>
     rw[fT k x (iff1.1 fun v hv=>by
      obtain⟨i,hi⟩:=Cj.1 hv;have:=Hu e4 hi
      false_or_by_contra
      rename_i aI;rw[g2 i v aI]at this;cases this)]
     simp only[sOut];rw[A0 (by omega)]
    |some o =>
     obtain⟨i,v,v1,v2⟩:=DO 0 L o e4;have eL:¬okV x L v:=fun h=>by rw[g1 _ _ h]at v2;cases v2
     rw[g2 _ _ eL]at v2;cases v2;rw[fF k x fun A=>eL (iff1.2 A v (AG v1))];simp only[sOut]
   ·simp only[Mx];rw[it_n (by omega)]
  rw[e0,Ab];cases e1:scan f 0 (r0 :: l) with
  |none =>
   refine⟨true,rfl,⟨fun _=>⟨R,hh,(fun h=>by cases h),(fun x hx=>by cases hx;exact hf),(fun x hx=>by rw[h0]at hx;cases hx;exact hn),fun x hx=>?_⟩,fun _=>rfl⟩⟩;obtain⟨i,hi⟩:=Cj.1 hx;have:=Hu e1 hi
   false_or_by_contra
   rename_i aI;rw[fF _ _ aI]at this;cases this
  |some o =>
   obtain⟨i,x,v1,v2⟩:=DO 0 (r0 :: l) o e1;have eL:¬AgR x (x.To-x.From).toNat (fun i=>atT h.Stages h.From (x.From+(i:Int))):=fun h=>by rw[fT _ _ h]at v2;cases v2
   rw[fF _ _ eL]at v2;cases v2;exact⟨false,rfl,⟨(fun h=>by cases h),fun A=>absurd (A.ag x (AG v1)) eL⟩⟩
theorem wz2f{l:List Al}(R:CV l)(hl:l.length<=1000000)(ht:∀x,x∈l->x.Table.length<=1000000){x z:Al}(hx:l[0]?=some x)(hz:l[l.length-1]?=some z)(hT:z.To-x.From<=6):∀(d m:Nat) (p:List Int),d<m->x.From+(p.length:Int)+(d:Int)=z.To->(∀v,v∈p->0<=v/\v<4) -> ∃r,BI m l ⟨x.From,p⟩ 4=some r/\r.length<=4 ^ d/\(∀g,g∈r->AgH l g)/\∀q:List Int,q.length=d->(∀v,v∈q->0<=v/\v<4)->AgH l ⟨x.From,p++q⟩->(⟨x.From,p++q⟩:AD)∈r
 |d,0,p,hm,_,_=>absurd hm (J7 _)
 |0,m+1,p,_,hd,hp=>by
  have gg:=(A8.1 hx).1;have fx:=(R.run x (AG hx)).fr;have fz:=(R.run z (AG hz)).fr;obtain⟨b,e,hb⟩:=wz13 R hl ht (h:=⟨x.From,p⟩) (by simp only;omega);unfold BI;simp only;rw[ck_t (by simp[As];omega),A9 (show ¬(List.length l:Int)=0 by omega)];simp only[E5,Bv,BO];rw[at_e (n:=l.length-1) (by omega) hz,Ab,it_d (by omega),e,Ab];refine⟨_,rfl,by cases b<;>simp,fun g hg=>?_,fun q hq _ A=>?_⟩
  ·cases b with
   |false=>cases hg
   |true=>rw[B3.1 hg];exact hb.1 rfl
  ·obtain rfl:=Li hq;rw[List.append_nil]at A |-;obtain rfl:=hb.2 A;exact B3.2 rfl
 |d+1,m+1,p,hm,hd,hp=>by
  have gg:=(A8.1 hx).1;have fx:=(R.run x (AG hx)).fr;have fz:=(R.run z (AG hz)).fr;unfold BI;simp only;rw[ck_t (by simp[As];omega),A9 (show ¬(List.length l:Int)=0 by omega)];simp only[E5,Bv,BO];rw[at_e (n:=l.length-1) (by omega) hz,Ab,it_n (by omega)];have mj:4 ^ d<=4 ^ 6:=Cl (by decide) (by omega);have mj:4 ^ d<=4096:=mj
  obtain⟨r,e,h1,h2,h3⟩:=Cv (body:=folL (fun h=>BI m l h 4) ⟨x.From,p⟩ 4) (s:=(0,[])) (fun s=>∃k:Nat,s.1=(k:Int)/\k<=4/\s.2.length<=k*4 ^ d/\(∀g,g∈s.2->AgH l g)/\∀(v:Int) (q:List Int),0<=v->v<k->q.length=d->(∀v,v∈q->0<=v/\v<4)->AgH l ⟨x.From,p++v :: q⟩->(⟨x.From,p++v :: q⟩:AD)∈s.2) (fun s=>(4-s.1).toNat) (fun r=>r.length<=4*4 ^ d/\(∀g,g∈r->AgH l g)/\∀(v:Int) (q:List Int),0<=v->v<4->q.length=d->(∀v,v∈q->0<=v/\v<4)->AgH l ⟨x.From,p++v :: q⟩->(⟨x.From,p++v :: q⟩:AD)∈r) (by
   rintro⟨_,out⟩ ⟨k,rfl,hk,c1,c2,c3⟩;simp only at c1 c2 c3;simp only[folL];by_cases h4:k<4;rotate_left
   ·obtain rfl:k=4:=by omega
    exact .inr ⟨out,by rw[it_n (by omega)],c1,c2,c3⟩
   obtain⟨r,e,h1,h2,h3⟩:=wz2f R hl ht hx hz hT d m (p++[(k:Int)]) (by omega) (by rw[Db,Dz];omega) (fun v hv=>by
    rcases CD.1 hv with h|h
    ·exact hp v h
    ·rw[B3.1 h];omega)
   have qk:k*4 ^ d<=4*4096:=Nat.mul_le_mul (by omega) mj;refine .inl ⟨((k:Int)+1,out++r),?_,⟨k+1,by simp,by omega,?_,fun g hg=>?_,fun v q v0 v1 hq jU A=>?_⟩,by simp only;omega⟩
   ·rw[it_d (by omega),e,Ab,ck_t (by simp[As];omega)]
   ·rw[Db,BR];omega
   ·rcases CD.1 hg with h|h;·exact c2 g h
    ·exact h2 g h
   ·simp only;by_cases ev:v=k
    ·subst ev;have:=h3 q hq jU (by rw[List.append_assoc];exact A);rw[List.append_assoc]at this;exact CD.2 (.inr this)
    ·exact CD.2 (.inl (c3 v q v0 (by omega) hq jU A))) ⟨0,rfl,by omega,by simp,(fun g hg=>by cases hg),(fun v q v0 v1=>by omega)⟩ (by simp only;omega)
  refine⟨r,e,by rw[Dd];omega,h2,fun q hq jU A=>?_⟩;cases q with
  |nil=>cases hq
  |cons v q =>obtain⟨v0,v1⟩:=jU v (AS ..);exact h3 v q v0 v1 (by simpa using hq) (fun w hw=>jU w (AR _ hw)) A
theorem wz2z(R:CV l)(hl:l.length<=1000000)(ht:∀x,x∈l->x.Table.length<=1000000)(hT:∀x z,l[0]?=some x->l[l.length-1]?=some z->z.To-x.From<=6):∃r,M5 l 4=some r/\r.length<=4096/\(∀g,g∈r->AgH l g)/\∀g,AgH l g->(l=[]->g.From=0)->(∀v,v∈g.Stages->0<=v/\v<4)->g∈r:=by
 unfold M5 PI;by_cases h0:0<l.length
 ·obtain⟨x,hx⟩:=AQ h0;obtain⟨z,hz⟩:=AQ (l:=l) (k:=l.length-1) (by omega);obtain⟨x',z',bN,ez,hc⟩:=wzxm R (by omega);rw[hx]at bN;cases bN;rw[hz]at ez;cases ez;have aC:=hc.le;have h6:=hT x z hx hz;obtain⟨r,e,h1,h2,h3⟩:=wz2f R hl ht hx hz h6 (z.To-x.From).toNat 64 [] (by omega) (by simp;omega) (fun v hv=>by cases hv);rw[it_d (by omega),show at? l 0=some x from at_e (n:=0) rfl hx,Ab,Ab,e,Ab];refine⟨r,rfl,?_,h2,fun g A _ hv=>?_⟩
  ·have:4 ^ (z.To-x.From).toNat<=4 ^ 6:=Cl (by decide) (by omega);have:4 ^ (z.To-x.From).toNat<=4096:=this;omega
  ·have f1:=A.fr x hx;have f2:=A.to z hz;obtain⟨gf,gs⟩:=g;simp only at f1 f2 hv;subst f1;exact h3 gs (by omega) hv A
 ·obtain rfl:=Li (show l.length=0 by omega);obtain⟨b,e,hb⟩:=wz13 R hl ht (h:=⟨0,[]⟩) (by simp);obtain rfl:=hb.2 ⟨R,⟨by decide,by decide,by decide,fun s h=>by cases h⟩,fun _=>rfl,(fun x h=>by cases h),(fun x h=>by cases h),fun r h=>by cases h⟩;have e2:BI 64 [] ⟨0,[]⟩ 4=some [⟨0,[]⟩]:=by unfold BI;simp only;rw[ck_t (by rfl),AC (show((([]:List Al).length:Nat):Int)=0 from rfl)];simp only[E6,Be,Ab,Cg];rw[Em,e,Ab];rfl
  rw[it_n (by simp),Ab,e2,Ab];refine⟨_,rfl,by simp,fun g hg=>by rw[B3.1 hg];exact hb.1 rfl,fun g A h1 _=>?_⟩;obtain⟨gf,gs⟩:=g;have e1:gs=[]:=A.nil rfl;have e2:gf=0:=h1 rfl;subst e1 e2;exact B3.2 rfl
theorem ChR.cover:∀{l:List Al} {a b:Int},ChR a l b->∀t,a<=t->t<b->∃r,r∈l/\r.From<=t/\t<r.To
 |[],a,b,h,t,h1,h2=>by have h:a=b:=h;omega
 |x :: l,a,b,h,t,h1,h2=>by
  by_cases ht:t<x.To
  ·exact⟨x,AS ..,by have:=h.2.1;omega,ht⟩
  ·obtain⟨r,hr,r1,r2⟩:=ChR.cover h.2.2 t (by omega) h2;exact⟨r,AR _ hr,r1,r2⟩
theorem wz2a(A:AgH l h)(hs:∀x,x∈l->x.Hi<=3/\∀a,x.Table[x.Table.length-1]?=some a->a.Stage<=3):∀v,v∈h.Stages->0<=v/\v<4:=fun v hv=>by
 obtain⟨i,hi⟩:=Cj.1 hv;have iz:=(A8.1 hi).1;have v0:=(A.his.2.2.2 v hv).1;by_cases h0:l=[]
 ·rw[A.nil h0]at hv;cases hv
 obtain⟨x,z,hx,hz,hc⟩:=wzxm A.runs (fun e=>h0 (Li e));have f1:=A.fr x hx;have f2:=A.to z hz;obtain⟨r,hr,r1,r2⟩:=hc.cover (h.From+(i:Int)) (by omega) (by omega);have a1:=A.ag r hr;obtain⟨s1,s2⟩:=hs r hr;have e:atT h.Stages h.From (r.From+((h.From+(i:Int)-r.From).toNat:Int))=v:=by unfold atT;rw[show(r.From+((h.From+(i:Int)-r.From).toNat:Int)-h.From).toNat=i by omega,E7,hi];rfl
 refine⟨v0,?_⟩;unfold AgR at a1;split at a1
 ·have:=(a1 (h.From+(i:Int)-r.From).toNat (by omega)).2;simp only[e]at this;omega
 ·rename_i hT;obtain⟨a,ha,ea⟩:=a1.1 (h.From+(i:Int)-r.From).toNat (by omega);simp only[e]at ea;obtain⟨k,hk⟩:=Cj.1 ha;have fK:=(A8.1 hk).1;obtain⟨y,hy⟩:=AQ (l:=r.Table) (k:=r.Table.length-1) (by omega);have y3:=s2 y hy;rcases(A.runs.run r hr).tb with ⟨h,_⟩|⟨TB,_⟩
  ·exact absurd h hT
  ·by_cases ek:k=r.Table.length-1;·rw[ek,hy]at hk;cases hk;omega
   ·have:=TB.far (r.Table.length-1-k-1) k a y hk (by rw[show k+(r.Table.length-1-k-1+1)=r.Table.length-1 by omega];exact hy);omega
structure LG(c:AD->Rat)(r:List AD)(k:Nat)(V W:Rat):Prop where
 lo:∃g,g∈r/\V=c g
 hi:∃g,g∈r/\W=c g
 all:∀(j:Nat) g,j<k->r[j]?=some g->V<=c g/\c g<=W
theorem wz20(l:List Al)(s:List An):Q1 l s=some true:=by
 unfold Q1;obtain⟨b,e,hb⟩:=wzk9 l s 6;have bad:(bd GU fun r=>some r)=some true:=by rw[Om];rfl
 rw[e,Ab];cases b with
 |false=>exact bad
 |true =>
  obtain⟨F,_⟩:=hb rfl;have jV:l.length<=1000000:=by have:=F.len;omega
  have dB:∀x,x∈l->x.Table.length<=1000000:=fun x hx=>by have:=F.tab x hx;omega
  obtain⟨e1,he,hr⟩:=qzu6 jV dB F.sz;simp only[E6,E5,Bv,he,Ab,BO];by_cases hz:e1=0;rotate_left
  ·rw[BJ hz];exact bad
  rw[Bl hz];have B:=hr.1 hz
  obtain⟨o,e2,ho⟩:=Cv (body:=Qz l) (s:=(0:Int)) (fun t=>∃j:Nat,t=(j:Int)/\j<=l.length/\∀i x,i<j->l[i]?=some x->x.Hi<=3/\∀a,x.Table[x.Table.length-1]?=some a->a.Stage<=3) (fun t=>(l.length-t).toNat) (fun o=>o=.inr true\/(o=.inl ()/\∀x,x∈l->x.Hi<=3/\∀a,x.Table[x.Table.length-1]?=some a->a.Stage<=3)) (by
   rintro _ ⟨j,rfl,hj,hI⟩;simp only[Qz];by_cases hlt:j<l.length;rotate_left
   ·rw[it_n (by omega)];refine .inr ⟨_,rfl,.inr ⟨rfl,fun x hx=>?_⟩⟩;obtain⟨i,hi⟩:=Cj.1 hx;exact hI i x (by have:=(A8.1 hi).1;omega) hi
   obtain⟨x,hx⟩:=AQ hlt;have ql:=dB x (AG hx);rw[it_d (by omega),at_e rfl hx,Ab];by_cases h3:3<x.Hi
   ·rw[AC h3];simp only[E6,Gam,E5,Bool.true_or,Be,Ab,Cg];rw[ck_t (by rfl),Em,Om,Ab];exact .inr ⟨_,rfl,.inl rfl⟩
   ·rw[A9 h3];simp only[E5,Td,BO];by_cases hT:0<x.Table.length
    ·obtain⟨y,hy⟩:=AQ (l:=x.Table) (k:=x.Table.length-1) (by omega);rw[AC (show 0<(x.Table.length:Int) by omega),ck_t (by simp[As];omega),Bv,at_e (n:=x.Table.length-1) (by omega) hy,Ab];simp only[Cg];by_cases nw:3<y.Stage
     ·rw[it_d nw,Om,Ab];exact .inr ⟨_,rfl,.inl rfl⟩
     ·rw[it_n nw,A0 (by omega)];refine .inl ⟨_,rfl,⟨j+1,by omega,by omega,fun i z hi hz=>?_⟩,by omega⟩;by_cases ei:i=j
      ·subst ei;rw[hx]at hz;cases hz;exact⟨by omega,fun a ha=>by rw[hy]at ha;cases ha;omega⟩
      ·exact hI i z (by omega) hz
    ·rw[A9 (show ¬0<(x.Table.length:Int) by omega),ck_t (by rfl),Be,Ab];simp only[BO];rw[Dp,A0 (by omega)];refine .inl ⟨_,rfl,⟨j+1,by omega,by omega,fun i z hi hz=>?_⟩,by omega⟩;by_cases ei:i=j
     ·subst ei;rw[hx]at hz;cases hz;exact⟨by omega,fun a ha=>by have:=(A8.1 ha).1;omega⟩
     ·exact hI i z (by omega) hz) ⟨0,rfl,by omega,fun i x hi=>absurd hi (J7 _)⟩ (by omega)
  rw[e2,Ab];rcases ho with rfl|⟨rfl,hs⟩
  ·rfl
  simp only;obtain⟨p,q,g1,g2,E⟩:=wzqk (by omega) F B;have hT:∀x y,l[0]?=some x->l[l.length-1]?=some y->y.To-x.From<=6:=fun x y hx hy=>F.tot B.run x y hx hy;have pD:∀x y,l[0]?=some x->l[l.length-1]?=some y->y.To-x.From<=100:=fun x y hx hy=>by have:=hT x y hx hy;omega
  obtain⟨r,er,r1,r2,r3⟩:=wz2z B.run jV dB hT;have A1:=E.ea.agh B.run;have A2:=E.eb.agh B.run;have m1:=r3 g1 A1 (fun h=>by rw[(E.ea.nil h).1]) (wz2a A1 hs);have m2:=r3 g2 A2 (fun h=>by rw[(E.eb.nil h).1]) (wz2a A2 hs);have k1:cstT s false l (atT g1.Stages g1.From)=p:=E.ea.eq
  have k2:cstT s false l (atT g2.Stages g2.From)=q:=by
   have:=E.eb.eq;rw[SY]at this
   grind
  rw[E.int,Ab,er,Ab]
  have key:=Cv (body:=Q0 r s) (s:=(0,⟨false,[],[]⟩,⟨false,[],[]⟩)) (fun t=>∃k:Nat,t.1=(k:Int)/\k<=r.length/\(0<k->∃V W,t.2=(rof V,rof W)/\Sz 2147483648 (rof V)/\Sz 2147483648 (rof W)/\LG (fun g=>cstT s false l (atT g.Stages g.From)) r k V W)) (fun t=>(r.length-t.1).toNat) (fun o=>o=.inl (rof p,rof q)) (by
   rintro⟨_,b2,b3⟩ ⟨k,rfl,hk,hI⟩;simp only at hI;simp only[Q0];by_cases hlt:k<r.length;rotate_left
   ·obtain rfl:k=r.length:=by omega
    rw[it_n (by omega)];obtain⟨V,W,e,_,_,L⟩:=hI (List.length_pos_of_mem m1);refine .inr ⟨_,rfl,?_⟩;obtain⟨i1,q1⟩:=Cj.1 m1;obtain⟨i2,q2⟩:=Cj.1 m2;have u1:=(L.all i1 g1 (A8.1 q1).1 q1).1;have u2:=(L.all i2 g2 (A8.1 q2).1 q2).2;obtain⟨a,a1,a2⟩:=L.lo;obtain⟨c,c1,c2⟩:=L.hi;have w1:=(E.mid (r2 a a1).ag).1;have w2:=(E.mid (r2 c c1).ag).2;have ev:V=p:=by grind
    have ew:W=q:=(by grind);rw[<-ev,<-ew];have e:(b2,b3)=(rof V,rof W):=e;rw[e]
   obtain⟨g,hg⟩:=AQ hlt;obtain⟨v1,v2⟩:=wzkb B F.sz pD (r2 g (AG hg));have ky:=AG hg;generalize hc:cstT s false l (atT g.Stages g.From)=c at v1 v2;rw[it_d (by omega),at_e rfl hg,Ab,v1,Ab,Bl rfl]
   have step:∀V W,Sz 2147483648 (rof V)->Sz 2147483648 (rof W)->(∃g,g∈r/\V=cstT s false l (atT g.Stages g.From))->(∃g,g∈r/\W=cstT s false l (atT g.Stages g.From))->(∀(j:Nat) g,j<k->r[j]?=some g->V<=cstT s false l (atT g.Stages g.From)/\cstT s false l (atT g.Stages g.From)<=W) -> ∃t:Int×Af×Af,(bd (Kq (rof V) (rof c)) fun r8=>bd (Kr (rof W) (rof c)) fun r9=>ck (As .i64 ((k:Int)+1)) (some (.inl ((k:Int)+1,r8,r9)):Option ((Int×Af×Af)⊕((Af×Af)⊕Bool))))=some (.inl t)/\(∃k':Nat,t.1=(k':Int)/\k'<=r.length/\(0<k'->∃V W,t.2=(rof V,rof W)/\Sz 2147483648 (rof V)/\Sz 2147483648 (rof W)/\LG (fun g=>cstT s false l (atT g.Stages g.From)) r k' V W))/\(r.length-t.1).toNat<(r.length-(k:Int)).toNat:=fun V W zV zW hV hW hA=>by
    obtain⟨n1,n2⟩:=wz2k zV v2 (by omega) (by omega) (by omega) (by omega);obtain⟨x1,x2⟩:=wz2i zW v2 (by omega) (by omega) (by omega) (by omega);rw[Cq,Cq]at n1 n2 x1 x2;refine⟨((k:Int)+1,rof (minQ V c),rof (maxQ W c)),?_,⟨k+1,by simp,by omega,fun _=>⟨_,_,rfl,n2.mono (by omega),x2.mono (by omega),?_,?_,fun j y hj hy=>?_⟩⟩,by simp only;omega⟩
    ·rw[n1,Ab,x1,Ab,A0 (by omega)]
    ·unfold minQ;split
     ·exact hV
     ·exact⟨g,ky,hc.symm⟩
    ·unfold maxQ;split
     ·exact hW
     ·exact⟨g,ky,hc.symm⟩
    ·by_cases ej:j=k;·subst ej;rw[hg]at hy;cases hy;simp only[hc];unfold minQ maxQ;constructor<;>split<;>grind
     ·obtain⟨a1,a2⟩:=hA j y (by omega) hy;unfold minQ maxQ;constructor<;>split<;>grind
   by_cases k0:k=0
   ·subst k0;rw[it_d (by simp),Ab];obtain⟨t,t1,t2⟩:=step c c v2 v2 ⟨g,ky,hc.symm⟩ ⟨g,ky,hc.symm⟩ fun j y hj=>absurd hj (J7 _);exact .inl ⟨t,t1,t2⟩
   ·rw[it_n (by omega),Ab];obtain⟨V,W,e,zV,zW,L⟩:=hI (by omega);cases e;obtain⟨t,t1,t2⟩:=step V W zV zW L.lo L.hi L.all;exact .inl ⟨t,t1,t2⟩) ⟨0,rfl,by omega,fun h=>absurd h (Nat.lt_irrefl _)⟩ (by simp only;omega)
  obtain⟨o,e3,rfl⟩:=key;rw[e3,Ab];simp only;rw[Om,Ab];simp
end
end Go.Am

