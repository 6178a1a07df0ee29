/- Part U2: the mathematics of the functions of this seat. No condition. -/
import Derived.Test.YtjlgleghnenojaaDoorU1
set_option linter.unusedSimpArgs false
set_option linter.unusedVariables false
namespace Go.Am
def hsum:List wz2w->Int
 |[]=>0
 |h :: t=>h.Ticks+hsum t
structure kzpe(t:List wz2w):Prop where
 ne:t≠[]
 st:∀h∈t,0<=h.Stage/\h.Stage<=1000
 tk:∀h∈t,1<=h.Ticks
 asc:t.Pairwise fun a b=>a.Stage<b.Stage
structure kzh8(x:wz3g):Prop where
 a:0<=x.From
 b:x.From<x.To
 c:x.To<=1402560
 t:kzpe x.Table
 s:hsum x.Table=x.To-x.From
 l:x.Lo=0
 h:x.Hi=0
theorem kzjx:∀{t:List wz2w},(∀h∈t,1<=h.Ticks)->(t.length:Int)<=hsum t
 |[],_=>Gaw _
 |h :: t,H=>by have h1:=H h (Gb5 ..);have h2:=kzjx (t:=t) fun x hx=>H x (Gb4 _ hx);simp only[hsum,Gbr];omega
theorem kzmf:∀(t u:List wz2w),hsum (t++u)=hsum t+hsum u
 |[],u=>by simp[hsum]
 |h :: t,u=>by simp only[hsum,Ga1];rw[kzmf t u];omega
theorem kzn2:∀{t:List wz2w},(∀h∈t,1<=h.Ticks)->∀h∈t,h.Ticks<=hsum t
 |k :: t,H,h,hm=>by
  have h2:=kzjx (t:=t) fun x hx=>H x (Gb4 _ hx);have h1:=H k (Gb5 ..);rcases Gb3.1 hm with rfl|hm
  ·simp only[hsum];omega
  ·have:=kzn2 (t:=t) (fun x hx=>H x (Gb4 _ hx)) h hm;simp only[hsum];omega
theorem kzpw:∀(t:List wz2w) (k:Nat) (h:wz2w),t[k]?=some h->hsum (t.take (k+1))=hsum (t.take k)+h.Ticks:=fun t k h e=>by rw[jzlb e,kzmf];simp[hsum]
theorem kzlo{t:List wz2w}(H:∀h∈t,1<=h.Ticks)(k:Nat):0<=hsum (t.take k)/\hsum (t.take k)<=hsum t:=by have h1:=kzjx (t:=t.take k) fun x hx=>H x (List.mem_of_mem_take hx);have h2:=kzjx (t:=t.drop k) fun x hx=>H x (List.mem_of_mem_drop hx);have h3:=kzmf (t.take k) (t.drop k);rw[Gcj]at h3;omega
theorem kzkm{n lo hi:Int}(h:lo<=n/\n<=hi):kzir n lo hi=some true:=by unfold kzir;rw[Gdy h.1,Gdy h.2];rfl
theorem kzh8.len{x:wz3g}(H:kzh8 x):0<x.Table.length/\(x.Table.length:Int)<=x.To-x.From:=by have:=kzjx H.t.tk;have:=H.s;exact⟨List.length_pos_iff.2 H.t.ne,by omega⟩
theorem kzlc{x:wz3g}(H:kzh8 x):kzit x=some false:=by have:=H.len;unfold kzit;rw[Gdw (by omega)]
theorem kzns(x:wz3g):kzjo x=some (decide (x.Table.length=1)):=by unfold kzjo;congr 1;exact decide_eq_decide.2 (by omega)
theorem kzut{x:wz3g}(H:kzh8 x):kzk1 x=some 0:=by
 have hl:=H.len;have h1:=H.a;have h2:=H.b;have h3:=H.c;unfold kzk1;rw[Gdw (show ¬x.From<0 by omega),Gdw (show ¬x.To<=x.From by omega),Gdw (show ¬1402560<x.To by omega)];simp only[Gdt,qzil];rw[kzlc H,bd_s,qzil]
 have e1:lp (kzkd x) 0=some (.inl ()):=by
  refine wz69 (l:=x.Table) (fun k=>(k:Int)) (by omega) (fun k h hk=>?_) ?_ rfl
  ·have hm:=Gb9 hk;have hlt:=(Gbg.1 hk).1;have h4:=H.t.st h hm;have h5:=H.t.tk h hm;have h6:=kzn2 H.t.tk h hm;have h7:=H.s;unfold kzkd;dsimp only;rw[it_d (by omega),at_e rfl hk,bd_s,kzkm (by omega),bd_s];simp only[Gaq,Gap,qzbx];rw[kzkm (by omega),bd_s];simp only[Gaq,Gdt,qzil];rw[qz3 (by omega)]
   norm_cast
  ·unfold kzkd;dsimp only;rw[it_n (by omega)]
 rw[e1,bd_s]
 have e2:lp (kzkg x) (0,0)=some (.inl (x.To-x.From)):=by
  refine wz69 (l:=x.Table) (fun k=>(hsum (x.Table.take k),(k:Int))) (by omega) (fun k h hk=>?_) ?_ rfl
  ·have hm:=Gb9 hk;have hlt:=(Gbg.1 hk).1;have h5:=kzpw _ _ _ hk;have h6:=kzlo H.t.tk k;have h8:=kzlo H.t.tk (k+1);have h7:=H.s;unfold kzkg;dsimp only;rw[it_d (by omega),at_e rfl hk,bd_s,ck_o (by intro _;simp[inB];omega)]
   have hp:∃y,gd (decide (0<(k:Int))) (at? x.Table ((k:Int)-1))=some y/\(0<k->y.Stage<h.Stage):=by
    by_cases h0:0<k
    ·have hk1:x.Table[k-1]?=some x.Table[k-1]:=Gbe (by omega);refine⟨x.Table[k-1],?_,fun _=>?_⟩
     ·rw[Gdy (by omega),qzbx];exact at_e (n:=k-1) (by omega) hk1
     ·have:=List.pairwise_iff_getElem.1 H.t.asc (k-1) k (by omega) hlt (by omega);have e:x.Table[k]=h:=(Gbg.1 hk).2
      rwa [e]at this
    ·rw[Gdw (by omega)];exact⟨_,wzcn,fun e=>absurd e h0⟩
   obtain⟨y,hy,hy2⟩:=hp;rw[hy,bd_s]
   have hc:(bif decide (0<(k:Int)) then decide (h.Stage<=y.Stage) else false)=false:=by
    by_cases h0:0<k
    ·rw[Gdy (by omega),Gdw (by have:=hy2 h0;omega)];rfl
    ·rw[Gdw (by omega)];rfl
   rw[hc,qzil,qz3 (by omega),qz3 (by omega),h5]
   norm_cast
  ·unfold kzkg;dsimp only;rw[it_n (by omega),List.take_length,H.s]
 rw[e2];simp only[bd_s];rw[qz3 (by omega),H.l,H.h];simp[qzil]
def Ch:Int->List wz3g->Int->Prop
 |a,[],b=>a=b
 |a,x :: l,b=>x.From=a/\kzh8 x/\Ch x.To l b
theorem kzki:∀{l m:List wz3g} {a b:Int},Ch a (l++m) b↔∃c,Ch a l c/\Ch c m b
 |[],m,a,b=>⟨fun h=>⟨a,rfl,h⟩,fun⟨c,h,k⟩=>by cases h;exact k⟩
 |x :: l,m,a,b=>by show(x.From=a/\kzh8 x/\Ch x.To (l++m) b)↔_;rw[kzki (l:=l)];exact⟨fun⟨h1,h2,c,h3,h4⟩=>⟨c,⟨h1,h2,h3⟩,h4⟩,fun⟨c,⟨h1,h2,h3⟩,h4⟩=>⟨h1,h2,c,h3,h4⟩⟩
theorem Ch.len:∀{l:List wz3g} {a b:Int},Ch a l b->(l.length:Int)<=b-a
 |[],a,b,h=>by cases h;simp
 |x :: l,a,b,⟨h1,h2,h3⟩=>by have:=h3.len;have:=h2.b;simp only[Gbr];omega
theorem Ch.ok:∀{l:List wz3g} {a b:Int},Ch a l b->∀x∈l,kzh8 x/\a<=x.From/\x.To<=b
 |y :: l,a,b,⟨h1,h2,h3⟩,x,hx=>by
  have hl:=h3.len;rcases Gb3.1 hx with rfl|hx
  ·exact⟨h2,by omega,by omega⟩
  ·obtain⟨k1,k2,k3⟩:=h3.ok x hx;have:=h2.b;exact⟨k1,by omega,k3⟩
theorem Ch.head{l:List wz3g}{a b:Int}{x:wz3g}(h:Ch a l b)(hx:l[0]?=some x):x.From=a:=by
 cases l with
 |nil=>cases hx
 |cons y l=>cases hx;exact h.1
theorem Ch.get:∀{l:List wz3g} {a b:Int} {k:Nat} {x:wz3g},Ch a l b->l[k]?=some x->(k=0->x.From=a)/\(∀y,0<k->l[k-1]?=some y->y.To=x.From)/\(k+1=l.length->x.To=b)
 |x :: l,a,b,0,y,⟨h1,h2,h3⟩,e=>by
  cases e;refine⟨fun _=>h1,(fun y h=>absurd h (by omega)),fun hl=>?_⟩;cases l with
  |nil=>exact h3
  |cons z l=>simp at hl
 |x :: l,a,b,k+1,y,⟨h1,h2,h3⟩,e=>by
  obtain⟨k1,k2,k3⟩:=h3.get (k:=k) (by simpa using e);refine⟨(fun h=>absurd h (by omega)),fun z _ hz=>?_,fun hl=>k3 (by simpa using hl)⟩;cases k with
  |zero=>cases hz;exact(k1 rfl).symm
  |succ k=>exact k2 z (by omega) (by simpa using hz)
theorem qzue{l:List wz3g}{a b:Int}(H:Ch a l b)(hb:b-a<=2000):kzhy l=some 0:=by
 have hl:=H.len;unfold kzhy;rw[it_n (by omega)]
 have e1:lp (kzj4 l) 0=some (.inl ()):=by
  refine wz69 (l:=l) (fun k=>(k:Int)) (by omega) (fun k x hk=>?_) ?_ rfl
  ·have hm:=Gb9 hk;have hlt:=(Gbg.1 hk).1;obtain⟨h1,h2,h3⟩:=H.ok x hm;have g1:=h1.a;have g2:=h1.b;have g3:=h1.c;unfold kzj4;dsimp only;rw[it_d (by omega),at_e rfl hk,bd_s,Gdw (show ¬x.From<0 by omega),Gdw (show ¬x.To<=x.From by omega),Gdw (show ¬1402560<x.To by omega)];simp only[Gdt,qzil];rw[ck_o (by intro _;simp[inB];omega)]
   have hp:∃y,gd (decide (0<(k:Int))) (at? l ((k:Int)-1))=some y/\(0<k->x.From=y.To):=by
    by_cases h0:0<k
    ·have hk1:l[k-1]?=some l[k-1]:=Gbe (by omega);refine⟨l[k-1],?_,fun _=>((H.get hk).2.1 _ h0 hk1).symm⟩;rw[Gdy (by omega),qzbx];exact at_e (n:=k-1) (by omega) hk1
    ·rw[Gdw (by omega)];exact⟨_,wzcn,fun e=>absurd e h0⟩
   obtain⟨y,hy,hy2⟩:=hp;rw[hy,bd_s]
   have hc:(bif decide (0<(k:Int)) then !decide (x.From=y.To) else false)=false:=by
    by_cases h0:0<k
    ·rw[Gdy (by omega),Gdy (hy2 h0)];rfl
    ·rw[Gdw (by omega)];rfl
   rw[hc,qzil,kzut h1,bd_s,qzk5 rfl,qz3 (by omega)]
   norm_cast
  ·unfold kzj4;dsimp only;rw[it_n (by omega)]
 rw[e1,bd_s];dsimp only;by_cases h0:0<l.length
 ·have g1:l[l.length-1]?=some l[l.length-1]:=Gbe (by omega);have g2:l[0]?=some l[0]:=Gbe h0;have k1:=(H.get g1).2.2 (by omega);have k2:=(H.get g2).1 rfl;have k3:=H.ok _ (Gb9 g1);have k4:=k3.1.a;have k5:=k3.1.c;have k6:=(H.ok _ (Gb9 g2)).1.a;rw[Gdy (show(0:Int)<(l.length:Int) by omega)];simp only[Gaq,Bool.false_or,qzbx,Gdu];rw[qz3 (by omega),at_e (n:=l.length-1) (by omega) g1,bd_s,at_e (j:=0) (n:=0) rfl g2,bd_s,qz3 (by omega),it_n (by omega)]
 ·rw[Gdw (show ¬(0:Int)<(l.length:Int) by omega)];simp only[Gap,Bool.true_or,wzcn,Gdt,bd_s,wzdp,qzil]
def rawR(a b s:Int):wz3g:=⟨a,b,[⟨s,b-a⟩],0,0⟩
theorem kzkk{a b s:Int}(h1:0<=a)(h2:a<b)(h3:b<=1402560)(h4:0<=s/\s<=1000):kzh8 (rawR a b s) := ⟨h1,h2,h3,⟨by simp[rawR],(by intro h hm;simp[rawR]at hm;subst hm;exact h4),(by intro h hm;simp[rawR]at hm;subst hm;show 1<=b-a;omega),by simp[rawR]⟩,by simp[rawR,hsum],rfl,rfl⟩
theorem kzkr{a b s:Int}(h1:0<=a)(h2:a<=b)(h3:b<=1402560):kzia a b s=some (rawR a b s):=by unfold kzia;rw[qz3 (by omega)];rfl
theorem kzh8.raw{x:wz3g}(H:kzh8 x){h:wz2w}(e:x.Table=[h]):x=rawR x.From x.To h.Stage:=by have h1:=H.s;have h2:=H.l;have h3:=H.h;obtain⟨f,t,T,l,hh⟩:=x;simp only at e h1 h2 h3;subst e h2 h3;obtain⟨s,k⟩:=h;simp only[hsum,Int.add_zero]at h1;subst h1;rfl
def jn(a x:wz3g):Option wz3g:=match a.Table,x.Table with
 |[h],[k]=>if h.Stage=k.Stage then some (rawR a.From x.To h.Stage) else none
 |_,_=>none
theorem kzvb{a x y:wz3g}(Ha:kzh8 a)(Hx:kzh8 x)(hax:a.To=x.From)(h:jn a x=some y):kzh8 y/\y.From=a.From/\y.To=x.To:=by
 unfold jn at h;split at h
 ·rename_i u v e1 e2;split at h
  ·cases h;exact⟨kzkk Ha.a (by have:=Ha.b;have:=Hx.b;omega) Hx.c (Ha.t.st u (by rw[e1];exact Gcc.2 rfl)),rfl,rfl⟩
  ·cases h
 ·cases h
def kzv3:wz3g:=⟨0,0,[],0,0⟩
theorem kzoo{a x:wz3g}(Ha:kzh8 a)(Hx:kzh8 x)(hax:a.To=x.From):kzh9 a x=some (match jn a x with | some y=>(y,true) | none=>(kzv3,false)):=by
 have la:=Ha.len;have lx:=Hx.len;have a1:=Ha.a;have a2:=Ha.b;have x2:=Hx.b;have x3:=Hx.c;unfold kzh9;rw[kzns,bd_s];by_cases h1:a.Table.length=1
 ·rw[Gdy h1,qzbx,kzns,bd_s];obtain⟨u,e1⟩:=List.length_eq_one_iff.1 h1;by_cases h2:x.Table.length=1
  ·obtain⟨v,e2⟩:=List.length_eq_one_iff.1 h2;rw[Gdy h2];simp only[Gdu,qzbx];rw[at_e (j:=0) (n:=0) rfl (by rw[e1];rfl:a.Table[0]?=some u),bd_s,at_e (j:=0) (n:=0) rfl (by rw[e2];rfl:x.Table[0]?=some v),bd_s];unfold jn;rw[e1,e2];dsimp only;by_cases h3:u.Stage=v.Stage
   ·rw[it_d h3,bd_s,kzkr a1 (by omega) x3,bd_s,Gd4 h3]
   ·rw[it_n h3,kzlc Ha,bd_s,wzcn,bd_s];simp only[Gdt,qzil];rw[Gd3 h3];rfl
  ·rw[Gdw h2];simp only[Gdu,Gdt,wzcn,bd_s,qzil];rw[kzlc Ha,bd_s,wzcn,bd_s];simp only[Gdt,qzil]
   have:jn a x=none:=by
    unfold jn;split
    ·rename_i e2;rw[e2]at h2;exact absurd rfl h2
    ·rfl
   rw[this];rfl
 ·rw[Gdw h1];simp only[wzcn,bd_s,Gdt,qzil];rw[kzlc Ha,bd_s,wzcn,bd_s];simp only[Gdt,qzil]
  have:jn a x=none:=by
   unfold jn;split
   ·rename_i e1 e2;rw[e1]at h1;exact absurd rfl h1
   ·rfl
  rw[this];rfl
def kzh2(out:List wz3g)(x:wz3g):List wz3g:=match out.getLast? with
 |none=>[x]
 |some a=>match jn a x with
  |some y=>out.dropLast++[y]
  |none=>out++[x]
theorem kzk4(x:wz3g):kzh2 [] x=[x]:=rfl
theorem kzim(l:List wz3g)(a x:wz3g):kzh2 (l++[a]) x=(match jn a x with | some y=>l++[y] | none=>l++[a]++[x]):=by unfold kzh2;rw[List.getLast?_concat];simp only[List.dropLast_concat]
theorem kzi3{α:Type}(l:List α):l=[]\/∃m x,l=m++[x]:=by
 rcases List.eq_nil_or_concat l with h|⟨m,x,h⟩
 ·exact .inl h
 ·exact .inr ⟨m,x,by rw[h,List.concat_eq_append]⟩
theorem Ch.snoc{m:List wz3g}{a b:Int}{z:wz3g}:Ch a (m++[z]) b↔Ch a m z.From/\kzh8 z/\z.To=b:=by rw[kzki];exact⟨fun⟨c,h1,h2,h3,h4⟩=>by subst h2;exact⟨h1,h3,h4⟩,fun⟨h1,h2,h3⟩=>⟨z.From,h1,rfl,h2,h3⟩⟩
theorem kzlh{out:List wz3g}{a c:Int}{x:wz3g}(H:Ch a out c)(Hx:kzh8 x)(hc:x.From=c):Ch a (kzh2 out x) x.To:=by
 rcases kzi3 out with rfl|⟨m,z,rfl⟩
 ·cases H;exact⟨hc,Hx,rfl⟩
 ·obtain⟨h1,h2,h3⟩:=Ch.snoc.1 H;rw[kzim];split
  ·rename_i y hy;obtain⟨k1,k2,k3⟩:=kzvb h2 Hx (by omega) hy;exact Ch.snoc.2 ⟨by rw[k2];exact h1,k1,k3⟩
  ·exact Ch.snoc.2 ⟨by rw[hc];exact H,Hx,rfl⟩
theorem kzkj:∀{l out:List wz3g} {a c b:Int},Ch a out c->Ch c l b->Ch a (l.foldl kzh2 out) b
 |[],out,a,c,b,H,h=>by cases h;exact H
 |x :: l,out,a,c,b,H,⟨h1,h2,h3⟩=>kzkj (l:=l) (kzlh H h2 h1) h3
theorem kzlp{l:List wz3g}{a b:Int}(H:Ch a l b)(hb:b-a<=2000):kzie l (fun a0 a1=>kzh9 a0 a1)=some (l.foldl kzh2 []):=by
 have hl:=H.len;unfold kzie
 have e1:lp (kzjv (fun a0 a1=>kzh9 a0 a1) l) (0,[])=some (l.foldl kzh2 []):=by
  refine wz69 (l:=l) (fun k=>((k:Int),(l.take k).foldl kzh2 [])) (by omega) (fun k x hk=>?_) ?_ rfl
  ·have hlt:=(Gbg.1 hk).1;have hs:l.take k++x :: l.drop (k+1)=l:=by obtain⟨h1,h2⟩:=Gbg.1 hk;rw[<-h2,<-Ga4 h1,Gcj]
   obtain⟨c,c1,c2⟩:=kzki.1 (by rw[hs];exact H:Ch a (l.take k++x :: l.drop (k+1)) b);obtain⟨c3,c4,c5⟩:=c2;have hch:=kzkj (l:=l.take k) (out:=[]) (a:=a) (c:=a) rfl c1;have hlen:=hch.len;have h6:=c5.len;have h7:=c4.b;rw[jzlb hk,List.foldl_append];show _=some (Sum.inl (((k+1:Nat):Int),kzh2 ((l.take k).foldl kzh2 []) x));generalize hO:(l.take k).foldl kzh2 []=out at *;unfold kzjv;dsimp only;rw[it_d (by omega),at_e rfl hk,bd_s];rcases kzi3 out with rfl|⟨m,z,rfl⟩
   ·rw[it_n (by simp),bd_s];dsimp only;rw[ck_d (by simp),qz3 (by omega),kzk4]
    norm_cast
   ·obtain⟨d1,d2,d3⟩:=Ch.snoc.1 hch;have hz:(m++[z])[m.length]?=some z:=(by simp);simp only[Gbq,Gby]at hlen ⊢;rw[it_d (by omega),qz3 (by omega),at_e (n:=m.length) (by omega) hz,bd_s,kzoo d2 c4 (by omega),bd_s,kzim];cases hj:jn z x with
    |some y =>
     dsimp only;rw[wzdh,qz3 (by omega),bd_s,bd_s];dsimp only;rw[qz3 (by omega)];have e:Int.toNat (((m.length+1:Nat):Int)-1)=m.length:=by omega
     rw[e,List.set_append_right _ _ (Gcy _)];simp
    |none =>
     dsimp only;rw[qzil,bd_s];dsimp only;rw[ck_d (by omega),qz3 (by omega)]
     norm_cast
  ·unfold kzjv;dsimp only;rw[it_n (by omega),List.take_length]
 rw[e1,bd_s]
theorem kzro{l out:List wz3g}{a c b:Int}(H:Ch a out c)(h:Ch c l b):((l.foldl kzh2 out).length:Int)<=b-a:=(kzkj H h).len
theorem Ch.ne{l:List wz3g}{a b:Int}(H:Ch a l b)(h:a<b):l≠[]:=fun e=>by subst e;have:a=b:=H;omega
theorem kzll{l:List wz3g}{a b:Int}(H:Ch a l b):tbs l=true:=Ga0.2 fun x hx=>by obtain⟨h1,_,_⟩:=H.ok x hx;have:=h1.len.2;have:=h1.a;have:=h1.c;exact Gdy (by omega)
theorem kzpj{l m:List wz3g}{a b c d:Int}(H:Ch a l b)(K:Ch c m d)(hl:l≠[]):(decide (0<List.length l)&&tbs l&&tbs m)=true:=by rw[kzll H,kzll K,Gdy (List.length_pos_iff.2 hl)];rfl
theorem kzsn{l:List wz3g}{a b:Int}(H:Ch a l b)(hne:l≠[])(hb:b-a<=2000):kzif l []=some (l.foldl kzh2 [],0):=by have hl:=H.len;have hf:=kzro (out:=[]) (a:=a) (c:=a) rfl H;unfold kzif;rw[qzue H hb,bd_s,qzk5 rfl,qzue (l:=[]) (a:=0) (b:=0) rfl (by omega),bd_s,qzk5 rfl,kzpj (m:=[]) (c:=0) (d:=0) H rfl hne,wzdp];rw[show(decide (0<List.length l)&&decide (0<List.length ([]:List wz3g)))=false by simp,Gdt,bd_s,qzk5 rfl,List.append_nil,kzlp H hb,bd_s,it_n (by omega)]
theorem kzse{z x:wz3g}(hz:kzh8 z)(hx:kzh8 x)(he:z.To=x.From)(hb:x.To-z.From<=2000):kzif [z] [x]=some (kzh2 [z] x,0):=by
 have z1:=hz.a;have z2:=hz.b;have x2:=hx.b;have x3:=hx.c;have H:Ch z.From ([z]++[x]) x.To:=⟨rfl,hz,he.symm,hx,rfl⟩;unfold kzif;rw[qzue (l:=[z]) (a:=z.From) (b:=z.To) ⟨rfl,hz,rfl⟩ (by omega),bd_s,qzk5 rfl,qzue (l:=[x]) (a:=x.From) (b:=x.To) ⟨rfl,hx,rfl⟩ (by omega),bd_s,qzk5 rfl,kzpj (l:=[z]) (a:=z.From) (b:=z.To) (m:=[x]) (c:=x.From) (d:=x.To) ⟨rfl,hz,rfl⟩ ⟨rfl,hx,rfl⟩ (by simp),wzdp];simp only[Gby];rw[Gdy (show 0<1 by omega)];simp only[Bool.and_true,Gdu]
 rw[at_e (j:=((1:Nat):Int)-1) (n:=0) (by omega) (rfl:[z][0]?=some z),bd_s,at_e (j:=0) (n:=0) rfl (rfl:[x][0]?=some x),bd_s,qzk5 he,
  at_e (j:=((1:Nat):Int)-1) (n:=0) (by omega) (rfl:[x][0]?=some x),bd_s,at_e (j:=0) (n:=0) rfl (rfl:[z][0]?=some z),bd_s,qz3 (by omega),it_n (by omega),bd_s,qzk5 rfl,
  kzlp H hb,bd_s]
 have e:List.foldl kzh2 [] ([z]++[x])=kzh2 [z] x:=rfl;have hl:(kzh2 [z] x).length<=2:=by rw[show [z]=[]++[z] from rfl,kzim];split<;>simp
 rw[e,it_n (by omega)]
theorem kzrv:∀{l out:List wz3g} {a c b:Int},Ch a out c->Ch c l b->b-a<=2000->jbL l out=some (l.foldl kzh2 out)
 |[],out,a,c,b,_,_,_=>rfl
 |x :: l,out,a,c,b,H,⟨h1,h2,h3⟩,hb=>by
  have hl:=h3.len;have g1:=kzlh H h2 h1;have g2:=H.len;have g3:=h2.b
  have e:kzlb out x=some (kzh2 out x):=by
   rcases kzi3 out with rfl|⟨m,z,rfl⟩
   ·rfl
   ·obtain⟨d1,d2,d3⟩:=Ch.snoc.1 H;have d4:=d1.len;have d5:=d2.b;unfold kzlb;rw[List.getLast?_concat];dsimp only;rw[kzse d2 h2 (by omega) (by omega),bd_s,kzim];rw[show [z]=[]++[z] from rfl,kzim];split
    ·rename_i y e hm;cases hj:jn z x with
     |some w =>rw[hj]at hm;cases hm;simp
     |none=>rw[hj]at hm;cases hm
    ·rename_i hm;cases hj:jn z x with
     |some w=>rw[hj]at hm;exact absurd rfl (hm w 0)
     |none=>simp
  show bd (kzlb out x) _=_;rw[e,bd_s];exact kzrv g1 h3 hb
theorem kzoc{l:List wz3g}{a b:Int}(H:Ch a l b)(hb:b-a<=2000):kzis l=some (l.foldl kzh2 []):=by have hl:=H.len;unfold kzis;rw[ck_d (by omega)];exact kzrv (out:=[]) (a:=a) rfl H hb
inductive Tok where
 |s (v:Int)
 |t (l:List wz2w)
def wt:Tok->Int
 |.s _=>1
 |.t l=>hsum l
def wtL:List Tok->Int
 |[]=>0
 |k :: l=>wt k+wtL l
def kzib:Tok->Prop
 |.s v=>0<=v/\v<=1000
 |.t l=>kzpe l/\2<=l.length
def tk(x:wz3g):List Tok:=match x.Table with
 |[h]=>List.replicate (x.To-x.From).toNat (.s h.Stage)
 |t=>[.t t]
def toks:List wz3g->List Tok
 |[]=>[]
 |x :: l=>tk x++toks l
theorem kzh5:∀(l m:List Tok),wtL (l++m)=wtL l+wtL m
 |[],m=>by simp[wtL]
 |k :: l,m=>by simp only[wtL,Ga1];rw[kzh5 l m];omega
theorem kzmy(n:Nat)(v:Int):wtL (List.replicate n (.s v))=n:=by
 induction n with
 |zero=>rfl
 |succ n ih=>simp only[List.replicate_succ,wtL,wt];rw[ih];omega
theorem kzqv{k:Tok}(h:kzib k):1<=wt k:=by
 cases k with
 |s v=>exact Gaw _
 |t l =>have:=kzjx h.1.tk;have h2:=h.2;show 1<=hsum l;omega
theorem kzi7:∀{l:List Tok},(∀k∈l,kzib k)->(l.length:Int)<=wtL l
 |[],_=>Gaw _
 |k :: l,h=>by have h1:=kzqv (h k (Gb5 ..));have h2:=kzi7 (l:=l) fun x hx=>h x (Gb4 _ hx);simp only[wtL,Gbr];omega
theorem kzk9{a b s:Int}:tk (rawR a b s)=List.replicate (b-a).toNat (.s s):=rfl
theorem kzkv{x:wz3g}(h:x.Table.length≠1):tk x=[.t x.Table]:=by
 unfold tk;split
 ·rename_i e;rw[e]at h;exact absurd rfl h
 ·rfl
theorem kzh8.cases{x:wz3g}(H:kzh8 x):(∃s,0<=s/\s<=1000/\x=rawR x.From x.To s/\tk x=List.replicate (x.To-x.From).toNat (.s s))\/(2<=x.Table.length/\tk x=[.t x.Table]):=by
 have hl:=H.len;by_cases h:x.Table.length=1
 ·obtain⟨u,e⟩:=List.length_eq_one_iff.1 h;have hs:=H.t.st u (by rw[e];exact Gcc.2 rfl);refine .inl ⟨u.Stage,hs.1,hs.2,H.raw e,?_⟩;unfold tk;rw[e]
 ·exact .inr ⟨by omega,kzkv h⟩
theorem kzsv{x:wz3g}(H:kzh8 x):∀k∈tk x,kzib k:=by
 rcases H.cases with ⟨s,h1,h2,_,e⟩|⟨h,e⟩
 ·rw[e];intro k hk;rw[(List.mem_replicate.1 hk).2];exact⟨h1,h2⟩
 ·rw[e];intro k hk;rw[Gcc.1 hk];exact⟨H.t,h⟩
theorem kzk5{x:wz3g}(H:kzh8 x):wtL (tk x)=x.To-x.From:=by
 have:=H.b;rcases H.cases with ⟨s,h1,h2,_,e⟩|⟨h,e⟩
 ·rw[e,kzmy];omega
 ·rw[e];simp only[wtL,wt];rw[H.s];omega
theorem kzi0:∀(l m:List wz3g),toks (l++m)=toks l++toks m
 |[],m=>rfl
 |x :: l,m=>by show tk x++toks (l++m)=_;rw[kzi0 l m];simp[toks]
theorem Ch.tok:∀{l:List wz3g} {a b:Int},Ch a l b->wtL (toks l)=b-a/\∀k∈toks l,kzib k
 |[],a,b,h=>by cases h;exact⟨by simp[toks,wtL],fun k hk=>by cases hk⟩
 |x :: l,a,b,⟨h1,h2,h3⟩=>by
  obtain⟨k1,k2⟩:=h3.tok;refine⟨by show wtL (tk x++toks l)=_;rw[kzh5,k1,kzk5 h2];omega,fun k hk=>?_⟩;rcases Gb2.1 hk with hk|hk
  ·exact kzsv h2 k hk
  ·exact k2 k hk
theorem kzwv{a x y:wz3g}(Ha:kzh8 a)(Hx:kzh8 x)(hax:a.To=x.From)(h:jn a x=some y):tk y=tk a++tk x:=by
 have a2:=Ha.b;have x2:=Hx.b;unfold jn at h;split at h
 ·rename_i u v e1 e2;split at h
  ·rename_i e3;cases h;rw[kzk9];unfold tk;rw[e1,e2];dsimp only;rw[<-e3,List.replicate_append_replicate];congr 1;omega
  ·cases h
 ·cases h
theorem kzq9{out:List wz3g}{a c:Int}{x:wz3g}(H:Ch a out c)(Hx:kzh8 x)(hc:x.From=c):toks (kzh2 out x)=toks out++tk x:=by
 rcases kzi3 out with rfl|⟨m,z,rfl⟩
 ·simp[kzk4,toks]
 ·obtain⟨h1,h2,h3⟩:=Ch.snoc.1 H;rw[kzim];split
  ·rename_i y hy;rw[kzi0,kzi0];show toks m++(tk y++[])=toks m++(tk z++[])++tk x;rw[kzwv h2 Hx (by omega) hy];simp
  ·rw[kzi0,kzi0];show toks m++toks [z]++(tk x++[])=_;simp
theorem kzk2:∀{l out:List wz3g} {a c b:Int},Ch a out c->Ch c l b->toks (l.foldl kzh2 out)=toks out++toks l
 |[],out,a,c,b,H,h=>by simp[toks]
 |x :: l,out,a,c,b,H,⟨h1,h2,h3⟩=>by show toks (l.foldl kzh2 (kzh2 out x))=toks out++(tk x++toks l);rw[kzk2 (kzlh H h2 h1) h3,kzq9 H h2 h1];simp
def un:Int->List Tok->List wz3g
 |_,[]=>[]
 |a,.s v :: r=>rawR a (a+1) v :: un (a+1) r
 |a,.t l :: r=>⟨a,a+hsum l,l,0,0⟩ :: un (a+hsum l) r
def nf(a:Int)(ts:List Tok):List wz3g:=(un a ts).foldl kzh2 []
theorem kzmr:∀(ts us:List Tok) (a:Int),un a (ts++us)=un a ts++un (a+wtL ts) us
 |[],us,a=>by simp[un,wtL]
 |.s v :: ts,us,a=>by show rawR a (a+1) v :: un (a+1) (ts++us)=rawR a (a+1) v :: (un (a+1) ts++un (a+(1+wtL ts)) us);rw[kzmr ts us,Int.add_assoc]
 |.t l :: ts,us,a=>by show(⟨a,a+hsum l,l,0,0⟩:wz3g) :: un (a+hsum l) (ts++us)=(⟨a,a+hsum l,l,0,0⟩:wz3g) :: (un (a+hsum l) ts++un (a+(hsum l+wtL ts)) us);rw[kzmr ts us,Int.add_assoc]
theorem kzo0:∀{ts:List Tok} {a:Int},(∀k∈ts,kzib k)->0<=a->a+wtL ts<=1402560->Ch a (un a ts) (a+wtL ts)
 |[],a,_,_,_=>by simp[un,wtL,Ch]
 |.s v :: ts,a,h,h0,h1=>by
  have hr:∀k∈ts,kzib k:=fun k hk=>h k (Gb4 _ hk);have hp:=kzi7 hr;have h1:a+(1+wtL ts)<=1402560:=h1;refine⟨rfl,kzkk h0 (by omega) (by omega) (h _ (Gb5 ..)),?_⟩;have:=kzo0 (a:=a+1) hr (by omega) (by omega);show Ch (a+1) _ (a+(1+wtL ts))
  rwa [<-Int.add_assoc]
 |.t l :: ts,a,h,h0,h1=>by
  have hr:∀k∈ts,kzib k:=fun k hk=>h k (Gb4 _ hk);have hp:=kzi7 hr;have hk:kzib (.t l):=h _ (Gb5 ..);have hw:1<=hsum l:=kzqv hk;have h1:a+(hsum l+wtL ts)<=1402560:=h1;refine⟨rfl,⟨h0,by show a<a+hsum l;omega,by show a+hsum l<=_;omega,hk.1,by show hsum l=a+hsum l-a;omega,rfl,rfl⟩,?_⟩;have:=kzo0 (a:=a+hsum l) hr (by omega) (by omega);show Ch (a+hsum l) _ (a+(hsum l+wtL ts))
  rwa [<-Int.add_assoc]
theorem kzmz:∀{ts:List Tok} {a:Int},(∀k∈ts,kzib k)->toks (un a ts)=ts
 |[],a,_=>rfl
 |.s v :: ts,a,h=>by show tk (rawR a (a+1) v)++toks (un (a+1) ts)=_;rw[kzmz fun k hk=>h k (Gb4 _ hk),kzk9,show(a+1-a).toNat=1 by omega];rfl
 |.t l :: ts,a,h=>by have hk:kzib (.t l):=h _ (Gb5 ..);have h2:2<=l.length:=hk.2;show tk ⟨a,a+hsum l,l,0,0⟩++toks (un (a+hsum l) ts)=_;rw[kzmz fun k hk=>h k (Gb4 _ hk),kzkv (by show l.length≠1;omega)];rfl
theorem kzr6(out:List wz3g)(a c d s:Int):kzh2 (kzh2 out (rawR a c s)) (rawR c d s)=kzh2 out (rawR a d s):=by
 have jr:∀(z:wz3g) (a b:Int),jn z (rawR a b s)=(match z.Table with | [h]=>if h.Stage=s then some (rawR z.From b h.Stage) else none | _=>none):=fun z a b=>by
  unfold jn rawR;split
  ·rename_i e1 e2;cases e2;rw[e1]
  ·rename_i h1;split
   ·rename_i h e;exact absurd rfl (h1 h _ e)
   ·rfl
 rcases kzi3 out with rfl|⟨m,z,rfl⟩
 ·rw[kzk4,kzk4,show [rawR a c s]=[]++[rawR a c s] from rfl,kzim,jr];show(match (if s=s then some (rawR a d s) else none) with | some y=>_ | none=>_)=_;rw[Gd4 rfl];rfl
 ·rw[kzim,kzim,jr,jr];have other:kzh2 (m++[z]++[rawR a c s]) (rawR c d s)=m++[z]++[rawR a d s]:=by rw[kzim,jr];show(match (if s=s then some (rawR a d s) else none) with | some y=>_ | none=>_)=_;rw[Gd4 rfl]
  split
  ·rename_i y hy;split at hy
   ·rename_i h e;split at hy
    ·rename_i e3;cases hy;rw[kzim,jr];show(match (if h.Stage=s then some (rawR z.From d h.Stage) else none) with | some y=>m++[y] | none=>_)=_;rw[Gd4 e3]
    ·cases hy
   ·cases hy
  ·rename_i hy;rw[other];split at hy
   ·rename_i h e;split at hy
    ·cases hy
    ·rename_i e3;rw[Gd3 e3]
   ·rfl
theorem kzn7(out:List wz3g)(a s:Int):∀n:Nat,(un a (List.replicate (n+1) (.s s))).foldl kzh2 out=kzh2 out (rawR a (a+(n+1:Nat)) s)
 |0=>rfl
 |n+1=>by rw[List.replicate_succ',kzmr,List.foldl_append,kzn7 out a s n,kzmy];show kzh2 (kzh2 out (rawR a (a+(n+1:Nat)) s)) (rawR (a+(n+1:Nat)) (a+(n+1:Nat)+1) s)=_;rw[kzr6];congr 2;omega
theorem kzuc(out:List wz3g){x:wz3g}(H:kzh8 x):(un x.From (tk x)).foldl kzh2 out=kzh2 out x:=by
 have hb:=H.b;rcases H.cases with ⟨s,h1,h2,e1,e⟩|⟨h,e⟩
 ·obtain⟨n,hn⟩:∃n:Nat,(x.To-x.From).toNat=n+1:=⟨(x.To-x.From).toNat-1,by omega⟩;rw[e,hn,kzn7]
  conv=>rhs;rw[e1]
  congr 2;omega
 ·rw[e];show kzh2 out ⟨x.From,x.From+hsum x.Table,x.Table,0,0⟩=_;have h1:=H.s;have h2:=H.l;have h3:=H.h;obtain⟨f,t,T,l,hh⟩:=x;simp only at h1 h2 h3 ⊢;subst h2 h3;congr 2;omega
theorem kzoh:∀{l out:List wz3g} {a b:Int},Ch a l b->l.foldl kzh2 out=(un a (toks l)).foldl kzh2 out
 |[],out,a,b,h=>rfl
 |x :: l,out,a,b,⟨h1,h2,h3⟩=>by show l.foldl kzh2 (kzh2 out x)=(un a (tk x++toks l)).foldl kzh2 out;rw[kzmr,List.foldl_append,<-h1,kzuc out h2,kzoh h3,kzk5 h2];congr 2;omega
theorem kzv9{l:List wz3g}{a b:Int}(h:Ch a l b):l.foldl kzh2 []=nf a (toks l):=kzoh h
theorem kzne{ts:List Tok}{a:Int}(h:∀k∈ts,kzib k)(h0:0<=a)(h1:a+wtL ts<=1402560):Ch a (nf a ts) (a+wtL ts)/\toks (nf a ts)=ts:=by have hc:=kzo0 h h0 h1;refine⟨kzkj (out:=[]) (a:=a) rfl hc,?_⟩;show toks ((un a ts).foldl kzh2 [])=ts;rw[kzk2 (out:=[]) (a:=a) rfl hc,kzmz h];rfl
theorem kzpi{out:List wz3g}{a c:Int}{x:wz3g}(H:Ch a out c)(Hx:kzh8 x)(hc:x.From=c):kzky out x=some (kzh2 out x):=by
 rcases kzi3 out with rfl|⟨m,z,rfl⟩
 ·rfl
 ·obtain⟨h1,h2,h3⟩:=Ch.snoc.1 H;unfold kzky;rw[List.getLast?_concat];dsimp only;rw[kzoo h2 Hx (by omega),bd_s,kzim];cases jn z x with
  |some y=>simp
  |none=>simp
theorem kzrj(f:Int)(hf:0<=f):∀{l:List Int} {out:List wz3g} {k:Int},0<=k->Ch f out (f+k)->(∀s∈l,0<=s/\s<=1000)->f+k+(l.length:Int)<=1402560->ofL f k l out=some ((un (f+k) (l.map .s)).foldl kzh2 out)
 |[],out,k,_,_,_,_=>rfl
 |s :: l,out,k,hk,H,hs,hb=>by simp only[Gbr]at hb;have hr:kzh8 (rawR (f+k) (f+k+1) s):=kzkk (by omega) (by omega) (by omega) (hs s (Gb5 ..));have h2:=kzlh H hr rfl;unfold ofL;rw[ck_t (by simp only[inB,Gai,Gdz];omega),kzkr (by omega) (by omega) (by omega),bd_s,kzpi H hr rfl,bd_s];have:=kzrj f hf (l:=l) (out:=kzh2 out (rawR (f+k) (f+k+1) s)) (k:=k+1) (by omega) (by rw[<-Int.add_assoc];exact h2) (fun s hm=>hs s (Gb4 _ hm)) (by omega);rw[this,<-Int.add_assoc];rfl
structure HOk(h:wz2c):Prop where
 a:0<=h.From
 b:h.From+(h.Stages.length:Int)<=1402560
 c:h.Stages.length<=300
 s:∀s∈h.Stages,0<=s/\s<=1000
theorem kznl{h:wz2c}(H:HOk h):kziy h=some true:=by
 have h1:=H.a;have h2:=H.b;have h3:=H.c;unfold kziy;rw[Gdy (show(h.Stages.length:Int)<=40000 by omega)];simp only[Gaq,Bool.false_or,qzbx,Gdu];rw[qz3 (by omega),kzkm (by omega),bd_s,qzbx]
 have e:kziu h.Stages (fun a0=>kzjr a0)=some false:=by
  unfold kziu wz29
  have e0:lp (wz3d (fun a0=>kzjr a0) h.Stages) 0=some (sOut (scan (fun _ _=>(none:Option Int)) 0 h.Stages)):=by
   refine wz3m (fun _ _=>none) (by omega) (fun k x hk=>?_) ?_
   ·have hlt:=(Gbg.1 hk).1;unfold wz3d;dsimp only;rw[it_d (by omega),at_e rfl hk,bd_s];unfold kzjr;rw[kzkm (H.s x (Gb9 hk)),bd_s,bd_s];simp only[Gaq,qzil];rw[qz3 (by omega)]
   ·unfold wz3d;dsimp only;rw[it_n (by omega)]
  rw[e0,jzax 0 h.Stages fun _ _ _=>rfl];rfl
 rw[e,bd_s];rfl
def hts(h:wz2c):List Tok:=h.Stages.map .s
theorem kzpz{h:wz2c}(H:HOk h):(∀k∈hts h,kzib k)/\wtL (hts h)=h.Stages.length:=by
 refine⟨fun k hk=>?_,?_⟩
 ·obtain⟨s,hs,rfl⟩:=Gb7.1 hk;exact H.s s hs
 ·unfold hts;generalize h.Stages=l;induction l with
  |nil=>rfl
  |cons s l ih=>simp only[Gb1,wtL,wt,Gbr];rw[ih];omega
theorem kzwd{h:wz2c}(H:HOk h):kzj8 h=some (nf h.From (hts h),0):=by have h1:=H.a;have h2:=H.b;have h3:=H.c;obtain⟨t1,t2⟩:=kzpz H;have hl:=(kzne (a:=h.From) t1 h1 (by omega)).1.len;unfold kzj8;rw[kznl H,bd_s];simp only[Gaq,qzil];rw[kzrj h.From h1 (k:=0) (out:=[]) (Gaw _) (by simp[Ch]) H.s (by omega),bd_s,Int.add_zero];show ite' (decide (2000<((nf h.From (hts h)).length:Int))) _ (some (nf h.From (hts h),0))=_;rw[it_n (by omega)]
theorem kzqf{l:List wz3g}{a b:Int}(H:Ch a l b)(hl:l≠[])(hb:b-a<=2000):kzkf l=some l:=by
 have hn:=H.len;have h0:=List.length_pos_iff.2 hl;unfold kzkf vzi;rw[ck_t (by simp only[Gai,Gdz];omega),bd_s]
 have e:lp (kzjw l) (0,l)=some l:=by
  refine wz69 (l:=l) (fun k=>((k:Int),l)) (by omega) (fun k x hk=>?_) ?_ rfl
  ·obtain⟨hlt,hx⟩:=Gbg.1 hk;obtain⟨hr,_,_⟩:=H.ok x (Gb9 hk);have h1:=hr.len;have h2:=hr.a;have h3:=hr.c;unfold kzjw;dsimp only;rw[it_d (by omega),at_e rfl hk,bd_s];unfold jz53;rw[ck_t (by simp only[Gai,Gdz];omega),bd_s,bd_s,qz3 (by omega)];have e:List.set l (Int.toNat (k:Int)) (wz3g.mk x.From x.To x.Table x.Lo x.Hi)=l:=by show List.set l k x=l;rw[<-hx];exact List.set_getElem_self hlt
   rw[e]
   norm_cast
  ·unfold kzjw;dsimp only;rw[it_n (by omega)]
 rw[e,bd_s]
def stg(x:wz3g):Int:=(x.Table.headD default).Stage
def cutB(at':Int)(x:wz3g):List wz3g:=if x.To<=at' then [x] else if at'<=x.From then [] else [rawR x.From at' (stg x)]
def cutA(at':Int)(x:wz3g):List wz3g:=if x.To<=at' then [] else if at'<=x.From then [x] else [rawR at' x.To (stg x)]
theorem kzmg{at':Int}:∀{l:List wz3g} {c b:Int},Ch c l b->at'<=c->l.flatMap (cutB at')=[]/\l.flatMap (cutA at')=l
 |[],c,b,_,_=>⟨rfl,rfl⟩
 |x :: l,c,b,⟨h1,h2,h3⟩,h=>by have hb:=h2.b;obtain⟨k1,k2⟩:=kzmg (at':=at') h3 (by omega);rw[List.flatMap_cons,List.flatMap_cons,k1,k2];unfold cutA cutB;rw[Gd3 (by omega),Gd4 (by omega),Gd3 (by omega),Gd4 (by omega)];exact⟨rfl,rfl⟩
theorem kzku{ts us p q:List Tok}(h:ts++us=p++q)(hk:∀k∈ts,kzib k)(hw:wtL ts<=wtL p):∃p',p=ts++p'/\us=p'++q:=by
 rcases List.append_eq_append_iff.1 h with ⟨c,h1,h2⟩|⟨c,h1,h2⟩
 ·exact⟨c,h1,h2⟩
 ·subst h1;rw[kzh5]at hw;have:=kzi7 (l:=c) fun k hc=>hk k (List.mem_append_right _ hc);have hc:c=[]:=Gbt.1 (by omega);subst hc;exact⟨[],by simp,by simpa using h2.symm⟩
theorem kznt{at':Int}:∀{l:List wz3g} {a b:Int} {p q:List Tok},Ch a l b->toks l=p++q->wtL p=at'-a->(∀k∈p,kzib k) -> (∀x∈l,x.From<at'->at'<x.To->x.Table.length=1)/\Ch a (l.flatMap (cutB at')) at'/\Ch at' (l.flatMap (cutA at')) b/\toks (l.flatMap (cutB at'))=p/\toks (l.flatMap (cutA at'))=q
 |[],a,b,p,q,h,ht,hp,hk=>by
  obtain⟨rfl,rfl⟩:=List.append_eq_nil_iff.1 (show p++q=[] from ht.symm);cases h;have:at'=a:=by simp only[wtL]at hp;omega
  subst this;exact⟨(fun x hx=>by cases hx),rfl,rfl,rfl,rfl⟩
 |x :: l,a,b,p,q,⟨h1,h2,h3⟩,ht,hp,hk=>by
  have hb:=h2.b;have hw:=kzk5 h2;have ht:tk x++toks l=p++q:=ht;rw[List.flatMap_cons,List.flatMap_cons];by_cases c1:x.To<=at'
  ·obtain⟨p',rfl,e2⟩:=kzku ht (kzsv h2) (by omega);rw[kzh5]at hp;obtain⟨k1,k2,k3,k4,k5⟩:=kznt (at':=at') h3 e2 (by omega) fun k hm=>hk k (List.mem_append_right _ hm);have eB:cutB at' x=[x]:=by unfold cutB;rw[Gd4 c1]
   have eA:cutA at' x=[]:=by unfold cutA;rw[Gd4 c1]
   rw[eA,eB];refine⟨fun y hy y1 y2=>?_,⟨h1,h2,k2⟩,k3,?_,k5⟩
   ·rcases Gb3.1 hy with rfl|hy;·omega
    ·exact k1 y hy y1 y2
   ·show tk x++toks (l.flatMap (cutB at'))=_;rw[k4]
  ·by_cases c2:at'<=x.From
   ·have hpp:=kzi7 hk;have hp0:p=[]:=Gbt.1 (by omega);subst hp0;have ha:at'=a:=(by simp only[wtL]at hp;omega);obtain⟨k1,k2⟩:=kzmg (at':=at') h3 (by omega);have eB:cutB at' x=[]:=(by unfold cutB;rw[Gd3 c1,Gd4 c2]);have eA:cutA at' x=[x]:=(by unfold cutA;rw[Gd3 c1,Gd4 c2]);rw[eA,eB,k1,k2,<-ha];refine⟨fun y hy y1 y2=>?_,rfl,⟨by omega,h2,h3⟩,rfl,ht⟩;rcases Gb3.1 hy with rfl|hy
    ·omega
    ·have:=h3.ok y hy;omega
   ·obtain⟨k1,k2⟩:=kzmg (at':=at') h3 (by omega);have eB:cutB at' x=[rawR x.From at' (stg x)]:=(by unfold cutB;rw[Gd3 c1,Gd3 c2]);have eA:cutA at' x=[rawR at' x.To (stg x)]:=(by unfold cutA;rw[Gd3 c1,Gd3 c2]);rw[eA,eB,k1,k2];obtain⟨c,e1,e2⟩:∃c,tk x=p++c/\q=c++toks l:=(by obtain⟨c,e1,e2⟩:=kzku (ts:=p) (us:=q) (p:=tk x) (q:=toks l) ht.symm hk (by omega);exact⟨c,e1,e2⟩);rcases h2.cases with ⟨s,s1,s2,e3,e4⟩|⟨e3,e4⟩
    ·have hst:stg x=s:=(by rw[e3];rfl);have hlen:x.Table.length=1:=(by rw[e3];rfl);have hrep:=e4.symm.trans e1;obtain⟨r1,r2,r3⟩:=List.append_eq_replicate_iff.1 hrep.symm;have hn:(p.length:Int)=at'-a:=(by rw[r2,kzmy]at hp;exact hp);have a0:=h2.a;have a3:=h2.c;rw[hst];refine⟨fun y hy y1 y2=>?_,⟨h1,kzkk a0 (by omega) (by omega) ⟨s1,s2⟩,rfl⟩,⟨rfl,kzkk (by omega) (by omega) a3 ⟨s1,s2⟩,h3⟩,?_,?_⟩
     ·rcases Gb3.1 hy with rfl|hy;·exact hlen
      ·have:=h3.ok y hy;omega
     ·show tk (rawR x.From at' s)++[]=p;rw[List.append_nil,kzk9,r2];congr 1;omega
     ·show tk (rawR at' x.To s)++toks l=q;rw[e2,kzk9,r3];congr 2;omega
    ·exfalso;rw[e4]at e1;cases p with
     |nil=>simp only[wtL]at hp;omega
     |cons k p =>
      obtain⟨rfl,e5⟩:=List.cons.inj e1;obtain⟨rfl,rfl⟩:=List.append_eq_nil_iff.1 e5.symm;have:wtL [Tok.t x.Table]=x.To-x.From:=by rw[<-e4];exact hw
      omega
theorem kzrm{l:List wz3g}{a b at':Int}{p q:List Tok}(H:Ch a l b)(hl:l≠[])(hb:b-a<=2000)(ht:toks l=p++q)(hp:wtL p=at'-a)(hab:at'<=b)(ha:a<=at') : ∃l1 l2,kzkn l at'=some (l1,l2,0)/\Ch a l1 at'/\Ch at' l2 b/\toks l1=p/\toks l2=q:=by
 have hn:=H.len;have h0:=List.length_pos_iff.2 hl;obtain⟨_,htk⟩:=H.tok;obtain⟨k1,k2,k3,k4,k5⟩:=kznt H ht hp fun k hk=>htk k (by rw[ht];exact List.mem_append_left _ hk);refine⟨_,_,?_,k2,k3,k4,k5⟩;unfold kzkn;rw[qzue H hb,bd_s,qzk5 rfl,Gdw (show ¬(l.length:Int)=0 by omega)];simp only[Gap,Gaq,Bool.false_or,qzbx,Gdt];have g1:l[l.length-1]?=some l[l.length-1]:=Gbe (by omega);have g2:l[0]?=some l[0]:=Gbe h0;have u1:=(H.get g1).2.2 (by omega);have u2:=(H.get g2).1 rfl;rw[at_e (j:=0) (n:=0) rfl g2,bd_s,qz3 (by omega),at_e (n:=l.length-1) (by omega) g1,bd_s,kzkm (by omega),bd_s];simp only[Gaq,qzil];rw[kzqf H hl hb,bd_s]
 have hbd:∀m:List wz3g,∀f:wz3g->List wz3g,(∀x,(f x).length<=1)->(m.flatMap f).length<=m.length:=fun m f hf=>by
  induction m with
  |nil=>simp
  |cons x m ih =>
   have h1:=hf x;have h2:((x :: m).flatMap f).length=(f x).length+(m.flatMap f).length:=by rw[List.flatMap_cons,Gbq]
   rw[h2,Gbr];omega
 have hB:∀x,(cutB at' x).length<=1:=fun x=>by unfold cutB;split;simp;split<;>simp
 have hA:∀x,(cutA at' x).length<=1:=fun x=>by unfold cutA;split;simp;split<;>simp
 have e:lp (kzkc at' l) (0,[],[])=some (.inl (l.flatMap (cutB at'),l.flatMap (cutA at'))):=by
  refine wz69 (l:=l) (fun k=>((k:Int),(l.take k).flatMap (cutB at'),(l.take k).flatMap (cutA at'))) (by omega) (fun k x hk=>?_) ?_ rfl
  ·obtain⟨hlt,hx⟩:=Gbg.1 hk;obtain⟨hr,_,_⟩:=H.ok x (Gb9 hk);have z1:=hr.a;have z2:=hr.b;have z3:=hr.c;have w1:=hbd (l.take k) _ hB;have w2:=hbd (l.take k) _ hA;have w3:(l.take k).length<=l.length:=by rw[Gbz];omega
   have eB:(l.take (k+1)).flatMap (cutB at')=(l.take k).flatMap (cutB at')++cutB at' x:=by rw[jzlb hk,List.flatMap_append,List.flatMap_cons,List.flatMap_nil,List.append_nil]
   have eA:(l.take (k+1)).flatMap (cutA at')=(l.take k).flatMap (cutA at')++cutA at' x:=by rw[jzlb hk,List.flatMap_append,List.flatMap_cons,List.flatMap_nil,List.append_nil]
   have k1:=k1 x (Gb9 hk);rw[eB,eA];generalize (l.take k).flatMap (cutB at')=U at *;generalize (l.take k).flatMap (cutA at')=V at *;unfold kzkc;dsimp only;rw[it_d (by omega),at_e rfl hk,bd_s];by_cases c1:x.To<=at'
   ·rw[it_d c1,ck_d (by simp only[Gbq,Gby];omega),qz3 (by omega)];unfold cutA cutB;rw[Gd4 c1,Gd4 c1,List.append_nil]
    norm_cast
   ·rw[it_n c1];by_cases c2:at'<=x.From
    ·rw[it_d c2,ck_d (by simp only[Gbq,Gby];omega),qz3 (by omega)];unfold cutA cutB;rw[Gd3 c1,Gd4 c2,Gd3 c1,Gd4 c2,List.append_nil]
     norm_cast
    ·have hlen:=k1 (by omega) (by omega);obtain⟨v,ev⟩:=List.length_eq_one_iff.1 hlen;have hst:stg x=v.Stage:=by unfold stg;rw[ev];rfl
     rw[it_n c2,kzns,bd_s,Gdy hlen,wzdh,at_e (j:=0) (n:=0) rfl (by rw[ev];rfl:x.Table[0]?=some v),bd_s,kzkr z1 (by omega) (by omega),bd_s,
      ck_d (by simp only[Gbq,Gby];omega),bd_s,kzkr (by omega) (by omega) z3,bd_s,ck_d (by simp only[Gbq,Gby];omega),qz3 (by omega)]
     unfold cutA cutB;rw[Gd3 c1,Gd3 c2,Gd3 c1,Gd3 c2,hst]
     norm_cast
  ·unfold kzkc;dsimp only;rw[it_n (by omega),List.take_length]
 rw[e,bd_s]
def cnt:List wz2w->Int->Int
 |[],_=>0
 |h :: t,s=>(if h.Stage=s then h.Ticks else 0)+cnt t s
theorem jzmh:∀{t:List wz2w},(∀h∈t,1<=h.Ticks)->∀s,0<=cnt t s/\cnt t s<=hsum t
 |[],_,s=>⟨Gaw _,Gaw _⟩
 |h :: t,H,s=>by have h1:=H h (Gb5 ..);have h2:=jzmh (t:=t) (fun x hx=>H x (Gb4 _ hx)) s;simp only[cnt,hsum];split<;>omega
theorem jzln:∀{t:List wz2w} {s:Int},(∀h∈t,h.Stage≠s)->cnt t s=0
 |[],s,_=>rfl
 |h :: t,s,H=>by simp only[cnt];rw[Gd3 (H h (Gb5 ..)),jzln fun x hx=>H x (Gb4 _ hx)];rfl
theorem jzn0:∀{t:List wz2w},t.Pairwise (fun a b=>a.Stage<b.Stage)->∀h∈t,cnt t h.Stage=h.Ticks
 |k :: t,H,h,hm=>by
  obtain⟨h1,h2⟩:=Gcf.1 H;simp only[cnt];rcases Gb3.1 hm with rfl|hm
  ·rw[Gd4 rfl,jzln fun x hx=>by have:=h1 x hx;omega];omega
  ·rw[Gd3 (by have:=h1 h hm;omega),jzn0 h2 h hm];omega
theorem kzl3{t:List wz2w}(H:∀h∈t,1<=h.Ticks){s:Int}(h:0<cnt t s):∃k∈t,k.Stage=s:=by apply Classical.byContradiction;intro hn;rw[jzln fun k hk e=>hn ⟨k,hk,e⟩]at h;omega
theorem kzon:∀{t u:List wz2w},t.Pairwise (fun a b=>a.Stage<b.Stage)->u.Pairwise (fun a b=>a.Stage<b.Stage)->(∀h∈t,1<=h.Ticks)->(∀h∈u,1<=h.Ticks)->(∀s,cnt t s=cnt u s)->t=u
 |[],[],_,_,_,_,_=>rfl
 |[],k :: u,_,h2,_,h4,h=>by have h1:=jzn0 h2 k (Gb5 ..);have h5:=h4 k (Gb5 ..);have h6:=h k.Stage;simp only[cnt]at h6 h1;omega
 |k :: t,[],h1,_,h3,_,h=>by have h2:=jzn0 h1 k (Gb5 ..);have h5:=h3 k (Gb5 ..);have h6:=h k.Stage;simp only[cnt]at h6 h2;omega
 |k :: t,m :: u,h1,h2,h3,h4,h=>by
  obtain⟨a1,a2⟩:=Gcf.1 h1;obtain⟨b1,b2⟩:=Gcf.1 h2;have ck:=jzn0 h1 k (Gb5 ..);have cm:=jzn0 h2 m (Gb5 ..);have pk:=h3 k (Gb5 ..);have pm:=h4 m (Gb5 ..)
  have e1:k.Stage=m.Stage:=by
   obtain⟨x,hx,ex⟩:=kzl3 h4 (s:=k.Stage) (by rw[<-h];omega);obtain⟨y,hy,ey⟩:=kzl3 h3 (s:=m.Stage) (by rw[h];omega);rcases Gb3.1 hx with rfl|hx
   ·exact ex.symm
   ·rcases Gb3.1 hy with rfl|hy;·exact ey
    ·have:=b1 x hx;have:=a1 y hy;omega
  have e2:k.Ticks=m.Ticks:=by have:=h k.Stage;rw[ck,e1,cm]at this;exact this
  have e:k=m:=by cases k;cases m;simp only at e1 e2;subst e1 e2;rfl
  subst e;rw[kzon a2 b2 (fun x hx=>h3 x (Gb4 _ hx)) (fun x hx=>h4 x (Gb4 _ hx)) fun s=>by have:=h s;simp only[cnt]at this;omega]
def M(m:List (Int×Int))(s:Int):Int:=Option.getD (mget keqI m s) 0
theorem kzkq(m:List (Int×Int))(k v s:Int):M (mput keqI m k v) s=if s=k then v else M m s:=by unfold M;rw[wz8b];split<;>rfl
theorem kzo7(k v:Int):∀(m:List (Int×Int)),((mput keqI m k v).map (·.1))=if k∈m.map (·.1) then m.map (·.1) else m.map (·.1)++[k]
 |[]=>by simp[mput]
 |p :: m=>by
  unfold mput;by_cases h:k=p.1
  ·rw[show keqI k p.1=true by simp[keqI,h]];simp[h]
  ·rw[show keqI k p.1=false by simp[keqI,h]];simp only[Gb1];rw[kzo7 k v m];by_cases h2:k∈m.map (·.1)
   ·rw[Gd4 h2,Gd4 (Gb4 _ h2)]
   ·rw[Gd3 h2,Gd3 (by simp only[Gb3,Gd6];exact⟨h,h2⟩)];rfl
theorem kzp7{k v x:Int}{m:List (Int×Int)}:x∈(mput keqI m k v).map (·.1)↔x∈m.map (·.1)\/x=k:=by
 rw[kzo7];split
 ·rename_i h;exact⟨.inl,fun h'=>h'.elim id fun e=>e▸h⟩
 ·simp only[Gb2,Gcc]
structure MOk(m:List (Int×Int)):Prop where
 nd:(m.map (·.1)).Nodup
 st:∀s∈m.map (·.1),0<=s/\s<=1000
theorem MOk.nil:MOk []:=⟨List.nodup_nil,fun s h=>by cases h⟩
theorem MOk.put{m:List (Int×Int)}(H:MOk m){k v:Int}(hk:0<=k/\k<=1000):MOk (mput keqI m k v):=by
 refine⟨?_,fun s hs=>?_⟩
 ·rw[kzo7];split
  ·exact H.nd
  ·rename_i hn;rw[List.nodup_append];exact⟨H.nd,by simp,fun a ha b hb e=>by rw[Gcc.1 hb]at e;subst e;exact hn ha⟩
 ·rcases kzp7.1 hs with hs|rfl;·exact H.st s hs
  ·exact hk
theorem kzny:∀{l:List Int} {a b:Int},SAsc l->(∀x∈l,a<=x/\x<=b)->a<=b+1->(l.length:Int)<=b-a+1
 |[],a,b,_,_,h=>by simp;omega
 |x :: l,a,b,h,hb,_=>by obtain⟨h1,h2⟩:=Gcf.1 h;have hx:=hb x (Gb5 ..);have:=kzny (l:=l) (a:=x+1) (b:=b) h2 (fun y hy=>⟨by have:=h1 y hy;omega,(hb y (Gb4 _ hy)).2⟩) (by omega);simp only[Gbr];omega
theorem MOk.len{m:List (Int×Int)}(H:MOk m):m.length<=1001:=by have h:=kzny (a:=0) (b:=1000) (jzyw _ H.nd) (fun x hx=>H.st x ((jzyq _ x).1 hx)) (by omega);rw[jzy0,Gbu]at h;omega
theorem kzs8:∀{m:List (Int×Int)} {s:Int},M m s≠0->s∈m.map (·.1)
 |[],s,h=>absurd rfl h
 |p :: m,s,h=>by
  by_cases e:s=p.1
  ·rw[e];simp
  ·refine Gb4 _ (kzs8 (m:=m) fun h0=>h ?_);unfold M mget;rw[show keqI s p.1=false by simp[keqI,e]];exact h0
theorem kzoq:∀{l:List wz2w} {m:List (Int×Int)},(∀h∈l,1<=h.Ticks/\0<=h.Stage/\h.Stage<=1000)->MOk m->(∀s,0<=M m s/\M m s+hsum l<=1000000000) -> ∃m',addM l m=some m'/\MOk m'/\(∀s,M m' s=M m s+cnt l s)
 |[],m,_,hm,hb=>⟨m,rfl,hm,fun s=>by simp[cnt]⟩
 |h :: l,m,hl,hm,hb=>by
  obtain⟨h1,h2⟩:=hl h (Gb5 ..);have hl':∀h∈l,1<=h.Ticks/\0<=h.Stage/\h.Stage<=1000:=fun x hx=>hl x (Gb4 _ hx);have hs:=kzjx (t:=l) fun x hx=>(hl' x hx).1;have b1:=hb h.Stage;simp only[hsum]at b1 hb;obtain⟨m',e,k1,k2⟩:=kzoq (l:=l) (m:=mput keqI m h.Stage (M m h.Stage+h.Ticks)) hl' (hm.put h2) fun s=>by rw[kzkq];have:=hb s;split<;>omega
  refine⟨m',?_,k1,fun s=>?_⟩
  ·show ck (inB .i64 (M m h.Stage+h.Ticks)) _=_;rw[qz3 (by omega)];exact e
  ·rw[k2,kzkq];simp only[cnt];by_cases e:s=h.Stage
   ·subst e;rw[Gd4 rfl,Gd4 rfl];omega
   ·rw[Gd3 e,Gd3 fun e'=>e e'.symm];omega
def hT:List Tok->Int->Int
 |[],_=>0
 |.s v :: l,s=>(if v=s then 1 else 0)+hT l s
 |.t t :: l,s=>cnt t s+hT l s
theorem kzjc:∀(l m:List Tok) (s:Int),hT (l++m) s=hT l s+hT m s
 |[],m,s=>by simp[hT]
 |.s v :: l,m,s=>by show _+hT (l++m) s=_;rw[kzjc l m];simp only[hT];omega
 |.t t :: l,m,s=>by show _+hT (l++m) s=_;rw[kzjc l m];simp only[hT];omega
theorem kznw(n:Nat)(v s:Int):hT (List.replicate n (.s v)) s=if v=s then(n:Int) else 0:=by
 induction n with
 |zero=>simp[hT]
 |succ n ih =>rw[List.replicate_succ];show(if v=s then 1 else 0)+hT (List.replicate n (.s v)) s=_;rw[ih];split<;>omega
theorem kzl1:∀{l:List Tok},(∀k∈l,kzib k)->∀s,0<=hT l s/\hT l s<=wtL l
 |[],_,s=>⟨Gaw _,Gaw _⟩
 |.s v :: l,h,s=>by have:=kzl1 (l:=l) (fun x hx=>h x (Gb4 _ hx)) s;simp only[hT,wtL,wt];split<;>omega
 |.t t :: l,h,s=>by have h1:=kzl1 (l:=l) (fun x hx=>h x (Gb4 _ hx)) s;have hk:kzib (.t t):=h _ (Gb5 ..);have h2:=jzmh hk.1.tk s;simp only[hT,wtL,wt];omega
theorem kzmq{x:wz3g}(H:kzh8 x)(s:Int):hT (tk x) s=cnt x.Table s:=by
 have hb:=H.b;rcases H.cases with ⟨v,h1,h2,e1,e⟩|⟨h,e⟩
 ·rw[e,kznw]
  conv=>rhs;rw[e1]
  show _=(if v=s then x.To-x.From else 0)+0;split<;>omega
 ·rw[e];simp[hT]
theorem kznx:∀{l:List wz3g} {a b:Int} {m:List (Int×Int)},Ch a l b->MOk m->(∀s,0<=M m s/\M m s+(b-a)<=1000000000) -> ∃m',kzmo l m=some m'/\MOk m'/\(∀s,M m' s=M m s+hT (toks l) s)
 |[],a,b,m,_,hm,_=>⟨m,rfl,hm,fun s=>by simp[toks,hT]⟩
 |x :: l,a,b,m,⟨h1,h2,h3⟩,hm,hb=>by
  have hl:=h3.len;have hs:=h2.s;obtain⟨m1,e1,k1,k2⟩:=kzoq (l:=x.Table) (m:=m) (fun h hh=>⟨h2.t.tk h hh,h2.t.st h hh⟩) hm fun s=>by have:=hb s;omega
  obtain⟨m2,e2,k3,k4⟩:=kznx (l:=l) (m:=m1) h3 k1 fun s=>by have:=hb s;have:=jzmh h2.t.tk s;rw[k2];omega
  refine⟨m2,?_,k3,fun s=>?_⟩
  ·show bd (addM x.Table m) _=_;rw[e1,bd_s];exact e2
  ·rw[k4,k2];show _=_+hT (tk x++toks l) s;rw[kzjc,kzmq h2];omega
theorem kzok{m:List (Int×Int)}{k:Int}(H:MOk m)(hk:0<=k/\k<=1000)(hb:-1000<=M m k/\M m k<=1000000000):∃m',decM m k=some m'/\MOk m'/\∀s,M m' s=M m s-(if k=s then 1 else 0):=by
 refine⟨mput keqI m k (M m k-1),?_,H.put hk,fun s=>?_⟩
 ·show ck (inB .i64 (M m k-1)) _=_;rw[qz3 (by omega)];rfl
 ·rw[kzkq];by_cases e:s=k
  ·subst e;rw[Gd4 rfl,Gd4 rfl]
  ·rw[Gd3 e,Gd3 fun e'=>e e'.symm];omega
def kzjk(m:List (Int×Int)):List wz2w:=((jzpf (m.map (·.1))).filter fun s=>decide (0<M m s)).map fun s=>wz2w.mk s (M m s)
theorem kzsl{m:List (Int×Int)}(H:MOk m):(kzjk m).Pairwise (fun a b=>a.Stage<b.Stage)/\(∀h∈kzjk m,1<=h.Ticks/\0<=h.Stage/\h.Stage<=1000)/\∀s,0<=M m s->cnt (kzjk m) s=M m s:=by
 have h1:(kzjk m).Pairwise (fun a b=>a.Stage<b.Stage):=by unfold kzjk;rw[List.pairwise_map];exact List.Pairwise.filter _ (jzyw _ H.nd)
 have h2:∀h∈kzjk m,1<=h.Ticks/\0<=h.Stage/\h.Stage<=1000:=fun h hh=>by obtain⟨s,hs,rfl⟩:=Gb7.1 hh;obtain⟨hs,hp⟩:=List.mem_filter.1 hs;have:=Gd7 hp;exact⟨by show 1<=M m s;omega,H.st s ((jzyq _ s).1 hs)⟩
 refine⟨h1,h2,fun s hs=>?_⟩;by_cases h0:0<M m s
 ·have hm:wz2w.mk s (M m s)∈kzjk m:=Gb7.2 ⟨s,List.mem_filter.2 ⟨(jzyq _ s).2 (kzs8 (by omega)),Gdy h0⟩,rfl⟩;exact jzn0 h1 _ hm
 ·rw[show M m s=0 by omega];refine jzln fun h hh=>?_;obtain⟨u,hu,rfl⟩:=Gb7.1 hh;obtain⟨_,hp⟩:=List.mem_filter.1 hu;have:=Gd7 hp;rintro rfl;exact h0 this
def tot(f:Int->Int):Nat->Int
 |0=>0
 |n+1=>tot f n+f n
theorem kzl4(f g:Int->Int):∀n,tot (fun s=>f s+g s) n=tot f n+tot g n
 |0=>rfl
 |n+1=>by simp only[tot];rw[kzl4 f g n];omega
theorem kzj9{f g:Int->Int}(h:∀s,f s=g s)(n:Nat):tot f n=tot g n:=by rw[show f=g from funext h]
theorem kzm2(v k:Int):∀n:Nat,tot (fun s=>if v=s then k else 0) n=if 0<=v/\v<n then k else 0
 |0=>by simp only[tot];rw[Gd3 (by omega)]
 |n+1=>by
  simp only[tot];rw[kzm2 v k n];by_cases h1:v=(n:Int)
  ·rw[Gd3 (by omega),Gd4 h1,Gd4 (by omega)];omega
  ·rw[Gd3 h1];by_cases h2:0<=v/\v<n
   ·rw[Gd4 h2,Gd4 (by omega)];omega
   ·rw[Gd3 h2,Gd3 (by omega)];omega
theorem qz3m:∀n,tot (fun _=>0) n=0
 |0=>rfl
 |n+1=>by simp only[tot];rw[qz3m n];rfl
theorem kzld:∀{t:List wz2w},(∀h∈t,0<=h.Stage/\h.Stage<=1000)->tot (cnt t) 1001=hsum t
 |[],_=>qz3m 1001
 |h :: t,H=>by have h1:=H h (Gb5 ..);rw[kzj9 (f:=cnt (h :: t)) (g:=fun s=>(if h.Stage=s then h.Ticks else 0)+cnt t s) (fun s=>rfl),kzl4,kzm2,Gd4 (by omega),kzld fun x hx=>H x (Gb4 _ hx)];rfl
theorem kzlu:∀{l:List Tok},(∀k∈l,kzib k)->tot (hT l) 1001=wtL l
 |[],_=>qz3m 1001
 |.s v :: l,h=>by have h1:kzib (.s v):=h _ (Gb5 ..);have h2:0<=v/\v<=1000:=h1;rw[kzj9 (f:=hT (.s v :: l)) (g:=fun s=>(if v=s then 1 else 0)+hT l s) (fun s=>rfl),kzl4,kzm2,Gd4 (by omega),kzlu fun x hx=>h x (Gb4 _ hx)];rfl
 |.t t :: l,h=>by have h1:kzib (.t t):=h _ (Gb5 ..);rw[kzj9 (f:=hT (.t t :: l)) (g:=fun s=>cnt t s+hT l s) (fun s=>rfl),kzl4,kzld h1.1.st,kzlu fun x hx=>h x (Gb4 _ hx)];rfl
theorem kzp6{x:wz3g}{l:List wz3g}{u:Int}{r:List Tok}(H:kzh8 x)(h:toks (x :: l)=.s u :: r):∃h0,x.Table=[h0]/\h0.Stage=u:=by
 have hb:=H.b;have h:tk x++toks l=.s u :: r:=h;rcases H.cases with ⟨s,s1,s2,e1,e⟩|⟨h2,e⟩
 ·obtain⟨n,hn⟩:∃n:Nat,(x.To-x.From).toNat=n+1:=⟨(x.To-x.From).toNat-1,by omega⟩;rw[e,hn,List.replicate_succ]at h;have:=(List.cons.inj h).1;cases this;exact⟨_,by rw[e1];rfl,rfl⟩
 ·rw[e]at h;have:=(List.cons.inj h).1;cases this
theorem kzsi{x:wz3g}{l:List wz3g}{v:Int}{r:List Tok}(H:kzh8 x)(h:toks (l++[x])=r++[.s v]):∃h0,x.Table=[h0]/\h0.Stage=v:=by
 have hb:=H.b;rw[kzi0]at h;have h:toks l++(tk x++[])=r++[.s v]:=h;rw[List.append_nil]at h;rcases H.cases with ⟨s,s1,s2,e1,e⟩|⟨h2,e⟩
 ·obtain⟨n,hn⟩:∃n:Nat,(x.To-x.From).toNat=n+1:=⟨(x.To-x.From).toNat-1,by omega⟩;rw[e,hn,List.replicate_succ',<-List.append_assoc]at h;have:=(List.append_inj' h rfl).2;cases this;exact⟨_,by rw[e1];rfl,rfl⟩
 ·rw[e]at h;have:=(List.append_inj' h rfl).2;cases this
theorem kzol:∀{l:List wz3g} {a b:Int},Ch a l b->l≠[]->strs l=[l]
 |[x],a,b,_,_=>rfl
 |x :: y :: l,a,b,⟨h1,h2,h3⟩,_=>by
  have e:=kzol h3 (by simp)
  show(match strs (y :: l) with
   |(y :: p) :: q=>bif !decide (x.Table=[])&&!decide (y.Table=[]) then(x :: y :: p) :: q else [x] :: (y :: p) :: q
   | _=>[[x]])=_
  rw[e];dsimp only;rw[Gdw h2.t.ne,Gdw h3.2.1.t.ne];rfl
def smT(a b u v:Int)(tab:List wz2w):List Tok:=if b-a=1 then [.s u] else .s u :: ((if a+1<b-1 then tk ⟨a+1,b-1,tab,0,0⟩ else [])++[.s v])
structure TabC(tab:List wz2w)(c:Int->Int):Prop where
 asc:tab.Pairwise fun a b=>a.Stage<b.Stage
 ok:∀h∈tab,1<=h.Ticks/\0<=h.Stage/\h.Stage<=1000
 c:∀s,cnt tab s=c s
def inn(ts:List Tok)(u v s:Int):Int:=hT ts s-(if u=s then 1 else 0)-(if v=s then 1 else 0)
theorem kzkp{ts r r':List Tok}{u v:Int}(h1:ts=.s u :: r)(h2:ts=r'++[.s v])(hw:1<wtL ts):∃m,ts=.s u :: (m++[.s v]):=by
 cases r' with
 |nil =>rw[h2]at hw;simp[wtL,wt]at hw
 |cons k r' =>rw[h1]at h2;obtain⟨rfl,e⟩:=List.cons.inj h2;exact⟨r',by rw[h1,e];rfl⟩
theorem kzu8{l:List wz3g}{a b u v:Int}{r r':List Tok}(H:Ch a l b)(hl:l≠[])(hb:b-a<=2000)(h1:toks l=.s u :: r)(h2:toks l=r'++[.s v]) : ∃l' tab,kzii l=some (l',0)/\Ch a l' b/\toks l'=smT a b u v tab/\(2<b-a->TabC tab (inn (toks l) u v)):=by
 have hn:=H.len;obtain⟨hw,htk⟩:=H.tok;have hu:0<=u/\u<=1000:=htk (.s u) (by rw[h1];exact Gb5 ..);have hv:0<=v/\v<=1000:=htk (.s v) (by rw[h2];simp);have hT0:=kzl1 htk;have h0:=List.length_pos_iff.2 hl;obtain⟨x,lx,rfl⟩:∃x m,l=x :: m:=List.exists_cons_of_ne_nil hl;obtain⟨x1,x2,x3⟩:=H;have H:Ch a (x :: lx) b:=⟨x1,x2,x3⟩;have xa:=x2.a;obtain⟨ly,y,e⟩:∃m y,x :: lx=m++[y]:=(kzi3 (x :: lx)).resolve_left hl;have Hy:=H;rw[e]at Hy;obtain⟨y1,y2,y3⟩:=Ch.snoc.1 Hy;have yc:=y2.c;have yb:=y2.b;have yl:=y1.len;obtain⟨hx,ex1,ex2⟩:=kzp6 x2 h1;obtain⟨hy,ey1,ey2⟩:=kzsi y2 (by rw[<-e];exact h2);obtain⟨m1,a1,a2,a3⟩:=kznx (m:=[]) H MOk.nil fun s=>⟨Gaw _,by show(0:Int)+_<=_;omega⟩;have a3:∀s,M m1 s=hT (toks (x :: lx)) s:=fun s=>by rw[a3];show(0:Int)+_=_;omega
 obtain⟨m2,b1,b2,b3⟩:=kzok a2 hu (by rw[a3];have:=hT0 u;omega);obtain⟨m3,c1,c2,c3⟩:=kzok b2 hv (by rw[b3,a3];have:=hT0 v;split<;>omega);have hM:∀s,M m3 s=inn (toks (x :: lx)) u v s:=fun s=>by rw[c3,b3,a3];rfl
 have hlen3:=c2.len;obtain⟨t1,t2,t3⟩:=kzsl c2
 have hin:2<=b-a->∃m,toks (x :: lx)=.s u :: (m++[.s v])/\(∀k∈m,kzib k)/\wtL m=b-a-2/\∀s,inn (toks (x :: lx)) u v s=hT m s:=fun h=>by
  obtain⟨m,em⟩:=kzkp h1 h2 (by omega);refine⟨m,em,fun k hk=>htk k (by rw[em];simp[hk]),?_,fun s=>?_⟩
  ·have:=hw;rw[em]at this;simp only[wtL,kzh5,wt]at this;omega
  ·unfold inn;rw[em];show(if u=s then 1 else 0)+hT (m++[.s v]) s-_-_=_;rw[kzjc];show(if u=s then 1 else 0)+(hT m s+((if v=s then 1 else 0)+0))-_-_=_;omega
 have hC:2<b-a->TabC (kzjk m3) (inn (toks (x :: lx)) u v):=fun h=>by obtain⟨m,em,hm,_,hi⟩:=hin (by omega);exact⟨t1,t2,fun s=>by rw[t3 s (by rw[hM,hi];exact(kzl1 hm s).1),hM]⟩
 have hmid:2<b-a->kzh8 ⟨a+1,b-1,kzjk m3,0,0⟩:=fun h=>by
  obtain⟨m,em,hm,wm,hi⟩:=hin (by omega);have hs:hsum (kzjk m3)=b-a-2:=by rw[<-kzld fun h hh=>(t2 h hh).2,kzj9 (g:=hT m) (fun s=>by rw[(hC h).c,hi]),kzlu hm,wm]
  refine⟨by show 0<=a+1;omega,by show a+1<b-1;omega,by show b-1<=_;omega,⟨fun e0=>?_,fun h hh=>(t2 h hh).2,fun h hh=>(t2 h hh).1,t1⟩,by rw[hs];show b-a-2=b-1-(a+1);omega,rfl,rfl⟩;rw[show kzjk m3=[] from e0]at hs;simp only[hsum]at hs;omega
 let out:List wz3g:=[]++[rawR a (a+1) u]++(bif decide (a+1<b-1) then [wz3g.mk (a+1) (b-1) (kzjk m3) 0 0] else [])++(bif decide (a+1<b) then [rawR (b-1) b v] else [])
 have hout:Ch a out b/\toks out=smT a b u v (kzjk m3):=by
  have r1:kzh8 (rawR a (a+1) u):=kzkk (by omega) (by omega) (by omega) hu;have r2:1<b-a->kzh8 (rawR (b-1) b v):=fun h=>kzkk (by omega) (by omega) (by omega) hv;have k1:tk (rawR a (a+1) u)=[.s u]:=by rw[kzk9,show(a+1-a).toNat=1 by omega];rfl
  have k2:tk (rawR (b-1) b v)=[.s v]:=by rw[kzk9,show(b-(b-1)).toNat=1 by omega];rfl
  show Ch a ([rawR a (a+1) u]++_++_) b/\toks ([rawR a (a+1) u]++_++_)=_;unfold smT;by_cases g1:b-a=1
  ·rw[Gdw (show ¬a+1<b-1 by omega),Gdw (show ¬a+1<b by omega),Gd4 g1];exact⟨⟨rfl,r1,by show a+1=b;omega⟩,by show tk _++[]=_;rw[k1];rfl⟩
  ·rw[Gd3 g1,Gdy (show a+1<b by omega)];by_cases g2:a+1<b-1
   ·rw[Gdy g2,Gd4 g2];exact⟨⟨rfl,r1,rfl,hmid (by omega),rfl,r2 (by omega),rfl⟩,by show tk _++(tk _++(tk _++[]))=_;rw[k1,k2];rfl⟩
   ·rw[Gdw g2,Gd3 g2];exact⟨⟨rfl,r1,by show b-1=a+1;omega,r2 (by omega),rfl⟩,by show tk _++(tk _++[])=_;rw[k1,k2];rfl⟩
 obtain⟨o1,o2⟩:=hout;have of1:=kzkj (out:=[]) (a:=a) (c:=a) rfl o1;have of2:=of1.len;refine⟨out.foldl kzh2 [],kzjk m3,?_,of1,by rw[kzk2 (out:=[]) (a:=a) (c:=a) rfl o1];exact o2,hC⟩
 have hpart:kzle [] (x :: lx)=some (.inl out):=by
  unfold kzle;have gl:(x :: lx)[(x :: lx).length-1]?=some y:=by rw[e];simp
  rw[at_e (j:=0) (n:=0) rfl (rfl:(x :: lx)[0]?=some x),bd_s,at_e (n:=(x :: lx).length-1) (by omega) gl,bd_s,it_n x2.t.ne,ex1,ey1];simp only[Gby,decide_true,Bool.and_self,Gaq,qzil]
  rw[at_e (j:=0) (n:=0) rfl (rfl:[hx][0]?=some hx),bd_s,at_e (j:=0) (n:=0) rfl (rfl:[hy][0]?=some hy),bd_s,x1,y3,ex2,ey2,qz3 (by omega),kzkr (by omega) (by omega) (by omega),bd_s,
   a1,bd_s,b1,bd_s,c1,bd_s,qz3 (by omega)]
  unfold jzoa;rw[ck_d (by omega),bd_s];by_cases g1:a+1<b
  ·rw[Gdy g1];simp only[Gdu];rw[kzkr (by omega) (by omega) (by omega),bd_s,bd_s];show _=some (Sum.inl ([]++[rawR a (a+1) u]++(bif decide (a+1<b-1) then [wz3g.mk (a+1) (b-1) (kzjk m3) 0 0] else [])++(bif decide (a+1<b) then [rawR (b-1) b v] else [])));rw[Gdy g1];rfl
  ·rw[Gdw g1];simp only[Gdt];rw[bd_s];show _=some (Sum.inl ([]++[rawR a (a+1) u]++(bif decide (a+1<b-1) then [wz3g.mk (a+1) (b-1) (kzjk m3) 0 0] else [])++(bif decide (a+1<b) then [rawR (b-1) b v] else [])));rw[Gdw g1];rfl
 unfold kzii;rw[qzue H hb,bd_s,qzk5 rfl,kzll H,wzdp,kzol H hl];show bd (bd (kzle [] (x :: lx)) _) _=_;rw[hpart,bd_s];show bd (kzie out (fun a0 a1=>kzh9 a0 a1)) _=_;rw[kzlp o1 hb,bd_s,it_n (by omega)]
def Rawt(l:List Tok):Prop:=∀k∈l,∃v,k=.s v/\0<=v/\v<=1000
theorem Rawt.ok{l:List Tok}(h:Rawt l):∀k∈l,kzib k:=fun k hk=>by obtain⟨v,rfl,h1,h2⟩:=h k hk;exact⟨h1,h2⟩
theorem Rawt.left{l m:List Tok}(h:Rawt (l++m)):Rawt l:=fun k hk=>h k (List.mem_append_left _ hk)
theorem Rawt.right{l m:List Tok}(h:Rawt (l++m)):Rawt m:=fun k hk=>h k (List.mem_append_right _ hk)
theorem Rawt.wt{l:List Tok}(h:Rawt l):wtL l=l.length:=by
 induction l with
 |nil=>rfl
 |cons k l ih =>obtain⟨v,rfl,_⟩:=h k (Gb5 ..);simp only[wtL,Am.wt,Gbr];rw[ih fun k hk=>h k (Gb4 _ hk)];omega
def BOk(hi:Int):Int->List kzht->Prop
 |_,[]=>True
 |lo,x :: r=>(x.Level=0->BOk hi lo r)/\(x.Level≠0->kziw x=some true/\lo<=x.From/\x.From<x.To/\x.To<=hi/\BOk hi x.To r)
structure SmOk(a b:Int)(q:List Tok)(o:List Tok):Prop where
 ex:∃u v tab,(∃r,q=.s u :: r)/\(∃r,q=r++[.s v])/\o=smT a b u v tab/\(2<b-a->TabC tab (inn q u v))
 w:wtL o=b-a
 k:∀k∈o,kzib k
def kzh4:Int->List Tok->List kzht->List Tok->Prop
 |_,ts,[],o=>o=ts
 |lo,ts,x :: r,o=>(x.Level=0->kzh4 lo ts r o)/\(x.Level≠0->∃p q w s o',ts=p++(q++w)/\wtL p=x.From-lo/\wtL q=x.To-x.From/\SmOk x.From x.To q s/\o=p++(s++o')/\kzh4 x.To w r o')
def SpT:Int->List Tok->List kzht->Prop
 |_,_,[]=>True
 |lo,ts,x :: r=>(x.Level=0->SpT lo ts r)/\(x.Level≠0->∃p q w u v,ts=p++(q++w)/\wtL p=x.From-lo/\wtL q=x.To-x.From/\(∃r,q=.s u :: r)/\(∃r,q=r++[.s v])/\SpT x.To w r)
theorem kzlg{p q p' q':List Tok}(h:p++q=p'++q')(hp:∀k∈p,kzib k)(hp':∀k∈p',kzib k)(hw:wtL p=wtL p'):p=p'/\q=q':=by obtain⟨c,h1,h2⟩:=kzku h hp (by omega);subst h1;rw[kzh5]at hw;have:=kzi7 (l:=c) fun k hk=>hp' k (List.mem_append_right _ hk);have hc:c=[]:=Gbt.1 (by omega);subst hc;exact⟨by simp,by simpa using h2⟩
theorem kzl6{ts:List Tok}(h:Rawt ts){n:Int}(h0:0<=n)(h1:n<=wtL ts):∃p w,ts=p++w/\wtL p=n:=by rw[h.wt]at h1;refine⟨ts.take n.toNat,ts.drop n.toNat,(Gcj _ _).symm,?_⟩;have:=(Rawt.left (l:=ts.take n.toNat) (m:=ts.drop n.toNat) (by rw[Gcj];exact h)).wt;rw[this,Gbz];omega
theorem kznu{q:List Tok}(h:Rawt q)(hw:0<wtL q):∃u v,(∃r,q=.s u :: r)/\(∃r,q=r++[.s v]):=by
 cases q with
 |nil=>simp[wtL]at hw
 |cons k r =>
  obtain⟨u,rfl,_⟩:=h k (Gb5 ..);rcases kzi3 (Tok.s u :: r) with e|⟨m,k,e⟩
  ·cases e
  ·obtain⟨v,rfl,_⟩:=h k (by rw[e];simp);exact⟨u,v,⟨r,rfl⟩,⟨m,e⟩⟩
theorem SpT.raw{hi:Int}:∀{L:List kzht} {lo:Int} {ts:List Tok},Rawt ts->BOk hi lo L->lo+wtL ts=hi->SpT lo ts L
 |[],lo,ts,_,_,_=>trivial
 |x :: r,lo,ts,h,hb,hw=>by refine⟨fun e=>SpT.raw h (hb.1 e) hw,fun e=>?_⟩;obtain⟨_,b1,b2,b3,b4⟩:=hb.2 e;obtain⟨p,t,rfl,hp⟩:=kzl6 h (n:=x.From-lo) (by omega) (by omega);rw[kzh5]at hw;obtain⟨q,w,rfl,hq⟩:=kzl6 h.right (n:=x.To-x.From) (by omega) (by omega);obtain⟨u,v,e1,e2⟩:=kznu h.right.left (by omega);rw[kzh5]at hw;exact⟨p,q,w,u,v,rfl,hp,hq,e1,e2,SpT.raw h.right.right b4 (by omega)⟩
theorem kzh4.pre:∀{A:List kzht} {lo:Int} {p t o:List Tok},kzh4 lo (p++t) A o->(∀k∈p++t,kzib k)->(∀x∈A,x.Level≠0->lo+wtL p<=x.From)->∃o',o=p++o'/\kzh4 (lo+wtL p) t A o'
 |[],lo,p,t,o,h,_,_=>⟨t,h,rfl⟩
 |x :: A,lo,p,t,o,h,hk,ha=>by
  by_cases e:x.Level=0
  ·obtain⟨o',e1,e2⟩:=kzh4.pre (h.1 e) hk fun y hy=>ha y (Gb4 _ hy);exact⟨o',e1,fun _=>e2,fun e'=>absurd e e'⟩
  ·obtain⟨p',q,w,s,o',h1,h2,h3,h4,h5,h6⟩:=h.2 e;have hx:=ha x (Gb5 ..) e;obtain⟨c,rfl,e2⟩:=kzku h1 (fun k hm=>hk k (List.mem_append_left _ hm)) (by omega);rw[kzh5]at h2;refine⟨c++(s++o'),by rw[h5,List.append_assoc],(fun e'=>absurd e' e),fun _=>⟨c,q,w,s,o',e2,by omega,h3,h4,rfl,h6⟩⟩
theorem kzh4.cut:∀{A1 A2:List kzht} {lo hi:Int} {q w o:List Tok},kzh4 lo (q++w) (A1++A2) o->(∀k∈q++w,kzib k)->BOk hi lo A1->lo+wtL q=hi->(∀x∈A2,x.Level≠0->hi<=x.From) -> ∃o1 o2,o=o1++o2/\kzh4 lo q A1 o1/\kzh4 hi w A2 o2
 |[],A2,lo,hi,q,w,o,h,hk,_,hw,ha=>by obtain⟨o',e1,e2⟩:=kzh4.pre (A:=A2) h hk (by rw[hw];exact ha);exact⟨q,o',e1,rfl,by rw[<-hw];exact e2⟩
 |x :: A1,A2,lo,hi,q,w,o,h,hk,hb,hw,ha=>by
  by_cases e:x.Level=0
  ·obtain⟨o1,o2,e1,e2,e3⟩:=kzh4.cut (A1:=A1) (h.1 e) hk (hb.1 e) hw ha;exact⟨o1,o2,e1,⟨fun _=>e2,fun e'=>absurd e e'⟩,e3⟩
  ·obtain⟨p',q',w',s,o',h1,h2,h3,h4,h5,h6⟩:=h.2 e;obtain⟨_,b1,b2,b3,b4⟩:=hb.2 e;have h1':(p'++q')++w'=q++w:=by rw[h1,List.append_assoc]
   have hk':∀k∈p'++q',kzib k:=fun k hm=>hk k (by rw[<-h1'];exact List.mem_append_left _ hm);obtain⟨c,e1,e2⟩:=kzku h1' hk' (by rw[kzh5];omega);subst e1;subst e2;rw[kzh5,kzh5]at hw;obtain⟨o1,o2,f1,f2,f3⟩:=kzh4.cut (A1:=A1) (q:=c) (w:=w) h6 (fun k hm=>hk k (by rcases Gb2.1 hm with hm | hm;exact List.mem_append_left _ (List.mem_append_right _ hm);exact List.mem_append_right _ hm)) b4 (by omega) ha;refine⟨p'++(s++o1),o2,by rw[h5,f1];simp,⟨(fun e'=>absurd e' e),fun _=>⟨p',q',c,s,o1,by simp,h2,h3,h4,rfl,f2⟩⟩,f3⟩
theorem kzvx{x:wz3g}(hs:hsum x.Table=x.To-x.From)(hb:x.From<=x.To)(s:Int):hT (tk x) s=cnt x.Table s:=by
 by_cases h:x.Table.length=1
 ·obtain⟨u,e⟩:=List.length_eq_one_iff.1 h;unfold tk;rw[e]at hs ⊢;simp only[hsum]at hs;dsimp only;rw[kznw];simp only[cnt];split<;>omega
 ·rw[kzkv h];simp[hT]
theorem SmOk.same{a b:Int}{q o:List Tok}(h:SmOk a b q o)(hw:wtL q=b-a)(hk:∀k∈q,kzib k):(∀s,hT o s=hT q s)/\(∃u,(∃r,q=.s u :: r)/\∃r,o=.s u :: r)/\∃v,(∃r,q=r++[.s v])/\∃r,o=r++[.s v]:=by
 obtain⟨⟨u,v,tab,⟨r,h1⟩,⟨r',h2⟩,h3,h4⟩,h5,h6⟩:=h;unfold smT at h3;by_cases c1:b-a=1
 ·rw[Gd4 c1]at h3
  have hq:q=[.s u]:=by
   have hr:wtL r=0:=by rw[h1]at hw;simp only[wtL,wt]at hw;omega
   have:=kzi7 (l:=r) fun k hm=>hk k (by rw[h1];exact Gb4 _ hm);rw[h1,Gbt.1 (show r.length=0 by omega)]
  rw[hq]at h2
  have:r'=[]/\u=v:=by
   cases r' with
   |nil=>cases h2;exact⟨rfl,rfl⟩
   |cons k r'=>have:=(List.cons.inj h2).2;simp at this
  obtain⟨_,rfl⟩:=this;subst h3 hq;exact⟨fun s=>rfl,⟨u,⟨[],rfl⟩,[],rfl⟩,u,⟨[],rfl⟩,[],rfl⟩
 ·rw[Gd3 c1]at h3
  have hp:1<wtL q:=by
   have hr:=kzi7 (l:=r) fun k hm=>hk k (by rw[h1];exact Gb4 _ hm);have:wtL q=1+wtL r:=by rw[h1];rfl
   omega
  obtain⟨m,em⟩:=kzkp h1 h2 hp;have hm:∀k∈m,kzib k:=fun k hh=>hk k (by rw[em];simp[hh]);have wm:wtL m=b-a-2:=by rw[em]at hw;simp only[wtL,kzh5,wt]at hw;omega
  have hi:∀s,inn q u v s=hT m s:=fun s=>by unfold inn;rw[em];show(if u=s then 1 else 0)+hT (m++[.s v]) s-_-_=_;rw[kzjc];show(if u=s then 1 else 0)+(hT m s+((if v=s then 1 else 0)+0))-_-_=_;omega
  have hmid:∀s,hT (if a+1<b-1 then tk ⟨a+1,b-1,tab,0,0⟩ else []) s=hT m s:=fun s=>by
   by_cases c2:a+1<b-1
   ·have C:=h4 (by omega);have hs:hsum tab=b-a-2:=(by rw[<-kzld fun h hh=>(C.ok h hh).2,kzj9 (g:=hT m) (fun s=>by rw[C.c,hi]),kzlu hm,wm]);rw[Gd4 c2,kzvx (by show hsum tab=b-1-(a+1);omega) (by show a+1<=b-1;omega)];show cnt tab s=_;rw[C.c,hi]
   ·rw[Gd3 c2];have:=kzi7 hm;rw[Gbt.1 (show m.length=0 by omega)]
  refine⟨fun s=>?_,⟨u,⟨_,h1⟩,_,h3⟩,v,⟨_,h2⟩,?_⟩
  ·rw[h3,em];show(if u=s then 1 else 0)+hT (_++[.s v]) s=(if u=s then 1 else 0)+hT (m++[.s v]) s;rw[kzjc,kzjc,hmid]
  ·exact⟨.s u :: (if a+1<b-1 then tk ⟨a+1,b-1,tab,0,0⟩ else []),by rw[h3];rfl⟩
theorem kzh4.same{hi:Int}:∀{A:List kzht} {lo:Int} {ts o:List Tok},kzh4 lo ts A o->Rawt ts->BOk hi lo A -> (∀s,hT o s=hT ts s)/\wtL o=wtL ts/\(∀k∈o,kzib k)/\(∀u,(∃r,ts=.s u :: r)->∃r,o=.s u :: r)/\(∀v,(∃r,ts=r++[.s v])->∃r,o=r++[.s v])
 |[],lo,ts,o,h,hr,_=>by have h:o=ts:=h;subst h;exact⟨fun s=>rfl,rfl,hr.ok,fun u h=>h,fun v h=>h⟩
 |x :: A,lo,ts,o,h,hr,hb=>by
  by_cases e:x.Level=0
  ·exact kzh4.same (h.1 e) hr (hb.1 e)
  ·obtain⟨p,q,w,s,o',h1,h2,h3,h4,h5,h6⟩:=h.2 e;obtain⟨_,b1,b2,b3,b4⟩:=hb.2 e;subst h1 h5;obtain⟨k1,k2,k3,k4,k5⟩:=kzh4.same h6 hr.right.right b4;obtain⟨m1,⟨u,⟨r1,m2⟩,r2,m3⟩,v,⟨r3,m4⟩,r4,m5⟩:=h4.same h3 hr.right.left.ok;refine⟨fun t=>by rw[kzjc,kzjc,kzjc,kzjc,m1,k1],by rw[kzh5,kzh5,kzh5,kzh5,k2,h4.w,h3],fun k hk=>?_,fun a ⟨r,ha⟩=>?_,fun a ⟨r,ha⟩=>?_⟩
   ·rcases Gb2.1 hk with hk|hk;·exact hr.left.ok k hk
    ·rcases Gb2.1 hk with hk|hk;·exact h4.k k hk
     ·exact k3 k hk
   ·cases p with
    |nil =>rw[m2]at ha;have:=(List.cons.inj ha).1;cases this;rw[m3];exact⟨r2++o',rfl⟩
    |cons c p =>have:=(List.cons.inj ha).1;subst this;exact⟨_,rfl⟩
   ·rcases kzi3 w with rfl|⟨w',c,rfl⟩
    ·have h6:o'=[]:=by
      have:=kzi7 k3;have e0:wtL ([]:List Tok)=0:=rfl;exact Gbt.1 (by omega)
     subst h6;rw[m4,List.append_nil,<-List.append_assoc]at ha;have:=(List.append_inj' ha rfl).2;cases this;exact⟨p++r4,by rw[m5];simp⟩
    ·rw[<-List.append_assoc,<-List.append_assoc]at ha;have hc:=(List.append_inj' ha rfl).2;cases hc;obtain⟨r5,e5⟩:=k5 a ⟨w',rfl⟩;exact⟨p++(s++r5),by rw[e5];simp⟩
def InB(A L:List kzht):Prop:=∀x∈A,x.Level≠0->∃z∈L,z.Level≠0/\z.From<=x.From/\x.To<=z.To
theorem BOk.le{hi:Int}:∀{A:List kzht} {lo:Int},BOk hi lo A->∀x∈A,x.Level≠0->lo<=x.From/\x.From<x.To/\x.To<=hi
 |y :: A,lo,hb,x,hx,e=>by
  by_cases e':y.Level=0
  ·rcases Gb3.1 hx with rfl|hx;·exact absurd e' e
   ·exact(hb.1 e').le x hx e
  ·obtain⟨_,b1,b2,b3,b4⟩:=hb.2 e';rcases Gb3.1 hx with rfl|hx
   ·exact⟨b1,b2,b3⟩
   ·have:=b4.le x hx e;exact⟨by omega,this.2⟩
theorem BOk.hi{hi hi':Int}:∀{A:List kzht} {lo:Int},BOk hi lo A->(∀x∈A,x.Level≠0->x.To<=hi')->BOk hi' lo A
 |[],lo,_,_=>trivial
 |y :: A,lo,hb,h=>by refine⟨fun e=>(hb.1 e).hi fun x hx=>h x (Gb4 _ hx),fun e=>?_⟩;obtain⟨b0,b1,b2,b3,b4⟩:=hb.2 e;exact⟨b0,b1,b2,h y (Gb5 ..) e,b4.hi fun x hx=>h x (Gb4 _ hx)⟩
theorem BOk.lo{hi lo lo':Int}:∀{A:List kzht},BOk hi lo A->(∀x∈A,x.Level≠0->lo'<=x.From)->BOk hi lo' A
 |[],_,_=>trivial
 |y :: A,hb,h=>by refine⟨fun e=>(hb.1 e).lo fun x hx=>h x (Gb4 _ hx),fun e=>?_⟩;obtain⟨b0,b1,b2,b3,b4⟩:=hb.2 e;exact⟨b0,h y (Gb5 ..) e,b2,b3,b4⟩
theorem kzmb{hi:Int}{z:kzht}{r:List kzht}(hz:z.Level≠0)(hr:BOk hi z.To r):∀{A:List kzht} {lo:Int},BOk hi lo A->InB A (z :: r) -> ∃A1 A2,A=A1++A2/\BOk z.To lo A1/\(∀x∈A1,x.Level≠0->z.From<=x.From)/\BOk hi z.To A2/\InB A2 r
 |[],lo,_,_=>⟨[],[],rfl,trivial,(fun x hx=>by cases hx),trivial,fun x hx=>by cases hx⟩
 |y :: A,lo,hb,hi'=>by
  have hA:InB A (z :: r):=fun x hx=>hi' x (Gb4 _ hx);by_cases e:y.Level=0
  ·obtain⟨A1,A2,rfl,k1,k2,k3,k4⟩:=kzmb hz hr (hb.1 e) hA;refine⟨y :: A1,A2,rfl,⟨fun _=>k1,fun e'=>absurd e e'⟩,fun x hx e'=>?_,k3,k4⟩;rcases Gb3.1 hx with rfl|hx
   ·exact absurd e e'
   ·exact k2 x hx e'
  ·obtain⟨b0,b1,b2,b3,b4⟩:=hb.2 e;by_cases hin:z.From<=y.From/\y.To<=z.To
   ·obtain⟨A1,A2,rfl,k1,k2,k3,k4⟩:=kzmb hz hr b4 hA;refine⟨y :: A1,A2,rfl,⟨(fun e'=>absurd e' e),fun _=>⟨b0,b1,b2,hin.2,k1⟩⟩,fun x hx e'=>?_,k3,k4⟩;rcases Gb3.1 hx with rfl|hx
    ·exact hin.1
    ·exact k2 x hx e'
   ·have hy:z.To<=y.From:=by
     obtain⟨z',hz',e1,e2,e3⟩:=hi' y (Gb5 ..) e;rcases Gb3.1 hz' with rfl|hz'
     ·exact absurd ⟨e2,e3⟩ hin
     ·have:=hr.le z' hz' e1;omega
    have hall:∀x∈y :: A,x.Level≠0->z.To<=x.From:=fun x hx e'=>by
     rcases Gb3.1 hx with rfl|hx
     ·exact hy
     ·have:=b4.le x hx e';omega
    refine⟨[],y :: A,rfl,trivial,(fun x hx=>by cases hx),hb.lo hall,fun x hx e'=>?_⟩;obtain⟨z',hz',e1,e2,e3⟩:=hi' x hx e';rcases Gb3.1 hz' with rfl|hz'
    ·have:=hall x hx e';have:=(hb.le x hx e').2;omega
    ·exact⟨z',hz',e1,e2,e3⟩
theorem kzp0{t u:List wz2w}{c:Int->Int}(h1:TabC t c)(h2:TabC u c):t=u :=
 kzon h1.asc h2.asc (fun h hh=>(h1.ok h hh).1) (fun h hh=>(h2.ok h hh).1) fun s=>by rw[h1.c,h2.c]
theorem SmOk.uniq{a b:Int}{q q' o o':List Tok}(h:SmOk a b q o)(h':SmOk a b q' o')(hs:∀s,hT q s=hT q' s)(hu:∀u,(∃r,q=.s u :: r)->∃r,q'=.s u :: r)(hv:∀v,(∃r,q=r++[.s v])->∃r,q'=r++[.s v]):o=o':=by
 obtain⟨⟨u,v,tab,h1,h2,h3,h4⟩,h5,h6⟩:=h;obtain⟨⟨u',v',tab',⟨r1,h1'⟩,⟨r2,h2'⟩,h3',h4'⟩,h5',h6'⟩:=h';obtain⟨s1,e1⟩:=hu u h1;obtain⟨s2,e2⟩:=hv v h2;have eu:u=u':=by rw[h1']at e1;cases e1;rfl
 have ev:v=v':=by rw[h2']at e2;have:=(List.append_inj' e2 rfl).2;cases this;rfl
 subst eu ev;rw[h3,h3'];unfold smT;split
 ·rfl
 ·by_cases c:a+1<b-1;·have t1:=h4 (by omega);have t2:=h4' (by omega);have:tab=tab':=kzp0 (c:=inn q u v) t1 ⟨t2.asc,t2.ok,fun s=>by rw[t2.c];unfold inn;rw[hs]⟩;rw[this]
  ·rw[Gd3 c,Gd3 c]
theorem kznn{hi:Int}:∀{L A:List kzht} {lo:Int} {ts oe:List Tok},Rawt ts->lo+wtL ts=hi->BOk hi lo L->BOk hi lo A->InB A L->kzh4 lo ts A oe->SpT lo oe L/\∀o1 ol,kzh4 lo ts L o1->kzh4 lo oe L ol->ol=o1
 |[],A,lo,ts,oe,hr,hw,hL,hA,hI,hk=>by
  have:oe=ts:=by
   have hn:∀x∈A,x.Level=0:=fun x hx=>Classical.byContradiction fun e=>by obtain⟨z,hz,_⟩:=hI x hx e;cases hz
   clear hA hI;induction A with
   |nil=>exact hk
   |cons x A ih=>exact ih (hk.1 (hn x (Gb5 ..))) fun y hy=>hn y (Gb4 _ hy)
  subst this;refine⟨trivial,fun o1 ol h1 h2=>?_⟩;have h1:o1=oe:=h1;have h2:ol=oe:=h2;rw[h1,h2]
 |z :: r,A,lo,ts,oe,hr,hw,hL,hA,hI,hk=>by
  by_cases e:z.Level=0
  ·obtain⟨k1,k2⟩:=kznn (L:=r) hr hw (hL.1 e) hA (fun x hx e'=>by
    obtain⟨z',hz',e1,e2⟩:=hI x hx e';rcases Gb3.1 hz' with rfl|hz'
    ·exact absurd e e1
    ·exact⟨z',hz',e1,e2⟩) hk
   exact⟨⟨fun _=>k1,fun e'=>absurd e e'⟩,fun o1 ol h1 h2=>k2 o1 ol (h1.1 e) (h2.1 e)⟩
  ·obtain⟨_,b1,b2,b3,b4⟩:=hL.2 e;obtain⟨A1,A2,rfl,a1,a2,a3,a4⟩:=kzmb e b4 hA hI;obtain⟨p,t,rfl,hp⟩:=kzl6 hr (n:=z.From-lo) (by omega) (by omega);rw[kzh5]at hw;obtain⟨q,w,rfl,hq⟩:=kzl6 hr.right (n:=z.To-z.From) (by omega) (by omega);rw[kzh5]at hw;have hge:∀x∈A2,x.Level≠0->z.To<=x.From:=fun x hx e'=>(a3.le x hx e').1
   obtain⟨o',rfl,f1⟩:=kzh4.pre hk hr.ok fun x hx e'=>by
    rcases Gb2.1 hx with hx|hx
    ·have:=a2 x hx e';omega
    ·have:=hge x hx e';omega
   rw[show lo+wtL p=z.From by omega]at f1;have a1':BOk z.To z.From A1:=a1.lo a2;obtain⟨oq,o2,rfl,f2,f3⟩:=kzh4.cut f1 hr.right.ok a1' (by omega) hge;obtain⟨s1,s2,s3,s4,s5⟩:=f2.same hr.right.left a1';obtain⟨u,v,g1,g2⟩:=kznu hr.right.left (by omega);obtain⟨i1,i2⟩:=kznn (L:=r) hr.right.right (by omega) b4 a3 a4 f3;have t2:=(f3.same hr.right.right a3).2.2.1;refine⟨⟨(fun e'=>absurd e' e),fun _=>⟨p,oq,o2,u,v,rfl,hp,by omega,s4 u g1,s5 v g2,i1⟩⟩,fun o1 ol h1 h2=>?_⟩;obtain⟨p1,q1,w1,m1,n1,x1,x2,x3,x4,x5,x6⟩:=h1.2 e;obtain⟨p2,q2,w2,m2,n2,y1,y2,y3,y4,y5,y6⟩:=h2.2 e;have hk1:∀k∈p1++(q1++w1),kzib k:=by rw[<-x1];exact hr.ok
   have hk2:∀k∈p2++(q2++w2),kzib k:=by
    rw[<-y1];intro k hk;rcases Gb2.1 hk with hk|hk
    ·exact hr.left.ok k hk
    ·rcases Gb2.1 hk with hk|hk;·exact s3 k hk
     ·exact t2 k hk
   obtain⟨rfl,c1⟩:=kzlg x1 hr.left.ok (fun k hk=>hk1 k (List.mem_append_left _ hk)) (by omega);obtain⟨rfl,rfl⟩:=kzlg c1 hr.right.left.ok (fun k hk=>hk1 k (List.mem_append_right _ (List.mem_append_left _ hk))) (by omega);obtain⟨rfl,c2⟩:=kzlg y1 hr.left.ok (fun k hk=>hk2 k (List.mem_append_left _ hk)) (by omega);obtain⟨rfl,rfl⟩:=kzlg c2 s3 (fun k hk=>hk2 k (List.mem_append_right _ (List.mem_append_left _ hk))) (by omega);have es:m2=m1:=(x4.uniq y4 (fun s=>(s1 s).symm) s4 s5).symm;rw[x5,y5,es,i2 n1 n2 x6 y6]
theorem kzm1{α O ω:Type}{body:O->Option (O⊕ω)}{l:List α}(I:Nat->O->Prop)(R:ω->Prop)(hn:l.length<1000000000)(step:∀k x s,l[k]?=some x->I k s->(∃s',body s=some (.inl s')/\I (k+1) s')\/(∃o,body s=some (.inr o)/\R o)) (fin:∀s,I l.length s->∃o,body s=some (.inr o)/\R o) {s:O} (h0:I 0 s):∃o,lp body s=some o/\R o:=by
 refine jzd2 (ι:=Nat×O) (fun i=>i.2) (fun i=>i.1<=l.length/\I i.1 i.2) (fun i=>l.length-i.1) R ?_ (0,s) rfl ⟨Gdl _,h0⟩ (by show l.length-0<_;omega);rintro⟨k,s⟩ ⟨hk,hI⟩;simp only at hk hI ⊢;by_cases h:k<l.length
 ·rcases step k _ s (Gbe h) hI with ⟨s',e,hI'⟩|h;·exact .inl ⟨(k+1,s'),e,⟨h,hI'⟩,by show l.length-(k+1)<_;omega⟩
  ·exact .inr h
 ·obtain rfl:k=l.length:=by omega
  exact .inr (fin s hI)
theorem kzly{α:Type}{l:List α}{k:Nat}{x:α}(h:l[k]?=some x):l.drop k=x :: l.drop (k+1):=by obtain⟨h1,h2⟩:=Gbg.1 h;rw[Ga4 h1,h2]
theorem kzh4.none{hi:Int}:∀{A:List kzht} {ts:List Tok},BOk hi hi A->kzh4 hi ts A ts
 |[],ts,_=>rfl
 |x :: A,ts,hb=>⟨fun e=>kzh4.none (hb.1 e),fun e=>by obtain⟨_,h1,h2,h3,_⟩:=hb.2 e;omega⟩
theorem kzr8{l:List wz3g}{L:List kzht}{a b:Int}(H:Ch a l b)(hl:l≠[])(hb:b-a<=2000)(hB:BOk b a L)(hL:L.length<=100000)(ha:0<=a):lp (kzix L l) (0,0)=some (.inl ()):=by
  have hn:=H.len;have h0:=List.length_pos_iff.2 hl;have g1:l[l.length-1]?=some l[l.length-1]:=Gbe (by omega);have g2:l[0]?=some l[0]:=Gbe h0;have u1:=(H.get g1).2.2 (by omega);have u2:=(H.get g2).1 rfl
  obtain⟨o,e,rfl⟩:∃o,lp (kzix L l) (0,0)=some o/\o=.inl ():=by
   refine kzm1 (body:=kzix L l) (l:=L) (fun k s=>∃e lo,s=(e,(k:Int))/\e<=lo/\a<=lo/\BOk b lo (L.drop k)) (fun o=>o=.inl ()) (by omega) (fun k x s hk=>?_) (fun s=>?_) ⟨0,a,rfl,ha,Gaw _,hB⟩
   · rintro⟨e,lo,rfl,h1,h2,h3⟩
     left;rw[kzly hk]at h3;have hlt:=(Gbg.1 hk).1;unfold kzix;dsimp only;rw[it_d (by omega),at_e rfl hk,bd_s];by_cases c:x.Level=0
     · rw[it_d c,bd_s]
       dsimp only;rw[qz3 (by omega)];exact⟨_,rfl,e,lo,by norm_cast,h1,h2,h3.1 c⟩
     · obtain⟨b0,b1,b2,b3,b4⟩:=h3.2 c
       rw[it_n c,bd_s];dsimp only;rw[b0,bd_s,Gdw (show ¬(l.length:Int)=0 by omega)];simp only[Gaq,Gap,Gdt,qzbx];rw[at_e (j:=0) (n:=0) rfl g2,bd_s,u2,Gdw (show ¬x.From<a by omega)];simp only[Gap,Gaq,Bool.false_or,Gdt,qzbx];rw[qz3 (by omega),at_e (n:=l.length-1) (by omega) g1,bd_s,u1,Gdw (show ¬b<x.To by omega),Gdw (show ¬x.From<e by omega)];simp only[Gdt,qzil];rw[qz3 (by omega)];exact⟨_,rfl,x.To,x.To,by norm_cast,Gaw _,by omega,b4⟩
   · rintro⟨e,lo,rfl,h1,h2,h3⟩
     refine⟨_,?_,rfl⟩;unfold kzix;dsimp only;rw[it_n (by omega)]
  exact e
theorem kzmw{l:List wz3g}{L:List kzht}{a b:Int}(H:Ch a l b)(hl:l≠[])(hb:b-a<=2000)(hB:BOk b a L)(hL:L.length<=100000)(ha:0<=a)(hS:SpT a (toks l) L) : ∃o,kziz l L=some (nf a o,0)/\kzh4 a (toks l) L o:=by
  have hn:=H.len;unfold kziz;rw[qzue H hb,bd_s,qzk5 rfl,kzr8 H hl hb hB hL ha,bd_s];dsimp only
  obtain⟨o,e,rest,l2,rfl,hch,hkt⟩:∃o,lp (kzi9 L) (l,0,[])=some o/\∃rest l2,o=.inl (rest,l2)/\Ch a (l2++rest) b/\kzh4 a (toks l) L (toks (l2++rest)):=by
   refine kzm1 (body:=kzi9 L) (l:=L) (s:=(l,0,[])) (fun k s=>∃rest l2 lo,s=(rest,(k:Int),l2)/\rest≠[]/\Ch a l2 lo/\Ch lo rest b/\SpT lo (toks rest) (L.drop k)/\BOk b lo (L.drop k)/\∀o',kzh4 lo (toks rest) (L.drop k) o'->kzh4 a (toks l) L (toks l2++o')) (fun o=>∃rest l2,o=.inl (rest,l2)/\Ch a (l2++rest) b/\kzh4 a (toks l) L (toks (l2++rest))) (by omega) (fun k x s hk=>?_) (fun s=>?_) ⟨l,[],a,rfl,hl,rfl,H,hS,hB,fun o' h=>h⟩
   · rintro⟨rest,l2,lo,rfl,r0,r1,r2,r3,r4,r5⟩
     rw[kzly hk]at r3 r4 r5;have hlt:=(Gbg.1 hk).1;have q1:=r1.len;have q2:=r2.len;have q3:=List.length_pos_iff.2 r0;unfold kzi9;dsimp only;rw[it_d (by omega),at_e rfl hk,bd_s];by_cases c:x.Level=0
     · left
       rw[it_d c,bd_s];dsimp only;rw[qz3 (by omega)];exact⟨_,rfl,rest,l2,lo,by norm_cast,r0,r1,r2,r3.1 c,r4.1 c,fun o' h=>r5 o' ⟨fun _=>h,fun e'=>absurd c e'⟩⟩
     · obtain⟨b0,b1,b2,b3,b4⟩:=r4.2 c
       obtain⟨p,q,w,u,v,t1,t2,t3,⟨z1,t4⟩,⟨z2,t5⟩,t6⟩:=r3.2 c;rw[it_n c,bd_s];dsimp only;obtain⟨bf,ins,e1,c1,c2,c3,c4⟩:=kzrm (at':=x.From) r2 r0 (by omega) t1 t2 (by omega) b1;have hins:ins≠[]:=fun e0=>by subst e0;have:x.From=b:=c2;omega
       obtain⟨i2,rest',e2,d1,d2,d3,d4⟩:=kzrm (at':=x.To) c2 hins (by omega) c4 t3 b3 (by omega);have hi2:i2≠[]:=fun e0=>by subst e0;have:x.From=x.To:=d1;omega
       obtain⟨sm,tab,e3,f1,f2,f3⟩:=kzu8 (u:=u) (v:=v) d1 hi2 (by omega) (by rw[d3];exact t4) (by rw[d3];exact t5);have hsm:SmOk x.From x.To q (toks sm):=⟨⟨u,v,tab,⟨z1,t4⟩,⟨z2,t5⟩,f2,by rw[<-d3];exact f3⟩,f1.tok.1,f1.tok.2⟩;have g1:Ch a ((l2++bf)++sm) x.To:=kzki.2 ⟨x.From,kzki.2 ⟨lo,r1,c1⟩,f1⟩;have g2:Ch a (l2++bf) x.From:=kzki.2 ⟨lo,r1,c1⟩;have hk':∀o',kzh4 x.To w (L.drop (k+1)) o'->kzh4 a (toks l) L (toks ((l2++bf)++sm)++o'):=fun o' h=>by have:=r5 (p++(toks sm++o')) ⟨(fun e'=>absurd e' c),fun _=>⟨p,q,w,toks sm,o',t1,t2,t3,hsm,rfl,h⟩⟩;rw[kzi0,kzi0,c3];simpa using this
       have w1:=g1.len;have w2:=g2.len;rw[e1,bd_s];dsimp only;rw[qzk5 rfl,e2,bd_s];dsimp only;rw[qzk5 rfl,e3,bd_s];dsimp only;rw[qzk5 rfl,ck_d (by omega),ck_d (by omega)];by_cases cr:rest'=[]
       · right
         subst cr;rw[it_d (show(([]:List wz3g).length:Int)=0 from rfl)];refine⟨_,rfl,[],_,rfl,?_,?_⟩
         · have:x.To=b:=d2
           rw[List.append_nil,<-this];exact g1
         · have hto:x.To=b:=d2
           rw[List.append_nil];have:=hk' [] (by have hw:w=[]:=(by rw[<-d4];rfl);rw[hw,hto];exact kzh4.none (by rw[hto]at b4;exact b4))
           rwa [List.append_nil]at this
       · left
         rw[it_n (by intro e0;exact cr (Gbt.1 (by omega))),qz3 (by omega)];exact⟨_,rfl,rest',_,x.To,by norm_cast,cr,g1,d2,by rw[d4];exact t6,b4,by rw[d4];exact hk'⟩
   · rintro⟨rest,l2,lo,rfl,r0,r1,r2,r3,r4,r5⟩
     refine⟨.inl (rest,l2),?_,rest,l2,rfl,kzki.2 ⟨lo,r1,r2⟩,?_⟩
     · unfold kzi9
       dsimp only;rw[it_n (by omega)]
     · rw[kzi0]
       refine r5 _ ?_;rw[List.drop_length];rfl
  rw[e,bd_s];dsimp only;have hlen:=hch.len;have f1:=kzkj (out:=[]) (a:=a) (c:=a) rfl hch;rw[ck_d (by omega),kzoc hch hb,bd_s,kzsn f1 (f1.ne (by have:=List.length_pos_iff.2 hl;omega)) hb,bd_s];have et:=kzk2 (out:=[]) (a:=a) (c:=a) rfl hch;have et:toks ((l2++rest).foldl kzh2 [])=toks (l2++rest):=et;exact⟨_,by rw[kzv9 f1,et],hkt⟩
def Ag:List Tok->List Tok->Prop
 |ts,[]=>ts=[]
 |ts,.s v :: o=>∃r,ts=.s v :: r/\Ag r o
 |ts,.t tab :: o=>∃q r,ts=q++r/\wtL q=hsum tab/\(∀s,hT q s=cnt tab s)/\Ag r o
theorem Ag.refl:∀{ts:List Tok},Rawt ts->Ag ts ts
 |[],_=>rfl
 |.s v :: ts,h=>⟨ts,rfl,Ag.refl fun k hk=>h k (Gb4 _ hk)⟩
 |.t t :: ts,h=>by obtain⟨v,e,_⟩:=h _ (Gb5 ..);cases e
theorem Ag.app:∀{o ts ts' o':List Tok},Ag ts o->Ag ts' o'->Ag (ts++ts') (o++o')
 |[],ts,ts',o',h,h'=>by have h:ts=[]:=h;subst h;exact h'
 |.s v :: o,ts,ts',o',⟨r,e,h⟩,h'=>⟨r++ts',by rw[e];rfl,Ag.app h h'⟩
 |.t t :: o,ts,ts',o',⟨q,r,e,h1,h2,h⟩,h'=>⟨q,r++ts',by rw[e,List.append_assoc],h1,h2,Ag.app h h'⟩
theorem Ag.split:∀{o1 o2 ts:List Tok},Ag ts (o1++o2)->∃t1 t2,ts=t1++t2/\Ag t1 o1/\Ag t2 o2
 |[],o2,ts,h=>⟨[],ts,rfl,rfl,h⟩
 |.s v :: o1,o2,ts,⟨r,e,h⟩=>by obtain⟨t1,t2,e2,h1,h2⟩:=Ag.split h;exact⟨.s v :: t1,t2,by rw[e,e2];rfl,⟨t1,rfl,h1⟩,h2⟩
 |.t t :: o1,o2,ts,⟨q,r,e,g1,g2,h⟩=>by obtain⟨t1,t2,e2,h1,h2⟩:=Ag.split h;exact⟨q++t1,t2,by rw[e,e2,List.append_assoc],⟨q,t1,rfl,g1,g2,h1⟩,h2⟩
theorem Ag.same:∀{o ts:List Tok},Ag ts o->wtL ts=wtL o/\∀s,hT ts s=hT o s
 |[],ts,h=>by have h:ts=[]:=h;subst h;exact⟨rfl,fun s=>rfl⟩
 |.s v :: o,ts,⟨r,e,h⟩=>by obtain⟨h1,h2⟩:=h.same;subst e;exact⟨by simp only[wtL,wt];rw[h1],fun s=>by simp only[hT];rw[h2]⟩
 |.t t :: o,ts,⟨q,r,e,g1,g2,h⟩=>by obtain⟨h1,h2⟩:=h.same;subst e;exact⟨by rw[kzh5];simp only[wtL,wt];rw[h1,g1],fun s=>by rw[kzjc];simp only[hT];rw[h2,g2]⟩
theorem kzot:∀{m:List Tok} {v:Int},Rawt m->(∀s,s≠v->hT m s=0)->m=List.replicate m.length (.s v)
 |[],v,_,_=>rfl
 |k :: m,v,h,h0=>by
  obtain⟨u,rfl,_⟩:=h k (Gb5 ..);have hm:Rawt m:=fun k hk=>h k (Gb4 _ hk);have hn:=fun s=>kzl1 hm.ok s;have e:u=v:=Classical.byContradiction fun e=>by have:=h0 u e;have:=hn u;simp only[hT,Gd5]at *;omega
  subst e;rw[Gbr,List.replicate_succ,<-kzot hm fun s hs=>by have:=h0 s hs;simp only[hT]at this;rw[Gd3 (fun e=>hs e.symm)]at this;omega]
theorem SmOk.ag{a b:Int}{q o:List Tok}(h:SmOk a b q o)(hw:wtL q=b-a)(hk:Rawt q):Ag q o:=by
 obtain⟨⟨u,v,tab,⟨r,h1⟩,⟨r',h2⟩,h3,h4⟩,h5,h6⟩:=h;unfold smT at h3;by_cases c1:b-a=1
 ·rw[Gd4 c1]at h3
  have hq:q=[.s u]:=by
   have hr:wtL r=0:=by rw[h1]at hw;simp only[wtL,wt]at hw;omega
   have:=kzi7 (l:=r) fun k hm=>hk.ok k (by rw[h1];exact Gb4 _ hm);rw[h1,Gbt.1 (show r.length=0 by omega)]
  subst h3 hq;exact⟨[],rfl,rfl⟩
 ·rw[Gd3 c1]at h3
  have hp:1<wtL q:=by
   have hr:=kzi7 (l:=r) fun k hm=>hk.ok k (by rw[h1];exact Gb4 _ hm);have:wtL q=1+wtL r:=by rw[h1];rfl
   omega
  obtain⟨m,em⟩:=kzkp h1 h2 hp;have hm:Rawt m:=fun k hh=>hk k (by rw[em];simp[hh]);have wm:wtL m=b-a-2:=by rw[em]at hw;simp only[wtL,kzh5,wt]at hw;omega
  have hi:∀s,inn q u v s=hT m s:=fun s=>by unfold inn;rw[em];show(if u=s then 1 else 0)+hT (m++[.s v]) s-_-_=_;rw[kzjc];show(if u=s then 1 else 0)+(hT m s+((if v=s then 1 else 0)+0))-_-_=_;omega
  have hmid:Ag m (if a+1<b-1 then tk ⟨a+1,b-1,tab,0,0⟩ else []):=by
   by_cases c2:a+1<b-1
   ·have C:=h4 (by omega);have hc:∀s,hT m s=cnt tab s:=fun s=>by rw[C.c,hi]
    have hs:hsum tab=b-a-2:=(by rw[<-kzld fun h hh=>(C.ok h hh).2,kzj9 (g:=hT m) (fun s=>by rw[C.c,hi]),kzlu hm.ok,wm]);rw[Gd4 c2];by_cases ht:tab.length=1
    ·obtain⟨k,rfl⟩:=List.length_eq_one_iff.1 ht;have e:=kzot (v:=k.Stage) hm fun s hs=>by rw[hc];simp only[cnt];rw[Gd3 (fun e=>hs e.symm)];rfl
     have hl:(m.length:Int)=b-a-2:=(by rw[<-hm.wt,wm]);have e2:tk ⟨a+1,b-1,[k],0,0⟩=m:=(by rw[e];show List.replicate (b-1-(a+1)).toNat _=_;rw[show(b-1-(a+1)).toNat=m.length by omega]);rw[e2];exact Ag.refl hm
    ·rw[kzkv ht];exact⟨m,[],by simp,by rw[wm,hs],hc,rfl⟩
   ·rw[Gd3 c2];have:=kzi7 hm.ok;exact Gbt.1 (show m.length=0 by omega)
  rw[h3,em];exact⟨_,rfl,hmid.app ⟨[],rfl,rfl⟩⟩
theorem kzh4.ag{hi:Int}:∀{A:List kzht} {lo:Int} {ts o:List Tok},kzh4 lo ts A o->Rawt ts->BOk hi lo A->Ag ts o
 |[],lo,ts,o,h,hr,_=>by have h:o=ts:=h;subst h;exact Ag.refl hr
 |x :: A,lo,ts,o,h,hr,hb=>by
  by_cases e:x.Level=0
  ·exact kzh4.ag (h.1 e) hr (hb.1 e)
  ·obtain⟨p,q,w,s,o',h1,h2,h3,h4,h5,h6⟩:=h.2 e;obtain⟨_,b1,b2,b3,b4⟩:=hb.2 e;subst h1 h5;exact(Ag.refl hr.left).app ((h4.ag h3 hr.right.left).app (kzh4.ag h6 hr.right.right b4))
theorem kzmx:∀{l:List wz2w} {m:List (Int×Int)},(∀h∈l,0<=h.Stage/\h.Stage<=1000)->l.Pairwise (fun a b=>a.Stage<b.Stage)->MOk m->(∀h∈l,M m h.Stage=0)->MOk (tabM l m)/\∀s,M (tabM l m) s=M m s+cnt l s
 |[],m,_,_,hm,_=>⟨hm,fun s=>by simp[cnt,tabM]⟩
 |h :: l,m,hs,hp,hm,h0=>by
  obtain⟨p1,p2⟩:=Gcf.1 hp;obtain⟨k1,k2⟩:=kzmx (l:=l) (m:=mput keqI m h.Stage h.Ticks) (fun x hx=>hs x (Gb4 _ hx)) p2 (hm.put (hs h (Gb5 ..))) fun x hx=>by rw[kzkq,Gd3 (by have:=p1 x hx;omega)];exact h0 x (Gb4 _ hx)
  refine⟨k1,fun s=>?_⟩;show M (tabM l (mput keqI m h.Stage h.Ticks)) s=_;rw[k2,kzkq];simp only[cnt];by_cases e:s=h.Stage
  ·subst e;rw[Gd4 rfl,Gd4 rfl,h0 h (Gb5 ..)];omega
  ·rw[Gd3 e,Gd3 fun e'=>e e'.symm];omega
theorem kzm3:∀(l:List wz2w) (k:Nat) (x:wz2w) (m:List (Int×Int)),l[k]?=some x->tabM (l.take (k+1)) m=mput keqI (tabM (l.take k) m) x.Stage x.Ticks
 |y :: l,0,x,m,h=>by cases h;rfl
 |y :: l,k+1,x,m,h=>kzm3 l k x _ (by simpa using h)
theorem kzrw{x:wz3g}(H:kzh8 x):lp (kzj2 x) (0,([]:List (Int×Int)))=some (tabM x.Table []):=by
 have hl:=H.len;have h1:=H.a;have h3:=H.c;refine wz69 (l:=x.Table) (fun k=>((k:Int),tabM (x.Table.take k) [])) (by omega) (fun k h hk=>?_) ?_ rfl
 ·have hlt:=(Gbg.1 hk).1;unfold kzj2;dsimp only;rw[it_d (by omega),at_e rfl hk,bd_s,qz3 (by omega),kzm3 _ _ _ _ hk]
  norm_cast
 ·unfold kzj2;dsimp only;rw[it_n (by omega),List.take_length]
theorem kzq6(l:List Int)(s:Int):0<=hT (l.map .s) s/\hT (l.map .s) s<=l.length:=by
 induction l with
 |nil=>simp[hT]
 |cons v l ih =>simp only[Gb1,hT,Gbr];split<;>omega
theorem kzrk{h:wz2c}{x:wz3g}(H:kzh8 x){part:List Int}(hp:sub h.Stages (x.From-h.From) (x.To-h.From)=part)(hc:∀s,hT (part.map .s) s=cnt x.Table s)(hl:part.length<=100000) : ∃m,lp (kzjm h x) (0,tabM x.Table [])=some (.inl m):=by
 obtain⟨m0,m1⟩:=kzmx (l:=x.Table) (m:=[]) H.t.st H.t.asc MOk.nil fun h hh=>rfl
 obtain⟨o,e,m,rfl⟩:∃o,lp (kzjm h x) (0,tabM x.Table [])=some o/\∃m,o=.inl m:=by
  refine kzm1 (l:=part) (fun k s=>∃m,s=((k:Int),m)/\∀s,M m s=hT ((part.drop k).map .s) s) _ (by omega) (fun k v s hk=>?_) (fun s=>?_) ⟨_,rfl,fun s=>?_⟩
  ·rintro⟨m,rfl,hm⟩;left;have hlt:=(Gbg.1 hk).1;rw[kzly hk]at hm;have hv:=hm v;have hn:=kzq6 (part.drop (k+1)) v;have hd:(part.drop (k+1)).length<=part.length:=by rw[Gbs];omega
   have hv':M m v=1+hT ((part.drop (k+1)).map .s) v:=by rw[hv];simp only[Gb1,hT,Gd5]
   unfold kzjm;dsimp only;rw[hp,it_d (by omega),at_e rfl hk,bd_s,kzlc H,bd_s,wzcn,bd_s];simp only[Gdt,Gap,qzbx];rw[bd_s];simp only[Gap,Gdu];show ∃s',ite' (decide (M m v=0)) _ (ck (inB .i64 (M m v-1)) (ck (inB .i64 ((k:Int)+1)) (some (Sum.inl ((k:Int)+1,mput keqI m v (M m v-1))))))=some (Sum.inl s')/\_;rw[it_n (by omega),qz3 (by omega),qz3 (by omega)];refine⟨_,rfl,_,by norm_cast,fun s=>?_⟩;rw[kzkq];have hs:=hm s;simp only[Gb1,hT]at hs;by_cases e:s=v
   ·subst e;rw[Gd4 rfl]at hs ⊢;omega
   ·rw[Gd3 fun e'=>e e'.symm]at hs;rw[Gd3 e];omega
  ·rintro⟨m,rfl,hm⟩;refine⟨.inl m,?_,m,rfl⟩;unfold kzjm;dsimp only;rw[hp,it_n (by omega)]
  ·rw[m1,List.drop_zero,hc];show(0:Int)+_=_;omega
 exact⟨m,e⟩
theorem kzug{h:wz2c}{t1 q t2:List Tok}(e:hts h=t1++(q++t2)):(sub h.Stages (t1.length:Int) ((t1.length:Int)+(q.length:Int))).map .s=q:=by
 have e1:h.Stages.map Tok.s=t1++(q++t2):=e;unfold sub;rw[List.map_take,List.map_drop,e1];have e2:(t1.length:Int).toNat=t1.length:=by omega
 have e3:((t1.length:Int)+(q.length:Int)).toNat-t1.length=q.length:=by omega
 have e4:((t1.length:Int)+(q.length:Int)-(t1.length:Int)).toNat=q.length:=by omega
 first
  |rw[e2,e3,List.drop_left,List.take_left]
  |rw[e2,e4,List.drop_left,List.take_left]
theorem kzog{h:wz2c}(H:HOk h):Rawt (hts h):=fun k hk=>by obtain⟨s,hs,rfl⟩:=Gb7.1 hk;exact⟨s,rfl,H.s s hs⟩
theorem kznk{h:wz2c}(H:HOk h){l:List wz3g}(hc:Ch h.From l (h.From+(h.Stages.length:Int)))(hl:l≠[])(ha:Ag (hts h) (toks l)):kzj6 l h=some true:=by
 have b1:=H.a;have b2:=H.b;have b3:=H.c;have hn:=hc.len;have h0:=List.length_pos_iff.2 hl;have g1:l[l.length-1]?=some l[l.length-1]:=Gbe (by omega);have g2:l[0]?=some l[0]:=Gbe h0;have u1:=(hc.get g1).2.2 (by omega);have u2:=(hc.get g2).1 rfl;unfold kzj6;rw[qzue hc (by omega),bd_s];simp only[decide_true,Gaq,Gap,qzbx];rw[kznl H,bd_s];simp only[Gaq,Gdt,qzil];rw[it_n (by omega),at_e (j:=0) (n:=0) rfl g2,bd_s,u2];simp only[decide_true,Gaq,Gap,Bool.false_or,qzbx,Gdt];rw[qz3 (by omega),at_e (n:=l.length-1) (by omega) g1,bd_s,u1,qz3 (by omega),qzk5 (by omega)]
 have e:lp (kzjz h l) 0=some (.inl ()):=by
  refine wz69 (l:=l) (fun k=>(k:Int)) (by omega) (fun k x hk=>?_) ?_ rfl
  ·have hlt:=(Gbg.1 hk).1;obtain⟨hr,p1,p2⟩:=hc.ok x (Gb9 hk);have p3:=hr.b;have hs:l=l.take k++x :: l.drop (k+1):=by rw[<-kzly hk,Gcj]
   rw[hs,kzi0]at ha;obtain⟨t1,t',e1,a1,a2⟩:=Ag.split ha;obtain⟨q,t2,rfl,a3,a4⟩:=Ag.split (o1:=tk x) (o2:=toks (l.drop (k+1))) a2;have hc':=hc;rw[hs]at hc';obtain⟨d,d1,d2,d3,d4⟩:=kzki.1 hc';have hraw:=kzog H;rw[e1]at hraw;have w1:(t1.length:Int)=x.From-h.From:=by rw[<-hraw.left.wt,a1.same.1,d1.tok.1,d2]
   have w2:(q.length:Int)=x.To-x.From:=by rw[<-hraw.right.left.wt,a3.same.1,kzk5 hr]
   have hpart:=kzug e1;rw[show(t1.length:Int)+(q.length:Int)=x.To-h.From by omega,w1]at hpart;have hlen:(sub h.Stages (x.From-h.From) (x.To-h.From)).length=q.length:=by rw[<-hpart,Gbu]
   obtain⟨m,em⟩:=kzrk (h:=h) hr rfl (fun s=>by rw[hpart,a3.same.2,kzmq hr]) (by omega);unfold kzjz;dsimp only;rw[it_d (by omega),at_e rfl hk,bd_s,kzrw hr,bd_s,qz3 (by omega),qz3 (by omega),qzhn (by omega),em,bd_s];dsimp only;rw[qz3 (by omega)]
   norm_cast
  ·unfold kzjz;dsimp only;rw[it_n (by omega)]
 rw[e,bd_s]
def Wn(ts:List Tok)(a p q s:Int):Int:=hT (sub ts (p-a) (q-a)) s
theorem kzlw{ts:List Tok}{a p q s:Int}(h:q<=p):Wn ts a p q s=0:=by unfold Wn sub;rw[show(q-a-(p-a)).toNat=0 by omega];rfl
theorem kzmu{ts:List Tok}{a p r q s:Int}(h0:a<=p)(h1:p<=r)(h2:r<=q):Wn ts a p q s=Wn ts a p r s+Wn ts a r q s:=by
 unfold Wn sub;have e1:(q-a-(p-a)).toNat=(r-a-(p-a)).toNat+(q-a-(r-a)).toNat:=by omega
 have e2:(r-a).toNat=(p-a).toNat+(r-a-(p-a)).toNat:=by omega
 rw[e1,List.take_add,kzjc,e2,<-Ga3]
theorem kznh{ts:List Tok}(h:Rawt ts){a p q s:Int}:0<=Wn ts a p q s/\(a<=p->p<=q->Wn ts a p q s<=q-p):=by unfold Wn sub;have hr:Rawt ((ts.drop (p-a).toNat).take (q-a-(p-a)).toNat):=fun k hk=>h k (List.mem_of_mem_drop (List.mem_of_mem_take hk));have h1:=kzl1 hr.ok s;refine⟨h1.1,fun h0 h2=>?_⟩;rw[hr.wt,Gbz]at h1;omega
theorem kzmv{ts t1 q t2:List Tok}(h:Rawt ts)(e:ts=t1++(q++t2)){a p r s:Int}(h1:wtL t1=p-a)(h2:wtL q=r-p):Wn ts a p r s=hT q s:=by rw[e]at h;have w1:=h.left.wt;have w2:=h.right.left.wt;unfold Wn sub;rw[e,show(p-a).toNat=t1.length by omega,show(r-a-(p-a)).toNat=q.length by omega,List.drop_left,List.take_left]
theorem kznz:∀{m:List (Int×Int)},(m.map (·.1)).Nodup->∀p∈m,M m p.1=p.2
 |q :: m,h,p,hp=>by
  obtain⟨h1,h2⟩:=List.nodup_cons.1 (show(q.1 :: m.map (·.1)).Nodup from h);unfold M mget;rcases Gb3.1 hp with rfl|hp
  ·rw[show keqI p.1 p.1=true by simp[keqI]];rfl
  ·have hne:p.1≠q.1:=fun e=>h1 (by rw[<-e];exact Gb7.2 ⟨p,hp,rfl⟩);rw[show keqI p.1 q.1=false by simp[keqI,hne]];exact kznz h2 p hp
theorem kzof:∀{l:List wz2w} {m:List (Int×Int)},(∀h∈l,1<=h.Ticks/\0<=h.Stage/\h.Stage<=1000)->MOk m->(∀s,hsum l<=1000000/\-1000000<=M m s-cnt l s/\M m s<=1000000) -> ∃m',subM l m=some m'/\MOk m'/\(∀s,M m' s=M m s-cnt l s)
 |[],m,_,hm,hb=>⟨m,rfl,hm,fun s=>by simp[cnt]⟩
 |h :: l,m,hl,hm,hb=>by
  obtain⟨h1,h2⟩:=hl h (Gb5 ..);have hl':∀h∈l,1<=h.Ticks/\0<=h.Stage/\h.Stage<=1000:=fun x hx=>hl x (Gb4 _ hx);have hs:=kzjx (t:=l) fun x hx=>(hl' x hx).1;have b1:=hb h.Stage;have c1:=jzmh (t:=l) (fun x hx=>(hl' x hx).1) h.Stage;simp only[hsum,cnt,Gd5]at b1
  obtain⟨m',e,k1,k2⟩:=kzof (l:=l) (m:=mput keqI m h.Stage (M m h.Stage-h.Ticks)) hl' (hm.put h2) fun s=>by
   rw[kzkq];have:=hb s;simp only[hsum,cnt]at this;by_cases e:s=h.Stage
   ·subst e;rw[Gd4 rfl]at this ⊢;omega
   ·rw[Gd3 fun e'=>e e'.symm]at this;rw[Gd3 e];omega
  refine⟨m',?_,k1,fun s=>?_⟩
  ·show ck (inB .i64 (M m h.Stage-h.Ticks)) _=_;rw[qz3 (by omega)];exact e
  ·rw[k2,kzkq];simp only[cnt];by_cases e:s=h.Stage
   ·subst e;rw[Gd4 rfl,Gd4 rfl];omega
   ·rw[Gd3 e,Gd3 fun e'=>e e'.symm];omega
theorem kzqw{x:wz3g}(H:kzh8 x):∃p,kzjb x=some p/\((∃h,x.Table=[h]/\p=(h.Stage,h.Stage))\/(2<=x.Table.length/\p.1≠p.2)):=by
 have hl:=H.len;have h1:=H.a;have h3:=H.c;have g1:x.Table[x.Table.length-1]?=some x.Table[x.Table.length-1]:=Gbe (by omega);have g2:x.Table[0]?=some x.Table[0]:=Gbe hl.1;refine⟨(x.Table[0].Stage,x.Table[x.Table.length-1].Stage),?_,?_⟩
 ·unfold kzjb;rw[kzlc H,bd_s,qzil,at_e (j:=0) (n:=0) rfl g2,bd_s,qz3 (by omega),at_e (n:=x.Table.length-1) (by omega) g1,bd_s]
 ·by_cases h:x.Table.length=1;·obtain⟨u,e⟩:=List.length_eq_one_iff.1 h;refine .inl ⟨u,e,?_⟩;simp[e]
  ·refine .inr ⟨by omega,?_⟩;have:=List.pairwise_iff_getElem.1 H.t.asc 0 (x.Table.length-1) hl.1 (by omega) (by omega);show x.Table[0].Stage≠x.Table[x.Table.length-1].Stage;omega
theorem kzrg{v:Int}:∀(n:Nat) {q:List Tok},Ag q (List.replicate n (.s v))->q=List.replicate n (.s v)
 |0,q,h=>h
 |n+1,q,⟨r,e,h⟩=>by rw[e,kzrg n h];rfl
theorem kzom{ts:List Tok}(hts:Rawt ts){a b:Int}(hab:b-a<=2000){y:wz3g}(hy:kzh8 y)(ya:a<=y.From)(yb:y.To<=b):∀{l:List wz3g} {c:Int} {t0 tc:List Tok} {m:List (Int×Int)},Ch c l b->a<=c->ts=t0++tc->wtL t0=c-a->Ag tc (toks l) -> (∀x∈l,2<=x.Table.length->(y.From<=x.From/\x.To<=y.To)\/x.To<=y.From\/y.To<=x.From)->MOk m->(∀s,M m s=Wn ts a (max c y.From) y.To s)->∃m',finX y l m=some (some m')/\MOk m'/\∀s,M m' s=0
 |[],c,t0,tc,m,h,hc,ht,hw,ha,hb,hm,hM=>by have h:c=b:=h;exact⟨m,rfl,hm,fun s=>by rw[hM];exact kzlw (by omega)⟩
 |x :: l,c,t0,tc,m,⟨h1,h2,h3⟩,hc,ht,hw,ha,hb,hm,hM=>by
  have xb:=h2.b;have yy:=hy.b;have xa:=h2.a;have xc:=h2.c;have hl:=h3.len;obtain⟨q,t2,e2,a1,a2⟩:=Ag.split (o1:=tk x) (o2:=toks l) ha;have hraw:Rawt (t0++(q++t2)):=by rw[<-e2,<-ht];exact hts
  have wq:wtL q=x.To-c:=by rw[a1.same.1,kzk5 h2,h1]
  have eq1:ts=t0++(q++t2):=by rw[ht,e2]
  have rest:=fun {m:List (Int×Int)} (hm:MOk m) (hM:∀s,M m s=Wn ts a (max x.To y.From) y.To s) =>
   kzom hts hab hy ya yb (l:=l) (c:=x.To) (t0:=t0++q) (tc:=t2) (m:=m) h3 (by omega) (by rw[eq1,List.append_assoc]) (by rw[kzh5];omega) a2 (fun z hz=>hb z (Gb4 _ hz)) hm hM
  obtain⟨p,hp,hp2⟩:=kzqw h2;have hyt:y.Table≠[]:=hy.t.ne;have hxt:x.Table≠[]:=h2.t.ne;by_cases c1:min x.To y.To<=max x.From y.From
  ·have e:finX y (x :: l) m=finX y l m:=by
    show ite' (decide (min x.To y.To<=max x.From y.From)) (finX y l m) _=_;rw[it_d c1]
   rw[e];refine rest hm fun s=>?_;rw[hM];by_cases c2:x.To<=y.From
   ·rw[show max c y.From=y.From by omega,show max x.To y.From=y.From by omega]
   ·rw[kzlw (by omega),kzlw (by omega)]
  ·have e:finX y (x :: l) m=bd (kzjb x) fun p =>
     ite' (decide (y.Table=[])) (ite' (bif decide (p.1<y.Lo) then true else decide (y.Hi<p.2)) (some none) (finX y l m)) <|
     ite' (decide (p.1=p.2)) (ck (inB .i64 (min x.To y.To-max x.From y.From)&&inB .i64 (M m p.1-(min x.To y.To-max x.From y.From))) (finX y l (mput keqI m p.1 (M m p.1-(min x.To y.To-max x.From y.From))))) <|
     ite' (bif (bif decide (x.Table=[]) then true else !decide (max x.From y.From=x.From)) then true else !decide (min x.To y.To=x.To)) (some none) <|
     bd (subM x.Table m) fun m=>finX y l m:=by
    show ite' (decide (min x.To y.To<=max x.From y.From)) (finX y l m) _=_;rw[it_n c1];rfl
   rw[e,hp,bd_s,it_n hyt];rcases hp2 with ⟨h0,t1,rfl⟩|⟨t1,t2'⟩
   ·-- a raw run
    dsimp only;have hq:q=List.replicate (x.To-x.From).toNat (.s h0.Stage):=by exact kzrg _ (by have a1:=a1;rwa [show tk x=List.replicate (x.To-x.From).toNat (.s h0.Stage) by unfold tk;rw[t1]]at a1)
    have hs0:0<=h0.Stage/\h0.Stage<=1000:=h2.t.st h0 (by rw[t1];exact Gcc.2 rfl)
    have hpart:∀s,Wn ts a (max c y.From) (min x.To y.To) s=if h0.Stage=s then min x.To y.To-max c y.From else 0:=fun s=>by
     unfold Wn sub;have w0:=hraw.left.wt;rw[eq1,show(max c y.From-a).toNat=t0.length+(max c y.From-c).toNat by omega,<-Ga3,List.drop_left,hq];have hlen:(min x.To y.To-a-(max c y.From-a)).toNat<=(x.To-x.From).toNat-(max c y.From-c).toNat:=by omega
     rw[List.drop_append_of_le_length (by rw[Gbw];omega),List.take_append_of_le_length (by rw[Gbs,Gbw];exact hlen),List.drop_replicate,List.take_replicate,kznw];split<;>omega
    have hMp:=hM h0.Stage;have hWle:=(kznh hts (a:=a) (p:=max c y.From) (q:=y.To) (s:=h0.Stage));have hW2:=hWle.2 (by omega) (by omega);rw[h1,it_d rfl,ck_t (by simp only[inB,Gai,Gdz];omega)];refine rest (hm.put hs0) fun s=>?_;rw[kzkq];have hadd:=kzmu (ts:=ts) (a:=a) (p:=max c y.From) (r:=min x.To y.To) (q:=y.To) (s:=s) (by omega) (by omega) (by omega);have hpt:=hpart s;have hMs:=hM s
    have htail:Wn ts a (min x.To y.To) y.To s=Wn ts a (max x.To y.From) y.To s:=by
     by_cases c3:x.To<=y.To
     ·rw[show min x.To y.To=x.To by omega,show max x.To y.From=x.To by omega]
     ·rw[kzlw (by omega),kzlw (by omega)]
    by_cases es:s=h0.Stage
    ·subst es;rw[Gd4 rfl]at hpt ⊢;omega
    ·rw[Gd3 fun e'=>es e'.symm]at hpt;rw[Gd3 es];omega
   ·-- a table
    have hin:y.From<=x.From/\x.To<=y.To:=by
     rcases hb x (Gb5 ..) t1 with h|h|h
     ·exact h
     ·omega
     ·omega
    rw[it_n t2',Gdw hxt,Gdy (show max x.From y.From=x.From by omega),Gdy (show min x.To y.To=x.To by omega)];simp only[Gaq,Gdt,qzil];have hseg:∀s,Wn ts a x.From x.To s=cnt x.Table s:=fun s=>by rw[kzmv hts eq1 (by omega) (by omega),a1.same.2,kzmq h2]
    have hadd:=fun s=>kzmu (ts:=ts) (a:=a) (p:=x.From) (r:=x.To) (q:=y.To) (s:=s) (by omega) (by omega) hin.2;have hM':∀s,M m s=cnt x.Table s+Wn ts a x.To y.To s:=fun s=>by rw[hM,show max c y.From=x.From by omega,hadd,hseg]
    obtain⟨m',e3,k1,k2⟩:=kzof (l:=x.Table) (m:=m) (fun h hh=>⟨h2.t.tk h hh,h2.t.st h hh⟩) hm fun s=>by have w1:=kznh hts (a:=a) (p:=x.To) (q:=y.To) (s:=s);have w2:=w1.2 (by omega) hin.2;have c1:=jzmh h2.t.tk s;have:=h2.s;rw[hM'];omega
    rw[e3,bd_s];refine rest k1 fun s=>?_;rw[k2,hM',show max x.To y.From=x.To by omega];omega
theorem kzos{ts:List Tok}(hts:Rawt ts){a b:Int}(hab:b-a<=2000){la:List wz3g}(Ha:Ch a la b)(ha:Ag ts (toks la)):∀{l:List wz3g} {c:Int} {t0 tc:List Tok},Ch c l b->a<=c->ts=t0++tc->wtL t0=c-a->Ag tc (toks l) -> (∀y∈l,∀x∈la,2<=x.Table.length->(y.From<=x.From/\x.To<=y.To)\/x.To<=y.From\/y.To<=x.From)->finY la l=some true
 |[],c,t0,tc,_,_,_,_,_,_=>rfl
 |y :: l,c,t0,tc,⟨h1,h2,h3⟩,hc,ht,hw,hg,hb=>by
  have yb:=h2.b;have hl:=h3.len;obtain⟨q,t2,e2,a1,a2⟩:=Ag.split (o1:=tk y) (o2:=toks l) hg;have eq1:ts=t0++(q++t2):=by rw[ht,e2]
  have wq:wtL q=y.To-c:=by rw[a1.same.1,kzk5 h2,h1]
  obtain⟨m0,m1⟩:=kzmx (l:=y.Table) (m:=[]) h2.t.st h2.t.asc MOk.nil fun h hh=>rfl;obtain⟨m',e,k1,k2⟩:=kzom hts hab (y:=y) h2 (by omega) (by omega) (l:=la) (c:=a) (t0:=[]) (tc:=ts) (m:=tabM y.Table []) Ha (Gaw _) rfl (by simp[wtL]) ha (hb y (Gb5 ..)) m0 fun s=>by rw[m1,show max a y.From=y.From by omega,kzmv hts eq1 (by omega) (by omega),a1.same.2,kzmq h2];show(0:Int)+_=_;omega
  have hall:m'.all (fun p=>decide (p.2=0))=true:=by rw[Ga0];intro p hp;have:=kznz k1.nd p hp;rw[k2]at this;exact Gdy this.symm
  show bd (finX y la (tabM y.Table [])) _=_;rw[e,bd_s];dsimp only;rw[hall];exact kzos hts hab Ha ha (l:=l) (c:=y.To) (t0:=t0++q) (tc:=t2) h3 (by omega) (by rw[eq1,List.append_assoc]) (by rw[kzh5];omega) a2 fun z hz=>hb z (Gb4 _ hz)
theorem kzsb{ts:List Tok}(hts:Rawt ts){a b:Int}(hab:b-a<=2000){la lb:List wz3g}(Ha:Ch a la b)(Hb:Ch a lb b)(na:la≠[])(nb:lb≠[])(ha:Ag ts (toks la))(hb:Ag ts (toks lb))(hx:∀y∈lb,∀x∈la,2<=x.Table.length->(y.From<=x.From/\x.To<=y.To)\/x.To<=y.From\/y.To<=x.From):kzjg la lb=some (true,0):=by have a0:=List.length_pos_iff.2 na;have b0:=List.length_pos_iff.2 nb;have g1:la[la.length-1]?=some la[la.length-1]:=Gbe (by omega);have g2:la[0]?=some la[0]:=Gbe a0;have f1:lb[lb.length-1]?=some lb[lb.length-1]:=Gbe (by omega);have f2:lb[0]?=some lb[0]:=Gbe b0;unfold kzjg;rw[qzue Ha hab,bd_s,qzk5 rfl,qzue Hb hab,bd_s,qzk5 rfl,kzll Ha,kzll Hb,show(true&&true)=true from rfl,wzdp,Gdw (show ¬la.length=0 by omega),Gdw (show ¬lb.length=0 by omega)];simp only[Gdt,qzil];rw[at_e (j:=0) (n:=0) rfl g2,bd_s,at_e (j:=0) (n:=0) rfl f2,bd_s,at_e (n:=la.length-1) (by omega) g1,bd_s,at_e (n:=lb.length-1) (by omega) f1,bd_s, (Ha.get g2).1 rfl,(Hb.get f2).1 rfl,(Ha.get g1).2.2 (by omega),(Hb.get f1).2.2 (by omega)];simp only[decide_true,Gaq,Gdt,qzil];rw[kzos hts hab Ha ha (l:=lb) (c:=a) (t0:=[]) (tc:=ts) Hb (Gaw _) rfl (by simp[wtL]) hb hx,bd_s]
theorem loc{p r o o':List Tok}{tab:List wz2w}(hp:∀k∈p,k≠.t tab)(h:p++r=o++.t tab :: o'):∃c,o=p++c/\r=c++.t tab :: o':=by
 rcases List.append_eq_append_iff.1 h with ⟨c,h1,h2⟩|⟨c,h1,h2⟩
 ·exact⟨c,h1,h2⟩
 ·cases c with
  |nil=>exact⟨[],by simpa using h1.symm,by simpa using h2.symm⟩
  |cons k c =>obtain⟨rfl,_⟩:=List.cons.inj h2;exact absurd rfl (hp _ (by rw[h1];simp))
theorem kzor{n:Nat}{v:Int}{tab:List wz2w}:∀k∈List.replicate n (Tok.s v),k≠.t tab:=fun k hk=>by rw[(List.mem_replicate.1 hk).2];intro e;cases e
theorem Ch.tab:∀{l:List wz3g} {a b:Int} {o o':List Tok} {tab:List wz2w},Ch a l b->toks l=o++.t tab :: o'->∃y∈l,y.From=a+wtL o/\y.To=y.From+hsum tab
 |[],a,b,o,o',tab,_,h=>by have h:[]=o++.t tab :: o':=h;simp at h
 |x :: l,a,b,o,o',tab,⟨h1,h2,h3⟩,h=>by
  have h:tk x++toks l=o++.t tab :: o':=h;have next:∀c,o=tk x++c->toks l=c++.t tab :: o'->∃y∈x :: l,y.From=a+wtL o/\y.To=y.From+hsum tab:=fun c e1 e2=>by obtain⟨y,hy,k1,k2⟩:=h3.tab e2;refine⟨y,Gb4 _ hy,?_,k2⟩;rw[k1,e1,kzh5,kzk5 h2];omega
  rcases h2.cases with ⟨s,_,_,_,e⟩|⟨h5,e⟩
  ·obtain⟨c,e1,e2⟩:=loc (by rw[e];exact kzor) h;exact next c e1 e2
  ·by_cases ht:x.Table=tab
   ·cases o with
    |nil =>refine⟨x,Gb5 ..,by simp[wtL,h1],?_⟩;rw[<-ht,h2.s];omega
    |cons k o =>have h':=h;rw[e]at h';obtain⟨rfl,h6⟩:=List.cons.inj h';exact next o (by rw[e];rfl) h6
   ·obtain⟨c,e1,e2⟩:=loc (by rw[e];intro k hk e';rw[Gcc.1 hk]at e';cases e';exact ht rfl) h;exact next c e1 e2
theorem Ch.disj:∀{l:List wz3g} {a b:Int},Ch a l b->∀x∈l,∀y∈l,x=y\/x.To<=y.From\/y.To<=x.From
 |z :: l,a,b,⟨h1,h2,h3⟩,x,hx,y,hy=>by
  rcases Gb3.1 hx with ex|hx'
  ·rcases Gb3.1 hy with ey|hy';·exact .inl (ex.trans ey.symm)
   ·exact .inr (.inl (by rw[ex];exact(h3.ok y hy').2.1))
  ·rcases Gb3.1 hy with ey|hy';·exact .inr (.inr (by rw[ey];exact(h3.ok x hx').2.1))
   ·exact h3.disj x hx' y hy'
theorem kzh4.tab{hi:Int}:∀{A:List kzht} {lo:Int} {ts oe o o':List Tok} {tab:List wz2w},kzh4 lo ts A oe->Rawt ts->BOk hi lo A->oe=o++.t tab :: o'->∃X∈A,X.Level≠0/\X.From+1=lo+wtL o/\X.To-1=lo+wtL o+hsum tab
 |[],lo,ts,oe,o,o',tab,h,hr,_,e=>by have h:oe=ts:=h;subst h;obtain⟨v,hv,_⟩:=hr (.t tab) (by rw[e];simp);cases hv
 |x :: A,lo,ts,oe,o,o',tab,h,hr,hb,eo=>by
  by_cases e:x.Level=0
  ·obtain⟨X,hX,k⟩:=kzh4.tab (h.1 e) hr (hb.1 e) eo;exact⟨X,Gb4 _ hX,k⟩
  ·obtain⟨p,q,w,s,n,h1,h2,h3,h4,h5,h6⟩:=h.2 e;obtain⟨_,b1,b2,b3,b4⟩:=hb.2 e;subst h1;rw[h5]at eo;obtain⟨c,rfl,e2⟩:=loc (fun k hk e'=>by obtain⟨v,hv,_⟩:=hr.left k hk;rw[hv]at e';cases e') eo;rw[kzh5];obtain⟨⟨u,v,tx,g1,g2,g3,g4⟩,g5,g6⟩:=h4;have next:∀c',c=s++c'->n=c'++.t tab :: o'->∃X∈x :: A,X.Level≠0/\X.From+1=lo+(wtL p+wtL c)/\X.To-1=lo+(wtL p+wtL c)+hsum tab:=fun c' f1 f2=>by obtain⟨X,hX,k1,k2,k3⟩:=kzh4.tab h6 hr.right.right b4 f2;rw[f1,kzh5,g5];exact⟨X,Gb4 _ hX,k1,by omega,by omega⟩
   unfold smT at g3;by_cases c1:x.To-x.From=1
   ·rw[Gd4 c1]at g3;obtain⟨c',f1,f2⟩:=loc (by rw[g3];intro k hk e';rw[Gcc.1 hk]at e';cases e') e2;exact next c' f1 f2
   ·rw[Gd3 c1]at g3;by_cases c2:x.From+1<x.To-1
    ·rw[Gd4 c2]at g3;by_cases c3:tx.length=1
     ·obtain⟨c',f1,f2⟩:=loc (by
       rw[g3];obtain⟨h,rfl⟩:=List.length_eq_one_iff.1 c3;intro k hk e';rcases Gb3.1 hk with rfl|hk
       ·cases e'
       ·rcases Gb2.1 hk with hk|hk;·exact kzor k hk e'
        ·rw[Gcc.1 hk]at e';cases e') e2
      exact next c' f1 f2
     ·rw[kzkv c3]at g3;by_cases c4:tx=tab
      ·subst c4;cases c with
       |nil=>rw[g3]at e2;cases e2
       |cons k c =>
        rw[g3]at e2;obtain⟨rfl,e3⟩:=List.cons.inj e2;cases c with
        |nil =>have:wtL s=1+(hsum tx+(1+0)):=(by rw[g3];rfl);refine⟨x,Gb5 ..,e,?_,?_⟩<;>simp only[wtL,wt]<;>omega
        |cons k c =>
         obtain⟨rfl,e4⟩:=List.cons.inj e3;have e4:.s v :: n=c++.t tx :: o':=e4;cases c with
         |nil=>cases e4
         |cons k c =>obtain⟨rfl,e5⟩:=List.cons.inj e4;exact next c (by rw[g3];rfl) e5
      ·obtain⟨c',f1,f2⟩:=loc (by
        rw[g3];intro k hk e';rcases Gb3.1 hk with rfl|hk
        ·cases e'
        ·rcases Gb2.1 hk with hk|hk;·rw[Gcc.1 hk]at e';cases e';exact c4 rfl
         ·rw[Gcc.1 hk]at e';cases e') e2
       exact next c' f1 f2
    ·rw[Gd3 c2]at g3
     obtain⟨c',f1,f2⟩:=loc (by
      rw[g3];intro k hk e';rcases Gb3.1 hk with rfl|hk
      ·cases e'
      ·rw[Gcc.1 hk]at e';cases e') e2
     exact next c' f1 f2
theorem kzh4.at{hi:Int}:∀{L:List kzht} {lo:Int} {ts ol:List Tok},kzh4 lo ts L ol->Rawt ts->BOk hi lo L->∀z∈L,z.Level≠0->∃o s o' q t1 t2,ol=o++(s++o')/\wtL o=z.From-lo/\SmOk z.From z.To q s/\ts=t1++(q++t2)/\wtL t1=z.From-lo/\wtL q=z.To-z.From
 |x :: L,lo,ts,ol,h,hr,hb,z,hz,ez=>by
  by_cases e:x.Level=0
  ·rcases Gb3.1 hz with rfl|hz;·exact absurd e ez
   ·exact kzh4.at (h.1 e) hr (hb.1 e) z hz ez
  ·obtain⟨p,q,w,s,n,h1,h2,h3,h4,h5,h6⟩:=h.2 e;obtain⟨_,b1,b2,b3,b4⟩:=hb.2 e;rcases Gb3.1 hz with rfl|hz
   ·exact⟨p,s,n,q,p,w,h5,h2,h4,h1,h2,h3⟩
   ·subst h1;obtain⟨o,s',o',q',t1,t2,k1,k2,k3,k4,k5,k6⟩:=kzh4.at h6 hr.right.right b4 z hz ez;refine⟨p++(s++o),s',o',q',p++(q++t1),t2,by rw[h5,k1];simp,?_,k3,by rw[k4];simp,?_,k6⟩
    ·rw[kzh5,kzh5,h4.w];omega
    ·rw[kzh5,kzh5];omega
theorem bnd{ts oe ol:List Tok}{a b:Int}{A L:List kzht}{la lb:List wz3g}(hts:Rawt ts)(hA:BOk b a A)(hL:BOk b a L)(hI:InB A L)(k1:kzh4 a ts A oe)(k2:kzh4 a ts L ol)(Ha:Ch a la b)(Hb:Ch a lb b)(ea:toks la=oe)(eb:toks lb=ol) : ∀y∈lb,∀x∈la,2<=x.Table.length->(y.From<=x.From/\x.To<=y.To)\/x.To<=y.From\/y.To<=x.From:=by
 intro y hy x hx hx2;obtain⟨m1,m2,em⟩:=List.append_of_mem hx;have Ha':=Ha;rw[em]at Ha';obtain⟨d,d1,d2,d3,d4⟩:=kzki.1 Ha';have xl:=d3.len;have dl:=d1.len;have xb:=d3.b;have xs:=d3.s;have ag:=k1.ag hts hA;rw[<-ea,em,kzi0]at ag;obtain⟨t1,t',e1,a1,a2⟩:=Ag.split ag;obtain⟨qx,t2,rfl,a3,a4⟩:=Ag.split (o1:=tk x) (o2:=toks m2) a2;have wx1:wtL t1=x.From-a:=by rw[a1.same.1,d1.tok.1,d2]
 have wx2:wtL qx=x.To-x.From:=by rw[a3.same.1,kzk5 d3]
 have hWx:∀s,Wn ts a x.From x.To s=cnt x.Table s:=fun s=>by rw[kzmv hts e1 wx1 wx2,a3.same.2,kzmq d3]
 have hk:tk x=[.t x.Table]:=kzkv (by omega);obtain⟨X,hX,X1,X2,X3⟩:=k1.tab hts hA (o:=toks m1) (o':=toks m2) (tab:=x.Table) (by rw[<-ea,em,kzi0];show _++(tk x++toks m2)=_;rw[hk];rfl);rw[d1.tok.1,<-d2]at X2 X3;obtain⟨z,hz,z1,z2,z3⟩:=hI X hX X1;obtain⟨o,s,o',q,s1,s2,f1,f2,f3,f4,f5,f6⟩:=k2.at hts hL z hz z1;obtain⟨⟨u,v,tz,⟨r1,g1⟩,⟨r2,g2⟩,g3,g4⟩,g5,g6⟩:=f3;obtain⟨mm,gm⟩:=kzkp g1 g2 (by omega);have C:=g4 (by omega);unfold smT at g3;rw[Gd3 (by omega),Gd4 (by omega)]at g3;have hi:∀s,cnt tz s=hT mm s:=fun s=>by rw[C.c];unfold inn;rw[gm];show(if u=s then 1 else 0)+hT (mm++[.s v]) s-_-_=_;rw[kzjc];show(if u=s then 1 else 0)+(hT mm s+((if v=s then 1 else 0)+0))-_-_=_;omega
 have wm:wtL mm=z.To-z.From-2:=by have:=f6;rw[gm]at this;simp only[wtL,kzh5,wt]at this;omega
 have hWz:∀s,Wn ts a (z.From+1) (z.To-1) s=cnt tz s:=fun s=>by
  rw[hi];refine kzmv (t1:=s1++[.s u]) (t2:=.s v :: s2) hts (by rw[f4,gm];simp) ?_ ?_
  ·rw[kzh5];show wtL s1+(1+0)=_;omega
  ·omega
 have hle:∀s,cnt x.Table s<=cnt tz s:=fun s=>by rw[<-hWx,<-hWz,kzmu (ts:=ts) (a:=a) (p:=z.From+1) (r:=x.From) (q:=z.To-1) (s:=s) (by have:=(hL.le z hz z1).1;omega) (by omega) (by omega),kzmu (ts:=ts) (a:=a) (p:=x.From) (r:=x.To) (q:=z.To-1) (s:=s) (by omega) (by omega) (by omega)];have i1:=(kznh hts (a:=a) (p:=z.From+1) (q:=x.From) (s:=s)).1;have i2:=(kznh hts (a:=a) (p:=x.To) (q:=z.To-1) (s:=s)).1;omega
 obtain⟨h0,h1,r,ex⟩:∃h0 h1 r,x.Table=h0 :: h1 :: r:=by
  cases hx':x.Table with
  |nil=>rw[hx']at hx2;simp at hx2
  |cons p r =>
   cases r with
   |nil=>rw[hx']at hx2;simp at hx2
   |cons q r=>exact⟨p,q,r,rfl⟩
 have hlt:h0.Stage<h1.Stage:=by have:=d3.t.asc;rw[ex]at this;exact(Gcf.1 this).1 h1 (Gb5 ..)
 have p0:=jzn0 d3.t.asc h0 (by rw[ex];simp);have p1:=jzn0 d3.t.asc h1 (by rw[ex];simp);have p2:=d3.t.tk h0 (by rw[ex];simp);have p3:=d3.t.tk h1 (by rw[ex];simp);have l0:=hle h0.Stage;have l1:=hle h1.Stage;obtain⟨w0,hw0,ew0⟩:=kzl3 (t:=tz) (fun h hh=>(C.ok h hh).1) (s:=h0.Stage) (by omega);obtain⟨w1,hw1,ew1⟩:=kzl3 (t:=tz) (fun h hh=>(C.ok h hh).1) (s:=h1.Stage) (by omega);have htz:tz.length≠1:=fun e=>by obtain⟨k,rfl⟩:=List.length_eq_one_iff.1 e;rw[Gcc.1 hw0]at ew0;rw[Gcc.1 hw1]at ew1;omega
 rw[kzkv htz]at g3
 have hs:hsum tz=z.To-z.From-2:=by
  have:wtL s=1+(hsum tz+(1+0)):=by rw[g3];rfl
  omega
 obtain⟨y0,hy0,j1,j2⟩:=Hb.tab (o:=o++[.s u]) (tab:=tz) (o':=.s v :: o') (by rw[eb,f1,g3];simp);have j1:y0.From=z.From+1:=by rw[j1,kzh5];show a+(wtL o+(1+0))=_;omega
 rcases Hb.disj y hy y0 hy0 with rfl|h|h
 ·exact .inl ⟨by omega,by omega⟩
 ·exact .inr (.inr (by omega))
 ·exact .inr (.inl (by omega))
end Go.Am

