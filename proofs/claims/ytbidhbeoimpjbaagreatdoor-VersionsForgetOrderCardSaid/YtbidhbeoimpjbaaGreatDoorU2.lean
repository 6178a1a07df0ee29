/- Part U2: the mathematics of the functions of this seat. No condition. -/
import Derived.Test.YtbidhbeoimpjbaaGreatDoorU1
set_option linter.unusedSimpArgs false
set_option linter.unusedVariables false
namespace Go.Am
def isEd(l:List Ac)(g x:Int):Prop:=∃v,v∈l/\v.Gauge=g/\(x=v.From\/x=v.To)
structure Eds(l:List Ac)(g f t:Int)(E:List Int):Prop where
 asc:SAsc E
 mem:∀x,x∈E↔x=f\/x=t\/(isEd l g x/\f<x/\x<t)
theorem Eds.uniq{l:List Ac}{g f t:Int}{D E:List Int}(h:Eds l g f t D)(k:Eds l g f t E):D=E:=ZH h.asc k.asc fun x=>(h.mem x).trans (k.mem x).symm
end Go.Am

namespace Go.Am
def vdat(l:List Ac)(g x known:Int):Int:=match vfrc l 2 g x known with
 |some v=>v.Shift
 |none=>0
end Go.Am

namespace Go.Am
end Go.Am

namespace Go.Am
def spV(l:List Ac)(g known x:Int):Int×List AC:=(vdat l g x known,match vfrc l 1 g x known with | some c=>c.Curve.Points | none=>[])
def spT(s:AL):Int×Int×Int×List AC:=(s.From,s.To,s.Datum,s.Curve.Points)
def unTk(w:AJ)(p:Int×Int×Int×List AC):AL:=⟨p.1,p.2.1,w,p.2.2.1,⟨p.2.2.2⟩⟩
theorem Uj{w:AJ}:∀{o:List AL},(∀s,s∈o->s.Weight=w)->(o.map spT).map (unTk w)=o
 |[],_=>rfl
 |s :: o,h=>by
  have hs:unTk w (spT s)=s:=by rw[<-h s (by simp)];rfl
  rw[HZ,HZ,hs,Uj fun x hx=>h x (by simp[hx])]
theorem Eds.head{l:List Ac}{g f t:Int}{E:List Int}(h:Eds l g f t E)(kv:f<=t):∃E',E=f :: E':=by
 have hf:f∈E:=(h.mem f).2 (.inl rfl);cases E with
 |nil=>cases hf
 |cons a E =>
  refine⟨E,?_⟩;have ha:=(h.mem a).1 (by simp);rcases AI.1 hf with e|e
  ·rw[e]
  ·have:=(GU.1 h.asc).1 f e;rcases ha with e|e|⟨_,e,_⟩<;>omega
structure SpC(l:List Ac)(g known:Int)(w:AJ)(f t:Int)(o:List AL):Prop where
 cd:Cd (spV l g known) t none f (o.map spT)
 wt:∀s,s∈o->s.Weight=w
 all:∀x,f<=x->x<t->vfrc l 1 g x known≠none
theorem SpC.uniq{l m:List Ac}{g h known k:Int}{w:AJ}{f t:Int}{o p:List AL}(ho:SpC l g known w f t o)(hp:SpC m h k w f t p)(e:∀x,f<=x->x<t->spV l g known x=spV m h k x):o=p:=by rw[<-Uj ho.wt,<-Uj hp.wt,(ho.cd.congr e).uniq hp.cd]
end Go.Am

namespace Go.Am
set_option maxRecDepth 100000 in
theorem jz8f:NJ=some true:=by decide +kernel
def Fy(x known:Int):Prop:=0<=x/\x<1402560/\0<=known/\known<=14609
instance (x k:Int):Decidable (Fy x k):=by unfold Fy;infer_instance
theorem kzdr{v:Ac}(h:v.Curve.Points.length<=1048576):Kt v v=some true:=by rw[jz3a h];simp
end Go.Am

namespace Go.Am
end Go.Am

namespace Go.Am
section
variable {α:Type}
theorem kze3{L R:List α}{x:α}{i:Int}(h:i=(L.length:Int)):at? (L++x :: R) i=some x:=at_e (n:=L.length) h (by simp)
theorem kzfa{L R:List α}{x y:α}{i:Int}(h:i=(L.length:Int)):List.set (L++x :: R) (Int.toNat i) y=L++y :: R:=by subst h;rw[DJ,List.set_append_right _ _ (AB _)];simp
end
def Sd(l:List Ac):Prop:=l.Pairwise fun a b=>¬vlt b a
theorem kzfq{a b c:Ac}(h:¬vlt b a)(k:¬vlt c b):¬vlt c a:=by unfold vlt at *;omega
theorem kzfn{a b:Ac}(h:vlt a b):¬vlt b a:=jz11 h
def CmpV(cmp:Ac->Ac->Option Int):Prop:=∀x y,cmp x y=some (vcmp x y)
theorem Sd.app{l m:List Ac}:Sd (l++m)↔Sd l/\Sd m/\∀a,a∈l->∀b,b∈m->¬vlt b a:=List.pairwise_append
theorem kzgc{cmp:Ac->Ac->Option Int}(hc:CmpV cmp){A Y B:List Ac}{x:Ac}(hY:Sd Y)(hn:A.length+Y.length<=1000000) : ∃Q,lp (jz6x (A.length:Int) cmp) (((A.length+Y.length:Nat):Int),A++Y++x :: B)=some (A++Q++B)/\Sd Q/\Q.Perm (x :: Y):=by
 obtain⟨o,e,Q,rfl,h1,h2⟩:=Dw (s:=(((A.length+Y.length:Nat):Int),A++Y++x :: B)) (body:=jz6x (A.length:Int) cmp) (fun s=>∃P S,s=(((A.length+P.length:Nat):Int),A++P++x :: (S++B))/\P++S=Y/\∀y,y∈S->vlt x y) (fun s=>s.1.toNat) (fun o=>∃Q,o=A++Q++B/\Sd Q/\Q.Perm (x :: Y)) (by
  rintro s ⟨P,S,rfl,qw,hS⟩;simp only[jz6x];have qJ:=hY;rw[<-qw]at qJ;obtain⟨y1,y2,y3⟩:=Sd.app.1 qJ;have hl:P.length+S.length=Y.length:=by rw[<-qw,BK]
  have stop:(∀y,y∈P->¬vlt x y)->∃Q,A++P++x :: (S++B)=A++Q++B/\Sd Q/\Q.Perm (x :: Y):=fun h=>by
   refine⟨P++x :: S,by simp,?_,?_⟩
   ·refine Sd.app.2 ⟨y1,GU.2 ⟨fun b hb=>kzfn (hS b hb),y2⟩,fun a ha b hb=>?_⟩;rcases AI.1 hb with rfl|hb
    ·exact h a ha
    ·exact y3 a ha b hb
   ·rw[<-qw];exact List.perm_middle
  rcases List.eq_nil_or_concat P with rfl|⟨P',y,rfl⟩
  ·right;rw[Bz (show ¬(A.length:Int)<((A.length+([]:List Ac).length:Nat):Int) by simp)];simp only[AQ,Af,Cq,CZ,Bool.true_or];rw[G2,Be];exact⟨_,rfl,stop fun y hy=>by cases hy⟩
  ·rw[List.concat_eq_append]at *;have ej:((A.length+(P'++[y]).length:Nat):Int)-1=((A++P').length:Int):=by simp;omega
   have ejj:((A.length+(P'++[y]).length:Nat):Int)=((A++P'++[y]).length:Int):=by simp;(try omega)
   have el:A++(P'++[y])++x :: (S++B)=(A++P')++y :: x :: (S++B):=by simp
   have el2:A++(P'++[y])++x :: (S++B)=(A++P'++[y])++x :: (S++B):=by simp
   have a1:at? (A++(P'++[y])++x :: (S++B)) ((A.length+(P'++[y]).length:Nat):Int)=some x:=by rw[el2];exact kze3 ejj
   have a2:at? (A++(P'++[y])++x :: (S++B)) (((A.length+(P'++[y]).length:Nat):Int)-1)=some y:=by rw[el];exact kze3 ej
   rw[Cy (show(A.length:Int)<((A.length+(P'++[y]).length:Nat):Int) by simp;omega),a1,a2];simp only[AU,Af,Cj,Da,Bool.false_or];rw[AA (by simp at hl |-;omega),hc];simp only[Af];by_cases h:vlt x y
   ·left;rw[it_d (Pu.2 h),AA (by simp at hl |-;omega),AA (by simp at hl |-;omega)];have s1:List.set (A++(P'++[y])++x :: (S++B)) (Int.toNat ((A.length+(P'++[y]).length:Nat):Int)) y=(A++P')++y :: y :: (S++B):=by rw[el2,kzfa ejj];(try simp)
    rw[s1,kze3 ej,kzfa ej];simp only[Af];rw[AA (by simp at hl |-;omega)];refine⟨_,rfl,⟨P',y :: S,?_,by rw[<-qw];simp,fun z hz=>?_⟩,by simp;omega⟩
    ·rw[ej];simp
    ·rcases AI.1 hz with rfl|hz;·exact h
     ·exact hS z hz
   ·right;rw[it_n (mt Pu.1 h)];refine⟨_,rfl,stop fun z hz=>?_⟩;rcases Cp.1 hz with hz|hz
    ·exact kzfq ((Sd.app.1 y1).2.2 z hz y (by simp)) h
    ·cases BX.1 hz;exact h) ⟨Y,[],by simp,by simp,fun y hy=>by cases hy⟩ (by simp only;omega)
 exact⟨Q,e,h1,h2⟩
theorem kzf7{cmp:Ac->Ac->Option Int}(hc:CmpV cmp){A X B:List Ac}(hn:A.length+X.length<=1000000){a b:Int}(ha:a=(A.length:Int))(hb:b=(A.length+X.length:Nat)) : ∃Q,Ra (A++X++B) a b cmp=some (A++Q++B)/\Sd Q/\Q.Perm X:=by
 subst ha hb;unfold Ra;rw[AA];cases X with
 |nil =>
  rw[jzct (fun _=>((A.length:Int)+1,A++[]++B)) 0 (by decide) (fun k hk=>by omega) (o:=A++[]++B) ?_ rfl]
  ·exact⟨[],rfl,List.Pairwise.nil,.refl _⟩
  ·simp only[jz6y];rw[it_n (by simp;omega)]
 |cons x X =>
  obtain⟨o,e,Q,rfl,h1,h2⟩:=Dw (s:=((A.length:Int)+1,A++x :: X++B)) (body:=jz6y (A.length:Int) ((A.length+(x :: X).length:Nat):Int) cmp) (fun s=>∃Y Z,s=(((A.length+Y.length:Nat):Int),A++Y++(Z++B))/\Sd Y/\(Y++Z).Perm (x :: X)) (fun s=>(((A.length+(x :: X).length:Nat):Int)-s.1).toNat) (fun o=>∃Q,o=A++Q++B/\Sd Q/\Q.Perm (x :: X)) (by
   rintro s ⟨Y,Z,rfl,hY,hP⟩;have hl:=hP.length_eq;rw[BK]at hl;simp only[jz6y];cases Z with
   |nil =>right;rw[it_n (by simp at hl |-;omega)];rw[List.append_nil]at hP;exact⟨_,rfl,Y,rfl,hY,hP⟩
   |cons z Z =>
    left;simp only[Df]at hl hn |-;rw[it_d (by omega)];obtain⟨Q,q1,q2,q3⟩:=kzgc hc (A:=A) (Y:=Y) (B:=Z++B) (x:=z) hY (by omega);rw[Um,q1];simp only[Af];rw[AA];have hQ:=q3.length_eq;simp only[Df]at hQ;refine⟨_,rfl,⟨Q,Z,?_,q2,?_⟩,by simp only;omega⟩
    ·rw[hQ];congr 1;(try omega)
    ·refine List.Perm.trans ?_ hP;exact(q3.append_right Z).trans (List.perm_middle.symm)) ⟨[x],X,by simp,P6 _ _,.refl _⟩ (by simp only[Df]at hn |-;omega)
  exact⟨Q,by rw[e];rfl,h1,h2⟩
theorem kzfl{cmp:Ac->Ac->Option Int}{A U M V B:List Ac}(qK:U.length=V.length)(hn:A.length+U.length+M.length+V.length<=1000000){a b n:Int}(ha:a=(A.length:Int))(hb:b=(A.length+U.length+M.length:Nat))(gE:n=(U.length:Int)) :
  N3 (A++U++M++V++B) a b n cmp=some (A++V++M++U++B):=by
 subst ha hb gE;unfold N3
 obtain⟨o,e,ho⟩:=Dw (s:=((0:Int),A++U++M++V++B)) (body:=jz62 (A.length:Int) ((A.length+U.length+M.length:Nat):Int) (U.length:Int)) (fun s=>∃U1 U2 V1 V2,s=((U1.length:Int),A++V1++U2++M++U1++V2++B)/\U1++U2=U/\V1++V2=V/\U1.length=V1.length) (fun s=>(U.length-s.1).toNat) (fun o=>o=A++V++M++U++B) (by
  rintro s ⟨U1,U2,V1,V2,rfl,hU,hV,h1⟩;have l1:U1.length+U2.length=U.length:=by rw[<-hU,BK]
  have l2:V1.length+V2.length=V.length:=by rw[<-hV,BK]
  simp only[jz62];cases U2 with
  |nil =>right;rw[it_n (by simp at l1 |-;omega)];have:V2=[]:=J7.1 (by simp at l1;omega);subst this;rw[List.append_nil]at hU hV;subst hU hV;exact⟨_,rfl,by simp⟩
  |cons u U2 =>
   cases V2 with
   |nil=>simp at l1 l2;omega
   |cons v V2 =>
    left;simp only[Df]at l1 l2;have e0:A++V1++u :: U2++M++U1++v :: V2++B=(A++V1)++u :: (U2++M++U1++v :: (V2++B)):=by simp
    have e1:A++V1++u :: U2++M++U1++v :: V2++B=(A++V1++u :: U2++M++U1)++v :: (V2++B):=(by simp);have i0:(A.length:Int)+(U1.length:Int)=((A++V1).length:Int):=(by simp;omega);have i1:((A.length+U.length+M.length:Nat):Int)+(U1.length:Int)=((A++V1++u :: U2++M++U1).length:Int):=(by simp;omega);have i2:((A.length+U.length+M.length:Nat):Int)+(U1.length:Int)=((A++V1++v :: U2++M++U1).length:Int):=(by simp;omega);have a0:at? (A++V1++u :: U2++M++U1++v :: V2++B) ((A.length:Int)+(U1.length:Int))=some u:=(by rw[e0];exact kze3 i0);have a1:at? (A++V1++u :: U2++M++U1++v :: V2++B) (((A.length+U.length+M.length:Nat):Int)+(U1.length:Int))=some v:=(by rw[e1];exact kze3 i1);rw[it_d (by omega),AA,AA,AA,a1];simp only[Af];rw[AA,a0];simp only[Af];have s0:List.set (A++V1++u :: U2++M++U1++v :: V2++B) (Int.toNat ((A.length:Int)+(U1.length:Int))) v=(A++V1++v :: U2++M++U1)++v :: (V2++B):=(by rw[e0,kzfa i0];simp);rw[s0,kze3 i2,kzfa i2];simp only[Af];rw[AA];refine⟨_,rfl,⟨U1++[u],U2,V1++[v],V2,?_,by rw[<-hU];simp,by rw[<-hV];simp,by simp[h1]⟩,by simp only;omega⟩;simp) ⟨[],U,[],V,by simp,rfl,rfl,rfl⟩ (by simp only;omega)
 rw[e,ho];rfl
theorem kzge{cmp:Ac->Ac->Option Int}{A X Y B:List Ac}(hX:0<X.length)(hY:0<Y.length)(hn:A.length+X.length+Y.length<=1000000){a m b:Int}(ha:a=(A.length:Int))(hm:m=(A.length+X.length:Nat))(hb:b=(A.length+X.length+Y.length:Nat)) :
  Xc (A++X++Y++B) a m b cmp=some (A++Y++X++B):=by
 unfold Xc;rw[AA,AA]
 obtain⟨o,e,i,dat,rfl,h⟩:=Dw (s:=(m-a,b-m,A++X++Y++B)) (body:=jz7b cmp m) (fun s=>∃A1 U V B1,s=((U.length:Int),(V.length:Int),A1++U++V++B1)/\(A1.length:Int)+U.length=m/\0<U.length/\0<V.length/\A1.length+U.length+V.length<=1000000/\A1++V++U++B1=A++Y++X++B) (fun s=>(s.1+s.2.1).toNat) (fun o=>∃i dat,o=(i,dat)/\∃A1 U V B1,i=(U.length:Int)/\dat=A1++U++V++B1/\U.length=V.length/\(A1.length:Int)+U.length=m/\A1.length+U.length+V.length<=1000000/\A1++V++U++B1=A++Y++X++B) (by
  rintro s ⟨A1,U,V,B1,rfl,h1,h2,h3,h4,h5⟩;simp only[jz7b];by_cases qK:U.length=V.length
  ·right;rw[Bu (by omega)];exact⟨_,rfl,_,_,rfl,A1,U,V,B1,rfl,rfl,qK,h1,h4,h5⟩
  left;rw[BU (by omega)];by_cases hlt:V.length<U.length
  ·rw[it_d (by omega),AA];obtain⟨U1,U2,rfl,qL⟩:∃U1 U2,U=U1++U2/\U1.length=V.length:=⟨U.take V.length,U.drop V.length,(P7 _ _).symm,by simp;omega⟩;rw[BK]at *;have:=kzfl (cmp:=cmp) (A:=A1) (U:=U1) (M:=U2) (V:=V) (B:=B1) qL (by omega) (a:=m-((U1.length+U2.length:Nat):Int)) (b:=m) (n:=(V.length:Int)) (by omega) (by omega) (by omega);rw[show A1++(U1++U2)++V++B1=A1++U1++U2++V++B1 by simp,this];simp only[Af];rw[AA];refine⟨_,rfl,⟨A1++V,U2,U1,B1,?_,?_,by omega,by omega,?_,?_⟩,by simp only;omega⟩
   ·rw[qL];congr 1;omega
   ·rw[BK];omega
   ·rw[BK];omega
   ·rw[<-h5];simp
  ·rw[it_n (by omega),AA,AA,AA];obtain⟨V1,V2,rfl,qM⟩:∃V1 V2,V=V1++V2/\V2.length=U.length:=⟨V.take (V.length-U.length),V.drop (V.length-U.length),(P7 _ _).symm,by simp;omega⟩;rw[BK]at *;have:=kzfl (cmp:=cmp) (A:=A1) (U:=U) (M:=V1) (V:=V2) (B:=B1) qM.symm (by omega) (a:=m-(U.length:Int)) (b:=m+((V1.length+V2.length:Nat):Int)-(U.length:Int)) (n:=(U.length:Int)) (by omega) (by omega) (by omega);rw[show A1++U++(V1++V2)++B1=A1++U++V1++V2++B1 by simp,this];simp only[Af];rw[AA];refine⟨_,rfl,⟨A1,V2,V1,U++B1,?_,by omega,by omega,by omega,by omega,?_⟩,by simp only;omega⟩
   ·rw[qM];refine Prod.ext rfl (Prod.ext (by simp only;omega) ?_);simp
   ·rw[<-h5];simp) ⟨A,X,Y,B,by rw[ha,hm,hb];refine Prod.ext (by simp only;omega) (Prod.ext (by simp only;omega) rfl),by omega,hX,hY,hn,rfl⟩ (by simp only;omega)
 obtain⟨A1,U,V,B1,rfl,rfl,q1,q2,q3,q4⟩:=h;rw[e];simp only[Af];rw[AA];have:=kzfl (cmp:=cmp) (A:=A1) (U:=U) (M:=[]) (V:=V) (B:=B1) q1 (by simp;omega) (a:=m-(U.length:Int)) (b:=m) (n:=(U.length:Int)) (by omega) (by simp;omega) rfl;simp only[List.append_nil]at this;rw[this,q4];rfl
theorem kzfr{ω:Type}{body:Int×Int->Option ((Int×Int)⊕ω)}{r:Int->ω}{p:Nat->Bool}{lo hi:Nat}(cg:lo<=hi)(hs:∀i j:Nat,lo<=i->i<j->j<=hi->body ((i:Int),(j:Int))=some (.inl (bif p ((i+j) / 2) then((((i+j) / 2+1:Nat):Int),(j:Int)) else((i:Int),(((i+j) / 2:Nat):Int)))))(he:∀i:Nat,body ((i:Int),(i:Int))=some (.inr (r (i:Int)))) (hb:hi<=4000000):∃k:Nat,lp body ((lo:Int),(hi:Int))=some (r (k:Int))/\lo<=k/\k<=hi/\(lo<k->p (k-1)=true)/\(k<hi->p k=false):=by
 obtain⟨o,e,k,rfl,h⟩:=Dw (s:=((lo:Int),(hi:Int))) (body:=body) (fun s=>∃i j:Nat,s=((i:Int),(j:Int))/\lo<=i/\i<=j/\j<=hi/\(lo<i->p (i-1)=true)/\(j<hi->p j=false)) (fun s=>(s.2-s.1).toNat) (fun o=>∃k:Nat,o=r (k:Int)/\lo<=k/\k<=hi/\(lo<k->p (k-1)=true)/\(k<hi->p k=false)) (by
  rintro s ⟨i,j,rfl,h1,h2,h3,h4,h5⟩;by_cases h:i<j
  ·left;rw[hs i j h1 h h3];cases hp:p ((i+j) / 2)
   ·refine⟨_,rfl,⟨i,(i+j) / 2,rfl,h1,by omega,by omega,h4,fun _=>hp⟩,?_⟩;simp;omega
   ·refine⟨_,rfl,⟨(i+j) / 2+1,j,rfl,by omega,by omega,h3,fun _=>by simpa using hp,h5⟩,?_⟩;simp;omega
  ·right;obtain rfl:i=j:=by omega
   exact⟨_,he i,i,rfl,h1,h3,h4,h5⟩) ⟨lo,hi,rfl,AB _,cg,AB _,fun h=>by omega,fun h=>by omega⟩ (by simp only;omega)
 exact⟨k,e,h⟩
theorem kzfg{i j:Nat}(h:i+j<=8000000):Int.fdiv (((i:Int)+(j:Int))%18446744073709551616) 2=(((i+j) / 2:Nat):Int):=by rw[Int.emod_eq_of_lt (by omega) (by omega),P3 _ (by decide)];omega
theorem kzff{α:Type}(l:List α)(k:Nat)(h:k<=l.length):∃a b,l=a++b/\a.length=k:=⟨l.take k,l.drop k,(P7 _ _).symm,by simp;omega⟩
theorem kzfm{α:Type}{A X B:List α}{i:Int}{k:Nat}(hi:i=((A.length+k:Nat):Int))(hk:k<X.length):at? (A++X++B) i=some X[k]:=by refine at_e hi ?_;rw[List.append_assoc,GS (by omega),F0 (by omega)];rw[show A.length+k-A.length=k by omega];exact AD hk
theorem Sd.get{l:List Ac}(h:Sd l){i j:Nat}(hi:i<l.length)(hj:j<l.length)(mh:i<=j):¬vlt l[j] l[i]:=by
 by_cases e:i=j
 ·subst e;exact ZW
 ·exact U4.1 h i j hi hj (by omega)
theorem kzfe{P Q:List Ac}(hP:Sd P)(hQ:Sd Q)(h:∀u v,P.getLast?=some u->Q[0]?=some v->¬vlt v u):∀a,a∈P->∀b,b∈Q->¬vlt b a:=by
 intro a ha b hb;rcases List.eq_nil_or_concat P with rfl|⟨P',u,rfl⟩
 ·cases ha
 ·rw[List.concat_eq_append]at *;cases Q with
  |nil=>cases hb
  |cons v Q =>
   have h1:=h u v List.getLast?_concat rfl
   have h2:¬vlt u a:=by
    rcases Cp.1 ha with ha|ha
    ·exact(Sd.app.1 hP).2.2 a ha u (by simp)
    ·cases BX.1 ha;exact ZW
   have h3:¬vlt b v:=by
    rcases AI.1 hb with rfl|hb
    ·exact ZW
    ·exact(GU.1 hQ).1 b hb
   exact kzfq (kzfq h2 h1) h3
theorem kzft{X1 X2 Y1 Y2 P Q:List Ac}(hX:Sd (X1++X2))(hY:Sd (Y1++Y2))(h1:∀a,a∈X1->∀b,b∈Y2->¬vlt b a)(h2:∀a,a∈Y1->∀b,b∈X2->¬vlt b a)(hP:Sd P) (pP:P.Perm (X1++Y1)) (hQ:Sd Q) (pQ:Q.Perm (X2++Y2)):Sd (P++Q)/\(P++Q).Perm ((X1++X2)++(Y1++Y2)):=by
 refine⟨Sd.app.2 ⟨hP,hQ,fun a ha b hb=>?_⟩,?_⟩
 ·rcases Cp.1 (pP.mem_iff.1 ha) with ha|ha<;>rcases Cp.1 (pQ.mem_iff.1 hb) with hb|hb;·exact(Sd.app.1 hX).2.2 a ha b hb
  ·exact h1 a ha b hb
  ·exact h2 a ha b hb
  ·exact(Sd.app.1 hY).2.2 a ha b hb
 ·refine(pP.append pQ).trans ?_;rw[List.append_assoc,List.append_assoc];refine List.Perm.append_left X1 ?_;rw[<-List.append_assoc,<-List.append_assoc];exact List.Perm.append_right Y2 List.perm_append_comm
theorem kzgd{A Y1 R:List Ac}{x:Ac}(hn:A.length+Y1.length<=1000000):lp (jz65 ((A.length+1+Y1.length:Nat):Int)) ((A.length:Int),A++x :: (Y1++R))=some (A++Y1++x :: R):=by
 obtain⟨o,e,ho⟩:=Dw (s:=((A.length:Int),A++x :: (Y1++R))) (body:=jz65 ((A.length+1+Y1.length:Nat):Int)) (fun s=>∃P S,s=(((A.length+P.length:Nat):Int),A++P++x :: (S++R))/\P++S=Y1) (fun s=>(((A.length+1+Y1.length:Nat):Int)-s.1).toNat) (fun o=>o=A++Y1++x :: R) (by
  rintro s ⟨P,S,rfl,qw⟩;have hl:P.length+S.length=Y1.length:=by rw[<-qw,BK]
  simp only[jz65];rw[AA];cases S with
  |nil =>right;rw[it_n (by simp at hl;omega)];rw[List.append_nil]at qw;subst qw;exact⟨_,rfl,by simp⟩
  |cons y S =>
   left;simp only[Df]at hl;have i0:((A.length+P.length:Nat):Int)=((A++P).length:Int):=by simp
   have i1:((A.length+P.length:Nat):Int)+1=((A++P++[x]).length:Int):=by simp;omega
   have i2:((A.length+P.length:Nat):Int)+1=((A++P++[y]).length:Int):=by simp;omega
   have e1:A++P++x :: (y :: S++R)=(A++P++[x])++y :: (S++R):=by simp
   have a0:at? (A++P++x :: (y :: S++R)) ((A.length+P.length:Nat):Int)=some x:=kze3 i0;have a1:at? (A++P++x :: (y :: S++R)) (((A.length+P.length:Nat):Int)+1)=some y:=by rw[e1];exact kze3 i1
   rw[it_d (by omega),AA,AA,a1,a0];simp only[Af];have s0:List.set (A++P++x :: (y :: S++R)) (Int.toNat ((A.length+P.length:Nat):Int)) y=(A++P++[y])++y :: (S++R):=by rw[kzfa i0];simp
   rw[s0,kze3 i2,kzfa i2];simp only[Af];rw[AA];refine⟨_,rfl,⟨P++[y],S,?_,by rw[<-qw];simp⟩,by simp only;omega⟩;refine Prod.ext (by simp;omega) ?_;simp) ⟨[],Y1,by simp,rfl⟩ (by simp only;omega)
 rw[e,ho]
theorem kzgg{A X1 X2 R:List Ac}{y:Ac}(hn:A.length+X1.length+X2.length<=1000000):lp (jz66 ((A.length+X1.length:Nat):Int)) (((A.length+X1.length+X2.length:Nat):Int),A++X1++X2++y :: R)=some (A++X1++y :: (X2++R)):=by
 obtain⟨o,e,ho⟩:=Dw (s:=(((A.length+X1.length+X2.length:Nat):Int),A++X1++X2++y :: R)) (body:=jz66 ((A.length+X1.length:Nat):Int)) (fun s=>∃P S,s=(((A.length+X1.length+P.length:Nat):Int),A++X1++P++y :: (S++R))/\P++S=X2) (fun s=>s.1.toNat) (fun o=>o=A++X1++y :: (X2++R)) (by
  rintro s ⟨P,S,rfl,qw⟩;have hl:P.length+S.length=X2.length:=by rw[<-qw,BK]
  simp only[jz66];rcases List.eq_nil_or_concat P with rfl|⟨P',x,rfl⟩
  ·right;rw[it_n (by simp)];rw[U3]at qw;subst qw;exact⟨_,rfl,by simp⟩
  ·left;rw[List.concat_eq_append]at *;have ej:((A.length+X1.length+(P'++[x]).length:Nat):Int)-1=((A++X1++P').length:Int):=by simp;omega
   have ejj:((A.length+X1.length+(P'++[x]).length:Nat):Int)=((A++X1++P'++[x]).length:Int):=by simp;omega
   have el:A++X1++(P'++[x])++y :: (S++R)=(A++X1++P')++x :: y :: (S++R):=by simp
   have el2:A++X1++(P'++[x])++y :: (S++R)=(A++X1++P'++[x])++y :: (S++R):=by simp
   have a1:at? (A++X1++(P'++[x])++y :: (S++R)) ((A.length+X1.length+(P'++[x]).length:Nat):Int)=some y:=by rw[el2];exact kze3 ejj
   have a2:at? (A++X1++(P'++[x])++y :: (S++R)) (((A.length+X1.length+(P'++[x]).length:Nat):Int)-1)=some x:=by rw[el];exact kze3 ej
   rw[it_d (by simp;omega),AA (by simp at hl |-;omega),AA (by simp at hl |-;omega),a2,a1];simp only[Af];have s1:List.set (A++X1++(P'++[x])++y :: (S++R)) (Int.toNat ((A.length+X1.length+(P'++[x]).length:Nat):Int)) x=(A++X1++P')++x :: x :: (S++R):=by rw[el2,kzfa ejj];(try simp)
   rw[s1,kze3 ej,kzfa ej];simp only[Af];rw[AA (by simp at hl |-;omega)];refine⟨_,rfl,⟨P',x :: S,?_,by rw[<-qw];simp⟩,by simp;omega⟩;rw[ej];refine Prod.ext (by simp;omega) ?_;simp) ⟨X2,[],by simp,by simp⟩ (by simp only;omega)
 rw[e,ho]
theorem kzfc{α:Type}{l:List α}{u:α}(h:l.getLast?=some u):∃m,l=m++[u]:=List.getLast?_eq_some_iff.1 h
def ask2(f:Ac->Ac->Bool):Option Ac->Option Ac->Bool
 |some x,some y=>f x y
 |_,_=>false
theorem symX{cmp:Ac->Ac->Option Int}(hc:CmpV cmp){A Y B:List Ac}{x:Ac}(hY:Sd Y)(hn:A.length+1+Y.length<=1000000) : ∃k:Nat,∃Z,lp (jz67 (A.length:Int) cmp (A++[x]++Y++B)) (((A.length+1:Nat):Int),((A.length+1+Y.length:Nat):Int))=some (k:Int)/\lp (jz65 (k:Int)) ((A.length:Int),A++[x]++Y++B)=some (A++Z++B)/\Sd Z/\Z.Perm ([x]++Y):=by
 obtain⟨k,e,k1,k2,k3,k4⟩:=kzfr (body:=jz67 (A.length:Int) cmp (A++[x]++Y++B)) (r:=fun i=>i) (p:=fun q=>ask2 (fun y z=>decide (vlt y z)) Y[q-(A.length+1)]? (some x)) (lo:=A.length+1) (hi:=A.length+1+Y.length) (by omega) (fun i j h1 h2 h3=>by
   simp only[jz67];rw[it_d (by omega),AA,kzfg (by omega),AA];have hq:(i+j) / 2-(A.length+1)<Y.length:=by omega
   have e1:at? (A++[x]++Y++B) (((i+j) / 2:Nat):Int)=some Y[(i+j) / 2-(A.length+1)]:=kzfm (A:=A++[x]) (by simp;omega) hq;have e2:at? (A++[x]++Y++B) (A.length:Int)=some x:=by rw[show A++[x]++Y++B=A++x :: (Y++B) by simp];exact kze3 rfl
   rw[e1,e2,AD hq];simp only[Af];rw[hc];simp only[Af,ask2];by_cases h:vlt Y[(i+j) / 2-(A.length+1)] x
   ·rw[it_d (Pu.2 h),AA,Cy h];simp
   ·rw[it_n (mt Pu.1 h),Bz h];simp) (fun i=>by simp only[jz67];rw[it_n (by omega)]) (by omega)
 obtain⟨Y1,Y2,rfl,qF⟩:=kzff Y (k-(A.length+1)) (by omega);have hk:k=A.length+1+Y1.length:=by omega
 subst hk;rw[BK]at *;have hf:=kzgd (A:=A) (Y1:=Y1) (R:=Y2++B) (x:=x) (by omega);refine⟨_,Y1++([x]++Y2),e,?_,?_,?_⟩
 ·rw[show A++[x]++(Y1++Y2)++B=A++x :: (Y1++(Y2++B)) by simp,hf];simp
 ·obtain⟨y1,y2,y3⟩:=Sd.app.1 hY
  have kG:∀a,a∈Y1->∀b,b∈[x]->¬vlt b a:=kzfe y1 (P6 _ _) fun u v hu hv=>by
   cases hv;obtain⟨m,rfl⟩:=kzfc hu;have:=k3 (by simp);rw[show A.length+1+(m++[u]).length-1-(A.length+1)=m.length by simp]at this;have hm:(m++[u]++Y2)[m.length]?=some u:=by simp
   rw[hm]at this;exact kzfn (GY this)
  have kH:∀a,a∈[x]->∀b,b∈Y2->¬vlt b a:=kzfe (P6 _ _) y2 fun u v hu hv=>by
   cases hu;cases Y2 with
   |nil=>cases hv
   |cons w Y2 =>
    cases hv;have:=k4 (by simp);rw[show A.length+1+Y1.length-(A.length+1)=Y1.length by omega]at this;have hm:(Y1++v :: Y2)[Y1.length]?=some v:=by simp
    rw[hm]at this;exact of_decide_eq_false this
  refine Sd.app.2 ⟨y1,Sd.app.2 ⟨P6 _ _,y2,kH⟩,fun a ha b hb=>?_⟩;rcases Cp.1 hb with hb|hb
  ·exact kG a ha b hb
  ·exact y3 a ha b hb
 ·rw[<-List.append_assoc,<-List.append_assoc];exact List.Perm.append_right Y2 List.perm_append_comm
theorem symY{cmp:Ac->Ac->Option Int}(hc:CmpV cmp){A X B:List Ac}{y:Ac}(hX:Sd X)(hn:A.length+X.length+1<=1000000) : ∃k:Nat,∃Z,lp (jz64 cmp (A++X++[y]++B) ((A.length+X.length:Nat):Int)) ((A.length:Int),((A.length+X.length:Nat):Int))=some (k:Int)/\lp (jz66 (k:Int)) (((A.length+X.length:Nat):Int),A++X++[y]++B)=some (A++Z++B)/\Sd Z/\Z.Perm (X++[y]):=by
 obtain⟨k,e,k1,k2,k3,k4⟩:=kzfr (body:=jz64 cmp (A++X++[y]++B) ((A.length+X.length:Nat):Int)) (r:=fun i=>i) (p:=fun q=>ask2 (fun y z=>!decide (vlt y z)) (some y) X[q-A.length]?) (lo:=A.length) (hi:=A.length+X.length) (by omega) (fun i j h1 h2 h3=>by
   simp only[jz64];rw[it_d (by omega),AA,kzfg (by omega),AA];have hq:(i+j) / 2-A.length<X.length:=by omega
   have e1:at? (A++X++[y]++B) (((i+j) / 2:Nat):Int)=some X[(i+j) / 2-A.length]:=by rw[List.append_assoc (A++X)];exact kzfm (by omega) hq
   have e2:at? (A++X++[y]++B) ((A.length+X.length:Nat):Int)=some y:=by rw[show A++X++[y]++B=(A++X)++y :: B by simp];exact kze3 (by simp)
   rw[e1,e2,AD hq];simp only[Af];rw[hc];simp only[Af,ask2];by_cases h:vlt y X[(i+j) / 2-A.length]
   ·rw[it_f (by simp[Pu,h]),Cy h];simp
   ·rw[it_t (by simp;exact Int.not_lt.1 (mt Pu.1 h)),AA,Bz h];simp) (fun i=>by simp only[jz64];rw[it_n (by omega)]) (by omega)
 obtain⟨X1,X2,rfl,qN⟩:=kzff X (k-A.length) (by omega);have hk:k=A.length+X1.length:=by omega
 subst hk;rw[BK]at *;have hf:=kzgg (A:=A) (X1:=X1) (X2:=X2) (R:=B) (y:=y) (by omega);refine⟨_,X1++([y]++X2),e,?_,?_,?_⟩
 ·rw[show A++(X1++X2)++[y]++B=A++X1++X2++y :: B by simp,show((A.length+(X1.length+X2.length):Nat):Int)=((A.length+X1.length+X2.length:Nat):Int) by omega,hf];simp
 ·obtain⟨y1,y2,y3⟩:=Sd.app.1 hX
  have kG:∀a,a∈X1->∀b,b∈[y]->¬vlt b a:=kzfe y1 (P6 _ _) fun u v hu hv=>by
   cases hv;obtain⟨m,rfl⟩:=kzfc hu;have:=k3 (by simp);rw[show A.length+(m++[u]).length-1-A.length=m.length by simp]at this;have hm:(m++[u]++X2)[m.length]?=some u:=by simp
   rw[hm]at this;simpa [ask2] using this
  have kH:∀a,a∈[y]->∀b,b∈X2->¬vlt b a:=kzfe (P6 _ _) y2 fun u v hu hv=>by
   cases hu;cases X2 with
   |nil=>cases hv
   |cons w X2 =>
    cases hv;have:=k4 (by simp);rw[show A.length+X1.length-A.length=X1.length by omega]at this;have hm:(X1++v :: X2)[X1.length]?=some v:=by simp
    rw[hm]at this;exact kzfn (by simpa [ask2] using this)
  refine Sd.app.2 ⟨y1,Sd.app.2 ⟨P6 _ _,y2,kH⟩,fun a ha b hb=>?_⟩;rcases Cp.1 hb with hb|hb
  ·exact kG a ha b hb
  ·exact y3 a ha b hb
 ·rw[List.append_assoc];exact List.Perm.append_left X1 List.perm_append_comm
def kzhd(cmp:Ac->Ac->Option Int)(n:Nat):Prop:=∀(A X Y B:List Ac),0<X.length->0<Y.length->Sd X->Sd Y->X.length+Y.length<=n->A.length+X.length+Y.length<=1000000->∀a m b:Int,a=(A.length:Int)->m=((A.length+X.length:Nat):Int)->b=((A.length+X.length+Y.length:Nat):Int) -> ∃Z,N9 n (A++X++Y++B) a m b cmp=some (A++Z++B)/\Sd Z/\Z.Perm (X++Y)
theorem kzgz{cmp:Ac->Ac->Option Int}{n:Nat}(ih:kzhd cmp n){A X Y B:List Ac}(sX:Sd X)(sY:Sd Y)(hn:X.length+Y.length<=n)(hl:A.length+X.length+Y.length<=1000000){a m b:Int}(ha:a=(A.length:Int))(hm:m=((A.length+X.length:Nat):Int))(hb:b=((A.length+X.length+Y.length:Nat):Int)) : ∃Z,(ite' (bif (decide (a<m)) then(decide (m<b)) else false) (bd (N9 n (A++X++Y++B) a m b cmp) fun r=>some r) (some (A++X++Y++B)):Option (List Ac))=some (A++Z++B)/\Sd Z/\Z.Perm (X++Y):=by
 by_cases hx:X.length=0
 ·obtain rfl:X=[]:=J7.1 hx;rw[it_f (by rw[Bz (by simp at hm;omega)];rfl)];exact⟨Y,by simp,sY,.refl _⟩
 by_cases hy:Y.length=0
 ·obtain rfl:Y=[]:=J7.1 hy;rw[it_f (by rw[Bz (p:=m<b) (by simp at hb;omega)];simp)];exact⟨X,by simp,sX,by simp⟩
 rw[it_t (by rw[Cy (by omega),Cy (by omega)];rfl)];obtain⟨P,p1,p2⟩:=ih A X Y B (by omega) (by omega) sX sY hn hl a m b ha hm hb;rw[p1];exact⟨P,rfl,p2⟩
theorem kzhl{cmp:Ac->Ac->Option Int}{A X1 X2 Y1 Y2 B:List Ac}{k m e:Int}(hl:A.length+X1.length+X2.length+Y1.length<=1000000)(hk:k=((A.length+X1.length:Nat):Int))(hm:m=((A.length+X1.length+X2.length:Nat):Int))(he:e=((A.length+X1.length+X2.length+Y1.length:Nat):Int)) : (ite' (bif (decide (k<m)) then(decide (m<e)) else false) (bd (Xc (A++(X1++X2)++(Y1++Y2)++B) k m e cmp) fun r4=>some r4) (some (A++(X1++X2)++(Y1++Y2)++B)):Option (List Ac))=some (A++X1++Y1++(X2++Y2++B)):=by
 by_cases hx:X2.length=0
 ·obtain rfl:X2=[]:=J7.1 hx;rw[it_f (by rw[Bz (by simp at hm;omega)];rfl)];simp
 by_cases hy:Y1.length=0
 ·obtain rfl:Y1=[]:=J7.1 hy;rw[it_f (by rw[Bz (p:=m<e) (by simp at he;omega)];simp)];simp
 rw[it_t (by rw[Cy (by omega),Cy (by omega)];rfl)];have:=kzge (cmp:=cmp) (A:=A++X1) (X:=X2) (Y:=Y1) (B:=Y2++B) (by omega) (by omega) (by simp;omega) (a:=k) (m:=m) (b:=e) (by simp;omega) (by simp;omega) (by simp;omega);rw[show A++(X1++X2)++(Y1++Y2)++B=A++X1++X2++Y1++(Y2++B) by simp,this];simp[Af]
theorem kzha{cmp:Ac->Ac->Option Int}(hc:CmpV cmp){A X Y B:List Ac}(sX:Sd X)(sY:Sd Y)(hl:A.length+X.length+Y.length<=1000000){a m b:Int}(ha:a=(A.length:Int))(hm:m=((A.length+X.length:Nat):Int))(hb:b=((A.length+X.length+Y.length:Nat):Int)){mid:Nat} (qB:mid=(A.length+(A.length+X.length+Y.length)) / 2) (qS:Int.fdiv ((a+b)%18446744073709551616) 2=(mid:Int)) (rD:2<=X.length) (qO:2<=Y.length) :
  ∃lo hi k:Nat,(ite' (decide ((mid:Int)<m)) (ck (As .i64 (((mid:Int)+m)-b))<|some ((((mid:Int)+m)-b),(mid:Int))) (some (a,m)):Option (Int×Int))=some ((lo:Int),(hi:Int)) /\
   lp (jz63 a b cmp (A++X++Y++B) m) ((lo:Int),(hi:Int))=some (k:Int)/\∃X1 X2 Y1 Y2,X=X1++X2/\Y=Y1++Y2/\k=A.length+X1.length/\mid=k+Y1.length/\(∀u,u∈X1->∀v,v∈Y2->¬vlt v u)/\∀u,u∈Y1->∀v,v∈X2->¬vlt v u:=by
 have search:∃lo hi:Nat,lo<=hi/\A.length<=lo/\hi<=A.length+X.length/\hi<=mid/\mid+A.length+X.length<=lo+(A.length+X.length+Y.length)/\(lo=A.length\/lo+(A.length+X.length+Y.length)=mid+(A.length+X.length))/\(hi=mid\/hi=A.length+X.length) /\ (ite' (decide ((mid:Int)<m)) (ck (As .i64 (((mid:Int)+m)-b))<|some ((((mid:Int)+m)-b),(mid:Int))) (some (a,m)):Option (Int×Int))=some ((lo:Int),(hi:Int)):=by
  by_cases h:mid<A.length+X.length
  ·refine⟨mid+(A.length+X.length)-(A.length+X.length+Y.length),mid,by omega,by omega,by omega,by omega,by omega,.inr (by omega),.inl rfl,?_⟩;rw[it_d (by omega),AA];congr 2;omega
  ·refine⟨A.length,A.length+X.length,by omega,by omega,by omega,by omega,by omega,.inl rfl,.inr rfl,?_⟩;rw[it_n (by omega),ha,hm]
 obtain⟨lo,hi,g1,g2,g3,g4,g5,g6,g7,hs⟩:=search;refine⟨lo,hi,?_⟩
 obtain⟨k,e,k1,k2,k3,k4⟩:=kzfr (body:=jz63 a b cmp (A++X++Y++B) m) (r:=fun i=>i) (p:=fun q=>ask2 (fun y z=>!decide (vlt y z)) Y[mid+(A.length+X.length)-1-q-(A.length+X.length)]? X[q-A.length]?) (lo:=lo) (hi:=hi) g1 (fun i j h1 h2 h3=>by
  simp only[jz63];rw[it_d (by omega),AA,kzfg (by omega),qS,AA,AA];have hq:(i+j) / 2-A.length<X.length:=by omega
  have gD:mid+(A.length+X.length)-1-(i+j) / 2-(A.length+X.length)<Y.length:=by omega
  have e1:at? (A++X++Y++B) (((i+j) / 2:Nat):Int)=some X[(i+j) / 2-A.length]:=by rw[List.append_assoc (A++X)];exact kzfm (by omega) hq
  have e2:at? (A++X++Y++B) ((mid:Int)+m-1-(((i+j) / 2:Nat):Int))=some Y[mid+(A.length+X.length)-1-(i+j) / 2-(A.length+X.length)]:=kzfm (A:=A++X) (by rw[BK];omega) gD;rw[e1,e2,AD hq,AD gD];simp only[Af];rw[hc];simp only[Af,ask2];by_cases h:vlt Y[mid+(A.length+X.length)-1-(i+j) / 2-(A.length+X.length)] X[(i+j) / 2-A.length]
  ·rw[it_f (by simp[Pu,h]),Cy h];simp
  ·rw[it_t (by simp;exact Int.not_lt.1 (mt Pu.1 h)),AA,Bz h];simp) (fun i=>by simp only[jz63];rw[it_n (by omega)]) (by omega)
 refine⟨k,hs,e,?_⟩;obtain⟨X1,X2,rfl,qN⟩:=kzff X (k-A.length) (by omega);obtain⟨Y1,Y2,rfl,qF⟩:=kzff Y (mid-k) (by omega);simp only[BK]at *;obtain⟨x1,x2,x3⟩:=Sd.app.1 sX;obtain⟨y1,y2,y3⟩:=Sd.app.1 sY
 have c1:∀u,u∈X1->∀v,v∈Y2->¬vlt v u:=kzfe x1 y2 fun u v hu hv=>by
  obtain⟨M,rfl⟩:=kzfc hu;cases Y2 with
  |nil=>cases hv
  |cons w Y2 =>
   cases hv;simp only[BK,Df,List.length_nil]at *;have:=k3 (by omega);rw[show k-1-A.length=M.length by omega,show mid+(A.length+(M.length+1+X2.length))-1-(k-1)-(A.length+(M.length+1+X2.length))=Y1.length by omega]at this;have q1:(M++[u]++X2)[M.length]?=some u:=by simp
   have q2:(Y1++v :: Y2)[Y1.length]?=some v:=by simp
   rw[q1,q2]at this;simpa [ask2] using this
 have c2:∀u,u∈Y1->∀v,v∈X2->¬vlt v u:=kzfe y1 x2 fun u v hu hv=>by
  obtain⟨M,rfl⟩:=kzfc hu;cases X2 with
  |nil=>cases hv
  |cons w X2 =>
   cases hv;simp only[BK,Df,List.length_nil]at *;have:=k4 (by omega);rw[show k-A.length=X1.length by omega,show mid+(A.length+(X1.length+(X2.length+1)))-1-k-(A.length+(X1.length+(X2.length+1)))=M.length by omega]at this;have q1:(X1++v :: X2)[X1.length]?=some v:=by simp
   have q2:(M++[u]++Y2)[M.length]?=some u:=by simp
   rw[q1,q2]at this;exact kzfn (by simpa [ask2] using this)
 exact⟨X1,X2,Y1,Y2,rfl,rfl,by omega,by omega,c1,c2⟩
theorem kzfo{cmp:Ac->Ac->Option Int}(hc:CmpV cmp):∀(n:Nat),kzhd cmp n
 |0,A,X,Y,B,hX,hY,_,_,hn,_,_,_,_,_,_,_=>by omega
 |n+1,A,X,Y,B,hX,hY,sX,sY,hn,hl,a,m,b,ha,hm,hb=>by
  simp only[N9];rw[AA];by_cases h1:X.length=1
  ·subst ha hm hb;obtain⟨x,rfl⟩:=List.length_eq_one_iff.1 h1;rw[it_d (by simp;omega)];obtain⟨k,Z,e1,e2,z1,z2⟩:=symX hc (A:=A) (B:=B) (x:=x) sY (by simpa using hl);simp only[Dh]at e1 |-;rw[e1];simp only[Af];rw[e2];exact⟨Z,rfl,z1,z2⟩
  rw[it_n (by omega),AA];by_cases h2:Y.length=1
  ·subst ha hm hb;obtain⟨y,rfl⟩:=List.length_eq_one_iff.1 h2;rw[it_d (by simp;omega)];obtain⟨k,Z,e1,e2,z1,z2⟩:=symY hc (A:=A) (B:=B) (y:=y) sX (by simpa using hl);rw[e1];simp only[Af];rw[e2];exact⟨Z,rfl,z1,z2⟩
  obtain⟨mid,qB⟩:∃mid,mid=(A.length+(A.length+X.length+Y.length)) / 2:=⟨_,rfl⟩;have qS:Int.fdiv ((a+b)%18446744073709551616) 2=(mid:Int):=by rw[ha,hb,kzfg (by omega),<-qB]
  rw[it_n (by omega),AA,qS,AA,AA];obtain⟨lo,hi,k,hs,e,X1,X2,Y1,Y2,rfl,rfl,hk,dr,c1,c2⟩:=kzha hc (B:=B) sX sY hl ha hm hb qB qS (by omega) (by omega);rw[hs];simp only[Af];rw[AA,e];simp only[Af];rw[AA];simp only[BK]at *;obtain⟨x1,x2,x3⟩:=Sd.app.1 sX;obtain⟨y1,y2,y3⟩:=Sd.app.1 sY;rw[kzhl (by omega) (by omega) (by omega) (by omega)];simp only[Af];obtain⟨P,p1,p2,p3⟩:=kzgz (kzfo hc n) (A:=A) (B:=X2++Y2++B) x1 y1 (by omega) (by omega) ha (m:=(k:Int)) (b:=(mid:Int)) (by omega) (by omega);have pl:=p3.length_eq;rw[BK]at pl;rw[p1];simp only[Af];obtain⟨Q,q1,q2,q3⟩:=kzgz (kzfo hc n) (A:=A++P) (B:=B) x2 y2 (by omega) (by rw[BK];omega) (a:=(mid:Int)) (m:=(mid:Int)+m-(k:Int)) (b:=b) (by rw[BK];omega) (by rw[BK];omega) (by rw[BK];omega);rw[show A++P++(X2++Y2++B)=A++P++X2++Y2++B by simp,q1,show A++P++Q++B=A++(P++Q)++B by simp];obtain⟨r1,r2⟩:=kzft sX sY c1 c2 p2 p3 q2 q3;exact⟨P++Q,rfl,r1,r2⟩
theorem kzf9{cmp:Ac->Ac->Option Int}(hc:CmpV cmp){X Y:List Ac}(hX:X.length=20)(hY:0<Y.length)(qO:Y.length<=20)(sX:Sd X)(sY:Sd Y):∃Z,Xf (X++Y) 0 20 ((20+Y.length:Nat):Int) cmp=some Z/\Sd Z/\Z.Perm (X++Y):=by obtain⟨Z,e,z⟩:=kzfo hc 64 [] X Y [] (by omega) hY sX sY (by omega) (by simp;omega) 0 20 ((20+Y.length:Nat):Int) rfl (by simp;omega) (by simp;omega);refine⟨Z,?_,z⟩;unfold Xf;simpa using e
theorem kzfj{cmp:Ac->Ac->Option Int}(hc:CmpV cmp){A X:List Ac}(hn:A.length+X.length<=1000){a b:Int}(ha:a=(A.length:Int))(hb:b=((A.length+X.length:Nat):Int))(B:List Ac):∃Q,Ra (A++X++B) a b cmp=some (A++Q++B)/\Sd Q/\Q.Perm X:=kzf7 hc (by omega) ha hb
theorem kzf5{cmp:Ac->Ac->Option Int}(hc:CmpV cmp){X Y:List Ac}(hX:X.length=20)(hY:0<Y.length)(qO:Y.length<=20)(sX:Sd X)(sY:Sd Y):∃Z,lp (jz7a cmp ((20+Y.length:Nat):Int)) (20,X++Y)=some Z/\Sd Z/\Z.Perm (X++Y):=by
 obtain⟨Z,e,z1,z2⟩:=kzf9 hc hX hY qO sX sY;refine⟨Z,?_,z1,z2⟩;refine jzct (fun k=>if k=0 then((20:Int),X++Y) else(40,Z)) 1 (by decide) (fun k hk=>?_) ?_ rfl
 ·obtain rfl:k=0:=by omega
  simp only[Bw,jz7a];rw[it_d (by omega),AA];by_cases h:Y.length=20
  ·have e2:lp (jz7c 20 cmp ((20+Y.length:Nat):Int)) (0,2*20,X++Y)=some (40,Z):=by
    refine jzct (fun k=>if k=0 then((0:Int),(2:Int)*20,X++Y) else(40,80,Z)) 1 (by decide) (fun k hk=>?_) ?_ rfl
    ·obtain rfl:k=0:=by omega
     simp only[Bw,jz7c];rw[it_d (by omega),AA];have:Xf (X++Y) 0 (0+20) (2*20) cmp=some Z:=by rw[show((20+Y.length:Nat):Int)=2*20 by omega]at e;exact e
     rw[this];simp only[Af];rw[AA,AA];rfl
    ·simp only[jz7c];simp only[Nat.one_ne_zero,Cz];rw[it_n (by omega)]
   rw[e2];simp only[Af];rw[AA,it_n (by omega),AA];rfl
  ·have e2:lp (jz7c 20 cmp ((20+Y.length:Nat):Int)) (0,2*20,X++Y)=some (0,X++Y):=by
    refine jzct (fun k=>((0:Int),(2:Int)*20,X++Y)) 0 (by decide) (fun k hk=>by omega) ?_ rfl;simp only[jz7c];rw[it_n (by omega)]
   rw[e2];simp only[Af];rw[AA,it_d (by omega)];have:Xf (X++Y) 0 (0+20) ((20+Y.length:Nat):Int) cmp=some Z:=e;rw[this];simp only[Af];rw[AA];rfl
 ·simp only[Nat.one_ne_zero,Cz,jz7a];rw[it_n (by omega)]
theorem kzfz{cmp:Ac->Ac->Option Int}(hc:CmpV cmp){l:List Ac}(hl:l.length<=40):∃Q,Xh l cmp=some Q/\Sd Q/\Q.Perm l:=by
 unfold Xh Xg;have done:∀Q,l.length<=20->lp (jz7a cmp (l.length:Int)) (20,Q)=some Q:=fun Q h=>by refine jzct (fun k=>((20:Int),Q)) 0 (by decide) (fun k hk=>by omega) ?_ rfl;simp only[jz7a];rw[it_n (by omega)]
 by_cases h1:l.length<20
 ·have e0:lp (jz7d cmp (l.length:Int)) (0,20,l)=some (0,l):=by
   refine jzct (fun k=>((0:Int),(20:Int),l)) 0 (by decide) (fun k hk=>by omega) ?_ rfl;simp only[jz7d];rw[it_n (by omega)]
  obtain⟨Q,q1,q2,q3⟩:=kzfj hc (A:=[]) (X:=l) (a:=0) (b:=(l.length:Int)) (by simp;omega) rfl (by simp) [];simp only[U3,List.append_nil]at q1;rw[e0];simp only[Af];rw[q1];simp only[Af];rw[done Q (by omega)];exact⟨Q,rfl,q2,q3⟩
 obtain⟨X,Y,rfl,hX⟩:=kzff l 20 (by omega);rw[BK]at *;obtain⟨X',x1,x2,x3⟩:=kzfj hc (A:=[]) (X:=X) (a:=0) (b:=20) (by simp;omega) rfl (by simp;omega) Y;simp only[U3]at x1;have lX:=x3.length_eq;obtain⟨Y',y1,y2,y3⟩:=kzfj hc (A:=X') (X:=Y) (a:=20) (b:=((X.length+Y.length:Nat):Int)) (by omega) (by omega) (by omega) [];simp only[List.append_nil]at y1;have lY:=y3.length_eq;have pr:(X'++Y').Perm (X++Y):=x3.append y3;by_cases h2:Y.length=0
 ·obtain rfl:Y=[]:=J7.1 h2
  have e0:lp (jz7d cmp ((X.length+([]:List Ac).length:Nat):Int)) (0,20,X++[])=some (20,X'++[]):=by
   refine jzct (fun k=>if k=0 then((0:Int),(20:Int),X++[]) else(20,40,X'++[])) 1 (by decide) (fun k hk=>?_) ?_ rfl
   ·obtain rfl:k=0:=by omega
    simp only[Bw,jz7d];rw[it_d (by simp;omega),x1];simp only[Af];rw[AA];rfl
   ·simp only[Nat.one_ne_zero,Cz,jz7d];rw[it_n (by simp;omega)]
  rw[e0];simp only[Af];rw[y1];simp only[Af];rw[done _ (by simp;omega)];obtain rfl:Y'=[]:=J7.1 (by omega);exact⟨X'++[],rfl,by simpa using x2,pr⟩
 obtain⟨Z,z1,z2,z3⟩:=kzf5 hc (X:=X') (Y:=Y') (by omega) (by omega) (by omega) x2 y2;have ez:((20+Y'.length:Nat):Int)=((X.length+Y.length:Nat):Int):=by omega
 rw[ez]at z1;by_cases h3:Y.length=20
 ·have e0:lp (jz7d cmp ((X.length+Y.length:Nat):Int)) (0,20,X++Y)=some (40,X'++Y'):=by
   refine jzct (fun k=>if k=0 then((0:Int),(20:Int),X++Y) else if k=1 then(20,40,X'++Y) else(40,60,X'++Y')) 2 (by decide) (fun k hk=>?_) ?_ rfl
   ·have:k=0\/k=1:=(by omega);rcases this with rfl|rfl
    ·simp only[Bw,jz7d];rw[it_d (by omega),x1];simp only[Af];rw[AA];rfl
    ·simp only[Nat.one_ne_zero,Cz,Bw,jz7d];rw[it_d (by omega),show(40:Int)=((X.length+Y.length:Nat):Int) by omega,y1];simp only[Af];rw[AA];simp only[Nat.reduceAdd,Nat.reduceEqDiff,Cz];rw[show((X.length+Y.length:Nat):Int)=40 by omega];rfl
   ·simp only[Nat.reduceEqDiff,Cz,jz7d];rw[it_n (by omega)]
  obtain⟨W,w1,w2,w3⟩:=kzfj hc (A:=X'++Y') (X:=[]) (a:=40) (b:=((X.length+Y.length:Nat):Int)) (by simp;omega) (by simp;omega) (by simp;omega) [];obtain rfl:W=[]:=List.perm_nil.1 w3;simp only[List.append_nil]at w1;rw[e0];simp only[Af];rw[w1];simp only[Af];rw[z1];exact⟨Z,rfl,z2,z3.trans pr⟩
 ·have e0:lp (jz7d cmp ((X.length+Y.length:Nat):Int)) (0,20,X++Y)=some (20,X'++Y):=by
   refine jzct (fun k=>if k=0 then((0:Int),(20:Int),X++Y) else(20,40,X'++Y)) 1 (by decide) (fun k hk=>?_) ?_ rfl
   ·obtain rfl:k=0:=by omega
    simp only[Bw,jz7d];rw[it_d (by omega),x1];simp only[Af];rw[AA];rfl
   ·simp only[Nat.one_ne_zero,Cz,jz7d];rw[it_n (by omega)]
  rw[e0];simp only[Af];rw[y1];simp only[Af];rw[z1];exact⟨Z,rfl,z2,z3.trans pr⟩
theorem kzgf:CmpV (fun a0 a1=>Xe a0 a1):=fun x y=>by show bd (DT x y) (fun r1=>some r1)=_;rw[Ua];rfl
structure kzgh(a b m:List Ac):Prop where
 asc:m.Pairwise vlt
 mem:∀y,y∈m↔y∈a\/y∈b
def Cfl(a b:List Ac):Prop:=∃x,x∈a/\∃y,y∈b/\vsm x y/\x≠y
def VMrg(F:List Ac×Int)(a b:List Ac):Prop := (vchE a≠0/\F=([],vchE a))\/(vchE a=0/\vchE b≠0/\F=([],vchE b))\/(vchE a=0/\vchE b=0 /\ ((Cfl a b/\F=([],24))\/(¬Cfl a b/\∃m,kzgh a b m/\F=if 400<m.length then([],2) else(m,0))))
theorem VMrg.uniq{F G:List Ac×Int}{a b:List Ac}(hF:VMrg F a b)(hG:VMrg G a b):F=G:=by
 rcases hF with ⟨p,e⟩|⟨p,q,e⟩|⟨p,q,r⟩<;>rcases hG with ⟨p',e'⟩|⟨p',q',e'⟩|⟨p',q',r'⟩ <;>
  first|exact absurd p p'|exact absurd p' p|exact absurd q q'|exact absurd q' q|(rw[e,e'];done)|skip
 rcases r with ⟨c,e⟩|⟨c,m,hm,e⟩<;>rcases r' with ⟨c',e'⟩|⟨c',m',ce,e'⟩
 ·rw[e,e']
 ·exact absurd c c'
 ·exact absurd c' c
 ·rw[e,e',Ug hm.asc ce.asc fun z=>(hm.mem z).trans (ce.mem z).symm]
theorem kzfk{Q:List Ac}(hQ:Sd Q)(h:∀i,(hi:i+1<Q.length)->vsm Q[i] Q[i+1]->Q[i]=Q[i+1]):∀(d i:Nat) (hi:i+d<Q.length),vsm Q[i] Q[i+d]->Q[i]=Q[i+d]
 |0,i,hi,e=>rfl
 |d+1,i,hi,e=>by
  have a1:=hQ.get (i:=i) (j:=i+1) (by omega) (by omega) (by omega);have a2:=hQ.get (i:=i+1) (j:=i+(d+1)) (by omega) hi (by omega);have e1:vsm Q[i] Q[i+1]:=by unfold vsm vlt at *;omega
  have e2:=h i (by omega) e1
  have e3:vsm Q[i+1] Q[i+1+d]:=by
   have:i+1+d=i+(d+1):=by omega
   simp only[this];exact(e1.symm).trans e
  have e4:=kzfk hQ h d (i+1) (by omega) e3;rw[e2,e4];congr 1;omega
theorem kzf2{Q:List Ac}(hQ:Sd Q)(h:∀i,(hi:i+1<Q.length)->vsm Q[i] Q[i+1]->Q[i]=Q[i+1]):∀x,x∈Q->∀y,y∈Q->vsm x y->x=y:=by
 intro x hx y hy e;obtain⟨i,hi,rfl⟩:=J6 hx;obtain⟨j,hj,rfl⟩:=J6 hy;by_cases mh:i<=j
 ·have hd:i+(j-i)=j:=by omega
  have:=kzfk hQ h (j-i) i (by omega) (by simp only[hd];exact e);simpa only[hd] using this
 ·have hd:j+(i-j)=i:=by omega
  have:=kzfk hQ h (i-j) j (by omega) (by simp only[hd];exact e.symm);exact(by simpa only[hd] using this:Q[j]=Q[i]).symm
theorem kzfy:∀(l:List Ac) (a:Ac),Sd (a :: l)->(∀x,x∈a :: l->∀y,y∈a :: l->vsm x y->x=y)->(∀x,x∈a :: l->x.Curve.Points.length<=1048576)->∃r,cpA (fun a0 a1=>IA a0 a1) a l=some r/\(a :: r).Pairwise vlt/\∀x,x∈a :: r↔x∈a :: l
 |[],a,_,_,_=>⟨[],rfl,P6 _ _,fun x=>Iff.rfl⟩
 |b :: l,a,hs,hk,hz=>by
  obtain⟨s1,s2⟩:=GU.1 hs;obtain⟨r,e,r1,r2⟩:=kzfy l b s2 (fun x hx y hy=>hk x (by simp[AI.1 hx]) y (by simp[AI.1 hy])) fun x hx=>hz x (by simp[AI.1 hx]);have hv:=ZV (v:=b) (w:=a) (hz b (by simp));have he:∀r',(bd (IA b a) fun q=>bd (cpA (fun a0 a1=>IA a0 a1) b l) fun r=>some (bif q then r else b :: r))=some r'->cpA (fun a0 a1=>IA a0 a1) a (b :: l)=some r':=fun r' h=>h;by_cases gH:b=a
  ·subst gH;refine⟨r,he r ?_,r1,fun x=>?_⟩
   ·rw[hv,e];simp[Af]
   ·rw[r2];simp
  ·have hlt:vlt a b:=by
    rcases Pv a b with h|h|h
    ·exact h
    ·exact absurd (hk a (by simp) b (by simp) h).symm gH
    ·exact absurd h (s1 b (by simp))
   refine⟨b :: r,he _ ?_,GU.2 ⟨fun x hx=>?_,r1⟩,fun x=>?_⟩
   ·rw[hv,e];simp[Af,gH]
   ·rcases AI.1 hx with rfl|h;·exact hlt
    ·exact Jx hlt ((GU.1 r1).1 x h)
   ·rw[AI,r2,AI (l:=b :: l)]
theorem kzf8{l:List Ac}(hs:Sd l)(hk:∀x,x∈l->∀y,y∈l->vsm x y->x=y)(hz:∀x,x∈l->x.Curve.Points.length<=1048576)(hn:l.length<=1000000):∃m,WD l (fun a0 a1=>IA a0 a1)=some m/\m.Pairwise vlt/\∀x,x∈m↔x∈l:=by
 unfold WD;rw[ck_d (by omega)];cases l with
 |nil=>exact⟨[],rfl,List.Pairwise.nil,fun x=>Iff.rfl⟩
 |cons a l =>obtain⟨r,e,r1,r2⟩:=kzfy l a hs hk hz;refine⟨a :: r,?_,r1,r2⟩;show bd (cpA (fun a0 a1=>IA a0 a1) a l) (fun r=>some (a :: r))=_;rw[e];rfl
theorem VBk.key{a:List Ac}(h:VBk a){x y:Ac}(hx:x∈a)(hy:y∈a)(e:vsm x y):x=y:=vone h.asc hx hy e
theorem kzf6{a b:List Ac}(ha:VBk a)(hb:VBk b)(h:¬Cfl a b):∀x,(x∈a\/x∈b)->∀y,(y∈a\/y∈b)->vsm x y->x=y:=by
 intro x hx y hy e;rcases hx with hx|hx<;>rcases hy with hy|hy
 ·exact ha.key hx hy e
 ·by_cases h2:x=y;·exact h2
  ·exact absurd ⟨x,hx,y,hy,e,h2⟩ h
 ·by_cases h2:x=y;·exact h2
  ·exact absurd ⟨y,hy,x,hx,e.symm,fun q=>h2 q.symm⟩ h
 ·exact hb.key hx hy e
theorem kzga{Q:List Ac}(hz:∀x,x∈Q->x.Curve.Points.length<=1048576)(hn:Q.length<=1000000) : (lp (jz7v Q) 1=some (.inl ())/\∀i,(hi:i+1<Q.length)->vsm Q[i] Q[i+1]->Q[i]=Q[i+1])\/(lp (jz7v Q) 1=some (.inr ([],24))/\∃i,∃hi:i+1<Q.length,vsm Q[i] Q[i+1]/\Q[i]≠Q[i+1]):=by
 obtain⟨o,e,ho⟩:=Dw (s:=(1:Int)) (body:=jz7v Q) (fun s=>∃k:Nat,s=(k:Int)+1/\∀i,(hi:i+1<Q.length)->i<k->vsm Q[i] Q[i+1]->Q[i]=Q[i+1]) (fun s=>(Q.length-s).toNat) (fun o=>(o=.inl ()/\∀i,(hi:i+1<Q.length)->vsm Q[i] Q[i+1]->Q[i]=Q[i+1])\/(o=.inr ([],24)/\∃i,∃hi:i+1<Q.length,vsm Q[i] Q[i+1]/\Q[i]≠Q[i+1])) (by
  rintro s ⟨k,rfl,hI⟩;simp only[jz7v];by_cases hlt:k+1<Q.length;rotate_left
  ·right;rw[it_n (by omega)];exact⟨_,rfl,.inl ⟨rfl,fun i hi=>hI i hi (by omega)⟩⟩
  have a1:at? Q ((k:Int)+1)=some Q[k+1]:=at_e (n:=k+1) (by omega) (AD hlt);have a2:at? Q ((k:Int)+1-1)=some Q[k]:=at_e (n:=k) (by omega) (AD (by omega));have me:=hz Q[k] (GT (by omega));rw[it_d (by omega),AA,a1,a2];simp only[Af];rw[Ua];simp only[Af];rw[ck_t (by simp[As];omega)];by_cases hv:vsm Q[k] Q[k+1]
  ·rw[Cy (jz3i.2 hv)];simp only[AU,Af,Cj];rw[ZV me];simp only[Af];by_cases he:Q[k]=Q[k+1]
   ·left;rw[Bu he,AA];refine⟨_,rfl,⟨k+1,by simp,fun i hi iM hs=>?_⟩,by omega⟩;by_cases e:i=k
    ·subst e;exact he
    ·exact hI i hi (by omega) hs
   ·right;rw[BU he];exact⟨_,rfl,.inr ⟨rfl,k,hlt,hv,he⟩⟩
  ·left;rw[Bz (mt jz3i.1 hv)];simp only[AQ,Af,Cq];rw[Be,AA];refine⟨_,rfl,⟨k+1,by simp,fun i hi iM hs=>?_⟩,by omega⟩;by_cases e:i=k
   ·subst e;exact absurd hs hv
   ·exact hI i hi (by omega) hs) ⟨0,rfl,fun i hi h=>by omega⟩ (by omega)
 rcases ho with ⟨rfl,h⟩|⟨rfl,h⟩
 ·exact .inl ⟨e,h⟩
 ·exact .inr ⟨e,h⟩
theorem kzg5{a b:List Ac}(ha:VsSz a)(hb:VsSz b)(hn:vchE a=0->vchE b=0->∃Q,Xh (a++b) (fun a0 a1=>Xe a0 a1)=some Q/\Sd Q/\Q.Perm (a++b)):∃F,Xl a b=some F/\VMrg F a b:=by
 unfold Xl;by_cases gl:vchE a=0;rotate_left
 ·have e:lp (jz7u a b) 0=some (.inr ([],vchE a)):=by
   refine jzct (fun k=>(0:Int)) 0 (by decide) (fun k hk=>by omega) ?_ rfl;simp only[jz7u];rw[it_d (by simp),at_e (j:=0) (n:=0) (x:=a) rfl rfl];simp only[Af];rw[GL ha];simp only[Af];rw[BU gl]
  rw[e];exact⟨_,rfl,.inl ⟨gl,rfl⟩⟩
 by_cases fu:vchE b=0;rotate_left
 ·have e:lp (jz7u a b) 0=some (.inr ([],vchE b)):=by
   refine jzct (fun k=>(k:Int)) 1 (by decide) (fun k hk=>?_) ?_ rfl
   ·obtain rfl:k=0:=by omega
    simp only[jz7u];rw[it_d (by simp),at_e (n:=0) (x:=a) rfl rfl];simp only[Af];rw[GL ha];simp only[Af];rw[Bu gl,AA];rfl
   ·simp only[jz7u];rw[it_d (by simp),at_e (n:=1) (x:=b) rfl rfl];simp only[Af];rw[GL hb];simp only[Af];rw[BU fu]
  rw[e];exact⟨_,rfl,.inr (.inl ⟨gl,fu,rfl⟩)⟩
 have e:lp (jz7u a b) 0=some (.inl ()):=by
  refine jzct (fun k=>(k:Int)) 2 (by decide) (fun k hk=>?_) ?_ rfl
  ·have:k=0\/k=1:=by omega
   rcases this with rfl|rfl
   ·simp only[jz7u];rw[it_d (by simp),at_e (n:=0) (x:=a) rfl rfl];simp only[Af];rw[GL ha];simp only[Af];rw[Bu gl,AA];rfl
   ·simp only[jz7u];rw[it_d (by simp),at_e (n:=1) (x:=b) rfl rfl];simp only[Af];rw[GL hb];simp only[Af];rw[Bu fu,AA];rfl
  ·simp only[jz7u];rw[it_n (by simp)]
 rw[e];simp only[Af];obtain⟨na,va⟩:=Fx.1 gl;obtain⟨nb,vb⟩:=Fx.1 fu;have ec:Wy [a,b]=some (a++b):=by unfold Wy;rw[ck_t (by simp;omega)];simp
 rw[ec];simp only[Af];obtain⟨Q,q1,q2,q3⟩:=hn gl fu;rw[q1];simp only[Af];have hm:∀x,x∈Q↔x∈a\/x∈b:=fun x=>by rw[q3.mem_iff,Cp]
 have hz:∀x,x∈Q->x.Curve.Points.length<=1048576:=fun x hx=>((hm x).1 hx).elim (fun h=>(ha x h).len) fun h=>(hb x h).len;have hl:=q3.length_eq;rw[BK]at hl;rcases kzga hz (by omega) with ⟨l1,l2⟩|⟨l1,i,hi,l2,l3⟩
 ·have key:=kzf2 q2 l2;obtain⟨m,m1,m2,m3⟩:=kzf8 q2 key hz (by omega);rw[l1];simp only[Af];rw[m1];simp only[Af];have iN:¬Cfl a b:=fun⟨x,hx,y,hy,h1,h2⟩=>h2 (key x ((hm x).2 (.inl hx)) y ((hm y).2 (.inr hy)) h1);by_cases h4:400<m.length
  ·rw[it_d (by omega)];exact⟨_,rfl,.inr (.inr ⟨gl,fu,.inr ⟨iN,m,⟨m2,fun y=>(m3 y).trans (hm y)⟩,by rw[Ap h4]⟩⟩)⟩
  ·rw[it_n (by omega)];exact⟨_,rfl,.inr (.inr ⟨gl,fu,.inr ⟨iN,m,⟨m2,fun y=>(m3 y).trans (hm y)⟩,by rw[Aj h4]⟩⟩)⟩
 ·rw[l1];refine⟨_,rfl,.inr (.inr ⟨gl,fu,.inl ⟨?_,rfl⟩⟩)⟩;by_cases h:Cfl a b
  ·exact h
  ·exact absurd (kzf6 va vb h _ ((hm _).1 (GT _)) _ ((hm _).1 (GT _)) l2) l3
end Go.Am

namespace Go.Am
theorem kzfh{a:List Ac}(h:a.length<=1000000)(hz:∀v,v∈a->v.Curve.Points.length<=1048576):Xd a a=some true:=by
 unfold Xd;rw[Bu rfl,Jv (l:=a) (s:=0) (fun k=>(k:Int)) (by omega) (o:=.inl ()) ?_ ?_ rfl]
 ·simp only[Af]
 ·intro k x hx;have hk:=(AN.1 hx).1;simp only[jz7t];rw[it_d,at_e rfl hx];simp only[Af];rw[kzdr (hz x (Dx hx))];simp only[Af,Da];rw[Be,AA];rfl
 ·simp only[jz7t];rw[it_n]
theorem kzfw{l:List Ac}{n:Int}(h:N5 l n=some true)(hc:vchE l=0):(l.length:Int)<=n:=by
 obtain⟨nq,_⟩:=Fx.1 hc;by_cases hn:(l.length:Int)<=n
 ·exact hn
 ·unfold N5 at h;rw[it_t (by simp only[HV,P0,Fz,AE,BB];omega)]at h;cases h
theorem kzg9{cmp:Ac->Ac->Option Int}(hc:CmpV cmp){l:List Ac}(h1:40<l.length)(hl:l.length<=45):∃Q,Xh l cmp=some Q/\Sd Q/\Q.Perm l:=by
 unfold Xh Xg;obtain⟨X,Y2,rfl,hX⟩:=kzff l 20 (by omega);rw[BK]at *;obtain⟨Y,Z,rfl,hY⟩:=kzff Y2 20 (by omega);rw[BK]at *;obtain⟨X',x1,x2,x3⟩:=kzfj hc (A:=[]) (X:=X) (a:=0) (b:=20) (by simp;omega) rfl (by simp;omega) (Y++Z);simp only[U3]at x1;have lX:=x3.length_eq;obtain⟨Y',y1,y2,y3⟩:=kzfj hc (A:=X') (X:=Y) (a:=20) (b:=40) (by omega) (by omega) (by omega) Z;have lY:=y3.length_eq;rw[<-List.append_assoc]at x1;have x1':Ra (X++(Y++Z)) 0 20 cmp=some (X'++Y++Z):=by rw[<-List.append_assoc];simpa using x1
 obtain⟨Z',z1,z2,z3⟩:=kzfj hc (A:=X'++Y') (X:=Z) (a:=40) (b:=((X.length+(Y.length+Z.length):Nat):Int)) (by rw[BK];omega) (by rw[BK];omega) (by rw[BK];omega) [];simp only[List.append_nil]at z1;have lZ:=z3.length_eq
 have e0:lp (jz7d cmp ((X.length+(Y.length+Z.length):Nat):Int)) (0,20,X++(Y++Z))=some (40,X'++Y'++Z):=by
  refine jzct (fun k=>if k=0 then((0:Int),(20:Int),X++(Y++Z)) else if k=1 then(20,40,X'++Y++Z) else(40,60,X'++Y'++Z)) 2 (by decide) (fun k hk=>?_) ?_ rfl
  ·have:k=0\/k=1:=by omega
   rcases this with rfl|rfl
   ·simp only[Bw,jz7d];rw[it_d (by omega),x1'];simp only[Af];rw[AA];rfl
   ·simp only[Nat.one_ne_zero,Cz,Bw,jz7d];rw[it_d (by omega),y1];simp only[Af];rw[AA];rfl
  ·simp only[Nat.reduceEqDiff,Cz,jz7d];rw[it_n (by omega)]
 rw[e0];simp only[Af];rw[z1];simp only[Af];obtain⟨W,w1,w2,w3⟩:=kzfo hc 64 [] X' Y' Z' (by omega) (by omega) x2 y2 (by omega) (by simp;omega) 0 20 40 rfl (by simp;omega) (by simp;omega);simp only[U3]at w1;have lW:=w3.length_eq;rw[BK]at lW;obtain⟨R,r1,r2,r3⟩:=kzfo hc 64 [] W Z' [] (by omega) (by omega) w2 z2 (by omega) (by simp;omega) 0 40 ((X.length+(Y.length+Z.length):Nat):Int) rfl (by simp;omega) (by simp;omega);simp only[U3,List.append_nil]at r1
 have e1:lp (jz7a cmp ((X.length+(Y.length+Z.length):Nat):Int)) (20,X'++Y'++Z')=some R:=by
  refine jzct (fun k=>if k=0 then((20:Int),X'++Y'++Z') else if k=1 then(40,W++Z') else(80,R)) 2 (by decide) (fun k hk=>?_) ?_ rfl
  ·have:k=0\/k=1:=by omega
   rcases this with rfl|rfl
   ·simp only[Bw,jz7a];rw[it_d (by omega),AA]
    have e2:lp (jz7c 20 cmp ((X.length+(Y.length+Z.length):Nat):Int)) (0,2*20,X'++Y'++Z')=some (40,W++Z'):=by
     refine jzct (fun k=>if k=0 then((0:Int),(2:Int)*20,X'++Y'++Z') else(40,80,W++Z')) 1 (by decide) (fun k hk=>?_) ?_ rfl
     ·obtain rfl:k=0:=by omega
      simp only[Bw,jz7c];rw[it_d (by omega),AA];have:Xf (X'++Y'++Z') 0 (0+20) (2*20) cmp=some (W++Z'):=w1;rw[this];simp only[Af];rw[AA,AA];rfl
     ·simp only[Nat.one_ne_zero,Cz,jz7c];rw[it_n (by omega)]
    rw[e2];simp only[Af];rw[AA,it_n (by omega),AA];rfl
   ·simp only[Nat.one_ne_zero,Cz,Bw,jz7a];rw[it_d (by omega),AA];have e2:lp (jz7c 40 cmp ((X.length+(Y.length+Z.length):Nat):Int)) (0,2*40,W++Z')=some (0,W++Z'):=by refine jzct (fun k=>((0:Int),(2:Int)*40,W++Z')) 0 (by decide) (fun k hk=>by omega) ?_ rfl;simp only[jz7c];rw[it_n (by omega)]
    rw[e2];simp only[Af];rw[AA,it_d (by omega)];have:Xf (W++Z') 0 (0+40) ((X.length+(Y.length+Z.length):Nat):Int) cmp=some R:=r1;rw[this];simp only[Af];rw[AA];rfl
  ·simp only[Nat.reduceEqDiff,Cz,jz7a];rw[it_n (by omega)]
 rw[e1];refine⟨R,rfl,r2,r3.trans ?_⟩;rw[<-List.append_assoc];exact(w3.trans (x3.append y3)).append z3
structure FilI(l:List Ac)(s:List Ac×List Bool):Prop where
 asc:s.1.Pairwise vlt
 len:s.2.length=l.length
 mem:∀y,y∈s.1↔∃k:Nat,l[k]?=some y/\s.2[k]?=some true
theorem FilI.sub{l:List Ac}{s:List Ac×List Bool}(h:FilI l s){y:Ac}(hy:y∈s.1):y∈l:=by obtain⟨k,h1,_⟩:=(h.mem y).1 hy;exact Dx h1
theorem kzgy:∀(m l:List Ac),m.Pairwise vlt->(∀x,x∈m->x∈l)->m.length<=l.length
 |[],l,_,_=>Ej _
 |x :: m,l,h,hs=>by
  obtain⟨h1,h2⟩:=GU.1 h;have hx:=hs x (by simp);have:=kzgy m (l.erase x) h2 fun y hy=>by refine(List.mem_erase_of_ne ?_).2 (hs y (by simp[hy]));intro e;subst e;exact ZW (h1 y hy)
  rw[List.length_erase_of_mem hx]at this;have:=List.length_pos_of_mem hx;simp only[Df];omega
theorem kzgv{l:List Ac}(hs:VsSz l)(hb:VBk l)(hl:l.length<=100){s:List Ac×List Bool}(h:FilI l s){k:Nat}(hk:k<l.length):∃s',kzgl l s (k:Int)=some s'/\FilI l s'/\s'.2=List.set s.2 k true:=by
 obtain⟨out,d⟩:=s;have hx:=AD hk;have cr:k<d.length:=by have:=h.len;simp only at this;omega
 have hd:=AD cr;have io:l[k]∈l:=GT hk;have ho:VsSz out:=fun v hv=>hs v (h.sub hv);have gi:out.length<=l.length:=kzgy out l h.asc fun x hx=>h.sub hx;have hc:vchE out=0:=Fx.2 ⟨by omega,fun r hr=>hb.right r (h.sub hr),h.asc⟩;have hA:=jz3j ho (hs _ io);unfold kzgl;rw[at_e rfl hx];simp only[Af]
 have hset:∀j:Nat,(List.set d k true)[j]?=some true↔(j=k\/d[j]?=some true):=fun j=>by
  rw[JB];by_cases e:k=j
  ·subst e;simp[cr]
  ·simp only[Aj e];exact⟨.inr,fun q=>q.elim (fun q=>absurd q.symm e) id⟩
 have aP:l[k]∈out↔d[k]=true:=by
  rw[h.mem];constructor
  ·rintro⟨j,h1,h2⟩;obtain⟨hj,e1⟩:=AN.1 h1
   have:j=k:=by
    rcases Nat.lt_trichotomy j k with q|q|q
    ·exact absurd (vget hb.asc hj hk q) (by rw[e1];exact ZW)
    ·exact q
    ·exact absurd (vget hb.asc hk hj q) (by rw[e1];exact ZW)
   subst this;rw[hd]at h2;exact BA h2
  ·intro e;exact⟨k,hx,by rw[hd,e]⟩
 generalize l[k]=v at *;rcases hA with ⟨a,_⟩|⟨_,b,_⟩|⟨_,_,⟨x,x1,x2,q⟩|⟨n,⟨q,_⟩|⟨_,m,e,hm⟩⟩⟩
 ·exact absurd hc a
 ·exact absurd (hb.right v io) b
 ·obtain rfl:x=v:=hb.key (h.sub x1) io x2;rcases q with ⟨_,e⟩|⟨q,_⟩;rotate_left
  ·exact absurd rfl q
  rw[e];simp only[Af];rw[at_e rfl hd];simp only[Af];refine⟨_,rfl,⟨h.asc,by simp only[HY];exact h.len,fun y=>?_⟩,by simp⟩;show y∈out↔∃j:Nat,l[j]?=some y/\(List.set d (Int.toNat (k:Int)) true)[j]?=some true;rw[h.mem];simp only[DJ,hset];constructor
  ·rintro⟨j,j1,j2⟩;exact⟨j,j1,.inr j2⟩
  ·rintro⟨j,j1,rfl|j2⟩;·refine⟨j,j1,?_⟩;rw[hd,aP.1 x1]
   ·exact⟨j,j1,j2⟩
 ·omega
 ·rw[e];simp only[Af];rw[at_e rfl hd]
  have rn:d[k]=false:=by
   cases hq:d[k]
   ·rfl
   ·exact absurd ⟨rfl,rfl⟩ (n v (aP.2 hq))
  rw[rn];simp only[Af,decide_true,CZ,Bool.and_self,Cj];refine⟨_,rfl,⟨hm.asc,by simp only[HY];exact h.len,fun y=>?_⟩,by simp⟩;show y∈m↔∃j:Nat,l[j]?=some y/\(List.set d (Int.toNat (k:Int)) true)[j]?=some true;rw[hm.mem,h.mem];simp only[DJ,hset];constructor
  ·rintro(⟨j,j1,j2⟩|rfl);·exact⟨j,j1,.inr j2⟩
   ·exact⟨k,hx,.inl rfl⟩
  ·rintro⟨j,j1,rfl|j2⟩;·right;rw[hx]at j1;exact(BA j1).symm
   ·exact .inl ⟨j,j1,j2⟩
theorem kzgs{l:List Ac}(hs:VsSz l)(hb:VBk l)(hl:l.length<=100):∀(o:List Int) (s:List Ac×List Bool),FilI l s->(∀n,n∈o->0<=n/\n<=255)->∃s',kzgp l o s=some s'/\FilI l s'
 |[],s,h,_=>⟨s,rfl,h⟩
 |n :: o,s,h,hn=>by
  have h0:=hn n (by simp);show ∃s',(ck (As .i64 n)<|bd (bif decide (0<List.length l) then kzgl l s (n.tmod (List.length l:Int)) else some s) fun s=>kzgp l o s)=some s'/\_;rw[AA];by_cases hp:0<l.length
  ·have fH:=Int.tmod_nonneg (l.length:Int) h0.1;have kl:=Int.tmod_lt_of_pos n (show(0:Int)<(l.length:Int) by omega);obtain⟨k,hk⟩:∃k:Nat,n.tmod (l.length:Int)=(k:Int):=⟨(n.tmod (l.length:Int)).toNat,by omega⟩;rw[hk]at kl |-;obtain⟨s',e,h1,_⟩:=kzgv hs hb hl h (k:=k) (by omega);rw[Cy hp];simp only[Cj];rw[e];exact kzgs hs hb hl o s' h1 fun x hx=>hn x (by simp[hx])
  ·rw[Bz hp];exact kzgs hs hb hl o s h fun x hx=>hn x (by simp[hx])
theorem kzgq{l:List Ac}(hs:VsSz l)(hb:VBk l)(hl:l.length<=100):∀(n k:Nat) (s:List Ac×List Bool),FilI l s->k+n=l.length->(∀j,j<k->s.2[j]?=some true)->∃s',kzgn l n k s=some s'/\FilI l s'/\∀j,j<l.length->s'.2[j]?=some true
 |0,k,s,h,hk,hd=>⟨s,rfl,h,fun j hj=>hd j (by omega)⟩
 |n+1,k,s,h,hk,hd=>by
  have cr:k<s.2.length:=by have:=h.len;omega
  have hx:=AD cr;show ∃s',(bd (at? s.2 (k:Int)) fun d=>bd (bif d then some s else kzgl l s (k:Int)) fun s=>kzgn l n (k+1) s)=some s'/\_;rw[at_e rfl hx];simp only[Af];cases hq:s.2[k]
  ·obtain⟨s',e,h1,h2⟩:=kzgv hs hb hl h (k:=k) (by omega);simp only[Cq];rw[e];refine kzgq hs hb hl n (k+1) s' h1 (by omega) fun j hj=>?_;rw[h2,JB];by_cases e:k=j
   ·subst e;simp[cr]
   ·rw[Aj e];exact hd j (by omega)
  ·simp only[Cj,Af];refine kzgq hs hb hl n (k+1) s h (by omega) fun j hj=>?_;by_cases e:j=k
   ·subst e;rw[hx,hq]
   ·exact hd j (by omega)
theorem kzg4{l:List Ac}(hs:VsSz l)(hb:VBk l)(hl:l.length<=100){o:List Int}(ho:∀n,n∈o->0<=n/\n<=255)(hn:o.length<=1000):kzgo l o=some l:=by
 unfold kzgo;rw[ck_t (by simp;omega)];have qX:∀k:Nat,(List.replicate l.length false)[k]?=some true->False:=fun k e=>by rw[Gbk]at e;split at e<;>cases e
 obtain⟨s1,e1,h1⟩:=kzgs hs hb hl o ([],List.replicate l.length false) ⟨List.Pairwise.nil,Gbw,fun y=>⟨fun h=>(by cases h),fun⟨k,_,e⟩=>(qX k e).elim⟩⟩ ho;rw[e1];simp only[Af];obtain⟨s2,e2,h2,h3⟩:=kzgq hs hb hl l.length 0 s1 h1 (by omega) (fun j hj=>by omega);rw[e2];simp only[Af];congr 1;refine Ug h2.asc hb.asc fun y=>⟨fun hy=>h2.sub hy,fun hy=>?_⟩;obtain⟨k,hk,rfl⟩:=J6 hy;exact(h2.mem _).2 ⟨k,AD hk,h3 k hk⟩
theorem kzgr{a b:List Ac}(ha:VsSz a)(hb:VsSz b)(gl:vchE a=0)(fu:vchE b=0)(hn:a.length+b.length<=45):∃F,Xl a b=some F/\((Cfl a b/\F=([],24))\/(¬Cfl a b/\kzgh a b F.1/\F.2=0/\F.1.length<=a.length+b.length/\VsSz F.1/\vchE F.1=0)):=by
 obtain⟨_,va⟩:=Fx.1 gl;obtain⟨_,vb⟩:=Fx.1 fu
 obtain⟨F,e,h⟩:=kzg5 ha hb fun _ _=>by
  by_cases h:a.length+b.length<=40
  ·exact kzfz kzgf (by rw[BK];omega)
  ·exact kzg9 kzgf (by rw[BK];omega) (by rw[BK];omega)
 refine⟨F,e,?_⟩;rcases h with ⟨q,_⟩|⟨_,q,_⟩|⟨_,_,h|⟨h,m,hm,rfl⟩⟩
 ·exact absurd gl q
 ·exact absurd fu q
 ·exact .inl h
 ·have hl:m.length<=(a++b).length:=kzgy m (a++b) hm.asc fun x hx=>Cp.2 ((hm.mem x).1 hx);rw[BK]at hl;rw[Aj (by omega)];refine .inr ⟨h,hm,rfl,hl,fun v hv=>?_,Fx.2 ⟨by show m.length<=400;omega,fun r hr=>?_,hm.asc⟩⟩
  ·exact((hm.mem v).1 hv).elim (ha v) (hb v)
  ·exact((hm.mem r).1 hr).elim (va.right r) (vb.right r)
theorem kzgh.uniq{a b c d m n:List Ac}(h:kzgh a b m)(k:kzgh c d n)(e:∀y,(y∈a\/y∈b)↔(y∈c\/y∈d)):m=n:=Ug h.asc k.asc fun y=>(h.mem y).trans ((e y).trans (k.mem y).symm)
theorem kzgt{m:List Ac}(h:VsSz m):∀v,v∈m->v.Curve.Points.length<=1048576:=fun v hv=>(h v hv).len
theorem kzhm{l:CO}{o:List Int}:(lp (kzgj l o true) 0=some (.inl ())/\o.length<=40/\(VsSz l.e0/\vchE l.e0=0/\l.e0.length<=15)/\(VsSz l.e1/\vchE l.e1=0/\l.e1.length<=15)/\VsSz l.e2/\vchE l.e2=0/\l.e2.length<=15)\/lp (kzgj l o true) 0=some (.inr true):=by
 have one:∀(k:Nat) (x:List Ac),[l.e0,l.e1,l.e2][k]?=some x->(kzgj l o true (k:Int)=some (.inl ((k:Int)+1))/\o.length<=40/\VsSz x/\vchE x=0/\x.length<=15)\/kzgj l o true (k:Int)=some (.inr (.inr true)):=by
  intro k x hx;have hk:=(AN.1 hx).1;simp only[Df,List.length_nil]at hk;simp only[kzgj];rw[it_d (by omega),at_e rfl hx];obtain⟨b,e,hb⟩:=jz09 x 15;simp only[Af,Da,CZ,AU,Cq];rw[e];simp only[Af];cases b
  ·right;simp only[CZ,Da,AQ,Af,Cj];rw[Dp]
  have hs:=hb rfl;simp only[Da,Cq];by_cases ho:40<o.length
  ·right;rw[Cy (show(40:Int)<(o.length:Int) by omega)];simp only[Da,AQ,Af,Cj];rw[Dp]
  rw[Bz (show ¬(40:Int)<(o.length:Int) by omega)];simp only[CZ,AU,Cq];rw[GL hs];simp only[Af];by_cases hc:vchE x=0
  ·left;rw[Bu hc,AA];have:=kzfw e hc;exact⟨rfl,by omega,hs,hc,by omega⟩
  ·right;rw[BU hc]
 have run:∀r,(∀n,lpN (kzgj l o true) (n+4) 0=some r)->lp (kzgj l o true) 0=some r:=fun r h=>by rw[Ki];exact h 4611686018427387900
 rcases one 0 l.e0 rfl with ⟨s0,o0,r0⟩|s0;rotate_left
 ·exact .inr (jzct (fun k=>(k:Int)) 0 (by decide) (fun k hk=>by omega) s0 rfl)
 rcases one 1 l.e1 rfl with ⟨s1,_,r1⟩|s1;rotate_left
 ·refine .inr (jzct (fun k=>(k:Int)) 1 (by decide) (fun k hk=>?_) s1 rfl);obtain rfl:k=0:=by omega
  exact s0
 rcases one 2 l.e2 rfl with ⟨s2,_,r2⟩|s2;rotate_left
 ·refine .inr (jzct (fun k=>(k:Int)) 2 (by decide) (fun k hk=>?_) s2 rfl);have:k=0\/k=1:=by omega
  rcases this with rfl|rfl
  ·exact s0
  ·exact s1
 ·refine .inl ⟨jzct (fun k=>(k:Int)) 3 (by decide) (fun k hk=>?_) ?_ rfl,o0,r0,r1,r2⟩
  ·have:k=0\/k=1\/k=2:=by omega
   rcases this with rfl|rfl|rfl
   ·exact s0
   ·exact s1
   ·exact s2
  ·simp only[kzgj];rw[it_n (by omega)]
theorem kzhq{l:CO}(s0:VsSz l.e0)(c0:vchE l.e0=0)(n0:l.e0.length<=15)(s1:VsSz l.e1)(c1:vchE l.e1=0)(n1:l.e1.length<=15)(iN:¬Cfl l.e0 l.e1):lp (kzgk l) 0=some (.inl ()):=by
 obtain⟨_,v0⟩:=Fx.1 c0;obtain⟨_,v1⟩:=Fx.1 c1;rw[GJ (l:=l.e1) (ω:=Bool) (fun k x=>none) (by omega) ?_ ?_]
 ·rw[TT _ _ (fun _ _ _=>rfl)];rfl
 ·intro k v hv;have hk:=(AN.1 hv).1;have hm:=Dx hv;have hr:=v1.right v hm;have sv:VsSz [v]:=fun w hw=>by cases BX.1 hw;exact s1 v hm
  have cv:vchE [v]=0:=Fx.2 ⟨by simp,fun r eE=>by cases BX.1 eE;exact hr,P6 _ _⟩;have nc:¬Cfl l.e0 [v]:=fun⟨x,hx,y,hy,h1,h2⟩=>by cases BX.1 hy;exact iN ⟨x,hx,v,hm,h1,h2⟩
  obtain⟨F,e,hF⟩:=kzgr s0 sv c0 cv (by simp;omega);rcases hF with ⟨q,_⟩|⟨_,f1,f2,f3,f4,f5⟩
  ·exact absurd q nc
  obtain⟨M,E⟩:=F;simp only at f1 f2 f3 f4 f5;subst f2;simp only[kzgk];rw[it_d,at_e rfl hv];simp only[Af];rw[e];have fk:Xd M M=some true:=kzfh (by simp at f3;omega) (kzgt f4);rcases jz3j s0 (s1 v hm) with ⟨a,_⟩|⟨_,b,_⟩|⟨_,_,⟨x,x1,x2,q⟩|⟨n,⟨q,_⟩|⟨_,m,e',ce⟩⟩⟩
  ·exact absurd c0 a
  ·exact absurd hr b
  ·rcases q with ⟨rfl,e'⟩|⟨q,_⟩;rotate_left
   ·exact absurd ⟨x,x1,v,hm,x2,q⟩ iN
   have hM:M=l.e0:=Ug f1.asc v0.asc fun y=>by rw[f1.mem];exact⟨fun h=>h.elim id fun h=>by cases BX.1 h;exact x1,.inl⟩
   subst hM;rw[e'];simp only[Af];have d9:decide ((9:Int)=0)=false:=rfl;simp only[d9,decide_true,Da,CZ,PE,P2,Bool.and_self,Bool.and_true,AQ,AU,Af,Cj,Cq];rw[fk];simp only[Af,Da,Cq];rw[Be,AA]
  ·omega
  ·have hM:m=M:=Ug ce.asc f1.asc fun y=>by rw[ce.mem,f1.mem,BX]
   subst hM;rw[e'];simp only[Af];have d9:decide ((0:Int)=9)=false:=rfl;simp only[d9,decide_true,Da,CZ,P2,Bool.and_self,Bool.and_true,Bool.and_false,PE,AQ,AU,Af,Cj,Cq];rw[fk];simp only[Af,Da,Cq,CZ,Bool.and_false,PE,AQ];rw[Be,AA]
 ·simp only[kzgk];rw[it_n]
theorem Cfl.symm{a b:List Ac}(h:Cfl a b):Cfl b a:=by obtain⟨x,hx,y,hy,h1,h2⟩:=h;exact⟨y,hy,x,hx,h1.symm,fun e=>h2 e.symm⟩
theorem kzhn{l:CO}{o:List Int}(ho:∀n,n∈o->0<=n/\n<=255):kzgm l o=some true:=by
 unfold kzgm;rw[jz8f];simp only[Af];rcases kzhm (l:=l) (o:=o) with ⟨e,no,⟨s0,c0,n0⟩,⟨s1,c1,n1⟩,s2,c2,n2⟩|e
 rotate_left
 ·rw[e];rfl
 rw[e];simp only[Af];obtain⟨_,v0⟩:=Fx.1 c0;obtain⟨_,v1⟩:=Fx.1 c1;obtain⟨_,v2⟩:=Fx.1 c2;rw[kzg4 s0 v0 (by omega) ho (by omega)];simp only[Af];rw[kzfh (by omega) (kzgt s0)];simp only[Af,Da];rw[Be];obtain⟨F,eF,hF⟩:=kzgr s0 s0 c0 c0 (by omega)
 have oL:F=(l.e0,0):=by
  rcases hF with ⟨⟨x,hx,y,hy,h1,h2⟩,_⟩|⟨_,f1,f2,_⟩
  ·exact absurd (v0.key hx hy h1) h2
  ·exact Prod.ext (Ug f1.asc v0.asc fun y=>by rw[f1.mem];exact⟨fun h=>h.elim id id,.inl⟩) f2
 rw[eF,oL];simp only[Af];obtain⟨G,eG,hG⟩:=kzgr s0 s1 c0 c1 (by omega);obtain⟨H,eH,hH⟩:=kzgr s1 s0 c1 c0 (by omega)
 have rp:G=H:=by
  rcases hG with ⟨q,e1⟩|⟨q,f1,f2,_⟩<;>rcases hH with ⟨q',e2⟩|⟨q',g1,g2,_⟩
  ·rw[e1,e2]
  ·exact absurd q.symm q'
  ·exact absurd q'.symm q
  ·exact Prod.ext (f1.uniq g1 fun y=>or_comm) (f2.trans g2.symm)
 rw[eG,eH,<-rp];simp only[Af,decide_true,Da,CZ,AU,Cq];rw[kzfh (by omega) (kzgt s0)];simp only[Af,decide_true,Da,CZ,AU,Cq]
 have ru:G.1.length<=30/\VsSz G.1:=by
  rcases hG with ⟨_,rfl⟩|⟨_,_,_,f3,f4,_⟩
  ·exact⟨by simp,fun v hv=>by cases hv⟩
  ·exact⟨by omega,f4⟩
 rw[kzfh (by omega) (kzgt ru.2)];simp only[Af,Da];rw[Be];obtain⟨K,eK,hK⟩:=kzgr s1 s2 c1 c2 (by omega);rw[eK];simp only[Af];rcases hG with ⟨_,rfl⟩|⟨nG,g1,g2,g3,g4,g5⟩
 ·rw[it_t (by rfl)];rfl
 rcases hK with ⟨_,rfl⟩|⟨nK,k1,k2,k3,k4,k5⟩
 ·rw[it_t (by rw[g2];rfl),g2];rfl
 rw[g2,k2];simp only[decide_true,Da,Cq];rw[Be];obtain⟨P,eP,hP⟩:=kzgr g4 s2 g5 c2 (by omega);obtain⟨Q,eQ,hQ⟩:=kzgr s0 k4 c0 k5 (by omega)
 have rA:P=Q:=by
  have c1:Cfl G.1 l.e2->Cfl l.e0 K.1:=fun⟨x,hx,y,hy,h1,h2⟩=>by
   rcases(g1.mem x).1 hx with hx|hx
   ·exact⟨x,hx,y,(k1.mem y).2 (.inr hy),h1,h2⟩
   ·exact absurd ⟨x,hx,y,hy,h1,h2⟩ nK
  have c2:Cfl l.e0 K.1->Cfl G.1 l.e2:=fun⟨x,hx,y,hy,h1,h2⟩=>by
   rcases(k1.mem y).1 hy with hy|hy
   ·exact absurd ⟨x,hx,y,hy,h1,h2⟩ nG
   ·exact⟨x,(g1.mem x).2 (.inl hx),y,hy,h1,h2⟩
  rcases hP with ⟨q,e1⟩|⟨q,f1,f2,_⟩<;>rcases hQ with ⟨q',e2⟩|⟨q',h1,h2,_⟩
  ·rw[e1,e2]
  ·exact absurd (c1 q) q'
  ·exact absurd (c2 q') q
  ·exact Prod.ext (f1.uniq h1 fun y=>by rw[g1.mem,k1.mem,or_assoc]) (f2.trans h2.symm)
 have rB:P.1.length<=45/\VsSz P.1:=by
  rcases hP with ⟨_,rfl⟩|⟨_,_,_,f3,f4,_⟩
  ·exact⟨by simp,fun v hv=>by cases hv⟩
  ·exact⟨by omega,f4⟩
 rw[eP,eQ,<-rA];simp only[Af,decide_true,Da,CZ,AU,Cq];rw[kzfh (by omega) (kzgt rB.2)];simp only[Af,Da];rw[Be,kzhq s0 c0 n0 s1 c1 n1 nG];rfl
end Go.Am

