/- Part U2: the mathematics of the functions of this seat. No condition. -/
import Derived.Test.YtbidhbeoimpjbaaGreatDoorU1
set_option linter.unusedSimpArgs false
set_option linter.unusedVariables false
namespace Go.Am
def isEd(l:List Ac)(g x:Int):Prop:=∃v,v∈l/\v.Gauge=g/\(x=v.From\/x=v.To)
structure Eds(l:List Ac)(g f t:Int)(E:List Int):Prop where
 asc:SAsc E
 mem:∀x,x∈E↔x=f\/x=t\/(isEd l g x/\f<x/\x<t)
theorem Eds.uniq{l:List Ac}{g f t:Int}{D E:List Int}(h:Eds l g f t D)(k:Eds l g f t E):D=E:=ZH h.asc k.asc fun x=>(h.mem x).trans (k.mem x).symm
end Go.Am

namespace Go.Am
def vdat(l:List Ac)(g x known:Int):Int:=match vfrc l 2 g x known with
 |some v=>v.Shift
 |none=>0
end Go.Am

namespace Go.Am
theorem vpts{v:Ac}(h:VRi v):v.Curve.Points.length<=16:=by
 rcases h.2 with h|h|h
 ·have he:=h.2.2;unfold Jw at he;split at he
  ·cases he
  ·omega
 ·omega
 ·omega
def spV(l:List Ac)(g known x:Int):Int×List AC:=(vdat l g x known,match vfrc l 1 g x known with | some c=>c.Curve.Points | none=>[])
def spT(s:AL):Int×Int×Int×List AC:=(s.From,s.To,s.Datum,s.Curve.Points)
def unTk(w:AJ)(p:Int×Int×Int×List AC):AL:=⟨p.1,p.2.1,w,p.2.2.1,⟨p.2.2.2⟩⟩
theorem Uj{w:AJ}:∀{o:List AL},(∀s,s∈o->s.Weight=w)->(o.map spT).map (unTk w)=o
 |[],_=>rfl
 |s :: o,h=>by
  have hs:unTk w (spT s)=s:=by rw[<-h s (by simp)];rfl
  rw[HZ,HZ,hs,Uj fun x hx=>h x (by simp[hx])]
theorem Eds.head{l:List Ac}{g f t:Int}{E:List Int}(h:Eds l g f t E)(kv:f<=t):∃E',E=f :: E':=by
 have hf:f∈E:=(h.mem f).2 (.inl rfl);cases E with
 |nil=>cases hf
 |cons a E =>
  refine⟨E,?_⟩;have ha:=(h.mem a).1 (by simp);rcases AI.1 hf with e|e
  ·rw[e]
  ·have:=(GU.1 h.asc).1 f e;rcases ha with e|e|⟨_,e,_⟩<;>omega
structure SpC(l:List Ac)(g known:Int)(w:AJ)(f t:Int)(o:List AL):Prop where
 cd:Cd (spV l g known) t none f (o.map spT)
 wt:∀s,s∈o->s.Weight=w
 all:∀x,f<=x->x<t->vfrc l 1 g x known≠none
theorem SpC.uniq{l m:List Ac}{g h known k:Int}{w:AJ}{f t:Int}{o p:List AL}(ho:SpC l g known w f t o)(hp:SpC m h k w f t p)(e:∀x,f<=x->x<t->spV l g known x=spV m h k x):o=p:=by rw[<-Uj ho.wt,<-Uj hp.wt,(ho.cd.congr e).uniq hp.cd]
end Go.Am

namespace Go.Am
set_option maxRecDepth 100000 in
theorem RD:NJ=some true:=by decide +kernel
def vZ:Ac:=Ac.mk 0 0 0 0 0 0 0 (AG.mk [])
def Fy(x known:Int):Prop:=0<=x/\x<1402560/\0<=known/\known<=14609
instance (x k:Int):Decidable (Fy x k):=by unfold Fy;infer_instance
theorem kzcx(x k:Int):(bif (bif (bif (decide (x<0)) then true else(decide (1402560<=x))) then true else(decide (k<0))) then true else(decide (14609<k)))=decide (¬Fy x k):=by unfold Fy;simp only[HV];rw[GQ];simp only[Fz,BB];omega
theorem ZZ(x k:Int):Kk x k=some (if Fy x k then 0 else 3):=by
 unfold Kk;rw[kzcx];by_cases h:Fy x k
 ·rw[it_n (fun e=>e h),Ap h]
 ·rw[it_d h,Aj h]
theorem kzfv(x k:Int):T_ x k=some (if Fy x k then 0 else 3):=ZZ x k
noncomputable def infc(l:List Ac)(k g x known:Int):Ac×Int :=
 if vchE l≠0 then(vZ,vchE l) else if ¬Fy x known then(vZ,3) else match vfrc l k g x known with
 |some v=>(v,0)
 |none=>(vZ,8)
theorem kzce{l:List Ac}(hs:VsSz l)(k g x known:Int):Gx l k g x known=some (infc l k g x known):=by
 unfold Gx infc;rw[GL hs];simp only[Af];by_cases hc:vchE l=0;rotate_left
 ·rw[BU hc,Ap hc];rfl
 rw[Bu hc,Aj (fun e=>e hc),ZZ];simp only[Af];by_cases ha:Fy x known;rotate_left
 ·rw[Aj ha,Ap ha];rfl
 rw[Ap ha,Aj (fun e=>e ha)];obtain⟨nq,hb⟩:=Fx.1 hc;rw[Bu rfl,Ud (by omega) hb.asc];simp only[Af];cases vfrc l k g x known<;>rfl
theorem o_{l:List Ac}(hs:VsSz l)(k g x known:Int):O_ l k g x known=some ⟨(infc l k g x known).1,(infc l k g x known).2⟩:=by
 unfold O_ infc;rw[F_ hs];simp only[Af];by_cases hc:vchE l=0;rotate_left
 ·rw[it_n hc];simp only[Af];rw[BU hc,Ap hc];rfl
 rw[it_d hc,Aj (fun e=>e hc),kzfv];simp only[Af];by_cases ha:Fy x known;rotate_left
 ·rw[Aj ha,Ap ha];rfl
 rw[Ap ha,Aj (fun e=>e ha)];obtain⟨nq,hb⟩:=Fx.1 hc;rw[Bu rfl];obtain⟨j,e1,h1⟩:=ZQ (l:=l) (by omega) k g x known;rw[e1];simp only[Af];rcases h1 with ⟨rfl,hy⟩|⟨j,b,rfl,hj,hy⟩
 ·rw[it_d,hy];rfl
 ·rw[it_n (by omega),at_e rfl hj,hy];rfl
noncomputable def shfc(l:List Ac)(k g x known:Int):Int×Int :=
 if vchE l≠0 then(0,vchE l) else if ¬(k=2\/k=3) then(0,1) else if ¬Fy x known then(0,3) else((match vfrc l k g x known with | some v=>v.Shift | none=>0),0)
theorem pK(k:Int):(bif (!decide (k=2)) then(!decide (k=3)) else false)=decide (¬(k=2\/k=3)):=by rw[GQ];simp
theorem kzc2{l:List Ac}(hs:VsSz l)(k g x known:Int):K0 l k g x known=some (shfc l k g x known):=by
 unfold K0 shfc;rw[GL hs];simp only[Af];by_cases hc:vchE l=0;rotate_left
 ·rw[BU hc,Ap hc]
 rw[Bu hc,Aj (fun e=>e hc),pK];by_cases hk:k=2\/k=3;rotate_left
 ·rw[it_d hk,Ap hk]
 rw[it_n (fun e=>e hk),Aj (fun e=>e hk),ZZ];simp only[Af];by_cases ha:Fy x known;rotate_left
 ·rw[Aj ha,Ap ha];rfl
 rw[Ap ha,Aj (fun e=>e ha)];obtain⟨nq,hb⟩:=Fx.1 hc;rw[Bu rfl];unfold QT;rw[Ud (by omega) hb.asc];simp only[Af];cases vfrc l k g x known<;>rfl
theorem kzfu{l:List Ac}(hs:VsSz l)(k g x known:Int):QV l k g x known=some ⟨(shfc l k g x known).1,(shfc l k g x known).2⟩:=by
 unfold QV shfc;rw[F_ hs];simp only[Af];by_cases hc:vchE l=0;rotate_left
 ·rw[BU hc,Ap hc]
 rw[Bu hc,Aj (fun e=>e hc),pK];by_cases hk:k=2\/k=3;rotate_left
 ·rw[it_d hk,Ap hk]
 rw[it_n (fun e=>e hk),Aj (fun e=>e hk),o_ hs];simp only[Af];unfold infc;rw[Aj (fun e=>e hc)];by_cases ha:Fy x known;rotate_left
 ·rw[Ap ha,Ap ha];rfl
 rw[Aj (fun e=>e ha),Aj (fun e=>e ha)];cases vfrc l k g x known<;>rfl
theorem pL{v:Ac}(h:v.Curve.Points.length<=1048576):Kt v v=some true:=by rw[ZJ h];simp
end Go.Am

namespace Go.Am
theorem pM(a:Int):∀l:List Int,l.Pairwise (·<=·)->(Ba a l).Pairwise (·<=·)
 |[],_=>P6 _ _
 |b :: l,hp=>by
  obtain⟨h1,h2⟩:=GU.1 hp;unfold Ba;cases hd:decide (a<=b)
  ·have hd:=of_decide_eq_false hd;refine GU.2 ⟨fun c hc=>?_,pM a l h2⟩;rcases(TU a l c).1 hc with rfl|hc
   ·omega
   ·exact h1 c hc
  ·have hd:=GY hd;refine GU.2 ⟨fun c hc=>?_,hp⟩;rcases AI.1 hc with rfl|hc
   ·exact hd
   ·have:=h1 c hc;omega
theorem pN:∀l:List Int,(Bj l).Pairwise (·<=·)
 |[]=>List.Pairwise.nil
 |a :: l=>pM a _ (pN l)
def eqI:Int->Int->Option Bool:=fun a b=>some (decide (a=b))
theorem pO:∀(l:List Int) (a:Int),l.Pairwise (·<=·)->(∀x,x∈l->a<=x)->∃r,cpA eqI a l=some r/\SAsc r/\(∀x,x∈r↔x∈l/\a<x)/\r.length<=l.length
 |[],a,_,_=>⟨[],rfl,List.Pairwise.nil,fun x=>by simp,AB _⟩
 |b :: l,a,hp,ha=>by
  obtain⟨h1,h2⟩:=GU.1 hp;obtain⟨r,e,r1,r2,r3⟩:=pO l b h2 h1;have gH:=ha b (by simp);unfold cpA;rw[e];show ∃r',bd (some (decide (b=a))) (fun q=>bd (some r) fun r=>some (bif q then r else b :: r))=some r'/\_;simp only[Af];by_cases hq:b=a
  ·subst hq;refine⟨r,by simp,r1,fun x=>?_,by simp only[Df];omega⟩;rw[r2];constructor
   ·rintro⟨h,k⟩;exact⟨by simp[h],k⟩
   ·rintro⟨h,k⟩;rcases AI.1 h with rfl|h
    ·omega
    ·exact⟨h,k⟩
  ·refine⟨b :: r,by simp[hq],GU.2 ⟨fun x hx=>((r2 x).1 hx).2,r1⟩,fun x=>?_,by simp only[Df];omega⟩;rw[AI,r2,AI];constructor
   ·rintro(rfl|⟨h,k⟩);·exact⟨.inl rfl,by omega⟩
    ·exact⟨.inr h,by omega⟩
   ·rintro⟨h|h,k⟩;·exact .inl h
    ·have:=h1 x h;by_cases e:x=b
     ·exact .inl e
     ·exact .inr ⟨h,by omega⟩
theorem kzdl{l:List Int}(h:l.Pairwise (·<=·))(hn:l.length<=1000000):∃r,WS l=some r/\SAsc r/\(∀x,x∈r↔x∈l)/\r.length<=l.length:=by
 unfold WS;rw[ck_d (by omega)];cases l with
 |nil=>exact⟨[],rfl,List.Pairwise.nil,fun x=>Iff.rfl,AB _⟩
 |cons a l =>
  obtain⟨h1,h2⟩:=GU.1 h;obtain⟨r,e,r1,r2,r3⟩:=pO l a h2 h1;refine⟨a :: r,?_,GU.2 ⟨fun x hx=>((r2 x).1 hx).2,r1⟩,fun x=>?_,by simp only[Df];omega⟩
  ·show bd (cpA eqI a l) (fun r=>some (a :: r))=_;rw[e];rfl
  ·rw[AI,r2,AI];constructor
   ·rintro(h|h);·exact .inl h
    ·exact .inr h.1
   ·rintro(h|h);·exact .inl h
    ·have:=h1 x h;by_cases e:x=a
     ·exact .inl e
     ·exact .inr ⟨h,by omega⟩
theorem kzdo{l:List Int}(h2:l.length<=1000000000):CG l=some (Bj l):=by unfold CG;rw[ck_t];simp;omega
structure Z_(l:List Ac)(g:Int)(D:List Int):Prop where
 asc:SAsc D
 mem:∀x,x∈D↔∃v,v∈l/\v.Gauge=g/\v.Known=x
theorem kzd2{l:List Ac}(hs:VsSz l)(hc:vchE l=0)(g:Int):∃D,Xm l g=some (D,0)/\Z_ l g D/\D.length<=400:=by
 obtain⟨nq,hb⟩:=Fx.1 hc;unfold Xm;rw[GL hs];simp only[Af];rw[Bu hc]
 have e:=Jv (body:=P_ g l) (l:=l) (s:=((0:Int),([]:List Int))) (fun k=>((k:Int),((l.take k).filter fun v=>decide (v.Gauge=g)).map (·.Known))) (by omega) (fun k x hx=>by
  have hk:=(AN.1 hx).1;have hf:=List.length_filter_le (fun v:Ac=>decide (v.Gauge=g)) (l.take k);rw[Eg]at hf;simp only[P_];rw[it_d,at_e rfl hx,Fw hx,List.filter_append,List.map_append];simp only[Af];by_cases h:x.Gauge=g
  ·rw[it_d h,ck_d (by simp;omega),AA];simp[h]
  ·rw[it_n h,AA];simp[h]) (by
  simp only[P_];rw[it_n,List.take_length]) rfl
 rw[e];simp only[Af];have hf:=List.length_filter_le (fun v:Ac=>decide (v.Gauge=g)) l;have hn:((l.filter fun v=>decide (v.Gauge=g)).map (·.Known)).length<=400:=by rw[JC];omega
 have hm:∀x,x∈(l.filter fun v=>decide (v.Gauge=g)).map (·.Known)↔∃v,v∈l/\v.Gauge=g/\v.Known=x:=fun x=>by simp only[P5,List.mem_filter,BB,and_assoc]
 generalize (l.filter fun v=>decide (v.Gauge=g)).map (·.Known)=xs at hn hm;rw[kzdo (by omega)];simp only[Af];obtain⟨r,e1,r1,r2,r3⟩:=kzdl (pN xs) (by rw[ZL];omega);rw[e1];simp only[Af];rw[ZL]at r3;exact⟨r,rfl,⟨r1,fun x=>by rw[r2,TW,hm]⟩,by omega⟩
theorem kzds{l:List Ac}(hc:vchE l=0)(kind g x known:Int):(infc l kind g x known).1.Curve.Points.length<=16/\((infc l kind g x known).2=0->(infc l kind g x known).1.Known<=known):=by
 obtain⟨nq,hb⟩:=Fx.1 hc;unfold infc;rw[hc];simp only[ne_eq,not_true_eq_false,Cz];split
 ·exact⟨by simp[vZ],fun e=>by cases e⟩
 ·cases hv:vfrc l kind g x known with
  |none=>exact⟨by simp[vZ],fun e=>by cases e⟩
  |some v =>obtain⟨h1,h2⟩:=Uc _ _ _ _ _ l rfl v hv;exact⟨vpts (hb.right v h1),fun _=>h2.2.2.1⟩
section
variable {α:Type}
theorem B_{L R:List α}{x:α}{i:Int}(h:i=(L.length:Int)):at? (L++x :: R) i=some x:=at_e (n:=L.length) h (by simp)
theorem G_{L R:List α}{x y:α}{i:Int}(h:i=(L.length:Int)):List.set (L++x :: R) (Int.toNat i) y=L++y :: R:=by subst h;rw[DJ,List.set_append_right _ _ (AB _)];simp
end
def Sd(l:List Ac):Prop:=l.Pairwise fun a b=>¬vlt b a
theorem a_{a b c:Ac}(h:¬vlt b a)(k:¬vlt c b):¬vlt c a:=by unfold vlt at *;omega
theorem RE{a b:Ac}(h:vlt a b):¬vlt b a:=Q_ h
def CmpV(cmp:Ac->Ac->Option Int):Prop:=∀x y,cmp x y=some (vcmp x y)
theorem Sd.app{l m:List Ac}:Sd (l++m)↔Sd l/\Sd m/\∀a,a∈l->∀b,b∈m->¬vlt b a:=List.pairwise_append
theorem kzgc{cmp:Ac->Ac->Option Int}(hc:CmpV cmp){A Y B:List Ac}{x:Ac}(hY:Sd Y)(hn:A.length+Y.length<=1000000) : ∃Q,lp (Px (A.length:Int) cmp) (((A.length+Y.length:Nat):Int),A++Y++x :: B)=some (A++Q++B)/\Sd Q/\Q.Perm (x :: Y):=by
 obtain⟨o,e,Q,rfl,h1,h2⟩:=Dw (s:=(((A.length+Y.length:Nat):Int),A++Y++x :: B)) (body:=Px (A.length:Int) cmp) (fun s=>∃P S,s=(((A.length+P.length:Nat):Int),A++P++x :: (S++B))/\P++S=Y/\∀y,y∈S->vlt x y) (fun s=>s.1.toNat) (fun o=>∃Q,o=A++Q++B/\Sd Q/\Q.Perm (x :: Y)) (by
  rintro s ⟨P,S,rfl,qw,hS⟩;simp only[Px];have qJ:=hY;rw[<-qw]at qJ;obtain⟨y1,y2,y3⟩:=Sd.app.1 qJ;have hl:P.length+S.length=Y.length:=by rw[<-qw,BK]
  have stop:(∀y,y∈P->¬vlt x y)->∃Q,A++P++x :: (S++B)=A++Q++B/\Sd Q/\Q.Perm (x :: Y):=fun h=>by
   refine⟨P++x :: S,by simp,?_,?_⟩
   ·refine Sd.app.2 ⟨y1,GU.2 ⟨fun b hb=>RE (hS b hb),y2⟩,fun a ha b hb=>?_⟩;rcases AI.1 hb with rfl|hb
    ·exact h a ha
    ·exact y3 a ha b hb
   ·rw[<-qw];exact List.perm_middle
  rcases List.eq_nil_or_concat P with rfl|⟨P',y,rfl⟩
  ·right;rw[Bz (show ¬(A.length:Int)<((A.length+([]:List Ac).length:Nat):Int) by simp)];simp only[AQ,Af,Cq,CZ,Bool.true_or];rw[G2,Be];exact⟨_,rfl,stop fun y hy=>by cases hy⟩
  ·rw[List.concat_eq_append]at *;have ej:((A.length+(P'++[y]).length:Nat):Int)-1=((A++P').length:Int):=by simp;omega
   have ejj:((A.length+(P'++[y]).length:Nat):Int)=((A++P'++[y]).length:Int):=by simp;(try omega)
   have el:A++(P'++[y])++x :: (S++B)=(A++P')++y :: x :: (S++B):=by simp
   have el2:A++(P'++[y])++x :: (S++B)=(A++P'++[y])++x :: (S++B):=by simp
   have a1:at? (A++(P'++[y])++x :: (S++B)) ((A.length+(P'++[y]).length:Nat):Int)=some x:=by rw[el2];exact B_ ejj
   have a2:at? (A++(P'++[y])++x :: (S++B)) (((A.length+(P'++[y]).length:Nat):Int)-1)=some y:=by rw[el];exact B_ ej
   rw[Cy (show(A.length:Int)<((A.length+(P'++[y]).length:Nat):Int) by simp;omega),a1,a2];simp only[AU,Af,Cj,Da,Bool.false_or];rw[AA (by simp at hl |-;omega),hc];simp only[Af];by_cases h:vlt x y
   ·left;rw[it_d (Pu.2 h),AA (by simp at hl |-;omega),AA (by simp at hl |-;omega)];have s1:List.set (A++(P'++[y])++x :: (S++B)) (Int.toNat ((A.length+(P'++[y]).length:Nat):Int)) y=(A++P')++y :: y :: (S++B):=by rw[el2,G_ ejj];(try simp)
    rw[s1,B_ ej,G_ ej];simp only[Af];rw[AA (by simp at hl |-;omega)];refine⟨_,rfl,⟨P',y :: S,?_,by rw[<-qw];simp,fun z hz=>?_⟩,by simp;omega⟩
    ·rw[ej];simp
    ·rcases AI.1 hz with rfl|hz;·exact h
     ·exact hS z hz
   ·right;rw[it_n (mt Pu.1 h)];refine⟨_,rfl,stop fun z hz=>?_⟩;rcases Cp.1 hz with hz|hz
    ·exact a_ ((Sd.app.1 y1).2.2 z hz y (by simp)) h
    ·cases BX.1 hz;exact h) ⟨Y,[],by simp,by simp,fun y hy=>by cases hy⟩ (by simp only;omega)
 exact⟨Q,e,h1,h2⟩
theorem kzf7{cmp:Ac->Ac->Option Int}(hc:CmpV cmp){A X B:List Ac}(hn:A.length+X.length<=1000000){a b:Int}(ha:a=(A.length:Int))(hb:b=(A.length+X.length:Nat)) : ∃Q,Ra (A++X++B) a b cmp=some (A++Q++B)/\Sd Q/\Q.Perm X:=by
 subst ha hb;unfold Ra;rw[AA];cases X with
 |nil =>
  rw[D_ (fun _=>((A.length:Int)+1,A++[]++B)) 0 (by decide) (fun k hk=>by omega) (o:=A++[]++B) ?_ rfl]
  ·exact⟨[],rfl,List.Pairwise.nil,.refl _⟩
  ·simp only[Py];rw[it_n (by simp;omega)]
 |cons x X =>
  obtain⟨o,e,Q,rfl,h1,h2⟩:=Dw (s:=((A.length:Int)+1,A++x :: X++B)) (body:=Py (A.length:Int) ((A.length+(x :: X).length:Nat):Int) cmp) (fun s=>∃Y Z,s=(((A.length+Y.length:Nat):Int),A++Y++(Z++B))/\Sd Y/\(Y++Z).Perm (x :: X)) (fun s=>(((A.length+(x :: X).length:Nat):Int)-s.1).toNat) (fun o=>∃Q,o=A++Q++B/\Sd Q/\Q.Perm (x :: X)) (by
   rintro s ⟨Y,Z,rfl,hY,hP⟩;have hl:=hP.length_eq;rw[BK]at hl;simp only[Py];cases Z with
   |nil =>right;rw[it_n (by simp at hl |-;omega)];rw[List.append_nil]at hP;exact⟨_,rfl,Y,rfl,hY,hP⟩
   |cons z Z =>
    left;simp only[Df]at hl hn |-;rw[it_d (by omega)];obtain⟨Q,q1,q2,q3⟩:=kzgc hc (A:=A) (Y:=Y) (B:=Z++B) (x:=z) hY (by omega);rw[Um,q1];simp only[Af];rw[AA];have hQ:=q3.length_eq;simp only[Df]at hQ;refine⟨_,rfl,⟨Q,Z,?_,q2,?_⟩,by simp only;omega⟩
    ·rw[hQ];congr 1;(try omega)
    ·refine List.Perm.trans ?_ hP;exact(q3.append_right Z).trans (List.perm_middle.symm)) ⟨[x],X,by simp,P6 _ _,.refl _⟩ (by simp only[Df]at hn |-;omega)
  exact⟨Q,by rw[e];rfl,h1,h2⟩
theorem bu{cmp:Ac->Ac->Option Int}{A U M V B:List Ac}(qK:U.length=V.length)(hn:A.length+U.length+M.length+V.length<=1000000){a b n:Int}(ha:a=(A.length:Int))(hb:b=(A.length+U.length+M.length:Nat))(gE:n=(U.length:Int)) :
  N3 (A++U++M++V++B) a b n cmp=some (A++V++M++U++B):=by
 subst ha hb gE;unfold N3
 obtain⟨o,e,ho⟩:=Dw (s:=((0:Int),A++U++M++V++B)) (body:=Uh (A.length:Int) ((A.length+U.length+M.length:Nat):Int) (U.length:Int)) (fun s=>∃U1 U2 V1 V2,s=((U1.length:Int),A++V1++U2++M++U1++V2++B)/\U1++U2=U/\V1++V2=V/\U1.length=V1.length) (fun s=>(U.length-s.1).toNat) (fun o=>o=A++V++M++U++B) (by
  rintro s ⟨U1,U2,V1,V2,rfl,hU,hV,h1⟩;have l1:U1.length+U2.length=U.length:=by rw[<-hU,BK]
  have l2:V1.length+V2.length=V.length:=by rw[<-hV,BK]
  simp only[Uh];cases U2 with
  |nil =>right;rw[it_n (by simp at l1 |-;omega)];have:V2=[]:=J7.1 (by simp at l1;omega);subst this;rw[List.append_nil]at hU hV;subst hU hV;exact⟨_,rfl,by simp⟩
  |cons u U2 =>
   cases V2 with
   |nil=>simp at l1 l2;omega
   |cons v V2 =>
    left;simp only[Df]at l1 l2;have e0:A++V1++u :: U2++M++U1++v :: V2++B=(A++V1)++u :: (U2++M++U1++v :: (V2++B)):=by simp
    have e1:A++V1++u :: U2++M++U1++v :: V2++B=(A++V1++u :: U2++M++U1)++v :: (V2++B):=(by simp);have i0:(A.length:Int)+(U1.length:Int)=((A++V1).length:Int):=(by simp;omega);have i1:((A.length+U.length+M.length:Nat):Int)+(U1.length:Int)=((A++V1++u :: U2++M++U1).length:Int):=(by simp;omega);have i2:((A.length+U.length+M.length:Nat):Int)+(U1.length:Int)=((A++V1++v :: U2++M++U1).length:Int):=(by simp;omega);have a0:at? (A++V1++u :: U2++M++U1++v :: V2++B) ((A.length:Int)+(U1.length:Int))=some u:=(by rw[e0];exact B_ i0);have a1:at? (A++V1++u :: U2++M++U1++v :: V2++B) (((A.length+U.length+M.length:Nat):Int)+(U1.length:Int))=some v:=(by rw[e1];exact B_ i1);rw[it_d (by omega),AA,AA,AA,a1];simp only[Af];rw[AA,a0];simp only[Af];have s0:List.set (A++V1++u :: U2++M++U1++v :: V2++B) (Int.toNat ((A.length:Int)+(U1.length:Int))) v=(A++V1++v :: U2++M++U1)++v :: (V2++B):=(by rw[e0,G_ i0];simp);rw[s0,B_ i2,G_ i2];simp only[Af];rw[AA];refine⟨_,rfl,⟨U1++[u],U2,V1++[v],V2,?_,by rw[<-hU];simp,by rw[<-hV];simp,by simp[h1]⟩,by simp only;omega⟩;simp) ⟨[],U,[],V,by simp,rfl,rfl,rfl⟩ (by simp only;omega)
 rw[e,ho];rfl
theorem kzge{cmp:Ac->Ac->Option Int}{A X Y B:List Ac}(hX:0<X.length)(hY:0<Y.length)(hn:A.length+X.length+Y.length<=1000000){a m b:Int}(ha:a=(A.length:Int))(hm:m=(A.length+X.length:Nat))(hb:b=(A.length+X.length+Y.length:Nat)) :
  Xc (A++X++Y++B) a m b cmp=some (A++Y++X++B):=by
 unfold Xc;rw[AA,AA]
 obtain⟨o,e,i,dat,rfl,h⟩:=Dw (s:=(m-a,b-m,A++X++Y++B)) (body:=Ui cmp m) (fun s=>∃A1 U V B1,s=((U.length:Int),(V.length:Int),A1++U++V++B1)/\(A1.length:Int)+U.length=m/\0<U.length/\0<V.length/\A1.length+U.length+V.length<=1000000/\A1++V++U++B1=A++Y++X++B) (fun s=>(s.1+s.2.1).toNat) (fun o=>∃i dat,o=(i,dat)/\∃A1 U V B1,i=(U.length:Int)/\dat=A1++U++V++B1/\U.length=V.length/\(A1.length:Int)+U.length=m/\A1.length+U.length+V.length<=1000000/\A1++V++U++B1=A++Y++X++B) (by
  rintro s ⟨A1,U,V,B1,rfl,h1,h2,h3,h4,h5⟩;simp only[Ui];by_cases qK:U.length=V.length
  ·right;rw[Bu (by omega)];exact⟨_,rfl,_,_,rfl,A1,U,V,B1,rfl,rfl,qK,h1,h4,h5⟩
  left;rw[BU (by omega)];by_cases hlt:V.length<U.length
  ·rw[it_d (by omega),AA];obtain⟨U1,U2,rfl,qL⟩:∃U1 U2,U=U1++U2/\U1.length=V.length:=⟨U.take V.length,U.drop V.length,(P7 _ _).symm,by simp;omega⟩;rw[BK]at *;have:=bu (cmp:=cmp) (A:=A1) (U:=U1) (M:=U2) (V:=V) (B:=B1) qL (by omega) (a:=m-((U1.length+U2.length:Nat):Int)) (b:=m) (n:=(V.length:Int)) (by omega) (by omega) (by omega);rw[show A1++(U1++U2)++V++B1=A1++U1++U2++V++B1 by simp,this];simp only[Af];rw[AA];refine⟨_,rfl,⟨A1++V,U2,U1,B1,?_,?_,by omega,by omega,?_,?_⟩,by simp only;omega⟩
   ·rw[qL];congr 1;omega
   ·rw[BK];omega
   ·rw[BK];omega
   ·rw[<-h5];simp
  ·rw[it_n (by omega),AA,AA,AA];obtain⟨V1,V2,rfl,qM⟩:∃V1 V2,V=V1++V2/\V2.length=U.length:=⟨V.take (V.length-U.length),V.drop (V.length-U.length),(P7 _ _).symm,by simp;omega⟩;rw[BK]at *;have:=bu (cmp:=cmp) (A:=A1) (U:=U) (M:=V1) (V:=V2) (B:=B1) qM.symm (by omega) (a:=m-(U.length:Int)) (b:=m+((V1.length+V2.length:Nat):Int)-(U.length:Int)) (n:=(U.length:Int)) (by omega) (by omega) (by omega);rw[show A1++U++(V1++V2)++B1=A1++U++V1++V2++B1 by simp,this];simp only[Af];rw[AA];refine⟨_,rfl,⟨A1,V2,V1,U++B1,?_,by omega,by omega,by omega,by omega,?_⟩,by simp only;omega⟩
   ·rw[qM];refine Prod.ext rfl (Prod.ext (by simp only;omega) ?_);simp
   ·rw[<-h5];simp) ⟨A,X,Y,B,by rw[ha,hm,hb];refine Prod.ext (by simp only;omega) (Prod.ext (by simp only;omega) rfl),by omega,hX,hY,hn,rfl⟩ (by simp only;omega)
 obtain⟨A1,U,V,B1,rfl,rfl,q1,q2,q3,q4⟩:=h;rw[e];simp only[Af];rw[AA];have:=bu (cmp:=cmp) (A:=A1) (U:=U) (M:=[]) (V:=V) (B:=B1) q1 (by simp;omega) (a:=m-(U.length:Int)) (b:=m) (n:=(U.length:Int)) (by omega) (by simp;omega) rfl;simp only[List.append_nil]at this;rw[this,q4];rfl
theorem bv{ω:Type}{body:Int×Int->Option ((Int×Int)⊕ω)}{r:Int->ω}{p:Nat->Bool}{lo hi:Nat}(cg:lo<=hi)(hs:∀i j:Nat,lo<=i->i<j->j<=hi->body ((i:Int),(j:Int))=some (.inl (bif p ((i+j) / 2) then((((i+j) / 2+1:Nat):Int),(j:Int)) else((i:Int),(((i+j) / 2:Nat):Int)))))(he:∀i:Nat,body ((i:Int),(i:Int))=some (.inr (r (i:Int)))) (hb:hi<=4000000):∃k:Nat,lp body ((lo:Int),(hi:Int))=some (r (k:Int))/\lo<=k/\k<=hi/\(lo<k->p (k-1)=true)/\(k<hi->p k=false):=by
 obtain⟨o,e,k,rfl,h⟩:=Dw (s:=((lo:Int),(hi:Int))) (body:=body) (fun s=>∃i j:Nat,s=((i:Int),(j:Int))/\lo<=i/\i<=j/\j<=hi/\(lo<i->p (i-1)=true)/\(j<hi->p j=false)) (fun s=>(s.2-s.1).toNat) (fun o=>∃k:Nat,o=r (k:Int)/\lo<=k/\k<=hi/\(lo<k->p (k-1)=true)/\(k<hi->p k=false)) (by
  rintro s ⟨i,j,rfl,h1,h2,h3,h4,h5⟩;by_cases h:i<j
  ·left;rw[hs i j h1 h h3];cases hp:p ((i+j) / 2)
   ·refine⟨_,rfl,⟨i,(i+j) / 2,rfl,h1,by omega,by omega,h4,fun _=>hp⟩,?_⟩;simp;omega
   ·refine⟨_,rfl,⟨(i+j) / 2+1,j,rfl,by omega,by omega,h3,fun _=>by simpa using hp,h5⟩,?_⟩;simp;omega
  ·right;obtain rfl:i=j:=by omega
   exact⟨_,he i,i,rfl,h1,h3,h4,h5⟩) ⟨lo,hi,rfl,AB _,cg,AB _,fun h=>by omega,fun h=>by omega⟩ (by simp only;omega)
 exact⟨k,e,h⟩
theorem R_{i j:Nat}(h:i+j<=8000000):Int.fdiv (((i:Int)+(j:Int))%18446744073709551616) 2=(((i+j) / 2:Nat):Int):=by rw[Int.emod_eq_of_lt (by omega) (by omega),P3 _ (by decide)];omega
theorem Ps{α:Type}(l:List α)(k:Nat)(h:k<=l.length):∃a b,l=a++b/\a.length=k:=⟨l.take k,l.drop k,(P7 _ _).symm,by simp;omega⟩
theorem S_{α:Type}{A X B:List α}{i:Int}{k:Nat}(hi:i=((A.length+k:Nat):Int))(hk:k<X.length):at? (A++X++B) i=some X[k]:=by refine at_e hi ?_;rw[List.append_assoc,GS (by omega),F0 (by omega)];rw[show A.length+k-A.length=k by omega];exact AD hk
theorem Sd.get{l:List Ac}(h:Sd l){i j:Nat}(hi:i<l.length)(hj:j<l.length)(mh:i<=j):¬vlt l[j] l[i]:=by
 by_cases e:i=j
 ·subst e;exact ZW
 ·exact U4.1 h i j hi hj (by omega)
theorem Km{P Q:List Ac}(hP:Sd P)(hQ:Sd Q)(h:∀u v,P.getLast?=some u->Q[0]?=some v->¬vlt v u):∀a,a∈P->∀b,b∈Q->¬vlt b a:=by
 intro a ha b hb;rcases List.eq_nil_or_concat P with rfl|⟨P',u,rfl⟩
 ·cases ha
 ·rw[List.concat_eq_append]at *;cases Q with
  |nil=>cases hb
  |cons v Q =>
   have h1:=h u v List.getLast?_concat rfl
   have h2:¬vlt u a:=by
    rcases Cp.1 ha with ha|ha
    ·exact(Sd.app.1 hP).2.2 a ha u (by simp)
    ·cases BX.1 ha;exact ZW
   have h3:¬vlt b v:=by
    rcases AI.1 hb with rfl|hb
    ·exact ZW
    ·exact(GU.1 hQ).1 b hb
   exact a_ (a_ h2 h1) h3
theorem kzft{X1 X2 Y1 Y2 P Q:List Ac}(hX:Sd (X1++X2))(hY:Sd (Y1++Y2))(h1:∀a,a∈X1->∀b,b∈Y2->¬vlt b a)(h2:∀a,a∈Y1->∀b,b∈X2->¬vlt b a)(hP:Sd P) (pP:P.Perm (X1++Y1)) (hQ:Sd Q) (pQ:Q.Perm (X2++Y2)):Sd (P++Q)/\(P++Q).Perm ((X1++X2)++(Y1++Y2)):=by
 refine⟨Sd.app.2 ⟨hP,hQ,fun a ha b hb=>?_⟩,?_⟩
 ·rcases Cp.1 (pP.mem_iff.1 ha) with ha|ha<;>rcases Cp.1 (pQ.mem_iff.1 hb) with hb|hb;·exact(Sd.app.1 hX).2.2 a ha b hb
  ·exact h1 a ha b hb
  ·exact h2 a ha b hb
  ·exact(Sd.app.1 hY).2.2 a ha b hb
 ·refine(pP.append pQ).trans ?_;rw[List.append_assoc,List.append_assoc];refine List.Perm.append_left X1 ?_;rw[<-List.append_assoc,<-List.append_assoc];exact List.Perm.append_right Y2 List.perm_append_comm
theorem kzgd{A Y1 R:List Ac}{x:Ac}(hn:A.length+Y1.length<=1000000):lp (K_ ((A.length+1+Y1.length:Nat):Int)) ((A.length:Int),A++x :: (Y1++R))=some (A++Y1++x :: R):=by
 obtain⟨o,e,ho⟩:=Dw (s:=((A.length:Int),A++x :: (Y1++R))) (body:=K_ ((A.length+1+Y1.length:Nat):Int)) (fun s=>∃P S,s=(((A.length+P.length:Nat):Int),A++P++x :: (S++R))/\P++S=Y1) (fun s=>(((A.length+1+Y1.length:Nat):Int)-s.1).toNat) (fun o=>o=A++Y1++x :: R) (by
  rintro s ⟨P,S,rfl,qw⟩;have hl:P.length+S.length=Y1.length:=by rw[<-qw,BK]
  simp only[K_];rw[AA];cases S with
  |nil =>right;rw[it_n (by simp at hl;omega)];rw[List.append_nil]at qw;subst qw;exact⟨_,rfl,by simp⟩
  |cons y S =>
   left;simp only[Df]at hl;have i0:((A.length+P.length:Nat):Int)=((A++P).length:Int):=by simp
   have i1:((A.length+P.length:Nat):Int)+1=((A++P++[x]).length:Int):=by simp;omega
   have i2:((A.length+P.length:Nat):Int)+1=((A++P++[y]).length:Int):=by simp;omega
   have e1:A++P++x :: (y :: S++R)=(A++P++[x])++y :: (S++R):=by simp
   have a0:at? (A++P++x :: (y :: S++R)) ((A.length+P.length:Nat):Int)=some x:=B_ i0;have a1:at? (A++P++x :: (y :: S++R)) (((A.length+P.length:Nat):Int)+1)=some y:=by rw[e1];exact B_ i1
   rw[it_d (by omega),AA,AA,a1,a0];simp only[Af];have s0:List.set (A++P++x :: (y :: S++R)) (Int.toNat ((A.length+P.length:Nat):Int)) y=(A++P++[y])++y :: (S++R):=by rw[G_ i0];simp
   rw[s0,B_ i2,G_ i2];simp only[Af];rw[AA];refine⟨_,rfl,⟨P++[y],S,?_,by rw[<-qw];simp⟩,by simp only;omega⟩;refine Prod.ext (by simp;omega) ?_;simp) ⟨[],Y1,by simp,rfl⟩ (by simp only;omega)
 rw[e,ho]
theorem kzgg{A X1 X2 R:List Ac}{y:Ac}(hn:A.length+X1.length+X2.length<=1000000):lp (M_ ((A.length+X1.length:Nat):Int)) (((A.length+X1.length+X2.length:Nat):Int),A++X1++X2++y :: R)=some (A++X1++y :: (X2++R)):=by
 obtain⟨o,e,ho⟩:=Dw (s:=(((A.length+X1.length+X2.length:Nat):Int),A++X1++X2++y :: R)) (body:=M_ ((A.length+X1.length:Nat):Int)) (fun s=>∃P S,s=(((A.length+X1.length+P.length:Nat):Int),A++X1++P++y :: (S++R))/\P++S=X2) (fun s=>s.1.toNat) (fun o=>o=A++X1++y :: (X2++R)) (by
  rintro s ⟨P,S,rfl,qw⟩;have hl:P.length+S.length=X2.length:=by rw[<-qw,BK]
  simp only[M_];rcases List.eq_nil_or_concat P with rfl|⟨P',x,rfl⟩
  ·right;rw[it_n (by simp)];rw[U3]at qw;subst qw;exact⟨_,rfl,by simp⟩
  ·left;rw[List.concat_eq_append]at *;have ej:((A.length+X1.length+(P'++[x]).length:Nat):Int)-1=((A++X1++P').length:Int):=by simp;omega
   have ejj:((A.length+X1.length+(P'++[x]).length:Nat):Int)=((A++X1++P'++[x]).length:Int):=by simp;omega
   have el:A++X1++(P'++[x])++y :: (S++R)=(A++X1++P')++x :: y :: (S++R):=by simp
   have el2:A++X1++(P'++[x])++y :: (S++R)=(A++X1++P'++[x])++y :: (S++R):=by simp
   have a1:at? (A++X1++(P'++[x])++y :: (S++R)) ((A.length+X1.length+(P'++[x]).length:Nat):Int)=some y:=by rw[el2];exact B_ ejj
   have a2:at? (A++X1++(P'++[x])++y :: (S++R)) (((A.length+X1.length+(P'++[x]).length:Nat):Int)-1)=some x:=by rw[el];exact B_ ej
   rw[it_d (by simp;omega),AA (by simp at hl |-;omega),AA (by simp at hl |-;omega),a2,a1];simp only[Af];have s1:List.set (A++X1++(P'++[x])++y :: (S++R)) (Int.toNat ((A.length+X1.length+(P'++[x]).length:Nat):Int)) x=(A++X1++P')++x :: x :: (S++R):=by rw[el2,G_ ejj];(try simp)
   rw[s1,B_ ej,G_ ej];simp only[Af];rw[AA (by simp at hl |-;omega)];refine⟨_,rfl,⟨P',x :: S,?_,by rw[<-qw];simp⟩,by simp;omega⟩;rw[ej];refine Prod.ext (by simp;omega) ?_;simp) ⟨X2,[],by simp,by simp⟩ (by simp only;omega)
 rw[e,ho]
theorem TX{α:Type}{l:List α}{u:α}(h:l.getLast?=some u):∃m,l=m++[u]:=List.getLast?_eq_some_iff.1 h
def ask2(f:Ac->Ac->Bool):Option Ac->Option Ac->Bool
 |some x,some y=>f x y
 |_,_=>false
theorem symX{cmp:Ac->Ac->Option Int}(hc:CmpV cmp){A Y B:List Ac}{x:Ac}(hY:Sd Y)(hn:A.length+1+Y.length<=1000000) : ∃k:Nat,∃Z,lp (K3 (A.length:Int) cmp (A++[x]++Y++B)) (((A.length+1:Nat):Int),((A.length+1+Y.length:Nat):Int))=some (k:Int)/\lp (K_ (k:Int)) ((A.length:Int),A++[x]++Y++B)=some (A++Z++B)/\Sd Z/\Z.Perm ([x]++Y):=by
 obtain⟨k,e,k1,k2,k3,k4⟩:=bv (body:=K3 (A.length:Int) cmp (A++[x]++Y++B)) (r:=fun i=>i) (p:=fun q=>ask2 (fun y z=>decide (vlt y z)) Y[q-(A.length+1)]? (some x)) (lo:=A.length+1) (hi:=A.length+1+Y.length) (by omega) (fun i j h1 h2 h3=>by
   simp only[K3];rw[it_d (by omega),AA,R_ (by omega),AA];have hq:(i+j) / 2-(A.length+1)<Y.length:=by omega
   have e1:at? (A++[x]++Y++B) (((i+j) / 2:Nat):Int)=some Y[(i+j) / 2-(A.length+1)]:=S_ (A:=A++[x]) (by simp;omega) hq;have e2:at? (A++[x]++Y++B) (A.length:Int)=some x:=by rw[show A++[x]++Y++B=A++x :: (Y++B) by simp];exact B_ rfl
   rw[e1,e2,AD hq];simp only[Af];rw[hc];simp only[Af,ask2];by_cases h:vlt Y[(i+j) / 2-(A.length+1)] x
   ·rw[it_d (Pu.2 h),AA,Cy h];simp
   ·rw[it_n (mt Pu.1 h),Bz h];simp) (fun i=>by simp only[K3];rw[it_n (by omega)]) (by omega)
 obtain⟨Y1,Y2,rfl,qF⟩:=Ps Y (k-(A.length+1)) (by omega);have hk:k=A.length+1+Y1.length:=by omega
 subst hk;rw[BK]at *;have hf:=kzgd (A:=A) (Y1:=Y1) (R:=Y2++B) (x:=x) (by omega);refine⟨_,Y1++([x]++Y2),e,?_,?_,?_⟩
 ·rw[show A++[x]++(Y1++Y2)++B=A++x :: (Y1++(Y2++B)) by simp,hf];simp
 ·obtain⟨y1,y2,y3⟩:=Sd.app.1 hY
  have kG:∀a,a∈Y1->∀b,b∈[x]->¬vlt b a:=Km y1 (P6 _ _) fun u v hu hv=>by
   cases hv;obtain⟨m,rfl⟩:=TX hu;have:=k3 (by simp);rw[show A.length+1+(m++[u]).length-1-(A.length+1)=m.length by simp]at this;have hm:(m++[u]++Y2)[m.length]?=some u:=by simp
   rw[hm]at this;exact RE (GY this)
  have kH:∀a,a∈[x]->∀b,b∈Y2->¬vlt b a:=Km (P6 _ _) y2 fun u v hu hv=>by
   cases hu;cases Y2 with
   |nil=>cases hv
   |cons w Y2 =>
    cases hv;have:=k4 (by simp);rw[show A.length+1+Y1.length-(A.length+1)=Y1.length by omega]at this;have hm:(Y1++v :: Y2)[Y1.length]?=some v:=by simp
    rw[hm]at this;exact of_decide_eq_false this
  refine Sd.app.2 ⟨y1,Sd.app.2 ⟨P6 _ _,y2,kH⟩,fun a ha b hb=>?_⟩;rcases Cp.1 hb with hb|hb
  ·exact kG a ha b hb
  ·exact y3 a ha b hb
 ·rw[<-List.append_assoc,<-List.append_assoc];exact List.Perm.append_right Y2 List.perm_append_comm
theorem symY{cmp:Ac->Ac->Option Int}(hc:CmpV cmp){A X B:List Ac}{y:Ac}(hX:Sd X)(hn:A.length+X.length+1<=1000000) : ∃k:Nat,∃Z,lp (L_ cmp (A++X++[y]++B) ((A.length+X.length:Nat):Int)) ((A.length:Int),((A.length+X.length:Nat):Int))=some (k:Int)/\lp (M_ (k:Int)) (((A.length+X.length:Nat):Int),A++X++[y]++B)=some (A++Z++B)/\Sd Z/\Z.Perm (X++[y]):=by
 obtain⟨k,e,k1,k2,k3,k4⟩:=bv (body:=L_ cmp (A++X++[y]++B) ((A.length+X.length:Nat):Int)) (r:=fun i=>i) (p:=fun q=>ask2 (fun y z=>!decide (vlt y z)) (some y) X[q-A.length]?) (lo:=A.length) (hi:=A.length+X.length) (by omega) (fun i j h1 h2 h3=>by
   simp only[L_];rw[it_d (by omega),AA,R_ (by omega),AA];have hq:(i+j) / 2-A.length<X.length:=by omega
   have e1:at? (A++X++[y]++B) (((i+j) / 2:Nat):Int)=some X[(i+j) / 2-A.length]:=by rw[List.append_assoc (A++X)];exact S_ (by omega) hq
   have e2:at? (A++X++[y]++B) ((A.length+X.length:Nat):Int)=some y:=by rw[show A++X++[y]++B=(A++X)++y :: B by simp];exact B_ (by simp)
   rw[e1,e2,AD hq];simp only[Af];rw[hc];simp only[Af,ask2];by_cases h:vlt y X[(i+j) / 2-A.length]
   ·rw[it_f (by simp[Pu,h]),Cy h];simp
   ·rw[it_t (by simp;exact Int.not_lt.1 (mt Pu.1 h)),AA,Bz h];simp) (fun i=>by simp only[L_];rw[it_n (by omega)]) (by omega)
 obtain⟨X1,X2,rfl,qN⟩:=Ps X (k-A.length) (by omega);have hk:k=A.length+X1.length:=by omega
 subst hk;rw[BK]at *;have hf:=kzgg (A:=A) (X1:=X1) (X2:=X2) (R:=B) (y:=y) (by omega);refine⟨_,X1++([y]++X2),e,?_,?_,?_⟩
 ·rw[show A++(X1++X2)++[y]++B=A++X1++X2++y :: B by simp,show((A.length+(X1.length+X2.length):Nat):Int)=((A.length+X1.length+X2.length:Nat):Int) by omega,hf];simp
 ·obtain⟨y1,y2,y3⟩:=Sd.app.1 hX
  have kG:∀a,a∈X1->∀b,b∈[y]->¬vlt b a:=Km y1 (P6 _ _) fun u v hu hv=>by
   cases hv;obtain⟨m,rfl⟩:=TX hu;have:=k3 (by simp);rw[show A.length+(m++[u]).length-1-A.length=m.length by simp]at this;have hm:(m++[u]++X2)[m.length]?=some u:=by simp
   rw[hm]at this;simpa [ask2] using this
  have kH:∀a,a∈[y]->∀b,b∈X2->¬vlt b a:=Km (P6 _ _) y2 fun u v hu hv=>by
   cases hu;cases X2 with
   |nil=>cases hv
   |cons w X2 =>
    cases hv;have:=k4 (by simp);rw[show A.length+X1.length-A.length=X1.length by omega]at this;have hm:(X1++v :: X2)[X1.length]?=some v:=by simp
    rw[hm]at this;exact RE (by simpa [ask2] using this)
  refine Sd.app.2 ⟨y1,Sd.app.2 ⟨P6 _ _,y2,kH⟩,fun a ha b hb=>?_⟩;rcases Cp.1 hb with hb|hb
  ·exact kG a ha b hb
  ·exact y3 a ha b hb
 ·rw[List.append_assoc];exact List.Perm.append_left X1 List.perm_append_comm
def p_(cmp:Ac->Ac->Option Int)(n:Nat):Prop:=∀(A X Y B:List Ac),0<X.length->0<Y.length->Sd X->Sd Y->X.length+Y.length<=n->A.length+X.length+Y.length<=1000000->∀a m b:Int,a=(A.length:Int)->m=((A.length+X.length:Nat):Int)->b=((A.length+X.length+Y.length:Nat):Int) -> ∃Z,N9 n (A++X++Y++B) a m b cmp=some (A++Z++B)/\Sd Z/\Z.Perm (X++Y)
theorem qo{cmp:Ac->Ac->Option Int}{n:Nat}(ih:p_ cmp n){A X Y B:List Ac}(sX:Sd X)(sY:Sd Y)(hn:X.length+Y.length<=n)(hl:A.length+X.length+Y.length<=1000000){a m b:Int}(ha:a=(A.length:Int))(hm:m=((A.length+X.length:Nat):Int))(hb:b=((A.length+X.length+Y.length:Nat):Int)) : ∃Z,(ite' (bif (decide (a<m)) then(decide (m<b)) else false) (bd (N9 n (A++X++Y++B) a m b cmp) fun r=>some r) (some (A++X++Y++B)):Option (List Ac))=some (A++Z++B)/\Sd Z/\Z.Perm (X++Y):=by
 by_cases hx:X.length=0
 ·obtain rfl:X=[]:=J7.1 hx;rw[it_f (by rw[Bz (by simp at hm;omega)];rfl)];exact⟨Y,by simp,sY,.refl _⟩
 by_cases hy:Y.length=0
 ·obtain rfl:Y=[]:=J7.1 hy;rw[it_f (by rw[Bz (p:=m<b) (by simp at hb;omega)];simp)];exact⟨X,by simp,sX,by simp⟩
 rw[it_t (by rw[Cy (by omega),Cy (by omega)];rfl)];obtain⟨P,p1,p2⟩:=ih A X Y B (by omega) (by omega) sX sY hn hl a m b ha hm hb;rw[p1];exact⟨P,rfl,p2⟩
theorem kzhl{cmp:Ac->Ac->Option Int}{A X1 X2 Y1 Y2 B:List Ac}{k m e:Int}(hl:A.length+X1.length+X2.length+Y1.length<=1000000)(hk:k=((A.length+X1.length:Nat):Int))(hm:m=((A.length+X1.length+X2.length:Nat):Int))(he:e=((A.length+X1.length+X2.length+Y1.length:Nat):Int)) : (ite' (bif (decide (k<m)) then(decide (m<e)) else false) (bd (Xc (A++(X1++X2)++(Y1++Y2)++B) k m e cmp) fun r4=>some r4) (some (A++(X1++X2)++(Y1++Y2)++B)):Option (List Ac))=some (A++X1++Y1++(X2++Y2++B)):=by
 by_cases hx:X2.length=0
 ·obtain rfl:X2=[]:=J7.1 hx;rw[it_f (by rw[Bz (by simp at hm;omega)];rfl)];simp
 by_cases hy:Y1.length=0
 ·obtain rfl:Y1=[]:=J7.1 hy;rw[it_f (by rw[Bz (p:=m<e) (by simp at he;omega)];simp)];simp
 rw[it_t (by rw[Cy (by omega),Cy (by omega)];rfl)];have:=kzge (cmp:=cmp) (A:=A++X1) (X:=X2) (Y:=Y1) (B:=Y2++B) (by omega) (by omega) (by simp;omega) (a:=k) (m:=m) (b:=e) (by simp;omega) (by simp;omega) (by simp;omega);rw[show A++(X1++X2)++(Y1++Y2)++B=A++X1++X2++Y1++(Y2++B) by simp,this];simp[Af]
theorem kzha{cmp:Ac->Ac->Option Int}(hc:CmpV cmp){A X Y B:List Ac}(sX:Sd X)(sY:Sd Y)(hl:A.length+X.length+Y.length<=1000000){a m b:Int}(ha:a=(A.length:Int))(hm:m=((A.length+X.length:Nat):Int))(hb:b=((A.length+X.length+Y.length:Nat):Int)){mid:Nat} (qB:mid=(A.length+(A.length+X.length+Y.length)) / 2) (qS:Int.fdiv ((a+b)%18446744073709551616) 2=(mid:Int)) (rD:2<=X.length) (qO:2<=Y.length) :
  ∃lo hi k:Nat,(ite' (decide ((mid:Int)<m)) (ck (As .i64 (((mid:Int)+m)-b))<|some ((((mid:Int)+m)-b),(mid:Int))) (some (a,m)):Option (Int×Int))=some ((lo:Int),(hi:Int)) /\
   lp (NK a b cmp (A++X++Y++B) m) ((lo:Int),(hi:Int))=some (k:Int)/\∃X1 X2 Y1 Y2,X=X1++X2/\Y=Y1++Y2/\k=A.length+X1.length/\mid=k+Y1.length/\(∀u,u∈X1->∀v,v∈Y2->¬vlt v u)/\∀u,u∈Y1->∀v,v∈X2->¬vlt v u:=by
 have search:∃lo hi:Nat,lo<=hi/\A.length<=lo/\hi<=A.length+X.length/\hi<=mid/\mid+A.length+X.length<=lo+(A.length+X.length+Y.length)/\(lo=A.length\/lo+(A.length+X.length+Y.length)=mid+(A.length+X.length))/\(hi=mid\/hi=A.length+X.length) /\ (ite' (decide ((mid:Int)<m)) (ck (As .i64 (((mid:Int)+m)-b))<|some ((((mid:Int)+m)-b),(mid:Int))) (some (a,m)):Option (Int×Int))=some ((lo:Int),(hi:Int)):=by
  by_cases h:mid<A.length+X.length
  ·refine⟨mid+(A.length+X.length)-(A.length+X.length+Y.length),mid,by omega,by omega,by omega,by omega,by omega,.inr (by omega),.inl rfl,?_⟩;rw[it_d (by omega),AA];congr 2;omega
  ·refine⟨A.length,A.length+X.length,by omega,by omega,by omega,by omega,by omega,.inl rfl,.inr rfl,?_⟩;rw[it_n (by omega),ha,hm]
 obtain⟨lo,hi,g1,g2,g3,g4,g5,g6,g7,hs⟩:=search;refine⟨lo,hi,?_⟩
 obtain⟨k,e,k1,k2,k3,k4⟩:=bv (body:=NK a b cmp (A++X++Y++B) m) (r:=fun i=>i) (p:=fun q=>ask2 (fun y z=>!decide (vlt y z)) Y[mid+(A.length+X.length)-1-q-(A.length+X.length)]? X[q-A.length]?) (lo:=lo) (hi:=hi) g1 (fun i j h1 h2 h3=>by
  simp only[NK];rw[it_d (by omega),AA,R_ (by omega),qS,AA,AA];have hq:(i+j) / 2-A.length<X.length:=by omega
  have gD:mid+(A.length+X.length)-1-(i+j) / 2-(A.length+X.length)<Y.length:=by omega
  have e1:at? (A++X++Y++B) (((i+j) / 2:Nat):Int)=some X[(i+j) / 2-A.length]:=by rw[List.append_assoc (A++X)];exact S_ (by omega) hq
  have e2:at? (A++X++Y++B) ((mid:Int)+m-1-(((i+j) / 2:Nat):Int))=some Y[mid+(A.length+X.length)-1-(i+j) / 2-(A.length+X.length)]:=S_ (A:=A++X) (by rw[BK];omega) gD;rw[e1,e2,AD hq,AD gD];simp only[Af];rw[hc];simp only[Af,ask2];by_cases h:vlt Y[mid+(A.length+X.length)-1-(i+j) / 2-(A.length+X.length)] X[(i+j) / 2-A.length]
  ·rw[it_f (by simp[Pu,h]),Cy h];simp
  ·rw[it_t (by simp;exact Int.not_lt.1 (mt Pu.1 h)),AA,Bz h];simp) (fun i=>by simp only[NK];rw[it_n (by omega)]) (by omega)
 refine⟨k,hs,e,?_⟩;obtain⟨X1,X2,rfl,qN⟩:=Ps X (k-A.length) (by omega);obtain⟨Y1,Y2,rfl,qF⟩:=Ps Y (mid-k) (by omega);simp only[BK]at *;obtain⟨x1,x2,x3⟩:=Sd.app.1 sX;obtain⟨y1,y2,y3⟩:=Sd.app.1 sY
 have c1:∀u,u∈X1->∀v,v∈Y2->¬vlt v u:=Km x1 y2 fun u v hu hv=>by
  obtain⟨M,rfl⟩:=TX hu;cases Y2 with
  |nil=>cases hv
  |cons w Y2 =>
   cases hv;simp only[BK,Df,List.length_nil]at *;have:=k3 (by omega);rw[show k-1-A.length=M.length by omega,show mid+(A.length+(M.length+1+X2.length))-1-(k-1)-(A.length+(M.length+1+X2.length))=Y1.length by omega]at this;have q1:(M++[u]++X2)[M.length]?=some u:=by simp
   have q2:(Y1++v :: Y2)[Y1.length]?=some v:=by simp
   rw[q1,q2]at this;simpa [ask2] using this
 have c2:∀u,u∈Y1->∀v,v∈X2->¬vlt v u:=Km y1 x2 fun u v hu hv=>by
  obtain⟨M,rfl⟩:=TX hu;cases X2 with
  |nil=>cases hv
  |cons w X2 =>
   cases hv;simp only[BK,Df,List.length_nil]at *;have:=k4 (by omega);rw[show k-A.length=X1.length by omega,show mid+(A.length+(X1.length+(X2.length+1)))-1-k-(A.length+(X1.length+(X2.length+1)))=M.length by omega]at this;have q1:(X1++v :: X2)[X1.length]?=some v:=by simp
   have q2:(M++[u]++Y2)[M.length]?=some u:=by simp
   rw[q1,q2]at this;exact RE (by simpa [ask2] using this)
 exact⟨X1,X2,Y1,Y2,rfl,rfl,by omega,by omega,c1,c2⟩
theorem bw{cmp:Ac->Ac->Option Int}(hc:CmpV cmp):∀(n:Nat),p_ cmp n
 |0,A,X,Y,B,hX,hY,_,_,hn,_,_,_,_,_,_,_=>by omega
 |n+1,A,X,Y,B,hX,hY,sX,sY,hn,hl,a,m,b,ha,hm,hb=>by
  simp only[N9];rw[AA];by_cases h1:X.length=1
  ·subst ha hm hb;obtain⟨x,rfl⟩:=List.length_eq_one_iff.1 h1;rw[it_d (by simp;omega)];obtain⟨k,Z,e1,e2,z1,z2⟩:=symX hc (A:=A) (B:=B) (x:=x) sY (by simpa using hl);simp only[Dh]at e1 |-;rw[e1];simp only[Af];rw[e2];exact⟨Z,rfl,z1,z2⟩
  rw[it_n (by omega),AA];by_cases h2:Y.length=1
  ·subst ha hm hb;obtain⟨y,rfl⟩:=List.length_eq_one_iff.1 h2;rw[it_d (by simp;omega)];obtain⟨k,Z,e1,e2,z1,z2⟩:=symY hc (A:=A) (B:=B) (y:=y) sX (by simpa using hl);rw[e1];simp only[Af];rw[e2];exact⟨Z,rfl,z1,z2⟩
  obtain⟨mid,qB⟩:∃mid,mid=(A.length+(A.length+X.length+Y.length)) / 2:=⟨_,rfl⟩;have qS:Int.fdiv ((a+b)%18446744073709551616) 2=(mid:Int):=by rw[ha,hb,R_ (by omega),<-qB]
  rw[it_n (by omega),AA,qS,AA,AA];obtain⟨lo,hi,k,hs,e,X1,X2,Y1,Y2,rfl,rfl,hk,dr,c1,c2⟩:=kzha hc (B:=B) sX sY hl ha hm hb qB qS (by omega) (by omega);rw[hs];simp only[Af];rw[AA,e];simp only[Af];rw[AA];simp only[BK]at *;obtain⟨x1,x2,x3⟩:=Sd.app.1 sX;obtain⟨y1,y2,y3⟩:=Sd.app.1 sY;rw[kzhl (by omega) (by omega) (by omega) (by omega)];simp only[Af];obtain⟨P,p1,p2,p3⟩:=qo (bw hc n) (A:=A) (B:=X2++Y2++B) x1 y1 (by omega) (by omega) ha (m:=(k:Int)) (b:=(mid:Int)) (by omega) (by omega);have pl:=p3.length_eq;rw[BK]at pl;rw[p1];simp only[Af];obtain⟨Q,q1,q2,q3⟩:=qo (bw hc n) (A:=A++P) (B:=B) x2 y2 (by omega) (by rw[BK];omega) (a:=(mid:Int)) (m:=(mid:Int)+m-(k:Int)) (b:=b) (by rw[BK];omega) (by rw[BK];omega) (by rw[BK];omega);rw[show A++P++(X2++Y2++B)=A++P++X2++Y2++B by simp,q1,show A++P++Q++B=A++(P++Q)++B by simp];obtain⟨r1,r2⟩:=kzft sX sY c1 c2 p2 p3 q2 q3;exact⟨P++Q,rfl,r1,r2⟩
theorem kzf9{cmp:Ac->Ac->Option Int}(hc:CmpV cmp){X Y:List Ac}(hX:X.length=20)(hY:0<Y.length)(qO:Y.length<=20)(sX:Sd X)(sY:Sd Y):∃Z,Xf (X++Y) 0 20 ((20+Y.length:Nat):Int) cmp=some Z/\Sd Z/\Z.Perm (X++Y):=by obtain⟨Z,e,z⟩:=bw hc 64 [] X Y [] (by omega) hY sX sY (by omega) (by simp;omega) 0 20 ((20+Y.length:Nat):Int) rfl (by simp;omega) (by simp;omega);refine⟨Z,?_,z⟩;unfold Xf;simpa using e
theorem TY{cmp:Ac->Ac->Option Int}(hc:CmpV cmp){A X:List Ac}(hn:A.length+X.length<=1000){a b:Int}(ha:a=(A.length:Int))(hb:b=((A.length+X.length:Nat):Int))(B:List Ac):∃Q,Ra (A++X++B) a b cmp=some (A++Q++B)/\Sd Q/\Q.Perm X:=kzf7 hc (by omega) ha hb
theorem kzf5{cmp:Ac->Ac->Option Int}(hc:CmpV cmp){X Y:List Ac}(hX:X.length=20)(hY:0<Y.length)(qO:Y.length<=20)(sX:Sd X)(sY:Sd Y):∃Z,lp (I_ cmp ((20+Y.length:Nat):Int)) (20,X++Y)=some Z/\Sd Z/\Z.Perm (X++Y):=by
 obtain⟨Z,e,z1,z2⟩:=kzf9 hc hX hY qO sX sY;refine⟨Z,?_,z1,z2⟩;refine D_ (fun k=>if k=0 then((20:Int),X++Y) else(40,Z)) 1 (by decide) (fun k hk=>?_) ?_ rfl
 ·obtain rfl:k=0:=by omega
  simp only[Bw,I_];rw[it_d (by omega),AA];by_cases h:Y.length=20
  ·have e2:lp (H_ 20 cmp ((20+Y.length:Nat):Int)) (0,2*20,X++Y)=some (40,Z):=by
    refine D_ (fun k=>if k=0 then((0:Int),(2:Int)*20,X++Y) else(40,80,Z)) 1 (by decide) (fun k hk=>?_) ?_ rfl
    ·obtain rfl:k=0:=by omega
     simp only[Bw,H_];rw[it_d (by omega),AA];have:Xf (X++Y) 0 (0+20) (2*20) cmp=some Z:=by rw[show((20+Y.length:Nat):Int)=2*20 by omega]at e;exact e
     rw[this];simp only[Af];rw[AA,AA];rfl
    ·simp only[H_];simp only[Nat.one_ne_zero,Cz];rw[it_n (by omega)]
   rw[e2];simp only[Af];rw[AA,it_n (by omega),AA];rfl
  ·have e2:lp (H_ 20 cmp ((20+Y.length:Nat):Int)) (0,2*20,X++Y)=some (0,X++Y):=by
    refine D_ (fun k=>((0:Int),(2:Int)*20,X++Y)) 0 (by decide) (fun k hk=>by omega) ?_ rfl;simp only[H_];rw[it_n (by omega)]
   rw[e2];simp only[Af];rw[AA,it_d (by omega)];have:Xf (X++Y) 0 (0+20) ((20+Y.length:Nat):Int) cmp=some Z:=e;rw[this];simp only[Af];rw[AA];rfl
 ·simp only[Nat.one_ne_zero,Cz,I_];rw[it_n (by omega)]
theorem kzfz{cmp:Ac->Ac->Option Int}(hc:CmpV cmp){l:List Ac}(hl:l.length<=40):∃Q,Xh l cmp=some Q/\Sd Q/\Q.Perm l:=by
 unfold Xh Xg;have done:∀Q,l.length<=20->lp (I_ cmp (l.length:Int)) (20,Q)=some Q:=fun Q h=>by refine D_ (fun k=>((20:Int),Q)) 0 (by decide) (fun k hk=>by omega) ?_ rfl;simp only[I_];rw[it_n (by omega)]
 by_cases h1:l.length<20
 ·have e0:lp (C_ cmp (l.length:Int)) (0,20,l)=some (0,l):=by
   refine D_ (fun k=>((0:Int),(20:Int),l)) 0 (by decide) (fun k hk=>by omega) ?_ rfl;simp only[C_];rw[it_n (by omega)]
  obtain⟨Q,q1,q2,q3⟩:=TY hc (A:=[]) (X:=l) (a:=0) (b:=(l.length:Int)) (by simp;omega) rfl (by simp) [];simp only[U3,List.append_nil]at q1;rw[e0];simp only[Af];rw[q1];simp only[Af];rw[done Q (by omega)];exact⟨Q,rfl,q2,q3⟩
 obtain⟨X,Y,rfl,hX⟩:=Ps l 20 (by omega);rw[BK]at *;obtain⟨X',x1,x2,x3⟩:=TY hc (A:=[]) (X:=X) (a:=0) (b:=20) (by simp;omega) rfl (by simp;omega) Y;simp only[U3]at x1;have lX:=x3.length_eq;obtain⟨Y',y1,y2,y3⟩:=TY hc (A:=X') (X:=Y) (a:=20) (b:=((X.length+Y.length:Nat):Int)) (by omega) (by omega) (by omega) [];simp only[List.append_nil]at y1;have lY:=y3.length_eq;have pr:(X'++Y').Perm (X++Y):=x3.append y3;by_cases h2:Y.length=0
 ·obtain rfl:Y=[]:=J7.1 h2
  have e0:lp (C_ cmp ((X.length+([]:List Ac).length:Nat):Int)) (0,20,X++[])=some (20,X'++[]):=by
   refine D_ (fun k=>if k=0 then((0:Int),(20:Int),X++[]) else(20,40,X'++[])) 1 (by decide) (fun k hk=>?_) ?_ rfl
   ·obtain rfl:k=0:=by omega
    simp only[Bw,C_];rw[it_d (by simp;omega),x1];simp only[Af];rw[AA];rfl
   ·simp only[Nat.one_ne_zero,Cz,C_];rw[it_n (by simp;omega)]
  rw[e0];simp only[Af];rw[y1];simp only[Af];rw[done _ (by simp;omega)];obtain rfl:Y'=[]:=J7.1 (by omega);exact⟨X'++[],rfl,by simpa using x2,pr⟩
 obtain⟨Z,z1,z2,z3⟩:=kzf5 hc (X:=X') (Y:=Y') (by omega) (by omega) (by omega) x2 y2;have ez:((20+Y'.length:Nat):Int)=((X.length+Y.length:Nat):Int):=by omega
 rw[ez]at z1;by_cases h3:Y.length=20
 ·have e0:lp (C_ cmp ((X.length+Y.length:Nat):Int)) (0,20,X++Y)=some (40,X'++Y'):=by
   refine D_ (fun k=>if k=0 then((0:Int),(20:Int),X++Y) else if k=1 then(20,40,X'++Y) else(40,60,X'++Y')) 2 (by decide) (fun k hk=>?_) ?_ rfl
   ·have:k=0\/k=1:=(by omega);rcases this with rfl|rfl
    ·simp only[Bw,C_];rw[it_d (by omega),x1];simp only[Af];rw[AA];rfl
    ·simp only[Nat.one_ne_zero,Cz,Bw,C_];rw[it_d (by omega),show(40:Int)=((X.length+Y.length:Nat):Int) by omega,y1];simp only[Af];rw[AA];simp only[Nat.reduceAdd,Nat.reduceEqDiff,Cz];rw[show((X.length+Y.length:Nat):Int)=40 by omega];rfl
   ·simp only[Nat.reduceEqDiff,Cz,C_];rw[it_n (by omega)]
  obtain⟨W,w1,w2,w3⟩:=TY hc (A:=X'++Y') (X:=[]) (a:=40) (b:=((X.length+Y.length:Nat):Int)) (by simp;omega) (by simp;omega) (by simp;omega) [];obtain rfl:W=[]:=List.perm_nil.1 w3;simp only[List.append_nil]at w1;rw[e0];simp only[Af];rw[w1];simp only[Af];rw[z1];exact⟨Z,rfl,z2,z3.trans pr⟩
 ·have e0:lp (C_ cmp ((X.length+Y.length:Nat):Int)) (0,20,X++Y)=some (20,X'++Y):=by
   refine D_ (fun k=>if k=0 then((0:Int),(20:Int),X++Y) else(20,40,X'++Y)) 1 (by decide) (fun k hk=>?_) ?_ rfl
   ·obtain rfl:k=0:=by omega
    simp only[Bw,C_];rw[it_d (by omega),x1];simp only[Af];rw[AA];rfl
   ·simp only[Nat.one_ne_zero,Cz,C_];rw[it_n (by omega)]
  rw[e0];simp only[Af];rw[y1];simp only[Af];rw[z1];exact⟨Z,rfl,z2,z3.trans pr⟩
theorem kzgf:CmpV (fun a0 a1=>Xe a0 a1):=fun x y=>by show bd (DT x y) (fun r1=>some r1)=_;rw[Ua];rfl
structure kzgh(a b m:List Ac):Prop where
 asc:m.Pairwise vlt
 mem:∀y,y∈m↔y∈a\/y∈b
def Cfl(a b:List Ac):Prop:=∃x,x∈a/\∃y,y∈b/\vsm x y/\x≠y
def VMrg(F:List Ac×Int)(a b:List Ac):Prop := (vchE a≠0/\F=([],vchE a))\/(vchE a=0/\vchE b≠0/\F=([],vchE b))\/(vchE a=0/\vchE b=0 /\ ((Cfl a b/\F=([],24))\/(¬Cfl a b/\∃m,kzgh a b m/\F=if 400<m.length then([],2) else(m,0))))
theorem VMrg.uniq{F G:List Ac×Int}{a b:List Ac}(hF:VMrg F a b)(hG:VMrg G a b):F=G:=by
 rcases hF with ⟨p,e⟩|⟨p,q,e⟩|⟨p,q,r⟩<;>rcases hG with ⟨p',e'⟩|⟨p',q',e'⟩|⟨p',q',r'⟩ <;>
  first|exact absurd p p'|exact absurd p' p|exact absurd q q'|exact absurd q' q|(rw[e,e'];done)|skip
 rcases r with ⟨c,e⟩|⟨c,m,hm,e⟩<;>rcases r' with ⟨c',e'⟩|⟨c',m',ce,e'⟩
 ·rw[e,e']
 ·exact absurd c c'
 ·exact absurd c' c
 ·rw[e,e',Ug hm.asc ce.asc fun z=>(hm.mem z).trans (ce.mem z).symm]
theorem bz{Q:List Ac}(hQ:Sd Q)(h:∀i,(hi:i+1<Q.length)->vsm Q[i] Q[i+1]->Q[i]=Q[i+1]):∀(d i:Nat) (hi:i+d<Q.length),vsm Q[i] Q[i+d]->Q[i]=Q[i+d]
 |0,i,hi,e=>rfl
 |d+1,i,hi,e=>by
  have a1:=hQ.get (i:=i) (j:=i+1) (by omega) (by omega) (by omega);have a2:=hQ.get (i:=i+1) (j:=i+(d+1)) (by omega) hi (by omega);have e1:vsm Q[i] Q[i+1]:=by unfold vsm vlt at *;omega
  have e2:=h i (by omega) e1
  have e3:vsm Q[i+1] Q[i+1+d]:=by
   have:i+1+d=i+(d+1):=by omega
   simp only[this];exact(e1.symm).trans e
  have e4:=bz hQ h d (i+1) (by omega) e3;rw[e2,e4];congr 1;omega
theorem kzf2{Q:List Ac}(hQ:Sd Q)(h:∀i,(hi:i+1<Q.length)->vsm Q[i] Q[i+1]->Q[i]=Q[i+1]):∀x,x∈Q->∀y,y∈Q->vsm x y->x=y:=by
 intro x hx y hy e;obtain⟨i,hi,rfl⟩:=J6 hx;obtain⟨j,hj,rfl⟩:=J6 hy;by_cases mh:i<=j
 ·have hd:i+(j-i)=j:=by omega
  have:=bz hQ h (j-i) i (by omega) (by simp only[hd];exact e);simpa only[hd] using this
 ·have hd:j+(i-j)=i:=by omega
  have:=bz hQ h (i-j) j (by omega) (by simp only[hd];exact e.symm);exact(by simpa only[hd] using this:Q[j]=Q[i]).symm
theorem qp:∀(l:List Ac) (a:Ac),Sd (a :: l)->(∀x,x∈a :: l->∀y,y∈a :: l->vsm x y->x=y)->(∀x,x∈a :: l->x.Curve.Points.length<=1048576)->∃r,cpA (fun a0 a1=>IA a0 a1) a l=some r/\(a :: r).Pairwise vlt/\∀x,x∈a :: r↔x∈a :: l
 |[],a,_,_,_=>⟨[],rfl,P6 _ _,fun x=>Iff.rfl⟩
 |b :: l,a,hs,hk,hz=>by
  obtain⟨s1,s2⟩:=GU.1 hs;obtain⟨r,e,r1,r2⟩:=qp l b s2 (fun x hx y hy=>hk x (by simp[AI.1 hx]) y (by simp[AI.1 hy])) fun x hx=>hz x (by simp[AI.1 hx]);have hv:=ZV (v:=b) (w:=a) (hz b (by simp));have he:∀r',(bd (IA b a) fun q=>bd (cpA (fun a0 a1=>IA a0 a1) b l) fun r=>some (bif q then r else b :: r))=some r'->cpA (fun a0 a1=>IA a0 a1) a (b :: l)=some r':=fun r' h=>h;by_cases gH:b=a
  ·subst gH;refine⟨r,he r ?_,r1,fun x=>?_⟩
   ·rw[hv,e];simp[Af]
   ·rw[r2];simp
  ·have hlt:vlt a b:=by
    rcases Pv a b with h|h|h
    ·exact h
    ·exact absurd (hk a (by simp) b (by simp) h).symm gH
    ·exact absurd h (s1 b (by simp))
   refine⟨b :: r,he _ ?_,GU.2 ⟨fun x hx=>?_,r1⟩,fun x=>?_⟩
   ·rw[hv,e];simp[Af,gH]
   ·rcases AI.1 hx with rfl|h;·exact hlt
    ·exact Jx hlt ((GU.1 r1).1 x h)
   ·rw[AI,r2,AI (l:=b :: l)]
theorem kzf8{l:List Ac}(hs:Sd l)(hk:∀x,x∈l->∀y,y∈l->vsm x y->x=y)(hz:∀x,x∈l->x.Curve.Points.length<=1048576)(hn:l.length<=1000000):∃m,WD l (fun a0 a1=>IA a0 a1)=some m/\m.Pairwise vlt/\∀x,x∈m↔x∈l:=by
 unfold WD;rw[ck_d (by omega)];cases l with
 |nil=>exact⟨[],rfl,List.Pairwise.nil,fun x=>Iff.rfl⟩
 |cons a l =>obtain⟨r,e,r1,r2⟩:=qp l a hs hk hz;refine⟨a :: r,?_,r1,r2⟩;show bd (cpA (fun a0 a1=>IA a0 a1) a l) (fun r=>some (a :: r))=_;rw[e];rfl
theorem VBk.key{a:List Ac}(h:VBk a){x y:Ac}(hx:x∈a)(hy:y∈a)(e:vsm x y):x=y:=vone h.asc hx hy e
theorem qq{a b:List Ac}(ha:VBk a)(hb:VBk b)(h:¬Cfl a b):∀x,(x∈a\/x∈b)->∀y,(y∈a\/y∈b)->vsm x y->x=y:=by
 intro x hx y hy e;rcases hx with hx|hx<;>rcases hy with hy|hy
 ·exact ha.key hx hy e
 ·by_cases h2:x=y;·exact h2
  ·exact absurd ⟨x,hx,y,hy,e,h2⟩ h
 ·by_cases h2:x=y;·exact h2
  ·exact absurd ⟨y,hy,x,hx,e.symm,fun q=>h2 q.symm⟩ h
 ·exact hb.key hx hy e
theorem kzga{Q:List Ac}(hz:∀x,x∈Q->x.Curve.Points.length<=1048576)(hn:Q.length<=1000000) : (lp (NL Q) 1=some (.inl ())/\∀i,(hi:i+1<Q.length)->vsm Q[i] Q[i+1]->Q[i]=Q[i+1])\/(lp (NL Q) 1=some (.inr ([],24))/\∃i,∃hi:i+1<Q.length,vsm Q[i] Q[i+1]/\Q[i]≠Q[i+1]):=by
 obtain⟨o,e,ho⟩:=Dw (s:=(1:Int)) (body:=NL Q) (fun s=>∃k:Nat,s=(k:Int)+1/\∀i,(hi:i+1<Q.length)->i<k->vsm Q[i] Q[i+1]->Q[i]=Q[i+1]) (fun s=>(Q.length-s).toNat) (fun o=>(o=.inl ()/\∀i,(hi:i+1<Q.length)->vsm Q[i] Q[i+1]->Q[i]=Q[i+1])\/(o=.inr ([],24)/\∃i,∃hi:i+1<Q.length,vsm Q[i] Q[i+1]/\Q[i]≠Q[i+1])) (by
  rintro s ⟨k,rfl,hI⟩;simp only[NL];by_cases hlt:k+1<Q.length;rotate_left
  ·right;rw[it_n (by omega)];exact⟨_,rfl,.inl ⟨rfl,fun i hi=>hI i hi (by omega)⟩⟩
  have a1:at? Q ((k:Int)+1)=some Q[k+1]:=at_e (n:=k+1) (by omega) (AD hlt);have a2:at? Q ((k:Int)+1-1)=some Q[k]:=at_e (n:=k) (by omega) (AD (by omega));have me:=hz Q[k] (GT (by omega));rw[it_d (by omega),AA,a1,a2];simp only[Af];rw[Ua];simp only[Af];rw[ck_t (by simp[As];omega)];by_cases hv:vsm Q[k] Q[k+1]
  ·rw[Cy (ZY.2 hv)];simp only[AU,Af,Cj];rw[ZV me];simp only[Af];by_cases he:Q[k]=Q[k+1]
   ·left;rw[Bu he,AA];refine⟨_,rfl,⟨k+1,by simp,fun i hi iM hs=>?_⟩,by omega⟩;by_cases e:i=k
    ·subst e;exact he
    ·exact hI i hi (by omega) hs
   ·right;rw[BU he];exact⟨_,rfl,.inr ⟨rfl,k,hlt,hv,he⟩⟩
  ·left;rw[Bz (mt ZY.1 hv)];simp only[AQ,Af,Cq];rw[Be,AA];refine⟨_,rfl,⟨k+1,by simp,fun i hi iM hs=>?_⟩,by omega⟩;by_cases e:i=k
   ·subst e;exact absurd hs hv
   ·exact hI i hi (by omega) hs) ⟨0,rfl,fun i hi h=>by omega⟩ (by omega)
 rcases ho with ⟨rfl,h⟩|⟨rfl,h⟩
 ·exact .inl ⟨e,h⟩
 ·exact .inr ⟨e,h⟩
theorem kzg5{a b:List Ac}(ha:VsSz a)(hb:VsSz b)(hn:vchE a=0->vchE b=0->∃Q,Xh (a++b) (fun a0 a1=>Xe a0 a1)=some Q/\Sd Q/\Q.Perm (a++b)):∃F,Xl a b=some F/\VMrg F a b:=by
 unfold Xl;by_cases gl:vchE a=0;rotate_left
 ·have e:lp (E_ a b) 0=some (.inr ([],vchE a)):=by
   refine D_ (fun k=>(0:Int)) 0 (by decide) (fun k hk=>by omega) ?_ rfl;simp only[E_];rw[it_d (by simp),at_e (j:=0) (n:=0) (x:=a) rfl rfl];simp only[Af];rw[GL ha];simp only[Af];rw[BU gl]
  rw[e];exact⟨_,rfl,.inl ⟨gl,rfl⟩⟩
 by_cases fu:vchE b=0;rotate_left
 ·have e:lp (E_ a b) 0=some (.inr ([],vchE b)):=by
   refine D_ (fun k=>(k:Int)) 1 (by decide) (fun k hk=>?_) ?_ rfl
   ·obtain rfl:k=0:=by omega
    simp only[E_];rw[it_d (by simp),at_e (n:=0) (x:=a) rfl rfl];simp only[Af];rw[GL ha];simp only[Af];rw[Bu gl,AA];rfl
   ·simp only[E_];rw[it_d (by simp),at_e (n:=1) (x:=b) rfl rfl];simp only[Af];rw[GL hb];simp only[Af];rw[BU fu]
  rw[e];exact⟨_,rfl,.inr (.inl ⟨gl,fu,rfl⟩)⟩
 have e:lp (E_ a b) 0=some (.inl ()):=by
  refine D_ (fun k=>(k:Int)) 2 (by decide) (fun k hk=>?_) ?_ rfl
  ·have:k=0\/k=1:=by omega
   rcases this with rfl|rfl
   ·simp only[E_];rw[it_d (by simp),at_e (n:=0) (x:=a) rfl rfl];simp only[Af];rw[GL ha];simp only[Af];rw[Bu gl,AA];rfl
   ·simp only[E_];rw[it_d (by simp),at_e (n:=1) (x:=b) rfl rfl];simp only[Af];rw[GL hb];simp only[Af];rw[Bu fu,AA];rfl
  ·simp only[E_];rw[it_n (by simp)]
 rw[e];simp only[Af];obtain⟨na,va⟩:=Fx.1 gl;obtain⟨nb,vb⟩:=Fx.1 fu;have ec:Wy [a,b]=some (a++b):=by unfold Wy;rw[ck_t (by simp;omega)];simp
 rw[ec];simp only[Af];obtain⟨Q,q1,q2,q3⟩:=hn gl fu;rw[q1];simp only[Af];have hm:∀x,x∈Q↔x∈a\/x∈b:=fun x=>by rw[q3.mem_iff,Cp]
 have hz:∀x,x∈Q->x.Curve.Points.length<=1048576:=fun x hx=>((hm x).1 hx).elim (fun h=>(ha x h).len) fun h=>(hb x h).len;have hl:=q3.length_eq;rw[BK]at hl;rcases kzga hz (by omega) with ⟨l1,l2⟩|⟨l1,i,hi,l2,l3⟩
 ·have key:=kzf2 q2 l2;obtain⟨m,m1,m2,m3⟩:=kzf8 q2 key hz (by omega);rw[l1];simp only[Af];rw[m1];simp only[Af];have iN:¬Cfl a b:=fun⟨x,hx,y,hy,h1,h2⟩=>h2 (key x ((hm x).2 (.inl hx)) y ((hm y).2 (.inr hy)) h1);by_cases h4:400<m.length
  ·rw[it_d (by omega)];exact⟨_,rfl,.inr (.inr ⟨gl,fu,.inr ⟨iN,m,⟨m2,fun y=>(m3 y).trans (hm y)⟩,by rw[Ap h4]⟩⟩)⟩
  ·rw[it_n (by omega)];exact⟨_,rfl,.inr (.inr ⟨gl,fu,.inr ⟨iN,m,⟨m2,fun y=>(m3 y).trans (hm y)⟩,by rw[Aj h4]⟩⟩)⟩
 ·rw[l1];refine⟨_,rfl,.inr (.inr ⟨gl,fu,.inl ⟨?_,rfl⟩⟩)⟩;by_cases h:Cfl a b
  ·exact h
  ·exact absurd (qq va vb h _ ((hm _).1 (GT _)) _ ((hm _).1 (GT _)) l2) l3
theorem jzmc{a b:List Ac}(ha:VsSz a)(hb:VsSz b)(hn:vchE a=0->vchE b=0->a.length+b.length<=40):∃F,Xl a b=some F/\VMrg F a b:=kzg5 ha hb fun h1 h2=>kzfz kzgf (by have:=hn h1 h2;rw[BK];omega)
theorem kzfx{l:List Ac}{v:Ac}(hl:l.length<=100000)(ha:l.Pairwise vlt)(hv:v∈l):Rh l v=some l:=by
 unfold Rh
 obtain⟨o,e,ho⟩:=Dw (s:=(false,(0:Int),([]:List Ac))) (body:=Rg l v) (fun s=>∃k:Nat,∃d,s=(d,(k:Int),l.take k)/\k<=l.length/\(d=true↔v∈l.take k)) (fun s=>(l.length-s.2.1).toNat) (fun o=>o=(true,l)) (by
  rintro s ⟨k,d,rfl,hk,hd⟩;simp only[Rg];by_cases hlt:k<l.length;rotate_left
  ·right;rw[it_n];rw[Ia (by omega)]at hd |-;obtain rfl:=hd.2 hv;exact⟨_,rfl,rfl⟩
  left;have hx:=AD hlt;have eB:l.take (k+1)=l.take k++[l[k]]:=Fw hx;have cg:∀x,x∈l.take k->vlt x l[k]:=fun x hx=>by obtain⟨i,hi,rfl⟩:=J6 hx;rw[Eg]at hi;rw[List.getElem_take];exact vget ha (by omega) hlt (by omega)
  have aP:vlt v l[k]->v∈l.take k:=fun h=>by
   obtain⟨i,hi,rfl⟩:=J6 hv;by_cases iM:i<k
   ·exact List.mem_iff_getElem.2 ⟨i,by rw[Eg];omega,by rw[List.getElem_take]⟩
   ·by_cases e:i=k;·subst e;exact absurd h ZW
    ·exact absurd h (Q_ (vget ha hlt hi (by omega)))
  have heq:vsm l[k] v->l[k]=v:=fun h=>vone ha (GT hlt) hv h;have aD:(l.take k).length=k:=by rw[Eg];omega
  generalize l[k]=y at *;rw[it_d,at_e rfl hx];simp only[Af];rw[Ub,Ub];simp only[Af];rcases Pv y v with h|h|h
  ·have iT:d=false:=by
    cases d
    ·rfl
    ·exact absurd (cg v (hd.1 rfl)) (Q_ h)
   subst iT;rw[it_f (by simp[h])];simp only[Af];rw[it_t (by simp[h]),ck_d (by simp;omega),AA];refine⟨_,rfl,⟨k+1,false,by rw[eB];rfl,hlt,?_⟩,by simp only;omega⟩;rw[eB,Cp,BX];constructor
   ·intro e;cases e
   ·rintro(e|e);·exact hd.2 e
    ·subst e;exact absurd h ZW
  ·obtain rfl:=heq h
   have iT:d=false:=by
    cases d
    ·rfl
    ·exact absurd (cg y (hd.1 rfl)) ZW
   subst iT;rw[it_t (by simp[ZW]),ck_d (by simp;omega)];simp only[Af];rw[it_f (by simp[ZW]),AA];refine⟨_,rfl,⟨k+1,true,by rw[eB];rfl,hlt,?_⟩,by simp only;omega⟩;rw[eB];simp
  ·have fc:d=true:=hd.2 (aP h);subst fc;rw[it_f (by simp)];simp only[Af];rw[it_t (by simp[h]),ck_d (by simp;omega),AA];refine⟨_,rfl,⟨k+1,true,by rw[eB];rfl,hlt,?_⟩,by simp only;omega⟩;rw[eB,Cp];exact⟨fun _=>.inl (hd.1 rfl),fun _=>rfl⟩) ⟨0,false,rfl,Ej _,by simp⟩ (by simp only;omega)
 rw[e,ho];simp only[Af];rw[it_f (by rfl)]
theorem kzf4{l:List Ac}{v:Ac}(hl:l.length<=100000)(ha:l.Pairwise vlt)(hn:∀x,x∈l->vsm x v->x=v):∃m,Rh l v=some m/\m.Pairwise vlt/\(∀y,y∈m↔y∈l\/y=v)/\m.length<=l.length+1:=by
 by_cases h:v∈l
 ·refine⟨l,kzfx hl ha h,ha,fun y=>⟨.inl,fun e=>e.elim id fun e=>e▸h⟩,by omega⟩
 ·obtain⟨m,e,hm⟩:=n_ hl ha (v:=v) fun x hx e=>h (hn x hx e▸hx);exact⟨m,e,hm.asc,hm.mem,by rw[hm.len];omega⟩
theorem kzfs{a b:List Ac}(ha:VsSz a)(hb:VsSz b):∃B:AZ,QU a b=some B/\VMrg (B.L,B.E) a b:=by
 unfold QU;rw[F_ ha];simp only[Af];by_cases gl:vchE a=0;rotate_left
 ·rw[it_n gl];simp only[Af];rw[BU gl];exact⟨_,rfl,.inl ⟨gl,rfl⟩⟩
 rw[it_d gl,F_ hb];simp only[Af];by_cases fu:vchE b=0;rotate_left
 ·rw[BU fu];exact⟨_,rfl,.inr (.inl ⟨gl,fu,rfl⟩)⟩
 rw[Bu fu];obtain⟨na,va⟩:=Fx.1 gl;obtain⟨nb,vb⟩:=Fx.1 fu
 have inner:∀(i:Nat) (x:Ac),a[i]?=some x->(lp (NM a b (i:Int)) 0=some (.inl ())/\∀y,y∈b->vsm x y->x=y)\/(lp (NM a b (i:Int)) 0=some (.inr ⟨[],24⟩)/\∃y,y∈b/\vsm x y/\x≠y):=by
  intro i x hx;have hi:=(AN.1 hx).1;have hz:=(ha x (Dx hx)).len;rw[GJ (l:=b) (fun _ y=>if vsm x y/\x≠y then some (⟨[],24⟩:AZ) else none) (by omega) ?_ ?_]
  ·cases qx:scan (fun _ (y:Ac)=>if vsm x y/\x≠y then some (⟨[],24⟩:AZ) else none) 0 b with
   |some o =>
    obtain⟨k,y,hy,hk,_⟩:=Lf 0 b o qx;split at hk
    ·rename_i h;cases hk;exact .inr ⟨rfl,y,Dx hy,h⟩
    ·cases hk
   |none =>
    refine .inl ⟨rfl,fun y hy h=>?_⟩;obtain⟨k,hk,rfl⟩:=J6 hy;have:=Pr qx (AD hk);split at this
    ·cases this
    ·rename_i h2;by_cases h3:x=b[k]
     ·exact h3
     ·exact absurd ⟨h,h3⟩ h2
  ·intro k y hy;have hk:=(AN.1 hy).1;simp only[NM];rw[it_d,at_e rfl hx,at_e rfl hy];simp only[Af];rw[ZJ hz];simp only[Af];by_cases h1:x.Gauge=y.Gauge
   ·simp only[h1,decide_true,AU,Af,Cj];by_cases h2:x.Seq=y.Seq
    ·simp only[h2,decide_true,Cj];by_cases h3:x=y
     ·rw[Bu h3,AA,Aj (fun e=>e.2 h3)]
     ·rw[BU h3,Ap ⟨⟨h1,h2⟩,h3⟩]
    ·simp only[h2,decide_false,Cq];rw[Be,AA,Aj (fun e=>h2 e.1.2)]
   ·simp only[h1,decide_false,AQ,Af,Cq];rw[Be,AA,Aj (fun e=>h1 e.1.1)]
  ·simp only[NM];rw[it_n]
 have outer:(lp (N_ a b) 0=some (.inl ())/\¬Cfl a b)\/(lp (N_ a b) 0=some (.inr ⟨[],24⟩)/\Cfl a b):=by
  obtain⟨o,e,ho⟩:=Dw (s:=(0:Int)) (body:=N_ a b) (fun s=>∃k:Nat,s=(k:Int)/\k<=a.length/\∀x,x∈a.take k->∀y,y∈b->vsm x y->x=y) (fun s=>(a.length-s).toNat) (fun o=>(o=.inl ()/\¬Cfl a b)\/(o=.inr ⟨[],24⟩/\Cfl a b)) (by
   rintro s ⟨k,rfl,hk,hI⟩;simp only[N_];by_cases hlt:k<a.length;rotate_left
   ·right;rw[it_n];rw[Ia (by omega)]at hI;exact⟨_,rfl,.inl ⟨rfl,fun⟨x,hx,y,hy,h1,h2⟩=>h2 (hI x hx y hy h1)⟩⟩
   have hx:=AD hlt;rw[it_d];rcases inner k _ hx with ⟨e,h⟩|⟨e,y,h1,h2⟩
   ·left;rw[e];simp only[Af];rw[AA];refine⟨_,rfl,⟨k+1,by simp,hlt,fun x hx' y hy h1=>?_⟩,by omega⟩;rw[Fw hx]at hx';rcases Cp.1 hx' with hx'|hx'
    ·exact hI x hx' y hy h1
    ·cases BX.1 hx';exact h y hy h1
   ·right;rw[e];exact⟨_,rfl,.inr ⟨rfl,_,GT hlt,y,h1,h2⟩⟩) ⟨0,rfl,Ej _,fun x hx=>by cases hx⟩ (by omega)
  rcases ho with ⟨rfl,h⟩|⟨rfl,h⟩
  ·exact .inl ⟨e,h⟩
  ·exact .inr ⟨e,h⟩
 rcases outer with ⟨e,iN⟩|⟨e,iG⟩;rotate_left
 ·rw[e];exact⟨_,rfl,.inr (.inr ⟨gl,fu,.inl ⟨iG,rfl⟩⟩)⟩
 rw[e];simp only[Af,U3];rw[ck_d (by omega)]
 obtain⟨o,e2,h1,h2,h3⟩:=Dw (s:=(a,(0:Int))) (body:=U_ b) (fun s=>∃k:Nat,s.2=(k:Int)/\k<=b.length/\s.1.Pairwise vlt/\(∀y,y∈s.1↔y∈a\/y∈b.take k)/\s.1.length<=a.length+k) (fun s=>(b.length-s.2).toNat) (fun o=>o.Pairwise vlt/\(∀y,y∈o↔y∈a\/y∈b)/\o.length<=a.length+b.length) (by
  rintro⟨out,s2⟩ ⟨k,h0,hk,h1,h2,h3⟩;simp only at h0 h1 h2 h3;subst h0;simp only[U_];by_cases hlt:k<b.length;rotate_left
  ·right;rw[it_n];rw[Ia (by omega)]at h2;exact⟨_,rfl,h1,h2,by omega⟩
  left;have hx:=AD hlt;rw[it_d,at_e rfl hx];simp only[Af];have io:b[k]∈b:=GT hlt;obtain⟨m,m1,m2,m3,m4⟩:=kzf4 (l:=out) (v:=b[k]) (by omega) h1 fun x hx' e=>by have kH:x∈a\/x∈b:=((h2 x).1 hx').imp id fun h=>List.mem_of_mem_take h;exact qq va vb iN x kH b[k] (.inr io) e
  rw[m1];simp only[Af];rw[AA];refine⟨_,rfl,⟨k+1,by simp,hlt,m2,fun y=>?_,by simp only;omega⟩,by simp only;omega⟩;rw[m3,h2,Fw hx,Cp,BX,or_assoc]) ⟨0,rfl,Ej _,va.asc,fun y=>by simp,by simp only;omega⟩ (by simp only;omega)
 rw[e2];simp only[Af];by_cases h4:400<o.length
 ·rw[it_d (by omega)];exact⟨_,rfl,.inr (.inr ⟨gl,fu,.inr ⟨iN,o,⟨h1,h2⟩,by rw[Ap h4]⟩⟩)⟩
 ·rw[it_n (by omega)];exact⟨_,rfl,.inr (.inr ⟨gl,fu,.inr ⟨iN,o,⟨h1,h2⟩,by rw[Aj h4]⟩⟩)⟩
def isDy(l:List Ac)(g x:Int):Prop:=∃v,v∈l/\v.Gauge=g/\v.Known=x
theorem kzf0{l:List Ac}(h0:∀v,v∈l->0<=v.Known/\v.Known<=14609)(hl:l.length<=1000)(g day:Int) : ∃n,lp (QW day g l) (-1,0)=some n/\((n = -1/\∀x,isDy l g x->x<=day)\/(0<=n/\isDy l g n/\day<n/\∀x,isDy l g x->day<x->n<=x)):=by
 obtain⟨o,e,ho⟩:=Dw (s:=((-1:Int),(0:Int))) (body:=QW day g l) (fun s=>∃k:Nat,∃n,s=(n,(k:Int))/\k<=l.length/\((n = -1/\∀x,isDy (l.take k) g x->x<=day)\/(0<=n/\isDy (l.take k) g n/\day<n/\∀x,isDy (l.take k) g x->day<x->n<=x))) (fun s=>(l.length-s.2).toNat) (fun n=>(n = -1/\∀x,isDy l g x->x<=day)\/(0<=n/\isDy l g n/\day<n/\∀x,isDy l g x->day<x->n<=x)) (by
  rintro s ⟨k,n,rfl,hk,hI⟩;simp only[QW];by_cases hlt:k<l.length;rotate_left
  ·right;rw[it_n];rw[Ia (by omega)]at hI;exact⟨_,rfl,hI⟩
  left;have hx:=AD hlt;have hv:=h0 l[k] (GT hlt);have eB:=Fw hx;generalize l[k]=v at *
  have hd:∀x,isDy (l.take (k+1)) g x↔isDy (l.take k) g x\/(v.Gauge=g/\v.Known=x):=fun x=>by
   rw[eB];constructor
   ·rintro⟨w,hw,h1,h2⟩;rcases Cp.1 hw with hw|hw
    ·exact .inl ⟨w,hw,h1,h2⟩
    ·cases BX.1 hw;exact .inr ⟨h1,h2⟩
   ·rintro(⟨w,hw,h1,h2⟩|⟨h1,h2⟩);·exact⟨w,by simp[hw],h1,h2⟩
    ·exact⟨v,by simp,h1,h2⟩
  rw[it_d,at_e rfl hx];simp only[Af]
  have keep:(∀x,(v.Gauge=g/\v.Known=x)->x<=day\/(0<=n/\n<=x))->∃k':Nat,∃n',((n,(k:Int)+1):Int×Int)=(n',(k':Int))/\k'<=l.length/\((n' = -1/\∀x,isDy (l.take k') g x->x<=day)\/(0<=n'/\isDy (l.take k') g n'/\day<n'/\∀x,isDy (l.take k') g x->day<x->n'<=x)):=fun h=>by
   refine⟨k+1,n,by simp,hlt,?_⟩;rcases hI with ⟨h1,h2⟩|⟨h1,h2,h3,h4⟩
   ·refine .inl ⟨h1,fun x hx=>?_⟩;rcases(hd x).1 hx with hx|hx
    ·exact h2 x hx
    ·rcases h x hx with h|h<;>omega
   ·refine .inr ⟨h1,(hd n).2 (.inl h2),h3,fun x hx hlt=>?_⟩;rcases(hd x).1 hx with hx|hx
    ·exact h4 x hx hlt
    ·rcases h x hx with h|h<;>omega
  have take:(v.Gauge=g/\day<v.Known)->(n<0\/v.Known<n)->∃k':Nat,∃n',((v.Known,(k:Int)+1):Int×Int)=(n',(k':Int))/\k'<=l.length/\((n' = -1/\∀x,isDy (l.take k') g x->x<=day)\/(0<=n'/\isDy (l.take k') g n'/\day<n'/\∀x,isDy (l.take k') g x->day<x->n'<=x)):=fun h h'=>by
   refine⟨k+1,v.Known,by simp,hlt,.inr ⟨hv.1,(hd _).2 (.inr ⟨h.1,rfl⟩),h.2,fun x hx hlt=>?_⟩⟩;rcases(hd x).1 hx with hx|hx
   ·rcases hI with ⟨h1,h2⟩|⟨h1,h2,h3,h4⟩;·have:=h2 x hx;omega
    ·have:=h4 x hx hlt;omega
   ·omega
  by_cases hg:v.Gauge=g
  ·simp only[hg,decide_true,AU,Af,Cj];by_cases qy:day<v.Known
   ·simp only[qy,decide_true,P2,Cj];by_cases hn:n<0
    ·simp only[hn,decide_true,Da,AQ,Af,Cj];rw[Dp,AA];exact⟨_,rfl,take ⟨hg,qy⟩ (.inl hn),by simp only;omega⟩
    ·simp only[hn,decide_false,CZ,AU,Af,Cq];by_cases hm:v.Known<n
     ·rw[it_d hm,AA];exact⟨_,rfl,take ⟨hg,qy⟩ (.inr hm),by simp only;omega⟩
     ·rw[it_n hm,AA];exact⟨_,rfl,keep fun x hx=>.inr (by omega),by simp only;omega⟩
   ·simp only[qy,decide_false,PE,AQ,Af,Cq];rw[Be,AA];exact⟨_,rfl,keep fun x hx=>.inl (by omega),by simp only;omega⟩
  ·simp only[hg,decide_false,AQ,Af,Cq,PE];rw[Be,AA];exact⟨_,rfl,keep fun x hx=>absurd hx.1 hg,by simp only;omega⟩) ⟨0,-1,rfl,Ej _,.inl ⟨rfl,fun x ⟨w,hw,_⟩=>by cases hw⟩⟩ (by simp only;omega)
 exact⟨o,e,ho⟩
theorem jzy3{l:List Ac}(hs:VsSz l)(hc:vchE l=0)(g:Int):∃D,Jz l g=some ⟨D,0⟩/\Z_ l g D:=by
 obtain⟨nq,hb⟩:=Fx.1 hc;unfold Jz;rw[F_ hs];simp only[Af];rw[Bu hc];have h0:∀v,v∈l->0<=v.Known/\v.Known<=14609:=fun v hv=>(hb.right v hv).1.2.2.1
 obtain⟨o,e,D,rfl,hD⟩:=Dw (s:=((-1:Int),([]:List Int))) (body:=V_ g l) (fun s=>-1<=s.1/\s.1<=14609/\SAsc s.2/\(∀x,x∈s.2↔isDy l g x/\x<=s.1)/\(s.2.length:Int)<=s.1+1) (fun s=>(14609-s.1).toNat) (fun o=>∃D,o=.inr ⟨D,0⟩/\Z_ l g D) (by
  rintro⟨day,out⟩ ⟨h1,h2,h3,h4,h5⟩;simp only at h1 h2 h3 h4 h5;simp only[V_];rw[it_d h1];obtain⟨n,e,hn⟩:=kzf0 h0 (by omega) g day;rw[e];simp only[Af];rcases hn with ⟨rfl,hn⟩|⟨n0,n1,n2,n3⟩
  ·right;rw[it_d (by omega)];refine⟨_,rfl,out,rfl,h3,fun x=>?_⟩;rw[h4];exact⟨fun e=>e.1,fun e=>⟨e,hn x e⟩⟩
  ·left;have qP:n<=14609:=by obtain⟨v,v1,_,rfl⟩:=n1;exact(h0 v v1).2
   rw[it_n (by omega),ck_d (by simp;omega)];refine⟨_,rfl,⟨by simp only;omega,qP,?_,fun x=>?_,by simp;omega⟩,by simp only;omega⟩
   ·refine List.pairwise_append.2 ⟨h3,P6 _ _,fun a ha b hb=>?_⟩;cases BX.1 hb;have:=((h4 a).1 ha).2;omega
   ·rw[Cp,h4,BX];constructor
    ·rintro(⟨e1,e2⟩|rfl);·exact⟨e1,by simp only;omega⟩
     ·exact⟨n1,Lp _⟩
    ·rintro⟨e1,e2⟩;by_cases hx:x<=day
     ·exact .inl ⟨e1,hx⟩
     ·right;have:=n3 x e1 (by omega);simp only at e2;omega) ⟨Lp _,by simp only;omega,List.Pairwise.nil,fun x=>⟨fun h=>(by cases h),fun h=>by
   obtain⟨⟨v,v1,_,v2⟩,h⟩:=h;have:=(h0 v v1).1;simp only at h;omega⟩,by simp⟩ (by simp only;omega)
 rw[e];exact⟨D,rfl,hD⟩
theorem kzfp{a:List Int}(h:a.length<=1000000):WY a a=some true:=by
 unfold WY;rw[Bu rfl,Jv (l:=a) (s:=0) (fun k=>(k:Int)) (by omega) (o:=.inl ()) ?_ ?_ rfl]
 ·simp only[Af]
 ·intro k x hx;have hk:=(AN.1 hx).1;simp only[TZ];rw[it_d,at_e rfl hx];simp only[Af,decide_true,Da];rw[Be,AA];rfl
 ·simp only[TZ];rw[it_n]
theorem qr{a:List Ac}(h:a.length<=1000000)(hz:∀v,v∈a->v.Curve.Points.length<=1048576):Xd a a=some true:=by
 unfold Xd;rw[Bu rfl,Jv (l:=a) (s:=0) (fun k=>(k:Int)) (by omega) (o:=.inl ()) ?_ ?_ rfl]
 ·simp only[Af]
 ·intro k x hx;have hk:=(AN.1 hx).1;simp only[Uk];rw[it_d,at_e rfl hx];simp only[Af];rw[pL (hz x (Dx hx))];simp only[Af,Da];rw[Be,AA];rfl
 ·simp only[Uk];rw[it_n]
theorem qs{l:List Ac}{n:Int}(h:N5 l n=some true)(hc:vchE l=0):(l.length:Int)<=n:=by
 obtain⟨nq,_⟩:=Fx.1 hc;by_cases hn:(l.length:Int)<=n
 ·exact hn
 ·unfold N5 at h;rw[it_t (by simp only[HV,P0,Fz,AE,BB];omega)]at h;cases h
theorem kzf3{F:List Ac×Int}{a b:List Ac}(ha:VsSz a)(hb:VsSz b)(h:VMrg F a b):F.1.length<=400/\∀v,v∈F.1->v.Curve.Points.length<=1048576:=by
 rcases h with ⟨_,rfl⟩|⟨_,_,rfl⟩|⟨_,_,⟨_,rfl⟩|⟨_,m,hm,rfl⟩⟩
 ·exact⟨by simp,fun v hv=>by cases hv⟩
 ·exact⟨by simp,fun v hv=>by cases hv⟩
 ·exact⟨by simp,fun v hv=>by cases hv⟩
 ·split;·exact⟨by simp,fun v hv=>by cases hv⟩
  ·refine⟨by show m.length<=400;omega,fun v hv=>?_⟩;rcases(hm.mem v).1 hv with h|h
   ·exact(ha v h).len
   ·exact(hb v h).len
theorem kzf1{F:List Ac×Int}{l:List Ac}{v:Ac}(hs:VsSz l)(hv:CSz v.Curve)(h:VAdd (some F) l v):F.1.length<=1000/\∀w,w∈F.1->w.Curve.Points.length<=1048576:=by
 have fin:∀y:List Ac×Int,some F=some y->F=y:=fun y e=>BA e;rcases h with ⟨_,e⟩|⟨_,_,e⟩|⟨_,_,⟨x,_,_,⟨_,e⟩|⟨_,e⟩⟩|⟨_,⟨_,e⟩|⟨h4,m,e,hm⟩⟩⟩
 ·rw[fin _ e];exact⟨by simp,fun v hv=>by cases hv⟩
 ·rw[fin _ e];exact⟨by simp,fun v hv=>by cases hv⟩
 ·rw[fin _ e];exact⟨by simp,fun v hv=>by cases hv⟩
 ·rw[fin _ e];exact⟨by simp,fun v hv=>by cases hv⟩
 ·rw[fin _ e];exact⟨by simp,fun v hv=>by cases hv⟩
 ·rw[fin _ e];refine⟨by show m.length<=1000;rw[hm.len];omega,fun w hw=>?_⟩;rcases(hm.mem w).1 hw with h|h
  ·exact(hs w h).len
  ·rw[h];exact hv.len
theorem kzgb{l m:List Ac}{v:Ac}{at4:CD}:W_ l m v at4=some true:=by
 unfold W_;obtain⟨b,e,hb⟩:=nu l 20;obtain⟨b2,e2,cR⟩:=nu m 20;obtain⟨c,ec,hc⟩:=ZR v.Curve;rw[e];simp only[Af];cases b
 ·simp only[CZ,Da,AQ,Af,Cj];rw[Dp,RD];rfl
 simp only[CZ,Da,AU,Cq];rw[e2];simp only[Af];cases b2
 ·simp only[CZ,Da,AQ,Af,Cj];rw[Dp,RD];rfl
 simp only[CZ,Da,AU,Cq];rw[ec];simp only[Af];cases c
 ·simp only[CZ];rw[Dp,RD];rfl
 simp only[Da];rw[Be];have hs:=hb rfl;have hm:=cR rfl;have hv:=hc rfl;obtain⟨B,f1,f2⟩:=jz28 hs hv;have f3:=(jz3j hs hv).uniq f2;obtain⟨al,az⟩:=kzf1 hs hv f2;obtain⟨F,g1,g2⟩:=jzmc hs hm fun h1 h2=>by have:=qs e h1;have:=qs e2 h2;omega
 obtain⟨R,g3,g4⟩:=kzfs hs hm;have g5:F=(R.L,R.E):=g2.uniq g4;obtain⟨ml,mz⟩:=kzf3 hs hm g2;rw[f1,f3,g1,g3,kzce hs,o_ hs,kzc2 hs,kzfu hs];simp only[Af]
 have qC:∃y:List Int×Int,Xm l at4.e1=some y/\Jz l at4.e1=some ⟨y.1,y.2⟩/\y.1.length<=1000:=by
  by_cases cP:vchE l=0
  ·obtain⟨D,d1,d2,d3⟩:=kzd2 hs cP at4.e1;obtain⟨D',d4,d5⟩:=jzy3 hs cP at4.e1;obtain rfl:D=D':=ZH d2.asc d5.asc fun x=>(d2.mem x).trans (d5.mem x).symm;exact⟨_,d1,d4,by simp only;omega⟩
  ·refine⟨([],vchE l),?_,?_,by simp⟩;·unfold Xm;rw[GL hs];simp only[Af];rw[BU cP]
   ·unfold Jz;rw[F_ hs];simp only[Af];rw[BU cP]
 obtain⟨y,y1,y2,y3⟩:=qC;rw[y1,y2];simp only[Af];rw[HU hv,ZP hv];simp only[Af,beq_self_eq_true,Da,CZ,AU,Cq];rw[GL hs,F_ hs];simp only[Af,decide_true,Da,CZ,AU,Cq];rw[qr (Bo al (by decide)) az];simp only[Af,decide_true,Da,CZ,AU,Cq,g5];rw[g5]at ml mz;rw[qr (Bo ml (by decide)) mz];simp only[Af,Da];rw[Be,RD]
 have bW:(infc l at4.e0 at4.e1 at4.e2 at4.e3).1.Curve.Points.length<=1048576:=by
  by_cases cP:vchE l=0
  ·have:=(kzds cP at4.e0 at4.e1 at4.e2 at4.e3).1;omega
  ·unfold infc;rw[Ap cP];simp[vZ]
 simp only[Af,decide_true,Cj,AU];rw[pL bW];simp only[Af,decide_true,Cj,AU];rw[kzfp (by omega)];rfl
end Go.Am

