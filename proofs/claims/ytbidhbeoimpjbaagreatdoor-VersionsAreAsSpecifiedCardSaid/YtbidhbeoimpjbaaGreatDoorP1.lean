/- Part P1: an iterator of this seat. No condition. -/
import Derived.Test.YtbidhbeoimpjbaaGreatDoorT4
import Derived.Test.YtbidhbeoimpjbaaGreatDoorF1
set_option linter.unusedSectionVars false
set_option linter.unusedSimpArgs false
set_option linter.unusedVariables false
namespace Go.Am
def RJ:List Av:=[⟨some 14,.mkmap 1,none⟩,⟨some 15,.faddr 0 (.t 5),none⟩,⟨some 16,.load false 1 (.t 15),none⟩,⟨none,.mupd 1 (.t 14) (.t 16) (.c (.bool true)),none⟩,⟨some 17,.faddr 1 (.t 5),none⟩,⟨some 18,.load false 1 (.t 17),none⟩,⟨none,.mupd 1 (.t 14) (.t 18) (.c (.bool true)),none⟩,⟨some 19,.mv (.t 14),none⟩,⟨some 7,.mv (.t 19),none⟩]
def pcPr:List (List Nat):=[[],[],[1],[0,2,1],[],[4],[0,5,4],[3,2,1,6,0,5,4],[7,3,2,1,6,0,5,4]]
theorem gset{t:List Aa}{d:Nat}(h:d<t.length)(v:Aa)(j:Nat):(t.set d v).getD j .top=if j=d then v else t.getD j .top:=by
 simp only[J3,JB];by_cases e:d=j
 ·subst e;simp[h]
 ·have e':¬j=d:=fun k=>e k.symm;simp[e,e']
theorem NW(h:Ax)(o:Ai):hset h 1 o 1=o:=Ap rfl
section
variable [Tab][TabOk]
structure PG(f t:Int)(e0 e:Nat)(S0:Au)(L:Nat->Bool)(S:Au):Prop where
 len:S.t.length=S0.t.length
 oth:∀j,j≠7->(j<14\/19<j)->S.t.getD j .top=S0.t.getD j .top
 hh:∀i,i≠1->S.h i=S0.h i
 ds:S.ds=S0.ds
 b0:L 0=false->S.h 1=S0.h 1
 s0:L 0=true->S.t.getD 14 .top=.mp 1 e
 s1:L 1=true->S.t.getD 15 .top=.ptr 0 e0 0
 s2:L 2=true->S.t.getD 16 .top=.int .i64 f
 s4:L 4=true->S.t.getD 17 .top=.ptr 0 e0 1
 s5:L 5=true->S.t.getD 18 .top=.int .i64 t
 s7:L 7=true->S.t.getD 19 .top=.mp 1 e
 s8:L 8=true->S.t.getD 7 .top=.mp 1 e
 p3:L 0=false->L 3=false/\L 6=false
 mm:L 0=true->∃m,S.h 1=.amap e (mEs (.int .i64) .bool m)/\((L 3=false/\L 6=false/\m=[])\/(L 3=true/\L 6=false/\m=[(f,true)])\/(L 3=false/\L 6=true/\m=[(t,true)])\/(L 3=true/\L 6=true/\(m=mput keqI [(f,true)] t true\/m=mput keqI [(t,true)] f true)))
theorem PG.slot{f t:Int}{e0 e:Nat}{S0 S:Au}{L L':Nat->Bool}(G:PG f t e0 e S0 L S)(hl:32<S0.t.length)(i d:Nat)(v:Aa)(hL:∀j,L' j=(L j||j==i))(hi:i≠0/\i≠3/\i≠6)(hd:d=7\/14<=d/\d<=19) (c:i=1/\d=15/\v=.ptr 0 e0 0\/i=2/\d=16/\v=.int .i64 f\/i=4/\d=17/\v=.ptr 0 e0 1\/i=5/\d=18/\v=.int .i64 t\/i=7/\d=19/\v=.mp 1 e\/i=8/\d=7/\v=.mp 1 e) :
  PG f t e0 e S0 L' ⟨putT S.t (some d) v,putH S.h none,S.ds⟩:=by
 have co:d<S.t.length:=by rw[G.len];omega
 have l0:L' 0=L 0:=by rw[hL,(by simp;omega:(0==i)=false),Lh]
 have l3:L' 3=L 3:=by rw[hL,(by simp;omega:(3==i)=false),Lh]
 have l6:L' 6=L 6:=by rw[hL,(by simp;omega:(6==i)=false),Lh]
 have g:∀j,(putT S.t (some d) v).getD j .top=if j=d then v else S.t.getD j .top:=gset co v
 have key:∀(k s:Nat) (u:Aa),(L k=true->S.t.getD s .top=u)->(k=i->d=s/\v=u)->(d=s->k=i)->L' k=true->(putT S.t (some d) v).getD s .top=u:=fun k s u h1 h2 h3 h4=>by
  rw[g];by_cases e:s=d
  ·rw[Ap e];exact(h2 (h3 e.symm)).2
  ·rw[Aj e];refine h1 ?_;rw[hL]at h4;have:(k==i)=false:=by simp only[beq_eq_false_iff_ne];intro h;exact e (h2 h).1.symm
   rw[this,Lh]at h4;exact h4
 refine⟨by rw[<-G.len];simp[putT],fun j h1 h2=>?_,G.hh,G.ds,fun h=>G.b0 (l0▸h),fun h=>?_,key 1 15 _ G.s1 ?_ ?_,key 2 16 _ G.s2 ?_ ?_,key 4 17 _ G.s4 ?_ ?_,key 5 18 _ G.s5 ?_ ?_,key 7 19 _ G.s7 ?_ ?_,key 8 7 _ G.s8 ?_ ?_,by rw[l0,l3,l6];exact G.p3,by rw[l0,l3,l6];exact G.mm⟩
 ·rw[g,Aj (by omega)];exact G.oth j h1 h2
 ·rw[g,Aj (by omega)];exact G.s0 (l0▸h)
 all_goals first
  |(intro k;subst k;rcases c with ⟨h,h1,h2⟩|⟨h,h1,h2⟩|⟨h,h1,h2⟩|⟨h,h1,h2⟩|⟨h,h1,h2⟩|⟨h,h1,h2⟩<;>first|exact⟨h1,h2⟩|exact absurd h (by decide))
  |(intro k;omega)
theorem XC{id ep:Nat}{x k v:Ad}{ar:Ad->Aa}{hh:Ax}{a:Int}{m:List (Int×Bool)}(h1:ar x=.mp id ep)(h2:ar k=.int .i64 a)(h3:ar v=.bool true)(h4:hh id=.amap ep (mEs (.int .i64) .bool m)) : (Ak.mupd 1 x k v).req ar hh=⟨ep=ep/\(Aa.int .i64 a).kkind=1,[id],.top,some (id,.amap ep (mEs (.int .i64) .bool (mput keqI m a true)))⟩:=by
 have q2:isK (.int .i64) 1=true:=rfl;obtain⟨rr,f1,f2⟩:=NX (k:=.int .i64) (v:=.bool) q2 a m 0;have f1:BC (.int .i64 a) (mEs (.int .i64) .bool m) 0=some rr:=f1;show Gf 1 (ar x) (ar k) (ar v) hh=_;unfold Gf;rcases f2 with ⟨rfl,_,g⟩|⟨j,y,rfl,_,g⟩
 ·have g:=g true;have g:mEs (.int .i64) .bool (mput keqI m a true)=mEs (.int .i64) .bool m++[(.int .i64 a,.bool true)]:=g;simp only[h1,h2,h3,h4,f1,g]
 ·have g:=g true;have g:mEs (.int .i64) .bool (mput keqI m a true)=(mEs (.int .i64) .bool m).set j (.int .i64 a,.bool true):=g
  simp only[h1,h2,h3,h4,f1,g,Cx]
theorem xR{P:Program}{E:Nat->Aa}{ρ:Option Nat}{f t:Int}{e0:Nat}{S0:Au}{Q:Exit->Au->Prop}(hl:32<S0.t.length)(hp:S0.t.getD 5 .top=.ptr 0 e0 0)(hb:S0.h 0=.box e0 [.int .i64 f,.int .i64 t])(h1:(S0.h 1).plain)(fin:∀m L S,PG f t e0 ((S0.h 1).ep+1) S0 L S->S.t.getD 7 .top=.mp 1 ((S0.h 1).ep+1)->S.h 1=.amap ((S0.h 1).ep+1) (mEs (.int .i64) .bool m)->(m=mput keqI (mput keqI [] f true) t true\/m=mput keqI (mput keqI [] t true) f true)->Q .normal S) :
  AW E ρ P (.reg true RJ pcPr) Q S0:=by
 refine AW.drawG (PG f t e0 ((S0.h 1).ep+1) S0) ⟨rfl,fun _ _ _=>rfl,fun _ _=>rfl,rfl,fun _=>rfl,fun h=>(by cases h),fun h=>(by cases h),fun h=>(by cases h),fun h=>(by cases h),fun h=>(by cases h),fun h=>(by cases h),fun h=>(by cases h),fun _=>⟨rfl,rfl⟩,fun h=>(by cases h)⟩ ?_ ?_
 ·intro L S i ao G dG iR hi;have g8:S.t.getD 5 .top=.ptr 0 e0 0:=by rw[G.oth 5 (by decide) (by decide)];exact hp
  have g0:S.h 0=.box e0 [.int .i64 f,.int .i64 t]:=by rw[G.hh 0 (by decide)];exact hb
  have aD:=G.len
  match i,hi with
  |0,hi =>
   cases hi;have km:=G.b0 iR;have p3:=G.p3 iR;have aC:(Ak.mkmap 1).req (Ag E S.t) S.h=⟨(S.h 1).plain,[1],.mp 1 ((S0.h 1).ep+1),some (1,.amap ((S0.h 1).ep+1) [])⟩:=by show(⟨(S.h 1).plain,[1],.mp 1 ((S.h 1).ep+1),some (1,.amap ((S.h 1).ep+1) [])⟩:Req)=_;rw[km]
   refine⟨.mp 1 ((S0.h 1).ep+1),[1],some (1,.amap ((S0.h 1).ep+1) []),.inl (by show(((Ak.mkmap 1).req (Ag E S.t) S.h).ok/\VEq _ _/\_);rw[aC];exact⟨km▸h1,.refl _,fun j hj=>hj,.refl _,fun i ob e=>by cases e;exact BX.2 rfl⟩),fun L' bR=>?_⟩;have g:∀j,(putT S.t (some 14) (.mp 1 ((S0.h 1).ep+1))).getD j .top=if j=14 then .mp 1 ((S0.h 1).ep+1) else S.t.getD j .top:=gset (by omega) _;have hs:∀j,j≠0->L' j=L j:=fun j hj=>by rw[bR,(by simpa using hj:(j==0)=false),Lh]
   have l0:L' 0=true:=by rw[bR];simp
   refine⟨by rw[<-aD];simp[putT],fun j k1 k2=>?_,fun j hj=>?_,G.ds,fun h=>(by rw[l0]at h;cases h),fun _=>?_,fun h=>?_,fun h=>?_,fun h=>?_,fun h=>?_,fun h=>?_,fun h=>?_,fun h=>(by rw[l0]at h;cases h),fun _=>⟨[],?_,.inl ⟨?_,?_,rfl⟩⟩⟩
   ·rw[g,Aj (by omega)];exact G.oth j k1 k2
   ·show hset S.h 1 _ j=_;unfold hset;rw[Aj hj];exact G.hh j hj
   ·rw[g,Ap rfl]
   ·rw[g,Aj (by decide)];exact G.s1 (hs 1 (by decide)▸h)
   ·rw[g,Aj (by decide)];exact G.s2 (hs 2 (by decide)▸h)
   ·rw[g,Aj (by decide)];exact G.s4 (hs 4 (by decide)▸h)
   ·rw[g,Aj (by decide)];exact G.s5 (hs 5 (by decide)▸h)
   ·rw[g,Aj (by decide)];exact G.s7 (hs 7 (by decide)▸h)
   ·rw[g,Aj (by decide)];exact G.s8 (hs 8 (by decide)▸h)
   ·exact NW S.h _
   ·rw[hs 3 (by decide)];exact p3.1
   ·rw[hs 6 (by decide)];exact p3.2
  |1,hi =>
   cases hi;refine⟨.ptr 0 e0 0,[0],none,.inl ?_,fun L' bR=>G.slot hl 1 15 _ bR (by decide) (by decide) (by simp)⟩;show((Ak.faddr 0 (.t 5)).req (Ag E S.t) S.h).ok/\VEq _ _/\_;have aC:(Ak.faddr 0 (.t 5)).req (Ag E S.t) S.h=⟨e0=(S.h 0).ep,[0],.ptr 0 e0 0,none⟩:=by simp only[Ak.req,Ag,g8,Ib]
   rw[aC];exact⟨by rw[g0];rfl,.refl _,fun j hj=>hj,.refl _,fun i ob e=>by cases e⟩
  |2,hi =>
   cases hi;have k1:=G.s1 (dG 1 (by decide));refine⟨.int .i64 f,[0],none,.inl ?_,fun L' bR=>G.slot hl 2 16 _ bR (by decide) (by decide) (by simp)⟩;show((Ak.load false 1 (.t 15)).req (Ag E S.t) S.h).ok/\VEq _ _/\_;have aC:(Ak.load false 1 (.t 15)).req (Ag E S.t) S.h=⟨e0=e0/\0+1<=2/\(false=false->1=1),[0],.int .i64 f,none⟩:=by simp only[Ak.req,C0,Ag,k1,g0];rfl
   rw[aC];exact⟨⟨rfl,by decide,fun _=>rfl⟩,.refl _,fun j hj=>hj,.refl _,fun i ob e=>by cases e⟩
  |4,hi =>
   cases hi;refine⟨.ptr 0 e0 1,[0],none,.inl ?_,fun L' bR=>G.slot hl 4 17 _ bR (by decide) (by decide) (by simp)⟩;show((Ak.faddr 1 (.t 5)).req (Ag E S.t) S.h).ok/\VEq _ _/\_;have aC:(Ak.faddr 1 (.t 5)).req (Ag E S.t) S.h=⟨e0=(S.h 0).ep,[0],.ptr 0 e0 1,none⟩:=by simp only[Ak.req,Ag,g8,Cx]
   rw[aC];exact⟨by rw[g0];rfl,.refl _,fun j hj=>hj,.refl _,fun i ob e=>by cases e⟩
  |5,hi =>
   cases hi;have k1:=G.s4 (dG 4 (by decide));refine⟨.int .i64 t,[0],none,.inl ?_,fun L' bR=>G.slot hl 5 18 _ bR (by decide) (by decide) (by simp)⟩;show((Ak.load false 1 (.t 17)).req (Ag E S.t) S.h).ok/\VEq _ _/\_;have aC:(Ak.load false 1 (.t 17)).req (Ag E S.t) S.h=⟨e0=e0/\1+1<=2/\(false=false->1=1),[0],.int .i64 t,none⟩:=by simp only[Ak.req,C0,Ag,k1,g0];rfl
   rw[aC];exact⟨⟨rfl,by decide,fun _=>rfl⟩,.refl _,fun j hj=>hj,.refl _,fun i ob e=>by cases e⟩
  |7,hi =>
   cases hi;have k1:=G.s0 (dG 0 (by decide));refine⟨.mp 1 ((S0.h 1).ep+1),[],none,.inl ?_,fun L' bR=>G.slot hl 7 19 _ bR (by decide) (by decide) (by simp)⟩;show((Ak.mv (.t 14)).req (Ag E S.t) S.h).ok/\VEq _ _/\_;have aC:(Ak.mv (.t 14)).req (Ag E S.t) S.h=.val (.mp 1 ((S0.h 1).ep+1)):=by simp only[Ak.req,Ag,k1]
   rw[aC];exact⟨trivial,.refl _,fun j hj=>hj,.refl _,fun i ob e=>by cases e⟩
  |8,hi =>
   cases hi;have k1:=G.s7 (dG 7 (by decide));refine⟨.mp 1 ((S0.h 1).ep+1),[],none,.inl ?_,fun L' bR=>G.slot hl 8 7 _ bR (by decide) (by decide) (by simp)⟩;show((Ak.mv (.t 19)).req (Ag E S.t) S.h).ok/\VEq _ _/\_;have aC:(Ak.mv (.t 19)).req (Ag E S.t) S.h=.val (.mp 1 ((S0.h 1).ep+1)):=by simp only[Ak.req,Ag,k1]
   rw[aC];exact⟨trivial,.refl _,fun j hj=>hj,.refl _,fun i ob e=>by cases e⟩
  |3,hi =>
   cases hi;have c0:=dG 0 (by decide);have k0:=G.s0 c0;have k1:=G.s2 (dG 2 (by decide));obtain⟨m,hm,hc⟩:=G.mm c0;refine⟨.top,[1],some (1,.amap ((S0.h 1).ep+1) (mEs (.int .i64) .bool (mput keqI m f true))),.inl ?_,fun L' bR=>?_⟩
   ·show((Ak.mupd 1 (.t 14) (.t 16) (.c (.bool true))).req (Ag E S.t) S.h).ok/\VEq _ _/\_;rw[XC (k0:Ag E S.t (.t 14)=_) (k1:Ag E S.t (.t 16)=_) rfl hm];exact⟨⟨rfl,rfl⟩,.refl _,fun j hj=>hj,.refl _,fun i ob e=>by cases e;exact BX.2 rfl⟩
   ·have hs:∀j,j≠3->L' j=L j:=fun j hj=>by rw[bR,(by simpa using hj:(j==3)=false),Lh]
    have l3:L' 3=true:=(by rw[bR];simp);have l0:L' 0=true:=(by rw[hs 0 (by decide)];exact c0);refine⟨aD,G.oth,fun j hj=>?_,G.ds,fun h=>(by rw[l0]at h;cases h),fun _=>k0,fun h=>G.s1 (hs 1 (by decide)▸h),fun h=>G.s2 (hs 2 (by decide)▸h),fun h=>G.s4 (hs 4 (by decide)▸h),fun h=>G.s5 (hs 5 (by decide)▸h),fun h=>G.s7 (hs 7 (by decide)▸h),fun h=>G.s8 (hs 8 (by decide)▸h),fun h=>(by rw[l0]at h;cases h),fun _=>⟨mput keqI m f true,?_,?_⟩⟩
    ·show hset S.h 1 _ j=_;unfold hset;rw[Aj hj];exact G.hh j hj
    ·exact NW S.h _
    ·rw[hs 6 (by decide),l3];rcases hc with ⟨_,b,rfl⟩|⟨a,_,_⟩|⟨_,b,rfl⟩|⟨a,_,_⟩
     ·exact .inr (.inl ⟨rfl,b,rfl⟩)
     ·rw[iR]at a;cases a
     ·exact .inr (.inr (.inr ⟨rfl,b,.inr rfl⟩))
     ·rw[iR]at a;cases a
  |6,hi =>
   cases hi;have c0:=dG 0 (by decide);have k0:=G.s0 c0;have k1:=G.s5 (dG 5 (by decide));obtain⟨m,hm,hc⟩:=G.mm c0;refine⟨.top,[1],some (1,.amap ((S0.h 1).ep+1) (mEs (.int .i64) .bool (mput keqI m t true))),.inl ?_,fun L' bR=>?_⟩
   ·show((Ak.mupd 1 (.t 14) (.t 18) (.c (.bool true))).req (Ag E S.t) S.h).ok/\VEq _ _/\_;rw[XC (k0:Ag E S.t (.t 14)=_) (k1:Ag E S.t (.t 18)=_) rfl hm];exact⟨⟨rfl,rfl⟩,.refl _,fun j hj=>hj,.refl _,fun i ob e=>by cases e;exact BX.2 rfl⟩
   ·have hs:∀j,j≠6->L' j=L j:=fun j hj=>by rw[bR,(by simpa using hj:(j==6)=false),Lh]
    have l6:L' 6=true:=(by rw[bR];simp);have l0:L' 0=true:=(by rw[hs 0 (by decide)];exact c0);refine⟨aD,G.oth,fun j hj=>?_,G.ds,fun h=>(by rw[l0]at h;cases h),fun _=>k0,fun h=>G.s1 (hs 1 (by decide)▸h),fun h=>G.s2 (hs 2 (by decide)▸h),fun h=>G.s4 (hs 4 (by decide)▸h),fun h=>G.s5 (hs 5 (by decide)▸h),fun h=>G.s7 (hs 7 (by decide)▸h),fun h=>G.s8 (hs 8 (by decide)▸h),fun h=>(by rw[l0]at h;cases h),fun _=>⟨mput keqI m t true,?_,?_⟩⟩
    ·show hset S.h 1 _ j=_;unfold hset;rw[Aj hj];exact G.hh j hj
    ·exact NW S.h _
    ·rw[hs 3 (by decide),l6];rcases hc with ⟨b,_,rfl⟩|⟨b,_,rfl⟩|⟨_,a,_⟩|⟨_,a,_⟩
     ·exact .inr (.inr (.inl ⟨b,rfl,rfl⟩))
     ·exact .inr (.inr (.inr ⟨b,rfl,.inl rfl⟩))
     ·rw[iR]at a;cases a
     ·rw[iR]at a;cases a
  |n+9,hi=>cases hi
 ·intro L S G hL;have hL:∀j,j<9->L j=true:=hL;obtain⟨m,hm,hc⟩:=G.mm (hL 0 (by decide));refine fin m L S G (G.s8 (hL 8 (by decide))) hm ?_;rcases hc with ⟨a,_,_⟩|⟨_,a,_⟩|⟨a,_,_⟩|⟨_,_,a⟩
  ·rw[hL 3 (by decide)]at a;cases a
  ·rw[hL 6 (by decide)]at a;cases a
  ·rw[hL 3 (by decide)]at a;cases a
  ·exact a
end
theorem TSub.pw:∀{l l':List Aa},l.length=l'.length->(∀j,VSub (l.getD j .top) (l'.getD j .top))->TSub l l'
 |[],[],_,_=>trivial
 |[],_ :: _,h,_=>by cases h
 |_ :: _,[],h,_=>by cases h
 |x :: l,y :: l',h,k=>⟨k 0,TSub.pw (by simpa using h) fun j=>by simpa using k (j+1)⟩
section
variable [Tab]
def pcT(T:An)(m:List (Int×Bool)):An:=putS (putO T 1 (.map (.int .i64) .bool m) false) (some 7) (.v (.mp 1 T.nx))
variable [TabOk]
theorem wN{B:Phi}{T:An}{rest:AR}{Q:Exit->Au->Prop}{st:Nat}{f t:Int}(hI:InvT B T) (hg:T.gs=[]) (hb:T.b=0) (hn:T.n=69) (l8:Ah T.t 5=.v (.ptr 0 st 0)) (l0:Ae T.h 0=some (st,.box [.int .i64 f,.int .i64 t])) (hf:∀j,14<=j->j<=19->Ah T.t j=.v (.s .top))(hk:∀m B',(m=mput keqI (mput keqI [] f true) t true\/m=mput keqI (mput keqI [] t true) f true)->InvT B' (pcT T m)->AW TabT.E none TabT.P rest Q (em B' (pcT T m))) :
  AW TabT.E none TabT.P (.seq (.reg true RJ pcPr) rest) Q (em B T):=by
 have aD:(em B T).t.length=69:=by rw[<-hn];exact CC _ _
 have fo:inR T.b 1=true:=by rw[hb];decide
 refine .seq (xR (f:=f) (t:=t) (e0:=(B 0 st).ep) (by omega) (by rw[em_t hI,l8];rfl) (by rw[DX l0];rfl) (H8 hI 1 fo) fun m L S G g12 gh hm=>?_);show AW TabT.E none TabT.P rest Q S
 let ob:TO:=.map (.int .i64) .bool m
 let Gh0:FZ:=⟨((em B T).h 1).ep+1,0,fun _=>[]⟩
 obtain⟨i1,l1,e1⟩:=DW (G:=Gh0) (ob:=ob) (re:=false) hI fo trivial trivial (fun e=>by cases e) rfl;have ht:TOk (upd B 1 T.nx Gh0) (putO T 1 ob false) (.v (.mp 1 T.nx)):=⟨(Ci T.nx:T.nx<T.nx+1),trivial⟩;have hd:Bl (putO T 1 ob false) (some 7)=true:=by show Ab (Nat.blt 7 T.n) (!memN 7 T.gs) false=true;rw[hn,hg];rfl
 have i2:=BS i1 hd ht;have e2:em (upd B 1 T.nx Gh0) (pcT T m)=⟨(em B T).t.set 7 (.mp 1 (((em B T).h 1).ep+1)),hset (em B T).h 1 (.amap (((em B T).h 1).ep+1) (mEs (.int .i64) .bool m)),B.ds⟩:=by show em _ (putS (putO T 1 ob false) (some 7) (.v (.mp 1 T.nx)))=_;rw[CI,e1];show Au.mk ((em B T).t.set 7 (.mp 1 ((upd B 1 T.nx Gh0) 1 T.nx).ep)) (hset (em B T).h 1 (.amap (((em B T).h 1).ep+1) (mEs (.int .i64) .bool m))) B.ds=_;rw[show(upd B 1 T.nx Gh0) 1 T.nx=Gh0 from Bd]
 have lG:See TabT.E S (em (upd B 1 T.nx Gh0) (pcT T m)):=by
  rw[e2];refine .of_sub ⟨TSub.pw (by rw[G.len];simp) fun j=>?_,fun i=>?_,G.ds.symm,fun D hD=>?_⟩
  ·show VSub _ (((em B T).t.set 7 _).getD j .top);rw[gset (by omega)];by_cases iP:j=7
   ·subst iP;rw[Ap rfl,g12];exact .refl _
   ·rw[Aj iP];by_cases hj:j<14\/19<j
    ·rw[G.oth j iP hj];exact .refl _
    ·left;rw[em_t hI,hf j (by omega) (by omega)];rfl
  ·show OSub (S.h i) (hset (em B T).h 1 _ i);by_cases h1:i=1
   ·subst h1;rw[NW,gh];exact .refl _
   ·unfold hset;rw[Aj h1,G.hh i h1];exact .refl _
  ·have:=Es i2 D (show D∈(em _ _).ds from by
    show D∈B.ds;have h:S.ds=B.ds:=G.ds;rw[<-h];exact hD)
   exact(congrFun (F5 Au.h e2) D.1).symm.trans this
 exact .see lG (hk m _ hm i2)
def kS:Exit->An->Option An:=fun e T=>match e with
 |.normal=>some T
 |_=>none
theorem Xv{e:Exit}{T T1:An}(h:kS e T=some T1):e=.normal/\T=T1:=by cases e<;>cases h;exact⟨rfl,rfl⟩
def FinW{α:Type}(K:Exit->An->Option α)(r:α)(e:Exit)(S:Au):Prop:=∃B' T',K e T'=some r/\InvT B' T'/\See TabT.E S (em B' T')
theorem wM{rs:List ARes}{n:Nat}{ac:AR}{Q:Qc}{fn:Func}{c:Code}(hE:∀i,AF (TabT.E i))(hf:TabT.P.funcs[Q.f]?=some fn) (hb:fn.body=some c) (hr:ED TabT.P fn.results.toList rs=true) (hc:A8 TabT.P c ac=true) (hn:fn.ntmps=n) (hl:Q.a.length<=n) (he:Co TabT.P Q.f=true)(ht:∀x y,Q.F x=some y->InvT BZ (iniT n Q.a Q.p x)->AW TabT.E none TabT.P ac (FinW (resQ Q.S rs) y) (em BZ (iniT n Q.a Q.p x))):QcOk Q:=by
 refine⟨he,fun x y hy=>?_⟩;have aD:(prmS Q.a Q.p x).length=Q.a.length:=G0 _ _ _
 have hw:AW TabT.E none TabT.P ac (Post TabT.E rs (fun v _=>W v (.fn Q.S.f 0 (Aq (prmS Q.S.a Q.S.p y))))) (em BZ (iniT n Q.a Q.p x)):=by
  refine(ht x y hy (XD hl)).mono ?_;rintro e S ⟨B',T',k1,k2,k5⟩;cases e with
  |ret =>
   have k1:(match resS T' rs with | some [.fn f 0 caps]=>Ab (Nat.beq f Q.S.f) (KA Q.S.a Q.S.p caps) none | _=>none)=some y:=k1;split at k1
   ·rename_i f caps hl;obtain⟨p,k1⟩:=Al k1;obtain⟨q1,q2⟩:=NY k2 hl;refine⟨em B' T',k5,q1,fun i=>.gone ((em B' T').h i).ep,fun i=>.inl rfl,fun D _=>⟨_,rfl⟩,?_⟩;rw[XE q2,<-Ao.1 p];have hw:=RT k1;exact .fn _ _ _ _ hw.at.1 hw.at.2
   ·cases k1
  |_=>cases k1
 rw[XF hl]at hw;have hp:Pure TabT.E TabT.P Q.f (Aq (prmS Q.a Q.p x)) (.fn Q.S.f 0 (Aq (prmS Q.S.a Q.S.p y))):=ATr.rw (ATr.of hf hb hr hc (n-Q.a.length) (by rw[hn,AK,aD]) hw);exact hp.still hE (DZ _) (.fn _ _ _ (DZ _))
end
def RK(m0:List (Int×Bool))(l0:List Ac)(gauge1:Int)(t2:Aw):Option (List Int) :=
 bd (lp (Er gauge1 l0 t2) (0,m0))<|fun m1 =>
 bd (CG (List.map (fun p=>p.1) m1)) fun r1 =>
 some r1
theorem XG{O ω:Type}{b b':O->Option (O⊕ω)}(R:O->O->Prop)(U:ω->ω->Prop)(step:∀s s',R s s'->(b s=none/\b' s'=none)\/(∃t t',b s=some (.inl t)/\b' s'=some (.inl t')/\R t t')\/(∃o o',b s=some (.inr o)/\b' s'=some (.inr o')/\U o o')) {s s':O} (h:R s s') : (lp b s=none/\lp b' s'=none)\/∃o o',lp b s=some o/\lp b' s'=some o'/\U o o':=by
 have key:∀(n:Nat) (s s':O),R s s'->(lpN b n s=none/\lpN b' n s'=none)\/∃o o',lpN b n s=some o/\lpN b' n s'=some o'/\U o o':=by
  intro n;induction n with
  |zero=>intro s s' _;exact .inl ⟨rfl,rfl⟩
  |succ n ih =>
   intro s s' h;rcases step s s' h with ⟨e,e'⟩|⟨t,t',e,e',k⟩|⟨o,o',e,e',k⟩
   ·exact .inl ⟨by simp only[lpN,e],by simp only[lpN,e']⟩
   ·rcases ih t t' k with ⟨q,q'⟩|⟨o,o',q,q',u⟩;·exact .inl ⟨by simp only[lpN,e,q],by simp only[lpN,e',q']⟩
    ·exact .inr ⟨o,o',by simp only[lpN,e,q],by simp only[lpN,e',q'],u⟩
   ·exact .inr ⟨o,o',by simp only[lpN,e],by simp only[lpN,e'],k⟩
 unfold lp;exact key _ _ _ h
def allT(m:List (Int×Bool)):Prop:=∀p∈m,p.2=true
theorem NZ:∀{m:List (Int×Bool)} {k:Int},allT m->k∈m.map (·.1)->mput keqI m k true=m
 |[],_,_,h=>by cases h
 |p :: l,k,ha,h=>by
  unfold mput;by_cases e:k=p.1
  ·have:keqI k p.1=true:=by simp[keqI,e]
   rw[this];have:=ha p (by simp);obtain⟨a,b⟩:=p;simp only at this e;subst this;subst e;rfl
  ·have:keqI k p.1=false:=by simp[keqI,e]
   rw[this]
   have h':k∈l.map (·.1):=by
    rcases AI.1 h with h|h
    ·exact absurd h e
    ·exact h
   show p :: mput keqI l k true=_;rw[NZ (fun q hq=>ha q (by simp[hq])) h']
theorem Oa:∀{m:List (Int×Bool)} {k:Int},k∉m.map (·.1)->mput keqI m k true=m++[(k,true)]
 |[],_,_=>rfl
 |p :: l,k,h=>by
  unfold mput;have e:¬k=p.1:=fun e=>h (by simp[e]);have:keqI k p.1=false:=by simp[keqI,e]
  rw[this];show p :: mput keqI l k true=_;rw[Oa (fun h'=>h (by simp only[HZ,AI];exact .inr h'))];rfl
theorem IH{m:List (Int×Bool)}{k:Int}(h:allT m):allT (mput keqI m k true):=by
 by_cases e:k∈m.map (·.1)
 ·rw[NZ h e];exact h
 ·rw[Oa e];intro p hp;rcases Cp.1 hp with hp|hp
  ·exact h p hp
  ·cases BX.1 hp;rfl
def mEq(m m':List (Int×Bool)):Prop:=allT m/\allT m'/\m.Perm m'
theorem mEq.put{m m':List (Int×Bool)}(h:mEq m m')(k:Int):mEq (mput keqI m k true) (mput keqI m' k true):=by
 obtain⟨h1,h2,h3⟩:=h;refine⟨IH h1,IH h2,?_⟩;have hm:k∈m.map (·.1)↔k∈m'.map (·.1):=(h3.map _).mem_iff;by_cases e:k∈m.map (·.1)
 ·rw[NZ h1 e,NZ h2 (hm.1 e)];exact h3
 ·rw[Oa e,Oa (fun k=>e (hm.2 k))];exact h3.append_right _
theorem mEq.two(f t:Int):mEq (mput keqI (mput keqI [] f true) t true) (mput keqI (mput keqI [] t true) f true):=by
 refine⟨IH (IH fun p h=>by cases h),IH (IH fun p h=>by cases h),?_⟩;show(mput keqI [(f,true)] t true).Perm (mput keqI [(t,true)] f true);by_cases e:f=t
 ·subst e;exact .refl _
 ·have h1:keqI t f=false:=by simp[keqI];omega
  have h2:keqI f t=false:=by simp[keqI];omega
  simp only[mput,h1,h2];exact List.Perm.swap ..
theorem ii_t{a b:Int}{l:List Int}(h:a<=b):Ba a (b :: l)=a :: b :: l:=by simp[Ba,h]
theorem ii_f{a b:Int}{l:List Int}(h:¬a<=b):Ba a (b :: l)=b :: Ba a l:=by have:¬a<=b:=h;simp only[Ba,this,decide_false,Cq]
theorem XH(a b:Int):∀l,Ba a (Ba b l)=Ba b (Ba a l)
 |[]=>by
  show Ba a [b]=Ba b [a];by_cases h:a<=b
  ·by_cases k:b<=a;·have:a=b:=(by omega);subst this;rfl
   ·rw[ii_t h,ii_f k];rfl
  ·rw[ii_f h,ii_t (by omega)];rfl
 |c :: l=>by
  have ih:=XH a b l;by_cases ha:a<=c
  ·by_cases hb:b<=c
   ·rw[ii_t ha,ii_t hb];by_cases h:a<=b
    ·by_cases k:b<=a;·have:a=b:=(by omega);subst this;rfl
     ·rw[ii_t h,ii_f k,ii_t hb]
    ·rw[ii_f h,ii_t ha,ii_t (by omega)]
   ·rw[ii_t ha,ii_f hb,ii_t ha,ii_f (by omega),ii_f hb]
  ·by_cases hb:b<=c;·rw[ii_t hb,ii_f ha,ii_t hb,ii_f (by omega),ii_f ha]
   ·rw[ii_f ha,ii_f hb,ii_f ha,ii_f hb,ih]
theorem xS{l l':List Int}(h:l.Perm l'):Bj l=Bj l':=by
 induction h with
 |nil=>rfl
 |cons x _ ih=>simp only[Bj];rw[ih]
 |swap x y l=>simp only[Bj];rw[XH]
 |trans _ _ i j=>exact i.trans j
theorem Xw{l l':List Int}(h:l.Perm l'):CG l=CG l':=by unfold CG;rw[xS h,h.length_eq]
theorem xT{g:Int}{t:Aw}{v:Ac}{m m':List (Int×Bool)}(h:mEq m m') : (lp (D5 g t v) (0,m)=none/\lp (D5 g t v) (0,m')=none)\/∃o o',lp (D5 g t v) (0,m)=some o/\lp (D5 g t v) (0,m')=some o'/\mEq o o':=by
 refine XG (O:=Int×List (Int×Bool)) (ω:=List (Int×Bool)) (fun s s'=>s.1=s'.1/\mEq s.2 s'.2) mEq ?_ ⟨rfl,h⟩;rintro⟨i,a⟩ ⟨i',a'⟩ ⟨h1,h2⟩;simp only at h1 h2;subst h1;unfold D5;simp only;cases decide (i<(List.length [v.From,v.To]:Int)) with
 |false=>exact .inr (.inr ⟨_,_,rfl,rfl,h2⟩)
 |true =>
  simp only[ite',Cj];cases at? [v.From,v.To] i with
  |none=>exact .inl ⟨rfl,rfl⟩
  |some x1 =>
   simp only[bd];cases (bif (bif (decide (v.Gauge=g)) then(decide (t.From<x1)) else false) then(decide (x1<t.To)) else false) with
   |true =>
    cases hc:As .i64 (i+1) with
    |false=>exact .inl ⟨rfl,rfl⟩
    |true=>exact .inr (.inl ⟨_,_,rfl,rfl,rfl,h2.put _⟩)
   |false =>
    cases hc:As .i64 (i+1) with
    |false=>exact .inl ⟨rfl,rfl⟩
    |true=>exact .inr (.inl ⟨_,_,rfl,rfl,rfl,h2⟩)
theorem xU{g:Int}{l:List Ac}{t:Aw}{m m':List (Int×Bool)}(h:mEq m m') : (lp (Er g l t) (0,m)=none/\lp (Er g l t) (0,m')=none)\/∃o o',lp (Er g l t) (0,m)=some o/\lp (Er g l t) (0,m')=some o'/\mEq o o':=by
 refine XG (O:=Int×List (Int×Bool)) (ω:=List (Int×Bool)) (fun s s'=>s.1=s'.1/\mEq s.2 s'.2) mEq ?_ ⟨rfl,h⟩;rintro⟨i,a⟩ ⟨i',a'⟩ ⟨h1,h2⟩;simp only at h1 h2;subst h1;unfold Er;simp only;cases decide (i<(List.length l:Int)) with
 |false=>exact .inr (.inr ⟨_,_,rfl,rfl,h2⟩)
 |true =>
  simp only[ite',Cj];cases at? l i with
  |none=>exact .inl ⟨rfl,rfl⟩
  |some x1 =>
   show(bd (lp (D5 g t x1) (0,a)) _=none/\bd (lp (D5 g t x1) (0,a')) _=none)\/_;rcases xT (g:=g) (t:=t) (v:=x1) h2 with ⟨e,e'⟩|⟨o,o',e,e',k⟩
   ·left;rw[e,e'];exact⟨rfl,rfl⟩
   ·have q:∀(b:List (Int×Bool)) (p:List (Int×Bool)),lp (D5 g t x1) (0,b)=some p->(bd (lp (D5 g t x1) (0,b)) fun m1'=>ck (As .i64 (i+1)) (some (Sum.inl (i+1,m1')):Option ((Int×List (Int×Bool))⊕List (Int×Bool))))=ck (As .i64 (i+1)) (some (.inl (i+1,p))):=fun b p h=>by rw[h];rfl
    rcases Bool.eq_false_or_eq_true (As .i64 (i+1)) with hc|hc
    ·exact .inr (.inl ⟨(i+1,o),(i+1,o'),(q _ _ e).trans (by rw[hc];rfl),(q _ _ e').trans (by rw[hc];rfl),rfl,k⟩)
    ·exact .inl ⟨(q _ _ e).trans (by rw[hc];rfl),(q _ _ e').trans (by rw[hc];rfl)⟩
theorem wO{l0:List Ac}{gauge1:Int}{t2:Aw}{m:List (Int×Bool)}(h:m=mput keqI (mput keqI [] t2.From true) t2.To true\/m=mput keqI (mput keqI [] t2.To true) t2.From true) :
  RK m l0 gauge1 t2=Hu l0 gauge1 t2:=by
 have key:mEq m (mput keqI (mput keqI [] t2.From true) t2.To true):=by
  rcases h with rfl|rfl
  ·exact⟨(mEq.two _ _).1,(mEq.two _ _).1,.refl _⟩
  ·exact⟨(mEq.two _ _).1,(mEq.two _ _).2.1,(mEq.two _ _).2.2⟩
 unfold RK Hu;rcases xU (g:=gauge1) (l:=l0) (t:=t2) key with ⟨e,e'⟩|⟨o,o',e,e',k⟩
 ·rw[e,e']
 ·rw[e,e'];show bd (CG (List.map _ o)) _=bd (CG (List.map _ o')) _;rw[Xw (k.2.2.map _)]
end Go.Am

