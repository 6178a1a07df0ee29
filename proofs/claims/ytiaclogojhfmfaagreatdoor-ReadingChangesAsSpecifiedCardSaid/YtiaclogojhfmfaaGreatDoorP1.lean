/- Part P1: an iterator of this seat. No condition. -/
import Derived.Test.YtiaclogojhfmfaaGreatDoorT4
import Derived.Test.YtiaclogojhfmfaaGreatDoorR1
set_option linter.unusedSectionVars false
set_option linter.unusedSimpArgs false
set_option linter.unusedVariables false
namespace Go.Am
def MD:List Ay:=[⟨some 26,.mkmap 1,none⟩,⟨some 27,.faddr 0 (.t 8),none⟩,⟨some 28,.load false 1 (.t 27),none⟩,⟨none,.mupd 1 (.t 26) (.t 28) (.c (.bool true)),none⟩,⟨some 29,.faddr 1 (.t 8),none⟩,⟨some 30,.load false 1 (.t 29),none⟩,⟨none,.mupd 1 (.t 26) (.t 30) (.c (.bool true)),none⟩,⟨some 31,.mv (.t 26),none⟩,⟨some 12,.mv (.t 31),none⟩]
def pcPr:List (List Nat):=[[],[],[1],[0,2,1],[],[4],[0,5,4],[3,2,1,6,0,5,4],[7,3,2,1,6,0,5,4]]
theorem gset{t:List Aa}{d:Nat}(h:d<t.length)(v:Aa)(j:Nat):(t.set d v).getD j .top=if j=d then v else t.getD j .top:=by
 simp only[JF,J7];by_cases e:d=j
 ·subst e;simp[h]
 ·have e':¬j=d:=fun k=>e k.symm;simp[e,e']
theorem MM(h:Aw)(o:Aj):hset h 1 o 1=o:=An rfl
section
variable [Tab][TabOk]
structure PG(f t:Int)(e0 e:Nat)(S0:Av)(L:Nat->Bool)(S:Av):Prop where
 len:S.t.length=S0.t.length
 oth:∀j,j≠12->(j<26\/31<j)->S.t.getD j .top=S0.t.getD j .top
 hh:∀i,i≠1->S.h i=S0.h i
 ds:S.ds=S0.ds
 b0:L 0=false->S.h 1=S0.h 1
 s0:L 0=true->S.t.getD 26 .top=.mp 1 e
 s1:L 1=true->S.t.getD 27 .top=.ptr 0 e0 0
 s2:L 2=true->S.t.getD 28 .top=.int .i64 f
 s4:L 4=true->S.t.getD 29 .top=.ptr 0 e0 1
 s5:L 5=true->S.t.getD 30 .top=.int .i64 t
 s7:L 7=true->S.t.getD 31 .top=.mp 1 e
 s8:L 8=true->S.t.getD 12 .top=.mp 1 e
 p3:L 0=false->L 3=false/\L 6=false
 mm:L 0=true->∃m,S.h 1=.amap e (mEs (.int .i64) .bool m)/\((L 3=false/\L 6=false/\m=[])\/(L 3=true/\L 6=false/\m=[(f,true)])\/(L 3=false/\L 6=true/\m=[(t,true)])\/(L 3=true/\L 6=true/\(m=mput keqI [(f,true)] t true\/m=mput keqI [(t,true)] f true)))
theorem PG.slot{f t:Int}{e0 e:Nat}{S0 S:Av}{L L':Nat->Bool}(G:PG f t e0 e S0 L S)(hl:32<S0.t.length)(i d:Nat)(v:Aa)(hL:∀j,L' j=(L j||j==i))(hi:i≠0/\i≠3/\i≠6)(hd:d=12\/26<=d/\d<=31) (c:i=1/\d=27/\v=.ptr 0 e0 0\/i=2/\d=28/\v=.int .i64 f\/i=4/\d=29/\v=.ptr 0 e0 1\/i=5/\d=30/\v=.int .i64 t\/i=7/\d=31/\v=.mp 1 e\/i=8/\d=12/\v=.mp 1 e) :
  PG f t e0 e S0 L' ⟨putT S.t (some d) v,putH S.h none,S.ds⟩:=by
 have dj:d<S.t.length:=by rw[G.len];omega
 have l0:L' 0=L 0:=by rw[hL,(by simp;omega:(0==i)=false),L3]
 have l3:L' 3=L 3:=by rw[hL,(by simp;omega:(3==i)=false),L3]
 have l6:L' 6=L 6:=by rw[hL,(by simp;omega:(6==i)=false),L3]
 have g:∀j,(putT S.t (some d) v).getD j .top=if j=d then v else S.t.getD j .top:=gset dj v
 have key:∀(k s:Nat) (u:Aa),(L k=true->S.t.getD s .top=u)->(k=i->d=s/\v=u)->(d=s->k=i)->L' k=true->(putT S.t (some d) v).getD s .top=u:=fun k s u h1 h2 h3 h4=>by
  rw[g];by_cases e:s=d
  ·rw[An e];exact(h2 (h3 e.symm)).2
  ·rw[Ak e];refine h1 ?_;rw[hL]at h4;have:(k==i)=false:=by simp only[beq_eq_false_iff_ne];intro h;exact e (h2 h).1.symm
   rw[this,L3]at h4;exact h4
 refine⟨by rw[<-G.len];simp[putT],fun j h1 h2=>?_,G.hh,G.ds,fun h=>G.b0 (l0▸h),fun h=>?_,key 1 27 _ G.s1 ?_ ?_,key 2 28 _ G.s2 ?_ ?_,key 4 29 _ G.s4 ?_ ?_,key 5 30 _ G.s5 ?_ ?_,key 7 31 _ G.s7 ?_ ?_,key 8 12 _ G.s8 ?_ ?_,by rw[l0,l3,l6];exact G.p3,by rw[l0,l3,l6];exact G.mm⟩
 ·rw[g,Ak (by omega)];exact G.oth j h1 h2
 ·rw[g,Ak (by omega)];exact G.s0 (l0▸h)
 all_goals first
  |(intro k;subst k;rcases c with ⟨h,h1,h2⟩|⟨h,h1,h2⟩|⟨h,h1,h2⟩|⟨h,h1,h2⟩|⟨h,h1,h2⟩|⟨h,h1,h2⟩<;>first|exact⟨h1,h2⟩|exact absurd h (by decide))
  |(intro k;omega)
theorem Ww{id ep:Nat}{x k v:Ad}{ar:Ad->Aa}{hh:Aw}{a:Int}{m:List (Int×Bool)}(h1:ar x=.mp id ep)(h2:ar k=.int .i64 a)(h3:ar v=.bool true)(h4:hh id=.amap ep (mEs (.int .i64) .bool m)) : (Al.mupd 1 x k v).req ar hh=⟨ep=ep/\(Aa.int .i64 a).kkind=1,[id],.top,some (id,.amap ep (mEs (.int .i64) .bool (mput keqI m a true)))⟩:=by
 have q2:isK (.int .i64) 1=true:=rfl;obtain⟨rr,f1,f2⟩:=MN (k:=.int .i64) (v:=.bool) q2 a m 0;have f1:BK (.int .i64 a) (mEs (.int .i64) .bool m) 0=some rr:=f1;show FY 1 (ar x) (ar k) (ar v) hh=_;unfold FY;rcases f2 with ⟨rfl,_,g⟩|⟨j,y,rfl,_,g⟩
 ·have g:=g true;have g:mEs (.int .i64) .bool (mput keqI m a true)=mEs (.int .i64) .bool m++[(.int .i64 a,.bool true)]:=g;simp only[h1,h2,h3,h4,f1,g]
 ·have g:=g true;have g:mEs (.int .i64) .bool (mput keqI m a true)=(mEs (.int .i64) .bool m).set j (.int .i64 a,.bool true):=g
  simp only[h1,h2,h3,h4,f1,g,Ci]
theorem jzxa{P:Program}{E:Nat->Aa}{ρ:Option Nat}{f t:Int}{e0:Nat}{S0:Av}{Q:Exit->Av->Prop}(hl:32<S0.t.length)(hp:S0.t.getD 8 .top=.ptr 0 e0 0)(hb:S0.h 0=.box e0 [.int .i64 f,.int .i64 t])(h1:(S0.h 1).plain)(fin:∀m L S,PG f t e0 ((S0.h 1).ep+1) S0 L S->S.t.getD 12 .top=.mp 1 ((S0.h 1).ep+1)->S.h 1=.amap ((S0.h 1).ep+1) (mEs (.int .i64) .bool m)->(m=mput keqI (mput keqI [] f true) t true\/m=mput keqI (mput keqI [] t true) f true)->Q .normal S) :
  AW E ρ P (.reg true MD pcPr) Q S0:=by
 refine AW.drawG (PG f t e0 ((S0.h 1).ep+1) S0) ⟨rfl,fun _ _ _=>rfl,fun _ _=>rfl,rfl,fun _=>rfl,fun h=>(by cases h),fun h=>(by cases h),fun h=>(by cases h),fun h=>(by cases h),fun h=>(by cases h),fun h=>(by cases h),fun h=>(by cases h),fun _=>⟨rfl,rfl⟩,fun h=>(by cases h)⟩ ?_ ?_
 ·intro L S i ao G dJ iQ hi;have g8:S.t.getD 8 .top=.ptr 0 e0 0:=by rw[G.oth 8 (by decide) (by decide)];exact hp
  have g0:S.h 0=.box e0 [.int .i64 f,.int .i64 t]:=by rw[G.hh 0 (by decide)];exact hb
  have aD:=G.len
  match i,hi with
  |0,hi =>
   cases hi;have ku:=G.b0 iQ;have p3:=G.p3 iQ;have aC:(Al.mkmap 1).req (Ag E S.t) S.h=⟨(S.h 1).plain,[1],.mp 1 ((S0.h 1).ep+1),some (1,.amap ((S0.h 1).ep+1) [])⟩:=by show(⟨(S.h 1).plain,[1],.mp 1 ((S.h 1).ep+1),some (1,.amap ((S.h 1).ep+1) [])⟩:Req)=_;rw[ku]
   refine⟨.mp 1 ((S0.h 1).ep+1),[1],some (1,.amap ((S0.h 1).ep+1) []),.inl (by show(((Al.mkmap 1).req (Ag E S.t) S.h).ok/\VEq _ _/\_);rw[aC];exact⟨ku▸h1,.refl _,fun j hj=>hj,.refl _,fun i ob e=>by cases e;exact Bi.2 rfl⟩),fun L' bK=>?_⟩;have g:∀j,(putT S.t (some 26) (.mp 1 ((S0.h 1).ep+1))).getD j .top=if j=26 then .mp 1 ((S0.h 1).ep+1) else S.t.getD j .top:=gset (by omega) _;have hs:∀j,j≠0->L' j=L j:=fun j hj=>by rw[bK,(by simpa using hj:(j==0)=false),L3]
   have l0:L' 0=true:=by rw[bK];simp
   refine⟨by rw[<-aD];simp[putT],fun j k1 k2=>?_,fun j hj=>?_,G.ds,fun h=>(by rw[l0]at h;cases h),fun _=>?_,fun h=>?_,fun h=>?_,fun h=>?_,fun h=>?_,fun h=>?_,fun h=>?_,fun h=>(by rw[l0]at h;cases h),fun _=>⟨[],?_,.inl ⟨?_,?_,rfl⟩⟩⟩
   ·rw[g,Ak (by omega)];exact G.oth j k1 k2
   ·show hset S.h 1 _ j=_;unfold hset;rw[Ak hj];exact G.hh j hj
   ·rw[g,An rfl]
   ·rw[g,Ak (by decide)];exact G.s1 (hs 1 (by decide)▸h)
   ·rw[g,Ak (by decide)];exact G.s2 (hs 2 (by decide)▸h)
   ·rw[g,Ak (by decide)];exact G.s4 (hs 4 (by decide)▸h)
   ·rw[g,Ak (by decide)];exact G.s5 (hs 5 (by decide)▸h)
   ·rw[g,Ak (by decide)];exact G.s7 (hs 7 (by decide)▸h)
   ·rw[g,Ak (by decide)];exact G.s8 (hs 8 (by decide)▸h)
   ·exact MM S.h _
   ·rw[hs 3 (by decide)];exact p3.1
   ·rw[hs 6 (by decide)];exact p3.2
  |1,hi =>
   cases hi;refine⟨.ptr 0 e0 0,[0],none,.inl ?_,fun L' bK=>G.slot hl 1 27 _ bK (by decide) (by decide) (by simp)⟩;show((Al.faddr 0 (.t 8)).req (Ag E S.t) S.h).ok/\VEq _ _/\_;have aC:(Al.faddr 0 (.t 8)).req (Ag E S.t) S.h=⟨e0=(S.h 0).ep,[0],.ptr 0 e0 0,none⟩:=by simp only[Al.req,Ag,g8,GJ]
   rw[aC];exact⟨by rw[g0];rfl,.refl _,fun j hj=>hj,.refl _,fun i ob e=>by cases e⟩
  |2,hi =>
   cases hi;have k1:=G.s1 (dJ 1 (by decide));refine⟨.int .i64 f,[0],none,.inl ?_,fun L' bK=>G.slot hl 2 28 _ bK (by decide) (by decide) (by simp)⟩;show((Al.load false 1 (.t 27)).req (Ag E S.t) S.h).ok/\VEq _ _/\_;have aC:(Al.load false 1 (.t 27)).req (Ag E S.t) S.h=⟨e0=e0/\0+1<=2/\(false=false->1=1),[0],.int .i64 f,none⟩:=by simp only[Al.req,CP,Ag,k1,g0];rfl
   rw[aC];exact⟨⟨rfl,by decide,fun _=>rfl⟩,.refl _,fun j hj=>hj,.refl _,fun i ob e=>by cases e⟩
  |4,hi =>
   cases hi;refine⟨.ptr 0 e0 1,[0],none,.inl ?_,fun L' bK=>G.slot hl 4 29 _ bK (by decide) (by decide) (by simp)⟩;show((Al.faddr 1 (.t 8)).req (Ag E S.t) S.h).ok/\VEq _ _/\_;have aC:(Al.faddr 1 (.t 8)).req (Ag E S.t) S.h=⟨e0=(S.h 0).ep,[0],.ptr 0 e0 1,none⟩:=by simp only[Al.req,Ag,g8,Ci]
   rw[aC];exact⟨by rw[g0];rfl,.refl _,fun j hj=>hj,.refl _,fun i ob e=>by cases e⟩
  |5,hi =>
   cases hi;have k1:=G.s4 (dJ 4 (by decide));refine⟨.int .i64 t,[0],none,.inl ?_,fun L' bK=>G.slot hl 5 30 _ bK (by decide) (by decide) (by simp)⟩;show((Al.load false 1 (.t 29)).req (Ag E S.t) S.h).ok/\VEq _ _/\_;have aC:(Al.load false 1 (.t 29)).req (Ag E S.t) S.h=⟨e0=e0/\1+1<=2/\(false=false->1=1),[0],.int .i64 t,none⟩:=by simp only[Al.req,CP,Ag,k1,g0];rfl
   rw[aC];exact⟨⟨rfl,by decide,fun _=>rfl⟩,.refl _,fun j hj=>hj,.refl _,fun i ob e=>by cases e⟩
  |7,hi =>
   cases hi;have k1:=G.s0 (dJ 0 (by decide));refine⟨.mp 1 ((S0.h 1).ep+1),[],none,.inl ?_,fun L' bK=>G.slot hl 7 31 _ bK (by decide) (by decide) (by simp)⟩;show((Al.mv (.t 26)).req (Ag E S.t) S.h).ok/\VEq _ _/\_;have aC:(Al.mv (.t 26)).req (Ag E S.t) S.h=.val (.mp 1 ((S0.h 1).ep+1)):=by simp only[Al.req,Ag,k1]
   rw[aC];exact⟨trivial,.refl _,fun j hj=>hj,.refl _,fun i ob e=>by cases e⟩
  |8,hi =>
   cases hi;have k1:=G.s7 (dJ 7 (by decide));refine⟨.mp 1 ((S0.h 1).ep+1),[],none,.inl ?_,fun L' bK=>G.slot hl 8 12 _ bK (by decide) (by decide) (by simp)⟩;show((Al.mv (.t 31)).req (Ag E S.t) S.h).ok/\VEq _ _/\_;have aC:(Al.mv (.t 31)).req (Ag E S.t) S.h=.val (.mp 1 ((S0.h 1).ep+1)):=by simp only[Al.req,Ag,k1]
   rw[aC];exact⟨trivial,.refl _,fun j hj=>hj,.refl _,fun i ob e=>by cases e⟩
  |3,hi =>
   cases hi;have c0:=dJ 0 (by decide);have k0:=G.s0 c0;have k1:=G.s2 (dJ 2 (by decide));obtain⟨m,hm,hc⟩:=G.mm c0;refine⟨.top,[1],some (1,.amap ((S0.h 1).ep+1) (mEs (.int .i64) .bool (mput keqI m f true))),.inl ?_,fun L' bK=>?_⟩
   ·show((Al.mupd 1 (.t 26) (.t 28) (.c (.bool true))).req (Ag E S.t) S.h).ok/\VEq _ _/\_;rw[Ww (k0:Ag E S.t (.t 26)=_) (k1:Ag E S.t (.t 28)=_) rfl hm];exact⟨⟨rfl,rfl⟩,.refl _,fun j hj=>hj,.refl _,fun i ob e=>by cases e;exact Bi.2 rfl⟩
   ·have hs:∀j,j≠3->L' j=L j:=fun j hj=>by rw[bK,(by simpa using hj:(j==3)=false),L3]
    have l3:L' 3=true:=(by rw[bK];simp);have l0:L' 0=true:=(by rw[hs 0 (by decide)];exact c0);refine⟨aD,G.oth,fun j hj=>?_,G.ds,fun h=>(by rw[l0]at h;cases h),fun _=>k0,fun h=>G.s1 (hs 1 (by decide)▸h),fun h=>G.s2 (hs 2 (by decide)▸h),fun h=>G.s4 (hs 4 (by decide)▸h),fun h=>G.s5 (hs 5 (by decide)▸h),fun h=>G.s7 (hs 7 (by decide)▸h),fun h=>G.s8 (hs 8 (by decide)▸h),fun h=>(by rw[l0]at h;cases h),fun _=>⟨mput keqI m f true,?_,?_⟩⟩
    ·show hset S.h 1 _ j=_;unfold hset;rw[Ak hj];exact G.hh j hj
    ·exact MM S.h _
    ·rw[hs 6 (by decide),l3];rcases hc with ⟨_,b,rfl⟩|⟨a,_,_⟩|⟨_,b,rfl⟩|⟨a,_,_⟩
     ·exact .inr (.inl ⟨rfl,b,rfl⟩)
     ·rw[iQ]at a;cases a
     ·exact .inr (.inr (.inr ⟨rfl,b,.inr rfl⟩))
     ·rw[iQ]at a;cases a
  |6,hi =>
   cases hi;have c0:=dJ 0 (by decide);have k0:=G.s0 c0;have k1:=G.s5 (dJ 5 (by decide));obtain⟨m,hm,hc⟩:=G.mm c0;refine⟨.top,[1],some (1,.amap ((S0.h 1).ep+1) (mEs (.int .i64) .bool (mput keqI m t true))),.inl ?_,fun L' bK=>?_⟩
   ·show((Al.mupd 1 (.t 26) (.t 30) (.c (.bool true))).req (Ag E S.t) S.h).ok/\VEq _ _/\_;rw[Ww (k0:Ag E S.t (.t 26)=_) (k1:Ag E S.t (.t 30)=_) rfl hm];exact⟨⟨rfl,rfl⟩,.refl _,fun j hj=>hj,.refl _,fun i ob e=>by cases e;exact Bi.2 rfl⟩
   ·have hs:∀j,j≠6->L' j=L j:=fun j hj=>by rw[bK,(by simpa using hj:(j==6)=false),L3]
    have l6:L' 6=true:=(by rw[bK];simp);have l0:L' 0=true:=(by rw[hs 0 (by decide)];exact c0);refine⟨aD,G.oth,fun j hj=>?_,G.ds,fun h=>(by rw[l0]at h;cases h),fun _=>k0,fun h=>G.s1 (hs 1 (by decide)▸h),fun h=>G.s2 (hs 2 (by decide)▸h),fun h=>G.s4 (hs 4 (by decide)▸h),fun h=>G.s5 (hs 5 (by decide)▸h),fun h=>G.s7 (hs 7 (by decide)▸h),fun h=>G.s8 (hs 8 (by decide)▸h),fun h=>(by rw[l0]at h;cases h),fun _=>⟨mput keqI m t true,?_,?_⟩⟩
    ·show hset S.h 1 _ j=_;unfold hset;rw[Ak hj];exact G.hh j hj
    ·exact MM S.h _
    ·rw[hs 3 (by decide),l6];rcases hc with ⟨b,_,rfl⟩|⟨b,_,rfl⟩|⟨_,a,_⟩|⟨_,a,_⟩
     ·exact .inr (.inr (.inl ⟨b,rfl,rfl⟩))
     ·exact .inr (.inr (.inr ⟨b,rfl,.inl rfl⟩))
     ·rw[iQ]at a;cases a
     ·rw[iQ]at a;cases a
  |n+9,hi=>cases hi
 ·intro L S G hL;have hL:∀j,j<9->L j=true:=hL;obtain⟨m,hm,hc⟩:=G.mm (hL 0 (by decide));refine fin m L S G (G.s8 (hL 8 (by decide))) hm ?_;rcases hc with ⟨a,_,_⟩|⟨_,a,_⟩|⟨a,_,_⟩|⟨_,_,a⟩
  ·rw[hL 3 (by decide)]at a;cases a
  ·rw[hL 6 (by decide)]at a;cases a
  ·rw[hL 3 (by decide)]at a;cases a
  ·exact a
end
theorem TSub.pw:∀{l l':List Aa},l.length=l'.length->(∀j,VSub (l.getD j .top) (l'.getD j .top))->TSub l l'
 |[],[],_,_=>trivial
 |[],_ :: _,h,_=>by cases h
 |_ :: _,[],h,_=>by cases h
 |x :: l,y :: l',h,k=>⟨k 0,TSub.pw (by simpa using h) fun j=>by simpa using k (j+1)⟩
section
variable [Tab]
def pcT(T:Ap)(m:List (Int×Bool)):Ap:=putS (putO T 1 (.map (.int .i64) .bool m) false) (some 12) (.v (.mp 1 T.nx))
variable [TabOk]
theorem jzv7{H:List Fe}{ty:List (Nat×CT)}{rs:List ARes}{α:Type}{K:Exit->Ap->Option α}{y:α}{B:Phi}{T:Ap}{rest:Bb}{h3:HT}{st:Nat}{f t:Int}(hI:InvT B T) (hg:T.gs=[]) (hb:T.b=0) (hn:T.n=132) (l8:Ai T.t 8=.v (.ptr 0 st 0)) (l0:Af T.h 0=some (st,.box [.int .i64 f,.int .i64 t])) (hf:∀j,26<=j->j<=31->Ai T.t j=.v (.s .top))(hk:∀m,(m=mput keqI (mput keqI [] f true) t true\/m=mput keqI (mput keqI [] t true) f true)->AX H ty rs rest α h3 (pcT T m) K=some y) :
  AW TabT.E none TabT.P (.seq (.reg true MD pcPr) rest) (FinT K y B T) (em B T):=by
 have aD:(em B T).t.length=132:=by rw[<-hn];exact CX _ _
 have eH:inR T.b 1=true:=by rw[hb];decide
 refine .seq (jzxa (f:=f) (t:=t) (e0:=(B 0 st).ep) (by omega) (by rw[em_t hI,l8];rfl) (by rw[EH l0];rfl) (I9 hI 1 eH) fun m L S G g12 gh hm=>?_);show AW TabT.E none TabT.P rest (FinT K y B T) S
 let ob:TO:=.map (.int .i64) .bool m
 let Gh0:GG:=⟨((em B T).h 1).ep+1,0,fun _=>[]⟩
 obtain⟨i1,l1,e1⟩:=IA (G:=Gh0) (ob:=ob) (re:=false) hI eH trivial trivial (fun e=>by cases e) rfl;have ht:TOk (upd B 1 T.nx Gh0) (putO T 1 ob false) (.v (.mp 1 T.nx)):=⟨(CC T.nx:T.nx<T.nx+1),trivial⟩;have hd:BM (putO T 1 ob false) (some 12)=true:=by show Ab (Nat.blt 12 T.n) (!memN 12 T.gs) false=true;rw[hn,hg];rfl
 have i2:=C6 i1 hd ht;have l2:=l1.trans (Cr (B:=upd B 1 T.nx Gh0) (T:=putO T 1 ob false) (d:=some 12) (x:=.v (.mp 1 T.nx)));have e2:em (upd B 1 T.nx Gh0) (pcT T m)=⟨(em B T).t.set 12 (.mp 1 (((em B T).h 1).ep+1)),hset (em B T).h 1 (.amap (((em B T).h 1).ep+1) (mEs (.int .i64) .bool m)),B.ds⟩:=by show em _ (putS (putO T 1 ob false) (some 12) (.v (.mp 1 T.nx)))=_;rw[D4,e1];show Av.mk ((em B T).t.set 12 (.mp 1 ((upd B 1 T.nx Gh0) 1 T.nx).ep)) (hset (em B T).h 1 (.amap (((em B T).h 1).ep+1) (mEs (.int .i64) .bool m))) B.ds=_;rw[show(upd B 1 T.nx Gh0) 1 T.nx=Gh0 from BA]
 have ma:See TabT.E S (em (upd B 1 T.nx Gh0) (pcT T m)):=by
  rw[e2];refine .of_sub ⟨TSub.pw (by rw[G.len];simp) fun j=>?_,fun i=>?_,G.ds.symm,fun D hD=>?_⟩
  ·show VSub _ (((em B T).t.set 12 _).getD j .top);rw[gset (by omega)];by_cases mb:j=12
   ·subst mb;rw[An rfl,g12];exact .refl _
   ·rw[Ak mb];by_cases hj:j<26\/31<j
    ·rw[G.oth j mb hj];exact .refl _
    ·left;rw[em_t hI,hf j (by omega) (by omega)];rfl
  ·show OSub (S.h i) (hset (em B T).h 1 _ i);by_cases h1:i=1
   ·subst h1;rw[MM,gh];exact .refl _
   ·unfold hset;rw[Ak h1,G.hh i h1];exact .refl _
  ·have:=IB i2 D (show D∈(em _ _).ds from by
    show D∈B.ds;have h:S.ds=B.ds:=G.ds;rw[<-h];exact hD)
   exact(congrFun (Ef Av.h e2) D.1).symm.trans this
 refine .see ma ((CK (h:=h3) (hk m hm) i2 hg fun _=>rfl).mono fun e S' h=>.step l2 h)
def kS:Exit->Ap->Option Ap:=fun e T=>match e with
 |.normal=>some T
 |_=>none
theorem Wx{e:Exit}{T T1:Ap}(h:kS e T=some T1):e=.normal/\T=T1:=by cases e<;>cases h;exact⟨rfl,rfl⟩
theorem jzvm{rs:List ARes}{n:Nat}{ac:Bb}{Q:Qc}{fn:Func}{c:Code}(hE:∀i,AF (TabT.E i))(hf:TabT.P.funcs[Q.f]?=some fn) (hb:fn.body=some c) (hr:Eh TabT.P fn.results.toList rs=true) (hc:A8 TabT.P c ac=true) (hn:fn.ntmps=n) (hl:Q.a.length<=n) (he:CD TabT.P Q.f=true)(ht:∀x y,Q.F x=some y->InvT BZ (iniT n Q.a Q.p x)->AW TabT.E none TabT.P ac (FinT (resQ Q.S rs) y BZ (iniT n Q.a Q.p x)) (em BZ (iniT n Q.a Q.p x))):QcOk Q:=by
 refine⟨he,fun x y hy=>?_⟩;have aD:(prmS Q.a Q.p x).length=Q.a.length:=KH _ _ _
 have hw:AW TabT.E none TabT.P ac (Post TabT.E rs (fun v _=>W v (.fn Q.S.f 0 (Au (prmS Q.S.a Q.S.p y))))) (em BZ (iniT n Q.a Q.p x)):=by
  refine(ht x y hy (Wy hl)).mono ?_;rintro e S ⟨B',T',k1,k2,k3,k4,k5⟩;cases e with
  |ret =>
   have k1:(match resS T' rs with | some [.fn f 0 caps]=>Ab (Nat.beq f Q.S.f) (KI Q.S.a Q.S.p caps) none | _=>none)=some y:=k1;split at k1
   ·rename_i f caps hl;obtain⟨p,k1⟩:=Aq k1;obtain⟨q1,q2⟩:=MO k2 hl;refine⟨em B' T',k5,q1,fun i=>.gone ((em B' T').h i).ep,fun i=>.inl rfl,fun D _=>⟨_,rfl⟩,?_⟩;rw[Wz q2,<-As.1 p];have hw:=QP k1;exact .fn _ _ _ _ hw.at.1 hw.at.2
   ·cases k1
  |_=>cases k1
 rw[W0 hl]at hw;have hp:Pure TabT.E TabT.P Q.f (Au (prmS Q.a Q.p x)) (.fn Q.S.f 0 (Au (prmS Q.S.a Q.S.p y))):=ATr.rw (ATr.of hf hb hr hc (n-Q.a.length) (by rw[hn,Bg,aD]) hw);exact hp.still hE (EI _) (.fn _ _ _ (EI _))
theorem jzua{Q:Qc}{fn:Func}{ac:Bb}(hE:∀i,AF (TabT.E i))(sm:List (Nat×Nat))(hf:TabT.P.funcs[Q.f]?=some fn)(he:CD TabT.P Q.f=true)(hc:ckF TabT.P sm fn Q.a.length=true)(ha:cF TabT.P sm fn=ac)(ht:∀x y,Q.F x=some y->InvT BZ (iniT fn.ntmps Q.a Q.p x)->AW TabT.E none TabT.P ac (FinT (resQ Q.S (cRs TabT.P fn.results.toList)) y BZ (iniT fn.ntmps Q.a Q.p x)) (em BZ (iniT fn.ntmps Q.a Q.p x))):QcOk Q:=by
 unfold ckF at hc;unfold cF at ha;split at hc
 ·rename_i c hb;rw[hb]at ha;obtain⟨h1,hc⟩:=A9 hc;obtain⟨h2,hc⟩:=A9 hc;exact jzvm hE hf hb h2 (ha▸h1) rfl (HA hc) he ht
 ·cases hc
theorem jzwu{H:List Fe}{ty:List (Nat×CT)}{rs:List ARes}{α:Type}{K:Exit->Ap->Option α}{y:α}{B:Phi}{T T1 T2:Ap}{r0 r1 rest:Bb}{h3:HT}{st:Nat}{f t:Int}(hI:InvT B T) (hg:T.gs=[]) (h1:AX H ty rs r0 Ap .n T kS=some T1) (h2:AX H ty rs r1 Ap .n T1 kS=some T2) (hb:T2.b=0) (hn:T2.n=132) (l8:Ai T2.t 8=.v (.ptr 0 st 0)) (l0:Af T2.h 0=some (st,.box [.int .i64 f,.int .i64 t])) (hf:∀j,26<=j->j<=31->Ai T2.t j=.v (.s .top))(hk:∀m,(m=mput keqI (mput keqI [] f true) t true\/m=mput keqI (mput keqI [] t true) f true)->AX H ty rs rest α h3 (pcT T2 m) K=some y) :
  AW TabT.E none TabT.P (.seq r0 (.seq r1 (.seq (.reg true MD pcPr) rest))) (FinT K y B T) (em B T):=by
 refine .seq ((CK h1 hI hg fun _=>rfl).mono ?_);rintro e S ⟨B1,T',k1,k2,k3,k4,k5⟩;obtain⟨rfl,rfl⟩:=Wx k1;refine .see k5 (.seq ((CK h2 k2 k4 fun _=>rfl).mono ?_));rintro e S ⟨B2,T'',j1,j2,j3,j4,j5⟩;obtain⟨rfl,rfl⟩:=Wx j1;exact .see j5 ((jzv7 j2 j4 hb hn l8 l0 hf hk).mono fun e S' h=>.step (k3.trans j3) h)
end
def QD(m0:List (Int×Bool))(l0:List Ae)(vs1:List Ah)(gauge2:Int)(t3:At)(known4:Int):Option ((List Int)×(List Int)) :=
 bd (lp (FB gauge2 known4 l0 t3 vs1) (0,m0,[]))<|fun(m1,l5) =>
 bd (Dz m1) fun r2 =>
 ck (mkOk (List.length r2:Int) 8) <|
 bd (lp (I3 r2) (0,(List.replicate (Int.toNat (List.length r2:Int)) 0)))<|fun l7 =>
 bd (lp (M9 l5 r2) (0,l7))<|fun l7' =>
 some (r2,l7')
theorem jzvx{O ω:Type}{b b':O->Option (O⊕ω)}(R:O->O->Prop)(U:ω->ω->Prop)(step:∀s s',R s s'->(b s=none/\b' s'=none)\/(∃t t',b s=some (.inl t)/\b' s'=some (.inl t')/\R t t')\/(∃o o',b s=some (.inr o)/\b' s'=some (.inr o')/\U o o')) {s s':O} (h:R s s') : (lp b s=none/\lp b' s'=none)\/∃o o',lp b s=some o/\lp b' s'=some o'/\U o o':=by
 have key:∀(n:Nat) (s s':O),R s s'->(lpN b n s=none/\lpN b' n s'=none)\/∃o o',lpN b n s=some o/\lpN b' n s'=some o'/\U o o':=by
  intro n;induction n with
  |zero=>intro s s' _;exact .inl ⟨rfl,rfl⟩
  |succ n ih =>
   intro s s' h;rcases step s s' h with ⟨e,e'⟩|⟨t,t',e,e',k⟩|⟨o,o',e,e',k⟩
   ·exact .inl ⟨by simp only[lpN,e],by simp only[lpN,e']⟩
   ·rcases ih t t' k with ⟨q,q'⟩|⟨o,o',q,q',u⟩;·exact .inl ⟨by simp only[lpN,e,q],by simp only[lpN,e',q']⟩
    ·exact .inr ⟨o,o',by simp only[lpN,e,q],by simp only[lpN,e',q'],u⟩
   ·exact .inr ⟨o,o',by simp only[lpN,e],by simp only[lpN,e'],k⟩
 unfold lp;exact key _ _ _ h
def allT(m:List (Int×Bool)):Prop:=∀p∈m,p.2=true
theorem MP:∀{m:List (Int×Bool)} {k:Int},allT m->k∈m.map (·.1)->mput keqI m k true=m
 |[],_,_,h=>by cases h
 |p :: l,k,ha,h=>by
  unfold mput;by_cases e:k=p.1
  ·have:keqI k p.1=true:=by simp[keqI,e]
   rw[this];have:=ha p (by simp);obtain⟨a,b⟩:=p;simp only at this e;subst this;subst e;rfl
  ·have:keqI k p.1=false:=by simp[keqI,e]
   rw[this]
   have h':k∈l.map (·.1):=by
    rcases AL.1 h with h|h
    ·exact absurd h e
    ·exact h
   show p :: mput keqI l k true=_;rw[MP (fun q hq=>ha q (by simp[hq])) h']
theorem MQ:∀{m:List (Int×Bool)} {k:Int},k∉m.map (·.1)->mput keqI m k true=m++[(k,true)]
 |[],_,_=>rfl
 |p :: l,k,h=>by
  unfold mput;have e:¬k=p.1:=fun e=>h (by simp[e]);have:keqI k p.1=false:=by simp[keqI,e]
  rw[this];show p :: mput keqI l k true=_;rw[MQ (fun h'=>h (by simp only[JH,AL];exact .inr h'))];rfl
theorem IC{m:List (Int×Bool)}{k:Int}(h:allT m):allT (mput keqI m k true):=by
 by_cases e:k∈m.map (·.1)
 ·rw[MP h e];exact h
 ·rw[MQ e];intro p hp;rcases Bh.1 hp with hp|hp
  ·exact h p hp
  ·cases Bi.1 hp;rfl
def mEq(m m':List (Int×Bool)):Prop:=allT m/\allT m'/\m.Perm m'
theorem mEq.put{m m':List (Int×Bool)}(h:mEq m m')(k:Int):mEq (mput keqI m k true) (mput keqI m' k true):=by
 obtain⟨h1,h2,h3⟩:=h;refine⟨IC h1,IC h2,?_⟩;have hm:k∈m.map (·.1)↔k∈m'.map (·.1):=(h3.map _).mem_iff;by_cases e:k∈m.map (·.1)
 ·rw[MP h1 e,MP h2 (hm.1 e)];exact h3
 ·rw[MQ e,MQ (fun k=>e (hm.2 k))];exact h3.append_right _
theorem mEq.two(f t:Int):mEq (mput keqI (mput keqI [] f true) t true) (mput keqI (mput keqI [] t true) f true):=by
 refine⟨IC (IC fun p h=>by cases h),IC (IC fun p h=>by cases h),?_⟩;show(mput keqI [(f,true)] t true).Perm (mput keqI [(t,true)] f true);by_cases e:f=t
 ·subst e;exact .refl _
 ·have h1:keqI t f=false:=by simp[keqI];omega
  have h2:keqI f t=false:=by simp[keqI];omega
  simp only[mput,h1,h2];exact List.Perm.swap ..
theorem ii_t{a b:Int}{l:List Int}(h:a<=b):Be a (b :: l)=a :: b :: l:=by simp[Be,h]
theorem ii_f{a b:Int}{l:List Int}(h:¬a<=b):Be a (b :: l)=b :: Be a l:=by have:¬a<=b:=h;simp only[Be,this,decide_false,Cm]
theorem W2(a b:Int):∀l,Be a (Be b l)=Be b (Be a l)
 |[]=>by
  show Be a [b]=Be b [a];by_cases h:a<=b
  ·by_cases k:b<=a;·have:a=b:=(by omega);subst this;rfl
   ·rw[ii_t h,ii_f k];rfl
  ·rw[ii_f h,ii_t (by omega)];rfl
 |c :: l=>by
  have ih:=W2 a b l;by_cases ha:a<=c
  ·by_cases hb:b<=c
   ·rw[ii_t ha,ii_t hb];by_cases h:a<=b
    ·by_cases k:b<=a;·have:a=b:=(by omega);subst this;rfl
     ·rw[ii_t h,ii_f k,ii_t hb]
    ·rw[ii_f h,ii_t ha,ii_t (by omega)]
   ·rw[ii_t ha,ii_f hb,ii_t ha,ii_f (by omega),ii_f hb]
  ·by_cases hb:b<=c;·rw[ii_t hb,ii_f ha,ii_t hb,ii_f (by omega),ii_f ha]
   ·rw[ii_f ha,ii_f hb,ii_f ha,ii_f hb,ih]
theorem jzps{l l':List Int}(h:l.Perm l'):BD l=BD l':=by
 induction h with
 |nil=>rfl
 |cons x _ ih=>simp only[BD];rw[ih]
 |swap x y l=>simp only[BD];rw[W2]
 |trans _ _ i j=>exact i.trans j
theorem jztd{m m':List (Int×Bool)}(h:mEq m m'):Dz m=Dz m':=by unfold Dz;rw[jzps (h.2.2.map _),h.2.2.length_eq]
theorem jzsq{gauge2 known4:Int}{l0:List Ae}{t3:At}{vs1:List Ah}{m m':List (Int×Bool)}(h:mEq m m') : (lp (FB gauge2 known4 l0 t3 vs1) (0,m,[])=none/\lp (FB gauge2 known4 l0 t3 vs1) (0,m',[])=none)\/∃o o',lp (FB gauge2 known4 l0 t3 vs1) (0,m,[])=some o/\lp (FB gauge2 known4 l0 t3 vs1) (0,m',[])=some o'/\mEq o.1 o'.1/\o.2=o'.2:=by
 refine jzvx (O:=Int×List (Int×Bool)×List AU) (ω:=List (Int×Bool)×List AU) (fun s s'=>s.1=s'.1/\mEq s.2.1 s'.2.1/\s.2.2=s'.2.2) (fun o o'=>mEq o.1 o'.1/\o.2=o'.2) ?_ ⟨rfl,h,rfl⟩;rintro⟨i,a,l⟩ ⟨i',a',l'⟩ ⟨h1,h2,h3⟩;simp only at h1 h2 h3;subst h1;subst h3;unfold FB;simp only;cases decide (i<(List.length l0:Int)) with
 |false=>exact .inr (.inr ⟨_,_,rfl,rfl,h2,rfl⟩)
 |true =>
  simp only[BS];cases at? l0 i with
  |none=>exact .inl ⟨rfl,rfl⟩
  |some x1 =>
   simp only[Ac];cases (bif (!decide (x1.Gauge=gauge2)) then true else(decide (known4<x1.Known))) with
   |true =>
    simp only[BS,Ac];cases hc:Ax .i64 (i+1) with
    |false=>exact .inl ⟨rfl,rfl⟩
    |true=>exact .inr (.inl ⟨_,_,rfl,rfl,rfl,h2,rfl⟩)
   |false =>
    simp only[AV,Ac];cases I0 x1 vs1 known4 with
    |none=>exact .inl ⟨rfl,rfl⟩
    |some r1 =>
     simp only[Ac];cases decide ((max r1.From t3.From)<(min r1.To t3.To)) with
     |false =>
      simp only[AV];cases hc:Ax .i64 (i+1) with
      |false=>exact .inl ⟨rfl,rfl⟩
      |true=>exact .inr (.inl ⟨_,_,rfl,rfl,rfl,h2,rfl⟩)
     |true =>
      simp only[BS];cases hd:decide (List.length (l++[(AU.mk (At.mk (max r1.From t3.From) (min r1.To t3.To)) x1.Stage)])*24<=140737488355328) with
      |false=>exact .inl ⟨rfl,rfl⟩
      |true =>
       cases hc:Ax .i64 (i+1) with
       |false=>exact .inl ⟨rfl,rfl⟩
       |true=>exact .inr (.inl ⟨_,_,rfl,rfl,rfl,(h2.put _).put _,rfl⟩)
theorem jzt6{l0:List Ae}{vs1:List Ah}{gauge2:Int}{t3:At}{known4:Int}{m:List (Int×Bool)}(h:m=mput keqI (mput keqI [] t3.From true) t3.To true\/m=mput keqI (mput keqI [] t3.To true) t3.From true) :
  QD m l0 vs1 gauge2 t3 known4=Et l0 vs1 gauge2 t3 known4:=by
 have key:mEq m (mput keqI (mput keqI [] t3.From true) t3.To true):=by
  rcases h with rfl|rfl
  ·exact⟨(mEq.two _ _).1,(mEq.two _ _).1,.refl _⟩
  ·exact⟨(mEq.two _ _).1,(mEq.two _ _).2.1,(mEq.two _ _).2.2⟩
 unfold QD Et;rcases jzsq (gauge2:=gauge2) (known4:=known4) (l0:=l0) (t3:=t3) (vs1:=vs1) key with ⟨e,e'⟩|⟨o,o',e,e',k1,k2⟩
 ·rw[e,e']
 ·rw[e,e'];obtain⟨a,b⟩:=o;obtain⟨a',b'⟩:=o';simp only at k1 k2;subst k2;show bd (Dz a) _=bd (Dz a') _;rw[jztd k1]
end Go.Am

