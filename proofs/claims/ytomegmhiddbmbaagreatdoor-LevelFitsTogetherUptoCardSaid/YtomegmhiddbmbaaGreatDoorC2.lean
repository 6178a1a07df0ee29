/- Part C2: contracts of some functions of this seat. No condition. -/
import Derived.Test.YtomegmhiddbmbaaGreatDoorC1
set_option linter.unusedSimpArgs false
set_option linter.unusedVariables false
set_option maxRecDepth 8000
namespace Go.Am
open Go.Proofs
attribute [local simp] areg aop dreg dop Al.req Ae argU Al.args BW Al.unAll Req.val Req.when putT putH AL ablk CS Cp BV unc unv Cy FD ARes.ok Gb ARes.val cut inr Al.quiet
attribute [local simp] Ho Hq Hr IK Hm Hn Wz QY
attribute [local simp] jzeg VSub.refl TSub jzej
attribute [local simp] Ai.plain Ai.owned Ai.ep hset h0 CU C0 Cz Bl Aa.one lay CQ ldv fzv fzl fz1
theorem Rf:∀(n:Nat) (l:List Nat),l.Nodup->(∀x,x∈l->x<n)->l.length<=n
 |0,l,_,h=>by
  cases l with
  |nil=>simp
  |cons x l=>exact absurd (h x (by simp)) (by omega)
 |n+1,l,hd,h=>by
  have h1:=Rf n (l.erase n) (hd.erase n) (fun x hx=>by have h2:=(hd.mem_erase_iff).1 hx;have:=h x h2.2;omega);have:=List.length_erase_le (a:=n) (l:=l);by_cases hm:n∈l
  ·rw[List.length_erase_of_mem hm]at h1;omega
  ·rw[List.erase_of_not_mem hm]at h1;omega
structure WU(b L e N:Nat)(HC:List Ag->Ax->Prop):Prop where
 loc:∀l h h',(∀i,i<b->h' i=h i)->HC l h->HC l h'
 round:∀l k h,l.length<N->HC l h->BN EE Tryz.prog L e [.agg (Ag.cells k)] h (fun v h'=>v=.bool true/\HC (l++[k]) h'/\∀i,b<=i->h' i=h i)
def H86(b M eM n:Nat)(seen:List Nat)(hb:Ax):Ax:=fun i=>if i<b then hb i else if i=b then .miter 1 (some (M,eM,n)) seen else if i=b+1 then .gone seen.length else .gone 0
def S86(b L e M eM n:Nat)(x:List Nat×Ax):Ay:=⟨.yld L e :: keyC M eM :: .top :: .top :: .top :: .ptr b 1 0 :: List.replicate 8 .top,H86 b M eM n x.1 x.2,[]⟩
theorem jzhl(b L e M eM n:Nat)(x:List Nat×Ax):S86 b L e M eM n x=⟨.yld L e :: keyC M eM :: .top :: .top :: .top :: .ptr b 1 0 :: List.replicate 8 .top,H86 b M eM n x.1 x.2,[]⟩:=rfl
theorem jzd6(b L e M eM:Nat)(es:List (Aa×Aa))(ky:Nat->Ag)(hM:M<b)(HC:List Ag->Ax->Prop)(C:WU b L e es.length HC)(lG:∀l h,HC l h->h M=.amap eM es) (hk:∀k,k<es.length->(es.getD k (.top,.top)).1=.agg (Ag.cells (ky k))) (h:Ax) (hh:HC [] h) (hp:∀i,b<=i->h i=.gone 0) :
  ATr EE Tryz.prog 86 [.yld L e,keyC M eM] h (fun v h'=>∃ord:List Nat,ord.Nodup/\(∀x,x∈ord↔x<es.length)/\HC (ord.map ky) h'):=by
 obtain⟨c,bG,hc⟩:=ck86;refine ATr.of (fn:=Tryz.f86) rfl bG cr86 (hc b) 12 rfl ?_;have p0:=hp b (AD _);have p1:=hp (b+1) (by omega);have o2:=lG _ _ hh;have nh:¬(M=b):=by omega
 refine AW.sr (by simp[WV,keyC,o2,I2,p0];rfl) ?_;refine .block (.loop (S86 b L e M eM es.length) (fun x=>es.length-x.1.length) (fun x=>x.1.Nodup/\(∀j,j∈x.1->j<es.length)/\HC (x.1.map ky) x.2) ([],h) ⟨.nil,(by intro j hj;cases hj),hh⟩ (.of_sub ⟨?_,fun i=>.of_eq ?_,rfl,by simp⟩) ?_)
 ·simp[List.replicate,S86,keyC]
 ·simp only[S86,H86];by_cases h1:i<b
  ·simp[h1,show ¬(i=b) by omega]
  ·by_cases h2:i=b;·subst h2;simp
   ·by_cases h3:i=b+1;·subst h3;simp[p1]
    ·have:=hp i (by omega);simp[h1,h2,h3,this]
 rintro⟨seen,hb⟩ ⟨bK,hlt,jp⟩;simp only at bK hlt jp;have q2:=lG _ _ jp;have eM1:H86 b M eM es.length seen hb M=.amap eM es:=by simp[H86,hM,q2]
 have eb1:H86 b M eM es.length seen hb b=.miter 1 (some (M,eM,es.length)) seen:=by simp[H86]
 have eb2:H86 b M eM es.length seen hb (b+1)=.gone seen.length:=by simp[H86];omega
 refine .seq (.reg ?_);simp[WW,jzhl _ _ _ _ _ _ (seen,hb),List.replicate,Gl,eM1,eb1];refine⟨fun k ei fN=>?_,fun be=>?_⟩
 ·have gr:es[k].fst=.agg (Ag.cells (ky k)):=by have:=hk k ei;simpa [ei] using this
  refine .seq (AW.if' true rfl (fun _=>AW.skip ?_) (fun e=>by cases e));have dN:(seen++[k]).Nodup:=by rw[List.nodup_append];exact⟨bK,by simp,fun x hx y hy=>by simp at hy;subst hy;intro e;subst e;exact fN hx⟩
  have hlt':∀j,j∈seen++[k]->j<es.length:=by
   intro j hj;rcases DJ.1 hj with h|h
   ·exact hlt j h
   ·simp at h;omega
  have aD:=Rf _ _ dN hlt';refine .block (AW.sr (by simp[WX,He,nh,eM1,eb2];simp[ei,gr,Mg,NY];rfl) (.seq (.reg ?_)));simp[WY,Mg];refine(C.round (seen.map ky) (ky k) _ (by simp at aD ⊢;omega) (C.loc _ hb _ (fun i hi=>by simp[H86,hi,show ¬(i=b) by omega,show ¬(i=b+1) by omega]) jp)).imp ?_;rintro v h' ⟨rfl,bW,cJ⟩;have dT:=cJ b (AD _);have cK:=cJ (b+1) (by omega);simp at dT cK;simp;refine AW.if' false rfl (fun e=>by cases e) (fun _=>.skip ?_);refine⟨seen++[k],h',⟨dN,hlt',by simpa using bW⟩,by simp at aD ⊢;omega,.of_sub ⟨?_,fun i=>?_,rfl,by simp⟩⟩
  ·simp[List.replicate,S86]
  ·simp only[S86,H86];by_cases h1:i<b
   ·exact .of_eq (by simp[h1])
   ·by_cases h2:i=b;·subst h2;exact .of_eq (by simp[dT])
    ·by_cases h3:i=b+1;·subst h3;exact .inl (by simp[cK])
     ·have:=cJ i (by omega);exact .of_eq (by simp[h1,h2,h3,this,H86])
 ·refine .seq (AW.if' false rfl (fun e=>by cases e) (fun _=>.exit ?_));simp only[AL,ablk,BK];refine Post.norm (.here ?_ rfl ⟨seen,bK,fun x=>⟨hlt x,be x⟩,C.loc _ hb _ (fun i hi=>by simp[H86,hi]) jp⟩);simp[rs86]
def outK(b:Nat)(l:List Ag):Aa:=if l.length=0 then .nils else .vec (b+3) l.length 0 l.length
structure jzi6(b M eM:Nat)(es:List (Aa×Aa))(ts:List Aa)(ps:Array Tmp)(asg body:Code)(l:List Ag)(h:Ax):Prop where
 hM:h M=.amap eM es
 h0:h b=.box 1 [outK b l]
 h1:(h (b+1)).plain
 h1':(h (b+2)).plain
 h2:(l.length=0->h (b+3)=.gone 0)/\(l.length≠0->∃f,h (b+3)=.vec l.length 3 l.length f/\∀k,k<l.length->f k=Az Ag.cells l k)
 h3:h (b+4)=.dfr 1
 h4:h (b+5)=.loop 1 .ready none ts ps asg body (b+4) 1
def T111(b:Nat)(F:Aa):List Aa:=.top :: .top :: .ptr b 1 0 :: .top :: .nils :: .top :: F :: .top :: List.replicate 5 .top
theorem jzho(b M eM:Nat)(es:List (Aa×Aa))(dE:es.length<1000000000000)(hM:M<b)(F:Aa)(ps:Array Tmp)(asg body:Code)(fp:ps.toList=[7])(gt:AA Tryz.prog asg (.reg false (NZ b) [])=true)(cY:AA Tryz.prog body (Rg b)=true) :
  WU (b+6) (b+5) 1 es.length (jzi6 b M eM es (T111 b F) ps asg body):=by
 refine⟨fun l h h' e H=>⟨(e M (by omega)).trans H.hM,(e b (by omega)).trans H.h0,by rw[e (b+1) (by omega)];exact H.h1,by rw[e (b+2) (by omega)];exact H.h1',by rw[e (b+3) (by omega)];exact H.h2,(e _ (by omega)).trans H.h3,(e _ (by omega)).trans H.h4⟩,fun l k h lC H=>?_⟩;have lH:=H.hM;have jk:=H.h0;have h1:=H.h1;have h1':=H.h1';have h4:=H.h4;refine⟨T111 b F,ps,asg,body,b+4,1,H.h4,by rw[<-Array.length_toList,fp];rfl,fun ρ=>?_⟩;rw[fp];have n0:¬(b+4=b):=by omega
 refine(AW.r1 (ρ:=ρ) (pr:=[]) (by simp[NZ,T111,D1,List.replicate,Mg,NY,-Ai.ep,-Ai.plain];exact⟨h1,rfl⟩) ?_:AW EE ρ Tryz.prog (.reg false (NZ b) []) _ _) asg gt;refine⟨rfl,by simp[h4],?_⟩;refine(AW.block (id:=1) ?_:AW EE ρ Tryz.prog (Rg b) _ _) body cY;by_cases hl:l.length=0
 ·have h2:=H.h2.1 hl;obtain rfl:l=[]:=UH hl;refine AW.r1 (by simp[Rh,jk,h1',h2,outK,Ee,Bq,EA,Mg,NY,WT,-Ai.ep,-Ai.plain];exact⟨trivial,rfl⟩) ?_;refine⟨⟨none,by simp⟩,rfl,⟨?_,?_,?_,?_,?_,?_,?_⟩,fun i hi=>?_⟩
  ·simp[show ¬(M=b+5) by omega,show ¬(M=b) by omega,show ¬(M=b+3) by omega,show ¬(M=b+2) by omega,show ¬(M=b+1) by omega,lH]
  ·simp[outK]
  ·simp
  ·simp
  ·refine⟨fun e=>by simp at e,fun _=>⟨_,by simp;rfl,fun j hj=>?_⟩⟩;obtain rfl:j=0:=by simp at hj;omega
   simp[Az]
  ·simp[H.h3]
  ·simp[T111,List.replicate]
  ·simp[show ¬(i=b+5) by omega,show ¬(i=b) by omega,show ¬(i=b+3) by omega,show ¬(i=b+2) by omega,show ¬(i=b+1) by omega]
 ·obtain⟨f,h2,hf⟩:=H.h2.2 hl;have c8:¬(l=[]):=fun e=>hl (by simp[e]);refine AW.r1 (by simp[Rh,jk,h1',h2,outK,c8,Ee,Bq,EA,Mg,NY,WT,-Ai.ep,-Ai.plain];exact⟨by omega,rfl⟩) ?_;refine⟨⟨none,by simp⟩,rfl,⟨?_,?_,?_,?_,?_,?_,?_⟩,fun i hi=>?_⟩
  ·simp[show ¬(M=b+5) by omega,show ¬(M=b) by omega,show ¬(M=b+3) by omega,show ¬(M=b+2) by omega,show ¬(M=b+1) by omega,lH]
  ·simp[outK]
  ·simp
  ·simp
  ·refine⟨fun e=>by simp at e,fun _=>⟨_,by simp;rfl,fun j hj=>?_⟩⟩;rw[yzt];by_cases aV:j<l.length
   ·simp[aV,hf j aV]
   ·obtain rfl:j=l.length:=by simp at hj;omega
    simp[Az]
  ·simp[H.h3]
  ·simp[T111,List.replicate]
  ·simp[show ¬(i=b+5) by omega,show ¬(i=b) by omega,show ¬(i=b+3) by omega,show ¬(i=b+2) by omega,show ¬(i=b+1) by omega]
theorem jzam(b M eM:Nat)(es:List (Aa×Aa))(ky:Nat->Ag)(hM:M<b)(dE:es.length<1000000000000)(hk:∀k,k<es.length->(es.getD k (.top,.top)).1=.agg (Ag.cells (ky k)))(h:Ax)(h2:h M=.amap eM es) (hp:∀i,b<=i->h i=.gone 0) :
  ATr EE Tryz.prog 111 [.nils,.fn 86 0 [keyC M eM]] h (fun v h'=>∃ord:List Nat,ord.Nodup/\(∀x,x∈ord↔x<es.length)/\v=outK b (ord.map ky)/\(ord≠[]->∃f,h' (b+3)=.vec ord.length 3 ord.length f/\∀k,k<ord.length->f k=Az Ag.cells (ord.map ky) k)/\h' M=.amap eM es):=by
 obtain⟨c,bG,hc⟩:=jzjh;refine ATr.of (fn:=Tryz.f111) rfl bG jzje (hc b) 11 rfl ?_;have p0:=hp b (AD _);have p1:=hp (b+1) (by omega);have p2:=hp (b+2) (by omega);have p3:=hp (b+3) (by omega);have p4:=hp (b+4) (by omega);have p5:=hp (b+5) (by omega);refine AW.sr (by simp[WZ,p0];rfl) ?_;refine .seq (AW.sr (by simp[Xa];rfl) ?_);refine .block (.see (.of_sub (S':=⟨T111 b (.fn 86 0 [keyC M eM]),_,[]⟩) ⟨?_,fun i=>.refl _,rfl,by simp⟩) (.rfunc (fi:=86) (caps:=[keyC M eM]) (b+4) (b+5) (by omega) (by simp[p4]) (by simp[p5]) (by simp[T111,List.replicate]) (by kernel_rfl) ?_))
 ·simp[T111,List.replicate]
 intro ps' asg body fp gt cY;have e5:((hset h b (.box 1 [.nils])) (b+5)).ep+1=1:=by simp[p5]
 have e4:((hset h b (.box 1 [.nils])) (b+4)).ep+1=1:=by simp[p4]
 simp only[e4,e5];refine(jzd6 (b+6) (b+5) 1 M eM es ky (by omega) _ (jzho b M eM es dE hM (.fn 86 0 [keyC M eM]) ps' asg body fp gt cY) (fun l h H=>H.hM) hk _ ?_ ?_).mono ?_
 ·refine⟨?_,?_,?_,?_,?_,?_,?_⟩;·simp[show ¬(M=b+5) by omega,show ¬(M=b+4) by omega,show ¬(M=b) by omega,h2]
  ·simp[outK]
  ·simp[p1]
  ·simp[p2]
  ·simp[p3]
  ·simp
  ·simp
 ·intro i hi;simp[show ¬(i=b+5) by omega,show ¬(i=b+4) by omega,show ¬(i=b) by omega,hp i (by omega)]
 rintro r h' ⟨ord,bK,be,H⟩;have q0:=H.h0;refine⟨.ready,none,by simp,H.h4,H.h3,by simp,?_⟩;simp only[QX,ablk,AL];have lI:(ord.map ky).length=ord.length:=by simp
 refine AW.sr (by simp[Xb,T111,List.replicate,q0];rfl) ?_;refine .ret ⟨_,.refl _,?_,hset (hset h' (b+5) (.gone 1)) (b+4) (.gone 1),fun i=>?_,?_,ord,bK,be,?_,?_,?_⟩
 ·simp[Ri]
 ·by_cases hi:i=b+4;·subst hi;exact .inl (by simp[H.h3])
  ·exact .of_eq (by simp[hi])
 ·intro D hD;simp at hD;subst hD;exact⟨1,by simp⟩
 ·simp[Ri]
 ·intro aL;obtain⟨f,q2,hf⟩:=H.h2.2 (by rw[lI];exact fun e=>aL (UH e));refine⟨f,by simp[q2],fun k dq=>hf k (by rw[lI];exact dq)⟩
 ·simp[show ¬(M=b+5) by omega,show ¬(M=b+4) by omega,H.hM]
theorem jzau(b M eM:Nat)(es:List (Aa×Aa))(ky:Nat->Ag)(hM:M<b)(dE:es.length<1000000000000)(hk:∀k,k<es.length->(es.getD k (.top,.top)).1=.agg (Ag.cells (ky k)))(h:Ax)(h2:h M=.amap eM es) (hp:∀i,b<=i->h i=.gone 0) :
  ATr EE Tryz.prog 84 [.fn 86 0 [keyC M eM]] h (fun v h'=>∃ord:List Nat,ord.Nodup/\(∀x,x∈ord↔x<es.length)/\v=outK b (ord.map ky)/\(ord≠[]->∃f,h' (b+3)=.vec ord.length 3 ord.length f/\∀k,k<ord.length->f k=Az Ag.cells (ord.map ky) k)/\h' M=.amap eM es):=by
 obtain⟨c,bG,hc⟩:=ck84;refine ATr.of (fn:=Tryz.f84) rfl bG cr84 (hc b) 4 rfl ?_;refine AW.sr (by simp[Xc];rfl) ?_;refine .seq (.reg ?_);simp[Xd];refine(jzam b M eM es ky hM dE hk h h2 hp).mono ?_;rintro r h' ⟨ord,bK,be,rfl,hf,d9⟩;refine .ret (.here ?_ rfl ⟨ord,bK,be,?_,hf,d9⟩)<;>simp[rs84]
theorem Xe{n:Nat}{ord:List Nat}(bK:ord.Nodup)(h:∀x,x∈ord↔x<n):ord.Perm (List.range n):=by rw[List.perm_ext_iff_of_nodup bK List.nodup_range];intro a;rw[h,Fz]
theorem jzc5(F:Aa)(h:Ax):ATr EE Tryz.prog 147 [.nils,.int .i64 0,.int .i64 0,F] h (fun v h'=>v=.tup []/\h'=h):=by obtain⟨c,bG,hc⟩:=jzk8;refine ATr.of (fn:=Tryz.f147) rfl bG jzkt (hc 0) 49 rfl ?_;refine AW.sr (by simp[Xf,List.replicate];rfl) ?_;refine .block (.loop (fun _:Unit=>_) (fun _=>0) (fun _=>True) () trivial (.refl _) ?_);rintro⟨⟩ _;refine .seq (AW.sr (by simp[Xg];rfl) ?_);refine AW.if' false (by simp) (fun e=>by cases e) (fun _=>.exit ?_);simp only[AL,ablk,BK];refine Post.norm (.here ?_ rfl ⟨?_,rfl⟩)<;>simp[Xh]
theorem jzck(n:Int)(F:Aa)(h:Ax):ATr EE Tryz.prog 112 [.nils,.int .i64 0,.int .i64 0,.int .i64 n,F] h (fun v h'=>v=.tup []/\h'=h):=by obtain⟨c,bG,hc⟩:=wzgi;refine ATr.of (fn:=Tryz.f112) rfl bG wzgb (hc 0) 143 rfl ?_;refine AW.sr (by simp[Xi,List.replicate];rfl) ?_;refine AW.sr (by simp[Xj];rfl) ?_;refine .block (.loop (fun _:Unit=>_) (fun _=>0) (fun _=>True) () trivial (.refl _) ?_);rintro⟨⟩ _;refine .block (AW.sr (by simp[Xk];rfl) ?_);refine .seq (AW.sr (by simp[Xl];rfl) ?_);refine AW.if' true (by simp) (fun _=>?_) (fun e=>by cases e);refine .seq (.reg ?_);simp[Xm];refine(jzc5 F h).mono ?_;rintro v h' ⟨rfl,rfl⟩;refine .ret ?_;simp only[AL,ablk];refine .here ?_ rfl ⟨?_,?_⟩<;>simp[Xo]
theorem jzcm(H113:AY EE Tryz.prog 113 [.int .u64 0] (.int .i64 0))(F:Aa)(h:Ax):ATr EE Tryz.prog 85 [.nils,F] h (fun v h'=>v=.tup []/\h'=h):=by
 obtain⟨c,bG,hc⟩:=ck85;refine ATr.of (fn:=Tryz.f85) rfl bG cr85 (hc 0) 12 rfl ?_;refine AW.sr (by simp[Xp,List.replicate];rfl) ?_;refine .reg ?_;simp[Xq];refine(H113 h).mono ?_;rintro v h' ⟨rfl,rfl⟩
 (try simp)
 refine(jzck 0 F h').mono ?_;rintro v h' ⟨rfl,rfl⟩;refine Post.norm (.here ?_ rfl ⟨?_,rfl⟩)<;>simp[rs85]
section
variable {U:Type}{g:U->U->Option Int}
theorem Rj(a:U):∀l,(DT g a l).Perm (a :: l)
 |[]=>.refl _
 |b :: l=>by
  unfold DT;split
  ·exact((Rj a l).cons b).trans (List.Perm.swap a b l)
  ·exact .refl _
theorem Mh:∀l:List U,(CD g l).Perm l
 |[]=>.refl _
 |a :: l=>(Rj a (CD g l)).trans ((Mh l).cons a)
structure GOrd(g:U->U->Option Int)(K:List U):Prop where
 some:∀a b,a∈K->b∈K->∃c,g a b=some c
 irr:∀a,a∈K->gLt g a a=false
 tri:∀a b,a∈K->b∈K->gLt g a b=true\/gLt g b a=true\/a=b
 tr:∀a b c,a∈K->b∈K->c∈K->gLt g a b=true->gLt g b c=true->gLt g a c=true
theorem Xr[DecidableEq U]{K:List U}(h:gOk g K=true):GOrd g K:=by
 unfold gOk at h
 have k:∀a b,a∈K->b∈K->(g a b).isSome=true/\gLt g a a=false/\(gLt g a b=true\/gLt g b a=true\/a=b)/\∀c,c∈K->gLt g a b=true->gLt g b c=true->gLt g a c=true:=by
  intro a b ha hb;have:=Dw.1 (Dw.1 h a ha) b hb;simp only[AE,GV,Il,CO,Dw]at this;obtain⟨⟨⟨h1,h2⟩,h3⟩,h4⟩:=this;refine⟨h1,h2,by rcases h3 with (h|h)|h<;>simp[h],fun c hc p q=>?_⟩;rcases h4 c hc with h|h
  ·rw[p,q]at h;cases h
  ·exact h
 exact⟨fun a b ha hb=>Option.isSome_iff_exists.1 (k a b ha hb).1,fun a ha=>(k a a ha ha).2.1,fun a b ha hb=>(k a b ha hb).2.2.1,fun a b c ha hb hc=>(k a b ha hb).2.2.2 c hc⟩
theorem GOrd.asym{K:List U}(H:GOrd g K){a b:U}(ha:a∈K)(hb:b∈K)(h:gLt g a b=true):gLt g b a=false:=by
 cases e:gLt g b a with
 |false=>rfl
 |true=>have:=H.tr a b a ha hb ha h e;rw[H.irr a ha]at this;cases this
theorem GOrd.ntr{K:List U}(H:GOrd g K){a b c:U}(ha:a∈K)(hb:b∈K)(hc:c∈K)(h:gLt g a b=false)(k:gLt g b c=false):gLt g a c=false:=by
 cases e:gLt g a c with
 |false=>rfl
 |true =>
  rcases H.tri a b ha hb with p|p|rfl
  ·rw[p]at h;cases h
  ·have:=H.tr b a c hb ha hc p e;rw[this]at k;cases k
  ·rw[e]at k;cases k
theorem GOrd.anti{K:List U}(H:GOrd g K){a b:U}(ha:a∈K)(hb:b∈K)(h:gLt g b a=false)(k:gLt g a b=false):a=b:=by
 rcases H.tri a b ha hb with p|p|p
 ·rw[p]at k;cases k
 ·rw[p]at h;cases h
 ·exact p
theorem Xs{K:List U}(H:GOrd g K){a:U}(ha:a∈K):∀l:List U,(∀x,x∈l->x∈K)->l.Pairwise (fun x y=>gLt g y x=false)->(DT g a l).Pairwise (fun x y=>gLt g y x=false)
 |[],_,_=>List.pairwise_singleton _ _
 |b :: l,hl,hp=>by
  obtain⟨h1,h2⟩:=Ha.1 hp;have hb:=hl b (Be ..);unfold DT;split
  ·rename_i e;refine Ha.2 ⟨fun c hc=>?_,Xs H ha l (fun x hx=>hl x (Bi _ hx)) h2⟩;rcases AM.1 ((Rj a l).mem_iff.1 hc) with rfl|hc
   ·exact H.asym hb ha e
   ·exact h1 c hc
  ·rename_i e;refine Ha.2 ⟨fun c hc=>?_,hp⟩;rcases AM.1 hc with rfl|hc
   ·exact e
   ·exact H.ntr (hl c (Bi _ hc)) hb ha (h1 c hc) e
theorem Xt{K:List U}(H:GOrd g K):∀l:List U,(∀x,x∈l->x∈K)->(CD g l).Pairwise (fun x y=>gLt g y x=false)
 |[],_=>List.Pairwise.nil
 |a :: l,h=>Xs H (h a (Be ..)) _ (fun x hx=>h x (Bi _ ((Mh l).mem_iff.1 hx))) (Xt H l fun x hx=>h x (Bi _ hx))
end
theorem ATr.wv{E:Nat->Aa}{P:Program}{f:FuncId}{args:List Aa}{h:Ax}{R R':Aa->Ax->Prop}(H:ATr E P f args h R)(hr:∀v h',R v h'->∃v',W v v'/\R' v' h'):ATr E P f args h R' :=
 fun g w vs hh hv=>(H g w vs hh hv).mono fun _ _ ⟨g',h',r,v,q,e,rv,rest⟩=>by obtain⟨v',w1,q'⟩:=hr r h' q;exact⟨g',h',v',v,q',e,RV.w w1 rv,rest⟩
def Oa(a:Ag):List Value:=[.bool a.Neg,.string ⟨a.Num.toArray⟩,.string ⟨a.Den.toArray⟩]
theorem qz3i{g:Gh}{w:World}{b:Bool}{v:Value}(h:RV g w (.bool b) v):v=.bool b:=by cases h;rfl
theorem Xu{g:Gh}{w:World}{s:List UInt8}{v:Value}(h:RV g w (.str s) v):v=.string ⟨s.toArray⟩:=by
 cases h with
 |str _ b hb=>subst hb;rfl
theorem qz1m(g:Gh)(w:World)(a:Ag)(l:List Value)(h:RVs g w a.cells l):l=Oa a:=by
 obtain⟨hl,hx⟩:=h
 match l,hl with
 |[u,v,x],_ =>have h0:=hx 0 _ _ rfl rfl;have h1:=hx 1 _ _ rfl rfl;have h2:=hx 2 _ _ rfl rfl;rw[qz3i h0,Xu h1,Xu h2];rfl
theorem qz2w(g:Gh)(w:World)(a:Ag):RVs g w a.cells (Oa a) :=
 .cons (.bool _) (.cons (.str _ _ rfl) (.cons (.str _ _ rfl) (.nil _ _)))
theorem jzdk(g:Ag->Ag->Option Int)(F:FuncId)(eg:Ci Tryz.prog F=true)(eN:∀a b c,g a b=some c->AY EE Tryz.prog F [.agg (Ag.cells a),.agg (Ag.cells b)] (.int .i64 c)){K:List Ag}(H:GOrd g K)(L:List Ag) (hL:L.Perm K) (hn:0<List.length L) (aF:List.length L<=1000000000000) (h:Ax) (id ep:Nat) (f:Nat->List Aa) (hid:h id=.vec ep 3 (List.length L) f) (hf:∀k,k<List.length L->f k=Az Ag.cells L k) :
  ATr EE Tryz.prog 85 [.vec id ep 0 (List.length L),.fn F 0 []] h (fun v h'=>v=.tup []/\∃f',h'=hset h id (.vec ep 3 (List.length L) f')/\∀k,k<List.length L->f' k=Az Ag.cells (CD g K) k):=by
 let U:={a:Ag // a∈L}
 have memK:∀a:U,a.1∈K:=fun a=>hL.mem_iff.1 a.2
 obtain⟨x0,jf⟩:∃x,x∈L:=by
  cases L with
  |nil=>simp at hn
  |cons x t=>exact⟨x,by simp⟩
 have:Inhabited U:=⟨⟨x0,jf⟩⟩;have aJ:(L.attach.toArray).size=List.length L:=by rw[UT];exact List.length_attach
 have hc:∀a b:U,g a.1 b.1=some ((g a.1 b.1).getD 0):=fun a b=>by obtain⟨c,hc⟩:=H.some a.1 b.1 (memK a) (memK b);simp only[hc,Nz]
 have hlt:∀a b:U,ltOf (fun a b:U=>(g a.1 b.1).getD 0) a b=gLt g a.1 b.1:=by intro a b;unfold ltOf gLt;rw[hc a b]
 have ku:Go.Sort.SWO (ltOf (fun a b:U=>(g a.1 b.1).getD 0)):=by
  refine⟨fun a=>?_,fun a b c h1 h2=>?_,fun a b c h1 h2=>?_⟩
  ·rw[hlt];exact H.irr _ (memK a)
  ·rw[hlt]at *;exact H.tr _ _ _ (memK a) (memK b) (memK c) h1 h2
  ·rw[hlt]at *;exact H.ntr (memK a) (memK b) (memK c) h1 h2
 have main:=wzfu (E:=EE) Tryz.sortF0 3 (by omega) Tryz.isAgg27 Tryz.sizeOf27 (fun a:U=>a.1.cells) (fun a:U=>Oa a.1) (fun _=>rfl) (fun _=>rfl) (fun a v hv=>by simp[Oa]at hv;rcases hv with rfl | rfl | rfl<;>rfl) (fun g w a l hl=>qz1m g w a.1 l hl) (fun g w a=>qz2w g w a.1) (fun a b:U=>(g a.1 b.1).getD 0) ku F (fun args w=>NM eg args w) (fun a b=>eN a.1 b.1 _ (hc a b)) (h:=h) (id:=id) (ep:=ep) (n:=List.length L) (f:=f) (d:=L.attach.toArray) hid aJ hn (by omega)
  (fun j hj=>by
   rw[hf j hj,FH (AG hj)];have:j<(L.attach.toArray).size:=by rw[aJ];exact hj
   rw[getElem!_pos _ j this];simp only[List.getElem_toArray];exact E9 (fun a:U=>a.1.cells) (List.getElem_attach (xs:=L) (by rw[List.length_attach];exact hj)).symm)
 refine main.mono ?_;rintro v h' ⟨rfl,d',hp,hs,rfl⟩;refine⟨rfl,_,rfl,fun k hk=>?_⟩;obtain⟨jq,_,dW⟩:=hp;have cr:d'.size=List.length L:=by rw[jq];exact aJ
 have gen:∀A:Array U,A.extract 0 A.size=A:=fun A=>by simp
 have e1:d'.extract 0 (List.length L)=d':=by rw[<-cr];simp
 have e2:(L.attach.toArray).extract 0 (List.length L)=L.attach.toArray:=by rw[<-aJ];exact gen _
 rw[e1,e2]at dW
 have lJ:(d'.toList.map (·.1)).Perm L:=by
  have:=dW.map (·.1)
  rwa [show(L.attach.toArray).toList=L.attach from rfl,List.attach_map_subtype_val]at this
 have dO:d'.toList.map (·.1)=CD g K:=by
  refine List.Perm.eq_of_pairwise (le:=fun x y=>gLt g y x=false) (fun a b ha hb h1 h2=>?_) ?_ (Xt H K fun x hx=>hx) ((lJ.trans hL).trans (Mh K).symm)
  ·exact H.anti ((lJ.trans hL).mem_iff.1 ha) ((Mh K).mem_iff.1 hb) h1 h2
  ·rw[Qx];intro i j hi hj dV;have bf:i<d'.size:=by simpa using hi
   have aV:j<d'.size:=by simpa using hj
   have:=hs i j (Fv _) dV (by rw[<-cr];exact aV);rw[hlt,getElem!_pos d' i bf,getElem!_pos d' j aV]at this;simpa using this
 have dq:k<d'.size:=by rw[cr];exact hk
 rw[getElem!_pos d' k dq,<-dO];have:(d'.toList.map (·.1))[k]?=some d'[k].1:=by simp[dq]
 rw[FH this]
def k113:Fc:=⟨113,[(.int .u64)],[false],[(.int .i64)],fun x=>jzc7 x⟩
theorem jzbi(H113:AY EE Tryz.prog 113 [.int .u64 0] (.int .i64 0))(g:Ag->Ag->Option Int)(F:FuncId)(l:List (Ag×Int))(eg:l≠[]->Ci Tryz.prog F=true)(eN:∀a b c,g a b=some c->AY EE Tryz.prog F [.agg (Ag.cells a),.agg (Ag.cells b)] (.int .i64 c))(M eM:Nat) (es:List (Aa×Aa)) (dE:es=l.map fun p=>(.agg (Ag.cells p.1),.int .i64 p.2)) (r:List Ag) (hr:Hw l g=some r) (h:Ax) (h2:h M=.amap eM es) (hp:∀i,i≠M->h i=.gone 0) :
  ATr EE Tryz.prog 56 [.fn 86 0 [keyC M eM],.fn F 0 []] h (fun v h'=>v=slcV 3 Ag.cells r/\∀i,i∈[M]->h' i=h i):=by
 unfold Hw Mi at hr;cases hx:(gOk g (l.map (·.1))&&decide (List.length (l.map (·.1))<1000000000000))
 ·rw[hx]at hr;cases hr
 rw[hx]at hr;obtain rfl:r=CD g (l.map (·.1)):=(BI hr).symm;simp only[AE,CO,Fy]at hx;obtain⟨aB,aF⟩:=hx;have H:=Xr aB;have aT:List.length es=List.length l:=by rw[dE];simp
 have hk:∀k,k<es.length->(es.getD k (.top,.top)).1=.agg (Ag.cells ((l.map (·.1)).getD k ⟨false,[],[]⟩)):=fun k hk=>by rw[aT]at hk;subst dE;simp[List.getD,hk]
 obtain⟨c,bG,hc⟩:=ck56;refine ATr.wv (R:=fun v h'=>W v (slcV 3 Ag.cells (CD g (l.map (·.1))))/\∀i,i∈[M]->h' i=h i) ?_ (fun v h' q=>⟨_,q.1,rfl,q.2⟩);refine ATr.of (fn:=Tryz.f56) rfl bG cr56 (hc (M+1)) 10 rfl ?_;refine AW.sr (by simp[Xv];rfl) ?_;refine .seq (.reg ?_);simp[Xw];refine(jzau (M+1) M eM es (fun k=>(l.map (·.1)).getD k ⟨false,[],[]⟩) (by omega) (by omega) hk h h2 (fun i hi=>hp i (by omega))).mono ?_;rintro v h' ⟨ord,bK,be,rfl,hf,d9⟩;refine .seq (.reg ?_);have jm:=Xe bK be
 have hL:(ord.map fun k=>(l.map (·.1)).getD k ⟨false,[],[]⟩).Perm (l.map (·.1)):=by
  have e1:(List.range es.length).map (fun k=>(l.map (·.1)).getD k ⟨false,[],[]⟩)=l.map (·.1):=by apply List.ext_getElem (by simp[aT]);intro i h1 h2;simp[aT]at h1;simp[h1]
  have e2:=jm.map (fun k=>(l.map (·.1)).getD k (⟨false,[],[]⟩:Ag))
  rwa [e1]at e2
 have da:List.length (ord.map fun k=>(l.map (·.1)).getD k (⟨false,[],[]⟩:Ag))=List.length ord:=by simp
 generalize ni:(ord.map fun k=>(l.map (·.1)).getD k (⟨false,[],[]⟩:Ag))=L at *;by_cases hn:ord=[]
 ·subst hn;obtain rfl:L=[]:=by simpa using ni.symm
  have gi:l.map (·.1)=[]:=List.nil_perm.1 hL;simp[Rk,outK];refine(jzcm H113 (.fn F 0 []) h').mono ?_;rintro v ez ⟨rfl,rfl⟩;refine AW.sr (by simp[Rl];rfl) ?_;refine .ret (.here ?_ rfl ⟨?_,?_⟩)
  ·simp[rs56]
  ·simp[rs56];rw[gi];exact .nil _ _
  ·simp[d9,h2]
 ·obtain⟨f,q2,hf⟩:=hf hn;have ce:0<List.length ord:=by cases ord with | nil=>exact absurd rfl hn | cons=>simp
  have aL:l≠[]:=fun e=>by
   have:List.length ord=0:=by rw[jm.length_eq,Qv,aT,e];rfl
   omega
  have hs:=jzdk g F (eg aL) eN H L hL (by omega) (by have:=hL.length_eq;simp at this;omega) h' (M+1+3) ord.length f (by rw[da];exact q2) (fun k hk=>hf k (by omega));rw[da]at hs;simp[Rk,outK,da,Nat.ne_of_gt ce];refine ATr.mono hs ?_;rintro v ez ⟨rfl,f',rfl,fe⟩;refine AW.sr (by simp[Rl];rfl) ?_;refine .fz (M+1+3) (by simp) (by simp) ?_;have d6:List.length (CD g (l.map (·.1)))=List.length ord:=by rw[(Mh _).length_eq,<-hL.length_eq,da]
  refine .ret (.here ?_ rfl ⟨?_,?_⟩)
  ·simp[rs56]
  ·simp[rs56];rw[LH,ED];refine⟨rfl,d6.symm,fun k hk=>?_⟩;exact .of_eq (by simpa using fe k (by omega))
  ·simp[d9,h2,show ¬(M=M+1+3) by omega]
noncomputable def o56:Oc:=⟨56,86,.us 1,.int .i64,[.fn 6],[false],[.slc (.us 1)],fun l x=>Ab (Ab (Nat.beq x.nb 0) (Nat.beq x.caps.length 0) false) (Hw l fun a b=>x.g (a,b)) none⟩
theorem jzjf(H113:AY EE Tryz.prog 113 [.int .u64 0] (.int .i64 0))(l:List (Ag×Int))(x:FnV 6)(y:List Ag)(h:Ax)(id ep:Nat)(hF:Ab (Ab (Nat.beq x.nb 0) (Nat.beq x.caps.length 0) false) (Hw l fun a b=>x.g (a,b)) none=some y)(hid:h id=.amap ep (l.map fun p=>(.agg (Ag.cells p.1),.int .i64 p.2))):C9 EE Tryz.prog 56 [.fn 86 0 [keyC id ep],.fn x.f x.nb x.caps] h [id] (slcV 3 Ag.cells y):=by
 obtain⟨q,hF⟩:=An hF;obtain⟨q1,q2⟩:=Aw q;have q1:=Ao.1 q1;have q2:x.caps=[]:=UH (Ao.1 q2);rw[q1,q2];have kl:∀a b c,x.g (a,b)=some c->Ci Tryz.prog x.f=true/\AY EE Tryz.prog x.f [.agg (Ag.cells a),.agg (Ag.cells b)] (.int .i64 c):=fun a b c e=>by obtain⟨h1,h2⟩:=x.ok (a,b) c e;rw[q1,q2]at h2;exact⟨h1,h2⟩
 have hs:=ATr.frame (F:=[id]) (hs:=fun i=>if i=id then h id else .gone 0) (args:=[.fn 86 0 [keyC id ep],.fn x.f 0 []]) (r:=slcV 3 Ag.cells y) (f:=56) (P:=Tryz.prog) hEE (fun i hi=>by simp at hi;simp[hi])
  (fun z hz=>by
   simp at hz;rcases hz with rfl|rfl
   ·refine .fn _ _ _ fun z hz=>?_;simp at hz;subst hz;refine .cptr _ _ _ fun j hj=>?_;obtain rfl:j=0:=by omega
    exact .mp _ _ (by simp)
   ·exact .fn _ _ _ fun z hz=>by cases hz)
  (fun i hi=>by
   obtain rfl:i=id:=by simpa using hi
   simp only[BK,hid];intro e he;obtain⟨p,_,rfl⟩:=FX.1 he;refine⟨.agg _ fun z hz=>?_,.int _ _⟩;simp[Ag.cells]at hz;rcases hz with rfl|rfl|rfl
   ·exact .bool _
   ·exact .str _
   ·exact .str _)
  (Gc fun a z hz=>nr1 a z hz)
  (jzbi H113 (fun a b=>x.g (a,b)) x.f l (fun aL=>by
    obtain⟨a,t,rfl⟩:∃a t,l=a :: t:=by
     cases l with
     |nil=>exact absurd rfl aL
     |cons a t=>exact⟨a,t,rfl⟩
    have bO:=hF;unfold Hw Mi at bO;cases hx:(gOk (fun a b=>x.g (a,b)) ((a :: t).map (·.1))&&decide (List.length ((a :: t).map (·.1))<1000000000000))
    ·rw[hx]at bO;cases bO
    simp only[AE]at hx;obtain⟨c,hc⟩:=(Xr hx.1).some a.1 a.1 (by simp) (by simp);exact(kl _ _ _ hc).1) (fun a b c e=>(kl a b c e).2) id ep _ rfl y hF (fun i=>if i=id then h id else .gone 0) (by simp[hid]) (fun i hi=>by simp[hi]))
 intro h' e
 exact hs h' fun j hj=>by
  have:=e j hj;obtain rfl:j=id:=by simpa using hj
  rw[this];simp
theorem jzge(l:List (Ag×Int)):mEs (.us 1) (.int .i64) l=l.map fun p=>(Aa.agg (Ag.cells p.1),Aa.int .i64 p.2):=by kernel_rfl
theorem jzhz(H113:Av k113):OcOk o56:=⟨by kernel_rfl,fun l x y h id ep hF hid=>jzjf (H113.ok (0:Int) (0:Int) (by kernel_rfl)) l x y h id ep hF (hid.trans (E9 (Ai.amap ep) (jzge l)))⟩
end Go.Am

