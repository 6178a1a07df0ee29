/- Part C2: contracts of some functions of this seat. No condition. -/
import Derived.Test.YtiaclogojhfmfaaGreatDoorC1
set_option linter.unusedSimpArgs false
set_option linter.unusedVariables false
set_option maxRecDepth 8000
namespace Go.Am
open Go.Proofs
attribute [local simp] areg aop dreg dop Al.req Ag argU Al.args Ca Al.unAll Req.val Req.when putT putH Dp ablk Dq CH Co unc unv Cj Gc ARes.ok GD ARes.val cut inr Al.quiet
attribute [local simp] Kh Ki Kj LW Kf Kg LV UJ
attribute [local simp] Ps VSub.refl TSub Pt
attribute [local simp] Aj.plain Aj.owned Aj.ep hset h0 CP Dr Cv BB Aa.one lay CR ldv fzv fzl fz1
theorem Vp:∀(n:Nat) (l:List Nat),l.Nodup->(∀x,x∈l->x<n)->l.length<=n
 |0,l,_,h=>by
  cases l with
  |nil=>simp
  |cons x l=>exact absurd (h x (by simp)) (by omega)
 |n+1,l,hd,h=>by
  have h1:=Vp n (l.erase n) (hd.erase n) (fun x hx=>by have h2:=(hd.mem_erase_iff).1 hx;have:=h x h2.2;omega);have:=List.length_erase_le (a:=n) (l:=l);by_cases hm:n∈l
  ·rw[List.length_erase_of_mem hm]at h1;omega
  ·rw[List.erase_of_not_mem hm]at h1;omega
structure Vq(b L e N:Nat)(HC:List Int->Aw->Prop):Prop where
 loc:∀l h h',(∀i,i<b->h' i=h i)->HC l h->HC l h'
 round:∀l k h,l.length<N->HC l h->BN EE Tryz.prog L e [.int .i64 k] h (fun v h'=>v=.bool true/\HC (l++[k]) h'/\∀i,b<=i->h' i=h i)
def H85(b M eM n:Nat)(seen:List Nat)(hb:Aw):Aw:=fun i=>if i<b then hb i else if i=b then .miter 1 (some (M,eM,n)) seen else .gone 0
def S85(b L e M eM n:Nat)(x:List Nat×Aw):Av:=⟨.yld L e :: keyC M eM :: .top :: .top :: .top :: .ptr b 1 0 :: List.replicate 8 .top,H85 b M eM n x.1 x.2,[]⟩
theorem jzvl(b L e M eM n:Nat)(x:List Nat×Aw):S85 b L e M eM n x=⟨.yld L e :: keyC M eM :: .top :: .top :: .top :: .ptr b 1 0 :: List.replicate 8 .top,H85 b M eM n x.1 x.2,[]⟩:=rfl
theorem jztr(b L e M eM:Nat)(es:List (Aa×Aa))(ky:Nat->Int)(hM:M<b)(HC:List Int->Aw->Prop)(C:Vq b L e es.length HC)(mV:∀l h,HC l h->h M=.amap eM es) (hk:∀k,k<es.length->(es.getD k (.top,.top)).1=.int .i64 (ky k)) (h:Aw) (hh:HC [] h) (hp:∀i,b<=i->h i=.gone 0) :
  ATr EE Tryz.prog 85 [.yld L e,keyC M eM] h (fun v h'=>∃ord:List Nat,ord.Nodup/\(∀x,x∈ord↔x<es.length)/\HC (ord.map ky) h'):=by
 obtain⟨c,cf,hc⟩:=ck85;refine ATr.of (fn:=Tryz.f85) rfl cf cr85 (hc b) 12 rfl ?_;have p0:=hp b (AC _);have o2:=mV _ _ hh;have oD:¬(M=b):=by omega
 refine AW.sr (by simp[Vr,keyC,o2,JM,p0];rfl) ?_;refine .block (.loop (S85 b L e M eM es.length) (fun x=>es.length-x.1.length) (fun x=>x.1.Nodup/\(∀j,j∈x.1->j<es.length)/\HC (x.1.map ky) x.2) ([],h) ⟨.nil,(by intro j hj;cases hj),hh⟩ (.of_sub ⟨?_,fun i=>.of_eq ?_,rfl,by simp⟩) ?_)
 ·simp[List.replicate,S85,keyC]
 ·simp only[S85,H85];by_cases h1:i<b
  ·simp[h1,show ¬(i=b) by omega]
  ·by_cases h2:i=b;·subst h2;simp
   ·have:=hp i (by omega);simp[h1,h2,this]
 rintro⟨seen,hb⟩ ⟨cJ,hlt,kr⟩;simp only at cJ hlt kr;have q2:=mV _ _ kr;have eM1:H85 b M eM es.length seen hb M=.amap eM es:=by simp[H85,hM,q2]
 have eb1:H85 b M eM es.length seen hb b=.miter 1 (some (M,eM,es.length)) seen:=by simp[H85]
 refine .seq (.reg ?_);simp[Vs,jzvl _ _ _ _ _ _ (seen,hb),List.replicate,GV,eM1,eb1];refine⟨fun k dz dr=>?_,fun bp=>?_⟩
 ·have fA:es[k].fst=.int .i64 (ky k):=by have:=hk k dz;simpa [dz] using this
  refine .seq (AW.if' true rfl (fun _=>AW.skip ?_) (fun e=>by cases e));have jw:(seen++[k]).Nodup:=by rw[List.nodup_append];exact⟨cJ,by simp,fun x hx y hy=>by simp at hy;subst hy;intro e;subst e;exact dr hx⟩
  have hlt':∀j,j∈seen++[k]->j<es.length:=by
   intro j hj;rcases Bh.1 hj with h|h
   ·exact hlt j h
   ·simp at h;omega
  have aE:=Vp _ _ jw hlt';refine .block (AW.sr (by simp[Vt,HJ,oD,eM1];simp[dz,fA];rfl) (.seq (.reg ?_)));simp[Vu];refine(C.round (seen.map ky) (ky k) _ (by simp at aE |-;omega) (C.loc _ hb _ (fun i hi=>by simp[H85,hi,show ¬(i=b) by omega]) kr)).imp ?_;rintro v h' ⟨rfl,bu,bV⟩;have eV:=bV b (AC _);simp at eV;simp;refine AW.if' false rfl (fun e=>by cases e) (fun _=>.skip ?_);refine⟨seen++[k],h',⟨jw,hlt',by simpa using bu⟩,by simp at aE |-;omega,.of_sub ⟨?_,fun i=>?_,rfl,by simp⟩⟩
  ·simp[List.replicate,S85]
  ·simp only[S85,H85];by_cases h1:i<b
   ·exact .of_eq (by simp[h1])
   ·by_cases h2:i=b;·subst h2;exact .of_eq (by simp[eV])
    ·have:=bV i (by omega);exact .of_eq (by simp[h1,h2,this,H85])
 ·refine .seq (AW.if' false rfl (fun e=>by cases e) (fun _=>.exit ?_));simp only[Dp,ablk,Cn];refine Post.norm (.here ?_ rfl ⟨seen,cJ,fun x=>⟨hlt x,bp x⟩,C.loc _ hb _ (fun i hi=>by simp[H85,hi]) kr⟩);simp[rs85]
def outK(b:Nat)(l:List Int):Aa:=if l.length=0 then .nils else .vec (b+2) l.length 0 l.length
structure jzw4(b M eM:Nat)(es:List (Aa×Aa))(ts:List Aa)(ps:Array Tmp)(asg body:Code)(l:List Int)(h:Aw):Prop where
 hM:h M=.amap eM es
 h0:h b=.box 1 [outK b l]
 h1:(h (b+1)).plain
 h2:(l.length=0->h (b+2)=.gone 0)/\(l.length≠0->∃f,h (b+2)=.vec l.length 1 l.length f/\∀k,k<l.length->f k=A0 (cI .i64) l k)
 h3:h (b+3)=.dfr 1
 h4:h (b+4)=.loop 1 .ready none ts ps asg body (b+3) 1
def T102(b:Nat)(F:Aa):List Aa:=.top :: .top :: .ptr b 1 0 :: .top :: .nils :: .top :: F :: .top :: List.replicate 5 .top
theorem jzus(b M eM:Nat)(es:List (Aa×Aa))(eu:es.length<1000000000000)(hM:M<b)(F:Aa)(ps:Array Tmp)(asg body:Code)(dR:ps.toList=[7])(dU:A8 Tryz.prog asg (.reg false (Mc b) [])=true)(bZ:A8 Tryz.prog body (Pu b)=true) :
  Vq (b+5) (b+4) 1 es.length (jzw4 b M eM es (T102 b F) ps asg body):=by
 refine⟨fun l h h' e H=>⟨(e M (by omega)).trans H.hM,(e b (by omega)).trans H.h0,by rw[e (b+1) (by omega)];exact H.h1,by rw[e (b+2) (by omega)];exact H.h2,(e _ (by omega)).trans H.h3,(e _ (by omega)).trans H.h4⟩,fun l k h kj H=>?_⟩;have mW:=H.hM;have gS:=H.h0;have h1:=H.h1;have h4:=H.h4;refine⟨T102 b F,ps,asg,body,b+3,1,H.h4,by rw[<-Array.length_toList,dR];rfl,fun ρ=>?_⟩;rw[dR];have n0:¬(b+4=b):=by omega
 refine(AW.r1 (ρ:=ρ) (pr:=[]) (by simp[Mc,T102,CU,List.replicate];rfl) ?_:AW EE ρ Tryz.prog (.reg false (Mc b) []) _ _) asg dU;refine⟨rfl,h4,?_⟩;refine(AW.block (id:=1) ?_:AW EE ρ Tryz.prog (Pu b) _ _) body bZ;by_cases hl:l.length=0
 ·have h2:=H.h2.1 hl;obtain rfl:l=[]:=O1 hl;refine AW.r1 (by simp[Pv,gS,h1,h2,outK,Eg,Bq,E6,-Aj.ep,-Aj.plain];exact⟨trivial,rfl⟩) ?_;refine⟨⟨none,by simp⟩,rfl,⟨?_,?_,?_,?_,?_,?_⟩,fun i hi=>?_⟩
  ·simp[show ¬(M=b+4) by omega,show ¬(M=b) by omega,show ¬(M=b+2) by omega,show ¬(M=b+1) by omega,mW]
  ·simp[outK]
  ·simp
  ·refine⟨fun e=>by simp at e,fun _=>⟨_,by simp;rfl,fun j hj=>?_⟩⟩;obtain rfl:j=0:=by simp at hj;omega
   simp[A0,cI]
  ·simp[H.h3]
  ·simp[T102,List.replicate]
  ·simp[show ¬(i=b+4) by omega,show ¬(i=b) by omega,show ¬(i=b+2) by omega,show ¬(i=b+1) by omega]
 ·obtain⟨f,h2,hf⟩:=H.h2.2 hl;have cE:¬(l=[]):=fun e=>hl (by simp[e]);refine AW.r1 (by simp[Pv,gS,h1,h2,outK,cE,Eg,Bq,E6,-Aj.ep,-Aj.plain];exact⟨by omega,rfl⟩) ?_;refine⟨⟨none,by simp⟩,rfl,⟨?_,?_,?_,?_,?_,?_⟩,fun i hi=>?_⟩
  ·simp[show ¬(M=b+4) by omega,show ¬(M=b) by omega,show ¬(M=b+2) by omega,show ¬(M=b+1) by omega,mW]
  ·simp[outK]
  ·simp
  ·refine⟨fun e=>by simp at e,fun _=>⟨_,by simp;rfl,fun j hj=>?_⟩⟩;rw[yzt];by_cases aZ:j<l.length
   ·simp[aZ,hf j aZ]
   ·obtain rfl:j=l.length:=by simp at hj;omega
    simp[A0,cI]
  ·simp[H.h3]
  ·simp[T102,List.replicate]
  ·simp[show ¬(i=b+4) by omega,show ¬(i=b) by omega,show ¬(i=b+2) by omega,show ¬(i=b+1) by omega]
theorem jzsf(b M eM:Nat)(es:List (Aa×Aa))(ky:Nat->Int)(hM:M<b)(eu:es.length<1000000000000)(hk:∀k,k<es.length->(es.getD k (.top,.top)).1=.int .i64 (ky k))(h:Aw)(h2:h M=.amap eM es) (hp:∀i,b<=i->h i=.gone 0) :
  ATr EE Tryz.prog 102 [.nils,.fn 85 0 [keyC M eM]] h (fun v h'=>∃ord:List Nat,ord.Nodup/\(∀x,x∈ord↔x<es.length)/\v=outK b (ord.map ky)/\(ord≠[]->∃f,h' (b+2)=.vec ord.length 1 ord.length f/\∀k,k<ord.length->f k=A0 (cI .i64) (ord.map ky) k)/\h' M=.amap eM es):=by
 obtain⟨c,cf,hc⟩:=wzf5;refine ATr.of (fn:=Tryz.f102) rfl cf wzge (hc b) 11 rfl ?_;have p0:=hp b (AC _);have p1:=hp (b+1) (by omega);have p2:=hp (b+2) (by omega);have p3:=hp (b+3) (by omega);have p4:=hp (b+4) (by omega);refine AW.sr (by simp[Vv,p0];rfl) ?_;refine .seq (AW.sr (by simp[Vw];rfl) ?_);refine .block (.see (.of_sub (S':=⟨T102 b (.fn 85 0 [keyC M eM]),_,[]⟩) ⟨?_,fun i=>.refl _,rfl,by simp⟩) (.rfunc (fi:=85) (caps:=[keyC M eM]) (b+3) (b+4) (by omega) (by simp[p3]) (by simp[p4]) (by simp[T102,List.replicate]) (by kernel_rfl) ?_))
 ·simp[T102,List.replicate]
 intro ps' asg body dR dU bZ;have e5:((hset h b (.box 1 [.nils])) (b+4)).ep+1=1:=by simp[p4]
 have e4:((hset h b (.box 1 [.nils])) (b+3)).ep+1=1:=by simp[p3]
 simp only[e4,e5];refine(jztr (b+5) (b+4) 1 M eM es ky (by omega) _ (jzus b M eM es eu hM (.fn 85 0 [keyC M eM]) ps' asg body dR dU bZ) (fun l h H=>H.hM) hk _ ?_ ?_).mono ?_
 ·refine⟨?_,?_,?_,?_,?_,?_⟩;·simp[show ¬(M=b+4) by omega,show ¬(M=b+3) by omega,show ¬(M=b) by omega,h2]
  ·simp[outK]
  ·simp[p1]
  ·simp[p2]
  ·simp
  ·simp
 ·intro i hi;simp[show ¬(i=b+4) by omega,show ¬(i=b+3) by omega,show ¬(i=b) by omega,hp i (by omega)]
 rintro r h' ⟨ord,cJ,bp,H⟩;have q0:=H.h0;refine⟨.ready,none,by simp,H.h4,H.h3,by simp,?_⟩;simp only[LU,ablk,Dp];have dF:(ord.map ky).length=ord.length:=by simp
 refine AW.sr (by simp[Vx,T102,List.replicate,q0];rfl) ?_;refine .ret ⟨_,.refl _,?_,hset (hset h' (b+4) (.gone 1)) (b+3) (.gone 1),fun i=>?_,?_,ord,cJ,bp,?_,?_,?_⟩
 ·simp[Pw]
 ·by_cases hi:i=b+3;·subst hi;exact .inl (by simp[H.h3])
  ·exact .of_eq (by simp[hi])
 ·intro D hD;simp at hD;subst hD;exact⟨1,by simp⟩
 ·simp[Pw]
 ·intro aJ;obtain⟨f,q2,hf⟩:=H.h2.2 (by rw[dF];exact fun e=>aJ (O1 e));refine⟨f,by simp[q2],fun k dm=>hf k (by rw[dF];exact dm)⟩
 ·simp[show ¬(M=b+4) by omega,show ¬(M=b+3) by omega,H.hM]
theorem jzsl(b M eM:Nat)(es:List (Aa×Aa))(ky:Nat->Int)(hM:M<b)(eu:es.length<1000000000000)(hk:∀k,k<es.length->(es.getD k (.top,.top)).1=.int .i64 (ky k))(h:Aw)(h2:h M=.amap eM es) (hp:∀i,b<=i->h i=.gone 0) :
  ATr EE Tryz.prog 83 [.fn 85 0 [keyC M eM]] h (fun v h'=>∃ord:List Nat,ord.Nodup/\(∀x,x∈ord↔x<es.length)/\v=outK b (ord.map ky)/\(ord≠[]->∃f,h' (b+2)=.vec ord.length 1 ord.length f/\∀k,k<ord.length->f k=A0 (cI .i64) (ord.map ky) k)/\h' M=.amap eM es):=by
 obtain⟨c,cf,hc⟩:=ck83;refine ATr.of (fn:=Tryz.f83) rfl cf cr83 (hc b) 4 rfl ?_;refine AW.sr (by simp[Vy];rfl) ?_;refine .seq (.reg ?_);simp[Vz];refine(jzsf b M eM es ky hM eu hk h h2 hp).mono ?_;rintro r h' ⟨ord,cJ,bp,rfl,hf,d6⟩;refine .ret (.here ?_ rfl ⟨ord,cJ,bp,?_,hf,d6⟩)<;>simp[rs83]
theorem jzf3{n:Nat}{ord:List Nat}(cJ:ord.Nodup)(h:∀x,x∈ord↔x<n):ord.Perm (List.range n):=by rw[List.perm_ext_iff_of_nodup cJ List.nodup_range];intro a;rw[h,GC]
theorem ATr.wv{E:Nat->Aa}{P:Program}{f:FuncId}{args:List Aa}{h:Aw}{R R':Aa->Aw->Prop}(H:ATr E P f args h R)(hr:∀v h',R v h'->∃v',W v v'/\R' v' h'):ATr E P f args h R' :=
 fun g w vs hh hv=>(H g w vs hh hv).mono fun _ _ ⟨g',h',r,v,q,e,rv,rest⟩=>by obtain⟨v',w1,q'⟩:=hr r h' q;exact⟨g',h',v',v,q',e,RV.w w1 rv,rest⟩
theorem Px(a:Int):∀l,(Be a l).Perm (a :: l)
 |[]=>.refl _
 |b :: l=>by
  unfold Be;cases decide (a<=b)
  ·exact((Px a l).cons b).trans (List.Perm.swap a b l)
  ·exact .refl _
theorem Md:∀l,(BD l).Perm l
 |[]=>.refl _
 |a :: l=>(Px a (BD l)).trans ((Md l).cons a)
theorem V0(a:Int):∀l:List Int,l.Pairwise (·<=·)->(Be a l).Pairwise (·<=·)
 |[],_=>H9 _ _
 |b :: l,hp=>by
  obtain⟨h1,h2⟩:=J9.1 hp;unfold Be;cases hd:decide (a<=b)
  ·have hd:=of_decide_eq_false hd;refine J9.2 ⟨fun c hc=>?_,V0 a l h2⟩;rcases AL.1 ((Px a l).mem_iff.1 hc) with rfl|hc
   ·omega
   ·exact h1 c hc
  ·have hd:=Ty hd;refine J9.2 ⟨fun c hc=>?_,hp⟩;rcases AL.1 hc with rfl|hc
   ·exact hd
   ·have:=h1 c hc;omega
theorem V1:∀l:List Int,(BD l).Pairwise (·<=·)
 |[]=>List.Pairwise.nil
 |a :: l=>V0 a _ (V1 l)
theorem jzsr{l m:List Int}(h:l.Perm m):Cp l=BD m:=by
 have tr:∀a b c:Int,decide (a<=b)=true->decide (b<=c)=true->decide (a<=c)=true:=by intro a b c h1 h2;simp at *;omega
 have tot:∀a b:Int,(decide (a<=b)||decide (b<=a))=true:=by intro a b;simp;omega
 have p1:=List.pairwise_mergeSort tr tot l;have pm:(Cp l).Perm (BD m):=(List.mergeSort_perm l _).trans (h.trans (Md m).symm);exact pm.eq_of_pairwise (le:=fun a b=>a<=b) (fun a b _ _ h1 h2=>by omega) (p1.imp fun h=>by simpa using h) (V1 m)
theorem jzto(L:List Int)(hn:0<List.length L)(aD:List.length L<=1000000000000)(h:Aw)(id ep:Nat)(f:Nat->List Aa)(hid:h id=.vec ep 1 (List.length L) f)(hf:∀k,k<List.length L->f k=A0 (cI .i64) L k){K:List Int}(hL:L.Perm K) :
  ATr EE Tryz.prog 84 [.vec id ep 0 (List.length L)] h (fun v h'=>v=.tup []/\∃f',h'=hset h id (.vec ep 1 (List.length L) f')/\∀k,k<List.length L->f' k=A0 (cI .i64) (BD K) k):=by
 have hs:=jzt0 (E:=EE) Tryz.lays189 (h:=h) (id:=id) (ep:=ep) (n:=List.length L) (f:=f) (a:=fun k=>L.getD k 0) hid hn (by omega) (fun k hk=>by rw[hf k hk,Kq (AD hk)];simp[cI,hk]);refine hs.mono ?_;rintro v h' ⟨rfl,rfl⟩;have e1:Bl (List.length L) (fun k=>L.getD k 0)=L:=by apply List.ext_getElem (by simp[Bl]);intro i h1 h2;simp[Bl]at h1 |-;simp[h1]
 refine⟨rfl,_,rfl,fun k hk=>?_⟩;rw[e1,jzsr hL];have dm:k<(BD K).length:=by rw[(Md K).length_eq,<-hL.length_eq];exact hk
 rw[Kq (AD dm)];simp[cI,dm]
theorem jzss(l:List (Int×Bool))(M eM:Nat)(es:List (Aa×Aa))(eu:es=l.map fun p=>(.int .i64 p.1,.bool p.2))(r:List Int)(hr:Dz l=some r)(h:Aw)(h2:h M=.amap eM es)(hp:∀i,i≠M->h i=.gone 0) :
  ATr EE Tryz.prog 54 [.fn 85 0 [keyC M eM]] h (fun v h'=>v=slcV 1 (cI .i64) r/\∀i,i∈[M]->h' i=h i):=by
 unfold Dz at hr;cases hx:(decide (0<List.length l)&&decide (List.length l<=1000000000))
 ·rw[hx]at hr;cases hr
 rw[hx]at hr;obtain rfl:r=BD (l.map (·.1)):=(BJ hr).symm;simp only[AE,Bp]at hx;obtain⟨gz,aD⟩:=hx;have aV:List.length es=List.length l:=by rw[eu];simp
 have hk:∀k,k<es.length->(es.getD k (.top,.top)).1=.int .i64 ((l.map (·.1)).getD k 0):=fun k hk=>by rw[aV]at hk;subst eu;simp[List.getD,hk]
 obtain⟨c,cf,hc⟩:=ck54;refine ATr.wv (R:=fun v h'=>W v (slcV 1 (cI .i64) (BD (l.map (·.1))))/\∀i,i∈[M]->h' i=h i) ?_ (fun v h' q=>⟨_,q.1,rfl,q.2⟩);refine ATr.of (fn:=Tryz.f54) rfl cf cr54 (hc (M+1)) 8 rfl ?_;refine AW.sr (by simp[V2];rfl) ?_;refine .seq (.reg ?_);simp[V3];refine(jzsl (M+1) M eM es (fun k=>(l.map (·.1)).getD k 0) (by omega) (by omega) hk h h2 (fun i hi=>hp i (by omega))).mono ?_;rintro v h' ⟨ord,cJ,bp,rfl,hf,d6⟩;refine .seq (.reg ?_);have kl:=jzf3 cJ bp
 have hL:(ord.map fun k=>(l.map (·.1)).getD k 0).Perm (l.map (·.1)):=by
  have e1:(List.range es.length).map (fun k=>(l.map (·.1)).getD k 0)=l.map (·.1):=by apply List.ext_getElem (by simp[aV]);intro i h1 h2;simp[aV]at h1;simp[h1]
  have e2:=kl.map (fun k=>(l.map (·.1)).getD k (0:Int))
  rwa [e1]at e2
 have db:List.length (ord.map fun k=>(l.map (·.1)).getD k (0:Int))=List.length ord:=by simp
 generalize pO:(ord.map fun k=>(l.map (·.1)).getD k (0:Int))=L at *;have bn:0<List.length ord:=by have:=kl.length_eq;rw[O4,aV]at this;omega
 have hn:ord≠[]:=fun e=>by rw[e]at bn;cases bn
 obtain⟨f,q2,hf⟩:=hf hn;have hs:=jzto L (by omega) (by have:=hL.length_eq;simp at this;omega) h' (M+1+2) ord.length f (by rw[db];exact q2) (fun k hk=>hf k (by omega)) hL;rw[db]at hs;simp[V4,outK,db,Nat.ne_of_gt bn];refine ATr.mono hs ?_;rintro v fT ⟨rfl,f',rfl,gN⟩;refine AW.sr (by simp[V5];rfl) ?_;refine .fz (M+1+2) (by simp) (by simp) ?_;have eJ:List.length (BD (l.map (·.1)))=List.length ord:=by rw[(Md _).length_eq,<-hL.length_eq,db]
 refine .ret (.here ?_ rfl ⟨?_,?_⟩)
 ·simp[rs54]
 ·simp[rs54];rw[LZ,Ha];refine⟨rfl,eJ.symm,fun k hk=>?_⟩;exact .of_eq (by simpa using gN k (by omega))
 ·simp[d6,h2,show ¬(M=M+1+2) by omega]
noncomputable def o54:Oc:=⟨54,85,.int .i64,.bool,[],[],[.slc (.int .i64)],fun l _=>Dz l⟩
theorem jzwi(l:List (Int×Bool))(y:List Int)(h:Aw)(id ep:Nat)(hF:Dz l=some y)(hid:h id=.amap ep (l.map fun p=>(.int .i64 p.1,.bool p.2))):Cz EE Tryz.prog 54 [.fn 85 0 [keyC id ep]] h [id] (slcV 1 (cI .i64) y):=by
 have hs:=ATr.frame (F:=[id]) (hs:=fun i=>if i=id then h id else .gone 0) (args:=[.fn 85 0 [keyC id ep]]) (r:=slcV 1 (cI .i64) y) (f:=54) (P:=Tryz.prog) hEE (fun i hi=>by simp at hi;simp[hi])
  (fun z hz=>by
   simp at hz;subst hz;refine .fn _ _ _ fun z hz=>?_;simp at hz;subst hz;refine .cptr _ _ _ fun j hj=>?_;obtain rfl:j=0:=by omega
   exact .mp _ _ (by simp))
  (fun i hi=>by
   obtain rfl:i=id:=by simpa using hi
   simp only[Cn,hid];intro e he;obtain⟨p,_,rfl⟩:=L7.1 he;exact⟨.int _ _,.bool _⟩)
  (Eo fun a z hz=>by simp[cI]at hz;subst hz;exact .int _ _)
  (jzss l id ep _ rfl y hF (fun i=>if i=id then h id else .gone 0) (by simp[hid]) (fun i hi=>by simp[hi]))
 intro h' e
 exact hs h' fun j hj=>by
  have:=e j hj;obtain rfl:j=id:=by simpa using hj
  rw[this];simp
theorem jzv8(l:List (Int×Bool)):mEs (.int .i64) .bool l=l.map fun p=>(Aa.int .i64 p.1,Aa.bool p.2):=by kernel_rfl
theorem jzv0:OcOk o54:=⟨by kernel_rfl,fun l x y h id ep hF hid=>jzwi l y h id ep hF (hid.trans (Ef (Aj.amap ep) (jzv8 l)))⟩
end Go.Am

