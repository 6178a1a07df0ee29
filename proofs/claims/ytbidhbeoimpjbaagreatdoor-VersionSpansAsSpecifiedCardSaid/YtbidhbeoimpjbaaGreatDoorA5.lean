/- Part A5: an abstract machine proved sound over the calculus of the guide. No condition. -/
import Derived.Test.YtbidhbeoimpjbaaGreatDoorA4
import Derived.Shelf.Sort.Plain
import Derived.Shelf.SlicesE.Reverse
set_option linter.unusedSimpArgs false
set_option linter.unusedVariables false
namespace Go.Am
section
variable {E:Nat->Aa}{P:Program}{ρ:Option Nat}{m:List Ax}{preds:List (List Nat)}{S:Aw}{n:Nat}{V:Nat->Aa}{R:Nat->List Nat}{O:Nat->Option (Nat×Ai)}
def aseq(E:Nat->Aa)(P:Program):List Ax->Aw->(Aw->Prop)->Prop
 |[],S,K=>∃S',See E S S'/\K S'
 |o :: r,S,K=>∃S1,See E S S1/\aop E P o S1 (fun S2=>aseq E P r S2 K)
theorem aseq.see{S':Aw}{K:Aw->Prop}(s:See E S S')(h:aseq E P m S' K):aseq E P m S K:=by
 cases m with
 |nil=>obtain⟨S1,h1,h2⟩:=h;exact⟨S1,s.trans h1,h2⟩
 |cons o m=>obtain⟨S1,h1,h2⟩:=h;exact⟨S1,s.trans h1,h2⟩
theorem aseq.mono:∀{m:List Ax} {S:Aw} {K K':Aw->Prop},aseq E P m S K->(∀S',K S'->K' S')->aseq E P m S K'
 |[],S,K,K',⟨S',h1,h2⟩,hk=>⟨S',h1,hk _ h2⟩
 |o :: m,S,K,K',⟨S1,h1,h2⟩,hk=>⟨S1,h1,h2.mono fun _ h=>h.mono hk⟩
theorem SReg.nilS{K:Aw->Prop}{S':Aw}(s:See E S S')(h:K S'):SReg E P [] S K:=.see s (.nil h)
theorem aseq.sreg:∀{m:List Ax} {S:Aw} {K:Aw->Prop},aseq E P m S K->SReg E P m S K
 |[],S,K,⟨S',h1,h2⟩=>.nilS h1 h2
 |o :: m,S,K,⟨S1,h1,h2⟩=>.see h1 (.cons (h2.mono fun _ h=>h.sreg))
variable {ops:Array Oper}{Q:Exit->Act->World->Prop}
theorem jzgl{N:Nat}{g0:Gh}{w0:World}(D:Iu E P m preds S n V R O)(hn:ops.size=N)(pJ:n<=N)(cJ:∀(k:Nat) (o:Oper),k<n->ops[k]?=some o->∃ao,m[k]?=some ao/\FF P ops o ao=true)(aY:∀(i:Nat) (o:Oper),ops[i]?=some o->∀e∈o.after.toList,Region.binds .any e=true->e.on<i)(bO:∀(i:Nat) (o:Oper),ops[i]?=some o->∀p∈preds.getD i [],∃e∈o.after.toList,Region.binds .any e=true/\(e.on=p\/p∈preds.getD e.on []))(fW:∀i,n<=i->i<N->∀j,j<n->j∈preds.getD i [])(next:∀(fuel:Nat) (listed:Array Bool),listed.size=N->(∀j,listed.getD j false=decide (j<n))->N-n<=fuel->∀g' a' w',SR E g' (lx m V O S n) a' w'->Stp g0 S.h w0 g' (lx m V O S n).h w'->wpAnyIn (FW ρ) 0 P .any ops Q fuel listed a' w') :
  ∀(fuel:Nat) (listed:Array Bool),listed.size=N->(∀j,n<=j->listed.getD j false=false)->(∀j,listed.getD j false=true->∀p∈preds.getD j [],listed.getD p false=true) -> (∃l:List Nat,(∀j,j<n->listed.getD j false=false->j∈l)/\l.length+(N-n)<=fuel)->∀(g:Gh) (a:Act) (w:World),SR E g (stL m V O S n (fun j=>listed.getD j false)) a w ->
   Stp g0 S.h w0 g (stL m V O S n (fun j=>listed.getD j false)).h w->wpAnyIn (FW ρ) 0 P .any ops Q fuel listed a w:=by
 have fin:∀(listed:Array Bool),(∀j,j<n->listed.getD j false=true)->stL m V O S n (fun j=>listed.getD j false)=lx m V O S n:=fun listed h=>by
  rw[<-VV];have et:(stL m V O S n (fun j=>listed.getD j false)).t=(stL m V O S n (fun _=>true)).t:=Ic fun x _=>yzr n fun j hj _=>h j hj;have eh:(stL m V O S n (fun j=>listed.getD j false)).h=(stL m V O S n (fun _=>true)).h:=by funext id;exact yzr n fun j hj _=>h j hj
  exact Aw.eq et eh rfl
 have done:∀(fuel:Nat) (listed:Array Bool),listed.size=N->(∀j,n<=j->listed.getD j false=false)->(∀j,j<n->listed.getD j false=true)->N-n<=fuel->∀(g:Gh) (a:Act) (w:World),SR E g (stL m V O S n (fun j=>listed.getD j false)) a w ->
   Stp g0 S.h w0 g (stL m V O S n (fun j=>listed.getD j false)).h w->wpAnyIn (FW ρ) 0 P .any ops Q fuel listed a w:=fun fuel listed hs h1 h2 hf g a w cx st=>by
  rw[fin listed h2]at cx st;refine next fuel listed hs (fun j=>?_) hf g a w cx st
  by_cases e:j<n
  ·rw[h2 j e];simp[e]
  ·rw[h1 j (by omega)];simp[e]
 intro fuel;induction fuel with
 |zero =>
  intro listed hs bW hc hf g a w cx st;obtain⟨l,hl,aD⟩:=hf;have gJ:l=[]:=by cases l<;>simp at aD ⊢
  have all:∀j,j<n->listed.getD j false=true:=fun j hj=>by
   cases h:listed.getD j false with
   |true=>rfl
   |false=>have:=hl j hj h;rw[gJ]at this;cases this
  exact done 0 listed hs bW all (by omega) g a w cx st
 |succ fuel ih =>
  intro listed hs bW hc hf g a w cx st;by_cases bG:∀j,j<n->listed.getD j false=true
  ·obtain⟨l,_,aD⟩:=hf;exact done _ listed hs bW bG (by omega) g a w cx st
  have some_ready:Region.ready .any ops listed≠[]:=fun hr=>by
   refine bG ?_;intro j;induction j using Nat.strongRecOn with
   |ind j ih2 =>
    intro hj;cases hl:listed.getD j false with
    |true=>rfl
    |false =>have fq:j<ops.size:=(by omega);have:j∈Region.ready .any ops listed:=Eo.2 ⟨ops[j],by simp[fq],by rw[Ep hs (by omega)];exact hl,fun e he hb=>ih2 e.on (aY j _ (by simp[fq]) e he hb) (by have:=aY j ops[j] (by simp[fq]) e he hb;omega)⟩;rw[hr]at this;cases this
  refine⟨fun hr=>absurd hr some_ready,fun i hi=>?_⟩;obtain⟨o,ho,h2,h3⟩:=Eo.1 hi;have fX:i<N:=by rw[<-hn];exact(Ds.1 ho).1
  rw[Ep hs fX]at h2
  have hp:∀p∈preds.getD i [],listed.getD p false=true:=fun p bP=>by
   obtain⟨e,he,hb,h4⟩:=bO i o ho p bP;rcases h4 with rfl|h4
   ·exact h3 e he hb
   ·exact hc e.on (h3 e he hb) p h4
  have aP:i<n:=by
   rcases C9 i n with h|h
   ·exact h
   ·exact absurd (fun j hj=>hp j (fW i h fX j hj)) bG
  obtain⟨ao,jc,ed⟩:=cJ i o aP ho;obtain⟨aI,fu⟩:=D.at (L:=fun j=>listed.getD j false) hc jc h2 hp
  have bN:∀j,(listed.setIfInBounds i true).getD j false=(listed.getD j false||j==i):=fun j=>by
   by_cases e:j=i
   ·subst e;simp[Array.getD,hs,fX]
   ·have e':¬i=j:=fun h=>e h.symm;by_cases hj:j<listed.size<;>simp[Array.getD,hj,e,e',Gaf]
  have aN:=fu (fun j=>(listed.setIfInBounds i true).getD j false) bN;unfold wpOpIn;simp only[ho];refine Q6 ed aI cx fun g' a' w' aX st'=>?_;refine ih _ (by simp[hs]) (fun j hj=>?_) (fun j hj p bP=>?_) ?_ g' a' w' (by rw[aN];exact aX) (by rw[aN];exact st.trans st')
  ·rw[bN,bW j hj];have:j≠i:=by omega
   simp[this]
  ·rw[bN]at hj ⊢;by_cases e:j=i
   ·subst e;rw[hp p bP];rfl
   ·have:listed.getD j false=true:=(by simpa [e] using hj);rw[hc j this p bP];rfl
  ·obtain⟨l,hl,aD⟩:=hf;have fV:=hl i aP h2;refine⟨l.erase i,fun j hj h=>?_,?_⟩
   ·rw[bN]at h;have aH:j≠i:=fun e=>by subst e;simp at h
    exact(List.mem_erase_of_ne aH).2 (hl j hj (by simpa [aH] using h))
   ·have:=List.length_erase_of_mem fV;have:0<l.length:=List.length_pos_of_mem fV;omega
theorem jzg6{N:Nat}(hn:ops.size=N)(aY:∀(i:Nat) (o:Oper),ops[i]?=some o->∀e∈o.after.toList,Region.binds .any e=true->e.on<i)(bO:∀(i:Nat) (o:Oper),ops[i]?=some o->∀p∈preds.getD i [],∃e∈o.after.toList,Region.binds .any e=true/\(e.on=p\/p∈preds.getD e.on [])) : ∀(m2:List Ax) (k:Nat),(∀i,k<i->i<N->∀j,j<i->j∈preds.getD i [])->yzf P ops (ops.toList.drop k) m2=true->∀(fuel:Nat) (listed:Array Bool),listed.size=N->(∀j,listed.getD j false=decide (j<k))->k<=N->N-k<=fuel -> ∀{K:Aw->Prop} {S:Aw} {g:Gh} {a:Act} {w:World},SR E g S a w->aseq E P m2 S K->(∀a' w',(∃g' S',K S'/\SR E g' S' a' w'/\Stp g S.h w g' S'.h w')->Q .normal a' w')->wpAnyIn (FW ρ) 0 P .any ops Q fuel listed a w:=by
 intro m2;induction m2 with
 |nil =>
  intro k gN hc fuel listed hs hl nJ hf K S g a w cx h hq
  have hk:k=N:=by
   have:ops.toList.drop k=[]:=by
    cases h:ops.toList.drop k with
    |nil=>rfl
    |cons x r=>rw[h]at hc;cases hc
   have:=Ga5.1 this;simp at this;omega
  have hr:Region.ready .any ops listed=[]:=by
   cases h:Region.ready .any ops listed with
   |nil=>rfl
   |cons i r =>have hi:i∈Region.ready .any ops listed:=(by rw[h];exact BO ..);obtain⟨o,ho,h2,_⟩:=Eo.1 hi;have fX:i<N:=(by rw[<-hn];exact(Ds.1 ho).1);rw[Ep hs fX,hl]at h2;simp at h2;omega
  obtain⟨S',h1,h2⟩:=h;obtain⟨g',aX,st⟩:=h1 g a w cx;have hQ:=hq a w ⟨g',S',h2,aX,st⟩;cases fuel with
  |zero=>exact⟨hr,hQ⟩
  |succ fuel=>exact⟨fun _=>hQ,fun i hi=>by rw[hr]at hi;cases hi⟩
 |cons ao m2 ih =>
  intro k gN hc fuel listed hs hl nJ hf K S g a w cx h hq
  have kZ:k<N:=by
   rcases C9 k N with h|h
   ·exact h
   ·rw[List.drop_eq_nil_of_le (by simp;omega)]at hc;cases hc
  have fT:k<ops.size:=by omega
  have f6:ops.toList.drop k=ops[k] :: ops.toList.drop (k+1):=by rw[JK (by simpa using fT)];simp
  rw[f6]at hc;simp only[yzf,AE]at hc;cases fuel with
  |zero=>omega
  |succ fuel =>
   have hk:k∈Region.ready .any ops listed:=Eo.2 ⟨ops[k],by simp[fT],by rw[Ep hs kZ,hl];simp,fun e he hb=>by rw[hl];simpa using aY k _ (by simp[fT]) e he hb⟩;refine⟨fun hr=>(by rw[hr]at hk;cases hk),fun i hi=>?_⟩;obtain⟨o,ho,h2,h3⟩:=Eo.1 hi;have fX:i<N:=by rw[<-hn];exact(Ds.1 ho).1
   rw[Ep hs fX,hl]at h2;have iC:k<=i:=by simpa using h2
   have hp:∀p∈preds.getD i [],∃q,p<=q/\listed.getD q false=true:=fun p bP=>by
    obtain⟨e,he,hb,h4⟩:=bO i o ho p bP;rcases h4 with rfl|h4
    ·exact⟨_,AC _,h3 e he hb⟩
    ·rcases C9 e.on p with h5|h5
     ·exfalso;have io:e.on<ops.size:=by have:=aY i o ho e he hb;omega
      have gv:∀(x:Nat),x<ops.size->∀p∈preds.getD x [],p<x:=fun x=>by
       induction x using Nat.strongRecOn with
       |ind x ihx =>
        intro hx p hp;obtain⟨e',lc,aW,h6⟩:=bO x ops[x] (by simp[hx]) p hp;have h7:=aY x ops[x] (by simp[hx]) e' lc aW;rcases h6 with rfl|h6
        ·exact h7
        ·have:=ihx e'.on h7 (by omega) p h6;omega
      have:=gv e.on io p h4;omega
     ·exact⟨_,h5,h3 e he hb⟩
   have nK:i=k:=by
    rcases C9 k i with h5|h5
    ·exfalso;obtain⟨q,mo,gv⟩:=hp k (gN i h5 fX k h5);rw[hl]at gv;simp at gv;omega
    ·omega
   subst nK;have eo:o=ops[i]:=by have:ops[i]?=some ops[i]:=(by simp[fT]);rw[this]at ho;cases ho;rfl
   subst eo;obtain⟨S1,s1,h⟩:=h;obtain⟨g1,da,st1⟩:=s1 g a w cx;unfold wpOpIn;simp only[ho];have h1:=LM (ρ:=ρ) (Q:=Q) hc.1 h da
   have imp:∀a' w',(∃g' S',aseq E P m2 S' K/\SR E g' S' a' w'/\Stp g1 S1.h w g' S'.h w')->wpAnyIn (FW ρ) 0 P .any ops Q fuel (listed.setIfInBounds i true) a' w':=by
    rintro a' w' ⟨g',S',fS,aX,st'⟩;refine ih (i+1) (fun i' h6=>gN i' (by omega)) hc.2 fuel _ (by simp[hs]) (fun j=>?_) (by omega) (by omega) aX fS ?_
    ·by_cases e:j=i;·subst e;simp[Array.getD,hs,fX]
     ·have e':¬i=j:=fun h=>e h.symm;have:(listed.setIfInBounds i true).getD j false=listed.getD j false:=(by by_cases hj:j<listed.size<;>simp[Array.getD,hj,e,e',Gaf]);rw[this,hl];simp only[decide_eq_decide];omega
    ·rintro a'' w'' ⟨g'',S'',hk,aV,st''⟩;exact hq a'' w'' ⟨g'',S'',hk,aV,st1.trans (st'.trans st'')⟩
   split at h1
   ·rename_i hw;rw[Ap hw];exact Oper.wpIn_mono imp h1
   ·rename_i hw;rw[Aj hw];exact⟨h1.1,imp _ _ h1.2⟩
def Iz(preds:List (List Nat))(n N:Nat):Bool:=(List.range N).all fun i=>decide (i<n)||(List.range i).all fun j=>(preds.getD i []).contains j
theorem Wl:∀{l:List Oper} {m m2:List Ax},yzf P ops l (m++m2)=true->yzf P ops (l.drop m.length) m2=true/\yzf P ops (l.take m.length) m=true
 |l,[],m2,h=>⟨by simpa using h,by cases l<;>rfl⟩
 |[],_ :: _,_,h=>by cases h
 |o :: l,a :: m,m2,h=>by simp only[Ux,yzf,AE]at h;obtain⟨h1,h2⟩:=Wl (l:=l) (m:=m) h.2;exact⟨by simpa using h1,by simp only[CZ,List.take_succ_cons,yzf,AE];exact⟨h.1,h2⟩⟩
theorem AWp.drawnB{id:Nat}{m2:List Ax}{Q:Exit->Aw->Prop}(hc:yzf P ops ops.toList (m++m2)=true)(hp:Hi ops.toList preds=true)(he:Hj 0 ops.toList=true)(eV:Iv (m++m2) preds=true) (hm:P.follows .mixedOrders=true) (hb:Iz preds m.length (m++m2).length=true)(h:Hk E P m S (fun S' tr=>Dl m preds tr=true/\aseq E P m2 S' (Q .normal))):AWp E ρ P (.region id ops true) Q S:=by
 obtain⟨aD,cJ⟩:=LP hc;obtain⟨f7,ld⟩:=Wl hc;obtain⟨V,R,O,dA,ix,hQ⟩:=QD _ _ _ h;have du:(m++m2).length=ops.size:=by rw[aD];simp
 have mq:m.length<=ops.size:=by rw[<-du];simp
 simp only[Iz,GO,GP,Fx,BE,UC]at hb;simp only[Hi,AE,Bt,GO,GP,BE]at hp;obtain⟨cC,hp⟩:=hp
 have gK:∀i p,p∈preds.getD i []->i<ops.toList.length:=fun i p h=>by
  rcases C9 i ops.toList.length with h1|h1
  ·exact h1
  ·simp[List.getD,JL (show preds.length<=i by omega)]at h
 simp only[Iv,GO,GP]at eV;have up:∀{i:Nat} {o:Ax},m[i]?=some o->(m++m2)[i]?=some o:=fun {i o} h=>by rw[Fy (AM.1 h).1];exact h
 have D:Iu E P m preds S m.length V R O:=by
  refine⟨rfl,dA,fun i j hj=>(hp i (gK i j hj) j hj).1,?_,?_⟩
  ·intro i j oi oj d hi hj aH h1 h2 hd;have:=eV i (AM.1 (up hi)).1 j (AM.1 (up hj)).1;rw[up hi,up hj]at this;have dh:j∉preds[i]?.getD []:=by simpa using h1
   have fS:i∉preds[j]?.getD []:=by simpa using h2
   simpa [aH,dh,fS,hd] using this
  ·exact VX dA ix
 have aY:∀(i:Nat) (o:Oper),ops[i]?=some o->∀e∈o.after.toList,Region.binds .any e=true->e.on<i:=fun i o hi e jd hb=>by have:=LQ he i o (by simpa using hi) e jd hb;omega
 have bO:∀(i:Nat) (o:Oper),ops[i]?=some o->∀p∈preds.getD i [],∃e∈o.after.toList,Region.binds .any e=true/\(e.on=p\/p∈preds.getD e.on []):=fun i o hi p bP=>by
  have h1:=(hp i (gK i p bP) p bP).2;have bw:ops.toList[i]?=some o:=by simpa using hi
  rw[bw]at h1;simp only[List.any_eq_true,AE,Fx,Bt,UC]at h1;obtain⟨e,h2,h3,h4⟩:=h1;exact⟨e,h2,h3,h4⟩
 have fW:∀i,m.length<=i->i<ops.size->∀j,j<i->j∈preds.getD i []:=fun i h1 h2 j hj=>by
  rcases hb i (by omega) with h3|h3
  ·omega
  ·exact h3 j hj
 intro g a w hs;have hw:=hs.hr.heap (w':={ w with drawn:=w.drawn+1 }) rfl rfl rfl rfl;have aX:SR E g S a { w with drawn:=w.drawn+1 }:=⟨hw.1,hs.tm.mono hw.2.le,hs.df,hs.dk,hs.dn⟩;have stp0:Stp g S.h w g S.h { w with drawn:=w.drawn+1 }:=hw.2;refine wpIn_region_any hm ?_
 have e0:stL m V O S m.length (fun j=>(Array.replicate ops.size false).getD j false)=S:=by
  have:(fun j=>(Array.replicate ops.size false).getD j false)=(fun j=>decide (j<0)):=by funext j;by_cases hj:j<ops.size<;>simp[Array.getD,hj]
  rw[this,It 0 (Ej _)];rfl
 refine jzgl (ρ:=ρ) (g0:=g) (w0:=w) (Q:=fun e a' w'=>∃g' S',Q e S'/\SR E g' S' a' w'/\Stp g S.h w g' S'.h w') D rfl mq (fun k o hk ho=>?_) aY bO (fun i h1 h2 j hj=>fW i h1 h2 j (by omega)) ?_
  ops.size (Array.replicate ops.size false) (by simp) (fun j hj=>?_) (fun j hj=>?_) ⟨List.range m.length,fun j hj _=>by simpa using hj,by simp;omega⟩ g a _ (by rw[e0];exact aX) (by rw[e0];exact stp0)
 ·obtain⟨ao,h1,h2⟩:=cJ k o (by simpa using ho);rw[Fy hk]at h1;exact⟨ao,h1,h2⟩
 ·intro fuel listed nL hl hf g' a' w' cQ st2;exact jzg6 (ρ:=ρ) (m2:=m2) rfl aY bO m.length (fun i h1 h2 j hj=>fW i (by omega) h2 j hj) f7 fuel listed nL hl mq hf cQ hQ fun a'' w'' ⟨g'',S'',q1,q2,q3⟩=>⟨g'',S'',q1,q2,st2.trans q3⟩
 ·by_cases h1:j<ops.size<;>simp[Array.getD,h1]
 ·by_cases h1:j<ops.size<;>simp[Array.getD,h1]at hj
theorem AW.drawB{m2:List Ax}{Q:Exit->Aw->Prop}{pr:List (List Nat)}(hb:Iz pr m.length (m++m2).length=true)(h:Hk E P m S (fun S' tr=>Dl m pr tr=true/\aseq E P m2 S' (Q .normal))):AW E ρ P (.reg true (m++m2) pr) Q S:=by
 intro code hc
 match code,hc with
 |.region id l false,hc=>simp[A8]at hc
 |.region id l true,hc =>simp only[A8,AE]at hc;exact .drawnB hc.1.1.1.1 hc.1.1.1.2 hc.1.1.2 hc.1.2 hc.2 hb h
 |.skip,hc=>simp[A8]at hc
 |.seq _ _,hc=>simp[A8]at hc
 |.cond _ _ _,hc=>simp[A8]at hc
 |.block _ _,hc=>simp[A8]at hc
 |.loop _,hc=>simp[A8]at hc
 |.rangeFunc _ _ _ _,hc=>simp[A8]at hc
 |.exit _,hc=>simp[A8]at hc
 |.scope _,hc=>simp[A8]at hc
 |.label _,hc=>simp[A8]at hc
 |.goto _,hc=>simp[A8]at hc
 |.ret,hc=>simp[A8]at hc
 |.refuse _,hc=>simp[A8]at hc
theorem AWp.post{c:Code}{Q Q':Exit->Aw->Prop}(h:AWp E ρ P c Q S)(hq:∀e S',Q e S'->∃S'',See E S' S''/\Q' e S''):AWp E ρ P c Q' S:=fun g a w hs=>wpIn_mono (h g a w hs) fun e a' w' ⟨g',S',q,aX,st⟩=>by obtain⟨S'',s,q'⟩:=hq e S' q;obtain⟨g'',aV,st'⟩:=s g' a' w' aX;exact⟨g'',S'',q',aV,st.trans st'⟩
end
structure Csm(E:Nat->Aa)(P:Program){A:Type}(aA:A->List Aa)(st:List A->Option Bool)(L e:Nat)(HC HX:List A->Ay->Prop):Prop where
 loc:∀l h h',(∀i,i<1000\/2000<=i->h' i=h i)->HC l h->HC l h'
 lox:∀l h h',(∀i,i<1000\/2000<=i->h' i=h i)->HX l h->HX l h'
 round:∀l x s h,HC l h->st (l++[x])=some s->Ch E P L e (aA x) h fun v h'=>v=.bool (!s)/\(s=false->HC (l++[x]) h')/\(s=true->HX (l++[x]) h')/\∀i,1000<=i->i<2000->h' i=h i
def SqOk(E:Nat->Aa)(P:Program){A:Type}(f:FuncId)(caps:List Aa)(aA:A->List Aa)(st:List A->Option Bool)(l:List A):Prop :=
 Cp P f=true/\∀(L e:Nat) (HC HX:List A->Ay->Prop),Csm E P aA st L e HC HX->∀h,HC [] h->(∀i,1000<=i->i<2000->∃e,h i=.gone e)->ATr E P f (.yld L e :: caps) h fun v h'=>HC l h'\/HX l h'
section
variable {E:Nat->Aa}{P:Program}{ρ:Option Nat}{m:List Ax}{preds:List (List Nat)}{n:Nat}
variable {ops:Array Oper}{Q:Exit->Act->World->Prop}
theorem jztt(G:(Nat->Bool)->Aw->Prop)(hn:ops.size=n)(cJ:∀(k:Nat) (o:Oper),ops[k]?=some o->∃ao,m[k]?=some ao/\FF P ops o ao=true)(aY:∀(i:Nat) (o:Oper),ops[i]?=some o->∀e∈o.after.toList,Region.binds .any e=true->e.on<i)(bO:∀(i:Nat) (o:Oper),ops[i]?=some o->∀p∈preds.getD i [],∃e∈o.after.toList,Region.binds .any e=true/\(e.on=p\/p∈preds.getD e.on []))(step:∀(L:Nat->Bool) (S:Aw) (i:Nat) (ao:Ax),G L S->(∀p∈preds.getD i [],L p=true)->L i=false->m[i]?=some ao->∃v rd out,BH E P ao S v rd out/\∀L':Nat->Bool,(∀j,L' j=(L j||j==i))->G L' ⟨putT S.t ao.dst v,putH S.h out,S.ds⟩) : ∀(fuel:Nat) (listed:Array Bool),listed.size=n->(∀j,listed.getD j false=true->∀p∈preds.getD j [],listed.getD p false=true) -> (∃l:List Nat,(∀j,j<n->listed.getD j false=false->j∈l)/\l.length<=fuel)->∀(g:Gh) (a:Act) (w:World) (S:Aw),SR E g S a w->G (fun j=>listed.getD j false) S -> (∀g' a' w' S' L,SR E g' S' a' w'->Stp g S.h w g' S'.h w'->G L S'->(∀j,j<n->L j=true)->Q .normal a' w')->wpAnyIn (FW ρ) 0 P .any ops Q fuel listed a w:=by
 have allr:∀(listed:Array Bool),listed.size=n->Region.ready .any ops listed=[]->∀j,j<n->listed.getD j false=true:=fun listed hs hr j=>by
  induction j using Nat.strongRecOn with
  |ind j ih =>
   intro hj;cases hl:listed.getD j false with
   |true=>rfl
   |false =>have fq:j<ops.size:=(by omega);have:j∈Region.ready .any ops listed:=Eo.2 ⟨ops[j],by simp[fq],by rw[Ep hs hj];exact hl,fun e he hb=>ih e.on (aY j _ (by simp[fq]) e he hb) (by have:=aY j ops[j] (by simp[fq]) e he hb;omega)⟩;rw[hr]at this;cases this
 intro fuel;induction fuel with
 |zero =>
  intro listed hs hc hf g a w S cx hG hq;obtain⟨l,hl,aD⟩:=hf;have gJ:l=[]:=by cases l<;>simp at aD ⊢
  have all:∀j,j<n->listed.getD j false=true:=fun j hj=>by
   cases h:listed.getD j false with
   |true=>rfl
   |false=>have:=hl j hj h;rw[gJ]at this;cases this
  refine⟨?_,hq g a w S _ cx (.refl _ _ _) hG all⟩;cases hr:Region.ready .any ops listed with
  |nil=>rfl
  |cons i r =>
   have hi:i∈Region.ready .any ops listed:=by rw[hr];exact BO ..
   obtain⟨o,ho,h2,_⟩:=Eo.1 hi;have aP:i<n:=by rw[<-hn];exact(Ds.1 ho).1
   rw[Ep hs aP,all i aP]at h2;cases h2
 |succ fuel ih =>
  intro listed hs hc hf g a w S cx hG hq;refine⟨fun hr=>?_,fun i hi=>?_⟩
  ·exact hq g a w S _ cx (.refl _ _ _) hG (allr listed hs hr)
  ·obtain⟨o,ho,h2,h3⟩:=Eo.1 hi;have aP:i<n:=by rw[<-hn];exact(Ds.1 ho).1
   rw[Ep hs aP]at h2;obtain⟨ao,jc,ed⟩:=cJ i o ho
   have hp:∀p∈preds.getD i [],listed.getD p false=true:=fun p bP=>by
    obtain⟨e,he,hb,h4⟩:=bO i o ho p bP;rcases h4 with rfl|h4
    ·exact h3 e he hb
    ·exact hc e.on (h3 e he hb) p h4
   obtain⟨v,rd,out,aI,dJ⟩:=step _ S i ao hG hp h2 jc
   have bN:∀j,(listed.setIfInBounds i true).getD j false=(listed.getD j false||j==i):=fun j=>by
    by_cases e:j=i
    ·subst e;simp[Array.getD,hs,aP]
    ·have e':¬i=j:=fun h=>e h.symm;by_cases hj:j<listed.size<;>simp[Array.getD,hj,e,e',Gaf]
   unfold wpOpIn;simp only[ho];refine Q6 ed aI cx fun g' a' w' aX st=>?_;refine ih _ (by simp[hs]) (fun j hj p bP=>?_) ?_ g' a' w' _ aX (dJ _ bN) (fun g'' a'' w'' S'' L aV st'' h1 h2=>hq g'' a'' w'' S'' L aV (st.trans st'') h1 h2)
   ·rw[bN]at hj ⊢;by_cases e:j=i
    ·subst e;rw[hp p bP];rfl
    ·have:listed.getD j false=true:=(by simpa [e] using hj);rw[hc j this p bP];rfl
   ·obtain⟨l,hl,aD⟩:=hf;have fV:=hl i aP h2;refine⟨l.erase i,fun j hj h=>?_,?_⟩
    ·rw[bN]at h;have aH:j≠i:=fun e=>by subst e;simp at h
     exact(List.mem_erase_of_ne aH).2 (hl j hj (by simpa [aH] using h))
    ·rw[List.length_erase_of_mem fV];omega
theorem AW.drawG{S:Aw}{Q:Exit->Aw->Prop}(G:(Nat->Bool)->Aw->Prop)(h0:G (fun _=>false) S)(step:∀(L:Nat->Bool) (S:Aw) (i:Nat) (ao:Ax),G L S->(∀p∈preds.getD i [],L p=true)->L i=false->m[i]?=some ao->∃v rd out,BH E P ao S v rd out/\∀L':Nat->Bool,(∀j,L' j=(L j||j==i))->G L' ⟨putT S.t ao.dst v,putH S.h out,S.ds⟩)(fin:∀L S',G L S'->(∀j,j<m.length->L j=true)->Q .normal S'):AW E ρ P (.reg true m preds) Q S:=by
 intro code hc
 match code,hc with
 |.region id l false,hc=>simp[A8]at hc
 |.region id l true,hc =>
  simp only[A8,AE]at hc;obtain⟨⟨⟨⟨ed,hp⟩,he⟩,_⟩,hm⟩:=hc;obtain⟨aD,cJ⟩:=LP ed;have du:m.length=l.size:=by rw[aD];simp
  simp only[Hi,AE,Bt,GO,GP,BE]at hp;obtain⟨cC,hp⟩:=hp
  have gK:∀i p,p∈preds.getD i []->i<l.toList.length:=fun i p h=>by
   rcases C9 i l.toList.length with h1|h1
   ·exact h1
   ·simp[List.getD,JL (show preds.length<=i by omega)]at h
  intro g a w hs;have hw:=hs.hr.heap (w':={ w with drawn:=w.drawn+1 }) rfl rfl rfl rfl;have aX:SR E g S a { w with drawn:=w.drawn+1 }:=⟨hw.1,hs.tm.mono hw.2.le,hs.df,hs.dk,hs.dn⟩;have stp0:Stp g S.h w g S.h { w with drawn:=w.drawn+1 }:=hw.2;refine wpIn_region_any hm ?_;have e0:(fun j=>(Array.replicate l.size false).getD j false)=(fun _=>false):=by funext j;by_cases hj:j<l.size<;>simp[Array.getD,hj]
  refine jztt (E:=E) (m:=m) (preds:=preds) (ρ:=ρ) (n:=m.length) (Q:=fun e a' w'=>∃g' S',Q e S'/\SR E g' S' a' w'/\Stp g S.h w g' S'.h w') G du.symm (fun k o hk=>cJ k o (by simpa using hk)) (fun i o hi e jd hb=>by have:=LQ he i o (by simpa using hi) e jd hb;omega) (fun i o hi p bP=>?_) step
   l.size (Array.replicate l.size false) (by simp[du]) (fun j hj=>?_) ⟨List.range m.length,fun j hj _=>by simpa using hj,by simp[du]⟩ g a _ S aX (by rw[e0];exact h0) (fun g' a' w' S' L cQ st hG hL=>⟨g',S',fin L S' hG hL,cQ,stp0.trans st⟩)
  ·have h1:=(hp i (gK i p bP) p bP).2;have bw:l.toList[i]?=some o:=by simpa using hi
   rw[bw]at h1;simp only[List.any_eq_true,AE,Fx,Bt,UC]at h1;obtain⟨e,h2,h3,h4⟩:=h1;exact⟨e,h2,h3,h4⟩
  ·by_cases h1:j<l.size<;>simp[Array.getD,h1]at hj
 |.skip,hc=>simp[A8]at hc
 |.seq _ _,hc=>simp[A8]at hc
 |.cond _ _ _,hc=>simp[A8]at hc
 |.block _ _,hc=>simp[A8]at hc
 |.loop _,hc=>simp[A8]at hc
 |.rangeFunc _ _ _ _,hc=>simp[A8]at hc
 |.exit _,hc=>simp[A8]at hc
 |.scope _,hc=>simp[A8]at hc
 |.label _,hc=>simp[A8]at hc
 |.goto _,hc=>simp[A8]at hc
 |.ret,hc=>simp[A8]at hc
 |.refuse _,hc=>simp[A8]at hc
end
open Go.Sort Go.Proofs
def Ct(l:List Int):List Int:=l.mergeSort fun x y=>decide (x<=y)
def Bl(n:Nat)(a:Nat->Int):List Int:=(List.range n).map a
theorem jzr6(n:Nat)(a:Nat->Int):(Bl n a).length=n:=by simp[Bl]
theorem jzt0{E:Nat->Aa}{P:Program}{ρ:Go.Shelf.Ren}(Ly:Lays.n189 P ρ){h:Ay}{id ep n:Nat}{f:Nat->List Aa}{a:Nat->Int}(hid:h id=.vec ep 1 n f)(hn:0<n)(gw:n<4611686018427387904)(hf:∀k,k<n->f k=[.int .i64 (a k)]) :
  ATr E P (ρ.f 189) [.vec id ep 0 n] h (fun r h'=>r=.tup []/\h'=hset h id (.vec ep 1 n (fun k=>[.int .i64 ((Ct (Bl n a)).getD k 0)]))):=by
 intro g w vs H hv
 obtain⟨v,rfl⟩:∃v,vs=[v]:=by
  have:=hv.1
  match vs,this with
  |[v],_=>exact⟨v,rfl⟩
 have bQ:RV g w (.vec id ep 0 n) v:=hv.2 0 _ _ rfl rfl;have bS:g.ep id=ep:=by rw[H.ep id,hid];rfl
 cases bQ with
 |vec _ _ _ _ _ h1 he hV =>
 obtain⟨ad,cap,rfl,aS,eu⟩:=hV bS.symm;have ho:=H.obj id;rw[hid]at ho;obtain⟨aI,_,gO,arr,ty,bH,c8,bL⟩:=ho;rcases eu with e0|⟨rfl,cz⟩
 ·omega
 have aD:(Bl n a).length=n:=jzr6 n a;have aQ:(h id).owned=true:=by rw[hid];rfl
 have aO:∀j,j<n->arr[g.bo id+j]?=some (.int .i64 (a j)):=by
  intro j hj;have hlt:g.bo id+j<arr.size:=by omega
  have h3:=(bL j hj).2 0 (.int .i64 (a j)) arr[g.bo id+j] (by rw[hf j hj];rfl) (by simp[EB hlt]);rw[EB hlt,DK h3.2]
 have dH:(⟨g.blk id,g.bo id+0*g.st id,none⟩:Addr)=⟨g.blk id,g.bo id,none⟩:=by simp
 have aK:g.blk id<w.heap.size:=(Ds.1 bH).1
 have hH:Holds (Value.int .i64) w (g.blk id) (g.bo id) (Bl n a).toArray:=by
  intro j hj;have bF:j<n:=by simpa [aD] using hj
  refine⟨?_,by simp[World.frozen?,bH]⟩;simp only[World.cell?,bH];simp only[Option.isSome_none,JC,Cz];rw[aO j bF];have lg:j<(Bl n a).toArray.size:=by simpa [aD] using bF
  rw[getElem!_pos (Bl n a).toArray j lg];simp[Bl]
 have main:=Any.slices_Sort_int Ly (g.blk id) (g.bo id) cap (Bl n a) w hH aK (by rw[aD];exact gw);rw[aD]at main;rw[dH];refine main.mono ?_;rintro e w' ⟨rfl,m,os,rfl⟩;have du:(Ct (Bl n a)).length=n:=by unfold Ct;rw[List.length_mergeSort,aD]
 have aJ:w.heap.size<=(grow (putRow (Value.int .i64) (Sort.ahead w m) (g.blk id) (g.bo id) (Ct (Bl n a)).toArray) os).heap.size:=by rw[size_grow];simp[putRow,mapBlock,Sort.ahead]
 have aU:∀b,b<w.heap.size->b≠g.blk id->(grow (putRow (Value.int .i64) (Sort.ahead w m) (g.blk id) (g.bo id) (Ct (Bl n a)).toArray) os).heap[b]?=w.heap[b]?:=by intro b hb aH;rw[heap_grow_old _ _ (by simpa [putRow,mapBlock,Sort.ahead] using hb)];have:g.blk id≠b:=fun e=>aH e.symm;simp[putRow,mapBlock,Sort.ahead,PW,this]
 have aN:(grow (putRow (Value.int .i64) (Sort.ahead w m) (g.blk id) (g.bo id) (Ct (Bl n a)).toArray) os).heap[g.blk id]?=some (.cells (putCells (Value.int .i64) (g.bo id) (Ct (Bl n a)).toArray arr) ty (0,0)):=by rw[heap_grow_old _ _ (by simpa [putRow,mapBlock,Sort.ahead] using aK)];simp[putRow,mapBlock,Sort.ahead,PW,bH,onCells]
 have aE:GLe g w g (grow (putRow (Value.int .i64) (Sort.ahead w m) (g.blk id) (g.bo id) (Ct (Bl n a)).toArray) os) := ⟨fun b hb=>⟨hb,aU b (H.fzb b hb) (fun e=>H.sep id aQ (e▸hb))⟩,fun _=>AC _,fun _ _=>⟨rfl,rfl,rfl,rfl⟩⟩
 have eu:OR g (grow (putRow (Value.int .i64) (Sort.ahead w m) (g.blk id) (g.bo id) (Ct (Bl n a)).toArray) os) id (.vec ep 1 n (fun k=>[.int .i64 ((Ct (Bl n a)).getD k 0)])):=by
  refine⟨aI,by omega,gO,_,ty,aN,by simpa [putCells] using c8,fun k hk=>⟨rfl,fun j x v hx hv=>?_⟩⟩
  have hj:j=0:=by
   cases j with
   |zero=>rfl
   |succ j=>simp at hx
  subst hj;simp only[UD,AY]at hx;subst hx;have gD:g.bo id+k<arr.size:=by omega
  have:v=.int .i64 ((Ct (Bl n a)).getD k 0):=by
   simp only[putCells,Array.getElem?_mapIdx,Nat.mul_one,Ia,EB gD,Ek,AY]at hv;rw[Ap ⟨by omega,by simp[du];omega⟩]at hv;rw[<-hv];have dr:k<(Ct (Bl n a)).length:=by omega
   have e1:g.bo id+k-g.bo id=k:=by omega
   rw[e1];have lg:k<(Ct (Bl n a)).toArray.size:=by simpa using dr
   rw[getElem!_pos (Ct (Bl n a)).toArray k lg];simp[List.getD,AD dr]
  subst this;exact⟨rfl,.int _ _⟩
 obtain⟨H',S'⟩:=HR.upd (E:=E) (g':=g) (i:=id) (o':=.vec ep 1 n (fun k=>[.int .i64 ((Ct (Bl n a)).getD k 0)])) H aE (fun _ _=>rfl) bS (fun b hb hn=>aU b hb (hn aQ)) aJ eu (fun _=>.inl ⟨aQ,rfl⟩) (fun _=>H.sep id aQ) (fun b hb=>.inl hb) (fun b hb=>F0 (H.fzb b hb) aJ) rfl rfl rfl (by show w.drawn<=w.drawn+m;omega);exact⟨g,_,.tup [],.tuple #[],⟨rfl,rfl⟩,rfl,.tup [] #[] rfl (fun i x v hx _=>by simp at hx),H',S'⟩
open Go.Sort Go.Proofs Go.Shelf
theorem qz2n{α:Type}[Inhabited α]{E:Nat->Aa}{P:Program}{ρ:Ren}(Ly:SlLaysE.n35 P ρ)(cs:α->Aa)(enc:α->Value)(h1:OneCell enc)(bQ:∀g w x v,RV g w (cs x) v->v=enc x) (gP:∀g w x,RV g w (cs x) (enc x)){h:Ay} {id ep n:Nat} {f:Nat->List Aa} {l:List α} (hid:h id=.vec ep 1 n f) (cN:l.length=n) (hn:0<n) (gw:n<=9223372036854775807) (hf:∀j,j<n->f j=[cs l.toArray[j]!]) :
  ATr E P (ρ.f 35) [.vec id ep 0 n] h (fun r h'=>r=.tup []/\h'=hset h id (.vec ep 1 n (fun j=>[cs l.reverse.toArray[j]!]))):=by
 intro g w vs H hv
 obtain⟨v,rfl⟩:∃v,vs=[v]:=by
  have:=hv.1
  match vs,this with
  |[v],_=>exact⟨v,rfl⟩
 have gQ:RV g w (.vec id ep 0 n) v:=hv.2 0 _ _ rfl rfl;have bS:g.ep id=ep:=by rw[H.ep id,hid];rfl
 cases gQ with
 |vec _ _ _ _ _ dh he hV =>
 obtain⟨ad,cap,rfl,aS,eu⟩:=hV bS.symm;have ho:=H.obj id;rw[hid]at ho;obtain⟨aI,_,gO,arr,ty,bH,c8,bL⟩:=ho;rcases eu with e0|⟨rfl,cz⟩
 ·omega
 have aQ:(h id).owned=true:=by rw[hid];rfl
 have aO:∀j,j<n->arr[g.bo id+j]?=some (enc l.toArray[j]!):=by
  intro j hj;have hlt:g.bo id+j<arr.size:=by omega
  have h3:=(bL j hj).2 0 (cs l.toArray[j]!) arr[g.bo id+j] (by rw[hf j hj];rfl) (by simp[EB hlt]);rw[EB hlt,bQ _ _ _ _ h3.2]
 have dH:(⟨g.blk id,g.bo id+0*g.st id,none⟩:Addr)=⟨g.blk id,g.bo id,none⟩:=by simp
 have aK:g.blk id<w.heap.size:=(Ds.1 bH).1
 have hH:Holds enc w (g.blk id) (g.bo id) l.toArray:=by
  intro j hj;have bF:j<n:=by simpa [cN] using hj
  refine⟨?_,by simp[World.frozen?,bH]⟩;simp only[World.cell?,bH];simp only[Option.isSome_none,JC,Cz];exact aO j bF
 have main:=AnyE.slices_Reverse Ly enc h1 (g.blk id) (g.bo id) cap l w hH (by rw[cN];exact gw);rw[cN]at main;rw[dH];refine main.mono ?_;rintro e w' ⟨rfl,m,rfl⟩;have nM:l.reverse.toArray.size=n:=by simp[cN]
 have aJ:w.heap.size<=(putRow enc (Sort.ahead w m) (g.blk id) (g.bo id) l.reverse.toArray).heap.size:=by simp[putRow,mapBlock,Sort.ahead]
 have aU:∀b,b<w.heap.size->b≠g.blk id->(putRow enc (Sort.ahead w m) (g.blk id) (g.bo id) l.reverse.toArray).heap[b]?=w.heap[b]?:=by intro b hb aH;have:g.blk id≠b:=fun e=>aH e.symm;simp[putRow,mapBlock,Sort.ahead,PW,this]
 have aN:(putRow enc (Sort.ahead w m) (g.blk id) (g.bo id) l.reverse.toArray).heap[g.blk id]?=some (.cells (putCells enc (g.bo id) l.reverse.toArray arr) ty (0,0)):=by simp[putRow,mapBlock,Sort.ahead,PW,bH,onCells]
 have aE:GLe g w g (putRow enc (Sort.ahead w m) (g.blk id) (g.bo id) l.reverse.toArray) := ⟨fun b hb=>⟨hb,aU b (H.fzb b hb) (fun e=>H.sep id aQ (e▸hb))⟩,fun _=>AC _,fun _ _=>⟨rfl,rfl,rfl,rfl⟩⟩
 have eu:OR g (putRow enc (Sort.ahead w m) (g.blk id) (g.bo id) l.reverse.toArray) id (.vec ep 1 n (fun j=>[cs l.reverse.toArray[j]!])):=by
  refine⟨aI,by omega,gO,_,ty,aN,by simpa [putCells] using c8,fun k hk=>⟨rfl,fun j x v hx hv=>?_⟩⟩
  have hj:j=0:=by
   cases j with
   |zero=>rfl
   |succ j=>simp at hx
  subst hj;simp only[UD,AY]at hx;subst hx;have gD:g.bo id+k<arr.size:=by omega
  have:v=enc l.reverse.toArray[k]! := by simp only[putCells,Array.getElem?_mapIdx,Nat.mul_one,Ia,EB gD,Ek,AY]at hv;rw[Ap ⟨by omega,by rw[nM];omega⟩]at hv;rw[<-hv,show g.bo id+k-g.bo id=k by omega]
  subst this;exact⟨h1 _,gP _ _ _⟩
 obtain⟨H',S'⟩:=HR.upd (E:=E) (g':=g) (i:=id) (o':=.vec ep 1 n (fun j=>[cs l.reverse.toArray[j]!])) H aE (fun _ _=>rfl) bS (fun b hb hn=>aU b hb (hn aQ)) aJ eu (fun _=>.inl ⟨aQ,rfl⟩) (fun _=>H.sep id aQ) (fun b hb=>.inl hb) (fun b hb=>F0 (H.fzb b hb) aJ) rfl rfl rfl (Nat.le_add_right _ _);exact⟨g,_,.tup [],.tuple #[],⟨rfl,rfl⟩,rfl,.tup [] #[] rfl (fun i x v hx _=>by simp at hx),H',S'⟩
theorem wzdy{E:Nat->Aa}{P:Program}{ρ:Ren}(Ly:SlLaysE.n35 P ρ){h:Ay}:ATr E P (ρ.f 35) [.nils] h (fun r h'=>r=.tup []/\h'=h):=by
 intro g w vs H hv
 obtain⟨v,rfl⟩:∃v,vs=[v]:=by
  have:=hv.1
  match vs,this with
  |[v],_=>exact⟨v,rfl⟩
 have gQ:RV g w .nils v:=hv.2 0 _ _ rfl rfl;cases gQ;refine(AnyE.slices_Reverse_empty Ly none 0 w).mono ?_;rintro e w' ⟨rfl,rfl⟩;exact⟨g,h,.tup [],.tuple #[],⟨rfl,rfl⟩,rfl,.tup [] #[] rfl (fun i x v hx _=>by simp at hx),H,.refl _ _ _⟩
end Go.Am

