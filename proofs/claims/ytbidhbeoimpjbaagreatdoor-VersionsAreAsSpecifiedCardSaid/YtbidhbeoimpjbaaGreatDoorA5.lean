/- Part A5: an abstract machine proved sound over the calculus of the guide. No condition. -/
import Derived.Test.YtbidhbeoimpjbaaGreatDoorA4
import Derived.Shelf.Sort.Plain
import Derived.Shelf.SlicesE.Reverse
set_option linter.unusedSimpArgs false
set_option linter.unusedVariables false
namespace Go.Am
section
variable {E:Nat->Aa}{P:Program}{ρ:Option Nat}{m:List Av}{preds:List (List Nat)}{S:Au}{n:Nat}{V:Nat->Aa}{R:Nat->List Nat}{O:Nat->Option (Nat×Ai)}
def aseq(E:Nat->Aa)(P:Program):List Av->Au->(Au->Prop)->Prop
 |[],S,K=>∃S',See E S S'/\K S'
 |o :: r,S,K=>∃S1,See E S S1/\aop E P o S1 (fun S2=>aseq E P r S2 K)
theorem aseq.see{S':Au}{K:Au->Prop}(s:See E S S')(h:aseq E P m S' K):aseq E P m S K:=by
 cases m with
 |nil=>obtain⟨S1,h1,h2⟩:=h;exact⟨S1,s.trans h1,h2⟩
 |cons o m=>obtain⟨S1,h1,h2⟩:=h;exact⟨S1,s.trans h1,h2⟩
theorem aseq.mono:∀{m:List Av} {S:Au} {K K':Au->Prop},aseq E P m S K->(∀S',K S'->K' S')->aseq E P m S K'
 |[],S,K,K',⟨S',h1,h2⟩,hk=>⟨S',h1,hk _ h2⟩
 |o :: m,S,K,K',⟨S1,h1,h2⟩,hk=>⟨S1,h1,h2.mono fun _ h=>h.mono hk⟩
theorem SReg.nilS{K:Au->Prop}{S':Au}(s:See E S S')(h:K S'):SReg E P [] S K:=.see s (.nil h)
theorem aseq.sreg:∀{m:List Av} {S:Au} {K:Au->Prop},aseq E P m S K->SReg E P m S K
 |[],S,K,⟨S',h1,h2⟩=>.nilS h1 h2
 |o :: m,S,K,⟨S1,h1,h2⟩=>.see h1 (.cons (h2.mono fun _ h=>h.sreg))
variable {ops:Array Oper}{Q:Exit->Act->World->Prop}
theorem tY{N:Nat}{g0:Gh}{w0:World}(D:Iv E P m preds S n V R O)(hn:ops.size=N)(pU:n<=N)(cM:∀(k:Nat) (o:Oper),k<n->ops[k]?=some o->∃ao,m[k]?=some ao/\FH P ops o ao=true)(aY:∀(i:Nat) (o:Oper),ops[i]?=some o->∀e∈o.after.toList,Region.binds .any e=true->e.on<i)(bS:∀(i:Nat) (o:Oper),ops[i]?=some o->∀p∈preds.getD i [],∃e∈o.after.toList,Region.binds .any e=true/\(e.on=p\/p∈preds.getD e.on []))(gf:∀i,n<=i->i<N->∀j,j<n->j∈preds.getD i [])(next:∀(fuel:Nat) (listed:Array Bool),listed.size=N->(∀j,listed.getD j false=decide (j<n))->N-n<=fuel->∀g' a' w',SR E g' (lx m V O S n) a' w'->Stp g0 S.h w0 g' (lx m V O S n).h w'->wpAnyIn (FW ρ) 0 P .any ops Q fuel listed a' w') :
  ∀(fuel:Nat) (listed:Array Bool),listed.size=N->(∀j,n<=j->listed.getD j false=false)->(∀j,listed.getD j false=true->∀p∈preds.getD j [],listed.getD p false=true) -> (∃l:List Nat,(∀j,j<n->listed.getD j false=false->j∈l)/\l.length+(N-n)<=fuel)->∀(g:Gh) (a:Act) (w:World),SR E g (stL m V O S n (fun j=>listed.getD j false)) a w ->
   Stp g0 S.h w0 g (stL m V O S n (fun j=>listed.getD j false)).h w->wpAnyIn (FW ρ) 0 P .any ops Q fuel listed a w:=by
 have fin:∀(listed:Array Bool),(∀j,j<n->listed.getD j false=true)->stL m V O S n (fun j=>listed.getD j false)=lx m V O S n:=fun listed h=>by
  rw[<-VH];have et:(stL m V O S n (fun j=>listed.getD j false)).t=(stL m V O S n (fun _=>true)).t:=Ie fun x _=>yzr n fun j hj _=>h j hj;have eh:(stL m V O S n (fun j=>listed.getD j false)).h=(stL m V O S n (fun _=>true)).h:=by funext id;exact yzr n fun j hj _=>h j hj
  exact Au.eq et eh rfl
 have done:∀(fuel:Nat) (listed:Array Bool),listed.size=N->(∀j,n<=j->listed.getD j false=false)->(∀j,j<n->listed.getD j false=true)->N-n<=fuel->∀(g:Gh) (a:Act) (w:World),SR E g (stL m V O S n (fun j=>listed.getD j false)) a w ->
   Stp g0 S.h w0 g (stL m V O S n (fun j=>listed.getD j false)).h w->wpAnyIn (FW ρ) 0 P .any ops Q fuel listed a w:=fun fuel listed hs h1 h2 hf g a w c7 st=>by
  rw[fin listed h2]at c7 st;refine next fuel listed hs (fun j=>?_) hf g a w c7 st
  by_cases e:j<n
  ·rw[h2 j e];simp[e]
  ·rw[h1 j (by omega)];simp[e]
 intro fuel;induction fuel with
 |zero =>
  intro listed hs cg hc hf g a w c7 st;obtain⟨l,hl,aD⟩:=hf;have gW:l=[]:=by cases l<;>simp at aD |-
  have all:∀j,j<n->listed.getD j false=true:=fun j hj=>by
   cases h:listed.getD j false with
   |true=>rfl
   |false=>have:=hl j hj h;rw[gW]at this;cases this
  exact done 0 listed hs cg all (by omega) g a w c7 st
 |succ fuel ih =>
  intro listed hs cg hc hf g a w c7 st;by_cases bJ:∀j,j<n->listed.getD j false=true
  ·obtain⟨l,_,aD⟩:=hf;exact done _ listed hs cg bJ (by omega) g a w c7 st
  have some_ready:Region.ready .any ops listed≠[]:=fun hr=>by
   refine bJ ?_;intro j;induction j using Nat.strongRecOn with
   |ind j ih2 =>
    intro hj;cases hl:listed.getD j false with
    |true=>rfl
    |false =>have fx:j<ops.size:=(by omega);have:j∈Region.ready .any ops listed:=Eo.2 ⟨ops[j],by simp[fx],by rw[Ep hs (by omega)];exact hl,fun e he hb=>ih2 e.on (aY j _ (by simp[fx]) e he hb) (by have:=aY j ops[j] (by simp[fx]) e he hb;omega)⟩;rw[hr]at this;cases this
  refine⟨fun hr=>absurd hr some_ready,fun i hi=>?_⟩;obtain⟨o,ho,h2,h3⟩:=Eo.1 hi;have gg:i<N:=by rw[<-hn];exact(Dt.1 ho).1
  rw[Ep hs gg]at h2
  have hp:∀p∈preds.getD i [],listed.getD p false=true:=fun p bU=>by
   obtain⟨e,he,hb,h4⟩:=bS i o ho p bU;rcases h4 with rfl|h4
   ·exact h3 e he hb
   ·exact hc e.on (h3 e he hb) p h4
  have aP:i<n:=by
   rcases C9 i n with h|h
   ·exact h
   ·exact absurd (fun j hj=>hp j (gf i h gg j hj)) bJ
  obtain⟨ao,jk,ev⟩:=cM i o aP ho;obtain⟨aI,fy⟩:=D.at (L:=fun j=>listed.getD j false) hc jk h2 hp
  have bR:∀j,(listed.setIfInBounds i true).getD j false=(listed.getD j false||j==i):=fun j=>by
   by_cases e:j=i
   ·subst e;simp[Array.getD,hs,gg]
   ·have e':¬i=j:=fun h=>e h.symm;by_cases hj:j<listed.size<;>simp[Array.getD,hj,e,e',qA]
  have aN:=fy (fun j=>(listed.setIfInBounds i true).getD j false) bR;unfold wpOpIn;simp only[ho];refine Qo ev aI c7 fun g' a' w' aX st'=>?_;refine ih _ (by simp[hs]) (fun j hj=>?_) (fun j hj p bU=>?_) ?_ g' a' w' (by rw[aN];exact aX) (by rw[aN];exact st.trans st')
  ·rw[bR,cg j hj];have:j≠i:=by omega
   simp[this]
  ·rw[bR]at hj |-;by_cases e:j=i
   ·subst e;rw[hp p bU];rfl
   ·have:listed.getD j false=true:=(by simpa [e] using hj);rw[hc j this p bU];rfl
  ·obtain⟨l,hl,aD⟩:=hf;have ge:=hl i aP h2;refine⟨l.erase i,fun j hj h=>?_,?_⟩
   ·rw[bR]at h;have aH:j≠i:=fun e=>by subst e;simp at h
    exact(List.mem_erase_of_ne aH).2 (hl j hj (by simpa [aH] using h))
   ·have:=List.length_erase_of_mem ge;have:0<l.length:=List.length_pos_of_mem ge;omega
theorem tZ{N:Nat}(hn:ops.size=N)(aY:∀(i:Nat) (o:Oper),ops[i]?=some o->∀e∈o.after.toList,Region.binds .any e=true->e.on<i)(bS:∀(i:Nat) (o:Oper),ops[i]?=some o->∀p∈preds.getD i [],∃e∈o.after.toList,Region.binds .any e=true/\(e.on=p\/p∈preds.getD e.on [])) : ∀(m2:List Av) (k:Nat),(∀i,k<i->i<N->∀j,j<i->j∈preds.getD i [])->yzf P ops (ops.toList.drop k) m2=true->∀(fuel:Nat) (listed:Array Bool),listed.size=N->(∀j,listed.getD j false=decide (j<k))->k<=N->N-k<=fuel -> ∀{K:Au->Prop} {S:Au} {g:Gh} {a:Act} {w:World},SR E g S a w->aseq E P m2 S K->(∀a' w',(∃g' S',K S'/\SR E g' S' a' w'/\Stp g S.h w g' S'.h w')->Q .normal a' w')->wpAnyIn (FW ρ) 0 P .any ops Q fuel listed a w:=by
 intro m2;induction m2 with
 |nil =>
  intro k h9 hc fuel listed hs hl nY hf K S g a w c7 h hq
  have hk:k=N:=by
   have:ops.toList.drop k=[]:=by
    cases h:ops.toList.drop k with
    |nil=>rfl
    |cons x r=>rw[h]at hc;cases hc
   have:=qH.1 this;simp at this;omega
  have hr:Region.ready .any ops listed=[]:=by
   cases h:Region.ready .any ops listed with
   |nil=>rfl
   |cons i r =>have hi:i∈Region.ready .any ops listed:=(by rw[h];exact BL ..);obtain⟨o,ho,h2,_⟩:=Eo.1 hi;have gg:i<N:=(by rw[<-hn];exact(Dt.1 ho).1);rw[Ep hs gg,hl]at h2;simp at h2;omega
  obtain⟨S',h1,h2⟩:=h;obtain⟨g',aX,st⟩:=h1 g a w c7;have hQ:=hq a w ⟨g',S',h2,aX,st⟩;cases fuel with
  |zero=>exact⟨hr,hQ⟩
  |succ fuel=>exact⟨fun _=>hQ,fun i hi=>by rw[hr]at hi;cases hi⟩
 |cons ao m2 ih =>
  intro k h9 hc fuel listed hs hl nY hf K S g a w c7 h hq
  have ll:k<N:=by
   rcases C9 k N with h|h
   ·exact h
   ·rw[List.drop_eq_nil_of_le (by simp;omega)]at hc;cases hc
  have gb:k<ops.size:=by omega
  have fB:ops.toList.drop k=ops[k] :: ops.toList.drop (k+1):=by rw[Li (by simpa using gb)];simp
  rw[fB]at hc;simp only[yzf,AE]at hc;cases fuel with
  |zero=>omega
  |succ fuel =>
   have hk:k∈Region.ready .any ops listed:=Eo.2 ⟨ops[k],by simp[gb],by rw[Ep hs ll,hl];simp,fun e he hb=>by rw[hl];simpa using aY k _ (by simp[gb]) e he hb⟩;refine⟨fun hr=>(by rw[hr]at hk;cases hk),fun i hi=>?_⟩;obtain⟨o,ho,h2,h3⟩:=Eo.1 hi;have gg:i<N:=by rw[<-hn];exact(Dt.1 ho).1
   rw[Ep hs gg,hl]at h2;have iM:k<=i:=by simpa using h2
   have hp:∀p∈preds.getD i [],∃q,p<=q/\listed.getD q false=true:=fun p bU=>by
    obtain⟨e,he,hb,h4⟩:=bS i o ho p bU;rcases h4 with rfl|h4
    ·exact⟨_,AB _,h3 e he hb⟩
    ·rcases C9 e.on p with h5|h5
     ·exfalso;have iC:e.on<ops.size:=by have:=aY i o ho e he hb;omega
      have gD:∀(x:Nat),x<ops.size->∀p∈preds.getD x [],p<x:=fun x=>by
       induction x using Nat.strongRecOn with
       |ind x ihx =>
        intro hx p hp;obtain⟨e',lm,aW,h6⟩:=bS x ops[x] (by simp[hx]) p hp;have h7:=aY x ops[x] (by simp[hx]) e' lm aW;rcases h6 with rfl|h6
        ·exact h7
        ·have:=ihx e'.on h7 (by omega) p h6;omega
      have:=gD e.on iC p h4;omega
     ·exact⟨_,h5,h3 e he hb⟩
   have nZ:i=k:=by
    rcases C9 k i with h5|h5
    ·exfalso;obtain⟨q,mA,gD⟩:=hp k (h9 i h5 gg k h5);rw[hl]at gD;simp at gD;omega
    ·omega
   subst nZ;have eo:o=ops[i]:=by have:ops[i]?=some ops[i]:=(by simp[gb]);rw[this]at ho;cases ho;rfl
   subst eo;obtain⟨S1,s1,h⟩:=h;obtain⟨g1,dh,st1⟩:=s1 g a w c7;unfold wpOpIn;simp only[ho];have h1:=LA (ρ:=ρ) (Q:=Q) hc.1 h dh
   have imp:∀a' w',(∃g' S',aseq E P m2 S' K/\SR E g' S' a' w'/\Stp g1 S1.h w g' S'.h w')->wpAnyIn (FW ρ) 0 P .any ops Q fuel (listed.setIfInBounds i true) a' w':=by
    rintro a' w' ⟨g',S',ga,aX,st'⟩;refine ih (i+1) (fun i' h6=>h9 i' (by omega)) hc.2 fuel _ (by simp[hs]) (fun j=>?_) (by omega) (by omega) aX ga ?_
    ·by_cases e:j=i;·subst e;simp[Array.getD,hs,gg]
     ·have e':¬i=j:=fun h=>e h.symm;have:(listed.setIfInBounds i true).getD j false=listed.getD j false:=(by by_cases hj:j<listed.size<;>simp[Array.getD,hj,e,e',qA]);rw[this,hl];simp only[decide_eq_decide];omega
    ·rintro a'' w'' ⟨g'',S'',hk,aV,st''⟩;exact hq a'' w'' ⟨g'',S'',hk,aV,st1.trans (st'.trans st'')⟩
   split at h1
   ·rename_i hw;rw[Ap hw];exact Oper.wpIn_mono imp h1
   ·rename_i hw;rw[Aj hw];exact⟨h1.1,imp _ _ h1.2⟩
def I0(preds:List (List Nat))(n N:Nat):Bool:=(List.range N).all fun i=>decide (i<n)||(List.range i).all fun j=>(preds.getD i []).contains j
theorem VX:∀{l:List Oper} {m m2:List Av},yzf P ops l (m++m2)=true->yzf P ops (l.drop m.length) m2=true/\yzf P ops (l.take m.length) m=true
 |l,[],m2,h=>⟨by simpa using h,by cases l<;>rfl⟩
 |[],_ :: _,_,h=>by cases h
 |o :: l,a :: m,m2,h=>by simp only[Um,yzf,AE]at h;obtain⟨h1,h2⟩:=VX (l:=l) (m:=m) h.2;exact⟨by simpa using h1,by simp only[Df,List.take_succ_cons,yzf,AE];exact⟨h.1,h2⟩⟩
theorem AWp.drawnB{id:Nat}{m2:List Av}{Q:Exit->Au->Prop}(hc:yzf P ops ops.toList (m++m2)=true)(hp:Hj ops.toList preds=true)(he:Hk 0 ops.toList=true)(eZ:Iw (m++m2) preds=true) (hm:P.follows .mixedOrders=true) (hb:I0 preds m.length (m++m2).length=true)(h:Hl E P m S (fun S' tr=>Dm m preds tr=true/\aseq E P m2 S' (Q .normal))):AWp E ρ P (.region id ops true) Q S:=by
 obtain⟨aD,cM⟩:=LD hc;obtain⟨fC,lq⟩:=VX hc;obtain⟨V,R,O,dE,iI,hQ⟩:=Qv _ _ _ h;have dy:(m++m2).length=ops.size:=by rw[aD];simp
 have mB:m.length<=ops.size:=by rw[<-dy];simp
 simp only[I0,GM,GN,Fz,BB,Ux]at hb;simp only[Hj,AE,Bq,GM,GN,BB]at hp;obtain⟨cQ,hp⟩:=hp
 have gX:∀i p,p∈preds.getD i []->i<ops.toList.length:=fun i p h=>by
  rcases C9 i ops.toList.length with h1|h1
  ·exact h1
  ·simp[List.getD,JA (show preds.length<=i by omega)]at h
 simp only[Iw,GM,GN]at eZ;have up:∀{i:Nat} {o:Av},m[i]?=some o->(m++m2)[i]?=some o:=fun {i o} h=>by rw[F0 (AN.1 h).1];exact h
 have D:Iv E P m preds S m.length V R O:=by
  refine⟨rfl,dE,fun i j hj=>(hp i (gX i j hj) j hj).1,?_,?_⟩
  ·intro i j oi oj d hi hj aH h1 h2 hd;have:=eZ i (AN.1 (up hi)).1 j (AN.1 (up hj)).1;rw[up hi,up hj]at this;have dm:j∉preds[i]?.getD []:=by simpa using h1
   have ga:i∉preds[j]?.getD []:=by simpa using h2
   simpa [aH,dm,ga,hd] using this
  ·exact VJ dE iI
 have aY:∀(i:Nat) (o:Oper),ops[i]?=some o->∀e∈o.after.toList,Region.binds .any e=true->e.on<i:=fun i o hi e jl hb=>by have:=LE he i o (by simpa using hi) e jl hb;omega
 have bS:∀(i:Nat) (o:Oper),ops[i]?=some o->∀p∈preds.getD i [],∃e∈o.after.toList,Region.binds .any e=true/\(e.on=p\/p∈preds.getD e.on []):=fun i o hi p bU=>by
  have h1:=(hp i (gX i p bU) p bU).2;have bC:ops.toList[i]?=some o:=by simpa using hi
  rw[bC]at h1;simp only[List.any_eq_true,AE,Fz,Bq,Ux]at h1;obtain⟨e,h2,h3,h4⟩:=h1;exact⟨e,h2,h3,h4⟩
 have gf:∀i,m.length<=i->i<ops.size->∀j,j<i->j∈preds.getD i []:=fun i h1 h2 j hj=>by
  rcases hb i (by omega) with h3|h3
  ·omega
  ·exact h3 j hj
 intro g a w hs;have hw:=hs.hr.heap (w':={ w with drawn:=w.drawn+1 }) rfl rfl rfl rfl;have aX:SR E g S a { w with drawn:=w.drawn+1 }:=⟨hw.1,hs.tm.mono hw.2.le,hs.df,hs.dk,hs.dn⟩;have stp0:Stp g S.h w g S.h { w with drawn:=w.drawn+1 }:=hw.2;refine wpIn_region_any hm ?_
 have e0:stL m V O S m.length (fun j=>(Array.replicate ops.size false).getD j false)=S:=by
  have:(fun j=>(Array.replicate ops.size false).getD j false)=(fun j=>decide (j<0)):=by funext j;by_cases hj:j<ops.size<;>simp[Array.getD,hj]
  rw[this,Iu 0 (Ej _)];rfl
 refine tY (ρ:=ρ) (g0:=g) (w0:=w) (Q:=fun e a' w'=>∃g' S',Q e S'/\SR E g' S' a' w'/\Stp g S.h w g' S'.h w') D rfl mB (fun k o hk ho=>?_) aY bS (fun i h1 h2 j hj=>gf i h1 h2 j (by omega)) ?_
  ops.size (Array.replicate ops.size false) (by simp) (fun j hj=>?_) (fun j hj=>?_) ⟨List.range m.length,fun j hj _=>by simpa using hj,by simp;omega⟩ g a _ (by rw[e0];exact aX) (by rw[e0];exact stp0)
 ·obtain⟨ao,h1,h2⟩:=cM k o (by simpa using ho);rw[F0 hk]at h1;exact⟨ao,h1,h2⟩
 ·intro fuel listed oa hl hf g' a' w' cT st2;exact tZ (ρ:=ρ) (m2:=m2) rfl aY bS m.length (fun i h1 h2 j hj=>gf i (by omega) h2 j hj) fC fuel listed oa hl mB hf cT hQ fun a'' w'' ⟨g'',S'',q1,q2,q3⟩=>⟨g'',S'',q1,q2,st2.trans q3⟩
 ·by_cases h1:j<ops.size<;>simp[Array.getD,h1]
 ·by_cases h1:j<ops.size<;>simp[Array.getD,h1]at hj
theorem AW.drawB{m2:List Av}{Q:Exit->Au->Prop}{pr:List (List Nat)}(hb:I0 pr m.length (m++m2).length=true)(h:Hl E P m S (fun S' tr=>Dm m pr tr=true/\aseq E P m2 S' (Q .normal))):AW E ρ P (.reg true (m++m2) pr) Q S:=by
 intro code hc
 match code,hc with
 |.region id l false,hc=>simp[A8]at hc
 |.region id l true,hc =>simp only[A8,AE]at hc;exact .drawnB hc.1.1.1.1 hc.1.1.1.2 hc.1.1.2 hc.1.2 hc.2 hb h
 |.skip,hc=>simp[A8]at hc
 |.seq _ _,hc=>simp[A8]at hc
 |.cond _ _ _,hc=>simp[A8]at hc
 |.block _ _,hc=>simp[A8]at hc
 |.loop _,hc=>simp[A8]at hc
 |.rangeFunc _ _ _ _,hc=>simp[A8]at hc
 |.exit _,hc=>simp[A8]at hc
 |.scope _,hc=>simp[A8]at hc
 |.label _,hc=>simp[A8]at hc
 |.goto _,hc=>simp[A8]at hc
 |.ret,hc=>simp[A8]at hc
 |.refuse _,hc=>simp[A8]at hc
theorem AWp.post{c:Code}{Q Q':Exit->Au->Prop}(h:AWp E ρ P c Q S)(hq:∀e S',Q e S'->∃S'',See E S' S''/\Q' e S''):AWp E ρ P c Q' S:=fun g a w hs=>wpIn_mono (h g a w hs) fun e a' w' ⟨g',S',q,aX,st⟩=>by obtain⟨S'',s,q'⟩:=hq e S' q;obtain⟨g'',aV,st'⟩:=s g' a' w' aX;exact⟨g'',S'',q',aV,st.trans st'⟩
end
structure Csm(E:Nat->Aa)(P:Program){A:Type}(aA:A->List Aa)(st:List A->Option Bool)(L e:Nat)(HC HX:List A->Ax->Prop):Prop where
 loc:∀l h h',(∀i,i<1000\/2000<=i->h' i=h i)->HC l h->HC l h'
 lox:∀l h h',(∀i,i<1000\/2000<=i->h' i=h i)->HX l h->HX l h'
 round:∀l x s h,HC l h->st (l++[x])=some s->Ce E P L e (aA x) h fun v h'=>v=.bool (!s)/\(s=false->HC (l++[x]) h')/\(s=true->HX (l++[x]) h')/\∀i,1000<=i->i<2000->h' i=h i
def SqOk(E:Nat->Aa)(P:Program){A:Type}(f:FuncId)(caps:List Aa)(aA:A->List Aa)(st:List A->Option Bool)(l:List A):Prop :=
 Co P f=true/\∀(L e:Nat) (HC HX:List A->Ax->Prop),Csm E P aA st L e HC HX->∀h,HC [] h->(∀i,1000<=i->i<2000->∃e,h i=.gone e)->ATr E P f (.yld L e :: caps) h fun v h'=>HC l h'\/HX l h'
section
variable {E:Nat->Aa}{P:Program}{ρ:Option Nat}{m:List Av}{preds:List (List Nat)}{n:Nat}
variable {ops:Array Oper}{Q:Exit->Act->World->Prop}
theorem t_(G:(Nat->Bool)->Au->Prop)(hn:ops.size=n)(cM:∀(k:Nat) (o:Oper),ops[k]?=some o->∃ao,m[k]?=some ao/\FH P ops o ao=true)(aY:∀(i:Nat) (o:Oper),ops[i]?=some o->∀e∈o.after.toList,Region.binds .any e=true->e.on<i)(bS:∀(i:Nat) (o:Oper),ops[i]?=some o->∀p∈preds.getD i [],∃e∈o.after.toList,Region.binds .any e=true/\(e.on=p\/p∈preds.getD e.on []))(step:∀(L:Nat->Bool) (S:Au) (i:Nat) (ao:Av),G L S->(∀p∈preds.getD i [],L p=true)->L i=false->m[i]?=some ao->∃v rd out,BE E P ao S v rd out/\∀L':Nat->Bool,(∀j,L' j=(L j||j==i))->G L' ⟨putT S.t ao.dst v,putH S.h out,S.ds⟩) : ∀(fuel:Nat) (listed:Array Bool),listed.size=n->(∀j,listed.getD j false=true->∀p∈preds.getD j [],listed.getD p false=true) -> (∃l:List Nat,(∀j,j<n->listed.getD j false=false->j∈l)/\l.length<=fuel)->∀(g:Gh) (a:Act) (w:World) (S:Au),SR E g S a w->G (fun j=>listed.getD j false) S -> (∀g' a' w' S' L,SR E g' S' a' w'->Stp g S.h w g' S'.h w'->G L S'->(∀j,j<n->L j=true)->Q .normal a' w')->wpAnyIn (FW ρ) 0 P .any ops Q fuel listed a w:=by
 have allr:∀(listed:Array Bool),listed.size=n->Region.ready .any ops listed=[]->∀j,j<n->listed.getD j false=true:=fun listed hs hr j=>by
  induction j using Nat.strongRecOn with
  |ind j ih =>
   intro hj;cases hl:listed.getD j false with
   |true=>rfl
   |false =>have fx:j<ops.size:=(by omega);have:j∈Region.ready .any ops listed:=Eo.2 ⟨ops[j],by simp[fx],by rw[Ep hs hj];exact hl,fun e he hb=>ih e.on (aY j _ (by simp[fx]) e he hb) (by have:=aY j ops[j] (by simp[fx]) e he hb;omega)⟩;rw[hr]at this;cases this
 intro fuel;induction fuel with
 |zero =>
  intro listed hs hc hf g a w S c7 hG hq;obtain⟨l,hl,aD⟩:=hf;have gW:l=[]:=by cases l<;>simp at aD |-
  have all:∀j,j<n->listed.getD j false=true:=fun j hj=>by
   cases h:listed.getD j false with
   |true=>rfl
   |false=>have:=hl j hj h;rw[gW]at this;cases this
  refine⟨?_,hq g a w S _ c7 (.refl _ _ _) hG all⟩;cases hr:Region.ready .any ops listed with
  |nil=>rfl
  |cons i r =>
   have hi:i∈Region.ready .any ops listed:=by rw[hr];exact BL ..
   obtain⟨o,ho,h2,_⟩:=Eo.1 hi;have aP:i<n:=by rw[<-hn];exact(Dt.1 ho).1
   rw[Ep hs aP,all i aP]at h2;cases h2
 |succ fuel ih =>
  intro listed hs hc hf g a w S c7 hG hq;refine⟨fun hr=>?_,fun i hi=>?_⟩
  ·exact hq g a w S _ c7 (.refl _ _ _) hG (allr listed hs hr)
  ·obtain⟨o,ho,h2,h3⟩:=Eo.1 hi;have aP:i<n:=by rw[<-hn];exact(Dt.1 ho).1
   rw[Ep hs aP]at h2;obtain⟨ao,jk,ev⟩:=cM i o ho
   have hp:∀p∈preds.getD i [],listed.getD p false=true:=fun p bU=>by
    obtain⟨e,he,hb,h4⟩:=bS i o ho p bU;rcases h4 with rfl|h4
    ·exact h3 e he hb
    ·exact hc e.on (h3 e he hb) p h4
   obtain⟨v,rd,out,aI,dO⟩:=step _ S i ao hG hp h2 jk
   have bR:∀j,(listed.setIfInBounds i true).getD j false=(listed.getD j false||j==i):=fun j=>by
    by_cases e:j=i
    ·subst e;simp[Array.getD,hs,aP]
    ·have e':¬i=j:=fun h=>e h.symm;by_cases hj:j<listed.size<;>simp[Array.getD,hj,e,e',qA]
   unfold wpOpIn;simp only[ho];refine Qo ev aI c7 fun g' a' w' aX st=>?_;refine ih _ (by simp[hs]) (fun j hj p bU=>?_) ?_ g' a' w' _ aX (dO _ bR) (fun g'' a'' w'' S'' L aV st'' h1 h2=>hq g'' a'' w'' S'' L aV (st.trans st'') h1 h2)
   ·rw[bR]at hj |-;by_cases e:j=i
    ·subst e;rw[hp p bU];rfl
    ·have:listed.getD j false=true:=(by simpa [e] using hj);rw[hc j this p bU];rfl
   ·obtain⟨l,hl,aD⟩:=hf;have ge:=hl i aP h2;refine⟨l.erase i,fun j hj h=>?_,?_⟩
    ·rw[bR]at h;have aH:j≠i:=fun e=>by subst e;simp at h
     exact(List.mem_erase_of_ne aH).2 (hl j hj (by simpa [aH] using h))
    ·rw[List.length_erase_of_mem ge];omega
theorem AW.drawG{S:Au}{Q:Exit->Au->Prop}(G:(Nat->Bool)->Au->Prop)(h0:G (fun _=>false) S)(step:∀(L:Nat->Bool) (S:Au) (i:Nat) (ao:Av),G L S->(∀p∈preds.getD i [],L p=true)->L i=false->m[i]?=some ao->∃v rd out,BE E P ao S v rd out/\∀L':Nat->Bool,(∀j,L' j=(L j||j==i))->G L' ⟨putT S.t ao.dst v,putH S.h out,S.ds⟩)(fin:∀L S',G L S'->(∀j,j<m.length->L j=true)->Q .normal S'):AW E ρ P (.reg true m preds) Q S:=by
 intro code hc
 match code,hc with
 |.region id l false,hc=>simp[A8]at hc
 |.region id l true,hc =>
  simp only[A8,AE]at hc;obtain⟨⟨⟨⟨ev,hp⟩,he⟩,_⟩,hm⟩:=hc;obtain⟨aD,cM⟩:=LD ev;have dy:m.length=l.size:=by rw[aD];simp
  simp only[Hj,AE,Bq,GM,GN,BB]at hp;obtain⟨cQ,hp⟩:=hp
  have gX:∀i p,p∈preds.getD i []->i<l.toList.length:=fun i p h=>by
   rcases C9 i l.toList.length with h1|h1
   ·exact h1
   ·simp[List.getD,JA (show preds.length<=i by omega)]at h
  intro g a w hs;have hw:=hs.hr.heap (w':={ w with drawn:=w.drawn+1 }) rfl rfl rfl rfl;have aX:SR E g S a { w with drawn:=w.drawn+1 }:=⟨hw.1,hs.tm.mono hw.2.le,hs.df,hs.dk,hs.dn⟩;have stp0:Stp g S.h w g S.h { w with drawn:=w.drawn+1 }:=hw.2;refine wpIn_region_any hm ?_;have e0:(fun j=>(Array.replicate l.size false).getD j false)=(fun _=>false):=by funext j;by_cases hj:j<l.size<;>simp[Array.getD,hj]
  refine t_ (E:=E) (m:=m) (preds:=preds) (ρ:=ρ) (n:=m.length) (Q:=fun e a' w'=>∃g' S',Q e S'/\SR E g' S' a' w'/\Stp g S.h w g' S'.h w') G dy.symm (fun k o hk=>cM k o (by simpa using hk)) (fun i o hi e jl hb=>by have:=LE he i o (by simpa using hi) e jl hb;omega) (fun i o hi p bU=>?_) step
   l.size (Array.replicate l.size false) (by simp[dy]) (fun j hj=>?_) ⟨List.range m.length,fun j hj _=>by simpa using hj,by simp[dy]⟩ g a _ S aX (by rw[e0];exact h0) (fun g' a' w' S' L cT st hG hL=>⟨g',S',fin L S' hG hL,cT,stp0.trans st⟩)
  ·have h1:=(hp i (gX i p bU) p bU).2;have bC:l.toList[i]?=some o:=by simpa using hi
   rw[bC]at h1;simp only[List.any_eq_true,AE,Fz,Bq,Ux]at h1;obtain⟨e,h2,h3,h4⟩:=h1;exact⟨e,h2,h3,h4⟩
  ·by_cases h1:j<l.size<;>simp[Array.getD,h1]at hj
 |.skip,hc=>simp[A8]at hc
 |.seq _ _,hc=>simp[A8]at hc
 |.cond _ _ _,hc=>simp[A8]at hc
 |.block _ _,hc=>simp[A8]at hc
 |.loop _,hc=>simp[A8]at hc
 |.rangeFunc _ _ _ _,hc=>simp[A8]at hc
 |.exit _,hc=>simp[A8]at hc
 |.scope _,hc=>simp[A8]at hc
 |.label _,hc=>simp[A8]at hc
 |.goto _,hc=>simp[A8]at hc
 |.ret,hc=>simp[A8]at hc
 |.refuse _,hc=>simp[A8]at hc
end
open Go.Sort Go.Proofs
def Ct(l:List Int):List Int:=l.mergeSort fun x y=>decide (x<=y)
def Bi(n:Nat)(a:Nat->Int):List Int:=(List.range n).map a
theorem ua(n:Nat)(a:Nat->Int):(Bi n a).length=n:=by simp[Bi]
theorem ub{E:Nat->Aa}{P:Program}{ρ:Go.Shelf.Ren}(Ly:Lays.n189 P ρ){h:Ax}{id ep n:Nat}{f:Nat->List Aa}{a:Nat->Int}(hid:h id=.vec ep 1 n f)(hn:0<n)(gE:n<4611686018427387904)(hf:∀k,k<n->f k=[.int .i64 (a k)]) :
  ATr E P (ρ.f 189) [.vec id ep 0 n] h (fun r h'=>r=.tup []/\h'=hset h id (.vec ep 1 n (fun k=>[.int .i64 ((Ct (Bi n a)).getD k 0)]))):=by
 intro g w vs H hv
 obtain⟨v,rfl⟩:∃v,vs=[v]:=by
  have:=hv.1
  match vs,this with
  |[v],_=>exact⟨v,rfl⟩
 have bV:RV g w (.vec id ep 0 n) v:=hv.2 0 _ _ rfl rfl;have bX:g.ep id=ep:=by rw[H.ep id,hid];rfl
 cases bV with
 |vec _ _ _ _ _ h1 he hV =>
 obtain⟨ad,cap,rfl,aS,ey⟩:=hV bX.symm;have ho:=H.obj id;rw[hid]at ho;obtain⟨aI,_,hJ,arr,ty,bK,cD,bQ⟩:=ho;rcases ey with e0|⟨rfl,c9⟩
 ·omega
 have aD:(Bi n a).length=n:=ua n a;have aQ:(h id).owned=true:=by rw[hid];rfl
 have aO:∀j,j<n->arr[g.bo id+j]?=some (.int .i64 (a j)):=by
  intro j hj;have hlt:g.bo id+j<arr.size:=by omega
  have h3:=(bQ j hj).2 0 (.int .i64 (a j)) arr[g.bo id+j] (by rw[hf j hj];rfl) (by simp[EA hlt]);rw[EA hlt,DK h3.2]
 have dM:(⟨g.blk id,g.bo id+0*g.st id,none⟩:Addr)=⟨g.blk id,g.bo id,none⟩:=by simp
 have aK:g.blk id<w.heap.size:=(Dt.1 bK).1
 have hH:Holds (Value.int .i64) w (g.blk id) (g.bo id) (Bi n a).toArray:=by
  intro j hj;have bI:j<n:=by simpa [aD] using hj
  refine⟨?_,by simp[World.frozen?,bK]⟩;simp only[World.cell?,bK];simp only[Option.isSome_none,J2,Cz];rw[aO j bI];have lr:j<(Bi n a).toArray.size:=by simpa [aD] using bI
  rw[getElem!_pos (Bi n a).toArray j lr];simp[Bi]
 have main:=Any.slices_Sort_int Ly (g.blk id) (g.bo id) cap (Bi n a) w hH aK (by rw[aD];exact gE);rw[aD]at main;rw[dM];refine main.mono ?_;rintro e w' ⟨rfl,m,os,rfl⟩;have dy:(Ct (Bi n a)).length=n:=by unfold Ct;rw[List.length_mergeSort,aD]
 have aJ:w.heap.size<=(grow (putRow (Value.int .i64) (Sort.ahead w m) (g.blk id) (g.bo id) (Ct (Bi n a)).toArray) os).heap.size:=by rw[size_grow];simp[putRow,mapBlock,Sort.ahead]
 have aU:∀b,b<w.heap.size->b≠g.blk id->(grow (putRow (Value.int .i64) (Sort.ahead w m) (g.blk id) (g.bo id) (Ct (Bi n a)).toArray) os).heap[b]?=w.heap[b]?:=by intro b hb aH;rw[heap_grow_old _ _ (by simpa [putRow,mapBlock,Sort.ahead] using hb)];have:g.blk id≠b:=fun e=>aH e.symm;simp[putRow,mapBlock,Sort.ahead,PD,this]
 have aN:(grow (putRow (Value.int .i64) (Sort.ahead w m) (g.blk id) (g.bo id) (Ct (Bi n a)).toArray) os).heap[g.blk id]?=some (.cells (putCells (Value.int .i64) (g.bo id) (Ct (Bi n a)).toArray arr) ty (0,0)):=by rw[heap_grow_old _ _ (by simpa [putRow,mapBlock,Sort.ahead] using aK)];simp[putRow,mapBlock,Sort.ahead,PD,bK,onCells]
 have aE:GLe g w g (grow (putRow (Value.int .i64) (Sort.ahead w m) (g.blk id) (g.bo id) (Ct (Bi n a)).toArray) os) := ⟨fun b hb=>⟨hb,aU b (H.fzb b hb) (fun e=>H.sep id aQ (e▸hb))⟩,fun _=>AB _,fun _ _=>⟨rfl,rfl,rfl,rfl⟩⟩
 have ey:OR g (grow (putRow (Value.int .i64) (Sort.ahead w m) (g.blk id) (g.bo id) (Ct (Bi n a)).toArray) os) id (.vec ep 1 n (fun k=>[.int .i64 ((Ct (Bi n a)).getD k 0)])):=by
  refine⟨aI,by omega,hJ,_,ty,aN,by simpa [putCells] using cD,fun k hk=>⟨rfl,fun j x v hx hv=>?_⟩⟩
  have hj:j=0:=by
   cases j with
   |zero=>rfl
   |succ j=>simp at hx
  subst hj;simp only[Uy,AX]at hx;subst hx;have gR:g.bo id+k<arr.size:=by omega
  have:v=.int .i64 ((Ct (Bi n a)).getD k 0):=by
   simp only[putCells,Array.getElem?_mapIdx,Nat.mul_one,Ib,EA gR,Ek,AX]at hv;rw[Ap ⟨by omega,by simp[dy];omega⟩]at hv;rw[<-hv];have di:k<(Ct (Bi n a)).length:=by omega
   have e1:g.bo id+k-g.bo id=k:=by omega
   rw[e1];have lr:k<(Ct (Bi n a)).toArray.size:=by simpa using di
   rw[getElem!_pos (Ct (Bi n a)).toArray k lr];simp[List.getD,AD di]
  subst this;exact⟨rfl,.int _ _⟩
 obtain⟨H',S'⟩:=HR.upd (E:=E) (g':=g) (i:=id) (o':=.vec ep 1 n (fun k=>[.int .i64 ((Ct (Bi n a)).getD k 0)])) H aE (fun _ _=>rfl) bX (fun b hb hn=>aU b hb (hn aQ)) aJ ey (fun _=>.inl ⟨aQ,rfl⟩) (fun _=>H.sep id aQ) (fun b hb=>.inl hb) (fun b hb=>F4 (H.fzb b hb) aJ) rfl rfl rfl (by show w.drawn<=w.drawn+m;omega);exact⟨g,_,.tup [],.tuple #[],⟨rfl,rfl⟩,rfl,.tup [] #[] rfl (fun i x v hx _=>by simp at hx),H',S'⟩
open Go.Sort Go.Proofs Go.Shelf
theorem uc{α:Type}[Inhabited α]{E:Nat->Aa}{P:Program}{ρ:Ren}(Ly:SlLaysE.n35 P ρ)(cs:α->Aa)(enc:α->Value)(h1:OneCell enc)(bV:∀g w x v,RV g w (cs x) v->v=enc x) (fD:∀g w x,RV g w (cs x) (enc x)){h:Ax} {id ep n:Nat} {f:Nat->List Aa} {l:List α} (hid:h id=.vec ep 1 n f) (dx:l.length=n) (hn:0<n) (gE:n<=9223372036854775807) (hf:∀j,j<n->f j=[cs l.toArray[j]!]) :
  ATr E P (ρ.f 35) [.vec id ep 0 n] h (fun r h'=>r=.tup []/\h'=hset h id (.vec ep 1 n (fun j=>[cs l.reverse.toArray[j]!]))):=by
 intro g w vs H hv
 obtain⟨v,rfl⟩:∃v,vs=[v]:=by
  have:=hv.1
  match vs,this with
  |[v],_=>exact⟨v,rfl⟩
 have q9:RV g w (.vec id ep 0 n) v:=hv.2 0 _ _ rfl rfl;have bX:g.ep id=ep:=by rw[H.ep id,hid];rfl
 cases q9 with
 |vec _ _ _ _ _ dm he hV =>
 obtain⟨ad,cap,rfl,aS,ey⟩:=hV bX.symm;have ho:=H.obj id;rw[hid]at ho;obtain⟨aI,_,hJ,arr,ty,bK,cD,bQ⟩:=ho;rcases ey with e0|⟨rfl,c9⟩
 ·omega
 have aQ:(h id).owned=true:=by rw[hid];rfl
 have aO:∀j,j<n->arr[g.bo id+j]?=some (enc l.toArray[j]!):=by
  intro j hj;have hlt:g.bo id+j<arr.size:=by omega
  have h3:=(bQ j hj).2 0 (cs l.toArray[j]!) arr[g.bo id+j] (by rw[hf j hj];rfl) (by simp[EA hlt]);rw[EA hlt,bV _ _ _ _ h3.2]
 have dM:(⟨g.blk id,g.bo id+0*g.st id,none⟩:Addr)=⟨g.blk id,g.bo id,none⟩:=by simp
 have aK:g.blk id<w.heap.size:=(Dt.1 bK).1
 have hH:Holds enc w (g.blk id) (g.bo id) l.toArray:=by
  intro j hj;have bI:j<n:=by simpa [dx] using hj
  refine⟨?_,by simp[World.frozen?,bK]⟩;simp only[World.cell?,bK];simp only[Option.isSome_none,J2,Cz];exact aO j bI
 have main:=AnyE.slices_Reverse Ly enc h1 (g.blk id) (g.bo id) cap l w hH (by rw[dx];exact gE);rw[dx]at main;rw[dM];refine main.mono ?_;rintro e w' ⟨rfl,m,rfl⟩;have oc:l.reverse.toArray.size=n:=by simp[dx]
 have aJ:w.heap.size<=(putRow enc (Sort.ahead w m) (g.blk id) (g.bo id) l.reverse.toArray).heap.size:=by simp[putRow,mapBlock,Sort.ahead]
 have aU:∀b,b<w.heap.size->b≠g.blk id->(putRow enc (Sort.ahead w m) (g.blk id) (g.bo id) l.reverse.toArray).heap[b]?=w.heap[b]?:=by intro b hb aH;have:g.blk id≠b:=fun e=>aH e.symm;simp[putRow,mapBlock,Sort.ahead,PD,this]
 have aN:(putRow enc (Sort.ahead w m) (g.blk id) (g.bo id) l.reverse.toArray).heap[g.blk id]?=some (.cells (putCells enc (g.bo id) l.reverse.toArray arr) ty (0,0)):=by simp[putRow,mapBlock,Sort.ahead,PD,bK,onCells]
 have aE:GLe g w g (putRow enc (Sort.ahead w m) (g.blk id) (g.bo id) l.reverse.toArray) := ⟨fun b hb=>⟨hb,aU b (H.fzb b hb) (fun e=>H.sep id aQ (e▸hb))⟩,fun _=>AB _,fun _ _=>⟨rfl,rfl,rfl,rfl⟩⟩
 have ey:OR g (putRow enc (Sort.ahead w m) (g.blk id) (g.bo id) l.reverse.toArray) id (.vec ep 1 n (fun j=>[cs l.reverse.toArray[j]!])):=by
  refine⟨aI,by omega,hJ,_,ty,aN,by simpa [putCells] using cD,fun k hk=>⟨rfl,fun j x v hx hv=>?_⟩⟩
  have hj:j=0:=by
   cases j with
   |zero=>rfl
   |succ j=>simp at hx
  subst hj;simp only[Uy,AX]at hx;subst hx;have gR:g.bo id+k<arr.size:=by omega
  have:v=enc l.reverse.toArray[k]! := by simp only[putCells,Array.getElem?_mapIdx,Nat.mul_one,Ib,EA gR,Ek,AX]at hv;rw[Ap ⟨by omega,by rw[oc];omega⟩]at hv;rw[<-hv,show g.bo id+k-g.bo id=k by omega]
  subst this;exact⟨h1 _,fD _ _ _⟩
 obtain⟨H',S'⟩:=HR.upd (E:=E) (g':=g) (i:=id) (o':=.vec ep 1 n (fun j=>[cs l.reverse.toArray[j]!])) H aE (fun _ _=>rfl) bX (fun b hb hn=>aU b hb (hn aQ)) aJ ey (fun _=>.inl ⟨aQ,rfl⟩) (fun _=>H.sep id aQ) (fun b hb=>.inl hb) (fun b hb=>F4 (H.fzb b hb) aJ) rfl rfl rfl (Nat.le_add_right _ _);exact⟨g,_,.tup [],.tuple #[],⟨rfl,rfl⟩,rfl,.tup [] #[] rfl (fun i x v hx _=>by simp at hx),H',S'⟩
theorem ud{E:Nat->Aa}{P:Program}{ρ:Ren}(Ly:SlLaysE.n35 P ρ){h:Ax}:ATr E P (ρ.f 35) [.nils] h (fun r h'=>r=.tup []/\h'=h):=by
 intro g w vs H hv
 obtain⟨v,rfl⟩:∃v,vs=[v]:=by
  have:=hv.1
  match vs,this with
  |[v],_=>exact⟨v,rfl⟩
 have q9:RV g w .nils v:=hv.2 0 _ _ rfl rfl;cases q9;refine(AnyE.slices_Reverse_empty Ly none 0 w).mono ?_;rintro e w' ⟨rfl,rfl⟩;exact⟨g,h,.tup [],.tuple #[],⟨rfl,rfl⟩,rfl,.tup [] #[] rfl (fun i x v hx _=>by simp at hx),H,.refl _ _ _⟩
end Go.Am

