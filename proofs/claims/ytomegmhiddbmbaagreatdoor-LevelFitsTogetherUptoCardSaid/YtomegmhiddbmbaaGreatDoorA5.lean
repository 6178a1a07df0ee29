/- Part A5: an abstract machine proved sound over the calculus of the guide. No condition. -/
import Derived.Test.YtomegmhiddbmbaaGreatDoorA4
import Derived.Shelf.SlSortCmp.WholeK
import Derived.Shelf.Sort.Plain
import Derived.Shelf.SlicesE.Reverse
set_option linter.unusedSimpArgs false
set_option linter.unusedVariables false
namespace Go.Am
section
variable {E:Nat->Aa}{P:Program}{ρ:Option Nat}{m:List As}{preds:List (List Nat)}{S:Ay}{n:Nat}{V:Nat->Aa}{R:Nat->List Nat}{O:Nat->Option (Nat×Ai)}
def aseq(E:Nat->Aa)(P:Program):List As->Ay->(Ay->Prop)->Prop
 |[],S,K=>∃S',See E S S'/\K S'
 |o :: r,S,K=>∃S1,See E S S1/\aop E P o S1 (fun S2=>aseq E P r S2 K)
theorem aseq.see{S':Ay}{K:Ay->Prop}(s:See E S S')(h:aseq E P m S' K):aseq E P m S K:=by
 cases m with
 |nil=>obtain⟨S1,h1,h2⟩:=h;exact⟨S1,s.trans h1,h2⟩
 |cons o m=>obtain⟨S1,h1,h2⟩:=h;exact⟨S1,s.trans h1,h2⟩
theorem aseq.mono:∀{m:List As} {S:Ay} {K K':Ay->Prop},aseq E P m S K->(∀S',K S'->K' S')->aseq E P m S K'
 |[],S,K,K',⟨S',h1,h2⟩,hk=>⟨S',h1,hk _ h2⟩
 |o :: m,S,K,K',⟨S1,h1,h2⟩,hk=>⟨S1,h1,h2.mono fun _ h=>h.mono hk⟩
theorem SReg.nilS{K:Ay->Prop}{S':Ay}(s:See E S S')(h:K S'):SReg E P [] S K:=.see s (.nil h)
theorem aseq.sreg:∀{m:List As} {S:Ay} {K:Ay->Prop},aseq E P m S K->SReg E P m S K
 |[],S,K,⟨S',h1,h2⟩=>.nilS h1 h2
 |o :: m,S,K,⟨S1,h1,h2⟩=>.see h1 (.cons (h2.mono fun _ h=>h.sreg))
variable {ops:Array Oper}{Q:Exit->Act->World->Prop}
theorem jzgl{N:Nat}{g0:Gh}{w0:World}(D:IH E P m preds S n V R O)(hn:ops.size=N)(o5:n<=N)(d5:∀(k:Nat) (o:Oper),k<n->ops[k]?=some o->∃ao,m[k]?=some ao/\Gn P ops o ao=true)(bm:∀(i:Nat) (o:Oper),ops[i]?=some o->∀e∈o.after.toList,Region.binds .any e=true->e.on<i)(bN:∀(i:Nat) (o:Oper),ops[i]?=some o->∀p∈preds.getD i [],∃e∈o.after.toList,Region.binds .any e=true/\(e.on=p\/p∈preds.getD e.on []))(fC:∀i,n<=i->i<N->∀j,j<n->j∈preds.getD i [])(next:∀(fuel:Nat) (listed:Array Bool),listed.size=N->(∀j,listed.getD j false=decide (j<n))->N-n<=fuel->∀g' a' w',SR E g' (lx m V O S n) a' w'->Stp g0 S.h w0 g' (lx m V O S n).h w'->wpAnyIn (FW ρ) 0 P .any ops Q fuel listed a' w') :
  ∀(fuel:Nat) (listed:Array Bool),listed.size=N->(∀j,n<=j->listed.getD j false=false)->(∀j,listed.getD j false=true->∀p∈preds.getD j [],listed.getD p false=true) -> (∃l:List Nat,(∀j,j<n->listed.getD j false=false->j∈l)/\l.length+(N-n)<=fuel)->∀(g:Gh) (a:Act) (w:World),SR E g (stL m V O S n (fun j=>listed.getD j false)) a w ->
   Stp g0 S.h w0 g (stL m V O S n (fun j=>listed.getD j false)).h w->wpAnyIn (FW ρ) 0 P .any ops Q fuel listed a w:=by
 have fin:∀(listed:Array Bool),(∀j,j<n->listed.getD j false=true)->stL m V O S n (fun j=>listed.getD j false)=lx m V O S n:=fun listed h=>by
  rw[<-Wp];have et:(stL m V O S n (fun j=>listed.getD j false)).t=(stL m V O S n (fun _=>true)).t:=Iv fun x _=>yzr n fun j hj _=>h j hj;have eh:(stL m V O S n (fun j=>listed.getD j false)).h=(stL m V O S n (fun _=>true)).h:=by funext id;exact yzr n fun j hj _=>h j hj
  exact Ay.eq et eh rfl
 have done:∀(fuel:Nat) (listed:Array Bool),listed.size=N->(∀j,n<=j->listed.getD j false=false)->(∀j,j<n->listed.getD j false=true)->N-n<=fuel->∀(g:Gh) (a:Act) (w:World),SR E g (stL m V O S n (fun j=>listed.getD j false)) a w ->
   Stp g0 S.h w0 g (stL m V O S n (fun j=>listed.getD j false)).h w->wpAnyIn (FW ρ) 0 P .any ops Q fuel listed a w:=fun fuel listed hs h1 h2 hf g a w cD st=>by
  rw[fin listed h2]at cD st;refine next fuel listed hs (fun j=>?_) hf g a w cD st
  by_cases e:j<n
  ·rw[h2 j e];simp[e]
  ·rw[h1 j (by omega)];simp[e]
 intro fuel;induction fuel with
 |zero =>
  intro listed hs bW hc hf g a w cD st;obtain⟨l,hl,aF⟩:=hf;have gi:l=[]:=by cases l<;>simp at aF ⊢
  have all:∀j,j<n->listed.getD j false=true:=fun j hj=>by
   cases h:listed.getD j false with
   |true=>rfl
   |false=>have:=hl j hj h;rw[gi]at this;cases this
  exact done 0 listed hs bW all (by omega) g a w cD st
 |succ fuel ih =>
  intro listed hs bW hc hf g a w cD st;by_cases be:∀j,j<n->listed.getD j false=true
  ·obtain⟨l,_,aF⟩:=hf;exact done _ listed hs bW be (by omega) g a w cD st
  have some_ready:Region.ready .any ops listed≠[]:=fun hr=>by
   refine be ?_;intro j;induction j using Nat.strongRecOn with
   |ind j ih2 =>
    intro hj;cases hl:listed.getD j false with
    |true=>rfl
    |false =>have gh:j<ops.size:=(by omega);have:j∈Region.ready .any ops listed:=Gp.2 ⟨ops[j],by simp[gh],by rw[Gq hs (by omega)];exact hl,fun e he hb=>ih2 e.on (bm j _ (by simp[gh]) e he hb) (by have:=bm j ops[j] (by simp[gh]) e he hb;omega)⟩;rw[hr]at this;cases this
  refine⟨fun hr=>absurd hr some_ready,fun i hi=>?_⟩;obtain⟨o,ho,h2,h3⟩:=Gp.1 hi;have fD:i<N:=by rw[<-hn];exact(Ef.1 ho).1
  rw[Gq hs fD]at h2
  have hp:∀p∈preds.getD i [],listed.getD p false=true:=fun p bT=>by
   obtain⟨e,he,hb,h4⟩:=bN i o ho p bT;rcases h4 with rfl|h4
   ·exact h3 e he hb
   ·exact hc e.on (h3 e he hb) p h4
  have bh:i<n:=by
   rcases CN i n with h|h
   ·exact h
   ·exact absurd (fun j hj=>hp j (fC i h fD j hj)) be
  obtain⟨ao,jX,cl⟩:=d5 i o bh ho;obtain⟨aH,eC⟩:=D.at (L:=fun j=>listed.getD j false) hc jX h2 hp
  have fo:∀j,(listed.setIfInBounds i true).getD j false=(listed.getD j false||j==i):=fun j=>by
   by_cases e:j=i
   ·subst e;simp[Array.getD,hs,fD]
   ·have e':¬i=j:=fun h=>e h.symm;by_cases hj:j<listed.size<;>simp[Array.getD,hj,e,e',Gaf]
  have aN:=eC (fun j=>(listed.setIfInBounds i true).getD j false) fo;unfold wpOpIn;simp only[ho];refine Wj cl aH cD fun g' a' w' bi st'=>?_;refine ih _ (by simp[hs]) (fun j hj=>?_) (fun j hj p bT=>?_) ?_ g' a' w' (by rw[aN];exact bi) (by rw[aN];exact st.trans st')
  ·rw[fo,bW j hj];have:j≠i:=by omega
   simp[this]
  ·rw[fo]at hj ⊢;by_cases e:j=i
   ·subst e;rw[hp p bT];rfl
   ·have:listed.getD j false=true:=(by simpa [e] using hj);rw[hc j this p bT];rfl
  ·obtain⟨l,hl,aF⟩:=hf;have jl:=hl i bh h2;refine⟨l.erase i,fun j hj h=>?_,?_⟩
   ·rw[fo]at h;have aL:j≠i:=fun e=>by subst e;simp at h
    exact(List.mem_erase_of_ne aL).2 (hl j hj (by simpa [aL] using h))
   ·have:=List.length_erase_of_mem jl;have:0<l.length:=List.length_pos_of_mem jl;omega
theorem jzg6{N:Nat}(hn:ops.size=N)(bm:∀(i:Nat) (o:Oper),ops[i]?=some o->∀e∈o.after.toList,Region.binds .any e=true->e.on<i)(bN:∀(i:Nat) (o:Oper),ops[i]?=some o->∀p∈preds.getD i [],∃e∈o.after.toList,Region.binds .any e=true/\(e.on=p\/p∈preds.getD e.on [])) : ∀(m2:List As) (k:Nat),(∀i,k<i->i<N->∀j,j<i->j∈preds.getD i [])->yzf P ops (ops.toList.drop k) m2=true->∀(fuel:Nat) (listed:Array Bool),listed.size=N->(∀j,listed.getD j false=decide (j<k))->k<=N->N-k<=fuel -> ∀{K:Ay->Prop} {S:Ay} {g:Gh} {a:Act} {w:World},SR E g S a w->aseq E P m2 S K->(∀a' w',(∃g' S',K S'/\SR E g' S' a' w'/\Stp g S.h w g' S'.h w')->Q .normal a' w')->wpAnyIn (FW ρ) 0 P .any ops Q fuel listed a w:=by
 intro m2;induction m2 with
 |nil =>
  intro k gn hc fuel listed hs hl mT hf K S g a w cD h hq
  have hk:k=N:=by
   have:ops.toList.drop k=[]:=by
    cases h:ops.toList.drop k with
    |nil=>rfl
    |cons x r=>rw[h]at hc;cases hc
   have:=Ga5.1 this;simp at this;omega
  have hr:Region.ready .any ops listed=[]:=by
   cases h:Region.ready .any ops listed with
   |nil=>rfl
   |cons i r =>have hi:i∈Region.ready .any ops listed:=(by rw[h];exact Be ..);obtain⟨o,ho,h2,_⟩:=Gp.1 hi;have fD:i<N:=(by rw[<-hn];exact(Ef.1 ho).1);rw[Gq hs fD,hl]at h2;simp at h2;omega
  obtain⟨S',h1,h2⟩:=h;obtain⟨g',bi,st⟩:=h1 g a w cD;have hQ:=hq a w ⟨g',S',h2,bi,st⟩;cases fuel with
  |zero=>exact⟨hr,hQ⟩
  |succ fuel=>exact⟨fun _=>hQ,fun i hi=>by rw[hr]at hi;cases hi⟩
 |cons ao m2 ih =>
  intro k gn hc fuel listed hs hl mT hf K S g a w cD h hq
  have ko:k<N:=by
   rcases CN k N with h|h
   ·exact h
   ·rw[List.drop_eq_nil_of_le (by simp;omega)]at hc;cases hc
  have gI:k<ops.size:=by omega
  have eK:ops.toList.drop k=ops[k] :: ops.toList.drop (k+1):=by rw[Nt (by simpa using gI)];simp
  rw[eK]at hc;simp only[yzf,AE]at hc;cases fuel with
  |zero=>omega
  |succ fuel =>
   have hk:k∈Region.ready .any ops listed:=Gp.2 ⟨ops[k],by simp[gI],by rw[Gq hs ko,hl];simp,fun e he hb=>by rw[hl];simpa using bm k _ (by simp[gI]) e he hb⟩;refine⟨fun hr=>(by rw[hr]at hk;cases hk),fun i hi=>?_⟩;obtain⟨o,ho,h2,h3⟩:=Gp.1 hi;have fD:i<N:=by rw[<-hn];exact(Ef.1 ho).1
   rw[Gq hs fD,hl]at h2;have o6:k<=i:=by simpa using h2
   have hp:∀p∈preds.getD i [],∃q,p<=q/\listed.getD q false=true:=fun p bT=>by
    obtain⟨e,he,hb,h4⟩:=bN i o ho p bT;rcases h4 with rfl|h4
    ·exact⟨_,AD _,h3 e he hb⟩
    ·rcases CN e.on p with h5|h5
     ·exfalso;have dE:e.on<ops.size:=by have:=bm i o ho e he hb;omega
      have jo:∀(x:Nat),x<ops.size->∀p∈preds.getD x [],p<x:=fun x=>by
       induction x using Nat.strongRecOn with
       |ind x ihx =>
        intro hx p hp;obtain⟨e',kp,bk,h6⟩:=bN x ops[x] (by simp[hx]) p hp;have h7:=bm x ops[x] (by simp[hx]) e' kp bk;rcases h6 with rfl|h6
        ·exact h7
        ·have:=ihx e'.on h7 (by omega) p h6;omega
      have:=jo e.on dE p h4;omega
     ·exact⟨_,h5,h3 e he hb⟩
   have mU:i=k:=by
    rcases CN k i with h5|h5
    ·exfalso;obtain⟨q,lE,jo⟩:=hp k (gn i h5 fD k h5);rw[hl]at jo;simp at jo;omega
    ·omega
   subst mU;have eo:o=ops[i]:=by have:ops[i]?=some ops[i]:=(by simp[gI]);rw[this]at ho;cases ho;rfl
   subst eo;obtain⟨S1,s1,h⟩:=h;obtain⟨g1,dh,st1⟩:=s1 g a w cD;unfold wpOpIn;simp only[ho];have h1:=NP (ρ:=ρ) (Q:=Q) hc.1 h dh
   have imp:∀a' w',(∃g' S',aseq E P m2 S' K/\SR E g' S' a' w'/\Stp g1 S1.h w g' S'.h w')->wpAnyIn (FW ρ) 0 P .any ops Q fuel (listed.setIfInBounds i true) a' w':=by
    rintro a' w' ⟨g',S',ez,bi,st'⟩;refine ih (i+1) (fun i' h6=>gn i' (by omega)) hc.2 fuel _ (by simp[hs]) (fun j=>?_) (by omega) (by omega) bi ez ?_
    ·by_cases e:j=i;·subst e;simp[Array.getD,hs,fD]
     ·have e':¬i=j:=fun h=>e h.symm;have:(listed.setIfInBounds i true).getD j false=listed.getD j false:=(by by_cases hj:j<listed.size<;>simp[Array.getD,hj,e,e',Gaf]);rw[this,hl];simp only[decide_eq_decide];omega
    ·rintro a'' w'' ⟨g'',S'',hk,aZ,st''⟩;exact hq a'' w'' ⟨g'',S'',hk,aZ,st1.trans (st'.trans st'')⟩
   split at h1
   ·rename_i hw;rw[Aq hw];exact Oper.wpIn_mono imp h1
   ·rename_i hw;rw[Ak hw];exact⟨h1.1,imp _ _ h1.2⟩
def IP(preds:List (List Nat))(n N:Nat):Bool:=(List.range N).all fun i=>decide (i<n)||(List.range i).all fun j=>(preds.getD i []).contains j
theorem WE:∀{l:List Oper} {m m2:List As},yzf P ops l (m++m2)=true->yzf P ops (l.drop m.length) m2=true/\yzf P ops (l.take m.length) m=true
 |l,[],m2,h=>⟨by simpa using h,by cases l<;>rfl⟩
 |[],_ :: _,_,h=>by cases h
 |o :: l,a :: m,m2,h=>by simp only[US,yzf,AE]at h;obtain⟨h1,h2⟩:=WE (l:=l) (m:=m) h.2;exact⟨by simpa using h1,by simp only[DL,List.take_succ_cons,yzf,AE];exact⟨h.1,h2⟩⟩
theorem AWp.drawnB{id:Nat}{m2:List As}{Q:Exit->Ay->Prop}(hc:yzf P ops ops.toList (m++m2)=true)(hp:II ops.toList preds=true)(he:Hl 0 ops.toList=true)(d6:IJ (m++m2) preds=true) (hm:P.follows .mixedOrders=true) (hb:IP preds m.length (m++m2).length=true)(h:EC E P m S (fun S' tr=>Dn m preds tr=true/\aseq E P m2 S' (Q .normal))):AWp E ρ P (.region id ops true) Q S:=by
 obtain⟨aF,d5⟩:=QT hc;obtain⟨fE,kr⟩:=WE hc;obtain⟨V,R,O,cz,gM,hQ⟩:=QW _ _ _ h;have d7:(m++m2).length=ops.size:=by rw[aF];simp
 have lF:m.length<=ops.size:=by rw[<-d7];simp
 simp only[IP,Dw,Fz,Il,CO,Ga2]at hb;simp only[II,AE,Br,Dw,Fz,CO]at hp;obtain⟨bB,hp⟩:=hp
 have iy:∀i p,p∈preds.getD i []->i<ops.toList.length:=fun i p h=>by
  rcases CN i ops.toList.length with h1|h1
  ·exact h1
  ·simp[List.getD,JV (show preds.length<=i by omega)]at h
 simp only[IJ,Dw,Fz]at d6;have up:∀{i:Nat} {o:As},m[i]?=some o->(m++m2)[i]?=some o:=fun {i o} h=>by rw[FU (AU.1 h).1];exact h
 have D:IH E P m preds S m.length V R O:=by
  refine⟨rfl,cz,fun i j hj=>(hp i (iy i j hj) j hj).1,?_,?_⟩
  ·intro i j oi oj d hi hj aL h1 h2 hd;have:=d6 i (AU.1 (up hi)).1 j (AU.1 (up hj)).1;rw[up hi,up hj]at this;have h1':j∉preds[i]?.getD []:=by simpa using h1
   have ez:i∉preds[j]?.getD []:=by simpa using h2
   simpa [aL,h1',ez,hd] using this
  ·exact Wy cz gM
 have bm:∀(i:Nat) (o:Oper),ops[i]?=some o->∀e∈o.after.toList,Region.binds .any e=true->e.on<i:=fun i o hi e kc hb=>by have:=QU he i o (by simpa using hi) e kc hb;omega
 have bN:∀(i:Nat) (o:Oper),ops[i]?=some o->∀p∈preds.getD i [],∃e∈o.after.toList,Region.binds .any e=true/\(e.on=p\/p∈preds.getD e.on []):=fun i o hi p bT=>by
  have h1:=(hp i (iy i p bT) p bT).2;have bf:ops.toList[i]?=some o:=by simpa using hi
  rw[bf]at h1;simp only[List.any_eq_true,AE,Il,Br,Ga2]at h1;obtain⟨e,h2,h3,h4⟩:=h1;exact⟨e,h2,h3,h4⟩
 have fC:∀i,m.length<=i->i<ops.size->∀j,j<i->j∈preds.getD i []:=fun i h1 h2 j hj=>by
  rcases hb i (by omega) with h3|h3
  ·omega
  ·exact h3 j hj
 intro g a w hs;have hw:=hs.hr.heap (w':={ w with drawn:=w.drawn+1 }) rfl rfl rfl rfl;have bi:SR E g S a { w with drawn:=w.drawn+1 }:=⟨hw.1,hs.tm.mono hw.2.le,hs.df,hs.dk,hs.dn⟩;have stp0:Stp g S.h w g S.h { w with drawn:=w.drawn+1 }:=hw.2;refine wpIn_region_any hm ?_
 have e0:stL m V O S m.length (fun j=>(Array.replicate ops.size false).getD j false)=S:=by
  have:(fun j=>(Array.replicate ops.size false).getD j false)=(fun j=>decide (j<0)):=by funext j;by_cases hj:j<ops.size<;>simp[Array.getD,hj]
  rw[this,IG 0 (Fv _)];rfl
 refine jzgl (ρ:=ρ) (g0:=g) (w0:=w) (Q:=fun e a' w'=>∃g' S',Q e S'/\SR E g' S' a' w'/\Stp g S.h w g' S'.h w') D rfl lF (fun k o hk ho=>?_) bm bN (fun i h1 h2 j hj=>fC i h1 h2 j (by omega)) ?_
  ops.size (Array.replicate ops.size false) (by simp) (fun j hj=>?_) (fun j hj=>?_) ⟨List.range m.length,fun j hj _=>by simpa using hj,by simp;omega⟩ g a _ (by rw[e0];exact bi) (by rw[e0];exact stp0)
 ·obtain⟨ao,h1,h2⟩:=d5 k o (by simpa using ho);rw[FU hk]at h1;exact⟨ao,h1,h2⟩
 ·intro fuel listed mV hl hf g' a' w' cq st2;exact jzg6 (ρ:=ρ) (m2:=m2) rfl bm bN m.length (fun i h1 h2 j hj=>fC i (by omega) h2 j hj) fE fuel listed mV hl lF hf cq hQ fun a'' w'' ⟨g'',S'',q1,q2,q3⟩=>⟨g'',S'',q1,q2,st2.trans q3⟩
 ·by_cases h1:j<ops.size<;>simp[Array.getD,h1]
 ·by_cases h1:j<ops.size<;>simp[Array.getD,h1]at hj
theorem AW.drawB{m2:List As}{Q:Exit->Ay->Prop}{pr:List (List Nat)}(hb:IP pr m.length (m++m2).length=true)(h:EC E P m S (fun S' tr=>Dn m pr tr=true/\aseq E P m2 S' (Q .normal))):AW E ρ P (.reg true (m++m2) pr) Q S:=by
 intro code hc
 match code,hc with
 |.region id l false,hc=>simp[AA]at hc
 |.region id l true,hc =>simp only[AA,AE]at hc;exact .drawnB hc.1.1.1.1 hc.1.1.1.2 hc.1.1.2 hc.1.2 hc.2 hb h
 |.skip,hc=>simp[AA]at hc
 |.seq _ _,hc=>simp[AA]at hc
 |.cond _ _ _,hc=>simp[AA]at hc
 |.block _ _,hc=>simp[AA]at hc
 |.loop _,hc=>simp[AA]at hc
 |.rangeFunc _ _ _ _,hc=>simp[AA]at hc
 |.exit _,hc=>simp[AA]at hc
 |.scope _,hc=>simp[AA]at hc
 |.label _,hc=>simp[AA]at hc
 |.goto _,hc=>simp[AA]at hc
 |.ret,hc=>simp[AA]at hc
 |.refuse _,hc=>simp[AA]at hc
theorem AWp.post{c:Code}{Q Q':Exit->Ay->Prop}(h:AWp E ρ P c Q S)(hq:∀e S',Q e S'->∃S'',See E S' S''/\Q' e S''):AWp E ρ P c Q' S:=fun g a w hs=>wpIn_mono (h g a w hs) fun e a' w' ⟨g',S',q,bi,st⟩=>by obtain⟨S'',s,q'⟩:=hq e S' q;obtain⟨g'',aZ,st'⟩:=s g' a' w' bi;exact⟨g'',S'',q',aZ,st.trans st'⟩
end
structure Csm(E:Nat->Aa)(P:Program){A:Type}(aA:A->List Aa)(st:List A->Option Bool)(L e:Nat)(HC HX:List A->Ax->Prop):Prop where
 loc:∀l h h',(∀i,i<1000\/2000<=i->h' i=h i)->HC l h->HC l h'
 lox:∀l h h',(∀i,i<1000\/2000<=i->h' i=h i)->HX l h->HX l h'
 round:∀l x s h,HC l h->st (l++[x])=some s->BN E P L e (aA x) h fun v h'=>v=.bool (!s)/\(s=false->HC (l++[x]) h')/\(s=true->HX (l++[x]) h')/\∀i,1000<=i->i<2000->h' i=h i
def SqOk(E:Nat->Aa)(P:Program){A:Type}(f:FuncId)(caps:List Aa)(aA:A->List Aa)(st:List A->Option Bool)(l:List A):Prop :=
 Ci P f=true/\∀(L e:Nat) (HC HX:List A->Ax->Prop),Csm E P aA st L e HC HX->∀h,HC [] h->(∀i,1000<=i->i<2000->∃e,h i=.gone e)->ATr E P f (.yld L e :: caps) h fun v h'=>HC l h'\/HX l h'
open Go.Sort Go.Proofs Go.Shelf
def Rc(h:Ax):Ax:=fun i=>.gone (h i).ep
theorem HR.gone{E:Nat->Aa}{g:Gh}{h:Ax}{w W:World}(H:HR E g h w)(aD:GLe g w g W)(hs:w.heap.size<=W.heap.size):HR E g (Rc h) W := ⟨fun _=>trivial,fun i=>H.ep i,fun i j hi=>(by cases hi),fun i hi=>(by cases hi),fun b hb=>F3 (H.fzb b hb) hs,fun i=>(H.glob i).mono aD⟩
theorem AY.lays{E:Nat->Aa}{P:Program}{F:FuncId}{args:List Aa}{v:Aa}(hc:AY E P F args v){g:Gh}{h:Ax}{W:World}(H:HR E g (Rc h) W){vs:List Value}(hv:RVs g W args vs) :
  Calls P F vs.toArray W fun e w'=>(∃u g',e=.returned u/\RV g' w' v u)/\∃q os',w'=grow (W.drewN q) os':=by
 refine(hc (Rc h) g W vs H hv).mono ?_;rintro e w' ⟨g',h',r,u,⟨rfl,rfl⟩,rfl,hr,H',st⟩;refine⟨⟨u,g',rfl,hr⟩,w'.drawn-W.drawn,w'.heap.extract W.heap.size w'.heap.size,?_⟩;have hd:=st.drawn;have aJ:=st.size
 have hh:w'.heap=W.heap++w'.heap.extract W.heap.size w'.heap.size:=by
  apply Array.ext_getElem?;intro b;by_cases hb:b<W.heap.size
  ·rw[st.keep b hb (fun i hi=>by cases hi),UQ hb]
  ·rw[Array.getElem?_append_right (Nat.le_of_not_lt hb)];by_cases cw:b<w'.heap.size
   ·rw[Array.getElem?_extract,Aq (by omega)];congr 1;omega
   ·rw[Array.getElem?_eq_none (Nat.le_of_not_lt cw),Array.getElem?_eq_none (by simp;omega)]
 have h1:=st.os;have h2:=st.tape;have h3:=st.output;cases w' with
 |mk hp tp dr os out =>
 cases W with
 |mk dW tp2 dr2 os2 out2 =>
 simp only[grow,World.drewN]at *;subst h1;subst h2;subst h3;congr 1;omega
theorem wzfu{U:Type}[Inhabited U]{E:Nat->Aa}{P:Program}{ρ:Ren}(Ly:SlLaysF0.n6 P ρ)(k:Nat)(fR:0<k)(aE:∀w,(isAgg (ρ.t 24)).run P w=.ok true w) (zE:∀w,(Go.sizeOf (ρ.t 24)).run P w=.ok k w)(cs:U->List Aa) (enc:U->List Value) (hk:∀x,(enc x).length=k) (cl:∀x,(cs x).length=k) (h1:∀x,∀v∈enc x,v.oneCell'=true)(bt:∀g w x l,RVs g w (cs x) l->l=enc x) (gp:∀g w x,RVs g w (cs x) (enc x))(cf:U->U->Int) (hO:SWO (ltOf cf)) (F:FuncId) (eg:∀args w,(callFunc F args).run P w=.ok (.enter F args) w)(eN:∀x y,AY E P F [.agg (cs x),.agg (cs y)] (.int .i64 (cf x y))){h:Ax} {id ep n:Nat} {f:Nat->List Aa} {d:Array U} (hid:h id=.vec ep k n f) (fm:d.size=n) (hn:0<n) (fS:n<4611686018427387904) (hf:∀j,j<n->f j=cs d[j]!) :
  ATr E P (ρ.f 6) [.vec id ep 0 n,.fn F 0 []] h (fun r h'=>r=.tup []/\∃d':Array U,PermIn 0 n d d'/\SortedIn (ltOf cf) 0 n d'/\h'=hset h id (.vec ep k n (fun j=>cs d'[j]!))):=by
 intro g w vs H hv
 obtain⟨v,v2,rfl⟩:∃v v2,vs=[v,v2]:=by
  have:=hv.1
  match vs,this with
  |[v,v2],_=>exact⟨v,v2,rfl⟩
 have eQ:RV g w (.vec id ep 0 n) v:=hv.2 0 _ _ rfl rfl;have ks:RV g w (.fn F 0 []) v2:=hv.2 1 _ _ rfl rfl;have bF:g.ep id=ep:=by rw[H.ep id,hid];rfl
 cases ks with
 |fn _ _ _ a mW _ =>
 have mX:a=#[]:=Array.eq_empty_of_size_eq_zero (by simpa using mW);subst mX;cases eQ with
 |vec _ _ _ _ _ h1' he hV =>
 obtain⟨ad,cap,rfl,aQ,fk⟩:=hV bF.symm;have ho:=H.obj id;rw[hid]at ho;obtain⟨aH,_,fF,arr,ty,bj,bX,bz⟩:=ho;rcases fk with e0|⟨rfl,bU⟩
 ·omega
 have aP:(h id).owned=true:=by rw[hid];rfl
 have dJ:∀i c,i<n->c<k->i*k+c<n*k:=fun i c hi hc=>by have:=BD k (show i+1<=n from hi);rw[Bb,Nat.one_mul]at this;omega
 have o7:n*k<=g.cp id*k:=BD k fF
 have aI:∀i c,i<n->c<k->arr[g.bo id+i*k+c]?=some (enc d[i]!)[c]! := by
  intro i c hi hc;have hlt:∀c,c<k->g.bo id+i*k+c<arr.size:=fun c hc=>by have:=dJ i c hi hc;omega
  have hl:RVs g w (cs d[i]!) ((List.range k).map fun c=>arr.getD (g.bo id+i*k+c) undef):=by
   refine⟨by simp[cl],fun j x v hx hv=>?_⟩;have hj:j<k:=by have:=(AU.1 hv).1;simpa using this
   have co:arr[g.bo id+i*k+j]?=some v:=by simp only[Gf,UI hj,Ej,AZ]at hv;rw[E7 (hlt j hj),<-hv];simp[Array.getD,hlt j hj]
   exact((bz i hi).2 j x v (by rw[hf i hi];exact hx) co).2
  have e:=bt g w _ _ hl;have ec:c<(enc d[i]!).length:=by rw[hk];exact hc
  rw[E7 (hlt c hc),getElem!_pos _ c ec];congr 1;have:(enc d[i]!)[c]?=some (arr.getD (g.bo id+i*k+c) undef):=by rw[<-e];simp[hc]
  rw[AG ec]at this;rw[BI this];simp[Array.getD,hlt c hc]
 have dv:(⟨g.blk id,g.bo id+0*g.st id,none⟩:Addr)=⟨g.blk id,g.bo id,none⟩:=by simp
 have aM:g.blk id<w.heap.size:=(Ef.1 bj).1
 have hH:HoldsK enc k w (g.blk id) (g.bo id) d:=by
  intro j hj;have aV:j<n*k:=by simpa [size_flatK,fm] using hj
  refine⟨?_,by simp[World.frozen?,bj]⟩;simp only[World.cell?,bj];simp only[Option.isSome_none,Iq,Df];rw[get_flatK _ _ _ _ (by rw[fm];exact aV)];have h3:j / k<n:=Nat.div_lt_of_lt_mul (by rw[Bj];exact aV);have h4:j%k<k:=Gg _ fR;have:=aI (j / k) (j%k) h3 h4;rw[GX,Bj,Ix]at this;exact this
 have mY:CmpLays P F #[] enc k cf (g.blk id) (g.bo id) d.size w:=by
  intro m os dk cX x y;have mZ:w.heap.size<=(sortWorldK enc k w (g.blk id) (g.bo id) m dk os).heap.size:=by unfold sortWorldK;rw[size_grow];simp[putRowK,putRow,mapBlock,Sort.ahead]
  have nc:∀b,b<w.heap.size->b≠g.blk id->(sortWorldK enc k w (g.blk id) (g.bo id) m dk os).heap[b]?=w.heap[b]?:=by intro b hb aL;unfold sortWorldK;rw[heap_grow_old _ _ (by simpa [putRowK,putRow,mapBlock,Sort.ahead] using hb)];have:g.blk id≠b:=fun e=>aL e.symm;simp[putRowK,putRow,mapBlock,Sort.ahead,Qj,this]
  have aD:GLe g w g (sortWorldK enc k w (g.blk id) (g.bo id) m dk os) := ⟨fun b hb=>⟨hb,nc b (H.fzb b hb) (fun e=>H.sep id aP (e▸hb))⟩,fun _=>AD _,fun _ _=>⟨rfl,rfl,rfl,rfl⟩⟩
  have bA:RVs g (sortWorldK enc k w (g.blk id) (g.bo id) m dk os) [.agg (cs x),.agg (cs y)] [.agg (enc x).toArray,.agg (enc y).toArray] :=
   .cons (.agg _ _ (by simp[hk,cl]) fun i x' v hx hv=>(gp _ _ x).2 i x' v hx (by simpa using hv)) (.cons (.agg _ _ (by simp[hk,cl]) fun i x' v hx hv=>(gp _ _ y).2 i x' v hx (by simpa using hv)) (.nil _ _))
  refine(AY.lays (eN x y) (H.gone aD mZ) bA).mono ?_;rintro e w' ⟨⟨u,g',rfl,hu⟩,hq⟩;cases hu;exact⟨rfl,hq⟩
 have main:=AnyQ.slices_SortFunc Ly k aE zE enc hk h1 cf hO F #[] (g.blk id) (g.bo id) cap d w eg mY hH aM (by rw[fm];exact fS);rw[fm]at main;rw[dv];refine main.mono ?_;rintro e w' ⟨rfl,d',m,os,hp,hs,rfl⟩;have iB:d'.size=n:=hp.1.trans fm;have aJ:w.heap.size<=(sortWorldK enc k w (g.blk id) (g.bo id) m d' os).heap.size:=by unfold sortWorldK;rw[size_grow];simp[putRowK,putRow,mapBlock,Sort.ahead]
 have bg:∀b,b<w.heap.size->b≠g.blk id->(sortWorldK enc k w (g.blk id) (g.bo id) m d' os).heap[b]?=w.heap[b]?:=by intro b hb aL;unfold sortWorldK;rw[heap_grow_old _ _ (by simpa [putRowK,putRow,mapBlock,Sort.ahead] using hb)];have:g.blk id≠b:=fun e=>aL e.symm;simp[putRowK,putRow,mapBlock,Sort.ahead,Qj,this]
 have aN:(sortWorldK enc k w (g.blk id) (g.bo id) m d' os).heap[g.blk id]?=some (.cells (putCells _root_.id (g.bo id) (flatK enc k d') arr) ty (0,0)):=by unfold sortWorldK;rw[heap_grow_old _ _ (by simpa [putRowK,putRow,mapBlock,Sort.ahead] using aM)];simp[putRowK,putRow,mapBlock,Sort.ahead,Qj,bj,onCells]
 have aD:GLe g w g (sortWorldK enc k w (g.blk id) (g.bo id) m d' os) := ⟨fun b hb=>⟨hb,bg b (H.fzb b hb) (fun e=>H.sep id aP (e▸hb))⟩,fun _=>AD _,fun _ _=>⟨rfl,rfl,rfl,rfl⟩⟩
 have fk:OR g (sortWorldK enc k w (g.blk id) (g.bo id) m d' os) id (.vec ep k n (fun j=>cs d'[j]!)):=by
  refine⟨aH,fR,fF,_,ty,aN,by simpa [putCells] using bX,fun i hi=>⟨cl _,fun j x v hx hv=>?_⟩⟩;have hj:j<k:=by have:=(AU.1 hx).1;rwa [cl]at this
  have dV:=dJ i j hi hj;have fd:g.bo id+i*k+j<arr.size:=by omega
  have ev:v=(enc d'[i]!)[j]! := by
   simp only[putCells,Array.getElem?_mapIdx,E7 fd,Ej,AZ]at hv;rw[Aq ⟨by omega,by rw[size_flatK,iB];omega⟩]at hv;rw[<-hv,show g.bo id+i*k+j-g.bo id=i*k+j by omega];show(flatK enc k d')[i*k+j]! = _;rw[get_flatK _ _ _ _ (by rw[iB];exact dV)];have e1:(i*k+j) / k=i:=by rw[Bj,Qq fR,Ka hj,JX]
   have e2:(i*k+j)%k=j:=by rw[Bj,Qz,DM hj]
   rw[e1,e2]
  have ej:j<(enc d'[i]!).length:=by rw[hk];exact hj
  have ev2:(enc d'[i]!)[j]?=some v:=by rw[ev,AG ej,getElem!_pos _ j ej]
  exact⟨h1 _ v (BH ev2),(gp _ _ _).2 j x v hx ev2⟩
 obtain⟨H',S'⟩:=HR.upd (E:=E) (g':=g) (i:=id) (o':=.vec ep k n (fun j=>cs d'[j]!)) H aD (fun _ _=>rfl) bF (fun b hb hn=>bg b hb (hn aP)) aJ fk (fun _=>.inl ⟨aP,rfl⟩) (fun _=>H.sep id aP) (fun b hb=>.inl hb) (fun b hb=>F3 (H.fzb b hb) aJ) rfl rfl rfl (Nat.le_add_right _ _);exact⟨g,_,.tup [],.tuple #[],⟨rfl,d',hp,hs,rfl⟩,rfl,.tup [] #[] rfl (fun i x v hx _=>by simp at hx),H',S'⟩
open Go.Sort Go.Proofs
open Go.Sort Go.Proofs Go.Shelf
theorem qz2n{U:Type}[Inhabited U]{E:Nat->Aa}{P:Program}{ρ:Ren}(Ly:SlLaysE.n35 P ρ)(cs:U->Aa)(enc:U->Value)(h1:OneCell enc)(bt:∀g w x v,RV g w (cs x) v->v=enc x) (gp:∀g w x,RV g w (cs x) (enc x)){h:Ax} {id ep n:Nat} {f:Nat->List Aa} {l:List U} (hid:h id=.vec ep 1 n f) (c8:l.length=n) (hn:0<n) (fS:n<=9223372036854775807) (hf:∀j,j<n->f j=[cs l.toArray[j]!]) :
  ATr E P (ρ.f 35) [.vec id ep 0 n] h (fun r h'=>r=.tup []/\h'=hset h id (.vec ep 1 n (fun j=>[cs l.reverse.toArray[j]!]))):=by
 intro g w vs H hv
 obtain⟨v,rfl⟩:∃v,vs=[v]:=by
  have:=hv.1
  match vs,this with
  |[v],_=>exact⟨v,rfl⟩
 have eQ:RV g w (.vec id ep 0 n) v:=hv.2 0 _ _ rfl rfl;have bF:g.ep id=ep:=by rw[H.ep id,hid];rfl
 cases eQ with
 |vec _ _ _ _ _ h1' he hV =>
 obtain⟨ad,cap,rfl,aQ,fk⟩:=hV bF.symm;have ho:=H.obj id;rw[hid]at ho;obtain⟨aH,_,fF,arr,ty,bj,bX,bz⟩:=ho;rcases fk with e0|⟨rfl,bU⟩
 ·omega
 have aP:(h id).owned=true:=by rw[hid];rfl
 have aI:∀j,j<n->arr[g.bo id+j]?=some (enc l.toArray[j]!):=by
  intro j hj;have hlt:g.bo id+j<arr.size:=by omega
  have h3:=(bz j hj).2 0 (cs l.toArray[j]!) arr[g.bo id+j] (by rw[hf j hj];rfl) (by simp[E7 hlt]);rw[E7 hlt,bt _ _ _ _ h3.2]
 have dv:(⟨g.blk id,g.bo id+0*g.st id,none⟩:Addr)=⟨g.blk id,g.bo id,none⟩:=by simp
 have aM:g.blk id<w.heap.size:=(Ef.1 bj).1
 have hH:Holds enc w (g.blk id) (g.bo id) l.toArray:=by
  intro j hj;have aV:j<n:=by simpa [c8] using hj
  refine⟨?_,by simp[World.frozen?,bj]⟩;simp only[World.cell?,bj];simp only[Option.isSome_none,Iq,Df];exact aI j aV
 have main:=AnyE.slices_Reverse Ly enc h1 (g.blk id) (g.bo id) cap l w hH (by rw[c8];exact fS);rw[c8]at main;rw[dv];refine main.mono ?_;rintro e w' ⟨rfl,m,rfl⟩;have ne:l.reverse.toArray.size=n:=by simp[c8]
 have aJ:w.heap.size<=(putRow enc (Sort.ahead w m) (g.blk id) (g.bo id) l.reverse.toArray).heap.size:=by simp[putRow,mapBlock,Sort.ahead]
 have bg:∀b,b<w.heap.size->b≠g.blk id->(putRow enc (Sort.ahead w m) (g.blk id) (g.bo id) l.reverse.toArray).heap[b]?=w.heap[b]?:=by intro b hb aL;have:g.blk id≠b:=fun e=>aL e.symm;simp[putRow,mapBlock,Sort.ahead,Qj,this]
 have aN:(putRow enc (Sort.ahead w m) (g.blk id) (g.bo id) l.reverse.toArray).heap[g.blk id]?=some (.cells (putCells enc (g.bo id) l.reverse.toArray arr) ty (0,0)):=by simp[putRow,mapBlock,Sort.ahead,Qj,bj,onCells]
 have aD:GLe g w g (putRow enc (Sort.ahead w m) (g.blk id) (g.bo id) l.reverse.toArray) := ⟨fun b hb=>⟨hb,bg b (H.fzb b hb) (fun e=>H.sep id aP (e▸hb))⟩,fun _=>AD _,fun _ _=>⟨rfl,rfl,rfl,rfl⟩⟩
 have fk:OR g (putRow enc (Sort.ahead w m) (g.blk id) (g.bo id) l.reverse.toArray) id (.vec ep 1 n (fun j=>[cs l.reverse.toArray[j]!])):=by
  refine⟨aH,by omega,fF,_,ty,aN,by simpa [putCells] using bX,fun k hk=>⟨rfl,fun j x v hx hv=>?_⟩⟩
  have hj:j=0:=by
   cases j with
   |zero=>rfl
   |succ j=>simp at hx
  subst hj;simp only[Gbc,AZ]at hx;subst hx;have fd:g.bo id+k<arr.size:=by omega
  have:v=enc l.reverse.toArray[k]! := by simp only[putCells,Array.getElem?_mapIdx,Nat.mul_one,JX,E7 fd,Ej,AZ]at hv;rw[Aq ⟨by omega,by rw[ne];omega⟩]at hv;rw[<-hv,show g.bo id+k-g.bo id=k by omega]
  subst this;exact⟨h1 _,gp _ _ _⟩
 obtain⟨H',S'⟩:=HR.upd (E:=E) (g':=g) (i:=id) (o':=.vec ep 1 n (fun j=>[cs l.reverse.toArray[j]!])) H aD (fun _ _=>rfl) bF (fun b hb hn=>bg b hb (hn aP)) aJ fk (fun _=>.inl ⟨aP,rfl⟩) (fun _=>H.sep id aP) (fun b hb=>.inl hb) (fun b hb=>F3 (H.fzb b hb) aJ) rfl rfl rfl (Nat.le_add_right _ _);exact⟨g,_,.tup [],.tuple #[],⟨rfl,rfl⟩,rfl,.tup [] #[] rfl (fun i x v hx _=>by simp at hx),H',S'⟩
theorem wzdy{E:Nat->Aa}{P:Program}{ρ:Ren}(Ly:SlLaysE.n35 P ρ){h:Ax}:ATr E P (ρ.f 35) [.nils] h (fun r h'=>r=.tup []/\h'=h):=by
 intro g w vs H hv
 obtain⟨v,rfl⟩:∃v,vs=[v]:=by
  have:=hv.1
  match vs,this with
  |[v],_=>exact⟨v,rfl⟩
 have eQ:RV g w .nils v:=hv.2 0 _ _ rfl rfl;cases eQ;refine(AnyE.slices_Reverse_empty Ly none 0 w).mono ?_;rintro e w' ⟨rfl,rfl⟩;exact⟨g,h,.tup [],.tuple #[],⟨rfl,rfl⟩,rfl,.tup [] #[] rfl (fun i x v hx _=>by simp at hx),H,.refl _ _ _⟩
end Go.Am

