/- Part A5: an abstract machine proved sound over the calculus of the guide. No condition. -/
import Derived.Test.YtjlgleghnenojaaDoorA4
import Derived.Shelf.Sort.Plain
import Derived.Shelf.SlicesE.Reverse
set_option linter.unusedSimpArgs false
set_option linter.unusedVariables false
namespace Go.Am
section
variable {E:Nat->AVal}{P:Program}{U:Option Nat}{m:List qzc}{preds:List (List Nat)}{S:ASt}{n:Nat}{V:Nat->AVal}{R:Nat->List Nat}{O:Nat->Option (Nat×AObj)}
def aseq(E:Nat->AVal)(P:Program):List qzc->ASt->(ASt->Prop)->Prop
 |[],S,K=>∃S',See E S S'/\K S'
 |o :: r,S,K=>∃S1,See E S S1/\aop E P o S1 (fun S2=>aseq E P r S2 K)
theorem aseq.see{S':ASt}{K:ASt->Prop}(s:See E S S')(h:aseq E P m S' K):aseq E P m S K:=by
 cases m with
 |nil=>obtain⟨S1,h1,h2⟩:=h;exact⟨S1,s.trans h1,h2⟩
 |cons o m=>obtain⟨S1,h1,h2⟩:=h;exact⟨S1,s.trans h1,h2⟩
theorem aseq.mono:∀{m:List qzc} {S:ASt} {K K':ASt->Prop},aseq E P m S K->(∀S',K S'->K' S')->aseq E P m S K'
 |[],S,K,K',⟨S',h1,h2⟩,hk=>⟨S',h1,hk _ h2⟩
 |o :: m,S,K,K',⟨S1,h1,h2⟩,hk=>⟨S1,h1,h2.mono fun _ h=>h.mono hk⟩
theorem SReg.nilS{K:ASt->Prop}{S':ASt}(s:See E S S')(h:K S'):SReg E P [] S K:=.see s (.nil h)
theorem aseq.sreg:∀{m:List qzc} {S:ASt} {K:ASt->Prop},aseq E P m S K->SReg E P m S K
 |[],S,K,⟨S',h1,h2⟩=>.nilS h1 h2
 |o :: m,S,K,⟨S1,h1,h2⟩=>.see h1 (.cons (h2.mono fun _ h=>h.sreg))
variable {ops:Array Oper}{Q:Exit->Act->World->Prop}
theorem jzgl{N:Nat}{g0:Gh}{w0:World}(D:qzr6 E P m preds S n V R O)(hn:ops.size=N)(hnN:n<=N)(hops:∀(k:Nat) (o:Oper),k<n->ops[k]?=some o->∃ao,m[k]?=some ao/\qzct P ops o ao=true)(hedge:∀(i:Nat) (o:Oper),ops[i]?=some o->∀e∈o.after.toList,Region.binds .any e=true->e.on<i)(hpred:∀(i:Nat) (o:Oper),ops[i]?=some o->∀p∈preds.getD i [],∃e∈o.after.toList,Region.binds .any e=true/\(e.on=p\/p∈preds.getD e.on []))(hbar:∀i,n<=i->i<N->∀j,j<n->j∈preds.getD i [])(next:∀(fuel:Nat) (listed:Array Bool),listed.size=N->(∀j,listed.getD j false=decide (j<n))->N-n<=fuel->∀g' a' w',SR E g' (lx m V O S n) a' w'->Stp g0 S.h w0 g' (lx m V O S n).h w'->wpAnyIn (FW U) 0 P .any ops Q fuel listed a' w') :
  ∀(fuel:Nat) (listed:Array Bool),listed.size=N->(∀j,n<=j->listed.getD j false=false)->(∀j,listed.getD j false=true->∀p∈preds.getD j [],listed.getD p false=true) -> (∃l:List Nat,(∀j,j<n->listed.getD j false=false->j∈l)/\l.length+(N-n)<=fuel)->∀(g:Gh) (a:Act) (w:World),SR E g (stL m V O S n (fun j=>listed.getD j false)) a w ->
   Stp g0 S.h w0 g (stL m V O S n (fun j=>listed.getD j false)).h w->wpAnyIn (FW U) 0 P .any ops Q fuel listed a w:=by
 have fin:∀(listed:Array Bool),(∀j,j<n->listed.getD j false=true)->stL m V O S n (fun j=>listed.getD j false)=lx m V O S n:=fun listed h=>by
  rw[<-wzc8];have et:(stL m V O S n (fun j=>listed.getD j false)).t=(stL m V O S n (fun _=>true)).t:=Gb0 fun x _=>yzr n fun j hj _=>h j hj;have eh:(stL m V O S n (fun j=>listed.getD j false)).h=(stL m V O S n (fun _=>true)).h:=by funext id;exact yzr n fun j hj _=>h j hj
  exact ASt.eq et eh rfl
 have done:∀(fuel:Nat) (listed:Array Bool),listed.size=N->(∀j,n<=j->listed.getD j false=false)->(∀j,j<n->listed.getD j false=true)->N-n<=fuel->∀(g:Gh) (a:Act) (w:World),SR E g (stL m V O S n (fun j=>listed.getD j false)) a w ->
   Stp g0 S.h w0 g (stL m V O S n (fun j=>listed.getD j false)).h w->wpAnyIn (FW U) 0 P .any ops Q fuel listed a w:=fun fuel listed hs h1 h2 hf g a w hsr st=>by
  rw[fin listed h2]at hsr st;refine next fuel listed hs (fun j=>?_) hf g a w hsr st
  by_cases e:j<n
  ·rw[h2 j e];simp[e]
  ·rw[h1 j (by omega)];simp[e]
 intro fuel;induction fuel with
 |zero =>
  intro listed hs hlo hc hf g a w hsr st;obtain⟨l,hl,hlen⟩:=hf;have hl0:l=[]:=by cases l<;>simp at hlen ⊢
  have all:∀j,j<n->listed.getD j false=true:=fun j hj=>by
   cases h:listed.getD j false with
   |true=>rfl
   |false=>have:=hl j hj h;rw[hl0]at this;cases this
  exact done 0 listed hs hlo all (by omega) g a w hsr st
 |succ fuel ih =>
  intro listed hs hlo hc hf g a w hsr st;by_cases hall:∀j,j<n->listed.getD j false=true
  ·obtain⟨l,_,hlen⟩:=hf;exact done _ listed hs hlo hall (by omega) g a w hsr st
  have some_ready:Region.ready .any ops listed≠[]:=fun hr=>by
   refine hall ?_;intro j;induction j using Nat.strongRecOn with
   |ind j ih2 =>
    intro hj;cases hl:listed.getD j false with
    |true=>rfl
    |false =>have hjs:j<ops.size:=(by omega);have:j∈Region.ready .any ops listed:=qzmd.2 ⟨ops[j],by simp[hjs],by rw[qzfh hs (by omega)];exact hl,fun e he hb=>ih2 e.on (hedge j _ (by simp[hjs]) e he hb) (by have:=hedge j ops[j] (by simp[hjs]) e he hb;omega)⟩;rw[hr]at this;cases this
  refine⟨fun hr=>absurd hr some_ready,fun i hi=>?_⟩;obtain⟨o,ho,h2,h3⟩:=qzmd.1 hi;have hiN:i<N:=by rw[<-hn];exact(Gac.1 ho).1
  rw[qzfh hs hiN]at h2
  have hp:∀p∈preds.getD i [],listed.getD p false=true:=fun p hpp=>by
   obtain⟨e,he,hb,h4⟩:=hpred i o ho p hpp;rcases h4 with rfl|h4
   ·exact h3 e he hb
   ·exact hc e.on (h3 e he hb) p h4
  have hin:i<n:=by
   rcases Gc3 i n with h|h
   ·exact h
   ·exact absurd (fun j hj=>hp j (hbar i h hiN j hj)) hall
  obtain⟨ao,hao,hck⟩:=hops i o hin ho;obtain⟨hst,hpush⟩:=D.at (L:=fun j=>listed.getD j false) hc hao h2 hp
  have hL':∀j,(listed.setIfInBounds i true).getD j false=(listed.getD j false||j==i):=fun j=>by
   by_cases e:j=i
   ·subst e;simp[Array.getD,hs,hiN]
   ·have e':¬i=j:=fun h=>e h.symm;by_cases hj:j<listed.size<;>simp[Array.getD,hj,e,e',Gaf]
  have hnew:=hpush (fun j=>(listed.setIfInBounds i true).getD j false) hL';unfold wpOpIn;simp only[ho];refine qzut hck hst hsr fun g' a' w' hs' st'=>?_;refine ih _ (by simp[hs]) (fun j hj=>?_) (fun j hj p hpp=>?_) ?_ g' a' w' (by rw[hnew];exact hs') (by rw[hnew];exact st.trans st')
  ·rw[hL',hlo j hj];have:j≠i:=by omega
   simp[this]
  ·rw[hL']at hj ⊢;by_cases e:j=i
   ·subst e;rw[hp p hpp];rfl
   ·have:listed.getD j false=true:=(by simpa [e] using hj);rw[hc j this p hpp];rfl
  ·obtain⟨l,hl,hlen⟩:=hf;have hil:=hl i hin h2;refine⟨l.erase i,fun j hj h=>?_,?_⟩
   ·rw[hL']at h;have hne:j≠i:=fun e=>by subst e;simp at h
    exact(List.mem_erase_of_ne hne).2 (hl j hj (by simpa [hne] using h))
   ·have:=List.length_erase_of_mem hil;have:0<l.length:=List.length_pos_of_mem hil;omega
theorem jzg6{N:Nat}(hn:ops.size=N)(hedge:∀(i:Nat) (o:Oper),ops[i]?=some o->∀e∈o.after.toList,Region.binds .any e=true->e.on<i)(hpred:∀(i:Nat) (o:Oper),ops[i]?=some o->∀p∈preds.getD i [],∃e∈o.after.toList,Region.binds .any e=true/\(e.on=p\/p∈preds.getD e.on [])) : ∀(m2:List qzc) (k:Nat),(∀i,k<i->i<N->∀j,j<i->j∈preds.getD i [])->yzf P ops (ops.toList.drop k) m2=true->∀(fuel:Nat) (listed:Array Bool),listed.size=N->(∀j,listed.getD j false=decide (j<k))->k<=N->N-k<=fuel -> ∀{K:ASt->Prop} {S:ASt} {g:Gh} {a:Act} {w:World},SR E g S a w->aseq E P m2 S K->(∀a' w',(∃g' S',K S'/\SR E g' S' a' w'/\Stp g S.h w g' S'.h w')->Q .normal a' w')->wpAnyIn (FW U) 0 P .any ops Q fuel listed a w:=by
 intro m2;induction m2 with
 |nil =>
  intro k hlin hc fuel listed hs hl hkN hf K S g a w hsr h hq
  have hk:k=N:=by
   have:ops.toList.drop k=[]:=by
    cases h:ops.toList.drop k with
    |nil=>rfl
    |cons x r=>rw[h]at hc;cases hc
   have:=Ga5.1 this;simp at this;omega
  have hr:Region.ready .any ops listed=[]:=by
   cases h:Region.ready .any ops listed with
   |nil=>rfl
   |cons i r =>have hi:i∈Region.ready .any ops listed:=(by rw[h];exact Gb5 ..);obtain⟨o,ho,h2,_⟩:=qzmd.1 hi;have hiN:i<N:=(by rw[<-hn];exact(Gac.1 ho).1);rw[qzfh hs hiN,hl]at h2;simp at h2;omega
  obtain⟨S',h1,h2⟩:=h;obtain⟨g',hs',st⟩:=h1 g a w hsr;have hQ:=hq a w ⟨g',S',h2,hs',st⟩;cases fuel with
  |zero=>exact⟨hr,hQ⟩
  |succ fuel=>exact⟨fun _=>hQ,fun i hi=>by rw[hr]at hi;cases hi⟩
 |cons ao m2 ih =>
  intro k hlin hc fuel listed hs hl hkN hf K S g a w hsr h hq
  have hkN':k<N:=by
   rcases Gc3 k N with h|h
   ·exact h
   ·rw[List.drop_eq_nil_of_le (by simp;omega)]at hc;cases hc
  have hks:k<ops.size:=by omega
  have hdrop:ops.toList.drop k=ops[k] :: ops.toList.drop (k+1):=by rw[Ga4 (by simpa using hks)];simp
  rw[hdrop]at hc;simp only[yzf,Gai]at hc;cases fuel with
  |zero=>omega
  |succ fuel =>
   have hk:k∈Region.ready .any ops listed:=qzmd.2 ⟨ops[k],by simp[hks],by rw[qzfh hs hkN',hl];simp,fun e he hb=>by rw[hl];simpa using hedge k _ (by simp[hks]) e he hb⟩;refine⟨fun hr=>(by rw[hr]at hk;cases hk),fun i hi=>?_⟩;obtain⟨o,ho,h2,h3⟩:=qzmd.1 hi;have hiN:i<N:=by rw[<-hn];exact(Gac.1 ho).1
   rw[qzfh hs hiN,hl]at h2;have hik:k<=i:=by simpa using h2
   have hp:∀p∈preds.getD i [],∃q,p<=q/\listed.getD q false=true:=fun p hpp=>by
    obtain⟨e,he,hb,h4⟩:=hpred i o ho p hpp;rcases h4 with rfl|h4
    ·exact⟨_,Gcy _,h3 e he hb⟩
    ·rcases Gc3 e.on p with h5|h5
     ·exfalso;have hes:e.on<ops.size:=by have:=hedge i o ho e he hb;omega
      have hq2:∀(x:Nat),x<ops.size->∀p∈preds.getD x [],p<x:=fun x=>by
       induction x using Nat.strongRecOn with
       |ind x ihx =>
        intro hx p hp;obtain⟨e',he',hb',h6⟩:=hpred x ops[x] (by simp[hx]) p hp;have h7:=hedge x ops[x] (by simp[hx]) e' he' hb';rcases h6 with rfl|h6
        ·exact h7
        ·have:=ihx e'.on h7 (by omega) p h6;omega
      have:=hq2 e.on hes p h4;omega
     ·exact⟨_,h5,h3 e he hb⟩
   have hie:i=k:=by
    rcases Gc3 k i with h5|h5
    ·exfalso;obtain⟨q,hq1,hq2⟩:=hp k (hlin i h5 hiN k h5);rw[hl]at hq2;simp at hq2;omega
    ·omega
   subst hie;have eo:o=ops[i]:=by have:ops[i]?=some ops[i]:=(by simp[hks]);rw[this]at ho;cases ho;rfl
   subst eo;obtain⟨S1,s1,h⟩:=h;obtain⟨g1,hs1,st1⟩:=s1 g a w hsr;unfold wpOpIn;simp only[ho];have h1:=qzmc (U:=U) (Q:=Q) hc.1 h hs1
   have imp:∀a' w',(∃g' S',aseq E P m2 S' K/\SR E g' S' a' w'/\Stp g1 S1.h w g' S'.h w')->wpAnyIn (FW U) 0 P .any ops Q fuel (listed.setIfInBounds i true) a' w':=by
    rintro a' w' ⟨g',S',h2',hs',st'⟩;refine ih (i+1) (fun i' h6=>hlin i' (by omega)) hc.2 fuel _ (by simp[hs]) (fun j=>?_) (by omega) (by omega) hs' h2' ?_
    ·by_cases e:j=i;·subst e;simp[Array.getD,hs,hiN]
     ·have e':¬i=j:=fun h=>e h.symm;have:(listed.setIfInBounds i true).getD j false=listed.getD j false:=(by by_cases hj:j<listed.size<;>simp[Array.getD,hj,e,e',Gaf]);rw[this,hl];simp only[decide_eq_decide];omega
    ·rintro a'' w'' ⟨g'',S'',hk,hs'',st''⟩;exact hq a'' w'' ⟨g'',S'',hk,hs'',st1.trans (st'.trans st'')⟩
   split at h1
   ·rename_i hw;rw[Gd4 hw];exact Oper.wpIn_mono imp h1
   ·rename_i hw;rw[Gd3 hw];exact⟨h1.1,imp _ _ h1.2⟩
def wz72(preds:List (List Nat))(n N:Nat):Bool:=(List.range N).all fun i=>decide (i<n)||(List.range i).all fun j=>(preds.getD i []).contains j
theorem wz7u:∀{l:List Oper} {m m2:List qzc},yzf P ops l (m++m2)=true->yzf P ops (l.drop m.length) m2=true/\yzf P ops (l.take m.length) m=true
 |l,[],m2,h=>⟨by simpa using h,by cases l<;>rfl⟩
 |[],_ :: _,_,h=>by cases h
 |o :: l,a :: m,m2,h=>by simp only[Ga1,yzf,Gai]at h;obtain⟨h1,h2⟩:=wz7u (l:=l) (m:=m) h.2;exact⟨by simpa using h1,by simp only[Gbr,List.take_succ_cons,yzf,Gai];exact⟨h.1,h2⟩⟩
theorem AWp.drawnB{id:Nat}{m2:List qzc}{Q:Exit->ASt->Prop}(hc:yzf P ops ops.toList (m++m2)=true)(hp:qzqz ops.toList preds=true)(he:qzg0 0 ops.toList=true)(hsl:qzqy (m++m2) preds=true) (hm:P.follows .mixedOrders=true) (hb:wz72 preds m.length (m++m2).length=true)(h:wzo8 E P m S (fun S' tr=>wz35 m preds tr=true/\aseq E P m2 S' (Q .normal))):AWp E U P (.region id ops true) Q S:=by
 obtain⟨hlen,hops⟩:=qzok hc;obtain⟨hc2,hc1⟩:=wz7u hc;obtain⟨V,R,O,hlex,hhp,hQ⟩:=wzna _ _ _ h;have hml:(m++m2).length=ops.size:=by rw[hlen];simp
 have hmn:m.length<=ops.size:=by rw[<-hml];simp
 simp only[wz72,Ga0,Gcb,Gas,Gdz,Ga2]at hb;simp only[qzqz,Gai,Gds,Ga0,Gcb,Gdz]at hp;obtain⟨hpl,hp⟩:=hp
 have hpi:∀i p,p∈preds.getD i []->i<ops.toList.length:=fun i p h=>by
  rcases Gc3 i ops.toList.length with h1|h1
  ·exact h1
  ·simp[List.getD,Gbf (show preds.length<=i by omega)]at h
 simp only[qzqy,Ga0,Gcb]at hsl;have up:∀{i:Nat} {o:qzc},m[i]?=some o->(m++m2)[i]?=some o:=fun {i o} h=>by rw[Gba (Gbg.1 h).1];exact h
 have D:qzr6 E P m preds S m.length V R O:=by
  refine⟨rfl,hlex,fun i j hj=>(hp i (hpi i j hj) j hj).1,?_,?_⟩
  ·intro i j oi oj d hi hj hne h1 h2 hd;have:=hsl i (Gbg.1 (up hi)).1 j (Gbg.1 (up hj)).1;rw[up hi,up hj]at this;have h1':j∉preds[i]?.getD []:=by simpa using h1
   have h2':i∉preds[j]?.getD []:=by simpa using h2
   simpa [hne,h1',h2',hd] using this
  ·exact jzcd hlex hhp
 have hedge:∀(i:Nat) (o:Oper),ops[i]?=some o->∀e∈o.after.toList,Region.binds .any e=true->e.on<i:=fun i o hi e hee hb=>by have:=qzuk he i o (by simpa using hi) e hee hb;omega
 have hpred:∀(i:Nat) (o:Oper),ops[i]?=some o->∀p∈preds.getD i [],∃e∈o.after.toList,Region.binds .any e=true/\(e.on=p\/p∈preds.getD e.on []):=fun i o hi p hpp=>by
  have h1:=(hp i (hpi i p hpp) p hpp).2;have hi':ops.toList[i]?=some o:=by simpa using hi
  rw[hi']at h1;simp only[List.any_eq_true,Gai,Gas,Gds,Ga2]at h1;obtain⟨e,h2,h3,h4⟩:=h1;exact⟨e,h2,h3,h4⟩
 have hbar:∀i,m.length<=i->i<ops.size->∀j,j<i->j∈preds.getD i []:=fun i h1 h2 j hj=>by
  rcases hb i (by omega) with h3|h3
  ·omega
  ·exact h3 j hj
 intro g a w hs;have hw:=hs.hr.heap (w':={ w with drawn:=w.drawn+1 }) rfl rfl rfl rfl;have hs':SR E g S a { w with drawn:=w.drawn+1 }:=⟨hw.1,hs.tm.mono hw.2.le,hs.df,hs.dk,hs.dn⟩;have stp0:Stp g S.h w g S.h { w with drawn:=w.drawn+1 }:=hw.2;refine wpIn_region_any hm ?_
 have e0:stL m V O S m.length (fun j=>(Array.replicate ops.size false).getD j false)=S:=by
  have:(fun j=>(Array.replicate ops.size false).getD j false)=(fun j=>decide (j<0)):=by funext j;by_cases hj:j<ops.size<;>simp[Array.getD,hj]
  rw[this,qzkp 0 (Gdl _)];rfl
 refine jzgl (U:=U) (g0:=g) (w0:=w) (Q:=fun e a' w'=>∃g' S',Q e S'/\SR E g' S' a' w'/\Stp g S.h w g' S'.h w') D rfl hmn (fun k o hk ho=>?_) hedge hpred (fun i h1 h2 j hj=>hbar i h1 h2 j (by omega)) ?_
  ops.size (Array.replicate ops.size false) (by simp) (fun j hj=>?_) (fun j hj=>?_) ⟨List.range m.length,fun j hj _=>by simpa using hj,by simp;omega⟩ g a _ (by rw[e0];exact hs') (by rw[e0];exact stp0)
 ·obtain⟨ao,h1,h2⟩:=hops k o (by simpa using ho);rw[Gba hk]at h1;exact⟨ao,h1,h2⟩
 ·intro fuel listed hls hl hf g' a' w' hs2 st2;exact jzg6 (U:=U) (m2:=m2) rfl hedge hpred m.length (fun i h1 h2 j hj=>hbar i (by omega) h2 j hj) hc2 fuel listed hls hl hmn hf hs2 hQ fun a'' w'' ⟨g'',S'',q1,q2,q3⟩=>⟨g'',S'',q1,q2,st2.trans q3⟩
 ·by_cases h1:j<ops.size<;>simp[Array.getD,h1]
 ·by_cases h1:j<ops.size<;>simp[Array.getD,h1]at hj
theorem AW.drawB{m2:List qzc}{Q:Exit->ASt->Prop}{pr:List (List Nat)}(hb:wz72 pr m.length (m++m2).length=true)(h:wzo8 E P m S (fun S' tr=>wz35 m pr tr=true/\aseq E P m2 S' (Q .normal))):AW E U P (.reg true (m++m2) pr) Q S:=by
 intro code hc
 match code,hc with
 |.region id l false,hc=>simp[qzg]at hc
 |.region id l true,hc =>simp only[qzg,Gai]at hc;exact .drawnB hc.1.1.1.1 hc.1.1.1.2 hc.1.1.2 hc.1.2 hc.2 hb h
 |.skip,hc=>simp[qzg]at hc
 |.seq _ _,hc=>simp[qzg]at hc
 |.cond _ _ _,hc=>simp[qzg]at hc
 |.block _ _,hc=>simp[qzg]at hc
 |.loop _,hc=>simp[qzg]at hc
 |.rangeFunc _ _ _ _,hc=>simp[qzg]at hc
 |.exit _,hc=>simp[qzg]at hc
 |.scope _,hc=>simp[qzg]at hc
 |.label _,hc=>simp[qzg]at hc
 |.goto _,hc=>simp[qzg]at hc
 |.ret,hc=>simp[qzg]at hc
 |.refuse _,hc=>simp[qzg]at hc
theorem AWp.post{c:Code}{Q Q':Exit->ASt->Prop}(h:AWp E U P c Q S)(hq:∀e S',Q e S'->∃S'',See E S' S''/\Q' e S''):AWp E U P c Q' S:=fun g a w hs=>wpIn_mono (h g a w hs) fun e a' w' ⟨g',S',q,hs',st⟩=>by obtain⟨S'',s,q'⟩:=hq e S' q;obtain⟨g'',hs'',st'⟩:=s g' a' w' hs';exact⟨g'',S'',q',hs'',st.trans st'⟩
theorem AW.post{c:qzk}{Q Q':Exit->ASt->Prop}(h:AW E U P c Q S)(hq:∀e S',Q e S'->∃S'',See E S' S''/\Q' e S''):AW E U P c Q' S:=fun code hc=>(h code hc).post hq
end
structure Csm(E:Nat->AVal)(P:Program){A:Type}(aA:A->List AVal)(st:List A->Option Bool)(L e:Nat)(HC HX:List A->qzl->Prop):Prop where
 loc:∀l h h',(∀i,i<1000\/2000<=i->h' i=h i)->HC l h->HC l h'
 lox:∀l h h',(∀i,i<1000\/2000<=i->h' i=h i)->HX l h->HX l h'
 round:∀l x s h,HC l h->st (l++[x])=some s->qzhp E P L e (aA x) h fun v h'=>v=.bool (!s)/\(s=false->HC (l++[x]) h')/\(s=true->HX (l++[x]) h')/\∀i,1000<=i->i<2000->h' i=h i
def SqOk(E:Nat->AVal)(P:Program){A:Type}(f:FuncId)(caps:List AVal)(aA:A->List AVal)(st:List A->Option Bool)(l:List A):Prop :=
 kzz P f=true/\∀(L e:Nat) (HC HX:List A->qzl->Prop),Csm E P aA st L e HC HX->∀h,HC [] h->(∀i,1000<=i->i<2000->∃e,h i=.gone e)->ATr E P f (.yld L e :: caps) h fun v h'=>HC l h'\/HX l h'
open Go.Sort Go.Proofs
def jzpb(l:List Int):List Int:=l.mergeSort fun x y=>decide (x<=y)
def jzof(n:Nat)(a:Nat->Int):List Int:=(List.range n).map a
theorem jzr6(n:Nat)(a:Nat->Int):(jzof n a).length=n:=by simp[jzof]
theorem jzt0{E:Nat->AVal}{P:Program}{U:Go.Shelf.Ren}(Ly:Lays.n189 P U){h:qzl}{id ep n:Nat}{f:Nat->List AVal}{a:Nat->Int}(hid:h id=.vec ep 1 n f)(hn:0<n)(hn2:n<4611686018427387904)(hf:∀k,k<n->f k=[.int .i64 (a k)]) :
  ATr E P (U.f 189) [.vec id ep 0 n] h (fun r h'=>r=.tup []/\h'=hset h id (.vec ep 1 n (fun k=>[.int .i64 ((jzpb (jzof n a)).getD k 0)]))):=by
 intro g w vs H hv
 obtain⟨v,rfl⟩:∃v,vs=[v]:=by
  have:=hv.1
  match vs,this with
  |[v],_=>exact⟨v,rfl⟩
 have hrv:RV g w (.vec id ep 0 n) v:=hv.2 0 _ _ rfl rfl;have hep:g.ep id=ep:=by rw[H.ep id,hid];rfl
 cases hrv with
 |vec _ _ _ _ _ h1 he hV =>
 obtain⟨ad,cap,rfl,hcap,hor⟩:=hV hep.symm;have ho:=H.obj id;rw[hid]at ho;obtain⟨hst,_,hncp,arr,ty,hheap,hsize,hcells⟩:=ho;rcases hor with e0|⟨rfl,hcp⟩
 ·omega
 have hlen:(jzof n a).length=n:=jzr6 n a;have how:(h id).owned=true:=by rw[hid];rfl
 have hcell:∀j,j<n->arr[g.bo id+j]?=some (.int .i64 (a j)):=by
  intro j hj;have hlt:g.bo id+j<arr.size:=by omega
  have h3:=(hcells j hj).2 0 (.int .i64 (a j)) arr[g.bo id+j] (by rw[hf j hj];rfl) (by simp[Gab hlt]);rw[Gab hlt,jzy h3.2]
 have hoff:(⟨g.blk id,g.bo id+0*g.st id,none⟩:Addr)=⟨g.blk id,g.bo id,none⟩:=by simp
 have hblk:g.blk id<w.heap.size:=(Gac.1 hheap).1
 have hH:Holds (Value.int .i64) w (g.blk id) (g.bo id) (jzof n a).toArray:=by
  intro j hj;have hj':j<n:=by simpa [hlen] using hj
  refine⟨?_,by simp[World.frozen?,hheap]⟩;simp only[World.cell?,hheap];simp only[Option.isSome_none,Gan,Gd2];rw[hcell j hj'];have hja:j<(jzof n a).toArray.size:=by simpa [hlen] using hj'
  rw[getElem!_pos (jzof n a).toArray j hja];simp[jzof]
 have main:=Any.slices_Sort_int Ly (g.blk id) (g.bo id) cap (jzof n a) w hH hblk (by rw[hlen];exact hn2);rw[hlen]at main;rw[hoff];refine main.mono ?_;rintro e w' ⟨rfl,m,os,rfl⟩;have hml:(jzpb (jzof n a)).length=n:=by unfold jzpb;rw[List.length_mergeSort,hlen]
 have hsz:w.heap.size<=(grow (putRow (Value.int .i64) (Sort.ahead w m) (g.blk id) (g.bo id) (jzpb (jzof n a)).toArray) os).heap.size:=by rw[size_grow];simp[putRow,mapBlock,Sort.ahead]
 have hold:∀b,b<w.heap.size->b≠g.blk id->(grow (putRow (Value.int .i64) (Sort.ahead w m) (g.blk id) (g.bo id) (jzpb (jzof n a)).toArray) os).heap[b]?=w.heap[b]?:=by intro b hb hne;rw[heap_grow_old _ _ (by simpa [putRow,mapBlock,Sort.ahead] using hb)];have:g.blk id≠b:=fun e=>hne e.symm;simp[putRow,mapBlock,Sort.ahead,Gad,this]
 have hnew:(grow (putRow (Value.int .i64) (Sort.ahead w m) (g.blk id) (g.bo id) (jzpb (jzof n a)).toArray) os).heap[g.blk id]?=some (.cells (putCells (Value.int .i64) (g.bo id) (jzpb (jzof n a)).toArray arr) ty (0,0)):=by rw[heap_grow_old _ _ (by simpa [putRow,mapBlock,Sort.ahead] using hblk)];simp[putRow,mapBlock,Sort.ahead,Gad,hheap,onCells]
 have hle:GLe g w g (grow (putRow (Value.int .i64) (Sort.ahead w m) (g.blk id) (g.bo id) (jzpb (jzof n a)).toArray) os) := ⟨fun b hb=>⟨hb,hold b (H.fzb b hb) (fun e=>H.sep id how (e▸hb))⟩,fun _=>Gcy _,fun _ _=>⟨rfl,rfl,rfl,rfl⟩⟩
 have hor:OR g (grow (putRow (Value.int .i64) (Sort.ahead w m) (g.blk id) (g.bo id) (jzpb (jzof n a)).toArray) os) id (.vec ep 1 n (fun k=>[.int .i64 ((jzpb (jzof n a)).getD k 0)])):=by
  refine⟨hst,by omega,hncp,_,ty,hnew,by simpa [putCells] using hsize,fun k hk=>⟨rfl,fun j x v hx hv=>?_⟩⟩
  have hj:j=0:=by
   cases j with
   |zero=>rfl
   |succ j=>simp at hx
  subst hj;simp only[Gbc,Gdq]at hx;subst hx;have hka:g.bo id+k<arr.size:=by omega
  have:v=.int .i64 ((jzpb (jzof n a)).getD k 0):=by
   simp only[putCells,Array.getElem?_mapIdx,Nat.mul_one,Gcn,Gab hka,Gdo,Gdq]at hv;rw[Gd4 ⟨by omega,by simp[hml];omega⟩]at hv;rw[<-hv];have hk':k<(jzpb (jzof n a)).length:=by omega
   have e1:g.bo id+k-g.bo id=k:=by omega
   rw[e1];have hja:k<(jzpb (jzof n a)).toArray.size:=by simpa using hk'
   rw[getElem!_pos (jzpb (jzof n a)).toArray k hja];simp[List.getD,Gbe hk']
  subst this;exact⟨rfl,.int _ _⟩
 obtain⟨H',S'⟩:=HR.upd (E:=E) (g':=g) (i:=id) (o':=.vec ep 1 n (fun k=>[.int .i64 ((jzpb (jzof n a)).getD k 0)])) H hle (fun _ _=>rfl) hep (fun b hb hn=>hold b hb (hn how)) hsz hor (fun _=>.inl ⟨how,rfl⟩) (fun _=>H.sep id how) (fun b hb=>.inl hb) (fun b hb=>Gc2 (H.fzb b hb) hsz) rfl rfl rfl (by show w.drawn<=w.drawn+m;omega);exact⟨g,_,.tup [],.tuple #[],⟨rfl,rfl⟩,rfl,.tup [] #[] rfl (fun i x v hx _=>by simp at hx),H',S'⟩
open Go.Sort Go.Proofs Go.Shelf
end Go.Am

