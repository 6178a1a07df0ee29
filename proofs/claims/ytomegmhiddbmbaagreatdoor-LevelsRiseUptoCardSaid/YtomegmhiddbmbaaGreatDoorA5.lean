/- Part A5 of the proof that the last part closes: an abstract machine proved sound over the calculus of the guide. No condition. -/
import Derived.Test.YtomegmhiddbmbaaGreatDoorA4
import Derived.Shelf.SlSortCmp.WholeK
import Derived.Shelf.SlicesE.Reverse
set_option linter.unusedSimpArgs false
set_option linter.unusedVariables false
namespace Go.Am
section
variable {E:Nat→AVal}{P:Program}{ρ:Option Nat}{m:List qzc}{preds:List (List Nat)}{S:ASt}{n:Nat}{V:Nat→AVal}{R:Nat→List Nat}{O:Nat→Option (Nat×AObj)}
def aseq(E:Nat→AVal)(P:Program):List qzc→ASt→(ASt→Prop)→Prop
 |[],S,K=>∃S',See E S S'∧K S'
 |o :: r,S,K=>∃S1,See E S S1∧aop E P o S1 (fun S2=>aseq E P r S2 K)
theorem aseq.see{S':ASt}{K:ASt→Prop}(s:See E S S')(h:aseq E P m S' K):aseq E P m S K:=by
 cases m with
 |nil=>obtain⟨S1,h1,h2⟩:=h;exact⟨S1,s.trans h1,h2⟩
 |cons o m=>obtain⟨S1,h1,h2⟩:=h;exact⟨S1,s.trans h1,h2⟩
theorem aseq.mono:∀{m:List qzc} {S:ASt} {K K':ASt→Prop},aseq E P m S K→(∀S',K S'→K' S')→aseq E P m S K'
 |[],S,K,K',⟨S',h1,h2⟩,hk=>⟨S',h1,hk _ h2⟩
 |o :: m,S,K,K',⟨S1,h1,h2⟩,hk=>⟨S1,h1,h2.mono fun _ h=>h.mono hk⟩
theorem SReg.nilS{K:ASt→Prop}{S':ASt}(s:See E S S')(h:K S'):SReg E P [] S K:=.see s (.nil h)
theorem aseq.sreg:∀{m:List qzc} {S:ASt} {K:ASt→Prop},aseq E P m S K→SReg E P m S K
 |[],S,K,⟨S',h1,h2⟩=>.nilS h1 h2
 |o :: m,S,K,⟨S1,h1,h2⟩=>.see h1 (.cons (h2.mono fun _ h=>h.sreg))
variable {ops:Array Oper}{Q:Exit→Act→World→Prop}
theorem jzgl{N:Nat}{g0:Gh}{w0:World}(D:qzr6 E P m preds S n V R O)(hn:ops.size=N)(hnN:n≤N)(hops:∀(k:Nat) (o:Oper),k<n→ops[k]?=some o→∃ao,m[k]?=some ao∧qzct P ops o ao=true)
  (hedge:∀(i:Nat) (o:Oper),ops[i]?=some o→∀e∈o.after.toList,Region.binds .any e=true→e.on<i)
  (hpred:∀(i:Nat) (o:Oper),ops[i]?=some o→∀p∈preds.getD i [],∃e∈o.after.toList,Region.binds .any e=true∧(e.on=p∨p∈preds.getD e.on []))
  (hbar:∀i,n≤i→i<N→∀j,j<n→j∈preds.getD i [])
  (next:∀(fuel:Nat) (listed:Array Bool),listed.size=N→(∀j,listed.getD j false=decide (j<n))→N-n≤fuel→∀g' a' w',SR E g' (lx m V O S n) a' w'→Stp g0 S.h w0 g' (lx m V O S n).h w'→wpAnyIn (FW ρ) 0 P .any ops Q fuel listed a' w') :
  ∀(fuel:Nat) (listed:Array Bool),listed.size=N→(∀j,n≤j→listed.getD j false=false)→(∀j,listed.getD j false=true→∀p∈preds.getD j [],listed.getD p false=true) →
   (∃l:List Nat,(∀j,j<n→listed.getD j false=false→j∈l)∧l.length+(N-n)≤fuel)→∀(g:Gh) (a:Act) (w:World),SR E g (stL m V O S n (fun j=>listed.getD j false)) a w →
   Stp g0 S.h w0 g (stL m V O S n (fun j=>listed.getD j false)).h w→wpAnyIn (FW ρ) 0 P .any ops Q fuel listed a w:=by
 have fin:∀(listed:Array Bool),(∀j,j<n→listed.getD j false=true)→stL m V O S n (fun j=>listed.getD j false)=lx m V O S n:=fun listed h=>by
  rw[←wzc8]
  have et:(stL m V O S n (fun j=>listed.getD j false)).t=(stL m V O S n (fun _=>true)).t:=List.map_congr_left fun x _=>yzr n fun j hj _=>h j hj
  have eh:(stL m V O S n (fun j=>listed.getD j false)).h=(stL m V O S n (fun _=>true)).h:=by funext id;exact yzr n fun j hj _=>h j hj
  exact ASt.eq et eh rfl
 have done:∀(fuel:Nat) (listed:Array Bool),listed.size=N→(∀j,n≤j→listed.getD j false=false)→(∀j,j<n→listed.getD j false=true)→N-n≤fuel→∀(g:Gh) (a:Act) (w:World),SR E g (stL m V O S n (fun j=>listed.getD j false)) a w →
   Stp g0 S.h w0 g (stL m V O S n (fun j=>listed.getD j false)).h w→wpAnyIn (FW ρ) 0 P .any ops Q fuel listed a w:=fun fuel listed hs h1 h2 hf g a w hsr st=>by
  rw[fin listed h2]at hsr st
  refine next fuel listed hs (fun j=>?_) hf g a w hsr st
  by_cases e:j<n
  ·rw[h2 j e];simp[e]
  ·rw[h1 j (by omega)];simp[e]
 intro fuel
 induction fuel with
 |zero =>
  intro listed hs hlo hc hf g a w hsr st
  obtain⟨l,hl,hlen⟩:=hf
  have hl0:l=[]:=by cases l<;>simp at hlen ⊢
  have all:∀j,j<n→listed.getD j false=true:=fun j hj=>by
   cases h:listed.getD j false with
   |true=>rfl
   |false=>have:=hl j hj h;rw[hl0]at this;cases this
  exact done 0 listed hs hlo all (by omega) g a w hsr st
 |succ fuel ih =>
  intro listed hs hlo hc hf g a w hsr st
  by_cases hall:∀j,j<n→listed.getD j false=true
  ·obtain⟨l,_,hlen⟩:=hf
   exact done _ listed hs hlo hall (by omega) g a w hsr st
  have some_ready:Region.ready .any ops listed≠[]:=fun hr=>by
   refine hall ?_
   intro j
   induction j using Nat.strongRecOn with
   |ind j ih2 =>
    intro hj
    cases hl:listed.getD j false with
    |true=>rfl
    |false =>
     have hjs:j<ops.size:=by omega
     have:j∈Region.ready .any ops listed:=qzmd.2 ⟨ops[j],by simp[hjs],by rw[qzfh hs (by omega)];exact hl,fun e he hb=>ih2 e.on (hedge j _ (by simp[hjs]) e he hb) (by have:=hedge j ops[j] (by simp[hjs]) e he hb;omega)⟩
     rw[hr]at this
     cases this
  refine⟨fun hr=>absurd hr some_ready,fun i hi=>?_⟩
  obtain⟨o,ho,h2,h3⟩:=qzmd.1 hi
  have hiN:i<N:=by rw[←hn];exact(Array.getElem?_eq_some_iff.1 ho).1
  rw[qzfh hs hiN]at h2
  have hp:∀p∈preds.getD i [],listed.getD p false=true:=fun p hpp=>by
   obtain⟨e,he,hb,h4⟩:=hpred i o ho p hpp
   rcases h4 with rfl|h4
   ·exact h3 e he hb
   ·exact hc e.on (h3 e he hb) p h4
  have hin:i<n:=by
   rcases Nat.lt_or_ge i n with h|h
   ·exact h
   ·exact absurd (fun j hj=>hp j (hbar i h hiN j hj)) hall
  obtain⟨ao,hao,hck⟩:=hops i o hin ho
  obtain⟨hst,hpush⟩:=D.at (L:=fun j=>listed.getD j false) hc hao h2 hp
  have hL':∀j,(listed.setIfInBounds i true).getD j false=(listed.getD j false||j==i):=fun j=>by
   by_cases e:j=i
   ·subst e;simp[Array.getD,hs,hiN]
   ·have e':¬i=j:=fun h=>e h.symm
    by_cases hj:j<listed.size<;>simp[Array.getD,hj,e,e',Array.getElem_setIfInBounds]
  have hnew:=hpush (fun j=>(listed.setIfInBounds i true).getD j false) hL'
  unfold wpOpIn
  simp only[ho]
  refine qzut hck hst hsr fun g' a' w' hs' st'=>?_
  refine ih _ (by simp[hs]) (fun j hj=>?_) (fun j hj p hpp=>?_) ?_ g' a' w' (by rw[hnew];exact hs') (by rw[hnew];exact st.trans st')
  ·rw[hL',hlo j hj]
   have:j≠i:=by omega
   simp[this]
  ·rw[hL']at hj ⊢
   by_cases e:j=i
   ·subst e;rw[hp p hpp];rfl
   ·have:listed.getD j false=true:=by simpa [e] using hj
    rw[hc j this p hpp];rfl
  ·obtain⟨l,hl,hlen⟩:=hf
   have hil:=hl i hin h2
   refine⟨l.erase i,fun j hj h=>?_,?_⟩
   ·rw[hL']at h
    have hne:j≠i:=fun e=>by subst e;simp at h
    exact(List.mem_erase_of_ne hne).2 (hl j hj (by simpa [hne] using h))
   ·have:=List.length_erase_of_mem hil
    have:0<l.length:=List.length_pos_of_mem hil
    omega
theorem jzg6{N:Nat}(hn:ops.size=N)
  (hedge:∀(i:Nat) (o:Oper),ops[i]?=some o→∀e∈o.after.toList,Region.binds .any e=true→e.on<i)
  (hpred:∀(i:Nat) (o:Oper),ops[i]?=some o→∀p∈preds.getD i [],∃e∈o.after.toList,Region.binds .any e=true∧(e.on=p∨p∈preds.getD e.on [])) :
  ∀(m2:List qzc) (k:Nat),(∀i,k<i→i<N→∀j,j<i→j∈preds.getD i [])→yzf P ops (ops.toList.drop k) m2=true→∀(fuel:Nat) (listed:Array Bool),listed.size=N→(∀j,listed.getD j false=decide (j<k))→k≤N→N-k≤fuel →
   ∀{K:ASt→Prop} {S:ASt} {g:Gh} {a:Act} {w:World},SR E g S a w→aseq E P m2 S K→(∀a' w',(∃g' S',K S'∧SR E g' S' a' w'∧Stp g S.h w g' S'.h w')→Q .normal a' w')→wpAnyIn (FW ρ) 0 P .any ops Q fuel listed a w:=by
 intro m2
 induction m2 with
 |nil =>
  intro k hlin hc fuel listed hs hl hkN hf K S g a w hsr h hq
  have hk:k=N:=by
   have:ops.toList.drop k=[]:=by
    cases h:ops.toList.drop k with
    |nil=>rfl
    |cons x r=>rw[h]at hc;cases hc
   have:=List.drop_eq_nil_iff.1 this
   simp at this
   omega
  have hr:Region.ready .any ops listed=[]:=by
   cases h:Region.ready .any ops listed with
   |nil=>rfl
   |cons i r =>
    have hi:i∈Region.ready .any ops listed:=by rw[h];exact List.mem_cons_self ..
    obtain⟨o,ho,h2,_⟩:=qzmd.1 hi
    have hiN:i<N:=by rw[←hn];exact(Array.getElem?_eq_some_iff.1 ho).1
    rw[qzfh hs hiN,hl]at h2
    simp at h2;omega
  obtain⟨S',h1,h2⟩:=h
  obtain⟨g',hs',st⟩:=h1 g a w hsr
  have hQ:=hq a w ⟨g',S',h2,hs',st⟩
  cases fuel with
  |zero=>exact⟨hr,hQ⟩
  |succ fuel=>exact⟨fun _=>hQ,fun i hi=>by rw[hr]at hi;cases hi⟩
 |cons ao m2 ih =>
  intro k hlin hc fuel listed hs hl hkN hf K S g a w hsr h hq
  have hkN':k<N:=by
   rcases Nat.lt_or_ge k N with h|h
   ·exact h
   ·rw[List.drop_eq_nil_of_le (by simp;omega)]at hc;cases hc
  have hks:k<ops.size:=by omega
  have hdrop:ops.toList.drop k=ops[k] :: ops.toList.drop (k+1):=by
   rw[List.drop_eq_getElem_cons (by simpa using hks)];simp
  rw[hdrop]at hc
  simp only[yzf,Bool.and_eq_true]at hc
  cases fuel with
  |zero=>omega
  |succ fuel =>
   have hk:k∈Region.ready .any ops listed:=qzmd.2 ⟨ops[k],by simp[hks],by rw[qzfh hs hkN',hl];simp,fun e he hb=>by rw[hl];simpa using hedge k _ (by simp[hks]) e he hb⟩
   refine⟨fun hr=>(by rw[hr]at hk;cases hk),fun i hi=>?_⟩
   obtain⟨o,ho,h2,h3⟩:=qzmd.1 hi
   have hiN:i<N:=by rw[←hn];exact(Array.getElem?_eq_some_iff.1 ho).1
   rw[qzfh hs hiN,hl]at h2
   have hik:k≤i:=by simpa using h2
   have hp:∀p∈preds.getD i [],∃q,p≤q∧listed.getD q false=true:=fun p hpp=>by
    obtain⟨e,he,hb,h4⟩:=hpred i o ho p hpp
    rcases h4 with rfl|h4
    ·exact⟨_,Nat.le_refl _,h3 e he hb⟩
    ·rcases Nat.lt_or_ge e.on p with h5|h5
     ·exfalso
      have hes:e.on<ops.size:=by have:=hedge i o ho e he hb;omega
      have hq2:∀(x:Nat),x<ops.size→∀p∈preds.getD x [],p<x:=fun x=>by
       induction x using Nat.strongRecOn with
       |ind x ihx =>
        intro hx p hp
        obtain⟨e',he',hb',h6⟩:=hpred x ops[x] (by simp[hx]) p hp
        have h7:=hedge x ops[x] (by simp[hx]) e' he' hb'
        rcases h6 with rfl|h6
        ·exact h7
        ·have:=ihx e'.on h7 (by omega) p h6;omega
      have:=hq2 e.on hes p h4
      omega
     ·exact⟨_,h5,h3 e he hb⟩
   have hie:i=k:=by
    rcases Nat.lt_or_ge k i with h5|h5
    ·exfalso
     obtain⟨q,hq1,hq2⟩:=hp k (hlin i h5 hiN k h5)
     rw[hl]at hq2
     simp at hq2;omega
    ·omega
   subst hie
   have eo:o=ops[i]:=by
    have:ops[i]?=some ops[i]:=by simp[hks]
    rw[this]at ho;cases ho;rfl
   subst eo
   obtain⟨S1,s1,h⟩:=h
   obtain⟨g1,hs1,st1⟩:=s1 g a w hsr
   unfold wpOpIn
   simp only[ho]
   have h1:=qzmc (ρ:=ρ) (Q:=Q) hc.1 h hs1
   have imp:∀a' w',(∃g' S',aseq E P m2 S' K∧SR E g' S' a' w'∧Stp g1 S1.h w g' S'.h w')→wpAnyIn (FW ρ) 0 P .any ops Q fuel (listed.setIfInBounds i true) a' w':=by
    rintro a' w' ⟨g',S',h2',hs',st'⟩
    refine ih (i+1) (fun i' h6=>hlin i' (by omega)) hc.2 fuel _ (by simp[hs]) (fun j=>?_) (by omega) (by omega) hs' h2' ?_
    ·by_cases e:j=i
     ·subst e;simp[Array.getD,hs,hiN]
     ·have e':¬i=j:=fun h=>e h.symm
      have:(listed.setIfInBounds i true).getD j false=listed.getD j false:=by
       by_cases hj:j<listed.size<;>simp[Array.getD,hj,e,e',Array.getElem_setIfInBounds]
      rw[this,hl]
      simp only[decide_eq_decide];omega
    ·rintro a'' w'' ⟨g'',S'',hk,hs'',st''⟩
     exact hq a'' w'' ⟨g'',S'',hk,hs'',st1.trans (st'.trans st'')⟩
   split at h1
   ·rename_i hw;rw[if_pos hw];exact Oper.wpIn_mono imp h1
   ·rename_i hw;rw[if_neg hw];exact⟨h1.1,imp _ _ h1.2⟩
def wz72(preds:List (List Nat))(n N:Nat):Bool:=(List.range N).all fun i=>decide (i<n)||(List.range i).all fun j=>(preds.getD i []).contains j
theorem wz7u:∀{l:List Oper} {m m2:List qzc},yzf P ops l (m++m2)=true→yzf P ops (l.drop m.length) m2=true∧yzf P ops (l.take m.length) m=true
 |l,[],m2,h=>⟨by simpa using h,by cases l<;>rfl⟩
 |[],_ :: _,_,h=>by cases h
 |o :: l,a :: m,m2,h=>by
  simp only[List.cons_append,yzf,Bool.and_eq_true]at h
  obtain⟨h1,h2⟩:=wz7u (l:=l) (m:=m) h.2
  exact⟨by simpa using h1,by simp only[List.length_cons,List.take_succ_cons,yzf,Bool.and_eq_true];exact⟨h.1,h2⟩⟩
theorem AWp.drawnB{id:Nat}{m2:List qzc}{Q:Exit→ASt→Prop}(hc:yzf P ops ops.toList (m++m2)=true)(hp:qzqz ops.toList preds=true)(he:qzg0 0 ops.toList=true)
  (hsl:qzqy (m++m2) preds=true) (hm:P.follows .mixedOrders=true) (hb:wz72 preds m.length (m++m2).length=true)
  (h:wzo8 E P m S (fun S' tr=>wz35 m preds tr=true∧aseq E P m2 S' (Q .normal))):AWp E ρ P (.region id ops true) Q S:=by
 obtain⟨hlen,hops⟩:=qzok hc
 obtain⟨hc2,hc1⟩:=wz7u hc
 obtain⟨V,R,O,hlex,hhp,hQ⟩:=wzna _ _ _ h
 have hml:(m++m2).length=ops.size:=by rw[hlen];simp
 have hmn:m.length≤ops.size:=by rw[←hml];simp
 simp only[wz72,List.all_eq_true,List.mem_range,Bool.or_eq_true,decide_eq_true_eq,List.contains_iff_mem]at hb
 simp only[qzqz,Bool.and_eq_true,beq_iff_eq,List.all_eq_true,List.mem_range,decide_eq_true_eq]at hp
 obtain⟨hpl,hp⟩:=hp
 have hpi:∀i p,p∈preds.getD i []→i<ops.toList.length:=fun i p h=>by
  rcases Nat.lt_or_ge i ops.toList.length with h1|h1
  ·exact h1
  ·simp[List.getD,List.getElem?_eq_none (show preds.length≤i by omega)]at h
 simp only[qzqy,List.all_eq_true,List.mem_range]at hsl
 have up:∀{i:Nat} {o:qzc},m[i]?=some o→(m++m2)[i]?=some o:=fun {i o} h=>by
  rw[List.getElem?_append_left (List.getElem?_eq_some_iff.1 h).1];exact h
 have D:qzr6 E P m preds S m.length V R O:=by
  refine⟨rfl,hlex,fun i j hj=>(hp i (hpi i j hj) j hj).1,?_,?_⟩
  ·intro i j oi oj d hi hj hne h1 h2 hd
   have:=hsl i (List.getElem?_eq_some_iff.1 (up hi)).1 j (List.getElem?_eq_some_iff.1 (up hj)).1
   rw[up hi,up hj]at this
   have h1':j∉preds[i]?.getD []:=by simpa using h1
   have h2':i∉preds[j]?.getD []:=by simpa using h2
   simpa [hne,h1',h2',hd] using this
  ·exact jzcd hlex hhp
 have hedge:∀(i:Nat) (o:Oper),ops[i]?=some o→∀e∈o.after.toList,Region.binds .any e=true→e.on<i:=fun i o hi e hee hb=>by have:=qzuk he i o (by simpa using hi) e hee hb;omega
 have hpred:∀(i:Nat) (o:Oper),ops[i]?=some o→∀p∈preds.getD i [],∃e∈o.after.toList,Region.binds .any e=true∧(e.on=p∨p∈preds.getD e.on []):=fun i o hi p hpp=>by
  have h1:=(hp i (hpi i p hpp) p hpp).2
  have hi':ops.toList[i]?=some o:=by simpa using hi
  rw[hi']at h1
  simp only[List.any_eq_true,Bool.and_eq_true,Bool.or_eq_true,beq_iff_eq,List.contains_iff_mem]at h1
  obtain⟨e,h2,h3,h4⟩:=h1
  exact⟨e,h2,h3,h4⟩
 have hbar:∀i,m.length≤i→i<ops.size→∀j,j<i→j∈preds.getD i []:=fun i h1 h2 j hj=>by
  rcases hb i (by omega) with h3|h3
  ·omega
  ·exact h3 j hj
 intro g a w hs
 have hw:=hs.hr.heap (w':={ w with drawn:=w.drawn+1 }) rfl rfl rfl rfl
 have hs':SR E g S a { w with drawn:=w.drawn+1 }:=⟨hw.1,hs.tm.mono hw.2.le,hs.df,hs.dk,hs.dn⟩
 have stp0:Stp g S.h w g S.h { w with drawn:=w.drawn+1 }:=hw.2
 refine wpIn_region_any hm ?_
 have e0:stL m V O S m.length (fun j=>(Array.replicate ops.size false).getD j false)=S:=by
  have:(fun j=>(Array.replicate ops.size false).getD j false)=(fun j=>decide (j<0)):=by
   funext j
   by_cases hj:j<ops.size<;>simp[Array.getD,hj]
  rw[this,qzkp 0 (Nat.zero_le _)]
  rfl
 refine jzgl (ρ:=ρ) (g0:=g) (w0:=w) (Q:=fun e a' w'=>∃g' S',Q e S'∧SR E g' S' a' w'∧Stp g S.h w g' S'.h w') D rfl hmn (fun k o hk ho=>?_) hedge hpred (fun i h1 h2 j hj=>hbar i h1 h2 j (by omega)) ?_
  ops.size (Array.replicate ops.size false) (by simp) (fun j hj=>?_) (fun j hj=>?_) ⟨List.range m.length,fun j hj _=>by simpa using hj,by simp;omega⟩ g a _ (by rw[e0];exact hs') (by rw[e0];exact stp0)
 ·obtain⟨ao,h1,h2⟩:=hops k o (by simpa using ho)
  rw[List.getElem?_append_left hk]at h1
  exact⟨ao,h1,h2⟩
 ·intro fuel listed hls hl hf g' a' w' hs2 st2
  exact jzg6 (ρ:=ρ) (m2:=m2) rfl hedge hpred m.length (fun i h1 h2 j hj=>hbar i (by omega) h2 j hj) hc2 fuel listed hls hl hmn hf hs2 hQ fun a'' w'' ⟨g'',S'',q1,q2,q3⟩=>⟨g'',S'',q1,q2,st2.trans q3⟩
 ·by_cases h1:j<ops.size<;>simp[Array.getD,h1]
 ·by_cases h1:j<ops.size<;>simp[Array.getD,h1]at hj
theorem AW.drawB{m2:List qzc}{Q:Exit→ASt→Prop}{pr:List (List Nat)}(hb:wz72 pr m.length (m++m2).length=true)(h:wzo8 E P m S (fun S' tr=>wz35 m pr tr=true∧aseq E P m2 S' (Q .normal))):AW E ρ P (.reg true (m++m2) pr) Q S:=by
 intro code hc
 match code,hc with
 |.region id l false,hc=>simp[qzg]at hc
 |.region id l true,hc =>
  simp only[qzg,Bool.and_eq_true]at hc
  exact .drawnB hc.1.1.1.1 hc.1.1.1.2 hc.1.1.2 hc.1.2 hc.2 hb h
 |.skip,hc=>simp[qzg]at hc
 |.seq _ _,hc=>simp[qzg]at hc
 |.cond _ _ _,hc=>simp[qzg]at hc
 |.block _ _,hc=>simp[qzg]at hc
 |.loop _,hc=>simp[qzg]at hc
 |.rangeFunc _ _ _ _,hc=>simp[qzg]at hc
 |.exit _,hc=>simp[qzg]at hc
 |.scope _,hc=>simp[qzg]at hc
 |.label _,hc=>simp[qzg]at hc
 |.goto _,hc=>simp[qzg]at hc
 |.ret,hc=>simp[qzg]at hc
 |.refuse _,hc=>simp[qzg]at hc
theorem AWp.post{c:Code}{Q Q':Exit→ASt→Prop}(h:AWp E ρ P c Q S)(hq:∀e S',Q e S'→∃S'',See E S' S''∧Q' e S''):AWp E ρ P c Q' S:=fun g a w hs=>wpIn_mono (h g a w hs) fun e a' w' ⟨g',S',q,hs',st⟩=>by
 obtain⟨S'',s,q'⟩:=hq e S' q
 obtain⟨g'',hs'',st'⟩:=s g' a' w' hs'
 exact⟨g'',S'',q',hs'',st.trans st'⟩
theorem AW.post{c:qzk}{Q Q':Exit→ASt→Prop}(h:AW E ρ P c Q S)(hq:∀e S',Q e S'→∃S'',See E S' S''∧Q' e S''):AW E ρ P c Q' S:=fun code hc=>(h code hc).post hq
end
structure Csm(E:Nat→AVal)(P:Program){A:Type}(aA:A→List AVal)(st:List A→Option Bool)(L e:Nat)(HC HX:List A→qzl→Prop):Prop where
 loc:∀l h h',(∀i,i<1000∨2000≤i→h' i=h i)→HC l h→HC l h'
 lox:∀l h h',(∀i,i<1000∨2000≤i→h' i=h i)→HX l h→HX l h'
 round:∀l x s h,HC l h→st (l++[x])=some s→qzhp E P L e (aA x) h fun v h'=>v=.bool (!s)∧(s=false→HC (l++[x]) h')∧(s=true→HX (l++[x]) h')∧∀i,1000≤i→i<2000→h' i=h i
def SqOk(E:Nat→AVal)(P:Program){A:Type}(f:FuncId)(caps:List AVal)(aA:A→List AVal)(st:List A→Option Bool)(l:List A):Prop :=
 kzz P f=true∧∀(L e:Nat) (HC HX:List A→qzl→Prop),Csm E P aA st L e HC HX→∀h,HC [] h→(∀i,1000≤i→i<2000→∃e,h i=.gone e)→ATr E P f (.yld L e :: caps) h fun v h'=>HC l h'∨HX l h'
open Go.Sort Go.Proofs Go.Shelf
def qzw0(h:qzl):qzl:=fun i=>.gone (h i).ep
theorem HR.gone{E:Nat→AVal}{g:Gh}{h:qzl}{w W:World}(H:HR E g h w)(hle:GLe g w g W)(hs:w.heap.size≤W.heap.size):HR E g (qzw0 h) W :=
 ⟨fun _=>trivial,fun i=>H.ep i,fun i j hi=>(by cases hi),fun i hi=>(by cases hi),fun b hb=>Nat.lt_of_lt_of_le (H.fzb b hb) hs,fun i=>(H.glob i).mono hle⟩
theorem qzq.lays{E:Nat→AVal}{P:Program}{F:FuncId}{args:List AVal}{v:AVal}(hc:qzq E P F args v){g:Gh}{h:qzl}{W:World}(H:HR E g (qzw0 h) W){vs:List Value}(hv:RVs g W args vs) :
  Calls P F vs.toArray W fun e w'=>(∃u g',e=.returned u∧RV g' w' v u)∧∃q os',w'=grow (W.drewN q) os':=by
 refine(hc (qzw0 h) g W vs H hv).mono ?_
 rintro e w' ⟨g',h',r,u,⟨rfl,rfl⟩,rfl,hr,H',st⟩
 refine⟨⟨u,g',rfl,hr⟩,w'.drawn-W.drawn,w'.heap.extract W.heap.size w'.heap.size,?_⟩
 have hd:=st.drawn
 have hsz:=st.size
 have hh:w'.heap=W.heap++w'.heap.extract W.heap.size w'.heap.size:=by
  apply Array.ext_getElem?
  intro b
  by_cases hb:b<W.heap.size
  ·rw[st.keep b hb (fun i hi=>by cases hi),Array.getElem?_append_left hb]
  ·rw[Array.getElem?_append_right (Nat.le_of_not_lt hb)]
   by_cases hb2:b<w'.heap.size
   ·rw[Array.getElem?_extract,if_pos (by omega)]
    congr 1
    omega
   ·rw[Array.getElem?_eq_none (Nat.le_of_not_lt hb2),Array.getElem?_eq_none (by simp;omega)]
 have h1:=st.os;have h2:=st.tape;have h3:=st.output
 cases w' with
 |mk hp tp dr os out =>
 cases W with
 |mk hp2 tp2 dr2 os2 out2 =>
 simp only[grow,World.drewN]at *
 subst h1;subst h2;subst h3
 congr 1
 omega
theorem wzfu{α:Type}[Inhabited α]{E:Nat→AVal}{P:Program}{ρ:Ren}(Ly:SlLaysF0.n6 P ρ)(k:Nat)(hk0:0<k)
  (aE:∀w,(isAgg (ρ.t 24)).run P w=.ok true w) (zE:∀w,(Go.sizeOf (ρ.t 24)).run P w=.ok k w)
  (cs:α→List AVal) (enc:α→List Value) (hk:∀x,(enc x).length=k) (hck:∀x,(cs x).length=k) (h1:∀x,∀v∈enc x,v.oneCell'=true)
  (hrv:∀g w x l,RVs g w (cs x) l→l=enc x) (hvr:∀g w x,RVs g w (cs x) (enc x))
  (cf:α→α→Int) (hO:SWO (ltOf cf)) (F:FuncId) (eg:∀args w,(callFunc F args).run P w=.ok (.enter F args) w)
  (hcmp:∀x y,qzq E P F [.agg (cs x),.agg (cs y)] (.int .i64 (cf x y)))
  {h:qzl} {id ep n:Nat} {f:Nat→List AVal} {d:Array α} (hid:h id=.vec ep k n f) (hdn:d.size=n) (hn:0<n) (hn2:n<4611686018427387904) (hf:∀j,j<n→f j=cs d[j]!) :
  ATr E P (ρ.f 6) [.vec id ep 0 n,.fn F 0 []] h (fun r h'=>r=.tup []∧∃d':Array α,PermIn 0 n d d'∧SortedIn (ltOf cf) 0 n d'∧h'=hset h id (.vec ep k n (fun j=>cs d'[j]!))):=by
 intro g w vs H hv
 obtain⟨v,v2,rfl⟩:∃v v2,vs=[v,v2]:=by
  have:=hv.1
  match vs,this with
  |[v,v2],_=>exact⟨v,v2,rfl⟩
 have hrv0:RV g w (.vec id ep 0 n) v:=hv.2 0 _ _ rfl rfl
 have hrv1:RV g w (.fn F 0 []) v2:=hv.2 1 _ _ rfl rfl
 have hep:g.ep id=ep:=by rw[H.ep id,hid];rfl
 cases hrv1 with
 |fn _ _ _ a hna _ =>
 have ha0:a=#[]:=Array.eq_empty_of_size_eq_zero (by simpa using hna)
 subst ha0
 cases hrv0 with
 |vec _ _ _ _ _ h1' he hV =>
 obtain⟨ad,cap,rfl,hcap,hor⟩:=hV hep.symm
 have ho:=H.obj id
 rw[hid]at ho
 obtain⟨hst,_,hncp,arr,ty,hheap,hsize,hcells⟩:=ho
 rcases hor with e0|⟨rfl,hcp⟩
 ·omega
 have how:(h id).owned=true:=by rw[hid];rfl
 have hle2:∀i c,i<n→c<k→i*k+c<n*k:=fun i c hi hc=>by
  have:=Nat.mul_le_mul_right k (show i+1≤n from hi);rw[Nat.add_mul,Nat.one_mul]at this;omega
 have hnk:n*k≤g.cp id*k:=Nat.mul_le_mul_right k hncp
 have hcell:∀i c,i<n→c<k→arr[g.bo id+i*k+c]?=some (enc d[i]!)[c]! := by
  intro i c hi hc
  have hlt:∀c,c<k→g.bo id+i*k+c<arr.size:=fun c hc=>by have:=hle2 i c hi hc;omega
  have hl:RVs g w (cs d[i]!) ((List.range k).map fun c=>arr.getD (g.bo id+i*k+c) undef):=by
   refine⟨by simp[hck],fun j x v hx hv=>?_⟩
   have hj:j<k:=by have:=(List.getElem?_eq_some_iff.1 hv).1;simpa using this
   have hv':arr[g.bo id+i*k+j]?=some v:=by
    simp only[List.getElem?_map,List.getElem?_range hj,Option.map_some,Option.some.injEq]at hv
    rw[Array.getElem?_eq_getElem (hlt j hj),←hv]
    simp[Array.getD,hlt j hj]
   exact((hcells i hi).2 j x v (by rw[hf i hi];exact hx) hv').2
  have e:=hrv g w _ _ hl
  have ec:c<(enc d[i]!).length:=by rw[hk];exact hc
  rw[Array.getElem?_eq_getElem (hlt c hc),getElem!_pos _ c ec]
  congr 1
  have:(enc d[i]!)[c]?=some (arr.getD (g.bo id+i*k+c) undef):=by rw[←e];simp[hc]
  rw[List.getElem?_eq_getElem ec]at this
  rw[Option.some.inj this]
  simp[Array.getD,hlt c hc]
 have hoff:(⟨g.blk id,g.bo id+0*g.st id,none⟩:Addr)=⟨g.blk id,g.bo id,none⟩:=by simp
 have hblk:g.blk id<w.heap.size:=(Array.getElem?_eq_some_iff.1 hheap).1
 have hH:HoldsK enc k w (g.blk id) (g.bo id) d:=by
  intro j hj
  have hj':j<n*k:=by simpa [size_flatK,hdn] using hj
  refine⟨?_,by simp[World.frozen?,hheap]⟩
  simp only[World.cell?,hheap]
  simp only[Option.isSome_none,Bool.false_eq_true,if_false]
  rw[get_flatK _ _ _ _ (by rw[hdn];exact hj')]
  have h3:j / k<n:=Nat.div_lt_of_lt_mul (by rw[Nat.mul_comm];exact hj')
  have h4:j%k<k:=Nat.mod_lt _ hk0
  have:=hcell (j / k) (j%k) h3 h4
  rw[Nat.add_assoc,Nat.mul_comm,Nat.div_add_mod]at this
  exact this
 have hcl:CmpLays P F #[] enc k cf (g.blk id) (g.bo id) d.size w:=by
  intro m os dk hdk x y
  have hWs:w.heap.size≤(sortWorldK enc k w (g.blk id) (g.bo id) m dk os).heap.size:=by
   unfold sortWorldK;rw[size_grow];simp[putRowK,putRow,mapBlock,Sort.ahead]
  have hWo:∀b,b<w.heap.size→b≠g.blk id→(sortWorldK enc k w (g.blk id) (g.bo id) m dk os).heap[b]?=w.heap[b]?:=by
   intro b hb hne
   unfold sortWorldK
   rw[heap_grow_old _ _ (by simpa [putRowK,putRow,mapBlock,Sort.ahead] using hb)]
   have:g.blk id≠b:=fun e=>hne e.symm
   simp[putRowK,putRow,mapBlock,Sort.ahead,Array.getElem?_modify,this]
  have hle:GLe g w g (sortWorldK enc k w (g.blk id) (g.bo id) m dk os) :=
   ⟨fun b hb=>⟨hb,hWo b (H.fzb b hb) (fun e=>H.sep id how (e▸hb))⟩,fun _=>Nat.le_refl _,fun _ _=>⟨rfl,rfl,rfl,rfl⟩⟩
  have hargs:RVs g (sortWorldK enc k w (g.blk id) (g.bo id) m dk os) [.agg (cs x),.agg (cs y)] [.agg (enc x).toArray,.agg (enc y).toArray] :=
   .cons (.agg _ _ (by simp[hk,hck]) fun i x' v hx hv=>(hvr _ _ x).2 i x' v hx (by simpa using hv))
    (.cons (.agg _ _ (by simp[hk,hck]) fun i x' v hx hv=>(hvr _ _ y).2 i x' v hx (by simpa using hv)) (.nil _ _))
  refine(qzq.lays (hcmp x y) (H.gone hle hWs) hargs).mono ?_
  rintro e w' ⟨⟨u,g',rfl,hu⟩,hq⟩
  cases hu
  exact⟨rfl,hq⟩
 have main:=AnyQ.slices_SortFunc Ly k aE zE enc hk h1 cf hO F #[] (g.blk id) (g.bo id) cap d w eg hcl hH hblk (by rw[hdn];exact hn2)
 rw[hdn]at main
 rw[hoff]
 refine main.mono ?_
 rintro e w' ⟨rfl,d',m,os,hp,hs,rfl⟩
 have hdn':d'.size=n:=hp.1.trans hdn
 have hsz:w.heap.size≤(sortWorldK enc k w (g.blk id) (g.bo id) m d' os).heap.size:=by
  unfold sortWorldK;rw[size_grow];simp[putRowK,putRow,mapBlock,Sort.ahead]
 have hold:∀b,b<w.heap.size→b≠g.blk id→(sortWorldK enc k w (g.blk id) (g.bo id) m d' os).heap[b]?=w.heap[b]?:=by
  intro b hb hne
  unfold sortWorldK
  rw[heap_grow_old _ _ (by simpa [putRowK,putRow,mapBlock,Sort.ahead] using hb)]
  have:g.blk id≠b:=fun e=>hne e.symm
  simp[putRowK,putRow,mapBlock,Sort.ahead,Array.getElem?_modify,this]
 have hnew:(sortWorldK enc k w (g.blk id) (g.bo id) m d' os).heap[g.blk id]?=some (.cells (putCells _root_.id (g.bo id) (flatK enc k d') arr) ty (0,0)):=by
  unfold sortWorldK
  rw[heap_grow_old _ _ (by simpa [putRowK,putRow,mapBlock,Sort.ahead] using hblk)]
  simp[putRowK,putRow,mapBlock,Sort.ahead,Array.getElem?_modify,hheap,onCells]
 have hle:GLe g w g (sortWorldK enc k w (g.blk id) (g.bo id) m d' os) :=
  ⟨fun b hb=>⟨hb,hold b (H.fzb b hb) (fun e=>H.sep id how (e▸hb))⟩,fun _=>Nat.le_refl _,fun _ _=>⟨rfl,rfl,rfl,rfl⟩⟩
 have hor:OR g (sortWorldK enc k w (g.blk id) (g.bo id) m d' os) id (.vec ep k n (fun j=>cs d'[j]!)):=by
  refine⟨hst,hk0,hncp,_,ty,hnew,by simpa [putCells] using hsize,fun i hi=>⟨hck _,fun j x v hx hv=>?_⟩⟩
  have hj:j<k:=by have:=(List.getElem?_eq_some_iff.1 hx).1;rwa [hck]at this
  have hij:=hle2 i j hi hj
  have hka:g.bo id+i*k+j<arr.size:=by omega
  have ev:v=(enc d'[i]!)[j]! := by
   simp only[putCells,Array.getElem?_mapIdx,Array.getElem?_eq_getElem hka,Option.map_some,Option.some.injEq]at hv
   rw[if_pos ⟨by omega,by rw[size_flatK,hdn'];omega⟩]at hv
   rw[←hv,show g.bo id+i*k+j-g.bo id=i*k+j by omega]
   show(flatK enc k d')[i*k+j]! = _
   rw[get_flatK _ _ _ _ (by rw[hdn'];exact hij)]
   have e1:(i*k+j) / k=i:=by rw[Nat.mul_comm,Nat.mul_add_div hk0,Nat.div_eq_of_lt hj,Nat.add_zero]
   have e2:(i*k+j)%k=j:=by rw[Nat.mul_comm,Nat.mul_add_mod,Nat.mod_eq_of_lt hj]
   rw[e1,e2]
  have ej:j<(enc d'[i]!).length:=by rw[hk];exact hj
  have ev2:(enc d'[i]!)[j]?=some v:=by rw[ev,List.getElem?_eq_getElem ej,getElem!_pos _ j ej]
  exact⟨h1 _ v (List.mem_of_getElem? ev2),(hvr _ _ _).2 j x v hx ev2⟩
 obtain⟨H',S'⟩:=HR.upd (E:=E) (g':=g) (i:=id) (o':=.vec ep k n (fun j=>cs d'[j]!)) H hle (fun _ _=>rfl) hep
  (fun b hb hn=>hold b hb (hn how)) hsz hor (fun _=>.inl ⟨how,rfl⟩) (fun _=>H.sep id how) (fun b hb=>.inl hb) (fun b hb=>Nat.lt_of_lt_of_le (H.fzb b hb) hsz) rfl rfl rfl (Nat.le_add_right _ _)
 exact⟨g,_,.tup [],.tuple #[],⟨rfl,d',hp,hs,rfl⟩,rfl,.tup [] #[] rfl (fun i x v hx _=>by simp at hx),H',S'⟩
open Go.Sort Go.Proofs Go.Shelf
theorem qz2n{α:Type}[Inhabited α]{E:Nat→AVal}{P:Program}{ρ:Ren}(Ly:SlLaysE.n35 P ρ)(cs:α→AVal)(enc:α→Value)(h1:OneCell enc)
  (hrv:∀g w x v,RV g w (cs x) v→v=enc x) (hvr:∀g w x,RV g w (cs x) (enc x))
  {h:qzl} {id ep n:Nat} {f:Nat→List AVal} {l:List α} (hid:h id=.vec ep 1 n f) (hln:l.length=n) (hn:0<n) (hn2:n≤9223372036854775807) (hf:∀j,j<n→f j=[cs l.toArray[j]!]) :
  ATr E P (ρ.f 35) [.vec id ep 0 n] h (fun r h'=>r=.tup []∧h'=hset h id (.vec ep 1 n (fun j=>[cs l.reverse.toArray[j]!]))):=by
 intro g w vs H hv
 obtain⟨v,rfl⟩:∃v,vs=[v]:=by
  have:=hv.1
  match vs,this with
  |[v],_=>exact⟨v,rfl⟩
 have hrv0:RV g w (.vec id ep 0 n) v:=hv.2 0 _ _ rfl rfl
 have hep:g.ep id=ep:=by rw[H.ep id,hid];rfl
 cases hrv0 with
 |vec _ _ _ _ _ h1' he hV =>
 obtain⟨ad,cap,rfl,hcap,hor⟩:=hV hep.symm
 have ho:=H.obj id
 rw[hid]at ho
 obtain⟨hst,_,hncp,arr,ty,hheap,hsize,hcells⟩:=ho
 rcases hor with e0|⟨rfl,hcp⟩
 ·omega
 have how:(h id).owned=true:=by rw[hid];rfl
 have hcell:∀j,j<n→arr[g.bo id+j]?=some (enc l.toArray[j]!):=by
  intro j hj
  have hlt:g.bo id+j<arr.size:=by omega
  have h3:=(hcells j hj).2 0 (cs l.toArray[j]!) arr[g.bo id+j] (by rw[hf j hj];rfl) (by simp[Array.getElem?_eq_getElem hlt])
  rw[Array.getElem?_eq_getElem hlt,hrv _ _ _ _ h3.2]
 have hoff:(⟨g.blk id,g.bo id+0*g.st id,none⟩:Addr)=⟨g.blk id,g.bo id,none⟩:=by simp
 have hblk:g.blk id<w.heap.size:=(Array.getElem?_eq_some_iff.1 hheap).1
 have hH:Holds enc w (g.blk id) (g.bo id) l.toArray:=by
  intro j hj
  have hj':j<n:=by simpa [hln] using hj
  refine⟨?_,by simp[World.frozen?,hheap]⟩
  simp only[World.cell?,hheap]
  simp only[Option.isSome_none,Bool.false_eq_true,if_false]
  exact hcell j hj'
 have main:=AnyE.slices_Reverse Ly enc h1 (g.blk id) (g.bo id) cap l w hH (by rw[hln];exact hn2)
 rw[hln]at main
 rw[hoff]
 refine main.mono ?_
 rintro e w' ⟨rfl,m,rfl⟩
 have hlr:l.reverse.toArray.size=n:=by simp[hln]
 have hsz:w.heap.size≤(putRow enc (Sort.ahead w m) (g.blk id) (g.bo id) l.reverse.toArray).heap.size:=by
  simp[putRow,mapBlock,Sort.ahead]
 have hold:∀b,b<w.heap.size→b≠g.blk id→(putRow enc (Sort.ahead w m) (g.blk id) (g.bo id) l.reverse.toArray).heap[b]?=w.heap[b]?:=by
  intro b hb hne
  have:g.blk id≠b:=fun e=>hne e.symm
  simp[putRow,mapBlock,Sort.ahead,Array.getElem?_modify,this]
 have hnew:(putRow enc (Sort.ahead w m) (g.blk id) (g.bo id) l.reverse.toArray).heap[g.blk id]?=some (.cells (putCells enc (g.bo id) l.reverse.toArray arr) ty (0,0)):=by
  simp[putRow,mapBlock,Sort.ahead,Array.getElem?_modify,hheap,onCells]
 have hle:GLe g w g (putRow enc (Sort.ahead w m) (g.blk id) (g.bo id) l.reverse.toArray) :=
  ⟨fun b hb=>⟨hb,hold b (H.fzb b hb) (fun e=>H.sep id how (e▸hb))⟩,fun _=>Nat.le_refl _,fun _ _=>⟨rfl,rfl,rfl,rfl⟩⟩
 have hor:OR g (putRow enc (Sort.ahead w m) (g.blk id) (g.bo id) l.reverse.toArray) id (.vec ep 1 n (fun j=>[cs l.reverse.toArray[j]!])):=by
  refine⟨hst,by omega,hncp,_,ty,hnew,by simpa [putCells] using hsize,fun k hk=>⟨rfl,fun j x v hx hv=>?_⟩⟩
  have hj:j=0:=by
   cases j with
   |zero=>rfl
   |succ j=>simp at hx
  subst hj
  simp only[List.getElem?_cons_zero,Option.some.injEq]at hx
  subst hx
  have hka:g.bo id+k<arr.size:=by omega
  have:v=enc l.reverse.toArray[k]! := by
   simp only[putCells,Array.getElem?_mapIdx,Nat.mul_one,Nat.add_zero,Array.getElem?_eq_getElem hka,Option.map_some,Option.some.injEq]at hv
   rw[if_pos ⟨by omega,by rw[hlr];omega⟩]at hv
   rw[←hv,show g.bo id+k-g.bo id=k by omega]
  subst this
  exact⟨h1 _,hvr _ _ _⟩
 obtain⟨H',S'⟩:=HR.upd (E:=E) (g':=g) (i:=id) (o':=.vec ep 1 n (fun j=>[cs l.reverse.toArray[j]!])) H hle (fun _ _=>rfl) hep
  (fun b hb hn=>hold b hb (hn how)) hsz hor (fun _=>.inl ⟨how,rfl⟩) (fun _=>H.sep id how) (fun b hb=>.inl hb) (fun b hb=>Nat.lt_of_lt_of_le (H.fzb b hb) hsz) rfl rfl rfl (Nat.le_add_right _ _)
 exact⟨g,_,.tup [],.tuple #[],⟨rfl,rfl⟩,rfl,.tup [] #[] rfl (fun i x v hx _=>by simp at hx),H',S'⟩
theorem wzdy{E:Nat→AVal}{P:Program}{ρ:Ren}(Ly:SlLaysE.n35 P ρ){h:qzl}:ATr E P (ρ.f 35) [.nils] h (fun r h'=>r=.tup []∧h'=h):=by
 intro g w vs H hv
 obtain⟨v,rfl⟩:∃v,vs=[v]:=by
  have:=hv.1
  match vs,this with
  |[v],_=>exact⟨v,rfl⟩
 have hrv0:RV g w .nils v:=hv.2 0 _ _ rfl rfl
 cases hrv0
 refine(AnyE.slices_Reverse_empty Ly none 0 w).mono ?_
 rintro e w' ⟨rfl,rfl⟩
 exact⟨g,h,.tup [],.tuple #[],⟨rfl,rfl⟩,rfl,.tup [] #[] rfl (fun i x v hx _=>by simp at hx),H,.refl _ _ _⟩
end Go.Am

