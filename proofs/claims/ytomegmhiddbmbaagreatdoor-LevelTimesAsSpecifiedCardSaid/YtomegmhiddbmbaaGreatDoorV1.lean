/- Part V1 of the proof that the last part closes: the mathematics of flows and levels. No condition. -/
import Derived.Test.YtomegmhiddbmbaaGreatDoorR2
set_option linter.unusedSimpArgs false
set_option linter.unusedVariables false
namespace Go.Am
section
variable {α ω σ:Type}
def scan(f:Nat→α→Option ω):Nat→List α→Option ω
 |_,[]=>none
 |k,x :: l=>match f k x with
  |some o=>some o
  |none=>scan f (k+1) l
theorem wz6o{f:Nat→α→Option ω}:∀(k:Nat) (l:List α),scan f k l=none→∀i x,l[i]?=some x→f (k+i) x=none
 |k,[],_,i,x,h=>by simp at h
 |k,y :: l,e,i,x,h=>by
  unfold scan at e
  split at e
  ·cases e
  ·rename_i e1
   cases i with
   |zero=>simp at h;subst h;exact e1
   |succ i=>have:=wz6o (k+1) l e i x (by simpa using h);rwa [show k+(i+1)=k+1+i by omega]
theorem jzax{f:Nat→α→Option ω}:∀(k:Nat) (l:List α),(∀i x,l[i]?=some x→f (k+i) x=none)→scan f k l=none
 |k,[],_=>rfl
 |k,y :: l,e=>by
  unfold scan
  rw[show f k y=none from e 0 y rfl]
  exact jzax (k+1) l fun i x h=>by have:=e (i+1) x (by simpa using h);rwa [show k+(i+1)=k+1+i by omega]at this
theorem jzdu{f:Nat→α→Option ω}{l:List α}{k:Nat}{x:α}(h:l[k]?=some x):scan f k (l.drop k)=(match f k x with
  |some o=>some o
  | none=>scan f (k+1) (l.drop (k+1))):=by
 obtain⟨hk,rfl⟩:=List.getElem?_eq_some_iff.1 h
 rw[List.drop_eq_getElem_cons hk];rfl
def sOut:Option ω→Unit⊕ω
 |some o=>.inr o
 |none=>.inl ()
theorem jzak{body:σ→Option (σ⊕(Unit⊕ω))}{l:List α}(st:Nat→σ)(f:Nat→α→Option ω)(hl:l.length≤1000000000)
  (hs:∀(k:Nat) (x:α),l[k]?=some x→body (st k)=some (match f k x with | some o=>.inr (.inr o) | none=>.inl (st (k+1)))) (he:body (st l.length)=some (.inr (.inl ()))) {s:σ} (h0:s=st 0):lp body s=some (sOut (scan f 0 l)):=by
 obtain⟨o,e,ho⟩:=jzd2 (body:=body) st (fun k=>k≤l.length∧scan f 0 l=scan f k (l.drop k)) (fun k=>l.length-k) (fun o=>o=sOut (scan f 0 l)) (by
  rintro k ⟨hk,hsc⟩
  by_cases hlt:k<l.length
  ·have hx:=List.getElem?_eq_getElem hlt
   have h1:=hs k _ hx
   have h2:=jzdu (f:=f) hx
   cases hf:f k l[k] with
   |some o =>
    right
    rw[hf]at h1 h2
    exact⟨_,h1,by rw[hsc,h2];rfl⟩
   |none =>
    left
    rw[hf]at h1 h2
    exact⟨k+1,h1,⟨hlt,hsc.trans h2⟩,by omega⟩
  ·right
   have:k=l.length:=by omega
   subst this
   refine⟨_,he,?_⟩
   rw[hsc,List.drop_length];rfl) 0 h0 ⟨Nat.zero_le _,rfl⟩ (by omega)
 rw[e,ho]
theorem wz3m{body:Int→Option (Int⊕(Unit⊕ω))}{l:List α}(f:Nat→α→Option ω)(hl:l.length≤1000000000)
  (hs:∀(k:Nat) (x:α),l[k]?=some x→body (k:Int)=some (match f k x with | some o=>.inr (.inr o) | none=>.inl ((k:Int)+1))) (he:body (l.length:Int)=some (.inr (.inl ()))):lp body 0=some (sOut (scan f 0 l)) :=
 jzak (fun k=>(k:Int)) f hl (fun k x h=>by rw[hs k x h];cases f k x<;>rfl) he rfl
end
structure CSz(c:wz2d):Prop where
 len:c.Points.length≤1048576
 sz:∀p,p∈c.Points→Sz 1048576 p.Flow
noncomputable def crvF(l:List wz2g)(k:Nat)(p:wz2g):Option Int :=
 if p.Stage < -1000∨2000<p.Stage then some 3 else if ¬Vd p.Flow∨p.Flow.Neg=true then some 1
 else if 0<k∧(p.Stage≤(l.getD (k-1) default).Stage∨rq p.Flow<rq (l.getD (k-1) default).Flow) then some 1 else none
noncomputable def wz5h(c:wz2d):Int:=if c.Points.length<1∨16<c.Points.length then 2 else(scan (crvF c.Points) 0 c.Points).getD 0
theorem wz5y{o:Option Int}{z:Int}:(match sOut o with | .inl ()=>some z | .inr o=>some o)=some (o.getD z):=by cases o<;>rfl
theorem wz9f{α:Type}[Inhabited α]{l:List α}{k:Nat}{x:α}(h:l[k]?=some x)(h0:0<k):at? l ((k:Int)-1)=some (l.getD (k-1) default):=by
 have hk:=(List.getElem?_eq_some_iff.1 h).1
 have h1:k-1<l.length:=by omega
 rw[at_e (n:=k-1) (by omega) (List.getElem?_eq_getElem h1)]
 simp[List.getD,h1]
theorem jzay{α:Type}[Inhabited α]{l:List α}{k:Nat}{x:α}(h:l[k]?=some x)(h0:0<k):l.getD (k-1) default∈l:=by
 have hk:=(List.getElem?_eq_some_iff.1 h).1
 have h1:k-1<l.length:=by omega
 simp[List.getD,h1]
theorem wz49{p q:Rat}:cmpQ p q<0↔p<q:=by
 unfold cmpQ
 split
 ·simp[*]
 ·split<;>simp[*]
theorem wz7j{c:wz2d}(h:CSz c):wz31 c=some (wz5h c):=by
 unfold wz31 wz5h
 by_cases h1:c.Points.length<1
 ·rw[it_t (by simp;omega),if_pos (.inl h1)]
 by_cases h2:16<c.Points.length
 ·rw[it_t (by simp;omega),if_pos (.inr h2)]
 rw[it_f (by simp;omega),if_neg (by omega)]
 rw[wz3m (l:=c.Points) (crvF c.Points) (by omega) ?_ ?_]
 ·simp only[bd_s];exact wz5y
 ·intro k p hp
  have hk:=(List.getElem?_eq_some_iff.1 hp).1
  have hm:=List.mem_of_getElem? hp
  have hz:=h.sz p hm
  simp only[wz5e]
  rw[it_d (by omega),at_e rfl hp]
  simp only[bd_s,wz5p,crvF]
  by_cases p1:p.Stage < -1000∨2000<p.Stage
  ·rw[if_pos p1,it_t (by rcases p1 with p1|p1<;>simp<;>omega)]
  rw[if_neg p1,it_f (by simp;omega)]
  simp only[wz5b]
  rw[qzga (hz.mono (by omega))]
  simp only[bd_s]
  by_cases p2:¬Vd p.Flow∨p.Flow.Neg=true
  ·rw[if_pos p2,it_t (by rcases p2 with p2|p2<;>simp[p2])]
  rw[if_neg p2]
  have p3:Vd p.Flow:=Decidable.byContradiction fun e=>p2 (.inl e)
  have p4:p.Flow.Neg=false:=by simpa using fun e=>p2 (.inr e)
  rw[it_f (by simp[p3,p4])]
  by_cases h0:k=0
  ·subst h0
   rw[ck_t (by simp),show decide ((0:Int)<((0:Nat):Int))=false by simp]
   simp only[Bool.false_and,wzcn,bd_s]
   rw[ck_t (by simp),if_neg (by omega),it_f (by simp),qz3 (by omega)]
  have h0:0<k:=by omega
  rw[ck_t (by simp[inB];omega),show decide ((0:Int)<(k:Int))=true by simp;omega]
  simp only[Bool.true_and,qzbx]
  rw[wz9f hp h0]
  simp only[bd_s]
  have hq:=h.sz _ (jzay hp h0)
  generalize c.Points.getD (k-1) default=q at *
  rw[ck_t (by simp[inB];omega)]
  by_cases p5:p.Stage≤q.Stage
  ·rw[show decide (p.Stage≤q.Stage)=true by simp[p5]]
   simp only[Bool.not_true,wzcn,bd_s]
   rw[if_pos ⟨h0,.inl p5⟩,it_t (by simp)]
  ·rw[show decide (p.Stage≤q.Stage)=false by simp[p5]]
   simp only[Bool.not_false,qzbx,bd_s]
   rw[jz9 hz hq (by omega) (by omega) (by omega) (by omega)]
   simp only[bd_s]
   by_cases p6:rq p.Flow<rq q.Flow
   ·rw[if_pos ⟨h0,.inr p6⟩,it_t (by simp[wz49,p6])]
   ·rw[if_neg (by simp[p5,p6]),it_f (by simp[wz49,p6]),qz3 (by omega)]
 ·simp only[wz5e]
  rw[it_n (by omega)]
theorem jzbg{c:wz2d}(h:CSz c):wz4x c=some (wz5h c):=by
 unfold wz4x wz5h
 by_cases h1:c.Points.length<1
 ·rw[it_t (by simp;omega),if_pos (.inl h1)]
 by_cases h2:16<c.Points.length
 ·rw[it_t (by simp;omega),if_pos (.inr h2)]
 rw[it_f (by simp;omega),if_neg (by omega)]
 rw[wz3m (l:=c.Points) (crvF c.Points) (by omega) ?_ ?_]
 ·simp only[bd_s];exact wz5y
 ·intro k p hp
  have hk:=(List.getElem?_eq_some_iff.1 hp).1
  have hm:=List.mem_of_getElem? hp
  have hz:=h.sz p hm
  simp only[wz5a]
  rw[it_d (by omega),at_e rfl hp]
  simp only[bd_s,crvF]
  by_cases p1:p.Stage < -1000∨2000<p.Stage
  ·rw[if_pos p1,it_t (by rcases p1 with p1|p1<;>simp<;>omega)]
  rw[if_neg p1,it_f (by simp;omega)]
  rw[wzol (hz.mono (by omega))]
  simp only[bd_s]
  by_cases p2:¬Vd p.Flow∨p.Flow.Neg=true
  ·rw[if_pos p2,it_t (by rcases p2 with p2|p2<;>simp[p2])]
  rw[if_neg p2]
  have p3:Vd p.Flow:=Decidable.byContradiction fun e=>p2 (.inl e)
  have p4:p.Flow.Neg=false:=by simpa using fun e=>p2 (.inr e)
  rw[it_f (by simp[p3,p4])]
  by_cases h0:k=0
  ·subst h0
   rw[ck_t (by simp),show decide ((0:Int)<((0:Nat):Int))=false by simp]
   simp only[wzcn,bd_s]
   rw[it_f (by simp),ck_t (by simp)]
   rw[if_neg (by omega),it_f (by simp),qz3 (by omega)]
  have h0:0<k:=by omega
  rw[ck_t (by simp[inB];omega),show decide ((0:Int)<(k:Int))=true by simp;omega]
  simp only[qzbx]
  rw[wz9f hp h0]
  simp only[bd_s]
  have hq:=h.sz _ (jzay hp h0)
  generalize c.Points.getD (k-1) default=q at *
  by_cases p5:p.Stage≤q.Stage
  ·rw[if_pos ⟨h0,.inl p5⟩,it_t (by simp[p5])]
  ·rw[it_f (by simp[p5]),ck_t (by simp[inB];omega),wzle hz hq (by omega) (by omega) (by omega) (by omega)]
   simp only[bd_s]
   by_cases p6:rq p.Flow<rq q.Flow
   ·rw[if_pos ⟨h0,.inr p6⟩,it_t (by simp[wz49,p6])]
   ·rw[if_neg (by simp[p5,p6]),it_f (by simp[wz49,p6]),qz3 (by omega)]
 ·simp only[wz5a]
  rw[it_n (by omega)]
structure SSz(s:wz2b):Prop where
 c:CSz s.Curve
 w:Sz 1048576 s.Weight
structure LSz(l:List wz2b):Prop where
 len:l.length≤1048576
 sz:∀s,s∈l→SSz s
def wz50(s:wz2b):Prop:=0≤s.From∧s.From<s.To∧s.To≤1402560∧-1000≤s.Datum∧s.Datum≤1000∧Vd s.Weight∧wz5h s.Curve=0
noncomputable instance(s:wz2b):Decidable (wz50 s):=inferInstanceAs (Decidable (_∧_))
noncomputable def spnF(l:List wz2b)(k:Nat)(s:wz2b):Option Int:=if wz50 s∧(0<k→(l.getD (k-1) default).To≤s.From) then none else some 1
noncomputable def wz4s(l:List wz2b):Int:=if 400<l.length then 2 else(scan (spnF l) 0 l).getD 0
theorem jzbf{s:wz2b}(h:SSz s):wz4o s=some (decide (wz50 s)):=by
 unfold wz4o
 by_cases p:s.From<0∨s.To≤s.From∨1402560<s.To∨s.Datum < -1000∨1000<s.Datum
 ·rw[it_t (by rcases p with p|p|p|p|p<;>simp[p])]
  rw[decide_eq_false (fun e=>by unfold wz50 at e;omega)]
 ·rw[it_f (by simp;omega),qzga (h.w.mono (by omega))]
  simp only[bd_s]
  by_cases p2:Vd s.Weight
  ·rw[decide_eq_true p2,qzbx,wz7j h.c]
   simp only[bd_s,cond_true]
   congr 1
   refine decide_eq_decide.2 ⟨fun e=>⟨by omega,by omega,by omega,by omega,by omega,p2,e⟩,fun e=>e.2.2.2.2.2.2⟩
  ·rw[decide_eq_false p2,wzcn]
   simp only[bd_s,cond_false]
   rw[decide_eq_false (fun e=>p2 e.2.2.2.2.2.1)]
theorem jzbn{s:wz2b}(h:SSz s):wz42 s=some (decide (wz50 s)):=by
 unfold wz42
 rw[wzol (h.w.mono (by omega))]
 simp only[bd_s]
 by_cases p:s.From<0∨s.To≤s.From∨1402560<s.To∨¬Vd s.Weight∨s.Datum < -1000∨1000<s.Datum
 ·rw[it_t (by rcases p with p|p|p|p|p|p<;>simp[p])]
  rw[decide_eq_false (fun e=>by
   obtain⟨e1,e2,e3,e4,e5,e6,e7⟩:=e
   rcases p with p|p|p|p|p|p
   ·omega
   ·omega
   ·omega
   ·exact p e6
   ·omega
   ·omega)]
 ·have p2:Vd s.Weight:=Decidable.byContradiction fun e=>p (by simp[e])
  rw[it_f (by simp[p2];omega),jzbg h.c]
  simp only[bd_s]
  congr 1
  refine decide_eq_decide.2 ⟨fun e=>⟨by omega,by omega,by omega,by omega,by omega,p2,e⟩,fun e=>e.2.2.2.2.2.2⟩
theorem jzbd{l:List wz2b}(h:LSz l):wz4n l=some (wz4s l):=by
 unfold wz4n wz4s
 by_cases h1:400<l.length
 ·rw[it_d (by omega),if_pos h1]
 rw[it_n (by omega),if_neg h1]
 rw[jzak (l:=l) (fun k=>(if k=0 then 0 else(l.getD (k-1) default).To,(k:Int))) (spnF l) (by omega) ?_ ?_ (by simp)]
 ·simp only[bd_s];exact wz5y
 ·intro k s hs
  have hk:=(List.getElem?_eq_some_iff.1 hs).1
  have hz:=h.sz s (List.mem_of_getElem? hs)
  simp only[wz4q]
  rw[it_d (by omega),at_e rfl hs]
  simp only[bd_s]
  rw[jzbf hz]
  simp only[bd_s]
  by_cases p:wz50 s
  ·have p0:=p.1
   by_cases p2:0<k→(l.getD (k-1) default).To≤s.From
   ·have e1:spnF l k s=none:=if_pos ⟨p,p2⟩
    rw[e1,it_f,qz3 (by omega)]
    ·simp[hs]
    ·rw[decide_eq_true p]
     by_cases h0:k=0
     ·simp[h0];omega
     ·rw[if_neg h0]
      have:=p2 (by omega)
      simp only[Bool.not_true,cond_false]
      exact decide_eq_false (by omega)
   ·have e1:spnF l k s=some 1:=if_neg (fun e=>p2 e.2)
    rw[e1,it_t]
    rw[decide_eq_true p]
    have h0:¬k=0:=fun e=>p2 (fun h=>by omega)
    rw[if_neg h0]
    simp only[Bool.not_true,cond_false]
    refine decide_eq_true (Int.not_le.1 fun e=>p2 fun _=>e)
  ·have e1:spnF l k s=some 1:=if_neg (fun e=>p e.1)
   rw[e1,it_t (by simp[p])]
 ·simp only[wz4q]
  rw[it_n (by omega)]
theorem jzbj{l:List wz2b}(h:LSz l):wz4v l=some (wz4s l):=by
 unfold wz4v wz4s
 by_cases h1:400<l.length
 ·rw[it_d (by omega),if_pos h1]
 rw[it_n (by omega),if_neg h1]
 rw[wz3m (l:=l) (spnF l) (by omega) ?_ ?_]
 ·simp only[bd_s];exact wz5y
 ·intro k s hs
  have hk:=(List.getElem?_eq_some_iff.1 hs).1
  have hz:=h.sz s (List.mem_of_getElem? hs)
  simp only[wz5d]
  rw[it_d (by omega),at_e rfl hs]
  simp only[bd_s]
  rw[jzbn hz]
  simp only[bd_s,spnF]
  by_cases p:wz50 s
  ·rw[decide_eq_true p]
   by_cases h0:k=0
   ·subst h0
    rw[show decide ((0:Int)<((0:Nat):Int))=false by simp]
    simp only[Bool.not_true,Bool.not_false,Bool.and_false,wzcn,bd_s]
    rw[ck_t (by simp),if_pos ⟨p,fun h=>by omega⟩,it_f (by simp),qz3 (by omega)]
   ·rw[show decide ((0:Int)<(k:Int))=true by simp;omega]
    simp only[Bool.not_true,Bool.not_false,Bool.and_self,qzbx,bd_s]
    rw[ck_t (by simp[inB];omega),wz9f hs (by omega)]
    simp only[bd_s]
    by_cases p2:(l.getD (k-1) default).To≤s.From
    ·rw[if_pos ⟨p,fun _=>p2⟩,it_f (by simpa using p2),qz3 (by omega)]
    ·rw[if_neg (fun e=>p2 (e.2 (by omega))),it_t (by simpa using p2)]
  ·rw[decide_eq_false p]
   simp only[Bool.not_true,Bool.not_false,Bool.false_and,wzcn,bd_s]
   rw[ck_t (by simp),if_neg (fun e=>p e.1),it_t (by simp)]
 ·simp only[wz5d]
  rw[it_n (by omega)]
def hisR(h:wz2c):Prop:=0≤h.From∧h.Stages.length≤40000∧h.From≤1402560-(h.Stages.length:Int)∧∀s,s∈h.Stages→0≤s∧s≤1000
instance (h:wz2c):Decidable (hisR h):=inferInstanceAs (Decidable (_∧_))
theorem wz9v{l:List Int}{g:Int→Option Bool}(hl:l.length≤1048576)(p:Int→Bool)(hg:∀s,s∈l→g s=some (p s)):wz29 l g=some ((scan (fun k s=>if p s then some (k:Int) else none) 0 l).getD (-1)):=by
 unfold wz29
 rw[wz3m (l:=l) (fun k s=>if p s then some (k:Int) else none) (by omega) ?_ ?_]
 ·simp only[bd_s];exact wz5y
 ·intro k s hs
  have hk:=(List.getElem?_eq_some_iff.1 hs).1
  simp only[wz3d]
  rw[it_d (by omega),at_e rfl hs]
  simp only[bd_s]
  rw[hg s (List.mem_of_getElem? hs)]
  simp only[bd_s]
  cases p s with
  |true=>rw[wzdh];rfl
  |false=>rw[qzil,qz3 (by omega)];rfl
 ·simp only[wz3d]
  rw[it_n (by omega)]
theorem wz99{p:Int→Bool}:∀(l:List Int) (k:Nat),(0≤(scan (fun k s=>if p s then some (k:Int) else none) k l).getD (-1))↔∃s,s∈l∧p s=true
 |[],k=>by simp[scan]
 |x :: l,k=>by
  have:=wz99 (p:=p) l (k+1)
  unfold scan
  by_cases h:p x=true
  ·simp[h]
  ·have h':p x=false:=by simpa using h
   simp only[h',Bool.false_eq_true,if_false,this,List.mem_cons,exists_eq_or_imp,false_or]
theorem wz9u{h:wz2c}(hl:h.Stages.length≤1048576):wz40 h=some (decide (hisR h)):=by
 unfold wz40
 by_cases p1:0≤h.From∧h.Stages.length≤40000
 ·rw[show(bif decide (0≤h.From) then decide ((h.Stages.length:Int)≤40000) else false)=true by simp;omega]
  rw[ck_t (by simp[inB];omega)]
  simp only[cond_true]
  by_cases p2:h.From≤1402560-(h.Stages.length:Int)
  ·rw[decide_eq_true p2,qzbx]
   unfold jz8
   rw[wz9v (g:=fun a0=>wz5j a0) hl (fun s=>bif decide (s<0) then true else decide (1000<s)) (fun s _=>rfl)]
   simp only[bd_s,cond_true]
   congr 1
   rw[Bool.eq_iff_iff,Bool.not_eq_true',decide_eq_false_iff_not,decide_eq_true_eq,wz99]
   constructor
   ·intro e
    refine⟨p1.1,p1.2,p2,fun s hs=>?_⟩
    refine Decidable.byContradiction fun e2=>e ⟨s,hs,?_⟩
    simp
    omega
   ·rintro⟨_,_,_,e⟩ ⟨s,hs,e2⟩
    have:=e s hs
    simp at e2
    omega
  ·rw[decide_eq_false p2,wzcn]
   simp only[bd_s,cond_false]
   rw[decide_eq_false (fun e=>p2 e.2.2.1)]
 ·rw[show(bif decide (0≤h.From) then decide ((h.Stages.length:Int)≤40000) else false)=false by simp;omega]
  rw[ck_t (by simp)]
  simp only[cond_false,wzcn,bd_s]
  rw[decide_eq_false (fun e=>p1 ⟨e.1,e.2.1⟩)]
theorem jzbk{h:wz2c}(hl:h.Stages.length≤1048576):wz4t h=some (decide (hisR h)):=by
 unfold wz4t
 rw[ck_t (by simp[inB];omega)]
 by_cases p1:h.From<0∨40000<h.Stages.length∨1402560-(h.Stages.length:Int)<h.From
 ·rw[it_t (by rcases p1 with p1|p1|p1<;>simp<;>omega)]
  rw[decide_eq_false (fun e=>by obtain⟨e1,e2,e3,_⟩:=e;omega)]
 ·rw[it_f (by simp;omega)]
  rw[wz3m (l:=h.Stages) (fun k s=>if s<0∨1000<s then some false else none) (by omega) ?_ ?_]
  ·simp only[bd_s]
   cases hsc:scan (fun(k:Nat) (s:Int)=>if s<0∨1000<s then some false else none) 0 h.Stages with
   |none =>
    have:=wz6o _ _ hsc
    simp only[sOut]
    rw[decide_eq_true]
    refine⟨by omega,by omega,by omega,fun s hs=>?_⟩
    obtain⟨i,hi,rfl⟩:=List.getElem_of_mem hs
    have:=this i _ (List.getElem?_eq_getElem hi)
    simp at this
    omega
   |some b =>
    simp only[sOut]
    have hb:b=false:=by
     have:∀(k:Nat) (l:List Int),scan (fun(k:Nat) (s:Int)=>if s<0∨1000<s then some false else none) k l=some b→b=false:=by
      intro k l
      induction l generalizing k with
      |nil=>intro e;cases e
      |cons x l ih =>
       intro e
       unfold scan at e
       split at e
       ·rename_i o ho
        cases e
        split at ho
        ·cases ho;rfl
        ·cases ho
       ·exact ih _ e
     exact this _ _ hsc
    subst hb
    rw[decide_eq_false]
    intro e
    have:=jzax (f:=fun(k:Nat) (s:Int)=>if s<0∨1000<s then some false else none) 0 h.Stages (fun i x hx=>by
     have:=e.2.2.2 x (List.mem_of_getElem? hx)
     rw[if_neg (by omega)])
    rw[hsc]at this;cases this
  ·intro k s hs
   have hk:=(List.getElem?_eq_some_iff.1 hs).1
   simp only[wz46]
   rw[it_d (by omega),at_e rfl hs]
   simp only[bd_s]
   by_cases q:s<0
   ·rw[decide_eq_true q]
    simp only[Bool.not_true,wzcn,bd_s,cond_true]
    rw[wzdh,if_pos (.inl q)]
   ·rw[decide_eq_false q]
    simp only[Bool.not_false,qzbx,bd_s,cond_false]
    by_cases q2:1000<s
    ·rw[it_d q2,if_pos (.inr q2)]
    ·rw[it_n q2,if_neg (by omega),qz3 (by omega)]
  ·simp only[wz46]
   rw[it_n (by omega)]
noncomputable def gapF(h:wz2c)(k:Nat)(s:wz2b):Option Int:=if s.From<h.From∨h.From+(h.Stages.length:Int)<s.To then some 19 else none
noncomputable def levE(h:wz2c)(l:List wz2b)(lv:qza):Int :=
 if wz4s l≠0 then wz4s l else if ¬hisR h then 1 else(scan (gapF h) 0 l).getD (if Vd lv then 0 else 1)
structure HSz(h:wz2c)(l:List wz2b):Prop where
 l:LSz l
 n:h.Stages.length≤1048576
theorem wz53{h:wz2c}{l:List wz2b}{lv:qza}(H:HSz h l)(hv:Sz 134217728 lv):wz2z h l lv=some (levE h l lv):=by
 unfold wz2z levE
 rw[jzbd H.l]
 simp only[bd_s]
 by_cases p1:wz4s l=0
 ·rw[qzk5 p1,if_neg (by simpa using p1),wz9u H.n]
  simp only[bd_s]
  by_cases p2:hisR h
  ·rw[qzk5 p2,if_neg (by simpa using p2)]
   rw[wz3m (l:=l) (gapF h) (by have:=H.l.len;omega) ?_ ?_]
   ·simp only[bd_s]
    cases scan (gapF h) 0 l with
    |some o=>rfl
    |none =>
     simp only[sOut,Option.getD_none]
     rw[qzga hv]
     simp only[bd_s]
     by_cases p3:Vd lv
     ·rw[qzk5 p3,if_pos p3]
     ·rw[qzhj p3,if_neg p3]
   ·intro k s hs
    have hk:=(List.getElem?_eq_some_iff.1 hs).1
    have hl:=H.l.len
    have q:=p2
    obtain⟨q1,q2,q3,_⟩:=q
    simp only[wz45]
    rw[it_d (by omega),at_e rfl hs]
    simp only[bd_s,gapF]
    rw[ck_t (by simp[inB];omega)]
    by_cases p4:s.From<h.From∨h.From+(h.Stages.length:Int)<s.To
    ·rw[if_pos p4,it_t (by rcases p4 with p4|p4<;>simp[p4])]
    ·rw[if_neg p4,it_f (by simp;omega),qz3 (by omega)]
   ·simp only[wz45]
    rw[it_n (by omega)]
  ·rw[qzhj p2,if_pos p2]
 ·rw[qzhj p1,if_pos p1]
theorem wz52{h:wz2c}{l:List wz2b}{lv:qza}(H:HSz h l)(hv:Sz 134217728 lv):wz23 h l lv=some (levE h l lv):=by
 unfold wz23 levE
 rw[jzbj H.l]
 simp only[bd_s]
 by_cases p1:wz4s l=0
 ·rw[qzk5 p1,if_neg (by simpa using p1),jzbk H.n]
  simp only[bd_s]
  by_cases p2:hisR h
  ·rw[qzk5 p2,if_neg (by simpa using p2)]
   rw[wz3m (l:=l) (gapF h) (by have:=H.l.len;omega) ?_ ?_]
   ·simp only[bd_s]
    cases scan (gapF h) 0 l with
    |some o=>rfl
    |none =>
     simp only[sOut,Option.getD_none]
     rw[wzol hv]
     simp only[bd_s]
     by_cases p3:Vd lv
     ·rw[qzk5 p3,if_pos p3]
     ·rw[qzhj p3,if_neg p3]
   ·intro k s hs
    have hk:=(List.getElem?_eq_some_iff.1 hs).1
    have hl:=H.l.len
    have q:=p2
    obtain⟨q1,q2,q3,_⟩:=q
    simp only[wz5c]
    rw[it_d (by omega),at_e rfl hs]
    simp only[bd_s,gapF]
    by_cases p5:s.From<h.From
    ·rw[decide_eq_true p5]
     simp only[Bool.not_true,wzcn,bd_s]
     rw[ck_t (by simp),if_pos (.inl p5),it_t (by simp)]
    ·rw[decide_eq_false p5]
     simp only[Bool.not_false,qzbx,bd_s]
     rw[ck_t (by simp[inB];omega)]
     by_cases p4:h.From+(h.Stages.length:Int)<s.To
     ·rw[if_pos (.inr p4),it_t (by simp[p4])]
     ·rw[if_neg (by omega),it_f (by simp;omega),qz3 (by omega)]
   ·simp only[wz5c]
    rw[it_n (by omega)]
  ·rw[qzhj p2,if_pos p2]
 ·rw[qzhj p1,if_pos p1]
structure CrvR(c:wz2d):Prop where
 sz:CSz c
 pos:0<c.Points.length
 len:c.Points.length≤16
 st:∀p,p∈c.Points→-1000≤p.Stage∧p.Stage≤2000
 vd:∀p,p∈c.Points→Vd p.Flow
 asc:∀k (h:k+1<c.Points.length),c.Points[k].Stage<c.Points[k+1].Stage
theorem wz62{c:wz2d}(h:CSz c)(e:wz5h c=0):CrvR c:=by
 unfold wz5h at e
 split at e
 ·cases e
 ·rename_i hl
  have hsc:scan (crvF c.Points) 0 c.Points=none:=by
   cases hs:scan (crvF c.Points) 0 c.Points with
   |none=>rfl
   |some o =>
    rw[hs]at e
    have e:o=0:=e
    subst e
    have:∀(k:Nat) (l:List wz2g),scan (crvF c.Points) k l=some 0→False:=by
     intro k l
     induction l generalizing k with
     |nil=>intro e;cases e
     |cons x l ih =>
      intro e
      unfold scan at e
      split at e
      ·rename_i o ho
       cases e
       unfold crvF at ho
       split at ho
       ·cases ho
       ·split at ho
        ·cases ho
        ·split at ho<;>cases ho
      ·exact ih _ e
    exact(this _ _ hs).elim
  have at':∀i (hi:i<c.Points.length),crvF c.Points i c.Points[i]=none:=fun i hi=>by
   have:=wz6o _ _ hsc i _ (List.getElem?_eq_getElem hi)
   rwa [Nat.zero_add]at this
  have key:∀i (hi:i<c.Points.length),(-1000≤c.Points[i].Stage∧c.Points[i].Stage≤2000)∧Vd c.Points[i].Flow∧(0<i→¬c.Points[i].Stage≤(c.Points.getD (i-1) default).Stage):=fun i hi=>by
   have:=at' i hi
   unfold crvF at this
   split at this
   ·cases this
   ·rename_i h1
    split at this
    ·cases this
    ·rename_i h2
     split at this
     ·cases this
     ·rename_i h3
      exact⟨by omega,Decidable.byContradiction fun e=>h2 (.inl e),fun h0 h4=>h3 ⟨h0,.inl h4⟩⟩
  refine⟨h,by omega,by omega,fun p hp=>?_,fun p hp=>?_,fun k hk=>?_⟩
  ·obtain⟨i,hi,rfl⟩:=List.getElem_of_mem hp
   exact(key i hi).1
  ·obtain⟨i,hi,rfl⟩:=List.getElem_of_mem hp
   exact(key i hi).2.1
  ·have:=(key (k+1) hk).2.2 (by omega)
   simp[List.getD,show k<c.Points.length by omega]at this
   exact this
theorem jzd5{n d:Int}(h1:-999999999999999≤n)(h2:n≤999999999999999)(h3:-999999999999999≤d)(h4:d≤999999999999999)(h0:d≠0):wzl7 n d=some ⟨rof ((n:Rat) / (d:Rat)),0⟩:=by
 unfold wzl7
 rw[wzn5 h1 h2,wzn5 h3 h4]
 simp only[bd_s]
 rw[it_f (show(bif !true then true else !true)=false from rfl),it_n h0,wzne h1 h2,wzne h3 h4]
 simp only[bd_s]
 have e1:sv (bs d.natAbs)≠0:=by rw[wzj];omega
 rw[wzkp (Nat.le_trans (qzwm (by omega)) (by omega)) (Nat.le_trans (qzwm (by omega)) (by omega)) e1]
 simp only[bd_s,wzj]
 rw[←wzeu n,←wzeu d,jzh1 _ _ (by omega) (by omega),Nat.mul_one,Nat.one_mul]
 rfl
structure Nx(l:List wz2g)(s:Int)(n:Nat):Prop where
 le:n≤l.length
 lo:∀k (h:k<l.length),k<n→l[k].Stage≤s
 hi:∀k (h:k<l.length),n≤k→s<l[k].Stage
theorem Nx.uniq{l:List wz2g}{s:Int}{n m:Nat}(h:Nx l s n)(k:Nx l s m):n=m:=by
 rcases Nat.lt_trichotomy n m with e|e|e
 ·have:=h.hi n (by have:=k.le;omega) (Nat.le_refl _)
  have:=k.lo n (by have:=k.le;omega) e
  omega
 ·exact e
 ·have:=k.hi m (by have:=h.le;omega) (Nat.le_refl _)
  have:=h.lo m (by have:=h.le;omega) e
  omega
noncomputable def wz34(l:List wz2g)(s:Int)(n:Nat):Rat :=
 if n=0 then 0 else if n=l.length then rq (l.getD (n-1) default).Flow else
  rq (l.getD (n-1) default).Flow+(((s-(l.getD (n-1) default).Stage:Int):Rat) / (((l.getD n default).Stage-(l.getD (n-1) default).Stage:Int):Rat))*(rq (l.getD n default).Flow-rq (l.getD (n-1) default).Flow)
theorem wz3o{α:Type}[Inhabited α]{l:List α}{k:Nat}(h:k<l.length):l.getD k default=l[k]:=by simp[List.getD,h]
theorem jzag{c:wz2d}(H:CrvR c):∀(j k:Nat) (hk:k<c.Points.length) (hj:j<k),(c.Points[j]'(by omega)).Stage<c.Points[k].Stage:=by
 intro j k hk hj
 induction k with
 |zero=>omega
 |succ k ih =>
  have h1:=H.asc k hk
  by_cases e:j=k
  ·subst e;exact h1
  ·exact Int.lt_trans (ih (by omega) (by omega)) h1
theorem wz8g{c:wz2d}(H:CrvR c){s:Int}(hs:-100000≤s∧s≤100000){n:Nat}(hn:Nx c.Points s n):Sz 4194304 (rof (wz34 c.Points s n)) ∧
  (0<n→n<c.Points.length→qzlk (s-(c.Points.getD (n-1) default).Stage) ((c.Points.getD n default).Stage-(c.Points.getD (n-1) default).Stage)=some (rof (((s-(c.Points.getD (n-1) default).Stage:Int):Rat) / (((c.Points.getD n default).Stage-(c.Points.getD (n-1) default).Stage:Int):Rat)),0) ∧
   wzl7 (s-(c.Points.getD (n-1) default).Stage) ((c.Points.getD n default).Stage-(c.Points.getD (n-1) default).Stage)=some ⟨rof (((s-(c.Points.getD (n-1) default).Stage:Int):Rat) / (((c.Points.getD n default).Stage-(c.Points.getD (n-1) default).Stage:Int):Rat)),0⟩ ∧
   ∀(x:qza),x=rof (((s-(c.Points.getD (n-1) default).Stage:Int):Rat) / (((c.Points.getD n default).Stage-(c.Points.getD (n-1) default).Stage:Int):Rat)) →
    (bd (qzbh (c.Points.getD n default).Flow (c.Points.getD (n-1) default).Flow) fun r3=>bd (qzcw x r3) fun r4=>bd (qzbi (c.Points.getD (n-1) default).Flow r4) fun r5=>some r5)=some (rof (wz34 c.Points s n)) ∧
    ∀{β:Type} (K:qza→Option β),(bd (wzlk (c.Points.getD n default).Flow (c.Points.getD (n-1) default).Flow) fun r3=>bd (wzkr x r3) fun r4=>bd (wzj9 (c.Points.getD (n-1) default).Flow r4) fun r5=>K r5)=K (rof (wz34 c.Points s n))):=by
 unfold wz34
 have hle:=hn.le
 by_cases h0:n=0
 ·rw[if_pos h0]
  exact⟨Sz.zero _,fun h=>by omega⟩
 rw[if_neg h0]
 have h1:n-1<c.Points.length:=by omega
 have hp:c.Points.getD (n-1) default∈c.Points:=by rw[wz3o h1];exact List.getElem_mem h1
 have s1:=(H.sz.sz _ hp)
 by_cases h2:n=c.Points.length
 ·rw[if_pos h2]
  refine⟨(wznu s1).mono (by omega),fun _ h=>by omega⟩
 rw[if_neg h2]
 have h3:n<c.Points.length:=by omega
 have hq:c.Points.getD n default∈c.Points:=by rw[wz3o h3];exact List.getElem_mem h3
 have s2:=(H.sz.sz _ hq)
 have t1:=H.st _ hp
 have t2:=H.st _ hq
 have t3:(c.Points.getD (n-1) default).Stage<(c.Points.getD n default).Stage:=by
  rw[wz3o h1,wz3o h3];exact jzag H (n-1) n h3 (by omega)
 generalize c.Points.getD (n-1) default=p at *
 generalize c.Points.getD n default=q at *
 obtain⟨m1,m2⟩:=jzcp (n:=s-p.Stage) (d:=q.Stage-p.Stage) (by omega) (by omega) (by omega) (by omega) (by omega)
 have m3:=jzd5 (n:=s-p.Stage) (d:=q.Stage-p.Stage) (by omega) (by omega) (by omega) (by omega) (by omega)
 obtain⟨d1,d2⟩:=qzg8 s2 s1 (by omega) (by omega) (by omega) (by omega)
 have d3:=wzt2 s2 s1 (by omega) (by omega) (by omega) (by omega)
 generalize (((s-p.Stage:Int):Rat) / ((q.Stage-p.Stage:Int):Rat))=z at *
 obtain⟨u1,u2⟩:=qzi5 m2 d2 (by omega) (by omega) (by omega) (by omega)
 have u3:=wzqm m2 d2 (by omega) (by omega) (by omega) (by omega)
 rw[qzs,qzs]at u1 u2 u3
 obtain⟨v1,v2⟩:=qziy s1 u2 (by omega) (by omega) (by omega) (by omega)
 have v3:=wzod s1 u2 (by omega) (by omega) (by omega) (by omega)
 rw[qzs]at v1 v2 v3
 refine⟨v2.mono (by omega),fun _ _=>⟨m1,m3,fun x hx=>⟨?_,fun K=>?_⟩⟩⟩
 ·rw[hx,d1]
  simp only[bd_s]
  rw[u1]
  simp only[bd_s]
  rw[v1];rfl
 ·rw[hx,d3]
  simp only[bd_s]
  rw[u3]
  simp only[bd_s]
  rw[v3];rfl
theorem wz9k{c:wz2d}(H:CrvR c)(s:Int):∃n,Nx c.Points s n∧wz4u (c.Points.length:Int) (fun a0=>wz39 a0 c s)=some (n:Int):=by
 have hl:=H.len
 unfold wz4u
 obtain⟨o,e,n,rfl,hn⟩:=vzf (s:=((0:Int),(c.Points.length:Int))) (body:=wz5f (fun a0=>wz39 a0 c s)) (fun t=>∃i j:Nat,t=((i:Int),(j:Int))∧i≤j∧j≤c.Points.length∧(∀k (h:k<c.Points.length),k<i→c.Points[k].Stage≤s)∧(∀k (h:k<c.Points.length),j≤k→s<c.Points[k].Stage)) (fun t=>(t.2-t.1).toNat) (fun o=>∃n:Nat,o=(n:Int)∧Nx c.Points s n) (by
  rintro t ⟨i,j,rfl,hij,hj,lo,hi⟩
  simp only[wz5f]
  by_cases hlt:i<j
  ·left
   have hmid:Int.fdiv (((i:Int)+(j:Int))%18446744073709551616) 2=(((i+j) / 2:Nat):Int):=by
    rw[show(((i:Int)+(j:Int))%18446744073709551616)=((i+j:Nat):Int) by omega,Int.fdiv_eq_ediv_of_nonneg _ (by omega)]
    omega
   have hm:(i+j) / 2<c.Points.length:=by omega
   rw[it_d (by omega),qz3 (by omega),hmid,qz3 (by omega)]
   simp only[wz39]
   rw[at_e rfl (List.getElem?_eq_getElem hm)]
   simp only[bd_s]
   by_cases hst:s<c.Points[(i+j) / 2].Stage
   ·rw[qzk5 hst]
    refine⟨_,rfl,⟨i,(i+j) / 2,rfl,by omega,by omega,lo,fun k hk h2=>?_⟩,by dsimp only;omega⟩
    by_cases e:k=(i+j) / 2
    ·subst e;exact hst
    ·exact Int.lt_trans hst (jzag H _ k hk (by omega))
   ·rw[qzhj hst,qz3 (by omega)]
    refine⟨_,rfl,⟨(i+j) / 2+1,j,by simp,by omega,hj,fun k hk h2=>?_,hi⟩,by dsimp only;omega⟩
    by_cases e:k=(i+j) / 2
    ·subst e;omega
    ·have:=jzag H k ((i+j) / 2) hm (by omega)
     omega
  ·right
   rw[it_n (by omega)]
   obtain rfl:i=j:=by omega
   exact⟨_,rfl,i,rfl,hj,lo,hi⟩) ⟨0,c.Points.length,rfl,by omega,Nat.le_refl _,fun k _ h=>by omega,fun k h h2=>by omega⟩ (by show((c.Points.length:Int)-0).toNat<_;omega)
 exact⟨n,hn,by rw[e];rfl⟩
theorem jzc9{c:wz2d}(H:CrvR c){s:Int}(hs:-100000≤s∧s≤100000){n:Nat}(hn:Nx c.Points s n):wz6g c s=some (rof (wz34 c.Points s n)):=by
 obtain⟨m,hm,e⟩:=wz9k H s
 obtain rfl:=hn.uniq hm
 have hle:=hn.le
 have hl:=H.len
 unfold wz6g
 rw[e]
 simp only[bd_s]
 by_cases h0:n=0
 ·subst h0
  rw[it_d (by simp)]
  unfold wz34
  rw[if_pos rfl,jzen]
 ·rw[it_n (by omega),qz3 (by omega)]
  have h1:n-1<c.Points.length:=by omega
  rw[at_e (n:=n-1) (by omega) (List.getElem?_eq_getElem h1),←wz3o h1]
  simp only[bd_s]
  have hp:c.Points.getD (n-1) default∈c.Points:=by rw[wz3o h1];exact List.getElem_mem h1
  by_cases h2:n=c.Points.length
  ·rw[it_d (by omega)]
   unfold wz34
   rw[if_neg h0,if_pos h2,qzyo (H.vd _ hp)]
  ·rw[it_n (by omega)]
   have h3:n<c.Points.length:=by omega
   rw[at_e rfl (List.getElem?_eq_getElem h3),←wz3o h3]
   simp only[bd_s]
   have hq:c.Points.getD n default∈c.Points:=by rw[wz3o h3];exact List.getElem_mem h3
   have t1:=H.st _ hp
   have t2:=H.st _ hq
   obtain⟨_,hk⟩:=wz8g H hs hn
   obtain⟨k1,_,k2⟩:=hk (by omega) h3
   rw[qz3 (by omega),qz3 (by omega),k1]
   simp only[bd_s]
   exact(k2 _ rfl).1
theorem jzet{c:wz2d}(H:CrvR c){s:Int}(hs:-100000≤s∧s≤100000){n:Nat}(hn:Nx c.Points s n):wz5r c s=some (rof (wz34 c.Points s n)):=by
 have hle:=hn.le
 have hl:=H.len
 unfold wz5r
 have key:=qznm (s:=((0:Int),(⟨false,[],[]⟩:qza))) (body:=wz6c c s) (fun t=>∃k:Nat,t.1=(k:Int)∧k≤n∧(k=0→n=0→t.2=rof 0)∧(0<k→k=n→t.2=rof (wz34 c.Points s n))∧(k=0→t.2=rof 0)) (fun t=>c.Points.length-t.1.toNat) (rof (wz34 c.Points s n)) (by
  rintro⟨tk,b⟩ ⟨k,rfl,hk,_,hb2,hb3⟩
  dsimp only at hb2 hb3
  simp only[wz6c]
  by_cases hkl:k<c.Points.length
  ·rw[it_d (by omega),at_e rfl (List.getElem?_eq_getElem hkl)]
   simp only[bd_s]
   by_cases hkn:k<n
   ·have hst:=hn.lo k hkl hkn
    left
    rw[it_n (by omega),qz3 (by omega)]
    rw[ck_t (by simp[inB];omega)]
    by_cases hk1:k+1<c.Points.length
    ·rw[show decide ((k:Int)+1<(c.Points.length:Int))=true by simp;omega]
     simp only[qzbx,cond_true]
     rw[at_e (n:=k+1) (by omega) (List.getElem?_eq_getElem hk1)]
     simp only[bd_s]
     by_cases hsn:s<c.Points[k+1].Stage
     ·have hkn1:n=k+1:=by
       refine Decidable.byContradiction fun e=>?_
       have:=hn.lo (k+1) hk1 (by omega)
       omega
      rw[it_d hsn,qz3 (by omega)]
      have t1:=H.st _ (List.getElem_mem hkl)
      have t2:=H.st _ (List.getElem_mem hk1)
      rw[qz3 (by omega),qz3 (by omega)]
      obtain⟨_,hkk⟩:=wz8g H hs hn
      obtain⟨_,k1,k2⟩:=hkk (by omega) (by omega)
      have g1:c.Points.getD (n-1) default=c.Points[k]:=by rw[hkn1,Nat.add_sub_cancel,wz3o hkl]
      have g2:c.Points.getD n default=c.Points[k+1]:=by rw[hkn1,wz3o hk1]
      rw[g1,g2]at k1 k2
      rw[k1]
      simp only[bd_s]
      rw[(k2 _ rfl).2]
      rw[qz3 (by omega)]
      refine⟨_,rfl,⟨k+1,by simp,by omega,fun h=>by omega,fun _ _=>rfl,fun h=>by omega⟩,by dsimp only;omega⟩
     ·rw[it_n hsn,qz3 (by omega)]
      refine⟨_,rfl,⟨k+1,by simp,by omega,fun h=>by omega,fun _ e=>?_,fun h=>by omega⟩,by dsimp only;omega⟩
      exfalso
      exact hsn (hn.hi (k+1) hk1 (by omega))
    ·rw[show decide ((k:Int)+1<(c.Points.length:Int))=false by simp;omega]
     simp only[wzcn,bd_s,cond_false]
     rw[qzil,qz3 (by omega)]
     have hnl:n=c.Points.length:=by omega
     refine⟨_,rfl,⟨k+1,by simp,by omega,fun h=>by omega,fun _ e=>?_,fun h=>by omega⟩,by dsimp only;omega⟩
     unfold wz34
     have g1:c.Points.getD (n-1) default=c.Points[k]:=by rw[←e,Nat.add_sub_cancel,wz3o hkl]
     rw[if_neg (by omega),if_pos hnl,g1,qzyo (H.vd _ (List.getElem_mem hkl))]
   ·obtain rfl:k=n:=by omega
    right
    rw[it_d (hn.hi k hkl (Nat.le_refl _))]
    by_cases h0:k=0
    ·rw[hb3 h0];unfold wz34;rw[if_pos h0]
    ·rw[hb2 (by omega) rfl]
  ·right
   obtain rfl:k=n:=by omega
   rw[it_n (by omega)]
   by_cases h0:k=0
   ·rw[hb3 h0];unfold wz34;rw[if_pos h0]
   ·rw[hb2 (by omega) rfl]) ⟨0,rfl,by omega,fun _ _=>rfl,fun h=>by omega,fun _=>rfl⟩ (by show c.Points.length-_<_;omega)
 rw[key];rfl
section
variable {α β ω σ:Type}
theorem jzct{body:σ→Option (σ⊕ω)}(st:Nat→σ)(n:Nat)(hn:n<4611686018427387904)(hs:∀k,k<n→body (st k)=some (.inl (st (k+1)))){o:ω}(he:body (st n)=some (.inr o)){s:σ}(h0:s=st 0):lp body s=some o:=by
 obtain⟨o',e,ho⟩:=jzd2 (body:=body) st (fun k=>k≤n) (fun k=>n-k) (fun o'=>o'=o) (by
  intro k hk
  by_cases h:k<n
  ·exact .inl ⟨k+1,hs k h,h,by omega⟩
  ·right
   obtain rfl:k=n:=by omega
   exact⟨_,he,rfl⟩) 0 h0 (Nat.zero_le _) (by omega)
 rw[e,ho]
theorem wz69{body:σ→Option (σ⊕ω)}{l:List α}(st:Nat→σ)(hl:l.length<4611686018427387904)(hs:∀k x,l[k]?=some x→body (st k)=some (.inl (st (k+1)))){o:ω}(he:body (st l.length)=some (.inr o)){s:σ}(h0:s=st 0):lp body s=some o :=
 jzct st l.length hl (fun k hk=>hs k _ (List.getElem?_eq_getElem hk)) he h0
theorem jzlb{l:List α}{k:Nat}{x:α}(h:l[k]?=some x):l.take (k+1)=l.take k++[x]:=by rw[List.take_add_one,h];rfl
theorem jzal{f:Nat→α→Option ω}:∀(k:Nat) (l:List α) (i:Nat) (x:α) (o:ω),l[i]?=some x→f (k+i) x=some o→(∀j y,j<i→l[j]?=some y→f (k+j) y=none)→scan f k l=some o
 |k,[],i,x,o,h,_,_=>by simp at h
 |k,y :: l,0,x,o,h,e,_=>by simp at h;subst h;unfold scan;rw[show f k y=some o from e]
 |k,y :: l,i+1,x,o,h,e,hn=>by
  unfold scan
  rw[show f k y=none from hn 0 y (by omega) rfl]
  exact jzal (k+1) l i x o (by simpa using h) (by rwa [show k+1+i=k+(i+1) by omega]) fun j y' hj hy=>by
   have:=hn (j+1) y' (by omega) (by simpa using hy)
   rwa [show k+1+j=k+(j+1) by omega]
theorem wz5l{f:Nat→α→Option ω}{l:List α}(h:scan f 0 l=none){i:Nat}{x:α}(hx:l[i]?=some x):f i x=none:=by
 have:=wz6o 0 l h i x hx
 rwa [Nat.zero_add]at this
theorem wz8b{v:β}{k x:Int}:∀(m:List (Int×β)),mget keqI (mput keqI m k v) x=if x=k then some v else mget keqI m x
 |[]=>by
  by_cases h:x=k<;>simp[mput,mget,keqI,h]
 |p :: m=>by
  unfold mput
  by_cases h:k=p.1
  ·rw[show keqI k p.1=true by simp[keqI,h]]
   by_cases h2:x=k
   ·simp[mget,keqI,h2]
   ·have h3:keqI x k=false:=by simp[keqI,h2]
    have h4:keqI x p.1=false:=by rw[←h];exact h3
    simp only[mget,h3,h4,if_neg h2]
  ·rw[show keqI k p.1=false by simp[keqI,h]]
   have ih:=wz8b (v:=v) (k:=k) (x:=x) m
   by_cases h2:x=p.1
   ·have h3:keqI x p.1=true:=by simp[keqI,h2]
    simp only[mget,h3]
    rw[if_neg (fun e:x=k=>h (e.symm.trans h2))]
   ·have h3:keqI x p.1=false:=by simp[keqI,h2]
    simp only[mget,h3]
    exact ih
end
noncomputable def nxN(l:List wz2g)(s:Int):Nat:=open Classical in if h:∃n,Nx l s n then h.choose else 0
noncomputable def flw(c:wz2d)(s:Int):qza:=rof (wz34 c.Points s (nxN c.Points s))
theorem jzaa{c:wz2d}(H:CrvR c)(s:Int):Nx c.Points s (nxN c.Points s):=by
 have h:∃n,Nx c.Points s n:=let ⟨n,hn,_⟩:=wz9k H s;⟨n,hn⟩
 unfold nxN
 rw[dif_pos h]
 exact h.choose_spec
theorem jzhs{c:wz2d}(H:CrvR c){s:Int}(hs:-100000≤s∧s≤100000):Sz 4194304 (flw c s):=(wz8g H hs (jzaa H s)).1
theorem jzhy(c:wz2d)(s:Int):Vd (flw c s):=qz07 _
theorem jzeb{c:wz2d}(h:CSz c)(e:wz5h c=0){s:Int}(hs:-100000≤s∧s≤100000):wz5m c s=some (flw c s):=by
 unfold wz5m
 rw[wz7j h,bd_s,qzk5 e,jzc9 (wz62 h e) hs (jzaa (wz62 h e) s)]
 rfl
theorem jzgh{c:wz2d}(h:CSz c)(e:wz5h c=0){s:Int}(hs:-100000≤s∧s≤100000):wz5r c s=some (flw c s) :=
 jzet (wz62 h e) hs (jzaa (wz62 h e) s)
structure LevR(h:wz2c)(l:List wz2b):Prop where
 sz:HSz h l
 his:hisR h
 len:l.length≤400
 span:∀s,s∈l→wz50 s
 asc:∀k (hk:k+1<l.length),l[k].To≤l[k+1].From
 gap:∀s,s∈l→h.From≤s.From∧s.To≤h.From+(h.Stages.length:Int)
theorem wz88{α:Type}{f:Nat→α→Option Int}{z:Int}(hf:∀k x o,f k x=some o→o≠z):∀(k:Nat) (l:List α) ,scan f k l≠some z
 |k,[]=>by simp[scan]
 |k,x :: l=>by
  unfold scan
  intro e
  split at e
  ·rename_i o ho
   cases e
   exact hf _ _ _ ho rfl
  ·exact wz88 hf (k+1) l e
theorem jzdn{α:Type}{f:Nat→α→Option Int}{l:List α}(hf:∀k x o,f k x=some o→o≠0)(h:(scan f 0 l).getD 0=0):scan f 0 l=none:=by
 cases e:scan f 0 l with
 |none=>rfl
 |some o =>
  rw[e]at h
  have h:o=0:=h
  subst h
  exact(wz88 hf _ _ e).elim
theorem wz32{h:wz2c}{l:List wz2b}{lv:qza}(H:HSz h l)(e:levE h l lv=0):LevR h l∧Vd lv:=by
 unfold levE at e
 split at e
 ·rename_i h1;exact(h1 e).elim
 ·rename_i h1
  split at e
  ·cases e
  ·rename_i h2
   have h1:wz4s l=0:=Decidable.byContradiction h1
   have h2:hisR h:=Decidable.byContradiction h2
   unfold wz4s at h1
   split at h1
   ·cases h1
   ·rename_i h3
    have e1:=jzdn (f:=spnF l) (fun k x o h=>by unfold spnF at h;split at h<;>cases h;decide) h1
    have key:∀i (hi:i<l.length),wz50 l[i]∧(0<i→(l.getD (i-1) default).To≤l[i].From):=fun i hi=>by
     have:=wz5l e1 (List.getElem?_eq_getElem hi)
     unfold spnF at this
     split at this
     ·rename_i p;exact p
     ·cases this
    have e2:scan (gapF h) 0 l=none∧Vd lv:=by
     cases eg:scan (gapF h) 0 l with
     |none =>
      rw[eg]at e
      refine⟨rfl,Decidable.byContradiction fun hv=>?_⟩
      simp[hv]at e
     |some o =>
      rw[eg]at e
      have e:o=0:=e
      subst e
      exact(wz88 (f:=gapF h) (fun k x o h=>by unfold gapF at h;split at h<;>cases h;decide) _ _ eg).elim
    refine⟨⟨H,h2,by omega,fun s hs=>?_,fun k hk=>?_,fun s hs=>?_⟩,e2.2⟩
    ·obtain⟨i,hi,rfl⟩:=List.getElem_of_mem hs
     exact(key i hi).1
    ·have:=(key (k+1) hk).2 (by omega)
     simpa [List.getD,show k<l.length by omega] using this
    ·obtain⟨i,hi,rfl⟩:=List.getElem_of_mem hs
     have:=wz5l e2.1 (List.getElem?_eq_getElem hi)
     unfold gapF at this
     split at this
     ·cases this
     ·omega
def spt(s:wz2b):List Int:=(List.range (s.To-s.From).toNat).map fun(i:Nat)=>s.From+(i:Int)
def tks(l:List wz2b):List Int:=l.flatMap spt
def stg(h:wz2c)(t:Int):Int:=h.Stages.getD (t-h.From).toNat 0
noncomputable def spr(h:wz2c)(s:wz2b):List (Int×qza):=(spt s).map fun t=>(t,flw s.Curve (stg h t+s.Datum))
noncomputable def prs(h:wz2c)(l:List wz2b):List (Int×qza):=l.flatMap (spr h)
noncomputable def flws(h:wz2c)(l:List wz2b):List qza:=(prs h l).map (·.2)
theorem wz9c(h:wz2c)(l:List wz2b):(prs h l).map (·.1)=tks l:=by
 unfold prs tks
 rw[List.map_flatMap]
 congr 1
 funext s
 simp[spr,Function.comp_def]
theorem wz6i(s:wz2b):(spt s).length=(s.To-s.From).toNat:=by simp[spt]
theorem jzd7{s:wz2b}{k:Nat}(hk:k<(s.To-s.From).toNat):(spt s)[k]?=some (s.From+(k:Int)):=by simp[spt,hk]
theorem jzbw{s:wz2b}{t:Int}:t∈spt s↔s.From≤t∧t<s.To:=by
 unfold spt
 rw[List.mem_map]
 constructor
 ·rintro⟨i,hi,rfl⟩
  rw[List.mem_range]at hi
  omega
 ·rintro⟨h1,h2⟩
  exact⟨(t-s.From).toNat,List.mem_range.2 (by omega),by omega⟩
theorem jzhp{l:List wz2b}(h:∀s,s∈l→wz50 s):(tks l).length≤1402560*l.length:=by
 induction l with
 |nil=>simp[tks]
 |cons s l ih =>
  have h1:=ih fun s' hs'=>h s' (List.mem_cons_of_mem _ hs')
  have h2:=h s (List.mem_cons_self ..)
  have e:tks (s :: l)=spt s++tks l:=rfl
  obtain⟨p1,p2,p3,_⟩:=h2
  rw[e,List.length_append,wz6i,List.length_cons]
  omega
theorem wz21(h:wz2c)(l:List wz2b):(prs h l).length=(tks l).length:=by rw[←wz9c h l,List.length_map]
theorem wz3b(h:wz2c)(l:List wz2b):(flws h l).length=(tks l).length:=by rw[←wz21 h l];simp[flws]
theorem LevR.tks{h:wz2c}{l:List wz2b}(H:LevR h l):(tks l).length≤561024000:=by
 have:=jzhp H.span
 have:=H.len
 omega
theorem LevR.far{h:wz2c}{l:List wz2b}(H:LevR h l):∀(i j:Nat) (hj:j<l.length) (hi:i<j),(l[i]'(by omega)).To≤l[j].From:=by
 intro i j hj hi
 induction j with
 |zero=>omega
 |succ j ih =>
  have h1:=H.asc j hj
  by_cases e:i=j
  ·subst e;exact h1
  ·have h2:=ih (by omega) (by omega)
   have h3:=(H.span _ (List.getElem_mem (show j<l.length by omega))).2.1
   omega
theorem LevR.stg{h:wz2c}{l:List wz2b}(H:LevR h l){s:wz2b}(hs:s∈l){t:Int}(h1:s.From≤t)(h2:t<s.To):at? h.Stages (t-h.From)=some (stg h t)∧(0≤stg h t∧stg h t≤1000)∧(-1000≤s.Datum∧s.Datum≤1000)∧(0≤t∧t<1402560)∧(0≤t-h.From∧t-h.From≤1402560):=by
 have g:=H.gap s hs
 have r:=H.span s hs
 obtain⟨r1,r2,r3,r4,r5,r6,r7⟩:=r
 obtain⟨q1,q2,q3,q4⟩:=H.his
 have hk:(t-h.From).toNat<h.Stages.length:=by omega
 have e:Go.Am.stg h t=h.Stages[(t-h.From).toNat]:=by simp[Go.Am.stg,List.getD,hk]
 refine⟨?_,?_,⟨r4,r5⟩,by omega,by omega⟩
 ·rw[e];exact at_e (n:=(t-h.From).toNat) (by omega) (List.getElem?_eq_getElem hk)
 ·rw[e];exact q4 _ (List.getElem_mem hk)
theorem LevR.szf{h:wz2c}{l:List wz2b}(H:LevR h l):∀x,x∈flws h l→Sz 4194304 x∧Vd x:=by
 intro x hx
 unfold flws prs at hx
 obtain⟨p,hp,rfl⟩:=List.mem_map.1 hx
 obtain⟨s,hs,hp⟩:=List.mem_flatMap.1 hp
 obtain⟨t,ht,rfl⟩:=List.mem_map.1 hp
 obtain⟨t1,t2⟩:=jzbw.1 ht
 obtain⟨e1,e2,e3,e4,e5⟩:=H.stg hs t1 t2
 exact⟨jzhs (wz62 (H.sz.l.sz s hs).c (H.span s hs).2.2.2.2.2.2) (by omega),jzhy _ _⟩
theorem jze2{l:List wz2b}{k:Nat}{s:wz2b}(h:l[k]?=some s):tks (l.take (k+1))=tks (l.take k)++spt s:=by
 rw[jzlb h];simp[tks]
theorem jzei{h:wz2c}{l:List wz2b}{k:Nat}{s:wz2b}(e:l[k]?=some s):prs h (l.take (k+1))=prs h (l.take k)++spr h s:=by
 rw[jzlb e];simp[prs]
theorem jzer(l:List wz2b)(k:Nat):(tks (l.take k)).length≤(tks l).length:=by
 have:tks l=tks (l.take k)++tks (l.drop k):=by unfold tks;rw[←List.flatMap_append,List.take_append_drop]
 rw[this,List.length_append];omega
theorem wz5x{α:Type}(l:List α)(k:Nat):(l.take k).length≤l.length:=by rw[List.length_take];omega
theorem wz97{h:wz2c}{l:List wz2b}(H:LevR h l):wz3y l=some (tks l):=by
 unfold wz3y
 have hl:=H.len
 have hT:=H.tks
 rw[wz69 (l:=l) (fun k=>((k:Int),tks (l.take k))) (by omega) (o:=tks l) ?_ ?_ ?_]
 ·rfl
 ·intro k s hs
  have hk:=(List.getElem?_eq_some_iff.1 hs).1
  have hm:=List.mem_of_getElem? hs
  obtain⟨r1,r2,r3,_⟩:=H.span s hm
  have e1:=jze2 hs
  have e2:=jzer l (k+1)
  rw[e1,List.length_append,wz6i]at e2
  simp only[wz47]
  rw[it_d (by omega),at_e rfl hs]
  simp only[bd_s]
  rw[jzct (fun i=>(s.From+(i:Int),tks (l.take k)++(spt s).take i)) (s.To-s.From).toNat (by omega) (o:=tks (l.take k)++spt s) ?_ ?_ (by simp)]
  ·simp only[bd_s]
   rw[qz3 (by omega),←e1]
   rfl
  ·intro i hi
   simp only[wz48]
   rw[at_e rfl hs]
   simp only[bd_s]
   have e3:=jzlb (jzd7 hi)
   rw[it_d (by omega),ck_d,qz3 (by omega),List.append_assoc,←e3]
   ·rw[show s.From+((i+1:Nat):Int)=s.From+(i:Int)+1 by omega]
   ·rw[List.append_assoc,←e3,List.length_append]
    have:=wz5x (spt s) (i+1)
    rw[wz6i]at this
    omega
  ·simp only[wz48]
   rw[at_e rfl hs]
   simp only[bd_s]
   rw[it_n (by omega)]
   rw[List.take_of_length_le (l:=spt s) (by rw[wz6i];omega)]
 ·simp only[wz47]
  rw[it_n (by omega),List.take_length]
 ·rfl
def inS(s:wz2b)(t:Int):Prop:=s.From≤t∧t<s.To
instance (s:wz2b)(t:Int):Decidable (inS s t):=inferInstanceAs (Decidable (_∧_))
def atF(t:Int)(k:Nat)(s:wz2b):Option Int:=if inS s t then some (k:Int) else none
theorem jzeh{l:List wz2b}(hl:l.length≤1048576)(t:Int):wz5g l t=some ((scan (atF t) 0 l).getD (-1)):=by
 unfold wz5g
 rw[wz3m (l:=l) (atF t) (by omega) ?_ ?_]
 ·simp only[bd_s];exact wz5y
 ·intro k s hs
  have hk:=(List.getElem?_eq_some_iff.1 hs).1
  simp only[wz6b]
  rw[it_d (by omega),at_e rfl hs]
  simp only[bd_s]
  unfold atF
  by_cases h1:s.From≤t
  ·rw[decide_eq_true h1,qzbx]
   simp only[bd_s,cond_true]
   by_cases h2:t<s.To
   ·rw[it_d h2,if_pos ⟨h1,h2⟩]
   ·rw[it_n h2,if_neg (fun e=>h2 e.2),qz3 (by omega)]
  ·rw[decide_eq_false h1,wzcn]
   simp only[bd_s,cond_false]
   rw[qzil,if_neg (fun e=>h1 e.1),qz3 (by omega)]
 ·simp only[wz6b]
  rw[it_n (by omega)]
theorem jze0{h:wz2c}{l:List wz2b}(H:LevR h l){i:Nat}{s:wz2b}(hs:l[i]?=some s){t:Int}(ht:inS s t):wz5g l t=some (i:Int):=by
 have hl:=H.len
 have hi:=(List.getElem?_eq_some_iff.1 hs).1
 have es:l[i]=s:=(List.getElem?_eq_some_iff.1 hs).2
 rw[jzeh (by omega),jzal (f:=atF t) 0 l i s (i:Int) hs (by rw[Nat.zero_add];exact if_pos ht)]
 ·rfl
 ·intro j y hj hy
  refine if_neg fun e=>?_
  obtain⟨hjl,rfl⟩:=List.getElem?_eq_some_iff.1 hy
  have:=H.far j i hi hj
  rw[es]at this
  have h1:=ht.1
  have h2:=e.2
  omega
theorem jzl8{l:List wz2b}(hl:l.length≤1048576){t:Int}(ht:∀s,s∈l→¬inS s t):wz5g l t=some (-1):=by
 rw[jzeh hl,jzax (f:=atF t)]
 ·rfl
 ·intro i x hx
  exact if_neg (ht x (List.mem_of_getElem? hx))
theorem jzg3{h:wz2c}{l:List wz2b}(H:LevR h l){s:wz2b}(hs:s∈l){t:Int}(ht:inS s t):wz4j h l t=some (flw s.Curve (stg h t+s.Datum)):=by
 obtain⟨i,hi⟩:=List.getElem?_of_mem hs
 obtain⟨e1,e2,e3,e4,e5⟩:=H.stg hs ht.1 ht.2
 unfold wz4j
 rw[jze0 H hi ht]
 simp only[bd_s]
 rw[at_e rfl hi]
 simp only[bd_s]
 rw[qz3 (by omega),e1]
 simp only[bd_s]
 rw[qz3 (by omega),jzgh (H.sz.l.sz s hs).c (H.span s hs).2.2.2.2.2.2 (by omega)]
 rfl
theorem jzgz{h:wz2c}{l:List wz2b}{p:Int×qza}(hp:p∈prs h l):∃s,s∈l∧inS s p.1∧p.2=flw s.Curve (stg h p.1+s.Datum):=by
 obtain⟨s,hs,hp⟩:=List.mem_flatMap.1 hp
 obtain⟨t,ht,rfl⟩:=List.mem_map.1 hp
 exact⟨s,hs,jzbw.1 ht,rfl⟩
theorem jzf5{h:wz2c}{l:List wz2b}(H:LevR h l){p:Int×qza}(hp:p∈prs h l):wz4j h l p.1=some p.2:=by
 obtain⟨s,hs,hi,e⟩:=jzgz hp
 rw[jzg3 H hs hi,e]
theorem wz8x{h:wz2c}{l:List wz2b}(H:LevR h l):wz3k h l=some (flws h l):=by
 unfold wz3k
 have hT:=H.tks
 rw[wz97 H]
 simp only[bd_s]
 rw[wz69 (l:=prs h l) (fun k=>((k:Int),(flws h l).take k)) (by rw[wz21];omega) (o:=flws h l) ?_ ?_ ?_]
 ·rfl
 ·intro k p hp
  have hk:=(List.getElem?_eq_some_iff.1 hp).1
  have hk2:=hk
  rw[wz21]at hk2
  have e1:(tks l)[k]?=some p.1:=by rw[←wz9c h l,List.getElem?_map,hp];rfl
  have e2:(flws h l)[k]?=some p.2:=by unfold flws;rw[List.getElem?_map,hp];rfl
  have e3:=jzlb e2
  simp only[wz5v]
  rw[it_d (by omega),at_e rfl e1]
  simp only[bd_s]
  rw[jzf5 H (List.mem_of_getElem? hp)]
  simp only[bd_s]
  rw[←e3,ck_d,qz3 (by omega)]
  ·rfl
  ·have:=wz5x (flws h l) (k+1)
   rw[wz3b]at this
   omega
 ·simp only[wz5v]
  rw[it_n (by rw[wz21];omega),List.take_of_length_le (by rw[wz3b,wz21];omega)]
 ·rfl
def jzf1(st:List (Int×qza)→Option Bool)(l:List (Int×qza)):Prop:=∀k,k<l.length→st (l.take (k+1))=some false
theorem wz6w{h:wz2c}{l:List wz2b}(H:LevR h l){st:List (Int×qza)→Option Bool}(hst:jzf1 st (prs h l)):wz2x l h st=some (prs h l):=by
 have hl:=H.len
 have hT:=H.tks
 unfold wz2x
 rw[wz69 (l:=l) (fun k=>((k:Int),prs h (l.take k))) (by omega) (o:=.inl (prs h l)) ?_ ?_ ?_]
 ·rfl
 ·intro k s hs
  have hk:=(List.getElem?_eq_some_iff.1 hs).1
  have hm:=List.mem_of_getElem? hs
  have hsp:=H.span s hm
  obtain⟨r1,r2,r3,r4,r5,r6,r7⟩:=hsp
  have hc:=(H.sz.l.sz s hm).c
  have e1:=jzei (h:=h) hs
  have e0:prs h l=prs h (l.take k)++spr h s++prs h (l.drop (k+1)):=by
   rw[←e1];unfold prs;rw[←List.flatMap_append,List.take_append_drop]
  simp only[wz38]
  rw[it_d (by omega),at_e rfl hs]
  simp only[bd_s]
  obtain⟨o,eo,m,rfl⟩:=vzf (s:=(s.From,([]:List (Int×qza)),prs h (l.take k))) (body:=wz4b h st s) (fun t=>∃(i:Nat) (m:List (Int×qza)),i≤(s.To-s.From).toNat∧(∀x v,mget keqI m x=some v→v=flw s.Curve (x+s.Datum))∧t=(s.From+(i:Int),m,prs h (l.take k)++(spr h s).take i)) (fun t=>(s.To-t.1).toNat) (fun o=>∃m,o=.inl (m,prs h (l.take k)++spr h s)) (by
   rintro t ⟨i,m,hi,hm2,rfl⟩
   simp only[wz4b]
   by_cases hlt:i<(s.To-s.From).toNat
   ·left
    have ht:inS s (s.From+(i:Int)):=⟨by omega,by omega⟩
    obtain⟨g1,g2,g3,g4,g5⟩:=H.stg hm ht.1 ht.2
    have e2:(spr h s)[i]?=some (s.From+(i:Int),flw s.Curve (stg h (s.From+(i:Int))+s.Datum)):=by
     unfold spr;rw[List.getElem?_map,jzd7 hlt];rfl
    have e3:=jzlb e2
    have hlen:(spr h s).length=(s.To-s.From).toNat:=by unfold spr;rw[List.length_map,wz6i]
    have e4:st (prs h (l.take k)++(spr h s).take (i+1))=some false:=by
     have:=hst ((prs h (l.take k)).length+i) (by rw[e0];simp only[List.length_append];omega)
     rw[e0,List.append_assoc,Nat.add_assoc,List.take_length_add_append,List.take_append_of_le_length (by omega)]at this
     exact this
    generalize stg h (s.From+(i:Int))=x at *
    rw[it_d (by omega),qz3 (by omega),g1]
    simp only[bd_s]
    have fin:∀m',(∀x v,mget keqI m' x=some v→v=flw s.Curve (x+s.Datum))→∃s',(bd (st ((prs h (l.take k)++(spr h s).take i)++[(s.From+(i:Int),flw s.Curve (x+s.Datum))])) fun s1=>ite' s1 (some (.inr (.inr ((prs h (l.take k)++(spr h s).take i)++[(s.From+(i:Int),flw s.Curve (x+s.Datum))])))) (ck (inB .i64 (s.From+(i:Int)+1))<|some (.inl (s.From+(i:Int)+1,m',(prs h (l.take k)++(spr h s).take i)++[(s.From+(i:Int),flw s.Curve (x+s.Datum))]))))=some ((.inl s':(Int×(List (Int×qza))×(List (Int×qza)))⊕(((List (Int×qza))×(List (Int×qza)))⊕(List (Int×qza)))))∧(∃(i:Nat) (m:List (Int×qza)),i≤(s.To-s.From).toNat∧(∀x v,mget keqI m x=some v→v=flw s.Curve (x+s.Datum))∧s'=(s.From+(i:Int),m,prs h (l.take k)++(spr h s).take i))∧(s.To-s'.1).toNat<(s.To-(s.From+(i:Int))).toNat:=by
     intro m' hm'
     rw[List.append_assoc,←e3,e4]
     simp only[bd_s]
     rw[qzil,qz3 (by omega)]
     exact⟨_,rfl,⟨i+1,m',by omega,hm',by rw[show s.From+((i+1:Nat):Int)=s.From+(i:Int)+1 by omega]⟩,by dsimp only;omega⟩
    cases hg:mget keqI m x with
    |none =>
     rw[show(!Option.isSome (none:Option qza))=true from rfl,wzdh,qz3 (by omega),jzeb hc r7 (by omega)]
     simp only[bd_s]
     exact fin _ fun y v hv=>by
      rw[wz8b]at hv
      split at hv
      ·rename_i e;subst e;cases hv;rfl
      ·exact hm2 y v hv
    |some v =>
     have:=hm2 x v hg
     rw[show(!Option.isSome (some v))=false from rfl,qzil,bd_s,show Option.getD (some v) (qza.mk false [] [])=v from rfl]
     subst this
     exact fin m hm2
   ·right
    rw[it_n (by omega)]
    have hlen:(spr h s).length=(s.To-s.From).toNat:=by unfold spr;rw[List.length_map,wz6i]
    exact⟨_,rfl,m,by rw[List.take_of_length_le (l:=spr h s) (by omega)]⟩) ⟨0,[],Nat.zero_le _,fun x v hv=>by simp[mget]at hv,by simp⟩ (by show(s.To-s.From).toNat<_;omega)
  rw[eo]
  simp only[bd_s]
  rw[qz3 (by omega),←e1]
  rfl
 ·simp only[wz38]
  rw[it_n (by omega),List.take_length]
 ·rfl
theorem jzbc{σ:Type}{body:(Int×qza)→σ→Option (σ⊕Unit)}{l:List (Int×qza)}(st:Nat→σ)(hs:∀k p,l[k]?=some p→body p (st k)=some (.inl (st (k+1)))):∀k,k≤l.length→wz20 body (l.take k) (st 0)=some (.inl (st k)):=by
 have app:∀(a:List (Int×qza)) (p:Int×qza) (s s':σ),wz20 body a s=some (.inl s')→wz20 body (a++[p]) s=(match body p s' with | some (.inl z)=>some (.inl z) | some (.inr o)=>some (.inr o) | none=>none):=by
  intro a
  induction a with
  |nil =>
   intro p s s' e
   cases e
   simp only[List.nil_append,wz20]
   cases body p s with
   |none=>rfl
   |some r=>cases r<;>rfl
  |cons q a ih =>
   intro p s s' e
   simp only[wz20,List.cons_append]at e ⊢
   cases hb:body q s with
   |none=>rw[hb]at e;cases e
   |some r =>
    cases r with
    |inl z=>rw[hb]at e;exact ih p z s' e
    |inr o=>rw[hb]at e;cases e
 intro k
 induction k with
 |zero=>intro _;rfl
 |succ k ih =>
  intro hk
  have hx:=List.getElem?_eq_getElem (show k<l.length by omega)
  rw[jzlb hx,app _ _ _ _ (ih (by omega)),hs k _ hx]
theorem wz7f{σ:Type}{body:(Int×qza)→σ→Option (σ⊕Unit)}{l:List (Int×qza)}(st:Nat→σ)(hs:∀k p,l[k]?=some p→body p (st k)=some (.inl (st (k+1)))){s:σ}(h0:s=st 0):jzf1 (fun l=>wz4k body l s) l∧wz20 body l s=some (.inl (st l.length)):=by
 subst h0
 refine⟨fun k hk=>?_,?_⟩
 ·show wz4k body (l.take (k+1)) (st 0)=some false
  unfold wz4k
  rw[jzbc st hs (k+1) hk]
 ·have:=jzbc st hs l.length (Nat.le_refl _)
  rwa [List.take_length]at this
theorem wz7o{h:wz2c}{l:List wz2b}{k:Nat}{p:Int×qza}(e:(prs h l)[k]?=some p):(tks l)[k]?=some p.1∧(flws h l)[k]?=some p.2:=by
 constructor
 ·rw[←wz9c h l,List.getElem?_map,e];rfl
 ·unfold flws;rw[List.getElem?_map,e];rfl
theorem zr:Sz 134217728 (qza.mk false [] []):=Sz.zero _
theorem LevR.prs{h:wz2c}{l:List wz2b}(H:LevR h l):(prs h l).length≤561024000:=by rw[wz21];exact H.tks
noncomputable def abv(v:Rat)(L:List qza):Nat:=L.countP fun x=>decide (v≤rq x)
theorem wz8m(v:Rat)(L:List qza):abv v L≤L.length:=List.countP_le_length
theorem wz98{v:Rat}{L:List qza}{k:Nat}{x:qza}(e:L[k]?=some x):abv v (L.take (k+1))=if v≤rq x then abv v (L.take k)+1 else abv v (L.take k):=by
 unfold abv
 rw[jzlb e,List.countP_append,List.countP_singleton]
 by_cases h:v≤rq x<;>simp[h]
theorem wzxb{p q:Rat}:0≤cmpQ p q↔q≤p:=by
 unfold cmpQ
 by_cases h:p<q
 ·rw[if_pos h]
  exact⟨fun e=>by omega,fun e=>(Rat.not_lt.2 e h).elim⟩
 ·rw[if_neg h]
  exact⟨fun _=>Rat.not_lt.1 h,fun _=>by split<;>omega⟩
theorem wz7g{p q:Rat}:0<cmpQ p q↔q<p:=by
 unfold cmpQ
 by_cases h:p<q
 ·rw[if_pos h]
  exact⟨fun e=>by omega,fun e=>(Rat.not_lt.2 (Rat.le_of_lt h) e).elim⟩
 ·rw[if_neg h]
  by_cases h2:q<p
  ·rw[if_pos h2];exact⟨fun _=>h2,fun _=>by omega⟩
  ·rw[if_neg h2];exact⟨fun e=>by omega,fun e=>(h2 e).elim⟩
theorem jzls{p q:Rat}:cmpQ p q=0↔p=q:=by
 unfold cmpQ
 by_cases h:p<q
 ·rw[if_pos h];exact⟨fun e=>by omega,fun e=>(Rat.lt_irrefl (e▸h)).elim⟩
 ·rw[if_neg h]
  by_cases h2:q<p
  ·rw[if_pos h2];exact⟨fun e=>by omega,fun e=>(Rat.lt_irrefl (e▸h2)).elim⟩
  ·rw[if_neg h2];exact⟨fun _=>Rat.le_antisymm (Rat.not_lt.1 h2) (Rat.not_lt.1 h),fun _=>rfl⟩
theorem wz8a{f:List qza}{lv:qza}{n:Nat}(hf:f.length≤561024000)(hz:∀x,x∈f→Sz 4194304 x)(hv:Sz n lv)(n1:1≤n)(hn:n≤33554432):wz30 f lv=some (abv (rq lv) f:Int):=by
 unfold wz30
 rw[wz69 (l:=f) (fun k=>((abv (rq lv) (f.take k):Int),(k:Int))) (by omega) (o:=(abv (rq lv) f:Int)) ?_ ?_ ?_]
 ·rfl
 ·intro k x hx
  have hk:=(List.getElem?_eq_some_iff.1 hx).1
  simp only[wz44]
  rw[it_d (by omega),at_e rfl hx]
  simp only[bd_s]
  rw[wzle (hz x (List.mem_of_getElem? hx)) hv (by omega) n1 (by omega) hn,wz98 hx]
  simp only[bd_s]
  by_cases h1:rq lv≤rq x
  ·have h2:=wz8m (rq lv) (f.take k)
   have:=wz5x f k
   rw[it_d (wzxb.2 h1),if_pos h1,qz3 (by omega),qz3 (by omega)]
   rfl
  ·rw[it_n (fun e=>h1 (wzxb.1 e)),if_neg h1,qz3 (by omega)]
   rfl
 ·simp only[wz44]
  rw[it_n (by omega),List.take_length]
 ·rfl
noncomputable def bix(P:Rat→Rat→Prop)(L:List qza):Nat→Nat
 |0=>0
 |k+1=>open Classical in if P (rq (L.getD (k+1) default)) (rq (L.getD (bix P L k) default)) then k+1 else bix P L k
noncomputable def extr(P:Rat→Rat→Prop)(h:wz2c)(l:List wz2b):wz2f×Int :=
 if levE h l (qza.mk false [] [])=0 then
  if(tks l).length=0 then(⟨qza.mk false [] [],0⟩,8) else(⟨(flws h l).getD (bix P (flws h l) ((tks l).length-1)) default,(tks l).getD (bix P (flws h l) ((tks l).length-1)) default⟩,0)
 else(⟨qza.mk false [] [],0⟩,levE h l (qza.mk false [] []))
theorem wz2y{α:Type}[Inhabited α]{l:List α}{k:Nat}{x:α}(h:l[k]?=some x):l.getD k default=x:=by simp[List.getD,h]
noncomputable def low(h:wz2c)(l:List wz2b):wz2f×Int:=extr (fun p q=>p<q) h l
section
variable {α β:Type}[DecidableEq α]{eq:α→α→Bool}
structure CntI(m:List (α×Int))(L:List α):Prop where
 get:∀x,mget eq m x=if x∈L then some (L.count x:Int) else none
 nd:(m.map (·.1)).Nodup
 mem:∀x,x∈m.map (·.1)↔x∈L
theorem CntI.getD{m:List (α×Int)}{L:List α}(h:CntI (eq:=eq) m L)(x:α):Option.getD (mget eq m x) 0=(L.count x:Int):=by
 rw[h.get x]
 split
 ·rfl
 ·rename_i hx;rw[List.count_eq_zero_of_not_mem hx];rfl
theorem wz9r(he:∀a b,eq a b=decide (a=b)){v:β}{k x:α}:∀(m:List (α×β)),mget eq (mput eq m k v) x=if x=k then some v else mget eq m x
 |[]=>by
  by_cases h:x=k<;>simp[mput,mget,he,h]
 |p :: m=>by
  unfold mput
  by_cases h:k=p.1
  ·rw[show eq k p.1=true by simp[he,h]]
   by_cases h2:x=k
   ·simp[mget,he,h2]
   ·have h3:eq x k=false:=by simp[he,h2]
    have h4:eq x p.1=false:=by rw[←h];exact h3
    simp only[mget,h3,h4,if_neg h2]
  ·rw[show eq k p.1=false by simp[he,h]]
   have ih:=wz9r he (v:=v) (k:=k) (x:=x) m
   by_cases h2:x=p.1
   ·have h3:eq x p.1=true:=by simp[he,h2]
    simp only[mget,h3]
    rw[if_neg (fun e:x=k=>h (e.symm.trans h2))]
   ·have h3:eq x p.1=false:=by simp[he,h2]
    simp only[mget,h3]
    exact ih
theorem wz9h(he:∀a b,eq a b=decide (a=b)){v w:β}{k:α}:∀(m:List (α×β)),mset (mput eq m k v) (midx eq m k) w=mput eq m k w∧midx eq m k<(mput eq m k v).length
 |[]=>by simp[mput,midx,mset]
 |p :: m=>by
  unfold mput midx
  by_cases h:k=p.1
  ·rw[show eq k p.1=true by simp[he,h]]
   simp[mset]
  ·rw[show eq k p.1=false by simp[he,h]]
   have:=wz9h he (v:=v) (w:=w) (k:=k) m
   simp[mset,this]
theorem wz7m(he:∀a b,eq a b=decide (a=b)){v:β}{k:α}:∀(m:List (α×β)),(mput eq m k v).map (·.1)=if k∈m.map (·.1) then m.map (·.1) else m.map (·.1)++[k]
 |[]=>by simp[mput]
 |p :: m=>by
  unfold mput
  by_cases h:k=p.1
  ·rw[show eq k p.1=true by simp[he,h]]
   simp[h]
  ·rw[show eq k p.1=false by simp[he,h]]
   have ih:=wz7m he (v:=v) (k:=k) m
   simp only[List.map_cons,ih,List.mem_cons,h,false_or]
   split<;>simp
theorem CntI.step(he:∀a b,eq a b=decide (a=b)){m:List (α×Int)}{L:List α}(h:CntI (eq:=eq) m L)(x:α):CntI (eq:=eq) (mput eq m x ((L.count x:Int)+1)) (L++[x]):=by
 refine⟨fun y=>?_,?_,fun y=>?_⟩
 ·rw[wz9r he,h.get y,List.count_append]
  by_cases e:y=x
  ·subst e;simp
  ·rw[if_neg e]
   simp[List.mem_append,e,List.count_singleton,show ¬x=y from fun e2=>e e2.symm]
 ·rw[wz7m he]
  split
  ·exact h.nd
  ·rename_i hx
   rw[List.nodup_append]
   refine⟨h.nd,by simp,?_⟩
   intro a ha b hb
   rw[List.mem_singleton]at hb
   subst hb
   intro e;subst e;exact hx ha
 ·rw[wz7m he]
  split
  ·rename_i hx
   rw[h.mem,List.mem_append,List.mem_singleton]
   refine⟨.inl,fun e=>e.elim id fun e=>?_⟩
   subst e;exact(h.mem _).1 hx
  ·rw[List.mem_append,List.mem_append,h.mem]
end
theorem jzcf(a b:qza):wz2k a b=decide (a=b):=by
 rw[Bool.eq_iff_iff,decide_eq_true_eq]
 obtain⟨a1,a2,a3⟩:=a
 obtain⟨b1,b2,b3⟩:=b
 simp[wz2k]
def Dsc(D:List qza):Prop:=D.Pairwise fun a b=>rq b<rq a
theorem wz84{a b:qza}(ha:Vd a)(hb:Vd b)(h:rq a=rq b):a=b:=by rw[←qzyo ha,h,qzyo hb]
theorem jzad:∀{D E:List qza},Dsc D→Dsc E→(∀x,x∈D↔x∈E)→D=E
 |[],[],_,_,_=>rfl
 |[],y :: E,_,_,h=>by have:=(h y).2 (List.mem_cons_self ..);cases this
 |x :: D,[],_,_,h=>by have:=(h x).1 (List.mem_cons_self ..);cases this
 |x :: D,y :: E,hD,hE,h=>by
  obtain⟨d1,d2⟩:=List.pairwise_cons.1 hD
  obtain⟨e1,e2⟩:=List.pairwise_cons.1 hE
  have hxy:x=y:=by
   rcases List.mem_cons.1 ((h x).1 (List.mem_cons_self ..)) with e|e
   ·exact e
   ·rcases List.mem_cons.1 ((h y).2 (List.mem_cons_self ..)) with e'|e'
    ·exact e'.symm
    ·exact(Rat.lt_irrefl (Std.lt_trans (e1 x e) (d1 y e'))).elim
  subst hxy
  congr 1
  refine jzad d2 e2 fun z=>⟨fun hz=>?_,fun hz=>?_⟩
  ·rcases List.mem_cons.1 ((h z).1 (List.mem_cons_of_mem _ hz)) with e|e
   ·subst e;exact(Rat.lt_irrefl (d1 z hz)).elim
   ·exact e
  ·rcases List.mem_cons.1 ((h z).2 (List.mem_cons_of_mem _ hz)) with e|e
   ·subst e;exact(Rat.lt_irrefl (e1 z hz)).elim
   ·exact e
noncomputable def insD(x:qza):List qza→List qza
 |[]=>[x]
 |y :: l=>open Classical in if rq y<rq x then x :: y :: l else if rq x=rq y then y :: l else y :: insD x l
theorem wz8e{x:qza}(hx:Vd x):∀(D:List qza),(∀y,y∈D→Vd y)→∀z,z∈insD x D↔z=x∨z∈D
 |[],_,z=>by simp[insD]
 |y :: D,h,z=>by
  unfold insD
  split
  ·simp
  ·split
   ·rename_i e
    have:x=y:=wz84 hx (h y (List.mem_cons_self ..)) e
    subst this
    simp
   ·have:=wz8e hx D (fun y hy=>h y (List.mem_cons_of_mem _ hy)) z
    rw[List.mem_cons,List.mem_cons,this]
    constructor
    ·rintro(a|a|a)
     ·exact .inr (.inl a)
     ·exact .inl a
     ·exact .inr (.inr a)
    ·rintro(a|a|a)
     ·exact .inr (.inl a)
     ·exact .inl a
     ·exact .inr (.inr a)
theorem jza1{x:qza}(hx:Vd x):∀(D:List qza),(∀y,y∈D→Vd y)→Dsc D→Dsc (insD x D)
 |[],_,_=>by simp[insD,Dsc]
 |y :: D,h,hD=>by
  obtain⟨d1,d2⟩:=List.pairwise_cons.1 hD
  unfold insD
  split
  ·rename_i hlt
   refine List.pairwise_cons.2 ⟨fun z hz=>?_,hD⟩
   rcases List.mem_cons.1 hz with e|e
   ·subst e;exact hlt
   ·exact Std.lt_trans (d1 z e) hlt
  ·rename_i hlt
   split
   ·exact hD
   ·rename_i hne
    refine List.pairwise_cons.2 ⟨fun z hz=>?_,jza1 hx D (fun y hy=>h y (List.mem_cons_of_mem _ hy)) d2⟩
    rcases(wz8e hx D (fun y hy=>h y (List.mem_cons_of_mem _ hy)) z).1 hz with e | e
    ·subst e
     exact Rat.lt_iff_le_and_ne.2 ⟨Rat.not_lt.1 hlt,hne⟩
    ·exact d1 z e
theorem jza7(x:qza):∀(D:List qza),(insD x D).length≤D.length+1
 |[]=>by simp[insD]
 |y :: D=>by
  unfold insD
  have:=jza7 x D
  split
  ·simp
  ·split
   ·simp
   ·simp;omega
noncomputable def dsc(L:List qza):List qza:=L.foldl (fun D x=>insD x D) []
theorem jzex{L:List qza}{k:Nat}{x:qza}(h:L[k]?=some x):dsc (L.take (k+1))=insD x (dsc (L.take k)):=by
 unfold dsc;rw[jzlb h,List.foldl_append];rfl
theorem jzh6{L:List qza}(h:∀x,x∈L→Vd x):∀k,k≤L.length→Dsc (dsc (L.take k))∧(∀z,z∈dsc (L.take k)↔z∈L.take k)∧(dsc (L.take k)).length≤k:=by
 intro k
 induction k with
 |zero=>intro _;simp[dsc,Dsc]
 |succ k ih =>
  intro hk
  obtain⟨i1,i2,i3⟩:=ih (by omega)
  have hx:=List.getElem?_eq_getElem (show k<L.length by omega)
  have hv:=h _ (List.getElem_mem (show k<L.length by omega))
  have hD:∀y,y∈dsc (L.take k)→Vd y:=fun y hy=>h y (List.mem_of_mem_take ((i2 y).1 hy))
  have hlen:=jza7 L[k] (dsc (L.take k))
  rw[jzex hx]
  refine⟨jza1 hv _ hD i1,fun z=>?_,by omega⟩
  rw[wz8e hv _ hD,i2,jzlb hx,List.mem_append,List.mem_singleton]
  exact Or.comm
theorem wz5u{L:List qza}(h:∀x,x∈L→Vd x):Dsc (dsc L)∧(∀z,z∈dsc L↔z∈L)∧(dsc L).length≤L.length:=by
 have:=jzh6 h L.length (Nat.le_refl _)
 rwa [List.take_length]at this
section
variable {g:qza→qza→Option Int}
theorem wz61{a:qza}:∀(l:List qza) (z:qza),z∈wz3e g a l↔z=a∨z∈l
 |[],z=>by simp[wz3e]
 |b :: l,z=>by
  unfold wz3e
  split
  ·have:=wz61 (a:=a) l z
   rw[List.mem_cons,List.mem_cons,this]
   constructor
   ·rintro(e|e|e)
    ·exact .inr (.inl e)
    ·exact .inl e
    ·exact .inr (.inr e)
   ·rintro(e|e|e)
    ·exact .inr (.inl e)
    ·exact .inl e
    ·exact .inr (.inr e)
  ·simp
theorem wz6r:∀(l:List qza) (z:qza),z∈wz3l g l↔z∈l
 |[],z=>by simp[wz3l]
 |a :: l,z=>by
  unfold wz3l
  rw[wz61,wz6r l z,List.mem_cons]
variable {S:qza→Prop}
theorem wz77(hg:∀a b,S a→S b→g a b=some (cmpQ (rq b) (rq a))){a b:qza}(ha:S a)(hb:S b):gLt g a b=decide (rq b<rq a):=by
 unfold gLt
 rw[hg a b ha hb]
 exact decide_eq_decide.2 wz49
theorem wz8d(hg:∀a b,S a→S b→g a b=some (cmpQ (rq b) (rq a)))(hv:∀a,S a→Vd a){a:qza}(ha:S a):∀(l:List qza),(∀y,y∈l→S y)→a∉l→Dsc l→Dsc (wz3e g a l)
 |[],_,_,_=>by simp[wz3e,Dsc]
 |b :: l,h,hn,hD=>by
  obtain⟨d1,d2⟩:=List.pairwise_cons.1 hD
  have hb:=h b (List.mem_cons_self ..)
  have hl:∀y,y∈l→S y:=fun y hy=>h y (List.mem_cons_of_mem _ hy)
  unfold wz3e
  rw[wz77 hg hb ha]
  by_cases hlt:rq a<rq b
  ·rw[decide_eq_true hlt]
   refine List.pairwise_cons.2 ⟨fun z hz=>?_,wz8d hg hv ha l hl (fun e=>hn (List.mem_cons_of_mem _ e)) d2⟩
   rcases(wz61 l z).1 hz with e|e
   ·subst e;exact hlt
   ·exact d1 z e
  ·rw[decide_eq_false hlt]
   have hba:rq b<rq a:=Rat.lt_iff_le_and_ne.2 ⟨Rat.not_lt.1 hlt,fun e=>hn (by rw[wz84 (hv a ha) (hv b hb) e.symm];exact List.mem_cons_self ..)⟩
   refine List.pairwise_cons.2 ⟨fun z hz=>?_,hD⟩
   rcases List.mem_cons.1 hz with e|e
   ·subst e;exact hba
   ·exact Std.lt_trans (d1 z e) hba
theorem wz9m(hg:∀a b,S a→S b→g a b=some (cmpQ (rq b) (rq a)))(hv:∀a,S a→Vd a):∀(l:List qza),(∀y,y∈l→S y)→l.Nodup→Dsc (wz3l g l)
 |[],_,_=>by simp[wz3l,Dsc]
 |a :: l,h,hn=>by
  obtain⟨n1,n2⟩:=List.nodup_cons.1 hn
  unfold wz3l
  refine wz8d hg hv (h a (List.mem_cons_self ..)) _ (fun y hy=>h y (List.mem_cons_of_mem _ ((wz6r l y).1 hy))) (fun e=>n1 ((wz6r l a).1 e)) (wz9m hg hv l (fun y hy=>h y (List.mem_cons_of_mem _ hy)) n2)
theorem jzht(hg:∀a b,S a→S b→g a b=some (cmpQ (rq b) (rq a)))(hv:∀a,S a→Vd a){l:List qza}(h:∀y,y∈l→S y):gOk g l=true:=by
 unfold gOk
 rw[List.all_eq_true]
 intro a ha
 rw[List.all_eq_true]
 intro b hb
 have sa:=h a ha
 have sb:=h b hb
 rw[wz77 hg sa sa,wz77 hg sa sb,wz77 hg sb sa,hg a b sa sb]
 have t1:decide (rq a<rq a)=false:=decide_eq_false Rat.lt_irrefl
 have t2:(decide (rq b<rq a)||decide (rq a<rq b)||decide (a=b))=true:=by
  by_cases e1:rq b<rq a
  ·simp[e1]
  by_cases e2:rq a<rq b
  ·simp[e2]
  have:a=b:=wz84 (hv a sa) (hv b sb) (Rat.le_antisymm (Rat.not_lt.1 e1) (Rat.not_lt.1 e2))
  simp[this]
 rw[t1,t2]
 simp only[Option.isSome_some,Bool.not_false,Bool.and_self,Bool.true_and]
 rw[List.all_eq_true]
 intro c hc
 have sc:=h c hc
 rw[wz77 hg sb sc,wz77 hg sa sc]
 by_cases e1:rq b<rq a
 ·by_cases e2:rq c<rq b
  ·simp[Std.lt_trans e2 e1]
  ·simp[e2]
 ·simp[e1]
theorem jzef(hg:∀a b,S a→S b→g a b=some (cmpQ (rq b) (rq a)))(hv:∀a,S a→Vd a){l:List qza}{L:List qza}(h:∀y,y∈l→S y)(hn:l.Nodup)(hl:l.length<1000000000000)(hm:∀x,x∈l↔x∈L):wz8q g l=some (dsc L):=by
 unfold wz8q
 rw[ck_t (by rw[jzht hg hv h,decide_eq_true hl];rfl)]
 obtain⟨d1,d2,d3⟩:=wz5u (L:=L) fun x hx=>hv x (h x ((hm x).2 hx))
 congr 1
 exact jzad (wz9m hg hv l h hn) d1 fun x=>by rw[wz6r,hm,d2]
end
noncomputable def dwl(L:List qza)(x:qza):wz2e:=⟨x,(abv (rq x) L:Int)⟩
noncomputable def dwls(L:List qza):List wz2e:=(dsc L).map (dwl L)
theorem wz5t(L:List qza):(dwls L).length=(dsc L).length:=by simp[dwls]
theorem wz73{L:List qza}{k:Nat}{x:qza}(h:(dsc L)[k]?=some x):(dwls L)[k]?=some (dwl L x):=by simp[dwls,h]
theorem jzb0{L:List qza}(h:∀x,x∈L→Vd x){k:Nat}{d:qza}(hd:(dsc L)[k]?=some d):abv (rq d) L=L.countP (fun x=>decide (x∈(dsc L).take (k+1))):=by
 obtain⟨d1,d2,d3⟩:=wz5u h
 unfold abv
 refine List.countP_congr fun x hx=>?_
 rw[decide_eq_true_eq,decide_eq_true_eq]
 obtain⟨hk,rfl⟩:=List.getElem?_eq_some_iff.1 hd
 have hp:=List.pairwise_iff_getElem.1 d1
 constructor
 ·intro hle
  obtain⟨j,hj,rfl⟩:=List.getElem_of_mem ((d2 x).2 hx)
  refine Decidable.byContradiction fun hn=>?_
  have hkj:k<j:=by
   refine Decidable.byContradiction fun e=>hn ?_
   exact List.mem_take_iff_getElem.2 ⟨j,by omega,rfl⟩
  exact Rat.not_lt.2 hle (hp k j hk hj hkj)
 ·intro hm
  obtain⟨j,hj,rfl⟩:=List.mem_take_iff_getElem.1 hm
  by_cases e:j=k
  ·subst e;exact Rat.le_refl
  ·exact Rat.le_of_lt (hp j k (by omega) hk (by omega))
theorem jzes{L:List qza}(h:∀x,x∈L→Vd x){k:Nat}{d:qza}(hd:(dsc L)[k]?=some d):L.countP (fun x=>decide (x∈(dsc L).take (k+1)))=L.countP (fun x=>decide (x∈(dsc L).take k))+L.count d:=by
 obtain⟨d1,d2,d3⟩:=wz5u h
 have hnd:d∉(dsc L).take k:=by
  intro hm
  obtain⟨hk,rfl⟩:=List.getElem?_eq_some_iff.1 hd
  obtain⟨j,hj,e⟩:=List.mem_take_iff_getElem.1 hm
  have:=List.pairwise_iff_getElem.1 d1 j k (by omega) hk (by omega)
  rw[e]at this
  exact Rat.lt_irrefl this
 rw[jzlb hd]
 generalize (dsc L).take k=T at *
 clear h d1 d2 d3 hd
 induction L with
 |nil=>rfl
 |cons x L ih =>
  rw[List.countP_cons,List.countP_cons,List.count_cons,ih]
  by_cases e:x=d
  ·subst e;simp[hnd];omega
  ·simp[e];omega
theorem jzlc{l L:List qza}(hn:l.Nodup)(h:∀x,x∈l→x∈L):l.length≤L.length:=by
 induction l generalizing L with
 |nil=>exact Nat.zero_le _
 |cons a l ih =>
  obtain⟨n1,n2⟩:=List.nodup_cons.1 hn
  have ha:=h a (List.mem_cons_self ..)
  have:=ih (L:=L.erase a) n2 fun x hx=>(List.mem_erase_of_ne (fun e:x=a=>n1 (by rw[←e];exact hx))).2 (h x (List.mem_cons_of_mem _ hx))
  rw[List.length_erase_of_mem ha]at this
  have:=List.length_pos_of_mem ha
  rw[List.length_cons];omega
theorem jzdl{h:wz2c}{l:List wz2b}(H:HSz h l):wz26 h l=some (if levE h l (qza.mk false [] [])=0 then(dwls (flws h l),0) else([],levE h l (qza.mk false [] []))):=by
 unfold wz26
 rw[wz53 H zr]
 simp only[bd_s]
 by_cases e:levE h l (qza.mk false [] [])=0
 ·rw[qzk5 e,if_pos e]
  have R:=(wz32 H e).1
  have hp:=R.prs
  have hL:(flws h l).length=(prs h l).length:=by rw[wz3b,wz21]
  unfold wz2u
  simp only[bd_s]
  let st:Nat→List (qza×Int):=fun k=>((flws h l).take k).foldl (fun m x=>mput wz2k m x (Option.getD (mget wz2k m x) 0+1)) []
  have st1:∀k x,(flws h l)[k]?=some x→st (k+1)=mput wz2k (st k) x (Option.getD (mget wz2k (st k) x) 0+1):=fun k x hx=>by
   show((flws h l).take (k+1)).foldl _ []=_
   rw[jzlb hx,List.foldl_append];rfl
  have sI:∀k,k≤(flws h l).length→CntI (eq:=wz2k) (st k) ((flws h l).take k):=by
   intro k
   induction k with
   |zero=>intro _;exact⟨fun x=>by simp[st,mget],by simp[st],fun x=>by simp[st]⟩
   |succ k ih =>
    intro hk
    have hx:=List.getElem?_eq_getElem (show k<(flws h l).length by omega)
    have i:=ih (by omega)
    rw[st1 k _ hx,i.getD,jzlb hx]
    exact i.step jzcf _
  obtain⟨t1,t2⟩:=wz7f (body:=wz27) (l:=prs h l) st (fun k p hk=>by
   have e2:=(wz7o hk).2
   have hkl:=(List.getElem?_eq_some_iff.1 hk).1
   have i:=sI k (by omega)
   have hc:((flws h l).take k).count p.2≤(flws h l).length:=Nat.le_trans List.count_le_length (wz5x _ _)
   simp only[wz27]
   rw[st1 k _ e2,i.getD]
   obtain⟨m1,m2⟩:=wz9h jzcf (v:=(((flws h l).take k).count p.2:Int)) (w:=(((flws h l).take k).count p.2:Int)+1) (k:=p.2) (st k)
   rw[qz3 (by omega),ck_t (by unfold wz67;rw[decide_eq_true (by omega),decide_eq_true (by omega)];rfl),Int.toNat_natCast,m1]) (s:=([]:List (qza×Int))) rfl
  rw[wz6w R t1,bd_s,t2]
  simp only[bd_s]
  have i:=sI (prs h l).length (by omega)
  rw[List.take_of_length_le (by omega)]at i
  generalize st (prs h l).length=m at *
  have hS:∀x,x∈flws h l→Sz 4194304 x∧Vd x:=R.szf
  have hV:∀x,x∈flws h l→Vd x:=fun x hx=>(hS x hx).2
  obtain⟨d1,d2,d3⟩:=wz5u hV
  have hml:(m.map (·.1)).length≤(flws h l).length:=by
   exact jzlc i.nd fun x hx=>(i.mem x).1 hx
  unfold wz2r
  rw[jzef (S:=fun x=>Sz 4194304 x∧Vd x) (L:=flws h l) (fun a b ha hb=>by
   simp only[wz33]
   rw[jz9 hb.1 ha.1 (by omega) (by omega) (by omega) (by omega)]
   rfl) (fun a ha=>ha.2) (fun y hy=>hS y ((i.mem y).1 hy)) i.nd (by omega) i.mem]
  simp only[bd_s]
  rw[wz69 (l:=dsc (flws h l)) (fun k=>(((flws h l).countP (fun x=>decide (x∈(dsc (flws h l)).take k)):Int),(k:Int),(dwls (flws h l)).take k)) (by omega) (o:=dwls (flws h l)) ?_ ?_ ?_]
  ·rfl
  ·intro k d hd
   have hk:=(List.getElem?_eq_some_iff.1 hd).1
   have c1:=jzes hV hd
   have c2:=jzb0 hV hd
   have c3:=jzlb (wz73 hd)
   have c4:=wz8m (rq d) (flws h l)
   have c5:(dwls (flws h l)).length≤561024000:=by rw[wz5t];omega
   have c6:=wz5x (dwls (flws h l)) (k+1)
   simp only[wz3t]
   rw[it_d (by omega),at_e rfl hd]
   simp only[bd_s]
   rw[i.getD,show((flws h l).countP (fun x=>decide (x∈(dsc (flws h l)).take k)):Int)+((flws h l).count d:Int)=(abv (rq d) (flws h l):Int) by omega]
   rw[qz3 (by omega),show wz2e.mk d (abv (rq d) (flws h l):Int)=dwl (flws h l) d from rfl,←c3,ck_d (by omega),qz3 (by omega),c2]
   rfl
  ·simp only[wz3t]
   rw[it_n (by omega),List.take_of_length_le (by rw[wz5t];omega)]
  ·simp
 ·rw[qzhj e,if_neg e]
theorem jzlz{L:List qza}(hl:L.length≤561024000)(hS:∀x,x∈L→Sz 4194304 x∧Vd x){k:Nat}{x:qza}(hx:L[k]?=some x){D:List qza}(hD:∀y,y∈D→y∈L)(hDl:D.length≤L.length) :
  ∃d acc,lp (jzle k (D.map (dwl L)) L) (false,0,[])=some (d,acc)∧(bif d then acc else acc++[dwl L x])=(insD x D).map (dwl L)∧acc.length≤D.length+1:=by
 have hxm:=List.mem_of_getElem? hx
 obtain⟨o,e,d,acc,rfl,h1,h2⟩:=vzf (s:=(false,(0:Int),([]:List wz2e))) (body:=jzle k (D.map (dwl L)) L) (fun t=>∃(d:Bool) (i:Nat) (acc:List wz2e),t=(d,(i:Int),acc)∧i≤D.length∧acc.length≤i+1∧(d=false→acc.length≤i)∧acc++(bif d then D.drop i else insD x (D.drop i)).map (dwl L)=(insD x D).map (dwl L)) (fun t=>(D.length-t.2.1).toNat) (fun o=>∃d acc,o=(d,acc)∧(bif d then acc else acc++[dwl L x])=(insD x D).map (dwl L)∧acc.length≤D.length+1) (by
  rintro t ⟨d,i,acc,rfl,hi,ha,ha2,hinv⟩
  simp only[jzle,List.length_map]
  by_cases hlt:i<D.length
  ·left
   have hDi:=List.getElem?_eq_getElem hlt
   have hmi:(D.map (dwl L))[i]?=some (dwl L D[i]):=by rw[List.getElem?_map,hDi];rfl
   have hym:=hD _ (List.getElem_mem hlt)
   have hdrop:D.drop i=D[i] :: D.drop (i+1):=List.drop_eq_getElem_cons hlt
   generalize D[i]=y at *
   rw[it_d (by omega),at_e rfl hx,at_e rfl hmi]
   simp only[bd_s]
   rw[show(dwl L y).Flow=y from rfl,wzle (hS x hxm).1 (hS y hym).1 (by omega) (by omega) (by omega) (by omega)]
   simp only[bd_s]
   rw[hdrop]at hinv
   have fin:∀(d':Bool) (acc':List wz2e),acc'.length≤i+2→((bif d' then true else decide (cmpQ (rq x) (rq y)=0))=false→acc'.length+1≤i+1)→acc'.length+1≤i+2→(acc'++[dwl L y])++(bif (bif d' then true else decide (cmpQ (rq x) (rq y)=0)) then D.drop (i+1) else insD x (D.drop (i+1))).map (dwl L)=(insD x D).map (dwl L)→∃s',(ck (decide (List.length (acc'++[dwl L y])*48≤140737488355328))<|ck (inB .i64 ((i:Int)+1))<|some (.inl ((bif d' then true else decide (cmpQ (rq x) (rq y)=0)),(i:Int)+1,(acc'++[dwl L y]))):Option ((Bool×Int×List wz2e)⊕(Bool×List wz2e)))=some (.inl s')∧(∃(d:Bool) (i:Nat) (acc:List wz2e),s'=(d,(i:Int),acc)∧i≤D.length∧acc.length≤i+1∧(d=false→acc.length≤i)∧acc++(bif d then D.drop i else insD x (D.drop i)).map (dwl L)=(insD x D).map (dwl L))∧(D.length-s'.2.1).toNat<(D.length-(i:Int)).toNat:=by
    intro d' acc' q1 q2 q3 q4
    rw[ck_d (by rw[List.length_append,List.length_singleton];omega),qz3 (by omega)]
    exact⟨_,rfl,⟨_,i+1,_,rfl,by omega,by rw[List.length_append,List.length_singleton];omega,fun e=>by rw[List.length_append,List.length_singleton];exact q2 e,q4⟩,by dsimp only;omega⟩
   cases d with
   |true =>
    rw[show(bif decide (0<cmpQ (rq x) (rq y)) then !true else false)=false by cases decide (0<cmpQ (rq x) (rq y))<;>rfl,qzil]
    simp only[bd_s]
    refine fin true acc (by omega) (fun e=>by cases e) (by omega) ?_
    rw[←hinv]
    simp
   |false =>
    have ha3:=ha2 rfl
    rw[cond_false]at hinv
    by_cases hgt:rq y<rq x
    ·have hc:=wz7g.2 hgt
     rw[decide_eq_true hc,cond_true,show(!false)=true from rfl,wzdh]
     rw[wz8a hl (fun x hx=>(hS x hx).1) (hS x hxm).1 (by omega) (by omega)]
     simp only[bd_s]
     rw[show wz2e.mk x (abv (rq x) L:Int)=dwl L x from rfl,ck_d (by rw[List.length_append,List.length_singleton];omega)]
     simp only[bd_s]
     refine fin true _ (by rw[List.length_append,List.length_singleton];omega) (fun e=>by cases e) (by rw[List.length_append,List.length_singleton];omega) ?_
     rw[←hinv,insD,if_pos hgt]
     simp
    ·have hc:¬0<cmpQ (rq x) (rq y):=fun e=>hgt (wz7g.1 e)
     rw[decide_eq_false hc,cond_false,qzil]
     simp only[bd_s]
     refine fin false acc (by omega) (fun e=>by omega) (by omega) ?_
     rw[←hinv,insD,if_neg hgt,cond_false]
     by_cases he:rq x=rq y
     ·rw[if_pos he,decide_eq_true (jzls.2 he)]
      simp
     ·rw[if_neg he,decide_eq_false (fun e=>he (jzls.1 e))]
      simp
  ·right
   have hil:i=D.length:=by omega
   rw[it_n (by omega)]
   refine⟨_,rfl,d,acc,rfl,?_,by omega⟩
   rw[←hinv,hil,List.drop_length]
   cases d<;>simp[insD]) ⟨false,0,[],rfl,Nat.zero_le _,Nat.zero_le _,fun _=>Nat.le_refl _,by simp⟩ (by show((D.length:Int)-0).toNat<_;omega)
 exact⟨d,acc,e,h1,h2⟩
theorem jzl6{h:wz2c}{l:List wz2b}(H:HSz h l):jzlf h l=some (if levE h l (qza.mk false [] [])=0 then⟨dwls (flws h l),0⟩ else⟨[],levE h l (qza.mk false [] [])⟩):=by
 unfold jzlf
 rw[wz52 H zr]
 simp only[bd_s]
 by_cases e:levE h l (qza.mk false [] [])=0
 ·have R:=(wz32 H e).1
  rw[qzk5 e,if_pos e,wz8x R]
  simp only[bd_s]
  have hl:(flws h l).length≤561024000:=by rw[wz3b];exact R.tks
  have hS:=R.szf
  have hV:∀x,x∈flws h l→Vd x:=fun x hx=>(hS x hx).2
  generalize flws h l=L at *
  rw[wz69 (l:=L) (fun k=>((k:Int),(dsc (L.take k)).map (dwl L))) (by omega) (o:=dwls L) ?_ ?_ ?_]
  ·rfl
  ·intro k x hx
   have hk:=(List.getElem?_eq_some_iff.1 hx).1
   have hxm:=List.mem_of_getElem? hx
   obtain⟨d1,d2,d3⟩:=jzh6 hV k (by omega)
   simp only[jzlh]
   obtain⟨d,acc,w1,w2,w3⟩:=jzlz hl hS hx (D:=dsc (L.take k)) (fun y hy=>List.mem_of_mem_take ((d2 y).1 hy)) (by omega)
   rw[it_d (by omega),w1]
   simp only[bd_s]
   rw[jzex hx,←w2]
   cases d with
   |true =>
    rw[show(!true)=false from rfl,qzil]
    simp only[bd_s,cond_true]
    rw[qz3 (by omega)]
    rfl
   |false =>
    rw[show(!false)=true from rfl,wzdh,at_e rfl hx]
    simp only[bd_s,cond_false]
    rw[wz8a hl (fun x hx=>(hS x hx).1) (hS x hxm).1 (by omega) (by omega)]
    simp only[bd_s]
    rw[show wz2e.mk x (abv (rq x) L:Int)=dwl L x from rfl,ck_d (by rw[List.length_append,List.length_singleton];omega)]
    simp only[bd_s]
    rw[qz3 (by omega)]
    rfl
  ·simp only[jzlh]
   rw[it_n (by omega),List.take_length]
   rfl
  ·rfl
 ·rw[qzhj e,if_neg e]
theorem wz6q{α ω:Type}{f:Nat→α→Option ω}:∀(k:Nat) (l:List α) (o:ω),scan f k l=some o→∃i x,l[i]?=some x∧f (k+i) x=some o∧∀j y,j<i→l[j]?=some y→f (k+j) y=none
 |k,[],o,h=>by cases h
 |k,y :: l,o,h=>by
  unfold scan at h
  split at h
  ·rename_i o' ho
   cases h
   exact⟨0,y,rfl,ho,fun j y h=>by omega⟩
  ·rename_i hn
   obtain⟨i,x,h1,h2,h3⟩:=wz6q (k+1) l o h
   refine⟨i+1,x,by simpa using h1,by rwa [show k+(i+1)=k+1+i by omega],fun j z hj hz=>?_⟩
   cases j with
   |zero=>simp at hz;subst hz;exact hn
   |succ j =>
    have:=h3 j z (by omega) (by simpa using hz)
    rwa [show k+(j+1)=k+1+j by omega]
theorem jzis:wz3n=some true:=by decide +kernel
theorem wz9q(c:wz2d):∃b,wz25 c=some b∧(b=true→CSz c):=by
 unfold wz25
 by_cases h1:20<c.Points.length
 ·rw[it_d (by omega)]
  exact⟨_,rfl,fun e=>by cases e⟩
 ·rw[it_n (by omega)]
  rw[wz3m (l:=c.Points) (fun k (p:wz2g)=>if 12<p.Flow.Num.length∨12<p.Flow.Den.length then some false else none) (by omega) ?_ ?_]
  ·simp only[bd_s]
   cases hsc:scan (fun k (p:wz2g)=>if 12<p.Flow.Num.length∨12<p.Flow.Den.length then some false else none) 0 c.Points with
   |none =>
    refine⟨_,rfl,fun _=>⟨by omega,fun p hp=>?_⟩⟩
    obtain⟨i,hi⟩:=List.getElem?_of_mem hp
    have:=wz5l hsc hi
    split at this
    ·cases this
    ·exact⟨by omega,by omega⟩
   |some o =>
    refine⟨_,rfl,fun e=>?_⟩
    obtain⟨i,x,h1,h2,h3⟩:=wz6q _ _ _ hsc
    split at h2
    ·cases h2;cases e
    ·cases h2
  ·intro k p hp
   have hk:=(List.getElem?_eq_some_iff.1 hp).1
   simp only[wz3r]
   rw[it_d (by omega),at_e rfl hp]
   simp only[bd_s]
   by_cases p1:12<p.Flow.Num.length
   ·rw[show decide (12<(p.Flow.Num.length:Int))=true by simp;omega]
    simp only[Bool.not_true,wzcn,bd_s,cond_true]
    rw[wzdh,if_pos (.inl p1)]
   ·rw[show decide (12<(p.Flow.Num.length:Int))=false by simp;omega]
    simp only[Bool.not_false,qzbx,bd_s,cond_false]
    by_cases p2:12<p.Flow.Den.length
    ·rw[it_d (by omega),if_pos (.inr p2)]
    ·rw[it_n (by omega),if_neg (by omega),qz3 (by omega)]
  ·simp only[wz3r]
   rw[it_n (by omega)]
theorem jzeq(l:List wz2b){m:Int}(hm:m≤400):∃b,wz54 l m=some b∧(b=true→LSz l):=by
 unfold wz54
 by_cases h1:(m<(l.length:Int)∧(l.length:Int)≤400)∨410<(l.length:Int)
 ·rw[it_t (by rcases h1 with h1|h1<;>simp[h1]<;>omega)]
  exact⟨_,rfl,fun e=>by cases e⟩
 ·rw[it_f (by simp;omega)]
  let g:Nat→wz2b→Option Bool:=fun k s=>if wz25 s.Curve=some true∧s.Weight.Num.length≤40∧s.Weight.Den.length≤40 then none else some false
  rw[wz3m (l:=l) g (by omega) ?_ ?_]
  ·simp only[bd_s]
   cases hsc:scan g 0 l with
   |none =>
    refine⟨_,rfl,fun _=>⟨by omega,fun s hs=>?_⟩⟩
    obtain⟨i,hi⟩:=List.getElem?_of_mem hs
    have:=wz5l hsc hi
    unfold g at this
    split at this
    ·rename_i p
     obtain⟨b,e1,e2⟩:=wz9q s.Curve
     rw[e1]at p
     obtain⟨p1,p2,p3⟩:=p
     cases p1
     exact⟨e2 rfl,by omega,by omega⟩
    ·cases this
   |some o =>
    refine⟨_,rfl,fun e=>?_⟩
    obtain⟨i,x,h1,h2,h3⟩:=wz6q _ _ _ hsc
    unfold g at h2
    split at h2
    ·cases h2
    ·cases h2;cases e
  ·intro k s hs
   have hk:=(List.getElem?_eq_some_iff.1 hs).1
   obtain⟨b,e1,e2⟩:=wz9q s.Curve
   simp only[wz5z]
   rw[it_d (by omega),at_e rfl hs]
   simp only[bd_s]
   unfold g
   rw[e1]
   simp only[bd_s]
   cases b with
   |false =>
    rw[if_neg (fun e=>by cases e.1)]
    simp only[Bool.not_false,Bool.not_true,cond_true,wzcn,bd_s]
    rw[wzdh]
   |true =>
    simp only[Bool.not_false,Bool.not_true,cond_false,qzbx,bd_s]
    by_cases p1:40<s.Weight.Num.length
    ·rw[show decide (40<(s.Weight.Num.length:Int))=true by simp;omega,if_neg (by omega)]
     simp only[Bool.not_true,cond_true,wzcn,bd_s]
     rw[wzdh]
    ·rw[show decide (40<(s.Weight.Num.length:Int))=false by simp;omega]
     simp only[Bool.not_false,cond_false,qzbx,bd_s]
     by_cases p2:40<s.Weight.Den.length
     ·rw[it_d (by omega),if_neg (by omega)]
     ·rw[it_n (by omega),if_pos ⟨trivial,by omega,by omega⟩,qz3 (by omega)]
  ·simp only[wz5z]
   rw[it_n (by omega)]
theorem jzeo(h:wz2c)(l:List wz2b):∃b,wz4z h l=some b∧(b=true→HSz h l):=by
 unfold wz4z wz60
 obtain⟨b,e1,e2⟩:=jzeq l (m:=8) (by omega)
 rw[e1]
 simp only[bd_s]
 refine⟨_,rfl,fun e=>?_⟩
 cases b with
 |false=>cases e
 |true =>
  refine⟨e2 rfl,?_⟩
  rw[cond_true]at e
  by_cases p1:(h.Stages.length:Int)≤60
  ·omega
  ·rw[decide_eq_false p1,cond_false]at e
   by_cases p2:(40000:Int)<(h.Stages.length:Int)
   ·rw[decide_eq_true p2,cond_true,decide_eq_true_eq]at e
    omega
   ·rw[decide_eq_false p2,cond_false]at e
    cases e
theorem jzec(a:qza):∃b,wz4w a=some b∧(b=true→Sz 40 a):=by
 unfold wz4w
 refine⟨_,rfl,fun e=>?_⟩
 by_cases p1:(a.Num.length:Int)≤40
 ·rw[decide_eq_true p1,cond_true,decide_eq_true_eq]at e
  exact⟨by omega,by omega⟩
 ·rw[decide_eq_false p1]at e;cases e
theorem jzlx{L:List wz2e}(hl:L.length≤561024000):wz59 L L=some true:=by
 unfold wz59
 rw[qzk5 rfl,wz69 (l:=L) (fun k=>(k:Int)) (by omega) (o:=.inl ()) ?_ ?_ ?_]
 ·rfl
 ·intro k x hx
  have hk:=(List.getElem?_eq_some_iff.1 hx).1
  simp only[wz7a]
  rw[it_d (by omega),at_e rfl hx]
  simp only[bd_s]
  rw[it_f (by simp),qz3 (by omega)]
  rfl
 ·simp only[wz7a]
  rw[it_n (by omega)]
 ·rfl
theorem jzly{L:List wz2h}(hl:L.length≤561024000):wz6e L L=some true:=by
 unfold wz6e
 rw[qzk5 rfl,wz69 (l:=L) (fun k=>(k:Int)) (by omega) (o:=.inl ()) ?_ ?_ ?_]
 ·rfl
 ·intro k x hx
  have hk:=(List.getElem?_eq_some_iff.1 hx).1
  simp only[wz7i]
  rw[it_d (by omega),at_e rfl hx]
  simp only[bd_s]
  rw[it_f (by simp),qz3 (by omega)]
  rfl
 ·simp only[wz7i]
  rw[it_n (by omega)]
 ·rfl
theorem jzci{h:wz2c}{l:List wz2b}{lv:qza}(H:HSz h l)(e:levE h l lv=0):(flws h l).length≤561024000:=by
 rw[wz3b];exact(wz32 H e).1.tks
noncomputable def epS(lv:Rat)(l:List wz2h)(p:Int×qza):List wz2h:=open Classical in
 if rq p.2<lv then l else if 0<l.length∧(l.getD (l.length-1) default).To=p.1 then l.set (l.length-1) ⟨(l.getD (l.length-1) default).From,p.1+1⟩ else l++[⟨p.1,p.1+1⟩]
noncomputable def eps(lv:Rat)(P:List (Int×qza)):List wz2h:=P.foldl (epS lv) []
theorem jzlo{lv:Rat}{P:List (Int×qza)}{k:Nat}{p:Int×qza}(h:P[k]?=some p):eps lv (P.take (k+1))=epS lv (eps lv (P.take k)) p:=by
 unfold eps;rw[jzlb h,List.foldl_append];rfl
theorem jzmg(lv:Rat)(l:List wz2h)(p:Int×qza):(epS lv l p).length≤l.length+1:=by
 unfold epS
 split
 ·omega
 ·split
  ·rw[List.length_set];omega
  ·rw[List.length_append,List.length_singleton];omega
theorem jzlm{lv:Rat}{P:List (Int×qza)}:∀k,k≤P.length→(eps lv (P.take k)).length≤k:=by
 intro k
 induction k with
 |zero=>intro _;simp[eps]
 |succ k ih =>
  intro hk
  rw[jzlo (List.getElem?_eq_getElem (show k<P.length by omega))]
  have:=jzmg lv (eps lv (P.take k)) P[k]
  have:=ih (by omega)
  omega
theorem jzlq{h:wz2c}{l:List wz2b}(H:LevR h l){p:Int×qza}(hp:p∈prs h l):0≤p.1∧p.1<1402560:=by
 obtain⟨s,hs,hi,_⟩:=jzgz hp
 obtain⟨_,_,_,e4,_⟩:=H.stg hs hi.1 hi.2
 exact e4
theorem jzlp{h:wz2c}{l:List wz2b}{lv:qza}{n:Nat}(H:HSz h l)(hv:Sz n lv)(n1:1≤n)(hn:n≤33554432):wz3x h l lv=some (if levE h l lv=0 then(eps (rq lv) (prs h l),0) else([],levE h l lv)):=by
 unfold wz3x
 rw[wz53 H (hv.mono (by omega))]
 simp only[bd_s]
 by_cases e:levE h l lv=0
 ·rw[qzk5 e,if_pos e]
  have R:=(wz32 H e).1
  have hp:=R.prs
  unfold wz2u
  simp only[bd_s]
  obtain⟨t1,t2⟩:=wz7f (body:=wz5s lv) (l:=prs h l) (fun k=>eps (rq lv) ((prs h l).take k)) (fun k p hk=>by
   have e2:=(wz7o hk).2
   have hz:=R.szf _ (List.mem_of_getElem? e2)
   have hkl:=(List.getElem?_eq_some_iff.1 hk).1
   have ht:=jzlq R (List.mem_of_getElem? hk)
   have hlen:=jzlm (lv:=rq lv) (P:=prs h l) k (by omega)
   rw[jzlo hk]
   generalize eps (rq lv) ((prs h l).take k)=E at *
   simp only[wz5s]
   rw[jz9 hz.1 hv (by omega) n1 (by omega) hn]
   simp only[bd_s]
   unfold epS
   by_cases h1:rq p.2<rq lv
   ·rw[it_d (wz49.2 h1),if_pos h1];simp only[bd_s]
   ·rw[it_n (fun e=>h1 (wz49.1 e)),if_neg h1]
    simp only[bd_s]
    by_cases h0:0<E.length
    ·have hx:=List.getElem?_eq_getElem (show E.length-1<E.length by omega)
     rw[ck_t (by simp[inB];omega),show decide (0<(E.length:Int))=true by simp;omega,qzbx,at_e (n:=E.length-1) (by omega) hx]
     simp only[bd_s,cond_true]
     rw[wz2y hx]
     by_cases h2:E[E.length-1].To=p.1
     ·rw[it_d h2,if_pos ⟨h0,h2⟩,qz3 (by omega),qz3 (by omega),show((E.length:Int)-1).toNat=E.length-1 by omega]
     ·rw[it_n h2,if_neg (fun e=>h2 e.2),qz3 (by omega),ck_d (by rw[List.length_append,List.length_singleton];omega)]
    ·rw[show decide (0<(E.length:Int))=false from decide_eq_false (by omega),ck_t (by rfl),wzcn]
     simp only[bd_s,cond_false]
     rw[qzil,if_neg (fun e=>h0 e.1),qz3 (by omega),ck_d (by rw[List.length_append,List.length_singleton];omega)]) (s:=([]:List wz2h)) rfl
  rw[wz6w R t1,bd_s,t2]
  simp only[bd_s]
  rw[List.take_length]
 ·rw[qzhj e,if_neg e]
theorem jzma{h:wz2c}{l:List wz2b}{lv:qza}{n:Nat}(H:HSz h l)(hv:Sz n lv)(n1:1≤n)(hn:n≤33554432):jzlg h l lv=some (if levE h l lv=0 then⟨eps (rq lv) (prs h l),0⟩ else⟨[],levE h l lv⟩):=by
 unfold jzlg
 rw[wz52 H (hv.mono (by omega))]
 simp only[bd_s]
 by_cases e:levE h l lv=0
 ·have R:=(wz32 H e).1
  have hp:=R.prs
  have hT:=wz21 h l
  rw[qzk5 e,if_pos e,wz97 R,wz8x R]
  simp only[bd_s]
  rw[wz69 (l:=prs h l) (fun k=>((k:Int),eps (rq lv) ((prs h l).take k))) (by omega) (o:=eps (rq lv) (prs h l)) ?_ ?_ ?_]
  ·rfl
  ·intro k p hk
   obtain⟨e1,e2⟩:=wz7o hk
   have hz:=R.szf _ (List.mem_of_getElem? e2)
   have hkl:=(List.getElem?_eq_some_iff.1 hk).1
   have ht:=jzlq R (List.mem_of_getElem? hk)
   have hlen:=jzlm (lv:=rq lv) (P:=prs h l) k (by omega)
   rw[jzlo hk]
   generalize eps (rq lv) ((prs h l).take k)=E at *
   simp only[jzli]
   rw[it_d (by omega),at_e rfl e2]
   simp only[bd_s]
   rw[wzle hz.1 hv (by omega) n1 (by omega) hn,at_e rfl e1]
   simp only[bd_s]
   unfold epS
   by_cases h1:rq p.2<rq lv
   ·rw[it_d (wz49.2 h1),if_pos h1];simp only[bd_s];rw[qz3 (by omega)];rfl
   ·rw[it_n (fun e=>h1 (wz49.1 e)),if_neg h1]
    simp only[bd_s]
    by_cases h0:0<E.length
    ·have hx:=List.getElem?_eq_getElem (show E.length-1<E.length by omega)
     rw[ck_t (by simp[inB];omega),show decide (0<(E.length:Int))=true by simp;omega,qzbx,qzbx,show max 0 ((E.length:Int)-1)=(E.length:Int)-1 by omega,at_e (n:=E.length-1) (by omega) hx]
     simp only[bd_s,cond_true]
     rw[wz2y hx]
     by_cases h2:E[E.length-1].To=p.1
     ·rw[it_d h2,if_pos ⟨h0,h2⟩,qz3 (by omega),qz3 (by omega),qz3 (by omega),show((E.length:Int)-1).toNat=E.length-1 by omega];rfl
     ·rw[it_n h2,if_neg (fun e=>h2 e.2),qz3 (by omega),ck_d (by rw[List.length_append,List.length_singleton];omega),qz3 (by omega)];rfl
    ·rw[show decide (0<(E.length:Int))=false from decide_eq_false (by omega),ck_t (by rfl),wzcn,wzcn]
     simp only[bd_s,cond_false]
     rw[qzil,if_neg (fun e=>h0 e.1),qz3 (by omega),ck_d (by rw[List.length_append,List.length_singleton];omega),qz3 (by omega)];rfl
  ·simp only[jzli]
   rw[it_n (by omega),List.take_length]
  ·rfl
 ·rw[qzhj e,if_neg e]
def inE(E:List wz2h)(t:Int):Prop:=∃e,e∈E∧e.From≤t∧t<e.To
structure EpR(E:List wz2h):Prop where
 ok:∀e,e∈E→0≤e.From∧e.From<e.To∧e.To≤1402560
 asc:E.Pairwise fun a b=>a.To≤b.From
theorem EpR.tail{e:wz2h}{E:List wz2h}(h:EpR (e :: E)):EpR E:=⟨fun x hx=>h.ok x (List.mem_cons_of_mem _ hx),(List.pairwise_cons.1 h.asc).2⟩
theorem jzmb{l:List wz2h}(h:0<l.length):∃(m:List wz2h) (z:wz2h),l=m++[z]∧l.getD (l.length-1) default=z∧∀y,l.set (l.length-1) y=m++[y]:=by
 have hne:l≠[]:=fun e=>by rw[e]at h;simp at h
 refine⟨l.dropLast,l.getLast hne,(List.dropLast_concat_getLast hne).symm,?_,fun y=>?_⟩
 ·rw[wz2y (List.getElem?_eq_getElem (show l.length-1<l.length by omega))];rw[List.getLast_eq_getElem]
 ·have e:=(List.dropLast_concat_getLast hne).symm
  have hl:l.length-1=l.dropLast.length:=by rw[List.length_dropLast]
  generalize l.dropLast=m at *
  generalize l.getLast hne=z at *
  subst e
  rw[hl,List.set_append_right _ _ (Nat.le_refl _)]
  simp
theorem jzmj{lv:Rat}{E:List wz2h}(hE:EpR E){p:Int×qza}(hp:0≤p.1∧p.1<1402560)(hl:∀e,e∈E→e.To≤p.1):EpR (epS lv E p)∧(∀e,e∈epS lv E p→e.To≤p.1+1)∧∀t,inE (epS lv E p) t↔inE E t∨(t=p.1∧lv≤rq p.2):=by
 unfold epS
 by_cases h1:rq p.2<lv
 ·rw[if_pos h1]
  exact⟨hE,fun e he=>by have:=hl e he;omega,fun t=>⟨.inl,fun h=>h.elim id fun h=>(Rat.not_lt.2 h.2 h1).elim⟩⟩
 ·rw[if_neg h1]
  have h1':=Rat.not_lt.1 h1
  by_cases h2:0<E.length∧(E.getD (E.length-1) default).To=p.1
  ·rw[if_pos h2]
   obtain⟨m,z,e1,e2,e3⟩:=jzmb h2.1
   rw[e3,e2]
   have h3:=h2.2
   rw[e2]at h3
   subst e1
   have hz:=hE.ok z (by simp)
   obtain⟨a1,a2,a3⟩:=List.pairwise_append.1 hE.asc
   refine⟨⟨fun e he=>?_,?_⟩,fun e he=>?_,fun t=>?_⟩
   ·rw[List.mem_append,List.mem_singleton]at he
    rcases he with he|rfl
    ·exact hE.ok e (by simp[he])
    ·dsimp only;omega
   ·exact List.pairwise_append.2 ⟨a1,by simp,fun x hx y hy=>by
     rw[List.mem_singleton]at hy;subst hy
     exact a3 x hx z (by simp)⟩
   ·rw[List.mem_append,List.mem_singleton]at he
    rcases he with he|rfl
    ·have:=hl e (by simp[he]);omega
    ·exact Int.le_refl _
   ·constructor
    ·rintro⟨e,he,t1,t2⟩
     rw[List.mem_append,List.mem_singleton]at he
     rcases he with he|rfl
     ·exact .inl ⟨e,by simp[he],t1,t2⟩
     ·dsimp only at t1 t2
      by_cases ht:t=p.1
      ·exact .inr ⟨ht,h1'⟩
      ·exact .inl ⟨z,by simp,t1,by omega⟩
    ·rintro(⟨e,he,t1,t2⟩|⟨rfl,_⟩)
     ·rw[List.mem_append,List.mem_singleton]at he
      rcases he with he|rfl
      ·exact⟨e,by simp[he],t1,t2⟩
      ·exact⟨⟨e.From,p.1+1⟩,by simp,t1,by dsimp only;omega⟩
     ·exact⟨⟨z.From,p.1+1⟩,by simp,by dsimp only;omega,by dsimp only;omega⟩
  ·rw[if_neg h2]
   refine⟨⟨fun e he=>?_,?_⟩,fun e he=>?_,fun t=>?_⟩
   ·rw[List.mem_append,List.mem_singleton]at he
    rcases he with he|rfl
    ·exact hE.ok e he
    ·dsimp only;omega
   ·exact List.pairwise_append.2 ⟨hE.asc,by simp,fun x hx y hy=>by
     rw[List.mem_singleton]at hy;subst hy
     exact hl x hx⟩
   ·rw[List.mem_append,List.mem_singleton]at he
    rcases he with he|rfl
    ·have:=hl e he;omega
    ·exact Int.le_refl _
   ·constructor
    ·rintro⟨e,he,t1,t2⟩
     rw[List.mem_append,List.mem_singleton]at he
     rcases he with he|rfl
     ·exact .inl ⟨e,he,t1,t2⟩
     ·dsimp only at t1 t2
      exact .inr ⟨by omega,h1'⟩
    ·rintro(⟨e,he,t1,t2⟩|⟨rfl,_⟩)
     ·exact⟨e,by simp[he],t1,t2⟩
     ·exact⟨⟨p.1,p.1+1⟩,by simp,by dsimp only;omega,by dsimp only;omega⟩
theorem jzl2{h:wz2c}{l:List wz2b}(H:LevR h l):(tks l).Pairwise (· < ·):=by
 have hp:l.Pairwise fun a b=>a.To≤b.From:=by
  rw[List.pairwise_iff_getElem]
  intro i j hi hj hij
  exact H.far i j hj hij
 have:∀l:List wz2b,l.Pairwise (fun a b=>a.To≤b.From)→(∀s,s∈l→wz50 s)→(tks l).Pairwise (· < ·):=by
  intro l
  induction l with
  |nil=>intro _ _;simp[tks]
  |cons s l ih =>
   intro hp hs
   obtain⟨p1,p2⟩:=List.pairwise_cons.1 hp
   show(spt s++tks l).Pairwise (· < ·)
   refine List.pairwise_append.2 ⟨?_,ih p2 fun x hx=>hs x (List.mem_cons_of_mem _ hx),fun x hx y hy=>?_⟩
   ·unfold spt
    rw[List.pairwise_map]
    exact(List.pairwise_lt_range).imp fun h=>by omega
   ·obtain⟨z,hz,hy⟩:=List.mem_flatMap.1 hy
    have a1:=jzbw.1 hx
    have a2:=jzbw.1 hy
    have:=p1 z hz
    omega
 exact this l hp H.span
theorem jzmi{h:wz2c}{l:List wz2b}(H:LevR h l)(lv:Rat):∀k,k≤(prs h l).length→EpR (eps lv ((prs h l).take k))∧(∀(p:Int×qza) (e:wz2h),e∈eps lv ((prs h l).take k)→(prs h l)[k]?=some p→e.To≤p.1)∧∀t,inE (eps lv ((prs h l).take k)) t↔∃p,p∈(prs h l).take k∧p.1=t∧lv≤rq p.2:=by
 intro k
 induction k with
 |zero =>
  intro _
  refine⟨⟨fun e he=>by simp[eps]at he,by simp[eps]⟩,fun p e he=>by simp[eps]at he,fun t=>⟨fun⟨e,he,_⟩=>by simp[eps]at he,fun⟨p,hp,_⟩=>by simp at hp⟩⟩
 |succ k ih =>
  intro hk
  obtain⟨i1,i2,i3⟩:=ih (by omega)
  have hx:=List.getElem?_eq_getElem (show k<(prs h l).length by omega)
  have hr:∀q,(prs h l)[k+1]?=some q→((prs h l)[k]'(by omega)).1<q.1:=by
   intro q hq
   have hr:=jzl2 H
   rw[←wz9c h l,List.pairwise_map]at hr
   obtain⟨hk1,rfl⟩:=List.getElem?_eq_some_iff.1 hq
   exact List.pairwise_iff_getElem.1 hr k (k+1) (by omega) hk1 (by omega)
  have hm:=List.getElem_mem (show k<(prs h l).length by omega)
  generalize (prs h l)[k]'(by omega)=p at *
  obtain⟨j1,j2,j3⟩:=jzmj (lv:=lv) i1 (p:=p) (jzlq H hm) fun e he=>i2 p e he hx
  rw[jzlo hx]
  refine⟨j1,fun q e he hq=>?_,fun t=>?_⟩
  ·have:=j2 e he
   have:=hr q hq
   omega
  ·rw[j3,i3,jzlb hx]
   constructor
   ·rintro(⟨q,hq,r⟩|⟨rfl,r⟩)
    ·exact⟨q,by simp[hq],r⟩
    ·exact⟨p,by simp,rfl,r⟩
   ·rintro⟨q,hq,r1,r2⟩
    rw[List.mem_append,List.mem_singleton]at hq
    rcases hq with hq|rfl
    ·exact .inl ⟨q,hq,r1,r2⟩
    ·exact .inr ⟨r1.symm,r2⟩
theorem jzl0{h:wz2c}{l:List wz2b}(H:LevR h l)(lv:Rat):EpR (eps lv (prs h l))∧∀t,inE (eps lv (prs h l)) t↔∃p,p∈prs h l∧p.1=t∧lv≤rq p.2:=by
 have:=jzmi H lv (prs h l).length (Nat.le_refl _)
 rw[List.take_length]at this
 exact⟨this.1,this.2.2⟩
noncomputable def dc(p:Prop):Bool:=@decide p (Classical.propDecidable p)
theorem dc_t{p:Prop}(h:p):dc p=true:=@decide_eq_true p (Classical.propDecidable p) h
theorem dc_f{p:Prop}(h:¬p):dc p=false:=@decide_eq_false p (Classical.propDecidable p) h
theorem jzlt{p:Prop}:dc p=true↔p:=⟨@of_decide_eq_true p (Classical.propDecidable p),dc_t⟩
noncomputable def cnN(n:Nat)(p:Int→Prop):Nat:=(List.range n).countP fun(i:Nat)=>dc (p (i:Int))
theorem exN:∃n:Nat,n=1402560:=⟨_,rfl⟩
noncomputable def bigN:Nat:=exN.choose
theorem jzlr:bigN=1402560:=exN.choose_spec
noncomputable def cnt(p:Int→Prop):Nat:=cnN bigN p
theorem jzlj{p q:Int→Prop}(h:∀t:Int,0≤t→t<1402560→(p t↔q t)):cnt p=cnt q:=by
 unfold cnt cnN
 refine List.countP_congr fun i hi=>?_
 rw[List.mem_range,jzlr]at hi
 rw[jzlt,jzlt]
 exact h i (by omega) (by omega)
theorem jzlw{p q:Int→Prop}(h:∀t:Int,p t→¬q t):cnt (fun t=>p t∨q t)=cnt p+cnt q:=by
 unfold cnt cnN
 generalize List.range bigN=L
 induction L with
 |nil=>rfl
 |cons i L ih =>
  rw[List.countP_cons,List.countP_cons,List.countP_cons,ih]
  by_cases h1:p (i:Int)
  ·have h2:=h _ h1
   rw[dc_t (.inl h1),dc_t h1,dc_f h2];simp;omega
  ·by_cases h2:q (i:Int)
   ·rw[dc_t (.inr h2),dc_f h1,dc_t h2];simp;omega
   ·rw[dc_f (fun e=>e.elim h1 h2),dc_f h1,dc_f h2];simp
theorem jzln{p:Int→Prop}(h:∀t,¬p t):cnt p=0:=by
 unfold cnt cnN
 rw[List.countP_eq_zero]
 intro i _ e
 exact h _ (jzlt.1 e)
theorem jzl9{a b:Int}(ha:0≤a):∀n:Nat,(cnN n (fun t=>a≤t∧t<b):Int)=max 0 (min b n-a)
 |0=>by simp[cnN];omega
 |n+1=>by
  have ih:=jzl9 (b:=b) ha n
  unfold cnN at ih ⊢
  rw[List.range_succ,List.countP_append,List.countP_singleton]
  by_cases h:a≤(n:Int)∧(n:Int)<b
  ·rw[dc_t h,if_pos rfl];omega
  ·rw[dc_f h,if_neg (by decide)];omega
theorem jzl7{a b:Int}(ha:0≤a)(hb:b≤1402560):(cnt (fun t=>a≤t∧t<b):Int)=max 0 (b-a):=by
 unfold cnt
 rw[jzl9 ha,jzlr]
 omega
theorem jzme{T:List Int}{q:Int→Prop}(hr:T.Pairwise (· < ·))(hb:∀t,t∈T→0≤t∧t<1402560):(T.countP fun t=>dc (q t))=cnt (fun t=>t∈T∧q t):=by
 induction T with
 |nil=>rw[jzln (fun t h=>by cases h.1)];rfl
 |cons t T ih =>
  obtain⟨r1,r2⟩:=List.pairwise_cons.1 hr
  have e:=ih r2 fun x hx=>hb x (List.mem_cons_of_mem _ hx)
  rw[List.countP_cons,e,jzlj (p:=fun x=>x∈t :: T∧q x) (q:=fun x=>(x=t∧q t)∨(x∈T∧q x)) fun x _ _=>⟨fun h=>by
   rcases List.mem_cons.1 h.1 with e|e
   ·exact .inl ⟨e,by rw[←e];exact h.2⟩
   ·exact .inr ⟨e,h.2⟩,fun h=>by
   rcases h with ⟨rfl,h⟩|⟨h1,h2⟩
   ·exact⟨List.mem_cons_self ..,h⟩
   ·exact⟨List.mem_cons_of_mem _ h1,h2⟩⟩]
  rw[jzlw (p:=fun x=>x=t∧q t) (q:=fun x=>x∈T∧q x) fun x h1 h2=>by have:=r1 x h2.1;omega]
  have ht:=hb t (List.mem_cons_self ..)
  by_cases h:q t
  ·rw[dc_t h,if_pos rfl,jzlj (p:=fun x=>x=t∧q t) (q:=fun x=>t≤x∧x<t+1) fun x _ _=>⟨fun h=>by omega,fun h2=>⟨by omega,h⟩⟩]
   have:=jzl7 (a:=t) (b:=t+1) (by omega) (by omega)
   omega
  ·rw[dc_f h,jzln (p:=fun x=>x=t∧q t) fun x hx=>h hx.2]
   simp
def ovl(lag:Int)(X Y:List wz2h)(t:Int):Prop:=inE X t∧inE Y (t+lag)
theorem jzlv{e:wz2h}{E:List wz2h}:sub (e :: E) 1 ((e :: E).length:Int)=E:=by
 unfold sub
 simp
theorem jzmd{lag:Int}{e f:wz2h}{X Y:List wz2h}(hX:EpR (e :: X))(hY:EpR (f :: Y)) :
  (e.To+lag≤f.To→(cnt (ovl lag (e :: X) (f :: Y)):Int)=max 0 (min (e.To+lag) f.To-max (e.From+lag) f.From)+cnt (ovl lag X (f :: Y))) ∧
  (f.To≤e.To+lag→(cnt (ovl lag (e :: X) (f :: Y)):Int)=max 0 (min (e.To+lag) f.To-max (e.From+lag) f.From)+cnt (ovl lag (e :: X) Y)):=by
 have he:=hX.ok e (List.mem_cons_self ..)
 have hf:=hY.ok f (List.mem_cons_self ..)
 obtain⟨x1,_⟩:=List.pairwise_cons.1 hX.asc
 obtain⟨y1,_⟩:=List.pairwise_cons.1 hY.asc
 have hiv:(cnt (fun t=>max e.From (f.From-lag)≤t∧t<min e.To (f.To-lag)):Int)=max 0 (min (e.To+lag) f.To-max (e.From+lag) f.From):=by
  rw[jzl7 (by omega) (by omega)]
  omega
 constructor
 ·intro hle
  rw[←hiv,←Int.natCast_add,←jzlw]
  ·refine congrArg (fun n:Nat=>(n:Int)) (jzlj fun t _ _=>?_)
   constructor
   ·rintro⟨⟨a,ha,a1,a2⟩,⟨b,hb,b1,b2⟩⟩
    rcases List.mem_cons.1 ha with rfl|ha'
    ·rcases List.mem_cons.1 hb with rfl|hb'
     ·exact .inl ⟨by omega,by omega⟩
     ·have:=y1 b hb'
      omega
    ·exact .inr ⟨⟨a,ha',a1,a2⟩,⟨b,hb,b1,b2⟩⟩
   ·rintro(⟨h1,h2⟩|⟨⟨a,ha,a1,a2⟩,hb⟩)
    ·exact⟨⟨e,List.mem_cons_self ..,by omega,by omega⟩,⟨f,List.mem_cons_self ..,by omega,by omega⟩⟩
    ·exact⟨⟨a,List.mem_cons_of_mem _ ha,a1,a2⟩,hb⟩
  ·rintro t ⟨h1,h2⟩ ⟨⟨a,ha,a1,a2⟩,_⟩
   have:=x1 a ha
   omega
 ·intro hle
  rw[←hiv,←Int.natCast_add,←jzlw]
  ·refine congrArg (fun n:Nat=>(n:Int)) (jzlj fun t _ _=>?_)
   constructor
   ·rintro⟨⟨a,ha,a1,a2⟩,⟨b,hb,b1,b2⟩⟩
    rcases List.mem_cons.1 hb with rfl|hb'
    ·rcases List.mem_cons.1 ha with rfl|ha'
     ·exact .inl ⟨by omega,by omega⟩
     ·have:=x1 a ha'
      omega
    ·exact .inr ⟨⟨a,ha,a1,a2⟩,⟨b,hb',b1,b2⟩⟩
   ·rintro(⟨h1,h2⟩|⟨ha,⟨b,hb,b1,b2⟩⟩)
    ·exact⟨⟨e,List.mem_cons_self ..,by omega,by omega⟩,⟨f,List.mem_cons_self ..,by omega,by omega⟩⟩
    ·exact⟨ha,⟨b,List.mem_cons_of_mem _ hb,b1,b2⟩⟩
  ·rintro t ⟨h1,h2⟩ ⟨_,⟨b,hb,b1,b2⟩⟩
   have:=y1 b hb
   omega
theorem jzmh(p:Int→Prop):cnt p≤1402560:=by
 unfold cnt cnN
 have:=List.countP_le_length (p:=fun(i:Nat)=>dc (p (i:Int))) (l:=List.range bigN)
 exact Nat.le_trans this (by rw[List.length_range,jzlr];exact Nat.le_refl _)
theorem jzl4{X Y:List wz2h}(hX:EpR X)(hY:EpR Y){lag:Int}(hl:-1402560≤lag∧lag≤1402560):∀t:List wz2h×List wz2h×Int,(EpR t.1∧EpR t.2.1∧0≤t.2.2∧t.2.2+(cnt (ovl lag t.1 t.2.1):Int)=(cnt (ovl lag X Y):Int))→(∃t',wz8w lag t=some (.inl t')∧(EpR t'.1∧EpR t'.2.1∧0≤t'.2.2∧t'.2.2+(cnt (ovl lag t'.1 t'.2.1):Int)=(cnt (ovl lag X Y):Int))∧t'.1.length+t'.2.1.length<t.1.length+t.2.1.length)∨wz8w lag t=some (.inr (cnt (ovl lag X Y):Int)):=by
 rintro⟨x,y,n⟩ ⟨h1,h2,h3,h4⟩
 dsimp only at h1 h2 h3 h4
 have hc:=jzmh (ovl lag X Y)
 simp only[wz8w]
 cases x with
 |nil =>
  right
  rw[it_f (by simp)]
  have:cnt (ovl lag [] y)=0:=jzln fun t h=>by obtain⟨⟨e,he,_⟩,_⟩:=h;cases he
  rw[this]at h4
  rw[show n=(cnt (ovl lag X Y):Int) by omega]
 |cons e x =>
  cases y with
  |nil =>
   right
   rw[it_f (by simp)]
   have:cnt (ovl lag (e :: x) [])=0:=jzln fun t h=>by obtain⟨_,⟨e,he,_⟩⟩:=h;cases he
   rw[this]at h4
   rw[show n=(cnt (ovl lag X Y):Int) by omega]
  |cons f y =>
   left
   have he:=h1.ok e (List.mem_cons_self ..)
   have hf:=h2.ok f (List.mem_cons_self ..)
   obtain⟨s1,s2⟩:=jzmd (lag:=lag) h1 h2
   rw[it_t (by simp),at_e (n:=0) (by rfl) rfl,at_e (n:=0) (by rfl) rfl]
   simp only[bd_s]
   by_cases hle:e.To+lag≤f.To
   ·have s1:=s1 hle
    rw[qz3 (by omega),qz3 (by omega),qz3 (by omega),qz3 (by omega),qz3 (by omega),it_d (by omega),qzhn (by rw[List.length_cons];omega),jzlv]
    exact⟨_,rfl,⟨h1.tail,h2,by dsimp only;omega,by dsimp only;omega⟩,by simp⟩
   ·have s2:=s2 (by omega)
    rw[qz3 (by omega),qz3 (by omega),qz3 (by omega),qz3 (by omega),qz3 (by omega),it_n (by omega),qzhn (by rw[List.length_cons];omega),jzlv]
    exact⟨_,rfl,⟨h1,h2.tail,by dsimp only;omega,by dsimp only;omega⟩,by simp⟩
theorem jzmc{X Y:List wz2h}(hX:EpR X)(hY:EpR Y){lag:Int}(hl:-1402560≤lag∧lag≤1402560)(hx:X.length≤561024000)(hy:Y.length≤561024000):lp (wz8w lag) (X,Y,0)=some (cnt (ovl lag X Y):Int):=by
 have step:∀t:List wz2h×List wz2h×Int,(EpR t.1∧EpR t.2.1∧0≤t.2.2∧t.2.2+(cnt (ovl lag t.1 t.2.1):Int)=(cnt (ovl lag X Y):Int))→(∃t',wz8w lag t=some (.inl t')∧(EpR t'.1∧EpR t'.2.1∧0≤t'.2.2∧t'.2.2+(cnt (ovl lag t'.1 t'.2.1):Int)=(cnt (ovl lag X Y):Int))∧t'.1.length+t'.2.1.length<t.1.length+t.2.1.length)∨wz8w lag t=some (.inr (cnt (ovl lag X Y):Int)):=jzl4 hX hY hl
 exact qznm (fun t=>EpR t.1∧EpR t.2.1∧0≤t.2.2∧t.2.2+(cnt (ovl lag t.1 t.2.1):Int)=(cnt (ovl lag X Y):Int)) (fun t=>t.1.length+t.2.1.length) (cnt (ovl lag X Y):Int) step ⟨hX,hY,Int.le_refl _,Int.zero_add _⟩ (Nat.lt_of_le_of_lt (Nat.add_le_add hx hy) (by decide))
def atL(a:wz2p)(t:Int):Prop:=∃p,p∈prs a.History a.Spans∧p.1=t∧rq a.Level≤rq p.2
noncomputable def bthE(a b:wz2p)(lag:Int):Int :=
 if levE a.History a.Spans a.Level=0 then if levE b.History b.Spans b.Level=0 then if lag < -1402560∨1402560<lag then 3 else 0 else levE b.History b.Spans b.Level else levE a.History a.Spans a.Level
noncomputable def bth(a b:wz2p)(lag:Int):Int:=if bthE a b lag=0 then(cnt (fun t=>atL a t∧atL b (t+lag)):Int) else 0
structure SdS(n:Nat)(a:wz2p):Prop where
 h:HSz a.History a.Spans
 v:Sz n a.Level
theorem jzl3{a b:wz2p}{n:Nat}(ha:SdS n a)(hb:SdS n b)(n1:1≤n)(hn:n≤33554432)(lag:Int):wz7s a b lag=some (bth a b lag,bthE a b lag):=by
 unfold wz7s bth bthE
 rw[jzlp ha.h ha.v n1 hn,jzlp hb.h hb.v n1 hn]
 simp only[bd_s]
 by_cases ea:levE a.History a.Spans a.Level=0
 ·rw[if_pos ea,if_pos ea,qzk5 rfl]
  by_cases eb:levE b.History b.Spans b.Level=0
  ·rw[if_pos eb,if_pos eb,qzk5 rfl]
   by_cases hl:lag < -1402560∨1402560<lag
   ·rw[it_t (by simpa using hl),if_pos hl,if_neg (by omega)]
   ·rw[it_f (by simp;omega),if_neg hl,if_pos rfl]
    have Ra:=(wz32 ha.h ea).1
    have Rb:=(wz32 hb.h eb).1
    obtain⟨a1,a2⟩:=jzl0 Ra (rq a.Level)
    obtain⟨b1,b2⟩:=jzl0 Rb (rq b.Level)
    have la:=jzlm (lv:=rq a.Level) (P:=prs a.History a.Spans) _ (Nat.le_refl _)
    have lb:=jzlm (lv:=rq b.Level) (P:=prs b.History b.Spans) _ (Nat.le_refl _)
    rw[List.take_length]at la lb
    rw[jzmc a1 b1 (by omega) (Nat.le_trans la Ra.prs) (Nat.le_trans lb Rb.prs)]
    simp only[bd_s]
    rw[jzlj (q:=fun t=>atL a t∧atL b (t+lag)) fun t _ _=>⟨fun h=>⟨(a2 t).1 h.1,(b2 _).1 h.2⟩,fun h=>⟨(a2 t).2 h.1,(b2 _).2 h.2⟩⟩]
  ·rw[if_neg eb,if_neg eb,qzhj eb,if_neg eb]
 ·rw[if_neg ea,if_neg ea,qzhj ea,if_neg ea]
theorem jzlu{h:wz2c}{l:List wz2b}{s:wz2b}(hs:s∈l){t:Int}(ht:inS s t):(t,flw s.Curve (stg h t+s.Datum))∈prs h l :=
 List.mem_flatMap.2 ⟨s,hs,List.mem_map.2 ⟨t,jzbw.2 ht,rfl⟩⟩
theorem jzl1{a:wz2p}(H:LevR a.History a.Spans){s:wz2b}(hs:s∈a.Spans){t:Int}(ht:inS s t):atL a t↔rq a.Level≤rq (flw s.Curve (stg a.History t+s.Datum)):=by
 constructor
 ·rintro⟨p,hp,rfl,hv⟩
  have e1:=jzf5 H hp
  rw[jzg3 H hs ht]at e1
  have e1:=Option.some.inj e1
  rw[e1];exact hv
 ·intro h
  exact⟨_,jzlu hs ht,rfl,h⟩
theorem jzl5{a b:wz2p}{n:Nat}(ha:SdS n a)(hb:SdS n b)(n1:1≤n)(hn:n≤33554432)(lag:Int):jzlk a b lag=some ⟨bth a b lag,bthE a b lag⟩:=by
 unfold jzlk bth bthE
 rw[wz52 ha.h (ha.v.mono (by omega)),wz52 hb.h (hb.v.mono (by omega))]
 simp only[bd_s]
 by_cases ea:levE a.History a.Spans a.Level=0
 ·rw[it_d ea,if_pos ea]
  simp only[bd_s]
  by_cases eb:levE b.History b.Spans b.Level=0
  ·rw[if_pos eb,qzk5 eb]
   by_cases hl:lag < -1402560∨1402560<lag
   ·rw[it_t (by simpa using hl),if_pos hl,if_neg (by omega)]
   ·rw[it_f (by simp;omega),if_neg hl,if_pos rfl]
    have Ra:=(wz32 ha.h ea).1
    have Rb:=(wz32 hb.h eb).1
    have hT:=Ra.tks
    rw[wz97 Ra]
    simp only[bd_s]
    have hb400:=Rb.len
    rw[←jzlj (p:=fun t=>t∈tks a.Spans∧(atL a t∧atL b (t+lag))) fun t _ _=>⟨fun h=>h.2,fun h=>⟨by
     obtain⟨p,hp,rfl,_⟩:=h.1
     rw[←wz9c a.History];exact List.mem_map.2 ⟨p,hp,rfl⟩,h⟩⟩,←jzme (jzl2 Ra) fun t ht=>by
     obtain⟨s,hs,ht⟩:=List.mem_flatMap.1 ht
     have r:=Ra.span s hs
     have:=jzbw.1 ht
     obtain⟨r1,r2,r3,_⟩:=r
     omega]
    let q:Int→Bool:=fun t=>dc (atL a t∧atL b (t+lag))
    rw[wz69 (l:=tks a.Spans) (fun k=>((((tks a.Spans).take k).countP q:Int),(k:Int))) (by omega) (o:=((tks a.Spans).countP q:Int)) ?_ ?_ ?_]
    ·rfl
    ·intro k t htk
     have hk:=(List.getElem?_eq_some_iff.1 htk).1
     obtain⟨s,hs,hts⟩:=List.mem_flatMap.1 (List.mem_of_getElem? htk)
     have hts:=jzbw.1 hts
     have r:=Ra.span s hs
     obtain⟨r1,r2,r3,_⟩:=r
     have hcl:((tks a.Spans).take k).countP q≤k:=Nat.le_trans List.countP_le_length (by rw[List.length_take];omega)
     rw[jzlb htk,List.countP_append,List.countP_singleton]
     simp only[jzll]
     rw[it_d (by omega),at_e rfl htk]
     simp only[bd_s]
     rw[qz3 (by omega)]
     by_cases hin:∃z,z∈b.Spans∧inS z (t+lag)
     ·obtain⟨z,hz,hzt⟩:=hin
      obtain⟨i,hi⟩:=List.getElem?_of_mem hz
      rw[jze0 Rb hi hzt]
      simp only[bd_s]
      rw[it_n (by omega)]
      simp only[bd_s]
      have m1:flw s.Curve (stg a.History t+s.Datum)∈flws a.History a.Spans:=List.mem_map.2 ⟨_,jzlu hs hts,rfl⟩
      have m2:flw z.Curve (stg b.History (t+lag)+z.Datum)∈flws b.History b.Spans:=List.mem_map.2 ⟨_,jzlu hz hzt,rfl⟩
      rw[jzg3 Ra hs hts]
      simp only[bd_s]
      rw[wzle (Ra.szf _ m1).1 ha.v (by omega) n1 (by omega) hn]
      simp only[bd_s]
      rw[jzg3 Rb hz hzt]
      simp only[bd_s]
      rw[wzle (Rb.szf _ m2).1 hb.v (by omega) n1 (by omega) hn]
      simp only[bd_s]
      have i1:=jzl1 Ra hs hts
      have i2:=jzl1 Rb hz hzt
      by_cases hc:atL a t∧atL b (t+lag)
      ·rw[decide_eq_true (wzxb.2 (i1.1 hc.1)),decide_eq_true (wzxb.2 (i2.1 hc.2)),show q t=true from dc_t hc]
       rw[cond_true,wzdh,qz3 (by omega),qz3 (by omega),if_pos rfl]
       rfl
      ·rw[it_f,qz3 (by omega),show q t=false from dc_f hc]
       ·simp
       ·by_cases c1:atL a t
        ·have c2:¬atL b (t+lag):=fun e=>hc ⟨c1,e⟩
         rw[decide_eq_true (wzxb.2 (i1.1 c1)),cond_true]
         exact decide_eq_false fun e=>c2 (i2.2 (wzxb.1 e))
        ·rw[decide_eq_false fun e=>c1 (i1.2 (wzxb.1 e))];rfl
     ·rw[jzl8 (by omega) fun z hz hzt=>hin ⟨z,hz,hzt⟩]
      simp only[bd_s]
      rw[it_d (by omega)]
      simp only[bd_s]
      have hq:q t=false:=dc_f fun h=>by
       obtain⟨p,hp,e,_⟩:=h.2
       obtain⟨z,hz,hzt,_⟩:=jzgz hp
       rw[e]at hzt
       exact hin ⟨z,hz,hzt⟩
      rw[qz3 (by omega),hq]
      simp
    ·simp only[jzll]
     rw[it_n (by omega),List.take_length]
    ·simp
  ·rw[if_neg eb,qzhj eb,if_neg eb]
 ·rw[it_n ea,if_neg ea]
  simp only[bd_s]
  rw[qzhj ea,if_neg ea]
theorem jzmf(a0 b1:wz2p)(lag2:Int):jzld a0 b1 lag2=some true:=by
 unfold jzld
 obtain⟨x1,e1,g1⟩:=jzeo a0.History a0.Spans
 obtain⟨x2,e2,g2⟩:=jzeo b1.History b1.Spans
 obtain⟨x3,e3,g3⟩:=jzec a0.Level
 obtain⟨x4,e4,g4⟩:=jzec b1.Level
 rw[e1,e2,e3,e4,jzis]
 simp only[bd_s]
 by_cases hx:x1=true∧x2=true∧x3=true∧x4=true
 ·obtain⟨rfl,rfl,rfl,rfl⟩:=hx
  have A:SdS 40 a0:=⟨g1 rfl,g3 rfl⟩
  have B:SdS 40 b1:=⟨g2 rfl,g4 rfl⟩
  simp only[Bool.not_false,Bool.not_true,qzbx,bd_s,cond_false]
  rw[qzil,jzdl A.h,jzl6 A.h,jzlp A.h A.v (by omega) (by omega),jzma A.h A.v (by omega) (by omega),jzl3 A B (by omega) (by omega),jzl5 A B (by omega) (by omega)]
  simp only[bd_s]
  have d1:∃L z,(if levE a0.History a0.Spans (qza.mk false [] [])=0 then(dwls (flws a0.History a0.Spans),(0:Int)) else([],levE a0.History a0.Spans (qza.mk false [] [])))=(L,z)∧(if levE a0.History a0.Spans (qza.mk false [] [])=0 then(⟨dwls (flws a0.History a0.Spans),0⟩:wz2q) else⟨[],levE a0.History a0.Spans (qza.mk false [] [])⟩)=⟨L,z⟩∧L.length≤561024000:=by
   by_cases e:levE a0.History a0.Spans (qza.mk false [] [])=0
   ·rw[if_pos e,if_pos e]
    have hV:∀x,x∈flws a0.History a0.Spans→Vd x:=fun x hx=>((wz32 A.h e).1.szf x hx).2
    exact⟨_,_,rfl,rfl,by rw[wz5t];exact Nat.le_trans (wz5u hV).2.2 (jzci A.h e)⟩
   ·rw[if_neg e,if_neg e]
    exact⟨_,_,rfl,rfl,Nat.zero_le _⟩
  have d2:∃L z,(if levE a0.History a0.Spans a0.Level=0 then(eps (rq a0.Level) (prs a0.History a0.Spans),(0:Int)) else([],levE a0.History a0.Spans a0.Level))=(L,z)∧(if levE a0.History a0.Spans a0.Level=0 then(⟨eps (rq a0.Level) (prs a0.History a0.Spans),0⟩:wz2o) else⟨[],levE a0.History a0.Spans a0.Level⟩)=⟨L,z⟩∧L.length≤561024000:=by
   by_cases e:levE a0.History a0.Spans a0.Level=0
   ·rw[if_pos e,if_pos e]
    have R:=(wz32 A.h e).1
    have:=jzlm (lv:=rq a0.Level) (P:=prs a0.History a0.Spans) _ (Nat.le_refl _)
    rw[List.take_length]at this
    exact⟨_,_,rfl,rfl,Nat.le_trans this R.prs⟩
   ·rw[if_neg e,if_neg e]
    exact⟨_,_,rfl,rfl,Nat.zero_le _⟩
  obtain⟨L,z,q1,q2,q3⟩:=d1
  obtain⟨M,y,r1,r2,r3⟩:=d2
  rw[q1,q2,r1,r2]
  dsimp only
  rw[jzlx q3]
  simp only[cond_true,qzbx,bd_s,decide_true]
  rw[jzly r3]
  rfl
 ·cases x1<;>cases x2<;>cases x3<;>cases x4<;>first|exact(hx ⟨rfl,rfl,rfl,rfl⟩).elim|rfl
end Go.Am

namespace Go.Am
end Go.Am

