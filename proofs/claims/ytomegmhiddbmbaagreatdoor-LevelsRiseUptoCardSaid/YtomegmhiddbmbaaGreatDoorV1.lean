/- Part V1 of the proof that the last part closes: the mathematics of flows and levels. No condition. -/
import Derived.Test.YtomegmhiddbmbaaGreatDoorR2
set_option linter.unusedSimpArgs false
set_option linter.unusedVariables false
namespace Go.Am
section
variable {α ω σ:Type}
def scan(f:Nat→α→Option ω):Nat→List α→Option ω
 |_,[]=>none
 |k,x :: l=>match f k x with
  |some o=>some o
  |none=>scan f (k+1) l
theorem wz6o{f:Nat→α→Option ω}:∀(k:Nat) (l:List α),scan f k l=none→∀i x,l[i]?=some x→f (k+i) x=none
 |k,[],_,i,x,h=>by simp at h
 |k,y :: l,e,i,x,h=>by
  unfold scan at e
  split at e
  ·cases e
  ·rename_i e1
   cases i with
   |zero=>simp at h;subst h;exact e1
   |succ i=>have:=wz6o (k+1) l e i x (by simpa using h);rwa [show k+(i+1)=k+1+i by omega]
theorem jzax{f:Nat→α→Option ω}:∀(k:Nat) (l:List α),(∀i x,l[i]?=some x→f (k+i) x=none)→scan f k l=none
 |k,[],_=>rfl
 |k,y :: l,e=>by
  unfold scan
  rw[show f k y=none from e 0 y rfl]
  exact jzax (k+1) l fun i x h=>by have:=e (i+1) x (by simpa using h);rwa [show k+(i+1)=k+1+i by omega]at this
theorem jzdu{f:Nat→α→Option ω}{l:List α}{k:Nat}{x:α}(h:l[k]?=some x):scan f k (l.drop k)=(match f k x with
  |some o=>some o
  | none=>scan f (k+1) (l.drop (k+1))):=by
 obtain⟨hk,rfl⟩:=List.getElem?_eq_some_iff.1 h
 rw[List.drop_eq_getElem_cons hk];rfl
def sOut:Option ω→Unit⊕ω
 |some o=>.inr o
 |none=>.inl ()
theorem jzak{body:σ→Option (σ⊕(Unit⊕ω))}{l:List α}(st:Nat→σ)(f:Nat→α→Option ω)(hl:l.length≤1000000000)
  (hs:∀(k:Nat) (x:α),l[k]?=some x→body (st k)=some (match f k x with | some o=>.inr (.inr o) | none=>.inl (st (k+1)))) (he:body (st l.length)=some (.inr (.inl ()))) {s:σ} (h0:s=st 0):lp body s=some (sOut (scan f 0 l)):=by
 obtain⟨o,e,ho⟩:=jzd2 (body:=body) st (fun k=>k≤l.length∧scan f 0 l=scan f k (l.drop k)) (fun k=>l.length-k) (fun o=>o=sOut (scan f 0 l)) (by
  rintro k ⟨hk,hsc⟩
  by_cases hlt:k<l.length
  ·have hx:=List.getElem?_eq_getElem hlt
   have h1:=hs k _ hx
   have h2:=jzdu (f:=f) hx
   cases hf:f k l[k] with
   |some o =>
    right
    rw[hf]at h1 h2
    exact⟨_,h1,by rw[hsc,h2];rfl⟩
   |none =>
    left
    rw[hf]at h1 h2
    exact⟨k+1,h1,⟨hlt,hsc.trans h2⟩,by omega⟩
  ·right
   have:k=l.length:=by omega
   subst this
   refine⟨_,he,?_⟩
   rw[hsc,List.drop_length];rfl) 0 h0 ⟨Nat.zero_le _,rfl⟩ (by omega)
 rw[e,ho]
theorem wz3m{body:Int→Option (Int⊕(Unit⊕ω))}{l:List α}(f:Nat→α→Option ω)(hl:l.length≤1000000000)
  (hs:∀(k:Nat) (x:α),l[k]?=some x→body (k:Int)=some (match f k x with | some o=>.inr (.inr o) | none=>.inl ((k:Int)+1))) (he:body (l.length:Int)=some (.inr (.inl ()))):lp body 0=some (sOut (scan f 0 l)) :=
 jzak (fun k=>(k:Int)) f hl (fun k x h=>by rw[hs k x h];cases f k x<;>rfl) he rfl
end
structure CSz(c:wz2d):Prop where
 len:c.Points.length≤1048576
 sz:∀p,p∈c.Points→Sz 1048576 p.Flow
noncomputable def crvF(l:List wz2g)(k:Nat)(p:wz2g):Option Int :=
 if p.Stage < -1000∨2000<p.Stage then some 3 else if ¬Vd p.Flow∨p.Flow.Neg=true then some 1
 else if 0<k∧(p.Stage≤(l.getD (k-1) default).Stage∨rq p.Flow<rq (l.getD (k-1) default).Flow) then some 1 else none
noncomputable def wz5h(c:wz2d):Int:=if c.Points.length<1∨16<c.Points.length then 2 else(scan (crvF c.Points) 0 c.Points).getD 0
theorem wz5y{o:Option Int}{z:Int}:(match sOut o with | .inl ()=>some z | .inr o=>some o)=some (o.getD z):=by cases o<;>rfl
theorem wz9f{α:Type}[Inhabited α]{l:List α}{k:Nat}{x:α}(h:l[k]?=some x)(h0:0<k):at? l ((k:Int)-1)=some (l.getD (k-1) default):=by
 have hk:=(List.getElem?_eq_some_iff.1 h).1
 have h1:k-1<l.length:=by omega
 rw[at_e (n:=k-1) (by omega) (List.getElem?_eq_getElem h1)]
 simp[List.getD,h1]
theorem jzay{α:Type}[Inhabited α]{l:List α}{k:Nat}{x:α}(h:l[k]?=some x)(h0:0<k):l.getD (k-1) default∈l:=by
 have hk:=(List.getElem?_eq_some_iff.1 h).1
 have h1:k-1<l.length:=by omega
 simp[List.getD,h1]
theorem wz49{p q:Rat}:cmpQ p q<0↔p<q:=by
 unfold cmpQ
 split
 ·simp[*]
 ·split<;>simp[*]
theorem wz7j{c:wz2d}(h:CSz c):wz31 c=some (wz5h c):=by
 unfold wz31 wz5h
 by_cases h1:c.Points.length<1
 ·rw[it_t (by simp;omega),if_pos (.inl h1)]
 by_cases h2:16<c.Points.length
 ·rw[it_t (by simp;omega),if_pos (.inr h2)]
 rw[it_f (by simp;omega),if_neg (by omega)]
 rw[wz3m (l:=c.Points) (crvF c.Points) (by omega) ?_ ?_]
 ·simp only[bd_s];exact wz5y
 ·intro k p hp
  have hk:=(List.getElem?_eq_some_iff.1 hp).1
  have hm:=List.mem_of_getElem? hp
  have hz:=h.sz p hm
  simp only[wz5e]
  rw[it_d (by omega),at_e rfl hp]
  simp only[bd_s,wz5p,crvF]
  by_cases p1:p.Stage < -1000∨2000<p.Stage
  ·rw[if_pos p1,it_t (by rcases p1 with p1|p1<;>simp<;>omega)]
  rw[if_neg p1,it_f (by simp;omega)]
  simp only[wz5b]
  rw[qzga (hz.mono (by omega))]
  simp only[bd_s]
  by_cases p2:¬Vd p.Flow∨p.Flow.Neg=true
  ·rw[if_pos p2,it_t (by rcases p2 with p2|p2<;>simp[p2])]
  rw[if_neg p2]
  have p3:Vd p.Flow:=Decidable.byContradiction fun e=>p2 (.inl e)
  have p4:p.Flow.Neg=false:=by simpa using fun e=>p2 (.inr e)
  rw[it_f (by simp[p3,p4])]
  by_cases h0:k=0
  ·subst h0
   rw[ck_t (by simp),show decide ((0:Int)<((0:Nat):Int))=false by simp]
   simp only[Bool.false_and,wzcn,bd_s]
   rw[ck_t (by simp),if_neg (by omega),it_f (by simp),qz3 (by omega)]
  have h0:0<k:=by omega
  rw[ck_t (by simp[inB];omega),show decide ((0:Int)<(k:Int))=true by simp;omega]
  simp only[Bool.true_and,qzbx]
  rw[wz9f hp h0]
  simp only[bd_s]
  have hq:=h.sz _ (jzay hp h0)
  generalize c.Points.getD (k-1) default=q at *
  rw[ck_t (by simp[inB];omega)]
  by_cases p5:p.Stage≤q.Stage
  ·rw[show decide (p.Stage≤q.Stage)=true by simp[p5]]
   simp only[Bool.not_true,wzcn,bd_s]
   rw[if_pos ⟨h0,.inl p5⟩,it_t (by simp)]
  ·rw[show decide (p.Stage≤q.Stage)=false by simp[p5]]
   simp only[Bool.not_false,qzbx,bd_s]
   rw[jz9 hz hq (by omega) (by omega) (by omega) (by omega)]
   simp only[bd_s]
   by_cases p6:rq p.Flow<rq q.Flow
   ·rw[if_pos ⟨h0,.inr p6⟩,it_t (by simp[wz49,p6])]
   ·rw[if_neg (by simp[p5,p6]),it_f (by simp[wz49,p6]),qz3 (by omega)]
 ·simp only[wz5e]
  rw[it_n (by omega)]
structure SSz(s:wz2b):Prop where
 c:CSz s.Curve
 w:Sz 1048576 s.Weight
structure LSz(l:List wz2b):Prop where
 len:l.length≤1048576
 sz:∀s,s∈l→SSz s
def wz50(s:wz2b):Prop:=0≤s.From∧s.From<s.To∧s.To≤1402560∧-1000≤s.Datum∧s.Datum≤1000∧Vd s.Weight∧wz5h s.Curve=0
noncomputable instance(s:wz2b):Decidable (wz50 s):=inferInstanceAs (Decidable (_∧_))
noncomputable def spnF(l:List wz2b)(k:Nat)(s:wz2b):Option Int:=if wz50 s∧(0<k→(l.getD (k-1) default).To≤s.From) then none else some 1
noncomputable def wz4s(l:List wz2b):Int:=if 400<l.length then 2 else(scan (spnF l) 0 l).getD 0
theorem jzbf{s:wz2b}(h:SSz s):wz4o s=some (decide (wz50 s)):=by
 unfold wz4o
 by_cases p:s.From<0∨s.To≤s.From∨1402560<s.To∨s.Datum < -1000∨1000<s.Datum
 ·rw[it_t (by rcases p with p|p|p|p|p<;>simp[p])]
  rw[decide_eq_false (fun e=>by unfold wz50 at e;omega)]
 ·rw[it_f (by simp;omega),qzga (h.w.mono (by omega))]
  simp only[bd_s]
  by_cases p2:Vd s.Weight
  ·rw[decide_eq_true p2,qzbx,wz7j h.c]
   simp only[bd_s,cond_true]
   congr 1
   refine decide_eq_decide.2 ⟨fun e=>⟨by omega,by omega,by omega,by omega,by omega,p2,e⟩,fun e=>e.2.2.2.2.2.2⟩
  ·rw[decide_eq_false p2,wzcn]
   simp only[bd_s,cond_false]
   rw[decide_eq_false (fun e=>p2 e.2.2.2.2.2.1)]
theorem jzbd{l:List wz2b}(h:LSz l):wz4n l=some (wz4s l):=by
 unfold wz4n wz4s
 by_cases h1:400<l.length
 ·rw[it_d (by omega),if_pos h1]
 rw[it_n (by omega),if_neg h1]
 rw[jzak (l:=l) (fun k=>(if k=0 then 0 else(l.getD (k-1) default).To,(k:Int))) (spnF l) (by omega) ?_ ?_ (by simp)]
 ·simp only[bd_s];exact wz5y
 ·intro k s hs
  have hk:=(List.getElem?_eq_some_iff.1 hs).1
  have hz:=h.sz s (List.mem_of_getElem? hs)
  simp only[wz4q]
  rw[it_d (by omega),at_e rfl hs]
  simp only[bd_s]
  rw[jzbf hz]
  simp only[bd_s]
  by_cases p:wz50 s
  ·have p0:=p.1
   by_cases p2:0<k→(l.getD (k-1) default).To≤s.From
   ·have e1:spnF l k s=none:=if_pos ⟨p,p2⟩
    rw[e1,it_f,qz3 (by omega)]
    ·simp[hs]
    ·rw[decide_eq_true p]
     by_cases h0:k=0
     ·simp[h0];omega
     ·rw[if_neg h0]
      have:=p2 (by omega)
      simp only[Bool.not_true,cond_false]
      exact decide_eq_false (by omega)
   ·have e1:spnF l k s=some 1:=if_neg (fun e=>p2 e.2)
    rw[e1,it_t]
    rw[decide_eq_true p]
    have h0:¬k=0:=fun e=>p2 (fun h=>by omega)
    rw[if_neg h0]
    simp only[Bool.not_true,cond_false]
    refine decide_eq_true (Int.not_le.1 fun e=>p2 fun _=>e)
  ·have e1:spnF l k s=some 1:=if_neg (fun e=>p e.1)
   rw[e1,it_t (by simp[p])]
 ·simp only[wz4q]
  rw[it_n (by omega)]
def hisR(h:wz2c):Prop:=0≤h.From∧h.Stages.length≤40000∧h.From≤1402560-(h.Stages.length:Int)∧∀s,s∈h.Stages→0≤s∧s≤1000
instance (h:wz2c):Decidable (hisR h):=inferInstanceAs (Decidable (_∧_))
theorem wz9v{l:List Int}{g:Int→Option Bool}(hl:l.length≤1048576)(p:Int→Bool)(hg:∀s,s∈l→g s=some (p s)):wz29 l g=some ((scan (fun k s=>if p s then some (k:Int) else none) 0 l).getD (-1)):=by
 unfold wz29
 rw[wz3m (l:=l) (fun k s=>if p s then some (k:Int) else none) (by omega) ?_ ?_]
 ·simp only[bd_s];exact wz5y
 ·intro k s hs
  have hk:=(List.getElem?_eq_some_iff.1 hs).1
  simp only[wz3d]
  rw[it_d (by omega),at_e rfl hs]
  simp only[bd_s]
  rw[hg s (List.mem_of_getElem? hs)]
  simp only[bd_s]
  cases p s with
  |true=>rw[wzdh];rfl
  |false=>rw[qzil,qz3 (by omega)];rfl
 ·simp only[wz3d]
  rw[it_n (by omega)]
theorem wz99{p:Int→Bool}:∀(l:List Int) (k:Nat),(0≤(scan (fun k s=>if p s then some (k:Int) else none) k l).getD (-1))↔∃s,s∈l∧p s=true
 |[],k=>by simp[scan]
 |x :: l,k=>by
  have:=wz99 (p:=p) l (k+1)
  unfold scan
  by_cases h:p x=true
  ·simp[h]
  ·have h':p x=false:=by simpa using h
   simp only[h',Bool.false_eq_true,if_false,this,List.mem_cons,exists_eq_or_imp,false_or]
theorem wz9u{h:wz2c}(hl:h.Stages.length≤1048576):wz40 h=some (decide (hisR h)):=by
 unfold wz40
 by_cases p1:0≤h.From∧h.Stages.length≤40000
 ·rw[show(bif decide (0≤h.From) then decide ((h.Stages.length:Int)≤40000) else false)=true by simp;omega]
  rw[ck_t (by simp[inB];omega)]
  simp only[cond_true]
  by_cases p2:h.From≤1402560-(h.Stages.length:Int)
  ·rw[decide_eq_true p2,qzbx]
   unfold jz8
   rw[wz9v (g:=fun a0=>wz5j a0) hl (fun s=>bif decide (s<0) then true else decide (1000<s)) (fun s _=>rfl)]
   simp only[bd_s,cond_true]
   congr 1
   rw[Bool.eq_iff_iff,Bool.not_eq_true',decide_eq_false_iff_not,decide_eq_true_eq,wz99]
   constructor
   ·intro e
    refine⟨p1.1,p1.2,p2,fun s hs=>?_⟩
    refine Decidable.byContradiction fun e2=>e ⟨s,hs,?_⟩
    simp
    omega
   ·rintro⟨_,_,_,e⟩ ⟨s,hs,e2⟩
    have:=e s hs
    simp at e2
    omega
  ·rw[decide_eq_false p2,wzcn]
   simp only[bd_s,cond_false]
   rw[decide_eq_false (fun e=>p2 e.2.2.1)]
 ·rw[show(bif decide (0≤h.From) then decide ((h.Stages.length:Int)≤40000) else false)=false by simp;omega]
  rw[ck_t (by simp)]
  simp only[cond_false,wzcn,bd_s]
  rw[decide_eq_false (fun e=>p1 ⟨e.1,e.2.1⟩)]
noncomputable def gapF(h:wz2c)(k:Nat)(s:wz2b):Option Int:=if s.From<h.From∨h.From+(h.Stages.length:Int)<s.To then some 19 else none
noncomputable def levE(h:wz2c)(l:List wz2b)(lv:qza):Int :=
 if wz4s l≠0 then wz4s l else if ¬hisR h then 1 else(scan (gapF h) 0 l).getD (if Vd lv then 0 else 1)
structure HSz(h:wz2c)(l:List wz2b):Prop where
 l:LSz l
 n:h.Stages.length≤1048576
theorem wz53{h:wz2c}{l:List wz2b}{lv:qza}(H:HSz h l)(hv:Sz 134217728 lv):wz2z h l lv=some (levE h l lv):=by
 unfold wz2z levE
 rw[jzbd H.l]
 simp only[bd_s]
 by_cases p1:wz4s l=0
 ·rw[qzk5 p1,if_neg (by simpa using p1),wz9u H.n]
  simp only[bd_s]
  by_cases p2:hisR h
  ·rw[qzk5 p2,if_neg (by simpa using p2)]
   rw[wz3m (l:=l) (gapF h) (by have:=H.l.len;omega) ?_ ?_]
   ·simp only[bd_s]
    cases scan (gapF h) 0 l with
    |some o=>rfl
    |none =>
     simp only[sOut,Option.getD_none]
     rw[qzga hv]
     simp only[bd_s]
     by_cases p3:Vd lv
     ·rw[qzk5 p3,if_pos p3]
     ·rw[qzhj p3,if_neg p3]
   ·intro k s hs
    have hk:=(List.getElem?_eq_some_iff.1 hs).1
    have hl:=H.l.len
    have q:=p2
    obtain⟨q1,q2,q3,_⟩:=q
    simp only[wz45]
    rw[it_d (by omega),at_e rfl hs]
    simp only[bd_s,gapF]
    rw[ck_t (by simp[inB];omega)]
    by_cases p4:s.From<h.From∨h.From+(h.Stages.length:Int)<s.To
    ·rw[if_pos p4,it_t (by rcases p4 with p4|p4<;>simp[p4])]
    ·rw[if_neg p4,it_f (by simp;omega),qz3 (by omega)]
   ·simp only[wz45]
    rw[it_n (by omega)]
  ·rw[qzhj p2,if_pos p2]
 ·rw[qzhj p1,if_pos p1]
structure CrvR(c:wz2d):Prop where
 sz:CSz c
 pos:0<c.Points.length
 len:c.Points.length≤16
 st:∀p,p∈c.Points→-1000≤p.Stage∧p.Stage≤2000
 vd:∀p,p∈c.Points→Vd p.Flow
 asc:∀k (h:k+1<c.Points.length),c.Points[k].Stage<c.Points[k+1].Stage
theorem wz62{c:wz2d}(h:CSz c)(e:wz5h c=0):CrvR c:=by
 unfold wz5h at e
 split at e
 ·cases e
 ·rename_i hl
  have hsc:scan (crvF c.Points) 0 c.Points=none:=by
   cases hs:scan (crvF c.Points) 0 c.Points with
   |none=>rfl
   |some o =>
    rw[hs]at e
    have e:o=0:=e
    subst e
    have:∀(k:Nat) (l:List wz2g),scan (crvF c.Points) k l=some 0→False:=by
     intro k l
     induction l generalizing k with
     |nil=>intro e;cases e
     |cons x l ih =>
      intro e
      unfold scan at e
      split at e
      ·rename_i o ho
       cases e
       unfold crvF at ho
       split at ho
       ·cases ho
       ·split at ho
        ·cases ho
        ·split at ho<;>cases ho
      ·exact ih _ e
    exact(this _ _ hs).elim
  have at':∀i (hi:i<c.Points.length),crvF c.Points i c.Points[i]=none:=fun i hi=>by
   have:=wz6o _ _ hsc i _ (List.getElem?_eq_getElem hi)
   rwa [Nat.zero_add]at this
  have key:∀i (hi:i<c.Points.length),(-1000≤c.Points[i].Stage∧c.Points[i].Stage≤2000)∧Vd c.Points[i].Flow∧(0<i→¬c.Points[i].Stage≤(c.Points.getD (i-1) default).Stage):=fun i hi=>by
   have:=at' i hi
   unfold crvF at this
   split at this
   ·cases this
   ·rename_i h1
    split at this
    ·cases this
    ·rename_i h2
     split at this
     ·cases this
     ·rename_i h3
      exact⟨by omega,Decidable.byContradiction fun e=>h2 (.inl e),fun h0 h4=>h3 ⟨h0,.inl h4⟩⟩
  refine⟨h,by omega,by omega,fun p hp=>?_,fun p hp=>?_,fun k hk=>?_⟩
  ·obtain⟨i,hi,rfl⟩:=List.getElem_of_mem hp
   exact(key i hi).1
  ·obtain⟨i,hi,rfl⟩:=List.getElem_of_mem hp
   exact(key i hi).2.1
  ·have:=(key (k+1) hk).2.2 (by omega)
   simp[List.getD,show k<c.Points.length by omega]at this
   exact this
theorem jzd5{n d:Int}(h1:-999999999999999≤n)(h2:n≤999999999999999)(h3:-999999999999999≤d)(h4:d≤999999999999999)(h0:d≠0):wzl7 n d=some ⟨rof ((n:Rat) / (d:Rat)),0⟩:=by
 unfold wzl7
 rw[wzn5 h1 h2,wzn5 h3 h4]
 simp only[bd_s]
 rw[it_f (show(bif !true then true else !true)=false from rfl),it_n h0,wzne h1 h2,wzne h3 h4]
 simp only[bd_s]
 have e1:sv (bs d.natAbs)≠0:=by rw[wzj];omega
 rw[wzkp (Nat.le_trans (qzwm (by omega)) (by omega)) (Nat.le_trans (qzwm (by omega)) (by omega)) e1]
 simp only[bd_s,wzj]
 rw[←wzeu n,←wzeu d,jzh1 _ _ (by omega) (by omega),Nat.mul_one,Nat.one_mul]
 rfl
structure Nx(l:List wz2g)(s:Int)(n:Nat):Prop where
 le:n≤l.length
 lo:∀k (h:k<l.length),k<n→l[k].Stage≤s
 hi:∀k (h:k<l.length),n≤k→s<l[k].Stage
theorem Nx.uniq{l:List wz2g}{s:Int}{n m:Nat}(h:Nx l s n)(k:Nx l s m):n=m:=by
 rcases Nat.lt_trichotomy n m with e|e|e
 ·have:=h.hi n (by have:=k.le;omega) (Nat.le_refl _)
  have:=k.lo n (by have:=k.le;omega) e
  omega
 ·exact e
 ·have:=k.hi m (by have:=h.le;omega) (Nat.le_refl _)
  have:=h.lo m (by have:=h.le;omega) e
  omega
noncomputable def wz34(l:List wz2g)(s:Int)(n:Nat):Rat :=
 if n=0 then 0 else if n=l.length then rq (l.getD (n-1) default).Flow else
  rq (l.getD (n-1) default).Flow+(((s-(l.getD (n-1) default).Stage:Int):Rat) / (((l.getD n default).Stage-(l.getD (n-1) default).Stage:Int):Rat))*(rq (l.getD n default).Flow-rq (l.getD (n-1) default).Flow)
theorem wz3o{α:Type}[Inhabited α]{l:List α}{k:Nat}(h:k<l.length):l.getD k default=l[k]:=by simp[List.getD,h]
theorem jzag{c:wz2d}(H:CrvR c):∀(j k:Nat) (hk:k<c.Points.length) (hj:j<k),(c.Points[j]'(by omega)).Stage<c.Points[k].Stage:=by
 intro j k hk hj
 induction k with
 |zero=>omega
 |succ k ih =>
  have h1:=H.asc k hk
  by_cases e:j=k
  ·subst e;exact h1
  ·exact Int.lt_trans (ih (by omega) (by omega)) h1
theorem wz8g{c:wz2d}(H:CrvR c){s:Int}(hs:-100000≤s∧s≤100000){n:Nat}(hn:Nx c.Points s n):Sz 4194304 (rof (wz34 c.Points s n)) ∧
  (0<n→n<c.Points.length→qzlk (s-(c.Points.getD (n-1) default).Stage) ((c.Points.getD n default).Stage-(c.Points.getD (n-1) default).Stage)=some (rof (((s-(c.Points.getD (n-1) default).Stage:Int):Rat) / (((c.Points.getD n default).Stage-(c.Points.getD (n-1) default).Stage:Int):Rat)),0) ∧
   wzl7 (s-(c.Points.getD (n-1) default).Stage) ((c.Points.getD n default).Stage-(c.Points.getD (n-1) default).Stage)=some ⟨rof (((s-(c.Points.getD (n-1) default).Stage:Int):Rat) / (((c.Points.getD n default).Stage-(c.Points.getD (n-1) default).Stage:Int):Rat)),0⟩ ∧
   ∀(x:qza),x=rof (((s-(c.Points.getD (n-1) default).Stage:Int):Rat) / (((c.Points.getD n default).Stage-(c.Points.getD (n-1) default).Stage:Int):Rat)) →
    (bd (qzbh (c.Points.getD n default).Flow (c.Points.getD (n-1) default).Flow) fun r3=>bd (qzcw x r3) fun r4=>bd (qzbi (c.Points.getD (n-1) default).Flow r4) fun r5=>some r5)=some (rof (wz34 c.Points s n)) ∧
    ∀{β:Type} (K:qza→Option β),(bd (wzlk (c.Points.getD n default).Flow (c.Points.getD (n-1) default).Flow) fun r3=>bd (wzkr x r3) fun r4=>bd (wzj9 (c.Points.getD (n-1) default).Flow r4) fun r5=>K r5)=K (rof (wz34 c.Points s n))):=by
 unfold wz34
 have hle:=hn.le
 by_cases h0:n=0
 ·rw[if_pos h0]
  exact⟨Sz.zero _,fun h=>by omega⟩
 rw[if_neg h0]
 have h1:n-1<c.Points.length:=by omega
 have hp:c.Points.getD (n-1) default∈c.Points:=by rw[wz3o h1];exact List.getElem_mem h1
 have s1:=(H.sz.sz _ hp)
 by_cases h2:n=c.Points.length
 ·rw[if_pos h2]
  refine⟨(wznu s1).mono (by omega),fun _ h=>by omega⟩
 rw[if_neg h2]
 have h3:n<c.Points.length:=by omega
 have hq:c.Points.getD n default∈c.Points:=by rw[wz3o h3];exact List.getElem_mem h3
 have s2:=(H.sz.sz _ hq)
 have t1:=H.st _ hp
 have t2:=H.st _ hq
 have t3:(c.Points.getD (n-1) default).Stage<(c.Points.getD n default).Stage:=by
  rw[wz3o h1,wz3o h3];exact jzag H (n-1) n h3 (by omega)
 generalize c.Points.getD (n-1) default=p at *
 generalize c.Points.getD n default=q at *
 obtain⟨m1,m2⟩:=jzcp (n:=s-p.Stage) (d:=q.Stage-p.Stage) (by omega) (by omega) (by omega) (by omega) (by omega)
 have m3:=jzd5 (n:=s-p.Stage) (d:=q.Stage-p.Stage) (by omega) (by omega) (by omega) (by omega) (by omega)
 obtain⟨d1,d2⟩:=qzg8 s2 s1 (by omega) (by omega) (by omega) (by omega)
 have d3:=wzt2 s2 s1 (by omega) (by omega) (by omega) (by omega)
 generalize (((s-p.Stage:Int):Rat) / ((q.Stage-p.Stage:Int):Rat))=z at *
 obtain⟨u1,u2⟩:=qzi5 m2 d2 (by omega) (by omega) (by omega) (by omega)
 have u3:=wzqm m2 d2 (by omega) (by omega) (by omega) (by omega)
 rw[qzs,qzs]at u1 u2 u3
 obtain⟨v1,v2⟩:=qziy s1 u2 (by omega) (by omega) (by omega) (by omega)
 have v3:=wzod s1 u2 (by omega) (by omega) (by omega) (by omega)
 rw[qzs]at v1 v2 v3
 refine⟨v2.mono (by omega),fun _ _=>⟨m1,m3,fun x hx=>⟨?_,fun K=>?_⟩⟩⟩
 ·rw[hx,d1]
  simp only[bd_s]
  rw[u1]
  simp only[bd_s]
  rw[v1];rfl
 ·rw[hx,d3]
  simp only[bd_s]
  rw[u3]
  simp only[bd_s]
  rw[v3];rfl
theorem wz9k{c:wz2d}(H:CrvR c)(s:Int):∃n,Nx c.Points s n∧wz4u (c.Points.length:Int) (fun a0=>wz39 a0 c s)=some (n:Int):=by
 have hl:=H.len
 unfold wz4u
 obtain⟨o,e,n,rfl,hn⟩:=vzf (s:=((0:Int),(c.Points.length:Int))) (body:=wz5f (fun a0=>wz39 a0 c s)) (fun t=>∃i j:Nat,t=((i:Int),(j:Int))∧i≤j∧j≤c.Points.length∧(∀k (h:k<c.Points.length),k<i→c.Points[k].Stage≤s)∧(∀k (h:k<c.Points.length),j≤k→s<c.Points[k].Stage)) (fun t=>(t.2-t.1).toNat) (fun o=>∃n:Nat,o=(n:Int)∧Nx c.Points s n) (by
  rintro t ⟨i,j,rfl,hij,hj,lo,hi⟩
  simp only[wz5f]
  by_cases hlt:i<j
  ·left
   have hmid:Int.fdiv (((i:Int)+(j:Int))%18446744073709551616) 2=(((i+j) / 2:Nat):Int):=by
    rw[show(((i:Int)+(j:Int))%18446744073709551616)=((i+j:Nat):Int) by omega,Int.fdiv_eq_ediv_of_nonneg _ (by omega)]
    omega
   have hm:(i+j) / 2<c.Points.length:=by omega
   rw[it_d (by omega),qz3 (by omega),hmid,qz3 (by omega)]
   simp only[wz39]
   rw[at_e rfl (List.getElem?_eq_getElem hm)]
   simp only[bd_s]
   by_cases hst:s<c.Points[(i+j) / 2].Stage
   ·rw[qzk5 hst]
    refine⟨_,rfl,⟨i,(i+j) / 2,rfl,by omega,by omega,lo,fun k hk h2=>?_⟩,by dsimp only;omega⟩
    by_cases e:k=(i+j) / 2
    ·subst e;exact hst
    ·exact Int.lt_trans hst (jzag H _ k hk (by omega))
   ·rw[qzhj hst,qz3 (by omega)]
    refine⟨_,rfl,⟨(i+j) / 2+1,j,by simp,by omega,hj,fun k hk h2=>?_,hi⟩,by dsimp only;omega⟩
    by_cases e:k=(i+j) / 2
    ·subst e;omega
    ·have:=jzag H k ((i+j) / 2) hm (by omega)
     omega
  ·right
   rw[it_n (by omega)]
   obtain rfl:i=j:=by omega
   exact⟨_,rfl,i,rfl,hj,lo,hi⟩) ⟨0,c.Points.length,rfl,by omega,Nat.le_refl _,fun k _ h=>by omega,fun k h h2=>by omega⟩ (by show((c.Points.length:Int)-0).toNat<_;omega)
 exact⟨n,hn,by rw[e];rfl⟩
theorem jzc9{c:wz2d}(H:CrvR c){s:Int}(hs:-100000≤s∧s≤100000){n:Nat}(hn:Nx c.Points s n):wz6g c s=some (rof (wz34 c.Points s n)):=by
 obtain⟨m,hm,e⟩:=wz9k H s
 obtain rfl:=hn.uniq hm
 have hle:=hn.le
 have hl:=H.len
 unfold wz6g
 rw[e]
 simp only[bd_s]
 by_cases h0:n=0
 ·subst h0
  rw[it_d (by simp)]
  unfold wz34
  rw[if_pos rfl,jzen]
 ·rw[it_n (by omega),qz3 (by omega)]
  have h1:n-1<c.Points.length:=by omega
  rw[at_e (n:=n-1) (by omega) (List.getElem?_eq_getElem h1),←wz3o h1]
  simp only[bd_s]
  have hp:c.Points.getD (n-1) default∈c.Points:=by rw[wz3o h1];exact List.getElem_mem h1
  by_cases h2:n=c.Points.length
  ·rw[it_d (by omega)]
   unfold wz34
   rw[if_neg h0,if_pos h2,qzyo (H.vd _ hp)]
  ·rw[it_n (by omega)]
   have h3:n<c.Points.length:=by omega
   rw[at_e rfl (List.getElem?_eq_getElem h3),←wz3o h3]
   simp only[bd_s]
   have hq:c.Points.getD n default∈c.Points:=by rw[wz3o h3];exact List.getElem_mem h3
   have t1:=H.st _ hp
   have t2:=H.st _ hq
   obtain⟨_,hk⟩:=wz8g H hs hn
   obtain⟨k1,_,k2⟩:=hk (by omega) h3
   rw[qz3 (by omega),qz3 (by omega),k1]
   simp only[bd_s]
   exact(k2 _ rfl).1
section
variable {α β ω σ:Type}
theorem jzct{body:σ→Option (σ⊕ω)}(st:Nat→σ)(n:Nat)(hn:n<4611686018427387904)(hs:∀k,k<n→body (st k)=some (.inl (st (k+1)))){o:ω}(he:body (st n)=some (.inr o)){s:σ}(h0:s=st 0):lp body s=some o:=by
 obtain⟨o',e,ho⟩:=jzd2 (body:=body) st (fun k=>k≤n) (fun k=>n-k) (fun o'=>o'=o) (by
  intro k hk
  by_cases h:k<n
  ·exact .inl ⟨k+1,hs k h,h,by omega⟩
  ·right
   obtain rfl:k=n:=by omega
   exact⟨_,he,rfl⟩) 0 h0 (Nat.zero_le _) (by omega)
 rw[e,ho]
theorem wz69{body:σ→Option (σ⊕ω)}{l:List α}(st:Nat→σ)(hl:l.length<4611686018427387904)(hs:∀k x,l[k]?=some x→body (st k)=some (.inl (st (k+1)))){o:ω}(he:body (st l.length)=some (.inr o)){s:σ}(h0:s=st 0):lp body s=some o :=
 jzct st l.length hl (fun k hk=>hs k _ (List.getElem?_eq_getElem hk)) he h0
theorem jzlb{l:List α}{k:Nat}{x:α}(h:l[k]?=some x):l.take (k+1)=l.take k++[x]:=by rw[List.take_add_one,h];rfl
theorem wz5l{f:Nat→α→Option ω}{l:List α}(h:scan f 0 l=none){i:Nat}{x:α}(hx:l[i]?=some x):f i x=none:=by
 have:=wz6o 0 l h i x hx
 rwa [Nat.zero_add]at this
theorem wz8b{v:β}{k x:Int}:∀(m:List (Int×β)),mget keqI (mput keqI m k v) x=if x=k then some v else mget keqI m x
 |[]=>by
  by_cases h:x=k<;>simp[mput,mget,keqI,h]
 |p :: m=>by
  unfold mput
  by_cases h:k=p.1
  ·rw[show keqI k p.1=true by simp[keqI,h]]
   by_cases h2:x=k
   ·simp[mget,keqI,h2]
   ·have h3:keqI x k=false:=by simp[keqI,h2]
    have h4:keqI x p.1=false:=by rw[←h];exact h3
    simp only[mget,h3,h4,if_neg h2]
  ·rw[show keqI k p.1=false by simp[keqI,h]]
   have ih:=wz8b (v:=v) (k:=k) (x:=x) m
   by_cases h2:x=p.1
   ·have h3:keqI x p.1=true:=by simp[keqI,h2]
    simp only[mget,h3]
    rw[if_neg (fun e:x=k=>h (e.symm.trans h2))]
   ·have h3:keqI x p.1=false:=by simp[keqI,h2]
    simp only[mget,h3]
    exact ih
end
noncomputable def nxN(l:List wz2g)(s:Int):Nat:=open Classical in if h:∃n,Nx l s n then h.choose else 0
noncomputable def flw(c:wz2d)(s:Int):qza:=rof (wz34 c.Points s (nxN c.Points s))
theorem jzaa{c:wz2d}(H:CrvR c)(s:Int):Nx c.Points s (nxN c.Points s):=by
 have h:∃n,Nx c.Points s n:=let ⟨n,hn,_⟩:=wz9k H s;⟨n,hn⟩
 unfold nxN
 rw[dif_pos h]
 exact h.choose_spec
theorem jzhs{c:wz2d}(H:CrvR c){s:Int}(hs:-100000≤s∧s≤100000):Sz 4194304 (flw c s):=(wz8g H hs (jzaa H s)).1
theorem jzhy(c:wz2d)(s:Int):Vd (flw c s):=qz07 _
theorem jzeb{c:wz2d}(h:CSz c)(e:wz5h c=0){s:Int}(hs:-100000≤s∧s≤100000):wz5m c s=some (flw c s):=by
 unfold wz5m
 rw[wz7j h,bd_s,qzk5 e,jzc9 (wz62 h e) hs (jzaa (wz62 h e) s)]
 rfl
structure LevR(h:wz2c)(l:List wz2b):Prop where
 sz:HSz h l
 his:hisR h
 len:l.length≤400
 span:∀s,s∈l→wz50 s
 asc:∀k (hk:k+1<l.length),l[k].To≤l[k+1].From
 gap:∀s,s∈l→h.From≤s.From∧s.To≤h.From+(h.Stages.length:Int)
theorem wz88{α:Type}{f:Nat→α→Option Int}{z:Int}(hf:∀k x o,f k x=some o→o≠z):∀(k:Nat) (l:List α) ,scan f k l≠some z
 |k,[]=>by simp[scan]
 |k,x :: l=>by
  unfold scan
  intro e
  split at e
  ·rename_i o ho
   cases e
   exact hf _ _ _ ho rfl
  ·exact wz88 hf (k+1) l e
theorem jzdn{α:Type}{f:Nat→α→Option Int}{l:List α}(hf:∀k x o,f k x=some o→o≠0)(h:(scan f 0 l).getD 0=0):scan f 0 l=none:=by
 cases e:scan f 0 l with
 |none=>rfl
 |some o =>
  rw[e]at h
  have h:o=0:=h
  subst h
  exact(wz88 hf _ _ e).elim
theorem wz32{h:wz2c}{l:List wz2b}{lv:qza}(H:HSz h l)(e:levE h l lv=0):LevR h l∧Vd lv:=by
 unfold levE at e
 split at e
 ·rename_i h1;exact(h1 e).elim
 ·rename_i h1
  split at e
  ·cases e
  ·rename_i h2
   have h1:wz4s l=0:=Decidable.byContradiction h1
   have h2:hisR h:=Decidable.byContradiction h2
   unfold wz4s at h1
   split at h1
   ·cases h1
   ·rename_i h3
    have e1:=jzdn (f:=spnF l) (fun k x o h=>by unfold spnF at h;split at h<;>cases h;decide) h1
    have key:∀i (hi:i<l.length),wz50 l[i]∧(0<i→(l.getD (i-1) default).To≤l[i].From):=fun i hi=>by
     have:=wz5l e1 (List.getElem?_eq_getElem hi)
     unfold spnF at this
     split at this
     ·rename_i p;exact p
     ·cases this
    have e2:scan (gapF h) 0 l=none∧Vd lv:=by
     cases eg:scan (gapF h) 0 l with
     |none =>
      rw[eg]at e
      refine⟨rfl,Decidable.byContradiction fun hv=>?_⟩
      simp[hv]at e
     |some o =>
      rw[eg]at e
      have e:o=0:=e
      subst e
      exact(wz88 (f:=gapF h) (fun k x o h=>by unfold gapF at h;split at h<;>cases h;decide) _ _ eg).elim
    refine⟨⟨H,h2,by omega,fun s hs=>?_,fun k hk=>?_,fun s hs=>?_⟩,e2.2⟩
    ·obtain⟨i,hi,rfl⟩:=List.getElem_of_mem hs
     exact(key i hi).1
    ·have:=(key (k+1) hk).2 (by omega)
     simpa [List.getD,show k<l.length by omega] using this
    ·obtain⟨i,hi,rfl⟩:=List.getElem_of_mem hs
     have:=wz5l e2.1 (List.getElem?_eq_getElem hi)
     unfold gapF at this
     split at this
     ·cases this
     ·omega
def spt(s:wz2b):List Int:=(List.range (s.To-s.From).toNat).map fun(i:Nat)=>s.From+(i:Int)
def tks(l:List wz2b):List Int:=l.flatMap spt
def stg(h:wz2c)(t:Int):Int:=h.Stages.getD (t-h.From).toNat 0
noncomputable def spr(h:wz2c)(s:wz2b):List (Int×qza):=(spt s).map fun t=>(t,flw s.Curve (stg h t+s.Datum))
noncomputable def prs(h:wz2c)(l:List wz2b):List (Int×qza):=l.flatMap (spr h)
noncomputable def flws(h:wz2c)(l:List wz2b):List qza:=(prs h l).map (·.2)
theorem wz9c(h:wz2c)(l:List wz2b):(prs h l).map (·.1)=tks l:=by
 unfold prs tks
 rw[List.map_flatMap]
 congr 1
 funext s
 simp[spr,Function.comp_def]
theorem wz6i(s:wz2b):(spt s).length=(s.To-s.From).toNat:=by simp[spt]
theorem jzd7{s:wz2b}{k:Nat}(hk:k<(s.To-s.From).toNat):(spt s)[k]?=some (s.From+(k:Int)):=by simp[spt,hk]
theorem jzbw{s:wz2b}{t:Int}:t∈spt s↔s.From≤t∧t<s.To:=by
 unfold spt
 rw[List.mem_map]
 constructor
 ·rintro⟨i,hi,rfl⟩
  rw[List.mem_range]at hi
  omega
 ·rintro⟨h1,h2⟩
  exact⟨(t-s.From).toNat,List.mem_range.2 (by omega),by omega⟩
theorem jzhp{l:List wz2b}(h:∀s,s∈l→wz50 s):(tks l).length≤1402560*l.length:=by
 induction l with
 |nil=>simp[tks]
 |cons s l ih =>
  have h1:=ih fun s' hs'=>h s' (List.mem_cons_of_mem _ hs')
  have h2:=h s (List.mem_cons_self ..)
  have e:tks (s :: l)=spt s++tks l:=rfl
  obtain⟨p1,p2,p3,_⟩:=h2
  rw[e,List.length_append,wz6i,List.length_cons]
  omega
theorem wz21(h:wz2c)(l:List wz2b):(prs h l).length=(tks l).length:=by rw[←wz9c h l,List.length_map]
theorem wz3b(h:wz2c)(l:List wz2b):(flws h l).length=(tks l).length:=by rw[←wz21 h l];simp[flws]
theorem LevR.tks{h:wz2c}{l:List wz2b}(H:LevR h l):(tks l).length≤561024000:=by
 have:=jzhp H.span
 have:=H.len
 omega
theorem LevR.far{h:wz2c}{l:List wz2b}(H:LevR h l):∀(i j:Nat) (hj:j<l.length) (hi:i<j),(l[i]'(by omega)).To≤l[j].From:=by
 intro i j hj hi
 induction j with
 |zero=>omega
 |succ j ih =>
  have h1:=H.asc j hj
  by_cases e:i=j
  ·subst e;exact h1
  ·have h2:=ih (by omega) (by omega)
   have h3:=(H.span _ (List.getElem_mem (show j<l.length by omega))).2.1
   omega
theorem LevR.stg{h:wz2c}{l:List wz2b}(H:LevR h l){s:wz2b}(hs:s∈l){t:Int}(h1:s.From≤t)(h2:t<s.To):at? h.Stages (t-h.From)=some (stg h t)∧(0≤stg h t∧stg h t≤1000)∧(-1000≤s.Datum∧s.Datum≤1000)∧(0≤t∧t<1402560)∧(0≤t-h.From∧t-h.From≤1402560):=by
 have g:=H.gap s hs
 have r:=H.span s hs
 obtain⟨r1,r2,r3,r4,r5,r6,r7⟩:=r
 obtain⟨q1,q2,q3,q4⟩:=H.his
 have hk:(t-h.From).toNat<h.Stages.length:=by omega
 have e:Go.Am.stg h t=h.Stages[(t-h.From).toNat]:=by simp[Go.Am.stg,List.getD,hk]
 refine⟨?_,?_,⟨r4,r5⟩,by omega,by omega⟩
 ·rw[e];exact at_e (n:=(t-h.From).toNat) (by omega) (List.getElem?_eq_getElem hk)
 ·rw[e];exact q4 _ (List.getElem_mem hk)
theorem LevR.szf{h:wz2c}{l:List wz2b}(H:LevR h l):∀x,x∈flws h l→Sz 4194304 x∧Vd x:=by
 intro x hx
 unfold flws prs at hx
 obtain⟨p,hp,rfl⟩:=List.mem_map.1 hx
 obtain⟨s,hs,hp⟩:=List.mem_flatMap.1 hp
 obtain⟨t,ht,rfl⟩:=List.mem_map.1 hp
 obtain⟨t1,t2⟩:=jzbw.1 ht
 obtain⟨e1,e2,e3,e4,e5⟩:=H.stg hs t1 t2
 exact⟨jzhs (wz62 (H.sz.l.sz s hs).c (H.span s hs).2.2.2.2.2.2) (by omega),jzhy _ _⟩
theorem jzei{h:wz2c}{l:List wz2b}{k:Nat}{s:wz2b}(e:l[k]?=some s):prs h (l.take (k+1))=prs h (l.take k)++spr h s:=by
 rw[jzlb e];simp[prs]
theorem jzer(l:List wz2b)(k:Nat):(tks (l.take k)).length≤(tks l).length:=by
 have:tks l=tks (l.take k)++tks (l.drop k):=by unfold tks;rw[←List.flatMap_append,List.take_append_drop]
 rw[this,List.length_append];omega
theorem wz5x{α:Type}(l:List α)(k:Nat):(l.take k).length≤l.length:=by rw[List.length_take];omega
def inS(s:wz2b)(t:Int):Prop:=s.From≤t∧t<s.To
instance (s:wz2b)(t:Int):Decidable (inS s t):=inferInstanceAs (Decidable (_∧_))
def jzf1(st:List (Int×qza)→Option Bool)(l:List (Int×qza)):Prop:=∀k,k<l.length→st (l.take (k+1))=some false
theorem wz6w{h:wz2c}{l:List wz2b}(H:LevR h l){st:List (Int×qza)→Option Bool}(hst:jzf1 st (prs h l)):wz2x l h st=some (prs h l):=by
 have hl:=H.len
 have hT:=H.tks
 unfold wz2x
 rw[wz69 (l:=l) (fun k=>((k:Int),prs h (l.take k))) (by omega) (o:=.inl (prs h l)) ?_ ?_ ?_]
 ·rfl
 ·intro k s hs
  have hk:=(List.getElem?_eq_some_iff.1 hs).1
  have hm:=List.mem_of_getElem? hs
  have hsp:=H.span s hm
  obtain⟨r1,r2,r3,r4,r5,r6,r7⟩:=hsp
  have hc:=(H.sz.l.sz s hm).c
  have e1:=jzei (h:=h) hs
  have e0:prs h l=prs h (l.take k)++spr h s++prs h (l.drop (k+1)):=by
   rw[←e1];unfold prs;rw[←List.flatMap_append,List.take_append_drop]
  simp only[wz38]
  rw[it_d (by omega),at_e rfl hs]
  simp only[bd_s]
  obtain⟨o,eo,m,rfl⟩:=vzf (s:=(s.From,([]:List (Int×qza)),prs h (l.take k))) (body:=wz4b h st s) (fun t=>∃(i:Nat) (m:List (Int×qza)),i≤(s.To-s.From).toNat∧(∀x v,mget keqI m x=some v→v=flw s.Curve (x+s.Datum))∧t=(s.From+(i:Int),m,prs h (l.take k)++(spr h s).take i)) (fun t=>(s.To-t.1).toNat) (fun o=>∃m,o=.inl (m,prs h (l.take k)++spr h s)) (by
   rintro t ⟨i,m,hi,hm2,rfl⟩
   simp only[wz4b]
   by_cases hlt:i<(s.To-s.From).toNat
   ·left
    have ht:inS s (s.From+(i:Int)):=⟨by omega,by omega⟩
    obtain⟨g1,g2,g3,g4,g5⟩:=H.stg hm ht.1 ht.2
    have e2:(spr h s)[i]?=some (s.From+(i:Int),flw s.Curve (stg h (s.From+(i:Int))+s.Datum)):=by
     unfold spr;rw[List.getElem?_map,jzd7 hlt];rfl
    have e3:=jzlb e2
    have hlen:(spr h s).length=(s.To-s.From).toNat:=by unfold spr;rw[List.length_map,wz6i]
    have e4:st (prs h (l.take k)++(spr h s).take (i+1))=some false:=by
     have:=hst ((prs h (l.take k)).length+i) (by rw[e0];simp only[List.length_append];omega)
     rw[e0,List.append_assoc,Nat.add_assoc,List.take_length_add_append,List.take_append_of_le_length (by omega)]at this
     exact this
    generalize stg h (s.From+(i:Int))=x at *
    rw[it_d (by omega),qz3 (by omega),g1]
    simp only[bd_s]
    have fin:∀m',(∀x v,mget keqI m' x=some v→v=flw s.Curve (x+s.Datum))→∃s',(bd (st ((prs h (l.take k)++(spr h s).take i)++[(s.From+(i:Int),flw s.Curve (x+s.Datum))])) fun s1=>ite' s1 (some (.inr (.inr ((prs h (l.take k)++(spr h s).take i)++[(s.From+(i:Int),flw s.Curve (x+s.Datum))])))) (ck (inB .i64 (s.From+(i:Int)+1))<|some (.inl (s.From+(i:Int)+1,m',(prs h (l.take k)++(spr h s).take i)++[(s.From+(i:Int),flw s.Curve (x+s.Datum))]))))=some ((.inl s':(Int×(List (Int×qza))×(List (Int×qza)))⊕(((List (Int×qza))×(List (Int×qza)))⊕(List (Int×qza)))))∧(∃(i:Nat) (m:List (Int×qza)),i≤(s.To-s.From).toNat∧(∀x v,mget keqI m x=some v→v=flw s.Curve (x+s.Datum))∧s'=(s.From+(i:Int),m,prs h (l.take k)++(spr h s).take i))∧(s.To-s'.1).toNat<(s.To-(s.From+(i:Int))).toNat:=by
     intro m' hm'
     rw[List.append_assoc,←e3,e4]
     simp only[bd_s]
     rw[qzil,qz3 (by omega)]
     exact⟨_,rfl,⟨i+1,m',by omega,hm',by rw[show s.From+((i+1:Nat):Int)=s.From+(i:Int)+1 by omega]⟩,by dsimp only;omega⟩
    cases hg:mget keqI m x with
    |none =>
     rw[show(!Option.isSome (none:Option qza))=true from rfl,wzdh,qz3 (by omega),jzeb hc r7 (by omega)]
     simp only[bd_s]
     exact fin _ fun y v hv=>by
      rw[wz8b]at hv
      split at hv
      ·rename_i e;subst e;cases hv;rfl
      ·exact hm2 y v hv
    |some v =>
     have:=hm2 x v hg
     rw[show(!Option.isSome (some v))=false from rfl,qzil,bd_s,show Option.getD (some v) (qza.mk false [] [])=v from rfl]
     subst this
     exact fin m hm2
   ·right
    rw[it_n (by omega)]
    have hlen:(spr h s).length=(s.To-s.From).toNat:=by unfold spr;rw[List.length_map,wz6i]
    exact⟨_,rfl,m,by rw[List.take_of_length_le (l:=spr h s) (by omega)]⟩) ⟨0,[],Nat.zero_le _,fun x v hv=>by simp[mget]at hv,by simp⟩ (by show(s.To-s.From).toNat<_;omega)
  rw[eo]
  simp only[bd_s]
  rw[qz3 (by omega),←e1]
  rfl
 ·simp only[wz38]
  rw[it_n (by omega),List.take_length]
 ·rfl
theorem jzbc{σ:Type}{body:(Int×qza)→σ→Option (σ⊕Unit)}{l:List (Int×qza)}(st:Nat→σ)(hs:∀k p,l[k]?=some p→body p (st k)=some (.inl (st (k+1)))):∀k,k≤l.length→wz20 body (l.take k) (st 0)=some (.inl (st k)):=by
 have app:∀(a:List (Int×qza)) (p:Int×qza) (s s':σ),wz20 body a s=some (.inl s')→wz20 body (a++[p]) s=(match body p s' with | some (.inl z)=>some (.inl z) | some (.inr o)=>some (.inr o) | none=>none):=by
  intro a
  induction a with
  |nil =>
   intro p s s' e
   cases e
   simp only[List.nil_append,wz20]
   cases body p s with
   |none=>rfl
   |some r=>cases r<;>rfl
  |cons q a ih =>
   intro p s s' e
   simp only[wz20,List.cons_append]at e ⊢
   cases hb:body q s with
   |none=>rw[hb]at e;cases e
   |some r =>
    cases r with
    |inl z=>rw[hb]at e;exact ih p z s' e
    |inr o=>rw[hb]at e;cases e
 intro k
 induction k with
 |zero=>intro _;rfl
 |succ k ih =>
  intro hk
  have hx:=List.getElem?_eq_getElem (show k<l.length by omega)
  rw[jzlb hx,app _ _ _ _ (ih (by omega)),hs k _ hx]
theorem wz7f{σ:Type}{body:(Int×qza)→σ→Option (σ⊕Unit)}{l:List (Int×qza)}(st:Nat→σ)(hs:∀k p,l[k]?=some p→body p (st k)=some (.inl (st (k+1)))){s:σ}(h0:s=st 0):jzf1 (fun l=>wz4k body l s) l∧wz20 body l s=some (.inl (st l.length)):=by
 subst h0
 refine⟨fun k hk=>?_,?_⟩
 ·show wz4k body (l.take (k+1)) (st 0)=some false
  unfold wz4k
  rw[jzbc st hs (k+1) hk]
 ·have:=jzbc st hs l.length (Nat.le_refl _)
  rwa [List.take_length]at this
theorem wz7o{h:wz2c}{l:List wz2b}{k:Nat}{p:Int×qza}(e:(prs h l)[k]?=some p):(tks l)[k]?=some p.1∧(flws h l)[k]?=some p.2:=by
 constructor
 ·rw[←wz9c h l,List.getElem?_map,e];rfl
 ·unfold flws;rw[List.getElem?_map,e];rfl
theorem wz81{h:wz2c}{l:List wz2b}{k:Nat}(hk:k<(prs h l).length):∃p,(prs h l)[k]?=some p∧(tks l)[k]?=some p.1∧(flws h l)[k]?=some p.2 :=
 ⟨_,List.getElem?_eq_getElem hk,wz7o (List.getElem?_eq_getElem hk)⟩
theorem zr:Sz 134217728 (qza.mk false [] []):=Sz.zero _
theorem LevR.prs{h:wz2c}{l:List wz2b}(H:LevR h l):(prs h l).length≤561024000:=by rw[wz21];exact H.tks
noncomputable def abv(v:Rat)(L:List qza):Nat:=L.countP fun x=>decide (v≤rq x)
theorem wz8m(v:Rat)(L:List qza):abv v L≤L.length:=List.countP_le_length
theorem wz98{v:Rat}{L:List qza}{k:Nat}{x:qza}(e:L[k]?=some x):abv v (L.take (k+1))=if v≤rq x then abv v (L.take k)+1 else abv v (L.take k):=by
 unfold abv
 rw[jzlb e,List.countP_append,List.countP_singleton]
 by_cases h:v≤rq x<;>simp[h]
theorem wzxb{p q:Rat}:0≤cmpQ p q↔q≤p:=by
 unfold cmpQ
 by_cases h:p<q
 ·rw[if_pos h]
  exact⟨fun e=>by omega,fun e=>(Rat.not_lt.2 e h).elim⟩
 ·rw[if_neg h]
  exact⟨fun _=>Rat.not_lt.1 h,fun _=>by split<;>omega⟩
theorem wz7g{p q:Rat}:0<cmpQ p q↔q<p:=by
 unfold cmpQ
 by_cases h:p<q
 ·rw[if_pos h]
  exact⟨fun e=>by omega,fun e=>(Rat.not_lt.2 (Rat.le_of_lt h) e).elim⟩
 ·rw[if_neg h]
  by_cases h2:q<p
  ·rw[if_pos h2];exact⟨fun _=>h2,fun _=>by omega⟩
  ·rw[if_neg h2];exact⟨fun e=>by omega,fun e=>(h2 e).elim⟩
theorem jzbl{h:wz2c}{l:List wz2b}{lv:qza}{n:Nat}(H:HSz h l)(hv:Sz n lv)(n1:1≤n)(hn:n≤33554432):wz3f h l lv=some (if levE h l lv=0 then((abv (rq lv) (flws h l):Int),0) else(0,levE h l lv)):=by
 unfold wz3f
 rw[wz53 H (hv.mono (by omega))]
 simp only[bd_s]
 by_cases e:levE h l lv=0
 ·rw[qzk5 e,if_pos e]
  have R:=(wz32 H e).1
  have hp:=R.prs
  unfold wz2u
  simp only[bd_s]
  obtain⟨t1,t2⟩:=wz7f (body:=wz3w lv) (l:=prs h l) (fun k=>(abv (rq lv) ((flws h l).take k):Int)) (fun k p hk=>by
   have e2:=(wz7o hk).2
   have hz:=R.szf _ (List.mem_of_getElem? e2)
   simp only[wz3w]
   rw[jz9 hz.1 hv (by omega) n1 (by omega) hn,wz98 e2]
   simp only[bd_s]
   by_cases h1:rq lv≤rq p.2
   ·have h2:=wz8m (rq lv) ((flws h l).take k)
    have:=wz5x (flws h l) k
    rw[wz3b,←wz21 h l]at this
    rw[it_d (wzxb.2 h1),if_pos h1,qz3 (by omega)]
    rfl
   ·rw[it_n (fun e=>h1 (wzxb.1 e)),if_neg h1]) (s:=(0:Int)) rfl
  rw[wz6w R t1,bd_s,t2]
  simp only[bd_s]
  rw[List.take_of_length_le (by rw[wz3b,wz21];omega)]
 ·rw[qzhj e,if_neg e]
noncomputable def bix(P:Rat→Rat→Prop)(L:List qza):Nat→Nat
 |0=>0
 |k+1=>open Classical in if P (rq (L.getD (k+1) default)) (rq (L.getD (bix P L k) default)) then k+1 else bix P L k
theorem wz83(P:Rat→Rat→Prop)(L:List qza):∀k,bix P L k≤k
 |0=>Nat.le_refl _
 |k+1=>by
  unfold bix
  have:=wz83 P L k
  split<;>omega
noncomputable def extr(P:Rat→Rat→Prop)(h:wz2c)(l:List wz2b):wz2f×Int :=
 if levE h l (qza.mk false [] [])=0 then
  if(tks l).length=0 then(⟨qza.mk false [] [],0⟩,8) else(⟨(flws h l).getD (bix P (flws h l) ((tks l).length-1)) default,(tks l).getD (bix P (flws h l) ((tks l).length-1)) default⟩,0)
 else(⟨qza.mk false [] [],0⟩,levE h l (qza.mk false [] []))
theorem wz2y{α:Type}[Inhabited α]{l:List α}{k:Nat}{x:α}(h:l[k]?=some x):l.getD k default=x:=by simp[List.getD,h]
theorem wz9p{h:wz2c}{l:List wz2b}(H:HSz h l){before:qza→qza→Option Bool}{P:Rat→Rat→Prop}(hb:∀a b,Sz 4194304 a→Sz 4194304 b→before a b=some (open Classical in decide (P (rq a) (rq b)))):wz3j h l before=some (extr P h l):=by
 unfold wz3j extr
 rw[wz53 H zr]
 simp only[bd_s]
 by_cases e:levE h l (qza.mk false [] [])=0
 ·rw[qzk5 e,if_pos e]
  have R:=(wz32 H e).1
  have hp:=R.prs
  unfold wz2u
  simp only[bd_s]
  unfold wz6l
  obtain⟨t1,t2⟩:=wz7f (body:=wz3h before) (l:=prs h l) (fun k=>if k=0 then(0,qza.mk false [] [],false) else((tks l).getD (bix P (flws h l) (k-1)) default,(flws h l).getD (bix P (flws h l) (k-1)) default,true)) (fun k p hk=>by
   obtain⟨e1,e2⟩:=wz7o hk
   have hkl:=(List.getElem?_eq_some_iff.1 hk).1
   by_cases h0:k=0
   ·subst h0
    simp only[wz3h,if_pos]
    rw[show(!(!false))=false from rfl,wzcn]
    simp only[bd_s]
    rw[it_t (by rfl)]
    simp only[Nat.zero_add,Nat.sub_self,bix,if_neg Nat.one_ne_zero]
    rw[wz2y e1,wz2y e2]
   ·obtain⟨k,rfl⟩:∃k',k=k'+1:=⟨k-1,by omega⟩
    rw[if_neg h0,if_neg (by omega)]
    simp only[wz3h,Nat.add_sub_cancel]
    rw[show(!(!true))=true from rfl,qzbx]
    have hbl:=wz83 P (flws h l) k
    obtain⟨q,q1,q2,q3⟩:=wz81 (h:=h) (l:=l) (k:=bix P (flws h l) k) (by omega)
    rw[wz2y q2,wz2y q3,hb _ _ (R.szf _ (List.mem_of_getElem? e2)).1 (R.szf _ (List.mem_of_getElem? q3)).1]
    simp only[bd_s]
    rw[show(!true)=false from rfl,cond_false]
    unfold bix
    rw[wz2y e2,wz2y q3]
    by_cases hP:P (rq p.2) (rq q.2)
    ·rw[@it_d _ _ (Classical.propDecidable _) _ _ hP,if_pos hP,wz2y e1,wz2y e2]
    ·rw[@it_n _ _ (Classical.propDecidable _) _ _ hP,if_neg hP,wz2y q2,wz2y q3]) (s:=((0:Int),qza.mk false [] [],false)) rfl
  rw[wz6w R t1,bd_s,t2]
  simp only[bd_s]
  rw[wz21]
  by_cases h0:(tks l).length=0
  ·rw[if_pos h0,if_pos h0];simp only[bd_s];rfl
  ·rw[if_neg h0,if_neg h0];simp only[bd_s];rfl
 ·rw[qzhj e,if_neg e]
noncomputable def peak(h:wz2c)(l:List wz2b):wz2f×Int:=extr (fun p q=>q<p) h l
noncomputable def low(h:wz2c)(l:List wz2b):wz2f×Int:=extr (fun p q=>p<q) h l
theorem jzcx{h:wz2c}{l:List wz2b}(H:HSz h l):wz4a h l=some (peak h l):=by
 unfold wz4a
 rw[wz9p H (P:=fun p q=>q<p) fun a b ha hb=>by
  simp only[wz5w]
  rw[jz9 ha hb (by omega) (by omega) (by omega) (by omega)]
  simp only[bd_s]
  congr 1
  exact decide_eq_decide.2 wz7g]
 rfl
theorem jzdv{h:wz2c}{l:List wz2b}(H:HSz h l):wz4r h l=some (low h l):=by
 unfold wz4r
 rw[wz9p H (P:=fun p q=>p<q) fun a b ha hb=>by
  simp only[wz6d]
  rw[jz9 ha hb (by omega) (by omega) (by omega) (by omega)]
  simp only[bd_s]
  congr 1
  exact decide_eq_decide.2 wz49]
 rfl
section
variable {α β:Type}[DecidableEq α]{eq:α→α→Bool}
structure CntI(m:List (α×Int))(L:List α):Prop where
 get:∀x,mget eq m x=if x∈L then some (L.count x:Int) else none
 nd:(m.map (·.1)).Nodup
 mem:∀x,x∈m.map (·.1)↔x∈L
theorem CntI.getD{m:List (α×Int)}{L:List α}(h:CntI (eq:=eq) m L)(x:α):Option.getD (mget eq m x) 0=(L.count x:Int):=by
 rw[h.get x]
 split
 ·rfl
 ·rename_i hx;rw[List.count_eq_zero_of_not_mem hx];rfl
theorem wz9r(he:∀a b,eq a b=decide (a=b)){v:β}{k x:α}:∀(m:List (α×β)),mget eq (mput eq m k v) x=if x=k then some v else mget eq m x
 |[]=>by
  by_cases h:x=k<;>simp[mput,mget,he,h]
 |p :: m=>by
  unfold mput
  by_cases h:k=p.1
  ·rw[show eq k p.1=true by simp[he,h]]
   by_cases h2:x=k
   ·simp[mget,he,h2]
   ·have h3:eq x k=false:=by simp[he,h2]
    have h4:eq x p.1=false:=by rw[←h];exact h3
    simp only[mget,h3,h4,if_neg h2]
  ·rw[show eq k p.1=false by simp[he,h]]
   have ih:=wz9r he (v:=v) (k:=k) (x:=x) m
   by_cases h2:x=p.1
   ·have h3:eq x p.1=true:=by simp[he,h2]
    simp only[mget,h3]
    rw[if_neg (fun e:x=k=>h (e.symm.trans h2))]
   ·have h3:eq x p.1=false:=by simp[he,h2]
    simp only[mget,h3]
    exact ih
theorem wz9h(he:∀a b,eq a b=decide (a=b)){v w:β}{k:α}:∀(m:List (α×β)),mset (mput eq m k v) (midx eq m k) w=mput eq m k w∧midx eq m k<(mput eq m k v).length
 |[]=>by simp[mput,midx,mset]
 |p :: m=>by
  unfold mput midx
  by_cases h:k=p.1
  ·rw[show eq k p.1=true by simp[he,h]]
   simp[mset]
  ·rw[show eq k p.1=false by simp[he,h]]
   have:=wz9h he (v:=v) (w:=w) (k:=k) m
   simp[mset,this]
theorem wz7m(he:∀a b,eq a b=decide (a=b)){v:β}{k:α}:∀(m:List (α×β)),(mput eq m k v).map (·.1)=if k∈m.map (·.1) then m.map (·.1) else m.map (·.1)++[k]
 |[]=>by simp[mput]
 |p :: m=>by
  unfold mput
  by_cases h:k=p.1
  ·rw[show eq k p.1=true by simp[he,h]]
   simp[h]
  ·rw[show eq k p.1=false by simp[he,h]]
   have ih:=wz7m he (v:=v) (k:=k) m
   simp only[List.map_cons,ih,List.mem_cons,h,false_or]
   split<;>simp
theorem CntI.step(he:∀a b,eq a b=decide (a=b)){m:List (α×Int)}{L:List α}(h:CntI (eq:=eq) m L)(x:α):CntI (eq:=eq) (mput eq m x ((L.count x:Int)+1)) (L++[x]):=by
 refine⟨fun y=>?_,?_,fun y=>?_⟩
 ·rw[wz9r he,h.get y,List.count_append]
  by_cases e:y=x
  ·subst e;simp
  ·rw[if_neg e]
   simp[List.mem_append,e,List.count_singleton,show ¬x=y from fun e2=>e e2.symm]
 ·rw[wz7m he]
  split
  ·exact h.nd
  ·rename_i hx
   rw[List.nodup_append]
   refine⟨h.nd,by simp,?_⟩
   intro a ha b hb
   rw[List.mem_singleton]at hb
   subst hb
   intro e;subst e;exact hx ha
 ·rw[wz7m he]
  split
  ·rename_i hx
   rw[h.mem,List.mem_append,List.mem_singleton]
   refine⟨.inl,fun e=>e.elim id fun e=>?_⟩
   subst e;exact(h.mem _).1 hx
  ·rw[List.mem_append,List.mem_append,h.mem]
end
theorem jzcf(a b:qza):wz2k a b=decide (a=b):=by
 rw[Bool.eq_iff_iff,decide_eq_true_eq]
 obtain⟨a1,a2,a3⟩:=a
 obtain⟨b1,b2,b3⟩:=b
 simp[wz2k]
def Dsc(D:List qza):Prop:=D.Pairwise fun a b=>rq b<rq a
theorem wz84{a b:qza}(ha:Vd a)(hb:Vd b)(h:rq a=rq b):a=b:=by rw[←qzyo ha,h,qzyo hb]
theorem jzad:∀{D E:List qza},Dsc D→Dsc E→(∀x,x∈D↔x∈E)→D=E
 |[],[],_,_,_=>rfl
 |[],y :: E,_,_,h=>by have:=(h y).2 (List.mem_cons_self ..);cases this
 |x :: D,[],_,_,h=>by have:=(h x).1 (List.mem_cons_self ..);cases this
 |x :: D,y :: E,hD,hE,h=>by
  obtain⟨d1,d2⟩:=List.pairwise_cons.1 hD
  obtain⟨e1,e2⟩:=List.pairwise_cons.1 hE
  have hxy:x=y:=by
   rcases List.mem_cons.1 ((h x).1 (List.mem_cons_self ..)) with e|e
   ·exact e
   ·rcases List.mem_cons.1 ((h y).2 (List.mem_cons_self ..)) with e'|e'
    ·exact e'.symm
    ·exact(Rat.lt_irrefl (Std.lt_trans (e1 x e) (d1 y e'))).elim
  subst hxy
  congr 1
  refine jzad d2 e2 fun z=>⟨fun hz=>?_,fun hz=>?_⟩
  ·rcases List.mem_cons.1 ((h z).1 (List.mem_cons_of_mem _ hz)) with e|e
   ·subst e;exact(Rat.lt_irrefl (d1 z hz)).elim
   ·exact e
  ·rcases List.mem_cons.1 ((h z).2 (List.mem_cons_of_mem _ hz)) with e|e
   ·subst e;exact(Rat.lt_irrefl (e1 z hz)).elim
   ·exact e
noncomputable def insD(x:qza):List qza→List qza
 |[]=>[x]
 |y :: l=>open Classical in if rq y<rq x then x :: y :: l else if rq x=rq y then y :: l else y :: insD x l
theorem wz8e{x:qza}(hx:Vd x):∀(D:List qza),(∀y,y∈D→Vd y)→∀z,z∈insD x D↔z=x∨z∈D
 |[],_,z=>by simp[insD]
 |y :: D,h,z=>by
  unfold insD
  split
  ·simp
  ·split
   ·rename_i e
    have:x=y:=wz84 hx (h y (List.mem_cons_self ..)) e
    subst this
    simp
   ·have:=wz8e hx D (fun y hy=>h y (List.mem_cons_of_mem _ hy)) z
    rw[List.mem_cons,List.mem_cons,this]
    constructor
    ·rintro(a|a|a)
     ·exact .inr (.inl a)
     ·exact .inl a
     ·exact .inr (.inr a)
    ·rintro(a|a|a)
     ·exact .inr (.inl a)
     ·exact .inl a
     ·exact .inr (.inr a)
theorem jza1{x:qza}(hx:Vd x):∀(D:List qza),(∀y,y∈D→Vd y)→Dsc D→Dsc (insD x D)
 |[],_,_=>by simp[insD,Dsc]
 |y :: D,h,hD=>by
  obtain⟨d1,d2⟩:=List.pairwise_cons.1 hD
  unfold insD
  split
  ·rename_i hlt
   refine List.pairwise_cons.2 ⟨fun z hz=>?_,hD⟩
   rcases List.mem_cons.1 hz with e|e
   ·subst e;exact hlt
   ·exact Std.lt_trans (d1 z e) hlt
  ·rename_i hlt
   split
   ·exact hD
   ·rename_i hne
    refine List.pairwise_cons.2 ⟨fun z hz=>?_,jza1 hx D (fun y hy=>h y (List.mem_cons_of_mem _ hy)) d2⟩
    rcases(wz8e hx D (fun y hy=>h y (List.mem_cons_of_mem _ hy)) z).1 hz with e | e
    ·subst e
     exact Rat.lt_iff_le_and_ne.2 ⟨Rat.not_lt.1 hlt,hne⟩
    ·exact d1 z e
theorem jza7(x:qza):∀(D:List qza),(insD x D).length≤D.length+1
 |[]=>by simp[insD]
 |y :: D=>by
  unfold insD
  have:=jza7 x D
  split
  ·simp
  ·split
   ·simp
   ·simp;omega
noncomputable def dsc(L:List qza):List qza:=L.foldl (fun D x=>insD x D) []
theorem jzex{L:List qza}{k:Nat}{x:qza}(h:L[k]?=some x):dsc (L.take (k+1))=insD x (dsc (L.take k)):=by
 unfold dsc;rw[jzlb h,List.foldl_append];rfl
theorem jzh6{L:List qza}(h:∀x,x∈L→Vd x):∀k,k≤L.length→Dsc (dsc (L.take k))∧(∀z,z∈dsc (L.take k)↔z∈L.take k)∧(dsc (L.take k)).length≤k:=by
 intro k
 induction k with
 |zero=>intro _;simp[dsc,Dsc]
 |succ k ih =>
  intro hk
  obtain⟨i1,i2,i3⟩:=ih (by omega)
  have hx:=List.getElem?_eq_getElem (show k<L.length by omega)
  have hv:=h _ (List.getElem_mem (show k<L.length by omega))
  have hD:∀y,y∈dsc (L.take k)→Vd y:=fun y hy=>h y (List.mem_of_mem_take ((i2 y).1 hy))
  have hlen:=jza7 L[k] (dsc (L.take k))
  rw[jzex hx]
  refine⟨jza1 hv _ hD i1,fun z=>?_,by omega⟩
  rw[wz8e hv _ hD,i2,jzlb hx,List.mem_append,List.mem_singleton]
  exact Or.comm
theorem wz5u{L:List qza}(h:∀x,x∈L→Vd x):Dsc (dsc L)∧(∀z,z∈dsc L↔z∈L)∧(dsc L).length≤L.length:=by
 have:=jzh6 h L.length (Nat.le_refl _)
 rwa [List.take_length]at this
section
variable {g:qza→qza→Option Int}
theorem wz61{a:qza}:∀(l:List qza) (z:qza),z∈wz3e g a l↔z=a∨z∈l
 |[],z=>by simp[wz3e]
 |b :: l,z=>by
  unfold wz3e
  split
  ·have:=wz61 (a:=a) l z
   rw[List.mem_cons,List.mem_cons,this]
   constructor
   ·rintro(e|e|e)
    ·exact .inr (.inl e)
    ·exact .inl e
    ·exact .inr (.inr e)
   ·rintro(e|e|e)
    ·exact .inr (.inl e)
    ·exact .inl e
    ·exact .inr (.inr e)
  ·simp
theorem wz6r:∀(l:List qza) (z:qza),z∈wz3l g l↔z∈l
 |[],z=>by simp[wz3l]
 |a :: l,z=>by
  unfold wz3l
  rw[wz61,wz6r l z,List.mem_cons]
variable {S:qza→Prop}
theorem wz77(hg:∀a b,S a→S b→g a b=some (cmpQ (rq b) (rq a))){a b:qza}(ha:S a)(hb:S b):gLt g a b=decide (rq b<rq a):=by
 unfold gLt
 rw[hg a b ha hb]
 exact decide_eq_decide.2 wz49
theorem wz8d(hg:∀a b,S a→S b→g a b=some (cmpQ (rq b) (rq a)))(hv:∀a,S a→Vd a){a:qza}(ha:S a):∀(l:List qza),(∀y,y∈l→S y)→a∉l→Dsc l→Dsc (wz3e g a l)
 |[],_,_,_=>by simp[wz3e,Dsc]
 |b :: l,h,hn,hD=>by
  obtain⟨d1,d2⟩:=List.pairwise_cons.1 hD
  have hb:=h b (List.mem_cons_self ..)
  have hl:∀y,y∈l→S y:=fun y hy=>h y (List.mem_cons_of_mem _ hy)
  unfold wz3e
  rw[wz77 hg hb ha]
  by_cases hlt:rq a<rq b
  ·rw[decide_eq_true hlt]
   refine List.pairwise_cons.2 ⟨fun z hz=>?_,wz8d hg hv ha l hl (fun e=>hn (List.mem_cons_of_mem _ e)) d2⟩
   rcases(wz61 l z).1 hz with e|e
   ·subst e;exact hlt
   ·exact d1 z e
  ·rw[decide_eq_false hlt]
   have hba:rq b<rq a:=Rat.lt_iff_le_and_ne.2 ⟨Rat.not_lt.1 hlt,fun e=>hn (by rw[wz84 (hv a ha) (hv b hb) e.symm];exact List.mem_cons_self ..)⟩
   refine List.pairwise_cons.2 ⟨fun z hz=>?_,hD⟩
   rcases List.mem_cons.1 hz with e|e
   ·subst e;exact hba
   ·exact Std.lt_trans (d1 z e) hba
theorem wz9m(hg:∀a b,S a→S b→g a b=some (cmpQ (rq b) (rq a)))(hv:∀a,S a→Vd a):∀(l:List qza),(∀y,y∈l→S y)→l.Nodup→Dsc (wz3l g l)
 |[],_,_=>by simp[wz3l,Dsc]
 |a :: l,h,hn=>by
  obtain⟨n1,n2⟩:=List.nodup_cons.1 hn
  unfold wz3l
  refine wz8d hg hv (h a (List.mem_cons_self ..)) _ (fun y hy=>h y (List.mem_cons_of_mem _ ((wz6r l y).1 hy))) (fun e=>n1 ((wz6r l a).1 e)) (wz9m hg hv l (fun y hy=>h y (List.mem_cons_of_mem _ hy)) n2)
theorem jzht(hg:∀a b,S a→S b→g a b=some (cmpQ (rq b) (rq a)))(hv:∀a,S a→Vd a){l:List qza}(h:∀y,y∈l→S y):gOk g l=true:=by
 unfold gOk
 rw[List.all_eq_true]
 intro a ha
 rw[List.all_eq_true]
 intro b hb
 have sa:=h a ha
 have sb:=h b hb
 rw[wz77 hg sa sa,wz77 hg sa sb,wz77 hg sb sa,hg a b sa sb]
 have t1:decide (rq a<rq a)=false:=decide_eq_false Rat.lt_irrefl
 have t2:(decide (rq b<rq a)||decide (rq a<rq b)||decide (a=b))=true:=by
  by_cases e1:rq b<rq a
  ·simp[e1]
  by_cases e2:rq a<rq b
  ·simp[e2]
  have:a=b:=wz84 (hv a sa) (hv b sb) (Rat.le_antisymm (Rat.not_lt.1 e1) (Rat.not_lt.1 e2))
  simp[this]
 rw[t1,t2]
 simp only[Option.isSome_some,Bool.not_false,Bool.and_self,Bool.true_and]
 rw[List.all_eq_true]
 intro c hc
 have sc:=h c hc
 rw[wz77 hg sb sc,wz77 hg sa sc]
 by_cases e1:rq b<rq a
 ·by_cases e2:rq c<rq b
  ·simp[Std.lt_trans e2 e1]
  ·simp[e2]
 ·simp[e1]
theorem jzef(hg:∀a b,S a→S b→g a b=some (cmpQ (rq b) (rq a)))(hv:∀a,S a→Vd a){l:List qza}{L:List qza}(h:∀y,y∈l→S y)(hn:l.Nodup)(hl:l.length<1000000000000)(hm:∀x,x∈l↔x∈L):wz8q g l=some (dsc L):=by
 unfold wz8q
 rw[ck_t (by rw[jzht hg hv h,decide_eq_true hl];rfl)]
 obtain⟨d1,d2,d3⟩:=wz5u (L:=L) fun x hx=>hv x (h x ((hm x).2 hx))
 congr 1
 exact jzad (wz9m hg hv l h hn) d1 fun x=>by rw[wz6r,hm,d2]
end
noncomputable def dwl(L:List qza)(x:qza):wz2e:=⟨x,(abv (rq x) L:Int)⟩
noncomputable def dwls(L:List qza):List wz2e:=(dsc L).map (dwl L)
theorem wz5t(L:List qza):(dwls L).length=(dsc L).length:=by simp[dwls]
theorem wz73{L:List qza}{k:Nat}{x:qza}(h:(dsc L)[k]?=some x):(dwls L)[k]?=some (dwl L x):=by simp[dwls,h]
theorem jzb0{L:List qza}(h:∀x,x∈L→Vd x){k:Nat}{d:qza}(hd:(dsc L)[k]?=some d):abv (rq d) L=L.countP (fun x=>decide (x∈(dsc L).take (k+1))):=by
 obtain⟨d1,d2,d3⟩:=wz5u h
 unfold abv
 refine List.countP_congr fun x hx=>?_
 rw[decide_eq_true_eq,decide_eq_true_eq]
 obtain⟨hk,rfl⟩:=List.getElem?_eq_some_iff.1 hd
 have hp:=List.pairwise_iff_getElem.1 d1
 constructor
 ·intro hle
  obtain⟨j,hj,rfl⟩:=List.getElem_of_mem ((d2 x).2 hx)
  refine Decidable.byContradiction fun hn=>?_
  have hkj:k<j:=by
   refine Decidable.byContradiction fun e=>hn ?_
   exact List.mem_take_iff_getElem.2 ⟨j,by omega,rfl⟩
  exact Rat.not_lt.2 hle (hp k j hk hj hkj)
 ·intro hm
  obtain⟨j,hj,rfl⟩:=List.mem_take_iff_getElem.1 hm
  by_cases e:j=k
  ·subst e;exact Rat.le_refl
  ·exact Rat.le_of_lt (hp j k (by omega) hk (by omega))
theorem jzes{L:List qza}(h:∀x,x∈L→Vd x){k:Nat}{d:qza}(hd:(dsc L)[k]?=some d):L.countP (fun x=>decide (x∈(dsc L).take (k+1)))=L.countP (fun x=>decide (x∈(dsc L).take k))+L.count d:=by
 obtain⟨d1,d2,d3⟩:=wz5u h
 have hnd:d∉(dsc L).take k:=by
  intro hm
  obtain⟨hk,rfl⟩:=List.getElem?_eq_some_iff.1 hd
  obtain⟨j,hj,e⟩:=List.mem_take_iff_getElem.1 hm
  have:=List.pairwise_iff_getElem.1 d1 j k (by omega) hk (by omega)
  rw[e]at this
  exact Rat.lt_irrefl this
 rw[jzlb hd]
 generalize (dsc L).take k=T at *
 clear h d1 d2 d3 hd
 induction L with
 |nil=>rfl
 |cons x L ih =>
  rw[List.countP_cons,List.countP_cons,List.count_cons,ih]
  by_cases e:x=d
  ·subst e;simp[hnd];omega
  ·simp[e];omega
theorem jzlc{l L:List qza}(hn:l.Nodup)(h:∀x,x∈l→x∈L):l.length≤L.length:=by
 induction l generalizing L with
 |nil=>exact Nat.zero_le _
 |cons a l ih =>
  obtain⟨n1,n2⟩:=List.nodup_cons.1 hn
  have ha:=h a (List.mem_cons_self ..)
  have:=ih (L:=L.erase a) n2 fun x hx=>(List.mem_erase_of_ne (fun e:x=a=>n1 (by rw[←e];exact hx))).2 (h x (List.mem_cons_of_mem _ hx))
  rw[List.length_erase_of_mem ha]at this
  have:=List.length_pos_of_mem ha
  rw[List.length_cons];omega
theorem jzdl{h:wz2c}{l:List wz2b}(H:HSz h l):wz26 h l=some (if levE h l (qza.mk false [] [])=0 then(dwls (flws h l),0) else([],levE h l (qza.mk false [] []))):=by
 unfold wz26
 rw[wz53 H zr]
 simp only[bd_s]
 by_cases e:levE h l (qza.mk false [] [])=0
 ·rw[qzk5 e,if_pos e]
  have R:=(wz32 H e).1
  have hp:=R.prs
  have hL:(flws h l).length=(prs h l).length:=by rw[wz3b,wz21]
  unfold wz2u
  simp only[bd_s]
  let st:Nat→List (qza×Int):=fun k=>((flws h l).take k).foldl (fun m x=>mput wz2k m x (Option.getD (mget wz2k m x) 0+1)) []
  have st1:∀k x,(flws h l)[k]?=some x→st (k+1)=mput wz2k (st k) x (Option.getD (mget wz2k (st k) x) 0+1):=fun k x hx=>by
   show((flws h l).take (k+1)).foldl _ []=_
   rw[jzlb hx,List.foldl_append];rfl
  have sI:∀k,k≤(flws h l).length→CntI (eq:=wz2k) (st k) ((flws h l).take k):=by
   intro k
   induction k with
   |zero=>intro _;exact⟨fun x=>by simp[st,mget],by simp[st],fun x=>by simp[st]⟩
   |succ k ih =>
    intro hk
    have hx:=List.getElem?_eq_getElem (show k<(flws h l).length by omega)
    have i:=ih (by omega)
    rw[st1 k _ hx,i.getD,jzlb hx]
    exact i.step jzcf _
  obtain⟨t1,t2⟩:=wz7f (body:=wz27) (l:=prs h l) st (fun k p hk=>by
   have e2:=(wz7o hk).2
   have hkl:=(List.getElem?_eq_some_iff.1 hk).1
   have i:=sI k (by omega)
   have hc:((flws h l).take k).count p.2≤(flws h l).length:=Nat.le_trans List.count_le_length (wz5x _ _)
   simp only[wz27]
   rw[st1 k _ e2,i.getD]
   obtain⟨m1,m2⟩:=wz9h jzcf (v:=(((flws h l).take k).count p.2:Int)) (w:=(((flws h l).take k).count p.2:Int)+1) (k:=p.2) (st k)
   rw[qz3 (by omega),ck_t (by unfold wz67;rw[decide_eq_true (by omega),decide_eq_true (by omega)];rfl),Int.toNat_natCast,m1]) (s:=([]:List (qza×Int))) rfl
  rw[wz6w R t1,bd_s,t2]
  simp only[bd_s]
  have i:=sI (prs h l).length (by omega)
  rw[List.take_of_length_le (by omega)]at i
  generalize st (prs h l).length=m at *
  have hS:∀x,x∈flws h l→Sz 4194304 x∧Vd x:=R.szf
  have hV:∀x,x∈flws h l→Vd x:=fun x hx=>(hS x hx).2
  obtain⟨d1,d2,d3⟩:=wz5u hV
  have hml:(m.map (·.1)).length≤(flws h l).length:=by
   exact jzlc i.nd fun x hx=>(i.mem x).1 hx
  unfold wz2r
  rw[jzef (S:=fun x=>Sz 4194304 x∧Vd x) (L:=flws h l) (fun a b ha hb=>by
   simp only[wz33]
   rw[jz9 hb.1 ha.1 (by omega) (by omega) (by omega) (by omega)]
   rfl) (fun a ha=>ha.2) (fun y hy=>hS y ((i.mem y).1 hy)) i.nd (by omega) i.mem]
  simp only[bd_s]
  rw[wz69 (l:=dsc (flws h l)) (fun k=>(((flws h l).countP (fun x=>decide (x∈(dsc (flws h l)).take k)):Int),(k:Int),(dwls (flws h l)).take k)) (by omega) (o:=dwls (flws h l)) ?_ ?_ ?_]
  ·rfl
  ·intro k d hd
   have hk:=(List.getElem?_eq_some_iff.1 hd).1
   have c1:=jzes hV hd
   have c2:=jzb0 hV hd
   have c3:=jzlb (wz73 hd)
   have c4:=wz8m (rq d) (flws h l)
   have c5:(dwls (flws h l)).length≤561024000:=by rw[wz5t];omega
   have c6:=wz5x (dwls (flws h l)) (k+1)
   simp only[wz3t]
   rw[it_d (by omega),at_e rfl hd]
   simp only[bd_s]
   rw[i.getD,show((flws h l).countP (fun x=>decide (x∈(dsc (flws h l)).take k)):Int)+((flws h l).count d:Int)=(abv (rq d) (flws h l):Int) by omega]
   rw[qz3 (by omega),show wz2e.mk d (abv (rq d) (flws h l):Int)=dwl (flws h l) d from rfl,←c3,ck_d (by omega),qz3 (by omega),c2]
   rfl
  ·simp only[wz3t]
   rw[it_n (by omega),List.take_of_length_le (by rw[wz5t];omega)]
  ·simp
 ·rw[qzhj e,if_neg e]
theorem wz6q{α ω:Type}{f:Nat→α→Option ω}:∀(k:Nat) (l:List α) (o:ω),scan f k l=some o→∃i x,l[i]?=some x∧f (k+i) x=some o∧∀j y,j<i→l[j]?=some y→f (k+j) y=none
 |k,[],o,h=>by cases h
 |k,y :: l,o,h=>by
  unfold scan at h
  split at h
  ·rename_i o' ho
   cases h
   exact⟨0,y,rfl,ho,fun j y h=>by omega⟩
  ·rename_i hn
   obtain⟨i,x,h1,h2,h3⟩:=wz6q (k+1) l o h
   refine⟨i+1,x,by simpa using h1,by rwa [show k+(i+1)=k+1+i by omega],fun j z hj hz=>?_⟩
   cases j with
   |zero=>simp at hz;subst hz;exact hn
   |succ j =>
    have:=h3 j z (by omega) (by simpa using hz)
    rwa [show k+(j+1)=k+1+j by omega]
structure wz9z(L:List qza)(n:Int)(d:qza):Prop where
 mem:d∈L
 ok:n≤(abv (rq d) L:Int)
 max:∀y,y∈L→n≤(abv (rq y) L:Int)→rq y≤rq d
noncomputable def exd(L:List qza)(n:Int):qza:=open Classical in if h:∃d,wz9z L n d then h.choose else default
theorem jzdh{L:List qza}(h:∀x,x∈L→Vd x){n:Int}{d:qza}(hd:wz9z L n d):exd L n=d:=by
 have he:∃d,wz9z L n d:=⟨d,hd⟩
 unfold exd
 rw[dif_pos he]
 have hc:=he.choose_spec
 exact wz84 (h _ hc.mem) (h _ hd.mem) (Rat.le_antisymm (hd.max _ hc.mem hc.ok) (hc.max _ hd.mem hd.ok))
noncomputable def excE(L:List qza)(n:Int):qza×Int:=if n<1∨(L.length:Int)<n then(qza.mk false [] [],3) else(exd L n,0)
theorem jzas{L:List qza}(h:∀x,x∈L→Vd x){n:Int}(h1:1≤n)(h2:n≤(L.length:Int)):∃d,d∈dsc L∧n≤(abv (rq d) L:Int):=by
 obtain⟨d1,d2,d3⟩:=wz5u h
 have hpos:0<(dsc L).length:=by
  have hL:0<L.length:=by omega
  exact List.length_pos_of_mem ((d2 _).2 (List.getElem_mem hL))
 have hk:(dsc L).length-1<(dsc L).length:=by omega
 refine⟨(dsc L)[(dsc L).length-1],List.getElem_mem hk,?_⟩
 rw[jzb0 h (List.getElem?_eq_getElem hk),show(dsc L).length-1+1=(dsc L).length by omega,List.take_length]
 rw[List.countP_eq_length.2 fun x hx=>decide_eq_true ((d2 x).2 hx)]
 exact h2
theorem jzd1{h:wz2c}{l:List wz2b}(H:HSz h l)(n:Int):wz3a h l n=some (if levE h l (qza.mk false [] [])=0 then excE (flws h l) n else(qza.mk false [] [],levE h l (qza.mk false [] []))):=by
 unfold wz3a
 rw[jzdl H]
 simp only[bd_s]
 by_cases e:levE h l (qza.mk false [] [])=0
 ·have R:=(wz32 H e).1
  rw[if_pos e,if_pos e,qzk5 rfl]
  have hl:(flws h l).length≤561024000:=by rw[wz3b];exact R.tks
  have hV:∀x,x∈flws h l→Vd x:=fun x hx=>(R.szf x hx).2
  generalize flws h l=L at *
  obtain⟨d1,d2,d3⟩:=wz5u hV
  have hi:qzas (dwls L) (fun a0=>wz3v a0 n)=some ((scan (fun k (x:wz2e)=>if n≤x.Ticks then some (k:Int) else none) 0 (dwls L)).getD (-1)):=by
   unfold qzas
   rw[wz3m (l:=dwls L) (fun k (x:wz2e)=>if n≤x.Ticks then some (k:Int) else none) (by rw[wz5t];omega) ?_ ?_]
   ·simp only[bd_s];exact wz5y
   ·intro k x hx
    have hk:=(List.getElem?_eq_some_iff.1 hx).1
    rw[wz5t]at hk
    simp only[kze,wz3v]
    rw[it_d (by rw[wz5t];omega),at_e rfl hx]
    simp only[bd_s]
    by_cases hn:n≤x.Ticks
    ·rw[it_d hn,if_pos hn]
    ·rw[it_n hn,if_neg hn,qz3 (by omega)]
   ·simp only[kze]
    rw[it_n (by omega)]
  rw[hi]
  simp only[bd_s]
  unfold excE
  cases hsc:scan (fun k (x:wz2e)=>if n≤x.Ticks then some (k:Int) else none) 0 (dwls L) with
  |none =>
   rw[it_t (by simp),if_pos]
   refine Decidable.byContradiction fun hc=>?_
   obtain⟨d,hd,hn⟩:=jzas hV (n:=n) (by omega) (by omega)
   obtain⟨i,hi⟩:=List.getElem?_of_mem hd
   have:=wz5l hsc (wz73 hi)
   rw[if_pos (show n≤(dwl L d).Ticks from hn)]at this
   cases this
  |some o =>
   obtain⟨i,x,h1,h2,h3⟩:=wz6q _ _ _ hsc
   rw[Nat.zero_add]at h2
   split at h2
   ·rename_i hn
    cases h2
    have hid:i<(dsc L).length:=by have:=(List.getElem?_eq_some_iff.1 h1).1;rwa [wz5t]at this
    have hd:=List.getElem?_eq_getElem hid
    have hx:=wz73 hd
    rw[h1]at hx
    cases hx
    have hdm:=(d2 _).1 (List.getElem_mem hid)
    by_cases n1:n<1
    ·rw[it_t (by simp[n1]),if_pos (.inl n1)]
    ·have hab:=wz8m (rq (dsc L)[i]) L
     have hn':n≤(abv (rq (dsc L)[i]) L:Int):=hn
     rw[it_f (by simp;omega),if_neg (by omega)]
     simp only[Option.getD_some]
     rw[at_e rfl h1]
     simp only[bd_s]
     rw[jzdh hV (d:=(dsc L)[i]) ⟨hdm,hn',fun y hy hyn=>?_⟩]
     ·rfl
     ·obtain⟨j,hj,rfl⟩:=List.getElem_of_mem ((d2 y).2 hy)
      by_cases hji:j<i
      ·have:=h3 j _ hji (wz73 (List.getElem?_eq_getElem hj))
       rw[if_pos (show n≤(dwl L (dsc L)[j]).Ticks from hyn)]at this
       cases this
      ·by_cases e:j=i
       ·subst e;exact Rat.le_refl
       ·exact Rat.le_of_lt (List.pairwise_iff_getElem.1 d1 i j hid hj (by omega))
   ·cases h2
 ·rw[if_neg e,if_neg e,qzhj e]
theorem jzis:wz3n=some true:=by decide +kernel
structure EpR(E:List wz2h):Prop where
 ok:∀e,e∈E→0≤e.From∧e.From<e.To∧e.To≤1402560
 asc:E.Pairwise fun a b=>a.To≤b.From
theorem EpR.tail{e:wz2h}{E:List wz2h}(h:EpR (e :: E)):EpR E:=⟨fun x hx=>h.ok x (List.mem_cons_of_mem _ hx),(List.pairwise_cons.1 h.asc).2⟩
noncomputable def dc(p:Prop):Bool:=@decide p (Classical.propDecidable p)
noncomputable def cnN(n:Nat)(p:Int→Prop):Nat:=(List.range n).countP fun(i:Nat)=>dc (p (i:Int))
theorem exN:∃n:Nat,n=1402560:=⟨_,rfl⟩
noncomputable def bigN:Nat:=exN.choose
noncomputable def cnt(p:Int→Prop):Nat:=cnN bigN p
structure SdS(n:Nat)(a:wz2p):Prop where
 h:HSz a.History a.Spans
 v:Sz n a.Level
end Go.Am

namespace Go.Am
end Go.Am

namespace Go.Am
def cutS(a b:Int)(s:wz2b):Option wz2b:=if max s.From a<min s.To b then some ⟨max s.From a,min s.To b,s.Weight,s.Datum,s.Curve⟩ else none
def cutL(a b:Int)(l:List wz2b):List wz2b:=l.filterMap (cutS a b)
theorem jzmw{a b:Int}{s z:wz2b}(h:cutS a b s=some z):max s.From a<min s.To b∧z=⟨max s.From a,min s.To b,s.Weight,s.Datum,s.Curve⟩:=by
 unfold cutS at h
 split at h
 ·rename_i p;exact⟨p,by cases h;rfl⟩
 ·cases h
theorem jznc(a b:Int)(l:List wz2b):(cutL a b l).length≤l.length:=List.length_filterMap_le _ _
theorem jzm3{a b:Int}{l:List wz2b}{z:wz2b}:z∈cutL a b l↔∃s,s∈l∧cutS a b s=some z:=by unfold cutL;rw[List.mem_filterMap]
theorem LevR.pw{h:wz2c}{l:List wz2b}(H:LevR h l):l.Pairwise fun a b=>a.To≤b.From:=by
 rw[List.pairwise_iff_getElem]
 intro i j hi hj hij
 exact H.far i j hj hij
theorem LevR.cut{h:wz2c}{l:List wz2b}(R:LevR h l)(a b:Int):LevR h (cutL a b l):=by
 have hp:(cutL a b l).Pairwise fun a b=>a.To≤b.From:=by
  unfold cutL
  rw[List.pairwise_filterMap]
  refine R.pw.imp fun {s z} h x hx y hy=>?_
  obtain⟨h1,rfl⟩:=jzmw hx
  obtain⟨h2,rfl⟩:=jzmw hy
  dsimp only
  omega
 have hl:=jznc a b l
 have hln:=R.len
 refine⟨⟨⟨by omega,fun z hz=>?_⟩,R.sz.n⟩,R.his,by omega,fun z hz=>?_,fun k hk=>?_,fun z hz=>?_⟩
 ·obtain⟨s,hs,e⟩:=jzm3.1 hz
  obtain⟨h1,rfl⟩:=jzmw e
  have:=R.sz.l.sz s hs
  exact⟨this.c,this.w⟩
 ·obtain⟨s,hs,e⟩:=jzm3.1 hz
  obtain⟨h1,rfl⟩:=jzmw e
  obtain⟨r1,r2,r3,r4,r5,r6,r7⟩:=R.span s hs
  refine⟨?_,h1,?_,r4,r5,r6,r7⟩<;>dsimp only<;>omega
 ·exact List.pairwise_iff_getElem.1 hp k (k+1) (by omega) hk (by omega)
 ·obtain⟨s,hs,e⟩:=jzm3.1 hz
  obtain⟨h1,rfl⟩:=jzmw e
  have:=R.gap s hs
  dsimp only
  omega
theorem jzm4{h:wz2c}{l:List wz2b}(R:LevR h l):wz4s l=0:=by
 unfold wz4s
 rw[if_neg (by have:=R.len;omega),jzax (f:=spnF l)]
 ·rfl
 ·intro i s hs
  unfold spnF
  rw[if_pos]
  have hi:=(List.getElem?_eq_some_iff.1 hs)
  obtain⟨hi,e⟩:=hi
  refine⟨R.span s (List.mem_of_getElem? hs),fun h0=>?_⟩
  have:=R.asc (0+i-1) (by omega)
  rw[wz3o (by omega)]
  subst e
  simpa [show i-1+1=i by omega] using this
theorem jzmz{h:wz2c}{l:List wz2b}{lv:qza}(R:LevR h l)(hv:Vd lv):levE h l lv=0:=by
 unfold levE
 rw[jzm4 R,if_neg (by simp),if_neg (by simp[R.his]),jzax (f:=gapF h)]
 ·simp[hv]
 ·intro i s hs
  unfold gapF
  have:=R.gap s (List.mem_of_getElem? hs)
  rw[if_neg (by omega)]
theorem jzm7{h:wz2c}{l:List wz2b}(R:LevR h l):jzmr l=some ((prs h l).length:Int):=by
 have hl:=R.len
 have hT:=R.prs
 unfold jzmr
 rw[wz69 (l:=l) (fun k=>(((prs h (l.take k)).length:Int),(k:Int))) (by omega) (o:=((prs h l).length:Int)) ?_ ?_ ?_]
 ·simp only[bd_s]
 ·intro k s hs
  have hk:=(List.getElem?_eq_some_iff.1 hs).1
  have hd:=jzer l k
  rw[←wz21 h,←wz21 h]at hd
  obtain⟨r1,r2,r3,_⟩:=R.span s (List.mem_of_getElem? hs)
  have e1:(prs h (l.take (k+1))).length=(prs h (l.take k)).length+(s.To-s.From).toNat:=by
   rw[jzei hs,List.length_append];simp[spr,wz6i]
  simp only[jzmv]
  rw[it_d (by omega),at_e rfl hs]
  simp only[bd_s]
  rw[qz3 (by omega),qz3 (by omega),qz3 (by omega),show((prs h (l.take k)).length:Int)+(s.To-s.From)=((prs h (l.take (k+1))).length:Int) by omega]
  rfl
 ·simp only[jzmv]
  rw[it_n (by omega),List.take_length]
 ·simp[prs]
theorem jznj{P:Rat→Rat→Prop}(ir:∀a,¬P a a)(tr:∀a b c,¬P a b→P c b→¬P a c){L:List qza}:∀k j,j≤k→¬P (rq (L.getD j default)) (rq (L.getD (bix P L k) default))
 |0,j,hj=>by
  obtain rfl:j=0:=by omega
  exact ir _
 |k+1,j,hj=>by
  have ih:=jznj ir tr (L:=L) k
  unfold bix
  split
  ·rename_i hp
   by_cases e:j=k+1
   ·subst e;exact ir _
   ·exact tr _ _ _ (ih j (by omega)) hp
  ·rename_i hp
   by_cases e:j=k+1
   ·subst e;exact hp
   ·exact ih j (by omega)
theorem jzm0{P:Rat→Rat→Prop}(ir:∀a,¬P a a)(tr:∀a b c,¬P a b→P c b→¬P a c){h:wz2c}{l:List wz2b}(R:LevR h l)(h0:(tks l).length≠0) :
  ∃x t,extr P h l=(⟨x,t⟩,0)∧(t,x)∈prs h l∧∀y,y∈flws h l→¬P (rq y) (rq x):=by
 have hb:=wz83 P (flws h l) ((tks l).length-1)
 obtain⟨q,q1,q2,q3⟩:=wz81 (h:=h) (l:=l) (k:=bix P (flws h l) ((tks l).length-1)) (by rw[wz21];omega)
 refine⟨q.2,q.1,?_,List.mem_of_getElem? q1,fun y hy=>?_⟩
 ·unfold extr
  rw[if_pos (jzmz R (qzbr.2 (.inl rfl))),if_neg h0,wz2y q3,wz2y q2]
 ·obtain⟨i,hi,rfl⟩:=List.getElem_of_mem hy
  have hn:=wz3b h l
  have:=jznj ir tr (L:=flws h l) ((tks l).length-1) i (by omega)
  rw[wz2y q3,wz3o hi]at this
  exact this
theorem jznh:∀a:Rat,¬(fun p q:Rat=>q<p) a a:=fun a=>Rat.lt_irrefl
theorem jznf:∀a b c:Rat,¬(fun p q:Rat=>q<p) a b→(fun p q:Rat=>q<p) c b→¬(fun p q:Rat=>q<p) a c:=fun a b c h1 h2 h3=>by dsimp only at *;grind
theorem jzni:∀a:Rat,¬(fun p q:Rat=>p<q) a a:=fun a=>Rat.lt_irrefl
theorem jzne:∀a b c:Rat,¬(fun p q:Rat=>p<q) a b→(fun p q:Rat=>p<q) c b→¬(fun p q:Rat=>p<q) a c:=fun a b c h1 h2 h3=>by dsimp only at *;grind
theorem jzm1{P:Rat→Rat→Prop}{h:wz2c}{l:List wz2b}(R:LevR h l)(h0:(tks l).length=0):extr P h l=(⟨qza.mk false [] [],0⟩,8):=by
 unfold extr
 rw[if_pos (jzmz R (qzbr.2 (.inl rfl))),if_pos h0]
theorem jzmu{h:wz2c}{l:List wz2b}{p:Int×qza}(hp:p∈prs h l):p.2∈flws h l:=List.mem_map_of_mem hp
theorem LevR.one{h:wz2c}{l:List wz2b}(H:LevR h l){s x:wz2b}(hs:s∈l)(hx:x∈l){t:Int}(h1:inS s t)(h2:inS x t):s=x:=by
 obtain⟨i,hi,rfl⟩:=List.getElem_of_mem hs
 obtain⟨j,hj,rfl⟩:=List.getElem_of_mem hx
 obtain⟨a1,a2⟩:=h1
 obtain⟨b1,b2⟩:=h2
 rcases Nat.lt_trichotomy i j with e|e|e
 ·have:=H.far i j hj e;omega
 ·subst e;rfl
 ·have:=H.far j i hi e;omega
theorem jz4h(h:wz2c)(l:List wz2b):flws h l=l.flatMap fun s=>((spt s).map (stg h)).map fun z=>flw s.Curve (z+s.Datum):=by
 unfold flws prs
 rw[List.map_flatMap]
 congr 1
 funext s
 simp[spr,Function.comp_def]
theorem jz4r{h g:wz2c}{l:List wz2b}(R:LevR h l)(e1:g.From=h.From)(e2:g.Stages.length=h.Stages.length)(hs:∀z,z∈g.Stages→0≤z∧z≤1000):LevR g l:=by
 obtain⟨q1,q2,q3,q4⟩:=R.his
 exact⟨⟨R.sz.l,by rw[e2];exact R.sz.n⟩,⟨by omega,by omega,by omega,hs⟩,R.len,R.span,R.asc,fun s hs=>by rw[e1,e2];exact R.gap s hs⟩
theorem jz5f{u v d:Rat}(hd:0<d)(h:u≤v):u / d≤v / d:=by
 rw[Rat.div_def,Rat.div_def]
 exact Rat.mul_le_mul_of_nonneg_right h (Rat.le_of_lt (Rat.inv_pos.2 hd))
theorem jz47{p q u v d:Rat}(h:p≤q)(hd:0<d)(huv:u≤v):p+u / d*(q-p)≤p+v / d*(q-p):=by
 have h1:=jz5f hd huv
 have h2:=Rat.mul_nonneg (show 0≤v / d-u / d by grind) (show 0≤q-p by grind)
 grind
theorem jz5l{p q u d:Rat}(h:p≤q)(hu:0≤u)(hd:0<d):p≤p+u / d*(q-p):=by
 have h1:=jz47 h hd hu
 rw[Rat.div_def,Rat.zero_mul,Rat.zero_mul,Rat.add_zero]at h1
 exact h1
theorem jz5j{p q u d:Rat}(h:p≤q)(hd:0<d)(hud:u≤d):p+u / d*(q-p)≤q:=by
 have h1:=jz47 h hd hud
 have h2:d / d=1:=by rw[Rat.div_def];exact Rat.mul_inv_cancel _ (fun e=>by rw[e]at hd;exact absurd hd (by decide))
 rw[h2]at h1
 grind
theorem jz5k{a:qza}(h:Vd a)(hn:a.Neg=false):0≤rq a:=by
 refine Rat.not_lt.1 fun k=>?_
 have:=qz3l.2 k
 rw[qzyo h,hn]at this
 cases this
theorem jz49{c:wz2d}(e:wz5h c=0):∀k p,c.Points[k]?=some p→crvF c.Points k p=none:=by
 unfold wz5h at e
 split at e
 ·cases e
 ·refine fun k p hp=>wz5l (jzdn ?_ e) hp
  intro k p o ho h0
  subst h0
  unfold crvF at ho
  split at ho
  ·cases ho
  ·split at ho
   ·cases ho
   ·split at ho<;>cases ho
theorem jz5i{c:wz2d}(e:wz5h c=0)(k:Nat)(hk:k<c.Points.length):0≤rq c.Points[k].Flow:=by
 have h:=jz49 e k _ (List.getElem?_eq_getElem hk)
 unfold crvF at h
 split at h
 ·cases h
 ·split at h
  ·cases h
  ·rename_i h2
   refine jz5k (Classical.byContradiction fun k=>h2 (.inl k)) ?_
   cases hn:c.Points[k].Flow.Neg
   ·rfl
   ·exact absurd (.inr hn) h2
theorem jz5a{c:wz2d}(e:wz5h c=0):∀(j k:Nat) (hk:k<c.Points.length) (hj:j≤k),rq (c.Points[j]'(by omega)).Flow≤rq c.Points[k].Flow:=by
 intro j k hk hj
 induction k with
 |zero =>
  obtain rfl:j=0:=by omega
  exact Rat.le_refl
 |succ k ih =>
  by_cases h0:j=k+1
  ·subst h0;exact Rat.le_refl
  ·refine Rat.le_trans (ih (by omega) (by omega)) ?_
   have h:=jz49 e (k+1) _ (List.getElem?_eq_getElem hk)
   unfold crvF at h
   split at h
   ·cases h
   ·split at h
    ·cases h
    ·split at h
     ·cases h
     ·rename_i h3
      refine Rat.not_lt.1 fun q=>h3 ⟨by omega,.inr ?_⟩
      rw[show k+1-1=k from rfl,wz3o (by omega)]
      exact q
theorem jz45{c:wz2d}(H:CrvR c)(e:wz5h c=0){s:Int}{n:Nat}(hn:Nx c.Points s n)(h0:0<n) :
  rq (c.Points.getD (n-1) default).Flow≤wz34 c.Points s n∧∀h:n<c.Points.length,wz34 c.Points s n≤rq c.Points[n].Flow:=by
 have hle:=hn.le
 unfold wz34
 rw[if_neg (by omega)]
 by_cases h1:n=c.Points.length
 ·rw[if_pos h1];exact⟨Rat.le_refl,fun h=>by omega⟩
 ·rw[if_neg h1]
  have l1:n-1<c.Points.length:=by omega
  have l2:n<c.Points.length:=by omega
  have a1:=hn.lo (n-1) l1 (by omega)
  have a2:=hn.hi n l2 (Nat.le_refl _)
  have u:=jz5a e (n-1) n l2 (by omega)
  rw[wz3o l1,wz3o l2]
  have hd:(0:Rat)<((c.Points[n].Stage-c.Points[n-1].Stage:Int):Rat):=Rat.intCast_lt_intCast.2 (show(0:Int)<c.Points[n].Stage-c.Points[n-1].Stage by omega)
  have h2:(0:Int)≤s-c.Points[n-1].Stage:=by omega
  have h3:s-c.Points[n-1].Stage≤c.Points[n].Stage-c.Points[n-1].Stage:=by omega
  have h2:(0:Rat)≤((s-c.Points[n-1].Stage:Int):Rat):=Rat.intCast_le_intCast.2 h2
  have h3:((s-c.Points[n-1].Stage:Int):Rat)≤((c.Points[n].Stage-c.Points[n-1].Stage:Int):Rat):=Rat.intCast_le_intCast.2 h3
  exact⟨jz5l u h2 hd,fun _=>jz5j u hd h3⟩
theorem jz5b{c:wz2d}(H:CrvR c)(e:wz5h c=0){s t:Int}(hst:s≤t){n m:Nat}(hn:Nx c.Points s n)(hm:Nx c.Points t m):wz34 c.Points s n≤wz34 c.Points t m:=by
 have hnm:n≤m:=by
  refine Nat.not_lt.1 fun k=>?_
  have h1:=hn.lo m (by have:=hn.le;omega) k
  have h2:=hm.hi m (by have:=hn.le;omega) (Nat.le_refl _)
  omega
 have hle:=hm.le
 by_cases h0:n=0
 ·have:wz34 c.Points s n=0:=by unfold wz34;rw[if_pos h0]
  rw[this]
  by_cases m0:m=0
  ·unfold wz34;rw[if_pos m0];exact Rat.le_refl
  ·refine Rat.le_trans ?_ (jz45 H e hm (by omega)).1
   rw[wz3o (by omega)]
   exact jz5i e _ _
 ·by_cases hc:n=m
  ·subst hc
   unfold wz34
   rw[if_neg h0,if_neg h0]
   by_cases h1:n=c.Points.length
   ·rw[if_pos h1,if_pos h1];exact Rat.le_refl
   ·rw[if_neg h1,if_neg h1]
    have l1:n-1<c.Points.length:=by omega
    have l2:n<c.Points.length:=by omega
    have a1:=hn.lo (n-1) l1 (by omega)
    have a2:=hn.hi n l2 (Nat.le_refl _)
    have u:=jz5a e (n-1) n l2 (by omega)
    rw[wz3o l1,wz3o l2]
    have hd:(0:Rat)<((c.Points[n].Stage-c.Points[n-1].Stage:Int):Rat):=Rat.intCast_lt_intCast.2 (show(0:Int)<c.Points[n].Stage-c.Points[n-1].Stage by omega)
    have hs:((s-c.Points[n-1].Stage:Int):Rat)≤((t-c.Points[n-1].Stage:Int):Rat):=Rat.intCast_le_intCast.2 (show s-c.Points[n-1].Stage≤t-c.Points[n-1].Stage by omega)
    exact jz47 u hd hs
  ·have l:n<c.Points.length:=by omega
   refine Rat.le_trans ((jz45 H e hn (by omega)).2 l) (Rat.le_trans ?_ (jz45 H e hm (by omega)).1)
   rw[wz3o (by omega)]
   exact jz5a e n (m-1) (by omega) (by omega)
theorem jz5d{c:wz2d}(h:CSz c)(e:wz5h c=0){s t:Int}(hst:s≤t):rq (flw c s)≤rq (flw c t):=by
 have H:=wz62 h e
 unfold flw
 rw[qzs,qzs]
 exact jz5b H e hst (jzaa H s) (jzaa H t)
structure Leq(A B:List qza):Prop where
 len:A.length=B.length
 le:∀k (h:k<A.length),rq A[k]≤rq (B[k]'(len▸h))
theorem Leq.abv{v:Rat}:∀{A B:List qza},Leq A B→abv v A≤abv v B
 |[],B,_=>by unfold Go.Am.abv;simp
 |a :: A,[],h=>absurd h.len (by simp)
 |a :: A,b :: B,h=>by
  have h0:rq a≤rq b:=h.le 0 (by simp)
  have ih:=Leq.abv (v:=v) (A:=A) (B:=B) ⟨by simpa using h.len,fun k hk=>by have:=h.le (k+1) (by simp;omega);simpa using this⟩
  unfold Go.Am.abv at *
  rw[List.countP_cons,List.countP_cons]
  by_cases c:v≤rq a
  ·rw[if_pos (decide_eq_true c),if_pos (decide_eq_true (Rat.le_trans c h0))];omega
  ·rw[if_neg (by simpa using c)];omega
theorem jz46{v:Rat}:∀(A:List qza),(∃x,x∈A∧v≤rq x)→∃x,x∈A∧v≤rq x∧∀y,y∈A→v≤rq y→rq x≤rq y
 |[],⟨x,hx,_⟩=>absurd hx (by simp)
 |a :: A,⟨x,hx,hv⟩=>by
  by_cases h:∃x,x∈A∧v≤rq x
  ·obtain⟨z,z1,z2,z3⟩:=jz46 A h
   by_cases c:v≤rq a∧rq a≤rq z
   ·refine⟨a,List.mem_cons_self ..,c.1,fun y hy hyv=>?_⟩
    rcases List.mem_cons.1 hy with rfl|hy
    ·exact Rat.le_refl
    ·exact Rat.le_trans c.2 (z3 y hy hyv)
   ·refine⟨z,List.mem_cons_of_mem _ z1,z2,fun y hy hyv=>?_⟩
    rcases List.mem_cons.1 hy with rfl|hy
    ·rcases Rat.le_total (a:=rq z) (b:=rq y) with k|k
     ·exact k
     ·exact absurd ⟨hyv,k⟩ c
    ·exact z3 y hy hyv
  ·rcases List.mem_cons.1 hx with rfl|hx
   ·refine⟨x,List.mem_cons_self ..,hv,fun y hy hyv=>?_⟩
    rcases List.mem_cons.1 hy with rfl|hy
    ·exact Rat.le_refl
    ·exact absurd ⟨y,hy,hyv⟩ h
   ·exact absurd ⟨x,hx,hv⟩ h
theorem jz5c{L:List qza}{n:Int}(h1:1≤n)(h2:n≤(L.length:Int)):∃d,wz9z L n d:=by
 have key:∀(A:List qza),(∃x,x∈A∧n≤(abv (rq x) L:Int))→∃x,x∈A∧n≤(abv (rq x) L:Int)∧∀y,y∈A→n≤(abv (rq y) L:Int)→rq y≤rq x:=by
  intro A
  induction A with
  |nil=>rintro⟨x,hx,_⟩;exact absurd hx (by simp)
  |cons a A ih =>
   rintro⟨x,hx,hv⟩
   by_cases h:∃x,x∈A∧n≤(abv (rq x) L:Int)
   ·obtain⟨z,z1,z2,z3⟩:=ih h
    by_cases c:n≤(abv (rq a) L:Int)∧rq z≤rq a
    ·refine⟨a,List.mem_cons_self ..,c.1,fun y hy hyv=>?_⟩
     rcases List.mem_cons.1 hy with rfl|hy
     ·exact Rat.le_refl
     ·exact Rat.le_trans (z3 y hy hyv) c.2
    ·refine⟨z,List.mem_cons_of_mem _ z1,z2,fun y hy hyv=>?_⟩
     rcases List.mem_cons.1 hy with rfl|hy
     ·rcases Rat.le_total (a:=rq y) (b:=rq z) with k|k
      ·exact k
      ·exact absurd ⟨hyv,k⟩ c
     ·exact z3 y hy hyv
   ·rcases List.mem_cons.1 hx with rfl|hx
    ·refine⟨x,List.mem_cons_self ..,hv,fun y hy hyv=>?_⟩
     rcases List.mem_cons.1 hy with rfl|hy
     ·exact Rat.le_refl
     ·exact absurd ⟨y,hy,hyv⟩ h
    ·exact absurd ⟨x,hx,hv⟩ h
 have low:∀(A:List qza),A≠[]→∃x,x∈A∧∀y,y∈A→rq x≤rq y:=by
  intro A
  induction A with
  |nil=>intro h;exact absurd rfl h
  |cons a A ih =>
   intro _
   by_cases h:A=[]
   ·subst h
    exact⟨a,List.mem_cons_self ..,fun y hy=>by rcases List.mem_cons.1 hy with rfl | hy;exact Rat.le_refl;exact absurd hy (by simp)⟩
   ·obtain⟨z,z1,z2⟩:=ih h
    rcases Rat.le_total (a:=rq a) (b:=rq z) with k|k
    ·exact⟨a,List.mem_cons_self ..,fun y hy=>by rcases List.mem_cons.1 hy with rfl | hy;exact Rat.le_refl;exact Rat.le_trans k (z2 y hy)⟩
    ·exact⟨z,List.mem_cons_of_mem _ z1,fun y hy=>by rcases List.mem_cons.1 hy with rfl | hy;exact k;exact z2 y hy⟩
 have hL:L≠[]:=by rintro rfl;simp at h2;omega
 obtain⟨x,x1,x2⟩:=low L hL
 have hx:n≤(abv (rq x) L:Int):=by
  have:abv (rq x) L=L.length:=by unfold abv;exact List.countP_eq_length.2 fun y hy=>decide_eq_true (x2 y hy)
  omega
 obtain⟨d,d1,d2,d3⟩:=key L ⟨x,x1,hx⟩
 exact⟨d,d1,d2,d3⟩
theorem Leq.exc{A B:List qza}(L:Leq A B){n:Int}{x y:qza}(h1:1≤n)(hx:wz9z A n x)(hy:wz9z B n y):rq x≤rq y:=by
 have h2:=L.abv (v:=rq x)
 have h3:=hx.ok
 have hpos:0<Go.Am.abv (rq x) B:=by omega
 obtain⟨z,z1,z2⟩:=List.countP_pos_iff.1 hpos
 obtain⟨w,w1,w2,w3⟩:=jz46 (v:=rq x) B ⟨z,z1,of_decide_eq_true z2⟩
 have e:Go.Am.abv (rq w) B=Go.Am.abv (rq x) B:=by
  unfold Go.Am.abv
  refine List.countP_congr fun y hy=>?_
  simp only[decide_eq_true_eq]
  exact⟨fun k=>Rat.le_trans w2 k,fun k=>w3 y hy k⟩
 exact Rat.le_trans w2 (hy.max w w1 (by omega))
theorem jz4j{l:List Int}{j:Int}(h0:0≤j)(h1:j<(l.length:Int)):at? l j=some (l.getD j.toNat 0) :=
 at_e (n:=j.toNat) (by omega) (by rw[List.getElem?_eq_getElem (by omega)];simp[List.getD,show j.toNat<l.length by omega])
theorem jz4c{p n:Int}(hp:0≤p)(hn:0<n):0≤p.tmod n∧p.tmod n<n:=by
 rw[Int.tmod_eq_emod_of_nonneg hp]
 exact⟨Int.emod_nonneg _ (by omega),Int.emod_lt_of_pos _ hn⟩
def rsl(b S:List Int):Nat→List Int
 |0=>S
 |k+1=>if k<b.length then(rsl b S k).set k (min 1000 ((rsl b S k).getD k 0+(b.getD k 0).tmod 20)) else rsl b S k
theorem jz44{l:List Int}{k:Nat}(h:k<l.length):l.getD k 0=l[k]:=by simp[List.getD,h]
theorem jz48{b S:List Int}(hS:∀z,z∈S→0≤z∧z≤1000)(hb:∀z,z∈b→0≤z∧z≤255):∀k,(rsl b S k).length=S.length∧∀i,i<S.length→S.getD i 0≤(rsl b S k).getD i 0∧(rsl b S k).getD i 0≤1000
 |0=>⟨rfl,fun i hi=>⟨Int.le_refl _,by rw[show rsl b S 0=S from rfl,jz44 hi];exact(hS _ (List.getElem_mem hi)).2⟩⟩
 |k+1=>by
  obtain⟨h1,h2⟩:=jz48 hS hb k
  unfold rsl
  split
  ·rename_i hk
   refine⟨by rw[List.length_set,h1],fun i hi=>?_⟩
   obtain⟨a1,a2⟩:=h2 i hi
   by_cases e:k=i
   ·subst e
    have hb2:0≤(b.getD k 0).tmod 20:=by
     rw[jz44 hk];exact(jz4c (hb _ (List.getElem_mem hk)).1 (by omega)).1
    have e2:((rsl b S k).set k (min 1000 ((rsl b S k).getD k 0+(b.getD k 0).tmod 20))).getD k 0=min 1000 ((rsl b S k).getD k 0+(b.getD k 0).tmod 20):=by
     rw[jz44 (by rw[List.length_set,h1];exact hi)];simp
    rw[e2];omega
   ·have e2:((rsl b S k).set k (min 1000 ((rsl b S k).getD k 0+(b.getD k 0).tmod 20))).getD i 0=(rsl b S k).getD i 0:=by
     simp[List.getD,List.getElem?_set,e]
    rw[e2];exact⟨a1,a2⟩
  ·exact⟨h1,h2⟩
theorem jz5g{b:List Int}{s0:wz2p}(hS:∀z,z∈s0.History.Stages→0≤z∧z≤1000)(hb:∀z,z∈b→0≤z∧z≤255)(hl:s0.History.Stages.length≤200){z:wz2c} :
  lp (jz42 b s0) (0,s0.History.Stages,z)=some (rsl b s0.History.Stages s0.History.Stages.length,z):=by
 refine jzct (fun k=>((k:Int),rsl b s0.History.Stages k,z)) s0.History.Stages.length (by omega) (o:=(rsl b s0.History.Stages s0.History.Stages.length,z)) ?_ ?_ rfl
 ·intro k hk
  obtain⟨h1,h2⟩:=jz48 hS hb k
  obtain⟨a1,a2⟩:=h2 k hk
  simp only[jz42,List.nil_append]
  rw[it_d (by omega)]
  by_cases hkb:k<b.length
  ·have hb2:=hb _ (List.getElem_mem hkb)
   obtain⟨t1,t2⟩:=jz4c hb2.1 (show(0:Int)<20 by omega)
   rw[it_d (by omega),jz4j (l:=rsl b s0.History.Stages k) (j:=(k:Int)) (by omega) (by omega),jz4j (l:=b) (j:=(k:Int)) (by omega) (by omega)]
   simp only[bd_s,Int.toNat_natCast]
   rw[jz44 hkb]
   have hs0:=(hS _ (List.getElem_mem hk)).1
   rw[jz44 hk]at a1
   rw[qz3 (by omega),qz3 (by omega),qz3 (by omega)]
   have e:rsl b s0.History.Stages (k+1)=(rsl b s0.History.Stages k).set k (min 1000 ((rsl b s0.History.Stages k).getD k 0+b[k].tmod 20)):=by
    show(if k<b.length then _ else _)=_
    rw[if_pos hkb,jz44 hkb]
   rw[e];rfl
  ·rw[it_n (by omega),qz3 (by omega)]
   have e:rsl b s0.History.Stages (k+1)=rsl b s0.History.Stages k:=by
    show(if k<b.length then _ else _)=_
    rw[if_neg hkb]
   rw[e];rfl
 ·simp only[jz42,List.nil_append]
  rw[it_n (by omega)]
theorem Leq.nil:Leq [] []:=⟨rfl,fun k h=>absurd h (by simp)⟩
theorem Leq.app{A B C D:List qza}(h:Leq A B)(k:Leq C D):Leq (A++C) (B++D):=by
 refine⟨by rw[List.length_append,List.length_append,h.len,k.len],fun i hi=>?_⟩
 have hl:=h.len
 by_cases e:i<A.length
 ·rw[List.getElem_append_left e,List.getElem_append_left (by omega)];exact h.le i e
 ·rw[List.getElem_append_right (by omega),List.getElem_append_right (by omega)]
  rw[List.length_append]at hi
  have:=k.le (i-A.length) (by omega)
  simp only[hl]at this ⊢
  exact this
theorem Leq.flat{f g:wz2b→List qza}:∀l:List wz2b,(∀s,s∈l→Leq (f s) (g s))→Leq (l.flatMap f) (l.flatMap g)
 |[],_=>.nil
 |s :: l,h=>by
  rw[List.flatMap_cons,List.flatMap_cons]
  exact(h s (List.mem_cons_self ..)).app (flat l fun y hy=>h y (List.mem_cons_of_mem _ hy))
theorem Leq.up{A B:List qza}(h:Leq A B){x:qza}(hx:x∈A):∃y,y∈B∧rq x≤rq y:=by
 obtain⟨i,hi,rfl⟩:=List.getElem_of_mem hx
 exact⟨_,List.getElem_mem (h.len▸hi),h.le i hi⟩
theorem Leq.dn{A B:List qza}(h:Leq A B){y:qza}(hy:y∈B):∃x,x∈A∧rq x≤rq y:=by
 obtain⟨i,hi,rfl⟩:=List.getElem_of_mem hy
 have hi2:i<A.length:=by rw[h.len];exact hi
 exact⟨_,List.getElem_mem hi2,h.le i hi2⟩
theorem jz5e{h g:wz2c}{l:List wz2b}(R:LevR h l)(e1:g.From=h.From)(hs:∀i,i<h.Stages.length→h.Stages.getD i 0≤g.Stages.getD i 0):Leq (flws h l) (flws g l):=by
 rw[jz4h,jz4h]
 refine Leq.flat l fun s hs2=>⟨by simp,fun k hk=>?_⟩
 have hk2:k<(s.To-s.From).toNat:=by simpa [spt] using hk
 obtain⟨g1,g2⟩:=R.gap s hs2
 have hst:stg h (s.From+(k:Int))≤stg g (s.From+(k:Int)):=by
  unfold stg;rw[e1];exact hs _ (by omega)
 have:=jz5d (R.sz.l.sz s hs2).c (R.span s hs2).2.2.2.2.2.2 (s:=stg h (s.From+(k:Int))+s.Datum) (t:=stg g (s.From+(k:Int))+s.Datum) (by omega)
 simpa [spt] using this
theorem jz5h{s0:wz2p}(A:SdS 1048576 s0){b:List Int}(hb:∀z,z∈b→0≤z∧z≤255){n:Int}(hn:0≤n∧n≤255):jz43 s0 b n=some true:=by
 unfold jz43
 rw[jzis]
 simp only[bd_s]
 by_cases hbig:200<(s0.History.Stages.length:Int)∨20<(s0.Spans.length:Int)
 ·rw[it_t (by rcases hbig with h|h<;>simp[h])]
 rw[it_f (by simp;omega),jzbl A.h A.v (by omega) (by omega),jzcx A.h]
 simp only[bd_s]
 by_cases e:levE s0.History s0.Spans s0.Level=0
 rotate_left
 ·rw[if_neg e,it_t (by simp[e])]
 obtain⟨R,hv⟩:=wz32 A.h e
 rw[if_pos e]
 by_cases h0:(tks s0.Spans).length=0
 ·unfold peak
  rw[jzm1 R h0,it_t (by simp)]
 obtain⟨w1,t1,u1,i1,m1⟩:=jzm0 (P:=fun p q=>q<p) jznh jznf R h0
 have u1':=u1
 obtain⟨f1,f2,f3,f4⟩:=R.his
 have hl:s0.History.Stages.length≤200:=by omega
 obtain⟨L1,L2⟩:=jz48 f4 hb s0.History.Stages.length
 have hG:LevR ⟨s0.History.From,rsl b s0.History.Stages s0.History.Stages.length⟩ s0.Spans:=jz4r R rfl L1 fun z hz=>by
  obtain⟨i,hi,rfl⟩:=List.getElem_of_mem hz
  have hi2:i<s0.History.Stages.length:=by rw[←L1];exact hi
  have:=L2 i hi2
  rw[jz44 hi,jz44 hi2]at this
  have:=(f4 _ (List.getElem_mem hi2)).1
  omega
 have hle:Leq (flws s0.History s0.Spans) (flws ⟨s0.History.From,rsl b s0.History.Stages s0.History.Stages.length⟩ s0.Spans):=jz5e R rfl fun i hi=>(L2 i hi).1
 have e3:(peak s0.History s0.Spans).2=0:=by unfold peak;rw[u1]
 rw[it_f (by simp[e3])]
 simp only[List.nil_append]
 rw[ck_d (by omega),jz5g f4 hb hl]
 simp only[bd_s]
 generalize (wz2c.mk s0.History.From (rsl b s0.History.Stages s0.History.Stages.length))=g at *
 obtain⟨w2,t2,u2,i2,m2⟩:=jzm0 (P:=fun p q=>q<p) jznh jznf hG h0
 obtain⟨w3,t3,u3,i3,m3⟩:=jzm0 (P:=fun p q=>p<q) jzni jzne R h0
 obtain⟨w4,t4,u4,i4,m4⟩:=jzm0 (P:=fun p q=>p<q) jzni jzne hG h0
 have k1:rq w1≤rq w2:=by
  obtain⟨y,y1,y2⟩:=hle.up (jzmu i1)
  exact Rat.le_trans y2 (Rat.not_lt.1 (m2 y y1))
 have k2:rq w3≤rq w4:=by
  obtain⟨y,y1,y2⟩:=hle.dn (jzmu i4)
  exact Rat.le_trans (Rat.not_lt.1 (m3 y y1)) y2
 have hz:Vd (qza.mk false [] []):=qzbr.2 (.inl rfl)
 rw[jzbl hG.sz A.v (by omega) (by omega),jzcx hG.sz,jzdv A.h,jzdv hG.sz,if_pos (jzmz hG hv)]
 unfold peak low
 rw[u1,u2,u3,u4,jzm7 R]
 simp only[bd_s]
 have hpl:=R.prs
 have hp0:(prs s0.History s0.Spans).length≠0:=by rw[wz21];exact h0
 have hmx:max 1 ((prs s0.History s0.Spans).length:Int)=((prs s0.History s0.Spans).length:Int):=by omega
 rw[hmx]
 obtain⟨q1,q2⟩:=jz4c hn.1 (show 0<((prs s0.History s0.Spans).length:Int) by omega)
 rw[qz3 (by omega),qzwv (by omega),qz3 (by omega),jzd1 A.h,jzd1 hG.sz,if_pos (jzmz R hz),if_pos (jzmz hG hz)]
 generalize hT:1+n.tmod ((prs s0.History s0.Spans).length:Int)=T at *
 have hfl:(flws s0.History s0.Spans).length=(prs s0.History s0.Spans).length:=by rw[wz3b,wz21]
 have hfl2:(flws g s0.Spans).length=(prs s0.History s0.Spans).length:=by rw[wz3b,wz21]
 obtain⟨x,hx⟩:=jz5c (L:=flws s0.History s0.Spans) (n:=T) (by omega) (by omega)
 obtain⟨y,hy⟩:=jz5c (L:=flws g s0.Spans) (n:=T) (by omega) (by omega)
 have hV:∀z,z∈flws s0.History s0.Spans→Vd z:=fun z hz=>(R.szf z hz).2
 have hV2:∀z,z∈flws g s0.Spans→Vd z:=fun z hz=>(hG.szf z hz).2
 have k3:=hle.exc (by omega) hx hy
 unfold excE
 rw[if_neg (by omega),if_neg (by omega),jzdh hV hx,jzdh hV2 hy]
 simp only[bd_s]
 have k4:=hle.abv (v:=rq s0.Level)
 rw[decide_eq_true (show(abv (rq s0.Level) (flws s0.History s0.Spans):Int)≤(abv (rq s0.Level) (flws g s0.Spans):Int) by omega)]
 simp only[decide_true,cond_true,qzbx]
 rw[jz9 (hG.szf _ (jzmu i2)).1 (R.szf _ (jzmu i1)).1 (by omega) (by omega) (by omega) (by omega)]
 simp only[bd_s]
 rw[decide_eq_true (wzxb.2 k1)]
 simp only[cond_true,qzbx]
 rw[jz9 (hG.szf _ (jzmu i4)).1 (R.szf _ (jzmu i3)).1 (by omega) (by omega) (by omega) (by omega)]
 simp only[bd_s]
 rw[decide_eq_true (wzxb.2 k2)]
 simp only[cond_true,qzbx]
 rw[jz9 (hG.szf _ hy.mem).1 (R.szf _ hx.mem).1 (by omega) (by omega) (by omega) (by omega)]
 simp only[bd_s]
 rw[decide_eq_true (wzxb.2 k3)]
end Go.Am

