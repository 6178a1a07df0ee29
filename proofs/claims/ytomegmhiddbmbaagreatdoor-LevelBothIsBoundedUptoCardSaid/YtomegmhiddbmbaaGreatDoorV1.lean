/- Part V1 of the proof that the last part closes: the mathematics of flows and levels. No condition. -/
import Derived.Test.YtomegmhiddbmbaaGreatDoorR2
set_option linter.unusedSimpArgs false
set_option linter.unusedVariables false
namespace Go.Am
section
variable {α ω σ:Type}
def scan(f:Nat→α→Option ω):Nat→List α→Option ω
 |_,[]=>none
 |k,x :: l=>match f k x with
  |some o=>some o
  |none=>scan f (k+1) l
theorem wz6o{f:Nat→α→Option ω}:∀(k:Nat) (l:List α),scan f k l=none→∀i x,l[i]?=some x→f (k+i) x=none
 |k,[],_,i,x,h=>by simp at h
 |k,y :: l,e,i,x,h=>by
  unfold scan at e
  split at e
  ·cases e
  ·rename_i e1
   cases i with
   |zero=>simp at h;subst h;exact e1
   |succ i=>have:=wz6o (k+1) l e i x (by simpa using h);rwa [show k+(i+1)=k+1+i by omega]
theorem jzdu{f:Nat→α→Option ω}{l:List α}{k:Nat}{x:α}(h:l[k]?=some x):scan f k (l.drop k)=(match f k x with
  |some o=>some o
  | none=>scan f (k+1) (l.drop (k+1))):=by
 obtain⟨hk,rfl⟩:=List.getElem?_eq_some_iff.1 h
 rw[List.drop_eq_getElem_cons hk];rfl
def sOut:Option ω→Unit⊕ω
 |some o=>.inr o
 |none=>.inl ()
theorem jzak{body:σ→Option (σ⊕(Unit⊕ω))}{l:List α}(st:Nat→σ)(f:Nat→α→Option ω)(hl:l.length≤1000000000)
  (hs:∀(k:Nat) (x:α),l[k]?=some x→body (st k)=some (match f k x with | some o=>.inr (.inr o) | none=>.inl (st (k+1)))) (he:body (st l.length)=some (.inr (.inl ()))) {s:σ} (h0:s=st 0):lp body s=some (sOut (scan f 0 l)):=by
 obtain⟨o,e,ho⟩:=jzd2 (body:=body) st (fun k=>k≤l.length∧scan f 0 l=scan f k (l.drop k)) (fun k=>l.length-k) (fun o=>o=sOut (scan f 0 l)) (by
  rintro k ⟨hk,hsc⟩
  by_cases hlt:k<l.length
  ·have hx:=List.getElem?_eq_getElem hlt
   have h1:=hs k _ hx
   have h2:=jzdu (f:=f) hx
   cases hf:f k l[k] with
   |some o =>
    right
    rw[hf]at h1 h2
    exact⟨_,h1,by rw[hsc,h2];rfl⟩
   |none =>
    left
    rw[hf]at h1 h2
    exact⟨k+1,h1,⟨hlt,hsc.trans h2⟩,by omega⟩
  ·right
   have:k=l.length:=by omega
   subst this
   refine⟨_,he,?_⟩
   rw[hsc,List.drop_length];rfl) 0 h0 ⟨Nat.zero_le _,rfl⟩ (by omega)
 rw[e,ho]
theorem wz3m{body:Int→Option (Int⊕(Unit⊕ω))}{l:List α}(f:Nat→α→Option ω)(hl:l.length≤1000000000)
  (hs:∀(k:Nat) (x:α),l[k]?=some x→body (k:Int)=some (match f k x with | some o=>.inr (.inr o) | none=>.inl ((k:Int)+1))) (he:body (l.length:Int)=some (.inr (.inl ()))):lp body 0=some (sOut (scan f 0 l)) :=
 jzak (fun k=>(k:Int)) f hl (fun k x h=>by rw[hs k x h];cases f k x<;>rfl) he rfl
end
structure CSz(c:wz2d):Prop where
 len:c.Points.length≤1048576
 sz:∀p,p∈c.Points→Sz 1048576 p.Flow
noncomputable def crvF(l:List wz2g)(k:Nat)(p:wz2g):Option Int :=
 if p.Stage < -1000∨2000<p.Stage then some 3 else if ¬Vd p.Flow∨p.Flow.Neg=true then some 1
 else if 0<k∧(p.Stage≤(l.getD (k-1) default).Stage∨rq p.Flow<rq (l.getD (k-1) default).Flow) then some 1 else none
noncomputable def wz5h(c:wz2d):Int:=if c.Points.length<1∨16<c.Points.length then 2 else(scan (crvF c.Points) 0 c.Points).getD 0
theorem wz5y{o:Option Int}{z:Int}:(match sOut o with | .inl ()=>some z | .inr o=>some o)=some (o.getD z):=by cases o<;>rfl
theorem wz9f{α:Type}[Inhabited α]{l:List α}{k:Nat}{x:α}(h:l[k]?=some x)(h0:0<k):at? l ((k:Int)-1)=some (l.getD (k-1) default):=by
 have hk:=(List.getElem?_eq_some_iff.1 h).1
 have h1:k-1<l.length:=by omega
 rw[at_e (n:=k-1) (by omega) (List.getElem?_eq_getElem h1)]
 simp[List.getD,h1]
theorem jzay{α:Type}[Inhabited α]{l:List α}{k:Nat}{x:α}(h:l[k]?=some x)(h0:0<k):l.getD (k-1) default∈l:=by
 have hk:=(List.getElem?_eq_some_iff.1 h).1
 have h1:k-1<l.length:=by omega
 simp[List.getD,h1]
theorem wz49{p q:Rat}:cmpQ p q<0↔p<q:=by
 unfold cmpQ
 split
 ·simp[*]
 ·split<;>simp[*]
theorem wz7j{c:wz2d}(h:CSz c):wz31 c=some (wz5h c):=by
 unfold wz31 wz5h
 by_cases h1:c.Points.length<1
 ·rw[it_t (by simp;omega),if_pos (.inl h1)]
 by_cases h2:16<c.Points.length
 ·rw[it_t (by simp;omega),if_pos (.inr h2)]
 rw[it_f (by simp;omega),if_neg (by omega)]
 rw[wz3m (l:=c.Points) (crvF c.Points) (by omega) ?_ ?_]
 ·simp only[bd_s];exact wz5y
 ·intro k p hp
  have hk:=(List.getElem?_eq_some_iff.1 hp).1
  have hm:=List.mem_of_getElem? hp
  have hz:=h.sz p hm
  simp only[wz5e]
  rw[it_d (by omega),at_e rfl hp]
  simp only[bd_s,wz5p,crvF]
  by_cases p1:p.Stage < -1000∨2000<p.Stage
  ·rw[if_pos p1,it_t (by rcases p1 with p1|p1<;>simp<;>omega)]
  rw[if_neg p1,it_f (by simp;omega)]
  simp only[wz5b]
  rw[qzga (hz.mono (by omega))]
  simp only[bd_s]
  by_cases p2:¬Vd p.Flow∨p.Flow.Neg=true
  ·rw[if_pos p2,it_t (by rcases p2 with p2|p2<;>simp[p2])]
  rw[if_neg p2]
  have p3:Vd p.Flow:=Decidable.byContradiction fun e=>p2 (.inl e)
  have p4:p.Flow.Neg=false:=by simpa using fun e=>p2 (.inr e)
  rw[it_f (by simp[p3,p4])]
  by_cases h0:k=0
  ·subst h0
   rw[ck_t (by simp),show decide ((0:Int)<((0:Nat):Int))=false by simp]
   simp only[Bool.false_and,wzcn,bd_s]
   rw[ck_t (by simp),if_neg (by omega),it_f (by simp),qz3 (by omega)]
  have h0:0<k:=by omega
  rw[ck_t (by simp[inB];omega),show decide ((0:Int)<(k:Int))=true by simp;omega]
  simp only[Bool.true_and,qzbx]
  rw[wz9f hp h0]
  simp only[bd_s]
  have hq:=h.sz _ (jzay hp h0)
  generalize c.Points.getD (k-1) default=q at *
  rw[ck_t (by simp[inB];omega)]
  by_cases p5:p.Stage≤q.Stage
  ·rw[show decide (p.Stage≤q.Stage)=true by simp[p5]]
   simp only[Bool.not_true,wzcn,bd_s]
   rw[if_pos ⟨h0,.inl p5⟩,it_t (by simp)]
  ·rw[show decide (p.Stage≤q.Stage)=false by simp[p5]]
   simp only[Bool.not_false,qzbx,bd_s]
   rw[jz9 hz hq (by omega) (by omega) (by omega) (by omega)]
   simp only[bd_s]
   by_cases p6:rq p.Flow<rq q.Flow
   ·rw[if_pos ⟨h0,.inr p6⟩,it_t (by simp[wz49,p6])]
   ·rw[if_neg (by simp[p5,p6]),it_f (by simp[wz49,p6]),qz3 (by omega)]
 ·simp only[wz5e]
  rw[it_n (by omega)]
structure SSz(s:wz2b):Prop where
 c:CSz s.Curve
 w:Sz 1048576 s.Weight
structure LSz(l:List wz2b):Prop where
 len:l.length≤1048576
 sz:∀s,s∈l→SSz s
def wz50(s:wz2b):Prop:=0≤s.From∧s.From<s.To∧s.To≤1402560∧-1000≤s.Datum∧s.Datum≤1000∧Vd s.Weight∧wz5h s.Curve=0
noncomputable instance(s:wz2b):Decidable (wz50 s):=inferInstanceAs (Decidable (_∧_))
noncomputable def spnF(l:List wz2b)(k:Nat)(s:wz2b):Option Int:=if wz50 s∧(0<k→(l.getD (k-1) default).To≤s.From) then none else some 1
noncomputable def wz4s(l:List wz2b):Int:=if 400<l.length then 2 else(scan (spnF l) 0 l).getD 0
theorem jzbf{s:wz2b}(h:SSz s):wz4o s=some (decide (wz50 s)):=by
 unfold wz4o
 by_cases p:s.From<0∨s.To≤s.From∨1402560<s.To∨s.Datum < -1000∨1000<s.Datum
 ·rw[it_t (by rcases p with p|p|p|p|p<;>simp[p])]
  rw[decide_eq_false (fun e=>by unfold wz50 at e;omega)]
 ·rw[it_f (by simp;omega),qzga (h.w.mono (by omega))]
  simp only[bd_s]
  by_cases p2:Vd s.Weight
  ·rw[decide_eq_true p2,qzbx,wz7j h.c]
   simp only[bd_s,cond_true]
   congr 1
   refine decide_eq_decide.2 ⟨fun e=>⟨by omega,by omega,by omega,by omega,by omega,p2,e⟩,fun e=>e.2.2.2.2.2.2⟩
  ·rw[decide_eq_false p2,wzcn]
   simp only[bd_s,cond_false]
   rw[decide_eq_false (fun e=>p2 e.2.2.2.2.2.1)]
theorem jzbd{l:List wz2b}(h:LSz l):wz4n l=some (wz4s l):=by
 unfold wz4n wz4s
 by_cases h1:400<l.length
 ·rw[it_d (by omega),if_pos h1]
 rw[it_n (by omega),if_neg h1]
 rw[jzak (l:=l) (fun k=>(if k=0 then 0 else(l.getD (k-1) default).To,(k:Int))) (spnF l) (by omega) ?_ ?_ (by simp)]
 ·simp only[bd_s];exact wz5y
 ·intro k s hs
  have hk:=(List.getElem?_eq_some_iff.1 hs).1
  have hz:=h.sz s (List.mem_of_getElem? hs)
  simp only[wz4q]
  rw[it_d (by omega),at_e rfl hs]
  simp only[bd_s]
  rw[jzbf hz]
  simp only[bd_s]
  by_cases p:wz50 s
  ·have p0:=p.1
   by_cases p2:0<k→(l.getD (k-1) default).To≤s.From
   ·have e1:spnF l k s=none:=if_pos ⟨p,p2⟩
    rw[e1,it_f,qz3 (by omega)]
    ·simp[hs]
    ·rw[decide_eq_true p]
     by_cases h0:k=0
     ·simp[h0];omega
     ·rw[if_neg h0]
      have:=p2 (by omega)
      simp only[Bool.not_true,cond_false]
      exact decide_eq_false (by omega)
   ·have e1:spnF l k s=some 1:=if_neg (fun e=>p2 e.2)
    rw[e1,it_t]
    rw[decide_eq_true p]
    have h0:¬k=0:=fun e=>p2 (fun h=>by omega)
    rw[if_neg h0]
    simp only[Bool.not_true,cond_false]
    refine decide_eq_true (Int.not_le.1 fun e=>p2 fun _=>e)
  ·have e1:spnF l k s=some 1:=if_neg (fun e=>p e.1)
   rw[e1,it_t (by simp[p])]
 ·simp only[wz4q]
  rw[it_n (by omega)]
def hisR(h:wz2c):Prop:=0≤h.From∧h.Stages.length≤40000∧h.From≤1402560-(h.Stages.length:Int)∧∀s,s∈h.Stages→0≤s∧s≤1000
instance (h:wz2c):Decidable (hisR h):=inferInstanceAs (Decidable (_∧_))
theorem wz9v{l:List Int}{g:Int→Option Bool}(hl:l.length≤1048576)(p:Int→Bool)(hg:∀s,s∈l→g s=some (p s)):wz29 l g=some ((scan (fun k s=>if p s then some (k:Int) else none) 0 l).getD (-1)):=by
 unfold wz29
 rw[wz3m (l:=l) (fun k s=>if p s then some (k:Int) else none) (by omega) ?_ ?_]
 ·simp only[bd_s];exact wz5y
 ·intro k s hs
  have hk:=(List.getElem?_eq_some_iff.1 hs).1
  simp only[wz3d]
  rw[it_d (by omega),at_e rfl hs]
  simp only[bd_s]
  rw[hg s (List.mem_of_getElem? hs)]
  simp only[bd_s]
  cases p s with
  |true=>rw[wzdh];rfl
  |false=>rw[qzil,qz3 (by omega)];rfl
 ·simp only[wz3d]
  rw[it_n (by omega)]
theorem wz99{p:Int→Bool}:∀(l:List Int) (k:Nat),(0≤(scan (fun k s=>if p s then some (k:Int) else none) k l).getD (-1))↔∃s,s∈l∧p s=true
 |[],k=>by simp[scan]
 |x :: l,k=>by
  have:=wz99 (p:=p) l (k+1)
  unfold scan
  by_cases h:p x=true
  ·simp[h]
  ·have h':p x=false:=by simpa using h
   simp only[h',Bool.false_eq_true,if_false,this,List.mem_cons,exists_eq_or_imp,false_or]
theorem wz9u{h:wz2c}(hl:h.Stages.length≤1048576):wz40 h=some (decide (hisR h)):=by
 unfold wz40
 by_cases p1:0≤h.From∧h.Stages.length≤40000
 ·rw[show(bif decide (0≤h.From) then decide ((h.Stages.length:Int)≤40000) else false)=true by simp;omega]
  rw[ck_t (by simp[inB];omega)]
  simp only[cond_true]
  by_cases p2:h.From≤1402560-(h.Stages.length:Int)
  ·rw[decide_eq_true p2,qzbx]
   unfold jz8
   rw[wz9v (g:=fun a0=>wz5j a0) hl (fun s=>bif decide (s<0) then true else decide (1000<s)) (fun s _=>rfl)]
   simp only[bd_s,cond_true]
   congr 1
   rw[Bool.eq_iff_iff,Bool.not_eq_true',decide_eq_false_iff_not,decide_eq_true_eq,wz99]
   constructor
   ·intro e
    refine⟨p1.1,p1.2,p2,fun s hs=>?_⟩
    refine Decidable.byContradiction fun e2=>e ⟨s,hs,?_⟩
    simp
    omega
   ·rintro⟨_,_,_,e⟩ ⟨s,hs,e2⟩
    have:=e s hs
    simp at e2
    omega
  ·rw[decide_eq_false p2,wzcn]
   simp only[bd_s,cond_false]
   rw[decide_eq_false (fun e=>p2 e.2.2.1)]
 ·rw[show(bif decide (0≤h.From) then decide ((h.Stages.length:Int)≤40000) else false)=false by simp;omega]
  rw[ck_t (by simp)]
  simp only[cond_false,wzcn,bd_s]
  rw[decide_eq_false (fun e=>p1 ⟨e.1,e.2.1⟩)]
noncomputable def gapF(h:wz2c)(k:Nat)(s:wz2b):Option Int:=if s.From<h.From∨h.From+(h.Stages.length:Int)<s.To then some 19 else none
noncomputable def levE(h:wz2c)(l:List wz2b)(lv:qza):Int :=
 if wz4s l≠0 then wz4s l else if ¬hisR h then 1 else(scan (gapF h) 0 l).getD (if Vd lv then 0 else 1)
structure HSz(h:wz2c)(l:List wz2b):Prop where
 l:LSz l
 n:h.Stages.length≤1048576
theorem wz53{h:wz2c}{l:List wz2b}{lv:qza}(H:HSz h l)(hv:Sz 134217728 lv):wz2z h l lv=some (levE h l lv):=by
 unfold wz2z levE
 rw[jzbd H.l]
 simp only[bd_s]
 by_cases p1:wz4s l=0
 ·rw[qzk5 p1,if_neg (by simpa using p1),wz9u H.n]
  simp only[bd_s]
  by_cases p2:hisR h
  ·rw[qzk5 p2,if_neg (by simpa using p2)]
   rw[wz3m (l:=l) (gapF h) (by have:=H.l.len;omega) ?_ ?_]
   ·simp only[bd_s]
    cases scan (gapF h) 0 l with
    |some o=>rfl
    |none =>
     simp only[sOut,Option.getD_none]
     rw[qzga hv]
     simp only[bd_s]
     by_cases p3:Vd lv
     ·rw[qzk5 p3,if_pos p3]
     ·rw[qzhj p3,if_neg p3]
   ·intro k s hs
    have hk:=(List.getElem?_eq_some_iff.1 hs).1
    have hl:=H.l.len
    have q:=p2
    obtain⟨q1,q2,q3,_⟩:=q
    simp only[wz45]
    rw[it_d (by omega),at_e rfl hs]
    simp only[bd_s,gapF]
    rw[ck_t (by simp[inB];omega)]
    by_cases p4:s.From<h.From∨h.From+(h.Stages.length:Int)<s.To
    ·rw[if_pos p4,it_t (by rcases p4 with p4|p4<;>simp[p4])]
    ·rw[if_neg p4,it_f (by simp;omega),qz3 (by omega)]
   ·simp only[wz45]
    rw[it_n (by omega)]
  ·rw[qzhj p2,if_pos p2]
 ·rw[qzhj p1,if_pos p1]
structure CrvR(c:wz2d):Prop where
 sz:CSz c
 pos:0<c.Points.length
 len:c.Points.length≤16
 st:∀p,p∈c.Points→-1000≤p.Stage∧p.Stage≤2000
 vd:∀p,p∈c.Points→Vd p.Flow
 asc:∀k (h:k+1<c.Points.length),c.Points[k].Stage<c.Points[k+1].Stage
theorem wz62{c:wz2d}(h:CSz c)(e:wz5h c=0):CrvR c:=by
 unfold wz5h at e
 split at e
 ·cases e
 ·rename_i hl
  have hsc:scan (crvF c.Points) 0 c.Points=none:=by
   cases hs:scan (crvF c.Points) 0 c.Points with
   |none=>rfl
   |some o =>
    rw[hs]at e
    have e:o=0:=e
    subst e
    have:∀(k:Nat) (l:List wz2g),scan (crvF c.Points) k l=some 0→False:=by
     intro k l
     induction l generalizing k with
     |nil=>intro e;cases e
     |cons x l ih =>
      intro e
      unfold scan at e
      split at e
      ·rename_i o ho
       cases e
       unfold crvF at ho
       split at ho
       ·cases ho
       ·split at ho
        ·cases ho
        ·split at ho<;>cases ho
      ·exact ih _ e
    exact(this _ _ hs).elim
  have at':∀i (hi:i<c.Points.length),crvF c.Points i c.Points[i]=none:=fun i hi=>by
   have:=wz6o _ _ hsc i _ (List.getElem?_eq_getElem hi)
   rwa [Nat.zero_add]at this
  have key:∀i (hi:i<c.Points.length),(-1000≤c.Points[i].Stage∧c.Points[i].Stage≤2000)∧Vd c.Points[i].Flow∧(0<i→¬c.Points[i].Stage≤(c.Points.getD (i-1) default).Stage):=fun i hi=>by
   have:=at' i hi
   unfold crvF at this
   split at this
   ·cases this
   ·rename_i h1
    split at this
    ·cases this
    ·rename_i h2
     split at this
     ·cases this
     ·rename_i h3
      exact⟨by omega,Decidable.byContradiction fun e=>h2 (.inl e),fun h0 h4=>h3 ⟨h0,.inl h4⟩⟩
  refine⟨h,by omega,by omega,fun p hp=>?_,fun p hp=>?_,fun k hk=>?_⟩
  ·obtain⟨i,hi,rfl⟩:=List.getElem_of_mem hp
   exact(key i hi).1
  ·obtain⟨i,hi,rfl⟩:=List.getElem_of_mem hp
   exact(key i hi).2.1
  ·have:=(key (k+1) hk).2.2 (by omega)
   simp[List.getD,show k<c.Points.length by omega]at this
   exact this
theorem jzd5{n d:Int}(h1:-999999999999999≤n)(h2:n≤999999999999999)(h3:-999999999999999≤d)(h4:d≤999999999999999)(h0:d≠0):wzl7 n d=some ⟨rof ((n:Rat) / (d:Rat)),0⟩:=by
 unfold wzl7
 rw[wzn5 h1 h2,wzn5 h3 h4]
 simp only[bd_s]
 rw[it_f (show(bif !true then true else !true)=false from rfl),it_n h0,wzne h1 h2,wzne h3 h4]
 simp only[bd_s]
 have e1:sv (bs d.natAbs)≠0:=by rw[wzj];omega
 rw[wzkp (Nat.le_trans (qzwm (by omega)) (by omega)) (Nat.le_trans (qzwm (by omega)) (by omega)) e1]
 simp only[bd_s,wzj]
 rw[←wzeu n,←wzeu d,jzh1 _ _ (by omega) (by omega),Nat.mul_one,Nat.one_mul]
 rfl
structure Nx(l:List wz2g)(s:Int)(n:Nat):Prop where
 le:n≤l.length
 lo:∀k (h:k<l.length),k<n→l[k].Stage≤s
 hi:∀k (h:k<l.length),n≤k→s<l[k].Stage
theorem Nx.uniq{l:List wz2g}{s:Int}{n m:Nat}(h:Nx l s n)(k:Nx l s m):n=m:=by
 rcases Nat.lt_trichotomy n m with e|e|e
 ·have:=h.hi n (by have:=k.le;omega) (Nat.le_refl _)
  have:=k.lo n (by have:=k.le;omega) e
  omega
 ·exact e
 ·have:=k.hi m (by have:=h.le;omega) (Nat.le_refl _)
  have:=h.lo m (by have:=h.le;omega) e
  omega
noncomputable def wz34(l:List wz2g)(s:Int)(n:Nat):Rat :=
 if n=0 then 0 else if n=l.length then rq (l.getD (n-1) default).Flow else
  rq (l.getD (n-1) default).Flow+(((s-(l.getD (n-1) default).Stage:Int):Rat) / (((l.getD n default).Stage-(l.getD (n-1) default).Stage:Int):Rat))*(rq (l.getD n default).Flow-rq (l.getD (n-1) default).Flow)
theorem wz3o{α:Type}[Inhabited α]{l:List α}{k:Nat}(h:k<l.length):l.getD k default=l[k]:=by simp[List.getD,h]
theorem jzag{c:wz2d}(H:CrvR c):∀(j k:Nat) (hk:k<c.Points.length) (hj:j<k),(c.Points[j]'(by omega)).Stage<c.Points[k].Stage:=by
 intro j k hk hj
 induction k with
 |zero=>omega
 |succ k ih =>
  have h1:=H.asc k hk
  by_cases e:j=k
  ·subst e;exact h1
  ·exact Int.lt_trans (ih (by omega) (by omega)) h1
theorem wz8g{c:wz2d}(H:CrvR c){s:Int}(hs:-100000≤s∧s≤100000){n:Nat}(hn:Nx c.Points s n):Sz 4194304 (rof (wz34 c.Points s n)) ∧
  (0<n→n<c.Points.length→qzlk (s-(c.Points.getD (n-1) default).Stage) ((c.Points.getD n default).Stage-(c.Points.getD (n-1) default).Stage)=some (rof (((s-(c.Points.getD (n-1) default).Stage:Int):Rat) / (((c.Points.getD n default).Stage-(c.Points.getD (n-1) default).Stage:Int):Rat)),0) ∧
   wzl7 (s-(c.Points.getD (n-1) default).Stage) ((c.Points.getD n default).Stage-(c.Points.getD (n-1) default).Stage)=some ⟨rof (((s-(c.Points.getD (n-1) default).Stage:Int):Rat) / (((c.Points.getD n default).Stage-(c.Points.getD (n-1) default).Stage:Int):Rat)),0⟩ ∧
   ∀(x:qza),x=rof (((s-(c.Points.getD (n-1) default).Stage:Int):Rat) / (((c.Points.getD n default).Stage-(c.Points.getD (n-1) default).Stage:Int):Rat)) →
    (bd (qzbh (c.Points.getD n default).Flow (c.Points.getD (n-1) default).Flow) fun r3=>bd (qzcw x r3) fun r4=>bd (qzbi (c.Points.getD (n-1) default).Flow r4) fun r5=>some r5)=some (rof (wz34 c.Points s n)) ∧
    ∀{β:Type} (K:qza→Option β),(bd (wzlk (c.Points.getD n default).Flow (c.Points.getD (n-1) default).Flow) fun r3=>bd (wzkr x r3) fun r4=>bd (wzj9 (c.Points.getD (n-1) default).Flow r4) fun r5=>K r5)=K (rof (wz34 c.Points s n))):=by
 unfold wz34
 have hle:=hn.le
 by_cases h0:n=0
 ·rw[if_pos h0]
  exact⟨Sz.zero _,fun h=>by omega⟩
 rw[if_neg h0]
 have h1:n-1<c.Points.length:=by omega
 have hp:c.Points.getD (n-1) default∈c.Points:=by rw[wz3o h1];exact List.getElem_mem h1
 have s1:=(H.sz.sz _ hp)
 by_cases h2:n=c.Points.length
 ·rw[if_pos h2]
  refine⟨(wznu s1).mono (by omega),fun _ h=>by omega⟩
 rw[if_neg h2]
 have h3:n<c.Points.length:=by omega
 have hq:c.Points.getD n default∈c.Points:=by rw[wz3o h3];exact List.getElem_mem h3
 have s2:=(H.sz.sz _ hq)
 have t1:=H.st _ hp
 have t2:=H.st _ hq
 have t3:(c.Points.getD (n-1) default).Stage<(c.Points.getD n default).Stage:=by
  rw[wz3o h1,wz3o h3];exact jzag H (n-1) n h3 (by omega)
 generalize c.Points.getD (n-1) default=p at *
 generalize c.Points.getD n default=q at *
 obtain⟨m1,m2⟩:=jzcp (n:=s-p.Stage) (d:=q.Stage-p.Stage) (by omega) (by omega) (by omega) (by omega) (by omega)
 have m3:=jzd5 (n:=s-p.Stage) (d:=q.Stage-p.Stage) (by omega) (by omega) (by omega) (by omega) (by omega)
 obtain⟨d1,d2⟩:=qzg8 s2 s1 (by omega) (by omega) (by omega) (by omega)
 have d3:=wzt2 s2 s1 (by omega) (by omega) (by omega) (by omega)
 generalize (((s-p.Stage:Int):Rat) / ((q.Stage-p.Stage:Int):Rat))=z at *
 obtain⟨u1,u2⟩:=qzi5 m2 d2 (by omega) (by omega) (by omega) (by omega)
 have u3:=wzqm m2 d2 (by omega) (by omega) (by omega) (by omega)
 rw[qzs,qzs]at u1 u2 u3
 obtain⟨v1,v2⟩:=qziy s1 u2 (by omega) (by omega) (by omega) (by omega)
 have v3:=wzod s1 u2 (by omega) (by omega) (by omega) (by omega)
 rw[qzs]at v1 v2 v3
 refine⟨v2.mono (by omega),fun _ _=>⟨m1,m3,fun x hx=>⟨?_,fun K=>?_⟩⟩⟩
 ·rw[hx,d1]
  simp only[bd_s]
  rw[u1]
  simp only[bd_s]
  rw[v1];rfl
 ·rw[hx,d3]
  simp only[bd_s]
  rw[u3]
  simp only[bd_s]
  rw[v3];rfl
theorem wz9k{c:wz2d}(H:CrvR c)(s:Int):∃n,Nx c.Points s n∧wz4u (c.Points.length:Int) (fun a0=>wz39 a0 c s)=some (n:Int):=by
 have hl:=H.len
 unfold wz4u
 obtain⟨o,e,n,rfl,hn⟩:=vzf (s:=((0:Int),(c.Points.length:Int))) (body:=wz5f (fun a0=>wz39 a0 c s)) (fun t=>∃i j:Nat,t=((i:Int),(j:Int))∧i≤j∧j≤c.Points.length∧(∀k (h:k<c.Points.length),k<i→c.Points[k].Stage≤s)∧(∀k (h:k<c.Points.length),j≤k→s<c.Points[k].Stage)) (fun t=>(t.2-t.1).toNat) (fun o=>∃n:Nat,o=(n:Int)∧Nx c.Points s n) (by
  rintro t ⟨i,j,rfl,hij,hj,lo,hi⟩
  simp only[wz5f]
  by_cases hlt:i<j
  ·left
   have hmid:Int.fdiv (((i:Int)+(j:Int))%18446744073709551616) 2=(((i+j) / 2:Nat):Int):=by
    rw[show(((i:Int)+(j:Int))%18446744073709551616)=((i+j:Nat):Int) by omega,Int.fdiv_eq_ediv_of_nonneg _ (by omega)]
    omega
   have hm:(i+j) / 2<c.Points.length:=by omega
   rw[it_d (by omega),qz3 (by omega),hmid,qz3 (by omega)]
   simp only[wz39]
   rw[at_e rfl (List.getElem?_eq_getElem hm)]
   simp only[bd_s]
   by_cases hst:s<c.Points[(i+j) / 2].Stage
   ·rw[qzk5 hst]
    refine⟨_,rfl,⟨i,(i+j) / 2,rfl,by omega,by omega,lo,fun k hk h2=>?_⟩,by dsimp only;omega⟩
    by_cases e:k=(i+j) / 2
    ·subst e;exact hst
    ·exact Int.lt_trans hst (jzag H _ k hk (by omega))
   ·rw[qzhj hst,qz3 (by omega)]
    refine⟨_,rfl,⟨(i+j) / 2+1,j,by simp,by omega,hj,fun k hk h2=>?_,hi⟩,by dsimp only;omega⟩
    by_cases e:k=(i+j) / 2
    ·subst e;omega
    ·have:=jzag H k ((i+j) / 2) hm (by omega)
     omega
  ·right
   rw[it_n (by omega)]
   obtain rfl:i=j:=by omega
   exact⟨_,rfl,i,rfl,hj,lo,hi⟩) ⟨0,c.Points.length,rfl,by omega,Nat.le_refl _,fun k _ h=>by omega,fun k h h2=>by omega⟩ (by show((c.Points.length:Int)-0).toNat<_;omega)
 exact⟨n,hn,by rw[e];rfl⟩
theorem jzc9{c:wz2d}(H:CrvR c){s:Int}(hs:-100000≤s∧s≤100000){n:Nat}(hn:Nx c.Points s n):wz6g c s=some (rof (wz34 c.Points s n)):=by
 obtain⟨m,hm,e⟩:=wz9k H s
 obtain rfl:=hn.uniq hm
 have hle:=hn.le
 have hl:=H.len
 unfold wz6g
 rw[e]
 simp only[bd_s]
 by_cases h0:n=0
 ·subst h0
  rw[it_d (by simp)]
  unfold wz34
  rw[if_pos rfl,jzen]
 ·rw[it_n (by omega),qz3 (by omega)]
  have h1:n-1<c.Points.length:=by omega
  rw[at_e (n:=n-1) (by omega) (List.getElem?_eq_getElem h1),←wz3o h1]
  simp only[bd_s]
  have hp:c.Points.getD (n-1) default∈c.Points:=by rw[wz3o h1];exact List.getElem_mem h1
  by_cases h2:n=c.Points.length
  ·rw[it_d (by omega)]
   unfold wz34
   rw[if_neg h0,if_pos h2,qzyo (H.vd _ hp)]
  ·rw[it_n (by omega)]
   have h3:n<c.Points.length:=by omega
   rw[at_e rfl (List.getElem?_eq_getElem h3),←wz3o h3]
   simp only[bd_s]
   have hq:c.Points.getD n default∈c.Points:=by rw[wz3o h3];exact List.getElem_mem h3
   have t1:=H.st _ hp
   have t2:=H.st _ hq
   obtain⟨_,hk⟩:=wz8g H hs hn
   obtain⟨k1,_,k2⟩:=hk (by omega) h3
   rw[qz3 (by omega),qz3 (by omega),k1]
   simp only[bd_s]
   exact(k2 _ rfl).1
theorem jzet{c:wz2d}(H:CrvR c){s:Int}(hs:-100000≤s∧s≤100000){n:Nat}(hn:Nx c.Points s n):wz5r c s=some (rof (wz34 c.Points s n)):=by
 have hle:=hn.le
 have hl:=H.len
 unfold wz5r
 have key:=qznm (s:=((0:Int),(⟨false,[],[]⟩:qza))) (body:=wz6c c s) (fun t=>∃k:Nat,t.1=(k:Int)∧k≤n∧(k=0→n=0→t.2=rof 0)∧(0<k→k=n→t.2=rof (wz34 c.Points s n))∧(k=0→t.2=rof 0)) (fun t=>c.Points.length-t.1.toNat) (rof (wz34 c.Points s n)) (by
  rintro⟨tk,b⟩ ⟨k,rfl,hk,_,hb2,hb3⟩
  dsimp only at hb2 hb3
  simp only[wz6c]
  by_cases hkl:k<c.Points.length
  ·rw[it_d (by omega),at_e rfl (List.getElem?_eq_getElem hkl)]
   simp only[bd_s]
   by_cases hkn:k<n
   ·have hst:=hn.lo k hkl hkn
    left
    rw[it_n (by omega),qz3 (by omega)]
    rw[ck_t (by simp[inB];omega)]
    by_cases hk1:k+1<c.Points.length
    ·rw[show decide ((k:Int)+1<(c.Points.length:Int))=true by simp;omega]
     simp only[qzbx,cond_true]
     rw[at_e (n:=k+1) (by omega) (List.getElem?_eq_getElem hk1)]
     simp only[bd_s]
     by_cases hsn:s<c.Points[k+1].Stage
     ·have hkn1:n=k+1:=by
       refine Decidable.byContradiction fun e=>?_
       have:=hn.lo (k+1) hk1 (by omega)
       omega
      rw[it_d hsn,qz3 (by omega)]
      have t1:=H.st _ (List.getElem_mem hkl)
      have t2:=H.st _ (List.getElem_mem hk1)
      rw[qz3 (by omega),qz3 (by omega)]
      obtain⟨_,hkk⟩:=wz8g H hs hn
      obtain⟨_,k1,k2⟩:=hkk (by omega) (by omega)
      have g1:c.Points.getD (n-1) default=c.Points[k]:=by rw[hkn1,Nat.add_sub_cancel,wz3o hkl]
      have g2:c.Points.getD n default=c.Points[k+1]:=by rw[hkn1,wz3o hk1]
      rw[g1,g2]at k1 k2
      rw[k1]
      simp only[bd_s]
      rw[(k2 _ rfl).2]
      rw[qz3 (by omega)]
      refine⟨_,rfl,⟨k+1,by simp,by omega,fun h=>by omega,fun _ _=>rfl,fun h=>by omega⟩,by dsimp only;omega⟩
     ·rw[it_n hsn,qz3 (by omega)]
      refine⟨_,rfl,⟨k+1,by simp,by omega,fun h=>by omega,fun _ e=>?_,fun h=>by omega⟩,by dsimp only;omega⟩
      exfalso
      exact hsn (hn.hi (k+1) hk1 (by omega))
    ·rw[show decide ((k:Int)+1<(c.Points.length:Int))=false by simp;omega]
     simp only[wzcn,bd_s,cond_false]
     rw[qzil,qz3 (by omega)]
     have hnl:n=c.Points.length:=by omega
     refine⟨_,rfl,⟨k+1,by simp,by omega,fun h=>by omega,fun _ e=>?_,fun h=>by omega⟩,by dsimp only;omega⟩
     unfold wz34
     have g1:c.Points.getD (n-1) default=c.Points[k]:=by rw[←e,Nat.add_sub_cancel,wz3o hkl]
     rw[if_neg (by omega),if_pos hnl,g1,qzyo (H.vd _ (List.getElem_mem hkl))]
   ·obtain rfl:k=n:=by omega
    right
    rw[it_d (hn.hi k hkl (Nat.le_refl _))]
    by_cases h0:k=0
    ·rw[hb3 h0];unfold wz34;rw[if_pos h0]
    ·rw[hb2 (by omega) rfl]
  ·right
   obtain rfl:k=n:=by omega
   rw[it_n (by omega)]
   by_cases h0:k=0
   ·rw[hb3 h0];unfold wz34;rw[if_pos h0]
   ·rw[hb2 (by omega) rfl]) ⟨0,rfl,by omega,fun _ _=>rfl,fun h=>by omega,fun _=>rfl⟩ (by show c.Points.length-_<_;omega)
 rw[key];rfl
section
variable {α β ω σ:Type}
theorem jzct{body:σ→Option (σ⊕ω)}(st:Nat→σ)(n:Nat)(hn:n<4611686018427387904)(hs:∀k,k<n→body (st k)=some (.inl (st (k+1)))){o:ω}(he:body (st n)=some (.inr o)){s:σ}(h0:s=st 0):lp body s=some o:=by
 obtain⟨o',e,ho⟩:=jzd2 (body:=body) st (fun k=>k≤n) (fun k=>n-k) (fun o'=>o'=o) (by
  intro k hk
  by_cases h:k<n
  ·exact .inl ⟨k+1,hs k h,h,by omega⟩
  ·right
   obtain rfl:k=n:=by omega
   exact⟨_,he,rfl⟩) 0 h0 (Nat.zero_le _) (by omega)
 rw[e,ho]
theorem wz69{body:σ→Option (σ⊕ω)}{l:List α}(st:Nat→σ)(hl:l.length<4611686018427387904)(hs:∀k x,l[k]?=some x→body (st k)=some (.inl (st (k+1)))){o:ω}(he:body (st l.length)=some (.inr o)){s:σ}(h0:s=st 0):lp body s=some o :=
 jzct st l.length hl (fun k hk=>hs k _ (List.getElem?_eq_getElem hk)) he h0
theorem jzlb{l:List α}{k:Nat}{x:α}(h:l[k]?=some x):l.take (k+1)=l.take k++[x]:=by rw[List.take_add_one,h];rfl
theorem jzal{f:Nat→α→Option ω}:∀(k:Nat) (l:List α) (i:Nat) (x:α) (o:ω),l[i]?=some x→f (k+i) x=some o→(∀j y,j<i→l[j]?=some y→f (k+j) y=none)→scan f k l=some o
 |k,[],i,x,o,h,_,_=>by simp at h
 |k,y :: l,0,x,o,h,e,_=>by simp at h;subst h;unfold scan;rw[show f k y=some o from e]
 |k,y :: l,i+1,x,o,h,e,hn=>by
  unfold scan
  rw[show f k y=none from hn 0 y (by omega) rfl]
  exact jzal (k+1) l i x o (by simpa using h) (by rwa [show k+1+i=k+(i+1) by omega]) fun j y' hj hy=>by
   have:=hn (j+1) y' (by omega) (by simpa using hy)
   rwa [show k+1+j=k+(j+1) by omega]
theorem wz5l{f:Nat→α→Option ω}{l:List α}(h:scan f 0 l=none){i:Nat}{x:α}(hx:l[i]?=some x):f i x=none:=by
 have:=wz6o 0 l h i x hx
 rwa [Nat.zero_add]at this
theorem wz8b{v:β}{k x:Int}:∀(m:List (Int×β)),mget keqI (mput keqI m k v) x=if x=k then some v else mget keqI m x
 |[]=>by
  by_cases h:x=k<;>simp[mput,mget,keqI,h]
 |p :: m=>by
  unfold mput
  by_cases h:k=p.1
  ·rw[show keqI k p.1=true by simp[keqI,h]]
   by_cases h2:x=k
   ·simp[mget,keqI,h2]
   ·have h3:keqI x k=false:=by simp[keqI,h2]
    have h4:keqI x p.1=false:=by rw[←h];exact h3
    simp only[mget,h3,h4,if_neg h2]
  ·rw[show keqI k p.1=false by simp[keqI,h]]
   have ih:=wz8b (v:=v) (k:=k) (x:=x) m
   by_cases h2:x=p.1
   ·have h3:keqI x p.1=true:=by simp[keqI,h2]
    simp only[mget,h3]
    rw[if_neg (fun e:x=k=>h (e.symm.trans h2))]
   ·have h3:keqI x p.1=false:=by simp[keqI,h2]
    simp only[mget,h3]
    exact ih
end
noncomputable def nxN(l:List wz2g)(s:Int):Nat:=open Classical in if h:∃n,Nx l s n then h.choose else 0
noncomputable def flw(c:wz2d)(s:Int):qza:=rof (wz34 c.Points s (nxN c.Points s))
theorem jzaa{c:wz2d}(H:CrvR c)(s:Int):Nx c.Points s (nxN c.Points s):=by
 have h:∃n,Nx c.Points s n:=let ⟨n,hn,_⟩:=wz9k H s;⟨n,hn⟩
 unfold nxN
 rw[dif_pos h]
 exact h.choose_spec
theorem jzhs{c:wz2d}(H:CrvR c){s:Int}(hs:-100000≤s∧s≤100000):Sz 4194304 (flw c s):=(wz8g H hs (jzaa H s)).1
theorem jzhy(c:wz2d)(s:Int):Vd (flw c s):=qz07 _
theorem jzeb{c:wz2d}(h:CSz c)(e:wz5h c=0){s:Int}(hs:-100000≤s∧s≤100000):wz5m c s=some (flw c s):=by
 unfold wz5m
 rw[wz7j h,bd_s,qzk5 e,jzc9 (wz62 h e) hs (jzaa (wz62 h e) s)]
 rfl
theorem jzgh{c:wz2d}(h:CSz c)(e:wz5h c=0){s:Int}(hs:-100000≤s∧s≤100000):wz5r c s=some (flw c s) :=
 jzet (wz62 h e) hs (jzaa (wz62 h e) s)
structure LevR(h:wz2c)(l:List wz2b):Prop where
 sz:HSz h l
 his:hisR h
 len:l.length≤400
 span:∀s,s∈l→wz50 s
 asc:∀k (hk:k+1<l.length),l[k].To≤l[k+1].From
 gap:∀s,s∈l→h.From≤s.From∧s.To≤h.From+(h.Stages.length:Int)
theorem wz88{α:Type}{f:Nat→α→Option Int}{z:Int}(hf:∀k x o,f k x=some o→o≠z):∀(k:Nat) (l:List α) ,scan f k l≠some z
 |k,[]=>by simp[scan]
 |k,x :: l=>by
  unfold scan
  intro e
  split at e
  ·rename_i o ho
   cases e
   exact hf _ _ _ ho rfl
  ·exact wz88 hf (k+1) l e
theorem jzdn{α:Type}{f:Nat→α→Option Int}{l:List α}(hf:∀k x o,f k x=some o→o≠0)(h:(scan f 0 l).getD 0=0):scan f 0 l=none:=by
 cases e:scan f 0 l with
 |none=>rfl
 |some o =>
  rw[e]at h
  have h:o=0:=h
  subst h
  exact(wz88 hf _ _ e).elim
theorem wz32{h:wz2c}{l:List wz2b}{lv:qza}(H:HSz h l)(e:levE h l lv=0):LevR h l∧Vd lv:=by
 unfold levE at e
 split at e
 ·rename_i h1;exact(h1 e).elim
 ·rename_i h1
  split at e
  ·cases e
  ·rename_i h2
   have h1:wz4s l=0:=Decidable.byContradiction h1
   have h2:hisR h:=Decidable.byContradiction h2
   unfold wz4s at h1
   split at h1
   ·cases h1
   ·rename_i h3
    have e1:=jzdn (f:=spnF l) (fun k x o h=>by unfold spnF at h;split at h<;>cases h;decide) h1
    have key:∀i (hi:i<l.length),wz50 l[i]∧(0<i→(l.getD (i-1) default).To≤l[i].From):=fun i hi=>by
     have:=wz5l e1 (List.getElem?_eq_getElem hi)
     unfold spnF at this
     split at this
     ·rename_i p;exact p
     ·cases this
    have e2:scan (gapF h) 0 l=none∧Vd lv:=by
     cases eg:scan (gapF h) 0 l with
     |none =>
      rw[eg]at e
      refine⟨rfl,Decidable.byContradiction fun hv=>?_⟩
      simp[hv]at e
     |some o =>
      rw[eg]at e
      have e:o=0:=e
      subst e
      exact(wz88 (f:=gapF h) (fun k x o h=>by unfold gapF at h;split at h<;>cases h;decide) _ _ eg).elim
    refine⟨⟨H,h2,by omega,fun s hs=>?_,fun k hk=>?_,fun s hs=>?_⟩,e2.2⟩
    ·obtain⟨i,hi,rfl⟩:=List.getElem_of_mem hs
     exact(key i hi).1
    ·have:=(key (k+1) hk).2 (by omega)
     simpa [List.getD,show k<l.length by omega] using this
    ·obtain⟨i,hi,rfl⟩:=List.getElem_of_mem hs
     have:=wz5l e2.1 (List.getElem?_eq_getElem hi)
     unfold gapF at this
     split at this
     ·cases this
     ·omega
def spt(s:wz2b):List Int:=(List.range (s.To-s.From).toNat).map fun(i:Nat)=>s.From+(i:Int)
def tks(l:List wz2b):List Int:=l.flatMap spt
def stg(h:wz2c)(t:Int):Int:=h.Stages.getD (t-h.From).toNat 0
noncomputable def spr(h:wz2c)(s:wz2b):List (Int×qza):=(spt s).map fun t=>(t,flw s.Curve (stg h t+s.Datum))
noncomputable def prs(h:wz2c)(l:List wz2b):List (Int×qza):=l.flatMap (spr h)
noncomputable def flws(h:wz2c)(l:List wz2b):List qza:=(prs h l).map (·.2)
theorem wz9c(h:wz2c)(l:List wz2b):(prs h l).map (·.1)=tks l:=by
 unfold prs tks
 rw[List.map_flatMap]
 congr 1
 funext s
 simp[spr,Function.comp_def]
theorem wz6i(s:wz2b):(spt s).length=(s.To-s.From).toNat:=by simp[spt]
theorem jzd7{s:wz2b}{k:Nat}(hk:k<(s.To-s.From).toNat):(spt s)[k]?=some (s.From+(k:Int)):=by simp[spt,hk]
theorem jzbw{s:wz2b}{t:Int}:t∈spt s↔s.From≤t∧t<s.To:=by
 unfold spt
 rw[List.mem_map]
 constructor
 ·rintro⟨i,hi,rfl⟩
  rw[List.mem_range]at hi
  omega
 ·rintro⟨h1,h2⟩
  exact⟨(t-s.From).toNat,List.mem_range.2 (by omega),by omega⟩
theorem jzhp{l:List wz2b}(h:∀s,s∈l→wz50 s):(tks l).length≤1402560*l.length:=by
 induction l with
 |nil=>simp[tks]
 |cons s l ih =>
  have h1:=ih fun s' hs'=>h s' (List.mem_cons_of_mem _ hs')
  have h2:=h s (List.mem_cons_self ..)
  have e:tks (s :: l)=spt s++tks l:=rfl
  obtain⟨p1,p2,p3,_⟩:=h2
  rw[e,List.length_append,wz6i,List.length_cons]
  omega
theorem wz21(h:wz2c)(l:List wz2b):(prs h l).length=(tks l).length:=by rw[←wz9c h l,List.length_map]
theorem wz3b(h:wz2c)(l:List wz2b):(flws h l).length=(tks l).length:=by rw[←wz21 h l];simp[flws]
theorem LevR.tks{h:wz2c}{l:List wz2b}(H:LevR h l):(tks l).length≤561024000:=by
 have:=jzhp H.span
 have:=H.len
 omega
theorem LevR.far{h:wz2c}{l:List wz2b}(H:LevR h l):∀(i j:Nat) (hj:j<l.length) (hi:i<j),(l[i]'(by omega)).To≤l[j].From:=by
 intro i j hj hi
 induction j with
 |zero=>omega
 |succ j ih =>
  have h1:=H.asc j hj
  by_cases e:i=j
  ·subst e;exact h1
  ·have h2:=ih (by omega) (by omega)
   have h3:=(H.span _ (List.getElem_mem (show j<l.length by omega))).2.1
   omega
theorem LevR.stg{h:wz2c}{l:List wz2b}(H:LevR h l){s:wz2b}(hs:s∈l){t:Int}(h1:s.From≤t)(h2:t<s.To):at? h.Stages (t-h.From)=some (stg h t)∧(0≤stg h t∧stg h t≤1000)∧(-1000≤s.Datum∧s.Datum≤1000)∧(0≤t∧t<1402560)∧(0≤t-h.From∧t-h.From≤1402560):=by
 have g:=H.gap s hs
 have r:=H.span s hs
 obtain⟨r1,r2,r3,r4,r5,r6,r7⟩:=r
 obtain⟨q1,q2,q3,q4⟩:=H.his
 have hk:(t-h.From).toNat<h.Stages.length:=by omega
 have e:Go.Am.stg h t=h.Stages[(t-h.From).toNat]:=by simp[Go.Am.stg,List.getD,hk]
 refine⟨?_,?_,⟨r4,r5⟩,by omega,by omega⟩
 ·rw[e];exact at_e (n:=(t-h.From).toNat) (by omega) (List.getElem?_eq_getElem hk)
 ·rw[e];exact q4 _ (List.getElem_mem hk)
theorem LevR.szf{h:wz2c}{l:List wz2b}(H:LevR h l):∀x,x∈flws h l→Sz 4194304 x∧Vd x:=by
 intro x hx
 unfold flws prs at hx
 obtain⟨p,hp,rfl⟩:=List.mem_map.1 hx
 obtain⟨s,hs,hp⟩:=List.mem_flatMap.1 hp
 obtain⟨t,ht,rfl⟩:=List.mem_map.1 hp
 obtain⟨t1,t2⟩:=jzbw.1 ht
 obtain⟨e1,e2,e3,e4,e5⟩:=H.stg hs t1 t2
 exact⟨jzhs (wz62 (H.sz.l.sz s hs).c (H.span s hs).2.2.2.2.2.2) (by omega),jzhy _ _⟩
theorem jze2{l:List wz2b}{k:Nat}{s:wz2b}(h:l[k]?=some s):tks (l.take (k+1))=tks (l.take k)++spt s:=by
 rw[jzlb h];simp[tks]
theorem jzei{h:wz2c}{l:List wz2b}{k:Nat}{s:wz2b}(e:l[k]?=some s):prs h (l.take (k+1))=prs h (l.take k)++spr h s:=by
 rw[jzlb e];simp[prs]
theorem wz5x{α:Type}(l:List α)(k:Nat):(l.take k).length≤l.length:=by rw[List.length_take];omega
def inS(s:wz2b)(t:Int):Prop:=s.From≤t∧t<s.To
instance (s:wz2b)(t:Int):Decidable (inS s t):=inferInstanceAs (Decidable (_∧_))
def atF(t:Int)(k:Nat)(s:wz2b):Option Int:=if inS s t then some (k:Int) else none
theorem jzeh{l:List wz2b}(hl:l.length≤1048576)(t:Int):wz5g l t=some ((scan (atF t) 0 l).getD (-1)):=by
 unfold wz5g
 rw[wz3m (l:=l) (atF t) (by omega) ?_ ?_]
 ·simp only[bd_s];exact wz5y
 ·intro k s hs
  have hk:=(List.getElem?_eq_some_iff.1 hs).1
  simp only[wz6b]
  rw[it_d (by omega),at_e rfl hs]
  simp only[bd_s]
  unfold atF
  by_cases h1:s.From≤t
  ·rw[decide_eq_true h1,qzbx]
   simp only[bd_s,cond_true]
   by_cases h2:t<s.To
   ·rw[it_d h2,if_pos ⟨h1,h2⟩]
   ·rw[it_n h2,if_neg (fun e=>h2 e.2),qz3 (by omega)]
  ·rw[decide_eq_false h1,wzcn]
   simp only[bd_s,cond_false]
   rw[qzil,if_neg (fun e=>h1 e.1),qz3 (by omega)]
 ·simp only[wz6b]
  rw[it_n (by omega)]
theorem jze0{h:wz2c}{l:List wz2b}(H:LevR h l){i:Nat}{s:wz2b}(hs:l[i]?=some s){t:Int}(ht:inS s t):wz5g l t=some (i:Int):=by
 have hl:=H.len
 have hi:=(List.getElem?_eq_some_iff.1 hs).1
 have es:l[i]=s:=(List.getElem?_eq_some_iff.1 hs).2
 rw[jzeh (by omega),jzal (f:=atF t) 0 l i s (i:Int) hs (by rw[Nat.zero_add];exact if_pos ht)]
 ·rfl
 ·intro j y hj hy
  refine if_neg fun e=>?_
  obtain⟨hjl,rfl⟩:=List.getElem?_eq_some_iff.1 hy
  have:=H.far j i hi hj
  rw[es]at this
  have h1:=ht.1
  have h2:=e.2
  omega
theorem jzg3{h:wz2c}{l:List wz2b}(H:LevR h l){s:wz2b}(hs:s∈l){t:Int}(ht:inS s t):wz4j h l t=some (flw s.Curve (stg h t+s.Datum)):=by
 obtain⟨i,hi⟩:=List.getElem?_of_mem hs
 obtain⟨e1,e2,e3,e4,e5⟩:=H.stg hs ht.1 ht.2
 unfold wz4j
 rw[jze0 H hi ht]
 simp only[bd_s]
 rw[at_e rfl hi]
 simp only[bd_s]
 rw[qz3 (by omega),e1]
 simp only[bd_s]
 rw[qz3 (by omega),jzgh (H.sz.l.sz s hs).c (H.span s hs).2.2.2.2.2.2 (by omega)]
 rfl
theorem jzgz{h:wz2c}{l:List wz2b}{p:Int×qza}(hp:p∈prs h l):∃s,s∈l∧inS s p.1∧p.2=flw s.Curve (stg h p.1+s.Datum):=by
 obtain⟨s,hs,hp⟩:=List.mem_flatMap.1 hp
 obtain⟨t,ht,rfl⟩:=List.mem_map.1 hp
 exact⟨s,hs,jzbw.1 ht,rfl⟩
theorem jzf5{h:wz2c}{l:List wz2b}(H:LevR h l){p:Int×qza}(hp:p∈prs h l):wz4j h l p.1=some p.2:=by
 obtain⟨s,hs,hi,e⟩:=jzgz hp
 rw[jzg3 H hs hi,e]
def jzf1(st:List (Int×qza)→Option Bool)(l:List (Int×qza)):Prop:=∀k,k<l.length→st (l.take (k+1))=some false
theorem wz6w{h:wz2c}{l:List wz2b}(H:LevR h l){st:List (Int×qza)→Option Bool}(hst:jzf1 st (prs h l)):wz2x l h st=some (prs h l):=by
 have hl:=H.len
 have hT:=H.tks
 unfold wz2x
 rw[wz69 (l:=l) (fun k=>((k:Int),prs h (l.take k))) (by omega) (o:=.inl (prs h l)) ?_ ?_ ?_]
 ·rfl
 ·intro k s hs
  have hk:=(List.getElem?_eq_some_iff.1 hs).1
  have hm:=List.mem_of_getElem? hs
  have hsp:=H.span s hm
  obtain⟨r1,r2,r3,r4,r5,r6,r7⟩:=hsp
  have hc:=(H.sz.l.sz s hm).c
  have e1:=jzei (h:=h) hs
  have e0:prs h l=prs h (l.take k)++spr h s++prs h (l.drop (k+1)):=by
   rw[←e1];unfold prs;rw[←List.flatMap_append,List.take_append_drop]
  simp only[wz38]
  rw[it_d (by omega),at_e rfl hs]
  simp only[bd_s]
  obtain⟨o,eo,m,rfl⟩:=vzf (s:=(s.From,([]:List (Int×qza)),prs h (l.take k))) (body:=wz4b h st s) (fun t=>∃(i:Nat) (m:List (Int×qza)),i≤(s.To-s.From).toNat∧(∀x v,mget keqI m x=some v→v=flw s.Curve (x+s.Datum))∧t=(s.From+(i:Int),m,prs h (l.take k)++(spr h s).take i)) (fun t=>(s.To-t.1).toNat) (fun o=>∃m,o=.inl (m,prs h (l.take k)++spr h s)) (by
   rintro t ⟨i,m,hi,hm2,rfl⟩
   simp only[wz4b]
   by_cases hlt:i<(s.To-s.From).toNat
   ·left
    have ht:inS s (s.From+(i:Int)):=⟨by omega,by omega⟩
    obtain⟨g1,g2,g3,g4,g5⟩:=H.stg hm ht.1 ht.2
    have e2:(spr h s)[i]?=some (s.From+(i:Int),flw s.Curve (stg h (s.From+(i:Int))+s.Datum)):=by
     unfold spr;rw[List.getElem?_map,jzd7 hlt];rfl
    have e3:=jzlb e2
    have hlen:(spr h s).length=(s.To-s.From).toNat:=by unfold spr;rw[List.length_map,wz6i]
    have e4:st (prs h (l.take k)++(spr h s).take (i+1))=some false:=by
     have:=hst ((prs h (l.take k)).length+i) (by rw[e0];simp only[List.length_append];omega)
     rw[e0,List.append_assoc,Nat.add_assoc,List.take_length_add_append,List.take_append_of_le_length (by omega)]at this
     exact this
    generalize stg h (s.From+(i:Int))=x at *
    rw[it_d (by omega),qz3 (by omega),g1]
    simp only[bd_s]
    have fin:∀m',(∀x v,mget keqI m' x=some v→v=flw s.Curve (x+s.Datum))→∃s',(bd (st ((prs h (l.take k)++(spr h s).take i)++[(s.From+(i:Int),flw s.Curve (x+s.Datum))])) fun s1=>ite' s1 (some (.inr (.inr ((prs h (l.take k)++(spr h s).take i)++[(s.From+(i:Int),flw s.Curve (x+s.Datum))])))) (ck (inB .i64 (s.From+(i:Int)+1))<|some (.inl (s.From+(i:Int)+1,m',(prs h (l.take k)++(spr h s).take i)++[(s.From+(i:Int),flw s.Curve (x+s.Datum))]))))=some ((.inl s':(Int×(List (Int×qza))×(List (Int×qza)))⊕(((List (Int×qza))×(List (Int×qza)))⊕(List (Int×qza)))))∧(∃(i:Nat) (m:List (Int×qza)),i≤(s.To-s.From).toNat∧(∀x v,mget keqI m x=some v→v=flw s.Curve (x+s.Datum))∧s'=(s.From+(i:Int),m,prs h (l.take k)++(spr h s).take i))∧(s.To-s'.1).toNat<(s.To-(s.From+(i:Int))).toNat:=by
     intro m' hm'
     rw[List.append_assoc,←e3,e4]
     simp only[bd_s]
     rw[qzil,qz3 (by omega)]
     exact⟨_,rfl,⟨i+1,m',by omega,hm',by rw[show s.From+((i+1:Nat):Int)=s.From+(i:Int)+1 by omega]⟩,by dsimp only;omega⟩
    cases hg:mget keqI m x with
    |none =>
     rw[show(!Option.isSome (none:Option qza))=true from rfl,wzdh,qz3 (by omega),jzeb hc r7 (by omega)]
     simp only[bd_s]
     exact fin _ fun y v hv=>by
      rw[wz8b]at hv
      split at hv
      ·rename_i e;subst e;cases hv;rfl
      ·exact hm2 y v hv
    |some v =>
     have:=hm2 x v hg
     rw[show(!Option.isSome (some v))=false from rfl,qzil,bd_s,show Option.getD (some v) (qza.mk false [] [])=v from rfl]
     subst this
     exact fin m hm2
   ·right
    rw[it_n (by omega)]
    have hlen:(spr h s).length=(s.To-s.From).toNat:=by unfold spr;rw[List.length_map,wz6i]
    exact⟨_,rfl,m,by rw[List.take_of_length_le (l:=spr h s) (by omega)]⟩) ⟨0,[],Nat.zero_le _,fun x v hv=>by simp[mget]at hv,by simp⟩ (by show(s.To-s.From).toNat<_;omega)
  rw[eo]
  simp only[bd_s]
  rw[qz3 (by omega),←e1]
  rfl
 ·simp only[wz38]
  rw[it_n (by omega),List.take_length]
 ·rfl
theorem jzbc{σ:Type}{body:(Int×qza)→σ→Option (σ⊕Unit)}{l:List (Int×qza)}(st:Nat→σ)(hs:∀k p,l[k]?=some p→body p (st k)=some (.inl (st (k+1)))):∀k,k≤l.length→wz20 body (l.take k) (st 0)=some (.inl (st k)):=by
 have app:∀(a:List (Int×qza)) (p:Int×qza) (s s':σ),wz20 body a s=some (.inl s')→wz20 body (a++[p]) s=(match body p s' with | some (.inl z)=>some (.inl z) | some (.inr o)=>some (.inr o) | none=>none):=by
  intro a
  induction a with
  |nil =>
   intro p s s' e
   cases e
   simp only[List.nil_append,wz20]
   cases body p s with
   |none=>rfl
   |some r=>cases r<;>rfl
  |cons q a ih =>
   intro p s s' e
   simp only[wz20,List.cons_append]at e ⊢
   cases hb:body q s with
   |none=>rw[hb]at e;cases e
   |some r =>
    cases r with
    |inl z=>rw[hb]at e;exact ih p z s' e
    |inr o=>rw[hb]at e;cases e
 intro k
 induction k with
 |zero=>intro _;rfl
 |succ k ih =>
  intro hk
  have hx:=List.getElem?_eq_getElem (show k<l.length by omega)
  rw[jzlb hx,app _ _ _ _ (ih (by omega)),hs k _ hx]
theorem wz7f{σ:Type}{body:(Int×qza)→σ→Option (σ⊕Unit)}{l:List (Int×qza)}(st:Nat→σ)(hs:∀k p,l[k]?=some p→body p (st k)=some (.inl (st (k+1)))){s:σ}(h0:s=st 0):jzf1 (fun l=>wz4k body l s) l∧wz20 body l s=some (.inl (st l.length)):=by
 subst h0
 refine⟨fun k hk=>?_,?_⟩
 ·show wz4k body (l.take (k+1)) (st 0)=some false
  unfold wz4k
  rw[jzbc st hs (k+1) hk]
 ·have:=jzbc st hs l.length (Nat.le_refl _)
  rwa [List.take_length]at this
theorem wz7o{h:wz2c}{l:List wz2b}{k:Nat}{p:Int×qza}(e:(prs h l)[k]?=some p):(tks l)[k]?=some p.1∧(flws h l)[k]?=some p.2:=by
 constructor
 ·rw[←wz9c h l,List.getElem?_map,e];rfl
 ·unfold flws;rw[List.getElem?_map,e];rfl
theorem LevR.prs{h:wz2c}{l:List wz2b}(H:LevR h l):(prs h l).length≤561024000:=by rw[wz21];exact H.tks
noncomputable def abv(v:Rat)(L:List qza):Nat:=L.countP fun x=>decide (v≤rq x)
theorem wz8m(v:Rat)(L:List qza):abv v L≤L.length:=List.countP_le_length
theorem wz98{v:Rat}{L:List qza}{k:Nat}{x:qza}(e:L[k]?=some x):abv v (L.take (k+1))=if v≤rq x then abv v (L.take k)+1 else abv v (L.take k):=by
 unfold abv
 rw[jzlb e,List.countP_append,List.countP_singleton]
 by_cases h:v≤rq x<;>simp[h]
theorem wzxb{p q:Rat}:0≤cmpQ p q↔q≤p:=by
 unfold cmpQ
 by_cases h:p<q
 ·rw[if_pos h]
  exact⟨fun e=>by omega,fun e=>(Rat.not_lt.2 e h).elim⟩
 ·rw[if_neg h]
  exact⟨fun _=>Rat.not_lt.1 h,fun _=>by split<;>omega⟩
theorem jzbl{h:wz2c}{l:List wz2b}{lv:qza}{n:Nat}(H:HSz h l)(hv:Sz n lv)(n1:1≤n)(hn:n≤33554432):wz3f h l lv=some (if levE h l lv=0 then((abv (rq lv) (flws h l):Int),0) else(0,levE h l lv)):=by
 unfold wz3f
 rw[wz53 H (hv.mono (by omega))]
 simp only[bd_s]
 by_cases e:levE h l lv=0
 ·rw[qzk5 e,if_pos e]
  have R:=(wz32 H e).1
  have hp:=R.prs
  unfold wz2u
  simp only[bd_s]
  obtain⟨t1,t2⟩:=wz7f (body:=wz3w lv) (l:=prs h l) (fun k=>(abv (rq lv) ((flws h l).take k):Int)) (fun k p hk=>by
   have e2:=(wz7o hk).2
   have hz:=R.szf _ (List.mem_of_getElem? e2)
   simp only[wz3w]
   rw[jz9 hz.1 hv (by omega) n1 (by omega) hn,wz98 e2]
   simp only[bd_s]
   by_cases h1:rq lv≤rq p.2
   ·have h2:=wz8m (rq lv) ((flws h l).take k)
    have:=wz5x (flws h l) k
    rw[wz3b,←wz21 h l]at this
    rw[it_d (wzxb.2 h1),if_pos h1,qz3 (by omega)]
    rfl
   ·rw[it_n (fun e=>h1 (wzxb.1 e)),if_neg h1]) (s:=(0:Int)) rfl
  rw[wz6w R t1,bd_s,t2]
  simp only[bd_s]
  rw[List.take_of_length_le (by rw[wz3b,wz21];omega)]
 ·rw[qzhj e,if_neg e]
noncomputable def bix(P:Rat→Rat→Prop)(L:List qza):Nat→Nat
 |0=>0
 |k+1=>open Classical in if P (rq (L.getD (k+1) default)) (rq (L.getD (bix P L k) default)) then k+1 else bix P L k
noncomputable def extr(P:Rat→Rat→Prop)(h:wz2c)(l:List wz2b):wz2f×Int :=
 if levE h l (qza.mk false [] [])=0 then
  if(tks l).length=0 then(⟨qza.mk false [] [],0⟩,8) else(⟨(flws h l).getD (bix P (flws h l) ((tks l).length-1)) default,(tks l).getD (bix P (flws h l) ((tks l).length-1)) default⟩,0)
 else(⟨qza.mk false [] [],0⟩,levE h l (qza.mk false [] []))
theorem wz2y{α:Type}[Inhabited α]{l:List α}{k:Nat}{x:α}(h:l[k]?=some x):l.getD k default=x:=by simp[List.getD,h]
noncomputable def low(h:wz2c)(l:List wz2b):wz2f×Int:=extr (fun p q=>p<q) h l
section
variable {α β:Type}[DecidableEq α]{eq:α→α→Bool}
structure CntI(m:List (α×Int))(L:List α):Prop where
 get:∀x,mget eq m x=if x∈L then some (L.count x:Int) else none
 nd:(m.map (·.1)).Nodup
 mem:∀x,x∈m.map (·.1)↔x∈L
theorem CntI.getD{m:List (α×Int)}{L:List α}(h:CntI (eq:=eq) m L)(x:α):Option.getD (mget eq m x) 0=(L.count x:Int):=by
 rw[h.get x]
 split
 ·rfl
 ·rename_i hx;rw[List.count_eq_zero_of_not_mem hx];rfl
theorem wz9r(he:∀a b,eq a b=decide (a=b)){v:β}{k x:α}:∀(m:List (α×β)),mget eq (mput eq m k v) x=if x=k then some v else mget eq m x
 |[]=>by
  by_cases h:x=k<;>simp[mput,mget,he,h]
 |p :: m=>by
  unfold mput
  by_cases h:k=p.1
  ·rw[show eq k p.1=true by simp[he,h]]
   by_cases h2:x=k
   ·simp[mget,he,h2]
   ·have h3:eq x k=false:=by simp[he,h2]
    have h4:eq x p.1=false:=by rw[←h];exact h3
    simp only[mget,h3,h4,if_neg h2]
  ·rw[show eq k p.1=false by simp[he,h]]
   have ih:=wz9r he (v:=v) (k:=k) (x:=x) m
   by_cases h2:x=p.1
   ·have h3:eq x p.1=true:=by simp[he,h2]
    simp only[mget,h3]
    rw[if_neg (fun e:x=k=>h (e.symm.trans h2))]
   ·have h3:eq x p.1=false:=by simp[he,h2]
    simp only[mget,h3]
    exact ih
theorem wz7m(he:∀a b,eq a b=decide (a=b)){v:β}{k:α}:∀(m:List (α×β)),(mput eq m k v).map (·.1)=if k∈m.map (·.1) then m.map (·.1) else m.map (·.1)++[k]
 |[]=>by simp[mput]
 |p :: m=>by
  unfold mput
  by_cases h:k=p.1
  ·rw[show eq k p.1=true by simp[he,h]]
   simp[h]
  ·rw[show eq k p.1=false by simp[he,h]]
   have ih:=wz7m he (v:=v) (k:=k) m
   simp only[List.map_cons,ih,List.mem_cons,h,false_or]
   split<;>simp
theorem CntI.step(he:∀a b,eq a b=decide (a=b)){m:List (α×Int)}{L:List α}(h:CntI (eq:=eq) m L)(x:α):CntI (eq:=eq) (mput eq m x ((L.count x:Int)+1)) (L++[x]):=by
 refine⟨fun y=>?_,?_,fun y=>?_⟩
 ·rw[wz9r he,h.get y,List.count_append]
  by_cases e:y=x
  ·subst e;simp
  ·rw[if_neg e]
   simp[List.mem_append,e,List.count_singleton,show ¬x=y from fun e2=>e e2.symm]
 ·rw[wz7m he]
  split
  ·exact h.nd
  ·rename_i hx
   rw[List.nodup_append]
   refine⟨h.nd,by simp,?_⟩
   intro a ha b hb
   rw[List.mem_singleton]at hb
   subst hb
   intro e;subst e;exact hx ha
 ·rw[wz7m he]
  split
  ·rename_i hx
   rw[h.mem,List.mem_append,List.mem_singleton]
   refine⟨.inl,fun e=>e.elim id fun e=>?_⟩
   subst e;exact(h.mem _).1 hx
  ·rw[List.mem_append,List.mem_append,h.mem]
end
section
variable {g:qza→qza→Option Int}
variable {S:qza→Prop}
end
end Go.Am

namespace Go.Am
theorem jzis:wz3n=some true:=by decide +kernel
noncomputable def epS(lv:Rat)(l:List wz2h)(p:Int×qza):List wz2h:=open Classical in
 if rq p.2<lv then l else if 0<l.length∧(l.getD (l.length-1) default).To=p.1 then l.set (l.length-1) ⟨(l.getD (l.length-1) default).From,p.1+1⟩ else l++[⟨p.1,p.1+1⟩]
noncomputable def eps(lv:Rat)(P:List (Int×qza)):List wz2h:=P.foldl (epS lv) []
theorem jzlo{lv:Rat}{P:List (Int×qza)}{k:Nat}{p:Int×qza}(h:P[k]?=some p):eps lv (P.take (k+1))=epS lv (eps lv (P.take k)) p:=by
 unfold eps;rw[jzlb h,List.foldl_append];rfl
theorem jzmg(lv:Rat)(l:List wz2h)(p:Int×qza):(epS lv l p).length≤l.length+1:=by
 unfold epS
 split
 ·omega
 ·split
  ·rw[List.length_set];omega
  ·rw[List.length_append,List.length_singleton];omega
theorem jzlm{lv:Rat}{P:List (Int×qza)}:∀k,k≤P.length→(eps lv (P.take k)).length≤k:=by
 intro k
 induction k with
 |zero=>intro _;simp[eps]
 |succ k ih =>
  intro hk
  rw[jzlo (List.getElem?_eq_getElem (show k<P.length by omega))]
  have:=jzmg lv (eps lv (P.take k)) P[k]
  have:=ih (by omega)
  omega
theorem jzlq{h:wz2c}{l:List wz2b}(H:LevR h l){p:Int×qza}(hp:p∈prs h l):0≤p.1∧p.1<1402560:=by
 obtain⟨s,hs,hi,_⟩:=jzgz hp
 obtain⟨_,_,_,e4,_⟩:=H.stg hs hi.1 hi.2
 exact e4
theorem jzlp{h:wz2c}{l:List wz2b}{lv:qza}{n:Nat}(H:HSz h l)(hv:Sz n lv)(n1:1≤n)(hn:n≤33554432):wz3x h l lv=some (if levE h l lv=0 then(eps (rq lv) (prs h l),0) else([],levE h l lv)):=by
 unfold wz3x
 rw[wz53 H (hv.mono (by omega))]
 simp only[bd_s]
 by_cases e:levE h l lv=0
 ·rw[qzk5 e,if_pos e]
  have R:=(wz32 H e).1
  have hp:=R.prs
  unfold wz2u
  simp only[bd_s]
  obtain⟨t1,t2⟩:=wz7f (body:=wz5s lv) (l:=prs h l) (fun k=>eps (rq lv) ((prs h l).take k)) (fun k p hk=>by
   have e2:=(wz7o hk).2
   have hz:=R.szf _ (List.mem_of_getElem? e2)
   have hkl:=(List.getElem?_eq_some_iff.1 hk).1
   have ht:=jzlq R (List.mem_of_getElem? hk)
   have hlen:=jzlm (lv:=rq lv) (P:=prs h l) k (by omega)
   rw[jzlo hk]
   generalize eps (rq lv) ((prs h l).take k)=E at *
   simp only[wz5s]
   rw[jz9 hz.1 hv (by omega) n1 (by omega) hn]
   simp only[bd_s]
   unfold epS
   by_cases h1:rq p.2<rq lv
   ·rw[it_d (wz49.2 h1),if_pos h1];simp only[bd_s]
   ·rw[it_n (fun e=>h1 (wz49.1 e)),if_neg h1]
    simp only[bd_s]
    by_cases h0:0<E.length
    ·have hx:=List.getElem?_eq_getElem (show E.length-1<E.length by omega)
     rw[ck_t (by simp[inB];omega),show decide (0<(E.length:Int))=true by simp;omega,qzbx,at_e (n:=E.length-1) (by omega) hx]
     simp only[bd_s,cond_true]
     rw[wz2y hx]
     by_cases h2:E[E.length-1].To=p.1
     ·rw[it_d h2,if_pos ⟨h0,h2⟩,qz3 (by omega),qz3 (by omega),show((E.length:Int)-1).toNat=E.length-1 by omega]
     ·rw[it_n h2,if_neg (fun e=>h2 e.2),qz3 (by omega),ck_d (by rw[List.length_append,List.length_singleton];omega)]
    ·rw[show decide (0<(E.length:Int))=false from decide_eq_false (by omega),ck_t (by rfl),wzcn]
     simp only[bd_s,cond_false]
     rw[qzil,if_neg (fun e=>h0 e.1),qz3 (by omega),ck_d (by rw[List.length_append,List.length_singleton];omega)]) (s:=([]:List wz2h)) rfl
  rw[wz6w R t1,bd_s,t2]
  simp only[bd_s]
  rw[List.take_length]
 ·rw[qzhj e,if_neg e]
def inE(E:List wz2h)(t:Int):Prop:=∃e,e∈E∧e.From≤t∧t<e.To
structure EpR(E:List wz2h):Prop where
 ok:∀e,e∈E→0≤e.From∧e.From<e.To∧e.To≤1402560
 asc:E.Pairwise fun a b=>a.To≤b.From
theorem EpR.tail{e:wz2h}{E:List wz2h}(h:EpR (e :: E)):EpR E:=⟨fun x hx=>h.ok x (List.mem_cons_of_mem _ hx),(List.pairwise_cons.1 h.asc).2⟩
theorem jzmb{l:List wz2h}(h:0<l.length):∃(m:List wz2h) (z:wz2h),l=m++[z]∧l.getD (l.length-1) default=z∧∀y,l.set (l.length-1) y=m++[y]:=by
 have hne:l≠[]:=fun e=>by rw[e]at h;simp at h
 refine⟨l.dropLast,l.getLast hne,(List.dropLast_concat_getLast hne).symm,?_,fun y=>?_⟩
 ·rw[wz2y (List.getElem?_eq_getElem (show l.length-1<l.length by omega))];rw[List.getLast_eq_getElem]
 ·have e:=(List.dropLast_concat_getLast hne).symm
  have hl:l.length-1=l.dropLast.length:=by rw[List.length_dropLast]
  generalize l.dropLast=m at *
  generalize l.getLast hne=z at *
  subst e
  rw[hl,List.set_append_right _ _ (Nat.le_refl _)]
  simp
theorem jzmj{lv:Rat}{E:List wz2h}(hE:EpR E){p:Int×qza}(hp:0≤p.1∧p.1<1402560)(hl:∀e,e∈E→e.To≤p.1):EpR (epS lv E p)∧(∀e,e∈epS lv E p→e.To≤p.1+1)∧∀t,inE (epS lv E p) t↔inE E t∨(t=p.1∧lv≤rq p.2):=by
 unfold epS
 by_cases h1:rq p.2<lv
 ·rw[if_pos h1]
  exact⟨hE,fun e he=>by have:=hl e he;omega,fun t=>⟨.inl,fun h=>h.elim id fun h=>(Rat.not_lt.2 h.2 h1).elim⟩⟩
 ·rw[if_neg h1]
  have h1':=Rat.not_lt.1 h1
  by_cases h2:0<E.length∧(E.getD (E.length-1) default).To=p.1
  ·rw[if_pos h2]
   obtain⟨m,z,e1,e2,e3⟩:=jzmb h2.1
   rw[e3,e2]
   have h3:=h2.2
   rw[e2]at h3
   subst e1
   have hz:=hE.ok z (by simp)
   obtain⟨a1,a2,a3⟩:=List.pairwise_append.1 hE.asc
   refine⟨⟨fun e he=>?_,?_⟩,fun e he=>?_,fun t=>?_⟩
   ·rw[List.mem_append,List.mem_singleton]at he
    rcases he with he|rfl
    ·exact hE.ok e (by simp[he])
    ·dsimp only;omega
   ·exact List.pairwise_append.2 ⟨a1,by simp,fun x hx y hy=>by
     rw[List.mem_singleton]at hy;subst hy
     exact a3 x hx z (by simp)⟩
   ·rw[List.mem_append,List.mem_singleton]at he
    rcases he with he|rfl
    ·have:=hl e (by simp[he]);omega
    ·exact Int.le_refl _
   ·constructor
    ·rintro⟨e,he,t1,t2⟩
     rw[List.mem_append,List.mem_singleton]at he
     rcases he with he|rfl
     ·exact .inl ⟨e,by simp[he],t1,t2⟩
     ·dsimp only at t1 t2
      by_cases ht:t=p.1
      ·exact .inr ⟨ht,h1'⟩
      ·exact .inl ⟨z,by simp,t1,by omega⟩
    ·rintro(⟨e,he,t1,t2⟩|⟨rfl,_⟩)
     ·rw[List.mem_append,List.mem_singleton]at he
      rcases he with he|rfl
      ·exact⟨e,by simp[he],t1,t2⟩
      ·exact⟨⟨e.From,p.1+1⟩,by simp,t1,by dsimp only;omega⟩
     ·exact⟨⟨z.From,p.1+1⟩,by simp,by dsimp only;omega,by dsimp only;omega⟩
  ·rw[if_neg h2]
   refine⟨⟨fun e he=>?_,?_⟩,fun e he=>?_,fun t=>?_⟩
   ·rw[List.mem_append,List.mem_singleton]at he
    rcases he with he|rfl
    ·exact hE.ok e he
    ·dsimp only;omega
   ·exact List.pairwise_append.2 ⟨hE.asc,by simp,fun x hx y hy=>by
     rw[List.mem_singleton]at hy;subst hy
     exact hl x hx⟩
   ·rw[List.mem_append,List.mem_singleton]at he
    rcases he with he|rfl
    ·have:=hl e he;omega
    ·exact Int.le_refl _
   ·constructor
    ·rintro⟨e,he,t1,t2⟩
     rw[List.mem_append,List.mem_singleton]at he
     rcases he with he|rfl
     ·exact .inl ⟨e,he,t1,t2⟩
     ·dsimp only at t1 t2
      exact .inr ⟨by omega,h1'⟩
    ·rintro(⟨e,he,t1,t2⟩|⟨rfl,_⟩)
     ·exact⟨e,by simp[he],t1,t2⟩
     ·exact⟨⟨p.1,p.1+1⟩,by simp,by dsimp only;omega,by dsimp only;omega⟩
theorem jzl2{h:wz2c}{l:List wz2b}(H:LevR h l):(tks l).Pairwise (· < ·):=by
 have hp:l.Pairwise fun a b=>a.To≤b.From:=by
  rw[List.pairwise_iff_getElem]
  intro i j hi hj hij
  exact H.far i j hj hij
 have:∀l:List wz2b,l.Pairwise (fun a b=>a.To≤b.From)→(∀s,s∈l→wz50 s)→(tks l).Pairwise (· < ·):=by
  intro l
  induction l with
  |nil=>intro _ _;simp[tks]
  |cons s l ih =>
   intro hp hs
   obtain⟨p1,p2⟩:=List.pairwise_cons.1 hp
   show(spt s++tks l).Pairwise (· < ·)
   refine List.pairwise_append.2 ⟨?_,ih p2 fun x hx=>hs x (List.mem_cons_of_mem _ hx),fun x hx y hy=>?_⟩
   ·unfold spt
    rw[List.pairwise_map]
    exact(List.pairwise_lt_range).imp fun h=>by omega
   ·obtain⟨z,hz,hy⟩:=List.mem_flatMap.1 hy
    have a1:=jzbw.1 hx
    have a2:=jzbw.1 hy
    have:=p1 z hz
    omega
 exact this l hp H.span
theorem jzmi{h:wz2c}{l:List wz2b}(H:LevR h l)(lv:Rat):∀k,k≤(prs h l).length→EpR (eps lv ((prs h l).take k))∧(∀(p:Int×qza) (e:wz2h),e∈eps lv ((prs h l).take k)→(prs h l)[k]?=some p→e.To≤p.1)∧∀t,inE (eps lv ((prs h l).take k)) t↔∃p,p∈(prs h l).take k∧p.1=t∧lv≤rq p.2:=by
 intro k
 induction k with
 |zero =>
  intro _
  refine⟨⟨fun e he=>by simp[eps]at he,by simp[eps]⟩,fun p e he=>by simp[eps]at he,fun t=>⟨fun⟨e,he,_⟩=>by simp[eps]at he,fun⟨p,hp,_⟩=>by simp at hp⟩⟩
 |succ k ih =>
  intro hk
  obtain⟨i1,i2,i3⟩:=ih (by omega)
  have hx:=List.getElem?_eq_getElem (show k<(prs h l).length by omega)
  have hr:∀q,(prs h l)[k+1]?=some q→((prs h l)[k]'(by omega)).1<q.1:=by
   intro q hq
   have hr:=jzl2 H
   rw[←wz9c h l,List.pairwise_map]at hr
   obtain⟨hk1,rfl⟩:=List.getElem?_eq_some_iff.1 hq
   exact List.pairwise_iff_getElem.1 hr k (k+1) (by omega) hk1 (by omega)
  have hm:=List.getElem_mem (show k<(prs h l).length by omega)
  generalize (prs h l)[k]'(by omega)=p at *
  obtain⟨j1,j2,j3⟩:=jzmj (lv:=lv) i1 (p:=p) (jzlq H hm) fun e he=>i2 p e he hx
  rw[jzlo hx]
  refine⟨j1,fun q e he hq=>?_,fun t=>?_⟩
  ·have:=j2 e he
   have:=hr q hq
   omega
  ·rw[j3,i3,jzlb hx]
   constructor
   ·rintro(⟨q,hq,r⟩|⟨rfl,r⟩)
    ·exact⟨q,by simp[hq],r⟩
    ·exact⟨p,by simp,rfl,r⟩
   ·rintro⟨q,hq,r1,r2⟩
    rw[List.mem_append,List.mem_singleton]at hq
    rcases hq with hq|rfl
    ·exact .inl ⟨q,hq,r1,r2⟩
    ·exact .inr ⟨r1.symm,r2⟩
theorem jzl0{h:wz2c}{l:List wz2b}(H:LevR h l)(lv:Rat):EpR (eps lv (prs h l))∧∀t,inE (eps lv (prs h l)) t↔∃p,p∈prs h l∧p.1=t∧lv≤rq p.2:=by
 have:=jzmi H lv (prs h l).length (Nat.le_refl _)
 rw[List.take_length]at this
 exact⟨this.1,this.2.2⟩
noncomputable def dc(p:Prop):Bool:=@decide p (Classical.propDecidable p)
theorem dc_t{p:Prop}(h:p):dc p=true:=@decide_eq_true p (Classical.propDecidable p) h
theorem dc_f{p:Prop}(h:¬p):dc p=false:=@decide_eq_false p (Classical.propDecidable p) h
theorem jzlt{p:Prop}:dc p=true↔p:=⟨@of_decide_eq_true p (Classical.propDecidable p),dc_t⟩
noncomputable def cnN(n:Nat)(p:Int→Prop):Nat:=(List.range n).countP fun(i:Nat)=>dc (p (i:Int))
theorem exN:∃n:Nat,n=1402560:=⟨_,rfl⟩
noncomputable def bigN:Nat:=exN.choose
theorem jzlr:bigN=1402560:=exN.choose_spec
noncomputable def cnt(p:Int→Prop):Nat:=cnN bigN p
theorem jzlj{p q:Int→Prop}(h:∀t:Int,0≤t→t<1402560→(p t↔q t)):cnt p=cnt q:=by
 unfold cnt cnN
 refine List.countP_congr fun i hi=>?_
 rw[List.mem_range,jzlr]at hi
 rw[jzlt,jzlt]
 exact h i (by omega) (by omega)
theorem jzlw{p q:Int→Prop}(h:∀t:Int,p t→¬q t):cnt (fun t=>p t∨q t)=cnt p+cnt q:=by
 unfold cnt cnN
 generalize List.range bigN=L
 induction L with
 |nil=>rfl
 |cons i L ih =>
  rw[List.countP_cons,List.countP_cons,List.countP_cons,ih]
  by_cases h1:p (i:Int)
  ·have h2:=h _ h1
   rw[dc_t (.inl h1),dc_t h1,dc_f h2];simp;omega
  ·by_cases h2:q (i:Int)
   ·rw[dc_t (.inr h2),dc_f h1,dc_t h2];simp;omega
   ·rw[dc_f (fun e=>e.elim h1 h2),dc_f h1,dc_f h2];simp
theorem jzln{p:Int→Prop}(h:∀t,¬p t):cnt p=0:=by
 unfold cnt cnN
 rw[List.countP_eq_zero]
 intro i _ e
 exact h _ (jzlt.1 e)
theorem jzl9{a b:Int}(ha:0≤a):∀n:Nat,(cnN n (fun t=>a≤t∧t<b):Int)=max 0 (min b n-a)
 |0=>by simp[cnN];omega
 |n+1=>by
  have ih:=jzl9 (b:=b) ha n
  unfold cnN at ih ⊢
  rw[List.range_succ,List.countP_append,List.countP_singleton]
  by_cases h:a≤(n:Int)∧(n:Int)<b
  ·rw[dc_t h,if_pos rfl];omega
  ·rw[dc_f h,if_neg (by decide)];omega
theorem jzl7{a b:Int}(ha:0≤a)(hb:b≤1402560):(cnt (fun t=>a≤t∧t<b):Int)=max 0 (b-a):=by
 unfold cnt
 rw[jzl9 ha,jzlr]
 omega
theorem jzme{T:List Int}{q:Int→Prop}(hr:T.Pairwise (· < ·))(hb:∀t,t∈T→0≤t∧t<1402560):(T.countP fun t=>dc (q t))=cnt (fun t=>t∈T∧q t):=by
 induction T with
 |nil=>rw[jzln (fun t h=>by cases h.1)];rfl
 |cons t T ih =>
  obtain⟨r1,r2⟩:=List.pairwise_cons.1 hr
  have e:=ih r2 fun x hx=>hb x (List.mem_cons_of_mem _ hx)
  rw[List.countP_cons,e,jzlj (p:=fun x=>x∈t :: T∧q x) (q:=fun x=>(x=t∧q t)∨(x∈T∧q x)) fun x _ _=>⟨fun h=>by
   rcases List.mem_cons.1 h.1 with e|e
   ·exact .inl ⟨e,by rw[←e];exact h.2⟩
   ·exact .inr ⟨e,h.2⟩,fun h=>by
   rcases h with ⟨rfl,h⟩|⟨h1,h2⟩
   ·exact⟨List.mem_cons_self ..,h⟩
   ·exact⟨List.mem_cons_of_mem _ h1,h2⟩⟩]
  rw[jzlw (p:=fun x=>x=t∧q t) (q:=fun x=>x∈T∧q x) fun x h1 h2=>by have:=r1 x h2.1;omega]
  have ht:=hb t (List.mem_cons_self ..)
  by_cases h:q t
  ·rw[dc_t h,if_pos rfl,jzlj (p:=fun x=>x=t∧q t) (q:=fun x=>t≤x∧x<t+1) fun x _ _=>⟨fun h=>by omega,fun h2=>⟨by omega,h⟩⟩]
   have:=jzl7 (a:=t) (b:=t+1) (by omega) (by omega)
   omega
  ·rw[dc_f h,jzln (p:=fun x=>x=t∧q t) fun x hx=>h hx.2]
   simp
def ovl(lag:Int)(X Y:List wz2h)(t:Int):Prop:=inE X t∧inE Y (t+lag)
theorem jzlv{e:wz2h}{E:List wz2h}:sub (e :: E) 1 ((e :: E).length:Int)=E:=by
 unfold sub
 simp
theorem jzmd{lag:Int}{e f:wz2h}{X Y:List wz2h}(hX:EpR (e :: X))(hY:EpR (f :: Y)) :
  (e.To+lag≤f.To→(cnt (ovl lag (e :: X) (f :: Y)):Int)=max 0 (min (e.To+lag) f.To-max (e.From+lag) f.From)+cnt (ovl lag X (f :: Y))) ∧
  (f.To≤e.To+lag→(cnt (ovl lag (e :: X) (f :: Y)):Int)=max 0 (min (e.To+lag) f.To-max (e.From+lag) f.From)+cnt (ovl lag (e :: X) Y)):=by
 have he:=hX.ok e (List.mem_cons_self ..)
 have hf:=hY.ok f (List.mem_cons_self ..)
 obtain⟨x1,_⟩:=List.pairwise_cons.1 hX.asc
 obtain⟨y1,_⟩:=List.pairwise_cons.1 hY.asc
 have hiv:(cnt (fun t=>max e.From (f.From-lag)≤t∧t<min e.To (f.To-lag)):Int)=max 0 (min (e.To+lag) f.To-max (e.From+lag) f.From):=by
  rw[jzl7 (by omega) (by omega)]
  omega
 constructor
 ·intro hle
  rw[←hiv,←Int.natCast_add,←jzlw]
  ·refine congrArg (fun n:Nat=>(n:Int)) (jzlj fun t _ _=>?_)
   constructor
   ·rintro⟨⟨a,ha,a1,a2⟩,⟨b,hb,b1,b2⟩⟩
    rcases List.mem_cons.1 ha with rfl|ha'
    ·rcases List.mem_cons.1 hb with rfl|hb'
     ·exact .inl ⟨by omega,by omega⟩
     ·have:=y1 b hb'
      omega
    ·exact .inr ⟨⟨a,ha',a1,a2⟩,⟨b,hb,b1,b2⟩⟩
   ·rintro(⟨h1,h2⟩|⟨⟨a,ha,a1,a2⟩,hb⟩)
    ·exact⟨⟨e,List.mem_cons_self ..,by omega,by omega⟩,⟨f,List.mem_cons_self ..,by omega,by omega⟩⟩
    ·exact⟨⟨a,List.mem_cons_of_mem _ ha,a1,a2⟩,hb⟩
  ·rintro t ⟨h1,h2⟩ ⟨⟨a,ha,a1,a2⟩,_⟩
   have:=x1 a ha
   omega
 ·intro hle
  rw[←hiv,←Int.natCast_add,←jzlw]
  ·refine congrArg (fun n:Nat=>(n:Int)) (jzlj fun t _ _=>?_)
   constructor
   ·rintro⟨⟨a,ha,a1,a2⟩,⟨b,hb,b1,b2⟩⟩
    rcases List.mem_cons.1 hb with rfl|hb'
    ·rcases List.mem_cons.1 ha with rfl|ha'
     ·exact .inl ⟨by omega,by omega⟩
     ·have:=x1 a ha'
      omega
    ·exact .inr ⟨⟨a,ha,a1,a2⟩,⟨b,hb',b1,b2⟩⟩
   ·rintro(⟨h1,h2⟩|⟨ha,⟨b,hb,b1,b2⟩⟩)
    ·exact⟨⟨e,List.mem_cons_self ..,by omega,by omega⟩,⟨f,List.mem_cons_self ..,by omega,by omega⟩⟩
    ·exact⟨ha,⟨b,List.mem_cons_of_mem _ hb,b1,b2⟩⟩
  ·rintro t ⟨h1,h2⟩ ⟨_,⟨b,hb,b1,b2⟩⟩
   have:=y1 b hb
   omega
theorem jzmh(p:Int→Prop):cnt p≤1402560:=by
 unfold cnt cnN
 have:=List.countP_le_length (p:=fun(i:Nat)=>dc (p (i:Int))) (l:=List.range bigN)
 exact Nat.le_trans this (by rw[List.length_range,jzlr];exact Nat.le_refl _)
theorem jzl4{X Y:List wz2h}(hX:EpR X)(hY:EpR Y){lag:Int}(hl:-1402560≤lag∧lag≤1402560):∀t:List wz2h×List wz2h×Int,(EpR t.1∧EpR t.2.1∧0≤t.2.2∧t.2.2+(cnt (ovl lag t.1 t.2.1):Int)=(cnt (ovl lag X Y):Int))→(∃t',wz8w lag t=some (.inl t')∧(EpR t'.1∧EpR t'.2.1∧0≤t'.2.2∧t'.2.2+(cnt (ovl lag t'.1 t'.2.1):Int)=(cnt (ovl lag X Y):Int))∧t'.1.length+t'.2.1.length<t.1.length+t.2.1.length)∨wz8w lag t=some (.inr (cnt (ovl lag X Y):Int)):=by
 rintro⟨x,y,n⟩ ⟨h1,h2,h3,h4⟩
 dsimp only at h1 h2 h3 h4
 have hc:=jzmh (ovl lag X Y)
 simp only[wz8w]
 cases x with
 |nil =>
  right
  rw[it_f (by simp)]
  have:cnt (ovl lag [] y)=0:=jzln fun t h=>by obtain⟨⟨e,he,_⟩,_⟩:=h;cases he
  rw[this]at h4
  rw[show n=(cnt (ovl lag X Y):Int) by omega]
 |cons e x =>
  cases y with
  |nil =>
   right
   rw[it_f (by simp)]
   have:cnt (ovl lag (e :: x) [])=0:=jzln fun t h=>by obtain⟨_,⟨e,he,_⟩⟩:=h;cases he
   rw[this]at h4
   rw[show n=(cnt (ovl lag X Y):Int) by omega]
  |cons f y =>
   left
   have he:=h1.ok e (List.mem_cons_self ..)
   have hf:=h2.ok f (List.mem_cons_self ..)
   obtain⟨s1,s2⟩:=jzmd (lag:=lag) h1 h2
   rw[it_t (by simp),at_e (n:=0) (by rfl) rfl,at_e (n:=0) (by rfl) rfl]
   simp only[bd_s]
   by_cases hle:e.To+lag≤f.To
   ·have s1:=s1 hle
    rw[qz3 (by omega),qz3 (by omega),qz3 (by omega),qz3 (by omega),qz3 (by omega),it_d (by omega),qzhn (by rw[List.length_cons];omega),jzlv]
    exact⟨_,rfl,⟨h1.tail,h2,by dsimp only;omega,by dsimp only;omega⟩,by simp⟩
   ·have s2:=s2 (by omega)
    rw[qz3 (by omega),qz3 (by omega),qz3 (by omega),qz3 (by omega),qz3 (by omega),it_n (by omega),qzhn (by rw[List.length_cons];omega),jzlv]
    exact⟨_,rfl,⟨h1,h2.tail,by dsimp only;omega,by dsimp only;omega⟩,by simp⟩
theorem jzmc{X Y:List wz2h}(hX:EpR X)(hY:EpR Y){lag:Int}(hl:-1402560≤lag∧lag≤1402560)(hx:X.length≤561024000)(hy:Y.length≤561024000):lp (wz8w lag) (X,Y,0)=some (cnt (ovl lag X Y):Int):=by
 have step:∀t:List wz2h×List wz2h×Int,(EpR t.1∧EpR t.2.1∧0≤t.2.2∧t.2.2+(cnt (ovl lag t.1 t.2.1):Int)=(cnt (ovl lag X Y):Int))→(∃t',wz8w lag t=some (.inl t')∧(EpR t'.1∧EpR t'.2.1∧0≤t'.2.2∧t'.2.2+(cnt (ovl lag t'.1 t'.2.1):Int)=(cnt (ovl lag X Y):Int))∧t'.1.length+t'.2.1.length<t.1.length+t.2.1.length)∨wz8w lag t=some (.inr (cnt (ovl lag X Y):Int)):=jzl4 hX hY hl
 exact qznm (fun t=>EpR t.1∧EpR t.2.1∧0≤t.2.2∧t.2.2+(cnt (ovl lag t.1 t.2.1):Int)=(cnt (ovl lag X Y):Int)) (fun t=>t.1.length+t.2.1.length) (cnt (ovl lag X Y):Int) step ⟨hX,hY,Int.le_refl _,Int.zero_add _⟩ (Nat.lt_of_le_of_lt (Nat.add_le_add hx hy) (by decide))
def atL(a:wz2p)(t:Int):Prop:=∃p,p∈prs a.History a.Spans∧p.1=t∧rq a.Level≤rq p.2
noncomputable def bthE(a b:wz2p)(lag:Int):Int :=
 if levE a.History a.Spans a.Level=0 then if levE b.History b.Spans b.Level=0 then if lag < -1402560∨1402560<lag then 3 else 0 else levE b.History b.Spans b.Level else levE a.History a.Spans a.Level
noncomputable def bth(a b:wz2p)(lag:Int):Int:=if bthE a b lag=0 then(cnt (fun t=>atL a t∧atL b (t+lag)):Int) else 0
structure SdS(n:Nat)(a:wz2p):Prop where
 h:HSz a.History a.Spans
 v:Sz n a.Level
theorem jzl3{a b:wz2p}{n:Nat}(ha:SdS n a)(hb:SdS n b)(n1:1≤n)(hn:n≤33554432)(lag:Int):wz7s a b lag=some (bth a b lag,bthE a b lag):=by
 unfold wz7s bth bthE
 rw[jzlp ha.h ha.v n1 hn,jzlp hb.h hb.v n1 hn]
 simp only[bd_s]
 by_cases ea:levE a.History a.Spans a.Level=0
 ·rw[if_pos ea,if_pos ea,qzk5 rfl]
  by_cases eb:levE b.History b.Spans b.Level=0
  ·rw[if_pos eb,if_pos eb,qzk5 rfl]
   by_cases hl:lag < -1402560∨1402560<lag
   ·rw[it_t (by simpa using hl),if_pos hl,if_neg (by omega)]
   ·rw[it_f (by simp;omega),if_neg hl,if_pos rfl]
    have Ra:=(wz32 ha.h ea).1
    have Rb:=(wz32 hb.h eb).1
    obtain⟨a1,a2⟩:=jzl0 Ra (rq a.Level)
    obtain⟨b1,b2⟩:=jzl0 Rb (rq b.Level)
    have la:=jzlm (lv:=rq a.Level) (P:=prs a.History a.Spans) _ (Nat.le_refl _)
    have lb:=jzlm (lv:=rq b.Level) (P:=prs b.History b.Spans) _ (Nat.le_refl _)
    rw[List.take_length]at la lb
    rw[jzmc a1 b1 (by omega) (Nat.le_trans la Ra.prs) (Nat.le_trans lb Rb.prs)]
    simp only[bd_s]
    rw[jzlj (q:=fun t=>atL a t∧atL b (t+lag)) fun t _ _=>⟨fun h=>⟨(a2 t).1 h.1,(b2 _).1 h.2⟩,fun h=>⟨(a2 t).2 h.1,(b2 _).2 h.2⟩⟩]
  ·rw[if_neg eb,if_neg eb,qzhj eb,if_neg eb]
 ·rw[if_neg ea,if_neg ea,qzhj ea,if_neg ea]
theorem jzlu{h:wz2c}{l:List wz2b}{s:wz2b}(hs:s∈l){t:Int}(ht:inS s t):(t,flw s.Curve (stg h t+s.Datum))∈prs h l :=
 List.mem_flatMap.2 ⟨s,hs,List.mem_map.2 ⟨t,jzbw.2 ht,rfl⟩⟩
theorem jzl1{a:wz2p}(H:LevR a.History a.Spans){s:wz2b}(hs:s∈a.Spans){t:Int}(ht:inS s t):atL a t↔rq a.Level≤rq (flw s.Curve (stg a.History t+s.Datum)):=by
 constructor
 ·rintro⟨p,hp,rfl,hv⟩
  have e1:=jzf5 H hp
  rw[jzg3 H hs ht]at e1
  have e1:=Option.some.inj e1
  rw[e1];exact hv
 ·intro h
  exact⟨_,jzlu hs ht,rfl,h⟩
end Go.Am

namespace Go.Am
theorem jznz(p q:Int→Prop):cnt p+cnt q=cnt (fun t=>p t∨q t)+cnt (fun t=>p t∧q t):=by
 unfold cnt cnN
 generalize List.range bigN=L
 induction L with
 |nil=>rfl
 |cons i L ih =>
  dsimp only at ih ⊢
  rw[List.countP_cons,List.countP_cons,List.countP_cons,List.countP_cons]
  by_cases h1:p (i:Int)
  ·by_cases h2:q (i:Int)
   ·rw[dc_t h1,dc_t h2,dc_t (.inl h1),dc_t ⟨h1,h2⟩];simp only[if_pos];omega
   ·rw[dc_t h1,dc_f h2,dc_t (.inl h1),dc_f (fun e=>h2 e.2)];simp only[if_pos,Bool.false_eq_true,if_false];omega
  ·by_cases h2:q (i:Int)
   ·rw[dc_f h1,dc_t h2,dc_t (.inr h2),dc_f (fun e=>h1 e.1)];simp only[if_pos,Bool.false_eq_true,if_false];omega
   ·rw[dc_f h1,dc_f h2,dc_f (fun e=>e.elim h1 h2),dc_f (fun e=>h1 e.1)];simp only[Bool.false_eq_true,if_false];omega
theorem jznt{p q:Int→Prop}(h:∀t:Int,p t→q t):cnt p≤cnt q:=by
 unfold cnt cnN
 exact List.countP_mono_left fun i _ e=>dc_t (h _ (jzlt.1 e))
theorem jzn0{T:List Int}(hr:T.Pairwise (· < ·))(hb:∀t,t∈T→0≤t∧t<1402560):cnt (fun t=>t∈T)=T.length:=by
 have:=jzme (q:=fun _=>True) hr hb
 rw[jzlj (p:=fun t=>t∈T) (q:=fun t=>t∈T∧True) fun t _ _=>⟨fun h=>⟨h,trivial⟩,fun h=>h.1⟩,←this]
 exact List.countP_eq_length.2 fun t _=>dc_t trivial
theorem jznu{p q:Int→Prop}{T:List Int}{lag:Int}(hr:T.Pairwise (· < ·))(hb:∀t,t∈T→0≤t∧t<1402560)(hp:∀t,p t→t∈T)(hq:∀t,q t→0≤t∧t<1402560):cnt (fun t=>p t∧q (t+lag))=cnt (fun u=>q u∧p (u+-lag)):=by
 have e1:cnt (fun t=>p t∧q (t+lag))=T.countP (fun t=>dc (p t∧q (t+lag))):=by
  rw[jzme (q:=fun t=>p t∧q (t+lag)) hr hb]
  exact jzlj fun t _ _=>⟨fun h=>⟨hp t h.1,h⟩,fun h=>h.2⟩
 let r:Int→Bool:=fun t=>decide (0≤t+lag∧t+lag<1402560)
 let T':=(T.filter r).map (·+lag)
 have hr':T'.Pairwise (· < ·):=by
  show((T.filter r).map (·+lag)).Pairwise (· < ·)
  rw[List.pairwise_map]
  exact(hr.filter _).imp fun h=>by omega
 have hb':∀t,t∈T'→0≤t∧t<1402560:=by
  intro t ht
  obtain⟨x,hx,rfl⟩:=List.mem_map.1 ht
  exact of_decide_eq_true (List.mem_filter.1 hx).2
 have e2:cnt (fun u=>q u∧p (u+-lag))=T'.countP (fun u=>dc (q u∧p (u+-lag))):=by
  rw[jzme (q:=fun u=>q u∧p (u+-lag)) hr' hb']
  refine jzlj fun t _ _=>⟨fun h=>⟨?_,h⟩,fun h=>h.2⟩
  refine List.mem_map.2 ⟨t+-lag,List.mem_filter.2 ⟨hp _ h.2,decide_eq_true ?_⟩,by omega⟩
  have:=hq t h.1
  omega
 rw[e1,e2]
 show _=((T.filter r).map (·+lag)).countP _
 rw[List.countP_map,List.countP_filter]
 refine List.countP_congr fun t ht=>?_
 rw[jzlt,Bool.and_eq_true]
 show _↔dc (q (t+lag)∧p (t+lag+-lag))=true∧r t=true
 rw[jzlt,show t+lag+-lag=t by omega]
 constructor
 ·intro h
  exact⟨⟨h.2,h.1⟩,decide_eq_true (hq _ h.2)⟩
 ·intro h
  exact⟨h.1.2,h.1.1⟩
theorem jznl{h:wz2c}{l:List wz2b}(H:LevR h l):∀t,t∈tks l→0≤t∧t<1402560:=by
 intro t ht
 obtain⟨s,hs,ht⟩:=List.mem_flatMap.1 ht
 have r:=H.span s hs
 have:=jzbw.1 ht
 obtain⟨r1,r2,r3,_⟩:=r
 omega
theorem jzns{a:wz2p}{t:Int}(h:atL a t):t∈tks a.Spans:=by
 obtain⟨p,hp,rfl,_⟩:=h
 rw[←wz9c a.History];exact List.mem_map.2 ⟨p,hp,rfl⟩
theorem jznv{a:wz2p}(H:LevR a.History a.Spans):abv (rq a.Level) (flws a.History a.Spans)=cnt (atL a):=by
 have e1:cnt (atL a)=(tks a.Spans).countP (fun t=>dc (atL a t)):=by
  rw[jzme (q:=atL a) (jzl2 H) (jznl H)]
  exact jzlj fun t _ _=>⟨fun h=>⟨jzns h,h⟩,fun h=>h.2⟩
 rw[e1,←wz9c a.History,List.countP_map]
 unfold abv flws
 rw[List.countP_map]
 refine List.countP_congr fun p hp=>?_
 show decide (rq a.Level≤rq p.2)=true↔dc (atL a p.1)=true
 rw[decide_eq_true_eq,jzlt]
 obtain⟨s,hs,hi,e⟩:=jzgz hp
 rw[jzl1 H hs hi,e]
def mOf(T:List Int):List (Int×Bool):=T.foldl (fun m t=>mput keqI m t true) []
theorem jznw(T:List Int)(t:Int):mOf (T++[t])=mput keqI (mOf T) t true:=by unfold mOf;rw[List.foldl_append];rfl
theorem jznx(a b:Int):keqI a b=decide (a=b):=rfl
theorem jzny:∀(n:Nat) (T:List Int),T.length=n→T.Pairwise (· < ·)→(∀x,mget keqI (mOf T) x=if x∈T then some true else none)∧(mOf T).map (·.1)=T:=by
 intro n
 induction n with
 |zero=>intro T hT _;rw[List.length_eq_zero_iff]at hT;subst hT;exact⟨fun x=>by simp[mOf,mget],rfl⟩
 |succ n ih =>
  intro T hT hr
  have hne:T≠[]:=fun e=>by rw[e]at hT;cases hT
  have e:=(List.dropLast_concat_getLast hne).symm
  generalize T.getLast hne=t at e
  have hl:T.dropLast.length=n:=by rw[List.length_dropLast];omega
  generalize T.dropLast=D at *
  subst e
  obtain⟨r1,r2,r3⟩:=List.pairwise_append.1 hr
  obtain⟨i1,i2⟩:=ih D hl r1
  have hn:t∉D:=fun h=>by have:=r3 t h t (by simp);omega
  rw[jznw]
  refine⟨fun x=>?_,?_⟩
  ·rw[wz9r jznx,i1]
   by_cases h:x=t
   ·subst h;simp
   ·rw[if_neg h];simp[h]
  ·rw[wz7m jznx,i2,if_neg hn]
theorem jzn2{h:wz2c}{b:wz2p}(H:LevR b.History b.Spans):lp (jznn b) (0,[])=some (mOf (tks b.Spans)):=by
 have hl:=H.len
 rw[wz69 (l:=b.Spans) (fun k=>((k:Int),mOf (tks (b.Spans.take k)))) (by omega) (o:=mOf (tks b.Spans)) ?_ ?_ ?_]
 ·intro k s hs
  have hk:=(List.getElem?_eq_some_iff.1 hs).1
  obtain⟨r1,r2,r3,_⟩:=H.span s (List.mem_of_getElem? hs)
  have e1:=jze2 hs
  simp only[jznn]
  rw[it_d (by omega),at_e rfl hs]
  simp only[bd_s]
  rw[jzct (fun i=>(s.From+(i:Int),mOf (tks (b.Spans.take k)++(spt s).take i))) (s.To-s.From).toNat (by omega) (o:=mOf (tks (b.Spans.take k)++spt s)) ?_ ?_ (by simp)]
  ·simp only[bd_s]
   rw[qz3 (by omega),←e1]
   rfl
  ·intro i hi
   simp only[jznp]
   have e3:=jzlb (jzd7 hi)
   rw[it_d (by omega),qz3 (by omega),e3,←List.append_assoc,jznw,show s.From+((i+1:Nat):Int)=s.From+(i:Int)+1 by omega]
  ·simp only[jznp]
   rw[it_n (by omega)]
   rw[List.take_of_length_le (l:=spt s) (by rw[wz6i];omega)]
 ·simp only[jznn]
  rw[it_n (by omega),List.take_length]
 ·rfl
theorem jzn3{a:wz2p}(H:LevR a.History a.Spans){lag:Int}(hlag:-32768≤lag∧lag≤32767){T:List Int}(hT:T.Pairwise (· < ·)):∃o,lp (jzno a lag (mOf T)) 0=some o∧((o=.inl ()∧∀t,t∈tks a.Spans→t+lag∈T)∨o=.inr true):=by
 have hl:=H.len
 obtain⟨i1,i2⟩:=jzny _ T rfl hT
 refine vzf (s:=(0:Int)) (body:=jzno a lag (mOf T)) (fun z=>∃k:Nat,z=(k:Int)∧k≤a.Spans.length∧∀t,t∈tks (a.Spans.take k)→t+lag∈T) (fun z=>(a.Spans.length-z).toNat) (fun o=>(o=.inl ()∧∀t,t∈tks a.Spans→t+lag∈T)∨o=.inr true) ?_ ⟨0,rfl,Nat.zero_le _,fun t ht=>by simp[tks]at ht⟩ (by omega)
 rintro z ⟨k,rfl,hk,hall⟩
 simp only[jzno]
 by_cases hlt:k<a.Spans.length
 ·have hs:=List.getElem?_eq_getElem hlt
  obtain⟨r1,r2,r3,_⟩:=H.span _ (List.getElem_mem hlt)
  have e1:=jze2 hs
  generalize a.Spans[k]=s at *
  rw[it_d (by omega),at_e rfl hs]
  simp only[bd_s]
  obtain⟨o,eo,ho⟩:=vzf (s:=s.From) (body:=jznq lag (mOf T) s) (fun z=>∃i:Nat,z=s.From+(i:Int)∧i≤(s.To-s.From).toNat∧∀t,s.From≤t→t<s.From+(i:Int)→t+lag∈T) (fun z=>(s.To-z).toNat) (fun o=>(o=.inl ()∧∀t,t∈spt s→t+lag∈T)∨o=.inr true) (by
   rintro z ⟨i,rfl,hi,hin⟩
   simp only[jznq]
   by_cases hlt:i<(s.To-s.From).toNat
   ·rw[it_d (by omega),qz3 (by omega),qz3 (by omega),i1]
    by_cases hm:s.From+(i:Int)+lag∈T
    ·left
     rw[if_pos hm,show(!Option.getD (some true) false)=false from rfl,qzil,qz3 (by omega)]
     refine⟨_,rfl,⟨i+1,by omega,by omega,fun t h1 h2=>?_⟩,by omega⟩
     by_cases e:t=s.From+(i:Int)
     ·rw[e];exact hm
     ·exact hin t h1 (by omega)
    ·right
     rw[if_neg hm,show(!Option.getD (none:Option Bool) false)=true from rfl,wzdh,jzis]
     exact⟨_,rfl,.inr rfl⟩
   ·right
    rw[it_n (by omega)]
    refine⟨_,rfl,.inl ⟨rfl,fun t ht=>?_⟩⟩
    have:=jzbw.1 ht
    exact hin t this.1 (by omega)) ⟨0,by omega,Nat.zero_le _,fun t h1 h2=>by omega⟩ (by omega)
  rw[eo]
  simp only[bd_s]
  rcases ho with ⟨rfl,ho⟩|rfl
  ·left
   dsimp only
   rw[qz3 (by omega)]
   refine⟨_,rfl,⟨k+1,by simp,by omega,fun t ht=>?_⟩,by omega⟩
   rw[e1,List.mem_append]at ht
   exact ht.elim (hall t) (ho t)
  ·right
   exact⟨_,rfl,.inr rfl⟩
 ·right
  rw[it_n (by omega)]
  refine⟨_,rfl,.inl ⟨rfl,fun t ht=>hall t ?_⟩⟩
  rw[List.take_of_length_le (by omega)];exact ht
theorem jzn1{a0 b1:wz2p}(A:SdS 1048576 a0)(B:SdS 1048576 b1){lag2:Int}(hlag:-32768≤lag2∧lag2≤32767):jznr a0 b1 lag2=some true:=by
 unfold jznr
 rw[jzis]
 simp only[bd_s]
 by_cases hbig:200<(a0.History.Stages.length:Int)∨200<(b1.History.Stages.length:Int)∨20<(a0.Spans.length:Int)∨20<(b1.Spans.length:Int)
 ·rw[it_t (by rcases hbig with h|h|h|h<;>simp[h])]
 ·rw[it_f (by simp;omega)]
  rw[qz3 (by omega),jzl3 A B (by omega) (by omega),jzl3 B A (by omega) (by omega),jzbl A.h A.v (by omega) (by omega),jzbl B.h B.v (by omega) (by omega)]
  simp only[bd_s]
  rw[qz3 (by omega),qz3 (by omega)]
  by_cases ea:levE a0.History a0.Spans a0.Level=0
  ·by_cases eb:levE b1.History b1.Spans b1.Level=0
   ·have Ra:=(wz32 A.h ea).1
    have Rb:=(wz32 B.h eb).1
    have e1:bthE a0 b1 lag2=0:=by unfold bthE;rw[if_pos ea,if_pos eb,if_neg (by omega)]
    have e2:bthE b1 a0 (-lag2)=0:=by unfold bthE;rw[if_pos eb,if_pos ea,if_neg (by omega)]
    have hsh:=jznu (p:=atL a0) (q:=atL b1) (lag:=lag2) (jzl2 Ra) (jznl Ra) (fun t h=>jzns h) fun t h=>jznl Rb t (jzns h)
    have ha:=jznv Ra
    have hb:=jznv Rb
    have la:cnt (fun t=>atL a0 t∧atL b1 (t+lag2))≤cnt (atL a0):=jznt fun t h=>h.1
    have lb:cnt (fun t=>atL b1 t∧atL a0 (t+-lag2))≤cnt (atL b1):=jznt fun t h=>h.1
    have ca:=jzmh (atL a0)
    have cb:=jzmh (atL b1)
    unfold bth
    rw[e1,e2,if_pos ea,if_pos eb,if_pos rfl,if_pos rfl,ha,hb,hsh]
    rw[qzk5 rfl]
    rw[hsh]at la
    generalize hn:cnt (fun u=>atL b1 u∧atL a0 (u+-lag2))=n at *
    rw[it_f (by simp;omega)]
    rw[jzn2 (h:=b1.History) Rb]
    simp only[bd_s]
    obtain⟨o,eo,ho⟩:=jzn3 Ra hlag (jzl2 Rb)
    rw[eo]
    simp only[bd_s]
    rcases ho with ⟨rfl,hall⟩|rfl
    ·have hm:=(jzny _ (tks b1.Spans) rfl (jzl2 Rb)).2
     have hlen:(mOf (tks b1.Spans)).length=(tks b1.Spans).length:=by rw[←List.length_map (f:=(·.1)),hm]
     have hT:=Rb.tks
     dsimp only
     have i1:=jznz (fun u=>u∈tks b1.Spans∧atL a0 (u+-lag2)) (atL b1)
     have i2:=jznu (p:=atL a0) (q:=fun u=>u∈tks b1.Spans) (lag:=lag2) (jzl2 Ra) (jznl Ra) (fun t h=>jzns h) fun t h=>jznl Rb t h
     have i3:cnt (fun t=>atL a0 t∧t+lag2∈tks b1.Spans)=cnt (atL a0):=jzlj fun t _ _=>⟨fun h=>h.1,fun h=>⟨h,hall t (jzns h)⟩⟩
     have i4:cnt (fun u=>(u∈tks b1.Spans∧atL a0 (u+-lag2))∨atL b1 u)≤cnt (fun u=>u∈tks b1.Spans):=jznt fun u h=>h.elim (fun h=>h.1) fun h=>jzns h
     have i5:=jzn0 (jzl2 Rb) (jznl Rb)
     have i6:cnt (fun u=>(u∈tks b1.Spans∧atL a0 (u+-lag2))∧atL b1 u)=n:=by
      rw[←hn]
      exact jzlj fun u _ _=>⟨fun h=>⟨h.2,h.1.2⟩,fun h=>⟨⟨jzns h.1,h.2⟩,h.1⟩⟩
     rw[hlen,ck_t (by simp[inB];omega),ck_t (by simp[inB];omega)]
     rw[cond_true,decide_eq_true (by omega)]
    ·rfl
   ·have e1:bthE a0 b1 lag2=levE b1.History b1.Spans b1.Level:=by unfold bthE;rw[if_pos ea,if_neg eb]
    have e2:bthE b1 a0 (-lag2)=levE b1.History b1.Spans b1.Level:=by unfold bthE;rw[if_neg eb]
    rw[e1,e2,if_neg eb,qzhj eb]
    simp[eb]
  ·have e1:bthE a0 b1 lag2=levE a0.History a0.Spans a0.Level:=by unfold bthE;rw[if_neg ea]
   have e2:bthE b1 a0 (-lag2)≠0:=by
    unfold bthE
    by_cases eb:levE b1.History b1.Spans b1.Level=0
    ·rw[if_pos eb,if_neg ea];exact ea
    ·rw[if_neg eb];exact eb
   rw[e1,if_neg ea,qzhj ea]
   simp[ea,e2]
def cutS(a b:Int)(s:wz2b):Option wz2b:=if max s.From a<min s.To b then some ⟨max s.From a,min s.To b,s.Weight,s.Datum,s.Curve⟩ else none
def cutL(a b:Int)(l:List wz2b):List wz2b:=l.filterMap (cutS a b)
theorem jzmw{a b:Int}{s z:wz2b}(h:cutS a b s=some z):max s.From a<min s.To b∧z=⟨max s.From a,min s.To b,s.Weight,s.Datum,s.Curve⟩:=by
 unfold cutS at h
 split at h
 ·rename_i p;exact⟨p,by cases h;rfl⟩
 ·cases h
theorem jznc(a b:Int)(l:List wz2b):(cutL a b l).length≤l.length:=List.length_filterMap_le _ _
theorem jzm3{a b:Int}{l:List wz2b}{z:wz2b}:z∈cutL a b l↔∃s,s∈l∧cutS a b s=some z:=by unfold cutL;rw[List.mem_filterMap]
theorem LevR.pw{h:wz2c}{l:List wz2b}(H:LevR h l):l.Pairwise fun a b=>a.To≤b.From:=by
 rw[List.pairwise_iff_getElem]
 intro i j hi hj hij
 exact H.far i j hj hij
theorem LevR.cut{h:wz2c}{l:List wz2b}(R:LevR h l)(a b:Int):LevR h (cutL a b l):=by
 have hp:(cutL a b l).Pairwise fun a b=>a.To≤b.From:=by
  unfold cutL
  rw[List.pairwise_filterMap]
  refine R.pw.imp fun {s z} h x hx y hy=>?_
  obtain⟨h1,rfl⟩:=jzmw hx
  obtain⟨h2,rfl⟩:=jzmw hy
  dsimp only
  omega
 have hl:=jznc a b l
 have hln:=R.len
 refine⟨⟨⟨by omega,fun z hz=>?_⟩,R.sz.n⟩,R.his,by omega,fun z hz=>?_,fun k hk=>?_,fun z hz=>?_⟩
 ·obtain⟨s,hs,e⟩:=jzm3.1 hz
  obtain⟨h1,rfl⟩:=jzmw e
  have:=R.sz.l.sz s hs
  exact⟨this.c,this.w⟩
 ·obtain⟨s,hs,e⟩:=jzm3.1 hz
  obtain⟨h1,rfl⟩:=jzmw e
  obtain⟨r1,r2,r3,r4,r5,r6,r7⟩:=R.span s hs
  refine⟨?_,h1,?_,r4,r5,r6,r7⟩<;>dsimp only<;>omega
 ·exact List.pairwise_iff_getElem.1 hp k (k+1) (by omega) hk (by omega)
 ·obtain⟨s,hs,e⟩:=jzm3.1 hz
  obtain⟨h1,rfl⟩:=jzmw e
  have:=R.gap s hs
  dsimp only
  omega
end Go.Am

