/- Part V1: the mathematics of flows and levels. No condition. -/
import Derived.Test.YtomegmhiddbmbaaGreatDoorR2
set_option linter.unusedSimpArgs false
set_option linter.unusedVariables false
namespace Go.Am
section
variable {U ω O:Type}
def scan(f:Nat->U->Option ω):Nat->List U->Option ω
 |_,[]=>none
 |k,x :: l=>match f k x with
  |some o=>some o
  |none=>scan f (k+1) l
theorem Uw{f:Nat->U->Option ω}:∀(k:Nat) (l:List U),scan f k l=none->∀i x,l[i]?=some x->f (k+i) x=none
 |k,[],_,i,x,h=>by simp at h
 |k,y :: l,e,i,x,h=>by
  unfold scan at e;split at e
  ·cases e
  ·rename_i e1;cases i with
   |zero=>simp at h;subst h;exact e1
   |succ i=>have:=Uw (k+1) l e i x (by simpa using h);rwa [show k+(i+1)=k+1+i by omega]
theorem PT{f:Nat->U->Option ω}:∀(k:Nat) (l:List U),(∀i x,l[i]?=some x->f (k+i) x=none)->scan f k l=none
 |k,[],_=>rfl
 |k,y :: l,e=>by unfold scan;rw[show f k y=none from e 0 y rfl];exact PT (k+1) l fun i x h=>by have:=e (i+1) x (by simpa using h);rwa [show k+(i+1)=k+1+i by omega]at this
theorem jzdu{f:Nat->U->Option ω}{l:List U}{k:Nat}{x:U}(h:l[k]?=some x):scan f k (l.drop k)=(match f k x with
  |some o=>some o
  | none=>scan f (k+1) (l.drop (k+1))):=by
 obtain⟨hk,rfl⟩:=AU.1 h;rw[Nt hk];rfl
def sOut:Option ω->Unit⊕ω
 |some o=>.inr o
 |none=>.inl ()
theorem jzak{body:O->Option (O⊕(Unit⊕ω))}{l:List U}(st:Nat->O)(f:Nat->U->Option ω)(hl:l.length<=1000000000)(hs:∀(k:Nat) (x:U),l[k]?=some x->body (st k)=some (match f k x with | some o=>.inr (.inr o) | none=>.inl (st (k+1)))) (he:body (st l.length)=some (.inr (.inl ()))) {s:O} (h0:s=st 0):lp body s=some (sOut (scan f 0 l)):=by
 obtain⟨o,e,ho⟩:=YZ (body:=body) st (fun k=>k<=l.length/\scan f 0 l=scan f k (l.drop k)) (fun k=>l.length-k) (fun o=>o=sOut (scan f 0 l)) (by
  rintro k ⟨hk,fg⟩;by_cases hlt:k<l.length
  ·have hx:=AG hlt;have h1:=hs k _ hx;have h2:=jzdu (f:=f) hx;cases hf:f k l[k] with
   |some o =>right;rw[hf]at h1 h2;exact⟨_,h1,by rw[fg,h2];rfl⟩
   |none =>left;rw[hf]at h1 h2;exact⟨k+1,h1,⟨hlt,fg.trans h2⟩,by omega⟩
  ·right;have:k=l.length:=by omega
   subst this;refine⟨_,he,?_⟩;rw[fg,List.drop_length];rfl) 0 h0 ⟨Fv _,rfl⟩ (by omega)
 rw[e,ho]
theorem PU{body:Int->Option (Int⊕(Unit⊕ω))}{l:List U}(f:Nat->U->Option ω)(hl:l.length<=1000000000)(hs:∀(k:Nat) (x:U),l[k]?=some x->body (k:Int)=some (match f k x with | some o=>.inr (.inr o) | none=>.inl ((k:Int)+1))) (he:body (l.length:Int)=some (.inr (.inl ()))):lp body 0=some (sOut (scan f 0 l)) :=
 jzak (fun k=>(k:Int)) f hl (fun k x h=>by rw[hs k x h];cases f k x<;>rfl) he rfl
end
structure CSz(c:AK):Prop where
 len:c.Points.length<=1048576
 sz:∀p,p∈c.Points->Sz 1048576 p.Flow
noncomputable def crvF(l:List AN)(k:Nat)(p:AN):Option Int :=
 if p.Stage < -1000\/2000<p.Stage then some 3 else if ¬Vd p.Flow\/p.Flow.Neg=true then some 1
 else if 0<k/\(p.Stage<=(l.getD (k-1) default).Stage\/rq p.Flow<rq (l.getD (k-1) default).Flow) then some 1 else none
noncomputable def JP(c:AK):Int:=if c.Points.length<1\/16<c.Points.length then 2 else(scan (crvF c.Points) 0 c.Points).getD 0
theorem PW{o:Option Int}{z:Int}:(match sOut o with | .inl ()=>some z | .inr o=>some o)=some (o.getD z):=by cases o<;>rfl
theorem wz9f{U:Type}[Inhabited U]{l:List U}{k:Nat}{x:U}(h:l[k]?=some x)(h0:0<k):at? l ((k:Int)-1)=some (l.getD (k-1) default):=by
 have hk:=(AU.1 h).1;have h1:k-1<l.length:=by omega
 rw[at_e (n:=k-1) (by omega) (AG h1)];simp[List.getD,h1]
theorem jzay{U:Type}[Inhabited U]{l:List U}{k:Nat}{x:U}(h:l[k]?=some x)(h0:0<k):l.getD (k-1) default∈l:=by
 have hk:=(AU.1 h).1;have h1:k-1<l.length:=by omega
 simp[List.getD,h1]
theorem Np{p q:Rat}:cmpQ p q<0↔p<q:=by
 unfold cmpQ;split
 ·simp[*]
 ·split<;>simp[*]
theorem wz7j{c:AK}(h:CSz c):Mx c=some (JP c):=by
 unfold Mx JP;by_cases h1:c.Points.length<1
 ·rw[it_t (by simp;omega),Aq (.inl h1)]
 by_cases h2:16<c.Points.length
 ·rw[it_t (by simp;omega),Aq (.inr h2)]
 rw[it_f (by simp;omega),Ak (by omega)];rw[PU (l:=c.Points) (crvF c.Points) (by omega) ?_ ?_]
 ·simp only[Af];exact PW
 ·intro k p hp;have hk:=(AU.1 hp).1;have hm:=BH hp;have hz:=h.sz p hm;simp only[RW];rw[it_d (by omega),at_e rfl hp];simp only[Af,R3,crvF];by_cases p1:p.Stage < -1000\/2000<p.Stage
  ·rw[Aq p1,it_t (by rcases p1 with p1|p1<;>simp<;>omega)]
  rw[Ak p1,it_f (by simp;omega)];simp only[RO];rw[Pc (hz.mono (by omega))];simp only[Af];by_cases p2:¬Vd p.Flow\/p.Flow.Neg=true
  ·rw[Aq p2,it_t (by rcases p2 with p2|p2<;>simp[p2])]
  rw[Ak p2];have p3:Vd p.Flow:=Decidable.byContradiction fun e=>p2 (.inl e);have p4:p.Flow.Neg=false:=by simpa using fun e=>p2 (.inr e)
  rw[it_f (by simp[p3,p4])];by_cases h0:k=0
  ·subst h0;rw[ck_t (by simp),show decide ((0:Int)<((0:Nat):Int))=false by simp];simp only[Bool.false_and,FJ,Af];rw[ck_t (by simp),Ak (by omega),it_f (by simp),AF (by omega)]
  have h0:0<k:=by omega
  rw[ck_t (by simp[A0];omega),show decide ((0:Int)<(k:Int))=true by simp;omega];simp only[Gau,Dq];rw[wz9f hp h0];simp only[Af];have hq:=h.sz _ (jzay hp h0);generalize c.Points.getD (k-1) default=q at *;rw[ck_t (by simp[A0];omega)];by_cases p5:p.Stage<=q.Stage
  ·rw[show decide (p.Stage<=q.Stage)=true by simp[p5]];simp only[Ql,FJ,Af];rw[Aq ⟨h0,.inl p5⟩,it_t (by simp)]
  ·rw[show decide (p.Stage<=q.Stage)=false by simp[p5]];simp only[UG,Dq,Af];rw[N3 hz hq (by omega) (by omega) (by omega) (by omega)];simp only[Af];by_cases p6:rq p.Flow<rq q.Flow
   ·rw[Aq ⟨h0,.inr p6⟩,it_t (by simp[Np,p6])]
   ·rw[Ak (by simp[p5,p6]),it_f (by simp[Np,p6]),AF (by omega)]
 ·simp only[RW];rw[it_n (by omega)]
structure SSz(s:Aj):Prop where
 c:CSz s.Curve
 w:Sz 1048576 s.Weight
structure LSz(l:List Aj):Prop where
 len:l.length<=1048576
 sz:∀s,s∈l->SSz s
def FS(s:Aj):Prop:=0<=s.From/\s.From<s.To/\s.To<=1402560/\-1000<=s.Datum/\s.Datum<=1000/\Vd s.Weight/\JP s.Curve=0
noncomputable instance(s:Aj):Decidable (FS s):=inferInstanceAs (Decidable (_/\_))
noncomputable def spnF(l:List Aj)(k:Nat)(s:Aj):Option Int:=if FS s/\(0<k->(l.getD (k-1) default).To<=s.From) then none else some 1
noncomputable def FT(l:List Aj):Int:=if 400<l.length then 2 else(scan (spnF l) 0 l).getD 0
theorem jzbf{s:Aj}(h:SSz s):O7 s=some (decide (FS s)):=by
 unfold O7;by_cases p:s.From<0\/s.To<=s.From\/1402560<s.To\/s.Datum < -1000\/1000<s.Datum
 ·rw[it_t (by rcases p with p|p|p|p|p<;>simp[p])];rw[BE (fun e=>by unfold FS at e;omega)]
 ·rw[it_f (by simp;omega),Pc (h.w.mono (by omega))];simp only[Af];by_cases p2:Vd s.Weight
  ·rw[Bt p2,Dq,wz7j h.c];simp only[Af,I0];congr 1;refine decide_eq_decide.2 ⟨fun e=>⟨by omega,by omega,by omega,by omega,by omega,p2,e⟩,fun e=>e.2.2.2.2.2.2⟩
  ·rw[BE p2,FJ];simp only[Af,Iz];rw[BE (fun e=>p2 e.2.2.2.2.2.1)]
theorem jzbd{l:List Aj}(h:LSz l):FI l=some (FT l):=by
 unfold FI FT;by_cases h1:400<l.length
 ·rw[it_d (by omega),Aq h1]
 rw[it_n (by omega),Ak h1];rw[jzak (l:=l) (fun k=>(if k=0 then 0 else(l.getD (k-1) default).To,(k:Int))) (spnF l) (by omega) ?_ ?_ (by simp)]
 ·simp only[Af];exact PW
 ·intro k s hs;have hk:=(AU.1 hs).1;have hz:=h.sz s (BH hs);simp only[RX];rw[it_d (by omega),at_e rfl hs];simp only[Af];rw[jzbf hz];simp only[Af];by_cases p:FS s
  ·have p0:=p.1;by_cases p2:0<k->(l.getD (k-1) default).To<=s.From
   ·have e1:spnF l k s=none:=Aq ⟨p,p2⟩;rw[e1,it_f,AF (by omega)]
    ·simp[hs]
    ·rw[Bt p];by_cases h0:k=0
     ·simp[h0];omega
     ·rw[Ak h0];have:=p2 (by omega);simp only[Ql,Iz];exact BE (by omega)
   ·have e1:spnF l k s=some 1:=Ak (fun e=>p2 e.2);rw[e1,it_t];rw[Bt p];have h0:¬k=0:=fun e=>p2 (fun h=>by omega);rw[Ak h0];simp only[Ql,Iz];refine Bt (Int.not_le.1 fun e=>p2 fun _=>e)
  ·have e1:spnF l k s=some 1:=Ak (fun e=>p e.1);rw[e1,it_t (by simp[p])]
 ·simp only[RX];rw[it_n (by omega)]
def hisR(h:Au):Prop:=0<=h.From/\h.Stages.length<=40000/\h.From<=1402560-(h.Stages.length:Int)/\∀s,s∈h.Stages->0<=s/\s<=1000
instance (h:Au):Decidable (hisR h):=inferInstanceAs (Decidable (_/\_))
theorem wz9v{l:List Int}{g:Int->Option Bool}(hl:l.length<=1048576)(p:Int->Bool)(hg:∀s,s∈l->g s=some (p s)):Om l g=some ((scan (fun k s=>if p s then some (k:Int) else none) 0 l).getD (-1)):=by
 unfold Om;rw[PU (l:=l) (fun k s=>if p s then some (k:Int) else none) (by omega) ?_ ?_]
 ·simp only[Af];exact PW
 ·intro k s hs;have hk:=(AU.1 hs).1;simp only[R0];rw[it_d (by omega),at_e rfl hs];simp only[Af];rw[hg s (BH hs)];simp only[Af];cases p s with
  |true=>rw[YY];rfl
  |false=>rw[FK,AF (by omega)];rfl
 ·simp only[R0];rw[it_n (by omega)]
theorem Ux{p:Int->Bool}:∀(l:List Int) (k:Nat),(0<=(scan (fun k s=>if p s then some (k:Int) else none) k l).getD (-1))↔∃s,s∈l/\p s=true
 |[],k=>by simp[scan]
 |x :: l,k=>by
  have:=Ux (p:=p) l (k+1);unfold scan;by_cases h:p x=true
  ·simp[h]
  ·have h':p x=false:=by simpa using h
   simp only[h',Iq,Df,this,AM,exists_eq_or_imp,false_or]
theorem wz9u{h:Au}(hl:h.Stages.length<=1048576):Ox h=some (decide (hisR h)):=by
 unfold Ox;by_cases p1:0<=h.From/\h.Stages.length<=40000
 ·rw[show(bif decide (0<=h.From) then decide ((h.Stages.length:Int)<=40000) else false)=true by simp;omega];rw[ck_t (by simp[A0];omega)];simp only[I0];by_cases p2:h.From<=1402560-(h.Stages.length:Int)
  ·rw[Bt p2,Dq];unfold Yx;rw[wz9v (g:=fun a0=>Ry a0) hl (fun s=>bif decide (s<0) then true else decide (1000<s)) (fun s _=>rfl)];simp only[Af,I0];congr 1;rw[Gal,GV,decide_eq_false_iff_not,CO,Ux];constructor
   ·intro e;refine⟨p1.1,p1.2,p2,fun s hs=>?_⟩;refine Decidable.byContradiction fun e2=>e ⟨s,hs,?_⟩;simp;omega
   ·rintro⟨_,_,_,e⟩ ⟨s,hs,e2⟩;have:=e s hs;simp at e2;omega
  ·rw[BE p2,FJ];simp only[Af,Iz];rw[BE (fun e=>p2 e.2.2.1)]
 ·rw[show(bif decide (0<=h.From) then decide ((h.Stages.length:Int)<=40000) else false)=false by simp;omega];rw[ck_t (by simp)];simp only[Iz,FJ,Af];rw[BE (fun e=>p1 ⟨e.1,e.2.1⟩)]
noncomputable def gapF(h:Au)(k:Nat)(s:Aj):Option Int:=if s.From<h.From\/h.From+(h.Stages.length:Int)<s.To then some 19 else none
noncomputable def levE(h:Au)(l:List Aj)(lv:Ag):Int :=
 if FT l≠0 then FT l else if ¬hisR h then 1 else(scan (gapF h) 0 l).getD (if Vd lv then 0 else 1)
structure HSz(h:Au)(l:List Aj):Prop where
 l:LSz l
 n:h.Stages.length<=1048576
theorem PX{h:Au}{l:List Aj}{lv:Ag}(H:HSz h l)(hv:Sz 8589934592 lv):G3 h l lv=some (levE h l lv):=by
 unfold G3 levE;rw[jzbd H.l];simp only[Af];by_cases p1:FT l=0
 ·rw[CG p1,Ak (by simpa using p1),wz9u H.n];simp only[Af];by_cases p2:hisR h
  ·rw[CG p2,Ak (by simpa using p2)];rw[PU (l:=l) (gapF h) (by have:=H.l.len;omega) ?_ ?_]
   ·simp only[Af];cases scan (gapF h) 0 l with
    |some o=>rfl
    |none =>
     simp only[sOut,Option.getD_none];rw[Pc hv];simp only[Af];by_cases p3:Vd lv
     ·rw[CG p3,Aq p3]
     ·rw[CY p3,Ak p3]
   ·intro k s hs;have hk:=(AU.1 hs).1;have hl:=H.l.len;have q:=p2;obtain⟨q1,q2,q3,_⟩:=q;simp only[Sa];rw[it_d (by omega),at_e rfl hs];simp only[Af,gapF];rw[ck_t (by simp[A0];omega)];by_cases p4:s.From<h.From\/h.From+(h.Stages.length:Int)<s.To
    ·rw[Aq p4,it_t (by rcases p4 with p4|p4<;>simp[p4])]
    ·rw[Ak p4,it_f (by simp;omega),AF (by omega)]
   ·simp only[Sa];rw[it_n (by omega)]
  ·rw[CY p2,Aq p2]
 ·rw[CY p1,Aq p1]
structure CrvR(c:AK):Prop where
 sz:CSz c
 pos:0<c.Points.length
 len:c.Points.length<=16
 st:∀p,p∈c.Points->-1000<=p.Stage/\p.Stage<=2000
 vd:∀p,p∈c.Points->Vd p.Flow
 asc:∀k (h:k+1<c.Points.length),c.Points[k].Stage<c.Points[k+1].Stage
theorem PY{c:AK}(h:CSz c)(e:JP c=0):CrvR c:=by
 unfold JP at e;split at e
 ·cases e
 ·rename_i hl
  have fg:scan (crvF c.Points) 0 c.Points=none:=by
   cases hs:scan (crvF c.Points) 0 c.Points with
   |none=>rfl
   |some o =>
    rw[hs]at e;have e:o=0:=e;subst e
    have:∀(k:Nat) (l:List AN),scan (crvF c.Points) k l=some 0->False:=by
     intro k l;induction l generalizing k with
     |nil=>intro e;cases e
     |cons x l ih =>
      intro e;unfold scan at e;split at e
      ·rename_i o ho;cases e;unfold crvF at ho;split at ho
       ·cases ho
       ·split at ho;·cases ho
        ·split at ho<;>cases ho
      ·exact ih _ e
    exact(this _ _ hs).elim
  have at':∀i (hi:i<c.Points.length),crvF c.Points i c.Points[i]=none:=fun i hi=>by
   have:=Uw _ _ fg i _ (AG hi)
   rwa [Dj]at this
  have key:∀i (hi:i<c.Points.length),(-1000<=c.Points[i].Stage/\c.Points[i].Stage<=2000)/\Vd c.Points[i].Flow/\(0<i->¬c.Points[i].Stage<=(c.Points.getD (i-1) default).Stage):=fun i hi=>by
   have:=at' i hi;unfold crvF at this;split at this
   ·cases this
   ·rename_i h1;split at this
    ·cases this
    ·rename_i h2;split at this
     ·cases this
     ·rename_i h3;exact⟨by omega,Decidable.byContradiction fun e=>h2 (.inl e),fun h0 h4=>h3 ⟨h0,.inl h4⟩⟩
  refine⟨h,by omega,by omega,fun p hp=>?_,fun p hp=>?_,fun k hk=>?_⟩
  ·obtain⟨i,hi,rfl⟩:=N7 hp;exact(key i hi).1
  ·obtain⟨i,hi,rfl⟩:=N7 hp;exact(key i hi).2.1
  ·have:=(key (k+1) hk).2.2 (by omega);simp[List.getD,show k<c.Points.length by omega]at this;exact this
theorem jzd5{n d:Int}(h1:-999999999999999<=n)(h2:n<=999999999999999)(h3:-999999999999999<=d)(h4:d<=999999999999999)(h0:d≠0):RN n d=some ⟨rof ((n:Rat) / (d:Rat)),0⟩:=by
 unfold RN;rw[Z3 h1 h2,Z3 h3 h4];simp only[Af];rw[it_f (show(bif !true then true else !true)=false from rfl),it_n h0,Z4 h1 h2,Z4 h3 h4];simp only[Af];have e1:sv (bs d.natAbs)≠0:=by rw[AQ];omega
 rw[MK (Bg (SO (by omega)) (by omega)) (Bg (SO (by omega)) (by omega)) e1];simp only[Af,AQ];rw[<-SN n,<-SN d,jzh1 _ _ (by omega) (by omega),Nat.mul_one,Nat.one_mul];rfl
structure Nx(l:List AN)(s:Int)(n:Nat):Prop where
 le:n<=l.length
 lo:∀k (h:k<l.length),k<n->l[k].Stage<=s
 hi:∀k (h:k<l.length),n<=k->s<l[k].Stage
theorem Nx.uniq{l:List AN}{s:Int}{n m:Nat}(h:Nx l s n)(k:Nx l s m):n=m:=by
 rcases Nat.lt_trichotomy n m with e|e|e
 ·have:=h.hi n (by have:=k.le;omega) (AD _);have:=k.lo n (by have:=k.le;omega) e;omega
 ·exact e
 ·have:=k.hi m (by have:=h.le;omega) (AD _);have:=h.lo m (by have:=h.le;omega) e;omega
noncomputable def GQ(l:List AN)(s:Int)(n:Nat):Rat :=
 if n=0 then 0 else if n=l.length then rq (l.getD (n-1) default).Flow else
  rq (l.getD (n-1) default).Flow+(((s-(l.getD (n-1) default).Stage:Int):Rat) / (((l.getD n default).Stage-(l.getD (n-1) default).Stage:Int):Rat))*(rq (l.getD n default).Flow-rq (l.getD (n-1) default).Flow)
theorem Ft{U:Type}[Inhabited U]{l:List U}{k:Nat}(h:k<l.length):l.getD k default=l[k]:=by simp[List.getD,h]
theorem Uy{c:AK}(H:CrvR c):∀(j k:Nat) (hk:k<c.Points.length) (hj:j<k),(c.Points[j]'(by omega)).Stage<c.Points[k].Stage:=by
 intro j k hk hj;induction k with
 |zero=>omega
 |succ k ih =>
  have h1:=H.asc k hk;by_cases e:j=k
  ·subst e;exact h1
  ·exact Int.lt_trans (ih (by omega) (by omega)) h1
theorem wz8g{c:AK}(H:CrvR c){s:Int}(hs:-100000<=s/\s<=100000){n:Nat}(hn:Nx c.Points s n):Sz 4194304 (rof (GQ c.Points s n)) /\
  (0<n->n<c.Points.length->Mv (s-(c.Points.getD (n-1) default).Stage) ((c.Points.getD n default).Stage-(c.Points.getD (n-1) default).Stage)=some (rof (((s-(c.Points.getD (n-1) default).Stage:Int):Rat) / (((c.Points.getD n default).Stage-(c.Points.getD (n-1) default).Stage:Int):Rat)),0) /\
   RN (s-(c.Points.getD (n-1) default).Stage) ((c.Points.getD n default).Stage-(c.Points.getD (n-1) default).Stage)=some ⟨rof (((s-(c.Points.getD (n-1) default).Stage:Int):Rat) / (((c.Points.getD n default).Stage-(c.Points.getD (n-1) default).Stage:Int):Rat)),0⟩ /\
   ∀(x:Ag),x=rof (((s-(c.Points.getD (n-1) default).Stage:Int):Rat) / (((c.Points.getD n default).Stage-(c.Points.getD (n-1) default).Stage:Int):Rat)) -> (bd (Mw (c.Points.getD n default).Flow (c.Points.getD (n-1) default).Flow) fun r3=>bd (BC x r3) fun r4=>bd (Bv (c.Points.getD (n-1) default).Flow r4) fun r5=>some r5)=some (rof (GQ c.Points s n)) /\ ∀{β:Type} (K:Ag->Option β),(bd (RR (c.Points.getD n default).Flow (c.Points.getD (n-1) default).Flow) fun r3=>bd (RQ x r3) fun r4=>bd (O5 (c.Points.getD (n-1) default).Flow r4) fun r5=>K r5)=K (rof (GQ c.Points s n))):=by
 unfold GQ;have aD:=hn.le;by_cases h0:n=0
 ·rw[Aq h0];exact⟨Sz.zero _,fun h=>by omega⟩
 rw[Ak h0];have h1:n-1<c.Points.length:=by omega
 have hp:c.Points.getD (n-1) default∈c.Points:=by rw[Ft h1];exact GW h1
 have s1:=(H.sz.sz _ hp);by_cases h2:n=c.Points.length
 ·rw[Aq h2];refine⟨(Jr s1).mono (by omega),fun _ h=>by omega⟩
 rw[Ak h2];have h3:n<c.Points.length:=by omega
 have hq:c.Points.getD n default∈c.Points:=by rw[Ft h3];exact GW h3
 have s2:=(H.sz.sz _ hq);have t1:=H.st _ hp;have t2:=H.st _ hq;have t3:(c.Points.getD (n-1) default).Stage<(c.Points.getD n default).Stage:=by rw[Ft h1,Ft h3];exact Uy H (n-1) n h3 (by omega)
 generalize c.Points.getD (n-1) default=p at *;generalize c.Points.getD n default=q at *;obtain⟨m1,m2⟩:=jzcp (n:=s-p.Stage) (d:=q.Stage-p.Stage) (by omega) (by omega) (by omega) (by omega) (by omega);have m3:=jzd5 (n:=s-p.Stage) (d:=q.Stage-p.Stage) (by omega) (by omega) (by omega) (by omega) (by omega);obtain⟨d1,d2⟩:=qzg8 s2 s1 (by omega) (by omega) (by omega) (by omega);have d3:=wzt2 s2 s1 (by omega) (by omega) (by omega) (by omega);generalize (((s-p.Stage:Int):Rat) / ((q.Stage-p.Stage:Int):Rat))=z at *;obtain⟨u1,u2⟩:=MH m2 d2 (by omega) (by omega) (by omega) (by omega);have u3:=wzqm m2 d2 (by omega) (by omega) (by omega) (by omega);rw[Ge,Ge]at u1 u2 u3;obtain⟨v1,v2⟩:=Jp s1 u2 (by omega) (by omega) (by omega) (by omega);have v3:=Z1 s1 u2 (by omega) (by omega) (by omega) (by omega);rw[Ge]at v1 v2 v3;refine⟨v2.mono (by omega),fun _ _=>⟨m1,m3,fun x hx=>⟨?_,fun K=>?_⟩⟩⟩
 ·rw[hx,d1];simp only[Af];rw[u1];simp only[Af];rw[v1];rfl
 ·rw[hx,d3];simp only[Af];rw[u3];simp only[Af];rw[v3];rfl
theorem wz9k{c:AK}(H:CrvR c)(s:Int):∃n,Nx c.Points s n/\On (c.Points.length:Int) (fun a0=>Mn a0 c s)=some (n:Int):=by
 have hl:=H.len;unfold On
 obtain⟨o,e,n,rfl,hn⟩:=Ev (s:=((0:Int),(c.Points.length:Int))) (body:=R4 (fun a0=>Mn a0 c s)) (fun t=>∃i j:Nat,t=((i:Int),(j:Int))/\i<=j/\j<=c.Points.length/\(∀k (h:k<c.Points.length),k<i->c.Points[k].Stage<=s)/\(∀k (h:k<c.Points.length),j<=k->s<c.Points[k].Stage)) (fun t=>(t.2-t.1).toNat) (fun o=>∃n:Nat,o=(n:Int)/\Nx c.Points s n) (by
  rintro t ⟨i,j,rfl,dV,hj,lo,hi⟩;simp only[R4];by_cases hlt:i<j
  ·left;have ld:Int.fdiv (((i:Int)+(j:Int))%18446744073709551616) 2=(((i+j) / 2:Nat):Int):=by rw[show(((i:Int)+(j:Int))%18446744073709551616)=((i+j:Nat):Int) by omega,N5 _ (by omega)];omega
   have hm:(i+j) / 2<c.Points.length:=by omega
   rw[it_d (by omega),AF (by omega),ld,AF (by omega)];simp only[Mn];rw[at_e rfl (AG hm)];simp only[Af];by_cases aH:s<c.Points[(i+j) / 2].Stage
   ·rw[CG aH];refine⟨_,rfl,⟨i,(i+j) / 2,rfl,by omega,by omega,lo,fun k hk h2=>?_⟩,by dsimp only;omega⟩;by_cases e:k=(i+j) / 2
    ·subst e;exact aH
    ·exact Int.lt_trans aH (Uy H _ k hk (by omega))
   ·rw[CY aH,AF (by omega)];refine⟨_,rfl,⟨(i+j) / 2+1,j,by simp,by omega,hj,fun k hk h2=>?_,hi⟩,by dsimp only;omega⟩;by_cases e:k=(i+j) / 2
    ·subst e;omega
    ·have:=Uy H k ((i+j) / 2) hm (by omega);omega
  ·right;rw[it_n (by omega)];obtain rfl:i=j:=by omega
   exact⟨_,rfl,i,rfl,hj,lo,hi⟩) ⟨0,c.Points.length,rfl,by omega,AD _,fun k _ h=>by omega,fun k h h2=>by omega⟩ (by show((c.Points.length:Int)-0).toNat<_;omega)
 exact⟨n,hn,by rw[e];rfl⟩
theorem jzc9{c:AK}(H:CrvR c){s:Int}(hs:-100000<=s/\s<=100000){n:Nat}(hn:Nx c.Points s n):O6 c s=some (rof (GQ c.Points s n)):=by
 obtain⟨m,hm,e⟩:=wz9k H s;obtain rfl:=hn.uniq hm;have aD:=hn.le;have hl:=H.len;unfold O6;rw[e];simp only[Af];by_cases h0:n=0
 ·subst h0;rw[it_d (by simp)];unfold GQ;rw[Aq rfl,Jo]
 ·rw[it_n (by omega),AF (by omega)];have h1:n-1<c.Points.length:=by omega
  rw[at_e (n:=n-1) (by omega) (AG h1),<-Ft h1];simp only[Af];have hp:c.Points.getD (n-1) default∈c.Points:=by rw[Ft h1];exact GW h1
  by_cases h2:n=c.Points.length
  ·rw[it_d (by omega)];unfold GQ;rw[Ak h0,Aq h2,ME (H.vd _ hp)]
  ·rw[it_n (by omega)];have h3:n<c.Points.length:=by omega
   rw[at_e rfl (AG h3),<-Ft h3];simp only[Af];have hq:c.Points.getD n default∈c.Points:=by rw[Ft h3];exact GW h3
   have t1:=H.st _ hp;have t2:=H.st _ hq;obtain⟨_,hk⟩:=wz8g H hs hn;obtain⟨k1,_,k2⟩:=hk (by omega) h3;rw[AF (by omega),AF (by omega),k1];simp only[Af];exact(k2 _ rfl).1
section
variable {U β ω O:Type}
theorem jzct{body:O->Option (O⊕ω)}(st:Nat->O)(n:Nat)(hn:n<4611686018427387904)(hs:∀k,k<n->body (st k)=some (.inl (st (k+1)))){o:ω}(he:body (st n)=some (.inr o)){s:O}(h0:s=st 0):lp body s=some o:=by
 obtain⟨o',e,ho⟩:=YZ (body:=body) st (fun k=>k<=n) (fun k=>n-k) (fun o'=>o'=o) (by
  intro k hk;by_cases h:k<n
  ·exact .inl ⟨k+1,hs k h,h,by omega⟩
  ·right;obtain rfl:k=n:=by omega
   exact⟨_,he,rfl⟩) 0 h0 (Fv _) (by omega)
 rw[e,ho]
theorem Ij{body:O->Option (O⊕ω)}{l:List U}(st:Nat->O)(hl:l.length<4611686018427387904)(hs:∀k x,l[k]?=some x->body (st k)=some (.inl (st (k+1)))){o:ω}(he:body (st l.length)=some (.inr o)){s:O}(h0:s=st 0):lp body s=some o :=
 jzct st l.length hl (fun k hk=>hs k _ (AG hk)) he h0
theorem CK{l:List U}{k:Nat}{x:U}(h:l[k]?=some x):l.take (k+1)=l.take k++[x]:=by rw[List.take_add_one,h];rfl
theorem Uz{f:Nat->U->Option ω}{l:List U}(h:scan f 0 l=none){i:Nat}{x:U}(hx:l[i]?=some x):f i x=none:=by
 have:=Uw 0 l h i x hx
 rwa [Dj]at this
theorem wz8b{v:β}{k x:Int}:∀(m:List (Int×β)),mget keqI (mput keqI m k v) x=if x=k then some v else mget keqI m x
 |[]=>by by_cases h:x=k<;>simp[mput,mget,keqI,h]
 |p :: m=>by
  unfold mput;by_cases h:k=p.1
  ·rw[show keqI k p.1=true by simp[keqI,h]];by_cases h2:x=k
   ·simp[mget,keqI,h2]
   ·have h3:keqI x k=false:=(by simp[keqI,h2]);have h4:keqI x p.1=false:=(by rw[<-h];exact h3);simp only[mget,h3,h4,Ak h2]
  ·rw[show keqI k p.1=false by simp[keqI,h]];have ih:=wz8b (v:=v) (k:=k) (x:=x) m;by_cases h2:x=p.1
   ·have h3:keqI x p.1=true:=(by simp[keqI,h2]);simp only[mget,h3];rw[Ak (fun e:x=k=>h (e.symm.trans h2))]
   ·have h3:keqI x p.1=false:=(by simp[keqI,h2]);simp only[mget,h3];exact ih
end
noncomputable def nxN(l:List AN)(s:Int):Nat:=open Classical in if h:∃n,Nx l s n then h.choose else 0
noncomputable def flw(c:AK)(s:Int):Ag:=rof (GQ c.Points s (nxN c.Points s))
theorem jzaa{c:AK}(H:CrvR c)(s:Int):Nx c.Points s (nxN c.Points s):=by
 have h:∃n,Nx c.Points s n:=let ⟨n,hn,_⟩:=wz9k H s;⟨n,hn⟩
 unfold nxN;rw[dif_pos h];exact h.choose_spec
theorem jzhs{c:AK}(H:CrvR c){s:Int}(hs:-100000<=s/\s<=100000):Sz 4194304 (flw c s):=(wz8g H hs (jzaa H s)).1
theorem jzhy(c:AK)(s:Int):Vd (flw c s):=Zw _
theorem jzeb{c:AK}(h:CSz c)(e:JP c=0){s:Int}(hs:-100000<=s/\s<=100000):My c s=some (flw c s):=by unfold My;rw[wz7j h,Af,CG e,jzc9 (PY h e) hs (jzaa (PY h e) s)];rfl
structure LevR(h:Au)(l:List Aj):Prop where
 sz:HSz h l
 his:hisR h
 len:l.length<=400
 span:∀s,s∈l->FS s
 asc:∀k (hk:k+1<l.length),l[k].To<=l[k+1].From
 gap:∀s,s∈l->h.From<=s.From/\s.To<=h.From+(h.Stages.length:Int)
theorem U0{U:Type}{f:Nat->U->Option Int}{z:Int}(hf:∀k x o,f k x=some o->o≠z):∀(k:Nat) (l:List U) ,scan f k l≠some z
 |k,[]=>by simp[scan]
 |k,x :: l=>by
  unfold scan;intro e;split at e
  ·rename_i o ho;cases e;exact hf _ _ _ ho rfl
  ·exact U0 hf (k+1) l e
theorem jzdn{U:Type}{f:Nat->U->Option Int}{l:List U}(hf:∀k x o,f k x=some o->o≠0)(h:(scan f 0 l).getD 0=0):scan f 0 l=none:=by
 cases e:scan f 0 l with
 |none=>rfl
 |some o =>rw[e]at h;have h:o=0:=h;subst h;exact(U0 hf _ _ e).elim
theorem Ik{h:Au}{l:List Aj}{lv:Ag}(H:HSz h l)(e:levE h l lv=0):LevR h l/\Vd lv:=by
 unfold levE at e;split at e
 ·rename_i h1;exact(h1 e).elim
 ·rename_i h1;split at e
  ·cases e
  ·rename_i h2;have h1:FT l=0:=Decidable.byContradiction h1;have h2:hisR h:=Decidable.byContradiction h2;unfold FT at h1;split at h1
   ·cases h1
   ·rename_i h3;have e1:=jzdn (f:=spnF l) (fun k x o h=>by unfold spnF at h;split at h<;>cases h;decide) h1
    have key:∀i (hi:i<l.length),FS l[i]/\(0<i->(l.getD (i-1) default).To<=l[i].From):=fun i hi=>by
     have:=Uz e1 (AG hi);unfold spnF at this;split at this
     ·rename_i p;exact p
     ·cases this
    have e2:scan (gapF h) 0 l=none/\Vd lv:=by
     cases eg:scan (gapF h) 0 l with
     |none =>rw[eg]at e;refine⟨rfl,Decidable.byContradiction fun hv=>?_⟩;simp[hv]at e
     |some o =>rw[eg]at e;have e:o=0:=e;subst e;exact(U0 (f:=gapF h) (fun k x o h=>by unfold gapF at h;split at h<;>cases h;decide) _ _ eg).elim
    refine⟨⟨H,h2,by omega,fun s hs=>?_,fun k hk=>?_,fun s hs=>?_⟩,e2.2⟩
    ·obtain⟨i,hi,rfl⟩:=N7 hs;exact(key i hi).1
    ·have:=(key (k+1) hk).2 (by omega);simpa [List.getD,show k<l.length by omega] using this
    ·obtain⟨i,hi,rfl⟩:=N7 hs;have:=Uz e2.1 (AG hi);unfold gapF at this;split at this
     ·cases this
     ·omega
def spt(s:Aj):List Int:=(List.range (s.To-s.From).toNat).map fun(i:Nat)=>s.From+(i:Int)
def tks(l:List Aj):List Int:=l.flatMap spt
def stg(h:Au)(t:Int):Int:=h.Stages.getD (t-h.From).toNat 0
noncomputable def spr(h:Au)(s:Aj):List (Int×Ag):=(spt s).map fun t=>(t,flw s.Curve (stg h t+s.Datum))
noncomputable def prs(h:Au)(l:List Aj):List (Int×Ag):=l.flatMap (spr h)
noncomputable def flws(h:Au)(l:List Aj):List Ag:=(prs h l).map (·.2)
theorem U1(h:Au)(l:List Aj):(prs h l).map (·.1)=tks l:=by unfold prs tks;rw[List.map_flatMap];congr 1;funext s;simp[spr,Function.comp_def]
theorem GR(s:Aj):(spt s).length=(s.To-s.From).toNat:=by simp[spt]
theorem U2{s:Aj}{k:Nat}(hk:k<(s.To-s.From).toNat):(spt s)[k]?=some (s.From+(k:Int)):=by simp[spt,hk]
theorem Nq{s:Aj}{t:Int}:t∈spt s↔s.From<=t/\t<s.To:=by
 unfold spt;rw[FX];constructor
 ·rintro⟨i,hi,rfl⟩;rw[Fz]at hi;omega
 ·rintro⟨h1,h2⟩;exact⟨(t-s.From).toNat,Fz.2 (by omega),by omega⟩
theorem jzhp{l:List Aj}(h:∀s,s∈l->FS s):(tks l).length<=1402560*l.length:=by
 induction l with
 |nil=>simp[tks]
 |cons s l ih =>have h1:=ih fun s' bi=>h s' (Bi _ bi);have h2:=h s (Be ..);have e:tks (s :: l)=spt s++tks l:=rfl;obtain⟨p1,p2,p3,_⟩:=h2;rw[e,Dx,GR,DL];omega
theorem Ed(h:Au)(l:List Aj):(prs h l).length=(tks l).length:=by rw[<-U1 h l,Fy]
theorem GS(h:Au)(l:List Aj):(flws h l).length=(tks l).length:=by rw[<-Ed h l];simp[flws]
theorem LevR.tks{h:Au}{l:List Aj}(H:LevR h l):(tks l).length<=561024000:=by have:=jzhp H.span;have:=H.len;omega
theorem LevR.far{h:Au}{l:List Aj}(H:LevR h l):∀(i j:Nat) (hj:j<l.length) (hi:i<j),(l[i]'(by omega)).To<=l[j].From:=by
 intro i j hj hi;induction j with
 |zero=>omega
 |succ j ih =>
  have h1:=H.asc j hj;by_cases e:i=j
  ·subst e;exact h1
  ·have h2:=ih (by omega) (by omega);have h3:=(H.span _ (GW (show j<l.length by omega))).2.1;omega
theorem LevR.stg{h:Au}{l:List Aj}(H:LevR h l){s:Aj}(hs:s∈l){t:Int}(h1:s.From<=t)(h2:t<s.To):at? h.Stages (t-h.From)=some (stg h t)/\(0<=stg h t/\stg h t<=1000)/\(-1000<=s.Datum/\s.Datum<=1000)/\(0<=t/\t<1402560)/\(0<=t-h.From/\t-h.From<=1402560):=by
 have g:=H.gap s hs;have r:=H.span s hs;obtain⟨r1,r2,r3,r4,r5,r6,r7⟩:=r;obtain⟨q1,q2,q3,q4⟩:=H.his;have hk:(t-h.From).toNat<h.Stages.length:=by omega
 have e:Go.Am.stg h t=h.Stages[(t-h.From).toNat]:=by simp[Go.Am.stg,List.getD,hk]
 refine⟨?_,?_,⟨r4,r5⟩,by omega,by omega⟩
 ·rw[e];exact at_e (n:=(t-h.From).toNat) (by omega) (AG hk)
 ·rw[e];exact q4 _ (GW hk)
theorem LevR.szf{h:Au}{l:List Aj}(H:LevR h l):∀x,x∈flws h l->Sz 4194304 x/\Vd x:=by intro x hx;unfold flws prs at hx;obtain⟨p,hp,rfl⟩:=FX.1 hx;obtain⟨s,hs,hp⟩:=List.mem_flatMap.1 hp;obtain⟨t,ht,rfl⟩:=FX.1 hp;obtain⟨t1,t2⟩:=Nq.1 ht;obtain⟨e1,e2,e3,e4,e5⟩:=H.stg hs t1 t2;exact⟨jzhs (PY (H.sz.l.sz s hs).c (H.span s hs).2.2.2.2.2.2) (by omega),jzhy _ _⟩
theorem U3{h:Au}{l:List Aj}{k:Nat}{s:Aj}(e:l[k]?=some s):prs h (l.take (k+1))=prs h (l.take k)++spr h s:=by rw[CK e];simp[prs]
theorem jzer(l:List Aj)(k:Nat):(tks (l.take k)).length<=(tks l).length:=by
 have:tks l=tks (l.take k)++tks (l.drop k):=by unfold tks;rw[<-List.flatMap_append,Qp]
 rw[this,Dx];omega
theorem PZ{U:Type}(l:List U)(k:Nat):(l.take k).length<=l.length:=by rw[Iu];omega
def inS(s:Aj)(t:Int):Prop:=s.From<=t/\t<s.To
instance (s:Aj)(t:Int):Decidable (inS s t):=inferInstanceAs (Decidable (_/\_))
def jzf1(st:List (Int×Ag)->Option Bool)(l:List (Int×Ag)):Prop:=∀k,k<l.length->st (l.take (k+1))=some false
theorem Qa{h:Au}{l:List Aj}(H:LevR h l){st:List (Int×Ag)->Option Bool}(aH:jzf1 st (prs h l)):G2 l h st=some (prs h l):=by
 have hl:=H.len;have hT:=H.tks;unfold G2;rw[Ij (l:=l) (fun k=>((k:Int),prs h (l.take k))) (by omega) (o:=.inl (prs h l)) ?_ ?_ ?_]
 ·rfl
 ·intro k s hs;have hk:=(AU.1 hs).1;have hm:=BH hs;have eG:=H.span s hm;obtain⟨r1,r2,r3,r4,r5,r6,r7⟩:=eG;have hc:=(H.sz.l.sz s hm).c;have e1:=U3 (h:=h) hs;have e0:prs h l=prs h (l.take k)++spr h s++prs h (l.drop (k+1)):=by rw[<-e1];unfold prs;rw[<-List.flatMap_append,Qp]
  simp only[RZ];rw[it_d (by omega),at_e rfl hs];simp only[Af]
  obtain⟨o,eo,m,rfl⟩:=Ev (s:=(s.From,([]:List (Int×Ag)),prs h (l.take k))) (body:=RY h st s) (fun t=>∃(i:Nat) (m:List (Int×Ag)),i<=(s.To-s.From).toNat/\(∀x v,mget keqI m x=some v->v=flw s.Curve (x+s.Datum))/\t=(s.From+(i:Int),m,prs h (l.take k)++(spr h s).take i)) (fun t=>(s.To-t.1).toNat) (fun o=>∃m,o=.inl (m,prs h (l.take k)++spr h s)) (by
   rintro t ⟨i,m,hi,jv,rfl⟩;simp only[RY];by_cases hlt:i<(s.To-s.From).toNat
   ·left;have ht:inS s (s.From+(i:Int)):=⟨by omega,by omega⟩;obtain⟨g1,g2,g3,g4,g5⟩:=H.stg hm ht.1 ht.2;have e2:(spr h s)[i]?=some (s.From+(i:Int),flw s.Curve (stg h (s.From+(i:Int))+s.Datum)):=(by unfold spr;rw[Gf,U2 hlt];rfl);have e3:=CK e2;have aF:(spr h s).length=(s.To-s.From).toNat:=(by unfold spr;rw[Fy,GR]);have e4:st (prs h (l.take k)++(spr h s).take (i+1))=some false:=(by have:=aH ((prs h (l.take k)).length+i) (by rw[e0];simp only[Dx];omega);rw[e0,List.append_assoc,GX,List.take_length_add_append,List.take_append_of_le_length (by omega)]at this;exact this);generalize stg h (s.From+(i:Int))=x at *;rw[it_d (by omega),AF (by omega),g1];simp only[Af];have fin:∀m',(∀x v,mget keqI m' x=some v->v=flw s.Curve (x+s.Datum))->∃s',(bd (st ((prs h (l.take k)++(spr h s).take i)++[(s.From+(i:Int),flw s.Curve (x+s.Datum))])) fun s1=>ite' s1 (some (.inr (.inr ((prs h (l.take k)++(spr h s).take i)++[(s.From+(i:Int),flw s.Curve (x+s.Datum))])))) (ck (A0 .i64 (s.From+(i:Int)+1))<|some (.inl (s.From+(i:Int)+1,m',(prs h (l.take k)++(spr h s).take i)++[(s.From+(i:Int),flw s.Curve (x+s.Datum))]))))=some ((.inl s':(Int×(List (Int×Ag))×(List (Int×Ag)))⊕(((List (Int×Ag))×(List (Int×Ag)))⊕(List (Int×Ag)))))/\(∃(i:Nat) (m:List (Int×Ag)),i<=(s.To-s.From).toNat/\(∀x v,mget keqI m x=some v->v=flw s.Curve (x+s.Datum))/\s'=(s.From+(i:Int),m,prs h (l.take k)++(spr h s).take i))/\(s.To-s'.1).toNat<(s.To-(s.From+(i:Int))).toNat:=(by intro m' bu;rw[List.append_assoc,<-e3,e4];simp only[Af];rw[FK,AF (by omega)];exact⟨_,rfl,⟨i+1,m',by omega,bu,by rw[show s.From+((i+1:Nat):Int)=s.From+(i:Int)+1 by omega]⟩,by dsimp only;omega⟩);cases hg:mget keqI m x with
    |none =>
     rw[show(!Option.isSome (none:Option Ag))=true from rfl,YY,AF (by omega),jzeb hc r7 (by omega)];simp only[Af]
     exact fin _ fun y v hv=>by
      rw[wz8b]at hv;split at hv
      ·rename_i e;subst e;cases hv;rfl
      ·exact jv y v hv
    |some v =>have:=jv x v hg;rw[show(!Option.isSome (some v))=false from rfl,FK,Af,show Option.getD (some v) (Ag.mk false [] [])=v from rfl];subst this;exact fin m jv
   ·right;rw[it_n (by omega)];have aF:(spr h s).length=(s.To-s.From).toNat:=by unfold spr;rw[Fy,GR]
    exact⟨_,rfl,m,by rw[Iw (l:=spr h s) (by omega)]⟩) ⟨0,[],Fv _,fun x v hv=>by simp[mget]at hv,by simp⟩ (by show(s.To-s.From).toNat<_;omega)
  rw[eo];simp only[Af];rw[AF (by omega),<-e1];rfl
 ·simp only[RZ];rw[it_n (by omega),List.take_length]
 ·rfl
theorem jzbc{O:Type}{body:(Int×Ag)->O->Option (O⊕Unit)}{l:List (Int×Ag)}(st:Nat->O)(hs:∀k p,l[k]?=some p->body p (st k)=some (.inl (st (k+1)))):∀k,k<=l.length->BG body (l.take k) (st 0)=some (.inl (st k)):=by
 have app:∀(a:List (Int×Ag)) (p:Int×Ag) (s s':O),BG body a s=some (.inl s')->BG body (a++[p]) s=(match body p s' with | some (.inl z)=>some (.inl z) | some (.inr o)=>some (.inr o) | none=>none):=by
  intro a;induction a with
  |nil =>
   intro p s s' e;cases e;simp only[Gcd,BG];cases body p s with
   |none=>rfl
   |some r=>cases r<;>rfl
  |cons q a ih =>
   intro p s s' e;simp only[BG,US]at e ⊢;cases hb:body q s with
   |none=>rw[hb]at e;cases e
   |some r =>
    cases r with
    |inl z=>rw[hb]at e;exact ih p z s' e
    |inr o=>rw[hb]at e;cases e
 intro k;induction k with
 |zero=>intro _;rfl
 |succ k ih =>intro hk;have hx:=AG (show k<l.length by omega);rw[CK hx,app _ _ _ _ (ih (by omega)),hs k _ hx]
theorem Qb{O:Type}{body:(Int×Ag)->O->Option (O⊕Unit)}{l:List (Int×Ag)}(st:Nat->O)(hs:∀k p,l[k]?=some p->body p (st k)=some (.inl (st (k+1)))){s:O}(h0:s=st 0):jzf1 (fun l=>D5 body l s) l/\BG body l s=some (.inl (st l.length)):=by
 subst h0;refine⟨fun k hk=>?_,?_⟩
 ·show D5 body (l.take (k+1)) (st 0)=some false;unfold D5;rw[jzbc st hs (k+1) hk]
 ·have:=jzbc st hs l.length (AD _)
  rwa [List.take_length]at this
theorem JQ{h:Au}{l:List Aj}{k:Nat}{p:Int×Ag}(e:(prs h l)[k]?=some p):(tks l)[k]?=some p.1/\(flws h l)[k]?=some p.2:=by
 constructor
 ·rw[<-U1 h l,Gf,e];rfl
 ·unfold flws;rw[Gf,e];rfl
theorem wz81{h:Au}{l:List Aj}{k:Nat}(hk:k<(prs h l).length):∃p,(prs h l)[k]?=some p/\(tks l)[k]?=some p.1/\(flws h l)[k]?=some p.2 := ⟨_,AG hk,JQ (AG hk)⟩
theorem zr:Sz 8589934592 (Ag.mk false [] []):=Sz.zero _
theorem LevR.prs{h:Au}{l:List Aj}(H:LevR h l):(prs h l).length<=561024000:=by rw[Ed];exact H.tks
theorem jzbe{h:Au}{l:List Aj}(H:HSz h l):M0 h l=some (if levE h l (Ag.mk false [] [])=0 then(flws h l,0) else([],levE h l (Ag.mk false [] []))):=by
 unfold M0;rw[PX H zr];simp only[Af];by_cases e:levE h l (Ag.mk false [] [])=0
 ·rw[CG e,Aq e];have R:=(Ik H e).1;have hp:=R.prs;unfold EH;simp only[Af];obtain⟨t1,t2⟩:=Qb (body:=O8) (l:=prs h l) (fun k=>(flws h l).take k) (fun k p hk=>by have e2:=(JQ hk).2;have e3:=CK e2;simp only[O8];rw[<-e3,ck_d];have:=PZ (flws h l) (k+1);rw[GS,<-Ed h l]at this;omega) (s:=([]:List Ag)) rfl;rw[Qa R t1,Af,t2];simp only[Af];rw[Iw (by rw[GS,Ed];omega)]
 ·rw[CY e,Ak e]
noncomputable def abv(v:Rat)(L:List Ag):Nat:=L.countP fun x=>decide (v<=rq x)
theorem Qd(v:Rat)(L:List Ag):abv v L<=L.length:=List.countP_le_length
theorem wz98{v:Rat}{L:List Ag}{k:Nat}{x:Ag}(e:L[k]?=some x):abv v (L.take (k+1))=if v<=rq x then abv v (L.take k)+1 else abv v (L.take k):=by unfold abv;rw[CK e,List.countP_append,List.countP_singleton];by_cases h:v<=rq x<;>simp[h]
theorem Qe{p q:Rat}:0<=cmpQ p q↔q<=p:=by
 unfold cmpQ;by_cases h:p<q
 ·rw[Aq h];exact⟨fun e=>by omega,fun e=>(Rat.not_lt.2 e h).elim⟩
 ·rw[Ak h];exact⟨fun _=>Rat.not_lt.1 h,fun _=>by split<;>omega⟩
theorem U4{p q:Rat}:0<cmpQ p q↔q<p:=by
 unfold cmpQ;by_cases h:p<q
 ·rw[Aq h];exact⟨fun e=>by omega,fun e=>(Rat.not_lt.2 (Rat.le_of_lt h) e).elim⟩
 ·rw[Ak h];by_cases h2:q<p
  ·rw[Aq h2];exact⟨fun _=>h2,fun _=>by omega⟩
  ·rw[Ak h2];exact⟨fun e=>by omega,fun e=>(h2 e).elim⟩
theorem jzbl{h:Au}{l:List Aj}{lv:Ag}{n:Nat}(H:HSz h l)(hv:Sz n lv)(n1:1<=n)(hn:n<=2147483648):HE h l lv=some (if levE h l lv=0 then((abv (rq lv) (flws h l):Int),0) else(0,levE h l lv)):=by
 unfold HE;rw[PX H (hv.mono (by omega))];simp only[Af];by_cases e:levE h l lv=0
 ·rw[CG e,Aq e];have R:=(Ik H e).1;have hp:=R.prs;unfold EH;simp only[Af]
  obtain⟨t1,t2⟩:=Qb (body:=O9 lv) (l:=prs h l) (fun k=>(abv (rq lv) ((flws h l).take k):Int)) (fun k p hk=>by
   have e2:=(JQ hk).2;have hz:=R.szf _ (BH e2);simp only[O9];rw[N3 hz.1 hv (by omega) n1 (by omega) hn,wz98 e2];simp only[Af];by_cases h1:rq lv<=rq p.2
   ·have h2:=Qd (rq lv) ((flws h l).take k);have:=PZ (flws h l) k;rw[GS,<-Ed h l]at this;rw[it_d (Qe.2 h1),Aq h1,AF (by omega)];rfl
   ·rw[it_n (fun e=>h1 (Qe.1 e)),Ak h1]) (s:=(0:Int)) rfl
  rw[Qa R t1,Af,t2];simp only[Af];rw[Iw (by rw[GS,Ed];omega)]
 ·rw[CY e,Ak e]
noncomputable def bix(P:Rat->Rat->Prop)(L:List Ag):Nat->Nat
 |0=>0
 |k+1=>open Classical in if P (rq (L.getD (k+1) default)) (rq (L.getD (bix P L k) default)) then k+1 else bix P L k
theorem U5(P:Rat->Rat->Prop)(L:List Ag):∀k,bix P L k<=k
 |0=>AD _
 |k+1=>by unfold bix;have:=U5 P L k;split<;>omega
noncomputable def extr(P:Rat->Rat->Prop)(h:Au)(l:List Aj):Bd×Int :=
 if levE h l (Ag.mk false [] [])=0 then
  if(tks l).length=0 then(⟨Ag.mk false [] [],0⟩,8) else(⟨(flws h l).getD (bix P (flws h l) ((tks l).length-1)) default,(tks l).getD (bix P (flws h l) ((tks l).length-1)) default⟩,0)
 else(⟨Ag.mk false [] [],0⟩,levE h l (Ag.mk false [] []))
theorem DI{U:Type}[Inhabited U]{l:List U}{k:Nat}{x:U}(h:l[k]?=some x):l.getD k default=x:=by simp[List.getD,h]
theorem wz9p{h:Au}{l:List Aj}(H:HSz h l){before:Ag->Ag->Option Bool}{P:Rat->Rat->Prop}(hb:∀a b,Sz 4194304 a->Sz 4194304 b->before a b=some (open Classical in decide (P (rq a) (rq b)))):Mz h l before=some (extr P h l):=by
 unfold Mz extr;rw[PX H zr];simp only[Af];by_cases e:levE h l (Ag.mk false [] [])=0
 ·rw[CG e,Aq e];have R:=(Ik H e).1;have hp:=R.prs;unfold EH;simp only[Af];unfold Rw
  obtain⟨t1,t2⟩:=Qb (body:=Ml before) (l:=prs h l) (fun k=>if k=0 then(0,Ag.mk false [] [],false) else((tks l).getD (bix P (flws h l) (k-1)) default,(flws h l).getD (bix P (flws h l) (k-1)) default,true)) (fun k p hk=>by
   obtain⟨e1,e2⟩:=JQ hk;have kA:=(AU.1 hk).1;by_cases h0:k=0
   ·subst h0;simp only[Ml,Aq];rw[show(!(!false))=false from rfl,FJ];simp only[Af];rw[it_t (by rfl)];simp only[Dj,Nat.sub_self,bix,Ak Nat.one_ne_zero];rw[DI e1,DI e2]
   ·obtain⟨k,rfl⟩:∃k',k=k'+1:=⟨k-1,by omega⟩;rw[Ak h0,Ak (by omega)];simp only[Ml,Nat.add_sub_cancel];rw[show(!(!true))=true from rfl,Dq];have fY:=U5 P (flws h l) k;obtain⟨q,q1,q2,q3⟩:=wz81 (h:=h) (l:=l) (k:=bix P (flws h l) k) (by omega);rw[DI q2,DI q3,hb _ _ (R.szf _ (BH e2)).1 (R.szf _ (BH q3)).1];simp only[Af];rw[show(!true)=false from rfl,Iz];unfold bix;rw[DI e2,DI q3];by_cases hP:P (rq p.2) (rq q.2)
    ·rw[@it_d _ _ (Classical.propDecidable _) _ _ hP,Aq hP,DI e1,DI e2]
    ·rw[@it_n _ _ (Classical.propDecidable _) _ _ hP,Ak hP,DI q2,DI q3]) (s:=((0:Int),Ag.mk false [] [],false)) rfl
  rw[Qa R t1,Af,t2];simp only[Af];rw[Ed];by_cases h0:(tks l).length=0
  ·rw[Aq h0,Aq h0];simp only[Af];rfl
  ·rw[Ak h0,Ak h0];simp only[Af];rfl
 ·rw[CY e,Ak e]
noncomputable def peak(h:Au)(l:List Aj):Bd×Int:=extr (fun p q=>q<p) h l
noncomputable def low(h:Au)(l:List Aj):Bd×Int:=extr (fun p q=>p<q) h l
theorem jzcx{h:Au}{l:List Aj}(H:HSz h l):M1 h l=some (peak h l):=by unfold M1;rw[wz9p H (P:=fun p q=>q<p) fun a b ha hb=>by simp only[RS];rw[N3 ha hb (by omega) (by omega) (by omega) (by omega)];simp only[Af];congr 1;exact decide_eq_decide.2 U4];rfl
theorem jzdv{h:Au}{l:List Aj}(H:HSz h l):M2 h l=some (low h l):=by unfold M2;rw[wz9p H (P:=fun p q=>p<q) fun a b ha hb=>by simp only[RT];rw[N3 ha hb (by omega) (by omega) (by omega) (by omega)];simp only[Af];congr 1;exact decide_eq_decide.2 Np];rfl
section
variable {U β:Type}[DecidableEq U]{eq:U->U->Bool}
structure CntI(m:List (U×Int))(L:List U):Prop where
 get:∀x,mget eq m x=if x∈L then some (L.count x:Int) else none
 nd:(m.map (·.1)).Nodup
 mem:∀x,x∈m.map (·.1)↔x∈L
theorem CntI.getD{m:List (U×Int)}{L:List U}(h:CntI (eq:=eq) m L)(x:U):Option.getD (mget eq m x) 0=(L.count x:Int):=by
 rw[h.get x];split
 ·rfl
 ·rename_i hx;rw[List.count_eq_zero_of_not_mem hx];rfl
theorem wz9r(he:∀a b,eq a b=decide (a=b)){v:β}{k x:U}:∀(m:List (U×β)),mget eq (mput eq m k v) x=if x=k then some v else mget eq m x
 |[]=>by by_cases h:x=k<;>simp[mput,mget,he,h]
 |p :: m=>by
  unfold mput;by_cases h:k=p.1
  ·rw[show eq k p.1=true by simp[he,h]];by_cases h2:x=k
   ·simp[mget,he,h2]
   ·have h3:eq x k=false:=(by simp[he,h2]);have h4:eq x p.1=false:=(by rw[<-h];exact h3);simp only[mget,h3,h4,Ak h2]
  ·rw[show eq k p.1=false by simp[he,h]];have ih:=wz9r he (v:=v) (k:=k) (x:=x) m;by_cases h2:x=p.1
   ·have h3:eq x p.1=true:=(by simp[he,h2]);simp only[mget,h3];rw[Ak (fun e:x=k=>h (e.symm.trans h2))]
   ·have h3:eq x p.1=false:=(by simp[he,h2]);simp only[mget,h3];exact ih
theorem wz9h(he:∀a b,eq a b=decide (a=b)){v w:β}{k:U}:∀(m:List (U×β)),mset (mput eq m k v) (midx eq m k) w=mput eq m k w/\midx eq m k<(mput eq m k v).length
 |[]=>by simp[mput,midx,mset]
 |p :: m=>by
  unfold mput midx;by_cases h:k=p.1
  ·rw[show eq k p.1=true by simp[he,h]];simp[mset]
  ·rw[show eq k p.1=false by simp[he,h]];have:=wz9h he (v:=v) (w:=w) (k:=k) m;simp[mset,this]
theorem U6(he:∀a b,eq a b=decide (a=b)){v:β}{k:U}:∀(m:List (U×β)),(mput eq m k v).map (·.1)=if k∈m.map (·.1) then m.map (·.1) else m.map (·.1)++[k]
 |[]=>by simp[mput]
 |p :: m=>by
  unfold mput;by_cases h:k=p.1
  ·rw[show eq k p.1=true by simp[he,h]];simp[h]
  ·rw[show eq k p.1=false by simp[he,h]];have ih:=U6 he (v:=v) (k:=k) m;simp only[JZ,ih,AM,h,false_or];split<;>simp
theorem CntI.step(he:∀a b,eq a b=decide (a=b)){m:List (U×Int)}{L:List U}(h:CntI (eq:=eq) m L)(x:U):CntI (eq:=eq) (mput eq m x ((L.count x:Int)+1)) (L++[x]):=by
 refine⟨fun y=>?_,?_,fun y=>?_⟩
 ·rw[wz9r he,h.get y,List.count_append];by_cases e:y=x
  ·subst e;simp
  ·rw[Ak e];simp[DJ,e,List.count_singleton,show ¬x=y from fun e2=>e e2.symm]
 ·rw[U6 he];split
  ·exact h.nd
  ·rename_i hx;rw[List.nodup_append];refine⟨h.nd,by simp,?_⟩;intro a ha b hb;rw[CM]at hb;subst hb;intro e;subst e;exact hx ha
 ·rw[U6 he];split
  ·rename_i hx;rw[h.mem,DJ,CM];refine⟨.inl,fun e=>e.elim id fun e=>?_⟩;subst e;exact(h.mem _).1 hx
  ·rw[DJ,DJ,h.mem]
end
theorem jzcf(a b:Ag):BO a b=decide (a=b):=by rw[Gal,CO];obtain⟨a1,a2,a3⟩:=a;obtain⟨b1,b2,b3⟩:=b;simp[BO]
def Dsc(D:List Ag):Prop:=D.Pairwise fun a b=>rq b<rq a
theorem Qf{a b:Ag}(ha:Vd a)(hb:Vd b)(h:rq a=rq b):a=b:=by rw[<-ME ha,h,ME hb]
theorem jzad:∀{D E:List Ag},Dsc D->Dsc E->(∀x,x∈D↔x∈E)->D=E
 |[],[],_,_,_=>rfl
 |[],y :: E,_,_,h=>by have:=(h y).2 (Be ..);cases this
 |x :: D,[],_,_,h=>by have:=(h x).1 (Be ..);cases this
 |x :: D,y :: E,hD,hE,h=>by
  obtain⟨d1,d2⟩:=Ha.1 hD;obtain⟨e1,e2⟩:=Ha.1 hE
  have bZ:x=y:=by
   rcases AM.1 ((h x).1 (Be ..)) with e|e
   ·exact e
   ·rcases AM.1 ((h y).2 (Be ..)) with e'|e';·exact e'.symm
    ·exact(Rat.lt_irrefl (Std.lt_trans (e1 x e) (d1 y e'))).elim
  subst bZ;congr 1;refine jzad d2 e2 fun z=>⟨fun hz=>?_,fun hz=>?_⟩
  ·rcases AM.1 ((h z).1 (Bi _ hz)) with e|e;·subst e;exact(Rat.lt_irrefl (d1 z hz)).elim
   ·exact e
  ·rcases AM.1 ((h z).2 (Bi _ hz)) with e|e;·subst e;exact(Rat.lt_irrefl (e1 z hz)).elim
   ·exact e
noncomputable def insD(x:Ag):List Ag->List Ag
 |[]=>[x]
 |y :: l=>open Classical in if rq y<rq x then x :: y :: l else if rq x=rq y then y :: l else y :: insD x l
theorem U7{x:Ag}(hx:Vd x):∀(D:List Ag),(∀y,y∈D->Vd y)->∀z,z∈insD x D↔z=x\/z∈D
 |[],_,z=>by simp[insD]
 |y :: D,h,z=>by
  unfold insD;split
  ·simp
  ·split;·rename_i e;have:x=y:=Qf hx (h y (Be ..)) e;subst this;simp
   ·have:=U7 hx D (fun y hy=>h y (Bi _ hy)) z;rw[AM,AM,this];constructor
    ·rintro(a|a|a);·exact .inr (.inl a)
     ·exact .inl a
     ·exact .inr (.inr a)
    ·rintro(a|a|a);·exact .inr (.inl a)
     ·exact .inl a
     ·exact .inr (.inr a)
theorem jza1{x:Ag}(hx:Vd x):∀(D:List Ag),(∀y,y∈D->Vd y)->Dsc D->Dsc (insD x D)
 |[],_,_=>by simp[insD,Dsc]
 |y :: D,h,hD=>by
  obtain⟨d1,d2⟩:=Ha.1 hD;unfold insD;split
  ·rename_i hlt;refine Ha.2 ⟨fun z hz=>?_,hD⟩;rcases AM.1 hz with e|e
   ·subst e;exact hlt
   ·exact Std.lt_trans (d1 z e) hlt
  ·rename_i hlt;split
   ·exact hD
   ·rename_i aL;refine Ha.2 ⟨fun z hz=>?_,jza1 hx D (fun y hy=>h y (Bi _ hy)) d2⟩;rcases(U7 hx D (fun y hy=>h y (Bi _ hy)) z).1 hz with e | e
    ·subst e;exact Rat.lt_iff_le_and_ne.2 ⟨Rat.not_lt.1 hlt,aL⟩
    ·exact d1 z e
theorem jza7(x:Ag):∀(D:List Ag),(insD x D).length<=D.length+1
 |[]=>by simp[insD]
 |y :: D=>by
  unfold insD;have:=jza7 x D;split
  ·simp
  ·split;·simp
   ·simp;omega
noncomputable def dsc(L:List Ag):List Ag:=L.foldl (fun D x=>insD x D) []
theorem jzex{L:List Ag}{k:Nat}{x:Ag}(h:L[k]?=some x):dsc (L.take (k+1))=insD x (dsc (L.take k)):=by unfold dsc;rw[CK h,List.foldl_append];rfl
theorem jzh6{L:List Ag}(h:∀x,x∈L->Vd x):∀k,k<=L.length->Dsc (dsc (L.take k))/\(∀z,z∈dsc (L.take k)↔z∈L.take k)/\(dsc (L.take k)).length<=k:=by
 intro k;induction k with
 |zero=>intro _;simp[dsc,Dsc]
 |succ k ih =>intro hk;obtain⟨i1,i2,i3⟩:=ih (by omega);have hx:=AG (show k<L.length by omega);have hv:=h _ (GW (show k<L.length by omega));have hD:∀y,y∈dsc (L.take k)->Vd y:=fun y hy=>h y (List.mem_of_mem_take ((i2 y).1 hy));have aF:=jza7 L[k] (dsc (L.take k));rw[jzex hx];refine⟨jza1 hv _ hD i1,fun z=>?_,by omega⟩;rw[U7 hv _ hD,i2,CK hx,DJ,CM];exact Or.comm
theorem GT{L:List Ag}(h:∀x,x∈L->Vd x):Dsc (dsc L)/\(∀z,z∈dsc L↔z∈L)/\(dsc L).length<=L.length:=by
 have:=jzh6 h L.length (AD _)
 rwa [List.take_length]at this
section
variable {g:Ag->Ag->Option Int}
theorem U8{a:Ag}:∀(l:List Ag) (z:Ag),z∈DT g a l↔z=a\/z∈l
 |[],z=>by simp[DT]
 |b :: l,z=>by
  unfold DT;split
  ·have:=U8 (a:=a) l z;rw[AM,AM,this];constructor
   ·rintro(e|e|e);·exact .inr (.inl e)
    ·exact .inl e
    ·exact .inr (.inr e)
   ·rintro(e|e|e);·exact .inr (.inl e)
    ·exact .inl e
    ·exact .inr (.inr e)
  ·simp
theorem Qg:∀(l:List Ag) (z:Ag),z∈CD g l↔z∈l
 |[],z=>by simp[CD]
 |a :: l,z=>by unfold CD;rw[U8,Qg l z,AM]
variable {S:Ag->Prop}
theorem JR(hg:∀a b,S a->S b->g a b=some (cmpQ (rq b) (rq a))){a b:Ag}(ha:S a)(hb:S b):gLt g a b=decide (rq b<rq a):=by unfold gLt;rw[hg a b ha hb];exact decide_eq_decide.2 Np
theorem wz8d(hg:∀a b,S a->S b->g a b=some (cmpQ (rq b) (rq a)))(hv:∀a,S a->Vd a){a:Ag}(ha:S a):∀(l:List Ag),(∀y,y∈l->S y)->a∉l->Dsc l->Dsc (DT g a l)
 |[],_,_,_=>by simp[DT,Dsc]
 |b :: l,h,hn,hD=>by
  obtain⟨d1,d2⟩:=Ha.1 hD;have hb:=h b (Be ..);have hl:∀y,y∈l->S y:=fun y hy=>h y (Bi _ hy);unfold DT;rw[JR hg hb ha];by_cases hlt:rq a<rq b
  ·rw[Bt hlt];refine Ha.2 ⟨fun z hz=>?_,wz8d hg hv ha l hl (fun e=>hn (Bi _ e)) d2⟩;rcases(U8 l z).1 hz with e|e
   ·subst e;exact hlt
   ·exact d1 z e
  ·rw[BE hlt];have mo:rq b<rq a:=Rat.lt_iff_le_and_ne.2 ⟨Rat.not_lt.1 hlt,fun e=>hn (by rw[Qf (hv a ha) (hv b hb) e.symm];exact Be ..)⟩;refine Ha.2 ⟨fun z hz=>?_,hD⟩;rcases AM.1 hz with e|e
   ·subst e;exact mo
   ·exact Std.lt_trans (d1 z e) mo
theorem wz9m(hg:∀a b,S a->S b->g a b=some (cmpQ (rq b) (rq a)))(hv:∀a,S a->Vd a):∀(l:List Ag),(∀y,y∈l->S y)->l.Nodup->Dsc (CD g l)
 |[],_,_=>by simp[CD,Dsc]
 |a :: l,h,hn=>by obtain⟨n1,n2⟩:=List.nodup_cons.1 hn;unfold CD;refine wz8d hg hv (h a (Be ..)) _ (fun y hy=>h y (Bi _ ((Qg l y).1 hy))) (fun e=>n1 ((Qg l a).1 e)) (wz9m hg hv l (fun y hy=>h y (Bi _ hy)) n2)
theorem jzht(hg:∀a b,S a->S b->g a b=some (cmpQ (rq b) (rq a)))(hv:∀a,S a->Vd a){l:List Ag}(h:∀y,y∈l->S y):gOk g l=true:=by
 unfold gOk;rw[Dw];intro a ha;rw[Dw];intro b hb;have sa:=h a ha;have sb:=h b hb;rw[JR hg sa sa,JR hg sa sb,JR hg sb sa,hg a b sa sb];have t1:decide (rq a<rq a)=false:=BE Rat.lt_irrefl
 have t2:(decide (rq b<rq a)||decide (rq a<rq b)||decide (a=b))=true:=by
  by_cases e1:rq b<rq a
  ·simp[e1]
  by_cases e2:rq a<rq b
  ·simp[e2]
  have:a=b:=Qf (hv a sa) (hv b sb) (Rat.le_antisymm (Rat.not_lt.1 e1) (Rat.not_lt.1 e2));simp[this]
 rw[t1,t2];simp only[Option.isSome_some,UG,Bool.and_self,Gau];rw[Dw];intro c hc;have sc:=h c hc;rw[JR hg sb sc,JR hg sa sc];by_cases e1:rq b<rq a
 ·by_cases e2:rq c<rq b;·simp[Std.lt_trans e2 e1]
  ·simp[e2]
 ·simp[e1]
theorem jzef(hg:∀a b,S a->S b->g a b=some (cmpQ (rq b) (rq a)))(hv:∀a,S a->Vd a){l:List Ag}{L:List Ag}(h:∀y,y∈l->S y)(hn:l.Nodup)(hl:l.length<1000000000000)(hm:∀x,x∈l↔x∈L):Mi g l=some (dsc L):=by unfold Mi;rw[ck_t (by rw[jzht hg hv h,Bt hl];rfl)];obtain⟨d1,d2,d3⟩:=GT (L:=L) fun x hx=>hv x (h x ((hm x).2 hx));congr 1;exact jzad (wz9m hg hv l h hn) d1 fun x=>by rw[Qg,hm,d2]
end
noncomputable def dwl(L:List Ag)(x:Ag):AI:=⟨x,(abv (rq x) L:Int)⟩
noncomputable def dwls(L:List Ag):List AI:=(dsc L).map (dwl L)
theorem GU(L:List Ag):(dwls L).length=(dsc L).length:=by simp[dwls]
theorem Nr{L:List Ag}{k:Nat}{x:Ag}(h:(dsc L)[k]?=some x):(dwls L)[k]?=some (dwl L x):=by simp[dwls,h]
theorem U9{L:List Ag}(h:∀x,x∈L->Vd x){k:Nat}{d:Ag}(hd:(dsc L)[k]?=some d):abv (rq d) L=L.countP (fun x=>decide (x∈(dsc L).take (k+1))):=by
 obtain⟨d1,d2,d3⟩:=GT h;unfold abv;refine List.countP_congr fun x hx=>?_;rw[CO,CO];obtain⟨hk,rfl⟩:=AU.1 hd;have hp:=Qx.1 d1;constructor
 ·intro aD;obtain⟨j,hj,rfl⟩:=N7 ((d2 x).2 hx);refine Decidable.byContradiction fun hn=>?_;have oh:k<j:=by refine Decidable.byContradiction fun e=>hn ?_;exact List.mem_take_iff_getElem.2 ⟨j,by omega,rfl⟩
  exact Rat.not_lt.2 aD (hp k j hk hj oh)
 ·intro hm;obtain⟨j,hj,rfl⟩:=List.mem_take_iff_getElem.1 hm;by_cases e:j=k
  ·subst e;exact Rat.le_refl
  ·exact Rat.le_of_lt (hp j k (by omega) hk (by omega))
theorem jzes{L:List Ag}(h:∀x,x∈L->Vd x){k:Nat}{d:Ag}(hd:(dsc L)[k]?=some d):L.countP (fun x=>decide (x∈(dsc L).take (k+1)))=L.countP (fun x=>decide (x∈(dsc L).take k))+L.count d:=by
 obtain⟨d1,d2,d3⟩:=GT h;have bK:d∉(dsc L).take k:=by intro hm;obtain⟨hk,rfl⟩:=AU.1 hd;obtain⟨j,hj,e⟩:=List.mem_take_iff_getElem.1 hm;have:=Qx.1 d1 j k (by omega) hk (by omega);rw[e]at this;exact Rat.lt_irrefl this
 rw[CK hd];generalize (dsc L).take k=T at *;clear h d1 d2 d3 hd;induction L with
 |nil=>rfl
 |cons x L ih =>
  rw[List.countP_cons,List.countP_cons,List.count_cons,ih];by_cases e:x=d
  ·subst e;simp[bK];omega
  ·simp[e];omega
theorem jzlc{l L:List Ag}(hn:l.Nodup)(h:∀x,x∈l->x∈L):l.length<=L.length:=by
 induction l generalizing L with
 |nil=>exact Fv _
 |cons a l ih =>obtain⟨n1,n2⟩:=List.nodup_cons.1 hn;have ha:=h a (Be ..);have:=ih (L:=L.erase a) n2 fun x hx=>(List.mem_erase_of_ne (fun e:x=a=>n1 (by rw[<-e];exact hx))).2 (h x (Bi _ hx));rw[List.length_erase_of_mem ha]at this;have:=List.length_pos_of_mem ha;rw[DL];omega
theorem jzdl{h:Au}{l:List Aj}(H:HSz h l):IZ h l=some (if levE h l (Ag.mk false [] [])=0 then(dwls (flws h l),0) else([],levE h l (Ag.mk false [] []))):=by
 unfold IZ;rw[PX H zr];simp only[Af];by_cases e:levE h l (Ag.mk false [] [])=0
 ·rw[CG e,Aq e];have R:=(Ik H e).1;have hp:=R.prs;have hL:(flws h l).length=(prs h l).length:=by rw[GS,Ed]
  unfold EH;simp only[Af]
  let st:Nat->List (Ag×Int):=fun k=>((flws h l).take k).foldl (fun m x=>mput BO m x (Option.getD (mget BO m x) 0+1)) []
  have st1:∀k x,(flws h l)[k]?=some x->st (k+1)=mput BO (st k) x (Option.getD (mget BO (st k) x) 0+1):=fun k x hx=>by show((flws h l).take (k+1)).foldl _ []=_;rw[CK hx,List.foldl_append];rfl
  have sI:∀k,k<=(flws h l).length->CntI (eq:=BO) (st k) ((flws h l).take k):=by
   intro k;induction k with
   |zero=>intro _;exact⟨fun x=>by simp[st,mget],by simp[st],fun x=>by simp[st]⟩
   |succ k ih =>intro hk;have hx:=AG (show k<(flws h l).length by omega);have i:=ih (by omega);rw[st1 k _ hx,i.getD,CK hx];exact i.step jzcf _
  obtain⟨t1,t2⟩:=Qb (body:=OA) (l:=prs h l) st (fun k p hk=>by have e2:=(JQ hk).2;have kA:=(AU.1 hk).1;have i:=sI k (by omega);have hc:((flws h l).take k).count p.2<=(flws h l).length:=Bg List.count_le_length (PZ _ _);simp only[OA];rw[st1 k _ e2,i.getD];obtain⟨m1,m2⟩:=wz9h jzcf (v:=(((flws h l).take k).count p.2:Int)) (w:=(((flws h l).take k).count p.2:Int)+1) (k:=p.2) (st k);rw[AF (by omega),ck_t (by unfold IY;rw[Bt (by omega),Bt (by omega)];rfl),CL,m1]) (s:=([]:List (Ag×Int))) rfl;rw[Qa R t1,Af,t2];simp only[Af];have i:=sI (prs h l).length (by omega);rw[Iw (by omega)]at i;generalize st (prs h l).length=m at *;have hS:∀x,x∈flws h l->Sz 4194304 x/\Vd x:=R.szf;have hV:∀x,x∈flws h l->Vd x:=fun x hx=>(hS x hx).2;obtain⟨d1,d2,d3⟩:=GT hV;have d7:(m.map (·.1)).length<=(flws h l).length:=by exact jzlc i.nd fun x hx=>(i.mem x).1 hx
  unfold Hw;rw[jzef (S:=fun x=>Sz 4194304 x/\Vd x) (L:=flws h l) (fun a b ha hb=>by simp only[RU];rw[N3 hb.1 ha.1 (by omega) (by omega) (by omega) (by omega)];rfl) (fun a ha=>ha.2) (fun y hy=>hS y ((i.mem y).1 hy)) i.nd (by omega) i.mem];simp only[Af];rw[Ij (l:=dsc (flws h l)) (fun k=>(((flws h l).countP (fun x=>decide (x∈(dsc (flws h l)).take k)):Int),(k:Int),(dwls (flws h l)).take k)) (by omega) (o:=dwls (flws h l)) ?_ ?_ ?_]
  ·rfl
  ·intro k d hd;have hk:=(AU.1 hd).1;have c1:=jzes hV hd;have c2:=U9 hV hd;have c3:=CK (Nr hd);have c4:=Qd (rq d) (flws h l);have c5:(dwls (flws h l)).length<=561024000:=by rw[GU];omega
   have c6:=PZ (dwls (flws h l)) (k+1);simp only[Sb];rw[it_d (by omega),at_e rfl hd];simp only[Af];rw[i.getD,show((flws h l).countP (fun x=>decide (x∈(dsc (flws h l)).take k)):Int)+((flws h l).count d:Int)=(abv (rq d) (flws h l):Int) by omega];rw[AF (by omega),show AI.mk d (abv (rq d) (flws h l):Int)=dwl (flws h l) d from rfl,<-c3,ck_d (by omega),AF (by omega),c2];rfl
  ·simp only[Sb];rw[it_n (by omega),Iw (by rw[GU];omega)]
  ·simp
 ·rw[CY e,Ak e]
theorem wz6q{U ω:Type}{f:Nat->U->Option ω}:∀(k:Nat) (l:List U) (o:ω),scan f k l=some o->∃i x,l[i]?=some x/\f (k+i) x=some o/\∀j y,j<i->l[j]?=some y->f (k+j) y=none
 |k,[],o,h=>by cases h
 |k,y :: l,o,h=>by
  unfold scan at h;split at h
  ·rename_i o' ho;cases h;exact⟨0,y,rfl,ho,fun j y h=>by omega⟩
  ·rename_i hn;obtain⟨i,x,h1,h2,h3⟩:=wz6q (k+1) l o h;refine⟨i+1,x,by simpa using h1,by rwa [show k+(i+1)=k+1+i by omega],fun j z hj hz=>?_⟩;cases j with
   |zero=>simp at hz;subst hz;exact hn
   |succ j =>
    have:=h3 j z (by omega) (by simpa using hz)
    rwa [show k+(j+1)=k+1+j by omega]
structure JS(L:List Ag)(n:Int)(d:Ag):Prop where
 mem:d∈L
 ok:n<=(abv (rq d) L:Int)
 max:∀y,y∈L->n<=(abv (rq y) L:Int)->rq y<=rq d
noncomputable def exd(L:List Ag)(n:Int):Ag:=open Classical in if h:∃d,JS L n d then h.choose else default
theorem jzdh{L:List Ag}(h:∀x,x∈L->Vd x){n:Int}{d:Ag}(hd:JS L n d):exd L n=d:=by have he:∃d,JS L n d:=⟨d,hd⟩;unfold exd;rw[dif_pos he];have hc:=he.choose_spec;exact Qf (h _ hc.mem) (h _ hd.mem) (Rat.le_antisymm (hd.max _ hc.mem hc.ok) (hc.max _ hd.mem hd.ok))
noncomputable def excE(L:List Ag)(n:Int):Ag×Int:=if n<1\/(L.length:Int)<n then(Ag.mk false [] [],3) else(exd L n,0)
theorem jzas{L:List Ag}(h:∀x,x∈L->Vd x){n:Int}(h1:1<=n)(h2:n<=(L.length:Int)):∃d,d∈dsc L/\n<=(abv (rq d) L:Int):=by
 obtain⟨d1,d2,d3⟩:=GT h
 have ce:0<(dsc L).length:=by
  have hL:0<L.length:=by omega
  exact List.length_pos_of_mem ((d2 _).2 (GW hL))
 have hk:(dsc L).length-1<(dsc L).length:=by omega
 refine⟨(dsc L)[(dsc L).length-1],GW hk,?_⟩;rw[U9 h (AG hk),show(dsc L).length-1+1=(dsc L).length by omega,List.take_length];rw[List.countP_eq_length.2 fun x hx=>Bt ((d2 x).2 hx)];exact h2
theorem jzd1{h:Au}{l:List Aj}(H:HSz h l)(n:Int):Ja h l n=some (if levE h l (Ag.mk false [] [])=0 then excE (flws h l) n else(Ag.mk false [] [],levE h l (Ag.mk false [] []))):=by
 unfold Ja;rw[jzdl H];simp only[Af];by_cases e:levE h l (Ag.mk false [] [])=0
 ·have R:=(Ik H e).1;rw[Aq e,Aq e,CG rfl];have hl:(flws h l).length<=561024000:=by rw[GS];exact R.tks
  have hV:∀x,x∈flws h l->Vd x:=fun x hx=>(R.szf x hx).2;generalize flws h l=L at *;obtain⟨d1,d2,d3⟩:=GT hV
  have hi:Og (dwls L) (fun a0=>Oh a0 n)=some ((scan (fun k (x:AI)=>if n<=x.Ticks then some (k:Int) else none) 0 (dwls L)).getD (-1)):=by
   unfold Og;rw[PU (l:=dwls L) (fun k (x:AI)=>if n<=x.Ticks then some (k:Int) else none) (by rw[GU];omega) ?_ ?_]
   ·simp only[Af];exact PW
   ·intro k x hx;have hk:=(AU.1 hx).1;rw[GU]at hk;simp only[kze,Oh];rw[it_d (by rw[GU];omega),at_e rfl hx];simp only[Af];by_cases hn:n<=x.Ticks
    ·rw[it_d hn,Aq hn]
    ·rw[it_n hn,Ak hn,AF (by omega)]
   ·simp only[kze];rw[it_n (by omega)]
  rw[hi];simp only[Af];unfold excE;cases fg:scan (fun k (x:AI)=>if n<=x.Ticks then some (k:Int) else none) 0 (dwls L) with
  |none =>rw[it_t (by simp),Aq];refine Decidable.byContradiction fun hc=>?_;obtain⟨d,hd,hn⟩:=jzas hV (n:=n) (by omega) (by omega);obtain⟨i,hi⟩:=List.getElem?_of_mem hd;have:=Uz fg (Nr hi);rw[Aq (show n<=(dwl L d).Ticks from hn)]at this;cases this
  |some o =>
   obtain⟨i,x,h1,h2,h3⟩:=wz6q _ _ _ fg;rw[Dj]at h2;split at h2
   ·rename_i hn;cases h2;have hid:i<(dsc L).length:=by have:=(AU.1 h1).1;rwa [GU]at this
    have hd:=AG hid;have hx:=Nr hd;rw[h1]at hx;cases hx;have dA:=(d2 _).1 (GW hid);by_cases n1:n<1
    ·rw[it_t (by simp[n1]),Aq (.inl n1)]
    ·have kE:=Qd (rq (dsc L)[i]) L;have fH:n<=(abv (rq (dsc L)[i]) L:Int):=hn;rw[it_f (by simp;omega),Ak (by omega)];simp only[Nz];rw[at_e rfl h1];simp only[Af];rw[jzdh hV (d:=(dsc L)[i]) ⟨dA,fH,fun y hy iX=>?_⟩]
     ·rfl
     ·obtain⟨j,hj,rfl⟩:=N7 ((d2 y).2 hy);by_cases gL:j<i
      ·have:=h3 j _ gL (Nr (AG hj));rw[Aq (show n<=(dwl L (dsc L)[j]).Ticks from iX)]at this;cases this
      ·by_cases e:j=i;·subst e;exact Rat.le_refl
       ·exact Rat.le_of_lt (Qx.1 d1 i j hid hj (by omega))
   ·cases h2
 ·rw[Ak e,Ak e,CY e]
theorem jzis:G4=some true:=by decide +kernel
structure EpR(E:List AO):Prop where
 ok:∀e,e∈E->0<=e.From/\e.From<e.To/\e.To<=1402560
 asc:E.Pairwise fun a b=>a.To<=b.From
theorem EpR.tail{e:AO}{E:List AO}(h:EpR (e :: E)):EpR E:=⟨fun x hx=>h.ok x (Bi _ hx),(Ha.1 h.asc).2⟩
theorem jzl2{h:Au}{l:List Aj}(H:LevR h l):(tks l).Pairwise (· < ·):=by
 have hp:l.Pairwise fun a b=>a.To<=b.From:=by rw[Qx];intro i j hi hj dV;exact H.far i j hj dV
 have:∀l:List Aj,l.Pairwise (fun a b=>a.To<=b.From)->(∀s,s∈l->FS s)->(tks l).Pairwise (· < ·):=by
  intro l;induction l with
  |nil=>intro _ _;simp[tks]
  |cons s l ih =>
   intro hp hs;obtain⟨p1,p2⟩:=Ha.1 hp;show(spt s++tks l).Pairwise (· < ·);refine List.pairwise_append.2 ⟨?_,ih p2 fun x hx=>hs x (Bi _ hx),fun x hx y hy=>?_⟩
   ·unfold spt;rw[List.pairwise_map];exact(List.pairwise_lt_range).imp fun h=>by omega
   ·obtain⟨z,hz,hy⟩:=List.mem_flatMap.1 hy;have a1:=Nq.1 hx;have a2:=Nq.1 hy;have:=p1 z hz;omega
 exact this l hp H.span
noncomputable def dc(p:Prop):Bool:=@decide p (Classical.propDecidable p)
theorem dc_t{p:Prop}(h:p):dc p=true:=@Bt p (Classical.propDecidable p) h
theorem dc_f{p:Prop}(h:¬p):dc p=false:=@BE p (Classical.propDecidable p) h
theorem Qh{p:Prop}:dc p=true↔p:=⟨@Ip p (Classical.propDecidable p),dc_t⟩
noncomputable def cnN(n:Nat)(p:Int->Prop):Nat:=(List.range n).countP fun(i:Nat)=>dc (p (i:Int))
theorem exN:∃n:Nat,n=1402560:=⟨_,rfl⟩
noncomputable def bigN:Nat:=exN.choose
theorem jzlr:bigN=1402560:=exN.choose_spec
noncomputable def cnt(p:Int->Prop):Nat:=cnN bigN p
theorem UA{p q:Int->Prop}(h:∀t:Int,0<=t->t<1402560->(p t↔q t)):cnt p=cnt q:=by unfold cnt cnN;refine List.countP_congr fun i hi=>?_;rw[Fz,jzlr]at hi;rw[Qh,Qh];exact h i (by omega) (by omega)
theorem jzlw{p q:Int->Prop}(h:∀t:Int,p t->¬q t):cnt (fun t=>p t\/q t)=cnt p+cnt q:=by
 unfold cnt cnN;generalize List.range bigN=L;induction L with
 |nil=>rfl
 |cons i L ih =>
  rw[List.countP_cons,List.countP_cons,List.countP_cons,ih];by_cases h1:p (i:Int)
  ·have h2:=h _ h1;rw[dc_t (.inl h1),dc_t h1,dc_f h2];simp;omega
  ·by_cases h2:q (i:Int);·rw[dc_t (.inr h2),dc_f h1,dc_t h2];simp;omega
   ·rw[dc_f (fun e=>e.elim h1 h2),dc_f h1,dc_f h2];simp
theorem jzln{p:Int->Prop}(h:∀t,¬p t):cnt p=0:=by unfold cnt cnN;rw[List.countP_eq_zero];intro i _ e;exact h _ (Qh.1 e)
theorem jzl9{a b:Int}(ha:0<=a):∀n:Nat,(cnN n (fun t=>a<=t/\t<b):Int)=max 0 (min b n-a)
 |0=>by simp[cnN];omega
 |n+1=>by
  have ih:=jzl9 (b:=b) ha n;unfold cnN at ih ⊢;rw[List.range_succ,List.countP_append,List.countP_singleton];by_cases h:a<=(n:Int)/\(n:Int)<b
  ·rw[dc_t h,Aq rfl];omega
  ·rw[dc_f h,Ak (by decide)];omega
theorem jzl7{a b:Int}(ha:0<=a)(hb:b<=1402560):(cnt (fun t=>a<=t/\t<b):Int)=max 0 (b-a):=by unfold cnt;rw[jzl9 ha,jzlr];omega
theorem jzme{T:List Int}{q:Int->Prop}(hr:T.Pairwise (· < ·))(hb:∀t,t∈T->0<=t/\t<1402560):(T.countP fun t=>dc (q t))=cnt (fun t=>t∈T/\q t):=by
 induction T with
 |nil=>rw[jzln (fun t h=>by cases h.1)];rfl
 |cons t T ih =>
  obtain⟨r1,r2⟩:=Ha.1 hr;have e:=ih r2 fun x hx=>hb x (Bi _ hx)
  rw[List.countP_cons,e,UA (p:=fun x=>x∈t :: T/\q x) (q:=fun x=>(x=t/\q t)\/(x∈T/\q x)) fun x _ _=>⟨fun h=>by
   rcases AM.1 h.1 with e|e
   ·exact .inl ⟨e,by rw[<-e];exact h.2⟩
   ·exact .inr ⟨e,h.2⟩,fun h=>by
   rcases h with ⟨rfl,h⟩|⟨h1,h2⟩
   ·exact⟨Be ..,h⟩
   ·exact⟨Bi _ h1,h2⟩⟩]
  rw[jzlw (p:=fun x=>x=t/\q t) (q:=fun x=>x∈T/\q x) fun x h1 h2=>by have:=r1 x h2.1;omega];have ht:=hb t (Be ..);by_cases h:q t
  ·rw[dc_t h,Aq rfl,UA (p:=fun x=>x=t/\q t) (q:=fun x=>t<=x/\x<t+1) fun x _ _=>⟨fun h=>by omega,fun h2=>⟨by omega,h⟩⟩];have:=jzl7 (a:=t) (b:=t+1) (by omega) (by omega);omega
  ·rw[dc_f h,jzln (p:=fun x=>x=t/\q t) fun x hx=>h hx.2];simp
structure SdS(n:Nat)(a:Ba):Prop where
 h:HSz a.History a.Spans
 v:Sz n a.Level
end Go.Am

namespace Go.Am
theorem jznt{p q:Int->Prop}(h:∀t:Int,p t->q t):cnt p<=cnt q:=by unfold cnt cnN;exact List.countP_mono_left fun i _ e=>dc_t (h _ (Qh.1 e))
theorem jzn0{T:List Int}(hr:T.Pairwise (· < ·))(hb:∀t,t∈T->0<=t/\t<1402560):cnt (fun t=>t∈T)=T.length:=by have:=jzme (q:=fun _=>True) hr hb;rw[UA (p:=fun t=>t∈T) (q:=fun t=>t∈T/\True) fun t _ _=>⟨fun h=>⟨h,trivial⟩,fun h=>h.1⟩,<-this];exact List.countP_eq_length.2 fun t _=>dc_t trivial
theorem jznl{h:Au}{l:List Aj}(H:LevR h l):∀t,t∈tks l->0<=t/\t<1402560:=by intro t ht;obtain⟨s,hs,ht⟩:=List.mem_flatMap.1 ht;have r:=H.span s hs;have:=Nq.1 ht;obtain⟨r1,r2,r3,_⟩:=r;omega
end Go.Am

namespace Go.Am
def cutS(a b:Int)(s:Aj):Option Aj:=if max s.From a<min s.To b then some ⟨max s.From a,min s.To b,s.Weight,s.Datum,s.Curve⟩ else none
def cutL(a b:Int)(l:List Aj):List Aj:=l.filterMap (cutS a b)
theorem Ns{a b:Int}{s z:Aj}(h:cutS a b s=some z):max s.From a<min s.To b/\z=⟨max s.From a,min s.To b,s.Weight,s.Datum,s.Curve⟩:=by
 unfold cutS at h;split at h
 ·rename_i p;exact⟨p,by cases h;rfl⟩
 ·cases h
theorem jznc(a b:Int)(l:List Aj):(cutL a b l).length<=l.length:=List.length_filterMap_le _ _
theorem UB{a b:Int}{l:List Aj}{z:Aj}:z∈cutL a b l↔∃s,s∈l/\cutS a b s=some z:=by unfold cutL;rw[List.mem_filterMap]
theorem LevR.pw{h:Au}{l:List Aj}(H:LevR h l):l.Pairwise fun a b=>a.To<=b.From:=by rw[Qx];intro i j hi hj dV;exact H.far i j hj dV
theorem LevR.cut{h:Au}{l:List Aj}(R:LevR h l)(a b:Int):LevR h (cutL a b l):=by
 have hp:(cutL a b l).Pairwise fun a b=>a.To<=b.From:=by unfold cutL;rw[List.pairwise_filterMap];refine R.pw.imp fun {s z} h x hx y hy=>?_;obtain⟨h1,rfl⟩:=Ns hx;obtain⟨h2,rfl⟩:=Ns hy;dsimp only;omega
 have hl:=jznc a b l;have c8:=R.len;refine⟨⟨⟨by omega,fun z hz=>?_⟩,R.sz.n⟩,R.his,by omega,fun z hz=>?_,fun k hk=>?_,fun z hz=>?_⟩
 ·obtain⟨s,hs,e⟩:=UB.1 hz;obtain⟨h1,rfl⟩:=Ns e;have:=R.sz.l.sz s hs;exact⟨this.c,this.w⟩
 ·obtain⟨s,hs,e⟩:=UB.1 hz;obtain⟨h1,rfl⟩:=Ns e;obtain⟨r1,r2,r3,r4,r5,r6,r7⟩:=R.span s hs;refine⟨?_,h1,?_,r4,r5,r6,r7⟩<;>dsimp only<;>omega
 ·exact Qx.1 hp k (k+1) (by omega) hk (by omega)
 ·obtain⟨s,hs,e⟩:=UB.1 hz;obtain⟨h1,rfl⟩:=Ns e;have:=R.gap s hs;dsimp only;omega
theorem UC{h:Au}{l:List Aj}(R:LevR h l):FT l=0:=by
 unfold FT;rw[Ak (by have:=R.len;omega),PT (f:=spnF l)]
 ·rfl
 ·intro i s hs;unfold spnF;rw[Aq];have hi:=(AU.1 hs);obtain⟨hi,e⟩:=hi;refine⟨R.span s (BH hs),fun h0=>?_⟩;have:=R.asc (0+i-1) (by omega);rw[Ft (by omega)];subst e;simpa [show i-1+1=i by omega] using this
theorem JT{h:Au}{l:List Aj}{lv:Ag}(R:LevR h l)(hv:Vd lv):levE h l lv=0:=by
 unfold levE;rw[UC R,Ak (by simp),Ak (by simp[R.his]),PT (f:=gapF h)]
 ·simp[hv]
 ·intro i s hs;unfold gapF;have:=R.gap s (BH hs);rw[Ak (by omega)]
theorem jzm8{h:Au}{l:List Aj}(R:LevR h l):(prs h l).Pairwise (fun p q=>p.1<q.1):=by have:=jzl2 R;rw[<-U1 h l,List.pairwise_map]at this;exact this
theorem jzm7{h:Au}{l:List Aj}(R:LevR h l):Of l=some ((prs h l).length:Int):=by
 have hl:=R.len;have hT:=R.prs;unfold Of;rw[Ij (l:=l) (fun k=>(((prs h (l.take k)).length:Int),(k:Int))) (by omega) (o:=((prs h l).length:Int)) ?_ ?_ ?_]
 ·simp only[Af]
 ·intro k s hs;have hk:=(AU.1 hs).1;have hd:=jzer l k;rw[<-Ed h,<-Ed h]at hd;obtain⟨r1,r2,r3,_⟩:=R.span s (BH hs);have e1:(prs h (l.take (k+1))).length=(prs h (l.take k)).length+(s.To-s.From).toNat:=by rw[U3 hs,Dx];simp[spr,GR]
  simp only[Ru];rw[it_d (by omega),at_e rfl hs];simp only[Af];rw[AF (by omega),AF (by omega),AF (by omega),show((prs h (l.take k)).length:Int)+(s.To-s.From)=((prs h (l.take (k+1))).length:Int) by omega];rfl
 ·simp only[Ru];rw[it_n (by omega),List.take_length]
 ·simp[prs]
theorem jznj{P:Rat->Rat->Prop}(ir:∀a,¬P a a)(tr:∀a b c,¬P a b->P c b->¬P a c){L:List Ag}:∀k j,j<=k->¬P (rq (L.getD j default)) (rq (L.getD (bix P L k) default))
 |0,j,hj=>by
  obtain rfl:j=0:=by omega
  exact ir _
 |k+1,j,hj=>by
  have ih:=jznj ir tr (L:=L) k;unfold bix;split
  ·rename_i hp;by_cases e:j=k+1
   ·subst e;exact ir _
   ·exact tr _ _ _ (ih j (by omega)) hp
  ·rename_i hp;by_cases e:j=k+1
   ·subst e;exact hp
   ·exact ih j (by omega)
theorem jzm0{P:Rat->Rat->Prop}(ir:∀a,¬P a a)(tr:∀a b c,¬P a b->P c b->¬P a c){h:Au}{l:List Aj}(R:LevR h l)(h0:(tks l).length≠0) : ∃x t,extr P h l=(⟨x,t⟩,0)/\(t,x)∈prs h l/\∀y,y∈flws h l->¬P (rq y) (rq x):=by
 have hb:=U5 P (flws h l) ((tks l).length-1);obtain⟨q,q1,q2,q3⟩:=wz81 (h:=h) (l:=l) (k:=bix P (flws h l) ((tks l).length-1)) (by rw[Ed];omega);refine⟨q.2,q.1,?_,BH q1,fun y hy=>?_⟩
 ·unfold extr;rw[Aq (JT R (Ce.2 (.inl rfl))),Ak h0,DI q3,DI q2]
 ·obtain⟨i,hi,rfl⟩:=N7 hy;have hn:=GS h l;have:=jznj ir tr (L:=flws h l) ((tks l).length-1) i (by omega);rw[DI q3,Ft hi]at this;exact this
theorem jznh:∀a:Rat,¬(fun p q:Rat=>q<p) a a:=fun a=>Rat.lt_irrefl
theorem jznf:∀a b c:Rat,¬(fun p q:Rat=>q<p) a b->(fun p q:Rat=>q<p) c b->¬(fun p q:Rat=>q<p) a c:=fun a b c h1 h2 h3=>by dsimp only at *;grind
theorem jzni:∀a:Rat,¬(fun p q:Rat=>p<q) a a:=fun a=>Rat.lt_irrefl
theorem jzne:∀a b c:Rat,¬(fun p q:Rat=>p<q) a b->(fun p q:Rat=>p<q) c b->¬(fun p q:Rat=>p<q) a c:=fun a b c h1 h2 h3=>by dsimp only at *;grind
theorem jzm1{P:Rat->Rat->Prop}{h:Au}{l:List Aj}(R:LevR h l)(h0:(tks l).length=0):extr P h l=(⟨Ag.mk false [] [],0⟩,8):=by unfold extr;rw[Aq (JT R (Ce.2 (.inl rfl))),Aq h0]
theorem jzmu{h:Au}{l:List Aj}{p:Int×Ag}(hp:p∈prs h l):p.2∈flws h l:=UJ hp
end Go.Am

