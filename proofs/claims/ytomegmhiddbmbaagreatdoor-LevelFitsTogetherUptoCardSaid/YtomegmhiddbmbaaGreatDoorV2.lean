/- Part V2: the mathematics of flows and levels. No condition. -/
import Derived.Test.YtomegmhiddbmbaaGreatDoorV1
set_option linter.unusedSimpArgs false
set_option linter.unusedVariables false
namespace Go.Am
noncomputable def sL(L:List Ag):Rat:=sQ (L.map rq)
theorem UD(L M:List Ag):sL (L++M)=sL L+sL M:=by unfold sL;rw[List.map_append,SM]
theorem kzzc(x:Ag):sL [x]=rq x:=by show rq x+0=rq x;grind
def mS(g:Int->Rat):List (Int×Int)->Rat
 |[]=>0
 |p :: m=>(p.2:Rat)*g p.1+mS g m
theorem kz0p{g:Int->Rat}{m m':List (Int×Int)}(h:m'.Perm m):mS g m'=mS g m:=by
 induction h with
 |nil=>rfl
 |cons x _ ih=>simp only[mS,ih]
 |swap x y l=>simp only[mS];grind
 |trans _ _ a b=>exact a.trans b
theorem kzyn(g:Int->Rat)(s:Int):∀m:List (Int×Int),mS g (mput keqI m s (Option.getD (mget keqI m s) 0+1))=mS g m+g s
 |[]=>by show(((0:Int)+1:Int):Rat)*g s+0=0+g s;have:(((0:Int)+1:Int):Rat)=1:=rfl;rw[this];grind
 |p :: m=>by
  have ih:=kzyn g s m;by_cases h:s=p.1
  ·have hq:keqI s p.1=true:=Bt h;have e1:mget keqI (p :: m) s=some p.2:=by show(match keqI s p.1 with | true=>some p.2 | false=>mget keqI m s)=_;rw[hq]
   have e2:∀b,mput keqI (p :: m) s b=(s,b) :: m:=fun b=>by show(match keqI s p.1 with | true=>(s,b) :: m | false=>p :: mput keqI m s b)=_;rw[hq]
   rw[e1,e2];show((p.2+1:Int):Rat)*g s+mS g m=(p.2:Rat)*g p.1+mS g m+g s;rw[<-h,Rat.intCast_add];have:((1:Int):Rat)=1:=rfl;rw[this];grind
  ·have hq:keqI s p.1=false:=BE h;have e1:mget keqI (p :: m) s=mget keqI m s:=by show(match keqI s p.1 with | true=>some p.2 | false=>mget keqI m s)=_;rw[hq]
   have e2:∀b,mput keqI (p :: m) s b=p :: mput keqI m s b:=fun b=>by show(match keqI s p.1 with | true=>(s,b) :: m | false=>p :: mput keqI m s b)=_;rw[hq]
   rw[e1,e2];show(p.2:Rat)*g p.1+mS g (mput keqI m s _)=(p.2:Rat)*g p.1+mS g m+g s;rw[ih];grind
structure CntB(n:Nat)(m:List (Int×Int)):Prop where
 len:m.length<=n
 ent:∀p,p∈m->(0<=p.1/\p.1<=1000)/\0<=p.2/\p.2<=n
theorem kzzf{m:List (Int×Int)}{s b:Int}:∀p,p∈mput keqI m s b->p=(s,b)\/p∈m:=by
 induction m with
 |nil=>intro p hp;exact .inl (CM.1 hp)
 |cons q m ih =>
  intro p hp;cases hq:keqI s q.1
  ·have e2:mput keqI (q :: m) s b=q :: mput keqI m s b:=by show(match keqI s q.1 with | true=>(s,b) :: m | false=>q :: mput keqI m s b)=_;rw[hq]
   rw[e2]at hp;rcases AM.1 hp with rfl|hp
   ·exact .inr (Be ..)
   ·exact(ih p hp).imp id (Bi _)
  ·have e2:mput keqI (q :: m) s b=(s,b) :: m:=by show(match keqI s q.1 with | true=>(s,b) :: m | false=>q :: mput keqI m s b)=_;rw[hq]
   rw[e2]at hp;exact(AM.1 hp).imp id (Bi _)
theorem kzzg{m:List (Int×Int)}{s b:Int}:(mput keqI m s b).length<=m.length+1:=by
 induction m with
 |nil=>exact AD _
 |cons q m ih =>
  cases hq:keqI s q.1
  ·have e2:mput keqI (q :: m) s b=q :: mput keqI m s b:=by show(match keqI s q.1 with | true=>(s,b) :: m | false=>q :: mput keqI m s b)=_;rw[hq]
   rw[e2];simp only[DL];omega
  ·have e2:mput keqI (q :: m) s b=(s,b) :: m:=by show(match keqI s q.1 with | true=>(s,b) :: m | false=>q :: mput keqI m s b)=_;rw[hq]
   rw[e2];simp only[DL];omega
theorem kz0l{m:List (Int×Int)}{s v:Int}(h:mget keqI m s=some v):(s,v)∈m:=by
 induction m with
 |nil=>cases h
 |cons q m ih =>
  cases hq:keqI s q.1
  ·have e1:mget keqI (q :: m) s=mget keqI m s:=by show(match keqI s q.1 with | true=>some q.2 | false=>mget keqI m s)=_;rw[hq]
   rw[e1]at h;exact Bi _ (ih h)
  ·have e1:mget keqI (q :: m) s=some q.2:=by show(match keqI s q.1 with | true=>some q.2 | false=>mget keqI m s)=_;rw[hq]
   rw[e1]at h;have:s=q.1:=Ip hq;cases h;rw[this];exact Be ..
theorem kzyw{n:Nat}{m:List (Int×Int)}(H:CntB n m){s:Int}(hs:0<=s/\s<=1000):(0<=Option.getD (mget keqI m s) 0/\Option.getD (mget keqI m s) 0<=n)/\CntB (n+1) (mput keqI m s (Option.getD (mget keqI m s) 0+1)):=by
 have hg:0<=Option.getD (mget keqI m s) 0/\Option.getD (mget keqI m s) 0<=n:=by
  cases e:mget keqI m s with
  |none=>exact⟨Int.le_refl _,by show(0:Int)<=n;omega⟩
  |some v=>exact(H.ent _ (kz0l e)).2
 have hl:=H.len;refine⟨hg,⟨Bg kzzg (by omega),fun p hp=>?_⟩⟩;rcases kzzf p hp with rfl|hp
 ·exact⟨hs,by dsimp only;omega,by dsimp only;omega⟩
 ·obtain⟨a,b,c⟩:=H.ent p hp;exact⟨a,b,by omega⟩
theorem kzxx(g:Int->Rat):∀(L:List Int) (m:List (Int×Int)) (n:Nat),CntB n m->(∀s,s∈L->0<=s/\s<=1000)->n+L.length<=1000000 -> ∃m',H6 L m=some m'/\CntB (n+L.length) m'/\mS g m'=mS g m+sQ (L.map g)
 |[],m,n,H,_,_=>⟨m,rfl,H,by show _=mS g m+0;grind⟩
 |s :: L,m,n,H,hs,hn=>by
  obtain⟨h1,h2⟩:=kzyw H (hs s (Be ..));have hl:n+1+L.length<=1000000:=by simp at hn;omega
  obtain⟨m',e1,e2,e3⟩:=kzxx g L _ (n+1) h2 (fun t ht=>hs t (Bi _ ht)) hl;refine⟨m',?_,?_,?_⟩
  ·unfold H6;rw[AF (by omega)];exact e1
  ·rw[show n+(s :: L).length=n+1+L.length by simp;omega];exact e2
  ·rw[e3,kzyn];show mS g m+g s+sQ (L.map g)=mS g m+(g s+sQ (L.map g))
   grind
structure Qi(s:Aj)(A:Nat)(g:Int->Rat):Prop where
 eq:∀st,0<=st->st<=1000->BF s st=some (rof (g st))/\Sz A (rof (g st))
theorem UE{s:Aj}{A:Nat}{g:Int->Rat}(hR:Qi s A g)(hA:1<=A/\A<=8388608):∀(m:List (Int×Int)) (q:Rat) (k:Nat),(∀p,p∈m->(0<=p.1/\p.1<=1000)/\0<=p.2/\p.2<=1000000)->Sz k (rof q)->1<=k->k+m.length*(A+10)<=2147483648 ->
  Cj s m (rof q)=some (rof (q+mS g m))/\Sz (k+m.length*(A+10)) (rof (q+mS g m))
 |[],q,k,_,hk,_,_=>by
  have e:q+mS g []=q:=by show q+0=q;grind
  rw[e];exact⟨rfl,hk.mono (by simp)⟩
 |p :: m,q,k,hm,hk,k1,hb=>by
  obtain⟨⟨a1,a2⟩,b1,b2⟩:=hm p (Be ..);have hl:(p :: m).length*(A+10)=m.length*(A+10)+(A+10):=by rw[DL,Ga]
  rw[hl]at hb;obtain⟨i1,i2⟩:=Jq (n:=p.2) (by omega) (by omega);obtain⟨r1,r2⟩:=hR.eq p.1 a1 a2;obtain⟨m1,m2⟩:=MH i2 r2 (by omega) (by omega) (by omega) (by omega);rw[Ge,Ge]at m1 m2;obtain⟨s1,s2⟩:=Jp hk m2 (by omega) (by omega) (by omega) (by omega);rw[Ge,Ge]at s1 s2;obtain⟨t1,t2⟩:=UE hR hA m (q+(p.2:Rat)*g p.1) (k+(8+A+1)+1) (fun p hp=>hm p (Bi _ hp)) s2 (by omega) (by omega);have e:q+mS g (p :: m)=q+(p.2:Rat)*g p.1+mS g m:=by show q+((p.2:Rat)*g p.1+mS g m)=_;grind
  rw[e];refine⟨?_,t2.mono (by omega)⟩;unfold Cj;rw[i1,Af,r1,Af,m1,Af,s1,Af];exact t1
theorem kzxs{U:Type}{x:U}:∀{l m:List U},m∈insA x l->m.Perm (x :: l)
 |[],m,h=>by rw[CM.1 h]
 |y :: l,m,h=>by
  rcases AM.1 h with rfl|h
  ·exact .refl _
  ·obtain⟨z,hz,rfl⟩:=FX.1 h;exact((kzxs hz).cons y).trans (.swap x y l)
theorem kzxo{U:Type}:∀{l m:List U},m∈Mj l->m.Perm l
 |[],m,h=>by rw[CM.1 h]
 |x :: l,m,h=>by obtain⟨z,hz,hm⟩:=List.mem_flatMap.1 h;exact(kzxs hm).trans ((kzxo hz).cons x)
theorem kzzi(a:Ag):eqR (some a) (some a)=true:=by simp[eqR]
theorem kzzp{s:Aj}{A:Nat}{g:Int->Rat}(hR:Qi s A g)(hA:1<=A/\A<=8388608){m:List (Int×Int)}{q:Rat}{k:Nat}(hm:∀p,p∈m->(0<=p.1/\p.1<=1000)/\0<=p.2/\p.2<=1000000)(hk:Sz k (rof q))(k1:1<=k)(hb:k+m.length*(A+10)<=2147483648) :
  Gy s m (rof q)=some (rof (q+mS g m))/\Sz (k+m.length*(A+10)) (rof (q+mS g m)):=by
 obtain⟨t1,t2⟩:=UE hR hA m q k hm hk k1 hb;refine⟨?_,t2⟩;unfold Gy;rw[Dw.2 fun m' hp=>?_]
 ·exact t1
 ·have hp:=kzxo hp;obtain⟨u1,_⟩:=UE hR hA m' q k (fun p lg=>hm p (hp.mem_iff.1 lg)) hk k1 (by rw[hp.length_eq];exact hb);rw[u1,t1,kz0p hp,kzzi]
def rwR(a b s:Int):A9:=⟨a,b,[⟨s,b-a⟩],0,0⟩
theorem kzx6{a b s:Int}(h:-1000000000000<=a/\a<=1000000000000/\-1000000000000<=b/\b<=1000000000000):EG a b s=some (rwR a b s):=by unfold EG;rw[AF (by omega)];rfl
theorem kz0c{a b s c d u:Int}(h:0<=a/\a<=1402560/\0<=d/\d<=1402560):∃p,Hx (rwR a b s) (rwR c d u)=some p/\(p.2=true->p.1=rwR a d s):=by
 unfold Hx;have r1:∀x y z:Int,Oj (rwR x y z)=some true:=fun x y z=>rfl;have g1:∀x y z:Int,Ol (rwR x y z)=some false:=fun x y z=>rfl;rw[r1,r1,g1];simp only[Af,Dq,I0];rw[at_e (j:=0) (n:=0) rfl (show(rwR a b s).Table[0]?=some ⟨s,b-a⟩ from rfl),at_e (j:=0) (n:=0) rfl (show(rwR c d u).Table[0]?=some ⟨u,d-c⟩ from rfl)];simp only[Af];by_cases e:s=u
 ·rw[it_d e];rw[show EG (rwR a b s).From (rwR c d u).To s=some (rwR a d s) from kzx6 (by show _<=a/\a<=_/\_<=d/\d<=_;omega)];exact⟨_,rfl,fun _=>rfl⟩
 ·rw[it_n e];simp only[FJ,Af,Iz,FK];exact⟨_,rfl,fun h=>by cases h⟩
def RwO(out:List A9):Prop:=∀x,x∈out->∃a b s,x=rwR a b s/\0<=a/\a<=1402560
theorem kzrj{f:Int}(hf:0<=f):∀(l:List Int) (k:Int) (out:List A9),0<=k->f+k+l.length<=1402560->RwO out->∃o,ofL f k l out=some o/\o.length<=out.length+l.length
 |[],k,out,_,_,_=>⟨out,rfl,by simp⟩
 |s :: l,k,out,hk,hb,ho=>by
  have hb:f+k+l.length+1<=1402560:=by simp at hb;omega
  have hh:EG (f+k) (f+k+1) s=some (rwR (f+k) (f+k+1) s):=kzx6 (by omega)
  have key:∃o1,Hy out (rwR (f+k) (f+k+1) s)=some o1/\RwO o1/\o1.length<=out.length+1:=by
   have hx:∃a b t,rwR (f+k) (f+k+1) s=rwR a b t/\0<=a/\a<=1402560:=⟨_,_,_,rfl,by omega,by omega⟩;rcases List.eq_nil_or_concat out with rfl|⟨m,a,rfl⟩
   ·exact⟨[_],rfl,fun x cP=>by rw[CM.1 cP];exact hx,by simp⟩
   ·rw[List.concat_eq_append]at *;obtain⟨a1,b1,s1,rfl,q1,q2⟩:=ho a (by simp);obtain⟨p,hp,dW⟩:=kz0c (a:=a1) (b:=b1) (s:=s1) (c:=f+k) (d:=f+k+1) (u:=s) (by omega);refine⟨bif p.2 then m++[p.1] else m++[rwR a1 b1 s1]++[rwR (f+k) (f+k+1) s],?_,?_,?_⟩
    ·unfold Hy;rw[List.getLast?_concat];simp only;rw[hp,Af,List.dropLast_concat]
    ·cases h2:p.2
     ·intro x cP;simp only[Iz,List.append_assoc,DJ,CM,AM,Qw,Q0]at cP;rcases cP with cP|rfl|rfl
      ·exact ho x (by simp[cP])
      ·exact⟨_,_,_,rfl,q1,q2⟩
      ·exact hx
     ·intro x cP;simp only[I0,DJ,CM]at cP;rcases cP with cP|rfl
      ·exact ho x (by simp[cP])
      ·rw[dW h2];exact⟨_,_,_,rfl,q1,q2⟩
    ·cases p.2<;>simp
  obtain⟨o1,e1,e2,e3⟩:=key;obtain⟨o,e4,e5⟩:=kzrj hf l (k+1) o1 (by omega) (by omega) e2;refine⟨o,?_,by simp;omega⟩;unfold ofL;rw[ck_t (by simp[A0];omega),hh,Af,e1,Af];exact e4
theorem kz0i{h:Au}{s:Aj}(g1:h.From<=s.From)(g2:s.From<s.To)(g3:s.To<=h.From+(h.Stages.length:Int)):sub h.Stages (s.From-h.From) (s.To-h.From)=(spt s).map (stg h):=by
 apply Qo;intro k;rw[Gf];unfold sub;by_cases hk:k<(s.To-s.From).toNat
 ·rw[U2 hk,List.getElem?_take_of_lt (by omega),Im];show _=some (stg h (s.From+(k:Int)));unfold stg;rw[show(s.From+(k:Int)-h.From).toNat=(s.From-h.From).toNat+k by omega];have:(s.From-h.From).toNat+k<h.Stages.length:=by omega
  rw[AG this];simp[List.getD,this]
 ·rw[JV (by simp;omega),JV (l:=spt s) (by rw[GR];omega)];rfl
noncomputable def gS(s:Aj)(st:Int):Rat:=rq (flw s.Curve (st+s.Datum))
theorem kz0g(h:Au)(s:Aj):sQ (((spt s).map (stg h)).map (gS s))=sL ((spr h s).map (·.2)):=by unfold sL spr gS;rw[List.map_map,List.map_map,List.map_map];rfl
theorem kzza(h:Au)(s:Aj)(l:List Aj):flws h (s :: l)=(spr h s).map (·.2)++flws h l:=by unfold flws prs;rw[List.flatMap_cons,List.map_append]
theorem kzzo(s:Aj)(l:List Aj):(tks (s :: l)).length=(s.To-s.From).toNat+(tks l).length:=by unfold tks;rw[List.flatMap_cons,Dx,GR]
theorem kzyt{h:Au}(hh:hisR h){A:Nat}(hA:1<=A/\A<=8388608):∀(l:List Aj) (q:Rat) (k:Nat),(∀s,s∈l->Qi s A (gS s)/\h.From<=s.From/\s.From<s.To/\s.To<=h.From+(h.Stages.length:Int))->Sz k (rof q)->1<=k->k+(tks l).length*(A+10)<=2147483648 ->
  vaL h l (rof q)=some (rof (q+sL (flws h l)),0)
 |[],q,k,_,_,_,_=>by
  have e:q+sL (flws h [])=q:=by show q+0=q;grind
  rw[e];rfl
 |s :: l,q,k,hl,hk,k1,hb=>by
  obtain⟨h1,h2,h3,h4⟩:=hh;obtain⟨r,g1,g2,g3⟩:=hl s (Be ..);have hc:=kzzo s l;have fW:=kz0i g1 g2 g3;have aH:∀t,t∈(spt s).map (stg h)->0<=t/\t<=1000:=fun t ht=>by rw[<-fW]at ht;exact h4 t (Gca (List.mem_of_mem_take ht))
  have aF:((spt s).map (stg h)).length=(s.To-s.From).toNat:=by rw[Fy,GR]
  obtain⟨m,e1,e2,e3⟩:=kzxx (gS s) ((spt s).map (stg h)) [] 0 ⟨by simp,fun p hp=>by cases hp⟩ aH (by rw[aF];omega);rw[aF,Dj]at e2;have e3:mS (gS s) m=sL ((spr h s).map (·.2)):=by rw[e3,kz0g];show 0+_=_;grind
  have d7:=e2.len;have ii:m.length*(A+10)<=(s.To-s.From).toNat*(A+10):=BD _ d7;rw[hc,Bb]at hb;obtain⟨a1,a2⟩:=kzzp r hA (m:=m) (q:=q) (k:=k) (fun p hp=>by obtain⟨x,y,z⟩:=e2.ent p hp;exact⟨x,y,by omega⟩) hk k1 (by omega);rw[e3]at a1 a2;have ih:=kzyt ⟨h1,h2,h3,h4⟩ hA l _ (k+(s.To-s.From).toNat*(A+10)) (fun s hs=>hl s (Bi _ hs)) (a2.mono (by omega)) (by omega) (by omega);unfold vaL;rw[AF (by omega),it_f (by simp;omega),ck_t (by simp[A0,Dv];omega),fW,e1,Af,a1,Af,ih,kzza,UD];congr 3
  grind
noncomputable def aS(L:List Ag)(D:List Ag):Rat:=sQ (D.map fun d=>rq d*((L.count d:Int):Rat))
theorem kzyk:∀D:List Ag,aS [] D=0
 |[]=>rfl
 |d :: D=>by have:=kzyk D;show rq d*(((0:Nat):Int):Rat)+aS [] D=0;rw[this];have:(((0:Nat):Int):Rat)=0:=rfl;rw[this];grind
theorem kzx4(x:Ag)(L:List Ag):∀D:List Ag,D.Nodup->aS (x :: L) D=aS L D+(if x∈D then rq x else 0)
 |[],_=>by show(0:Rat)=0+(if x∈[] then rq x else 0);rw[Ak (by simp)];grind
 |d :: D,hn=>by
  obtain⟨n1,n2⟩:=List.nodup_cons.1 hn;have ih:=kzx4 x L D n2;show rq d*(((x :: L).count d:Int):Rat)+aS (x :: L) D=rq d*((L.count d:Int):Rat)+aS L D+_;rw[ih];by_cases e:x=d
  ·subst e;rw[List.count_cons_self,Ak n1,Aq (Be ..)];have:(((L.count x+1:Nat):Int):Rat)=((L.count x:Int):Rat)+1:=by rw[show((L.count x+1:Nat):Int)=(L.count x:Int)+1 by omega,Rat.intCast_add];rfl
   rw[this];grind
  ·rw[List.count_cons_of_ne (by simpa using e)];by_cases m:x∈D
   ·rw[Aq m,Aq (Bi _ m)];grind
   ·rw[Ak m,Ak (fun h=>(AM.1 h).elim e m)];grind
theorem kzyq{D:List Ag}(hn:D.Nodup):∀L:List Ag,(∀x,x∈L->x∈D)->aS L D=sL L
 |[],_=>kzyk D
 |x :: L,h=>by
  rw[kzx4 x L D hn,Aq (h x (Be ..)),kzyq hn L fun y hy=>h y (Bi _ hy)];show sL L+rq x=rq x+sL L
  grind
theorem kzx7{L D:List Ag}{k:Nat}{d:Ag}(h:D[k]?=some d):aS L (D.take (k+1))=aS L (D.take k)+rq d*((L.count d:Int):Rat):=by
 unfold aS;rw[CK h,List.map_append,SM];show _+(_+0)=_
 grind
theorem qzya{h:Au}{l:List Aj}(R:LevR h l):(tks l).length<=h.Stages.length:=by
 have hr:=jznl R;obtain⟨a1,a2,a3,_⟩:=R.his;have hm:=jzn0 (jzl2 R) hr;have h2:cnt (fun t=>t∈tks l)<=cnt (fun t=>h.From<=t/\t<h.From+(h.Stages.length:Int)):=jznt fun t ht=>by obtain⟨s,hs,ht⟩:=List.mem_flatMap.1 ht;have:=R.gap s hs;have:=Nq.1 ht;omega
 have h3:=jzl7 (a:=h.From) (b:=h.From+(h.Stages.length:Int)) a1 (by omega);omega
theorem kzzw{P:Ag->Prop}:∀L:List Ag,(∃x,x∈L/\P x)->∃x,x∈L/\P x/\∀y,y∈L->P y->rq x<=rq y
 |[],h=>by obtain⟨x,h,_⟩:=h;cases h
 |a :: L,h=>by
  by_cases hl:∃x,x∈L/\P x
  ·obtain⟨x,h1,h2,h3⟩:=kzzw L hl;by_cases ha:P a/\rq a<rq x
   ·refine⟨a,Be ..,ha.1,fun y hy py=>?_⟩;rcases AM.1 hy with rfl|hy
    ·exact Rat.le_refl
    ·exact Rat.le_trans (Rat.le_of_lt ha.2) (h3 y hy py)
   ·refine⟨x,Bi _ h1,h2,fun y hy py=>?_⟩;rcases AM.1 hy with rfl|hy
    ·exact Rat.not_lt.1 fun e=>ha ⟨py,e⟩
    ·exact h3 y hy py
  ·obtain⟨x,h1,h2⟩:=h;rcases AM.1 h1 with rfl|h1
   ·refine⟨x,Be ..,h2,fun y hy py=>?_⟩;rcases AM.1 hy with rfl|hy
    ·exact Rat.le_refl
    ·exact absurd ⟨y,hy,py⟩ hl
   ·exact absurd ⟨x,h1,h2⟩ hl
theorem most{P:Ag->Prop}:∀L:List Ag,(∃x,x∈L/\P x)->∃x,x∈L/\P x/\∀y,y∈L->P y->rq y<=rq x
 |[],h=>by obtain⟨x,h,_⟩:=h;cases h
 |a :: L,h=>by
  by_cases hl:∃x,x∈L/\P x
  ·obtain⟨x,h1,h2,h3⟩:=most L hl;by_cases ha:P a/\rq x<rq a
   ·refine⟨a,Be ..,ha.1,fun y hy py=>?_⟩;rcases AM.1 hy with rfl|hy
    ·exact Rat.le_refl
    ·exact Rat.le_trans (h3 y hy py) (Rat.le_of_lt ha.2)
   ·refine⟨x,Bi _ h1,h2,fun y hy py=>?_⟩;rcases AM.1 hy with rfl|hy
    ·exact Rat.not_lt.1 fun e=>ha ⟨py,e⟩
    ·exact h3 y hy py
  ·obtain⟨x,h1,h2⟩:=h;rcases AM.1 h1 with rfl|h1
   ·refine⟨x,Be ..,h2,fun y hy py=>?_⟩;rcases AM.1 hy with rfl|hy
    ·exact Rat.le_refl
    ·exact absurd ⟨y,hy,py⟩ hl
   ·exact absurd ⟨x,h1,h2⟩ hl
theorem kz0v{L:List Ag}(h:∀x,x∈L->Vd x){n:Int}(h1:1<=n)(h2:n<=(L.length:Int)):JS L n (exd L n):=by obtain⟨d,d1,d2⟩:=jzas h h1 h2;obtain⟨x,a,b,c⟩:=most (P:=fun x=>n<=(abv (rq x) L:Int)) L ⟨d,((GT h).2.1 d).1 d1,d2⟩;have e:JS L n x:=⟨a,b,c⟩;rw[jzdh h e];exact e
theorem kzzk{L:List Ag}{n:Int}{x:Ag}(e:JS L n x)(n1:1<=n){v:Rat}(hv:rq x<v):(abv v L:Int)<n:=by
 refine Int.not_le.1 fun hn=>?_;have hp:0<abv v L:=by omega
 obtain⟨y,hy,py⟩:=List.countP_pos_iff.1 hp;obtain⟨z,a,b,c⟩:=kzzw (P:=fun y=>v<=rq y) L ⟨y,hy,Ip py⟩;have hz:abv (rq z) L=abv v L:=by unfold abv;refine List.countP_congr fun w hw=>?_;simp only[CO];exact⟨fun h=>Rat.le_trans b h,fun h=>c w hw h⟩
 have:=e.max z a (by rw[hz];exact hn)
 grind
theorem kz0m{L:List Ag}{x:Ag}(hx:x∈L)(mx:∀y,y∈L->¬rq x<rq y)(v:Rat):v<=rq x↔0<abv v L:=by unfold abv;rw[List.countP_pos_iff];exact⟨fun h=>⟨x,hx,Bt h⟩,fun⟨y,hy,py⟩=>Rat.le_trans (Ip py) (Rat.not_lt.1 (mx y hy))⟩
theorem kzzn{L:List Ag}{x:Ag}(hx:x∈L)(mx:∀y,y∈L->¬rq y<rq x)(v:Rat):v<=rq x↔abv v L=L.length:=by unfold abv;rw[List.countP_eq_length];exact⟨fun h y hy=>Bt (Rat.le_trans h (Rat.not_lt.1 (mx y hy))),fun h=>Ip (h x hx)⟩
theorem UF{β:Type}:∀{D:List (Int×β)},D.Pairwise (fun p q=>p.1<q.1)->∀{t:Int} {x:β},(t,x)∈D->mget keqI D t=some x
 |[],_,t,x,h=>by cases h
 |p :: D,hD,t,x,h=>by
  obtain⟨h1,h2⟩:=Ha.1 hD;show(match keqI t p.1 with | true=>some p.2 | false=>mget keqI D t)=_;rcases AM.1 h with rfl|h
  ·rw[show keqI t t=true from Bt rfl]
  ·have:=h1 _ h;rw[show keqI t p.1=false from decide_eq_false (by dsimp only at this;omega)];exact UF h2 h
theorem kzxz{β:Type}:∀{D:List (Int×β)} {t:Int} {x:β},(∀p,p∈D->p.1<t)->mput keqI D t x=D++[(t,x)]
 |[],t,x,_=>rfl
 |p :: D,t,x,h=>by have:=h p (Be ..);show(match keqI t p.1 with | true=>(t,x) :: D | false=>p :: mput keqI D t x)=_;rw[show keqI t p.1=false from BE (by omega)];show p :: mput keqI D t x=_;rw[kzxz fun q hq=>h q (Bi _ hq)];rfl
def onS(s:Aj):Aj:=⟨s.From,s.To,rof 1,s.Datum,s.Curve⟩
theorem kz0t(h:Au)(l:List Aj):prs h (l.map onS)=prs h l:=by unfold prs;rw[List.flatMap_map];rfl
theorem kz00(l:List Aj):tks (l.map onS)=tks l:=by unfold tks;rw[List.flatMap_map];rfl
theorem kzx2{h:Au}(hh:hisR h):Gw h=some true:=by
 obtain⟨h1,h2,h3,h4⟩:=hh;have hl:h.Stages.length<=1048576:=by omega
 unfold Gw Oi;rw[show(decide ((List.length h.Stages:Int)<=40000))=true from Bt (by omega)];rw[ck_t (by simp[A0];omega)];simp only[Dq,Af,I0];rw[show(bif decide (0<=h.From) then decide (h.From<=1402560-(h.Stages.length:Int)) else false)=true by simp;omega];simp only[Dq,I0];unfold Yx;rw[wz9v (g:=fun a0=>Rz a0) hl (fun s=>!(bif decide (0<=s) then decide (s<=1000) else false)) (fun s _=>rfl)];simp only[Af,I0];congr 1;rw[GV,decide_eq_false_iff_not,Ux];rintro⟨s,hs,e⟩;have:=h4 s hs;simp at e;omega
theorem kzzj{h:Au}(hh:hisR h)(hn:h.Stages.length<=200):∃o,Gx h=some (o,0):=by unfold Gx;rw[kzx2 hh];simp only[Af,Ql,FK];obtain⟨h1,h2,h3,h4⟩:=hh;obtain⟨o,e1,e2⟩:=kzrj h1 h.Stages 0 [] (by omega) (by omega) (fun x hx=>by cases hx);rw[e1,Af,it_n (by simp at e2;omega)];exact⟨o,rfl⟩
theorem kz0q{h:Au}{l:List Aj}(R:LevR h l):LevR h (l.map onS):=by
 have hl:=R.sz.l;refine⟨⟨⟨by rw[Fy];exact hl.len,fun s hs=>?_⟩,R.sz.n⟩,R.his,by rw[Fy];exact R.len,fun s hs=>?_,fun k hk=>?_,fun s hs=>?_⟩
 ·obtain⟨t,ht,rfl⟩:=FX.1 hs;exact⟨(hl.sz t ht).c,(Jq (n:=1) (by omega) (by omega)).2.mono (by omega)⟩
 ·obtain⟨t,ht,rfl⟩:=FX.1 hs;obtain⟨a,b,c,d,e,f,g⟩:=R.span t ht;exact⟨a,b,c,d,e,Zw _,g⟩
 ·have:=R.asc k (by simpa using hk);rw[List.getElem_map,List.getElem_map];exact this
 ·obtain⟨t,ht,rfl⟩:=FX.1 hs;exact R.gap t ht
theorem kz0n{h:Au}{l:List Aj}(R:LevR h l){s:Aj}(hs:s∈l):Qi (onS s) 4194313 (gS (onS s)):=by
 obtain⟨a,b,c,d,e,f,g⟩:=R.span s hs;have hc:=(R.sz.l.sz s hs).c;refine⟨fun st h1 h2=>?_⟩;have i2:=(Jq (n:=1) (by omega) (by omega)).2;have hz:-100000<=st+s.Datum/\st+s.Datum<=100000:=by omega
 obtain⟨m1,m2⟩:=MH i2 (jzhs (PY hc g) hz) (by omega) (by omega) (by omega) (by omega);have eg:rq (rof ((1:Int):Rat))*rq (flw s.Curve (st+s.Datum))=gS (onS s) st:=by rw[Ge];show((1:Int):Rat)*rq (flw s.Curve (st+s.Datum))=rq (flw s.Curve (st+s.Datum));have:((1:Int):Rat)=1:=rfl;rw[this];grind
 rw[eg]at m1 m2;refine⟨?_,m2⟩;unfold BF;rw[show(onS s).Datum=s.Datum from rfl,show(onS s).Curve=s.Curve from rfl,show(onS s).Weight=rof ((1:Int):Rat) from rfl];rw[AF (by omega),jzeb hc g hz,Af,m1,Af]
theorem kzzm{h:Au}{l:List Aj}(R:LevR h l)(hn:h.Stages.length<=200):Hz h (l.map onS)=some (rof (sL (flws h l)),0):=by
 have R1:=kz0q R;have hf:=qzya R;unfold Hz;rw[jzbd R1.sz.l,UC R1,Af,CG rfl];obtain⟨o,e⟩:=kzzj R.his hn;rw[e,Af,CG rfl];rw[show Ag.mk false [] []=rof 0 from Jo.symm];rw[kzyt R.his (A:=4194313) (by omega) (l.map onS) 0 1 (fun s hs=>?_) (by rw[Jo];exact Sz.zero _) (by omega) (by rw[kz00];omega)]
 ·have e0:(0:Rat)+sL (flws h (l.map onS))=sL (flws h l):=by
   unfold flws;rw[kz0t];grind
  rw[e0]
 ·obtain⟨t,ht,rfl⟩:=FX.1 hs;obtain⟨g1,g2⟩:=R.gap t ht;obtain⟨_,b,_⟩:=R.span t ht;exact⟨kz0n R ht,g1,b,g2⟩
theorem kz0d{h:Au}{l:List Aj}(R:LevR h l)(s0:Ba)(fj:s0.Spans=l)(z:Int):lp (OC (flws h l,z) s0) (0,[])=some (prs h l):=by
 have hl:=R.len;have eY:=jzm8 R;subst fj;rw[Ij (l:=s0.Spans) (fun k=>((k:Int),prs h (s0.Spans.take k))) (by omega) (o:=prs h s0.Spans) ?_ ?_ ?_]
 ·intro k s hs;have hk:=(AU.1 hs).1;obtain⟨r1,r2,r3,_⟩:=R.span s (BH hs);have e1:=U3 (h:=h) hs;have d6:(spr h s).length=(s.To-s.From).toNat:=by simp[spr,GR]
  have ja:prs h s0.Spans=prs h (s0.Spans.take k)++(spr h s++prs h (s0.Spans.drop (k+1))):=by
   have:s0.Spans=s0.Spans.take k++s :: s0.Spans.drop (k+1):=by have h2:=Qp k s0.Spans;rw[Nt hk]at h2;have:s0.Spans[k]=s:=(AU.1 hs).2;rw[this]at h2;exact h2.symm
   conv=>lhs;rw[this]
   unfold prs;rw[List.flatMap_append,List.flatMap_cons]
  simp only[OC];rw[it_d (by omega),at_e rfl hs];simp only[Af];rw[jzct (fun i=>(s.From+(i:Int),prs h (s0.Spans.take k)++(spr h s).take i)) (s.To-s.From).toNat (by omega) (o:=prs h (s0.Spans.take k)++spr h s) ?_ ?_ (by simp)]
  ·simp only[Af];rw[AF (by omega),<-e1];rfl
  ·intro i hi;simp only[Sd];have hp:(spr h s)[i]?=some (s.From+(i:Int),flw s.Curve (stg h (s.From+(i:Int))+s.Datum)):=by unfold spr;rw[Gf,U2 hi];rfl
   have e3:=CK hp;have bB:(prs h s0.Spans)[(prs h (s0.Spans.take k)).length+i]?=some (s.From+(i:Int),flw s.Curve (stg h (s.From+(i:Int))+s.Datum)):=by rw[ja,Ir (by omega),FU (by omega)];rw[show(prs h (s0.Spans.take k)).length+i-(prs h (s0.Spans.take k)).length=i by omega];exact hp
   have fw:=(JQ bB).2;have aF:(prs h (s0.Spans.take k)++(spr h s).take i).length=(prs h (s0.Spans.take k)).length+i:=by rw[Dx,Iu];omega
   rw[it_d (by omega),at_e (by rw[aF]) fw,Af,AF (by omega),e3,<-List.append_assoc,show s.From+((i+1:Nat):Int)=s.From+(i:Int)+1 by omega];rw[kzxz fun p lg=>?_]
   have cx:prs h s0.Spans=(prs h (s0.Spans.take k)++(spr h s).take i)++((s.From+(i:Int),flw s.Curve (stg h (s.From+(i:Int))+s.Datum)) :: (prs h s0.Spans).drop ((prs h (s0.Spans.take k)).length+i+1)):=by
    have h2:=Qp ((prs h (s0.Spans.take k)).length+i) (prs h s0.Spans);have hlt:=(AU.1 bB).1;rw[Nt hlt,(AU.1 bB).2]at h2;rw[<-h2];congr 1
    ·rw[ja,List.take_append,Iw (by omega),show(prs h (s0.Spans.take k)).length+i-(prs h (s0.Spans.take k)).length=i by omega,List.take_append_of_le_length (by omega)]
    ·rw[h2]
   rw[cx]at eY;exact(List.pairwise_append.1 eY).2.2 p lg _ (Be ..)
  ·simp only[Sd];rw[it_n (by omega)];rw[Iw (l:=spr h s) (by omega)]
 ·simp only[OC];rw[it_n (by omega),List.take_length]
 ·rfl
theorem kz0j{h:Au}{l:List Aj}(R:LevR h l)(lv:Ag):levE h l lv=if Vd lv then 0 else 1:=by
 unfold levE;rw[UC R,Ak (by simp),Ak (by simp[R.his]),PT (f:=gapF h)]
 ·rfl
 ·intro i s hs;unfold gapF;have:=R.gap s (BH hs);rw[Ak (by omega)]
theorem kzyu{L:List Ag}(hL:L.length<=200)(hz:∀x,x∈L->Sz 4194304 x):∀k,k<=L.length->Sz (1+k*4194305) (rof (sL (L.take k)))
 |0,_=>by show Sz _ (rof 0);rw[Jo];exact Sz.zero _
 |k+1,hk=>by have ih:=kzyu hL hz k (by omega);have hx:=AG (show k<L.length by omega);have h2:=(Jp ih (hz _ (BH hx)) (by omega) (by omega) (by omega) (by omega)).2;rw[Ge]at h2;rw[CK hx,UD,kzzc];exact h2.mono (by omega)
theorem kzzq{L:List Ag}(hL:L.length<=200)(hz:∀x,x∈L->Sz 4194304 x){z t u e f:Int}{x w:Ag}(hx:x∈L)(hw:w∈L)(mx:∀y,y∈L->¬rq x<rq y)(mw:∀y,y∈L->¬rq y<rq w) :
  lp (OD (L,z) (⟨x,t⟩,e) (⟨w,u⟩,f)) (0,Ag.mk false [] [])=some (.inl (rof (sL L))):=by
 rw[Ij (l:=L) (fun k=>((k:Int),rof (sL (L.take k)))) (by omega) (o:=.inl (rof (sL L))) ?_ ?_ ?_]
 ·intro k y hy;have hk:=(AU.1 hy).1;have hm:=BH hy;simp only[OD];rw[it_d (by omega),at_e rfl hy,Af];rw[N3 (hz y hm) (hz x hx) (by omega) (by omega) (by omega) (by omega),Af];rw[BE (fun h=>mx y hm (U4.1 h)),UG,Dq];rw[N3 (hz y hm) (hz w hw) (by omega) (by omega) (by omega) (by omega),Af,Iz];rw[it_n (fun h=>mw y hm (Np.1 h))];obtain⟨a1,a2⟩:=Jp (kzyu hL hz k (by omega)) (hz y hm) (by omega) (by omega) (by omega) (by omega);rw[Ge]at a1;rw[a1,Af,AF (by omega),CK hy,UD,kzzc];rfl
 ·simp only[OD];rw[it_n (by omega),List.take_length]
 ·rfl
theorem kzy8(s0:Ba)(hl:s0.Spans.length<=20):lp (OG s0) (0,[]++s0.Spans)=some (s0.Spans.map onS):=by
 rw[Ij (l:=s0.Spans) (fun k=>((k:Int),(s0.Spans.take k).map onS++s0.Spans.drop k)) (by omega) (o:=s0.Spans.map onS) ?_ ?_ ?_]
 ·intro k s hs;have hk:=(AU.1 hs).1;have dO:s0.Spans.drop k=s :: s0.Spans.drop (k+1):=by rw[Nt hk,(AU.1 hs).2]
  have aF:((s0.Spans.take k).map onS).length=k:=by rw[Fy,Iu];omega
  simp only[OG,Gcd];rw[it_d (by omega),(Jq (n:=1) (by omega) (by omega)).1,Af];rw[at_e (n:=k) (x:=s) rfl (by rw[Ir (by omega),aF,dO];simp),Af,AF (by omega)];have e:(List.map onS (List.take k s0.Spans)++List.drop k s0.Spans).set k (onS s)=List.map onS (List.take (k+1) s0.Spans)++List.drop (k+1) s0.Spans:=by rw[List.set_append_right _ _ (by omega),aF,dO,CK hs,List.map_append,Nat.sub_self];simp
  rw[CL];show some (Sum.inl ((k:Int)+1,(List.map onS (List.take k s0.Spans)++List.drop k s0.Spans).set k (onS s)))=_;rw[e];rfl
 ·simp only[OG,Gcd];rw[it_n (by omega),List.take_length,List.drop_length,List.append_nil]
 ·simp
theorem kzyg{D:List Ag}(h:Dsc D):D.Nodup:=h.imp fun e k=>by subst k;exact Rat.lt_irrefl e
theorem kzx3{L D:List Ag}(hL:L.length<=200)(hD:D.length<=200)(hz:∀x,x∈D->Sz 4194304 x):∀k,k<=D.length->Sz (1+k*4194314) (rof (aS L (D.take k)))
 |0,_=>by show Sz _ (rof 0);rw[Jo];exact Sz.zero _
 |k+1,hk=>by have ih:=kzx3 hL hD hz k (by omega);have hx:=AG (show k<D.length by omega);have hc:L.count D[k]<=L.length:=List.count_le_length;have i2:=(Jq (n:=(L.count D[k]:Int)) (by omega) (by omega)).2;have m2:=(MH (hz _ (BH hx)) i2 (by omega) (by omega) (by omega) (by omega)).2;have h2:=(Jp ih m2 (by omega) (by omega) (by omega) (by omega)).2;rw[Ge,Ge,Ge]at h2;rw[kzx7 hx];exact h2.mono (by omega)
theorem kzyo{L:List Ag}(hL:L.length<=200)(hz:∀x,x∈L->Sz 4194304 x/\Vd x)(z:Int):lp (OI (dwls L,z)) (0,0,Ag.mk false [] [])=some (.inl ((L.length:Int),rof (sL L))):=by
 have hV:∀x,x∈L->Vd x:=fun x hx=>(hz x hx).2;obtain⟨d1,d2,d3⟩:=GT hV;have om:∀x,x∈dsc L->Sz 4194304 x:=fun x hx=>(hz x ((d2 x).1 hx)).1;rw[Ij (l:=dsc L) (fun k=>((L.countP (fun x=>decide (x∈(dsc L).take k)):Int),(k:Int),rof (aS L ((dsc L).take k)))) (by omega) (o:=.inl ((L.length:Int),rof (sL L))) ?_ ?_ ?_]
 ·intro k d hd;have hk:=(AU.1 hd).1;have hm:=(d2 d).1 (BH hd);have c1:=jzes hV hd;have c2:=U9 hV hd;have c3:0<L.count d:=List.count_pos_iff.2 hm;have c4:L.count d<=L.length:=List.count_le_length;have c5:L.countP (fun x=>decide (x∈(dsc L).take (k+1)))<=L.length:=List.countP_le_length;simp only[OI];rw[it_d (by rw[GU];omega),at_e rfl (Nr hd),Af];rw[show(dwl L d).Ticks=(abv (rq d) L:Int) from rfl,show(dwl L d).Flow=d from rfl,c2,c1];rw[it_n (by omega),AF (by omega)];rw[show((L.countP (fun x=>decide (x∈(dsc L).take k))+L.count d:Nat):Int)-(L.countP (fun x=>decide (x∈(dsc L).take k)):Int)=(L.count d:Int) by omega];obtain⟨i1,i2⟩:=Jq (n:=(L.count d:Int)) (by omega) (by omega);obtain⟨m1,m2⟩:=MH (hz d hm).1 i2 (by omega) (by omega) (by omega) (by omega);obtain⟨a1,a2⟩:=Jp (kzx3 hL (by omega) om k (by omega)) m2 (by omega) (by omega) (by omega) (by omega);rw[Ge]at m1;rw[Ge,Ge,Ge]at a1;rw[i1,Af,m1,Af,a1,Af,AF (by omega),<-kzx7 hd];rfl
 ·simp only[OI];rw[it_n (by rw[GU];omega),List.take_length,kzyq (kzyg d1) L fun x hx=>(d2 x).2 hx,List.countP_eq_length.2 fun x hx=>Bt ((d2 x).2 hx)]
 ·rw[List.take_zero];show _=((L.countP (fun x=>decide (x∈([]:List Ag))):Int),(0:Int),rof 0);rw[Jo,List.countP_eq_zero.2 (fun x _=>by simp)];rfl
theorem kz0h{s0:Ba}(A:SdS 1048576 s0){n1:Int}(hn:0<=n1/\n1<=255):Se s0 n1=some true:=by
 have zv:Vd (Ag.mk false [] []):=Ce.2 (.inl rfl);unfold Se;rw[jzis];simp only[Af];by_cases iI:200<(s0.History.Stages.length:Int)\/20<(s0.Spans.length:Int)
 ·rw[it_t (by rcases iI with h|h<;>simp[h])]
 rw[it_f (by simp;omega),jzbe A.h,jzbl A.h A.v (by omega) (by omega)];simp only[Af];by_cases e:levE s0.History s0.Spans s0.Level=0;rotate_left
 ·by_cases e0:levE s0.History s0.Spans (Ag.mk false [] [])=0;·have R:=(Ik A.h e0).1;have e1:=kz0j R s0.Level;have hv:¬Vd s0.Level:=fun hv=>e (by rw[e1,Aq hv]);rw[Ak hv]at e1;rw[Aq e0,e1,it_t (by simp)];simp;cases decide (flws s0.History s0.Spans=[])<;>rfl
  ·rw[Ak e,Ak e0,it_t (by simp[e])];simp;rfl
 obtain⟨R,hv⟩:=Ik A.h e;rw[Aq (JT R zv),Aq e,it_f (by simp),jzcx A.h,jzdv A.h,jzm7 R];simp only[Af];have ot:=qzya R;have fw:=GS s0.History s0.Spans;have bB:=Ed s0.History s0.Spans;have kE:=Qd (rq s0.Level) (flws s0.History s0.Spans);rw[it_f (by simp;omega)];by_cases h0:(tks s0.Spans).length=0
 ·unfold peak low;rw[jzm1 R h0,jzm1 R h0,it_d (by omega)];rfl
 rw[it_n (by omega)];obtain⟨x,tx,ex,ix,mx⟩:=jzm0 (P:=fun p q=>q<p) jznh jznf R h0;obtain⟨w,tw,ew,iw,mw⟩:=jzm0 (P:=fun p q=>p<q) jzni jzne R h0;have hx:=jzmu ix;have hw:=jzmu iw;have ou:=(R.szf _ hx).1;have ov:=(R.szf _ hw).1;have eY:=jzm8 R;rw[kz0d R s0 rfl,Af];unfold peak low;rw[ex,ew];dsimp only;rw[N3 ou A.v (by omega) (by omega) (by omega) (by omega),N3 ov A.v (by omega) (by omega) (by omega) (by omega),UF eY ix,UF eY iw];simp only[Af,Nz,beq_self_eq_true,decide_true,Bool.and_self,Ql,Iz];have q1:decide (0<=cmpQ (rq x) (rq s0.Level))=decide (0<(abv (rq s0.Level) (flws s0.History s0.Spans):Int)):=decide_eq_decide.2 (Qe.trans ((kz0m hx mx _).trans (by omega)));have q2:decide (0<=cmpQ (rq w) (rq s0.Level))=decide ((abv (rq s0.Level) (flws s0.History s0.Spans):Int)=((prs s0.History s0.Spans).length:Int)):=decide_eq_decide.2 (Qe.trans ((kzzn hw mw _).trans (by omega)));rw[q1,q2,it_f (by simp)];rw[kzzq (by omega) (fun y hy=>(R.szf y hy).1) hx hw mx mw];simp only[Af];have jM:0<((prs s0.History s0.Spans).length:Int):=by omega
 have hm:=Int.emod_nonneg n1 (show((prs s0.History s0.Spans).length:Int)≠0 by omega);have jv:=Int.emod_lt_of_pos n1 jM;have ht:n1.tmod ((prs s0.History s0.Spans).length:Int)=n1%((prs s0.History s0.Spans).length:Int):=Int.tmod_eq_emod_of_nonneg hn.1;rw[ht];generalize hq:n1%((prs s0.History s0.Spans).length:Int)=q at *;rw[AF (by omega),OS (by omega),AF (by omega),jzd1 A.h,Aq (JT R zv)];simp only[Af];have hV:∀x,x∈flws s0.History s0.Spans->Vd x:=fun x hx=>(R.szf x hx).2;have lh:excE (flws s0.History s0.Spans) (1+q)=(exd (flws s0.History s0.Spans) (1+q),0):=by unfold excE;rw[Ak (by omega)]
 have hE:=kz0v hV (n:=1+q) (by omega) (by omega);rw[lh];generalize exd (flws s0.History s0.Spans) (1+q)=d at *;have li:=R.szf _ hE.mem;rw[jzbl A.h li.1 (by omega) (by omega),Aq (JT R li.2)];simp only[Af];have aB:=hE.ok;rw[decide_true,BE (show ¬((abv (rq d) (flws s0.History s0.Spans):Int)<1+q) by omega)];simp only[Ql,Iz,UG,Dq];rw[N3 A.v li.1 (by omega) (by omega) (by omega) (by omega)];simp only[Af]
 rw[it_f (by
  by_cases hc:0<cmpQ (rq s0.Level) (rq d)
  ·have:=kzzk hE (by omega) (U4.1 hc);rw[Bt hc,I0];exact BE (by omega)
  ·rw[BE hc];rfl)]
 rw[ck_d (by simp;omega),kzy8 s0 (by omega),Af,kzzm R (by omega),Af,jzdl A.h,Aq (JT R zv),Af];rw[kzyo (by omega) R.szf];simp only[Af];rw[Bt (show((flws s0.History s0.Spans).length:Int)=((prs s0.History s0.Spans).length:Int) by omega)];simp
end Go.Am

