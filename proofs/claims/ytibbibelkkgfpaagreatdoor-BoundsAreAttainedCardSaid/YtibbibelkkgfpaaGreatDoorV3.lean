/- Part V3: the mathematics of flows and levels. No condition. -/
import Derived.Test.YtibbibelkkgfpaaGreatDoorV2
set_option linter.unusedSimpArgs false
set_option linter.unusedVariables false
namespace Go.Am
noncomputable section
theorem qz8k{N:Nat}{f:Int->Option Bool}{p:Nat->Bool}(hN:N<=1000000000)(hf:∀k,k<N->f (k:Int)=some (p k))(mono:∀j k,j<=k->k<N->p j=true->p k=true) : ∃n,n<=N/\(∀k,k<n->p k=false)/\(∀k,n<=k->k<N->p k=true)/\Jv (N:Int) f=some (n:Int):=by
 unfold Jv
 obtain⟨o,e,n,rfl,h1,h2,h3⟩:=C6 (s:=((0:Int),(N:Int))) (body:=JZ f) (fun t=>∃i j:Nat,t=((i:Int),(j:Int))/\i<=j/\j<=N/\(∀k,k<i->p k=false)/\(∀k,j<=k->k<N->p k=true)) (fun t=>(t.2-t.1).toNat) (fun o=>∃n:Nat,o=(n:Int)/\n<=N/\(∀k,k<n->p k=false)/\(∀k,n<=k->k<N->p k=true)) (by
  rintro t ⟨i,j,rfl,iy,hj,lo,hi⟩;simp only[JZ];by_cases hlt:i<j
  ·left;have gY:Int.fdiv (((i:Int)+(j:Int))%18446744073709551616) 2=(((i+j) / 2:Nat):Int):=by rw[show(((i:Int)+(j:Int))%18446744073709551616)=((i+j:Nat):Int) by omega,Lb _ (by omega)];omega
   have hm:(i+j) / 2<N:=by omega
   rw[it_d (by omega),A7 (by omega),gY,A7 (by omega),hf _ hm,Ab];cases hp:p ((i+j) / 2)
   ·rw[Ft,GW,A7 (by omega)];refine⟨_,rfl,⟨(i+j) / 2+1,j,by simp,by omega,hj,fun k h2=>?_,hi⟩,by dsimp only;omega⟩;cases hk:p k
    ·rfl
    ·have:=mono k ((i+j) / 2) (by omega) hm hk;rw[hp]at this;cases this
   ·rw[E4,Du];exact⟨_,rfl,⟨i,(i+j) / 2,rfl,by omega,by omega,lo,fun k h2 h4=>mono _ k h2 h4 hp⟩,by dsimp only;omega⟩
  ·right;rw[it_n (by omega)];obtain rfl:i=j:=by omega
   exact⟨_,rfl,i,rfl,hj,lo,hi⟩) ⟨0,N,rfl,by omega,A8 _,fun k h=>by omega,fun k h h2=>by omega⟩ (by show((N:Int)-0).toNat<_;omega)
 exact⟨n,h1,h2,h3,by rw[e];rfl⟩
structure SpR(l:List Al):Prop where
 len:l.length<=400
 sp:∀s,s∈l->0<=s.From/\s.From<s.To/\s.To<=1402560
 asc:∀k s t,l[k]?=some s->l[k+1]?=some t->s.To<=t.From
theorem SpR.far{l:List Al}(H:SpR l):∀(d i:Nat) (s t:Al),l[i]?=some s->l[i+(d+1)]?=some t->s.To<=t.From
 |0,i,s,t,h1,h2=>H.asc i s t h1 h2
 |d+1,i,s,t,h1,h2=>by obtain⟨u,h3⟩:=AR (l:=l) (k:=i+(d+1)) (by have:=(AE.1 h2).1;omega);have a:=H.far d i s u h1 h3;have b:=H.asc (i+(d+1)) u t h3 h2;have c:=H.sp u (AI h3);omega
def ovl1(x:Ao)(s:Al):Int:=min x.To s.To-max x.From s.From
def clsL(x:Ao):Int->List Al->List A9
 |_,[]=>[]
 |k,s :: l=>if 0<ovl1 x s then⟨k,ovl1 x s⟩ :: clsL x (k+1) l else clsL x (k+1) l
theorem Sl{x:Ao}:∀(l:List Al) (k:Int),(∀s,s∈l->ovl1 x s<=0)->clsL x k l=[]
 |[],_,_=>rfl
 |s :: l,k,h=>by have:=h s (AP ..);unfold clsL;rw[Ag (by omega)];exact Sl l _ fun t ht=>h t (AQ _ ht)
theorem KU{x:Ao}:∀(a b:List Al) (k:Int),clsL x k (a++b)=clsL x k a++clsL x (k+a.length) b
 |[],b,k=>by simp[clsL]
 |s :: a,b,k=>by
  show(if 0<ovl1 x s then _ else _)=(if 0<ovl1 x s then _ else _)++_;have e:k+((s :: a).length:Int)=k+1+(a.length:Int):=by simp;omega
  rw[e];split
  ·rw[Ga1,<-KU a b (k+1)];rfl
  ·rw[<-KU a b (k+1)];rfl
def clsT(l:List A9):Int:=isum (l.map (·.Ticks))
theorem Sn(a b:List A9):clsT (a++b)=clsT a+clsT b:=by
 unfold clsT;rw[List.map_append];generalize a.map (·.Ticks)=u;induction u with
 |nil=>rw[Gcd,show isum []=0 from rfl];omega
 |cons v u ih=>show v+isum (u++_)=v+isum u+isum _;omega
def clsA(x:Ao)(l:List Al):List A9:=clsL x 0 l++(if 0<x.To-x.From-clsT (clsL x 0 l) then [⟨-1,x.To-x.From-clsT (clsL x 0 l)⟩] else [])
theorem wzaa{x:Ao}{l:List Al}(H:SpR l)(hx:0<=x.From/\x.From<x.To/\x.To<=1402560)(hT:∀k,k<=l.length->0<=clsT (clsL x 0 (l.take k))/\clsT (clsL x 0 (l.take k))<=x.To-x.From):Ij x l=some (clsA x l):=by
 have hl:=H.len
 obtain⟨n,n1,n2,n3,n4⟩:=qz8k (N:=l.length) (f:=fun a0=>LW a0 l x) (p:=fun k=>decide (x.From<(l.getD k default).To)) (by omega) (fun k hk=>by
  obtain⟨s,hs⟩:=AR hk;simp only[LW];rw[at_e rfl hs,Ab];simp[List.getD,hs]) (fun j k jN hk hj=>by
  obtain⟨s,hs⟩:=AR (show j<l.length by omega);obtain⟨t,ht⟩:=AR hk;have e1:l.getD j default=s:=by simp[List.getD,hs]
  have e2:l.getD k default=t:=by simp[List.getD,ht]
  rw[e1]at hj;rw[e2];have hj:=BK hj;by_cases e:j=k
  ·subst e;rw[hs]at ht;cases ht;exact AD hj
  ·have:=H.far (k-j-1) j s t hs (by rw[show j+(k-j-1+1)=k by omega];exact ht);have:=H.sp t (AI ht);exact AD (by omega))
 have before:clsL x 0 (l.take n)=[]:=Sl _ _ fun s hs=>by
  obtain⟨k,hk⟩:=Dy.1 hs;have cH:k<n:=by have:=(AE.1 hk).1;simp at this;omega
  rw[List.getElem?_take_of_lt cH]at hk;have h1:=n2 k cH;have e1:l.getD k default=s:=by simp[List.getD,hk]
  simp only[e1,Gdx]at h1;unfold ovl1;omega
 unfold Ij;rw[A7 (by omega),n4,Ab]
 have fin:∀r:Int×List A9,r=(x.To-x.From-clsT (clsL x 0 l),clsL x 0 l)->r.2.length<=400->(match r with | (rest6,l3)=>ite' (decide (0<rest6)) (ck (decide (List.length (l3++[(A9.mk (-1) rest6)])*16<=140737488355328))<|some (l3++[(A9.mk (-1) rest6)])) (some l3))=some (clsA x l):=fun r hr aE=>by
  subst hr;unfold clsA;by_cases h:0<x.To-x.From-clsT (clsL x 0 l)
  ·rw[Aj h];simp only;rw[it_d h,ck_d (by simp at aE |-;omega)]
  ·rw[Ag h];simp only;rw[it_n h,List.append_nil]
 have clen:∀(m:List Al) (k:Int),(clsL x k m).length<=m.length:=fun m=>by
  induction m with
  |nil=>intro k;exact A8 _
  |cons s m ih =>
   intro k;have:=ih (k+1);unfold clsL;split
   ·simp;omega
   ·simp;omega
 obtain⟨r,e,hr⟩:=C6 (s:=(x.To-x.From,(n:Int),([]:List A9))) (body:=PD l x) (fun t=>∃k:Nat,n<=k/\k<=l.length/\t=(x.To-x.From-clsT (clsL x 0 (l.take k)),(k:Int),clsL x 0 (l.take k))) (fun t=>(l.length-t.2.1).toNat) (fun r=>r=(x.To-x.From-clsT (clsL x 0 l),clsL x 0 l)) (by
  rintro t ⟨k,k1,k2,rfl⟩;have hb:=hT k k2;simp only[PD];by_cases hk:k<l.length
  ·obtain⟨s,hs⟩:=AR hk;have dq:=H.sp s (AI hs);have h3:=n3 k k1 hk;have e1:l.getD k default=s:=by simp[List.getD,hs]
   simp only[e1,CN]at h3;rw[AD (show(k:Int)<(l.length:Int) by omega),Br,at_e rfl hs,Ab,BZ];by_cases hF:s.From<x.To
   ·left;rw[it_d hF];have pa:0<ovl1 x s:=by unfold ovl1;omega
    have gl:=qz72 hs;have cj:clsL x 0 (l.take (k+1))=clsL x 0 (l.take k)++[⟨(k:Int),ovl1 x s⟩]:=(by rw[gl,KU];congr 1;show(if 0<ovl1 x s then _ else _)=_;rw[Aj pa,Gs,Nat.min_eq_left (by omega)];simp[clsL]);have kZ:clsT (clsL x 0 (l.take (k+1)))=clsT (clsL x 0 (l.take k))+ovl1 x s:=(by rw[cj,Sn];show _+(ovl1 x s+0)=_;omega);have cK:=clen (l.take k) 0;rw[Gs]at cK;have dy:=hT (k+1) (by omega);rw[kZ]at dy;have eo:min x.To s.To-max x.From s.From=ovl1 x s:=rfl;rw[Ab,Ab,eo,A7 (by unfold ovl1;omega),ck_d (by simp;omega),A7 (by omega),A7 (by omega)];exact⟨_,rfl,⟨k+1,by omega,by omega,by rw[cj,<-cj,kZ,cj];congr 1;omega⟩,by dsimp only;omega⟩
   ·right;rw[it_n hF]
    have bD:clsL x 0 l=clsL x 0 (l.take k):=by
     conv=>lhs;rw[<-SL k l]
     rw[KU,Sl (l.drop k),List.append_nil];intro t ht;obtain⟨j,hj⟩:=Dy.1 ht;rw[Gf]at hj;have mg:=H.sp t (AI hj)
     have:s.From<=t.From:=by
      cases j with
      |zero=>rw[Gg,hs]at hj;cases hj;exact Jj _
      |succ j=>have:=H.far j k s t hs hj;omega
     unfold ovl1;omega
    exact⟨_,rfl,by rw[bD]⟩
  ·right;rw[AA (show ¬(k:Int)<(l.length:Int) by omega),Bs,Ab,Co,it_f rfl,SF (by omega)];exact⟨_,rfl,rfl⟩) ⟨n,Nat.le_refl _,n1,by rw[before];show _=(x.To-x.From-0,_,_);congr 1;omega⟩ (by dsimp only;omega)
 rw[e,Ab];exact fin r hr (by rw[hr];have:=clen l 0;simp only;omega)
def covE(x:Ao)(l:List Al):Nat->Int
 |0=>x.From
 |k+1=>max x.From (min x.To (l.getD k default).To)
theorem wzeg{x:Ao}{l:List Al}(H:SpR l)(hx:x.From<x.To):∀k,k<=l.length->0<=clsT (clsL x 0 (l.take k))/\clsT (clsL x 0 (l.take k))<=covE x l k-x.From
 |0,_=>by show 0<=(0:Int)/\(0:Int)<=x.From-x.From;omega
 |k+1,hk=>by
  obtain⟨h1,h2⟩:=wzeg H hx k (by omega);obtain⟨s,hs⟩:=AR (l:=l) (k:=k) (by omega);have dq:=H.sp s (AI hs);have e1:l.getD k default=s:=by simp[List.getD,hs]
  have cj:clsT (clsL x 0 (l.take (k+1)))=clsT (clsL x 0 (l.take k))+(if 0<ovl1 x s then ovl1 x s else 0):=by
   rw[qz72 hs,KU,Sn];congr 1;show clsT (if 0<ovl1 x s then _ else _)=_;split
   ·show ovl1 x s+0=_;omega
   ·rfl
  have hE:covE x l (k+1)=max x.From (min x.To s.To):=by show max x.From (min x.To (l.getD k default).To)=_;rw[e1]
  have mY:covE x l k<=max x.From s.From:=by
   cases k with
   |zero=>show x.From<=_;omega
   |succ j =>
    obtain⟨t,ht⟩:=AR (l:=l) (k:=j) (by omega);have e2:l.getD j default=t:=by simp[List.getD,ht]
    have:=H.asc j t s ht hs;show max x.From (min x.To (l.getD j default).To)<=_;rw[e2];omega
  rw[cj,hE];unfold ovl1;split
  ·omega
  ·refine⟨by omega,?_⟩
   have:covE x l k<=max x.From (min x.To s.To):=by
    cases k with
    |zero=>show x.From<=_;omega
    |succ j =>
     obtain⟨t,ht⟩:=AR (l:=l) (k:=j) (by omega);have e2:l.getD j default=t:=by simp[List.getD,ht]
     have:=H.asc j t s ht hs;show max x.From (min x.To (l.getD j default).To)<=_;rw[e2];omega
   omega
theorem wzhd{x:Ao}{l:List Al}(H:SpR l)(hx:x.From<x.To):∀k,k<=l.length->0<=clsT (clsL x 0 (l.take k))/\clsT (clsL x 0 (l.take k))<=x.To-x.From:=fun k hk=>by
 obtain⟨h1,h2⟩:=wzeg H hx k hk;refine⟨h1,Int.le_trans h2 ?_⟩;cases k with
 |zero=>show x.From-x.From<=_;omega
 |succ k=>show max x.From (min x.To (l.getD k default).To)-x.From<=_;omega
theorem So{x:Ao}:∀(l:List Al) (k:Int),∀c,c∈clsL x k l->0<c.Ticks
 |[],_,c,h=>by cases h
 |s :: l,k,c,h=>by
  unfold clsL at h;split at h
  ·rename_i h0;rcases AY.1 h with rfl|h
   ·exact h0
   ·exact So l _ c h
  ·exact So l _ c h
theorem qz9m{x:Ao}{l:List Al}(H:SpR l)(hx:0<=x.From/\x.From<x.To/\x.To<=1402560):Ij x l=some (clsA x l)/\(∀c,c∈clsA x l->0<c.Ticks)/\clsT (clsA x l)=x.To-x.From:=by
 have hb:=wzhd H hx.2.1;refine⟨wzaa H hx hb,fun c hc=>?_,?_⟩
 ·unfold clsA at hc;rcases Dx.1 hc with h|h
  ·exact So _ _ c h
  ·split at h;·rename_i h0;rw[BX.1 h];exact h0
   ·cases h
 ·have h2:=(hb l.length (A8 _)).2;rw[List.take_length]at h2;unfold clsA;rw[Sn];split
  ·show clsT (clsL x 0 l)+(x.To-x.From-clsT (clsL x 0 l)+0)=_;omega
  ·show clsT (clsL x 0 l)+0=_;omega
theorem qz0l{n:Nat}{a:Af}(ha:Sz n a)(n1:1<=n)(hn:n<=8589934592):ER a=some (rof (-(rq a)))/\Sz (n+2) (rof (-(rq a))):=by
 obtain⟨f,e1,hf⟩:=En (a:=⟨false,[],[]⟩) (Sz.zero 1) (by omega) (by omega);have e0:Ee ⟨false,[],[]⟩=some (AX.mk false [] [1]):=by decide +kernel
 rw[e0]at e1;obtain rfl:=(AJ e1).symm;obtain⟨g,e2,hg⟩:=En ha n1 (by omega);obtain⟨k,e3,hk⟩:=QI hf hg (by omega) (by omega);have hz:rq (Af.mk false [] [])=0:=by rw[<-Dl,Cl]
 rw[hz,show(0:Rat)-rq a = -(rq a) by grind]at hk;refine⟨?_,hk.sz.mono (by omega)⟩;unfold ER EU;rw[e2];simp only[Ab];rw[e3];simp only[Ab];rw[I9 hk (by omega)];rfl
def rtS(s:Al)(st:Int):Rat:=rq s.Weight*rq (flw s.Curve (st+s.Datum))
theorem Sp{s:Al}(hz:SSz s)(hr:BB s){st:Int}(h:0<=st/\st<=1000):Dt s st=some (rof (rtS s st))/\Sz 5242881 (rof (rtS s st)):=by
 obtain⟨a,b,c,d,e,f,g⟩:=hr;have gy:-100000<=st+s.Datum/\st+s.Datum<=100000:=by omega
 obtain⟨m1,m2⟩:=K5 hz.w (wzti (NA hz.c g) gy) (by omega) (by omega) (by omega) (by omega);refine⟨?_,m2⟩;unfold Dt;rw[A7 (by omega),wzk7 hz.c g gy,Ab,m1,Ab];rfl
theorem wzbd{s:Al}(hz:SSz s)(hr:BB s){st:Int}(h:0<=st/\st<=1000):Mz s st=some (rof (rtS s st),0):=by unfold Mz;rw[qzus hz,AD hr];simp only[Ab,E4,Du];rw[it_f (by simp;omega),(Sp hz hr h).1,Ab]
def rtC(l:List Al)(tu:Bool)(k st:Int):Rat:=if k<0 then 0 else bif tu then -(rtS (l.getD k.toNat default) st) else rtS (l.getD k.toNat default) st
theorem Sq{l:List Al}{tu:Bool}(hz:∀s,s∈l->SSz s/\BB s){k st:Int}(hk:k<0\/k<l.length)(h:0<=st/\st<=1000):GJ k st l tu=some (rof (rtC l tu k st))/\Sz 5242890 (rof (rtC l tu k st)):=by
 unfold GJ rtC;by_cases h0:k<0
 ·rw[it_d h0,Aj h0,Dl];exact⟨rfl,Sz.zero _⟩
 ·rw[it_n h0,Ag h0];obtain⟨s,hs⟩:=AR (l:=l) (k:=k.toNat) (by omega);have e:l.getD k.toNat default=s:=by simp[List.getD,hs]
  obtain⟨z1,z2⟩:=hz s (AI hs);obtain⟨r1,r2⟩:=Sp z1 z2 h;rw[at_e (n:=k.toNat) (by omega) hs,Ab,wzbd z1 z2 h,Ab,e];cases tu
  ·exact⟨rfl,r2.mono (by omega)⟩
  ·obtain⟨n1,n2⟩:=qz0l r2 (by omega) (by omega);rw[Cl]at n1 n2;simp only[GW,BZ];rw[n1,Ab];exact⟨rfl,n2.mono (by omega)⟩
theorem wzte{a:Af}(h:a.Neg=false):0<=rq a:=by
 by_cases hv:Vd a
 ·rw[<-MI hv]at h;by_cases h0:rq a=0
  ·rw[h0];exact Rat.le_refl
  ·have e:(rof (rq a)).Neg=decide ((rq a).num<0):=by simp[rof,Rx.of,h0]
   rw[e,Gdx]at h;exact Rat.num_nonneg.1 (by omega)
 ·rw[MJ hv];exact Rat.le_refl
structure CrvM(c:Bg):Prop where
 pos:∀(k:Nat) (p:Bw),c.Points[k]?=some p->0<=rq p.Flow
 up:∀(k:Nat) (p q:Bw),c.Points[k]?=some p->c.Points[k+1]?=some q->rq p.Flow<=rq q.Flow
theorem wzrn{c:Bg}(e:Fl c=0):CrvM c:=by
 unfold Fl at e;split at e
 ·cases e
 ·have cy:=wze2 (f:=crvF c.Points) (l:=c.Points) (fun k x o ho=>by
   unfold crvF at ho;split at ho
   ·cases ho;omega
   ·split at ho;·cases ho;omega
    ·split at ho<;>cases ho;omega) e
  have at0:∀(k:Nat) (p:Bw),c.Points[k]?=some p->crvF c.Points k p=none:=fun k p hp=>ND cy hp;refine⟨fun k p hp=>?_,fun k p q hp hq=>?_⟩
  ·have h:=at0 k p hp;unfold crvF at h;split at h
   ·cases h
   ·split at h;·cases h
    ·rename_i h2;refine wzte ?_;cases hn:p.Flow.Neg
     ·rfl
     ·exact absurd (.inr hn) h2
  ·have h:=at0 (k+1) q hq;unfold crvF at h;split at h
   ·cases h
   ·split at h;·cases h
    ·split at h;·cases h
     ·rename_i h3;have e1:c.Points.getD (k+1-1) default=p:=(by simp[List.getD,hp]);rw[e1]at h3;refine Rat.not_lt.1 fun hlt=>h3 ⟨by omega,.inr hlt⟩
def pF(c:Bg)(k:Nat):Rat:=rq (c.Points.getD k default).Flow
def pS(c:Bg)(k:Nat):Int:=(c.Points.getD k default).Stage
theorem wztv{c:Bg}(M:CrvM c){k:Nat}(h:k<c.Points.length):0<=pF c k:=by
 obtain⟨p,hp⟩:=AR h;have e:c.Points.getD k default=p:=by simp[List.getD,hp]
 unfold pF;rw[e];exact M.pos k p hp
theorem KV{c:Bg}(M:CrvM c):∀(d k:Nat),k+d<c.Points.length->pF c k<=pF c (k+d)
 |0,k,_=>Rat.le_refl
 |d+1,k,h=>by
  have h1:=KV M d k (by omega);obtain⟨p,hp⟩:=AR (l:=c.Points) (k:=k+d) (by omega);obtain⟨q,hq⟩:=AR (l:=c.Points) (k:=k+d+1) (by omega);have e1:c.Points.getD (k+d) default=p:=by simp[List.getD,hp]
  have e2:c.Points.getD (k+d+1) default=q:=by simp[List.getD,hq]
  have:=M.up (k+d) p q hp hq;refine Rat.le_trans h1 ?_;show pF c (k+d)<=pF c (k+d+1);unfold pF;rw[e1,e2];exact this
theorem Sr{c:Bg}(H:CrvR c){j k:Nat}(hk:k<c.Points.length)(hj:j<k):pS c j<pS c k:=by have:=NB H j k hk hj;unfold pS;rw[Dq hk,Dq (show j<c.Points.length by omega)];exact this
theorem Ss{a b d:Int}(hd:0<d)(bm:a<=b):(a:Rat) / (d:Rat)<=(b:Rat) / (d:Rat):=by rw[Rat.div_def,Rat.div_def];have h1:(0:Rat)<((d:Rat))⁻¹:=Rat.inv_pos.2 (Rat.intCast_pos.2 hd);exact Rat.mul_le_mul_of_nonneg_right (Rat.intCast_le_intCast.2 bm) (by grind)
theorem wzd7{d:Int}:((0:Int):Rat) / (d:Rat)=0:=by rw[Rat.div_def];have:((0:Int):Rat)=0:=rfl;rw[this];grind
theorem wzka{d:Int}(hd:0<d):(d:Rat) / (d:Rat)=1:=by rw[Rat.div_def];have:(0:Rat)<(d:Rat):=Rat.intCast_pos.2 hd;exact Rat.mul_inv_cancel _ (by grind)
theorem NI{c:Bg}{s:Int}{n:Nat}(h0:n≠0)(h1:n≠c.Points.length):BI c.Points s n=pF c (n-1)+(((s-pS c (n-1):Int):Rat) / ((pS c n-pS c (n-1):Int):Rat))*(pF c n-pF c (n-1)):=by unfold BI;rw[Ag h0,Ag h1];rfl
theorem wzi3{c:Bg}(H:CrvR c)(M:CrvM c){s:Int}{n:Nat}(hn:Nx c.Points s n)(h0:n≠0):pF c (n-1)<=BI c.Points s n:=by
 have aC:=hn.le;by_cases h1:n=c.Points.length
 ·unfold BI;rw[Ag h0,Aj h1];exact Rat.le_refl
 ·rw[NI h0 h1];have hd:=Sr H (j:=n-1) (k:=n) (by omega) (by omega);have hs:pS c (n-1)<=s:=by have:=hn.lo (n-1) (by omega) (by omega);unfold pS;rw[Dq (by omega)];exact this
  have hf:=Ss (a:=0) (b:=s-pS c (n-1)) (d:=pS c n-pS c (n-1)) (by omega) (by omega);rw[wzd7]at hf;have hu:=KV M 1 (n-1) (by omega);rw[show n-1+1=n by omega]at hu;have:=Rat.mul_nonneg hf (show 0<=pF c n-pF c (n-1) by grind)
  grind
theorem wzjz{c:Bg}(H:CrvR c)(M:CrvM c){s:Int}{n:Nat}(hn:Nx c.Points s n)(h1:n<c.Points.length):BI c.Points s n<=pF c n:=by
 by_cases h0:n=0
 ·have:BI c.Points s n=0:=by unfold BI;rw[Aj h0]
  rw[this];exact wztv M h1
 ·rw[NI h0 (by omega)];have hd:=Sr H (j:=n-1) (k:=n) h1 (by omega);have hs:s<pS c n:=by have:=hn.hi n h1 (A8 _);unfold pS;rw[Dq h1];exact this
  have hf:=Ss (a:=s-pS c (n-1)) (b:=pS c n-pS c (n-1)) (d:=pS c n-pS c (n-1)) (by omega) (by omega);rw[wzka (by omega)]at hf;have hu:=KV M 1 (n-1) (by omega);rw[show n-1+1=n by omega]at hu;have:=Rat.mul_le_mul_of_nonneg_right hf (show 0<=pF c n-pF c (n-1) by grind)
  grind
theorem wzfc{c:Bg}(hz:CSz c)(e:Fl c=0){s t:Int}(aL:s<=t):rq (flw c s)<=rq (flw c t):=by
 have H:=NA hz e;have M:=wzrn e;have hn:=NE H s;have hm:=NE H t;unfold flw;rw[Cl,Cl];generalize nxN c.Points s=n at *;generalize nxN c.Points t=m at *;have fm:n<=m:=Nat.not_lt.1 fun h=>by have h1:=hn.le;have a:=hn.lo m (by omega) h;have b:=hm.hi m (by omega) (A8 _);omega
 by_cases hq:n=m
 ·subst hq;by_cases h0:n=0
  ·unfold BI;rw[Aj h0,Aj h0];exact Rat.le_refl
  ·by_cases h1:n=c.Points.length;·unfold BI;rw[Ag h0,Aj h1,Ag h0,Aj h1];exact Rat.le_refl
   ·have aC:=hn.le;rw[NI h0 h1,NI h0 h1];have hd:=Sr H (j:=n-1) (k:=n) (by omega) (by omega);have hf:=Ss (a:=s-pS c (n-1)) (b:=t-pS c (n-1)) (d:=pS c n-pS c (n-1)) (by omega) (by omega);have hu:=KV M 1 (n-1) (by omega);rw[show n-1+1=n by omega]at hu;have:=Rat.mul_le_mul_of_nonneg_right hf (show 0<=pF c n-pF c (n-1) by grind)
    grind
 ·have aC:=hm.le;have h1:=wzjz H M hn (by omega);have h2:=wzi3 H M hm (by omega);have h3:=KV M (m-1-n) n (by omega);rw[show n+(m-1-n)=m-1 by omega]at h3;exact Rat.le_trans h1 (Rat.le_trans h3 h2)
theorem wzsu{a x y:Rat}(h:0<=a)(bS:x<=y):a*x<=a*y:=by
 have:=Rat.mul_le_mul_of_nonneg_right bS h
 grind
theorem wzt1{a x y:Rat}(h:a<=0)(bS:x<=y):a*y<=a*x:=by
 have:=Rat.mul_le_mul_of_nonneg_right bS (show 0<=-a by grind)
 grind
theorem qz5q{s:Al}(hz:SSz s)(hr:BB s):(∀u v,u<=v->rtS s u<=rtS s v)\/∀u v,u<=v->rtS s v<=rtS s u:=by
 obtain⟨a,b,c,d,e,f,g⟩:=hr;by_cases h:0<=rq s.Weight
 ·exact .inl fun u v dG=>wzsu h (wzfc hz.c g (by omega))
 ·exact .inr fun u v dG=>wzt1 (by grind) (wzfc hz.c g (by omega))
theorem wztj{l:List Al}{tu:Bool}(hz:∀s,s∈l->SSz s/\BB s){k:Int}(hk:k<0\/k<l.length){lo hi st:Int}(h1:lo<=st)(h2:st<=hi):rtC l tu k lo<=rtC l tu k st\/rtC l tu k hi<=rtC l tu k st:=by
 unfold rtC;by_cases h0:k<0
 ·rw[Aj h0,Aj h0];exact .inl Rat.le_refl
 ·rw[Ag h0,Ag h0,Ag h0];obtain⟨s,hs⟩:=AR (l:=l) (k:=k.toNat) (by omega);have e:l.getD k.toNat default=s:=by simp[List.getD,hs]
  obtain⟨z1,z2⟩:=hz s (AI hs);rw[e];cases tu
  ·simp only[Co];rcases qz5q z1 z2 with m|m
   ·exact .inl (m _ _ h1)
   ·exact .inr (m _ _ h2)
  ·simp only[BZ];rcases qz5q z1 z2 with m|m
   ·refine .inr ?_;have:=m _ _ h2;grind
   ·refine .inl ?_;have:=m _ _ h1;grind
def gM(m:List (Int×List Int))(k:Int):List Int:=Option.getD (mget keqI m k) []
theorem wzh5(m:List (Int×List Int))(k s j:Int):gM (Bp m k s) j=if j=k then gM m k++[s] else gM m j:=by unfold Bp gM;rw[Sc];split<;>rfl
theorem St(k s:Int):∀(n i:Nat) (m:List (Int×List Int)),∃m',forN (fun m (_:Nat)=>some (Bp m k s)) n i m=some m'/\∀j,gM m' j=if j=k then gM m k++List.replicate n s else gM m j
 |0,i,m=>⟨m,rfl,fun j=>by
   by_cases h:j=k
   ·subst h;rw[Aj rfl];simp
   ·rw[Ag h]⟩
 |n+1,i,m=>by
  obtain⟨m',e,h⟩:=St k s n (i+1) (Bp m k s);refine⟨m',by unfold forN;rw[Ab];exact e,fun j=>?_⟩;rw[h j,wzh5,wzh5,Aj rfl];by_cases hj:j=k
  ·rw[Aj hj,Aj hj,List.append_assoc];rfl
  ·rw[Ag hj,Ag hj,Ag hj]
def byC(cl:List A9)(f:A9->List Int)(j:Int):List Int:=(cl.filter fun c=>decide (c.Span=j)).flatMap f
theorem Su(c:A9)(cl:List A9)(f:A9->List Int)(j:Int):byC (c :: cl) f j=(if j=c.Span then f c else [])++byC cl f j:=by
 unfold byC;rw[List.filter_cons];by_cases h:c.Span=j
 ·rw[Aj h.symm,Aj (AD h),List.flatMap_cons]
 ·rw[Ag (show ¬decide (c.Span=j)=true by simpa using h),Ag (show ¬j=c.Span from fun e=>h e.symm)];rfl
def bst(rc:Int->Int->Rat)(r:Ao)(c:A9):Int:=open Classical in if rc c.Span r.Hi<rc c.Span r.Lo then r.Hi else r.Lo
theorem qz28{rate:Int->Int->Option Af}{rc:Int->Int->Rat}{A:Nat}{r:Ao}(hA:1<=A/\A<=5242900):∀(cl:List A9) (m:List (Int×List Int)) (q:Rat) (K:Nat),(∀c,c∈cl->0<=c.Ticks/\c.Ticks<=1402560/\(rate c.Span r.Lo=some (rof (rc c.Span r.Lo))/\Sz A (rof (rc c.Span r.Lo)))/\(rate c.Span r.Hi=some (rof (rc c.Span r.Hi))/\Sz A (rof (rc c.Span r.Hi))))->Sz K (rof q)->1<=K->K+cl.length*(A+10)<=8589934592 -> ∃m',Ed rate r cl m (rof q)=some (m',rof (q+sQ (cl.map fun c=>(c.Ticks:Rat)*rc c.Span (bst rc r c))))/\Sz (K+cl.length*(A+10)) (rof (q+sQ (cl.map fun c=>(c.Ticks:Rat)*rc c.Span (bst rc r c))))/\∀j,gM m' j=gM m j++byC cl (fun c=>List.replicate c.Ticks.toNat (bst rc r c)) j
 |[],m,q,K,_,hK,_,_=>by
  have e:q+sQ ([].map fun c:A9=>(c.Ticks:Rat)*rc c.Span (bst rc r c))=q:=by show q+0=q;grind
  rw[e];exact⟨m,rfl,hK.mono (by simp),fun j=>by simp[byC]⟩
 |c :: cl,m,q,K,hc,hK,k1,hb=>by
  obtain⟨t1,t2,⟨l1,l2⟩,h1,h2⟩:=hc c (AP ..);rw[Bl,BY]at hb
  have km:(bif decide (cmpQ (rc c.Span r.Hi) (rc c.Span r.Lo)<0) then r.Hi else r.Lo)=bst rc r c:=by
   unfold bst;by_cases h:rc c.Span r.Hi<rc c.Span r.Lo
   ·rw[Aj h,AD (FZ.2 h)];rfl
   ·rw[Ag h,AA (fun k=>h (FZ.1 k))];rfl
  have mZ:rate c.Span (bst rc r c)=some (rof (rc c.Span (bst rc r c)))/\Sz A (rof (rc c.Span (bst rc r c))):=by
   unfold bst;split
   ·exact⟨h1,h2⟩
   ·exact⟨l1,l2⟩
  obtain⟨m1,e1,g1⟩:=St c.Span (bst rc r c) c.Ticks.toNat 0 m;obtain⟨i1,i2⟩:=QN (n:=c.Ticks) (by omega) (by omega);obtain⟨p1,p2⟩:=K5 i2 mZ.2 (by omega) (by omega) (by omega) (by omega);rw[Cl,Cl]at p1 p2;obtain⟨s1,s2⟩:=K4 hK p2 (by omega) (by omega) (by omega) (by omega);rw[Cl,Cl]at s1 s2;obtain⟨m',e2,z2,g2⟩:=qz28 hA cl m1 (q+(c.Ticks:Rat)*rc c.Span (bst rc r c)) (K+(8+A+1)+1) (fun d hd=>hc d (AQ _ hd)) s2 (by omega) (by omega)
  have eq1:q+sQ ((c :: cl).map fun c=>(c.Ticks:Rat)*rc c.Span (bst rc r c))=q+(c.Ticks:Rat)*rc c.Span (bst rc r c)+sQ (cl.map fun c=>(c.Ticks:Rat)*rc c.Span (bst rc r c)):=by
   show q+((c.Ticks:Rat)*rc c.Span (bst rc r c)+sQ _)=_
   grind
  rw[eq1];refine⟨m',?_,z2.mono (by rw[Bl,BY];omega),fun j=>?_⟩
  ·unfold Ed;rw[h1,Ab,l1,Ab,K6 h2 l2 (by omega) (by omega) (by omega) (by omega),Ab,Cl,Cl,km,e1,Ab,i1,Ab,mZ.1,Ab,p1,Ab,s1,Ab,e2]
  ·rw[g2 j,g1 j,Su];by_cases hj:j=c.Span
   ·rw[Aj hj,Aj hj,hj,List.append_assoc]
   ·rw[Ag hj,Ag hj];rfl
def Cn(st j:Int):List A9->List Int->List Int
 |c :: cl,n :: x=>(if j=c.Span then List.replicate n.toNat st else [])++Cn st j cl x
 |_,_=>[]
def rowQ:List Af->List Int->Rat
 |g :: co,n :: x=>(n:Rat)*rq g+rowQ co x
 |_,_=>0
theorem qz3s{h:AM}{A:Nat}(hA:1<=A/\A<=5242900):∀(cl:List A9) (co:List Af) (x:List Int) (m:List (Int×List Int)) (q:Rat) (K:Nat),co.length=cl.length->x.length=cl.length->(∀g,g∈co->Sz A g)->(∀n,n∈x->0<=n/\n<=1402560)->Sz K (rof q)->1<=K->K+cl.length*(A+10)<=8589934592 -> ∃m',D5 h cl co x m (rof q)=some (m',rof (q+rowQ co x))/\Sz (K+cl.length*(A+10)) (rof (q+rowQ co x))/\∀j,gM m' j=gM m j++Cn h.Stage j cl x
 |[],[],[],m,q,K,_,_,_,_,hK,_,_=>by
  have e:q+rowQ [] []=q:=by show q+0=q;grind
  rw[e];exact⟨m,rfl,hK.mono (by simp),fun j=>by simp[Cn]⟩
 |c :: cl,g :: co,n :: x,m,q,K,l1,l2,hg,hx,hK,k1,hb=>by
  rw[Bl,BY]at hb;obtain⟨n1,n2⟩:=hx n (AP ..);have pc:=hg g (AP ..);obtain⟨m1,e1,g1⟩:=St c.Span h.Stage n.toNat 0 m;obtain⟨i1,i2⟩:=QN (n:=n) (by omega) (by omega);obtain⟨p1,p2⟩:=K5 i2 pc (by omega) (by omega) (by omega) (by omega);rw[Cl]at p1 p2;obtain⟨s1,s2⟩:=K4 hK p2 (by omega) (by omega) (by omega) (by omega);rw[Cl,Cl]at s1 s2;obtain⟨m',e2,z2,g2⟩:=qz3s hA cl co x m1 (q+(n:Rat)*rq g) (K+(8+A+1)+1) (by simpa using l1) (by simpa using l2) (fun d hd=>hg d (AQ _ hd)) (fun d hd=>hx d (AQ _ hd)) s2 (by omega) (by omega)
  have eq1:q+rowQ (g :: co) (n :: x)=q+(n:Rat)*rq g+rowQ co x:=by
   show q+((n:Rat)*rq g+rowQ co x)=_
   grind
  rw[eq1];refine⟨m',?_,z2.mono (by rw[Bl,BY];omega),fun j=>?_⟩
  ·unfold D5;rw[e1,Ab,i1,Ab,p1,Ab,s1,Ab,e2]
  ·rw[g2 j,g1 j];show _=gM m j++((if j=c.Span then List.replicate n.toNat h.Stage else [])++Cn h.Stage j cl x);by_cases hj:j=c.Span
   ·rw[Aj hj,Aj hj,hj,List.append_assoc]
   ·rw[Ag hj,Ag hj];rfl
 |[],_ :: _,_,_,_,_,l1,_,_,_,_,_,_=>by simp at l1
 |[],[],_ :: _,_,_,_,_,l2,_,_,_,_,_=>by simp at l2
 |_ :: _,[],_,_,_,_,l1,_,_,_,_,_,_=>by simp at l1
 |_ :: _,_ :: _,[],_,_,_,_,l2,_,_,_,_,_=>by simp at l2
def tabS(j:Int)(cl:List A9):List AM->List (List Int)->List Int
 |h :: t,x :: xs=>Cn h.Stage j cl x++tabS j cl t xs
 |_,_=>[]
def tabQ:List (List Af)->List (List Int)->Rat
 |g :: co,x :: xs=>rowQ g x+tabQ co xs
 |_,_=>0
theorem qz4j{A:Nat}{cl:List A9}(hA:1<=A/\A<=5242900):∀(t:List AM) (co:List (List Af)) (x:List (List Int)) (m:List (Int×List Int)) (q:Rat) (K:Nat),co.length=t.length->x.length=t.length->(∀r,r∈co->r.length=cl.length/\∀g,g∈r->Sz A g)->(∀r,r∈x->r.length=cl.length/\∀n,n∈r->0<=n/\n<=1402560)->Sz K (rof q)->1<=K->K+t.length*(cl.length*(A+10))<=8589934592 -> ∃m',D6 cl t co x m (rof q)=some (m',rof (q+tabQ co x))/\Sz (K+t.length*(cl.length*(A+10))) (rof (q+tabQ co x))/\∀j,gM m' j=gM m j++tabS j cl t x
 |[],[],[],m,q,K,_,_,_,_,hK,_,_=>by
  have e:q+tabQ [] []=q:=by show q+0=q;grind
  rw[e];exact⟨m,rfl,hK.mono (by simp),fun j=>by simp[tabS]⟩
 |h :: t,g :: co,x :: xs,m,q,K,l1,l2,hg,hx,hK,k1,hb=>by
  rw[Bl,BY]at hb;obtain⟨a1,a2⟩:=hg g (AP ..);obtain⟨b1,b2⟩:=hx x (AP ..);obtain⟨m1,e1,z1,g1⟩:=qz3s (h:=h) hA cl g x m q K a1 b1 a2 b2 hK k1 (by omega);obtain⟨m',e2,z2,g2⟩:=qz4j hA t co xs m1 (q+rowQ g x) (K+cl.length*(A+10)) (by simpa using l1) (by simpa using l2) (fun d hd=>hg d (AQ _ hd)) (fun d hd=>hx d (AQ _ hd)) z1 (by omega) (by omega)
  have eq1:q+tabQ (g :: co) (x :: xs)=q+rowQ g x+tabQ co xs:=by
   show q+(rowQ g x+tabQ co xs)=_
   grind
  rw[eq1];refine⟨m',?_,z2.mono (by rw[Bl,BY];omega),fun j=>?_⟩
  ·unfold D6;rw[e1,Ab,e2]
  ·rw[g2 j,g1 j,List.append_assoc];rfl
 |[],_ :: _,_,_,_,_,l1,_,_,_,_,_,_=>by simp at l1
 |[],[],_ :: _,_,_,_,_,l2,_,_,_,_,_=>by simp at l2
 |_ :: _,[],_,_,_,_,l1,_,_,_,_,_,_=>by simp at l1
 |_ :: _,_ :: _,[],_,_,_,_,l2,_,_,_,_,_=>by simp at l2
def atC(l:List Al)(t:Int):Int:=(scan (atF t) 0 l).getD (-1)
theorem wzp6{l:List Al}(H:SpR l)(t:Int):enAt l t=some (atC l t):=by
 have hl:=H.len
 obtain⟨n,n1,n2,n3,n4⟩:=qz8k (N:=l.length) (f:=fun a0=>FC a0 l t) (p:=fun k=>decide (t<(l.getD k default).To)) (by omega) (fun k hk=>by
  obtain⟨s,hs⟩:=AR hk;simp only[FC];rw[at_e rfl hs,Ab];simp[List.getD,hs]) (fun j k jN hk hj=>by
  obtain⟨s,hs⟩:=AR (show j<l.length by omega);obtain⟨u,hu⟩:=AR hk;have e1:l.getD j default=s:=by simp[List.getD,hs]
  have e2:l.getD k default=u:=by simp[List.getD,hu]
  rw[e1]at hj;rw[e2];have hj:=BK hj;by_cases e:j=k
  ·subst e;rw[hs]at hu;cases hu;exact AD hj
  ·have:=H.far (k-j-1) j s u hs (by rw[show j+(k-j-1+1)=k by omega];exact hu);have:=H.sp u (AI hu);exact AD (by omega))
 have low:∀i x,i<n->l[i]?=some x->atF t (0+i) x=none:=fun i x hi hx=>by
  have h1:=n2 i hi;have e1:l.getD i default=x:=by simp[List.getD,hx]
  simp only[e1,Gdx]at h1;unfold atF;rw[Ag (fun h:inS x t=>by unfold inS at h;omega)]
 unfold enAt atC;rw[n4,Ab];by_cases hn:n=l.length
 ·rw[AD (show(n:Int)=(l.length:Int) by omega),E4,Bs,Ab,BZ,BZ,KR];·rfl
  ·exact fun i x hx=>low i x (by have:=(AE.1 hx).1;omega) hx
 ·have hlt:n<l.length:=by omega
  obtain⟨x,hx⟩:=AR hlt;have h3:=n3 n (A8 _) hlt;have e1:l.getD n default=x:=by simp[List.getD,hx]
  simp only[e1,CN]at h3;rw[AA (show ¬(n:Int)=(l.length:Int) by omega),Ft,Br,at_e rfl hx,Ab,Co];by_cases hF:t<x.From
  ·rw[AD hF,BZ,KR];·rfl
   ·intro i y hy;by_cases hi:i<n
    ·exact low i y hi hy
    ·have pQ:x.From<=y.From:=by
      by_cases e:i=n
      ·subst e;rw[hx]at hy;cases hy;exact Jj _
      ·have:=H.far (i-n-1) n x y hx (by rw[show n+(i-n-1+1)=i by omega];exact hy);have:=H.sp x (AI hx);omega
     unfold atF;rw[Ag (fun h:inS y t=>by unfold inS at h;omega)]
  ·rw[AA hF,Co,Sb 0 l n x (n:Int) hx (by unfold atF;rw[Aj (show inS x t from⟨by omega,h3⟩),Bq]) (fun j y hj hy=>low j y hj hy)];rfl
def cntC(l:List Al)(t j:Int):Nat->Nat
 |0=>0
 |k+1=>cntC l t j k+(if atC l (t+(k:Int))=j then 1 else 0)
def tkS(l:List Al)(from0 t:Int)(m:List (Int×List Int))(out:List Int):Nat->List (Int×List Int)×List Int
 |0=>(m,out)
 |k+1=>(mput keqI (tkS l from0 t m out k).1 (atC l (t+(k:Int))) (gM (tkS l from0 t m out k).1 (atC l (t+(k:Int)))).tail,(tkS l from0 t m out k).2.set (t+(k:Int)-from0).toNat ((gM (tkS l from0 t m out k).1 (atC l (t+(k:Int)))).headD 0))
theorem Sv(l:List Al)(from0 t:Int)(m:List (Int×List Int))(out:List Int):∀k j,gM (tkS l from0 t m out k).1 j=(gM m j).drop (cntC l t j k)
 |0,j=>rfl
 |k+1,j=>by
  show Option.getD (mget keqI (mput keqI _ _ _) j) []=_;rw[Sc];have ih:=Sv l from0 t m out k;show _=(gM m j).drop (cntC l t j k+(if atC l (t+(k:Int))=j then 1 else 0));by_cases h:j=atC l (t+(k:Int))
  ·rw[Aj h,Aj h.symm,Le,<-h,ih j,List.tail_drop]
  ·rw[Ag h,Ag (Ne.symm h),Gg,<-ih j];rfl
theorem NJ(l:List Al)(from0 t:Int)(m:List (Int×List Int))(out:List Int):∀k,(tkS l from0 t m out k).2.length=out.length
 |0=>rfl
 |k+1=>by show(List.set _ _ _).length=_;rw[J0];exact NJ l from0 t m out k
theorem wzfk{l:List Al}{from0 t:Int}{m:List (Int×List Int)}{out:List Int}(h0:from0<=t):∀k:Nat,t+(k:Int)-from0<=out.length->(∀i:Nat,i<k->(tkS l from0 t m out k).2[(t+(i:Int)-from0).toNat]?=some (((gM m (atC l (t+(i:Int)))).drop (cntC l t (atC l (t+(i:Int))) i)).headD 0)) /\ ∀i:Nat,(i:Int)<t-from0\/t+(k:Int)-from0<=(i:Int)->(tkS l from0 t m out k).2[i]?=out[i]?
 |0,_=>⟨fun i h=>by omega,fun i _=>rfl⟩
 |k+1,hk=>by
  obtain⟨h1,h2⟩:=wzfk (l:=l) (m:=m) (out:=out) h0 k (by omega);have hl:=NJ l from0 t m out k;refine⟨fun i hi=>?_,fun i hi=>?_⟩
  ·show(List.set _ _ _)[_]?=_;by_cases e:i=k
   ·subst e;rw[List.getElem?_set_self (by omega),Sv]
   ·rw[List.getElem?_set_ne (by omega)];exact h1 i (by omega)
  ·show(List.set _ _ _)[_]?=_;rw[List.getElem?_set_ne (by omega)];exact h2 i (by omega)
theorem wzgc{l:List Al}(H:SpR l){from0 t to0:Int}{m:List (Int×List Int)}{out:List Int}(h0:0<=from0/\from0<=t/\t<=to0/\to0<=1402560)(hl:to0-from0<=out.length)(hg:∀k:Nat,t+(k:Int)<to0->cntC l t (atC l (t+(k:Int))) k<(gM m (atC l (t+(k:Int)))).length) :
  lp (EP l from0 to0) (t,m,out)=some (tkS l from0 t m out (to0-t).toNat).2:=by
 refine NC (fun k=>(t+(k:Int),(tkS l from0 t m out k).1,(tkS l from0 t m out k).2)) (to0-t).toNat (by omega) (fun k hk=>?_) ?_ (by show(t,m,out)=(t+((0:Nat):Int),m,out);congr 1;omega)
 ·have ew:t+(k:Int)<to0:=by omega
  have aE:=NJ l from0 t m out k;have hc:=hg k ew;have kn:=Sv l from0 t m out k (atC l (t+(k:Int)));simp only[EP];rw[it_d ew,wzp6 H,Ab];cases e:mget keqI (tkS l from0 t m out k).1 (atC l (t+(k:Int))) with
  |none =>
   have:gM (tkS l from0 t m out k).1 (atC l (t+(k:Int)))=[]:=by unfold gM;rw[e];rfl
   rw[this]at kn;have:=Gk List.length kn;rw[H5]at this;simp at this;omega
  |some q =>
   have e2:gM (tkS l from0 t m out k).1 (atC l (t+(k:Int)))=q:=by unfold gM;rw[e];rfl
   rw[Ab];cases q with
   |nil =>rw[e2]at kn;have:=Gk List.length kn;rw[H5]at this;simp at this;omega
   |cons s q =>simp only;rw[ck_t (by simp[Au];omega)];show _=some (Sum.inl (t+((k+1:Nat):Int),mput keqI _ _ (gM (tkS l from0 t m out k).1 (atC l (t+(k:Int)))).tail,List.set _ _ ((gM (tkS l from0 t m out k).1 (atC l (t+(k:Int)))).headD 0)));rw[e2];show _=some (Sum.inl (t+((k+1:Nat):Int),mput keqI (tkS l from0 t m out k).1 (atC l (t+(k:Int))) q,List.set (tkS l from0 t m out k).2 (t+(k:Int)-from0).toNat s));congr 3;omega
 ·simp only[EP];rw[it_n (by omega)]
theorem wzr9{l:List Al}(H:SpR l){j:Nat}{s:Al}(hs:l[j]?=some s){t:Int}(ht:inS s t):atC l t=(j:Int):=by unfold atC;rw[Sb 0 l j s (j:Int) hs (by unfold atF;rw[Aj ht,Bq]) (fun i x hi hx=>by have:=H.far (j-i-1) i x s hx (by rw[show i+(j-i-1+1)=j by omega];exact hs);unfold atF;rw[Ag (fun h:inS x t=>by unfold inS at h ht;omega)])];rfl
theorem Fn{α ω:Type}{f:Nat->α->Option ω}:∀(k:Nat) (l:List α) (o:ω),scan f k l=some o->∃i x,l[i]?=some x/\f (k+i) x=some o
 |k,[],o,h=>by cases h
 |k,x :: l,o,h=>by
  unfold scan at h;cases e:f k x with
  |some o' =>rw[e]at h;cases h;exact⟨0,x,rfl,e⟩
  |none =>rw[e]at h;obtain⟨i,y,h1,h2⟩:=Fn (k+1) l o h;exact⟨i+1,y,by simpa using h1,by rw[show k+(i+1)=k+1+i by omega];exact h2⟩
theorem Sw{l:List Al}{t:Int}:(atC l t = -1/\∀s,s∈l->¬inS s t)\/∃(j:Nat) (s:Al),l[j]?=some s/\inS s t/\atC l t=(j:Int):=by
 unfold atC;cases e:scan (atF t) 0 l with
 |none =>refine .inl ⟨rfl,fun s hs h=>?_⟩;obtain⟨i,hi⟩:=Dy.1 hs;have:=ND e hi;unfold atF at this;rw[Aj h]at this;cases this
 |some o =>
  obtain⟨i,x,h1,h2⟩:=Fn 0 l o e;unfold atF at h2;by_cases h:inS x t
  ·rw[Aj h]at h2;cases h2;exact .inr ⟨i,x,h1,h,by rw[Bq];rfl⟩
  ·rw[Ag h]at h2;cases h2
theorem Sx{l:List Al}(H:SpR l){j:Nat}{s:Al}(hs:l[j]?=some s){t:Int}:atC l t=(j:Int)↔inS s t:=by
 refine⟨fun h=>?_,wzr9 H hs⟩;rcases Sw (l:=l) (t:=t) with ⟨h1,_⟩|⟨i,x,h1,h2,h3⟩
 ·omega
 ·obtain rfl:i=j:=by omega
  rw[hs]at h1;cases h1;exact h2
theorem qzz7{l:List Al}(H:SpR l){j:Nat}{s:Al}(hs:l[j]?=some s)(t:Int):∀k:Nat,(cntC l t (j:Int) k:Int)=max 0 (min (t+(k:Int)) s.To-max t s.From)
 |0=>by show((0:Nat):Int)=max 0 (min (t+((0:Nat):Int)) s.To-max t s.From);omega
 |k+1=>by
  have ih:=qzz7 H hs t k;have dq:=H.sp s (AI hs);show((cntC l t (j:Int) k+(if atC l (t+(k:Int))=(j:Int) then 1 else 0):Nat):Int)=_;by_cases h:inS s (t+(k:Int))
  ·rw[Aj ((Sx H hs).2 h)];unfold inS at h;omega
  ·rw[Ag (fun e=>h ((Sx H hs).1 e))];unfold inS at h;omega
theorem wzi2{l:List Al}(H:SpR l){x:Ao}(hx:x.From<=x.To){j:Nat}{s:Al}(hs:l[j]?=some s):(cntC l x.From (j:Int) (x.To-x.From).toNat:Int)=max 0 (ovl1 x s):=by rw[qzz7 H hs];unfold ovl1;omega
end
end Go.Am

