/- Part V5: the mathematics of flows and levels. No condition. -/
import Derived.Test.YtibbibelkkgfpaaGreatDoorV4
set_option linter.unusedSimpArgs false
set_option linter.unusedVariables false
namespace Go.Am
def rem(m:List (Int×Int))(s:Int):Int:=Option.getD (mget keqI m s) 0
end Go.Am

namespace Go.Am
theorem E8{s:List Al}:BH s=0↔s.length<=400/\(∀x,x∈s->BA x)/\∀k x y,s[k]?=some x->s[k+1]?=some y->x.To<=y.From:=by
 unfold BH;by_cases h:400<s.length
 ·rw[Aj h];exact⟨(fun e=>by cases e),fun e=>by omega⟩
 rw[Ah h];cases hs:scan (spnF s) 0 s with
 |some o =>
  obtain⟨i,x,h1,h2⟩:=Gg 0 s o hs;rw[Bs]at h2;unfold spnF at h2;split at h2
  ·cases h2
  ·rename_i hn;cases h2;refine⟨(fun e=>by cases e),fun⟨_,a,b⟩=>?_⟩;exfalso;refine hn ⟨a x (AK h1),fun h0=>?_⟩;obtain⟨p,hp⟩:=AR (l:=s) (k:=i-1) (by have:=(AC.1 h1).1;omega);have:=b (i-1) p x hp (by rw[show i-1+1=i by omega];exact h1);rw[G0,hp];exact this
 |none =>
  refine⟨fun _=>⟨by omega,fun x hx=>?_,fun k x y hx hy=>?_⟩,fun _=>rfl⟩
  ·obtain⟨i,hi⟩:=Fx.1 hx;have:=Ga 0 s hs i x hi;unfold spnF at this;split at this
   ·rename_i h1;exact h1.1
   ·cases this
  ·have:=Ga 0 s hs (k+1) y hy;unfold spnF at this;split at this
   ·rename_i h1;have:=h1.2 (by omega);rw[show 0+(k+1)-1=k by omega,G0,hx]at this;exact this
   ·cases this
theorem Jx{s:List Al}(h:BH s=0):SpR s:=by obtain⟨h1,h2,h3⟩:=E8.1 h;exact⟨h1,fun x hx=>⟨(h2 x hx).1,(h2 x hx).2.1,(h2 x hx).2.2.1⟩,h3⟩
structure BndR(l:List Ao)(s:List Al):Prop where
 run:Fs l
 spn:BH s=0
 fit:∀a b,s[0]?=some a->s[s.length-1]?=some b->∃x y,l[0]?=some x/\l[l.length-1]?=some y/\x.From<=a.From/\b.To<=y.To
theorem qzu6{l:List Ao}{s:List Al}(hl:l.length<=1000000)(ht:∀x,x∈l->x.Table.length<=1000000)(hs:LSz s):∃e,EY l s=some e/\(e=0↔BndR l s):=by
 unfold EY;obtain⟨e,he,hr⟩:=qzux hl ht;rw[he,Ab];by_cases hz:e=0;rotate_left
 ·rw[Cl hz];exact⟨e,rfl,⟨fun h=>absurd h hz,fun B=>absurd (hr.2 B.run) hz⟩⟩
 have R:=hr.1 hz;rw[B8 hz,Sw hs,Ab];by_cases hc:BH s=0;rotate_left
 ·rw[Cl hc];exact⟨BH s,rfl,⟨fun h=>absurd h hc,fun B=>absurd B.spn hc⟩⟩
 rw[B8 hc];have jF:=(E8.1 hc).1;by_cases h0:0<s.length;rotate_left
 ·have hd:decide (0<(s.length:Int))=false:=AE (by omega);rw[hd];refine⟨0,rfl,⟨fun _=>⟨R,hc,fun a b ha=>?_⟩,fun _=>rfl⟩⟩;have:=(AC.1 ha).1;omega
 have hd:decide (0<(s.length:Int))=true:=AD (by omega);rw[hd];obtain⟨a,ha⟩:=AR h0;obtain⟨b,hb⟩:=AR (l:=s) (k:=s.length-1) (by omega);cases l with
 |nil =>refine⟨19,rfl,⟨(fun h=>by cases h),fun B=>?_⟩⟩;obtain⟨x,y,hx,_⟩:=B.fit a b ha hb;simp at hx
 |cons r l =>
  have aI:¬((r :: l).length:Int)=0:=by simp only[B1];omega
  rw[AE aI];simp only[Gau,D0,BZ,BK,C7];rw[show at? s 0=some a from at_e (n:=0) rfl ha,Ab,show at? (r :: l) 0=some r from rfl,Ab];by_cases h1:a.From<r.From
  ·rw[AD h1];refine⟨19,rfl,⟨(fun h=>by cases h),fun B=>?_⟩⟩;obtain⟨x,y,hx,_,h3,_⟩:=B.fit a b ha hb;cases hx;omega
  ·rw[AE h1];obtain⟨z,ee⟩:=AR (l:=r :: l) (k:=(r :: l).length-1) (by simp);simp only[D0,BZ,BK];rw[ck_t (by simp[Au];omega),at_e (n:=s.length-1) (by omega) hb,Ab,ck_t (by simp only[B1]at hl |-;simp[Au];omega),at_e (n:=(r :: l).length-1) (by simp only[B1];omega) ee,Ab];by_cases h2:z.To<b.To
   ·rw[AD h2];refine⟨19,rfl,⟨(fun h=>by cases h),fun B=>?_⟩⟩;obtain⟨x,y,hx,hy,h3,h4⟩:=B.fit a b ha hb;rw[ee]at hy;cases hy;omega
   ·rw[AE h2];refine⟨0,rfl,⟨fun _=>⟨R,hc,fun a' b' gB bg=>?_⟩,fun _=>rfl⟩⟩;rw[ha]at gB;rw[hb]at bg;cases gB;cases bg;exact⟨r,z,rfl,ee,by omega,by omega⟩
end Go.Am

namespace Go.Am
theorem SpR.tail{s:Al}{l:List Al}(H:SpR (s :: l)):SpR l:=⟨by have:=H.len;simp only[B1]at this;omega,fun x hx=>H.sp x (AT _ hx),fun k x y hx hy=>H.asc (k+1) x y (by simpa using hx) (by simpa using hy)⟩
theorem SU(f:Nat->Rat)(m:Nat):∀n,sm (m+n) f=sm m f+sm n (fun i=>f (m+i))
 |0=>by show sm m f=sm m f+0;grind
 |n+1=>by show sm (m+n) f+f (m+n)=sm m f+(sm n _+f (m+n));rw[SU f m n];grind
theorem wzhr{f:Nat->Rat}{n j0:Nat}(h0:j0<n)(h:∀j,j<n->j≠j0->f j=0):sm n f=f j0:=by obtain⟨d,hd⟩:∃d,n=(j0+1)+d:=⟨n-(j0+1),by omega⟩;subst hd;rw[SU,Bi (n:=d) (g:=fun _=>0) fun i hi=>h _ (by omega) (by omega),Ge];show sm j0 f+f j0+0=f j0;rw[Bi (g:=fun _=>0) fun i hi=>h i (by omega) (by omega),Ge];grind
theorem Ow{s:List Al}(H:SpR s)(t v:Int):sQ (s.map fun x=>if inS x t then rtS x v else 0)=rtC s false (atC s t) v:=by
 rw[Lp];rcases SJ (l:=s) (t:=t) with ⟨h1,h2⟩|⟨j,x,h1,h2,h3⟩
 ·rw[h1,Bi (g:=fun _=>0) fun i hi=>?_,Ge];·unfold rtC;rw[Aj (by decide)]
  ·obtain⟨y,hy⟩:=AR hi;rw[show s.getD i default=y by simp[List.getD,hy]];exact Ah (h2 y (AK hy))
 ·rw[h3,wzhr (j0:=j) (AC.1 h1).1 fun i hi aI=>?_];·rw[show s.getD j default=x by simp[List.getD,h1],Aj h2];unfold rtC;rw[Ah (by omega),show((j:Int)).toNat=j by omega,show s.getD j default=x by simp[List.getD,h1]];rfl
  ·obtain⟨y,hy⟩:=AR hi;rw[show s.getD i default=y by simp[List.getD,hy]];refine Ah fun e=>aI ?_;have:=(SK H hy).2 e;omega
theorem SW{s:List Al}{tu:Bool}{g:Int->Int}:∀{l:List Ao} {a b:Int},ChR a l b->cstT s tu l g=sm (b-a).toNat (fun i=>rtC s tu (atC s (a+(i:Int))) (g (a+(i:Int))))
 |[],a,b,h=>by have h:a=b:=h;rw[show(b-a).toNat=0 by omega];rfl
 |r :: l,a,b,h=>by obtain⟨R,rfl,hc⟩:=h;have h1:=R.fr;have h2:=hc.le;rw[show(b-r.From).toNat=(r.To-r.From).toNat+(b-r.To).toNat by omega,SU];show cst s tu r.From _ _+cstT s tu l g=_;rw[SW hc];congr 1;refine Bi fun i hi=>?_;rw[show r.From+(((r.To-r.From).toNat+i:Nat):Int)=r.To+(i:Int) by omega]
theorem qz2f:I9=some true:=by decide +kernel
theorem wzj2(s:List Al)(k v:Int):rtC s true k v = -(rtC s false k v):=by
 unfold rtC;split
 ·grind
 ·rfl
theorem wze5(f:Nat->Rat):∀n,sm n (fun i=>-(f i)) = -(sm n f)
 |0=>by show(0:Rat) = -0;grind
 |n+1=>by show sm n _+-(f n) = -(sm n f+f n);rw[wze5 f n];grind
theorem SX(s:List Al)(g:Int->Int):∀l:List Ao,cstT s true l g = -(cstT s false l g)
 |[]=>by show(0:Rat) = -0;grind
 |r :: l=>by
  show cst s true r.From _ _+cstT s true l g = -(cst s false r.From _ _+cstT s false l g);rw[SX s g l];have:∀n f,cst s true r.From n f = -(cst s false r.From n f):=fun n f=>by unfold cst;rw[<-wze5];exact Bi fun i _=>wzj2 s _ _
  rw[this];grind
structure Ends(l:List Ao)(s:List Al)(a b:Rat)(g h:Ba):Prop where
 least:K4 l s=some (rof a,g,0)
 most:K5 l s=some (rof b,h,0)
 za:Sz 4718610010 (rof a)
 zb:Sz 4718610010 (rof b)
 ea:EndE s false l g a
 eb:EndE s true l h (-b)
theorem SY{l:List Ao}{s:List Al}{t:Int}(ht:t<=100)(F:FewS l s t)(B:BndR l s):∃a b g h,Ends l s a b g h:=by
 have H:=Jx B.spn;obtain⟨s400,dB,_⟩:=E8.1 B.spn;have hz:∀x,x∈s->SSz x/\BA x:=fun x hx=>⟨F.sz.sz x hx,dB x hx⟩;have hT:∀x y,l[0]?=some x->l[l.length-1]?=some y->y.To-x.From<=100:=fun x y hx hy=>by have:=F.tot B.run x y hx hy;omega
 obtain⟨e,he,hr⟩:=qzu6 (l:=l) (s:=s) (by have:=F.len;omega) (fun x hx=>by have:=F.tab x hx;omega) F.sz;obtain rfl:=hr.2 B;obtain⟨V,g,f1,f2,f3⟩:=wzg0 H (F.spn s400) hz false B.run F.tab hT;obtain⟨W,h,f4,f5,f6⟩:=wzg0 H (F.spn s400) hz true B.run F.tab hT;refine⟨V,-W,g,h,⟨?_,?_,f2,f5,f3,?_⟩⟩
 ·unfold K4;rw[he,Ab,B8 rfl,f1,Ab];rfl
 ·unfold K5;rw[he,Ab,B8 rfl,f4,Ab];rfl
 ·rw[show -(-W)=W by grind];exact f6
theorem Ends.int{l:List Ao}{s:List Al}{a b:Rat}{g h:Ba}(E:Ends l s a b g h):EZ l s=some (⟨rof a,rof b⟩,0):=by unfold EZ;rw[E.least,Ab,E.most,Ab];rfl
theorem Ends.mid{l:List Ao}{s:List Al}{a b:Rat}{g h:Ba}(E:Ends l s a b g h){x:Int->Int}(hx:AgT l x):a<=cstT s false l x/\cstT s false l x<=b:=by have h1:=E.ea.le x hx;have h2:=E.eb.le x hx;rw[SX]at h2;exact⟨h1,by grind⟩
def cutS(a b:Int)(s:Al):Option Al:=if max s.From a<min s.To b then some ⟨max s.From a,min s.To b,s.Weight,s.Datum,s.Curve⟩ else none
def cutL(a b:Int)(l:List Al):List Al:=l.filterMap (cutS a b)
theorem wzxl{l:List Al}(hs:LSz l)(hc:BH l=0){a b:Int}(h:0<=a/\a<=b/\b<=1402560):K2 l ⟨a,b⟩=some (cutL a b l,0):=by
 have hl:=(E8.1 hc).1;unfold K2;rw[Sw hs,hc,Ab,B8 rfl];rw[it_f (by simp;omega)]
 suffices e0:lp (MU l ⟨a,b⟩) (0,[])=some (cutL a b l) by rw[e0];rfl
 refine wztc (l:=l) (fun k=>((k:Int),cutL a b (l.take k))) (by omega) (fun k x e=>?_) ?_ rfl
 ·have hk:=(AC.1 e).1;simp only[MU];rw[it_d (by omega),at_e rfl e,Ab];have ht:cutL a b (l.take (k+1))=cutL a b (l.take k)++(cutS a b x).toList:=by unfold cutL;rw[List.take_add_one,e,List.filterMap_append];exact Fy _ (by show List.filterMap (cutS a b) [x]=_;cases h1:cutS a b x<;>simp[h1])
  have aE:(cutL a b (l.take k)).length<=400:=AP (List.length_filterMap_le ..) (by rw[Gl];omega);rw[ht];unfold cutS;by_cases hx:max x.From a<min x.To b
  ·rw[Aj hx,it_d hx,ck_t (by simp;omega),A8 (by omega)];rfl
  ·rw[Ah hx,it_n hx,A8 (by omega),Option.toList_none,List.append_nil];rfl
 ·simp only[MU];rw[it_n (by omega),List.take_length]
theorem Ox{a b:Int}{s x:Al}(h:cutS a b s=some x):max s.From a<min s.To b/\x=⟨max s.From a,min s.To b,s.Weight,s.Datum,s.Curve⟩:=by
 unfold cutS at h;split at h
 ·rename_i h1;cases h;exact⟨h1,rfl⟩
 ·cases h
theorem SZ{a b:Int}{l:List Al}{x:Al}(h:x∈cutL a b l):∃s,s∈l/\max s.From a<min s.To b/\x=⟨max s.From a,min s.To b,s.Weight,s.Datum,s.Curve⟩:=by obtain⟨s,hs,e⟩:=List.mem_filterMap.1 h;exact⟨s,hs,Ox e⟩
theorem wzxg{l:List Al}(hc:BH l=0){a b:Int}(h:0<=a/\b<=1402560):BH (cutL a b l)=0:=by
 have H:=Jx hc;obtain⟨h1,h2,h3⟩:=E8.1 hc;refine E8.2 ⟨AP (List.length_filterMap_le ..) h1,fun x hx=>?_,?_⟩
 ·obtain⟨s,hs,e,rfl⟩:=SZ hx;obtain⟨p1,p2,p3,p4,p5,p6,p7⟩:=h2 s hs;exact⟨by simp only;omega,e,by simp only;omega,p4,p5,p6,p7⟩
 ·have hp:l.Pairwise (fun x y=>x.To<=y.From):=by
   rw[Gcg];intro i j hi hj gD;exact H.far (j-i-1) i l[i] l[j] (AA hi) (by rw[show i+(j-i-1+1)=j by omega];exact AA hj)
  have hq:(cutL a b l).Pairwise (fun x y=>x.To<=y.From):=by unfold cutL;rw[List.pairwise_filterMap];refine hp.imp fun {x y} bQ u hu v hv=>?_;obtain⟨_,rfl⟩:=Ox hu;obtain⟨_,rfl⟩:=Ox hv;simp only;omega
  intro k x y hx hy;obtain⟨k1,rfl⟩:=AC.1 hx;obtain⟨k2,rfl⟩:=AC.1 hy;exact Gcg.1 hq k (k+1) k1 k2 (by omega)
theorem wzxp{l:List Al}(hs:LSz l)(a b:Int):LSz (cutL a b l):=⟨AP (List.length_filterMap_le ..) hs.len,fun x hx=>by obtain⟨s,hm,e,rfl⟩:=SZ hx;exact⟨(hs.sz s hm).c,(hs.sz s hm).w⟩⟩
theorem wzxk{l:List Al}(hc:BH l=0){a b:Int}(h:0<=a/\b<=1402560){t v:Int}(ht:a<=t/\t<b):rtC (cutL a b l) false (atC (cutL a b l) t) v=rtC l false (atC l t) v:=by
 rw[<-Ow (Jx hc),<-Ow (Jx (wzxg hc h))];clear hc;induction l with
 |nil=>rfl
 |cons s l ih =>
  show _=(if inS s t then rtS s v else 0)+sQ (l.map fun x=>if inS x t then rtS x v else 0);rw[<-ih];unfold cutL;rw[List.filterMap_cons];cases e:cutS a b s with
  |none =>
   have:¬inS s t:=fun h1=>by unfold inS at h1;unfold cutS at e;rw[Aj (by omega)]at e;cases e
   rw[Ah this]
   grind
  |some x =>
   obtain⟨e1,rfl⟩:=Ox e;show(if inS _ t then rtS _ v else 0)+sQ _=_;have:inS ⟨max s.From a,min s.To b,s.Weight,s.Datum,s.Curve⟩ t↔inS s t:=by unfold inS;simp only;omega
   by_cases hi:inS s t
   ·rw[Aj hi,Aj (this.2 hi)];rfl
   ·rw[Ah hi,Ah (fun h=>hi (this.1 h))]
noncomputable def sclS(c:Rat)(s:Al):Al:=⟨s.From,s.To,rof (rq s.Weight*c),s.Datum,s.Curve⟩
theorem wzxu{l:List Al}(hs:LSz l)(hw:∀x,x∈l->Sz 40 x.Weight)(hc:BH l=0){c:Af}(hv:Vd c)(hz:Sz 8 c):MW l c=some (l.map (sclS (rq c)),0):=by
 have hl:=(E8.1 hc).1;unfold MW;rw[Sw hs,hc,Ab,B8 rfl,KI (hz.mono (by omega)),Ab,AD hv];show(bd (lp (K3 c l) (0,[])) _)=_
 suffices e0:lp (K3 c l) (0,[])=some (l.map (sclS (rq c))) by rw[e0];rfl
 refine wztc (l:=l) (fun k=>((k:Int),(l.take k).map (sclS (rq c)))) (by omega) (fun k x e=>?_) ?_ rfl
 ·have hk:=(AC.1 e).1;simp only[K3];rw[it_d (by omega),at_e rfl e,Ab,(FN (hw x (AK e)) hz (by omega) (by omega) (by omega) (by omega)).1,Ab];rw[ck_t (by simp[Gl];omega),A8 (by omega),List.take_add_one,e,List.map_append];rfl
 ·simp only[K3];rw[it_n (by omega),List.take_length]
theorem wzxt{l:List Al}(hs:LSz l)(hw:∀x,x∈l->Sz 40 x.Weight){c:Af}(hz:Sz 8 c):LSz (l.map (sclS (rq c))):=⟨by rw[G4];exact hs.len,fun x hx=>by obtain⟨s,hm,rfl⟩:=CQ.1 hx;exact⟨(hs.sz s hm).c,(FN (hw s hm) hz (by omega) (by omega) (by omega) (by omega)).2.mono (by omega)⟩⟩
theorem wzxi{l:List Al}(hc:BH l=0)(c:Rat):BH (l.map (sclS c))=0:=by
 obtain⟨h1,h2,h3⟩:=E8.1 hc;refine E8.2 ⟨by rw[G4];exact h1,fun x hx=>?_,fun k x y hx hy=>?_⟩
 ·obtain⟨s,hs,rfl⟩:=CQ.1 hx;obtain⟨p1,p2,p3,p4,p5,p6,p7⟩:=h2 s hs;exact⟨p1,p2,p3,p4,p5,ZR _,p7⟩
 ·rw[Gk]at hx hy;obtain⟨u,hu,rfl⟩:=Lw.1 hx;obtain⟨v,hv,rfl⟩:=Lw.1 hy;exact h3 k u v hu hv
theorem wzxn{l:List Al}(hc:BH l=0)(c:Rat)(t v:Int):rtC (l.map (sclS c)) false (atC (l.map (sclS c)) t) v=c*rtC l false (atC l t) v:=by
 rw[<-Ow (Jx hc),<-Ow (Jx (wzxi hc c))];clear hc;induction l with
 |nil=>show(0:Rat)=c*0;grind
 |cons s l ih =>
  show(if inS (sclS c s) t then rtS (sclS c s) v else 0)+sQ ((l.map (sclS c)).map _)=c*((if inS s t then rtS s v else 0)+sQ (l.map fun x=>if inS x t then rtS x v else 0));rw[ih];by_cases hi:inS s t
  ·rw[Aj hi,Aj (show inS (sclS c s) t from hi)];show rq (rof (rq s.Weight*c))*rq (flw s.Curve (v+s.Datum))+_=c*(rq s.Weight*rq (flw s.Curve (v+s.Datum))+_);rw[C0];grind
  ·rw[Ah hi,Ah (show ¬inS (sclS c s) t from hi)];grind
structure IntR(l:List Ao)(s:List Al)(a b:Rat):Prop where
 lo:∃g,AgT l g/\cstT s false l g=a
 hi:∃g,AgT l g/\cstT s false l g=b
 mid:∀g,AgT l g->a<=cstT s false l g/\cstT s false l g<=b
theorem Ends.intR{l:List Ao}{s:List Al}{a b:Rat}{g h:Ba}(E:Ends l s a b g h):IntR l s a b:=by
 refine⟨⟨_,E.ea.ag,E.ea.eq⟩,⟨_,E.eb.ag,?_⟩,fun x hx=>E.mid hx⟩;have:=E.eb.eq;rw[SX]at this
 grind
theorem ChR.take{l:List Ao}{a b:Int}(h:ChR a l b):∀k,∃c,ChR a (l.take k) c/\ChR c (l.drop k) b:=by
 induction l generalizing a with
 |nil=>exact fun k=>⟨a,by rw[List.take_nil];rfl,by rw[List.drop_nil];exact h⟩
 |cons x l ih =>
  intro k;cases k with
  |zero=>exact⟨a,rfl,h⟩
  |succ k =>obtain⟨h1,h2,h3⟩:=h;obtain⟨c,c1,c2⟩:=ih h3 k;exact⟨c,⟨h1,h2,c1⟩,c2⟩
theorem ChR.first{l:List Ao}{a b:Int}(h:ChR a l b){x:Ao}(hx:l[0]?=some x):x.From=a:=by
 cases l with
 |nil=>simp at hx
 |cons y l=>cases hx;exact h.2.1
theorem ChR.last:∀{l:List Ao} {a b:Int},ChR a l b->∀{x:Ao},l[l.length-1]?=some x->x.To=b
 |[],a,b,h,x,hx=>by simp at hx
 |[y],a,b,h,x,hx=>by simp at hx;subst hx;exact h.2.2
 |y :: z :: l,a,b,h,x,hx=>ChR.last (l:=z :: l) h.2.2 (by simpa using hx)
theorem ChR.nxt:∀{l:List Ao} {a b:Int},ChR a l b->∀k x y,l[k]?=some x->l[k+1]?=some y->x.To=y.From
 |[],a,b,h,k,x,y,hx,_=>by simp at hx
 |z :: l,a,b,h,0,x,y,hx,hy=>by cases hx;exact(ChR.first h.2.2 (by simpa using hy)).symm
 |z :: l,a,b,h,k+1,x,y,hx,hy=>ChR.nxt h.2.2 k x y (by simpa using hx) (by simpa using hy)
theorem ChR.runs{l:List Ao}{a b:Int}(h:ChR a l b)(hl:l.length<=2000)(hd:b-a<=40000):Fs l:=⟨hl,fun x hx=>(h.mem x hx).1,h.nxt,fun x y hx hy=>by rw[h.first hx,h.last hy];exact hd⟩
theorem Ta{s u:List Al}{c:Rat}{l:List Ao}{a b:Int}(h:ChR a l b){g:Int->Int}(hr:∀t v,a<=t->t<b->rtC u false (atC u t) v=c*rtC s false (atC s t) v):cstT u false l g=c*cstT s false l g:=by rw[SW h,SW h,<-E5];exact Bi fun i hi=>hr _ _ (by omega) (by omega)
theorem Tb(s:List Al)(tu:Bool)(l m:List Ao)(g:Int->Int):cstT s tu (l++m) g=cstT s tu l g+cstT s tu m g:=by unfold cstT;rw[List.map_append,KK]
theorem wzxh{s:List Al}{tu:Bool}{l:List Ao}{g f:Int->Int}(h:∀r,r∈l->∀t,r.From<=t->t<r.To->g t=f t):cstT s tu l g=cstT s tu l f:=by unfold cstT;congr 1;refine HH fun r hr=>wzfp fun i hi=>h r hr _ (by omega) (by omega)
theorem AgT.congr{l:List Ao}{g f:Int->Int}(h:∀r,r∈l->∀t,r.From<=t->t<r.To->g t=f t)(H:AgT l g):AgT l f:=fun r hr=>(H r hr).congr fun i hi=>h r hr _ (by omega) (by omega)
theorem wzxs{l m:List Ao}{s u w:List Al}{a b c:Int}(hl:ChR a l c)(hm:ChR c m b)(hu:∀t v,a<=t->t<c->rtC u false (atC u t) v=1*rtC s false (atC s t) v)(hw:∀t v,c<=t->t<b->rtC w false (atC w t) v=1*rtC s false (atC s t) v){p q p1 q1 p2 q2:Rat}(I:IntR (l++m) s p q)(I1:IntR l u p1 q1)(I2:IntR m w p2 q2):p=p1+p2/\q=q1+q2:=by
 have e1:∀g,cstT u false l g=cstT s false l g:=fun g=>by rw[Ta hl hu];grind
 have e2:∀g,cstT w false m g=cstT s false m g:=fun g=>by rw[Ta hm hw];grind
 have glue:∀g1 g2,AgT l g1->AgT m g2->∃g,AgT (l++m) g/\cstT s false (l++m) g=cstT u false l g1+cstT w false m g2:=fun g1 g2 h1 h2=>by
  have k1:∀r,r∈l->∀t,r.From<=t->t<r.To->g1 t=(fun t=>if t<c then g1 t else g2 t) t:=fun r hr t _ ht=>by have:=(hl.mem r hr).2.2;exact(Aj (by omega)).symm
  have k2:∀r,r∈m->∀t,r.From<=t->t<r.To->g2 t=(fun t=>if t<c then g1 t else g2 t) t:=fun r hr t ht _=>by have:=(hm.mem r hr).2.1;exact(Ah (by omega)).symm
  refine⟨fun t=>if t<c then g1 t else g2 t,fun r hr=>?_,?_⟩
  ·rcases DO.1 hr with hr|hr;·exact AgT.congr k1 h1 r hr
   ·exact AgT.congr k2 h2 r hr
  ·rw[Tb,e1,e2,wzxh k1,wzxh k2]
 have split:∀g,AgT (l++m) g->AgT l g/\AgT m g:=fun g hg=>⟨fun r hr=>hg r (List.mem_append_left _ hr),fun r hr=>hg r (List.mem_append_right _ hr)⟩;constructor
 ·obtain⟨g1,a1,b1⟩:=I1.lo;obtain⟨g2,a2,b2⟩:=I2.lo;obtain⟨g,a3,b3⟩:=glue g1 g2 a1 a2;have c1:=(I.mid g a3).1;rw[b3,b1,b2]at c1;obtain⟨g0,a0,b0⟩:=I.lo;obtain⟨s1,s2⟩:=split g0 a0;have c2:=(I1.mid g0 s1).1;have c3:=(I2.mid g0 s2).1;rw[Tb,<-e1,<-e2]at b0
  grind
 ·obtain⟨g1,a1,b1⟩:=I1.hi;obtain⟨g2,a2,b2⟩:=I2.hi;obtain⟨g,a3,b3⟩:=glue g1 g2 a1 a2;have c1:=(I.mid g a3).2;rw[b3,b1,b2]at c1;obtain⟨g0,a0,b0⟩:=I.hi;obtain⟨s1,s2⟩:=split g0 a0;have c2:=(I1.mid g0 s1).2;have c3:=(I2.mid g0 s2).2;rw[Tb,<-e1,<-e2]at b0
  grind
theorem wzxr{l:List Ao}{s u:List Al}{a b:Int}{c:Rat}(hl:ChR a l b)(hu:∀t v,a<=t->t<b->rtC u false (atC u t) v=c*rtC s false (atC s t) v){p q p1 q1:Rat}(I:IntR l s p q)(I1:IntR l u p1 q1):(0<=c->p1=c*p/\q1=c*q)/\(c<0->p1=c*q/\q1=c*p):=by
 have e1:∀g,cstT u false l g=c*cstT s false l g:=fun g=>Ta hl hu;obtain⟨g1,a1,b1⟩:=I.lo;obtain⟨g2,a2,b2⟩:=I.hi;obtain⟨g3,a3,b3⟩:=I1.lo;obtain⟨g4,a4,b4⟩:=I1.hi;rw[e1]at b3 b4;have m1:=I1.mid g1 a1;have m2:=I1.mid g2 a2;rw[e1,b1]at m1;rw[e1,b2]at m2;have m3:=I.mid g3 a3;have m4:=I.mid g4 a4;constructor
 ·intro hc;have k1:=Rat.mul_le_mul_of_nonneg_left m3.1 hc;have k2:=Rat.mul_le_mul_of_nonneg_left m4.2 hc;rw[b3]at k1;rw[b4]at k2;exact⟨Rat.le_antisymm m1.1 k1,Rat.le_antisymm k2 m2.2⟩
 ·intro hc;have hc:0<=-c:=by grind
  have k1:=Rat.mul_le_mul_of_nonneg_left m3.2 hc;have k2:=Rat.mul_le_mul_of_nonneg_left m4.1 hc;rw[Rat.neg_mul,Rat.neg_mul]at k1 k2;rw[b3]at k1;rw[b4]at k2;constructor
  ·refine Rat.le_antisymm m2.1 ?_
   grind
  ·refine Rat.le_antisymm ?_ m1.2
   grind
theorem wzxj{m:List Ao}{s:List Al}(hs:LSz s)(hc:BH s=0)(jQ:s.length<=8){a c:Int}(hm:ChR a m c)(hl:m.length<=12)(ht:∀x,x∈m->x.Table.length<=20)(h0:0<=a/\c<=1402560/\c-a<=60):∃p q g h,Ends m (cutL a c s) p q g h:=by
 have aS:∀x,x∈cutL a c s->a<=x.From/\x.To<=c/\a<c:=fun x hx=>by obtain⟨y,_,h1,rfl⟩:=SZ hx;simp only;omega
 refine SY (t:=100) (J5 _) ⟨hl,ht,fun _ x y hx hy=>?_,wzxp hs a c,fun _=>AP (List.length_filterMap_le ..) jQ⟩ ⟨hm.runs (by omega) (by omega),wzxg hc (by omega),fun u v hu hv=>?_⟩
 ·rw[hm.first hx,hm.last hy];omega
 ·have h1:=aS u (AK hu);have h2:=aS v (AK hv);cases m with
  |nil =>have:a=c:=hm;omega
  |cons x m =>obtain⟨y,hy⟩:=AR (l:=x :: m) (k:=(x :: m).length-1) (by simp);have e1:=hm.first (x:=x) rfl;have e2:=hm.last hy;exact⟨x,y,rfl,hy,by omega,by omega⟩
theorem wzxm{l:List Ao}(R:Fs l)(h:l.length≠0):∃x z,l[0]?=some x/\l[l.length-1]?=some z/\ChR x.From l z.To:=by
 cases l with
 |nil=>exact absurd rfl h
 |cons r l =>obtain⟨z,hz,hc⟩:=SS (l:=l) (x:=r) R.run R.nxt;exact⟨r,z,rfl,by simpa using hz,hc⟩
theorem wzxq{q:Ec}(hq:0<=q.At/\q.At<=255)(l:List Ao)(s:List Al):Q4 l s q=some true:=by
 unfold Q4;obtain⟨b,e,hb⟩:=wzk9 l s 60;have bad:(bd I9 fun r=>some r)=some true:=by rw[qz2f];rfl
 rw[e,Ab];cases b with
 |false =>simp only[D0,Dw,Bh,Ab,C7,Dn];exact bad
 |true =>
  obtain⟨F,hw⟩:=hb rfl;obtain⟨e1,he,hr⟩:=qzu6 (l:=l) (s:=s) (by have:=F.len;omega) (fun x hx=>by have:=F.tab x hx;omega) F.sz;simp only[Dw,D0,BZ,he,Ab,BK];by_cases hz:e1=0;rotate_left
  ·simp only[AE hz,D0,Dw,BK,C7,Bh,Ab,Dn];exact bad
  have B:=hr.1 hz;simp only[AD hz,D0,Dw,BK,C7,Bh,Ab];by_cases iw:(l.length:Int)=0
  ·simp only[AD iw,D0,Dw,BK,C7,Bh,Ab,Dn];exact bad
  simp only[AE iw,BK];by_cases hn:8<(q.By.Num.length:Int)
  ·simp only[AD hn,D0,Dw,BK,C7,Bh,Ab,Dn];exact bad
  simp only[AE hn,BK];by_cases hd:8<(q.By.Den.length:Int)
  ·simp only[AD hd,D0,Dw,BK,C7,Bh,Ab,Dn];exact bad
  have zq:Sz 8 q.By:=⟨by omega,by omega⟩;simp only[AE hd,BK,D0,BZ];rw[KI (zq.mono (by omega)),Ab];by_cases hv:Vd q.By;rotate_left
  ·simp only[AE hv,D0,Dn];exact bad
  simp only[AD hv,Dw,Fa];have aE:=F.len;obtain⟨x,z,hx,cy,hc⟩:=wzxm B.run (by omega);have hT:=F.tot B.run x z hx cy;have fx:=(B.run.run x (AK hx)).fr;have fz:=(B.run.run z (AK cy)).fr;have jR:=(E8.1 B.spn).1;have jQ:=F.spn jR;obtain⟨k,hk,gI⟩:∃k:Nat,q.At.tmod ((l.length:Int)+1)=(k:Int)/\k<=l.length:=by rw[Int.tmod_eq_emod_of_nonneg hq.1];have h1:=Int.emod_nonneg q.At (show(l.length:Int)+1≠0 by omega);have h2:=Int.emod_lt_of_pos q.At (show(0:Int)<(l.length:Int)+1 by omega);exact⟨(q.At%((l.length:Int)+1)).toNat,by omega,by omega⟩
  rw[hk,A8 (by omega),A8 (by omega),Ni (by omega),show at? l 0=some x from at_e (n:=0) rfl hx,Ab,A8 (by omega),at_e (n:=l.length-1) (by omega) cy,Ab];obtain⟨c,c1,c2⟩:=hc.take k
  have seam:(ite' (decide ((k:Int)<(l.length:Int))) (bd (at? l (k:Int)) fun x3=>some x3.From) (some z.To))=some c:=by
   by_cases h:k<l.length
   ·obtain⟨y,hy⟩:=AR h;rw[it_d (by omega),at_e rfl hy,Ab];have:=c2.first (x:=y) (by rw[G3];simpa using hy);rw[this]
   ·rw[it_n (by omega)];rw[List.drop_eq_nil_of_le (by omega)]at c2;have h:c=z.To:=c2;rw[h]
  rw[seam,Ab];have d1:=c1.le;have d2:=c2.le;have sz:=F.sz;rw[wzxl sz B.spn (by omega),Ab,wzxl sz B.spn (by omega),Ab];have s1:sub l 0 (k:Int)=l.take k:=by unfold sub;rw[show((k:Int)-0).toNat=k by omega];rfl
  have s2:sub l (k:Int) (l.length:Int)=l.drop k:=by unfold sub;rw[show(k:Int).toNat=k by omega,O8 (by rw[HG];omega)]
  obtain⟨p1,q1,g1,h1,E1⟩:=wzxj sz B.spn jQ c1 (by rw[Gl];omega) (fun r hr=>F.tab r (List.mem_of_mem_take hr)) (by omega);obtain⟨p2,q2,g2,h2,E2⟩:=wzxj sz B.spn jQ c2 (by rw[HG];omega) (fun r hr=>F.tab r (Gca hr)) (by omega);obtain⟨p,q0,g,h,E⟩:=SY (by omega) F B;obtain⟨p3,q3,g3,h3,E3⟩:=SY (l:=l) (s:=s.map (sclS (rq q.By))) (t:=100) (J5 _) ⟨F.len,F.tab,fun R x y hx hy=>by have:=F.tot R x y hx hy;omega,wzxt sz hw zq,fun _=>by rw[G4];exact jQ⟩ ⟨B.run,wzxi B.spn _,fun u v hu hv=>by rw[Gk]at hu hv;rw[G4]at hv;obtain⟨u',ii,rfl⟩:=Lw.1 hu;obtain⟨v',bZ,rfl⟩:=Lw.1 hv;exact B.fit u' v' ii bZ⟩;rw[s1,s2,Dm (by omega)];simp only[];rw[E1.int,Ab,Dm (by omega),E2.int,Ab,E.int,Ab,wzxu sz hw B.spn hv zq,Ab];simp only[];rw[E3.int,Ab];simp only[decide_true,Dw,BK,Fa];obtain⟨m1,_⟩:=FN zq E.za (by omega) (by omega) (by omega) (by omega);obtain⟨m2,_⟩:=FN zq E.zb (by omega) (by omega) (by omega) (by omega);obtain⟨a1,_⟩:=IM E1.za E2.za (by omega) (by omega) (by omega) (by omega);obtain⟨a2,_⟩:=IM E1.zb E2.zb (by omega) (by omega) (by omega) (by omega);rw[C0]at m1 m2;rw[C0,C0]at a1 a2;have I:=E.intR;obtain⟨i1,i2⟩:=wzxs (s:=s) c1 c2 (fun t v h1 h2=>by rw[wzxk B.spn (by omega) ⟨h1,h2⟩];grind) (fun t v h1 h2=>by rw[wzxk B.spn (by omega) ⟨h1,h2⟩];grind) (by rw[Tf];exact I) E1.intR E2.intR;obtain⟨j1,j2⟩:=wzxr hc (fun t v _ _=>wzxn B.spn (rq q.By) t v) I E3.intR;rw[<-i1]at a1;rw[<-i2]at a2;rw[m1,Ab,m2,Ab];have neg:q.By.Neg=decide (rq q.By<0):=by have h1:=wzxo (q:=rq q.By);rw[KH hv]at h1;rw[Bool.eq_iff_iff,h1,decide_eq_true_iff]
  have fin:(ite' q.By.Neg (some (⟨rof (rq q.By*q0),rof (rq q.By*p)⟩:Dh)) (some ⟨rof (rq q.By*p),rof (rq q.By*q0)⟩))=some ⟨rof p3,rof q3⟩:=by
   rw[neg];by_cases eW:rq q.By<0
   ·rw[it_d eW,(j2 eW).1,(j2 eW).2]
   ·have:=j1 (by grind);rw[it_n eW,this.1,this.2]
  rw[fin,Ab,qz2f,Ab,BZ,a1,Ab,BZ,a2,Ab];simp only[decide_true,C7,beq_self_eq_true,Bool.and_self]
end Go.Am

