/- Part V5: the mathematics of flows and levels. No condition. -/
import Derived.Test.YtibbibelkkgfpaaGreatDoorV4
set_option linter.unusedSimpArgs false
set_option linter.unusedVariables false
namespace Go.Am
theorem wzdo{l:List Int}{g:Int->Option Bool}(hl:l.length<=1048576)(p:Int->Bool)(hg:∀s,s∈l->g s=some (p s)):LY l g=some ((scan (fun k s=>if p s then some (k:Int) else none) 0 l).getD (-1)):=by
 unfold LY;rw[Ez (l:=l) (fun k s=>if p s then some (k:Int) else none) (by omega) ?_ ?_]
 ·simp only[Ab];exact RZ
 ·intro k s hs;have hk:=(AE.1 hs).1;simp only[P4];rw[it_d (by omega),at_e rfl hs];simp only[Ab];rw[hg s (AI hs)];simp only[Ab];cases p s with
  |true=>rw[GW];rfl
  |false=>rw[Du,A7 (by omega)];rfl
 ·simp only[P4];rw[it_n (by omega)]
theorem qzup(h:AU):DX h=some (decide (hisR h)):=by
 unfold DX ET;by_cases h2:h.Stages.length<=40000
 ·rw[show(decide ((List.length h.Stages:Int)<=40000))=true from AD (by omega)];rw[ck_t (by simp[Au];omega)];simp only[Br,Ab,BZ];by_cases h1:0<=h.From/\h.From<=1402560-(h.Stages.length:Int)
  ·rw[show(bif decide (0<=h.From) then decide (h.From<=1402560-(h.Stages.length:Int)) else false)=true by simp;omega];simp only[Br,BZ];unfold PE;rw[wzdo (g:=fun a0=>P3 a0) (by omega) (fun s=>!(bif decide (0<=s) then decide (s<=1000) else false)) (fun s _=>rfl)];simp only[Ab,BZ];congr 1;rw[Bool.eq_iff_iff,Hy,Gdx,qz38,decide_eq_true_iff];constructor
   ·intro hn;refine⟨h1.1,h2,h1.2,fun s hs=>?_⟩
    false_or_by_contra
    rename_i aH;exact hn ⟨s,hs,by simp;omega⟩
   ·rintro⟨_,_,_,h4⟩ ⟨s,hs,e⟩;have:=h4 s hs;simp at e;omega
  ·rw[show(bif decide (0<=h.From) then decide (h.From<=1402560-(h.Stages.length:Int)) else false)=false by
    by_cases h3:0<=h.From
    ·rw[AD h3,AA (fun h4=>h1 ⟨h3,h4⟩)];rfl
    ·rw[AA h3];rfl]
   rw[AA (fun hh:hisR h=>h1 ⟨hh.1,hh.2.2.1⟩)];rfl
 ·rw[show(decide ((List.length h.Stages:Int)<=40000))=false from AA (by omega)];rw[AA (fun hh:hisR h=>h2 hh.2.1)];rfl
def rem(m:List (Int×Int))(s:Int):Int:=Option.getD (mget keqI m s) 0
theorem qzx7(a b k:Int):∀m:List (Int×Int),mget keqI (mput keqI m a b) k=if k=a then some b else mget keqI m k
 |[]=>by
  show(match keqI k a with | true=>some b | false=>none)=_;by_cases h:k=a
  ·rw[show keqI k a=true from AD h,Aj h]
  ·rw[show keqI k a=false from AA h,Ag h];rfl
 |p :: m=>by
  show mget keqI (match keqI a p.1 with | true=>(a,b) :: m | false=>p :: mput keqI m a b) k=if k=a then some b else(match keqI k p.1 with | true=>some p.2 | false=>mget keqI m k);by_cases h:a=p.1
  ·rw[show keqI a p.1=true from AD h];show(match keqI k a with | true=>some b | false=>mget keqI m k)=_;by_cases h2:k=a
   ·rw[show keqI k a=true from AD h2,Aj h2]
   ·rw[show keqI k a=false from AA h2,Ag h2,show keqI k p.1=false from AA (by omega)]
  ·rw[show keqI a p.1=false from AA h];show(match keqI k p.1 with | true=>some p.2 | false=>mget keqI (mput keqI m a b) k)=_;rw[qzx7 a b k m];by_cases h2:k=p.1
   ·simp only[show keqI k p.1=true from AD h2,Ag (show ¬k=a by omega)]
   ·rw[show keqI k p.1=false from AA h2]
theorem NP(m:List (Int×Int))(a b s:Int):rem (mput keqI m a b) s=if s=a then b else rem m s:=by unfold rem;rw[qzx7];split<;>rfl
def tabM(T:List AM)(m:List (Int×Int)):List (Int×Int):=T.foldl (fun m h=>mput keqI m h.Stage h.Ticks) m
theorem NQ:∀(T:List AM) (m:List (Int×Int)) (s:Int),(∀h,h∈T->h.Stage≠s)->rem (tabM T m) s=rem m s
 |[],m,s,_=>rfl
 |h :: T,m,s,hs=>by show rem (tabM T (mput keqI m h.Stage h.Ticks)) s=_;rw[NQ T _ s fun x hx=>hs x (AQ _ hx),NP,Ag (Ne.symm (hs h (AP ..)))]
theorem S6:∀(T:List AM) (m:List (Int×Int)) (h:AM),(T.map (·.Stage)).Nodup->h∈T->rem (tabM T m) h.Stage=h.Ticks
 |d :: T,m,h,hn,hh=>by
  obtain⟨n1,n2⟩:=List.nodup_cons.1 hn;show rem (tabM T (mput keqI m d.Stage d.Ticks)) h.Stage=_;rcases AY.1 hh with rfl|hh
  ·rw[NQ T _ _ fun x hx e=>n1 (by show h.Stage∈_;rw[<-e];exact C7.2 ⟨x,hx,rfl⟩),NP,Aj rfl]
  ·exact S6 T _ h n2 hh
theorem wzj9{x:Ao}(hl:x.Table.length<=1000000):lp (Mn x) (0,([]:List (Int×Int)))=some (tabM x.Table []):=by
 refine wztc (l:=x.Table) (fun k=>((k:Int),tabM (x.Table.take k) [])) (by omega) (fun k h e=>?_) ?_ rfl
 ·have hk:=(AE.1 e).1;simp only[Mn];rw[it_d (by omega),at_e rfl e,Ab,A7 (by omega)];unfold tabM;rw[List.take_add_one,e,List.foldl_append];rfl
 ·simp only[Mn];rw[it_n (by omega),List.take_length]
def agL(x:Ao):List Int->(Int->Int)->Prop
 |[],_=>True
 |v :: L,ρ=>(if x.Table=[] then x.Lo<=v/\v<=x.Hi else ρ v≠0)/\agL x L (fun s=>if s=v then ρ s-1 else ρ s)
theorem wzjg{h:AU}{x:Ao}{L:List Int}(hL:sub h.Stages (x.From-h.From) (x.To-h.From)=L)(hl:L.length<=1000000){m:List (Int×Int)}(hm:∀s,-1000000<=rem m s/\rem m s<=2000000) : ∃o,lp (PT h x) (0,m)=some o/\(agL x L (rem m)->∃m',o=.inl m')/\(¬agL x L (rem m)->o=.inr false):=by
 refine C6 (fun s=>∃k:Nat,s.1=(k:Int)/\k<=L.length/\(∀v,-1000000-(k:Int)<=rem s.2 v/\rem s.2 v<=2000000)/\(agL x L (rem m)↔agL x (L.drop k) (rem s.2))) (fun s=>L.length-s.1.toNat) _ (fun s hI=>?_) ⟨0,rfl,B3 _,by simpa using hm,by rw[List.drop_zero]⟩ (by simp only;omega);obtain⟨t,m2⟩:=s;obtain⟨k,rfl,hk,md,dB⟩:=hI;simp only at hk md dB |-;simp only[PT];rw[hL];by_cases hlt:k<L.length
 ·obtain⟨v,hv⟩:=AR hlt;rw[E5 hlt,show L[k]=v from(AE.1 hv).2]at dB;rw[it_d (by omega),at_e rfl hv,Ab];unfold ES ET;simp only[Ab];have hb:=md v
  have go:∀(m3:List (Int×Int)),m3=mput keqI m2 v (rem m2 v-1)->(if x.Table=[] then x.Lo<=v/\v<=x.Hi else rem m2 v≠0) -> (∃k':Nat,(k:Int)+1=(k':Int)/\k'<=L.length/\(∀v,-1000000-(k':Int)<=rem m3 v/\rem m3 v<=2000000)/\(agL x L (rem m)↔agL x (L.drop k') (rem m3))):=fun m3 e hc=>by
   subst e;refine⟨k+1,rfl,by omega,fun w=>?_,?_⟩
   ·rw[NP];have:=md w;split<;>omega
   ·rw[dB]
    have:rem (mput keqI m2 v (rem m2 v-1))=fun s=>if s=v then rem m2 s-1 else rem m2 s:=funext fun s=>by
     rw[NP];split
     ·rename_i e;rw[e]
     ·rfl
    rw[this];exact⟨fun h=>h.2,fun h=>⟨hc,h⟩⟩
  by_cases ht:x.Table=[]
  ·rw[AD (show(x.Table.length:Int)=0 by rw[ht];rfl)];simp only[Br,Ab,BZ];by_cases hc:x.Lo<=v/\v<=x.Hi
   ·left;rw[AD hc.1,AD hc.2];simp only[BZ,E4,Co,Ft,Br,Ab];rw[it_f (by rfl)];show ∃s',(ck (Au .i64 (rem m2 v-1)) _)=_/\_;rw[A7 (by omega),A7 (by omega)];refine⟨_,rfl,go _ rfl (by rw[Aj ht];exact hc),by simp only;omega⟩
   ·right
    have:(bif decide (x.Lo<=v) then decide (v<=x.Hi) else false)=false:=by
     by_cases h3:x.Lo<=v
     ·rw[AD h3,AA (fun h4=>hc ⟨h3,h4⟩)];rfl
     ·rw[AA h3];rfl
    rw[this];refine⟨_,rfl,fun hA=>?_,fun _=>rfl⟩;have:=(dB.1 hA).1;rw[Aj ht]at this;exact absurd this hc
  ·have ph:¬(x.Table.length:Int)=0:=fun e=>ht (NU (by omega));rw[AA ph];simp only[Bs,Ab,Co,Ft,Br];by_cases hc:rem m2 v=0
   ·right;have fL:Option.getD (mget keqI m2 v) 0=0:=hc;rw[fL];refine⟨_,rfl,fun hA=>?_,fun _=>rfl⟩;have:=(dB.1 hA).1;rw[Ag ht]at this;exact absurd hc this
   ·left;have fL:¬Option.getD (mget keqI m2 v) 0=0:=hc;rw[AA fL];simp only[BZ];rw[Du];show ∃s',(ck (Au .i64 (rem m2 v-1)) _)=_/\_;rw[A7 (by omega),A7 (by omega)];refine⟨_,rfl,go _ rfl (by rw[Ag ht];exact hc),by simp only;omega⟩
 ·right;obtain rfl:k=L.length:=by omega
  rw[it_n (by omega)];rw[List.drop_length]at dB;exact⟨_,rfl,fun _=>⟨m2,rfl⟩,fun hn=>absurd (dB.2 trivial) hn⟩
def cntL(s:Int):List Int->Nat
 |[]=>0
 |v :: L=>(if v=s then 1 else 0)+cntL s L
theorem qz4i(s v:Int)(L:List Int):∀n,cnA (fun i=>(v :: L).getD i 0) s (n+1)=(if v=s then 1 else 0)+cnA (fun i=>L.getD i 0) s n
 |0=>by show 0+(if v=s then 1 else 0)=(if v=s then 1 else 0)+0;omega
 |n+1=>by show cnA (fun i=>(v :: L).getD i 0) s (n+1)+(if L.getD n 0=s then 1 else 0)=(if v=s then 1 else 0)+(cnA (fun i=>L.getD i 0) s n+(if L.getD n 0=s then 1 else 0));rw[qz4i s v L n];omega
theorem S7(s:Int):∀L:List Int,cntL s L=cnA (fun i=>L.getD i 0) s L.length
 |[]=>rfl
 |v :: L=>by show(if v=s then 1 else 0)+cntL s L=cnA _ s (L.length+1);rw[qz4i,S7 s L]
theorem qz3g{s:Int}:∀{L:List Int},s∈L->1<=cntL s L
 |v :: L,h=>by
  show 1<=(if v=s then 1 else 0)+cntL s L;rcases AY.1 h with rfl|h
  ·rw[Aj rfl];omega
  ·have:=qz3g h;omega
theorem qz6m{s:Int}:∀{L:List Int},s∉L->cntL s L=0
 |[],_=>rfl
 |v :: L,h=>by show(if v=s then 1 else 0)+cntL s L=0;rw[Ag (fun e=>h (by rw[e];exact AP ..)),qz6m fun hm=>h (AQ _ hm)]
theorem S8{x:Ao}(ht:x.Table≠[]):∀(L:List Int) (ρ:Int->Int),(∀s,0<=ρ s)->(agL x L ρ↔∀s,(cntL s L:Int)<=ρ s)
 |[],ρ,h=>⟨fun _ s=>h s,fun _=>trivial⟩
 |v :: L,ρ,h=>by
  show(if x.Table=[] then _ else ρ v≠0)/\agL x L _↔∀s,(((if v=s then 1 else 0)+cntL s L:Nat):Int)<=ρ s;rw[Ag ht];constructor
  ·rintro⟨h1,h2⟩ s;have hv:=h v
   have:=(S8 ht L _ (fun s=>by
    show 0<=(if s=v then ρ s-1 else ρ s);have:=h s;split
    ·rename_i e;rw[e];omega
    ·omega)).1 h2 s
   by_cases e:v=s
   ·subst e;rw[Aj rfl]at this |-;omega
   ·rw[Ag (Ne.symm e)]at this;rw[Ag e];omega
  ·intro h1;have h0:=h1 v;rw[Aj rfl]at h0
   refine⟨by omega,(S8 ht L _ (fun s=>by
    show 0<=(if s=v then ρ s-1 else ρ s);have:=h s;split
    ·rename_i e;rw[e];omega
    ·omega)).2 fun s=>?_⟩
   have:=h1 s;by_cases e:v=s
   ·subst e;rw[Aj rfl]at this |-;omega
   ·rw[Ag e]at this;rw[Ag (Ne.symm e)];omega
theorem qz84{x:Ao}(ht:x.Table=[]):∀(L:List Int) (ρ:Int->Int),agL x L ρ↔∀v,v∈L->x.Lo<=v/\v<=x.Hi
 |[],ρ=>⟨(fun _ v h=>by cases h),fun _=>trivial⟩
 |v :: L,ρ=>by
  show(if x.Table=[] then _ else ρ v≠0)/\agL x L _↔_;rw[Aj ht,qz84 ht L];constructor
  ·rintro⟨h1,h2⟩ w hw;rcases AY.1 hw with rfl|hw
   ·exact h1
   ·exact h2 w hw
  ·intro h1;exact⟨h1 v (AP ..),fun w hw=>h1 w (AQ _ hw)⟩
theorem wzr2{x:Ao}(R:RunR x){L:List Int}(hL:L.length=(x.To-x.From).toNat):agL x L (rem (tabM x.Table []))↔AgR x (x.To-x.From).toNat (fun i=>L.getD i 0):=by
 have dr:=R.fr;unfold AgR;by_cases ht:x.Table=[]
 ·rw[Aj ht,qz84 ht];constructor
  ·intro h i hi;obtain⟨v,hv⟩:=AR (l:=L) (k:=i) (by omega);show x.Lo<=L.getD i 0/\L.getD i 0<=x.Hi;rw[show L.getD i 0=v by simp[List.getD,hv]];exact h v (AI hv)
  ·intro h v hv;obtain⟨i,hi⟩:=Dy.1 hv;have:x.Lo<=L.getD i 0/\L.getD i 0<=x.Hi:=h i (by have:=(AE.1 hi).1;omega);rw[show L.getD i 0=v by simp[List.getD,hi]]at this;exact this
 ·rw[Ag ht]
  have TB:TabR x.Table (x.To-x.From):=by
   rcases R.tb with ⟨h,_⟩|⟨h,_⟩
   ·exact absurd h ht
   ·exact h
  have aQ:∀h,h∈x.Table->rem (tabM x.Table []) h.Stage=h.Ticks:=fun h hh=>S6 _ _ h TB.nodup hh;have hout:∀s,(∀h,h∈x.Table->h.Stage≠s)->rem (tabM x.Table []) s=0:=fun s hs=>NQ _ _ s hs
  have bt:∀s,0<=rem (tabM x.Table []) s:=fun s=>by
   by_cases h:∃h,h∈x.Table/\h.Stage=s
   ·obtain⟨h,hh,rfl⟩:=h;rw[aQ h hh];have:=TB.st h hh;omega
   ·rw[hout s fun a ha e=>h ⟨a,ha,e⟩];exact Jj _
  rw[S8 ht L _ bt];constructor
  ·intro h
   have eY:∀v,v∈L->∃a,a∈x.Table/\v=a.Stage:=fun v hv=>by
    false_or_by_contra
    rename_i aH;have h1:=h v;rw[hout v fun a ha e=>aH ⟨a,ha,e.symm⟩]at h1;have:=qz3g hv;omega
   have hf:∀i,i<(x.To-x.From).toNat->∃a,a∈x.Table/\L.getD i 0=a.Stage:=fun i hi=>by obtain⟨v,hv⟩:=AR (l:=L) (k:=i) (by omega);rw[show L.getD i 0=v by simp[List.getD,hv]];exact eY v (AI hv)
   refine⟨hf,fun a ha=>?_⟩;have all:=qz8e (a:=fun i=>L.getD i 0) (J:=x.Table.map (·.Stage)) (n:=(x.To-x.From).toNat) TB.nodup fun i hi=>by obtain⟨a,ha,e⟩:=hf i hi;rw[e];exact C7.2 ⟨a,ha,rfl⟩
   rw[Hx]at all;have tot:sm x.Table.length (fun k=>(((x.Table.getD k default).Ticks:Int):Rat))=((x.To-x.From).toNat:Rat):=by have e1:=NN (x.Table.map (·.Ticks));rw[TB.sum,List.map_map,Hw]at e1;have e2:((x.To-x.From:Int):Rat)=(((x.To-x.From).toNat:Nat):Rat):=(by rw[show((((x.To-x.From).toNat:Nat)):Rat)=((((x.To-x.From).toNat:Nat):Int):Rat) from rfl];congr 1;omega);rw[<-e2,e1];rfl
   have dif:sm x.Table.length (fun k=>(((x.Table.getD k default).Ticks:Int):Rat)-((cnA (fun i=>L.getD i 0) (x.Table.getD k default).Stage (x.To-x.From).toNat:Nat):Rat))=0:=by rw[Sd,tot,all];grind
   obtain⟨k,hk⟩:=Dy.1 ha;have gf:=(AE.1 hk).1
   have each:=NF (fun j hj=>by
    obtain⟨b,hb⟩:=AR hj;rw[show x.Table.getD j default=b by simp[List.getD,hb]];have h1:=h b.Stage;rw[aQ b (AI hb),S7,hL]at h1;have:(((cnA (fun i=>L.getD i 0) b.Stage (x.To-x.From).toNat:Nat):Int):Rat)<=((b.Ticks:Int):Rat):=Rat.intCast_le_intCast.2 h1;have e3:(((cnA (fun i=>L.getD i 0) b.Stage (x.To-x.From).toNat:Nat):Int):Rat)=((cnA (fun i=>L.getD i 0) b.Stage (x.To-x.From).toNat:Nat):Rat):=rfl;rw[e3]at this
    grind) dif k gf
   rw[show x.Table.getD k default=a by simp[List.getD,hk]]at each;rw[<-Ji]
   grind
  ·rintro⟨hf,hc⟩ s;by_cases h:∃h,h∈x.Table/\h.Stage=s
   ·obtain⟨a,ha,rfl⟩:=h;rw[aQ a ha,S7,hL];have:=hc a ha;rw[<-Ji]at this;have e3:(((cnA (fun i=>L.getD i 0) a.Stage (x.To-x.From).toNat:Nat):Int):Rat)=((a.Ticks:Int):Rat):=this;have:=Rat.intCast_inj.1 e3;omega
   ·rw[hout s fun a ha e=>h ⟨a,ha,e⟩,qz6m fun hm=>?_];·exact Jj _
    ·obtain⟨i,hi⟩:=Dy.1 hm;obtain⟨a,ha,e⟩:=hf i (by have:=(AE.1 hi).1;omega);have e:L.getD i 0=a.Stage:=e;rw[show L.getD i 0=s by simp[List.getD,hi]]at e;exact h ⟨a,ha,e.symm⟩
structure AgH(l:List Ao)(h:AU):Prop where
 runs:Fo l
 his:hisR h
 nil:l=[]->h.Stages=[]
 fr:∀x,l[0]?=some x->h.From=x.From
 to:∀x,l[l.length-1]?=some x->h.From+(h.Stages.length:Int)=x.To
 ag:AgT l (atT h.Stages h.From)
theorem wzjd{l:List Ao}(hl:l.length<=1000000)(ht:∀x,x∈l->x.Table.length<=1000000)(h:AU):∃b,GS l h=some b/\(b=true↔AgH l h):=by
 unfold GS;obtain⟨e,he,hr⟩:=qzux hl ht;rw[he,Ab];by_cases hz:e=0;rotate_left
 ·rw[AA hz];exact⟨false,rfl,⟨(fun h=>by cases h),fun A=>absurd (hr.2 A.runs) hz⟩⟩
 have R:=hr.1 hz;rw[AD hz];show ∃b,(bd (gd true (DX h)) _)=some b/\_;rw[Br,qzup,Ab];by_cases hh:hisR h;rotate_left
 ·rw[AA hh];exact⟨false,rfl,⟨(fun h=>by cases h),fun A=>absurd A.his hh⟩⟩
 rw[AD hh];show ∃b,(ite' false _ _)=some b/\_;rw[Du];cases l with
 |nil =>
  refine⟨decide ((h.Stages.length:Int)=0),rfl,⟨fun hd=>?_,fun A=>?_⟩⟩
  ·have:=BK hd;exact⟨R,hh,fun _=>NU (by omega),(fun x hx=>by simp at hx),(fun x hx=>by simp at hx),fun r hr=>by cases hr⟩
  ·rw[A.nil rfl];rfl
 |cons r0 l =>
  obtain⟨z,dj,hc⟩:=NO (l:=l) (x:=r0) R.run R.nxt;have h0:(r0 :: l)[(r0 :: l).length-1]?=some z:=by simpa using dj
  have fA:=(R.run r0 (AP ..)).fr;have pg:=(R.run z (AI dj)).fr;have pR:=hh.2.1;have pT:=hh.1;have pi:=hh.2.2.1;rw[it_n (by simp only[Bl];omega),show at? (r0 :: l) 0=some r0 from rfl,Ab];by_cases hf:h.From=r0.From;rotate_left
  ·rw[AA hf];exact⟨false,rfl,⟨(fun h=>by cases h),fun A=>absurd (A.fr r0 rfl) hf⟩⟩
  rw[AD hf,ck_t (by simp only[Bl]at hl |-;simp[Au];omega)];show ∃b,(bd (gd true (at? (r0 :: l) _)) _)=some b/\_;rw[Br,at_e (n:=(r0 :: l).length-1) (by simp only[Bl];omega) h0,Ab,ck_t (by simp[Au];omega)];by_cases hn:(h.Stages.length:Int)=z.To-h.From;rotate_left
  ·rw[AA hn];refine⟨false,rfl,⟨(fun h=>by cases h),fun A=>?_⟩⟩;have:=A.to z h0;omega
  rw[AD hn];show ∃b,(ite' false _ _)=some b/\_;rw[Du]
  have seg:∀x,x∈r0 :: l->∃L,sub h.Stages (x.From-h.From) (x.To-h.From)=L/\L.length=(x.To-x.From).toNat/\∀i,i<(x.To-x.From).toNat->L.getD i 0=atT h.Stages h.From (x.From+(i:Int)):=fun x hx=>by
   obtain⟨X,x1,x2⟩:=hc.mem x hx;have:=X.fr;refine⟨_,rfl,?_,fun i hi=>?_⟩
   ·unfold sub;rw[Gs,H5];omega
   ·unfold sub atT;rw[E6,E6,List.getElem?_take_of_lt (by omega),Gf];congr 2;omega
  open Classical in
  let f:Nat->Ao->Option Bool:=fun _ x=>if AgR x (x.To-x.From).toNat (fun i=>atT h.Stages h.From (x.From+(i:Int))) then none else some false
  have fT:∀k x,AgR x (x.To-x.From).toNat (fun i=>atT h.Stages h.From (x.From+(i:Int)))->f k x=none:=fun k x hA=>Aj hA;have fF:∀k x,¬AgR x (x.To-x.From).toNat (fun i=>atT h.Stages h.From (x.From+(i:Int)))->f k x=some false:=fun k x hA=>Ag hA
  clear_value f
  have e0:lp (Mo h (r0 :: l)) 0=some (sOut (scan f 0 (r0 :: l))):=by
   refine Ez f (by omega) (fun k x e=>?_) ?_
   ·have hk:=(AE.1 e).1;have hx:=AI e;obtain⟨X,x1,x2⟩:=hc.mem x hx;have pU:=X.fr;obtain⟨L,s1,s2,s3⟩:=seg x hx;simp only[Mo];rw[it_d (by omega),at_e rfl e,Ab,wzj9 (ht x hx),Ab,A7 (by omega),A7 (by omega),D9 (by omega)]
    have hb:∀s,-1000000<=rem (tabM x.Table []) s/\rem (tabM x.Table []) s<=2000000:=fun s=>by
     by_cases hs:∃a,a∈x.Table/\a.Stage=s
     ·obtain⟨a,ha,rfl⟩:=hs;rcases X.tb with ⟨h1,_⟩|⟨h1,_⟩
      ·rw[h1]at ha;cases ha
      ·rw[S6 _ _ a h1.nodup ha];have:=h1.st a ha;omega
     ·rw[NQ _ _ s fun a ha e=>hs ⟨a,ha,e⟩];show -1000000<=(0:Int)/\(0:Int)<=2000000;omega
    obtain⟨o,e2,o1,o2⟩:=wzjg s1 (by omega) hb;rw[e2,Ab];have iff1:agL x L (rem (tabM x.Table []))↔AgR x (x.To-x.From).toNat (fun i=>atT h.Stages h.From (x.From+(i:Int))):=by rw[wzr2 X s2];exact⟨fun A=>A.congr s3,fun A=>A.congr fun i hi=>(s3 i hi).symm⟩
    by_cases hA:AgR x (x.To-x.From).toNat (fun i=>atT h.Stages h.From (x.From+(i:Int)))
    ·obtain⟨m',rfl⟩:=o1 (iff1.2 hA);show(ck (Au .i64 ((k:Int)+1)) _)=_;rw[A7 (by omega),fT k x hA]
    ·obtain rfl:=o2 fun dm=>hA (iff1.1 dm);rw[fF k x hA]
   ·simp only[Mo];rw[it_n (by omega)]
  rw[e0,Ab];cases hs:scan f 0 (r0 :: l) with
  |none =>
   refine⟨true,rfl,⟨fun _=>⟨R,hh,(fun h=>by cases h),fun x hx=>by cases hx;exact hf,fun x hx=>by rw[h0]at hx;cases hx;omega,fun x hx=>?_⟩,fun _=>rfl⟩⟩;obtain⟨i,hi⟩:=Dy.1 hx;have:=Fj 0 _ hs i x hi;show AgR _ _ _
   false_or_by_contra
   rename_i aH;rw[fF _ x aH]at this;cases this
  |some o =>
   obtain⟨i,x,h1,h2⟩:=Fn 0 _ o hs;have aH:¬AgR x (x.To-x.From).toNat (fun i=>atT h.Stages h.From (x.From+(i:Int))):=fun hA=>by rw[fT _ x hA]at h2;cases h2
   rw[fF _ x aH]at h2;cases h2;exact⟨false,rfl,⟨(fun h=>by cases h),fun A=>absurd (A.ag x (AI h1)) aH⟩⟩
theorem NR{s:List Al}:Ga s=0↔s.length<=400/\(∀x,x∈s->BB x)/\∀k x y,s[k]?=some x->s[k+1]?=some y->x.To<=y.From:=by
 unfold Ga;by_cases h:400<s.length
 ·rw[Aj h];exact⟨(fun e=>by cases e),fun e=>by omega⟩
 rw[Ag h];cases hs:scan (spnF s) 0 s with
 |some o =>
  obtain⟨i,x,h1,h2⟩:=Fn 0 s o hs;rw[Bq]at h2;unfold spnF at h2;split at h2
  ·cases h2
  ·rename_i hn;cases h2;refine⟨(fun e=>by cases e),fun⟨_,a,b⟩=>?_⟩;exfalso;refine hn ⟨a x (AI h1),fun h0=>?_⟩;obtain⟨p,hp⟩:=AR (l:=s) (k:=i-1) (by have:=(AE.1 h1).1;omega);have:=b (i-1) p x hp (by rw[show i-1+1=i by omega];exact h1);rw[E6,hp];exact this
 |none =>
  refine⟨fun _=>⟨by omega,fun x hx=>?_,fun k x y hx hy=>?_⟩,fun _=>rfl⟩
  ·obtain⟨i,hi⟩:=Dy.1 hx;have:=Fj 0 s hs i x hi;unfold spnF at this;split at this
   ·rename_i h1;exact h1.1
   ·cases this
  ·have:=Fj 0 s hs (k+1) y hy;unfold spnF at this;split at this
   ·rename_i h1;have:=h1.2 (by omega);rw[show 0+(k+1)-1=k by omega,E6,hx]at this;exact this
   ·cases this
theorem S9{s:List Al}(h:Ga s=0):SpR s:=by obtain⟨h1,h2,h3⟩:=NR.1 h;exact⟨h1,fun x hx=>⟨(h2 x hx).1,(h2 x hx).2.1,(h2 x hx).2.2.1⟩,h3⟩
structure BndR(l:List Ao)(s:List Al):Prop where
 run:Fo l
 spn:Ga s=0
 fit:∀a b,s[0]?=some a->s[s.length-1]?=some b->∃x y,l[0]?=some x/\l[l.length-1]?=some y/\x.From<=a.From/\b.To<=y.To
theorem qzu6{l:List Ao}{s:List Al}(hl:l.length<=1000000)(ht:∀x,x∈l->x.Table.length<=1000000)(hs:LSz s):∃e,Ef l s=some e/\(e=0↔BndR l s):=by
 unfold Ef;obtain⟨e,he,hr⟩:=qzux hl ht;rw[he,Ab];by_cases hz:e=0;rotate_left
 ·rw[B9 hz];exact⟨e,rfl,⟨fun h=>absurd h hz,fun B=>absurd (hr.2 B.run) hz⟩⟩
 have R:=hr.1 hz;rw[B0 hz,qzu3 hs,Ab];by_cases hc:Ga s=0;rotate_left
 ·rw[B9 hc];exact⟨Ga s,rfl,⟨fun h=>absurd h hc,fun B=>absurd B.spn hc⟩⟩
 rw[B0 hc];have jE:=(NR.1 hc).1;by_cases h0:0<s.length;rotate_left
 ·have hd:decide (0<(s.length:Int))=false:=AA (by omega);rw[hd];refine⟨0,rfl,⟨fun _=>⟨R,hc,fun a b ha=>?_⟩,fun _=>rfl⟩⟩;have:=(AE.1 ha).1;omega
 have hd:decide (0<(s.length:Int))=true:=AD (by omega);rw[hd];obtain⟨a,ha⟩:=AR h0;obtain⟨b,hb⟩:=AR (l:=s) (k:=s.length-1) (by omega);cases l with
 |nil =>refine⟨19,rfl,⟨(fun h=>by cases h),fun B=>?_⟩⟩;obtain⟨x,y,hx,_⟩:=B.fit a b ha hb;simp at hx
 |cons r l =>
  have aH:¬((r :: l).length:Int)=0:=by simp only[Bl];omega
  rw[AA aH];simp only[Gau,Ft,Br,Co,BZ];rw[show at? s 0=some a from at_e (n:=0) rfl ha,Ab,show at? (r :: l) 0=some r from rfl,Ab];by_cases h1:a.From<r.From
  ·rw[AD h1];refine⟨19,rfl,⟨(fun h=>by cases h),fun B=>?_⟩⟩;obtain⟨x,y,hx,_,h3,_⟩:=B.fit a b ha hb;cases hx;omega
  ·rw[AA h1];obtain⟨z,dj⟩:=AR (l:=r :: l) (k:=(r :: l).length-1) (by simp);simp only[Ft,Br,Co];rw[ck_t (by simp[Au];omega),at_e (n:=s.length-1) (by omega) hb,Ab,ck_t (by simp only[Bl]at hl |-;simp[Au];omega),at_e (n:=(r :: l).length-1) (by simp only[Bl];omega) dj,Ab];by_cases h2:z.To<b.To
   ·rw[AD h2];refine⟨19,rfl,⟨(fun h=>by cases h),fun B=>?_⟩⟩;obtain⟨x,y,hx,hy,h3,h4⟩:=B.fit a b ha hb;rw[dj]at hy;cases hy;omega
   ·rw[AA h2];refine⟨0,rfl,⟨fun _=>⟨R,hc,fun a' b' gF bg=>?_⟩,fun _=>rfl⟩⟩;rw[ha]at gF;rw[hb]at bg;cases gF;cases bg;exact⟨r,z,rfl,dj,by omega,by omega⟩
theorem BndR.inn{l:List Ao}{s:List Al}(B:BndR l s){x y:Ao}(hx:l[0]?=some x)(hy:l[l.length-1]?=some y):∀t,t∈s->x.From<=t.From/\t.To<=y.To:=fun t ht=>by
 have H:=S9 B.spn;obtain⟨i,hi⟩:=Dy.1 ht;have jg:=(AE.1 hi).1;obtain⟨a,ha⟩:=AR (l:=s) (k:=0) (by omega);obtain⟨b,hb⟩:=AR (l:=s) (k:=s.length-1) (by omega);obtain⟨x',y',bY,nh,h1,h2⟩:=B.fit a b ha hb;rw[hx]at bY;rw[hy]at nh;cases bY;cases nh
 have p1:a.From<=t.From:=by
  by_cases h:i=0
  ·subst h;rw[ha]at hi;cases hi;omega
  ·have:=H.far (i-1) 0 a t ha (by rw[show 0+(i-1+1)=i by omega];exact hi);have:=(H.sp a (AI ha)).2.1;omega
 have p2:t.To<=b.To:=by
  by_cases h:i=s.length-1
  ·subst h;rw[hb]at hi;cases hi;omega
  ·have:=H.far (s.length-1-i-1) i t b hi (by rw[show i+(s.length-1-i-1+1)=s.length-1 by omega];exact hb);have:=(H.sp b (AI hb)).2.1;omega
 omega
def mS(g:Int->Rat):List (Int×Int)->Rat
 |[]=>0
 |p :: m=>(p.2:Rat)*g p.1+mS g m
theorem wzoo{g:Int->Rat}{m m':List (Int×Int)}(h:m'.Perm m):mS g m'=mS g m:=by
 induction h with
 |nil=>rfl
 |cons x _ ih=>simp only[mS,ih]
 |swap x y l=>simp only[mS];grind
 |trans _ _ a b=>exact a.trans b
theorem wzgv(g:Int->Rat)(s:Int):∀m:List (Int×Int),mS g (mput keqI m s (Option.getD (mget keqI m s) 0+1))=mS g m+g s
 |[]=>by show(((0:Int)+1:Int):Rat)*g s+0=0+g s;have:(((0:Int)+1:Int):Rat)=1:=rfl;rw[this];grind
 |p :: m=>by
  have ih:=wzgv g s m;by_cases h:s=p.1
  ·have hq:keqI s p.1=true:=AD h;have e1:mget keqI (p :: m) s=some p.2:=by show(match keqI s p.1 with | true=>some p.2 | false=>mget keqI m s)=_;rw[hq]
   have e2:∀b,mput keqI (p :: m) s b=(s,b) :: m:=fun b=>by show(match keqI s p.1 with | true=>(s,b) :: m | false=>p :: mput keqI m s b)=_;rw[hq]
   rw[e1,e2];show((p.2+1:Int):Rat)*g s+mS g m=(p.2:Rat)*g p.1+mS g m+g s;rw[<-h,Rat.intCast_add];have:((1:Int):Rat)=1:=rfl;rw[this];grind
  ·have hq:keqI s p.1=false:=AA h;have e1:mget keqI (p :: m) s=mget keqI m s:=by show(match keqI s p.1 with | true=>some p.2 | false=>mget keqI m s)=_;rw[hq]
   have e2:∀b,mput keqI (p :: m) s b=p :: mput keqI m s b:=fun b=>by show(match keqI s p.1 with | true=>(s,b) :: m | false=>p :: mput keqI m s b)=_;rw[hq]
   rw[e1,e2];show(p.2:Rat)*g p.1+mS g (mput keqI m s _)=(p.2:Rat)*g p.1+mS g m+g s;rw[ih];grind
structure CntB(n:Nat)(m:List (Int×Int)):Prop where
 len:m.length<=n
 ent:∀p,p∈m->(0<=p.1/\p.1<=1000)/\0<=p.2/\p.2<=n
theorem wzki{m:List (Int×Int)}{s b:Int}:∀p,p∈mput keqI m s b->p=(s,b)\/p∈m:=by
 induction m with
 |nil=>intro p hp;exact .inl (BX.1 hp)
 |cons q m ih =>
  intro p hp;cases hq:keqI s q.1
  ·have e2:mput keqI (q :: m) s b=q :: mput keqI m s b:=by show(match keqI s q.1 with | true=>(s,b) :: m | false=>q :: mput keqI m s b)=_;rw[hq]
   rw[e2]at hp;rcases AY.1 hp with rfl|hp
   ·exact .inr (AP ..)
   ·exact(ih p hp).imp id (AQ _)
  ·have e2:mput keqI (q :: m) s b=(s,b) :: m:=by show(match keqI s q.1 with | true=>(s,b) :: m | false=>q :: mput keqI m s b)=_;rw[hq]
   rw[e2]at hp;exact(AY.1 hp).imp id (AQ _)
theorem wzi4{m:List (Int×Int)}{s b:Int}:(mput keqI m s b).length<=m.length+1:=by
 induction m with
 |nil=>exact A8 _
 |cons q m ih =>
  cases hq:keqI s q.1
  ·have e2:mput keqI (q :: m) s b=q :: mput keqI m s b:=by show(match keqI s q.1 with | true=>(s,b) :: m | false=>q :: mput keqI m s b)=_;rw[hq]
   rw[e2];simp only[Bl];omega
  ·have e2:mput keqI (q :: m) s b=(s,b) :: m:=by show(match keqI s q.1 with | true=>(s,b) :: m | false=>q :: mput keqI m s b)=_;rw[hq]
   rw[e2];simp only[Bl];omega
theorem wzpv{m:List (Int×Int)}{s v:Int}(h:mget keqI m s=some v):(s,v)∈m:=by
 induction m with
 |nil=>cases h
 |cons q m ih =>
  cases hq:keqI s q.1
  ·have e1:mget keqI (q :: m) s=mget keqI m s:=by show(match keqI s q.1 with | true=>some q.2 | false=>mget keqI m s)=_;rw[hq]
   rw[e1]at h;exact AQ _ (ih h)
  ·have e1:mget keqI (q :: m) s=some q.2:=by show(match keqI s q.1 with | true=>some q.2 | false=>mget keqI m s)=_;rw[hq]
   rw[e1]at h;have:s=q.1:=BK hq;cases h;rw[this];exact AP ..
theorem wzh6{n:Nat}{m:List (Int×Int)}(H:CntB n m){s:Int}(hs:0<=s/\s<=1000):(0<=Option.getD (mget keqI m s) 0/\Option.getD (mget keqI m s) 0<=n)/\CntB (n+1) (mput keqI m s (Option.getD (mget keqI m s) 0+1)):=by
 have hg:0<=Option.getD (mget keqI m s) 0/\Option.getD (mget keqI m s) 0<=n:=by
  cases e:mget keqI m s with
  |none=>exact⟨Jj _,by show(0:Int)<=n;omega⟩
  |some v=>exact(H.ent _ (wzpv e)).2
 have hl:=H.len;refine⟨hg,⟨AS wzi4 (by omega),fun p hp=>?_⟩⟩;rcases wzki p hp with rfl|hp
 ·exact⟨hs,by dsimp only;omega,by dsimp only;omega⟩
 ·obtain⟨a,b,c⟩:=H.ent p hp;exact⟨a,b,by omega⟩
theorem qz5b(g:Int->Rat):∀(L:List Int) (m:List (Int×Int)) (n:Nat),CntB n m->(∀s,s∈L->0<=s/\s<=1000)->n+L.length<=1000000 -> ∃m',F6 L m=some m'/\CntB (n+L.length) m'/\mS g m'=mS g m+sQ (L.map g)
 |[],m,n,H,_,_=>⟨m,rfl,H,by show _=mS g m+0;grind⟩
 |s :: L,m,n,H,hs,hn=>by
  obtain⟨h1,h2⟩:=wzh6 H (hs s (AP ..));have hl:n+1+L.length<=1000000:=by simp at hn;omega
  obtain⟨m',e1,e2,e3⟩:=qz5b g L _ (n+1) h2 (fun t ht=>hs t (AQ _ ht)) hl;refine⟨m',?_,?_,?_⟩
  ·unfold F6;rw[A7 (by omega)];exact e1
  ·rw[show n+(s :: L).length=n+1+L.length by simp;omega];exact e2
  ·rw[e3,wzgv];show mS g m+g s+sQ (L.map g)=mS g m+(g s+sQ (L.map g))
   grind
structure SA(s:Al)(A:Nat)(g:Int->Rat):Prop where
 eq:∀st,0<=st->st<=1000->Dt s st=some (rof (g st))/\Sz A (rof (g st))
theorem SB{s:Al}{A:Nat}{g:Int->Rat}(hR:SA s A g)(hA:1<=A/\A<=8388608):∀(m:List (Int×Int)) (q:Rat) (k:Nat),(∀p,p∈m->(0<=p.1/\p.1<=1000)/\0<=p.2/\p.2<=1000000)->Sz k (rof q)->1<=k->k+m.length*(A+10)<=2147483648 ->
  B7 s m (rof q)=some (rof (q+mS g m))/\Sz (k+m.length*(A+10)) (rof (q+mS g m))
 |[],q,k,_,hk,_,_=>by
  have e:q+mS g []=q:=by show q+0=q;grind
  rw[e];exact⟨rfl,hk.mono (by simp)⟩
 |p :: m,q,k,hm,hk,k1,hb=>by
  obtain⟨⟨a1,a2⟩,b1,b2⟩:=hm p (AP ..);have hl:(p :: m).length*(A+10)=m.length*(A+10)+(A+10):=by rw[Bl,BY]
  rw[hl]at hb;obtain⟨i1,i2⟩:=QN (n:=p.2) (by omega) (by omega);obtain⟨r1,r2⟩:=hR.eq p.1 a1 a2;obtain⟨m1,m2⟩:=K5 i2 r2 (by omega) (by omega) (by omega) (by omega);rw[Cl,Cl]at m1 m2;obtain⟨s1,s2⟩:=K4 hk m2 (by omega) (by omega) (by omega) (by omega);rw[Cl,Cl]at s1 s2;obtain⟨t1,t2⟩:=SB hR hA m (q+(p.2:Rat)*g p.1) (k+(8+A+1)+1) (fun p hp=>hm p (AQ _ hp)) s2 (by omega) (by omega);have e:q+mS g (p :: m)=q+(p.2:Rat)*g p.1+mS g m:=by show q+((p.2:Rat)*g p.1+mS g m)=_;grind
  rw[e];refine⟨?_,t2.mono (by omega)⟩;unfold B7;rw[i1,Ab,r1,Ab,m1,Ab,s1,Ab];exact t1
theorem qz06{α:Type}{x:α}:∀{l m:List α},m∈insA x l->m.Perm (x :: l)
 |[],m,h=>by rw[BX.1 h]
 |y :: l,m,h=>by
  rcases AY.1 h with rfl|h
  ·exact .refl _
  ·obtain⟨z,hz,rfl⟩:=C7.1 h;exact((qz06 hz).cons y).trans (.swap x y l)
theorem qzwr{α:Type}:∀{l m:List α},m∈JP l->m.Perm l
 |[],m,h=>by rw[BX.1 h]
 |x :: l,m,h=>by obtain⟨z,hz,hm⟩:=List.mem_flatMap.1 h;exact(qz06 hm).trans ((qzwr hz).cons x)
theorem wzj1(a:Af):eqR (some a) (some a)=true:=by simp[eqR]
theorem wzjb{s:Al}{A:Nat}{g:Int->Rat}(hR:SA s A g)(hA:1<=A/\A<=8388608){m:List (Int×Int)}{q:Rat}{k:Nat}(hm:∀p,p∈m->(0<=p.1/\p.1<=1000)/\0<=p.2/\p.2<=1000000)(hk:Sz k (rof q))(k1:1<=k)(hb:k+m.length*(A+10)<=2147483648) :
  F5 s m (rof q)=some (rof (q+mS g m))/\Sz (k+m.length*(A+10)) (rof (q+mS g m)):=by
 obtain⟨t1,t2⟩:=SB hR hA m q k hm hk k1 hb;refine⟨?_,t2⟩;unfold F5;rw[CS.2 fun m' hp=>?_]
 ·exact t1
 ·have hp:=qzwr hp;obtain⟨u1,_⟩:=SB hR hA m' q k (fun p pj=>hm p (hp.mem_iff.1 pj)) hk k1 (by rw[hp.length_eq];exact hb);rw[u1,t1,wzoo hp,wzj1]
def rwR(a b s:Int):Ao:=⟨a,b,[⟨s,b-a⟩],0,0⟩
theorem qz9l{a b s:Int}(h:-1000000000000<=a/\a<=1000000000000/\-1000000000000<=b/\b<=1000000000000):DY a b s=some (rwR a b s):=by unfold DY;rw[A7 (by omega)];rfl
theorem wzpz{a b s c d u:Int}(h:0<=a/\a<=1402560/\0<=d/\d<=1402560):∃p,GC (rwR a b s) (rwR c d u)=some p/\(p.2=true->p.1=rwR a d s):=by
 unfold GC;have r1:∀x y z:Int,LT (rwR x y z)=some true:=fun x y z=>rfl;have g1:∀x y z:Int,ES (rwR x y z)=some false:=fun x y z=>rfl;rw[r1,r1,g1];simp only[Ab,Br,BZ];rw[at_e (j:=0) (n:=0) rfl (show(rwR a b s).Table[0]?=some ⟨s,b-a⟩ from rfl),at_e (j:=0) (n:=0) rfl (show(rwR c d u).Table[0]?=some ⟨u,d-c⟩ from rfl)];simp only[Ab];by_cases e:s=u
 ·rw[it_d e];rw[show DY (rwR a b s).From (rwR c d u).To s=some (rwR a d s) from qz9l (by show _<=a/\a<=_/\_<=d/\d<=_;omega)];exact⟨_,rfl,fun _=>rfl⟩
 ·rw[it_n e];simp only[Bs,Ab,Co,Du];exact⟨_,rfl,fun h=>by cases h⟩
def RwO(out:List Ao):Prop:=∀x,x∈out->∃a b s,x=rwR a b s/\0<=a/\a<=1402560
theorem wzdz{f:Int}(hf:0<=f):∀(l:List Int) (k:Int) (out:List Ao),0<=k->f+k+l.length<=1402560->RwO out->∃o,ofL f k l out=some o/\o.length<=out.length+l.length
 |[],k,out,_,_,_=>⟨out,rfl,by simp⟩
 |s :: l,k,out,hk,hb,ho=>by
  have hb:f+k+l.length+1<=1402560:=by simp at hb;omega
  have hh:DY (f+k) (f+k+1) s=some (rwR (f+k) (f+k+1) s):=qz9l (by omega)
  have key:∃o1,GD out (rwR (f+k) (f+k+1) s)=some o1/\RwO o1/\o1.length<=out.length+1:=by
   have hx:∃a b t,rwR (f+k) (f+k+1) s=rwR a b t/\0<=a/\a<=1402560:=⟨_,_,_,rfl,by omega,by omega⟩;rcases List.eq_nil_or_concat out with rfl|⟨m,a,rfl⟩
   ·exact⟨[_],rfl,fun x bY=>by rw[BX.1 bY];exact hx,by simp⟩
   ·rw[List.concat_eq_append]at *;obtain⟨a1,b1,s1,rfl,q1,q2⟩:=ho a (by simp);obtain⟨p,hp,ge⟩:=wzpz (a:=a1) (b:=b1) (s:=s1) (c:=f+k) (d:=f+k+1) (u:=s) (by omega);refine⟨bif p.2 then m++[p.1] else m++[rwR a1 b1 s1]++[rwR (f+k) (f+k+1) s],?_,?_,?_⟩
    ·unfold GD;rw[List.getLast?_concat];simp only;rw[hp,Ab,List.dropLast_concat]
    ·cases h2:p.2
     ·intro x bY;simp only[Co,List.append_assoc,Dx,BX,AY,Oc,Oe]at bY;rcases bY with bY|rfl|rfl
      ·exact ho x (by simp[bY])
      ·exact⟨_,_,_,rfl,q1,q2⟩
      ·exact hx
     ·intro x bY;simp only[BZ,Dx,BX]at bY;rcases bY with bY|rfl
      ·exact ho x (by simp[bY])
      ·rw[ge h2];exact⟨_,_,_,rfl,q1,q2⟩
    ·cases p.2<;>simp
  obtain⟨o1,e1,e2,e3⟩:=key;obtain⟨o,e4,e5⟩:=wzdz hf l (k+1) o1 (by omega) (by omega) e2;refine⟨o,?_,by simp;omega⟩;unfold ofL;rw[ck_t (by simp[Au];omega),hh,Ab,e1,Ab];exact e4
theorem qz22{h:AU}(hh:hisR h)(hn:h.Stages.length<=200):∃o,EN h=some (o,0):=by unfold EN;rw[qzup h,AD hh];simp only[Ab,E4,Du];obtain⟨h1,h2,h3,h4⟩:=hh;obtain⟨o,e1,e2⟩:=wzdz h1 h.Stages 0 [] (by omega) (by omega) (fun x hx=>by cases hx);rw[e1,Ab,it_n (by simp at e2;omega)];exact⟨o,rfl⟩
def segS(h:AU)(s:Al):List Int:=sub h.Stages (s.From-h.From) (s.To-h.From)
def tkN:List Al->Nat
 |[]=>0
 |s :: l=>(s.To-s.From).toNat+tkN l
theorem qz6q{h:AU}{s:Al}(h1:h.From<=s.From)(h2:s.From<s.To)(h3:s.To<=h.From+(h.Stages.length:Int)):(segS h s).length=(s.To-s.From).toNat:=by unfold segS sub;rw[Gs,H5];omega
theorem wznx{h:AU}(hh:hisR h){A:Nat}(hA:1<=A/\A<=8388608):∀(l:List Al) (q:Rat) (k:Nat),(∀s,s∈l->SA s A (rtS s)/\h.From<=s.From/\s.From<s.To/\s.To<=h.From+(h.Stages.length:Int))->Sz k (rof q)->1<=k->k+tkN l*(A+10)<=2147483648 ->
  vaL h l (rof q)=some (rof (q+sQ (l.map fun s=>sQ ((segS h s).map (rtS s)))),0)/\Sz (k+tkN l*(A+10)) (rof (q+sQ (l.map fun s=>sQ ((segS h s).map (rtS s)))))
 |[],q,k,_,hk,_,_=>by
  have e:q+sQ ([].map fun s:Al=>sQ ((segS h s).map (rtS s)))=q:=by show q+0=q;grind
  rw[e];exact⟨rfl,hk.mono (Nat.le_add_right _ _)⟩
 |s :: l,q,k,hl,hk,k1,hb=>by
  obtain⟨h1,h2,h3,h4⟩:=hh;obtain⟨r,g1,g2,g3⟩:=hl s (AP ..);have aL:∀t,t∈segS h s->0<=t/\t<=1000:=fun t ht=>h4 t (Gca (List.mem_of_mem_take ht));have aE:=qz6q g1 g2 g3;obtain⟨m,e1,e2,e3⟩:=qz5b (rtS s) (segS h s) [] 0 ⟨by simp,fun p hp=>by cases hp⟩ aL (by rw[aE];omega);rw[aE,Bq]at e2;have e3:mS (rtS s) m=sQ ((segS h s).map (rtS s)):=by rw[e3];show 0+_=_;grind
  have dX:=e2.len;have g9:m.length*(A+10)<=(s.To-s.From).toNat*(A+10):=Bd _ dX;have hb:k+((s.To-s.From).toNat+tkN l)*(A+10)<=2147483648:=hb;rw[AT]at hb;obtain⟨a1,a2⟩:=wzjb r hA (m:=m) (q:=q) (k:=k) (fun p hp=>by obtain⟨x,y,z⟩:=e2.ent p hp;exact⟨x,y,by omega⟩) hk k1 (by omega);rw[e3]at a1 a2;obtain⟨ih,zih⟩:=wznx ⟨h1,h2,h3,h4⟩ hA l _ (k+(s.To-s.From).toNat*(A+10)) (fun s hs=>hl s (AQ _ hs)) (a2.mono (by omega)) (by omega) (by omega)
  have eq:q+sQ ((s :: l).map fun s=>sQ ((segS h s).map (rtS s)))=q+sQ ((segS h s).map (rtS s))+sQ (l.map fun s=>sQ ((segS h s).map (rtS s))):=by
   show q+(_+_)=q+_+_
   grind
  rw[eq];refine⟨?_,zih.mono ?_⟩
  ·unfold vaL;rw[A7 (by omega),it_f (by simp;omega),ck_t (by simp[Au,C3];omega)];show(bd (F6 (segS h s) []) _)=_;rw[e1,Ab,a1,Ab,ih]
  ·show _<=k+((s.To-s.From).toNat+tkN l)*(A+10);rw[AT,<-Fv];exact A8 _
theorem SpR.tail{s:Al}{l:List Al}(H:SpR (s :: l)):SpR l:=⟨by have:=H.len;simp only[Bl]at this;omega,fun x hx=>H.sp x (AQ _ hx),fun k x y hx hy=>H.asc (k+1) x y (by simpa using hx) (by simpa using hy)⟩
theorem wzet:∀{l:List Al} {a b:Int},SpR l->a<=b->(∀x,x∈l->a<=x.From/\x.To<=b)->(tkN l:Int)<=b-a
 |[],a,b,_,h,_=>by show((0:Nat):Int)<=_;omega
 |s :: l,a,b,H,h,hx=>by
  have h1:=hx s (AP ..);have h2:=H.sp s (AP ..);have:=wzet (l:=l) (a:=s.To) (b:=b) H.tail (by omega) fun x hm=>by obtain⟨i,hi⟩:=Dy.1 hm;have:=H.far i 0 s x rfl (by rw[Bq];simpa using hi);exact⟨this,(hx x (AQ _ hm)).2⟩
  show(((s.To-s.From).toNat+tkN l:Nat):Int)<=b-a;omega
theorem La(f:Nat->Rat)(m:Nat):∀n,sm (m+n) f=sm m f+sm n (fun i=>f (m+i))
 |0=>by show sm m f=sm m f+0;grind
 |n+1=>by show sm (m+n) f+f (m+n)=sm m f+(sm n _+f (m+n));rw[La f m n];grind
theorem wzhr{f:Nat->Rat}{n j0:Nat}(h0:j0<n)(h:∀j,j<n->j≠j0->f j=0):sm n f=f j0:=by obtain⟨d,hd⟩:∃d,n=(j0+1)+d:=⟨n-(j0+1),by omega⟩;subst hd;rw[La,Be (n:=d) (g:=fun _=>0) fun i hi=>h _ (by omega) (by omega),DJ];show sm j0 f+f j0+0=f j0;rw[Be (g:=fun _=>0) fun i hi=>h i (by omega) (by omega),DJ];grind
theorem wzrq(ψ:Int->Rat){h:AU}{s:Al}(h1:h.From<=s.From)(h2:s.From<s.To)(h3:s.To<=h.From+(h.Stages.length:Int)) :
  sQ ((segS h s).map ψ)=sm h.Stages.length (fun i=>if inS s (h.From+(i:Int)) then ψ (h.Stages.getD i 0) else 0):=by
 rw[Hw,qz6q h1 h2 h3];obtain⟨a,ha⟩:∃a:Nat,s.From-h.From=a:=⟨(s.From-h.From).toNat,by omega⟩;obtain⟨n,hn⟩:∃n:Nat,s.To-s.From=n:=⟨(s.To-s.From).toNat,by omega⟩;obtain⟨c,hc⟩:∃c:Nat,h.Stages.length=a+(n+c):=⟨h.Stages.length-a-n,by omega⟩;rw[hc,La,La,show(s.To-s.From).toNat=n by omega];rw[Be (n:=a) (g:=fun _=>0) fun i hi=>Ag (fun e=>by unfold inS at e;omega),Be (n:=c) (g:=fun _=>0) fun i hi=>Ag (fun e=>by unfold inS at e;omega),DJ,DJ];rw[Be (n:=n) (f:=fun i=>if inS s (h.From+((a+i:Nat):Int)) then ψ (h.Stages.getD (a+i) 0) else 0) (g:=fun b=>ψ ((segS h s).getD b default)) fun i hi=>?_]
 ·grind
 ·rw[Aj (by unfold inS;omega)];congr 1;unfold segS sub;rw[E6,E6,List.getElem?_take_of_lt (by omega),Gf,show(s.From-h.From).toNat+i=a+i by omega];rfl
theorem qz70{α:Type}(f:α->Nat->Rat)(N:Nat):∀l:List α,sQ (l.map fun s=>sm N (f s))=sm N (fun i=>sQ (l.map fun s=>f s i))
 |[]=>(DJ N).symm
 |s :: l=>by show sm N (f s)+sQ (l.map _)=sm N (fun i=>f s i+sQ (l.map fun s=>f s i));rw[qz70 f N l,E0]
theorem wzsd{s:List Al}(H:SpR s)(t v:Int):sQ (s.map fun x=>if inS x t then rtS x v else 0)=rtC s false (atC s t) v:=by
 rw[Hw];rcases Sw (l:=s) (t:=t) with ⟨h1,h2⟩|⟨j,x,h1,h2,h3⟩
 ·rw[h1,Be (g:=fun _=>0) fun i hi=>?_,DJ];·unfold rtC;rw[Aj (by decide)]
  ·obtain⟨y,hy⟩:=AR hi;rw[show s.getD i default=y by simp[List.getD,hy]];exact Ag (h2 y (AI hy))
 ·rw[h3,wzhr (j0:=j) (AE.1 h1).1 fun i hi aH=>?_];·rw[show s.getD j default=x by simp[List.getD,h1],Aj h2];unfold rtC;rw[Ag (by omega),show((j:Int)).toNat=j by omega,show s.getD j default=x by simp[List.getD,h1]];rfl
  ·obtain⟨y,hy⟩:=AR hi;rw[show s.getD i default=y by simp[List.getD,hy]];refine Ag fun e=>aH ?_;have:=(Sx H hy).2 e;omega
theorem qz8i{s:List Al}{tu:Bool}{g:Int->Int}:∀{l:List Ao} {a b:Int},ChR a l b->cstT s tu l g=sm (b-a).toNat (fun i=>rtC s tu (atC s (a+(i:Int))) (g (a+(i:Int))))
 |[],a,b,h=>by have h:a=b:=h;rw[show(b-a).toNat=0 by omega];rfl
 |r :: l,a,b,h=>by obtain⟨R,rfl,hc⟩:=h;have h1:=R.fr;have h2:=hc.le;rw[show(b-r.From).toNat=(r.To-r.From).toNat+(b-r.To).toNat by omega,La];show cst s tu r.From _ _+cstT s tu l g=_;rw[qz8i hc];congr 1;refine Be fun i hi=>?_;rw[show r.From+(((r.To-r.From).toNat+i:Nat):Int)=r.To+(i:Int) by omega]
theorem wzkb{l:List Ao}{s:List Al}(B:BndR l s)(hs:LSz s)(hT:∀x y,l[0]?=some x->l[l.length-1]?=some y->y.To-x.From<=100){h:AU}(A:AgH l h):D4 h s=some (rof (cstT s false l (atT h.Stages h.From)),0)/\Sz 2147483648 (rof (cstT s false l (atT h.Stages h.From))):=by
 have H:=S9 B.spn;obtain⟨_,dq,_⟩:=NR.1 B.spn;unfold D4;rw[qzu3 hs,B.spn,Ab,B0 rfl];cases l with
 |nil =>
  have hn:=A.nil rfl
  have pk:s=[]:=by
   cases s with
   |nil=>rfl
   |cons a s =>obtain⟨b,hb⟩:=AR (l:=a :: s) (k:=(a :: s).length-1) (by simp);obtain⟨x,y,hx,_⟩:=B.fit a b rfl hb;simp at hx
  subst pk;obtain⟨o,e⟩:=qz22 A.his (by rw[hn];simp);rw[e,Ab,B0 rfl,show Af.mk false [] []=rof 0 from Dl.symm];exact⟨rfl,by show Sz _ (rof 0);rw[Dl];exact Sz.zero _⟩
 |cons r l =>
  obtain⟨z,dj,hc⟩:=NO (l:=l) (x:=r) B.run.run B.run.nxt;have h0:(r :: l)[(r :: l).length-1]?=some z:=by simpa using dj
  have dr:=A.fr r rfl;have pV:=A.to z h0;have mc:=hT r z rfl h0;have aQ:=B.inn (x:=r) (y:=z) rfl h0;obtain⟨o,e⟩:=qz22 A.his (by omega);rw[e,Ab,B0 rfl,show Af.mk false [] []=rof 0 from Dl.symm];have aC:=hc.le;have gl:=wzet (b:=z.To) H aC aQ;have g9:tkN s*(5242881+10)<=100*(5242881+10):=Bd _ (by omega);obtain⟨w1,w2⟩:=wznx A.his (A:=5242881) (by omega) s 0 1 (fun x hx=>by have h1:=aQ x hx;have h2:=(H.sp x hx).2.1;exact⟨⟨fun st a b=>Sp (hs.sz x hx) (dq x hx) ⟨a,b⟩⟩,by omega,h2,by omega⟩) (by rw[Dl];exact Sz.zero _) (by omega) (by omega)
  have key:(0:Rat)+sQ (s.map fun x=>sQ ((segS h x).map (rtS x)))=cstT s false (r :: l) (atT h.Stages h.From):=by
   rw[qz8i hc];have e1:s.map (fun x=>sQ ((segS h x).map (rtS x)))=s.map fun x=>sm h.Stages.length (fun i=>if inS x (h.From+(i:Int)) then rtS x (h.Stages.getD i 0) else 0):=H6 fun x hx=>by have h1:=aQ x hx;have h2:=(H.sp x hx).2.1;exact wzrq (rtS x) (by omega) h2 (by omega)
   rw[e1,qz70,show(z.To-r.From).toNat=h.Stages.length by omega];have e2:(0:Rat)+sm h.Stages.length (fun i=>sQ (s.map fun x=>if inS x (h.From+(i:Int)) then rtS x (h.Stages.getD i 0) else 0))=sm h.Stages.length (fun i=>sQ (s.map fun x=>if inS x (h.From+(i:Int)) then rtS x (h.Stages.getD i 0) else 0)):=by grind
   rw[e2];refine Be fun i hi=>?_;rw[wzsd H,dr];congr 1;unfold atT;rw[show(r.From+(i:Int)-r.From).toNat=i by omega]
  rw[key]at w1 w2;exact⟨w1,w2.mono (by omega)⟩
theorem SC:GU=some true:=by decide +kernel
theorem wzj2(s:List Al)(k v:Int):rtC s true k v = -(rtC s false k v):=by
 unfold rtC;split
 ·grind
 ·rfl
theorem wze5(f:Nat->Rat):∀n,sm n (fun i=>-(f i)) = -(sm n f)
 |0=>by show(0:Rat) = -0;grind
 |n+1=>by show sm n _+-(f n) = -(sm n f+f n);rw[wze5 f n];grind
theorem SD(s:List Al)(g:Int->Int):∀l:List Ao,cstT s true l g = -(cstT s false l g)
 |[]=>by show(0:Rat) = -0;grind
 |r :: l=>by
  show cst s true r.From _ _+cstT s true l g = -(cst s false r.From _ _+cstT s false l g);rw[SD s g l];have:∀n f,cst s true r.From n f = -(cst s false r.From n f):=fun n f=>by unfold cst;rw[<-wze5];exact Be fun i _=>wzj2 s _ _
  rw[this];grind
structure Ends(l:List Ao)(s:List Al)(a b:Rat)(g h:AU):Prop where
 least:EV l s=some (rof a,g,0)
 most:FF l s=some (rof b,h,0)
 za:Sz 4718610010 (rof a)
 zb:Sz 4718610010 (rof b)
 ea:EndE s false l g a
 eb:EndE s true l h (-b)
theorem wzqk{l:List Ao}{s:List Al}{t:Int}(ht:t<=100)(F:FewS l s t)(B:BndR l s):∃a b g h,Ends l s a b g h:=by
 have H:=S9 B.spn;obtain⟨s400,dq,_⟩:=NR.1 B.spn;have hz:∀x,x∈s->SSz x/\BB x:=fun x hx=>⟨F.sz.sz x hx,dq x hx⟩;have hT:∀x y,l[0]?=some x->l[l.length-1]?=some y->y.To-x.From<=100:=fun x y hx hy=>by have:=F.tot B.run x y hx hy;omega
 obtain⟨e,he,hr⟩:=qzu6 (l:=l) (s:=s) (by have:=F.len;omega) (fun x hx=>by have:=F.tab x hx;omega) F.sz;obtain rfl:=hr.2 B;obtain⟨V,g,f1,f2,f3⟩:=wzg0 H (F.spn s400) hz false B.run F.tab hT;obtain⟨W,h,f4,f5,f6⟩:=wzg0 H (F.spn s400) hz true B.run F.tab hT;refine⟨V,-W,g,h,⟨?_,?_,f2,f5,f3,?_⟩⟩
 ·unfold EV;rw[he,Ab,B0 rfl,f1,Ab];rfl
 ·unfold FF;rw[he,Ab,B0 rfl,f4,Ab];rfl
 ·rw[show -(-W)=W by grind];exact f6
theorem Ends.int{l:List Ao}{s:List Al}{a b:Rat}{g h:AU}(E:Ends l s a b g h):FG l s=some (⟨rof a,rof b⟩,0):=by unfold FG;rw[E.least,Ab,E.most,Ab];rfl
theorem Ends.mid{l:List Ao}{s:List Al}{a b:Rat}{g h:AU}(E:Ends l s a b g h){x:Int->Int}(hx:AgT l x):a<=cstT s false l x/\cstT s false l x<=b:=by have h1:=E.ea.le x hx;have h2:=E.eb.le x hx;rw[SD]at h2;exact⟨h1,by grind⟩
theorem EndE.agh{l:List Ao}{s:List Al}{tu:Bool}{h:AU}{V:Rat}(E:EndE s tu l h V)(R:Fo l):AgH l h:=by
 refine⟨R,?_,fun hl=>by rw[(E.nil hl).1],E.fr,E.to,E.ag⟩;cases l with
 |nil=>rw[(E.nil rfl).1];exact⟨by decide,by decide,by decide,fun s h=>by cases h⟩
 |cons r l =>obtain⟨y,hy⟩:=AR (l:=r :: l) (k:=(r :: l).length-1) (by simp);have h1:=E.fr r rfl;have h2:=E.to y hy;have h3:=R.all r y rfl hy;have h4:=(R.run r (AP ..)).fr;have h5:=(R.run y (AI hy)).fr;exact⟨by omega,by omega,by omega,E.st⟩
theorem wzcp{p q:Rat}(h:p<=q):cmpQ p q<=0:=by
 unfold cmpQ;split
 ·decide
 ·rw[Ag (by grind)];decide
theorem wzxx(l:List Ao)(s:List Al):Qh l s=some true:=by
 unfold Qh;obtain⟨b,e,hb⟩:=wzk9 l s 100;rw[e,Ab];cases b with
 |false=>show(bd GU _)=_;rw[SC];rfl
 |true =>
  have F:=(hb rfl).1;obtain⟨e1,he,hr⟩:=qzu6 (l:=l) (s:=s) (by have:=F.len;omega) (fun x hx=>by have:=F.tab x hx;omega) F.sz;show(bd (EV l s) _)=_;by_cases hz:e1=0
  ·have B:=hr.1 hz;subst hz;obtain⟨p,q,g1,g2,E⟩:=wzqk (by omega) F B;have A1:=E.ea.agh B.run;have A2:=E.eb.agh B.run;have hT:∀x y,l[0]?=some x->l[l.length-1]?=some y->y.To-x.From<=100:=fun x y hx hy=>F.tot B.run x y hx hy;obtain⟨v1,v2⟩:=wzkb B F.sz hT A1;obtain⟨v3,v4⟩:=wzkb B F.sz hT A2;have k1:cstT s false l (atT g1.Stages g1.From)=p:=E.ea.eq
   have k2:cstT s false l (atT g2.Stages g2.From)=q:=by
    have:=E.eb.eq;rw[SD]at this
    grind
   rw[k1]at v1 v2;rw[k2]at v3 v4;have jV:p<=q:=by have:=(E.mid A1.ag).2;rwa [k1]at this
   obtain⟨b1,a1,i1⟩:=wzjd (by have:=F.len;omega) (fun x hx=>by have:=F.tab x hx;omega) g1 (l:=l);obtain⟨b2,a2,i2⟩:=wzjd (by have:=F.len;omega) (fun x hx=>by have:=F.tab x hx;omega) g2 (l:=l);obtain rfl:=i1.2 A1;obtain rfl:=i2.2 A2;have c1:=K6 E.za E.zb (by omega) (by omega) (by omega) (by omega);rw[Cl,Cl]at c1;rw[E.least,Ab,E.most,Ab,E.int,Ab];show(bd (gd true (Ef l s)) _)=_;rw[Br,he,Ab];show(bd (D4 g1 s) _)=_;rw[v1,Ab,v3,Ab,SC,Ab];simp only[decide_true,BZ,beq_self_eq_true,Bool.and_self];rw[Br,a1,Ab];simp only[BZ];rw[Br,a2,Ab];simp only[BZ];rw[Br,c1,Ab,AD (wzcp jV)]
  ·have l1:EV l s=some (⟨false,[],[]⟩,⟨0,[]⟩,e1):=by
    unfold EV;rw[he,Ab,B9 hz]
   have l2:FF l s=some (⟨false,[],[]⟩,⟨0,[]⟩,e1):=by unfold FF;rw[he,Ab,B9 hz]
   have l3:FG l s=some (⟨⟨false,[],[]⟩,⟨false,[],[]⟩⟩,e1):=by unfold FG;rw[l1,Ab,l2,Ab];simp only;rw[AA hz];rfl
   rw[l1,Ab,l2,Ab,l3,Ab];simp only[decide_true,E4,Co,Ft,Br];rw[he,Ab];simp only[decide_true,E4,Co,Du];rw[B9 hz,SC];rfl
end Go.Am

