/- Part X1: functions of plain values and the rules by which a walk follows them. No condition. -/
import Derived.Test.YtibbibelkkgfpaaGreatDoorA5
set_option linter.unusedSimpArgs false
set_option linter.unusedVariables false
namespace Go.Am
def Ok{α:Type}:Option α->(α->Prop)->Prop
 |some a,P=>P a
 |none,_=>False
def ck{α:Type}:Bool->Option α->Option α
 |true,x=>x
 |false,_=>none
def bd{α Y:Type}:Option α->(α->Option Y)->Option Y
 |some a,k=>k a
 |none,_=>none
def at?{α:Type}(l:List α)(j:Int):Option α:=match decide (0<=j) with
 |true=>l[j.toNat]?
 |false=>none
def gd{α:Type}[Inhabited α]:Bool->Option α->Option α
 |true,x=>x
 |false,_=>some default
def ite'{α:Type}:Bool->Option α->Option α->Option α
 |true,x,_=>x
 |false,_,y=>y
def lpN{G ω:Type}(body:G->Option (G⊕ω)):Nat->G->Option ω
 |0,_=>none
 |n+1,s=>match body s with
  |some (.inl s')=>lpN body n s'
  |some (.inr o)=>some o
  |none=>none
def lp{G ω:Type}(body:G->Option (G⊕ω))(s:G):Option ω:=lpN body 4611686018427387904 s
theorem Ok.some{α:Type}{a:α}{P:α->Prop}(h:Ok (some a) P):P a:=h
theorem Ok.ex{α Y:Type}{x:Option α}{k:α->Option Y}{P:Y->Prop}(h:Ok (Am.bd x k) P):∃a,x=Option.some a/\Ok (k a) P:=by
 cases x
 ·exact h.elim
 ·exact⟨_,rfl,h⟩
theorem JQ{α:Type}{l:List α}{j:Int}{x:α}(h:at? l j=some x):0<=j/\j<l.length/\l[j.toNat]?=some x:=by
 unfold at? at h;by_cases hj:0<=j
 ·rw[AD hj]at h;refine⟨hj,?_,h⟩;obtain⟨h1,_⟩:=AE.1 h;omega
 ·rw[AA hj]at h;cases h
theorem Ok.no{α:Type}{P:α->Prop}{Q:Prop}(h:Ok (none:Option α) P):Q:=h.elim
theorem Ok.of{α:Type}{x:Option α}{a:α}(h:x=Option.some a):Ok x (fun b=>b=a):=by rw[h];rfl
theorem C6{G ω:Type}{body:G->Option (G⊕ω)}(I:G->Prop)(Z:G->Nat)(R:ω->Prop)(step:∀s,I s->(∃s',body s=some (.inl s')/\I s'/\Z s'<Z s)\/(∃o,body s=some (.inr o)/\R o)) {s:G} (h:I s) (hb:Z s<4611686018427387904):∃o,lp body s=some o/\R o:=by
 have key:∀(n:Nat) (s:G),I s->Z s<n->∃o,lpN body n s=some o/\R o:=by
  intro n;induction n with
  |zero=>intro s _ h;omega
  |succ n ih =>
   intro s hs hn;rcases step s hs with ⟨s',e,aI,hm⟩|⟨o,e,ho⟩
   ·obtain⟨o,e2,ho⟩:=ih s' aI (by omega);exact⟨o,by unfold lpN;rw[e];exact e2,ho⟩
   ·exact⟨o,by unfold lpN;rw[e],ho⟩
 exact key _ s h hb
theorem ME{G ω:Type}{body:G->Option (G⊕ω)}(I:G->Prop)(Z:G->Nat)(o:ω)(step:∀s,I s->(∃s',body s=some (.inl s')/\I s'/\Z s'<Z s)\/body s=some (.inr o)) {s:G} (h:I s) (hb:Z s<4611686018427387904):lp body s=some o:=by obtain⟨o',e,rfl⟩:=C6 I Z (fun o'=>o'=o) (fun s hs=>(step s hs).imp id fun e=>⟨o,e,rfl⟩) h hb;exact e
theorem JO{G ω:Type}(body:G->Option (G⊕ω))(s:G):lp body s=lpN body 4611686018427387904 s:=rfl
attribute [irreducible] lp Ok
def Au:IntKind->Int->Bool
 |.i8,n=>decide (-128<=n/\n<=127)
 |.i16,n=>decide (-32768<=n/\n<=32767)
 |.i32,n=>decide (-2147483648<=n/\n<=2147483647)
 |.i64,n=>decide (-9223372036854775808<=n/\n<=9223372036854775807)
 |_,_=>true
theorem wzop{k:IntKind}{n:Int}(h:Au k n=true):inr k n:=by cases k<;>simp only[Au,inr,CN]at h |-<;>exact h
def Ai{α:Type}(c:α->List Aa)(l:List α)(i:Nat):List Aa:=match l[i]? with
 |some x=>c x
 |none=>[]
def slcV{α:Type}(st:Nat)(c:α->List Aa)(l:List α):Aa:=.slc st l.length (Ai c l)
theorem Bc{α:Type}{c:α->List Aa}{l:List α}{i:Nat}{x:α}(h:l[i]?=some x):Ai c l i=c x:=by unfold Ai;rw[h]
theorem JL{α:Type}(st:Nat)(c:α->List Aa)(l:List α):slcV st c l=.slc st l.length (Ai c l):=rfl
theorem CH{α:Type}{st:Nat}{c:α->List Aa}{l:List α}(h:∀a x,x∈c a->AB x):AB (slcV st c l):=by
 refine .slc _ _ _ fun i x hi hx=>?_;unfold Ai at hx;split at hx
 ·exact h _ x hx
 ·cases hx
def ownV{α:Type}(id ep:Nat):List α->Aa
 |[]=>.nils
 |x :: l=>.vec id ep 0 (l.length+1)
def ownO{α:Type}(ep st:Nat)(c:α->List Aa):List α->Ad
 |[]=>.gone ep
 |x :: l=>.vec ep st (l.length+1) (Ai c (x :: l))
section
variable {E:Nat->Aa}{P:Program}{ρ:Option Nat}{Q:Exit->As->Prop}{S:As}{m m' m1:List (Nat×Aa)}{hm hm' dY:List (Nat×Ad)}{n:Nat}
end
inductive W:Aa->Aa->Prop
 |top (x:Aa):W x .top
 |refl (x:Aa):W x x
 |nil (st:Nat) (f:Nat->List Aa):W .nils (.slc st 0 f)
 |agg (l l':List Aa) (hn:l.length=l'.length) (h:∀(i:Nat) (x y:Aa),l[i]?=some x->l'[i]?=some y->W x y):W (.agg l) (.agg l')
 |tup (l l':List Aa) (hn:l.length=l'.length) (h:∀(i:Nat) (x y:Aa),l[i]?=some x->l'[i]?=some y->W x y):W (.tup l) (.tup l')
 |slc (st n:Nat) (f f':Nat->List Aa) (hn:∀k,k<n->(f k).length=(f' k).length) (h:∀(k i:Nat) (x y:Aa),k<n->(f k)[i]?=some x->(f' k)[i]?=some y->W x y):W (.slc st n f) (.slc st n f')
 |cptr (f f':Nat->Aa) (n off:Nat) (h:∀j,j<n->W (f j) (f' j)):W (.cptr f n off) (.cptr f' n off)
 |fn (f nb:Nat) (l l':List Aa) (hn:l.length=l'.length) (h:∀(i:Nat) (x y:Aa),l[i]?=some x->l'[i]?=some y->W x y):W (.fn f nb l) (.fn f nb l')
theorem RV.w{g:Gh}{w:World}{x y:Aa}(h:W x y):∀{v:Value},RV g w x v->RV g w y v:=by
 induction h with
 |top x=>intro v _;exact .top v
 |refl x=>intro v hv;exact hv
 |nil st f=>intro v hv;cases hv;exact .slc0 _ _ _ _
 |agg l l' hn _ ih =>
  intro v hv;cases hv with
  |agg _ a h1 h2 =>
   refine .agg l' a (by omega) fun i y v hy hv=>?_;have hi:i<l.length:=by rw[hn];exact(AE.1 hy).1
   exact ih i _ y (AC hi) hy (h2 i _ v (AC hi) hv)
 |tup l l' hn _ ih =>
  intro v hv;cases hv with
  |tup _ a h1 h2 =>
   refine .tup l' a (by omega) fun i y v hy hv=>?_;have hi:i<l.length:=by rw[hn];exact(AE.1 hy).1
   exact ih i _ y (AC hi) hy (h2 i _ v (AC hi) hv)
 |slc st n f f' hn _ ih =>
  intro v hv;cases hv with
  |slc0=>exact .slc0 _ _ _ _
  |slc _ _ _ b off cap vals hz aG hl hc h1 hr =>
   refine .slc st n f' b off cap vals hz aG (fun i hi=>by rw[<-hn i hi];exact hl i hi) hc h1 fun i j y hi hy=>?_;have hj:j<(f i).length:=by rw[hn i hi];exact(AE.1 hy).1
   exact ih i j _ y hi (AC hj) hy (hr i j _ hi (AC hj))
 |cptr f f' n off _ ih =>
  intro v hv;cases hv with
  |cptr _ _ _ b base vals hz hc hr=>exact .cptr _ _ _ _ _ vals hz hc fun j hj=>ih j hj (hr j hj)
 |fn f nb l l' hn _ ih =>
  intro v hv;cases hv with
  |fn _ _ _ a h1 h2 =>
   refine .fn f nb l' a (by omega) fun i y v hy hv=>?_;have hi:i<l.length:=by rw[hn];exact(AE.1 hy).1
   exact ih i _ y (AC hi) hy (h2 i _ v (AC hi) hv)
def Ws:List Aa->List Aa->Prop
 |[],[]=>True
 |x :: l,y :: l'=>W x y/\Ws l l'
 |_,_=>False
theorem Ws.at:∀{l l':List Aa},Ws l l'->l.length=l'.length/\∀(i:Nat) (x y:Aa),l[i]?=some x->l'[i]?=some y->W x y
 |[],[],_=>⟨rfl,fun i x y h=>by simp at h⟩
 |x :: l,y :: l',h=>by
  obtain⟨h1,h2⟩:=Ws.at h.2;refine⟨by simp[h1],fun i a b ha hb=>?_⟩;cases i with
  |zero=>simp at ha hb;subst ha;subst hb;exact h.1
  |succ i=>exact h2 i a b (by simpa using ha) (by simpa using hb)
 |[],_ :: _,h=>h.elim
 |_ :: _,[],h=>h.elim
theorem Ws.of:∀{l l':List Aa},l.length=l'.length->(∀(i:Nat) (x y:Aa),l[i]?=some x->l'[i]?=some y->W x y)->Ws l l'
 |[],[],_,_=>trivial
 |x :: l,y :: l',hn,h=>⟨h 0 x y rfl rfl,Ws.of (by simpa using hn) fun i a b ha hb=>h (i+1) a b (by simpa using ha) (by simpa using hb)⟩
 |[],_ :: _,h,_=>by simp at h
 |_ :: _,[],h,_=>by simp at h
theorem Ws.refl(l:List Aa):Ws l l:=.of rfl fun i x y hx hy=>by rw[hx]at hy;cases hy;exact .refl _
theorem Ws.rvs{g:Gh}{w:World}{l l':List Aa}(h:Ws l l'){a:List Value}(hv:RVs g w l a):RVs g w l' a:=by
 obtain⟨h1,h2⟩:=h.at;refine⟨by rw[hv.1,h1],fun i y v hy cq=>?_⟩;have hi:i<l.length:=by rw[h1];exact(AE.1 hy).1
 exact(hv.2 i _ v (AC hi) cq).w (h2 i _ y (AC hi) hy)
theorem OJ{l l':List Aa}:W (.agg l) (.agg l')↔Ws l l':=by
 constructor
 ·intro h;cases h with
  |refl=>exact .refl _
  |agg _ _ h1 h2=>exact .of h1 h2
 ·intro h;exact .agg _ _ h.at.1 h.at.2
theorem OK{l l':List Aa}:W (.tup l) (.tup l')↔Ws l l':=by
 constructor
 ·intro h;cases h with
  |refl=>exact .refl _
  |tup _ _ h1 h2=>exact .of h1 h2
 ·intro h;exact .tup _ _ h.at.1 h.at.2
theorem U9{st n:Nat}{f:Nat->List Aa}:W .nils (.slc st n f)↔n=0:=by
 constructor
 ·intro h;cases h;rfl
 ·rintro rfl;exact .nil _ _
theorem JK{st st' n n':Nat}{f f':Nat->List Aa}:W (.slc st n f) (.slc st' n' f')↔st=st'/\n=n'/\∀k,k<n->Ws (f k) (f' k):=by
 constructor
 ·intro h;cases h with
  |refl=>exact⟨rfl,rfl,fun k _=>.refl _⟩
  |slc _ _ _ _ h1 h2=>exact⟨rfl,rfl,fun k hk=>.of (h1 k hk) (fun i x y=>h2 k i x y hk)⟩
 ·rintro⟨rfl,rfl,h⟩;exact .slc _ _ _ _ (fun k hk=>(h k hk).at.1) (fun k i x y hk=>(h k hk).at.2 i x y)
theorem qzbm{x:Aa}:W x x↔True:=⟨fun _=>trivial,fun _=>.refl x⟩
theorem qzbf:Ws [] []↔True:=Iff.rfl
theorem qzaa{x y:Aa}{l l':List Aa}:Ws (x :: l) (y :: l')↔W x y/\Ws l l':=Iff.rfl
theorem yzy{l:List Aa}:Ws l l↔True:=⟨fun _=>trivial,fun _=>.refl l⟩
def WO(o:Ad):Ad->Prop
 |.gone e=>e=o.ep
 |.box e l=>∃l0,o=.box e l0/\Ws l0 l
 |.vec e st n f=>∃f0,o=.vec e st n f0/\∀k,k<n->Ws (f0 k) (f k)
 |o'=>o'=o
theorem yzc{e:Nat}{o:Ad}:WO o (.gone e)↔e=o.ep:=Iff.rfl
theorem vze{e e':Nat}{l l':List Aa}:WO (.box e l) (.box e' l')↔e=e'/\Ws l l':=by
 constructor
 ·rintro⟨l0,h,h'⟩;cases h;exact⟨rfl,h'⟩
 ·rintro⟨rfl,h⟩;exact⟨_,rfl,h⟩
theorem UA{e e' st st' n n':Nat}{f f':Nat->List Aa}:WO (.vec e st n f) (.vec e' st' n' f')↔e=e'/\st=st'/\n=n'/\∀k,k<n->Ws (f k) (f' k):=by
 constructor
 ·rintro⟨f0,h,h'⟩;cases h;exact⟨rfl,rfl,rfl,h'⟩
 ·rintro⟨rfl,rfl,rfl,h⟩;exact⟨_,rfl,h⟩
theorem GA{o:Ad}:WO o o↔True:=⟨fun _=>trivial,fun _=>by
 cases o with
 |box e l=>exact⟨_,rfl,.refl _⟩
 |vec e st n f=>exact⟨_,rfl,fun _ _=>.refl _⟩
 |_=>rfl⟩
theorem WO.owned{o o':Ad}(h:WO o o')(ho:o'.owned=true):o.owned=true:=by
 cases o' with
 |gone e=>cases ho
 |box e l=>obtain⟨l0,rfl,_⟩:=h;rfl
 |vec e st n f=>obtain⟨f0,rfl,_⟩:=h;rfl
 |dfr=>have h:_=o:=h;rw[<-h];rfl
 |amap=>have h:_=o:=h;rw[<-h];rfl
 |miter=>have h:_=o:=h;rw[<-h];rfl
theorem WO.ep{o o':Ad}(h:WO o o'):o'.ep=o.ep:=by
 cases o' with
 |gone e=>exact h
 |box e l=>obtain⟨l0,rfl,_⟩:=h;rfl
 |vec e st n f=>obtain⟨f0,rfl,_⟩:=h;rfl
 |dfr=>have h:_=o:=h;rw[<-h]
 |amap=>have h:_=o:=h;rw[<-h]
 |miter=>have h:_=o:=h;rw[<-h]
theorem WO.or{g:Gh}{w:World}{i:Nat}{o o':Ad}(h:WO o o')(hO:OR g w i o):OR g w i o':=by
 cases o' with
 |gone e=>trivial
 |box e l =>obtain⟨l0,rfl,hw⟩:=h;obtain⟨arr,ty,hh,hr⟩:=hO;exact⟨arr,ty,hh,hw.rvs hr⟩
 |vec e st n f =>
  obtain⟨f0,rfl,hw⟩:=h;obtain⟨e2,e3,e4,arr,ty,hh,hs,hr⟩:=hO;refine⟨e2,e3,e4,arr,ty,hh,hs,fun k hk=>?_⟩;obtain⟨h1,h2⟩:=(hw k hk).at;refine⟨by rw[<-h1];exact(hr k hk).1,fun j y v hy hv=>?_⟩;have hj:j<(f0 k).length:=by rw[h1];exact(AE.1 hy).1
  obtain⟨p,q⟩:=(hr k hk).2 j _ v (AC hj) hv;exact⟨p,q.w (h2 j _ y (AC hj) hy)⟩
 |dfr=>have h:_=o:=h;rw[h];exact hO
 |amap=>have h:_=o:=h;rw[h];exact hO
 |miter=>have h:_=o:=h;rw[h];exact hO
theorem HR.wk{E:Nat->Aa}{g:Gh}{h h':Aq}{w:World}(H:HR E g h w)(s:∀i,WO (h i) (h' i)):HR E g h' w := ⟨fun i=>(s i).or (H.obj i),fun i=>by rw[H.ep i,(s i).ep],fun i j hi hj e=>H.inj i j ((s i).owned hi) ((s j).owned hj) e,fun i hi=>H.sep i ((s i).owned hi),H.fzb,H.glob⟩
def wm(m:List (Nat×Aa)):List (Nat×Aa)->Prop
 |[]=>True
 |p :: r=>W (look m p.1) p.2/\wm m r
theorem qz8m{g:Gh}{w:World}{m:List (Nat×Aa)}:∀{r:List (Nat×Aa)},wm m r->∀i v,RV g w (look m i) v->RV g w (look r i) v
 |[],_,i,v,_=>.top v
 |p :: r,h,i,v,hv=>by
  simp only[look];split
  ·rename_i e;subst e;exact hv.w h.1
  ·exact qz8m h.2 i v hv
theorem wzp5{g:Gh}{w:World}{m m':List (Nat×Aa)}{n:Nat}{a:List Value}(h:wm m m')(hv:RVs g w (tl m n) a):RVs g w (tl m' n) a:=by
 refine⟨by rw[hv.1,EJ,EJ],fun i x v hx hy=>?_⟩;rw[DW]at hx;split at hx
 ·rename_i hi;simp only[Ba]at hx;subst hx;exact qz8m h i v (hv.2 i _ v (by rw[DW,Aj hi]) hy)
 ·cases hx
def wh(m:List (Nat×Ad)):List (Nat×Ad)->Prop
 |[]=>True
 |p :: r=>WO (DV m p.1) p.2/\wh m r
theorem qz8c{m:List (Nat×Ad)}:∀{r:List (Nat×Ad)},wh m r->∀i,r.any (fun q=>q.1==i)=true->WO (DV m i) (DV r i)
 |[],_,i,h=>by simp at h
 |p :: r,h,i,hi=>by
  simp only[DV];split
  ·rename_i e;subst e;exact h.1
  ·rename_i e;refine qz8c h.2 i ?_;simpa [e] using hi
theorem wzne{m m':List (Nat×Ad)}(h:wh m m')(hk:Cj m m'=true)(i:Nat):WO (hl m i) (hl m' i):=by
 show WO (DV m i) (DV m' i);by_cases h1:m'.any (fun q=>q.1==i)=true
 ·exact qz8c h i h1
 ·have h2:m.all (fun p=>!(p.1==i))=true:=by
   rw[CS];intro p hp;unfold Cj at hk;rw[CS]at hk;have:=hk p hp;cases e:(p.1==i)
   ·rfl
   ·exfalso;have e':p.1=i:=(by simpa using e);subst e';exact h1 this
  rw[LB h2,LB (by
   rw[CS];intro p hp;cases e:(p.1==i)
   ·rfl
   ·exfalso;exact h1 (List.any_eq_true.2 ⟨p,hp,e⟩))]
  exact GA.2 trivial
section
variable {E:Nat->Aa}{P:Program}{ρ:Option Nat}{Q:Exit->As->Prop}{S:As}{m m' m1:List (Nat×Aa)}{hm hm' dY:List (Nat×Ad)}{n:Nat}
theorem See.wk(h1:wm m m')(h2:wh hm hm')(h3:Cj hm hm'=true):See E ⟨tl m n,hl hm,[]⟩ ⟨tl m' n,hl hm',[]⟩:=by intro g a w hs;have hH:=hs.hr.wk (wzne h2 h3);exact⟨g,⟨hH,wzp5 h1 hs.tm,hs.df,(by intro D hD;cases hD),hs.dn⟩,⟨.refl _ _,rfl,rfl,rfl,A8 _,fun _ _ _=>rfl,fun i ho=>.inl ⟨i,(wzne h2 h3 i).owned ho,rfl⟩,fun _ h=>.inl h,A8 _⟩⟩
def Fin(m':List (Nat×Aa))(hm':List (Nat×Ad))(n:Nat)(S:As):Prop:=∃m1 dY,S=⟨tl m1 n,hl dY,[]⟩/\wm m1 m'/\wh dY hm'/\Cj dY hm'=true
theorem Fin.mk(h1:wm m m')(h2:wh hm hm')(h3:Cj hm hm'=true):Fin m' hm' n ⟨tl m n,hl hm,[]⟩:=⟨m,hm,rfl,h1,h2,h3⟩
def FinD(pr:List (List Nat))(m':List (Nat×Aa))(hm':List (Nat×Ad))(n:Nat)(S:As)(tr:List (List Nat×Option Nat)):Prop:=hpOk pr tr=true/\Fin m' hm' n S
theorem Fin.see(h:Fin m' hm' n S):See E S ⟨tl m' n,hl hm',[]⟩:=by obtain⟨m1,dY,rfl,a,b,c⟩:=h;exact .wk a b c
theorem AW.rS(m':List (Nat×Aa))(hm':List (Nat×Ad)){ops:List Ak}{pr:List (List Nat)}{b:AO}(h:areg E P ops ⟨tl m n,hl hm,[]⟩ (Fin m' hm' n))(k:AW E ρ P b Q ⟨tl m' n,hl hm',[]⟩):AW E ρ P (.seq (.reg false ops pr) b) Q ⟨tl m n,hl hm,[]⟩ :=
 .seq (.reg (h.mono fun S' e=>.see e.see k))
theorem AW.dS(m':List (Nat×Aa))(hm':List (Nat×Ad)){ops:List Ak}{pr:List (List Nat)}{b:AO}(h:dreg E P ops ⟨tl m n,hl hm,[]⟩ (FinD pr m' hm' n))(k:AW E ρ P b Q ⟨tl m' n,hl hm',[]⟩):AW E ρ P (.seq (.reg true ops pr) b) Q ⟨tl m n,hl hm,[]⟩ :=
 .seq (.draw (h.mono fun S' tr e=>⟨e.1,.see e.2.see k⟩))
theorem ATr.w{f:FuncId}{args args':List Aa}{h:Aq}{R:Aa->Aq->Prop}(H:ATr E P f args' h R)(ha:Ws args args'):ATr E P f args h R :=
 fun g w vs hh hv=>H g w vs hh (ha.rvs hv)
theorem AK.w{f:FuncId}{args args':List Aa}{r:Aa}(H:AK E P f args' r)(ha:Ws args args'):AK E P f args r:=fun h=>(H h).w ha
theorem AK.ca{f:FuncId}{args args':List Aa}{r:Aa}(H:AK E P f args' r)(ha:Ws args args'){h:Aq}{K:Aa->Aq->Prop}(k:K r h):ATr E P f args h K:=(H.w ha).call k
theorem AK.cd{f:FuncId}{args args':List Aa}{r:Aa}(H:AK E P f args' r)(ha:Ws args args'){h:Aq}{K:Aa->List Nat->Prop}(k:K r []):Bh E P f args h K:=⟨r,[],(H.w ha).on h [],k⟩
theorem AW.rt{rs:List ARes}{r:Aa}(m':List (Nat×Aa))(hm':List (Nat×Ad))(h1:wm m m')(h2:wh hm hm')(h3:Cj hm hm'=true)(hq:Q .ret=Post E rs (fun v _=>v=r) .ret)(aB:HS ⟨tl m' n,hl hm',[]⟩ rs)(hR:HU ⟨tl m' n,hl hm',[]⟩ rs=r):AW E ρ P .ret Q ⟨tl m n,hl hm,[]⟩ :=
 .rets hq (.wk h1 h2 h3) aB hR
end
def cI(k:IntKind)(n:Int):List Aa:=[.int k n]
def cB(b:Bool):List Aa:=[.bool b]
def cS(s:List UInt8):List Aa:=[.str s]
def cL{α:Type}(st:Nat)(c:α->List Aa)(l:List α):List Aa:=[slcV st c l]
theorem U8{k:IntKind}{n:Int}:∀v,v∈cI k n->AB v:=by simp[cI,kzh]
theorem kz9{b:Bool}:∀v,v∈cB b->AB v:=by simp[cB,jzu]
theorem vza{s:List UInt8}:∀v,v∈cS s->AB v:=by simp[cS,kzl]
theorem wzkp{α:Type}{st:Nat}{c:α->List Aa}(h:∀a v,v∈c a->AB v){l:List α}:∀v,v∈cL st c l->AB v:=by intro v hv;simp only[cL,BX]at hv;subst hv;exact CH h
def C3{α:Type}(l:List α)(lo hi:Int):Bool:=decide (0<=lo)&&decide (lo<=hi)&&decide (hi<=l.length)
def sub{α:Type}(l:List α)(lo hi:Int):List α:=(l.drop lo.toNat).take (hi-lo).toNat
theorem FS{α:Type}{l:List α}{lo hi:Int}(h:C3 l lo hi=true):0<=lo/\lo<=hi/\hi<=l.length:=by simpa [C3,and_assoc] using h
theorem wzux{α:Type}{st:Nat}{c:α->List Aa}{l:List α}{lo hi:Int}(h:C3 l lo hi=true):W (.slc st (hi-lo).toNat (fun k=>Ai c l (lo.toNat+k))) (slcV st c (sub l lo hi)):=by
 obtain⟨h1,h2,h3⟩:=FS h;have aE:(sub l lo hi).length=(hi-lo).toNat:=by simp only[sub,Gs,H5];omega
 rw[JL,JK];refine⟨rfl,aE.symm,fun k hk=>?_⟩;have:Ai c (sub l lo hi) k=Ai c l (lo.toNat+k):=by unfold Ai sub;rw[List.getElem?_take_of_lt hk,Gf]
 rw[this];exact .refl _
theorem wza2{α:Type}{l:List α}{lo hi:Int}(h:C3 l lo hi=true):(sub l lo hi).length=(hi-lo).toNat:=by obtain⟨h1,h2,h3⟩:=FS h;simp only[sub,Gs,H5];omega
theorem LL{α:Type}{c:α->List Aa}{l m:List α}{k:Nat}:Ai c (l++m) k=if k<l.length then Ai c l k else Ai c m (k-l.length):=by
 unfold Ai;by_cases h:k<l.length
 ·rw[Fu h,Aj h]
 ·rw[Ge (by omega),Ag h]
theorem wz3{α:Type}{c:α->List Aa}{a:α}{l:List α}:Ai c (a :: l) 0=c a:=rfl
theorem jzl{α:Type}{c:α->List Aa}{a b:α}{l:List α}:Ai c (a :: b :: l) 1=c b:=rfl
theorem jzj{α:Type}{c:α->List Aa}{a b d:α}{l:List α}:Ai c (a :: b :: d :: l) 2=c d:=rfl
theorem wzv{α:Type}{c:α->List Aa}{a b d e:α}{l:List α}:Ai c (a :: b :: d :: e :: l) 3=c e:=rfl
theorem kzu{α:Type}{id ep:Nat}{x:α}{l:List α}:ownV id ep (x :: l)=.vec id ep 0 (l.length+1):=rfl
theorem vzv{α:Type}{id ep:Nat}:ownV (α:=α) id ep []=.nils:=rfl
theorem kzs{α:Type}{ep st:Nat}{c:α->List Aa}{x:α}{l:List α}:ownO ep st c (x :: l)=.vec ep st (l.length+1) (Ai c (x :: l)):=rfl
theorem vz6{α:Type}{ep st:Nat}{c:α->List Aa}:ownO ep st c []=.gone ep:=rfl
section
variable {E:Nat->Aa}{P:Program}{ρ:Option Nat}{Q:Exit->As->Prop}{S:As}{m m' m1:List (Nat×Aa)}{hm hm' dY:List (Nat×Ad)}{n:Nat}
theorem HR.bump{g:Gh}{h:Aq}{w:World}{id e:Nat}(H:HR E g h w)(hid:h id=.gone e):∃g',HR E g' (hset h id (.gone (e+1))) w/\GLe g w g' w/\(∀i,g'.blk i=g.blk i)/\g'.fz=g.fz/\∀i,i≠id->g'.ep i=g.ep i:=by
 let g':Gh:=⟨g.blk,fun i=>if i=id then e+1 else g.ep i,g.bo,g.st,g.cp,g.fz⟩
 have aC:GLe g w g' w:=⟨fun b hb=>⟨hb,rfl⟩,fun i=>by
  show g.ep i<=if i=id then e+1 else g.ep i;split
  ·rename_i e';subst e';have:=H.ep i;rw[hid]at this;simp only[Ad.ep]at this;omega
  ·exact A8 _,fun i _=>⟨rfl,rfl,rfl,rfl⟩⟩
 refine⟨g',⟨fun i=>?_,fun i=>?_,fun i j hi hj=>?_,fun i hi=>?_,H.fzb,fun i=>(H.glob i).mono aC⟩,aC,fun i=>rfl,rfl,fun i hi=>by show(if i=id then e+1 else g.ep i)=_;rw[Ag hi]⟩
 ·by_cases hi:i=id;·subst hi;simp only[hset,AZ];trivial
  ·simp only[hset,Ag hi];exact(H.obj i).mono aC (by show(if i=id then e+1 else g.ep i)=_;rw[Ag hi]) (fun _=>rfl)
 ·by_cases hi:i=id;·subst hi;simp only[hset,AZ];show(if i=i then e+1 else _)=_;rw[Aj rfl];rfl
  ·simp only[hset,Ag hi];show(if i=id then e+1 else g.ep i)=_;rw[Ag hi];exact H.ep i
 ·have aW:i≠id:=fun e'=>by subst e';simp[hset,Ad.owned]at hi
  have bc:j≠id:=fun e'=>by subst e';simp[hset,Ad.owned]at hj
  simp only[hset,Ag aW]at hi;simp only[hset,Ag bc]at hj;exact H.inj i j hi hj
 ·have aW:i≠id:=fun e'=>by subst e';simp[hset,Ad.owned]at hi
  simp only[hset,Ag aW]at hi;exact H.sep i hi
end
section
variable {E:Nat->Aa}{P:Program}{ρ:Option Nat}{Q:Exit->As->Prop}{S:As}{m m' m1:List (Nat×Aa)}{hm hm' dY:List (Nat×Ad)}{n:Nat}{ops:List Ak}{K:As->Prop}
end
def Bx{α:Type}(l:List α)(i:Nat)(new:List α):List α:=l.take i++new++l.drop (i+new.length)
theorem Kx{α:Type}{l:List α}{i:Nat}{new:List α}(h:i+new.length<=l.length):(Bx l i new).length=l.length:=by simp only[Bx,Dv,Gs,H5];omega
theorem qz7p{α:Type}{c:α->List Aa}{l:List α}{i k:Nat}{new:List α}(h:i+new.length<=l.length):Ai c (Bx l i new) k=if i<=k/\k<i+new.length then Ai c new (k-i) else Ai c l k:=by
 unfold Ai Bx;rw[G0 l new i k h];by_cases h1:k<i
 ·rw[Aj h1,Ag (by omega)]
 ·rw[Ag h1];by_cases h2:k<i+new.length
  ·rw[Aj h2,Aj ⟨by omega,h2⟩]
  ·rw[Ag h2,Ag (by omega)]
theorem qz6f{α:Type}{c:α->List Aa}{l:List α}{n k:Nat}(h:k<n):Ai c (l.take n) k=Ai c l k:=by unfold Ai;rw[List.getElem?_take_of_lt h]
def FnOk(E:Nat->Aa)(P:Program)(f:FuncId)(nb:Nat)(caps:List Aa)(args:List Aa)(r:Aa):Prop:=CQ P f=true/\AK E P f (fnArgs nb args caps) r
theorem qzbj{n:Int}:inr .u8 n=True:=rfl
theorem yz8{n:Int}:inr .u16 n=True:=rfl
theorem yzr{n:Int}:inr .u32 n=True:=rfl
theorem yzq{n:Int}:inr .u64 n=True:=rfl
theorem kz0{x:Aa}:unc false x=True:=by cases x<;>simp[unc]
theorem vzo{c p q:Bool}:Dz c (.bool p) (.bool q)=.when (unc c (.bool p)/\unc (!c) (.bool q)) (.bool (bif c then p else q)):=rfl
theorem vz1{c d p q:Bool}:Dz c (.cnd d (.bool p)) (.bool q)=.when (unc c (.cnd d (.bool p))/\unc (!c) (.bool q)) (.bool (bif c then p else q)):=rfl
theorem vz8{c d p q:Bool}:Dz c (.bool p) (.cnd d (.bool q))=.when (unc c (.bool p)/\unc (!c) (.cnd d (.bool q))) (.bool (bif c then p else q)):=rfl
theorem vzm{c d d' p q:Bool}:Dz c (.cnd d (.bool p)) (.cnd d' (.bool q))=.when (unc c (.cnd d (.bool p))/\unc (!c) (.cnd d' (.bool q))) (.bool (bif c then p else q)):=rfl
theorem yz3{x:Aa}{q:Bool}:Dz false x (.bool q)=.when (unc false x/\unc true (.bool q)) (.bool q):=by
 unfold Dz;split
 ·rename_i h1 h2;simp only[unv,Aa.bool.injEq]at h2;subst h2;rfl
 ·rename_i h1 h2;simp[unv]at h2
 ·rfl
theorem yzu{y:Aa}{p:Bool}:Dz true (.bool p) y=.when (unc true (.bool p)/\unc false y) (.bool p):=by
 unfold Dz;split
 ·rename_i h1 h2;simp only[unv,Aa.bool.injEq]at h1;subst h1;rfl
 ·rename_i h1 h2;simp[unv]at h1
 ·rfl
theorem qzac{id:Nat}{o:Ad}{e:Nat}{l:List Aa}:fzo id o (.box e l)=.box e (fzl id o l):=rfl
theorem vzw{id:Nat}{o:Ad}{e:Nat}:fzo id o (.gone e)=.gone e:=rfl
theorem qzae{id:Nat}{o:Ad}{e st n:Nat}{f:Nat->List Aa}:fzo id o (.vec e st n f)=.vec e st n f:=rfl
theorem yzp{α:Type}{id id':Nat}{o:Ad}{e:Nat}{l:List α}(h:id'≠id):fzv id o (ownV id' e l)=ownV id' e l:=by
 cases l with
 |nil=>rfl
 |cons x l=>show(if id'=id then _ else Aa.vec id' e 0 (l.length+1))=_;rw[Ag h];rfl
def bytes(s:List UInt8):List Int:=s.map fun b=>(b.toNat:Int)
def BS(l:List Int):List UInt8:=l.map fun n=>UInt8.ofNat n.toNat
def BR(s:List UInt8)(j:Int):Bool:=decide (0<=j)&&decide (j<s.length)
theorem wzo6{s:List UInt8}{j:Int}(h:BR s j=true):0<=j/\j<s.length:=by simpa [BR] using h
def mkOk(n:Int)(b:Nat):Bool:=decide (0<=n)&&decide (n*b<=140737488355328)
theorem wztw{n:Int}{b:Nat}(h:mkOk n b=true):0<=n/\n*b<=140737488355328:=by simpa [mkOk] using h
theorem wzq:∀(l:List Int),CV l.length (Ai (cI .u8) l)=some (BS l)
 |[]=>rfl
 |n :: l=>by have ih:=wzq l;show(match Ai (cI .u8) (n :: l) 0 with | [.int .u8 m]=>(CV l.length fun k=>Ai (cI .u8) (n :: l) (k+1)).map (UInt8.ofNat m.toNat :: ·) | _=>none)=_;have e:(fun k=>Ai (cI .u8) (n :: l) (k+1))=Ai (cI .u8) l:=rfl;rw[e,ih];rfl
theorem jzp{f:Nat->List Aa}{m:Int}(h:f 0=[.int .u8 m]):CV 1 f=some [UInt8.ofNat m.toNat]:=by unfold CV;rw[h];rfl
theorem jzg{m:Int}:BS [m]=[UInt8.ofNat m.toNat]:=rfl
theorem qz6c(s:List UInt8):(bytes s).length=s.length:=by simp[bytes]
theorem qz69(s:List UInt8)(k:Nat)(hk:k<s.length):Ai (cI .u8) (bytes s) k=[.int .u8 (Cu s k)]:=by
 have e:(bytes s)[k]?=some (Cu s k):=by simp only[bytes,Hz,AC hk,DN,Cu,B2,E6,Le]
 rw[Bc e];rfl
theorem wzod{s:List UInt8}{f:Nat->List Aa}{n:Nat}(hn:n=s.length)(hf:∀k,k<n->f k=[.int .u8 (Cu s k)]):∀k,k<n->Ws (f k) (Ai (cI .u8) (bytes s) k):=by intro k hk;rw[hf k hk,qz69 s k (by omega)];exact .refl _
theorem qzul{α:Type}{c:α->List Aa}{n k:Nat}{x:α}(h:k<n):Ai c (List.replicate n x) k=c x:=Bc (by simp[h])
theorem qz7r{α:Type}{c:α->List Aa}{l:List α}{i k:Nat}{x:α}(h:i<l.length):Ai c (l.set i x) k=if k=i then c x else Ai c l k:=by
 unfold Ai;rw[DK];by_cases e:i=k
 ·subst e;simp[h]
 ·rw[Ag e,Ag (fun e'=>e e'.symm)]
def keqI(a b:Int):Bool:=decide (a=b)
def mget{α Y:Type}(eq:α->α->Bool):List (α×Y)->α->Option Y
 |[],_=>none
 |p :: l,k=>match eq k p.1 with
  |true=>some p.2
  |false=>mget eq l k
def mput{α Y:Type}(eq:α->α->Bool):List (α×Y)->α->Y->List (α×Y)
 |[],k,v=>[(k,v)]
 |p :: l,k,v=>match eq k p.1 with
  |true=>(k,v) :: l
  |false=>p :: mput eq l k v
open Go.Sort Go.Proofs Go.Shelf
theorem ATr.sub{E:Nat->Aa}{P:Program}{f:FuncId}{args:List Aa}{h:Aq}{R R':Aa->Aq->Prop}(H:ATr E P f args h R)(hr:∀r h',R r h'->∃cN,R' r cN/\∀i,OSub (h' i) (cN i)):ATr E P f args h R' :=
 fun g w vs hh hv=>(H g w vs hh hv).mono fun _ _ ⟨g',h',r,v,q,e,rv,bu,st⟩=>by obtain⟨cN,q',s⟩:=hr r h' q;exact⟨g',cN,r,v,q',e,rv,bu.sub s,st.sub s⟩
theorem wzpn{α:Type}[Inhabited α]{E:Nat->Aa}{P:Program}{ρ:Ren}(Ly:SlLaysE.n35 P ρ)(cs:α->Aa)(enc:α->Value)(h1:OneCell enc)(bA:∀g w x v,RV g w (cs x) v->v=enc x) (ld:∀g w x,RV g w (cs x) (enc x)){H:Aq} {id ep:Nat} {l:List α} (hid:H id=ownO ep 1 (fun x=>[cs x]) l) (fy:l.length<=9223372036854775807) :
  ATr E P (ρ.f 35) [ownV id ep l] H (fun r h'=>r=.tup []/\h'=hset H id (ownO ep 1 (fun x=>[cs x]) l.reverse)):=by
 cases l with
 |nil =>
  refine(wzok Ly).mono ?_;rintro r h' ⟨rfl,rfl⟩;refine⟨rfl,?_⟩;funext j;simp only[hset];split
  ·rename_i e;subst e;exact hid
  ·rfl
 |cons x l =>
  have hc:∀(m:List α) j,j<m.length->Ai (fun x=>[cs x]) m j=[cs m.toArray[j]!]:=by
   intro m j hj;rw[Bc (AC hj)];have:j<m.toArray.size:=by simpa using hj
   rw[getElem!_pos m.toArray j this];simp
  refine(wzfz Ly cs enc h1 bA ld (l:=x :: l) (f:=Ai (fun x=>[cs x]) (x :: l)) hid (by simp) (by omega) (by simpa using fy) (fun j hj=>hc _ j (by simpa using hj))).sub ?_;rintro r h' ⟨rfl,rfl⟩;refine⟨_,⟨rfl,rfl⟩,fun i=>?_⟩;simp only[hset];split
  ·obtain⟨z,zs,hz⟩:∃z zs,(x :: l).reverse=z :: zs:=by
    cases h:(x :: l).reverse with
    |nil=>simp at h
    |cons z zs=>exact⟨z,zs,rfl⟩
   have aE:zs.length=l.length:=by have:=Gk List.length hz;simp at this;omega
   refine .inr (.inr ⟨ep,1,l.length+1,_,Ai (fun x=>[cs x]) (x :: l).reverse,rfl,?_,fun k hk=>?_⟩)
   ·rw[hz,<-aE];rfl
   ·exact hc _ k (by simpa using hk)
  ·exact .refl _
end Go.Am

