/- Part X1: functions of plain values and the rules by which a walk follows them. No condition. -/
import Derived.Test.YtibbibelkkgfpaaGreatDoorA5
set_option linter.unusedSimpArgs false
set_option linter.unusedVariables false
namespace Go.Am
variable {α Y σ ω:Type}{k n i st st' n' e e' id:Nat}{j lo hi:Int}{s:List UInt8}{g:Gh}{y r:Aa}{l' args args':List Aa}{f f':Nat->List Aa}{o o':Ad}{E:Nat->Aa}{h:Aq}{m m' m1:List (Nat×Aa)}{ops:List Ak}{pr:List (List Nat)}{d p q:Bool}{hm hm' ef:List (Nat×Ad)}{a x b:α}{l new:List α}{body:σ->Option (σ⊕ω)}{c:α->List Aa}
def Ok:Option α->(α->Prop)->Prop
 |some a,P=>P a
 |none,_=>False
def ck:Bool->Option α->Option α
 |true,x=>x
 |false,_=>none
def bd:Option α->(α->Option Y)->Option Y
 |some a,k=>k a
 |none,_=>none
def at?(l:List α)(j:Int):Option α:=match decide (0<=j) with
 |true=>l[j.toNat]?
 |false=>none
def gd[Inhabited α]:Bool->Option α->Option α
 |true,x=>x
 |false,_=>some default
def ite':Bool->Option α->Option α->Option α
 |true,x,_=>x
 |false,_,y=>y
def lpN{σ ω:Type}(body:σ->Option (σ⊕ω)):Nat->σ->Option ω
 |0,_=>none
 |n+1,s=>match body s with
  |some (.inl s')=>lpN body n s'
  |some (.inr o)=>some o
  |none=>none
def lp(body:σ->Option (σ⊕ω))(s:σ):Option ω:=lpN body 4611686018427387904 s
theorem Ok.some{P:α->Prop}(h:Ok (some a) P):P a:=h
theorem Ok.ex{x:Option α}{k:α->Option Y}{P:Y->Prop}(h:Ok (Am.bd x k) P):∃a,x=Option.some a/\Ok (k a) P:=by
 cases x
 ·exact h.elim
 ·exact⟨_,rfl,h⟩
theorem In(h:at? l j=some x):0<=j/\j<l.length/\l[j.toNat]?=some x:=by
 unfold at? at h;by_cases hj:0<=j
 ·rw[AC hj]at h;refine⟨hj,?_,h⟩;obtain⟨h1,_⟩:=A8.1 h;omega
 ·rw[A9 hj]at h;cases h
theorem Ok.no{P:α->Prop}{Q:Prop}(h:Ok (none:Option α) P):Q:=h.elim
theorem Ok.of{x:Option α}(h:x=Option.some a):Ok x (fun b=>b=a):=by rw[h];rfl
theorem Cv(I:σ->Prop)(Z:σ->Nat)(R:ω->Prop)(step:∀s,I s->(∃s',body s=some (.inl s')/\I s'/\Z s'<Z s)\/(∃o,body s=some (.inr o)/\R o)) {s:σ} (h:I s) (hb:Z s<4611686018427387904):∃o,lp body s=some o/\R o:=by
 have key:∀(n:Nat) (s:σ),I s->Z s<n->∃o,lpN body n s=some o/\R o:=by
  intro n;induction n with
  |zero=>intro s _ h;omega
  |succ n ih =>
   intro s hs hn;rcases step s hs with ⟨s',e,aH,hm⟩|⟨o,e,ho⟩
   ·obtain⟨o,e2,ho⟩:=ih s' aH (by omega);exact⟨o,by unfold lpN;rw[e];exact e2,ho⟩
   ·exact⟨o,by unfold lpN;rw[e],ho⟩
 exact key _ s h hb
theorem Nd(I:σ->Prop)(Z:σ->Nat)(o:ω)(step:∀s,I s->(∃s',body s=some (.inl s')/\I s'/\Z s'<Z s)\/body s=some (.inr o)) {s:σ} (h:I s) (hb:Z s<4611686018427387904):lp body s=some o:=by obtain⟨o',e,rfl⟩:=Cv I Z (fun o'=>o'=o) (fun s hs=>(step s hs).imp id fun e=>⟨o,e,rfl⟩) h hb;exact e
theorem Il(body:σ->Option (σ⊕ω))(s:σ):lp body s=lpN body 4611686018427387904 s:=rfl
attribute [irreducible] lp Ok
def As:IntKind->Int->Bool
 |.i8,n=>decide (-128<=n/\n<=127)
 |.i16,n=>decide (-32768<=n/\n<=32767)
 |.i32,n=>decide (-2147483648<=n/\n<=2147483647)
 |.i64,n=>decide (-9223372036854775808<=n/\n<=9223372036854775807)
 |_,_=>true
theorem wzop{k:IntKind}{n:Int}(h:As k n=true):inr k n:=by cases k<;>simp only[As,inr,CA]at h |-<;>exact h
def Ai(c:α->List Aa)(l:List α)(i:Nat):List Aa:=match l[i]? with
 |some x=>c x
 |none=>[]
def slcV(st:Nat)(c:α->List Aa)(l:List α):Aa:=.slc st l.length (Ai c l)
theorem Bb(h:l[i]?=some x):Ai c l i=c x:=by unfold Ai;rw[h]
theorem Gn(st:Nat)(c:α->List Aa)(l:List α):slcV st c l=.slc st l.length (Ai c l):=rfl
theorem C0(h:∀a x,x∈c a->AE x):AE (slcV st c l):=by
 refine .slc _ _ _ fun i x hi hx=>?_;unfold Ai at hx;split at hx
 ·exact h _ x hx
 ·cases hx
def ownV(id ep:Nat):List α->Aa
 |[]=>.nils
 |x :: l=>.vec id ep 0 (l.length+1)
def ownO(ep st:Nat)(c:α->List Aa):List α->Ad
 |[]=>.gone ep
 |x :: l=>.vec ep st (l.length+1) (Ai c (x :: l))
section
variable {P:Program}{ρ:Option Nat}{Q:Exit->Au->Prop}{S:Au}
end
inductive W:Aa->Aa->Prop
 |top (x:Aa):W x .top
 |refl (x:Aa):W x x
 |nil (st:Nat) (f:Nat->List Aa):W .nils (.slc st 0 f)
 |agg (l l':List Aa) (hn:l.length=l'.length) (h:∀(i:Nat) (x y:Aa),l[i]?=some x->l'[i]?=some y->W x y):W (.agg l) (.agg l')
 |tup (l l':List Aa) (hn:l.length=l'.length) (h:∀(i:Nat) (x y:Aa),l[i]?=some x->l'[i]?=some y->W x y):W (.tup l) (.tup l')
 |slc (st n:Nat) (f f':Nat->List Aa) (hn:∀k,k<n->(f k).length=(f' k).length) (h:∀(k i:Nat) (x y:Aa),k<n->(f k)[i]?=some x->(f' k)[i]?=some y->W x y):W (.slc st n f) (.slc st n f')
 |cptr (f f':Nat->Aa) (n off:Nat) (h:∀j,j<n->W (f j) (f' j)):W (.cptr f n off) (.cptr f' n off)
 |fn (f nb:Nat) (l l':List Aa) (hn:l.length=l'.length) (h:∀(i:Nat) (x y:Aa),l[i]?=some x->l'[i]?=some y->W x y):W (.fn f nb l) (.fn f nb l')
theorem RV.w{w:World}{x:Aa}(h:W x y):∀{v:Value},RV g w x v->RV g w y v:=by
 induction h with
 |top x=>intro v _;exact .top v
 |refl x=>intro v hv;exact hv
 |nil st f=>intro v hv;cases hv;exact .slc0 _ _ _ _
 |agg l l' hn _ ih =>
  intro v hv;cases hv with
  |agg _ a h1 h2 =>
   refine .agg l' a (by omega) fun i y v hy hv=>?_;have hi:i<l.length:=by rw[hn];exact(A8.1 hy).1
   exact ih i _ y (AF hi) hy (h2 i _ v (AF hi) hv)
 |tup l l' hn _ ih =>
  intro v hv;cases hv with
  |tup _ a h1 h2 =>
   refine .tup l' a (by omega) fun i y v hy hv=>?_;have hi:i<l.length:=by rw[hn];exact(A8.1 hy).1
   exact ih i _ y (AF hi) hy (h2 i _ v (AF hi) hv)
 |slc st n f f' hn _ ih =>
  intro v hv;cases hv with
  |slc0=>exact .slc0 _ _ _ _
  |slc _ _ _ b off cap vals hz aG hl hc h1 hr =>
   refine .slc st n f' b off cap vals hz aG (fun i hi=>by rw[<-hn i hi];exact hl i hi) hc h1 fun i j y hi hy=>?_;have hj:j<(f i).length:=by rw[hn i hi];exact(A8.1 hy).1
   exact ih i j _ y hi (AF hj) hy (hr i j _ hi (AF hj))
 |cptr f f' n off _ ih =>
  intro v hv;cases hv with
  |cptr _ _ _ b base vals hz hc hr=>exact .cptr _ _ _ _ _ vals hz hc fun j hj=>ih j hj (hr j hj)
 |fn f nb l l' hn _ ih =>
  intro v hv;cases hv with
  |fn _ _ _ a h1 h2 =>
   refine .fn f nb l' a (by omega) fun i y v hy hv=>?_;have hi:i<l.length:=by rw[hn];exact(A8.1 hy).1
   exact ih i _ y (AF hi) hy (h2 i _ v (AF hi) hv)
def Ws:List Aa->List Aa->Prop
 |[],[]=>True
 |x :: l,y :: l'=>W x y/\Ws l l'
 |_,_=>False
theorem Ws.at:∀{l l':List Aa},Ws l l'->l.length=l'.length/\∀(i:Nat) (x y:Aa),l[i]?=some x->l'[i]?=some y->W x y
 |[],[],_=>⟨rfl,fun i x y h=>by simp at h⟩
 |x :: l,y :: l',h=>by
  obtain⟨h1,h2⟩:=Ws.at h.2;refine⟨by simp[h1],fun i a b ha hb=>?_⟩;cases i with
  |zero=>simp at ha hb;subst ha;subst hb;exact h.1
  |succ i=>exact h2 i a b (by simpa using ha) (by simpa using hb)
 |[],_ :: _,h=>h.elim
 |_ :: _,[],h=>h.elim
theorem Ws.of:∀{l l':List Aa},l.length=l'.length->(∀(i:Nat) (x y:Aa),l[i]?=some x->l'[i]?=some y->W x y)->Ws l l'
 |[],[],_,_=>trivial
 |x :: l,y :: l',hn,h=>⟨h 0 x y rfl rfl,Ws.of (by simpa using hn) fun i a b ha hb=>h (i+1) a b (by simpa using ha) (by simpa using hb)⟩
 |[],_ :: _,h,_=>by simp at h
 |_ :: _,[],h,_=>by simp at h
theorem Ws.refl(l:List Aa):Ws l l:=.of rfl fun i x y hx hy=>by rw[hx]at hy;cases hy;exact .refl _
theorem Ws.rvs{w:World}{l:List Aa}(h:Ws l l'){a:List Value}(hv:RVs g w l a):RVs g w l' a:=by
 obtain⟨h1,h2⟩:=h.at;refine⟨by rw[hv.1,h1],fun i y v hy cw=>?_⟩;have hi:i<l.length:=by rw[h1];exact(A8.1 hy).1
 exact(hv.2 i _ v (AF hi) cw).w (h2 i _ y (AF hi) hy)
theorem Pd{l:List Aa}:W (.agg l) (.agg l')↔Ws l l':=by
 constructor
 ·intro h;cases h with
  |refl=>exact .refl _
  |agg _ _ h1 h2=>exact .of h1 h2
 ·intro h;exact .agg _ _ h.at.1 h.at.2
theorem Pe{l:List Aa}:W (.tup l) (.tup l')↔Ws l l':=by
 constructor
 ·intro h;cases h with
  |refl=>exact .refl _
  |tup _ _ h1 h2=>exact .of h1 h2
 ·intro h;exact .tup _ _ h.at.1 h.at.2
theorem UT:W .nils (.slc st n f)↔n=0:=by
 constructor
 ·intro h;cases h;rfl
 ·rintro rfl;exact .nil _ _
theorem JQ:W (.slc st n f) (.slc st' n' f')↔st=st'/\n=n'/\∀k,k<n->Ws (f k) (f' k):=by
 constructor
 ·intro h;cases h with
  |refl=>exact⟨rfl,rfl,fun k _=>.refl _⟩
  |slc _ _ _ _ h1 h2=>exact⟨rfl,rfl,fun k hk=>.of (h1 k hk) (fun i x y=>h2 k i x y hk)⟩
 ·rintro⟨rfl,rfl,h⟩;exact .slc _ _ _ _ (fun k hk=>(h k hk).at.1) (fun k i x y hk=>(h k hk).at.2 i x y)
theorem qzbm{x:Aa}:W x x↔True:=⟨fun _=>trivial,fun _=>.refl x⟩
theorem qzbf:Ws [] []↔True:=Iff.rfl
theorem qzaa{x:Aa}{l:List Aa}:Ws (x :: l) (y :: l')↔W x y/\Ws l l':=Iff.rfl
theorem yzy{l:List Aa}:Ws l l↔True:=⟨fun _=>trivial,fun _=>.refl l⟩
def WO(o:Ad):Ad->Prop
 |.gone e=>e=o.ep
 |.box e l=>∃l0,o=.box e l0/\Ws l0 l
 |.vec e st n f=>∃f0,o=.vec e st n f0/\∀k,k<n->Ws (f0 k) (f k)
 |o'=>o'=o
theorem yzc:WO o (.gone e)↔e=o.ep:=Iff.rfl
theorem vze{l:List Aa}:WO (.box e l) (.box e' l')↔e=e'/\Ws l l':=by
 constructor
 ·rintro⟨l0,h,h'⟩;cases h;exact⟨rfl,h'⟩
 ·rintro⟨rfl,h⟩;exact⟨_,rfl,h⟩
theorem UU:WO (.vec e st n f) (.vec e' st' n' f')↔e=e'/\st=st'/\n=n'/\∀k,k<n->Ws (f k) (f' k):=by
 constructor
 ·rintro⟨f0,h,h'⟩;cases h;exact⟨rfl,rfl,rfl,h'⟩
 ·rintro⟨rfl,rfl,rfl,h⟩;exact⟨_,rfl,h⟩
theorem G9:WO o o↔True:=⟨fun _=>trivial,fun _=>by
 cases o with
 |box e l=>exact⟨_,rfl,.refl _⟩
 |vec e st n f=>exact⟨_,rfl,fun _ _=>.refl _⟩
 |_=>rfl⟩
theorem WO.owned(h:WO o o')(ho:o'.owned=true):o.owned=true:=by
 cases o' with
 |gone e=>cases ho
 |box e l=>obtain⟨l0,rfl,_⟩:=h;rfl
 |vec e st n f=>obtain⟨f0,rfl,_⟩:=h;rfl
 |dfr=>have h:_=o:=h;rw[<-h];rfl
 |amap=>have h:_=o:=h;rw[<-h];rfl
 |miter=>have h:_=o:=h;rw[<-h];rfl
theorem WO.ep(h:WO o o'):o'.ep=o.ep:=by
 cases o' with
 |gone e=>exact h
 |box e l=>obtain⟨l0,rfl,_⟩:=h;rfl
 |vec e st n f=>obtain⟨f0,rfl,_⟩:=h;rfl
 |dfr=>have h:_=o:=h;rw[<-h]
 |amap=>have h:_=o:=h;rw[<-h]
 |miter=>have h:_=o:=h;rw[<-h]
theorem WO.or{w:World}(h:WO o o')(hO:OR g w i o):OR g w i o':=by
 cases o' with
 |gone e=>trivial
 |box e l =>obtain⟨l0,rfl,hw⟩:=h;obtain⟨arr,ty,hh,hr⟩:=hO;exact⟨arr,ty,hh,hw.rvs hr⟩
 |vec e st n f =>
  obtain⟨f0,rfl,hw⟩:=h;obtain⟨e2,e3,e4,arr,ty,hh,hs,hr⟩:=hO;refine⟨e2,e3,e4,arr,ty,hh,hs,fun k hk=>?_⟩;obtain⟨h1,h2⟩:=(hw k hk).at;refine⟨by rw[<-h1];exact(hr k hk).1,fun j y v hy hv=>?_⟩;have hj:j<(f0 k).length:=by rw[h1];exact(A8.1 hy).1
  obtain⟨p,q⟩:=(hr k hk).2 j _ v (AF hj) hv;exact⟨p,q.w (h2 j _ y (AF hj) hy)⟩
 |dfr=>have h:_=o:=h;rw[h];exact hO
 |amap=>have h:_=o:=h;rw[h];exact hO
 |miter=>have h:_=o:=h;rw[h];exact hO
theorem HR.wk{h':Aq}{w:World}(H:HR E g h w)(s:∀i,WO (h i) (h' i)):HR E g h' w := ⟨fun i=>(s i).or (H.obj i),fun i=>by rw[H.ep i,(s i).ep],fun i j hi hj e=>H.inj i j ((s i).owned hi) ((s j).owned hj) e,fun i hi=>H.sep i ((s i).owned hi),H.fzb,H.glob⟩
def wm(m:List (Nat×Aa)):List (Nat×Aa)->Prop
 |[]=>True
 |p :: r=>W (look m p.1) p.2/\wm m r
theorem qz8m{g:Gh}{w:World}{m:List (Nat×Aa)}:∀{r:List (Nat×Aa)},wm m r->∀i v,RV g w (look m i) v->RV g w (look r i) v
 |[],_,i,v,_=>.top v
 |p :: r,h,i,v,hv=>by
  simp only[look];split
  ·rename_i e;subst e;exact hv.w h.1
  ·exact qz8m h.2 i v hv
theorem wzp5{w:World}{a:List Value}(h:wm m m')(hv:RVs g w (tl m n) a):RVs g w (tl m' n) a:=by
 refine⟨by rw[hv.1,EM,EM],fun i x v hx hy=>?_⟩;rw[Ea]at hx;split at hx
 ·rename_i hi;simp only[Ba]at hx;subst hx;exact qz8m h i v (hv.2 i _ v (by rw[Ea,Aj hi]) hy)
 ·cases hx
def wh(m:List (Nat×Ad)):List (Nat×Ad)->Prop
 |[]=>True
 |p :: r=>WO (DZ m p.1) p.2/\wh m r
theorem qz8c{m:List (Nat×Ad)}:∀{r:List (Nat×Ad)},wh m r->∀i,r.any (fun q=>q.1==i)=true->WO (DZ m i) (DZ r i)
 |[],_,i,h=>by simp at h
 |p :: r,h,i,hi=>by
  simp only[DZ];split
  ·rename_i e;subst e;exact h.1
  ·rename_i e;refine qz8c h.2 i ?_;simpa [e] using hi
theorem wzne{m m':List (Nat×Ad)}(h:wh m m')(hk:Ci m m'=true)(i:Nat):WO (hl m i) (hl m' i):=by
 show WO (DZ m i) (DZ m' i);by_cases h1:m'.any (fun q=>q.1==i)=true
 ·exact qz8c h i h1
 ·have h2:m.all (fun p=>!(p.1==i))=true:=by
   rw[Da];intro p hp;unfold Ci at hk;rw[Da]at hk;have:=hk p hp;cases e:(p.1==i)
   ·rfl
   ·exfalso;have e':p.1=i:=(by simpa using e);subst e';exact h1 this
  rw[LJ h2,LJ (by
   rw[Da];intro p hp;cases e:(p.1==i)
   ·rfl
   ·exfalso;exact h1 (List.any_eq_true.2 ⟨p,hp,e⟩))]
  exact G9.2 trivial
section
variable {P:Program}{ρ:Option Nat}{Q:Exit->Au->Prop}{S:Au}
theorem See.wk(h1:wm m m')(h2:wh hm hm')(h3:Ci hm hm'=true):See E ⟨tl m n,hl hm,[]⟩ ⟨tl m' n,hl hm',[]⟩:=by intro g a w hs;have hH:=hs.hr.wk (wzne h2 h3);exact⟨g,⟨hH,wzp5 h1 hs.tm,hs.df,(by intro D hD;cases hD),hs.dn⟩,⟨.refl _ _,rfl,rfl,rfl,AA _,fun _ _ _=>rfl,fun i ho=>.inl ⟨i,(wzne h2 h3 i).owned ho,rfl⟩,fun _ h=>.inl h,AA _⟩⟩
def Fin(m':List (Nat×Aa))(hm':List (Nat×Ad))(n:Nat)(S:Au):Prop:=∃m1 ef,S=⟨tl m1 n,hl ef,[]⟩/\wm m1 m'/\wh ef hm'/\Ci ef hm'=true
theorem Fin.mk(h1:wm m m')(h2:wh hm hm')(h3:Ci hm hm'=true):Fin m' hm' n ⟨tl m n,hl hm,[]⟩:=⟨m,hm,rfl,h1,h2,h3⟩
def FinD(pr:List (List Nat))(m':List (Nat×Aa))(hm':List (Nat×Ad))(n:Nat)(S:Au)(tr:List (List Nat×Option Nat)):Prop:=hpOk pr tr=true/\Fin m' hm' n S
theorem Fin.see(h:Fin m' hm' n S):See E S ⟨tl m' n,hl hm',[]⟩:=by obtain⟨m1,ef,rfl,a,b,c⟩:=h;exact .wk a b c
theorem AW.rS(m':List (Nat×Aa))(hm':List (Nat×Ad)){b:AO}(h:areg E P ops ⟨tl m n,hl hm,[]⟩ (Fin m' hm' n))(k:AW E ρ P b Q ⟨tl m' n,hl hm',[]⟩):AW E ρ P (.seq (.reg false ops pr) b) Q ⟨tl m n,hl hm,[]⟩ :=
 .seq (.reg (h.mono fun S' e=>.see e.see k))
theorem AW.dS(m':List (Nat×Aa))(hm':List (Nat×Ad)){b:AO}(h:dreg E P ops ⟨tl m n,hl hm,[]⟩ (FinD pr m' hm' n))(k:AW E ρ P b Q ⟨tl m' n,hl hm',[]⟩):AW E ρ P (.seq (.reg true ops pr) b) Q ⟨tl m n,hl hm,[]⟩ :=
 .seq (.draw (h.mono fun S' tr e=>⟨e.1,.see e.2.see k⟩))
theorem ATr.w{f:FuncId}{R:Aa->Aq->Prop}(H:ATr E P f args' h R)(ha:Ws args args'):ATr E P f args h R :=
 fun g w vs hh hv=>H g w vs hh (ha.rvs hv)
theorem AK.w{f:FuncId}{args args':List Aa}{r:Aa}(H:AK E P f args' r)(ha:Ws args args'):AK E P f args r:=fun h=>(H h).w ha
theorem AK.ca{f:FuncId}(H:AK E P f args' r)(ha:Ws args args'){K:Aa->Aq->Prop}(k:K r h):ATr E P f args h K:=(H.w ha).call k
theorem AK.cd{f:FuncId}(H:AK E P f args' r)(ha:Ws args args'){K:Aa->List Nat->Prop}(k:K r []):Bi E P f args h K:=⟨r,[],(H.w ha).on h [],k⟩
theorem AW.rt{rs:List ARes}(m':List (Nat×Aa))(hm':List (Nat×Ad))(h1:wm m m')(h2:wh hm hm')(h3:Ci hm hm'=true)(hq:Q .ret=Post E rs (fun v _=>v=r) .ret)(aB:HX ⟨tl m' n,hl hm',[]⟩ rs)(hR:HY ⟨tl m' n,hl hm',[]⟩ rs=r):AW E ρ P .ret Q ⟨tl m n,hl hm,[]⟩ :=
 .rets hq (.wk h1 h2 h3) aB hR
end
def cI(k:IntKind)(n:Int):List Aa:=[.int k n]
def cB(b:Bool):List Aa:=[.bool b]
def cS(s:List UInt8):List Aa:=[.str s]
def cL(st:Nat)(c:α->List Aa)(l:List α):List Aa:=[slcV st c l]
theorem US{k:IntKind}{n:Int}:∀v,v∈cI k n->AE v:=by simp[cI,kzh]
theorem kz9{b:Bool}:∀v,v∈cB b->AE v:=by simp[cB,jzu]
theorem vza:∀v,v∈cS s->AE v:=by simp[cS,kzl]
theorem wzkp(h:∀a v,v∈c a->AE v):∀v,v∈cL st c l->AE v:=by intro v hv;simp only[cL,B3]at hv;subst hv;exact C0 h
def CC(l:List α)(lo hi:Int):Bool:=decide (0<=lo)&&decide (lo<=hi)&&decide (hi<=l.length)
def sub(l:List α)(lo hi:Int):List α:=(l.drop lo.toNat).take (hi-lo).toNat
theorem FS(h:CC l lo hi=true):0<=lo/\lo<=hi/\hi<=l.length:=by simpa [CC,and_assoc] using h
theorem wzux(h:CC l lo hi=true):W (.slc st (hi-lo).toNat (fun k=>Ai c l (lo.toNat+k))) (slcV st c (sub l lo hi)):=by
 obtain⟨h1,h2,h3⟩:=FS h;have aE:(sub l lo hi).length=(hi-lo).toNat:=by simp only[sub,Gf,H7];omega
 rw[Gn,JQ];refine⟨rfl,aE.symm,fun k hk=>?_⟩;have:Ai c (sub l lo hi) k=Ai c l (lo.toNat+k):=by unfold Ai sub;rw[List.getElem?_take_of_lt hk,Ge]
 rw[this];exact .refl _
theorem wza2(h:CC l lo hi=true):(sub l lo hi).length=(hi-lo).toNat:=by obtain⟨h1,h2,h3⟩:=FS h;simp only[sub,Gf,H7];omega
theorem LV{m:List α}:Ai c (l++m) k=if k<l.length then Ai c l k else Ai c m (k-l.length):=by
 unfold Ai;by_cases h:k<l.length
 ·rw[E9 h,Aj h]
 ·rw[Ft (by omega),Ag h]
theorem wz3:Ai c (a :: l) 0=c a:=rfl
theorem jzl:Ai c (a :: b :: l) 1=c b:=rfl
theorem jzj{d:α}:Ai c (a :: b :: d :: l) 2=c d:=rfl
theorem wzv{d e:α}:Ai c (a :: b :: d :: e :: l) 3=c e:=rfl
theorem kzu{ep:Nat}:ownV id ep (x :: l)=.vec id ep 0 (l.length+1):=rfl
theorem vzv{ep:Nat}:ownV (α:=α) id ep []=.nils:=rfl
theorem kzs{ep:Nat}:ownO ep st c (x :: l)=.vec ep st (l.length+1) (Ai c (x :: l)):=rfl
theorem vz6{ep:Nat}:ownO ep st c []=.gone ep:=rfl
section
variable {P:Program}{ρ:Option Nat}{Q:Exit->Au->Prop}{S:Au}
theorem HR.bump{w:World}(H:HR E g h w)(hid:h id=.gone e):∃g',HR E g' (hset h id (.gone (e+1))) w/\GLe g w g' w/\(∀i,g'.blk i=g.blk i)/\g'.fz=g.fz/\∀i,i≠id->g'.ep i=g.ep i:=by
 let g':Gh:=⟨g.blk,fun i=>if i=id then e+1 else g.ep i,g.bo,g.st,g.cp,g.fz⟩
 have aC:GLe g w g' w:=⟨fun b hb=>⟨hb,rfl⟩,fun i=>by
  show g.ep i<=if i=id then e+1 else g.ep i;split
  ·rename_i e';subst e';have:=H.ep i;rw[hid]at this;simp only[Ad.ep]at this;omega
  ·exact AA _,fun i _=>⟨rfl,rfl,rfl,rfl⟩⟩
 refine⟨g',⟨fun i=>?_,fun i=>?_,fun i j hi hj=>?_,fun i hi=>?_,H.fzb,fun i=>(H.glob i).mono aC⟩,aC,fun i=>rfl,rfl,fun i hi=>by show(if i=id then e+1 else g.ep i)=_;rw[Ag hi]⟩
 ·by_cases hi:i=id;·subst hi;simp only[hset,AX];trivial
  ·simp only[hset,Ag hi];exact(H.obj i).mono aC (by show(if i=id then e+1 else g.ep i)=_;rw[Ag hi]) (fun _=>rfl)
 ·by_cases hi:i=id;·subst hi;simp only[hset,AX];show(if i=i then e+1 else _)=_;rw[Aj rfl];rfl
  ·simp only[hset,Ag hi];show(if i=id then e+1 else g.ep i)=_;rw[Ag hi];exact H.ep i
 ·have aW:i≠id:=fun e'=>by subst e';simp[hset,Ad.owned]at hi
  have aX:j≠id:=fun e'=>by subst e';simp[hset,Ad.owned]at hj
  simp only[hset,Ag aW]at hi;simp only[hset,Ag aX]at hj;exact H.inj i j hi hj
 ·have aW:i≠id:=fun e'=>by subst e';simp[hset,Ad.owned]at hi
  simp only[hset,Ag aW]at hi;exact H.sep i hi
end
section
variable {P:Program}{ρ:Option Nat}{Q:Exit->Au->Prop}{S:Au}{K:Au->Prop}
end
def B0(l:List α)(i:Nat)(new:List α):List α:=l.take i++new++l.drop (i+new.length)
theorem K3(h:i+new.length<=l.length):(B0 l i new).length=l.length:=by simp only[B0,Db,Gf,H7];omega
theorem qz7p(h:i+new.length<=l.length):Ai c (B0 l i new) k=if i<=k/\k<i+new.length then Ai c new (k-i) else Ai c l k:=by
 unfold Ai B0;rw[G2 l new i k h];by_cases h1:k<i
 ·rw[Aj h1,Ag (by omega)]
 ·rw[Ag h1];by_cases h2:k<i+new.length
  ·rw[Aj h2,Aj ⟨by omega,h2⟩]
  ·rw[Ag h2,Ag (by omega)]
theorem qz6f(h:k<n):Ai c (l.take n) k=Ai c l k:=by unfold Ai;rw[List.getElem?_take_of_lt h]
def FnOk(E:Nat->Aa)(P:Program)(f:FuncId)(nb:Nat)(caps:List Aa)(args:List Aa)(r:Aa):Prop:=CY P f=true/\AK E P f (fnArgs nb args caps) r
theorem qzbj{n:Int}:inr .u8 n=True:=rfl
theorem yz8{n:Int}:inr .u16 n=True:=rfl
theorem yzr{n:Int}:inr .u32 n=True:=rfl
theorem yzq{n:Int}:inr .u64 n=True:=rfl
theorem kz0{x:Aa}:unc false x=True:=by cases x<;>simp[unc]
theorem vzo{c:Bool}:D2 c (.bool p) (.bool q)=.when (unc c (.bool p)/\unc (!c) (.bool q)) (.bool (bif c then p else q)):=rfl
theorem vz1{c:Bool}:D2 c (.cnd d (.bool p)) (.bool q)=.when (unc c (.cnd d (.bool p))/\unc (!c) (.bool q)) (.bool (bif c then p else q)):=rfl
theorem vz8{c:Bool}:D2 c (.bool p) (.cnd d (.bool q))=.when (unc c (.bool p)/\unc (!c) (.cnd d (.bool q))) (.bool (bif c then p else q)):=rfl
theorem vzm{c d':Bool}:D2 c (.cnd d (.bool p)) (.cnd d' (.bool q))=.when (unc c (.cnd d (.bool p))/\unc (!c) (.cnd d' (.bool q))) (.bool (bif c then p else q)):=rfl
theorem yz3{x:Aa}:D2 false x (.bool q)=.when (unc false x/\unc true (.bool q)) (.bool q):=by
 unfold D2;split
 ·rename_i h1 h2;simp only[unv,Aa.bool.injEq]at h2;subst h2;rfl
 ·rename_i h1 h2;simp[unv]at h2
 ·rfl
theorem yzu:D2 true (.bool p) y=.when (unc true (.bool p)/\unc false y) (.bool p):=by
 unfold D2;split
 ·rename_i h1 h2;simp only[unv,Aa.bool.injEq]at h1;subst h1;rfl
 ·rename_i h1 h2;simp[unv]at h1
 ·rfl
theorem qzac{l:List Aa}:fzo id o (.box e l)=.box e (fzl id o l):=rfl
theorem vzw:fzo id o (.gone e)=.gone e:=rfl
theorem qzae:fzo id o (.vec e st n f)=.vec e st n f:=rfl
theorem yzp{id':Nat}(h:id'≠id):fzv id o (ownV id' e l)=ownV id' e l:=by
 cases l with
 |nil=>rfl
 |cons x l=>show(if id'=id then _ else Aa.vec id' e 0 (l.length+1))=_;rw[Ag h];rfl
def bytes(s:List UInt8):List Int:=s.map fun b=>(b.toNat:Int)
def Ca(l:List Int):List UInt8:=l.map fun n=>UInt8.ofNat n.toNat
def BZ(s:List UInt8)(j:Int):Bool:=decide (0<=j)&&decide (j<s.length)
theorem wzo6(h:BZ s j=true):0<=j/\j<s.length:=by simpa [BZ] using h
def mkOk(n:Int)(b:Nat):Bool:=decide (0<=n)&&decide (n*b<=140737488355328)
theorem wztw{n:Int}{b:Nat}(h:mkOk n b=true):0<=n/\n*b<=140737488355328:=by simpa [mkOk] using h
theorem wzq:∀(l:List Int),De l.length (Ai (cI .u8) l)=some (Ca l)
 |[]=>rfl
 |n :: l=>by have ih:=wzq l;show(match Ai (cI .u8) (n :: l) 0 with | [.int .u8 m]=>(De l.length fun k=>Ai (cI .u8) (n :: l) (k+1)).map (UInt8.ofNat m.toNat :: ·) | _=>none)=_;have e:(fun k=>Ai (cI .u8) (n :: l) (k+1))=Ai (cI .u8) l:=rfl;rw[e,ih];rfl
theorem jzp{m:Int}(h:f 0=[.int .u8 m]):De 1 f=some [UInt8.ofNat m.toNat]:=by unfold De;rw[h];rfl
theorem jzg{m:Int}:Ca [m]=[UInt8.ofNat m.toNat]:=rfl
theorem qz6c(s:List UInt8):(bytes s).length=s.length:=by simp[bytes]
theorem qz69(s:List UInt8)(k:Nat)(hk:k<s.length):Ai (cI .u8) (bytes s) k=[.int .u8 (Cy s k)]:=by
 have e:(bytes s)[k]?=some (Cy s k):=by simp only[bytes,H6,AF hk,DS,Cy,B4,E7,Ll]
 rw[Bb e];rfl
theorem wzod(hn:n=s.length)(hf:∀k,k<n->f k=[.int .u8 (Cy s k)]):∀k,k<n->Ws (f k) (Ai (cI .u8) (bytes s) k):=by intro k hk;rw[hf k hk,qz69 s k (by omega)];exact .refl _
theorem qzul(h:k<n):Ai c (List.replicate n x) k=c x:=Bb (by simp[h])
theorem qz7r(h:i<l.length):Ai c (l.set i x) k=if k=i then c x else Ai c l k:=by
 unfold Ai;rw[DP];by_cases e:i=k
 ·subst e;simp[h]
 ·rw[Ag e,Ag (fun e'=>e e'.symm)]
def keqI(a b:Int):Bool:=decide (a=b)
def mget{α Y:Type}(eq:α->α->Bool):List (α×Y)->α->Option Y
 |[],_=>none
 |p :: l,k=>match eq k p.1 with
  |true=>some p.2
  |false=>mget eq l k
def mput{α Y:Type}(eq:α->α->Bool):List (α×Y)->α->Y->List (α×Y)
 |[],k,v=>[(k,v)]
 |p :: l,k,v=>match eq k p.1 with
  |true=>(k,v) :: l
  |false=>p :: mput eq l k v
open Go.Sort Go.Proofs Go.Shelf
theorem ATr.sub{E:Nat->Aa}{P:Program}{f:FuncId}{args:List Aa}{h:Aq}{R R':Aa->Aq->Prop}(H:ATr E P f args h R)(hr:∀r h',R r h'->∃cP,R' r cP/\∀i,OSub (h' i) (cP i)):ATr E P f args h R' :=
 fun g w vs hh hv=>(H g w vs hh hv).mono fun _ _ ⟨g',h',r,v,q,e,rv,bu,st⟩=>by obtain⟨cP,q',s⟩:=hr r h' q;exact⟨g',cP,r,v,q',e,rv,bu.sub s,st.sub s⟩
theorem wzpn[Inhabited α]{P:Program}{ρ:Ren}(Ly:SlLaysE.n35 P ρ)(cs:α->Aa)(enc:α->Value)(h1:OneCell enc)(bB:∀g w x v,RV g w (cs x) v->v=enc x) (lm:∀g w x,RV g w (cs x) (enc x)){H:Aq} {ep:Nat}  (hid:H id=ownO ep 1 (fun x=>[cs x]) l) (fJ:l.length<=9223372036854775807) :
  ATr E P (ρ.f 35) [ownV id ep l] H (fun r h'=>r=.tup []/\h'=hset H id (ownO ep 1 (fun x=>[cs x]) l.reverse)):=by
 cases l with
 |nil =>
  refine(wzok Ly).mono ?_;rintro r h' ⟨rfl,rfl⟩;refine⟨rfl,?_⟩;funext j;simp only[hset];split
  ·rename_i e;subst e;exact hid
  ·rfl
 |cons x l =>
  have hc:∀(m:List α) j,j<m.length->Ai (fun x=>[cs x]) m j=[cs m.toArray[j]!]:=by
   intro m j hj;rw[Bb (AF hj)];have:j<m.toArray.size:=by simpa using hj
   rw[getElem!_pos m.toArray j this];simp
  refine(wzfz Ly cs enc h1 bB lm (l:=x :: l) (f:=Ai (fun x=>[cs x]) (x :: l)) hid (by simp) (by omega) (by simpa using fJ) (fun j hj=>hc _ j (by simpa using hj))).sub ?_;rintro r h' ⟨rfl,rfl⟩;refine⟨_,⟨rfl,rfl⟩,fun i=>?_⟩;simp only[hset];split
  ·obtain⟨z,zs,hz⟩:∃z zs,(x :: l).reverse=z :: zs:=by
    cases h:(x :: l).reverse with
    |nil=>simp at h
    |cons z zs=>exact⟨z,zs,rfl⟩
   have aE:zs.length=l.length:=by have:=Gk List.length hz;simp at this;omega
   refine .inr (.inr ⟨ep,1,l.length+1,_,Ai (fun x=>[cs x]) (x :: l).reverse,rfl,?_,fun k hk=>?_⟩)
   ·rw[hz,<-aE];rfl
   ·exact hc _ k (by simpa using hk)
  ·exact .refl _
end Go.Am

