/- Part X1: functions of plain values and the rules by which a walk follows them. No condition. -/
import Derived.Test.YtbidhbeoimpjbaaGreatDoorA5
set_option linter.unusedSimpArgs false
set_option linter.unusedVariables false
namespace Go.Am
def Ok{α:Type}:Option α->(α->Prop)->Prop
 |some a,P=>P a
 |none,_=>False
def ck{α:Type}:Bool->Option α->Option α
 |true,x=>x
 |false,_=>none
def bd{α U:Type}:Option α->(α->Option U)->Option U
 |some a,k=>k a
 |none,_=>none
def at?{α:Type}(l:List α)(j:Int):Option α:=match decide (0<=j) with
 |true=>l[j.toNat]?
 |false=>none
def gd{α:Type}[Inhabited α]:Bool->Option α->Option α
 |true,x=>x
 |false,_=>some default
def ite'{α:Type}:Bool->Option α->Option α->Option α
 |true,x,_=>x
 |false,_,y=>y
def lpN{O ω:Type}(body:O->Option (O⊕ω)):Nat->O->Option ω
 |0,_=>none
 |n+1,s=>match body s with
  |some (.inl s')=>lpN body n s'
  |some (.inr o)=>some o
  |none=>none
def lp{O ω:Type}(body:O->Option (O⊕ω))(s:O):Option ω:=lpN body 4611686018427387904 s
theorem Ok.some{α:Type}{a:α}{P:α->Prop}(h:Ok (some a) P):P a:=h
theorem Ok.ex{α U:Type}{x:Option α}{k:α->Option U}{P:U->Prop}(h:Ok (Am.bd x k) P):∃a,x=Option.some a/\Ok (k a) P:=by
 cases x
 ·exact h.elim
 ·exact⟨_,rfl,h⟩
theorem YG{α:Type}{l:List α}{j:Int}{x:α}(h:at? l j=some x):0<=j/\j<l.length/\l[j.toNat]?=some x:=by
 unfold at? at h;by_cases hj:0<=j
 ·rw[Cy hj]at h;refine⟨hj,?_,h⟩;obtain⟨h1,_⟩:=AN.1 h;omega
 ·rw[Bz hj]at h;cases h
theorem Ok.no{α:Type}{P:α->Prop}{Q:Prop}(h:Ok (none:Option α) P):Q:=h.elim
theorem Ok.of{α:Type}{x:Option α}{a:α}(h:x=Option.some a):Ok x (fun b=>b=a):=by rw[h];rfl
theorem Dw{O ω:Type}{body:O->Option (O⊕ω)}(I:O->Prop)(J:O->Nat)(R:ω->Prop)(step:∀s,I s->(∃s',body s=some (.inl s')/\I s'/\J s'<J s)\/(∃o,body s=some (.inr o)/\R o)) {s:O} (h:I s) (hb:J s<4611686018427387904):∃o,lp body s=some o/\R o:=by
 have key:∀(n:Nat) (s:O),I s->J s<n->∃o,lpN body n s=some o/\R o:=by
  intro n;induction n with
  |zero=>intro s _ h;omega
  |succ n ih =>
   intro s hs hn;rcases step s hs with ⟨s',e,aX,hm⟩|⟨o,e,ho⟩
   ·obtain⟨o,e2,ho⟩:=ih s' aX (by omega);exact⟨o,by unfold lpN;rw[e];exact e2,ho⟩
   ·exact⟨o,by unfold lpN;rw[e],ho⟩
 exact key _ s h hb
theorem Oj{O ω:Type}{body:O->Option (O⊕ω)}(I:O->Prop)(J:O->Nat)(o:ω)(step:∀s,I s->(∃s',body s=some (.inl s')/\I s'/\J s'<J s)\/body s=some (.inr o)) {s:O} (h:I s) (hb:J s<4611686018427387904):lp body s=some o:=by obtain⟨o',e,rfl⟩:=Dw I J (fun o'=>o'=o) (fun s hs=>(step s hs).imp id fun e=>⟨o,e,rfl⟩) h hb;exact e
theorem Ki{O ω:Type}(body:O->Option (O⊕ω))(s:O):lp body s=lpN body 4611686018427387904 s:=rfl
attribute [irreducible] lp Ok
def As:IntKind->Int->Bool
 |.i8,n=>decide (-128<=n/\n<=127)
 |.i16,n=>decide (-32768<=n/\n<=32767)
 |.i32,n=>decide (-2147483648<=n/\n<=2147483647)
 |.i64,n=>decide (-9223372036854775808<=n/\n<=9223372036854775807)
 |_,_=>true
theorem qzr{k:IntKind}{n:Int}(h:As k n=true):inr k n:=by cases k<;>simp only[As,inr,BB]at h |-<;>exact h
def Ay{α:Type}(c:α->List Aa)(l:List α)(i:Nat):List Aa:=match l[i]? with
 |some x=>c x
 |none=>[]
def slcV{α:Type}(st:Nat)(c:α->List Aa)(l:List α):Aa:=.slc st l.length (Ay c l)
theorem D4{α:Type}{c:α->List Aa}{l:List α}{i:Nat}{x:α}(h:l[i]?=some x):Ay c l i=c x:=by unfold Ay;rw[h]
theorem Ic{α:Type}(st:Nat)(c:α->List Aa)(l:List α):slcV st c l=.slc st l.length (Ay c l):=rfl
theorem GP{α:Type}{st:Nat}{c:α->List Aa}{l:List α}(h:∀a x,x∈c a->AF x):AF (slcV st c l):=by
 refine .slc _ _ _ fun i x hi hx=>?_;unfold Ay at hx;split at hx
 ·exact h _ x hx
 ·cases hx
def ownV{α:Type}(id ep:Nat):List α->Aa
 |[]=>.nils
 |x :: l=>.vec id ep 0 (l.length+1)
def ownO{α:Type}(ep st:Nat)(c:α->List Aa):List α->Ai
 |[]=>.gone ep
 |x :: l=>.vec ep st (l.length+1) (Ay c (x :: l))
section
variable {E:Nat->Aa}{P:Program}{ρ:Option Nat}{Q:Exit->Au->Prop}{S:Au}{m m' m1:List (Nat×Aa)}{hm ce fH:List (Nat×Ai)}{n:Nat}
end
inductive W:Aa->Aa->Prop
 |top (x:Aa):W x .top
 |refl (x:Aa):W x x
 |nil (st:Nat) (f:Nat->List Aa):W .nils (.slc st 0 f)
 |agg (l l':List Aa) (hn:l.length=l'.length) (h:∀(i:Nat) (x y:Aa),l[i]?=some x->l'[i]?=some y->W x y):W (.agg l) (.agg l')
 |tup (l l':List Aa) (hn:l.length=l'.length) (h:∀(i:Nat) (x y:Aa),l[i]?=some x->l'[i]?=some y->W x y):W (.tup l) (.tup l')
 |slc (st n:Nat) (f f':Nat->List Aa) (hn:∀k,k<n->(f k).length=(f' k).length) (h:∀(k i:Nat) (x y:Aa),k<n->(f k)[i]?=some x->(f' k)[i]?=some y->W x y):W (.slc st n f) (.slc st n f')
 |cptr (f f':Nat->Aa) (n off:Nat) (h:∀j,j<n->W (f j) (f' j)):W (.cptr f n off) (.cptr f' n off)
 |fn (f nb:Nat) (l l':List Aa) (hn:l.length=l'.length) (h:∀(i:Nat) (x y:Aa),l[i]?=some x->l'[i]?=some y->W x y):W (.fn f nb l) (.fn f nb l')
theorem RV.w{g:Gh}{w:World}{x y:Aa}(h:W x y):∀{v:Value},RV g w x v->RV g w y v:=by
 induction h with
 |top x=>intro v _;exact .top v
 |refl x=>intro v hv;exact hv
 |nil st f=>intro v hv;cases hv;exact .slc0 _ _ _ _
 |agg l l' hn _ ih =>
  intro v hv;cases hv with
  |agg _ a h1 h2 =>
   refine .agg l' a (by omega) fun i y v hy hv=>?_;have hi:i<l.length:=by rw[hn];exact(AN.1 hy).1
   exact ih i _ y (AD hi) hy (h2 i _ v (AD hi) hv)
 |tup l l' hn _ ih =>
  intro v hv;cases hv with
  |tup _ a h1 h2 =>
   refine .tup l' a (by omega) fun i y v hy hv=>?_;have hi:i<l.length:=by rw[hn];exact(AN.1 hy).1
   exact ih i _ y (AD hi) hy (h2 i _ v (AD hi) hv)
 |slc st n f f' hn _ ih =>
  intro v hv;cases hv with
  |slc0=>exact .slc0 _ _ _ _
  |slc _ _ _ b off cap vals hz aS hl hc h1 hr =>
   refine .slc st n f' b off cap vals hz aS (fun i hi=>by rw[<-hn i hi];exact hl i hi) hc h1 fun i j y hi hy=>?_;have hj:j<(f i).length:=by rw[hn i hi];exact(AN.1 hy).1
   exact ih i j _ y hi (AD hj) hy (hr i j _ hi (AD hj))
 |cptr f f' n off _ ih =>
  intro v hv;cases hv with
  |cptr _ _ _ b base vals hz hc hr=>exact .cptr _ _ _ _ _ vals hz hc fun j hj=>ih j hj (hr j hj)
 |fn f nb l l' hn _ ih =>
  intro v hv;cases hv with
  |fn _ _ _ a h1 h2 =>
   refine .fn f nb l' a (by omega) fun i y v hy hv=>?_;have hi:i<l.length:=by rw[hn];exact(AN.1 hy).1
   exact ih i _ y (AD hi) hy (h2 i _ v (AD hi) hv)
def Ws:List Aa->List Aa->Prop
 |[],[]=>True
 |x :: l,y :: l'=>W x y/\Ws l l'
 |_,_=>False
theorem Ws.at:∀{l l':List Aa},Ws l l'->l.length=l'.length/\∀(i:Nat) (x y:Aa),l[i]?=some x->l'[i]?=some y->W x y
 |[],[],_=>⟨rfl,fun i x y h=>by simp at h⟩
 |x :: l,y :: l',h=>by
  obtain⟨h1,h2⟩:=Ws.at h.2;refine⟨by simp[h1],fun i a b ha hb=>?_⟩;cases i with
  |zero=>simp at ha hb;subst ha;subst hb;exact h.1
  |succ i=>exact h2 i a b (by simpa using ha) (by simpa using hb)
 |[],_ :: _,h=>h.elim
 |_ :: _,[],h=>h.elim
theorem Ws.of:∀{l l':List Aa},l.length=l'.length->(∀(i:Nat) (x y:Aa),l[i]?=some x->l'[i]?=some y->W x y)->Ws l l'
 |[],[],_,_=>trivial
 |x :: l,y :: l',hn,h=>⟨h 0 x y rfl rfl,Ws.of (by simpa using hn) fun i a b ha hb=>h (i+1) a b (by simpa using ha) (by simpa using hb)⟩
 |[],_ :: _,h,_=>by simp at h
 |_ :: _,[],h,_=>by simp at h
theorem Ws.refl(l:List Aa):Ws l l:=.of rfl fun i x y hx hy=>by rw[hx]at hy;cases hy;exact .refl _
theorem Ws.rvs{g:Gh}{w:World}{l l':List Aa}(h:Ws l l'){a:List Value}(hv:RVs g w l a):RVs g w l' a:=by
 obtain⟨h1,h2⟩:=h.at;refine⟨by rw[hv.1,h1],fun i y v hy db=>?_⟩;have hi:i<l.length:=by rw[h1];exact(AN.1 hy).1
 exact(hv.2 i _ v (AD hi) db).w (h2 i _ y (AD hi) hy)
theorem Hn{l l':List Aa}:W (.agg l) (.agg l')↔Ws l l':=by
 constructor
 ·intro h;cases h with
  |refl=>exact .refl _
  |agg _ _ h1 h2=>exact .of h1 h2
 ·intro h;exact .agg _ _ h.at.1 h.at.2
theorem I3{l l':List Aa}:W (.tup l) (.tup l')↔Ws l l':=by
 constructor
 ·intro h;cases h with
  |refl=>exact .refl _
  |tup _ _ h1 h2=>exact .of h1 h2
 ·intro h;exact .tup _ _ h.at.1 h.at.2
theorem MR{k k':IntKind}{a b:Int}:W (.int k a) (.int k' b)↔k=k'/\a=b:=by
 constructor
 ·intro h;cases h;exact⟨rfl,rfl⟩
 ·rintro⟨rfl,rfl⟩;exact .refl _
theorem MS{a b:Bool}:W (.bool a) (.bool b)↔a=b:=by
 constructor
 ·intro h;cases h;rfl
 ·rintro rfl;exact .refl _
theorem MT{a b:List UInt8}:W (.str a) (.str b)↔a=b:=by
 constructor
 ·intro h;cases h;rfl
 ·rintro rfl;exact .refl _
theorem MU{st n:Nat}{f:Nat->List Aa}:W .nils (.slc st n f)↔n=0:=by
 constructor
 ·intro h;cases h;rfl
 ·rintro rfl;exact .nil _ _
theorem Gs{st st' n n':Nat}{f f':Nat->List Aa}:W (.slc st n f) (.slc st' n' f')↔st=st'/\n=n'/\∀k,k<n->Ws (f k) (f' k):=by
 constructor
 ·intro h;cases h with
  |refl=>exact⟨rfl,rfl,fun k _=>.refl _⟩
  |slc _ _ _ _ h1 h2=>exact⟨rfl,rfl,fun k hk=>.of (h1 k hk) (fun i x y=>h2 k i x y hk)⟩
 ·rintro⟨rfl,rfl,h⟩;exact .slc _ _ _ _ (fun k hk=>(h k hk).at.1) (fun k i x y hk=>(h k hk).at.2 i x y)
theorem MP{x:Aa}:W x x↔True:=⟨fun _=>trivial,fun _=>.refl x⟩
theorem MQ{x:Aa}:W x .top↔True:=⟨fun _=>trivial,fun _=>.top x⟩
theorem MX:Ws [] []↔True:=Iff.rfl
theorem MY{x y:Aa}{l l':List Aa}:Ws (x :: l) (y :: l')↔W x y/\Ws l l':=Iff.rfl
theorem MZ{l:List Aa}:Ws l l↔True:=⟨fun _=>trivial,fun _=>.refl l⟩
def WO(o:Ai):Ai->Prop
 |.gone e=>e=o.ep
 |.box e l=>∃l0,o=.box e l0/\Ws l0 l
 |.vec e st n f=>∃f0,o=.vec e st n f0/\∀k,k<n->Ws (f0 k) (f k)
 |o'=>o'=o
theorem I4{e:Nat}{o:Ai}:WO o (.gone e)↔e=o.ep:=Iff.rfl
theorem DS{e e':Nat}{l l':List Aa}:WO (.box e l) (.box e' l')↔e=e'/\Ws l l':=by
 constructor
 ·rintro⟨l0,h,h'⟩;cases h;exact⟨rfl,h'⟩
 ·rintro⟨rfl,h⟩;exact⟨_,rfl,h⟩
theorem Kf{e e' st st' n n':Nat}{f f':Nat->List Aa}:WO (.vec e st n f) (.vec e' st' n' f')↔e=e'/\st=st'/\n=n'/\∀k,k<n->Ws (f k) (f' k):=by
 constructor
 ·rintro⟨f0,h,h'⟩;cases h;exact⟨rfl,rfl,rfl,h'⟩
 ·rintro⟨rfl,rfl,rfl,h⟩;exact⟨_,rfl,h⟩
theorem Bc{o:Ai}:WO o o↔True:=⟨fun _=>trivial,fun _=>by
 cases o with
 |box e l=>exact⟨_,rfl,.refl _⟩
 |vec e st n f=>exact⟨_,rfl,fun _ _=>.refl _⟩
 |_=>rfl⟩
theorem WO.owned{o o':Ai}(h:WO o o')(ho:o'.owned=true):o.owned=true:=by
 cases o' with
 |gone e=>cases ho
 |box e l=>obtain⟨l0,rfl,_⟩:=h;rfl
 |vec e st n f=>obtain⟨f0,rfl,_⟩:=h;rfl
 |loop=>have h:_=o:=h;rw[<-h];rfl
 |dfr=>have h:_=o:=h;rw[<-h];rfl
 |amap=>have h:_=o:=h;rw[<-h];rfl
 |miter=>have h:_=o:=h;rw[<-h];rfl
theorem WO.ep{o o':Ai}(h:WO o o'):o'.ep=o.ep:=by
 cases o' with
 |gone e=>exact h
 |box e l=>obtain⟨l0,rfl,_⟩:=h;rfl
 |vec e st n f=>obtain⟨f0,rfl,_⟩:=h;rfl
 |loop=>have h:_=o:=h;rw[<-h]
 |dfr=>have h:_=o:=h;rw[<-h]
 |amap=>have h:_=o:=h;rw[<-h]
 |miter=>have h:_=o:=h;rw[<-h]
theorem WO.or{g:Gh}{w:World}{i:Nat}{o o':Ai}(h:WO o o')(hO:OR g w i o):OR g w i o':=by
 cases o' with
 |gone e=>trivial
 |box e l =>obtain⟨l0,rfl,hw⟩:=h;obtain⟨arr,ty,hh,hr⟩:=hO;exact⟨arr,ty,hh,hw.rvs hr⟩
 |vec e st n f =>
  obtain⟨f0,rfl,hw⟩:=h;obtain⟨e2,e3,e4,arr,ty,hh,hs,hr⟩:=hO;refine⟨e2,e3,e4,arr,ty,hh,hs,fun k hk=>?_⟩;obtain⟨h1,h2⟩:=(hw k hk).at;refine⟨by rw[<-h1];exact(hr k hk).1,fun j y v hy hv=>?_⟩;have hj:j<(f0 k).length:=by rw[h1];exact(AN.1 hy).1
  obtain⟨p,q⟩:=(hr k hk).2 j _ v (AD hj) hv;exact⟨p,q.w (h2 j _ y (AD hj) hy)⟩
 |loop=>have h:_=o:=h;rw[h];exact hO
 |dfr=>have h:_=o:=h;rw[h];exact hO
 |amap=>have h:_=o:=h;rw[h];exact hO
 |miter=>have h:_=o:=h;rw[h];exact hO
theorem HR.wk{E:Nat->Aa}{g:Gh}{h h':Ax}{w:World}(H:HR E g h w)(s:∀i,WO (h i) (h' i)):HR E g h' w := ⟨fun i=>(s i).or (H.obj i),fun i=>by rw[H.ep i,(s i).ep],fun i j hi hj e=>H.inj i j ((s i).owned hi) ((s j).owned hj) e,fun i hi=>H.sep i ((s i).owned hi),H.fzb,H.glob⟩
def wm(m:List (Nat×Aa)):List (Nat×Aa)->Prop
 |[]=>True
 |p :: r=>W (look m p.1) p.2/\wm m r
theorem qt{g:Gh}{w:World}{m:List (Nat×Aa)}:∀{r:List (Nat×Aa)},wm m r->∀i v,RV g w (look m i) v->RV g w (look r i) v
 |[],_,i,v,_=>.top v
 |p :: r,h,i,v,hv=>by
  simp only[look];split
  ·rename_i e;subst e;exact hv.w h.1
  ·exact qt h.2 i v hv
theorem wzds{g:Gh}{w:World}{m m':List (Nat×Aa)}{n:Nat}{a:List Value}(h:wm m m')(hv:RVs g w (tl m n) a):RVs g w (tl m' n) a:=by
 refine⟨by rw[hv.1,CC,CC],fun i x v hx hy=>?_⟩;rw[EK]at hx;split at hx
 ·rename_i hi;simp only[AX]at hx;subst hx;exact qt h i v (hv.2 i _ v (by rw[EK,Ap hi]) hy)
 ·cases hx
def wh(m:List (Nat×Ai)):List (Nat×Ai)->Prop
 |[]=>True
 |p :: r=>WO (Gr m p.1) p.2/\wh m r
theorem qu{m:List (Nat×Ai)}:∀{r:List (Nat×Ai)},wh m r->∀i,r.any (fun q=>q.1==i)=true->WO (Gr m i) (Gr r i)
 |[],_,i,h=>by simp at h
 |p :: r,h,i,hi=>by
  simp only[Gr];split
  ·rename_i e;subst e;exact h.1
  ·rename_i e;refine qu h.2 i ?_;simpa [e] using hi
theorem qz{m m':List (Nat×Ai)}(h:wh m m')(hk:Us m m'=true)(i:Nat):WO (hl m i) (hl m' i):=by
 show WO (Gr m i) (Gr m' i);by_cases h1:m'.any (fun q=>q.1==i)=true
 ·exact qu h i h1
 ·have h2:m.all (fun p=>!(p.1==i))=true:=by
   rw[GM];intro p hp;unfold Us at hk;rw[GM]at hk;have:=hk p hp;cases e:(p.1==i)
   ·rfl
   ·exfalso;have e':p.1=i:=(by simpa using e);subst e';exact h1 this
  rw[VW h2,VW (by
   rw[GM];intro p hp;cases e:(p.1==i)
   ·rfl
   ·exfalso;exact h1 (List.any_eq_true.2 ⟨p,hp,e⟩))]
  exact Bc.2 trivial
section
variable {E:Nat->Aa}{P:Program}{ρ:Option Nat}{Q:Exit->Au->Prop}{S:Au}{m m' m1:List (Nat×Aa)}{hm ce fH:List (Nat×Ai)}{n:Nat}
theorem See.wk(h1:wm m m')(h2:wh hm ce)(h3:Us hm ce=true):See E ⟨tl m n,hl hm,[]⟩ ⟨tl m' n,hl ce,[]⟩:=by intro g a w hs;have hH:=hs.hr.wk (qz h2 h3);exact⟨g,⟨hH,wzds h1 hs.tm,hs.df,(by intro D hD;cases hD),hs.dn⟩,⟨.refl _ _,rfl,rfl,rfl,AB _,fun _ _ _=>rfl,fun i ho=>.inl ⟨i,(qz h2 h3 i).owned ho,rfl⟩,fun _ h=>.inl h,AB _⟩⟩
def Fin(m':List (Nat×Aa))(ce:List (Nat×Ai))(n:Nat)(S:Au):Prop:=∃m1 fH,S=⟨tl m1 n,hl fH,[]⟩/\wm m1 m'/\wh fH ce/\Us fH ce=true
theorem Fin.mk(h1:wm m m')(h2:wh hm ce)(h3:Us hm ce=true):Fin m' ce n ⟨tl m n,hl hm,[]⟩:=⟨m,hm,rfl,h1,h2,h3⟩
def FinD(pr:List (List Nat))(m':List (Nat×Aa))(ce:List (Nat×Ai))(n:Nat)(S:Au)(tr:List (List Nat×Option Nat)):Prop:=hpOk pr tr=true/\Fin m' ce n S
theorem Fin.see(h:Fin m' ce n S):See E S ⟨tl m' n,hl ce,[]⟩:=by obtain⟨m1,fH,rfl,a,b,c⟩:=h;exact .wk a b c
theorem AW.rS(m':List (Nat×Aa))(ce:List (Nat×Ai)){ops:List Av}{pr:List (List Nat)}{b:AR}(h:areg E P ops ⟨tl m n,hl hm,[]⟩ (Fin m' ce n))(k:AW E ρ P b Q ⟨tl m' n,hl ce,[]⟩):AW E ρ P (.seq (.reg false ops pr) b) Q ⟨tl m n,hl hm,[]⟩ :=
 .seq (.reg (h.mono fun S' e=>.see e.see k))
theorem AW.dS(m':List (Nat×Aa))(ce:List (Nat×Ai)){ops:List Av}{pr:List (List Nat)}{b:AR}(h:dreg E P ops ⟨tl m n,hl hm,[]⟩ (FinD pr m' ce n))(k:AW E ρ P b Q ⟨tl m' n,hl ce,[]⟩):AW E ρ P (.seq (.reg true ops pr) b) Q ⟨tl m n,hl hm,[]⟩ :=
 .seq (.draw (h.mono fun S' tr e=>⟨e.1,.see e.2.see k⟩))
theorem ATr.w{f:FuncId}{args args':List Aa}{h:Ax}{R:Aa->Ax->Prop}(H:ATr E P f args' h R)(ha:Ws args args'):ATr E P f args h R :=
 fun g w vs hh hv=>H g w vs hh (ha.rvs hv)
theorem B8.w{f:FuncId}{args args':List Aa}{r:Aa}(H:B8 E P f args' r)(ha:Ws args args'):B8 E P f args r:=fun h=>(H h).w ha
theorem B8.ca{f:FuncId}{args args':List Aa}{r:Aa}(H:B8 E P f args' r)(ha:Ws args args'){h:Ax}{K:Aa->Ax->Prop}(k:K r h):ATr E P f args h K:=(H.w ha).call k
theorem B8.cd{f:FuncId}{args args':List Aa}{r:Aa}(H:B8 E P f args' r)(ha:Ws args args'){h:Ax}{K:Aa->List Nat->Prop}(k:K r []):Gk E P f args h K:=⟨r,[],(H.w ha).on h [],k⟩
theorem AW.rt{rs:List ARes}{r:Aa}(m':List (Nat×Aa))(ce:List (Nat×Ai))(h1:wm m m')(h2:wh hm ce)(h3:Us hm ce=true)(hq:Q .ret=Post E rs (fun v _=>v=r) .ret)(aB:EJ ⟨tl m' n,hl ce,[]⟩ rs)(hR:F7 ⟨tl m' n,hl ce,[]⟩ rs=r):AW E ρ P .ret Q ⟨tl m n,hl hm,[]⟩ :=
 .rets hq (.wk h1 h2 h3) aB hR
end
def cI(k:IntKind)(n:Int):List Aa:=[.int k n]
def cB(b:Bool):List Aa:=[.bool b]
def cS(s:List UInt8):List Aa:=[.str s]
def cL{α:Type}(st:Nat)(c:α->List Aa)(l:List α):List Aa:=[slcV st c l]
theorem Ut{k:IntKind}{n:Int}:∀v,v∈cI k n->AF v:=by simp[cI,Gn]
theorem Kd{b:Bool}:∀v,v∈cB b->AF v:=by simp[cB,Gp]
theorem Ke{s:List UInt8}:∀v,v∈cS s->AF v:=by simp[cS,Gq]
theorem zb{α:Type}{st:Nat}{c:α->List Aa}(h:∀a v,v∈c a->AF v){l:List α}:∀v,v∈cL st c l->AF v:=by intro v hv;simp only[cL,BX]at hv;subst hv;exact GP h
def El{α:Type}(l:List α)(lo hi:Int):Bool:=decide (0<=lo)&&decide (lo<=hi)&&decide (hi<=l.length)
def sub{α:Type}(l:List α)(lo hi:Int):List α:=(l.drop lo.toNat).take (hi-lo).toNat
theorem PC{α:Type}{l:List α}{lo hi:Int}(h:El l lo hi=true):0<=lo/\lo<=hi/\hi<=l.length:=by simpa [El,and_assoc] using h
theorem zP{α:Type}{st:Nat}{c:α->List Aa}{l:List α}{lo hi:Int}(h:El l lo hi=true):W (.slc st (hi-lo).toNat (fun k=>Ay c l (lo.toNat+k))) (slcV st c (sub l lo hi)):=by
 obtain⟨h1,h2,h3⟩:=PC h;have aD:(sub l lo hi).length=(hi-lo).toNat:=by simp only[sub,Eg,EB];omega
 rw[Ic,Gs];refine⟨rfl,aD.symm,fun k hk=>?_⟩;have:Ay c (sub l lo hi) k=Ay c l (lo.toNat+k):=by unfold Ay sub;rw[List.getElem?_take_of_lt hk,F3]
 rw[this];exact .refl _
theorem vzn{α:Type}{l:List α}{lo hi:Int}(h:El l lo hi=true):(sub l lo hi).length=(hi-lo).toNat:=by obtain⟨h1,h2,h3⟩:=PC h;simp only[sub,Eg,EB];omega
theorem yzt{α:Type}{c:α->List Aa}{l m:List α}{k:Nat}:Ay c (l++m) k=if k<l.length then Ay c l k else Ay c m (k-l.length):=by
 unfold Ay;by_cases h:k<l.length
 ·rw[F0 h,Ap h]
 ·rw[GS (by omega),Aj h]
theorem Na{α:Type}{c:α->List Aa}{a:α}{l:List α}:Ay c (a :: l) 0=c a:=rfl
theorem Nb{α:Type}{c:α->List Aa}{a b:α}{l:List α}:Ay c (a :: b :: l) 1=c b:=rfl
theorem Nc{α:Type}{c:α->List Aa}{a b d:α}{l:List α}:Ay c (a :: b :: d :: l) 2=c d:=rfl
theorem Nd{α:Type}{c:α->List Aa}{a b d e:α}{l:List α}:Ay c (a :: b :: d :: e :: l) 3=c e:=rfl
theorem Nw{α:Type}{c:α->List Aa}{l:List α}{e e' st:Nat}:WO (ownO e st c l) (.gone e')↔e'=e:=by cases l<;>exact Iff.rfl
theorem MV{i e o n i' e' o' n':Nat}:W (.vec i e o n) (.vec i' e' o' n')↔i=i'/\e=e'/\o=o'/\n=n':=by
 constructor
 ·intro h;cases h;exact⟨rfl,rfl,rfl,rfl⟩
 ·rintro⟨rfl,rfl,rfl,rfl⟩;exact .refl _
theorem MW{i e o i' e' o':Nat}:W (.ptr i e o) (.ptr i' e' o')↔i=i'/\e=e'/\o=o':=by
 constructor
 ·intro h;cases h;exact⟨rfl,rfl,rfl⟩
 ·rintro⟨rfl,rfl,rfl⟩;exact .refl _
theorem w_fn{f f':FuncId}{n n':Nat}{c c':List Aa}:W (.fn f n c) (.fn f' n' c')↔f=f'/\n=n'/\Ws c c':=by
 constructor
 ·intro h;cases h with
  |refl=>exact⟨rfl,rfl,.refl _⟩
  |fn _ _ _ _ hn h=>exact⟨rfl,rfl,.of hn h⟩
 ·rintro⟨rfl,rfl,h⟩;exact .fn _ _ _ _ h.at.1 h.at.2
theorem Nf{α:Type}{id ep:Nat}{x:α}{l:List α}:ownV id ep (x :: l)=.vec id ep 0 (l.length+1):=rfl
theorem Ng{α:Type}{id ep:Nat}:ownV (α:=α) id ep []=.nils:=rfl
theorem Nh{α:Type}{ep st:Nat}{c:α->List Aa}{x:α}{l:List α}:ownO ep st c (x :: l)=.vec ep st (l.length+1) (Ay c (x :: l)):=rfl
theorem Ni{α:Type}{ep st:Nat}{c:α->List Aa}:ownO ep st c []=.gone ep:=rfl
def fzm(id:Nat)(o:Ai)(m:List (Nat×Aa)):List (Nat×Aa):=m.map fun p=>(p.1,fzv id o p.2)
def fzh(id:Nat)(o:Ai)(m:List (Nat×Ai)):List (Nat×Ai):=m.map fun p=>(p.1,fzo id o p.2)
section
variable {E:Nat->Aa}{P:Program}{ρ:Option Nat}{Q:Exit->Au->Prop}{S:Au}{m m' m1:List (Nat×Aa)}{hm ce fH:List (Nat×Ai)}{n:Nat}
theorem HR.bump{g:Gh}{h:Ax}{w:World}{id e:Nat}(H:HR E g h w)(hid:h id=.gone e):∃g',HR E g' (hset h id (.gone (e+1))) w/\GLe g w g' w/\(∀i,g'.blk i=g.blk i)/\g'.fz=g.fz/\∀i,i≠id->g'.ep i=g.ep i:=by
 let g':Gh:=⟨g.blk,fun i=>if i=id then e+1 else g.ep i,g.bo,g.st,g.cp,g.fz⟩
 have aE:GLe g w g' w:=⟨fun b hb=>⟨hb,rfl⟩,fun i=>by
  show g.ep i<=if i=id then e+1 else g.ep i;split
  ·rename_i e';subst e';have:=H.ep i;rw[hid]at this;simp only[Ai.ep]at this;omega
  ·exact AB _,fun i _=>⟨rfl,rfl,rfl,rfl⟩⟩
 refine⟨g',⟨fun i=>?_,fun i=>?_,fun i j hi hj=>?_,fun i hi=>?_,H.fzb,fun i=>(H.glob i).mono aE⟩,aE,fun i=>rfl,rfl,fun i hi=>by show(if i=id then e+1 else g.ep i)=_;rw[Aj hi]⟩
 ·by_cases hi:i=id;·subst hi;simp only[hset,Bw];trivial
  ·simp only[hset,Aj hi];exact(H.obj i).mono aE (by show(if i=id then e+1 else g.ep i)=_;rw[Aj hi]) (fun _=>rfl)
 ·by_cases hi:i=id;·subst hi;simp only[hset,Bw];show(if i=i then e+1 else _)=_;rw[Ap rfl];rfl
  ·simp only[hset,Aj hi];show(if i=id then e+1 else g.ep i)=_;rw[Aj hi];exact H.ep i
 ·have bC:i≠id:=fun e'=>by subst e';simp[hset,Ai.owned]at hi
  have bI:j≠id:=fun e'=>by subst e';simp[hset,Ai.owned]at hj
  simp only[hset,Aj bC]at hi;simp only[hset,Aj bI]at hj;exact H.inj i j hi hj
 ·have bC:i≠id:=fun e'=>by subst e';simp[hset,Ai.owned]at hi
  simp only[hset,Aj bC]at hi;exact H.sep i hi
end
section
variable {E:Nat->Aa}{P:Program}{ρ:Option Nat}{Q:Exit->Au->Prop}{S:Au}{m m' m1:List (Nat×Aa)}{hm ce fH:List (Nat×Ai)}{n:Nat}{ops:List Av}{K:Au->Prop}
end
def BQ{α:Type}(l:List α)(i:Nat)(new:List α):List α:=l.take i++new++l.drop (i+new.length)
theorem KD{α:Type}{l:List α}{i:Nat}{new:List α}(h:i+new.length<=l.length):(BQ l i new).length=l.length:=by simp only[BQ,BK,Eg,EB];omega
theorem qzf6{α:Type}{c:α->List Aa}{l:List α}{i k:Nat}{new:List α}(h:i+new.length<=l.length):Ay c (BQ l i new) k=if i<=k/\k<i+new.length then Ay c new (k-i) else Ay c l k:=by
 unfold Ay BQ;rw[yzx l new i k h];by_cases h1:k<i
 ·rw[Ap h1,Aj (by omega)]
 ·rw[Aj h1];by_cases h2:k<i+new.length
  ·rw[Ap h2,Ap ⟨by omega,h2⟩]
  ·rw[Aj h2,Aj (by omega)]
theorem qzfj{α:Type}{c:α->List Aa}{l:List α}{n k:Nat}(h:k<n):Ay c (l.take n) k=Ay c l k:=by unfold Ay;rw[List.getElem?_take_of_lt h]
def FnOk(E:Nat->Aa)(P:Program)(f:FuncId)(nb:Nat)(caps:List Aa)(args:List Aa)(r:Aa):Prop:=Co P f=true/\B8 E P f (fnArgs nb args caps) r
theorem ML{n:Int}:inr .u8 n=True:=rfl
theorem MM{n:Int}:inr .u16 n=True:=rfl
theorem MN{n:Int}:inr .u32 n=True:=rfl
theorem MO{n:Int}:inr .u64 n=True:=rfl
theorem MK{x:Aa}:unc false x=True:=by cases x<;>simp[unc]
theorem MB{c p q:Bool}:Cl c (.bool p) (.bool q)=.when (unc c (.bool p)/\unc (!c) (.bool q)) (.bool (bif c then p else q)):=rfl
theorem MC{c d p q:Bool}:Cl c (.cnd d (.bool p)) (.bool q)=.when (unc c (.cnd d (.bool p))/\unc (!c) (.bool q)) (.bool (bif c then p else q)):=rfl
theorem MD{c d p q:Bool}:Cl c (.bool p) (.cnd d (.bool q))=.when (unc c (.bool p)/\unc (!c) (.cnd d (.bool q))) (.bool (bif c then p else q)):=rfl
theorem ME{c d d' p q:Bool}:Cl c (.cnd d (.bool p)) (.cnd d' (.bool q))=.when (unc c (.cnd d (.bool p))/\unc (!c) (.cnd d' (.bool q))) (.bool (bif c then p else q)):=rfl
theorem MF{c:Bool}{k:IntKind}{p q:Int}:Cl c (.int k p) (.int k q)=.when (unc c (.int k p)/\unc (!c) (.int k q)) (.int k (bif c then p else q)):=by simp[Cl,unv]
theorem MG{x:Aa}{q:Bool}:Cl false x (.bool q)=.when (unc false x/\unc true (.bool q)) (.bool q):=by
 unfold Cl;split
 ·rename_i h1 h2;simp only[unv,Aa.bool.injEq]at h2;subst h2;rfl
 ·rename_i h1 h2;simp[unv]at h2
 ·rfl
theorem MH{x:Aa}{d q:Bool}:Cl false x (.cnd d (.bool q))=.when (unc false x/\unc true (.cnd d (.bool q))) (.bool q):=by
 unfold Cl;split
 ·rename_i h1 h2;simp only[unv,Aa.bool.injEq]at h2;subst h2;rfl
 ·rename_i h1 h2;simp[unv]at h2
 ·rfl
theorem MI{y:Aa}{p:Bool}:Cl true (.bool p) y=.when (unc true (.bool p)/\unc false y) (.bool p):=by
 unfold Cl;split
 ·rename_i h1 h2;simp only[unv,Aa.bool.injEq]at h1;subst h1;rfl
 ·rename_i h1 h2;simp[unv]at h1
 ·rfl
theorem MJ{y:Aa}{d p:Bool}:Cl true (.cnd d (.bool p)) y=.when (unc true (.cnd d (.bool p))/\unc false y) (.bool p):=by
 unfold Cl;split
 ·rename_i h1 h2;simp only[unv,Aa.bool.injEq]at h1;subst h1;rfl
 ·rename_i h1 h2;simp[unv]at h1
 ·rfl
theorem Nj{id:Nat}{o:Ai}{e:Nat}{l:List Aa}:fzo id o (.box e l)=.box e (fzl id o l):=rfl
theorem Nk{id:Nat}{o:Ai}{e:Nat}:fzo id o (.gone e)=.gone e:=rfl
theorem Nl{id:Nat}{o:Ai}{e st n:Nat}{f:Nat->List Aa}:fzo id o (.vec e st n f)=.vec e st n f:=rfl
theorem Nm{α:Type}{id:Nat}{o:Ai}{e st:Nat}{c:α->List Aa}{l:List α}:fzo id o (ownO e st c l)=ownO e st c l:=by cases l<;>rfl
theorem Nn{α:Type}{id id':Nat}{o:Ai}{e:Nat}{l:List α}(h:id'≠id):fzv id o (ownV id' e l)=ownV id' e l:=by
 cases l with
 |nil=>rfl
 |cons x l=>show(if id'=id then _ else Aa.vec id' e 0 (l.length+1))=_;rw[Aj h];rfl
theorem Np{p:Nat->Prop}:(∀k,k<0->p k)↔True:=by simp
theorem Nq{p:Nat->Prop}:(∀k,k<1->p k)↔p 0:=by
 refine⟨fun h=>h 0 (by omega),fun h k hk=>?_⟩;obtain rfl:k=0:=by omega
 exact h
theorem Nr{p:Nat->Prop}:(∀k,k<2->p k)↔p 0/\p 1:=⟨fun h=>⟨h 0 (by omega),h 1 (by omega)⟩,fun h k hk=>by
 rcases(show k=0\/k=1 by omega) with rfl|rfl
 ·exact h.1
 ·exact h.2⟩
theorem Ns{p:Nat->Prop}:(∀k,k<3->p k)↔p 0/\p 1/\p 2:=⟨fun h=>⟨h 0 (by omega),h 1 (by omega),h 2 (by omega)⟩,fun h k hk=>by
 rcases(show k=0\/k=1\/k=2 by omega) with rfl|rfl|rfl
 ·exact h.1
 ·exact h.2.1
 ·exact h.2.2⟩
theorem Nt{p:Nat->Prop}:(∀k,k<4->p k)↔p 0/\p 1/\p 2/\p 3:=⟨fun h=>⟨h 0 (by omega),h 1 (by omega),h 2 (by omega),h 3 (by omega)⟩,fun h k hk=>by
 rcases(show k=0\/k=1\/k=2\/k=3 by omega) with rfl|rfl|rfl|rfl
 ·exact h.1
 ·exact h.2.1
 ·exact h.2.2.1
 ·exact h.2.2.2⟩
def bytes(s:List UInt8):List Int:=s.map fun b=>(b.toNat:Int)
def CS(l:List Int):List UInt8:=l.map fun n=>UInt8.ofNat n.toNat
def CH(s:List UInt8)(j:Int):Bool:=decide (0<=j)&&decide (j<s.length)
theorem zE{s:List UInt8}{j:Int}(h:CH s j=true):0<=j/\j<s.length:=by simpa [CH] using h
def mkOk(n:Int)(b:Nat):Bool:=decide (0<=n)&&decide (n*b<=140737488355328)
theorem qztk{n:Int}{b:Nat}(h:mkOk n b=true):0<=n/\n*b<=140737488355328:=by simpa [mkOk] using h
theorem Ho:∀(l:List Int),DN l.length (Ay (cI .u8) l)=some (CS l)
 |[]=>rfl
 |n :: l=>by have ih:=Ho l;show(match Ay (cI .u8) (n :: l) 0 with | [.int .u8 m]=>(DN l.length fun k=>Ay (cI .u8) (n :: l) (k+1)).map (UInt8.ofNat m.toNat :: ·) | _=>none)=_;have e:(fun k=>Ay (cI .u8) (n :: l) (k+1))=Ay (cI .u8) l:=rfl;rw[e,ih];rfl
theorem Nu{f:Nat->List Aa}{m:Int}(h:f 0=[.int .u8 m]):DN 1 f=some [UInt8.ofNat m.toNat]:=by unfold DN;rw[h];rfl
theorem Nv{m:Int}:CS [m]=[UInt8.ofNat m.toNat]:=rfl
theorem qzcs(s:List UInt8):(bytes s).length=s.length:=by simp[bytes]
theorem qzn(s:List UInt8)(k:Nat)(hk:k<s.length):Ay (cI .u8) (bytes s) k=[.int .u8 (Dj s k)]:=by
 have e:(bytes s)[k]?=some (Dj s k):=by simp only[bytes,J4,AD hk,Ek,Dj,DJ,J3,Lr]
 rw[D4 e];rfl
theorem wzvm{s:List UInt8}{f:Nat->List Aa}{n:Nat}(hn:n=s.length)(hf:∀k,k<n->f k=[.int .u8 (Dj s k)]):∀k,k<n->Ws (f k) (Ay (cI .u8) (bytes s) k):=by intro k hk;rw[hf k hk,qzn s k (by omega)];exact .refl _
theorem kzl{α:Type}{c:α->List Aa}{n k:Nat}{x:α}(h:k<n):Ay c (List.replicate n x) k=c x:=D4 (by simp[h])
theorem qzdm{α:Type}{c:α->List Aa}{l:List α}{i k:Nat}{x:α}(h:i<l.length):Ay c (l.set i x) k=if k=i then c x else Ay c l k:=by
 unfold Ay;rw[JB];by_cases e:i=k
 ·subst e;simp[h]
 ·rw[Aj e,Aj (fun e'=>e e'.symm)]
def keqI(a b:Int):Bool:=decide (a=b)
def mget{α U:Type}(eq:α->α->Bool):List (α×U)->α->Option U
 |[],_=>none
 |p :: l,k=>match eq k p.1 with
  |true=>some p.2
  |false=>mget eq l k
def mput{α U:Type}(eq:α->α->Bool):List (α×U)->α->U->List (α×U)
 |[],k,v=>[(k,v)]
 |p :: l,k,v=>match eq k p.1 with
  |true=>(k,v) :: l
  |false=>p :: mput eq l k v
def Bt{α O ω:Type}(body:α->O->Option (O⊕ω)):List α->O->Option (O⊕ω)
 |[],s=>some (.inl s)
 |x :: l,s=>match body x s with
  |some (.inl s')=>Bt body l s'
  |some (.inr o)=>some (.inr o)
  |none=>none
def EL{α O ω:Type}(body:α->O->Option (O⊕ω))(l:List α)(s:O):Option Bool:=match Bt body l s with
 |some (.inl _)=>some false
 |some (.inr _)=>some true
 |none=>none
open Go.Sort Go.Proofs Go.Shelf
theorem ATr.sub{E:Nat->Aa}{P:Program}{f:FuncId}{args:List Aa}{h:Ax}{R R':Aa->Ax->Prop}(H:ATr E P f args h R)(hr:∀r h',R r h'->∃d6,R' r d6/\∀i,OSub (h' i) (d6 i)):ATr E P f args h R' :=
 fun g w vs hh hv=>(H g w vs hh hv).mono fun _ _ ⟨g',h',r,v,q,e,rv,eE,st⟩=>by obtain⟨d6,q',s⟩:=hr r h' q;exact⟨g',d6,r,v,q',e,rv,eE.sub s,st.sub s⟩
theorem ul{α:Type}[Inhabited α]{E:Nat->Aa}{P:Program}{ρ:Ren}(Ly:SlLaysE.n35 P ρ)(cs:α->Aa)(enc:α->Value)(h1:OneCell enc)(bV:∀g w x v,RV g w (cs x) v->v=enc x) (fD:∀g w x,RV g w (cs x) (enc x)){H:Ax} {id ep:Nat} {l:List α} (hid:H id=ownO ep 1 (fun x=>[cs x]) l) (gE:l.length<=9223372036854775807) :
  ATr E P (ρ.f 35) [ownV id ep l] H (fun r h'=>r=.tup []/\h'=hset H id (ownO ep 1 (fun x=>[cs x]) l.reverse)):=by
 cases l with
 |nil =>
  refine(ud Ly).mono ?_;rintro r h' ⟨rfl,rfl⟩;refine⟨rfl,?_⟩;funext j;simp only[hset];split
  ·rename_i e;subst e;exact hid
  ·rfl
 |cons x l =>
  have hc:∀(m:List α) j,j<m.length->Ay (fun x=>[cs x]) m j=[cs m.toArray[j]!]:=by
   intro m j hj;rw[D4 (AD hj)];have:j<m.toArray.size:=by simpa using hj
   rw[getElem!_pos m.toArray j this];simp
  refine(uc Ly cs enc h1 bV fD (l:=x :: l) (f:=Ay (fun x=>[cs x]) (x :: l)) hid (by simp) (by omega) (by simpa using gE) (fun j hj=>hc _ j (by simpa using hj))).sub ?_;rintro r h' ⟨rfl,rfl⟩;refine⟨_,⟨rfl,rfl⟩,fun i=>?_⟩;simp only[hset];split
  ·obtain⟨z,zs,hz⟩:∃z zs,(x :: l).reverse=z :: zs:=by
    cases h:(x :: l).reverse with
    |nil=>simp at h
    |cons z zs=>exact⟨z,zs,rfl⟩
   have aD:zs.length=l.length:=by have:=F5 List.length hz;simp at this;omega
   refine .inr (.inr ⟨ep,1,l.length+1,_,Ay (fun x=>[cs x]) (x :: l).reverse,rfl,?_,fun k hk=>?_⟩)
   ·rw[hz,<-aD];rfl
   ·exact hc _ k (by simpa using hk)
  ·exact .refl _
end Go.Am

