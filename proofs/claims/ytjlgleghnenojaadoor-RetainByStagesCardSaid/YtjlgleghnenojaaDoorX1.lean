/- Part X1: functions of plain values and the rules by which a walk follows them. No condition. -/
import Derived.Test.YtjlgleghnenojaaDoorA5
set_option linter.unusedSimpArgs false
set_option linter.unusedVariables false
namespace Go.Am
def Ok{α:Type}:Option α->(α->Prop)->Prop
 |some a,P=>P a
 |none,_=>False
def ck{α:Type}:Bool->Option α->Option α
 |true,x=>x
 |false,_=>none
def bd{α β:Type}:Option α->(α->Option β)->Option β
 |some a,k=>k a
 |none,_=>none
def at?{α:Type}(l:List α)(j:Int):Option α:=match decide (0<=j) with
 |true=>l[j.toNat]?
 |false=>none
def gd{α:Type}[Inhabited α]:Bool->Option α->Option α
 |true,x=>x
 |false,_=>some default
def ite'{α:Type}:Bool->Option α->Option α->Option α
 |true,x,_=>x
 |false,_,y=>y
def lpN{O ω:Type}(body:O->Option (O⊕ω)):Nat->O->Option ω
 |0,_=>none
 |n+1,s=>match body s with
  |some (.inl s')=>lpN body n s'
  |some (.inr o)=>some o
  |none=>none
def lp{O ω:Type}(body:O->Option (O⊕ω))(s:O):Option ω:=lpN body 4611686018427387904 s
theorem Ok.some{α:Type}{a:α}{P:α->Prop}(h:Ok (some a) P):P a:=h
theorem Ok.ck{α:Type}{c:Bool}{x:Option α}{P:α->Prop}(h:Ok (ck c x) P):c=true/\Ok x P:=by
 cases c
 ·exact h.elim
 ·exact⟨rfl,h⟩
theorem Ok.bd{α β:Type}{x:Option α}{k:α->Option β}{P:β->Prop}(h:Ok (bd x k) P):Ok x (fun a=>Ok (k a) P):=by
 cases x
 ·exact h.elim
 ·exact h
theorem Ok.ex{α β:Type}{x:Option α}{k:α->Option β}{P:β->Prop}(h:Ok (Am.bd x k) P):∃a,x=Option.some a/\Ok (k a) P:=by
 cases x
 ·exact h.elim
 ·exact⟨_,rfl,h⟩
theorem qzlv{α:Type}{l:List α}{j:Int}{x:α}(h:at? l j=some x):0<=j/\j<l.length/\l[j.toNat]?=some x:=by
 unfold at? at h;by_cases hj:0<=j
 ·rw[Gdy hj]at h;refine⟨hj,?_,h⟩;obtain⟨h1,_⟩:=Gbg.1 h;omega
 ·rw[Gdw hj]at h;cases h
theorem Ok.at{α β:Type}{l:List α}{j:Int}{k:α->Option β}{P:β->Prop}(h:Ok (Am.bd (at? l j) k) P):∃a,(0<=j/\j<l.length/\l[j.toNat]?=Option.some a)/\Ok (k a) P:=by obtain⟨a,h1,h2⟩:=h.ex;exact⟨a,qzlv h1,h2⟩
theorem Ok.pos{α:Type}{c:Bool}{x y:Option α}{P:α->Prop}(e:c=true)(h:Ok (ite' c x y) P):Ok x P:=by subst e;exact h
theorem Ok.neg{α:Type}{c:Bool}{x y:Option α}{P:α->Prop}(e:c=false)(h:Ok (ite' c x y) P):Ok y P:=by subst e;exact h
theorem Ok.no{α:Type}{P:α->Prop}{Q:Prop}(h:Ok (none:Option α) P):Q:=h.elim
theorem Ok.of{α:Type}{x:Option α}{a:α}(h:x=Option.some a):Ok x (fun b=>b=a):=by rw[h];rfl
theorem qztg{O ω:Type}(body:O->Option (O⊕ω))(s:O):lp body s=lpN body 4611686018427387904 s:=rfl
attribute [irreducible] lp Ok
def inB:IntKind->Int->Bool
 |.i8,n=>decide (-128<=n/\n<=127)
 |.i16,n=>decide (-32768<=n/\n<=32767)
 |.i32,n=>decide (-2147483648<=n/\n<=2147483647)
 |.i64,n=>decide (-9223372036854775808<=n/\n<=9223372036854775807)
 |_,_=>true
theorem qzr{k:IntKind}{n:Int}(h:inB k n=true):inr k n:=by cases k<;>simp only[inB,inr,Gdz]at h ⊢<;>exact h
def qzd{α:Type}(c:α->List AVal)(l:List α)(i:Nat):List AVal:=match l[i]? with
 |some x=>c x
 |none=>[]
def slcV{α:Type}(st:Nat)(c:α->List AVal)(l:List α):AVal:=.slc st l.length (qzd c l)
theorem qzo{α:Type}{c:α->List AVal}{l:List α}{i:Nat}{x:α}(h:l[i]?=some x):qzd c l i=c x:=by unfold qzd;rw[h]
theorem qzh{α:Type}(st:Nat)(c:α->List AVal)(l:List α):slcV st c l=.slc st l.length (qzd c l):=rfl
theorem qzj{α:Type}{st:Nat}{c:α->List AVal}{l:List α}(h:∀a x,x∈c a->qzt x):qzt (slcV st c l):=by
 refine .slc _ _ _ fun i x hi hx=>?_;unfold qzd at hx;split at hx
 ·exact h _ x hx
 ·cases hx
def ownV{α:Type}(id ep:Nat):List α->AVal
 |[]=>.nils
 |x :: l=>.vec id ep 0 (l.length+1)
def ownO{α:Type}(ep st:Nat)(c:α->List AVal):List α->AObj
 |[]=>.gone ep
 |x :: l=>.vec ep st (l.length+1) (qzd c (x :: l))
section
variable {E:Nat->AVal}{P:Program}{U:Option Nat}{Q:Exit->ASt->Prop}{S:ASt}{m m' m1:List (Nat×AVal)}{hm hm' hm1:List (Nat×AObj)}{n:Nat}
theorem AW.sub{Ω:Type}{X:Option Ω}{PP:Ω->Prop}{c:qzk}(R:Ω->Exit->ASt->Prop)(h:Ok X PP)(h1:∀QQ:Ω->Prop,Ok X QQ->AW E U P c (fun e S'=>∃o,QQ o/\R o e S') S)(h2:∀o,PP o->∀e S',R o e S'->Q e S'):AW E U P c Q S := (h1 PP h).mono fun e S' ⟨o,ho,hr⟩=>h2 o ho e S' hr
end
inductive W:AVal->AVal->Prop
 |top (x:AVal):W x .top
 |refl (x:AVal):W x x
 |nil (st:Nat) (f:Nat->List AVal):W .nils (.slc st 0 f)
 |agg (l l':List AVal) (hn:l.length=l'.length) (h:∀(i:Nat) (x y:AVal),l[i]?=some x->l'[i]?=some y->W x y):W (.agg l) (.agg l')
 |tup (l l':List AVal) (hn:l.length=l'.length) (h:∀(i:Nat) (x y:AVal),l[i]?=some x->l'[i]?=some y->W x y):W (.tup l) (.tup l')
 |slc (st n:Nat) (f f':Nat->List AVal) (hn:∀k,k<n->(f k).length=(f' k).length) (h:∀(k i:Nat) (x y:AVal),k<n->(f k)[i]?=some x->(f' k)[i]?=some y->W x y):W (.slc st n f) (.slc st n f')
 |cptr (f f':Nat->AVal) (n off:Nat) (h:∀j,j<n->W (f j) (f' j)):W (.cptr f n off) (.cptr f' n off)
 |fn (f nb:Nat) (l l':List AVal) (hn:l.length=l'.length) (h:∀(i:Nat) (x y:AVal),l[i]?=some x->l'[i]?=some y->W x y):W (.fn f nb l) (.fn f nb l')
theorem RV.w{g:Gh}{w:World}{x y:AVal}(h:W x y):∀{v:Value},RV g w x v->RV g w y v:=by
 induction h with
 |top x=>intro v _;exact .top v
 |refl x=>intro v hv;exact hv
 |nil st f=>intro v hv;cases hv;exact .slc0 _ _ _ _
 |agg l l' hn _ ih =>
  intro v hv;cases hv with
  |agg _ a h1 h2 =>
   refine .agg l' a (by omega) fun i y v hy hv=>?_;have hi:i<l.length:=by rw[hn];exact(Gbg.1 hy).1
   exact ih i _ y (Gbe hi) hy (h2 i _ v (Gbe hi) hv)
 |tup l l' hn _ ih =>
  intro v hv;cases hv with
  |tup _ a h1 h2 =>
   refine .tup l' a (by omega) fun i y v hy hv=>?_;have hi:i<l.length:=by rw[hn];exact(Gbg.1 hy).1
   exact ih i _ y (Gbe hi) hy (h2 i _ v (Gbe hi) hv)
 |slc st n f f' hn _ ih =>
  intro v hv;cases hv with
  |slc0=>exact .slc0 _ _ _ _
  |slc _ _ _ b off cap vals hz hcap hl hc h1 hr =>
   refine .slc st n f' b off cap vals hz hcap (fun i hi=>by rw[<-hn i hi];exact hl i hi) hc h1 fun i j y hi hy=>?_;have hj:j<(f i).length:=by rw[hn i hi];exact(Gbg.1 hy).1
   exact ih i j _ y hi (Gbe hj) hy (hr i j _ hi (Gbe hj))
 |cptr f f' n off _ ih =>
  intro v hv;cases hv with
  |cptr _ _ _ b base vals hz hc hr=>exact .cptr _ _ _ _ _ vals hz hc fun j hj=>ih j hj (hr j hj)
 |fn f nb l l' hn _ ih =>
  intro v hv;cases hv with
  |fn _ _ _ a h1 h2 =>
   refine .fn f nb l' a (by omega) fun i y v hy hv=>?_;have hi:i<l.length:=by rw[hn];exact(Gbg.1 hy).1
   exact ih i _ y (Gbe hi) hy (h2 i _ v (Gbe hi) hv)
def Ws:List AVal->List AVal->Prop
 |[],[]=>True
 |x :: l,y :: l'=>W x y/\Ws l l'
 |_,_=>False
theorem Ws.at:∀{l l':List AVal},Ws l l'->l.length=l'.length/\∀(i:Nat) (x y:AVal),l[i]?=some x->l'[i]?=some y->W x y
 |[],[],_=>⟨rfl,fun i x y h=>by simp at h⟩
 |x :: l,y :: l',h=>by
  obtain⟨h1,h2⟩:=Ws.at h.2;refine⟨by simp[h1],fun i a b ha hb=>?_⟩;cases i with
  |zero=>simp at ha hb;subst ha;subst hb;exact h.1
  |succ i=>exact h2 i a b (by simpa using ha) (by simpa using hb)
 |[],_ :: _,h=>h.elim
 |_ :: _,[],h=>h.elim
theorem Ws.of:∀{l l':List AVal},l.length=l'.length->(∀(i:Nat) (x y:AVal),l[i]?=some x->l'[i]?=some y->W x y)->Ws l l'
 |[],[],_,_=>trivial
 |x :: l,y :: l',hn,h=>⟨h 0 x y rfl rfl,Ws.of (by simpa using hn) fun i a b ha hb=>h (i+1) a b (by simpa using ha) (by simpa using hb)⟩
 |[],_ :: _,h,_=>by simp at h
 |_ :: _,[],h,_=>by simp at h
theorem Ws.refl(l:List AVal):Ws l l:=.of rfl fun i x y hx hy=>by rw[hx]at hy;cases hy;exact .refl _
theorem Ws.rvs{g:Gh}{w:World}{l l':List AVal}(h:Ws l l'){a:List Value}(hv:RVs g w l a):RVs g w l' a:=by
 obtain⟨h1,h2⟩:=h.at;refine⟨by rw[hv.1,h1],fun i y v hy hv'=>?_⟩;have hi:i<l.length:=by rw[h1];exact(Gbg.1 hy).1
 exact(hv.2 i _ v (Gbe hi) hv').w (h2 i _ y (Gbe hi) hy)
theorem qzqa{l l':List AVal}:W (.agg l) (.agg l')↔Ws l l':=by
 constructor
 ·intro h;cases h with
  |refl=>exact .refl _
  |agg _ _ h1 h2=>exact .of h1 h2
 ·intro h;exact .agg _ _ h.at.1 h.at.2
theorem qzpi{l l':List AVal}:W (.tup l) (.tup l')↔Ws l l':=by
 constructor
 ·intro h;cases h with
  |refl=>exact .refl _
  |tup _ _ h1 h2=>exact .of h1 h2
 ·intro h;exact .tup _ _ h.at.1 h.at.2
theorem qzpz{k k':IntKind}{a b:Int}:W (.int k a) (.int k' b)↔k=k'/\a=b:=by
 constructor
 ·intro h;cases h;exact⟨rfl,rfl⟩
 ·rintro⟨rfl,rfl⟩;exact .refl _
theorem qzmg{a b:Bool}:W (.bool a) (.bool b)↔a=b:=by
 constructor
 ·intro h;cases h;rfl
 ·rintro rfl;exact .refl _
theorem qzpx{a b:List UInt8}:W (.str a) (.str b)↔a=b:=by
 constructor
 ·intro h;cases h;rfl
 ·rintro rfl;exact .refl _
theorem qzmf{st n:Nat}{f:Nat->List AVal}:W .nils (.slc st n f)↔n=0:=by
 constructor
 ·intro h;cases h;rfl
 ·rintro rfl;exact .nil _ _
theorem qzpo{st st' n n':Nat}{f f':Nat->List AVal}:W (.slc st n f) (.slc st' n' f')↔st=st'/\n=n'/\∀k,k<n->Ws (f k) (f' k):=by
 constructor
 ·intro h;cases h with
  |refl=>exact⟨rfl,rfl,fun k _=>.refl _⟩
  |slc _ _ _ _ h1 h2=>exact⟨rfl,rfl,fun k hk=>.of (h1 k hk) (fun i x y=>h2 k i x y hk)⟩
 ·rintro⟨rfl,rfl,h⟩;exact .slc _ _ _ _ (fun k hk=>(h k hk).at.1) (fun k i x y hk=>(h k hk).at.2 i x y)
theorem qzm7{x:AVal}:W x x↔True:=⟨fun _=>trivial,fun _=>.refl x⟩
theorem qzpn{x:AVal}:W x .top↔True:=⟨fun _=>trivial,fun _=>.top x⟩
theorem qznc:Ws [] []↔True:=Iff.rfl
theorem qzjs{x y:AVal}{l l':List AVal}:Ws (x :: l) (y :: l')↔W x y/\Ws l l':=Iff.rfl
theorem qzjh{l:List AVal}:Ws l l↔True:=⟨fun _=>trivial,fun _=>.refl l⟩
def WO(o:AObj):AObj->Prop
 |.gone e=>e=o.ep
 |.box e l=>∃l0,o=.box e l0/\Ws l0 l
 |.vec e st n f=>∃f0,o=.vec e st n f0/\∀k,k<n->Ws (f0 k) (f k)
 |o'=>o'=o
theorem qzj1{e:Nat}{o:AObj}:WO o (.gone e)↔e=o.ep:=Iff.rfl
theorem qzmh{e e':Nat}{l l':List AVal}:WO (.box e l) (.box e' l')↔e=e'/\Ws l l':=by
 constructor
 ·rintro⟨l0,h,h'⟩;cases h;exact⟨rfl,h'⟩
 ·rintro⟨rfl,h⟩;exact⟨_,rfl,h⟩
theorem qzmi{e e' st st' n n':Nat}{f f':Nat->List AVal}:WO (.vec e st n f) (.vec e' st' n' f')↔e=e'/\st=st'/\n=n'/\∀k,k<n->Ws (f k) (f' k):=by
 constructor
 ·rintro⟨f0,h,h'⟩;cases h;exact⟨rfl,rfl,rfl,h'⟩
 ·rintro⟨rfl,rfl,rfl,h⟩;exact⟨_,rfl,h⟩
theorem qzhs{o:AObj}:WO o o↔True:=⟨fun _=>trivial,fun _=>by
 cases o with
 |box e l=>exact⟨_,rfl,.refl _⟩
 |vec e st n f=>exact⟨_,rfl,fun _ _=>.refl _⟩
 |_=>rfl⟩
theorem WO.owned{o o':AObj}(h:WO o o')(ho:o'.owned=true):o.owned=true:=by
 cases o' with
 |gone e=>cases ho
 |box e l=>obtain⟨l0,rfl,_⟩:=h;rfl
 |vec e st n f=>obtain⟨f0,rfl,_⟩:=h;rfl
 |loop=>have h:_=o:=h;rw[<-h];rfl
 |dfr=>have h:_=o:=h;rw[<-h];rfl
 |amap=>have h:_=o:=h;rw[<-h];rfl
 |miter=>have h:_=o:=h;rw[<-h];rfl
theorem WO.ep{o o':AObj}(h:WO o o'):o'.ep=o.ep:=by
 cases o' with
 |gone e=>exact h
 |box e l=>obtain⟨l0,rfl,_⟩:=h;rfl
 |vec e st n f=>obtain⟨f0,rfl,_⟩:=h;rfl
 |loop=>have h:_=o:=h;rw[<-h]
 |dfr=>have h:_=o:=h;rw[<-h]
 |amap=>have h:_=o:=h;rw[<-h]
 |miter=>have h:_=o:=h;rw[<-h]
theorem WO.or{g:Gh}{w:World}{i:Nat}{o o':AObj}(h:WO o o')(hO:OR g w i o):OR g w i o':=by
 cases o' with
 |gone e=>trivial
 |box e l =>obtain⟨l0,rfl,hw⟩:=h;obtain⟨arr,ty,hh,hr⟩:=hO;exact⟨arr,ty,hh,hw.rvs hr⟩
 |vec e st n f =>
  obtain⟨f0,rfl,hw⟩:=h;obtain⟨e2,e3,e4,arr,ty,hh,hs,hr⟩:=hO;refine⟨e2,e3,e4,arr,ty,hh,hs,fun k hk=>?_⟩;obtain⟨h1,h2⟩:=(hw k hk).at;refine⟨by rw[<-h1];exact(hr k hk).1,fun j y v hy hv=>?_⟩;have hj:j<(f0 k).length:=by rw[h1];exact(Gbg.1 hy).1
  obtain⟨p,q⟩:=(hr k hk).2 j _ v (Gbe hj) hv;exact⟨p,q.w (h2 j _ y (Gbe hj) hy)⟩
 |loop=>have h:_=o:=h;rw[h];exact hO
 |dfr=>have h:_=o:=h;rw[h];exact hO
 |amap=>have h:_=o:=h;rw[h];exact hO
 |miter=>have h:_=o:=h;rw[h];exact hO
theorem HR.wk{E:Nat->AVal}{g:Gh}{h h':qzl}{w:World}(H:HR E g h w)(s:∀i,WO (h i) (h' i)):HR E g h' w := ⟨fun i=>(s i).or (H.obj i),fun i=>by rw[H.ep i,(s i).ep],fun i j hi hj e=>H.inj i j ((s i).owned hi) ((s j).owned hj) e,fun i hi=>H.sep i ((s i).owned hi),H.fzb,H.glob⟩
def wm(m:List (Nat×AVal)):List (Nat×AVal)->Prop
 |[]=>True
 |p :: r=>W (look m p.1) p.2/\wm m r
theorem qzvp{g:Gh}{w:World}{m:List (Nat×AVal)}:∀{r:List (Nat×AVal)},wm m r->∀i v,RV g w (look m i) v->RV g w (look r i) v
 |[],_,i,v,_=>.top v
 |p :: r,h,i,v,hv=>by
  simp only[look];split
  ·rename_i e;subst e;exact hv.w h.1
  ·exact qzvp h.2 i v hv
theorem wzds{g:Gh}{w:World}{m m':List (Nat×AVal)}{n:Nat}{a:List Value}(h:wm m m')(hv:RVs g w (tl m n) a):RVs g w (tl m' n) a:=by
 refine⟨by rw[hv.1,qzgt,qzgt],fun i x v hx hy=>?_⟩;rw[qzem]at hx;split at hx
 ·rename_i hi;simp only[Gdq]at hx;subst hx;exact qzvp h i v (hv.2 i _ v (by rw[qzem,Gd4 hi]) hy)
 ·cases hx
def wh(m:List (Nat×AObj)):List (Nat×AObj)->Prop
 |[]=>True
 |p :: r=>WO (qz8 m p.1) p.2/\wh m r
theorem qzv0{m:List (Nat×AObj)}:∀{r:List (Nat×AObj)},wh m r->∀i,r.any (fun q=>q.1==i)=true->WO (qz8 m i) (qz8 r i)
 |[],_,i,h=>by simp at h
 |p :: r,h,i,hi=>by
  simp only[qz8];split
  ·rename_i e;subst e;exact h.1
  ·rename_i e;refine qzv0 h.2 i ?_;simpa [e] using hi
theorem qz9j{m m':List (Nat×AObj)}(h:wh m m')(hk:vz2 m m'=true)(i:Nat):WO (hl m i) (hl m' i):=by
 show WO (qz8 m i) (qz8 m' i);by_cases h1:m'.any (fun q=>q.1==i)=true
 ·exact qzv0 h i h1
 ·have h2:m.all (fun p=>!(p.1==i))=true:=by
   rw[Ga0];intro p hp;unfold vz2 at hk;rw[Ga0]at hk;have:=hk p hp;cases e:(p.1==i)
   ·rfl
   ·exfalso;have e':p.1=i:=(by simpa using e);subst e';exact h1 this
  rw[qzhl h2,qzhl (by
   rw[Ga0];intro p hp;cases e:(p.1==i)
   ·rfl
   ·exfalso;exact h1 (List.any_eq_true.2 ⟨p,hp,e⟩))]
  exact qzhs.2 trivial
section
variable {E:Nat->AVal}{P:Program}{U:Option Nat}{Q:Exit->ASt->Prop}{S:ASt}{m m' m1:List (Nat×AVal)}{hm hm' hm1:List (Nat×AObj)}{n:Nat}
theorem See.wk(h1:wm m m')(h2:wh hm hm')(h3:vz2 hm hm'=true):See E ⟨tl m n,hl hm,[]⟩ ⟨tl m' n,hl hm',[]⟩:=by intro g a w hs;have hH:=hs.hr.wk (qz9j h2 h3);exact⟨g,⟨hH,wzds h1 hs.tm,hs.df,(by intro D hD;cases hD),hs.dn⟩,⟨.refl _ _,rfl,rfl,rfl,Gcy _,fun _ _ _=>rfl,fun i ho=>.inl ⟨i,(qz9j h2 h3 i).owned ho,rfl⟩,fun _ h=>.inl h,Gcy _⟩⟩
def Fin(m':List (Nat×AVal))(hm':List (Nat×AObj))(n:Nat)(S:ASt):Prop:=∃m1 hm1,S=⟨tl m1 n,hl hm1,[]⟩/\wm m1 m'/\wh hm1 hm'/\vz2 hm1 hm'=true
theorem Fin.mk(h1:wm m m')(h2:wh hm hm')(h3:vz2 hm hm'=true):Fin m' hm' n ⟨tl m n,hl hm,[]⟩:=⟨m,hm,rfl,h1,h2,h3⟩
def FinD(pr:List (List Nat))(m':List (Nat×AVal))(hm':List (Nat×AObj))(n:Nat)(S:ASt)(tr:List (List Nat×Option Nat)):Prop:=hpOk pr tr=true/\Fin m' hm' n S
theorem FinD.mk{pr:List (List Nat)}{tr:List (List Nat×Option Nat)}(h0:hpOk pr tr=true)(h1:wm m m')(h2:wh hm hm')(h3:vz2 hm hm'=true):FinD pr m' hm' n ⟨tl m n,hl hm,[]⟩ tr:=⟨h0,.mk h1 h2 h3⟩
theorem Fin.see(h:Fin m' hm' n S):See E S ⟨tl m' n,hl hm',[]⟩:=by obtain⟨m1,hm1,rfl,a,b,c⟩:=h;exact .wk a b c
theorem ATr.w{f:FuncId}{args args':List AVal}{h:qzl}{R:AVal->qzl->Prop}(H:ATr E P f args' h R)(ha:Ws args args'):ATr E P f args h R :=
 fun g w vs hh hv=>H g w vs hh (ha.rvs hv)
theorem qzq.w{f:FuncId}{args args':List AVal}{r:AVal}(H:qzq E P f args' r)(ha:Ws args args'):qzq E P f args r:=fun h=>(H h).w ha
theorem qzq.ca{f:FuncId}{args args':List AVal}{r:AVal}(H:qzq E P f args' r)(ha:Ws args args'){h:qzl}{K:AVal->qzl->Prop}(k:K r h):ATr E P f args h K:=(H.w ha).call k
theorem qzq.cd{f:FuncId}{args args':List AVal}{r:AVal}(H:qzq E P f args' r)(ha:Ws args args'){h:qzl}{K:AVal->List Nat->Prop}(k:K r []):qznq E P f args h K:=⟨r,[],(H.w ha).on h [],k⟩
theorem AW.rt{rs:List ARes}{r:AVal}(m':List (Nat×AVal))(hm':List (Nat×AObj))(h1:wm m m')(h2:wh hm hm')(h3:vz2 hm hm'=true)(hq:Q .ret=Post E rs (fun v _=>v=r) .ret)(hok:vz1 ⟨tl m' n,hl hm',[]⟩ rs)(hR:vz5 ⟨tl m' n,hl hm',[]⟩ rs=r):AW E U P .ret Q ⟨tl m n,hl hm,[]⟩ :=
 .rets hq (.wk h1 h2 h3) hok hR
theorem Post.wk{rs:List ARes}{r:AVal}(m':List (Nat×AVal))(hm':List (Nat×AObj))(h1:wm m m')(h2:wh hm hm')(h3:vz2 hm hm'=true)(hok:vz1 ⟨tl m' n,hl hm',[]⟩ rs)(hR:vz5 ⟨tl m' n,hl hm',[]⟩ rs=r):Post E rs (fun v _=>v=r) .ret ⟨tl m n,hl hm,[]⟩:=by obtain⟨S',a,b,c⟩:=Post.pure (E:=E) hok hR;exact⟨S',(See.wk h1 h2 h3).trans a,b,c⟩
end
def cI(k:IntKind)(n:Int):List AVal:=[.int k n]
def cB(b:Bool):List AVal:=[.bool b]
def cS(s:List UInt8):List AVal:=[.str s]
def cL{α:Type}(st:Nat)(c:α->List AVal)(l:List α):List AVal:=[slcV st c l]
theorem qz1{k:IntKind}{n:Int}:∀v,v∈cI k n->qzt v:=by simp[cI,qzc0]
theorem qzh2{b:Bool}:∀v,v∈cB b->qzt v:=by simp[cB,qzbz]
theorem qzij{s:List UInt8}:∀v,v∈cS s->qzt v:=by simp[cS,qzcz]
theorem wzts{α:Type}{st:Nat}{c:α->List AVal}(h:∀a v,v∈c a->qzt v){l:List α}:∀v,v∈cL st c l->qzt v:=by intro v hv;simp only[cL,Gcc]at hv;subst hv;exact qzj h
def kzy{α:Type}(l:List α)(lo hi:Int):Bool:=decide (0<=lo)&&decide (lo<=hi)&&decide (hi<=l.length)
def sub{α:Type}(l:List α)(lo hi:Int):List α:=(l.drop lo.toNat).take (hi-lo).toNat
theorem vz4{α:Type}{l:List α}{lo hi:Int}(h:kzy l lo hi=true):0<=lo/\lo<=hi/\hi<=l.length:=by simpa [kzy,and_assoc] using h
theorem wzwp{α:Type}{st:Nat}{c:α->List AVal}{l:List α}{lo hi:Int}(h:kzy l lo hi=true):W (.slc st (hi-lo).toNat (fun k=>qzd c l (lo.toNat+k))) (slcV st c (sub l lo hi)):=by
 obtain⟨h1,h2,h3⟩:=vz4 h;have hlen:(sub l lo hi).length=(hi-lo).toNat:=by simp only[sub,Gbz,Gbs];omega
 rw[qzh,qzpo];refine⟨rfl,hlen.symm,fun k hk=>?_⟩;have:qzd c (sub l lo hi) k=qzd c l (lo.toNat+k):=by unfold qzd sub;rw[List.getElem?_take_of_lt hk,Gbd]
 rw[this];exact .refl _
theorem vzn{α:Type}{l:List α}{lo hi:Int}(h:kzy l lo hi=true):(sub l lo hi).length=(hi-lo).toNat:=by obtain⟨h1,h2,h3⟩:=vz4 h;simp only[sub,Gbz,Gbs];omega
theorem yzt{α:Type}{c:α->List AVal}{l m:List α}{k:Nat}:qzd c (l++m) k=if k<l.length then qzd c l k else qzd c m (k-l.length):=by
 unfold qzd;by_cases h:k<l.length
 ·rw[Gba h,Gd4 h]
 ·rw[Gbb (by omega),Gd3 h]
theorem qzc3{α:Type}{c:α->List AVal}{a:α}{l:List α}:qzd c (a :: l) 0=c a:=rfl
theorem qzdh{α:Type}{c:α->List AVal}{a b:α}{l:List α}:qzd c (a :: b :: l) 1=c b:=rfl
theorem qzdz{α:Type}{c:α->List AVal}{a b d:α}{l:List α}:qzd c (a :: b :: d :: l) 2=c d:=rfl
theorem qzb7{α:Type}{c:α->List AVal}{a b d e:α}{l:List α}:qzd c (a :: b :: d :: e :: l) 3=c e:=rfl
theorem qzj0{α:Type}{c:α->List AVal}{l:List α}{e e' st:Nat}:WO (ownO e st c l) (.gone e')↔e'=e:=by cases l<;>exact Iff.rfl
theorem qzqk{i e o n i' e' o' n':Nat}:W (.vec i e o n) (.vec i' e' o' n')↔i=i'/\e=e'/\o=o'/\n=n':=by
 constructor
 ·intro h;cases h;exact⟨rfl,rfl,rfl,rfl⟩
 ·rintro⟨rfl,rfl,rfl,rfl⟩;exact .refl _
theorem qzpm{i e o i' e' o':Nat}:W (.ptr i e o) (.ptr i' e' o')↔i=i'/\e=e'/\o=o':=by
 constructor
 ·intro h;cases h;exact⟨rfl,rfl,rfl⟩
 ·rintro⟨rfl,rfl,rfl⟩;exact .refl _
theorem w_fn{f f':FuncId}{n n':Nat}{c c':List AVal}:W (.fn f n c) (.fn f' n' c')↔f=f'/\n=n'/\Ws c c':=by
 constructor
 ·intro h;cases h with
  |refl=>exact⟨rfl,rfl,.refl _⟩
  |fn _ _ _ _ hn h=>exact⟨rfl,rfl,.of hn h⟩
 ·rintro⟨rfl,rfl,h⟩;exact .fn _ _ _ _ h.at.1 h.at.2
theorem qzg1{α:Type}{id ep:Nat}{x:α}{l:List α}:ownV id ep (x :: l)=.vec id ep 0 (l.length+1):=rfl
theorem qzh0{α:Type}{id ep:Nat}:ownV (α:=α) id ep []=.nils:=rfl
theorem qzgc{α:Type}{ep st:Nat}{c:α->List AVal}{x:α}{l:List α}:ownO ep st c (x :: l)=.vec ep st (l.length+1) (qzd c (x :: l)):=rfl
theorem qziq{α:Type}{ep st:Nat}{c:α->List AVal}:ownO ep st c []=.gone ep:=rfl
def fzm(id:Nat)(o:AObj)(m:List (Nat×AVal)):List (Nat×AVal):=m.map fun p=>(p.1,fzv id o p.2)
def fzh(id:Nat)(o:AObj)(m:List (Nat×AObj)):List (Nat×AObj):=m.map fun p=>(p.1,fzo id o p.2)
theorem qzt0(id:Nat)(o:AObj):∀(m:List (Nat×AVal)) (i:Nat),look (fzm id o m) i=fzv id o (look m i)
 |[],i=>by simp[fzm,look,fzv,fz1]
 |p :: r,i=>by
  simp only[fzm,Gb1,look];split
  ·rfl
  ·exact qzt0 id o r i
theorem qzrw(id:Nat)(o:AObj):∀(m:List (Nat×AObj)) (i:Nat),qz8 (fzh id o m) i=fzo id o (qz8 m i)
 |[],i=>rfl
 |p :: r,i=>by
  simp only[fzh,Gb1,qz8];split
  ·rfl
  ·exact qzrw id o r i
theorem qzvr(id:Nat)(o:AObj):∀l,fzl id o l=l.map (fzv id o)
 |[]=>rfl
 |x :: l=>by simp[fzl,qzvr id o l]
theorem wzfg(id:Nat)(o:AObj)(m:List (Nat×AVal))(n:Nat):fzl id o (tl m n)=tl (fzm id o m) n:=by rw[qzvr];unfold tl;rw[List.map_map];exact Gb0 fun i _=>(qzt0 id o m i).symm
section
variable {E:Nat->AVal}{P:Program}{U:Option Nat}{Q:Exit->ASt->Prop}{S:ASt}{m m' m1:List (Nat×AVal)}{hm hm' hm1:List (Nat×AObj)}{n:Nat}
theorem See.fzs(id:Nat){o:AObj}(ho:qz8 hm id=o)(how:o.owned=true)(hpl:o.plain):See E ⟨tl m n,hl hm,[]⟩ ⟨tl (fzm id o m) n,hl ((id,.gone (o.ep+1)) :: fzh id o hm),[]⟩:=by
 have h:=See.fzc (E:=E) (S:=⟨tl m n,hl hm,[]⟩) id (by show(qz8 hm id).owned=true;rw[ho];exact how) (by show(qz8 hm id).plain;rw[ho];exact hpl);have e:(hl hm) id=o:=ho;simp only[e]at h;rw[wzfg]at h
 have e2:hset (fun j=>fzo id o (hl hm j)) id (.gone (o.ep+1))=hl ((id,.gone (o.ep+1)) :: fzh id o hm):=by
  have e3:(fun j=>fzo id o (hl hm j))=hl (fzh id o hm):=by funext j;exact(qzrw id o hm j).symm
  rw[e3,qzih]
 rw[e2]at h;exact h
theorem HR.bump{g:Gh}{h:qzl}{w:World}{id e:Nat}(H:HR E g h w)(hid:h id=.gone e):∃g',HR E g' (hset h id (.gone (e+1))) w/\GLe g w g' w/\(∀i,g'.blk i=g.blk i)/\g'.fz=g.fz/\∀i,i≠id->g'.ep i=g.ep i:=by
 let g':Gh:=⟨g.blk,fun i=>if i=id then e+1 else g.ep i,g.bo,g.st,g.cp,g.fz⟩
 have hle:GLe g w g' w:=⟨fun b hb=>⟨hb,rfl⟩,fun i=>by
  show g.ep i<=if i=id then e+1 else g.ep i;split
  ·rename_i e';subst e';have:=H.ep i;rw[hid]at this;simp only[AObj.ep]at this;omega
  ·exact Gcy _,fun i _=>⟨rfl,rfl,rfl,rfl⟩⟩
 refine⟨g',⟨fun i=>?_,fun i=>?_,fun i j hi hj=>?_,fun i hi=>?_,H.fzb,fun i=>(H.glob i).mono hle⟩,hle,fun i=>rfl,rfl,fun i hi=>by show(if i=id then e+1 else g.ep i)=_;rw[Gd3 hi]⟩
 ·by_cases hi:i=id;·subst hi;simp only[hset,Gd5];trivial
  ·simp only[hset,Gd3 hi];exact(H.obj i).mono hle (by show(if i=id then e+1 else g.ep i)=_;rw[Gd3 hi]) (fun _=>rfl)
 ·by_cases hi:i=id;·subst hi;simp only[hset,Gd5];show(if i=i then e+1 else _)=_;rw[Gd4 rfl];rfl
  ·simp only[hset,Gd3 hi];show(if i=id then e+1 else g.ep i)=_;rw[Gd3 hi];exact H.ep i
 ·have hi':i≠id:=fun e'=>by subst e';simp[hset,AObj.owned]at hi
  have hj':j≠id:=fun e'=>by subst e';simp[hset,AObj.owned]at hj
  simp only[hset,Gd3 hi']at hi;simp only[hset,Gd3 hj']at hj;exact H.inj i j hi hj
 ·have hi':i≠id:=fun e'=>by subst e';simp[hset,AObj.owned]at hi
  simp only[hset,Gd3 hi']at hi;exact H.sep i hi
theorem See.bump(id e:Nat)(h:qz8 hm id=.gone e):See E ⟨tl m n,hl hm,[]⟩ ⟨tl m n,hl ((id,.gone (e+1)) :: hm),[]⟩:=by
 intro g a w hs;obtain⟨g',H',hle,hb,hf,hep⟩:=hs.hr.bump (id:=id) (e:=e) h;rw[qzih]at H';refine⟨g',⟨H',hs.tm.mono hle,hs.df,(by intro D hD;cases hD),hs.dn⟩,⟨hle,rfl,rfl,rfl,Gcy _,fun _ _ _=>rfl,fun i ho=>?_,fun b hb'=>.inl (by rw[hf]at hb';exact hb'),Gcy _⟩⟩;by_cases hi:i=id
 ·subst hi;exfalso;simp[hl,qz8,AObj.owned]at ho
 ·refine .inl ⟨i,?_,(hb i).symm⟩;have:hl ((id,.gone (e+1)) :: hm) i=hl hm i:=by simp only[hl,qz8];exact Gd3 (fun e'=>hi e'.symm)
  show(hl hm i).owned=true;rw[<-this];exact ho
theorem AW.frz{c:qzk}(id:Nat){o:AObj}(m':List (Nat×AVal))(hm':List (Nat×AObj))(ho:qz8 hm id=o)(how:o.owned=true)(hpl:o.plain)(h1:wm (fzm id o m) m')(h2:wh ((id,.gone (o.ep+1)) :: fzh id o hm) hm')(h3:vz2 ((id,.gone (o.ep+1)) :: fzh id o hm) hm'=true)(k:AW E U P c Q ⟨tl m' n,hl hm',[]⟩):AW E U P c Q ⟨tl m n,hl hm,[]⟩:=.see ((See.fzs id ho how hpl).trans (.wk h1 h2 h3)) k
theorem AW.frzO{α:Type}{c:qzk}(id:Nat)(ep st:Nat)(cf:α->List AVal)(l:List α)(m':List (Nat×AVal))(hm':List (Nat×AObj))(ho:qz8 hm id=ownO ep st cf l)(h0:l=[]->wm m m'/\wh ((id,.gone (ep+1)) :: hm) hm'/\vz2 ((id,.gone (ep+1)) :: hm) hm'=true)(h1:∀y k,l=y :: k->∀o,o=.vec ep st (k.length+1) (qzd cf (y :: k))->wm (fzm id o m) m'/\wh ((id,.gone (ep+1)) :: fzh id o hm) hm'/\vz2 ((id,.gone (ep+1)) :: fzh id o hm) hm'=true)(k:AW E U P c Q ⟨tl m' n,hl hm',[]⟩):AW E U P c Q ⟨tl m n,hl hm,[]⟩:=by
 cases l with
 |nil =>obtain⟨a,b,d⟩:=h0 rfl;exact .see ((See.bump id ep ho).trans (.wk a b d)) k
 |cons y l =>obtain⟨a,b,d⟩:=h1 y l rfl _ rfl;exact .see ((See.fzs id ho rfl trivial).trans (.wk a b d)) k
end
section
variable {E:Nat->AVal}{P:Program}{U:Option Nat}{Q:Exit->ASt->Prop}{S:ASt}{m m' m1:List (Nat×AVal)}{hm hm' hm1:List (Nat×AObj)}{n:Nat}{ops:List qzc}{K:ASt->Prop}
theorem SReg.fin:∀{ops:List qzc} {S:ASt} {K:ASt->Prop},areg E P ops S K->SReg E P ops S K
 |[],S,K,h=>.nil h
 |o :: r,S,K,h=>.cons (aop.mono (h:aop E P o S (fun S'=>areg E P r S' K)) fun S' h'=>SReg.fin h')
theorem SReg.app:∀{l1 l2:List qzc} {S:ASt} {K:ASt->Prop},areg E P l1 S (fun S'=>SReg E P l2 S' K)->SReg E P (l1++l2) S K
 |[],l2,S,K,h=>h
 |o :: r,l2,S,K,h=>.cons (aop.mono (h:aop E P o S (fun S'=>areg E P r S' _)) fun S' h'=>SReg.app h')
theorem SReg.cut(j:Nat)(M:List (Nat×AVal))(Hm:List (Nat×AObj))(h1:areg E P (ops.take j) ⟨tl m n,hl hm,[]⟩ (Fin M Hm n))(h2:SReg E P (ops.drop j) ⟨tl M n,hl Hm,[]⟩ K):SReg E P ops ⟨tl m n,hl hm,[]⟩ K:=by
 have:=SReg.app (l2:=ops.drop j) (h1.mono fun S' h'=>SReg.see h'.see h2)
 rwa [Gcj]at this
theorem SReg.frz(id:Nat){o:AObj}(m':List (Nat×AVal))(hm':List (Nat×AObj))(ho:qz8 hm id=o)(how:o.owned=true)(hpl:o.plain)(h1:wm (fzm id o m) m')(h2:wh ((id,.gone (o.ep+1)) :: fzh id o hm) hm')(h3:vz2 ((id,.gone (o.ep+1)) :: fzh id o hm) hm'=true)(k:SReg E P ops ⟨tl m' n,hl hm',[]⟩ K):SReg E P ops ⟨tl m n,hl hm,[]⟩ K:=.see ((See.fzs id ho how hpl).trans (.wk h1 h2 h3)) k
end
def qzy{α:Type}(l:List α)(i:Nat)(new:List α):List α:=l.take i++new++l.drop (i+new.length)
theorem qzc1{α:Type}{l:List α}{i:Nat}{new:List α}(h:i+new.length<=l.length):(qzy l i new).length=l.length:=by simp only[qzy,Gbq,Gbz,Gbs];omega
theorem qzf6{α:Type}{c:α->List AVal}{l:List α}{i k:Nat}{new:List α}(h:i+new.length<=l.length):qzd c (qzy l i new) k=if i<=k/\k<i+new.length then qzd c new (k-i) else qzd c l k:=by
 unfold qzd qzy;rw[yzx l new i k h];by_cases h1:k<i
 ·rw[Gd4 h1,Gd3 (by omega)]
 ·rw[Gd3 h1];by_cases h2:k<i+new.length
  ·rw[Gd4 h2,Gd4 ⟨by omega,h2⟩]
  ·rw[Gd3 h2,Gd3 (by omega)]
theorem qzfj{α:Type}{c:α->List AVal}{l:List α}{n k:Nat}(h:k<n):qzd c (l.take n) k=qzd c l k:=by unfold qzd;rw[List.getElem?_take_of_lt h]
def qzaz{α:Type}(st:Nat)(c:α->List AVal)(l:List α)(X:AVal)(H:qzl)(b:Nat):Prop := (∃f,X=.slc st l.length f/\∀k,k<l.length->Ws (f k) (qzd c l k)) \/ (∃id ep lo m f,X=.vec id ep lo l.length/\H id=.vec ep st m f/\lo+l.length<=m/\id≠b/\∀k,k<l.length->Ws (f (lo+k)) (qzd c l k))
theorem qzaz.of{α:Type}{st:Nat}{c:α->List AVal}{l:List α}{X Y:AVal}{H:qzl}{b:Nat}(h:qzaz st c l X H b)(e:X=Y):qzaz st c l Y H b:=e▸h
theorem qzaz.vec{α:Type}{st:Nat}{c:α->List AVal}{l:List α}{H:qzl}{id ep b:Nat}(h:H id=.vec ep st l.length (qzd c l))(hne:id≠b):qzaz st c l (.vec id ep 0 l.length) H b :=
 .inr ⟨id,ep,0,_,_,rfl,h,by omega,hne,fun k _=>by rw[Gdk];exact .refl _⟩
def FnOk(E:Nat->AVal)(P:Program)(f:FuncId)(nb:Nat)(caps:List AVal)(args:List AVal)(r:AVal):Prop:=kzz P f=true/\qzq E P f (fnArgs nb args caps) r
theorem qznh{n:Int}:inr .u8 n=True:=rfl
theorem qzj2{n:Int}:inr .u16 n=True:=rfl
theorem qzkg{n:Int}:inr .u32 n=True:=rfl
theorem qzjx{n:Int}:inr .u64 n=True:=rfl
theorem qzgg{x:AVal}:unc false x=True:=by cases x<;>simp[unc]
theorem qzif{c p q:Bool}:jzp c (.bool p) (.bool q)=.when (unc c (.bool p)/\unc (!c) (.bool q)) (.bool (bif c then p else q)):=rfl
theorem qzid{c d p q:Bool}:jzp c (.cnd d (.bool p)) (.bool q)=.when (unc c (.cnd d (.bool p))/\unc (!c) (.bool q)) (.bool (bif c then p else q)):=rfl
theorem qzh7{c d p q:Bool}:jzp c (.bool p) (.cnd d (.bool q))=.when (unc c (.bool p)/\unc (!c) (.cnd d (.bool q))) (.bool (bif c then p else q)):=rfl
theorem qzh1{c d d' p q:Bool}:jzp c (.cnd d (.bool p)) (.cnd d' (.bool q))=.when (unc c (.cnd d (.bool p))/\unc (!c) (.cnd d' (.bool q))) (.bool (bif c then p else q)):=rfl
theorem qzhy{c:Bool}{k:IntKind}{p q:Int}:jzp c (.int k p) (.int k q)=.when (unc c (.int k p)/\unc (!c) (.int k q)) (.int k (bif c then p else q)):=by simp[jzp,unv]
theorem qzko{x:AVal}{q:Bool}:jzp false x (.bool q)=.when (unc false x/\unc true (.bool q)) (.bool q):=by
 unfold jzp;split
 ·rename_i h1 h2;simp only[unv,AVal.bool.injEq]at h2;subst h2;rfl
 ·rename_i h1 h2;simp[unv]at h2
 ·rfl
theorem qzhz{x:AVal}{d q:Bool}:jzp false x (.cnd d (.bool q))=.when (unc false x/\unc true (.cnd d (.bool q))) (.bool q):=by
 unfold jzp;split
 ·rename_i h1 h2;simp only[unv,AVal.bool.injEq]at h2;subst h2;rfl
 ·rename_i h1 h2;simp[unv]at h2
 ·rfl
theorem qzji{y:AVal}{p:Bool}:jzp true (.bool p) y=.when (unc true (.bool p)/\unc false y) (.bool p):=by
 unfold jzp;split
 ·rename_i h1 h2;simp only[unv,AVal.bool.injEq]at h1;subst h1;rfl
 ·rename_i h1 h2;simp[unv]at h1
 ·rfl
theorem qzim{y:AVal}{d p:Bool}:jzp true (.cnd d (.bool p)) y=.when (unc true (.cnd d (.bool p))/\unc false y) (.bool p):=by
 unfold jzp;split
 ·rename_i h1 h2;simp only[unv,AVal.bool.injEq]at h1;subst h1;rfl
 ·rename_i h1 h2;simp[unv]at h1
 ·rfl
theorem qzjm{id:Nat}{o:AObj}{e:Nat}{l:List AVal}:fzo id o (.box e l)=.box e (fzl id o l):=rfl
theorem qzhw{id:Nat}{o:AObj}{e:Nat}:fzo id o (.gone e)=.gone e:=rfl
theorem qzjp{id:Nat}{o:AObj}{e st n:Nat}{f:Nat->List AVal}:fzo id o (.vec e st n f)=.vec e st n f:=rfl
theorem qzjl{α:Type}{id:Nat}{o:AObj}{e st:Nat}{c:α->List AVal}{l:List α}:fzo id o (ownO e st c l)=ownO e st c l:=by cases l<;>rfl
theorem qzjk{α:Type}{id id':Nat}{o:AObj}{e:Nat}{l:List α}(h:id'≠id):fzv id o (ownV id' e l)=ownV id' e l:=by
 cases l with
 |nil=>rfl
 |cons x l=>show(if id'=id then _ else AVal.vec id' e 0 (l.length+1))=_;rw[Gd3 h];rfl
theorem qzd5{p:Nat->Prop}:(∀k,k<0->p k)↔True:=by simp
theorem qze0{p:Nat->Prop}:(∀k,k<1->p k)↔p 0:=by
 refine⟨fun h=>h 0 (by omega),fun h k hk=>?_⟩;obtain rfl:k=0:=by omega
 exact h
theorem qzfg{p:Nat->Prop}:(∀k,k<2->p k)↔p 0/\p 1:=⟨fun h=>⟨h 0 (by omega),h 1 (by omega)⟩,fun h k hk=>by
 rcases(show k=0\/k=1 by omega) with rfl|rfl
 ·exact h.1
 ·exact h.2⟩
theorem qzco{p:Nat->Prop}:(∀k,k<3->p k)↔p 0/\p 1/\p 2:=⟨fun h=>⟨h 0 (by omega),h 1 (by omega),h 2 (by omega)⟩,fun h k hk=>by
 rcases(show k=0\/k=1\/k=2 by omega) with rfl|rfl|rfl
 ·exact h.1
 ·exact h.2.1
 ·exact h.2.2⟩
theorem qzdq{p:Nat->Prop}:(∀k,k<4->p k)↔p 0/\p 1/\p 2/\p 3:=⟨fun h=>⟨h 0 (by omega),h 1 (by omega),h 2 (by omega),h 3 (by omega)⟩,fun h k hk=>by
 rcases(show k=0\/k=1\/k=2\/k=3 by omega) with rfl|rfl|rfl|rfl
 ·exact h.1
 ·exact h.2.1
 ·exact h.2.2.1
 ·exact h.2.2.2⟩
def bytes(s:List UInt8):List Int:=s.map fun b=>(b.toNat:Int)
def vzg(l:List Int):List UInt8:=l.map fun n=>UInt8.ofNat n.toNat
def qzf7(s:List UInt8)(j:Int):Bool:=decide (0<=j)&&decide (j<s.length)
theorem qznu{s:List UInt8}{j:Int}(h:qzf7 s j=true):0<=j/\j<s.length:=by simpa [qzf7] using h
def mkOk(n:Int)(b:Nat):Bool:=decide (0<=n)&&decide (n*b<=140737488355328)
theorem qztk{n:Int}{b:Nat}(h:mkOk n b=true):0<=n/\n*b<=140737488355328:=by simpa [mkOk] using h
theorem qzag:∀(l:List Int),qzal l.length (qzd (cI .u8) l)=some (vzg l)
 |[]=>rfl
 |n :: l=>by have ih:=qzag l;show(match qzd (cI .u8) (n :: l) 0 with | [.int .u8 m]=>(qzal l.length fun k=>qzd (cI .u8) (n :: l) (k+1)).map (UInt8.ofNat m.toNat :: ·) | _=>none)=_;have e:(fun k=>qzd (cI .u8) (n :: l) (k+1))=qzd (cI .u8) l:=rfl;rw[e,ih];rfl
theorem qzdw{f:Nat->List AVal}{m:Int}(h:f 0=[.int .u8 m]):qzal 1 f=some [UInt8.ofNat m.toNat]:=by unfold qzal;rw[h];rfl
theorem qzd4{m:Int}:vzg [m]=[UInt8.ofNat m.toNat]:=rfl
theorem qzcs(s:List UInt8):(bytes s).length=s.length:=by simp[bytes]
theorem qzn(s:List UInt8)(k:Nat)(hk:k<s.length):qzd (cI .u8) (bytes s) k=[.int .u8 (wzw s k)]:=by
 have e:(bytes s)[k]?=some (wzw s k):=by simp only[bytes,Gbh,Gbe hk,Gdo,wzw,Int.toNat_natCast,Ga9,Gdm]
 rw[qzo e];rfl
theorem wzvm{s:List UInt8}{f:Nat->List AVal}{n:Nat}(hn:n=s.length)(hf:∀k,k<n->f k=[.int .u8 (wzw s k)]):∀k,k<n->Ws (f k) (qzd (cI .u8) (bytes s) k):=by intro k hk;rw[hf k hk,qzn s k (by omega)];exact .refl _
theorem kzl{α:Type}{c:α->List AVal}{n k:Nat}{x:α}(h:k<n):qzd c (List.replicate n x) k=c x:=qzo (by simp[h])
theorem qzdm{α:Type}{c:α->List AVal}{l:List α}{i k:Nat}{x:α}(h:i<l.length):qzd c (l.set i x) k=if k=i then c x else qzd c l k:=by
 unfold qzd;rw[Gbl];by_cases e:i=k
 ·subst e;simp[h]
 ·rw[Gd3 e,Gd3 (fun e'=>e e'.symm)]
def keqI(a b:Int):Bool:=decide (a=b)
def mget{α β:Type}(eq:α->α->Bool):List (α×β)->α->Option β
 |[],_=>none
 |p :: l,k=>match eq k p.1 with
  |true=>some p.2
  |false=>mget eq l k
def mput{α β:Type}(eq:α->α->Bool):List (α×β)->α->β->List (α×β)
 |[],k,v=>[(k,v)]
 |p :: l,k,v=>match eq k p.1 with
  |true=>(k,v) :: l
  |false=>p :: mput eq l k v
def wz20{α O ω:Type}(body:α->O->Option (O⊕ω)):List α->O->Option (O⊕ω)
 |[],s=>some (.inl s)
 |x :: l,s=>match body x s with
  |some (.inl s')=>wz20 body l s'
  |some (.inr o)=>some (.inr o)
  |none=>none
def wz4k{α O ω:Type}(body:α->O->Option (O⊕ω))(l:List α)(s:O):Option Bool:=match wz20 body l s with
 |some (.inl _)=>some false
 |some (.inr _)=>some true
 |none=>none
open Go.Sort Go.Proofs Go.Shelf
theorem ATr.sub{E:Nat->AVal}{P:Program}{f:FuncId}{args:List AVal}{h:qzl}{R R':AVal->qzl->Prop}(H:ATr E P f args h R)(hr:∀r h',R r h'->∃h'',R' r h''/\∀i,OSub (h' i) (h'' i)):ATr E P f args h R' :=
 fun g w vs hh hv=>(H g w vs hh hv).mono fun _ _ ⟨g',h',r,v,q,e,rv,hr',st⟩=>by obtain⟨h'',q',s⟩:=hr r h' q;exact⟨g',h'',r,v,q',e,rv,hr'.sub s,st.sub s⟩
end Go.Am

