/- Part X1: functions of plain values and the rules by which a walk follows them. No condition. -/
import Derived.Test.YtomegmhiddbmbaaGreatDoorA5
set_option linter.unusedSimpArgs false
set_option linter.unusedVariables false
namespace Go.Am
def Ok{U:Type}:Option U->(U->Prop)->Prop
 |some a,P=>P a
 |none,_=>False
def ck{U:Type}:Bool->Option U->Option U
 |true,x=>x
 |false,_=>none
def bd{U β:Type}:Option U->(U->Option β)->Option β
 |some a,k=>k a
 |none,_=>none
def at?{U:Type}(l:List U)(j:Int):Option U:=match decide (0<=j) with
 |true=>l[j.toNat]?
 |false=>none
def gd{U:Type}[Inhabited U]:Bool->Option U->Option U
 |true,x=>x
 |false,_=>some default
def ite'{U:Type}:Bool->Option U->Option U->Option U
 |true,x,_=>x
 |false,_,y=>y
def lpN{O ω:Type}(body:O->Option (O⊕ω)):Nat->O->Option ω
 |0,_=>none
 |n+1,s=>match body s with
  |some (.inl s')=>lpN body n s'
  |some (.inr o)=>some o
  |none=>none
def lp{O ω:Type}(body:O->Option (O⊕ω))(s:O):Option ω:=lpN body 4611686018427387904 s
theorem Ok.some{U:Type}{a:U}{P:U->Prop}(h:Ok (some a) P):P a:=h
theorem Ok.ex{U β:Type}{x:Option U}{k:U->Option β}{P:β->Prop}(h:Ok (Am.bd x k) P):∃a,x=Option.some a/\Ok (k a) P:=by
 cases x
 ·exact h.elim
 ·exact⟨_,rfl,h⟩
theorem qzlv{U:Type}{l:List U}{j:Int}{x:U}(h:at? l j=some x):0<=j/\j<l.length/\l[j.toNat]?=some x:=by
 unfold at? at h;by_cases hj:0<=j
 ·rw[Bt hj]at h;refine⟨hj,?_,h⟩;obtain⟨h1,_⟩:=AU.1 h;omega
 ·rw[BE hj]at h;cases h
theorem Ok.no{U:Type}{P:U->Prop}{Q:Prop}(h:Ok (none:Option U) P):Q:=h.elim
theorem Ok.of{U:Type}{x:Option U}{a:U}(h:x=Option.some a):Ok x (fun b=>b=a):=by rw[h];rfl
theorem Ev{O ω:Type}{body:O->Option (O⊕ω)}(I:O->Prop)(J:O->Nat)(R:ω->Prop)(step:∀s,I s->(∃s',body s=some (.inl s')/\I s'/\J s'<J s)\/(∃o,body s=some (.inr o)/\R o)) {s:O} (h:I s) (hb:J s<4611686018427387904):∃o,lp body s=some o/\R o:=by
 have key:∀(n:Nat) (s:O),I s->J s<n->∃o,lpN body n s=some o/\R o:=by
  intro n;induction n with
  |zero=>intro s _ h;omega
  |succ n ih =>
   intro s hs hn;rcases step s hs with ⟨s',e,bi,hm⟩|⟨o,e,ho⟩
   ·obtain⟨o,e2,ho⟩:=ih s' bi (by omega);exact⟨o,by unfold lpN;rw[e];exact e2,ho⟩
   ·exact⟨o,by unfold lpN;rw[e],ho⟩
 exact key _ s h hb
theorem OZ{O ω:Type}{body:O->Option (O⊕ω)}(I:O->Prop)(J:O->Nat)(o:ω)(step:∀s,I s->(∃s',body s=some (.inl s')/\I s'/\J s'<J s)\/body s=some (.inr o)) {s:O} (h:I s) (hb:J s<4611686018427387904):lp body s=some o:=by obtain⟨o',e,rfl⟩:=Ev I J (fun o'=>o'=o) (fun s hs=>(step s hs).imp id fun e=>⟨o,e,rfl⟩) h hb;exact e
theorem Mf{O ω:Type}(body:O->Option (O⊕ω))(s:O):lp body s=lpN body 4611686018427387904 s:=rfl
attribute [irreducible] lp Ok
def A0:IntKind->Int->Bool
 |.i8,n=>decide (-128<=n/\n<=127)
 |.i16,n=>decide (-32768<=n/\n<=32767)
 |.i32,n=>decide (-2147483648<=n/\n<=2147483647)
 |.i64,n=>decide (-9223372036854775808<=n/\n<=9223372036854775807)
 |_,_=>true
theorem qzr{k:IntKind}{n:Int}(h:A0 k n=true):inr k n:=by cases k<;>simp only[A0,inr,CO]at h ⊢<;>exact h
def Az{U:Type}(c:U->List Aa)(l:List U)(i:Nat):List Aa:=match l[i]? with
 |some x=>c x
 |none=>[]
def slcV{U:Type}(st:Nat)(c:U->List Aa)(l:List U):Aa:=.slc st l.length (Az c l)
theorem FH{U:Type}{c:U->List Aa}{l:List U}{i:Nat}{x:U}(h:l[i]?=some x):Az c l i=c x:=by unfold Az;rw[h]
theorem LH{U:Type}(st:Nat)(c:U->List Aa)(l:List U):slcV st c l=.slc st l.length (Az c l):=rfl
theorem Gc{U:Type}{st:Nat}{c:U->List Aa}{l:List U}(h:∀a x,x∈c a->AC x):AC (slcV st c l):=by
 refine .slc _ _ _ fun i x hi hx=>?_;unfold Az at hx;split at hx
 ·exact h _ x hx
 ·cases hx
def ownV{U:Type}(id ep:Nat):List U->Aa
 |[]=>.nils
 |x :: l=>.vec id ep 0 (l.length+1)
def ownO{U:Type}(ep st:Nat)(c:U->List Aa):List U->Ai
 |[]=>.gone ep
 |x :: l=>.vec ep st (l.length+1) (Az c (x :: l))
section
variable {E:Nat->Aa}{P:Program}{ρ:Option Nat}{Q:Exit->Ay->Prop}{S:Ay}{m m' m1:List (Nat×Aa)}{hm bu d9:List (Nat×Ai)}{n:Nat}
end
inductive W:Aa->Aa->Prop
 |top (x:Aa):W x .top
 |refl (x:Aa):W x x
 |nil (st:Nat) (f:Nat->List Aa):W .nils (.slc st 0 f)
 |agg (l l':List Aa) (hn:l.length=l'.length) (h:∀(i:Nat) (x y:Aa),l[i]?=some x->l'[i]?=some y->W x y):W (.agg l) (.agg l')
 |tup (l l':List Aa) (hn:l.length=l'.length) (h:∀(i:Nat) (x y:Aa),l[i]?=some x->l'[i]?=some y->W x y):W (.tup l) (.tup l')
 |slc (st n:Nat) (f f':Nat->List Aa) (hn:∀k,k<n->(f k).length=(f' k).length) (h:∀(k i:Nat) (x y:Aa),k<n->(f k)[i]?=some x->(f' k)[i]?=some y->W x y):W (.slc st n f) (.slc st n f')
 |cptr (f f':Nat->Aa) (n off:Nat) (h:∀j,j<n->W (f j) (f' j)):W (.cptr f n off) (.cptr f' n off)
 |fn (f nb:Nat) (l l':List Aa) (hn:l.length=l'.length) (h:∀(i:Nat) (x y:Aa),l[i]?=some x->l'[i]?=some y->W x y):W (.fn f nb l) (.fn f nb l')
theorem RV.w{g:Gh}{w:World}{x y:Aa}(h:W x y):∀{v:Value},RV g w x v->RV g w y v:=by
 induction h with
 |top x=>intro v _;exact .top v
 |refl x=>intro v hv;exact hv
 |nil st f=>intro v hv;cases hv;exact .slc0 _ _ _ _
 |agg l l' hn _ ih =>
  intro v hv;cases hv with
  |agg _ a h1 h2 =>
   refine .agg l' a (by omega) fun i y v hy hv=>?_;have hi:i<l.length:=by rw[hn];exact(AU.1 hy).1
   exact ih i _ y (AG hi) hy (h2 i _ v (AG hi) hv)
 |tup l l' hn _ ih =>
  intro v hv;cases hv with
  |tup _ a h1 h2 =>
   refine .tup l' a (by omega) fun i y v hy hv=>?_;have hi:i<l.length:=by rw[hn];exact(AU.1 hy).1
   exact ih i _ y (AG hi) hy (h2 i _ v (AG hi) hv)
 |slc st n f f' hn _ ih =>
  intro v hv;cases hv with
  |slc0=>exact .slc0 _ _ _ _
  |slc _ _ _ b off cap vals hz aQ hl hc h1 hr =>
   refine .slc st n f' b off cap vals hz aQ (fun i hi=>by rw[<-hn i hi];exact hl i hi) hc h1 fun i j y hi hy=>?_;have hj:j<(f i).length:=by rw[hn i hi];exact(AU.1 hy).1
   exact ih i j _ y hi (AG hj) hy (hr i j _ hi (AG hj))
 |cptr f f' n off _ ih =>
  intro v hv;cases hv with
  |cptr _ _ _ b base vals hz hc hr=>exact .cptr _ _ _ _ _ vals hz hc fun j hj=>ih j hj (hr j hj)
 |fn f nb l l' hn _ ih =>
  intro v hv;cases hv with
  |fn _ _ _ a h1 h2 =>
   refine .fn f nb l' a (by omega) fun i y v hy hv=>?_;have hi:i<l.length:=by rw[hn];exact(AU.1 hy).1
   exact ih i _ y (AG hi) hy (h2 i _ v (AG hi) hv)
def Ws:List Aa->List Aa->Prop
 |[],[]=>True
 |x :: l,y :: l'=>W x y/\Ws l l'
 |_,_=>False
theorem Ws.at:∀{l l':List Aa},Ws l l'->l.length=l'.length/\∀(i:Nat) (x y:Aa),l[i]?=some x->l'[i]?=some y->W x y
 |[],[],_=>⟨rfl,fun i x y h=>by simp at h⟩
 |x :: l,y :: l',h=>by
  obtain⟨h1,h2⟩:=Ws.at h.2;refine⟨by simp[h1],fun i a b ha hb=>?_⟩;cases i with
  |zero=>simp at ha hb;subst ha;subst hb;exact h.1
  |succ i=>exact h2 i a b (by simpa using ha) (by simpa using hb)
 |[],_ :: _,h=>h.elim
 |_ :: _,[],h=>h.elim
theorem Ws.of:∀{l l':List Aa},l.length=l'.length->(∀(i:Nat) (x y:Aa),l[i]?=some x->l'[i]?=some y->W x y)->Ws l l'
 |[],[],_,_=>trivial
 |x :: l,y :: l',hn,h=>⟨h 0 x y rfl rfl,Ws.of (by simpa using hn) fun i a b ha hb=>h (i+1) a b (by simpa using ha) (by simpa using hb)⟩
 |[],_ :: _,h,_=>by simp at h
 |_ :: _,[],h,_=>by simp at h
theorem Ws.refl(l:List Aa):Ws l l:=.of rfl fun i x y hx hy=>by rw[hx]at hy;cases hy;exact .refl _
theorem Ws.rvs{g:Gh}{w:World}{l l':List Aa}(h:Ws l l'){a:List Value}(hv:RVs g w l a):RVs g w l' a:=by
 obtain⟨h1,h2⟩:=h.at;refine⟨by rw[hv.1,h1],fun i y v hy co=>?_⟩;have hi:i<l.length:=by rw[h1];exact(AU.1 hy).1
 exact(hv.2 i _ v (AG hi) co).w (h2 i _ y (AG hi) hy)
theorem Gu{l l':List Aa}:W (.agg l) (.agg l')↔Ws l l':=by
 constructor
 ·intro h;cases h with
  |refl=>exact .refl _
  |agg _ _ h1 h2=>exact .of h1 h2
 ·intro h;exact .agg _ _ h.at.1 h.at.2
theorem Ht{l l':List Aa}:W (.tup l) (.tup l')↔Ws l l':=by
 constructor
 ·intro h;cases h with
  |refl=>exact .refl _
  |tup _ _ h1 h2=>exact .of h1 h2
 ·intro h;exact .tup _ _ h.at.1 h.at.2
theorem L8{k k':IntKind}{a b:Int}:W (.int k a) (.int k' b)↔k=k'/\a=b:=by
 constructor
 ·intro h;cases h;exact⟨rfl,rfl⟩
 ·rintro⟨rfl,rfl⟩;exact .refl _
theorem L9{a b:Bool}:W (.bool a) (.bool b)↔a=b:=by
 constructor
 ·intro h;cases h;rfl
 ·rintro rfl;exact .refl _
theorem LA{a b:List UInt8}:W (.str a) (.str b)↔a=b:=by
 constructor
 ·intro h;cases h;rfl
 ·rintro rfl;exact .refl _
theorem LB{st n:Nat}{f:Nat->List Aa}:W .nils (.slc st n f)↔n=0:=by
 constructor
 ·intro h;cases h;rfl
 ·rintro rfl;exact .nil _ _
theorem ED{st st' n n':Nat}{f f':Nat->List Aa}:W (.slc st n f) (.slc st' n' f')↔st=st'/\n=n'/\∀k,k<n->Ws (f k) (f' k):=by
 constructor
 ·intro h;cases h with
  |refl=>exact⟨rfl,rfl,fun k _=>.refl _⟩
  |slc _ _ _ _ h1 h2=>exact⟨rfl,rfl,fun k hk=>.of (h1 k hk) (fun i x y=>h2 k i x y hk)⟩
 ·rintro⟨rfl,rfl,h⟩;exact .slc _ _ _ _ (fun k hk=>(h k hk).at.1) (fun k i x y hk=>(h k hk).at.2 i x y)
theorem L6{x:Aa}:W x x↔True:=⟨fun _=>trivial,fun _=>.refl x⟩
theorem L7{x:Aa}:W x .top↔True:=⟨fun _=>trivial,fun _=>.top x⟩
theorem LE:Ws [] []↔True:=Iff.rfl
theorem LF{x y:Aa}{l l':List Aa}:Ws (x :: l) (y :: l')↔W x y/\Ws l l':=Iff.rfl
theorem LG{l:List Aa}:Ws l l↔True:=⟨fun _=>trivial,fun _=>.refl l⟩
def WO(o:Ai):Ai->Prop
 |.gone e=>e=o.ep
 |.box e l=>∃l0,o=.box e l0/\Ws l0 l
 |.vec e st n f=>∃f0,o=.vec e st n f0/\∀k,k<n->Ws (f0 k) (f k)
 |o'=>o'=o
theorem Hu{e:Nat}{o:Ai}:WO o (.gone e)↔e=o.ep:=Iff.rfl
theorem D3{e e':Nat}{l l':List Aa}:WO (.box e l) (.box e' l')↔e=e'/\Ws l l':=by
 constructor
 ·rintro⟨l0,h,h'⟩;cases h;exact⟨rfl,h'⟩
 ·rintro⟨rfl,h⟩;exact⟨_,rfl,h⟩
theorem IS{e e' st st' n n':Nat}{f f':Nat->List Aa}:WO (.vec e st n f) (.vec e' st' n' f')↔e=e'/\st=st'/\n=n'/\∀k,k<n->Ws (f k) (f' k):=by
 constructor
 ·rintro⟨f0,h,h'⟩;cases h;exact⟨rfl,rfl,rfl,h'⟩
 ·rintro⟨rfl,rfl,rfl,h⟩;exact⟨_,rfl,h⟩
theorem Bh{o:Ai}:WO o o↔True:=⟨fun _=>trivial,fun _=>by
 cases o with
 |box e l=>exact⟨_,rfl,.refl _⟩
 |vec e st n f=>exact⟨_,rfl,fun _ _=>.refl _⟩
 |_=>rfl⟩
theorem WO.owned{o o':Ai}(h:WO o o')(ho:o'.owned=true):o.owned=true:=by
 cases o' with
 |gone e=>cases ho
 |box e l=>obtain⟨l0,rfl,_⟩:=h;rfl
 |vec e st n f=>obtain⟨f0,rfl,_⟩:=h;rfl
 |loop=>have h:_=o:=h;rw[<-h];rfl
 |dfr=>have h:_=o:=h;rw[<-h];rfl
 |amap=>have h:_=o:=h;rw[<-h];rfl
 |miter=>have h:_=o:=h;rw[<-h];rfl
theorem WO.ep{o o':Ai}(h:WO o o'):o'.ep=o.ep:=by
 cases o' with
 |gone e=>exact h
 |box e l=>obtain⟨l0,rfl,_⟩:=h;rfl
 |vec e st n f=>obtain⟨f0,rfl,_⟩:=h;rfl
 |loop=>have h:_=o:=h;rw[<-h]
 |dfr=>have h:_=o:=h;rw[<-h]
 |amap=>have h:_=o:=h;rw[<-h]
 |miter=>have h:_=o:=h;rw[<-h]
theorem WO.or{g:Gh}{w:World}{i:Nat}{o o':Ai}(h:WO o o')(hO:OR g w i o):OR g w i o':=by
 cases o' with
 |gone e=>trivial
 |box e l =>obtain⟨l0,rfl,hw⟩:=h;obtain⟨arr,ty,hh,hr⟩:=hO;exact⟨arr,ty,hh,hw.rvs hr⟩
 |vec e st n f =>
  obtain⟨f0,rfl,hw⟩:=h;obtain⟨e2,e3,e4,arr,ty,hh,hs,hr⟩:=hO;refine⟨e2,e3,e4,arr,ty,hh,hs,fun k hk=>?_⟩;obtain⟨h1,h2⟩:=(hw k hk).at;refine⟨by rw[<-h1];exact(hr k hk).1,fun j y v hy hv=>?_⟩;have hj:j<(f0 k).length:=by rw[h1];exact(AU.1 hy).1
  obtain⟨p,q⟩:=(hr k hk).2 j _ v (AG hj) hv;exact⟨p,q.w (h2 j _ y (AG hj) hy)⟩
 |loop=>have h:_=o:=h;rw[h];exact hO
 |dfr=>have h:_=o:=h;rw[h];exact hO
 |amap=>have h:_=o:=h;rw[h];exact hO
 |miter=>have h:_=o:=h;rw[h];exact hO
theorem HR.wk{E:Nat->Aa}{g:Gh}{h h':Ax}{w:World}(H:HR E g h w)(s:∀i,WO (h i) (h' i)):HR E g h' w := ⟨fun i=>(s i).or (H.obj i),fun i=>by rw[H.ep i,(s i).ep],fun i j hi hj e=>H.inj i j ((s i).owned hi) ((s j).owned hj) e,fun i hi=>H.sep i ((s i).owned hi),H.fzb,H.glob⟩
def wm(m:List (Nat×Aa)):List (Nat×Aa)->Prop
 |[]=>True
 |p :: r=>W (look m p.1) p.2/\wm m r
theorem qzvp{g:Gh}{w:World}{m:List (Nat×Aa)}:∀{r:List (Nat×Aa)},wm m r->∀i v,RV g w (look m i) v->RV g w (look r i) v
 |[],_,i,v,_=>.top v
 |p :: r,h,i,v,hv=>by
  simp only[look];split
  ·rename_i e;subst e;exact hv.w h.1
  ·exact qzvp h.2 i v hv
theorem wzds{g:Gh}{w:World}{m m':List (Nat×Aa)}{n:Nat}{a:List Value}(h:wm m m')(hv:RVs g w (tl m n) a):RVs g w (tl m' n) a:=by
 refine⟨by rw[hv.1,CX,CX],fun i x v hx hy=>?_⟩;rw[DS]at hx;split at hx
 ·rename_i hi;simp only[AZ]at hx;subst hx;exact qzvp h i v (hv.2 i _ v (by rw[DS,Aq hi]) hy)
 ·cases hx
def wh(m:List (Nat×Ai)):List (Nat×Ai)->Prop
 |[]=>True
 |p :: r=>WO (DR m p.1) p.2/\wh m r
theorem qzv0{m:List (Nat×Ai)}:∀{r:List (Nat×Ai)},wh m r->∀i,r.any (fun q=>q.1==i)=true->WO (DR m i) (DR r i)
 |[],_,i,h=>by simp at h
 |p :: r,h,i,hi=>by
  simp only[DR];split
  ·rename_i e;subst e;exact h.1
  ·rename_i e;refine qzv0 h.2 i ?_;simpa [e] using hi
theorem qz9j{m m':List (Nat×Ai)}(h:wh m m')(hk:JY m m'=true)(i:Nat):WO (hl m i) (hl m' i):=by
 show WO (DR m i) (DR m' i);by_cases h1:m'.any (fun q=>q.1==i)=true
 ·exact qzv0 h i h1
 ·have h2:m.all (fun p=>!(p.1==i))=true:=by
   rw[Dw];intro p hp;unfold JY at hk;rw[Dw]at hk;have:=hk p hp;cases e:(p.1==i)
   ·rfl
   ·exfalso;have e':p.1=i:=(by simpa using e);subst e';exact h1 this
  rw[NU h2,NU (by
   rw[Dw];intro p hp;cases e:(p.1==i)
   ·rfl
   ·exfalso;exact h1 (List.any_eq_true.2 ⟨p,hp,e⟩))]
  exact Bh.2 trivial
section
variable {E:Nat->Aa}{P:Program}{ρ:Option Nat}{Q:Exit->Ay->Prop}{S:Ay}{m m' m1:List (Nat×Aa)}{hm bu d9:List (Nat×Ai)}{n:Nat}
theorem See.wk(h1:wm m m')(h2:wh hm bu)(h3:JY hm bu=true):See E ⟨tl m n,hl hm,[]⟩ ⟨tl m' n,hl bu,[]⟩:=by intro g a w hs;have hH:=hs.hr.wk (qz9j h2 h3);exact⟨g,⟨hH,wzds h1 hs.tm,hs.df,(by intro D hD;cases hD),hs.dn⟩,⟨.refl _ _,rfl,rfl,rfl,AD _,fun _ _ _=>rfl,fun i ho=>.inl ⟨i,(qz9j h2 h3 i).owned ho,rfl⟩,fun _ h=>.inl h,AD _⟩⟩
def Fin(m':List (Nat×Aa))(bu:List (Nat×Ai))(n:Nat)(S:Ay):Prop:=∃m1 d9,S=⟨tl m1 n,hl d9,[]⟩/\wm m1 m'/\wh d9 bu/\JY d9 bu=true
theorem Fin.mk(h1:wm m m')(h2:wh hm bu)(h3:JY hm bu=true):Fin m' bu n ⟨tl m n,hl hm,[]⟩:=⟨m,hm,rfl,h1,h2,h3⟩
def FinD(pr:List (List Nat))(m':List (Nat×Aa))(bu:List (Nat×Ai))(n:Nat)(S:Ay)(tr:List (List Nat×Option Nat)):Prop:=hpOk pr tr=true/\Fin m' bu n S
theorem Fin.see(h:Fin m' bu n S):See E S ⟨tl m' n,hl bu,[]⟩:=by obtain⟨m1,d9,rfl,a,b,c⟩:=h;exact .wk a b c
theorem AW.rS(m':List (Nat×Aa))(bu:List (Nat×Ai)){ops:List As}{pr:List (List Nat)}{b:AX}(h:areg E P ops ⟨tl m n,hl hm,[]⟩ (Fin m' bu n))(k:AW E ρ P b Q ⟨tl m' n,hl bu,[]⟩):AW E ρ P (.seq (.reg false ops pr) b) Q ⟨tl m n,hl hm,[]⟩ :=
 .seq (.reg (h.mono fun S' e=>.see e.see k))
theorem AW.dS(m':List (Nat×Aa))(bu:List (Nat×Ai)){ops:List As}{pr:List (List Nat)}{b:AX}(h:dreg E P ops ⟨tl m n,hl hm,[]⟩ (FinD pr m' bu n))(k:AW E ρ P b Q ⟨tl m' n,hl bu,[]⟩):AW E ρ P (.seq (.reg true ops pr) b) Q ⟨tl m n,hl hm,[]⟩ :=
 .seq (.draw (h.mono fun S' tr e=>⟨e.1,.see e.2.see k⟩))
theorem ATr.w{f:FuncId}{args args':List Aa}{h:Ax}{R:Aa->Ax->Prop}(H:ATr E P f args' h R)(ha:Ws args args'):ATr E P f args h R :=
 fun g w vs hh hv=>H g w vs hh (ha.rvs hv)
theorem AY.w{f:FuncId}{args args':List Aa}{r:Aa}(H:AY E P f args' r)(ha:Ws args args'):AY E P f args r:=fun h=>(H h).w ha
theorem AY.ca{f:FuncId}{args args':List Aa}{r:Aa}(H:AY E P f args' r)(ha:Ws args args'){h:Ax}{K:Aa->Ax->Prop}(k:K r h):ATr E P f args h K:=(H.w ha).call k
theorem AY.cd{f:FuncId}{args args':List Aa}{r:Aa}(H:AY E P f args' r)(ha:Ws args args'){h:Ax}{K:Aa->List Nat->Prop}(k:K r []):FF E P f args h K:=⟨r,[],(H.w ha).on h [],k⟩
theorem AW.rt{rs:List ARes}{r:Aa}(m':List (Nat×Aa))(bu:List (Nat×Ai))(h1:wm m m')(h2:wh hm bu)(h3:JY hm bu=true)(hq:Q .ret=Post E rs (fun v _=>v=r) .ret)(aB:FD ⟨tl m' n,hl bu,[]⟩ rs)(hR:Gb ⟨tl m' n,hl bu,[]⟩ rs=r):AW E ρ P .ret Q ⟨tl m n,hl hm,[]⟩ :=
 .rets hq (.wk h1 h2 h3) aB hR
end
def cI(k:IntKind)(n:Int):List Aa:=[.int k n]
def cB(b:Bool):List Aa:=[.bool b]
def cS(s:List UInt8):List Aa:=[.str s]
def cL{U:Type}(st:Nat)(c:U->List Aa)(l:List U):List Aa:=[slcV st c l]
theorem NW{k:IntKind}{n:Int}:∀v,v∈cI k n->AC v:=by simp[cI,Ho]
theorem IQ{b:Bool}:∀v,v∈cB b->AC v:=by simp[cB,Hq]
theorem IR{s:List UInt8}:∀v,v∈cS s->AC v:=by simp[cS,Hr]
theorem wzts{U:Type}{st:Nat}{c:U->List Aa}(h:∀a v,v∈c a->AC v){l:List U}:∀v,v∈cL st c l->AC v:=by intro v hv;simp only[cL,CM]at hv;subst hv;exact Gc h
def Dv{U:Type}(l:List U)(lo hi:Int):Bool:=decide (0<=lo)&&decide (lo<=hi)&&decide (hi<=l.length)
def sub{U:Type}(l:List U)(lo hi:Int):List U:=(l.drop lo.toNat).take (hi-lo).toNat
theorem Qu{U:Type}{l:List U}{lo hi:Int}(h:Dv l lo hi=true):0<=lo/\lo<=hi/\hi<=l.length:=by simpa [Dv,and_assoc] using h
theorem wzwp{U:Type}{st:Nat}{c:U->List Aa}{l:List U}{lo hi:Int}(h:Dv l lo hi=true):W (.slc st (hi-lo).toNat (fun k=>Az c l (lo.toNat+k))) (slcV st c (sub l lo hi)):=by
 obtain⟨h1,h2,h3⟩:=Qu h;have aF:(sub l lo hi).length=(hi-lo).toNat:=by simp only[sub,Iu,Nv];omega
 rw[LH,ED];refine⟨rfl,aF.symm,fun k hk=>?_⟩;have:Az c (sub l lo hi) k=Az c l (lo.toNat+k):=by unfold Az sub;rw[List.getElem?_take_of_lt hk,Im]
 rw[this];exact .refl _
theorem vzn{U:Type}{l:List U}{lo hi:Int}(h:Dv l lo hi=true):(sub l lo hi).length=(hi-lo).toNat:=by obtain⟨h1,h2,h3⟩:=Qu h;simp only[sub,Iu,Nv];omega
theorem yzt{U:Type}{c:U->List Aa}{l m:List U}{k:Nat}:Az c (l++m) k=if k<l.length then Az c l k else Az c m (k-l.length):=by
 unfold Az;by_cases h:k<l.length
 ·rw[FU h,Aq h]
 ·rw[Ir (by omega),Ak h]
theorem LI{U:Type}{c:U->List Aa}{a:U}{l:List U}:Az c (a :: l) 0=c a:=rfl
theorem LJ{U:Type}{c:U->List Aa}{a b:U}{l:List U}:Az c (a :: b :: l) 1=c b:=rfl
theorem LK{U:Type}{c:U->List Aa}{a b d:U}{l:List U}:Az c (a :: b :: d :: l) 2=c d:=rfl
theorem LL{U:Type}{c:U->List Aa}{a b d e:U}{l:List U}:Az c (a :: b :: d :: e :: l) 3=c e:=rfl
theorem Mc{U:Type}{c:U->List Aa}{l:List U}{e e' st:Nat}:WO (ownO e st c l) (.gone e')↔e'=e:=by cases l<;>exact Iff.rfl
theorem LC{i e o n i' e' o' n':Nat}:W (.vec i e o n) (.vec i' e' o' n')↔i=i'/\e=e'/\o=o'/\n=n':=by
 constructor
 ·intro h;cases h;exact⟨rfl,rfl,rfl,rfl⟩
 ·rintro⟨rfl,rfl,rfl,rfl⟩;exact .refl _
theorem LD{i e o i' e' o':Nat}:W (.ptr i e o) (.ptr i' e' o')↔i=i'/\e=e'/\o=o':=by
 constructor
 ·intro h;cases h;exact⟨rfl,rfl,rfl⟩
 ·rintro⟨rfl,rfl,rfl⟩;exact .refl _
theorem w_fn{f f':FuncId}{n n':Nat}{c c':List Aa}:W (.fn f n c) (.fn f' n' c')↔f=f'/\n=n'/\Ws c c':=by
 constructor
 ·intro h;cases h with
  |refl=>exact⟨rfl,rfl,.refl _⟩
  |fn _ _ _ _ hn h=>exact⟨rfl,rfl,.of hn h⟩
 ·rintro⟨rfl,rfl,h⟩;exact .fn _ _ _ _ h.at.1 h.at.2
theorem LM{U:Type}{id ep:Nat}{x:U}{l:List U}:ownV id ep (x :: l)=.vec id ep 0 (l.length+1):=rfl
theorem LN{U:Type}{id ep:Nat}:ownV (U:=U) id ep []=.nils:=rfl
theorem LO{U:Type}{ep st:Nat}{c:U->List Aa}{x:U}{l:List U}:ownO ep st c (x :: l)=.vec ep st (l.length+1) (Az c (x :: l)):=rfl
theorem LP{U:Type}{ep st:Nat}{c:U->List Aa}:ownO ep st c []=.gone ep:=rfl
def fzm(id:Nat)(o:Ai)(m:List (Nat×Aa)):List (Nat×Aa):=m.map fun p=>(p.1,fzv id o p.2)
def fzh(id:Nat)(o:Ai)(m:List (Nat×Ai)):List (Nat×Ai):=m.map fun p=>(p.1,fzo id o p.2)
section
variable {E:Nat->Aa}{P:Program}{ρ:Option Nat}{Q:Exit->Ay->Prop}{S:Ay}{m m' m1:List (Nat×Aa)}{hm bu d9:List (Nat×Ai)}{n:Nat}
theorem HR.bump{g:Gh}{h:Ax}{w:World}{id e:Nat}(H:HR E g h w)(hid:h id=.gone e):∃g',HR E g' (hset h id (.gone (e+1))) w/\GLe g w g' w/\(∀i,g'.blk i=g.blk i)/\g'.fz=g.fz/\∀i,i≠id->g'.ep i=g.ep i:=by
 let g':Gh:=⟨g.blk,fun i=>if i=id then e+1 else g.ep i,g.bo,g.st,g.cp,g.fz⟩
 have aD:GLe g w g' w:=⟨fun b hb=>⟨hb,rfl⟩,fun i=>by
  show g.ep i<=if i=id then e+1 else g.ep i;split
  ·rename_i e';subst e';have:=H.ep i;rw[hid]at this;simp only[Ai.ep]at this;omega
  ·exact AD _,fun i _=>⟨rfl,rfl,rfl,rfl⟩⟩
 refine⟨g',⟨fun i=>?_,fun i=>?_,fun i j hi hj=>?_,fun i hi=>?_,H.fzb,fun i=>(H.glob i).mono aD⟩,aD,fun i=>rfl,rfl,fun i hi=>by show(if i=id then e+1 else g.ep i)=_;rw[Ak hi]⟩
 ·by_cases hi:i=id;·subst hi;simp only[hset,BK];trivial
  ·simp only[hset,Ak hi];exact(H.obj i).mono aD (by show(if i=id then e+1 else g.ep i)=_;rw[Ak hi]) (fun _=>rfl)
 ·by_cases hi:i=id;·subst hi;simp only[hset,BK];show(if i=i then e+1 else _)=_;rw[Aq rfl];rfl
  ·simp only[hset,Ak hi];show(if i=id then e+1 else g.ep i)=_;rw[Ak hi];exact H.ep i
 ·have bf:i≠id:=fun e'=>by subst e';simp[hset,Ai.owned]at hi
  have aV:j≠id:=fun e'=>by subst e';simp[hset,Ai.owned]at hj
  simp only[hset,Ak bf]at hi;simp only[hset,Ak aV]at hj;exact H.inj i j hi hj
 ·have bf:i≠id:=fun e'=>by subst e';simp[hset,Ai.owned]at hi
  simp only[hset,Ak bf]at hi;exact H.sep i hi
end
section
variable {E:Nat->Aa}{P:Program}{ρ:Option Nat}{Q:Exit->Ay->Prop}{S:Ay}{m m' m1:List (Nat×Aa)}{hm bu d9:List (Nat×Ai)}{n:Nat}{ops:List As}{K:Ay->Prop}
end
def Ca{U:Type}(l:List U)(i:Nat)(new:List U):List U:=l.take i++new++l.drop (i+new.length)
theorem MA{U:Type}{l:List U}{i:Nat}{new:List U}(h:i+new.length<=l.length):(Ca l i new).length=l.length:=by simp only[Ca,Dx,Iu,Nv];omega
theorem qzf6{U:Type}{c:U->List Aa}{l:List U}{i k:Nat}{new:List U}(h:i+new.length<=l.length):Az c (Ca l i new) k=if i<=k/\k<i+new.length then Az c new (k-i) else Az c l k:=by
 unfold Az Ca;rw[yzx l new i k h];by_cases h1:k<i
 ·rw[Aq h1,Ak (by omega)]
 ·rw[Ak h1];by_cases h2:k<i+new.length
  ·rw[Aq h2,Aq ⟨by omega,h2⟩]
  ·rw[Ak h2,Ak (by omega)]
theorem qzfj{U:Type}{c:U->List Aa}{l:List U}{n k:Nat}(h:k<n):Az c (l.take n) k=Az c l k:=by unfold Az;rw[List.getElem?_take_of_lt h]
def FnOk(E:Nat->Aa)(P:Program)(f:FuncId)(nb:Nat)(caps:List Aa)(args:List Aa)(r:Aa):Prop:=Ci P f=true/\AY E P f (fnArgs nb args caps) r
theorem L0{n:Int}:inr .u8 n=True:=rfl
theorem L2{n:Int}:inr .u16 n=True:=rfl
theorem L3{n:Int}:inr .u32 n=True:=rfl
theorem L5{n:Int}:inr .u64 n=True:=rfl
theorem Lz{x:Aa}:unc false x=True:=by cases x<;>simp[unc]
theorem Lp{c p q:Bool}:Cy c (.bool p) (.bool q)=.when (unc c (.bool p)/\unc (!c) (.bool q)) (.bool (bif c then p else q)):=rfl
theorem Lq{c d p q:Bool}:Cy c (.cnd d (.bool p)) (.bool q)=.when (unc c (.cnd d (.bool p))/\unc (!c) (.bool q)) (.bool (bif c then p else q)):=rfl
theorem Lr{c d p q:Bool}:Cy c (.bool p) (.cnd d (.bool q))=.when (unc c (.bool p)/\unc (!c) (.cnd d (.bool q))) (.bool (bif c then p else q)):=rfl
theorem Ls{c d d' p q:Bool}:Cy c (.cnd d (.bool p)) (.cnd d' (.bool q))=.when (unc c (.cnd d (.bool p))/\unc (!c) (.cnd d' (.bool q))) (.bool (bif c then p else q)):=rfl
theorem Lt{c:Bool}{k:IntKind}{p q:Int}:Cy c (.int k p) (.int k q)=.when (unc c (.int k p)/\unc (!c) (.int k q)) (.int k (bif c then p else q)):=by simp[Cy,unv]
theorem Lu{x:Aa}{q:Bool}:Cy false x (.bool q)=.when (unc false x/\unc true (.bool q)) (.bool q):=by
 unfold Cy;split
 ·rename_i h1 h2;simp only[unv,Aa.bool.injEq]at h2;subst h2;rfl
 ·rename_i h1 h2;simp[unv]at h2
 ·rfl
theorem Lv{x:Aa}{d q:Bool}:Cy false x (.cnd d (.bool q))=.when (unc false x/\unc true (.cnd d (.bool q))) (.bool q):=by
 unfold Cy;split
 ·rename_i h1 h2;simp only[unv,Aa.bool.injEq]at h2;subst h2;rfl
 ·rename_i h1 h2;simp[unv]at h2
 ·rfl
theorem Lw{y:Aa}{p:Bool}:Cy true (.bool p) y=.when (unc true (.bool p)/\unc false y) (.bool p):=by
 unfold Cy;split
 ·rename_i h1 h2;simp only[unv,Aa.bool.injEq]at h1;subst h1;rfl
 ·rename_i h1 h2;simp[unv]at h1
 ·rfl
theorem Lx{y:Aa}{d p:Bool}:Cy true (.cnd d (.bool p)) y=.when (unc true (.cnd d (.bool p))/\unc false y) (.bool p):=by
 unfold Cy;split
 ·rename_i h1 h2;simp only[unv,Aa.bool.injEq]at h1;subst h1;rfl
 ·rename_i h1 h2;simp[unv]at h1
 ·rfl
theorem LQ{id:Nat}{o:Ai}{e:Nat}{l:List Aa}:fzo id o (.box e l)=.box e (fzl id o l):=rfl
theorem LR{id:Nat}{o:Ai}{e:Nat}:fzo id o (.gone e)=.gone e:=rfl
theorem LS{id:Nat}{o:Ai}{e st n:Nat}{f:Nat->List Aa}:fzo id o (.vec e st n f)=.vec e st n f:=rfl
theorem LT{U:Type}{id:Nat}{o:Ai}{e st:Nat}{c:U->List Aa}{l:List U}:fzo id o (ownO e st c l)=ownO e st c l:=by cases l<;>rfl
theorem LU{U:Type}{id id':Nat}{o:Ai}{e:Nat}{l:List U}(h:id'≠id):fzv id o (ownV id' e l)=ownV id' e l:=by
 cases l with
 |nil=>rfl
 |cons x l=>show(if id'=id then _ else Aa.vec id' e 0 (l.length+1))=_;rw[Ak h];rfl
theorem LV{p:Nat->Prop}:(∀k,k<0->p k)↔True:=by simp
theorem LW{p:Nat->Prop}:(∀k,k<1->p k)↔p 0:=by
 refine⟨fun h=>h 0 (by omega),fun h k hk=>?_⟩;obtain rfl:k=0:=by omega
 exact h
theorem LX{p:Nat->Prop}:(∀k,k<2->p k)↔p 0/\p 1:=⟨fun h=>⟨h 0 (by omega),h 1 (by omega)⟩,fun h k hk=>by
 rcases(show k=0\/k=1 by omega) with rfl|rfl
 ·exact h.1
 ·exact h.2⟩
theorem LY{p:Nat->Prop}:(∀k,k<3->p k)↔p 0/\p 1/\p 2:=⟨fun h=>⟨h 0 (by omega),h 1 (by omega),h 2 (by omega)⟩,fun h k hk=>by
 rcases(show k=0\/k=1\/k=2 by omega) with rfl|rfl|rfl
 ·exact h.1
 ·exact h.2.1
 ·exact h.2.2⟩
theorem LZ{p:Nat->Prop}:(∀k,k<4->p k)↔p 0/\p 1/\p 2/\p 3:=⟨fun h=>⟨h 0 (by omega),h 1 (by omega),h 2 (by omega),h 3 (by omega)⟩,fun h k hk=>by
 rcases(show k=0\/k=1\/k=2\/k=3 by omega) with rfl|rfl|rfl|rfl
 ·exact h.1
 ·exact h.2.1
 ·exact h.2.2.1
 ·exact h.2.2.2⟩
def bytes(s:List UInt8):List Int:=s.map fun b=>(b.toNat:Int)
def CF(l:List Int):List UInt8:=l.map fun n=>UInt8.ofNat n.toNat
def BP(s:List UInt8)(j:Int):Bool:=decide (0<=j)&&decide (j<s.length)
theorem qznu{s:List UInt8}{j:Int}(h:BP s j=true):0<=j/\j<s.length:=by simpa [BP] using h
def mkOk(n:Int)(b:Nat):Bool:=decide (0<=n)&&decide (n*b<=140737488355328)
theorem qztk{n:Int}{b:Nat}(h:mkOk n b=true):0<=n/\n*b<=140737488355328:=by simpa [mkOk] using h
theorem Gv:∀(l:List Int),DN l.length (Az (cI .u8) l)=some (CF l)
 |[]=>rfl
 |n :: l=>by have ih:=Gv l;show(match Az (cI .u8) (n :: l) 0 with | [.int .u8 m]=>(DN l.length fun k=>Az (cI .u8) (n :: l) (k+1)).map (UInt8.ofNat m.toNat :: ·) | _=>none)=_;have e:(fun k=>Az (cI .u8) (n :: l) (k+1))=Az (cI .u8) l:=rfl;rw[e,ih];rfl
theorem Ma{f:Nat->List Aa}{m:Int}(h:f 0=[.int .u8 m]):DN 1 f=some [UInt8.ofNat m.toNat]:=by unfold DN;rw[h];rfl
theorem Mb{m:Int}:CF [m]=[UInt8.ofNat m.toNat]:=rfl
theorem qzcs(s:List UInt8):(bytes s).length=s.length:=by simp[bytes]
theorem qzn(s:List UInt8)(k:Nat)(hk:k<s.length):Az (cI .u8) (bytes s) k=[.int .u8 (BM s k)]:=by
 have e:(bytes s)[k]?=some (BM s k):=by simp only[bytes,Gf,AG hk,Ej,BM,CL,Nu,Nz]
 rw[FH e];rfl
theorem wzvm{s:List UInt8}{f:Nat->List Aa}{n:Nat}(hn:n=s.length)(hf:∀k,k<n->f k=[.int .u8 (BM s k)]):∀k,k<n->Ws (f k) (Az (cI .u8) (bytes s) k):=by intro k hk;rw[hf k hk,qzn s k (by omega)];exact .refl _
theorem kzl{U:Type}{c:U->List Aa}{n k:Nat}{x:U}(h:k<n):Az c (List.replicate n x) k=c x:=FH (by simp[h])
theorem qzdm{U:Type}{c:U->List Aa}{l:List U}{i k:Nat}{x:U}(h:i<l.length):Az c (l.set i x) k=if k=i then c x else Az c l k:=by
 unfold Az;rw[JW];by_cases e:i=k
 ·subst e;simp[h]
 ·rw[Ak e,Ak (fun e'=>e e'.symm)]
def keqI(a b:Int):Bool:=decide (a=b)
def mget{U β:Type}(eq:U->U->Bool):List (U×β)->U->Option β
 |[],_=>none
 |p :: l,k=>match eq k p.1 with
  |true=>some p.2
  |false=>mget eq l k
def mput{U β:Type}(eq:U->U->Bool):List (U×β)->U->β->List (U×β)
 |[],k,v=>[(k,v)]
 |p :: l,k,v=>match eq k p.1 with
  |true=>(k,v) :: l
  |false=>p :: mput eq l k v
def midx{U β:Type}(eq:U->U->Bool):List (U×β)->U->Nat
 |[],_=>0
 |p :: l,k=>match eq k p.1 with
  |true=>0
  |false=>midx eq l k+1
def mset{U β:Type}:List (U×β)->Nat->β->List (U×β)
 |[],_,_=>[]
 |p :: l,0,v=>(p.1,v) :: l
 |p :: l,n+1,v=>p :: mset l n v
def IY{U β:Type}(l:List (U×β))(n:Int):Bool:=decide (0<=n)&&decide (n<List.length l)
def BG{U O ω:Type}(body:U->O->Option (O⊕ω)):List U->O->Option (O⊕ω)
 |[],s=>some (.inl s)
 |x :: l,s=>match body x s with
  |some (.inl s')=>BG body l s'
  |some (.inr o)=>some (.inr o)
  |none=>none
def D5{U O ω:Type}(body:U->O->Option (O⊕ω))(l:List U)(s:O):Option Bool:=match BG body l s with
 |some (.inl _)=>some false
 |some (.inr _)=>some true
 |none=>none
def gLt{U:Type}(g:U->U->Option Int)(a b:U):Bool:=match g a b with
 |some c=>decide (c<0)
 |none=>false
def DT{U:Type}(g:U->U->Option Int)(a:U):List U->List U
 |[]=>[a]
 |b :: l=>match gLt g b a with
  |true=>b :: DT g a l
  |false=>a :: b :: l
def CD{U:Type}(g:U->U->Option Int):List U->List U
 |[]=>[]
 |a :: l=>DT g a (CD g l)
def gOk{U:Type}[DecidableEq U](g:U->U->Option Int)(l:List U):Bool:=l.all fun a=>l.all fun b=>(g a b).isSome&&!gLt g a a&&(gLt g a b||gLt g b a||decide (a=b))&&l.all fun c=>!(gLt g a b&&gLt g b c)||gLt g a c
def Mi{U:Type}[DecidableEq U](g:U->U->Option Int)(l:List U):Option (List U):=ck (gOk g l&&decide (List.length l<1000000000000)) (some (CD g l))
open Go.Sort Go.Proofs Go.Shelf
theorem ATr.sub{E:Nat->Aa}{P:Program}{f:FuncId}{args:List Aa}{h:Ax}{R R':Aa->Ax->Prop}(H:ATr E P f args h R)(hr:∀r h',R r h'->∃cH,R' r cH/\∀i,OSub (h' i) (cH i)):ATr E P f args h R' :=
 fun g w vs hh hv=>(H g w vs hh hv).mono fun _ _ ⟨g',h',r,v,q,e,rv,dH,st⟩=>by obtain⟨cH,q',s⟩:=hr r h' q;exact⟨g',cH,r,v,q',e,rv,dH.sub s,st.sub s⟩
theorem wzcu{U:Type}[Inhabited U]{E:Nat->Aa}{P:Program}{ρ:Ren}(Ly:SlLaysE.n35 P ρ)(cs:U->Aa)(enc:U->Value)(h1:OneCell enc)(bt:∀g w x v,RV g w (cs x) v->v=enc x) (gp:∀g w x,RV g w (cs x) (enc x)){H:Ax} {id ep:Nat} {l:List U} (hid:H id=ownO ep 1 (fun x=>[cs x]) l) (fS:l.length<=9223372036854775807) :
  ATr E P (ρ.f 35) [ownV id ep l] H (fun r h'=>r=.tup []/\h'=hset H id (ownO ep 1 (fun x=>[cs x]) l.reverse)):=by
 cases l with
 |nil =>
  refine(wzdy Ly).mono ?_;rintro r h' ⟨rfl,rfl⟩;refine⟨rfl,?_⟩;funext j;simp only[hset];split
  ·rename_i e;subst e;exact hid
  ·rfl
 |cons x l =>
  have hc:∀(m:List U) j,j<m.length->Az (fun x=>[cs x]) m j=[cs m.toArray[j]!]:=by
   intro m j hj;rw[FH (AG hj)];have:j<m.toArray.size:=by simpa using hj
   rw[getElem!_pos m.toArray j this];simp
  refine(qz2n Ly cs enc h1 bt gp (l:=x :: l) (f:=Az (fun x=>[cs x]) (x :: l)) hid (by simp) (by omega) (by simpa using fS) (fun j hj=>hc _ j (by simpa using hj))).sub ?_;rintro r h' ⟨rfl,rfl⟩;refine⟨_,⟨rfl,rfl⟩,fun i=>?_⟩;simp only[hset];split
  ·obtain⟨z,zs,hz⟩:∃z zs,(x :: l).reverse=z :: zs:=by
    cases h:(x :: l).reverse with
    |nil=>simp at h
    |cons z zs=>exact⟨z,zs,rfl⟩
   have aF:zs.length=l.length:=by have:=E9 List.length hz;simp at this;omega
   refine .inr (.inr ⟨ep,1,l.length+1,_,Az (fun x=>[cs x]) (x :: l).reverse,rfl,?_,fun k hk=>?_⟩)
   ·rw[hz,<-aF];rfl
   ·exact hc _ k (by simpa using hk)
  ·exact .refl _
end Go.Am

