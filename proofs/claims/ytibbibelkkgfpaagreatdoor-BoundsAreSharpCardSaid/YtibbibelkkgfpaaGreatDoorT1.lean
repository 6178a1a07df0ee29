/- Part T1: a typed interpreter of abstract code, proved sound over the machine. No condition. -/
import Derived.Test.YtibbibelkkgfpaaGreatDoorX1
import Derived.KernelRfl
set_option linter.unusedSimpArgs false
set_option linter.unusedVariables false
namespace Go.Am
variable {t u α:Type}{a b m i e nb id nx st sz off s kd nn:Nat}{x y:Ae}{agg:Bool}{ar:Ae->Aa}{hh:Aq}{zero:List Aa}{X:Option α}
inductive CT where
 |int (k:IntKind) | bool | str
 |slc (c:CT)
 |us (i:Nat)
 |fn (i:Nat)
 |mp (k v:CT)
class TabT where
 T:Nat->Type
 E:Nat->Aa
 P:Program
 FA:Nat->Type
 FR:Nat->Type
 aA:(i:Nat)->FA i->List Aa
 aR:(i:Nat)->FR i->Aa
section
variable [TabT]
structure FnV(i:Nat) where
 f:FuncId
 nb:Nat
 caps:List Aa
 nr:∀x,x∈caps->AE x
 g:TabT.FA i->Option (TabT.FR i)
 ok:∀a r,g a=some r->FnOk TabT.E TabT.P f nb caps (TabT.aA i a) (TabT.aR i r)
def CT.T:CT->Type
 |.int _=>Int
 |.bool=>Bool
 |.str=>List UInt8
 |.slc c=>List c.T
 |.us i=>TabT.T i
 |.fn i=>FnV i
 |.mp k v=>List (k.T×v.T)
def RowC(t:Type):List CT->Type
 |[]=>t
 |d :: l=>t×RowC d.T l
def Row:List CT->Type
 |[]=>Unit
 |c :: l=>RowC c.T l
inductive SV where
 |int (k:IntKind) (n:Int) | bool (b:Bool) | str (s:List UInt8)
 |nil
 |slc (c:CT) (l:List c.T)
 |agg (l:List SV) | tup (l:List SV)
 |cptr (l:List SV) (off:Nat)
 |fn (f:FuncId) (nb:Nat) (caps:List SV)
 |fnp (i:Nat) (x:FnV i)
 |nilp
 |mpv (k v:CT) (l:List (k.T×v.T))
 |top
def CT.cast:(c c':CT)->Option (PLift (c=c'))
 |.int k,.int k'=>if h:k=k' then some ⟨by rw[h]⟩ else none
 |.bool,.bool=>some ⟨rfl⟩
 |.str,.str=>some ⟨rfl⟩
 |.slc c,.slc c'=>match CT.cast c c' with
  |some ⟨h⟩=>some ⟨by rw[h]⟩
  |none=>none
 |.us i,.us j=>if h:i=j then some ⟨by rw[h]⟩ else none
 |.fn i,.fn j=>if h:i=j then some ⟨by rw[h]⟩ else none
 |.mp k v,.mp k' v'=>match CT.cast k k',CT.cast v v' with
  |some ⟨h⟩,some ⟨h'⟩=>some ⟨by rw[h,h']⟩
  |_,_=>none
 |_,_=>none
def wzfi:(l l':List CT)->Option (PLift (l=l'))
 |[],[]=>some ⟨rfl⟩
 |c :: l,c' :: l'=>match CT.cast c c',wzfi l l' with
  |some ⟨h⟩,some ⟨k⟩=>some ⟨by rw[h,k]⟩
  |_,_=>none
 |_,_=>none
def B9(c c':CT)(l:List c.T):Option (List c'.T):=match CT.cast c c' with
 |some ⟨h⟩=>some (h▸l)
 |none=>none
def lfT:(c:CT)->c.T->SV
 |.int k,n=>.int k n
 |.bool,b=>.bool b
 |.str,s=>.str s
 |.slc c,l=>.slc c l
 |.us _,_=>.top
 |.fn i,x=>.fnp i x
 |.mp k v,x=>.mpv k v x
def II(c:CT):(l:List CT)->RowC c.T l->List SV
 |[],x=>[lfT c x]
 |d :: l,x=>lfT c x.1 :: II d l x.2
def rowS:(l:List CT)->Row l->List SV
 |[],_=>[]
 |c :: l,x=>II c l x
def ofI(k:IntKind):SV->Option Int
 |.int k' n=>if k=k' then some n else none
 |_=>none
def ofBT:SV->Option Bool
 |.bool b=>some b
 |_=>none
def IJ:SV->Option (List UInt8)
 |.str s=>some s
 |_=>none
def ofSl(c:CT):SV->Option (List c.T)
 |.slc c' l=>B9 c' c l
 |.nil=>some []
 |_=>none
def ofFn(i:Nat):SV->Option (FnV i)
 |.fnp j x=>if h:j=i then some (h▸x) else none
 |_=>none
def Rj(k v k' v':CT)(x:List (k.T×v.T)):Option (List (k'.T×v'.T)):=match CT.cast k k',CT.cast v v' with
 |some ⟨h⟩,some ⟨h'⟩=>some (h▸h'▸x)
 |_,_=>none
def ofMp(k v:CT):SV->Option (List (k.T×v.T))
 |.mpv k' v' x=>Rj k' v' k v x
 |_=>none
def ofLf:(c:CT)->SV->Option c.T
 |.int k=>ofI k
 |.bool=>ofBT
 |.str=>IJ
 |.slc c=>ofSl c
 |.us _=>fun _=>none
 |.fn i=>ofFn i
 |.mp _ _=>fun _=>none
def DJ(f:SV->Option t):List SV->Option t
 |[v]=>f v
 |_=>none
def IK(f:SV->Option t)(g:List SV->Option u):List SV->Option (t×u)
 |[]=>none
 |v :: r=>match f v,g r with
  |some a,some b=>some (a,b)
  |_,_=>none
def IL:List SV->Option Unit
 |[]=>some ()
 |_=>none
def IM(c:CT):(l:List CT)->List SV->Option (RowC c.T l)
 |[]=>DJ (ofLf c)
 |d :: l=>IK (ofLf c) (IM d l)
def Rk:(l:List CT)->List SV->Option (Row l)
 |[]=>IL
 |c :: l=>IM c l
end
class Tab extends TabT where
 ls:Nat->List CT
 mkS:(i:Nat)->Row (ls i)->T i
 unS:(i:Nat)->T i->Row (ls i)
 inh:(i:Nat)->Inhabited (T i)
 cA:(i:Nat)->T i->List Aa
 fa:Nat->List CT
 fr:Nat->List CT
 eA:(i:Nat)->Row (fa i)=FA i
 eR:(i:Nat)->Row (fr i)=FR i
 kk:Nat->Option (List Nat)
 ke:(i:Nat)->T i->T i->Bool
section
variable [Tab]
def CT.n:CT->Nat
 |.us i=>(Tab.ls i).length
 |_=>1
def CT.cA:(c:CT)->c.T->List Aa
 |.int k=>cI k
 |.bool=>cB
 |.str=>cS
 |.slc c=>cL c.n c.cA
 |.us i=>Tab.cA i
 |.fn i=>fun x=>[.fn x.f x.nb x.caps]
 |.mp _ _=>fun _=>[.top]
mutual
def A6:SV->Aa
 |.int k n=>.int k n
 |.bool b=>.bool b
 |.str s=>.str s
 |.nil=>.nils
 |.slc c l=>slcV c.n c.cA l
 |.agg l=>.agg (Ax l)
 |.tup l=>.tup (Ax l)
 |.cptr l off=>.cptr (fun k=>(Ax l).getD k .top) l.length off
 |.fn f nb l=>.fn f nb (Ax l)
 |.fnp i x=>.fn x.f x.nb x.caps
 |.nilp=>.nilp
 |.mpv _ _ _=>.top
 |.top=>.top
def Ax:List SV->List Aa
 |[]=>[]
 |x :: l=>A6 x :: Ax l
end
def FnV.no(i:Nat):FnV i:=⟨0,0,[],(fun _ h=>by cases h),fun _=>none,fun _ _ h=>by cases h⟩
instance CT.inh:(c:CT)->Inhabited c.T
 |.int _=>(inferInstance:Inhabited Int)
 |.bool=>(inferInstance:Inhabited Bool)
 |.str=>(inferInstance:Inhabited (List UInt8))
 |.slc c=>(inferInstance:Inhabited (List c.T))
 |.us i=>Tab.inh i
 |.fn i=>⟨FnV.no i⟩
 |.mp k v=>(inferInstance:Inhabited (List (k.T×v.T)))
@[reducible] def qz9a(c:CT):(l:List CT)->Inhabited (RowC c.T l)
 |[]=>c.inh
 |d :: l=>@instInhabitedProd _ _ c.inh (qz9a d l)
instance rowInh:(l:List CT)->Inhabited (Row l)
 |[]=>(inferInstance:Inhabited Unit)
 |c :: l=>qz9a c l
def wT:(c:CT)->c.T->SV
 |.int k,n=>.int k n
 |.bool,b=>.bool b
 |.str,s=>.str s
 |.slc c,l=>.slc c l
 |.us i,x=>.agg (rowS (Tab.ls i) (Tab.unS i x))
 |.fn i,x=>.fnp i x
 |.mp k v,x=>.mpv k v x
def IN(i:Nat)(l:List SV):Option (TabT.T i):=match Rk (Tab.ls i) l with
 |some r=>some (Tab.mkS i r)
 |none=>none
def ofAg(i:Nat):SV->Option (TabT.T i)
 |.agg l=>IN i l
 |_=>none
def Hb:(c:CT)->List SV->Option c.T
 |.us i=>IN i
 |.int k=>DJ (ofI k)
 |.bool=>DJ ofBT
 |.str=>DJ IJ
 |.slc c=>DJ (ofSl c)
 |.fn i=>DJ (ofFn i)
 |.mp _ _=>fun _=>none
def ofW:(c:CT)->SV->Option c.T
 |.us i=>ofAg i
 |.int k=>ofI k
 |.bool=>ofBT
 |.str=>IJ
 |.slc c=>ofSl c
 |.fn i=>ofFn i
 |.mp k v=>ofMp k v
def Hc(c:CT):(l:List CT)->RowC c.T l->List SV
 |[],x=>[wT c x]
 |d :: l,x=>wT c x.1 :: Hc d l x.2
def rowW:(l:List CT)->Row l->List SV
 |[],_=>[]
 |c :: l,x=>Hc c l x
def IP(c:CT):(l:List CT)->List SV->Option (RowC c.T l)
 |[]=>DJ (ofW c)
 |d :: l=>IK (ofW c) (IP d l)
def Nr:(l:List CT)->List SV->Option (Row l)
 |[]=>IL
 |c :: l=>IP c l
def Du:(c:CT)->c.T->List SV
 |.us i,x=>rowS (Tab.ls i) (Tab.unS i x)
 |.int k,n=>[.int k n]
 |.bool,b=>[.bool b]
 |.str,s=>[.str s]
 |.slc c,l=>[.slc c l]
 |.fn i,x=>[.fnp i x]
 |.mp k v,x=>[.mpv k v x]
def SV.cells:SV->Option (List SV)
 |.agg l=>some l
 |.tup _=>none
 |.top=>none
 |.mpv _ _ _=>none
 |x=>some [x]
def retT:(l:List CT)->Row l->SV
 |[c],x=>wT c x
 |l,x=>.tup (rowW l x)
class TabOk:Prop where
 unmk:∀(i:Nat) (r:Row (Tab.ls i)),Tab.unS i (Tab.mkS i r)=r
 cells:∀(i:Nat) (x:TabT.T i),Tab.cA i x=Ax (rowS (Tab.ls i) (Tab.unS i x))
 nor:∀(i:Nat) (x:TabT.T i) (v:Aa),v∈Tab.cA i x->AE v
 pos:∀i,∀c∈Tab.ls i,∀j,c≠.us j
 aA:∀(i:Nat) (x:Row (Tab.fa i)),TabT.aA i (cast (Tab.eA i) x)=Ax (rowW (Tab.fa i) x)
 aR:∀(i:Nat) (x:Row (Tab.fr i)),TabT.aR i (cast (Tab.eR i) x)=A6 (retT (Tab.fr i) x)
 kq:∀(i:Nat) (x y:TabT.T i) (l:List Nat),Tab.kk i=some l->(Tab.cA i x).map Aa.kind=l/\BP (Tab.cA i x) (Tab.cA i y)=some (Tab.ke i x y)
end
universe u
def tall:Unit:=(fun _=>()) (lp (fun(n:Nat)=>some (.inr n:Sum Nat Nat)) 0)
def Ac{α:Sort u}(c:Bool)(x y:α):α:=match c,tall with
 |true,_=>x
 |false,_=>y
theorem IQ{α:Sort u}(x y:α):Ac true x y=x:=rfl
theorem qzqa{α:Sort u}(x y:α):Ac false x y=y:=rfl
theorem AN:Nat.beq a b=true↔a=b:=by simp
theorem Et:Nat.beq a b=false↔a≠b:=by rw[<-Bool.not_eq_true,AN]
theorem Ws.getD:∀{l l':List Aa},Ws l l'->∀j,W (l.getD j .top) (l'.getD j .top)
 |[],[],_,j=>.refl _
 |x :: l,y :: l',h,0=>h.1
 |x :: l,y :: l',h,j+1=>Ws.getD (l:=l) (l':=l') h.2 j
 |[],_ :: _,h,_=>h.elim
 |_ :: _,[],h,_=>h.elim
theorem Ws.append{l l' m m':List Aa}(h:Ws l l')(k:Ws m m'):Ws (l++m) (l'++m'):=by
 match l,l',h with
 |[],[],_=>exact k
 |x :: l,y :: l',h=>exact⟨h.1,Ws.append h.2 k⟩
def lt3:List Nat->Bool
 |[]=>true
 |k :: l=>Ac (Nat.blt k 3) (lt3 l) false
theorem wzey:∀{l:List Nat},lt3 l=true->∀k∈l,k<3
 |[],_,k,h=>by cases h
 |j :: l,e,k,h=>by
  obtain⟨h1,h2⟩:Nat.blt j 3=true/\lt3 l=true:=by
   have e:Ac (Nat.blt j 3) (lt3 l) false=true:=e;cases hb:Nat.blt j 3 with
   |true=>rw[hb]at e;exact⟨rfl,e⟩
   |false=>rw[hb]at e;cases e
  rcases AV.1 h with rfl|h
  ·simpa [Gu] using h1
  ·exact wzey h2 k h
theorem W.scalar{x y:Aa}(h:W x y)(k:y.kind<3):x=y:=by cases h<;>first|rfl|(simp[Aa.kind]at k)
theorem Ws.scalar:∀{l m:List Aa},Ws l m->(∀y∈m,y.kind<3)->l=m
 |[],[],_,_=>rfl
 |x :: l,y :: m,h,k=>by rw[h.1.scalar (k y (AS ..)),Ws.scalar (l:=l) (m:=m) h.2 fun z hz=>k z (AR _ hz)]
 |[],_ :: _,h,_=>h.elim
 |_ :: _,[],h,_=>h.elim
theorem wzi0{A B:Type}(e:A=B)(h:Option A=Option B)(x:Option A):cast h x=x.map (cast e):=by subst e;cases x<;>rfl
section
variable [Tab]
structure Fc where
 f:FuncId
 a:List CT
 p:List Bool
 r:List CT
 F:Row a->Option (Row r)
def ofP(c:CT):Bool->SV->Option c.T
 |false,v=>ofW c v
 |true,.cptr l 0=>Hb c l
 |_,_=>none
def Ns(c:CT):(l:List CT)->List Bool->List SV->Option (RowC c.T l)
 |[],p=>DJ (ofP c (p.headD false))
 |d :: l,p=>IK (ofP c (p.headD false)) (Ns d l p.tail)
def qz26:(l:List CT)->List Bool->List SV->Option (Row l)
 |[],_=>IL
 |c :: l,p=>Ns c l p
def prmC(c:CT):Bool->c.T->SV
 |false,x=>wT c x
 |true,x=>.cptr (Du c x) 0
def Hd(c:CT):(l:List CT)->List Bool->RowC c.T l->List SV
 |[],p,x=>[prmC c (p.headD false) x]
 |d :: l,p,x=>prmC c (p.headD false) x.1 :: Hd d l p.tail x.2
def prmS:(l:List CT)->List Bool->Row l->List SV
 |[],_,_=>[]
 |c :: l,p,x=>Hd c l p x
theorem IR:∀(l:List SV),Ax l=l.map A6
 |[]=>rfl
 |x :: l=>by show A6 x :: Ax l=_;rw[IR l];rfl
theorem Gr(l:List SV):(Ax l).length=l.length:=by simp[IR]
theorem Nt(l m:List SV):Ax (l++m)=Ax l++Ax m:=by simp[IR]
theorem Nu(n:Nat)(l:List SV):Ax (l.take n)=(Ax l).take n:=by simp[IR]
theorem Nv(n:Nat)(l:List SV):Ax (l.drop n)=(Ax l).drop n:=by simp[IR]
theorem qzvm(l:List SV)(i:Nat):A6 (l.getD i .top)=(Ax l).getD i .top:=by simp only[IR,E7,H6];cases l[i]?<;>rfl
theorem Rl(v:SV):unv (A6 v)=A6 v:=by
 cases v with
 |_=>rfl
theorem Rm(v:SV)(c:Bool):unc c (A6 v):=by
 cases v with
 |_=>exact trivial
theorem Nw{v:SV}{l:List SV}(h:v.cells=some l):Cw (A6 v)=some (Ax l):=by
 cases v with
 |_=>simp only[SV.cells]at h<;>cases h<;>rfl
theorem EY{c c':CT}{l:List c.T}{m:List c'.T}(h:B9 c c' l=some m):slcV c.n c.cA l=slcV c'.n c'.cA m/\l.length=m.length/\Ai c.cA l=Ai c'.cA m/\c=c':=by
 unfold B9 at h;split at h
 ·rename_i e _;subst e;cases h;exact⟨rfl,rfl,rfl,rfl⟩
 ·cases h
theorem qz0c(c:CT):∀(l:List CT) (r:RowC c.T l),(II c l r).length=l.length+1
 |[],r=>rfl
 |d :: l,r=>by show _+1=_;rw[qz0c d l r.2];rfl
theorem wzjl:∀(l:List CT) (r:Row l),(rowS l r).length=l.length
 |[],r=>rfl
 |c :: l,r=>qz0c c l r
theorem Rn:∀(c:CT) (x:c.T),(Du c x).length=c.n
 |.int k,x=>rfl
 |.bool,x=>rfl
 |.str,x=>rfl
 |.slc c,x=>rfl
 |.us i,x=>wzjl _ _
 |.fn i,x=>rfl
 |.mp _ _,x=>rfl
theorem IS{k:IntKind}{v:SV}{x:Int}(h:ofI k v=some x):v=.int k x:=by
 unfold ofI at h;split at h
 ·split at h;·rename_i e;subst e;cases h;rfl
  ·cases h
 ·cases h
theorem IT{v:SV}{x:Bool}(h:ofBT v=some x):v=.bool x:=by unfold ofBT at h;split at h<;>cases h;rfl
theorem IU{v:SV}{x:List UInt8}(h:IJ v=some x):v=.str x:=by unfold IJ at h;split at h<;>cases h;rfl
theorem Ny{c:CT}{v:SV}{x:List c.T}(h:ofSl c v=some x):W (A6 v) (slcV c.n c.cA x)/\(A6 v).one=true:=by
 unfold ofSl at h;split at h
 ·have:=EY h;refine⟨?_,rfl⟩;rw[<-this.1];exact .refl _
 ·cases h;exact⟨.nil _ _,rfl⟩
 ·cases h
theorem KD{v:SV}{x:FnV i}(h:ofFn i v=some x):v=.fnp i x:=by
 unfold ofFn at h;split at h
 ·split at h;·rename_i e;subst e;cases h;rfl
  ·cases h
 ·cases h
theorem qzzc:∀{c:CT} {v:SV} {x:c.T},ofLf c v=some x->W (A6 v) (A6 (lfT c x))/\(A6 v).one=true
 |.int k,v,x,h=>by rw[IS h];exact⟨.refl _,rfl⟩
 |.bool,v,x,h=>by rw[IT h];exact⟨.refl _,rfl⟩
 |.str,v,x,h=>by rw[IU h];exact⟨.refl _,rfl⟩
 |.slc c,v,x,h=>Ny h
 |.us i,v,x,h=>by cases h
 |.fn i,v,x,h=>by rw[KD h];exact⟨.refl _,rfl⟩
 |.mp _ _,v,x,h=>by cases h
theorem DK{f:SV->Option t}{v:List SV}{x:t}(h:DJ f v=some x):∃u,v=[u]/\f u=some x:=by
 unfold DJ at h;split at h
 ·exact⟨_,rfl,h⟩
 ·cases h
theorem IV{f:SV->Option t}{g:List SV->Option u}{v:List SV}{x:t×u}(h:IK f g v=some x):∃y r,v=y :: r/\f y=some x.1/\g r=some x.2:=by
 unfold IK at h;split at h
 ·cases h
 ·rename_i y r;split at h
  ·rename_i a b h1 h2;cases h;exact⟨y,r,rfl,h1,h2⟩
  ·cases h
theorem IW{v:List SV}{x:Unit}(h:IL v=some x):v=[]:=by
 unfold IL at h;split at h
 ·rfl
 ·cases h
theorem qz0y:∀(c:CT) (l:List CT) (v:List SV) (r:RowC c.T l),IM c l v=some r->Ws (Ax v) (Ax (II c l r))/\BD (Ax v)=true
 |c,[],v,r,h=>by obtain⟨u,rfl,h⟩:=DK (f:=ofLf c) h;obtain⟨h1,h2⟩:=qzzc h;exact⟨⟨h1,trivial⟩,by show(_&&true)=true;rw[h2];rfl⟩
 |c,d :: l,v,r,h=>by obtain⟨y,q,rfl,h1,h2⟩:=IV (f:=ofLf c) (g:=IM d l) h;obtain⟨p1,p2⟩:=qzzc h1;obtain⟨q1,q2⟩:=qz0y d l q r.2 h2;exact⟨⟨p1,q1⟩,by show(_&&_)=true;rw[p2,q2];rfl⟩
theorem wzky{l:List CT}{v:List SV}{r:Row l}(h:Rk l v=some r):Ws (Ax v) (Ax (rowS l r))/\BD (Ax v)=true:=by
 cases l with
 |nil=>rw[IW h];exact⟨trivial,rfl⟩
 |cons c l=>exact qz0y c l v r h
theorem Ro{v:SV}{x:TabT.T i}(h:ofAg i v=some x):∃l,v=.agg l/\IN i l=some x:=by
 unfold ofAg at h;split at h
 ·exact⟨_,rfl,h⟩
 ·cases h
def ex1:SV->Bool
 |.int _ _ | .bool _ | .str _ | .slc _ _ | .fnp _ _=>true
 |_=>false
def exL:List SV->Bool
 |[]=>true
 |v :: l=>Ac (ex1 v) (exL l) false
def exV:SV->Bool
 |.agg l=>exL l
 |v=>ex1 v
theorem qz6u{v:SV}{l:List SV}(h:exL (v :: l)=true):ex1 v=true/\exL l=true:=by
 have h:Ac (ex1 v) (exL l) false=true:=h;cases hb:ex1 v with
 |true=>rw[hb]at h;exact⟨rfl,h⟩
 |false=>rw[hb]at h;cases h
theorem qz9v:∀{c:CT} {v:SV} {x:c.T},ofLf c v=some x->ex1 v=true->A6 v=A6 (lfT c x)
 |.int k,v,x,h,_=>by rw[IS h];rfl
 |.bool,v,x,h,_=>by rw[IT h];rfl
 |.str,v,x,h,_=>by rw[IU h];rfl
 |.slc c,v,x,h,e=>by
  have h:ofSl c v=some x:=h;unfold ofSl at h;split at h
  ·exact(EY h).1
  ·cases e
  ·cases h
 |.us i,v,x,h,_=>by cases h
 |.fn i,v,x,h,_=>by rw[KD h];rfl
 |.mp _ _,v,x,h,_=>by cases h
theorem qz09:∀(c:CT) (l:List CT) (v:List SV) (r:RowC c.T l),IM c l v=some r->exL v=true->Ax v=Ax (II c l r)
 |c,[],v,r,h,e=>by obtain⟨u,rfl,h⟩:=DK (f:=ofLf c) h;show [A6 u]=[A6 (lfT c r)];rw[qz9v h (qz6u e).1]
 |c,d :: l,v,r,h,e=>by obtain⟨y,q,rfl,h1,h2⟩:=IV (f:=ofLf c) (g:=IM d l) h;obtain⟨e1,e2⟩:=qz6u e;show A6 y :: Ax q=A6 (lfT c r.1) :: Ax (II d l r.2);rw[qz9v h1 e1,qz09 d l q r.2 h2 e2]
theorem wzj4{l:List CT}{v:List SV}{r:Row l}(h:Rk l v=some r)(e:exL v=true):Ax v=Ax (rowS l r):=by
 cases l with
 |nil=>rw[IW h];rfl
 |cons c l=>exact qz09 c l v r h e
variable [TabOk]
theorem IX:∀(c:CT) (x:c.T),Ax (Du c x)=c.cA x
 |.int k,x=>rfl
 |.bool,x=>rfl
 |.str,x=>rfl
 |.slc c,x=>rfl
 |.us i,x=>(TabOk.cells i x).symm
 |.fn i,x=>rfl
 |.mp _ _,x=>rfl
theorem KE(c:CT)(x:c.T):(c.cA x).length=c.n:=by rw[<-IX,Gr,Rn]
theorem Rp{v:List SV}{x:TabT.T i}(h:IN i v=some x):Ws (Ax v) (Tab.cA i x)/\BD (Ax v)=true:=by
 unfold IN at h;split at h
 ·rename_i r hr;cases h;have:=wzky hr;rw[TabOk.cells,TabOk.unmk];exact this
 ·cases h
theorem IY:∀{c:CT} {v:List SV} {x:c.T},Hb c v=some x->Ws (Ax v) (c.cA x)/\BD (Ax v)=true
 |.us i,v,x,h=>Rp h
 |.int k,v,x,h=>by obtain⟨u,rfl,h⟩:=DK h;rw[IS h];exact⟨⟨.refl _,trivial⟩,rfl⟩
 |.bool,v,x,h=>by obtain⟨u,rfl,h⟩:=DK h;rw[IT h];exact⟨⟨.refl _,trivial⟩,rfl⟩
 |.str,v,x,h=>by obtain⟨u,rfl,h⟩:=DK h;rw[IU h];exact⟨⟨.refl _,trivial⟩,rfl⟩
 |.slc c,v,x,h=>by obtain⟨u,rfl,h⟩:=DK h;have:=Ny h;exact⟨⟨this.1,trivial⟩,by show(_&&true)=true;rw[this.2];rfl⟩
 |.fn i,v,x,h=>by obtain⟨u,rfl,h⟩:=DK h;rw[KD h];exact⟨⟨.refl _,trivial⟩,rfl⟩
 |.mp _ _,v,x,h=>by cases h
theorem Nz(i:Nat)(x:TabT.T i):A6 (wT (.us i) x)=.agg (Tab.cA i x):=by rw[TabOk.cells];rfl
theorem Dv:∀{c:CT} {v:SV} {x:c.T},ofW c v=some x->W (A6 v) (A6 (wT c x))
 |.us i,v,x,h=>by obtain⟨l,rfl,h⟩:=Ro h;have e:A6 (wT (.us i) x)=.agg (Tab.cA i x):=Nz i x;exact e▸Pd.2 (Rp h).1
 |.int k,v,x,h=>by rw[IS h];exact .refl _
 |.bool,v,x,h=>by rw[IT h];exact .refl _
 |.str,v,x,h=>by rw[IU h];exact .refl _
 |.slc c,v,x,h=>(Ny h).1
 |.fn i,v,x,h=>by rw[KD h];exact .refl _
 |.mp k v,u,x,h=>by
  have h:ofMp k v u=some x:=h;unfold ofMp at h;split at h
  ·exact .refl _
  ·cases h
theorem qz6w:∀{c:CT} {v:SV} {x:c.T},ofW c v=some x->exV v=true->A6 v=A6 (wT c x)
 |.int k,v,x,h,_=>by rw[IS h];rfl
 |.bool,v,x,h,_=>by rw[IT h];rfl
 |.str,v,x,h,_=>by rw[IU h];rfl
 |.slc c,v,x,h,e=>by
  have h:ofSl c v=some x:=h;unfold ofSl at h;split at h
  ·exact(EY h).1
  ·cases e
  ·cases h
 |.us i,v,x,h,e=>by
  obtain⟨l,rfl,k⟩:=Ro h;unfold IN at k;split at k
  ·rename_i r hr;cases k;have e2:A6 (wT (.us i) (Tab.mkS i r))=.agg (Ax (rowS (Tab.ls i) (Tab.unS i (Tab.mkS i r)))):=rfl;rw[e2,TabOk.unmk];show Aa.agg (Ax l)=_;rw[wzj4 hr e]
  ·cases k
 |.fn i,v,x,h,_=>by rw[KD h];rfl
 |.mp _ _,v,x,h,e=>by
  have h:ofMp _ _ v=some x:=h;unfold ofMp at h;split at h
  ·rfl
  ·cases h
theorem qzyg:∀(c:CT) (l:List CT) (v:List SV) (r:RowC c.T l),IP c l v=some r->Ws (Ax v) (Ax (Hc c l r))
 |c,[],v,r,h=>by obtain⟨u,rfl,h⟩:=DK (f:=ofW c) h;exact⟨Dv h,trivial⟩
 |c,d :: l,v,r,h=>by obtain⟨y,q,rfl,h1,h2⟩:=IV (f:=ofW c) (g:=IP d l) h;exact⟨Dv h1,qzyg d l q r.2 h2⟩
theorem qzrw{l:List CT}{v:List SV}{r:Row l}(h:Nr l v=some r):Ws (Ax v) (Ax (rowW l r)):=by
 cases l with
 |nil=>rw[IW h];exact trivial
 |cons c l=>exact qzyg c l v r h
theorem qzwd:∀(c:CT) (x:c.T) (v:Aa),v∈c.cA x->AE v
 |.int k,x,v,h=>US v h
 |.bool,x,v,h=>kz9 v h
 |.str,x,v,h=>vza v h
 |.slc c,x,v,h=>wzkp (qzwd c) v h
 |.us i,x,v,h=>TabOk.nor i x v h
 |.fn i,x,v,h=>by
  cases h with
  |head=>exact .fn _ _ _ x.nr
  |tail _ h=>cases h
 |.mp _ _,x,v,h=>by
  cases h with
  |head=>exact .top
  |tail _ h=>cases h
end
section
variable [Tab]
mutual
theorem qz89[TabOk]:∀(v:SV),AE (A6 v)
 |.int _ _=>.int _ _
 |.bool _=>.bool _
 |.str _=>.str _
 |.nil=>.nils
 |.slc c l=>C0 (qzwd c)
 |.agg l=>.agg _ (He l)
 |.tup l=>.tup _ (He l)
 |.cptr l off=>.cptr _ _ _ fun j hj=>by
   simp only[E7];cases e:(Ax l)[j]? with
   |none=>exact .top
   |some x=>exact He l x (AG e)
 |.fn f nb l=>.fn _ _ _ (He l)
 |.fnp i x=>.fn _ _ _ x.nr
 |.nilp=>.nilp
 |.mpv _ _ _=>.top
 |.top=>.top
theorem He[TabOk]:∀(l:List SV) (x:Aa),x∈Ax l->AE x
 |[],x,h=>by cases h
 |v :: l,x,h=>by
  cases h with
  |head=>exact qz89 v
  |tail _ h=>exact He l x h
end
end
section
variable [Tab]
theorem Rq[TabOk]{c:CT}{b:Bool}{v:SV}{x:c.T}(h:ofP c b v=some x):W (A6 v) (A6 (prmC c b x)):=by
 unfold ofP at h;split at h
 ·exact Dv h
 ·rename_i l;obtain⟨h1,_⟩:=IY h;show W (.cptr (fun k=>(Ax l).getD k .top) l.length 0) (.cptr (fun k=>(Ax (Du c x)).getD k .top) (Du c x).length 0);have e:l.length=(Du c x).length:=by rw[Rn,<-KE c x,<-h1.at.1,Gr]
  rw[e,IX];exact .cptr _ _ _ _ fun j _=>h1.getD j
 ·cases h
theorem qzwn[TabOk]:∀(c:CT) (l:List CT) (p:List Bool) (v:List SV) (r:RowC c.T l),Ns c l p v=some r->Ws (Ax v) (Ax (Hd c l p r))
 |c,[],p,v,r,h=>by obtain⟨u,rfl,h⟩:=DK (f:=ofP c (p.headD false)) h;exact⟨Rq h,trivial⟩
 |c,d :: l,p,v,r,h=>by obtain⟨y,q,rfl,h1,h2⟩:=IV (f:=ofP c (p.headD false)) (g:=Ns d l p.tail) h;exact⟨Rq h1,qzwn d l p.tail q r.2 h2⟩
theorem qz1n[TabOk]{l:List CT}{p:List Bool}{v:List SV}{r:Row l}(h:qz26 l p v=some r):Ws (Ax v) (Ax (prmS l p r)):=by
 cases l with
 |nil=>rw[IW h];exact trivial
 |cons c l=>exact qzwn c l p v r h
theorem qzxr(nb:Nat)(ags caps:List SV):Ax (fnArgs nb ags caps)=fnArgs nb (Ax ags) (Ax caps):=by unfold fnArgs;rw[Nt,Nt,Nu,Nv]
structure Ap(C:Fc):Prop where
 en:CY TabT.P C.f=true
 ok:∀x y,C.F x=some y->AK TabT.E TabT.P C.f (Ax (prmS C.a C.p x)) (A6 (retT C.r y))
structure Fk extends Fc where
 ok:Ap toFc
def mEs(k v:CT)(l:List (k.T×v.T)):List (Aa×Aa):=l.map fun p=>(A6 (wT k p.1),A6 (wT v p.2))
structure Wc where
 f:FuncId
 c:CT
 a:List CT
 p:List Bool
 F:List c.T->Row a->Option (List c.T)
structure WcOk(C:Wc):Prop where
 en:CY TabT.P C.f=true
 ok:∀(l:List C.c.T) x r (h:Aq) id ep,C.F l x=some r->h id=ownO ep C.c.n C.c.cA l->ATr TabT.E TabT.P C.f (ownV id ep l :: Ax (prmS C.a C.p x)) h fun v h'=>v=.tup []/\h'=hset h id (ownO ep C.c.n C.c.cA r)/\r.length=l.length
structure Wk extends Wc where
 ok:WcOk toWc
def wzmc(c:CT)(l:List c.T)(X:Aa)(h:Aq)(s:Nat):Prop :=
 X=slcV c.n c.cA l\/∃id ep lo m,id≠s/\X=.vec id ep lo l.length/\h id=.vec ep c.n (List.length m) (Ai c.cA m)/\lo+l.length<=m.length/\∀k,k<l.length->Ai c.cA m (lo+k)=Ai c.cA l k
structure Cc where
 f:FuncId
 c:CT
 a:List CT
 p:List Bool
 F:List c.T->Row a->Option (List c.T)
structure CcOk(C:Cc):Prop where
 en:CY TabT.P C.f=true
 ok:∀(l:List C.c.T) x r (X:Aa) (h:Aq) s,C.F l x=some r->(h s).plain->wzmc C.c l X h s->ATr TabT.E TabT.P C.f (X :: Ax (prmS C.a C.p x)) h fun v h'=>∃ep,v=.vec s ep 0 r.length/\0<r.length/\h'=hset h s (.vec ep C.c.n r.length (Ai C.c.cA r))
structure Ck extends Cc where
 ok:CcOk toCc
inductive Fe where
 |k (C:Fk) | w (C:Wk) | c (C:Ck)
def Hf(f:FuncId):List Fe->Option Fk
 |[]=>none
 |.k C :: l=>Ac (Nat.beq C.f f) (some C) (Hf f l)
 |_ :: l=>Hf f l
def IZ(f:FuncId):List Fe->Option Wk
 |[]=>none
 |.w C :: l=>Ac (Nat.beq C.f f) (some C) (IZ f l)
 |_ :: l=>IZ f l
def Hg(f:FuncId):List Fe->Option Ck
 |[]=>none
 |.c C :: l=>Ac (Nat.beq C.f f) (some C) (Hg f l)
 |_ :: l=>Hg f l
theorem Ja:∀{H:List Fe} {f:FuncId} {C:Fk},Hf f H=some C->C.f=f
 |[],f,C,h=>by cases h
 |.w _ :: H,f,C,h=>Ja (H:=H) h
 |.c _ :: H,f,C,h=>Ja (H:=H) h
 |.k D :: H,f,C,h=>by
  have h:Ac (Nat.beq D.f f) (some D) (Hf f H)=some C:=h;cases hb:Nat.beq D.f f
  ·rw[hb]at h;exact Ja h
  ·rw[hb]at h;cases h;exact AN.1 hb
theorem N1:∀{H:List Fe} {f:FuncId} {C:Wk},IZ f H=some C->C.f=f
 |[],f,C,h=>by cases h
 |.k _ :: H,f,C,h=>N1 (H:=H) h
 |.c _ :: H,f,C,h=>N1 (H:=H) h
 |.w D :: H,f,C,h=>by
  have h:Ac (Nat.beq D.f f) (some D) (IZ f H)=some C:=h;cases hb:Nat.beq D.f f
  ·rw[hb]at h;exact N1 h
  ·rw[hb]at h;cases h;exact AN.1 hb
theorem N2:∀{H:List Fe} {f:FuncId} {C:Ck},Hg f H=some C->C.f=f
 |[],f,C,h=>by cases h
 |.k _ :: H,f,C,h=>N2 (H:=H) h
 |.w _ :: H,f,C,h=>N2 (H:=H) h
 |.c D :: H,f,C,h=>by
  have h:Ac (Nat.beq D.f f) (some D) (Hg f H)=some C:=h;cases hb:Nat.beq D.f f
  ·rw[hb]at h;exact N2 h
  ·rw[hb]at h;cases h;exact AN.1 hb
theorem Fk.call[TabOk](C:Fk){vs:List SV}{r:Row C.a}(hr:Ws (Ax vs) (Ax (prmS C.a C.p r))){y:Row C.r}(hy:C.F r=some y):CY TabT.P C.f=true/\AK TabT.E TabT.P C.f (Ax vs) (A6 (retT C.r y)) := ⟨C.ok.en,(C.ok.ok r y hy).w hr⟩
def Rr{l:List CT}(e:l=Tab.fr i)(x:Option (Row l)):Option (TabT.FR i):=cast (by rw[e,Tab.eR]) x
theorem wzcj[TabOk]{l:List CT}{e:l=Tab.fr i}{x:Option (Row l)}{r:TabT.FR i}(h:Rr e x=some r):∃y,x=some y/\A6 (retT l y)=TabT.aR i r:=by
 subst e;unfold Rr at h;rw[wzi0 (Tab.eR i)]at h;cases x with
 |none=>cases h
 |some y=>cases h;exact⟨y,rfl,(TabOk.aR i y).symm⟩
def YQ[TabOk](C:Fk)(i nb:Nat)(caps:List SV)(e:C.r=Tab.fr i):FnV i :=
 ⟨C.f,nb,Ax caps,He caps,fun a=>match qz26 C.a C.p (fnArgs nb (rowW (Tab.fa i) (cast (Tab.eA i).symm a)) caps) with
  |some r=>Rr e (C.F r)
  |none=>none,fun a r h=>by
   have ea:TabT.aA i a=Ax (rowW (Tab.fa i) (cast (Tab.eA i).symm a)):=by rw[<-TabOk.aA,cast_cast,cast_eq]
   split at h
   ·rename_i x hx;obtain⟨y,hy,er⟩:=wzcj h;obtain⟨h1,h2⟩:=C.call (qz1n hx) hy;rw[qzxr]at h2;exact⟨h1,by rw[ea,<-er];exact h2⟩
   ·cases h⟩
def mkFn[TabOk](H:List Fe)(i:Nat)(f:FuncId)(nb:Nat)(caps:List SV):Option (FnV i):=match Hf f H with
 |some C=>match wzfi C.r (Tab.fr i) with
  |some ⟨e⟩=>some (YQ C i nb caps e)
  |none=>none
 |none=>none
theorem wzq1[TabOk]{H:List Fe}{f:FuncId}{caps:List SV}{x:FnV i}(h:mkFn H i f nb caps=some x):A6 (.fn f nb caps)=A6 (.fnp i x):=by
 unfold mkFn at h;split at h
 ·rename_i C hC;split at h
  ·cases h;show Aa.fn f nb (Ax caps)=.fn C.f nb (Ax caps);rw[Ja hC]
  ·cases h
 ·cases h
def Rs[TabOk](H:List Fe)(i:Nat):SV->Option (FnV i)
 |.fn f nb caps=>mkFn H i f nb caps
 |v=>ofFn i v
def ofWH[TabOk](H:List Fe):(c:CT)->SV->Option c.T
 |.fn i=>Rs H i
 |.us i=>ofAg i
 |.int k=>ofI k
 |.bool=>ofBT
 |.str=>IJ
 |.slc c=>ofSl c
 |.mp k v=>ofMp k v
def ofPH[TabOk](H:List Fe)(c:CT):Bool->SV->Option c.T
 |false,v=>ofWH H c v
 |true,v=>ofP c true v
def N3[TabOk](H:List Fe)(c:CT):(l:List CT)->List Bool->List SV->Option (RowC c.T l)
 |[],p=>DJ (ofPH H c (p.headD false))
 |d :: l,p=>IK (ofPH H c (p.headD false)) (N3 H d l p.tail)
def FN[TabOk](H:List Fe):(l:List CT)->List Bool->List SV->Option (Row l)
 |[],_=>IL
 |c :: l,p=>N3 H c l p
theorem wzp8[TabOk]{H:List Fe}:∀{c:CT} {v:SV} {x:c.T},ofWH H c v=some x->W (A6 v) (A6 (wT c x))
 |.us i,v,x,h=>Dv (c:=.us i) h
 |.int k,v,x,h=>Dv (c:=.int k) h
 |.bool,v,x,h=>Dv (c:=.bool) h
 |.str,v,x,h=>Dv (c:=.str) h
 |.slc c,v,x,h=>Dv (c:=.slc c) h
 |.mp k w,v,x,h=>Dv (c:=.mp k w) h
 |.fn i,v,x,h=>by
  have h:Rs H i v=some x:=h;unfold Rs at h;split at h
  ·rw[wzq1 h];exact .refl _
  ·exact Dv (c:=.fn i) h
theorem qz9g[TabOk]{H:List Fe}{c:CT}{b:Bool}{v:SV}{x:c.T}(h:ofPH H c b v=some x):W (A6 v) (A6 (prmC c b x)):=by
 cases b
 ·exact wzp8 h
 ·exact Rq h
theorem qzww[TabOk]{H:List Fe}:∀(c:CT) (l:List CT) (p:List Bool) (v:List SV) (r:RowC c.T l),N3 H c l p v=some r->Ws (Ax v) (Ax (Hd c l p r))
 |c,[],p,v,r,h=>by obtain⟨u,rfl,h⟩:=DK (f:=ofPH H c (p.headD false)) h;exact⟨qz9g h,trivial⟩
 |c,d :: l,p,v,r,h=>by obtain⟨y,q,rfl,h1,h2⟩:=IV (f:=ofPH H c (p.headD false)) (g:=N3 H d l p.tail) h;exact⟨qz9g h1,qzww d l p.tail q r.2 h2⟩
theorem KF[TabOk]{H:List Fe}{l:List CT}{p:List Bool}{v:List SV}{r:Row l}(h:FN H l p v=some r):Ws (Ax v) (Ax (prmS l p r)):=by
 cases l with
 |nil=>rw[IW h];exact trivial
 |cons c l=>exact qzww c l p v r h
end
section
variable [Tab]
inductive PV where
 |s (v:SV)
 |ptr (id st off:Nat)
 |eptr (id st:Nat) (j:Int) (off:Nat) (c:CT) (x:c.T)
 |vec (id st:Nat)
 |vs (id st:Nat) (lo hi:Int)
 |own (id st:Nat)
 |mp (id st:Nat)
inductive TV where
 |v (x:PV)
 |cnd (tg:Nat) (want g:Bool) (x:PV)
inductive TO where
 |gone
 |box (cs:List SV)
 |vec (c:CT) (l:List c.T)
 |own (c:CT) (l:List c.T)
 |map (k v:CT) (l:List (k.T×v.T))
structure Av where
 t:List (Nat×TV)
 h:List (Nat×Nat×TO)
 nx:Nat
 n:Nat
 gs:List Nat
 w:List Nat
 wo:List Nat
 b:Nat
 rf:Nat
def inR(b i:Nat):Bool:=Ac (Nat.ble b i) (Nat.blt i (b+900)) false
def Rt(b:Nat):Ao->Bool
 |.alloc s _ | .box s _ | .bslice s _ _ _ _ | .mks s _ _ _ _ | .s2b s _ | .append s _ _ _ _ | .mkmap s=>inR b s
 |_=>true
def Az:List (Nat×TV)->Nat->TV
 |[],_=>.v (.s .top)
 |p :: l,i=>Ac (Nat.beq p.1 i) p.2 (Az l i)
def Aw:List (Nat×Nat×TO)->Nat->Option (Nat×TO)
 |[],_=>none
 |p :: l,i=>Ac (Nat.beq p.1 i) (some p.2) (Aw l i)
def memN(i:Nat):List Nat->Bool
 |[]=>false
 |j :: l=>Ac (Nat.beq j i) true (memN i l)
abbrev Gd:=Option (Nat×Bool×Bool)
def eqB(a b:Bool):Bool:=Ac a b (!b)
def ofA1:Aa->Option SV
 |.int k n=>some (.int k n)
 |.bool b=>some (.bool b)
 |.str s=>some (.str s)
 |.nils=>some .nil
 |.nilp=>some .nilp
 |_=>none
def ofAL:List Aa->Option (List SV)
 |[]=>some []
 |x :: l=>match ofA1 x,ofAL l with
  |some a,some b=>some (a :: b)
  |_,_=>none
def ofAT:List Aa->List SV
 |[]=>[]
 | x :: l=>(match ofA1 x with
  |some v=>v
  | none=>.top) :: ofAT l
def ofA:Aa->Option SV
 |.agg l=>match ofAL l with
  |some l=>some (.agg l)
  |none=>none
 |.fn f nb []=>some (.fn f nb [])
 |.top=>some .top
 |x=>ofA1 x
def argP(T:Av)(G:Gd):Ae->Option PV
 |.t n=>match Az T.t n with
  |.v x=>some x
  |.cnd tg want _ x=>match G with
   |some (tg',want',_)=>Ac (Nat.beq tg tg') (Ac (eqB want want') (some x) none) none
   |none=>none
 |.c v=>match ofA v with
  |some v=>some (.s v)
  |none=>none
 |.g _=>none
def FO(T:Av)(G:Gd):List Ae->Option (List SV)
 |[]=>some []
 |x :: l=>match argP T G x,FO T G l with
  |some (.s v),some r=>some (v :: r)
  |_,_=>none
section
def ckg(G:Gd)(c:Bool)(X:Option α):Option α:=match G with
 |none=>ck c X
 |some (_,_,g)=>ck (!g||c) X
def bdg{Y:Type}[Inhabited Y](G:Gd)(x:Option Y)(K:Y->Option α):Option α:=match G with
 |none=>bd x K
 |some (_,_,g)=>bd (gd g x) K
def ckS(G:Gd)(k:IntKind)(n:Int)(K:PV->List Nat->Option α):Option α:=match k with
 |.i8=>ckg G (As .i8 n) (K (.s (.int .i8 n)) [])
 |.i16=>ckg G (As .i16 n) (K (.s (.int .i16 n)) [])
 |.i32=>ckg G (As .i32 n) (K (.s (.int .i32 n)) [])
 |.i64=>ckg G (As .i64 n) (K (.s (.int .i64 n)) [])
 |.u8=>K (.s (.int .u8 (n%256))) []
 |.u16=>K (.s (.int .u16 (n%65536))) []
 |.u32=>K (.s (.int .u32 (n%4294967296))) []
 |.u64=>K (.s (.int .u64 (n%18446744073709551616))) []
def ckl(G:Gd)(lit c:Bool)(X:Option α):Option α:=Ac lit (Ac c X none) (ckg G c X)
def binI(G:Gd)(op:BinOp)(k:IntKind)(a b:Int)(lit:Bool)(K:PV->List Nat->Option α):Option α:=match op with
 |.add=>ckS G k (a+b) K
 |.sub=>ckS G k (a-b) K
 |.mul=>ckS G k (a*b) K
 |.quo=>ckl G lit (!decide (b=0)) (ckS G k (a.tdiv b) K)
 |.rem=>ckl G lit (!decide (b=0)) (K (.s (.int k (a.tmod b))) [])
 |.and=>K (.s (.int k (bitI .and k a b))) []
 |.or=>K (.s (.int k (bitI .or k a b))) []
 |.xor=>K (.s (.int k (bitI .xor k a b))) []
 |.andNot=>K (.s (.int k (bitI .andNot k a b))) []
 |.eql=>K (.s (.bool (decide (a=b)))) []
 |.neq=>K (.s (.bool (!decide (a=b)))) []
 |.lss=>K (.s (.bool (decide (a<b)))) []
 |.leq=>K (.s (.bool (decide (a<=b)))) []
 |.gtr=>K (.s (.bool (decide (b<a)))) []
 |.geq=>K (.s (.bool (decide (b<=a)))) []
 |_=>none
def Ru(G:Gd)(op:BinOp)(k:IntKind)(a b:Int)(lit:Bool)(K:PV->List Nat->Option α):Option α:=match op with
 |.shl=>ckl G lit (decide (0<=b)) (ckS G k (a*2 ^ min b.toNat k.bits) K)
 |.shr=>ckl G lit (decide (0<=b)) (K (.s (.int k (a.fdiv (2 ^ min b.toNat k.bits)))) [])
 |_=>none
def binS(G:Gd)(op:BinOp)(a b:List UInt8)(K:PV->List Nat->Option α):Option α:=match op with
 |.add=>ckg G (decide (List.length a+List.length b<=4611686018427387904)) (K (.s (.str (a++b))) [])
 |.eql=>K (.s (.bool (decide (a=b)))) []
 |.neq=>K (.s (.bool (!decide (a=b)))) []
 |.lss=>K (.s (.bool (Op.bytesLess a b))) []
 |.leq=>K (.s (.bool (Op.bytesLess a b||decide (a=b)))) []
 |.gtr=>K (.s (.bool (!(Op.bytesLess a b||decide (a=b))))) []
 |.geq=>K (.s (.bool (!Op.bytesLess a b))) []
 |_=>none
def oneS:List SV->Bool
 |[]=>true
 |.agg _ :: _=>false
 |.tup _ :: _=>false
 |.top :: _=>false
 |.mpv _ _ _ :: _=>false
 |_ :: l=>oneS l
def wzn8:Ae->Bool
 |.c _=>true
 |_=>false
def ldS(agg:Bool)(sz:Nat)(l:List SV)(off:Nat):SV:=Ac agg (.agg ((l.drop off).take sz)) (l.getD off .top)
def layS(l:List SV)(off:Nat)(p:List SV):List SV:=l.take off++p++l.drop (off+p.length)
def Jb(T:Av)(G:Gd):List SV->List (Nat×Nat×Ae)->Option (List SV)
 |l,[]=>some l
 |l,(off,sz,x) :: r=>match argP T G x with
  |some (.s v)=>match v.cells with
   |some p=>Ac (Nat.beq p.length sz) (Ac (Nat.ble (off+sz) l.length) (Jb T G (layS l off p) r) none) none
   |none=>none
  |_=>none
def eqS:List SV->List SV->Option Bool
 |[],[]=>some true
 |x :: l,y :: m=>match x,y,eqS l m with
  |.int k a,.int k' b,some e=>if k=k' then some (decide (a=b)&&e) else none
  |.bool a,.bool b,some e=>some ((a==b)&&e)
  |.str a,.str b,some e=>some (decide (a=b)&&e)
  |_,_,_=>none
 |_,_=>none
def N4:SV->Nat
 |.bool _=>0
 |.int _ _=>1
 |.str _=>2
 |_=>3
def N5:List SV->List Nat->Bool
 |[],[]=>true
 |x :: l,n :: m=>Ac (Nat.beq (N4 x) n) (N5 l m) false
 |_,_=>false
def bndS(T:Av)(G:Gd)(d:Int):Option Ae->Option Int
 |none=>some d
 |some a=>match argP T G a with
  |some (.s (.int _ n))=>some n
  |_=>none
def Rw{α:Type}:Nat->List α->Bool
 |_,[]=>true
 |0,_ :: _=>false
 |n+1,_ :: l=>Rw n l
def v_mv(H:List Fe)(T:Av)(G:Gd)(x:Ae)(K:PV->List Nat->Option α):Option α:=match argP T G x,x with
 |some p,_=>K p []
 |none,.c _=>K (.s .top) []
 |none,_=>none
def Jc(T:Av)(G:Gd)(n:Nat)(w:Bool)(a:Ae):Option PV:=match G with
 |none=>argP T (some (n,w,w)) a
 |some g=>match argP T (some g) a with
  |some p=>some p
  |none=>argP T (some (n,w,w)) a
def KG(H:List Fe)(T:Av)(G:Gd)(c x y:Ae)(K:PV->List Nat->Option α):Option α:=match c with
 |.t n=>match argP T G (.t n) with
  |some (.s (.bool b))=>match Jc T G n true x,Jc T G n false y with
   |some (.s (.bool p)),some (.s (.bool q))=>K (.s (.bool (bif b then p else q))) []
   |some (.s (.int k p)),some (.s (.int k' q))=>Ac (decide (k=k')) (K (.s (.int k (bif b then p else q))) []) none
   |_,_=>none
  |_=>none
 |_=>none
def Ry(H:List Fe)(T:Av)(G:Gd)(op:BinOp)(bools:Bool)(x y:Ae)(K:PV->List Nat->Option α):Option α:=match argP T G x,argP T G y with
 |some (.s (.int k a)),some (.s (.int k' b))=>Ac (Fv op) (Ru G op k a b (wzn8 y) K) (Ac (decide (k=k')) (binI G op k a b (wzn8 y) K) none)
 |some (.s (.str a)),some (.s (.str b))=>binS G op a b K
 |some (.s (.bool a)),some (.s (.bool b))=>match bools,op with
  |true,.eql=>K (.s (.bool (a==b))) []
  |true,.neq=>K (.s (.bool (!(a==b)))) []
  |_,_=>none
 |_,_=>none
def Rz(H:List Fe)(T:Av)(G:Gd)(x:Ae)(K:PV->List Nat->Option α):Option α:=match argP T G x with
 |some (.s (.bool b))=>K (.s (.bool (!b))) []
 |_=>none
def R0(H:List Fe)(T:Av)(G:Gd)(x:Ae)(K:PV->List Nat->Option α):Option α:=match argP T G x with
 |some (.s (.int k n))=>ckS G k (-n) K
 |_=>none
def R2(H:List Fe)(T:Av)(G:Gd)(agg:Bool)(sz:Nat)(x:Ae)(K:PV->List Nat->Option α):Option α:=match argP T G x with
 |some (.ptr id st off)=>match Aw T.h id with
  |some (st',.box cs)=>Ac (Nat.beq st st') (Ac (Nat.ble (off+sz) cs.length) (Ac (Ac agg true (Nat.beq sz 1)) (K (.s (ldS agg sz cs off)) [id]) none) none) none
  |_=>none
 |some (.eptr id st j off c x)=>match Aw T.h id with
  |some (st',.vec c' l)=>Ac (Nat.beq st st') (Ac (Nat.ble (off+sz) c.n) (Ac (Ac agg true (Nat.beq sz 1)) (K (.s (ldS agg sz (Du c x) off)) [id]) none) none) none
  |_=>none
 |some (.s (.cptr l off))=>Ac (Nat.ble (off+sz) l.length) (Ac (Ac agg true (Nat.beq sz 1)) (K (.s (ldS agg sz l off)) []) none) none
 |_=>none
def R3(H:List Fe)(T:Av)(G:Gd)(k:IntKind)(x:Ae)(K:PV->List Nat->Option α):Option α:=match argP T G x with
 |some (.s (.int _ n))=>ckS G k n K
 |_=>none
def R4(H:List Fe)(T:Av)(G:Gd)(f:FuncId)(nb:Nat)(caps:List Ae)(K:PV->List Nat->Option α):Option α:=match FO T G caps with
 |some l=>K (.s (.fn f nb l)) []
 |none=>none
def R5(H:List Fe)(T:Av)(G:Gd)(isStr:Bool)(st:Nat)(x:Ae)(lo hi:Option Ae)(K:PV->List Nat->Option α):Option α:=match bndS T G 0 lo with
 |none=>none
 |some l=>match isStr,argP T G x with
  |false,some (.s (.slc c m))=>match bndS T G (List.length m:Int) hi with
   |some r=>Ac (Nat.beq c.n st) (ckg G (CC m l r) (K (.s (.slc c (sub m l r))) [])) none
   |none=>none
  |false,some (.vec id vst)=>match Aw T.h id with
   |some (st',.vec c m)=>match bndS T G (List.length m:Int) hi with
    |some r=>Ac (Nat.beq vst st') (Ac (Nat.beq c.n st) (ckg G (CC m l r) (K (.vs id vst l r) [id])) none) none
    |none=>none
   |_=>none
  |true,some (.s (.str s))=>match bndS T G (List.length s:Int) hi with
   |some r=>ckg G (CC s l r) (K (.s (.str (sub s l r))) [])
   |none=>none
  |_,_=>none
def R6(H:List Fe)(T:Av)(G:Gd)(off:Nat)(x:Ae)(K:PV->List Nat->Option α):Option α:=match argP T G x with
 |some (.ptr id st o)=>match Aw T.h id with
  |some (st',_)=>Ac (Nat.beq st st') (K (.ptr id st (o+off)) [id]) none
  |none=>none
 |some (.eptr id st j o c x)=>match Aw T.h id with
  |some (st',_)=>Ac (Nat.beq st st') (K (.eptr id st j (o+off) c x) [id]) none
  |none=>none
 |some (.s (.cptr l o))=>K (.s (.cptr l (o+off))) []
 |_=>none
def R7(H:List Fe)(T:Av)(G:Gd)(st:Nat)(x i:Ae)(K:PV->List Nat->Option α):Option α:=match argP T G x,argP T G i with
 |some (.s (.slc c l)),some (.s (.int _ j))=>Ac (Nat.beq c.n st) (@bdg α c.T c.inh G (at? l j) fun v=>K (.s (.cptr (Du c v) 0)) []) none
 |some (.vec id vst),some (.s (.int _ j))=>match Aw T.h id with
  |some (st',.vec c l)=>Ac (Nat.beq vst st') (Ac (Nat.beq c.n st) (@bdg α c.T c.inh G (at? l j) fun v=>K (.eptr id vst j 0 c v) [id]) none) none
  |_=>none
 |_,_=>none
def R8(H:List Fe)(T:Av)(G:Gd)(i:Nat)(x:Ae)(K:PV->List Nat->Option α):Option α:=match argP T G x with
 |some (.s (.tup l))=>Ac (Nat.blt i l.length) (K (.s (l.getD i .top)) []) none
 |_=>none
def R9(H:List Fe)(T:Av)(G:Gd)(x i:Ae)(K:PV->List Nat->Option α):Option α:=match argP T G x,argP T G i with
 |some (.s (.str s)),some (.s (.int _ j))=>ckg G (BZ s j) (K (.s (.int .u8 (Cy s j))) [])
 |_,_=>none
def keq:(c:CT)->c.T->c.T->Bool
 |.int _=>fun(a b:Int)=>decide (a=b)
 |.bool=>fun(a b:Bool)=>a==b
 |.str=>fun(a b:List UInt8)=>decide (a=b)
 |.us i=>Tab.ke i
 |_=>fun _ _=>false
def kkd:CT->Option Nat
 |.bool=>some 0
 |.int _=>some 1
 |.str=>some 2
 |.us i=>match Tab.kk i with
  |some l=>Ac (lt3 l) (some (4+encK l)) none
  |none=>none
 |_=>none
def isK(c:CT)(n:Nat):Bool:=match kkd c with
 |some m=>Nat.beq m n
 |none=>false
def RA(H:List Fe)(T:Av)(G:Gd)(kd:Nat)(cok:Bool)(zero:Aa)(x k:Ae)(K:PV->List Nat->Option α):Option α:=match argP T G x,argP T G k,ofA zero with
 |some (.mp id mst),some (.s key),some z=>match Aw T.h id with
  |some (st',.map ck cv l)=>match ofW ck key,ofW cv z with
   |some a,some d=>Ac (Nat.beq mst st') (Ac (isK ck kd) (Ac cok (K (.s (.tup [wT cv (Option.getD (mget (keq ck) l a) d),.bool (Option.isSome (mget (keq ck) l a))])) [id]) (K (.s (wT cv (Option.getD (mget (keq ck) l a) d))) [id])) none) none
   |_,_=>none
  |_=>none
 |_,_,_=>none
def RB(H:List Fe)(T:Av)(G:Gd)(isStr:Bool)(x:Ae)(K:PV->List Nat->Option α):Option α:=match isStr,argP T G x with
 |false,some (.s (.slc _ l))=>K (.s (.int .i64 (List.length l:Int))) []
 |false,some (.s .nil)=>K (.s (.int .i64 0)) []
 |false,some (.vec id vst)=>match Aw T.h id with
  |some (st',.vec _ l)=>Ac (Nat.beq vst st') (K (.s (.int .i64 (List.length l:Int))) [id]) none
  |_=>none
 |true,some (.s (.str s))=>K (.s (.int .i64 (List.length s:Int))) []
 |_,_=>none
def RC(H:List Fe)(T:Av)(G:Gd)(sh:List Nat)(ng:Bool)(x y:Ae)(K:PV->List Nat->Option α):Option α:=match argP T G x,argP T G y with
 |some (.s (.agg l)),some (.s (.agg m))=>match eqS l m with
  |some e=>Ac (N5 l sh) (K (.s (.bool (Ac ng (!e) e))) []) none
  |none=>none
 |_,_=>none
def RD(H:List Fe)(T:Av)(G:Gd)(x y:Ae)(K:PV->List Nat->Option α):Option α:=match argP T G x,argP T G y with
 |some (.s (.int k a)),some (.s (.int k' b))=>Ac (decide (k=k')) (K (.s (.int k (Max.max a b))) []) none
 |_,_=>none
def RE(H:List Fe)(T:Av)(G:Gd)(x y:Ae)(K:PV->List Nat->Option α):Option α:=match argP T G x,argP T G y with
 |some (.s (.int k a)),some (.s (.int k' b))=>Ac (decide (k=k')) (K (.s (.int k (Min.min a b))) []) none
 |_,_=>none
def RF(H:List Fe)(T:Av)(G:Gd)(zero:List Aa)(ps:List (Nat×Nat×Ae))(K:PV->List Nat->Option α):Option α:=match ofAL zero with
 |some z=>match Jb T G z ps with
  |some l=>K (.s (.agg l)) []
  |none=>none
 |none=>none
def RG(H:List Fe)(T:Av)(G:Gd)(x:Ae)(K:PV->List Nat->Option α):Option α:=match argP T G x with
 |some (.s (.slc (.int .u8) l))=>K (.s (.str (Ca l))) []
 |some (.vec id vst)=>match Aw T.h id with
  |some (st',.vec (.int .u8) l)=>Ac (Nat.beq vst st') (K (.s (.str (Ca l))) [id]) none
  |_=>none
 |_=>none
def N6[TabOk](H:List Fe)(T:Av)(G:Gd)(f:FuncId)(ags:List Ae)(K:PV->List Nat->Option α):Option α:=match Hf f H with
 |some C=>match FO T G ags with
  |some vs=>match FN H C.a C.p vs with
   |some r=>bdg G (C.F r) fun x=>K (.s (retT C.r x)) []
   |none=>none
  |none=>none
 |none=>none
@[reducible] def inhR(i:Nat):Inhabited (TabT.FR i):=⟨cast (Tab.eR i) (rowInh (Tab.fr i)).default⟩
def N7[TabOk](H:List Fe)(T:Av)(G:Gd)(x:Ae)(ags:List Ae)(K:PV->List Nat->Option α):Option α:=match argP T G x,FO T G ags with
 |some (.s (.fn f nb caps)),some vs=>match Hf f H with
  |some C=>match FN H C.a C.p (fnArgs nb vs caps) with
   |some r=>bdg G (C.F r) fun x=>K (.s (retT C.r x)) []
   |none=>none
  |none=>none
 |some (.s (.fnp i z)),some vs=>match Nr (Tab.fa i) vs with
  |some r=>@bdg α (TabT.FR i) (inhR i) G (z.g (cast (Tab.eA i) r)) fun y=>K (.s (retT (Tab.fr i) (cast (Tab.eR i).symm y))) []
  |none=>none
 |_,_=>none
def KH(c:CT)(st:Nat):Nat->List SV->Option (List c.T)
 |0,_=>some []
 |n+1,l=>match Hb c (l.take st),KH c st n (l.drop st) with
  |some x,some r=>some (x :: r)
  |_,_=>none
def Bg(s:Nat):List (Nat×CT)->CT
 |[]=>.bool
 |p :: l=>Ac (Nat.beq p.1 s) p.2 (Bg s l)
def RH(ty:List (Nat×CT))(T:Av)(G:Gd)(s st nn:Nat)(zero:List Aa)(ps:List (Nat×Nat×Ae))(K:PV->List Nat->Option α):Option α:=match ofAL zero with
 |some z=>match Jb T G z ps with
  | some l=>Ac (Nat.beq l.length (nn*st)) (Ac (Nat.beq (Bg s ty).n st) (Ac (Nat.blt 0 st) (Ac (inR T.b s) (match KH (Bg s ty) st nn l with
   |some m=>K (.s (.slc (Bg s ty) m)) [s]
   | none=>none) none) none) none) none
  |none=>none
 |none=>none
def opV[TabOk](H:List Fe)(ty:List (Nat×CT))(T:Av)(G:Gd)(o:Ao)(K:PV->List Nat->Option α):Option α:=match o with
 |.mv x=>v_mv H T G x K
 |.pick c x y=>KG H T G c x y K
 |.bin op bools x y=>Ry H T G op bools x y K
 |.not x=>Rz H T G x K
 |.neg x=>R0 H T G x K
 |.load agg sz x=>R2 H T G agg sz x K
 |.conv k x=>R3 H T G k x K
 |.mkfn f nb caps=>R4 H T G f nb caps K
 |.slice isStr st x lo hi=>R5 H T G isStr st x lo hi K
 |.faddr off x=>R6 H T G off x K
 |.iaddrS st x i=>R7 H T G st x i K
 |.extract i x=>R8 H T G i x K
 |.sidx x i=>R9 H T G x i K
 |.len isStr x=>RB H T G isStr x K
 |.mlook kd cok zero x k=>RA H T G kd cok zero x k K
 |.eqagg sh ng x y=>RC H T G sh ng x y K
 |.max x y=>RD H T G x y K
 |.min x y=>RE H T G x y K
 |.build zero ps=>RF H T G zero ps K
 |.b2s x=>RG H T G x K
 |.fslice s st nn zero ps=>RH ty T G s st nn zero ps K
 |.callf f ags=>N6 H T G f ags K
 |.callv x ags=>N7 H T G x ags K
 |_=>none
def srcS(T:Av)(c:CT):PV->Option (List c.T×List Nat)
 |.s (.slc c' l)=>match B9 c' c l with
  |some l=>some (l,[])
  |none=>none
 |.vec id vst=>match Aw T.h id with
  | some (st',.vec c' l)=>Ac (Nat.beq vst st') (match B9 c' c l with
   |some l=>some (l,[id])
   | none=>none) none
  |_=>none
 |_=>none
def qz8s(ty:List (Nat×CT))(T:Av)(s:Nat)(zero:List Aa)(K:PV->Nat->TO->Bool->List Nat->Option α):Option α:=K (.ptr s T.nx 0) s (.box (ofAT zero)) false [s]
def RI(ty:List (Nat×CT))(T:Av)(s:Nat)(x:Ae)(K:PV->Nat->TO->Bool->List Nat->Option α):Option α:=match argP T none x with
 |some (.s v)=>match v.cells with
  |some l=>K (.ptr s T.nx 0) s (.box l) false [s]
  |none=>none
 |_=>none
def RJ(ty:List (Nat×CT))(T:Av)(s st nn:Nat)(zero:List Aa)(ps:List (Nat×Nat×Ae))(K:PV->Nat->TO->Bool->List Nat->Option α):Option α:=match ofAL zero with
 |some z=>match Jb T none z ps with
  | some l=>Ac (Nat.beq l.length (nn*st)) (Ac (Nat.beq (Bg s ty).n st) (Ac (Nat.blt 0 st) (match KH (Bg s ty) st nn l with
   |some m=>K (.vec s T.nx) s (.vec (Bg s ty) m) false [s]
   | none=>none) none) none) none
  |none=>none
 |none=>none
def RK(ty:List (Nat×CT))(T:Av)(s st bytes:Nat)(zero:List Aa)(x:Ae)(K:PV->Nat->TO->Bool->List Nat->Option α):Option α:=match ofAL zero,argP T none x with
 | some z,some (.s (.int _ n))=>Ac (Nat.beq (Bg s ty).n st) (Ac (Nat.blt 0 st) (match Hb (Bg s ty) z with
  |some e=>ck (mkOk n bytes) (K (.vec s T.nx) s (.vec (Bg s ty) (List.replicate (Int.toNat n) e)) false [s])
  | none=>none) none) none
 |_,_=>none
def RL(ty:List (Nat×CT))(T:Av)(s:Nat)(x:Ae)(K:PV->Nat->TO->Bool->List Nat->Option α):Option α:=match argP T none x with
 |some (.s (.str b))=>K (.s (.slc (.int .u8) (bytes b))) s .gone false [s]
 |_=>none
def RM(ty:List (Nat×CT))(T:Av)(sz:Nat)(x y:Ae)(K:PV->Nat->TO->Bool->List Nat->Option α):Option α:=match argP T none x,argP T none y with
 |some (.ptr id st off),some (.s v)=>match Aw T.h id,v.cells with
  |some (st',.box cs),some p=>Ac (Nat.beq st st') (Ac (Nat.beq p.length sz) (Ac (Nat.ble (off+sz) cs.length) (Ac (oneS p) (K (.s .top) id (.box (layS cs off p)) true [id]) none) none) none) none
  |_,_=>none
 |some (.eptr id st j off c x),some (.s v)=>match Aw T.h id,v.cells with
  | some (st',.vec c' l),some p=>Ac (Nat.beq st st') (Ac (Nat.beq p.length sz) (Ac (Nat.ble (off+sz) c.n) (match Hb c' (layS (Du c x) off p) with
   |some e=>K (.s .top) id (.vec c' (List.set l (Int.toNat j) e)) true [id]
   | none=>none) none) none) none
  |_,_=>none
 |_,_=>none
def RN(ty:List (Nat×CT))(T:Av)(s st bytes:Nat)(x y:Ae)(K:PV->Nat->TO->Bool->List Nat->Option α):Option α:=match argP T none x,argP T none y with
 |some (.s .nil),some q=>match srcS T (Bg s ty) q with
  |some (a :: l,rd)=>Ac (Nat.beq (Bg s ty).n st) (Ac (Nat.blt 0 st) (Ac (Rw 64 l) (Ac (Nat.ble bytes 1000000) (K (.own s T.nx) s (.own (Bg s ty) (a :: l)) false (s :: rd)) none) none) none) none
  |_=>none
 |some (.own id vst),some q=>match Aw T.h id with
  |some (st',.own c m)=>match srcS T c q with
   | some (l,rd)=>Ac (Nat.beq vst st') (Ac (Nat.beq id s) (Ac (Nat.beq c.n st) (Ac (Nat.blt 0 st) (Ac (memN id rd) none
     (ck (decide (List.length (m++l)*bytes<=140737488355328)) (K (.own id T.nx) id (.own c (m++l)) false (id :: rd)))) none) none) none) none
   |none=>none
  |_=>none
 |some (.vec id vst),some q=>match Aw T.h id with
  |some (st',.vec c m)=>match srcS T c q with
   | some (l,rd)=>Ac (Nat.beq vst st') (Ac (Nat.beq c.n st) (Ac (Nat.blt 0 st)
     (ck (decide (List.length (m++l)*bytes<=140737488355328)) (K (.vec id T.nx) id (.vec c (m++l)) false (id :: rd))) none) none) none
   |none=>none
  |_=>none
 |_,_=>none
def RO(ty:List (Nat×CT))(T:Av)(st0:Nat)(x y:Ae)(K:PV->Nat->TO->Bool->List Nat->Option α):Option α:=match argP T none x,argP T none y with
 |some (.vs id vst lo hi),some q=>match Aw T.h id with
  |some (st',.vec c m)=>match srcS T c q with
   | some (l,rd)=>Ac (Nat.beq vst st') (Ac (Nat.beq c.n st0) (Ac (memN id rd) none
     (ck (CC m lo hi) (K (.s (.int .i64 (min (List.length l) (Int.toNat (hi-lo)):Int))) id (.vec c (B0 m (Int.toNat lo) (List.take (Int.toNat (hi-lo)) l))) true (id :: rd)))) none) none
   |none=>none
  |_=>none
 |_,_=>none
def RP(ty:List (Nat×CT))(T:Av)(zero:List Aa)(x:Ae)(K:PV->Nat->TO->Bool->List Nat->Option α):Option α:=match ofAL zero,argP T none x with
 |some z,some (.vs id vst lo hi)=>match Aw T.h id with
  |some (st',.vec c m)=>match Hb c z with
   |some e=>Ac (Nat.beq vst st') (ck (CC m lo hi) (K (.s (.tup [])) id (.vec c (B0 m (Int.toNat lo) (List.replicate (Int.toNat (hi-lo)) e))) true [id])) none
   |none=>none
  |_=>none
 |_,_=>none
def qz90(ty:List (Nat×CT))(T:Av)(s:Nat)(K:PV->Nat->TO->Bool->List Nat->Option α):Option α:=K (.mp s T.nx) s (.map (Bg s ty) (Bg (s+10000) ty) []) false [s]
def RQ(ty:List (Nat×CT))(T:Av)(kd:Nat)(x k v:Ae)(K:PV->Nat->TO->Bool->List Nat->Option α):Option α:=match argP T none x,argP T none k,argP T none v with
 |some (.mp id mst),some (.s key),some (.s val)=>match Aw T.h id with
  |some (st',.map ck cv l)=>match ofW ck key,ofW cv val with
   |some a,some b=>Ac (Nat.beq mst st') (Ac (isK ck kd) (Ac (exV val) (K (.s .top) id (.map ck cv (mput (keq ck) l a b)) true [id]) none) none) none
   |_,_=>none
  |_=>none
 |_,_,_=>none
def opO(ty:List (Nat×CT))(T:Av)(o:Ao)(K:PV->Nat->TO->Bool->List Nat->Option α):Option α:=match o with
 |.alloc s zero=>qz8s ty T s zero K
 |.box s x=>RI ty T s x K
 |.bslice s st nn zero ps=>RJ ty T s st nn zero ps K
 |.mks s st bytes zero x=>RK ty T s st bytes zero x K
 |.s2b s x=>RL ty T s x K
 |.store sz x y=>RM ty T sz x y K
 |.append s st bytes x y=>RN ty T s st bytes x y K
 |.copy st0 x y=>RO ty T st0 x y K
 |.clear zero x=>RP ty T zero x K
 |.mkmap s=>qz90 ty T s K
 |.mupd kd x k v=>RQ ty T kd x k v K
 |_=>none
end
def Hh:Ao->Bool
 |.alloc _ _ | .box _ _ | .bslice _ _ _ _ _ | .mks _ _ _ _ _ | .s2b _ _ | .store _ _ _ | .append _ _ _ _ _ | .copy _ _ _ | .clear _ _ | .mkmap _ | .mupd _ _ _ _=>true
 |_=>false
def EZ(id st nx:Nat):PV->PV
 |.ptr i s off=>Ac (Nat.beq i id) (Ac (Nat.beq s st) (.ptr i nx off) (.ptr i s off)) (.ptr i s off)
 |.vec i s=>Ac (Nat.beq i id) (Ac (Nat.beq s st) (.vec i nx) (.vec i s)) (.vec i s)
 |.vs i s lo hi=>Ac (Nat.beq i id) (Ac (Nat.beq s st) (.vs i nx lo hi) (.vs i s lo hi)) (.vs i s lo hi)
 |.own i s=>Ac (Nat.beq i id) (Ac (Nat.beq s st) (.own i nx) (.own i s)) (.own i s)
 |.mp i s=>Ac (Nat.beq i id) (Ac (Nat.beq s st) (.mp i nx) (.mp i s)) (.mp i s)
 |x=>x
def RR(id st nx:Nat):TO->TO
 |o=>o
def Hj(id st nx:Nat):List (Nat×Nat×TO)->List (Nat×Nat×TO)
 |[]=>[]
 |(i,s,o) :: l=>(i,s,RR id st nx o) :: Hj id st nx l
def Hk(id st nx:Nat):List (Nat×TV)->List (Nat×TV)
 |[]=>[]
 |(i,.v x) :: l=>(i,.v (EZ id st nx x)) :: Hk id st nx l
 |p :: l=>p :: Hk id st nx l
def putS(T:Av)(d:Option Tmp)(v:TV):Av:=match d with
 |some d=>⟨(d,v) :: T.t,T.h,T.nx,T.n,T.gs,d :: T.w,T.wo,T.b,T.rf⟩
 |none=>T
def putO(T:Av)(id:Nat)(o:TO)(re:Bool):Av :=
 ⟨Ac re (match Aw T.h id with
  |some (st,_)=>Hk id st T.nx T.t
  |none=>T.t) T.t,(id,T.nx,o) :: Ac re (match Aw T.h id with
  |some (st,_)=>Hj id st T.nx T.h
  | none=>T.h) T.h,T.nx+1,T.n,T.gs,T.w,id :: T.wo,T.b,T.rf⟩
def addG(T:Av)(tg:Nat):Av:=⟨T.t,T.h,T.nx,T.n,tg :: T.gs,T.w,T.wo,T.b,T.rf⟩
def allA(T:Av)(G:Gd):List Ae->Bool
 |[]=>true
 |a :: l=>match argP T G a with
  |some _=>allA T G l
  |none=>false
def gdT(want:Bool):TV->Option Bool
 |.v (.s (.bool b))=>some (Ac want b (!b))
 |.cnd _ _ g (.s (.bool b))=>some (g&&Ac want b (!b))
 |_=>none
def allO(T:Av)(G:Gd):Ao->Bool
 |.pick c _ _=>allA T G [c]
 |o=>allA T G o.args
def Eu(T:Av):Option Tmp->Bool
 |some d=>Ac (Nat.blt d T.n) (!memN d T.gs) false
 |none=>true
def Fa[TabOk](H:List Fe)(ty:List (Nat×CT))(T:Av)(o:Ak)(K:Av->List Nat->Option Nat->Option α):Option α:=match o.guard with
 |none=>Ac (Eu T o.dst) (Ac (Hh o.op) (Ac (Rt T.b o.op) (opO ty T o.op fun v id ob re rd=>K (putS (putO T id ob re) o.dst (.v v)) rd (some id)) none) (opV H ty T none o.op fun v rd=>K (putS T o.dst (.v v)) rd none)) none
 |some (tg,want)=>match gdT want (Az T.t tg) with
  | some g=>Ac (Eu (addG T tg) o.dst) (Ac (Hh o.op) none (Ac (allO T (some (tg,want,g)) o.op)
    (opV H ty T (some (tg,want,g)) o.op fun v rd=>K (putS (addG T tg) o.dst (.cnd tg want g v)) rd none) none)) none
  |none=>none
def Dw:List (Nat×TV)->List (Nat×TV)
 |[]=>[]
 |(i,.cnd _ _ _ _) :: l=>(i,.v (.s .top)) :: Dw l
 |p :: l=>p :: Dw l
def endT(T:Av):Av:=match T.gs with
 |[]=>T
 |_=>⟨Dw T.t,T.h,T.nx,T.n,[],T.w,T.wo,T.b,T.rf⟩
def frzP(id st:Nat)(o:TO):PV->PV
 | .ptr i s off=>Ac (Nat.beq i id) (Ac (Nat.beq s st) (match o with
  |.box cs=>.s (.cptr cs off)
  | _=>.ptr i s off) (.ptr i s off)) (.ptr i s off)
 | .vec i s=>Ac (Nat.beq i id) (Ac (Nat.beq s st) (match o with
  |.vec c l=>.s (.slc c l)
  | _=>.vec i s) (.vec i s)) (.vec i s)
 | .own i s=>Ac (Nat.beq i id) (Ac (Nat.beq s st) (match o with
  |.own c l=>.s (.slc c l)
  | _=>.own i s) (.own i s)) (.own i s)
 |x=>x
def KI(id st:Nat):PV->Bool
 |.ptr i s _=>Ac (Nat.beq i id) (Nat.beq s st) false
 |.vec i s=>Ac (Nat.beq i id) (Nat.beq s st) false
 |.own i s=>Ac (Nat.beq i id) (Nat.beq s st) false
 |_=>false
def frzT(id st:Nat)(o:TO):List (Nat×TV)->List (Nat×TV)
 |[]=>[]
 |(i,.v x) :: l=>(i,.v (frzP id st o x)) :: frzT id st o l
 |p :: l=>p :: frzT id st o l
def frzW(id st:Nat):List (Nat×TV)->List Nat->List Nat
 |[],w=>w
 |(i,.v x) :: l,w=>Ac (KI id st x) (i :: frzW id st l w) (frzW id st l w)
 |_ :: l,w=>frzW id st l w
def frzO(id st:Nat)(o:TO):TO->TO
 |x=>x
def frzH(id st:Nat)(o:TO):List (Nat×Nat×TO)->List (Nat×Nat×TO)
 |[]=>[]
 |(i,s,x) :: l=>(i,s,frzO id st o x) :: frzH id st o l
def KJ(id st:Nat):TO->Bool
 |_=>false
def Ev(id st:Nat):List (Nat×Nat×TO)->List Nat->List Nat
 |[],w=>w
 |(i,_,x) :: l,w=>Ac (KJ id st x) (i :: Ev id st l w) (Ev id st l w)
def frz1(T:Av)(id:Nat):Av:=match Aw T.h id with
 |some (st,.gone)=>T
 |some (st,.map _ _ _)=>T
 |some (st,o)=>⟨frzT id st o T.t,(id,T.nx,.gone) :: frzH id st o T.h,T.nx+1,T.n,T.gs,frzW id st T.t T.w,id :: Ev id st T.h T.wo,T.b,T.rf⟩
 |none=>T
def frzA(T:Av):List Nat->Av
 |[]=>T
 |id :: l=>frzA (frz1 T id) l
def refB(T:Av)(id:Nat):List Nat:=match Aw T.h id with
 |_=>[id]
def refA(T:Av)(bx vc:Bool):Ae->List Nat
 |.t n=>match Az T.t n with
  |.v (.own id _)=>[id]
  |.v (.vec id _)=>Ac vc [id] []
  |.v (.ptr id _ _)=>Ac bx (refB T id) []
  |_=>[]
 |_=>[]
def Fb(T:Av)(bx vc:Bool):List Ae->List Nat
 |[]=>[]
 |x :: l=>refA T bx vc x++Fb T bx vc l
def appF(T:Av)(s:Nat)(x:Ae)(l:List Nat):List Nat:=match argP T none x with
 |some (.s .nil)=>match Aw T.h s with
  |some (_,.own _ _)=>s :: l
  |_=>l
 |_=>l
def wzw2(T:Av):Ao->List Nat
 |.append s _ _ x y=>appF T s x (refA T false false y)
 |.b2s x | .slice _ _ x _ _ | .copy _ _ x=>refA T false false x
 |.callf _ l=>Fb T false true l
 |.callv x l=>Fb T false true l
 |.mkfn _ _ l=>Fb T true true l
 |.build _ ps=>Fb T false true (ps.map fun p=>p.2.2)
 |.bslice _ _ _ _ ps=>Fb T false true (ps.map fun p=>p.2.2)
 |.mupd _ _ _ y=>refA T false true y
 |.store _ x y=>refA T false true y
 |_=>[]
def mvF:List (Nat×Ae)->Ae->Ae
 |(d,y) :: l,.t n=>Ac (Nat.beq d n) y (mvF l (.t n))
 |_,x=>x
def drwF(T:Av):List (Nat×Ae)->List Ak->List Nat
 |_,[]=>[]
 |m,o :: l=>match o.guard,o.op with
  |none,.append s _ _ x _=>appF T s (mvF m x) (drwF T m l)
  |none,.mv y=>match o.dst with
   |some d=>drwF T ((d,mvF m y) :: m) l
   |none=>drwF T m l
  |_,_=>drwF T m l
def isW(H:List Fe)(o:Ak):Bool:=match o.guard,o.op with
 |none,.callf f (_ :: _)=>match IZ f H with
  |some _=>true
  |none=>match Hg f H with
   |some _=>true
   |none=>false
 |_,_=>false
def N8(H:List Fe)(T:Av)(o:Ak):List Nat:=Ac (isW H o) (match o.op with
 |.callf f (x :: l)=>Fb T false true l
 | _=>[]) (wzw2 T o.op)
def srcT(T:Av)(c:CT)(s:Nat)(x:Ae):Option (List c.T):=match argP T none x with
 |some (.s v)=>ofSl c v
 |some (.own id st)=>match Aw T.h id with
  |some (st',.own c' m)=>Ac (Nat.beq st st') (Ac (Nat.beq id s) none (B9 c' c m)) none
  |_=>none
 |some (.vec id st)=>match Aw T.h id with
  |some (st',.vec c' m)=>Ac (Nat.beq st st') (Ac (Nat.beq id s) none (B9 c' c m)) none
  |_=>none
 |some (.vs id st lo hi)=>match Aw T.h id with
  | some (st',.vec c' m)=>Ac (Nat.beq st st') (Ac (Nat.beq id s) none (match B9 c' c m with
   |some m=>some (sub m lo hi)
   | none=>none)) none
  |_=>none
 |_=>none
def clS(b d:Nat):Nat:=b+600+d
def clnT[TabOk](H:List Fe)(T:Av)(d:Option Tmp)(f:FuncId)(x:Ae)(l:List Ae)(K:Av->Option α):Option α:=match Hg f H,d with
 |some C,some d=>match srcT T C.c (clS T.b d) x,FO T none l with
  |some m,some vs=>match FN H C.a C.p vs with
   |some r=>Ac (Eu T (some d)) (Ac (inR T.b (clS T.b d)) (bd (C.F m r) fun m'=>K (putS (putO T (clS T.b d) (.vec C.c m') false) (some d) (.v (.vec (clS T.b d) T.nx)))) none) none
   |none=>none
  |_,_=>none
 |_,_=>none
def inwT[TabOk](H:List Fe)(T:Av)(d:Option Tmp)(f:FuncId)(x:Ae)(l:List Ae)(K:Av->Option α):Option α:=match IZ f H,argP T none x,FO T none l with
  |some C,some (.own id st),some vs=>match Aw T.h id,FN H C.a C.p vs with
   |some (st',.own c m),some r=>match B9 c C.c m with
    |some m=>Ac (Eu T d) (Ac (Nat.beq st st') (bd (C.F m r) fun m'=>K (putS (putO T id (.own C.c m') true) d (.v (.s (.tup []))))) none) none
    |none=>none
   |_,_=>none
  |_,_,_=>none
def inpT[TabOk](H:List Fe)(T:Av)(o:Ak)(K:Av->Option α):Option α:=match o.op with
 |.callf f (x :: l)=>match Hg f H with
  |some _=>clnT H T o.dst f x l K
  |none=>inwT H T o.dst f x l K
 |_=>none
def regT[TabOk]{α:Type}(H:List Fe)(ty:List (Nat×CT)):List Ak->Av->(Av->Option α)->Option α
 |[],T,K=>K (endT T)
 |o :: r,T,K=>(fun T=>Ac (isW H o) (inpT H T o fun T'=>regT H ty r T' K) (Fa H ty T o fun T' _ _=>regT H ty r T' K)) (frzA T (N8 H T o))
def KK[TabOk]{α:Type}(H:List Fe)(ty:List (Nat×CT)):List Ak->Av->(Av->List (List Nat×Option Nat)->Option α)->Option α
 |[],T,K=>K T []
 |o :: r,T,K=>Fa H ty T o fun T' rd out=>KK H ty r T' fun T'' tr=>K T'' ((rd,out) :: tr)
inductive SH where
 |k | v (c:CT) | c (a:Aa) | own (id:Nat) | vec (id:Nat) | ptr (id off:Nat) | mp (id:Nat)
inductive OH where
 |k | gone | box (c:CT) | own (c:CT) | vec (c:CT) | map (k v:CT)
inductive OE where
 |n | x (id:Nat) | r
structure OutH where
 e:OE
 sl:List (Nat×SH)
 ob:List (Nat×OH)
def ctsS:List (Nat×SH)->List CT->List CT
 |[],r=>r
 |(_,.v c) :: l,r=>c :: ctsS l r
 |_ :: l,r=>ctsS l r
def ctsO:List (Nat×OH)->List CT
 |[]=>[]
 |(_,.box c) :: l=>c :: ctsO l
 |(_,.own c) :: l=>.slc c :: ctsO l
 |(_,.vec c) :: l=>.slc c :: ctsO l
 |(_,.map k v) :: l=>.mp k v :: ctsO l
 |_ :: l=>ctsO l
def OutH.cts(H:OutH):List CT:=ctsS H.sl (ctsO H.ob)
def curO(T:Av)(id st:Nat):Bool:=match Aw T.h id with
 |some (st',_)=>Nat.beq st st'
 |none=>false
def curW(T:Av)(id st:Nat):Bool:=match Aw T.h id with
 |some (st',.own _ _)=>Nat.beq st st'
 |_=>false
def eqA1:SV->Aa->Bool
 |.int k n,.int k' m=>if k=k' then decide (n=m) else false
 |.bool a,.bool b=>eqB a b
 |.str a,.str b=>decide (a=b)
 |.nil,.nils=>true
 |.nilp,.nilp=>true
 |_,_=>false
def kpP(T0 T:Av):TV->Bool
 |.v (.s _)=>true
 |.v (.ptr id st _)=>curO T id st
 |.v (.vec id st)=>curO T id st
 |.v (.vs id st _ _)=>curO T id st
 |.v (.own id st)=>curO T id st
 |.v (.mp id st)=>curO T id st
 |_=>false
def DL(i:Nat):List (Nat×OH)->Bool
 |[]=>false
 | (j,o) :: l=>Ac (Nat.beq j i) (match o with
  |.own _=>true
  | _=>false) (DL i l)
def Jd(i:Nat):List (Nat×OH)->Bool
 |[]=>false
 | (j,o) :: l=>Ac (Nat.beq j i) (match o with
  |.vec _=>true
  | _=>false) (Jd i l)
def chS(T0 T:Av)(ob:List (Nat×OH)):List (Nat×SH)->Bool
 |[]=>true
 |(i,.k) :: l=>Ac (memN i T.w) false (Ac (kpP T0 T (Az T0.t i)) (chS T0 T ob l) false)
 |(i,.v c) :: l=>chS T0 T ob l
 |(i,.c a) :: l=>match Az T.t i with
  |.v (.s v)=>Ac (eqA1 v a) (chS T0 T ob l) false
  |_=>false
 |(i,.own id) :: l=>match Az T.t i with
  |.v (.own id' st)=>Ac (DL id ob) (Ac (Nat.beq id' id) (Ac (curW T id st) (chS T0 T ob l) false) false) false
  |.v (.s .nil)=>match Aw T.h id with
   |some (_,.gone)=>Ac (DL id ob) (chS T0 T ob l) false
   |none=>Ac (DL id ob) (chS T0 T ob l) false
   |_=>false
  |_=>false
 |(i,.vec id) :: l=>match Az T.t i with
  |.v (.vec id' st)=>Ac (Jd id ob) (Ac (Nat.beq id' id) (Ac (curO T id st) (chS T0 T ob l) false) false) false
  |_=>false
 |(i,.mp id) :: l=>match Az T.t i with
  |.v (.mp id' st)=>Ac (Nat.beq id' id) (Ac (curO T id st) (chS T0 T ob l) false) false
  |_=>false
 |(i,.ptr id off) :: l=>match Az T.t i with
  |.v (.ptr id' st off')=>Ac (Nat.beq id' id) (Ac (Nat.beq off' off) (Ac (curO T id st) (chS T0 T ob l) false) false) false
  |_=>false
def chO(T0 T:Av)(ob:List (Nat×OH)):List (Nat×OH)->Bool
 |[]=>true
 |(i,.k) :: l=>Ac (memN i T.wo) false (chO T0 T ob l)
 |_ :: l=>chO T0 T ob l
def hasK{Y:Type}(i:Nat):List (Nat×Y)->Bool
 |[]=>false
 |p :: l=>Ac (Nat.beq p.1 i) true (hasK i l)
def KL(l:List (Nat×OH)):List (Nat×Nat×TO)->Bool
 |[]=>true
 |p :: r=>Ac (hasK p.1 l) (KL l r) false
def svS(T:Av):List (Nat×SH)->Option (List SV)
 |[]=>some []
 |(i,.v _) :: l=>match Az T.t i,svS T l with
  |.v (.s v),some r=>some (v :: r)
  |_,_=>none
 |_ :: l=>svS T l
def svO(T:Av):List (Nat×OH)->Option (List SV)
 |[]=>some []
 |(i,.box c) :: l=>match Aw T.h i,svO T l with
  |some (_,.box cs),some r=>match Hb c cs with
   |some x=>some (wT c x :: r)
   |none=>none
  |_,_=>none
 |(i,.own c) :: l=>match Aw T.h i,svO T l with
  |some (_,.own c' m),some r=>some (.slc c' m :: r)
  |some (_,.gone),some r=>some (.slc c [] :: r)
  |none,some r=>some (.slc c [] :: r)
  |_,_=>none
 |(i,.vec c) :: l=>match Aw T.h i,svO T l with
  |some (_,.vec c' m),some r=>some (.slc c' m :: r)
  |_,_=>none
 |(i,.map k v) :: l=>match Aw T.h i,svO T l with
  |some (_,.map k' v' m),some r=>some (.mpv k' v' m :: r)
  |_,_=>none
 |_ :: l=>svO T l
def rbS(T0:Av):List (Nat×SH)->List SV->List (Nat×TV)
 |[],_=>[]
 |(i,.k) :: l,v=>(i,Az T0.t i) :: rbS T0 l v
 |(i,.v _) :: l,x :: v=>(i,.v (.s x)) :: rbS T0 l v
 |(i,.v _) :: l,[]=>rbS T0 l []
 | (i,.c a) :: l,v=>(match ofA1 a with
  |some x=>(i,.v (.s x))
  | none=>(i,.v (.s .top))) :: rbS T0 l v
 |(i,.own id) :: l,v=>(i,.v (.own id T0.nx)) :: rbS T0 l v
 |(i,.vec id) :: l,v=>(i,.v (.vec id T0.nx)) :: rbS T0 l v
 |(i,.ptr id off) :: l,v=>(i,.v (.ptr id T0.nx off)) :: rbS T0 l v
 |(i,.mp id) :: l,v=>(i,.v (.mp id T0.nx)) :: rbS T0 l v
def nV:List (Nat×SH)->Nat
 |[]=>0
 |(_,.v _) :: l=>nV l+1
 |_ :: l=>nV l
def rbO(T0:Av):List (Nat×OH)->List SV->List (Nat×Nat×TO)
 |[],_=>[]
 |(i,.k) :: l,v=>match Aw T0.h i with
  |some p=>(i,p) :: rbO T0 l v
  |none=>(i,T0.nx,.gone) :: rbO T0 l v
 |(i,.gone) :: l,v=>(i,T0.nx,.gone) :: rbO T0 l v
 | (i,.box c) :: l,x :: v=>(match x.cells with
  |some cs=>(i,T0.nx,.box cs)
  | none=>(i,T0.nx,.gone)) :: rbO T0 l v
 | (i,.own _) :: l,x :: v=>(match x with
  |.slc c m=>(i,T0.nx,.own c m)
  | _=>(i,T0.nx,.gone)) :: rbO T0 l v
 | (i,.vec _) :: l,x :: v=>(match x with
  |.slc c m=>(i,T0.nx,.vec c m)
  | _=>(i,T0.nx,.gone)) :: rbO T0 l v
 | (i,.map _ _) :: l,x :: v=>(match x with
  |.mpv k w m=>(i,T0.nx,.map k w m)
  | _=>(i,T0.nx,.gone)) :: rbO T0 l v
 |(i,_) :: l,[]=>(i,T0.nx,.gone) :: rbO T0 l []
def ltK(n:Nat):List (Nat×SH)->Bool
 |[]=>true
 |p :: l=>Ac (Nat.blt p.1 n) (ltK n l) false
def FP(sl:List (Nat×SH)):List (Nat×TV)->List Nat->List Nat
 |[],w=>w
 |p :: l,w=>Ac (hasK p.1 sl) (FP sl l w) (p.1 :: FP sl l w)
def setW:List (Nat×SH)->List Nat->List Nat
 |[],w=>w
 |(_,.k) :: l,w=>setW l w
 |(i,_) :: l,w=>i :: setW l w
def Fs:List (Nat×OH)->List Nat->List Nat
 |[],w=>w
 |(_,.k) :: l,w=>Fs l w
 |(i,_) :: l,w=>i :: Fs l w
def obR(b:Nat):List (Nat×OH)->Bool
 |[]=>true
 |p :: l=>Ac (inR b p.1) (obR b l) false
def arrT(T0 T:Av)(H:OutH):Option (Row H.cts):=match svS T H.sl,svO T H.ob with
 |some a,some b=>Ac (chS T0 T H.ob H.sl) (Ac (chO T0 T H.ob H.ob) (Ac (KL H.ob T.h) (Ac (KL H.ob T0.h) (Ac (ltK T0.n H.sl) (Ac (Nat.beq T.rf T0.rf) (Ac (obR T0.b H.ob) (Nr H.cts (a++b)) none) none) none) none) none) none) none
 |_,_=>none
def rebT(T0:Av)(H:OutH)(r:Row H.cts):Av := ⟨rbS T0 H.sl (rowW H.cts r),rbO T0 H.ob ((rowW H.cts r).drop (nV H.sl)),T0.nx+1,T0.n,[],setW H.sl (FP H.sl T0.t T0.w),Fs H.ob T0.wo,T0.b,T0.rf⟩
def OutT:List OutH->Type
 |[]=>Unit
 |[H]=>Row H.cts
 |H :: l=>Row H.cts⊕OutT l
def isE:OE->Exit->Bool
 |.n,.normal=>true
 |.x i,.exit j=>Nat.beq i j
 |.r,.ret=>true
 |_,_=>false
def OE.ex:OE->Exit
 |.n=>.normal
 |.x i=>.exit i
 |.r=>.ret
def injT(T0:Av):(l:List OutH)->Exit->Av->Option (OutT l)
 |[],_,_=>none
 |[H],e,T=>Ac (isE H.e e) (arrT T0 T H) none
 | H :: H' :: l,e,T=>Ac (isE H.e e) (match arrT T0 T H with
  |some r=>some (.inl r)
  |none=>none) (match injT T0 (H' :: l) e T with
  |some r=>some (.inr r)
  | none=>none)
def aftT{α:Type}(T0:Av)(K:Exit->Av->Option α):(l:List OutH)->OutT l->Option α
 |[],_=>none
 |[H],r=>K H.e.ex (rebT T0 H r)
 |H :: H' :: l,r=>match r with
  |.inl r=>K H.e.ex (rebT T0 H r)
  |.inr r=>aftT T0 K (H' :: l) r
inductive HT where
 |n
 |s (a b:HT)
 |c (J:Option (List OutH)) (a b:HT)
 |b (J:Option (List OutH)) (h:HT)
 |l (fz:List Nat) (hd:OutH) (J:List OutH) (h:HT)
def cl0(T:Av):Av:=⟨T.t,T.h,T.nx,T.n,[],[],[],T.b,T.rf⟩
def RS(J:Option (List OutH))(T:Av)(inner:(Y:Type)->Av->(Exit->Av->Option Y)->Option Y)(K:Exit->Av->Option α):Option α:=match J with
 |none=>inner α T K
 |some l=>bd (inner (OutT l) (cl0 T) (injT T l)) (aftT T K l)
def refI(T:Av):List ARes->List Nat
 |[]=>[]
 |.t _ :: l=>refI T l
 | .c n _ _ :: l=>(match Az T.t n with
  |.v (.ptr id _ _)=>match Aw T.h id with
   |_=>[]
  | _=>[])++refI T l
def frzR(rs:List ARes)(T:Av):Av:=frzA T (Fb T false true (rs.map fun r=>match r with
 |.t n=>.t n
 | .c n _ _=>.t n)++refI T rs)
def Ce[TabOk](H:List Fe)(ty:List (Nat×CT))(rs:List ARes):AO->(α:Type)->HT->Av->(Exit->Av->Option α)->Option α
 |.skip,_,_,T,K=>K .normal T
 |.reg false ops _,_,h,T,K=>regT H ty ops T (K .normal)
 |.reg true ops pr,_,_,T,K=>(fun T=>KK H ty ops T fun T' tr=>Ac (Fy ops pr tr) (K .normal (endT T')) none) (frzA T (drwF T [] ops))
 |.seq a b,α,h,T,K=>Ce H ty rs a α (match h with | .s x _=>x | _=>.n) T fun e T'=>match e with
  |.normal=>Ce H ty rs b α (match h with | .s _ y=>y | _=>.n) T' K
  |e=>K e T'
 | .cond c a b,α,h,T,K=>RS (match h with | .c J _ _=>J | _=>none) T (fun Y T K=>match argP T none c with
  |some (.s (.bool x))=>match c with
   |.c _=>Ac x (Ce H ty rs a Y (match h with | .c _ p _=>p | _=>.n) T K) (Ce H ty rs b Y (match h with | .c _ _ q=>q | _=>.n) T K)
   |_=>ite' x (Ce H ty rs a Y (match h with | .c _ p _=>p | _=>.n) T K) (Ce H ty rs b Y (match h with | .c _ _ q=>q | _=>.n) T K)
  | _=>none) K
 |.ret,_,_,T,K=>K .ret (frzR rs T)
 |.exit i,_,_,T,K=>K (.exit i) T
 |.scope c,α,h,T,K=>Ce H ty rs c α h T fun e T'=>match e with
  |.goto _=>none
  |e=>K e T'
 |.label _,_,_,T,K=>K .normal T
 |.any,_,_,_,_=>none
 | .block i c,α,h,T,K=>RS (match h with | .b J _=>J | _=>none) T (fun Y T K=>Ce H ty rs c Y (match h with | .b _ p=>p | _=>.n) T fun e T'=>match e with
  |.exit j=>Ac (Nat.beq j i) (K .normal T') (K (.exit j) T')
  | e=>K e T') K
 | .loop c,α,.l fz hd J h,T0,K=>(fun T=>match arrT T (cl0 T) hd with
  | some r0=>bd (lp (fun r=>Ce H ty rs c (Row hd.cts⊕OutT J) h (rebT (cl0 T) hd r) fun e T'=>match e with
   |.normal=>match arrT T T' hd with
    |some r=>some (.inl r)
    |none=>none
   |e=>match injT T J e T' with
    |some r=>some (.inr r)
    | none=>none) r0) (aftT T K J)
  | none=>none) (frzA T0 fz)
 |.loop _,_,_,_,_=>none
def resS(T:Av):List ARes->Option (List SV)
 |[]=>some []
 |.t n :: l=>match Az T.t n,resS T l with
  |.v (.s v),some r=>some (v :: r)
  |_,_=>none
 |.c n agg sz :: l=>match Az T.t n,resS T l with
  |.v (.ptr id st 0),some r=>match Aw T.h id with
   |some (st',.box cs)=>Ac (Nat.beq st st') (Ac (Nat.beq sz cs.length) (Ac (Ac agg true (Nat.beq sz 1)) (some (ldS agg sz cs 0 :: r)) none) none) none
   |_=>none
  |_,_=>none
def resT[TabOk](H:List Fe)(rs:List ARes)(cs:List CT)(e:Exit)(T:Av):Option (Row cs):=match e with
 |.ret=>match resS T rs with
  |some l=>FN H cs [] l
  |none=>none
 |_=>none
def zipS:Nat->List SV->List (Nat×TV)
 |_,[]=>[]
 |i,x :: l=>(i,.v (.s x)) :: zipS (i+1) l
def iniT(n:Nat)(a:List CT)(p:List Bool)(x:Row a):Av:=⟨zipS 0 (prmS a p x),[],0,n,[],[],[],0,0⟩
def funT[TabOk](H:List Fe)(ty:List (Nat×CT))(rs:List ARes)(n:Nat)(c:AO)(h:HT)(C:Fc)(x:Row C.a):Option (Row C.r):=Ce H ty rs c _ h (iniT n C.a C.p x) (resT H rs C.r)
end
structure HD where
 ep:Nat
 n:Nat
 f:Nat->List Aa
variable {G:HD}
abbrev Con:=Unit
structure Phi where
 o:Nat->Nat->HD
 X:Aq
 ds:List (Nat×Nat)
 c:Con
variable {U U':Phi}
instance:CoeFun Phi fun _=>Nat->Nat->HD:=⟨Phi.o⟩
structure Ext(nx:Nat)(U U':Phi):Prop where
 s:∀id st,st<nx->U' id st=U id st
 c:U'.c=U.c
theorem Ext.refl(nx:Nat)(U:Phi):Ext nx U U:=⟨fun _ _ _=>rfl,rfl⟩
theorem Ext.trans{nx nx':Nat}{U U' U'':Phi}(h:Ext nx U U')(k:Ext nx' U' U'')(hn:nx<=nx'):Ext nx U U'':=⟨fun id st hs=>(k.s id st (by omega)).trans (h.s id st hs),k.c.trans h.c⟩
def upd(U:Phi)(id nx:Nat)(G:HD):Phi:=⟨fun i s=>if i=id/\s=nx then G else U i s,U.X,U.ds,U.c⟩
theorem RT:Ext nx U (upd U id nx G):=⟨fun i s h=>by show(if i=id/\s=nx then G else U i s)=U i s;rw[Ag (by omega)],rfl⟩
theorem yzj:upd U id nx G id nx=G:=by simp[upd]
theorem Hl{i:Nat}:∀{l:List Nat},memN i l=true↔i∈l
 |[]=>by simp[memN]
 |j :: l=>by
  show Ac (Nat.beq j i) true (memN i l)=true↔_;cases h:Nat.beq j i
  ·have:=Et.1 h;rw[qzqa,Hl,AV];exact⟨.inr,fun h=>h.resolve_left fun e=>this e.symm⟩
  ·have:=AN.1 h;subst this;rw[IQ];simp
theorem yzi(h:inR b i=true):b<=i/\i<b+900:=by
 unfold inR at h;cases h1:Nat.ble b i<;>rw[h1]at h
 ·cases h
 ·exact⟨Lt h1,by simpa [Gu] using(show Nat.blt i (b+900)=true from h)⟩
section
variable [Tab]
def eP(U:Phi):PV->Aa
 |.s v=>A6 v
 |.ptr id st off=>.ptr id (U id st).ep off
 |.eptr id st j off _ _=>.eptr id (U id st).ep j.toNat off
 |.vec id st=>.vec id (U id st).ep 0 (U id st).n
 |.vs id st lo hi=>.vec id (U id st).ep lo.toNat (hi-lo).toNat
 |.mp id st=>.mp id (U id st).ep
 |.own id st=>match (U id st).n with
  |0=>.nils
  |n+1=>.vec id (U id st).ep 0 (n+1)
def eT(U:Phi):TV->Aa
 |.v x=>eP U x
 |.cnd _ _ g x=>.cnd g (eP U x)
def eO(U:Phi)(ep:Nat):TO->Ad
 |.map k v l=>.amap ep (l.map fun p=>(A6 (wT k p.1),A6 (wT v p.2)))
 |.gone=>.gone ep
 |.box cs=>.box ep (Ax cs)
 |.vec c l=>.vec ep c.n l.length (Ai c.cA l)
 |.own c l=>ownO ep c.n c.cA l
def eTm(U:Phi)(t:List (Nat×TV)):List (Nat×Aa):=t.map fun p=>(p.1,eT U p.2)
def hO(U:Phi)(id:Nat):Option (Nat×TO)->Ad
 |some (st,o)=>eO U (U id st).ep o
 |none=>U.X id
def em(U:Phi)(T:Av):Au:=⟨tl (eTm U T.t) T.n,fun i=>hO U i (Aw T.h i),U.ds⟩
def OkO(G:HD):TO->Prop
 |.vec c l=>G.n=l.length/\G.f=Ai c.cA l
 |.own c l=>G.n=l.length/\G.f=Ai c.cA l
 |_=>True
def OkP(U:Phi):PV->Prop
 |.eptr id st j off c x=>0<=j/\j.toNat<(U id st).n/\(U id st).f j.toNat=c.cA x
 |.vs id st lo hi=>0<=lo/\lo<=hi/\hi<=(U id st).n
 |_=>True
def StP(nx:Nat):PV->Prop
 |.s _=>True
 |.ptr _ st _ | .eptr _ st _ _ _ _ | .vec _ st | .vs _ st _ _ | .own _ st | .mp _ st=>st<nx
def RfO(U:Phi)(nx:Nat):TO->Prop
 |_=>True
def TOk(U:Phi)(T:Av):TV->Prop
 |.v x=>StP T.nx x/\OkP U x
 |.cnd tg want g x=>StP T.nx x/\(g=true->OkP U x)/\memN tg T.gs=true/\gdT want (Az T.t tg)=some g
structure Fr(U:Phi)(T:Av):Prop where
 ro:∀id p,Aw T.h id=some p->inR T.b id=true
 rx:∀i,inR T.b i=true->∃e,U.X i=.gone e
 rz:∀i,T.b+900+2*T.rf<=i->i<T.b+1000->∃e,U.X i=.gone e
 dd:∀D∈U.ds,U.X D.1=.dfr D.2/\T.b+900<=D.1/\D.1<T.b+900+2*T.rf
 ry:T.b=0->T.rf<50->∀i,1000<=i->i<2000->∃e,U.X i=.gone e
 cs:True
 yo:True
structure InvT(U:Phi)(T:Av):Prop where
 sl:∀i,TOk U T (Az T.t i)
 hi:∀i,T.n<=i->Az T.t i=.v (.s .top)
 ob:∀id st o,Aw T.h id=some (st,o)->st<T.nx/\OkO (U id st) o/\RfO U T.nx o
 fr:Fr U T
theorem Bt{p:Nat×TV}{l:List (Nat×TV)}:Az (p :: l) i=if p.1=i then p.2 else Az l i:=by
 show Ac (Nat.beq p.1 i) _ _=_;cases h:Nat.beq p.1 i
 ·rw[Ag (Et.1 h)];rfl
 ·rw[Aj (AN.1 h)];rfl
theorem Cr{p:Nat×Nat×TO}{l:List (Nat×Nat×TO)}:Aw (p :: l) i=if p.1=i then some p.2 else Aw l i:=by
 show Ac (Nat.beq p.1 i) _ _=_;cases h:Nat.beq p.1 i
 ·rw[Ag (Et.1 h)];rfl
 ·rw[Aj (AN.1 h)];rfl
theorem Lp{U:Phi}:∀(t:List (Nat×TV)) (i:Nat),look (eTm U t) i=eT U (Az t i)
 |[],i=>rfl
 |p :: l,i=>by
  rw[Bt];show(if p.1=i then eT U p.2 else look (eTm U l) i)=_;split
  ·rfl
  ·exact Lp l i
theorem em_t{T:Av}(hI:InvT U T)(i:Nat):(em U T).t.getD i .top=eT U (Az T.t i):=by
 show(tl (eTm U T.t) T.n).getD i .top=_;rw[yzd];split
 ·exact Lp _ _
 ·rename_i h;rw[hI.hi i (by omega)];rfl
theorem em_h{T:Av}(id:Nat):(em U T).h id=hO U id (Aw T.h id):=rfl
theorem Hm{T:Av}{o:TO}(h:Aw T.h id=some (st,o)):(em U T).h id=eO U (U id st).ep o:=by rw[em_h,h];rfl
theorem N9{o:TO}:(eO U e o).ep=e:=by
 cases o with
 |own c l=>cases l<;>rfl
 |_=>rfl
theorem qzq2{o:TO}:(eO U e o).plain:=by
 cases o with
 |own c l=>cases l<;>exact trivial
 |_=>exact trivial
theorem wzix{T:Av}(hI:InvT U T)(h:inR T.b id=true):(hO U id (Aw T.h id)).plain:=by
 cases hx:Aw T.h id with
 |none=>obtain⟨e,he⟩:=hI.fr.rx id h;show(U.X id).plain;rw[he];trivial
 |some p=>exact qzq2 (U:=U)
theorem NA{T:Av}(hI:InvT U T)(id:Nat)(h:inR T.b id=true):((em U T).h id).plain:=wzix hI h
theorem NB{T:Av}(hI:InvT U T):∀D∈(em U T).ds,(em U T).h D.1=.dfr D.2:=by
 intro D hD;obtain⟨h1,h2,h3⟩:=hI.fr.dd D hD;rw[em_h];cases hx:Aw T.h D.1 with
 |none=>exact h1
 |some p =>have:=yzi (hI.fr.ro _ _ hx);omega
theorem RU(l:List SV)(off:Nat)(p:List SV):Ax (layS l off p)=lay (Ax l) off (Ax p):=by unfold layS lay;simp only[Nt,Nu,Nv,Gr]
theorem NC{l:List SV}:A6 (ldS agg sz l off)=ldv agg sz (Ax l) off:=by
 cases agg
 ·exact qzvm l off
 ·show Aa.agg (Ax _)=_;rw[Nu,Nv];rfl
theorem ND{a:Aa}{v:SV}(h:ofA1 a=some v):A6 v=a:=by cases a<;>simp only[ofA1]at h<;>cases h<;>rfl
theorem Hn:∀{l:List Aa} {m:List SV},ofAL l=some m->Ax m=l
 |[],m,h=>by cases h;rfl
 |a :: l,m,h=>by
  simp only[ofAL]at h;cases h1:ofA1 a with
  |none=>rw[h1]at h;cases h
  |some x =>
   cases h2:ofAL l with
   |none=>rw[h1,h2]at h;cases h
   |some y =>rw[h1,h2]at h;cases h;show A6 x :: Ax y=_;rw[ND h1,Hn h2]
theorem KM{a:Aa}{v:SV}(h:ofA a=some v):A6 v=a:=by
 unfold ofA at h;split at h
 ·rename_i l;cases hl:ofAL l with
  |none=>rw[hl]at h;cases h
  |some m=>rw[hl]at h;cases h;show Aa.agg (Ax m)=_;rw[Hn hl]
 ·cases h;rfl
 ·cases h;rfl
 ·exact ND h
theorem KO(x:PV):unv (eP U x)=eP U x:=by
 cases x with
 |s v=>exact Rl v
 |own id st=>show unv (match (U id st).n with | 0=>.nils | n+1=>.vec id (U id st).ep 0 (n+1))=match (U id st).n with | 0=>.nils | n+1=>.vec id (U id st).ep 0 (n+1);cases (U id st).n<;>rfl
 |_=>rfl
theorem KP(x:PV)(c:Bool):unc c (eP U x):=by
 cases x with
 |s v=>exact Rm v c
 |own id st=>show unc c (match (U id st).n with | 0=>.nils | n+1=>.vec id (U id st).ep 0 (n+1));cases (U id st).n<;>exact trivial
 |_=>exact trivial
theorem qzps:∀{l:List SV},oneS l=true->BD (Ax l)=true
 |[],_=>rfl
 |x :: l,h=>by
  show((A6 x).one&&BD (Ax l))=true;cases x with
  |_=>simp only[oneS]at h<;>first|(cases h;done)|(rw[qzps h];rfl)
theorem Je(h:Ext nx U U'){x:PV}(hx:StP nx x):eP U' x=eP U x:=by cases x<;>simp only[StP]at hx<;>simp only[eP]<;>first|rw[h.s _ _ hx]|rw[h.c]|rfl
theorem Jf(h:Ext nx U U'){x:PV}(hx:StP nx x)(k:OkP U x):OkP U' x:=by
 cases x<;>simp only[StP]at hx<;>simp only[OkP]at k |-
 ·rw[h.s _ _ hx];exact k
 ·rw[h.s _ _ hx];exact k
theorem FQ{n:Nat}(h:n<=m){x:PV}(hx:StP n x):StP m x:=by cases x<;>simp only[StP]at hx |-<;>omega
end
def act:Gd->Prop
 |none=>True
 |some (_,_,g)=>g=true
theorem Dx{G:Gd}{c:Bool}{r:α}(h:ckg G c X=some r):X=some r/\(act G->c=true):=by
 cases G with
 |none=>cases c<;>first|(cases h;done)|exact⟨h,fun _=>rfl⟩
 |some q =>
  obtain⟨a,b,g⟩:=q;cases g
  ·cases c<;>exact⟨h,fun e=>by cases e⟩
  ·cases c;·cases h
   ·exact⟨h,fun _=>rfl⟩
theorem KQ{α Y:Type}[Inhabited Y]{G:Gd}{x:Option Y}{K:Y->Option α}{r:α}(h:bdg G x K=some r):∃v,K v=some r/\(act G->x=some v):=by
 cases G with
 |none=>cases x with
  |none=>cases h
  |some v=>exact⟨v,h,fun _=>rfl⟩
 |some q =>
  obtain⟨a,b,g⟩:=q;cases g
  ·exact⟨default,h,fun e=>by cases e⟩
  ·cases x with
   |none=>cases h
   |some v=>exact⟨v,h,fun _=>rfl⟩
theorem AJ{c:Bool}{r:α}(h:Ac c X none=some r):c=true/\X=some r:=by
 cases c
 ·cases h
 ·exact⟨rfl,h⟩
theorem NE{G:Gd}{l c:Bool}{r:α}(h:ckl G l c X=some r):X=some r/\(act G->c=true):=by
 cases l
 ·exact Dx h
 ·have:=AJ h;exact⟨this.2,fun _=>this.1⟩
theorem NF(h:(Ac agg true (Nat.beq sz 1))=true):agg=false->sz=1:=by intro e;subst e;exact AN.1 h
theorem wziz{l:List Int}(e1:ar x=.slc 1 l.length (Ai (cI .u8) l)):(Ao.b2s x).req ar hh=⟨True/\1=1,[],.str (Ca l),none⟩:=by show Ln (ar x) hh=_;rw[e1];unfold Ln;simp only[Bo,wzq]
theorem wzkh{l:List Int}(e1:ar x=.vec id e 0 l.length)(e2:hh id=.vec e 1 l.length (Ai (cI .u8) l)):(Ao.b2s x).req ar hh=⟨(e=e/\0+l.length<=l.length)/\1=1,[id],.str (Ca l),none⟩:=by show Ln (ar x) hh=_;rw[e1];unfold Ln;simp only[Bo,e2,Bn];rw[show(fun k=>Ai (cI .u8) l k)=Ai (cI .u8) l from rfl,wzq]
theorem NG:∀{l m:List Aa},BD (l++m)=(BD l&&BD m)
 |[],m=>rfl
 |x :: l,m=>by show(x.one&&BD (l++m))=((x.one&&BD l)&&BD m);rw[NG,Bool.and_assoc]
theorem VEq.of_w{x y:Aa}(h:W x y):VEq x y:=fun _ _ _ hr=>hr.w h
theorem wzj0{l:List Aa}(h:off+sz<=l.length):(List.range sz).map (fun j=>l.getD (off+j) .top)=(l.drop off).take sz:=by
 apply Lr;intro i;by_cases hi:i<sz
 ·have:off+i<l.length:=by omega
  simp[hi,this]
 ·simp[hi];omega
section
variable [Tab]
structure Ar(U:Phi)(T:Av)(G:Gd)(ar:Ae->Aa)(hh:Aq):Prop where
 a:∀a x,argP T G a=some x->ar a=eP U x/\StP T.nx x/\(act G->OkP U x)
 h:∀id st o,Aw T.h id=some (st,o)->hh id=eO U (U id st).ep o/\OkO (U id st) o/\RfO U T.nx o
def VR(U:Phi)(T:Av)(G:Gd)(ar:Ae->Aa)(hh:Aq)(o:Ao)(K:PV->List Nat->Option α)(r:α):Prop := ∃p rd,K p rd=some r/\StP T.nx p/\o.quiet=true/\(act G->OkP U p/\(o.req ar hh).ok/\VEq (o.req ar hh).v (eP U p)/\(∀j∈(o.req ar hh).rd,j∈rd)/\OutW hh (o.req ar hh).out none)
section
variable {H:List Fe}{T:Av}{G:Gd}{K:PV->List Nat->Option α}{r:α}
theorem VR.mk{o:Ao}{p:PV}{rd:List Nat}(hq:o.quiet=true)(hs:StP T.nx p)(h:K p rd=some r)(k:act G->OkP U p/\∃q x l,o.req ar hh=⟨q,l,x,none⟩/\q/\VEq x (eP U p)/\∀j∈l,j∈rd):VR U T G ar hh o K r := ⟨p,rd,h,hs,hq,fun ha=>by obtain⟨h1,q,x,l,e,h2,h3,h4⟩:=k ha;rw[e];exact⟨h1,h2,h3,h4,trivial⟩⟩
theorem VR.val{o:Ao}{v:SV}(hq:o.quiet=true)(h:K (.s v) []=some r)(k:act G->∃q x,o.req ar hh=⟨q,[],x,none⟩/\q/\VEq x (A6 v)):VR U T G ar hh o K r :=
 .mk (p:=.s v) (rd:=[]) hq trivial h fun ha=>by obtain⟨q,x,e,h1,h2⟩:=k ha;exact⟨trivial,q,x,[],e,h1,h2,fun j hj=>by cases hj⟩
theorem VR.valR{o:Ao}{v:SV}{rd:List Nat}(hq:o.quiet=true)(h:K (.s v) rd=some r)(k:act G->∃q x,o.req ar hh=⟨q,rd,x,none⟩/\q/\VEq x (A6 v)):VR U T G ar hh o K r :=
 .mk (p:=.s v) (rd:=rd) hq trivial h fun ha=>by obtain⟨q,x,e,h1,h2⟩:=k ha;exact⟨trivial,q,x,rd,e,h1,h2,fun j hj=>hj⟩
theorem Ho{k:IntKind}{n:Int}(h:ckS G k n K=some r):K (.s (.int k (cut k n))) []=some r/\(act G->inr k n):=by
 cases k<;>simp only[ckS]at h<;>first
  |(have:=Dx h;exact⟨this.1,fun ha=>wzop (this.2 ha)⟩)
  |exact⟨h,fun _=>trivial⟩
theorem wzwq(hA:Ar U T G ar hh)(h:v_mv H T G x K=some r):VR U T G ar hh (.mv x) K r:=by
 unfold v_mv at h;split at h
 ·rename_i p hp;obtain⟨h1,h2,h3⟩:=hA.a _ _ hp;exact .mk rfl h2 h fun ha=>⟨h3 ha,_,_,_,rfl,trivial,by rw[h1];exact .refl _,fun j hj=>by cases hj⟩
 ·exact .val rfl h fun _=>⟨_,_,rfl,trivial,.of_w (.top _)⟩
 ·cases h
theorem wzqh{op:BinOp}{k:IntKind}{a b:Int}{l bs:Bool}(hx:act G->ar x=.int k a)(hy:act G->ar y=.int k b)(hs:Fv op=false)(h:binI G op k a b l K=some r):VR U T G ar hh (.bin op bs x y) K r:=by
 have aD:act G->(Ao.bin op bs x y).req ar hh=Jv op k a b:=fun ha=>by show Lm op bs (ar x) (ar y)=_;rw[hx ha,hy ha];show(if Fv op=true then Ju op k a b else if k=k then Jv op k a b else Req.fail)=_;rw[Ag (by rw[hs];exact Bool.false_ne_true),Aj rfl]
 cases op<;>simp only[binI]at h<;>(try (cases h;done))
 case add=>have:=Ho h;exact .val rfl this.1 fun ha=>⟨_,_,aD ha,this.2 ha,.refl _⟩
 case sub=>have:=Ho h;exact .val rfl this.1 fun ha=>⟨_,_,aD ha,this.2 ha,.refl _⟩
 case mul=>have:=Ho h;exact .val rfl this.1 fun ha=>⟨_,_,aD ha,this.2 ha,.refl _⟩
 case quo =>have h0:=NE h;have:=Ho h0.1;exact .val rfl this.1 fun ha=>⟨_,_,aD ha,⟨by simpa using h0.2 ha,this.2 ha⟩,.refl _⟩
 case rem =>have h0:=NE h;exact .val rfl h0.1 fun ha=>⟨_,_,aD ha,by simpa using h0.2 ha,.refl _⟩
 all_goals exact .val rfl h fun ha=>⟨_,_,aD ha,trivial,.refl _⟩
theorem wzi1{op:BinOp}{k k':IntKind}{a b:Int}{l bs:Bool}(hx:act G->ar x=.int k a)(hy:act G->ar y=.int k' b)(h:Ru G op k a b l K=some r):VR U T G ar hh (.bin op bs x y) K r:=by
 have aD:Fv op=true->act G->(Ao.bin op bs x y).req ar hh=Ju op k a b:=fun hs ha=>by show Lm op bs (ar x) (ar y)=_;rw[hx ha,hy ha];show(if Fv op=true then Ju op k a b else if k=k' then Jv op k a b else Req.fail)=_;rw[Aj hs]
 cases op<;>simp only[Ru]at h<;>(try (cases h;done))
 case shl =>have h0:=NE h;have:=Ho h0.1;exact .val rfl this.1 fun ha=>⟨_,_,aD rfl ha,⟨by simpa using h0.2 ha,this.2 ha⟩,.refl _⟩
 case shr =>have h0:=NE h;exact .val rfl h0.1 fun ha=>⟨_,_,aD rfl ha,by simpa using h0.2 ha,.refl _⟩
theorem wzqq{op:BinOp}{a b:List UInt8}{bs:Bool}(hx:act G->ar x=.str a)(hy:act G->ar y=.str b)(h:binS G op a b K=some r):VR U T G ar hh (.bin op bs x y) K r:=by
 have aD:act G->(Ao.bin op bs x y).req ar hh=yzk op a b:=fun ha=>by show Lm op bs (ar x) (ar y)=_;rw[hx ha,hy ha];rfl
 cases op<;>simp only[binS]at h<;>(try (cases h;done))
 case add=>have:=Dx h;exact .val rfl this.1 fun ha=>⟨_,_,aD ha,by simpa using this.2 ha,.refl _⟩
 all_goals exact .val rfl h fun ha=>⟨_,_,aD ha,trivial,.refl _⟩
theorem wzs8(hA:Ar U T G ar hh){op:BinOp}{bs:Bool}(h:Ry H T G op bs x y K=some r):VR U T G ar hh (.bin op bs x y) K r:=by
 unfold Ry at h;split at h
 ·rename_i k a k' b h1 h2;have e1:=(hA.a _ _ h1).1;have e2:=(hA.a _ _ h2).1;cases hs:Fv op
  ·rw[hs]at h;replace h:=AJ h;rw[CA]at h;obtain⟨rfl,h⟩:=h;exact wzqh (fun _=>e1) (fun _=>e2) hs h
  ·rw[hs]at h;exact wzi1 (fun _=>e1) (fun _=>e2) h
 ·rename_i a b h1 h2;exact wzqq (fun _=>(hA.a _ _ h1).1) (fun _=>(hA.a _ _ h2).1) h
 ·rename_i a b h1 h2;have e1:ar x=.bool a:=(hA.a _ _ h1).1;have e2:ar y=.bool b:=(hA.a _ _ h2).1;split at h
  ·exact .val rfl h fun _=>⟨True,.bool (a==b),by show Lm .eql true (ar x) (ar y)=_;rw[e1,e2];rfl,trivial,.refl _⟩
  ·exact .val rfl h fun _=>⟨True,.bool (!(a==b)),by show Lm .neq true (ar x) (ar y)=_;rw[e1,e2];rfl,trivial,.refl _⟩
  ·cases h
 ·cases h
theorem wztq(hA:Ar U T G ar hh)(h:Rz H T G x K=some r):VR U T G ar hh (.not x) K r:=by
 unfold Rz at h;split at h
 ·rename_i b h1;have e1:ar x=.bool b:=(hA.a _ _ h1).1;exact .val rfl h fun _=>⟨True,.bool (!b),by simp only[Ao.req,e1];rfl,trivial,.refl _⟩
 ·cases h
theorem wzs7(hA:Ar U T G ar hh)(h:R0 H T G x K=some r):VR U T G ar hh (.neg x) K r:=by
 unfold R0 at h;split at h
 ·rename_i k n h1;have e1:ar x=.int k n:=(hA.a _ _ h1).1;have:=Ho h;exact .val rfl this.1 fun ha=>⟨inr k (0-n),.int k (cut k (0-n)),by simp only[Ao.req,e1];rfl,by rw[Int.zero_sub];exact this.2 ha,by rw[Int.zero_sub];exact .refl _⟩
 ·cases h
theorem wzra(hA:Ar U T G ar hh){k:IntKind}(h:R3 H T G k x K=some r):VR U T G ar hh (.conv k x) K r:=by
 unfold R3 at h;split at h
 ·rename_i k' n h1;have e1:ar x=.int k' n:=(hA.a _ _ h1).1;have:=Ho h;exact .val rfl this.1 fun ha=>⟨inr k n,.int k (cut k n),by simp only[Ao.req,e1];rfl,this.2 ha,.refl _⟩
 ·cases h
theorem wzsz(hA:Ar U T G ar hh)(h:RD H T G x y K=some r):VR U T G ar hh (.max x y) K r:=by
 unfold RD at h;split at h
 ·rename_i k a k' b h1 h2;have e1:ar x=.int k a:=(hA.a _ _ h1).1;have e2:ar y=.int k' b:=(hA.a _ _ h2).1;replace h:=AJ h;rw[CA]at h;obtain⟨rfl,h⟩:=h;exact .val rfl h fun _=>⟨True,.int k (Max.max a b),by simp[Ao.req,e1,e2,Req.val],trivial,.refl _⟩
 ·cases h
theorem wzt2(hA:Ar U T G ar hh)(h:RE H T G x y K=some r):VR U T G ar hh (.min x y) K r:=by
 unfold RE at h;split at h
 ·rename_i k a k' b h1 h2;have e1:ar x=.int k a:=(hA.a _ _ h1).1;have e2:ar y=.int k' b:=(hA.a _ _ h2).1;replace h:=AJ h;rw[CA]at h;obtain⟨rfl,h⟩:=h;exact .val rfl h fun _=>⟨True,.int k (Min.min a b),by simp[Ao.req,e1,e2,Req.val],trivial,.refl _⟩
 ·cases h
theorem Ar.own(hA:Ar U T G ar hh){c:CT}{l:List c.T}(h:Aw T.h id=some (st,.own c l)):hh id=ownO (U id st).ep c.n c.cA l/\(U id st).n=l.length/\(U id st).f=Ai c.cA l:=⟨(hA.h _ _ _ h).1,(hA.h _ _ _ h).2.1.1,(hA.h _ _ _ h).2.1.2⟩
theorem Ar.ep(hA:Ar U T G ar hh){o:TO}(h:Aw T.h id=some (st,o)):(hh id).ep=(U id st).ep:=by rw[(hA.h _ _ _ h).1,N9]
theorem wztg(hA:Ar U T G ar hh){s:Bool}(h:RB H T G s x K=some r):VR U T G ar hh (.len s x) K r:=by
 unfold RB at h;split at h
 ·rename_i c l h1;have e1:ar x=slcV c.n c.cA l:=(hA.a _ _ h1).1;exact .val rfl h fun _=>⟨True,.int .i64 l.length,by simp only[Ao.req,e1,slcV];rfl,trivial,.refl _⟩
 ·rename_i h1;have e1:ar x=.nils:=(hA.a _ _ h1).1;exact .val rfl h fun _=>⟨True,.int .i64 0,by simp only[Ao.req,e1];rfl,trivial,.refl _⟩
 ·rename_i id vst h1;have e1:=(hA.a _ _ h1).1;simp only[eP]at e1;split at h
  ·rename_i st' c l ho;replace h:=AJ h;obtain⟨hb,h⟩:=h;obtain rfl:=AN.1 hb;obtain⟨pd,pe⟩:=hA.h _ _ _ ho;exact .valR rfl h fun _=>⟨_,_,by simp only[Ao.req,e1];rfl,by rw[pd,N9],by rw[pe.1.1];exact .refl _⟩
  ·cases h
 ·rename_i s h1;have e1:ar x=.str s:=(hA.a _ _ h1).1;exact .val rfl h fun _=>⟨True,.int .i64 s.length,by simp only[Ao.req,e1];rfl,trivial,.refl _⟩
 ·cases h
theorem wzpj(hA:Ar U T G ar hh){i:Ae}(h:R9 H T G x i K=some r):VR U T G ar hh (.sidx x i) K r:=by
 unfold R9 at h;split at h
 ·rename_i s k j h1 h2;have e1:ar x=.str s:=(hA.a _ _ h1).1;have e2:ar i=.int k j:=(hA.a _ _ h2).1;have:=Dx h;exact .val rfl this.1 fun ha=>⟨0<=j/\j<s.length,.int .u8 (Cy s j),by simp only[Ao.req,e1,e2];rfl,wzo6 (this.2 ha),.refl _⟩
 ·cases h
theorem wzch(hA:Ar U T G ar hh)(h:R8 H T G i x K=some r):VR U T G ar hh (.extract i x) K r:=by
 unfold R8 at h;split at h
 ·rename_i l h1;have e1:ar x=.tup (Ax l):=(hA.a _ _ h1).1;replace h:=AJ h;obtain⟨hb,h⟩:=h;exact .val rfl h fun _=>⟨i<(Ax l).length,(Ax l).getD i .top,by simp only[Ao.req,e1];rfl,by rw[Gr];simpa [Gu] using hb,by rw[qzvm];exact .refl _⟩
 ·cases h
theorem Ar.box(hA:Ar U T G ar hh){cs:List SV}(h:Aw T.h id=some (st,.box cs)):hh id=.box (U id st).ep (Ax cs):=(hA.h _ _ _ h).1
theorem Ar.vec(hA:Ar U T G ar hh){c:CT}{l:List c.T}(h:Aw T.h id=some (st,.vec c l)):hh id=.vec (U id st).ep c.n l.length (Ai c.cA l)/\(U id st).n=l.length/\(U id st).f=Ai c.cA l:=⟨(hA.h _ _ _ h).1,(hA.h _ _ _ h).2.1.1,(hA.h _ _ _ h).2.1.2⟩
theorem qzv2{c:CT}{l:List c.T}{j:Int}{v:c.T}(h:at? l j=some v):0<=j/\j<l.length/\j.toNat<l.length/\Ai c.cA l j.toNat=c.cA v:=by obtain⟨h1,h2,h3⟩:=In h;exact⟨h1,h2,by omega,Bb h3⟩
theorem qztp[TabOk]{c c':CT}{l:List c'.T}{x:c.T}(hi:i<l.length)(h:Ai c'.cA l i=c.cA x):c.n=c'.n:=by have e:Ai c'.cA l i=c'.cA l[i]:=Bb (AF hi);rw[e]at h;have:=Gk List.length h;rw[KE,KE]at this;exact this.symm
theorem wzsi[TabOk](hA:Ar U T G ar hh)(h:R2 H T G agg sz x K=some r):VR U T G ar hh (.load agg sz x) K r:=by
 unfold R2 at h;split at h
 ·rename_i id st off h1;have e1:ar x=.ptr id (U id st).ep off:=(hA.a _ _ h1).1;split at h
  ·rename_i st' cs ho;replace h:=AJ h;obtain⟨hb,h⟩:=h;replace h:=AJ h;obtain⟨hc,h⟩:=h;replace h:=AJ h;obtain⟨hd,h⟩:=h;obtain rfl:=AN.1 hb;have e2:=hA.box ho;exact .valR rfl h fun _=>⟨(U id st).ep=(U id st).ep/\off+sz<=(Ax cs).length/\(agg=false->sz=1),ldv agg sz (Ax cs) off,by simp only[Ao.req,D3,e1,e2],⟨rfl,by rw[Gr];exact Lt hc,NF hd⟩,by rw[NC];exact .refl _⟩
  ·cases h
 ·rename_i id st j off c y h1;have e1:ar x=.eptr id (U id st).ep j.toNat off:=(hA.a _ _ h1).1;split at h
  ·rename_i st' c' l ho;replace h:=AJ h;obtain⟨hb,h⟩:=h;replace h:=AJ h;obtain⟨hc,h⟩:=h;replace h:=AJ h;obtain⟨hd,h⟩:=h;obtain rfl:=AN.1 hb;obtain⟨e2,e3,e4⟩:=hA.vec ho;refine .valR rfl h fun ha=>?_;obtain⟨k1,k2,k3⟩:=(hA.a _ _ h1).2.2 ha;rw[e4]at k3;rw[e3]at k2;have hn:=qztp k2 k3;refine⟨(U id st).ep=(U id st).ep/\j.toNat<l.length/\off+sz<=c'.n/\(agg=false->sz=1),ldv agg sz (Ai c'.cA l j.toNat) off,by simp only[Ao.req,D3,e1,e2],⟨rfl,k2,by rw[<-hn];exact Lt hc,NF hd⟩,?_⟩;rw[k3,NC,IX];exact .refl _
  ·cases h
 ·rename_i l off h1;have e1:ar x=.cptr (fun k=>(Ax l).getD k .top) l.length off:=(hA.a _ _ h1).1;replace h:=AJ h;obtain⟨hc,h⟩:=h;replace h:=AJ h;obtain⟨hd,h⟩:=h;have hc:=Lt hc;refine .val rfl h fun _=>⟨off+sz<=l.length/\(agg=false->sz=1),if agg then .agg ((List.range sz).map fun j=>(Ax l).getD (off+j) .top) else(Ax l).getD off .top,by simp only[Ao.req,D3,e1];rfl,⟨hc,NF hd⟩,?_⟩;rw[wzj0 (by rw[Gr];exact hc),NC];exact .refl _
 ·cases h
theorem wzf5(h:kkd (.us i)=some m):∃l,Tab.kk i=some l/\lt3 l=true/\m=4+encK l:=by
 unfold kkd at h;simp only at h;split at h
 ·rename_i l hl;obtain⟨h1,h2⟩:=AJ h;exact⟨l,hl,h1,(AL h2).symm⟩
 ·cases h
theorem RW[TabOk]{c:CT}{n:Nat}(h:isK c n=true)(a b:c.T):DT (A6 (wT c a)) (A6 (wT c b))=some (keq c a b)/\(A6 (wT c a)).kkind=n:=by
 unfold isK at h;split at h
 ·rename_i m hm;have h:=AN.1 h;subst h;cases c with
  |int k=>cases hm;exact⟨Aj rfl,rfl⟩
  |bool=>cases hm;exact⟨rfl,rfl⟩
  |str=>cases hm;exact⟨rfl,rfl⟩
  |us i =>obtain⟨l,h1,h2,rfl⟩:=wzf5 hm;obtain⟨k1,k2⟩:=TabOk.kq i a b l h1;have ea:A6 (wT (.us i) a)=.agg (Tab.cA i a):=Nz i a;have eb:A6 (wT (.us i) b)=.agg (Tab.cA i b):=Nz i b;rw[ea,eb];refine⟨k2,?_⟩;show 4+encK ((Tab.cA i a).map Aa.kind)=_;rw[k1]
  |_=>cases hm
 ·cases h
theorem qz57[TabOk]{c:CT}{n:Nat}{v:SV}{a:c.T}(hk:isK c n=true)(h:ofW c v=some a):A6 v=A6 (wT c a):=by
 unfold isK at hk;split at hk
 ·rename_i m hm;cases c with
  |int k=>rw[IS h];rfl
  |bool=>rw[IT h];rfl
  |str=>rw[IU h];rfl
  |us i =>obtain⟨l,h1,h2,rfl⟩:=wzf5 hm;obtain⟨k1,_⟩:=TabOk.kq i a a l h1;obtain⟨r,rfl,h⟩:=Ro h;have e:A6 (wT (.us i) a)=.agg (Tab.cA i a):=Nz i a;have hw:Ws (Ax r) (Tab.cA i a):=(Rp h).1;rw[e,show A6 (.agg r)=.agg (Ax r) from rfl,hw.scalar fun y hy=>wzey h2 _ (k1▸Ti hy)]
  |_=>cases hm
 ·cases hk
theorem RY[TabOk]{k v:CT}{n:Nat}(hk:isK k n=true)(a:k.T):∀(l:List (k.T×v.T)) (i:Nat),∃r,Cm (A6 (wT k a)) (mEs k v l) i=some r /\ ((r=none/\mget (keq k) l a=none/\∀b,mEs k v (mput (keq k) l a b)=mEs k v l++[(A6 (wT k a),A6 (wT v b))]) \/ ∃j x,r=some (i+j,A6 (wT v x))/\mget (keq k) l a=some x/\∀b,mEs k v (mput (keq k) l a b)=(mEs k v l).set j (A6 (wT k a),A6 (wT v b)))
 |[],i=>⟨none,rfl,.inl ⟨rfl,rfl,fun _=>rfl⟩⟩
 |p :: l,i=>by
  have e:Cm (A6 (wT k a)) (mEs k v (p :: l)) i=(match DT (A6 (wT k a)) (A6 (wT k p.1)) with | some true=>some (some (i,A6 (wT v p.2))) | some false=>Cm (A6 (wT k a)) (mEs k v l) (i+1) | none=>none):=rfl;rw[e,(RW hk a p.1).1];cases hq:keq k a p.1 with
  |true =>
   refine⟨_,rfl,.inr ⟨0,p.2,rfl,?_,fun b=>?_⟩⟩
   ·show(match keq k a p.1 with | true=>some p.2 | false=>mget (keq k) l a)=_;rw[hq]
   ·show mEs k v (match keq k a p.1 with | true=>(a,b) :: l | false=>p :: mput (keq k) l a b)=_;rw[hq];rfl
  |false =>
   obtain⟨r,h1,h2⟩:=RY (v:=v) hk a l (i+1);have g:mget (keq k) (p :: l) a=mget (keq k) l a:=by show(match keq k a p.1 with | true=>some p.2 | false=>mget (keq k) l a)=_;rw[hq]
   have q:∀b,mput (keq k) (p :: l) a b=p :: mput (keq k) l a b:=fun b=>by show(match keq k a p.1 with | true=>(a,b) :: l | false=>p :: mput (keq k) l a b)=_;rw[hq]
   refine⟨r,h1,?_⟩;rcases h2 with ⟨h3,h4,h5⟩|⟨j,x,h3,h4,h5⟩
   ·exact .inl ⟨h3,g.trans h4,fun b=>by rw[q];show _ :: mEs k v _=_;rw[h5];rfl⟩
   ·exact .inr ⟨j+1,x,by rw[h3];simp only[Ba,BB,and_true];omega,g.trans h4,fun b=>by rw[q];show _ :: mEs k v _=_;rw[h5];rfl⟩
theorem wzk5[TabOk](hA:Ar U T G ar hh){cok:Bool}{zero:Aa}{k:Ae}(h:RA H T G kd cok zero x k K=some r):VR U T G ar hh (.mlook kd cok zero x k) K r:=by
 unfold RA at h;split at h
 ·rename_i id mst key z h1 h2 h3;have e1:ar x=.mp id (U id mst).ep:=(hA.a _ _ h1).1;have e2:ar k=A6 key:=(hA.a _ _ h2).1;have e3:=KM h3;split at h
  ·rename_i st' ck cv l ho;split at h
   ·rename_i a d ha hd;replace h:=AJ h;obtain⟨q1,h⟩:=h;replace h:=AJ h;obtain⟨q2,h⟩:=h;obtain rfl:=AN.1 q1;have e4:hh id=.amap (U id mst).ep (mEs ck cv l):=(hA.h _ _ _ ho).1;have e5:BS (ar x) hh=⟨(U id mst).ep=(U id mst).ep,[id],mEs ck cv l⟩:=by unfold BS;simp only[e1,e4]
    have e6:ar k=A6 (wT ck a):=e2.trans (qz57 q2 ha);have hz:W zero (A6 (wT cv d)):=e3▸Dv hd;obtain⟨rr,f1,f2⟩:=RY (v:=cv) q2 a l 0;have b9:=(RW q2 a a).2
    obtain⟨xv,xb,g1,g2,g3⟩:∃(xv:Aa) (xb:Bool),(Ao.mlook kd cok zero x k).req ar hh=⟨(U id mst).ep=(U id mst).ep/\(ar k).kkind=kd,[id],if cok then .tup [xv,.bool xb] else xv,none⟩/\W xv (A6 (wT cv (Option.getD (mget (keq ck) l a) d)))/\xb=Option.isSome (mget (keq ck) l a):=by
     rcases f2 with ⟨rfl,g,_⟩|⟨j,y,rfl,g,_⟩
     ·refine⟨zero,false,?_,by rw[g];exact hz,by rw[g];rfl⟩;show EB kd cok zero (ar x) (ar k) hh=_;unfold EB;rw[e5,e6];simp only[f1]
     ·refine⟨A6 (wT cv y),true,?_,by rw[g];exact .refl _,by rw[g];rfl⟩;show EB kd cok zero (ar x) (ar k) hh=_;unfold EB;rw[e5,e6];simp only[f1]
    subst g3;cases cok with
    |true=>exact .valR rfl h fun _=>⟨_,_,g1,⟨rfl,by rw[e6];exact b9⟩,.of_w (show W (.tup [xv,.bool (Option.isSome (mget (keq ck) l a))]) (.tup [A6 (wT cv (Option.getD (mget (keq ck) l a) d)),.bool (Option.isSome (mget (keq ck) l a))]) from Pe.2 ⟨g2,.refl _,trivial⟩)⟩
    |false=>exact .valR rfl h fun _=>⟨_,_,g1,⟨rfl,by rw[e6];exact b9⟩,.of_w g2⟩
   ·cases h
  ·cases h
 ·cases h
theorem Hq(hA:Ar U T G ar hh):∀{l:List Ae} {m:List SV},FO T G l=some m->l.map ar=Ax m
 |[],m,h=>by cases h;rfl
 |x :: l,m,h=>by
  simp only[FO]at h;split at h
  ·rename_i v r h1 h2;cases h;show ar x :: l.map ar=A6 v :: Ax r;rw[(hA.a _ _ h1).1,Hq hA h2];rfl
  ·cases h
theorem wzov(hA:Ar U T G ar hh){f:FuncId}{caps:List Ae}(h:R4 H T G f nb caps K=some r):VR U T G ar hh (.mkfn f nb caps) K r:=by
 unfold R4 at h;split at h
 ·rename_i l h1;exact .val rfl h fun _=>⟨True,.fn f nb (caps.map ar),rfl,trivial,by rw[Hq hA h1];exact .refl _⟩
 ·cases h
theorem NH(hA:Ar U T G ar hh){d n:Int}{a:Option Ae}(h:bndS T G d a=some n):CX ar d a=some n:=by
 unfold bndS at h;split at h
 ·cases h;rfl
 ·rename_i a;split at h
  ·rename_i k n' h1;cases h;show yzh (ar a)=_;rw[(hA.a _ _ h1).1];rfl
  ·cases h
theorem wzji(hA:Ar U T G ar hh){isStr:Bool}{lo hi:Option Ae}(h:R5 H T G isStr st x lo hi K=some r):VR U T G ar hh (.slice isStr st x lo hi) K r:=by
 unfold R5 at h;split at h
 ·cases h
 ·rename_i l hl;have hl:=NH hA hl;split at h
  ·rename_i c m h1;have e1:ar x=.slc c.n m.length (Ai c.cA m):=(hA.a _ _ h1).1;split at h
   ·rename_i q hq;have hq:=NH hA hq;replace h:=AJ h;obtain⟨hb,h⟩:=h;obtain rfl:=AN.1 hb;have:=Dx h;refine .val rfl this.1 fun ha=>⟨c.n=c.n/\0<=l/\l<=q/\q<=m.length,.slc c.n (q-l).toNat (fun k=>Ai c.cA m (l.toNat+k)),by simp only[Ao.req,hl,e1,hq];rfl,⟨rfl,FS (this.2 ha)⟩,.of_w (wzux (this.2 ha))⟩
   ·cases h
  ·rename_i id vst h1;have e1:ar x=.vec id (U id vst).ep 0 (U id vst).n:=(hA.a _ _ h1).1;split at h
   ·rename_i st' c m ho;split at h
    ·rename_i q hq;have hq:=NH hA hq;replace h:=AJ h;obtain⟨hb,h⟩:=h;replace h:=AJ h;obtain⟨cD,h⟩:=h;obtain rfl:=AN.1 hb;obtain rfl:=AN.1 cD;obtain⟨e2,e3,e4⟩:=hA.vec ho;have:=Dx h;rw[e3]at e1;refine .mk (p:=.vs id vst l q) (rd:=[id]) rfl (hA.a _ _ h1).2.1 this.1 fun ha=>⟨(show 0<=l/\l<=q/\q<=(U id vst).n from e3▸FS (this.2 ha)),(U id vst).ep=(U id vst).ep/\c.n=c.n/\0<=l/\l<=q/\q<=m.length,.vec id (U id vst).ep (0+l.toNat) (q-l).toNat,[id],by simp only[Ao.req,hl,e1,hq,e2],⟨rfl,rfl,FS (this.2 ha)⟩,by rw[Bn];exact .refl _,fun j hj=>hj⟩
    ·cases h
   ·cases h
  ·rename_i s h1;have e1:ar x=.str s:=(hA.a _ _ h1).1;split at h
   ·rename_i q hq;have hq:=NH hA hq;have:=Dx h;exact .val rfl this.1 fun ha=>⟨0<=l/\l<=q/\q<=s.length,.str ((s.drop l.toNat).take (q-l).toNat),by simp only[Ao.req,hl,e1,hq];rfl,FS (this.2 ha),.refl _⟩
   ·cases h
  ·cases h
theorem wziy(hA:Ar U T G ar hh)(h:R6 H T G off x K=some r):VR U T G ar hh (.faddr off x) K r:=by
 unfold R6 at h;split at h
 ·rename_i id st o h1;have e1:ar x=.ptr id (U id st).ep o:=(hA.a _ _ h1).1;split at h
  ·rename_i st' ob ho;replace h:=AJ h;obtain⟨hb,h⟩:=h;obtain rfl:=AN.1 hb;exact .mk (p:=.ptr id st (o+off)) (rd:=[id]) rfl (hA.a _ _ h1).2.1 h fun ha=>⟨trivial,(U id st).ep=(hh id).ep,_,[id],by simp only[Ao.req,e1];rfl,by rw[hA.ep ho],.refl _,fun j hj=>hj⟩
  ·cases h
 ·rename_i id st j o c y h1;have e1:ar x=.eptr id (U id st).ep j.toNat o:=(hA.a _ _ h1).1;split at h
  ·rename_i st' ob ho;replace h:=AJ h;obtain⟨hb,h⟩:=h;obtain rfl:=AN.1 hb;exact .mk (p:=.eptr id st j (o+off) c y) (rd:=[id]) rfl (hA.a _ _ h1).2.1 h fun ha=>⟨(hA.a _ _ h1).2.2 ha,(U id st).ep=(hh id).ep,_,[id],by simp only[Ao.req,e1];rfl,by rw[hA.ep ho],.refl _,fun j hj=>hj⟩
  ·cases h
 ·rename_i l o h1;have e1:ar x=.cptr (fun k=>(Ax l).getD k .top) l.length o:=(hA.a _ _ h1).1;exact .val rfl h fun _=>⟨True,.cptr (fun k=>(Ax l).getD k .top) l.length (o+off),by simp only[Ao.req,e1];rfl,trivial,.refl _⟩
 ·cases h
theorem wzdd[TabOk](hA:Ar U T G ar hh){i:Ae}(h:R7 H T G st x i K=some r):VR U T G ar hh (.iaddrS st x i) K r:=by
 unfold R7 at h;split at h
 ·rename_i c l k j h1 h2;have e1:ar x=.slc c.n l.length (Ai c.cA l):=(hA.a _ _ h1).1;have e2:ar i=.int k j:=(hA.a _ _ h2).1;replace h:=AJ h;obtain⟨hb,h⟩:=h;obtain rfl:=AN.1 hb;replace h:=@KQ _ _ c.inh _ _ _ _ h;obtain⟨v,h,hv⟩:=h;refine .val rfl h fun ha=>?_;obtain⟨q1,q2,q3,q4⟩:=qzv2 (hv ha);refine⟨c.n=c.n/\0<=j/\j<l.length,.cptr (fun k=>(Ai c.cA l j.toNat).getD k .top) c.n 0,by simp only[Ao.req,e1,e2];rfl,⟨rfl,q1,q2⟩,?_⟩;rw[q4,<-IX];show VEq _ (.cptr (fun k=>(Ax (Du c v)).getD k .top) (Du c v).length 0);rw[Rn];exact .refl _
 ·rename_i id vst k j h1 h2;have e1:ar x=.vec id (U id vst).ep 0 (U id vst).n:=(hA.a _ _ h1).1;have e2:ar i=.int k j:=(hA.a _ _ h2).1;split at h
  ·rename_i st' c l ho;replace h:=AJ h;obtain⟨hb,h⟩:=h;replace h:=AJ h;obtain⟨cD,h⟩:=h;obtain rfl:=AN.1 hb;obtain rfl:=AN.1 cD;replace h:=@KQ _ _ c.inh _ _ _ _ h;obtain⟨v,h,hv⟩:=h;obtain⟨e3,e4,e5⟩:=hA.vec ho;refine .mk (p:=.eptr id vst j 0 c v) (rd:=[id]) rfl (hA.a _ _ h1).2.1 h fun ha=>?_;obtain⟨q1,q2,q3,q4⟩:=qzv2 (hv ha);refine⟨⟨q1,by rw[e4];exact q3,by rw[e5];exact q4⟩,(U id vst).ep=(U id vst).ep/\c.n=c.n/\0<=j/\j<(U id vst).n,.eptr id (U id vst).ep (0+j.toNat) 0,[id],by simp only[Ao.req,e1,e2,e3],⟨rfl,rfl,q1,by rw[e4];exact q2⟩,by rw[Bn];exact .refl _,fun j hj=>hj⟩
  ·cases h
 ·cases h
theorem NI:∀{l m:List SV} {e:Bool},eqS l m=some e->BP (Ax l) (Ax m)=some e
 |[],[],e,h=>h
 |x :: l,y :: m,e,h=>by
  simp only[eqS]at h
  show(match A6 x,A6 y,BP (Ax l) (Ax m) with
   |.int k a,.int k' b,some e=>if k=k' then some (decide (a=b)&&e) else none
   |.bool a,.bool b,some e=>some ((a==b)&&e)
   |.str a,.str b,some e=>some (decide (a=b)&&e)
   | _,_,_=>none)=some e
  split at h
  ·rename_i h1;rw[NI h1];exact h
  ·rename_i h1;rw[NI h1];exact h
  ·rename_i h1;rw[NI h1];exact h
  ·cases h
 |[],_ :: _,e,h=>by cases h
 |_ :: _,[],e,h=>by cases h
theorem wzjh(v:SV):N4 v=(A6 v).kind:=by
 cases v with
 |_=>rfl
theorem qzxl:∀{l:List SV} {sh:List Nat},N5 l sh=true->(Ax l).map Aa.kind=sh
 |[],[],_=>rfl
 |x :: l,n :: m,h=>by
  have h:Ac (Nat.beq (N4 x) n) (N5 l m) false=true:=h;cases hb:Nat.beq (N4 x) n
  ·rw[hb]at h;cases h
  ·rw[hb]at h;show(A6 x).kind :: (Ax l).map Aa.kind=_;rw[qzxl h,<-wzjh,AN.1 hb]
 |[],_ :: _,h=>by cases h
 |_ :: _,[],h=>by cases h
theorem wzjj(hA:Ar U T G ar hh){sh:List Nat}{ng:Bool}(h:RC H T G sh ng x y K=some r):VR U T G ar hh (.eqagg sh ng x y) K r:=by
 unfold RC at h;split at h
 ·rename_i l m h1 h2;have e1:ar x=.agg (Ax l):=(hA.a _ _ h1).1;have e2:ar y=.agg (Ax m):=(hA.a _ _ h2).1;split at h
  ·rename_i e he;replace h:=AJ h;obtain⟨hk,h⟩:=h;refine .val rfl h fun _=>⟨(Ax l).map Aa.kind=sh,.bool (if ng then !e else e),by simp only[Ao.req,e1,e2,NI he];rfl,qzxl hk,?_⟩;cases ng<;>exact .refl _
  ·cases h
 ·cases h
theorem NJ(hA:Ar U T G ar hh):∀{ps:List (Nat×Nat×Ae)} {l m:List SV},Jb T G l ps=some m->D0 ar (Ax l) ps=some (Ax m)
 |[],l,m,h=>by cases h;rfl
 |(off,sz,x) :: ps,l,m,h=>by
  simp only[Jb]at h;split at h
  ·rename_i v hv;split at h
   ·rename_i p hp;replace h:=AJ h;obtain⟨h1,h⟩:=h;replace h:=AJ h;obtain⟨h2,h⟩:=h;have h1:=AN.1 h1;have h2:=Lt h2;have e:ar x=A6 v:=(hA.a _ _ hv).1;simp only[D0,e,Nw hp,Gr];rw[Aj ⟨h1,h2⟩,<-RU];exact NJ hA h
   ·cases h
  ·cases h
theorem wzjv(hA:Ar U T G ar hh){ps:List (Nat×Nat×Ae)}(h:RF H T G zero ps K=some r):VR U T G ar hh (.build zero ps) K r:=by
 unfold RF at h;split at h
 ·rename_i z hz;split at h
  ·rename_i l hl;have:=NJ hA hl;rw[Hn hz]at this;exact .val rfl h fun _=>⟨True,.agg (Ax l),by simp only[Ao.req,this];rfl,trivial,.refl _⟩
  ·cases h
 ·cases h
theorem wzsj(hA:Ar U T G ar hh)(h:RG H T G x K=some r):VR U T G ar hh (.b2s x) K r:=by
 unfold RG at h;split at h
 ·rename_i l h1;have e1:ar x=.slc 1 l.length (Ai (cI .u8) l):=(hA.a _ _ h1).1;exact .val rfl h fun _=>⟨True/\1=1,.str (Ca l),wziz (l:=l) e1,⟨trivial,rfl⟩,.refl _⟩
 ·rename_i id vst h1;have e1:ar x=.vec id (U id vst).ep 0 (U id vst).n:=(hA.a _ _ h1).1;split at h
  ·rename_i st' l ho;replace h:=AJ h;obtain⟨hb,h⟩:=h;obtain rfl:=AN.1 hb;obtain⟨e2,e3,e4⟩:=hA.vec ho;have e2:hh id=.vec (U id vst).ep 1 l.length (Ai (cI .u8) l):=e2;rw[e3]at e1;exact .valR rfl h fun _=>⟨((U id vst).ep=(U id vst).ep/\0+l.length<=l.length)/\1=1,.str (Ca l),wzkh (l:=l) e1 e2,⟨⟨rfl,by omega⟩,rfl⟩,.refl _⟩
  ·cases h
 ·cases h
def Pk(U:Phi)(T:Av)(ar:Ae->Aa):Prop:=∀a n w b x,argP T (some (n,w,w)) a=some x->ar (.t n)=.bool b->unv (ar a)=eP U x/\unc (Ac w b (!b)) (ar a)
theorem qz48(hA:Ar U T G ar hh)(hP:Pk U T ar){n:Nat}{w b:Bool}{a:Ae}{x:PV}(h:Jc T G n w a=some x)(hb:ar (.t n)=.bool b):unv (ar a)=eP U x/\unc (Ac w b (!b)) (ar a):=by
 cases G with
 |none=>exact hP a n w b x h hb
 |some g =>
  have h:(match argP T (some g) a with | some p=>some p | none=>argP T (some (n,w,w)) a)=some x:=h;split at h
  ·rename_i p hp;cases h;have h1:=(hA.a _ _ hp).1;rw[h1];exact⟨KO _,KP _ _⟩
  ·exact hP a n w b x h hb
theorem wzpl(hA:Ar U T G ar hh)(hP:Pk U T ar){c:Ae}(h:KG H T G c x y K=some r):VR U T G ar hh (.pick c x y) K r:=by
 unfold KG at h;split at h
 ·rename_i n;split at h
  ·rename_i b hb;have e0:ar (.t n)=.bool b:=(hA.a _ _ hb).1;have key:∀p q,Jc T G n true x=some (.s p)->Jc T G n false y=some (.s q)->(unv (ar x)=A6 p/\unc b (ar x))/\(unv (ar y)=A6 q/\unc (!b) (ar y)):=fun p q hp hq=>⟨qz48 hA hP hp e0,qz48 hA hP hq e0⟩;split at h
   ·rename_i p q hp hq;obtain⟨⟨a1,a2⟩,a3,a4⟩:=key _ _ hp hq;refine .val rfl h fun _=>⟨unc b (ar x)/\unc (!b) (ar y),.bool (bif b then p else q),?_,⟨a2,a4⟩,.refl _⟩;simp only[Ao.req,e0,D2,a1,a3,A6];rfl
   ·rename_i k p k' q hp hq;replace h:=AJ h;rw[CA]at h;obtain⟨rfl,h⟩:=h;obtain⟨⟨a1,a2⟩,a3,a4⟩:=key _ _ hp hq;refine .val rfl h fun _=>⟨unc b (ar x)/\unc (!b) (ar y),.int k (bif b then p else q),?_,⟨a2,a4⟩,.refl _⟩;simp only[Ao.req,e0,D2,a1,a3,A6];simp[Req.when]
   ·cases h
  ·cases h
 ·cases h
theorem RZ[TabOk]{c:CT}{st:Nat}:∀{n:Nat} {l:List SV} {m:List c.T},KH c st n l=some m->l.length=n*st->m.length=n/\BD (Ax l)=true/\∀k,k<n->Ws ((Gl st n (Ax l)).getD k []) (Ai c.cA m k)
 |0,l,m,h,hl=>by cases h;have:l=[]:=Gbt.1 (by omega);subst this;exact⟨rfl,rfl,fun k hk=>by omega⟩
 |n+1,l,m,h,hl=>by
  simp only[KH]at h;split at h
  ·rename_i x q h1 h2;cases h;have i7:(l.drop st).length=n*st:=by rw[H7,hl,BR];omega
   obtain⟨a,b,d⟩:=RZ h2 i7;obtain⟨p1,p2⟩:=IY h1;refine⟨by rw[Bk,a],?_,fun k hk=>?_⟩
   ·rw[<-Tj st l,Nt,NG,p2,b];rfl
   ·cases k with
    |zero=>show Ws ((Ax l).take st) (c.cA x);rw[<-Nu];exact p1
    |succ k =>show Ws ((Gl st n ((Ax l).drop st)).getD k []) (Ai c.cA q k);rw[<-Nv];exact d k (by omega)
  ·cases h
theorem wzf9[TabOk](hA:Ar U T G ar hh)(cj:∀i,inR T.b i=true->(hh i).plain){ty:List (Nat×CT)}{ps:List (Nat×Nat×Ae)}(h:RH ty T G s st nn zero ps K=some r):VR U T G ar hh (.fslice s st nn zero ps) K r:=by
 unfold RH at h;split at h
 ·rename_i z hz;split at h
  ·rename_i l hl;have hf:=NJ hA hl;rw[Hn hz]at hf;replace h:=AJ h;obtain⟨h1,h⟩:=h;replace h:=AJ h;obtain⟨h2,h⟩:=h;replace h:=AJ h;obtain⟨h3,h⟩:=h;have h1:=AN.1 h1;have h2:=AN.1 h2;have h3:0<st:=by simpa [Gu] using h3
   replace h:=AJ h;obtain⟨h4,h⟩:=h;split at h
   ·rename_i m hm;obtain⟨c1,c2,c3⟩:=RZ hm h1;have aD:(Ao.fslice s st nn zero ps).req ar hh=⟨(hh s).plain/\(Ax l).length=nn*st/\0<st/\BD (Ax l)=true,[s],.slc st nn (fun i=>(Gl st nn (Ax l)).getD i []),some (s,hh s)⟩:=by simp only[Ao.req,hf]
    refine⟨_,_,h,trivial,rfl,fun _=>⟨trivial,by rw[aD];exact⟨cj s h4,by rw[Gr,h1],h3,c2⟩,?_,by rw[aD];exact fun j hj=>hj,by rw[aD];exact rfl⟩⟩;rw[aD];refine .of_w ?_;show W _ (.slc (Bg s ty).n m.length (Ai (Bg s ty).cA m));exact JQ.2 ⟨h2.symm,c1.symm,c3⟩
   ·cases h
  ·cases h
 ·cases h
theorem wzh3[TabOk](hA:Ar U T G ar hh)(hP:Pk U T ar)(cj:∀i,inR T.b i=true->(hh i).plain){ty:List (Nat×CT)}{o:Ao}(hc:o.isCall=false)(h:opV H ty T G o K=some r):VR U T G ar hh o K r:=by
 cases o<;>simp only[opV]at h<;>first
  |(cases h;done) | (cases hc;done)
  |exact wzwq hA h | exact wzpl hA hP h | exact wzs8 hA h | exact wztq hA h | exact wzs7 hA h | exact wzsi hA h | exact wzra hA h | exact wzov hA h | exact wzji hA h
  |exact wziy hA h | exact wzdd hA h   | exact wzch hA h | exact wzpj hA h | exact wztg hA h | exact wzjj hA h | exact wzsz hA h | exact wzt2 hA h  | exact wzjv hA h | exact wzsj hA h | exact wzf9 hA cj h   | exact wzk5 hA h
end
end
theorem OEq.of_wo{o' o:Ad}(h:WO o' o)(hn:∀e,o≠.gone e):OEq o' o:=by
 refine⟨h.ep,fun ho=>h.owned ho,fun e he=>?_,fun g w i hO=>h.or hO,fun e es he=>?_⟩;rotate_left
 ·subst he;cases o with
  |gone e=>exact absurd rfl (hn e)
  |box e l=>obtain⟨l0,h,_⟩:=h;cases h
  |vec e st n f=>obtain⟨f0,h,_⟩:=h;cases h
  |_=>first|exact h.symm|exact h
 subst he;cases o with
 |gone e=>exact absurd rfl (hn e)
 |box e l=>obtain⟨l0,h,_⟩:=h;cases h
 |vec e st n f=>obtain⟨f0,h,_⟩:=h;cases h
 |_=>exact h
theorem OEq.vec{n n':Nat}{f f':Nat->List Aa}(hn:n=n')(h:∀k,k<n->Ws (f k) (f' k)):OEq (.vec e st n f) (.vec e st n' f'):=by subst hn;exact .of_wo (UU.2 ⟨rfl,rfl,rfl,h⟩) (fun e h=>by cases h)
theorem qz3h{α:Type}:∀{n:Nat} {l:List α},Rw n l=true->l.length<=n
 |_,[],_=>BA _
 |0,_ :: _,h=>by cases h
 |n+1,_ :: l,h=>by have:=qz3h (n:=n) (l:=l) h;simp only[Bk];omega
theorem qzxd{l p:List Aa}(h:BD (lay l off p)=true):BD p=true:=by unfold lay at h;rw[NG,NG]at h;simp only[AI]at h;exact h.1.2
theorem qz0k{c:α->List Aa}{m l:List α}(k:Nat):Ws (if k<m.length then Ai c m (0+k) else Ai c l (k-m.length)) (Ai c (m++l) k):=by rw[LV,Bn];exact .refl _
theorem wzh4{c:α->List Aa}{m new:List α}{n:Nat}{src:Nat->List Aa}(hi:i+n<=m.length)(hl:new.length=n)(h:∀k,k<n->Ws (src k) (Ai c new k))(k:Nat):Ws (if i<=k/\k<i+n then src (k-i) else Ai c m k) (Ai c (B0 m i new) k):=by
 rw[qz7p (by omega),hl];by_cases hk:i<=k/\k<i+n
 ·rw[Aj hk,Aj hk];exact h _ (by omega)
 ·rw[Ag hk,Ag hk];exact .refl _
section
variable [Tab]
def ghoR(G:HD)(ep:Nat):TO->HD
 |.vec c l=>⟨ep,l.length,Ai c.cA l⟩
 |.own c l=>⟨ep,l.length,Ai c.cA l⟩
 |_=>⟨ep,G.n,G.f⟩
theorem Sa{o:TO}:(ghoR G e o).ep=e:=by cases o<;>rfl
theorem qzyq{o:TO}:OkO (ghoR G e o) o:=by cases o<;>simp[ghoR,OkO]
structure Hp(U:Phi)(T:Av)(ar:Ae->Aa)(hh:Aq):Prop extends Ar U T none ar hh where
 pl:∀i,inR T.b i=true->(hh i).plain
 ro:∀id p,Aw T.h id=some p->inR T.b id=true
structure VO'(U:Phi)(T:Av)(ar:Ae->Aa)(hh:Aq)(o:Ao)(p:PV)(id:Nat)(ob:TO)(re:Bool)(rd:List Nat)(ep:Nat)(G:HD):Prop where
 st:StP (T.nx+1) p
 ok:(o.req ar hh).ok
 v:VEq (o.req ar hh).v (eP (upd U id T.nx (ghoR G ep ob)) p)
 okp:OkP (upd U id T.nx (ghoR G ep ob)) p
 hrd:∀j∈(o.req ar hh).rd,j∈rd
 hout:OutW hh (o.req ar hh).out (some (id,eO (upd U id T.nx (ghoR G ep ob)) ep ob))
 hid:id∈rd
 idr:inR T.b id=true
 re:re=true->∃st o0,Aw T.h id=some (st,o0)/\(U id st).ep=ep/\(U id st).n=(ghoR G ep ob).n
 rfo:RfO (upd U id T.nx (ghoR G ep ob)) (T.nx+1) ob
def VO(U:Phi)(T:Av)(ar:Ae->Aa)(hh:Aq)(o:Ao)(K:PV->Nat->TO->Bool->List Nat->Option α)(r:α):Prop := ∃p id ob re rd ep G,K p id ob re rd=some r/\VO' U T ar hh o p id ob re rd ep G
section
variable {ty:List (Nat×CT)}{T:Av}{K:PV->Nat->TO->Bool->List Nat->Option α}{r:α}
theorem qz91:∀(l:List Aa),Ws l (Ax (ofAT l))
 |[]=>trivial
 |x :: l=>by
  refine⟨?_,qz91 l⟩;cases h:ofA1 x with
  |none=>exact .top _
  |some v=>exact(ND h)▸.refl _
theorem wzj3[TabOk](hA:Hp U T ar hh)(hs:inR T.b s=true)(h:qz8s ty T s zero K=some r):VO U T ar hh (.alloc s zero) K r:=by
 refine⟨_,_,_,_,_,(hh s).ep+1,⟨0,0,fun _=>[]⟩,h,⟨Dc _,hA.pl s hs,?_,trivial,fun j hj=>hj,⟨rfl,?_⟩,B3.2 rfl,hs,(fun e=>by cases e),trivial⟩⟩
 ·show VEq (.ptr s ((hh s).ep+1) 0) (.ptr s (upd U s T.nx _ s T.nx).ep 0);rw[yzj];exact .refl _
 ·show OEq (.box ((hh s).ep+1) zero) (.box ((hh s).ep+1) (Ax (ofAT zero)));exact .of_wo (vze.2 ⟨rfl,qz91 zero⟩) (fun e h=>by cases h)
theorem wzso[TabOk](hA:Hp U T ar hh)(hs:inR T.b s=true)(h:RI ty T s x K=some r):VO U T ar hh (.box s x) K r:=by
 unfold RI at h;split at h
 ·rename_i v h1;have e1:ar x=A6 v:=(hA.a _ _ h1).1;split at h
  ·rename_i l hl;have aD:(Ao.box s x).req ar hh=⟨(hh s).plain,[s],.ptr s ((hh s).ep+1) 0,some (s,.box ((hh s).ep+1) (Ax l))⟩:=by simp only[Ao.req,e1,Nw hl]
   refine⟨_,_,_,_,_,(hh s).ep+1,⟨0,0,fun _=>[]⟩,h,⟨Dc _,by rw[aD];exact hA.pl s hs,?_,trivial,by rw[aD];exact fun j hj=>hj,by rw[aD];exact⟨rfl,.refl _⟩,B3.2 rfl,hs,(fun e=>by cases e),trivial⟩⟩;rw[aD];show VEq (.ptr s ((hh s).ep+1) 0) (.ptr s (upd U s T.nx _ s T.nx).ep 0);rw[yzj];exact .refl _
  ·cases h
 ·cases h
theorem wzfd[TabOk](hA:Hp U T ar hh){ps:List (Nat×Nat×Ae)}(hs:inR T.b s=true)(h:RJ ty T s st nn zero ps K=some r):VO U T ar hh (.bslice s st nn zero ps) K r:=by
 unfold RJ at h;split at h
 ·rename_i z hz;split at h
  ·rename_i l hl;have hf:=NJ hA.toAr hl;rw[Hn hz]at hf;replace h:=AJ h;obtain⟨h1,h⟩:=h;replace h:=AJ h;obtain⟨h2,h⟩:=h;replace h:=AJ h;obtain⟨h3,h⟩:=h;have h1:=AN.1 h1;have h2:=AN.1 h2;have h3:0<st:=by simpa [Gu] using h3
   split at h
   ·rename_i m hm;obtain⟨c1,c2,c3⟩:=RZ hm h1;have aD:(Ao.bslice s st nn zero ps).req ar hh=⟨(hh s).plain/\(Ax l).length=nn*st/\0<st/\BD (Ax l)=true,[s],.vec s ((hh s).ep+1) 0 nn,some (s,.vec ((hh s).ep+1) st nn (fun i=>(Gl st nn (Ax l)).getD i []))⟩:=by simp only[Ao.req,hf]
    refine⟨_,_,_,_,_,(hh s).ep+1,⟨0,0,fun _=>[]⟩,h,⟨Dc _,by rw[aD];exact⟨hA.pl s hs,by rw[Gr,h1],h3,c2⟩,?_,trivial,by rw[aD];exact fun j hj=>hj,?_,B3.2 rfl,hs,(fun e=>by cases e),trivial⟩⟩
    ·rw[aD];show VEq (.vec s ((hh s).ep+1) 0 nn) (.vec s (upd U s T.nx _ s T.nx).ep 0 (upd U s T.nx _ s T.nx).n);rw[yzj];show VEq _ (.vec s ((hh s).ep+1) 0 m.length);rw[c1];exact .refl _
    ·rw[aD];refine⟨rfl,?_⟩;show OEq _ (.vec ((hh s).ep+1) (Bg s ty).n m.length (Ai (Bg s ty).cA m));rw[h2];exact .vec c1.symm c3
   ·cases h
  ·cases h
 ·cases h
theorem wztz[TabOk](hA:Hp U T ar hh){bytes:Nat}(hs:inR T.b s=true)(h:RK ty T s st bytes zero x K=some r):VO U T ar hh (.mks s st bytes zero x) K r:=by
 unfold RK at h;split at h
 ·rename_i z k n hz h1;have e1:ar x=.int k n:=(hA.a _ _ h1).1;replace h:=AJ h;obtain⟨h2,h⟩:=h;replace h:=AJ h;obtain⟨h3,h⟩:=h;have h2:=AN.1 h2;have h3:0<st:=by simpa [Gu] using h3
  split at h
  ·rename_i e he;have hk:=Dx (G:=none) h;obtain⟨k1,k2⟩:=wztw (hk.2 trivial);obtain⟨p1,p2⟩:=IY he;rw[Hn hz]at p1 p2;have aE:zero.length=st:=by rw[p1.at.1,KE,h2]
   have aD:(Ao.mks s st bytes zero x).req ar hh=⟨(hh s).plain/\0<=n/\n*bytes<=140737488355328/\0<st/\zero.length=st/\BD zero=true,[s],.vec s ((hh s).ep+1) 0 n.toNat,some (s,.vec ((hh s).ep+1) st n.toNat (fun _=>zero))⟩:=by simp only[Ao.req,e1]
   refine⟨_,_,_,_,_,(hh s).ep+1,⟨0,0,fun _=>[]⟩,hk.1,⟨Dc _,by rw[aD];exact⟨hA.pl s hs,k1,k2,h3,aE,p2⟩,?_,trivial,by rw[aD];exact fun j hj=>hj,?_,B3.2 rfl,hs,(fun e=>by cases e),trivial⟩⟩
   ·rw[aD];show VEq (.vec s ((hh s).ep+1) 0 n.toNat) (.vec s (upd U s T.nx _ s T.nx).ep 0 (upd U s T.nx _ s T.nx).n);rw[yzj];show VEq _ (.vec s ((hh s).ep+1) 0 (List.replicate n.toNat e).length);rw[Ox];exact .refl _
   ·rw[aD];refine⟨rfl,?_⟩;show OEq _ (.vec ((hh s).ep+1) (Bg s ty).n (List.replicate n.toNat e).length (Ai (Bg s ty).cA (List.replicate n.toNat e)));rw[h2];exact .vec (by rw[Ox]) fun k hk=>by rw[qzul hk];exact p1
  ·cases h
 ·cases h
theorem wzth[TabOk](hA:Hp U T ar hh)(hs:inR T.b s=true)(h:RL ty T s x K=some r):VO U T ar hh (.s2b s x) K r:=by
 unfold RL at h;split at h
 ·rename_i b h1;have e1:ar x=.str b:=(hA.a _ _ h1).1;have aD:(Ao.s2b s x).req ar hh=⟨(hh s).plain,[s],.slc 1 b.length (fun k=>[.int .u8 (Cy b k)]),some (s,.gone ((hh s).ep+1))⟩:=by simp only[Ao.req,e1]
  refine⟨_,_,_,_,_,(hh s).ep+1,⟨0,0,fun _=>[]⟩,h,⟨trivial,by rw[aD];exact hA.pl s hs,?_,trivial,by rw[aD];exact fun j hj=>hj,by rw[aD];exact⟨rfl,.refl _⟩,B3.2 rfl,hs,(fun e=>by cases e),trivial⟩⟩;rw[aD];refine .of_w (JQ.2 ⟨rfl,(qz6c b).symm,wzod rfl fun k _=>rfl⟩)
 ·cases h
theorem wzfs[TabOk]{c:CT}{l:List c.T}{e:c.T}{row:List Aa}(hi:i<l.length)(h:Ws row (c.cA e))(k:Nat):Ws (if k=i then row else Ai c.cA l k) (Ai c.cA (l.set i e) k):=by
 rw[qz7r hi];split
 ·exact h
 ·exact .refl _
theorem wzkm[TabOk](hA:Hp U T ar hh)(h:RM ty T sz x y K=some r):VO U T ar hh (.store sz x y) K r:=by
 unfold RM at h;split at h
 ·rename_i id st off v h1 h2;have e1:ar x=.ptr id (U id st).ep off:=(hA.a _ _ h1).1;have e2:ar y=A6 v:=(hA.a _ _ h2).1;split at h
  ·rename_i st' cs p ho hp;replace h:=AJ h;obtain⟨q1,h⟩:=h;replace h:=AJ h;obtain⟨q2,h⟩:=h;replace h:=AJ h;obtain⟨q3,h⟩:=h;replace h:=AJ h;obtain⟨q4,h⟩:=h;obtain rfl:=AN.1 q1;have q2:=AN.1 q2;have q3:=Lt q3;have e3:=hA.toAr.box ho;have aD:(Ao.store sz x y).req ar hh=⟨(U id st).ep=(U id st).ep/\(Ax p).length=sz/\BD (Ax p)=true/\off+sz<=(Ax cs).length,[id],.top,some (id,.box (U id st).ep (lay (Ax cs) off (Ax p)))⟩:=by simp only[Ao.req,O2,e1,e2,Nw hp,e3]
   refine⟨_,_,_,_,_,(U id st).ep,U id st,h,⟨trivial,by rw[aD];exact⟨rfl,by rw[Gr,q2],qzps q4,by rw[Gr];exact q3⟩,by rw[aD];exact .refl _,trivial,by rw[aD];exact fun j hj=>hj,?_,B3.2 rfl,hA.ro _ _ ho,(fun _=>⟨st,_,ho,rfl,rfl⟩),trivial⟩⟩;rw[aD];refine⟨rfl,?_⟩;show OEq _ (.box (U id st).ep (Ax (layS cs off p)));rw[RU];exact .refl _
  ·cases h
 ·rename_i id st j off c y0 v h1 h2;have e1:ar x=.eptr id (U id st).ep j.toNat off:=(hA.a _ _ h1).1;have e2:ar y=A6 v:=(hA.a _ _ h2).1;split at h
  ·rename_i st' c' l p ho hp;replace h:=AJ h;obtain⟨q1,h⟩:=h;replace h:=AJ h;obtain⟨q2,h⟩:=h;replace h:=AJ h;obtain⟨q3,h⟩:=h;obtain rfl:=AN.1 q1;have q2:=AN.1 q2;have q3:=Lt q3;obtain⟨e3,e4,e5⟩:=hA.toAr.vec ho;obtain⟨k1,k2,k3⟩:=(hA.a _ _ h1).2.2 trivial;rw[e4]at k2;rw[e5]at k3;have hn:=qztp k2 k3;split at h
   ·rename_i e he;obtain⟨p1,p2⟩:=IY he;rw[RU,IX]at p1 p2;have aD:(Ao.store sz x y).req ar hh=⟨(U id st).ep=(U id st).ep/\j.toNat<l.length/\(Ax p).length=sz/\BD (Ax p)=true/\off+sz<=c'.n,[id],.top,some (id,.vec (U id st).ep c'.n l.length (fun k=>if k=j.toNat then lay (Ai c'.cA l j.toNat) off (Ax p) else Ai c'.cA l k))⟩:=by simp only[Ao.req,O2,e1,e2,Nw hp,e3]
    refine⟨_,_,_,_,_,(U id st).ep,U id st,h,⟨trivial,by rw[aD];exact⟨rfl,k2,by rw[Gr,q2],qzxd p2,by rw[<-hn];exact q3⟩,by rw[aD];exact .refl _,trivial,by rw[aD];exact fun j hj=>hj,?_,B3.2 rfl,hA.ro _ _ ho,(fun _=>⟨st,_,ho,rfl,?_⟩),trivial⟩⟩
    ·rw[aD];refine⟨rfl,?_⟩;show OEq _ (.vec (U id st).ep c'.n (l.set j.toNat e).length (Ai c'.cA (l.set j.toNat e)));rw[k3];exact .vec (by rw[J6]) fun k hk=>wzfs k2 p1 k
    ·show(U id st).n=(l.set j.toNat e).length;rw[e4,J6]
   ·cases h
  ·cases h
 ·cases h
theorem NK(hA:Hp U T ar hh){q:PV}{c:CT}{l:List c.T}{rd:List Nat}(hq:argP T none y=some q)(h:srcS T c q=some (l,rd))(st:Nat):∃ok:Prop,ok/\Bo st (ar y) hh=⟨ok,rd,c.n,l.length,Ai c.cA l⟩:=by
 have e:=(hA.a _ _ hq).1;unfold srcS at h;split at h
 ·rename_i c' l';split at h
  ·rename_i l2 h2;cases h;obtain⟨a,b,d,rfl⟩:=EY h2;have e:ar y=.slc c'.n l'.length (Ai c'.cA l'):=e;refine⟨True,trivial,?_⟩;rw[e,<-b,<-d];rfl
  ·cases h
 ·rename_i id vst;have e:ar y=.vec id (U id vst).ep 0 (U id vst).n:=e;split at h
  ·rename_i st' c' l' ho;replace h:=AJ h;obtain⟨hb,h⟩:=h;obtain rfl:=AN.1 hb;split at h
   ·rename_i l2 h2;cases h;obtain⟨a,b,d,rfl⟩:=EY h2;obtain⟨e3,e4,e5⟩:=hA.toAr.vec ho;refine⟨(U id vst).ep=(U id vst).ep/\0+(U id vst).n<=l'.length,⟨rfl,by rw[e4];omega⟩,?_⟩;rw[e];simp only[Bo,e3,e4,Bn,<-b,<-d]
   ·cases h
  ·cases h
 ·cases h
theorem wzik[TabOk](hA:Hp U T ar hh){bytes:Nat}(hs:inR T.b s=true)(h:RN ty T s st bytes x y K=some r):VO U T ar hh (.append s st bytes x y) K r:=by
 unfold RN at h;split at h
 ·rename_i q h1 h2;have e1:ar x=.nils:=(hA.a _ _ h1).1;split at h
  ·rename_i a l rd cM;replace h:=AJ h;obtain⟨q1,h⟩:=h;replace h:=AJ h;obtain⟨q2,h⟩:=h;replace h:=AJ h;obtain⟨q3,h⟩:=h;replace h:=AJ h;obtain⟨q4,h⟩:=h;have q1:=AN.1 q1;have q2:0<st:=by simpa [Gu] using q2
   have q3:=qz3h q3;have q4:=Lt q4;obtain⟨ok,aB,ce⟩:=NK hA h2 cM st;have aD:(Ao.append s st bytes x y).req ar hh=⟨(hh s).plain/\ok/\(Bg s ty).n=st/\0<st/\0<(a :: l).length/\(a :: l).length*bytes<=140737488355328,s :: rd,.vec s ((hh s).ep+1) 0 (a :: l).length,some (s,.vec ((hh s).ep+1) st (a :: l).length (Ai (Bg s ty).cA (a :: l)))⟩:=by simp only[Ao.req,Fo,e1,ce];rw[Ag (by simp)]
   have hb:(a :: l).length*bytes<=140737488355328:=by have:(a :: l).length*bytes<=65*1000000:=Nat.mul_le_mul (by simp only[Bk];omega) q4;omega
   refine⟨_,_,_,_,_,(hh s).ep+1,⟨0,0,fun _=>[]⟩,h,⟨Dc _,by rw[aD];exact⟨hA.pl s hs,aB,q1,q2,by simp,hb⟩,?_,trivial,by rw[aD];exact fun j hj=>hj,?_,AS ..,hs,(fun e=>by cases e),trivial⟩⟩
   ·rw[aD];show VEq _ (match (upd U s T.nx _ s T.nx).n with | 0=>.nils | n+1=>.vec s (upd U s T.nx _ s T.nx).ep 0 (n+1));rw[yzj];exact .refl _
   ·rw[aD];refine⟨rfl,?_⟩;show OEq _ (.vec ((hh s).ep+1) (Bg s ty).n (l.length+1) (Ai (Bg s ty).cA (a :: l)));rw[q1];exact .refl _
  ·cases h
 ·rename_i id vst q h1 h2;have e1:=(hA.a _ _ h1).1;split at h
  ·rename_i st' c m ho;have e2:=(hA.h _ _ _ ho).1;have e3:=(hA.h _ _ _ ho).2;split at h
   ·rename_i l rd cM;replace h:=AJ h;obtain⟨q1,h⟩:=h;replace h:=AJ h;obtain⟨q2,h⟩:=h;replace h:=AJ h;obtain⟨q3,h⟩:=h;replace h:=AJ h;obtain⟨q4,h⟩:=h;obtain rfl:=AN.1 q1;obtain rfl:=AN.1 q2;have q3:=AN.1 q3;have q4:0<st:=by simpa [Gu] using q4
    have h:Ac (memN id rd) none (ck (decide (List.length (m++l)*bytes<=140737488355328)) (K (.own id T.nx) id (.own c (m++l)) false (id :: rd)))=some r:=h
    have fg:memN id rd=false:=by
     cases hm:memN id rd
     ·rfl
     ·rw[hm]at h;cases h
    rw[fg]at h;have hk:=Dx (G:=none) h;have hb:(m++l).length*bytes<=140737488355328:=by simpa using hk.2 trivial
    obtain⟨ok,aB,ce⟩:=NK hA h2 cM st;have e1:ar x=match (U id vst).n with | 0=>.nils | n+1=>.vec id (U id vst).ep 0 (n+1):=e1
    rw[e3.1.1]at e1;have bK:=hA.toAr.ep ho;cases m with
    |nil =>
     have e1:ar x=.nils:=e1;have e2:hh id=.gone (U id vst).ep:=e2;cases l with
     |nil =>
      have aD:(Ao.append id st bytes x y).req ar hh=⟨ok/\c.n=st,rd,.nils,none⟩:=(by simp only[Ao.req,Fo,e1,ce];rfl);refine⟨_,_,_,_,_,(U id vst).ep,⟨0,0,fun _=>[]⟩,hk.1,⟨Dc _,by rw[aD];exact⟨aB,q3⟩,?_,trivial,by rw[aD];exact fun j hj=>AR _ hj,?_,AS ..,hA.ro _ _ ho,(fun e=>by cases e),trivial⟩⟩
      ·rw[aD];show VEq _ (match (upd U id T.nx _ id T.nx).n with | 0=>.nils | n+1=>.vec id (upd U id T.nx _ id T.nx).ep 0 (n+1));rw[yzj];exact .refl _
      ·rw[aD];show OEq (hh id) (.gone (U id vst).ep);rw[e2];exact .refl _
     |cons a l =>
      have aD:(Ao.append id st bytes x y).req ar hh=⟨(hh id).plain/\ok/\c.n=st/\0<st/\0<(a :: l).length/\(a :: l).length*bytes<=140737488355328,id :: rd,.vec id ((hh id).ep+1) 0 (a :: l).length,some (id,.vec ((hh id).ep+1) st (a :: l).length (Ai c.cA (a :: l)))⟩:=(by simp only[Ao.req,Fo,e1,ce];rw[Ag (by simp)]);refine⟨_,_,_,_,_,(hh id).ep+1,⟨0,0,fun _=>[]⟩,hk.1,⟨Dc _,by rw[aD];exact⟨hA.pl id (hA.ro _ _ ho),aB,q3,q4,by simp,hb⟩,?_,trivial,by rw[aD];exact fun j hj=>hj,?_,AS ..,hA.ro _ _ ho,(fun e=>by cases e),trivial⟩⟩
      ·rw[aD];show VEq _ (match (upd U id T.nx _ id T.nx).n with | 0=>.nils | n+1=>.vec id (upd U id T.nx _ id T.nx).ep 0 (n+1));rw[yzj];exact .refl _
      ·rw[aD];refine⟨rfl,?_⟩;show OEq _ (.vec ((hh id).ep+1) c.n (l.length+1) (Ai c.cA (a :: l)));rw[q3];exact .refl _
    |cons z m =>
     have e1:ar x=.vec id (U id vst).ep 0 (m.length+1):=e1;have e2:hh id=.vec (U id vst).ep c.n (m.length+1) (Ai c.cA (z :: m)):=e2;have aD:(Ao.append id st bytes x y).req ar hh=⟨ok/\c.n=st/\(U id vst).ep=(U id vst).ep/\c.n=st/\0+(m.length+1)<=m.length+1/\((m.length+1)+l.length)*bytes<=140737488355328,id :: rd,.vec id ((U id vst).ep+1) 0 ((m.length+1)+l.length),some (id,.vec ((U id vst).ep+1) st ((m.length+1)+l.length) (fun k=>if k<m.length+1 then Ai c.cA (z :: m) (0+k) else Ai c.cA l (k-(m.length+1))))⟩:=(by simp only[Ao.req,Fo,e1,ce,e2]);have aE:(m.length+1)+l.length=(m++l).length+1:=(by simp only[Db];omega);refine⟨_,_,_,_,_,(U id vst).ep+1,⟨0,0,fun _=>[]⟩,hk.1,⟨Dc _,by rw[aD];exact⟨aB,q3,rfl,q3,by omega,by rw[aE];simpa using hb⟩,?_,trivial,by rw[aD];exact fun j hj=>hj,?_,AS ..,hA.ro _ _ ho,(fun e=>by cases e),trivial⟩⟩
     ·rw[aD];show VEq _ (match (upd U id T.nx _ id T.nx).n with | 0=>.nils | n+1=>.vec id (upd U id T.nx _ id T.nx).ep 0 (n+1));rw[yzj];show VEq (.vec id ((U id vst).ep+1) 0 ((m.length+1)+l.length)) (.vec id ((U id vst).ep+1) 0 ((m++l).length+1));rw[aE];exact .refl _
     ·rw[aD];refine⟨rfl,?_⟩;show OEq _ (.vec ((U id vst).ep+1) c.n ((m++l).length+1) (Ai c.cA (z :: m++l)));rw[q3];exact .vec aE fun k _=>qz0k (m:=z :: m) k
   ·cases h
  ·cases h
 ·rename_i id vst q h1 h2;have e1:ar x=.vec id (U id vst).ep 0 (U id vst).n:=(hA.a _ _ h1).1;split at h
  ·rename_i st' c m ho;split at h
   ·rename_i l rd cM;replace h:=AJ h;obtain⟨q1,h⟩:=h;replace h:=AJ h;obtain⟨q3,h⟩:=h;replace h:=AJ h;obtain⟨q4,h⟩:=h;obtain rfl:=AN.1 q1;have q3:=AN.1 q3;have q4:0<st:=by simpa [Gu] using q4
    have hk:=Dx (G:=none) h;have hb:(m++l).length*bytes<=140737488355328:=(by simpa using hk.2 trivial);obtain⟨ok,aB,ce⟩:=NK hA h2 cM st;obtain⟨e2,e3,e4⟩:=hA.toAr.vec ho;rw[e3]at e1;have aD:(Ao.append s st bytes x y).req ar hh=⟨ok/\c.n=st/\(U id vst).ep=(U id vst).ep/\c.n=st/\0+m.length<=m.length/\(m.length+l.length)*bytes<=140737488355328,id :: rd,.vec id ((U id vst).ep+1) 0 (m.length+l.length),some (id,.vec ((U id vst).ep+1) st (m.length+l.length) (fun k=>if k<m.length then Ai c.cA m (0+k) else Ai c.cA l (k-m.length)))⟩:=(by simp only[Ao.req,Fo,e1,ce,e2]);have aE:m.length+l.length=(m++l).length:=(by simp only[Db]);refine⟨_,_,_,_,_,(U id vst).ep+1,⟨0,0,fun _=>[]⟩,hk.1,⟨Dc _,by rw[aD];exact⟨aB,q3,rfl,q3,by omega,by rw[aE];exact hb⟩,?_,trivial,by rw[aD];exact fun j hj=>hj,?_,AS ..,hA.ro _ _ ho,(fun e=>by cases e),trivial⟩⟩
    ·rw[aD];show VEq _ (.vec id (upd U id T.nx _ id T.nx).ep 0 (upd U id T.nx _ id T.nx).n);rw[yzj];show VEq (.vec id ((U id vst).ep+1) 0 (m.length+l.length)) (.vec id ((U id vst).ep+1) 0 (m++l).length);rw[aE];exact .refl _
    ·rw[aD];refine⟨rfl,?_⟩;show OEq _ (.vec ((U id vst).ep+1) c.n (m++l).length (Ai c.cA (m++l)));rw[q3];exact .vec aE fun k _=>qz0k k
   ·cases h
  ·cases h
 ·cases h
theorem wzqs[TabOk](hA:Hp U T ar hh){st0:Nat}(h:RO ty T st0 x y K=some r):VO U T ar hh (.copy st0 x y) K r:=by
 unfold RO at h;split at h
 ·rename_i id vst lo hi q h1 h2;have e1:ar x=.vec id (U id vst).ep lo.toNat (hi-lo).toNat:=(hA.a _ _ h1).1;split at h
  ·rename_i st' c m ho;split at h
   ·rename_i l rd hs;replace h:=AJ h;obtain⟨q1,h⟩:=h;replace h:=AJ h;obtain⟨q2,h⟩:=h;obtain rfl:=AN.1 q1;have q2:=AN.1 q2;have h:Ac (memN id rd) none (ck (CC m lo hi) (K (.s (.int .i64 (min (List.length l) (Int.toNat (hi-lo)):Int))) id (.vec c (B0 m (Int.toNat lo) (List.take (Int.toNat (hi-lo)) l))) true (id :: rd)))=some r:=h
    have fg:memN id rd=false:=by
     cases hm:memN id rd
     ·rfl
     ·rw[hm]at h;cases h
    rw[fg]at h;have hk:=Dx (G:=none) h;obtain⟨k1,k2,k3⟩:=FS (hk.2 trivial);obtain⟨ok,aB,ce⟩:=NK hA h2 hs c.n;obtain⟨e2,e3,e4⟩:=hA.toAr.vec ho;have aD:(Ao.copy st0 x y).req ar hh=⟨ok/\c.n=c.n/\(U id vst).ep=(U id vst).ep/\lo.toNat+(hi-lo).toNat<=m.length/\st0=c.n,id :: rd,.int .i64 (min l.length (hi-lo).toNat:Nat),some (id,.vec (U id vst).ep c.n m.length (fun k=>if lo.toNat<=k/\k<lo.toNat+min l.length (hi-lo).toNat then Ai c.cA l (k-lo.toNat) else Ai c.cA m k))⟩:=by simp only[Ao.req,J9,e1,e2,ce]
    have hl:(List.take (hi-lo).toNat l).length=min l.length (hi-lo).toNat:=(by rw[Gf,Nat.min_comm]);have hp:(B0 m lo.toNat (List.take (hi-lo).toNat l)).length=m.length:=K3 (by rw[hl];omega);refine⟨_,_,_,_,_,(U id vst).ep,U id vst,hk.1,⟨trivial,by rw[aD];exact⟨aB,rfl,rfl,by omega,q2.symm⟩,?_,trivial,by rw[aD];exact fun j hj=>hj,?_,AS ..,hA.ro _ _ ho,(fun _=>⟨vst,_,ho,rfl,?_⟩),trivial⟩⟩
    ·rw[aD];show VEq (.int .i64 ((min l.length (hi-lo).toNat:Nat):Int)) (.int .i64 (min (l.length:Int) ((hi-lo).toNat:Int)));rw[show((min l.length (hi-lo).toNat:Nat):Int)=min (l.length:Int) ((hi-lo).toNat:Int) by omega];exact .refl _
    ·rw[aD];refine⟨rfl,?_⟩;show OEq _ (.vec (U id vst).ep c.n (B0 m lo.toNat (List.take (hi-lo).toNat l)).length (Ai c.cA (B0 m lo.toNat (List.take (hi-lo).toNat l))));refine .vec hp.symm fun k _=>wzh4 (n:=min l.length (hi-lo).toNat) (by omega) hl (fun k hk=>?_) k;rw[qz6f (by omega)];exact .refl _
    ·show(U id vst).n=(B0 m lo.toNat (List.take (hi-lo).toNat l)).length;rw[hp,e3]
   ·cases h
  ·cases h
 ·cases h
theorem wzj8[TabOk](hA:Hp U T ar hh)(h:RP ty T zero x K=some r):VO U T ar hh (.clear zero x) K r:=by
 unfold RP at h;split at h
 ·rename_i z id vst lo hi hz h1;have e1:ar x=.vec id (U id vst).ep lo.toNat (hi-lo).toNat:=(hA.a _ _ h1).1;split at h
  ·rename_i st' c m ho;split at h
   ·rename_i e he;obtain⟨p1,p2⟩:=IY he;rw[Hn hz]at p1 p2;replace h:=AJ h;obtain⟨q1,h⟩:=h;obtain rfl:=AN.1 q1;have hk:=Dx (G:=none) h;obtain⟨k1,k2,k3⟩:=FS (hk.2 trivial);obtain⟨e2,e3,e4⟩:=hA.toAr.vec ho;have aD:(Ao.clear zero x).req ar hh=⟨(U id vst).ep=(U id vst).ep/\lo.toNat+(hi-lo).toNat<=m.length/\zero.length=c.n/\BD zero=true,[id],.tup [],some (id,.vec (U id vst).ep c.n m.length (fun k=>if lo.toNat<=k/\k<lo.toNat+(hi-lo).toNat then zero else Ai c.cA m k))⟩:=by simp only[Ao.req,HI,e1,e2]
    have hl:(List.replicate (hi-lo).toNat e).length=(hi-lo).toNat:=Ox;have hp:(B0 m lo.toNat (List.replicate (hi-lo).toNat e)).length=m.length:=K3 (by rw[hl];omega);refine⟨_,_,_,_,_,(U id vst).ep,U id vst,hk.1,⟨trivial,by rw[aD];exact⟨rfl,by omega,by rw[p1.at.1,KE],p2⟩,by rw[aD];exact .refl _,trivial,by rw[aD];exact fun j hj=>hj,?_,B3.2 rfl,hA.ro _ _ ho,(fun _=>⟨vst,_,ho,rfl,?_⟩),trivial⟩⟩
    ·rw[aD];refine⟨rfl,?_⟩;show OEq _ (.vec (U id vst).ep c.n (B0 m lo.toNat (List.replicate (hi-lo).toNat e)).length (Ai c.cA (B0 m lo.toNat (List.replicate (hi-lo).toNat e))));refine .vec hp.symm fun k _=>wzh4 (n:=(hi-lo).toNat) (src:=fun _=>zero) (by omega) hl (fun k hk=>?_) k;rw[qzul hk];exact p1
    ·show(U id vst).n=(B0 m lo.toNat (List.replicate (hi-lo).toNat e)).length;rw[hp,e3]
   ·cases h
  ·cases h
 ·cases h
theorem wzk0[TabOk](hA:Hp U T ar hh)(hs:inR T.b s=true)(h:qz90 ty T s K=some r):VO U T ar hh (.mkmap s) K r:=by refine⟨_,_,_,_,_,(hh s).ep+1,⟨0,0,fun _=>[]⟩,h,⟨Dc _,hA.pl s hs,?_,trivial,fun j hj=>hj,⟨rfl,.refl _⟩,B3.2 rfl,hs,(fun e=>by cases e),trivial⟩⟩;show VEq (.mp s ((hh s).ep+1)) (.mp s (upd U s T.nx _ s T.nx).ep);rw[yzj];exact .refl _
theorem wzoq[TabOk](hA:Hp U T ar hh){k v:Ae}(h:RQ ty T kd x k v K=some r):VO U T ar hh (.mupd kd x k v) K r:=by
 unfold RQ at h;split at h
 ·rename_i id mst key val h1 h2 h3;have e1:ar x=.mp id (U id mst).ep:=(hA.a _ _ h1).1;have e2:ar k=A6 key:=(hA.a _ _ h2).1;have e3:ar v=A6 val:=(hA.a _ _ h3).1;split at h
  ·rename_i st' ck cv l ho;split at h
   ·rename_i a b ha hb;replace h:=AJ h;obtain⟨q1,h⟩:=h;replace h:=AJ h;obtain⟨q2,h⟩:=h;replace h:=AJ h;obtain⟨q3,h⟩:=h;obtain rfl:=AN.1 q1;have e4:hh id=.amap (U id mst).ep (mEs ck cv l):=(hA.h _ _ _ ho).1;have e6:ar k=A6 (wT ck a):=e2.trans (qz57 q2 ha);have hv:ar v=A6 (wT cv b):=e3.trans (qz6w hb q3);have b9:=(RW q2 a a).2;obtain⟨rr,f1,f2⟩:=RY (v:=cv) q2 a l 0
    have g1:(Ao.mupd kd x k v).req ar hh=⟨(U id mst).ep=(U id mst).ep/\(ar k).kkind=kd,[id],.top,some (id,.amap (U id mst).ep (mEs ck cv (mput (keq ck) l a b)))⟩:=by
     show Cx kd (ar x) (ar k) (ar v) hh=_;unfold Cx;rcases f2 with ⟨rfl,_,g⟩|⟨j,y,rfl,_,g⟩
     ·simp only[e1,e4,e6,f1,hv,g]
     ·simp only[e1,e4,e6,f1,hv,g,Bn]
    refine⟨.s .top,id,.map ck cv (mput (keq ck) l a b),true,[id],(U id mst).ep,U id mst,h,⟨trivial,by rw[g1];exact⟨rfl,by rw[e6];exact b9⟩,by rw[g1];exact .refl .top,trivial,by rw[g1];exact fun j hj=>hj,by rw[g1];exact⟨rfl,.refl _⟩,B3.2 rfl,hA.ro id (mst,.map ck cv l) ho,(fun _=>⟨mst,.map ck cv l,ho,rfl,rfl⟩),trivial⟩⟩
   ·cases h
  ·cases h
 ·cases h
theorem wzdr[TabOk](hA:Hp U T ar hh){o:Ao}(hs:Rt T.b o=true)(h:opO ty T o K=some r):VO U T ar hh o K r:=by
 cases o<;>simp only[opO]at h<;>first
  |(cases h;done)
  |exact wzj3 hA hs h | exact wzso hA hs h | exact wzfd hA hs h | exact wztz hA hs h | exact wzth hA hs h | exact wzkm hA h | exact wzik hA hs h | exact wzqs hA h | exact wzj8 hA h | exact wzk0 hA hs h | exact wzoq hA h
end
end
end Go.Am

