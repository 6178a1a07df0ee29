/- Part T1: a typed interpreter of abstract code, proved sound over the machine. No condition. -/
import Derived.Test.YtibbibelkkgfpaaGreatDoorX1
import Derived.KernelRfl
set_option linter.unusedSimpArgs false
set_option linter.unusedVariables false
namespace Go.Am
inductive CT where
 |int (k:IntKind) | bool | str
 |slc (c:CT)
 |us (i:Nat)
 |fn (i:Nat)
 |mp (k v:CT)
class TabT where
 T:Nat->Type
 E:Nat->Aa
 P:Program
 FA:Nat->Type
 FR:Nat->Type
 aA:(i:Nat)->FA i->List Aa
 aR:(i:Nat)->FR i->Aa
section
variable [TabT]
structure FnV(i:Nat) where
 f:FuncId
 nb:Nat
 caps:List Aa
 nr:∀x,x∈caps->AB x
 g:TabT.FA i->Option (TabT.FR i)
 ok:∀a r,g a=some r->FnOk TabT.E TabT.P f nb caps (TabT.aA i a) (TabT.aR i r)
def CT.T:CT->Type
 |.int _=>Int
 |.bool=>Bool
 |.str=>List UInt8
 |.slc c=>List c.T
 |.us i=>TabT.T i
 |.fn i=>FnV i
 |.mp k v=>List (k.T×v.T)
def RowC(t:Type):List CT->Type
 |[]=>t
 |d :: l=>t×RowC d.T l
def Row:List CT->Type
 |[]=>Unit
 |c :: l=>RowC c.T l
inductive SV where
 |int (k:IntKind) (n:Int) | bool (b:Bool) | str (s:List UInt8)
 |nil
 |slc (c:CT) (l:List c.T)
 |agg (l:List SV) | tup (l:List SV)
 |cptr (l:List SV) (off:Nat)
 |fn (f:FuncId) (nb:Nat) (caps:List SV)
 |fnp (i:Nat) (x:FnV i)
 |nilp
 |mpv (k v:CT) (l:List (k.T×v.T))
 |top
def CT.cast:(c c':CT)->Option (PLift (c=c'))
 |.int k,.int k'=>if h:k=k' then some ⟨by rw[h]⟩ else none
 |.bool,.bool=>some ⟨rfl⟩
 |.str,.str=>some ⟨rfl⟩
 |.slc c,.slc c'=>match CT.cast c c' with
  |some ⟨h⟩=>some ⟨by rw[h]⟩
  |none=>none
 |.us i,.us j=>if h:i=j then some ⟨by rw[h]⟩ else none
 |.fn i,.fn j=>if h:i=j then some ⟨by rw[h]⟩ else none
 |.mp k v,.mp k' v'=>match CT.cast k k',CT.cast v v' with
  |some ⟨h⟩,some ⟨h'⟩=>some ⟨by rw[h,h']⟩
  |_,_=>none
 |_,_=>none
def Z7:(l l':List CT)->Option (PLift (l=l'))
 |[],[]=>some ⟨rfl⟩
 |c :: l,c' :: l'=>match CT.cast c c',Z7 l l' with
  |some ⟨h⟩,some ⟨k⟩=>some ⟨by rw[h,k]⟩
  |_,_=>none
 |_,_=>none
def BA(c c':CT)(l:List c.T):Option (List c'.T):=match CT.cast c c' with
 |some ⟨h⟩=>some (h▸l)
 |none=>none
def lfT:(c:CT)->c.T->SV
 |.int k,n=>.int k n
 |.bool,b=>.bool b
 |.str,s=>.str s
 |.slc c,l=>.slc c l
 |.us _,_=>.top
 |.fn i,x=>.fnp i x
 |.mp k v,x=>.mpv k v x
def IB(c:CT):(l:List CT)->RowC c.T l->List SV
 |[],x=>[lfT c x]
 |d :: l,x=>lfT c x.1 :: IB d l x.2
def rowS:(l:List CT)->Row l->List SV
 |[],_=>[]
 |c :: l,x=>IB c l x
def ofI(k:IntKind):SV->Option Int
 |.int k' n=>if k=k' then some n else none
 |_=>none
def ofBT:SV->Option Bool
 |.bool b=>some b
 |_=>none
def IC:SV->Option (List UInt8)
 |.str s=>some s
 |_=>none
def ofSl(c:CT):SV->Option (List c.T)
 |.slc c' l=>BA c' c l
 |.nil=>some []
 |_=>none
def ofFn(i:Nat):SV->Option (FnV i)
 |.fnp j x=>if h:j=i then some (h▸x) else none
 |_=>none
def QP(k v k' v':CT)(x:List (k.T×v.T)):Option (List (k'.T×v'.T)):=match CT.cast k k',CT.cast v v' with
 |some ⟨h⟩,some ⟨h'⟩=>some (h▸h'▸x)
 |_,_=>none
def ofMp(k v:CT):SV->Option (List (k.T×v.T))
 |.mpv k' v' x=>QP k' v' k v x
 |_=>none
def ofLf:(c:CT)->SV->Option c.T
 |.int k=>ofI k
 |.bool=>ofBT
 |.str=>IC
 |.slc c=>ofSl c
 |.us _=>fun _=>none
 |.fn i=>ofFn i
 |.mp _ _=>fun _=>none
def DF{t:Type}(f:SV->Option t):List SV->Option t
 |[v]=>f v
 |_=>none
def ID{t u:Type}(f:SV->Option t)(g:List SV->Option u):List SV->Option (t×u)
 |[]=>none
 |v :: r=>match f v,g r with
  |some a,some b=>some (a,b)
  |_,_=>none
def IE:List SV->Option Unit
 |[]=>some ()
 |_=>none
def IF(c:CT):(l:List CT)->List SV->Option (RowC c.T l)
 |[]=>DF (ofLf c)
 |d :: l=>ID (ofLf c) (IF d l)
def QQ:(l:List CT)->List SV->Option (Row l)
 |[]=>IE
 |c :: l=>IF c l
end
class Tab extends TabT where
 ls:Nat->List CT
 mkS:(i:Nat)->Row (ls i)->T i
 unS:(i:Nat)->T i->Row (ls i)
 inh:(i:Nat)->Inhabited (T i)
 cA:(i:Nat)->T i->List Aa
 fa:Nat->List CT
 fr:Nat->List CT
 eA:(i:Nat)->Row (fa i)=FA i
 eR:(i:Nat)->Row (fr i)=FR i
 kk:Nat->Option (List Nat)
 ke:(i:Nat)->T i->T i->Bool
section
variable [Tab]
def CT.n:CT->Nat
 |.us i=>(Tab.ls i).length
 |_=>1
def CT.cA:(c:CT)->c.T->List Aa
 |.int k=>cI k
 |.bool=>cB
 |.str=>cS
 |.slc c=>cL c.n c.cA
 |.us i=>Tab.cA i
 |.fn i=>fun x=>[.fn x.f x.nb x.caps]
 |.mp _ _=>fun _=>[.top]
mutual
def A0:SV->Aa
 |.int k n=>.int k n
 |.bool b=>.bool b
 |.str s=>.str s
 |.nil=>.nils
 |.slc c l=>slcV c.n c.cA l
 |.agg l=>.agg (Ax l)
 |.tup l=>.tup (Ax l)
 |.cptr l off=>.cptr (fun k=>(Ax l).getD k .top) l.length off
 |.fn f nb l=>.fn f nb (Ax l)
 |.fnp i x=>.fn x.f x.nb x.caps
 |.nilp=>.nilp
 |.mpv _ _ _=>.top
 |.top=>.top
def Ax:List SV->List Aa
 |[]=>[]
 |x :: l=>A0 x :: Ax l
end
def FnV.no(i:Nat):FnV i:=⟨0,0,[],(fun _ h=>by cases h),fun _=>none,fun _ _ h=>by cases h⟩
instance CT.inh:(c:CT)->Inhabited c.T
 |.int _=>(inferInstance:Inhabited Int)
 |.bool=>(inferInstance:Inhabited Bool)
 |.str=>(inferInstance:Inhabited (List UInt8))
 |.slc c=>(inferInstance:Inhabited (List c.T))
 |.us i=>Tab.inh i
 |.fn i=>⟨FnV.no i⟩
 |.mp k v=>(inferInstance:Inhabited (List (k.T×v.T)))
@[reducible] def Z8(c:CT):(l:List CT)->Inhabited (RowC c.T l)
 |[]=>c.inh
 |d :: l=>@instInhabitedProd _ _ c.inh (Z8 d l)
instance rowInh:(l:List CT)->Inhabited (Row l)
 |[]=>(inferInstance:Inhabited Unit)
 |c :: l=>Z8 c l
def wT:(c:CT)->c.T->SV
 |.int k,n=>.int k n
 |.bool,b=>.bool b
 |.str,s=>.str s
 |.slc c,l=>.slc c l
 |.us i,x=>.agg (rowS (Tab.ls i) (Tab.unS i x))
 |.fn i,x=>.fnp i x
 |.mp k v,x=>.mpv k v x
def IG(i:Nat)(l:List SV):Option (TabT.T i):=match QQ (Tab.ls i) l with
 |some r=>some (Tab.mkS i r)
 |none=>none
def ofAg(i:Nat):SV->Option (TabT.T i)
 |.agg l=>IG i l
 |_=>none
def Hb:(c:CT)->List SV->Option c.T
 |.us i=>IG i
 |.int k=>DF (ofI k)
 |.bool=>DF ofBT
 |.str=>DF IC
 |.slc c=>DF (ofSl c)
 |.fn i=>DF (ofFn i)
 |.mp _ _=>fun _=>none
def ofW:(c:CT)->SV->Option c.T
 |.us i=>ofAg i
 |.int k=>ofI k
 |.bool=>ofBT
 |.str=>IC
 |.slc c=>ofSl c
 |.fn i=>ofFn i
 |.mp k v=>ofMp k v
def Hc(c:CT):(l:List CT)->RowC c.T l->List SV
 |[],x=>[wT c x]
 |d :: l,x=>wT c x.1 :: Hc d l x.2
def rowW:(l:List CT)->Row l->List SV
 |[],_=>[]
 |c :: l,x=>Hc c l x
def IH(c:CT):(l:List CT)->List SV->Option (RowC c.T l)
 |[]=>DF (ofW c)
 |d :: l=>ID (ofW c) (IH d l)
def MP:(l:List CT)->List SV->Option (Row l)
 |[]=>IE
 |c :: l=>IH c l
def Dm:(c:CT)->c.T->List SV
 |.us i,x=>rowS (Tab.ls i) (Tab.unS i x)
 |.int k,n=>[.int k n]
 |.bool,b=>[.bool b]
 |.str,s=>[.str s]
 |.slc c,l=>[.slc c l]
 |.fn i,x=>[.fnp i x]
 |.mp k v,x=>[.mpv k v x]
def SV.cells:SV->Option (List SV)
 |.agg l=>some l
 |.tup _=>none
 |.top=>none
 |.mpv _ _ _=>none
 |x=>some [x]
def retT:(l:List CT)->Row l->SV
 |[c],x=>wT c x
 |l,x=>.tup (rowW l x)
class TabOk:Prop where
 unmk:∀(i:Nat) (r:Row (Tab.ls i)),Tab.unS i (Tab.mkS i r)=r
 cells:∀(i:Nat) (x:TabT.T i),Tab.cA i x=Ax (rowS (Tab.ls i) (Tab.unS i x))
 nor:∀(i:Nat) (x:TabT.T i) (v:Aa),v∈Tab.cA i x->AB v
 pos:∀i,∀c∈Tab.ls i,∀j,c≠.us j
 aA:∀(i:Nat) (x:Row (Tab.fa i)),TabT.aA i (cast (Tab.eA i) x)=Ax (rowW (Tab.fa i) x)
 aR:∀(i:Nat) (x:Row (Tab.fr i)),TabT.aR i (cast (Tab.eR i) x)=A0 (retT (Tab.fr i) x)
 kq:∀(i:Nat) (x y:TabT.T i) (l:List Nat),Tab.kk i=some l->(Tab.cA i x).map Aa.kind=l/\BL (Tab.cA i x) (Tab.cA i y)=some (Tab.ke i x y)
end
universe u
def tall:Unit:=(fun _=>()) (lp (fun(n:Nat)=>some (.inr n:Sum Nat Nat)) 0)
def Ac{α:Sort u}(c:Bool)(x y:α):α:=match c,tall with
 |true,_=>x
 |false,_=>y
theorem II{α:Sort u}(x y:α):Ac true x y=x:=rfl
theorem qzqa{α:Sort u}(x y:α):Ac false x y=y:=rfl
theorem AL{a b:Nat}:Nat.beq a b=true↔a=b:=by simp
theorem Ep{a b:Nat}:Nat.beq a b=false↔a≠b:=by rw[<-Bool.not_eq_true,AL]
theorem Ws.getD:∀{l l':List Aa},Ws l l'->∀j,W (l.getD j .top) (l'.getD j .top)
 |[],[],_,j=>.refl _
 |x :: l,y :: l',h,0=>h.1
 |x :: l,y :: l',h,j+1=>Ws.getD (l:=l) (l':=l') h.2 j
 |[],_ :: _,h,_=>h.elim
 |_ :: _,[],h,_=>h.elim
theorem Ws.append{l l' m m':List Aa}(h:Ws l l')(k:Ws m m'):Ws (l++m) (l'++m'):=by
 match l,l',h with
 |[],[],_=>exact k
 |x :: l,y :: l',h=>exact⟨h.1,Ws.append h.2 k⟩
def lt3:List Nat->Bool
 |[]=>true
 |k :: l=>Ac (Nat.blt k 3) (lt3 l) false
theorem Z9:∀{l:List Nat},lt3 l=true->∀k∈l,k<3
 |[],_,k,h=>by cases h
 |j :: l,e,k,h=>by
  obtain⟨h1,h2⟩:Nat.blt j 3=true/\lt3 l=true:=by
   have e:Ac (Nat.blt j 3) (lt3 l) false=true:=e;cases hb:Nat.blt j 3 with
   |true=>rw[hb]at e;exact⟨rfl,e⟩
   |false=>rw[hb]at e;cases e
  rcases AY.1 h with rfl|h
  ·simpa [Gt] using h1
  ·exact Z9 h2 k h
theorem W.scalar{x y:Aa}(h:W x y)(k:y.kind<3):x=y:=by cases h<;>first|rfl|(simp[Aa.kind]at k)
theorem Ws.scalar:∀{l m:List Aa},Ws l m->(∀y∈m,y.kind<3)->l=m
 |[],[],_,_=>rfl
 |x :: l,y :: m,h,k=>by rw[h.1.scalar (k y (AP ..)),Ws.scalar (l:=l) (m:=m) h.2 fun z hz=>k z (AQ _ hz)]
 |[],_ :: _,h,_=>h.elim
 |_ :: _,[],h,_=>h.elim
theorem wzi0{A B:Type}(e:A=B)(h:Option A=Option B)(x:Option A):cast h x=x.map (cast e):=by subst e;cases x<;>rfl
section
variable [Tab]
structure Fc where
 f:FuncId
 a:List CT
 p:List Bool
 r:List CT
 F:Row a->Option (Row r)
def ofP(c:CT):Bool->SV->Option c.T
 |false,v=>ofW c v
 |true,.cptr l 0=>Hb c l
 |_,_=>none
def MQ(c:CT):(l:List CT)->List Bool->List SV->Option (RowC c.T l)
 |[],p=>DF (ofP c (p.headD false))
 |d :: l,p=>ID (ofP c (p.headD false)) (MQ d l p.tail)
def ZA:(l:List CT)->List Bool->List SV->Option (Row l)
 |[],_=>IE
 |c :: l,p=>MQ c l p
def prmC(c:CT):Bool->c.T->SV
 |false,x=>wT c x
 |true,x=>.cptr (Dm c x) 0
def Hd(c:CT):(l:List CT)->List Bool->RowC c.T l->List SV
 |[],p,x=>[prmC c (p.headD false) x]
 |d :: l,p,x=>prmC c (p.headD false) x.1 :: Hd d l p.tail x.2
def prmS:(l:List CT)->List Bool->Row l->List SV
 |[],_,_=>[]
 |c :: l,p,x=>Hd c l p x
theorem IJ:∀(l:List SV),Ax l=l.map A0
 |[]=>rfl
 |x :: l=>by show A0 x :: Ax l=_;rw[IJ l];rfl
theorem Gp(l:List SV):(Ax l).length=l.length:=by simp[IJ]
theorem MR(l m:List SV):Ax (l++m)=Ax l++Ax m:=by simp[IJ]
theorem MS(n:Nat)(l:List SV):Ax (l.take n)=(Ax l).take n:=by simp[IJ]
theorem MT(n:Nat)(l:List SV):Ax (l.drop n)=(Ax l).drop n:=by simp[IJ]
theorem ZB(l:List SV)(i:Nat):A0 (l.getD i .top)=(Ax l).getD i .top:=by simp only[IJ,E6,Hz];cases l[i]?<;>rfl
theorem QR(v:SV):unv (A0 v)=A0 v:=by
 cases v with
 |_=>rfl
theorem QS(v:SV)(c:Bool):unc c (A0 v):=by
 cases v with
 |_=>exact trivial
theorem MU{v:SV}{l:List SV}(h:v.cells=some l):Cs (A0 v)=some (Ax l):=by
 cases v with
 |_=>simp only[SV.cells]at h<;>cases h<;>rfl
theorem EY{c c':CT}{l:List c.T}{m:List c'.T}(h:BA c c' l=some m):slcV c.n c.cA l=slcV c'.n c'.cA m/\l.length=m.length/\Ai c.cA l=Ai c'.cA m/\c=c':=by
 unfold BA at h;split at h
 ·rename_i e _;subst e;cases h;exact⟨rfl,rfl,rfl,rfl⟩
 ·cases h
theorem ZC(c:CT):∀(l:List CT) (r:RowC c.T l),(IB c l r).length=l.length+1
 |[],r=>rfl
 |d :: l,r=>by show _+1=_;rw[ZC d l r.2];rfl
theorem wzjl:∀(l:List CT) (r:Row l),(rowS l r).length=l.length
 |[],r=>rfl
 |c :: l,r=>ZC c l r
theorem QT:∀(c:CT) (x:c.T),(Dm c x).length=c.n
 |.int k,x=>rfl
 |.bool,x=>rfl
 |.str,x=>rfl
 |.slc c,x=>rfl
 |.us i,x=>wzjl _ _
 |.fn i,x=>rfl
 |.mp _ _,x=>rfl
theorem IK{k:IntKind}{v:SV}{x:Int}(h:ofI k v=some x):v=.int k x:=by
 unfold ofI at h;split at h
 ·split at h;·rename_i e;subst e;cases h;rfl
  ·cases h
 ·cases h
theorem IL{v:SV}{x:Bool}(h:ofBT v=some x):v=.bool x:=by unfold ofBT at h;split at h<;>cases h;rfl
theorem IM{v:SV}{x:List UInt8}(h:IC v=some x):v=.str x:=by unfold IC at h;split at h<;>cases h;rfl
theorem MW{c:CT}{v:SV}{x:List c.T}(h:ofSl c v=some x):W (A0 v) (slcV c.n c.cA x)/\(A0 v).one=true:=by
 unfold ofSl at h;split at h
 ·have:=EY h;refine⟨?_,rfl⟩;rw[<-this.1];exact .refl _
 ·cases h;exact⟨.nil _ _,rfl⟩
 ·cases h
theorem KA{i:Nat}{v:SV}{x:FnV i}(h:ofFn i v=some x):v=.fnp i x:=by
 unfold ofFn at h;split at h
 ·split at h;·rename_i e;subst e;cases h;rfl
  ·cases h
 ·cases h
theorem ZD:∀{c:CT} {v:SV} {x:c.T},ofLf c v=some x->W (A0 v) (A0 (lfT c x))/\(A0 v).one=true
 |.int k,v,x,h=>by rw[IK h];exact⟨.refl _,rfl⟩
 |.bool,v,x,h=>by rw[IL h];exact⟨.refl _,rfl⟩
 |.str,v,x,h=>by rw[IM h];exact⟨.refl _,rfl⟩
 |.slc c,v,x,h=>MW h
 |.us i,v,x,h=>by cases h
 |.fn i,v,x,h=>by rw[KA h];exact⟨.refl _,rfl⟩
 |.mp _ _,v,x,h=>by cases h
theorem DG{t:Type}{f:SV->Option t}{v:List SV}{x:t}(h:DF f v=some x):∃u,v=[u]/\f u=some x:=by
 unfold DF at h;split at h
 ·exact⟨_,rfl,h⟩
 ·cases h
theorem IN{t u:Type}{f:SV->Option t}{g:List SV->Option u}{v:List SV}{x:t×u}(h:ID f g v=some x):∃y r,v=y :: r/\f y=some x.1/\g r=some x.2:=by
 unfold ID at h;split at h
 ·cases h
 ·rename_i y r;split at h
  ·rename_i a b h1 h2;cases h;exact⟨y,r,rfl,h1,h2⟩
  ·cases h
theorem IP{v:List SV}{x:Unit}(h:IE v=some x):v=[]:=by
 unfold IE at h;split at h
 ·rfl
 ·cases h
theorem ZE:∀(c:CT) (l:List CT) (v:List SV) (r:RowC c.T l),IF c l v=some r->Ws (Ax v) (Ax (IB c l r))/\BD (Ax v)=true
 |c,[],v,r,h=>by obtain⟨u,rfl,h⟩:=DG (f:=ofLf c) h;obtain⟨h1,h2⟩:=ZD h;exact⟨⟨h1,trivial⟩,by show(_&&true)=true;rw[h2];rfl⟩
 |c,d :: l,v,r,h=>by obtain⟨y,q,rfl,h1,h2⟩:=IN (f:=ofLf c) (g:=IF d l) h;obtain⟨p1,p2⟩:=ZD h1;obtain⟨q1,q2⟩:=ZE d l q r.2 h2;exact⟨⟨p1,q1⟩,by show(_&&_)=true;rw[p2,q2];rfl⟩
theorem wzky{l:List CT}{v:List SV}{r:Row l}(h:QQ l v=some r):Ws (Ax v) (Ax (rowS l r))/\BD (Ax v)=true:=by
 cases l with
 |nil=>rw[IP h];exact⟨trivial,rfl⟩
 |cons c l=>exact ZE c l v r h
theorem QU{i:Nat}{v:SV}{x:TabT.T i}(h:ofAg i v=some x):∃l,v=.agg l/\IG i l=some x:=by
 unfold ofAg at h;split at h
 ·exact⟨_,rfl,h⟩
 ·cases h
def ex1:SV->Bool
 |.int _ _ | .bool _ | .str _ | .slc _ _ | .fnp _ _=>true
 |_=>false
def exL:List SV->Bool
 |[]=>true
 |v :: l=>Ac (ex1 v) (exL l) false
def exV:SV->Bool
 |.agg l=>exL l
 |v=>ex1 v
theorem ZF{v:SV}{l:List SV}(h:exL (v :: l)=true):ex1 v=true/\exL l=true:=by
 have h:Ac (ex1 v) (exL l) false=true:=h;cases hb:ex1 v with
 |true=>rw[hb]at h;exact⟨rfl,h⟩
 |false=>rw[hb]at h;cases h
theorem ZG:∀{c:CT} {v:SV} {x:c.T},ofLf c v=some x->ex1 v=true->A0 v=A0 (lfT c x)
 |.int k,v,x,h,_=>by rw[IK h];rfl
 |.bool,v,x,h,_=>by rw[IL h];rfl
 |.str,v,x,h,_=>by rw[IM h];rfl
 |.slc c,v,x,h,e=>by
  have h:ofSl c v=some x:=h;unfold ofSl at h;split at h
  ·exact(EY h).1
  ·cases e
  ·cases h
 |.us i,v,x,h,_=>by cases h
 |.fn i,v,x,h,_=>by rw[KA h];rfl
 |.mp _ _,v,x,h,_=>by cases h
theorem ZH:∀(c:CT) (l:List CT) (v:List SV) (r:RowC c.T l),IF c l v=some r->exL v=true->Ax v=Ax (IB c l r)
 |c,[],v,r,h,e=>by obtain⟨u,rfl,h⟩:=DG (f:=ofLf c) h;show [A0 u]=[A0 (lfT c r)];rw[ZG h (ZF e).1]
 |c,d :: l,v,r,h,e=>by obtain⟨y,q,rfl,h1,h2⟩:=IN (f:=ofLf c) (g:=IF d l) h;obtain⟨e1,e2⟩:=ZF e;show A0 y :: Ax q=A0 (lfT c r.1) :: Ax (IB d l r.2);rw[ZG h1 e1,ZH d l q r.2 h2 e2]
theorem wzj4{l:List CT}{v:List SV}{r:Row l}(h:QQ l v=some r)(e:exL v=true):Ax v=Ax (rowS l r):=by
 cases l with
 |nil=>rw[IP h];rfl
 |cons c l=>exact ZH c l v r h e
variable [TabOk]
theorem IQ:∀(c:CT) (x:c.T),Ax (Dm c x)=c.cA x
 |.int k,x=>rfl
 |.bool,x=>rfl
 |.str,x=>rfl
 |.slc c,x=>rfl
 |.us i,x=>(TabOk.cells i x).symm
 |.fn i,x=>rfl
 |.mp _ _,x=>rfl
theorem KB(c:CT)(x:c.T):(c.cA x).length=c.n:=by rw[<-IQ,Gp,QT]
theorem QV{i:Nat}{v:List SV}{x:TabT.T i}(h:IG i v=some x):Ws (Ax v) (Tab.cA i x)/\BD (Ax v)=true:=by
 unfold IG at h;split at h
 ·rename_i r hr;cases h;have:=wzky hr;rw[TabOk.cells,TabOk.unmk];exact this
 ·cases h
theorem IR:∀{c:CT} {v:List SV} {x:c.T},Hb c v=some x->Ws (Ax v) (c.cA x)/\BD (Ax v)=true
 |.us i,v,x,h=>QV h
 |.int k,v,x,h=>by obtain⟨u,rfl,h⟩:=DG h;rw[IK h];exact⟨⟨.refl _,trivial⟩,rfl⟩
 |.bool,v,x,h=>by obtain⟨u,rfl,h⟩:=DG h;rw[IL h];exact⟨⟨.refl _,trivial⟩,rfl⟩
 |.str,v,x,h=>by obtain⟨u,rfl,h⟩:=DG h;rw[IM h];exact⟨⟨.refl _,trivial⟩,rfl⟩
 |.slc c,v,x,h=>by obtain⟨u,rfl,h⟩:=DG h;have:=MW h;exact⟨⟨this.1,trivial⟩,by show(_&&true)=true;rw[this.2];rfl⟩
 |.fn i,v,x,h=>by obtain⟨u,rfl,h⟩:=DG h;rw[KA h];exact⟨⟨.refl _,trivial⟩,rfl⟩
 |.mp _ _,v,x,h=>by cases h
theorem MY(i:Nat)(x:TabT.T i):A0 (wT (.us i) x)=.agg (Tab.cA i x):=by rw[TabOk.cells];rfl
theorem Dn:∀{c:CT} {v:SV} {x:c.T},ofW c v=some x->W (A0 v) (A0 (wT c x))
 |.us i,v,x,h=>by obtain⟨l,rfl,h⟩:=QU h;have e:A0 (wT (.us i) x)=.agg (Tab.cA i x):=MY i x;exact e▸OJ.2 (QV h).1
 |.int k,v,x,h=>by rw[IK h];exact .refl _
 |.bool,v,x,h=>by rw[IL h];exact .refl _
 |.str,v,x,h=>by rw[IM h];exact .refl _
 |.slc c,v,x,h=>(MW h).1
 |.fn i,v,x,h=>by rw[KA h];exact .refl _
 |.mp k v,u,x,h=>by
  have h:ofMp k v u=some x:=h;unfold ofMp at h;split at h
  ·exact .refl _
  ·cases h
theorem qz6w:∀{c:CT} {v:SV} {x:c.T},ofW c v=some x->exV v=true->A0 v=A0 (wT c x)
 |.int k,v,x,h,_=>by rw[IK h];rfl
 |.bool,v,x,h,_=>by rw[IL h];rfl
 |.str,v,x,h,_=>by rw[IM h];rfl
 |.slc c,v,x,h,e=>by
  have h:ofSl c v=some x:=h;unfold ofSl at h;split at h
  ·exact(EY h).1
  ·cases e
  ·cases h
 |.us i,v,x,h,e=>by
  obtain⟨l,rfl,k⟩:=QU h;unfold IG at k;split at k
  ·rename_i r hr;cases k;have e2:A0 (wT (.us i) (Tab.mkS i r))=.agg (Ax (rowS (Tab.ls i) (Tab.unS i (Tab.mkS i r)))):=rfl;rw[e2,TabOk.unmk];show Aa.agg (Ax l)=_;rw[wzj4 hr e]
  ·cases k
 |.fn i,v,x,h,_=>by rw[KA h];rfl
 |.mp _ _,v,x,h,e=>by
  have h:ofMp _ _ v=some x:=h;unfold ofMp at h;split at h
  ·rfl
  ·cases h
theorem ZI:∀(c:CT) (l:List CT) (v:List SV) (r:RowC c.T l),IH c l v=some r->Ws (Ax v) (Ax (Hc c l r))
 |c,[],v,r,h=>by obtain⟨u,rfl,h⟩:=DG (f:=ofW c) h;exact⟨Dn h,trivial⟩
 |c,d :: l,v,r,h=>by obtain⟨y,q,rfl,h1,h2⟩:=IN (f:=ofW c) (g:=IH d l) h;exact⟨Dn h1,ZI d l q r.2 h2⟩
theorem qzrw{l:List CT}{v:List SV}{r:Row l}(h:MP l v=some r):Ws (Ax v) (Ax (rowW l r)):=by
 cases l with
 |nil=>rw[IP h];exact trivial
 |cons c l=>exact ZI c l v r h
theorem ZJ:∀(c:CT) (x:c.T) (v:Aa),v∈c.cA x->AB v
 |.int k,x,v,h=>U8 v h
 |.bool,x,v,h=>kz9 v h
 |.str,x,v,h=>vza v h
 |.slc c,x,v,h=>wzkp (ZJ c) v h
 |.us i,x,v,h=>TabOk.nor i x v h
 |.fn i,x,v,h=>by
  cases h with
  |head=>exact .fn _ _ _ x.nr
  |tail _ h=>cases h
 |.mp _ _,x,v,h=>by
  cases h with
  |head=>exact .top
  |tail _ h=>cases h
end
section
variable [Tab]
mutual
theorem ZK[TabOk]:∀(v:SV),AB (A0 v)
 |.int _ _=>.int _ _
 |.bool _=>.bool _
 |.str _=>.str _
 |.nil=>.nils
 |.slc c l=>CH (ZJ c)
 |.agg l=>.agg _ (He l)
 |.tup l=>.tup _ (He l)
 |.cptr l off=>.cptr _ _ _ fun j hj=>by
   simp only[E6];cases e:(Ax l)[j]? with
   |none=>exact .top
   |some x=>exact He l x (AI e)
 |.fn f nb l=>.fn _ _ _ (He l)
 |.fnp i x=>.fn _ _ _ x.nr
 |.nilp=>.nilp
 |.mpv _ _ _=>.top
 |.top=>.top
theorem He[TabOk]:∀(l:List SV) (x:Aa),x∈Ax l->AB x
 |[],x,h=>by cases h
 |v :: l,x,h=>by
  cases h with
  |head=>exact ZK v
  |tail _ h=>exact He l x h
end
end
section
variable [Tab]
theorem QW[TabOk]{c:CT}{b:Bool}{v:SV}{x:c.T}(h:ofP c b v=some x):W (A0 v) (A0 (prmC c b x)):=by
 unfold ofP at h;split at h
 ·exact Dn h
 ·rename_i l;obtain⟨h1,_⟩:=IR h;show W (.cptr (fun k=>(Ax l).getD k .top) l.length 0) (.cptr (fun k=>(Ax (Dm c x)).getD k .top) (Dm c x).length 0);have e:l.length=(Dm c x).length:=by rw[QT,<-KB c x,<-h1.at.1,Gp]
  rw[e,IQ];exact .cptr _ _ _ _ fun j _=>h1.getD j
 ·cases h
theorem ZL[TabOk]:∀(c:CT) (l:List CT) (p:List Bool) (v:List SV) (r:RowC c.T l),MQ c l p v=some r->Ws (Ax v) (Ax (Hd c l p r))
 |c,[],p,v,r,h=>by obtain⟨u,rfl,h⟩:=DG (f:=ofP c (p.headD false)) h;exact⟨QW h,trivial⟩
 |c,d :: l,p,v,r,h=>by obtain⟨y,q,rfl,h1,h2⟩:=IN (f:=ofP c (p.headD false)) (g:=MQ d l p.tail) h;exact⟨QW h1,ZL d l p.tail q r.2 h2⟩
theorem qz1n[TabOk]{l:List CT}{p:List Bool}{v:List SV}{r:Row l}(h:ZA l p v=some r):Ws (Ax v) (Ax (prmS l p r)):=by
 cases l with
 |nil=>rw[IP h];exact trivial
 |cons c l=>exact ZL c l p v r h
theorem ZM(nb:Nat)(ags caps:List SV):Ax (fnArgs nb ags caps)=fnArgs nb (Ax ags) (Ax caps):=by unfold fnArgs;rw[MR,MR,MS,MT]
structure Ap(C:Fc):Prop where
 en:CQ TabT.P C.f=true
 ok:∀x y,C.F x=some y->AK TabT.E TabT.P C.f (Ax (prmS C.a C.p x)) (A0 (retT C.r y))
structure Fk extends Fc where
 ok:Ap toFc
def mEs(k v:CT)(l:List (k.T×v.T)):List (Aa×Aa):=l.map fun p=>(A0 (wT k p.1),A0 (wT v p.2))
structure Wc where
 f:FuncId
 c:CT
 a:List CT
 p:List Bool
 F:List c.T->Row a->Option (List c.T)
structure WcOk(C:Wc):Prop where
 en:CQ TabT.P C.f=true
 ok:∀(l:List C.c.T) x r (h:Aq) id ep,C.F l x=some r->h id=ownO ep C.c.n C.c.cA l->ATr TabT.E TabT.P C.f (ownV id ep l :: Ax (prmS C.a C.p x)) h fun v h'=>v=.tup []/\h'=hset h id (ownO ep C.c.n C.c.cA r)/\r.length=l.length
structure Wk extends Wc where
 ok:WcOk toWc
def ZN(c:CT)(l:List c.T)(X:Aa)(h:Aq)(s:Nat):Prop :=
 X=slcV c.n c.cA l\/∃id ep lo m,id≠s/\X=.vec id ep lo l.length/\h id=.vec ep c.n (List.length m) (Ai c.cA m)/\lo+l.length<=m.length/\∀k,k<l.length->Ai c.cA m (lo+k)=Ai c.cA l k
structure Cc where
 f:FuncId
 c:CT
 a:List CT
 p:List Bool
 F:List c.T->Row a->Option (List c.T)
structure CcOk(C:Cc):Prop where
 en:CQ TabT.P C.f=true
 ok:∀(l:List C.c.T) x r (X:Aa) (h:Aq) s,C.F l x=some r->(h s).plain->ZN C.c l X h s->ATr TabT.E TabT.P C.f (X :: Ax (prmS C.a C.p x)) h fun v h'=>∃ep,v=.vec s ep 0 r.length/\0<r.length/\h'=hset h s (.vec ep C.c.n r.length (Ai C.c.cA r))
structure Ck extends Cc where
 ok:CcOk toCc
inductive Fe where
 |k (C:Fk) | w (C:Wk) | c (C:Ck)
def Hf(f:FuncId):List Fe->Option Fk
 |[]=>none
 |.k C :: l=>Ac (Nat.beq C.f f) (some C) (Hf f l)
 |_ :: l=>Hf f l
def IS(f:FuncId):List Fe->Option Wk
 |[]=>none
 |.w C :: l=>Ac (Nat.beq C.f f) (some C) (IS f l)
 |_ :: l=>IS f l
def Hg(f:FuncId):List Fe->Option Ck
 |[]=>none
 |.c C :: l=>Ac (Nat.beq C.f f) (some C) (Hg f l)
 |_ :: l=>Hg f l
theorem IT:∀{H:List Fe} {f:FuncId} {C:Fk},Hf f H=some C->C.f=f
 |[],f,C,h=>by cases h
 |.w _ :: H,f,C,h=>IT (H:=H) h
 |.c _ :: H,f,C,h=>IT (H:=H) h
 |.k D :: H,f,C,h=>by
  have h:Ac (Nat.beq D.f f) (some D) (Hf f H)=some C:=h;cases hb:Nat.beq D.f f
  ·rw[hb]at h;exact IT h
  ·rw[hb]at h;cases h;exact AL.1 hb
theorem MZ:∀{H:List Fe} {f:FuncId} {C:Wk},IS f H=some C->C.f=f
 |[],f,C,h=>by cases h
 |.k _ :: H,f,C,h=>MZ (H:=H) h
 |.c _ :: H,f,C,h=>MZ (H:=H) h
 |.w D :: H,f,C,h=>by
  have h:Ac (Nat.beq D.f f) (some D) (IS f H)=some C:=h;cases hb:Nat.beq D.f f
  ·rw[hb]at h;exact MZ h
  ·rw[hb]at h;cases h;exact AL.1 hb
theorem Na:∀{H:List Fe} {f:FuncId} {C:Ck},Hg f H=some C->C.f=f
 |[],f,C,h=>by cases h
 |.k _ :: H,f,C,h=>Na (H:=H) h
 |.w _ :: H,f,C,h=>Na (H:=H) h
 |.c D :: H,f,C,h=>by
  have h:Ac (Nat.beq D.f f) (some D) (Hg f H)=some C:=h;cases hb:Nat.beq D.f f
  ·rw[hb]at h;exact Na h
  ·rw[hb]at h;cases h;exact AL.1 hb
theorem Fk.call[TabOk](C:Fk){vs:List SV}{r:Row C.a}(hr:Ws (Ax vs) (Ax (prmS C.a C.p r))){y:Row C.r}(hy:C.F r=some y):CQ TabT.P C.f=true/\AK TabT.E TabT.P C.f (Ax vs) (A0 (retT C.r y)) := ⟨C.ok.en,(C.ok.ok r y hy).w hr⟩
def QX{l:List CT}{i:Nat}(e:l=Tab.fr i)(x:Option (Row l)):Option (TabT.FR i):=cast (by rw[e,Tab.eR]) x
theorem wzcj[TabOk]{l:List CT}{i:Nat}{e:l=Tab.fr i}{x:Option (Row l)}{r:TabT.FR i}(h:QX e x=some r):∃y,x=some y/\A0 (retT l y)=TabT.aR i r:=by
 subst e;unfold QX at h;rw[wzi0 (Tab.eR i)]at h;cases x with
 |none=>cases h
 |some y=>cases h;exact⟨y,rfl,(TabOk.aR i y).symm⟩
def Yq[TabOk](C:Fk)(i nb:Nat)(caps:List SV)(e:C.r=Tab.fr i):FnV i :=
 ⟨C.f,nb,Ax caps,He caps,fun a=>match ZA C.a C.p (fnArgs nb (rowW (Tab.fa i) (cast (Tab.eA i).symm a)) caps) with
  |some r=>QX e (C.F r)
  |none=>none,fun a r h=>by
   have ea:TabT.aA i a=Ax (rowW (Tab.fa i) (cast (Tab.eA i).symm a)):=by rw[<-TabOk.aA,cast_cast,cast_eq]
   split at h
   ·rename_i x hx;obtain⟨y,hy,er⟩:=wzcj h;obtain⟨h1,h2⟩:=C.call (qz1n hx) hy;rw[ZM]at h2;exact⟨h1,by rw[ea,<-er];exact h2⟩
   ·cases h⟩
def mkFn[TabOk](H:List Fe)(i:Nat)(f:FuncId)(nb:Nat)(caps:List SV):Option (FnV i):=match Hf f H with
 |some C=>match Z7 C.r (Tab.fr i) with
  |some ⟨e⟩=>some (Yq C i nb caps e)
  |none=>none
 |none=>none
theorem wzq1[TabOk]{H:List Fe}{i:Nat}{f:FuncId}{nb:Nat}{caps:List SV}{x:FnV i}(h:mkFn H i f nb caps=some x):A0 (.fn f nb caps)=A0 (.fnp i x):=by
 unfold mkFn at h;split at h
 ·rename_i C hC;split at h
  ·cases h;show Aa.fn f nb (Ax caps)=.fn C.f nb (Ax caps);rw[IT hC]
  ·cases h
 ·cases h
def QY[TabOk](H:List Fe)(i:Nat):SV->Option (FnV i)
 |.fn f nb caps=>mkFn H i f nb caps
 |v=>ofFn i v
def ofWH[TabOk](H:List Fe):(c:CT)->SV->Option c.T
 |.fn i=>QY H i
 |.us i=>ofAg i
 |.int k=>ofI k
 |.bool=>ofBT
 |.str=>IC
 |.slc c=>ofSl c
 |.mp k v=>ofMp k v
def ofPH[TabOk](H:List Fe)(c:CT):Bool->SV->Option c.T
 |false,v=>ofWH H c v
 |true,v=>ofP c true v
def Nb[TabOk](H:List Fe)(c:CT):(l:List CT)->List Bool->List SV->Option (RowC c.T l)
 |[],p=>DF (ofPH H c (p.headD false))
 |d :: l,p=>ID (ofPH H c (p.headD false)) (Nb H d l p.tail)
def FN[TabOk](H:List Fe):(l:List CT)->List Bool->List SV->Option (Row l)
 |[],_=>IE
 |c :: l,p=>Nb H c l p
theorem wzp8[TabOk]{H:List Fe}:∀{c:CT} {v:SV} {x:c.T},ofWH H c v=some x->W (A0 v) (A0 (wT c x))
 |.us i,v,x,h=>Dn (c:=.us i) h
 |.int k,v,x,h=>Dn (c:=.int k) h
 |.bool,v,x,h=>Dn (c:=.bool) h
 |.str,v,x,h=>Dn (c:=.str) h
 |.slc c,v,x,h=>Dn (c:=.slc c) h
 |.mp k w,v,x,h=>Dn (c:=.mp k w) h
 |.fn i,v,x,h=>by
  have h:QY H i v=some x:=h;unfold QY at h;split at h
  ·rw[wzq1 h];exact .refl _
  ·exact Dn (c:=.fn i) h
theorem ZO[TabOk]{H:List Fe}{c:CT}{b:Bool}{v:SV}{x:c.T}(h:ofPH H c b v=some x):W (A0 v) (A0 (prmC c b x)):=by
 cases b
 ·exact wzp8 h
 ·exact QW h
theorem ZP[TabOk]{H:List Fe}:∀(c:CT) (l:List CT) (p:List Bool) (v:List SV) (r:RowC c.T l),Nb H c l p v=some r->Ws (Ax v) (Ax (Hd c l p r))
 |c,[],p,v,r,h=>by obtain⟨u,rfl,h⟩:=DG (f:=ofPH H c (p.headD false)) h;exact⟨ZO h,trivial⟩
 |c,d :: l,p,v,r,h=>by obtain⟨y,q,rfl,h1,h2⟩:=IN (f:=ofPH H c (p.headD false)) (g:=Nb H d l p.tail) h;exact⟨ZO h1,ZP d l p.tail q r.2 h2⟩
theorem KC[TabOk]{H:List Fe}{l:List CT}{p:List Bool}{v:List SV}{r:Row l}(h:FN H l p v=some r):Ws (Ax v) (Ax (prmS l p r)):=by
 cases l with
 |nil=>rw[IP h];exact trivial
 |cons c l=>exact ZP c l p v r h
end
section
variable [Tab]
inductive PV where
 |s (v:SV)
 |ptr (id st off:Nat)
 |eptr (id st:Nat) (j:Int) (off:Nat) (c:CT) (x:c.T)
 |vec (id st:Nat)
 |vs (id st:Nat) (lo hi:Int)
 |own (id st:Nat)
 |mp (id st:Nat)
inductive TV where
 |v (x:PV)
 |cnd (tg:Nat) (want g:Bool) (x:PV)
inductive TO where
 |gone
 |box (cs:List SV)
 |vec (c:CT) (l:List c.T)
 |own (c:CT) (l:List c.T)
 |map (k v:CT) (l:List (k.T×v.T))
structure Av where
 t:List (Nat×TV)
 h:List (Nat×Nat×TO)
 nx:Nat
 n:Nat
 gs:List Nat
 w:List Nat
 wo:List Nat
 b:Nat
 rf:Nat
def inR(b i:Nat):Bool:=Ac (Nat.ble b i) (Nat.blt i (b+900)) false
def QZ(b:Nat):An->Bool
 |.alloc s _ | .box s _ | .bslice s _ _ _ _ | .mks s _ _ _ _ | .s2b s _ | .append s _ _ _ _ | .mkmap s=>inR b s
 |_=>true
def Ay:List (Nat×TV)->Nat->TV
 |[],_=>.v (.s .top)
 |p :: l,i=>Ac (Nat.beq p.1 i) p.2 (Ay l i)
def Aw:List (Nat×Nat×TO)->Nat->Option (Nat×TO)
 |[],_=>none
 |p :: l,i=>Ac (Nat.beq p.1 i) (some p.2) (Aw l i)
def memN(i:Nat):List Nat->Bool
 |[]=>false
 |j :: l=>Ac (Nat.beq j i) true (memN i l)
abbrev Gd:=Option (Nat×Bool×Bool)
def eqB(a b:Bool):Bool:=Ac a b (!b)
def ofA1:Aa->Option SV
 |.int k n=>some (.int k n)
 |.bool b=>some (.bool b)
 |.str s=>some (.str s)
 |.nils=>some .nil
 |.nilp=>some .nilp
 |_=>none
def ofAL:List Aa->Option (List SV)
 |[]=>some []
 |x :: l=>match ofA1 x,ofAL l with
  |some a,some b=>some (a :: b)
  |_,_=>none
def ofAT:List Aa->List SV
 |[]=>[]
 | x :: l=>(match ofA1 x with
  |some v=>v
  | none=>.top) :: ofAT l
def ofA:Aa->Option SV
 |.agg l=>match ofAL l with
  |some l=>some (.agg l)
  |none=>none
 |.fn f nb []=>some (.fn f nb [])
 |.top=>some .top
 |x=>ofA1 x
def argP(T:Av)(G:Gd):Ae->Option PV
 |.t n=>match Ay T.t n with
  |.v x=>some x
  |.cnd tg want _ x=>match G with
   |some (tg',want',_)=>Ac (Nat.beq tg tg') (Ac (eqB want want') (some x) none) none
   |none=>none
 |.c v=>match ofA v with
  |some v=>some (.s v)
  |none=>none
 |.g _=>none
def FO(T:Av)(G:Gd):List Ae->Option (List SV)
 |[]=>some []
 |x :: l=>match argP T G x,FO T G l with
  |some (.s v),some r=>some (v :: r)
  |_,_=>none
section
variable {α:Type}
def ckg(G:Gd)(c:Bool)(X:Option α):Option α:=match G with
 |none=>ck c X
 |some (_,_,g)=>ck (!g||c) X
def bdg{Y:Type}[Inhabited Y](G:Gd)(x:Option Y)(K:Y->Option α):Option α:=match G with
 |none=>bd x K
 |some (_,_,g)=>bd (gd g x) K
def ckS(G:Gd)(k:IntKind)(n:Int)(K:PV->List Nat->Option α):Option α:=match k with
 |.i8=>ckg G (Au .i8 n) (K (.s (.int .i8 n)) [])
 |.i16=>ckg G (Au .i16 n) (K (.s (.int .i16 n)) [])
 |.i32=>ckg G (Au .i32 n) (K (.s (.int .i32 n)) [])
 |.i64=>ckg G (Au .i64 n) (K (.s (.int .i64 n)) [])
 |.u8=>K (.s (.int .u8 (n%256))) []
 |.u16=>K (.s (.int .u16 (n%65536))) []
 |.u32=>K (.s (.int .u32 (n%4294967296))) []
 |.u64=>K (.s (.int .u64 (n%18446744073709551616))) []
def ckl(G:Gd)(lit c:Bool)(X:Option α):Option α:=Ac lit (Ac c X none) (ckg G c X)
def binI(G:Gd)(op:BinOp)(k:IntKind)(a b:Int)(lit:Bool)(K:PV->List Nat->Option α):Option α:=match op with
 |.add=>ckS G k (a+b) K
 |.sub=>ckS G k (a-b) K
 |.mul=>ckS G k (a*b) K
 |.quo=>ckl G lit (!decide (b=0)) (ckS G k (a.tdiv b) K)
 |.rem=>ckl G lit (!decide (b=0)) (K (.s (.int k (a.tmod b))) [])
 |.and=>K (.s (.int k (bitI .and k a b))) []
 |.or=>K (.s (.int k (bitI .or k a b))) []
 |.xor=>K (.s (.int k (bitI .xor k a b))) []
 |.andNot=>K (.s (.int k (bitI .andNot k a b))) []
 |.eql=>K (.s (.bool (decide (a=b)))) []
 |.neq=>K (.s (.bool (!decide (a=b)))) []
 |.lss=>K (.s (.bool (decide (a<b)))) []
 |.leq=>K (.s (.bool (decide (a<=b)))) []
 |.gtr=>K (.s (.bool (decide (b<a)))) []
 |.geq=>K (.s (.bool (decide (b<=a)))) []
 |_=>none
def Ra(G:Gd)(op:BinOp)(k:IntKind)(a b:Int)(lit:Bool)(K:PV->List Nat->Option α):Option α:=match op with
 |.shl=>ckl G lit (decide (0<=b)) (ckS G k (a*2 ^ min b.toNat k.bits) K)
 |.shr=>ckl G lit (decide (0<=b)) (K (.s (.int k (a.fdiv (2 ^ min b.toNat k.bits)))) [])
 |_=>none
def binS(G:Gd)(op:BinOp)(a b:List UInt8)(K:PV->List Nat->Option α):Option α:=match op with
 |.add=>ckg G (decide (List.length a+List.length b<=4611686018427387904)) (K (.s (.str (a++b))) [])
 |.eql=>K (.s (.bool (decide (a=b)))) []
 |.neq=>K (.s (.bool (!decide (a=b)))) []
 |.lss=>K (.s (.bool (Op.bytesLess a b))) []
 |.leq=>K (.s (.bool (Op.bytesLess a b||decide (a=b)))) []
 |.gtr=>K (.s (.bool (!(Op.bytesLess a b||decide (a=b))))) []
 |.geq=>K (.s (.bool (!Op.bytesLess a b))) []
 |_=>none
def oneS:List SV->Bool
 |[]=>true
 |.agg _ :: _=>false
 |.tup _ :: _=>false
 |.top :: _=>false
 |.mpv _ _ _ :: _=>false
 |_ :: l=>oneS l
def ZQ:Ae->Bool
 |.c _=>true
 |_=>false
def ldS(agg:Bool)(sz:Nat)(l:List SV)(off:Nat):SV:=Ac agg (.agg ((l.drop off).take sz)) (l.getD off .top)
def layS(l:List SV)(off:Nat)(p:List SV):List SV:=l.take off++p++l.drop (off+p.length)
def IU(T:Av)(G:Gd):List SV->List (Nat×Nat×Ae)->Option (List SV)
 |l,[]=>some l
 |l,(off,sz,x) :: r=>match argP T G x with
  |some (.s v)=>match v.cells with
   |some p=>Ac (Nat.beq p.length sz) (Ac (Nat.ble (off+sz) l.length) (IU T G (layS l off p) r) none) none
   |none=>none
  |_=>none
def eqS:List SV->List SV->Option Bool
 |[],[]=>some true
 |x :: l,y :: m=>match x,y,eqS l m with
  |.int k a,.int k' b,some e=>if k=k' then some (decide (a=b)&&e) else none
  |.bool a,.bool b,some e=>some ((a==b)&&e)
  |.str a,.str b,some e=>some (decide (a=b)&&e)
  |_,_,_=>none
 |_,_=>none
def Nc:SV->Nat
 |.bool _=>0
 |.int _ _=>1
 |.str _=>2
 |_=>3
def Nd:List SV->List Nat->Bool
 |[],[]=>true
 |x :: l,n :: m=>Ac (Nat.beq (Nc x) n) (Nd l m) false
 |_,_=>false
def bndS(T:Av)(G:Gd)(d:Int):Option Ae->Option Int
 |none=>some d
 |some a=>match argP T G a with
  |some (.s (.int _ n))=>some n
  |_=>none
def Rb{α:Type}:Nat->List α->Bool
 |_,[]=>true
 |0,_ :: _=>false
 |n+1,_ :: l=>Rb n l
def v_mv(H:List Fe)(T:Av)(G:Gd)(x:Ae)(K:PV->List Nat->Option α):Option α:=match argP T G x,x with
 |some p,_=>K p []
 |none,.c _=>K (.s .top) []
 |none,_=>none
def IV(T:Av)(G:Gd)(n:Nat)(w:Bool)(a:Ae):Option PV:=match G with
 |none=>argP T (some (n,w,w)) a
 |some g=>match argP T (some g) a with
  |some p=>some p
  |none=>argP T (some (n,w,w)) a
def KD(H:List Fe)(T:Av)(G:Gd)(c x y:Ae)(K:PV->List Nat->Option α):Option α:=match c with
 |.t n=>match argP T G (.t n) with
  |some (.s (.bool b))=>match IV T G n true x,IV T G n false y with
   |some (.s (.bool p)),some (.s (.bool q))=>K (.s (.bool (bif b then p else q))) []
   |some (.s (.int k p)),some (.s (.int k' q))=>Ac (decide (k=k')) (K (.s (.int k (bif b then p else q))) []) none
   |_,_=>none
  |_=>none
 |_=>none
def Rc(H:List Fe)(T:Av)(G:Gd)(op:BinOp)(bools:Bool)(x y:Ae)(K:PV->List Nat->Option α):Option α:=match argP T G x,argP T G y with
 |some (.s (.int k a)),some (.s (.int k' b))=>Ac (Fw op) (Ra G op k a b (ZQ y) K) (Ac (decide (k=k')) (binI G op k a b (ZQ y) K) none)
 |some (.s (.str a)),some (.s (.str b))=>binS G op a b K
 |some (.s (.bool a)),some (.s (.bool b))=>match bools,op with
  |true,.eql=>K (.s (.bool (a==b))) []
  |true,.neq=>K (.s (.bool (!(a==b)))) []
  |_,_=>none
 |_,_=>none
def Rd(H:List Fe)(T:Av)(G:Gd)(x:Ae)(K:PV->List Nat->Option α):Option α:=match argP T G x with
 |some (.s (.bool b))=>K (.s (.bool (!b))) []
 |_=>none
def Re(H:List Fe)(T:Av)(G:Gd)(x:Ae)(K:PV->List Nat->Option α):Option α:=match argP T G x with
 |some (.s (.int k n))=>ckS G k (-n) K
 |_=>none
def Rf(H:List Fe)(T:Av)(G:Gd)(agg:Bool)(sz:Nat)(x:Ae)(K:PV->List Nat->Option α):Option α:=match argP T G x with
 |some (.ptr id st off)=>match Aw T.h id with
  |some (st',.box cs)=>Ac (Nat.beq st st') (Ac (Nat.ble (off+sz) cs.length) (Ac (Ac agg true (Nat.beq sz 1)) (K (.s (ldS agg sz cs off)) [id]) none) none) none
  |_=>none
 |some (.eptr id st j off c x)=>match Aw T.h id with
  |some (st',.vec c' l)=>Ac (Nat.beq st st') (Ac (Nat.ble (off+sz) c.n) (Ac (Ac agg true (Nat.beq sz 1)) (K (.s (ldS agg sz (Dm c x) off)) [id]) none) none) none
  |_=>none
 |some (.s (.cptr l off))=>Ac (Nat.ble (off+sz) l.length) (Ac (Ac agg true (Nat.beq sz 1)) (K (.s (ldS agg sz l off)) []) none) none
 |_=>none
def Rg(H:List Fe)(T:Av)(G:Gd)(k:IntKind)(x:Ae)(K:PV->List Nat->Option α):Option α:=match argP T G x with
 |some (.s (.int _ n))=>ckS G k n K
 |_=>none
def Rh(H:List Fe)(T:Av)(G:Gd)(f:FuncId)(nb:Nat)(caps:List Ae)(K:PV->List Nat->Option α):Option α:=match FO T G caps with
 |some l=>K (.s (.fn f nb l)) []
 |none=>none
def Ri(H:List Fe)(T:Av)(G:Gd)(isStr:Bool)(st:Nat)(x:Ae)(lo hi:Option Ae)(K:PV->List Nat->Option α):Option α:=match bndS T G 0 lo with
 |none=>none
 |some l=>match isStr,argP T G x with
  |false,some (.s (.slc c m))=>match bndS T G (List.length m:Int) hi with
   |some r=>Ac (Nat.beq c.n st) (ckg G (C3 m l r) (K (.s (.slc c (sub m l r))) [])) none
   |none=>none
  |false,some (.vec id vst)=>match Aw T.h id with
   |some (st',.vec c m)=>match bndS T G (List.length m:Int) hi with
    |some r=>Ac (Nat.beq vst st') (Ac (Nat.beq c.n st) (ckg G (C3 m l r) (K (.vs id vst l r) [id])) none) none
    |none=>none
   |_=>none
  |true,some (.s (.str s))=>match bndS T G (List.length s:Int) hi with
   |some r=>ckg G (C3 s l r) (K (.s (.str (sub s l r))) [])
   |none=>none
  |_,_=>none
def Rj(H:List Fe)(T:Av)(G:Gd)(off:Nat)(x:Ae)(K:PV->List Nat->Option α):Option α:=match argP T G x with
 |some (.ptr id st o)=>match Aw T.h id with
  |some (st',_)=>Ac (Nat.beq st st') (K (.ptr id st (o+off)) [id]) none
  |none=>none
 |some (.eptr id st j o c x)=>match Aw T.h id with
  |some (st',_)=>Ac (Nat.beq st st') (K (.eptr id st j (o+off) c x) [id]) none
  |none=>none
 |some (.s (.cptr l o))=>K (.s (.cptr l (o+off))) []
 |_=>none
def Rk(H:List Fe)(T:Av)(G:Gd)(st:Nat)(x i:Ae)(K:PV->List Nat->Option α):Option α:=match argP T G x,argP T G i with
 |some (.s (.slc c l)),some (.s (.int _ j))=>Ac (Nat.beq c.n st) (@bdg α c.T c.inh G (at? l j) fun v=>K (.s (.cptr (Dm c v) 0)) []) none
 |some (.vec id vst),some (.s (.int _ j))=>match Aw T.h id with
  |some (st',.vec c l)=>Ac (Nat.beq vst st') (Ac (Nat.beq c.n st) (@bdg α c.T c.inh G (at? l j) fun v=>K (.eptr id vst j 0 c v) [id]) none) none
  |_=>none
 |_,_=>none
def Rl(H:List Fe)(T:Av)(G:Gd)(i:Nat)(x:Ae)(K:PV->List Nat->Option α):Option α:=match argP T G x with
 |some (.s (.tup l))=>Ac (Nat.blt i l.length) (K (.s (l.getD i .top)) []) none
 |_=>none
def Rm(H:List Fe)(T:Av)(G:Gd)(x i:Ae)(K:PV->List Nat->Option α):Option α:=match argP T G x,argP T G i with
 |some (.s (.str s)),some (.s (.int _ j))=>ckg G (BR s j) (K (.s (.int .u8 (Cu s j))) [])
 |_,_=>none
def keq:(c:CT)->c.T->c.T->Bool
 |.int _=>fun(a b:Int)=>decide (a=b)
 |.bool=>fun(a b:Bool)=>a==b
 |.str=>fun(a b:List UInt8)=>decide (a=b)
 |.us i=>Tab.ke i
 |_=>fun _ _=>false
def kkd:CT->Option Nat
 |.bool=>some 0
 |.int _=>some 1
 |.str=>some 2
 |.us i=>match Tab.kk i with
  |some l=>Ac (lt3 l) (some (4+encK l)) none
  |none=>none
 |_=>none
def isK(c:CT)(n:Nat):Bool:=match kkd c with
 |some m=>Nat.beq m n
 |none=>false
def Rn(H:List Fe)(T:Av)(G:Gd)(kd:Nat)(cok:Bool)(zero:Aa)(x k:Ae)(K:PV->List Nat->Option α):Option α:=match argP T G x,argP T G k,ofA zero with
 |some (.mp id mst),some (.s key),some z=>match Aw T.h id with
  |some (st',.map ck cv l)=>match ofW ck key,ofW cv z with
   |some a,some d=>Ac (Nat.beq mst st') (Ac (isK ck kd) (Ac cok (K (.s (.tup [wT cv (Option.getD (mget (keq ck) l a) d),.bool (Option.isSome (mget (keq ck) l a))])) [id]) (K (.s (wT cv (Option.getD (mget (keq ck) l a) d))) [id])) none) none
   |_,_=>none
  |_=>none
 |_,_,_=>none
def Ro(H:List Fe)(T:Av)(G:Gd)(isStr:Bool)(x:Ae)(K:PV->List Nat->Option α):Option α:=match isStr,argP T G x with
 |false,some (.s (.slc _ l))=>K (.s (.int .i64 (List.length l:Int))) []
 |false,some (.s .nil)=>K (.s (.int .i64 0)) []
 |false,some (.vec id vst)=>match Aw T.h id with
  |some (st',.vec _ l)=>Ac (Nat.beq vst st') (K (.s (.int .i64 (List.length l:Int))) [id]) none
  |_=>none
 |true,some (.s (.str s))=>K (.s (.int .i64 (List.length s:Int))) []
 |_,_=>none
def Rp(H:List Fe)(T:Av)(G:Gd)(sh:List Nat)(ng:Bool)(x y:Ae)(K:PV->List Nat->Option α):Option α:=match argP T G x,argP T G y with
 |some (.s (.agg l)),some (.s (.agg m))=>match eqS l m with
  |some e=>Ac (Nd l sh) (K (.s (.bool (Ac ng (!e) e))) []) none
  |none=>none
 |_,_=>none
def Rq(H:List Fe)(T:Av)(G:Gd)(x y:Ae)(K:PV->List Nat->Option α):Option α:=match argP T G x,argP T G y with
 |some (.s (.int k a)),some (.s (.int k' b))=>Ac (decide (k=k')) (K (.s (.int k (Max.max a b))) []) none
 |_,_=>none
def Rr(H:List Fe)(T:Av)(G:Gd)(x y:Ae)(K:PV->List Nat->Option α):Option α:=match argP T G x,argP T G y with
 |some (.s (.int k a)),some (.s (.int k' b))=>Ac (decide (k=k')) (K (.s (.int k (Min.min a b))) []) none
 |_,_=>none
def Rs(H:List Fe)(T:Av)(G:Gd)(zero:List Aa)(ps:List (Nat×Nat×Ae))(K:PV->List Nat->Option α):Option α:=match ofAL zero with
 |some z=>match IU T G z ps with
  |some l=>K (.s (.agg l)) []
  |none=>none
 |none=>none
def Rt(H:List Fe)(T:Av)(G:Gd)(x:Ae)(K:PV->List Nat->Option α):Option α:=match argP T G x with
 |some (.s (.slc (.int .u8) l))=>K (.s (.str (BS l))) []
 |some (.vec id vst)=>match Aw T.h id with
  |some (st',.vec (.int .u8) l)=>Ac (Nat.beq vst st') (K (.s (.str (BS l))) [id]) none
  |_=>none
 |_=>none
def Nf[TabOk](H:List Fe)(T:Av)(G:Gd)(f:FuncId)(ags:List Ae)(K:PV->List Nat->Option α):Option α:=match Hf f H with
 |some C=>match FO T G ags with
  |some vs=>match FN H C.a C.p vs with
   |some r=>bdg G (C.F r) fun x=>K (.s (retT C.r x)) []
   |none=>none
  |none=>none
 |none=>none
@[reducible] def inhR(i:Nat):Inhabited (TabT.FR i):=⟨cast (Tab.eR i) (rowInh (Tab.fr i)).default⟩
def Ng[TabOk](H:List Fe)(T:Av)(G:Gd)(x:Ae)(ags:List Ae)(K:PV->List Nat->Option α):Option α:=match argP T G x,FO T G ags with
 |some (.s (.fn f nb caps)),some vs=>match Hf f H with
  |some C=>match FN H C.a C.p (fnArgs nb vs caps) with
   |some r=>bdg G (C.F r) fun x=>K (.s (retT C.r x)) []
   |none=>none
  |none=>none
 |some (.s (.fnp i z)),some vs=>match MP (Tab.fa i) vs with
  |some r=>@bdg α (TabT.FR i) (inhR i) G (z.g (cast (Tab.eA i) r)) fun y=>K (.s (retT (Tab.fr i) (cast (Tab.eR i).symm y))) []
  |none=>none
 |_,_=>none
def KE(c:CT)(st:Nat):Nat->List SV->Option (List c.T)
 |0,_=>some []
 |n+1,l=>match Hb c (l.take st),KE c st n (l.drop st) with
  |some x,some r=>some (x :: r)
  |_,_=>none
def Bf(s:Nat):List (Nat×CT)->CT
 |[]=>.bool
 |p :: l=>Ac (Nat.beq p.1 s) p.2 (Bf s l)
def Ru(ty:List (Nat×CT))(T:Av)(G:Gd)(s st nn:Nat)(zero:List Aa)(ps:List (Nat×Nat×Ae))(K:PV->List Nat->Option α):Option α:=match ofAL zero with
 |some z=>match IU T G z ps with
  | some l=>Ac (Nat.beq l.length (nn*st)) (Ac (Nat.beq (Bf s ty).n st) (Ac (Nat.blt 0 st) (Ac (inR T.b s) (match KE (Bf s ty) st nn l with
   |some m=>K (.s (.slc (Bf s ty) m)) [s]
   | none=>none) none) none) none) none
  |none=>none
 |none=>none
def opV[TabOk](H:List Fe)(ty:List (Nat×CT))(T:Av)(G:Gd)(o:An)(K:PV->List Nat->Option α):Option α:=match o with
 |.mv x=>v_mv H T G x K
 |.pick c x y=>KD H T G c x y K
 |.bin op bools x y=>Rc H T G op bools x y K
 |.not x=>Rd H T G x K
 |.neg x=>Re H T G x K
 |.load agg sz x=>Rf H T G agg sz x K
 |.conv k x=>Rg H T G k x K
 |.mkfn f nb caps=>Rh H T G f nb caps K
 |.slice isStr st x lo hi=>Ri H T G isStr st x lo hi K
 |.faddr off x=>Rj H T G off x K
 |.iaddrS st x i=>Rk H T G st x i K
 |.extract i x=>Rl H T G i x K
 |.sidx x i=>Rm H T G x i K
 |.len isStr x=>Ro H T G isStr x K
 |.mlook kd cok zero x k=>Rn H T G kd cok zero x k K
 |.eqagg sh ng x y=>Rp H T G sh ng x y K
 |.max x y=>Rq H T G x y K
 |.min x y=>Rr H T G x y K
 |.build zero ps=>Rs H T G zero ps K
 |.b2s x=>Rt H T G x K
 |.fslice s st nn zero ps=>Ru ty T G s st nn zero ps K
 |.callf f ags=>Nf H T G f ags K
 |.callv x ags=>Ng H T G x ags K
 |_=>none
def srcS(T:Av)(c:CT):PV->Option (List c.T×List Nat)
 |.s (.slc c' l)=>match BA c' c l with
  |some l=>some (l,[])
  |none=>none
 |.vec id vst=>match Aw T.h id with
  | some (st',.vec c' l)=>Ac (Nat.beq vst st') (match BA c' c l with
   |some l=>some (l,[id])
   | none=>none) none
  |_=>none
 |_=>none
def ZR(ty:List (Nat×CT))(T:Av)(s:Nat)(zero:List Aa)(K:PV->Nat->TO->Bool->List Nat->Option α):Option α:=K (.ptr s T.nx 0) s (.box (ofAT zero)) false [s]
def Rw(ty:List (Nat×CT))(T:Av)(s:Nat)(x:Ae)(K:PV->Nat->TO->Bool->List Nat->Option α):Option α:=match argP T none x with
 |some (.s v)=>match v.cells with
  |some l=>K (.ptr s T.nx 0) s (.box l) false [s]
  |none=>none
 |_=>none
def Ry(ty:List (Nat×CT))(T:Av)(s st nn:Nat)(zero:List Aa)(ps:List (Nat×Nat×Ae))(K:PV->Nat->TO->Bool->List Nat->Option α):Option α:=match ofAL zero with
 |some z=>match IU T none z ps with
  | some l=>Ac (Nat.beq l.length (nn*st)) (Ac (Nat.beq (Bf s ty).n st) (Ac (Nat.blt 0 st) (match KE (Bf s ty) st nn l with
   |some m=>K (.vec s T.nx) s (.vec (Bf s ty) m) false [s]
   | none=>none) none) none) none
  |none=>none
 |none=>none
def Rz(ty:List (Nat×CT))(T:Av)(s st bytes:Nat)(zero:List Aa)(x:Ae)(K:PV->Nat->TO->Bool->List Nat->Option α):Option α:=match ofAL zero,argP T none x with
 | some z,some (.s (.int _ n))=>Ac (Nat.beq (Bf s ty).n st) (Ac (Nat.blt 0 st) (match Hb (Bf s ty) z with
  |some e=>ck (mkOk n bytes) (K (.vec s T.nx) s (.vec (Bf s ty) (List.replicate (Int.toNat n) e)) false [s])
  | none=>none) none) none
 |_,_=>none
def R0(ty:List (Nat×CT))(T:Av)(s:Nat)(x:Ae)(K:PV->Nat->TO->Bool->List Nat->Option α):Option α:=match argP T none x with
 |some (.s (.str b))=>K (.s (.slc (.int .u8) (bytes b))) s .gone false [s]
 |_=>none
def R3(ty:List (Nat×CT))(T:Av)(sz:Nat)(x y:Ae)(K:PV->Nat->TO->Bool->List Nat->Option α):Option α:=match argP T none x,argP T none y with
 |some (.ptr id st off),some (.s v)=>match Aw T.h id,v.cells with
  |some (st',.box cs),some p=>Ac (Nat.beq st st') (Ac (Nat.beq p.length sz) (Ac (Nat.ble (off+sz) cs.length) (Ac (oneS p) (K (.s .top) id (.box (layS cs off p)) true [id]) none) none) none) none
  |_,_=>none
 |some (.eptr id st j off c x),some (.s v)=>match Aw T.h id,v.cells with
  | some (st',.vec c' l),some p=>Ac (Nat.beq st st') (Ac (Nat.beq p.length sz) (Ac (Nat.ble (off+sz) c.n) (match Hb c' (layS (Dm c x) off p) with
   |some e=>K (.s .top) id (.vec c' (List.set l (Int.toNat j) e)) true [id]
   | none=>none) none) none) none
  |_,_=>none
 |_,_=>none
def R4(ty:List (Nat×CT))(T:Av)(s st bytes:Nat)(x y:Ae)(K:PV->Nat->TO->Bool->List Nat->Option α):Option α:=match argP T none x,argP T none y with
 |some (.s .nil),some q=>match srcS T (Bf s ty) q with
  |some (a :: l,rd)=>Ac (Nat.beq (Bf s ty).n st) (Ac (Nat.blt 0 st) (Ac (Rb 64 l) (Ac (Nat.ble bytes 1000000) (K (.own s T.nx) s (.own (Bf s ty) (a :: l)) false (s :: rd)) none) none) none) none
  |_=>none
 |some (.own id vst),some q=>match Aw T.h id with
  |some (st',.own c m)=>match srcS T c q with
   | some (l,rd)=>Ac (Nat.beq vst st') (Ac (Nat.beq id s) (Ac (Nat.beq c.n st) (Ac (Nat.blt 0 st) (Ac (memN id rd) none
     (ck (decide (List.length (m++l)*bytes<=140737488355328)) (K (.own id T.nx) id (.own c (m++l)) false (id :: rd)))) none) none) none) none
   |none=>none
  |_=>none
 |some (.vec id vst),some q=>match Aw T.h id with
  |some (st',.vec c m)=>match srcS T c q with
   | some (l,rd)=>Ac (Nat.beq vst st') (Ac (Nat.beq c.n st) (Ac (Nat.blt 0 st)
     (ck (decide (List.length (m++l)*bytes<=140737488355328)) (K (.vec id T.nx) id (.vec c (m++l)) false (id :: rd))) none) none) none
   |none=>none
  |_=>none
 |_,_=>none
def R5(ty:List (Nat×CT))(T:Av)(st0:Nat)(x y:Ae)(K:PV->Nat->TO->Bool->List Nat->Option α):Option α:=match argP T none x,argP T none y with
 |some (.vs id vst lo hi),some q=>match Aw T.h id with
  |some (st',.vec c m)=>match srcS T c q with
   | some (l,rd)=>Ac (Nat.beq vst st') (Ac (Nat.beq c.n st0) (Ac (memN id rd) none
     (ck (C3 m lo hi) (K (.s (.int .i64 (min (List.length l) (Int.toNat (hi-lo)):Int))) id (.vec c (Bx m (Int.toNat lo) (List.take (Int.toNat (hi-lo)) l))) true (id :: rd)))) none) none
   |none=>none
  |_=>none
 |_,_=>none
def R6(ty:List (Nat×CT))(T:Av)(zero:List Aa)(x:Ae)(K:PV->Nat->TO->Bool->List Nat->Option α):Option α:=match ofAL zero,argP T none x with
 |some z,some (.vs id vst lo hi)=>match Aw T.h id with
  |some (st',.vec c m)=>match Hb c z with
   |some e=>Ac (Nat.beq vst st') (ck (C3 m lo hi) (K (.s (.tup [])) id (.vec c (Bx m (Int.toNat lo) (List.replicate (Int.toNat (hi-lo)) e))) true [id])) none
   |none=>none
  |_=>none
 |_,_=>none
def ZS(ty:List (Nat×CT))(T:Av)(s:Nat)(K:PV->Nat->TO->Bool->List Nat->Option α):Option α:=K (.mp s T.nx) s (.map (Bf s ty) (Bf (s+10000) ty) []) false [s]
def R7(ty:List (Nat×CT))(T:Av)(kd:Nat)(x k v:Ae)(K:PV->Nat->TO->Bool->List Nat->Option α):Option α:=match argP T none x,argP T none k,argP T none v with
 |some (.mp id mst),some (.s key),some (.s val)=>match Aw T.h id with
  |some (st',.map ck cv l)=>match ofW ck key,ofW cv val with
   |some a,some b=>Ac (Nat.beq mst st') (Ac (isK ck kd) (Ac (exV val) (K (.s .top) id (.map ck cv (mput (keq ck) l a b)) true [id]) none) none) none
   |_,_=>none
  |_=>none
 |_,_,_=>none
def opO(ty:List (Nat×CT))(T:Av)(o:An)(K:PV->Nat->TO->Bool->List Nat->Option α):Option α:=match o with
 |.alloc s zero=>ZR ty T s zero K
 |.box s x=>Rw ty T s x K
 |.bslice s st nn zero ps=>Ry ty T s st nn zero ps K
 |.mks s st bytes zero x=>Rz ty T s st bytes zero x K
 |.s2b s x=>R0 ty T s x K
 |.store sz x y=>R3 ty T sz x y K
 |.append s st bytes x y=>R4 ty T s st bytes x y K
 |.copy st0 x y=>R5 ty T st0 x y K
 |.clear zero x=>R6 ty T zero x K
 |.mkmap s=>ZS ty T s K
 |.mupd kd x k v=>R7 ty T kd x k v K
 |_=>none
end
def Hh:An->Bool
 |.alloc _ _ | .box _ _ | .bslice _ _ _ _ _ | .mks _ _ _ _ _ | .s2b _ _ | .store _ _ _ | .append _ _ _ _ _ | .copy _ _ _ | .clear _ _ | .mkmap _ | .mupd _ _ _ _=>true
 |_=>false
def EZ(id st nx:Nat):PV->PV
 |.ptr i s off=>Ac (Nat.beq i id) (Ac (Nat.beq s st) (.ptr i nx off) (.ptr i s off)) (.ptr i s off)
 |.vec i s=>Ac (Nat.beq i id) (Ac (Nat.beq s st) (.vec i nx) (.vec i s)) (.vec i s)
 |.vs i s lo hi=>Ac (Nat.beq i id) (Ac (Nat.beq s st) (.vs i nx lo hi) (.vs i s lo hi)) (.vs i s lo hi)
 |.own i s=>Ac (Nat.beq i id) (Ac (Nat.beq s st) (.own i nx) (.own i s)) (.own i s)
 |.mp i s=>Ac (Nat.beq i id) (Ac (Nat.beq s st) (.mp i nx) (.mp i s)) (.mp i s)
 |x=>x
def R8(id st nx:Nat):TO->TO
 |o=>o
def Hj(id st nx:Nat):List (Nat×Nat×TO)->List (Nat×Nat×TO)
 |[]=>[]
 |(i,s,o) :: l=>(i,s,R8 id st nx o) :: Hj id st nx l
def Hk(id st nx:Nat):List (Nat×TV)->List (Nat×TV)
 |[]=>[]
 |(i,.v x) :: l=>(i,.v (EZ id st nx x)) :: Hk id st nx l
 |p :: l=>p :: Hk id st nx l
def putS(T:Av)(d:Option Tmp)(v:TV):Av:=match d with
 |some d=>⟨(d,v) :: T.t,T.h,T.nx,T.n,T.gs,d :: T.w,T.wo,T.b,T.rf⟩
 |none=>T
def putO(T:Av)(id:Nat)(o:TO)(re:Bool):Av :=
 ⟨Ac re (match Aw T.h id with
  |some (st,_)=>Hk id st T.nx T.t
  |none=>T.t) T.t,(id,T.nx,o) :: Ac re (match Aw T.h id with
  |some (st,_)=>Hj id st T.nx T.h
  | none=>T.h) T.h,T.nx+1,T.n,T.gs,T.w,id :: T.wo,T.b,T.rf⟩
def addG(T:Av)(tg:Nat):Av:=⟨T.t,T.h,T.nx,T.n,tg :: T.gs,T.w,T.wo,T.b,T.rf⟩
def allA(T:Av)(G:Gd):List Ae->Bool
 |[]=>true
 |a :: l=>match argP T G a with
  |some _=>allA T G l
  |none=>false
def gdT(want:Bool):TV->Option Bool
 |.v (.s (.bool b))=>some (Ac want b (!b))
 |.cnd _ _ g (.s (.bool b))=>some (g&&Ac want b (!b))
 |_=>none
def allO(T:Av)(G:Gd):An->Bool
 |.pick c _ _=>allA T G [c]
 |o=>allA T G o.args
def Er(T:Av):Option Tmp->Bool
 |some d=>Ac (Nat.blt d T.n) (!memN d T.gs) false
 |none=>true
def Fa[TabOk]{α:Type}(H:List Fe)(ty:List (Nat×CT))(T:Av)(o:Ak)(K:Av->List Nat->Option Nat->Option α):Option α:=match o.guard with
 |none=>Ac (Er T o.dst) (Ac (Hh o.op) (Ac (QZ T.b o.op) (opO ty T o.op fun v id ob re rd=>K (putS (putO T id ob re) o.dst (.v v)) rd (some id)) none) (opV H ty T none o.op fun v rd=>K (putS T o.dst (.v v)) rd none)) none
 |some (tg,want)=>match gdT want (Ay T.t tg) with
  | some g=>Ac (Er (addG T tg) o.dst) (Ac (Hh o.op) none (Ac (allO T (some (tg,want,g)) o.op)
    (opV H ty T (some (tg,want,g)) o.op fun v rd=>K (putS (addG T tg) o.dst (.cnd tg want g v)) rd none) none)) none
  |none=>none
def Do:List (Nat×TV)->List (Nat×TV)
 |[]=>[]
 |(i,.cnd _ _ _ _) :: l=>(i,.v (.s .top)) :: Do l
 |p :: l=>p :: Do l
def endT(T:Av):Av:=match T.gs with
 |[]=>T
 |_=>⟨Do T.t,T.h,T.nx,T.n,[],T.w,T.wo,T.b,T.rf⟩
def frzP(id st:Nat)(o:TO):PV->PV
 | .ptr i s off=>Ac (Nat.beq i id) (Ac (Nat.beq s st) (match o with
  |.box cs=>.s (.cptr cs off)
  | _=>.ptr i s off) (.ptr i s off)) (.ptr i s off)
 | .vec i s=>Ac (Nat.beq i id) (Ac (Nat.beq s st) (match o with
  |.vec c l=>.s (.slc c l)
  | _=>.vec i s) (.vec i s)) (.vec i s)
 | .own i s=>Ac (Nat.beq i id) (Ac (Nat.beq s st) (match o with
  |.own c l=>.s (.slc c l)
  | _=>.own i s) (.own i s)) (.own i s)
 |x=>x
def KF(id st:Nat):PV->Bool
 |.ptr i s _=>Ac (Nat.beq i id) (Nat.beq s st) false
 |.vec i s=>Ac (Nat.beq i id) (Nat.beq s st) false
 |.own i s=>Ac (Nat.beq i id) (Nat.beq s st) false
 |_=>false
def frzT(id st:Nat)(o:TO):List (Nat×TV)->List (Nat×TV)
 |[]=>[]
 |(i,.v x) :: l=>(i,.v (frzP id st o x)) :: frzT id st o l
 |p :: l=>p :: frzT id st o l
def frzW(id st:Nat):List (Nat×TV)->List Nat->List Nat
 |[],w=>w
 |(i,.v x) :: l,w=>Ac (KF id st x) (i :: frzW id st l w) (frzW id st l w)
 |_ :: l,w=>frzW id st l w
def frzO(id st:Nat)(o:TO):TO->TO
 |x=>x
def frzH(id st:Nat)(o:TO):List (Nat×Nat×TO)->List (Nat×Nat×TO)
 |[]=>[]
 |(i,s,x) :: l=>(i,s,frzO id st o x) :: frzH id st o l
def KG(id st:Nat):TO->Bool
 |_=>false
def Es(id st:Nat):List (Nat×Nat×TO)->List Nat->List Nat
 |[],w=>w
 |(i,_,x) :: l,w=>Ac (KG id st x) (i :: Es id st l w) (Es id st l w)
def frz1(T:Av)(id:Nat):Av:=match Aw T.h id with
 |some (st,.gone)=>T
 |some (st,.map _ _ _)=>T
 |some (st,o)=>⟨frzT id st o T.t,(id,T.nx,.gone) :: frzH id st o T.h,T.nx+1,T.n,T.gs,frzW id st T.t T.w,id :: Es id st T.h T.wo,T.b,T.rf⟩
 |none=>T
def frzA(T:Av):List Nat->Av
 |[]=>T
 |id :: l=>frzA (frz1 T id) l
def refB(T:Av)(id:Nat):List Nat:=match Aw T.h id with
 |_=>[id]
def refA(T:Av)(bx vc:Bool):Ae->List Nat
 |.t n=>match Ay T.t n with
  |.v (.own id _)=>[id]
  |.v (.vec id _)=>Ac vc [id] []
  |.v (.ptr id _ _)=>Ac bx (refB T id) []
  |_=>[]
 |_=>[]
def Fb(T:Av)(bx vc:Bool):List Ae->List Nat
 |[]=>[]
 |x :: l=>refA T bx vc x++Fb T bx vc l
def appF(T:Av)(s:Nat)(x:Ae)(l:List Nat):List Nat:=match argP T none x with
 |some (.s .nil)=>match Aw T.h s with
  |some (_,.own _ _)=>s :: l
  |_=>l
 |_=>l
def wzw2(T:Av):An->List Nat
 |.append s _ _ x y=>appF T s x (refA T false false y)
 |.b2s x | .slice _ _ x _ _ | .copy _ _ x=>refA T false false x
 |.callf _ l=>Fb T false true l
 |.callv x l=>Fb T false true l
 |.mkfn _ _ l=>Fb T true true l
 |.build _ ps=>Fb T false true (ps.map fun p=>p.2.2)
 |.bslice _ _ _ _ ps=>Fb T false true (ps.map fun p=>p.2.2)
 |.mupd _ _ _ y=>refA T false true y
 |.store _ x y=>refA T false true y
 |_=>[]
def mvF:List (Nat×Ae)->Ae->Ae
 |(d,y) :: l,.t n=>Ac (Nat.beq d n) y (mvF l (.t n))
 |_,x=>x
def drwF(T:Av):List (Nat×Ae)->List Ak->List Nat
 |_,[]=>[]
 |m,o :: l=>match o.guard,o.op with
  |none,.append s _ _ x _=>appF T s (mvF m x) (drwF T m l)
  |none,.mv y=>match o.dst with
   |some d=>drwF T ((d,mvF m y) :: m) l
   |none=>drwF T m l
  |_,_=>drwF T m l
def isW(H:List Fe)(o:Ak):Bool:=match o.guard,o.op with
 |none,.callf f (_ :: _)=>match IS f H with
  |some _=>true
  |none=>match Hg f H with
   |some _=>true
   |none=>false
 |_,_=>false
def Nh(H:List Fe)(T:Av)(o:Ak):List Nat:=Ac (isW H o) (match o.op with
 |.callf f (x :: l)=>Fb T false true l
 | _=>[]) (wzw2 T o.op)
def srcT(T:Av)(c:CT)(s:Nat)(x:Ae):Option (List c.T):=match argP T none x with
 |some (.s v)=>ofSl c v
 |some (.own id st)=>match Aw T.h id with
  |some (st',.own c' m)=>Ac (Nat.beq st st') (Ac (Nat.beq id s) none (BA c' c m)) none
  |_=>none
 |some (.vec id st)=>match Aw T.h id with
  |some (st',.vec c' m)=>Ac (Nat.beq st st') (Ac (Nat.beq id s) none (BA c' c m)) none
  |_=>none
 |some (.vs id st lo hi)=>match Aw T.h id with
  | some (st',.vec c' m)=>Ac (Nat.beq st st') (Ac (Nat.beq id s) none (match BA c' c m with
   |some m=>some (sub m lo hi)
   | none=>none)) none
  |_=>none
 |_=>none
def clS(b d:Nat):Nat:=b+600+d
def clnT[TabOk]{α:Type}(H:List Fe)(T:Av)(d:Option Tmp)(f:FuncId)(x:Ae)(l:List Ae)(K:Av->Option α):Option α:=match Hg f H,d with
 |some C,some d=>match srcT T C.c (clS T.b d) x,FO T none l with
  |some m,some vs=>match FN H C.a C.p vs with
   |some r=>Ac (Er T (some d)) (Ac (inR T.b (clS T.b d)) (bd (C.F m r) fun m'=>K (putS (putO T (clS T.b d) (.vec C.c m') false) (some d) (.v (.vec (clS T.b d) T.nx)))) none) none
   |none=>none
  |_,_=>none
 |_,_=>none
def inwT[TabOk]{α:Type}(H:List Fe)(T:Av)(d:Option Tmp)(f:FuncId)(x:Ae)(l:List Ae)(K:Av->Option α):Option α:=match IS f H,argP T none x,FO T none l with
  |some C,some (.own id st),some vs=>match Aw T.h id,FN H C.a C.p vs with
   |some (st',.own c m),some r=>match BA c C.c m with
    |some m=>Ac (Er T d) (Ac (Nat.beq st st') (bd (C.F m r) fun m'=>K (putS (putO T id (.own C.c m') true) d (.v (.s (.tup []))))) none) none
    |none=>none
   |_,_=>none
  |_,_,_=>none
def inpT[TabOk]{α:Type}(H:List Fe)(T:Av)(o:Ak)(K:Av->Option α):Option α:=match o.op with
 |.callf f (x :: l)=>match Hg f H with
  |some _=>clnT H T o.dst f x l K
  |none=>inwT H T o.dst f x l K
 |_=>none
def regT[TabOk]{α:Type}(H:List Fe)(ty:List (Nat×CT)):List Ak->Av->(Av->Option α)->Option α
 |[],T,K=>K (endT T)
 |o :: r,T,K=>(fun T=>Ac (isW H o) (inpT H T o fun T'=>regT H ty r T' K) (Fa H ty T o fun T' _ _=>regT H ty r T' K)) (frzA T (Nh H T o))
def KH[TabOk]{α:Type}(H:List Fe)(ty:List (Nat×CT)):List Ak->Av->(Av->List (List Nat×Option Nat)->Option α)->Option α
 |[],T,K=>K T []
 |o :: r,T,K=>Fa H ty T o fun T' rd out=>KH H ty r T' fun T'' tr=>K T'' ((rd,out) :: tr)
inductive SH where
 |k | v (c:CT) | c (a:Aa) | own (id:Nat) | vec (id:Nat) | ptr (id off:Nat) | mp (id:Nat)
inductive OH where
 |k | gone | box (c:CT) | own (c:CT) | vec (c:CT) | map (k v:CT)
inductive OE where
 |n | x (id:Nat) | r
structure OutH where
 e:OE
 sl:List (Nat×SH)
 ob:List (Nat×OH)
def ctsS:List (Nat×SH)->List CT->List CT
 |[],r=>r
 |(_,.v c) :: l,r=>c :: ctsS l r
 |_ :: l,r=>ctsS l r
def ctsO:List (Nat×OH)->List CT
 |[]=>[]
 |(_,.box c) :: l=>c :: ctsO l
 |(_,.own c) :: l=>.slc c :: ctsO l
 |(_,.vec c) :: l=>.slc c :: ctsO l
 |(_,.map k v) :: l=>.mp k v :: ctsO l
 |_ :: l=>ctsO l
def OutH.cts(H:OutH):List CT:=ctsS H.sl (ctsO H.ob)
def curO(T:Av)(id st:Nat):Bool:=match Aw T.h id with
 |some (st',_)=>Nat.beq st st'
 |none=>false
def curW(T:Av)(id st:Nat):Bool:=match Aw T.h id with
 |some (st',.own _ _)=>Nat.beq st st'
 |_=>false
def eqA1:SV->Aa->Bool
 |.int k n,.int k' m=>if k=k' then decide (n=m) else false
 |.bool a,.bool b=>eqB a b
 |.str a,.str b=>decide (a=b)
 |.nil,.nils=>true
 |.nilp,.nilp=>true
 |_,_=>false
def kpP(T0 T:Av):TV->Bool
 |.v (.s _)=>true
 |.v (.ptr id st _)=>curO T id st
 |.v (.vec id st)=>curO T id st
 |.v (.vs id st _ _)=>curO T id st
 |.v (.own id st)=>curO T id st
 |.v (.mp id st)=>curO T id st
 |_=>false
def DH(i:Nat):List (Nat×OH)->Bool
 |[]=>false
 | (j,o) :: l=>Ac (Nat.beq j i) (match o with
  |.own _=>true
  | _=>false) (DH i l)
def IW(i:Nat):List (Nat×OH)->Bool
 |[]=>false
 | (j,o) :: l=>Ac (Nat.beq j i) (match o with
  |.vec _=>true
  | _=>false) (IW i l)
def chS(T0 T:Av)(ob:List (Nat×OH)):List (Nat×SH)->Bool
 |[]=>true
 |(i,.k) :: l=>Ac (memN i T.w) false (Ac (kpP T0 T (Ay T0.t i)) (chS T0 T ob l) false)
 |(i,.v c) :: l=>chS T0 T ob l
 |(i,.c a) :: l=>match Ay T.t i with
  |.v (.s v)=>Ac (eqA1 v a) (chS T0 T ob l) false
  |_=>false
 |(i,.own id) :: l=>match Ay T.t i with
  |.v (.own id' st)=>Ac (DH id ob) (Ac (Nat.beq id' id) (Ac (curW T id st) (chS T0 T ob l) false) false) false
  |.v (.s .nil)=>match Aw T.h id with
   |some (_,.gone)=>Ac (DH id ob) (chS T0 T ob l) false
   |none=>Ac (DH id ob) (chS T0 T ob l) false
   |_=>false
  |_=>false
 |(i,.vec id) :: l=>match Ay T.t i with
  |.v (.vec id' st)=>Ac (IW id ob) (Ac (Nat.beq id' id) (Ac (curO T id st) (chS T0 T ob l) false) false) false
  |_=>false
 |(i,.mp id) :: l=>match Ay T.t i with
  |.v (.mp id' st)=>Ac (Nat.beq id' id) (Ac (curO T id st) (chS T0 T ob l) false) false
  |_=>false
 |(i,.ptr id off) :: l=>match Ay T.t i with
  |.v (.ptr id' st off')=>Ac (Nat.beq id' id) (Ac (Nat.beq off' off) (Ac (curO T id st) (chS T0 T ob l) false) false) false
  |_=>false
def chO(T0 T:Av)(ob:List (Nat×OH)):List (Nat×OH)->Bool
 |[]=>true
 |(i,.k) :: l=>Ac (memN i T.wo) false (chO T0 T ob l)
 |_ :: l=>chO T0 T ob l
def hasK{Y:Type}(i:Nat):List (Nat×Y)->Bool
 |[]=>false
 |p :: l=>Ac (Nat.beq p.1 i) true (hasK i l)
def KI(l:List (Nat×OH)):List (Nat×Nat×TO)->Bool
 |[]=>true
 |p :: r=>Ac (hasK p.1 l) (KI l r) false
def svS(T:Av):List (Nat×SH)->Option (List SV)
 |[]=>some []
 |(i,.v _) :: l=>match Ay T.t i,svS T l with
  |.v (.s v),some r=>some (v :: r)
  |_,_=>none
 |_ :: l=>svS T l
def svO(T:Av):List (Nat×OH)->Option (List SV)
 |[]=>some []
 |(i,.box c) :: l=>match Aw T.h i,svO T l with
  |some (_,.box cs),some r=>match Hb c cs with
   |some x=>some (wT c x :: r)
   |none=>none
  |_,_=>none
 |(i,.own c) :: l=>match Aw T.h i,svO T l with
  |some (_,.own c' m),some r=>some (.slc c' m :: r)
  |some (_,.gone),some r=>some (.slc c [] :: r)
  |none,some r=>some (.slc c [] :: r)
  |_,_=>none
 |(i,.vec c) :: l=>match Aw T.h i,svO T l with
  |some (_,.vec c' m),some r=>some (.slc c' m :: r)
  |_,_=>none
 |(i,.map k v) :: l=>match Aw T.h i,svO T l with
  |some (_,.map k' v' m),some r=>some (.mpv k' v' m :: r)
  |_,_=>none
 |_ :: l=>svO T l
def rbS(T0:Av):List (Nat×SH)->List SV->List (Nat×TV)
 |[],_=>[]
 |(i,.k) :: l,v=>(i,Ay T0.t i) :: rbS T0 l v
 |(i,.v _) :: l,x :: v=>(i,.v (.s x)) :: rbS T0 l v
 |(i,.v _) :: l,[]=>rbS T0 l []
 | (i,.c a) :: l,v=>(match ofA1 a with
  |some x=>(i,.v (.s x))
  | none=>(i,.v (.s .top))) :: rbS T0 l v
 |(i,.own id) :: l,v=>(i,.v (.own id T0.nx)) :: rbS T0 l v
 |(i,.vec id) :: l,v=>(i,.v (.vec id T0.nx)) :: rbS T0 l v
 |(i,.ptr id off) :: l,v=>(i,.v (.ptr id T0.nx off)) :: rbS T0 l v
 |(i,.mp id) :: l,v=>(i,.v (.mp id T0.nx)) :: rbS T0 l v
def nV:List (Nat×SH)->Nat
 |[]=>0
 |(_,.v _) :: l=>nV l+1
 |_ :: l=>nV l
def rbO(T0:Av):List (Nat×OH)->List SV->List (Nat×Nat×TO)
 |[],_=>[]
 |(i,.k) :: l,v=>match Aw T0.h i with
  |some p=>(i,p) :: rbO T0 l v
  |none=>(i,T0.nx,.gone) :: rbO T0 l v
 |(i,.gone) :: l,v=>(i,T0.nx,.gone) :: rbO T0 l v
 | (i,.box c) :: l,x :: v=>(match x.cells with
  |some cs=>(i,T0.nx,.box cs)
  | none=>(i,T0.nx,.gone)) :: rbO T0 l v
 | (i,.own _) :: l,x :: v=>(match x with
  |.slc c m=>(i,T0.nx,.own c m)
  | _=>(i,T0.nx,.gone)) :: rbO T0 l v
 | (i,.vec _) :: l,x :: v=>(match x with
  |.slc c m=>(i,T0.nx,.vec c m)
  | _=>(i,T0.nx,.gone)) :: rbO T0 l v
 | (i,.map _ _) :: l,x :: v=>(match x with
  |.mpv k w m=>(i,T0.nx,.map k w m)
  | _=>(i,T0.nx,.gone)) :: rbO T0 l v
 |(i,_) :: l,[]=>(i,T0.nx,.gone) :: rbO T0 l []
def ltK(n:Nat):List (Nat×SH)->Bool
 |[]=>true
 |p :: l=>Ac (Nat.blt p.1 n) (ltK n l) false
def FP(sl:List (Nat×SH)):List (Nat×TV)->List Nat->List Nat
 |[],w=>w
 |p :: l,w=>Ac (hasK p.1 sl) (FP sl l w) (p.1 :: FP sl l w)
def setW:List (Nat×SH)->List Nat->List Nat
 |[],w=>w
 |(_,.k) :: l,w=>setW l w
 |(i,_) :: l,w=>i :: setW l w
def Fs:List (Nat×OH)->List Nat->List Nat
 |[],w=>w
 |(_,.k) :: l,w=>Fs l w
 |(i,_) :: l,w=>i :: Fs l w
def obR(b:Nat):List (Nat×OH)->Bool
 |[]=>true
 |p :: l=>Ac (inR b p.1) (obR b l) false
def arrT(T0 T:Av)(H:OutH):Option (Row H.cts):=match svS T H.sl,svO T H.ob with
 |some a,some b=>Ac (chS T0 T H.ob H.sl) (Ac (chO T0 T H.ob H.ob) (Ac (KI H.ob T.h) (Ac (KI H.ob T0.h) (Ac (ltK T0.n H.sl) (Ac (Nat.beq T.rf T0.rf) (Ac (obR T0.b H.ob) (MP H.cts (a++b)) none) none) none) none) none) none) none
 |_,_=>none
def rebT(T0:Av)(H:OutH)(r:Row H.cts):Av := ⟨rbS T0 H.sl (rowW H.cts r),rbO T0 H.ob ((rowW H.cts r).drop (nV H.sl)),T0.nx+1,T0.n,[],setW H.sl (FP H.sl T0.t T0.w),Fs H.ob T0.wo,T0.b,T0.rf⟩
def OutT:List OutH->Type
 |[]=>Unit
 |[H]=>Row H.cts
 |H :: l=>Row H.cts⊕OutT l
def isE:OE->Exit->Bool
 |.n,.normal=>true
 |.x i,.exit j=>Nat.beq i j
 |.r,.ret=>true
 |_,_=>false
def OE.ex:OE->Exit
 |.n=>.normal
 |.x i=>.exit i
 |.r=>.ret
def injT(T0:Av):(l:List OutH)->Exit->Av->Option (OutT l)
 |[],_,_=>none
 |[H],e,T=>Ac (isE H.e e) (arrT T0 T H) none
 | H :: H' :: l,e,T=>Ac (isE H.e e) (match arrT T0 T H with
  |some r=>some (.inl r)
  |none=>none) (match injT T0 (H' :: l) e T with
  |some r=>some (.inr r)
  | none=>none)
def aftT{α:Type}(T0:Av)(K:Exit->Av->Option α):(l:List OutH)->OutT l->Option α
 |[],_=>none
 |[H],r=>K H.e.ex (rebT T0 H r)
 |H :: H' :: l,r=>match r with
  |.inl r=>K H.e.ex (rebT T0 H r)
  |.inr r=>aftT T0 K (H' :: l) r
inductive HT where
 |n
 |s (a b:HT)
 |c (J:Option (List OutH)) (a b:HT)
 |b (J:Option (List OutH)) (h:HT)
 |l (fz:List Nat) (hd:OutH) (J:List OutH) (h:HT)
def cl0(T:Av):Av:=⟨T.t,T.h,T.nx,T.n,[],[],[],T.b,T.rf⟩
def R9{α:Type}(J:Option (List OutH))(T:Av)(inner:(Y:Type)->Av->(Exit->Av->Option Y)->Option Y)(K:Exit->Av->Option α):Option α:=match J with
 |none=>inner α T K
 |some l=>bd (inner (OutT l) (cl0 T) (injT T l)) (aftT T K l)
def refI(T:Av):List ARes->List Nat
 |[]=>[]
 |.t _ :: l=>refI T l
 | .c n _ _ :: l=>(match Ay T.t n with
  |.v (.ptr id _ _)=>match Aw T.h id with
   |_=>[]
  | _=>[])++refI T l
def frzR(rs:List ARes)(T:Av):Av:=frzA T (Fb T false true (rs.map fun r=>match r with
 |.t n=>.t n
 | .c n _ _=>.t n)++refI T rs)
def BV[TabOk](H:List Fe)(ty:List (Nat×CT))(rs:List ARes):AO->(α:Type)->HT->Av->(Exit->Av->Option α)->Option α
 |.skip,_,_,T,K=>K .normal T
 |.reg false ops _,_,h,T,K=>regT H ty ops T (K .normal)
 |.reg true ops pr,_,_,T,K=>(fun T=>KH H ty ops T fun T' tr=>Ac (Fz ops pr tr) (K .normal (endT T')) none) (frzA T (drwF T [] ops))
 |.seq a b,α,h,T,K=>BV H ty rs a α (match h with | .s x _=>x | _=>.n) T fun e T'=>match e with
  |.normal=>BV H ty rs b α (match h with | .s _ y=>y | _=>.n) T' K
  |e=>K e T'
 | .cond c a b,α,h,T,K=>R9 (match h with | .c J _ _=>J | _=>none) T (fun Y T K=>match argP T none c with
  |some (.s (.bool x))=>match c with
   |.c _=>Ac x (BV H ty rs a Y (match h with | .c _ p _=>p | _=>.n) T K) (BV H ty rs b Y (match h with | .c _ _ q=>q | _=>.n) T K)
   |_=>ite' x (BV H ty rs a Y (match h with | .c _ p _=>p | _=>.n) T K) (BV H ty rs b Y (match h with | .c _ _ q=>q | _=>.n) T K)
  | _=>none) K
 |.ret,_,_,T,K=>K .ret (frzR rs T)
 |.exit i,_,_,T,K=>K (.exit i) T
 |.scope c,α,h,T,K=>BV H ty rs c α h T fun e T'=>match e with
  |.goto _=>none
  |e=>K e T'
 |.label _,_,_,T,K=>K .normal T
 |.any,_,_,_,_=>none
 | .block i c,α,h,T,K=>R9 (match h with | .b J _=>J | _=>none) T (fun Y T K=>BV H ty rs c Y (match h with | .b _ p=>p | _=>.n) T fun e T'=>match e with
  |.exit j=>Ac (Nat.beq j i) (K .normal T') (K (.exit j) T')
  | e=>K e T') K
 | .loop c,α,.l fz hd J h,T0,K=>(fun T=>match arrT T (cl0 T) hd with
  | some r0=>bd (lp (fun r=>BV H ty rs c (Row hd.cts⊕OutT J) h (rebT (cl0 T) hd r) fun e T'=>match e with
   |.normal=>match arrT T T' hd with
    |some r=>some (.inl r)
    |none=>none
   |e=>match injT T J e T' with
    |some r=>some (.inr r)
    | none=>none) r0) (aftT T K J)
  | none=>none) (frzA T0 fz)
 |.loop _,_,_,_,_=>none
def resS(T:Av):List ARes->Option (List SV)
 |[]=>some []
 |.t n :: l=>match Ay T.t n,resS T l with
  |.v (.s v),some r=>some (v :: r)
  |_,_=>none
 |.c n agg sz :: l=>match Ay T.t n,resS T l with
  |.v (.ptr id st 0),some r=>match Aw T.h id with
   |some (st',.box cs)=>Ac (Nat.beq st st') (Ac (Nat.beq sz cs.length) (Ac (Ac agg true (Nat.beq sz 1)) (some (ldS agg sz cs 0 :: r)) none) none) none
   |_=>none
  |_,_=>none
def resT[TabOk](H:List Fe)(rs:List ARes)(cs:List CT)(e:Exit)(T:Av):Option (Row cs):=match e with
 |.ret=>match resS T rs with
  |some l=>FN H cs [] l
  |none=>none
 |_=>none
def zipS:Nat->List SV->List (Nat×TV)
 |_,[]=>[]
 |i,x :: l=>(i,.v (.s x)) :: zipS (i+1) l
def iniT(n:Nat)(a:List CT)(p:List Bool)(x:Row a):Av:=⟨zipS 0 (prmS a p x),[],0,n,[],[],[],0,0⟩
def funT[TabOk](H:List Fe)(ty:List (Nat×CT))(rs:List ARes)(n:Nat)(c:AO)(h:HT)(C:Fc)(x:Row C.a):Option (Row C.r):=BV H ty rs c _ h (iniT n C.a C.p x) (resT H rs C.r)
end
end Go.Am

