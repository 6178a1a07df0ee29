/- Part T1: a typed interpreter of abstract code, proved sound over the machine. No condition. -/
import Derived.Test.YtbidhbeoimpjbaaGreatDoorX1
import Derived.KernelRfl
set_option linter.unusedSimpArgs false
set_option linter.unusedVariables false
namespace Go.Am
inductive CT where
 |int (k:IntKind) | bool | str
 |slc (c:CT)
 |us (i:Nat)
 |fn (i:Nat)
 |ptr (c:CT)
 |mp (k v:CT)
 |sq (i:Nat)
 |yl (i:Nat)
class TabT where
 T:Nat->Type
 E:Nat->Aa
 P:Program
 FA:Nat->Type
 FR:Nat->Type
 aA:(i:Nat)->FA i->List Aa
 aR:(i:Nat)->FR i->Aa
section
variable [TabT]
structure FnV(i:Nat) where
 f:FuncId
 nb:Nat
 caps:List Aa
 nr:∀x,x∈caps->AF x
 g:TabT.FA i->Option (TabT.FR i)
 ok:∀a r,g a=some r->FnOk TabT.E TabT.P f nb caps (TabT.aA i a) (TabT.aR i r)
structure SqV(i:Nat) where
 f:FuncId
 caps:List Aa
 nr:∀x,x∈caps->AF x
 g:(List (TabT.FA i)->Option Bool)->Option (List (TabT.FA i))
 ok:∀st l,g st=some l->SqOk TabT.E TabT.P f caps (TabT.aA i) st l
def CT.T:CT->Type
 |.int _=>Int
 |.bool=>Bool
 |.str=>List UInt8
 |.slc c=>List c.T
 |.us i=>TabT.T i
 |.fn i=>FnV i
 |.ptr c=>Option c.T
 |.mp k v=>List (k.T×v.T)
 |.sq i=>SqV i
 |.yl i=>List (TabT.FA i)
def RowC(t:Type):List CT->Type
 |[]=>t
 |d :: l=>t×RowC d.T l
def Row:List CT->Type
 |[]=>Unit
 |c :: l=>RowC c.T l
inductive SV where
 |int (k:IntKind) (n:Int) | bool (b:Bool) | str (s:List UInt8)
 |nil
 |slc (c:CT) (l:List c.T)
 |agg (l:List SV) | tup (l:List SV)
 |cptr (l:List SV) (off:Nat)
 |fn (f:FuncId) (nb:Nat) (caps:List SV)
 |fnp (i:Nat) (x:FnV i)
 |nilp
 |optr (c:CT) (x:Option c.T)
 |mpv (k v:CT) (l:List (k.T×v.T))
 |sqp (i:Nat) (x:SqV i)
 |ylv (i:Nat) (l:List (TabT.FA i))
 |top
def CT.cast:(c c':CT)->Option (PLift (c=c'))
 |.int k,.int k'=>if h:k=k' then some ⟨by rw[h]⟩ else none
 |.bool,.bool=>some ⟨rfl⟩
 |.str,.str=>some ⟨rfl⟩
 |.slc c,.slc c'=>match CT.cast c c' with
  |some ⟨h⟩=>some ⟨by rw[h]⟩
  |none=>none
 |.us i,.us j=>if h:i=j then some ⟨by rw[h]⟩ else none
 |.fn i,.fn j=>if h:i=j then some ⟨by rw[h]⟩ else none
 |.ptr c,.ptr c'=>match CT.cast c c' with
  |some ⟨h⟩=>some ⟨by rw[h]⟩
  |none=>none
 |.mp k v,.mp k' v'=>match CT.cast k k',CT.cast v v' with
  |some ⟨h⟩,some ⟨h'⟩=>some ⟨by rw[h,h']⟩
  |_,_=>none
 |.sq i,.sq j=>if h:i=j then some ⟨by rw[h]⟩ else none
 |.yl i,.yl j=>if h:i=j then some ⟨by rw[h]⟩ else none
 |_,_=>none
def Yi:(l l':List CT)->Option (PLift (l=l'))
 |[],[]=>some ⟨rfl⟩
 |c :: l,c' :: l'=>match CT.cast c c',Yi l l' with
  |some ⟨h⟩,some ⟨k⟩=>some ⟨by rw[h,k]⟩
  |_,_=>none
 |_,_=>none
def By(c c':CT)(l:List c.T):Option (List c'.T):=match CT.cast c c' with
 |some ⟨h⟩=>some (h▸l)
 |none=>none
def S5(c c':CT)(x:Option c.T):Option (Option c'.T):=match CT.cast c c' with
 |some ⟨h⟩=>some (h▸x)
 |none=>none
def lfT:(c:CT)->c.T->SV
 |.int k,n=>.int k n
 |.bool,b=>.bool b
 |.str,s=>.str s
 |.slc c,l=>.slc c l
 |.us _,_=>.top
 |.fn i,x=>.fnp i x
 |.ptr c,x=>.optr c x
 |.mp k v,x=>.mpv k v x
 |.sq i,x=>.sqp i x
 |.yl i,x=>.ylv i x
def IR(c:CT):(l:List CT)->RowC c.T l->List SV
 |[],x=>[lfT c x]
 |d :: l,x=>lfT c x.1 :: IR d l x.2
def rowS:(l:List CT)->Row l->List SV
 |[],_=>[]
 |c :: l,x=>IR c l x
def ofI(k:IntKind):SV->Option Int
 |.int k' n=>if k=k' then some n else none
 |_=>none
def ofBT:SV->Option Bool
 |.bool b=>some b
 |_=>none
def IS:SV->Option (List UInt8)
 |.str s=>some s
 |_=>none
def ofSl(c:CT):SV->Option (List c.T)
 |.slc c' l=>By c' c l
 |.nil=>some []
 |_=>none
def ofFn(i:Nat):SV->Option (FnV i)
 |.fnp j x=>if h:j=i then some (h▸x) else none
 |_=>none
def ofSq(i:Nat):SV->Option (SqV i)
 |.sqp j x=>if h:j=i then some (h▸x) else none
 |_=>none
def ofYl(i:Nat):SV->Option (List (TabT.FA i))
 |.ylv j x=>if h:j=i then some (h▸x) else none
 |_=>none
def ofPt(c:CT):SV->Option (Option c.T)
 |.optr c' x=>S5 c' c x
 |.nilp=>some none
 |_=>none
def KH(k v k' v':CT)(x:List (k.T×v.T)):Option (List (k'.T×v'.T)):=match CT.cast k k',CT.cast v v' with
 |some ⟨h⟩,some ⟨h'⟩=>some (h▸h'▸x)
 |_,_=>none
def ofMp(k v:CT):SV->Option (List (k.T×v.T))
 |.mpv k' v' x=>KH k' v' k v x
 |_=>none
def ofLf:(c:CT)->SV->Option c.T
 |.int k=>ofI k
 |.bool=>ofBT
 |.str=>IS
 |.slc c=>ofSl c
 |.us _=>fun _=>none
 |.fn i=>ofFn i
 |.ptr c=>ofPt c
 |.mp _ _=>fun _=>none
 |.sq i=>ofSq i
 |.yl _=>fun _=>none
def DA{t:Type}(f:SV->Option t):List SV->Option t
 |[v]=>f v
 |_=>none
def IT{t u:Type}(f:SV->Option t)(g:List SV->Option u):List SV->Option (t×u)
 |[]=>none
 |v :: r=>match f v,g r with
  |some a,some b=>some (a,b)
  |_,_=>none
def IU:List SV->Option Unit
 |[]=>some ()
 |_=>none
def IV(c:CT):(l:List CT)->List SV->Option (RowC c.T l)
 |[]=>DA (ofLf c)
 |d :: l=>IT (ofLf c) (IV d l)
def S6:(l:List CT)->List SV->Option (Row l)
 |[]=>IU
 |c :: l=>IV c l
end
class Tab extends TabT where
 ls:Nat->List CT
 mkS:(i:Nat)->Row (ls i)->T i
 unS:(i:Nat)->T i->Row (ls i)
 inh:(i:Nat)->Inhabited (T i)
 cA:(i:Nat)->T i->List Aa
 fa:Nat->List CT
 fr:Nat->List CT
 eA:(i:Nat)->Row (fa i)=FA i
 eR:(i:Nat)->Row (fr i)=FR i
 kk:Nat->Option (List Nat)
 ke:(i:Nat)->T i->T i->Bool
section
variable [Tab]
def CT.n:CT->Nat
 |.us i=>(Tab.ls i).length
 |_=>1
def ptA{α:Type}(n:Nat)(f:α->List Aa):Option α->Aa
 |none=>.nilp
 |some x=>.cptr (fun k=>(f x).getD k .top) n 0
def CT.cA:(c:CT)->c.T->List Aa
 |.int k=>cI k
 |.bool=>cB
 |.str=>cS
 |.slc c=>cL c.n c.cA
 |.us i=>Tab.cA i
 |.fn i=>fun x=>[.fn x.f x.nb x.caps]
 |.ptr c=>fun x=>[ptA c.n c.cA x]
 |.mp _ _=>fun _=>[.top]
 |.sq i=>fun x=>[.fn x.f 0 x.caps]
 |.yl _=>fun _=>[.top]
mutual
def A0:SV->Aa
 |.int k n=>.int k n
 |.bool b=>.bool b
 |.str s=>.str s
 |.nil=>.nils
 |.slc c l=>slcV c.n c.cA l
 |.agg l=>.agg (Aq l)
 |.tup l=>.tup (Aq l)
 |.cptr l off=>.cptr (fun k=>(Aq l).getD k .top) l.length off
 |.fn f nb l=>.fn f nb (Aq l)
 |.fnp i x=>.fn x.f x.nb x.caps
 |.nilp=>.nilp
 |.optr c x=>ptA c.n c.cA x
 |.mpv _ _ _=>.top
 |.sqp i x=>.fn x.f 0 x.caps
 |.ylv _ _=>.top
 |.top=>.top
def Aq:List SV->List Aa
 |[]=>[]
 |x :: l=>A0 x :: Aq l
end
def FnV.no(i:Nat):FnV i:=⟨0,0,[],(fun _ h=>by cases h),fun _=>none,fun _ _ h=>by cases h⟩
def SqV.no(i:Nat):SqV i:=⟨0,[],(fun _ h=>by cases h),fun _=>none,fun _ _ h=>by cases h⟩
instance CT.inh:(c:CT)->Inhabited c.T
 |.int _=>(inferInstance:Inhabited Int)
 |.bool=>(inferInstance:Inhabited Bool)
 |.str=>(inferInstance:Inhabited (List UInt8))
 |.slc c=>(inferInstance:Inhabited (List c.T))
 |.us i=>Tab.inh i
 |.fn i=>⟨FnV.no i⟩
 |.ptr c=>(inferInstance:Inhabited (Option c.T))
 |.mp k v=>(inferInstance:Inhabited (List (k.T×v.T)))
 |.sq i=>⟨SqV.no i⟩
 |.yl i=>(inferInstance:Inhabited (List (TabT.FA i)))
@[reducible] def Yj(c:CT):(l:List CT)->Inhabited (RowC c.T l)
 |[]=>c.inh
 |d :: l=>@instInhabitedProd _ _ c.inh (Yj d l)
instance rowInh:(l:List CT)->Inhabited (Row l)
 |[]=>(inferInstance:Inhabited Unit)
 |c :: l=>Yj c l
def wT:(c:CT)->c.T->SV
 |.int k,n=>.int k n
 |.bool,b=>.bool b
 |.str,s=>.str s
 |.slc c,l=>.slc c l
 |.us i,x=>.agg (rowS (Tab.ls i) (Tab.unS i x))
 |.fn i,x=>.fnp i x
 |.ptr c,x=>.optr c x
 |.mp k v,x=>.mpv k v x
 |.sq i,x=>.sqp i x
 |.yl i,x=>.ylv i x
def IW(i:Nat)(l:List SV):Option (TabT.T i):=match S6 (Tab.ls i) l with
 |some r=>some (Tab.mkS i r)
 |none=>none
def ofAg(i:Nat):SV->Option (TabT.T i)
 |.agg l=>IW i l
 |_=>none
def Ew:(c:CT)->List SV->Option c.T
 |.us i=>IW i
 |.int k=>DA (ofI k)
 |.bool=>DA ofBT
 |.str=>DA IS
 |.slc c=>DA (ofSl c)
 |.fn i=>DA (ofFn i)
 |.ptr c=>DA (ofPt c)
 |.mp _ _=>fun _=>none
 |.sq i=>DA (ofSq i)
 |.yl _=>fun _=>none
def ofPw(c:CT):SV->Option (Option c.T)
 |.cptr l 0=>match Ew c l with
  |some x=>some (some x)
  |none=>none
 |v=>ofPt c v
def ofW:(c:CT)->SV->Option c.T
 |.us i=>ofAg i
 |.int k=>ofI k
 |.bool=>ofBT
 |.str=>IS
 |.slc c=>ofSl c
 |.fn i=>ofFn i
 |.ptr c=>ofPw c
 |.mp k v=>ofMp k v
 |.sq i=>ofSq i
 |.yl i=>ofYl i
def G5(c:CT):(l:List CT)->RowC c.T l->List SV
 |[],x=>[wT c x]
 |d :: l,x=>wT c x.1 :: G5 d l x.2
def rowW:(l:List CT)->Row l->List SV
 |[],_=>[]
 |c :: l,x=>G5 c l x
def IX(c:CT):(l:List CT)->List SV->Option (RowC c.T l)
 |[]=>DA (ofW c)
 |d :: l=>IT (ofW c) (IX d l)
def KI:(l:List CT)->List SV->Option (Row l)
 |[]=>IU
 |c :: l=>IX c l
def Cu:(c:CT)->c.T->List SV
 |.us i,x=>rowS (Tab.ls i) (Tab.unS i x)
 |.int k,n=>[.int k n]
 |.bool,b=>[.bool b]
 |.str,s=>[.str s]
 |.slc c,l=>[.slc c l]
 |.fn i,x=>[.fnp i x]
 |.ptr c,x=>[.optr c x]
 |.mp k v,x=>[.mpv k v x]
 |.sq i,x=>[.sqp i x]
 |.yl i,x=>[.ylv i x]
def SV.cells:SV->Option (List SV)
 |.agg l=>some l
 |.tup _=>none
 |.top=>none
 |.mpv _ _ _=>none
 |.ylv _ _=>none
 |x=>some [x]
def retT:(l:List CT)->Row l->SV
 |[c],x=>wT c x
 |l,x=>.tup (rowW l x)
class TabOk:Prop where
 unmk:∀(i:Nat) (r:Row (Tab.ls i)),Tab.unS i (Tab.mkS i r)=r
 cells:∀(i:Nat) (x:TabT.T i),Tab.cA i x=Aq (rowS (Tab.ls i) (Tab.unS i x))
 nor:∀(i:Nat) (x:TabT.T i) (v:Aa),v∈Tab.cA i x->AF v
 pos:∀i,∀c∈Tab.ls i,∀j,c≠.us j
 aA:∀(i:Nat) (x:Row (Tab.fa i)),TabT.aA i (cast (Tab.eA i) x)=Aq (rowW (Tab.fa i) x)
 aR:∀(i:Nat) (x:Row (Tab.fr i)),TabT.aR i (cast (Tab.eR i) x)=A0 (retT (Tab.fr i) x)
 kq:∀(i:Nat) (x y:TabT.T i) (l:List Nat),Tab.kk i=some l->(Tab.cA i x).map Aa.kind=l/\Cn (Tab.cA i x) (Tab.cA i y)=some (Tab.ke i x y)
end
universe u
def tall:Unit:=(fun _=>()) (lp (fun(n:Nat)=>some (.inr (α:=Nat) n)) 0)
def Ab{α:Sort u}(c:Bool)(x y:α):α:=match c,tall with
 |true,_=>x
 |false,_=>y
theorem G6{α:Sort u}(x y:α):Ab true x y=x:=rfl
theorem S7{α:Sort u}(x y:α):Ab false x y=y:=rfl
theorem Ao{a b:Nat}:Nat.beq a b=true↔a=b:=by simp
theorem BG{a b:Nat}:Nat.beq a b=false↔a≠b:=by rw[<-Bool.not_eq_true,Ao]
theorem Ws.getD:∀{l l':List Aa},Ws l l'->∀j,W (l.getD j .top) (l'.getD j .top)
 |[],[],_,j=>.refl _
 |x :: l,y :: l',h,0=>h.1
 |x :: l,y :: l',h,j+1=>Ws.getD (l:=l) (l':=l') h.2 j
 |[],_ :: _,h,_=>h.elim
 |_ :: _,[],h,_=>h.elim
theorem Ws.append{l l' m m':List Aa}(h:Ws l l')(k:Ws m m'):Ws (l++m) (l'++m'):=by
 match l,l',h with
 |[],[],_=>exact k
 |x :: l,y :: l',h=>exact⟨h.1,Ws.append h.2 k⟩
def lt3:List Nat->Bool
 |[]=>true
 |k :: l=>Ab (Nat.blt k 3) (lt3 l) false
theorem Yk:∀{l:List Nat},lt3 l=true->∀k∈l,k<3
 |[],_,k,h=>by cases h
 |j :: l,e,k,h=>by
  obtain⟨h1,h2⟩:Nat.blt j 3=true/\lt3 l=true:=by
   have e:Ab (Nat.blt j 3) (lt3 l) false=true:=e;cases hb:Nat.blt j 3 with
   |true=>rw[hb]at e;exact⟨rfl,e⟩
   |false=>rw[hb]at e;cases e
  rcases AI.1 h with rfl|h
  ·simpa [GV] using h1
  ·exact Yk h2 k h
theorem W.scalar{x y:Aa}(h:W x y)(k:y.kind<3):x=y:=by cases h<;>first|rfl|(simp[Aa.kind]at k)
theorem Ws.scalar:∀{l m:List Aa},Ws l m->(∀y∈m,y.kind<3)->l=m
 |[],[],_,_=>rfl
 |x :: l,y :: m,h,k=>by rw[h.1.scalar (k y (BL ..)),Ws.scalar (l:=l) (m:=m) h.2 fun z hz=>k z (Db _ hz)]
 |[],_ :: _,h,_=>h.elim
 |_ :: _,[],h,_=>h.elim
theorem Yl{α:Type}{n:Nat}{f:α->List Aa}{x:Option α}:(ptA n f x).one=true:=by cases x<;>rfl
theorem Ym{α:Type}{n:Nat}{f:α->List Aa}{x:Option α}(h:∀y v,v∈f y->AF v):AF (ptA n f x):=by
 cases x with
 |none=>exact .nilp
 |some y =>
  refine .cptr _ _ _ fun j _=>?_;simp only[J3];cases e:(f y)[j]? with
  |none=>exact .top
  |some v=>exact h y v (Dx e)
theorem yU{A B:Type}(e:A=B)(h:Option A=Option B)(x:Option A):cast h x=x.map (cast e):=by subst e;cases x<;>rfl
section
variable [Tab]
structure Fc where
 f:FuncId
 a:List CT
 p:List Bool
 r:List CT
 F:Row a->Option (Row r)
def ofP(c:CT):Bool->SV->Option c.T
 |false,v=>ofW c v
 |true,.cptr l 0=>Ew c l
 |_,_=>none
def Ou(c:CT):(l:List CT)->List Bool->List SV->Option (RowC c.T l)
 |[],p=>DA (ofP c (p.headD false))
 |d :: l,p=>IT (ofP c (p.headD false)) (Ou d l p.tail)
def KA:(l:List CT)->List Bool->List SV->Option (Row l)
 |[],_=>IU
 |c :: l,p=>Ou c l p
def prmC(c:CT):Bool->c.T->SV
 |false,x=>wT c x
 |true,x=>.cptr (Cu c x) 0
def HF(c:CT):(l:List CT)->List Bool->RowC c.T l->List SV
 |[],p,x=>[prmC c (p.headD false) x]
 |d :: l,p,x=>prmC c (p.headD false) x.1 :: HF d l p.tail x.2
def prmS:(l:List CT)->List Bool->Row l->List SV
 |[],_,_=>[]
 |c :: l,p,x=>HF c l p x
theorem HG:∀(l:List SV),Aq l=l.map A0
 |[]=>rfl
 |x :: l=>by show A0 x :: Aq l=_;rw[HG l];rfl
theorem AK(l:List SV):(Aq l).length=l.length:=by simp[HG]
theorem Ov(l m:List SV):Aq (l++m)=Aq l++Aq m:=by simp[HG]
theorem Ow(n:Nat)(l:List SV):Aq (l.take n)=(Aq l).take n:=by simp[HG]
theorem Ox(n:Nat)(l:List SV):Aq (l.drop n)=(Aq l).drop n:=by simp[HG]
theorem S8(l:List SV)(i:Nat):A0 (l.getD i .top)=(Aq l).getD i .top:=by simp only[HG,J3,J4];cases l[i]?<;>rfl
theorem Yn(l:List SV)(i:Nat)(x:SV):Aq (l.set i x)=(Aq l).set i (A0 x):=by simp[HG,List.map_set]
theorem S9(v:SV):unv (A0 v)=A0 v:=by
 cases v with
 |optr c x=>cases x<;>rfl
 |_=>rfl
theorem SA(v:SV)(c:Bool):unc c (A0 v):=by
 cases v with
 |optr d x=>cases x<;>exact trivial
 |_=>exact trivial
theorem HH{v:SV}{l:List SV}(h:v.cells=some l):Cm (A0 v)=some (Aq l):=by
 cases v with
 |optr c x=>simp only[SV.cells]at h;cases h;cases x<;>rfl
 |_=>simp only[SV.cells]at h<;>cases h<;>rfl
theorem Ex{c c':CT}{l:List c.T}{m:List c'.T}(h:By c c' l=some m):slcV c.n c.cA l=slcV c'.n c'.cA m/\l.length=m.length/\Ay c.cA l=Ay c'.cA m/\c=c':=by
 unfold By at h;split at h
 ·rename_i e _;subst e;cases h;exact⟨rfl,rfl,rfl,rfl⟩
 ·cases h
theorem Yo(c:CT):∀(l:List CT) (r:RowC c.T l),(IR c l r).length=l.length+1
 |[],r=>rfl
 |d :: l,r=>by show _+1=_;rw[Yo d l r.2];rfl
theorem yV:∀(l:List CT) (r:Row l),(rowS l r).length=l.length
 |[],r=>rfl
 |c :: l,r=>Yo c l r
theorem Oy:∀(c:CT) (x:c.T),(Cu c x).length=c.n
 |.int k,x=>rfl
 |.bool,x=>rfl
 |.str,x=>rfl
 |.slc c,x=>rfl
 |.us i,x=>yV _ _
 |.fn i,x=>rfl
 |.ptr c,x=>rfl
 |.mp _ _,x=>rfl
 |.sq _,x=>rfl
 |.yl _,x=>rfl
theorem Yp(c:CT):∀(l:List CT) (r:RowC c.T l),(G5 c l r).length=l.length+1
 |[],r=>rfl
 |d :: l,r=>by show _+1=_;rw[Yp d l r.2];rfl
theorem yW:∀(l:List CT) (r:Row l),(rowW l r).length=l.length
 |[],r=>rfl
 |c :: l,r=>Yp c l r
theorem IY{k:IntKind}{v:SV}{x:Int}(h:ofI k v=some x):v=.int k x:=by
 unfold ofI at h;split at h
 ·split at h;·rename_i e;subst e;cases h;rfl
  ·cases h
 ·cases h
theorem IZ{v:SV}{x:Bool}(h:ofBT v=some x):v=.bool x:=by unfold ofBT at h;split at h<;>cases h;rfl
theorem Ja{v:SV}{x:List UInt8}(h:IS v=some x):v=.str x:=by unfold IS at h;split at h<;>cases h;rfl
theorem Oz{c:CT}{v:SV}{x:List c.T}(h:ofSl c v=some x):W (A0 v) (slcV c.n c.cA x)/\(A0 v).one=true:=by
 unfold ofSl at h;split at h
 ·have:=Ex h;refine⟨?_,rfl⟩;rw[<-this.1];exact .refl _
 ·cases h;exact⟨.nil _ _,rfl⟩
 ·cases h
theorem KJ{i:Nat}{v:SV}{x:FnV i}(h:ofFn i v=some x):v=.fnp i x:=by
 unfold ofFn at h;split at h
 ·split at h;·rename_i e;subst e;cases h;rfl
  ·cases h
 ·cases h
theorem Jb{i:Nat}{v:SV}{x:SqV i}(h:ofSq i v=some x):v=.sqp i x:=by
 unfold ofSq at h;split at h
 ·split at h;·rename_i e;subst e;cases h;rfl
  ·cases h
 ·cases h
theorem SB{i:Nat}{v:SV}{x:List (TabT.FA i)}(h:ofYl i v=some x):v=.ylv i x:=by
 unfold ofYl at h;split at h
 ·split at h;·rename_i e;subst e;cases h;rfl
  ·cases h
 ·cases h
theorem yX{c c':CT}{x:Option c.T}{y:Option c'.T}(h:S5 c c' x=some y):ptA c.n c.cA x=ptA c'.n c'.cA y:=by
 unfold S5 at h;split at h
 ·rename_i e _;subst e;cases h;rfl
 ·cases h
theorem KK{c:CT}{v:SV}{x:Option c.T}(h:ofPt c v=some x):A0 v=ptA c.n c.cA x/\(A0 v).one=true:=by
 unfold ofPt at h;split at h
 ·exact⟨yX h,Yl⟩
 ·cases h;exact⟨rfl,rfl⟩
 ·cases h
theorem SC:∀{c:CT} {v:SV} {x:c.T},ofLf c v=some x->W (A0 v) (A0 (lfT c x))/\(A0 v).one=true
 |.int k,v,x,h=>by rw[IY h];exact⟨.refl _,rfl⟩
 |.bool,v,x,h=>by rw[IZ h];exact⟨.refl _,rfl⟩
 |.str,v,x,h=>by rw[Ja h];exact⟨.refl _,rfl⟩
 |.slc c,v,x,h=>Oz h
 |.us i,v,x,h=>by cases h
 |.fn i,v,x,h=>by rw[KJ h];exact⟨.refl _,rfl⟩
 |.ptr c,v,x,h=>by obtain⟨h1,h2⟩:=KK h;exact⟨by rw[h1];exact .refl _,h2⟩
 |.mp _ _,v,x,h=>by cases h
 |.sq i,v,x,h=>by rw[Jb h];exact⟨.refl _,rfl⟩
 |.yl _,v,x,h=>by cases h
theorem DB{t:Type}{f:SV->Option t}{v:List SV}{x:t}(h:DA f v=some x):∃u,v=[u]/\f u=some x:=by
 unfold DA at h;split at h
 ·exact⟨_,rfl,h⟩
 ·cases h
theorem Jc{t u:Type}{f:SV->Option t}{g:List SV->Option u}{v:List SV}{x:t×u}(h:IT f g v=some x):∃y r,v=y :: r/\f y=some x.1/\g r=some x.2:=by
 unfold IT at h;split at h
 ·cases h
 ·rename_i y r;split at h
  ·rename_i a b h1 h2;cases h;exact⟨y,r,rfl,h1,h2⟩
  ·cases h
theorem Jd{v:List SV}{x:Unit}(h:IU v=some x):v=[]:=by
 unfold IU at h;split at h
 ·rfl
 ·cases h
theorem Yq:∀(c:CT) (l:List CT) (v:List SV) (r:RowC c.T l),IV c l v=some r->Ws (Aq v) (Aq (IR c l r))/\AY (Aq v)=true
 |c,[],v,r,h=>by obtain⟨u,rfl,h⟩:=DB (f:=ofLf c) h;obtain⟨h1,h2⟩:=SC h;exact⟨⟨h1,trivial⟩,by show(_&&true)=true;rw[h2];rfl⟩
 |c,d :: l,v,r,h=>by obtain⟨y,q,rfl,h1,h2⟩:=Jc (f:=ofLf c) (g:=IV d l) h;obtain⟨p1,p2⟩:=SC h1;obtain⟨q1,q2⟩:=Yq d l q r.2 h2;exact⟨⟨p1,q1⟩,by show(_&&_)=true;rw[p2,q2];rfl⟩
theorem yY{l:List CT}{v:List SV}{r:Row l}(h:S6 l v=some r):Ws (Aq v) (Aq (rowS l r))/\AY (Aq v)=true:=by
 cases l with
 |nil=>rw[Jd h];exact⟨trivial,rfl⟩
 |cons c l=>exact Yq c l v r h
theorem SD{i:Nat}{v:SV}{x:TabT.T i}(h:ofAg i v=some x):∃l,v=.agg l/\IW i l=some x:=by
 unfold ofAg at h;split at h
 ·exact⟨_,rfl,h⟩
 ·cases h
def ex1:SV->Bool
 |.int _ _ | .bool _ | .str _ | .slc _ _ | .optr _ _ | .fnp _ _ | .sqp _ _=>true
 |_=>false
def exL:List SV->Bool
 |[]=>true
 |v :: l=>Ab (ex1 v) (exL l) false
def exV:SV->Bool
 |.agg l=>exL l
 |v=>ex1 v
theorem Yr{v:SV}{l:List SV}(h:exL (v :: l)=true):ex1 v=true/\exL l=true:=by
 have h:Ab (ex1 v) (exL l) false=true:=h;cases hb:ex1 v with
 |true=>rw[hb]at h;exact⟨rfl,h⟩
 |false=>rw[hb]at h;cases h
theorem Ys:∀{c:CT} {v:SV} {x:c.T},ofLf c v=some x->ex1 v=true->A0 v=A0 (lfT c x)
 |.int k,v,x,h,_=>by rw[IY h];rfl
 |.bool,v,x,h,_=>by rw[IZ h];rfl
 |.str,v,x,h,_=>by rw[Ja h];rfl
 |.slc c,v,x,h,e=>by
  have h:ofSl c v=some x:=h;unfold ofSl at h;split at h
  ·exact(Ex h).1
  ·cases e
  ·cases h
 |.us i,v,x,h,_=>by cases h
 |.fn i,v,x,h,_=>by rw[KJ h];rfl
 |.ptr c,v,x,h,_=>(KK h).1
 |.mp _ _,v,x,h,_=>by cases h
 |.sq i,v,x,h,_=>by rw[Jb h];rfl
 |.yl _,v,x,h,_=>by cases h
theorem Yt:∀(c:CT) (l:List CT) (v:List SV) (r:RowC c.T l),IV c l v=some r->exL v=true->Aq v=Aq (IR c l r)
 |c,[],v,r,h,e=>by obtain⟨u,rfl,h⟩:=DB (f:=ofLf c) h;show [A0 u]=[A0 (lfT c r)];rw[Ys h (Yr e).1]
 |c,d :: l,v,r,h,e=>by obtain⟨y,q,rfl,h1,h2⟩:=Jc (f:=ofLf c) (g:=IV d l) h;obtain⟨e1,e2⟩:=Yr e;show A0 y :: Aq q=A0 (lfT c r.1) :: Aq (IR d l r.2);rw[Ys h1 e1,Yt d l q r.2 h2 e2]
theorem yZ{l:List CT}{v:List SV}{r:Row l}(h:S6 l v=some r)(e:exL v=true):Aq v=Aq (rowS l r):=by
 cases l with
 |nil=>rw[Jd h];rfl
 |cons c l=>exact Yt c l v r h e
variable [TabOk]
theorem Ey:∀(c:CT) (x:c.T),Aq (Cu c x)=c.cA x
 |.int k,x=>rfl
 |.bool,x=>rfl
 |.str,x=>rfl
 |.slc c,x=>rfl
 |.us i,x=>(TabOk.cells i x).symm
 |.fn i,x=>rfl
 |.ptr c,x=>rfl
 |.mp _ _,x=>rfl
 |.sq _,x=>rfl
 |.yl _,x=>rfl
theorem Je(c:CT)(x:c.T):(c.cA x).length=c.n:=by rw[<-Ey,AK,Oy]
theorem SE{i:Nat}{v:List SV}{x:TabT.T i}(h:IW i v=some x):Ws (Aq v) (Tab.cA i x)/\AY (Aq v)=true:=by
 unfold IW at h;split at h
 ·rename_i r hr;cases h;have:=yY hr;rw[TabOk.cells,TabOk.unmk];exact this
 ·cases h
theorem FQ:∀{c:CT} {v:List SV} {x:c.T},Ew c v=some x->Ws (Aq v) (c.cA x)/\AY (Aq v)=true
 |.us i,v,x,h=>SE h
 |.int k,v,x,h=>by obtain⟨u,rfl,h⟩:=DB h;rw[IY h];exact⟨⟨.refl _,trivial⟩,rfl⟩
 |.bool,v,x,h=>by obtain⟨u,rfl,h⟩:=DB h;rw[IZ h];exact⟨⟨.refl _,trivial⟩,rfl⟩
 |.str,v,x,h=>by obtain⟨u,rfl,h⟩:=DB h;rw[Ja h];exact⟨⟨.refl _,trivial⟩,rfl⟩
 |.slc c,v,x,h=>by obtain⟨u,rfl,h⟩:=DB h;have:=Oz h;exact⟨⟨this.1,trivial⟩,by show(_&&true)=true;rw[this.2];rfl⟩
 |.fn i,v,x,h=>by obtain⟨u,rfl,h⟩:=DB h;rw[KJ h];exact⟨⟨.refl _,trivial⟩,rfl⟩
 |.ptr c,v,x,h=>by obtain⟨u,rfl,h⟩:=DB h;obtain⟨h1,h2⟩:=KK h;exact⟨⟨by rw[h1];exact .refl _,trivial⟩,by show(_&&true)=true;rw[h2];rfl⟩
 |.mp _ _,v,x,h=>by cases h
 |.sq i,v,x,h=>by obtain⟨u,rfl,h⟩:=DB h;rw[Jb h];exact⟨⟨.refl _,trivial⟩,rfl⟩
 |.yl _,v,x,h=>by cases h
theorem O0(i:Nat)(x:TabT.T i):A0 (wT (.us i) x)=.agg (Tab.cA i x):=by rw[TabOk.cells];rfl
theorem y_{c:CT}{l:List SV}{x:c.T}(h:Ew c l=some x):W (A0 (.cptr l 0)) (ptA c.n c.cA (some x)):=by
 obtain⟨h1,_⟩:=FQ h;show W (.cptr (fun k=>(Aq l).getD k .top) l.length 0) (.cptr (fun k=>(c.cA x).getD k .top) c.n 0);have e:l.length=c.n:=by rw[<-Je c x,<-h1.at.1,AK]
 rw[e];exact .cptr _ _ _ _ fun j _=>h1.getD j
theorem Dr:∀{c:CT} {v:SV} {x:c.T},ofW c v=some x->W (A0 v) (A0 (wT c x))
 |.us i,v,x,h=>by obtain⟨l,rfl,h⟩:=SD h;have e:A0 (wT (.us i) x)=.agg (Tab.cA i x):=O0 i x;exact e▸Hn.2 (SE h).1
 |.int k,v,x,h=>by rw[IY h];exact .refl _
 |.bool,v,x,h=>by rw[IZ h];exact .refl _
 |.str,v,x,h=>by rw[Ja h];exact .refl _
 |.slc c,v,x,h=>(Oz h).1
 |.fn i,v,x,h=>by rw[KJ h];exact .refl _
 |.ptr c,v,x,h=>by
  have h:ofPw c v=some x:=h;unfold ofPw at h;split at h
  ·split at h;·rename_i y hy;cases h;exact y_ hy
   ·cases h
  ·rw[(KK h).1];exact .refl _
 |.mp k v,u,x,h=>by
  have h:ofMp k v u=some x:=h;unfold ofMp at h;split at h
  ·exact .refl _
  ·cases h
 |.sq i,v,x,h=>by rw[Jb h];exact .refl _
 |.yl i,v,x,h=>by rw[SB h];exact .refl _
theorem za:∀{c:CT} {v:SV} {x:c.T},ofW c v=some x->exV v=true->A0 v=A0 (wT c x)
 |.int k,v,x,h,_=>by rw[IY h];rfl
 |.bool,v,x,h,_=>by rw[IZ h];rfl
 |.str,v,x,h,_=>by rw[Ja h];rfl
 |.slc c,v,x,h,e=>by
  have h:ofSl c v=some x:=h;unfold ofSl at h;split at h
  ·exact(Ex h).1
  ·cases e
  ·cases h
 |.us i,v,x,h,e=>by
  obtain⟨l,rfl,k⟩:=SD h;unfold IW at k;split at k
  ·rename_i r hr;cases k;have e2:A0 (wT (.us i) (Tab.mkS i r))=.agg (Aq (rowS (Tab.ls i) (Tab.unS i (Tab.mkS i r)))):=rfl;rw[e2,TabOk.unmk];show Aa.agg (Aq l)=_;rw[yZ hr e]
  ·cases k
 |.fn i,v,x,h,_=>by rw[KJ h];rfl
 |.ptr c,v,x,h,e=>by
  have h:ofPw c v=some x:=h;unfold ofPw at h;split at h
  ·cases e
  ·exact(KK h).1
 |.mp _ _,v,x,h,e=>by
  have h:ofMp _ _ v=some x:=h;unfold ofMp at h;split at h
  ·rfl
  ·cases h
 |.sq i,v,x,h,_=>by rw[Jb h];rfl
 |.yl i,v,x,h,_=>by rw[SB h];rfl
theorem Yu:∀(c:CT) (l:List CT) (v:List SV) (r:RowC c.T l),IX c l v=some r->Ws (Aq v) (Aq (G5 c l r))
 |c,[],v,r,h=>by obtain⟨u,rfl,h⟩:=DB (f:=ofW c) h;exact⟨Dr h,trivial⟩
 |c,d :: l,v,r,h=>by obtain⟨y,q,rfl,h1,h2⟩:=Jc (f:=ofW c) (g:=IX d l) h;exact⟨Dr h1,Yu d l q r.2 h2⟩
theorem Yv{l:List CT}{v:List SV}{r:Row l}(h:KI l v=some r):Ws (Aq v) (Aq (rowW l r)):=by
 cases l with
 |nil=>rw[Jd h];exact trivial
 |cons c l=>exact Yu c l v r h
theorem O1:∀(c:CT) (x:c.T) (v:Aa),v∈c.cA x->AF v
 |.int k,x,v,h=>Ut v h
 |.bool,x,v,h=>Kd v h
 |.str,x,v,h=>Ke v h
 |.slc c,x,v,h=>zb (O1 c) v h
 |.us i,x,v,h=>TabOk.nor i x v h
 |.fn i,x,v,h=>by
  cases h with
  |head=>exact .fn _ _ _ x.nr
  |tail _ h=>cases h
 |.ptr c,x,v,h=>by
  cases h with
  |head=>exact Ym (O1 c)
  |tail _ h=>cases h
 |.mp _ _,x,v,h=>by
  cases h with
  |head=>exact .top
  |tail _ h=>cases h
 |.sq i,x,v,h=>by
  cases h with
  |head=>exact .fn _ _ _ x.nr
  |tail _ h=>cases h
 |.yl _,x,v,h=>by
  cases h with
  |head=>exact .top
  |tail _ h=>cases h
end
section
variable [Tab]
mutual
theorem Yw[TabOk]:∀(v:SV),AF (A0 v)
 |.int _ _=>.int _ _
 |.bool _=>.bool _
 |.str _=>.str _
 |.nil=>.nils
 |.slc c l=>GP (O1 c)
 |.agg l=>.agg _ (DZ l)
 |.tup l=>.tup _ (DZ l)
 |.cptr l off=>.cptr _ _ _ fun j hj=>by
   simp only[J3];cases e:(Aq l)[j]? with
   |none=>exact .top
   |some x=>exact DZ l x (Dx e)
 |.fn f nb l=>.fn _ _ _ (DZ l)
 |.fnp i x=>.fn _ _ _ x.nr
 |.nilp=>.nilp
 |.optr c x=>Ym (O1 c)
 |.mpv _ _ _=>.top
 |.sqp i x=>.fn _ _ _ x.nr
 |.ylv _ _=>.top
 |.top=>.top
theorem DZ[TabOk]:∀(l:List SV) (x:Aa),x∈Aq l->AF x
 |[],x,h=>by cases h
 |v :: l,x,h=>by
  cases h with
  |head=>exact Yw v
  |tail _ h=>exact DZ l x h
end
end
section
variable [Tab]
theorem SF[TabOk]{c:CT}{b:Bool}{v:SV}{x:c.T}(h:ofP c b v=some x):W (A0 v) (A0 (prmC c b x)):=by
 unfold ofP at h;split at h
 ·exact Dr h
 ·rename_i l;obtain⟨h1,_⟩:=FQ h;show W (.cptr (fun k=>(Aq l).getD k .top) l.length 0) (.cptr (fun k=>(Aq (Cu c x)).getD k .top) (Cu c x).length 0);have e:l.length=(Cu c x).length:=by rw[Oy,<-Je c x,<-h1.at.1,AK]
  rw[e,Ey];exact .cptr _ _ _ _ fun j _=>h1.getD j
 ·cases h
theorem Yx[TabOk]:∀(c:CT) (l:List CT) (p:List Bool) (v:List SV) (r:RowC c.T l),Ou c l p v=some r->Ws (Aq v) (Aq (HF c l p r))
 |c,[],p,v,r,h=>by obtain⟨u,rfl,h⟩:=DB (f:=ofP c (p.headD false)) h;exact⟨SF h,trivial⟩
 |c,d :: l,p,v,r,h=>by obtain⟨y,q,rfl,h1,h2⟩:=Jc (f:=ofP c (p.headD false)) (g:=Ou d l p.tail) h;exact⟨SF h1,Yx d l p.tail q r.2 h2⟩
theorem RT[TabOk]{l:List CT}{p:List Bool}{v:List SV}{r:Row l}(h:KA l p v=some r):Ws (Aq v) (Aq (prmS l p r)):=by
 cases l with
 |nil=>rw[Jd h];exact trivial
 |cons c l=>exact Yx c l p v r h
theorem Yy(nb:Nat)(ags caps:List SV):Aq (fnArgs nb ags caps)=fnArgs nb (Aq ags) (Aq caps):=by unfold fnArgs;rw[Ov,Ov,Ow,Ox]
structure Az(C:Fc):Prop where
 en:Co TabT.P C.f=true
 ok:∀x y,C.F x=some y->B8 TabT.E TabT.P C.f (Aq (prmS C.a C.p x)) (A0 (retT C.r y))
structure Fk extends Fc where
 ok:Az toFc
structure Sc where
 f:FuncId
 a:List CT
 p:List Bool
 i:Nat
 G:Row a->(List (TabT.FA i)->Option Bool)->Option (List (TabT.FA i))
structure ScOk(C:Sc):Prop where
 ok:∀x st l,C.G x st=some l->SqOk TabT.E TabT.P C.f (Aq (prmS C.a C.p x)) (TabT.aA C.i) st l
structure Sk extends Sc where
 ok:ScOk toSc
structure Qc where
 f:FuncId
 a:List CT
 p:List Bool
 S:Sk
 F:Row a->Option (Row S.a)
structure QcOk(Q:Qc):Prop where
 en:Co TabT.P Q.f=true
 ok:∀x y,Q.F x=some y->B8 TabT.E TabT.P Q.f (Aq (prmS Q.a Q.p x)) (.fn Q.S.f 0 (Aq (prmS Q.S.a Q.S.p y)))
structure Qk extends Qc where
 ok:QcOk toQc
def keyC(id ep:Nat):Aa:=.cptr (fun j=>[Aa.mp id ep].getD j .top) 1 0
def mEs(k v:CT)(l:List (k.T×v.T)):List (Aa×Aa):=l.map fun p=>(A0 (wT k p.1),A0 (wT v p.2))
structure Mk where
 f:FuncId
 g:FuncId
 en:Co TabT.P f=true
 ok:∀id ep,B8 TabT.E TabT.P f [.mp id ep] (.fn g 0 [keyC id ep])
structure Oc where
 f:FuncId
 g:FuncId
 k:CT
 v:CT
 a:List CT
 p:List Bool
 r:List CT
 F:List (k.T×v.T)->Row a->Option (Row r)
structure OcOk(C:Oc):Prop where
 en:Co TabT.P C.f=true
 ok:∀(l:List (C.k.T×C.v.T)) x y (h:Ax) id ep,C.F l x=some y->h id=.amap ep (mEs C.k C.v l)->Dl TabT.E TabT.P C.f (.fn C.g 0 [keyC id ep] :: Aq (prmS C.a C.p x)) h [id] (A0 (retT C.r y))
structure Ok1 extends Oc where
 ok:OcOk toOc
structure Wc where
 f:FuncId
 c:CT
 a:List CT
 p:List Bool
 F:List c.T->Row a->Option (List c.T)
structure WcOk(C:Wc):Prop where
 en:Co TabT.P C.f=true
 ok:∀(l:List C.c.T) x r (h:Ax) id ep,C.F l x=some r->h id=ownO ep C.c.n C.c.cA l->ATr TabT.E TabT.P C.f (ownV id ep l :: Aq (prmS C.a C.p x)) h fun v h'=>v=.tup []/\h'=hset h id (ownO ep C.c.n C.c.cA r)/\r.length=l.length
structure Wk extends Wc where
 ok:WcOk toWc
def Yz(c:CT)(l:List c.T)(X:Aa)(h:Ax)(s:Nat):Prop :=
 X=slcV c.n c.cA l\/∃id ep lo m,id≠s/\X=.vec id ep lo l.length/\h id=.vec ep c.n (List.length m) (Ay c.cA m)/\lo+l.length<=m.length/\∀k,k<l.length->Ay c.cA m (lo+k)=Ay c.cA l k
structure Cc where
 f:FuncId
 c:CT
 a:List CT
 p:List Bool
 F:List c.T->Row a->Option (List c.T)
structure CcOk(C:Cc):Prop where
 en:Co TabT.P C.f=true
 ok:∀(l:List C.c.T) x r (X:Aa) (h:Ax) s,C.F l x=some r->(h s).plain->Yz C.c l X h s->ATr TabT.E TabT.P C.f (X :: Aq (prmS C.a C.p x)) h fun v h'=>∃ep,v=.vec s ep 0 r.length/\0<r.length/\h'=hset h s (.vec ep C.c.n r.length (Ay C.c.cA r))
structure Ck extends Cc where
 ok:CcOk toCc
structure Dc where
 f:FuncId
 c:CT
 a:List CT
 p:List Bool
 F:Row a->Option (List c.T)
structure DcOk(C:Dc):Prop where
 en:Co TabT.P C.f=true
 ok:∀x r (h:Ax) s,C.F x=some r->(h s).plain->ATr TabT.E TabT.P C.f (Aq (prmS C.a C.p x)) h fun v h'=>∃ep,v=ownV s ep r/\h'=hset h s (ownO ep C.c.n C.c.cA r)
structure Dk extends Dc where
 ok:DcOk toDc
structure Zc where
 f:FuncId
 c:CT
 a:List CT
 p:List Bool
 F:List c.T->Row a->Option (List c.T)
structure ZcOk(C:Zc):Prop where
 en:Co TabT.P C.f=true
 ok:∀(l:List C.c.T) x r (h:Ax) id ep,C.F l x=some r->h id=ownO ep C.c.n C.c.cA l->ATr TabT.E TabT.P C.f (ownV id ep l :: Aq (prmS C.a C.p x)) h fun v h'=>v=slcV C.c.n C.c.cA r/\∃e,h'=hset h id (.gone e)
structure Zk extends Zc where
 ok:ZcOk toZc
inductive Fe where
 |k (C:Fk) | s (D:Sk) | q (Q:Qk) | m (M:Mk) | o (O:Ok1) | w (C:Wk) | c (C:Ck) | d (C:Dk) | z (C:Zk)
def G7(f:FuncId):List Fe->Option Fk
 |[]=>none
 |.k C :: l=>Ab (Nat.beq C.f f) (some C) (G7 f l)
 |_ :: l=>G7 f l
def Jf(f:FuncId):List Fe->Option Sk
 |[]=>none
 |.s C :: l=>Ab (Nat.beq C.f f) (some C) (Jf f l)
 |_ :: l=>Jf f l
def KL(f:FuncId):List Fe->Option Qk
 |[]=>none
 |.q C :: l=>Ab (Nat.beq C.f f) (some C) (KL f l)
 |_ :: l=>KL f l
def Jg(f:FuncId):List Fe->Option Mk
 |[]=>none
 |.m C :: l=>Ab (Nat.beq C.f f) (some C) (Jg f l)
 |_ :: l=>Jg f l
def Jh(f:FuncId):List Fe->Option Ok1
 |[]=>none
 |.o C :: l=>Ab (Nat.beq C.f f) (some C) (Jh f l)
 |_ :: l=>Jh f l
def Ji(f:FuncId):List Fe->Option Wk
 |[]=>none
 |.w C :: l=>Ab (Nat.beq C.f f) (some C) (Ji f l)
 |_ :: l=>Ji f l
def HI(f:FuncId):List Fe->Option Ck
 |[]=>none
 |.c C :: l=>Ab (Nat.beq C.f f) (some C) (HI f l)
 |_ :: l=>HI f l
def G8(f:FuncId):List Fe->Option Dk
 |[]=>none
 |.d C :: l=>Ab (Nat.beq C.f f) (some C) (G8 f l)
 |_ :: l=>G8 f l
def HJ(f:FuncId):List Fe->Option Zk
 |[]=>none
 |.z C :: l=>Ab (Nat.beq C.f f) (some C) (HJ f l)
 |_ :: l=>HJ f l
theorem DC:∀{H:List Fe} {f:FuncId} {C:Fk},G7 f H=some C->C.f=f
 |[],f,C,h=>by cases h
 |.s _ :: H,f,C,h=>DC (H:=H) h
 |.q _ :: H,f,C,h=>DC (H:=H) h
 |.m _ :: H,f,C,h=>DC (H:=H) h
 |.o _ :: H,f,C,h=>DC (H:=H) h
 |.w _ :: H,f,C,h=>DC (H:=H) h
 |.c _ :: H,f,C,h=>DC (H:=H) h
 |.d _ :: H,f,C,h=>DC (H:=H) h
 |.z _ :: H,f,C,h=>DC (H:=H) h
 |.k D :: H,f,C,h=>by
  have h:Ab (Nat.beq D.f f) (some D) (G7 f H)=some C:=h;cases hb:Nat.beq D.f f
  ·rw[hb]at h;exact DC h
  ·rw[hb]at h;cases h;exact Ao.1 hb
theorem Ez:∀{H:List Fe} {f:FuncId} {C:Sk},Jf f H=some C->C.f=f
 |[],f,C,h=>by cases h
 |.k _ :: H,f,C,h=>Ez (H:=H) h
 |.q _ :: H,f,C,h=>Ez (H:=H) h
 |.m _ :: H,f,C,h=>Ez (H:=H) h
 |.o _ :: H,f,C,h=>Ez (H:=H) h
 |.w _ :: H,f,C,h=>Ez (H:=H) h
 |.c _ :: H,f,C,h=>Ez (H:=H) h
 |.d _ :: H,f,C,h=>Ez (H:=H) h
 |.z _ :: H,f,C,h=>Ez (H:=H) h
 |.s D :: H,f,C,h=>by
  have h:Ab (Nat.beq D.f f) (some D) (Jf f H)=some C:=h;cases hb:Nat.beq D.f f
  ·rw[hb]at h;exact Ez h
  ·rw[hb]at h;cases h;exact Ao.1 hb
theorem EY:∀{H:List Fe} {f:FuncId} {C:Qk},KL f H=some C->C.f=f
 |[],f,C,h=>by cases h
 |.k _ :: H,f,C,h=>EY (H:=H) h
 |.s _ :: H,f,C,h=>EY (H:=H) h
 |.m _ :: H,f,C,h=>EY (H:=H) h
 |.o _ :: H,f,C,h=>EY (H:=H) h
 |.w _ :: H,f,C,h=>EY (H:=H) h
 |.c _ :: H,f,C,h=>EY (H:=H) h
 |.d _ :: H,f,C,h=>EY (H:=H) h
 |.z _ :: H,f,C,h=>EY (H:=H) h
 |.q D :: H,f,C,h=>by
  have h:Ab (Nat.beq D.f f) (some D) (KL f H)=some C:=h;cases hb:Nat.beq D.f f
  ·rw[hb]at h;exact EY h
  ·rw[hb]at h;cases h;exact Ao.1 hb
theorem EZ:∀{H:List Fe} {f:FuncId} {C:Mk},Jg f H=some C->C.f=f
 |[],f,C,h=>by cases h
 |.k _ :: H,f,C,h=>EZ (H:=H) h
 |.s _ :: H,f,C,h=>EZ (H:=H) h
 |.q _ :: H,f,C,h=>EZ (H:=H) h
 |.o _ :: H,f,C,h=>EZ (H:=H) h
 |.w _ :: H,f,C,h=>EZ (H:=H) h
 |.c _ :: H,f,C,h=>EZ (H:=H) h
 |.d _ :: H,f,C,h=>EZ (H:=H) h
 |.z _ :: H,f,C,h=>EZ (H:=H) h
 |.m D :: H,f,C,h=>by
  have h:Ab (Nat.beq D.f f) (some D) (Jg f H)=some C:=h;cases hb:Nat.beq D.f f
  ·rw[hb]at h;exact EZ h
  ·rw[hb]at h;cases h;exact Ao.1 hb
theorem Fa:∀{H:List Fe} {f:FuncId} {C:Ok1},Jh f H=some C->C.f=f
 |[],f,C,h=>by cases h
 |.k _ :: H,f,C,h=>Fa (H:=H) h
 |.s _ :: H,f,C,h=>Fa (H:=H) h
 |.q _ :: H,f,C,h=>Fa (H:=H) h
 |.m _ :: H,f,C,h=>Fa (H:=H) h
 |.w _ :: H,f,C,h=>Fa (H:=H) h
 |.c _ :: H,f,C,h=>Fa (H:=H) h
 |.d _ :: H,f,C,h=>Fa (H:=H) h
 |.z _ :: H,f,C,h=>Fa (H:=H) h
 |.o D :: H,f,C,h=>by
  have h:Ab (Nat.beq D.f f) (some D) (Jh f H)=some C:=h;cases hb:Nat.beq D.f f
  ·rw[hb]at h;exact Fa h
  ·rw[hb]at h;cases h;exact Ao.1 hb
theorem Fb:∀{H:List Fe} {f:FuncId} {C:Wk},Ji f H=some C->C.f=f
 |[],f,C,h=>by cases h
 |.k _ :: H,f,C,h=>Fb (H:=H) h
 |.s _ :: H,f,C,h=>Fb (H:=H) h
 |.q _ :: H,f,C,h=>Fb (H:=H) h
 |.m _ :: H,f,C,h=>Fb (H:=H) h
 |.o _ :: H,f,C,h=>Fb (H:=H) h
 |.c _ :: H,f,C,h=>Fb (H:=H) h
 |.d _ :: H,f,C,h=>Fb (H:=H) h
 |.z _ :: H,f,C,h=>Fb (H:=H) h
 |.w D :: H,f,C,h=>by
  have h:Ab (Nat.beq D.f f) (some D) (Ji f H)=some C:=h;cases hb:Nat.beq D.f f
  ·rw[hb]at h;exact Fb h
  ·rw[hb]at h;cases h;exact Ao.1 hb
theorem Fd:∀{H:List Fe} {f:FuncId} {C:Ck},HI f H=some C->C.f=f
 |[],f,C,h=>by cases h
 |.k _ :: H,f,C,h=>Fd (H:=H) h
 |.s _ :: H,f,C,h=>Fd (H:=H) h
 |.q _ :: H,f,C,h=>Fd (H:=H) h
 |.m _ :: H,f,C,h=>Fd (H:=H) h
 |.o _ :: H,f,C,h=>Fd (H:=H) h
 |.w _ :: H,f,C,h=>Fd (H:=H) h
 |.d _ :: H,f,C,h=>Fd (H:=H) h
 |.z _ :: H,f,C,h=>Fd (H:=H) h
 |.c D :: H,f,C,h=>by
  have h:Ab (Nat.beq D.f f) (some D) (HI f H)=some C:=h;cases hb:Nat.beq D.f f
  ·rw[hb]at h;exact Fd h
  ·rw[hb]at h;cases h;exact Ao.1 hb
theorem Ff:∀{H:List Fe} {f:FuncId} {C:Dk},G8 f H=some C->C.f=f
 |[],f,C,h=>by cases h
 |.k _ :: H,f,C,h=>Ff (H:=H) h
 |.s _ :: H,f,C,h=>Ff (H:=H) h
 |.q _ :: H,f,C,h=>Ff (H:=H) h
 |.m _ :: H,f,C,h=>Ff (H:=H) h
 |.o _ :: H,f,C,h=>Ff (H:=H) h
 |.w _ :: H,f,C,h=>Ff (H:=H) h
 |.c _ :: H,f,C,h=>Ff (H:=H) h
 |.z _ :: H,f,C,h=>Ff (H:=H) h
 |.d D :: H,f,C,h=>by
  have h:Ab (Nat.beq D.f f) (some D) (G8 f H)=some C:=h;cases hb:Nat.beq D.f f
  ·rw[hb]at h;exact Ff h
  ·rw[hb]at h;cases h;exact Ao.1 hb
theorem Fg:∀{H:List Fe} {f:FuncId} {C:Zk},HJ f H=some C->C.f=f
 |[],f,C,h=>by cases h
 |.k _ :: H,f,C,h=>Fg (H:=H) h
 |.s _ :: H,f,C,h=>Fg (H:=H) h
 |.q _ :: H,f,C,h=>Fg (H:=H) h
 |.m _ :: H,f,C,h=>Fg (H:=H) h
 |.o _ :: H,f,C,h=>Fg (H:=H) h
 |.w _ :: H,f,C,h=>Fg (H:=H) h
 |.c _ :: H,f,C,h=>Fg (H:=H) h
 |.d _ :: H,f,C,h=>Fg (H:=H) h
 |.z D :: H,f,C,h=>by
  have h:Ab (Nat.beq D.f f) (some D) (HJ f H)=some C:=h;cases hb:Nat.beq D.f f
  ·rw[hb]at h;exact Fg h
  ·rw[hb]at h;cases h;exact Ao.1 hb
theorem Fk.call[TabOk](C:Fk){vs:List SV}{r:Row C.a}(hr:Ws (Aq vs) (Aq (prmS C.a C.p r))){y:Row C.r}(hy:C.F r=some y):Co TabT.P C.f=true/\B8 TabT.E TabT.P C.f (Aq vs) (A0 (retT C.r y)) := ⟨C.ok.en,(C.ok.ok r y hy).w hr⟩
def SG{l:List CT}{i:Nat}(e:l=Tab.fr i)(x:Option (Row l)):Option (TabT.FR i):=cast (by rw[e,Tab.eR]) x
theorem zd[TabOk]{l:List CT}{i:Nat}{e:l=Tab.fr i}{x:Option (Row l)}{r:TabT.FR i}(h:SG e x=some r):∃y,x=some y/\A0 (retT l y)=TabT.aR i r:=by
 subst e;unfold SG at h;rw[yU (Tab.eR i)]at h;cases x with
 |none=>cases h
 |some y=>cases h;exact⟨y,rfl,(TabOk.aR i y).symm⟩
def ze[TabOk](C:Fk)(i nb:Nat)(caps:List SV)(e:C.r=Tab.fr i):FnV i :=
 ⟨C.f,nb,Aq caps,DZ caps,fun a=>match KA C.a C.p (fnArgs nb (rowW (Tab.fa i) (cast (Tab.eA i).symm a)) caps) with
  |some r=>SG e (C.F r)
  |none=>none,fun a r h=>by
   have ea:TabT.aA i a=Aq (rowW (Tab.fa i) (cast (Tab.eA i).symm a)):=by rw[<-TabOk.aA,cast_cast,cast_eq]
   split at h
   ·rename_i x hx;obtain⟨y,hy,er⟩:=zd h;obtain⟨h1,h2⟩:=C.call (RT hx) hy;rw[Yy]at h2;exact⟨h1,by rw[ea,<-er];exact h2⟩
   ·cases h⟩
def mkFn[TabOk](H:List Fe)(i:Nat)(f:FuncId)(nb:Nat)(caps:List SV):Option (FnV i):=match G7 f H with
 |some C=>match Yi C.r (Tab.fr i) with
  |some ⟨e⟩=>some (ze C i nb caps e)
  |none=>none
 |none=>none
theorem zf[TabOk]{H:List Fe}{i:Nat}{f:FuncId}{nb:Nat}{caps:List SV}{x:FnV i}(h:mkFn H i f nb caps=some x):A0 (.fn f nb caps)=A0 (.fnp i x):=by
 unfold mkFn at h;split at h
 ·rename_i C hC;split at h
  ·cases h;show Aa.fn f nb (Aq caps)=.fn C.f nb (Aq caps);rw[DC hC]
  ·cases h
 ·cases h
def Y0[TabOk](C:Sk)(i:Nat)(caps:List SV)(e:C.i=i):SqV i :=
 ⟨C.f,Aq caps,DZ caps,fun st=>match KA C.a C.p caps with
  |some r=>(e▸C.G r:(List (TabT.FA i)->Option Bool)->Option (List (TabT.FA i))) st
  |none=>none,fun st l h=>by
   subst e;split at h
   ·rename_i x hx;have hs:=C.ok.ok x st l h;exact⟨hs.1,fun L e HC HX hC hh h0 h1=>(hs.2 L e HC HX hC hh h0 h1).w ⟨.refl _,RT hx⟩⟩
   ·cases h⟩
def mkSq[TabOk](H:List Fe)(i:Nat)(f:FuncId)(caps:List SV):Option (SqV i):=match Jf f H with
 |some C=>if e:C.i=i then some (Y0 C i caps e) else none
 |none=>none
theorem zg[TabOk]{H:List Fe}{i:Nat}{f:FuncId}{caps:List SV}{x:SqV i}(h:mkSq H i f caps=some x):A0 (.fn f 0 caps)=A0 (.sqp i x):=by
 unfold mkSq at h;split at h
 ·rename_i C hC;split at h
  ·cases h;show Aa.fn f 0 (Aq caps)=.fn C.f 0 (Aq caps);rw[Ez hC]
  ·cases h
 ·cases h
def O2[TabOk](H:List Fe)(i:Nat):SV->Option (SqV i)
 |.fn f 0 caps=>mkSq H i f caps
 |v=>ofSq i v
theorem zh[TabOk]{H:List Fe}{i:Nat}{v:SV}{x:SqV i}(h:O2 H i v=some x):A0 v=A0 (.sqp i x):=by
 unfold O2 at h;split at h
 ·exact zg h
 ·rw[Jb h]
def SI[TabOk](H:List Fe)(i:Nat):SV->Option (FnV i)
 |.fn f nb caps=>mkFn H i f nb caps
 |v=>ofFn i v
def ofWH[TabOk](H:List Fe):(c:CT)->SV->Option c.T
 |.fn i=>SI H i
 |.us i=>ofAg i
 |.int k=>ofI k
 |.bool=>ofBT
 |.str=>IS
 |.slc c=>ofSl c
 |.ptr c=>ofPw c
 |.mp k v=>ofMp k v
 |.sq i=>O2 H i
 |.yl i=>ofYl i
def ofPH[TabOk](H:List Fe)(c:CT):Bool->SV->Option c.T
 |false,v=>ofWH H c v
 |true,v=>ofP c true v
def O3[TabOk](H:List Fe)(c:CT):(l:List CT)->List Bool->List SV->Option (RowC c.T l)
 |[],p=>DA (ofPH H c (p.headD false))
 |d :: l,p=>IT (ofPH H c (p.headD false)) (O3 H d l p.tail)
def DD[TabOk](H:List Fe):(l:List CT)->List Bool->List SV->Option (Row l)
 |[],_=>IU
 |c :: l,p=>O3 H c l p
theorem zi[TabOk]{H:List Fe}:∀{c:CT} {v:SV} {x:c.T},ofWH H c v=some x->W (A0 v) (A0 (wT c x))
 |.us i,v,x,h=>Dr (c:=.us i) h
 |.int k,v,x,h=>Dr (c:=.int k) h
 |.bool,v,x,h=>Dr (c:=.bool) h
 |.str,v,x,h=>Dr (c:=.str) h
 |.slc c,v,x,h=>Dr (c:=.slc c) h
 |.ptr c,v,x,h=>Dr (c:=.ptr c) h
 |.mp k w,v,x,h=>Dr (c:=.mp k w) h
 |.yl i,v,x,h=>Dr (c:=.yl i) h
 |.sq i,v,x,h=>by have h:O2 H i v=some x:=h;rw[zh h];exact .refl _
 |.fn i,v,x,h=>by
  have h:SI H i v=some x:=h;unfold SI at h;split at h
  ·rw[zf h];exact .refl _
  ·exact Dr (c:=.fn i) h
theorem np[TabOk]{H:List Fe}{c:CT}{b:Bool}{v:SV}{x:c.T}(h:ofPH H c b v=some x):W (A0 v) (A0 (prmC c b x)):=by
 cases b
 ·exact zi h
 ·exact SF h
theorem nt[TabOk]{H:List Fe}:∀(c:CT) (l:List CT) (p:List Bool) (v:List SV) (r:RowC c.T l),O3 H c l p v=some r->Ws (Aq v) (Aq (HF c l p r))
 |c,[],p,v,r,h=>by obtain⟨u,rfl,h⟩:=DB (f:=ofPH H c (p.headD false)) h;exact⟨np h,trivial⟩
 |c,d :: l,p,v,r,h=>by obtain⟨y,q,rfl,h1,h2⟩:=Jc (f:=ofPH H c (p.headD false)) (g:=O3 H d l p.tail) h;exact⟨np h1,nt d l p.tail q r.2 h2⟩
theorem Fh[TabOk]{H:List Fe}{l:List CT}{p:List Bool}{v:List SV}{r:Row l}(h:DD H l p v=some r):Ws (Aq v) (Aq (prmS l p r)):=by
 cases l with
 |nil=>rw[Jd h];exact trivial
 |cons c l=>exact nt c l p v r h
end
section
variable [Tab]
inductive PV where
 |s (v:SV)
 |ptr (id st off:Nat)
 |eptr (id st:Nat) (j:Int) (off:Nat) (c:CT) (x:c.T)
 |vec (id st:Nat)
 |vs (id st:Nat) (lo hi:Int)
 |own (id st:Nat)
 |mp (id st:Nat)
 |yl (i:Nat) (st:List (TabT.FA i)->Option Bool)
 |kys (id st:Nat) (g:FuncId)
 |ag (cs:List SV) (k id st:Nat)
inductive TV where
 |v (x:PV)
 |cnd (tg:Nat) (want g:Bool) (x:PV)
inductive TO where
 |gone
 |box (cs:List SV)
 |vec (c:CT) (l:List c.T)
 |own (c:CT) (l:List c.T)
 |ref (p:PV)
 |map (k v:CT) (l:List (k.T×v.T))
 |out (i:Nat) (l:List (TabT.FA i)) (b:Bool)
 |rag (cs:List SV) (k id st:Nat)
def Fi:PV->Bool
 |.vec _ _=>true
 |.own _ _=>true
 |.mp _ _=>true
 |_=>false
structure An where
 t:List (Nat×TV)
 h:List (Nat×Nat×TO)
 nx:Nat
 n:Nat
 gs:List Nat
 w:List Nat
 wo:List Nat
 b:Nat
 rf:Nat
def inR(b i:Nat):Bool:=Ab (Nat.ble b i) (Nat.blt i (b+900)) false
def O4(b:Nat):Ak->Bool
 |.alloc s _ | .box s _ | .bslice s _ _ _ _ | .mks s _ _ _ _ | .s2b s _ | .append s _ _ _ _ | .mkmap s=>inR b s
 |_=>true
def Ah:List (Nat×TV)->Nat->TV
 |[],_=>.v (.s .top)
 |p :: l,i=>Ab (Nat.beq p.1 i) p.2 (Ah l i)
def Ae:List (Nat×Nat×TO)->Nat->Option (Nat×TO)
 |[],_=>none
 |p :: l,i=>Ab (Nat.beq p.1 i) (some p.2) (Ae l i)
def memN(i:Nat):List Nat->Bool
 |[]=>false
 |j :: l=>Ab (Nat.beq j i) true (memN i l)
abbrev Gd:=Option (Nat×Bool×Bool)
def eqB(a b:Bool):Bool:=Ab a b (!b)
def ofA1:Aa->Option SV
 |.int k n=>some (.int k n)
 |.bool b=>some (.bool b)
 |.str s=>some (.str s)
 |.nils=>some .nil
 |.nilp=>some .nilp
 |_=>none
def ofAL:List Aa->Option (List SV)
 |[]=>some []
 |x :: l=>match ofA1 x,ofAL l with
  |some a,some b=>some (a :: b)
  |_,_=>none
def ofAT:List Aa->List SV
 |[]=>[]
 | x :: l=>(match ofA1 x with
  |some v=>v
  | none=>.top) :: ofAT l
def ofA:Aa->Option SV
 |.agg l=>match ofAL l with
  |some l=>some (.agg l)
  |none=>none
 |.fn f nb []=>some (.fn f nb [])
 |.top=>some .top
 |x=>ofA1 x
def argP(T:An)(G:Gd):Ad->Option PV
 |.t n=>match Ah T.t n with
  |.v x=>some x
  |.cnd tg want _ x=>match G with
   |some (tg',want',_)=>Ab (Nat.beq tg tg') (Ab (eqB want want') (some x) none) none
   |none=>none
 |.c v=>match ofA v with
  |some v=>some (.s v)
  |none=>none
 |.g _=>none
def DE(T:An)(G:Gd):List Ad->Option (List SV)
 |[]=>some []
 |x :: l=>match argP T G x,DE T G l with
  |some (.s v),some r=>some (v :: r)
  |_,_=>none
section
variable {α:Type}
def ckg(G:Gd)(c:Bool)(X:Option α):Option α:=match G with
 |none=>ck c X
 |some (_,_,g)=>ck (!g||c) X
def bdg{U:Type}[Inhabited U](G:Gd)(x:Option U)(K:U->Option α):Option α:=match G with
 |none=>bd x K
 |some (_,_,g)=>bd (gd g x) K
def ckS(G:Gd)(k:IntKind)(n:Int)(K:PV->List Nat->Option α):Option α:=match k with
 |.i8=>ckg G (As .i8 n) (K (.s (.int .i8 n)) [])
 |.i16=>ckg G (As .i16 n) (K (.s (.int .i16 n)) [])
 |.i32=>ckg G (As .i32 n) (K (.s (.int .i32 n)) [])
 |.i64=>ckg G (As .i64 n) (K (.s (.int .i64 n)) [])
 |.u8=>K (.s (.int .u8 (n%256))) []
 |.u16=>K (.s (.int .u16 (n%65536))) []
 |.u32=>K (.s (.int .u32 (n%4294967296))) []
 |.u64=>K (.s (.int .u64 (n%18446744073709551616))) []
def ckl(G:Gd)(lit c:Bool)(X:Option α):Option α:=Ab lit (Ab c X none) (ckg G c X)
def binI(G:Gd)(op:BinOp)(k:IntKind)(a b:Int)(lit:Bool)(K:PV->List Nat->Option α):Option α:=match op with
 |.add=>ckS G k (a+b) K
 |.sub=>ckS G k (a-b) K
 |.mul=>ckS G k (a*b) K
 |.quo=>ckl G lit (!decide (b=0)) (ckS G k (a.tdiv b) K)
 |.rem=>ckl G lit (!decide (b=0)) (K (.s (.int k (a.tmod b))) [])
 |.and=>K (.s (.int k (bitI .and k a b))) []
 |.or=>K (.s (.int k (bitI .or k a b))) []
 |.xor=>K (.s (.int k (bitI .xor k a b))) []
 |.andNot=>K (.s (.int k (bitI .andNot k a b))) []
 |.eql=>K (.s (.bool (decide (a=b)))) []
 |.neq=>K (.s (.bool (!decide (a=b)))) []
 |.lss=>K (.s (.bool (decide (a<b)))) []
 |.leq=>K (.s (.bool (decide (a<=b)))) []
 |.gtr=>K (.s (.bool (decide (b<a)))) []
 |.geq=>K (.s (.bool (decide (b<=a)))) []
 |_=>none
def SJ(G:Gd)(op:BinOp)(k:IntKind)(a b:Int)(lit:Bool)(K:PV->List Nat->Option α):Option α:=match op with
 |.shl=>ckl G lit (decide (0<=b)) (ckS G k (a*2 ^ min b.toNat k.bits) K)
 |.shr=>ckl G lit (decide (0<=b)) (K (.s (.int k (a.fdiv (2 ^ min b.toNat k.bits)))) [])
 |_=>none
def binS(G:Gd)(op:BinOp)(a b:List UInt8)(K:PV->List Nat->Option α):Option α:=match op with
 |.add=>ckg G (decide (List.length a+List.length b<=4611686018427387904)) (K (.s (.str (a++b))) [])
 |.eql=>K (.s (.bool (decide (a=b)))) []
 |.neq=>K (.s (.bool (!decide (a=b)))) []
 |.lss=>K (.s (.bool (Op.bytesLess a b))) []
 |.leq=>K (.s (.bool (Op.bytesLess a b||decide (a=b)))) []
 |.gtr=>K (.s (.bool (!(Op.bytesLess a b||decide (a=b))))) []
 |.geq=>K (.s (.bool (!Op.bytesLess a b))) []
 |_=>none
def oneS:List SV->Bool
 |[]=>true
 |.agg _ :: _=>false
 |.tup _ :: _=>false
 |.top :: _=>false
 |.mpv _ _ _ :: _=>false
 |.ylv _ _ :: _=>false
 |_ :: l=>oneS l
def Y3:Ad->Bool
 |.c _=>true
 |_=>false
def ldS(agg:Bool)(sz:Nat)(l:List SV)(off:Nat):SV:=Ab agg (.agg ((l.drop off).take sz)) (l.getD off .top)
def layS(l:List SV)(off:Nat)(p:List SV):List SV:=l.take off++p++l.drop (off+p.length)
def Jj(T:An)(G:Gd):List SV->List (Nat×Nat×Ad)->Option (List SV)
 |l,[]=>some l
 |l,(off,sz,x) :: r=>match argP T G x with
  |some (.s v)=>match v.cells with
   |some p=>Ab (Nat.beq p.length sz) (Ab (Nat.ble (off+sz) l.length) (Jj T G (layS l off p) r) none) none
   |none=>none
  |_=>none
def eqS:List SV->List SV->Option Bool
 |[],[]=>some true
 |x :: l,y :: m=>match x,y,eqS l m with
  |.int k a,.int k' b,some e=>if k=k' then some (decide (a=b)&&e) else none
  |.bool a,.bool b,some e=>some ((a==b)&&e)
  |.str a,.str b,some e=>some (decide (a=b)&&e)
  |_,_,_=>none
 |_,_=>none
def O5:SV->Nat
 |.bool _=>0
 |.int _ _=>1
 |.str _=>2
 |_=>3
def O6:List SV->List Nat->Bool
 |[],[]=>true
 |x :: l,n :: m=>Ab (Nat.beq (O5 x) n) (O6 l m) false
 |_,_=>false
def bndS(T:An)(G:Gd)(d:Int):Option Ad->Option Int
 |none=>some d
 |some a=>match argP T G a with
  |some (.s (.int _ n))=>some n
  |_=>none
def SK{α:Type}:Nat->List α->Bool
 |_,[]=>true
 |0,_ :: _=>false
 |n+1,_ :: l=>SK n l
def litN:Int->Option Nat
 |.ofNat n=>some n
 |_=>none
def O7(T:An)(G:Gd):List SV->List (Nat×Nat×Ad)->Option (List SV×Nat×Nat×Nat)
 |l,(off,sz,x) :: r=>match argP T G x with
  |some (.vec id st)=>match r with
   |[]=>Ab (Nat.beq sz 1) (Ab (Nat.ble (off+sz) l.length) (some (l,off,id,st)) none) none
   |_=>none
  |some (.s v)=>match v.cells with
   |some p=>Ab (Nat.beq p.length sz) (Ab (Nat.ble (off+sz) l.length) (O7 T G (layS l off p) r) none) none
   |none=>none
  |_=>none
 |_,[]=>none
def v_mv(H:List Fe)(T:An)(G:Gd)(x:Ad)(K:PV->List Nat->Option α):Option α:=match argP T G x,x with
 |some p,_=>K p []
 |none,.c _=>K (.s .top) []
 |none,_=>none
def Jk(T:An)(G:Gd)(n:Nat)(w:Bool)(a:Ad):Option PV:=match G with
 |none=>argP T (some (n,w,w)) a
 |some g=>match argP T (some g) a with
  |some p=>some p
  |none=>argP T (some (n,w,w)) a
def KM(H:List Fe)(T:An)(G:Gd)(c x y:Ad)(K:PV->List Nat->Option α):Option α:=match c with
 |.t n=>match argP T G (.t n) with
  |some (.s (.bool b))=>match Jk T G n true x,Jk T G n false y with
   |some (.s (.bool p)),some (.s (.bool q))=>K (.s (.bool (bif b then p else q))) []
   |some (.s (.int k p)),some (.s (.int k' q))=>Ab (decide (k=k')) (K (.s (.int k (bif b then p else q))) []) none
   |_,_=>none
  |_=>none
 |_=>none
def SL(H:List Fe)(T:An)(G:Gd)(op:BinOp)(bools:Bool)(x y:Ad)(K:PV->List Nat->Option α):Option α:=match argP T G x,argP T G y with
 |some (.s (.int k a)),some (.s (.int k' b))=>Ab (Gb op) (SJ G op k a b (Y3 y) K) (Ab (decide (k=k')) (binI G op k a b (Y3 y) K) none)
 |some (.s (.str a)),some (.s (.str b))=>binS G op a b K
 |some (.s (.bool a)),some (.s (.bool b))=>match bools,op with
  |true,.eql=>K (.s (.bool (a==b))) []
  |true,.neq=>K (.s (.bool (!(a==b)))) []
  |_,_=>none
 |_,_=>none
def SM(H:List Fe)(T:An)(G:Gd)(x:Ad)(K:PV->List Nat->Option α):Option α:=match argP T G x with
 |some (.s (.bool b))=>K (.s (.bool (!b))) []
 |_=>none
def SN(H:List Fe)(T:An)(G:Gd)(x:Ad)(K:PV->List Nat->Option α):Option α:=match argP T G x with
 |some (.s (.int k n))=>ckS G k (-n) K
 |_=>none
def SO(H:List Fe)(T:An)(G:Gd)(agg:Bool)(sz:Nat)(x:Ad)(K:PV->List Nat->Option α):Option α:=match argP T G x with
 |some (.ptr id st off)=>match Ae T.h id with
  |some (st',.box cs)=>Ab (Nat.beq st st') (Ab (Nat.ble (off+sz) cs.length) (Ab (Ab agg true (Nat.beq sz 1)) (K (.s (ldS agg sz cs off)) [id]) none) none) none
  |some (st',.ref p)=>Ab (Nat.beq st st') (Ab (Nat.beq off 0) (Ab (Nat.beq sz 1) (Ab agg none (K p [id])) none) none) none
  |some (st',.rag cs k i s)=>Ab (Nat.beq st st') (Ab agg (Ab (Nat.beq off 0) (Ab (Nat.beq sz cs.length) (K (.ag cs k i s) [id]) none) none) (Ab (Nat.beq sz 1) (Ab (Nat.ble (off+sz) cs.length) (Ab (Nat.beq off k) (K (.vec i s) [id]) (K (.s (ldS false sz cs off)) [id])) none) none)) none
  |_=>none
 |some (.eptr id st j off c x)=>match Ae T.h id with
  |some (st',.vec c' l)=>Ab (Nat.beq st st') (Ab (Nat.ble (off+sz) c.n) (Ab (Ab agg true (Nat.beq sz 1)) (K (.s (ldS agg sz (Cu c x) off)) [id]) none) none) none
  |some (st',.own c' l)=>Ab (Nat.beq st st') (Ab (Nat.ble (off+sz) c.n) (Ab (Ab agg true (Nat.beq sz 1)) (K (.s (ldS agg sz (Cu c x) off)) [id]) none) none) none
  |_=>none
 |some (.s (.cptr l off))=>Ab (Nat.ble (off+sz) l.length) (Ab (Ab agg true (Nat.beq sz 1)) (K (.s (ldS agg sz l off)) []) none) none
 |_=>none
def SP(H:List Fe)(T:An)(G:Gd)(x:Ad)(K:PV->List Nat->Option α):Option α:=match argP T G x with
 |some (.s (.cptr l off))=>K (.s (.cptr l off)) []
 |some (.s (.fn f nb l))=>K (.s (.fn f nb l)) []
 |some (.s (.fnp i z))=>K (.s (.fnp i z)) []
 |some (.s (.optr c x))=>@bdg α c.T c.inh G x fun v=>K (.s (.cptr (Cu c v) 0)) []
 |some (.ptr id st off)=>match Ae T.h id with
  |some (st',_)=>Ab (Nat.beq st st') (K (.ptr id st off) [id]) none
  |none=>none
 |_=>none
def SQ(H:List Fe)(T:An)(G:Gd)(k:IntKind)(x:Ad)(K:PV->List Nat->Option α):Option α:=match argP T G x with
 |some (.s (.int _ n))=>ckS G k n K
 |_=>none
def SS(H:List Fe)(T:An)(G:Gd)(f:FuncId)(nb:Nat)(caps:List Ad)(K:PV->List Nat->Option α):Option α:=match DE T G caps with
 |some l=>K (.s (.fn f nb l)) []
 |none=>none
def ST(H:List Fe)(T:An)(G:Gd)(isStr:Bool)(st:Nat)(x:Ad)(lo hi:Option Ad)(K:PV->List Nat->Option α):Option α:=match bndS T G 0 lo with
 |none=>none
 |some l=>match isStr,argP T G x with
  |false,some (.s (.slc c m))=>match bndS T G (List.length m:Int) hi with
   |some r=>Ab (Nat.beq c.n st) (ckg G (El m l r) (K (.s (.slc c (sub m l r))) [])) none
   |none=>none
  |false,some (.vec id vst)=>match Ae T.h id with
   |some (st',.vec c m)=>match bndS T G (List.length m:Int) hi with
    |some r=>Ab (Nat.beq vst st') (Ab (Nat.beq c.n st) (ckg G (El m l r) (K (.vs id vst l r) [id])) none) none
    |none=>none
   |_=>none
  |true,some (.s (.str s))=>match bndS T G (List.length s:Int) hi with
   |some r=>ckg G (El s l r) (K (.s (.str (sub s l r))) [])
   |none=>none
  |_,_=>none
def SU(H:List Fe)(T:An)(G:Gd)(off:Nat)(x:Ad)(K:PV->List Nat->Option α):Option α:=match argP T G x with
 |some (.ptr id st o)=>match Ae T.h id with
  |some (st',_)=>Ab (Nat.beq st st') (K (.ptr id st (o+off)) [id]) none
  |none=>none
 |some (.eptr id st j o c x)=>match Ae T.h id with
  |some (st',_)=>Ab (Nat.beq st st') (K (.eptr id st j (o+off) c x) [id]) none
  |none=>none
 |some (.s (.cptr l o))=>K (.s (.cptr l (o+off))) []
 |_=>none
def SW(H:List Fe)(T:An)(G:Gd)(st:Nat)(x i:Ad)(K:PV->List Nat->Option α):Option α:=match argP T G x,argP T G i with
 |some (.s (.slc c l)),some (.s (.int _ j))=>Ab (Nat.beq c.n st) (@bdg α c.T c.inh G (at? l j) fun v=>K (.s (.cptr (Cu c v) 0)) []) none
 |some (.vec id vst),some (.s (.int _ j))=>match Ae T.h id with
  |some (st',.vec c l)=>Ab (Nat.beq vst st') (Ab (Nat.beq c.n st) (@bdg α c.T c.inh G (at? l j) fun v=>K (.eptr id vst j 0 c v) [id]) none) none
  |_=>none
 |some (.own id vst),some (.s (.int _ j))=>match Ae T.h id with
  |some (st',.own c l)=>Ab (Nat.beq vst st') (Ab (Nat.beq c.n st) (@bdg α c.T c.inh G (at? l j) fun v=>K (.eptr id vst j 0 c v) [id]) none) none
  |_=>none
 |_,_=>none
def SX(H:List Fe)(T:An)(G:Gd)(nn st:Nat)(x i:Ad)(K:PV->List Nat->Option α):Option α:=match argP T G x,argP T G i with
 |some (.ptr id pst o),some (.s (.int _ j))=>match Ae T.h id,litN j with
  |some (st',_),some n=>Ab (Nat.beq pst st') (Ab (Nat.blt n nn) (K (.ptr id pst (o+n*st)) [id]) none) none
  |_,_=>none
 |some (.s (.cptr l o)),some (.s (.int _ j))=>match litN j with
  |some n=>Ab (Nat.blt n nn) (K (.s (.cptr l (o+n*st))) []) none
  |none=>none
 |_,_=>none
def SY(H:List Fe)(T:An)(G:Gd)(agg:Bool)(off sz:Nat)(x:Ad)(K:PV->List Nat->Option α):Option α:=match argP T G x with
 |some (.ag cs k id st)=>Ab (Nat.ble (off+sz) cs.length) (Ab agg none (Ab (Nat.beq sz 1) (Ab (Nat.beq off k) (K (.vec id st) []) (K (.s (ldS agg sz cs off)) [])) none)) none
 |some (.s (.agg l))=>Ab (Nat.ble (off+sz) l.length) (Ab (Ab agg true (Nat.beq sz 1)) (K (.s (ldS agg sz l off)) []) none) none
 |_=>none
def SZ(H:List Fe)(T:An)(G:Gd)(i:Nat)(x:Ad)(K:PV->List Nat->Option α):Option α:=match argP T G x with
 |some (.s (.tup l))=>Ab (Nat.blt i l.length) (K (.s (l.getD i .top)) []) none
 |_=>none
def Ta(H:List Fe)(T:An)(G:Gd)(x i:Ad)(K:PV->List Nat->Option α):Option α:=match argP T G x,argP T G i with
 |some (.s (.str s)),some (.s (.int _ j))=>ckg G (CH s j) (K (.s (.int .u8 (Dj s j))) [])
 |_,_=>none
def ctOf:SV->CT
 |.int k _=>.int k
 |.bool _=>.bool
 |.slc c _=>.slc c
 |.optr c _=>.ptr c
 |.fnp i _=>.fn i
 |_=>.str
def ofCs(c:CT):List SV->Option (List c.T)
 |[]=>some []
 |v :: l=>match ofLf c v,ofCs c l with
  |some x,some r=>some (x :: r)
  |_,_=>none
def Tb(H:List Fe)(T:An)(G:Gd)(agg:Bool)(n sz:Nat)(x i:Ad)(K:PV->List Nat->Option α):Option α:=match argP T G x,argP T G i with
 |some (.s (.agg (v :: l))),some (.s (.int _ j))=>match ofCs (ctOf v) (v :: l) with
  |some m=>Ab agg none (Ab (Nat.beq sz 1) (Ab (Nat.beq n m.length) (@bdg α (ctOf v).T (ctOf v).inh G (at? m j) fun y=>K (.s (lfT (ctOf v) y)) []) none) none)
  |none=>none
 |_,_=>none
def Tc(H:List Fe)(T:An)(G:Gd)(ng:Bool)(x:Ad)(K:PV->List Nat->Option α):Option α:=match argP T G x with
 |some (.s (.optr c x))=>K (.s (.bool (Ab ng (Option.isSome x) (!Option.isSome x)))) []
 |some (.s .nilp)=>K (.s (.bool (!ng))) []
 |some (.s (.cptr _ _))=>K (.s (.bool ng)) []
 |_=>none
def keq:(c:CT)->c.T->c.T->Bool
 |.int _=>fun(a b:Int)=>decide (a=b)
 |.bool=>fun(a b:Bool)=>a==b
 |.str=>fun(a b:List UInt8)=>decide (a=b)
 |.us i=>Tab.ke i
 |_=>fun _ _=>false
def kkd:CT->Option Nat
 |.bool=>some 0
 |.int _=>some 1
 |.str=>some 2
 |.us i=>match Tab.kk i with
  |some l=>Ab (lt3 l) (some (4+encK l)) none
  |none=>none
 |_=>none
def isK(c:CT)(n:Nat):Bool:=match kkd c with
 |some m=>Nat.beq m n
 |none=>false
def Td(H:List Fe)(T:An)(G:Gd)(kd:Nat)(cok:Bool)(zero:Aa)(x k:Ad)(K:PV->List Nat->Option α):Option α:=match argP T G x,argP T G k,ofA zero with
 |some (.mp id mst),some (.s key),some z=>match Ae T.h id with
  |some (st',.map ck cv l)=>match ofW ck key,ofW cv z with
   |some a,some d=>Ab (Nat.beq mst st') (Ab (isK ck kd) (Ab cok (K (.s (.tup [wT cv (Option.getD (mget (keq ck) l a) d),.bool (Option.isSome (mget (keq ck) l a))])) [id]) (K (.s (wT cv (Option.getD (mget (keq ck) l a) d))) [id])) none) none
   |_,_=>none
  |_=>none
 |_,_,_=>none
def Te(H:List Fe)(T:An)(G:Gd)(x:Ad)(K:PV->List Nat->Option α):Option α:=match argP T G x with
 |some (.mp id mst)=>match Ae T.h id with
  |some (st',.map _ _ l)=>Ab (Nat.beq mst st') (K (.s (.int .i64 (List.length l:Int))) [id]) none
  |_=>none
 |_=>none
def Tf(H:List Fe)(T:An)(G:Gd)(isStr:Bool)(x:Ad)(K:PV->List Nat->Option α):Option α:=match isStr,argP T G x with
 |false,some (.s (.slc _ l))=>K (.s (.int .i64 (List.length l:Int))) []
 |false,some (.s .nil)=>K (.s (.int .i64 0)) []
 |false,some (.vec id vst)=>match Ae T.h id with
  |some (st',.vec _ l)=>Ab (Nat.beq vst st') (K (.s (.int .i64 (List.length l:Int))) [id]) none
  |_=>none
 |false,some (.own id vst)=>match Ae T.h id with
  |some (st',.own _ l)=>Ab (Nat.beq vst st') (K (.s (.int .i64 (List.length l:Int))) [id]) none
  |_=>none
 |true,some (.s (.str s))=>K (.s (.int .i64 (List.length s:Int))) []
 |_,_=>none
def Tg(H:List Fe)(T:An)(G:Gd)(sh:List Nat)(ng:Bool)(x y:Ad)(K:PV->List Nat->Option α):Option α:=match argP T G x,argP T G y with
 |some (.s (.agg l)),some (.s (.agg m))=>match eqS l m with
  |some e=>Ab (O6 l sh) (K (.s (.bool (Ab ng (!e) e))) []) none
  |none=>none
 |_,_=>none
def Th(H:List Fe)(T:An)(G:Gd)(x y:Ad)(K:PV->List Nat->Option α):Option α:=match argP T G x,argP T G y with
 |some (.s (.int k a)),some (.s (.int k' b))=>Ab (decide (k=k')) (K (.s (.int k (Max.max a b))) []) none
 |_,_=>none
def Ti(H:List Fe)(T:An)(G:Gd)(x y:Ad)(K:PV->List Nat->Option α):Option α:=match argP T G x,argP T G y with
 |some (.s (.int k a)),some (.s (.int k' b))=>Ab (decide (k=k')) (K (.s (.int k (Min.min a b))) []) none
 |_,_=>none
def Tj(H:List Fe)(T:An)(G:Gd)(x y z:Ad)(K:PV->List Nat->Option α):Option α:=match argP T G x,argP T G y,argP T G z with
 |some (.s (.int k a)),some (.s (.int k' b)),some (.s (.int k2 c))=>Ab (decide (k=k'/\k=k2)) (K (.s (.int k (Min.min (Min.min a b) c))) []) none
 |_,_,_=>none
def Tk(H:List Fe)(T:An)(G:Gd)(zero:List Aa)(ps:List (Nat×Nat×Ad))(K:PV->List Nat->Option α):Option α:=match ofAL zero with
 |some z=>match Jj T G z ps with
  |some l=>K (.s (.agg l)) []
  |none=>match O7 T G z ps with
   |some (l,k,id,st)=>K (.ag l k id st) []
   |none=>none
 |none=>none
def Tl(H:List Fe)(T:An)(G:Gd)(x:Ad)(K:PV->List Nat->Option α):Option α:=match argP T G x with
 |some (.s (.slc (.int .u8) l))=>K (.s (.str (CS l))) []
 |some (.vec id vst)=>match Ae T.h id with
  |some (st',.vec (.int .u8) l)=>Ab (Nat.beq vst st') (K (.s (.str (CS l))) [id]) none
  |_=>none
 |_=>none
def Y4[TabOk](H:List Fe)(T:An)(G:Gd)(f:FuncId)(ags:List Ad)(K:PV->List Nat->Option α):Option α:=match Jg f H,ags with
 |some M,[x]=>match argP T G x with
  |some (.mp id st)=>K (.kys id st M.g) []
  |_=>none
 |_,_=>none
def Y5[TabOk](H:List Fe)(T:An)(G:Gd)(f:FuncId)(ags:List Ad)(K:PV->List Nat->Option α):Option α:=match Jh f H,ags with
 |some C,x :: l=>match argP T G x,DE T G l with
  |some (.kys id st g),some vs=>match Ae T.h id,DD H C.a C.p vs with
   |some (st',.map k v m),some r=>match KH k v C.k C.v m with
    |some m=>Ab (Nat.beq st st') (Ab (Nat.beq g C.g) (bdg G (C.F m r) fun x=>K (.s (retT C.r x)) [id]) none) none
    |none=>none
   |_,_=>none
  |_,_=>none
 |_,_=>none
def Y6[TabOk](H:List Fe)(T:An)(G:Gd)(f:FuncId)(ags:List Ad)(K:PV->List Nat->Option α):Option α:=match KL f H,DE T G ags with
 |some Q,some vs=>match DD H Q.a Q.p vs with
  |some r=>bdg G (Q.F r) fun y=>K (.s (.fn Q.S.f 0 (prmS Q.S.a Q.S.p y))) []
  |none=>none
 |_,_=>none
def O8[TabOk](H:List Fe)(T:An)(G:Gd)(f:FuncId)(ags:List Ad)(K:PV->List Nat->Option α):Option α:=match G7 f H with
 |some C=>match DE T G ags with
  |some vs=>match DD H C.a C.p vs with
   |some r=>bdg G (C.F r) fun x=>K (.s (retT C.r x)) []
   |none=>none
  |none=>none
 |none=>match Jh f H with
  |some _=>Y5 H T G f ags K
  |none=>match Jg f H with
   |some _=>Y4 H T G f ags K
   |none=>Y6 H T G f ags K
@[reducible] def inhR(i:Nat):Inhabited (TabT.FR i):=⟨cast (Tab.eR i) (rowInh (Tab.fr i)).default⟩
def O9[TabOk](H:List Fe)(T:An)(G:Gd)(x:Ad)(ags:List Ad)(K:PV->List Nat->Option α):Option α:=match argP T G x,DE T G ags with
 |some (.s (.fn f nb caps)),some vs=>match G7 f H with
  |some C=>match DD H C.a C.p (fnArgs nb vs caps) with
   |some r=>bdg G (C.F r) fun x=>K (.s (retT C.r x)) []
   |none=>none
  |none=>none
 |some (.s (.fnp i z)),some vs=>match KI (Tab.fa i) vs with
  |some r=>@bdg α (TabT.FR i) (inhR i) G (z.g (cast (Tab.eA i) r)) fun y=>K (.s (retT (Tab.fr i) (cast (Tab.eR i).symm y))) []
  |none=>none
 |_,_=>none
def KN(c:CT)(st:Nat):Nat->List SV->Option (List c.T)
 |0,_=>some []
 |n+1,l=>match Ew c (l.take st),KN c st n (l.drop st) with
  |some x,some r=>some (x :: r)
  |_,_=>none
def Bm(s:Nat):List (Nat×CT)->CT
 |[]=>.bool
 |p :: l=>Ab (Nat.beq p.1 s) p.2 (Bm s l)
def Tm(ty:List (Nat×CT))(T:An)(G:Gd)(s st nn:Nat)(zero:List Aa)(ps:List (Nat×Nat×Ad))(K:PV->List Nat->Option α):Option α:=match ofAL zero with
 |some z=>match Jj T G z ps with
  | some l=>Ab (Nat.beq l.length (nn*st)) (Ab (Nat.beq (Bm s ty).n st) (Ab (Nat.blt 0 st) (Ab (inR T.b s) (match KN (Bm s ty) st nn l with
   |some m=>K (.s (.slc (Bm s ty) m)) [s]
   | none=>none) none) none) none) none
  |none=>none
 |none=>none
def opV[TabOk](H:List Fe)(ty:List (Nat×CT))(T:An)(G:Gd)(o:Ak)(K:PV->List Nat->Option α):Option α:=match o with
 |.mv x=>v_mv H T G x K
 |.pick c x y=>KM H T G c x y K
 |.bin op bools x y=>SL H T G op bools x y K
 |.not x=>SM H T G x K
 |.neg x=>SN H T G x K
 |.load agg sz x=>SO H T G agg sz x K
 |.nilck x=>SP H T G x K
 |.conv k x=>SQ H T G k x K
 |.mkfn f nb caps=>SS H T G f nb caps K
 |.slice isStr st x lo hi=>ST H T G isStr st x lo hi K
 |.faddr off x=>SU H T G off x K
 |.iaddrS st x i=>SW H T G st x i K
 |.iaddrA nn st x i=>SX H T G nn st x i K
 |.field agg off sz x=>SY H T G agg off sz x K
 |.extract i x=>SZ H T G i x K
 |.sidx x i=>Ta H T G x i K
 |.len isStr x=>Tf H T G isStr x K
 |.aidx agg n sz x i=>Tb H T G agg n sz x i K
 |.mlook kd cok zero x k=>Td H T G kd cok zero x k K
 |.mlen x=>Te H T G x K
 |.isnilp ng x=>Tc H T G ng x K
 |.eqagg sh ng x y=>Tg H T G sh ng x y K
 |.max x y=>Th H T G x y K
 |.min x y=>Ti H T G x y K
 |.min3 x y z=>Tj H T G x y z K
 |.build zero ps=>Tk H T G zero ps K
 |.b2s x=>Tl H T G x K
 |.fslice s st nn zero ps=>Tm ty T G s st nn zero ps K
 |.callf f ags=>O8 H T G f ags K
 |.callv x ags=>O9 H T G x ags K
 |_=>none
def srcS(T:An)(c:CT):PV->Option (List c.T×List Nat)
 |.s (.slc c' l)=>match By c' c l with
  |some l=>some (l,[])
  |none=>none
 |.vec id vst=>match Ae T.h id with
  | some (st',.vec c' l)=>Ab (Nat.beq vst st') (match By c' c l with
   |some l=>some (l,[id])
   | none=>none) none
  |_=>none
 |_=>none
def Y7(ty:List (Nat×CT))(T:An)(s:Nat)(zero:List Aa)(K:PV->Nat->TO->Bool->List Nat->Option α):Option α:=K (.ptr s T.nx 0) s (.box (ofAT zero)) false [s]
def Tn(ty:List (Nat×CT))(T:An)(s:Nat)(x:Ad)(K:PV->Nat->TO->Bool->List Nat->Option α):Option α:=match argP T none x with
 |some (.s v)=>match v.cells with
  |some l=>K (.ptr s T.nx 0) s (.box l) false [s]
  |none=>none
 |some p=>Ab (Fi p) (K (.ptr s T.nx 0) s (.ref p) false [s]) none
 |none=>none
def Tp(ty:List (Nat×CT))(T:An)(s st nn:Nat)(zero:List Aa)(ps:List (Nat×Nat×Ad))(K:PV->Nat->TO->Bool->List Nat->Option α):Option α:=match ofAL zero with
 |some z=>match Jj T none z ps with
  | some l=>Ab (Nat.beq l.length (nn*st)) (Ab (Nat.beq (Bm s ty).n st) (Ab (Nat.blt 0 st) (match KN (Bm s ty) st nn l with
   |some m=>K (.vec s T.nx) s (.vec (Bm s ty) m) false [s]
   | none=>none) none) none) none
  |none=>none
 |none=>none
def Tq(ty:List (Nat×CT))(T:An)(s st bytes:Nat)(zero:List Aa)(x:Ad)(K:PV->Nat->TO->Bool->List Nat->Option α):Option α:=match ofAL zero,argP T none x with
 | some z,some (.s (.int _ n))=>Ab (Nat.beq (Bm s ty).n st) (Ab (Nat.blt 0 st) (match Ew (Bm s ty) z with
  |some e=>ck (mkOk n bytes) (K (.vec s T.nx) s (.vec (Bm s ty) (List.replicate (Int.toNat n) e)) false [s])
  | none=>none) none) none
 |_,_=>none
def Tr(ty:List (Nat×CT))(T:An)(s:Nat)(x:Ad)(K:PV->Nat->TO->Bool->List Nat->Option α):Option α:=match argP T none x with
 |some (.s (.str b))=>K (.s (.slc (.int .u8) (bytes b))) s .gone false [s]
 |_=>none
def Ts(ty:List (Nat×CT))(T:An)(sz:Nat)(x y:Ad)(K:PV->Nat->TO->Bool->List Nat->Option α):Option α:=match argP T none x,argP T none y with
 |some (.ptr id st off),some (.s v)=>match Ae T.h id,v.cells with
  |some (st',.box cs),some p=>Ab (Nat.beq st st') (Ab (Nat.beq p.length sz) (Ab (Nat.ble (off+sz) cs.length) (Ab (oneS p) (K (.s .top) id (.box (layS cs off p)) true [id]) none) none) none) none
  |some (st',.ref _),some p=>Ab (Nat.beq st st') (Ab (Nat.beq p.length sz) (Ab (Nat.beq sz 1) (Ab (Nat.beq off 0) (Ab (oneS p) (K (.s .top) id (.box p) true [id]) none) none) none) none) none
  |_,_=>none
 |some (.ptr id st 0),some (.ag cs k i s)=>match Ae T.h id with
  |some (st',.box cs')=>Ab (Nat.beq st st') (Ab (Nat.beq cs.length sz) (Ab (Nat.beq cs'.length sz) (Ab (oneS cs) (Ab (Nat.beq i id) none (K (.s .top) id (.rag cs k i s) true [id])) none) none) none) none
  |_=>none
 |some (.eptr id st j off c x),some (.s v)=>match Ae T.h id,v.cells with
  | some (st',.vec c' l),some p=>Ab (Nat.beq st st') (Ab (Nat.beq p.length sz) (Ab (Nat.ble (off+sz) c.n) (match Ew c' (layS (Cu c x) off p) with
   |some e=>K (.s .top) id (.vec c' (List.set l (Int.toNat j) e)) true [id]
   | none=>none) none) none) none
  | some (st',.own c' l),some p=>Ab (Nat.beq st st') (Ab (Nat.beq p.length sz) (Ab (Nat.ble (off+sz) c.n) (match Ew c' (layS (Cu c x) off p) with
   |some e=>K (.s .top) id (.own c' (List.set l (Int.toNat j) e)) true [id]
   | none=>none) none) none) none
  |_,_=>none
 | some (.ptr id st off),some p=>Ab (Fi p) (Ab (Nat.beq sz 1) (Ab (Nat.beq off 0) (match Ae T.h id with
  |some (st',.box cs)=>Ab (Nat.beq st st') (Ab (Nat.beq cs.length 1) (K (.s .top) id (.ref p) true [id]) none) none
  |some (st',.ref _)=>Ab (Nat.beq st st') (K (.s .top) id (.ref p) true [id]) none
  | _=>none) none) none) none
 |_,_=>none
def Tt(ty:List (Nat×CT))(T:An)(s st bytes:Nat)(x y:Ad)(K:PV->Nat->TO->Bool->List Nat->Option α):Option α:=match argP T none x,argP T none y with
 |some (.s .nil),some q=>match srcS T (Bm s ty) q with
  |some (a :: l,rd)=>Ab (Nat.beq (Bm s ty).n st) (Ab (Nat.blt 0 st) (Ab (SK 64 l) (Ab (Nat.ble bytes 1000000) (K (.own s T.nx) s (.own (Bm s ty) (a :: l)) false (s :: rd)) none) none) none) none
  |_=>none
 |some (.own id vst),some q=>match Ae T.h id with
  |some (st',.own c m)=>match srcS T c q with
   | some (l,rd)=>Ab (Nat.beq vst st') (Ab (Nat.beq id s) (Ab (Nat.beq c.n st) (Ab (Nat.blt 0 st) (Ab (memN id rd) none
     (ck (decide (List.length (m++l)*bytes<=140737488355328)) (K (.own id T.nx) id (.own c (m++l)) false (id :: rd)))) none) none) none) none
   |none=>none
  |_=>none
 |some (.vec id vst),some q=>match Ae T.h id with
  |some (st',.vec c m)=>match srcS T c q with
   | some (l,rd)=>Ab (Nat.beq vst st') (Ab (Nat.beq c.n st) (Ab (Nat.blt 0 st)
     (ck (decide (List.length (m++l)*bytes<=140737488355328)) (K (.vec id T.nx) id (.vec c (m++l)) false (id :: rd))) none) none) none
   |none=>none
  |_=>none
 |_,_=>none
def Tu(ty:List (Nat×CT))(T:An)(st0:Nat)(x y:Ad)(K:PV->Nat->TO->Bool->List Nat->Option α):Option α:=match argP T none x,argP T none y with
 |some (.vs id vst lo hi),some q=>match Ae T.h id with
  |some (st',.vec c m)=>match srcS T c q with
   | some (l,rd)=>Ab (Nat.beq vst st') (Ab (Nat.beq c.n st0) (Ab (memN id rd) none
     (ck (El m lo hi) (K (.s (.int .i64 (min (List.length l) (Int.toNat (hi-lo)):Int))) id (.vec c (BQ m (Int.toNat lo) (List.take (Int.toNat (hi-lo)) l))) true (id :: rd)))) none) none
   |none=>none
  |_=>none
 |_,_=>none
def Tv(ty:List (Nat×CT))(T:An)(zero:List Aa)(x:Ad)(K:PV->Nat->TO->Bool->List Nat->Option α):Option α:=match ofAL zero,argP T none x with
 |some z,some (.vs id vst lo hi)=>match Ae T.h id with
  |some (st',.vec c m)=>match Ew c z with
   |some e=>Ab (Nat.beq vst st') (ck (El m lo hi) (K (.s (.tup [])) id (.vec c (BQ m (Int.toNat lo) (List.replicate (Int.toNat (hi-lo)) e))) true [id])) none
   |none=>none
  |_=>none
 |_,_=>none
def Y8(ty:List (Nat×CT))(T:An)(s:Nat)(K:PV->Nat->TO->Bool->List Nat->Option α):Option α:=K (.mp s T.nx) s (.map (Bm s ty) (Bm (s+10000) ty) []) false [s]
def Tw(ty:List (Nat×CT))(T:An)(kd:Nat)(x k v:Ad)(K:PV->Nat->TO->Bool->List Nat->Option α):Option α:=match argP T none x,argP T none k,argP T none v with
 |some (.mp id mst),some (.s key),some (.s val)=>match Ae T.h id with
  |some (st',.map ck cv l)=>match ofW ck key,ofW cv val with
   |some a,some b=>Ab (Nat.beq mst st') (Ab (isK ck kd) (Ab (exV val) (K (.s .top) id (.map ck cv (mput (keq ck) l a b)) true [id]) none) none) none
   |_,_=>none
  |_=>none
 |_,_,_=>none
def opO(ty:List (Nat×CT))(T:An)(o:Ak)(K:PV->Nat->TO->Bool->List Nat->Option α):Option α:=match o with
 |.alloc s zero=>Y7 ty T s zero K
 |.box s x=>Tn ty T s x K
 |.bslice s st nn zero ps=>Tp ty T s st nn zero ps K
 |.mks s st bytes zero x=>Tq ty T s st bytes zero x K
 |.s2b s x=>Tr ty T s x K
 |.store sz x y=>Ts ty T sz x y K
 |.append s st bytes x y=>Tt ty T s st bytes x y K
 |.copy st0 x y=>Tu ty T st0 x y K
 |.clear zero x=>Tv ty T zero x K
 |.mkmap s=>Y8 ty T s K
 |.mupd kd x k v=>Tw ty T kd x k v K
 |_=>none
end
def Fj:Ak->Bool
 |.alloc _ _ | .box _ _ | .bslice _ _ _ _ _ | .mks _ _ _ _ _ | .s2b _ _ | .store _ _ _ | .append _ _ _ _ _ | .copy _ _ _ | .clear _ _ | .mkmap _ | .mupd _ _ _ _=>true
 |_=>false
def DF(id st nx:Nat):PV->PV
 |.ptr i s off=>Ab (Nat.beq i id) (Ab (Nat.beq s st) (.ptr i nx off) (.ptr i s off)) (.ptr i s off)
 |.vec i s=>Ab (Nat.beq i id) (Ab (Nat.beq s st) (.vec i nx) (.vec i s)) (.vec i s)
 |.vs i s lo hi=>Ab (Nat.beq i id) (Ab (Nat.beq s st) (.vs i nx lo hi) (.vs i s lo hi)) (.vs i s lo hi)
 |.own i s=>Ab (Nat.beq i id) (Ab (Nat.beq s st) (.own i nx) (.own i s)) (.own i s)
 |.mp i s=>Ab (Nat.beq i id) (Ab (Nat.beq s st) (.mp i nx) (.mp i s)) (.mp i s)
 |.ag cs k i s=>Ab (Nat.beq i id) (Ab (Nat.beq s st) (.ag cs k i nx) (.ag cs k i s)) (.ag cs k i s)
 |x=>x
def KO(id st nx:Nat):TO->TO
 |.ref p=>.ref (DF id st nx p)
 |.rag cs k i s=>Ab (Nat.beq i id) (Ab (Nat.beq s st) (.rag cs k i nx) (.rag cs k i s)) (.rag cs k i s)
 |o=>o
def G9(id st nx:Nat):List (Nat×Nat×TO)->List (Nat×Nat×TO)
 |[]=>[]
 |(i,s,o) :: l=>(i,s,KO id st nx o) :: G9 id st nx l
def HL(id st nx:Nat):List (Nat×TV)->List (Nat×TV)
 |[]=>[]
 |(i,.v x) :: l=>(i,.v (DF id st nx x)) :: HL id st nx l
 |p :: l=>p :: HL id st nx l
def putS(T:An)(d:Option Tmp)(v:TV):An:=match d with
 |some d=>⟨(d,v) :: T.t,T.h,T.nx,T.n,T.gs,d :: T.w,T.wo,T.b,T.rf⟩
 |none=>T
def putO(T:An)(id:Nat)(o:TO)(re:Bool):An :=
 ⟨Ab re (match Ae T.h id with
  |some (st,_)=>HL id st T.nx T.t
  |none=>T.t) T.t,(id,T.nx,o) :: Ab re (match Ae T.h id with
  |some (st,_)=>G9 id st T.nx T.h
  | none=>T.h) T.h,T.nx+1,T.n,T.gs,T.w,id :: T.wo,T.b,T.rf⟩
def addG(T:An)(tg:Nat):An:=⟨T.t,T.h,T.nx,T.n,tg :: T.gs,T.w,T.wo,T.b,T.rf⟩
def allA(T:An)(G:Gd):List Ad->Bool
 |[]=>true
 |a :: l=>match argP T G a with
  |some _=>allA T G l
  |none=>false
def gdT(want:Bool):TV->Option Bool
 |.v (.s (.bool b))=>some (Ab want b (!b))
 |.cnd _ _ g (.s (.bool b))=>some (g&&Ab want b (!b))
 |_=>none
def allO(T:An)(G:Gd):Ak->Bool
 |.pick c _ _=>allA T G [c]
 |o=>allA T G o.args
def Bl(T:An):Option Tmp->Bool
 |some d=>Ab (Nat.blt d T.n) (!memN d T.gs) false
 |none=>true
def KP:TO->Bool
 |.out _ _ _=>false
 |_=>true
def Ea[TabOk]{α:Type}(H:List Fe)(ty:List (Nat×CT))(T:An)(o:Av)(K:An->List Nat->Option Nat->Option α):Option α:=match o.guard with
 |none=>Ab (Bl T o.dst) (Ab (Fj o.op) (Ab (O4 T.b o.op) (opO ty T o.op fun v id ob re rd=>Ab (KP ob) (K (putS (putO T id ob re) o.dst (.v v)) rd (some id)) none) none) (opV H ty T none o.op fun v rd=>K (putS T o.dst (.v v)) rd none)) none
 |some (tg,want)=>match gdT want (Ah T.t tg) with
  | some g=>Ab (Bl (addG T tg) o.dst) (Ab (Fj o.op) none (Ab (allO T (some (tg,want,g)) o.op)
    (opV H ty T (some (tg,want,g)) o.op fun v rd=>K (putS (addG T tg) o.dst (.cnd tg want g v)) rd none) none)) none
  |none=>none
def Eb:List (Nat×TV)->List (Nat×TV)
 |[]=>[]
 |(i,.cnd _ _ _ _) :: l=>(i,.v (.s .top)) :: Eb l
 |p :: l=>p :: Eb l
def endT(T:An):An:=match T.gs with
 |[]=>T
 |_=>⟨Eb T.t,T.h,T.nx,T.n,[],T.w,T.wo,T.b,T.rf⟩
def frzP(id st:Nat)(o:TO):PV->PV
 | .ptr i s off=>Ab (Nat.beq i id) (Ab (Nat.beq s st) (match o with
  |.box cs=>.s (.cptr cs off)
  | _=>.ptr i s off) (.ptr i s off)) (.ptr i s off)
 | .vec i s=>Ab (Nat.beq i id) (Ab (Nat.beq s st) (match o with
  |.vec c l=>.s (.slc c l)
  | _=>.vec i s) (.vec i s)) (.vec i s)
 | .own i s=>Ab (Nat.beq i id) (Ab (Nat.beq s st) (match o with
  |.own c l=>.s (.slc c l)
  | _=>.own i s) (.own i s)) (.own i s)
 | .ag cs k i s=>Ab (Nat.beq i id) (Ab (Nat.beq s st) (match o with
  |.vec c l=>.s (.agg (cs.set k (.slc c l)))
  | _=>.ag cs k i s) (.ag cs k i s)) (.ag cs k i s)
 |x=>x
def Jl(id st:Nat):PV->Bool
 |.ptr i s _=>Ab (Nat.beq i id) (Nat.beq s st) false
 |.vec i s=>Ab (Nat.beq i id) (Nat.beq s st) false
 |.own i s=>Ab (Nat.beq i id) (Nat.beq s st) false
 |.ag _ _ i s=>Ab (Nat.beq i id) (Nat.beq s st) false
 |_=>false
def frzT(id st:Nat)(o:TO):List (Nat×TV)->List (Nat×TV)
 |[]=>[]
 |(i,.v x) :: l=>(i,.v (frzP id st o x)) :: frzT id st o l
 |p :: l=>p :: frzT id st o l
def frzW(id st:Nat):List (Nat×TV)->List Nat->List Nat
 |[],w=>w
 |(i,.v x) :: l,w=>Ab (Jl id st x) (i :: frzW id st l w) (frzW id st l w)
 |_ :: l,w=>frzW id st l w
def frzO(id st:Nat)(o:TO):TO->TO
 |.ref p=>match frzP id st o p with
  |.s v=>.box [v]
  |q=>.ref q
 | .rag cs k i s=>Ab (Nat.beq i id) (Ab (Nat.beq s st) (match o with
  |.vec c l=>.box (cs.set k (.slc c l))
  | _=>.rag cs k i s) (.rag cs k i s)) (.rag cs k i s)
 |x=>x
def frzH(id st:Nat)(o:TO):List (Nat×Nat×TO)->List (Nat×Nat×TO)
 |[]=>[]
 |(i,s,x) :: l=>(i,s,frzO id st o x) :: frzH id st o l
def KQ(id st:Nat):TO->Bool
 |.ref p=>Jl id st p
 |.rag _ _ i s=>Ab (Nat.beq i id) (Nat.beq s st) false
 |_=>false
def Fl(id st:Nat):List (Nat×Nat×TO)->List Nat->List Nat
 |[],w=>w
 |(i,_,x) :: l,w=>Ab (KQ id st x) (i :: Fl id st l w) (Fl id st l w)
def frz1(T:An)(id:Nat):An:=match Ae T.h id with
 |some (st,.gone)=>T
 |some (st,.ref _)=>T
 |some (st,.rag _ _ _ _)=>T
 |some (st,.map _ _ _)=>T
 |some (st,.out _ _ _)=>T
 |some (st,o)=>⟨frzT id st o T.t,(id,T.nx,.gone) :: frzH id st o T.h,T.nx+1,T.n,T.gs,frzW id st T.t T.w,id :: Fl id st T.h T.wo,T.b,T.rf⟩
 |none=>T
def frzA(T:An):List Nat->An
 |[]=>T
 |id :: l=>frzA (frz1 T id) l
def refB(T:An)(id:Nat):List Nat:=match Ae T.h id with
 |some (_,.ref (.own i _))=>[i,id]
 |some (_,.ref (.vec i _))=>[i,id]
 |some (_,.rag _ _ i _)=>[i,id]
 |_=>[id]
def refA(T:An)(bx vc:Bool):Ad->List Nat
 |.t n=>match Ah T.t n with
  |.v (.own id _)=>[id]
  |.v (.vec id _)=>Ab vc [id] []
  |.v (.ag _ _ id _)=>Ab vc [id] []
  |.v (.ptr id _ _)=>Ab bx (refB T id) []
  |_=>[]
 |_=>[]
def zj(T:An):Ad->Bool
 |.t n=>match Ah T.t n with
  |.v (.ptr id _ _)=>match Ae T.h id with
   |some (_,.box [_])=>true
   |some (_,.ref _)=>true
   |_=>false
  |_=>false
 |_=>false
def isAg(T:An):Ad->Bool
 |.t n=>match Ah T.t n with
  |.v (.ag _ _ _ _)=>true
  |_=>false
 |_=>false
def DG(T:An)(bx vc:Bool):List Ad->List Nat
 |[]=>[]
 |x :: l=>refA T bx vc x++DG T bx vc l
def appF(T:An)(s:Nat)(x:Ad)(l:List Nat):List Nat:=match argP T none x with
 |some (.s .nil)=>match Ae T.h s with
  |some (_,.own _ _)=>s :: l
  |_=>l
 |_=>l
def zk(T:An):Ak->List Nat
 |.append s _ _ x y=>appF T s x (refA T false false y)
 |.b2s x | .slice _ _ x _ _ | .copy _ _ x=>refA T false false x
 |.callf _ l=>DG T false true l
 |.callv x l=>DG T false true l
 |.mkfn _ _ l=>DG T true true l
 |.build _ ps=>DG T false true (ps.map fun p=>p.2.2)
 |.bslice _ _ _ _ ps=>DG T false true (ps.map fun p=>p.2.2)
 |.mupd _ _ _ y=>refA T false true y
 |.store _ x y=>Ab (zj T x) [] (Ab (isAg T y) [] (refA T false true y))
 |_=>[]
def mvF:List (Nat×Ad)->Ad->Ad
 |(d,y) :: l,.t n=>Ab (Nat.beq d n) y (mvF l (.t n))
 |_,x=>x
def drwF(T:An):List (Nat×Ad)->List Av->List Nat
 |_,[]=>[]
 |m,o :: l=>match o.guard,o.op with
  |none,.append s _ _ x _=>appF T s (mvF m x) (drwF T m l)
  |none,.mv y=>match o.dst with
   |some d=>drwF T ((d,mvF m y) :: m) l
   |none=>drwF T m l
  |_,_=>drwF T m l
def isY(T:An)(o:Av):Bool:=match o.guard,o.op with
 |none,.callv x _=>match argP T none x with
  |some (.yl _ _)=>true
  |_=>false
 |_,_=>false
def OA(i j:Nat)(l:List (TabT.FA i)):Option (List (TabT.FA j)):=if h:i=j then some (h▸l) else none
def yldT{α:Type}(T:An)(o:Av)(K:An->Option α):Option α:=match o.op with
 |.callv x ags=>match argP T none x,DE T none ags,Ae T.h 1899 with
  |some (.yl i st),some vs,some (_,.out j l false)=>match OA j i l,KI (Tab.fa i) vs with
   | some m,some r=>Ab (Bl T o.dst) (bd (st (m++[cast (Tab.eA i) r])) fun s=>ite' s
     (K (putS (putO T 1899 (.out i (m++[cast (Tab.eA i) r]) true) false) o.dst (.v (.s (.bool false)))))
     (K (putS (putO T 1899 (.out i (m++[cast (Tab.eA i) r]) false) false) o.dst (.v (.s (.bool true)))))) none
   |_,_=>none
  |_,_,_=>none
 |_=>none
def isW(H:List Fe)(o:Av):Bool:=match o.guard,o.op with
 |none,.callf f (_ :: _)=>match Ji f H with
  |some _=>true
  |none=>match HI f H with
   |some _=>true
   |none=>match HJ f H with
    |some _=>true
    |none=>match G8 f H with
     |some _=>true
     |none=>false
 |_,_=>false
def OB(H:List Fe)(T:An)(o:Av):List Nat:=Ab (isW H o) (match o.op with
 |.callf f (x :: l)=>match G8 f H with
  |some _=>DG T false true (x :: l)
  |none=>DG T false true l
 | _=>[]) (zk T o.op)
def srcT(T:An)(c:CT)(s:Nat)(x:Ad):Option (List c.T):=match argP T none x with
 |some (.s v)=>ofSl c v
 |some (.own id st)=>match Ae T.h id with
  |some (st',.own c' m)=>Ab (Nat.beq st st') (Ab (Nat.beq id s) none (By c' c m)) none
  |_=>none
 |some (.vec id st)=>match Ae T.h id with
  |some (st',.vec c' m)=>Ab (Nat.beq st st') (Ab (Nat.beq id s) none (By c' c m)) none
  |_=>none
 |some (.vs id st lo hi)=>match Ae T.h id with
  | some (st',.vec c' m)=>Ab (Nat.beq st st') (Ab (Nat.beq id s) none (match By c' c m with
   |some m=>some (sub m lo hi)
   | none=>none)) none
  |_=>none
 |_=>none
def clS(b d:Nat):Nat:=b+600+d
def clnT[TabOk]{α:Type}(H:List Fe)(T:An)(d:Option Tmp)(f:FuncId)(x:Ad)(l:List Ad)(K:An->Option α):Option α:=match HI f H,d with
 |some C,some d=>match srcT T C.c (clS T.b d) x,DE T none l with
  |some m,some vs=>match DD H C.a C.p vs with
   |some r=>Ab (Bl T (some d)) (Ab (inR T.b (clS T.b d)) (bd (C.F m r) fun m'=>K (putS (putO T (clS T.b d) (.vec C.c m') false) (some d) (.v (.vec (clS T.b d) T.nx)))) none) none
   |none=>none
  |_,_=>none
 |_,_=>none
def inwT[TabOk]{α:Type}(H:List Fe)(T:An)(d:Option Tmp)(f:FuncId)(x:Ad)(l:List Ad)(K:An->Option α):Option α:=match Ji f H,argP T none x,DE T none l with
  |some C,some (.own id st),some vs=>match Ae T.h id,DD H C.a C.p vs with
   |some (st',.own c m),some r=>match By c C.c m with
    |some m=>Ab (Bl T d) (Ab (Nat.beq st st') (bd (C.F m r) fun m'=>K (putS (putO T id (.own C.c m') true) d (.v (.s (.tup []))))) none) none
    |none=>none
   |_,_=>none
  |_,_,_=>none
def zinT[TabOk]{α:Type}(H:List Fe)(T:An)(d:Option Tmp)(f:FuncId)(x:Ad)(l:List Ad)(K:An->Option α):Option α:=match HJ f H,argP T none x,DE T none l with
  |some C,some (.own id st),some vs=>match Ae T.h id,DD H C.a C.p vs with
   |some (st',.own c m),some r=>match By c C.c m with
    |some m=>Ab (Bl T d) (Ab (Nat.beq st st') (bd (C.F m r) fun m'=>K (putS (putO T id .gone false) d (.v (.s (.slc C.c m'))))) none) none
    |none=>none
   |_,_=>none
  |_,_,_=>none
def dinT[TabOk]{α:Type}(H:List Fe)(T:An)(d:Option Tmp)(f:FuncId)(l:List Ad)(K:An->Option α):Option α:=match G8 f H,d with
 |some C,some d=>match DE T none l with
  |some vs=>match DD H C.a C.p vs with
   |some r=>Ab (Bl T (some d)) (Ab (inR T.b (clS T.b d)) (bd (C.F r) fun m'=>K (putS (putO T (clS T.b d) (.own C.c m') false) (some d) (.v (.own (clS T.b d) T.nx)))) none) none
   |none=>none
  |none=>none
 |_,_=>none
def inpT[TabOk]{α:Type}(H:List Fe)(T:An)(o:Av)(K:An->Option α):Option α:=match o.op with
 |.callf f (x :: l)=>match HI f H with
  |some _=>clnT H T o.dst f x l K
  |none=>match HJ f H with
   |some _=>zinT H T o.dst f x l K
   |none=>match G8 f H with
    |some _=>dinT H T o.dst f (x :: l) K
    |none=>inwT H T o.dst f x l K
 |_=>none
def regT[TabOk]{α:Type}(H:List Fe)(ty:List (Nat×CT)):List Av->An->(An->Option α)->Option α
 |[],T,K=>K (endT T)
 |o :: r,T,K=>(fun T=>Ab (isW H o) (inpT H T o fun T'=>regT H ty r T' K) (Ab (isY T o) (yldT T o fun T'=>regT H ty r T' K) (Ea H ty T o fun T' _ _=>regT H ty r T' K))) (frzA T (OB H T o))
def mvY(T:An)(ys:List Nat)(o:Av):List Nat:=match o.guard,o.dst,o.op with
 |none,some d,.mv (.t n)=>match argP T none (.t n) with
  |some (.yl _ _)=>d :: ys
  |_=>Ab (memN n ys) (d :: ys) ys
 |_,_,_=>ys
def isYs(T:An)(ys:List Nat)(o:Av):Bool:=match o.guard,o.op with
 |none,.callv (.t n) _=>Ab (memN n ys) true (isY T o)
 |_,_=>isY T o
def splY(H:List Fe)(T:An):List Nat->List Av->List Av×List Av
 |_,[]=>([],[])
 | ys,o :: r=>Ab (Ab (isYs T ys o) true (isW H o)) ([],o :: r) (match splY H T (mvY T ys o) r with
  | (a,b)=>(o :: a,b))
def OC(T:An)(id st:Nat)(ob:TO):List Ad->Option (List SV)
 |[]=>some []
 |a :: l=>match argP T none a,OC T id st ob l with
  |some x,some r=>match frzP id st ob x with
   |.s v=>some (v :: r)
   |_=>none
  |_,_=>none
def isSl:TO->Bool
 |.vec _ _ | .own _ _=>true
 |_=>false
def OD[TabOk]{α:Type}(H:List Fe)(T:An)(f:FuncId)(ags:List Ad)(id:Nat)(K:PV->Option α):Option α:=match Ae T.h id,G7 f H with
 |some (st,ob),some C=>match OC T id st ob ags with
  |some vs=>match DD H C.a C.p vs with
   |some r=>Ab (isSl ob) (bd (C.F r) fun x=>K (.s (retT C.r x))) none
   |none=>none
  |none=>none
 |_,_=>none
def E0[TabOk]{α:Type}(H:List Fe)(ty:List (Nat×CT))(T:An)(o:Av)(K:An->List Nat->Option Nat->Option α):Option α:=match o.guard,o.op with
 |none,.callf f ags=>match DG T false true ags with
  |[]=>Ea H ty T o K
  |id :: _=>Ab (Bl T o.dst) (OD H T f ags id fun v=>K (putS (putO T id .gone false) o.dst (.v v)) [id] (some id)) none
 |_,_=>Ea H ty T o K
def unG(tg:Nat)(want:Bool):List (Nat×TV)->List (Nat×TV)
 |[]=>[]
 |(i,.cnd a b g x) :: l=>(i,Ab (Nat.beq a tg) (Ab (eqB b want) (.v x) (.cnd a b g x)) (.cnd a b g x)) :: unG tg want l
 |p :: l=>p :: unG tg want l
def unT(T:An)(tg:Nat)(want:Bool):An:=⟨unG tg want T.t,T.h,T.nx,T.n,T.gs,T.w,T.wo,T.b,T.rf⟩
def KR[TabOk]{α:Type}(H:List Fe)(ty:List (Nat×CT))(T:An)(o:Av)(tg:Nat)(want:Bool)(K:An->List Nat->Option Nat->Option α):Option α:=Ab (Bl T o.dst) (match o.op with
 |.callf f ags=>match DG (unT T tg want) false true ags with
  |[]=>Ea H ty T o K
  |id :: _=>Ab (allA (unT T tg want) none ags) (OD H (unT T tg want) f ags id fun v=>K (putS (putO T id .gone false) o.dst (.cnd tg want true v)) [id] (some id)) none
 | op=>Ab (Fj op) (Ab (allA (unT T tg want) none op.args) (Ab (O4 T.b op) (opO ty (unT T tg want) op fun v id ob re rd=>Ab (KP ob) (K (putS (putO T id ob re) o.dst (.cnd tg want true v)) rd (some id)) none) none) none) (Ea H ty T o K)) none
def notV:Ak->Bool
 |.callv _ _=>false
 |.mnext _=>false
 |_=>true
def KS{α:Type}(T:An)(o:Av)(tg:Nat)(want:Bool)(K:An->List Nat->Option Nat->Option α):Option α:=Ab (Bl T o.dst) (Ab (notV o.op) (K (putS T o.dst (.cnd tg want false (.s .top))) [] none) none) none
def OG{α:Type}(T:An)(o:Av)(tg:Nat)(x:Ad)(K:An->List Nat->Option Nat->Option α):Option α:=match Ah T.t tg,argP T none x with
 |.v (.s (.bool _)),some p=>Ab (Bl T o.dst) (K (putS T o.dst (.v p)) [] none) none
 |_,_=>none
abbrev Kn:=Option (Nat×Bool×Bool)
def Tx[TabOk]{α:Type}(H:List Fe)(ty:List (Nat×CT))(kn:Kn)(T:An)(o:Av)(K:An->List Nat->Option Nat->Option α):Option α:=match kn with
 |none=>E0 H ty T o K
 |some (tg,want,b)=>match o.guard with
  |some (tg',want')=>Ab (Nat.beq tg' tg) (Ab (eqB want' want) (Ab b (KR H ty T o tg want K) (KS T o tg want K)) (E0 H ty T o K)) (E0 H ty T o K)
  | none=>Ab b (E0 H ty T o K) (match o.op with
   |.pick (.t n) x y=>Ab (Nat.beq n tg) (OG T o tg (Ab want y x) K) (E0 H ty T o K)
   | _=>E0 H ty T o K)
def Y9(T:An)(tg:Nat)(want:Bool):Ak->Bool
 |.callf _ ags=>match DG (unT T tg want) false true ags with
  |[]=>false
  |_=>true
 |op=>Fj op
def CU[TabOk]{α:Type}(H:List Fe)(ty:List (Nat×CT)):List Av->Kn->An->(An->List (List Nat×Option Nat)->Option α)->Option α
 |[],_,T,K=>K T []
 |o :: r,kn,T,K=>match kn,o.guard with
  | none,some (tg,want)=>Ab (Y9 T tg want o.op) (match gdT want (Ah T.t tg) with
   |some g=>ite' g (KR H ty (addG T tg) o tg want fun T' rd out=>CU H ty r (some (tg,want,true)) T' fun T'' tr=>K T'' ((rd,out) :: tr))
     (KS (addG T tg) o tg want fun T' rd out=>CU H ty r (some (tg,want,false)) T' fun T'' tr=>K T'' ((rd,out) :: tr))
   | none=>none) (E0 H ty T o fun T' rd out=>CU H ty r none T' fun T'' tr=>K T'' ((rd,out) :: tr))
  |_,_=>Tx H ty kn T o fun T' rd out=>CU H ty r kn T' fun T'' tr=>K T'' ((rd,out) :: tr)
inductive SH where
 |k | v (c:CT) | c (a:Aa) | own (id:Nat) | vec (id:Nat) | ptr (id off:Nat) | mp (id:Nat) | owk (id:Nat)
inductive OH where
 |k | gone | box (c:CT) | own (c:CT) | vec (c:CT) | rown (id:Nat) | rvec (id:Nat) | rmp (id:Nat) | map (k v:CT) | out (i:Nat) (b:Bool) | rag (c:CT) (k id:Nat)
inductive OE where
 |n | x (id:Nat) | r
structure OutH where
 e:OE
 sl:List (Nat×SH)
 ob:List (Nat×OH)
def ctsS:List (Nat×SH)->List CT->List CT
 |[],r=>r
 |(_,.v c) :: l,r=>c :: ctsS l r
 |_ :: l,r=>ctsS l r
def ctsO:List (Nat×OH)->List CT
 |[]=>[]
 |(_,.box c) :: l=>c :: ctsO l
 |(_,.rag c _ _) :: l=>c :: ctsO l
 |(_,.own c) :: l=>.slc c :: ctsO l
 |(_,.vec c) :: l=>.slc c :: ctsO l
 |(_,.map k v) :: l=>.mp k v :: ctsO l
 |(_,.out i _) :: l=>.yl i :: ctsO l
 |_ :: l=>ctsO l
def OutH.cts(H:OutH):List CT:=ctsS H.sl (ctsO H.ob)
def curO(T:An)(id st:Nat):Bool:=match Ae T.h id with
 |some (st',_)=>Nat.beq st st'
 |none=>false
def curW(T:An)(id st:Nat):Bool:=match Ae T.h id with
 |some (st',.own _ _)=>Nat.beq st st'
 |_=>false
def eqA1:SV->Aa->Bool
 |.int k n,.int k' m=>if k=k' then decide (n=m) else false
 |.bool a,.bool b=>eqB a b
 |.str a,.str b=>decide (a=b)
 |.nil,.nils=>true
 |.nilp,.nilp=>true
 |_,_=>false
def kpP(T0 T:An):TV->Bool
 |.v (.s _)=>true
 |.v (.ptr id st _)=>curO T id st
 |.v (.vec id st)=>curO T id st
 |.v (.vs id st _ _)=>curO T id st
 |.v (.own id st)=>curO T id st
 |.v (.mp id st)=>curO T id st
 |.v (.yl _ _)=>true
 |.v (.kys id st _)=>curO T id st
 |_=>false
def Bv(i:Nat):List (Nat×OH)->Bool
 |[]=>false
 | (j,o) :: l=>Ab (Nat.beq j i) (match o with
  |.own _=>true
  | _=>false) (Bv i l)
def Fm(i:Nat):List (Nat×OH)->Bool
 |[]=>false
 | (j,o) :: l=>Ab (Nat.beq j i) (match o with
  |.vec _=>true
  | _=>false) (Fm i l)
def chS(T0 T:An)(ob:List (Nat×OH)):List (Nat×SH)->Bool
 |[]=>true
 |(i,.k) :: l=>Ab (memN i T.w) false (Ab (kpP T0 T (Ah T0.t i)) (chS T0 T ob l) false)
 |(i,.v c) :: l=>chS T0 T ob l
 |(i,.c a) :: l=>match Ah T.t i with
  |.v (.s v)=>Ab (eqA1 v a) (chS T0 T ob l) false
  |_=>false
 |(i,.own id) :: l=>match Ah T.t i with
  |.v (.own id' st)=>Ab (Bv id ob) (Ab (Nat.beq id' id) (Ab (curW T id st) (chS T0 T ob l) false) false) false
  |.v (.s .nil)=>match Ae T.h id with
   |some (_,.gone)=>Ab (Bv id ob) (chS T0 T ob l) false
   |none=>Ab (Bv id ob) (chS T0 T ob l) false
   |_=>false
  |_=>false
 | (i,.owk id) :: l=>Ab (memN i T.w) false (match Ah T.t i with
  |.v (.own id' st)=>Ab (Bv id ob) (Ab (Nat.beq id' id) (Ab (curW T id st) (chS T0 T ob l) false) false) false
  | _=>false)
 |(i,.vec id) :: l=>match Ah T.t i with
  |.v (.vec id' st)=>Ab (Fm id ob) (Ab (Nat.beq id' id) (Ab (curO T id st) (chS T0 T ob l) false) false) false
  |_=>false
 |(i,.mp id) :: l=>match Ah T.t i with
  |.v (.mp id' st)=>Ab (Nat.beq id' id) (Ab (curO T id st) (chS T0 T ob l) false) false
  |_=>false
 |(i,.ptr id off) :: l=>match Ah T.t i with
  |.v (.ptr id' st off')=>Ab (Nat.beq id' id) (Ab (Nat.beq off' off) (Ab (curO T id st) (chS T0 T ob l) false) false) false
  |_=>false
def chO(T0 T:An)(ob:List (Nat×OH)):List (Nat×OH)->Bool
 |[]=>true
 |(i,.k) :: l=>Ab (memN i T.wo) false (chO T0 T ob l)
 |(i,.rmp id) :: l=>match Ae T.h i with
  |some (_,.ref (.mp id' st))=>Ab (Nat.beq id' id) (Ab (curO T id st) (chO T0 T ob l) false) false
  |_=>false
 |(i,.rvec id) :: l=>match Ae T.h i with
  |some (_,.ref (.vec id' st))=>Ab (Fm id ob) (Ab (Nat.beq id' id) (Ab (curO T id st) (chO T0 T ob l) false) false) false
  |_=>false
 |(i,.rag _ k id) :: l=>match Ae T.h i with
  |some (_,.rag _ k' id' st)=>Ab (Nat.beq k' k) (Ab (Fm id ob) (Ab (Nat.beq id' id) (Ab (curO T id st) (chO T0 T ob l) false) false) false) false
  |_=>false
 |(i,.rown id) :: l=>match Ae T.h i with
  |some (_,.ref (.own id' st))=>Ab (Bv id ob) (Ab (Nat.beq id' id) (Ab (curW T id st) (chO T0 T ob l) false) false) false
  |some (_,.box [.nil])=>match Ae T.h id with
   |some (_,.gone)=>Ab (Bv id ob) (chO T0 T ob l) false
   |none=>Ab (Bv id ob) (chO T0 T ob l) false
   |_=>false
  |_=>false
 |_ :: l=>chO T0 T ob l
def hasK{U:Type}(i:Nat):List (Nat×U)->Bool
 |[]=>false
 |p :: l=>Ab (Nat.beq p.1 i) true (hasK i l)
def KT(l:List (Nat×OH)):List (Nat×Nat×TO)->Bool
 |[]=>true
 |p :: r=>Ab (hasK p.1 l) (KT l r) false
def svS(T:An):List (Nat×SH)->Option (List SV)
 |[]=>some []
 |(i,.v _) :: l=>match Ah T.t i,svS T l with
  |.v (.s v),some r=>some (v :: r)
  |_,_=>none
 |_ :: l=>svS T l
def svO(T:An):List (Nat×OH)->Option (List SV)
 |[]=>some []
 |(i,.box c) :: l=>match Ae T.h i,svO T l with
  |some (_,.box cs),some r=>match Ew c cs with
   |some x=>some (wT c x :: r)
   |none=>none
  |_,_=>none
 |(i,.rag c _ _) :: l=>match Ae T.h i,svO T l with
  |some (_,.rag cs _ _ _),some r=>match Ew c cs with
   |some x=>some (wT c x :: r)
   |none=>none
  |_,_=>none
 |(i,.own c) :: l=>match Ae T.h i,svO T l with
  |some (_,.own c' m),some r=>some (.slc c' m :: r)
  |some (_,.gone),some r=>some (.slc c [] :: r)
  |none,some r=>some (.slc c [] :: r)
  |_,_=>none
 |(i,.vec c) :: l=>match Ae T.h i,svO T l with
  |some (_,.vec c' m),some r=>some (.slc c' m :: r)
  |_,_=>none
 |(i,.map k v) :: l=>match Ae T.h i,svO T l with
  |some (_,.map k' v' m),some r=>some (.mpv k' v' m :: r)
  |_,_=>none
 |(i,.out _ b) :: l=>match Ae T.h i,svO T l with
  |some (_,.out j m b'),some r=>Ab (Ab b' b true) (some (.ylv j m :: r)) none
  |_,_=>none
 |_ :: l=>svO T l
def rbS(T0:An):List (Nat×SH)->List SV->List (Nat×TV)
 |[],_=>[]
 |(i,.k) :: l,v=>(i,Ah T0.t i) :: rbS T0 l v
 |(i,.v _) :: l,x :: v=>(i,.v (.s x)) :: rbS T0 l v
 |(i,.v _) :: l,[]=>rbS T0 l []
 | (i,.c a) :: l,v=>(match ofA1 a with
  |some x=>(i,.v (.s x))
  | none=>(i,.v (.s .top))) :: rbS T0 l v
 |(i,.own id) :: l,v=>(i,.v (.own id T0.nx)) :: rbS T0 l v
 |(i,.owk id) :: l,v=>(i,.v (.own id T0.nx)) :: rbS T0 l v
 |(i,.vec id) :: l,v=>(i,.v (.vec id T0.nx)) :: rbS T0 l v
 |(i,.ptr id off) :: l,v=>(i,.v (.ptr id T0.nx off)) :: rbS T0 l v
 |(i,.mp id) :: l,v=>(i,.v (.mp id T0.nx)) :: rbS T0 l v
def nV:List (Nat×SH)->Nat
 |[]=>0
 |(_,.v _) :: l=>nV l+1
 |_ :: l=>nV l
def rbO(T0:An):List (Nat×OH)->List SV->List (Nat×Nat×TO)
 |[],_=>[]
 |(i,.k) :: l,v=>match Ae T0.h i with
  |some p=>(i,p) :: rbO T0 l v
  |none=>(i,T0.nx,.gone) :: rbO T0 l v
 |(i,.gone) :: l,v=>(i,T0.nx,.gone) :: rbO T0 l v
 |(i,.rvec id) :: l,v=>(i,T0.nx,.ref (.vec id T0.nx)) :: rbO T0 l v
 |(i,.rmp id) :: l,v=>(i,T0.nx,.ref (.mp id T0.nx)) :: rbO T0 l v
 |(i,.rown id) :: l,v=>(i,T0.nx,.ref (.own id T0.nx)) :: rbO T0 l v
 | (i,.rag _ k id) :: l,x :: v=>(match x.cells with
  |some cs=>(i,T0.nx,.rag cs k id T0.nx)
  | none=>(i,T0.nx,.gone)) :: rbO T0 l v
 | (i,.box c) :: l,x :: v=>(match x.cells with
  |some cs=>(i,T0.nx,.box cs)
  | none=>(i,T0.nx,.gone)) :: rbO T0 l v
 | (i,.own _) :: l,x :: v=>(match x with
  |.slc c m=>(i,T0.nx,.own c m)
  | _=>(i,T0.nx,.gone)) :: rbO T0 l v
 | (i,.vec _) :: l,x :: v=>(match x with
  |.slc c m=>(i,T0.nx,.vec c m)
  | _=>(i,T0.nx,.gone)) :: rbO T0 l v
 | (i,.map _ _) :: l,x :: v=>(match x with
  |.mpv k w m=>(i,T0.nx,.map k w m)
  | _=>(i,T0.nx,.gone)) :: rbO T0 l v
 | (i,.out _ b) :: l,x :: v=>(match x with
  |.ylv j m=>(i,T0.nx,.out j m b)
  | _=>(i,T0.nx,.gone)) :: rbO T0 l v
 |(i,_) :: l,[]=>(i,T0.nx,.gone) :: rbO T0 l []
def ltK(n:Nat):List (Nat×SH)->Bool
 |[]=>true
 |p :: l=>Ab (Nat.blt p.1 n) (ltK n l) false
def Cv(sl:List (Nat×SH)):List (Nat×TV)->List Nat->List Nat
 |[],w=>w
 |p :: l,w=>Ab (hasK p.1 sl) (Cv sl l w) (p.1 :: Cv sl l w)
def setW:List (Nat×SH)->List Nat->List Nat
 |[],w=>w
 |(_,.k) :: l,w=>setW l w
 |(_,.owk _) :: l,w=>setW l w
 |(i,_) :: l,w=>i :: setW l w
def hasW(i:Nat):List (Nat×SH)->Bool
 |[]=>false
 |(j,.owk _) :: l=>Ab (Nat.beq j i) true (hasW i l)
 |(j,_) :: l=>Ab (Nat.beq j i) false (hasW i l)
def AP:List (Nat×OH)->List Nat->List Nat
 |[],w=>w
 |(_,.k) :: l,w=>AP l w
 |(i,_) :: l,w=>i :: AP l w
def obR(b:Nat):List (Nat×OH)->Bool
 |[]=>true
 |p :: l=>Ab (inR b p.1) (obR b l) false
def arrT(T0 T:An)(H:OutH):Option (Row H.cts):=match svS T H.sl,svO T H.ob with
 |some a,some b=>Ab (chS T0 T H.ob H.sl) (Ab (chO T0 T H.ob H.ob) (Ab (KT H.ob T.h) (Ab (KT H.ob T0.h) (Ab (ltK T0.n H.sl) (Ab (Nat.beq T.rf T0.rf) (Ab (obR T0.b H.ob) (KI H.cts (a++b)) none) none) none) none) none) none) none
 |_,_=>none
def rebT(T0:An)(H:OutH)(r:Row H.cts):An := ⟨rbS T0 H.sl (rowW H.cts r),rbO T0 H.ob ((rowW H.cts r).drop (nV H.sl)),T0.nx+1,T0.n,[],setW H.sl (Cv H.sl T0.t T0.w),AP H.ob T0.wo,T0.b,T0.rf⟩
def OutT:List OutH->Type
 |[]=>Unit
 |[H]=>Row H.cts
 |H :: l=>Row H.cts⊕OutT l
def isE:OE->Exit->Bool
 |.n,.normal=>true
 |.x i,.exit j=>Nat.beq i j
 |.r,.ret=>true
 |_,_=>false
def OE.ex:OE->Exit
 |.n=>.normal
 |.x i=>.exit i
 |.r=>.ret
def injT(T0:An):(l:List OutH)->Exit->An->Option (OutT l)
 |[],_,_=>none
 |[H],e,T=>Ab (isE H.e e) (arrT T0 T H) none
 | H :: H' :: l,e,T=>Ab (isE H.e e) (match arrT T0 T H with
  |some r=>some (.inl r)
  |none=>none) (match injT T0 (H' :: l) e T with
  |some r=>some (.inr r)
  | none=>none)
def aftT{α:Type}(T0:An)(K:Exit->An->Option α):(l:List OutH)->OutT l->Option α
 |[],_=>none
 |[H],r=>K H.e.ex (rebT T0 H r)
 |H :: H' :: l,r=>match r with
  |.inl r=>K H.e.ex (rebT T0 H r)
  |.inr r=>aftT T0 K (H' :: l) r
inductive HT where
 |n
 |s (a b:HT)
 |c (J:Option (List OutH)) (a b:HT)
 |b (J:Option (List OutH)) (h:HT)
 |l (fz:List Nat) (hd:OutH) (J:List OutH) (h:HT)
 |r (fz:List Nat) (hd:OutH) (J:List OutH) (a b:HT)
 |f (fz:List Nat)
def fzH(h:HT)(T:An):An:=match h with
 |.f fz=>frzA T fz
 |_=>T
def cl0(T:An):An:=⟨T.t,T.h,T.nx,T.n,[],[],[],T.b,T.rf⟩
def Ty{α:Type}(J:Option (List OutH))(T:An)(inner:(U:Type)->An->(Exit->An->Option U)->Option U)(K:Exit->An->Option α):Option α:=match J with
 |none=>inner α T K
 |some l=>bd (inner (OutT l) (cl0 T) (injT T l)) (aftT T K l)
def refI(T:An):List ARes->List Nat
 |[]=>[]
 |.t _ :: l=>refI T l
 | .c n _ _ :: l=>(match Ah T.t n with
  |.v (.ptr id _ _)=>match Ae T.h id with
   |some (_,.ref (.own i _))=>[i]
   |some (_,.ref (.vec i _))=>[i]
   |some (_,.rag _ _ i _)=>[i]
   |_=>[]
  | _=>[])++refI T l
def frzR(rs:List ARes)(T:An):An:=frzA T (DG T false true (rs.map fun r=>match r with
 |.t n=>.t n
 | .c n _ _=>.t n)++refI T rs)
def sqOf[TabOk](H:List Fe)(T:An)(f:Ad):Option ((i:Nat)×SqV i):=match argP T none f with
 |some (.s (.sqp i z))=>some ⟨i,z⟩
 |some (.s (.fn f 0 caps))=>match Jf f H with
  |some C=>some ⟨C.i,Y0 C C.i caps rfl⟩
  |none=>none
 |_=>none
def rnd(T:An):An:=⟨T.t,T.h,T.nx,T.n,[],[],[],T.b,T.rf+50⟩
def rnA(T:An):An:=⟨T.t,T.h,T.nx,T.n,T.gs,T.w,T.wo,T.b,T.rf+1⟩
def putP(T:An):List Tmp->List SV->An
 |p :: ps,v :: vs=>putP ⟨(p,.v (.s v)) :: T.t,T.h,T.nx,T.n,T.gs,p :: T.w,T.wo,T.b,T.rf⟩ ps vs
 |_,_=>T
def psOk(n:Nat):List Tmp->Bool
 |[]=>true
 |p :: ps=>Ab (Nat.blt p n) (psOk n ps) false
def rstS(w:List Nat):List (Nat×TV)->List (Nat×TV)
 |[]=>[]
 |p :: l=>Ab (memN p.1 w) (rstS w l) (p :: rstS w l)
def rstT(w:List Nat)(T:An):An:=⟨rstS T.w T.t,T.h,T.nx,T.n,T.gs,T.w++w,T.wo,T.b,T.rf⟩
def strT(T:An):An:=⟨T.t,T.h,T.nx,T.n,T.gs,[],T.wo,T.b,T.rf⟩
def rndW(T:An)(H:OutH):List Nat:=setW H.sl (Cv H.sl T.t [])
def AV[TabOk](H:List Fe)(ty:List (Nat×CT))(rs:List ARes):AR->(α:Type)->HT->An->(Exit->An->Option α)->Option α
 |.skip,_,_,T,K=>K .normal T
 |.reg false ops _,_,h,T,K=>regT H ty ops (fzH h T) (K .normal)
 | .reg true ops pr,_,_,T,K=>(fun T=>match splY H T [] ops with
  |(_,[])=>CU H ty ops none T fun T' tr=>Ab (Dm ops pr tr) (K .normal (endT T')) none
  | (a,b)=>Ab (I0 pr a.length ops.length) (CU H ty a none T fun T' tr=>Ab (Dm a pr tr) (regT H ty b (endT T') (K .normal)) none) none) (frzA T (drwF T [] ops))
 |.seq a b,α,h,T,K=>AV H ty rs a α (match h with | .s x _=>x | _=>.n) T fun e T'=>match e with
  |.normal=>AV H ty rs b α (match h with | .s _ y=>y | _=>.n) T' K
  |e=>K e T'
 | .cond c a b,α,h,T,K=>Ty (match h with | .c J _ _=>J | _=>none) T (fun U T K=>match argP T none c with
  |some (.s (.bool x))=>match c with
   |.c _=>Ab x (AV H ty rs a U (match h with | .c _ p _=>p | _=>.n) T K) (AV H ty rs b U (match h with | .c _ _ q=>q | _=>.n) T K)
   |_=>ite' x (AV H ty rs a U (match h with | .c _ p _=>p | _=>.n) T K) (AV H ty rs b U (match h with | .c _ _ q=>q | _=>.n) T K)
  | _=>none) K
 |.ret,_,_,T,K=>K .ret (frzR rs T)
 |.exit i,_,_,T,K=>K (.exit i) T
 |.scope c,α,h,T,K=>AV H ty rs c α h T fun e T'=>match e with
  |.goto _=>none
  |e=>K e T'
 |.label _,_,_,T,K=>K .normal T
 |.any,_,_,_,_=>none
 | .block i c,α,h,T,K=>Ty (match h with | .b J _=>J | _=>none) T (fun U T K=>AV H ty rs c U (match h with | .b _ p=>p | _=>.n) T fun e T'=>match e with
  |.exit j=>Ab (Nat.beq j i) (K .normal T') (K (.exit j) T')
  | e=>K e T') K
 | .loop c,α,.l fz hd J h,T0,K=>(fun T=>match arrT T (cl0 T) hd with
  | some r0=>bd (lp (fun r=>AV H ty rs c (Row hd.cts⊕OutT J) h (rebT (cl0 T) hd r) fun e T'=>match e with
   |.normal=>match arrT T T' hd with
    |some r=>some (.inl r)
    |none=>none
   |e=>match injT T J e T' with
    |some r=>some (.inr r)
    | none=>none) r0) (aftT T K J)
  | none=>none) (frzA T0 fz)
 |.loop _,_,_,_,_=>none
 | .rfunc f ps a b,α,.r fz hd J ha hb,T0,K=>(fun T=>match sqOf H T f with
  |some z=>match arrT (rnd T) (rnd T) hd with
   | some r0=>Ab (Nat.beq T.b 0) (Ab (Nat.blt T.rf 50) (Ab (Nat.beq ps.length (Tab.fa z.1).length) (Ab (psOk T.n ps)
     (bd (z.2.g fun l=>EL (fun x r=>AV H ty rs a (Row hd.cts⊕OutT J) ha (putP (strT (rebT (rnd T) hd r)) ps (rowW (Tab.fa z.1) (cast (Tab.eA z.1).symm x))) fun e T'=>match e with
       |.normal=>AV H ty rs b (Row hd.cts⊕OutT J) hb T' fun e T'=>match e with
        |.normal=>match arrT (rnd T) (rstT (rndW T hd) T') hd with
         |some r=>some (.inl r)
         |none=>none
        |e=>match injT (rnd T) J e (rstT (rndW T hd) T') with
         |some r=>some (.inr r)
         |none=>none
       |_=>none) l r0) fun l=>bd (Bt (fun x r=>AV H ty rs a (Row hd.cts⊕OutT J) ha (putP (strT (rebT (rnd T) hd r)) ps (rowW (Tab.fa z.1) (cast (Tab.eA z.1).symm x))) fun e T'=>match e with
       |.normal=>AV H ty rs b (Row hd.cts⊕OutT J) hb T' fun e T'=>match e with
        |.normal=>match arrT (rnd T) (rstT (rndW T hd) T') hd with
         |some r=>some (.inl r)
         |none=>none
        |e=>match injT (rnd T) J e (rstT (rndW T hd) T') with
         |some r=>some (.inr r)
         |none=>none
       | _=>none) l r0) fun o=>match o with
      |.inl r=>K .normal (rebT (rnA T) hd r)
      | .inr q=>aftT (rnA T) K J q) none) none) none) none
   |none=>none
  | none=>none) (frzA T0 fz)
 |.rfunc _ _ _ _,_,_,_,_=>none
def resS(T:An):List ARes->Option (List SV)
 |[]=>some []
 |.t n :: l=>match Ah T.t n,resS T l with
  |.v (.s v),some r=>some (v :: r)
  |_,_=>none
 |.c n agg sz :: l=>match Ah T.t n,resS T l with
  |.v (.ptr id st 0),some r=>match Ae T.h id with
   |some (st',.box cs)=>Ab (Nat.beq st st') (Ab (Nat.beq sz cs.length) (Ab (Ab agg true (Nat.beq sz 1)) (some (ldS agg sz cs 0 :: r)) none) none) none
   |_=>none
  |_,_=>none
def resT[TabOk](H:List Fe)(rs:List ARes)(cs:List CT)(e:Exit)(T:An):Option (Row cs):=match e with
 |.ret=>match resS T rs with
  |some l=>DD H cs [] l
  |none=>none
 |_=>none
def zipS:Nat->List SV->List (Nat×TV)
 |_,[]=>[]
 |i,x :: l=>(i,.v (.s x)) :: zipS (i+1) l
def iniT(n:Nat)(a:List CT)(p:List Bool)(x:Row a):An:=⟨zipS 0 (prmS a p x),[],0,n,[],[],[],0,0⟩
def funT[TabOk](H:List Fe)(ty:List (Nat×CT))(rs:List ARes)(n:Nat)(c:AR)(h:HT)(C:Fc)(x:Row C.a):Option (Row C.r):=AV H ty rs c _ h (iniT n C.a C.p x) (resT H rs C.r)
def iniY(n:Nat)(a:List CT)(p:List Bool)(x:Row a)(i:Nat)(st:List (TabT.FA i)->Option Bool):An:=⟨(0,.v (.yl i st)) :: zipS 1 (prmS a p x),[(1899,0,.out i [] false)],1,n,[],[],[],1000,0⟩
def outT(i:Nat)(e:Exit)(T:An):Option (List (TabT.FA i)):=match e with
 |.ret=>outR T
 |.normal=>outR T
 |_=>none
where
 outR (T:An):Option (List (TabT.FA i)):=match Ae T.h 1899 with
  |some (_,.out j l _)=>OA j i l
  |_=>none
def itrT[TabOk](H:List Fe)(ty:List (Nat×CT))(n:Nat)(c:AR)(h:HT)(C:Sc)(x:Row C.a)(st:List (TabT.FA C.i)->Option Bool):Option (List (TabT.FA C.i)):=AV H ty [] c _ h (iniY n C.a C.p x C.i st) (outT C.i)
def resQ[TabOk](S:Sk)(rs:List ARes)(e:Exit)(T:An):Option (Row S.a):=match e with
 |.ret=>match resS T rs with
  |some [.fn f 0 caps]=>Ab (Nat.beq f S.f) (KA S.a S.p caps) none
  |_=>none
 |_=>none
end
end Go.Am

