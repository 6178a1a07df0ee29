/- Part T1: a typed interpreter of abstract code, proved sound over the machine. No condition. -/
import Derived.Test.YtjlgleghnenojaaDoorX1
import Derived.KernelRfl
set_option linter.unusedSimpArgs false
set_option linter.unusedVariables false
namespace Go.Am
inductive CT where
 |int (k:IntKind) | bool | str
 |slc (c:CT)
 |us (i:Nat)
 |fn (i:Nat)
 |ptr (c:CT)
 |mp (k v:CT)
 |sq (i:Nat)
 |yl (i:Nat)
class TabT where
 T:Nat->Type
 E:Nat->AVal
 P:Program
 FA:Nat->Type
 FR:Nat->Type
 aA:(i:Nat)->FA i->List AVal
 aR:(i:Nat)->FR i->AVal
section
variable [TabT]
structure FnV(i:Nat) where
 f:FuncId
 nb:Nat
 caps:List AVal
 nr:∀x,x∈caps->qzt x
 g:TabT.FA i->Option (TabT.FR i)
 ok:∀a r,g a=some r->FnOk TabT.E TabT.P f nb caps (TabT.aA i a) (TabT.aR i r)
structure SqV(i:Nat) where
 f:FuncId
 caps:List AVal
 nr:∀x,x∈caps->qzt x
 g:(List (TabT.FA i)->Option Bool)->Option (List (TabT.FA i))
 ok:∀st l,g st=some l->SqOk TabT.E TabT.P f caps (TabT.aA i) st l
def CT.T:CT->Type
 |.int _=>Int
 |.bool=>Bool
 |.str=>List UInt8
 |.slc c=>List c.T
 |.us i=>TabT.T i
 |.fn i=>FnV i
 |.ptr c=>Option c.T
 |.mp k v=>List (k.T×v.T)
 |.sq i=>SqV i
 |.yl i=>List (TabT.FA i)
def RowC(t:Type):List CT->Type
 |[]=>t
 |d :: l=>t×RowC d.T l
def Row:List CT->Type
 |[]=>Unit
 |c :: l=>RowC c.T l
inductive SV where
 |int (k:IntKind) (n:Int) | bool (b:Bool) | str (s:List UInt8)
 |nil
 |slc (c:CT) (l:List c.T)
 |agg (l:List SV) | tup (l:List SV)
 |cptr (l:List SV) (off:Nat)
 |fn (f:FuncId) (nb:Nat) (caps:List SV)
 |fnp (i:Nat) (x:FnV i)
 |nilp
 |optr (c:CT) (x:Option c.T)
 |mpv (k v:CT) (l:List (k.T×v.T))
 |sqp (i:Nat) (x:SqV i)
 |ylv (i:Nat) (l:List (TabT.FA i))
 |top
def CT.cast:(c c':CT)->Option (PLift (c=c'))
 |.int k,.int k'=>if h:k=k' then some ⟨by rw[h]⟩ else none
 |.bool,.bool=>some ⟨rfl⟩
 |.str,.str=>some ⟨rfl⟩
 |.slc c,.slc c'=>match CT.cast c c' with
  |some ⟨h⟩=>some ⟨by rw[h]⟩
  |none=>none
 |.us i,.us j=>if h:i=j then some ⟨by rw[h]⟩ else none
 |.fn i,.fn j=>if h:i=j then some ⟨by rw[h]⟩ else none
 |.ptr c,.ptr c'=>match CT.cast c c' with
  |some ⟨h⟩=>some ⟨by rw[h]⟩
  |none=>none
 |.mp k v,.mp k' v'=>match CT.cast k k',CT.cast v v' with
  |some ⟨h⟩,some ⟨h'⟩=>some ⟨by rw[h,h']⟩
  |_,_=>none
 |.sq i,.sq j=>if h:i=j then some ⟨by rw[h]⟩ else none
 |.yl i,.yl j=>if h:i=j then some ⟨by rw[h]⟩ else none
 |_,_=>none
def jzd4:(l l':List CT)->Option (PLift (l=l'))
 |[],[]=>some ⟨rfl⟩
 |c :: l,c' :: l'=>match CT.cast c c',jzd4 l l' with
  |some ⟨h⟩,some ⟨k⟩=>some ⟨by rw[h,k]⟩
  |_,_=>none
 |_,_=>none
def wzmw(c c':CT)(l:List c.T):Option (List c'.T):=match CT.cast c c' with
 |some ⟨h⟩=>some (h▸l)
 |none=>none
def jzc3(c c':CT)(x:Option c.T):Option (Option c'.T):=match CT.cast c c' with
 |some ⟨h⟩=>some (h▸x)
 |none=>none
def lfT:(c:CT)->c.T->SV
 |.int k,n=>.int k n
 |.bool,b=>.bool b
 |.str,s=>.str s
 |.slc c,l=>.slc c l
 |.us _,_=>.top
 |.fn i,x=>.fnp i x
 |.ptr c,x=>.optr c x
 |.mp k v,x=>.mpv k v x
 |.sq i,x=>.sqp i x
 |.yl i,x=>.ylv i x
def wzp8(c:CT):(l:List CT)->RowC c.T l->List SV
 |[],x=>[lfT c x]
 |d :: l,x=>lfT c x.1 :: wzp8 d l x.2
def rowS:(l:List CT)->Row l->List SV
 |[],_=>[]
 |c :: l,x=>wzp8 c l x
def ofI(k:IntKind):SV->Option Int
 |.int k' n=>if k=k' then some n else none
 |_=>none
def ofBT:SV->Option Bool
 |.bool b=>some b
 |_=>none
def wzon:SV->Option (List UInt8)
 |.str s=>some s
 |_=>none
def ofSl(c:CT):SV->Option (List c.T)
 |.slc c' l=>wzmw c' c l
 |.nil=>some []
 |_=>none
def ofFn(i:Nat):SV->Option (FnV i)
 |.fnp j x=>if h:j=i then some (h▸x) else none
 |_=>none
def ofSq(i:Nat):SV->Option (SqV i)
 |.sqp j x=>if h:j=i then some (h▸x) else none
 |_=>none
def ofYl(i:Nat):SV->Option (List (TabT.FA i))
 |.ylv j x=>if h:j=i then some (h▸x) else none
 |_=>none
def ofPt(c:CT):SV->Option (Option c.T)
 |.optr c' x=>jzc3 c' c x
 |.nilp=>some none
 |_=>none
def wz8k(k v k' v':CT)(x:List (k.T×v.T)):Option (List (k'.T×v'.T)):=match CT.cast k k',CT.cast v v' with
 |some ⟨h⟩,some ⟨h'⟩=>some (h▸h'▸x)
 |_,_=>none
def ofMp(k v:CT):SV->Option (List (k.T×v.T))
 |.mpv k' v' x=>wz8k k' v' k v x
 |_=>none
def ofLf:(c:CT)->SV->Option c.T
 |.int k=>ofI k
 |.bool=>ofBT
 |.str=>wzon
 |.slc c=>ofSl c
 |.us _=>fun _=>none
 |.fn i=>ofFn i
 |.ptr c=>ofPt c
 |.mp _ _=>fun _=>none
 |.sq i=>ofSq i
 |.yl _=>fun _=>none
def wzly{t:Type}(f:SV->Option t):List SV->Option t
 |[v]=>f v
 |_=>none
def wznb{t u:Type}(f:SV->Option t)(g:List SV->Option u):List SV->Option (t×u)
 |[]=>none
 |v :: r=>match f v,g r with
  |some a,some b=>some (a,b)
  |_,_=>none
def wzor:List SV->Option Unit
 |[]=>some ()
 |_=>none
def wzoo(c:CT):(l:List CT)->List SV->Option (RowC c.T l)
 |[]=>wzly (ofLf c)
 |d :: l=>wznb (ofLf c) (wzoo d l)
def wzuk:(l:List CT)->List SV->Option (Row l)
 |[]=>wzor
 |c :: l=>wzoo c l
end
class Tab extends TabT where
 ls:Nat->List CT
 mkS:(i:Nat)->Row (ls i)->T i
 unS:(i:Nat)->T i->Row (ls i)
 inh:(i:Nat)->Inhabited (T i)
 cA:(i:Nat)->T i->List AVal
 fa:Nat->List CT
 fr:Nat->List CT
 eA:(i:Nat)->Row (fa i)=FA i
 eR:(i:Nat)->Row (fr i)=FR i
 kk:Nat->Option (List Nat)
 ke:(i:Nat)->T i->T i->Bool
section
variable [Tab]
def CT.n:CT->Nat
 |.us i=>(Tab.ls i).length
 |_=>1
def ptA{α:Type}(n:Nat)(f:α->List AVal):Option α->AVal
 |none=>.nilp
 |some x=>.cptr (fun k=>(f x).getD k .top) n 0
def CT.cA:(c:CT)->c.T->List AVal
 |.int k=>cI k
 |.bool=>cB
 |.str=>cS
 |.slc c=>cL c.n c.cA
 |.us i=>Tab.cA i
 |.fn i=>fun x=>[.fn x.f x.nb x.caps]
 |.ptr c=>fun x=>[ptA c.n c.cA x]
 |.mp _ _=>fun _=>[.top]
 |.sq i=>fun x=>[.fn x.f 0 x.caps]
 |.yl _=>fun _=>[.top]
mutual
def emS:SV->AVal
 |.int k n=>.int k n
 |.bool b=>.bool b
 |.str s=>.str s
 |.nil=>.nils
 |.slc c l=>slcV c.n c.cA l
 |.agg l=>.agg (emL l)
 |.tup l=>.tup (emL l)
 |.cptr l off=>.cptr (fun k=>(emL l).getD k .top) l.length off
 |.fn f nb l=>.fn f nb (emL l)
 |.fnp i x=>.fn x.f x.nb x.caps
 |.nilp=>.nilp
 |.optr c x=>ptA c.n c.cA x
 |.mpv _ _ _=>.top
 |.sqp i x=>.fn x.f 0 x.caps
 |.ylv _ _=>.top
 |.top=>.top
def emL:List SV->List AVal
 |[]=>[]
 |x :: l=>emS x :: emL l
end
def FnV.no(i:Nat):FnV i:=⟨0,0,[],(fun _ h=>by cases h),fun _=>none,fun _ _ h=>by cases h⟩
def SqV.no(i:Nat):SqV i:=⟨0,[],(fun _ h=>by cases h),fun _=>none,fun _ _ h=>by cases h⟩
instance CT.inh:(c:CT)->Inhabited c.T
 |.int _=>(inferInstance:Inhabited Int)
 |.bool=>(inferInstance:Inhabited Bool)
 |.str=>(inferInstance:Inhabited (List UInt8))
 |.slc c=>(inferInstance:Inhabited (List c.T))
 |.us i=>Tab.inh i
 |.fn i=>⟨FnV.no i⟩
 |.ptr c=>(inferInstance:Inhabited (Option c.T))
 |.mp k v=>(inferInstance:Inhabited (List (k.T×v.T)))
 |.sq i=>⟨SqV.no i⟩
 |.yl i=>(inferInstance:Inhabited (List (TabT.FA i)))
@[reducible] def wzra(c:CT):(l:List CT)->Inhabited (RowC c.T l)
 |[]=>c.inh
 |d :: l=>@instInhabitedProd _ _ c.inh (wzra d l)
instance rowInh:(l:List CT)->Inhabited (Row l)
 |[]=>(inferInstance:Inhabited Unit)
 |c :: l=>wzra c l
def wT:(c:CT)->c.T->SV
 |.int k,n=>.int k n
 |.bool,b=>.bool b
 |.str,s=>.str s
 |.slc c,l=>.slc c l
 |.us i,x=>.agg (rowS (Tab.ls i) (Tab.unS i x))
 |.fn i,x=>.fnp i x
 |.ptr c,x=>.optr c x
 |.mp k v,x=>.mpv k v x
 |.sq i,x=>.sqp i x
 |.yl i,x=>.ylv i x
def wzo5(i:Nat)(l:List SV):Option (TabT.T i):=match wzuk (Tab.ls i) l with
 |some r=>some (Tab.mkS i r)
 |none=>none
def ofAg(i:Nat):SV->Option (TabT.T i)
 |.agg l=>wzo5 i l
 |_=>none
def wzlh:(c:CT)->List SV->Option c.T
 |.us i=>wzo5 i
 |.int k=>wzly (ofI k)
 |.bool=>wzly ofBT
 |.str=>wzly wzon
 |.slc c=>wzly (ofSl c)
 |.fn i=>wzly (ofFn i)
 |.ptr c=>wzly (ofPt c)
 |.mp _ _=>fun _=>none
 |.sq i=>wzly (ofSq i)
 |.yl _=>fun _=>none
def ofPw(c:CT):SV->Option (Option c.T)
 |.cptr l 0=>match wzlh c l with
  |some x=>some (some x)
  |none=>none
 |v=>ofPt c v
def ofW:(c:CT)->SV->Option c.T
 |.us i=>ofAg i
 |.int k=>ofI k
 |.bool=>ofBT
 |.str=>wzon
 |.slc c=>ofSl c
 |.fn i=>ofFn i
 |.ptr c=>ofPw c
 |.mp k v=>ofMp k v
 |.sq i=>ofSq i
 |.yl i=>ofYl i
def wzov(c:CT):(l:List CT)->RowC c.T l->List SV
 |[],x=>[wT c x]
 |d :: l,x=>wT c x.1 :: wzov d l x.2
def rowW:(l:List CT)->Row l->List SV
 |[],_=>[]
 |c :: l,x=>wzov c l x
def wzl3(c:CT):(l:List CT)->List SV->Option (RowC c.T l)
 |[]=>wzly (ofW c)
 |d :: l=>wznb (ofW c) (wzl3 d l)
def wzmq:(l:List CT)->List SV->Option (Row l)
 |[]=>wzor
 |c :: l=>wzl3 c l
def wzj2:(c:CT)->c.T->List SV
 |.us i,x=>rowS (Tab.ls i) (Tab.unS i x)
 |.int k,n=>[.int k n]
 |.bool,b=>[.bool b]
 |.str,s=>[.str s]
 |.slc c,l=>[.slc c l]
 |.fn i,x=>[.fnp i x]
 |.ptr c,x=>[.optr c x]
 |.mp k v,x=>[.mpv k v x]
 |.sq i,x=>[.sqp i x]
 |.yl i,x=>[.ylv i x]
def SV.cells:SV->Option (List SV)
 |.agg l=>some l
 |.tup _=>none
 |.top=>none
 |.mpv _ _ _=>none
 |.ylv _ _=>none
 |x=>some [x]
def retT:(l:List CT)->Row l->SV
 |[c],x=>wT c x
 |l,x=>.tup (rowW l x)
class kzhw:Prop where
 unmk:∀(i:Nat) (r:Row (Tab.ls i)),Tab.unS i (Tab.mkS i r)=r
 cells:∀(i:Nat) (x:TabT.T i),Tab.cA i x=emL (rowS (Tab.ls i) (Tab.unS i x))
 nor:∀(i:Nat) (x:TabT.T i) (v:AVal),v∈Tab.cA i x->qzt v
 pos:∀i,∀c∈Tab.ls i,∀j,c≠.us j
 aA:∀(i:Nat) (x:Row (Tab.fa i)),TabT.aA i (cast (Tab.eA i) x)=emL (rowW (Tab.fa i) x)
 aR:∀(i:Nat) (x:Row (Tab.fr i)),TabT.aR i (cast (Tab.eR i) x)=emS (retT (Tab.fr i) x)
 kq:∀(i:Nat) (x y:TabT.T i) (l:List Nat),Tab.kk i=some l->(Tab.cA i x).map AVal.kind=l/\wzd (Tab.cA i x) (Tab.cA i y)=some (Tab.ke i x y)
end
universe u
def tall:Unit:=(fun _=>()) (lp (fun(n:Nat)=>some (.inr (α:=Nat) n)) 0)
def kond{α:Sort u}(c:Bool)(x y:α):α:=match c,tall with
 |true,_=>x
 |false,_=>y
theorem wzzt{α:Sort u}(x y:α):kond true x y=x:=rfl
theorem wzzu{α:Sort u}(x y:α):kond false x y=y:=rfl
theorem wzir{a b:Nat}:Nat.beq a b=true↔a=b:=by simp
theorem wzmb{a b:Nat}:Nat.beq a b=false↔a≠b:=by rw[<-Bool.not_eq_true,wzir]
theorem Ws.getD:∀{l l':List AVal},Ws l l'->∀j,W (l.getD j .top) (l'.getD j .top)
 |[],[],_,j=>.refl _
 |x :: l,y :: l',h,0=>h.1
 |x :: l,y :: l',h,j+1=>Ws.getD (l:=l) (l':=l') h.2 j
 |[],_ :: _,h,_=>h.elim
 |_ :: _,[],h,_=>h.elim
theorem Ws.append{l l' m m':List AVal}(h:Ws l l')(k:Ws m m'):Ws (l++m) (l'++m'):=by
 match l,l',h with
 |[],[],_=>exact k
 |x :: l,y :: l',h=>exact⟨h.1,Ws.append h.2 k⟩
def lt3:List Nat->Bool
 |[]=>true
 |k :: l=>kond (Nat.blt k 3) (lt3 l) false
theorem jzdf:∀{l:List Nat},lt3 l=true->∀k∈l,k<3
 |[],_,k,h=>by cases h
 |j :: l,e,k,h=>by
  obtain⟨h1,h2⟩:Nat.blt j 3=true/\lt3 l=true:=by
   have e:kond (Nat.blt j 3) (lt3 l) false=true:=e;cases hb:Nat.blt j 3 with
   |true=>rw[hb]at e;exact⟨rfl,e⟩
   |false=>rw[hb]at e;cases e
  rcases Gb3.1 h with rfl|h
  ·simpa [Gco] using h1
  ·exact jzdf h2 k h
theorem W.scalar{x y:AVal}(h:W x y)(k:y.kind<3):x=y:=by cases h<;>first|rfl|(simp[AVal.kind]at k)
theorem Ws.scalar:∀{l m:List AVal},Ws l m->(∀y∈m,y.kind<3)->l=m
 |[],[],_,_=>rfl
 |x :: l,y :: m,h,k=>by rw[h.1.scalar (k y (Gb5 ..)),Ws.scalar (l:=l) (m:=m) h.2 fun z hz=>k z (Gb4 _ hz)]
 |[],_ :: _,h,_=>h.elim
 |_ :: _,[],h,_=>h.elim
theorem jzdc{α:Type}{n:Nat}{f:α->List AVal}{x:Option α}:(ptA n f x).one=true:=by cases x<;>rfl
theorem jzdd{α:Type}{n:Nat}{f:α->List AVal}{x:Option α}(h:∀y v,v∈f y->qzt v):qzt (ptA n f x):=by
 cases x with
 |none=>exact .nilp
 |some y =>
  refine .cptr _ _ _ fun j _=>?_;simp only[Ga9];cases e:(f y)[j]? with
  |none=>exact .top
  |some v=>exact h y v (Gb9 e)
theorem jzem{A B:Type}(e:A=B)(h:Option A=Option B)(x:Option A):cast h x=x.map (cast e):=by subst e;cases x<;>rfl
section
variable [Tab]
structure Fc where
 f:FuncId
 a:List CT
 p:List Bool
 r:List CT
 F:Row a->Option (Row r)
def ofP(c:CT):Bool->SV->Option c.T
 |false,v=>ofW c v
 |true,.cptr l 0=>wzlh c l
 |_,_=>none
def wzns(c:CT):(l:List CT)->List Bool->List SV->Option (RowC c.T l)
 |[],p=>wzly (ofP c (p.headD false))
 |d :: l,p=>wznb (ofP c (p.headD false)) (wzns d l p.tail)
def wzox:(l:List CT)->List Bool->List SV->Option (Row l)
 |[],_=>wzor
 |c :: l,p=>wzns c l p
def prmC(c:CT):Bool->c.T->SV
 |false,x=>wT c x
 |true,x=>.cptr (wzj2 c x) 0
def wzp7(c:CT):(l:List CT)->List Bool->RowC c.T l->List SV
 |[],p,x=>[prmC c (p.headD false) x]
 |d :: l,p,x=>prmC c (p.headD false) x.1 :: wzp7 d l p.tail x.2
def prmS:(l:List CT)->List Bool->Row l->List SV
 |[],_,_=>[]
 |c :: l,p,x=>wzp7 c l p x
theorem wzl5:∀(l:List SV),emL l=l.map emS
 |[]=>rfl
 |x :: l=>by show emS x :: emL l=_;rw[wzl5 l];rfl
theorem wziw(l:List SV):(emL l).length=l.length:=by simp[wzl5]
theorem wzl1(l m:List SV):emL (l++m)=emL l++emL m:=by simp[wzl5]
theorem wzm4(n:Nat)(l:List SV):emL (l.take n)=(emL l).take n:=by simp[wzl5]
theorem wzm5(n:Nat)(l:List SV):emL (l.drop n)=(emL l).drop n:=by simp[wzl5]
theorem wzqe(l:List SV)(i:Nat):emS (l.getD i .top)=(emL l).getD i .top:=by simp only[wzl5,Ga9,Gbh];cases l[i]?<;>rfl
theorem jz4i(l:List SV)(i:Nat)(x:SV):emL (l.set i x)=(emL l).set i (emS x):=by simp[wzl5,List.map_set]
theorem wzph(v:SV):unv (emS v)=emS v:=by
 cases v with
 |optr c x=>cases x<;>rfl
 |_=>rfl
theorem wzpm(v:SV)(c:Bool):unc c (emS v):=by
 cases v with
 |optr d x=>cases x<;>exact trivial
 |_=>exact trivial
theorem wzmj{v:SV}{l:List SV}(h:v.cells=some l):wzk (emS v)=some (emL l):=by
 cases v with
 |optr c x=>simp only[SV.cells]at h;cases h;cases x<;>rfl
 |_=>simp only[SV.cells]at h<;>cases h<;>rfl
theorem wzof{c c':CT}{l:List c.T}{m:List c'.T}(h:wzmw c c' l=some m):slcV c.n c.cA l=slcV c'.n c'.cA m/\l.length=m.length/\qzd c.cA l=qzd c'.cA m/\c=c':=by
 unfold wzmw at h;split at h
 ·rename_i e _;subst e;cases h;exact⟨rfl,rfl,rfl,rfl⟩
 ·cases h
theorem wzp4(c:CT):∀(l:List CT) (r:RowC c.T l),(wzp8 c l r).length=l.length+1
 |[],r=>rfl
 |d :: l,r=>by show _+1=_;rw[wzp4 d l r.2];rfl
theorem wzth:∀(l:List CT) (r:Row l),(rowS l r).length=l.length
 |[],r=>rfl
 |c :: l,r=>wzp4 c l r
theorem wzm1:∀(c:CT) (x:c.T),(wzj2 c x).length=c.n
 |.int k,x=>rfl
 |.bool,x=>rfl
 |.str,x=>rfl
 |.slc c,x=>rfl
 |.us i,x=>wzth _ _
 |.fn i,x=>rfl
 |.ptr c,x=>rfl
 |.mp _ _,x=>rfl
 |.sq _,x=>rfl
 |.yl _,x=>rfl
theorem wz9o(c:CT):∀(l:List CT) (r:RowC c.T l),(wzov c l r).length=l.length+1
 |[],r=>rfl
 |d :: l,r=>by show _+1=_;rw[wz9o d l r.2];rfl
theorem jzez:∀(l:List CT) (r:Row l),(rowW l r).length=l.length
 |[],r=>rfl
 |c :: l,r=>wz9o c l r
theorem wzqn{k:IntKind}{v:SV}{x:Int}(h:ofI k v=some x):v=.int k x:=by
 unfold ofI at h;split at h
 ·split at h;·rename_i e;subst e;cases h;rfl
  ·cases h
 ·cases h
theorem wzq0{v:SV}{x:Bool}(h:ofBT v=some x):v=.bool x:=by unfold ofBT at h;split at h<;>cases h;rfl
theorem wzoi{v:SV}{x:List UInt8}(h:wzon v=some x):v=.str x:=by unfold wzon at h;split at h<;>cases h;rfl
theorem wzpt{c:CT}{v:SV}{x:List c.T}(h:ofSl c v=some x):W (emS v) (slcV c.n c.cA x)/\(emS v).one=true:=by
 unfold ofSl at h;split at h
 ·have:=wzof h;refine⟨?_,rfl⟩;rw[<-this.1];exact .refl _
 ·cases h;exact⟨.nil _ _,rfl⟩
 ·cases h
theorem wz63{i:Nat}{v:SV}{x:FnV i}(h:ofFn i v=some x):v=.fnp i x:=by
 unfold ofFn at h;split at h
 ·split at h;·rename_i e;subst e;cases h;rfl
  ·cases h
 ·cases h
theorem wz6k{i:Nat}{v:SV}{x:SqV i}(h:ofSq i v=some x):v=.sqp i x:=by
 unfold ofSq at h;split at h
 ·split at h;·rename_i e;subst e;cases h;rfl
  ·cases h
 ·cases h
theorem wz9d{i:Nat}{v:SV}{x:List (TabT.FA i)}(h:ofYl i v=some x):v=.ylv i x:=by
 unfold ofYl at h;split at h
 ·split at h;·rename_i e;subst e;cases h;rfl
  ·cases h
 ·cases h
theorem jzel{c c':CT}{x:Option c.T}{y:Option c'.T}(h:jzc3 c c' x=some y):ptA c.n c.cA x=ptA c'.n c'.cA y:=by
 unfold jzc3 at h;split at h
 ·rename_i e _;subst e;cases h;rfl
 ·cases h
theorem wz66{c:CT}{v:SV}{x:Option c.T}(h:ofPt c v=some x):emS v=ptA c.n c.cA x/\(emS v).one=true:=by
 unfold ofPt at h;split at h
 ·exact⟨jzel h,jzdc⟩
 ·cases h;exact⟨rfl,rfl⟩
 ·cases h
theorem wzrk:∀{c:CT} {v:SV} {x:c.T},ofLf c v=some x->W (emS v) (emS (lfT c x))/\(emS v).one=true
 |.int k,v,x,h=>by rw[wzqn h];exact⟨.refl _,rfl⟩
 |.bool,v,x,h=>by rw[wzq0 h];exact⟨.refl _,rfl⟩
 |.str,v,x,h=>by rw[wzoi h];exact⟨.refl _,rfl⟩
 |.slc c,v,x,h=>wzpt h
 |.us i,v,x,h=>by cases h
 |.fn i,v,x,h=>by rw[wz63 h];exact⟨.refl _,rfl⟩
 |.ptr c,v,x,h=>by obtain⟨h1,h2⟩:=wz66 h;exact⟨by rw[h1];exact .refl _,h2⟩
 |.mp _ _,v,x,h=>by cases h
 |.sq i,v,x,h=>by rw[wz6k h];exact⟨.refl _,rfl⟩
 |.yl _,v,x,h=>by cases h
theorem wzkd{t:Type}{f:SV->Option t}{v:List SV}{x:t}(h:wzly f v=some x):∃u,v=[u]/\f u=some x:=by
 unfold wzly at h;split at h
 ·exact⟨_,rfl,h⟩
 ·cases h
theorem wzmf{t u:Type}{f:SV->Option t}{g:List SV->Option u}{v:List SV}{x:t×u}(h:wznb f g v=some x):∃y r,v=y :: r/\f y=some x.1/\g r=some x.2:=by
 unfold wznb at h;split at h
 ·cases h
 ·rename_i y r;split at h
  ·rename_i a b h1 h2;cases h;exact⟨y,r,rfl,h1,h2⟩
  ·cases h
theorem wzmz{v:List SV}{x:Unit}(h:wzor v=some x):v=[]:=by
 unfold wzor at h;split at h
 ·rfl
 ·cases h
theorem wzp6:∀(c:CT) (l:List CT) (v:List SV) (r:RowC c.T l),wzoo c l v=some r->Ws (emL v) (emL (wzp8 c l r))/\vz6 (emL v)=true
 |c,[],v,r,h=>by obtain⟨u,rfl,h⟩:=wzkd (f:=ofLf c) h;obtain⟨h1,h2⟩:=wzrk h;exact⟨⟨h1,trivial⟩,by show(_&&true)=true;rw[h2];rfl⟩
 |c,d :: l,v,r,h=>by obtain⟨y,q,rfl,h1,h2⟩:=wzmf (f:=ofLf c) (g:=wzoo d l) h;obtain⟨p1,p2⟩:=wzrk h1;obtain⟨q1,q2⟩:=wzp6 d l q r.2 h2;exact⟨⟨p1,q1⟩,by show(_&&_)=true;rw[p2,q2];rfl⟩
theorem wztv{l:List CT}{v:List SV}{r:Row l}(h:wzuk l v=some r):Ws (emL v) (emL (rowS l r))/\vz6 (emL v)=true:=by
 cases l with
 |nil=>rw[wzmz h];exact⟨trivial,rfl⟩
 |cons c l=>exact wzp6 c l v r h
theorem wzu9{i:Nat}{v:SV}{x:TabT.T i}(h:ofAg i v=some x):∃l,v=.agg l/\wzo5 i l=some x:=by
 unfold ofAg at h;split at h
 ·exact⟨_,rfl,h⟩
 ·cases h
def ex1:SV->Bool
 |.int _ _ | .bool _ | .str _ | .slc _ _ | .optr _ _ | .fnp _ _ | .sqp _ _=>true
 |_=>false
def exL:List SV->Bool
 |[]=>true
 |v :: l=>kond (ex1 v) (exL l) false
def exV:SV->Bool
 |.agg l=>exL l
 |v=>ex1 v
theorem jzah{v:SV}{l:List SV}(h:exL (v :: l)=true):ex1 v=true/\exL l=true:=by
 have h:kond (ex1 v) (exL l) false=true:=h;cases hb:ex1 v with
 |true=>rw[hb]at h;exact⟨rfl,h⟩
 |false=>rw[hb]at h;cases h
theorem jzca:∀{c:CT} {v:SV} {x:c.T},ofLf c v=some x->ex1 v=true->emS v=emS (lfT c x)
 |.int k,v,x,h,_=>by rw[wzqn h];rfl
 |.bool,v,x,h,_=>by rw[wzq0 h];rfl
 |.str,v,x,h,_=>by rw[wzoi h];rfl
 |.slc c,v,x,h,e=>by
  have h:ofSl c v=some x:=h;unfold ofSl at h;split at h
  ·exact(wzof h).1
  ·cases e
  ·cases h
 |.us i,v,x,h,_=>by cases h
 |.fn i,v,x,h,_=>by rw[wz63 h];rfl
 |.ptr c,v,x,h,_=>(wz66 h).1
 |.mp _ _,v,x,h,_=>by cases h
 |.sq i,v,x,h,_=>by rw[wz6k h];rfl
 |.yl _,v,x,h,_=>by cases h
theorem wz9g:∀(c:CT) (l:List CT) (v:List SV) (r:RowC c.T l),wzoo c l v=some r->exL v=true->emL v=emL (wzp8 c l r)
 |c,[],v,r,h,e=>by obtain⟨u,rfl,h⟩:=wzkd (f:=ofLf c) h;show [emS u]=[emS (lfT c r)];rw[jzca h (jzah e).1]
 |c,d :: l,v,r,h,e=>by obtain⟨y,q,rfl,h1,h2⟩:=wzmf (f:=ofLf c) (g:=wzoo d l) h;obtain⟨e1,e2⟩:=jzah e;show emS y :: emL q=emS (lfT c r.1) :: emL (wzp8 d l r.2);rw[jzca h1 e1,wz9g d l q r.2 h2 e2]
theorem jzew{l:List CT}{v:List SV}{r:Row l}(h:wzuk l v=some r)(e:exL v=true):emL v=emL (rowS l r):=by
 cases l with
 |nil=>rw[wzmz h];rfl
 |cons c l=>exact wz9g c l v r h e
variable [kzhw]
theorem wzk1:∀(c:CT) (x:c.T),emL (wzj2 c x)=c.cA x
 |.int k,x=>rfl
 |.bool,x=>rfl
 |.str,x=>rfl
 |.slc c,x=>rfl
 |.us i,x=>(kzhw.cells i x).symm
 |.fn i,x=>rfl
 |.ptr c,x=>rfl
 |.mp _ _,x=>rfl
 |.sq _,x=>rfl
 |.yl _,x=>rfl
theorem wznh(c:CT)(x:c.T):(c.cA x).length=c.n:=by rw[<-wzk1,wziw,wzm1]
theorem wzq4{i:Nat}{v:List SV}{x:TabT.T i}(h:wzo5 i v=some x):Ws (emL v) (Tab.cA i x)/\vz6 (emL v)=true:=by
 unfold wzo5 at h;split at h
 ·rename_i r hr;cases h;have:=wztv hr;rw[kzhw.cells,kzhw.unmk];exact this
 ·cases h
theorem wzke:∀{c:CT} {v:List SV} {x:c.T},wzlh c v=some x->Ws (emL v) (c.cA x)/\vz6 (emL v)=true
 |.us i,v,x,h=>wzq4 h
 |.int k,v,x,h=>by obtain⟨u,rfl,h⟩:=wzkd h;rw[wzqn h];exact⟨⟨.refl _,trivial⟩,rfl⟩
 |.bool,v,x,h=>by obtain⟨u,rfl,h⟩:=wzkd h;rw[wzq0 h];exact⟨⟨.refl _,trivial⟩,rfl⟩
 |.str,v,x,h=>by obtain⟨u,rfl,h⟩:=wzkd h;rw[wzoi h];exact⟨⟨.refl _,trivial⟩,rfl⟩
 |.slc c,v,x,h=>by obtain⟨u,rfl,h⟩:=wzkd h;have:=wzpt h;exact⟨⟨this.1,trivial⟩,by show(_&&true)=true;rw[this.2];rfl⟩
 |.fn i,v,x,h=>by obtain⟨u,rfl,h⟩:=wzkd h;rw[wz63 h];exact⟨⟨.refl _,trivial⟩,rfl⟩
 |.ptr c,v,x,h=>by obtain⟨u,rfl,h⟩:=wzkd h;obtain⟨h1,h2⟩:=wz66 h;exact⟨⟨by rw[h1];exact .refl _,trivial⟩,by show(_&&true)=true;rw[h2];rfl⟩
 |.mp _ _,v,x,h=>by cases h
 |.sq i,v,x,h=>by obtain⟨u,rfl,h⟩:=wzkd h;rw[wz6k h];exact⟨⟨.refl _,trivial⟩,rfl⟩
 |.yl _,v,x,h=>by cases h
theorem wzwa(i:Nat)(x:TabT.T i):emS (wT (.us i) x)=.agg (Tab.cA i x):=by rw[kzhw.cells];rfl
theorem jzf4{c:CT}{l:List SV}{x:c.T}(h:wzlh c l=some x):W (emS (.cptr l 0)) (ptA c.n c.cA (some x)):=by
 obtain⟨h1,_⟩:=wzke h;show W (.cptr (fun k=>(emL l).getD k .top) l.length 0) (.cptr (fun k=>(c.cA x).getD k .top) c.n 0);have e:l.length=c.n:=by rw[<-wznh c x,<-h1.at.1,wziw]
 rw[e];exact .cptr _ _ _ _ fun j _=>h1.getD j
theorem wzo2:∀{c:CT} {v:SV} {x:c.T},ofW c v=some x->W (emS v) (emS (wT c x))
 |.us i,v,x,h=>by obtain⟨l,rfl,h⟩:=wzu9 h;have e:emS (wT (.us i) x)=.agg (Tab.cA i x):=wzwa i x;exact e▸qzqa.2 (wzq4 h).1
 |.int k,v,x,h=>by rw[wzqn h];exact .refl _
 |.bool,v,x,h=>by rw[wzq0 h];exact .refl _
 |.str,v,x,h=>by rw[wzoi h];exact .refl _
 |.slc c,v,x,h=>(wzpt h).1
 |.fn i,v,x,h=>by rw[wz63 h];exact .refl _
 |.ptr c,v,x,h=>by
  have h:ofPw c v=some x:=h;unfold ofPw at h;split at h
  ·split at h;·rename_i y hy;cases h;exact jzf4 hy
   ·cases h
  ·rw[(wz66 h).1];exact .refl _
 |.mp k v,u,x,h=>by
  have h:ofMp k v u=some x:=h;unfold ofMp at h;split at h
  ·exact .refl _
  ·cases h
 |.sq i,v,x,h=>by rw[wz6k h];exact .refl _
 |.yl i,v,x,h=>by rw[wz9d h];exact .refl _
theorem jzao:∀{c:CT} {v:SV} {x:c.T},ofW c v=some x->exV v=true->emS v=emS (wT c x)
 |.int k,v,x,h,_=>by rw[wzqn h];rfl
 |.bool,v,x,h,_=>by rw[wzq0 h];rfl
 |.str,v,x,h,_=>by rw[wzoi h];rfl
 |.slc c,v,x,h,e=>by
  have h:ofSl c v=some x:=h;unfold ofSl at h;split at h
  ·exact(wzof h).1
  ·cases e
  ·cases h
 |.us i,v,x,h,e=>by
  obtain⟨l,rfl,k⟩:=wzu9 h;unfold wzo5 at k;split at k
  ·rename_i r hr;cases k;have e2:emS (wT (.us i) (Tab.mkS i r))=.agg (emL (rowS (Tab.ls i) (Tab.unS i (Tab.mkS i r)))):=rfl;rw[e2,kzhw.unmk];show AVal.agg (emL l)=_;rw[jzew hr e]
  ·cases k
 |.fn i,v,x,h,_=>by rw[wz63 h];rfl
 |.ptr c,v,x,h,e=>by
  have h:ofPw c v=some x:=h;unfold ofPw at h;split at h
  ·cases e
  ·exact(wz66 h).1
 |.mp _ _,v,x,h,e=>by
  have h:ofMp _ _ v=some x:=h;unfold ofMp at h;split at h
  ·rfl
  ·cases h
 |.sq i,v,x,h,_=>by rw[wz6k h];rfl
 |.yl i,v,x,h,_=>by rw[wz9d h];rfl
theorem wzpb:∀(c:CT) (l:List CT) (v:List SV) (r:RowC c.T l),wzl3 c l v=some r->Ws (emL v) (emL (wzov c l r))
 |c,[],v,r,h=>by obtain⟨u,rfl,h⟩:=wzkd (f:=ofW c) h;exact⟨wzo2 h,trivial⟩
 |c,d :: l,v,r,h=>by obtain⟨y,q,rfl,h1,h2⟩:=wzmf (f:=ofW c) (g:=wzl3 d l) h;exact⟨wzo2 h1,wzpb d l q r.2 h2⟩
theorem wzsl{l:List CT}{v:List SV}{r:Row l}(h:wzmq l v=some r):Ws (emL v) (emL (rowW l r)):=by
 cases l with
 |nil=>rw[wzmz h];exact trivial
 |cons c l=>exact wzpb c l v r h
theorem wzsq:∀(c:CT) (x:c.T) (v:AVal),v∈c.cA x->qzt v
 |.int k,x,v,h=>qz1 v h
 |.bool,x,v,h=>qzh2 v h
 |.str,x,v,h=>qzij v h
 |.slc c,x,v,h=>wzts (wzsq c) v h
 |.us i,x,v,h=>kzhw.nor i x v h
 |.fn i,x,v,h=>by
  cases h with
  |head=>exact .fn _ _ _ x.nr
  |tail _ h=>cases h
 |.ptr c,x,v,h=>by
  cases h with
  |head=>exact jzdd (wzsq c)
  |tail _ h=>cases h
 |.mp _ _,x,v,h=>by
  cases h with
  |head=>exact .top
  |tail _ h=>cases h
 |.sq i,x,v,h=>by
  cases h with
  |head=>exact .fn _ _ _ x.nr
  |tail _ h=>cases h
 |.yl _,x,v,h=>by
  cases h with
  |head=>exact .top
  |tail _ h=>cases h
end
section
variable [Tab]
mutual
theorem wzrl[kzhw]:∀(v:SV),qzt (emS v)
 |.int _ _=>.int _ _
 |.bool _=>.bool _
 |.str _=>.str _
 |.nil=>.nils
 |.slc c l=>qzj (wzsq c)
 |.agg l=>.agg _ (wzl4 l)
 |.tup l=>.tup _ (wzl4 l)
 |.cptr l off=>.cptr _ _ _ fun j hj=>by
   simp only[Ga9];cases e:(emL l)[j]? with
   |none=>exact .top
   |some x=>exact wzl4 l x (Gb9 e)
 |.fn f nb l=>.fn _ _ _ (wzl4 l)
 |.fnp i x=>.fn _ _ _ x.nr
 |.nilp=>.nilp
 |.optr c x=>jzdd (wzsq c)
 |.mpv _ _ _=>.top
 |.sqp i x=>.fn _ _ _ x.nr
 |.ylv _ _=>.top
 |.top=>.top
theorem wzl4[kzhw]:∀(l:List SV) (x:AVal),x∈emL l->qzt x
 |[],x,h=>by cases h
 |v :: l,x,h=>by
  cases h with
  |head=>exact wzrl v
  |tail _ h=>exact wzl4 l x h
end
end
section
variable [Tab]
theorem wzsg[kzhw]{c:CT}{b:Bool}{v:SV}{x:c.T}(h:ofP c b v=some x):W (emS v) (emS (prmC c b x)):=by
 unfold ofP at h;split at h
 ·exact wzo2 h
 ·rename_i l;obtain⟨h1,_⟩:=wzke h;show W (.cptr (fun k=>(emL l).getD k .top) l.length 0) (.cptr (fun k=>(emL (wzj2 c x)).getD k .top) (wzj2 c x).length 0);have e:l.length=(wzj2 c x).length:=by rw[wzm1,<-wznh c x,<-h1.at.1,wziw]
  rw[e,wzk1];exact .cptr _ _ _ _ fun j _=>h1.getD j
 ·cases h
theorem wzoz[kzhw]:∀(c:CT) (l:List CT) (p:List Bool) (v:List SV) (r:RowC c.T l),wzns c l p v=some r->Ws (emL v) (emL (wzp7 c l p r))
 |c,[],p,v,r,h=>by obtain⟨u,rfl,h⟩:=wzkd (f:=ofP c (p.headD false)) h;exact⟨wzsg h,trivial⟩
 |c,d :: l,p,v,r,h=>by obtain⟨y,q,rfl,h1,h2⟩:=wzmf (f:=ofP c (p.headD false)) (g:=wzns d l p.tail) h;exact⟨wzsg h1,wzoz d l p.tail q r.2 h2⟩
theorem wzse[kzhw]{l:List CT}{p:List Bool}{v:List SV}{r:Row l}(h:wzox l p v=some r):Ws (emL v) (emL (prmS l p r)):=by
 cases l with
 |nil=>rw[wzmz h];exact trivial
 |cons c l=>exact wzoz c l p v r h
theorem wzr1(nb:Nat)(ags caps:List SV):emL (fnArgs nb ags caps)=fnArgs nb (emL ags) (emL caps):=by unfold fnArgs;rw[wzl1,wzl1,wzm4,wzm5]
structure FcOk(C:Fc):Prop where
 en:kzz TabT.P C.f=true
 ok:∀x y,C.F x=some y->qzq TabT.E TabT.P C.f (emL (prmS C.a C.p x)) (emS (retT C.r y))
structure Fk extends Fc where
 ok:FcOk toFc
structure Sc where
 f:FuncId
 a:List CT
 p:List Bool
 i:Nat
 G:Row a->(List (TabT.FA i)->Option Bool)->Option (List (TabT.FA i))
structure ScOk(C:Sc):Prop where
 ok:∀x st l,C.G x st=some l->SqOk TabT.E TabT.P C.f (emL (prmS C.a C.p x)) (TabT.aA C.i) st l
structure Sk extends Sc where
 ok:ScOk toSc
structure Qc where
 f:FuncId
 a:List CT
 p:List Bool
 S:Sk
 F:Row a->Option (Row S.a)
structure QcOk(Q:Qc):Prop where
 en:kzz TabT.P Q.f=true
 ok:∀x y,Q.F x=some y->qzq TabT.E TabT.P Q.f (emL (prmS Q.a Q.p x)) (.fn Q.S.f 0 (emL (prmS Q.S.a Q.S.p y)))
structure Qk extends Qc where
 ok:QcOk toQc
def keyC(id ep:Nat):AVal:=.cptr (fun j=>[AVal.mp id ep].getD j .top) 1 0
def mEs(k v:CT)(l:List (k.T×v.T)):List (AVal×AVal):=l.map fun p=>(emS (wT k p.1),emS (wT v p.2))
structure Mk where
 f:FuncId
 g:FuncId
 en:kzz TabT.P f=true
 ok:∀id ep,qzq TabT.E TabT.P f [.mp id ep] (.fn g 0 [keyC id ep])
structure Oc where
 f:FuncId
 g:FuncId
 k:CT
 v:CT
 a:List CT
 p:List Bool
 r:List CT
 F:List (k.T×v.T)->Row a->Option (Row r)
structure OcOk(C:Oc):Prop where
 en:kzz TabT.P C.f=true
 ok:∀(l:List (C.k.T×C.v.T)) x y (h:qzl) id ep,C.F l x=some y->h id=.amap ep (mEs C.k C.v l)->qzcd TabT.E TabT.P C.f (.fn C.g 0 [keyC id ep] :: emL (prmS C.a C.p x)) h [id] (emS (retT C.r y))
structure Ok1 extends Oc where
 ok:OcOk toOc
structure Wc where
 f:FuncId
 c:CT
 a:List CT
 p:List Bool
 F:List c.T->Row a->Option (List c.T)
structure WcOk(C:Wc):Prop where
 en:kzz TabT.P C.f=true
 ok:∀(l:List C.c.T) x r (h:qzl) id ep,C.F l x=some r->h id=ownO ep C.c.n C.c.cA l->ATr TabT.E TabT.P C.f (ownV id ep l :: emL (prmS C.a C.p x)) h fun v h'=>v=.tup []/\h'=hset h id (ownO ep C.c.n C.c.cA r)/\r.length=l.length
structure Wk extends Wc where
 ok:WcOk toWc
def jzff(c:CT)(l:List c.T)(X:AVal)(h:qzl)(s:Nat):Prop :=
 X=slcV c.n c.cA l\/∃id ep lo m,id≠s/\X=.vec id ep lo l.length/\h id=.vec ep c.n (List.length m) (qzd c.cA m)/\lo+l.length<=m.length/\∀k,k<l.length->qzd c.cA m (lo+k)=qzd c.cA l k
structure Cc where
 f:FuncId
 c:CT
 a:List CT
 p:List Bool
 F:List c.T->Row a->Option (List c.T)
structure CcOk(C:Cc):Prop where
 en:kzz TabT.P C.f=true
 ok:∀(l:List C.c.T) x r (X:AVal) (h:qzl) s,C.F l x=some r->(h s).plain->jzff C.c l X h s->ATr TabT.E TabT.P C.f (X :: emL (prmS C.a C.p x)) h fun v h'=>∃ep,v=.vec s ep 0 r.length/\0<r.length/\h'=hset h s (.vec ep C.c.n r.length (qzd C.c.cA r))
structure Ck extends Cc where
 ok:CcOk toCc
structure Dc where
 f:FuncId
 c:CT
 a:List CT
 p:List Bool
 F:Row a->Option (List c.T)
structure DcOk(C:Dc):Prop where
 en:kzz TabT.P C.f=true
 ok:∀x r (h:qzl) s,C.F x=some r->(h s).plain->ATr TabT.E TabT.P C.f (emL (prmS C.a C.p x)) h fun v h'=>∃ep,v=ownV s ep r/\h'=hset h s (ownO ep C.c.n C.c.cA r)
structure Dk extends Dc where
 ok:DcOk toDc
structure Zc where
 f:FuncId
 c:CT
 a:List CT
 p:List Bool
 F:List c.T->Row a->Option (List c.T)
structure ZcOk(C:Zc):Prop where
 en:kzz TabT.P C.f=true
 ok:∀(l:List C.c.T) x r (h:qzl) id ep,C.F l x=some r->h id=ownO ep C.c.n C.c.cA l->ATr TabT.E TabT.P C.f (ownV id ep l :: emL (prmS C.a C.p x)) h fun v h'=>v=slcV C.c.n C.c.cA r/\∃e,h'=hset h id (.gone e)
structure Zk extends Zc where
 ok:ZcOk toZc
inductive Fe where
 |k (C:Fk) | s (D:Sk) | q (Q:Qk) | m (M:Mk) | o (O:Ok1) | w (C:Wk) | c (C:Ck) | d (C:Dk) | z (C:Zk)
def wz6s(f:FuncId):List Fe->Option Fk
 |[]=>none
 |.k C :: l=>kond (Nat.beq C.f f) (some C) (wz6s f l)
 |_ :: l=>wz6s f l
def wz7y(f:FuncId):List Fe->Option Sk
 |[]=>none
 |.s C :: l=>kond (Nat.beq C.f f) (some C) (wz7y f l)
 |_ :: l=>wz7y f l
def wz8z(f:FuncId):List Fe->Option Qk
 |[]=>none
 |.q C :: l=>kond (Nat.beq C.f f) (some C) (wz8z f l)
 |_ :: l=>wz8z f l
def wz75(f:FuncId):List Fe->Option Mk
 |[]=>none
 |.m C :: l=>kond (Nat.beq C.f f) (some C) (wz75 f l)
 |_ :: l=>wz75 f l
def wz76(f:FuncId):List Fe->Option Ok1
 |[]=>none
 |.o C :: l=>kond (Nat.beq C.f f) (some C) (wz76 f l)
 |_ :: l=>wz76 f l
def wz71(f:FuncId):List Fe->Option Wk
 |[]=>none
 |.w C :: l=>kond (Nat.beq C.f f) (some C) (wz71 f l)
 |_ :: l=>wz71 f l
def wz6m(f:FuncId):List Fe->Option Ck
 |[]=>none
 |.c C :: l=>kond (Nat.beq C.f f) (some C) (wz6m f l)
 |_ :: l=>wz6m f l
def jz7k(f:FuncId):List Fe->Option Dk
 |[]=>none
 |.d C :: l=>kond (Nat.beq C.f f) (some C) (jz7k f l)
 |_ :: l=>jz7k f l
def jz7s(f:FuncId):List Fe->Option Zk
 |[]=>none
 |.z C :: l=>kond (Nat.beq C.f f) (some C) (jz7s f l)
 |_ :: l=>jz7s f l
theorem wz3c:∀{H:List Fe} {f:FuncId} {C:Fk},wz6s f H=some C->C.f=f
 |[],f,C,h=>by cases h
 |.s _ :: H,f,C,h=>wz3c (H:=H) h
 |.q _ :: H,f,C,h=>wz3c (H:=H) h
 |.m _ :: H,f,C,h=>wz3c (H:=H) h
 |.o _ :: H,f,C,h=>wz3c (H:=H) h
 |.w _ :: H,f,C,h=>wz3c (H:=H) h
 |.c _ :: H,f,C,h=>wz3c (H:=H) h
 |.d _ :: H,f,C,h=>wz3c (H:=H) h
 |.z _ :: H,f,C,h=>wz3c (H:=H) h
 |.k D :: H,f,C,h=>by
  have h:kond (Nat.beq D.f f) (some D) (wz6s f H)=some C:=h;cases hb:Nat.beq D.f f
  ·rw[hb]at h;exact wz3c h
  ·rw[hb]at h;cases h;exact wzir.1 hb
theorem wz3u:∀{H:List Fe} {f:FuncId} {C:Sk},wz7y f H=some C->C.f=f
 |[],f,C,h=>by cases h
 |.k _ :: H,f,C,h=>wz3u (H:=H) h
 |.q _ :: H,f,C,h=>wz3u (H:=H) h
 |.m _ :: H,f,C,h=>wz3u (H:=H) h
 |.o _ :: H,f,C,h=>wz3u (H:=H) h
 |.w _ :: H,f,C,h=>wz3u (H:=H) h
 |.c _ :: H,f,C,h=>wz3u (H:=H) h
 |.d _ :: H,f,C,h=>wz3u (H:=H) h
 |.z _ :: H,f,C,h=>wz3u (H:=H) h
 |.s D :: H,f,C,h=>by
  have h:kond (Nat.beq D.f f) (some D) (wz7y f H)=some C:=h;cases hb:Nat.beq D.f f
  ·rw[hb]at h;exact wz3u h
  ·rw[hb]at h;cases h;exact wzir.1 hb
theorem wz4e:∀{H:List Fe} {f:FuncId} {C:Qk},wz8z f H=some C->C.f=f
 |[],f,C,h=>by cases h
 |.k _ :: H,f,C,h=>wz4e (H:=H) h
 |.s _ :: H,f,C,h=>wz4e (H:=H) h
 |.m _ :: H,f,C,h=>wz4e (H:=H) h
 |.o _ :: H,f,C,h=>wz4e (H:=H) h
 |.w _ :: H,f,C,h=>wz4e (H:=H) h
 |.c _ :: H,f,C,h=>wz4e (H:=H) h
 |.d _ :: H,f,C,h=>wz4e (H:=H) h
 |.z _ :: H,f,C,h=>wz4e (H:=H) h
 |.q D :: H,f,C,h=>by
  have h:kond (Nat.beq D.f f) (some D) (wz8z f H)=some C:=h;cases hb:Nat.beq D.f f
  ·rw[hb]at h;exact wz4e h
  ·rw[hb]at h;cases h;exact wzir.1 hb
theorem wz4c:∀{H:List Fe} {f:FuncId} {C:Mk},wz75 f H=some C->C.f=f
 |[],f,C,h=>by cases h
 |.k _ :: H,f,C,h=>wz4c (H:=H) h
 |.s _ :: H,f,C,h=>wz4c (H:=H) h
 |.q _ :: H,f,C,h=>wz4c (H:=H) h
 |.o _ :: H,f,C,h=>wz4c (H:=H) h
 |.w _ :: H,f,C,h=>wz4c (H:=H) h
 |.c _ :: H,f,C,h=>wz4c (H:=H) h
 |.d _ :: H,f,C,h=>wz4c (H:=H) h
 |.z _ :: H,f,C,h=>wz4c (H:=H) h
 |.m D :: H,f,C,h=>by
  have h:kond (Nat.beq D.f f) (some D) (wz75 f H)=some C:=h;cases hb:Nat.beq D.f f
  ·rw[hb]at h;exact wz4c h
  ·rw[hb]at h;cases h;exact wzir.1 hb
theorem wz37:∀{H:List Fe} {f:FuncId} {C:Ok1},wz76 f H=some C->C.f=f
 |[],f,C,h=>by cases h
 |.k _ :: H,f,C,h=>wz37 (H:=H) h
 |.s _ :: H,f,C,h=>wz37 (H:=H) h
 |.q _ :: H,f,C,h=>wz37 (H:=H) h
 |.m _ :: H,f,C,h=>wz37 (H:=H) h
 |.w _ :: H,f,C,h=>wz37 (H:=H) h
 |.c _ :: H,f,C,h=>wz37 (H:=H) h
 |.d _ :: H,f,C,h=>wz37 (H:=H) h
 |.z _ :: H,f,C,h=>wz37 (H:=H) h
 |.o D :: H,f,C,h=>by
  have h:kond (Nat.beq D.f f) (some D) (wz76 f H)=some C:=h;cases hb:Nat.beq D.f f
  ·rw[hb]at h;exact wz37 h
  ·rw[hb]at h;cases h;exact wzir.1 hb
theorem wz4g:∀{H:List Fe} {f:FuncId} {C:Wk},wz71 f H=some C->C.f=f
 |[],f,C,h=>by cases h
 |.k _ :: H,f,C,h=>wz4g (H:=H) h
 |.s _ :: H,f,C,h=>wz4g (H:=H) h
 |.q _ :: H,f,C,h=>wz4g (H:=H) h
 |.m _ :: H,f,C,h=>wz4g (H:=H) h
 |.o _ :: H,f,C,h=>wz4g (H:=H) h
 |.c _ :: H,f,C,h=>wz4g (H:=H) h
 |.d _ :: H,f,C,h=>wz4g (H:=H) h
 |.z _ :: H,f,C,h=>wz4g (H:=H) h
 |.w D :: H,f,C,h=>by
  have h:kond (Nat.beq D.f f) (some D) (wz71 f H)=some C:=h;cases hb:Nat.beq D.f f
  ·rw[hb]at h;exact wz4g h
  ·rw[hb]at h;cases h;exact wzir.1 hb
theorem wz3q:∀{H:List Fe} {f:FuncId} {C:Ck},wz6m f H=some C->C.f=f
 |[],f,C,h=>by cases h
 |.k _ :: H,f,C,h=>wz3q (H:=H) h
 |.s _ :: H,f,C,h=>wz3q (H:=H) h
 |.q _ :: H,f,C,h=>wz3q (H:=H) h
 |.m _ :: H,f,C,h=>wz3q (H:=H) h
 |.o _ :: H,f,C,h=>wz3q (H:=H) h
 |.w _ :: H,f,C,h=>wz3q (H:=H) h
 |.d _ :: H,f,C,h=>wz3q (H:=H) h
 |.z _ :: H,f,C,h=>wz3q (H:=H) h
 |.c D :: H,f,C,h=>by
  have h:kond (Nat.beq D.f f) (some D) (wz6m f H)=some C:=h;cases hb:Nat.beq D.f f
  ·rw[hb]at h;exact wz3q h
  ·rw[hb]at h;cases h;exact wzir.1 hb
theorem jz6h:∀{H:List Fe} {f:FuncId} {C:Dk},jz7k f H=some C->C.f=f
 |[],f,C,h=>by cases h
 |.k _ :: H,f,C,h=>jz6h (H:=H) h
 |.s _ :: H,f,C,h=>jz6h (H:=H) h
 |.q _ :: H,f,C,h=>jz6h (H:=H) h
 |.m _ :: H,f,C,h=>jz6h (H:=H) h
 |.o _ :: H,f,C,h=>jz6h (H:=H) h
 |.w _ :: H,f,C,h=>jz6h (H:=H) h
 |.c _ :: H,f,C,h=>jz6h (H:=H) h
 |.z _ :: H,f,C,h=>jz6h (H:=H) h
 |.d D :: H,f,C,h=>by
  have h:kond (Nat.beq D.f f) (some D) (jz7k f H)=some C:=h;cases hb:Nat.beq D.f f
  ·rw[hb]at h;exact jz6h h
  ·rw[hb]at h;cases h;exact wzir.1 hb
theorem jz6g:∀{H:List Fe} {f:FuncId} {C:Zk},jz7s f H=some C->C.f=f
 |[],f,C,h=>by cases h
 |.k _ :: H,f,C,h=>jz6g (H:=H) h
 |.s _ :: H,f,C,h=>jz6g (H:=H) h
 |.q _ :: H,f,C,h=>jz6g (H:=H) h
 |.m _ :: H,f,C,h=>jz6g (H:=H) h
 |.o _ :: H,f,C,h=>jz6g (H:=H) h
 |.w _ :: H,f,C,h=>jz6g (H:=H) h
 |.c _ :: H,f,C,h=>jz6g (H:=H) h
 |.d _ :: H,f,C,h=>jz6g (H:=H) h
 |.z D :: H,f,C,h=>by
  have h:kond (Nat.beq D.f f) (some D) (jz7s f H)=some C:=h;cases hb:Nat.beq D.f f
  ·rw[hb]at h;exact jz6g h
  ·rw[hb]at h;cases h;exact wzir.1 hb
theorem Fk.call[kzhw](C:Fk){vs:List SV}{r:Row C.a}(hr:Ws (emL vs) (emL (prmS C.a C.p r))){y:Row C.r}(hy:C.F r=some y):kzz TabT.P C.f=true/\qzq TabT.E TabT.P C.f (emL vs) (emS (retT C.r y)) := ⟨C.ok.en,(C.ok.ok r y hy).w hr⟩
def jzcu{l:List CT}{i:Nat}(e:l=Tab.fr i)(x:Option (Row l)):Option (TabT.FR i):=cast (by rw[e,Tab.eR]) x
theorem jzch[kzhw]{l:List CT}{i:Nat}{e:l=Tab.fr i}{x:Option (Row l)}{r:TabT.FR i}(h:jzcu e x=some r):∃y,x=some y/\emS (retT l y)=TabT.aR i r:=by
 subst e;unfold jzcu at h;rw[jzem (Tab.eR i)]at h;cases x with
 |none=>cases h
 |some y=>cases h;exact⟨y,rfl,(kzhw.aR i y).symm⟩
def jzkz[kzhw](C:Fk)(i nb:Nat)(caps:List SV)(e:C.r=Tab.fr i):FnV i :=
 ⟨C.f,nb,emL caps,wzl4 caps,fun a=>match wzox C.a C.p (fnArgs nb (rowW (Tab.fa i) (cast (Tab.eA i).symm a)) caps) with
  |some r=>jzcu e (C.F r)
  |none=>none,fun a r h=>by
   have ea:TabT.aA i a=emL (rowW (Tab.fa i) (cast (Tab.eA i).symm a)):=by rw[<-kzhw.aA,cast_cast,cast_eq]
   split at h
   ·rename_i x hx;obtain⟨y,hy,er⟩:=jzch h;obtain⟨h1,h2⟩:=C.call (wzse hx) hy;rw[wzr1]at h2;exact⟨h1,by rw[ea,<-er];exact h2⟩
   ·cases h⟩
def mkFn[kzhw](H:List Fe)(i:Nat)(f:FuncId)(nb:Nat)(caps:List SV):Option (FnV i):=match wz6s f H with
 |some C=>match jzd4 C.r (Tab.fr i) with
  |some ⟨e⟩=>some (jzkz C i nb caps e)
  |none=>none
 |none=>none
theorem jzhg[kzhw]{H:List Fe}{i:Nat}{f:FuncId}{nb:Nat}{caps:List SV}{x:FnV i}(h:mkFn H i f nb caps=some x):emS (.fn f nb caps)=emS (.fnp i x):=by
 unfold mkFn at h;split at h
 ·rename_i C hC;split at h
  ·cases h;show AVal.fn f nb (emL caps)=.fn C.f nb (emL caps);rw[wz3c hC]
  ·cases h
 ·cases h
def jzfd[kzhw](C:Sk)(i:Nat)(caps:List SV)(e:C.i=i):SqV i :=
 ⟨C.f,emL caps,wzl4 caps,fun st=>match wzox C.a C.p caps with
  |some r=>(e▸C.G r:(List (TabT.FA i)->Option Bool)->Option (List (TabT.FA i))) st
  |none=>none,fun st l h=>by
   subst e;split at h
   ·rename_i x hx;have hs:=C.ok.ok x st l h;exact⟨hs.1,fun L e HC HX hC hh h0 h1=>(hs.2 L e HC HX hC hh h0 h1).w ⟨.refl _,wzse hx⟩⟩
   ·cases h⟩
def mkSq[kzhw](H:List Fe)(i:Nat)(f:FuncId)(caps:List SV):Option (SqV i):=match wz7y f H with
 |some C=>if e:C.i=i then some (jzfd C i caps e) else none
 |none=>none
theorem jzf6[kzhw]{H:List Fe}{i:Nat}{f:FuncId}{caps:List SV}{x:SqV i}(h:mkSq H i f caps=some x):emS (.fn f 0 caps)=emS (.sqp i x):=by
 unfold mkSq at h;split at h
 ·rename_i C hC;split at h
  ·cases h;show AVal.fn f 0 (emL caps)=.fn C.f 0 (emL caps);rw[wz3u hC]
  ·cases h
 ·cases h
def wz9y[kzhw](H:List Fe)(i:Nat):SV->Option (SqV i)
 |.fn f 0 caps=>mkSq H i f caps
 |v=>ofSq i v
theorem jzek[kzhw]{H:List Fe}{i:Nat}{v:SV}{x:SqV i}(h:wz9y H i v=some x):emS v=emS (.sqp i x):=by
 unfold wz9y at h;split at h
 ·exact jzf6 h
 ·rw[wz6k h]
def jzcl[kzhw](H:List Fe)(i:Nat):SV->Option (FnV i)
 |.fn f nb caps=>mkFn H i f nb caps
 |v=>ofFn i v
def ofWH[kzhw](H:List Fe):(c:CT)->SV->Option c.T
 |.fn i=>jzcl H i
 |.us i=>ofAg i
 |.int k=>ofI k
 |.bool=>ofBT
 |.str=>wzon
 |.slc c=>ofSl c
 |.ptr c=>ofPw c
 |.mp k v=>ofMp k v
 |.sq i=>wz9y H i
 |.yl i=>ofYl i
def ofPH[kzhw](H:List Fe)(c:CT):Bool->SV->Option c.T
 |false,v=>ofWH H c v
 |true,v=>ofP c true v
def wz7z[kzhw](H:List Fe)(c:CT):(l:List CT)->List Bool->List SV->Option (RowC c.T l)
 |[],p=>wzly (ofPH H c (p.headD false))
 |d :: l,p=>wznb (ofPH H c (p.headD false)) (wz7z H d l p.tail)
def wz4d[kzhw](H:List Fe):(l:List CT)->List Bool->List SV->Option (Row l)
 |[],_=>wzor
 |c :: l,p=>wz7z H c l p
theorem jzg5[kzhw]{H:List Fe}:∀{c:CT} {v:SV} {x:c.T},ofWH H c v=some x->W (emS v) (emS (wT c x))
 |.us i,v,x,h=>wzo2 (c:=.us i) h
 |.int k,v,x,h=>wzo2 (c:=.int k) h
 |.bool,v,x,h=>wzo2 (c:=.bool) h
 |.str,v,x,h=>wzo2 (c:=.str) h
 |.slc c,v,x,h=>wzo2 (c:=.slc c) h
 |.ptr c,v,x,h=>wzo2 (c:=.ptr c) h
 |.mp k w,v,x,h=>wzo2 (c:=.mp k w) h
 |.yl i,v,x,h=>wzo2 (c:=.yl i) h
 |.sq i,v,x,h=>by have h:wz9y H i v=some x:=h;rw[jzek h];exact .refl _
 |.fn i,v,x,h=>by
  have h:jzcl H i v=some x:=h;unfold jzcl at h;split at h
  ·rw[jzhg h];exact .refl _
  ·exact wzo2 (c:=.fn i) h
theorem jzb5[kzhw]{H:List Fe}{c:CT}{b:Bool}{v:SV}{x:c.T}(h:ofPH H c b v=some x):W (emS v) (emS (prmC c b x)):=by
 cases b
 ·exact jzg5 h
 ·exact wzsg h
theorem wz8u[kzhw]{H:List Fe}:∀(c:CT) (l:List CT) (p:List Bool) (v:List SV) (r:RowC c.T l),wz7z H c l p v=some r->Ws (emL v) (emL (wzp7 c l p r))
 |c,[],p,v,r,h=>by obtain⟨u,rfl,h⟩:=wzkd (f:=ofPH H c (p.headD false)) h;exact⟨jzb5 h,trivial⟩
 |c,d :: l,p,v,r,h=>by obtain⟨y,q,rfl,h1,h2⟩:=wzmf (f:=ofPH H c (p.headD false)) (g:=wz7z H d l p.tail) h;exact⟨jzb5 h1,wz8u d l p.tail q r.2 h2⟩
theorem wz3p[kzhw]{H:List Fe}{l:List CT}{p:List Bool}{v:List SV}{r:Row l}(h:wz4d H l p v=some r):Ws (emL v) (emL (prmS l p r)):=by
 cases l with
 |nil=>rw[wzmz h];exact trivial
 |cons c l=>exact wz8u c l p v r h
end
section
variable [Tab]
inductive PV where
 |s (v:SV)
 |ptr (id st off:Nat)
 |eptr (id st:Nat) (j:Int) (off:Nat) (c:CT) (x:c.T)
 |vec (id st:Nat)
 |vs (id st:Nat) (lo hi:Int)
 |own (id st:Nat)
 |mp (id st:Nat)
 |yl (i:Nat) (st:List (TabT.FA i)->Option Bool)
 |kys (id st:Nat) (g:FuncId)
 |ag (cs:List SV) (k id st:Nat)
inductive TV where
 |v (x:PV)
 |cnd (tg:Nat) (want g:Bool) (x:PV)
inductive TO where
 |gone
 |box (cs:List SV)
 |vec (c:CT) (l:List c.T)
 |own (c:CT) (l:List c.T)
 |ref (p:PV)
 |map (k v:CT) (l:List (k.T×v.T))
 |out (i:Nat) (l:List (TabT.FA i)) (b:Bool)
 |rag (cs:List SV) (k id st:Nat)
def wz56:PV->Bool
 |.vec _ _=>true
 |.own _ _=>true
 |.mp _ _=>true
 |_=>false
structure TSt where
 t:List (Nat×TV)
 h:List (Nat×Nat×TO)
 nx:Nat
 n:Nat
 gs:List Nat
 w:List Nat
 wo:List Nat
 b:Nat
 rf:Nat
def inR(b i:Nat):Bool:=kond (Nat.ble b i) (Nat.blt i (b+900)) false
def wz92(b:Nat):AOp->Bool
 |.alloc s _ | .box s _ | .bslice s _ _ _ _ | .mks s _ _ _ _ | .s2b s _ | .append s _ _ _ _ | .mkmap s=>inR b s
 |_=>true
def wzin:List (Nat×TV)->Nat->TV
 |[],_=>.v (.s .top)
 |p :: l,i=>kond (Nat.beq p.1 i) p.2 (wzin l i)
def wzip:List (Nat×Nat×TO)->Nat->Option (Nat×TO)
 |[],_=>none
 |p :: l,i=>kond (Nat.beq p.1 i) (some p.2) (wzip l i)
def memN(i:Nat):List Nat->Bool
 |[]=>false
 |j :: l=>kond (Nat.beq j i) true (memN i l)
abbrev Gd:=Option (Nat×Bool×Bool)
def eqB(a b:Bool):Bool:=kond a b (!b)
def ofA1:AVal->Option SV
 |.int k n=>some (.int k n)
 |.bool b=>some (.bool b)
 |.str s=>some (.str s)
 |.nils=>some .nil
 |.nilp=>some .nilp
 |_=>none
def ofAL:List AVal->Option (List SV)
 |[]=>some []
 |x :: l=>match ofA1 x,ofAL l with
  |some a,some b=>some (a :: b)
  |_,_=>none
def ofAT:List AVal->List SV
 |[]=>[]
 | x :: l=>(match ofA1 x with
  |some v=>v
  | none=>.top) :: ofAT l
def ofA:AVal->Option SV
 |.agg l=>match ofAL l with
  |some l=>some (.agg l)
  |none=>none
 |.fn f nb []=>some (.fn f nb [])
 |.top=>some .top
 |x=>ofA1 x
def argP(T:TSt)(G:Gd):AArg->Option PV
 |.t n=>match wzin T.t n with
  |.v x=>some x
  |.cnd tg want _ x=>match G with
   |some (tg',want',_)=>kond (Nat.beq tg tg') (kond (eqB want want') (some x) none) none
   |none=>none
 |.c v=>match ofA v with
  |some v=>some (.s v)
  |none=>none
 |.g _=>none
def wznn(T:TSt)(G:Gd):List AArg->Option (List SV)
 |[]=>some []
 |x :: l=>match argP T G x,wznn T G l with
  |some (.s v),some r=>some (v :: r)
  |_,_=>none
section
variable {α:Type}
def ckg(G:Gd)(c:Bool)(X:Option α):Option α:=match G with
 |none=>ck c X
 |some (_,_,g)=>ck (!g||c) X
def bdg{β:Type}[Inhabited β](G:Gd)(x:Option β)(K:β->Option α):Option α:=match G with
 |none=>bd x K
 |some (_,_,g)=>bd (gd g x) K
def ckS(G:Gd)(k:IntKind)(n:Int)(K:PV->List Nat->Option α):Option α:=match k with
 |.i8=>ckg G (inB .i8 n) (K (.s (.int .i8 n)) [])
 |.i16=>ckg G (inB .i16 n) (K (.s (.int .i16 n)) [])
 |.i32=>ckg G (inB .i32 n) (K (.s (.int .i32 n)) [])
 |.i64=>ckg G (inB .i64 n) (K (.s (.int .i64 n)) [])
 |.u8=>K (.s (.int .u8 (n%256))) []
 |.u16=>K (.s (.int .u16 (n%65536))) []
 |.u32=>K (.s (.int .u32 (n%4294967296))) []
 |.u64=>K (.s (.int .u64 (n%18446744073709551616))) []
def ckl(G:Gd)(lit c:Bool)(X:Option α):Option α:=kond lit (kond c X none) (ckg G c X)
def binI(G:Gd)(op:BinOp)(k:IntKind)(a b:Int)(lit:Bool)(K:PV->List Nat->Option α):Option α:=match op with
 |.add=>ckS G k (a+b) K
 |.sub=>ckS G k (a-b) K
 |.mul=>ckS G k (a*b) K
 |.quo=>ckl G lit (!decide (b=0)) (ckS G k (a.tdiv b) K)
 |.rem=>ckl G lit (!decide (b=0)) (K (.s (.int k (a.tmod b))) [])
 |.and=>K (.s (.int k (bitI .and k a b))) []
 |.or=>K (.s (.int k (bitI .or k a b))) []
 |.xor=>K (.s (.int k (bitI .xor k a b))) []
 |.andNot=>K (.s (.int k (bitI .andNot k a b))) []
 |.eql=>K (.s (.bool (decide (a=b)))) []
 |.neq=>K (.s (.bool (!decide (a=b)))) []
 |.lss=>K (.s (.bool (decide (a<b)))) []
 |.leq=>K (.s (.bool (decide (a<=b)))) []
 |.gtr=>K (.s (.bool (decide (b<a)))) []
 |.geq=>K (.s (.bool (decide (b<=a)))) []
 |_=>none
def wzry(G:Gd)(op:BinOp)(k:IntKind)(a b:Int)(lit:Bool)(K:PV->List Nat->Option α):Option α:=match op with
 |.shl=>ckl G lit (decide (0<=b)) (ckS G k (a*2 ^ min b.toNat k.bits) K)
 |.shr=>ckl G lit (decide (0<=b)) (K (.s (.int k (a.fdiv (2 ^ min b.toNat k.bits)))) [])
 |_=>none
def binS(G:Gd)(op:BinOp)(a b:List UInt8)(K:PV->List Nat->Option α):Option α:=match op with
 |.add=>ckg G (decide (List.length a+List.length b<=4611686018427387904)) (K (.s (.str (a++b))) [])
 |.eql=>K (.s (.bool (decide (a=b)))) []
 |.neq=>K (.s (.bool (!decide (a=b)))) []
 |.lss=>K (.s (.bool (Op.bytesLess a b))) []
 |.leq=>K (.s (.bool (Op.bytesLess a b||decide (a=b)))) []
 |.gtr=>K (.s (.bool (!(Op.bytesLess a b||decide (a=b))))) []
 |.geq=>K (.s (.bool (!Op.bytesLess a b))) []
 |_=>none
def oneS:List SV->Bool
 |[]=>true
 |.agg _ :: _=>false
 |.tup _ :: _=>false
 |.top :: _=>false
 |.mpv _ _ _ :: _=>false
 |.ylv _ _ :: _=>false
 |_ :: l=>oneS l
def wzub:AArg->Bool
 |.c _=>true
 |_=>false
def ldS(agg:Bool)(sz:Nat)(l:List SV)(off:Nat):SV:=kond agg (.agg ((l.drop off).take sz)) (l.getD off .top)
def layS(l:List SV)(off:Nat)(p:List SV):List SV:=l.take off++p++l.drop (off+p.length)
def wzmp(T:TSt)(G:Gd):List SV->List (Nat×Nat×AArg)->Option (List SV)
 |l,[]=>some l
 |l,(off,sz,x) :: r=>match argP T G x with
  |some (.s v)=>match v.cells with
   |some p=>kond (Nat.beq p.length sz) (kond (Nat.ble (off+sz) l.length) (wzmp T G (layS l off p) r) none) none
   |none=>none
  |_=>none
def eqS:List SV->List SV->Option Bool
 |[],[]=>some true
 |x :: l,y :: m=>match x,y,eqS l m with
  |.int k a,.int k' b,some e=>if k=k' then some (decide (a=b)&&e) else none
  |.bool a,.bool b,some e=>some ((a==b)&&e)
  |.str a,.str b,some e=>some (decide (a=b)&&e)
  |_,_,_=>none
 |_,_=>none
def wzqb:SV->Nat
 |.bool _=>0
 |.int _ _=>1
 |.str _=>2
 |_=>3
def wznt:List SV->List Nat->Bool
 |[],[]=>true
 |x :: l,n :: m=>kond (Nat.beq (wzqb x) n) (wznt l m) false
 |_,_=>false
def bndS(T:TSt)(G:Gd)(d:Int):Option AArg->Option Int
 |none=>some d
 |some a=>match argP T G a with
  |some (.s (.int _ n))=>some n
  |_=>none
def wzrs{α:Type}:Nat->List α->Bool
 |_,[]=>true
 |0,_ :: _=>false
 |n+1,_ :: l=>wzrs n l
def litN:Int->Option Nat
 |.ofNat n=>some n
 |_=>none
def jz4b(T:TSt)(G:Gd):List SV->List (Nat×Nat×AArg)->Option (List SV×Nat×Nat×Nat)
 |l,(off,sz,x) :: r=>match argP T G x with
  |some (.vec id st)=>match r with
   |[]=>kond (Nat.beq sz 1) (kond (Nat.ble (off+sz) l.length) (some (l,off,id,st)) none) none
   |_=>none
  |some (.s v)=>match v.cells with
   |some p=>kond (Nat.beq p.length sz) (kond (Nat.ble (off+sz) l.length) (jz4b T G (layS l off p) r) none) none
   |none=>none
  |_=>none
 |_,[]=>none
def v_mv(H:List Fe)(T:TSt)(G:Gd)(x:AArg)(K:PV->List Nat->Option α):Option α:=match argP T G x,x with
 |some p,_=>K p []
 |none,.c _=>K (.s .top) []
 |none,_=>none
def wznp(T:TSt)(G:Gd)(n:Nat)(w:Bool)(a:AArg):Option PV:=match G with
 |none=>argP T (some (n,w,w)) a
 |some g=>match argP T (some g) a with
  |some p=>some p
  |none=>argP T (some (n,w,w)) a
def wzm8(H:List Fe)(T:TSt)(G:Gd)(c x y:AArg)(K:PV->List Nat->Option α):Option α:=match c with
 |.t n=>match argP T G (.t n) with
  |some (.s (.bool b))=>match wznp T G n true x,wznp T G n false y with
   |some (.s (.bool p)),some (.s (.bool q))=>K (.s (.bool (bif b then p else q))) []
   |some (.s (.int k p)),some (.s (.int k' q))=>kond (decide (k=k')) (K (.s (.int k (bif b then p else q))) []) none
   |_,_=>none
  |_=>none
 |_=>none
def wzrz(H:List Fe)(T:TSt)(G:Gd)(op:BinOp)(bools:Bool)(x y:AArg)(K:PV->List Nat->Option α):Option α:=match argP T G x,argP T G y with
 |some (.s (.int k a)),some (.s (.int k' b))=>kond (qzvy op) (wzry G op k a b (wzub y) K) (kond (decide (k=k')) (binI G op k a b (wzub y) K) none)
 |some (.s (.str a)),some (.s (.str b))=>binS G op a b K
 |some (.s (.bool a)),some (.s (.bool b))=>match bools,op with
  |true,.eql=>K (.s (.bool (a==b))) []
  |true,.neq=>K (.s (.bool (!(a==b)))) []
  |_,_=>none
 |_,_=>none
def wzsb(H:List Fe)(T:TSt)(G:Gd)(x:AArg)(K:PV->List Nat->Option α):Option α:=match argP T G x with
 |some (.s (.bool b))=>K (.s (.bool (!b))) []
 |_=>none
def wzrx(H:List Fe)(T:TSt)(G:Gd)(x:AArg)(K:PV->List Nat->Option α):Option α:=match argP T G x with
 |some (.s (.int k n))=>ckS G k (-n) K
 |_=>none
def wzqj(H:List Fe)(T:TSt)(G:Gd)(agg:Bool)(sz:Nat)(x:AArg)(K:PV->List Nat->Option α):Option α:=match argP T G x with
 |some (.ptr id st off)=>match wzip T.h id with
  |some (st',.box cs)=>kond (Nat.beq st st') (kond (Nat.ble (off+sz) cs.length) (kond (kond agg true (Nat.beq sz 1)) (K (.s (ldS agg sz cs off)) [id]) none) none) none
  |some (st',.ref p)=>kond (Nat.beq st st') (kond (Nat.beq off 0) (kond (Nat.beq sz 1) (kond agg none (K p [id])) none) none) none
  |some (st',.rag cs k i s)=>kond (Nat.beq st st') (kond agg (kond (Nat.beq off 0) (kond (Nat.beq sz cs.length) (K (.ag cs k i s) [id]) none) none) (kond (Nat.beq sz 1) (kond (Nat.ble (off+sz) cs.length) (kond (Nat.beq off k) (K (.vec i s) [id]) (K (.s (ldS false sz cs off)) [id])) none) none)) none
  |_=>none
 |some (.eptr id st j off c x)=>match wzip T.h id with
  |some (st',.vec c' l)=>kond (Nat.beq st st') (kond (Nat.ble (off+sz) c.n) (kond (kond agg true (Nat.beq sz 1)) (K (.s (ldS agg sz (wzj2 c x) off)) [id]) none) none) none
  |some (st',.own c' l)=>kond (Nat.beq st st') (kond (Nat.ble (off+sz) c.n) (kond (kond agg true (Nat.beq sz 1)) (K (.s (ldS agg sz (wzj2 c x) off)) [id]) none) none) none
  |_=>none
 |some (.s (.cptr l off))=>kond (Nat.ble (off+sz) l.length) (kond (kond agg true (Nat.beq sz 1)) (K (.s (ldS agg sz l off)) []) none) none
 |_=>none
def wzpq(H:List Fe)(T:TSt)(G:Gd)(x:AArg)(K:PV->List Nat->Option α):Option α:=match argP T G x with
 |some (.s (.cptr l off))=>K (.s (.cptr l off)) []
 |some (.s (.fn f nb l))=>K (.s (.fn f nb l)) []
 |some (.s (.fnp i z))=>K (.s (.fnp i z)) []
 |some (.s (.optr c x))=>@bdg α c.T c.inh G x fun v=>K (.s (.cptr (wzj2 c v) 0)) []
 |some (.ptr id st off)=>match wzip T.h id with
  |some (st',_)=>kond (Nat.beq st st') (K (.ptr id st off) [id]) none
  |none=>none
 |_=>none
def wzql(H:List Fe)(T:TSt)(G:Gd)(k:IntKind)(x:AArg)(K:PV->List Nat->Option α):Option α:=match argP T G x with
 |some (.s (.int _ n))=>ckS G k n K
 |_=>none
def wzq1(H:List Fe)(T:TSt)(G:Gd)(f:FuncId)(nb:Nat)(caps:List AArg)(K:PV->List Nat->Option α):Option α:=match wznn T G caps with
 |some l=>K (.s (.fn f nb l)) []
 |none=>none
def wzpf(H:List Fe)(T:TSt)(G:Gd)(isStr:Bool)(st:Nat)(x:AArg)(lo hi:Option AArg)(K:PV->List Nat->Option α):Option α:=match bndS T G 0 lo with
 |none=>none
 |some l=>match isStr,argP T G x with
  |false,some (.s (.slc c m))=>match bndS T G (List.length m:Int) hi with
   |some r=>kond (Nat.beq c.n st) (ckg G (kzy m l r) (K (.s (.slc c (sub m l r))) [])) none
   |none=>none
  |false,some (.vec id vst)=>match wzip T.h id with
   |some (st',.vec c m)=>match bndS T G (List.length m:Int) hi with
    |some r=>kond (Nat.beq vst st') (kond (Nat.beq c.n st) (ckg G (kzy m l r) (K (.vs id vst l r) [id])) none) none
    |none=>none
   |_=>none
  |true,some (.s (.str s))=>match bndS T G (List.length s:Int) hi with
   |some r=>ckg G (kzy s l r) (K (.s (.str (sub s l r))) [])
   |none=>none
  |_,_=>none
def wzpu(H:List Fe)(T:TSt)(G:Gd)(off:Nat)(x:AArg)(K:PV->List Nat->Option α):Option α:=match argP T G x with
 |some (.ptr id st o)=>match wzip T.h id with
  |some (st',_)=>kond (Nat.beq st st') (K (.ptr id st (o+off)) [id]) none
  |none=>none
 |some (.eptr id st j o c x)=>match wzip T.h id with
  |some (st',_)=>kond (Nat.beq st st') (K (.eptr id st j (o+off) c x) [id]) none
  |none=>none
 |some (.s (.cptr l o))=>K (.s (.cptr l (o+off))) []
 |_=>none
def wzoh(H:List Fe)(T:TSt)(G:Gd)(st:Nat)(x i:AArg)(K:PV->List Nat->Option α):Option α:=match argP T G x,argP T G i with
 |some (.s (.slc c l)),some (.s (.int _ j))=>kond (Nat.beq c.n st) (@bdg α c.T c.inh G (at? l j) fun v=>K (.s (.cptr (wzj2 c v) 0)) []) none
 |some (.vec id vst),some (.s (.int _ j))=>match wzip T.h id with
  |some (st',.vec c l)=>kond (Nat.beq vst st') (kond (Nat.beq c.n st) (@bdg α c.T c.inh G (at? l j) fun v=>K (.eptr id vst j 0 c v) [id]) none) none
  |_=>none
 |some (.own id vst),some (.s (.int _ j))=>match wzip T.h id with
  |some (st',.own c l)=>kond (Nat.beq vst st') (kond (Nat.beq c.n st) (@bdg α c.T c.inh G (at? l j) fun v=>K (.eptr id vst j 0 c v) [id]) none) none
  |_=>none
 |_,_=>none
def wzoe(H:List Fe)(T:TSt)(G:Gd)(nn st:Nat)(x i:AArg)(K:PV->List Nat->Option α):Option α:=match argP T G x,argP T G i with
 |some (.ptr id pst o),some (.s (.int _ j))=>match wzip T.h id,litN j with
  |some (st',_),some n=>kond (Nat.beq pst st') (kond (Nat.blt n nn) (K (.ptr id pst (o+n*st)) [id]) none) none
  |_,_=>none
 |some (.s (.cptr l o)),some (.s (.int _ j))=>match litN j with
  |some n=>kond (Nat.blt n nn) (K (.s (.cptr l (o+n*st))) []) none
  |none=>none
 |_,_=>none
def wzpg(H:List Fe)(T:TSt)(G:Gd)(agg:Bool)(off sz:Nat)(x:AArg)(K:PV->List Nat->Option α):Option α:=match argP T G x with
 |some (.ag cs k id st)=>kond (Nat.ble (off+sz) cs.length) (kond agg none (kond (Nat.beq sz 1) (kond (Nat.beq off k) (K (.vec id st) []) (K (.s (ldS agg sz cs off)) [])) none)) none
 |some (.s (.agg l))=>kond (Nat.ble (off+sz) l.length) (kond (kond agg true (Nat.beq sz 1)) (K (.s (ldS agg sz l off)) []) none) none
 |_=>none
def wzng(H:List Fe)(T:TSt)(G:Gd)(i:Nat)(x:AArg)(K:PV->List Nat->Option α):Option α:=match argP T G x with
 |some (.s (.tup l))=>kond (Nat.blt i l.length) (K (.s (l.getD i .top)) []) none
 |_=>none
def wzqo(H:List Fe)(T:TSt)(G:Gd)(x i:AArg)(K:PV->List Nat->Option α):Option α:=match argP T G x,argP T G i with
 |some (.s (.str s)),some (.s (.int _ j))=>ckg G (qzf7 s j) (K (.s (.int .u8 (wzw s j))) [])
 |_,_=>none
def ctOf:SV->CT
 |.int k _=>.int k
 |.bool _=>.bool
 |.slc c _=>.slc c
 |.optr c _=>.ptr c
 |.fnp i _=>.fn i
 |_=>.str
def ofCs(c:CT):List SV->Option (List c.T)
 |[]=>some []
 |v :: l=>match ofLf c v,ofCs c l with
  |some x,some r=>some (x :: r)
  |_,_=>none
def jzan(H:List Fe)(T:TSt)(G:Gd)(agg:Bool)(n sz:Nat)(x i:AArg)(K:PV->List Nat->Option α):Option α:=match argP T G x,argP T G i with
 |some (.s (.agg (v :: l))),some (.s (.int _ j))=>match ofCs (ctOf v) (v :: l) with
  |some m=>kond agg none (kond (Nat.beq sz 1) (kond (Nat.beq n m.length) (@bdg α (ctOf v).T (ctOf v).inh G (at? m j) fun y=>K (.s (lfT (ctOf v) y)) []) none) none)
  |none=>none
 |_,_=>none
def wz8i(H:List Fe)(T:TSt)(G:Gd)(ng:Bool)(x:AArg)(K:PV->List Nat->Option α):Option α:=match argP T G x with
 |some (.s (.optr c x))=>K (.s (.bool (kond ng (Option.isSome x) (!Option.isSome x)))) []
 |some (.s .nilp)=>K (.s (.bool (!ng))) []
 |some (.s (.cptr _ _))=>K (.s (.bool ng)) []
 |_=>none
def keq:(c:CT)->c.T->c.T->Bool
 |.int _=>fun(a b:Int)=>decide (a=b)
 |.bool=>fun(a b:Bool)=>a==b
 |.str=>fun(a b:List UInt8)=>decide (a=b)
 |.us i=>Tab.ke i
 |_=>fun _ _=>false
def kkd:CT->Option Nat
 |.bool=>some 0
 |.int _=>some 1
 |.str=>some 2
 |.us i=>match Tab.kk i with
  |some l=>kond (lt3 l) (some (4+encK l)) none
  |none=>none
 |_=>none
def isK(c:CT)(n:Nat):Bool:=match kkd c with
 |some m=>Nat.beq m n
 |none=>false
def wz9e(H:List Fe)(T:TSt)(G:Gd)(kd:Nat)(cok:Bool)(zero:AVal)(x k:AArg)(K:PV->List Nat->Option α):Option α:=match argP T G x,argP T G k,ofA zero with
 |some (.mp id mst),some (.s key),some z=>match wzip T.h id with
  |some (st',.map ck cv l)=>match ofW ck key,ofW cv z with
   |some a,some d=>kond (Nat.beq mst st') (kond (isK ck kd) (kond cok (K (.s (.tup [wT cv (Option.getD (mget (keq ck) l a) d),.bool (Option.isSome (mget (keq ck) l a))])) [id]) (K (.s (wT cv (Option.getD (mget (keq ck) l a) d))) [id])) none) none
   |_,_=>none
  |_=>none
 |_,_,_=>none
def wz93(H:List Fe)(T:TSt)(G:Gd)(x:AArg)(K:PV->List Nat->Option α):Option α:=match argP T G x with
 |some (.mp id mst)=>match wzip T.h id with
  |some (st',.map _ _ l)=>kond (Nat.beq mst st') (K (.s (.int .i64 (List.length l:Int))) [id]) none
  |_=>none
 |_=>none
def wzrv(H:List Fe)(T:TSt)(G:Gd)(isStr:Bool)(x:AArg)(K:PV->List Nat->Option α):Option α:=match isStr,argP T G x with
 |false,some (.s (.slc _ l))=>K (.s (.int .i64 (List.length l:Int))) []
 |false,some (.s .nil)=>K (.s (.int .i64 0)) []
 |false,some (.vec id vst)=>match wzip T.h id with
  |some (st',.vec _ l)=>kond (Nat.beq vst st') (K (.s (.int .i64 (List.length l:Int))) [id]) none
  |_=>none
 |false,some (.own id vst)=>match wzip T.h id with
  |some (st',.own _ l)=>kond (Nat.beq vst st') (K (.s (.int .i64 (List.length l:Int))) [id]) none
  |_=>none
 |true,some (.s (.str s))=>K (.s (.int .i64 (List.length s:Int))) []
 |_,_=>none
def wzpv(H:List Fe)(T:TSt)(G:Gd)(sh:List Nat)(ng:Bool)(x y:AArg)(K:PV->List Nat->Option α):Option α:=match argP T G x,argP T G y with
 |some (.s (.agg l)),some (.s (.agg m))=>match eqS l m with
  |some e=>kond (wznt l sh) (K (.s (.bool (kond ng (!e) e))) []) none
  |none=>none
 |_,_=>none
def wzru(H:List Fe)(T:TSt)(G:Gd)(x y:AArg)(K:PV->List Nat->Option α):Option α:=match argP T G x,argP T G y with
 |some (.s (.int k a)),some (.s (.int k' b))=>kond (decide (k=k')) (K (.s (.int k (Max.max a b))) []) none
 |_,_=>none
def wzr7(H:List Fe)(T:TSt)(G:Gd)(x y:AArg)(K:PV->List Nat->Option α):Option α:=match argP T G x,argP T G y with
 |some (.s (.int k a)),some (.s (.int k' b))=>kond (decide (k=k')) (K (.s (.int k (Min.min a b))) []) none
 |_,_=>none
def jz8o(H:List Fe)(T:TSt)(G:Gd)(x y z:AArg)(K:PV->List Nat->Option α):Option α:=match argP T G x,argP T G y,argP T G z with
 |some (.s (.int k a)),some (.s (.int k' b)),some (.s (.int k2 c))=>kond (decide (k=k'/\k=k2)) (K (.s (.int k (Min.min (Min.min a b) c))) []) none
 |_,_,_=>none
def wzpw(H:List Fe)(T:TSt)(G:Gd)(zero:List AVal)(ps:List (Nat×Nat×AArg))(K:PV->List Nat->Option α):Option α:=match ofAL zero with
 |some z=>match wzmp T G z ps with
  |some l=>K (.s (.agg l)) []
  |none=>match jz4b T G z ps with
   |some (l,k,id,st)=>K (.ag l k id st) []
   |none=>none
 |none=>none
def wzrw(H:List Fe)(T:TSt)(G:Gd)(x:AArg)(K:PV->List Nat->Option α):Option α:=match argP T G x with
 |some (.s (.slc (.int .u8) l))=>K (.s (.str (vzg l))) []
 |some (.vec id vst)=>match wzip T.h id with
  |some (st',.vec (.int .u8) l)=>kond (Nat.beq vst st') (K (.s (.str (vzg l))) [id]) none
  |_=>none
 |_=>none
def jzdt[kzhw](H:List Fe)(T:TSt)(G:Gd)(f:FuncId)(ags:List AArg)(K:PV->List Nat->Option α):Option α:=match wz75 f H,ags with
 |some M,[x]=>match argP T G x with
  |some (.mp id st)=>K (.kys id st M.g) []
  |_=>none
 |_,_=>none
def jzb7[kzhw](H:List Fe)(T:TSt)(G:Gd)(f:FuncId)(ags:List AArg)(K:PV->List Nat->Option α):Option α:=match wz76 f H,ags with
 |some C,x :: l=>match argP T G x,wznn T G l with
  |some (.kys id st g),some vs=>match wzip T.h id,wz4d H C.a C.p vs with
   |some (st',.map k v m),some r=>match wz8k k v C.k C.v m with
    |some m=>kond (Nat.beq st st') (kond (Nat.beq g C.g) (bdg G (C.F m r) fun x=>K (.s (retT C.r x)) [id]) none) none
    |none=>none
   |_,_=>none
  |_,_=>none
 |_,_=>none
def jzbr[kzhw](H:List Fe)(T:TSt)(G:Gd)(f:FuncId)(ags:List AArg)(K:PV->List Nat->Option α):Option α:=match wz8z f H,wznn T G ags with
 |some Q,some vs=>match wz4d H Q.a Q.p vs with
  |some r=>bdg G (Q.F r) fun y=>K (.s (.fn Q.S.f 0 (prmS Q.S.a Q.S.p y))) []
  |none=>none
 |_,_=>none
def wzn0[kzhw](H:List Fe)(T:TSt)(G:Gd)(f:FuncId)(ags:List AArg)(K:PV->List Nat->Option α):Option α:=match wz6s f H with
 |some C=>match wznn T G ags with
  |some vs=>match wz4d H C.a C.p vs with
   |some r=>bdg G (C.F r) fun x=>K (.s (retT C.r x)) []
   |none=>none
  |none=>none
 |none=>match wz76 f H with
  |some _=>jzb7 H T G f ags K
  |none=>match wz75 f H with
   |some _=>jzdt H T G f ags K
   |none=>jzbr H T G f ags K
@[reducible] def inhR(i:Nat):Inhabited (TabT.FR i):=⟨cast (Tab.eR i) (rowInh (Tab.fr i)).default⟩
def wznr[kzhw](H:List Fe)(T:TSt)(G:Gd)(x:AArg)(ags:List AArg)(K:PV->List Nat->Option α):Option α:=match argP T G x,wznn T G ags with
 |some (.s (.fn f nb caps)),some vs=>match wz6s f H with
  |some C=>match wz4d H C.a C.p (fnArgs nb vs caps) with
   |some r=>bdg G (C.F r) fun x=>K (.s (retT C.r x)) []
   |none=>none
  |none=>none
 |some (.s (.fnp i z)),some vs=>match wzmq (Tab.fa i) vs with
  |some r=>@bdg α (TabT.FR i) (inhR i) G (z.g (cast (Tab.eA i) r)) fun y=>K (.s (retT (Tab.fr i) (cast (Tab.eR i).symm y))) []
  |none=>none
 |_,_=>none
def wznj(c:CT)(st:Nat):Nat->List SV->Option (List c.T)
 |0,_=>some []
 |n+1,l=>match wzlh c (l.take st),wznj c st n (l.drop st) with
  |some x,some r=>some (x :: r)
  |_,_=>none
def wzi5(s:Nat):List (Nat×CT)->CT
 |[]=>.bool
 |p :: l=>kond (Nat.beq p.1 s) p.2 (wzi5 s l)
def wzn6(ty:List (Nat×CT))(T:TSt)(G:Gd)(s st nn:Nat)(zero:List AVal)(ps:List (Nat×Nat×AArg))(K:PV->List Nat->Option α):Option α:=match ofAL zero with
 |some z=>match wzmp T G z ps with
  | some l=>kond (Nat.beq l.length (nn*st)) (kond (Nat.beq (wzi5 s ty).n st) (kond (Nat.blt 0 st) (kond (inR T.b s) (match wznj (wzi5 s ty) st nn l with
   |some m=>K (.s (.slc (wzi5 s ty) m)) [s]
   | none=>none) none) none) none) none
  |none=>none
 |none=>none
def opV[kzhw](H:List Fe)(ty:List (Nat×CT))(T:TSt)(G:Gd)(o:AOp)(K:PV->List Nat->Option α):Option α:=match o with
 |.mv x=>v_mv H T G x K
 |.pick c x y=>wzm8 H T G c x y K
 |.bin op bools x y=>wzrz H T G op bools x y K
 |.not x=>wzsb H T G x K
 |.neg x=>wzrx H T G x K
 |.load agg sz x=>wzqj H T G agg sz x K
 |.nilck x=>wzpq H T G x K
 |.conv k x=>wzql H T G k x K
 |.mkfn f nb caps=>wzq1 H T G f nb caps K
 |.slice isStr st x lo hi=>wzpf H T G isStr st x lo hi K
 |.faddr off x=>wzpu H T G off x K
 |.iaddrS st x i=>wzoh H T G st x i K
 |.iaddrA nn st x i=>wzoe H T G nn st x i K
 |.field agg off sz x=>wzpg H T G agg off sz x K
 |.extract i x=>wzng H T G i x K
 |.sidx x i=>wzqo H T G x i K
 |.len isStr x=>wzrv H T G isStr x K
 |.aidx agg n sz x i=>jzan H T G agg n sz x i K
 |.mlook kd cok zero x k=>wz9e H T G kd cok zero x k K
 |.mlen x=>wz93 H T G x K
 |.isnilp ng x=>wz8i H T G ng x K
 |.eqagg sh ng x y=>wzpv H T G sh ng x y K
 |.max x y=>wzru H T G x y K
 |.min x y=>wzr7 H T G x y K
 |.min3 x y z=>jz8o H T G x y z K
 |.build zero ps=>wzpw H T G zero ps K
 |.b2s x=>wzrw H T G x K
 |.fslice s st nn zero ps=>wzn6 ty T G s st nn zero ps K
 |.callf f ags=>wzn0 H T G f ags K
 |.callv x ags=>wznr H T G x ags K
 |_=>none
def srcS(T:TSt)(c:CT):PV->Option (List c.T×List Nat)
 |.s (.slc c' l)=>match wzmw c' c l with
  |some l=>some (l,[])
  |none=>none
 |.vec id vst=>match wzip T.h id with
  | some (st',.vec c' l)=>kond (Nat.beq vst st') (match wzmw c' c l with
   |some l=>some (l,[id])
   | none=>none) none
  |_=>none
 |_=>none
def wzpk(ty:List (Nat×CT))(T:TSt)(s:Nat)(zero:List AVal)(K:PV->Nat->TO->Bool->List Nat->Option α):Option α:=K (.ptr s T.nx 0) s (.box (ofAT zero)) false [s]
def wzsc(ty:List (Nat×CT))(T:TSt)(s:Nat)(x:AArg)(K:PV->Nat->TO->Bool->List Nat->Option α):Option α:=match argP T none x with
 |some (.s v)=>match v.cells with
  |some l=>K (.ptr s T.nx 0) s (.box l) false [s]
  |none=>none
 |some p=>kond (wz56 p) (K (.ptr s T.nx 0) s (.ref p) false [s]) none
 |none=>none
def wzob(ty:List (Nat×CT))(T:TSt)(s st nn:Nat)(zero:List AVal)(ps:List (Nat×Nat×AArg))(K:PV->Nat->TO->Bool->List Nat->Option α):Option α:=match ofAL zero with
 |some z=>match wzmp T none z ps with
  | some l=>kond (Nat.beq l.length (nn*st)) (kond (Nat.beq (wzi5 s ty).n st) (kond (Nat.blt 0 st) (match wznj (wzi5 s ty) st nn l with
   |some m=>K (.vec s T.nx) s (.vec (wzi5 s ty) m) false [s]
   | none=>none) none) none) none
  |none=>none
 |none=>none
def wzr9(ty:List (Nat×CT))(T:TSt)(s st bytes:Nat)(zero:List AVal)(x:AArg)(K:PV->Nat->TO->Bool->List Nat->Option α):Option α:=match ofAL zero,argP T none x with
 | some z,some (.s (.int _ n))=>kond (Nat.beq (wzi5 s ty).n st) (kond (Nat.blt 0 st) (match wzlh (wzi5 s ty) z with
  |some e=>ck (mkOk n bytes) (K (.vec s T.nx) s (.vec (wzi5 s ty) (List.replicate (Int.toNat n) e)) false [s])
  | none=>none) none) none
 |_,_=>none
def wzsa(ty:List (Nat×CT))(T:TSt)(s:Nat)(x:AArg)(K:PV->Nat->TO->Bool->List Nat->Option α):Option α:=match argP T none x with
 |some (.s (.str b))=>K (.s (.slc (.int .u8) (bytes b))) s .gone false [s]
 |_=>none
def wzp0(ty:List (Nat×CT))(T:TSt)(sz:Nat)(x y:AArg)(K:PV->Nat->TO->Bool->List Nat->Option α):Option α:=match argP T none x,argP T none y with
 |some (.ptr id st off),some (.s v)=>match wzip T.h id,v.cells with
  |some (st',.box cs),some p=>kond (Nat.beq st st') (kond (Nat.beq p.length sz) (kond (Nat.ble (off+sz) cs.length) (kond (oneS p) (K (.s .top) id (.box (layS cs off p)) true [id]) none) none) none) none
  |some (st',.ref _),some p=>kond (Nat.beq st st') (kond (Nat.beq p.length sz) (kond (Nat.beq sz 1) (kond (Nat.beq off 0) (kond (oneS p) (K (.s .top) id (.box p) true [id]) none) none) none) none) none
  |_,_=>none
 |some (.ptr id st 0),some (.ag cs k i s)=>match wzip T.h id with
  |some (st',.box cs')=>kond (Nat.beq st st') (kond (Nat.beq cs.length sz) (kond (Nat.beq cs'.length sz) (kond (oneS cs) (kond (Nat.beq i id) none (K (.s .top) id (.rag cs k i s) true [id])) none) none) none) none
  |_=>none
 |some (.eptr id st j off c x),some (.s v)=>match wzip T.h id,v.cells with
  | some (st',.vec c' l),some p=>kond (Nat.beq st st') (kond (Nat.beq p.length sz) (kond (Nat.ble (off+sz) c.n) (match wzlh c' (layS (wzj2 c x) off p) with
   |some e=>K (.s .top) id (.vec c' (List.set l (Int.toNat j) e)) true [id]
   | none=>none) none) none) none
  | some (st',.own c' l),some p=>kond (Nat.beq st st') (kond (Nat.beq p.length sz) (kond (Nat.ble (off+sz) c.n) (match wzlh c' (layS (wzj2 c x) off p) with
   |some e=>K (.s .top) id (.own c' (List.set l (Int.toNat j) e)) true [id]
   | none=>none) none) none) none
  |_,_=>none
 | some (.ptr id st off),some p=>kond (wz56 p) (kond (Nat.beq sz 1) (kond (Nat.beq off 0) (match wzip T.h id with
  |some (st',.box cs)=>kond (Nat.beq st st') (kond (Nat.beq cs.length 1) (K (.s .top) id (.ref p) true [id]) none) none
  |some (st',.ref _)=>kond (Nat.beq st st') (K (.s .top) id (.ref p) true [id]) none
  | _=>none) none) none) none
 |_,_=>none
def wzoa(ty:List (Nat×CT))(T:TSt)(s st bytes:Nat)(x y:AArg)(K:PV->Nat->TO->Bool->List Nat->Option α):Option α:=match argP T none x,argP T none y with
 |some (.s .nil),some q=>match srcS T (wzi5 s ty) q with
  |some (a :: l,rd)=>kond (Nat.beq (wzi5 s ty).n st) (kond (Nat.blt 0 st) (kond (wzrs 64 l) (kond (Nat.ble bytes 1000000) (K (.own s T.nx) s (.own (wzi5 s ty) (a :: l)) false (s :: rd)) none) none) none) none
  |_=>none
 |some (.own id vst),some q=>match wzip T.h id with
  |some (st',.own c m)=>match srcS T c q with
   | some (l,rd)=>kond (Nat.beq vst st') (kond (Nat.beq id s) (kond (Nat.beq c.n st) (kond (Nat.blt 0 st) (kond (memN id rd) none
     (ck (decide (List.length (m++l)*bytes<=140737488355328)) (K (.own id T.nx) id (.own c (m++l)) false (id :: rd)))) none) none) none) none
   |none=>none
  |_=>none
 |some (.vec id vst),some q=>match wzip T.h id with
  |some (st',.vec c m)=>match srcS T c q with
   | some (l,rd)=>kond (Nat.beq vst st') (kond (Nat.beq c.n st) (kond (Nat.blt 0 st)
     (ck (decide (List.length (m++l)*bytes<=140737488355328)) (K (.vec id T.nx) id (.vec c (m++l)) false (id :: rd))) none) none) none
   |none=>none
  |_=>none
 |_,_=>none
def wzqs(ty:List (Nat×CT))(T:TSt)(st0:Nat)(x y:AArg)(K:PV->Nat->TO->Bool->List Nat->Option α):Option α:=match argP T none x,argP T none y with
 |some (.vs id vst lo hi),some q=>match wzip T.h id with
  |some (st',.vec c m)=>match srcS T c q with
   | some (l,rd)=>kond (Nat.beq vst st') (kond (Nat.beq c.n st0) (kond (memN id rd) none
     (ck (kzy m lo hi) (K (.s (.int .i64 (min (List.length l) (Int.toNat (hi-lo)):Int))) id (.vec c (qzy m (Int.toNat lo) (List.take (Int.toNat (hi-lo)) l))) true (id :: rd)))) none) none
   |none=>none
  |_=>none
 |_,_=>none
def wzpr(ty:List (Nat×CT))(T:TSt)(zero:List AVal)(x:AArg)(K:PV->Nat->TO->Bool->List Nat->Option α):Option α:=match ofAL zero,argP T none x with
 |some z,some (.vs id vst lo hi)=>match wzip T.h id with
  |some (st',.vec c m)=>match wzlh c z with
   |some e=>kond (Nat.beq vst st') (ck (kzy m lo hi) (K (.s (.tup [])) id (.vec c (qzy m (Int.toNat lo) (List.replicate (Int.toNat (hi-lo)) e))) true [id])) none
   |none=>none
  |_=>none
 |_,_=>none
def jzbx(ty:List (Nat×CT))(T:TSt)(s:Nat)(K:PV->Nat->TO->Bool->List Nat->Option α):Option α:=K (.mp s T.nx) s (.map (wzi5 s ty) (wzi5 (s+10000) ty) []) false [s]
def jzaz(ty:List (Nat×CT))(T:TSt)(kd:Nat)(x k v:AArg)(K:PV->Nat->TO->Bool->List Nat->Option α):Option α:=match argP T none x,argP T none k,argP T none v with
 |some (.mp id mst),some (.s key),some (.s val)=>match wzip T.h id with
  |some (st',.map ck cv l)=>match ofW ck key,ofW cv val with
   |some a,some b=>kond (Nat.beq mst st') (kond (isK ck kd) (kond (exV val) (K (.s .top) id (.map ck cv (mput (keq ck) l a b)) true [id]) none) none) none
   |_,_=>none
  |_=>none
 |_,_,_=>none
def opO(ty:List (Nat×CT))(T:TSt)(o:AOp)(K:PV->Nat->TO->Bool->List Nat->Option α):Option α:=match o with
 |.alloc s zero=>wzpk ty T s zero K
 |.box s x=>wzsc ty T s x K
 |.bslice s st nn zero ps=>wzob ty T s st nn zero ps K
 |.mks s st bytes zero x=>wzr9 ty T s st bytes zero x K
 |.s2b s x=>wzsa ty T s x K
 |.store sz x y=>wzp0 ty T sz x y K
 |.append s st bytes x y=>wzoa ty T s st bytes x y K
 |.copy st0 x y=>wzqs ty T st0 x y K
 |.clear zero x=>wzpr ty T zero x K
 |.mkmap s=>jzbx ty T s K
 |.mupd kd x k v=>jzaz ty T kd x k v K
 |_=>none
end
def wzm2:AOp->Bool
 |.alloc _ _ | .box _ _ | .bslice _ _ _ _ _ | .mks _ _ _ _ _ | .s2b _ _ | .store _ _ _ | .append _ _ _ _ _ | .copy _ _ _ | .clear _ _ | .mkmap _ | .mupd _ _ _ _=>true
 |_=>false
def wzl0(id st nx:Nat):PV->PV
 |.ptr i s off=>kond (Nat.beq i id) (kond (Nat.beq s st) (.ptr i nx off) (.ptr i s off)) (.ptr i s off)
 |.vec i s=>kond (Nat.beq i id) (kond (Nat.beq s st) (.vec i nx) (.vec i s)) (.vec i s)
 |.vs i s lo hi=>kond (Nat.beq i id) (kond (Nat.beq s st) (.vs i nx lo hi) (.vs i s lo hi)) (.vs i s lo hi)
 |.own i s=>kond (Nat.beq i id) (kond (Nat.beq s st) (.own i nx) (.own i s)) (.own i s)
 |.mp i s=>kond (Nat.beq i id) (kond (Nat.beq s st) (.mp i nx) (.mp i s)) (.mp i s)
 |.ag cs k i s=>kond (Nat.beq i id) (kond (Nat.beq s st) (.ag cs k i nx) (.ag cs k i s)) (.ag cs k i s)
 |x=>x
def jzcy(id st nx:Nat):TO->TO
 |.ref p=>.ref (wzl0 id st nx p)
 |.rag cs k i s=>kond (Nat.beq i id) (kond (Nat.beq s st) (.rag cs k i nx) (.rag cs k i s)) (.rag cs k i s)
 |o=>o
def wz6t(id st nx:Nat):List (Nat×Nat×TO)->List (Nat×Nat×TO)
 |[]=>[]
 |(i,s,o) :: l=>(i,s,jzcy id st nx o) :: wz6t id st nx l
def wzmy(id st nx:Nat):List (Nat×TV)->List (Nat×TV)
 |[]=>[]
 |(i,.v x) :: l=>(i,.v (wzl0 id st nx x)) :: wzmy id st nx l
 |p :: l=>p :: wzmy id st nx l
def putS(T:TSt)(d:Option Tmp)(v:TV):TSt:=match d with
 |some d=>⟨(d,v) :: T.t,T.h,T.nx,T.n,T.gs,d :: T.w,T.wo,T.b,T.rf⟩
 |none=>T
def putO(T:TSt)(id:Nat)(o:TO)(re:Bool):TSt :=
 ⟨kond re (match wzip T.h id with
  |some (st,_)=>wzmy id st T.nx T.t
  |none=>T.t) T.t,(id,T.nx,o) :: kond re (match wzip T.h id with
  |some (st,_)=>wz6t id st T.nx T.h
  | none=>T.h) T.h,T.nx+1,T.n,T.gs,T.w,id :: T.wo,T.b,T.rf⟩
def addG(T:TSt)(tg:Nat):TSt:=⟨T.t,T.h,T.nx,T.n,tg :: T.gs,T.w,T.wo,T.b,T.rf⟩
def allA(T:TSt)(G:Gd):List AArg->Bool
 |[]=>true
 |a :: l=>match argP T G a with
  |some _=>allA T G l
  |none=>false
def gdT(want:Bool):TV->Option Bool
 |.v (.s (.bool b))=>some (kond want b (!b))
 |.cnd _ _ g (.s (.bool b))=>some (g&&kond want b (!b))
 |_=>none
def allO(T:TSt)(G:Gd):AOp->Bool
 |.pick c _ _=>allA T G [c]
 |o=>allA T G o.args
def wzo6(T:TSt):Option Tmp->Bool
 |some d=>kond (Nat.blt d T.n) (!memN d T.gs) false
 |none=>true
def wz82:TO->Bool
 |.out _ _ _=>false
 |_=>true
def wznx[kzhw]{α:Type}(H:List Fe)(ty:List (Nat×CT))(T:TSt)(o:qzc)(K:TSt->List Nat->Option Nat->Option α):Option α:=match o.guard with
 |none=>kond (wzo6 T o.dst) (kond (wzm2 o.op) (kond (wz92 T.b o.op) (opO ty T o.op fun v id ob re rd=>kond (wz82 ob) (K (putS (putO T id ob re) o.dst (.v v)) rd (some id)) none) none) (opV H ty T none o.op fun v rd=>K (putS T o.dst (.v v)) rd none)) none
 |some (tg,want)=>match gdT want (wzin T.t tg) with
  | some g=>kond (wzo6 (addG T tg) o.dst) (kond (wzm2 o.op) none (kond (allO T (some (tg,want,g)) o.op)
    (opV H ty T (some (tg,want,g)) o.op fun v rd=>K (putS (addG T tg) o.dst (.cnd tg want g v)) rd none) none)) none
  |none=>none
def wzk4:List (Nat×TV)->List (Nat×TV)
 |[]=>[]
 |(i,.cnd _ _ _ _) :: l=>(i,.v (.s .top)) :: wzk4 l
 |p :: l=>p :: wzk4 l
def endT(T:TSt):TSt:=match T.gs with
 |[]=>T
 |_=>⟨wzk4 T.t,T.h,T.nx,T.n,[],T.w,T.wo,T.b,T.rf⟩
def frzP(id st:Nat)(o:TO):PV->PV
 | .ptr i s off=>kond (Nat.beq i id) (kond (Nat.beq s st) (match o with
  |.box cs=>.s (.cptr cs off)
  | _=>.ptr i s off) (.ptr i s off)) (.ptr i s off)
 | .vec i s=>kond (Nat.beq i id) (kond (Nat.beq s st) (match o with
  |.vec c l=>.s (.slc c l)
  | _=>.vec i s) (.vec i s)) (.vec i s)
 | .own i s=>kond (Nat.beq i id) (kond (Nat.beq s st) (match o with
  |.own c l=>.s (.slc c l)
  | _=>.own i s) (.own i s)) (.own i s)
 | .ag cs k i s=>kond (Nat.beq i id) (kond (Nat.beq s st) (match o with
  |.vec c l=>.s (.agg (cs.set k (.slc c l)))
  | _=>.ag cs k i s) (.ag cs k i s)) (.ag cs k i s)
 |x=>x
def wzo0(id st:Nat):PV->Bool
 |.ptr i s _=>kond (Nat.beq i id) (Nat.beq s st) false
 |.vec i s=>kond (Nat.beq i id) (Nat.beq s st) false
 |.own i s=>kond (Nat.beq i id) (Nat.beq s st) false
 |.ag _ _ i s=>kond (Nat.beq i id) (Nat.beq s st) false
 |_=>false
def frzT(id st:Nat)(o:TO):List (Nat×TV)->List (Nat×TV)
 |[]=>[]
 |(i,.v x) :: l=>(i,.v (frzP id st o x)) :: frzT id st o l
 |p :: l=>p :: frzT id st o l
def frzW(id st:Nat):List (Nat×TV)->List Nat->List Nat
 |[],w=>w
 |(i,.v x) :: l,w=>kond (wzo0 id st x) (i :: frzW id st l w) (frzW id st l w)
 |_ :: l,w=>frzW id st l w
def frzO(id st:Nat)(o:TO):TO->TO
 |.ref p=>match frzP id st o p with
  |.s v=>.box [v]
  |q=>.ref q
 | .rag cs k i s=>kond (Nat.beq i id) (kond (Nat.beq s st) (match o with
  |.vec c l=>.box (cs.set k (.slc c l))
  | _=>.rag cs k i s) (.rag cs k i s)) (.rag cs k i s)
 |x=>x
def frzH(id st:Nat)(o:TO):List (Nat×Nat×TO)->List (Nat×Nat×TO)
 |[]=>[]
 |(i,s,x) :: l=>(i,s,frzO id st o x) :: frzH id st o l
def wz8v(id st:Nat):TO->Bool
 |.ref p=>wzo0 id st p
 |.rag _ _ i s=>kond (Nat.beq i id) (Nat.beq s st) false
 |_=>false
def wz57(id st:Nat):List (Nat×Nat×TO)->List Nat->List Nat
 |[],w=>w
 |(i,_,x) :: l,w=>kond (wz8v id st x) (i :: wz57 id st l w) (wz57 id st l w)
def frz1(T:TSt)(id:Nat):TSt:=match wzip T.h id with
 |some (st,.gone)=>T
 |some (st,.ref _)=>T
 |some (st,.rag _ _ _ _)=>T
 |some (st,.map _ _ _)=>T
 |some (st,.out _ _ _)=>T
 |some (st,o)=>⟨frzT id st o T.t,(id,T.nx,.gone) :: frzH id st o T.h,T.nx+1,T.n,T.gs,frzW id st T.t T.w,id :: wz57 id st T.h T.wo,T.b,T.rf⟩
 |none=>T
def frzA(T:TSt):List Nat->TSt
 |[]=>T
 |id :: l=>frzA (frz1 T id) l
def refB(T:TSt)(id:Nat):List Nat:=match wzip T.h id with
 |some (_,.ref (.own i _))=>[i,id]
 |some (_,.ref (.vec i _))=>[i,id]
 |some (_,.rag _ _ i _)=>[i,id]
 |_=>[id]
def refA(T:TSt)(bx vc:Bool):AArg->List Nat
 |.t n=>match wzin T.t n with
  |.v (.own id _)=>[id]
  |.v (.vec id _)=>kond vc [id] []
  |.v (.ag _ _ id _)=>kond vc [id] []
  |.v (.ptr id _ _)=>kond bx (refB T id) []
  |_=>[]
 |_=>[]
def jzi0(T:TSt):AArg->Bool
 |.t n=>match wzin T.t n with
  |.v (.ptr id _ _)=>match wzip T.h id with
   |some (_,.box [_])=>true
   |some (_,.ref _)=>true
   |_=>false
  |_=>false
 |_=>false
def isAg(T:TSt):AArg->Bool
 |.t n=>match wzin T.t n with
  |.v (.ag _ _ _ _)=>true
  |_=>false
 |_=>false
def wzmh(T:TSt)(bx vc:Bool):List AArg->List Nat
 |[]=>[]
 |x :: l=>refA T bx vc x++wzmh T bx vc l
def appF(T:TSt)(s:Nat)(x:AArg)(l:List Nat):List Nat:=match argP T none x with
 |some (.s .nil)=>match wzip T.h s with
  |some (_,.own _ _)=>s :: l
  |_=>l
 |_=>l
def wzr4(T:TSt):AOp->List Nat
 |.append s _ _ x y=>appF T s x (refA T false false y)
 |.b2s x | .slice _ _ x _ _ | .copy _ _ x=>refA T false false x
 |.callf _ l=>wzmh T false true l
 |.callv x l=>wzmh T false true l
 |.mkfn _ _ l=>wzmh T true true l
 |.build _ ps=>wzmh T false true (ps.map fun p=>p.2.2)
 |.bslice _ _ _ _ ps=>wzmh T false true (ps.map fun p=>p.2.2)
 |.mupd _ _ _ y=>refA T false true y
 |.store _ x y=>kond (jzi0 T x) [] (kond (isAg T y) [] (refA T false true y))
 |_=>[]
def mvF:List (Nat×AArg)->AArg->AArg
 |(d,y) :: l,.t n=>kond (Nat.beq d n) y (mvF l (.t n))
 |_,x=>x
def drwF(T:TSt):List (Nat×AArg)->List qzc->List Nat
 |_,[]=>[]
 |m,o :: l=>match o.guard,o.op with
  |none,.append s _ _ x _=>appF T s (mvF m x) (drwF T m l)
  |none,.mv y=>match o.dst with
   |some d=>drwF T ((d,mvF m y) :: m) l
   |none=>drwF T m l
  |_,_=>drwF T m l
def isY(T:TSt)(o:qzc):Bool:=match o.guard,o.op with
 |none,.callv x _=>match argP T none x with
  |some (.yl _ _)=>true
  |_=>false
 |_,_=>false
def wz91(i j:Nat)(l:List (TabT.FA i)):Option (List (TabT.FA j)):=if h:i=j then some (h▸l) else none
def yldT{α:Type}(T:TSt)(o:qzc)(K:TSt->Option α):Option α:=match o.op with
 |.callv x ags=>match argP T none x,wznn T none ags,wzip T.h 1899 with
  |some (.yl i st),some vs,some (_,.out j l false)=>match wz91 j i l,wzmq (Tab.fa i) vs with
   | some m,some r=>kond (wzo6 T o.dst) (bd (st (m++[cast (Tab.eA i) r])) fun s=>ite' s
     (K (putS (putO T 1899 (.out i (m++[cast (Tab.eA i) r]) true) false) o.dst (.v (.s (.bool false)))))
     (K (putS (putO T 1899 (.out i (m++[cast (Tab.eA i) r]) false) false) o.dst (.v (.s (.bool true)))))) none
   |_,_=>none
  |_,_,_=>none
 |_=>none
def litT(T:TSt)(tg:Nat)(b:Bool):TSt:=⟨(tg,.v (.s (.bool b))) :: T.t,T.h,T.nx,T.n,T.gs,T.w,T.wo,T.b,T.rf⟩
def unG(tg:Nat)(want:Bool):List (Nat×TV)->List (Nat×TV)
 |[]=>[]
 |(i,.cnd a b g x) :: l=>(i,kond (Nat.beq a tg) (kond (eqB b want) (.v x) (.cnd a b g x)) (.cnd a b g x)) :: unG tg want l
 |p :: l=>p :: unG tg want l
def unT(T:TSt)(tg:Nat)(want:Bool):TSt:=⟨unG tg want T.t,T.h,T.nx,T.n,T.gs,T.w,T.wo,T.b,T.rf⟩
def isYg(T:TSt)(o:qzc):Bool:=match o.guard,o.op with
 |some (tg,want),.callv x _=>match argP (unT T tg want) none x with
  |some (.yl _ _)=>true
  |_=>false
 |_,_=>false
def yldH{α:Type}(T:TSt)(tg:Nat)(want:Bool)(d:Option Tmp)(x:AArg)(ags:List AArg)(K:TSt->Option α):Option α:=match argP (unT T tg want) none x,wznn (unT T tg want) none ags,wzip T.h 1899 with
 |some (.yl i st),some vs,some (_,.out j l false)=>match wz91 j i l,wzmq (Tab.fa i) vs with
  | some m,some r=>kond (allA (unT T tg want) none (x :: ags)) (bd (st (m++[cast (Tab.eA i) r])) fun s=>ite' s
    (K (putS (putO T 1899 (.out i (m++[cast (Tab.eA i) r]) true) false) d (.cnd tg want true (.s (.bool false)))))
    (K (putS (putO T 1899 (.out i (m++[cast (Tab.eA i) r]) false) false) d (.cnd tg want true (.s (.bool true)))))) none
  |_,_=>none
 |_,_,_=>none
def yldG{α:Type}(T:TSt)(o:qzc)(K:TSt->Option α):Option α:=match o.guard,o.op with
 |some (tg,want),.callv x ags=>match wzin T.t tg with
  | .v (.s (.bool b))=>kond (wzo6 (addG T tg) o.dst) (ite' (kond want b (!b))
    (yldH (litT (addG T tg) tg want) tg want o.dst x ags K)
    (K (putS (litT (addG T tg) tg (!want)) o.dst (.cnd tg want false (.s (.bool false)))))) none
  |_=>none
 |_,_=>none
def isW(H:List Fe)(o:qzc):Bool:=match o.guard,o.op with
 |none,.callf f (_ :: _)=>match wz71 f H with
  |some _=>true
  |none=>match wz6m f H with
   |some _=>true
   |none=>match jz7s f H with
    |some _=>true
    |none=>match jz7k f H with
     |some _=>true
     |none=>false
 |_,_=>false
def wz90(H:List Fe)(T:TSt)(o:qzc):List Nat:=kond (isW H o) (match o.op with
 |.callf f (x :: l)=>match jz7k f H with
  |some _=>wzmh T false true (x :: l)
  |none=>wzmh T false true l
 | _=>[]) (wzr4 T o.op)
def srcT(T:TSt)(c:CT)(s:Nat)(x:AArg):Option (List c.T):=match argP T none x with
 |some (.s v)=>ofSl c v
 |some (.own id st)=>match wzip T.h id with
  |some (st',.own c' m)=>kond (Nat.beq st st') (kond (Nat.beq id s) none (wzmw c' c m)) none
  |_=>none
 |some (.vec id st)=>match wzip T.h id with
  |some (st',.vec c' m)=>kond (Nat.beq st st') (kond (Nat.beq id s) none (wzmw c' c m)) none
  |_=>none
 |some (.vs id st lo hi)=>match wzip T.h id with
  | some (st',.vec c' m)=>kond (Nat.beq st st') (kond (Nat.beq id s) none (match wzmw c' c m with
   |some m=>some (sub m lo hi)
   | none=>none)) none
  |_=>none
 |_=>none
def clS(b d:Nat):Nat:=b+600+d
def clnT[kzhw]{α:Type}(H:List Fe)(T:TSt)(d:Option Tmp)(f:FuncId)(x:AArg)(l:List AArg)(K:TSt->Option α):Option α:=match wz6m f H,d with
 |some C,some d=>match srcT T C.c (clS T.b d) x,wznn T none l with
  |some m,some vs=>match wz4d H C.a C.p vs with
   |some r=>kond (wzo6 T (some d)) (kond (inR T.b (clS T.b d)) (bd (C.F m r) fun m'=>K (putS (putO T (clS T.b d) (.vec C.c m') false) (some d) (.v (.vec (clS T.b d) T.nx)))) none) none
   |none=>none
  |_,_=>none
 |_,_=>none
def inwT[kzhw]{α:Type}(H:List Fe)(T:TSt)(d:Option Tmp)(f:FuncId)(x:AArg)(l:List AArg)(K:TSt->Option α):Option α:=match wz71 f H,argP T none x,wznn T none l with
  |some C,some (.own id st),some vs=>match wzip T.h id,wz4d H C.a C.p vs with
   |some (st',.own c m),some r=>match wzmw c C.c m with
    |some m=>kond (wzo6 T d) (kond (Nat.beq st st') (bd (C.F m r) fun m'=>K (putS (putO T id (.own C.c m') true) d (.v (.s (.tup []))))) none) none
    |none=>none
   |_,_=>none
  |_,_,_=>none
def zinT[kzhw]{α:Type}(H:List Fe)(T:TSt)(d:Option Tmp)(f:FuncId)(x:AArg)(l:List AArg)(K:TSt->Option α):Option α:=match jz7s f H,argP T none x,wznn T none l with
  |some C,some (.own id st),some vs=>match wzip T.h id,wz4d H C.a C.p vs with
   |some (st',.own c m),some r=>match wzmw c C.c m with
    |some m=>kond (wzo6 T d) (kond (Nat.beq st st') (bd (C.F m r) fun m'=>K (putS (putO T id .gone false) d (.v (.s (.slc C.c m'))))) none) none
    |none=>none
   |_,_=>none
  |_,_,_=>none
def dinT[kzhw]{α:Type}(H:List Fe)(T:TSt)(d:Option Tmp)(f:FuncId)(l:List AArg)(K:TSt->Option α):Option α:=match jz7k f H,d with
 |some C,some d=>match wznn T none l with
  |some vs=>match wz4d H C.a C.p vs with
   |some r=>kond (wzo6 T (some d)) (kond (inR T.b (clS T.b d)) (bd (C.F r) fun m'=>K (putS (putO T (clS T.b d) (.own C.c m') false) (some d) (.v (.own (clS T.b d) T.nx)))) none) none
   |none=>none
  |none=>none
 |_,_=>none
def inpT[kzhw]{α:Type}(H:List Fe)(T:TSt)(o:qzc)(K:TSt->Option α):Option α:=match o.op with
 |.callf f (x :: l)=>match wz6m f H with
  |some _=>clnT H T o.dst f x l K
  |none=>match jz7s f H with
   |some _=>zinT H T o.dst f x l K
   |none=>match jz7k f H with
    |some _=>dinT H T o.dst f (x :: l) K
    |none=>inwT H T o.dst f x l K
 |_=>none
def regT[kzhw]{α:Type}(H:List Fe)(ty:List (Nat×CT)):List qzc->TSt->(TSt->Option α)->Option α
 |[],T,K=>K (endT T)
 |o :: r,T,K=>(fun T=>kond (isW H o) (inpT H T o fun T'=>regT H ty r T' K) (kond (isY T o) (yldT T o fun T'=>regT H ty r T' K) (kond (isYg T o) (yldG T o fun T'=>regT H ty r T' K) (wznx H ty T o fun T' _ _=>regT H ty r T' K)))) (frzA T (wz90 H T o))
def mvY(T:TSt)(ys:List Nat)(o:qzc):List Nat:=match o.guard,o.dst,o.op with
 |none,some d,.mv (.t n)=>match argP T none (.t n) with
  |some (.yl _ _)=>d :: ys
  |_=>kond (memN n ys) (d :: ys) ys
 |_,_,_=>ys
def isYs(T:TSt)(ys:List Nat)(o:qzc):Bool:=match o.guard,o.op with
 |none,.callv (.t n) _=>kond (memN n ys) true (isY T o)
 |_,_=>isY T o
def splY(H:List Fe)(T:TSt):List Nat->List qzc->List qzc×List qzc
 |_,[]=>([],[])
 | ys,o :: r=>kond (kond (isYs T ys o) true (isW H o)) ([],o :: r) (match splY H T (mvY T ys o) r with
  | (a,b)=>(o :: a,b))
def wzzo(T:TSt)(id st:Nat)(ob:TO):List AArg->Option (List SV)
 |[]=>some []
 |a :: l=>match argP T none a,wzzo T id st ob l with
  |some x,some r=>match frzP id st ob x with
   |.s v=>some (v :: r)
   |_=>none
  |_,_=>none
def isSl:TO->Bool
 |.vec _ _ | .own _ _=>true
 |_=>false
def wzz4[kzhw]{α:Type}(H:List Fe)(T:TSt)(f:FuncId)(ags:List AArg)(id:Nat)(K:PV->Option α):Option α:=match wzip T.h id,wz6s f H with
 |some (st,ob),some C=>match wzzo T id st ob ags with
  |some vs=>match wz4d H C.a C.p vs with
   |some r=>kond (isSl ob) (bd (C.F r) fun x=>K (.s (retT C.r x))) none
   |none=>none
  |none=>none
 |_,_=>none
def wzzw[kzhw]{α:Type}(H:List Fe)(ty:List (Nat×CT))(T:TSt)(o:qzc)(K:TSt->List Nat->Option Nat->Option α):Option α:=match o.guard,o.op with
 |none,.callf f ags=>match wzmh T false true ags with
  |[]=>wznx H ty T o K
  |id :: _=>kond (wzo6 T o.dst) (wzz4 H T f ags id fun v=>K (putS (putO T id .gone false) o.dst (.v v)) [id] (some id)) none
 |_,_=>wznx H ty T o K
def wz0a[kzhw]{α:Type}(H:List Fe)(ty:List (Nat×CT))(T:TSt)(o:qzc)(tg:Nat)(want:Bool)(K:TSt->List Nat->Option Nat->Option α):Option α:=kond (wzo6 T o.dst) (match o.op with
 |.callf f ags=>match wzmh (unT T tg want) false true ags with
  |[]=>wznx H ty T o K
  |id :: _=>kond (allA (unT T tg want) none ags) (wzz4 H (unT T tg want) f ags id fun v=>K (putS (putO T id .gone false) o.dst (.cnd tg want true v)) [id] (some id)) none
 | op=>kond (wzm2 op) (kond (allA (unT T tg want) none op.args) (kond (wz92 T.b op) (opO ty (unT T tg want) op fun v id ob re rd=>kond (wz82 ob) (K (putS (putO T id ob re) o.dst (.cnd tg want true v)) rd (some id)) none) none) none) (wznx H ty T o K)) none
def notV:AOp->Bool
 |.callv _ _=>false
 |.mnext _=>false
 |_=>true
def wzz2{α:Type}(T:TSt)(o:qzc)(tg:Nat)(want:Bool)(K:TSt->List Nat->Option Nat->Option α):Option α:=kond (wzo6 T o.dst) (kond (notV o.op) (K (putS T o.dst (.cnd tg want false (.s .top))) [] none) none) none
def wzz5{α:Type}(T:TSt)(o:qzc)(tg:Nat)(x:AArg)(K:TSt->List Nat->Option Nat->Option α):Option α:=match wzin T.t tg,argP T none x with
 |.v (.s (.bool _)),some p=>kond (wzo6 T o.dst) (K (putS T o.dst (.v p)) [] none) none
 |_,_=>none
abbrev Kn:=Option (Nat×Bool×Bool)
def wz18[kzhw]{α:Type}(H:List Fe)(ty:List (Nat×CT))(kn:Kn)(T:TSt)(o:qzc)(K:TSt->List Nat->Option Nat->Option α):Option α:=match kn with
 |none=>wzzw H ty T o K
 |some (tg,want,b)=>match o.guard with
  |some (tg',want')=>kond (Nat.beq tg' tg) (kond (eqB want' want) (kond b (wz0a H ty T o tg want K) (wzz2 T o tg want K)) (wzzw H ty T o K)) (wzzw H ty T o K)
  | none=>kond b (wzzw H ty T o K) (match o.op with
   |.pick (.t n) x y=>kond (Nat.beq n tg) (wzz5 T o tg (kond want y x) K) (wzzw H ty T o K)
   | _=>wzzw H ty T o K)
def wz19(T:TSt)(tg:Nat)(want:Bool):AOp->Bool
 |.callf _ ags=>match wzmh (unT T tg want) false true ags with
  |[]=>false
  |_=>true
 |op=>wzm2 op
def wzqa[kzhw]{α:Type}(H:List Fe)(ty:List (Nat×CT)):List qzc->Kn->TSt->(TSt->List (List Nat×Option Nat)->Option α)->Option α
 |[],_,T,K=>K T []
 |o :: r,kn,T,K=>match kn,o.guard with
  | none,some (tg,want)=>kond (wz19 T tg want o.op) (match gdT want (wzin T.t tg) with
   |some g=>ite' g (wz0a H ty (addG T tg) o tg want fun T' rd out=>wzqa H ty r (some (tg,want,true)) T' fun T'' tr=>K T'' ((rd,out) :: tr))
     (wzz2 (addG T tg) o tg want fun T' rd out=>wzqa H ty r (some (tg,want,false)) T' fun T'' tr=>K T'' ((rd,out) :: tr))
   | none=>none) (wzzw H ty T o fun T' rd out=>wzqa H ty r none T' fun T'' tr=>K T'' ((rd,out) :: tr))
  |_,_=>wz18 H ty kn T o fun T' rd out=>wzqa H ty r kn T' fun T'' tr=>K T'' ((rd,out) :: tr)
inductive SH where
 |k | v (c:CT) | c (a:AVal) | own (id:Nat) | vec (id:Nat) | ptr (id off:Nat) | mp (id:Nat) | owk (id:Nat)
inductive OH where
 |k | gone | box (c:CT) | own (c:CT) | vec (c:CT) | rown (id:Nat) | rvec (id:Nat) | rmp (id:Nat) | map (k v:CT) | out (i:Nat) (b:Bool) | rag (c:CT) (k id:Nat)
inductive OE where
 |n | x (id:Nat) | r
structure OutH where
 e:OE
 sl:List (Nat×SH)
 ob:List (Nat×OH)
def ctsS:List (Nat×SH)->List CT->List CT
 |[],r=>r
 |(_,.v c) :: l,r=>c :: ctsS l r
 |_ :: l,r=>ctsS l r
def ctsO:List (Nat×OH)->List CT
 |[]=>[]
 |(_,.box c) :: l=>c :: ctsO l
 |(_,.rag c _ _) :: l=>c :: ctsO l
 |(_,.own c) :: l=>.slc c :: ctsO l
 |(_,.vec c) :: l=>.slc c :: ctsO l
 |(_,.map k v) :: l=>.mp k v :: ctsO l
 |(_,.out i _) :: l=>.yl i :: ctsO l
 |_ :: l=>ctsO l
def OutH.cts(H:OutH):List CT:=ctsS H.sl (ctsO H.ob)
def curO(T:TSt)(id st:Nat):Bool:=match wzip T.h id with
 |some (st',_)=>Nat.beq st st'
 |none=>false
def curW(T:TSt)(id st:Nat):Bool:=match wzip T.h id with
 |some (st',.own _ _)=>Nat.beq st st'
 |_=>false
def eqA1:SV->AVal->Bool
 |.int k n,.int k' m=>if k=k' then decide (n=m) else false
 |.bool a,.bool b=>eqB a b
 |.str a,.str b=>decide (a=b)
 |.nil,.nils=>true
 |.nilp,.nilp=>true
 |_,_=>false
def kpP(T0 T:TSt):TV->Bool
 |.v (.s _)=>true
 |.v (.ptr id st _)=>curO T id st
 |.v (.vec id st)=>curO T id st
 |.v (.vs id st _ _)=>curO T id st
 |.v (.own id st)=>curO T id st
 |.v (.mp id st)=>curO T id st
 |.v (.yl _ _)=>true
 |.v (.kys id st _)=>curO T id st
 |_=>false
def wzmg(i:Nat):List (Nat×OH)->Bool
 |[]=>false
 | (j,o) :: l=>kond (Nat.beq j i) (match o with
  |.own _=>true
  | _=>false) (wzmg i l)
def wzo4(i:Nat):List (Nat×OH)->Bool
 |[]=>false
 | (j,o) :: l=>kond (Nat.beq j i) (match o with
  |.vec _=>true
  | _=>false) (wzo4 i l)
def chS(T0 T:TSt)(ob:List (Nat×OH)):List (Nat×SH)->Bool
 |[]=>true
 |(i,.k) :: l=>kond (memN i T.w) false (kond (kpP T0 T (wzin T0.t i)) (chS T0 T ob l) false)
 |(i,.v c) :: l=>chS T0 T ob l
 |(i,.c a) :: l=>match wzin T.t i with
  |.v (.s v)=>kond (eqA1 v a) (chS T0 T ob l) false
  |_=>false
 |(i,.own id) :: l=>match wzin T.t i with
  |.v (.own id' st)=>kond (wzmg id ob) (kond (Nat.beq id' id) (kond (curW T id st) (chS T0 T ob l) false) false) false
  |.v (.s .nil)=>match wzip T.h id with
   |some (_,.gone)=>kond (wzmg id ob) (chS T0 T ob l) false
   |none=>kond (wzmg id ob) (chS T0 T ob l) false
   |_=>false
  |_=>false
 | (i,.owk id) :: l=>kond (memN i T.w) false (match wzin T.t i with
  |.v (.own id' st)=>kond (wzmg id ob) (kond (Nat.beq id' id) (kond (curW T id st) (chS T0 T ob l) false) false) false
  | _=>false)
 |(i,.vec id) :: l=>match wzin T.t i with
  |.v (.vec id' st)=>kond (wzo4 id ob) (kond (Nat.beq id' id) (kond (curO T id st) (chS T0 T ob l) false) false) false
  |_=>false
 |(i,.mp id) :: l=>match wzin T.t i with
  |.v (.mp id' st)=>kond (Nat.beq id' id) (kond (curO T id st) (chS T0 T ob l) false) false
  |_=>false
 |(i,.ptr id off) :: l=>match wzin T.t i with
  |.v (.ptr id' st off')=>kond (Nat.beq id' id) (kond (Nat.beq off' off) (kond (curO T id st) (chS T0 T ob l) false) false) false
  |_=>false
def chO(T0 T:TSt)(ob:List (Nat×OH)):List (Nat×OH)->Bool
 |[]=>true
 |(i,.k) :: l=>kond (memN i T.wo) false (chO T0 T ob l)
 |(i,.rmp id) :: l=>match wzip T.h i with
  |some (_,.ref (.mp id' st))=>kond (Nat.beq id' id) (kond (curO T id st) (chO T0 T ob l) false) false
  |_=>false
 |(i,.rvec id) :: l=>match wzip T.h i with
  |some (_,.ref (.vec id' st))=>kond (wzo4 id ob) (kond (Nat.beq id' id) (kond (curO T id st) (chO T0 T ob l) false) false) false
  |_=>false
 |(i,.rag _ k id) :: l=>match wzip T.h i with
  |some (_,.rag _ k' id' st)=>kond (Nat.beq k' k) (kond (wzo4 id ob) (kond (Nat.beq id' id) (kond (curO T id st) (chO T0 T ob l) false) false) false) false
  |_=>false
 |(i,.rown id) :: l=>match wzip T.h i with
  |some (_,.ref (.own id' st))=>kond (wzmg id ob) (kond (Nat.beq id' id) (kond (curW T id st) (chO T0 T ob l) false) false) false
  |some (_,.box [.nil])=>match wzip T.h id with
   |some (_,.gone)=>kond (wzmg id ob) (chO T0 T ob l) false
   |none=>kond (wzmg id ob) (chO T0 T ob l) false
   |_=>false
  |_=>false
 |_ :: l=>chO T0 T ob l
def hasK{β:Type}(i:Nat):List (Nat×β)->Bool
 |[]=>false
 |p :: l=>kond (Nat.beq p.1 i) true (hasK i l)
def wzoq(l:List (Nat×OH)):List (Nat×Nat×TO)->Bool
 |[]=>true
 |p :: r=>kond (hasK p.1 l) (wzoq l r) false
def svS(T:TSt):List (Nat×SH)->Option (List SV)
 |[]=>some []
 |(i,.v _) :: l=>match wzin T.t i,svS T l with
  |.v (.s v),some r=>some (v :: r)
  |_,_=>none
 |_ :: l=>svS T l
def svO(T:TSt):List (Nat×OH)->Option (List SV)
 |[]=>some []
 |(i,.box c) :: l=>match wzip T.h i,svO T l with
  |some (_,.box cs),some r=>match wzlh c cs with
   |some x=>some (wT c x :: r)
   |none=>none
  |_,_=>none
 |(i,.rag c _ _) :: l=>match wzip T.h i,svO T l with
  |some (_,.rag cs _ _ _),some r=>match wzlh c cs with
   |some x=>some (wT c x :: r)
   |none=>none
  |_,_=>none
 |(i,.own c) :: l=>match wzip T.h i,svO T l with
  |some (_,.own c' m),some r=>some (.slc c' m :: r)
  |some (_,.gone),some r=>some (.slc c [] :: r)
  |none,some r=>some (.slc c [] :: r)
  |_,_=>none
 |(i,.vec c) :: l=>match wzip T.h i,svO T l with
  |some (_,.vec c' m),some r=>some (.slc c' m :: r)
  |_,_=>none
 |(i,.map k v) :: l=>match wzip T.h i,svO T l with
  |some (_,.map k' v' m),some r=>some (.mpv k' v' m :: r)
  |_,_=>none
 |(i,.out _ b) :: l=>match wzip T.h i,svO T l with
  |some (_,.out j m b'),some r=>kond (kond b' b true) (some (.ylv j m :: r)) none
  |_,_=>none
 |_ :: l=>svO T l
def rbS(T0:TSt):List (Nat×SH)->List SV->List (Nat×TV)
 |[],_=>[]
 |(i,.k) :: l,v=>(i,wzin T0.t i) :: rbS T0 l v
 |(i,.v _) :: l,x :: v=>(i,.v (.s x)) :: rbS T0 l v
 |(i,.v _) :: l,[]=>rbS T0 l []
 | (i,.c a) :: l,v=>(match ofA1 a with
  |some x=>(i,.v (.s x))
  | none=>(i,.v (.s .top))) :: rbS T0 l v
 |(i,.own id) :: l,v=>(i,.v (.own id T0.nx)) :: rbS T0 l v
 |(i,.owk id) :: l,v=>(i,.v (.own id T0.nx)) :: rbS T0 l v
 |(i,.vec id) :: l,v=>(i,.v (.vec id T0.nx)) :: rbS T0 l v
 |(i,.ptr id off) :: l,v=>(i,.v (.ptr id T0.nx off)) :: rbS T0 l v
 |(i,.mp id) :: l,v=>(i,.v (.mp id T0.nx)) :: rbS T0 l v
def nV:List (Nat×SH)->Nat
 |[]=>0
 |(_,.v _) :: l=>nV l+1
 |_ :: l=>nV l
def rbO(T0:TSt):List (Nat×OH)->List SV->List (Nat×Nat×TO)
 |[],_=>[]
 |(i,.k) :: l,v=>match wzip T0.h i with
  |some p=>(i,p) :: rbO T0 l v
  |none=>(i,T0.nx,.gone) :: rbO T0 l v
 |(i,.gone) :: l,v=>(i,T0.nx,.gone) :: rbO T0 l v
 |(i,.rvec id) :: l,v=>(i,T0.nx,.ref (.vec id T0.nx)) :: rbO T0 l v
 |(i,.rmp id) :: l,v=>(i,T0.nx,.ref (.mp id T0.nx)) :: rbO T0 l v
 |(i,.rown id) :: l,v=>(i,T0.nx,.ref (.own id T0.nx)) :: rbO T0 l v
 | (i,.rag _ k id) :: l,x :: v=>(match x.cells with
  |some cs=>(i,T0.nx,.rag cs k id T0.nx)
  | none=>(i,T0.nx,.gone)) :: rbO T0 l v
 | (i,.box c) :: l,x :: v=>(match x.cells with
  |some cs=>(i,T0.nx,.box cs)
  | none=>(i,T0.nx,.gone)) :: rbO T0 l v
 | (i,.own _) :: l,x :: v=>(match x with
  |.slc c m=>(i,T0.nx,.own c m)
  | _=>(i,T0.nx,.gone)) :: rbO T0 l v
 | (i,.vec _) :: l,x :: v=>(match x with
  |.slc c m=>(i,T0.nx,.vec c m)
  | _=>(i,T0.nx,.gone)) :: rbO T0 l v
 | (i,.map _ _) :: l,x :: v=>(match x with
  |.mpv k w m=>(i,T0.nx,.map k w m)
  | _=>(i,T0.nx,.gone)) :: rbO T0 l v
 | (i,.out _ b) :: l,x :: v=>(match x with
  |.ylv j m=>(i,T0.nx,.out j m b)
  | _=>(i,T0.nx,.gone)) :: rbO T0 l v
 |(i,_) :: l,[]=>(i,T0.nx,.gone) :: rbO T0 l []
def ltK(n:Nat):List (Nat×SH)->Bool
 |[]=>true
 |p :: l=>kond (Nat.blt p.1 n) (ltK n l) false
def wzme(sl:List (Nat×SH)):List (Nat×TV)->List Nat->List Nat
 |[],w=>w
 |p :: l,w=>kond (hasK p.1 sl) (wzme sl l w) (p.1 :: wzme sl l w)
def setW:List (Nat×SH)->List Nat->List Nat
 |[],w=>w
 |(_,.k) :: l,w=>setW l w
 |(_,.owk _) :: l,w=>setW l w
 |(i,_) :: l,w=>i :: setW l w
def hasW(i:Nat):List (Nat×SH)->Bool
 |[]=>false
 |(j,.owk _) :: l=>kond (Nat.beq j i) true (hasW i l)
 |(j,_) :: l=>kond (Nat.beq j i) false (hasW i l)
def wzkb:List (Nat×OH)->List Nat->List Nat
 |[],w=>w
 |(_,.k) :: l,w=>wzkb l w
 |(i,_) :: l,w=>i :: wzkb l w
def obR(b:Nat):List (Nat×OH)->Bool
 |[]=>true
 |p :: l=>kond (inR b p.1) (obR b l) false
def arrT(T0 T:TSt)(H:OutH):Option (Row H.cts):=match svS T H.sl,svO T H.ob with
 |some a,some b=>kond (chS T0 T H.ob H.sl) (kond (chO T0 T H.ob H.ob) (kond (wzoq H.ob T.h) (kond (wzoq H.ob T0.h) (kond (ltK T0.n H.sl) (kond (Nat.beq T.rf T0.rf) (kond (obR T0.b H.ob) (wzmq H.cts (a++b)) none) none) none) none) none) none) none
 |_,_=>none
def rebT(T0:TSt)(H:OutH)(r:Row H.cts):TSt := ⟨rbS T0 H.sl (rowW H.cts r),rbO T0 H.ob ((rowW H.cts r).drop (nV H.sl)),T0.nx+1,T0.n,[],setW H.sl (wzme H.sl T0.t T0.w),wzkb H.ob T0.wo,T0.b,T0.rf⟩
def OutT:List OutH->Type
 |[]=>Unit
 |[H]=>Row H.cts
 |H :: l=>Row H.cts⊕OutT l
def isE:OE->Exit->Bool
 |.n,.normal=>true
 |.x i,.exit j=>Nat.beq i j
 |.r,.ret=>true
 |_,_=>false
def OE.ex:OE->Exit
 |.n=>.normal
 |.x i=>.exit i
 |.r=>.ret
def injT(T0:TSt):(l:List OutH)->Exit->TSt->Option (OutT l)
 |[],_,_=>none
 |[H],e,T=>kond (isE H.e e) (arrT T0 T H) none
 | H :: H' :: l,e,T=>kond (isE H.e e) (match arrT T0 T H with
  |some r=>some (.inl r)
  |none=>none) (match injT T0 (H' :: l) e T with
  |some r=>some (.inr r)
  | none=>none)
def aftT{α:Type}(T0:TSt)(K:Exit->TSt->Option α):(l:List OutH)->OutT l->Option α
 |[],_=>none
 |[H],r=>K H.e.ex (rebT T0 H r)
 |H :: H' :: l,r=>match r with
  |.inl r=>K H.e.ex (rebT T0 H r)
  |.inr r=>aftT T0 K (H' :: l) r
inductive HT where
 |n
 |s (a b:HT)
 |c (J:Option (List OutH)) (a b:HT)
 |b (J:Option (List OutH)) (h:HT)
 |l (fz:List Nat) (hd:OutH) (J:List OutH) (h:HT)
 |r (fz:List Nat) (hd:OutH) (J:List OutH) (a b:HT)
 |f (fz:List Nat)
def fzH(h:HT)(T:TSt):TSt:=match h with
 |.f fz=>frzA T fz
 |_=>T
def cl0(T:TSt):TSt:=⟨T.t,T.h,T.nx,T.n,[],[],[],T.b,T.rf⟩
def wzr0{α:Type}(J:Option (List OutH))(T:TSt)(inner:(β:Type)->TSt->(Exit->TSt->Option β)->Option β)(K:Exit->TSt->Option α):Option α:=match J with
 |none=>inner α T K
 |some l=>bd (inner (OutT l) (cl0 T) (injT T l)) (aftT T K l)
def refI(T:TSt):List ARes->List Nat
 |[]=>[]
 |.t _ :: l=>refI T l
 | .c n _ _ :: l=>(match wzin T.t n with
  |.v (.ptr id _ _)=>match wzip T.h id with
   |some (_,.ref (.own i _))=>[i]
   |some (_,.ref (.vec i _))=>[i]
   |some (_,.rag _ _ i _)=>[i]
   |_=>[]
  | _=>[])++refI T l
def frzR(rs:List ARes)(T:TSt):TSt:=frzA T (wzmh T false true (rs.map fun r=>match r with
 |.t n=>.t n
 | .c n _ _=>.t n)++refI T rs)
def sqOf[kzhw](H:List Fe)(T:TSt)(f:AArg):Option ((i:Nat)×SqV i):=match argP T none f with
 |some (.s (.sqp i z))=>some ⟨i,z⟩
 |some (.s (.fn f 0 caps))=>match wz7y f H with
  |some C=>some ⟨C.i,jzfd C C.i caps rfl⟩
  |none=>none
 |_=>none
def rnd(T:TSt):TSt:=⟨T.t,T.h,T.nx,T.n,[],[],[],T.b,T.rf+50⟩
def rnA(T:TSt):TSt:=⟨T.t,T.h,T.nx,T.n,T.gs,T.w,T.wo,T.b,T.rf+1⟩
def putP(T:TSt):List Tmp->List SV->TSt
 |p :: ps,v :: vs=>putP ⟨(p,.v (.s v)) :: T.t,T.h,T.nx,T.n,T.gs,p :: T.w,T.wo,T.b,T.rf⟩ ps vs
 |_,_=>T
def psOk(n:Nat):List Tmp->Bool
 |[]=>true
 |p :: ps=>kond (Nat.blt p n) (psOk n ps) false
def rstS(w:List Nat):List (Nat×TV)->List (Nat×TV)
 |[]=>[]
 |p :: l=>kond (memN p.1 w) (rstS w l) (p :: rstS w l)
def rstT(w:List Nat)(T:TSt):TSt:=⟨rstS T.w T.t,T.h,T.nx,T.n,T.gs,T.w++w,T.wo,T.b,T.rf⟩
def strT(T:TSt):TSt:=⟨T.t,T.h,T.nx,T.n,T.gs,[],T.wo,T.b,T.rf⟩
def rndW(T:TSt)(H:OutH):List Nat:=setW H.sl (wzme H.sl T.t [])
def wzjp[kzhw](H:List Fe)(ty:List (Nat×CT))(rs:List ARes):qzk->(α:Type)->HT->TSt->(Exit->TSt->Option α)->Option α
 |.skip,_,_,T,K=>K .normal T
 |.reg false ops _,_,h,T,K=>regT H ty ops (fzH h T) (K .normal)
 | .reg true ops pr,_,_,T,K=>(fun T=>match splY H T [] ops with
  |(_,[])=>wzqa H ty ops none T fun T' tr=>kond (wz35 ops pr tr) (K .normal (endT T')) none
  | (a,b)=>kond (wz72 pr a.length ops.length) (wzqa H ty a none T fun T' tr=>kond (wz35 a pr tr) (regT H ty b (endT T') (K .normal)) none) none) (frzA T (drwF T [] ops))
 |.seq a b,α,h,T,K=>wzjp H ty rs a α (match h with | .s x _=>x | _=>.n) T fun e T'=>match e with
  |.normal=>wzjp H ty rs b α (match h with | .s _ y=>y | _=>.n) T' K
  |e=>K e T'
 | .cond c a b,α,h,T,K=>wzr0 (match h with | .c J _ _=>J | _=>none) T (fun β T K=>match argP T none c with
  |some (.s (.bool x))=>match c with
   |.c _=>kond x (wzjp H ty rs a β (match h with | .c _ p _=>p | _=>.n) T K) (wzjp H ty rs b β (match h with | .c _ _ q=>q | _=>.n) T K)
   |_=>ite' x (wzjp H ty rs a β (match h with | .c _ p _=>p | _=>.n) T K) (wzjp H ty rs b β (match h with | .c _ _ q=>q | _=>.n) T K)
  | _=>none) K
 |.ret,_,_,T,K=>K .ret (frzR rs T)
 |.exit i,_,_,T,K=>K (.exit i) T
 |.scope c,α,h,T,K=>wzjp H ty rs c α h T fun e T'=>match e with
  |.goto _=>none
  |e=>K e T'
 |.label _,_,_,T,K=>K .normal T
 |.any,_,_,_,_=>none
 | .block i c,α,h,T,K=>wzr0 (match h with | .b J _=>J | _=>none) T (fun β T K=>wzjp H ty rs c β (match h with | .b _ p=>p | _=>.n) T fun e T'=>match e with
  |.exit j=>kond (Nat.beq j i) (K .normal T') (K (.exit j) T')
  | e=>K e T') K
 | .loop c,α,.l fz hd J h,T0,K=>(fun T=>match arrT T (cl0 T) hd with
  | some r0=>bd (lp (fun r=>wzjp H ty rs c (Row hd.cts⊕OutT J) h (rebT (cl0 T) hd r) fun e T'=>match e with
   |.normal=>match arrT T T' hd with
    |some r=>some (.inl r)
    |none=>none
   |e=>match injT T J e T' with
    |some r=>some (.inr r)
    | none=>none) r0) (aftT T K J)
  | none=>none) (frzA T0 fz)
 |.loop _,_,_,_,_=>none
 | .rfunc f ps a b,α,.r fz hd J ha hb,T0,K=>(fun T=>match sqOf H T f with
  |some z=>match arrT (rnd T) (rnd T) hd with
   | some r0=>kond (Nat.beq T.b 0) (kond (Nat.blt T.rf 50) (kond (Nat.beq ps.length (Tab.fa z.1).length) (kond (psOk T.n ps)
     (bd (z.2.g fun l=>wz4k (fun x r=>wzjp H ty rs a (Row hd.cts⊕OutT J) ha (putP (strT (rebT (rnd T) hd r)) ps (rowW (Tab.fa z.1) (cast (Tab.eA z.1).symm x))) fun e T'=>match e with
       |.normal=>wzjp H ty rs b (Row hd.cts⊕OutT J) hb T' fun e T'=>match e with
        |.normal=>match arrT (rnd T) (rstT (rndW T hd) T') hd with
         |some r=>some (.inl r)
         |none=>none
        |e=>match injT (rnd T) J e (rstT (rndW T hd) T') with
         |some r=>some (.inr r)
         |none=>none
       |_=>none) l r0) fun l=>bd (wz20 (fun x r=>wzjp H ty rs a (Row hd.cts⊕OutT J) ha (putP (strT (rebT (rnd T) hd r)) ps (rowW (Tab.fa z.1) (cast (Tab.eA z.1).symm x))) fun e T'=>match e with
       |.normal=>wzjp H ty rs b (Row hd.cts⊕OutT J) hb T' fun e T'=>match e with
        |.normal=>match arrT (rnd T) (rstT (rndW T hd) T') hd with
         |some r=>some (.inl r)
         |none=>none
        |e=>match injT (rnd T) J e (rstT (rndW T hd) T') with
         |some r=>some (.inr r)
         |none=>none
       | _=>none) l r0) fun o=>match o with
      |.inl r=>K .normal (rebT (rnA T) hd r)
      | .inr q=>aftT (rnA T) K J q) none) none) none) none
   |none=>none
  | none=>none) (frzA T0 fz)
 |.rfunc _ _ _ _,_,_,_,_=>none
def resS(T:TSt):List ARes->Option (List SV)
 |[]=>some []
 |.t n :: l=>match wzin T.t n,resS T l with
  |.v (.s v),some r=>some (v :: r)
  |_,_=>none
 |.c n agg sz :: l=>match wzin T.t n,resS T l with
  |.v (.ptr id st 0),some r=>match wzip T.h id with
   |some (st',.box cs)=>kond (Nat.beq st st') (kond (Nat.beq sz cs.length) (kond (kond agg true (Nat.beq sz 1)) (some (ldS agg sz cs 0 :: r)) none) none) none
   |_=>none
  |_,_=>none
def resT[kzhw](H:List Fe)(rs:List ARes)(cs:List CT)(e:Exit)(T:TSt):Option (Row cs):=match e with
 |.ret=>match resS T rs with
  |some l=>wz4d H cs [] l
  |none=>none
 |_=>none
def zipS:Nat->List SV->List (Nat×TV)
 |_,[]=>[]
 |i,x :: l=>(i,.v (.s x)) :: zipS (i+1) l
def iniT(n:Nat)(a:List CT)(p:List Bool)(x:Row a):TSt:=⟨zipS 0 (prmS a p x),[],0,n,[],[],[],0,0⟩
def funT[kzhw](H:List Fe)(ty:List (Nat×CT))(rs:List ARes)(n:Nat)(c:qzk)(h:HT)(C:Fc)(x:Row C.a):Option (Row C.r):=wzjp H ty rs c _ h (iniT n C.a C.p x) (resT H rs C.r)
def iniY(n:Nat)(a:List CT)(p:List Bool)(x:Row a)(i:Nat)(st:List (TabT.FA i)->Option Bool):TSt:=⟨(0,.v (.yl i st)) :: zipS 1 (prmS a p x),[(1899,0,.out i [] false)],1,n,[],[],[],1000,0⟩
def outT(i:Nat)(e:Exit)(T:TSt):Option (List (TabT.FA i)):=match e with
 |.ret=>outR T
 |.normal=>outR T
 |_=>none
where
 outR (T:TSt):Option (List (TabT.FA i)):=match wzip T.h 1899 with
  |some (_,.out j l _)=>wz91 j i l
  |_=>none
def itrT[kzhw](H:List Fe)(ty:List (Nat×CT))(n:Nat)(c:qzk)(h:HT)(C:Sc)(x:Row C.a)(st:List (TabT.FA C.i)->Option Bool):Option (List (TabT.FA C.i)):=wzjp H ty [] c _ h (iniY n C.a C.p x C.i st) (outT C.i)
def resQ[kzhw](S:Sk)(rs:List ARes)(e:Exit)(T:TSt):Option (Row S.a):=match e with
 |.ret=>match resS T rs with
  |some [.fn f 0 caps]=>kond (Nat.beq f S.f) (wzox S.a S.p caps) none
  |_=>none
 |_=>none
def funQ[kzhw](H:List Fe)(ty:List (Nat×CT))(rs:List ARes)(n:Nat)(c:qzk)(h:HT)(Q:Qc)(x:Row Q.a):Option (Row Q.S.a):=wzjp H ty rs c _ h (iniT n Q.a Q.p x) (resQ Q.S rs)
end
end Go.Am

