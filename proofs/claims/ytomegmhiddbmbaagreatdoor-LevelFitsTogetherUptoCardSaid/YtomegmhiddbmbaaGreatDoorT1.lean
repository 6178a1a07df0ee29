/- Part T1: a typed interpreter of abstract code, proved sound over the machine. No condition. -/
import Derived.Test.YtomegmhiddbmbaaGreatDoorX1
import Derived.KernelRfl
set_option linter.unusedSimpArgs false
set_option linter.unusedVariables false
namespace Go.Am
inductive CT where
 |int (k:IntKind) | bool | str
 |slc (c:CT)
 |us (i:Nat)
 |fn (i:Nat)
 |ptr (c:CT)
 |mp (k v:CT)
 |sq (i:Nat)
 |yl (i:Nat)
class TabT where
 T:Nat->Type
 E:Nat->Aa
 P:Program
 FA:Nat->Type
 FR:Nat->Type
 aA:(i:Nat)->FA i->List Aa
 aR:(i:Nat)->FR i->Aa
section
variable [TabT]
structure FnV(i:Nat) where
 f:FuncId
 nb:Nat
 caps:List Aa
 nr:∀x,x∈caps->AC x
 g:TabT.FA i->Option (TabT.FR i)
 ok:∀a r,g a=some r->FnOk TabT.E TabT.P f nb caps (TabT.aA i a) (TabT.aR i r)
structure SqV(i:Nat) where
 f:FuncId
 caps:List Aa
 nr:∀x,x∈caps->AC x
 g:(List (TabT.FA i)->Option Bool)->Option (List (TabT.FA i))
 ok:∀st l,g st=some l->SqOk TabT.E TabT.P f caps (TabT.aA i) st l
def CT.T:CT->Type
 |.int _=>Int
 |.bool=>Bool
 |.str=>List UInt8
 |.slc c=>List c.T
 |.us i=>TabT.T i
 |.fn i=>FnV i
 |.ptr c=>Option c.T
 |.mp k v=>List (k.T×v.T)
 |.sq i=>SqV i
 |.yl i=>List (TabT.FA i)
def RowC(t:Type):List CT->Type
 |[]=>t
 |d :: l=>t×RowC d.T l
def Row:List CT->Type
 |[]=>Unit
 |c :: l=>RowC c.T l
inductive SV where
 |int (k:IntKind) (n:Int) | bool (b:Bool) | str (s:List UInt8)
 |nil
 |slc (c:CT) (l:List c.T)
 |agg (l:List SV) | tup (l:List SV)
 |cptr (l:List SV) (off:Nat)
 |fn (f:FuncId) (nb:Nat) (caps:List SV)
 |fnp (i:Nat) (x:FnV i)
 |nilp
 |optr (c:CT) (x:Option c.T)
 |mpv (k v:CT) (l:List (k.T×v.T))
 |sqp (i:Nat) (x:SqV i)
 |ylv (i:Nat) (l:List (TabT.FA i))
 |top
def CT.cast:(c c':CT)->Option (PLift (c=c'))
 |.int k,.int k'=>if h:k=k' then some ⟨by rw[h]⟩ else none
 |.bool,.bool=>some ⟨rfl⟩
 |.str,.str=>some ⟨rfl⟩
 |.slc c,.slc c'=>match CT.cast c c' with
  |some ⟨h⟩=>some ⟨by rw[h]⟩
  |none=>none
 |.us i,.us j=>if h:i=j then some ⟨by rw[h]⟩ else none
 |.fn i,.fn j=>if h:i=j then some ⟨by rw[h]⟩ else none
 |.ptr c,.ptr c'=>match CT.cast c c' with
  |some ⟨h⟩=>some ⟨by rw[h]⟩
  |none=>none
 |.mp k v,.mp k' v'=>match CT.cast k k',CT.cast v v' with
  |some ⟨h⟩,some ⟨h'⟩=>some ⟨by rw[h,h']⟩
  |_,_=>none
 |.sq i,.sq j=>if h:i=j then some ⟨by rw[h]⟩ else none
 |.yl i,.yl j=>if h:i=j then some ⟨by rw[h]⟩ else none
 |_,_=>none
def Z5:(l l':List CT)->Option (PLift (l=l'))
 |[],[]=>some ⟨rfl⟩
 |c :: l,c' :: l'=>match CT.cast c c',Z5 l l' with
  |some ⟨h⟩,some ⟨k⟩=>some ⟨by rw[h,k]⟩
  |_,_=>none
 |_,_=>none
def BQ(c c':CT)(l:List c.T):Option (List c'.T):=match CT.cast c c' with
 |some ⟨h⟩=>some (h▸l)
 |none=>none
def ST(c c':CT)(x:Option c.T):Option (Option c'.T):=match CT.cast c c' with
 |some ⟨h⟩=>some (h▸x)
 |none=>none
def lfT:(c:CT)->c.T->SV
 |.int k,n=>.int k n
 |.bool,b=>.bool b
 |.str,s=>.str s
 |.slc c,l=>.slc c l
 |.us _,_=>.top
 |.fn i,x=>.fnp i x
 |.ptr c,x=>.optr c x
 |.mp k v,x=>.mpv k v x
 |.sq i,x=>.sqp i x
 |.yl i,x=>.ylv i x
def Js(c:CT):(l:List CT)->RowC c.T l->List SV
 |[],x=>[lfT c x]
 |d :: l,x=>lfT c x.1 :: Js d l x.2
def rowS:(l:List CT)->Row l->List SV
 |[],_=>[]
 |c :: l,x=>Js c l x
def ofI(k:IntKind):SV->Option Int
 |.int k' n=>if k=k' then some n else none
 |_=>none
def ofBT:SV->Option Bool
 |.bool b=>some b
 |_=>none
def Jt:SV->Option (List UInt8)
 |.str s=>some s
 |_=>none
def ofSl(c:CT):SV->Option (List c.T)
 |.slc c' l=>BQ c' c l
 |.nil=>some []
 |_=>none
def ofFn(i:Nat):SV->Option (FnV i)
 |.fnp j x=>if h:j=i then some (h▸x) else none
 |_=>none
def ofSq(i:Nat):SV->Option (SqV i)
 |.sqp j x=>if h:j=i then some (h▸x) else none
 |_=>none
def ofYl(i:Nat):SV->Option (List (TabT.FA i))
 |.ylv j x=>if h:j=i then some (h▸x) else none
 |_=>none
def ofPt(c:CT):SV->Option (Option c.T)
 |.optr c' x=>ST c' c x
 |.nilp=>some none
 |_=>none
def ML(k v k' v':CT)(x:List (k.T×v.T)):Option (List (k'.T×v'.T)):=match CT.cast k k',CT.cast v v' with
 |some ⟨h⟩,some ⟨h'⟩=>some (h▸h'▸x)
 |_,_=>none
def ofMp(k v:CT):SV->Option (List (k.T×v.T))
 |.mpv k' v' x=>ML k' v' k v x
 |_=>none
def ofLf:(c:CT)->SV->Option c.T
 |.int k=>ofI k
 |.bool=>ofBT
 |.str=>Jt
 |.slc c=>ofSl c
 |.us _=>fun _=>none
 |.fn i=>ofFn i
 |.ptr c=>ofPt c
 |.mp _ _=>fun _=>none
 |.sq i=>ofSq i
 |.yl _=>fun _=>none
def D8{t:Type}(f:SV->Option t):List SV->Option t
 |[v]=>f v
 |_=>none
def Ju{t u:Type}(f:SV->Option t)(g:List SV->Option u):List SV->Option (t×u)
 |[]=>none
 |v :: r=>match f v,g r with
  |some a,some b=>some (a,b)
  |_,_=>none
def Jv:List SV->Option Unit
 |[]=>some ()
 |_=>none
def Jw(c:CT):(l:List CT)->List SV->Option (RowC c.T l)
 |[]=>D8 (ofLf c)
 |d :: l=>Ju (ofLf c) (Jw d l)
def SU:(l:List CT)->List SV->Option (Row l)
 |[]=>Jv
 |c :: l=>Jw c l
end
class Tab extends TabT where
 ls:Nat->List CT
 mkS:(i:Nat)->Row (ls i)->T i
 unS:(i:Nat)->T i->Row (ls i)
 inh:(i:Nat)->Inhabited (T i)
 cA:(i:Nat)->T i->List Aa
 fa:Nat->List CT
 fr:Nat->List CT
 eA:(i:Nat)->Row (fa i)=FA i
 eR:(i:Nat)->Row (fr i)=FR i
 kk:Nat->Option (List Nat)
 ke:(i:Nat)->T i->T i->Bool
section
variable [Tab]
def CT.n:CT->Nat
 |.us i=>(Tab.ls i).length
 |_=>1
def ptA{U:Type}(n:Nat)(f:U->List Aa):Option U->Aa
 |none=>.nilp
 |some x=>.cptr (fun k=>(f x).getD k .top) n 0
def CT.cA:(c:CT)->c.T->List Aa
 |.int k=>cI k
 |.bool=>cB
 |.str=>cS
 |.slc c=>cL c.n c.cA
 |.us i=>Tab.cA i
 |.fn i=>fun x=>[.fn x.f x.nb x.caps]
 |.ptr c=>fun x=>[ptA c.n c.cA x]
 |.mp _ _=>fun _=>[.top]
 |.sq i=>fun x=>[.fn x.f 0 x.caps]
 |.yl _=>fun _=>[.top]
mutual
def A7:SV->Aa
 |.int k n=>.int k n
 |.bool b=>.bool b
 |.str s=>.str s
 |.nil=>.nils
 |.slc c l=>slcV c.n c.cA l
 |.agg l=>.agg (At l)
 |.tup l=>.tup (At l)
 |.cptr l off=>.cptr (fun k=>(At l).getD k .top) l.length off
 |.fn f nb l=>.fn f nb (At l)
 |.fnp i x=>.fn x.f x.nb x.caps
 |.nilp=>.nilp
 |.optr c x=>ptA c.n c.cA x
 |.mpv _ _ _=>.top
 |.sqp i x=>.fn x.f 0 x.caps
 |.ylv _ _=>.top
 |.top=>.top
def At:List SV->List Aa
 |[]=>[]
 |x :: l=>A7 x :: At l
end
def FnV.no(i:Nat):FnV i:=⟨0,0,[],(fun _ h=>by cases h),fun _=>none,fun _ _ h=>by cases h⟩
def SqV.no(i:Nat):SqV i:=⟨0,[],(fun _ h=>by cases h),fun _=>none,fun _ _ h=>by cases h⟩
instance CT.inh:(c:CT)->Inhabited c.T
 |.int _=>(inferInstance:Inhabited Int)
 |.bool=>(inferInstance:Inhabited Bool)
 |.str=>(inferInstance:Inhabited (List UInt8))
 |.slc c=>(inferInstance:Inhabited (List c.T))
 |.us i=>Tab.inh i
 |.fn i=>⟨FnV.no i⟩
 |.ptr c=>(inferInstance:Inhabited (Option c.T))
 |.mp k v=>(inferInstance:Inhabited (List (k.T×v.T)))
 |.sq i=>⟨SqV.no i⟩
 |.yl i=>(inferInstance:Inhabited (List (TabT.FA i)))
@[reducible] def Z6(c:CT):(l:List CT)->Inhabited (RowC c.T l)
 |[]=>c.inh
 |d :: l=>@instInhabitedProd _ _ c.inh (Z6 d l)
instance rowInh:(l:List CT)->Inhabited (Row l)
 |[]=>(inferInstance:Inhabited Unit)
 |c :: l=>Z6 c l
def wT:(c:CT)->c.T->SV
 |.int k,n=>.int k n
 |.bool,b=>.bool b
 |.str,s=>.str s
 |.slc c,l=>.slc c l
 |.us i,x=>.agg (rowS (Tab.ls i) (Tab.unS i x))
 |.fn i,x=>.fnp i x
 |.ptr c,x=>.optr c x
 |.mp k v,x=>.mpv k v x
 |.sq i,x=>.sqp i x
 |.yl i,x=>.ylv i x
def Jx(i:Nat)(l:List SV):Option (TabT.T i):=match SU (Tab.ls i) l with
 |some r=>some (Tab.mkS i r)
 |none=>none
def ofAg(i:Nat):SV->Option (TabT.T i)
 |.agg l=>Jx i l
 |_=>none
def Ew:(c:CT)->List SV->Option c.T
 |.us i=>Jx i
 |.int k=>D8 (ofI k)
 |.bool=>D8 ofBT
 |.str=>D8 Jt
 |.slc c=>D8 (ofSl c)
 |.fn i=>D8 (ofFn i)
 |.ptr c=>D8 (ofPt c)
 |.mp _ _=>fun _=>none
 |.sq i=>D8 (ofSq i)
 |.yl _=>fun _=>none
def ofPw(c:CT):SV->Option (Option c.T)
 |.cptr l 0=>match Ew c l with
  |some x=>some (some x)
  |none=>none
 |v=>ofPt c v
def ofW:(c:CT)->SV->Option c.T
 |.us i=>ofAg i
 |.int k=>ofI k
 |.bool=>ofBT
 |.str=>Jt
 |.slc c=>ofSl c
 |.fn i=>ofFn i
 |.ptr c=>ofPw c
 |.mp k v=>ofMp k v
 |.sq i=>ofSq i
 |.yl i=>ofYl i
def GB(c:CT):(l:List CT)->RowC c.T l->List SV
 |[],x=>[wT c x]
 |d :: l,x=>wT c x.1 :: GB d l x.2
def rowW:(l:List CT)->Row l->List SV
 |[],_=>[]
 |c :: l,x=>GB c l x
def Jy(c:CT):(l:List CT)->List SV->Option (RowC c.T l)
 |[]=>D8 (ofW c)
 |d :: l=>Ju (ofW c) (Jy d l)
def Jz:(l:List CT)->List SV->Option (Row l)
 |[]=>Jv
 |c :: l=>Jy c l
def Cv:(c:CT)->c.T->List SV
 |.us i,x=>rowS (Tab.ls i) (Tab.unS i x)
 |.int k,n=>[.int k n]
 |.bool,b=>[.bool b]
 |.str,s=>[.str s]
 |.slc c,l=>[.slc c l]
 |.fn i,x=>[.fnp i x]
 |.ptr c,x=>[.optr c x]
 |.mp k v,x=>[.mpv k v x]
 |.sq i,x=>[.sqp i x]
 |.yl i,x=>[.ylv i x]
def SV.cells:SV->Option (List SV)
 |.agg l=>some l
 |.tup _=>none
 |.top=>none
 |.mpv _ _ _=>none
 |.ylv _ _=>none
 |x=>some [x]
def retT:(l:List CT)->Row l->SV
 |[c],x=>wT c x
 |l,x=>.tup (rowW l x)
class TabOk:Prop where
 unmk:∀(i:Nat) (r:Row (Tab.ls i)),Tab.unS i (Tab.mkS i r)=r
 cells:∀(i:Nat) (x:TabT.T i),Tab.cA i x=At (rowS (Tab.ls i) (Tab.unS i x))
 nor:∀(i:Nat) (x:TabT.T i) (v:Aa),v∈Tab.cA i x->AC v
 pos:∀i,∀c∈Tab.ls i,∀j,c≠.us j
 aA:∀(i:Nat) (x:Row (Tab.fa i)),TabT.aA i (cast (Tab.eA i) x)=At (rowW (Tab.fa i) x)
 aR:∀(i:Nat) (x:Row (Tab.fr i)),TabT.aR i (cast (Tab.eR i) x)=A7 (retT (Tab.fr i) x)
 kq:∀(i:Nat) (x y:TabT.T i) (l:List Nat),Tab.kk i=some l->(Tab.cA i x).map Aa.kind=l/\BL (Tab.cA i x) (Tab.cA i y)=some (Tab.ke i x y)
end
universe u
def tall:Unit:=(fun _=>()) (lp (fun(n:Nat)=>some (.inr n:Sum Nat Nat)) 0)
def Ab{U:Sort u}(c:Bool)(x y:U):U:=match c,tall with
 |true,_=>x
 |false,_=>y
theorem GC{U:Sort u}(x y:U):Ab true x y=x:=rfl
theorem SW{U:Sort u}(x y:U):Ab false x y=y:=rfl
theorem Ao{a b:Nat}:Nat.beq a b=true↔a=b:=by simp
theorem BS{a b:Nat}:Nat.beq a b=false↔a≠b:=by rw[<-Bool.not_eq_true,Ao]
theorem Ws.getD:∀{l l':List Aa},Ws l l'->∀j,W (l.getD j .top) (l'.getD j .top)
 |[],[],_,j=>.refl _
 |x :: l,y :: l',h,0=>h.1
 |x :: l,y :: l',h,j+1=>Ws.getD (l:=l) (l':=l') h.2 j
 |[],_ :: _,h,_=>h.elim
 |_ :: _,[],h,_=>h.elim
theorem Ws.append{l l' m m':List Aa}(h:Ws l l')(k:Ws m m'):Ws (l++m) (l'++m'):=by
 match l,l',h with
 |[],[],_=>exact k
 |x :: l,y :: l',h=>exact⟨h.1,Ws.append h.2 k⟩
def lt3:List Nat->Bool
 |[]=>true
 |k :: l=>Ab (Nat.blt k 3) (lt3 l) false
theorem Z7:∀{l:List Nat},lt3 l=true->∀k∈l,k<3
 |[],_,k,h=>by cases h
 |j :: l,e,k,h=>by
  obtain⟨h1,h2⟩:Nat.blt j 3=true/\lt3 l=true:=by
   have e:Ab (Nat.blt j 3) (lt3 l) false=true:=e;cases hb:Nat.blt j 3 with
   |true=>rw[hb]at e;exact⟨rfl,e⟩
   |false=>rw[hb]at e;cases e
  rcases AM.1 h with rfl|h
  ·simpa [Hb] using h1
  ·exact Z7 h2 k h
theorem W.scalar{x y:Aa}(h:W x y)(k:y.kind<3):x=y:=by cases h<;>first|rfl|(simp[Aa.kind]at k)
theorem Ws.scalar:∀{l m:List Aa},Ws l m->(∀y∈m,y.kind<3)->l=m
 |[],[],_,_=>rfl
 |x :: l,y :: m,h,k=>by rw[h.1.scalar (k y (Be ..)),Ws.scalar (l:=l) (m:=m) h.2 fun z hz=>k z (Bi _ hz)]
 |[],_ :: _,h,_=>h.elim
 |_ :: _,[],h,_=>h.elim
theorem Z8{U:Type}{n:Nat}{f:U->List Aa}{x:Option U}:(ptA n f x).one=true:=by cases x<;>rfl
theorem Z9{U:Type}{n:Nat}{f:U->List Aa}{x:Option U}(h:∀y v,v∈f y->AC v):AC (ptA n f x):=by
 cases x with
 |none=>exact .nilp
 |some y =>
  refine .cptr _ _ _ fun j _=>?_;simp only[Nu];cases e:(f y)[j]? with
  |none=>exact .top
  |some v=>exact h y v (BH e)
theorem jzem{A B:Type}(e:A=B)(h:Option A=Option B)(x:Option A):cast h x=x.map (cast e):=by subst e;cases x<;>rfl
section
variable [Tab]
structure Fc where
 f:FuncId
 a:List CT
 p:List Bool
 r:List CT
 F:Row a->Option (Row r)
def ofP(c:CT):Bool->SV->Option c.T
 |false,v=>ofW c v
 |true,.cptr l 0=>Ew c l
 |_,_=>none
def Ph(c:CT):(l:List CT)->List Bool->List SV->Option (RowC c.T l)
 |[],p=>D8 (ofP c (p.headD false))
 |d :: l,p=>Ju (ofP c (p.headD false)) (Ph d l p.tail)
def MM:(l:List CT)->List Bool->List SV->Option (Row l)
 |[],_=>Jv
 |c :: l,p=>Ph c l p
def prmC(c:CT):Bool->c.T->SV
 |false,x=>wT c x
 |true,x=>.cptr (Cv c x) 0
def HK(c:CT):(l:List CT)->List Bool->RowC c.T l->List SV
 |[],p,x=>[prmC c (p.headD false) x]
 |d :: l,p,x=>prmC c (p.headD false) x.1 :: HK d l p.tail x.2
def prmS:(l:List CT)->List Bool->Row l->List SV
 |[],_,_=>[]
 |c :: l,p,x=>HK c l p x
theorem HL:∀(l:List SV),At l=l.map A7
 |[]=>rfl
 |x :: l=>by show A7 x :: At l=_;rw[HL l];rfl
theorem AT(l:List SV):(At l).length=l.length:=by simp[HL]
theorem Pi(l m:List SV):At (l++m)=At l++At m:=by simp[HL]
theorem Pj(n:Nat)(l:List SV):At (l.take n)=(At l).take n:=by simp[HL]
theorem Pl(n:Nat)(l:List SV):At (l.drop n)=(At l).drop n:=by simp[HL]
theorem SX(l:List SV)(i:Nat):A7 (l.getD i .top)=(At l).getD i .top:=by simp only[HL,Nu,Gf];cases l[i]?<;>rfl
theorem ZA(l:List SV)(i:Nat)(x:SV):At (l.set i x)=(At l).set i (A7 x):=by simp[HL,List.map_set]
theorem SY(v:SV):unv (A7 v)=A7 v:=by
 cases v with
 |optr c x=>cases x<;>rfl
 |_=>rfl
theorem SZ(v:SV)(c:Bool):unc c (A7 v):=by
 cases v with
 |optr d x=>cases x<;>exact trivial
 |_=>exact trivial
theorem HM{v:SV}{l:List SV}(h:v.cells=some l):Cz (A7 v)=some (At l):=by
 cases v with
 |optr c x=>simp only[SV.cells]at h;cases h;cases x<;>rfl
 |_=>simp only[SV.cells]at h<;>cases h<;>rfl
theorem ER{c c':CT}{l:List c.T}{m:List c'.T}(h:BQ c c' l=some m):slcV c.n c.cA l=slcV c'.n c'.cA m/\l.length=m.length/\Az c.cA l=Az c'.cA m/\c=c':=by
 unfold BQ at h;split at h
 ·rename_i e _;subst e;cases h;exact⟨rfl,rfl,rfl,rfl⟩
 ·cases h
theorem ZB(c:CT):∀(l:List CT) (r:RowC c.T l),(Js c l r).length=l.length+1
 |[],r=>rfl
 |d :: l,r=>by show _+1=_;rw[ZB d l r.2];rfl
theorem wzth:∀(l:List CT) (r:Row l),(rowS l r).length=l.length
 |[],r=>rfl
 |c :: l,r=>ZB c l r
theorem Pm:∀(c:CT) (x:c.T),(Cv c x).length=c.n
 |.int k,x=>rfl
 |.bool,x=>rfl
 |.str,x=>rfl
 |.slc c,x=>rfl
 |.us i,x=>wzth _ _
 |.fn i,x=>rfl
 |.ptr c,x=>rfl
 |.mp _ _,x=>rfl
 |.sq _,x=>rfl
 |.yl _,x=>rfl
theorem ZC(c:CT):∀(l:List CT) (r:RowC c.T l),(GB c l r).length=l.length+1
 |[],r=>rfl
 |d :: l,r=>by show _+1=_;rw[ZC d l r.2];rfl
theorem jzez:∀(l:List CT) (r:Row l),(rowW l r).length=l.length
 |[],r=>rfl
 |c :: l,r=>ZC c l r
theorem J1{k:IntKind}{v:SV}{x:Int}(h:ofI k v=some x):v=.int k x:=by
 unfold ofI at h;split at h
 ·split at h;·rename_i e;subst e;cases h;rfl
  ·cases h
 ·cases h
theorem J2{v:SV}{x:Bool}(h:ofBT v=some x):v=.bool x:=by unfold ofBT at h;split at h<;>cases h;rfl
theorem J3{v:SV}{x:List UInt8}(h:Jt v=some x):v=.str x:=by unfold Jt at h;split at h<;>cases h;rfl
theorem Pn{c:CT}{v:SV}{x:List c.T}(h:ofSl c v=some x):W (A7 v) (slcV c.n c.cA x)/\(A7 v).one=true:=by
 unfold ofSl at h;split at h
 ·have:=ER h;refine⟨?_,rfl⟩;rw[<-this.1];exact .refl _
 ·cases h;exact⟨.nil _ _,rfl⟩
 ·cases h
theorem MN{i:Nat}{v:SV}{x:FnV i}(h:ofFn i v=some x):v=.fnp i x:=by
 unfold ofFn at h;split at h
 ·split at h;·rename_i e;subst e;cases h;rfl
  ·cases h
 ·cases h
theorem J4{i:Nat}{v:SV}{x:SqV i}(h:ofSq i v=some x):v=.sqp i x:=by
 unfold ofSq at h;split at h
 ·split at h;·rename_i e;subst e;cases h;rfl
  ·cases h
 ·cases h
theorem Ta{i:Nat}{v:SV}{x:List (TabT.FA i)}(h:ofYl i v=some x):v=.ylv i x:=by
 unfold ofYl at h;split at h
 ·split at h;·rename_i e;subst e;cases h;rfl
  ·cases h
 ·cases h
theorem jzel{c c':CT}{x:Option c.T}{y:Option c'.T}(h:ST c c' x=some y):ptA c.n c.cA x=ptA c'.n c'.cA y:=by
 unfold ST at h;split at h
 ·rename_i e _;subst e;cases h;rfl
 ·cases h
theorem MO{c:CT}{v:SV}{x:Option c.T}(h:ofPt c v=some x):A7 v=ptA c.n c.cA x/\(A7 v).one=true:=by
 unfold ofPt at h;split at h
 ·exact⟨jzel h,Z8⟩
 ·cases h;exact⟨rfl,rfl⟩
 ·cases h
theorem Tb:∀{c:CT} {v:SV} {x:c.T},ofLf c v=some x->W (A7 v) (A7 (lfT c x))/\(A7 v).one=true
 |.int k,v,x,h=>by rw[J1 h];exact⟨.refl _,rfl⟩
 |.bool,v,x,h=>by rw[J2 h];exact⟨.refl _,rfl⟩
 |.str,v,x,h=>by rw[J3 h];exact⟨.refl _,rfl⟩
 |.slc c,v,x,h=>Pn h
 |.us i,v,x,h=>by cases h
 |.fn i,v,x,h=>by rw[MN h];exact⟨.refl _,rfl⟩
 |.ptr c,v,x,h=>by obtain⟨h1,h2⟩:=MO h;exact⟨by rw[h1];exact .refl _,h2⟩
 |.mp _ _,v,x,h=>by cases h
 |.sq i,v,x,h=>by rw[J4 h];exact⟨.refl _,rfl⟩
 |.yl _,v,x,h=>by cases h
theorem D9{t:Type}{f:SV->Option t}{v:List SV}{x:t}(h:D8 f v=some x):∃u,v=[u]/\f u=some x:=by
 unfold D8 at h;split at h
 ·exact⟨_,rfl,h⟩
 ·cases h
theorem J5{t u:Type}{f:SV->Option t}{g:List SV->Option u}{v:List SV}{x:t×u}(h:Ju f g v=some x):∃y r,v=y :: r/\f y=some x.1/\g r=some x.2:=by
 unfold Ju at h;split at h
 ·cases h
 ·rename_i y r;split at h
  ·rename_i a b h1 h2;cases h;exact⟨y,r,rfl,h1,h2⟩
  ·cases h
theorem J6{v:List SV}{x:Unit}(h:Jv v=some x):v=[]:=by
 unfold Jv at h;split at h
 ·rfl
 ·cases h
theorem ZD:∀(c:CT) (l:List CT) (v:List SV) (r:RowC c.T l),Jw c l v=some r->Ws (At v) (At (Js c l r))/\Bl (At v)=true
 |c,[],v,r,h=>by obtain⟨u,rfl,h⟩:=D9 (f:=ofLf c) h;obtain⟨h1,h2⟩:=Tb h;exact⟨⟨h1,trivial⟩,by show(_&&true)=true;rw[h2];rfl⟩
 |c,d :: l,v,r,h=>by obtain⟨y,q,rfl,h1,h2⟩:=J5 (f:=ofLf c) (g:=Jw d l) h;obtain⟨p1,p2⟩:=Tb h1;obtain⟨q1,q2⟩:=ZD d l q r.2 h2;exact⟨⟨p1,q1⟩,by show(_&&_)=true;rw[p2,q2];rfl⟩
theorem wztv{l:List CT}{v:List SV}{r:Row l}(h:SU l v=some r):Ws (At v) (At (rowS l r))/\Bl (At v)=true:=by
 cases l with
 |nil=>rw[J6 h];exact⟨trivial,rfl⟩
 |cons c l=>exact ZD c l v r h
theorem Tc{i:Nat}{v:SV}{x:TabT.T i}(h:ofAg i v=some x):∃l,v=.agg l/\Jx i l=some x:=by
 unfold ofAg at h;split at h
 ·exact⟨_,rfl,h⟩
 ·cases h
def ex1:SV->Bool
 |.int _ _ | .bool _ | .str _ | .slc _ _ | .optr _ _ | .fnp _ _ | .sqp _ _=>true
 |_=>false
def exL:List SV->Bool
 |[]=>true
 |v :: l=>Ab (ex1 v) (exL l) false
def exV:SV->Bool
 |.agg l=>exL l
 |v=>ex1 v
theorem ZE{v:SV}{l:List SV}(h:exL (v :: l)=true):ex1 v=true/\exL l=true:=by
 have h:Ab (ex1 v) (exL l) false=true:=h;cases hb:ex1 v with
 |true=>rw[hb]at h;exact⟨rfl,h⟩
 |false=>rw[hb]at h;cases h
theorem ZF:∀{c:CT} {v:SV} {x:c.T},ofLf c v=some x->ex1 v=true->A7 v=A7 (lfT c x)
 |.int k,v,x,h,_=>by rw[J1 h];rfl
 |.bool,v,x,h,_=>by rw[J2 h];rfl
 |.str,v,x,h,_=>by rw[J3 h];rfl
 |.slc c,v,x,h,e=>by
  have h:ofSl c v=some x:=h;unfold ofSl at h;split at h
  ·exact(ER h).1
  ·cases e
  ·cases h
 |.us i,v,x,h,_=>by cases h
 |.fn i,v,x,h,_=>by rw[MN h];rfl
 |.ptr c,v,x,h,_=>(MO h).1
 |.mp _ _,v,x,h,_=>by cases h
 |.sq i,v,x,h,_=>by rw[J4 h];rfl
 |.yl _,v,x,h,_=>by cases h
theorem ZG:∀(c:CT) (l:List CT) (v:List SV) (r:RowC c.T l),Jw c l v=some r->exL v=true->At v=At (Js c l r)
 |c,[],v,r,h,e=>by obtain⟨u,rfl,h⟩:=D9 (f:=ofLf c) h;show [A7 u]=[A7 (lfT c r)];rw[ZF h (ZE e).1]
 |c,d :: l,v,r,h,e=>by obtain⟨y,q,rfl,h1,h2⟩:=J5 (f:=ofLf c) (g:=Jw d l) h;obtain⟨e1,e2⟩:=ZE e;show A7 y :: At q=A7 (lfT c r.1) :: At (Js d l r.2);rw[ZF h1 e1,ZG d l q r.2 h2 e2]
theorem jzew{l:List CT}{v:List SV}{r:Row l}(h:SU l v=some r)(e:exL v=true):At v=At (rowS l r):=by
 cases l with
 |nil=>rw[J6 h];rfl
 |cons c l=>exact ZG c l v r h e
variable [TabOk]
theorem ES:∀(c:CT) (x:c.T),At (Cv c x)=c.cA x
 |.int k,x=>rfl
 |.bool,x=>rfl
 |.str,x=>rfl
 |.slc c,x=>rfl
 |.us i,x=>(TabOk.cells i x).symm
 |.fn i,x=>rfl
 |.ptr c,x=>rfl
 |.mp _ _,x=>rfl
 |.sq _,x=>rfl
 |.yl _,x=>rfl
theorem J7(c:CT)(x:c.T):(c.cA x).length=c.n:=by rw[<-ES,AT,Pm]
theorem Td{i:Nat}{v:List SV}{x:TabT.T i}(h:Jx i v=some x):Ws (At v) (Tab.cA i x)/\Bl (At v)=true:=by
 unfold Jx at h;split at h
 ·rename_i r hr;cases h;have:=wztv hr;rw[TabOk.cells,TabOk.unmk];exact this
 ·cases h
theorem FN:∀{c:CT} {v:List SV} {x:c.T},Ew c v=some x->Ws (At v) (c.cA x)/\Bl (At v)=true
 |.us i,v,x,h=>Td h
 |.int k,v,x,h=>by obtain⟨u,rfl,h⟩:=D9 h;rw[J1 h];exact⟨⟨.refl _,trivial⟩,rfl⟩
 |.bool,v,x,h=>by obtain⟨u,rfl,h⟩:=D9 h;rw[J2 h];exact⟨⟨.refl _,trivial⟩,rfl⟩
 |.str,v,x,h=>by obtain⟨u,rfl,h⟩:=D9 h;rw[J3 h];exact⟨⟨.refl _,trivial⟩,rfl⟩
 |.slc c,v,x,h=>by obtain⟨u,rfl,h⟩:=D9 h;have:=Pn h;exact⟨⟨this.1,trivial⟩,by show(_&&true)=true;rw[this.2];rfl⟩
 |.fn i,v,x,h=>by obtain⟨u,rfl,h⟩:=D9 h;rw[MN h];exact⟨⟨.refl _,trivial⟩,rfl⟩
 |.ptr c,v,x,h=>by obtain⟨u,rfl,h⟩:=D9 h;obtain⟨h1,h2⟩:=MO h;exact⟨⟨by rw[h1];exact .refl _,trivial⟩,by show(_&&true)=true;rw[h2];rfl⟩
 |.mp _ _,v,x,h=>by cases h
 |.sq i,v,x,h=>by obtain⟨u,rfl,h⟩:=D9 h;rw[J4 h];exact⟨⟨.refl _,trivial⟩,rfl⟩
 |.yl _,v,x,h=>by cases h
theorem Po(i:Nat)(x:TabT.T i):A7 (wT (.us i) x)=.agg (Tab.cA i x):=by rw[TabOk.cells];rfl
theorem jzf4{c:CT}{l:List SV}{x:c.T}(h:Ew c l=some x):W (A7 (.cptr l 0)) (ptA c.n c.cA (some x)):=by
 obtain⟨h1,_⟩:=FN h;show W (.cptr (fun k=>(At l).getD k .top) l.length 0) (.cptr (fun k=>(c.cA x).getD k .top) c.n 0);have e:l.length=c.n:=by rw[<-J7 c x,<-h1.at.1,AT]
 rw[e];exact .cptr _ _ _ _ fun j _=>h1.getD j
theorem Dr:∀{c:CT} {v:SV} {x:c.T},ofW c v=some x->W (A7 v) (A7 (wT c x))
 |.us i,v,x,h=>by obtain⟨l,rfl,h⟩:=Tc h;have e:A7 (wT (.us i) x)=.agg (Tab.cA i x):=Po i x;exact e▸Gu.2 (Td h).1
 |.int k,v,x,h=>by rw[J1 h];exact .refl _
 |.bool,v,x,h=>by rw[J2 h];exact .refl _
 |.str,v,x,h=>by rw[J3 h];exact .refl _
 |.slc c,v,x,h=>(Pn h).1
 |.fn i,v,x,h=>by rw[MN h];exact .refl _
 |.ptr c,v,x,h=>by
  have h:ofPw c v=some x:=h;unfold ofPw at h;split at h
  ·split at h;·rename_i y hy;cases h;exact jzf4 hy
   ·cases h
  ·rw[(MO h).1];exact .refl _
 |.mp k v,u,x,h=>by
  have h:ofMp k v u=some x:=h;unfold ofMp at h;split at h
  ·exact .refl _
  ·cases h
 |.sq i,v,x,h=>by rw[J4 h];exact .refl _
 |.yl i,v,x,h=>by rw[Ta h];exact .refl _
theorem Te:∀{c:CT} {v:SV} {x:c.T},ofW c v=some x->exV v=true->A7 v=A7 (wT c x)
 |.int k,v,x,h,_=>by rw[J1 h];rfl
 |.bool,v,x,h,_=>by rw[J2 h];rfl
 |.str,v,x,h,_=>by rw[J3 h];rfl
 |.slc c,v,x,h,e=>by
  have h:ofSl c v=some x:=h;unfold ofSl at h;split at h
  ·exact(ER h).1
  ·cases e
  ·cases h
 |.us i,v,x,h,e=>by
  obtain⟨l,rfl,k⟩:=Tc h;unfold Jx at k;split at k
  ·rename_i r hr;cases k;have e2:A7 (wT (.us i) (Tab.mkS i r))=.agg (At (rowS (Tab.ls i) (Tab.unS i (Tab.mkS i r)))):=rfl;rw[e2,TabOk.unmk];show Aa.agg (At l)=_;rw[jzew hr e]
  ·cases k
 |.fn i,v,x,h,_=>by rw[MN h];rfl
 |.ptr c,v,x,h,e=>by
  have h:ofPw c v=some x:=h;unfold ofPw at h;split at h
  ·cases e
  ·exact(MO h).1
 |.mp _ _,v,x,h,e=>by
  have h:ofMp _ _ v=some x:=h;unfold ofMp at h;split at h
  ·rfl
  ·cases h
 |.sq i,v,x,h,_=>by rw[J4 h];rfl
 |.yl i,v,x,h,_=>by rw[Ta h];rfl
theorem ZH:∀(c:CT) (l:List CT) (v:List SV) (r:RowC c.T l),Jy c l v=some r->Ws (At v) (At (GB c l r))
 |c,[],v,r,h=>by obtain⟨u,rfl,h⟩:=D9 (f:=ofW c) h;exact⟨Dr h,trivial⟩
 |c,d :: l,v,r,h=>by obtain⟨y,q,rfl,h1,h2⟩:=J5 (f:=ofW c) (g:=Jy d l) h;exact⟨Dr h1,ZH d l q r.2 h2⟩
theorem Tf{l:List CT}{v:List SV}{r:Row l}(h:Jz l v=some r):Ws (At v) (At (rowW l r)):=by
 cases l with
 |nil=>rw[J6 h];exact trivial
 |cons c l=>exact ZH c l v r h
theorem Pp:∀(c:CT) (x:c.T) (v:Aa),v∈c.cA x->AC v
 |.int k,x,v,h=>NW v h
 |.bool,x,v,h=>IQ v h
 |.str,x,v,h=>IR v h
 |.slc c,x,v,h=>wzts (Pp c) v h
 |.us i,x,v,h=>TabOk.nor i x v h
 |.fn i,x,v,h=>by
  cases h with
  |head=>exact .fn _ _ _ x.nr
  |tail _ h=>cases h
 |.ptr c,x,v,h=>by
  cases h with
  |head=>exact Z9 (Pp c)
  |tail _ h=>cases h
 |.mp _ _,x,v,h=>by
  cases h with
  |head=>exact .top
  |tail _ h=>cases h
 |.sq i,x,v,h=>by
  cases h with
  |head=>exact .fn _ _ _ x.nr
  |tail _ h=>cases h
 |.yl _,x,v,h=>by
  cases h with
  |head=>exact .top
  |tail _ h=>cases h
end
section
variable [Tab]
mutual
theorem ZI[TabOk]:∀(v:SV),AC (A7 v)
 |.int _ _=>.int _ _
 |.bool _=>.bool _
 |.str _=>.str _
 |.nil=>.nils
 |.slc c l=>Gc (Pp c)
 |.agg l=>.agg _ (ET l)
 |.tup l=>.tup _ (ET l)
 |.cptr l off=>.cptr _ _ _ fun j hj=>by
   simp only[Nu];cases e:(At l)[j]? with
   |none=>exact .top
   |some x=>exact ET l x (BH e)
 |.fn f nb l=>.fn _ _ _ (ET l)
 |.fnp i x=>.fn _ _ _ x.nr
 |.nilp=>.nilp
 |.optr c x=>Z9 (Pp c)
 |.mpv _ _ _=>.top
 |.sqp i x=>.fn _ _ _ x.nr
 |.ylv _ _=>.top
 |.top=>.top
theorem ET[TabOk]:∀(l:List SV) (x:Aa),x∈At l->AC x
 |[],x,h=>by cases h
 |v :: l,x,h=>by
  cases h with
  |head=>exact ZI v
  |tail _ h=>exact ET l x h
end
end
section
variable [Tab]
theorem Tg[TabOk]{c:CT}{b:Bool}{v:SV}{x:c.T}(h:ofP c b v=some x):W (A7 v) (A7 (prmC c b x)):=by
 unfold ofP at h;split at h
 ·exact Dr h
 ·rename_i l;obtain⟨h1,_⟩:=FN h;show W (.cptr (fun k=>(At l).getD k .top) l.length 0) (.cptr (fun k=>(At (Cv c x)).getD k .top) (Cv c x).length 0);have e:l.length=(Cv c x).length:=by rw[Pm,<-J7 c x,<-h1.at.1,AT]
  rw[e,ES];exact .cptr _ _ _ _ fun j _=>h1.getD j
 ·cases h
theorem ZJ[TabOk]:∀(c:CT) (l:List CT) (p:List Bool) (v:List SV) (r:RowC c.T l),Ph c l p v=some r->Ws (At v) (At (HK c l p r))
 |c,[],p,v,r,h=>by obtain⟨u,rfl,h⟩:=D9 (f:=ofP c (p.headD false)) h;exact⟨Tg h,trivial⟩
 |c,d :: l,p,v,r,h=>by obtain⟨y,q,rfl,h1,h2⟩:=J5 (f:=ofP c (p.headD false)) (g:=Ph d l p.tail) h;exact⟨Tg h1,ZJ d l p.tail q r.2 h2⟩
theorem Th[TabOk]{l:List CT}{p:List Bool}{v:List SV}{r:Row l}(h:MM l p v=some r):Ws (At v) (At (prmS l p r)):=by
 cases l with
 |nil=>rw[J6 h];exact trivial
 |cons c l=>exact ZJ c l p v r h
theorem ZK(nb:Nat)(ags caps:List SV):At (fnArgs nb ags caps)=fnArgs nb (At ags) (At caps):=by unfold fnArgs;rw[Pi,Pi,Pj,Pl]
structure Av(C:Fc):Prop where
 en:Ci TabT.P C.f=true
 ok:∀x y,C.F x=some y->AY TabT.E TabT.P C.f (At (prmS C.a C.p x)) (A7 (retT C.r y))
structure Fk extends Fc where
 ok:Av toFc
structure Sc where
 f:FuncId
 a:List CT
 p:List Bool
 i:Nat
 G:Row a->(List (TabT.FA i)->Option Bool)->Option (List (TabT.FA i))
structure ScOk(C:Sc):Prop where
 ok:∀x st l,C.G x st=some l->SqOk TabT.E TabT.P C.f (At (prmS C.a C.p x)) (TabT.aA C.i) st l
structure Sk extends Sc where
 ok:ScOk toSc
structure Qc where
 f:FuncId
 a:List CT
 p:List Bool
 S:Sk
 F:Row a->Option (Row S.a)
structure QcOk(Q:Qc):Prop where
 en:Ci TabT.P Q.f=true
 ok:∀x y,Q.F x=some y->AY TabT.E TabT.P Q.f (At (prmS Q.a Q.p x)) (.fn Q.S.f 0 (At (prmS Q.S.a Q.S.p y)))
structure Qk extends Qc where
 ok:QcOk toQc
def keyC(id ep:Nat):Aa:=.cptr (fun j=>[Aa.mp id ep].getD j .top) 1 0
def mEs(k v:CT)(l:List (k.T×v.T)):List (Aa×Aa):=l.map fun p=>(A7 (wT k p.1),A7 (wT v p.2))
structure Mk where
 f:FuncId
 g:FuncId
 en:Ci TabT.P f=true
 ok:∀id ep,AY TabT.E TabT.P f [.mp id ep] (.fn g 0 [keyC id ep])
structure Oc where
 f:FuncId
 g:FuncId
 k:CT
 v:CT
 a:List CT
 p:List Bool
 r:List CT
 F:List (k.T×v.T)->Row a->Option (Row r)
structure OcOk(C:Oc):Prop where
 en:Ci TabT.P C.f=true
 ok:∀(l:List (C.k.T×C.v.T)) x y (h:Ax) id ep,C.F l x=some y->h id=.amap ep (mEs C.k C.v l)->C9 TabT.E TabT.P C.f (.fn C.g 0 [keyC id ep] :: At (prmS C.a C.p x)) h [id] (A7 (retT C.r y))
structure Ok1 extends Oc where
 ok:OcOk toOc
structure Wc where
 f:FuncId
 c:CT
 a:List CT
 p:List Bool
 F:List c.T->Row a->Option (List c.T)
structure WcOk(C:Wc):Prop where
 en:Ci TabT.P C.f=true
 ok:∀(l:List C.c.T) x r (h:Ax) id ep,C.F l x=some r->h id=ownO ep C.c.n C.c.cA l->ATr TabT.E TabT.P C.f (ownV id ep l :: At (prmS C.a C.p x)) h fun v h'=>v=.tup []/\h'=hset h id (ownO ep C.c.n C.c.cA r)/\r.length=l.length
structure Wk extends Wc where
 ok:WcOk toWc
def ZL(c:CT)(l:List c.T)(X:Aa)(h:Ax)(s:Nat):Prop :=
 X=slcV c.n c.cA l\/∃id ep lo m,id≠s/\X=.vec id ep lo l.length/\h id=.vec ep c.n (List.length m) (Az c.cA m)/\lo+l.length<=m.length/\∀k,k<l.length->Az c.cA m (lo+k)=Az c.cA l k
structure Cc where
 f:FuncId
 c:CT
 a:List CT
 p:List Bool
 F:List c.T->Row a->Option (List c.T)
structure CcOk(C:Cc):Prop where
 en:Ci TabT.P C.f=true
 ok:∀(l:List C.c.T) x r (X:Aa) (h:Ax) s,C.F l x=some r->(h s).plain->ZL C.c l X h s->ATr TabT.E TabT.P C.f (X :: At (prmS C.a C.p x)) h fun v h'=>∃ep,v=.vec s ep 0 r.length/\0<r.length/\h'=hset h s (.vec ep C.c.n r.length (Az C.c.cA r))
structure Ck extends Cc where
 ok:CcOk toCc
structure Dc where
 f:FuncId
 c:CT
 a:List CT
 p:List Bool
 F:Row a->Option (List c.T)
structure DcOk(C:Dc):Prop where
 en:Ci TabT.P C.f=true
 ok:∀x r (h:Ax) s,C.F x=some r->(h s).plain->ATr TabT.E TabT.P C.f (At (prmS C.a C.p x)) h fun v h'=>∃ep,v=ownV s ep r/\h'=hset h s (ownO ep C.c.n C.c.cA r)
structure Dk extends Dc where
 ok:DcOk toDc
structure Zc where
 f:FuncId
 c:CT
 a:List CT
 p:List Bool
 F:List c.T->Row a->Option (List c.T)
structure ZcOk(C:Zc):Prop where
 en:Ci TabT.P C.f=true
 ok:∀(l:List C.c.T) x r (h:Ax) id ep,C.F l x=some r->h id=ownO ep C.c.n C.c.cA l->ATr TabT.E TabT.P C.f (ownV id ep l :: At (prmS C.a C.p x)) h fun v h'=>v=slcV C.c.n C.c.cA r/\∃e,h'=hset h id (.gone e)
structure Zk extends Zc where
 ok:ZcOk toZc
inductive Fe where
 |k (C:Fk) | s (D:Sk) | q (Q:Qk) | m (M:Mk) | o (O:Ok1) | w (C:Wk) | c (C:Ck) | d (C:Dk) | z (C:Zk)
def GD(f:FuncId):List Fe->Option Fk
 |[]=>none
 |.k C :: l=>Ab (Nat.beq C.f f) (some C) (GD f l)
 |_ :: l=>GD f l
def J8(f:FuncId):List Fe->Option Sk
 |[]=>none
 |.s C :: l=>Ab (Nat.beq C.f f) (some C) (J8 f l)
 |_ :: l=>J8 f l
def MP(f:FuncId):List Fe->Option Qk
 |[]=>none
 |.q C :: l=>Ab (Nat.beq C.f f) (some C) (MP f l)
 |_ :: l=>MP f l
def J9(f:FuncId):List Fe->Option Mk
 |[]=>none
 |.m C :: l=>Ab (Nat.beq C.f f) (some C) (J9 f l)
 |_ :: l=>J9 f l
def JA(f:FuncId):List Fe->Option Ok1
 |[]=>none
 |.o C :: l=>Ab (Nat.beq C.f f) (some C) (JA f l)
 |_ :: l=>JA f l
def JB(f:FuncId):List Fe->Option Wk
 |[]=>none
 |.w C :: l=>Ab (Nat.beq C.f f) (some C) (JB f l)
 |_ :: l=>JB f l
def HN(f:FuncId):List Fe->Option Ck
 |[]=>none
 |.c C :: l=>Ab (Nat.beq C.f f) (some C) (HN f l)
 |_ :: l=>HN f l
def GE(f:FuncId):List Fe->Option Dk
 |[]=>none
 |.d C :: l=>Ab (Nat.beq C.f f) (some C) (GE f l)
 |_ :: l=>GE f l
def HP(f:FuncId):List Fe->Option Zk
 |[]=>none
 |.z C :: l=>Ab (Nat.beq C.f f) (some C) (HP f l)
 |_ :: l=>HP f l
theorem DA:∀{H:List Fe} {f:FuncId} {C:Fk},GD f H=some C->C.f=f
 |[],f,C,h=>by cases h
 |.s _ :: H,f,C,h=>DA (H:=H) h
 |.q _ :: H,f,C,h=>DA (H:=H) h
 |.m _ :: H,f,C,h=>DA (H:=H) h
 |.o _ :: H,f,C,h=>DA (H:=H) h
 |.w _ :: H,f,C,h=>DA (H:=H) h
 |.c _ :: H,f,C,h=>DA (H:=H) h
 |.d _ :: H,f,C,h=>DA (H:=H) h
 |.z _ :: H,f,C,h=>DA (H:=H) h
 |.k D :: H,f,C,h=>by
  have h:Ab (Nat.beq D.f f) (some D) (GD f H)=some C:=h;cases hb:Nat.beq D.f f
  ·rw[hb]at h;exact DA h
  ·rw[hb]at h;cases h;exact Ao.1 hb
theorem Ex:∀{H:List Fe} {f:FuncId} {C:Sk},J8 f H=some C->C.f=f
 |[],f,C,h=>by cases h
 |.k _ :: H,f,C,h=>Ex (H:=H) h
 |.q _ :: H,f,C,h=>Ex (H:=H) h
 |.m _ :: H,f,C,h=>Ex (H:=H) h
 |.o _ :: H,f,C,h=>Ex (H:=H) h
 |.w _ :: H,f,C,h=>Ex (H:=H) h
 |.c _ :: H,f,C,h=>Ex (H:=H) h
 |.d _ :: H,f,C,h=>Ex (H:=H) h
 |.z _ :: H,f,C,h=>Ex (H:=H) h
 |.s D :: H,f,C,h=>by
  have h:Ab (Nat.beq D.f f) (some D) (J8 f H)=some C:=h;cases hb:Nat.beq D.f f
  ·rw[hb]at h;exact Ex h
  ·rw[hb]at h;cases h;exact Ao.1 hb
theorem EU:∀{H:List Fe} {f:FuncId} {C:Qk},MP f H=some C->C.f=f
 |[],f,C,h=>by cases h
 |.k _ :: H,f,C,h=>EU (H:=H) h
 |.s _ :: H,f,C,h=>EU (H:=H) h
 |.m _ :: H,f,C,h=>EU (H:=H) h
 |.o _ :: H,f,C,h=>EU (H:=H) h
 |.w _ :: H,f,C,h=>EU (H:=H) h
 |.c _ :: H,f,C,h=>EU (H:=H) h
 |.d _ :: H,f,C,h=>EU (H:=H) h
 |.z _ :: H,f,C,h=>EU (H:=H) h
 |.q D :: H,f,C,h=>by
  have h:Ab (Nat.beq D.f f) (some D) (MP f H)=some C:=h;cases hb:Nat.beq D.f f
  ·rw[hb]at h;exact EU h
  ·rw[hb]at h;cases h;exact Ao.1 hb
theorem EV:∀{H:List Fe} {f:FuncId} {C:Mk},J9 f H=some C->C.f=f
 |[],f,C,h=>by cases h
 |.k _ :: H,f,C,h=>EV (H:=H) h
 |.s _ :: H,f,C,h=>EV (H:=H) h
 |.q _ :: H,f,C,h=>EV (H:=H) h
 |.o _ :: H,f,C,h=>EV (H:=H) h
 |.w _ :: H,f,C,h=>EV (H:=H) h
 |.c _ :: H,f,C,h=>EV (H:=H) h
 |.d _ :: H,f,C,h=>EV (H:=H) h
 |.z _ :: H,f,C,h=>EV (H:=H) h
 |.m D :: H,f,C,h=>by
  have h:Ab (Nat.beq D.f f) (some D) (J9 f H)=some C:=h;cases hb:Nat.beq D.f f
  ·rw[hb]at h;exact EV h
  ·rw[hb]at h;cases h;exact Ao.1 hb
theorem EW:∀{H:List Fe} {f:FuncId} {C:Ok1},JA f H=some C->C.f=f
 |[],f,C,h=>by cases h
 |.k _ :: H,f,C,h=>EW (H:=H) h
 |.s _ :: H,f,C,h=>EW (H:=H) h
 |.q _ :: H,f,C,h=>EW (H:=H) h
 |.m _ :: H,f,C,h=>EW (H:=H) h
 |.w _ :: H,f,C,h=>EW (H:=H) h
 |.c _ :: H,f,C,h=>EW (H:=H) h
 |.d _ :: H,f,C,h=>EW (H:=H) h
 |.z _ :: H,f,C,h=>EW (H:=H) h
 |.o D :: H,f,C,h=>by
  have h:Ab (Nat.beq D.f f) (some D) (JA f H)=some C:=h;cases hb:Nat.beq D.f f
  ·rw[hb]at h;exact EW h
  ·rw[hb]at h;cases h;exact Ao.1 hb
theorem EX:∀{H:List Fe} {f:FuncId} {C:Wk},JB f H=some C->C.f=f
 |[],f,C,h=>by cases h
 |.k _ :: H,f,C,h=>EX (H:=H) h
 |.s _ :: H,f,C,h=>EX (H:=H) h
 |.q _ :: H,f,C,h=>EX (H:=H) h
 |.m _ :: H,f,C,h=>EX (H:=H) h
 |.o _ :: H,f,C,h=>EX (H:=H) h
 |.c _ :: H,f,C,h=>EX (H:=H) h
 |.d _ :: H,f,C,h=>EX (H:=H) h
 |.z _ :: H,f,C,h=>EX (H:=H) h
 |.w D :: H,f,C,h=>by
  have h:Ab (Nat.beq D.f f) (some D) (JB f H)=some C:=h;cases hb:Nat.beq D.f f
  ·rw[hb]at h;exact EX h
  ·rw[hb]at h;cases h;exact Ao.1 hb
theorem EY:∀{H:List Fe} {f:FuncId} {C:Ck},HN f H=some C->C.f=f
 |[],f,C,h=>by cases h
 |.k _ :: H,f,C,h=>EY (H:=H) h
 |.s _ :: H,f,C,h=>EY (H:=H) h
 |.q _ :: H,f,C,h=>EY (H:=H) h
 |.m _ :: H,f,C,h=>EY (H:=H) h
 |.o _ :: H,f,C,h=>EY (H:=H) h
 |.w _ :: H,f,C,h=>EY (H:=H) h
 |.d _ :: H,f,C,h=>EY (H:=H) h
 |.z _ :: H,f,C,h=>EY (H:=H) h
 |.c D :: H,f,C,h=>by
  have h:Ab (Nat.beq D.f f) (some D) (HN f H)=some C:=h;cases hb:Nat.beq D.f f
  ·rw[hb]at h;exact EY h
  ·rw[hb]at h;cases h;exact Ao.1 hb
theorem EZ:∀{H:List Fe} {f:FuncId} {C:Dk},GE f H=some C->C.f=f
 |[],f,C,h=>by cases h
 |.k _ :: H,f,C,h=>EZ (H:=H) h
 |.s _ :: H,f,C,h=>EZ (H:=H) h
 |.q _ :: H,f,C,h=>EZ (H:=H) h
 |.m _ :: H,f,C,h=>EZ (H:=H) h
 |.o _ :: H,f,C,h=>EZ (H:=H) h
 |.w _ :: H,f,C,h=>EZ (H:=H) h
 |.c _ :: H,f,C,h=>EZ (H:=H) h
 |.z _ :: H,f,C,h=>EZ (H:=H) h
 |.d D :: H,f,C,h=>by
  have h:Ab (Nat.beq D.f f) (some D) (GE f H)=some C:=h;cases hb:Nat.beq D.f f
  ·rw[hb]at h;exact EZ h
  ·rw[hb]at h;cases h;exact Ao.1 hb
theorem Fa:∀{H:List Fe} {f:FuncId} {C:Zk},HP f H=some C->C.f=f
 |[],f,C,h=>by cases h
 |.k _ :: H,f,C,h=>Fa (H:=H) h
 |.s _ :: H,f,C,h=>Fa (H:=H) h
 |.q _ :: H,f,C,h=>Fa (H:=H) h
 |.m _ :: H,f,C,h=>Fa (H:=H) h
 |.o _ :: H,f,C,h=>Fa (H:=H) h
 |.w _ :: H,f,C,h=>Fa (H:=H) h
 |.c _ :: H,f,C,h=>Fa (H:=H) h
 |.d _ :: H,f,C,h=>Fa (H:=H) h
 |.z D :: H,f,C,h=>by
  have h:Ab (Nat.beq D.f f) (some D) (HP f H)=some C:=h;cases hb:Nat.beq D.f f
  ·rw[hb]at h;exact Fa h
  ·rw[hb]at h;cases h;exact Ao.1 hb
theorem Fk.call[TabOk](C:Fk){vs:List SV}{r:Row C.a}(hr:Ws (At vs) (At (prmS C.a C.p r))){y:Row C.r}(hy:C.F r=some y):Ci TabT.P C.f=true/\AY TabT.E TabT.P C.f (At vs) (A7 (retT C.r y)) := ⟨C.ok.en,(C.ok.ok r y hy).w hr⟩
def Ti{l:List CT}{i:Nat}(e:l=Tab.fr i)(x:Option (Row l)):Option (TabT.FR i):=cast (by rw[e,Tab.eR]) x
theorem jzch[TabOk]{l:List CT}{i:Nat}{e:l=Tab.fr i}{x:Option (Row l)}{r:TabT.FR i}(h:Ti e x=some r):∃y,x=some y/\A7 (retT l y)=TabT.aR i r:=by
 subst e;unfold Ti at h;rw[jzem (Tab.eR i)]at h;cases x with
 |none=>cases h
 |some y=>cases h;exact⟨y,rfl,(TabOk.aR i y).symm⟩
def jzkz[TabOk](C:Fk)(i nb:Nat)(caps:List SV)(e:C.r=Tab.fr i):FnV i :=
 ⟨C.f,nb,At caps,ET caps,fun a=>match MM C.a C.p (fnArgs nb (rowW (Tab.fa i) (cast (Tab.eA i).symm a)) caps) with
  |some r=>Ti e (C.F r)
  |none=>none,fun a r h=>by
   have ea:TabT.aA i a=At (rowW (Tab.fa i) (cast (Tab.eA i).symm a)):=by rw[<-TabOk.aA,cast_cast,cast_eq]
   split at h
   ·rename_i x hx;obtain⟨y,hy,er⟩:=jzch h;obtain⟨h1,h2⟩:=C.call (Th hx) hy;rw[ZK]at h2;exact⟨h1,by rw[ea,<-er];exact h2⟩
   ·cases h⟩
def mkFn[TabOk](H:List Fe)(i:Nat)(f:FuncId)(nb:Nat)(caps:List SV):Option (FnV i):=match GD f H with
 |some C=>match Z5 C.r (Tab.fr i) with
  |some ⟨e⟩=>some (jzkz C i nb caps e)
  |none=>none
 |none=>none
theorem jzhg[TabOk]{H:List Fe}{i:Nat}{f:FuncId}{nb:Nat}{caps:List SV}{x:FnV i}(h:mkFn H i f nb caps=some x):A7 (.fn f nb caps)=A7 (.fnp i x):=by
 unfold mkFn at h;split at h
 ·rename_i C hC;split at h
  ·cases h;show Aa.fn f nb (At caps)=.fn C.f nb (At caps);rw[DA hC]
  ·cases h
 ·cases h
def ZM[TabOk](C:Sk)(i:Nat)(caps:List SV)(e:C.i=i):SqV i :=
 ⟨C.f,At caps,ET caps,fun st=>match MM C.a C.p caps with
  |some r=>(e▸C.G r:(List (TabT.FA i)->Option Bool)->Option (List (TabT.FA i))) st
  |none=>none,fun st l h=>by
   subst e;split at h
   ·rename_i x hx;have hs:=C.ok.ok x st l h;exact⟨hs.1,fun L e HC HX hC hh h0 h1=>(hs.2 L e HC HX hC hh h0 h1).w ⟨.refl _,Th hx⟩⟩
   ·cases h⟩
def mkSq[TabOk](H:List Fe)(i:Nat)(f:FuncId)(caps:List SV):Option (SqV i):=match J8 f H with
 |some C=>if e:C.i=i then some (ZM C i caps e) else none
 |none=>none
theorem jzf6[TabOk]{H:List Fe}{i:Nat}{f:FuncId}{caps:List SV}{x:SqV i}(h:mkSq H i f caps=some x):A7 (.fn f 0 caps)=A7 (.sqp i x):=by
 unfold mkSq at h;split at h
 ·rename_i C hC;split at h
  ·cases h;show Aa.fn f 0 (At caps)=.fn C.f 0 (At caps);rw[Ex hC]
  ·cases h
 ·cases h
def Pq[TabOk](H:List Fe)(i:Nat):SV->Option (SqV i)
 |.fn f 0 caps=>mkSq H i f caps
 |v=>ofSq i v
theorem jzek[TabOk]{H:List Fe}{i:Nat}{v:SV}{x:SqV i}(h:Pq H i v=some x):A7 v=A7 (.sqp i x):=by
 unfold Pq at h;split at h
 ·exact jzf6 h
 ·rw[J4 h]
def Tj[TabOk](H:List Fe)(i:Nat):SV->Option (FnV i)
 |.fn f nb caps=>mkFn H i f nb caps
 |v=>ofFn i v
def ofWH[TabOk](H:List Fe):(c:CT)->SV->Option c.T
 |.fn i=>Tj H i
 |.us i=>ofAg i
 |.int k=>ofI k
 |.bool=>ofBT
 |.str=>Jt
 |.slc c=>ofSl c
 |.ptr c=>ofPw c
 |.mp k v=>ofMp k v
 |.sq i=>Pq H i
 |.yl i=>ofYl i
def ofPH[TabOk](H:List Fe)(c:CT):Bool->SV->Option c.T
 |false,v=>ofWH H c v
 |true,v=>ofP c true v
def Pr[TabOk](H:List Fe)(c:CT):(l:List CT)->List Bool->List SV->Option (RowC c.T l)
 |[],p=>D8 (ofPH H c (p.headD false))
 |d :: l,p=>Ju (ofPH H c (p.headD false)) (Pr H d l p.tail)
def DB[TabOk](H:List Fe):(l:List CT)->List Bool->List SV->Option (Row l)
 |[],_=>Jv
 |c :: l,p=>Pr H c l p
theorem jzg5[TabOk]{H:List Fe}:∀{c:CT} {v:SV} {x:c.T},ofWH H c v=some x->W (A7 v) (A7 (wT c x))
 |.us i,v,x,h=>Dr (c:=.us i) h
 |.int k,v,x,h=>Dr (c:=.int k) h
 |.bool,v,x,h=>Dr (c:=.bool) h
 |.str,v,x,h=>Dr (c:=.str) h
 |.slc c,v,x,h=>Dr (c:=.slc c) h
 |.ptr c,v,x,h=>Dr (c:=.ptr c) h
 |.mp k w,v,x,h=>Dr (c:=.mp k w) h
 |.yl i,v,x,h=>Dr (c:=.yl i) h
 |.sq i,v,x,h=>by have h:Pq H i v=some x:=h;rw[jzek h];exact .refl _
 |.fn i,v,x,h=>by
  have h:Tj H i v=some x:=h;unfold Tj at h;split at h
  ·rw[jzhg h];exact .refl _
  ·exact Dr (c:=.fn i) h
theorem ZN[TabOk]{H:List Fe}{c:CT}{b:Bool}{v:SV}{x:c.T}(h:ofPH H c b v=some x):W (A7 v) (A7 (prmC c b x)):=by
 cases b
 ·exact jzg5 h
 ·exact Tg h
theorem ZO[TabOk]{H:List Fe}:∀(c:CT) (l:List CT) (p:List Bool) (v:List SV) (r:RowC c.T l),Pr H c l p v=some r->Ws (At v) (At (HK c l p r))
 |c,[],p,v,r,h=>by obtain⟨u,rfl,h⟩:=D9 (f:=ofPH H c (p.headD false)) h;exact⟨ZN h,trivial⟩
 |c,d :: l,p,v,r,h=>by obtain⟨y,q,rfl,h1,h2⟩:=J5 (f:=ofPH H c (p.headD false)) (g:=Pr H d l p.tail) h;exact⟨ZN h1,ZO d l p.tail q r.2 h2⟩
theorem Fb[TabOk]{H:List Fe}{l:List CT}{p:List Bool}{v:List SV}{r:Row l}(h:DB H l p v=some r):Ws (At v) (At (prmS l p r)):=by
 cases l with
 |nil=>rw[J6 h];exact trivial
 |cons c l=>exact ZO c l p v r h
end
section
variable [Tab]
inductive PV where
 |s (v:SV)
 |ptr (id st off:Nat)
 |eptr (id st:Nat) (j:Int) (off:Nat) (c:CT) (x:c.T)
 |vec (id st:Nat)
 |vs (id st:Nat) (lo hi:Int)
 |own (id st:Nat)
 |mp (id st:Nat)
 |yl (i:Nat) (st:List (TabT.FA i)->Option Bool)
 |kys (id st:Nat) (g:FuncId)
 |ag (cs:List SV) (k id st:Nat)
inductive TV where
 |v (x:PV)
 |cnd (tg:Nat) (want g:Bool) (x:PV)
inductive TO where
 |gone
 |box (cs:List SV)
 |vec (c:CT) (l:List c.T)
 |own (c:CT) (l:List c.T)
 |ref (p:PV)
 |map (k v:CT) (l:List (k.T×v.T))
 |out (i:Nat) (l:List (TabT.FA i)) (b:Bool)
 |rag (cs:List SV) (k id st:Nat)
def Fd:PV->Bool
 |.vec _ _=>true
 |.own _ _=>true
 |.mp _ _=>true
 |_=>false
structure Ap where
 t:List (Nat×TV)
 h:List (Nat×Nat×TO)
 nx:Nat
 n:Nat
 gs:List Nat
 w:List Nat
 wo:List Nat
 b:Nat
 rf:Nat
def inR(b i:Nat):Bool:=Ab (Nat.ble b i) (Nat.blt i (b+900)) false
def Ps(b:Nat):Al->Bool
 |.alloc s _ | .box s _ | .bslice s _ _ _ _ | .mks s _ _ _ _ | .s2b s _ | .append s _ _ _ _ | .mkmap s=>inR b s
 |_=>true
def Ah:List (Nat×TV)->Nat->TV
 |[],_=>.v (.s .top)
 |p :: l,i=>Ab (Nat.beq p.1 i) p.2 (Ah l i)
def Ad:List (Nat×Nat×TO)->Nat->Option (Nat×TO)
 |[],_=>none
 |p :: l,i=>Ab (Nat.beq p.1 i) (some p.2) (Ad l i)
def memN(i:Nat):List Nat->Bool
 |[]=>false
 |j :: l=>Ab (Nat.beq j i) true (memN i l)
abbrev Gd:=Option (Nat×Bool×Bool)
def eqB(a b:Bool):Bool:=Ab a b (!b)
def ofA1:Aa->Option SV
 |.int k n=>some (.int k n)
 |.bool b=>some (.bool b)
 |.str s=>some (.str s)
 |.nils=>some .nil
 |.nilp=>some .nilp
 |_=>none
def ofAL:List Aa->Option (List SV)
 |[]=>some []
 |x :: l=>match ofA1 x,ofAL l with
  |some a,some b=>some (a :: b)
  |_,_=>none
def ofAT:List Aa->List SV
 |[]=>[]
 | x :: l=>(match ofA1 x with
  |some v=>v
  | none=>.top) :: ofAT l
def ofA:Aa->Option SV
 |.agg l=>match ofAL l with
  |some l=>some (.agg l)
  |none=>none
 |.fn f nb []=>some (.fn f nb [])
 |.top=>some .top
 |x=>ofA1 x
def argP(T:Ap)(G:Gd):Ac->Option PV
 |.t n=>match Ah T.t n with
  |.v x=>some x
  |.cnd tg want _ x=>match G with
   |some (tg',want',_)=>Ab (Nat.beq tg tg') (Ab (eqB want want') (some x) none) none
   |none=>none
 |.c v=>match ofA v with
  |some v=>some (.s v)
  |none=>none
 |.g _=>none
def Ds(T:Ap)(G:Gd):List Ac->Option (List SV)
 |[]=>some []
 |x :: l=>match argP T G x,Ds T G l with
  |some (.s v),some r=>some (v :: r)
  |_,_=>none
section
variable {U:Type}
def ckg(G:Gd)(c:Bool)(X:Option U):Option U:=match G with
 |none=>ck c X
 |some (_,_,g)=>ck (!g||c) X
def bdg{β:Type}[Inhabited β](G:Gd)(x:Option β)(K:β->Option U):Option U:=match G with
 |none=>bd x K
 |some (_,_,g)=>bd (gd g x) K
def ckS(G:Gd)(k:IntKind)(n:Int)(K:PV->List Nat->Option U):Option U:=match k with
 |.i8=>ckg G (A0 .i8 n) (K (.s (.int .i8 n)) [])
 |.i16=>ckg G (A0 .i16 n) (K (.s (.int .i16 n)) [])
 |.i32=>ckg G (A0 .i32 n) (K (.s (.int .i32 n)) [])
 |.i64=>ckg G (A0 .i64 n) (K (.s (.int .i64 n)) [])
 |.u8=>K (.s (.int .u8 (n%256))) []
 |.u16=>K (.s (.int .u16 (n%65536))) []
 |.u32=>K (.s (.int .u32 (n%4294967296))) []
 |.u64=>K (.s (.int .u64 (n%18446744073709551616))) []
def ckl(G:Gd)(lit c:Bool)(X:Option U):Option U:=Ab lit (Ab c X none) (ckg G c X)
def binI(G:Gd)(op:BinOp)(k:IntKind)(a b:Int)(lit:Bool)(K:PV->List Nat->Option U):Option U:=match op with
 |.add=>ckS G k (a+b) K
 |.sub=>ckS G k (a-b) K
 |.mul=>ckS G k (a*b) K
 |.quo=>ckl G lit (!decide (b=0)) (ckS G k (a.tdiv b) K)
 |.rem=>ckl G lit (!decide (b=0)) (K (.s (.int k (a.tmod b))) [])
 |.and=>K (.s (.int k (bitI .and k a b))) []
 |.or=>K (.s (.int k (bitI .or k a b))) []
 |.xor=>K (.s (.int k (bitI .xor k a b))) []
 |.andNot=>K (.s (.int k (bitI .andNot k a b))) []
 |.eql=>K (.s (.bool (decide (a=b)))) []
 |.neq=>K (.s (.bool (!decide (a=b)))) []
 |.lss=>K (.s (.bool (decide (a<b)))) []
 |.leq=>K (.s (.bool (decide (a<=b)))) []
 |.gtr=>K (.s (.bool (decide (b<a)))) []
 |.geq=>K (.s (.bool (decide (b<=a)))) []
 |_=>none
def Tk(G:Gd)(op:BinOp)(k:IntKind)(a b:Int)(lit:Bool)(K:PV->List Nat->Option U):Option U:=match op with
 |.shl=>ckl G lit (decide (0<=b)) (ckS G k (a*2 ^ min b.toNat k.bits) K)
 |.shr=>ckl G lit (decide (0<=b)) (K (.s (.int k (a.fdiv (2 ^ min b.toNat k.bits)))) [])
 |_=>none
def binS(G:Gd)(op:BinOp)(a b:List UInt8)(K:PV->List Nat->Option U):Option U:=match op with
 |.add=>ckg G (decide (List.length a+List.length b<=4611686018427387904)) (K (.s (.str (a++b))) [])
 |.eql=>K (.s (.bool (decide (a=b)))) []
 |.neq=>K (.s (.bool (!decide (a=b)))) []
 |.lss=>K (.s (.bool (Op.bytesLess a b))) []
 |.leq=>K (.s (.bool (Op.bytesLess a b||decide (a=b)))) []
 |.gtr=>K (.s (.bool (!(Op.bytesLess a b||decide (a=b))))) []
 |.geq=>K (.s (.bool (!Op.bytesLess a b))) []
 |_=>none
def oneS:List SV->Bool
 |[]=>true
 |.agg _ :: _=>false
 |.tup _ :: _=>false
 |.top :: _=>false
 |.mpv _ _ _ :: _=>false
 |.ylv _ _ :: _=>false
 |_ :: l=>oneS l
def ZP:Ac->Bool
 |.c _=>true
 |_=>false
def ldS(agg:Bool)(sz:Nat)(l:List SV)(off:Nat):SV:=Ab agg (.agg ((l.drop off).take sz)) (l.getD off .top)
def layS(l:List SV)(off:Nat)(p:List SV):List SV:=l.take off++p++l.drop (off+p.length)
def JC(T:Ap)(G:Gd):List SV->List (Nat×Nat×Ac)->Option (List SV)
 |l,[]=>some l
 |l,(off,sz,x) :: r=>match argP T G x with
  |some (.s v)=>match v.cells with
   |some p=>Ab (Nat.beq p.length sz) (Ab (Nat.ble (off+sz) l.length) (JC T G (layS l off p) r) none) none
   |none=>none
  |_=>none
def eqS:List SV->List SV->Option Bool
 |[],[]=>some true
 |x :: l,y :: m=>match x,y,eqS l m with
  |.int k a,.int k' b,some e=>if k=k' then some (decide (a=b)&&e) else none
  |.bool a,.bool b,some e=>some ((a==b)&&e)
  |.str a,.str b,some e=>some (decide (a=b)&&e)
  |_,_,_=>none
 |_,_=>none
def Pt:SV->Nat
 |.bool _=>0
 |.int _ _=>1
 |.str _=>2
 |_=>3
def Pu:List SV->List Nat->Bool
 |[],[]=>true
 |x :: l,n :: m=>Ab (Nat.beq (Pt x) n) (Pu l m) false
 |_,_=>false
def bndS(T:Ap)(G:Gd)(d:Int):Option Ac->Option Int
 |none=>some d
 |some a=>match argP T G a with
  |some (.s (.int _ n))=>some n
  |_=>none
def Tl{U:Type}:Nat->List U->Bool
 |_,[]=>true
 |0,_ :: _=>false
 |n+1,_ :: l=>Tl n l
def litN:Int->Option Nat
 |.ofNat n=>some n
 |_=>none
def Pv(T:Ap)(G:Gd):List SV->List (Nat×Nat×Ac)->Option (List SV×Nat×Nat×Nat)
 |l,(off,sz,x) :: r=>match argP T G x with
  |some (.vec id st)=>match r with
   |[]=>Ab (Nat.beq sz 1) (Ab (Nat.ble (off+sz) l.length) (some (l,off,id,st)) none) none
   |_=>none
  |some (.s v)=>match v.cells with
   |some p=>Ab (Nat.beq p.length sz) (Ab (Nat.ble (off+sz) l.length) (Pv T G (layS l off p) r) none) none
   |none=>none
  |_=>none
 |_,[]=>none
def v_mv(H:List Fe)(T:Ap)(G:Gd)(x:Ac)(K:PV->List Nat->Option U):Option U:=match argP T G x,x with
 |some p,_=>K p []
 |none,.c _=>K (.s .top) []
 |none,_=>none
def JD(T:Ap)(G:Gd)(n:Nat)(w:Bool)(a:Ac):Option PV:=match G with
 |none=>argP T (some (n,w,w)) a
 |some g=>match argP T (some g) a with
  |some p=>some p
  |none=>argP T (some (n,w,w)) a
def MQ(H:List Fe)(T:Ap)(G:Gd)(c x y:Ac)(K:PV->List Nat->Option U):Option U:=match c with
 |.t n=>match argP T G (.t n) with
  |some (.s (.bool b))=>match JD T G n true x,JD T G n false y with
   |some (.s (.bool p)),some (.s (.bool q))=>K (.s (.bool (bif b then p else q))) []
   |some (.s (.int k p)),some (.s (.int k' q))=>Ab (decide (k=k')) (K (.s (.int k (bif b then p else q))) []) none
   |_,_=>none
  |_=>none
 |_=>none
def Tm(H:List Fe)(T:Ap)(G:Gd)(op:BinOp)(bools:Bool)(x y:Ac)(K:PV->List Nat->Option U):Option U:=match argP T G x,argP T G y with
 |some (.s (.int k a)),some (.s (.int k' b))=>Ab (Gi op) (Tk G op k a b (ZP y) K) (Ab (decide (k=k')) (binI G op k a b (ZP y) K) none)
 |some (.s (.str a)),some (.s (.str b))=>binS G op a b K
 |some (.s (.bool a)),some (.s (.bool b))=>match bools,op with
  |true,.eql=>K (.s (.bool (a==b))) []
  |true,.neq=>K (.s (.bool (!(a==b)))) []
  |_,_=>none
 |_,_=>none
def Tn(H:List Fe)(T:Ap)(G:Gd)(x:Ac)(K:PV->List Nat->Option U):Option U:=match argP T G x with
 |some (.s (.bool b))=>K (.s (.bool (!b))) []
 |_=>none
def Tp(H:List Fe)(T:Ap)(G:Gd)(x:Ac)(K:PV->List Nat->Option U):Option U:=match argP T G x with
 |some (.s (.int k n))=>ckS G k (-n) K
 |_=>none
def Tq(H:List Fe)(T:Ap)(G:Gd)(agg:Bool)(sz:Nat)(x:Ac)(K:PV->List Nat->Option U):Option U:=match argP T G x with
 |some (.ptr id st off)=>match Ad T.h id with
  |some (st',.box cs)=>Ab (Nat.beq st st') (Ab (Nat.ble (off+sz) cs.length) (Ab (Ab agg true (Nat.beq sz 1)) (K (.s (ldS agg sz cs off)) [id]) none) none) none
  |some (st',.ref p)=>Ab (Nat.beq st st') (Ab (Nat.beq off 0) (Ab (Nat.beq sz 1) (Ab agg none (K p [id])) none) none) none
  |some (st',.rag cs k i s)=>Ab (Nat.beq st st') (Ab agg (Ab (Nat.beq off 0) (Ab (Nat.beq sz cs.length) (K (.ag cs k i s) [id]) none) none) (Ab (Nat.beq sz 1) (Ab (Nat.ble (off+sz) cs.length) (Ab (Nat.beq off k) (K (.vec i s) [id]) (K (.s (ldS false sz cs off)) [id])) none) none)) none
  |_=>none
 |some (.eptr id st j off c x)=>match Ad T.h id with
  |some (st',.vec c' l)=>Ab (Nat.beq st st') (Ab (Nat.ble (off+sz) c.n) (Ab (Ab agg true (Nat.beq sz 1)) (K (.s (ldS agg sz (Cv c x) off)) [id]) none) none) none
  |some (st',.own c' l)=>Ab (Nat.beq st st') (Ab (Nat.ble (off+sz) c.n) (Ab (Ab agg true (Nat.beq sz 1)) (K (.s (ldS agg sz (Cv c x) off)) [id]) none) none) none
  |_=>none
 |some (.s (.cptr l off))=>Ab (Nat.ble (off+sz) l.length) (Ab (Ab agg true (Nat.beq sz 1)) (K (.s (ldS agg sz l off)) []) none) none
 |_=>none
def Tr(H:List Fe)(T:Ap)(G:Gd)(x:Ac)(K:PV->List Nat->Option U):Option U:=match argP T G x with
 |some (.s (.cptr l off))=>K (.s (.cptr l off)) []
 |some (.s (.fn f nb l))=>K (.s (.fn f nb l)) []
 |some (.s (.fnp i z))=>K (.s (.fnp i z)) []
 |some (.s (.optr c x))=>@bdg U c.T c.inh G x fun v=>K (.s (.cptr (Cv c v) 0)) []
 |some (.ptr id st off)=>match Ad T.h id with
  |some (st',_)=>Ab (Nat.beq st st') (K (.ptr id st off) [id]) none
  |none=>none
 |_=>none
def Ts(H:List Fe)(T:Ap)(G:Gd)(k:IntKind)(x:Ac)(K:PV->List Nat->Option U):Option U:=match argP T G x with
 |some (.s (.int _ n))=>ckS G k n K
 |_=>none
def Tt(H:List Fe)(T:Ap)(G:Gd)(f:FuncId)(nb:Nat)(caps:List Ac)(K:PV->List Nat->Option U):Option U:=match Ds T G caps with
 |some l=>K (.s (.fn f nb l)) []
 |none=>none
def Tu(H:List Fe)(T:Ap)(G:Gd)(isStr:Bool)(st:Nat)(x:Ac)(lo hi:Option Ac)(K:PV->List Nat->Option U):Option U:=match bndS T G 0 lo with
 |none=>none
 |some l=>match isStr,argP T G x with
  |false,some (.s (.slc c m))=>match bndS T G (List.length m:Int) hi with
   |some r=>Ab (Nat.beq c.n st) (ckg G (Dv m l r) (K (.s (.slc c (sub m l r))) [])) none
   |none=>none
  |false,some (.vec id vst)=>match Ad T.h id with
   |some (st',.vec c m)=>match bndS T G (List.length m:Int) hi with
    |some r=>Ab (Nat.beq vst st') (Ab (Nat.beq c.n st) (ckg G (Dv m l r) (K (.vs id vst l r) [id])) none) none
    |none=>none
   |_=>none
  |true,some (.s (.str s))=>match bndS T G (List.length s:Int) hi with
   |some r=>ckg G (Dv s l r) (K (.s (.str (sub s l r))) [])
   |none=>none
  |_,_=>none
def Tv(H:List Fe)(T:Ap)(G:Gd)(off:Nat)(x:Ac)(K:PV->List Nat->Option U):Option U:=match argP T G x with
 |some (.ptr id st o)=>match Ad T.h id with
  |some (st',_)=>Ab (Nat.beq st st') (K (.ptr id st (o+off)) [id]) none
  |none=>none
 |some (.eptr id st j o c x)=>match Ad T.h id with
  |some (st',_)=>Ab (Nat.beq st st') (K (.eptr id st j (o+off) c x) [id]) none
  |none=>none
 |some (.s (.cptr l o))=>K (.s (.cptr l (o+off))) []
 |_=>none
def Tw(H:List Fe)(T:Ap)(G:Gd)(st:Nat)(x i:Ac)(K:PV->List Nat->Option U):Option U:=match argP T G x,argP T G i with
 |some (.s (.slc c l)),some (.s (.int _ j))=>Ab (Nat.beq c.n st) (@bdg U c.T c.inh G (at? l j) fun v=>K (.s (.cptr (Cv c v) 0)) []) none
 |some (.vec id vst),some (.s (.int _ j))=>match Ad T.h id with
  |some (st',.vec c l)=>Ab (Nat.beq vst st') (Ab (Nat.beq c.n st) (@bdg U c.T c.inh G (at? l j) fun v=>K (.eptr id vst j 0 c v) [id]) none) none
  |_=>none
 |some (.own id vst),some (.s (.int _ j))=>match Ad T.h id with
  |some (st',.own c l)=>Ab (Nat.beq vst st') (Ab (Nat.beq c.n st) (@bdg U c.T c.inh G (at? l j) fun v=>K (.eptr id vst j 0 c v) [id]) none) none
  |_=>none
 |_,_=>none
def Tx(H:List Fe)(T:Ap)(G:Gd)(nn st:Nat)(x i:Ac)(K:PV->List Nat->Option U):Option U:=match argP T G x,argP T G i with
 |some (.ptr id pst o),some (.s (.int _ j))=>match Ad T.h id,litN j with
  |some (st',_),some n=>Ab (Nat.beq pst st') (Ab (Nat.blt n nn) (K (.ptr id pst (o+n*st)) [id]) none) none
  |_,_=>none
 |some (.s (.cptr l o)),some (.s (.int _ j))=>match litN j with
  |some n=>Ab (Nat.blt n nn) (K (.s (.cptr l (o+n*st))) []) none
  |none=>none
 |_,_=>none
def Ty(H:List Fe)(T:Ap)(G:Gd)(agg:Bool)(off sz:Nat)(x:Ac)(K:PV->List Nat->Option U):Option U:=match argP T G x with
 |some (.ag cs k id st)=>Ab (Nat.ble (off+sz) cs.length) (Ab agg none (Ab (Nat.beq sz 1) (Ab (Nat.beq off k) (K (.vec id st) []) (K (.s (ldS agg sz cs off)) [])) none)) none
 |some (.s (.agg l))=>Ab (Nat.ble (off+sz) l.length) (Ab (Ab agg true (Nat.beq sz 1)) (K (.s (ldS agg sz l off)) []) none) none
 |_=>none
def Tz(H:List Fe)(T:Ap)(G:Gd)(i:Nat)(x:Ac)(K:PV->List Nat->Option U):Option U:=match argP T G x with
 |some (.s (.tup l))=>Ab (Nat.blt i l.length) (K (.s (l.getD i .top)) []) none
 |_=>none
def T5(H:List Fe)(T:Ap)(G:Gd)(x i:Ac)(K:PV->List Nat->Option U):Option U:=match argP T G x,argP T G i with
 |some (.s (.str s)),some (.s (.int _ j))=>ckg G (BP s j) (K (.s (.int .u8 (BM s j))) [])
 |_,_=>none
def ctOf:SV->CT
 |.int k _=>.int k
 |.bool _=>.bool
 |.slc c _=>.slc c
 |.optr c _=>.ptr c
 |.fnp i _=>.fn i
 |_=>.str
def ofCs(c:CT):List SV->Option (List c.T)
 |[]=>some []
 |v :: l=>match ofLf c v,ofCs c l with
  |some x,some r=>some (x :: r)
  |_,_=>none
def T6(H:List Fe)(T:Ap)(G:Gd)(agg:Bool)(n sz:Nat)(x i:Ac)(K:PV->List Nat->Option U):Option U:=match argP T G x,argP T G i with
 |some (.s (.agg (v :: l))),some (.s (.int _ j))=>match ofCs (ctOf v) (v :: l) with
  |some m=>Ab agg none (Ab (Nat.beq sz 1) (Ab (Nat.beq n m.length) (@bdg U (ctOf v).T (ctOf v).inh G (at? m j) fun y=>K (.s (lfT (ctOf v) y)) []) none) none)
  |none=>none
 |_,_=>none
def T7(H:List Fe)(T:Ap)(G:Gd)(ng:Bool)(x:Ac)(K:PV->List Nat->Option U):Option U:=match argP T G x with
 |some (.s (.optr c x))=>K (.s (.bool (Ab ng (Option.isSome x) (!Option.isSome x)))) []
 |some (.s .nilp)=>K (.s (.bool (!ng))) []
 |some (.s (.cptr _ _))=>K (.s (.bool ng)) []
 |_=>none
def keq:(c:CT)->c.T->c.T->Bool
 |.int _=>fun(a b:Int)=>decide (a=b)
 |.bool=>fun(a b:Bool)=>a==b
 |.str=>fun(a b:List UInt8)=>decide (a=b)
 |.us i=>Tab.ke i
 |_=>fun _ _=>false
def kkd:CT->Option Nat
 |.bool=>some 0
 |.int _=>some 1
 |.str=>some 2
 |.us i=>match Tab.kk i with
  |some l=>Ab (lt3 l) (some (4+encK l)) none
  |none=>none
 |_=>none
def isK(c:CT)(n:Nat):Bool:=match kkd c with
 |some m=>Nat.beq m n
 |none=>false
def T8(H:List Fe)(T:Ap)(G:Gd)(kd:Nat)(cok:Bool)(zero:Aa)(x k:Ac)(K:PV->List Nat->Option U):Option U:=match argP T G x,argP T G k,ofA zero with
 |some (.mp id mst),some (.s key),some z=>match Ad T.h id with
  |some (st',.map ck cv l)=>match ofW ck key,ofW cv z with
   |some a,some d=>Ab (Nat.beq mst st') (Ab (isK ck kd) (Ab cok (K (.s (.tup [wT cv (Option.getD (mget (keq ck) l a) d),.bool (Option.isSome (mget (keq ck) l a))])) [id]) (K (.s (wT cv (Option.getD (mget (keq ck) l a) d))) [id])) none) none
   |_,_=>none
  |_=>none
 |_,_,_=>none
def T9(H:List Fe)(T:Ap)(G:Gd)(x:Ac)(K:PV->List Nat->Option U):Option U:=match argP T G x with
 |some (.mp id mst)=>match Ad T.h id with
  |some (st',.map _ _ l)=>Ab (Nat.beq mst st') (K (.s (.int .i64 (List.length l:Int))) [id]) none
  |_=>none
 |_=>none
def TA(H:List Fe)(T:Ap)(G:Gd)(isStr:Bool)(x:Ac)(K:PV->List Nat->Option U):Option U:=match isStr,argP T G x with
 |false,some (.s (.slc _ l))=>K (.s (.int .i64 (List.length l:Int))) []
 |false,some (.s .nil)=>K (.s (.int .i64 0)) []
 |false,some (.vec id vst)=>match Ad T.h id with
  |some (st',.vec _ l)=>Ab (Nat.beq vst st') (K (.s (.int .i64 (List.length l:Int))) [id]) none
  |_=>none
 |false,some (.own id vst)=>match Ad T.h id with
  |some (st',.own _ l)=>Ab (Nat.beq vst st') (K (.s (.int .i64 (List.length l:Int))) [id]) none
  |_=>none
 |true,some (.s (.str s))=>K (.s (.int .i64 (List.length s:Int))) []
 |_,_=>none
def TB(H:List Fe)(T:Ap)(G:Gd)(sh:List Nat)(ng:Bool)(x y:Ac)(K:PV->List Nat->Option U):Option U:=match argP T G x,argP T G y with
 |some (.s (.agg l)),some (.s (.agg m))=>match eqS l m with
  |some e=>Ab (Pu l sh) (K (.s (.bool (Ab ng (!e) e))) []) none
  |none=>none
 |_,_=>none
def TC(H:List Fe)(T:Ap)(G:Gd)(x y:Ac)(K:PV->List Nat->Option U):Option U:=match argP T G x,argP T G y with
 |some (.s (.int k a)),some (.s (.int k' b))=>Ab (decide (k=k')) (K (.s (.int k (Max.max a b))) []) none
 |_,_=>none
def TD(H:List Fe)(T:Ap)(G:Gd)(x y:Ac)(K:PV->List Nat->Option U):Option U:=match argP T G x,argP T G y with
 |some (.s (.int k a)),some (.s (.int k' b))=>Ab (decide (k=k')) (K (.s (.int k (Min.min a b))) []) none
 |_,_=>none
def TE(H:List Fe)(T:Ap)(G:Gd)(x y z:Ac)(K:PV->List Nat->Option U):Option U:=match argP T G x,argP T G y,argP T G z with
 |some (.s (.int k a)),some (.s (.int k' b)),some (.s (.int k2 c))=>Ab (decide (k=k'/\k=k2)) (K (.s (.int k (Min.min (Min.min a b) c))) []) none
 |_,_,_=>none
def TF(H:List Fe)(T:Ap)(G:Gd)(zero:List Aa)(ps:List (Nat×Nat×Ac))(K:PV->List Nat->Option U):Option U:=match ofAL zero with
 |some z=>match JC T G z ps with
  |some l=>K (.s (.agg l)) []
  |none=>match Pv T G z ps with
   |some (l,k,id,st)=>K (.ag l k id st) []
   |none=>none
 |none=>none
def TG(H:List Fe)(T:Ap)(G:Gd)(x:Ac)(K:PV->List Nat->Option U):Option U:=match argP T G x with
 |some (.s (.slc (.int .u8) l))=>K (.s (.str (CF l))) []
 |some (.vec id vst)=>match Ad T.h id with
  |some (st',.vec (.int .u8) l)=>Ab (Nat.beq vst st') (K (.s (.str (CF l))) [id]) none
  |_=>none
 |_=>none
def ZQ[TabOk](H:List Fe)(T:Ap)(G:Gd)(f:FuncId)(ags:List Ac)(K:PV->List Nat->Option U):Option U:=match J9 f H,ags with
 |some M,[x]=>match argP T G x with
  |some (.mp id st)=>K (.kys id st M.g) []
  |_=>none
 |_,_=>none
def ZR[TabOk](H:List Fe)(T:Ap)(G:Gd)(f:FuncId)(ags:List Ac)(K:PV->List Nat->Option U):Option U:=match JA f H,ags with
 |some C,x :: l=>match argP T G x,Ds T G l with
  |some (.kys id st g),some vs=>match Ad T.h id,DB H C.a C.p vs with
   |some (st',.map k v m),some r=>match ML k v C.k C.v m with
    |some m=>Ab (Nat.beq st st') (Ab (Nat.beq g C.g) (bdg G (C.F m r) fun x=>K (.s (retT C.r x)) [id]) none) none
    |none=>none
   |_,_=>none
  |_,_=>none
 |_,_=>none
def ZS[TabOk](H:List Fe)(T:Ap)(G:Gd)(f:FuncId)(ags:List Ac)(K:PV->List Nat->Option U):Option U:=match MP f H,Ds T G ags with
 |some Q,some vs=>match DB H Q.a Q.p vs with
  |some r=>bdg G (Q.F r) fun y=>K (.s (.fn Q.S.f 0 (prmS Q.S.a Q.S.p y))) []
  |none=>none
 |_,_=>none
def Pw[TabOk](H:List Fe)(T:Ap)(G:Gd)(f:FuncId)(ags:List Ac)(K:PV->List Nat->Option U):Option U:=match GD f H with
 |some C=>match Ds T G ags with
  |some vs=>match DB H C.a C.p vs with
   |some r=>bdg G (C.F r) fun x=>K (.s (retT C.r x)) []
   |none=>none
  |none=>none
 |none=>match JA f H with
  |some _=>ZR H T G f ags K
  |none=>match J9 f H with
   |some _=>ZQ H T G f ags K
   |none=>ZS H T G f ags K
@[reducible] def inhR(i:Nat):Inhabited (TabT.FR i):=⟨cast (Tab.eR i) (rowInh (Tab.fr i)).default⟩
def Px[TabOk](H:List Fe)(T:Ap)(G:Gd)(x:Ac)(ags:List Ac)(K:PV->List Nat->Option U):Option U:=match argP T G x,Ds T G ags with
 |some (.s (.fn f nb caps)),some vs=>match GD f H with
  |some C=>match DB H C.a C.p (fnArgs nb vs caps) with
   |some r=>bdg G (C.F r) fun x=>K (.s (retT C.r x)) []
   |none=>none
  |none=>none
 |some (.s (.fnp i z)),some vs=>match Jz (Tab.fa i) vs with
  |some r=>@bdg U (TabT.FR i) (inhR i) G (z.g (cast (Tab.eA i) r)) fun y=>K (.s (retT (Tab.fr i) (cast (Tab.eR i).symm y))) []
  |none=>none
 |_,_=>none
def MR(c:CT)(st:Nat):Nat->List SV->Option (List c.T)
 |0,_=>some []
 |n+1,l=>match Ew c (l.take st),MR c st n (l.drop st) with
  |some x,some r=>some (x :: r)
  |_,_=>none
def Bo(s:Nat):List (Nat×CT)->CT
 |[]=>.bool
 |p :: l=>Ab (Nat.beq p.1 s) p.2 (Bo s l)
def TH(ty:List (Nat×CT))(T:Ap)(G:Gd)(s st nn:Nat)(zero:List Aa)(ps:List (Nat×Nat×Ac))(K:PV->List Nat->Option U):Option U:=match ofAL zero with
 |some z=>match JC T G z ps with
  | some l=>Ab (Nat.beq l.length (nn*st)) (Ab (Nat.beq (Bo s ty).n st) (Ab (Nat.blt 0 st) (Ab (inR T.b s) (match MR (Bo s ty) st nn l with
   |some m=>K (.s (.slc (Bo s ty) m)) [s]
   | none=>none) none) none) none) none
  |none=>none
 |none=>none
def opV[TabOk](H:List Fe)(ty:List (Nat×CT))(T:Ap)(G:Gd)(o:Al)(K:PV->List Nat->Option U):Option U:=match o with
 |.mv x=>v_mv H T G x K
 |.pick c x y=>MQ H T G c x y K
 |.bin op bools x y=>Tm H T G op bools x y K
 |.not x=>Tn H T G x K
 |.neg x=>Tp H T G x K
 |.load agg sz x=>Tq H T G agg sz x K
 |.nilck x=>Tr H T G x K
 |.conv k x=>Ts H T G k x K
 |.mkfn f nb caps=>Tt H T G f nb caps K
 |.slice isStr st x lo hi=>Tu H T G isStr st x lo hi K
 |.faddr off x=>Tv H T G off x K
 |.iaddrS st x i=>Tw H T G st x i K
 |.iaddrA nn st x i=>Tx H T G nn st x i K
 |.field agg off sz x=>Ty H T G agg off sz x K
 |.extract i x=>Tz H T G i x K
 |.sidx x i=>T5 H T G x i K
 |.len isStr x=>TA H T G isStr x K
 |.aidx agg n sz x i=>T6 H T G agg n sz x i K
 |.mlook kd cok zero x k=>T8 H T G kd cok zero x k K
 |.mlen x=>T9 H T G x K
 |.isnilp ng x=>T7 H T G ng x K
 |.eqagg sh ng x y=>TB H T G sh ng x y K
 |.max x y=>TC H T G x y K
 |.min x y=>TD H T G x y K
 |.min3 x y z=>TE H T G x y z K
 |.build zero ps=>TF H T G zero ps K
 |.b2s x=>TG H T G x K
 |.fslice s st nn zero ps=>TH ty T G s st nn zero ps K
 |.callf f ags=>Pw H T G f ags K
 |.callv x ags=>Px H T G x ags K
 |_=>none
def srcS(T:Ap)(c:CT):PV->Option (List c.T×List Nat)
 |.s (.slc c' l)=>match BQ c' c l with
  |some l=>some (l,[])
  |none=>none
 |.vec id vst=>match Ad T.h id with
  | some (st',.vec c' l)=>Ab (Nat.beq vst st') (match BQ c' c l with
   |some l=>some (l,[id])
   | none=>none) none
  |_=>none
 |_=>none
def ZT(ty:List (Nat×CT))(T:Ap)(s:Nat)(zero:List Aa)(K:PV->Nat->TO->Bool->List Nat->Option U):Option U:=K (.ptr s T.nx 0) s (.box (ofAT zero)) false [s]
def TI(ty:List (Nat×CT))(T:Ap)(s:Nat)(x:Ac)(K:PV->Nat->TO->Bool->List Nat->Option U):Option U:=match argP T none x with
 |some (.s v)=>match v.cells with
  |some l=>K (.ptr s T.nx 0) s (.box l) false [s]
  |none=>none
 |some p=>Ab (Fd p) (K (.ptr s T.nx 0) s (.ref p) false [s]) none
 |none=>none
def TJ(ty:List (Nat×CT))(T:Ap)(s st nn:Nat)(zero:List Aa)(ps:List (Nat×Nat×Ac))(K:PV->Nat->TO->Bool->List Nat->Option U):Option U:=match ofAL zero with
 |some z=>match JC T none z ps with
  | some l=>Ab (Nat.beq l.length (nn*st)) (Ab (Nat.beq (Bo s ty).n st) (Ab (Nat.blt 0 st) (match MR (Bo s ty) st nn l with
   |some m=>K (.vec s T.nx) s (.vec (Bo s ty) m) false [s]
   | none=>none) none) none) none
  |none=>none
 |none=>none
def TK(ty:List (Nat×CT))(T:Ap)(s st bytes:Nat)(zero:List Aa)(x:Ac)(K:PV->Nat->TO->Bool->List Nat->Option U):Option U:=match ofAL zero,argP T none x with
 | some z,some (.s (.int _ n))=>Ab (Nat.beq (Bo s ty).n st) (Ab (Nat.blt 0 st) (match Ew (Bo s ty) z with
  |some e=>ck (mkOk n bytes) (K (.vec s T.nx) s (.vec (Bo s ty) (List.replicate (Int.toNat n) e)) false [s])
  | none=>none) none) none
 |_,_=>none
def TL(ty:List (Nat×CT))(T:Ap)(s:Nat)(x:Ac)(K:PV->Nat->TO->Bool->List Nat->Option U):Option U:=match argP T none x with
 |some (.s (.str b))=>K (.s (.slc (.int .u8) (bytes b))) s .gone false [s]
 |_=>none
def TM(ty:List (Nat×CT))(T:Ap)(sz:Nat)(x y:Ac)(K:PV->Nat->TO->Bool->List Nat->Option U):Option U:=match argP T none x,argP T none y with
 |some (.ptr id st off),some (.s v)=>match Ad T.h id,v.cells with
  |some (st',.box cs),some p=>Ab (Nat.beq st st') (Ab (Nat.beq p.length sz) (Ab (Nat.ble (off+sz) cs.length) (Ab (oneS p) (K (.s .top) id (.box (layS cs off p)) true [id]) none) none) none) none
  |some (st',.ref _),some p=>Ab (Nat.beq st st') (Ab (Nat.beq p.length sz) (Ab (Nat.beq sz 1) (Ab (Nat.beq off 0) (Ab (oneS p) (K (.s .top) id (.box p) true [id]) none) none) none) none) none
  |_,_=>none
 |some (.ptr id st 0),some (.ag cs k i s)=>match Ad T.h id with
  |some (st',.box cs')=>Ab (Nat.beq st st') (Ab (Nat.beq cs.length sz) (Ab (Nat.beq cs'.length sz) (Ab (oneS cs) (Ab (Nat.beq i id) none (K (.s .top) id (.rag cs k i s) true [id])) none) none) none) none
  |_=>none
 |some (.eptr id st j off c x),some (.s v)=>match Ad T.h id,v.cells with
  | some (st',.vec c' l),some p=>Ab (Nat.beq st st') (Ab (Nat.beq p.length sz) (Ab (Nat.ble (off+sz) c.n) (match Ew c' (layS (Cv c x) off p) with
   |some e=>K (.s .top) id (.vec c' (List.set l (Int.toNat j) e)) true [id]
   | none=>none) none) none) none
  | some (st',.own c' l),some p=>Ab (Nat.beq st st') (Ab (Nat.beq p.length sz) (Ab (Nat.ble (off+sz) c.n) (match Ew c' (layS (Cv c x) off p) with
   |some e=>K (.s .top) id (.own c' (List.set l (Int.toNat j) e)) true [id]
   | none=>none) none) none) none
  |_,_=>none
 | some (.ptr id st off),some p=>Ab (Fd p) (Ab (Nat.beq sz 1) (Ab (Nat.beq off 0) (match Ad T.h id with
  |some (st',.box cs)=>Ab (Nat.beq st st') (Ab (Nat.beq cs.length 1) (K (.s .top) id (.ref p) true [id]) none) none
  |some (st',.ref _)=>Ab (Nat.beq st st') (K (.s .top) id (.ref p) true [id]) none
  | _=>none) none) none) none
 |_,_=>none
def TN(ty:List (Nat×CT))(T:Ap)(s st bytes:Nat)(x y:Ac)(K:PV->Nat->TO->Bool->List Nat->Option U):Option U:=match argP T none x,argP T none y with
 |some (.s .nil),some q=>match srcS T (Bo s ty) q with
  |some (a :: l,rd)=>Ab (Nat.beq (Bo s ty).n st) (Ab (Nat.blt 0 st) (Ab (Tl 64 l) (Ab (Nat.ble bytes 1000000) (K (.own s T.nx) s (.own (Bo s ty) (a :: l)) false (s :: rd)) none) none) none) none
  |_=>none
 |some (.own id vst),some q=>match Ad T.h id with
  |some (st',.own c m)=>match srcS T c q with
   | some (l,rd)=>Ab (Nat.beq vst st') (Ab (Nat.beq id s) (Ab (Nat.beq c.n st) (Ab (Nat.blt 0 st) (Ab (memN id rd) none
     (ck (decide (List.length (m++l)*bytes<=140737488355328)) (K (.own id T.nx) id (.own c (m++l)) false (id :: rd)))) none) none) none) none
   |none=>none
  |_=>none
 |some (.vec id vst),some q=>match Ad T.h id with
  |some (st',.vec c m)=>match srcS T c q with
   | some (l,rd)=>Ab (Nat.beq vst st') (Ab (Nat.beq c.n st) (Ab (Nat.blt 0 st)
     (ck (decide (List.length (m++l)*bytes<=140737488355328)) (K (.vec id T.nx) id (.vec c (m++l)) false (id :: rd))) none) none) none
   |none=>none
  |_=>none
 |_,_=>none
def TP(ty:List (Nat×CT))(T:Ap)(st0:Nat)(x y:Ac)(K:PV->Nat->TO->Bool->List Nat->Option U):Option U:=match argP T none x,argP T none y with
 |some (.vs id vst lo hi),some q=>match Ad T.h id with
  |some (st',.vec c m)=>match srcS T c q with
   | some (l,rd)=>Ab (Nat.beq vst st') (Ab (Nat.beq c.n st0) (Ab (memN id rd) none
     (ck (Dv m lo hi) (K (.s (.int .i64 (min (List.length l) (Int.toNat (hi-lo)):Int))) id (.vec c (Ca m (Int.toNat lo) (List.take (Int.toNat (hi-lo)) l))) true (id :: rd)))) none) none
   |none=>none
  |_=>none
 |_,_=>none
def TQ(ty:List (Nat×CT))(T:Ap)(zero:List Aa)(x:Ac)(K:PV->Nat->TO->Bool->List Nat->Option U):Option U:=match ofAL zero,argP T none x with
 |some z,some (.vs id vst lo hi)=>match Ad T.h id with
  |some (st',.vec c m)=>match Ew c z with
   |some e=>Ab (Nat.beq vst st') (ck (Dv m lo hi) (K (.s (.tup [])) id (.vec c (Ca m (Int.toNat lo) (List.replicate (Int.toNat (hi-lo)) e))) true [id])) none
   |none=>none
  |_=>none
 |_,_=>none
def ZU(ty:List (Nat×CT))(T:Ap)(s:Nat)(K:PV->Nat->TO->Bool->List Nat->Option U):Option U:=K (.mp s T.nx) s (.map (Bo s ty) (Bo (s+10000) ty) []) false [s]
def TR(ty:List (Nat×CT))(T:Ap)(kd:Nat)(x k v:Ac)(K:PV->Nat->TO->Bool->List Nat->Option U):Option U:=match argP T none x,argP T none k,argP T none v with
 |some (.mp id mst),some (.s key),some (.s val)=>match Ad T.h id with
  |some (st',.map ck cv l)=>match ofW ck key,ofW cv val with
   |some a,some b=>Ab (Nat.beq mst st') (Ab (isK ck kd) (Ab (exV val) (K (.s .top) id (.map ck cv (mput (keq ck) l a b)) true [id]) none) none) none
   |_,_=>none
  |_=>none
 |_,_,_=>none
def TS(ty:List (Nat×CT))(T:Ap)(kd:Nat)(zero:Aa)(x k:Ac)(K:PV->Nat->TO->Bool->List Nat->Option U):Option U:=match argP T none x,argP T none k,ofA zero with
 |some (.mp id mst),some (.s key),some z=>match Ad T.h id with
  |some (st',.map ck cv l)=>match ofW ck key,ofW cv z with
   |some a,some d=>Ab (Nat.beq mst st') (Ab (isK ck kd) (Ab (exV z) (K (.s (.tup [wT cv (Option.getD (mget (keq ck) l a) d),.int .i64 ((midx (keq ck) l a:Nat):Int)])) id (.map ck cv (mput (keq ck) l a (Option.getD (mget (keq ck) l a) d))) true [id]) none) none) none
   |_,_=>none
  |_=>none
 |_,_,_=>none
def TT(ty:List (Nat×CT))(T:Ap)(x st v:Ac)(K:PV->Nat->TO->Bool->List Nat->Option U):Option U:=match argP T none x,argP T none st,argP T none v with
 |some (.mp id mst),some (.s (.int _ n)),some (.s val)=>match Ad T.h id with
  |some (st',.map kt cv l)=>match ofW cv val with
   |some b=>Ab (Nat.beq mst st') (Ab (exV val) (ck (IY l n) (K (.s .top) id (.map kt cv (mset l (Int.toNat n) b)) true [id])) none) none
   |_=>none
  |_=>none
 |_,_,_=>none
def opO(ty:List (Nat×CT))(T:Ap)(o:Al)(K:PV->Nat->TO->Bool->List Nat->Option U):Option U:=match o with
 |.alloc s zero=>ZT ty T s zero K
 |.box s x=>TI ty T s x K
 |.bslice s st nn zero ps=>TJ ty T s st nn zero ps K
 |.mks s st bytes zero x=>TK ty T s st bytes zero x K
 |.s2b s x=>TL ty T s x K
 |.store sz x y=>TM ty T sz x y K
 |.append s st bytes x y=>TN ty T s st bytes x y K
 |.copy st0 x y=>TP ty T st0 x y K
 |.clear zero x=>TQ ty T zero x K
 |.mkmap s=>ZU ty T s K
 |.mupd kd x k v=>TR ty T kd x k v K
 |.ment kd zero x k=>TS ty T kd zero x k K
 |.mest x st v=>TT ty T x st v K
 |_=>none
end
def Ff:Al->Bool
 |.alloc _ _ | .box _ _ | .bslice _ _ _ _ _ | .mks _ _ _ _ _ | .s2b _ _ | .store _ _ _ | .append _ _ _ _ _ | .copy _ _ _ | .clear _ _ | .mkmap _ | .mupd _ _ _ _ | .ment _ _ _ _ | .mest _ _ _=>true
 |_=>false
def DC(id st nx:Nat):PV->PV
 |.ptr i s off=>Ab (Nat.beq i id) (Ab (Nat.beq s st) (.ptr i nx off) (.ptr i s off)) (.ptr i s off)
 |.vec i s=>Ab (Nat.beq i id) (Ab (Nat.beq s st) (.vec i nx) (.vec i s)) (.vec i s)
 |.vs i s lo hi=>Ab (Nat.beq i id) (Ab (Nat.beq s st) (.vs i nx lo hi) (.vs i s lo hi)) (.vs i s lo hi)
 |.own i s=>Ab (Nat.beq i id) (Ab (Nat.beq s st) (.own i nx) (.own i s)) (.own i s)
 |.mp i s=>Ab (Nat.beq i id) (Ab (Nat.beq s st) (.mp i nx) (.mp i s)) (.mp i s)
 |.ag cs k i s=>Ab (Nat.beq i id) (Ab (Nat.beq s st) (.ag cs k i nx) (.ag cs k i s)) (.ag cs k i s)
 |x=>x
def MS(id st nx:Nat):TO->TO
 |.ref p=>.ref (DC id st nx p)
 |.rag cs k i s=>Ab (Nat.beq i id) (Ab (Nat.beq s st) (.rag cs k i nx) (.rag cs k i s)) (.rag cs k i s)
 |o=>o
def GF(id st nx:Nat):List (Nat×Nat×TO)->List (Nat×Nat×TO)
 |[]=>[]
 |(i,s,o) :: l=>(i,s,MS id st nx o) :: GF id st nx l
def HQ(id st nx:Nat):List (Nat×TV)->List (Nat×TV)
 |[]=>[]
 |(i,.v x) :: l=>(i,.v (DC id st nx x)) :: HQ id st nx l
 |p :: l=>p :: HQ id st nx l
def putS(T:Ap)(d:Option Tmp)(v:TV):Ap:=match d with
 |some d=>⟨(d,v) :: T.t,T.h,T.nx,T.n,T.gs,d :: T.w,T.wo,T.b,T.rf⟩
 |none=>T
def putO(T:Ap)(id:Nat)(o:TO)(re:Bool):Ap :=
 ⟨Ab re (match Ad T.h id with
  |some (st,_)=>HQ id st T.nx T.t
  |none=>T.t) T.t,(id,T.nx,o) :: Ab re (match Ad T.h id with
  |some (st,_)=>GF id st T.nx T.h
  | none=>T.h) T.h,T.nx+1,T.n,T.gs,T.w,id :: T.wo,T.b,T.rf⟩
def addG(T:Ap)(tg:Nat):Ap:=⟨T.t,T.h,T.nx,T.n,tg :: T.gs,T.w,T.wo,T.b,T.rf⟩
def allA(T:Ap)(G:Gd):List Ac->Bool
 |[]=>true
 |a :: l=>match argP T G a with
  |some _=>allA T G l
  |none=>false
def gdT(want:Bool):TV->Option Bool
 |.v (.s (.bool b))=>some (Ab want b (!b))
 |.cnd _ _ g (.s (.bool b))=>some (g&&Ab want b (!b))
 |_=>none
def allO(T:Ap)(G:Gd):Al->Bool
 |.pick c _ _=>allA T G [c]
 |o=>allA T G o.args
def Bw(T:Ap):Option Tmp->Bool
 |some d=>Ab (Nat.blt d T.n) (!memN d T.gs) false
 |none=>true
def MT:TO->Bool
 |.out _ _ _=>false
 |_=>true
def DD[TabOk]{U:Type}(H:List Fe)(ty:List (Nat×CT))(T:Ap)(o:As)(K:Ap->List Nat->Option Nat->Option U):Option U:=match o.guard with
 |none=>Ab (Bw T o.dst) (Ab (Ff o.op) (Ab (Ps T.b o.op) (opO ty T o.op fun v id ob re rd=>Ab (MT ob) (K (putS (putO T id ob re) o.dst (.v v)) rd (some id)) none) none) (opV H ty T none o.op fun v rd=>K (putS T o.dst (.v v)) rd none)) none
 |some (tg,want)=>match gdT want (Ah T.t tg) with
  | some g=>Ab (Bw (addG T tg) o.dst) (Ab (Ff o.op) none (Ab (allO T (some (tg,want,g)) o.op)
    (opV H ty T (some (tg,want,g)) o.op fun v rd=>K (putS (addG T tg) o.dst (.cnd tg want g v)) rd none) none)) none
  |none=>none
def DZ:List (Nat×TV)->List (Nat×TV)
 |[]=>[]
 |(i,.cnd _ _ _ _) :: l=>(i,.v (.s .top)) :: DZ l
 |p :: l=>p :: DZ l
def endT(T:Ap):Ap:=match T.gs with
 |[]=>T
 |_=>⟨DZ T.t,T.h,T.nx,T.n,[],T.w,T.wo,T.b,T.rf⟩
def frzP(id st:Nat)(o:TO):PV->PV
 | .ptr i s off=>Ab (Nat.beq i id) (Ab (Nat.beq s st) (match o with
  |.box cs=>.s (.cptr cs off)
  | _=>.ptr i s off) (.ptr i s off)) (.ptr i s off)
 | .vec i s=>Ab (Nat.beq i id) (Ab (Nat.beq s st) (match o with
  |.vec c l=>.s (.slc c l)
  | _=>.vec i s) (.vec i s)) (.vec i s)
 | .own i s=>Ab (Nat.beq i id) (Ab (Nat.beq s st) (match o with
  |.own c l=>.s (.slc c l)
  | _=>.own i s) (.own i s)) (.own i s)
 | .ag cs k i s=>Ab (Nat.beq i id) (Ab (Nat.beq s st) (match o with
  |.vec c l=>.s (.agg (cs.set k (.slc c l)))
  | _=>.ag cs k i s) (.ag cs k i s)) (.ag cs k i s)
 |x=>x
def JE(id st:Nat):PV->Bool
 |.ptr i s _=>Ab (Nat.beq i id) (Nat.beq s st) false
 |.vec i s=>Ab (Nat.beq i id) (Nat.beq s st) false
 |.own i s=>Ab (Nat.beq i id) (Nat.beq s st) false
 |.ag _ _ i s=>Ab (Nat.beq i id) (Nat.beq s st) false
 |_=>false
def frzT(id st:Nat)(o:TO):List (Nat×TV)->List (Nat×TV)
 |[]=>[]
 |(i,.v x) :: l=>(i,.v (frzP id st o x)) :: frzT id st o l
 |p :: l=>p :: frzT id st o l
def frzW(id st:Nat):List (Nat×TV)->List Nat->List Nat
 |[],w=>w
 |(i,.v x) :: l,w=>Ab (JE id st x) (i :: frzW id st l w) (frzW id st l w)
 |_ :: l,w=>frzW id st l w
def frzO(id st:Nat)(o:TO):TO->TO
 |.ref p=>match frzP id st o p with
  |.s v=>.box [v]
  |q=>.ref q
 | .rag cs k i s=>Ab (Nat.beq i id) (Ab (Nat.beq s st) (match o with
  |.vec c l=>.box (cs.set k (.slc c l))
  | _=>.rag cs k i s) (.rag cs k i s)) (.rag cs k i s)
 |x=>x
def frzH(id st:Nat)(o:TO):List (Nat×Nat×TO)->List (Nat×Nat×TO)
 |[]=>[]
 |(i,s,x) :: l=>(i,s,frzO id st o x) :: frzH id st o l
def MU(id st:Nat):TO->Bool
 |.ref p=>JE id st p
 |.rag _ _ i s=>Ab (Nat.beq i id) (Nat.beq s st) false
 |_=>false
def Fg(id st:Nat):List (Nat×Nat×TO)->List Nat->List Nat
 |[],w=>w
 |(i,_,x) :: l,w=>Ab (MU id st x) (i :: Fg id st l w) (Fg id st l w)
def frz1(T:Ap)(id:Nat):Ap:=match Ad T.h id with
 |some (st,.gone)=>T
 |some (st,.ref _)=>T
 |some (st,.rag _ _ _ _)=>T
 |some (st,.map _ _ _)=>T
 |some (st,.out _ _ _)=>T
 |some (st,o)=>⟨frzT id st o T.t,(id,T.nx,.gone) :: frzH id st o T.h,T.nx+1,T.n,T.gs,frzW id st T.t T.w,id :: Fg id st T.h T.wo,T.b,T.rf⟩
 |none=>T
def frzA(T:Ap):List Nat->Ap
 |[]=>T
 |id :: l=>frzA (frz1 T id) l
def refB(T:Ap)(id:Nat):List Nat:=match Ad T.h id with
 |some (_,.ref (.own i _))=>[i,id]
 |some (_,.ref (.vec i _))=>[i,id]
 |some (_,.rag _ _ i _)=>[i,id]
 |_=>[id]
def refA(T:Ap)(bx vc:Bool):Ac->List Nat
 |.t n=>match Ah T.t n with
  |.v (.own id _)=>[id]
  |.v (.vec id _)=>Ab vc [id] []
  |.v (.ag _ _ id _)=>Ab vc [id] []
  |.v (.ptr id _ _)=>Ab bx (refB T id) []
  |_=>[]
 |_=>[]
def jzi0(T:Ap):Ac->Bool
 |.t n=>match Ah T.t n with
  |.v (.ptr id _ _)=>match Ad T.h id with
   |some (_,.box [_])=>true
   |some (_,.ref _)=>true
   |_=>false
  |_=>false
 |_=>false
def isAg(T:Ap):Ac->Bool
 |.t n=>match Ah T.t n with
  |.v (.ag _ _ _ _)=>true
  |_=>false
 |_=>false
def DE(T:Ap)(bx vc:Bool):List Ac->List Nat
 |[]=>[]
 |x :: l=>refA T bx vc x++DE T bx vc l
def appF(T:Ap)(s:Nat)(x:Ac)(l:List Nat):List Nat:=match argP T none x with
 |some (.s .nil)=>match Ad T.h s with
  |some (_,.own _ _)=>s :: l
  |_=>l
 |_=>l
def wzr4(T:Ap):Al->List Nat
 |.append s _ _ x y=>appF T s x (refA T false false y)
 |.b2s x | .slice _ _ x _ _ | .copy _ _ x=>refA T false false x
 |.callf _ l=>DE T false true l
 |.callv x l=>DE T false true l
 |.mkfn _ _ l=>DE T true true l
 |.build _ ps=>DE T false true (ps.map fun p=>p.2.2)
 |.bslice _ _ _ _ ps=>DE T false true (ps.map fun p=>p.2.2)
 |.mupd _ _ _ y=>refA T false true y
 |.mest _ _ y=>refA T false true y
 |.store _ x y=>Ab (jzi0 T x) [] (Ab (isAg T y) [] (refA T false true y))
 |_=>[]
def mvF:List (Nat×Ac)->Ac->Ac
 |(d,y) :: l,.t n=>Ab (Nat.beq d n) y (mvF l (.t n))
 |_,x=>x
def drwF(T:Ap):List (Nat×Ac)->List As->List Nat
 |_,[]=>[]
 |m,o :: l=>match o.guard,o.op with
  |none,.append s _ _ x _=>appF T s (mvF m x) (drwF T m l)
  |none,.mv y=>match o.dst with
   |some d=>drwF T ((d,mvF m y) :: m) l
   |none=>drwF T m l
  |_,_=>drwF T m l
def isY(T:Ap)(o:As):Bool:=match o.guard,o.op with
 |none,.callv x _=>match argP T none x with
  |some (.yl _ _)=>true
  |_=>false
 |_,_=>false
def JF(i j:Nat)(l:List (TabT.FA i)):Option (List (TabT.FA j)):=if h:i=j then some (h▸l) else none
def yldT{U:Type}(T:Ap)(o:As)(K:Ap->Option U):Option U:=match o.op with
 |.callv x ags=>match argP T none x,Ds T none ags,Ad T.h 1899 with
  |some (.yl i st),some vs,some (_,.out j l false)=>match JF j i l,Jz (Tab.fa i) vs with
   | some m,some r=>Ab (Bw T o.dst) (bd (st (m++[cast (Tab.eA i) r])) fun s=>ite' s
     (K (putS (putO T 1899 (.out i (m++[cast (Tab.eA i) r]) true) false) o.dst (.v (.s (.bool false)))))
     (K (putS (putO T 1899 (.out i (m++[cast (Tab.eA i) r]) false) false) o.dst (.v (.s (.bool true)))))) none
   |_,_=>none
  |_,_,_=>none
 |_=>none
def litT(T:Ap)(tg:Nat)(b:Bool):Ap:=⟨(tg,.v (.s (.bool b))) :: T.t,T.h,T.nx,T.n,T.gs,T.w,T.wo,T.b,T.rf⟩
def unG(tg:Nat)(want:Bool):List (Nat×TV)->List (Nat×TV)
 |[]=>[]
 |(i,.cnd a b g x) :: l=>(i,Ab (Nat.beq a tg) (Ab (eqB b want) (.v x) (.cnd a b g x)) (.cnd a b g x)) :: unG tg want l
 |p :: l=>p :: unG tg want l
def unT(T:Ap)(tg:Nat)(want:Bool):Ap:=⟨unG tg want T.t,T.h,T.nx,T.n,T.gs,T.w,T.wo,T.b,T.rf⟩
def isYg(T:Ap)(o:As):Bool:=match o.guard,o.op with
 |some (tg,want),.callv x _=>match argP (unT T tg want) none x with
  |some (.yl _ _)=>true
  |_=>false
 |_,_=>false
def yldH{U:Type}(T:Ap)(tg:Nat)(want:Bool)(d:Option Tmp)(x:Ac)(ags:List Ac)(K:Ap->Option U):Option U:=match argP (unT T tg want) none x,Ds (unT T tg want) none ags,Ad T.h 1899 with
 |some (.yl i st),some vs,some (_,.out j l false)=>match JF j i l,Jz (Tab.fa i) vs with
  | some m,some r=>Ab (allA (unT T tg want) none (x :: ags)) (bd (st (m++[cast (Tab.eA i) r])) fun s=>ite' s
    (K (putS (putO T 1899 (.out i (m++[cast (Tab.eA i) r]) true) false) d (.cnd tg want true (.s (.bool false)))))
    (K (putS (putO T 1899 (.out i (m++[cast (Tab.eA i) r]) false) false) d (.cnd tg want true (.s (.bool true)))))) none
  |_,_=>none
 |_,_,_=>none
def yldG{U:Type}(T:Ap)(o:As)(K:Ap->Option U):Option U:=match o.guard,o.op with
 |some (tg,want),.callv x ags=>match Ah T.t tg with
  | .v (.s (.bool b))=>Ab (Bw (addG T tg) o.dst) (ite' (Ab want b (!b))
    (yldH (litT (addG T tg) tg want) tg want o.dst x ags K)
    (K (putS (litT (addG T tg) tg (!want)) o.dst (.cnd tg want false (.s (.bool false)))))) none
  |_=>none
 |_,_=>none
def isW(H:List Fe)(o:As):Bool:=match o.guard,o.op with
 |none,.callf f (_ :: _)=>match JB f H with
  |some _=>true
  |none=>match HN f H with
   |some _=>true
   |none=>match HP f H with
    |some _=>true
    |none=>match GE f H with
     |some _=>true
     |none=>false
 |_,_=>false
def Py(H:List Fe)(T:Ap)(o:As):List Nat:=Ab (isW H o) (match o.op with
 |.callf f (x :: l)=>match GE f H with
  |some _=>DE T false true (x :: l)
  |none=>DE T false true l
 | _=>[]) (wzr4 T o.op)
def srcT(T:Ap)(c:CT)(s:Nat)(x:Ac):Option (List c.T):=match argP T none x with
 |some (.s v)=>ofSl c v
 |some (.own id st)=>match Ad T.h id with
  |some (st',.own c' m)=>Ab (Nat.beq st st') (Ab (Nat.beq id s) none (BQ c' c m)) none
  |_=>none
 |some (.vec id st)=>match Ad T.h id with
  |some (st',.vec c' m)=>Ab (Nat.beq st st') (Ab (Nat.beq id s) none (BQ c' c m)) none
  |_=>none
 |some (.vs id st lo hi)=>match Ad T.h id with
  | some (st',.vec c' m)=>Ab (Nat.beq st st') (Ab (Nat.beq id s) none (match BQ c' c m with
   |some m=>some (sub m lo hi)
   | none=>none)) none
  |_=>none
 |_=>none
def clS(b d:Nat):Nat:=b+600+d
def clnT[TabOk]{U:Type}(H:List Fe)(T:Ap)(d:Option Tmp)(f:FuncId)(x:Ac)(l:List Ac)(K:Ap->Option U):Option U:=match HN f H,d with
 |some C,some d=>match srcT T C.c (clS T.b d) x,Ds T none l with
  |some m,some vs=>match DB H C.a C.p vs with
   |some r=>Ab (Bw T (some d)) (Ab (inR T.b (clS T.b d)) (bd (C.F m r) fun m'=>K (putS (putO T (clS T.b d) (.vec C.c m') false) (some d) (.v (.vec (clS T.b d) T.nx)))) none) none
   |none=>none
  |_,_=>none
 |_,_=>none
def inwT[TabOk]{U:Type}(H:List Fe)(T:Ap)(d:Option Tmp)(f:FuncId)(x:Ac)(l:List Ac)(K:Ap->Option U):Option U:=match JB f H,argP T none x,Ds T none l with
  |some C,some (.own id st),some vs=>match Ad T.h id,DB H C.a C.p vs with
   |some (st',.own c m),some r=>match BQ c C.c m with
    |some m=>Ab (Bw T d) (Ab (Nat.beq st st') (bd (C.F m r) fun m'=>K (putS (putO T id (.own C.c m') true) d (.v (.s (.tup []))))) none) none
    |none=>none
   |_,_=>none
  |_,_,_=>none
def zinT[TabOk]{U:Type}(H:List Fe)(T:Ap)(d:Option Tmp)(f:FuncId)(x:Ac)(l:List Ac)(K:Ap->Option U):Option U:=match HP f H,argP T none x,Ds T none l with
  |some C,some (.own id st),some vs=>match Ad T.h id,DB H C.a C.p vs with
   |some (st',.own c m),some r=>match BQ c C.c m with
    |some m=>Ab (Bw T d) (Ab (Nat.beq st st') (bd (C.F m r) fun m'=>K (putS (putO T id .gone false) d (.v (.s (.slc C.c m'))))) none) none
    |none=>none
   |_,_=>none
  |_,_,_=>none
def dinT[TabOk]{U:Type}(H:List Fe)(T:Ap)(d:Option Tmp)(f:FuncId)(l:List Ac)(K:Ap->Option U):Option U:=match GE f H,d with
 |some C,some d=>match Ds T none l with
  |some vs=>match DB H C.a C.p vs with
   |some r=>Ab (Bw T (some d)) (Ab (inR T.b (clS T.b d)) (bd (C.F r) fun m'=>K (putS (putO T (clS T.b d) (.own C.c m') false) (some d) (.v (.own (clS T.b d) T.nx)))) none) none
   |none=>none
  |none=>none
 |_,_=>none
def inpT[TabOk]{U:Type}(H:List Fe)(T:Ap)(o:As)(K:Ap->Option U):Option U:=match o.op with
 |.callf f (x :: l)=>match HN f H with
  |some _=>clnT H T o.dst f x l K
  |none=>match HP f H with
   |some _=>zinT H T o.dst f x l K
   |none=>match GE f H with
    |some _=>dinT H T o.dst f (x :: l) K
    |none=>inwT H T o.dst f x l K
 |_=>none
def regT[TabOk]{U:Type}(H:List Fe)(ty:List (Nat×CT)):List As->Ap->(Ap->Option U)->Option U
 |[],T,K=>K (endT T)
 |o :: r,T,K=>(fun T=>Ab (isW H o) (inpT H T o fun T'=>regT H ty r T' K) (Ab (isY T o) (yldT T o fun T'=>regT H ty r T' K) (Ab (isYg T o) (yldG T o fun T'=>regT H ty r T' K) (DD H ty T o fun T' _ _=>regT H ty r T' K)))) (frzA T (Py H T o))
def mvY(T:Ap)(ys:List Nat)(o:As):List Nat:=match o.guard,o.dst,o.op with
 |none,some d,.mv (.t n)=>match argP T none (.t n) with
  |some (.yl _ _)=>d :: ys
  |_=>Ab (memN n ys) (d :: ys) ys
 |_,_,_=>ys
def isYs(T:Ap)(ys:List Nat)(o:As):Bool:=match o.guard,o.op with
 |none,.callv (.t n) _=>Ab (memN n ys) true (isY T o)
 |_,_=>isY T o
def splY(H:List Fe)(T:Ap):List Nat->List As->List As×List As
 |_,[]=>([],[])
 | ys,o :: r=>Ab (Ab (isYs T ys o) true (isW H o)) ([],o :: r) (match splY H T (mvY T ys o) r with
  | (a,b)=>(o :: a,b))
def Pz(T:Ap)(id st:Nat)(ob:TO):List Ac->Option (List SV)
 |[]=>some []
 |a :: l=>match argP T none a,Pz T id st ob l with
  |some x,some r=>match frzP id st ob x with
   |.s v=>some (v :: r)
   |_=>none
  |_,_=>none
def isSl:TO->Bool
 |.vec _ _ | .own _ _=>true
 |_=>false
def P0[TabOk]{U:Type}(H:List Fe)(T:Ap)(f:FuncId)(ags:List Ac)(id:Nat)(K:PV->Option U):Option U:=match Ad T.h id,GD f H with
 |some (st,ob),some C=>match Pz T id st ob ags with
  |some vs=>match DB H C.a C.p vs with
   |some r=>Ab (isSl ob) (bd (C.F r) fun x=>K (.s (retT C.r x))) none
   |none=>none
  |none=>none
 |_,_=>none
def Ey[TabOk]{U:Type}(H:List Fe)(ty:List (Nat×CT))(T:Ap)(o:As)(K:Ap->List Nat->Option Nat->Option U):Option U:=match o.guard,o.op with
 |none,.callf f ags=>match DE T false true ags with
  |[]=>DD H ty T o K
  |id :: _=>Ab (Bw T o.dst) (P0 H T f ags id fun v=>K (putS (putO T id .gone false) o.dst (.v v)) [id] (some id)) none
 |_,_=>DD H ty T o K
def MV[TabOk]{U:Type}(H:List Fe)(ty:List (Nat×CT))(T:Ap)(o:As)(tg:Nat)(want:Bool)(K:Ap->List Nat->Option Nat->Option U):Option U:=Ab (Bw T o.dst) (match o.op with
 |.callf f ags=>match DE (unT T tg want) false true ags with
  |[]=>DD H ty T o K
  |id :: _=>Ab (allA (unT T tg want) none ags) (P0 H (unT T tg want) f ags id fun v=>K (putS (putO T id .gone false) o.dst (.cnd tg want true v)) [id] (some id)) none
 | op=>Ab (Ff op) (Ab (allA (unT T tg want) none op.args) (Ab (Ps T.b op) (opO ty (unT T tg want) op fun v id ob re rd=>Ab (MT ob) (K (putS (putO T id ob re) o.dst (.cnd tg want true v)) rd (some id)) none) none) none) (DD H ty T o K)) none
def notV:Al->Bool
 |.callv _ _=>false
 |.mnext _=>false
 |_=>true
def MW{U:Type}(T:Ap)(o:As)(tg:Nat)(want:Bool)(K:Ap->List Nat->Option Nat->Option U):Option U:=Ab (Bw T o.dst) (Ab (notV o.op) (K (putS T o.dst (.cnd tg want false (.s .top))) [] none) none) none
def P1{U:Type}(T:Ap)(o:As)(tg:Nat)(x:Ac)(K:Ap->List Nat->Option Nat->Option U):Option U:=match Ah T.t tg,argP T none x with
 |.v (.s (.bool _)),some p=>Ab (Bw T o.dst) (K (putS T o.dst (.v p)) [] none) none
 |_,_=>none
abbrev Kn:=Option (Nat×Bool×Bool)
def TU[TabOk]{U:Type}(H:List Fe)(ty:List (Nat×CT))(kn:Kn)(T:Ap)(o:As)(K:Ap->List Nat->Option Nat->Option U):Option U:=match kn with
 |none=>Ey H ty T o K
 |some (tg,want,b)=>match o.guard with
  |some (tg',want')=>Ab (Nat.beq tg' tg) (Ab (eqB want' want) (Ab b (MV H ty T o tg want K) (MW T o tg want K)) (Ey H ty T o K)) (Ey H ty T o K)
  | none=>Ab b (Ey H ty T o K) (match o.op with
   |.pick (.t n) x y=>Ab (Nat.beq n tg) (P1 T o tg (Ab want y x) K) (Ey H ty T o K)
   | _=>Ey H ty T o K)
def ZV(T:Ap)(tg:Nat)(want:Bool):Al->Bool
 |.callf _ ags=>match DE (unT T tg want) false true ags with
  |[]=>false
  |_=>true
 |op=>Ff op
def CZ[TabOk]{U:Type}(H:List Fe)(ty:List (Nat×CT)):List As->Kn->Ap->(Ap->List (List Nat×Option Nat)->Option U)->Option U
 |[],_,T,K=>K T []
 |o :: r,kn,T,K=>match kn,o.guard with
  | none,some (tg,want)=>Ab (ZV T tg want o.op) (match gdT want (Ah T.t tg) with
   |some g=>ite' g (MV H ty (addG T tg) o tg want fun T' rd out=>CZ H ty r (some (tg,want,true)) T' fun T'' tr=>K T'' ((rd,out) :: tr))
     (MW (addG T tg) o tg want fun T' rd out=>CZ H ty r (some (tg,want,false)) T' fun T'' tr=>K T'' ((rd,out) :: tr))
   | none=>none) (Ey H ty T o fun T' rd out=>CZ H ty r none T' fun T'' tr=>K T'' ((rd,out) :: tr))
  |_,_=>TU H ty kn T o fun T' rd out=>CZ H ty r kn T' fun T'' tr=>K T'' ((rd,out) :: tr)
inductive SH where
 |k | v (c:CT) | c (a:Aa) | own (id:Nat) | vec (id:Nat) | ptr (id off:Nat) | mp (id:Nat) | owk (id:Nat)
inductive OH where
 |k | gone | box (c:CT) | own (c:CT) | vec (c:CT) | rown (id:Nat) | rvec (id:Nat) | rmp (id:Nat) | map (k v:CT) | out (i:Nat) (b:Bool) | rag (c:CT) (k id:Nat)
inductive OE where
 |n | x (id:Nat) | r
structure OutH where
 e:OE
 sl:List (Nat×SH)
 ob:List (Nat×OH)
def ctsS:List (Nat×SH)->List CT->List CT
 |[],r=>r
 |(_,.v c) :: l,r=>c :: ctsS l r
 |_ :: l,r=>ctsS l r
def ctsO:List (Nat×OH)->List CT
 |[]=>[]
 |(_,.box c) :: l=>c :: ctsO l
 |(_,.rag c _ _) :: l=>c :: ctsO l
 |(_,.own c) :: l=>.slc c :: ctsO l
 |(_,.vec c) :: l=>.slc c :: ctsO l
 |(_,.map k v) :: l=>.mp k v :: ctsO l
 |(_,.out i _) :: l=>.yl i :: ctsO l
 |_ :: l=>ctsO l
def OutH.cts(H:OutH):List CT:=ctsS H.sl (ctsO H.ob)
def curO(T:Ap)(id st:Nat):Bool:=match Ad T.h id with
 |some (st',_)=>Nat.beq st st'
 |none=>false
def curW(T:Ap)(id st:Nat):Bool:=match Ad T.h id with
 |some (st',.own _ _)=>Nat.beq st st'
 |_=>false
def eqA1:SV->Aa->Bool
 |.int k n,.int k' m=>if k=k' then decide (n=m) else false
 |.bool a,.bool b=>eqB a b
 |.str a,.str b=>decide (a=b)
 |.nil,.nils=>true
 |.nilp,.nilp=>true
 |_,_=>false
def kpP(T0 T:Ap):TV->Bool
 |.v (.s _)=>true
 |.v (.ptr id st _)=>curO T id st
 |.v (.vec id st)=>curO T id st
 |.v (.vs id st _ _)=>curO T id st
 |.v (.own id st)=>curO T id st
 |.v (.mp id st)=>curO T id st
 |.v (.yl _ _)=>true
 |.v (.kys id st _)=>curO T id st
 |_=>false
def By(i:Nat):List (Nat×OH)->Bool
 |[]=>false
 | (j,o) :: l=>Ab (Nat.beq j i) (match o with
  |.own _=>true
  | _=>false) (By i l)
def Fh(i:Nat):List (Nat×OH)->Bool
 |[]=>false
 | (j,o) :: l=>Ab (Nat.beq j i) (match o with
  |.vec _=>true
  | _=>false) (Fh i l)
def chS(T0 T:Ap)(ob:List (Nat×OH)):List (Nat×SH)->Bool
 |[]=>true
 |(i,.k) :: l=>Ab (memN i T.w) false (Ab (kpP T0 T (Ah T0.t i)) (chS T0 T ob l) false)
 |(i,.v c) :: l=>chS T0 T ob l
 |(i,.c a) :: l=>match Ah T.t i with
  |.v (.s v)=>Ab (eqA1 v a) (chS T0 T ob l) false
  |_=>false
 |(i,.own id) :: l=>match Ah T.t i with
  |.v (.own id' st)=>Ab (By id ob) (Ab (Nat.beq id' id) (Ab (curW T id st) (chS T0 T ob l) false) false) false
  |.v (.s .nil)=>match Ad T.h id with
   |some (_,.gone)=>Ab (By id ob) (chS T0 T ob l) false
   |none=>Ab (By id ob) (chS T0 T ob l) false
   |_=>false
  |_=>false
 | (i,.owk id) :: l=>Ab (memN i T.w) false (match Ah T.t i with
  |.v (.own id' st)=>Ab (By id ob) (Ab (Nat.beq id' id) (Ab (curW T id st) (chS T0 T ob l) false) false) false
  | _=>false)
 |(i,.vec id) :: l=>match Ah T.t i with
  |.v (.vec id' st)=>Ab (Fh id ob) (Ab (Nat.beq id' id) (Ab (curO T id st) (chS T0 T ob l) false) false) false
  |_=>false
 |(i,.mp id) :: l=>match Ah T.t i with
  |.v (.mp id' st)=>Ab (Nat.beq id' id) (Ab (curO T id st) (chS T0 T ob l) false) false
  |_=>false
 |(i,.ptr id off) :: l=>match Ah T.t i with
  |.v (.ptr id' st off')=>Ab (Nat.beq id' id) (Ab (Nat.beq off' off) (Ab (curO T id st) (chS T0 T ob l) false) false) false
  |_=>false
def chO(T0 T:Ap)(ob:List (Nat×OH)):List (Nat×OH)->Bool
 |[]=>true
 |(i,.k) :: l=>Ab (memN i T.wo) false (chO T0 T ob l)
 |(i,.rmp id) :: l=>match Ad T.h i with
  |some (_,.ref (.mp id' st))=>Ab (Nat.beq id' id) (Ab (curO T id st) (chO T0 T ob l) false) false
  |_=>false
 |(i,.rvec id) :: l=>match Ad T.h i with
  |some (_,.ref (.vec id' st))=>Ab (Fh id ob) (Ab (Nat.beq id' id) (Ab (curO T id st) (chO T0 T ob l) false) false) false
  |_=>false
 |(i,.rag _ k id) :: l=>match Ad T.h i with
  |some (_,.rag _ k' id' st)=>Ab (Nat.beq k' k) (Ab (Fh id ob) (Ab (Nat.beq id' id) (Ab (curO T id st) (chO T0 T ob l) false) false) false) false
  |_=>false
 |(i,.rown id) :: l=>match Ad T.h i with
  |some (_,.ref (.own id' st))=>Ab (By id ob) (Ab (Nat.beq id' id) (Ab (curW T id st) (chO T0 T ob l) false) false) false
  |some (_,.box [.nil])=>match Ad T.h id with
   |some (_,.gone)=>Ab (By id ob) (chO T0 T ob l) false
   |none=>Ab (By id ob) (chO T0 T ob l) false
   |_=>false
  |_=>false
 |_ :: l=>chO T0 T ob l
def hasK{β:Type}(i:Nat):List (Nat×β)->Bool
 |[]=>false
 |p :: l=>Ab (Nat.beq p.1 i) true (hasK i l)
def MX(l:List (Nat×OH)):List (Nat×Nat×TO)->Bool
 |[]=>true
 |p :: r=>Ab (hasK p.1 l) (MX l r) false
def svS(T:Ap):List (Nat×SH)->Option (List SV)
 |[]=>some []
 |(i,.v _) :: l=>match Ah T.t i,svS T l with
  |.v (.s v),some r=>some (v :: r)
  |_,_=>none
 |_ :: l=>svS T l
def svO(T:Ap):List (Nat×OH)->Option (List SV)
 |[]=>some []
 |(i,.box c) :: l=>match Ad T.h i,svO T l with
  |some (_,.box cs),some r=>match Ew c cs with
   |some x=>some (wT c x :: r)
   |none=>none
  |_,_=>none
 |(i,.rag c _ _) :: l=>match Ad T.h i,svO T l with
  |some (_,.rag cs _ _ _),some r=>match Ew c cs with
   |some x=>some (wT c x :: r)
   |none=>none
  |_,_=>none
 |(i,.own c) :: l=>match Ad T.h i,svO T l with
  |some (_,.own c' m),some r=>some (.slc c' m :: r)
  |some (_,.gone),some r=>some (.slc c [] :: r)
  |none,some r=>some (.slc c [] :: r)
  |_,_=>none
 |(i,.vec c) :: l=>match Ad T.h i,svO T l with
  |some (_,.vec c' m),some r=>some (.slc c' m :: r)
  |_,_=>none
 |(i,.map k v) :: l=>match Ad T.h i,svO T l with
  |some (_,.map k' v' m),some r=>some (.mpv k' v' m :: r)
  |_,_=>none
 |(i,.out _ b) :: l=>match Ad T.h i,svO T l with
  |some (_,.out j m b'),some r=>Ab (Ab b' b true) (some (.ylv j m :: r)) none
  |_,_=>none
 |_ :: l=>svO T l
def rbS(T0:Ap):List (Nat×SH)->List SV->List (Nat×TV)
 |[],_=>[]
 |(i,.k) :: l,v=>(i,Ah T0.t i) :: rbS T0 l v
 |(i,.v _) :: l,x :: v=>(i,.v (.s x)) :: rbS T0 l v
 |(i,.v _) :: l,[]=>rbS T0 l []
 | (i,.c a) :: l,v=>(match ofA1 a with
  |some x=>(i,.v (.s x))
  | none=>(i,.v (.s .top))) :: rbS T0 l v
 |(i,.own id) :: l,v=>(i,.v (.own id T0.nx)) :: rbS T0 l v
 |(i,.owk id) :: l,v=>(i,.v (.own id T0.nx)) :: rbS T0 l v
 |(i,.vec id) :: l,v=>(i,.v (.vec id T0.nx)) :: rbS T0 l v
 |(i,.ptr id off) :: l,v=>(i,.v (.ptr id T0.nx off)) :: rbS T0 l v
 |(i,.mp id) :: l,v=>(i,.v (.mp id T0.nx)) :: rbS T0 l v
def nV:List (Nat×SH)->Nat
 |[]=>0
 |(_,.v _) :: l=>nV l+1
 |_ :: l=>nV l
def rbO(T0:Ap):List (Nat×OH)->List SV->List (Nat×Nat×TO)
 |[],_=>[]
 |(i,.k) :: l,v=>match Ad T0.h i with
  |some p=>(i,p) :: rbO T0 l v
  |none=>(i,T0.nx,.gone) :: rbO T0 l v
 |(i,.gone) :: l,v=>(i,T0.nx,.gone) :: rbO T0 l v
 |(i,.rvec id) :: l,v=>(i,T0.nx,.ref (.vec id T0.nx)) :: rbO T0 l v
 |(i,.rmp id) :: l,v=>(i,T0.nx,.ref (.mp id T0.nx)) :: rbO T0 l v
 |(i,.rown id) :: l,v=>(i,T0.nx,.ref (.own id T0.nx)) :: rbO T0 l v
 | (i,.rag _ k id) :: l,x :: v=>(match x.cells with
  |some cs=>(i,T0.nx,.rag cs k id T0.nx)
  | none=>(i,T0.nx,.gone)) :: rbO T0 l v
 | (i,.box c) :: l,x :: v=>(match x.cells with
  |some cs=>(i,T0.nx,.box cs)
  | none=>(i,T0.nx,.gone)) :: rbO T0 l v
 | (i,.own _) :: l,x :: v=>(match x with
  |.slc c m=>(i,T0.nx,.own c m)
  | _=>(i,T0.nx,.gone)) :: rbO T0 l v
 | (i,.vec _) :: l,x :: v=>(match x with
  |.slc c m=>(i,T0.nx,.vec c m)
  | _=>(i,T0.nx,.gone)) :: rbO T0 l v
 | (i,.map _ _) :: l,x :: v=>(match x with
  |.mpv k w m=>(i,T0.nx,.map k w m)
  | _=>(i,T0.nx,.gone)) :: rbO T0 l v
 | (i,.out _ b) :: l,x :: v=>(match x with
  |.ylv j m=>(i,T0.nx,.out j m b)
  | _=>(i,T0.nx,.gone)) :: rbO T0 l v
 |(i,_) :: l,[]=>(i,T0.nx,.gone) :: rbO T0 l []
def ltK(n:Nat):List (Nat×SH)->Bool
 |[]=>true
 |p :: l=>Ab (Nat.blt p.1 n) (ltK n l) false
def Cw(sl:List (Nat×SH)):List (Nat×TV)->List Nat->List Nat
 |[],w=>w
 |p :: l,w=>Ab (hasK p.1 sl) (Cw sl l w) (p.1 :: Cw sl l w)
def setW:List (Nat×SH)->List Nat->List Nat
 |[],w=>w
 |(_,.k) :: l,w=>setW l w
 |(_,.owk _) :: l,w=>setW l w
 |(i,_) :: l,w=>i :: setW l w
def hasW(i:Nat):List (Nat×SH)->Bool
 |[]=>false
 |(j,.owk _) :: l=>Ab (Nat.beq j i) true (hasW i l)
 |(j,_) :: l=>Ab (Nat.beq j i) false (hasW i l)
def AV:List (Nat×OH)->List Nat->List Nat
 |[],w=>w
 |(_,.k) :: l,w=>AV l w
 |(i,_) :: l,w=>i :: AV l w
def obR(b:Nat):List (Nat×OH)->Bool
 |[]=>true
 |p :: l=>Ab (inR b p.1) (obR b l) false
def arrT(T0 T:Ap)(H:OutH):Option (Row H.cts):=match svS T H.sl,svO T H.ob with
 |some a,some b=>Ab (chS T0 T H.ob H.sl) (Ab (chO T0 T H.ob H.ob) (Ab (MX H.ob T.h) (Ab (MX H.ob T0.h) (Ab (ltK T0.n H.sl) (Ab (Nat.beq T.rf T0.rf) (Ab (obR T0.b H.ob) (Jz H.cts (a++b)) none) none) none) none) none) none) none
 |_,_=>none
def rebT(T0:Ap)(H:OutH)(r:Row H.cts):Ap := ⟨rbS T0 H.sl (rowW H.cts r),rbO T0 H.ob ((rowW H.cts r).drop (nV H.sl)),T0.nx+1,T0.n,[],setW H.sl (Cw H.sl T0.t T0.w),AV H.ob T0.wo,T0.b,T0.rf⟩
def OutT:List OutH->Type
 |[]=>Unit
 |[H]=>Row H.cts
 |H :: l=>Row H.cts⊕OutT l
def isE:OE->Exit->Bool
 |.n,.normal=>true
 |.x i,.exit j=>Nat.beq i j
 |.r,.ret=>true
 |_,_=>false
def OE.ex:OE->Exit
 |.n=>.normal
 |.x i=>.exit i
 |.r=>.ret
def injT(T0:Ap):(l:List OutH)->Exit->Ap->Option (OutT l)
 |[],_,_=>none
 |[H],e,T=>Ab (isE H.e e) (arrT T0 T H) none
 | H :: H' :: l,e,T=>Ab (isE H.e e) (match arrT T0 T H with
  |some r=>some (.inl r)
  |none=>none) (match injT T0 (H' :: l) e T with
  |some r=>some (.inr r)
  | none=>none)
def aftT{U:Type}(T0:Ap)(K:Exit->Ap->Option U):(l:List OutH)->OutT l->Option U
 |[],_=>none
 |[H],r=>K H.e.ex (rebT T0 H r)
 |H :: H' :: l,r=>match r with
  |.inl r=>K H.e.ex (rebT T0 H r)
  |.inr r=>aftT T0 K (H' :: l) r
inductive HT where
 |n
 |s (a b:HT)
 |c (J:Option (List OutH)) (a b:HT)
 |b (J:Option (List OutH)) (h:HT)
 |l (fz:List Nat) (hd:OutH) (J:List OutH) (h:HT)
 |r (fz:List Nat) (hd:OutH) (J:List OutH) (a b:HT)
 |f (fz:List Nat)
def fzH(h:HT)(T:Ap):Ap:=match h with
 |.f fz=>frzA T fz
 |_=>T
def cl0(T:Ap):Ap:=⟨T.t,T.h,T.nx,T.n,[],[],[],T.b,T.rf⟩
def TW{U:Type}(J:Option (List OutH))(T:Ap)(inner:(β:Type)->Ap->(Exit->Ap->Option β)->Option β)(K:Exit->Ap->Option U):Option U:=match J with
 |none=>inner U T K
 |some l=>bd (inner (OutT l) (cl0 T) (injT T l)) (aftT T K l)
def refI(T:Ap):List ARes->List Nat
 |[]=>[]
 |.t _ :: l=>refI T l
 | .c n _ _ :: l=>(match Ah T.t n with
  |.v (.ptr id _ _)=>match Ad T.h id with
   |some (_,.ref (.own i _))=>[i]
   |some (_,.ref (.vec i _))=>[i]
   |some (_,.rag _ _ i _)=>[i]
   |_=>[]
  | _=>[])++refI T l
def frzR(rs:List ARes)(T:Ap):Ap:=frzA T (DE T false true (rs.map fun r=>match r with
 |.t n=>.t n
 | .c n _ _=>.t n)++refI T rs)
def sqOf[TabOk](H:List Fe)(T:Ap)(f:Ac):Option ((i:Nat)×SqV i):=match argP T none f with
 |some (.s (.sqp i z))=>some ⟨i,z⟩
 |some (.s (.fn f 0 caps))=>match J8 f H with
  |some C=>some ⟨C.i,ZM C C.i caps rfl⟩
  |none=>none
 |_=>none
def rnd(T:Ap):Ap:=⟨T.t,T.h,T.nx,T.n,[],[],[],T.b,T.rf+50⟩
def rnA(T:Ap):Ap:=⟨T.t,T.h,T.nx,T.n,T.gs,T.w,T.wo,T.b,T.rf+1⟩
def putP(T:Ap):List Tmp->List SV->Ap
 |p :: ps,v :: vs=>putP ⟨(p,.v (.s v)) :: T.t,T.h,T.nx,T.n,T.gs,p :: T.w,T.wo,T.b,T.rf⟩ ps vs
 |_,_=>T
def psOk(n:Nat):List Tmp->Bool
 |[]=>true
 |p :: ps=>Ab (Nat.blt p n) (psOk n ps) false
def rstS(w:List Nat):List (Nat×TV)->List (Nat×TV)
 |[]=>[]
 |p :: l=>Ab (memN p.1 w) (rstS w l) (p :: rstS w l)
def rstT(w:List Nat)(T:Ap):Ap:=⟨rstS T.w T.t,T.h,T.nx,T.n,T.gs,T.w++w,T.wo,T.b,T.rf⟩
def strT(T:Ap):Ap:=⟨T.t,T.h,T.nx,T.n,T.gs,[],T.wo,T.b,T.rf⟩
def rndW(T:Ap)(H:OutH):List Nat:=setW H.sl (Cw H.sl T.t [])
def Bz[TabOk](H:List Fe)(ty:List (Nat×CT))(rs:List ARes):AX->(U:Type)->HT->Ap->(Exit->Ap->Option U)->Option U
 |.skip,_,_,T,K=>K .normal T
 |.reg false ops _,_,h,T,K=>regT H ty ops (fzH h T) (K .normal)
 | .reg true ops pr,_,_,T,K=>(fun T=>match splY H T [] ops with
  |(_,[])=>CZ H ty ops none T fun T' tr=>Ab (Dn ops pr tr) (K .normal (endT T')) none
  | (a,b)=>Ab (IP pr a.length ops.length) (CZ H ty a none T fun T' tr=>Ab (Dn a pr tr) (regT H ty b (endT T') (K .normal)) none) none) (frzA T (drwF T [] ops))
 |.seq a b,U,h,T,K=>Bz H ty rs a U (match h with | .s x _=>x | _=>.n) T fun e T'=>match e with
  |.normal=>Bz H ty rs b U (match h with | .s _ y=>y | _=>.n) T' K
  |e=>K e T'
 | .cond c a b,U,h,T,K=>TW (match h with | .c J _ _=>J | _=>none) T (fun β T K=>match argP T none c with
  |some (.s (.bool x))=>match c with
   |.c _=>Ab x (Bz H ty rs a β (match h with | .c _ p _=>p | _=>.n) T K) (Bz H ty rs b β (match h with | .c _ _ q=>q | _=>.n) T K)
   |_=>ite' x (Bz H ty rs a β (match h with | .c _ p _=>p | _=>.n) T K) (Bz H ty rs b β (match h with | .c _ _ q=>q | _=>.n) T K)
  | _=>none) K
 |.ret,_,_,T,K=>K .ret (frzR rs T)
 |.exit i,_,_,T,K=>K (.exit i) T
 |.scope c,U,h,T,K=>Bz H ty rs c U h T fun e T'=>match e with
  |.goto _=>none
  |e=>K e T'
 |.label _,_,_,T,K=>K .normal T
 |.any,_,_,_,_=>none
 | .block i c,U,h,T,K=>TW (match h with | .b J _=>J | _=>none) T (fun β T K=>Bz H ty rs c β (match h with | .b _ p=>p | _=>.n) T fun e T'=>match e with
  |.exit j=>Ab (Nat.beq j i) (K .normal T') (K (.exit j) T')
  | e=>K e T') K
 | .loop c,U,.l fz hd J h,T0,K=>(fun T=>match arrT T (cl0 T) hd with
  | some r0=>bd (lp (fun r=>Bz H ty rs c (Row hd.cts⊕OutT J) h (rebT (cl0 T) hd r) fun e T'=>match e with
   |.normal=>match arrT T T' hd with
    |some r=>some (.inl r)
    |none=>none
   |e=>match injT T J e T' with
    |some r=>some (.inr r)
    | none=>none) r0) (aftT T K J)
  | none=>none) (frzA T0 fz)
 |.loop _,_,_,_,_=>none
 | .rfunc f ps a b,U,.r fz hd J ha hb,T0,K=>(fun T=>match sqOf H T f with
  |some z=>match arrT (rnd T) (rnd T) hd with
   | some r0=>Ab (Nat.beq T.b 0) (Ab (Nat.blt T.rf 50) (Ab (Nat.beq ps.length (Tab.fa z.1).length) (Ab (psOk T.n ps)
     (bd (z.2.g fun l=>D5 (fun x r=>Bz H ty rs a (Row hd.cts⊕OutT J) ha (putP (strT (rebT (rnd T) hd r)) ps (rowW (Tab.fa z.1) (cast (Tab.eA z.1).symm x))) fun e T'=>match e with
       |.normal=>Bz H ty rs b (Row hd.cts⊕OutT J) hb T' fun e T'=>match e with
        |.normal=>match arrT (rnd T) (rstT (rndW T hd) T') hd with
         |some r=>some (.inl r)
         |none=>none
        |e=>match injT (rnd T) J e (rstT (rndW T hd) T') with
         |some r=>some (.inr r)
         |none=>none
       |_=>none) l r0) fun l=>bd (BG (fun x r=>Bz H ty rs a (Row hd.cts⊕OutT J) ha (putP (strT (rebT (rnd T) hd r)) ps (rowW (Tab.fa z.1) (cast (Tab.eA z.1).symm x))) fun e T'=>match e with
       |.normal=>Bz H ty rs b (Row hd.cts⊕OutT J) hb T' fun e T'=>match e with
        |.normal=>match arrT (rnd T) (rstT (rndW T hd) T') hd with
         |some r=>some (.inl r)
         |none=>none
        |e=>match injT (rnd T) J e (rstT (rndW T hd) T') with
         |some r=>some (.inr r)
         |none=>none
       | _=>none) l r0) fun o=>match o with
      |.inl r=>K .normal (rebT (rnA T) hd r)
      | .inr q=>aftT (rnA T) K J q) none) none) none) none
   |none=>none
  | none=>none) (frzA T0 fz)
 |.rfunc _ _ _ _,_,_,_,_=>none
def resS(T:Ap):List ARes->Option (List SV)
 |[]=>some []
 |.t n :: l=>match Ah T.t n,resS T l with
  |.v (.s v),some r=>some (v :: r)
  |_,_=>none
 |.c n agg sz :: l=>match Ah T.t n,resS T l with
  |.v (.ptr id st 0),some r=>match Ad T.h id with
   |some (st',.box cs)=>Ab (Nat.beq st st') (Ab (Nat.beq sz cs.length) (Ab (Ab agg true (Nat.beq sz 1)) (some (ldS agg sz cs 0 :: r)) none) none) none
   |_=>none
  |_,_=>none
def resT[TabOk](H:List Fe)(rs:List ARes)(cs:List CT)(e:Exit)(T:Ap):Option (Row cs):=match e with
 |.ret=>match resS T rs with
  |some l=>DB H cs [] l
  |none=>none
 |_=>none
def zipS:Nat->List SV->List (Nat×TV)
 |_,[]=>[]
 |i,x :: l=>(i,.v (.s x)) :: zipS (i+1) l
def iniT(n:Nat)(a:List CT)(p:List Bool)(x:Row a):Ap:=⟨zipS 0 (prmS a p x),[],0,n,[],[],[],0,0⟩
def funT[TabOk](H:List Fe)(ty:List (Nat×CT))(rs:List ARes)(n:Nat)(c:AX)(h:HT)(C:Fc)(x:Row C.a):Option (Row C.r):=Bz H ty rs c _ h (iniT n C.a C.p x) (resT H rs C.r)
def iniY(n:Nat)(a:List CT)(p:List Bool)(x:Row a)(i:Nat)(st:List (TabT.FA i)->Option Bool):Ap:=⟨(0,.v (.yl i st)) :: zipS 1 (prmS a p x),[(1899,0,.out i [] false)],1,n,[],[],[],1000,0⟩
def outT(i:Nat)(e:Exit)(T:Ap):Option (List (TabT.FA i)):=match e with
 |.ret=>outR T
 |.normal=>outR T
 |_=>none
where
 outR (T:Ap):Option (List (TabT.FA i)):=match Ad T.h 1899 with
  |some (_,.out j l _)=>JF j i l
  |_=>none
def itrT[TabOk](H:List Fe)(ty:List (Nat×CT))(n:Nat)(c:AX)(h:HT)(C:Sc)(x:Row C.a)(st:List (TabT.FA C.i)->Option Bool):Option (List (TabT.FA C.i)):=Bz H ty [] c _ h (iniY n C.a C.p x C.i st) (outT C.i)
def resQ[TabOk](S:Sk)(rs:List ARes)(e:Exit)(T:Ap):Option (Row S.a):=match e with
 |.ret=>match resS T rs with
  |some [.fn f 0 caps]=>Ab (Nat.beq f S.f) (MM S.a S.p caps) none
  |_=>none
 |_=>none
def funQ[TabOk](H:List Fe)(ty:List (Nat×CT))(rs:List ARes)(n:Nat)(c:AX)(h:HT)(Q:Qc)(x:Row Q.a):Option (Row Q.S.a):=Bz H ty rs c _ h (iniT n Q.a Q.p x) (resQ Q.S rs)
end
end Go.Am

