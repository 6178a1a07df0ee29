/- Part T1 of the proof that the last part closes: a typed interpreter of abstract code, proved sound over the machine. No condition. -/
import Derived.Test.YtpflinpbkifmhaaGreatDoorX1
import Derived.KernelRfl
set_option linter.unusedVariables false
set_option linter.unusedSimpArgs false
namespace Go.Am
inductive CT where
 | int (k:IntKind) | bool | str
 | slc (c:CT)
 | us (i:Nat)
class TabT where
 T:Nat→Type
section
variable [TabT]
def CT.T:CT→Type
 | .int _=>Int
 | .bool=>Bool
 | .str=>List UInt8
 | .slc c=>List c.T
 | .us i=>TabT.T i
def RowC (t:Type):List CT→Type
 | []=>t
 | d :: l=>t×RowC d.T l
def Row:List CT→Type
 | []=>Unit
 | c :: l=>RowC c.T l
inductive SV where
 | int (k:IntKind) (n:Int) | bool (b:Bool) | str (s:List UInt8)
 | nil
 | slc (c:CT) (l:List c.T)
 | agg (l:List SV) | tup (l:List SV)
 | cptr (l:List SV) (off:Nat)
 | fn (f:FuncId) (nb:Nat) (caps:List SV)
 | top
def CT.cast:(c c':CT)→Option (PLift (c=c'))
 | .int k,.int k'=>if h:k=k' then some ⟨by rw [h]⟩ else none
 | .bool,.bool=>some ⟨rfl⟩
 | .str,.str=>some ⟨rfl⟩
 | .slc c,.slc c'=>match CT.cast c c' with
  | some ⟨h⟩=>some ⟨by rw [h]⟩
  | none=>none
 | .us i,.us j=>if h:i=j then some ⟨by rw [h]⟩ else none
 | _,_=>none
def wzmw (c c':CT) (l:List c.T):Option (List c'.T):=match CT.cast c c' with
 | some ⟨h⟩=>some (h▸l)
 | none=>none
def lfT:(c:CT)→c.T→SV
 | .int k,n=>.int k n
 | .bool,b=>.bool b
 | .str,s=>.str s
 | .slc c,l=>.slc c l
 | .us _,_=>.top
def wzp8 (c:CT):(l:List CT)→RowC c.T l→List SV
 | [],x=>[lfT c x]
 | d :: l,x=>lfT c x.1 :: wzp8 d l x.2
def rowS:(l:List CT)→Row l→List SV
 | [],_=>[]
 | c :: l,x=>wzp8 c l x
def ofI (k:IntKind):SV→Option Int
 | .int k' n=>if k=k' then some n else none
 | _=>none
def ofBT:SV→Option Bool
 | .bool b=>some b
 | _=>none
def wzon:SV→Option (List UInt8)
 | .str s=>some s
 | _=>none
def ofSl (c:CT):SV→Option (List c.T)
 | .slc c' l=>wzmw c' c l
 | .nil=>some []
 | _=>none
def ofLf:(c:CT)→SV→Option c.T
 | .int k=>ofI k
 | .bool=>ofBT
 | .str=>wzon
 | .slc c=>ofSl c
 | .us _=>fun _=>none
def wzly {t:Type} (f:SV→Option t):List SV→Option t
 | [v]=>f v
 | _=>none
def wznb {t u:Type} (f:SV→Option t) (g:List SV→Option u):List SV→Option (t×u)
 | []=>none
 | v :: r=>match f v,g r with
  | some a,some b=>some (a,b)
  | _,_=>none
def wzor:List SV→Option Unit
 | []=>some ()
 | _=>none
def wzoo (c:CT):(l:List CT)→List SV→Option (RowC c.T l)
 | []=>wzly (ofLf c)
 | d :: l=>wznb (ofLf c) (wzoo d l)
def wzuk:(l:List CT)→List SV→Option (Row l)
 | []=>wzor
 | c :: l=>wzoo c l
end
class Tab extends TabT where
 ls:Nat→List CT
 mkS:(i:Nat)→Row (ls i)→T i
 unS:(i:Nat)→T i→Row (ls i)
 inh:(i:Nat)→Inhabited (T i)
 cA:(i:Nat)→T i→List AVal
section
variable [Tab]
def CT.n:CT→Nat
 | .us i=>(Tab.ls i).length
 | _=>1
def CT.cA:(c:CT)→c.T→List AVal
 | .int k=>cI k
 | .bool=>cB
 | .str=>cS
 | .slc c=>cL c.n c.cA
 | .us i=>Tab.cA i
mutual
def emS:SV→AVal
 | .int k n=>.int k n
 | .bool b=>.bool b
 | .str s=>.str s
 | .nil=>.nils
 | .slc c l=>slcV c.n c.cA l
 | .agg l=>.agg (emL l)
 | .tup l=>.tup (emL l)
 | .cptr l off=>.cptr (fun k=>(emL l).getD k .top) l.length off
 | .fn f nb l=>.fn f nb (emL l)
 | .top=>.top
def emL:List SV→List AVal
 | []=>[]
 | x :: l=>emS x :: emL l
end
class TabOk:Prop where
 unmk:∀ (i:Nat) (r:Row (Tab.ls i)),Tab.unS i (Tab.mkS i r)=r
 cells:∀ (i:Nat) (x:TabT.T i),Tab.cA i x=emL (rowS (Tab.ls i) (Tab.unS i x))
 nor:∀ (i:Nat) (x:TabT.T i) (v:AVal),v∈Tab.cA i x→qzt v
 pos:∀ i,∀ c∈Tab.ls i,∀ j,c≠.us j
instance CT.inh:(c:CT)→Inhabited c.T
 | .int _=>(inferInstance:Inhabited Int)
 | .bool=>(inferInstance:Inhabited Bool)
 | .str=>(inferInstance:Inhabited (List UInt8))
 | .slc c=>(inferInstance:Inhabited (List c.T))
 | .us i=>Tab.inh i
@[reducible] def wzra (c:CT):(l:List CT)→Inhabited (RowC c.T l)
 | []=>c.inh
 | d :: l=>@instInhabitedProd _ _ c.inh (wzra d l)
instance rowInh:(l:List CT)→Inhabited (Row l)
 | []=>(inferInstance:Inhabited Unit)
 | c :: l=>wzra c l
def wT:(c:CT)→c.T→SV
 | .int k,n=>.int k n
 | .bool,b=>.bool b
 | .str,s=>.str s
 | .slc c,l=>.slc c l
 | .us i,x=>.agg (rowS (Tab.ls i) (Tab.unS i x))
def wzo5 (i:Nat) (l:List SV):Option (TabT.T i):=match wzuk (Tab.ls i) l with
 | some r=>some (Tab.mkS i r)
 | none=>none
def ofAg (i:Nat):SV→Option (TabT.T i)
 | .agg l=>wzo5 i l
 | _=>none
def ofW:(c:CT)→SV→Option c.T
 | .us i=>ofAg i
 | .int k=>ofI k
 | .bool=>ofBT
 | .str=>wzon
 | .slc c=>ofSl c
def wzov (c:CT):(l:List CT)→RowC c.T l→List SV
 | [],x=>[wT c x]
 | d :: l,x=>wT c x.1 :: wzov d l x.2
def rowW:(l:List CT)→Row l→List SV
 | [],_=>[]
 | c :: l,x=>wzov c l x
def wzl3 (c:CT):(l:List CT)→List SV→Option (RowC c.T l)
 | []=>wzly (ofW c)
 | d :: l=>wznb (ofW c) (wzl3 d l)
def wzmq:(l:List CT)→List SV→Option (Row l)
 | []=>wzor
 | c :: l=>wzl3 c l
def wzj2:(c:CT)→c.T→List SV
 | .us i,x=>rowS (Tab.ls i) (Tab.unS i x)
 | .int k,n=>[.int k n]
 | .bool,b=>[.bool b]
 | .str,s=>[.str s]
 | .slc c,l=>[.slc c l]
def wzlh:(c:CT)→List SV→Option c.T
 | .us i=>wzo5 i
 | .int k=>wzly (ofI k)
 | .bool=>wzly ofBT
 | .str=>wzly wzon
 | .slc c=>wzly (ofSl c)
def SV.cells:SV→Option (List SV)
 | .agg l=>some l
 | .tup _=>none
 | .top=>none
 | x=>some [x]
def retT:(l:List CT)→Row l→SV
 | [c],x=>wT c x
 | l,x=>.tup (rowW l x)
end
end Go.Am

set_option linter.unusedVariables false
set_option linter.unusedSimpArgs false
namespace Go.Am
universe u
def tall:Unit:=(fun _=>()) (lp (fun (n:Nat)=>some (.inr (α:=Nat) n)) 0)
def kond {α:Sort u} (c:Bool) (x y:α):α:=match c,tall with
 | true,_=>x
 | false,_=>y
theorem wzzt {α:Sort u} (x y:α):kond true x y=x:=rfl
theorem wzzu {α:Sort u} (x y:α):kond false x y=y:=rfl
section
variable [Tab]
inductive PV where
 | s (v:SV)
 | ptr (id st off:Nat)
 | eptr (id st:Nat) (j:Int) (off:Nat) (c:CT) (x:c.T)
 | vec (id st:Nat)
 | vs (id st:Nat) (lo hi:Int)
 | own (id st:Nat)
inductive TV where
 | v (x:PV)
 | cnd (tg:Nat) (want g:Bool) (x:PV)
inductive TO where
 | gone
 | box (cs:List SV)
 | vec (c:CT) (l:List c.T)
 | own (c:CT) (l:List c.T)
structure TSt where
 t:List (Nat×TV)
 h:List (Nat×Nat×TO)
 nx:Nat
 n:Nat
 gs:List Nat
 w:List Nat
 wo:List Nat
def wzin:List (Nat×TV)→Nat→TV
 | [],_=>.v (.s .top)
 | p :: l,i=>kond (Nat.beq p.1 i) p.2 (wzin l i)
def wzip:List (Nat×Nat×TO)→Nat→Option (Nat×TO)
 | [],_=>none
 | p :: l,i=>kond (Nat.beq p.1 i) (some p.2) (wzip l i)
def memN (i:Nat):List Nat→Bool
 | []=>false
 | j :: l=>kond (Nat.beq j i) true (memN i l)
abbrev Gd:=Option (Nat×Bool×Bool)
def eqB (a b:Bool):Bool:=kond a b (!b)
def ofA1:AVal→Option SV
 | .int k n=>some (.int k n)
 | .bool b=>some (.bool b)
 | .str s=>some (.str s)
 | .nils=>some .nil
 | _=>none
def ofAL:List AVal→Option (List SV)
 | []=>some []
 | x :: l=>match ofA1 x,ofAL l with
  | some a,some b=>some (a :: b)
  | _,_=>none
def ofA:AVal→Option SV
 | .agg l=>match ofAL l with
  | some l=>some (.agg l)
  | none=>none
 | .fn f nb []=>some (.fn f nb [])
 | .top=>some .top
 | x=>ofA1 x
def argP (T:TSt) (G:Gd):AArg→Option PV
 | .t n=>match wzin T.t n with
  | .v x=>some x
  | .cnd tg want _ x=>match G with
   | some (tg',want',_)=>kond (Nat.beq tg tg') (kond (eqB want want') (some x) none) none
   | none=>none
 | .c v=>match ofA v with
  | some v=>some (.s v)
  | none=>none
 | .g _=>none
def wznn (T:TSt) (G:Gd):List AArg→Option (List SV)
 | []=>some []
 | x :: l=>match argP T G x,wznn T G l with
  | some (.s v),some r=>some (v :: r)
  | _,_=>none
structure Fc where
 f:FuncId
 a:List CT
 p:List Bool
 r:List CT
 F:Row a→Option (Row r)
def ofP (c:CT):Bool→SV→Option c.T
 | false,v=>ofW c v
 | true,.cptr l 0=>wzlh c l
 | _,_=>none
def wzns (c:CT):(l:List CT)→List Bool→List SV→Option (RowC c.T l)
 | [],p=>wzly (ofP c (p.headD false))
 | d :: l,p=>wznb (ofP c (p.headD false)) (wzns d l p.tail)
def wzox:(l:List CT)→List Bool→List SV→Option (Row l)
 | [],_=>wzor
 | c :: l,p=>wzns c l p
def wzno (f:FuncId):List Fc→Option Fc
 | []=>none
 | C :: l=>kond (Nat.beq C.f f) (some C) (wzno f l)
section
variable {α:Type}
def ckg (G:Gd) (c:Bool) (X:Option α):Option α:=match G with
 | none=>ck c X
 | some (_,_,g)=>ck (!g||c) X
def bdg {β:Type} [Inhabited β] (G:Gd) (x:Option β) (K:β→Option α):Option α:=match G with
 | none=>bd x K
 | some (_,_,g)=>bd (gd g x) K
def ckS (G:Gd) (k:IntKind) (n:Int) (K:PV→List Nat→Option α):Option α:=match k with
 | .i8=>ckg G (inB .i8 n) (K (.s (.int .i8 n)) [])
 | .i16=>ckg G (inB .i16 n) (K (.s (.int .i16 n)) [])
 | .i32=>ckg G (inB .i32 n) (K (.s (.int .i32 n)) [])
 | .i64=>ckg G (inB .i64 n) (K (.s (.int .i64 n)) [])
 | .u8=>K (.s (.int .u8 (n%256))) []
 | .u16=>K (.s (.int .u16 (n%65536))) []
 | .u32=>K (.s (.int .u32 (n%4294967296))) []
 | .u64=>K (.s (.int .u64 (n%18446744073709551616))) []
def ckl (G:Gd) (lit c:Bool) (X:Option α):Option α:=kond lit (kond c X none) (ckg G c X)
def binI (G:Gd) (op:BinOp) (k:IntKind) (a b:Int) (lit:Bool) (K:PV→List Nat→Option α):Option α:=match op with
 | .add=>ckS G k (a+b) K
 | .sub=>ckS G k (a - b) K
 | .mul=>ckS G k (a*b) K
 | .quo=>ckl G lit (!decide (b=0)) (ckS G k (a.tdiv b) K)
 | .rem=>ckl G lit (!decide (b=0)) (K (.s (.int k (a.tmod b))) [])
 | .and=>K (.s (.int k (bitI .and k a b))) []
 | .or=>K (.s (.int k (bitI .or k a b))) []
 | .xor=>K (.s (.int k (bitI .xor k a b))) []
 | .andNot=>K (.s (.int k (bitI .andNot k a b))) []
 | .eql=>K (.s (.bool (decide (a=b)))) []
 | .neq=>K (.s (.bool (!decide (a=b)))) []
 | .lss=>K (.s (.bool (decide (a < b)))) []
 | .leq=>K (.s (.bool (decide (a≤b)))) []
 | .gtr=>K (.s (.bool (decide (b < a)))) []
 | .geq=>K (.s (.bool (decide (b≤a)))) []
 | _=>none
def wzry (G:Gd) (op:BinOp) (k:IntKind) (a b:Int) (lit:Bool) (K:PV→List Nat→Option α):Option α:=match op with
 | .shl=>ckl G lit (decide (0≤b)) (ckS G k (a*2 ^ min b.toNat k.bits) K)
 | .shr=>ckl G lit (decide (0≤b)) (K (.s (.int k (a.fdiv (2 ^ min b.toNat k.bits)))) [])
 | _=>none
def binS (G:Gd) (op:BinOp) (a b:List UInt8) (K:PV→List Nat→Option α):Option α:=match op with
 | .add=>ckg G (decide (List.length a+List.length b≤4611686018427387904)) (K (.s (.str (a++b))) [])
 | .eql=>K (.s (.bool (decide (a=b)))) []
 | .neq=>K (.s (.bool (!decide (a=b)))) []
 | .lss=>K (.s (.bool (Op.bytesLess a b))) []
 | .leq=>K (.s (.bool (Op.bytesLess a b||decide (a=b)))) []
 | .gtr=>K (.s (.bool (!(Op.bytesLess a b||decide (a=b))))) []
 | .geq=>K (.s (.bool (!Op.bytesLess a b))) []
 | _=>none
def oneS:List SV→Bool
 | []=>true
 | .agg _ :: _=>false
 | .tup _ :: _=>false
 | .top :: _=>false
 | _ :: l=>oneS l
def wzub:AArg→Bool
 | .c _=>true
 | _=>false
def ldS (agg:Bool) (sz:Nat) (l:List SV) (off:Nat):SV:=kond agg (.agg ((l.drop off).take sz)) (l.getD off .top)
def layS (l:List SV) (off:Nat) (p:List SV):List SV:=l.take off++p++l.drop (off+p.length)
def wzmp (T:TSt) (G:Gd):List SV→List (Nat×Nat×AArg)→Option (List SV)
 | l,[]=>some l
 | l,(off,sz,x) :: r=>match argP T G x with
  | some (.s v)=>match v.cells with
   | some p=>kond (Nat.beq p.length sz) (kond (Nat.ble (off+sz) l.length) (wzmp T G (layS l off p) r) none) none
   | none=>none
  | _=>none
def eqS:List SV→List SV→Option Bool
 | [],[]=>some true
 | x :: l,y :: m=>match x,y,eqS l m with
  | .int k a,.int k' b,some e=>if k=k' then some (decide (a=b)&&e) else none
  | .bool a,.bool b,some e=>some ((a==b)&&e)
  | .str a,.str b,some e=>some (decide (a=b)&&e)
  | _,_,_=>none
 | _,_=>none
def wzqb:SV→Nat
 | .bool _=>0
 | .int _ _=>1
 | .str _=>2
 | _=>3
def wznt:List SV→List Nat→Bool
 | [],[]=>true
 | x :: l,n :: m=>kond (Nat.beq (wzqb x) n) (wznt l m) false
 | _,_=>false
def bndS (T:TSt) (G:Gd) (d:Int):Option AArg→Option Int
 | none=>some d
 | some a=>match argP T G a with
  | some (.s (.int _ n))=>some n
  | _=>none
def wzrs {α:Type}:Nat→List α→Bool
 | _,[]=>true
 | 0,_ :: _=>false
 | n+1,_ :: l=>wzrs n l
def litN:Int→Option Nat
 | .ofNat n=>some n
 | _=>none
def v_mv (H:List Fc) (T:TSt) (G:Gd) (x:AArg) (K:PV→List Nat→Option α):Option α:=match argP T G x with
 | some p=>K p []
 | none=>none
def wznp (T:TSt) (G:Gd) (n:Nat) (w:Bool) (a:AArg):Option PV:=match G with
 | none=>argP T (some (n,w,w)) a
 | some g=>match argP T (some g) a with
  | some p=>some p
  | none=>argP T (some (n,w,w)) a
def wzm8 (H:List Fc) (T:TSt) (G:Gd) (c x y:AArg) (K:PV→List Nat→Option α):Option α:=match c with
 | .t n=>match argP T G (.t n) with
  | some (.s (.bool b))=>match wznp T G n true x,wznp T G n false y with
   | some (.s (.bool p)),some (.s (.bool q))=>K (.s (.bool (bif b then p else q))) []
   | some (.s (.int k p)),some (.s (.int k' q))=>kond (decide (k=k')) (K (.s (.int k (bif b then p else q))) []) none
   | _,_=>none
  | _=>none
 | _=>none
def wzrz (H:List Fc) (T:TSt) (G:Gd) (op:BinOp) (bools:Bool) (x y:AArg) (K:PV→List Nat→Option α):Option α:=match argP T G x,argP T G y with
 | some (.s (.int k a)),some (.s (.int k' b))=>kond (qzvy op) (wzry G op k a b (wzub y) K) (kond (decide (k=k')) (binI G op k a b (wzub y) K) none)
 | some (.s (.str a)),some (.s (.str b))=>binS G op a b K
 | some (.s (.bool a)),some (.s (.bool b))=>match bools,op with
  | true,.eql=>K (.s (.bool (a==b))) []
  | true,.neq=>K (.s (.bool (!(a==b)))) []
  | _,_=>none
 | _,_=>none
def wzsb (H:List Fc) (T:TSt) (G:Gd) (x:AArg) (K:PV→List Nat→Option α):Option α:=match argP T G x with
 | some (.s (.bool b))=>K (.s (.bool (!b))) []
 | _=>none
def wzrx (H:List Fc) (T:TSt) (G:Gd) (x:AArg) (K:PV→List Nat→Option α):Option α:=match argP T G x with
 | some (.s (.int k n))=>ckS G k (-n) K
 | _=>none
def wzqj (H:List Fc) (T:TSt) (G:Gd) (agg:Bool) (sz:Nat) (x:AArg) (K:PV→List Nat→Option α):Option α:=match argP T G x with
 | some (.ptr id st off)=>match wzip T.h id with
  | some (st',.box cs)=>kond (Nat.beq st st') (kond (Nat.ble (off+sz) cs.length) (kond (kond agg true (Nat.beq sz 1)) (K (.s (ldS agg sz cs off)) [id]) none) none) none
  | _=>none
 | some (.eptr id st j off c x)=>match wzip T.h id with
  | some (st',.vec c' l)=>kond (Nat.beq st st') (kond (Nat.ble (off+sz) c.n) (kond (kond agg true (Nat.beq sz 1)) (K (.s (ldS agg sz (wzj2 c x) off)) [id]) none) none) none
  | _=>none
 | some (.s (.cptr l off))=>kond (Nat.ble (off+sz) l.length) (kond (kond agg true (Nat.beq sz 1)) (K (.s (ldS agg sz l off)) []) none) none
 | _=>none
def wzpq (H:List Fc) (T:TSt) (G:Gd) (x:AArg) (K:PV→List Nat→Option α):Option α:=match argP T G x with
 | some (.s (.cptr l off))=>K (.s (.cptr l off)) []
 | some (.s (.fn f nb l))=>K (.s (.fn f nb l)) []
 | some (.ptr id st off)=>match wzip T.h id with
  | some (st',_)=>kond (Nat.beq st st') (K (.ptr id st off) [id]) none
  | none=>none
 | _=>none
def wzql (H:List Fc) (T:TSt) (G:Gd) (k:IntKind) (x:AArg) (K:PV→List Nat→Option α):Option α:=match argP T G x with
 | some (.s (.int _ n))=>ckS G k n K
 | _=>none
def wzq1 (H:List Fc) (T:TSt) (G:Gd) (f:FuncId) (nb:Nat) (caps:List AArg) (K:PV→List Nat→Option α):Option α:=match wznn T G caps with
 | some l=>K (.s (.fn f nb l)) []
 | none=>none
def wzpf (H:List Fc) (T:TSt) (G:Gd) (isStr:Bool) (st:Nat) (x:AArg) (lo hi:Option AArg) (K:PV→List Nat→Option α):Option α:=match bndS T G 0 lo with
 | none=>none
 | some l=>match isStr,argP T G x with
  | false,some (.s (.slc c m))=>match bndS T G (List.length m:Int) hi with
   | some r=>kond (Nat.beq c.n st) (ckg G (kzy m l r) (K (.s (.slc c (sub m l r))) [])) none
   | none=>none
  | false,some (.vec id vst)=>match wzip T.h id with
   | some (st',.vec c m)=>match bndS T G (List.length m:Int) hi with
    | some r=>kond (Nat.beq vst st') (kond (Nat.beq c.n st) (ckg G (kzy m l r) (K (.vs id vst l r) [id])) none) none
    | none=>none
   | _=>none
  | true,some (.s (.str s))=>match bndS T G (List.length s:Int) hi with
   | some r=>ckg G (kzy s l r) (K (.s (.str (sub s l r))) [])
   | none=>none
  | _,_=>none
def wzpu (H:List Fc) (T:TSt) (G:Gd) (off:Nat) (x:AArg) (K:PV→List Nat→Option α):Option α:=match argP T G x with
 | some (.ptr id st o)=>match wzip T.h id with
  | some (st',_)=>kond (Nat.beq st st') (K (.ptr id st (o+off)) [id]) none
  | none=>none
 | some (.eptr id st j o c x)=>match wzip T.h id with
  | some (st',_)=>kond (Nat.beq st st') (K (.eptr id st j (o+off) c x) [id]) none
  | none=>none
 | some (.s (.cptr l o))=>K (.s (.cptr l (o+off))) []
 | _=>none
def wzoh (H:List Fc) (T:TSt) (G:Gd) (st:Nat) (x i:AArg) (K:PV→List Nat→Option α):Option α:=match argP T G x,argP T G i with
 | some (.s (.slc c l)),some (.s (.int _ j))=>kond (Nat.beq c.n st) (@bdg α c.T c.inh G (at? l j) fun v=>K (.s (.cptr (wzj2 c v) 0)) []) none
 | some (.vec id vst),some (.s (.int _ j))=>match wzip T.h id with
  | some (st',.vec c l)=>kond (Nat.beq vst st') (kond (Nat.beq c.n st) (@bdg α c.T c.inh G (at? l j) fun v=>K (.eptr id vst j 0 c v) [id]) none) none
  | _=>none
 | _,_=>none
def wzoe (H:List Fc) (T:TSt) (G:Gd) (nn st:Nat) (x i:AArg) (K:PV→List Nat→Option α):Option α:=match argP T G x,argP T G i with
 | some (.ptr id pst o),some (.s (.int _ j))=>match wzip T.h id,litN j with
  | some (st',_),some n=>kond (Nat.beq pst st') (kond (Nat.blt n nn) (K (.ptr id pst (o+n*st)) [id]) none) none
  | _,_=>none
 | some (.s (.cptr l o)),some (.s (.int _ j))=>match litN j with
  | some n=>kond (Nat.blt n nn) (K (.s (.cptr l (o+n*st))) []) none
  | none=>none
 | _,_=>none
def wzpg (H:List Fc) (T:TSt) (G:Gd) (agg:Bool) (off sz:Nat) (x:AArg) (K:PV→List Nat→Option α):Option α:=match argP T G x with
 | some (.s (.agg l))=>kond (Nat.ble (off+sz) l.length) (kond (kond agg true (Nat.beq sz 1)) (K (.s (ldS agg sz l off)) []) none) none
 | _=>none
def wzng (H:List Fc) (T:TSt) (G:Gd) (i:Nat) (x:AArg) (K:PV→List Nat→Option α):Option α:=match argP T G x with
 | some (.s (.tup l))=>kond (Nat.blt i l.length) (K (.s (l.getD i .top)) []) none
 | _=>none
def wzqo (H:List Fc) (T:TSt) (G:Gd) (x i:AArg) (K:PV→List Nat→Option α):Option α:=match argP T G x,argP T G i with
 | some (.s (.str s)),some (.s (.int _ j))=>ckg G (qzf7 s j) (K (.s (.int .u8 (wzw s j))) [])
 | _,_=>none
def wzrv (H:List Fc) (T:TSt) (G:Gd) (isStr:Bool) (x:AArg) (K:PV→List Nat→Option α):Option α:=match isStr,argP T G x with
 | false,some (.s (.slc _ l))=>K (.s (.int .i64 (List.length l:Int))) []
 | false,some (.s .nil)=>K (.s (.int .i64 0)) []
 | false,some (.vec id vst)=>match wzip T.h id with
  | some (st',.vec _ l)=>kond (Nat.beq vst st') (K (.s (.int .i64 (List.length l:Int))) [id]) none
  | _=>none
 | true,some (.s (.str s))=>K (.s (.int .i64 (List.length s:Int))) []
 | _,_=>none
def wzpv (H:List Fc) (T:TSt) (G:Gd) (sh:List Nat) (ng:Bool) (x y:AArg) (K:PV→List Nat→Option α):Option α:=match argP T G x,argP T G y with
 | some (.s (.agg l)),some (.s (.agg m))=>match eqS l m with
  | some e=>kond (wznt l sh) (K (.s (.bool (kond ng (!e) e))) []) none
  | none=>none
 | _,_=>none
def wzru (H:List Fc) (T:TSt) (G:Gd) (x y:AArg) (K:PV→List Nat→Option α):Option α:=match argP T G x,argP T G y with
 | some (.s (.int k a)),some (.s (.int k' b))=>kond (decide (k=k')) (K (.s (.int k (Max.max a b))) []) none
 | _,_=>none
def wzr7 (H:List Fc) (T:TSt) (G:Gd) (x y:AArg) (K:PV→List Nat→Option α):Option α:=match argP T G x,argP T G y with
 | some (.s (.int k a)),some (.s (.int k' b))=>kond (decide (k=k')) (K (.s (.int k (Min.min a b))) []) none
 | _,_=>none
def wzpw (H:List Fc) (T:TSt) (G:Gd) (zero:List AVal) (ps:List (Nat×Nat×AArg)) (K:PV→List Nat→Option α):Option α:=match ofAL zero with
 | some z=>match wzmp T G z ps with
  | some l=>K (.s (.agg l)) []
  | none=>none
 | none=>none
def wzrw (H:List Fc) (T:TSt) (G:Gd) (x:AArg) (K:PV→List Nat→Option α):Option α:=match argP T G x with
 | some (.s (.slc (.int .u8) l))=>K (.s (.str (vzg l))) []
 | some (.vec id vst)=>match wzip T.h id with
  | some (st',.vec (.int .u8) l)=>kond (Nat.beq vst st') (K (.s (.str (vzg l))) [id]) none
  | _=>none
 | _=>none
def wzn0 (H:List Fc) (T:TSt) (G:Gd) (f:FuncId) (ags:List AArg) (K:PV→List Nat→Option α):Option α:=match wzno f H,wznn T G ags with
 | some C,some vs=>match wzox C.a C.p vs with
  | some r=>bdg G (C.F r) fun x=>K (.s (retT C.r x)) []
  | none=>none
 | _,_=>none
def wznr (H:List Fc) (T:TSt) (G:Gd) (x:AArg) (ags:List AArg) (K:PV→List Nat→Option α):Option α:=match argP T G x,wznn T G ags with
 | some (.s (.fn f nb caps)),some vs=>match wzno f H with
  | some C=>match wzox C.a C.p (fnArgs nb vs caps) with
   | some r=>bdg G (C.F r) fun x=>K (.s (retT C.r x)) []
   | none=>none
  | none=>none
 | _,_=>none
def wznj (c:CT) (st:Nat):Nat→List SV→Option (List c.T)
 | 0,_=>some []
 | n+1,l=>match wzlh c (l.take st),wznj c st n (l.drop st) with
  | some x,some r=>some (x :: r)
  | _,_=>none
def wzi5 (s:Nat):List (Nat×CT)→CT
 | []=>.bool
 | p :: l=>kond (Nat.beq p.1 s) p.2 (wzi5 s l)
def wzn6 (ty:List (Nat×CT)) (T:TSt) (G:Gd) (s st nn:Nat) (zero:List AVal) (ps:List (Nat×Nat×AArg)) (K:PV→List Nat→Option α):Option α:=match ofAL zero with
 | some z=>match wzmp T G z ps with
  | some l=>kond (Nat.beq l.length (nn*st)) (kond (Nat.beq (wzi5 s ty).n st) (kond (Nat.blt 0 st) (match wznj (wzi5 s ty) st nn l with
   | some m=>K (.s (.slc (wzi5 s ty) m)) [s]
   | none=>none) none) none) none
  | none=>none
 | none=>none
def opV (H:List Fc) (ty:List (Nat×CT)) (T:TSt) (G:Gd) (o:AOp) (K:PV→List Nat→Option α):Option α:=match o with
 | .mv x=>v_mv H T G x K
 | .pick c x y=>wzm8 H T G c x y K
 | .bin op bools x y=>wzrz H T G op bools x y K
 | .not x=>wzsb H T G x K
 | .neg x=>wzrx H T G x K
 | .load agg sz x=>wzqj H T G agg sz x K
 | .nilck x=>wzpq H T G x K
 | .conv k x=>wzql H T G k x K
 | .mkfn f nb caps=>wzq1 H T G f nb caps K
 | .slice isStr st x lo hi=>wzpf H T G isStr st x lo hi K
 | .faddr off x=>wzpu H T G off x K
 | .iaddrS st x i=>wzoh H T G st x i K
 | .iaddrA nn st x i=>wzoe H T G nn st x i K
 | .field agg off sz x=>wzpg H T G agg off sz x K
 | .extract i x=>wzng H T G i x K
 | .sidx x i=>wzqo H T G x i K
 | .len isStr x=>wzrv H T G isStr x K
 | .eqagg sh ng x y=>wzpv H T G sh ng x y K
 | .max x y=>wzru H T G x y K
 | .min x y=>wzr7 H T G x y K
 | .build zero ps=>wzpw H T G zero ps K
 | .b2s x=>wzrw H T G x K
 | .fslice s st nn zero ps=>wzn6 ty T G s st nn zero ps K
 | .callf f ags=>wzn0 H T G f ags K
 | .callv x ags=>wznr H T G x ags K
 | _=>none
def srcS (T:TSt) (c:CT):PV→Option (List c.T×List Nat)
 | .s (.slc c' l)=>match wzmw c' c l with
  | some l=>some (l,[])
  | none=>none
 | .vec id vst=>match wzip T.h id with
  | some (st',.vec c' l)=>kond (Nat.beq vst st') (match wzmw c' c l with
   | some l=>some (l,[id])
   | none=>none) none
  | _=>none
 | _=>none
def wzpk (ty:List (Nat×CT)) (T:TSt) (s:Nat) (zero:List AVal) (K:PV→Nat→TO→Bool→List Nat→Option α):Option α:=match ofAL zero with
 | some z=>K (.ptr s T.nx 0) s (.box z) false [s]
 | none=>none
def wzsc (ty:List (Nat×CT)) (T:TSt) (s:Nat) (x:AArg) (K:PV→Nat→TO→Bool→List Nat→Option α):Option α:=match argP T none x with
 | some (.s v)=>match v.cells with
  | some l=>K (.ptr s T.nx 0) s (.box l) false [s]
  | none=>none
 | _=>none
def wzob (ty:List (Nat×CT)) (T:TSt) (s st nn:Nat) (zero:List AVal) (ps:List (Nat×Nat×AArg)) (K:PV→Nat→TO→Bool→List Nat→Option α):Option α:=match ofAL zero with
 | some z=>match wzmp T none z ps with
  | some l=>kond (Nat.beq l.length (nn*st)) (kond (Nat.beq (wzi5 s ty).n st) (kond (Nat.blt 0 st) (match wznj (wzi5 s ty) st nn l with
   | some m=>K (.vec s T.nx) s (.vec (wzi5 s ty) m) false [s]
   | none=>none) none) none) none
  | none=>none
 | none=>none
def wzr9 (ty:List (Nat×CT)) (T:TSt) (s st bytes:Nat) (zero:List AVal) (x:AArg) (K:PV→Nat→TO→Bool→List Nat→Option α):Option α:=match ofAL zero,argP T none x with
 | some z,some (.s (.int _ n))=>kond (Nat.beq (wzi5 s ty).n st) (kond (Nat.blt 0 st) (match wzlh (wzi5 s ty) z with
  | some e=>ck (mkOk n bytes) (K (.vec s T.nx) s (.vec (wzi5 s ty) (List.replicate (Int.toNat n) e)) false [s])
  | none=>none) none) none
 | _,_=>none
def wzsa (ty:List (Nat×CT)) (T:TSt) (s:Nat) (x:AArg) (K:PV→Nat→TO→Bool→List Nat→Option α):Option α:=match argP T none x with
 | some (.s (.str b))=>K (.s (.slc (.int .u8) (bytes b))) s .gone false [s]
 | _=>none
def wzp0 (ty:List (Nat×CT)) (T:TSt) (sz:Nat) (x y:AArg) (K:PV→Nat→TO→Bool→List Nat→Option α):Option α:=match argP T none x,argP T none y with
 | some (.ptr id st off),some (.s v)=>match wzip T.h id,v.cells with
  | some (st',.box cs),some p=>kond (Nat.beq st st') (kond (Nat.beq p.length sz) (kond (Nat.ble (off+sz) cs.length) (kond (oneS p) (K (.s .top) id (.box (layS cs off p)) true [id]) none) none) none) none
  | _,_=>none
 | some (.eptr id st j off c x),some (.s v)=>match wzip T.h id,v.cells with
  | some (st',.vec c' l),some p=>kond (Nat.beq st st') (kond (Nat.beq p.length sz) (kond (Nat.ble (off+sz) c.n) (match wzlh c' (layS (wzj2 c x) off p) with
   | some e=>K (.s .top) id (.vec c' (List.set l (Int.toNat j) e)) true [id]
   | none=>none) none) none) none
  | _,_=>none
 | _,_=>none
def wzoa (ty:List (Nat×CT)) (T:TSt) (s st bytes:Nat) (x y:AArg) (K:PV→Nat→TO→Bool→List Nat→Option α):Option α:=match argP T none x,argP T none y with
 | some (.s .nil),some q=>match srcS T (wzi5 s ty) q with
  | some (a :: l,rd)=>kond (Nat.beq (wzi5 s ty).n st) (kond (Nat.blt 0 st) (kond (wzrs 64 l) (kond (Nat.ble bytes 1000000) (K (.own s T.nx) s (.own (wzi5 s ty) (a :: l)) false (s :: rd)) none) none) none) none
  | _=>none
 | some (.own id vst),some q=>match wzip T.h id with
  | some (st',.own c m)=>match srcS T c q with
   | some (l,rd)=>kond (Nat.beq vst st') (kond (Nat.beq id s) (kond (Nat.beq c.n st) (kond (Nat.blt 0 st) (kond (memN id rd) none
     (ck (decide (List.length (m++l)*bytes≤140737488355328)) (K (.own id T.nx) id (.own c (m++l)) false (id :: rd)))) none) none) none) none
   | none=>none
  | _=>none
 | some (.vec id vst),some q=>match wzip T.h id with
  | some (st',.vec c m)=>match srcS T c q with
   | some (l,rd)=>kond (Nat.beq vst st') (kond (Nat.beq c.n st) (kond (Nat.blt 0 st)
     (ck (decide (List.length (m++l)*bytes≤140737488355328)) (K (.vec id T.nx) id (.vec c (m++l)) false (id :: rd))) none) none) none
   | none=>none
  | _=>none
 | _,_=>none
def wzqs (ty:List (Nat×CT)) (T:TSt) (st0:Nat) (x y:AArg) (K:PV→Nat→TO→Bool→List Nat→Option α):Option α:=match argP T none x,argP T none y with
 | some (.vs id vst lo hi),some q=>match wzip T.h id with
  | some (st',.vec c m)=>match srcS T c q with
   | some (l,rd)=>kond (Nat.beq vst st') (kond (Nat.beq c.n st0) (kond (memN id rd) none
     (ck (kzy m lo hi) (K (.s (.int .i64 (min (List.length l) (Int.toNat (hi - lo)):Int))) id (.vec c (qzy m (Int.toNat lo) (List.take (Int.toNat (hi - lo)) l))) true (id :: rd)))) none) none
   | none=>none
  | _=>none
 | _,_=>none
def wzpr (ty:List (Nat×CT)) (T:TSt) (zero:List AVal) (x:AArg) (K:PV→Nat→TO→Bool→List Nat→Option α):Option α:=match ofAL zero,argP T none x with
 | some z,some (.vs id vst lo hi)=>match wzip T.h id with
  | some (st',.vec c m)=>match wzlh c z with
   | some e=>kond (Nat.beq vst st') (ck (kzy m lo hi) (K (.s (.tup [])) id (.vec c (qzy m (Int.toNat lo) (List.replicate (Int.toNat (hi - lo)) e))) true [id])) none
   | none=>none
  | _=>none
 | _,_=>none
def opO (ty:List (Nat×CT)) (T:TSt) (o:AOp) (K:PV→Nat→TO→Bool→List Nat→Option α):Option α:=match o with
 | .alloc s zero=>wzpk ty T s zero K
 | .box s x=>wzsc ty T s x K
 | .bslice s st nn zero ps=>wzob ty T s st nn zero ps K
 | .mks s st bytes zero x=>wzr9 ty T s st bytes zero x K
 | .s2b s x=>wzsa ty T s x K
 | .store sz x y=>wzp0 ty T sz x y K
 | .append s st bytes x y=>wzoa ty T s st bytes x y K
 | .copy st0 x y=>wzqs ty T st0 x y K
 | .clear zero x=>wzpr ty T zero x K
 | _=>none
end
def wzm2:AOp→Bool
 | .alloc _ _ | .box _ _ | .bslice _ _ _ _ _ | .mks _ _ _ _ _ | .s2b _ _ | .store _ _ _ | .append _ _ _ _ _ | .copy _ _ _ | .clear _ _=>true
 | _=>false
def wzl0 (id st nx:Nat):PV→PV
 | .ptr i s off=>kond (Nat.beq i id) (kond (Nat.beq s st) (.ptr i nx off) (.ptr i s off)) (.ptr i s off)
 | .vec i s=>kond (Nat.beq i id) (kond (Nat.beq s st) (.vec i nx) (.vec i s)) (.vec i s)
 | .vs i s lo hi=>kond (Nat.beq i id) (kond (Nat.beq s st) (.vs i nx lo hi) (.vs i s lo hi)) (.vs i s lo hi)
 | x=>x
def wzmy (id st nx:Nat):List (Nat×TV)→List (Nat×TV)
 | []=>[]
 | (i,.v x) :: l=>(i,.v (wzl0 id st nx x)) :: wzmy id st nx l
 | p :: l=>p :: wzmy id st nx l
def putS (T:TSt) (d:Option Tmp) (v:TV):TSt:=match d with
 | some d=>⟨(d,v) :: T.t,T.h,T.nx,T.n,T.gs,d :: T.w,T.wo⟩
 | none=>T
def putO (T:TSt) (id:Nat) (o:TO) (re:Bool):TSt :=
 ⟨kond re (match wzip T.h id with
  | some (st,_)=>wzmy id st T.nx T.t
  | none=>T.t) T.t,(id,T.nx,o) :: T.h,T.nx+1,T.n,T.gs,T.w,id :: T.wo⟩
def addG (T:TSt) (tg:Nat):TSt:=⟨T.t,T.h,T.nx,T.n,tg :: T.gs,T.w,T.wo⟩
def allA (T:TSt) (G:Gd):List AArg→Bool
 | []=>true
 | a :: l=>match argP T G a with
  | some _=>allA T G l
  | none=>false
def gdT (want:Bool):TV→Option Bool
 | .v (.s (.bool b))=>some (kond want b (!b))
 | .cnd _ _ g (.s (.bool b))=>some (g&&kond want b (!b))
 | _=>none
def allO (T:TSt) (G:Gd):AOp→Bool
 | .pick c _ _=>allA T G [c]
 | o=>allA T G o.args
def wzo6 (T:TSt):Option Tmp→Bool
 | some d=>kond (Nat.blt d T.n) (!memN d T.gs) false
 | none=>true
def wznx {α:Type} (H:List Fc) (ty:List (Nat×CT)) (T:TSt) (o:qzc) (K:TSt→List Nat→Option Nat→Option α):Option α:=match o.guard with
 | none=>kond (wzo6 T o.dst) (kond (wzm2 o.op) (opO ty T o.op fun v id ob re rd=>K (putS (putO T id ob re) o.dst (.v v)) rd (some id)) (opV H ty T none o.op fun v rd=>K (putS T o.dst (.v v)) rd none)) none
 | some (tg,want)=>match gdT want (wzin T.t tg) with
  | some g=>kond (wzo6 (addG T tg) o.dst) (kond (wzm2 o.op) none (kond (allO T (some (tg,want,g)) o.op)
    (opV H ty T (some (tg,want,g)) o.op fun v rd=>K (putS (addG T tg) o.dst (.cnd tg want g v)) rd none) none)) none
  | none=>none
def wzk4:List (Nat×TV)→List (Nat×TV)
 | []=>[]
 | (i,.cnd _ _ _ _) :: l=>(i,.v (.s .top)) :: wzk4 l
 | p :: l=>p :: wzk4 l
def endT (T:TSt):TSt:=match T.gs with
 | []=>T
 | _=>⟨wzk4 T.t,T.h,T.nx,T.n,[],T.w,T.wo⟩
def frzP (id st:Nat) (o:TO):PV→PV
 | .ptr i s off=>kond (Nat.beq i id) (kond (Nat.beq s st) (match o with
  | .box cs=>.s (.cptr cs off)
  | _=>.ptr i s off) (.ptr i s off)) (.ptr i s off)
 | .vec i s=>kond (Nat.beq i id) (kond (Nat.beq s st) (match o with
  | .vec c l=>.s (.slc c l)
  | _=>.vec i s) (.vec i s)) (.vec i s)
 | .own i s=>kond (Nat.beq i id) (kond (Nat.beq s st) (match o with
  | .own c l=>.s (.slc c l)
  | _=>.own i s) (.own i s)) (.own i s)
 | x=>x
def wzo0 (id st:Nat):PV→Bool
 | .ptr i s _=>kond (Nat.beq i id) (Nat.beq s st) false
 | .vec i s=>kond (Nat.beq i id) (Nat.beq s st) false
 | .own i s=>kond (Nat.beq i id) (Nat.beq s st) false
 | _=>false
def frzT (id st:Nat) (o:TO):List (Nat×TV)→List (Nat×TV)
 | []=>[]
 | (i,.v x) :: l=>(i,.v (frzP id st o x)) :: frzT id st o l
 | p :: l=>p :: frzT id st o l
def frzW (id st:Nat):List (Nat×TV)→List Nat→List Nat
 | [],w=>w
 | (i,.v x) :: l,w=>kond (wzo0 id st x) (i :: frzW id st l w) (frzW id st l w)
 | _ :: l,w=>frzW id st l w
def frz1 (T:TSt) (id:Nat):TSt:=match wzip T.h id with
 | some (st,.gone)=>T
 | some (st,o)=>⟨frzT id st o T.t,(id,T.nx,.gone) :: T.h,T.nx+1,T.n,T.gs,frzW id st T.t T.w,id :: T.wo⟩
 | none=>T
def frzA (T:TSt):List Nat→TSt
 | []=>T
 | id :: l=>frzA (frz1 T id) l
def refA (T:TSt) (bx vc:Bool):AArg→List Nat
 | .t n=>match wzin T.t n with
  | .v (.own id _)=>[id]
  | .v (.vec id _)=>kond vc [id] []
  | .v (.ptr id _ _)=>kond bx [id] []
  | _=>[]
 | _=>[]
def wzmh (T:TSt) (bx vc:Bool):List AArg→List Nat
 | []=>[]
 | x :: l=>refA T bx vc x++wzmh T bx vc l
def wzr4 (T:TSt):AOp→List Nat
 | .iaddrS _ x _ | .len _ x | .b2s x | .slice _ _ x _ _=>refA T false false x
 | .callf _ l=>wzmh T false true l
 | .callv x l=>wzmh T false true l
 | .mkfn _ _ l=>wzmh T true true l
 | .box _ x=>refA T false true x
 | .build _ ps=>wzmh T false true (ps.map fun p=>p.2.2)
 | .bslice _ _ _ _ ps=>wzmh T false true (ps.map fun p=>p.2.2)
 | .store _ _ y=>refA T false true y
 | _=>[]
def regT {α:Type} (H:List Fc) (ty:List (Nat×CT)):List qzc→TSt→(TSt→Option α)→Option α
 | [],T,K=>K (endT T)
 | o :: r,T,K=>wznx H ty (frzA T (wzr4 T o.op)) o fun T' _ _=>regT H ty r T' K
def wzzo (T:TSt) (id st:Nat) (ob:TO):List AArg→Option (List SV)
 | []=>some []
 | a :: l=>match argP T none a,wzzo T id st ob l with
  | some x,some r=>match frzP id st ob x with
   | .s v=>some (v :: r)
   | _=>none
  | _,_=>none
def isSl:TO→Bool
 | .vec _ _ | .own _ _=>true
 | _=>false
def wzz4 {α:Type} (H:List Fc) (T:TSt) (f:FuncId) (ags:List AArg) (id:Nat) (K:PV→Option α):Option α:=match wzip T.h id,wzno f H with
 | some (st,ob),some C=>match wzzo T id st ob ags with
  | some vs=>match wzox C.a C.p vs with
   | some r=>kond (isSl ob) (bd (C.F r) fun x=>K (.s (retT C.r x))) none
   | none=>none
  | none=>none
 | _,_=>none
def wzzw {α:Type} (H:List Fc) (ty:List (Nat×CT)) (T:TSt) (o:qzc) (K:TSt→List Nat→Option Nat→Option α):Option α:=match o.guard,o.op with
 | none,.callf f ags=>match wzmh T false true ags with
  | []=>wznx H ty T o K
  | id :: _=>kond (wzo6 T o.dst) (wzz4 H T f ags id fun v=>K (putS (putO T id .gone false) o.dst (.v v)) [id] (some id)) none
 | _,_=>wznx H ty T o K
def unG (tg:Nat) (want:Bool):List (Nat×TV)→List (Nat×TV)
 | []=>[]
 | (i,.cnd a b g x) :: l=>(i,kond (Nat.beq a tg) (kond (eqB b want) (.v x) (.cnd a b g x)) (.cnd a b g x)) :: unG tg want l
 | p :: l=>p :: unG tg want l
def unT (T:TSt) (tg:Nat) (want:Bool):TSt:=⟨unG tg want T.t,T.h,T.nx,T.n,T.gs,T.w,T.wo⟩
def wz0a {α:Type} (H:List Fc) (ty:List (Nat×CT)) (T:TSt) (o:qzc) (tg:Nat) (want:Bool) (K:TSt→List Nat→Option Nat→Option α):Option α:=kond (wzo6 T o.dst) (match o.op with
 | .callf f ags=>match wzmh (unT T tg want) false true ags with
  | []=>wznx H ty T o K
  | id :: _=>kond (allA (unT T tg want) none ags) (wzz4 H (unT T tg want) f ags id fun v=>K (putS (putO T id .gone false) o.dst (.cnd tg want true v)) [id] (some id)) none
 | op=>kond (wzm2 op) (kond (allA (unT T tg want) none op.args) (opO ty (unT T tg want) op fun v id ob re rd=>K (putS (putO T id ob re) o.dst (.cnd tg want true v)) rd (some id)) none) (wznx H ty T o K)) none
def notV:AOp→Bool
 | .callv _ _=>false
 | .mnext _=>false
 | _=>true
def wzz2 {α:Type} (T:TSt) (o:qzc) (tg:Nat) (want:Bool) (K:TSt→List Nat→Option Nat→Option α):Option α:=kond (wzo6 T o.dst) (kond (notV o.op) (K (putS T o.dst (.cnd tg want false (.s .top))) [] none) none) none
def wzz5 {α:Type} (T:TSt) (o:qzc) (tg:Nat) (x:AArg) (K:TSt→List Nat→Option Nat→Option α):Option α:=match wzin T.t tg,argP T none x with
 | .v (.s (.bool _)),some p=>kond (wzo6 T o.dst) (K (putS T o.dst (.v p)) [] none) none
 | _,_=>none
abbrev Kn:=Option (Nat×Bool×Bool)
def wz18 {α:Type} (H:List Fc) (ty:List (Nat×CT)) (kn:Kn) (T:TSt) (o:qzc) (K:TSt→List Nat→Option Nat→Option α):Option α:=match kn with
 | none=>wzzw H ty T o K
 | some (tg,want,b)=>match o.guard with
  | some (tg',want')=>kond (Nat.beq tg' tg) (kond (eqB want' want) (kond b (wz0a H ty T o tg want K) (wzz2 T o tg want K)) (wzzw H ty T o K)) (wzzw H ty T o K)
  | none=>kond b (wzzw H ty T o K) (match o.op with
   | .pick (.t n) x y=>kond (Nat.beq n tg) (wzz5 T o tg (kond want y x) K) (wzzw H ty T o K)
   | _=>wzzw H ty T o K)
def wz19 (T:TSt) (tg:Nat) (want:Bool):AOp→Bool
 | .callf _ ags=>match wzmh (unT T tg want) false true ags with
  | []=>false
  | _=>true
 | op=>wzm2 op
def wzqa {α:Type} (H:List Fc) (ty:List (Nat×CT)):List qzc→Kn→TSt→(TSt→List (List Nat×Option Nat)→Option α)→Option α
 | [],_,T,K=>K T []
 | o :: r,kn,T,K=>match kn,o.guard with
  | none,some (tg,want)=>kond (wz19 T tg want o.op) (match gdT want (wzin T.t tg) with
   | some g=>ite' g (wz0a H ty (addG T tg) o tg want fun T' rd out=>wzqa H ty r (some (tg,want,true)) T' fun T'' tr=>K T'' ((rd,out) :: tr))
     (wzz2 (addG T tg) o tg want fun T' rd out=>wzqa H ty r (some (tg,want,false)) T' fun T'' tr=>K T'' ((rd,out) :: tr))
   | none=>none) (wzzw H ty T o fun T' rd out=>wzqa H ty r none T' fun T'' tr=>K T'' ((rd,out) :: tr))
  | _,_=>wz18 H ty kn T o fun T' rd out=>wzqa H ty r kn T' fun T'' tr=>K T'' ((rd,out) :: tr)
inductive SH where
 | k | v (c:CT) | c (a:AVal) | own (id:Nat) | vec (id:Nat) | ptr (id off:Nat)
inductive OH where
 | k | gone | box (c:CT) | own (c:CT) | vec (c:CT)
inductive OE where
 | n | x (id:Nat) | r
structure OutH where
 e:OE
 sl:List (Nat×SH)
 ob:List (Nat×OH)
def ctsS:List (Nat×SH)→List CT→List CT
 | [],r=>r
 | (_,.v c) :: l,r=>c :: ctsS l r
 | _ :: l,r=>ctsS l r
def ctsO:List (Nat×OH)→List CT
 | []=>[]
 | (_,.box c) :: l=>c :: ctsO l
 | (_,.own c) :: l=>.slc c :: ctsO l
 | (_,.vec c) :: l=>.slc c :: ctsO l
 | _ :: l=>ctsO l
def OutH.cts (H:OutH):List CT:=ctsS H.sl (ctsO H.ob)
def curO (T:TSt) (id st:Nat):Bool:=match wzip T.h id with
 | some (st',_)=>Nat.beq st st'
 | none=>false
def curW (T:TSt) (id st:Nat):Bool:=match wzip T.h id with
 | some (st',.own _ _)=>Nat.beq st st'
 | _=>false
def eqA1:SV→AVal→Bool
 | .int k n,.int k' m=>if k=k' then decide (n=m) else false
 | .bool a,.bool b=>eqB a b
 | .str a,.str b=>decide (a=b)
 | .nil,.nils=>true
 | _,_=>false
def kpP (T0 T:TSt):TV→Bool
 | .v (.s _)=>true
 | .v (.ptr id st _)=>curO T id st
 | .v (.vec id st)=>curO T id st
 | .v (.vs id st _ _)=>curO T id st
 | .v (.own id st)=>curO T id st
 | _=>false
def wzmg (i:Nat):List (Nat×OH)→Bool
 | []=>false
 | (j,o) :: l=>kond (Nat.beq j i) (match o with
  | .own _=>true
  | _=>false) (wzmg i l)
def wzo4 (i:Nat):List (Nat×OH)→Bool
 | []=>false
 | (j,o) :: l=>kond (Nat.beq j i) (match o with
  | .vec _=>true
  | _=>false) (wzo4 i l)
def chS (T0 T:TSt) (ob:List (Nat×OH)):List (Nat×SH)→Bool
 | []=>true
 | (i,.k) :: l=>kond (memN i T.w) false (kond (kpP T0 T (wzin T0.t i)) (chS T0 T ob l) false)
 | (i,.v c) :: l=>chS T0 T ob l
 | (i,.c a) :: l=>match wzin T.t i with
  | .v (.s v)=>kond (eqA1 v a) (chS T0 T ob l) false
  | _=>false
 | (i,.own id) :: l=>match wzin T.t i with
  | .v (.own id' st)=>kond (wzmg id ob) (kond (Nat.beq id' id) (kond (curW T id st) (chS T0 T ob l) false) false) false
  | .v (.s .nil)=>match wzip T.h id with
   | some (_,.gone)=>kond (wzmg id ob) (chS T0 T ob l) false
   | none=>kond (wzmg id ob) (chS T0 T ob l) false
   | _=>false
  | _=>false
 | (i,.vec id) :: l=>match wzin T.t i with
  | .v (.vec id' st)=>kond (wzo4 id ob) (kond (Nat.beq id' id) (kond (curO T id st) (chS T0 T ob l) false) false) false
  | _=>false
 | (i,.ptr id off) :: l=>match wzin T.t i with
  | .v (.ptr id' st off')=>kond (Nat.beq id' id) (kond (Nat.beq off' off) (kond (curO T id st) (chS T0 T ob l) false) false) false
  | _=>false
def chO (T0 T:TSt):List (Nat×OH)→Bool
 | []=>true
 | (i,.k) :: l=>kond (memN i T.wo) false (chO T0 T l)
 | _ :: l=>chO T0 T l
def hasK {β:Type} (i:Nat):List (Nat×β)→Bool
 | []=>false
 | p :: l=>kond (Nat.beq p.1 i) true (hasK i l)
def wzoq (l:List (Nat×OH)):List (Nat×Nat×TO)→Bool
 | []=>true
 | p :: r=>kond (hasK p.1 l) (wzoq l r) false
def svS (T:TSt):List (Nat×SH)→Option (List SV)
 | []=>some []
 | (i,.v _) :: l=>match wzin T.t i,svS T l with
  | .v (.s v),some r=>some (v :: r)
  | _,_=>none
 | _ :: l=>svS T l
def svO (T:TSt):List (Nat×OH)→Option (List SV)
 | []=>some []
 | (i,.box c) :: l=>match wzip T.h i,svO T l with
  | some (_,.box cs),some r=>match wzlh c cs with
   | some x=>some (wT c x :: r)
   | none=>none
  | _,_=>none
 | (i,.own c) :: l=>match wzip T.h i,svO T l with
  | some (_,.own c' m),some r=>some (.slc c' m :: r)
  | some (_,.gone),some r=>some (.slc c [] :: r)
  | none,some r=>some (.slc c [] :: r)
  | _,_=>none
 | (i,.vec c) :: l=>match wzip T.h i,svO T l with
  | some (_,.vec c' m),some r=>some (.slc c' m :: r)
  | _,_=>none
 | _ :: l=>svO T l
def rbS (T0:TSt):List (Nat×SH)→List SV→List (Nat×TV)
 | [],_=>[]
 | (i,.k) :: l,v=>(i,wzin T0.t i) :: rbS T0 l v
 | (i,.v _) :: l,x :: v=>(i,.v (.s x)) :: rbS T0 l v
 | (i,.v _) :: l,[]=>rbS T0 l []
 | (i,.c a) :: l,v=>(match ofA1 a with
  | some x=>(i,.v (.s x))
  | none=>(i,.v (.s .top))) :: rbS T0 l v
 | (i,.own id) :: l,v=>(i,.v (.own id T0.nx)) :: rbS T0 l v
 | (i,.vec id) :: l,v=>(i,.v (.vec id T0.nx)) :: rbS T0 l v
 | (i,.ptr id off) :: l,v=>(i,.v (.ptr id T0.nx off)) :: rbS T0 l v
def nV:List (Nat×SH)→Nat
 | []=>0
 | (_,.v _) :: l=>nV l+1
 | _ :: l=>nV l
def rbO (T0:TSt):List (Nat×OH)→List SV→List (Nat×Nat×TO)
 | [],_=>[]
 | (i,.k) :: l,v=>match wzip T0.h i with
  | some p=>(i,p) :: rbO T0 l v
  | none=>(i,T0.nx,.gone) :: rbO T0 l v
 | (i,.gone) :: l,v=>(i,T0.nx,.gone) :: rbO T0 l v
 | (i,.box c) :: l,x :: v=>(match x.cells with
  | some cs=>(i,T0.nx,.box cs)
  | none=>(i,T0.nx,.gone)) :: rbO T0 l v
 | (i,.own _) :: l,x :: v=>(match x with
  | .slc c m=>(i,T0.nx,.own c m)
  | _=>(i,T0.nx,.gone)) :: rbO T0 l v
 | (i,.vec _) :: l,x :: v=>(match x with
  | .slc c m=>(i,T0.nx,.vec c m)
  | _=>(i,T0.nx,.gone)) :: rbO T0 l v
 | (i,_) :: l,[]=>(i,T0.nx,.gone) :: rbO T0 l []
def ltK (n:Nat):List (Nat×SH)→Bool
 | []=>true
 | p :: l=>kond (Nat.blt p.1 n) (ltK n l) false
def wzme (sl:List (Nat×SH)):List (Nat×TV)→List Nat→List Nat
 | [],w=>w
 | p :: l,w=>kond (hasK p.1 sl) (wzme sl l w) (p.1 :: wzme sl l w)
def setW:List (Nat×SH)→List Nat→List Nat
 | [],w=>w
 | (_,.k) :: l,w=>setW l w
 | (i,_) :: l,w=>i :: setW l w
def wzkb:List (Nat×OH)→List Nat→List Nat
 | [],w=>w
 | (_,.k) :: l,w=>wzkb l w
 | (i,_) :: l,w=>i :: wzkb l w
def arrT (T0 T:TSt) (H:OutH):Option (Row H.cts):=match svS T H.sl,svO T H.ob with
 | some a,some b=>kond (chS T0 T H.ob H.sl) (kond (chO T0 T H.ob) (kond (wzoq H.ob T.h) (kond (wzoq H.ob T0.h) (kond (ltK T0.n H.sl) (wzmq H.cts (a++b)) none) none) none) none) none
 | _,_=>none
def rebT (T0:TSt) (H:OutH) (r:Row H.cts):TSt :=
 ⟨rbS T0 H.sl (rowW H.cts r),rbO T0 H.ob ((rowW H.cts r).drop (nV H.sl)),T0.nx+1,T0.n,[],setW H.sl (wzme H.sl T0.t T0.w),wzkb H.ob T0.wo⟩
def OutT:List OutH→Type
 | []=>Unit
 | [H]=>Row H.cts
 | H :: l=>Row H.cts⊕OutT l
def isE:OE→Exit→Bool
 | .n,.normal=>true
 | .x i,.exit j=>Nat.beq i j
 | .r,.ret=>true
 | _,_=>false
def OE.ex:OE→Exit
 | .n=>.normal
 | .x i=>.exit i
 | .r=>.ret
def injT (T0:TSt):(l:List OutH)→Exit→TSt→Option (OutT l)
 | [],_,_=>none
 | [H],e,T=>kond (isE H.e e) (arrT T0 T H) none
 | H :: H' :: l,e,T=>kond (isE H.e e) (match arrT T0 T H with
  | some r=>some (.inl r)
  | none=>none) (match injT T0 (H' :: l) e T with
  | some r=>some (.inr r)
  | none=>none)
def aftT {α:Type} (T0:TSt) (K:Exit→TSt→Option α):(l:List OutH)→OutT l→Option α
 | [],_=>none
 | [H],r=>K H.e.ex (rebT T0 H r)
 | H :: H' :: l,r=>match r with
  | .inl r=>K H.e.ex (rebT T0 H r)
  | .inr r=>aftT T0 K (H' :: l) r
inductive HT where
 | n
 | s (a b:HT)
 | c (J:Option (List OutH)) (a b:HT)
 | b (J:Option (List OutH)) (h:HT)
 | l (fz:List Nat) (hd:OutH) (J:List OutH) (h:HT)
def cl0 (T:TSt):TSt:=⟨T.t,T.h,T.nx,T.n,[],[],[]⟩
def wzr0 {α:Type} (J:Option (List OutH)) (T:TSt) (inner:(β:Type)→TSt→(Exit→TSt→Option β)→Option β) (K:Exit→TSt→Option α):Option α:=match J with
 | none=>inner α T K
 | some l=>bd (inner (OutT l) (cl0 T) (injT T l)) (aftT T K l)
def frzR (rs:List ARes) (T:TSt):TSt:=frzA T (wzmh T false true (rs.map fun r=>match r with
 | .t n=>.t n
 | .c n _ _=>.t n))
def wzjp (H:List Fc) (ty:List (Nat×CT)) (rs:List ARes):qzk→(α:Type)→HT→TSt→(Exit→TSt→Option α)→Option α
 | .skip,_,_,T,K=>K .normal T
 | .reg false ops _,_,_,T,K=>regT H ty ops T (K .normal)
 | .reg true ops pr,_,_,T,K=>wzqa H ty ops none T fun T' tr=>kond (hpOk pr tr) (K .normal (endT T')) none
 | .seq a b,α,h,T,K=>wzjp H ty rs a α (match h with | .s x _=>x | _=>.n) T fun e T'=>match e with
  | .normal=>wzjp H ty rs b α (match h with | .s _ y=>y | _=>.n) T' K
  | e=>K e T'
 | .cond c a b,α,h,T,K=>wzr0 (match h with | .c J _ _=>J | _=>none) T (fun β T K=>match argP T none c with
  | some (.s (.bool x))=>match c with
   | .c _=>kond x (wzjp H ty rs a β (match h with | .c _ p _=>p | _=>.n) T K) (wzjp H ty rs b β (match h with | .c _ _ q=>q | _=>.n) T K)
   | _=>ite' x (wzjp H ty rs a β (match h with | .c _ p _=>p | _=>.n) T K) (wzjp H ty rs b β (match h with | .c _ _ q=>q | _=>.n) T K)
  | _=>none) K
 | .ret,_,_,T,K=>K .ret (frzR rs T)
 | .exit i,_,_,T,K=>K (.exit i) T
 | .scope c,α,h,T,K=>wzjp H ty rs c α h T fun e T'=>match e with
  | .goto _=>none
  | e=>K e T'
 | .label _,_,_,T,K=>K .normal T
 | .block i c,α,h,T,K=>wzr0 (match h with | .b J _=>J | _=>none) T (fun β T K=>wzjp H ty rs c β (match h with | .b _ p=>p | _=>.n) T fun e T'=>match e with
  | .exit j=>kond (Nat.beq j i) (K .normal T') (K (.exit j) T')
  | e=>K e T') K
 | .loop c,α,.l fz hd J h,T0,K=>(fun T=>match arrT T (cl0 T) hd with
  | some r0=>bd (lp (fun r=>wzjp H ty rs c (Row hd.cts⊕OutT J) h (rebT (cl0 T) hd r) fun e T'=>match e with
   | .normal=>match arrT T T' hd with
    | some r=>some (.inl r)
    | none=>none
   | e=>match injT T J e T' with
    | some r=>some (.inr r)
    | none=>none) r0) (aftT T K J)
  | none=>none) (frzA T0 fz)
 | .loop _,_,_,_,_=>none
 | .rfunc _ _ _ _,_,_,_,_=>none
def resS (T:TSt):List ARes→Option (List SV)
 | []=>some []
 | .t n :: l=>match wzin T.t n,resS T l with
  | .v (.s v),some r=>some (v :: r)
  | _,_=>none
 | .c n agg sz :: l=>match wzin T.t n,resS T l with
  | .v (.ptr id st 0),some r=>match wzip T.h id with
   | some (st',.box cs)=>kond (Nat.beq st st') (kond (Nat.beq sz cs.length) (kond (kond agg true (Nat.beq sz 1)) (some (ldS agg sz cs 0 :: r)) none) none) none
   | _=>none
  | _,_=>none
def resT (rs:List ARes) (cs:List CT) (e:Exit) (T:TSt):Option (Row cs):=match e with
 | .ret=>match resS T rs with
  | some l=>wzmq cs l
  | none=>none
 | _=>none
def zipS:Nat→List SV→List (Nat×TV)
 | _,[]=>[]
 | i,x :: l=>(i,.v (.s x)) :: zipS (i+1) l
def prmC (c:CT):Bool→c.T→SV
 | false,x=>wT c x
 | true,x=>.cptr (wzj2 c x) 0
def wzp7 (c:CT):(l:List CT)→List Bool→RowC c.T l→List SV
 | [],p,x=>[prmC c (p.headD false) x]
 | d :: l,p,x=>prmC c (p.headD false) x.1 :: wzp7 d l p.tail x.2
def prmS:(l:List CT)→List Bool→Row l→List SV
 | [],_,_=>[]
 | c :: l,p,x=>wzp7 c l p x
def iniT (n:Nat) (a:List CT) (p:List Bool) (x:Row a):TSt:=⟨zipS 0 (prmS a p x),[],0,n,[],[],[]⟩
def funT (H:List Fc) (ty:List (Nat×CT)) (rs:List ARes) (n:Nat) (c:qzk) (h:HT) (C:Fc) (x:Row C.a):Option (Row C.r):=wzjp H ty rs c _ h (iniT n C.a C.p x) (resT rs C.r)
end
end Go.Am

set_option linter.unusedVariables false
set_option linter.unusedSimpArgs false
namespace Go.Am
structure Gho where
 ep:Nat
 n:Nat
 f:Nat→List AVal
abbrev Phi:=Nat→Nat→Gho
def Ext (nx:Nat) (φ φ':Phi):Prop:=∀ id st,st < nx→φ' id st=φ id st
theorem Ext.refl (nx:Nat) (φ:Phi):Ext nx φ φ:=fun _ _ _=>rfl
theorem Ext.trans {nx nx':Nat} {φ φ' φ'':Phi} (h:Ext nx φ φ') (k:Ext nx' φ' φ'') (hn:nx≤nx'):Ext nx φ φ'':=fun id st hs=>(k id st (by omega)).trans (h id st hs)
def upd (φ:Phi) (id nx:Nat) (G:Gho):Phi:=fun i s=>if i=id∧s=nx then G else φ i s
theorem wzpy {φ:Phi} {id nx:Nat} {G:Gho}:Ext nx φ (upd φ id nx G):=fun i s h=>by unfold upd; rw [if_neg (by omega)]
theorem wzjf {φ:Phi} {id nx:Nat} {G:Gho}:upd φ id nx G id nx=G:=by simp [upd]
theorem wzir {a b:Nat}:Nat.beq a b=true↔a=b:=by simp
theorem wzmb {a b:Nat}:Nat.beq a b=false↔a≠b:=by rw [← Bool.not_eq_true,wzir]
theorem wzl9 {i:Nat}:∀ {l:List Nat},memN i l=true↔i∈l
 | []=>by simp [memN]
 | j :: l=>by
  show kond (Nat.beq j i) true (memN i l)=true↔_
  cases h:Nat.beq j i
  ·have:=wzmb.1 h
   rw [wzzu,wzl9,List.mem_cons]
   exact ⟨.inr,fun h=>h.resolve_left fun e=>this e.symm⟩
  ·have:=wzir.1 h; subst this; rw [wzzt]; simp
section
variable [Tab]
def eP (φ:Phi):PV→AVal
 | .s v=>emS v
 | .ptr id st off=>.ptr id (φ id st).ep off
 | .eptr id st j off _ _=>.eptr id (φ id st).ep j.toNat off
 | .vec id st=>.vec id (φ id st).ep 0 (φ id st).n
 | .vs id st lo hi=>.vec id (φ id st).ep lo.toNat (hi - lo).toNat
 | .own id st=>match (φ id st).n with
  | 0=>.nils
  | n+1=>.vec id (φ id st).ep 0 (n+1)
def eT (φ:Phi):TV→AVal
 | .v x=>eP φ x
 | .cnd _ _ g x=>.cnd g (eP φ x)
def eO (ep:Nat):TO→AObj
 | .gone=>.gone ep
 | .box cs=>.box ep (emL cs)
 | .vec c l=>.vec ep c.n l.length (qzd c.cA l)
 | .own c l=>ownO ep c.n c.cA l
def eTm (φ:Phi) (t:List (Nat×TV)):List (Nat×AVal):=t.map fun p=>(p.1,eT φ p.2)
def eHm (φ:Phi) (h:List (Nat×Nat×TO)):List (Nat×AObj):=h.map fun p=>(p.1,eO (φ p.1 p.2.1).ep p.2.2)
def em (φ:Phi) (T:TSt):ASt:=⟨tl (eTm φ T.t) T.n,hl (eHm φ T.h),[]⟩
def OkO (G:Gho):TO→Prop
 | .vec c l=>G.n=l.length∧G.f=qzd c.cA l
 | .own c l=>G.n=l.length∧G.f=qzd c.cA l
 | _=>True
def OkP (φ:Phi):PV→Prop
 | .eptr id st j off c x=>0≤j∧j.toNat < (φ id st).n∧(φ id st).f j.toNat=c.cA x
 | _=>True
def StP (nx:Nat):PV→Prop
 | .s _=>True
 | .ptr _ st _ | .eptr _ st _ _ _ _ | .vec _ st | .vs _ st _ _ | .own _ st=>st < nx
def TOk (φ:Phi) (T:TSt):TV→Prop
 | .v x=>StP T.nx x∧OkP φ x
 | .cnd tg want g x=>StP T.nx x∧(g=true→OkP φ x)∧memN tg T.gs=true∧gdT want (wzin T.t tg)=some g
structure InvT (φ:Phi) (T:TSt):Prop where
 sl:∀ i,TOk φ T (wzin T.t i)
 hi:∀ i,T.n≤i→wzin T.t i=.v (.s .top)
 ob:∀ id st o,wzip T.h id=some (st,o)→st < T.nx∧OkO (φ id st) o
theorem wzis {p:Nat×TV} {l:List (Nat×TV)} {i:Nat}:wzin (p :: l) i=if p.1=i then p.2 else wzin l i:=by
 show kond (Nat.beq p.1 i) _ _=_
 cases h:Nat.beq p.1 i
 ·rw [if_neg (wzmb.1 h)]; rfl
 ·rw [if_pos (wzir.1 h)]; rfl
theorem wziu {p:Nat×Nat×TO} {l:List (Nat×Nat×TO)} {i:Nat}:wzip (p :: l) i=if p.1=i then some p.2 else wzip l i:=by
 show kond (Nat.beq p.1 i) _ _=_
 cases h:Nat.beq p.1 i
 ·rw [if_neg (wzmb.1 h)]; rfl
 ·rw [if_pos (wzir.1 h)]; rfl
theorem wzjk {φ:Phi}:∀ (t:List (Nat×TV)) (i:Nat),look (eTm φ t) i=eT φ (wzin t i)
 | [],i=>rfl
 | p :: l,i=>by
  rw [wzis]
  show (if p.1=i then eT φ p.2 else look (eTm φ l) i)=_
  split
  ·rfl
  ·exact wzjk l i
def hO (φ:Phi) (id:Nat):Option (Nat×TO)→AObj
 | some (st,o)=>eO (φ id st).ep o
 | none=>.gone 0
theorem wzji {φ:Phi}:∀ (h:List (Nat×Nat×TO)) (i:Nat),qz8 (eHm φ h) i=hO φ i (wzip h i)
 | [],i=>rfl
 | p :: l,i=>by
  rw [wziu]
  show (if p.1=i then eO (φ p.1 p.2.1).ep p.2.2 else qz8 (eHm φ l) i)=_
  split
  ·rename_i e; subst e; rfl
  ·exact wzji l i
theorem em_t {φ:Phi} {T:TSt} (hI:InvT φ T) (i:Nat):(em φ T).t.getD i .top=eT φ (wzin T.t i):=by
 show (tl (eTm φ T.t) T.n).getD i .top=_
 rw [qzhq]
 split
 ·exact wzjk _ _
 ·rename_i h; rw [hI.hi i (by omega)]; rfl
theorem em_h {φ:Phi} {T:TSt} (id:Nat):(em φ T).h id=hO φ id (wzip T.h id):=wzji _ _
theorem wzpa {φ:Phi} {T:TSt} {id st:Nat} {o:TO} (h:wzip T.h id=some (st,o)):(em φ T).h id=eO (φ id st).ep o:=by rw [em_h,h]; rfl
theorem wzqd {e:Nat} {o:TO}:(eO e o).ep=e:=by
 cases o with
 | own c l=>cases l<;>rfl
 | _=>rfl
theorem wzqr {e:Nat} {o:TO}:(eO e o).plain:=by
 cases o with
 | own c l=>cases l<;>exact trivial
 | _=>exact trivial
theorem wzte {φ:Phi} {id:Nat} {x:Option (Nat×TO)}:(hO φ id x).plain:=by
 cases x with
 | none=>exact trivial
 | some p=>exact wzqr
theorem wzn9 {φ:Phi} {T:TSt} (id:Nat):((em φ T).h id).plain:=by rw [em_h]; exact wzte
theorem wzl5:∀ (l:List SV),emL l=l.map emS
 | []=>rfl
 | x :: l=>by show emS x :: emL l=_; rw [wzl5 l]; rfl
theorem wziw (l:List SV):(emL l).length=l.length:=by simp [wzl5]
theorem wzl1 (l m:List SV):emL (l++m)=emL l++emL m:=by simp [wzl5]
theorem wzm4 (n:Nat) (l:List SV):emL (l.take n)=(emL l).take n:=by simp [wzl5]
theorem wzm5 (n:Nat) (l:List SV):emL (l.drop n)=(emL l).drop n:=by simp [wzl5]
theorem wzqe (l:List SV) (i:Nat):emS (l.getD i .top)=(emL l).getD i .top:=by
 simp only [wzl5,List.getD_eq_getElem?_getD,List.getElem?_map]
 cases l[i]?<;>rfl
theorem wzpn (l:List SV) (off:Nat) (p:List SV):emL (layS l off p)=lay (emL l) off (emL p):=by
 unfold layS lay; simp only [wzl1,wzm4,wzm5,wziw]
theorem wznm {agg:Bool} {sz:Nat} {l:List SV} {off:Nat}:emS (ldS agg sz l off)=ldv agg sz (emL l) off:=by
 cases agg
 ·exact wzqe l off
 ·show AVal.agg (emL _)=_; rw [wzm4,wzm5]; rfl
theorem wzp1 {a:AVal} {v:SV} (h:ofA1 a=some v):emS v=a:=by
 cases a<;>simp only [ofA1] at h<;>cases h<;>rfl
theorem wzk3:∀ {l:List AVal} {m:List SV},ofAL l=some m→emL m=l
 | [],m,h=>by cases h; rfl
 | a :: l,m,h=>by
  simp only [ofAL] at h
  cases h1:ofA1 a with
  | none=>rw [h1] at h; cases h
  | some x =>
   cases h2:ofAL l with
   | none=>rw [h1,h2] at h; cases h
   | some y =>
    rw [h1,h2] at h; cases h
    show emS x :: emL y=_
    rw [wzp1 h1,wzk3 h2]
theorem wzoj {a:AVal} {v:SV} (h:ofA a=some v):emS v=a:=by
 unfold ofA at h
 split at h
 ·rename_i l
  cases hl:ofAL l with
  | none=>rw [hl] at h; cases h
  | some m=>rw [hl] at h; cases h; show AVal.agg (emL m)=_; rw [wzk3 hl]
 ·cases h; rfl
 ·cases h; rfl
 ·exact wzp1 h
theorem wzph (v:SV):unv (emS v)=emS v:=by cases v<;>rfl
theorem wzpm (v:SV) (c:Bool):unc c (emS v):=by cases v<;>exact trivial
theorem wzm7 {φ:Phi} (x:PV):unv (eP φ x)=eP φ x:=by
 cases x with
 | s v=>exact wzph v
 | own id st=>show unv (match (φ id st).n with | 0=>.nils | n+1=>.vec id (φ id st).ep 0 (n+1))=match (φ id st).n with | 0=>.nils | n+1=>.vec id (φ id st).ep 0 (n+1); cases (φ id st).n<;>rfl
 | _=>rfl
theorem wzni {φ:Phi} (x:PV) (c:Bool):unc c (eP φ x):=by
 cases x with
 | s v=>exact wzpm v c
 | own id st=>show unc c (match (φ id st).n with | 0=>.nils | n+1=>.vec id (φ id st).ep 0 (n+1)); cases (φ id st).n<;>exact trivial
 | _=>exact trivial
theorem wzmj {v:SV} {l:List SV} (h:v.cells=some l):wzk (emS v)=some (emL l):=by
 cases v<;>simp only [SV.cells] at h<;>cases h<;>rfl
theorem wzrp:∀ {l:List SV},oneS l=true→vz6 (emL l)=true
 | [],_=>rfl
 | x :: l,h=>by
  show ((emS x).one&&vz6 (emL l))=true
  cases x<;>simp only [oneS] at h<;>first | (cases h; done) | (rw [wzrp h]; rfl)
theorem wzof {c c':CT} {l:List c.T} {m:List c'.T} (h:wzmw c c' l=some m):slcV c.n c.cA l=slcV c'.n c'.cA m∧l.length=m.length∧qzd c.cA l=qzd c'.cA m∧c=c':=by
 unfold wzmw at h
 split at h
 ·rename_i e _; subst e; cases h; exact ⟨rfl,rfl,rfl,rfl⟩
 ·cases h
theorem wzp4 (c:CT):∀ (l:List CT) (r:RowC c.T l),(wzp8 c l r).length=l.length+1
 | [],r=>rfl
 | d :: l,r=>by show _+1=_; rw [wzp4 d l r.2]; rfl
theorem wzth:∀ (l:List CT) (r:Row l),(rowS l r).length=l.length
 | [],r=>rfl
 | c :: l,r=>wzp4 c l r
theorem wzm1:∀ (c:CT) (x:c.T),(wzj2 c x).length=c.n
 | .int k,x=>rfl
 | .bool,x=>rfl
 | .str,x=>rfl
 | .slc c,x=>rfl
 | .us i,x=>wzth _ _
theorem wzqn {k:IntKind} {v:SV} {x:Int} (h:ofI k v=some x):v=.int k x:=by
 unfold ofI at h
 split at h
 ·split at h
  ·rename_i e; subst e; cases h; rfl
  ·cases h
 ·cases h
theorem wzq0 {v:SV} {x:Bool} (h:ofBT v=some x):v=.bool x:=by
 unfold ofBT at h
 split at h<;>cases h; rfl
theorem wzoi {v:SV} {x:List UInt8} (h:wzon v=some x):v=.str x:=by
 unfold wzon at h
 split at h<;>cases h; rfl
theorem wzpt {c:CT} {v:SV} {x:List c.T} (h:ofSl c v=some x):W (emS v) (slcV c.n c.cA x)∧(emS v).one=true:=by
 unfold ofSl at h
 split at h
 ·have:=wzof h
  refine ⟨?_,rfl⟩
  rw [← this.1]; exact .refl _
 ·cases h; exact ⟨.nil _ _,rfl⟩
 ·cases h
theorem wzrk:∀ {c:CT} {v:SV} {x:c.T},ofLf c v=some x→W (emS v) (emS (lfT c x))∧(emS v).one=true
 | .int k,v,x,h=>by rw [wzqn h]; exact ⟨.refl _,rfl⟩
 | .bool,v,x,h=>by rw [wzq0 h]; exact ⟨.refl _,rfl⟩
 | .str,v,x,h=>by rw [wzoi h]; exact ⟨.refl _,rfl⟩
 | .slc c,v,x,h=>wzpt h
 | .us i,v,x,h=>by cases h
theorem wzkd {t:Type} {f:SV→Option t} {v:List SV} {x:t} (h:wzly f v=some x):∃ u,v=[u]∧f u=some x:=by
 unfold wzly at h
 split at h
 ·exact ⟨_,rfl,h⟩
 ·cases h
theorem wzmf {t u:Type} {f:SV→Option t} {g:List SV→Option u} {v:List SV} {x:t×u} (h:wznb f g v=some x):∃ y r,v=y :: r∧f y=some x.1∧g r=some x.2:=by
 unfold wznb at h
 split at h
 ·cases h
 ·rename_i y r
  split at h
  ·rename_i a b h1 h2; cases h; exact ⟨y,r,rfl,h1,h2⟩
  ·cases h
theorem wzmz {v:List SV} {x:Unit} (h:wzor v=some x):v=[]:=by
 unfold wzor at h
 split at h
 ·rfl
 ·cases h
theorem wzp6:∀ (c:CT) (l:List CT) (v:List SV) (r:RowC c.T l),wzoo c l v=some r→Ws (emL v) (emL (wzp8 c l r))∧vz6 (emL v)=true
 | c,[],v,r,h=>by
  obtain ⟨u,rfl,h⟩:=wzkd (f:=ofLf c) h
  obtain ⟨h1,h2⟩:=wzrk h
  exact ⟨⟨h1,trivial⟩,by show (_&&true)=true; rw [h2]; rfl⟩
 | c,d :: l,v,r,h=>by
  obtain ⟨y,q,rfl,h1,h2⟩:=wzmf (f:=ofLf c) (g:=wzoo d l) h
  obtain ⟨p1,p2⟩:=wzrk h1
  obtain ⟨q1,q2⟩:=wzp6 d l q r.2 h2
  exact ⟨⟨p1,q1⟩,by show (_&&_)=true; rw [p2,q2]; rfl⟩
theorem wztv {l:List CT} {v:List SV} {r:Row l} (h:wzuk l v=some r):Ws (emL v) (emL (rowS l r))∧vz6 (emL v)=true:=by
 cases l with
 | nil=>rw [wzmz h]; exact ⟨trivial,rfl⟩
 | cons c l=>exact wzp6 c l v r h
theorem wzu9 {i:Nat} {v:SV} {x:TabT.T i} (h:ofAg i v=some x):∃ l,v=.agg l∧wzo5 i l=some x:=by
 unfold ofAg at h
 split at h
 ·exact ⟨_,rfl,h⟩
 ·cases h
variable [TabOk]
theorem wzk1:∀ (c:CT) (x:c.T),emL (wzj2 c x)=c.cA x
 | .int k,x=>rfl
 | .bool,x=>rfl
 | .str,x=>rfl
 | .slc c,x=>rfl
 | .us i,x=>(TabOk.cells i x).symm
theorem wznh (c:CT) (x:c.T):(c.cA x).length=c.n:=by rw [← wzk1,wziw,wzm1]
theorem wzq4 {i:Nat} {v:List SV} {x:TabT.T i} (h:wzo5 i v=some x):Ws (emL v) (Tab.cA i x)∧vz6 (emL v)=true:=by
 unfold wzo5 at h
 split at h
 ·rename_i r hr
  cases h
  have:=wztv hr
  rw [TabOk.cells,TabOk.unmk]
  exact this
 ·cases h
theorem wzke:∀ {c:CT} {v:List SV} {x:c.T},wzlh c v=some x→Ws (emL v) (c.cA x)∧vz6 (emL v)=true
 | .us i,v,x,h=>wzq4 h
 | .int k,v,x,h=>by obtain ⟨u,rfl,h⟩:=wzkd h; rw [wzqn h]; exact ⟨⟨.refl _,trivial⟩,rfl⟩
 | .bool,v,x,h=>by obtain ⟨u,rfl,h⟩:=wzkd h; rw [wzq0 h]; exact ⟨⟨.refl _,trivial⟩,rfl⟩
 | .str,v,x,h=>by obtain ⟨u,rfl,h⟩:=wzkd h; rw [wzoi h]; exact ⟨⟨.refl _,trivial⟩,rfl⟩
 | .slc c,v,x,h=>by
  obtain ⟨u,rfl,h⟩:=wzkd h
  have:=wzpt h
  exact ⟨⟨this.1,trivial⟩,by show (_&&true)=true; rw [this.2]; rfl⟩
theorem wzwa (i:Nat) (x:TabT.T i):emS (wT (.us i) x)=.agg (Tab.cA i x):=by rw [TabOk.cells]; rfl
theorem wzo2:∀ {c:CT} {v:SV} {x:c.T},ofW c v=some x→W (emS v) (emS (wT c x))
 | .us i,v,x,h=>by
  obtain ⟨l,rfl,h⟩:=wzu9 h
  have e:emS (wT (.us i) x)=.agg (Tab.cA i x):=wzwa i x
  exact e▸qzqa.2 (wzq4 h).1
 | .int k,v,x,h=>by rw [wzqn h]; exact .refl _
 | .bool,v,x,h=>by rw [wzq0 h]; exact .refl _
 | .str,v,x,h=>by rw [wzoi h]; exact .refl _
 | .slc c,v,x,h=>(wzpt h).1
theorem wzpb:∀ (c:CT) (l:List CT) (v:List SV) (r:RowC c.T l),wzl3 c l v=some r→Ws (emL v) (emL (wzov c l r))
 | c,[],v,r,h=>by obtain ⟨u,rfl,h⟩:=wzkd (f:=ofW c) h; exact ⟨wzo2 h,trivial⟩
 | c,d :: l,v,r,h=>by
  obtain ⟨y,q,rfl,h1,h2⟩:=wzmf (f:=ofW c) (g:=wzl3 d l) h
  exact ⟨wzo2 h1,wzpb d l q r.2 h2⟩
theorem wzsl {l:List CT} {v:List SV} {r:Row l} (h:wzmq l v=some r):Ws (emL v) (emL (rowW l r)):=by
 cases l with
 | nil=>rw [wzmz h]; exact trivial
 | cons c l=>exact wzpb c l v r h
theorem wzsq:∀ (c:CT) (x:c.T) (v:AVal),v∈c.cA x→qzt v
 | .int k,x,v,h=>qz1 v h
 | .bool,x,v,h=>qzh2 v h
 | .str,x,v,h=>qzij v h
 | .slc c,x,v,h=>wzts (wzsq c) v h
 | .us i,x,v,h=>TabOk.nor i x v h
end
section
variable [Tab]
mutual
theorem wzrl [TabOk]:∀ (v:SV),qzt (emS v)
 | .int _ _=>.int _ _
 | .bool _=>.bool _
 | .str _=>.str _
 | .nil=>.nils
 | .slc c l=>qzj (wzsq c)
 | .agg l=>.agg _ (wzl4 l)
 | .tup l=>.tup _ (wzl4 l)
 | .cptr l off=>.cptr _ _ _ fun j hj=>by
   simp only [List.getD_eq_getElem?_getD]
   cases e:(emL l)[j]? with
   | none=>exact .top
   | some x=>exact wzl4 l x (List.mem_of_getElem? e)
 | .fn f nb l=>.fn _ _ _ (wzl4 l)
 | .top=>.top
theorem wzl4 [TabOk]:∀ (l:List SV) (x:AVal),x∈emL l→qzt x
 | [],x,h=>by cases h
 | v :: l,x,h=>by
  cases h with
  | head=>exact wzrl v
  | tail _ h=>exact wzl4 l x h
end
end
end Go.Am

set_option linter.unusedVariables false
set_option linter.unusedSimpArgs false
namespace Go.Am
def act:Gd→Prop
 | none=>True
 | some (_,_,g)=>g=true
theorem wzj4 {α:Type} {G:Gd} {c:Bool} {X:Option α} {r:α} (h:ckg G c X=some r):X=some r∧(act G→c=true):=by
 cases G with
 | none=>cases c<;>first | (cases h; done) | exact ⟨h,fun _=>rfl⟩
 | some q =>
  obtain ⟨a,b,g⟩:=q
  cases g
  ·cases c<;>exact ⟨h,fun e=>by cases e⟩
  ·cases c
   ·cases h
   ·exact ⟨h,fun _=>rfl⟩
theorem wzpc {α β:Type} [Inhabited β] {G:Gd} {x:Option β} {K:β→Option α} {r:α} (h:bdg G x K=some r):∃ v,K v=some r∧(act G→x=some v):=by
 cases G with
 | none=>cases x with
  | none=>cases h
  | some v=>exact ⟨v,h,fun _=>rfl⟩
 | some q =>
  obtain ⟨a,b,g⟩:=q
  cases g
  ·exact ⟨default,h,fun e=>by cases e⟩
  ·cases x with
   | none=>cases h
   | some v=>exact ⟨v,h,fun _=>rfl⟩
theorem wziq {α:Type} {c:Bool} {X:Option α} {r:α} (h:kond c X none=some r):c=true∧X=some r:=by
 cases c
 ·cases h
 ·exact ⟨rfl,h⟩
theorem wzok {α:Type} {G:Gd} {l c:Bool} {X:Option α} {r:α} (h:ckl G l c X=some r):X=some r∧(act G→c=true):=by
 cases l
 ·exact wzj4 h
 ·have:=wziq h; exact ⟨this.2,fun _=>this.1⟩
theorem wznl {agg:Bool} {sz:Nat} (h:(kond agg true (Nat.beq sz 1))=true):agg=false→sz=1:=by
 intro e; subst e; exact wzir.1 h
theorem wztm {ar:AArg→AVal} {hh:qzl} {x:AArg} {l:List Int} (e1:ar x=.slc 1 l.length (qzd (cI .u8) l)):(AOp.b2s x).req ar hh=⟨True∧1=1,[],.str (vzg l),none⟩:=by
 show qzdu (ar x) hh=_
 rw [e1]
 unfold qzdu
 simp only [qz5,qzag]
theorem wztw {ar:AArg→AVal} {hh:qzl} {x:AArg} {id e:Nat} {l:List Int} (e1:ar x=.vec id e 0 l.length) (e2:hh id=.vec e 1 l.length (qzd (cI .u8) l)):(AOp.b2s x).req ar hh=⟨(e=e∧0+l.length≤l.length)∧1=1,[id],.str (vzg l),none⟩:=by
 show qzdu (ar x) hh=_
 rw [e1]
 unfold qzdu
 simp only [qz5,e2,Nat.zero_add]
 rw [show (fun k=>qzd (cI .u8) l k)=qzd (cI .u8) l from rfl,qzag]
theorem wzkv:∀ {l m:List AVal},vz6 (l++m)=(vz6 l&&vz6 m)
 | [],m=>rfl
 | x :: l,m=>by show (x.one&&vz6 (l++m))=((x.one&&vz6 l)&&vz6 m); rw [wzkv,Bool.and_assoc]
theorem VEq.of_w {x y:AVal} (h:W x y):VEq x y:=fun _ _ _ hr=>hr.w h
theorem wztd {l:List AVal} {off sz:Nat} (h:off+sz≤l.length):(List.range sz).map (fun j=>l.getD (off+j) .top)=(l.drop off).take sz:=by
 apply List.ext_getElem?
 intro i
 by_cases hi:i < sz
 ·have:off+i < l.length:=by omega
  simp [hi,this]
 ·simp [hi]; omega
theorem wzrd {j:Int} {n:Nat} (h:litN j=some n):j=n:=by
 unfold litN at h
 split at h
 ·cases h; rfl
 ·cases h
section
variable [Tab]
structure Ar (φ:Phi) (T:TSt) (G:Gd) (ar:AArg→AVal) (hh:qzl):Prop where
 a:∀ a x,argP T G a=some x→ar a=eP φ x∧StP T.nx x∧(act G→OkP φ x)
 h:∀ id st o,wzip T.h id=some (st,o)→hh id=eO (φ id st).ep o∧OkO (φ id st) o
def VR {α:Type} (φ:Phi) (T:TSt) (G:Gd) (ar:AArg→AVal) (hh:qzl) (o:AOp) (K:PV→List Nat→Option α) (r:α):Prop :=
 ∃ p rd,K p rd=some r∧StP T.nx p∧o.quiet=true∧(act G→OkP φ p∧(o.req ar hh).ok∧VEq (o.req ar hh).v (eP φ p)∧(∀ j∈(o.req ar hh).rd,j∈rd)∧OutW hh (o.req ar hh).out none)
section
variable {α:Type} {φ:Phi} {H:List Fc} {T:TSt} {G:Gd} {ar:AArg→AVal} {hh:qzl} {K:PV→List Nat→Option α} {r:α}
theorem VR.mk {o:AOp} {p:PV} {rd:List Nat} (hq:o.quiet=true) (hs:StP T.nx p) (h:K p rd=some r) (k:act G→OkP φ p∧∃ q x l,o.req ar hh=⟨q,l,x,none⟩∧q∧VEq x (eP φ p)∧∀ j∈l,j∈rd):VR φ T G ar hh o K r :=
 ⟨p,rd,h,hs,hq,fun ha=>by
  obtain ⟨h1,q,x,l,e,h2,h3,h4⟩:=k ha
  rw [e]; exact ⟨h1,h2,h3,h4,trivial⟩⟩
theorem VR.val {o:AOp} {v:SV} (hq:o.quiet=true) (h:K (.s v) []=some r) (k:act G→∃ q x,o.req ar hh=⟨q,[],x,none⟩∧q∧VEq x (emS v)):VR φ T G ar hh o K r :=
 .mk (p:=.s v) (rd:=[]) hq trivial h fun ha=>by
  obtain ⟨q,x,e,h1,h2⟩:=k ha
  exact ⟨trivial,q,x,[],e,h1,h2,fun j hj=>by cases hj⟩
theorem VR.valR {o:AOp} {v:SV} {rd:List Nat} (hq:o.quiet=true) (h:K (.s v) rd=some r) (k:act G→∃ q x,o.req ar hh=⟨q,rd,x,none⟩∧q∧VEq x (emS v)):VR φ T G ar hh o K r :=
 .mk (p:=.s v) (rd:=rd) hq trivial h fun ha=>by
  obtain ⟨q,x,e,h1,h2⟩:=k ha
  exact ⟨trivial,q,x,rd,e,h1,h2,fun j hj=>hj⟩
theorem wzma {k:IntKind} {n:Int} (h:ckS G k n K=some r):K (.s (.int k (cut k n))) []=some r∧(act G→inr k n):=by
 cases k<;>simp only [ckS] at h<;>first
  | (have:=wzj4 h; exact ⟨this.1,fun ha=>qzr (this.2 ha)⟩)
  | exact ⟨h,fun _=>trivial⟩
theorem wzwt (hA:Ar φ T G ar hh) {x:AArg} (h:v_mv H T G x K=some r):VR φ T G ar hh (.mv x) K r:=by
 unfold v_mv at h
 split at h
 ·rename_i p hp
  obtain ⟨h1,h2,h3⟩:=hA.a _ _ hp
  exact .mk rfl h2 h fun ha=>⟨h3 ha,_,_,_,rfl,trivial,by rw [h1]; exact .refl _,fun j hj=>by cases hj⟩
 ·cases h
theorem wzvv {op:BinOp} {k:IntKind} {a b:Int} {l bs:Bool} {x y:AArg} (hx:act G→ar x=.int k a) (hy:act G→ar y=.int k b) (hs:qzvy op=false) (h:binI G op k a b l K=some r):VR φ T G ar hh (.bin op bs x y) K r:=by
 have hreq:act G→(AOp.bin op bs x y).req ar hh=qzbd op k a b:=fun ha=>by
  show qzfc op bs (ar x) (ar y)=_
  rw [hx ha,hy ha]
  show (if qzvy op=true then vzl op k a b else if k=k then qzbd op k a b else Req.fail)=_
  rw [if_neg (by rw [hs]; exact Bool.false_ne_true),if_pos rfl]
 cases op<;>simp only [binI] at h<;>(try (cases h; done))
 case add=>have:=wzma h; exact .val rfl this.1 fun ha=>⟨_,_,hreq ha,this.2 ha,.refl _⟩
 case sub=>have:=wzma h; exact .val rfl this.1 fun ha=>⟨_,_,hreq ha,this.2 ha,.refl _⟩
 case mul=>have:=wzma h; exact .val rfl this.1 fun ha=>⟨_,_,hreq ha,this.2 ha,.refl _⟩
 case quo =>
  have h0:=wzok h
  have:=wzma h0.1
  exact .val rfl this.1 fun ha=>⟨_,_,hreq ha,⟨by simpa using h0.2 ha,this.2 ha⟩,.refl _⟩
 case rem =>
  have h0:=wzok h
  exact .val rfl h0.1 fun ha=>⟨_,_,hreq ha,by simpa using h0.2 ha,.refl _⟩
 all_goals exact .val rfl h fun ha=>⟨_,_,hreq ha,trivial,.refl _⟩
theorem wzt5 {op:BinOp} {k k':IntKind} {a b:Int} {l bs:Bool} {x y:AArg} (hx:act G→ar x=.int k a) (hy:act G→ar y=.int k' b) (h:wzry G op k a b l K=some r):VR φ T G ar hh (.bin op bs x y) K r:=by
 have hreq:qzvy op=true→act G→(AOp.bin op bs x y).req ar hh=vzl op k a b:=fun hs ha=>by
  show qzfc op bs (ar x) (ar y)=_
  rw [hx ha,hy ha]
  show (if qzvy op=true then vzl op k a b else if k=k' then qzbd op k a b else Req.fail)=_
  rw [if_pos hs]
 cases op<;>simp only [wzry] at h<;>(try (cases h; done))
 case shl =>
  have h0:=wzok h
  have:=wzma h0.1
  exact .val rfl this.1 fun ha=>⟨_,_,hreq rfl ha,⟨by simpa using h0.2 ha,this.2 ha⟩,.refl _⟩
 case shr =>
  have h0:=wzok h
  exact .val rfl h0.1 fun ha=>⟨_,_,hreq rfl ha,by simpa using h0.2 ha,.refl _⟩
theorem wzu4 {op:BinOp} {a b:List UInt8} {bs:Bool} {x y:AArg} (hx:act G→ar x=.str a) (hy:act G→ar y=.str b) (h:binS G op a b K=some r):VR φ T G ar hh (.bin op bs x y) K r:=by
 have hreq:act G→(AOp.bin op bs x y).req ar hh=qzg6 op a b:=fun ha=>by
  show qzfc op bs (ar x) (ar y)=_
  rw [hx ha,hy ha]; rfl
 cases op<;>simp only [binS] at h<;>(try (cases h; done))
 case add=>have:=wzj4 h; exact .val rfl this.1 fun ha=>⟨_,_,hreq ha,by simpa using this.2 ha,.refl _⟩
 all_goals exact .val rfl h fun ha=>⟨_,_,hreq ha,trivial,.refl _⟩
theorem wzwd (hA:Ar φ T G ar hh) {op:BinOp} {bs:Bool} {x y:AArg} (h:wzrz H T G op bs x y K=some r):VR φ T G ar hh (.bin op bs x y) K r:=by
 unfold wzrz at h
 split at h
 ·rename_i k a k' b h1 h2
  have e1:=(hA.a _ _ h1).1
  have e2:=(hA.a _ _ h2).1
  cases hs:qzvy op
  ·rw [hs] at h
   replace h:=wziq h; rw [decide_eq_true_eq] at h
   obtain ⟨rfl,h⟩:=h
   exact wzvv (fun _=>e1) (fun _=>e2) hs h
  ·rw [hs] at h
   exact wzt5 (fun _=>e1) (fun _=>e2) h
 ·rename_i a b h1 h2
  exact wzu4 (fun _=>(hA.a _ _ h1).1) (fun _=>(hA.a _ _ h2).1) h
 ·rename_i a b h1 h2
  have e1:ar x=.bool a:=(hA.a _ _ h1).1
  have e2:ar y=.bool b:=(hA.a _ _ h2).1
  split at h
  ·exact .val rfl h fun _=>⟨True,.bool (a==b),by show qzfc .eql true (ar x) (ar y)=_; rw [e1,e2]; rfl,trivial,.refl _⟩
  ·exact .val rfl h fun _=>⟨True,.bool (!(a==b)),by show qzfc .neq true (ar x) (ar y)=_; rw [e1,e2]; rfl,trivial,.refl _⟩
  ·cases h
 ·cases h
theorem wzv9 (hA:Ar φ T G ar hh) {x:AArg} (h:wzsb H T G x K=some r):VR φ T G ar hh (.not x) K r:=by
 unfold wzsb at h
 split at h
 ·rename_i b h1
  have e1:ar x=.bool b:=(hA.a _ _ h1).1
  exact .val rfl h fun _=>⟨True,.bool (!b),by simp only [AOp.req,e1]; rfl,trivial,.refl _⟩
 ·cases h
theorem wzwb (hA:Ar φ T G ar hh) {x:AArg} (h:wzrx H T G x K=some r):VR φ T G ar hh (.neg x) K r:=by
 unfold wzrx at h
 split at h
 ·rename_i k n h1
  have e1:ar x=.int k n:=(hA.a _ _ h1).1
  have:=wzma h
  exact .val rfl this.1 fun ha=>⟨inr k (0 - n),.int k (cut k (0 - n)),by simp only [AOp.req,e1]; rfl,by rw [Int.zero_sub]; exact this.2 ha,by rw [Int.zero_sub]; exact .refl _⟩
 ·cases h
theorem wzu5 (hA:Ar φ T G ar hh) {k:IntKind} {x:AArg} (h:wzql H T G k x K=some r):VR φ T G ar hh (.conv k x) K r:=by
 unfold wzql at h
 split at h
 ·rename_i k' n h1
  have e1:ar x=.int k' n:=(hA.a _ _ h1).1
  have:=wzma h
  exact .val rfl this.1 fun ha=>⟨inr k n,.int k (cut k n),by simp only [AOp.req,e1]; rfl,this.2 ha,.refl _⟩
 ·cases h
theorem wzv4 (hA:Ar φ T G ar hh) {x y:AArg} (h:wzru H T G x y K=some r):VR φ T G ar hh (.max x y) K r:=by
 unfold wzru at h
 split at h
 ·rename_i k a k' b h1 h2
  have e1:ar x=.int k a:=(hA.a _ _ h1).1
  have e2:ar y=.int k' b:=(hA.a _ _ h2).1
  replace h:=wziq h; rw [decide_eq_true_eq] at h
  obtain ⟨rfl,h⟩:=h
  exact .val rfl h fun _=>⟨True,.int k (Max.max a b),by simp [AOp.req,e1,e2,Req.val],trivial,.refl _⟩
 ·cases h
theorem wzwn (hA:Ar φ T G ar hh) {x y:AArg} (h:wzr7 H T G x y K=some r):VR φ T G ar hh (.min x y) K r:=by
 unfold wzr7 at h
 split at h
 ·rename_i k a k' b h1 h2
  have e1:ar x=.int k a:=(hA.a _ _ h1).1
  have e2:ar y=.int k' b:=(hA.a _ _ h2).1
  replace h:=wziq h; rw [decide_eq_true_eq] at h
  obtain ⟨rfl,h⟩:=h
  exact .val rfl h fun _=>⟨True,.int k (Min.min a b),by simp [AOp.req,e1,e2,Req.val],trivial,.refl _⟩
 ·cases h
theorem wzv5 (hA:Ar φ T G ar hh) {s:Bool} {x:AArg} (h:wzrv H T G s x K=some r):VR φ T G ar hh (.len s x) K r:=by
 unfold wzrv at h
 split at h
 ·rename_i c l h1
  have e1:ar x=slcV c.n c.cA l:=(hA.a _ _ h1).1
  exact .val rfl h fun _=>⟨True,.int .i64 l.length,by simp only [AOp.req,e1,slcV]; rfl,trivial,.refl _⟩
 ·rename_i h1
  have e1:ar x=.nils:=(hA.a _ _ h1).1
  exact .val rfl h fun _=>⟨True,.int .i64 0,by simp only [AOp.req,e1]; rfl,trivial,.refl _⟩
 ·rename_i id vst h1
  have e1:=(hA.a _ _ h1).1
  simp only [eP] at e1
  split at h
  ·rename_i st' c l ho
   replace h:=wziq h
   obtain ⟨hb,h⟩:=h
   obtain rfl:=wzir.1 hb
   obtain ⟨hh1,hh2⟩:=hA.h _ _ _ ho
   exact .valR rfl h fun _=>⟨_,_,by simp only [AOp.req,e1]; rfl,by rw [hh1,wzqd],by rw [hh2.1]; exact .refl _⟩
  ·cases h
 ·rename_i s h1
  have e1:ar x=.str s:=(hA.a _ _ h1).1
  exact .val rfl h fun _=>⟨True,.int .i64 s.length,by simp only [AOp.req,e1]; rfl,trivial,.refl _⟩
 ·cases h
theorem wzu8 (hA:Ar φ T G ar hh) {x i:AArg} (h:wzqo H T G x i K=some r):VR φ T G ar hh (.sidx x i) K r:=by
 unfold wzqo at h
 split at h
 ·rename_i s k j h1 h2
  have e1:ar x=.str s:=(hA.a _ _ h1).1
  have e2:ar i=.int k j:=(hA.a _ _ h2).1
  have:=wzj4 h
  exact .val rfl this.1 fun ha=>⟨0≤j∧j < s.length,.int .u8 (wzw s j),by simp only [AOp.req,e1,e2]; rfl,qznu (this.2 ha),.refl _⟩
 ·cases h
theorem wzr5 (hA:Ar φ T G ar hh) {i:Nat} {x:AArg} (h:wzng H T G i x K=some r):VR φ T G ar hh (.extract i x) K r:=by
 unfold wzng at h
 split at h
 ·rename_i l h1
  have e1:ar x=.tup (emL l):=(hA.a _ _ h1).1
  replace h:=wziq h
  obtain ⟨hb,h⟩:=h
  exact .val rfl h fun _=>⟨i < (emL l).length,(emL l).getD i .top,by simp only [AOp.req,e1]; rfl,by rw [wziw]; simpa [Nat.blt_eq] using hb,by rw [wzqe]; exact .refl _⟩
 ·cases h
theorem wzt7 (hA:Ar φ T G ar hh) {agg:Bool} {off sz:Nat} {x:AArg} (h:wzpg H T G agg off sz x K=some r):VR φ T G ar hh (.field agg off sz x) K r:=by
 unfold wzpg at h
 split at h
 ·rename_i l h1
  have e1:ar x=.agg (emL l):=(hA.a _ _ h1).1
  replace h:=wziq h
  obtain ⟨hb,h⟩:=h
  replace h:=wziq h
  obtain ⟨hc,h⟩:=h
  exact .val rfl h fun _=>⟨off+sz≤(emL l).length∧(agg=false→sz=1),ldv agg sz (emL l) off,by simp only [AOp.req,e1]; rfl,⟨by rw [wziw]; exact Nat.le_of_ble_eq_true hb,wznl hc⟩,by rw [wznm]; exact .refl _⟩
 ·cases h
theorem Ar.box (hA:Ar φ T G ar hh) {id st:Nat} {cs:List SV} (h:wzip T.h id=some (st,.box cs)):hh id=.box (φ id st).ep (emL cs):=(hA.h _ _ _ h).1
theorem Ar.vec (hA:Ar φ T G ar hh) {id st:Nat} {c:CT} {l:List c.T} (h:wzip T.h id=some (st,.vec c l)):hh id=.vec (φ id st).ep c.n l.length (qzd c.cA l)∧(φ id st).n=l.length∧(φ id st).f=qzd c.cA l:=⟨(hA.h _ _ _ h).1,(hA.h _ _ _ h).2.1,(hA.h _ _ _ h).2.2⟩
theorem Ar.ep (hA:Ar φ T G ar hh) {id st:Nat} {o:TO} (h:wzip T.h id=some (st,o)):(hh id).ep=(φ id st).ep:=by rw [(hA.h _ _ _ h).1,wzqd]
theorem wzqq {c:CT} {l:List c.T} {j:Int} {v:c.T} (h:at? l j=some v):0≤j∧j < l.length∧j.toNat < l.length∧qzd c.cA l j.toNat=c.cA v:=by
 obtain ⟨h1,h2,h3⟩:=qzlv h
 exact ⟨h1,h2,by omega,qzo h3⟩
theorem wzrf [TabOk] {c c':CT} {l:List c'.T} {i:Nat} {x:c.T} (hi:i < l.length) (h:qzd c'.cA l i=c.cA x):c.n=c'.n:=by
 have e:qzd c'.cA l i=c'.cA l[i]:=qzo (List.getElem?_eq_getElem hi)
 rw [e] at h
 have:=congrArg List.length h
 rw [wznh,wznh] at this
 exact this.symm
theorem wzv3 [TabOk] (hA:Ar φ T G ar hh) {agg:Bool} {sz:Nat} {x:AArg} (h:wzqj H T G agg sz x K=some r):VR φ T G ar hh (.load agg sz x) K r:=by
 unfold wzqj at h
 split at h
 ·rename_i id st off h1
  have e1:ar x=.ptr id (φ id st).ep off:=(hA.a _ _ h1).1
  split at h
  ·rename_i st' cs ho
   replace h:=wziq h
   obtain ⟨hb,h⟩:=h
   replace h:=wziq h
   obtain ⟨hc,h⟩:=h
   replace h:=wziq h
   obtain ⟨hd,h⟩:=h
   obtain rfl:=wzir.1 hb
   have e2:=hA.box ho
   exact .valR rfl h fun _=>⟨(φ id st).ep=(φ id st).ep∧off+sz≤(emL cs).length∧(agg=false→sz=1),ldv agg sz (emL cs) off,by simp only [AOp.req,wz9,e1,e2],⟨rfl,by rw [wziw]; exact Nat.le_of_ble_eq_true hc,wznl hd⟩,by rw [wznm]; exact .refl _⟩
  ·cases h
 ·rename_i id st j off c y h1
  have e1:ar x=.eptr id (φ id st).ep j.toNat off:=(hA.a _ _ h1).1
  split at h
  ·rename_i st' c' l ho
   replace h:=wziq h
   obtain ⟨hb,h⟩:=h
   replace h:=wziq h
   obtain ⟨hc,h⟩:=h
   replace h:=wziq h
   obtain ⟨hd,h⟩:=h
   obtain rfl:=wzir.1 hb
   obtain ⟨e2,e3,e4⟩:=hA.vec ho
   refine .valR rfl h fun ha=>?_
   obtain ⟨k1,k2,k3⟩:=(hA.a _ _ h1).2.2 ha
   rw [e4] at k3
   rw [e3] at k2
   have hn:=wzrf k2 k3
   refine ⟨(φ id st).ep=(φ id st).ep∧j.toNat < l.length∧off+sz≤c'.n∧(agg=false→sz=1),ldv agg sz (qzd c'.cA l j.toNat) off,by simp only [AOp.req,wz9,e1,e2],⟨rfl,k2,by rw [← hn]; exact Nat.le_of_ble_eq_true hc,wznl hd⟩,?_⟩
   rw [k3,wznm,wzk1]; exact .refl _
  ·cases h
 ·rename_i l off h1
  have e1:ar x=.cptr (fun k=>(emL l).getD k .top) l.length off:=(hA.a _ _ h1).1
  replace h:=wziq h
  obtain ⟨hc,h⟩:=h
  replace h:=wziq h
  obtain ⟨hd,h⟩:=h
  have hc:=Nat.le_of_ble_eq_true hc
  refine .val rfl h fun _=>⟨off+sz≤l.length∧(agg=false→sz=1),if agg then .agg ((List.range sz).map fun j=>(emL l).getD (off+j) .top) else (emL l).getD off .top,by simp only [AOp.req,wz9,e1]; rfl,⟨hc,wznl hd⟩,?_⟩
  rw [wztd (by rw [wziw]; exact hc),wznm]; exact .refl _
 ·cases h
theorem wzt0 (hA:Ar φ T G ar hh) {x:AArg} (h:wzpq H T G x K=some r):VR φ T G ar hh (.nilck x) K r:=by
 unfold wzpq at h
 split at h
 ·rename_i l off h1
  have e1:ar x=.cptr (fun k=>(emL l).getD k .top) l.length off:=(hA.a _ _ h1).1
  exact .val rfl h fun _=>⟨_,_,by simp only [AOp.req,e1]; rfl,trivial,.refl _⟩
 ·rename_i f nb l h1
  have e1:ar x=.fn f nb (emL l):=(hA.a _ _ h1).1
  exact .val rfl h fun _=>⟨_,_,by simp only [AOp.req,e1]; rfl,trivial,.refl _⟩
 ·rename_i id st off h1
  have e1:ar x=.ptr id (φ id st).ep off:=(hA.a _ _ h1).1
  split at h
  ·rename_i st' o ho
   replace h:=wziq h
   obtain ⟨hb,h⟩:=h
   obtain rfl:=wzir.1 hb
   exact .mk (p:=.ptr id st off) (rd:=[id]) rfl (hA.a _ _ h1).2.1 h fun ha=>⟨trivial,(φ id st).ep=(hh id).ep,_,[id],by simp only [AOp.req,e1]; rfl,by rw [hA.ep ho],.refl _,fun j hj=>hj⟩
  ·cases h
 ·cases h
theorem wzm3 (hA:Ar φ T G ar hh):∀ {l:List AArg} {m:List SV},wznn T G l=some m→l.map ar=emL m
 | [],m,h=>by cases h; rfl
 | x :: l,m,h=>by
  simp only [wznn] at h
  split at h
  ·rename_i v r h1 h2
   cases h
   show ar x :: l.map ar=emS v :: emL r
   rw [(hA.a _ _ h1).1,wzm3 hA h2]; rfl
  ·cases h
theorem wzv0 (hA:Ar φ T G ar hh) {f:FuncId} {nb:Nat} {caps:List AArg} (h:wzq1 H T G f nb caps K=some r):VR φ T G ar hh (.mkfn f nb caps) K r:=by
 unfold wzq1 at h
 split at h
 ·rename_i l h1
  exact .val rfl h fun _=>⟨True,.fn f nb (caps.map ar),rfl,trivial,by rw [wzm3 hA h1]; exact .refl _⟩
 ·cases h
theorem wznv (hA:Ar φ T G ar hh) {d n:Int} {a:Option AArg} (h:bndS T G d a=some n):qz9 ar d a=some n:=by
 unfold bndS at h
 split at h
 ·cases h; rfl
 ·rename_i a
  split at h
  ·rename_i k n' h1
   cases h
   show qzgh (ar a)=_
   rw [(hA.a _ _ h1).1]; rfl
  ·cases h
theorem wztb (hA:Ar φ T G ar hh) {isStr:Bool} {st:Nat} {x:AArg} {lo hi:Option AArg} (h:wzpf H T G isStr st x lo hi K=some r):VR φ T G ar hh (.slice isStr st x lo hi) K r:=by
 unfold wzpf at h
 split at h
 ·cases h
 ·rename_i l hl
  have hl:=wznv hA hl
  split at h
  ·rename_i c m h1
   have e1:ar x=.slc c.n m.length (qzd c.cA m):=(hA.a _ _ h1).1
   split at h
   ·rename_i q hq
    have hq:=wznv hA hq
    replace h:=wziq h
    obtain ⟨hb,h⟩:=h
    obtain rfl:=wzir.1 hb
    have:=wzj4 h
    refine .val rfl this.1 fun ha=>⟨c.n=c.n∧0≤l∧l≤q∧q≤m.length,.slc c.n (q - l).toNat (fun k=>qzd c.cA m (l.toNat+k)),by simp only [AOp.req,hl,e1,hq]; rfl,⟨rfl,vz4 (this.2 ha)⟩,.of_w (wzwp (this.2 ha))⟩
   ·cases h
  ·rename_i id vst h1
   have e1:ar x=.vec id (φ id vst).ep 0 (φ id vst).n:=(hA.a _ _ h1).1
   split at h
   ·rename_i st' c m ho
    split at h
    ·rename_i q hq
     have hq:=wznv hA hq
     replace h:=wziq h
     obtain ⟨hb,h⟩:=h
     replace h:=wziq h
     obtain ⟨hb2,h⟩:=h
     obtain rfl:=wzir.1 hb
     obtain rfl:=wzir.1 hb2
     obtain ⟨e2,e3,e4⟩:=hA.vec ho
     have:=wzj4 h
     rw [e3] at e1
     refine .mk (p:=.vs id vst l q) (rd:=[id]) rfl (hA.a _ _ h1).2.1 this.1 fun ha=>⟨trivial,(φ id vst).ep=(φ id vst).ep∧c.n=c.n∧0≤l∧l≤q∧q≤m.length,.vec id (φ id vst).ep (0+l.toNat) (q - l).toNat,[id],by simp only [AOp.req,hl,e1,hq,e2],⟨rfl,rfl,vz4 (this.2 ha)⟩,by rw [Nat.zero_add]; exact .refl _,fun j hj=>hj⟩
    ·cases h
   ·cases h
  ·rename_i s h1
   have e1:ar x=.str s:=(hA.a _ _ h1).1
   split at h
   ·rename_i q hq
    have hq:=wznv hA hq
    have:=wzj4 h
    exact .val rfl this.1 fun ha=>⟨0≤l∧l≤q∧q≤s.length,.str ((s.drop l.toNat).take (q - l).toNat),by simp only [AOp.req,hl,e1,hq]; rfl,vz4 (this.2 ha),.refl _⟩
   ·cases h
  ·cases h
theorem wztk (hA:Ar φ T G ar hh) {off:Nat} {x:AArg} (h:wzpu H T G off x K=some r):VR φ T G ar hh (.faddr off x) K r:=by
 unfold wzpu at h
 split at h
 ·rename_i id st o h1
  have e1:ar x=.ptr id (φ id st).ep o:=(hA.a _ _ h1).1
  split at h
  ·rename_i st' ob ho
   replace h:=wziq h
   obtain ⟨hb,h⟩:=h
   obtain rfl:=wzir.1 hb
   exact .mk (p:=.ptr id st (o+off)) (rd:=[id]) rfl (hA.a _ _ h1).2.1 h fun ha=>⟨trivial,(φ id st).ep=(hh id).ep,_,[id],by simp only [AOp.req,e1]; rfl,by rw [hA.ep ho],.refl _,fun j hj=>hj⟩
  ·cases h
 ·rename_i id st j o c y h1
  have e1:ar x=.eptr id (φ id st).ep j.toNat o:=(hA.a _ _ h1).1
  split at h
  ·rename_i st' ob ho
   replace h:=wziq h
   obtain ⟨hb,h⟩:=h
   obtain rfl:=wzir.1 hb
   exact .mk (p:=.eptr id st j (o+off) c y) (rd:=[id]) rfl (hA.a _ _ h1).2.1 h fun ha=>⟨(hA.a _ _ h1).2.2 ha,(φ id st).ep=(hh id).ep,_,[id],by simp only [AOp.req,e1]; rfl,by rw [hA.ep ho],.refl _,fun j hj=>hj⟩
  ·cases h
 ·rename_i l o h1
  have e1:ar x=.cptr (fun k=>(emL l).getD k .top) l.length o:=(hA.a _ _ h1).1
  exact .val rfl h fun _=>⟨True,.cptr (fun k=>(emL l).getD k .top) l.length (o+off),by simp only [AOp.req,e1]; rfl,trivial,.refl _⟩
 ·cases h
theorem wzsw [TabOk] (hA:Ar φ T G ar hh) {st:Nat} {x i:AArg} (h:wzoh H T G st x i K=some r):VR φ T G ar hh (.iaddrS st x i) K r:=by
 unfold wzoh at h
 split at h
 ·rename_i c l k j h1 h2
  have e1:ar x=.slc c.n l.length (qzd c.cA l):=(hA.a _ _ h1).1
  have e2:ar i=.int k j:=(hA.a _ _ h2).1
  replace h:=wziq h
  obtain ⟨hb,h⟩:=h
  obtain rfl:=wzir.1 hb
  replace h:=@wzpc _ _ c.inh _ _ _ _ h
  obtain ⟨v,h,hv⟩:=h
  refine .val rfl h fun ha=>?_
  obtain ⟨q1,q2,q3,q4⟩:=wzqq (hv ha)
  refine ⟨c.n=c.n∧0≤j∧j < l.length,.cptr (fun k=>(qzd c.cA l j.toNat).getD k .top) c.n 0,by simp only [AOp.req,e1,e2]; rfl,⟨rfl,q1,q2⟩,?_⟩
  rw [q4,← wzk1]
  show VEq _ (.cptr (fun k=>(emL (wzj2 c v)).getD k .top) (wzj2 c v).length 0)
  rw [wzm1]; exact .refl _
 ·rename_i id vst k j h1 h2
  have e1:ar x=.vec id (φ id vst).ep 0 (φ id vst).n:=(hA.a _ _ h1).1
  have e2:ar i=.int k j:=(hA.a _ _ h2).1
  split at h
  ·rename_i st' c l ho
   replace h:=wziq h
   obtain ⟨hb,h⟩:=h
   replace h:=wziq h
   obtain ⟨hb2,h⟩:=h
   obtain rfl:=wzir.1 hb
   obtain rfl:=wzir.1 hb2
   replace h:=@wzpc _ _ c.inh _ _ _ _ h
   obtain ⟨v,h,hv⟩:=h
   obtain ⟨e3,e4,e5⟩:=hA.vec ho
   refine .mk (p:=.eptr id vst j 0 c v) (rd:=[id]) rfl (hA.a _ _ h1).2.1 h fun ha=>?_
   obtain ⟨q1,q2,q3,q4⟩:=wzqq (hv ha)
   refine ⟨⟨q1,by rw [e4]; exact q3,by rw [e5]; exact q4⟩,(φ id vst).ep=(φ id vst).ep∧c.n=c.n∧0≤j∧j < (φ id vst).n,.eptr id (φ id vst).ep (0+j.toNat) 0,[id],by simp only [AOp.req,e1,e2,e3],⟨rfl,rfl,q1,by rw [e4]; exact q2⟩,by rw [Nat.zero_add]; exact .refl _,fun j hj=>hj⟩
  ·cases h
 ·cases h
theorem wzsv (hA:Ar φ T G ar hh) {nn st:Nat} {x i:AArg} (h:wzoe H T G nn st x i K=some r):VR φ T G ar hh (.iaddrA nn st x i) K r:=by
 unfold wzoe at h
 split at h
 ·rename_i id pst o k j h1 h2
  have e1:ar x=.ptr id (φ id pst).ep o:=(hA.a _ _ h1).1
  have e2:ar i=.int k j:=(hA.a _ _ h2).1
  split at h
  ·rename_i st' ob n ho hj
   obtain rfl:=wzrd hj
   replace h:=wziq h
   obtain ⟨hb,h⟩:=h
   replace h:=wziq h
   obtain ⟨hn,h⟩:=h
   obtain rfl:=wzir.1 hb
   have hn:n < nn:=by simpa [Nat.blt_eq] using hn
   exact .mk (p:=.ptr id pst (o+n*st)) (rd:=[id]) rfl (hA.a _ _ h1).2.1 h fun ha=>⟨trivial,(φ id pst).ep=(hh id).ep∧0≤(n:Int)∧(n:Int) < nn,.ptr id (φ id pst).ep (o+(n:Int).toNat*st),[id],by simp only [AOp.req,e1,e2],⟨by rw [hA.ep ho],by omega,by omega⟩,.refl _,fun j hj=>hj⟩
  ·cases h
 ·rename_i l o k j h1 h2
  have e1:ar x=.cptr (fun k=>(emL l).getD k .top) l.length o:=(hA.a _ _ h1).1
  have e2:ar i=.int k j:=(hA.a _ _ h2).1
  split at h
  ·rename_i n hj
   obtain rfl:=wzrd hj
   replace h:=wziq h
   obtain ⟨hn,h⟩:=h
   have hn:n < nn:=by simpa [Nat.blt_eq] using hn
   exact .val rfl h fun _=>⟨0≤(n:Int)∧(n:Int) < nn,.cptr (fun k=>(emL l).getD k .top) l.length (o+(n:Int).toNat*st),by simp only [AOp.req,e1,e2]; rfl,⟨by omega,by omega⟩,.refl _⟩
  ·cases h
 ·cases h
theorem wzos:∀ {l m:List SV} {e:Bool},eqS l m=some e→wzd (emL l) (emL m)=some e
 | [],[],e,h=>h
 | x :: l,y :: m,e,h=>by
  simp only [eqS] at h
  show (match emS x,emS y,wzd (emL l) (emL m) with
   | .int k a,.int k' b,some e=>if k=k' then some (decide (a=b)&&e) else none
   | .bool a,.bool b,some e=>some ((a==b)&&e)
   | .str a,.str b,some e=>some (decide (a=b)&&e)
   | _,_,_=>none)=some e
  split at h
  ·rename_i h1; rw [wzos h1]; exact h
  ·rename_i h1; rw [wzos h1]; exact h
  ·rename_i h1; rw [wzos h1]; exact h
  ·cases h
 | [],_ :: _,e,h=>by cases h
 | _ :: _,[],e,h=>by cases h
theorem wzt3 (v:SV):wzqb v=(emS v).kind:=by cases v<;>rfl
theorem wzop:∀ {l:List SV} {sh:List Nat},wznt l sh=true→(emL l).map AVal.kind=sh
 | [],[],_=>rfl
 | x :: l,n :: m,h=>by
  have h:kond (Nat.beq (wzqb x) n) (wznt l m) false=true:=h
  cases hb:Nat.beq (wzqb x) n
  ·rw [hb] at h; cases h
  ·rw [hb] at h
   show (emS x).kind :: (emL l).map AVal.kind=_
   rw [wzop h,← wzt3,wzir.1 hb]
 | [],_ :: _,h=>by cases h
 | _ :: _,[],h=>by cases h
theorem wztc (hA:Ar φ T G ar hh) {sh:List Nat} {ng:Bool} {x y:AArg} (h:wzpv H T G sh ng x y K=some r):VR φ T G ar hh (.eqagg sh ng x y) K r:=by
 unfold wzpv at h
 split at h
 ·rename_i l m h1 h2
  have e1:ar x=.agg (emL l):=(hA.a _ _ h1).1
  have e2:ar y=.agg (emL m):=(hA.a _ _ h2).1
  split at h
  ·rename_i e he
   replace h:=wziq h
   obtain ⟨hk,h⟩:=h
   refine .val rfl h fun _=>⟨(emL l).map AVal.kind=sh,.bool (if ng then !e else e),by simp only [AOp.req,e1,e2,wzos he]; rfl,wzop hk,?_⟩
   cases ng<;>exact .refl _
  ·cases h
 ·cases h
theorem wzmi (hA:Ar φ T G ar hh):∀ {ps:List (Nat×Nat×AArg)} {l m:List SV},wzmp T G l ps=some m→jzv ar (emL l) ps=some (emL m)
 | [],l,m,h=>by cases h; rfl
 | (off,sz,x) :: ps,l,m,h=>by
  simp only [wzmp] at h
  split at h
  ·rename_i v hv
   split at h
   ·rename_i p hp
    replace h:=wziq h
    obtain ⟨h1,h⟩:=h
    replace h:=wziq h
    obtain ⟨h2,h⟩:=h
    have h1:=wzir.1 h1
    have h2:=Nat.le_of_ble_eq_true h2
    have e:ar x=emS v:=(hA.a _ _ hv).1
    simp only [jzv,e,wzmj hp,wziw]
    rw [if_pos ⟨h1,h2⟩,← wzpn]
    exact wzmi hA h
   ·cases h
  ·cases h
theorem wztq (hA:Ar φ T G ar hh) {zero:List AVal} {ps:List (Nat×Nat×AArg)} (h:wzpw H T G zero ps K=some r):VR φ T G ar hh (.build zero ps) K r:=by
 unfold wzpw at h
 split at h
 ·rename_i z hz
  split at h
  ·rename_i l hl
   have:=wzmi hA hl
   rw [wzk3 hz] at this
   exact .val rfl h fun _=>⟨True,.agg (emL l),by simp only [AOp.req,this]; rfl,trivial,.refl _⟩
  ·cases h
 ·cases h
theorem wzv7 (hA:Ar φ T G ar hh) {x:AArg} (h:wzrw H T G x K=some r):VR φ T G ar hh (.b2s x) K r:=by
 unfold wzrw at h
 split at h
 ·rename_i l h1
  have e1:ar x=.slc 1 l.length (qzd (cI .u8) l):=(hA.a _ _ h1).1
  exact .val rfl h fun _=>⟨True∧1=1,.str (vzg l),wztm (l:=l) e1,⟨trivial,rfl⟩,.refl _⟩
 ·rename_i id vst h1
  have e1:ar x=.vec id (φ id vst).ep 0 (φ id vst).n:=(hA.a _ _ h1).1
  split at h
  ·rename_i st' l ho
   replace h:=wziq h
   obtain ⟨hb,h⟩:=h
   obtain rfl:=wzir.1 hb
   obtain ⟨e2,e3,e4⟩:=hA.vec ho
   have e2:hh id=.vec (φ id vst).ep 1 l.length (qzd (cI .u8) l):=e2
   rw [e3] at e1
   exact .valR rfl h fun _=>⟨((φ id vst).ep=(φ id vst).ep∧0+l.length≤l.length)∧1=1,.str (vzg l),wztw (l:=l) e1 e2,⟨⟨rfl,by omega⟩,rfl⟩,.refl _⟩
  ·cases h
 ·cases h
def Pk (φ:Phi) (T:TSt) (ar:AArg→AVal):Prop:=∀ a n w b x,argP T (some (n,w,w)) a=some x→ar (.t n)=.bool b→unv (ar a)=eP φ x∧unc (kond w b (!b)) (ar a)
theorem wzqk (hA:Ar φ T G ar hh) (hP:Pk φ T ar) {n:Nat} {w b:Bool} {a:AArg} {x:PV} (h:wznp T G n w a=some x) (hb:ar (.t n)=.bool b):unv (ar a)=eP φ x∧unc (kond w b (!b)) (ar a):=by
 cases G with
 | none=>exact hP a n w b x h hb
 | some g =>
  have h:(match argP T (some g) a with | some p=>some p | none=>argP T (some (n,w,w)) a)=some x:=h
  split at h
  ·rename_i p hp
   cases h
   have h1:=(hA.a _ _ hp).1
   rw [h1]
   exact ⟨wzm7 _,wzni _ _⟩
  ·exact hP a n w b x h hb
theorem wzu7 (hA:Ar φ T G ar hh) (hP:Pk φ T ar) {c x y:AArg} (h:wzm8 H T G c x y K=some r):VR φ T G ar hh (.pick c x y) K r:=by
 unfold wzm8 at h
 split at h
 ·rename_i n
  split at h
  ·rename_i b hb
   have e0:ar (.t n)=.bool b:=(hA.a _ _ hb).1
   have key:∀ p q,wznp T G n true x=some (.s p)→wznp T G n false y=some (.s q)→(unv (ar x)=emS p∧unc b (ar x))∧(unv (ar y)=emS q∧unc (!b) (ar y)):=fun p q hp hq=>⟨wzqk hA hP hp e0,wzqk hA hP hq e0⟩
   split at h
   ·rename_i p q hp hq
    obtain ⟨⟨a1,a2⟩,a3,a4⟩:=key _ _ hp hq
    refine .val rfl h fun _=>⟨unc b (ar x)∧unc (!b) (ar y),.bool (bif b then p else q),?_,⟨a2,a4⟩,.refl _⟩
    simp only [AOp.req,e0,jzp,a1,a3,emS]; rfl
   ·rename_i k p k' q hp hq
    replace h:=wziq h; rw [decide_eq_true_eq] at h
    obtain ⟨rfl,h⟩:=h
    obtain ⟨⟨a1,a2⟩,a3,a4⟩:=key _ _ hp hq
    refine .val rfl h fun _=>⟨unc b (ar x)∧unc (!b) (ar y),.int k (bif b then p else q),?_,⟨a2,a4⟩,.refl _⟩
    simp only [AOp.req,e0,jzp,a1,a3,emS]; simp [Req.when]
   ·cases h
  ·cases h
 ·cases h
theorem wznk [TabOk] {c:CT} {st:Nat}:∀ {n:Nat} {l:List SV} {m:List c.T},wznj c st n l=some m→l.length=n*st→m.length=n∧vz6 (emL l)=true∧∀ k,k < n→Ws ((kz1 st n (emL l)).getD k []) (qzd c.cA m k)
 | 0,l,m,h,hl=>by
  cases h
  have:l=[]:=List.length_eq_zero_iff.1 (by omega)
  subst this
  exact ⟨rfl,rfl,fun k hk=>by omega⟩
 | n+1,l,m,h,hl=>by
  simp only [wznj] at h
  split at h
  ·rename_i x q h1 h2
   cases h
   have hl2:(l.drop st).length=n*st:=by rw [List.length_drop,hl,Nat.succ_mul]; omega
   obtain ⟨a,b,d⟩:=wznk h2 hl2
   obtain ⟨p1,p2⟩:=wzke h1
   refine ⟨by rw [List.length_cons,a],?_,fun k hk=>?_⟩
   ·rw [← List.take_append_drop st l,wzl1,wzkv,p2,b]; rfl
   ·cases k with
    | zero=>show Ws ((emL l).take st) (c.cA x); rw [← wzm4]; exact p1
    | succ k =>
     show Ws ((kz1 st n ((emL l).drop st)).getD k []) (qzd c.cA q k)
     rw [← wzm5]
     exact d k (by omega)
  ·cases h
theorem wzs4 [TabOk] (hA:Ar φ T G ar hh) (hpl:∀ i,(hh i).plain) {ty:List (Nat×CT)} {s st nn:Nat} {zero:List AVal} {ps:List (Nat×Nat×AArg)} (h:wzn6 ty T G s st nn zero ps K=some r):VR φ T G ar hh (.fslice s st nn zero ps) K r:=by
 unfold wzn6 at h
 split at h
 ·rename_i z hz
  split at h
  ·rename_i l hl
   have hf:=wzmi hA hl
   rw [wzk3 hz] at hf
   replace h:=wziq h
   obtain ⟨h1,h⟩:=h
   replace h:=wziq h
   obtain ⟨h2,h⟩:=h
   replace h:=wziq h
   obtain ⟨h3,h⟩:=h
   have h1:=wzir.1 h1
   have h2:=wzir.1 h2
   have h3:0 < st:=by simpa [Nat.blt_eq] using h3
   split at h
   ·rename_i m hm
    obtain ⟨c1,c2,c3⟩:=wznk hm h1
    have hreq:(AOp.fslice s st nn zero ps).req ar hh=⟨(hh s).plain∧(emL l).length=nn*st∧0 < st∧vz6 (emL l)=true,[s],.slc st nn (fun i=>(kz1 st nn (emL l)).getD i []),some (s,hh s)⟩:=by
     simp only [AOp.req,hf]
    refine ⟨_,_,h,trivial,rfl,fun _=>⟨trivial,by rw [hreq]; exact ⟨hpl s,by rw [wziw,h1],h3,c2⟩,?_,by rw [hreq]; exact fun j hj=>hj,by rw [hreq]; exact rfl⟩⟩
    rw [hreq]
    refine .of_w ?_
    show W _ (.slc (wzi5 s ty).n m.length (qzd (wzi5 s ty).cA m))
    exact qzpo.2 ⟨h2.symm,c1.symm,c3⟩
   ·cases h
  ·cases h
 ·cases h
theorem wzsj [TabOk] (hA:Ar φ T G ar hh) (hP:Pk φ T ar) (hpl:∀ i,(hh i).plain) {ty:List (Nat×CT)} {o:AOp} (hc:o.isCall=false) (h:opV H ty T G o K=some r):VR φ T G ar hh o K r:=by
 cases o<;>simp only [opV] at h<;>first
  | (cases h; done) | (cases hc; done)
  | exact wzwt hA h | exact wzu7 hA hP h | exact wzwd hA h | exact wzv9 hA h | exact wzwb hA h | exact wzv3 hA h | exact wzt0 hA h | exact wzu5 hA h | exact wzv0 hA h | exact wztb hA h
  | exact wztk hA h | exact wzsw hA h | exact wzsv hA h | exact wzt7 hA h | exact wzr5 hA h | exact wzu8 hA h | exact wzv5 hA h | exact wztc hA h | exact wzv4 hA h | exact wzwn hA h | exact wztq hA h | exact wzv7 hA h | exact wzs4 hA hpl h
end
end
end Go.Am

