/- Part F1 of the proof that the last part closes: the functions of this seat as functions of plain values. No condition. -/
import Derived.Test.YtomegmhiddbmbaaGreatDoorX1
set_option linter.unusedVariables false
namespace Go.Am
structure wz2c where
 From:Int
 Stages:List Int
deriving DecidableEq,Inhabited
structure qza where
 Neg:Bool
 Num:List UInt8
 Den:List UInt8
deriving DecidableEq,Inhabited
structure wz2g where
 Stage:Int
 Flow:qza
deriving DecidableEq,Inhabited
structure wz2d where
 Points:List wz2g
deriving DecidableEq,Inhabited
structure wz2b where
 From:Int
 To:Int
 Weight:qza
 Datum:Int
 Curve:wz2d
deriving DecidableEq,Inhabited
structure wz2p where
 History:wz2c
 Spans:List wz2b
 Level:qza
deriving DecidableEq,Inhabited
structure wz2v where
 e0:Int
 e1:Int
 e2:Int
deriving DecidableEq,Inhabited
structure wz2e where
 Flow:qza
 Ticks:Int
deriving DecidableEq,Inhabited
structure wz2h where
 From:Int
 To:Int
deriving DecidableEq,Inhabited
structure qzf where
 neg:Bool
 num:List UInt8
 den:List UInt8
deriving DecidableEq,Inhabited
structure wz22 where
 e0:Int
 e1:Int
deriving DecidableEq,Inhabited
structure wz2w where
 Stage:Int
 Ticks:Int
deriving DecidableEq,Inhabited
structure wz3g where
 From:Int
 To:Int
 Table:List wz2w
 Lo:Int
 Hi:Int
deriving DecidableEq,Inhabited
structure jzi where
 Q:List UInt8
 R:List UInt8
 E:Int
deriving DecidableEq,Inhabited
structure vzs where
 S:List UInt8
 E:Int
deriving DecidableEq,Inhabited
structure vzu where
 A:qza
 E:Int
deriving DecidableEq,Inhabited
structure wz2f where
 Flow:qza
 Tick:Int
deriving DecidableEq,Inhabited
structure wz2m where
 X:wz2f
 E:Int
deriving DecidableEq,Inhabited
structure wz2l where
 L:List qza
 E:Int
deriving DecidableEq,Inhabited
structure wz2j where
 N:Int
 E:Int
deriving DecidableEq,Inhabited
structure wz2i where
 F:qza
 E:Int
deriving DecidableEq,Inhabited
structure wz2q where
 L:List wz2e
 E:Int
deriving DecidableEq,Inhabited
structure wz2o where
 L:List wz2h
 E:Int
deriving DecidableEq,Inhabited
def wz2k(x y:qza):Bool:=((x.Neg==y.Neg)&&(decide (x.Num=y.Num)&&(decide (x.Den=y.Den)&&true)))
def wz9t(x y:wz2g):Bool:=(decide (x.Stage=y.Stage)&&((x.Flow.Neg==y.Flow.Neg)&&(decide (x.Flow.Num=y.Flow.Num)&&(decide (x.Flow.Den=y.Flow.Den)&&true))))
def wz9a(x y:wz2v):Bool:=(decide (x.e0=y.e0)&&(decide (x.e1=y.e1)&&(decide (x.e2=y.e2)&&true)))
def wz9w(x y:wz2e):Bool:=((x.Flow.Neg==y.Flow.Neg)&&(decide (x.Flow.Num=y.Flow.Num)&&(decide (x.Flow.Den=y.Flow.Den)&&(decide (x.Ticks=y.Ticks)&&true))))
def wz9x(x y:wz2h):Bool:=(decide (x.From=y.From)&&(decide (x.To=y.To)&&true))
def wz8j(x y:qzf):Bool:=((x.neg==y.neg)&&(decide (x.num=y.num)&&(decide (x.den=y.den)&&true)))
def jzaq(x y:wz22):Bool:=(decide (x.e0=y.e0)&&(decide (x.e1=y.e1)&&true))
def jza2(x y:wz2w):Bool:=(decide (x.Stage=y.Stage)&&(decide (x.Ticks=y.Ticks)&&true))
def wz78(x y:jzi):Bool:=(decide (x.Q=y.Q)&&(decide (x.R=y.R)&&(decide (x.E=y.E)&&true)))
def wz86(x y:vzs):Bool:=(decide (x.S=y.S)&&(decide (x.E=y.E)&&true))
def wz87(x y:vzu):Bool:=((x.A.Neg==y.A.Neg)&&(decide (x.A.Num=y.A.Num)&&(decide (x.A.Den=y.A.Den)&&(decide (x.E=y.E)&&true))))
def wz8n(x y:wz2f):Bool:=((x.Flow.Neg==y.Flow.Neg)&&(decide (x.Flow.Num=y.Flow.Num)&&(decide (x.Flow.Den=y.Flow.Den)&&(decide (x.Tick=y.Tick)&&true))))
def wz80(x y:wz2m):Bool:=((x.X.Flow.Neg==y.X.Flow.Neg)&&(decide (x.X.Flow.Num=y.X.Flow.Num)&&(decide (x.X.Flow.Den=y.X.Flow.Den)&&(decide (x.X.Tick=y.X.Tick)&&(decide (x.E=y.E)&&true)))))
def wz79(x y:wz2j):Bool:=(decide (x.N=y.N)&&(decide (x.E=y.E)&&true))
def wz7t(x y:wz2i):Bool:=((x.F.Neg==y.F.Neg)&&(decide (x.F.Num=y.F.Num)&&(decide (x.F.Den=y.F.Den)&&(decide (x.E=y.E)&&true))))
def yzz(l:List Int):Option (List Int):=ck (decide (List.length l≤4611686018427387904)) (some l.reverse)
def wz2r(m:List (qza×Int))(cmp:qza→qza→Option Int):Option (List qza):=wz8q cmp (m.map (·.1))
def vzi(l:List Int):Option (List Int):=ck (decide (0<List.length l)&&decide (List.length l*4≤140737488355328)) (some l)
def wz5o(a0:List qza)(b1:List qza):Int→Option (Int⊕(Unit⊕Bool)):=fun s=>match s with
 |k5 =>
  ite' (decide (k5<(List.length a0:Int))) (
   bd (at? a0 k5) fun x1 =>
   bd (at? b1 k5) fun x2 =>
   ite' (!((x1.Neg==x2.Neg)&&(decide (x1.Num=x2.Num)&&(decide (x1.Den=x2.Den)&&true)))) (
    some (.inr (.inr false))
    ) (
    ck (inB .i64 (k5+1)) <|
    some (.inl (k5+1))
    )
   ) (
   some (.inr (.inl ()))
   )
def wz4h(a0:List qza)(b1:List qza):Option (Bool) :=
 ite' (!decide ((List.length a0:Int)=(List.length b1:Int))) (
  some false
  ) (
  bd (lp (wz5o a0 b1) 0)<|fun o=>match o with
  | .inl ()=>(
    some true
   )
  | .inr o=>(
    some o
   )
  )
def wz7a(a0:List wz2e)(b1:List wz2e):Int→Option (Int⊕(Unit⊕Bool)):=fun s=>match s with
 |k5 =>
  ite' (decide (k5<(List.length a0:Int))) (
   bd (at? a0 k5) fun x1 =>
   bd (at? b1 k5) fun x2 =>
   ite' (!((x1.Flow.Neg==x2.Flow.Neg)&&(decide (x1.Flow.Num=x2.Flow.Num)&&(decide (x1.Flow.Den=x2.Flow.Den)&&(decide (x1.Ticks=x2.Ticks)&&true))))) (
    some (.inr (.inr false))
    ) (
    ck (inB .i64 (k5+1)) <|
    some (.inl (k5+1))
    )
   ) (
   some (.inr (.inl ()))
   )
def wz59(a0:List wz2e)(b1:List wz2e):Option (Bool) :=
 ite' (!decide ((List.length a0:Int)=(List.length b1:Int))) (
  some false
  ) (
  bd (lp (wz7a a0 b1) 0)<|fun o=>match o with
  | .inl ()=>(
    some true
   )
  | .inr o=>(
    some o
   )
  )
def wz7i(a0:List wz2h)(b1:List wz2h):Int→Option (Int⊕(Unit⊕Bool)):=fun s=>match s with
 |k5 =>
  ite' (decide (k5<(List.length a0:Int))) (
   bd (at? a0 k5) fun x1 =>
   bd (at? b1 k5) fun x2 =>
   ite' (!(decide (x1.From=x2.From)&&(decide (x1.To=x2.To)&&true))) (
    some (.inr (.inr false))
    ) (
    ck (inB .i64 (k5+1)) <|
    some (.inl (k5+1))
    )
   ) (
   some (.inr (.inl ()))
   )
def wz6e(a0:List wz2h)(b1:List wz2h):Option (Bool) :=
 ite' (!decide ((List.length a0:Int)=(List.length b1:Int))) (
  some false
  ) (
  bd (lp (wz7i a0 b1) 0)<|fun o=>match o with
  | .inl ()=>(
    some true
   )
  | .inr o=>(
    some o
   )
  )
def jzmv(l0:List wz2b):(Int×Int)→Option ((Int×Int)⊕Int):=fun s=>match s with
 |(n3,t8) =>
  ite' (decide (t8<(List.length l0:Int))) (
   bd (at? l0 t8) fun x1 =>
   ck (inB .i64 (x1.To-x1.From)) <|
   ck (inB .i64 (n3+(x1.To-x1.From))) <|
   ck (inB .i64 (t8+1)) <|
   some (.inl ((n3+(x1.To-x1.From)),(t8+1)))
   ) (
   some (.inr n3)
   )
def jzmr(l0:List wz2b):Option (Int) :=
 bd (lp (jzmv l0) (0,0))<|fun n3 =>
 some n3
def kze(f1:wz2e→Option Bool)(as0:List wz2e):Int→Option (Int⊕(Unit⊕Int)):=fun s=>match s with
 |t8 =>
  ite' (decide (t8<(List.length as0:Int))) (
   bd (at? as0 t8) fun x1 =>
   bd (f1 x1) fun r1 =>
   ite' r1 (
    some (.inr (.inr t8))
    ) (
    ck (inB .i64 (t8+1)) <|
    some (.inl (t8+1))
    )
   ) (
   some (.inr (.inl ()))
   )
def qzas(as0:List wz2e)(f1:wz2e→Option Bool):Option (Int) :=
 bd (lp (kze f1 as0) 0)<|fun o=>match o with
 | .inl ()=>(
   some (-1)
  )
 | .inr o=>(
   some o
  )
def wz3v(ax0:wz2e)(c0:Int):Option (Bool) :=
 some (decide (c0≤ax0.Ticks))
def yzy(n0:Int):Option (Bool) :=
 some (bif (decide ((-999999999999999)≤n0)) then(decide (n0≤999999999999999)) else false)
def wz3h(before1:qza→qza→Option Bool):(Int×qza)→(Int×qza×Bool)→Option ((Int×qza×Bool)⊕Unit):=fun x s=>match s with
 |(b1,b2,b3) =>
  bd (gd (!(!b3)) (before1 x.2 b2)) fun r1 =>
  ite' (bif (!b3) then true else r1) (
   some (.inl (x.1,x.2,true))
   ) (
   some (.inl (b1,b2,b3))
   )
def wz6l(all0:(List (Int×qza)→Option Bool)→Option (List (Int×qza)))(before1:qza→qza→Option Bool):Option (Int×qza×Bool) :=
 bd (all0 (fun l=>wz4k (wz3h before1) l (0,(qza.mk false [] []),false))) fun l =>
 bd (wz20 (wz3h before1) l (0,(qza.mk false [] []),false)) fun o=>match o with
 | .inl (b1,b2,b3)=>(
   some (b1,b2,b3)
  )
 |.inr _=>none
def wz5j(as0:Int):Option (Bool) :=
 some (bif (decide (as0<0)) then true else(decide (1000<as0)))
def qzcb(a0:List UInt8):Option (Bool) :=
 ck (!(!(decide (a0=[])))||(qzf7 a0 0)) <|
 some (bif (decide (a0=[])) then true else(!decide ((wzw a0 0)=0)))
def vzd :(List Int)→Option ((List Int)⊕(List Int)):=fun s=>match s with
 |x0 =>
  ck (!(decide (0<(List.length x0:Int)))||inB .i64 ((List.length x0:Int)-1)) <|
  bd (gd (decide (0<(List.length x0:Int))) (at? x0 ((List.length x0:Int)-1))) fun x1 =>
  ite' (bif (decide (0<(List.length x0:Int))) then(decide (x1=0)) else false) (
   ck (inB .i64 ((List.length x0:Int)-1)) <|
   ck (kzy x0 0 ((List.length x0:Int)-1)) <|
   some (.inl (sub x0 0 ((List.length x0:Int)-1)))
   ) (
   some (.inr x0)
   )
def qzx(ax0:List Int):Option ((List Int)) :=
 bd (lp (vzd) ax0)<|fun x0 =>
 some x0
def wz3d(f1:Int→Option Bool)(as0:List Int):Int→Option (Int⊕(Unit⊕Int)):=fun s=>match s with
 |t8 =>
  ite' (decide (t8<(List.length as0:Int))) (
   bd (at? as0 t8) fun x1 =>
   bd (f1 x1) fun r1 =>
   ite' r1 (
    some (.inr (.inr t8))
    ) (
    ck (inB .i64 (t8+1)) <|
    some (.inl (t8+1))
    )
   ) (
   some (.inr (.inl ()))
   )
def wz29(as0:List Int)(f1:Int→Option Bool):Option (Int) :=
 bd (lp (wz3d f1 as0) 0)<|fun o=>match o with
 | .inl ()=>(
   some (-1)
  )
 | .inr o=>(
   some o
  )
def wz5p(stage0:Int):Option (Bool) :=
 some (bif (decide ((-1000)≤stage0)) then(decide (stage0≤2000)) else false)
def wz5f(f1:Int→Option Bool):(Int×Int)→Option ((Int×Int)⊕Int):=fun s=>match s with
 |(i5,j6) =>
  ite' (decide (i5<j6)) (
   ck (inB .i64 (i5+j6)) <|
   ck (inB .i64 (Int.fdiv ((i5+j6)%18446744073709551616) 2)) <|
   bd (f1 (Int.fdiv ((i5+j6)%18446744073709551616) 2)) fun r1 =>
   ite' (!r1) (
    ck (inB .i64 ((Int.fdiv ((i5+j6)%18446744073709551616) 2)+1)) <|
    some (.inl (((Int.fdiv ((i5+j6)%18446744073709551616) 2)+1),j6))
    ) (
    some (.inl (i5,(Int.fdiv ((i5+j6)%18446744073709551616) 2)))
    )
   ) (
   some (.inr i5)
   )
def wz4u(n0:Int)(f1:Int→Option Bool):Option (Int) :=
 bd (lp (wz5f f1) (0,n0))<|fun i5 =>
 some i5
def wz39(k0:Int)(c0:wz2d)(c1:Int):Option (Bool) :=
 bd (at? c0.Points k0) fun x1 =>
 some (decide (c1<x1.Stage))
def wzky(a0:List UInt8):Int→Option (Int⊕Int):=fun s=>match s with
 |k3 =>
  ck (!(decide (k3<(List.length a0:Int)))||(qzf7 a0 k3)) <|
  ite' (bif (decide (k3<(List.length a0:Int))) then(decide ((wzw a0 k3)=0)) else false) (
   ck (inB .i64 (k3+1)) <|
   some (.inl (k3+1))
   ) (
   some (.inr k3)
   )
def wziv(a0:List UInt8):Option ((List UInt8)) :=
 bd (lp (wzky a0) 0)<|fun k3 =>
 ck (kzy a0 k3 (List.length a0:Int)) <|
 some (sub a0 k3 (List.length a0:Int))
def wzi9(a0:qza):Option ((List UInt8)×(List UInt8)) :=
 ite' (decide (a0.Num=[])) (
  some ([],[1])
  ) (
  some (a0.Num,a0.Den)
  )
def wzj6(a0:List UInt8)(b1:List UInt8):Option (Int) :=
 bd (wziv a0) fun r1 =>
 bd (wziv b1) fun r2 =>
 ite' (decide (r1=r2)) (
  some 0
  ) (
  ite' (bif (decide ((List.length r1:Int)<(List.length r2:Int))) then true else(bif (decide ((List.length r1:Int)=(List.length r2:Int))) then(Op.bytesLess r1 r2) else false)) (
   some (-1)
   ) (
   some 1
   )
  )
def jza8(ax0:Int):Option (Int) :=
 bd (α:=Int×Int) (
  ite' (decide (65536≤ax0)) (
   some ((Int.fdiv ax0 65536),16)
   ) (
   some (ax0,0)
   )
 )<|fun(x0,n2) =>
  ite' (decide (256≤x0)) (
   ck (inB .i64 (n2+8)) <|
   ck (qzf7 [0,1,2,2,3,3,3,3,4,4,4,4,4,4,4,4,5,5,5,5,5,5,5,5,5,5,5,5,5,5,5,5,6,6,6,6,6,6,6,6,6,6,6,6,6,6,6,6,6,6,6,6,6,6,6,6,6,6,6,6,6,6,6,6,7,7,7,7,7,7,7,7,7,7,7,7,7,7,7,7,7,7,7,7,7,7,7,7,7,7,7,7,7,7,7,7,7,7,7,7,7,7,7,7,7,7,7,7,7,7,7,7,7,7,7,7,7,7,7,7,7,7,7,7,7,7,7,7,8,8,8,8,8,8,8,8,8,8,8,8,8,8,8,8,8,8,8,8,8,8,8,8,8,8,8,8,8,8,8,8,8,8,8,8,8,8,8,8,8,8,8,8,8,8,8,8,8,8,8,8,8,8,8,8,8,8,8,8,8,8,8,8,8,8,8,8,8,8,8,8,8,8,8,8,8,8,8,8,8,8,8,8,8,8,8,8,8,8,8,8,8,8,8,8,8,8,8,8,8,8,8,8,8,8,8,8,8,8,8,8,8,8,8,8,8,8,8,8,8,8,8,8,8,8,8,8] ((Int.fdiv x0 256)%256)) <|
   ck (inB .i64 (wzw [0,1,2,2,3,3,3,3,4,4,4,4,4,4,4,4,5,5,5,5,5,5,5,5,5,5,5,5,5,5,5,5,6,6,6,6,6,6,6,6,6,6,6,6,6,6,6,6,6,6,6,6,6,6,6,6,6,6,6,6,6,6,6,6,7,7,7,7,7,7,7,7,7,7,7,7,7,7,7,7,7,7,7,7,7,7,7,7,7,7,7,7,7,7,7,7,7,7,7,7,7,7,7,7,7,7,7,7,7,7,7,7,7,7,7,7,7,7,7,7,7,7,7,7,7,7,7,7,8,8,8,8,8,8,8,8,8,8,8,8,8,8,8,8,8,8,8,8,8,8,8,8,8,8,8,8,8,8,8,8,8,8,8,8,8,8,8,8,8,8,8,8,8,8,8,8,8,8,8,8,8,8,8,8,8,8,8,8,8,8,8,8,8,8,8,8,8,8,8,8,8,8,8,8,8,8,8,8,8,8,8,8,8,8,8,8,8,8,8,8,8,8,8,8,8,8,8,8,8,8,8,8,8,8,8,8,8,8,8,8,8,8,8,8,8,8,8,8,8,8,8,8,8,8,8,8] ((Int.fdiv x0 256)%256))) <|
   ck (inB .i64 ((n2+8)+(wzw [0,1,2,2,3,3,3,3,4,4,4,4,4,4,4,4,5,5,5,5,5,5,5,5,5,5,5,5,5,5,5,5,6,6,6,6,6,6,6,6,6,6,6,6,6,6,6,6,6,6,6,6,6,6,6,6,6,6,6,6,6,6,6,6,7,7,7,7,7,7,7,7,7,7,7,7,7,7,7,7,7,7,7,7,7,7,7,7,7,7,7,7,7,7,7,7,7,7,7,7,7,7,7,7,7,7,7,7,7,7,7,7,7,7,7,7,7,7,7,7,7,7,7,7,7,7,7,7,8,8,8,8,8,8,8,8,8,8,8,8,8,8,8,8,8,8,8,8,8,8,8,8,8,8,8,8,8,8,8,8,8,8,8,8,8,8,8,8,8,8,8,8,8,8,8,8,8,8,8,8,8,8,8,8,8,8,8,8,8,8,8,8,8,8,8,8,8,8,8,8,8,8,8,8,8,8,8,8,8,8,8,8,8,8,8,8,8,8,8,8,8,8,8,8,8,8,8,8,8,8,8,8,8,8,8,8,8,8,8,8,8,8,8,8,8,8,8,8,8,8,8,8,8,8,8,8] ((Int.fdiv x0 256)%256)))) <|
   some ((n2+8)+(wzw [0,1,2,2,3,3,3,3,4,4,4,4,4,4,4,4,5,5,5,5,5,5,5,5,5,5,5,5,5,5,5,5,6,6,6,6,6,6,6,6,6,6,6,6,6,6,6,6,6,6,6,6,6,6,6,6,6,6,6,6,6,6,6,6,7,7,7,7,7,7,7,7,7,7,7,7,7,7,7,7,7,7,7,7,7,7,7,7,7,7,7,7,7,7,7,7,7,7,7,7,7,7,7,7,7,7,7,7,7,7,7,7,7,7,7,7,7,7,7,7,7,7,7,7,7,7,7,7,8,8,8,8,8,8,8,8,8,8,8,8,8,8,8,8,8,8,8,8,8,8,8,8,8,8,8,8,8,8,8,8,8,8,8,8,8,8,8,8,8,8,8,8,8,8,8,8,8,8,8,8,8,8,8,8,8,8,8,8,8,8,8,8,8,8,8,8,8,8,8,8,8,8,8,8,8,8,8,8,8,8,8,8,8,8,8,8,8,8,8,8,8,8,8,8,8,8,8,8,8,8,8,8,8,8,8,8,8,8,8,8,8,8,8,8,8,8,8,8,8,8,8,8,8,8,8,8] ((Int.fdiv x0 256)%256)))
   ) (
   ck (qzf7 [0,1,2,2,3,3,3,3,4,4,4,4,4,4,4,4,5,5,5,5,5,5,5,5,5,5,5,5,5,5,5,5,6,6,6,6,6,6,6,6,6,6,6,6,6,6,6,6,6,6,6,6,6,6,6,6,6,6,6,6,6,6,6,6,7,7,7,7,7,7,7,7,7,7,7,7,7,7,7,7,7,7,7,7,7,7,7,7,7,7,7,7,7,7,7,7,7,7,7,7,7,7,7,7,7,7,7,7,7,7,7,7,7,7,7,7,7,7,7,7,7,7,7,7,7,7,7,7,8,8,8,8,8,8,8,8,8,8,8,8,8,8,8,8,8,8,8,8,8,8,8,8,8,8,8,8,8,8,8,8,8,8,8,8,8,8,8,8,8,8,8,8,8,8,8,8,8,8,8,8,8,8,8,8,8,8,8,8,8,8,8,8,8,8,8,8,8,8,8,8,8,8,8,8,8,8,8,8,8,8,8,8,8,8,8,8,8,8,8,8,8,8,8,8,8,8,8,8,8,8,8,8,8,8,8,8,8,8,8,8,8,8,8,8,8,8,8,8,8,8,8,8,8,8,8,8] (x0%256)) <|
   ck (inB .i64 (wzw [0,1,2,2,3,3,3,3,4,4,4,4,4,4,4,4,5,5,5,5,5,5,5,5,5,5,5,5,5,5,5,5,6,6,6,6,6,6,6,6,6,6,6,6,6,6,6,6,6,6,6,6,6,6,6,6,6,6,6,6,6,6,6,6,7,7,7,7,7,7,7,7,7,7,7,7,7,7,7,7,7,7,7,7,7,7,7,7,7,7,7,7,7,7,7,7,7,7,7,7,7,7,7,7,7,7,7,7,7,7,7,7,7,7,7,7,7,7,7,7,7,7,7,7,7,7,7,7,8,8,8,8,8,8,8,8,8,8,8,8,8,8,8,8,8,8,8,8,8,8,8,8,8,8,8,8,8,8,8,8,8,8,8,8,8,8,8,8,8,8,8,8,8,8,8,8,8,8,8,8,8,8,8,8,8,8,8,8,8,8,8,8,8,8,8,8,8,8,8,8,8,8,8,8,8,8,8,8,8,8,8,8,8,8,8,8,8,8,8,8,8,8,8,8,8,8,8,8,8,8,8,8,8,8,8,8,8,8,8,8,8,8,8,8,8,8,8,8,8,8,8,8,8,8,8,8] (x0%256))) <|
   ck (inB .i64 (n2+(wzw [0,1,2,2,3,3,3,3,4,4,4,4,4,4,4,4,5,5,5,5,5,5,5,5,5,5,5,5,5,5,5,5,6,6,6,6,6,6,6,6,6,6,6,6,6,6,6,6,6,6,6,6,6,6,6,6,6,6,6,6,6,6,6,6,7,7,7,7,7,7,7,7,7,7,7,7,7,7,7,7,7,7,7,7,7,7,7,7,7,7,7,7,7,7,7,7,7,7,7,7,7,7,7,7,7,7,7,7,7,7,7,7,7,7,7,7,7,7,7,7,7,7,7,7,7,7,7,7,8,8,8,8,8,8,8,8,8,8,8,8,8,8,8,8,8,8,8,8,8,8,8,8,8,8,8,8,8,8,8,8,8,8,8,8,8,8,8,8,8,8,8,8,8,8,8,8,8,8,8,8,8,8,8,8,8,8,8,8,8,8,8,8,8,8,8,8,8,8,8,8,8,8,8,8,8,8,8,8,8,8,8,8,8,8,8,8,8,8,8,8,8,8,8,8,8,8,8,8,8,8,8,8,8,8,8,8,8,8,8,8,8,8,8,8,8,8,8,8,8,8,8,8,8,8,8,8] (x0%256)))) <|
   some (n2+(wzw [0,1,2,2,3,3,3,3,4,4,4,4,4,4,4,4,5,5,5,5,5,5,5,5,5,5,5,5,5,5,5,5,6,6,6,6,6,6,6,6,6,6,6,6,6,6,6,6,6,6,6,6,6,6,6,6,6,6,6,6,6,6,6,6,7,7,7,7,7,7,7,7,7,7,7,7,7,7,7,7,7,7,7,7,7,7,7,7,7,7,7,7,7,7,7,7,7,7,7,7,7,7,7,7,7,7,7,7,7,7,7,7,7,7,7,7,7,7,7,7,7,7,7,7,7,7,7,7,8,8,8,8,8,8,8,8,8,8,8,8,8,8,8,8,8,8,8,8,8,8,8,8,8,8,8,8,8,8,8,8,8,8,8,8,8,8,8,8,8,8,8,8,8,8,8,8,8,8,8,8,8,8,8,8,8,8,8,8,8,8,8,8,8,8,8,8,8,8,8,8,8,8,8,8,8,8,8,8,8,8,8,8,8,8,8,8,8,8,8,8,8,8,8,8,8,8,8,8,8,8,8,8,8,8,8,8,8,8,8,8,8,8,8,8,8,8,8,8,8,8,8,8,8,8,8,8] (x0%256)))
   )
def wz7x(ax0:Int):Option (Int) :=
 bd (α:=Int×Int) (
  ite' (decide (4294967296≤ax0)) (
   some ((Int.fdiv ax0 4294967296),32)
   ) (
   some (ax0,0)
   )
 )<|fun(x0,n2) =>
  bd (α:=Int×Int) (
   ite' (decide (65536≤x0)) (
    ck (inB .i64 (n2+16)) <|
    some ((Int.fdiv x0 65536),(n2+16))
    ) (
    some (x0,n2)
    )
  )<|fun(x0',n2') =>
   ite' (decide (256≤x0')) (
    ck (inB .i64 (n2'+8)) <|
    ck (qzf7 [0,1,2,2,3,3,3,3,4,4,4,4,4,4,4,4,5,5,5,5,5,5,5,5,5,5,5,5,5,5,5,5,6,6,6,6,6,6,6,6,6,6,6,6,6,6,6,6,6,6,6,6,6,6,6,6,6,6,6,6,6,6,6,6,7,7,7,7,7,7,7,7,7,7,7,7,7,7,7,7,7,7,7,7,7,7,7,7,7,7,7,7,7,7,7,7,7,7,7,7,7,7,7,7,7,7,7,7,7,7,7,7,7,7,7,7,7,7,7,7,7,7,7,7,7,7,7,7,8,8,8,8,8,8,8,8,8,8,8,8,8,8,8,8,8,8,8,8,8,8,8,8,8,8,8,8,8,8,8,8,8,8,8,8,8,8,8,8,8,8,8,8,8,8,8,8,8,8,8,8,8,8,8,8,8,8,8,8,8,8,8,8,8,8,8,8,8,8,8,8,8,8,8,8,8,8,8,8,8,8,8,8,8,8,8,8,8,8,8,8,8,8,8,8,8,8,8,8,8,8,8,8,8,8,8,8,8,8,8,8,8,8,8,8,8,8,8,8,8,8,8,8,8,8,8,8] ((Int.fdiv x0' 256)%256)) <|
    ck (inB .i64 (wzw [0,1,2,2,3,3,3,3,4,4,4,4,4,4,4,4,5,5,5,5,5,5,5,5,5,5,5,5,5,5,5,5,6,6,6,6,6,6,6,6,6,6,6,6,6,6,6,6,6,6,6,6,6,6,6,6,6,6,6,6,6,6,6,6,7,7,7,7,7,7,7,7,7,7,7,7,7,7,7,7,7,7,7,7,7,7,7,7,7,7,7,7,7,7,7,7,7,7,7,7,7,7,7,7,7,7,7,7,7,7,7,7,7,7,7,7,7,7,7,7,7,7,7,7,7,7,7,7,8,8,8,8,8,8,8,8,8,8,8,8,8,8,8,8,8,8,8,8,8,8,8,8,8,8,8,8,8,8,8,8,8,8,8,8,8,8,8,8,8,8,8,8,8,8,8,8,8,8,8,8,8,8,8,8,8,8,8,8,8,8,8,8,8,8,8,8,8,8,8,8,8,8,8,8,8,8,8,8,8,8,8,8,8,8,8,8,8,8,8,8,8,8,8,8,8,8,8,8,8,8,8,8,8,8,8,8,8,8,8,8,8,8,8,8,8,8,8,8,8,8,8,8,8,8,8,8] ((Int.fdiv x0' 256)%256))) <|
    ck (inB .i64 ((n2'+8)+(wzw [0,1,2,2,3,3,3,3,4,4,4,4,4,4,4,4,5,5,5,5,5,5,5,5,5,5,5,5,5,5,5,5,6,6,6,6,6,6,6,6,6,6,6,6,6,6,6,6,6,6,6,6,6,6,6,6,6,6,6,6,6,6,6,6,7,7,7,7,7,7,7,7,7,7,7,7,7,7,7,7,7,7,7,7,7,7,7,7,7,7,7,7,7,7,7,7,7,7,7,7,7,7,7,7,7,7,7,7,7,7,7,7,7,7,7,7,7,7,7,7,7,7,7,7,7,7,7,7,8,8,8,8,8,8,8,8,8,8,8,8,8,8,8,8,8,8,8,8,8,8,8,8,8,8,8,8,8,8,8,8,8,8,8,8,8,8,8,8,8,8,8,8,8,8,8,8,8,8,8,8,8,8,8,8,8,8,8,8,8,8,8,8,8,8,8,8,8,8,8,8,8,8,8,8,8,8,8,8,8,8,8,8,8,8,8,8,8,8,8,8,8,8,8,8,8,8,8,8,8,8,8,8,8,8,8,8,8,8,8,8,8,8,8,8,8,8,8,8,8,8,8,8,8,8,8,8] ((Int.fdiv x0' 256)%256)))) <|
    some ((n2'+8)+(wzw [0,1,2,2,3,3,3,3,4,4,4,4,4,4,4,4,5,5,5,5,5,5,5,5,5,5,5,5,5,5,5,5,6,6,6,6,6,6,6,6,6,6,6,6,6,6,6,6,6,6,6,6,6,6,6,6,6,6,6,6,6,6,6,6,7,7,7,7,7,7,7,7,7,7,7,7,7,7,7,7,7,7,7,7,7,7,7,7,7,7,7,7,7,7,7,7,7,7,7,7,7,7,7,7,7,7,7,7,7,7,7,7,7,7,7,7,7,7,7,7,7,7,7,7,7,7,7,7,8,8,8,8,8,8,8,8,8,8,8,8,8,8,8,8,8,8,8,8,8,8,8,8,8,8,8,8,8,8,8,8,8,8,8,8,8,8,8,8,8,8,8,8,8,8,8,8,8,8,8,8,8,8,8,8,8,8,8,8,8,8,8,8,8,8,8,8,8,8,8,8,8,8,8,8,8,8,8,8,8,8,8,8,8,8,8,8,8,8,8,8,8,8,8,8,8,8,8,8,8,8,8,8,8,8,8,8,8,8,8,8,8,8,8,8,8,8,8,8,8,8,8,8,8,8,8,8] ((Int.fdiv x0' 256)%256)))
    ) (
    ck (qzf7 [0,1,2,2,3,3,3,3,4,4,4,4,4,4,4,4,5,5,5,5,5,5,5,5,5,5,5,5,5,5,5,5,6,6,6,6,6,6,6,6,6,6,6,6,6,6,6,6,6,6,6,6,6,6,6,6,6,6,6,6,6,6,6,6,7,7,7,7,7,7,7,7,7,7,7,7,7,7,7,7,7,7,7,7,7,7,7,7,7,7,7,7,7,7,7,7,7,7,7,7,7,7,7,7,7,7,7,7,7,7,7,7,7,7,7,7,7,7,7,7,7,7,7,7,7,7,7,7,8,8,8,8,8,8,8,8,8,8,8,8,8,8,8,8,8,8,8,8,8,8,8,8,8,8,8,8,8,8,8,8,8,8,8,8,8,8,8,8,8,8,8,8,8,8,8,8,8,8,8,8,8,8,8,8,8,8,8,8,8,8,8,8,8,8,8,8,8,8,8,8,8,8,8,8,8,8,8,8,8,8,8,8,8,8,8,8,8,8,8,8,8,8,8,8,8,8,8,8,8,8,8,8,8,8,8,8,8,8,8,8,8,8,8,8,8,8,8,8,8,8,8,8,8,8,8,8] (x0'%256)) <|
    ck (inB .i64 (wzw [0,1,2,2,3,3,3,3,4,4,4,4,4,4,4,4,5,5,5,5,5,5,5,5,5,5,5,5,5,5,5,5,6,6,6,6,6,6,6,6,6,6,6,6,6,6,6,6,6,6,6,6,6,6,6,6,6,6,6,6,6,6,6,6,7,7,7,7,7,7,7,7,7,7,7,7,7,7,7,7,7,7,7,7,7,7,7,7,7,7,7,7,7,7,7,7,7,7,7,7,7,7,7,7,7,7,7,7,7,7,7,7,7,7,7,7,7,7,7,7,7,7,7,7,7,7,7,7,8,8,8,8,8,8,8,8,8,8,8,8,8,8,8,8,8,8,8,8,8,8,8,8,8,8,8,8,8,8,8,8,8,8,8,8,8,8,8,8,8,8,8,8,8,8,8,8,8,8,8,8,8,8,8,8,8,8,8,8,8,8,8,8,8,8,8,8,8,8,8,8,8,8,8,8,8,8,8,8,8,8,8,8,8,8,8,8,8,8,8,8,8,8,8,8,8,8,8,8,8,8,8,8,8,8,8,8,8,8,8,8,8,8,8,8,8,8,8,8,8,8,8,8,8,8,8,8] (x0'%256))) <|
    ck (inB .i64 (n2'+(wzw [0,1,2,2,3,3,3,3,4,4,4,4,4,4,4,4,5,5,5,5,5,5,5,5,5,5,5,5,5,5,5,5,6,6,6,6,6,6,6,6,6,6,6,6,6,6,6,6,6,6,6,6,6,6,6,6,6,6,6,6,6,6,6,6,7,7,7,7,7,7,7,7,7,7,7,7,7,7,7,7,7,7,7,7,7,7,7,7,7,7,7,7,7,7,7,7,7,7,7,7,7,7,7,7,7,7,7,7,7,7,7,7,7,7,7,7,7,7,7,7,7,7,7,7,7,7,7,7,8,8,8,8,8,8,8,8,8,8,8,8,8,8,8,8,8,8,8,8,8,8,8,8,8,8,8,8,8,8,8,8,8,8,8,8,8,8,8,8,8,8,8,8,8,8,8,8,8,8,8,8,8,8,8,8,8,8,8,8,8,8,8,8,8,8,8,8,8,8,8,8,8,8,8,8,8,8,8,8,8,8,8,8,8,8,8,8,8,8,8,8,8,8,8,8,8,8,8,8,8,8,8,8,8,8,8,8,8,8,8,8,8,8,8,8,8,8,8,8,8,8,8,8,8,8,8,8] (x0'%256)))) <|
    some (n2'+(wzw [0,1,2,2,3,3,3,3,4,4,4,4,4,4,4,4,5,5,5,5,5,5,5,5,5,5,5,5,5,5,5,5,6,6,6,6,6,6,6,6,6,6,6,6,6,6,6,6,6,6,6,6,6,6,6,6,6,6,6,6,6,6,6,6,7,7,7,7,7,7,7,7,7,7,7,7,7,7,7,7,7,7,7,7,7,7,7,7,7,7,7,7,7,7,7,7,7,7,7,7,7,7,7,7,7,7,7,7,7,7,7,7,7,7,7,7,7,7,7,7,7,7,7,7,7,7,7,7,8,8,8,8,8,8,8,8,8,8,8,8,8,8,8,8,8,8,8,8,8,8,8,8,8,8,8,8,8,8,8,8,8,8,8,8,8,8,8,8,8,8,8,8,8,8,8,8,8,8,8,8,8,8,8,8,8,8,8,8,8,8,8,8,8,8,8,8,8,8,8,8,8,8,8,8,8,8,8,8,8,8,8,8,8,8,8,8,8,8,8,8,8,8,8,8,8,8,8,8,8,8,8,8,8,8,8,8,8,8,8,8,8,8,8,8,8,8,8,8,8,8,8,8,8,8,8,8] (x0'%256)))
    )
def wzjs(n0:Int):Option (Bool) :=
 some (bif (decide ((-999999999999999)≤n0)) then(decide (n0≤999999999999999)) else false)
def kzs(by1:Int)(ax0:List Int):(Int×Int×(List Int))→Option ((Int×Int×(List Int))⊕(Int×(List Int))):=fun s=>match s with
 |(rest7,k8,l0) =>
  ite' (decide (0≤k8)) (
   bd (at? ax0 k8) fun x1 =>
   ck (!decide ((by1%18446744073709551616)=0)) <|
   ck (!decide ((by1%18446744073709551616)=0)) <|
   bd (at? l0 k8) fun x2 =>
   ck (inB .i64 (k8-1)) <|
   some (.inl (((bitI .or .u64 ((rest7*4294967296)%18446744073709551616) (x1%18446744073709551616)).tmod (by1%18446744073709551616)),(k8-1),(List.set l0 (Int.toNat k8) ((((bitI .or .u64 ((rest7*4294967296)%18446744073709551616) (x1%18446744073709551616)).tdiv (by1%18446744073709551616))%18446744073709551616)%4294967296))))
   ) (
   some (.inr (rest7,l0))
   )
def jzs(ax0:List Int)(by1:Int):Option ((List Int)×Int) :=
 ck (mkOk (List.length ax0:Int) 4) <|
 ck (inB .i64 ((List.length ax0:Int)-1)) <|
 bd (lp (kzs by1 ax0) (0,((List.length ax0:Int)-1),(List.replicate (Int.toNat (List.length ax0:Int)) 0)))<|fun(rest7,l0) =>
 bd (qzx l0) fun r1 =>
 some (r1,(rest7%4294967296))
def kzc(ax0:List Int)(k1:Int):Option (Int) :=
 ite' (decide (k1<(List.length ax0:Int))) (
  bd (at? ax0 k1) fun x1 =>
  some (x1%18446744073709551616)
  ) (
  some 0
  )
def wzi0(a0:List UInt8)(k1:Int):Option (Int) :=
 ite' (decide ((List.length a0:Int)≤k1)) (
  some 0
  ) (
  ck (inB .i64 ((List.length a0:Int)-1)) <|
  ck (inB .i64 (((List.length a0:Int)-1)-k1)) <|
  ck (qzf7 a0 (((List.length a0:Int)-1)-k1)) <|
  ck (inB .i64 (wzw a0 (((List.length a0:Int)-1)-k1))) <|
  some (wzw a0 (((List.length a0:Int)-1)-k1))
  )
def wzkm(l0:List Int):(Int×(List Int))→Option ((Int×(List Int))⊕(List Int)):=fun s=>match s with
 |(k4,l1) =>
  ite' (decide (0≤k4)) (
   bd (at? l0 k4) fun x1 =>
   ck (decide (List.length (l1++[(x1%256)])*1≤140737488355328)) <|
   ck (inB .i64 (k4-1)) <|
   some (.inl ((k4-1),(l1++[(x1%256)])))
   ) (
   some (.inr l1)
   )
def wzi7(l0:List Int):Option ((List UInt8)) :=
 ck (inB .i64 ((List.length l0:Int)-1)) <|
 bd (lp (wzkm l0) (((List.length l0:Int)-1),[]))<|fun l1 =>
 bd (wziv (vzg l1)) fun r1 =>
 some r1
def wzlc :(Int×(List UInt8))→Option ((Int×(List UInt8))⊕(List UInt8)):=fun s=>match s with
 |(n0',out3) =>
  ite' (decide (0<n0')) (
   ck (decide (List.length (vzg [((n0'.tmod 256)%256)])+List.length out3≤4611686018427387904)) <|
   ck (inB .i64 (n0'.tdiv 256)) <|
   some (.inl ((n0'.tdiv 256),((vzg [((n0'.tmod 256)%256)])++out3)))
   ) (
   some (.inr out3)
   )
def wzll(n0:Int):Option (vzs) :=
 ite' (decide (n0<0)) (
  some (vzs.mk [] 3)
  ) (
  bd (lp (wzlc) (n0,[]))<|fun out3 =>
  some (vzs.mk out3 0)
  )
def qzcc(ax0:Int):Option (Bool) :=
 some (!decide (ax0=ax0))
def qzai(ax0:Int):Option (Bool) :=
 some (!decide (ax0=ax0))
def wz7(ac1:Int):(List UInt8)→Option ((List UInt8)⊕(List UInt8)):=fun s=>match s with
 |s0 =>
  ck (!(decide (0<(List.length s0:Int)))||(qzf7 s0 0)) <|
  ite' (bif (decide (0<(List.length s0:Int))) then(decide ((wzw s0 0)=ac1)) else false) (
   ck (kzy s0 1 (List.length s0:Int)) <|
   some (.inl (sub s0 1 (List.length s0:Int)))
   ) (
   some (.inr s0)
   )
def jzz(as0:List UInt8)(ac1:Int):Option ((List UInt8)) :=
 bd (lp (wz7 ac1) as0)<|fun s0 =>
 some s0
def jz8(as0:List Int)(f1:Int→Option Bool):Option (Bool) :=
 bd (wz29 as0 f1) fun r1 =>
 some (decide (0≤r1))
def wzj3(a0:List UInt8):Option (Bool) :=
 bd (wziv a0) fun r1 =>
 some (decide (a0=r1))
def jzc7(ax0:Int):Option (Int) :=
 bd (wz7x ax0) fun r1 =>
 some r1
def qzb2(a0:List UInt8)(end4:Int):(Int×Int)→Option ((Int×Int)⊕Int):=fun s=>match s with
 |(digit5,t22) =>
  ite' (decide (t22<(List.length (bytes (sub a0 (max 0 (end4-4)) end4)):Int))) (
   bd (at? (bytes (sub a0 (max 0 (end4-4)) end4)) t22) fun x1 =>
   ck (inB .i64 (t22+1)) <|
   some (.inl ((bitI .or .u32 ((digit5*256)%4294967296) (x1%4294967296)),(t22+1)))
   ) (
   some (.inr digit5)
   )
def qzb4(a0:List UInt8):(Int×(List Int))→Option ((Int×(List Int))⊕(List Int)):=fun s=>match s with
 |(end4,l2) =>
  ite' (decide (0<end4)) (
   ck (inB .i64 (end4-4)) <|
   ck (kzy a0 (max 0 (end4-4)) end4) <|
   bd (lp (qzb2 a0 end4) (0,0))<|fun digit5 =>
   ck (decide (List.length (l2++[digit5])*4≤140737488355328)) <|
   ck (inB .i64 (end4-4)) <|
   some (.inl ((end4-4),(l2++[digit5])))
   ) (
   some (.inr l2)
   )
def wzn(a0:List UInt8):Option ((List Int)) :=
 bd (lp (qzb4 a0) ((List.length a0:Int),[]))<|fun l2 =>
 bd (qzx l2) fun r1 =>
 some r1
def jzl(t20:Int)(x1:Int)(y1:List Int):(Int×Int×(List Int))→Option ((Int×Int×(List Int))⊕(List Int)):=fun s=>match s with
 |(carry8,k9,l0') =>
  ite' (bif (decide (k9<(List.length y1:Int))) then true else(decide (0<carry8))) (
   bd (kzc y1 k9) fun r1 =>
   ck (inB .i64 (t20+k9)) <|
   bd (at? l0' (t20+k9)) fun x2 =>
   ck (inB .i64 (t20+k9)) <|
   bd (at? l0' (t20+k9)) fun x3 =>
   ck (inB .i64 (k9+1)) <|
   some (.inl ((Int.fdiv (((((((x1%18446744073709551616)*r1)%18446744073709551616)+(x2%18446744073709551616))%18446744073709551616)+carry8)%18446744073709551616) 4294967296),(k9+1),(List.set l0' (Int.toNat (t20+k9)) ((((((((x1%18446744073709551616)*r1)%18446744073709551616)+(x2%18446744073709551616))%18446744073709551616)+carry8)%18446744073709551616)%4294967296))))
   ) (
   some (.inr l0')
   )
def kzu(ax0:List Int)(y1:List Int):(Int×(List Int))→Option ((Int×(List Int))⊕(List Int)):=fun s=>match s with
 |(t20,l0) =>
  ite' (decide (t20<(List.length ax0:Int))) (
   bd (at? ax0 t20) fun x1 =>
   bd (lp (jzl t20 x1 y1) (0,0,l0))<|fun l0' =>
   ck (inB .i64 (t20+1)) <|
   some (.inl ((t20+1),l0'))
   ) (
   some (.inr l0)
   )
def wz1(ax0:List Int)(y1:List Int):Option ((List Int)) :=
 ck (inB .i64 ((List.length ax0:Int)+(List.length y1:Int))) <|
 ck (inB .i64 (((List.length ax0:Int)+(List.length y1:Int))+1)) <|
 ck (mkOk (((List.length ax0:Int)+(List.length y1:Int))+1) 4) <|
 bd (lp (kzu ax0 y1) (0,(List.replicate (Int.toNat (((List.length ax0:Int)+(List.length y1:Int))+1)) 0)))<|fun l0 =>
 bd (qzx l0) fun r2 =>
 some r2
def vze(ax0:List Int)(y1:List Int):(Int×Int×(List Int))→Option ((Int×Int×(List Int))⊕(List Int)):=fun s=>match s with
 |(carry6,t15,l1) =>
  ite' (decide (t15<((max (List.length ax0:Int) (List.length y1:Int))+1))) (
   bd (kzc ax0 t15) fun r1 =>
   bd (kzc y1 t15) fun r2 =>
   ck (decide (List.length (l1++[(((((r1+r2)%18446744073709551616)+carry6)%18446744073709551616)%4294967296)])*4≤140737488355328)) <|
   ck (inB .i64 (t15+1)) <|
   some (.inl ((Int.fdiv ((((r1+r2)%18446744073709551616)+carry6)%18446744073709551616) 4294967296),(t15+1),(l1++[(((((r1+r2)%18446744073709551616)+carry6)%18446744073709551616)%4294967296)])))
   ) (
   some (.inr l1)
   )
def vzk(ax0:List Int)(y1:List Int):Option ((List Int)) :=
 ck (inB .i64 ((max (List.length ax0:Int) (List.length y1:Int))+1)) <|
 bd (lp (vze ax0 y1) (0,0,[]))<|fun l1 =>
 bd (qzx l1) fun r3 =>
 some r3
def kzo(ax0:List Int)(y1:List Int):(Int×Int×(List Int))→Option ((Int×Int×(List Int))⊕(List Int)):=fun s=>match s with
 |(borrow6,t11,l1) =>
  ite' (decide (t11<(List.length ax0:Int))) (
   bd (at? ax0 t11) fun x1 =>
   bd (kzc y1 t11) fun r1 =>
   ck (decide (List.length (l1++[((((((x1%18446744073709551616)-r1)%18446744073709551616)-borrow6)%18446744073709551616)%4294967296)])*4≤140737488355328)) <|
   ck (inB .i64 (t11+1)) <|
   some (.inl ((Int.fdiv (((((x1%18446744073709551616)-r1)%18446744073709551616)-borrow6)%18446744073709551616) 9223372036854775808),(t11+1),(l1++[((((((x1%18446744073709551616)-r1)%18446744073709551616)-borrow6)%18446744073709551616)%4294967296)])))
   ) (
   some (.inr l1)
   )
def wzz(ax0:List Int)(y1:List Int):Option ((List Int)) :=
 bd (lp (kzo ax0 y1) (0,0,[]))<|fun l1 =>
 bd (qzx l1) fun r2 =>
 some r2
def wzje(a0:List UInt8)(b1:List UInt8)(i6:Int):(Int×Int×(List Int))→Option ((Int×Int×(List Int))⊕(List Int)):=fun s=>match s with
 |(carry7,k8,l0') =>
  ite' (decide (k8≤(List.length b1:Int))) (
   ck (inB .i64 (i6+k8)) <|
   bd (at? l0' (i6+k8)) fun x1 =>
   bd (wzi0 a0 i6) fun r1 =>
   bd (wzi0 b1 k8) fun r2 =>
   ck (inB .i64 (r1*r2)) <|
   ck (inB .i64 (x1+(r1*r2))) <|
   ck (inB .i64 ((x1+(r1*r2))+carry7)) <|
   ck (inB .i64 (i6+k8)) <|
   bd (at? l0' (i6+k8)) fun x2 =>
   ck (inB .i64 (((x1+(r1*r2))+carry7).tdiv 256)) <|
   ck (inB .i64 (k8+1)) <|
   some (.inl ((((x1+(r1*r2))+carry7).tdiv 256),(k8+1),(List.set l0' (Int.toNat (i6+k8)) (((x1+(r1*r2))+carry7).tmod 256))))
   ) (
   some (.inr l0')
   )
def wzjt(a0:List UInt8)(b1:List UInt8):(Int×(List Int))→Option ((Int×(List Int))⊕(List Int)):=fun s=>match s with
 |(i6,l0) =>
  ite' (decide (i6<(List.length a0:Int))) (
   bd (lp (wzje a0 b1 i6) (0,0,l0))<|fun l0' =>
   ck (inB .i64 (i6+1)) <|
   some (.inl ((i6+1),l0'))
   ) (
   some (.inr l0)
   )
def wzi4(a0:List UInt8)(b1:List UInt8):Option ((List UInt8)) :=
 ck (inB .i64 ((List.length a0:Int)+(List.length b1:Int))) <|
 ck (inB .i64 (((List.length a0:Int)+(List.length b1:Int))+1)) <|
 ck (mkOk (((List.length a0:Int)+(List.length b1:Int))+1) 8) <|
 bd (lp (wzjt a0 b1) (0,(List.replicate (Int.toNat (((List.length a0:Int)+(List.length b1:Int))+1)) 0)))<|fun l0 =>
 bd (wzi7 l0) fun r3 =>
 some r3
def wzld(a0:List UInt8)(b1:List UInt8):(Int×Int×(List Int))→Option ((Int×Int×(List Int))⊕(List Int)):=fun s=>match s with
 |(carry6,k7,l1) =>
  ite' (decide (k7≤(max (List.length a0:Int) (List.length b1:Int)))) (
   bd (wzi0 a0 k7) fun r1 =>
   bd (wzi0 b1 k7) fun r2 =>
   ck (inB .i64 (r1+r2)) <|
   ck (inB .i64 ((r1+r2)+carry6)) <|
   ck (decide (List.length (l1++[(((r1+r2)+carry6).tmod 256)])*8≤140737488355328)) <|
   ck (inB .i64 (((r1+r2)+carry6).tdiv 256)) <|
   ck (inB .i64 (k7+1)) <|
   some (.inl ((((r1+r2)+carry6).tdiv 256),(k7+1),(l1++[(((r1+r2)+carry6).tmod 256)])))
   ) (
   some (.inr l1)
   )
def wzlm(a0:List UInt8)(b1:List UInt8):Option ((List UInt8)) :=
 bd (lp (wzld a0 b1) (0,0,[]))<|fun l1 =>
 bd (wzi7 l1) fun r3 =>
 some r3
def wzlg(a0:List UInt8)(b1:List UInt8):(Int×Int×(List Int))→Option ((Int×Int×(List Int))⊕(List Int)):=fun s=>match s with
 |(borrow6,k7,l2) =>
  ite' (decide (k7<(List.length a0:Int))) (
   bd (wzi0 a0 k7) fun r2 =>
   bd (wzi0 b1 k7) fun r3 =>
   ck (inB .i64 (r2-r3)) <|
   ck (inB .i64 ((r2-r3)-borrow6)) <|
   bd (α:=Int×Int) (
    ite' (decide (((r2-r3)-borrow6)<0)) (
     ck (inB .i64 (((r2-r3)-borrow6)+256)) <|
     some (1,(((r2-r3)-borrow6)+256))
     ) (
     some (0,((r2-r3)-borrow6))
     )
   )<|fun(borrow6',n8) =>
    ck (decide (List.length (l2++[n8])*8≤140737488355328)) <|
    ck (inB .i64 (k7+1)) <|
    some (.inl (borrow6',(k7+1),(l2++[n8])))
   ) (
   some (.inr l2)
   )
def wzj8(a0:List UInt8)(b1:List UInt8):Option (vzs) :=
 bd (wzj6 a0 b1) fun r1 =>
 ite' (decide (r1<0)) (
  some (vzs.mk [] 3)
  ) (
  bd (lp (wzlg a0 b1) (0,0,[]))<|fun l2 =>
  bd (wzi7 l2) fun r4 =>
  some (vzs.mk r4 0)
  )
def wzjh(n0:Int):Option ((List UInt8)) :=
 bd (α:=Int) (
  ite' (decide (n0<0)) (
   ck (inB .i64 (-n0)) <|
   some (-n0)
   ) (
   some n0
   )
 )<|fun n0' =>
  bd (wzll n0') fun r1 =>
  some r1.S
def wzm(ax0:List Int)(bits1:Int):Option ((List Int)) :=
 ite' (decide (bits1<0)) (
  ck (inB .i64 (-bits1)) <|
  ck (decide (0≤(-bits1))) <|
  bd (jzs ax0 ((1*2 ^ min (Int.toNat (-bits1)) 32)%4294967296)) fun r1 =>
  some r1.1
  ) (
  ck (decide (0≤bits1)) <|
  bd (wz1 ax0 [((1*2 ^ min (Int.toNat bits1) 32)%4294967296)]) fun r2 =>
  some r2
  )
def qzca(ax0:Int)(y1:Int):Option (Int) :=
 bd (qzcc ax0) fun r1 =>
 bd (qzcc y1) fun r2 =>
 ite' r1 (
  ite' r2 (
   some 0
   ) (
   some (-1)
   )
  ) (
  ite' r2 (
   some 1
   ) (
   ite' (decide (ax0<y1)) (
    some (-1)
    ) (
    ite' (decide (y1<ax0)) (
     some 1
     ) (
     some 0
     )
    )
   )
  )
def qzax(ax0:Int)(y1:Int):Option (Int) :=
 bd (qzai ax0) fun r1 =>
 bd (qzai y1) fun r2 =>
 ite' r1 (
  ite' r2 (
   some 0
   ) (
   some (-1)
   )
  ) (
  ite' r2 (
   some 1
   ) (
   ite' (decide (ax0<y1)) (
    some (-1)
    ) (
    ite' (decide (y1<ax0)) (
     some 1
     ) (
     some 0
     )
    )
   )
  )
def qzav(as0:List UInt8)(cutset1:List UInt8):Option ((List UInt8)) :=
 ite' (bif (decide (as0=[])) then true else(decide (cutset1=[]))) (
  some as0
  ) (
  ck (!(decide ((List.length cutset1:Int)=1))||(qzf7 cutset1 0)) <|
  ite' (bif (decide ((List.length cutset1:Int)=1)) then(decide ((wzw cutset1 0)<128)) else false) (
   ck (qzf7 cutset1 0) <|
   bd (jzz as0 (wzw cutset1 0)) fun r1 =>
   some r1
   ) (
   none
   )
  )
def wz40(h0:wz2c):Option (Bool) :=
 ck (!(bif (decide (0≤h0.From)) then(decide ((List.length h0.Stages:Int)≤40000)) else false)||inB .i64 (1402560-(List.length h0.Stages:Int))) <|
 bd (gd (bif (bif (decide (0≤h0.From)) then(decide ((List.length h0.Stages:Int)≤40000)) else false) then(decide (h0.From≤(1402560-(List.length h0.Stages:Int)))) else false) (jz8 h0.Stages (fun a0=>wz5j a0))) fun r1 =>
 some (bif (bif (bif (decide (0≤h0.From)) then(decide ((List.length h0.Stages:Int)≤40000)) else false) then(decide (h0.From≤(1402560-(List.length h0.Stages:Int)))) else false) then(!r1) else false)
def jz2(ax0:List Int)(y1:List Int):Int→Option (Int⊕(Unit⊕Int)):=fun s=>match s with
 |k6 =>
  ite' (decide (0≤k6)) (
   bd (at? ax0 k6) fun x1 =>
   bd (at? y1 k6) fun x2 =>
   bd (qzax x1 x2) fun r2 =>
   ite' (!decide (r2=0)) (
    some (.inr (.inr r2))
    ) (
    ck (inB .i64 (k6-1)) <|
    some (.inl (k6-1))
    )
   ) (
   some (.inr (.inl ()))
   )
def wzl(ax0:List Int)(y1:List Int):Option (Int) :=
 bd (qzca (List.length ax0:Int) (List.length y1:Int)) fun r1 =>
 ite' (!decide (r1=0)) (
  some r1
  ) (
  ck (inB .i64 ((List.length ax0:Int)-1)) <|
  bd (lp (jz2 ax0 y1) ((List.length ax0:Int)-1))<|fun o=>match o with
  | .inl ()=>(
    some 0
   )
  | .inr o=>(
    some o
   )
  )
def wzkl(b1:List UInt8):((List UInt8)×Int)→Option (((List UInt8)×Int)⊕((List UInt8)×Int)):=fun s=>match s with
 |(r6',n8) =>
  bd (wzj6 r6' b1) fun r3 =>
  ite' (decide (0≤r3)) (
   bd (wzj8 r6' b1) fun r4 =>
   ck (inB .i64 (n8+1)) <|
   some (.inl (r4.S,(n8+1)))
   ) (
   some (.inr (r6',n8))
   )
def wzkn(a0:List UInt8)(b1:List UInt8):((List UInt8)×(List UInt8)×Int)→Option (((List UInt8)×(List UInt8)×Int)⊕((List UInt8)×(List UInt8))):=fun s=>match s with
 |(q5,r6,k7) =>
  ite' (decide (k7<(List.length a0:Int))) (
   ck (inB .i64 (k7+1)) <|
   ck (kzy a0 k7 (k7+1)) <|
   ck (decide (List.length r6+List.length (sub a0 k7 (k7+1))≤4611686018427387904)) <|
   bd (wziv (r6++(sub a0 k7 (k7+1)))) fun r2 =>
   bd (lp (wzkl b1) (r2,0))<|fun(r6',n8) =>
   ck (decide (List.length q5+List.length (vzg [(n8%256)])≤4611686018427387904)) <|
   ck (inB .i64 (k7+1)) <|
   some (.inl ((q5++(vzg [(n8%256)])),r6',(k7+1)))
   ) (
   some (.inr (q5,r6))
   )
def wzjd(a0:List UInt8)(b1:List UInt8):Option (jzi) :=
 bd (wziv b1) fun r1 =>
 ite' (decide (r1=[])) (
  some (jzi.mk [] [] 1)
  ) (
  bd (lp (wzkn a0 b1) ([],[],0))<|fun(q5,r6) =>
  bd (wziv q5) fun r5 =>
  some (jzi.mk r5 r6 0)
  )
def qzdj(a0:List UInt8):Option ((List UInt8)) :=
 bd (qzav a0 [0]) fun r1 =>
 some r1
def qzgu(a0:List UInt8)(b1:List UInt8):Option (Int) :=
 bd (wzn a0) fun r1 =>
 bd (wzn b1) fun r2 =>
 bd (wzl r1 r2) fun r3 =>
 some r3
def wzjc :((List UInt8)×(List UInt8))→Option (((List UInt8)×(List UInt8))⊕(List UInt8)):=fun s=>match s with
 |(x5,y6) =>
  ite' (!decide (y6=[])) (
   bd (wzjd x5 y6) fun r3 =>
   some (.inl (y6,r3.R))
   ) (
   some (.inr x5)
   )
def wzkq(a0:List UInt8)(b1:List UInt8):Option ((List UInt8)) :=
 bd (wziv a0) fun r1 =>
 bd (wziv b1) fun r2 =>
 bd (lp (wzjc) (r1,r2))<|fun x5 =>
 some x5
def kzx(y1:List Int):Int→Option (Int⊕Int):=fun s=>match s with
 |bits8 =>
  ck (inB .i64 ((List.length y1:Int)-1)) <|
  bd (at? y1 ((List.length y1:Int)-1)) fun x2 =>
  ck (decide (0≤bits8)) <|
  ite' (decide (((x2*2 ^ min (Int.toNat bits8) 32)%4294967296)<2147483648)) (
   ck (inB .i64 (bits8+1)) <|
   some (.inl (bits8+1))
   ) (
   some (.inr bits8)
   )
def kz2(j13:Int)(l657:List Int)(r4:(List Int)):(Int×Int)→Option ((Int×Int)⊕Int):=fun s=>match s with
 |(guess15,left16) =>
  ck (!(decide (left16<4294967296))||inB .i64 ((List.length r4:Int)-2)) <|
  bd (gd (decide (left16<4294967296)) (at? r4 ((List.length r4:Int)-2))) fun x7 =>
  ck (!(decide (left16<4294967296))||inB .i64 (j13+(List.length r4:Int))) <|
  ck (!(decide (left16<4294967296))||inB .i64 ((j13+(List.length r4:Int))-2)) <|
  bd (gd (decide (left16<4294967296)) (at? l657 ((j13+(List.length r4:Int))-2))) fun x8 =>
  ite' (bif (decide (left16<4294967296)) then(decide ((bitI .or .u64 ((left16*4294967296)%18446744073709551616) (x8%18446744073709551616))<((guess15*(x7%18446744073709551616))%18446744073709551616))) else false) (
   ck (inB .i64 ((List.length r4:Int)-1)) <|
   bd (at? r4 ((List.length r4:Int)-1)) fun x9 =>
   some (.inl (((guess15-1)%18446744073709551616),((left16+(x9%18446744073709551616))%18446744073709551616)))
   ) (
   some (.inr guess15)
   )
def yzk(j13:Int)(l657:List Int)(r4:(List Int)):(Int×(List Int))→Option ((Int×(List Int))⊕(Int×(List Int))):=fun s=>match s with
 |(guess15',product18) =>
  bd (vzi (sub l657 j13 ((j13+(List.length r4:Int))+1))) fun r8 =>
  bd (qzx r8) fun r9 =>
  bd (wzl r9 product18) fun r10 =>
  ite' (decide (r10<0)) (
   bd (wzz product18 r4) fun r11 =>
   some (.inl (((guess15'-1)%18446744073709551616),r11))
   ) (
   some (.inr (guess15',product18))
   )
def wz2(r4:(List Int)):(Int×(List Int)×(List Int))→Option ((Int×(List Int)×(List Int))⊕((List Int)×(List Int))):=fun s=>match s with
 |(j13,l657,l3) =>
  ite' (decide (0≤j13)) (
   ck (inB .i64 (j13+(List.length r4:Int))) <|
   bd (at? l657 (j13+(List.length r4:Int))) fun x3 =>
   ck (inB .i64 (j13+(List.length r4:Int))) <|
   ck (inB .i64 ((j13+(List.length r4:Int))-1)) <|
   bd (at? l657 ((j13+(List.length r4:Int))-1)) fun x4 =>
   ck (inB .i64 ((List.length r4:Int)-1)) <|
   bd (at? r4 ((List.length r4:Int)-1)) fun x5 =>
   ck (!decide ((x5%18446744073709551616)=0)) <|
   ck (inB .i64 ((List.length r4:Int)-1)) <|
   bd (at? r4 ((List.length r4:Int)-1)) fun x6 =>
   bd (lp (kz2 j13 l657 r4) ((min (((bitI .or .u64 (((x3%18446744073709551616)*4294967296)%18446744073709551616) (x4%18446744073709551616)).tdiv (x5%18446744073709551616))%18446744073709551616) 4294967295),(((bitI .or .u64 (((x3%18446744073709551616)*4294967296)%18446744073709551616) (x4%18446744073709551616))-(((min (((bitI .or .u64 (((x3%18446744073709551616)*4294967296)%18446744073709551616) (x4%18446744073709551616)).tdiv (x5%18446744073709551616))%18446744073709551616) 4294967295)*(x6%18446744073709551616))%18446744073709551616))%18446744073709551616)))<|fun guess15 =>
   bd (α:=Unit⊕Unit) (
    ite' (decide (guess15=0)) (
     some (.inr ())
     ) (
     some (.inl ())
     )
   )<|fun o=>match o with
    | .inl ()=>(
      ck (inB .i64 (j13+(List.length r4:Int))) <|
      ck (inB .i64 ((j13+(List.length r4:Int))+1)) <|
      ck (kzy l657 j13 ((j13+(List.length r4:Int))+1)) <|
      bd (wz1 r4 [(guess15%4294967296)]) fun r7 =>
      bd (lp (yzk j13 l657 r4) (guess15,r7))<|fun(guess15',product18) =>
      bd (vzi (sub l657 j13 ((j13+(List.length r4:Int))+1))) fun r12 =>
      bd (qzx r12) fun r13 =>
      bd (wzz r13 product18) fun r14 =>
      ck (kzy l657 j13 ((j13+(List.length r4:Int))+1)) <|
      ck (kzy (qzy l657 (Int.toNat j13) (List.replicate (Int.toNat (((j13+(List.length r4:Int))+1)-j13)) 0)) j13 ((j13+(List.length r4:Int))+1)) <|
      bd (at? l3 j13) fun x10 =>
      ck (inB .i64 (j13-1)) <|
      some (.inl ((j13-1),(qzy (qzy l657 (Int.toNat j13) (List.replicate (Int.toNat (((j13+(List.length r4:Int))+1)-j13)) 0)) (Int.toNat j13) (List.take (Int.toNat (((j13+(List.length r4:Int))+1)-j13)) r14)),(List.set l3 (Int.toNat j13) (guess15'%4294967296))))
     )
    | .inr ()=>(
      ck (inB .i64 (j13-1)) <|
      some (.inl ((j13-1),l657,l3))
     )
   ) (
   some (.inr (l657,l3))
   )
def kzf(ax0:List Int)(y1:List Int):Option ((List Int)×(List Int)) :=
 bd (wzl ax0 y1) fun r1 =>
 ite' (decide (r1<0)) (
  some ([],ax0)
  ) (
  ite' (decide ((List.length y1:Int)=1)) (
   bd (at? y1 0) fun x1 =>
   bd (jzs ax0 x1) fun r2 =>
   bd (qzx [r2.2]) fun r3 =>
   some (r2.1,r3)
   ) (
   bd (lp (kzx y1) 0)<|fun bits8 =>
   bd (wzm y1 bits8) fun r4 =>
   bd (wzm ax0 bits8) fun r5 =>
   bd (vzi r5) fun r6 =>
   ck (decide (List.length (r6++[0,0])*4≤140737488355328)) <|
   ck (inB .i64 ((List.length ax0:Int)-(List.length r4:Int))) <|
   ck (inB .i64 (((List.length ax0:Int)-(List.length r4:Int))+2)) <|
   ck (mkOk (((List.length ax0:Int)-(List.length r4:Int))+2) 4) <|
   ck (inB .i64 ((List.length (r6++[0,0]):Int)-(List.length r4:Int))) <|
   ck (inB .i64 (((List.length (r6++[0,0]):Int)-(List.length r4:Int))-1)) <|
   bd (lp (wz2 r4) ((((List.length (r6++[0,0]):Int)-(List.length r4:Int))-1),(r6++[0,0]),(List.replicate (Int.toNat (((List.length ax0:Int)-(List.length r4:Int))+2)) 0)))<|fun(l657,l3) =>
   bd (qzx l3) fun r15 =>
   bd (qzx l657) fun r16 =>
   ck (inB .i64 (-bits8)) <|
   bd (wzm r16 (-bits8)) fun r17 =>
   some (r15,r17)
   )
  )
def vzb(ax0:List Int):(Int×(List Int))→Option ((Int×(List Int))⊕(List Int)):=fun s=>match s with
 |(t8,l1) =>
  ite' (decide (t8<(List.length ax0:Int))) (
   bd (at? ax0 t8) fun x1 =>
   ck (decide (List.length (l1++[(x1%256),((Int.fdiv x1 256)%256),((Int.fdiv x1 65536)%256),((Int.fdiv x1 16777216)%256)])*1≤140737488355328)) <|
   ck (inB .i64 (t8+1)) <|
   some (.inl ((t8+1),(l1++[(x1%256),((Int.fdiv x1 256)%256),((Int.fdiv x1 65536)%256),((Int.fdiv x1 16777216)%256)])))
   ) (
   some (.inr l1)
   )
def qz7(ax0:List Int):Option ((List UInt8)) :=
 bd (lp (vzb ax0) (0,[]))<|fun l1 =>
 bd (yzz l1) fun r1 =>
 bd (qzdj (vzg r1)) fun r2 =>
 some r2
def wzi3(neg0:Bool)(num1:List UInt8)(den2:List UInt8):Option (qza) :=
 bd (wziv num1) fun r1 =>
 ite' (decide (r1=[])) (
  some (qza.mk false [] [])
  ) (
  bd (wzkq r1 den2) fun r2 =>
  bd (wzjd r1 r2) fun r3 =>
  bd (wzjd den2 r2) fun r4 =>
  some (qza.mk neg0 r3.Q r4.Q)
  )
def wzp:(List Int×List Int)→Option ((List Int×List Int)⊕List Int):=fun s=>match s with
 |(x,y)=>ite' (decide ((List.length y:Int)=0)) (some (.inr x)) (bd (kzf x y) fun r=>some (.inl (y,r.2)))
def qzeo(a0:List UInt8)(b1:List UInt8):Option (List UInt8) :=
 bd (wzn a0) fun x =>
 bd (wzn b1) fun y =>
 bd (lp wzp (x,y)) fun r =>
 qz7 r
def yzs(a0:qza):Option (Bool) :=
 ite' ((a0.Neg==false)&&(decide (a0.Num=[])&&(decide (a0.Den=[])&&true))) (
  some true
  ) (
  bd (gd (bif (!decide (a0.Num=[])) then(!decide (a0.Den=[])) else false) (qzcb a0.Num)) fun r1 =>
  bd (gd (bif (bif (!decide (a0.Num=[])) then(!decide (a0.Den=[])) else false) then r1 else false) (qzcb a0.Den)) fun r2 =>
  bd (gd (bif (bif (bif (!decide (a0.Num=[])) then(!decide (a0.Den=[])) else false) then r1 else false) then r2 else false) (qzeo a0.Num a0.Den)) fun r3 =>
  some (bif (bif (bif (bif (!decide (a0.Num=[])) then(!decide (a0.Den=[])) else false) then r1 else false) then r2 else false) then(decide (r3=[1])) else false)
  )
def wzj5(a0:qza):Option (Bool) :=
 ite' (bif (decide (a0.Num=[])) then true else(decide (a0.Den=[]))) (
  some ((a0.Neg==false)&&(decide (a0.Num=[])&&(decide (a0.Den=[])&&true)))
  ) (
  bd (wzj3 a0.Num) fun r1 =>
  bd (wzj3 a0.Den) fun r2 =>
  bd (gd (bif r1 then r2 else false) (wzkq a0.Num a0.Den)) fun r3 =>
  some (bif (bif r1 then r2 else false) then(decide (r3=[1])) else false)
  )
def qza9(a0:List UInt8)(b1:List UInt8):Option ((List UInt8)×(List UInt8)×Int) :=
 bd (wzn a0) fun r1 =>
 bd (wzn b1) fun r2 =>
 ite' (decide ((List.length r2:Int)=0)) (
  some ([],[],1)
  ) (
  bd (kzf r1 r2) fun r3 =>
  bd (qz7 r3.1) fun r4 =>
  bd (qz7 r3.2) fun r5 =>
  some (r4,r5,0)
  )
def qzau(a0:List UInt8)(b1:List UInt8):Option ((List UInt8)) :=
 bd (wzn a0) fun r1 =>
 bd (wzn b1) fun r2 =>
 bd (wz1 r1 r2) fun r3 =>
 bd (qz7 r3) fun r4 =>
 some r4
def qzg3(a0:List UInt8)(b1:List UInt8):Option ((List UInt8)) :=
 bd (wzn a0) fun r1 =>
 bd (wzn b1) fun r2 =>
 bd (vzk r1 r2) fun r3 =>
 bd (qz7 r3) fun r4 =>
 some r4
def qzgk(a0:List UInt8)(b1:List UInt8):Option ((List UInt8)×Int) :=
 bd (wzn a0) fun r1 =>
 bd (wzn b1) fun r2 =>
 bd (wzl r1 r2) fun r3 =>
 ite' (decide (r3<0)) (
  some ([],3)
  ) (
  bd (wzz r1 r2) fun r4 =>
  bd (qz7 r4) fun r5 =>
  some (r5,0)
  )
def qzgv(n0:Int):Option ((List UInt8)×Int) :=
 ite' (decide (n0<0)) (
  some ([],3)
  ) (
  bd (qzx [(n0%4294967296),((Int.fdiv n0 4294967296)%4294967296)]) fun r1 =>
  bd (qz7 r1) fun r2 =>
  some (r2,0)
  )
def wzl7(num0:Int)(den1:Int):Option (vzu) :=
 bd (wzjs num0) fun r1 =>
 bd (wzjs den1) fun r2 =>
 ite' (bif (!r1) then true else(!r2)) (
  some (vzu.mk (qza.mk false [] []) 3)
  ) (
  ite' (decide (den1=0)) (
   some (vzu.mk (qza.mk false [] []) 1)
   ) (
   bd (wzjh num0) fun r3 =>
   bd (wzjh den1) fun r4 =>
   bd (wzi3 (!((decide (num0<0))==(decide (den1<0)))) r3 r4) fun r5 =>
   some (vzu.mk r5 0)
   )
  )
def wz5b(a0:qza):Option (Bool) :=
 bd (yzs a0) fun r1 =>
 some (bif r1 then(!a0.Neg) else false)
def wzi1(a0:qza):Option (qza) :=
 bd (wzj5 a0) fun r1 =>
 ite' r1 (
  some a0
  ) (
  some (qza.mk false [] [])
  )
def jzg(a0:qza):Option (qzf) :=
 bd (gd (!(decide (a0.Num=[]))) (yzs a0)) fun r1 =>
 ite' (bif (decide (a0.Num=[])) then true else(!r1)) (
  some (qzf.mk false [] [1])
  ) (
  some (qzf.mk a0.Neg a0.Num a0.Den)
  )
def qzw(f0:qzf):Option (qza) :=
 ite' (decide (f0.num=[])) (
  some (qza.mk false [] [])
  ) (
  bd (qzeo f0.num f0.den) fun r1 =>
  bd (qza9 f0.num r1) fun r2 =>
  bd (qza9 f0.den r1) fun r3 =>
  some (qza.mk f0.neg r2.1 r3.1)
  )
def qza0(op0:qzf→Option qzf)(b1:qza):Option (qza) :=
 bd (jzg b1) fun r1 =>
 bd (op0 r1) fun r2 =>
 bd (qzw r2) fun r3 =>
 some r3
def wz3(f0:qzf)(g1:qzf):Option (qzf) :=
 bd (qzau f0.num g1.den) fun r1 =>
 bd (qzau g1.num f0.den) fun r2 =>
 bd (qzau f0.den g1.den) fun r3 =>
 ite' (f0.neg==g1.neg) (
  bd (qzg3 r1 r2) fun r4 =>
  some (qzf.mk f0.neg r4 r3)
  ) (
  bd (qzgu r1 r2) fun r5 =>
  bd (α:=(List UInt8)×(List UInt8)×qzf) (
   ite' (decide (r5<0)) (
    some (r2,r1,(qzf.mk g1.neg f0.num f0.den))
    ) (
    some (r1,r2,f0)
    )
  )<|fun(a5,b6,b0) =>
   bd (qzgk a5 b6) fun r6 =>
   some (qzf.mk b0.neg r6.1 r3)
  )
def yzh(n0:Int):Option (qzf) :=
 ck (inB .i64 (-n0)) <|
 bd (qzgv (max n0 (-n0))) fun r1 =>
 some (qzf.mk (decide (n0<0)) r1.1 [1])
def wzv(f0:qzf)(g1:qzf):Option (qzf) :=
 bd (qzau f0.num g1.num) fun r1 =>
 bd (qzau f0.den g1.den) fun r2 =>
 some (qzf.mk (!(f0.neg==g1.neg)) r1 r2)
def wzj9(a0:qza)(b1:qza):Option (qza) :=
 bd (wzi1 a0) fun r1 =>
 bd (wzi1 b1) fun r2 =>
 bd (wzi9 r1) fun r3 =>
 bd (wzi9 r2) fun r4 =>
 bd (wzi4 r3.1 r4.2) fun r5 =>
 bd (wzi4 r4.1 r3.2) fun r6 =>
 bd (wzi4 r3.2 r4.2) fun r7 =>
 ite' (r1.Neg==r2.Neg) (
  bd (wzlm r5 r6) fun r8 =>
  bd (wzi3 r1.Neg r8 r7) fun r9 =>
  some r9
  ) (
  bd (wzj6 r5 r6) fun r10 =>
  ite' (decide (0≤r10)) (
   bd (wzj8 r5 r6) fun r11 =>
   bd (wzi3 r1.Neg r11.S r7) fun r12 =>
   some r12
   ) (
   bd (wzj8 r6 r5) fun r13 =>
   bd (wzi3 r2.Neg r13.S r7) fun r14 =>
   some r14
   )
  )
def wzlo(a0:qza):Option (qza) :=
 bd (wzi1 a0) fun r1 =>
 ite' (!decide (r1.Num=[])) (
  some (qza.mk (!r1.Neg) r1.Num r1.Den)
  ) (
  some r1
  )
def wzkr(a0:qza)(b1:qza):Option (qza) :=
 bd (wzi1 a0) fun r1 =>
 bd (wzi1 b1) fun r2 =>
 bd (wzi9 r1) fun r3 =>
 bd (wzi9 r2) fun r4 =>
 bd (wzi4 r3.1 r4.1) fun r5 =>
 bd (wzi4 r3.2 r4.2) fun r6 =>
 bd (wzi3 (!(r1.Neg==r2.Neg)) r5 r6) fun r7 =>
 some r7
def wz4(f0:qzf)(g1:qzf):Option (qzf) :=
 bd (wzv f0 (qzf.mk g1.neg g1.den g1.num)) fun r1 =>
 some r1
def qzbi(a0:qza)(b1:qza):Option (qza) :=
 bd (jzg a0) fun r1 =>
 bd (qza0 (fun a0=>wz3 r1 a0) b1) fun r2 =>
 some r2
def qzz(n0:Int):Option (qza) :=
 bd (yzy n0) fun r1 =>
 ite' (!r1) (
  some (qza.mk false [] [])
  ) (
  bd (yzh n0) fun r2 =>
  bd (qzw r2) fun r3 =>
  some r3
  )
def qzcw(a0:qza)(b1:qza):Option (qza) :=
 bd (jzg a0) fun r1 =>
 bd (qza0 (fun a0=>wzv r1 a0) b1) fun r2 =>
 some r2
def wz6z :Option (wz2c×(List wz2b)) :=
 bd (qzz 100) fun r1 =>
 some ((wz2c.mk 10 [3,5,4,5,0,1,3,2]),[(wz2b.mk 10 14 (qza.mk false [] []) 0 (wz2d.mk [(wz2g.mk 0 (qza.mk false [] [])),(wz2g.mk 10 r1)])),(wz2b.mk 15 18 (qza.mk false [] []) 2 (wz2d.mk [(wz2g.mk 0 (qza.mk false [] [])),(wz2g.mk 10 r1)]))])
def wz8h(l0:List Int):(Int×(List qza))→Option ((Int×(List qza))⊕(List qza)):=fun s=>match s with
 |(t8,l1) =>
  ite' (decide (t8<(List.length l0:Int))) (
   bd (at? l0 t8) fun x1 =>
   bd (qzz x1) fun r1 =>
   ck (decide (List.length (l1++[r1])*40≤140737488355328)) <|
   ck (inB .i64 (t8+1)) <|
   some (.inl ((t8+1),(l1++[r1])))
   ) (
   some (.inr l1)
   )
def wz7l(l0:List Int):Option ((List qza)) :=
 bd (lp (wz8h l0) (0,[]))<|fun l1 =>
 some l1
def wz5(f0:qzf)(g1:qzf):Option (qzf) :=
 bd (wz3 f0 (qzf.mk (!g1.neg) g1.num g1.den)) fun r1 =>
 some r1
def wzlk(a0:qza)(b1:qza):Option (qza) :=
 bd (wzlo b1) fun r1 =>
 bd (wzj9 a0 r1) fun r2 =>
 some r2
def qzlk(num0:Int)(den1:Int):Option (qza×Int) :=
 bd (yzy num0) fun r1 =>
 bd (gd (!(!r1)) (yzy den1)) fun r2 =>
 ite' (bif (!r1) then true else(!r2)) (
  some ((qza.mk false [] []),3)
  ) (
  ite' (decide (den1=0)) (
   some ((qza.mk false [] []),1)
   ) (
   bd (yzh num0) fun r3 =>
   bd (yzh den1) fun r4 =>
   bd (wz4 r3 r4) fun r5 =>
   bd (qzw r5) fun r6 =>
   some (r6,0)
   )
  )
def qzbh(a0:qza)(b1:qza):Option (qza) :=
 bd (jzg a0) fun r1 =>
 bd (qza0 (fun a0=>wz5 r1 a0) b1) fun r2 =>
 some r2
def wz0(a0:qza)(b1:qza):Option (Int) :=
 bd (jzg a0) fun r1 =>
 bd (jzg b1) fun r2 =>
 bd (wz5 r1 r2) fun r3 =>
 ite' (decide (r3.num=[])) (
  some 0
  ) (
  ite' r3.neg (
   some (-1)
   ) (
   some 1
   )
  )
def wz5w(a0:qza)(b1:qza):Option (Bool) :=
 bd (wz0 a0 b1) fun r1 =>
 some (decide (0<r1))
def wz6d(a0:qza)(b1:qza):Option (Bool) :=
 bd (wz0 a0 b1) fun r1 =>
 some (decide (r1<0))
def wz33(a0:qza)(b1:qza):Option (Int) :=
 bd (wz0 b1 a0) fun r1 =>
 some r1
def wz5e(ac0:wz2d):Int→Option (Int⊕(Unit⊕Int)):=fun s=>match s with
 |t18 =>
  ite' (decide (t18<(List.length ac0.Points:Int))) (
   bd (at? ac0.Points t18) fun x1 =>
   bd (wz5p x1.Stage) fun r1 =>
   ite' (!r1) (
    some (.inr (.inr 3))
    ) (
    bd (wz5b x1.Flow) fun r2 =>
    ite' (!r2) (
     some (.inr (.inr 1))
     ) (
     ck (!(decide (0<t18))||inB .i64 (t18-1)) <|
     bd (gd (decide (0<t18)) (at? ac0.Points (t18-1))) fun x2 =>
     ck (!((decide (0<t18))&&(!(decide (x1.Stage≤x2.Stage))))||inB .i64 (t18-1)) <|
     bd (gd ((decide (0<t18))&&(!(decide (x1.Stage≤x2.Stage)))) (at? ac0.Points (t18-1))) fun x3 =>
     bd (gd ((decide (0<t18))&&(!(decide (x1.Stage≤x2.Stage)))) (wz0 x1.Flow x3.Flow)) fun r3 =>
     ite' (bif (decide (0<t18)) then(bif (decide (x1.Stage≤x2.Stage)) then true else(decide (r3<0))) else false) (
      some (.inr (.inr 1))
      ) (
      ck (inB .i64 (t18+1)) <|
      some (.inl (t18+1))
      )
     )
    )
   ) (
   some (.inr (.inl ()))
   )
def wz31(ac0:wz2d):Option (Int) :=
 ite' (bif (decide ((List.length ac0.Points:Int)<1)) then true else(decide (16<(List.length ac0.Points:Int)))) (
  some 2
  ) (
  bd (lp (wz5e ac0) 0)<|fun o=>match o with
  | .inl ()=>(
    some 0
   )
  | .inr o=>(
    some o
   )
  )
def wz6g(ac0:wz2d)(stage1:Int):Option (qza) :=
 bd (wz4u (List.length ac0.Points:Int) (fun a0=>wz39 a0 ac0 stage1)) fun r1 =>
 ite' (decide (r1=0)) (
  some (qza.mk false [] [])
  ) (
  ck (inB .i64 (r1-1)) <|
  bd (at? ac0.Points (r1-1)) fun x1 =>
  ite' (decide (r1=(List.length ac0.Points:Int))) (
   some x1.Flow
   ) (
   bd (at? ac0.Points r1) fun x2 =>
   ck (inB .i64 (stage1-x1.Stage)) <|
   ck (inB .i64 (x2.Stage-x1.Stage)) <|
   bd (qzlk (stage1-x1.Stage) (x2.Stage-x1.Stage)) fun r2 =>
   bd (qzbh x2.Flow x1.Flow) fun r3 =>
   bd (qzcw r2.1 r3) fun r4 =>
   bd (qzbi x1.Flow r4) fun r5 =>
   some r5
   )
  )
def wz5m(ac0:wz2d)(stage1:Int):Option (qza) :=
 bd (wz31 ac0) fun r1 =>
 ite' (!decide (r1=0)) (
  some (qza.mk false [] [])
  ) (
  bd (wz6g ac0 stage1) fun r2 =>
  some r2
  )
def wz4o(as0:wz2b):Option (Bool) :=
 ite' (bif (bif (bif (bif (decide (as0.From<0)) then true else(decide (as0.To≤as0.From))) then true else(decide (1402560<as0.To))) then true else(decide (as0.Datum<(-1000)))) then true else(decide (1000<as0.Datum))) (
  some false
  ) (
  bd (yzs as0.Weight) fun r1 =>
  bd (gd r1 (wz31 as0.Curve)) fun r2 =>
  some (bif r1 then(decide (r2=0)) else false)
  )
def wz4q(l0:List wz2b):(Int×Int)→Option ((Int×Int)⊕(Unit⊕Int)):=fun s=>match s with
 |(last3,t11) =>
  ite' (decide (t11<(List.length l0:Int))) (
   bd (at? l0 t11) fun x1 =>
   bd (wz4o x1) fun r1 =>
   ite' (bif (!r1) then true else(decide (x1.From<last3))) (
    some (.inr (.inr 1))
    ) (
    ck (inB .i64 (t11+1)) <|
    some (.inl (x1.To,(t11+1)))
    )
   ) (
   some (.inr (.inl ()))
   )
def wz4n(l0:List wz2b):Option (Int) :=
 ite' (decide (400<(List.length l0:Int))) (
  some 2
  ) (
  bd (lp (wz4q l0) (0,0))<|fun o=>match o with
  | .inl ()=>(
    some 0
   )
  | .inr o=>(
    some o
   )
  )
def wz4b(c1:wz2c)(st:List (Int×qza)→Option Bool)(x1:wz2b):(Int×(List (Int×qza))×(List (Int×qza)))→Option ((Int×(List (Int×qza))×(List (Int×qza)))⊕(((List (Int×qza))×(List (Int×qza)))⊕(List (Int×qza)))):=fun s=>match s with
 |(t7,m1001,ys') =>
  ite' (decide (t7<x1.To)) (
   ck (inB .i64 (t7-c1.From)) <|
   bd (at? c1.Stages (t7-c1.From)) fun x2 =>
   bd (α:=(List (Int×qza))×qza) (
    ite' (!(Option.isSome (mget keqI m1001 x2))) (
     ck (inB .i64 (x2+x1.Datum)) <|
     bd (wz5m x1.Curve (x2+x1.Datum)) fun r1 =>
     some ((mput keqI m1001 x2 r1),r1)
     ) (
     some (m1001,(Option.getD (mget keqI m1001 x2) (qza.mk false [] [])))
     )
   )<|fun(m1001',b1002) =>
    bd (st (ys'++[(t7,b1002)])) fun s1 =>
    ite' s1 (
     some (.inr (.inr (ys'++[(t7,b1002)])))
     ) (
     ck (inB .i64 (t7+1)) <|
     some (.inl ((t7+1),m1001',(ys'++[(t7,b1002)])))
     )
   ) (
   some (.inr (.inl (m1001,ys')))
   )
def wz38(c0:List wz2b)(c1:wz2c)(st:List (Int×qza)→Option Bool):(Int×(List (Int×qza)))→Option ((Int×(List (Int×qza)))⊕((List (Int×qza))⊕(List (Int×qza)))):=fun s=>match s with
 |(t13,ys) =>
  ite' (decide (t13<(List.length c0:Int))) (
   bd (at? c0 t13) fun x1 =>
   bd (lp (wz4b c1 st x1) (x1.From,([]:List (Int×qza)),ys))<|fun o=>match o with
   | .inl (m1001,ys')=>(
     ck (inB .i64 (t13+1)) <|
     some (.inl ((t13+1),ys'))
    )
   | .inr o=>(
     some (.inr (.inr o))
    )
   ) (
   some (.inr (.inl ys))
   )
def wz2x(c0:List wz2b)(c1:wz2c)(st:List (Int×qza)→Option Bool):Option (List (Int×qza)) :=
 bd (lp (wz38 c0 c1 st) (0,[]))<|fun o=>match o with
 | .inl ys=>(
   some ys
  )
 | .inr o=>(
   some o
  )
def wz45(h0:wz2c)(l1:List wz2b):Int→Option (Int⊕(Unit⊕Int)):=fun s=>match s with
 |t20 =>
  ite' (decide (t20<(List.length l1:Int))) (
   bd (at? l1 t20) fun x1 =>
   ck (!(!(decide (x1.From<h0.From)))||inB .i64 (h0.From+(List.length h0.Stages:Int))) <|
   ite' (bif (decide (x1.From<h0.From)) then true else(decide ((h0.From+(List.length h0.Stages:Int))<x1.To))) (
    some (.inr (.inr 19))
    ) (
    ck (inB .i64 (t20+1)) <|
    some (.inl (t20+1))
    )
   ) (
   some (.inr (.inl ()))
   )
def wz2z(h0:wz2c)(l1:List wz2b)(level2:qza):Option (Int) :=
 bd (wz4n l1) fun r1 =>
 ite' (!decide (r1=0)) (
  some r1
  ) (
  bd (wz40 h0) fun r2 =>
  ite' (!r2) (
   some 1
   ) (
   bd (lp (wz45 h0 l1) 0)<|fun o=>match o with
   | .inl ()=>(
     bd (yzs level2) fun r3 =>
     ite' (!r3) (
      some 1
      ) (
      some 0
      )
    )
   | .inr o=>(
     some o
    )
   )
  )
def wz2u(h0:wz2c)(l1:List wz2b):Option ((List wz2b)×wz2c) :=
 some (l1,h0)
def wz3j(h0:wz2c)(l1:List wz2b)(before2:qza→qza→Option Bool):Option (wz2f×Int) :=
 bd (wz2z h0 l1 (qza.mk false [] [])) fun r1 =>
 ite' (!decide (r1=0)) (
  some ((wz2f.mk (qza.mk false [] []) 0),r1)
  ) (
  bd (wz2u h0 l1) fun c1 =>
  bd (wz6l (wz2x c1.1 c1.2) before2) fun r2 =>
  ite' (!r2.2.2) (
   some ((wz2f.mk (qza.mk false [] []) 0),8)
   ) (
   some ((wz2f.mk r2.2.1 r2.1),0)
   )
  )
def wz3s :(Int×qza)→(List qza)→Option ((List qza)⊕Unit):=fun x s=>match s with
 |l4 =>
  ck (decide (List.length (l4++[x.2])*40≤140737488355328)) <|
  some (.inl (l4++[x.2]))
def wz3z(h0:wz2c)(l1:List wz2b):Option ((List qza)×Int) :=
 bd (wz2z h0 l1 (qza.mk false [] [])) fun r1 =>
 ite' (!decide (r1=0)) (
  some ([],r1)
  ) (
  bd (wz2u h0 l1) fun c1 =>
  bd (wz2x c1.1 c1.2 (fun l=>wz4k wz3s l [])) fun l =>
  bd (wz20 wz3s l []) fun o=>match o with
  | .inl l4=>(
    some (l4,0)
   )
  |.inr _=>none
  )
def wz4a(h0:wz2c)(l1:List wz2b):Option (wz2f×Int) :=
 bd (wz3j h0 l1 (fun a0 a1=>wz5w a0 a1)) fun r1 =>
 some (r1.1,r1.2)
def wz4r(h0:wz2c)(l1:List wz2b):Option (wz2f×Int) :=
 bd (wz3j h0 l1 (fun a0 a1=>wz6d a0 a1)) fun r1 =>
 some (r1.1,r1.2)
def wz3w(level2:qza):(Int×qza)→Int→Option (Int⊕Unit):=fun x s=>match s with
 |b2 =>
  bd (wz0 x.2 level2) fun r2 =>
  ite' (decide (0≤r2)) (
   ck (inB .i64 (b2+1)) <|
   some (.inl (b2+1))
   ) (
   some (.inl b2)
   )
def wz3f(h0:wz2c)(l1:List wz2b)(level2:qza):Option (Int×Int) :=
 bd (wz2z h0 l1 level2) fun r1 =>
 ite' (!decide (r1=0)) (
  some (0,r1)
  ) (
  bd (wz2u h0 l1) fun c1 =>
  bd (wz2x c1.1 c1.2 (fun l=>wz4k (wz3w level2) l 0)) fun l =>
  bd (wz20 (wz3w level2) l 0) fun o=>match o with
  | .inl b2=>(
    some (b2,0)
   )
  |.inr _=>none
  )
def wz27 :(Int×qza)→(List (qza×Int))→Option ((List (qza×Int))⊕Unit):=fun x s=>match s with
 |m1 =>
  ck (inB .i64 ((Option.getD (mget wz2k m1 x.2) 0)+1)) <|
  ck (wz67 (mput wz2k m1 x.2 (Option.getD (mget wz2k m1 x.2) 0)) ((midx wz2k m1 x.2:Nat):Int)) <|
  some (.inl (mset (mput wz2k m1 x.2 (Option.getD (mget wz2k m1 x.2) 0)) (Int.toNat ((midx wz2k m1 x.2:Nat):Int)) ((Option.getD (mget wz2k m1 x.2) 0)+1)))
def wz3t(m1:List (qza×Int))(r2:(List qza)):(Int×Int×(List wz2e))→Option ((Int×Int×(List wz2e))⊕(List wz2e)):=fun s=>match s with
 |(n11,t37,l6) =>
  ite' (decide (t37<(List.length r2:Int))) (
   bd (at? r2 t37) fun x1 =>
   ck (inB .i64 (n11+(Option.getD (mget wz2k m1 x1) 0))) <|
   ck (decide (List.length (l6++[(wz2e.mk x1 (n11+(Option.getD (mget wz2k m1 x1) 0)))])*48≤140737488355328)) <|
   ck (inB .i64 (t37+1)) <|
   some (.inl ((n11+(Option.getD (mget wz2k m1 x1) 0)),(t37+1),(l6++[(wz2e.mk x1 (n11+(Option.getD (mget wz2k m1 x1) 0)))])))
   ) (
   some (.inr l6)
   )
def wz26(h0:wz2c)(l1:List wz2b):Option ((List wz2e)×Int) :=
 bd (wz2z h0 l1 (qza.mk false [] [])) fun r1 =>
 ite' (!decide (r1=0)) (
  some ([],r1)
  ) (
  bd (wz2u h0 l1) fun c1 =>
  bd (wz2x c1.1 c1.2 (fun l=>wz4k wz27 l ([]:List (qza×Int)))) fun l =>
  bd (wz20 wz27 l ([]:List (qza×Int))) fun o=>match o with
  | .inl m1=>(
    bd (wz2r m1 (fun a0 a1=>wz33 a0 a1)) fun r2 =>
    bd (lp (wz3t m1 r2) (0,0,[]))<|fun l6 =>
    some (l6,0)
   )
  |.inr _=>none
  )
def wz5s(level2:qza):(Int×qza)→(List wz2h)→Option ((List wz2h)⊕Unit):=fun x s=>match s with
 |l5 =>
  bd (wz0 x.2 level2) fun r2 =>
  bd (α:=Unit⊕Unit) (
   ite' (decide (r2<0)) (
    some (.inr ())
    ) (
    some (.inl ())
    )
  )<|fun o=>match o with
   | .inl ()=>(
     ck (!(decide (0<(List.length l5:Int)))||inB .i64 ((List.length l5:Int)-1)) <|
     bd (gd (decide (0<(List.length l5:Int))) (at? l5 ((List.length l5:Int)-1))) fun x1 =>
     ite' (bif (decide (0<(List.length l5:Int))) then(decide (x1.To=x.1)) else false) (
      ck (inB .i64 ((List.length l5:Int)-1)) <|
      ck (inB .i64 (x.1+1)) <|
      bd (at? l5 ((List.length l5:Int)-1)) fun x2 =>
      some (.inl (List.set l5 (Int.toNat ((List.length l5:Int)-1)) (wz2h.mk x2.From (x.1+1))))
      ) (
      ck (inB .i64 (x.1+1)) <|
      ck (decide (List.length (l5++[(wz2h.mk x.1 (x.1+1))])*16≤140737488355328)) <|
      some (.inl (l5++[(wz2h.mk x.1 (x.1+1))]))
      )
    )
   | .inr ()=>(
     some (.inl l5)
    )
def wz3x(h0:wz2c)(l1:List wz2b)(level2:qza):Option ((List wz2h)×Int) :=
 bd (wz2z h0 l1 level2) fun r1 =>
 ite' (!decide (r1=0)) (
  some ([],r1)
  ) (
  bd (wz2u h0 l1) fun c1 =>
  bd (wz2x c1.1 c1.2 (fun l=>wz4k (wz5s level2) l [])) fun l =>
  bd (wz20 (wz5s level2) l []) fun o=>match o with
  | .inl l5=>(
    some (l5,0)
   )
  |.inr _=>none
  )
def wz8w(lag2:Int):((List wz2h)×(List wz2h)×Int)→Option (((List wz2h)×(List wz2h)×Int)⊕Int):=fun s=>match s with
 |(x8,y10,n11) =>
  ite' (bif (decide (0<(List.length x8:Int))) then(decide (0<(List.length y10:Int))) else false) (
   bd (at? x8 0) fun x1 =>
   ck (inB .i64 (x1.From+lag2)) <|
   bd (at? y10 0) fun x2 =>
   bd (at? x8 0) fun x3 =>
   ck (inB .i64 (x3.To+lag2)) <|
   bd (at? y10 0) fun x4 =>
   ck (inB .i64 ((min (x3.To+lag2) x4.To)-(max (x1.From+lag2) x2.From))) <|
   ck (inB .i64 (n11+(max 0 ((min (x3.To+lag2) x4.To)-(max (x1.From+lag2) x2.From))))) <|
   bd (at? x8 0) fun x5 =>
   ck (inB .i64 (x5.To+lag2)) <|
   ite' (decide ((x5.To+lag2)=(min (x3.To+lag2) x4.To))) (
    ck (kzy x8 1 (List.length x8:Int)) <|
    some (.inl ((sub x8 1 (List.length x8:Int)),y10,(n11+(max 0 ((min (x3.To+lag2) x4.To)-(max (x1.From+lag2) x2.From))))))
    ) (
    ck (kzy y10 1 (List.length y10:Int)) <|
    some (.inl (x8,(sub y10 1 (List.length y10:Int)),(n11+(max 0 ((min (x3.To+lag2) x4.To)-(max (x1.From+lag2) x2.From))))))
    )
   ) (
   some (.inr n11)
   )
def wz7s(a0:wz2p)(b1:wz2p)(lag2:Int):Option (Int×Int) :=
 bd (wz3x a0.History a0.Spans a0.Level) fun r1 =>
 ite' (!decide (r1.2=0)) (
  some (0,r1.2)
  ) (
  bd (wz3x b1.History b1.Spans b1.Level) fun r2 =>
  ite' (!decide (r2.2=0)) (
   some (0,r2.2)
   ) (
   ite' (bif (decide (lag2<(-1402560))) then true else(decide (1402560<lag2))) (
    some (0,3)
    ) (
    bd (lp (wz8w lag2) (r1.1,r2.1,0))<|fun n11 =>
    some (n11,0)
    )
   )
  )
def wz3a(h0:wz2c)(l1:List wz2b)(ticks2:Int):Option (qza×Int) :=
 bd (wz26 h0 l1) fun r1 =>
 ite' (!decide (r1.2=0)) (
  some ((qza.mk false [] []),r1.2)
  ) (
  bd (qzas r1.1 (fun a0=>wz3v a0 ticks2)) fun r2 =>
  ite' (bif (decide (ticks2<1)) then true else(decide (r2<0))) (
   some ((qza.mk false [] []),3)
   ) (
   bd (at? r1.1 r2) fun x1 =>
   some (x1.Flow,0)
   )
  )
def wz3n :Option (Bool) :=
 bd (wz6z ) fun r1 =>
 bd (wz3z r1.1 r1.2) fun r2 =>
 bd (wz4a r1.1 r1.2) fun r3 =>
 bd (wz4r r1.1 r1.2) fun r4 =>
 bd (qzz 40) fun r5 =>
 bd (wz3f r1.1 r1.2 r5) fun r6 =>
 bd (qzz 41) fun r7 =>
 bd (wz3f r1.1 r1.2 r7) fun r8 =>
 bd (wz3a r1.1 r1.2 4) fun r9 =>
 bd (wz3a r1.1 r1.2 8) fun r10 =>
 bd (wz26 r1.1 r1.2) fun r11 =>
 bd (qzz 40) fun r12 =>
 bd (wz3x r1.1 r1.2 r12) fun r13 =>
 bd (qzz 50) fun r14 =>
 bd (qzz 40) fun r15 =>
 bd (wz7s (wz2p.mk r1.1 r1.2 r14) (wz2p.mk r1.1 r1.2 r15) 1) fun r16 =>
 bd (wz7l [30,50,40,50,30,50,40]) fun r17 =>
 bd (wz4h r2.1 r17) fun r18 =>
 bd (gd r18 (qzz 50)) fun r19 =>
 bd (gd (bif r18 then((r3.1.Flow.Neg==r19.Neg)&&(decide (r3.1.Flow.Num=r19.Num)&&(decide (r3.1.Flow.Den=r19.Den)&&(decide (r3.1.Tick=11)&&true)))) else false) (qzz 30)) fun r20 =>
 bd (gd (bif (bif r18 then((r3.1.Flow.Neg==r19.Neg)&&(decide (r3.1.Flow.Num=r19.Num)&&(decide (r3.1.Flow.Den=r19.Den)&&(decide (r3.1.Tick=11)&&true)))) else false) then((r4.1.Flow.Neg==r20.Neg)&&(decide (r4.1.Flow.Num=r20.Num)&&(decide (r4.1.Flow.Den=r20.Den)&&(decide (r4.1.Tick=10)&&true)))) else false) (qzz 50)) fun r21 =>
 bd (gd (bif (bif r18 then((r3.1.Flow.Neg==r19.Neg)&&(decide (r3.1.Flow.Num=r19.Num)&&(decide (r3.1.Flow.Den=r19.Den)&&(decide (r3.1.Tick=11)&&true)))) else false) then((r4.1.Flow.Neg==r20.Neg)&&(decide (r4.1.Flow.Num=r20.Num)&&(decide (r4.1.Flow.Den=r20.Den)&&(decide (r4.1.Tick=10)&&true)))) else false) (qzz 30)) fun r22 =>
 bd (gd (bif (bif r18 then((r3.1.Flow.Neg==r19.Neg)&&(decide (r3.1.Flow.Num=r19.Num)&&(decide (r3.1.Flow.Den=r19.Den)&&(decide (r3.1.Tick=11)&&true)))) else false) then((r4.1.Flow.Neg==r20.Neg)&&(decide (r4.1.Flow.Num=r20.Num)&&(decide (r4.1.Flow.Den=r20.Den)&&(decide (r4.1.Tick=10)&&true)))) else false) (wz0 r21 r22)) fun r23 =>
 bd (gd (bif (decide (r6.1=5)) then(decide (r8.1=3)) else false) (qzz 40)) fun r24 =>
 bd (gd (bif (bif (decide (r6.1=5)) then(decide (r8.1=3)) else false) then((r9.1.Neg==r24.Neg)&&(decide (r9.1.Num=r24.Num)&&(decide (r9.1.Den=r24.Den)&&true))) else false) (qzz 50)) fun r25 =>
 bd (gd (bif (bif (decide (r6.1=5)) then(decide (r8.1=3)) else false) then((r9.1.Neg==r24.Neg)&&(decide (r9.1.Num=r24.Num)&&(decide (r9.1.Den=r24.Den)&&true))) else false) (qzz 40)) fun r26 =>
 bd (gd (bif (bif (decide (r6.1=5)) then(decide (r8.1=3)) else false) then((r9.1.Neg==r24.Neg)&&(decide (r9.1.Num=r24.Num)&&(decide (r9.1.Den=r24.Den)&&true))) else false) (qzz 30)) fun r27 =>
 bd (gd (bif (bif (decide (r6.1=5)) then(decide (r8.1=3)) else false) then((r9.1.Neg==r24.Neg)&&(decide (r9.1.Num=r24.Num)&&(decide (r9.1.Den=r24.Den)&&true))) else false) (wz59 r11.1 [(wz2e.mk r25 3),(wz2e.mk r26 5),(wz2e.mk r27 7)])) fun r28 =>
 bd (gd (bif (bif (bif (bif (bif (bif (bif (bif (bif (bif (bif (decide (r2.2=0)) then(decide (r3.2=0)) else false) then(decide (r4.2=0)) else false) then(decide (r6.2=0)) else false) then(decide (r8.2=0)) else false) then(decide (r9.2=0)) else false) then(decide (r10.2=3)) else false) then(decide (r11.2=0)) else false) then(decide (r13.2=0)) else false) then(decide (r16.2=0)) else false) then(bif (bif (bif r18 then((r3.1.Flow.Neg==r19.Neg)&&(decide (r3.1.Flow.Num=r19.Num)&&(decide (r3.1.Flow.Den=r19.Den)&&(decide (r3.1.Tick=11)&&true)))) else false) then((r4.1.Flow.Neg==r20.Neg)&&(decide (r4.1.Flow.Num=r20.Num)&&(decide (r4.1.Flow.Den=r20.Den)&&(decide (r4.1.Tick=10)&&true)))) else false) then(decide (r23=1)) else false) else false) then(bif (bif (bif (decide (r6.1=5)) then(decide (r8.1=3)) else false) then((r9.1.Neg==r24.Neg)&&(decide (r9.1.Num=r24.Num)&&(decide (r9.1.Den=r24.Den)&&true))) else false) then r28 else false) else false) (wz6e r13.1 [(wz2h.mk 11 14),(wz2h.mk 16 18)])) fun r29 =>
 some (bif (bif (bif (bif (bif (bif (bif (bif (bif (bif (bif (bif (bif (decide (r2.2=0)) then(decide (r3.2=0)) else false) then(decide (r4.2=0)) else false) then(decide (r6.2=0)) else false) then(decide (r8.2=0)) else false) then(decide (r9.2=0)) else false) then(decide (r10.2=3)) else false) then(decide (r11.2=0)) else false) then(decide (r13.2=0)) else false) then(decide (r16.2=0)) else false) then(bif (bif (bif r18 then((r3.1.Flow.Neg==r19.Neg)&&(decide (r3.1.Flow.Num=r19.Num)&&(decide (r3.1.Flow.Den=r19.Den)&&(decide (r3.1.Tick=11)&&true)))) else false) then((r4.1.Flow.Neg==r20.Neg)&&(decide (r4.1.Flow.Num=r20.Num)&&(decide (r4.1.Flow.Den=r20.Den)&&(decide (r4.1.Tick=10)&&true)))) else false) then(decide (r23=1)) else false) else false) then(bif (bif (bif (decide (r6.1=5)) then(decide (r8.1=3)) else false) then((r9.1.Neg==r24.Neg)&&(decide (r9.1.Num=r24.Num)&&(decide (r9.1.Den=r24.Den)&&true))) else false) then r28 else false) else false) then r29 else false) then(decide (r16.1=2)) else false)
def jz42(by1:List Int)(as0:wz2p):(Int×(List Int)×wz2c)→Option ((Int×(List Int)×wz2c)⊕((List Int)×wz2c)):=fun s=>match s with
 |(t74,l3,b5) =>
  ite' (decide (t74<(List.length ([]++as0.History.Stages):Int))) (
   ite' (decide (t74<(List.length by1:Int))) (
    bd (at? l3 t74) fun x1 =>
    bd (at? by1 t74) fun x2 =>
    ck (inB .i64 x2) <|
    ck (inB .i64 (x1+(x2.tmod 20))) <|
    bd (at? l3 t74) fun x3 =>
    ck (inB .i64 (t74+1)) <|
    some (.inl ((t74+1),(List.set l3 (Int.toNat t74) (min 1000 (x1+(x2.tmod 20)))),b5))
    ) (
    ck (inB .i64 (t74+1)) <|
    some (.inl ((t74+1),l3,b5))
    )
   ) (
   some (.inr (l3,b5))
   )
def jz43(as0:wz2p)(by1:List Int)(n2:Int):Option (Bool) :=
 ite' (bif (decide (200<(List.length as0.History.Stages:Int))) then true else(decide (20<(List.length as0.Spans:Int)))) (
  bd (wz3n ) fun r1 =>
  some r1
  ) (
  bd (wz3f as0.History as0.Spans as0.Level) fun r2 =>
  bd (wz4a as0.History as0.Spans) fun r3 =>
  ite' (bif (!decide (r2.2=0)) then true else(!decide (r3.2=0))) (
   bd (wz3n ) fun r4 =>
   some r4
   ) (
   ck (decide (List.length ([]++as0.History.Stages)*8≤140737488355328)) <|
   bd (lp (jz42 by1 as0) (0,([]++as0.History.Stages),(wz2c.mk as0.History.From [])))<|fun(l3,b5) =>
   bd (wz3f (wz2c.mk b5.From l3) as0.Spans as0.Level) fun r5 =>
   bd (wz4a (wz2c.mk b5.From l3) as0.Spans) fun r6 =>
   bd (wz4r as0.History as0.Spans) fun r7 =>
   bd (wz4r (wz2c.mk b5.From l3) as0.Spans) fun r8 =>
   ck (inB .i64 n2) <|
   bd (jzmr as0.Spans) fun r9 =>
   ck (!decide ((max 1 r9)=0)) <|
   ck (inB .i64 (1+(n2.tmod (max 1 r9)))) <|
   bd (wz3a as0.History as0.Spans (1+(n2.tmod (max 1 r9)))) fun r10 =>
   bd (wz3a (wz2c.mk b5.From l3) as0.Spans (1+(n2.tmod (max 1 r9)))) fun r11 =>
   bd (wz3n ) fun r12 =>
   bd (gd (bif (bif r12 then(bif (bif (bif (bif (bif (decide (r5.2=0)) then(decide (r6.2=0)) else false) then(decide (r7.2=0)) else false) then(decide (r8.2=0)) else false) then(decide (r10.2=0)) else false) then(decide (r11.2=0)) else false) else false) then(decide (r2.1≤r5.1)) else false) (wz0 r6.1.Flow r3.1.Flow)) fun r13 =>
   bd (gd (bif (bif (bif r12 then(bif (bif (bif (bif (bif (decide (r5.2=0)) then(decide (r6.2=0)) else false) then(decide (r7.2=0)) else false) then(decide (r8.2=0)) else false) then(decide (r10.2=0)) else false) then(decide (r11.2=0)) else false) else false) then(decide (r2.1≤r5.1)) else false) then(decide (0≤r13)) else false) (wz0 r8.1.Flow r7.1.Flow)) fun r14 =>
   bd (gd (bif (bif (bif (bif r12 then(bif (bif (bif (bif (bif (decide (r5.2=0)) then(decide (r6.2=0)) else false) then(decide (r7.2=0)) else false) then(decide (r8.2=0)) else false) then(decide (r10.2=0)) else false) then(decide (r11.2=0)) else false) else false) then(decide (r2.1≤r5.1)) else false) then(decide (0≤r13)) else false) then(decide (0≤r14)) else false) (wz0 r11.1 r10.1)) fun r15 =>
   some (bif (bif (bif (bif (bif r12 then(bif (bif (bif (bif (bif (decide (r5.2=0)) then(decide (r6.2=0)) else false) then(decide (r7.2=0)) else false) then(decide (r8.2=0)) else false) then(decide (r10.2=0)) else false) then(decide (r11.2=0)) else false) else false) then(decide (r2.1≤r5.1)) else false) then(decide (0≤r13)) else false) then(decide (0≤r14)) else false) then(decide (0≤r15)) else false)
   )
  )
end Go.Am

