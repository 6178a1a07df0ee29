/- Part F1: the functions of this seat as functions of plain values. No condition. -/
import Derived.Test.YtomegmhiddbmbaaGreatDoorX1
set_option linter.unusedVariables false
namespace Go.Am
structure Au where
 From:Int
 Stages:List Int
deriving DecidableEq,Inhabited
structure Ag where
 Neg:Bool
 Num:List UInt8
 Den:List UInt8
deriving DecidableEq,Inhabited
structure AN where
 Stage:Int
 Flow:Ag
deriving DecidableEq,Inhabited
structure AK where
 Points:List AN
deriving DecidableEq,Inhabited
structure Aj where
 From:Int
 To:Int
 Weight:Ag
 Datum:Int
 Curve:AK
deriving DecidableEq,Inhabited
structure Ba where
 History:Au
 Spans:List Aj
 Level:Ag
deriving DecidableEq,Inhabited
structure Cq where
 e0:Int
 e1:Int
 e2:Int
deriving DecidableEq,Inhabited
structure AI where
 Flow:Ag
 Ticks:Int
deriving DecidableEq,Inhabited
structure AO where
 From:Int
 To:Int
deriving DecidableEq,Inhabited
structure Bc where
 neg:Bool
 num:List UInt8
 den:List UInt8
deriving DecidableEq,Inhabited
structure Cr where
 e0:Int
 e1:Int
deriving DecidableEq,Inhabited
structure BB where
 Stage:Int
 Ticks:Int
deriving DecidableEq,Inhabited
structure A9 where
 From:Int
 To:Int
 Table:List BB
 Lo:Int
 Hi:Int
deriving DecidableEq,Inhabited
structure Fx where
 Q:List UInt8
 R:List UInt8
 E:Int
deriving DecidableEq,Inhabited
structure Em where
 S:List UInt8
 E:Int
deriving DecidableEq,Inhabited
structure EF where
 A:Ag
 E:Int
deriving DecidableEq,Inhabited
structure Bd where
 Flow:Ag
 Tick:Int
deriving DecidableEq,Inhabited
structure Cs where
 X:Bd
 E:Int
deriving DecidableEq,Inhabited
structure CA where
 L:List Ag
 E:Int
deriving DecidableEq,Inhabited
structure Ct where
 N:Int
 E:Int
deriving DecidableEq,Inhabited
structure Cu where
 F:Ag
 E:Int
deriving DecidableEq,Inhabited
structure CB where
 L:List AI
 E:Int
deriving DecidableEq,Inhabited
structure CC where
 L:List AO
 E:Int
deriving DecidableEq,Inhabited
def BO(x y:Ag):Bool:=((x.Neg==y.Neg)&&(decide (x.Num=y.Num)&&(decide (x.Den=y.Den)&&true)))
def wz9t(x y:AN):Bool:=(decide (x.Stage=y.Stage)&&((x.Flow.Neg==y.Flow.Neg)&&(decide (x.Flow.Num=y.Flow.Num)&&(decide (x.Flow.Den=y.Flow.Den)&&true))))
def wz9a(x y:Cq):Bool:=(decide (x.e0=y.e0)&&(decide (x.e1=y.e1)&&(decide (x.e2=y.e2)&&true)))
def wz9w(x y:AI):Bool:=((x.Flow.Neg==y.Flow.Neg)&&(decide (x.Flow.Num=y.Flow.Num)&&(decide (x.Flow.Den=y.Flow.Den)&&(decide (x.Ticks=y.Ticks)&&true))))
def wz9x(x y:AO):Bool:=(decide (x.From=y.From)&&(decide (x.To=y.To)&&true))
def wz8j(x y:Bc):Bool:=((x.neg==y.neg)&&(decide (x.num=y.num)&&(decide (x.den=y.den)&&true)))
def jzaq(x y:Cr):Bool:=(decide (x.e0=y.e0)&&(decide (x.e1=y.e1)&&true))
def jza2(x y:BB):Bool:=(decide (x.Stage=y.Stage)&&(decide (x.Ticks=y.Ticks)&&true))
def wz78(x y:Fx):Bool:=(decide (x.Q=y.Q)&&(decide (x.R=y.R)&&(decide (x.E=y.E)&&true)))
def wz86(x y:Em):Bool:=(decide (x.S=y.S)&&(decide (x.E=y.E)&&true))
def wz87(x y:EF):Bool:=((x.A.Neg==y.A.Neg)&&(decide (x.A.Num=y.A.Num)&&(decide (x.A.Den=y.A.Den)&&(decide (x.E=y.E)&&true))))
def wz8n(x y:Bd):Bool:=((x.Flow.Neg==y.Flow.Neg)&&(decide (x.Flow.Num=y.Flow.Num)&&(decide (x.Flow.Den=y.Flow.Den)&&(decide (x.Tick=y.Tick)&&true))))
def wz80(x y:Cs):Bool:=((x.X.Flow.Neg==y.X.Flow.Neg)&&(decide (x.X.Flow.Num=y.X.Flow.Num)&&(decide (x.X.Flow.Den=y.X.Flow.Den)&&(decide (x.X.Tick=y.X.Tick)&&(decide (x.E=y.E)&&true)))))
def wz79(x y:Ct):Bool:=(decide (x.N=y.N)&&(decide (x.E=y.E)&&true))
def wz7t(x y:Cu):Bool:=((x.F.Neg==y.F.Neg)&&(decide (x.F.Num=y.F.Num)&&(decide (x.F.Den=y.F.Den)&&(decide (x.E=y.E)&&true))))
def CE:List UInt8:=[0,1,2,2,3,3,3,3,4,4,4,4,4,4,4,4,5,5,5,5,5,5,5,5,5,5,5,5,5,5,5,5,6,6,6,6,6,6,6,6,6,6,6,6,6,6,6,6,6,6,6,6,6,6,6,6,6,6,6,6,6,6,6,6,7,7,7,7,7,7,7,7,7,7,7,7,7,7,7,7,7,7,7,7,7,7,7,7,7,7,7,7,7,7,7,7,7,7,7,7,7,7,7,7,7,7,7,7,7,7,7,7,7,7,7,7,7,7,7,7,7,7,7,7,7,7,7,7,8,8,8,8,8,8,8,8,8,8,8,8,8,8,8,8,8,8,8,8,8,8,8,8,8,8,8,8,8,8,8,8,8,8,8,8,8,8,8,8,8,8,8,8,8,8,8,8,8,8,8,8,8,8,8,8,8,8,8,8,8,8,8,8,8,8,8,8,8,8,8,8,8,8,8,8,8,8,8,8,8,8,8,8,8,8,8,8,8,8,8,8,8,8,8,8,8,8,8,8,8,8,8,8,8,8,8,8,8,8,8,8,8,8,8,8,8,8,8,8,8,8,8,8,8,8,8,8]
def yzz(l:List Int):Option (List Int):=ck (decide (l.length<=4611686018427387904)) (some l.reverse)
def Hw(m:List (Ag×Int))(cmp:Ag->Ag->Option Int):Option (List Ag):=Mi cmp (m.map (·.1))
def Qs(l:List Int):Option (List Int):=ck (decide (0<l.length)&&decide (l.length*4<=140737488355328)) (some l)
def wz5o(a0:List Ag)(b1:List Ag):Int->Option (Int⊕(Unit⊕Bool)):=fun s=>match s with
 |k5 =>
  ite' (decide (k5<(a0.length:Int))) (
   bd (at? a0 k5) fun x1 =>
   bd (at? b1 k5) fun x2 =>
   ite' (!((x1.Neg==x2.Neg)&&(decide (x1.Num=x2.Num)&&(decide (x1.Den=x2.Den)&&true)))) (
    some (.inr (.inr false))
    ) (
    ck (A0 .i64 (k5+1)) <|
    some (.inl (k5+1))
    )
   ) (
   some (.inr (.inl ()))
   )
def Yt(a0:List Ag)(b1:List Ag):Option (Bool) :=
 ite' (!decide ((a0.length:Int)=(b1.length:Int))) (
  some false
  ) (
  bd (lp (wz5o a0 b1) 0)<|fun o=>match o with
  | .inl ()=>(
    some true
   )
  | .inr o=>(
    some o
   )
  )
def wz7a(a0:List AI)(b1:List AI):Int->Option (Int⊕(Unit⊕Bool)):=fun s=>match s with
 |k5 =>
  ite' (decide (k5<(a0.length:Int))) (
   bd (at? a0 k5) fun x1 =>
   bd (at? b1 k5) fun x2 =>
   ite' (!((x1.Flow.Neg==x2.Flow.Neg)&&(decide (x1.Flow.Num=x2.Flow.Num)&&(decide (x1.Flow.Den=x2.Flow.Den)&&(decide (x1.Ticks=x2.Ticks)&&true))))) (
    some (.inr (.inr false))
    ) (
    ck (A0 .i64 (k5+1)) <|
    some (.inl (k5+1))
    )
   ) (
   some (.inr (.inl ()))
   )
def Yu(a0:List AI)(b1:List AI):Option (Bool) :=
 ite' (!decide ((a0.length:Int)=(b1.length:Int))) (
  some false
  ) (
  bd (lp (wz7a a0 b1) 0)<|fun o=>match o with
  | .inl ()=>(
    some true
   )
  | .inr o=>(
    some o
   )
  )
def wz7i(a0:List AO)(b1:List AO):Int->Option (Int⊕(Unit⊕Bool)):=fun s=>match s with
 |k5 =>
  ite' (decide (k5<(a0.length:Int))) (
   bd (at? a0 k5) fun x1 =>
   bd (at? b1 k5) fun x2 =>
   ite' (!(decide (x1.From=x2.From)&&(decide (x1.To=x2.To)&&true))) (
    some (.inr (.inr false))
    ) (
    ck (A0 .i64 (k5+1)) <|
    some (.inl (k5+1))
    )
   ) (
   some (.inr (.inl ()))
   )
def Yv(a0:List AO)(b1:List AO):Option (Bool) :=
 ite' (!decide ((a0.length:Int)=(b1.length:Int))) (
  some false
  ) (
  bd (lp (wz7i a0 b1) 0)<|fun o=>match o with
  | .inl ()=>(
    some true
   )
  | .inr o=>(
    some o
   )
  )
def Ru(l0:List Aj):(Int×Int)->Option ((Int×Int)⊕Int):=fun s=>match s with
 |(n3,t8) =>
  ite' (decide (t8<(l0.length:Int))) (
   bd (at? l0 t8) fun x1 =>
   ck (A0 .i64 (x1.To-x1.From)) <|
   ck (A0 .i64 (n3+(x1.To-x1.From))) <|
   ck (A0 .i64 (t8+1)) <|
   some (.inl ((n3+(x1.To-x1.From)),(t8+1)))
   ) (
   some (.inr n3)
   )
def Of(l0:List Aj):Option (Int) :=
 bd (lp (Ru l0) (0,0))<|fun n3 =>
 some n3
def kze(f1:AI->Option Bool)(as0:List AI):Int->Option (Int⊕(Unit⊕Int)):=fun s=>match s with
 |t8 =>
  ite' (decide (t8<(as0.length:Int))) (
   bd (at? as0 t8) fun x1 =>
   bd (f1 x1) fun r1 =>
   ite' r1 (
    some (.inr (.inr t8))
    ) (
    ck (A0 .i64 (t8+1)) <|
    some (.inl (t8+1))
    )
   ) (
   some (.inr (.inl ()))
   )
def Og(as0:List AI)(f1:AI->Option Bool):Option (Int) :=
 bd (lp (kze f1 as0) 0)<|fun o=>match o with
 | .inl ()=>(
   some (-1)
  )
 | .inr o=>(
   some o
  )
def Oh(ax0:AI)(c0:Int):Option (Bool) :=
 some (decide (c0<=ax0.Ticks))
def yzy(n0:Int):Option (Bool) :=
 some (bif (decide ((-999999999999999)<=n0)) then(decide (n0<=999999999999999)) else false)
def Ml(aj:Ag->Ag->Option Bool):(Int×Ag)->(Int×Ag×Bool)->Option ((Int×Ag×Bool)⊕Unit):=fun x s=>match s with
 |(b1,b2,b3) =>
  bd (gd (!(!b3)) (aj x.2 b2)) fun r1 =>
  ite' (bif (!b3) then true else r1) (
   some (.inl (x.1,x.2,true))
   ) (
   some (.inl (b1,b2,b3))
   )
def Rw(ba:(List (Int×Ag)->Option Bool)->Option (List (Int×Ag)))(aj:Ag->Ag->Option Bool):Option (Int×Ag×Bool) :=
 bd (ba (fun l=>D5 (Ml aj) l (0,(Ag.mk false [] []),false))) fun l =>
 bd (BG (Ml aj) l (0,(Ag.mk false [] []),false)) fun o=>match o with
 | .inl (b1,b2,b3)=>(
   some (b1,b2,b3)
  )
 |.inr _=>none
def EG(au:Int)(to1:Int)(b7:Int):Option (A9) :=
 ck (A0 .i64 (to1-au)) <|
 some (A9.mk au to1 [(BB.mk b7 (to1-au))] 0 0)
def Ry(as0:Int):Option (Bool) :=
 some (bif (decide (as0<0)) then true else(decide (1000<as0)))
def Mm(a0:List UInt8):Option (Bool) :=
 ck (!(!(decide (a0=[])))||(BP a0 0)) <|
 some (bif (decide (a0=[])) then true else(!decide ((BM a0 0)=0)))
def vzd :(List Int)->Option ((List Int)⊕(List Int)):=fun s=>match s with
 |x0 =>
  ck (!(decide (0<(x0.length:Int)))||A0 .i64 ((x0.length:Int)-1)) <|
  bd (gd (decide (0<(x0.length:Int))) (at? x0 ((x0.length:Int)-1))) fun x1 =>
  ite' (bif (decide (0<(x0.length:Int))) then(decide (x1=0)) else false) (
   ck (A0 .i64 ((x0.length:Int)-1)) <|
   ck (Dv x0 0 ((x0.length:Int)-1)) <|
   some (.inl (sub x0 0 ((x0.length:Int)-1)))
   ) (
   some (.inr x0)
   )
def H7(ax0:List Int):Option ((List Int)) :=
 bd (lp (vzd) ax0)<|fun x0 =>
 some x0
def Oi(n0:Int)(lo1:Int)(iH:Int):Option (Bool) :=
 some (bif (decide (lo1<=n0)) then(decide (n0<=iH)) else false)
def Rz(as0:Int):Option (Bool) :=
 bd (Oi as0 0 1000) fun r1 =>
 some (!r1)
def Oj(ax0:A9):Option (Bool) :=
 some (decide ((ax0.Table.length:Int)=1))
def Ol(ax0:A9):Option (Bool) :=
 some (decide ((ax0.Table.length:Int)=0))
def R0(f1:Int->Option Bool)(as0:List Int):Int->Option (Int⊕(Unit⊕Int)):=fun s=>match s with
 |t8 =>
  ite' (decide (t8<(as0.length:Int))) (
   bd (at? as0 t8) fun x1 =>
   bd (f1 x1) fun r1 =>
   ite' r1 (
    some (.inr (.inr t8))
    ) (
    ck (A0 .i64 (t8+1)) <|
    some (.inl (t8+1))
    )
   ) (
   some (.inr (.inl ()))
   )
def Om(as0:List Int)(f1:Int->Option Bool):Option (Int) :=
 bd (lp (R0 f1 as0) 0)<|fun o=>match o with
 | .inl ()=>(
   some (-1)
  )
 | .inr o=>(
   some o
  )
def R3(ay:Int):Option (Bool) :=
 some (bif (decide ((-1000)<=ay)) then(decide (ay<=2000)) else false)
def R4(f1:Int->Option Bool):(Int×Int)->Option ((Int×Int)⊕Int):=fun s=>match s with
 |(i5,j6) =>
  ite' (decide (i5<j6)) (
   ck (A0 .i64 (i5+j6)) <|
   ck (A0 .i64 (Int.fdiv ((i5+j6)%18446744073709551616) 2)) <|
   bd (f1 (Int.fdiv ((i5+j6)%18446744073709551616) 2)) fun r1 =>
   ite' (!r1) (
    ck (A0 .i64 ((Int.fdiv ((i5+j6)%18446744073709551616) 2)+1)) <|
    some (.inl (((Int.fdiv ((i5+j6)%18446744073709551616) 2)+1),j6))
    ) (
    some (.inl (i5,(Int.fdiv ((i5+j6)%18446744073709551616) 2)))
    )
   ) (
   some (.inr i5)
   )
def On(n0:Int)(f1:Int->Option Bool):Option (Int) :=
 bd (lp (R4 f1) (0,n0))<|fun i5 =>
 some i5
def Mn(k0:Int)(c0:AK)(c1:Int):Option (Bool) :=
 bd (at? c0.Points k0) fun x1 =>
 some (decide (c1<x1.Stage))
def R5(a0:List UInt8):Int->Option (Int⊕Int):=fun s=>match s with
 |k3 =>
  ck (!(decide (k3<(a0.length:Int)))||(BP a0 k3)) <|
  ite' (bif (decide (k3<(a0.length:Int))) then(decide ((BM a0 k3)=0)) else false) (
   ck (A0 .i64 (k3+1)) <|
   some (.inl (k3+1))
   ) (
   some (.inr k3)
   )
def DU(a0:List UInt8):Option ((List UInt8)) :=
 bd (lp (R5 a0) 0)<|fun k3 =>
 ck (Dv a0 k3 (a0.length:Int)) <|
 some (sub a0 k3 (a0.length:Int))
def IW(a0:Ag):Option ((List UInt8)×(List UInt8)) :=
 ite' (decide (a0.Num=[])) (
  some ([],[1])
  ) (
  some (a0.Num,a0.Den)
  )
def Mo(a0:List UInt8)(b1:List UInt8):Option (Int) :=
 bd (DU a0) fun r1 =>
 bd (DU b1) fun r2 =>
 ite' (decide (r1=r2)) (
  some 0
  ) (
  ite' (bif (decide ((r1.length:Int)<(r2.length:Int))) then true else(bif (decide ((r1.length:Int)=(r2.length:Int))) then(Op.bytesLess r1 r2) else false)) (
   some (-1)
   ) (
   some 1
   )
  )
def jza8(ax0:Int):Option (Int) :=
 bd (U:=Int×Int) (
  ite' (decide (65536<=ax0)) (
   some ((Int.fdiv ax0 65536),16)
   ) (
   some (ax0,0)
   )
 )<|fun(x0,n2) =>
  ite' (decide (256<=x0)) (
   ck (A0 .i64 (n2+8)) <|
   ck (BP CE ((Int.fdiv x0 256)%256)) <|
   ck (A0 .i64 (BM CE ((Int.fdiv x0 256)%256))) <|
   ck (A0 .i64 ((n2+8)+(BM CE ((Int.fdiv x0 256)%256)))) <|
   some ((n2+8)+(BM CE ((Int.fdiv x0 256)%256)))
   ) (
   ck (BP CE (x0%256)) <|
   ck (A0 .i64 (BM CE (x0%256))) <|
   ck (A0 .i64 (n2+(BM CE (x0%256)))) <|
   some (n2+(BM CE (x0%256)))
   )
def Yw(ax0:Int):Option (Int) :=
 bd (U:=Int×Int) (
  ite' (decide (4294967296<=ax0)) (
   some ((Int.fdiv ax0 4294967296),32)
   ) (
   some (ax0,0)
   )
 )<|fun(x0,n2) =>
  bd (U:=Int×Int) (
   ite' (decide (65536<=x0)) (
    ck (A0 .i64 (n2+16)) <|
    some ((Int.fdiv x0 65536),(n2+16))
    ) (
    some (x0,n2)
    )
  )<|fun(x0',n2') =>
   ite' (decide (256<=x0')) (
    ck (A0 .i64 (n2'+8)) <|
    ck (BP CE ((Int.fdiv x0' 256)%256)) <|
    ck (A0 .i64 (BM CE ((Int.fdiv x0' 256)%256))) <|
    ck (A0 .i64 ((n2'+8)+(BM CE ((Int.fdiv x0' 256)%256)))) <|
    some ((n2'+8)+(BM CE ((Int.fdiv x0' 256)%256)))
    ) (
    ck (BP CE (x0'%256)) <|
    ck (A0 .i64 (BM CE (x0'%256))) <|
    ck (A0 .i64 (n2'+(BM CE (x0'%256)))) <|
    some (n2'+(BM CE (x0'%256)))
    )
def Oo(n0:Int):Option (Bool) :=
 some (bif (decide ((-999999999999999)<=n0)) then(decide (n0<=999999999999999)) else false)
def kzs(by1:Int)(ax0:List Int):(Int×Int×(List Int))->Option ((Int×Int×(List Int))⊕(Int×(List Int))):=fun s=>match s with
 |(am,k8,l0) =>
  ite' (decide (0<=k8)) (
   bd (at? ax0 k8) fun x1 =>
   ck (!decide ((by1%18446744073709551616)=0)) <|
   ck (!decide ((by1%18446744073709551616)=0)) <|
   bd (at? l0 k8) fun x2 =>
   ck (A0 .i64 (k8-1)) <|
   some (.inl (((bitI .or .u64 ((am*4294967296)%18446744073709551616) (x1%18446744073709551616)).tmod (by1%18446744073709551616)),(k8-1),(List.set l0 (Int.toNat k8) ((((bitI .or .u64 ((am*4294967296)%18446744073709551616) (x1%18446744073709551616)).tdiv (by1%18446744073709551616))%18446744073709551616)%4294967296))))
   ) (
   some (.inr (am,l0))
   )
def UN(ax0:List Int)(by1:Int):Option ((List Int)×Int) :=
 ck (mkOk (ax0.length:Int) 4) <|
 ck (A0 .i64 ((ax0.length:Int)-1)) <|
 bd (lp (kzs by1 ax0) (0,((ax0.length:Int)-1),(List.replicate (Int.toNat (ax0.length:Int)) 0)))<|fun(am,l0) =>
 bd (H7 l0) fun r1 =>
 some (r1,(am%4294967296))
def R6(ax0:List Int)(k1:Int):Option (Int) :=
 ite' (decide (k1<(ax0.length:Int))) (
  bd (at? ax0 k1) fun x1 =>
  some (x1%18446744073709551616)
  ) (
  some 0
  )
def Gz(a0:List UInt8)(k1:Int):Option (Int) :=
 ite' (decide ((a0.length:Int)<=k1)) (
  some 0
  ) (
  ck (A0 .i64 ((a0.length:Int)-1)) <|
  ck (A0 .i64 (((a0.length:Int)-1)-k1)) <|
  ck (BP a0 (((a0.length:Int)-1)-k1)) <|
  ck (A0 .i64 (BM a0 (((a0.length:Int)-1)-k1))) <|
  some (BM a0 (((a0.length:Int)-1)-k1))
  )
def R7(l0:List Int):(Int×(List Int))->Option ((Int×(List Int))⊕(List Int)):=fun s=>match s with
 |(k4,l1) =>
  ite' (decide (0<=k4)) (
   bd (at? l0 k4) fun x1 =>
   ck (decide (List.length (l1++[(x1%256)])*1<=140737488355328)) <|
   ck (A0 .i64 (k4-1)) <|
   some (.inl ((k4-1),(l1++[(x1%256)])))
   ) (
   some (.inr l1)
   )
def Mp(l0:List Int):Option ((List UInt8)) :=
 ck (A0 .i64 ((l0.length:Int)-1)) <|
 bd (lp (R7 l0) (((l0.length:Int)-1),[]))<|fun l1 =>
 bd (DU (CF l1)) fun r1 =>
 some r1
def R8 :(Int×(List UInt8))->Option ((Int×(List UInt8))⊕(List UInt8)):=fun s=>match s with
 |(n0',ap) =>
  ite' (decide (0<n0')) (
   ck (decide (List.length (CF [((n0'.tmod 256)%256)])+ap.length<=4611686018427387904)) <|
   ck (A0 .i64 (n0'.tdiv 256)) <|
   some (.inl ((n0'.tdiv 256),((CF [((n0'.tmod 256)%256)])++ap)))
   ) (
   some (.inr ap)
   )
def R9(n0:Int):Option (Em) :=
 ite' (decide (n0<0)) (
  some (Em.mk [] 3)
  ) (
  bd (lp (R8) (n0,[]))<|fun ap =>
  some (Em.mk ap 0)
  )
def Mq(ax0:Int):Option (Bool) :=
 some (!decide (ax0=ax0))
def Mr(ax0:Int):Option (Bool) :=
 some (!decide (ax0=ax0))
def wz7(ac1:Int):(List UInt8)->Option ((List UInt8)⊕(List UInt8)):=fun s=>match s with
 |s0 =>
  ck (!(decide (0<(s0.length:Int)))||(BP s0 0)) <|
  ite' (bif (decide (0<(s0.length:Int))) then(decide ((BM s0 0)=ac1)) else false) (
   ck (Dv s0 1 (s0.length:Int)) <|
   some (.inl (sub s0 1 (s0.length:Int)))
   ) (
   some (.inr s0)
   )
def jzz(as0:List UInt8)(ac1:Int):Option ((List UInt8)) :=
 bd (lp (wz7 ac1) as0)<|fun s0 =>
 some s0
def Hx(a0:A9)(b1:A9):Option (A9×Bool) :=
 bd (Oj a0) fun r1 =>
 bd (gd r1 (Oj b1)) fun r2 =>
 bd (gd (bif r1 then r2 else false) (at? a0.Table 0)) fun x1 =>
 bd (gd (bif r1 then r2 else false) (at? b1.Table 0)) fun x2 =>
 ite' (bif (bif r1 then r2 else false) then(decide (x1.Stage=x2.Stage)) else false) (
  bd (at? a0.Table 0) fun x3 =>
  bd (EG a0.From b1.To x3.Stage) fun r3 =>
  some (r3,true)
  ) (
  bd (Ol a0) fun r4 =>
  bd (gd r4 (Ol b1)) fun r5 =>
  ite' (bif (bif (bif r4 then r5 else false) then(decide (a0.Lo=b1.Lo)) else false) then(decide (a0.Hi=b1.Hi)) else false) (
   some ((A9.mk a0.From b1.To [] a0.Lo a0.Hi),true)
   ) (
   some ((A9.mk 0 0 [] 0 0),false)
   )
  )
def Yx(as0:List Int)(f1:Int->Option Bool):Option (Bool) :=
 bd (Om as0 f1) fun r1 =>
 some (decide (0<=r1))
def Oq(a0:List UInt8):Option (Bool) :=
 bd (DU a0) fun r1 =>
 some (decide (a0=r1))
def jzc7(ax0:Int):Option (Int) :=
 bd (Yw ax0) fun r1 =>
 some r1
def RA(a0:List UInt8)(ae:Int):(Int×Int)->Option ((Int×Int)⊕Int):=fun s=>match s with
 |(ai,t22) =>
  ite' (decide (t22<(List.length (bytes (sub a0 (max 0 (ae-4)) ae)):Int))) (
   bd (at? (bytes (sub a0 (max 0 (ae-4)) ae)) t22) fun x1 =>
   ck (A0 .i64 (t22+1)) <|
   some (.inl ((bitI .or .u32 ((ai*256)%4294967296) (x1%4294967296)),(t22+1)))
   ) (
   some (.inr ai)
   )
def RB(a0:List UInt8):(Int×(List Int))->Option ((Int×(List Int))⊕(List Int)):=fun s=>match s with
 |(ae,l2) =>
  ite' (decide (0<ae)) (
   ck (A0 .i64 (ae-4)) <|
   ck (Dv a0 (max 0 (ae-4)) ae) <|
   bd (lp (RA a0 ae) (0,0))<|fun ai =>
   ck (decide (List.length (l2++[ai])*4<=140737488355328)) <|
   ck (A0 .i64 (ae-4)) <|
   some (.inl ((ae-4),(l2++[ai])))
   ) (
   some (.inr l2)
   )
def GZ(a0:List UInt8):Option ((List Int)) :=
 bd (lp (RB a0) ((a0.length:Int),[]))<|fun l2 =>
 bd (H7 l2) fun r1 =>
 some r1
def jzl(t20:Int)(x1:Int)(y1:List Int):(Int×Int×(List Int))->Option ((Int×Int×(List Int))⊕(List Int)):=fun s=>match s with
 |(ao,k9,l0') =>
  ite' (bif (decide (k9<(y1.length:Int))) then true else(decide (0<ao))) (
   bd (R6 y1 k9) fun r1 =>
   ck (A0 .i64 (t20+k9)) <|
   bd (at? l0' (t20+k9)) fun x2 =>
   ck (A0 .i64 (t20+k9)) <|
   bd (at? l0' (t20+k9)) fun x3 =>
   ck (A0 .i64 (k9+1)) <|
   some (.inl ((Int.fdiv (((((((x1%18446744073709551616)*r1)%18446744073709551616)+(x2%18446744073709551616))%18446744073709551616)+ao)%18446744073709551616) 4294967296),(k9+1),(List.set l0' (Int.toNat (t20+k9)) ((((((((x1%18446744073709551616)*r1)%18446744073709551616)+(x2%18446744073709551616))%18446744073709551616)+ao)%18446744073709551616)%4294967296))))
   ) (
   some (.inr l0')
   )
def kzu(ax0:List Int)(y1:List Int):(Int×(List Int))->Option ((Int×(List Int))⊕(List Int)):=fun s=>match s with
 |(t20,l0) =>
  ite' (decide (t20<(ax0.length:Int))) (
   bd (at? ax0 t20) fun x1 =>
   bd (lp (jzl t20 x1 y1) (0,0,l0))<|fun l0' =>
   ck (A0 .i64 (t20+1)) <|
   some (.inl ((t20+1),l0'))
   ) (
   some (.inr l0)
   )
def RC(ax0:List Int)(y1:List Int):Option ((List Int)) :=
 ck (A0 .i64 ((ax0.length:Int)+(y1.length:Int))) <|
 ck (A0 .i64 (((ax0.length:Int)+(y1.length:Int))+1)) <|
 ck (mkOk (((ax0.length:Int)+(y1.length:Int))+1) 4) <|
 bd (lp (kzu ax0 y1) (0,(List.replicate (Int.toNat (((ax0.length:Int)+(y1.length:Int))+1)) 0)))<|fun l0 =>
 bd (H7 l0) fun r2 =>
 some r2
def vze(ax0:List Int)(y1:List Int):(Int×Int×(List Int))->Option ((Int×Int×(List Int))⊕(List Int)):=fun s=>match s with
 |(a8,t15,l1) =>
  ite' (decide (t15<((max (ax0.length:Int) (y1.length:Int))+1))) (
   bd (R6 ax0 t15) fun r1 =>
   bd (R6 y1 t15) fun r2 =>
   ck (decide (List.length (l1++[(((((r1+r2)%18446744073709551616)+a8)%18446744073709551616)%4294967296)])*4<=140737488355328)) <|
   ck (A0 .i64 (t15+1)) <|
   some (.inl ((Int.fdiv ((((r1+r2)%18446744073709551616)+a8)%18446744073709551616) 4294967296),(t15+1),(l1++[(((((r1+r2)%18446744073709551616)+a8)%18446744073709551616)%4294967296)])))
   ) (
   some (.inr l1)
   )
def Yy(ax0:List Int)(y1:List Int):Option ((List Int)) :=
 ck (A0 .i64 ((max (ax0.length:Int) (y1.length:Int))+1)) <|
 bd (lp (vze ax0 y1) (0,0,[]))<|fun l1 =>
 bd (H7 l1) fun r3 =>
 some r3
def kzo(ax0:List Int)(y1:List Int):(Int×Int×(List Int))->Option ((Int×Int×(List Int))⊕(List Int)):=fun s=>match s with
 |(a3,t11,l1) =>
  ite' (decide (t11<(ax0.length:Int))) (
   bd (at? ax0 t11) fun x1 =>
   bd (R6 y1 t11) fun r1 =>
   ck (decide (List.length (l1++[((((((x1%18446744073709551616)-r1)%18446744073709551616)-a3)%18446744073709551616)%4294967296)])*4<=140737488355328)) <|
   ck (A0 .i64 (t11+1)) <|
   some (.inl ((Int.fdiv (((((x1%18446744073709551616)-r1)%18446744073709551616)-a3)%18446744073709551616) 9223372036854775808),(t11+1),(l1++[((((((x1%18446744073709551616)-r1)%18446744073709551616)-a3)%18446744073709551616)%4294967296)])))
   ) (
   some (.inr l1)
   )
def RD(ax0:List Int)(y1:List Int):Option ((List Int)) :=
 bd (lp (kzo ax0 y1) (0,0,[]))<|fun l1 =>
 bd (H7 l1) fun r2 =>
 some r2
def Ot(a0:List UInt8)(b1:List UInt8)(i6:Int):(Int×Int×(List Int))->Option ((Int×Int×(List Int))⊕(List Int)):=fun s=>match s with
 |(al,k8,l0') =>
  ite' (decide (k8<=(b1.length:Int))) (
   ck (A0 .i64 (i6+k8)) <|
   bd (at? l0' (i6+k8)) fun x1 =>
   bd (Gz a0 i6) fun r1 =>
   bd (Gz b1 k8) fun r2 =>
   ck (A0 .i64 (r1*r2)) <|
   ck (A0 .i64 (x1+(r1*r2))) <|
   ck (A0 .i64 ((x1+(r1*r2))+al)) <|
   ck (A0 .i64 (i6+k8)) <|
   bd (at? l0' (i6+k8)) fun x2 =>
   ck (A0 .i64 (((x1+(r1*r2))+al).tdiv 256)) <|
   ck (A0 .i64 (k8+1)) <|
   some (.inl ((((x1+(r1*r2))+al).tdiv 256),(k8+1),(List.set l0' (Int.toNat (i6+k8)) (((x1+(r1*r2))+al).tmod 256))))
   ) (
   some (.inr l0')
   )
def RE(a0:List UInt8)(b1:List UInt8):(Int×(List Int))->Option ((Int×(List Int))⊕(List Int)):=fun s=>match s with
 |(i6,l0) =>
  ite' (decide (i6<(a0.length:Int))) (
   bd (lp (Ot a0 b1 i6) (0,0,l0))<|fun l0' =>
   ck (A0 .i64 (i6+1)) <|
   some (.inl ((i6+1),l0'))
   ) (
   some (.inr l0)
   )
def H8(a0:List UInt8)(b1:List UInt8):Option ((List UInt8)) :=
 ck (A0 .i64 ((a0.length:Int)+(b1.length:Int))) <|
 ck (A0 .i64 (((a0.length:Int)+(b1.length:Int))+1)) <|
 ck (mkOk (((a0.length:Int)+(b1.length:Int))+1) 8) <|
 bd (lp (RE a0 b1) (0,(List.replicate (Int.toNat (((a0.length:Int)+(b1.length:Int))+1)) 0)))<|fun l0 =>
 bd (Mp l0) fun r3 =>
 some r3
def RF(a0:List UInt8)(b1:List UInt8):(Int×Int×(List Int))->Option ((Int×Int×(List Int))⊕(List Int)):=fun s=>match s with
 |(a8,k7,l1) =>
  ite' (decide (k7<=(max (a0.length:Int) (b1.length:Int)))) (
   bd (Gz a0 k7) fun r1 =>
   bd (Gz b1 k7) fun r2 =>
   ck (A0 .i64 (r1+r2)) <|
   ck (A0 .i64 ((r1+r2)+a8)) <|
   ck (decide (List.length (l1++[(((r1+r2)+a8).tmod 256)])*8<=140737488355328)) <|
   ck (A0 .i64 (((r1+r2)+a8).tdiv 256)) <|
   ck (A0 .i64 (k7+1)) <|
   some (.inl ((((r1+r2)+a8).tdiv 256),(k7+1),(l1++[(((r1+r2)+a8).tmod 256)])))
   ) (
   some (.inr l1)
   )
def RG(a0:List UInt8)(b1:List UInt8):Option ((List UInt8)) :=
 bd (lp (RF a0 b1) (0,0,[]))<|fun l1 =>
 bd (Mp l1) fun r3 =>
 some r3
def RH(a0:List UInt8)(b1:List UInt8):(Int×Int×(List Int))->Option ((Int×Int×(List Int))⊕(List Int)):=fun s=>match s with
 |(a3,k7,l2) =>
  ite' (decide (k7<(a0.length:Int))) (
   bd (Gz a0 k7) fun r2 =>
   bd (Gz b1 k7) fun r3 =>
   ck (A0 .i64 (r2-r3)) <|
   ck (A0 .i64 ((r2-r3)-a3)) <|
   bd (U:=Int×Int) (
    ite' (decide (((r2-r3)-a3)<0)) (
     ck (A0 .i64 (((r2-r3)-a3)+256)) <|
     some (1,(((r2-r3)-a3)+256))
     ) (
     some (0,((r2-r3)-a3))
     )
   )<|fun(a3',n8) =>
    ck (decide (List.length (l2++[n8])*8<=140737488355328)) <|
    ck (A0 .i64 (k7+1)) <|
    some (.inl (a3',(k7+1),(l2++[n8])))
   ) (
   some (.inr l2)
   )
def Ms(a0:List UInt8)(b1:List UInt8):Option (Em) :=
 bd (Mo a0 b1) fun r1 =>
 ite' (decide (r1<0)) (
  some (Em.mk [] 3)
  ) (
  bd (lp (RH a0 b1) (0,0,[]))<|fun l2 =>
  bd (Mp l2) fun r4 =>
  some (Em.mk r4 0)
  )
def Ou(n0:Int):Option ((List UInt8)) :=
 bd (U:=Int) (
  ite' (decide (n0<0)) (
   ck (A0 .i64 (-n0)) <|
   some (-n0)
   ) (
   some n0
   )
 )<|fun n0' =>
  bd (R9 n0') fun r1 =>
  some r1.S
def Qt(ax0:List Int)(ak:Int):Option ((List Int)) :=
 ite' (decide (ak<0)) (
  ck (A0 .i64 (-ak)) <|
  ck (decide (0<=(-ak))) <|
  bd (UN ax0 ((1*2 ^ min (Int.toNat (-ak)) 32)%4294967296)) fun r1 =>
  some r1.1
  ) (
  ck (decide (0<=ak)) <|
  bd (RC ax0 [((1*2 ^ min (Int.toNat ak) 32)%4294967296)]) fun r2 =>
  some r2
  )
def Ov(ax0:Int)(y1:Int):Option (Int) :=
 bd (Mq ax0) fun r1 =>
 bd (Mq y1) fun r2 =>
 ite' r1 (
  ite' r2 (
   some 0
   ) (
   some (-1)
   )
  ) (
  ite' r2 (
   some 1
   ) (
   ite' (decide (ax0<y1)) (
    some (-1)
    ) (
    ite' (decide (y1<ax0)) (
     some 1
     ) (
     some 0
     )
    )
   )
  )
def Ow(ax0:Int)(y1:Int):Option (Int) :=
 bd (Mr ax0) fun r1 =>
 bd (Mr y1) fun r2 =>
 ite' r1 (
  ite' r2 (
   some 0
   ) (
   some (-1)
   )
  ) (
  ite' r2 (
   some 1
   ) (
   ite' (decide (ax0<y1)) (
    some (-1)
    ) (
    ite' (decide (y1<ax0)) (
     some 1
     ) (
     some 0
     )
    )
   )
  )
def RI(as0:List UInt8)(a9:List UInt8):Option ((List UInt8)) :=
 ite' (bif (decide (as0=[])) then true else(decide (a9=[]))) (
  some as0
  ) (
  ck (!(decide ((a9.length:Int)=1))||(BP a9 0)) <|
  ite' (bif (decide ((a9.length:Int)=1)) then(decide ((BM a9 0)<128)) else false) (
   ck (BP a9 0) <|
   bd (jzz as0 (BM a9 0)) fun r1 =>
   some r1
   ) (
   none
   )
  )
def Ox(h0:Au):Option (Bool) :=
 ck (!(bif (decide (0<=h0.From)) then(decide ((h0.Stages.length:Int)<=40000)) else false)||A0 .i64 (1402560-(h0.Stages.length:Int))) <|
 bd (gd (bif (bif (decide (0<=h0.From)) then(decide ((h0.Stages.length:Int)<=40000)) else false) then(decide (h0.From<=(1402560-(h0.Stages.length:Int)))) else false) (Yx h0.Stages (fun a0=>Ry a0))) fun r1 =>
 some (bif (bif (bif (decide (0<=h0.From)) then(decide ((h0.Stages.length:Int)<=40000)) else false) then(decide (h0.From<=(1402560-(h0.Stages.length:Int)))) else false) then(!r1) else false)
def Gw(h0:Au):Option (Bool) :=
 ck (!(decide ((h0.Stages.length:Int)<=40000))||A0 .i64 (1402560-(h0.Stages.length:Int))) <|
 bd (gd (decide ((h0.Stages.length:Int)<=40000)) (Oi h0.From 0 (1402560-(h0.Stages.length:Int)))) fun r1 =>
 bd (gd (bif (decide ((h0.Stages.length:Int)<=40000)) then r1 else false) (Yx h0.Stages (fun a0=>Rz a0))) fun r2 =>
 some (bif (bif (decide ((h0.Stages.length:Int)<=40000)) then r1 else false) then(!r2) else false)
def jz2(ax0:List Int)(y1:List Int):Int->Option (Int⊕(Unit⊕Int)):=fun s=>match s with
 |k6 =>
  ite' (decide (0<=k6)) (
   bd (at? ax0 k6) fun x1 =>
   bd (at? y1 k6) fun x2 =>
   bd (Ow x1 x2) fun r2 =>
   ite' (!decide (r2=0)) (
    some (.inr (.inr r2))
    ) (
    ck (A0 .i64 (k6-1)) <|
    some (.inl (k6-1))
    )
   ) (
   some (.inr (.inl ()))
   )
def RJ(ax0:List Int)(y1:List Int):Option (Int) :=
 bd (Ov (ax0.length:Int) (y1.length:Int)) fun r1 =>
 ite' (!decide (r1=0)) (
  some r1
  ) (
  ck (A0 .i64 ((ax0.length:Int)-1)) <|
  bd (lp (jz2 ax0 y1) ((ax0.length:Int)-1))<|fun o=>match o with
  | .inl ()=>(
    some 0
   )
  | .inr o=>(
    some o
   )
  )
def RK(b1:List UInt8):((List UInt8)×Int)->Option (((List UInt8)×Int)⊕((List UInt8)×Int)):=fun s=>match s with
 |(r6',n8) =>
  bd (Mo r6' b1) fun r3 =>
  ite' (decide (0<=r3)) (
   bd (Ms r6' b1) fun r4 =>
   ck (A0 .i64 (n8+1)) <|
   some (.inl (r4.S,(n8+1)))
   ) (
   some (.inr (r6',n8))
   )
def RL(a0:List UInt8)(b1:List UInt8):((List UInt8)×(List UInt8)×Int)->Option (((List UInt8)×(List UInt8)×Int)⊕((List UInt8)×(List UInt8))):=fun s=>match s with
 |(q5,r6,k7) =>
  ite' (decide (k7<(a0.length:Int))) (
   ck (A0 .i64 (k7+1)) <|
   ck (Dv a0 k7 (k7+1)) <|
   ck (decide (r6.length+List.length (sub a0 k7 (k7+1))<=4611686018427387904)) <|
   bd (DU (r6++(sub a0 k7 (k7+1)))) fun r2 =>
   bd (lp (RK b1) (r2,0))<|fun(r6',n8) =>
   ck (decide (q5.length+List.length (CF [(n8%256)])<=4611686018427387904)) <|
   ck (A0 .i64 (k7+1)) <|
   some (.inl ((q5++(CF [(n8%256)])),r6',(k7+1)))
   ) (
   some (.inr (q5,r6))
   )
def Mt(a0:List UInt8)(b1:List UInt8):Option (Fx) :=
 bd (DU b1) fun r1 =>
 ite' (decide (r1=[])) (
  some (Fx.mk [] [] 1)
  ) (
  bd (lp (RL a0 b1) ([],[],0))<|fun(q5,r6) =>
  bd (DU q5) fun r5 =>
  some (Fx.mk r5 r6 0)
  )
def Oy(a0:List UInt8):Option ((List UInt8)) :=
 bd (RI a0 [0]) fun r1 =>
 some r1
def Hy(out:List A9)(x:A9):Option (List A9):=match out.getLast? with
 |none=>some [x]
 |some a=>bd (Hx a x) fun p=>some (bif p.2 then out.dropLast++[p.1] else out++[x])
def ofL(f:Int):Int->List Int->List A9->Option (List A9)
 |_,[],out=>some out
 |k,s :: l,out=>ck (A0 .i64 (f+k)&&A0 .i64 (f+k+1))<|bd (EG (f+k) (f+k+1) s) fun x=>bd (Hy out x) fun out=>ofL f (k+1) l out
def Gx(h0:Au):Option (List A9×Int) :=
 bd (Gw h0) fun b=>ite' (!b) (some ([],1)) <|
 bd (ofL h0.From 0 h0.Stages []) fun out=>ite' (decide (2000<(out.length:Int))) (some ([],2)) (some (out,0))
def Oz(a0:List UInt8)(b1:List UInt8):Option (Int) :=
 bd (GZ a0) fun r1 =>
 bd (GZ b1) fun r2 =>
 bd (RJ r1 r2) fun r3 =>
 some r3
def IX :((List UInt8)×(List UInt8))->Option (((List UInt8)×(List UInt8))⊕(List UInt8)):=fun s=>match s with
 |(x5,y6) =>
  ite' (!decide (y6=[])) (
   bd (Mt x5 y6) fun r3 =>
   some (.inl (y6,r3.R))
   ) (
   some (.inr x5)
   )
def O0(a0:List UInt8)(b1:List UInt8):Option ((List UInt8)) :=
 bd (DU a0) fun r1 =>
 bd (DU b1) fun r2 =>
 bd (lp (IX) (r1,r2))<|fun x5 =>
 some x5
def kzx(y1:List Int):Int->Option (Int⊕Int):=fun s=>match s with
 |aa =>
  ck (A0 .i64 ((y1.length:Int)-1)) <|
  bd (at? y1 ((y1.length:Int)-1)) fun x2 =>
  ck (decide (0<=aa)) <|
  ite' (decide (((x2*2 ^ min (Int.toNat aa) 32)%4294967296)<2147483648)) (
   ck (A0 .i64 (aa+1)) <|
   some (.inl (aa+1))
   ) (
   some (.inr aa)
   )
def kz2(j13:Int)(a6:List Int)(r4:(List Int)):(Int×Int)->Option ((Int×Int)⊕Int):=fun s=>match s with
 |(a2,ab) =>
  ck (!(decide (ab<4294967296))||A0 .i64 ((r4.length:Int)-2)) <|
  bd (gd (decide (ab<4294967296)) (at? r4 ((r4.length:Int)-2))) fun x7 =>
  ck (!(decide (ab<4294967296))||A0 .i64 (j13+(r4.length:Int))) <|
  ck (!(decide (ab<4294967296))||A0 .i64 ((j13+(r4.length:Int))-2)) <|
  bd (gd (decide (ab<4294967296)) (at? a6 ((j13+(r4.length:Int))-2))) fun x8 =>
  ite' (bif (decide (ab<4294967296)) then(decide ((bitI .or .u64 ((ab*4294967296)%18446744073709551616) (x8%18446744073709551616))<((a2*(x7%18446744073709551616))%18446744073709551616))) else false) (
   ck (A0 .i64 ((r4.length:Int)-1)) <|
   bd (at? r4 ((r4.length:Int)-1)) fun x9 =>
   some (.inl (((a2-1)%18446744073709551616),((ab+(x9%18446744073709551616))%18446744073709551616)))
   ) (
   some (.inr a2)
   )
def yzk(j13:Int)(a6:List Int)(r4:(List Int)):(Int×(List Int))->Option ((Int×(List Int))⊕(Int×(List Int))):=fun s=>match s with
 |(a2',ac) =>
  bd (Qs (sub a6 j13 ((j13+(r4.length:Int))+1))) fun r8 =>
  bd (H7 r8) fun r9 =>
  bd (RJ r9 ac) fun r10 =>
  ite' (decide (r10<0)) (
   bd (RD ac r4) fun r11 =>
   some (.inl (((a2'-1)%18446744073709551616),r11))
   ) (
   some (.inr (a2',ac))
   )
def UO(r4:(List Int)):(Int×(List Int)×(List Int))->Option ((Int×(List Int)×(List Int))⊕((List Int)×(List Int))):=fun s=>match s with
 |(j13,a6,l3) =>
  ite' (decide (0<=j13)) (
   ck (A0 .i64 (j13+(r4.length:Int))) <|
   bd (at? a6 (j13+(r4.length:Int))) fun x3 =>
   ck (A0 .i64 (j13+(r4.length:Int))) <|
   ck (A0 .i64 ((j13+(r4.length:Int))-1)) <|
   bd (at? a6 ((j13+(r4.length:Int))-1)) fun x4 =>
   ck (A0 .i64 ((r4.length:Int)-1)) <|
   bd (at? r4 ((r4.length:Int)-1)) fun x5 =>
   ck (!decide ((x5%18446744073709551616)=0)) <|
   ck (A0 .i64 ((r4.length:Int)-1)) <|
   bd (at? r4 ((r4.length:Int)-1)) fun x6 =>
   bd (lp (kz2 j13 a6 r4) ((min (((bitI .or .u64 (((x3%18446744073709551616)*4294967296)%18446744073709551616) (x4%18446744073709551616)).tdiv (x5%18446744073709551616))%18446744073709551616) 4294967295),(((bitI .or .u64 (((x3%18446744073709551616)*4294967296)%18446744073709551616) (x4%18446744073709551616))-(((min (((bitI .or .u64 (((x3%18446744073709551616)*4294967296)%18446744073709551616) (x4%18446744073709551616)).tdiv (x5%18446744073709551616))%18446744073709551616) 4294967295)*(x6%18446744073709551616))%18446744073709551616))%18446744073709551616)))<|fun a2 =>
   bd (U:=Unit⊕Unit) (
    ite' (decide (a2=0)) (
     some (.inr ())
     ) (
     some (.inl ())
     )
   )<|fun o=>match o with
    | .inl ()=>(
      ck (A0 .i64 (j13+(r4.length:Int))) <|
      ck (A0 .i64 ((j13+(r4.length:Int))+1)) <|
      ck (Dv a6 j13 ((j13+(r4.length:Int))+1)) <|
      bd (RC r4 [(a2%4294967296)]) fun r7 =>
      bd (lp (yzk j13 a6 r4) (a2,r7))<|fun(a2',ac) =>
      bd (Qs (sub a6 j13 ((j13+(r4.length:Int))+1))) fun r12 =>
      bd (H7 r12) fun r13 =>
      bd (RD r13 ac) fun r14 =>
      ck (Dv a6 j13 ((j13+(r4.length:Int))+1)) <|
      ck (Dv (Ca a6 (Int.toNat j13) (List.replicate (Int.toNat (((j13+(r4.length:Int))+1)-j13)) 0)) j13 ((j13+(r4.length:Int))+1)) <|
      bd (at? l3 j13) fun x10 =>
      ck (A0 .i64 (j13-1)) <|
      some (.inl ((j13-1),(Ca (Ca a6 (Int.toNat j13) (List.replicate (Int.toNat (((j13+(r4.length:Int))+1)-j13)) 0)) (Int.toNat j13) (List.take (Int.toNat (((j13+(r4.length:Int))+1)-j13)) r14)),(List.set l3 (Int.toNat j13) (a2'%4294967296))))
     )
    | .inr ()=>(
      ck (A0 .i64 (j13-1)) <|
      some (.inl ((j13-1),a6,l3))
     )
   ) (
   some (.inr (a6,l3))
   )
def NX(ax0:List Int)(y1:List Int):Option ((List Int)×(List Int)) :=
 bd (RJ ax0 y1) fun r1 =>
 ite' (decide (r1<0)) (
  some ([],ax0)
  ) (
  ite' (decide ((y1.length:Int)=1)) (
   bd (at? y1 0) fun x1 =>
   bd (UN ax0 x1) fun r2 =>
   bd (H7 [r2.2]) fun r3 =>
   some (r2.1,r3)
   ) (
   bd (lp (kzx y1) 0)<|fun aa =>
   bd (Qt y1 aa) fun r4 =>
   bd (Qt ax0 aa) fun r5 =>
   bd (Qs r5) fun r6 =>
   ck (decide (List.length (r6++[0,0])*4<=140737488355328)) <|
   ck (A0 .i64 ((ax0.length:Int)-(r4.length:Int))) <|
   ck (A0 .i64 (((ax0.length:Int)-(r4.length:Int))+2)) <|
   ck (mkOk (((ax0.length:Int)-(r4.length:Int))+2) 4) <|
   ck (A0 .i64 ((List.length (r6++[0,0]):Int)-(r4.length:Int))) <|
   ck (A0 .i64 (((List.length (r6++[0,0]):Int)-(r4.length:Int))-1)) <|
   bd (lp (UO r4) ((((List.length (r6++[0,0]):Int)-(r4.length:Int))-1),(r6++[0,0]),(List.replicate (Int.toNat (((ax0.length:Int)-(r4.length:Int))+2)) 0)))<|fun(a6,l3) =>
   bd (H7 l3) fun r15 =>
   bd (H7 a6) fun r16 =>
   ck (A0 .i64 (-aa)) <|
   bd (Qt r16 (-aa)) fun r17 =>
   some (r15,r17)
   )
  )
def vzb(ax0:List Int):(Int×(List Int))->Option ((Int×(List Int))⊕(List Int)):=fun s=>match s with
 |(t8,l1) =>
  ite' (decide (t8<(ax0.length:Int))) (
   bd (at? ax0 t8) fun x1 =>
   ck (decide (List.length (l1++[(x1%256),((Int.fdiv x1 256)%256),((Int.fdiv x1 65536)%256),((Int.fdiv x1 16777216)%256)])*1<=140737488355328)) <|
   ck (A0 .i64 (t8+1)) <|
   some (.inl ((t8+1),(l1++[(x1%256),((Int.fdiv x1 256)%256),((Int.fdiv x1 65536)%256),((Int.fdiv x1 16777216)%256)])))
   ) (
   some (.inr l1)
   )
def IT(ax0:List Int):Option ((List UInt8)) :=
 bd (lp (vzb ax0) (0,[]))<|fun l1 =>
 bd (yzz l1) fun r1 =>
 bd (Oy (CF r1)) fun r2 =>
 some r2
def H9(bb:Bool)(bc:List UInt8)(b5:List UInt8):Option (Ag) :=
 bd (DU bc) fun r1 =>
 ite' (decide (r1=[])) (
  some (Ag.mk false [] [])
  ) (
  bd (O0 r1 b5) fun r2 =>
  bd (Mt r1 r2) fun r3 =>
  bd (Mt b5 r2) fun r4 =>
  some (Ag.mk bb r3.Q r4.Q)
  )
def IU:(List Int×List Int)->Option ((List Int×List Int)⊕List Int):=fun s=>match s with
 |(x,y)=>ite' (decide ((y.length:Int)=0)) (some (.inr x)) (bd (NX x y) fun r=>some (.inl (y,r.2)))
def Hv(a0:List UInt8)(b1:List UInt8):Option (List UInt8) :=
 bd (GZ a0) fun x =>
 bd (GZ b1) fun y =>
 bd (lp IU (x,y)) fun r =>
 IT r
def yzs(a0:Ag):Option (Bool) :=
 ite' ((a0.Neg==false)&&(decide (a0.Num=[])&&(decide (a0.Den=[])&&true))) (
  some true
  ) (
  bd (gd (bif (!decide (a0.Num=[])) then(!decide (a0.Den=[])) else false) (Mm a0.Num)) fun r1 =>
  bd (gd (bif (bif (!decide (a0.Num=[])) then(!decide (a0.Den=[])) else false) then r1 else false) (Mm a0.Den)) fun r2 =>
  bd (gd (bif (bif (bif (!decide (a0.Num=[])) then(!decide (a0.Den=[])) else false) then r1 else false) then r2 else false) (Hv a0.Num a0.Den)) fun r3 =>
  some (bif (bif (bif (bif (!decide (a0.Num=[])) then(!decide (a0.Den=[])) else false) then r1 else false) then r2 else false) then(decide (r3=[1])) else false)
  )
def RM(a0:Ag):Option (Bool) :=
 ite' (bif (decide (a0.Num=[])) then true else(decide (a0.Den=[]))) (
  some ((a0.Neg==false)&&(decide (a0.Num=[])&&(decide (a0.Den=[])&&true)))
  ) (
  bd (Oq a0.Num) fun r1 =>
  bd (Oq a0.Den) fun r2 =>
  bd (gd (bif r1 then r2 else false) (O0 a0.Num a0.Den)) fun r3 =>
  some (bif (bif r1 then r2 else false) then(decide (r3=[1])) else false)
  )
def Mu(a0:List UInt8)(b1:List UInt8):Option ((List UInt8)×(List UInt8)×Int) :=
 bd (GZ a0) fun r1 =>
 bd (GZ b1) fun r2 =>
 ite' (decide ((r2.length:Int)=0)) (
  some ([],[],1)
  ) (
  bd (NX r1 r2) fun r3 =>
  bd (IT r3.1) fun r4 =>
  bd (IT r3.2) fun r5 =>
  some (r4,r5,0)
  )
def G0(a0:List UInt8)(b1:List UInt8):Option ((List UInt8)) :=
 bd (GZ a0) fun r1 =>
 bd (GZ b1) fun r2 =>
 bd (RC r1 r2) fun r3 =>
 bd (IT r3) fun r4 =>
 some r4
def O1(a0:List UInt8)(b1:List UInt8):Option ((List UInt8)) :=
 bd (GZ a0) fun r1 =>
 bd (GZ b1) fun r2 =>
 bd (Yy r1 r2) fun r3 =>
 bd (IT r3) fun r4 =>
 some r4
def O2(a0:List UInt8)(b1:List UInt8):Option ((List UInt8)×Int) :=
 bd (GZ a0) fun r1 =>
 bd (GZ b1) fun r2 =>
 bd (RJ r1 r2) fun r3 =>
 ite' (decide (r3<0)) (
  some ([],3)
  ) (
  bd (RD r1 r2) fun r4 =>
  bd (IT r4) fun r5 =>
  some (r5,0)
  )
def O3(n0:Int):Option ((List UInt8)×Int) :=
 ite' (decide (n0<0)) (
  some ([],3)
  ) (
  bd (H7 [(n0%4294967296),((Int.fdiv n0 4294967296)%4294967296)]) fun r1 =>
  bd (IT r1) fun r2 =>
  some (r2,0)
  )
def RN(an:Int)(ah:Int):Option (EF) :=
 bd (Oo an) fun r1 =>
 bd (Oo ah) fun r2 =>
 ite' (bif (!r1) then true else(!r2)) (
  some (EF.mk (Ag.mk false [] []) 3)
  ) (
  ite' (decide (ah=0)) (
   some (EF.mk (Ag.mk false [] []) 1)
   ) (
   bd (Ou an) fun r3 =>
   bd (Ou ah) fun r4 =>
   bd (H9 (!((decide (an<0))==(decide (ah<0)))) r3 r4) fun r5 =>
   some (EF.mk r5 0)
   )
  )
def RO(a0:Ag):Option (Bool) :=
 bd (yzs a0) fun r1 =>
 some (bif r1 then(!a0.Neg) else false)
def HA(a0:Ag):Option (Ag) :=
 bd (RM a0) fun r1 =>
 ite' r1 (
  some a0
  ) (
  some (Ag.mk false [] [])
  )
def O4(a0:Ag):Option (Bc) :=
 bd (gd (!(decide (a0.Num=[]))) (yzs a0)) fun r1 =>
 ite' (bif (decide (a0.Num=[])) then true else(!r1)) (
  some (Bc.mk false [] [1])
  ) (
  some (Bc.mk a0.Neg a0.Num a0.Den)
  )
def UP(f0:Bc):Option (Ag) :=
 ite' (decide (f0.num=[])) (
  some (Ag.mk false [] [])
  ) (
  bd (Hv f0.num f0.den) fun r1 =>
  bd (Mu f0.num r1) fun r2 =>
  bd (Mu f0.den r1) fun r3 =>
  some (Ag.mk f0.neg r2.1 r3.1)
  )
def HB(op0:Bc->Option Bc)(b1:Ag):Option (Ag) :=
 bd (O4 b1) fun r1 =>
 bd (op0 r1) fun r2 =>
 bd (UP r2) fun r3 =>
 some r3
def Yz(f0:Bc)(g1:Bc):Option (Bc) :=
 bd (G0 f0.num g1.den) fun r1 =>
 bd (G0 g1.num f0.den) fun r2 =>
 bd (G0 f0.den g1.den) fun r3 =>
 ite' (f0.neg==g1.neg) (
  bd (O1 r1 r2) fun r4 =>
  some (Bc.mk f0.neg r4 r3)
  ) (
  bd (Oz r1 r2) fun r5 =>
  bd (U:=(List UInt8)×(List UInt8)×Bc) (
   ite' (decide (r5<0)) (
    some (r2,r1,(Bc.mk g1.neg f0.num f0.den))
    ) (
    some (r1,r2,f0)
    )
  )<|fun(a5,b6,b0) =>
   bd (O2 a5 b6) fun r6 =>
   some (Bc.mk b0.neg r6.1 r3)
  )
def yzh(n0:Int):Option (Bc) :=
 ck (A0 .i64 (-n0)) <|
 bd (O3 (max n0 (-n0))) fun r1 =>
 some (Bc.mk (decide (n0<0)) r1.1 [1])
def Y0(f0:Bc)(g1:Bc):Option (Bc) :=
 bd (G0 f0.num g1.num) fun r1 =>
 bd (G0 f0.den g1.den) fun r2 =>
 some (Bc.mk (!(f0.neg==g1.neg)) r1 r2)
def O5(a0:Ag)(b1:Ag):Option (Ag) :=
 bd (HA a0) fun r1 =>
 bd (HA b1) fun r2 =>
 bd (IW r1) fun r3 =>
 bd (IW r2) fun r4 =>
 bd (H8 r3.1 r4.2) fun r5 =>
 bd (H8 r4.1 r3.2) fun r6 =>
 bd (H8 r3.2 r4.2) fun r7 =>
 ite' (r1.Neg==r2.Neg) (
  bd (RG r5 r6) fun r8 =>
  bd (H9 r1.Neg r8 r7) fun r9 =>
  some r9
  ) (
  bd (Mo r5 r6) fun r10 =>
  ite' (decide (0<=r10)) (
   bd (Ms r5 r6) fun r11 =>
   bd (H9 r1.Neg r11.S r7) fun r12 =>
   some r12
   ) (
   bd (Ms r6 r5) fun r13 =>
   bd (H9 r2.Neg r13.S r7) fun r14 =>
   some r14
   )
  )
def RP(a0:Ag):Option (Ag) :=
 bd (HA a0) fun r1 =>
 ite' (!decide (r1.Num=[])) (
  some (Ag.mk (!r1.Neg) r1.Num r1.Den)
  ) (
  some r1
  )
def RQ(a0:Ag)(b1:Ag):Option (Ag) :=
 bd (HA a0) fun r1 =>
 bd (HA b1) fun r2 =>
 bd (IW r1) fun r3 =>
 bd (IW r2) fun r4 =>
 bd (H8 r3.1 r4.1) fun r5 =>
 bd (H8 r3.2 r4.2) fun r6 =>
 bd (H9 (!(r1.Neg==r2.Neg)) r5 r6) fun r7 =>
 some r7
def wz4(f0:Bc)(g1:Bc):Option (Bc) :=
 bd (Y0 f0 (Bc.mk g1.neg g1.den g1.num)) fun r1 =>
 some r1
def Bv(a0:Ag)(b1:Ag):Option (Ag) :=
 bd (O4 a0) fun r1 =>
 bd (HB (fun a0=>Yz r1 a0) b1) fun r2 =>
 some r2
def CR(n0:Int):Option (Ag) :=
 bd (yzy n0) fun r1 =>
 ite' (!r1) (
  some (Ag.mk false [] [])
  ) (
  bd (yzh n0) fun r2 =>
  bd (UP r2) fun r3 =>
  some r3
  )
def BC(a0:Ag)(b1:Ag):Option (Ag) :=
 bd (O4 a0) fun r1 =>
 bd (HB (fun a0=>Y0 r1 a0) b1) fun r2 =>
 some r2
def Y1 :Option (Au×(List Aj)) :=
 bd (CR 100) fun r1 =>
 some ((Au.mk 10 [3,5,4,5,0,1,3,2]),[(Aj.mk 10 14 (Ag.mk false [] []) 0 (AK.mk [(AN.mk 0 (Ag.mk false [] [])),(AN.mk 10 r1)])),(Aj.mk 15 18 (Ag.mk false [] []) 2 (AK.mk [(AN.mk 0 (Ag.mk false [] [])),(AN.mk 10 r1)]))])
def wz8h(l0:List Int):(Int×(List Ag))->Option ((Int×(List Ag))⊕(List Ag)):=fun s=>match s with
 |(t8,l1) =>
  ite' (decide (t8<(l0.length:Int))) (
   bd (at? l0 t8) fun x1 =>
   bd (CR x1) fun r1 =>
   ck (decide (List.length (l1++[r1])*40<=140737488355328)) <|
   ck (A0 .i64 (t8+1)) <|
   some (.inl ((t8+1),(l1++[r1])))
   ) (
   some (.inr l1)
   )
def Y2(l0:List Int):Option ((List Ag)) :=
 bd (lp (wz8h l0) (0,[]))<|fun l1 =>
 some l1
def Y3(f0:Bc)(g1:Bc):Option (Bc) :=
 bd (Yz f0 (Bc.mk (!g1.neg) g1.num g1.den)) fun r1 =>
 some r1
def RR(a0:Ag)(b1:Ag):Option (Ag) :=
 bd (RP b1) fun r1 =>
 bd (O5 a0 r1) fun r2 =>
 some r2
def Mv(an:Int)(ah:Int):Option (Ag×Int) :=
 bd (yzy an) fun r1 =>
 bd (gd (!(!r1)) (yzy ah)) fun r2 =>
 ite' (bif (!r1) then true else(!r2)) (
  some ((Ag.mk false [] []),3)
  ) (
  ite' (decide (ah=0)) (
   some ((Ag.mk false [] []),1)
   ) (
   bd (yzh an) fun r3 =>
   bd (yzh ah) fun r4 =>
   bd (wz4 r3 r4) fun r5 =>
   bd (UP r5) fun r6 =>
   some (r6,0)
   )
  )
def Mw(a0:Ag)(b1:Ag):Option (Ag) :=
 bd (O4 a0) fun r1 =>
 bd (HB (fun a0=>Y3 r1 a0) b1) fun r2 =>
 some r2
def HD(a0:Ag)(b1:Ag):Option (Int) :=
 bd (O4 a0) fun r1 =>
 bd (O4 b1) fun r2 =>
 bd (Y3 r1 r2) fun r3 =>
 ite' (decide (r3.num=[])) (
  some 0
  ) (
  ite' r3.neg (
   some (-1)
   ) (
   some 1
   )
  )
def RS(a0:Ag)(b1:Ag):Option (Bool) :=
 bd (HD a0 b1) fun r1 =>
 some (decide (0<r1))
def RT(a0:Ag)(b1:Ag):Option (Bool) :=
 bd (HD a0 b1) fun r1 =>
 some (decide (r1<0))
def RU(a0:Ag)(b1:Ag):Option (Int) :=
 bd (HD b1 a0) fun r1 =>
 some r1
def RW(ac0:AK):Int->Option (Int⊕(Unit⊕Int)):=fun s=>match s with
 |t18 =>
  ite' (decide (t18<(ac0.Points.length:Int))) (
   bd (at? ac0.Points t18) fun x1 =>
   bd (R3 x1.Stage) fun r1 =>
   ite' (!r1) (
    some (.inr (.inr 3))
    ) (
    bd (RO x1.Flow) fun r2 =>
    ite' (!r2) (
     some (.inr (.inr 1))
     ) (
     ck (!(decide (0<t18))||A0 .i64 (t18-1)) <|
     bd (gd (decide (0<t18)) (at? ac0.Points (t18-1))) fun x2 =>
     ck (!((decide (0<t18))&&(!(decide (x1.Stage<=x2.Stage))))||A0 .i64 (t18-1)) <|
     bd (gd ((decide (0<t18))&&(!(decide (x1.Stage<=x2.Stage)))) (at? ac0.Points (t18-1))) fun x3 =>
     bd (gd ((decide (0<t18))&&(!(decide (x1.Stage<=x2.Stage)))) (HD x1.Flow x3.Flow)) fun r3 =>
     ite' (bif (decide (0<t18)) then(bif (decide (x1.Stage<=x2.Stage)) then true else(decide (r3<0))) else false) (
      some (.inr (.inr 1))
      ) (
      ck (A0 .i64 (t18+1)) <|
      some (.inl (t18+1))
      )
     )
    )
   ) (
   some (.inr (.inl ()))
   )
def Mx(ac0:AK):Option (Int) :=
 ite' (bif (decide ((ac0.Points.length:Int)<1)) then true else(decide (16<(ac0.Points.length:Int)))) (
  some 2
  ) (
  bd (lp (RW ac0) 0)<|fun o=>match o with
  | .inl ()=>(
    some 0
   )
  | .inr o=>(
    some o
   )
  )
def O6(ac0:AK)(ad:Int):Option (Ag) :=
 bd (On (ac0.Points.length:Int) (fun a0=>Mn a0 ac0 ad)) fun r1 =>
 ite' (decide (r1=0)) (
  some (Ag.mk false [] [])
  ) (
  ck (A0 .i64 (r1-1)) <|
  bd (at? ac0.Points (r1-1)) fun x1 =>
  ite' (decide (r1=(ac0.Points.length:Int))) (
   some x1.Flow
   ) (
   bd (at? ac0.Points r1) fun x2 =>
   ck (A0 .i64 (ad-x1.Stage)) <|
   ck (A0 .i64 (x2.Stage-x1.Stage)) <|
   bd (Mv (ad-x1.Stage) (x2.Stage-x1.Stage)) fun r2 =>
   bd (Mw x2.Flow x1.Flow) fun r3 =>
   bd (BC r2.1 r3) fun r4 =>
   bd (Bv x1.Flow r4) fun r5 =>
   some r5
   )
  )
def My(ac0:AK)(ad:Int):Option (Ag) :=
 bd (Mx ac0) fun r1 =>
 ite' (!decide (r1=0)) (
  some (Ag.mk false [] [])
  ) (
  bd (O6 ac0 ad) fun r2 =>
  some r2
  )
def O7(as0:Aj):Option (Bool) :=
 ite' (bif (bif (bif (bif (decide (as0.From<0)) then true else(decide (as0.To<=as0.From))) then true else(decide (1402560<as0.To))) then true else(decide (as0.Datum<(-1000)))) then true else(decide (1000<as0.Datum))) (
  some false
  ) (
  bd (yzs as0.Weight) fun r1 =>
  bd (gd r1 (Mx as0.Curve)) fun r2 =>
  some (bif r1 then(decide (r2=0)) else false)
  )
def BF(as0:Aj)(ad:Int):Option (Ag) :=
 ck (A0 .i64 (ad+as0.Datum)) <|
 bd (My as0.Curve (ad+as0.Datum)) fun r1 =>
 bd (BC as0.Weight r1) fun r2 =>
 some r2
def RX(l0:List Aj):(Int×Int)->Option ((Int×Int)⊕(Unit⊕Int)):=fun s=>match s with
 |(b9,t11) =>
  ite' (decide (t11<(l0.length:Int))) (
   bd (at? l0 t11) fun x1 =>
   bd (O7 x1) fun r1 =>
   ite' (bif (!r1) then true else(decide (x1.From<b9))) (
    some (.inr (.inr 1))
    ) (
    ck (A0 .i64 (t11+1)) <|
    some (.inl (x1.To,(t11+1)))
    )
   ) (
   some (.inr (.inl ()))
   )
def FI(l0:List Aj):Option (Int) :=
 ite' (decide (400<(l0.length:Int))) (
  some 2
  ) (
  bd (lp (RX l0) (0,0))<|fun o=>match o with
  | .inl ()=>(
    some 0
   )
  | .inr o=>(
    some o
   )
  )
def RY(c1:Au)(st:List (Int×Ag)->Option Bool)(x1:Aj):(Int×(List (Int×Ag))×(List (Int×Ag)))->Option ((Int×(List (Int×Ag))×(List (Int×Ag)))⊕(((List (Int×Ag))×(List (Int×Ag)))⊕(List (Int×Ag)))):=fun s=>match s with
 |(t7,af,ys') =>
  ite' (decide (t7<x1.To)) (
   ck (A0 .i64 (t7-c1.From)) <|
   bd (at? c1.Stages (t7-c1.From)) fun x2 =>
   bd (U:=(List (Int×Ag))×Ag) (
    ite' (!(Option.isSome (mget keqI af x2))) (
     ck (A0 .i64 (x2+x1.Datum)) <|
     bd (My x1.Curve (x2+x1.Datum)) fun r1 =>
     some ((mput keqI af x2 r1),r1)
     ) (
     some (af,(Option.getD (mget keqI af x2) (Ag.mk false [] [])))
     )
   )<|fun(af',ar) =>
    bd (st (ys'++[(t7,ar)])) fun s1 =>
    ite' s1 (
     some (.inr (.inr (ys'++[(t7,ar)])))
     ) (
     ck (A0 .i64 (t7+1)) <|
     some (.inl ((t7+1),af',(ys'++[(t7,ar)])))
     )
   ) (
   some (.inr (.inl (af,ys')))
   )
def RZ(c0:List Aj)(c1:Au)(st:List (Int×Ag)->Option Bool):(Int×(List (Int×Ag)))->Option ((Int×(List (Int×Ag)))⊕((List (Int×Ag))⊕(List (Int×Ag)))):=fun s=>match s with
 |(t13,ys) =>
  ite' (decide (t13<(c0.length:Int))) (
   bd (at? c0 t13) fun x1 =>
   bd (lp (RY c1 st x1) (x1.From,([]:List (Int×Ag)),ys))<|fun o=>match o with
   | .inl (af,ys')=>(
     ck (A0 .i64 (t13+1)) <|
     some (.inl ((t13+1),ys'))
    )
   | .inr o=>(
     some (.inr (.inr o))
    )
   ) (
   some (.inr (.inl ys))
   )
def G2(c0:List Aj)(c1:Au)(st:List (Int×Ag)->Option Bool):Option (List (Int×Ag)) :=
 bd (lp (RZ c0 c1 st) (0,[]))<|fun o=>match o with
 | .inl ys=>(
   some ys
  )
 | .inr o=>(
   some o
  )
def H6:List Int->List (Int×Int)->Option (List (Int×Int))
 |[],m=>some m
 |s :: l,m=>ck (A0 .i64 (Option.getD (mget keqI m s) 0+1)) (H6 l (mput keqI m s (Option.getD (mget keqI m s) 0+1)))
def Cj(s:Aj):List (Int×Int)->Ag->Option Ag
 |[],r=>some r
 |p :: l,r=>bd (CR p.2) fun a=>bd (BF s p.1) fun b=>bd (BC a b) fun c=>bd (Bv r c) fun r=>Cj s l r
def insA{U:Type}(x:U):List U->List (List U)
 |[]=>[[x]]
 |y :: l=>(x :: y :: l) :: (insA x l).map (y :: ·)
def Mj{U:Type}:List U->List (List U)
 |[]=>[[]]
 |x :: l=>(Mj l).flatMap (insA x)
def eqR:Option Ag->Option Ag->Bool
 |some a,some b=>a.Neg==b.Neg&&(decide (a.Num=b.Num)&&decide (a.Den=b.Den))
 |_,_=>false
def Gy(s:Aj)(m:List (Int×Int))(r:Ag):Option Ag:=bif (Mj m).all (fun m'=>eqR (Cj s m' r) (Cj s m r)) then Cj s m r else none
def vaL(h:Au):List Aj->Ag->Option (Ag×Int)
 |[],r=>some (r,0)
 |s :: l,r=>ck (A0 .i64 (h.From+(h.Stages.length:Int)))<|ite' (bif decide (s.From<h.From) then true else decide (h.From+(h.Stages.length:Int)<s.To)) (some (Ag.mk false [] [],19)) <|
  ck (A0 .i64 (s.From-h.From)&&A0 .i64 (s.To-h.From)&&Dv h.Stages (s.From-h.From) (s.To-h.From)) <|
  bd (H6 (sub h.Stages (s.From-h.From) (s.To-h.From)) []) fun m=>bd (Gy s m r) fun r=>vaL h l r
def Hz(h0:Au)(l1:List Aj):Option (Ag×Int) :=
 bd (FI l1) fun e=>ite' (!decide (e=0)) (some (Ag.mk false [] [],e)) <|
 bd (Gx h0) fun p=>ite' (!decide (p.2=0)) (some (Ag.mk false [] [],1)) <|
 vaL h0 l1 (Ag.mk false [] [])
def Sa(h0:Au)(l1:List Aj):Int->Option (Int⊕(Unit⊕Int)):=fun s=>match s with
 |t20 =>
  ite' (decide (t20<(l1.length:Int))) (
   bd (at? l1 t20) fun x1 =>
   ck (!(!(decide (x1.From<h0.From)))||A0 .i64 (h0.From+(h0.Stages.length:Int))) <|
   ite' (bif (decide (x1.From<h0.From)) then true else(decide ((h0.From+(h0.Stages.length:Int))<x1.To))) (
    some (.inr (.inr 19))
    ) (
    ck (A0 .i64 (t20+1)) <|
    some (.inl (t20+1))
    )
   ) (
   some (.inr (.inl ()))
   )
def G3(h0:Au)(l1:List Aj)(a4:Ag):Option (Int) :=
 bd (FI l1) fun r1 =>
 ite' (!decide (r1=0)) (
  some r1
  ) (
  bd (Ox h0) fun r2 =>
  ite' (!r2) (
   some 1
   ) (
   bd (lp (Sa h0 l1) 0)<|fun o=>match o with
   | .inl ()=>(
     bd (yzs a4) fun r3 =>
     ite' (!r3) (
      some 1
      ) (
      some 0
      )
    )
   | .inr o=>(
     some o
    )
   )
  )
def EH(h0:Au)(l1:List Aj):Option ((List Aj)×Au) :=
 some (l1,h0)
def Mz(h0:Au)(l1:List Aj)(b4:Ag->Ag->Option Bool):Option (Bd×Int) :=
 bd (G3 h0 l1 (Ag.mk false [] [])) fun r1 =>
 ite' (!decide (r1=0)) (
  some ((Bd.mk (Ag.mk false [] []) 0),r1)
  ) (
  bd (EH h0 l1) fun c1 =>
  bd (Rw (G2 c1.1 c1.2) b4) fun r2 =>
  ite' (!r2.2.2) (
   some ((Bd.mk (Ag.mk false [] []) 0),8)
   ) (
   some ((Bd.mk r2.2.1 r2.1),0)
   )
  )
def O8 :(Int×Ag)->(List Ag)->Option ((List Ag)⊕Unit):=fun x s=>match s with
 |l4 =>
  ck (decide (List.length (l4++[x.2])*40<=140737488355328)) <|
  some (.inl (l4++[x.2]))
def M0(h0:Au)(l1:List Aj):Option ((List Ag)×Int) :=
 bd (G3 h0 l1 (Ag.mk false [] [])) fun r1 =>
 ite' (!decide (r1=0)) (
  some ([],r1)
  ) (
  bd (EH h0 l1) fun c1 =>
  bd (G2 c1.1 c1.2 (fun l=>D5 O8 l [])) fun l =>
  bd (BG O8 l []) fun o=>match o with
  | .inl l4=>(
    some (l4,0)
   )
  |.inr _=>none
  )
def M1(h0:Au)(l1:List Aj):Option (Bd×Int) :=
 bd (Mz h0 l1 (fun a0 a1=>RS a0 a1)) fun r1 =>
 some (r1.1,r1.2)
def M2(h0:Au)(l1:List Aj):Option (Bd×Int) :=
 bd (Mz h0 l1 (fun a0 a1=>RT a0 a1)) fun r1 =>
 some (r1.1,r1.2)
def O9(a4:Ag):(Int×Ag)->Int->Option (Int⊕Unit):=fun x s=>match s with
 |b2 =>
  bd (HD x.2 a4) fun r2 =>
  ite' (decide (0<=r2)) (
   ck (A0 .i64 (b2+1)) <|
   some (.inl (b2+1))
   ) (
   some (.inl b2)
   )
def HE(h0:Au)(l1:List Aj)(a4:Ag):Option (Int×Int) :=
 bd (G3 h0 l1 a4) fun r1 =>
 ite' (!decide (r1=0)) (
  some (0,r1)
  ) (
  bd (EH h0 l1) fun c1 =>
  bd (G2 c1.1 c1.2 (fun l=>D5 (O9 a4) l 0)) fun l =>
  bd (BG (O9 a4) l 0) fun o=>match o with
  | .inl b2=>(
    some (b2,0)
   )
  |.inr _=>none
  )
def OA :(Int×Ag)->(List (Ag×Int))->Option ((List (Ag×Int))⊕Unit):=fun x s=>match s with
 |m1 =>
  ck (A0 .i64 ((Option.getD (mget BO m1 x.2) 0)+1)) <|
  ck (IY (mput BO m1 x.2 (Option.getD (mget BO m1 x.2) 0)) ((midx BO m1 x.2:Nat):Int)) <|
  some (.inl (mset (mput BO m1 x.2 (Option.getD (mget BO m1 x.2) 0)) (Int.toNat ((midx BO m1 x.2:Nat):Int)) ((Option.getD (mget BO m1 x.2) 0)+1)))
def Sb(m1:List (Ag×Int))(r2:(List Ag)):(Int×Int×(List AI))->Option ((Int×Int×(List AI))⊕(List AI)):=fun s=>match s with
 |(n11,t37,l6) =>
  ite' (decide (t37<(r2.length:Int))) (
   bd (at? r2 t37) fun x1 =>
   ck (A0 .i64 (n11+(Option.getD (mget BO m1 x1) 0))) <|
   ck (decide (List.length (l6++[(AI.mk x1 (n11+(Option.getD (mget BO m1 x1) 0)))])*48<=140737488355328)) <|
   ck (A0 .i64 (t37+1)) <|
   some (.inl ((n11+(Option.getD (mget BO m1 x1) 0)),(t37+1),(l6++[(AI.mk x1 (n11+(Option.getD (mget BO m1 x1) 0)))])))
   ) (
   some (.inr l6)
   )
def IZ(h0:Au)(l1:List Aj):Option ((List AI)×Int) :=
 bd (G3 h0 l1 (Ag.mk false [] [])) fun r1 =>
 ite' (!decide (r1=0)) (
  some ([],r1)
  ) (
  bd (EH h0 l1) fun c1 =>
  bd (G2 c1.1 c1.2 (fun l=>D5 OA l ([]:List (Ag×Int)))) fun l =>
  bd (BG OA l ([]:List (Ag×Int))) fun o=>match o with
  | .inl m1=>(
    bd (Hw m1 (fun a0 a1=>RU a0 a1)) fun r2 =>
    bd (lp (Sb m1 r2) (0,0,[]))<|fun l6 =>
    some (l6,0)
   )
  |.inr _=>none
  )
def Y4(a4:Ag):(Int×Ag)->(List AO)->Option ((List AO)⊕Unit):=fun x s=>match s with
 |l5 =>
  bd (HD x.2 a4) fun r2 =>
  bd (U:=Unit⊕Unit) (
   ite' (decide (r2<0)) (
    some (.inr ())
    ) (
    some (.inl ())
    )
  )<|fun o=>match o with
   | .inl ()=>(
     ck (!(decide (0<(l5.length:Int)))||A0 .i64 ((l5.length:Int)-1)) <|
     bd (gd (decide (0<(l5.length:Int))) (at? l5 ((l5.length:Int)-1))) fun x1 =>
     ite' (bif (decide (0<(l5.length:Int))) then(decide (x1.To=x.1)) else false) (
      ck (A0 .i64 ((l5.length:Int)-1)) <|
      ck (A0 .i64 (x.1+1)) <|
      bd (at? l5 ((l5.length:Int)-1)) fun x2 =>
      some (.inl (List.set l5 (Int.toNat ((l5.length:Int)-1)) (AO.mk x2.From (x.1+1))))
      ) (
      ck (A0 .i64 (x.1+1)) <|
      ck (decide (List.length (l5++[(AO.mk x.1 (x.1+1))])*16<=140737488355328)) <|
      some (.inl (l5++[(AO.mk x.1 (x.1+1))]))
      )
    )
   | .inr ()=>(
     some (.inl l5)
    )
def OB(h0:Au)(l1:List Aj)(a4:Ag):Option ((List AO)×Int) :=
 bd (G3 h0 l1 a4) fun r1 =>
 ite' (!decide (r1=0)) (
  some ([],r1)
  ) (
  bd (EH h0 l1) fun c1 =>
  bd (G2 c1.1 c1.2 (fun l=>D5 (Y4 a4) l [])) fun l =>
  bd (BG (Y4 a4) l []) fun o=>match o with
  | .inl l5=>(
    some (l5,0)
   )
  |.inr _=>none
  )
def wz8w(a7:Int):((List AO)×(List AO)×Int)->Option (((List AO)×(List AO)×Int)⊕Int):=fun s=>match s with
 |(x8,y10,n11) =>
  ite' (bif (decide (0<(x8.length:Int))) then(decide (0<(y10.length:Int))) else false) (
   bd (at? x8 0) fun x1 =>
   ck (A0 .i64 (x1.From+a7)) <|
   bd (at? y10 0) fun x2 =>
   bd (at? x8 0) fun x3 =>
   ck (A0 .i64 (x3.To+a7)) <|
   bd (at? y10 0) fun x4 =>
   ck (A0 .i64 ((min (x3.To+a7) x4.To)-(max (x1.From+a7) x2.From))) <|
   ck (A0 .i64 (n11+(max 0 ((min (x3.To+a7) x4.To)-(max (x1.From+a7) x2.From))))) <|
   bd (at? x8 0) fun x5 =>
   ck (A0 .i64 (x5.To+a7)) <|
   ite' (decide ((x5.To+a7)=(min (x3.To+a7) x4.To))) (
    ck (Dv x8 1 (x8.length:Int)) <|
    some (.inl ((sub x8 1 (x8.length:Int)),y10,(n11+(max 0 ((min (x3.To+a7) x4.To)-(max (x1.From+a7) x2.From))))))
    ) (
    ck (Dv y10 1 (y10.length:Int)) <|
    some (.inl (x8,(sub y10 1 (y10.length:Int)),(n11+(max 0 ((min (x3.To+a7) x4.To)-(max (x1.From+a7) x2.From))))))
    )
   ) (
   some (.inr n11)
   )
def Y5(a0:Ba)(b1:Ba)(a7:Int):Option (Int×Int) :=
 bd (OB a0.History a0.Spans a0.Level) fun r1 =>
 ite' (!decide (r1.2=0)) (
  some (0,r1.2)
  ) (
  bd (OB b1.History b1.Spans b1.Level) fun r2 =>
  ite' (!decide (r2.2=0)) (
   some (0,r2.2)
   ) (
   ite' (bif (decide (a7<(-1402560))) then true else(decide (1402560<a7))) (
    some (0,3)
    ) (
    bd (lp (wz8w a7) (r1.1,r2.1,0))<|fun n11 =>
    some (n11,0)
    )
   )
  )
def Ja(h0:Au)(l1:List Aj)(az:Int):Option (Ag×Int) :=
 bd (IZ h0 l1) fun r1 =>
 ite' (!decide (r1.2=0)) (
  some ((Ag.mk false [] []),r1.2)
  ) (
  bd (Og r1.1 (fun a0=>Oh a0 az)) fun r2 =>
  ite' (bif (decide (az<1)) then true else(decide (r2<0))) (
   some ((Ag.mk false [] []),3)
   ) (
   bd (at? r1.1 r2) fun x1 =>
   some (x1.Flow,0)
   )
  )
def G4 :Option (Bool) :=
 bd (Y1 ) fun r1 =>
 bd (M0 r1.1 r1.2) fun r2 =>
 bd (M1 r1.1 r1.2) fun r3 =>
 bd (M2 r1.1 r1.2) fun r4 =>
 bd (CR 40) fun r5 =>
 bd (HE r1.1 r1.2 r5) fun r6 =>
 bd (CR 41) fun r7 =>
 bd (HE r1.1 r1.2 r7) fun r8 =>
 bd (Ja r1.1 r1.2 4) fun r9 =>
 bd (Ja r1.1 r1.2 8) fun r10 =>
 bd (IZ r1.1 r1.2) fun r11 =>
 bd (CR 40) fun r12 =>
 bd (OB r1.1 r1.2 r12) fun r13 =>
 bd (CR 50) fun r14 =>
 bd (CR 40) fun r15 =>
 bd (Y5 (Ba.mk r1.1 r1.2 r14) (Ba.mk r1.1 r1.2 r15) 1) fun r16 =>
 bd (Y2 [30,50,40,50,30,50,40]) fun r17 =>
 bd (Yt r2.1 r17) fun r18 =>
 bd (gd r18 (CR 50)) fun r19 =>
 bd (gd (bif r18 then((r3.1.Flow.Neg==r19.Neg)&&(decide (r3.1.Flow.Num=r19.Num)&&(decide (r3.1.Flow.Den=r19.Den)&&(decide (r3.1.Tick=11)&&true)))) else false) (CR 30)) fun r20 =>
 bd (gd (bif (bif r18 then((r3.1.Flow.Neg==r19.Neg)&&(decide (r3.1.Flow.Num=r19.Num)&&(decide (r3.1.Flow.Den=r19.Den)&&(decide (r3.1.Tick=11)&&true)))) else false) then((r4.1.Flow.Neg==r20.Neg)&&(decide (r4.1.Flow.Num=r20.Num)&&(decide (r4.1.Flow.Den=r20.Den)&&(decide (r4.1.Tick=10)&&true)))) else false) (CR 50)) fun r21 =>
 bd (gd (bif (bif r18 then((r3.1.Flow.Neg==r19.Neg)&&(decide (r3.1.Flow.Num=r19.Num)&&(decide (r3.1.Flow.Den=r19.Den)&&(decide (r3.1.Tick=11)&&true)))) else false) then((r4.1.Flow.Neg==r20.Neg)&&(decide (r4.1.Flow.Num=r20.Num)&&(decide (r4.1.Flow.Den=r20.Den)&&(decide (r4.1.Tick=10)&&true)))) else false) (CR 30)) fun r22 =>
 bd (gd (bif (bif r18 then((r3.1.Flow.Neg==r19.Neg)&&(decide (r3.1.Flow.Num=r19.Num)&&(decide (r3.1.Flow.Den=r19.Den)&&(decide (r3.1.Tick=11)&&true)))) else false) then((r4.1.Flow.Neg==r20.Neg)&&(decide (r4.1.Flow.Num=r20.Num)&&(decide (r4.1.Flow.Den=r20.Den)&&(decide (r4.1.Tick=10)&&true)))) else false) (HD r21 r22)) fun r23 =>
 bd (gd (bif (decide (r6.1=5)) then(decide (r8.1=3)) else false) (CR 40)) fun r24 =>
 bd (gd (bif (bif (decide (r6.1=5)) then(decide (r8.1=3)) else false) then((r9.1.Neg==r24.Neg)&&(decide (r9.1.Num=r24.Num)&&(decide (r9.1.Den=r24.Den)&&true))) else false) (CR 50)) fun r25 =>
 bd (gd (bif (bif (decide (r6.1=5)) then(decide (r8.1=3)) else false) then((r9.1.Neg==r24.Neg)&&(decide (r9.1.Num=r24.Num)&&(decide (r9.1.Den=r24.Den)&&true))) else false) (CR 40)) fun r26 =>
 bd (gd (bif (bif (decide (r6.1=5)) then(decide (r8.1=3)) else false) then((r9.1.Neg==r24.Neg)&&(decide (r9.1.Num=r24.Num)&&(decide (r9.1.Den=r24.Den)&&true))) else false) (CR 30)) fun r27 =>
 bd (gd (bif (bif (decide (r6.1=5)) then(decide (r8.1=3)) else false) then((r9.1.Neg==r24.Neg)&&(decide (r9.1.Num=r24.Num)&&(decide (r9.1.Den=r24.Den)&&true))) else false) (Yu r11.1 [(AI.mk r25 3),(AI.mk r26 5),(AI.mk r27 7)])) fun r28 =>
 bd (gd (bif (bif (bif (bif (bif (bif (bif (bif (bif (bif (bif (decide (r2.2=0)) then(decide (r3.2=0)) else false) then(decide (r4.2=0)) else false) then(decide (r6.2=0)) else false) then(decide (r8.2=0)) else false) then(decide (r9.2=0)) else false) then(decide (r10.2=3)) else false) then(decide (r11.2=0)) else false) then(decide (r13.2=0)) else false) then(decide (r16.2=0)) else false) then(bif (bif (bif r18 then((r3.1.Flow.Neg==r19.Neg)&&(decide (r3.1.Flow.Num=r19.Num)&&(decide (r3.1.Flow.Den=r19.Den)&&(decide (r3.1.Tick=11)&&true)))) else false) then((r4.1.Flow.Neg==r20.Neg)&&(decide (r4.1.Flow.Num=r20.Num)&&(decide (r4.1.Flow.Den=r20.Den)&&(decide (r4.1.Tick=10)&&true)))) else false) then(decide (r23=1)) else false) else false) then(bif (bif (bif (decide (r6.1=5)) then(decide (r8.1=3)) else false) then((r9.1.Neg==r24.Neg)&&(decide (r9.1.Num=r24.Num)&&(decide (r9.1.Den=r24.Den)&&true))) else false) then r28 else false) else false) (Yv r13.1 [(AO.mk 11 14),(AO.mk 16 18)])) fun r29 =>
 some (bif (bif (bif (bif (bif (bif (bif (bif (bif (bif (bif (bif (bif (decide (r2.2=0)) then(decide (r3.2=0)) else false) then(decide (r4.2=0)) else false) then(decide (r6.2=0)) else false) then(decide (r8.2=0)) else false) then(decide (r9.2=0)) else false) then(decide (r10.2=3)) else false) then(decide (r11.2=0)) else false) then(decide (r13.2=0)) else false) then(decide (r16.2=0)) else false) then(bif (bif (bif r18 then((r3.1.Flow.Neg==r19.Neg)&&(decide (r3.1.Flow.Num=r19.Num)&&(decide (r3.1.Flow.Den=r19.Den)&&(decide (r3.1.Tick=11)&&true)))) else false) then((r4.1.Flow.Neg==r20.Neg)&&(decide (r4.1.Flow.Num=r20.Num)&&(decide (r4.1.Flow.Den=r20.Den)&&(decide (r4.1.Tick=10)&&true)))) else false) then(decide (r23=1)) else false) else false) then(bif (bif (bif (decide (r6.1=5)) then(decide (r8.1=3)) else false) then((r9.1.Neg==r24.Neg)&&(decide (r9.1.Num=r24.Num)&&(decide (r9.1.Den=r24.Den)&&true))) else false) then r28 else false) else false) then r29 else false) then(decide (r16.1=2)) else false)
def Sd(r2:(List Ag)×Int)(x1:Aj):(Int×(List (Int×Ag)))->Option ((Int×(List (Int×Ag)))⊕(List (Int×Ag))):=fun s=>match s with
 |(t19,m4') =>
  ite' (decide (t19<x1.To)) (
   bd (at? r2.1 (m4'.length:Int)) fun x2 =>
   ck (A0 .i64 (t19+1)) <|
   some (.inl ((t19+1),(mput keqI m4' t19 x2)))
   ) (
   some (.inr m4')
   )
def OC(r2:(List Ag)×Int)(as0:Ba):(Int×(List (Int×Ag)))->Option ((Int×(List (Int×Ag)))⊕(List (Int×Ag))):=fun s=>match s with
 |(av,m4) =>
  ite' (decide (av<(as0.Spans.length:Int))) (
   bd (at? as0.Spans av) fun x1 =>
   bd (lp (Sd r2 x1) (x1.From,m4))<|fun m4' =>
   ck (A0 .i64 (av+1)) <|
   some (.inl ((av+1),m4'))
   ) (
   some (.inr m4)
   )
def OD(r2:(List Ag)×Int)(r6:Bd×Int)(r7:Bd×Int):(Int×Ag)->Option ((Int×Ag)⊕(Ag⊕Bool)):=fun s=>match s with
 |(aw,b6) =>
  ite' (decide (aw<(r2.1.length:Int))) (
   bd (at? r2.1 aw) fun x3 =>
   bd (HD x3 r6.1.Flow) fun r12 =>
   bd (gd (!(decide (0<r12))) (HD x3 r7.1.Flow)) fun r13 =>
   ite' (bif (decide (0<r12)) then true else(decide (r13<0))) (
    some (.inr (.inr false))
    ) (
    bd (Bv b6 x3) fun r14 =>
    ck (A0 .i64 (aw+1)) <|
    some (.inl ((aw+1),r14))
    )
   ) (
   some (.inr (.inl b6))
   )
def OG(as0:Ba):(Int×(List Aj))->Option ((Int×(List Aj))⊕(List Aj)):=fun s=>match s with
 |(aq,l9) =>
  ite' (decide (aq<(List.length ([]++as0.Spans):Int))) (
   bd (CR 1) fun r18 =>
   bd (at? l9 aq) fun x4 =>
   ck (A0 .i64 (aq+1)) <|
   some (.inl ((aq+1),(List.set l9 (Int.toNat aq) (Aj.mk x4.From x4.To r18 x4.Datum x4.Curve))))
   ) (
   some (.inr l9)
   )
def OI(r20:(List AI)×Int):(Int×Int×Ag)->Option ((Int×Int×Ag)⊕((Int×Ag)⊕Bool)):=fun s=>match s with
 |(ag,ax,b12) =>
  ite' (decide (ax<(r20.1.length:Int))) (
   bd (at? r20.1 ax) fun x5 =>
   ite' (decide (x5.Ticks<=ag)) (
    some (.inr (.inr false))
    ) (
    ck (A0 .i64 (x5.Ticks-ag)) <|
    bd (CR (x5.Ticks-ag)) fun r21 =>
    bd (BC x5.Flow r21) fun r22 =>
    bd (Bv b12 r22) fun r23 =>
    ck (A0 .i64 (ax+1)) <|
    some (.inl (x5.Ticks,(ax+1),r23))
    )
   ) (
   some (.inr (.inl (ag,b12)))
   )
def Se(as0:Ba)(n1:Int):Option (Bool) :=
 ite' (bif (decide (200<(as0.History.Stages.length:Int))) then true else(decide (20<(as0.Spans.length:Int)))) (
  bd (G4 ) fun r1 =>
  some r1
  ) (
  bd (M0 as0.History as0.Spans) fun r2 =>
  bd (HE as0.History as0.Spans as0.Level) fun r3 =>
  ite' (bif (!decide (r2.2=0)) then true else(!decide (r3.2=0))) (
   bd (G4 ) fun r4 =>
   bd (gd ((!(bif r4 then(decide ((r2.1.length:Int)=0)) else false))&&(bif (decide (r2.2=0)) then(decide (r3.2=1)) else false)) (G4 )) fun r5 =>
   some (bif (bif r4 then(decide ((r2.1.length:Int)=0)) else false) then true else(bif (bif (decide (r2.2=0)) then(decide (r3.2=1)) else false) then r5 else false))
   ) (
   bd (M1 as0.History as0.Spans) fun r6 =>
   bd (M2 as0.History as0.Spans) fun r7 =>
   bd (Of as0.Spans) fun r8 =>
   ite' (bif (bif (!decide ((r2.1.length:Int)=r8)) then true else(decide (r3.1<0))) then true else(decide (r8<r3.1))) (
    some false
    ) (
    ite' (decide (r8=0)) (
     bd (G4 ) fun r9 =>
     some (bif (bif r9 then(decide (r6.2=8)) else false) then(decide (r7.2=8)) else false)
     ) (
     bd (lp (OC r2 as0) (0,([]:List (Int×Ag))))<|fun m4 =>
     bd (HD r6.1.Flow as0.Level) fun r10 =>
     bd (HD r7.1.Flow as0.Level) fun r11 =>
     ite' (bif (bif (bif (bif (bif (!decide (r6.2=0)) then true else(!decide (r7.2=0))) then true else(!(((Option.getD (mget keqI m4 r6.1.Tick) (Ag.mk false [] [])).Neg==r6.1.Flow.Neg)&&(decide ((Option.getD (mget keqI m4 r6.1.Tick) (Ag.mk false [] [])).Num=r6.1.Flow.Num)&&(decide ((Option.getD (mget keqI m4 r6.1.Tick) (Ag.mk false [] [])).Den=r6.1.Flow.Den)&&true))))) then true else(!(((Option.getD (mget keqI m4 r7.1.Tick) (Ag.mk false [] [])).Neg==r7.1.Flow.Neg)&&(decide ((Option.getD (mget keqI m4 r7.1.Tick) (Ag.mk false [] [])).Num=r7.1.Flow.Num)&&(decide ((Option.getD (mget keqI m4 r7.1.Tick) (Ag.mk false [] [])).Den=r7.1.Flow.Den)&&true))))) then true else(!((decide (0<=r10))==(decide (0<r3.1))))) then true else(!((decide (0<=r11))==(decide (r3.1=r8))))) (
      some false
      ) (
      bd (lp (OD r2 r6 r7) (0,(Ag.mk false [] [])))<|fun o=>match o with
      | .inl b6=>(
        ck (A0 .i64 n1) <|
        ck (!decide (r8=0)) <|
        ck (A0 .i64 (1+(n1.tmod r8))) <|
        bd (Ja as0.History as0.Spans (1+(n1.tmod r8))) fun r15 =>
        bd (HE as0.History as0.Spans r15.1) fun r16 =>
        bd (gd (!(bif (bif (!decide (r15.2=0)) then true else(!decide (r16.2=0))) then true else(decide (r16.1<(1+(n1.tmod r8)))))) (HD as0.Level r15.1)) fun r17 =>
        ite' (bif (bif (bif (!decide (r15.2=0)) then true else(!decide (r16.2=0))) then true else(decide (r16.1<(1+(n1.tmod r8))))) then true else(bif (decide (0<r17)) then(decide ((1+(n1.tmod r8))<=r3.1)) else false)) (
         some false
         ) (
         ck (decide (List.length ([]++as0.Spans)*88<=140737488355328)) <|
         bd (lp (OG as0) (0,([]++as0.Spans)))<|fun l9 =>
         bd (Hz as0.History l9) fun r19 =>
         bd (IZ as0.History as0.Spans) fun r20 =>
         bd (lp (OI r20) (0,0,(Ag.mk false [] [])))<|fun o=>match o with
         | .inl (ag,b12)=>(
           bd (G4 ) fun r24 =>
           some (bif (bif (bif (bif (bif r24 then(decide (r19.2=0)) else false) then(decide (r20.2=0)) else false) then(decide (ag=r8)) else false) then((r19.1.Neg==b6.Neg)&&(decide (r19.1.Num=b6.Num)&&(decide (r19.1.Den=b6.Den)&&true))) else false) then((b12.Neg==b6.Neg)&&(decide (b12.Num=b6.Num)&&(decide (b12.Den=b6.Den)&&true))) else false)
          )
         | .inr o=>(
           some o
          )
         )
       )
      | .inr o=>(
        some o
       )
      )
     )
    )
   )
  )
end Go.Am

