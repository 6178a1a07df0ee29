/- Part F1: the functions of this seat as functions of plain values. No condition. -/
import Derived.Test.YtibbibelkkgfpaaGreatDoorX1
set_option linter.unusedVariables false
namespace Go.Am
structure AM where
 Stage:Int
 Ticks:Int
deriving DecidableEq,Inhabited
structure Ao where
 From:Int
 To:Int
 Table:List AM
 Lo:Int
 Hi:Int
deriving DecidableEq,Inhabited
structure Af where
 Neg:Bool
 Num:List UInt8
 Den:List UInt8
deriving DecidableEq,Inhabited
structure Bw where
 Stage:Int
 Flow:Af
deriving DecidableEq,Inhabited
structure Bg where
 Points:List Bw
deriving DecidableEq,Inhabited
structure Al where
 From:Int
 To:Int
 Weight:Af
 Datum:Int
 Curve:Bg
deriving DecidableEq,Inhabited
structure AU where
 From:Int
 Stages:List Int
deriving DecidableEq,Inhabited
structure HY where
 At:Int
 By:Af
deriving DecidableEq,Inhabited
structure Jr where
 A:List Ao
 B:List Ao
deriving DecidableEq,Inhabited
structure HZ where
 From:Int
 To:Int
deriving DecidableEq,Inhabited
structure Ia where
 e0:Int
 e1:Int
deriving DecidableEq,Inhabited
structure AX where
 neg:Bool
 num:List UInt8
 den:List UInt8
deriving DecidableEq,Inhabited
structure A9 where
 Span:Int
 Ticks:Int
deriving DecidableEq,Inhabited
structure Js where
 run:Ao
 classes:List A9
 cost:List (List Af)
 x:List (List Int)
deriving DecidableEq,Inhabited
structure Gm where
 Q:List UInt8
 R:List UInt8
 E:Int
deriving DecidableEq,Inhabited
structure EL where
 S:List UInt8
 E:Int
deriving DecidableEq,Inhabited
structure F3 where
 A:Af
 E:Int
deriving DecidableEq,Inhabited
structure Jt where
 L:List Al
 E:Int
deriving DecidableEq,Inhabited
structure Ju where
 L:List A9
 E:Int
deriving DecidableEq,Inhabited
structure Fq where
 Lo:Af
 Hi:Af
deriving DecidableEq,Inhabited
structure Ib where
 B:Fq
 E:Int
deriving DecidableEq,Inhabited
def qz43(x y:AM):Bool:=(decide (x.Stage=y.Stage)&&(decide (x.Ticks=y.Ticks)&&true))
def qz60(x y:Af):Bool:=((x.Neg==y.Neg)&&(decide (x.Num=y.Num)&&(decide (x.Den=y.Den)&&true)))
def qz1r(x y:Bw):Bool:=(decide (x.Stage=y.Stage)&&((x.Flow.Neg==y.Flow.Neg)&&(decide (x.Flow.Num=y.Flow.Num)&&(decide (x.Flow.Den=y.Flow.Den)&&true))))
def qzyt(x y:HY):Bool:=(decide (x.At=y.At)&&((x.By.Neg==y.By.Neg)&&(decide (x.By.Num=y.By.Num)&&(decide (x.By.Den=y.By.Den)&&true))))
def qz1w(x y:HZ):Bool:=(decide (x.From=y.From)&&(decide (x.To=y.To)&&true))
def qz29(x y:Ia):Bool:=(decide (x.e0=y.e0)&&(decide (x.e1=y.e1)&&true))
def qzu7(x y:AX):Bool:=((x.neg==y.neg)&&(decide (x.num=y.num)&&(decide (x.den=y.den)&&true)))
def qz1u(x y:A9):Bool:=(decide (x.Span=y.Span)&&(decide (x.Ticks=y.Ticks)&&true))
def qzuk(x y:Gm):Bool:=(decide (x.Q=y.Q)&&(decide (x.R=y.R)&&(decide (x.E=y.E)&&true)))
def qzy2(x y:EL):Bool:=(decide (x.S=y.S)&&(decide (x.E=y.E)&&true))
def qzzm(x y:F3):Bool:=((x.A.Neg==y.A.Neg)&&(decide (x.A.Num=y.A.Num)&&(decide (x.A.Den=y.A.Den)&&(decide (x.E=y.E)&&true))))
def qzyp(x y:Fq):Bool:=((x.Lo.Neg==y.Lo.Neg)&&(decide (x.Lo.Num=y.Lo.Num)&&(decide (x.Lo.Den=y.Lo.Den)&&((x.Hi.Neg==y.Hi.Neg)&&(decide (x.Hi.Num=y.Hi.Num)&&(decide (x.Hi.Den=y.Hi.Den)&&true))))))
def qzuj(x y:Ib):Bool:=((x.B.Lo.Neg==y.B.Lo.Neg)&&(decide (x.B.Lo.Num=y.B.Lo.Num)&&(decide (x.B.Lo.Den=y.B.Lo.Den)&&((x.B.Hi.Neg==y.B.Hi.Neg)&&(decide (x.B.Hi.Num=y.B.Hi.Num)&&(decide (x.B.Hi.Den=y.B.Hi.Den)&&(decide (x.E=y.E)&&true)))))))
def Ic(l:List Int):Option (List Int):=ck (decide (l.length<=4611686018427387904)) (some l.reverse)
def F4(l:List Int):Option (List Int):=ck (decide (0<l.length)&&decide (l.length*4<=140737488355328)) (some l)
def ES(ax0:Ao):Option (Bool) :=
 some (decide ((ax0.Table.length:Int)=0))
def ET(n0:Int)(lo1:Int)(jw:Int):Option (Bool) :=
 some (bif (decide (lo1<=n0)) then(decide (n0<=jw)) else false)
def JW(a0:List UInt8):Option (Bool) :=
 ck (!(!(decide (a0=[])))||(BR a0 0)) <|
 some (bif (decide (a0=[])) then true else(!decide ((Cu a0 0)=0)))
def DY(a8:Int)(to1:Int)(av:Int):Option (Ao) :=
 ck (Au .i64 (to1-a8)) <|
 some (Ao.mk a8 to1 [(AM.mk av (to1-a8))] 0 0)
def LT(ax0:Ao):Option (Bool) :=
 some (decide ((ax0.Table.length:Int)=1))
def LU(ax0:Ao):Int->Option (Int⊕(Unit⊕Int)):=fun s=>match s with
 |k3 =>
  ite' (decide (k3<(ax0.Table.length:Int))) (
   bd (at? ax0.Table k3) fun x1 =>
   ite' (bif (bif (bif (decide (x1.Stage<0)) then true else(decide (1000<x1.Stage))) then true else(decide (x1.Ticks<1))) then true else(decide (1402560<x1.Ticks))) (
    some (.inr (.inr 3))
    ) (
    ck (Au .i64 (k3+1)) <|
    some (.inl (k3+1))
    )
   ) (
   some (.inr (.inl ()))
   )
def P0(ax0:Ao):(Int×Int)->Option ((Int×Int)⊕(Int⊕Int)):=fun s=>match s with
 |(ae,k6) =>
  ite' (decide (k6<(ax0.Table.length:Int))) (
   ck (!(decide (0<k6))||Au .i64 (k6-1)) <|
   bd (gd (decide (0<k6)) (at? ax0.Table (k6-1))) fun x2 =>
   bd (gd (decide (0<k6)) (at? ax0.Table k6)) fun x3 =>
   ite' (bif (decide (0<k6)) then(decide (x3.Stage<=x2.Stage)) else false) (
    some (.inr (.inr 1))
    ) (
    bd (at? ax0.Table k6) fun x4 =>
    ck (Au .i64 (ae+x4.Ticks)) <|
    ck (Au .i64 (k6+1)) <|
    some (.inl ((ae+x4.Ticks),(k6+1)))
    )
   ) (
   some (.inr (.inl ae))
   )
def Im(ax0:Ao):Option (Int) :=
 ite' (decide ((ax0.Table.length:Int)=0)) (
  ite' (bif (bif (decide (ax0.Lo<0)) then true else(decide (ax0.Hi<ax0.Lo))) then true else(decide (1000<ax0.Hi))) (
   some 3
   ) (
   some 0
   )
  ) (
  bd (lp (LU ax0) 0)<|fun o=>match o with
  | .inl ()=>(
    bd (lp (P0 ax0) (0,0))<|fun o=>match o with
    | .inl ae=>(
      ck (Au .i64 (ax0.To-ax0.From)) <|
      ite' (bif (bif (!decide (ae=(ax0.To-ax0.From))) then true else(!decide (ax0.Lo=0))) then true else(!decide (ax0.Hi=0))) (
       some 1
       ) (
       some 0
       )
     )
    | .inr o=>(
      some o
     )
   )
  | .inr o=>(
    some o
   )
  )
def P1(ac0:Bg):Int->Option (Int⊕(Unit⊕Bool)):=fun s=>match s with
 |k3 =>
  ite' (decide (k3<(ac0.Points.length:Int))) (
   bd (at? ac0.Points k3) fun x1 =>
   bd (gd (!(decide (12<(x1.Flow.Num.length:Int)))) (at? ac0.Points k3)) fun x2 =>
   ite' (bif (decide (12<(x1.Flow.Num.length:Int))) then true else(decide (12<(x2.Flow.Den.length:Int)))) (
    some (.inr (.inr false))
    ) (
    ck (Au .i64 (k3+1)) <|
    some (.inl (k3+1))
    )
   ) (
   some (.inr (.inl ()))
   )
def JX(ac0:Bg):Option (Bool) :=
 ite' (decide (20<(ac0.Points.length:Int))) (
  some false
  ) (
  bd (lp (P1 ac0) 0)<|fun o=>match o with
  | .inl ()=>(
    some true
   )
  | .inr o=>(
    some o
   )
  )
def In(n0:Int):Option (Bool) :=
 some (bif (decide ((-999999999999999)<=n0)) then(decide (n0<=999999999999999)) else false)
def LV(ax0:Ao):Int->Option (Int⊕(Unit⊕Int)):=fun s=>match s with
 |t43 =>
  ite' (decide (t43<(ax0.Table.length:Int))) (
   bd (at? ax0.Table t43) fun x1 =>
   bd (ET x1.Stage 0 1000) fun r2 =>
   bd (gd (!(!r2)) (ET x1.Ticks 1 1402560)) fun r3 =>
   ite' (bif (!r2) then true else(!r3)) (
    some (.inr (.inr 3))
    ) (
    ck (Au .i64 (t43+1)) <|
    some (.inl (t43+1))
    )
   ) (
   some (.inr (.inl ()))
   )
def P2(ax0:Ao):(Int×Int)->Option ((Int×Int)⊕(Int⊕Int)):=fun s=>match s with
 |(ae,t61) =>
  ite' (decide (t61<(ax0.Table.length:Int))) (
   bd (at? ax0.Table t61) fun x2 =>
   ck (!(decide (0<t61))||Au .i64 (t61-1)) <|
   bd (gd (decide (0<t61)) (at? ax0.Table (t61-1))) fun x3 =>
   ite' (bif (decide (0<t61)) then(decide (x2.Stage<=x3.Stage)) else false) (
    some (.inr (.inr 1))
    ) (
    ck (Au .i64 (ae+x2.Ticks)) <|
    ck (Au .i64 (t61+1)) <|
    some (.inl ((ae+x2.Ticks),(t61+1)))
    )
   ) (
   some (.inr (.inl ae))
   )
def JY(ax0:Ao):Option (Int) :=
 ite' (bif (bif (decide (ax0.From<0)) then true else(decide (ax0.To<=ax0.From))) then true else(decide (1402560<ax0.To))) (
  some 3
  ) (
  bd (ES ax0) fun r1 =>
  ite' r1 (
   ite' (bif (bif (decide (ax0.Lo<0)) then true else(decide (ax0.Hi<ax0.Lo))) then true else(decide (1000<ax0.Hi))) (
    some 3
    ) (
    some 0
    )
   ) (
   bd (lp (LV ax0) 0)<|fun o=>match o with
   | .inl ()=>(
     bd (lp (P2 ax0) (0,0))<|fun o=>match o with
     | .inl ae=>(
       ck (Au .i64 (ax0.To-ax0.From)) <|
       ite' (bif (bif (!decide (ae=(ax0.To-ax0.From))) then true else(!decide (ax0.Lo=0))) then true else(!decide (ax0.Hi=0))) (
        some 1
        ) (
        some 0
        )
      )
     | .inr o=>(
       some o
      )
    )
   | .inr o=>(
     some o
    )
   )
  )
def JZ(f1:Int->Option Bool):(Int×Int)->Option ((Int×Int)⊕Int):=fun s=>match s with
 |(i5,j6) =>
  ite' (decide (i5<j6)) (
   ck (Au .i64 (i5+j6)) <|
   ck (Au .i64 (Int.fdiv ((i5+j6)%18446744073709551616) 2)) <|
   bd (f1 (Int.fdiv ((i5+j6)%18446744073709551616) 2)) fun r1 =>
   ite' (!r1) (
    ck (Au .i64 ((Int.fdiv ((i5+j6)%18446744073709551616) 2)+1)) <|
    some (.inl (((Int.fdiv ((i5+j6)%18446744073709551616) 2)+1),j6))
    ) (
    some (.inl (i5,(Int.fdiv ((i5+j6)%18446744073709551616) 2)))
    )
   ) (
   some (.inr i5)
   )
def Jv(n0:Int)(f1:Int->Option Bool):Option (Int) :=
 bd (lp (JZ f1) (0,n0))<|fun i5 =>
 some i5
def LW(k0:Int)(c0:List Al)(c1:Ao):Option (Bool) :=
 bd (at? c0 k0) fun x1 =>
 some (decide (c1.From<x1.To))
def FC(k0:Int)(c0:List Al)(c1:Int):Option (Bool) :=
 bd (at? c0 k0) fun x1 =>
 some (decide (c1<x1.To))
def P3(as0:Int):Option (Bool) :=
 bd (ET as0 0 1000) fun r1 =>
 some (!r1)
def Io(a0:Af):Option ((List UInt8)×(List UInt8)) :=
 ite' (decide (a0.Num=[])) (
  some ([],[1])
  ) (
  some (a0.Num,a0.Den)
  )
def LX(n0:Int):Option (Bool) :=
 some (bif (decide ((-999999999999999)<=n0)) then(decide (n0<=999999999999999)) else false)
def P4(f1:Int->Option Bool)(as0:List Int):Int->Option (Int⊕(Unit⊕Int)):=fun s=>match s with
 |t8 =>
  ite' (decide (t8<(as0.length:Int))) (
   bd (at? as0 t8) fun x1 =>
   bd (f1 x1) fun r1 =>
   ite' r1 (
    some (.inr (.inr t8))
    ) (
    ck (Au .i64 (t8+1)) <|
    some (.inl (t8+1))
    )
   ) (
   some (.inr (.inl ()))
   )
def LY(as0:List Int)(f1:Int->Option Bool):Option (Int) :=
 bd (lp (P4 f1 as0) 0)<|fun o=>match o with
 | .inl ()=>(
   some (-1)
  )
 | .inr o=>(
   some o
  )
def P5 :(List Int)->Option ((List Int)⊕(List Int)):=fun s=>match s with
 |x0 =>
  ck (!(decide (0<(x0.length:Int)))||Au .i64 ((x0.length:Int)-1)) <|
  bd (gd (decide (0<(x0.length:Int))) (at? x0 ((x0.length:Int)-1))) fun x1 =>
  ite' (bif (decide (0<(x0.length:Int))) then(decide (x1=0)) else false) (
   ck (Au .i64 ((x0.length:Int)-1)) <|
   ck (C3 x0 0 ((x0.length:Int)-1)) <|
   some (.inl (sub x0 0 ((x0.length:Int)-1)))
   ) (
   some (.inr x0)
   )
def GM(ax0:List Int):Option ((List Int)) :=
 bd (lp (P5) ax0)<|fun x0 =>
 some x0
def P6(aq:Int):Option (Bool) :=
 some (bif (decide ((-1000)<=aq)) then(decide (aq<=2000)) else false)
def P7(a0:List UInt8):Int->Option (Int⊕Int):=fun s=>match s with
 |k3 =>
  ck (!(decide (k3<(a0.length:Int)))||(BR a0 k3)) <|
  ite' (bif (decide (k3<(a0.length:Int))) then(decide ((Cu a0 k3)=0)) else false) (
   ck (Au .i64 (k3+1)) <|
   some (.inl (k3+1))
   ) (
   some (.inr k3)
   )
def Jw(a0:List UInt8):Option ((List UInt8)) :=
 bd (lp (P7 a0) 0)<|fun k3 =>
 ck (C3 a0 k3 (a0.length:Int)) <|
 some (sub a0 k3 (a0.length:Int))
def FD(a0:List UInt8)(k1:Int):Option (Int) :=
 ite' (decide ((a0.length:Int)<=k1)) (
  some 0
  ) (
  ck (Au .i64 ((a0.length:Int)-1)) <|
  ck (Au .i64 (((a0.length:Int)-1)-k1)) <|
  ck (BR a0 (((a0.length:Int)-1)-k1)) <|
  ck (Au .i64 (Cu a0 (((a0.length:Int)-1)-k1))) <|
  some (Cu a0 (((a0.length:Int)-1)-k1))
  )
def P8(l0:List Int):(Int×(List Int))->Option ((Int×(List Int))⊕(List Int)):=fun s=>match s with
 |(k4,l1) =>
  ite' (decide (0<=k4)) (
   bd (at? l0 k4) fun x1 =>
   ck (decide (List.length (l1++[(x1%256)])*1<=140737488355328)) <|
   ck (Au .i64 (k4-1)) <|
   some (.inl ((k4-1),(l1++[(x1%256)])))
   ) (
   some (.inr l1)
   )
def Ka(l0:List Int):Option ((List UInt8)) :=
 ck (Au .i64 ((l0.length:Int)-1)) <|
 bd (lp (P8 l0) (((l0.length:Int)-1),[]))<|fun l1 =>
 bd (Jw (BS l1)) fun r1 =>
 some r1
def P9 :(Int×(List UInt8))->Option ((Int×(List UInt8))⊕(List UInt8)):=fun s=>match s with
 |(n0',an) =>
  ite' (decide (0<n0')) (
   ck (decide (List.length (BS [((n0'.tmod 256)%256)])+an.length<=4611686018427387904)) <|
   ck (Au .i64 (n0'.tdiv 256)) <|
   some (.inl ((n0'.tdiv 256),((BS [((n0'.tmod 256)%256)])++an)))
   ) (
   some (.inr an)
   )
def PA(n0:Int):Option (EL) :=
 ite' (decide (n0<0)) (
  some (EL.mk [] 3)
  ) (
  bd (lp (P9) (n0,[]))<|fun an =>
  some (EL.mk an 0)
  )
def GN(ax0:List Int)(k1:Int):Option (Int) :=
 ite' (decide (k1<(ax0.length:Int))) (
  bd (at? ax0 k1) fun x1 =>
  some (x1%18446744073709551616)
  ) (
  some 0
  )
def Kb(ax0:Int):Option (Bool) :=
 some (!decide (ax0=ax0))
def Kc(ax0:Int):Option (Bool) :=
 some (!decide (ax0=ax0))
def PB(ac1:Int):(List UInt8)->Option ((List UInt8)⊕(List UInt8)):=fun s=>match s with
 |s0 =>
  ck (!(decide (0<(s0.length:Int)))||(BR s0 0)) <|
  ite' (bif (decide (0<(s0.length:Int))) then(decide ((Cu s0 0)=ac1)) else false) (
   ck (C3 s0 1 (s0.length:Int)) <|
   some (.inl (sub s0 1 (s0.length:Int)))
   ) (
   some (.inr s0)
   )
def LZ(as0:List UInt8)(ac1:Int):Option ((List UInt8)) :=
 bd (lp (PB ac1) as0)<|fun s0 =>
 some s0
def Kd(k0:Int)(c0:Bg)(c1:Int):Option (Bool) :=
 bd (at? c0.Points k0) fun x1 =>
 some (decide (c1<x1.Stage))
def Ma(l0:List Ao):Int->Option (Int⊕(Unit⊕Int)):=fun s=>match s with
 |k3 =>
  ite' (decide (k3<(l0.length:Int))) (
   bd (at? l0 k3) fun x1 =>
   bd (gd (!(decide (x1.From<0))) (at? l0 k3)) fun x2 =>
   bd (gd (!(decide (x1.From<0))) (at? l0 k3)) fun x3 =>
   bd (gd (!(bif (decide (x1.From<0)) then true else(decide (x2.To<=x3.From)))) (at? l0 k3)) fun x4 =>
   ite' (bif (bif (decide (x1.From<0)) then true else(decide (x2.To<=x3.From))) then true else(decide (1402560<x4.To))) (
    some (.inr (.inr 3))
    ) (
    bd (gd (decide (0<k3)) (at? l0 k3)) fun x5 =>
    ck (!(decide (0<k3))||Au .i64 (k3-1)) <|
    bd (gd (decide (0<k3)) (at? l0 (k3-1))) fun x6 =>
    ite' (bif (decide (0<k3)) then(!decide (x5.From=x6.To)) else false) (
     some (.inr (.inr 1))
     ) (
     bd (at? l0 k3) fun x7 =>
     bd (Im x7) fun r1 =>
     ite' (!decide (r1=0)) (
      some (.inr (.inr r1))
      ) (
      ck (Au .i64 (k3+1)) <|
      some (.inl (k3+1))
      )
     )
    )
   ) (
   some (.inr (.inl ()))
   )
def Ke(l0:List Ao):Option (Int) :=
 ite' (decide (2000<(l0.length:Int))) (
  some 2
  ) (
  bd (lp (Ma l0) 0)<|fun o=>match o with
  | .inl ()=>(
    ck (!(decide (0<(l0.length:Int)))||Au .i64 ((l0.length:Int)-1)) <|
    bd (gd (decide (0<(l0.length:Int))) (at? l0 ((l0.length:Int)-1))) fun x8 =>
    bd (gd (decide (0<(l0.length:Int))) (at? l0 0)) fun x9 =>
    ck (!(decide (0<(l0.length:Int)))||Au .i64 (x8.To-x9.From)) <|
    ite' (bif (decide (0<(l0.length:Int))) then(decide (40000<(x8.To-x9.From))) else false) (
     some 2
     ) (
     some 0
     )
   )
  | .inr o=>(
    some o
   )
  )
def Mb(l0:List Ao):Int->Option (Int⊕(Unit⊕Bool)):=fun s=>match s with
 |k7 =>
  ite' (decide (k7<(l0.length:Int))) (
   bd (at? l0 k7) fun x1 =>
   ite' (decide (20<(x1.Table.length:Int))) (
    some (.inr (.inr false))
    ) (
    ck (Au .i64 (k7+1)) <|
    some (.inl (k7+1))
    )
   ) (
   some (.inr (.inl ()))
   )
def Mc(l0:List Ao)(ay:Int)(ao:Int):Option (Bool) :=
 ite' (decide (ay<(l0.length:Int))) (
  some false
  ) (
  bd (lp (Mb l0) 0)<|fun o=>match o with
  | .inl ()=>(
    bd (Ke l0) fun r1 =>
    ck (!(!(bif (!decide (r1=0)) then true else(decide ((l0.length:Int)=0))))||Au .i64 ((l0.length:Int)-1)) <|
    bd (gd (!(bif (!decide (r1=0)) then true else(decide ((l0.length:Int)=0)))) (at? l0 ((l0.length:Int)-1))) fun x2 =>
    bd (gd (!(bif (!decide (r1=0)) then true else(decide ((l0.length:Int)=0)))) (at? l0 0)) fun x3 =>
    ck (!(!(bif (!decide (r1=0)) then true else(decide ((l0.length:Int)=0))))||Au .i64 (x2.To-x3.From)) <|
    some (bif (bif (!decide (r1=0)) then true else(decide ((l0.length:Int)=0))) then true else(decide ((x2.To-x3.From)<=ao)))
   )
  | .inr o=>(
    some o
   )
  )
def PC(l0:List Al):Int->Option (Int⊕(Unit⊕Bool)):=fun s=>match s with
 |k5 =>
  ite' (decide (k5<(l0.length:Int))) (
   bd (at? l0 k5) fun x1 =>
   bd (JX x1.Curve) fun r1 =>
   bd (gd (!(!r1)) (at? l0 k5)) fun x2 =>
   bd (gd (!(bif (!r1) then true else(decide (40<(x2.Weight.Num.length:Int))))) (at? l0 k5)) fun x3 =>
   ite' (bif (bif (!r1) then true else(decide (40<(x2.Weight.Num.length:Int)))) then true else(decide (40<(x3.Weight.Den.length:Int)))) (
    some (.inr (.inr false))
    ) (
    ck (Au .i64 (k5+1)) <|
    some (.inl (k5+1))
    )
   ) (
   some (.inr (.inl ()))
   )
def Ip(l0:List Al)(ax:Int):Option (Bool) :=
 ite' (bif (bif (decide (ax<(l0.length:Int))) then(decide ((l0.length:Int)<=400)) else false) then true else(decide (410<(l0.length:Int)))) (
  some false
  ) (
  bd (lp (PC l0) 0)<|fun o=>match o with
  | .inl ()=>(
    some true
   )
  | .inr o=>(
    some o
   )
  )
def Md(l0:List Ao):Int->Option (Int⊕(Unit⊕Int)):=fun s=>match s with
 |t12 =>
  ite' (decide (t12<(l0.length:Int))) (
   bd (at? l0 t12) fun x1 =>
   ite' (bif (bif (decide (x1.From<0)) then true else(decide (x1.To<=x1.From))) then true else(decide (1402560<x1.To))) (
    some (.inr (.inr 3))
    ) (
    ck (!(decide (0<t12))||Au .i64 (t12-1)) <|
    bd (gd (decide (0<t12)) (at? l0 (t12-1))) fun x2 =>
    ite' (bif (decide (0<t12)) then(!decide (x1.From=x2.To)) else false) (
     some (.inr (.inr 1))
     ) (
     bd (JY x1) fun r1 =>
     ite' (!decide (r1=0)) (
      some (.inr (.inr r1))
      ) (
      ck (Au .i64 (t12+1)) <|
      some (.inl (t12+1))
      )
     )
    )
   ) (
   some (.inr (.inl ()))
   )
def Kf(l0:List Ao):Option (Int) :=
 ite' (decide (2000<(l0.length:Int))) (
  some 2
  ) (
  bd (lp (Md l0) 0)<|fun o=>match o with
  | .inl ()=>(
    ck (!(decide (0<(l0.length:Int)))||Au .i64 ((l0.length:Int)-1)) <|
    bd (gd (decide (0<(l0.length:Int))) (at? l0 ((l0.length:Int)-1))) fun x3 =>
    bd (gd (decide (0<(l0.length:Int))) (at? l0 0)) fun x4 =>
    ck (!(decide (0<(l0.length:Int)))||Au .i64 (x3.To-x4.From)) <|
    ite' (bif (decide (0<(l0.length:Int))) then(decide (40000<(x3.To-x4.From))) else false) (
     some 2
     ) (
     some 0
     )
   )
  | .inr o=>(
    some o
   )
  )
def PD(a1:List Al)(ax0:Ao):(Int×Int×(List A9))->Option ((Int×Int×(List A9))⊕(Int×(List A9))):=fun s=>match s with
 |(af,k7,l3) =>
  bd (gd (decide (k7<(a1.length:Int))) (at? a1 k7)) fun x1 =>
  ite' (bif (decide (k7<(a1.length:Int))) then(decide (x1.From<ax0.To)) else false) (
   bd (at? a1 k7) fun x2 =>
   bd (at? a1 k7) fun x3 =>
   ck (Au .i64 ((min ax0.To x2.To)-(max ax0.From x3.From))) <|
   ck (decide (List.length (l3++[(A9.mk k7 ((min ax0.To x2.To)-(max ax0.From x3.From)))])*16<=140737488355328)) <|
   ck (Au .i64 (af-((min ax0.To x2.To)-(max ax0.From x3.From)))) <|
   ck (Au .i64 (k7+1)) <|
   some (.inl ((af-((min ax0.To x2.To)-(max ax0.From x3.From))),(k7+1),(l3++[(A9.mk k7 ((min ax0.To x2.To)-(max ax0.From x3.From)))])))
   ) (
   some (.inr (af,l3))
   )
def Ij(ax0:Ao)(a1:List Al):Option ((List A9)) :=
 ck (Au .i64 (ax0.To-ax0.From)) <|
 bd (Jv (a1.length:Int) (fun a0=>LW a0 a1 ax0)) fun r1 =>
 bd (lp (PD a1 ax0) ((ax0.To-ax0.From),r1,[]))<|fun(af,l3) =>
 ite' (decide (0<af)) (
  ck (decide (List.length (l3++[(A9.mk (-1) af)])*16<=140737488355328)) <|
  some (l3++[(A9.mk (-1) af)])
  ) (
  some l3
  )
def GC(a0:Ao)(b1:Ao):Option (Ao×Bool) :=
 bd (LT a0) fun r1 =>
 bd (gd r1 (LT b1)) fun r2 =>
 bd (gd (bif r1 then r2 else false) (at? a0.Table 0)) fun x1 =>
 bd (gd (bif r1 then r2 else false) (at? b1.Table 0)) fun x2 =>
 ite' (bif (bif r1 then r2 else false) then(decide (x1.Stage=x2.Stage)) else false) (
  bd (at? a0.Table 0) fun x3 =>
  bd (DY a0.From b1.To x3.Stage) fun r3 =>
  some (r3,true)
  ) (
  bd (ES a0) fun r4 =>
  bd (gd r4 (ES b1)) fun r5 =>
  ite' (bif (bif (bif r4 then r5 else false) then(decide (a0.Lo=b1.Lo)) else false) then(decide (a0.Hi=b1.Hi)) else false) (
   some ((Ao.mk a0.From b1.To [] a0.Lo a0.Hi),true)
   ) (
   some ((Ao.mk 0 0 [] 0 0),false)
   )
  )
def PE(as0:List Int)(f1:Int->Option Bool):Option (Bool) :=
 bd (LY as0 f1) fun r1 =>
 some (decide (0<=r1))
def PF(a0:List UInt8)(ad:Int):(Int×Int)->Option ((Int×Int)⊕Int):=fun s=>match s with
 |(ah,t22) =>
  ite' (decide (t22<(List.length (bytes (sub a0 (max 0 (ad-4)) ad)):Int))) (
   bd (at? (bytes (sub a0 (max 0 (ad-4)) ad)) t22) fun x1 =>
   ck (Au .i64 (t22+1)) <|
   some (.inl ((bitI .or .u32 ((ah*256)%4294967296) (x1%4294967296)),(t22+1)))
   ) (
   some (.inr ah)
   )
def PG(a0:List UInt8):(Int×(List Int))->Option ((Int×(List Int))⊕(List Int)):=fun s=>match s with
 |(ad,l2) =>
  ite' (decide (0<ad)) (
   ck (Au .i64 (ad-4)) <|
   ck (C3 a0 (max 0 (ad-4)) ad) <|
   bd (lp (PF a0 ad) (0,0))<|fun ah =>
   ck (decide (List.length (l2++[ah])*4<=140737488355328)) <|
   ck (Au .i64 (ad-4)) <|
   some (.inl ((ad-4),(l2++[ah])))
   ) (
   some (.inr l2)
   )
def Gn(a0:List UInt8):Option ((List Int)) :=
 bd (lp (PG a0) ((a0.length:Int),[]))<|fun l2 =>
 bd (GM l2) fun r1 =>
 some r1
def Me(a0:List UInt8):Option (Bool) :=
 bd (Jw a0) fun r1 =>
 some (decide (a0=r1))
def Mf(a0:List UInt8)(b1:List UInt8)(i6:Int):(Int×Int×(List Int))->Option ((Int×Int×(List Int))⊕(List Int)):=fun s=>match s with
 |(aj,k8,l0') =>
  ite' (decide (k8<=(b1.length:Int))) (
   ck (Au .i64 (i6+k8)) <|
   bd (at? l0' (i6+k8)) fun x1 =>
   bd (FD a0 i6) fun r1 =>
   bd (FD b1 k8) fun r2 =>
   ck (Au .i64 (r1*r2)) <|
   ck (Au .i64 (x1+(r1*r2))) <|
   ck (Au .i64 ((x1+(r1*r2))+aj)) <|
   ck (Au .i64 (i6+k8)) <|
   bd (at? l0' (i6+k8)) fun x2 =>
   ck (Au .i64 (((x1+(r1*r2))+aj).tdiv 256)) <|
   ck (Au .i64 (k8+1)) <|
   some (.inl ((((x1+(r1*r2))+aj).tdiv 256),(k8+1),(List.set l0' (Int.toNat (i6+k8)) (((x1+(r1*r2))+aj).tmod 256))))
   ) (
   some (.inr l0')
   )
def PH(a0:List UInt8)(b1:List UInt8):(Int×(List Int))->Option ((Int×(List Int))⊕(List Int)):=fun s=>match s with
 |(i6,l0) =>
  ite' (decide (i6<(a0.length:Int))) (
   bd (lp (Mf a0 b1 i6) (0,0,l0))<|fun l0' =>
   ck (Au .i64 (i6+1)) <|
   some (.inl ((i6+1),l0'))
   ) (
   some (.inr l0)
   )
def GO(a0:List UInt8)(b1:List UInt8):Option ((List UInt8)) :=
 ck (Au .i64 ((a0.length:Int)+(b1.length:Int))) <|
 ck (Au .i64 (((a0.length:Int)+(b1.length:Int))+1)) <|
 ck (mkOk (((a0.length:Int)+(b1.length:Int))+1) 8) <|
 bd (lp (PH a0 b1) (0,(List.replicate (Int.toNat (((a0.length:Int)+(b1.length:Int))+1)) 0)))<|fun l0 =>
 bd (Ka l0) fun r3 =>
 some r3
def Mg(n0:Int):Option ((List UInt8)) :=
 bd (α:=Int) (
  ite' (decide (n0<0)) (
   ck (Au .i64 (-n0)) <|
   some (-n0)
   ) (
   some n0
   )
 )<|fun n0' =>
  bd (PA n0') fun r1 =>
  some r1.S
def PI(a0:List UInt8)(b1:List UInt8):(Int×Int×(List Int))->Option ((Int×Int×(List Int))⊕(List Int)):=fun s=>match s with
 |(a7,k7,l1) =>
  ite' (decide (k7<=(max (a0.length:Int) (b1.length:Int)))) (
   bd (FD a0 k7) fun r1 =>
   bd (FD b1 k7) fun r2 =>
   ck (Au .i64 (r1+r2)) <|
   ck (Au .i64 ((r1+r2)+a7)) <|
   ck (decide (List.length (l1++[(((r1+r2)+a7).tmod 256)])*8<=140737488355328)) <|
   ck (Au .i64 (((r1+r2)+a7).tdiv 256)) <|
   ck (Au .i64 (k7+1)) <|
   some (.inl ((((r1+r2)+a7).tdiv 256),(k7+1),(l1++[(((r1+r2)+a7).tmod 256)])))
   ) (
   some (.inr l1)
   )
def PJ(a0:List UInt8)(b1:List UInt8):Option ((List UInt8)) :=
 bd (lp (PI a0 b1) (0,0,[]))<|fun l1 =>
 bd (Ka l1) fun r3 =>
 some r3
def Kg(a0:List UInt8)(b1:List UInt8):Option (Int) :=
 bd (Jw a0) fun r1 =>
 bd (Jw b1) fun r2 =>
 ite' (decide (r1=r2)) (
  some 0
  ) (
  ite' (bif (decide ((r1.length:Int)<(r2.length:Int))) then true else(bif (decide ((r1.length:Int)=(r2.length:Int))) then(Op.bytesLess r1 r2) else false)) (
   some (-1)
   ) (
   some 1
   )
  )
def PK(a0:List UInt8)(b1:List UInt8):(Int×Int×(List Int))->Option ((Int×Int×(List Int))⊕(List Int)):=fun s=>match s with
 |(a4,k7,l2) =>
  ite' (decide (k7<(a0.length:Int))) (
   bd (FD a0 k7) fun r2 =>
   bd (FD b1 k7) fun r3 =>
   ck (Au .i64 (r2-r3)) <|
   ck (Au .i64 ((r2-r3)-a4)) <|
   bd (α:=Int×Int) (
    ite' (decide (((r2-r3)-a4)<0)) (
     ck (Au .i64 (((r2-r3)-a4)+256)) <|
     some (1,(((r2-r3)-a4)+256))
     ) (
     some (0,((r2-r3)-a4))
     )
   )<|fun(a4',n8) =>
    ck (decide (List.length (l2++[n8])*8<=140737488355328)) <|
    ck (Au .i64 (k7+1)) <|
    some (.inl (a4',(k7+1),(l2++[n8])))
   ) (
   some (.inr l2)
   )
def Kh(a0:List UInt8)(b1:List UInt8):Option (EL) :=
 bd (Kg a0 b1) fun r1 =>
 ite' (decide (r1<0)) (
  some (EL.mk [] 3)
  ) (
  bd (lp (PK a0 b1) (0,0,[]))<|fun l2 =>
  bd (Ka l2) fun r4 =>
  some (EL.mk r4 0)
  )
def PL(by1:Int)(ax0:List Int):(Int×Int×(List Int))->Option ((Int×Int×(List Int))⊕(Int×(List Int))):=fun s=>match s with
 |(ak,k8,l0) =>
  ite' (decide (0<=k8)) (
   bd (at? ax0 k8) fun x1 =>
   ck (!decide ((by1%18446744073709551616)=0)) <|
   ck (!decide ((by1%18446744073709551616)=0)) <|
   bd (at? l0 k8) fun x2 =>
   ck (Au .i64 (k8-1)) <|
   some (.inl (((bitI .or .u64 ((ak*4294967296)%18446744073709551616) (x1%18446744073709551616)).tmod (by1%18446744073709551616)),(k8-1),(List.set l0 (Int.toNat k8) ((((bitI .or .u64 ((ak*4294967296)%18446744073709551616) (x1%18446744073709551616)).tdiv (by1%18446744073709551616))%18446744073709551616)%4294967296))))
   ) (
   some (.inr (ak,l0))
   )
def Iq(ax0:List Int)(by1:Int):Option ((List Int)×Int) :=
 ck (mkOk (ax0.length:Int) 4) <|
 ck (Au .i64 ((ax0.length:Int)-1)) <|
 bd (lp (PL by1 ax0) (0,((ax0.length:Int)-1),(List.replicate (Int.toNat (ax0.length:Int)) 0)))<|fun(ak,l0) =>
 bd (GM l0) fun r1 =>
 some (r1,(ak%4294967296))
def Mh(t20:Int)(x1:Int)(y1:List Int):(Int×Int×(List Int))->Option ((Int×Int×(List Int))⊕(List Int)):=fun s=>match s with
 |(am,k9,l0') =>
  ite' (bif (decide (k9<(y1.length:Int))) then true else(decide (0<am))) (
   bd (GN y1 k9) fun r1 =>
   ck (Au .i64 (t20+k9)) <|
   bd (at? l0' (t20+k9)) fun x2 =>
   ck (Au .i64 (t20+k9)) <|
   bd (at? l0' (t20+k9)) fun x3 =>
   ck (Au .i64 (k9+1)) <|
   some (.inl ((Int.fdiv (((((((x1%18446744073709551616)*r1)%18446744073709551616)+(x2%18446744073709551616))%18446744073709551616)+am)%18446744073709551616) 4294967296),(k9+1),(List.set l0' (Int.toNat (t20+k9)) ((((((((x1%18446744073709551616)*r1)%18446744073709551616)+(x2%18446744073709551616))%18446744073709551616)+am)%18446744073709551616)%4294967296))))
   ) (
   some (.inr l0')
   )
def PM(ax0:List Int)(y1:List Int):(Int×(List Int))->Option ((Int×(List Int))⊕(List Int)):=fun s=>match s with
 |(t20,l0) =>
  ite' (decide (t20<(ax0.length:Int))) (
   bd (at? ax0 t20) fun x1 =>
   bd (lp (Mh t20 x1 y1) (0,0,l0))<|fun l0' =>
   ck (Au .i64 (t20+1)) <|
   some (.inl ((t20+1),l0'))
   ) (
   some (.inr l0)
   )
def GP(ax0:List Int)(y1:List Int):Option ((List Int)) :=
 ck (Au .i64 ((ax0.length:Int)+(y1.length:Int))) <|
 ck (Au .i64 (((ax0.length:Int)+(y1.length:Int))+1)) <|
 ck (mkOk (((ax0.length:Int)+(y1.length:Int))+1) 4) <|
 bd (lp (PM ax0 y1) (0,(List.replicate (Int.toNat (((ax0.length:Int)+(y1.length:Int))+1)) 0)))<|fun l0 =>
 bd (GM l0) fun r2 =>
 some r2
def PN(ax0:List Int)(y1:List Int):(Int×Int×(List Int))->Option ((Int×Int×(List Int))⊕(List Int)):=fun s=>match s with
 |(a4,t11,l1) =>
  ite' (decide (t11<(ax0.length:Int))) (
   bd (at? ax0 t11) fun x1 =>
   bd (GN y1 t11) fun r1 =>
   ck (decide (List.length (l1++[((((((x1%18446744073709551616)-r1)%18446744073709551616)-a4)%18446744073709551616)%4294967296)])*4<=140737488355328)) <|
   ck (Au .i64 (t11+1)) <|
   some (.inl ((Int.fdiv (((((x1%18446744073709551616)-r1)%18446744073709551616)-a4)%18446744073709551616) 9223372036854775808),(t11+1),(l1++[((((((x1%18446744073709551616)-r1)%18446744073709551616)-a4)%18446744073709551616)%4294967296)])))
   ) (
   some (.inr l1)
   )
def GQ(ax0:List Int)(y1:List Int):Option ((List Int)) :=
 bd (lp (PN ax0 y1) (0,0,[]))<|fun l1 =>
 bd (GM l1) fun r2 =>
 some r2
def PO(ax0:List Int)(y1:List Int):(Int×Int×(List Int))->Option ((Int×Int×(List Int))⊕(List Int)):=fun s=>match s with
 |(a7,t15,l1) =>
  ite' (decide (t15<((max (ax0.length:Int) (y1.length:Int))+1))) (
   bd (GN ax0 t15) fun r1 =>
   bd (GN y1 t15) fun r2 =>
   ck (decide (List.length (l1++[(((((r1+r2)%18446744073709551616)+a7)%18446744073709551616)%4294967296)])*4<=140737488355328)) <|
   ck (Au .i64 (t15+1)) <|
   some (.inl ((Int.fdiv ((((r1+r2)%18446744073709551616)+a7)%18446744073709551616) 4294967296),(t15+1),(l1++[(((((r1+r2)%18446744073709551616)+a7)%18446744073709551616)%4294967296)])))
   ) (
   some (.inr l1)
   )
def Ki(ax0:List Int)(y1:List Int):Option ((List Int)) :=
 ck (Au .i64 ((max (ax0.length:Int) (y1.length:Int))+1)) <|
 bd (lp (PO ax0 y1) (0,0,[]))<|fun l1 =>
 bd (GM l1) fun r3 =>
 some r3
def PP(b1:List UInt8):((List UInt8)×Int)->Option (((List UInt8)×Int)⊕((List UInt8)×Int)):=fun s=>match s with
 |(r6',n8) =>
  bd (Kg r6' b1) fun r3 =>
  ite' (decide (0<=r3)) (
   bd (Kh r6' b1) fun r4 =>
   ck (Au .i64 (n8+1)) <|
   some (.inl (r4.S,(n8+1)))
   ) (
   some (.inr (r6',n8))
   )
def PQ(a0:List UInt8)(b1:List UInt8):((List UInt8)×(List UInt8)×Int)->Option (((List UInt8)×(List UInt8)×Int)⊕((List UInt8)×(List UInt8))):=fun s=>match s with
 |(q5,r6,k7) =>
  ite' (decide (k7<(a0.length:Int))) (
   ck (Au .i64 (k7+1)) <|
   ck (C3 a0 k7 (k7+1)) <|
   ck (decide (r6.length+List.length (sub a0 k7 (k7+1))<=4611686018427387904)) <|
   bd (Jw (r6++(sub a0 k7 (k7+1)))) fun r2 =>
   bd (lp (PP b1) (r2,0))<|fun(r6',n8) =>
   ck (decide (q5.length+List.length (BS [(n8%256)])<=4611686018427387904)) <|
   ck (Au .i64 (k7+1)) <|
   some (.inl ((q5++(BS [(n8%256)])),r6',(k7+1)))
   ) (
   some (.inr (q5,r6))
   )
def Kj(a0:List UInt8)(b1:List UInt8):Option (Gm) :=
 bd (Jw b1) fun r1 =>
 ite' (decide (r1=[])) (
  some (Gm.mk [] [] 1)
  ) (
  bd (lp (PQ a0 b1) ([],[],0))<|fun(q5,r6) =>
  bd (Jw q5) fun r5 =>
  some (Gm.mk r5 r6 0)
  )
def Mi(ax0:Int)(y1:Int):Option (Int) :=
 bd (Kb ax0) fun r1 =>
 bd (Kb y1) fun r2 =>
 ite' r1 (
  ite' r2 (
   some 0
   ) (
   some (-1)
   )
  ) (
  ite' r2 (
   some 1
   ) (
   ite' (decide (ax0<y1)) (
    some (-1)
    ) (
    ite' (decide (y1<ax0)) (
     some 1
     ) (
     some 0
     )
    )
   )
  )
def Mj(ax0:Int)(y1:Int):Option (Int) :=
 bd (Kc ax0) fun r1 =>
 bd (Kc y1) fun r2 =>
 ite' r1 (
  ite' r2 (
   some 0
   ) (
   some (-1)
   )
  ) (
  ite' r2 (
   some 1
   ) (
   ite' (decide (ax0<y1)) (
    some (-1)
    ) (
    ite' (decide (y1<ax0)) (
     some 1
     ) (
     some 0
     )
    )
   )
  )
def PR(as0:List UInt8)(a9:List UInt8):Option ((List UInt8)) :=
 ite' (bif (decide (as0=[])) then true else(decide (a9=[]))) (
  some as0
  ) (
  ck (!(decide ((a9.length:Int)=1))||(BR a9 0)) <|
  ite' (bif (decide ((a9.length:Int)=1)) then(decide ((Cu a9 0)<128)) else false) (
   ck (BR a9 0) <|
   bd (LZ as0 (Cu a9 0)) fun r1 =>
   some r1
   ) (
   none
   )
  )
def Mk(l0:List Ao)(a1:List Al)(ao:Int):Option (Bool) :=
 bd (Mc l0 12 ao) fun r1 =>
 bd (gd r1 (Ip a1 8)) fun r2 =>
 some (bif r1 then r2 else false)
def DX(h0:AU):Option (Bool) :=
 ck (!(decide ((h0.Stages.length:Int)<=40000))||Au .i64 (1402560-(h0.Stages.length:Int))) <|
 bd (gd (decide ((h0.Stages.length:Int)<=40000)) (ET h0.From 0 (1402560-(h0.Stages.length:Int)))) fun r1 =>
 bd (gd (bif (decide ((h0.Stages.length:Int)<=40000)) then r1 else false) (PE h0.Stages (fun a0=>P3 a0))) fun r2 =>
 some (bif (bif (decide ((h0.Stages.length:Int)<=40000)) then r1 else false) then(!r2) else false)
def Ir :((List UInt8)×(List UInt8))->Option (((List UInt8)×(List UInt8))⊕(List UInt8)):=fun s=>match s with
 |(x5,y6) =>
  ite' (!decide (y6=[])) (
   bd (Kj x5 y6) fun r3 =>
   some (.inl (y6,r3.R))
   ) (
   some (.inr x5)
   )
def Ml(a0:List UInt8)(b1:List UInt8):Option ((List UInt8)) :=
 bd (Jw a0) fun r1 =>
 bd (Jw b1) fun r2 =>
 bd (lp (Ir) (r1,r2))<|fun x5 =>
 some x5
def GR(az:Bool)(b2:List UInt8)(au:List UInt8):Option (Af) :=
 bd (Jw b2) fun r1 =>
 ite' (decide (r1=[])) (
  some (Af.mk false [] [])
  ) (
  bd (Ml r1 au) fun r2 =>
  bd (Kj r1 r2) fun r3 =>
  bd (Kj au r2) fun r4 =>
  some (Af.mk az r3.Q r4.Q)
  )
def PS(ax0:List Int)(y1:List Int):Int->Option (Int⊕(Unit⊕Int)):=fun s=>match s with
 |k6 =>
  ite' (decide (0<=k6)) (
   bd (at? ax0 k6) fun x1 =>
   bd (at? y1 k6) fun x2 =>
   bd (Mj x1 x2) fun r2 =>
   ite' (!decide (r2=0)) (
    some (.inr (.inr r2))
    ) (
    ck (Au .i64 (k6-1)) <|
    some (.inl (k6-1))
    )
   ) (
   some (.inr (.inl ()))
   )
def yzf(ax0:List Int)(y1:List Int):Option (Int) :=
 bd (Mi (ax0.length:Int) (y1.length:Int)) fun r1 =>
 ite' (!decide (r1=0)) (
  some r1
  ) (
  ck (Au .i64 ((ax0.length:Int)-1)) <|
  bd (lp (PS ax0 y1) ((ax0.length:Int)-1))<|fun o=>match o with
  | .inl ()=>(
    some 0
   )
  | .inr o=>(
    some o
   )
  )
def yze(ax0:List Int)(ai:Int):Option ((List Int)) :=
 ite' (decide (ai<0)) (
  ck (Au .i64 (-ai)) <|
  ck (decide (0<=(-ai))) <|
  bd (Iq ax0 ((1*2 ^ min (Int.toNat (-ai)) 32)%4294967296)) fun r1 =>
  some r1.1
  ) (
  ck (decide (0<=ai)) <|
  bd (GP ax0 [((1*2 ^ min (Int.toNat ai) 32)%4294967296)]) fun r2 =>
  some r2
  )
def Mm(a0:List UInt8):Option ((List UInt8)) :=
 bd (PR a0 [0]) fun r1 =>
 some r1
def GD(out:List Ao)(x:Ao):Option (List Ao):=match out.getLast? with
 |none=>some [x]
 |some a=>bd (GC a x) fun p=>some (bif p.2 then out.dropLast++[p.1] else out++[x])
def ofL(f:Int):Int->List Int->List Ao->Option (List Ao)
 |_,[],out=>some out
 |k,s :: l,out=>ck (Au .i64 (f+k)&&Au .i64 (f+k+1))<|bd (DY (f+k) (f+k+1) s) fun x=>bd (GD out x) fun out=>ofL f (k+1) l out
def EN(h0:AU):Option (List Ao×Int) :=
 bd (DX h0) fun b=>ite' (!b) (some ([],1)) <|
 bd (ofL h0.From 0 h0.Stages []) fun out=>ite' (decide (2000<(out.length:Int))) (some ([],2)) (some (out,0))
def Mn(x3:Ao):(Int×(List (Int×Int)))->Option ((Int×(List (Int×Int)))⊕(List (Int×Int))):=fun s=>match s with
 |(t60,m2) =>
  ite' (decide (t60<(x3.Table.length:Int))) (
   bd (at? x3.Table t60) fun x4 =>
   ck (Au .i64 (t60+1)) <|
   some (.inl ((t60+1),(mput keqI m2 x4.Stage x4.Ticks)))
   ) (
   some (.inr m2)
   )
def PT(h1:AU)(x3:Ao):(Int×(List (Int×Int)))->Option ((Int×(List (Int×Int)))⊕((List (Int×Int))⊕Bool)):=fun s=>match s with
 |(t84,m2') =>
  ite' (decide (t84<(List.length (sub h1.Stages (x3.From-h1.From) (x3.To-h1.From)):Int))) (
   bd (at? (sub h1.Stages (x3.From-h1.From) (x3.To-h1.From)) t84) fun x5 =>
   bd (ES x3) fun r3 =>
   bd (gd r3 (ET x5 x3.Lo x3.Hi)) fun r4 =>
   bd (gd (!(bif r3 then(!r4) else false)) (ES x3)) fun r5 =>
   ite' (bif (bif r3 then(!r4) else false) then true else(bif (!r5) then(decide ((Option.getD (mget keqI m2' x5) 0)=0)) else false)) (
    some (.inr (.inr false))
    ) (
    ck (Au .i64 ((Option.getD (mget keqI m2' x5) 0)-1)) <|
    ck (Au .i64 (t84+1)) <|
    some (.inl ((t84+1),(mput keqI m2' x5 ((Option.getD (mget keqI m2' x5) 0)-1))))
    )
   ) (
   some (.inr (.inl m2'))
   )
def Mo(h1:AU)(l0:List Ao):Int->Option (Int⊕(Unit⊕Bool)):=fun s=>match s with
 |t52 =>
  ite' (decide (t52<(l0.length:Int))) (
   bd (at? l0 t52) fun x3 =>
   bd (lp (Mn x3) (0,([]:List (Int×Int))))<|fun m2 =>
   ck (Au .i64 (x3.From-h1.From)) <|
   ck (Au .i64 (x3.To-h1.From)) <|
   ck (C3 h1.Stages (x3.From-h1.From) (x3.To-h1.From)) <|
   bd (lp (PT h1 x3) (0,m2))<|fun o=>match o with
   | .inl m2'=>(
     ck (Au .i64 (t52+1)) <|
     some (.inl (t52+1))
    )
   | .inr o=>(
     some (.inr (.inr o))
    )
   ) (
   some (.inr (.inl ()))
   )
def GS(l0:List Ao)(h1:AU):Option (Bool) :=
 bd (Kf l0) fun r1 =>
 bd (gd (!(!decide (r1=0))) (DX h1)) fun r2 =>
 ite' (bif (!decide (r1=0)) then true else(!r2)) (
  some false
  ) (
  ite' (decide ((l0.length:Int)=0)) (
   some (decide ((h1.Stages.length:Int)=0))
   ) (
   bd (at? l0 0) fun x1 =>
   ck (!(!(!decide (h1.From=x1.From)))||Au .i64 ((l0.length:Int)-1)) <|
   bd (gd (!(!decide (h1.From=x1.From))) (at? l0 ((l0.length:Int)-1))) fun x2 =>
   ck (!(!(!decide (h1.From=x1.From)))||Au .i64 (x2.To-h1.From)) <|
   ite' (bif (!decide (h1.From=x1.From)) then true else(!decide ((h1.Stages.length:Int)=(x2.To-h1.From)))) (
    some false
    ) (
    bd (lp (Mo h1 l0) 0)<|fun o=>match o with
    | .inl ()=>(
      some true
     )
    | .inr o=>(
      some o
     )
    )
   )
  )
def PU(a0:Af):Option (Bool) :=
 ite' (bif (decide (a0.Num=[])) then true else(decide (a0.Den=[]))) (
  some ((a0.Neg==false)&&(decide (a0.Num=[])&&(decide (a0.Den=[])&&true)))
  ) (
  bd (Me a0.Num) fun r1 =>
  bd (Me a0.Den) fun r2 =>
  bd (gd (bif r1 then r2 else false) (Ml a0.Num a0.Den)) fun r3 =>
  some (bif (bif r1 then r2 else false) then(decide (r3=[1])) else false)
  )
def PW(al:Int)(ag:Int):Option (F3) :=
 bd (LX al) fun r1 =>
 bd (LX ag) fun r2 =>
 ite' (bif (!r1) then true else(!r2)) (
  some (F3.mk (Af.mk false [] []) 3)
  ) (
  ite' (decide (ag=0)) (
   some (F3.mk (Af.mk false [] []) 1)
   ) (
   bd (Mg al) fun r3 =>
   bd (Mg ag) fun r4 =>
   bd (GR (!((decide (al<0))==(decide (ag<0)))) r3 r4) fun r5 =>
   some (F3.mk r5 0)
   )
  )
def GT(a0:Af):Option (Af) :=
 bd (PU a0) fun r1 =>
 ite' r1 (
  some a0
  ) (
  some (Af.mk false [] [])
  )
def Mp(y1:List Int):Int->Option (Int⊕Int):=fun s=>match s with
 |aa =>
  ck (Au .i64 ((y1.length:Int)-1)) <|
  bd (at? y1 ((y1.length:Int)-1)) fun x2 =>
  ck (decide (0<=aa)) <|
  ite' (decide (((x2*2 ^ min (Int.toNat aa) 32)%4294967296)<2147483648)) (
   ck (Au .i64 (aa+1)) <|
   some (.inl (aa+1))
   ) (
   some (.inr aa)
   )
def Mq(j13:Int)(a6:List Int)(r4:(List Int)):(Int×Int)->Option ((Int×Int)⊕Int):=fun s=>match s with
 |(a2,ab) =>
  ck (!(decide (ab<4294967296))||Au .i64 ((r4.length:Int)-2)) <|
  bd (gd (decide (ab<4294967296)) (at? r4 ((r4.length:Int)-2))) fun x7 =>
  ck (!(decide (ab<4294967296))||Au .i64 (j13+(r4.length:Int))) <|
  ck (!(decide (ab<4294967296))||Au .i64 ((j13+(r4.length:Int))-2)) <|
  bd (gd (decide (ab<4294967296)) (at? a6 ((j13+(r4.length:Int))-2))) fun x8 =>
  ite' (bif (decide (ab<4294967296)) then(decide ((bitI .or .u64 ((ab*4294967296)%18446744073709551616) (x8%18446744073709551616))<((a2*(x7%18446744073709551616))%18446744073709551616))) else false) (
   ck (Au .i64 ((r4.length:Int)-1)) <|
   bd (at? r4 ((r4.length:Int)-1)) fun x9 =>
   some (.inl (((a2-1)%18446744073709551616),((ab+(x9%18446744073709551616))%18446744073709551616)))
   ) (
   some (.inr a2)
   )
def PX(j13:Int)(a6:List Int)(r4:(List Int)):(Int×(List Int))->Option ((Int×(List Int))⊕(Int×(List Int))):=fun s=>match s with
 |(a2',ac) =>
  bd (F4 (sub a6 j13 ((j13+(r4.length:Int))+1))) fun r8 =>
  bd (GM r8) fun r9 =>
  bd (yzf r9 ac) fun r10 =>
  ite' (decide (r10<0)) (
   bd (GQ ac r4) fun r11 =>
   some (.inl (((a2'-1)%18446744073709551616),r11))
   ) (
   some (.inr (a2',ac))
   )
def Is(r4:(List Int)):(Int×(List Int)×(List Int))->Option ((Int×(List Int)×(List Int))⊕((List Int)×(List Int))):=fun s=>match s with
 |(j13,a6,l3) =>
  ite' (decide (0<=j13)) (
   ck (Au .i64 (j13+(r4.length:Int))) <|
   bd (at? a6 (j13+(r4.length:Int))) fun x3 =>
   ck (Au .i64 (j13+(r4.length:Int))) <|
   ck (Au .i64 ((j13+(r4.length:Int))-1)) <|
   bd (at? a6 ((j13+(r4.length:Int))-1)) fun x4 =>
   ck (Au .i64 ((r4.length:Int)-1)) <|
   bd (at? r4 ((r4.length:Int)-1)) fun x5 =>
   ck (!decide ((x5%18446744073709551616)=0)) <|
   ck (Au .i64 ((r4.length:Int)-1)) <|
   bd (at? r4 ((r4.length:Int)-1)) fun x6 =>
   bd (lp (Mq j13 a6 r4) ((min (((bitI .or .u64 (((x3%18446744073709551616)*4294967296)%18446744073709551616) (x4%18446744073709551616)).tdiv (x5%18446744073709551616))%18446744073709551616) 4294967295),(((bitI .or .u64 (((x3%18446744073709551616)*4294967296)%18446744073709551616) (x4%18446744073709551616))-(((min (((bitI .or .u64 (((x3%18446744073709551616)*4294967296)%18446744073709551616) (x4%18446744073709551616)).tdiv (x5%18446744073709551616))%18446744073709551616) 4294967295)*(x6%18446744073709551616))%18446744073709551616))%18446744073709551616)))<|fun a2 =>
   bd (α:=Unit⊕Unit) (
    ite' (decide (a2=0)) (
     some (.inr ())
     ) (
     some (.inl ())
     )
   )<|fun o=>match o with
    | .inl ()=>(
      ck (Au .i64 (j13+(r4.length:Int))) <|
      ck (Au .i64 ((j13+(r4.length:Int))+1)) <|
      ck (C3 a6 j13 ((j13+(r4.length:Int))+1)) <|
      bd (GP r4 [(a2%4294967296)]) fun r7 =>
      bd (lp (PX j13 a6 r4) (a2,r7))<|fun(a2',ac) =>
      bd (F4 (sub a6 j13 ((j13+(r4.length:Int))+1))) fun r12 =>
      bd (GM r12) fun r13 =>
      bd (GQ r13 ac) fun r14 =>
      ck (C3 a6 j13 ((j13+(r4.length:Int))+1)) <|
      ck (C3 (Bx a6 (Int.toNat j13) (List.replicate (Int.toNat (((j13+(r4.length:Int))+1)-j13)) 0)) j13 ((j13+(r4.length:Int))+1)) <|
      bd (at? l3 j13) fun x10 =>
      ck (Au .i64 (j13-1)) <|
      some (.inl ((j13-1),(Bx (Bx a6 (Int.toNat j13) (List.replicate (Int.toNat (((j13+(r4.length:Int))+1)-j13)) 0)) (Int.toNat j13) (List.take (Int.toNat (((j13+(r4.length:Int))+1)-j13)) r14)),(List.set l3 (Int.toNat j13) (a2'%4294967296))))
     )
    | .inr ()=>(
      ck (Au .i64 (j13-1)) <|
      some (.inl ((j13-1),a6,l3))
     )
   ) (
   some (.inr (a6,l3))
   )
def EM(ax0:List Int)(y1:List Int):Option ((List Int)×(List Int)) :=
 bd (yzf ax0 y1) fun r1 =>
 ite' (decide (r1<0)) (
  some ([],ax0)
  ) (
  ite' (decide ((y1.length:Int)=1)) (
   bd (at? y1 0) fun x1 =>
   bd (Iq ax0 x1) fun r2 =>
   bd (GM [r2.2]) fun r3 =>
   some (r2.1,r3)
   ) (
   bd (lp (Mp y1) 0)<|fun aa =>
   bd (yze y1 aa) fun r4 =>
   bd (yze ax0 aa) fun r5 =>
   bd (F4 r5) fun r6 =>
   ck (decide (List.length (r6++[0,0])*4<=140737488355328)) <|
   ck (Au .i64 ((ax0.length:Int)-(r4.length:Int))) <|
   ck (Au .i64 (((ax0.length:Int)-(r4.length:Int))+2)) <|
   ck (mkOk (((ax0.length:Int)-(r4.length:Int))+2) 4) <|
   ck (Au .i64 ((List.length (r6++[0,0]):Int)-(r4.length:Int))) <|
   ck (Au .i64 (((List.length (r6++[0,0]):Int)-(r4.length:Int))-1)) <|
   bd (lp (Is r4) ((((List.length (r6++[0,0]):Int)-(r4.length:Int))-1),(r6++[0,0]),(List.replicate (Int.toNat (((ax0.length:Int)-(r4.length:Int))+2)) 0)))<|fun(a6,l3) =>
   bd (GM l3) fun r15 =>
   bd (GM a6) fun r16 =>
   ck (Au .i64 (-aa)) <|
   bd (yze r16 (-aa)) fun r17 =>
   some (r15,r17)
   )
  )
def PY(ax0:List Int):(Int×(List Int))->Option ((Int×(List Int))⊕(List Int)):=fun s=>match s with
 |(t8,l1) =>
  ite' (decide (t8<(ax0.length:Int))) (
   bd (at? ax0 t8) fun x1 =>
   ck (decide (List.length (l1++[(x1%256),((Int.fdiv x1 256)%256),((Int.fdiv x1 65536)%256),((Int.fdiv x1 16777216)%256)])*1<=140737488355328)) <|
   ck (Au .i64 (t8+1)) <|
   some (.inl ((t8+1),(l1++[(x1%256),((Int.fdiv x1 256)%256),((Int.fdiv x1 65536)%256),((Int.fdiv x1 16777216)%256)])))
   ) (
   some (.inr l1)
   )
def Ie(ax0:List Int):Option ((List UInt8)) :=
 bd (lp (PY ax0) (0,[]))<|fun l1 =>
 bd (Ic l1) fun r1 =>
 bd (Mm (BS r1)) fun r2 =>
 some r2
def FE(a0:List UInt8)(b1:List UInt8):Option ((List UInt8)) :=
 bd (Gn a0) fun r1 =>
 bd (Gn b1) fun r2 =>
 bd (GP r1 r2) fun r3 =>
 bd (Ie r3) fun r4 =>
 some r4
def Mr(a0:List UInt8)(b1:List UInt8):Option ((List UInt8)) :=
 bd (Gn a0) fun r1 =>
 bd (Gn b1) fun r2 =>
 bd (Ki r1 r2) fun r3 =>
 bd (Ie r3) fun r4 =>
 some r4
def Ms(a0:List UInt8)(b1:List UInt8):Option (Int) :=
 bd (Gn a0) fun r1 =>
 bd (Gn b1) fun r2 =>
 bd (yzf r1 r2) fun r3 =>
 some r3
def Mt(a0:List UInt8)(b1:List UInt8):Option ((List UInt8)×Int) :=
 bd (Gn a0) fun r1 =>
 bd (Gn b1) fun r2 =>
 bd (yzf r1 r2) fun r3 =>
 ite' (decide (r3<0)) (
  some ([],3)
  ) (
  bd (GQ r1 r2) fun r4 =>
  bd (Ie r4) fun r5 =>
  some (r5,0)
  )
def Mu(n0:Int):Option ((List UInt8)×Int) :=
 ite' (decide (n0<0)) (
  some ([],3)
  ) (
  bd (GM [(n0%4294967296),((Int.fdiv n0 4294967296)%4294967296)]) fun r1 =>
  bd (Ie r1) fun r2 =>
  some (r2,0)
  )
def Ig:(List Int×List Int)->Option ((List Int×List Int)⊕List Int):=fun s=>match s with
 |(x,y)=>ite' (decide ((y.length:Int)=0)) (some (.inr x)) (bd (EM x y) fun r=>some (.inl (y,r.2)))
def GB(a0:List UInt8)(b1:List UInt8):Option (List UInt8) :=
 bd (Gn a0) fun x =>
 bd (Gn b1) fun y =>
 bd (lp Ig (x,y)) fun r =>
 Ie r
def It(a0:Af):Option (Bool) :=
 ite' ((a0.Neg==false)&&(decide (a0.Num=[])&&(decide (a0.Den=[])&&true))) (
  some true
  ) (
  bd (gd (bif (!decide (a0.Num=[])) then(!decide (a0.Den=[])) else false) (JW a0.Num)) fun r1 =>
  bd (gd (bif (bif (!decide (a0.Num=[])) then(!decide (a0.Den=[])) else false) then r1 else false) (JW a0.Den)) fun r2 =>
  bd (gd (bif (bif (bif (!decide (a0.Num=[])) then(!decide (a0.Den=[])) else false) then r1 else false) then r2 else false) (GB a0.Num a0.Den)) fun r3 =>
  some (bif (bif (bif (bif (!decide (a0.Num=[])) then(!decide (a0.Den=[])) else false) then r1 else false) then r2 else false) then(decide (r3=[1])) else false)
  )
def PZ(a0:Af):Option (Af) :=
 bd (GT a0) fun r1 =>
 ite' (!decide (r1.Num=[])) (
  some (Af.mk (!r1.Neg) r1.Num r1.Den)
  ) (
  some r1
  )
def Ee(a0:Af):Option (AX) :=
 bd (gd (!(decide (a0.Num=[]))) (It a0)) fun r1 =>
 ite' (bif (decide (a0.Num=[])) then true else(!r1)) (
  some (AX.mk false [] [1])
  ) (
  some (AX.mk a0.Neg a0.Num a0.Den)
  )
def Kk(f0:AX)(g1:AX):Option (AX) :=
 bd (FE f0.num g1.num) fun r1 =>
 bd (FE f0.den g1.den) fun r2 =>
 some (AX.mk (!(f0.neg==g1.neg)) r1 r2)
def Kl(f0:AX)(g1:AX):Option (AX) :=
 bd (FE f0.num g1.den) fun r1 =>
 bd (FE g1.num f0.den) fun r2 =>
 bd (FE f0.den g1.den) fun r3 =>
 ite' (f0.neg==g1.neg) (
  bd (Mr r1 r2) fun r4 =>
  some (AX.mk f0.neg r4 r3)
  ) (
  bd (Ms r1 r2) fun r5 =>
  bd (α:=(List UInt8)×(List UInt8)×AX) (
   ite' (decide (r5<0)) (
    some (r2,r1,(AX.mk g1.neg f0.num f0.den))
    ) (
    some (r1,r2,f0)
    )
  )<|fun(a5,b6,b0) =>
   bd (Mt a5 b6) fun r6 =>
   some (AX.mk b0.neg r6.1 r3)
  )
def Iu(n0:Int):Option (AX) :=
 ck (Au .i64 (-n0)) <|
 bd (Mu (max n0 (-n0))) fun r1 =>
 some (AX.mk (decide (n0<0)) r1.1 [1])
def Qa(a0:Af)(b1:Af):Option (Af) :=
 bd (GT a0) fun r1 =>
 bd (GT b1) fun r2 =>
 bd (Io r1) fun r3 =>
 bd (Io r2) fun r4 =>
 bd (GO r3.1 r4.1) fun r5 =>
 bd (GO r3.2 r4.2) fun r6 =>
 bd (GR (!(r1.Neg==r2.Neg)) r5 r6) fun r7 =>
 some r7
def Mv(a0:Af)(b1:Af):Option (Af) :=
 bd (GT a0) fun r1 =>
 bd (GT b1) fun r2 =>
 bd (Io r1) fun r3 =>
 bd (Io r2) fun r4 =>
 bd (GO r3.1 r4.2) fun r5 =>
 bd (GO r4.1 r3.2) fun r6 =>
 bd (GO r3.2 r4.2) fun r7 =>
 ite' (r1.Neg==r2.Neg) (
  bd (PJ r5 r6) fun r8 =>
  bd (GR r1.Neg r8 r7) fun r9 =>
  some r9
  ) (
  bd (Kg r5 r6) fun r10 =>
  ite' (decide (0<=r10)) (
   bd (Kh r5 r6) fun r11 =>
   bd (GR r1.Neg r11.S r7) fun r12 =>
   some r12
   ) (
   bd (Kh r6 r5) fun r13 =>
   bd (GR r2.Neg r13.S r7) fun r14 =>
   some r14
   )
  )
def Km(a0:List UInt8)(b1:List UInt8):Option ((List UInt8)×(List UInt8)×Int) :=
 bd (Gn a0) fun r1 =>
 bd (Gn b1) fun r2 =>
 ite' (decide ((r2.length:Int)=0)) (
  some ([],[],1)
  ) (
  bd (EM r1 r2) fun r3 =>
  bd (Ie r3.1) fun r4 =>
  bd (Ie r3.2) fun r5 =>
  some (r4,r5,0)
  )
def Qb(a0:Af):Option (Bool) :=
 bd (It a0) fun r1 =>
 some (bif r1 then(!a0.Neg) else false)
def Qc(a0:Af)(b1:Af):Option (Af) :=
 bd (PZ b1) fun r1 =>
 bd (Mv a0 r1) fun r2 =>
 some r2
def Mw(f0:AX)(g1:AX):Option (AX) :=
 bd (Kk f0 (AX.mk g1.neg g1.den g1.num)) fun r1 =>
 some r1
def Iv(f0:AX)(g1:AX):Option (AX) :=
 bd (Kl f0 (AX.mk (!g1.neg) g1.num g1.den)) fun r1 =>
 some r1
def yz1(f0:AX):Option (Af) :=
 ite' (decide (f0.num=[])) (
  some (Af.mk false [] [])
  ) (
  bd (GB f0.num f0.den) fun r1 =>
  bd (Km f0.num r1) fun r2 =>
  bd (Km f0.den r1) fun r3 =>
  some (Af.mk f0.neg r2.1 r3.1)
  )
def EU(op0:AX->Option AX)(b1:Af):Option (Af) :=
 bd (Ee b1) fun r1 =>
 bd (op0 r1) fun r2 =>
 bd (yz1 r2) fun r3 =>
 some r3
def ER(a0:Af):Option (Af) :=
 bd (EU (fun a0=>Iv (AX.mk false [] [1]) a0) a0) fun r1 =>
 some r1
def De(a0:Af)(b1:Af):Option (Af) :=
 bd (Ee a0) fun r1 =>
 bd (EU (fun a0=>Iv r1 a0) b1) fun r2 =>
 some r2
def Kn(al:Int)(ag:Int):Option (Af×Int) :=
 bd (In al) fun r1 =>
 bd (gd (!(!r1)) (In ag)) fun r2 =>
 ite' (bif (!r1) then true else(!r2)) (
  some ((Af.mk false [] []),3)
  ) (
  ite' (decide (ag=0)) (
   some ((Af.mk false [] []),1)
   ) (
   bd (Iu al) fun r3 =>
   bd (Iu ag) fun r4 =>
   bd (Mw r3 r4) fun r5 =>
   bd (yz1 r5) fun r6 =>
   some (r6,0)
   )
  )
def F7(a0:Af)(b1:Af):Option (Int) :=
 bd (Ee a0) fun r1 =>
 bd (Ee b1) fun r2 =>
 bd (Iv r1 r2) fun r3 =>
 ite' (decide (r3.num=[])) (
  some 0
  ) (
  ite' r3.neg (
   some (-1)
   ) (
   some 1
   )
  )
def Dd(a0:Af)(b1:Af):Option (Af) :=
 bd (Ee a0) fun r1 =>
 bd (EU (fun a0=>Kk r1 a0) b1) fun r2 =>
 some r2
def Cp(a0:Af)(b1:Af):Option (Af) :=
 bd (Ee a0) fun r1 =>
 bd (EU (fun a0=>Kl r1 a0) b1) fun r2 =>
 some r2
def Dc(n0:Int):Option (Af) :=
 bd (In n0) fun r1 =>
 ite' (!r1) (
  some (Af.mk false [] [])
  ) (
  bd (Iu n0) fun r2 =>
  bd (yz1 r2) fun r3 =>
  some r3
  )
def Qd :Option (Bg) :=
 bd (Dc 10) fun r1 =>
 some (Bg.mk [(Bw.mk 0 (Af.mk false [] [])),(Bw.mk 10 r1)])
def Qe(ac0:Bg):Int->Option (Int⊕(Unit⊕Int)):=fun s=>match s with
 |t18 =>
  ite' (decide (t18<(ac0.Points.length:Int))) (
   bd (at? ac0.Points t18) fun x1 =>
   bd (P6 x1.Stage) fun r1 =>
   ite' (!r1) (
    some (.inr (.inr 3))
    ) (
    bd (Qb x1.Flow) fun r2 =>
    ite' (!r2) (
     some (.inr (.inr 1))
     ) (
     ck (!(decide (0<t18))||Au .i64 (t18-1)) <|
     bd (gd (decide (0<t18)) (at? ac0.Points (t18-1))) fun x2 =>
     ck (!((decide (0<t18))&&(!(decide (x1.Stage<=x2.Stage))))||Au .i64 (t18-1)) <|
     bd (gd ((decide (0<t18))&&(!(decide (x1.Stage<=x2.Stage)))) (at? ac0.Points (t18-1))) fun x3 =>
     bd (gd ((decide (0<t18))&&(!(decide (x1.Stage<=x2.Stage)))) (F7 x1.Flow x3.Flow)) fun r3 =>
     ite' (bif (decide (0<t18)) then(bif (decide (x1.Stage<=x2.Stage)) then true else(decide (r3<0))) else false) (
      some (.inr (.inr 1))
      ) (
      ck (Au .i64 (t18+1)) <|
      some (.inl (t18+1))
      )
     )
    )
   ) (
   some (.inr (.inl ()))
   )
def Ko(ac0:Bg):Option (Int) :=
 ite' (bif (decide ((ac0.Points.length:Int)<1)) then true else(decide (16<(ac0.Points.length:Int)))) (
  some 2
  ) (
  bd (lp (Qe ac0) 0)<|fun o=>match o with
  | .inl ()=>(
    some 0
   )
  | .inr o=>(
    some o
   )
  )
def Mx(ac0:Bg)(a3:Int):Option (Af) :=
 bd (Jv (ac0.Points.length:Int) (fun a0=>Kd a0 ac0 a3)) fun r1 =>
 ite' (decide (r1=0)) (
  some (Af.mk false [] [])
  ) (
  ck (Au .i64 (r1-1)) <|
  bd (at? ac0.Points (r1-1)) fun x1 =>
  ite' (decide (r1=(ac0.Points.length:Int))) (
   some x1.Flow
   ) (
   bd (at? ac0.Points r1) fun x2 =>
   ck (Au .i64 (a3-x1.Stage)) <|
   ck (Au .i64 (x2.Stage-x1.Stage)) <|
   bd (Kn (a3-x1.Stage) (x2.Stage-x1.Stage)) fun r2 =>
   bd (De x2.Flow x1.Flow) fun r3 =>
   bd (Dd r2.1 r3) fun r4 =>
   bd (Cp x1.Flow r4) fun r5 =>
   some r5
   )
  )
def Yr :Option ((List Ao)×(List Al)) :=
 bd (Dc 1) fun r1 =>
 bd (Qd ) fun r2 =>
 bd (Dc 2) fun r3 =>
 bd (Qd ) fun r4 =>
 some ([(Ao.mk 0 4 [(AM.mk 1 2),(AM.mk 5 1),(AM.mk 9 1)] 0 0),(Ao.mk 4 6 [] 2 3)],[(Al.mk 0 2 r1 0 r2),(Al.mk 3 5 r3 0 r4)])
def Kp(as0:Al):Option (Bool) :=
 ite' (bif (bif (bif (bif (decide (as0.From<0)) then true else(decide (as0.To<=as0.From))) then true else(decide (1402560<as0.To))) then true else(decide (as0.Datum<(-1000)))) then true else(decide (1000<as0.Datum))) (
  some false
  ) (
  bd (It as0.Weight) fun r1 =>
  bd (gd r1 (Ko as0.Curve)) fun r2 =>
  some (bif r1 then(decide (r2=0)) else false)
  )
def My(ac0:Bg)(a3:Int):Option (Af) :=
 bd (Ko ac0) fun r1 =>
 ite' (!decide (r1=0)) (
  some (Af.mk false [] [])
  ) (
  bd (Mx ac0 a3) fun r2 =>
  some r2
  )
def Qf(l0:List Al):(Int×Int)->Option ((Int×Int)⊕(Unit⊕Int)):=fun s=>match s with
 |(aw,t11) =>
  ite' (decide (t11<(l0.length:Int))) (
   bd (at? l0 t11) fun x1 =>
   bd (Kp x1) fun r1 =>
   ite' (bif (!r1) then true else(decide (x1.From<aw))) (
    some (.inr (.inr 1))
    ) (
    ck (Au .i64 (t11+1)) <|
    some (.inl (x1.To,(t11+1)))
    )
   ) (
   some (.inr (.inl ()))
   )
def EO(l0:List Al):Option (Int) :=
 ite' (decide (400<(l0.length:Int))) (
  some 2
  ) (
  bd (lp (Qf l0) (0,0))<|fun o=>match o with
  | .inl ()=>(
    some 0
   )
  | .inr o=>(
    some o
   )
  )
def Dt(as0:Al)(a3:Int):Option (Af) :=
 ck (Au .i64 (a3+as0.Datum)) <|
 bd (My as0.Curve (a3+as0.Datum)) fun r1 =>
 bd (Dd as0.Weight r1) fun r2 =>
 some r2
def F6:List Int->List (Int×Int)->Option (List (Int×Int))
 |[],m=>some m
 |s :: l,m=>ck (Au .i64 (Option.getD (mget keqI m s) 0+1)) (F6 l (mput keqI m s (Option.getD (mget keqI m s) 0+1)))
def B7(s:Al):List (Int×Int)->Af->Option Af
 |[],r=>some r
 |p :: l,r=>bd (Dc p.2) fun a=>bd (Dt s p.1) fun b=>bd (Dd a b) fun c=>bd (Cp r c) fun r=>B7 s l r
def insA{α:Type}(x:α):List α->List (List α)
 |[]=>[[x]]
 |y :: l=>(x :: y :: l) :: (insA x l).map (y :: ·)
def JP{α:Type}:List α->List (List α)
 |[]=>[[]]
 |x :: l=>(JP l).flatMap (insA x)
def eqR:Option Af->Option Af->Bool
 |some a,some b=>a.Neg==b.Neg&&(decide (a.Num=b.Num)&&decide (a.Den=b.Den))
 |_,_=>false
def F5(s:Al)(m:List (Int×Int))(r:Af):Option Af:=bif (JP m).all (fun m'=>eqR (B7 s m' r) (B7 s m r)) then B7 s m r else none
def vaL(h:AU):List Al->Af->Option (Af×Int)
 |[],r=>some (r,0)
 |s :: l,r=>ck (Au .i64 (h.From+(h.Stages.length:Int)))<|ite' (bif decide (s.From<h.From) then true else decide (h.From+(h.Stages.length:Int)<s.To)) (some (Af.mk false [] [],19)) <|
  ck (Au .i64 (s.From-h.From)&&Au .i64 (s.To-h.From)&&C3 h.Stages (s.From-h.From) (s.To-h.From)) <|
  bd (F6 (sub h.Stages (s.From-h.From) (s.To-h.From)) []) fun m=>bd (F5 s m r) fun r=>vaL h l r
def D4(h0:AU)(l1:List Al):Option (Af×Int) :=
 bd (EO l1) fun e=>ite' (!decide (e=0)) (some (Af.mk false [] [],e)) <|
 bd (EN h0) fun p=>ite' (!decide (p.2=0)) (some (Af.mk false [] [],1)) <|
 vaL h0 l1 (Af.mk false [] [])
def Ef(l0:List Ao)(a1:List Al):Option (Int) :=
 bd (Kf l0) fun r1 =>
 ite' (!decide (r1=0)) (
  some r1
  ) (
  bd (EO a1) fun r2 =>
  ite' (!decide (r2=0)) (
   some r2
   ) (
   bd (gd ((decide (0<(a1.length:Int)))&&(!(decide ((l0.length:Int)=0)))) (at? a1 0)) fun x1 =>
   bd (gd ((decide (0<(a1.length:Int)))&&(!(decide ((l0.length:Int)=0)))) (at? l0 0)) fun x2 =>
   ck (!((decide (0<(a1.length:Int)))&&(!(bif (decide ((l0.length:Int)=0)) then true else(decide (x1.From<x2.From)))))||Au .i64 ((a1.length:Int)-1)) <|
   bd (gd ((decide (0<(a1.length:Int)))&&(!(bif (decide ((l0.length:Int)=0)) then true else(decide (x1.From<x2.From))))) (at? a1 ((a1.length:Int)-1))) fun x3 =>
   ck (!((decide (0<(a1.length:Int)))&&(!(bif (decide ((l0.length:Int)=0)) then true else(decide (x1.From<x2.From)))))||Au .i64 ((l0.length:Int)-1)) <|
   bd (gd ((decide (0<(a1.length:Int)))&&(!(bif (decide ((l0.length:Int)=0)) then true else(decide (x1.From<x2.From))))) (at? l0 ((l0.length:Int)-1))) fun x4 =>
   ite' (bif (decide (0<(a1.length:Int))) then(bif (bif (decide ((l0.length:Int)=0)) then true else(decide (x1.From<x2.From))) then true else(decide (x4.To<x3.To))) else false) (
    some 19
    ) (
    some 0
    )
   )
  )
def Qg(l0:List Ao)(a1:List Al)(k2:Int):Option ((List A9)×Int) :=
 bd (Ef l0 a1) fun r1 =>
 ite' (!decide (r1=0)) (
  some ([],r1)
  ) (
  ite' (bif (decide (k2<0)) then true else(decide ((l0.length:Int)<=k2))) (
   some ([],1)
   ) (
   bd (at? l0 k2) fun x1 =>
   bd (Ij x1 a1) fun r2 =>
   some (r2,0)
   )
  )
def Mz(as0:Al)(a3:Int):Option (Af×Int) :=
 bd (Kp as0) fun r1 =>
 ite' (!r1) (
  some ((Af.mk false [] []),1)
  ) (
  ite' (bif (decide (a3<0)) then true else(decide (1000<a3))) (
   some ((Af.mk false [] []),3)
   ) (
   bd (Dt as0 a3) fun r2 =>
   some (r2,0)
   )
  )
def GJ(ar:Int)(a3:Int)(c0:List Al)(c1:Bool):Option (Af) :=
 ite' (decide (ar<0)) (
  some (Af.mk false [] [])
  ) (
  bd (at? c0 ar) fun x1 =>
  bd (Mz x1 a3) fun r1 =>
  ite' c1 (
   bd (ER r1.1) fun r2 =>
   some r2
   ) (
   some r1.1
   )
  )
def forN{G:Type}(f:G->Nat->Option G):Nat->Nat->G->Option G
 |0,_,s=>some s
 |m+1,k,s=>bd (f s k) fun s=>forN f m (k+1) s
def bigF:Nat:=2 ^ 4096
def lpB{G ω:Type}(body:G->Option (G⊕ω))(s:G):Option ω:=lpN body bigF s
def GG(rate:Int->Int->Option Af)(st:Int):List A9->Option (List Af)
 |[]=>some []
 |c :: l=>bd (rate c.Span st) fun a=>bd (GG rate st l) fun r=>some (a :: r)
def GF:(Int×Int×List Int×List Int)->Option ((Int×Int×List Int×List Int)⊕(Int×List Int×List Int)):=fun s=>match s with
 | (n,at0,left,row)=>ite' (decide (0<n)) (
   bd (at? left at0) fun la=>ite' (decide (la=0)) (ck (Au .i64 (at0+1))<|some (.inl (n,at0+1,left,row))) <|
   bd (at? row at0) fun xa=>ck (Au .i64 (xa+min n la)&&Au .i64 (la-min n la)&&Au .i64 (n-min n la)) <|
   some (.inl (n-min n la,at0,left.set at0.toNat (la-min n la),row.set at0.toNat (xa+min n la)))) (some (.inr (at0,left,row)))
def bgL(rate:Int->Int->Option Af)(cl:List A9):List AM->Int->List Int->List (List Af)->List (List Int)->Option (List (List Af)×List (List Int))
 |[],_,_,co,x=>some (co,x)
 |h :: t,at0,left,co,x=>bd (GG rate h.Stage cl) fun c=>bd (lp GF (h.Ticks,at0,left,List.replicate cl.length 0)) fun r=>bgL rate cl t r.1 r.2.1 (co++[c]) (x++[r.2.2])
def FB(r:Ao)(spans:List Al)(rate:Int->Int->Option Af):Option (List A9×List (List Af)×List (List Int)) :=
 bd (Ij r spans) fun cl=>ck (decide (0<cl.length)&&decide (cl.length<=1000000)&&decide (r.Table.length<=1000000)) <|
 bd (bgL rate cl r.Table 0 (cl.map (·.Ticks)) [] []) fun p=>some (cl,p.1,p.2)
def imS(co:List (List Af))(x:List (List Int))(a b:Nat)(m:Int×Af)(s:Nat):Option (Int×Af) :=
 bd (at? co (s:Int)) fun cs=>bd (at? cs (b:Int)) fun cb=>bd (at? cs (a:Int)) fun ca=>bd (De cb ca) fun d =>
 bd (at? x (s:Int)) fun xs=>bd (at? xs (a:Int)) fun xa =>
 ite' (decide (0<xa)) (ite' (decide (m.1<0)) (some ((s:Int),d)) (bd (F7 d m.2) fun q=>ite' (decide (q<0)) (some ((s:Int),d)) (some m))) (some m)
def imM(co:List (List Af))(x:List (List Int))(a b:Nat):Option (Int×Af):=forN (imS co x a b) x.length 0 (-1,Af.mk false [] [])
def Ii(co:List (List Af))(x:List (List Int))(n a:Nat):Option (List (Int×Af)):=forN (fun l b=>bd (imM co x a b) fun m=>some (l++[m])) n 0 []
def imMv(co:List (List Af))(x:List (List Int))(n:Nat):Option (List (List (Int×Af))):=forN (fun l a=>bd (Ii co x n a) fun r=>some (l++[r])) n 0 []
def imE(mv:List (List (Int×Af)))(a:Nat)(s:List Af×List Int×Int)(b:Nat):Option (List Af×List Int×Int) :=
 bd (at? mv (a:Int)) fun row=>bd (at? row (b:Int)) fun m =>
 ite' (bif !decide ((a:Int)=(b:Int)) then decide (0<=m.1) else false) (
  bd (at? s.1 (a:Int)) fun da=>bd (Cp da m.2) fun e=>bd (at? s.1 (b:Int)) fun db=>bd (F7 e db) fun q =>
  ite' (decide (q<0)) (some (s.1.set b e,s.2.1.set b (a:Int),(b:Int))) (some s)) (some s)
def JR(mv:List (List (Int×Af)))(n:Nat)(d:List Af)(f:List Int):Option (List Af×List Int×Int):=forN (fun s a=>forN (imE mv a) n 0 s) n 0 (d,f,-1)
def imPs(mv:List (List (Int×Af)))(n:Nat):Nat->List Af->List Int->Int->Option (Option (List Int×Int))
 |0,_,f,c=>some (some (f,c))
 |k+1,d,f,_=>bd (JR mv n d f) fun r=>ite' (decide (r.2.2<0)) (some none) (imPs mv n k r.1 r.2.1 r.2.2)
def imG(mv:List (List (Int×Af)))(f:List Int)(b:Int):Option (Int×Int):=bd (at? f b) fun a=>bd (at? mv a) fun row=>bd (at? row b) fun m=>some (a,m.1)
def Ea(mv:List (List (Int×Af)))(x:List (List Int))(f:List Int)(at0:Int):(Int×Bool×Int)->Option ((Int×Bool×Int)⊕Int):=fun s=>match s with
 | (b,begun,most)=>ite' (bif !begun then true else !decide (b=at0)) (
   bd (imG mv f b) fun g=>bd (at? x g.2) fun xs=>bd (at? xs g.1) fun xa=>some (.inl (g.1,true,min most xa))) (some (.inr most))
def Eb(mv:List (List (Int×Af)))(f:List Int)(at0 most:Int):(Int×Bool×List (List Int))->Option ((Int×Bool×List (List Int))⊕List (List Int)):=fun s=>match s with
 | (b,begun,x)=>ite' (bif !begun then true else !decide (b=at0)) (
   bd (imG mv f b) fun g=>bd (at? x g.2) fun xs=>bd (at? xs g.1) fun xa=>ck (Au .i64 (xa-most))<|bd (at? (xs.set g.1.toNat (xa-most)) b) fun xb=>ck (Au .i64 (xb+most)) <|
   some (.inl (g.1,true,x.set g.2.toNat ((xs.set g.1.toNat (xa-most)).set b.toNat (xb+most))))) (some (.inr x))
def GE(co:List (List Af))(n:Nat):(List (List Int)×List Int)->Option ((List (List Int)×List Int)⊕List (List Int)):=fun s=>match s with
 |(x,f)=>bd (imMv co x n) fun mv=>bd (imPs mv n (n+1) (List.replicate n (Af.mk false [] [])) f (-1)) fun o=>match o with
  |none=>some (.inr x)
  |some (f,c)=>bd (forN (fun(at0:Int) (_:Nat)=>at? f at0) n 0 c) fun at0 =>
   bd (lp (Ea mv x f at0) (at0,false,1402560)) fun most=>bd (lp (Eb mv f at0 most) (at0,false,x)) fun x=>some (.inl (x,f))
def F9(co:List (List Af))(x:List (List Int))(n:Nat):Option (List (List Int)):=lpB (GE co n) (x,List.replicate n 0)
def Bp(m:List (Int×List Int))(k s:Int):List (Int×List Int):=mput keqI m k (Option.getD (mget keqI m k) []++[s])
def Ed(rate:Int->Int->Option Af)(r:Ao):List A9->List (Int×List Int)->Af->Option (List (Int×List Int)×Af)
 |[],m,q=>some (m,q)
 |c :: l,m,q=>bd (rate c.Span r.Hi) fun a=>bd (rate c.Span r.Lo) fun b=>bd (F7 a b) fun e =>
  bd (forN (fun m (_:Nat)=>some (Bp m c.Span (bif decide (e<0) then r.Hi else r.Lo))) c.Ticks.toNat 0 m) fun m =>
  bd (Dc c.Ticks) fun i=>bd (rate c.Span (bif decide (e<0) then r.Hi else r.Lo)) fun g=>bd (Dd i g) fun p=>bd (Cp q p) fun q=>Ed rate r l m q
def D5(h:AM):List A9->List Af->List Int->List (Int×List Int)->Af->Option (List (Int×List Int)×Af)
 |c :: cl,g :: co,n :: x,m,q=>bd (forN (fun m (_:Nat)=>some (Bp m c.Span h.Stage)) n.toNat 0 m) fun m =>
  bd (Dc n) fun i=>bd (Dd i g) fun p=>bd (Cp q p) fun q=>D5 h cl co x m q
 |_,_,[],m,q=>some (m,q)
 |_,_,_,_,_=>none
def D6(cl:List A9):List AM->List (List Af)->List (List Int)->List (Int×List Int)->Af->Option (List (Int×List Int)×Af)
 |h :: t,co :: cs,x :: xs,m,q=>bd (D5 h cl co x m q) fun r=>D6 cl t cs xs r.1 r.2
 |_,_,[],m,q=>some (m,q)
 |_,_,_,_,_=>none
def enAt(spans:List Al)(t:Int):Option Int:=bd (Jv (spans.length:Int) (fun a0=>FC a0 spans t)) fun k =>
 bd (gd (!decide (k=(spans.length:Int))) (at? spans k)) fun x=>some (bif (bif decide (k=(spans.length:Int)) then true else decide (t<x.From)) then -1 else k)
def EP(spans:List Al)(a8 to0:Int):(Int×List (Int×List Int)×List Int)->Option ((Int×List (Int×List Int)×List Int)⊕List Int):=fun s=>match s with
 | (t,m,out)=>ite' (decide (t<to0)) (
   bd (enAt spans t) fun k=>bd (mget keqI m k) fun l=>match l with
   |[]=>none
   | s :: l=>ck (Au .i64 (t-a8)&&(decide (0<=t-a8)&&decide (t-a8<(out.length:Int)))&&Au .i64 (t+1))<|some (.inl (t+1,mput keqI m k l,out.set (t-a8).toNat s))) (some (.inr out))
def EQ(spans:List Al)(rate:Int->Int->Option Af)(a8:Int):List Ao->Af->List Int->Option (Af×List Int)
 |[],q,out=>some (q,out)
 | r :: l,q,out=>bd (ite' (decide ((r.Table.length:Int)=0)) (bd (Ij r spans) fun cl=>ck (decide (cl.length<=1000000))<|Ed rate r cl [] q)
   (bd (FB r spans rate) fun b=>bd (F9 b.2.1 b.2.2 b.1.length) fun x=>D6 b.1 r.Table b.2.1 x [] q)) fun p =>
  ck (p.1.all fun e=>decide ((e.2.length:Int)<=1000000000))<|bd (lp (EP spans a8 r.To) (r.From,p.1,out)) fun out=>EQ spans rate a8 l p.2 out
def GL(l0:List Ao)(a1:List Al)(ap:Bool):Option (Af×AU) :=
 bd (gd (decide (0<(l0.length:Int))) (at? l0 0)) fun a=>bd (gd (decide (0<(l0.length:Int))) (at? l0 ((l0.length:Int)-1))) fun z =>
 ck (decide ((l0.length:Int)<=1000000000)&&(!decide (0<(l0.length:Int))||(Au .i64 (z.To-a.From)&&decide (0<=z.To-a.From)&&decide (z.To-a.From<=1000000000)))) <|
 bd (EQ a1 (fun s t=>GJ s t a1 ap) (bif decide (0<(l0.length:Int)) then a.From else 0) l0 (Af.mk false [] []) (bif decide (0<(l0.length:Int)) then List.replicate (z.To-a.From).toNat 0 else [])) fun r =>
 bd (ite' ap (ER r.1) (some r.1)) fun q=>some (q,AU.mk (bif decide (0<(l0.length:Int)) then a.From else 0) r.2)
def EV(l0:List Ao)(a1:List Al):Option (Af×AU×Int) :=
 bd (Ef l0 a1) fun r1 =>
 ite' (!decide (r1=0)) (
  some ((Af.mk false [] []),(AU.mk 0 []),r1)
  ) (
  bd (GL l0 a1 false) fun r2 =>
  some (r2.1,r2.2,0)
  )
def FF(l0:List Ao)(a1:List Al):Option (Af×AU×Int) :=
 bd (Ef l0 a1) fun r1 =>
 ite' (!decide (r1=0)) (
  some ((Af.mk false [] []),(AU.mk 0 []),r1)
  ) (
  bd (GL l0 a1 true) fun r2 =>
  some (r2.1,r2.2,0)
  )
def FG(l0:List Ao)(a1:List Al):Option (Fq×Int) :=
 bd (EV l0 a1) fun r1 =>
 bd (FF l0 a1) fun r2 =>
 ite' (bif (!decide (r1.2.2=0)) then true else(!decide (r2.2.2=0))) (
  some ((Fq.mk (Af.mk false [] []) (Af.mk false [] [])),r1.2.2)
  ) (
  some ((Fq.mk r1.1 r2.1),0)
  )
def GU :Option (Bool) :=
 bd (Yr ) fun r1 =>
 bd (Qg r1.1 r1.2 0) fun r2 =>
 bd (Qg r1.1 r1.2 1) fun r3 =>
 bd (EV r1.1 r1.2) fun r4 =>
 bd (FF r1.1 r1.2) fun r5 =>
 bd (FG r1.1 r1.2) fun r6 =>
 bd (EN (AU.mk 0 [1,5,1,9,2,3])) fun r7 =>
 bd (FG r7.1 r1.2) fun r8 =>
 ite' (bif (bif (bif (bif (bif (bif (bif (bif (!decide (r2.2=0)) then true else(!decide (r3.2=0))) then true else(!decide (r4.2.2=0))) then true else(!decide (r5.2.2=0))) then true else(!decide (r6.2=0))) then true else(!decide (r7.2=0))) then true else(!decide (r8.2=0))) then true else(!decide ((r2.1.length:Int)=3))) then true else(!decide ((r3.1.length:Int)=2))) (
  some false
  ) (
  bd (D4 r4.2.1 r1.2) fun r9 =>
  bd (D4 r5.2.1 r1.2) fun r10 =>
  bd (at? r2.1 0) fun x1 =>
  bd (gd (decide (x1.Span=0)&&(decide (x1.Ticks=2)&&true)) (at? r2.1 1)) fun x2 =>
  bd (gd (bif (decide (x1.Span=0)&&(decide (x1.Ticks=2)&&true)) then(decide (x2.Span=1)&&(decide (x2.Ticks=1)&&true)) else false) (at? r2.1 2)) fun x3 =>
  bd (gd (bif (bif (decide (x1.Span=0)&&(decide (x1.Ticks=2)&&true)) then(decide (x2.Span=1)&&(decide (x2.Ticks=1)&&true)) else false) then(decide (x3.Span=(-1))&&(decide (x3.Ticks=1)&&true)) else false) (at? r3.1 0)) fun x4 =>
  bd (gd (bif (bif (bif (decide (x1.Span=0)&&(decide (x1.Ticks=2)&&true)) then(decide (x2.Span=1)&&(decide (x2.Ticks=1)&&true)) else false) then(decide (x3.Span=(-1))&&(decide (x3.Ticks=1)&&true)) else false) then(decide (x4.Span=1)&&(decide (x4.Ticks=1)&&true)) else false) (at? r3.1 1)) fun x5 =>
  bd (Dc 12) fun r11 =>
  bd (gd ((r4.1.Neg==r11.Neg)&&(decide (r4.1.Num=r11.Num)&&(decide (r4.1.Den=r11.Den)&&true))) (Dc 30)) fun r12 =>
  bd (gd (bif (bif ((r4.1.Neg==r11.Neg)&&(decide (r4.1.Num=r11.Num)&&(decide (r4.1.Den=r11.Den)&&true))) then((r5.1.Neg==r12.Neg)&&(decide (r5.1.Num=r12.Num)&&(decide (r5.1.Den=r12.Den)&&true))) else false) then((r6.1.Lo.Neg==r4.1.Neg)&&(decide (r6.1.Lo.Num=r4.1.Num)&&(decide (r6.1.Lo.Den=r4.1.Den)&&((r6.1.Hi.Neg==r5.1.Neg)&&(decide (r6.1.Hi.Num=r5.1.Num)&&(decide (r6.1.Hi.Den=r5.1.Den)&&true)))))) else false) (GS r1.1 r4.2.1)) fun r13 =>
  bd (gd (bif (bif (bif ((r4.1.Neg==r11.Neg)&&(decide (r4.1.Num=r11.Num)&&(decide (r4.1.Den=r11.Den)&&true))) then((r5.1.Neg==r12.Neg)&&(decide (r5.1.Num=r12.Num)&&(decide (r5.1.Den=r12.Den)&&true))) else false) then((r6.1.Lo.Neg==r4.1.Neg)&&(decide (r6.1.Lo.Num=r4.1.Num)&&(decide (r6.1.Lo.Den=r4.1.Den)&&((r6.1.Hi.Neg==r5.1.Neg)&&(decide (r6.1.Hi.Num=r5.1.Num)&&(decide (r6.1.Hi.Den=r5.1.Den)&&true)))))) else false) then r13 else false) (GS r1.1 r5.2.1)) fun r14 =>
  bd (gd (bif (bif (bif (bif (bif (decide (x1.Span=0)&&(decide (x1.Ticks=2)&&true)) then(decide (x2.Span=1)&&(decide (x2.Ticks=1)&&true)) else false) then(decide (x3.Span=(-1))&&(decide (x3.Ticks=1)&&true)) else false) then(decide (x4.Span=1)&&(decide (x4.Ticks=1)&&true)) else false) then(decide (x5.Span=(-1))&&(decide (x5.Ticks=1)&&true)) else false) then(bif (bif (bif (bif (bif (bif (bif (bif ((r4.1.Neg==r11.Neg)&&(decide (r4.1.Num=r11.Num)&&(decide (r4.1.Den=r11.Den)&&true))) then((r5.1.Neg==r12.Neg)&&(decide (r5.1.Num=r12.Num)&&(decide (r5.1.Den=r12.Den)&&true))) else false) then((r6.1.Lo.Neg==r4.1.Neg)&&(decide (r6.1.Lo.Num=r4.1.Num)&&(decide (r6.1.Lo.Den=r4.1.Den)&&((r6.1.Hi.Neg==r5.1.Neg)&&(decide (r6.1.Hi.Num=r5.1.Num)&&(decide (r6.1.Hi.Den=r5.1.Den)&&true)))))) else false) then r13 else false) then r14 else false) then((r9.1.Neg==r4.1.Neg)&&(decide (r9.1.Num=r4.1.Num)&&(decide (r9.1.Den=r4.1.Den)&&true))) else false) then((r10.1.Neg==r5.1.Neg)&&(decide (r10.1.Num=r5.1.Num)&&(decide (r10.1.Den=r5.1.Den)&&true))) else false) then(decide (r9.2=0)) else false) then(decide (r10.2=0)) else false) else false) (Dc 28)) fun r15 =>
  bd (gd (bif (bif (bif (bif (bif (decide (x1.Span=0)&&(decide (x1.Ticks=2)&&true)) then(decide (x2.Span=1)&&(decide (x2.Ticks=1)&&true)) else false) then(decide (x3.Span=(-1))&&(decide (x3.Ticks=1)&&true)) else false) then(decide (x4.Span=1)&&(decide (x4.Ticks=1)&&true)) else false) then(decide (x5.Span=(-1))&&(decide (x5.Ticks=1)&&true)) else false) then(bif (bif (bif (bif (bif (bif (bif (bif ((r4.1.Neg==r11.Neg)&&(decide (r4.1.Num=r11.Num)&&(decide (r4.1.Den=r11.Den)&&true))) then((r5.1.Neg==r12.Neg)&&(decide (r5.1.Num=r12.Num)&&(decide (r5.1.Den=r12.Den)&&true))) else false) then((r6.1.Lo.Neg==r4.1.Neg)&&(decide (r6.1.Lo.Num=r4.1.Num)&&(decide (r6.1.Lo.Den=r4.1.Den)&&((r6.1.Hi.Neg==r5.1.Neg)&&(decide (r6.1.Hi.Num=r5.1.Num)&&(decide (r6.1.Hi.Den=r5.1.Den)&&true)))))) else false) then r13 else false) then r14 else false) then((r9.1.Neg==r4.1.Neg)&&(decide (r9.1.Num=r4.1.Num)&&(decide (r9.1.Den=r4.1.Den)&&true))) else false) then((r10.1.Neg==r5.1.Neg)&&(decide (r10.1.Num=r5.1.Num)&&(decide (r10.1.Den=r5.1.Den)&&true))) else false) then(decide (r9.2=0)) else false) then(decide (r10.2=0)) else false) else false) (Dc 28)) fun r16 =>
  bd (gd (bif (bif (bif (bif (bif (bif (decide (x1.Span=0)&&(decide (x1.Ticks=2)&&true)) then(decide (x2.Span=1)&&(decide (x2.Ticks=1)&&true)) else false) then(decide (x3.Span=(-1))&&(decide (x3.Ticks=1)&&true)) else false) then(decide (x4.Span=1)&&(decide (x4.Ticks=1)&&true)) else false) then(decide (x5.Span=(-1))&&(decide (x5.Ticks=1)&&true)) else false) then(bif (bif (bif (bif (bif (bif (bif (bif ((r4.1.Neg==r11.Neg)&&(decide (r4.1.Num=r11.Num)&&(decide (r4.1.Den=r11.Den)&&true))) then((r5.1.Neg==r12.Neg)&&(decide (r5.1.Num=r12.Num)&&(decide (r5.1.Den=r12.Den)&&true))) else false) then((r6.1.Lo.Neg==r4.1.Neg)&&(decide (r6.1.Lo.Num=r4.1.Num)&&(decide (r6.1.Lo.Den=r4.1.Den)&&((r6.1.Hi.Neg==r5.1.Neg)&&(decide (r6.1.Hi.Num=r5.1.Num)&&(decide (r6.1.Hi.Den=r5.1.Den)&&true)))))) else false) then r13 else false) then r14 else false) then((r9.1.Neg==r4.1.Neg)&&(decide (r9.1.Num=r4.1.Num)&&(decide (r9.1.Den=r4.1.Den)&&true))) else false) then((r10.1.Neg==r5.1.Neg)&&(decide (r10.1.Num=r5.1.Num)&&(decide (r10.1.Den=r5.1.Den)&&true))) else false) then(decide (r9.2=0)) else false) then(decide (r10.2=0)) else false) else false) then((r8.1.Lo.Neg==r15.Neg)&&(decide (r8.1.Lo.Num=r15.Num)&&(decide (r8.1.Lo.Den=r15.Den)&&((r8.1.Hi.Neg==r16.Neg)&&(decide (r8.1.Hi.Num=r16.Num)&&(decide (r8.1.Hi.Den=r16.Den)&&true)))))) else false) (Ef r1.1 r1.2)) fun r17 =>
  ck (!(bif (bif (bif (bif (bif (bif (bif (decide (x1.Span=0)&&(decide (x1.Ticks=2)&&true)) then(decide (x2.Span=1)&&(decide (x2.Ticks=1)&&true)) else false) then(decide (x3.Span=(-1))&&(decide (x3.Ticks=1)&&true)) else false) then(decide (x4.Span=1)&&(decide (x4.Ticks=1)&&true)) else false) then(decide (x5.Span=(-1))&&(decide (x5.Ticks=1)&&true)) else false) then(bif (bif (bif (bif (bif (bif (bif (bif ((r4.1.Neg==r11.Neg)&&(decide (r4.1.Num=r11.Num)&&(decide (r4.1.Den=r11.Den)&&true))) then((r5.1.Neg==r12.Neg)&&(decide (r5.1.Num=r12.Num)&&(decide (r5.1.Den=r12.Den)&&true))) else false) then((r6.1.Lo.Neg==r4.1.Neg)&&(decide (r6.1.Lo.Num=r4.1.Num)&&(decide (r6.1.Lo.Den=r4.1.Den)&&((r6.1.Hi.Neg==r5.1.Neg)&&(decide (r6.1.Hi.Num=r5.1.Num)&&(decide (r6.1.Hi.Den=r5.1.Den)&&true)))))) else false) then r13 else false) then r14 else false) then((r9.1.Neg==r4.1.Neg)&&(decide (r9.1.Num=r4.1.Num)&&(decide (r9.1.Den=r4.1.Den)&&true))) else false) then((r10.1.Neg==r5.1.Neg)&&(decide (r10.1.Num=r5.1.Num)&&(decide (r10.1.Den=r5.1.Den)&&true))) else false) then(decide (r9.2=0)) else false) then(decide (r10.2=0)) else false) else false) then((r8.1.Lo.Neg==r15.Neg)&&(decide (r8.1.Lo.Num=r15.Num)&&(decide (r8.1.Lo.Den=r15.Den)&&((r8.1.Hi.Neg==r16.Neg)&&(decide (r8.1.Hi.Num=r16.Num)&&(decide (r8.1.Hi.Den=r16.Den)&&true)))))) else false) then(decide (r17=0)) else false)||(C3 r1.1 0 1)) <|
  bd (gd (bif (bif (bif (bif (bif (bif (bif (decide (x1.Span=0)&&(decide (x1.Ticks=2)&&true)) then(decide (x2.Span=1)&&(decide (x2.Ticks=1)&&true)) else false) then(decide (x3.Span=(-1))&&(decide (x3.Ticks=1)&&true)) else false) then(decide (x4.Span=1)&&(decide (x4.Ticks=1)&&true)) else false) then(decide (x5.Span=(-1))&&(decide (x5.Ticks=1)&&true)) else false) then(bif (bif (bif (bif (bif (bif (bif (bif ((r4.1.Neg==r11.Neg)&&(decide (r4.1.Num=r11.Num)&&(decide (r4.1.Den=r11.Den)&&true))) then((r5.1.Neg==r12.Neg)&&(decide (r5.1.Num=r12.Num)&&(decide (r5.1.Den=r12.Den)&&true))) else false) then((r6.1.Lo.Neg==r4.1.Neg)&&(decide (r6.1.Lo.Num=r4.1.Num)&&(decide (r6.1.Lo.Den=r4.1.Den)&&((r6.1.Hi.Neg==r5.1.Neg)&&(decide (r6.1.Hi.Num=r5.1.Num)&&(decide (r6.1.Hi.Den=r5.1.Den)&&true)))))) else false) then r13 else false) then r14 else false) then((r9.1.Neg==r4.1.Neg)&&(decide (r9.1.Num=r4.1.Num)&&(decide (r9.1.Den=r4.1.Den)&&true))) else false) then((r10.1.Neg==r5.1.Neg)&&(decide (r10.1.Num=r5.1.Num)&&(decide (r10.1.Den=r5.1.Den)&&true))) else false) then(decide (r9.2=0)) else false) then(decide (r10.2=0)) else false) else false) then((r8.1.Lo.Neg==r15.Neg)&&(decide (r8.1.Lo.Num=r15.Num)&&(decide (r8.1.Lo.Den=r15.Den)&&((r8.1.Hi.Neg==r16.Neg)&&(decide (r8.1.Hi.Num=r16.Num)&&(decide (r8.1.Hi.Den=r16.Den)&&true)))))) else false) then(decide (r17=0)) else false) (Ef (sub r1.1 0 1) r1.2)) fun r18 =>
  some (bif (bif (bif (bif (bif (bif (bif (bif (decide (x1.Span=0)&&(decide (x1.Ticks=2)&&true)) then(decide (x2.Span=1)&&(decide (x2.Ticks=1)&&true)) else false) then(decide (x3.Span=(-1))&&(decide (x3.Ticks=1)&&true)) else false) then(decide (x4.Span=1)&&(decide (x4.Ticks=1)&&true)) else false) then(decide (x5.Span=(-1))&&(decide (x5.Ticks=1)&&true)) else false) then(bif (bif (bif (bif (bif (bif (bif (bif ((r4.1.Neg==r11.Neg)&&(decide (r4.1.Num=r11.Num)&&(decide (r4.1.Den=r11.Den)&&true))) then((r5.1.Neg==r12.Neg)&&(decide (r5.1.Num=r12.Num)&&(decide (r5.1.Den=r12.Den)&&true))) else false) then((r6.1.Lo.Neg==r4.1.Neg)&&(decide (r6.1.Lo.Num=r4.1.Num)&&(decide (r6.1.Lo.Den=r4.1.Den)&&((r6.1.Hi.Neg==r5.1.Neg)&&(decide (r6.1.Hi.Num=r5.1.Num)&&(decide (r6.1.Hi.Den=r5.1.Den)&&true)))))) else false) then r13 else false) then r14 else false) then((r9.1.Neg==r4.1.Neg)&&(decide (r9.1.Num=r4.1.Num)&&(decide (r9.1.Den=r4.1.Den)&&true))) else false) then((r10.1.Neg==r5.1.Neg)&&(decide (r10.1.Num=r5.1.Num)&&(decide (r10.1.Den=r5.1.Den)&&true))) else false) then(decide (r9.2=0)) else false) then(decide (r10.2=0)) else false) else false) then((r8.1.Lo.Neg==r15.Neg)&&(decide (r8.1.Lo.Num=r15.Num)&&(decide (r8.1.Lo.Den=r15.Den)&&((r8.1.Hi.Neg==r16.Neg)&&(decide (r8.1.Hi.Num=r16.Num)&&(decide (r8.1.Hi.Den=r16.Den)&&true)))))) else false) then(decide (r17=0)) else false) then(decide (r18=19)) else false)
  )
def Qh(l0:List Ao)(a1:List Al):Option (Bool) :=
 bd (Mk l0 a1 100) fun r1 =>
 ite' (!r1) (
  bd (GU ) fun r2 =>
  some r2
  ) (
  bd (EV l0 a1) fun r3 =>
  bd (FF l0 a1) fun r4 =>
  bd (FG l0 a1) fun r5 =>
  bd (gd (!(bif (!decide (r3.2.2=r4.2.2)) then true else(!decide (r4.2.2=r5.2)))) (Ef l0 a1)) fun r6 =>
  ite' (bif (bif (!decide (r3.2.2=r4.2.2)) then true else(!decide (r4.2.2=r5.2))) then true else(!decide (r3.2.2=r6))) (
   some false
   ) (
   ite' (!decide (r3.2.2=0)) (
    bd (GU ) fun r7 =>
    ck (!(bif (bif (bif r7 then((r5.1.Lo.Neg==false)&&(decide (r5.1.Lo.Num=[])&&(decide (r5.1.Lo.Den=[])&&((r5.1.Hi.Neg==false)&&(decide (r5.1.Hi.Num=[])&&(decide (r5.1.Hi.Den=[])&&true)))))) else false) then((r3.1.Neg==false)&&(decide (r3.1.Num=[])&&(decide (r3.1.Den=[])&&true))) else false) then((r4.1.Neg==false)&&(decide (r4.1.Num=[])&&(decide (r4.1.Den=[])&&true))) else false)||Au .i64 ((r3.2.1.Stages.length:Int)+(r4.2.1.Stages.length:Int))) <|
    some (bif (bif (bif (bif r7 then((r5.1.Lo.Neg==false)&&(decide (r5.1.Lo.Num=[])&&(decide (r5.1.Lo.Den=[])&&((r5.1.Hi.Neg==false)&&(decide (r5.1.Hi.Num=[])&&(decide (r5.1.Hi.Den=[])&&true)))))) else false) then((r3.1.Neg==false)&&(decide (r3.1.Num=[])&&(decide (r3.1.Den=[])&&true))) else false) then((r4.1.Neg==false)&&(decide (r4.1.Num=[])&&(decide (r4.1.Den=[])&&true))) else false) then(decide (((r3.2.1.Stages.length:Int)+(r4.2.1.Stages.length:Int))=0)) else false)
    ) (
    bd (D4 r3.2.1 a1) fun r8 =>
    bd (D4 r4.2.1 a1) fun r9 =>
    bd (GU ) fun r10 =>
    bd (gd (bif (bif (bif (bif (bif r10 then(decide (r8.2=0)) else false) then(decide (r9.2=0)) else false) then((r8.1.Neg==r3.1.Neg)&&(decide (r8.1.Num=r3.1.Num)&&(decide (r8.1.Den=r3.1.Den)&&true))) else false) then((r9.1.Neg==r4.1.Neg)&&(decide (r9.1.Num=r4.1.Num)&&(decide (r9.1.Den=r4.1.Den)&&true))) else false) then((r5.1.Lo.Neg==r3.1.Neg)&&(decide (r5.1.Lo.Num=r3.1.Num)&&(decide (r5.1.Lo.Den=r3.1.Den)&&((r5.1.Hi.Neg==r4.1.Neg)&&(decide (r5.1.Hi.Num=r4.1.Num)&&(decide (r5.1.Hi.Den=r4.1.Den)&&true)))))) else false) (GS l0 r3.2.1)) fun r11 =>
    bd (gd (bif (bif (bif (bif (bif (bif r10 then(decide (r8.2=0)) else false) then(decide (r9.2=0)) else false) then((r8.1.Neg==r3.1.Neg)&&(decide (r8.1.Num=r3.1.Num)&&(decide (r8.1.Den=r3.1.Den)&&true))) else false) then((r9.1.Neg==r4.1.Neg)&&(decide (r9.1.Num=r4.1.Num)&&(decide (r9.1.Den=r4.1.Den)&&true))) else false) then((r5.1.Lo.Neg==r3.1.Neg)&&(decide (r5.1.Lo.Num=r3.1.Num)&&(decide (r5.1.Lo.Den=r3.1.Den)&&((r5.1.Hi.Neg==r4.1.Neg)&&(decide (r5.1.Hi.Num=r4.1.Num)&&(decide (r5.1.Hi.Den=r4.1.Den)&&true)))))) else false) then r11 else false) (GS l0 r4.2.1)) fun r12 =>
    bd (gd (bif (bif (bif (bif (bif (bif (bif r10 then(decide (r8.2=0)) else false) then(decide (r9.2=0)) else false) then((r8.1.Neg==r3.1.Neg)&&(decide (r8.1.Num=r3.1.Num)&&(decide (r8.1.Den=r3.1.Den)&&true))) else false) then((r9.1.Neg==r4.1.Neg)&&(decide (r9.1.Num=r4.1.Num)&&(decide (r9.1.Den=r4.1.Den)&&true))) else false) then((r5.1.Lo.Neg==r3.1.Neg)&&(decide (r5.1.Lo.Num=r3.1.Num)&&(decide (r5.1.Lo.Den=r3.1.Den)&&((r5.1.Hi.Neg==r4.1.Neg)&&(decide (r5.1.Hi.Num=r4.1.Num)&&(decide (r5.1.Hi.Den=r4.1.Den)&&true)))))) else false) then r11 else false) then r12 else false) (F7 r3.1 r4.1)) fun r13 =>
    some (bif (bif (bif (bif (bif (bif (bif (bif r10 then(decide (r8.2=0)) else false) then(decide (r9.2=0)) else false) then((r8.1.Neg==r3.1.Neg)&&(decide (r8.1.Num=r3.1.Num)&&(decide (r8.1.Den=r3.1.Den)&&true))) else false) then((r9.1.Neg==r4.1.Neg)&&(decide (r9.1.Num=r4.1.Num)&&(decide (r9.1.Den=r4.1.Den)&&true))) else false) then((r5.1.Lo.Neg==r3.1.Neg)&&(decide (r5.1.Lo.Num=r3.1.Num)&&(decide (r5.1.Lo.Den=r3.1.Den)&&((r5.1.Hi.Neg==r4.1.Neg)&&(decide (r5.1.Hi.Num=r4.1.Num)&&(decide (r5.1.Hi.Den=r4.1.Den)&&true)))))) else false) then r11 else false) then r12 else false) then(decide (r13<=0)) else false)
    )
   )
  )
end Go.Am

