/- Part F1: the functions of this seat as functions of plain values. No condition. -/
import Derived.Test.YtibbibelkkgfpaaGreatDoorX1
set_option linter.unusedVariables false
namespace Go.Am
structure AM where
 Stage:Int
 Ticks:Int
deriving DecidableEq,Inhabited
structure Ao where
 From:Int
 To:Int
 Table:List AM
 Lo:Int
 Hi:Int
deriving DecidableEq,Inhabited
structure Af where
 Neg:Bool
 Num:List UInt8
 Den:List UInt8
deriving DecidableEq,Inhabited
structure Bw where
 Stage:Int
 Flow:Af
deriving DecidableEq,Inhabited
structure Bg where
 Points:List Bw
deriving DecidableEq,Inhabited
structure Al where
 From:Int
 To:Int
 Weight:Af
 Datum:Int
 Curve:Bg
deriving DecidableEq,Inhabited
structure AT where
 From:Int
 Stages:List Int
deriving DecidableEq,Inhabited
structure HW where
 At:Int
 By:Af
deriving DecidableEq,Inhabited
structure Jq where
 A:List Ao
 B:List Ao
deriving DecidableEq,Inhabited
structure HX where
 From:Int
 To:Int
deriving DecidableEq,Inhabited
structure HY where
 e0:Int
 e1:Int
deriving DecidableEq,Inhabited
structure AX where
 neg:Bool
 num:List UInt8
 den:List UInt8
deriving DecidableEq,Inhabited
structure A9 where
 Span:Int
 Ticks:Int
deriving DecidableEq,Inhabited
structure Jr where
 run:Ao
 classes:List A9
 cost:List (List Af)
 x:List (List Int)
deriving DecidableEq,Inhabited
structure Gk where
 Q:List UInt8
 R:List UInt8
 E:Int
deriving DecidableEq,Inhabited
structure EL where
 S:List UInt8
 E:Int
deriving DecidableEq,Inhabited
structure Fz where
 A:Af
 E:Int
deriving DecidableEq,Inhabited
structure Js where
 L:List Al
 E:Int
deriving DecidableEq,Inhabited
structure Jt where
 L:List A9
 E:Int
deriving DecidableEq,Inhabited
structure Fp where
 Lo:Af
 Hi:Af
deriving DecidableEq,Inhabited
structure HZ where
 B:Fp
 E:Int
deriving DecidableEq,Inhabited
def qz43(x y:AM):Bool:=(decide (x.Stage=y.Stage)&&(decide (x.Ticks=y.Ticks)&&true))
def qz60(x y:Af):Bool:=((x.Neg==y.Neg)&&(decide (x.Num=y.Num)&&(decide (x.Den=y.Den)&&true)))
def qz1r(x y:Bw):Bool:=(decide (x.Stage=y.Stage)&&((x.Flow.Neg==y.Flow.Neg)&&(decide (x.Flow.Num=y.Flow.Num)&&(decide (x.Flow.Den=y.Flow.Den)&&true))))
def qzyt(x y:HW):Bool:=(decide (x.At=y.At)&&((x.By.Neg==y.By.Neg)&&(decide (x.By.Num=y.By.Num)&&(decide (x.By.Den=y.By.Den)&&true))))
def qz1w(x y:HX):Bool:=(decide (x.From=y.From)&&(decide (x.To=y.To)&&true))
def qz29(x y:HY):Bool:=(decide (x.e0=y.e0)&&(decide (x.e1=y.e1)&&true))
def qzu7(x y:AX):Bool:=((x.neg==y.neg)&&(decide (x.num=y.num)&&(decide (x.den=y.den)&&true)))
def qz1u(x y:A9):Bool:=(decide (x.Span=y.Span)&&(decide (x.Ticks=y.Ticks)&&true))
def qzuk(x y:Gk):Bool:=(decide (x.Q=y.Q)&&(decide (x.R=y.R)&&(decide (x.E=y.E)&&true)))
def qzy2(x y:EL):Bool:=(decide (x.S=y.S)&&(decide (x.E=y.E)&&true))
def qzzm(x y:Fz):Bool:=((x.A.Neg==y.A.Neg)&&(decide (x.A.Num=y.A.Num)&&(decide (x.A.Den=y.A.Den)&&(decide (x.E=y.E)&&true))))
def qzyp(x y:Fp):Bool:=((x.Lo.Neg==y.Lo.Neg)&&(decide (x.Lo.Num=y.Lo.Num)&&(decide (x.Lo.Den=y.Lo.Den)&&((x.Hi.Neg==y.Hi.Neg)&&(decide (x.Hi.Num=y.Hi.Num)&&(decide (x.Hi.Den=y.Hi.Den)&&true))))))
def qzuj(x y:HZ):Bool:=((x.B.Lo.Neg==y.B.Lo.Neg)&&(decide (x.B.Lo.Num=y.B.Lo.Num)&&(decide (x.B.Lo.Den=y.B.Lo.Den)&&((x.B.Hi.Neg==y.B.Hi.Neg)&&(decide (x.B.Hi.Num=y.B.Hi.Num)&&(decide (x.B.Hi.Den=y.B.Hi.Den)&&(decide (x.E=y.E)&&true)))))))
def Ia(l:List Int):Option (List Int):=ck (decide (l.length<=4611686018427387904)) (some l.reverse)
def F0(l:List Int):Option (List Int):=ck (decide (0<l.length)&&decide (l.length*4<=140737488355328)) (some l)
def ET(ax0:Ao):Option (Bool) :=
 some (decide ((ax0.Table.length:Int)=0))
def EU(n0:Int)(lo1:Int)(jw:Int):Option (Bool) :=
 some (bif (decide (lo1<=n0)) then(decide (n0<=jw)) else false)
def JV(a0:List UInt8):Option (Bool) :=
 ck (!(!(decide (a0=[])))||(BR a0 0)) <|
 some (bif (decide (a0=[])) then true else(!decide ((Ct a0 0)=0)))
def DX(a8:Int)(to1:Int)(av:Int):Option (Ao) :=
 ck (Au .i64 (to1-a8)) <|
 some (Ao.mk a8 to1 [(AM.mk av (to1-a8))] 0 0)
def LU(ax0:Ao):Option (Bool) :=
 some (decide ((ax0.Table.length:Int)=1))
def LV(ax0:Ao):Int->Option (Int⊕(Unit⊕Int)):=fun s=>match s with
 |k3 =>
  ite' (decide (k3<(ax0.Table.length:Int))) (
   bd (at? ax0.Table k3) fun x1 =>
   ite' (bif (bif (bif (decide (x1.Stage<0)) then true else(decide (1000<x1.Stage))) then true else(decide (x1.Ticks<1))) then true else(decide (1402560<x1.Ticks))) (
    some (.inr (.inr 3))
    ) (
    ck (Au .i64 (k3+1)) <|
    some (.inl (k3+1))
    )
   ) (
   some (.inr (.inl ()))
   )
def P1(ax0:Ao):(Int×Int)->Option ((Int×Int)⊕(Int⊕Int)):=fun s=>match s with
 |(ae,k6) =>
  ite' (decide (k6<(ax0.Table.length:Int))) (
   ck (!(decide (0<k6))||Au .i64 (k6-1)) <|
   bd (gd (decide (0<k6)) (at? ax0.Table (k6-1))) fun x2 =>
   bd (gd (decide (0<k6)) (at? ax0.Table k6)) fun x3 =>
   ite' (bif (decide (0<k6)) then(decide (x3.Stage<=x2.Stage)) else false) (
    some (.inr (.inr 1))
    ) (
    bd (at? ax0.Table k6) fun x4 =>
    ck (Au .i64 (ae+x4.Ticks)) <|
    ck (Au .i64 (k6+1)) <|
    some (.inl ((ae+x4.Ticks),(k6+1)))
    )
   ) (
   some (.inr (.inl ae))
   )
def Ik(ax0:Ao):Option (Int) :=
 ite' (decide ((ax0.Table.length:Int)=0)) (
  ite' (bif (bif (decide (ax0.Lo<0)) then true else(decide (ax0.Hi<ax0.Lo))) then true else(decide (1000<ax0.Hi))) (
   some 3
   ) (
   some 0
   )
  ) (
  bd (lp (LV ax0) 0)<|fun o=>match o with
  | .inl ()=>(
    bd (lp (P1 ax0) (0,0))<|fun o=>match o with
    | .inl ae=>(
      ck (Au .i64 (ax0.To-ax0.From)) <|
      ite' (bif (bif (!decide (ae=(ax0.To-ax0.From))) then true else(!decide (ax0.Lo=0))) then true else(!decide (ax0.Hi=0))) (
       some 1
       ) (
       some 0
       )
     )
    | .inr o=>(
      some o
     )
   )
  | .inr o=>(
    some o
   )
  )
def P2(ac0:Bg):Int->Option (Int⊕(Unit⊕Bool)):=fun s=>match s with
 |k3 =>
  ite' (decide (k3<(ac0.Points.length:Int))) (
   bd (at? ac0.Points k3) fun x1 =>
   bd (gd (!(decide (12<(x1.Flow.Num.length:Int)))) (at? ac0.Points k3)) fun x2 =>
   ite' (bif (decide (12<(x1.Flow.Num.length:Int))) then true else(decide (12<(x2.Flow.Den.length:Int)))) (
    some (.inr (.inr false))
    ) (
    ck (Au .i64 (k3+1)) <|
    some (.inl (k3+1))
    )
   ) (
   some (.inr (.inl ()))
   )
def JW(ac0:Bg):Option (Bool) :=
 ite' (decide (20<(ac0.Points.length:Int))) (
  some false
  ) (
  bd (lp (P2 ac0) 0)<|fun o=>match o with
  | .inl ()=>(
    some true
   )
  | .inr o=>(
    some o
   )
  )
def Il(n0:Int):Option (Bool) :=
 some (bif (decide ((-999999999999999)<=n0)) then(decide (n0<=999999999999999)) else false)
def LW(ax0:Ao):Int->Option (Int⊕(Unit⊕Int)):=fun s=>match s with
 |t43 =>
  ite' (decide (t43<(ax0.Table.length:Int))) (
   bd (at? ax0.Table t43) fun x1 =>
   bd (EU x1.Stage 0 1000) fun r2 =>
   bd (gd (!(!r2)) (EU x1.Ticks 1 1402560)) fun r3 =>
   ite' (bif (!r2) then true else(!r3)) (
    some (.inr (.inr 3))
    ) (
    ck (Au .i64 (t43+1)) <|
    some (.inl (t43+1))
    )
   ) (
   some (.inr (.inl ()))
   )
def P3(ax0:Ao):(Int×Int)->Option ((Int×Int)⊕(Int⊕Int)):=fun s=>match s with
 |(ae,t61) =>
  ite' (decide (t61<(ax0.Table.length:Int))) (
   bd (at? ax0.Table t61) fun x2 =>
   ck (!(decide (0<t61))||Au .i64 (t61-1)) <|
   bd (gd (decide (0<t61)) (at? ax0.Table (t61-1))) fun x3 =>
   ite' (bif (decide (0<t61)) then(decide (x2.Stage<=x3.Stage)) else false) (
    some (.inr (.inr 1))
    ) (
    ck (Au .i64 (ae+x2.Ticks)) <|
    ck (Au .i64 (t61+1)) <|
    some (.inl ((ae+x2.Ticks),(t61+1)))
    )
   ) (
   some (.inr (.inl ae))
   )
def JX(ax0:Ao):Option (Int) :=
 ite' (bif (bif (decide (ax0.From<0)) then true else(decide (ax0.To<=ax0.From))) then true else(decide (1402560<ax0.To))) (
  some 3
  ) (
  bd (ET ax0) fun r1 =>
  ite' r1 (
   ite' (bif (bif (decide (ax0.Lo<0)) then true else(decide (ax0.Hi<ax0.Lo))) then true else(decide (1000<ax0.Hi))) (
    some 3
    ) (
    some 0
    )
   ) (
   bd (lp (LW ax0) 0)<|fun o=>match o with
   | .inl ()=>(
     bd (lp (P3 ax0) (0,0))<|fun o=>match o with
     | .inl ae=>(
       ck (Au .i64 (ax0.To-ax0.From)) <|
       ite' (bif (bif (!decide (ae=(ax0.To-ax0.From))) then true else(!decide (ax0.Lo=0))) then true else(!decide (ax0.Hi=0))) (
        some 1
        ) (
        some 0
        )
      )
     | .inr o=>(
       some o
      )
    )
   | .inr o=>(
     some o
    )
   )
  )
def JY(f1:Int->Option Bool):(Int×Int)->Option ((Int×Int)⊕Int):=fun s=>match s with
 |(i5,j6) =>
  ite' (decide (i5<j6)) (
   ck (Au .i64 (i5+j6)) <|
   ck (Au .i64 (Int.fdiv ((i5+j6)%18446744073709551616) 2)) <|
   bd (f1 (Int.fdiv ((i5+j6)%18446744073709551616) 2)) fun r1 =>
   ite' (!r1) (
    ck (Au .i64 ((Int.fdiv ((i5+j6)%18446744073709551616) 2)+1)) <|
    some (.inl (((Int.fdiv ((i5+j6)%18446744073709551616) 2)+1),j6))
    ) (
    some (.inl (i5,(Int.fdiv ((i5+j6)%18446744073709551616) 2)))
    )
   ) (
   some (.inr i5)
   )
def Ju(n0:Int)(f1:Int->Option Bool):Option (Int) :=
 bd (lp (JY f1) (0,n0))<|fun i5 =>
 some i5
def LX(k0:Int)(c0:List Al)(c1:Ao):Option (Bool) :=
 bd (at? c0 k0) fun x1 =>
 some (decide (c1.From<x1.To))
def F8(k0:Int)(c0:List Al)(c1:Int):Option (Bool) :=
 bd (at? c0 k0) fun x1 =>
 some (decide (c1<x1.To))
def P4(as0:Int):Option (Bool) :=
 bd (EU as0 0 1000) fun r1 =>
 some (!r1)
def Im(a0:Af):Option ((List UInt8)×(List UInt8)) :=
 ite' (decide (a0.Num=[])) (
  some ([],[1])
  ) (
  some (a0.Num,a0.Den)
  )
def LY(n0:Int):Option (Bool) :=
 some (bif (decide ((-999999999999999)<=n0)) then(decide (n0<=999999999999999)) else false)
def P5(f1:Int->Option Bool)(as0:List Int):Int->Option (Int⊕(Unit⊕Int)):=fun s=>match s with
 |t8 =>
  ite' (decide (t8<(as0.length:Int))) (
   bd (at? as0 t8) fun x1 =>
   bd (f1 x1) fun r1 =>
   ite' r1 (
    some (.inr (.inr t8))
    ) (
    ck (Au .i64 (t8+1)) <|
    some (.inl (t8+1))
    )
   ) (
   some (.inr (.inl ()))
   )
def LZ(as0:List Int)(f1:Int->Option Bool):Option (Int) :=
 bd (lp (P5 f1 as0) 0)<|fun o=>match o with
 | .inl ()=>(
   some (-1)
  )
 | .inr o=>(
   some o
  )
def P6 :(List Int)->Option ((List Int)⊕(List Int)):=fun s=>match s with
 |x0 =>
  ck (!(decide (0<(x0.length:Int)))||Au .i64 ((x0.length:Int)-1)) <|
  bd (gd (decide (0<(x0.length:Int))) (at? x0 ((x0.length:Int)-1))) fun x1 =>
  ite' (bif (decide (0<(x0.length:Int))) then(decide (x1=0)) else false) (
   ck (Au .i64 ((x0.length:Int)-1)) <|
   ck (C3 x0 0 ((x0.length:Int)-1)) <|
   some (.inl (sub x0 0 ((x0.length:Int)-1)))
   ) (
   some (.inr x0)
   )
def GJ(ax0:List Int):Option ((List Int)) :=
 bd (lp (P6) ax0)<|fun x0 =>
 some x0
def P7(aq:Int):Option (Bool) :=
 some (bif (decide ((-1000)<=aq)) then(decide (aq<=2000)) else false)
def P8(a0:List UInt8):Int->Option (Int⊕Int):=fun s=>match s with
 |k3 =>
  ck (!(decide (k3<(a0.length:Int)))||(BR a0 k3)) <|
  ite' (bif (decide (k3<(a0.length:Int))) then(decide ((Ct a0 k3)=0)) else false) (
   ck (Au .i64 (k3+1)) <|
   some (.inl (k3+1))
   ) (
   some (.inr k3)
   )
def Jv(a0:List UInt8):Option ((List UInt8)) :=
 bd (lp (P8 a0) 0)<|fun k3 =>
 ck (C3 a0 k3 (a0.length:Int)) <|
 some (sub a0 k3 (a0.length:Int))
def F9(a0:List UInt8)(k1:Int):Option (Int) :=
 ite' (decide ((a0.length:Int)<=k1)) (
  some 0
  ) (
  ck (Au .i64 ((a0.length:Int)-1)) <|
  ck (Au .i64 (((a0.length:Int)-1)-k1)) <|
  ck (BR a0 (((a0.length:Int)-1)-k1)) <|
  ck (Au .i64 (Ct a0 (((a0.length:Int)-1)-k1))) <|
  some (Ct a0 (((a0.length:Int)-1)-k1))
  )
def P9(l0:List Int):(Int×(List Int))->Option ((Int×(List Int))⊕(List Int)):=fun s=>match s with
 |(k4,l1) =>
  ite' (decide (0<=k4)) (
   bd (at? l0 k4) fun x1 =>
   ck (decide (List.length (l1++[(x1%256)])*1<=140737488355328)) <|
   ck (Au .i64 (k4-1)) <|
   some (.inl ((k4-1),(l1++[(x1%256)])))
   ) (
   some (.inr l1)
   )
def JZ(l0:List Int):Option ((List UInt8)) :=
 ck (Au .i64 ((l0.length:Int)-1)) <|
 bd (lp (P9 l0) (((l0.length:Int)-1),[]))<|fun l1 =>
 bd (Jv (BS l1)) fun r1 =>
 some r1
def PA :(Int×(List UInt8))->Option ((Int×(List UInt8))⊕(List UInt8)):=fun s=>match s with
 |(n0',an) =>
  ite' (decide (0<n0')) (
   ck (decide (List.length (BS [((n0'.tmod 256)%256)])+an.length<=4611686018427387904)) <|
   ck (Au .i64 (n0'.tdiv 256)) <|
   some (.inl ((n0'.tdiv 256),((BS [((n0'.tmod 256)%256)])++an)))
   ) (
   some (.inr an)
   )
def PB(n0:Int):Option (EL) :=
 ite' (decide (n0<0)) (
  some (EL.mk [] 3)
  ) (
  bd (lp (PA) (n0,[]))<|fun an =>
  some (EL.mk an 0)
  )
def GL(ax0:List Int)(k1:Int):Option (Int) :=
 ite' (decide (k1<(ax0.length:Int))) (
  bd (at? ax0 k1) fun x1 =>
  some (x1%18446744073709551616)
  ) (
  some 0
  )
def Ka(ax0:Int):Option (Bool) :=
 some (!decide (ax0=ax0))
def Kb(ax0:Int):Option (Bool) :=
 some (!decide (ax0=ax0))
def PC(ac1:Int):(List UInt8)->Option ((List UInt8)⊕(List UInt8)):=fun s=>match s with
 |s0 =>
  ck (!(decide (0<(s0.length:Int)))||(BR s0 0)) <|
  ite' (bif (decide (0<(s0.length:Int))) then(decide ((Ct s0 0)=ac1)) else false) (
   ck (C3 s0 1 (s0.length:Int)) <|
   some (.inl (sub s0 1 (s0.length:Int)))
   ) (
   some (.inr s0)
   )
def Ma(as0:List UInt8)(ac1:Int):Option ((List UInt8)) :=
 bd (lp (PC ac1) as0)<|fun s0 =>
 some s0
def Kc(k0:Int)(c0:Bg)(c1:Int):Option (Bool) :=
 bd (at? c0.Points k0) fun x1 =>
 some (decide (c1<x1.Stage))
def Mb(l0:List Ao):Int->Option (Int⊕(Unit⊕Int)):=fun s=>match s with
 |k3 =>
  ite' (decide (k3<(l0.length:Int))) (
   bd (at? l0 k3) fun x1 =>
   bd (gd (!(decide (x1.From<0))) (at? l0 k3)) fun x2 =>
   bd (gd (!(decide (x1.From<0))) (at? l0 k3)) fun x3 =>
   bd (gd (!(bif (decide (x1.From<0)) then true else(decide (x2.To<=x3.From)))) (at? l0 k3)) fun x4 =>
   ite' (bif (bif (decide (x1.From<0)) then true else(decide (x2.To<=x3.From))) then true else(decide (1402560<x4.To))) (
    some (.inr (.inr 3))
    ) (
    bd (gd (decide (0<k3)) (at? l0 k3)) fun x5 =>
    ck (!(decide (0<k3))||Au .i64 (k3-1)) <|
    bd (gd (decide (0<k3)) (at? l0 (k3-1))) fun x6 =>
    ite' (bif (decide (0<k3)) then(!decide (x5.From=x6.To)) else false) (
     some (.inr (.inr 1))
     ) (
     bd (at? l0 k3) fun x7 =>
     bd (Ik x7) fun r1 =>
     ite' (!decide (r1=0)) (
      some (.inr (.inr r1))
      ) (
      ck (Au .i64 (k3+1)) <|
      some (.inl (k3+1))
      )
     )
    )
   ) (
   some (.inr (.inl ()))
   )
def Kd(l0:List Ao):Option (Int) :=
 ite' (decide (2000<(l0.length:Int))) (
  some 2
  ) (
  bd (lp (Mb l0) 0)<|fun o=>match o with
  | .inl ()=>(
    ck (!(decide (0<(l0.length:Int)))||Au .i64 ((l0.length:Int)-1)) <|
    bd (gd (decide (0<(l0.length:Int))) (at? l0 ((l0.length:Int)-1))) fun x8 =>
    bd (gd (decide (0<(l0.length:Int))) (at? l0 0)) fun x9 =>
    ck (!(decide (0<(l0.length:Int)))||Au .i64 (x8.To-x9.From)) <|
    ite' (bif (decide (0<(l0.length:Int))) then(decide (40000<(x8.To-x9.From))) else false) (
     some 2
     ) (
     some 0
     )
   )
  | .inr o=>(
    some o
   )
  )
def Mc(l0:List Ao):Int->Option (Int⊕(Unit⊕Bool)):=fun s=>match s with
 |k7 =>
  ite' (decide (k7<(l0.length:Int))) (
   bd (at? l0 k7) fun x1 =>
   ite' (decide (20<(x1.Table.length:Int))) (
    some (.inr (.inr false))
    ) (
    ck (Au .i64 (k7+1)) <|
    some (.inl (k7+1))
    )
   ) (
   some (.inr (.inl ()))
   )
def Md(l0:List Ao)(ay:Int)(ao:Int):Option (Bool) :=
 ite' (decide (ay<(l0.length:Int))) (
  some false
  ) (
  bd (lp (Mc l0) 0)<|fun o=>match o with
  | .inl ()=>(
    bd (Kd l0) fun r1 =>
    ck (!(!(bif (!decide (r1=0)) then true else(decide ((l0.length:Int)=0))))||Au .i64 ((l0.length:Int)-1)) <|
    bd (gd (!(bif (!decide (r1=0)) then true else(decide ((l0.length:Int)=0)))) (at? l0 ((l0.length:Int)-1))) fun x2 =>
    bd (gd (!(bif (!decide (r1=0)) then true else(decide ((l0.length:Int)=0)))) (at? l0 0)) fun x3 =>
    ck (!(!(bif (!decide (r1=0)) then true else(decide ((l0.length:Int)=0))))||Au .i64 (x2.To-x3.From)) <|
    some (bif (bif (!decide (r1=0)) then true else(decide ((l0.length:Int)=0))) then true else(decide ((x2.To-x3.From)<=ao)))
   )
  | .inr o=>(
    some o
   )
  )
def PD(l0:List Al):Int->Option (Int⊕(Unit⊕Bool)):=fun s=>match s with
 |k5 =>
  ite' (decide (k5<(l0.length:Int))) (
   bd (at? l0 k5) fun x1 =>
   bd (JW x1.Curve) fun r1 =>
   bd (gd (!(!r1)) (at? l0 k5)) fun x2 =>
   bd (gd (!(bif (!r1) then true else(decide (40<(x2.Weight.Num.length:Int))))) (at? l0 k5)) fun x3 =>
   ite' (bif (bif (!r1) then true else(decide (40<(x2.Weight.Num.length:Int)))) then true else(decide (40<(x3.Weight.Den.length:Int)))) (
    some (.inr (.inr false))
    ) (
    ck (Au .i64 (k5+1)) <|
    some (.inl (k5+1))
    )
   ) (
   some (.inr (.inl ()))
   )
def In(l0:List Al)(ax:Int):Option (Bool) :=
 ite' (bif (bif (decide (ax<(l0.length:Int))) then(decide ((l0.length:Int)<=400)) else false) then true else(decide (410<(l0.length:Int)))) (
  some false
  ) (
  bd (lp (PD l0) 0)<|fun o=>match o with
  | .inl ()=>(
    some true
   )
  | .inr o=>(
    some o
   )
  )
def Me(l0:List Ao):Int->Option (Int⊕(Unit⊕Int)):=fun s=>match s with
 |t12 =>
  ite' (decide (t12<(l0.length:Int))) (
   bd (at? l0 t12) fun x1 =>
   ite' (bif (bif (decide (x1.From<0)) then true else(decide (x1.To<=x1.From))) then true else(decide (1402560<x1.To))) (
    some (.inr (.inr 3))
    ) (
    ck (!(decide (0<t12))||Au .i64 (t12-1)) <|
    bd (gd (decide (0<t12)) (at? l0 (t12-1))) fun x2 =>
    ite' (bif (decide (0<t12)) then(!decide (x1.From=x2.To)) else false) (
     some (.inr (.inr 1))
     ) (
     bd (JX x1) fun r1 =>
     ite' (!decide (r1=0)) (
      some (.inr (.inr r1))
      ) (
      ck (Au .i64 (t12+1)) <|
      some (.inl (t12+1))
      )
     )
    )
   ) (
   some (.inr (.inl ()))
   )
def Ke(l0:List Ao):Option (Int) :=
 ite' (decide (2000<(l0.length:Int))) (
  some 2
  ) (
  bd (lp (Me l0) 0)<|fun o=>match o with
  | .inl ()=>(
    ck (!(decide (0<(l0.length:Int)))||Au .i64 ((l0.length:Int)-1)) <|
    bd (gd (decide (0<(l0.length:Int))) (at? l0 ((l0.length:Int)-1))) fun x3 =>
    bd (gd (decide (0<(l0.length:Int))) (at? l0 0)) fun x4 =>
    ck (!(decide (0<(l0.length:Int)))||Au .i64 (x3.To-x4.From)) <|
    ite' (bif (decide (0<(l0.length:Int))) then(decide (40000<(x3.To-x4.From))) else false) (
     some 2
     ) (
     some 0
     )
   )
  | .inr o=>(
    some o
   )
  )
def PE(a1:List Al)(ax0:Ao):(Int×Int×(List A9))->Option ((Int×Int×(List A9))⊕(Int×(List A9))):=fun s=>match s with
 |(af,k7,l3) =>
  bd (gd (decide (k7<(a1.length:Int))) (at? a1 k7)) fun x1 =>
  ite' (bif (decide (k7<(a1.length:Int))) then(decide (x1.From<ax0.To)) else false) (
   bd (at? a1 k7) fun x2 =>
   bd (at? a1 k7) fun x3 =>
   ck (Au .i64 ((min ax0.To x2.To)-(max ax0.From x3.From))) <|
   ck (decide (List.length (l3++[(A9.mk k7 ((min ax0.To x2.To)-(max ax0.From x3.From)))])*16<=140737488355328)) <|
   ck (Au .i64 (af-((min ax0.To x2.To)-(max ax0.From x3.From)))) <|
   ck (Au .i64 (k7+1)) <|
   some (.inl ((af-((min ax0.To x2.To)-(max ax0.From x3.From))),(k7+1),(l3++[(A9.mk k7 ((min ax0.To x2.To)-(max ax0.From x3.From)))])))
   ) (
   some (.inr (af,l3))
   )
def Ih(ax0:Ao)(a1:List Al):Option ((List A9)) :=
 ck (Au .i64 (ax0.To-ax0.From)) <|
 bd (Ju (a1.length:Int) (fun a0=>LX a0 a1 ax0)) fun r1 =>
 bd (lp (PE a1 ax0) ((ax0.To-ax0.From),r1,[]))<|fun(af,l3) =>
 ite' (decide (0<af)) (
  ck (decide (List.length (l3++[(A9.mk (-1) af)])*16<=140737488355328)) <|
  some (l3++[(A9.mk (-1) af)])
  ) (
  some l3
  )
def GA(a0:Ao)(b1:Ao):Option (Ao×Bool) :=
 bd (LU a0) fun r1 =>
 bd (gd r1 (LU b1)) fun r2 =>
 bd (gd (bif r1 then r2 else false) (at? a0.Table 0)) fun x1 =>
 bd (gd (bif r1 then r2 else false) (at? b1.Table 0)) fun x2 =>
 ite' (bif (bif r1 then r2 else false) then(decide (x1.Stage=x2.Stage)) else false) (
  bd (at? a0.Table 0) fun x3 =>
  bd (DX a0.From b1.To x3.Stage) fun r3 =>
  some (r3,true)
  ) (
  bd (ET a0) fun r4 =>
  bd (gd r4 (ET b1)) fun r5 =>
  ite' (bif (bif (bif r4 then r5 else false) then(decide (a0.Lo=b1.Lo)) else false) then(decide (a0.Hi=b1.Hi)) else false) (
   some ((Ao.mk a0.From b1.To [] a0.Lo a0.Hi),true)
   ) (
   some ((Ao.mk 0 0 [] 0 0),false)
   )
  )
def PF(as0:List Int)(f1:Int->Option Bool):Option (Bool) :=
 bd (LZ as0 f1) fun r1 =>
 some (decide (0<=r1))
def PG(a0:List UInt8)(ad:Int):(Int×Int)->Option ((Int×Int)⊕Int):=fun s=>match s with
 |(ah,t22) =>
  ite' (decide (t22<(List.length (bytes (sub a0 (max 0 (ad-4)) ad)):Int))) (
   bd (at? (bytes (sub a0 (max 0 (ad-4)) ad)) t22) fun x1 =>
   ck (Au .i64 (t22+1)) <|
   some (.inl ((bitI .or .u32 ((ah*256)%4294967296) (x1%4294967296)),(t22+1)))
   ) (
   some (.inr ah)
   )
def PH(a0:List UInt8):(Int×(List Int))->Option ((Int×(List Int))⊕(List Int)):=fun s=>match s with
 |(ad,l2) =>
  ite' (decide (0<ad)) (
   ck (Au .i64 (ad-4)) <|
   ck (C3 a0 (max 0 (ad-4)) ad) <|
   bd (lp (PG a0 ad) (0,0))<|fun ah =>
   ck (decide (List.length (l2++[ah])*4<=140737488355328)) <|
   ck (Au .i64 (ad-4)) <|
   some (.inl ((ad-4),(l2++[ah])))
   ) (
   some (.inr l2)
   )
def Gl(a0:List UInt8):Option ((List Int)) :=
 bd (lp (PH a0) ((a0.length:Int),[]))<|fun l2 =>
 bd (GJ l2) fun r1 =>
 some r1
def Mf(a0:List UInt8):Option (Bool) :=
 bd (Jv a0) fun r1 =>
 some (decide (a0=r1))
def Mg(a0:List UInt8)(b1:List UInt8)(i6:Int):(Int×Int×(List Int))->Option ((Int×Int×(List Int))⊕(List Int)):=fun s=>match s with
 |(aj,k8,l0') =>
  ite' (decide (k8<=(b1.length:Int))) (
   ck (Au .i64 (i6+k8)) <|
   bd (at? l0' (i6+k8)) fun x1 =>
   bd (F9 a0 i6) fun r1 =>
   bd (F9 b1 k8) fun r2 =>
   ck (Au .i64 (r1*r2)) <|
   ck (Au .i64 (x1+(r1*r2))) <|
   ck (Au .i64 ((x1+(r1*r2))+aj)) <|
   ck (Au .i64 (i6+k8)) <|
   bd (at? l0' (i6+k8)) fun x2 =>
   ck (Au .i64 (((x1+(r1*r2))+aj).tdiv 256)) <|
   ck (Au .i64 (k8+1)) <|
   some (.inl ((((x1+(r1*r2))+aj).tdiv 256),(k8+1),(List.set l0' (Int.toNat (i6+k8)) (((x1+(r1*r2))+aj).tmod 256))))
   ) (
   some (.inr l0')
   )
def PI(a0:List UInt8)(b1:List UInt8):(Int×(List Int))->Option ((Int×(List Int))⊕(List Int)):=fun s=>match s with
 |(i6,l0) =>
  ite' (decide (i6<(a0.length:Int))) (
   bd (lp (Mg a0 b1 i6) (0,0,l0))<|fun l0' =>
   ck (Au .i64 (i6+1)) <|
   some (.inl ((i6+1),l0'))
   ) (
   some (.inr l0)
   )
def GM(a0:List UInt8)(b1:List UInt8):Option ((List UInt8)) :=
 ck (Au .i64 ((a0.length:Int)+(b1.length:Int))) <|
 ck (Au .i64 (((a0.length:Int)+(b1.length:Int))+1)) <|
 ck (mkOk (((a0.length:Int)+(b1.length:Int))+1) 8) <|
 bd (lp (PI a0 b1) (0,(List.replicate (Int.toNat (((a0.length:Int)+(b1.length:Int))+1)) 0)))<|fun l0 =>
 bd (JZ l0) fun r3 =>
 some r3
def Mh(n0:Int):Option ((List UInt8)) :=
 bd (α:=Int) (
  ite' (decide (n0<0)) (
   ck (Au .i64 (-n0)) <|
   some (-n0)
   ) (
   some n0
   )
 )<|fun n0' =>
  bd (PB n0') fun r1 =>
  some r1.S
def PJ(a0:List UInt8)(b1:List UInt8):(Int×Int×(List Int))->Option ((Int×Int×(List Int))⊕(List Int)):=fun s=>match s with
 |(a7,k7,l1) =>
  ite' (decide (k7<=(max (a0.length:Int) (b1.length:Int)))) (
   bd (F9 a0 k7) fun r1 =>
   bd (F9 b1 k7) fun r2 =>
   ck (Au .i64 (r1+r2)) <|
   ck (Au .i64 ((r1+r2)+a7)) <|
   ck (decide (List.length (l1++[(((r1+r2)+a7).tmod 256)])*8<=140737488355328)) <|
   ck (Au .i64 (((r1+r2)+a7).tdiv 256)) <|
   ck (Au .i64 (k7+1)) <|
   some (.inl ((((r1+r2)+a7).tdiv 256),(k7+1),(l1++[(((r1+r2)+a7).tmod 256)])))
   ) (
   some (.inr l1)
   )
def PK(a0:List UInt8)(b1:List UInt8):Option ((List UInt8)) :=
 bd (lp (PJ a0 b1) (0,0,[]))<|fun l1 =>
 bd (JZ l1) fun r3 =>
 some r3
def Kf(a0:List UInt8)(b1:List UInt8):Option (Int) :=
 bd (Jv a0) fun r1 =>
 bd (Jv b1) fun r2 =>
 ite' (decide (r1=r2)) (
  some 0
  ) (
  ite' (bif (decide ((r1.length:Int)<(r2.length:Int))) then true else(bif (decide ((r1.length:Int)=(r2.length:Int))) then(Op.bytesLess r1 r2) else false)) (
   some (-1)
   ) (
   some 1
   )
  )
def PL(a0:List UInt8)(b1:List UInt8):(Int×Int×(List Int))->Option ((Int×Int×(List Int))⊕(List Int)):=fun s=>match s with
 |(a4,k7,l2) =>
  ite' (decide (k7<(a0.length:Int))) (
   bd (F9 a0 k7) fun r2 =>
   bd (F9 b1 k7) fun r3 =>
   ck (Au .i64 (r2-r3)) <|
   ck (Au .i64 ((r2-r3)-a4)) <|
   bd (α:=Int×Int) (
    ite' (decide (((r2-r3)-a4)<0)) (
     ck (Au .i64 (((r2-r3)-a4)+256)) <|
     some (1,(((r2-r3)-a4)+256))
     ) (
     some (0,((r2-r3)-a4))
     )
   )<|fun(a4',n8) =>
    ck (decide (List.length (l2++[n8])*8<=140737488355328)) <|
    ck (Au .i64 (k7+1)) <|
    some (.inl (a4',(k7+1),(l2++[n8])))
   ) (
   some (.inr l2)
   )
def Kg(a0:List UInt8)(b1:List UInt8):Option (EL) :=
 bd (Kf a0 b1) fun r1 =>
 ite' (decide (r1<0)) (
  some (EL.mk [] 3)
  ) (
  bd (lp (PL a0 b1) (0,0,[]))<|fun l2 =>
  bd (JZ l2) fun r4 =>
  some (EL.mk r4 0)
  )
def PM(by1:Int)(ax0:List Int):(Int×Int×(List Int))->Option ((Int×Int×(List Int))⊕(Int×(List Int))):=fun s=>match s with
 |(ak,k8,l0) =>
  ite' (decide (0<=k8)) (
   bd (at? ax0 k8) fun x1 =>
   ck (!decide ((by1%18446744073709551616)=0)) <|
   ck (!decide ((by1%18446744073709551616)=0)) <|
   bd (at? l0 k8) fun x2 =>
   ck (Au .i64 (k8-1)) <|
   some (.inl (((bitI .or .u64 ((ak*4294967296)%18446744073709551616) (x1%18446744073709551616)).tmod (by1%18446744073709551616)),(k8-1),(List.set l0 (Int.toNat k8) ((((bitI .or .u64 ((ak*4294967296)%18446744073709551616) (x1%18446744073709551616)).tdiv (by1%18446744073709551616))%18446744073709551616)%4294967296))))
   ) (
   some (.inr (ak,l0))
   )
def Io(ax0:List Int)(by1:Int):Option ((List Int)×Int) :=
 ck (mkOk (ax0.length:Int) 4) <|
 ck (Au .i64 ((ax0.length:Int)-1)) <|
 bd (lp (PM by1 ax0) (0,((ax0.length:Int)-1),(List.replicate (Int.toNat (ax0.length:Int)) 0)))<|fun(ak,l0) =>
 bd (GJ l0) fun r1 =>
 some (r1,(ak%4294967296))
def Mi(t20:Int)(x1:Int)(y1:List Int):(Int×Int×(List Int))->Option ((Int×Int×(List Int))⊕(List Int)):=fun s=>match s with
 |(am,k9,l0') =>
  ite' (bif (decide (k9<(y1.length:Int))) then true else(decide (0<am))) (
   bd (GL y1 k9) fun r1 =>
   ck (Au .i64 (t20+k9)) <|
   bd (at? l0' (t20+k9)) fun x2 =>
   ck (Au .i64 (t20+k9)) <|
   bd (at? l0' (t20+k9)) fun x3 =>
   ck (Au .i64 (k9+1)) <|
   some (.inl ((Int.fdiv (((((((x1%18446744073709551616)*r1)%18446744073709551616)+(x2%18446744073709551616))%18446744073709551616)+am)%18446744073709551616) 4294967296),(k9+1),(List.set l0' (Int.toNat (t20+k9)) ((((((((x1%18446744073709551616)*r1)%18446744073709551616)+(x2%18446744073709551616))%18446744073709551616)+am)%18446744073709551616)%4294967296))))
   ) (
   some (.inr l0')
   )
def PN(ax0:List Int)(y1:List Int):(Int×(List Int))->Option ((Int×(List Int))⊕(List Int)):=fun s=>match s with
 |(t20,l0) =>
  ite' (decide (t20<(ax0.length:Int))) (
   bd (at? ax0 t20) fun x1 =>
   bd (lp (Mi t20 x1 y1) (0,0,l0))<|fun l0' =>
   ck (Au .i64 (t20+1)) <|
   some (.inl ((t20+1),l0'))
   ) (
   some (.inr l0)
   )
def GN(ax0:List Int)(y1:List Int):Option ((List Int)) :=
 ck (Au .i64 ((ax0.length:Int)+(y1.length:Int))) <|
 ck (Au .i64 (((ax0.length:Int)+(y1.length:Int))+1)) <|
 ck (mkOk (((ax0.length:Int)+(y1.length:Int))+1) 4) <|
 bd (lp (PN ax0 y1) (0,(List.replicate (Int.toNat (((ax0.length:Int)+(y1.length:Int))+1)) 0)))<|fun l0 =>
 bd (GJ l0) fun r2 =>
 some r2
def PO(ax0:List Int)(y1:List Int):(Int×Int×(List Int))->Option ((Int×Int×(List Int))⊕(List Int)):=fun s=>match s with
 |(a4,t11,l1) =>
  ite' (decide (t11<(ax0.length:Int))) (
   bd (at? ax0 t11) fun x1 =>
   bd (GL y1 t11) fun r1 =>
   ck (decide (List.length (l1++[((((((x1%18446744073709551616)-r1)%18446744073709551616)-a4)%18446744073709551616)%4294967296)])*4<=140737488355328)) <|
   ck (Au .i64 (t11+1)) <|
   some (.inl ((Int.fdiv (((((x1%18446744073709551616)-r1)%18446744073709551616)-a4)%18446744073709551616) 9223372036854775808),(t11+1),(l1++[((((((x1%18446744073709551616)-r1)%18446744073709551616)-a4)%18446744073709551616)%4294967296)])))
   ) (
   some (.inr l1)
   )
def GO(ax0:List Int)(y1:List Int):Option ((List Int)) :=
 bd (lp (PO ax0 y1) (0,0,[]))<|fun l1 =>
 bd (GJ l1) fun r2 =>
 some r2
def PP(ax0:List Int)(y1:List Int):(Int×Int×(List Int))->Option ((Int×Int×(List Int))⊕(List Int)):=fun s=>match s with
 |(a7,t15,l1) =>
  ite' (decide (t15<((max (ax0.length:Int) (y1.length:Int))+1))) (
   bd (GL ax0 t15) fun r1 =>
   bd (GL y1 t15) fun r2 =>
   ck (decide (List.length (l1++[(((((r1+r2)%18446744073709551616)+a7)%18446744073709551616)%4294967296)])*4<=140737488355328)) <|
   ck (Au .i64 (t15+1)) <|
   some (.inl ((Int.fdiv ((((r1+r2)%18446744073709551616)+a7)%18446744073709551616) 4294967296),(t15+1),(l1++[(((((r1+r2)%18446744073709551616)+a7)%18446744073709551616)%4294967296)])))
   ) (
   some (.inr l1)
   )
def Kh(ax0:List Int)(y1:List Int):Option ((List Int)) :=
 ck (Au .i64 ((max (ax0.length:Int) (y1.length:Int))+1)) <|
 bd (lp (PP ax0 y1) (0,0,[]))<|fun l1 =>
 bd (GJ l1) fun r3 =>
 some r3
def PQ(b1:List UInt8):((List UInt8)×Int)->Option (((List UInt8)×Int)⊕((List UInt8)×Int)):=fun s=>match s with
 |(r6',n8) =>
  bd (Kf r6' b1) fun r3 =>
  ite' (decide (0<=r3)) (
   bd (Kg r6' b1) fun r4 =>
   ck (Au .i64 (n8+1)) <|
   some (.inl (r4.S,(n8+1)))
   ) (
   some (.inr (r6',n8))
   )
def PR(a0:List UInt8)(b1:List UInt8):((List UInt8)×(List UInt8)×Int)->Option (((List UInt8)×(List UInt8)×Int)⊕((List UInt8)×(List UInt8))):=fun s=>match s with
 |(q5,r6,k7) =>
  ite' (decide (k7<(a0.length:Int))) (
   ck (Au .i64 (k7+1)) <|
   ck (C3 a0 k7 (k7+1)) <|
   ck (decide (r6.length+List.length (sub a0 k7 (k7+1))<=4611686018427387904)) <|
   bd (Jv (r6++(sub a0 k7 (k7+1)))) fun r2 =>
   bd (lp (PQ b1) (r2,0))<|fun(r6',n8) =>
   ck (decide (q5.length+List.length (BS [(n8%256)])<=4611686018427387904)) <|
   ck (Au .i64 (k7+1)) <|
   some (.inl ((q5++(BS [(n8%256)])),r6',(k7+1)))
   ) (
   some (.inr (q5,r6))
   )
def Ki(a0:List UInt8)(b1:List UInt8):Option (Gk) :=
 bd (Jv b1) fun r1 =>
 ite' (decide (r1=[])) (
  some (Gk.mk [] [] 1)
  ) (
  bd (lp (PR a0 b1) ([],[],0))<|fun(q5,r6) =>
  bd (Jv q5) fun r5 =>
  some (Gk.mk r5 r6 0)
  )
def Mj(ax0:Int)(y1:Int):Option (Int) :=
 bd (Ka ax0) fun r1 =>
 bd (Ka y1) fun r2 =>
 ite' r1 (
  ite' r2 (
   some 0
   ) (
   some (-1)
   )
  ) (
  ite' r2 (
   some 1
   ) (
   ite' (decide (ax0<y1)) (
    some (-1)
    ) (
    ite' (decide (y1<ax0)) (
     some 1
     ) (
     some 0
     )
    )
   )
  )
def Mk(ax0:Int)(y1:Int):Option (Int) :=
 bd (Kb ax0) fun r1 =>
 bd (Kb y1) fun r2 =>
 ite' r1 (
  ite' r2 (
   some 0
   ) (
   some (-1)
   )
  ) (
  ite' r2 (
   some 1
   ) (
   ite' (decide (ax0<y1)) (
    some (-1)
    ) (
    ite' (decide (y1<ax0)) (
     some 1
     ) (
     some 0
     )
    )
   )
  )
def PS(as0:List UInt8)(a9:List UInt8):Option ((List UInt8)) :=
 ite' (bif (decide (as0=[])) then true else(decide (a9=[]))) (
  some as0
  ) (
  ck (!(decide ((a9.length:Int)=1))||(BR a9 0)) <|
  ite' (bif (decide ((a9.length:Int)=1)) then(decide ((Ct a9 0)<128)) else false) (
   ck (BR a9 0) <|
   bd (Ma as0 (Ct a9 0)) fun r1 =>
   some r1
   ) (
   none
   )
  )
def Ml(l0:List Ao)(a1:List Al)(ao:Int):Option (Bool) :=
 bd (Md l0 12 ao) fun r1 =>
 bd (gd r1 (In a1 8)) fun r2 =>
 some (bif r1 then r2 else false)
def DW(h0:AT):Option (Bool) :=
 ck (!(decide ((h0.Stages.length:Int)<=40000))||Au .i64 (1402560-(h0.Stages.length:Int))) <|
 bd (gd (decide ((h0.Stages.length:Int)<=40000)) (EU h0.From 0 (1402560-(h0.Stages.length:Int)))) fun r1 =>
 bd (gd (bif (decide ((h0.Stages.length:Int)<=40000)) then r1 else false) (PF h0.Stages (fun a0=>P4 a0))) fun r2 =>
 some (bif (bif (decide ((h0.Stages.length:Int)<=40000)) then r1 else false) then(!r2) else false)
def Ip :((List UInt8)×(List UInt8))->Option (((List UInt8)×(List UInt8))⊕(List UInt8)):=fun s=>match s with
 |(x5,y6) =>
  ite' (!decide (y6=[])) (
   bd (Ki x5 y6) fun r3 =>
   some (.inl (y6,r3.R))
   ) (
   some (.inr x5)
   )
def Mm(a0:List UInt8)(b1:List UInt8):Option ((List UInt8)) :=
 bd (Jv a0) fun r1 =>
 bd (Jv b1) fun r2 =>
 bd (lp (Ip) (r1,r2))<|fun x5 =>
 some x5
def GP(az:Bool)(b2:List UInt8)(au:List UInt8):Option (Af) :=
 bd (Jv b2) fun r1 =>
 ite' (decide (r1=[])) (
  some (Af.mk false [] [])
  ) (
  bd (Mm r1 au) fun r2 =>
  bd (Ki r1 r2) fun r3 =>
  bd (Ki au r2) fun r4 =>
  some (Af.mk az r3.Q r4.Q)
  )
def PT(ax0:List Int)(y1:List Int):Int->Option (Int⊕(Unit⊕Int)):=fun s=>match s with
 |k6 =>
  ite' (decide (0<=k6)) (
   bd (at? ax0 k6) fun x1 =>
   bd (at? y1 k6) fun x2 =>
   bd (Mk x1 x2) fun r2 =>
   ite' (!decide (r2=0)) (
    some (.inr (.inr r2))
    ) (
    ck (Au .i64 (k6-1)) <|
    some (.inl (k6-1))
    )
   ) (
   some (.inr (.inl ()))
   )
def yzf(ax0:List Int)(y1:List Int):Option (Int) :=
 bd (Mj (ax0.length:Int) (y1.length:Int)) fun r1 =>
 ite' (!decide (r1=0)) (
  some r1
  ) (
  ck (Au .i64 ((ax0.length:Int)-1)) <|
  bd (lp (PT ax0 y1) ((ax0.length:Int)-1))<|fun o=>match o with
  | .inl ()=>(
    some 0
   )
  | .inr o=>(
    some o
   )
  )
def yze(ax0:List Int)(ai:Int):Option ((List Int)) :=
 ite' (decide (ai<0)) (
  ck (Au .i64 (-ai)) <|
  ck (decide (0<=(-ai))) <|
  bd (Io ax0 ((1*2 ^ min (Int.toNat (-ai)) 32)%4294967296)) fun r1 =>
  some r1.1
  ) (
  ck (decide (0<=ai)) <|
  bd (GN ax0 [((1*2 ^ min (Int.toNat ai) 32)%4294967296)]) fun r2 =>
  some r2
  )
def Mn(a0:List UInt8):Option ((List UInt8)) :=
 bd (PS a0 [0]) fun r1 =>
 some r1
def GB(out:List Ao)(x:Ao):Option (List Ao):=match out.getLast? with
 |none=>some [x]
 |some a=>bd (GA a x) fun p=>some (bif p.2 then out.dropLast++[p.1] else out++[x])
def ofL(f:Int):Int->List Int->List Ao->Option (List Ao)
 |_,[],out=>some out
 |k,s :: l,out=>ck (Au .i64 (f+k)&&Au .i64 (f+k+1))<|bd (DX (f+k) (f+k+1) s) fun x=>bd (GB out x) fun out=>ofL f (k+1) l out
def EN(h0:AT):Option (List Ao×Int) :=
 bd (DW h0) fun b=>ite' (!b) (some ([],1)) <|
 bd (ofL h0.From 0 h0.Stages []) fun out=>ite' (decide (2000<(out.length:Int))) (some ([],2)) (some (out,0))
def Mo(x3:Ao):(Int×(List (Int×Int)))->Option ((Int×(List (Int×Int)))⊕(List (Int×Int))):=fun s=>match s with
 |(t60,m2) =>
  ite' (decide (t60<(x3.Table.length:Int))) (
   bd (at? x3.Table t60) fun x4 =>
   ck (Au .i64 (t60+1)) <|
   some (.inl ((t60+1),(mput keqI m2 x4.Stage x4.Ticks)))
   ) (
   some (.inr m2)
   )
def PU(h1:AT)(x3:Ao):(Int×(List (Int×Int)))->Option ((Int×(List (Int×Int)))⊕((List (Int×Int))⊕Bool)):=fun s=>match s with
 |(t84,m2') =>
  ite' (decide (t84<(List.length (sub h1.Stages (x3.From-h1.From) (x3.To-h1.From)):Int))) (
   bd (at? (sub h1.Stages (x3.From-h1.From) (x3.To-h1.From)) t84) fun x5 =>
   bd (ET x3) fun r3 =>
   bd (gd r3 (EU x5 x3.Lo x3.Hi)) fun r4 =>
   bd (gd (!(bif r3 then(!r4) else false)) (ET x3)) fun r5 =>
   ite' (bif (bif r3 then(!r4) else false) then true else(bif (!r5) then(decide ((Option.getD (mget keqI m2' x5) 0)=0)) else false)) (
    some (.inr (.inr false))
    ) (
    ck (Au .i64 ((Option.getD (mget keqI m2' x5) 0)-1)) <|
    ck (Au .i64 (t84+1)) <|
    some (.inl ((t84+1),(mput keqI m2' x5 ((Option.getD (mget keqI m2' x5) 0)-1))))
    )
   ) (
   some (.inr (.inl m2'))
   )
def Mp(h1:AT)(l0:List Ao):Int->Option (Int⊕(Unit⊕Bool)):=fun s=>match s with
 |t52 =>
  ite' (decide (t52<(l0.length:Int))) (
   bd (at? l0 t52) fun x3 =>
   bd (lp (Mo x3) (0,([]:List (Int×Int))))<|fun m2 =>
   ck (Au .i64 (x3.From-h1.From)) <|
   ck (Au .i64 (x3.To-h1.From)) <|
   ck (C3 h1.Stages (x3.From-h1.From) (x3.To-h1.From)) <|
   bd (lp (PU h1 x3) (0,m2))<|fun o=>match o with
   | .inl m2'=>(
     ck (Au .i64 (t52+1)) <|
     some (.inl (t52+1))
    )
   | .inr o=>(
     some (.inr (.inr o))
    )
   ) (
   some (.inr (.inl ()))
   )
def GQ(l0:List Ao)(h1:AT):Option (Bool) :=
 bd (Ke l0) fun r1 =>
 bd (gd (!(!decide (r1=0))) (DW h1)) fun r2 =>
 ite' (bif (!decide (r1=0)) then true else(!r2)) (
  some false
  ) (
  ite' (decide ((l0.length:Int)=0)) (
   some (decide ((h1.Stages.length:Int)=0))
   ) (
   bd (at? l0 0) fun x1 =>
   ck (!(!(!decide (h1.From=x1.From)))||Au .i64 ((l0.length:Int)-1)) <|
   bd (gd (!(!decide (h1.From=x1.From))) (at? l0 ((l0.length:Int)-1))) fun x2 =>
   ck (!(!(!decide (h1.From=x1.From)))||Au .i64 (x2.To-h1.From)) <|
   ite' (bif (!decide (h1.From=x1.From)) then true else(!decide ((h1.Stages.length:Int)=(x2.To-h1.From)))) (
    some false
    ) (
    bd (lp (Mp h1 l0) 0)<|fun o=>match o with
    | .inl ()=>(
      some true
     )
    | .inr o=>(
      some o
     )
    )
   )
  )
def PW(a0:Af):Option (Bool) :=
 ite' (bif (decide (a0.Num=[])) then true else(decide (a0.Den=[]))) (
  some ((a0.Neg==false)&&(decide (a0.Num=[])&&(decide (a0.Den=[])&&true)))
  ) (
  bd (Mf a0.Num) fun r1 =>
  bd (Mf a0.Den) fun r2 =>
  bd (gd (bif r1 then r2 else false) (Mm a0.Num a0.Den)) fun r3 =>
  some (bif (bif r1 then r2 else false) then(decide (r3=[1])) else false)
  )
def PX(al:Int)(ag:Int):Option (Fz) :=
 bd (LY al) fun r1 =>
 bd (LY ag) fun r2 =>
 ite' (bif (!r1) then true else(!r2)) (
  some (Fz.mk (Af.mk false [] []) 3)
  ) (
  ite' (decide (ag=0)) (
   some (Fz.mk (Af.mk false [] []) 1)
   ) (
   bd (Mh al) fun r3 =>
   bd (Mh ag) fun r4 =>
   bd (GP (!((decide (al<0))==(decide (ag<0)))) r3 r4) fun r5 =>
   some (Fz.mk r5 0)
   )
  )
def GR(a0:Af):Option (Af) :=
 bd (PW a0) fun r1 =>
 ite' r1 (
  some a0
  ) (
  some (Af.mk false [] [])
  )
def Mq(y1:List Int):Int->Option (Int⊕Int):=fun s=>match s with
 |aa =>
  ck (Au .i64 ((y1.length:Int)-1)) <|
  bd (at? y1 ((y1.length:Int)-1)) fun x2 =>
  ck (decide (0<=aa)) <|
  ite' (decide (((x2*2 ^ min (Int.toNat aa) 32)%4294967296)<2147483648)) (
   ck (Au .i64 (aa+1)) <|
   some (.inl (aa+1))
   ) (
   some (.inr aa)
   )
def Mr(j13:Int)(a6:List Int)(r4:(List Int)):(Int×Int)->Option ((Int×Int)⊕Int):=fun s=>match s with
 |(a2,ab) =>
  ck (!(decide (ab<4294967296))||Au .i64 ((r4.length:Int)-2)) <|
  bd (gd (decide (ab<4294967296)) (at? r4 ((r4.length:Int)-2))) fun x7 =>
  ck (!(decide (ab<4294967296))||Au .i64 (j13+(r4.length:Int))) <|
  ck (!(decide (ab<4294967296))||Au .i64 ((j13+(r4.length:Int))-2)) <|
  bd (gd (decide (ab<4294967296)) (at? a6 ((j13+(r4.length:Int))-2))) fun x8 =>
  ite' (bif (decide (ab<4294967296)) then(decide ((bitI .or .u64 ((ab*4294967296)%18446744073709551616) (x8%18446744073709551616))<((a2*(x7%18446744073709551616))%18446744073709551616))) else false) (
   ck (Au .i64 ((r4.length:Int)-1)) <|
   bd (at? r4 ((r4.length:Int)-1)) fun x9 =>
   some (.inl (((a2-1)%18446744073709551616),((ab+(x9%18446744073709551616))%18446744073709551616)))
   ) (
   some (.inr a2)
   )
def PY(j13:Int)(a6:List Int)(r4:(List Int)):(Int×(List Int))->Option ((Int×(List Int))⊕(Int×(List Int))):=fun s=>match s with
 |(a2',ac) =>
  bd (F0 (sub a6 j13 ((j13+(r4.length:Int))+1))) fun r8 =>
  bd (GJ r8) fun r9 =>
  bd (yzf r9 ac) fun r10 =>
  ite' (decide (r10<0)) (
   bd (GO ac r4) fun r11 =>
   some (.inl (((a2'-1)%18446744073709551616),r11))
   ) (
   some (.inr (a2',ac))
   )
def Iq(r4:(List Int)):(Int×(List Int)×(List Int))->Option ((Int×(List Int)×(List Int))⊕((List Int)×(List Int))):=fun s=>match s with
 |(j13,a6,l3) =>
  ite' (decide (0<=j13)) (
   ck (Au .i64 (j13+(r4.length:Int))) <|
   bd (at? a6 (j13+(r4.length:Int))) fun x3 =>
   ck (Au .i64 (j13+(r4.length:Int))) <|
   ck (Au .i64 ((j13+(r4.length:Int))-1)) <|
   bd (at? a6 ((j13+(r4.length:Int))-1)) fun x4 =>
   ck (Au .i64 ((r4.length:Int)-1)) <|
   bd (at? r4 ((r4.length:Int)-1)) fun x5 =>
   ck (!decide ((x5%18446744073709551616)=0)) <|
   ck (Au .i64 ((r4.length:Int)-1)) <|
   bd (at? r4 ((r4.length:Int)-1)) fun x6 =>
   bd (lp (Mr j13 a6 r4) ((min (((bitI .or .u64 (((x3%18446744073709551616)*4294967296)%18446744073709551616) (x4%18446744073709551616)).tdiv (x5%18446744073709551616))%18446744073709551616) 4294967295),(((bitI .or .u64 (((x3%18446744073709551616)*4294967296)%18446744073709551616) (x4%18446744073709551616))-(((min (((bitI .or .u64 (((x3%18446744073709551616)*4294967296)%18446744073709551616) (x4%18446744073709551616)).tdiv (x5%18446744073709551616))%18446744073709551616) 4294967295)*(x6%18446744073709551616))%18446744073709551616))%18446744073709551616)))<|fun a2 =>
   bd (α:=Unit⊕Unit) (
    ite' (decide (a2=0)) (
     some (.inr ())
     ) (
     some (.inl ())
     )
   )<|fun o=>match o with
    | .inl ()=>(
      ck (Au .i64 (j13+(r4.length:Int))) <|
      ck (Au .i64 ((j13+(r4.length:Int))+1)) <|
      ck (C3 a6 j13 ((j13+(r4.length:Int))+1)) <|
      bd (GN r4 [(a2%4294967296)]) fun r7 =>
      bd (lp (PY j13 a6 r4) (a2,r7))<|fun(a2',ac) =>
      bd (F0 (sub a6 j13 ((j13+(r4.length:Int))+1))) fun r12 =>
      bd (GJ r12) fun r13 =>
      bd (GO r13 ac) fun r14 =>
      ck (C3 a6 j13 ((j13+(r4.length:Int))+1)) <|
      ck (C3 (Bx a6 (Int.toNat j13) (List.replicate (Int.toNat (((j13+(r4.length:Int))+1)-j13)) 0)) j13 ((j13+(r4.length:Int))+1)) <|
      bd (at? l3 j13) fun x10 =>
      ck (Au .i64 (j13-1)) <|
      some (.inl ((j13-1),(Bx (Bx a6 (Int.toNat j13) (List.replicate (Int.toNat (((j13+(r4.length:Int))+1)-j13)) 0)) (Int.toNat j13) (List.take (Int.toNat (((j13+(r4.length:Int))+1)-j13)) r14)),(List.set l3 (Int.toNat j13) (a2'%4294967296))))
     )
    | .inr ()=>(
      ck (Au .i64 (j13-1)) <|
      some (.inl ((j13-1),a6,l3))
     )
   ) (
   some (.inr (a6,l3))
   )
def EM(ax0:List Int)(y1:List Int):Option ((List Int)×(List Int)) :=
 bd (yzf ax0 y1) fun r1 =>
 ite' (decide (r1<0)) (
  some ([],ax0)
  ) (
  ite' (decide ((y1.length:Int)=1)) (
   bd (at? y1 0) fun x1 =>
   bd (Io ax0 x1) fun r2 =>
   bd (GJ [r2.2]) fun r3 =>
   some (r2.1,r3)
   ) (
   bd (lp (Mq y1) 0)<|fun aa =>
   bd (yze y1 aa) fun r4 =>
   bd (yze ax0 aa) fun r5 =>
   bd (F0 r5) fun r6 =>
   ck (decide (List.length (r6++[0,0])*4<=140737488355328)) <|
   ck (Au .i64 ((ax0.length:Int)-(r4.length:Int))) <|
   ck (Au .i64 (((ax0.length:Int)-(r4.length:Int))+2)) <|
   ck (mkOk (((ax0.length:Int)-(r4.length:Int))+2) 4) <|
   ck (Au .i64 ((List.length (r6++[0,0]):Int)-(r4.length:Int))) <|
   ck (Au .i64 (((List.length (r6++[0,0]):Int)-(r4.length:Int))-1)) <|
   bd (lp (Iq r4) ((((List.length (r6++[0,0]):Int)-(r4.length:Int))-1),(r6++[0,0]),(List.replicate (Int.toNat (((ax0.length:Int)-(r4.length:Int))+2)) 0)))<|fun(a6,l3) =>
   bd (GJ l3) fun r15 =>
   bd (GJ a6) fun r16 =>
   ck (Au .i64 (-aa)) <|
   bd (yze r16 (-aa)) fun r17 =>
   some (r15,r17)
   )
  )
def PZ(ax0:List Int):(Int×(List Int))->Option ((Int×(List Int))⊕(List Int)):=fun s=>match s with
 |(t8,l1) =>
  ite' (decide (t8<(ax0.length:Int))) (
   bd (at? ax0 t8) fun x1 =>
   ck (decide (List.length (l1++[(x1%256),((Int.fdiv x1 256)%256),((Int.fdiv x1 65536)%256),((Int.fdiv x1 16777216)%256)])*1<=140737488355328)) <|
   ck (Au .i64 (t8+1)) <|
   some (.inl ((t8+1),(l1++[(x1%256),((Int.fdiv x1 256)%256),((Int.fdiv x1 65536)%256),((Int.fdiv x1 16777216)%256)])))
   ) (
   some (.inr l1)
   )
def Ib(ax0:List Int):Option ((List UInt8)) :=
 bd (lp (PZ ax0) (0,[]))<|fun l1 =>
 bd (Ia l1) fun r1 =>
 bd (Mn (BS r1)) fun r2 =>
 some r2
def FB(a0:List UInt8)(b1:List UInt8):Option ((List UInt8)) :=
 bd (Gl a0) fun r1 =>
 bd (Gl b1) fun r2 =>
 bd (GN r1 r2) fun r3 =>
 bd (Ib r3) fun r4 =>
 some r4
def Ms(a0:List UInt8)(b1:List UInt8):Option ((List UInt8)) :=
 bd (Gl a0) fun r1 =>
 bd (Gl b1) fun r2 =>
 bd (Kh r1 r2) fun r3 =>
 bd (Ib r3) fun r4 =>
 some r4
def Mt(a0:List UInt8)(b1:List UInt8):Option (Int) :=
 bd (Gl a0) fun r1 =>
 bd (Gl b1) fun r2 =>
 bd (yzf r1 r2) fun r3 =>
 some r3
def Mu(a0:List UInt8)(b1:List UInt8):Option ((List UInt8)×Int) :=
 bd (Gl a0) fun r1 =>
 bd (Gl b1) fun r2 =>
 bd (yzf r1 r2) fun r3 =>
 ite' (decide (r3<0)) (
  some ([],3)
  ) (
  bd (GO r1 r2) fun r4 =>
  bd (Ib r4) fun r5 =>
  some (r5,0)
  )
def Mv(n0:Int):Option ((List UInt8)×Int) :=
 ite' (decide (n0<0)) (
  some ([],3)
  ) (
  bd (GJ [(n0%4294967296),((Int.fdiv n0 4294967296)%4294967296)]) fun r1 =>
  bd (Ib r1) fun r2 =>
  some (r2,0)
  )
def Ic:(List Int×List Int)->Option ((List Int×List Int)⊕List Int):=fun s=>match s with
 |(x,y)=>ite' (decide ((y.length:Int)=0)) (some (.inr x)) (bd (EM x y) fun r=>some (.inl (y,r.2)))
def G9(a0:List UInt8)(b1:List UInt8):Option (List UInt8) :=
 bd (Gl a0) fun x =>
 bd (Gl b1) fun y =>
 bd (lp Ic (x,y)) fun r =>
 Ib r
def Ir(a0:Af):Option (Bool) :=
 ite' ((a0.Neg==false)&&(decide (a0.Num=[])&&(decide (a0.Den=[])&&true))) (
  some true
  ) (
  bd (gd (bif (!decide (a0.Num=[])) then(!decide (a0.Den=[])) else false) (JV a0.Num)) fun r1 =>
  bd (gd (bif (bif (!decide (a0.Num=[])) then(!decide (a0.Den=[])) else false) then r1 else false) (JV a0.Den)) fun r2 =>
  bd (gd (bif (bif (bif (!decide (a0.Num=[])) then(!decide (a0.Den=[])) else false) then r1 else false) then r2 else false) (G9 a0.Num a0.Den)) fun r3 =>
  some (bif (bif (bif (bif (!decide (a0.Num=[])) then(!decide (a0.Den=[])) else false) then r1 else false) then r2 else false) then(decide (r3=[1])) else false)
  )
def Qa(a0:Af):Option (Af) :=
 bd (GR a0) fun r1 =>
 ite' (!decide (r1.Num=[])) (
  some (Af.mk (!r1.Neg) r1.Num r1.Den)
  ) (
  some r1
  )
def Ed(a0:Af):Option (AX) :=
 bd (gd (!(decide (a0.Num=[]))) (Ir a0)) fun r1 =>
 ite' (bif (decide (a0.Num=[])) then true else(!r1)) (
  some (AX.mk false [] [1])
  ) (
  some (AX.mk a0.Neg a0.Num a0.Den)
  )
def Kj(f0:AX)(g1:AX):Option (AX) :=
 bd (FB f0.num g1.num) fun r1 =>
 bd (FB f0.den g1.den) fun r2 =>
 some (AX.mk (!(f0.neg==g1.neg)) r1 r2)
def Kk(f0:AX)(g1:AX):Option (AX) :=
 bd (FB f0.num g1.den) fun r1 =>
 bd (FB g1.num f0.den) fun r2 =>
 bd (FB f0.den g1.den) fun r3 =>
 ite' (f0.neg==g1.neg) (
  bd (Ms r1 r2) fun r4 =>
  some (AX.mk f0.neg r4 r3)
  ) (
  bd (Mt r1 r2) fun r5 =>
  bd (α:=(List UInt8)×(List UInt8)×AX) (
   ite' (decide (r5<0)) (
    some (r2,r1,(AX.mk g1.neg f0.num f0.den))
    ) (
    some (r1,r2,f0)
    )
  )<|fun(a5,b6,b0) =>
   bd (Mu a5 b6) fun r6 =>
   some (AX.mk b0.neg r6.1 r3)
  )
def Is(n0:Int):Option (AX) :=
 ck (Au .i64 (-n0)) <|
 bd (Mv (max n0 (-n0))) fun r1 =>
 some (AX.mk (decide (n0<0)) r1.1 [1])
def Qb(a0:Af)(b1:Af):Option (Af) :=
 bd (GR a0) fun r1 =>
 bd (GR b1) fun r2 =>
 bd (Im r1) fun r3 =>
 bd (Im r2) fun r4 =>
 bd (GM r3.1 r4.1) fun r5 =>
 bd (GM r3.2 r4.2) fun r6 =>
 bd (GP (!(r1.Neg==r2.Neg)) r5 r6) fun r7 =>
 some r7
def Mw(a0:Af)(b1:Af):Option (Af) :=
 bd (GR a0) fun r1 =>
 bd (GR b1) fun r2 =>
 bd (Im r1) fun r3 =>
 bd (Im r2) fun r4 =>
 bd (GM r3.1 r4.2) fun r5 =>
 bd (GM r4.1 r3.2) fun r6 =>
 bd (GM r3.2 r4.2) fun r7 =>
 ite' (r1.Neg==r2.Neg) (
  bd (PK r5 r6) fun r8 =>
  bd (GP r1.Neg r8 r7) fun r9 =>
  some r9
  ) (
  bd (Kf r5 r6) fun r10 =>
  ite' (decide (0<=r10)) (
   bd (Kg r5 r6) fun r11 =>
   bd (GP r1.Neg r11.S r7) fun r12 =>
   some r12
   ) (
   bd (Kg r6 r5) fun r13 =>
   bd (GP r2.Neg r13.S r7) fun r14 =>
   some r14
   )
  )
def Kl(a0:List UInt8)(b1:List UInt8):Option ((List UInt8)×(List UInt8)×Int) :=
 bd (Gl a0) fun r1 =>
 bd (Gl b1) fun r2 =>
 ite' (decide ((r2.length:Int)=0)) (
  some ([],[],1)
  ) (
  bd (EM r1 r2) fun r3 =>
  bd (Ib r3.1) fun r4 =>
  bd (Ib r3.2) fun r5 =>
  some (r4,r5,0)
  )
def Qc(a0:Af):Option (Bool) :=
 bd (Ir a0) fun r1 =>
 some (bif r1 then(!a0.Neg) else false)
def Qd(a0:Af)(b1:Af):Option (Af) :=
 bd (Qa b1) fun r1 =>
 bd (Mw a0 r1) fun r2 =>
 some r2
def Mx(f0:AX)(g1:AX):Option (AX) :=
 bd (Kj f0 (AX.mk g1.neg g1.den g1.num)) fun r1 =>
 some r1
def It(f0:AX)(g1:AX):Option (AX) :=
 bd (Kk f0 (AX.mk (!g1.neg) g1.num g1.den)) fun r1 =>
 some r1
def yz1(f0:AX):Option (Af) :=
 ite' (decide (f0.num=[])) (
  some (Af.mk false [] [])
  ) (
  bd (G9 f0.num f0.den) fun r1 =>
  bd (Kl f0.num r1) fun r2 =>
  bd (Kl f0.den r1) fun r3 =>
  some (Af.mk f0.neg r2.1 r3.1)
  )
def EV(op0:AX->Option AX)(b1:Af):Option (Af) :=
 bd (Ed b1) fun r1 =>
 bd (op0 r1) fun r2 =>
 bd (yz1 r2) fun r3 =>
 some r3
def ES(a0:Af):Option (Af) :=
 bd (EV (fun a0=>It (AX.mk false [] [1]) a0) a0) fun r1 =>
 some r1
def De(a0:Af)(b1:Af):Option (Af) :=
 bd (Ed a0) fun r1 =>
 bd (EV (fun a0=>It r1 a0) b1) fun r2 =>
 some r2
def Km(al:Int)(ag:Int):Option (Af×Int) :=
 bd (Il al) fun r1 =>
 bd (gd (!(!r1)) (Il ag)) fun r2 =>
 ite' (bif (!r1) then true else(!r2)) (
  some ((Af.mk false [] []),3)
  ) (
  ite' (decide (ag=0)) (
   some ((Af.mk false [] []),1)
   ) (
   bd (Is al) fun r3 =>
   bd (Is ag) fun r4 =>
   bd (Mx r3 r4) fun r5 =>
   bd (yz1 r5) fun r6 =>
   some (r6,0)
   )
  )
def E3(a0:Af)(b1:Af):Option (Int) :=
 bd (Ed a0) fun r1 =>
 bd (Ed b1) fun r2 =>
 bd (It r1 r2) fun r3 =>
 ite' (decide (r3.num=[])) (
  some 0
  ) (
  ite' r3.neg (
   some (-1)
   ) (
   some 1
   )
  )
def Dd(a0:Af)(b1:Af):Option (Af) :=
 bd (Ed a0) fun r1 =>
 bd (EV (fun a0=>Kj r1 a0) b1) fun r2 =>
 some r2
def Cn(a0:Af)(b1:Af):Option (Af) :=
 bd (Ed a0) fun r1 =>
 bd (EV (fun a0=>Kk r1 a0) b1) fun r2 =>
 some r2
def Dc(n0:Int):Option (Af) :=
 bd (Il n0) fun r1 =>
 ite' (!r1) (
  some (Af.mk false [] [])
  ) (
  bd (Is n0) fun r2 =>
  bd (yz1 r2) fun r3 =>
  some r3
  )
def Qe :Option (Bg) :=
 bd (Dc 10) fun r1 =>
 some (Bg.mk [(Bw.mk 0 (Af.mk false [] [])),(Bw.mk 10 r1)])
def Qf(ac0:Bg):Int->Option (Int⊕(Unit⊕Int)):=fun s=>match s with
 |t18 =>
  ite' (decide (t18<(ac0.Points.length:Int))) (
   bd (at? ac0.Points t18) fun x1 =>
   bd (P7 x1.Stage) fun r1 =>
   ite' (!r1) (
    some (.inr (.inr 3))
    ) (
    bd (Qc x1.Flow) fun r2 =>
    ite' (!r2) (
     some (.inr (.inr 1))
     ) (
     ck (!(decide (0<t18))||Au .i64 (t18-1)) <|
     bd (gd (decide (0<t18)) (at? ac0.Points (t18-1))) fun x2 =>
     ck (!((decide (0<t18))&&(!(decide (x1.Stage<=x2.Stage))))||Au .i64 (t18-1)) <|
     bd (gd ((decide (0<t18))&&(!(decide (x1.Stage<=x2.Stage)))) (at? ac0.Points (t18-1))) fun x3 =>
     bd (gd ((decide (0<t18))&&(!(decide (x1.Stage<=x2.Stage)))) (E3 x1.Flow x3.Flow)) fun r3 =>
     ite' (bif (decide (0<t18)) then(bif (decide (x1.Stage<=x2.Stage)) then true else(decide (r3<0))) else false) (
      some (.inr (.inr 1))
      ) (
      ck (Au .i64 (t18+1)) <|
      some (.inl (t18+1))
      )
     )
    )
   ) (
   some (.inr (.inl ()))
   )
def Kn(ac0:Bg):Option (Int) :=
 ite' (bif (decide ((ac0.Points.length:Int)<1)) then true else(decide (16<(ac0.Points.length:Int)))) (
  some 2
  ) (
  bd (lp (Qf ac0) 0)<|fun o=>match o with
  | .inl ()=>(
    some 0
   )
  | .inr o=>(
    some o
   )
  )
def My(ac0:Bg)(a3:Int):Option (Af) :=
 bd (Ju (ac0.Points.length:Int) (fun a0=>Kc a0 ac0 a3)) fun r1 =>
 ite' (decide (r1=0)) (
  some (Af.mk false [] [])
  ) (
  ck (Au .i64 (r1-1)) <|
  bd (at? ac0.Points (r1-1)) fun x1 =>
  ite' (decide (r1=(ac0.Points.length:Int))) (
   some x1.Flow
   ) (
   bd (at? ac0.Points r1) fun x2 =>
   ck (Au .i64 (a3-x1.Stage)) <|
   ck (Au .i64 (x2.Stage-x1.Stage)) <|
   bd (Km (a3-x1.Stage) (x2.Stage-x1.Stage)) fun r2 =>
   bd (De x2.Flow x1.Flow) fun r3 =>
   bd (Dd r2.1 r3) fun r4 =>
   bd (Cn x1.Flow r4) fun r5 =>
   some r5
   )
  )
def Yq :Option ((List Ao)×(List Al)) :=
 bd (Dc 1) fun r1 =>
 bd (Qe ) fun r2 =>
 bd (Dc 2) fun r3 =>
 bd (Qe ) fun r4 =>
 some ([(Ao.mk 0 4 [(AM.mk 1 2),(AM.mk 5 1),(AM.mk 9 1)] 0 0),(Ao.mk 4 6 [] 2 3)],[(Al.mk 0 2 r1 0 r2),(Al.mk 3 5 r3 0 r4)])
def Ko(as0:Al):Option (Bool) :=
 ite' (bif (bif (bif (bif (decide (as0.From<0)) then true else(decide (as0.To<=as0.From))) then true else(decide (1402560<as0.To))) then true else(decide (as0.Datum<(-1000)))) then true else(decide (1000<as0.Datum))) (
  some false
  ) (
  bd (Ir as0.Weight) fun r1 =>
  bd (gd r1 (Kn as0.Curve)) fun r2 =>
  some (bif r1 then(decide (r2=0)) else false)
  )
def Mz(ac0:Bg)(a3:Int):Option (Af) :=
 bd (Kn ac0) fun r1 =>
 ite' (!decide (r1=0)) (
  some (Af.mk false [] [])
  ) (
  bd (My ac0 a3) fun r2 =>
  some r2
  )
def Qg(l0:List Al):(Int×Int)->Option ((Int×Int)⊕(Unit⊕Int)):=fun s=>match s with
 |(aw,t11) =>
  ite' (decide (t11<(l0.length:Int))) (
   bd (at? l0 t11) fun x1 =>
   bd (Ko x1) fun r1 =>
   ite' (bif (!r1) then true else(decide (x1.From<aw))) (
    some (.inr (.inr 1))
    ) (
    ck (Au .i64 (t11+1)) <|
    some (.inl (x1.To,(t11+1)))
    )
   ) (
   some (.inr (.inl ()))
   )
def EO(l0:List Al):Option (Int) :=
 ite' (decide (400<(l0.length:Int))) (
  some 2
  ) (
  bd (lp (Qg l0) (0,0))<|fun o=>match o with
  | .inl ()=>(
    some 0
   )
  | .inr o=>(
    some o
   )
  )
def Dt(as0:Al)(a3:Int):Option (Af) :=
 ck (Au .i64 (a3+as0.Datum)) <|
 bd (Mz as0.Curve (a3+as0.Datum)) fun r1 =>
 bd (Dd as0.Weight r1) fun r2 =>
 some r2
def F4:List Int->List (Int×Int)->Option (List (Int×Int))
 |[],m=>some m
 |s :: l,m=>ck (Au .i64 (Option.getD (mget keqI m s) 0+1)) (F4 l (mput keqI m s (Option.getD (mget keqI m s) 0+1)))
def B8(s:Al):List (Int×Int)->Af->Option Af
 |[],r=>some r
 |p :: l,r=>bd (Dc p.2) fun a=>bd (Dt s p.1) fun b=>bd (Dd a b) fun c=>bd (Cn r c) fun r=>B8 s l r
def insA{α:Type}(x:α):List α->List (List α)
 |[]=>[[x]]
 |y :: l=>(x :: y :: l) :: (insA x l).map (y :: ·)
def JO{α:Type}:List α->List (List α)
 |[]=>[[]]
 |x :: l=>(JO l).flatMap (insA x)
def eqR:Option Af->Option Af->Bool
 |some a,some b=>a.Neg==b.Neg&&(decide (a.Num=b.Num)&&decide (a.Den=b.Den))
 |_,_=>false
def F3(s:Al)(m:List (Int×Int))(r:Af):Option Af:=bif (JO m).all (fun m'=>eqR (B8 s m' r) (B8 s m r)) then B8 s m r else none
def vaL(h:AT):List Al->Af->Option (Af×Int)
 |[],r=>some (r,0)
 |s :: l,r=>ck (Au .i64 (h.From+(h.Stages.length:Int)))<|ite' (bif decide (s.From<h.From) then true else decide (h.From+(h.Stages.length:Int)<s.To)) (some (Af.mk false [] [],19)) <|
  ck (Au .i64 (s.From-h.From)&&Au .i64 (s.To-h.From)&&C3 h.Stages (s.From-h.From) (s.To-h.From)) <|
  bd (F4 (sub h.Stages (s.From-h.From) (s.To-h.From)) []) fun m=>bd (F3 s m r) fun r=>vaL h l r
def EP(h0:AT)(l1:List Al):Option (Af×Int) :=
 bd (EO l1) fun e=>ite' (!decide (e=0)) (some (Af.mk false [] [],e)) <|
 bd (EN h0) fun p=>ite' (!decide (p.2=0)) (some (Af.mk false [] [],1)) <|
 vaL h0 l1 (Af.mk false [] [])
def Ee(l0:List Ao)(a1:List Al):Option (Int) :=
 bd (Ke l0) fun r1 =>
 ite' (!decide (r1=0)) (
  some r1
  ) (
  bd (EO a1) fun r2 =>
  ite' (!decide (r2=0)) (
   some r2
   ) (
   bd (gd ((decide (0<(a1.length:Int)))&&(!(decide ((l0.length:Int)=0)))) (at? a1 0)) fun x1 =>
   bd (gd ((decide (0<(a1.length:Int)))&&(!(decide ((l0.length:Int)=0)))) (at? l0 0)) fun x2 =>
   ck (!((decide (0<(a1.length:Int)))&&(!(bif (decide ((l0.length:Int)=0)) then true else(decide (x1.From<x2.From)))))||Au .i64 ((a1.length:Int)-1)) <|
   bd (gd ((decide (0<(a1.length:Int)))&&(!(bif (decide ((l0.length:Int)=0)) then true else(decide (x1.From<x2.From))))) (at? a1 ((a1.length:Int)-1))) fun x3 =>
   ck (!((decide (0<(a1.length:Int)))&&(!(bif (decide ((l0.length:Int)=0)) then true else(decide (x1.From<x2.From)))))||Au .i64 ((l0.length:Int)-1)) <|
   bd (gd ((decide (0<(a1.length:Int)))&&(!(bif (decide ((l0.length:Int)=0)) then true else(decide (x1.From<x2.From))))) (at? l0 ((l0.length:Int)-1))) fun x4 =>
   ite' (bif (decide (0<(a1.length:Int))) then(bif (bif (decide ((l0.length:Int)=0)) then true else(decide (x1.From<x2.From))) then true else(decide (x4.To<x3.To))) else false) (
    some 19
    ) (
    some 0
    )
   )
  )
def Qh(l0:List Ao)(a1:List Al)(k2:Int):Option ((List A9)×Int) :=
 bd (Ee l0 a1) fun r1 =>
 ite' (!decide (r1=0)) (
  some ([],r1)
  ) (
  ite' (bif (decide (k2<0)) then true else(decide ((l0.length:Int)<=k2))) (
   some ([],1)
   ) (
   bd (at? l0 k2) fun x1 =>
   bd (Ih x1 a1) fun r2 =>
   some (r2,0)
   )
  )
def M0(as0:Al)(a3:Int):Option (Af×Int) :=
 bd (Ko as0) fun r1 =>
 ite' (!r1) (
  some ((Af.mk false [] []),1)
  ) (
  ite' (bif (decide (a3<0)) then true else(decide (1000<a3))) (
   some ((Af.mk false [] []),3)
   ) (
   bd (Dt as0 a3) fun r2 =>
   some (r2,0)
   )
  )
def GG(ar:Int)(a3:Int)(c0:List Al)(c1:Bool):Option (Af) :=
 ite' (decide (ar<0)) (
  some (Af.mk false [] [])
  ) (
  bd (at? c0 ar) fun x1 =>
  bd (M0 x1 a3) fun r1 =>
  ite' c1 (
   bd (ES r1.1) fun r2 =>
   some r2
   ) (
   some r1.1
   )
  )
def forN{G:Type}(f:G->Nat->Option G):Nat->Nat->G->Option G
 |0,_,s=>some s
 |m+1,k,s=>bd (f s k) fun s=>forN f m (k+1) s
def bigF:Nat:=2 ^ 4096
def lpB{G ω:Type}(body:G->Option (G⊕ω))(s:G):Option ω:=lpN body bigF s
def GE(rate:Int->Int->Option Af)(st:Int):List A9->Option (List Af)
 |[]=>some []
 |c :: l=>bd (rate c.Span st) fun a=>bd (GE rate st l) fun r=>some (a :: r)
def GD:(Int×Int×List Int×List Int)->Option ((Int×Int×List Int×List Int)⊕(Int×List Int×List Int)):=fun s=>match s with
 | (n,at0,left,row)=>ite' (decide (0<n)) (
   bd (at? left at0) fun la=>ite' (decide (la=0)) (ck (Au .i64 (at0+1))<|some (.inl (n,at0+1,left,row))) <|
   bd (at? row at0) fun xa=>ck (Au .i64 (xa+min n la)&&Au .i64 (la-min n la)&&Au .i64 (n-min n la)) <|
   some (.inl (n-min n la,at0,left.set at0.toNat (la-min n la),row.set at0.toNat (xa+min n la)))) (some (.inr (at0,left,row)))
def bgL(rate:Int->Int->Option Af)(cl:List A9):List AM->Int->List Int->List (List Af)->List (List Int)->Option (List (List Af)×List (List Int))
 |[],_,_,co,x=>some (co,x)
 |h :: t,at0,left,co,x=>bd (GE rate h.Stage cl) fun c=>bd (lp GD (h.Ticks,at0,left,List.replicate cl.length 0)) fun r=>bgL rate cl t r.1 r.2.1 (co++[c]) (x++[r.2.2])
def F7(r:Ao)(spans:List Al)(rate:Int->Int->Option Af):Option (List A9×List (List Af)×List (List Int)) :=
 bd (Ih r spans) fun cl=>ck (decide (0<cl.length)&&decide (cl.length<=1000000)&&decide (r.Table.length<=1000000)) <|
 bd (bgL rate cl r.Table 0 (cl.map (·.Ticks)) [] []) fun p=>some (cl,p.1,p.2)
def imS(co:List (List Af))(x:List (List Int))(a b:Nat)(m:Int×Af)(s:Nat):Option (Int×Af) :=
 bd (at? co (s:Int)) fun cs=>bd (at? cs (b:Int)) fun cb=>bd (at? cs (a:Int)) fun ca=>bd (De cb ca) fun d =>
 bd (at? x (s:Int)) fun xs=>bd (at? xs (a:Int)) fun xa =>
 ite' (decide (0<xa)) (ite' (decide (m.1<0)) (some ((s:Int),d)) (bd (E3 d m.2) fun q=>ite' (decide (q<0)) (some ((s:Int),d)) (some m))) (some m)
def imM(co:List (List Af))(x:List (List Int))(a b:Nat):Option (Int×Af):=forN (imS co x a b) x.length 0 (-1,Af.mk false [] [])
def Ig(co:List (List Af))(x:List (List Int))(n a:Nat):Option (List (Int×Af)):=forN (fun l b=>bd (imM co x a b) fun m=>some (l++[m])) n 0 []
def imMv(co:List (List Af))(x:List (List Int))(n:Nat):Option (List (List (Int×Af))):=forN (fun l a=>bd (Ig co x n a) fun r=>some (l++[r])) n 0 []
def imE(mv:List (List (Int×Af)))(a:Nat)(s:List Af×List Int×Int)(b:Nat):Option (List Af×List Int×Int) :=
 bd (at? mv (a:Int)) fun row=>bd (at? row (b:Int)) fun m =>
 ite' (bif !decide ((a:Int)=(b:Int)) then decide (0<=m.1) else false) (
  bd (at? s.1 (a:Int)) fun da=>bd (Cn da m.2) fun e=>bd (at? s.1 (b:Int)) fun db=>bd (E3 e db) fun q =>
  ite' (decide (q<0)) (some (s.1.set b e,s.2.1.set b (a:Int),(b:Int))) (some s)) (some s)
def JQ(mv:List (List (Int×Af)))(n:Nat)(d:List Af)(f:List Int):Option (List Af×List Int×Int):=forN (fun s a=>forN (imE mv a) n 0 s) n 0 (d,f,-1)
def imPs(mv:List (List (Int×Af)))(n:Nat):Nat->List Af->List Int->Int->Option (Option (List Int×Int))
 |0,_,f,c=>some (some (f,c))
 |k+1,d,f,_=>bd (JQ mv n d f) fun r=>ite' (decide (r.2.2<0)) (some none) (imPs mv n k r.1 r.2.1 r.2.2)
def imG(mv:List (List (Int×Af)))(f:List Int)(b:Int):Option (Int×Int):=bd (at? f b) fun a=>bd (at? mv a) fun row=>bd (at? row b) fun m=>some (a,m.1)
def DZ(mv:List (List (Int×Af)))(x:List (List Int))(f:List Int)(at0:Int):(Int×Bool×Int)->Option ((Int×Bool×Int)⊕Int):=fun s=>match s with
 | (b,begun,most)=>ite' (bif !begun then true else !decide (b=at0)) (
   bd (imG mv f b) fun g=>bd (at? x g.2) fun xs=>bd (at? xs g.1) fun xa=>some (.inl (g.1,true,min most xa))) (some (.inr most))
def Ea(mv:List (List (Int×Af)))(f:List Int)(at0 most:Int):(Int×Bool×List (List Int))->Option ((Int×Bool×List (List Int))⊕List (List Int)):=fun s=>match s with
 | (b,begun,x)=>ite' (bif !begun then true else !decide (b=at0)) (
   bd (imG mv f b) fun g=>bd (at? x g.2) fun xs=>bd (at? xs g.1) fun xa=>ck (Au .i64 (xa-most))<|bd (at? (xs.set g.1.toNat (xa-most)) b) fun xb=>ck (Au .i64 (xb+most)) <|
   some (.inl (g.1,true,x.set g.2.toNat ((xs.set g.1.toNat (xa-most)).set b.toNat (xb+most))))) (some (.inr x))
def GC(co:List (List Af))(n:Nat):(List (List Int)×List Int)->Option ((List (List Int)×List Int)⊕List (List Int)):=fun s=>match s with
 |(x,f)=>bd (imMv co x n) fun mv=>bd (imPs mv n (n+1) (List.replicate n (Af.mk false [] [])) f (-1)) fun o=>match o with
  |none=>some (.inr x)
  |some (f,c)=>bd (forN (fun(at0:Int) (_:Nat)=>at? f at0) n 0 c) fun at0 =>
   bd (lp (DZ mv x f at0) (at0,false,1402560)) fun most=>bd (lp (Ea mv f at0 most) (at0,false,x)) fun x=>some (.inl (x,f))
def F6(co:List (List Af))(x:List (List Int))(n:Nat):Option (List (List Int)):=lpB (GC co n) (x,List.replicate n 0)
def Bp(m:List (Int×List Int))(k s:Int):List (Int×List Int):=mput keqI m k (Option.getD (mget keqI m k) []++[s])
def Ec(rate:Int->Int->Option Af)(r:Ao):List A9->List (Int×List Int)->Af->Option (List (Int×List Int)×Af)
 |[],m,q=>some (m,q)
 |c :: l,m,q=>bd (rate c.Span r.Hi) fun a=>bd (rate c.Span r.Lo) fun b=>bd (E3 a b) fun e =>
  bd (forN (fun m (_:Nat)=>some (Bp m c.Span (bif decide (e<0) then r.Hi else r.Lo))) c.Ticks.toNat 0 m) fun m =>
  bd (Dc c.Ticks) fun i=>bd (rate c.Span (bif decide (e<0) then r.Hi else r.Lo)) fun g=>bd (Dd i g) fun p=>bd (Cn q p) fun q=>Ec rate r l m q
def D3(h:AM):List A9->List Af->List Int->List (Int×List Int)->Af->Option (List (Int×List Int)×Af)
 |c :: cl,g :: co,n :: x,m,q=>bd (forN (fun m (_:Nat)=>some (Bp m c.Span h.Stage)) n.toNat 0 m) fun m =>
  bd (Dc n) fun i=>bd (Dd i g) fun p=>bd (Cn q p) fun q=>D3 h cl co x m q
 |_,_,[],m,q=>some (m,q)
 |_,_,_,_,_=>none
def D4(cl:List A9):List AM->List (List Af)->List (List Int)->List (Int×List Int)->Af->Option (List (Int×List Int)×Af)
 |h :: t,co :: cs,x :: xs,m,q=>bd (D3 h cl co x m q) fun r=>D4 cl t cs xs r.1 r.2
 |_,_,[],m,q=>some (m,q)
 |_,_,_,_,_=>none
def enAt(spans:List Al)(t:Int):Option Int:=bd (Ju (spans.length:Int) (fun a0=>F8 a0 spans t)) fun k =>
 bd (gd (!decide (k=(spans.length:Int))) (at? spans k)) fun x=>some (bif (bif decide (k=(spans.length:Int)) then true else decide (t<x.From)) then -1 else k)
def EQ(spans:List Al)(a8 to0:Int):(Int×List (Int×List Int)×List Int)->Option ((Int×List (Int×List Int)×List Int)⊕List Int):=fun s=>match s with
 | (t,m,out)=>ite' (decide (t<to0)) (
   bd (enAt spans t) fun k=>bd (mget keqI m k) fun l=>match l with
   |[]=>none
   | s :: l=>ck (Au .i64 (t-a8)&&(decide (0<=t-a8)&&decide (t-a8<(out.length:Int)))&&Au .i64 (t+1))<|some (.inl (t+1,mput keqI m k l,out.set (t-a8).toNat s))) (some (.inr out))
def ER(spans:List Al)(rate:Int->Int->Option Af)(a8:Int):List Ao->Af->List Int->Option (Af×List Int)
 |[],q,out=>some (q,out)
 | r :: l,q,out=>bd (ite' (decide ((r.Table.length:Int)=0)) (bd (Ih r spans) fun cl=>ck (decide (cl.length<=1000000))<|Ec rate r cl [] q)
   (bd (F7 r spans rate) fun b=>bd (F6 b.2.1 b.2.2 b.1.length) fun x=>D4 b.1 r.Table b.2.1 x [] q)) fun p =>
  ck (p.1.all fun e=>decide ((e.2.length:Int)<=1000000000))<|bd (lp (EQ spans a8 r.To) (r.From,p.1,out)) fun out=>ER spans rate a8 l p.2 out
def GI(l0:List Ao)(a1:List Al)(ap:Bool):Option (Af×AT) :=
 bd (gd (decide (0<(l0.length:Int))) (at? l0 0)) fun a=>bd (gd (decide (0<(l0.length:Int))) (at? l0 ((l0.length:Int)-1))) fun z =>
 ck (decide ((l0.length:Int)<=1000000000)&&(!decide (0<(l0.length:Int))||(Au .i64 (z.To-a.From)&&decide (0<=z.To-a.From)&&decide (z.To-a.From<=1000000000)))) <|
 bd (ER a1 (fun s t=>GG s t a1 ap) (bif decide (0<(l0.length:Int)) then a.From else 0) l0 (Af.mk false [] []) (bif decide (0<(l0.length:Int)) then List.replicate (z.To-a.From).toNat 0 else [])) fun r =>
 bd (ite' ap (ES r.1) (some r.1)) fun q=>some (q,AT.mk (bif decide (0<(l0.length:Int)) then a.From else 0) r.2)
def Kp(l0:List Ao)(a1:List Al):Option (Af×AT×Int) :=
 bd (Ee l0 a1) fun r1 =>
 ite' (!decide (r1=0)) (
  some ((Af.mk false [] []),(AT.mk 0 []),r1)
  ) (
  bd (GI l0 a1 false) fun r2 =>
  some (r2.1,r2.2,0)
  )
def Kq(l0:List Ao)(a1:List Al):Option (Af×AT×Int) :=
 bd (Ee l0 a1) fun r1 =>
 ite' (!decide (r1=0)) (
  some ((Af.mk false [] []),(AT.mk 0 []),r1)
  ) (
  bd (GI l0 a1 true) fun r2 =>
  some (r2.1,r2.2,0)
  )
def GS(l0:List Ao)(a1:List Al):Option (Fp×Int) :=
 bd (Kp l0 a1) fun r1 =>
 bd (Kq l0 a1) fun r2 =>
 ite' (bif (!decide (r1.2.2=0)) then true else(!decide (r2.2.2=0))) (
  some ((Fp.mk (Af.mk false [] []) (Af.mk false [] [])),r1.2.2)
  ) (
  some ((Fp.mk r1.1 r2.1),0)
  )
def FC :Option (Bool) :=
 bd (Yq ) fun r1 =>
 bd (Qh r1.1 r1.2 0) fun r2 =>
 bd (Qh r1.1 r1.2 1) fun r3 =>
 bd (Kp r1.1 r1.2) fun r4 =>
 bd (Kq r1.1 r1.2) fun r5 =>
 bd (GS r1.1 r1.2) fun r6 =>
 bd (EN (AT.mk 0 [1,5,1,9,2,3])) fun r7 =>
 bd (GS r7.1 r1.2) fun r8 =>
 ite' (bif (bif (bif (bif (bif (bif (bif (bif (!decide (r2.2=0)) then true else(!decide (r3.2=0))) then true else(!decide (r4.2.2=0))) then true else(!decide (r5.2.2=0))) then true else(!decide (r6.2=0))) then true else(!decide (r7.2=0))) then true else(!decide (r8.2=0))) then true else(!decide ((r2.1.length:Int)=3))) then true else(!decide ((r3.1.length:Int)=2))) (
  some false
  ) (
  bd (EP r4.2.1 r1.2) fun r9 =>
  bd (EP r5.2.1 r1.2) fun r10 =>
  bd (at? r2.1 0) fun x1 =>
  bd (gd (decide (x1.Span=0)&&(decide (x1.Ticks=2)&&true)) (at? r2.1 1)) fun x2 =>
  bd (gd (bif (decide (x1.Span=0)&&(decide (x1.Ticks=2)&&true)) then(decide (x2.Span=1)&&(decide (x2.Ticks=1)&&true)) else false) (at? r2.1 2)) fun x3 =>
  bd (gd (bif (bif (decide (x1.Span=0)&&(decide (x1.Ticks=2)&&true)) then(decide (x2.Span=1)&&(decide (x2.Ticks=1)&&true)) else false) then(decide (x3.Span=(-1))&&(decide (x3.Ticks=1)&&true)) else false) (at? r3.1 0)) fun x4 =>
  bd (gd (bif (bif (bif (decide (x1.Span=0)&&(decide (x1.Ticks=2)&&true)) then(decide (x2.Span=1)&&(decide (x2.Ticks=1)&&true)) else false) then(decide (x3.Span=(-1))&&(decide (x3.Ticks=1)&&true)) else false) then(decide (x4.Span=1)&&(decide (x4.Ticks=1)&&true)) else false) (at? r3.1 1)) fun x5 =>
  bd (Dc 12) fun r11 =>
  bd (gd ((r4.1.Neg==r11.Neg)&&(decide (r4.1.Num=r11.Num)&&(decide (r4.1.Den=r11.Den)&&true))) (Dc 30)) fun r12 =>
  bd (gd (bif (bif ((r4.1.Neg==r11.Neg)&&(decide (r4.1.Num=r11.Num)&&(decide (r4.1.Den=r11.Den)&&true))) then((r5.1.Neg==r12.Neg)&&(decide (r5.1.Num=r12.Num)&&(decide (r5.1.Den=r12.Den)&&true))) else false) then((r6.1.Lo.Neg==r4.1.Neg)&&(decide (r6.1.Lo.Num=r4.1.Num)&&(decide (r6.1.Lo.Den=r4.1.Den)&&((r6.1.Hi.Neg==r5.1.Neg)&&(decide (r6.1.Hi.Num=r5.1.Num)&&(decide (r6.1.Hi.Den=r5.1.Den)&&true)))))) else false) (GQ r1.1 r4.2.1)) fun r13 =>
  bd (gd (bif (bif (bif ((r4.1.Neg==r11.Neg)&&(decide (r4.1.Num=r11.Num)&&(decide (r4.1.Den=r11.Den)&&true))) then((r5.1.Neg==r12.Neg)&&(decide (r5.1.Num=r12.Num)&&(decide (r5.1.Den=r12.Den)&&true))) else false) then((r6.1.Lo.Neg==r4.1.Neg)&&(decide (r6.1.Lo.Num=r4.1.Num)&&(decide (r6.1.Lo.Den=r4.1.Den)&&((r6.1.Hi.Neg==r5.1.Neg)&&(decide (r6.1.Hi.Num=r5.1.Num)&&(decide (r6.1.Hi.Den=r5.1.Den)&&true)))))) else false) then r13 else false) (GQ r1.1 r5.2.1)) fun r14 =>
  bd (gd (bif (bif (bif (bif (bif (decide (x1.Span=0)&&(decide (x1.Ticks=2)&&true)) then(decide (x2.Span=1)&&(decide (x2.Ticks=1)&&true)) else false) then(decide (x3.Span=(-1))&&(decide (x3.Ticks=1)&&true)) else false) then(decide (x4.Span=1)&&(decide (x4.Ticks=1)&&true)) else false) then(decide (x5.Span=(-1))&&(decide (x5.Ticks=1)&&true)) else false) then(bif (bif (bif (bif (bif (bif (bif (bif ((r4.1.Neg==r11.Neg)&&(decide (r4.1.Num=r11.Num)&&(decide (r4.1.Den=r11.Den)&&true))) then((r5.1.Neg==r12.Neg)&&(decide (r5.1.Num=r12.Num)&&(decide (r5.1.Den=r12.Den)&&true))) else false) then((r6.1.Lo.Neg==r4.1.Neg)&&(decide (r6.1.Lo.Num=r4.1.Num)&&(decide (r6.1.Lo.Den=r4.1.Den)&&((r6.1.Hi.Neg==r5.1.Neg)&&(decide (r6.1.Hi.Num=r5.1.Num)&&(decide (r6.1.Hi.Den=r5.1.Den)&&true)))))) else false) then r13 else false) then r14 else false) then((r9.1.Neg==r4.1.Neg)&&(decide (r9.1.Num=r4.1.Num)&&(decide (r9.1.Den=r4.1.Den)&&true))) else false) then((r10.1.Neg==r5.1.Neg)&&(decide (r10.1.Num=r5.1.Num)&&(decide (r10.1.Den=r5.1.Den)&&true))) else false) then(decide (r9.2=0)) else false) then(decide (r10.2=0)) else false) else false) (Dc 28)) fun r15 =>
  bd (gd (bif (bif (bif (bif (bif (decide (x1.Span=0)&&(decide (x1.Ticks=2)&&true)) then(decide (x2.Span=1)&&(decide (x2.Ticks=1)&&true)) else false) then(decide (x3.Span=(-1))&&(decide (x3.Ticks=1)&&true)) else false) then(decide (x4.Span=1)&&(decide (x4.Ticks=1)&&true)) else false) then(decide (x5.Span=(-1))&&(decide (x5.Ticks=1)&&true)) else false) then(bif (bif (bif (bif (bif (bif (bif (bif ((r4.1.Neg==r11.Neg)&&(decide (r4.1.Num=r11.Num)&&(decide (r4.1.Den=r11.Den)&&true))) then((r5.1.Neg==r12.Neg)&&(decide (r5.1.Num=r12.Num)&&(decide (r5.1.Den=r12.Den)&&true))) else false) then((r6.1.Lo.Neg==r4.1.Neg)&&(decide (r6.1.Lo.Num=r4.1.Num)&&(decide (r6.1.Lo.Den=r4.1.Den)&&((r6.1.Hi.Neg==r5.1.Neg)&&(decide (r6.1.Hi.Num=r5.1.Num)&&(decide (r6.1.Hi.Den=r5.1.Den)&&true)))))) else false) then r13 else false) then r14 else false) then((r9.1.Neg==r4.1.Neg)&&(decide (r9.1.Num=r4.1.Num)&&(decide (r9.1.Den=r4.1.Den)&&true))) else false) then((r10.1.Neg==r5.1.Neg)&&(decide (r10.1.Num=r5.1.Num)&&(decide (r10.1.Den=r5.1.Den)&&true))) else false) then(decide (r9.2=0)) else false) then(decide (r10.2=0)) else false) else false) (Dc 28)) fun r16 =>
  bd (gd (bif (bif (bif (bif (bif (bif (decide (x1.Span=0)&&(decide (x1.Ticks=2)&&true)) then(decide (x2.Span=1)&&(decide (x2.Ticks=1)&&true)) else false) then(decide (x3.Span=(-1))&&(decide (x3.Ticks=1)&&true)) else false) then(decide (x4.Span=1)&&(decide (x4.Ticks=1)&&true)) else false) then(decide (x5.Span=(-1))&&(decide (x5.Ticks=1)&&true)) else false) then(bif (bif (bif (bif (bif (bif (bif (bif ((r4.1.Neg==r11.Neg)&&(decide (r4.1.Num=r11.Num)&&(decide (r4.1.Den=r11.Den)&&true))) then((r5.1.Neg==r12.Neg)&&(decide (r5.1.Num=r12.Num)&&(decide (r5.1.Den=r12.Den)&&true))) else false) then((r6.1.Lo.Neg==r4.1.Neg)&&(decide (r6.1.Lo.Num=r4.1.Num)&&(decide (r6.1.Lo.Den=r4.1.Den)&&((r6.1.Hi.Neg==r5.1.Neg)&&(decide (r6.1.Hi.Num=r5.1.Num)&&(decide (r6.1.Hi.Den=r5.1.Den)&&true)))))) else false) then r13 else false) then r14 else false) then((r9.1.Neg==r4.1.Neg)&&(decide (r9.1.Num=r4.1.Num)&&(decide (r9.1.Den=r4.1.Den)&&true))) else false) then((r10.1.Neg==r5.1.Neg)&&(decide (r10.1.Num=r5.1.Num)&&(decide (r10.1.Den=r5.1.Den)&&true))) else false) then(decide (r9.2=0)) else false) then(decide (r10.2=0)) else false) else false) then((r8.1.Lo.Neg==r15.Neg)&&(decide (r8.1.Lo.Num=r15.Num)&&(decide (r8.1.Lo.Den=r15.Den)&&((r8.1.Hi.Neg==r16.Neg)&&(decide (r8.1.Hi.Num=r16.Num)&&(decide (r8.1.Hi.Den=r16.Den)&&true)))))) else false) (Ee r1.1 r1.2)) fun r17 =>
  ck (!(bif (bif (bif (bif (bif (bif (bif (decide (x1.Span=0)&&(decide (x1.Ticks=2)&&true)) then(decide (x2.Span=1)&&(decide (x2.Ticks=1)&&true)) else false) then(decide (x3.Span=(-1))&&(decide (x3.Ticks=1)&&true)) else false) then(decide (x4.Span=1)&&(decide (x4.Ticks=1)&&true)) else false) then(decide (x5.Span=(-1))&&(decide (x5.Ticks=1)&&true)) else false) then(bif (bif (bif (bif (bif (bif (bif (bif ((r4.1.Neg==r11.Neg)&&(decide (r4.1.Num=r11.Num)&&(decide (r4.1.Den=r11.Den)&&true))) then((r5.1.Neg==r12.Neg)&&(decide (r5.1.Num=r12.Num)&&(decide (r5.1.Den=r12.Den)&&true))) else false) then((r6.1.Lo.Neg==r4.1.Neg)&&(decide (r6.1.Lo.Num=r4.1.Num)&&(decide (r6.1.Lo.Den=r4.1.Den)&&((r6.1.Hi.Neg==r5.1.Neg)&&(decide (r6.1.Hi.Num=r5.1.Num)&&(decide (r6.1.Hi.Den=r5.1.Den)&&true)))))) else false) then r13 else false) then r14 else false) then((r9.1.Neg==r4.1.Neg)&&(decide (r9.1.Num=r4.1.Num)&&(decide (r9.1.Den=r4.1.Den)&&true))) else false) then((r10.1.Neg==r5.1.Neg)&&(decide (r10.1.Num=r5.1.Num)&&(decide (r10.1.Den=r5.1.Den)&&true))) else false) then(decide (r9.2=0)) else false) then(decide (r10.2=0)) else false) else false) then((r8.1.Lo.Neg==r15.Neg)&&(decide (r8.1.Lo.Num=r15.Num)&&(decide (r8.1.Lo.Den=r15.Den)&&((r8.1.Hi.Neg==r16.Neg)&&(decide (r8.1.Hi.Num=r16.Num)&&(decide (r8.1.Hi.Den=r16.Den)&&true)))))) else false) then(decide (r17=0)) else false)||(C3 r1.1 0 1)) <|
  bd (gd (bif (bif (bif (bif (bif (bif (bif (decide (x1.Span=0)&&(decide (x1.Ticks=2)&&true)) then(decide (x2.Span=1)&&(decide (x2.Ticks=1)&&true)) else false) then(decide (x3.Span=(-1))&&(decide (x3.Ticks=1)&&true)) else false) then(decide (x4.Span=1)&&(decide (x4.Ticks=1)&&true)) else false) then(decide (x5.Span=(-1))&&(decide (x5.Ticks=1)&&true)) else false) then(bif (bif (bif (bif (bif (bif (bif (bif ((r4.1.Neg==r11.Neg)&&(decide (r4.1.Num=r11.Num)&&(decide (r4.1.Den=r11.Den)&&true))) then((r5.1.Neg==r12.Neg)&&(decide (r5.1.Num=r12.Num)&&(decide (r5.1.Den=r12.Den)&&true))) else false) then((r6.1.Lo.Neg==r4.1.Neg)&&(decide (r6.1.Lo.Num=r4.1.Num)&&(decide (r6.1.Lo.Den=r4.1.Den)&&((r6.1.Hi.Neg==r5.1.Neg)&&(decide (r6.1.Hi.Num=r5.1.Num)&&(decide (r6.1.Hi.Den=r5.1.Den)&&true)))))) else false) then r13 else false) then r14 else false) then((r9.1.Neg==r4.1.Neg)&&(decide (r9.1.Num=r4.1.Num)&&(decide (r9.1.Den=r4.1.Den)&&true))) else false) then((r10.1.Neg==r5.1.Neg)&&(decide (r10.1.Num=r5.1.Num)&&(decide (r10.1.Den=r5.1.Den)&&true))) else false) then(decide (r9.2=0)) else false) then(decide (r10.2=0)) else false) else false) then((r8.1.Lo.Neg==r15.Neg)&&(decide (r8.1.Lo.Num=r15.Num)&&(decide (r8.1.Lo.Den=r15.Den)&&((r8.1.Hi.Neg==r16.Neg)&&(decide (r8.1.Hi.Num=r16.Num)&&(decide (r8.1.Hi.Den=r16.Den)&&true)))))) else false) then(decide (r17=0)) else false) (Ee (sub r1.1 0 1) r1.2)) fun r18 =>
  some (bif (bif (bif (bif (bif (bif (bif (bif (decide (x1.Span=0)&&(decide (x1.Ticks=2)&&true)) then(decide (x2.Span=1)&&(decide (x2.Ticks=1)&&true)) else false) then(decide (x3.Span=(-1))&&(decide (x3.Ticks=1)&&true)) else false) then(decide (x4.Span=1)&&(decide (x4.Ticks=1)&&true)) else false) then(decide (x5.Span=(-1))&&(decide (x5.Ticks=1)&&true)) else false) then(bif (bif (bif (bif (bif (bif (bif (bif ((r4.1.Neg==r11.Neg)&&(decide (r4.1.Num=r11.Num)&&(decide (r4.1.Den=r11.Den)&&true))) then((r5.1.Neg==r12.Neg)&&(decide (r5.1.Num=r12.Num)&&(decide (r5.1.Den=r12.Den)&&true))) else false) then((r6.1.Lo.Neg==r4.1.Neg)&&(decide (r6.1.Lo.Num=r4.1.Num)&&(decide (r6.1.Lo.Den=r4.1.Den)&&((r6.1.Hi.Neg==r5.1.Neg)&&(decide (r6.1.Hi.Num=r5.1.Num)&&(decide (r6.1.Hi.Den=r5.1.Den)&&true)))))) else false) then r13 else false) then r14 else false) then((r9.1.Neg==r4.1.Neg)&&(decide (r9.1.Num=r4.1.Num)&&(decide (r9.1.Den=r4.1.Den)&&true))) else false) then((r10.1.Neg==r5.1.Neg)&&(decide (r10.1.Num=r5.1.Num)&&(decide (r10.1.Den=r5.1.Den)&&true))) else false) then(decide (r9.2=0)) else false) then(decide (r10.2=0)) else false) else false) then((r8.1.Lo.Neg==r15.Neg)&&(decide (r8.1.Lo.Num=r15.Num)&&(decide (r8.1.Lo.Den=r15.Den)&&((r8.1.Hi.Neg==r16.Neg)&&(decide (r8.1.Hi.Num=r16.Num)&&(decide (r8.1.Hi.Den=r16.Den)&&true)))))) else false) then(decide (r17=0)) else false) then(decide (r18=19)) else false)
  )
def Qi(l0:List Ao)(a1:List Al)(h2:AT):Option (Bool) :=
 bd (Ml l0 a1 100) fun r1 =>
 bd (gd (!(!r1)) (Ee l0 a1)) fun r2 =>
 bd (gd (!(bif (!r1) then true else(!decide (r2=0)))) (GQ l0 h2)) fun r3 =>
 ite' (bif (bif (!r1) then true else(!decide (r2=0))) then true else(!r3)) (
  bd (FC ) fun r4 =>
  some r4
  ) (
  bd (GS l0 a1) fun r5 =>
  bd (EP h2 a1) fun r6 =>
  bd (FC ) fun r7 =>
  bd (gd (bif (bif r7 then(decide (r5.2=0)) else false) then(decide (r6.2=0)) else false) (E3 r5.1.Lo r6.1)) fun r8 =>
  bd (gd (bif (bif (bif r7 then(decide (r5.2=0)) else false) then(decide (r6.2=0)) else false) then(decide (r8<=0)) else false) (E3 r6.1 r5.1.Hi)) fun r9 =>
  some (bif (bif (bif (bif r7 then(decide (r5.2=0)) else false) then(decide (r6.2=0)) else false) then(decide (r8<=0)) else false) then(decide (r9<=0)) else false)
  )
end Go.Am

