/- Part F1: the functions of this seat as functions of plain values. No condition. -/
import Derived.Test.YtibbibelkkgfpaaGreatDoorX1
set_option linter.unusedVariables false
namespace Go.Am
structure AM where
 Stage:Int
 Ticks:Int
deriving DecidableEq,Inhabited
structure Ao where
 From:Int
 To:Int
 Table:List AM
 Lo:Int
 Hi:Int
deriving DecidableEq,Inhabited
structure Af where
 Neg:Bool
 Num:List UInt8
 Den:List UInt8
deriving DecidableEq,Inhabited
structure Bq where
 Stage:Int
 Flow:Af
deriving DecidableEq,Inhabited
structure Bc where
 Points:List Bq
deriving DecidableEq,Inhabited
structure Al where
 From:Int
 To:Int
 Weight:Af
 Datum:Int
 Curve:Bc
deriving DecidableEq,Inhabited
structure Ba where
 From:Int
 Stages:List Int
deriving DecidableEq,Inhabited
structure Ec where
 At:Int
 By:Af
deriving DecidableEq,Inhabited
structure GP where
 A:List Ao
 B:List Ao
deriving DecidableEq,Inhabited
structure EA where
 From:Int
 To:Int
deriving DecidableEq,Inhabited
structure Gt where
 e0:Int
 e1:Int
deriving DecidableEq,Inhabited
structure AQ where
 neg:Bool
 num:List UInt8
 den:List UInt8
deriving DecidableEq,Inhabited
structure A7 where
 Span:Int
 Ticks:Int
deriving DecidableEq,Inhabited
structure GQ where
 run:Ao
 classes:List A7
 cost:List (List Af)
 x:List (List Int)
deriving DecidableEq,Inhabited
structure ES where
 Q:List UInt8
 R:List UInt8
 E:Int
deriving DecidableEq,Inhabited
structure DQ where
 S:List UInt8
 E:Int
deriving DecidableEq,Inhabited
structure EB where
 A:Af
 E:Int
deriving DecidableEq,Inhabited
structure GR where
 L:List Al
 E:Int
deriving DecidableEq,Inhabited
structure GS where
 L:List A7
 E:Int
deriving DecidableEq,Inhabited
structure Dh where
 Lo:Af
 Hi:Af
deriving DecidableEq,Inhabited
structure Gu where
 B:Dh
 E:Int
deriving DecidableEq,Inhabited
def qz43(x y:AM):Bool:=(decide (x.Stage=y.Stage)&&(decide (x.Ticks=y.Ticks)&&true))
def qz60(x y:Af):Bool:=((x.Neg==y.Neg)&&(decide (x.Num=y.Num)&&(decide (x.Den=y.Den)&&true)))
def qz1r(x y:Bq):Bool:=(decide (x.Stage=y.Stage)&&((x.Flow.Neg==y.Flow.Neg)&&(decide (x.Flow.Num=y.Flow.Num)&&(decide (x.Flow.Den=y.Flow.Den)&&true))))
def qzyt(x y:Ec):Bool:=(decide (x.At=y.At)&&((x.By.Neg==y.By.Neg)&&(decide (x.By.Num=y.By.Num)&&(decide (x.By.Den=y.By.Den)&&true))))
def qz1w(x y:EA):Bool:=(decide (x.From=y.From)&&(decide (x.To=y.To)&&true))
def qz29(x y:Gt):Bool:=(decide (x.e0=y.e0)&&(decide (x.e1=y.e1)&&true))
def qzu7(x y:AQ):Bool:=((x.neg==y.neg)&&(decide (x.num=y.num)&&(decide (x.den=y.den)&&true)))
def qz1u(x y:A7):Bool:=(decide (x.Span=y.Span)&&(decide (x.Ticks=y.Ticks)&&true))
def qzuk(x y:ES):Bool:=(decide (x.Q=y.Q)&&(decide (x.R=y.R)&&(decide (x.E=y.E)&&true)))
def qzy2(x y:DQ):Bool:=(decide (x.S=y.S)&&(decide (x.E=y.E)&&true))
def qzzm(x y:EB):Bool:=((x.A.Neg==y.A.Neg)&&(decide (x.A.Num=y.A.Num)&&(decide (x.A.Den=y.A.Den)&&(decide (x.E=y.E)&&true))))
def qzyp(x y:Dh):Bool:=((x.Lo.Neg==y.Lo.Neg)&&(decide (x.Lo.Num=y.Lo.Num)&&(decide (x.Lo.Den=y.Lo.Den)&&((x.Hi.Neg==y.Hi.Neg)&&(decide (x.Hi.Num=y.Hi.Num)&&(decide (x.Hi.Den=y.Hi.Den)&&true))))))
def qzuj(x y:Gu):Bool:=((x.B.Lo.Neg==y.B.Lo.Neg)&&(decide (x.B.Lo.Num=y.B.Lo.Num)&&(decide (x.B.Lo.Den=y.B.Lo.Den)&&((x.B.Hi.Neg==y.B.Hi.Neg)&&(decide (x.B.Hi.Num=y.B.Hi.Num)&&(decide (x.B.Hi.Den=y.B.Hi.Den)&&(decide (x.E=y.E)&&true)))))))
def In(l:List Int):Option (List Int):=ck (decide (l.length<=4611686018427387904)) (some l.reverse)
def F7(l:List Int):Option (List Int):=ck (decide (0<l.length)&&decide (l.length*4<=140737488355328)) (some l)
def Hc(ax0:Ao):Option (Bool) :=
 some (decide ((ax0.Table.length:Int)=0))
def Hd(n0:Int)(lo1:Int)(jx:Int):Option (Bool) :=
 some (bif (decide (lo1<=n0)) then(decide (n0<=jx)) else false)
def Kg(a0:List UInt8):Option (Bool) :=
 ck (!(!(decide (a0=[])))||(BR a0 0)) <|
 some (bif (decide (a0=[])) then true else(!decide ((Ct a0 0)=0)))
def Iq(a8:Int)(to1:Int)(aw:Int):Option (Ao) :=
 ck (Au .i64 (to1-a8)) <|
 some (Ao.mk a8 to1 [(AM.mk aw (to1-a8))] 0 0)
def PP(ax0:Ao):Option (Bool) :=
 some (decide ((ax0.Table.length:Int)=1))
def M1(ax0:Ao):Int->Option (Int⊕(Unit⊕Int)):=fun s=>match s with
 |k3 =>
  ite' (decide (k3<(ax0.Table.length:Int))) (
   bd (at? ax0.Table k3) fun x1 =>
   ite' (bif (bif (bif (decide (x1.Stage<0)) then true else(decide (1000<x1.Stage))) then true else(decide (x1.Ticks<1))) then true else(decide (1402560<x1.Ticks))) (
    some (.inr (.inr 3))
    ) (
    ck (Au .i64 (k3+1)) <|
    some (.inl (k3+1))
    )
   ) (
   some (.inr (.inl ()))
   )
def PQ(ax0:Ao):(Int×Int)->Option ((Int×Int)⊕(Int⊕Int)):=fun s=>match s with
 |(ae,k6) =>
  ite' (decide (k6<(ax0.Table.length:Int))) (
   ck (!(decide (0<k6))||Au .i64 (k6-1)) <|
   bd (gd (decide (0<k6)) (at? ax0.Table (k6-1))) fun x2 =>
   bd (gd (decide (0<k6)) (at? ax0.Table k6)) fun x3 =>
   ite' (bif (decide (0<k6)) then(decide (x3.Stage<=x2.Stage)) else false) (
    some (.inr (.inr 1))
    ) (
    bd (at? ax0.Table k6) fun x4 =>
    ck (Au .i64 (ae+x4.Ticks)) <|
    ck (Au .i64 (k6+1)) <|
    some (.inl ((ae+x4.Ticks),(k6+1)))
    )
   ) (
   some (.inr (.inl ae))
   )
def Iy(ax0:Ao):Option (Int) :=
 ite' (decide ((ax0.Table.length:Int)=0)) (
  ite' (bif (bif (decide (ax0.Lo<0)) then true else(decide (ax0.Hi<ax0.Lo))) then true else(decide (1000<ax0.Hi))) (
   some 3
   ) (
   some 0
   )
  ) (
  bd (lp (M1 ax0) 0)<|fun o=>match o with
  | .inl ()=>(
    bd (lp (PQ ax0) (0,0))<|fun o=>match o with
    | .inl ae=>(
      ck (Au .i64 (ax0.To-ax0.From)) <|
      ite' (bif (bif (!decide (ae=(ax0.To-ax0.From))) then true else(!decide (ax0.Lo=0))) then true else(!decide (ax0.Hi=0))) (
       some 1
       ) (
       some 0
       )
     )
    | .inr o=>(
      some o
     )
   )
  | .inr o=>(
    some o
   )
  )
def PR(ac0:Bc):Int->Option (Int⊕(Unit⊕Bool)):=fun s=>match s with
 |k3 =>
  ite' (decide (k3<(ac0.Points.length:Int))) (
   bd (at? ac0.Points k3) fun x1 =>
   bd (gd (!(decide (12<(x1.Flow.Num.length:Int)))) (at? ac0.Points k3)) fun x2 =>
   ite' (bif (decide (12<(x1.Flow.Num.length:Int))) then true else(decide (12<(x2.Flow.Den.length:Int)))) (
    some (.inr (.inr false))
    ) (
    ck (Au .i64 (k3+1)) <|
    some (.inl (k3+1))
    )
   ) (
   some (.inr (.inl ()))
   )
def Kh(ac0:Bc):Option (Bool) :=
 ite' (decide (20<(ac0.Points.length:Int))) (
  some false
  ) (
  bd (lp (PR ac0) 0)<|fun o=>match o with
  | .inl ()=>(
    some true
   )
  | .inr o=>(
    some o
   )
  )
def Iz(n0:Int):Option (Bool) :=
 some (bif (decide ((-999999999999999)<=n0)) then(decide (n0<=999999999999999)) else false)
def M2(ax0:Ao):Int->Option (Int⊕(Unit⊕Int)):=fun s=>match s with
 |t43 =>
  ite' (decide (t43<(ax0.Table.length:Int))) (
   bd (at? ax0.Table t43) fun x1 =>
   bd (Hd x1.Stage 0 1000) fun r2 =>
   bd (gd (!(!r2)) (Hd x1.Ticks 1 1402560)) fun r3 =>
   ite' (bif (!r2) then true else(!r3)) (
    some (.inr (.inr 3))
    ) (
    ck (Au .i64 (t43+1)) <|
    some (.inl (t43+1))
    )
   ) (
   some (.inr (.inl ()))
   )
def PS(ax0:Ao):(Int×Int)->Option ((Int×Int)⊕(Int⊕Int)):=fun s=>match s with
 |(ae,t61) =>
  ite' (decide (t61<(ax0.Table.length:Int))) (
   bd (at? ax0.Table t61) fun x2 =>
   ck (!(decide (0<t61))||Au .i64 (t61-1)) <|
   bd (gd (decide (0<t61)) (at? ax0.Table (t61-1))) fun x3 =>
   ite' (bif (decide (0<t61)) then(decide (x2.Stage<=x3.Stage)) else false) (
    some (.inr (.inr 1))
    ) (
    ck (Au .i64 (ae+x2.Ticks)) <|
    ck (Au .i64 (t61+1)) <|
    some (.inl ((ae+x2.Ticks),(t61+1)))
    )
   ) (
   some (.inr (.inl ae))
   )
def Ki(ax0:Ao):Option (Int) :=
 ite' (bif (bif (decide (ax0.From<0)) then true else(decide (ax0.To<=ax0.From))) then true else(decide (1402560<ax0.To))) (
  some 3
  ) (
  bd (Hc ax0) fun r1 =>
  ite' r1 (
   ite' (bif (bif (decide (ax0.Lo<0)) then true else(decide (ax0.Hi<ax0.Lo))) then true else(decide (1000<ax0.Hi))) (
    some 3
    ) (
    some 0
    )
   ) (
   bd (lp (M2 ax0) 0)<|fun o=>match o with
   | .inl ()=>(
     bd (lp (PS ax0) (0,0))<|fun o=>match o with
     | .inl ae=>(
       ck (Au .i64 (ax0.To-ax0.From)) <|
       ite' (bif (bif (!decide (ae=(ax0.To-ax0.From))) then true else(!decide (ax0.Lo=0))) then true else(!decide (ax0.Hi=0))) (
        some 1
        ) (
        some 0
        )
      )
     | .inr o=>(
       some o
      )
    )
   | .inr o=>(
     some o
    )
   )
  )
def Kj(f1:Int->Option Bool):(Int×Int)->Option ((Int×Int)⊕Int):=fun s=>match s with
 |(i5,j6) =>
  ite' (decide (i5<j6)) (
   ck (Au .i64 (i5+j6)) <|
   ck (Au .i64 (Int.fdiv ((i5+j6)%18446744073709551616) 2)) <|
   bd (f1 (Int.fdiv ((i5+j6)%18446744073709551616) 2)) fun r1 =>
   ite' (!r1) (
    ck (Au .i64 ((Int.fdiv ((i5+j6)%18446744073709551616) 2)+1)) <|
    some (.inl (((Int.fdiv ((i5+j6)%18446744073709551616) 2)+1),j6))
    ) (
    some (.inl (i5,(Int.fdiv ((i5+j6)%18446744073709551616) 2)))
    )
   ) (
   some (.inr i5)
   )
def J2(n0:Int)(f1:Int->Option Bool):Option (Int) :=
 bd (lp (Kj f1) (0,n0))<|fun i5 =>
 some i5
def M3(k0:Int)(c0:List Al)(c1:Ao):Option (Bool) :=
 bd (at? c0 k0) fun x1 =>
 some (decide (c1.From<x1.To))
def FC(k0:Int)(c0:List Al)(c1:Int):Option (Bool) :=
 bd (at? c0 k0) fun x1 =>
 some (decide (c1<x1.To))
def Zd(as0:Int):Option (Bool) :=
 bd (Hd as0 0 1000) fun r1 =>
 some (!r1)
def I0(a0:Af):Option ((List UInt8)×(List UInt8)) :=
 ite' (decide (a0.Num=[])) (
  some ([],[1])
  ) (
  some (a0.Num,a0.Den)
  )
def M4(n0:Int):Option (Bool) :=
 some (bif (decide ((-999999999999999)<=n0)) then(decide (n0<=999999999999999)) else false)
def qzfh(f1:Int->Option Bool)(as0:List Int):Int->Option (Int⊕(Unit⊕Int)):=fun s=>match s with
 |t8 =>
  ite' (decide (t8<(as0.length:Int))) (
   bd (at? as0 t8) fun x1 =>
   bd (f1 x1) fun r1 =>
   ite' r1 (
    some (.inr (.inr t8))
    ) (
    ck (Au .i64 (t8+1)) <|
    some (.inl (t8+1))
    )
   ) (
   some (.inr (.inl ()))
   )
def Ze(as0:List Int)(f1:Int->Option Bool):Option (Int) :=
 bd (lp (qzfh f1 as0) 0)<|fun o=>match o with
 | .inl ()=>(
   some (-1)
  )
 | .inr o=>(
   some o
  )
def PT :(List Int)->Option ((List Int)⊕(List Int)):=fun s=>match s with
 |x0 =>
  ck (!(decide (0<(x0.length:Int)))||Au .i64 ((x0.length:Int)-1)) <|
  bd (gd (decide (0<(x0.length:Int))) (at? x0 ((x0.length:Int)-1))) fun x1 =>
  ite' (bif (decide (0<(x0.length:Int))) then(decide (x1=0)) else false) (
   ck (Au .i64 ((x0.length:Int)-1)) <|
   ck (Cv x0 0 ((x0.length:Int)-1)) <|
   some (.inl (sub x0 0 ((x0.length:Int)-1)))
   ) (
   some (.inr x0)
   )
def He(ax0:List Int):Option ((List Int)) :=
 bd (lp (PT) ax0)<|fun x0 =>
 some x0
def PU(ar:Int):Option (Bool) :=
 some (bif (decide ((-1000)<=ar)) then(decide (ar<=2000)) else false)
def PW(a0:List UInt8):Int->Option (Int⊕Int):=fun s=>match s with
 |k3 =>
  ck (!(decide (k3<(a0.length:Int)))||(BR a0 k3)) <|
  ite' (bif (decide (k3<(a0.length:Int))) then(decide ((Ct a0 k3)=0)) else false) (
   ck (Au .i64 (k3+1)) <|
   some (.inl (k3+1))
   ) (
   some (.inr k3)
   )
def J3(a0:List UInt8):Option ((List UInt8)) :=
 bd (lp (PW a0) 0)<|fun k3 =>
 ck (Cv a0 k3 (a0.length:Int)) <|
 some (sub a0 k3 (a0.length:Int))
def FD(a0:List UInt8)(k1:Int):Option (Int) :=
 ite' (decide ((a0.length:Int)<=k1)) (
  some 0
  ) (
  ck (Au .i64 ((a0.length:Int)-1)) <|
  ck (Au .i64 (((a0.length:Int)-1)-k1)) <|
  ck (BR a0 (((a0.length:Int)-1)-k1)) <|
  ck (Au .i64 (Ct a0 (((a0.length:Int)-1)-k1))) <|
  some (Ct a0 (((a0.length:Int)-1)-k1))
  )
def PX(l0:List Int):(Int×(List Int))->Option ((Int×(List Int))⊕(List Int)):=fun s=>match s with
 |(k4,l1) =>
  ite' (decide (0<=k4)) (
   bd (at? l0 k4) fun x1 =>
   ck (decide (List.length (l1++[(x1%256)])*1<=140737488355328)) <|
   ck (Au .i64 (k4-1)) <|
   some (.inl ((k4-1),(l1++[(x1%256)])))
   ) (
   some (.inr l1)
   )
def Kk(l0:List Int):Option ((List UInt8)) :=
 ck (Au .i64 ((l0.length:Int)-1)) <|
 bd (lp (PX l0) (((l0.length:Int)-1),[]))<|fun l1 =>
 bd (J3 (BS l1)) fun r1 =>
 some r1
def PY :(Int×(List UInt8))->Option ((Int×(List UInt8))⊕(List UInt8)):=fun s=>match s with
 |(n0',an) =>
  ite' (decide (0<n0')) (
   ck (decide (List.length (BS [((n0'.tmod 256)%256)])+an.length<=4611686018427387904)) <|
   ck (Au .i64 (n0'.tdiv 256)) <|
   some (.inl ((n0'.tdiv 256),((BS [((n0'.tmod 256)%256)])++an)))
   ) (
   some (.inr an)
   )
def PZ(n0:Int):Option (DQ) :=
 ite' (decide (n0<0)) (
  some (DQ.mk [] 3)
  ) (
  bd (lp (PY) (n0,[]))<|fun an =>
  some (DQ.mk an 0)
  )
def Hf(ax0:List Int)(k1:Int):Option (Int) :=
 ite' (decide (k1<(ax0.length:Int))) (
  bd (at? ax0 k1) fun x1 =>
  some (x1%18446744073709551616)
  ) (
  some 0
  )
def Kl(ax0:Int):Option (Bool) :=
 some (!decide (ax0=ax0))
def Km(ax0:Int):Option (Bool) :=
 some (!decide (ax0=ax0))
def Qa(ac1:Int):(List UInt8)->Option ((List UInt8)⊕(List UInt8)):=fun s=>match s with
 |s0 =>
  ck (!(decide (0<(s0.length:Int)))||(BR s0 0)) <|
  ite' (bif (decide (0<(s0.length:Int))) then(decide ((Ct s0 0)=ac1)) else false) (
   ck (Cv s0 1 (s0.length:Int)) <|
   some (.inl (sub s0 1 (s0.length:Int)))
   ) (
   some (.inr s0)
   )
def M5(as0:List UInt8)(ac1:Int):Option ((List UInt8)) :=
 bd (lp (Qa ac1) as0)<|fun s0 =>
 some s0
def Kn(k0:Int)(c0:Bc)(c1:Int):Option (Bool) :=
 bd (at? c0.Points k0) fun x1 =>
 some (decide (c1<x1.Stage))
def M6(l0:List Ao):Int->Option (Int⊕(Unit⊕Int)):=fun s=>match s with
 |k3 =>
  ite' (decide (k3<(l0.length:Int))) (
   bd (at? l0 k3) fun x1 =>
   bd (gd (!(decide (x1.From<0))) (at? l0 k3)) fun x2 =>
   bd (gd (!(decide (x1.From<0))) (at? l0 k3)) fun x3 =>
   bd (gd (!(bif (decide (x1.From<0)) then true else(decide (x2.To<=x3.From)))) (at? l0 k3)) fun x4 =>
   ite' (bif (bif (decide (x1.From<0)) then true else(decide (x2.To<=x3.From))) then true else(decide (1402560<x4.To))) (
    some (.inr (.inr 3))
    ) (
    bd (gd (decide (0<k3)) (at? l0 k3)) fun x5 =>
    ck (!(decide (0<k3))||Au .i64 (k3-1)) <|
    bd (gd (decide (0<k3)) (at? l0 (k3-1))) fun x6 =>
    ite' (bif (decide (0<k3)) then(!decide (x5.From=x6.To)) else false) (
     some (.inr (.inr 1))
     ) (
     bd (at? l0 k3) fun x7 =>
     bd (Iy x7) fun r1 =>
     ite' (!decide (r1=0)) (
      some (.inr (.inr r1))
      ) (
      ck (Au .i64 (k3+1)) <|
      some (.inl (k3+1))
      )
     )
    )
   ) (
   some (.inr (.inl ()))
   )
def Ko(l0:List Ao):Option (Int) :=
 ite' (decide (2000<(l0.length:Int))) (
  some 2
  ) (
  bd (lp (M6 l0) 0)<|fun o=>match o with
  | .inl ()=>(
    ck (!(decide (0<(l0.length:Int)))||Au .i64 ((l0.length:Int)-1)) <|
    bd (gd (decide (0<(l0.length:Int))) (at? l0 ((l0.length:Int)-1))) fun x8 =>
    bd (gd (decide (0<(l0.length:Int))) (at? l0 0)) fun x9 =>
    ck (!(decide (0<(l0.length:Int)))||Au .i64 (x8.To-x9.From)) <|
    ite' (bif (decide (0<(l0.length:Int))) then(decide (40000<(x8.To-x9.From))) else false) (
     some 2
     ) (
     some 0
     )
   )
  | .inr o=>(
    some o
   )
  )
def M7(l0:List Ao):Int->Option (Int⊕(Unit⊕Bool)):=fun s=>match s with
 |k7 =>
  ite' (decide (k7<(l0.length:Int))) (
   bd (at? l0 k7) fun x1 =>
   ite' (decide (20<(x1.Table.length:Int))) (
    some (.inr (.inr false))
    ) (
    ck (Au .i64 (k7+1)) <|
    some (.inl (k7+1))
    )
   ) (
   some (.inr (.inl ()))
   )
def M8(l0:List Ao)(az:Int)(ao:Int):Option (Bool) :=
 ite' (decide (az<(l0.length:Int))) (
  some false
  ) (
  bd (lp (M7 l0) 0)<|fun o=>match o with
  | .inl ()=>(
    bd (Ko l0) fun r1 =>
    ck (!(!(bif (!decide (r1=0)) then true else(decide ((l0.length:Int)=0))))||Au .i64 ((l0.length:Int)-1)) <|
    bd (gd (!(bif (!decide (r1=0)) then true else(decide ((l0.length:Int)=0)))) (at? l0 ((l0.length:Int)-1))) fun x2 =>
    bd (gd (!(bif (!decide (r1=0)) then true else(decide ((l0.length:Int)=0)))) (at? l0 0)) fun x3 =>
    ck (!(!(bif (!decide (r1=0)) then true else(decide ((l0.length:Int)=0))))||Au .i64 (x2.To-x3.From)) <|
    some (bif (bif (!decide (r1=0)) then true else(decide ((l0.length:Int)=0))) then true else(decide ((x2.To-x3.From)<=ao)))
   )
  | .inr o=>(
    some o
   )
  )
def Qb(l0:List Al):Int->Option (Int⊕(Unit⊕Bool)):=fun s=>match s with
 |k5 =>
  ite' (decide (k5<(l0.length:Int))) (
   bd (at? l0 k5) fun x1 =>
   bd (Kh x1.Curve) fun r1 =>
   bd (gd (!(!r1)) (at? l0 k5)) fun x2 =>
   bd (gd (!(bif (!r1) then true else(decide (40<(x2.Weight.Num.length:Int))))) (at? l0 k5)) fun x3 =>
   ite' (bif (bif (!r1) then true else(decide (40<(x2.Weight.Num.length:Int)))) then true else(decide (40<(x3.Weight.Den.length:Int)))) (
    some (.inr (.inr false))
    ) (
    ck (Au .i64 (k5+1)) <|
    some (.inl (k5+1))
    )
   ) (
   some (.inr (.inl ()))
   )
def I3(l0:List Al)(ay:Int):Option (Bool) :=
 ite' (bif (bif (decide (ay<(l0.length:Int))) then(decide ((l0.length:Int)<=400)) else false) then true else(decide (410<(l0.length:Int)))) (
  some false
  ) (
  bd (lp (Qb l0) 0)<|fun o=>match o with
  | .inl ()=>(
    some true
   )
  | .inr o=>(
    some o
   )
  )
def M9(l0:List Ao):Int->Option (Int⊕(Unit⊕Int)):=fun s=>match s with
 |t12 =>
  ite' (decide (t12<(l0.length:Int))) (
   bd (at? l0 t12) fun x1 =>
   ite' (bif (bif (decide (x1.From<0)) then true else(decide (x1.To<=x1.From))) then true else(decide (1402560<x1.To))) (
    some (.inr (.inr 3))
    ) (
    ck (!(decide (0<t12))||Au .i64 (t12-1)) <|
    bd (gd (decide (0<t12)) (at? l0 (t12-1))) fun x2 =>
    ite' (bif (decide (0<t12)) then(!decide (x1.From=x2.To)) else false) (
     some (.inr (.inr 1))
     ) (
     bd (Ki x1) fun r1 =>
     ite' (!decide (r1=0)) (
      some (.inr (.inr r1))
      ) (
      ck (Au .i64 (t12+1)) <|
      some (.inl (t12+1))
      )
     )
    )
   ) (
   some (.inr (.inl ()))
   )
def Kp(l0:List Ao):Option (Int) :=
 ite' (decide (2000<(l0.length:Int))) (
  some 2
  ) (
  bd (lp (M9 l0) 0)<|fun o=>match o with
  | .inl ()=>(
    ck (!(decide (0<(l0.length:Int)))||Au .i64 ((l0.length:Int)-1)) <|
    bd (gd (decide (0<(l0.length:Int))) (at? l0 ((l0.length:Int)-1))) fun x3 =>
    bd (gd (decide (0<(l0.length:Int))) (at? l0 0)) fun x4 =>
    ck (!(decide (0<(l0.length:Int)))||Au .i64 (x3.To-x4.From)) <|
    ite' (bif (decide (0<(l0.length:Int))) then(decide (40000<(x3.To-x4.From))) else false) (
     some 2
     ) (
     some 0
     )
   )
  | .inr o=>(
    some o
   )
  )
def Qc(a1:List Al)(ax0:Ao):(Int×Int×(List A7))->Option ((Int×Int×(List A7))⊕(Int×(List A7))):=fun s=>match s with
 |(af,k7,l3) =>
  bd (gd (decide (k7<(a1.length:Int))) (at? a1 k7)) fun x1 =>
  ite' (bif (decide (k7<(a1.length:Int))) then(decide (x1.From<ax0.To)) else false) (
   bd (at? a1 k7) fun x2 =>
   bd (at? a1 k7) fun x3 =>
   ck (Au .i64 ((min ax0.To x2.To)-(max ax0.From x3.From))) <|
   ck (decide (List.length (l3++[(A7.mk k7 ((min ax0.To x2.To)-(max ax0.From x3.From)))])*16<=140737488355328)) <|
   ck (Au .i64 (af-((min ax0.To x2.To)-(max ax0.From x3.From)))) <|
   ck (Au .i64 (k7+1)) <|
   some (.inl ((af-((min ax0.To x2.To)-(max ax0.From x3.From))),(k7+1),(l3++[(A7.mk k7 ((min ax0.To x2.To)-(max ax0.From x3.From)))])))
   ) (
   some (.inr (af,l3))
   )
def Iv(ax0:Ao)(a1:List Al):Option ((List A7)) :=
 ck (Au .i64 (ax0.To-ax0.From)) <|
 bd (J2 (a1.length:Int) (fun a0=>M3 a0 a1 ax0)) fun r1 =>
 bd (lp (Qc a1 ax0) ((ax0.To-ax0.From),r1,[]))<|fun(af,l3) =>
 ite' (decide (0<af)) (
  ck (decide (List.length (l3++[(A7.mk (-1) af)])*16<=140737488355328)) <|
  some (l3++[(A7.mk (-1) af)])
  ) (
  some l3
  )
def JX(a0:Ao)(b1:Ao):Option (Ao×Bool) :=
 bd (PP a0) fun r1 =>
 bd (gd r1 (PP b1)) fun r2 =>
 bd (gd (bif r1 then r2 else false) (at? a0.Table 0)) fun x1 =>
 bd (gd (bif r1 then r2 else false) (at? b1.Table 0)) fun x2 =>
 ite' (bif (bif r1 then r2 else false) then(decide (x1.Stage=x2.Stage)) else false) (
  bd (at? a0.Table 0) fun x3 =>
  bd (Iq a0.From b1.To x3.Stage) fun r3 =>
  some (r3,true)
  ) (
  bd (Hc a0) fun r4 =>
  bd (gd r4 (Hc b1)) fun r5 =>
  ite' (bif (bif (bif r4 then r5 else false) then(decide (a0.Lo=b1.Lo)) else false) then(decide (a0.Hi=b1.Hi)) else false) (
   some ((Ao.mk a0.From b1.To [] a0.Lo a0.Hi),true)
   ) (
   some ((Ao.mk 0 0 [] 0 0),false)
   )
  )
def Zf(as0:List Int)(f1:Int->Option Bool):Option (Bool) :=
 bd (Ze as0 f1) fun r1 =>
 some (decide (0<=r1))
def Qd(a0:List UInt8)(ad:Int):(Int×Int)->Option ((Int×Int)⊕Int):=fun s=>match s with
 |(ah,t22) =>
  ite' (decide (t22<(List.length (bytes (sub a0 (max 0 (ad-4)) ad)):Int))) (
   bd (at? (bytes (sub a0 (max 0 (ad-4)) ad)) t22) fun x1 =>
   ck (Au .i64 (t22+1)) <|
   some (.inl ((bitI .or .u32 ((ah*256)%4294967296) (x1%4294967296)),(t22+1)))
   ) (
   some (.inr ah)
   )
def Qe(a0:List UInt8):(Int×(List Int))->Option ((Int×(List Int))⊕(List Int)):=fun s=>match s with
 |(ad,l2) =>
  ite' (decide (0<ad)) (
   ck (Au .i64 (ad-4)) <|
   ck (Cv a0 (max 0 (ad-4)) ad) <|
   bd (lp (Qd a0 ad) (0,0))<|fun ah =>
   ck (decide (List.length (l2++[ah])*4<=140737488355328)) <|
   ck (Au .i64 (ad-4)) <|
   some (.inl ((ad-4),(l2++[ah])))
   ) (
   some (.inr l2)
   )
def Gv(a0:List UInt8):Option ((List Int)) :=
 bd (lp (Qe a0) ((a0.length:Int),[]))<|fun l2 =>
 bd (He l2) fun r1 =>
 some r1
def MA(a0:List UInt8):Option (Bool) :=
 bd (J3 a0) fun r1 =>
 some (decide (a0=r1))
def MB(a0:List UInt8)(b1:List UInt8)(i6:Int):(Int×Int×(List Int))->Option ((Int×Int×(List Int))⊕(List Int)):=fun s=>match s with
 |(aj,k8,l0') =>
  ite' (decide (k8<=(b1.length:Int))) (
   ck (Au .i64 (i6+k8)) <|
   bd (at? l0' (i6+k8)) fun x1 =>
   bd (FD a0 i6) fun r1 =>
   bd (FD b1 k8) fun r2 =>
   ck (Au .i64 (r1*r2)) <|
   ck (Au .i64 (x1+(r1*r2))) <|
   ck (Au .i64 ((x1+(r1*r2))+aj)) <|
   ck (Au .i64 (i6+k8)) <|
   bd (at? l0' (i6+k8)) fun x2 =>
   ck (Au .i64 (((x1+(r1*r2))+aj).tdiv 256)) <|
   ck (Au .i64 (k8+1)) <|
   some (.inl ((((x1+(r1*r2))+aj).tdiv 256),(k8+1),(List.set l0' (Int.toNat (i6+k8)) (((x1+(r1*r2))+aj).tmod 256))))
   ) (
   some (.inr l0')
   )
def Qf(a0:List UInt8)(b1:List UInt8):(Int×(List Int))->Option ((Int×(List Int))⊕(List Int)):=fun s=>match s with
 |(i6,l0) =>
  ite' (decide (i6<(a0.length:Int))) (
   bd (lp (MB a0 b1 i6) (0,0,l0))<|fun l0' =>
   ck (Au .i64 (i6+1)) <|
   some (.inl ((i6+1),l0'))
   ) (
   some (.inr l0)
   )
def Hg(a0:List UInt8)(b1:List UInt8):Option ((List UInt8)) :=
 ck (Au .i64 ((a0.length:Int)+(b1.length:Int))) <|
 ck (Au .i64 (((a0.length:Int)+(b1.length:Int))+1)) <|
 ck (mkOk (((a0.length:Int)+(b1.length:Int))+1) 8) <|
 bd (lp (Qf a0 b1) (0,(List.replicate (Int.toNat (((a0.length:Int)+(b1.length:Int))+1)) 0)))<|fun l0 =>
 bd (Kk l0) fun r3 =>
 some r3
def MC(n0:Int):Option ((List UInt8)) :=
 bd (α:=Int) (
  ite' (decide (n0<0)) (
   ck (Au .i64 (-n0)) <|
   some (-n0)
   ) (
   some n0
   )
 )<|fun n0' =>
  bd (PZ n0') fun r1 =>
  some r1.S
def Qg(a0:List UInt8)(b1:List UInt8):(Int×Int×(List Int))->Option ((Int×Int×(List Int))⊕(List Int)):=fun s=>match s with
 |(a7,k7,l1) =>
  ite' (decide (k7<=(max (a0.length:Int) (b1.length:Int)))) (
   bd (FD a0 k7) fun r1 =>
   bd (FD b1 k7) fun r2 =>
   ck (Au .i64 (r1+r2)) <|
   ck (Au .i64 ((r1+r2)+a7)) <|
   ck (decide (List.length (l1++[(((r1+r2)+a7).tmod 256)])*8<=140737488355328)) <|
   ck (Au .i64 (((r1+r2)+a7).tdiv 256)) <|
   ck (Au .i64 (k7+1)) <|
   some (.inl ((((r1+r2)+a7).tdiv 256),(k7+1),(l1++[(((r1+r2)+a7).tmod 256)])))
   ) (
   some (.inr l1)
   )
def Qh(a0:List UInt8)(b1:List UInt8):Option ((List UInt8)) :=
 bd (lp (Qg a0 b1) (0,0,[]))<|fun l1 =>
 bd (Kk l1) fun r3 =>
 some r3
def Kq(a0:List UInt8)(b1:List UInt8):Option (Int) :=
 bd (J3 a0) fun r1 =>
 bd (J3 b1) fun r2 =>
 ite' (decide (r1=r2)) (
  some 0
  ) (
  ite' (bif (decide ((r1.length:Int)<(r2.length:Int))) then true else(bif (decide ((r1.length:Int)=(r2.length:Int))) then(Op.bytesLess r1 r2) else false)) (
   some (-1)
   ) (
   some 1
   )
  )
def Qi(a0:List UInt8)(b1:List UInt8):(Int×Int×(List Int))->Option ((Int×Int×(List Int))⊕(List Int)):=fun s=>match s with
 |(a4,k7,l2) =>
  ite' (decide (k7<(a0.length:Int))) (
   bd (FD a0 k7) fun r2 =>
   bd (FD b1 k7) fun r3 =>
   ck (Au .i64 (r2-r3)) <|
   ck (Au .i64 ((r2-r3)-a4)) <|
   bd (α:=Int×Int) (
    ite' (decide (((r2-r3)-a4)<0)) (
     ck (Au .i64 (((r2-r3)-a4)+256)) <|
     some (1,(((r2-r3)-a4)+256))
     ) (
     some (0,((r2-r3)-a4))
     )
   )<|fun(a4',n8) =>
    ck (decide (List.length (l2++[n8])*8<=140737488355328)) <|
    ck (Au .i64 (k7+1)) <|
    some (.inl (a4',(k7+1),(l2++[n8])))
   ) (
   some (.inr l2)
   )
def Kr(a0:List UInt8)(b1:List UInt8):Option (DQ) :=
 bd (Kq a0 b1) fun r1 =>
 ite' (decide (r1<0)) (
  some (DQ.mk [] 3)
  ) (
  bd (lp (Qi a0 b1) (0,0,[]))<|fun l2 =>
  bd (Kk l2) fun r4 =>
  some (DQ.mk r4 0)
  )
def Qj(by1:Int)(ax0:List Int):(Int×Int×(List Int))->Option ((Int×Int×(List Int))⊕(Int×(List Int))):=fun s=>match s with
 |(ak,k8,l0) =>
  ite' (decide (0<=k8)) (
   bd (at? ax0 k8) fun x1 =>
   ck (!decide ((by1%18446744073709551616)=0)) <|
   ck (!decide ((by1%18446744073709551616)=0)) <|
   bd (at? l0 k8) fun x2 =>
   ck (Au .i64 (k8-1)) <|
   some (.inl (((bitI .or .u64 ((ak*4294967296)%18446744073709551616) (x1%18446744073709551616)).tmod (by1%18446744073709551616)),(k8-1),(List.set l0 (Int.toNat k8) ((((bitI .or .u64 ((ak*4294967296)%18446744073709551616) (x1%18446744073709551616)).tdiv (by1%18446744073709551616))%18446744073709551616)%4294967296))))
   ) (
   some (.inr (ak,l0))
   )
def I4(ax0:List Int)(by1:Int):Option ((List Int)×Int) :=
 ck (mkOk (ax0.length:Int) 4) <|
 ck (Au .i64 ((ax0.length:Int)-1)) <|
 bd (lp (Qj by1 ax0) (0,((ax0.length:Int)-1),(List.replicate (Int.toNat (ax0.length:Int)) 0)))<|fun(ak,l0) =>
 bd (He l0) fun r1 =>
 some (r1,(ak%4294967296))
def MD(t20:Int)(x1:Int)(y1:List Int):(Int×Int×(List Int))->Option ((Int×Int×(List Int))⊕(List Int)):=fun s=>match s with
 |(am,k9,l0') =>
  ite' (bif (decide (k9<(y1.length:Int))) then true else(decide (0<am))) (
   bd (Hf y1 k9) fun r1 =>
   ck (Au .i64 (t20+k9)) <|
   bd (at? l0' (t20+k9)) fun x2 =>
   ck (Au .i64 (t20+k9)) <|
   bd (at? l0' (t20+k9)) fun x3 =>
   ck (Au .i64 (k9+1)) <|
   some (.inl ((Int.fdiv (((((((x1%18446744073709551616)*r1)%18446744073709551616)+(x2%18446744073709551616))%18446744073709551616)+am)%18446744073709551616) 4294967296),(k9+1),(List.set l0' (Int.toNat (t20+k9)) ((((((((x1%18446744073709551616)*r1)%18446744073709551616)+(x2%18446744073709551616))%18446744073709551616)+am)%18446744073709551616)%4294967296))))
   ) (
   some (.inr l0')
   )
def Qk(ax0:List Int)(y1:List Int):(Int×(List Int))->Option ((Int×(List Int))⊕(List Int)):=fun s=>match s with
 |(t20,l0) =>
  ite' (decide (t20<(ax0.length:Int))) (
   bd (at? ax0 t20) fun x1 =>
   bd (lp (MD t20 x1 y1) (0,0,l0))<|fun l0' =>
   ck (Au .i64 (t20+1)) <|
   some (.inl ((t20+1),l0'))
   ) (
   some (.inr l0)
   )
def Hh(ax0:List Int)(y1:List Int):Option ((List Int)) :=
 ck (Au .i64 ((ax0.length:Int)+(y1.length:Int))) <|
 ck (Au .i64 (((ax0.length:Int)+(y1.length:Int))+1)) <|
 ck (mkOk (((ax0.length:Int)+(y1.length:Int))+1) 4) <|
 bd (lp (Qk ax0 y1) (0,(List.replicate (Int.toNat (((ax0.length:Int)+(y1.length:Int))+1)) 0)))<|fun l0 =>
 bd (He l0) fun r2 =>
 some r2
def Ql(ax0:List Int)(y1:List Int):(Int×Int×(List Int))->Option ((Int×Int×(List Int))⊕(List Int)):=fun s=>match s with
 |(a4,t11,l1) =>
  ite' (decide (t11<(ax0.length:Int))) (
   bd (at? ax0 t11) fun x1 =>
   bd (Hf y1 t11) fun r1 =>
   ck (decide (List.length (l1++[((((((x1%18446744073709551616)-r1)%18446744073709551616)-a4)%18446744073709551616)%4294967296)])*4<=140737488355328)) <|
   ck (Au .i64 (t11+1)) <|
   some (.inl ((Int.fdiv (((((x1%18446744073709551616)-r1)%18446744073709551616)-a4)%18446744073709551616) 9223372036854775808),(t11+1),(l1++[((((((x1%18446744073709551616)-r1)%18446744073709551616)-a4)%18446744073709551616)%4294967296)])))
   ) (
   some (.inr l1)
   )
def Hj(ax0:List Int)(y1:List Int):Option ((List Int)) :=
 bd (lp (Ql ax0 y1) (0,0,[]))<|fun l1 =>
 bd (He l1) fun r2 =>
 some r2
def Qm(ax0:List Int)(y1:List Int):(Int×Int×(List Int))->Option ((Int×Int×(List Int))⊕(List Int)):=fun s=>match s with
 |(a7,t15,l1) =>
  ite' (decide (t15<((max (ax0.length:Int) (y1.length:Int))+1))) (
   bd (Hf ax0 t15) fun r1 =>
   bd (Hf y1 t15) fun r2 =>
   ck (decide (List.length (l1++[(((((r1+r2)%18446744073709551616)+a7)%18446744073709551616)%4294967296)])*4<=140737488355328)) <|
   ck (Au .i64 (t15+1)) <|
   some (.inl ((Int.fdiv ((((r1+r2)%18446744073709551616)+a7)%18446744073709551616) 4294967296),(t15+1),(l1++[(((((r1+r2)%18446744073709551616)+a7)%18446744073709551616)%4294967296)])))
   ) (
   some (.inr l1)
   )
def Ks(ax0:List Int)(y1:List Int):Option ((List Int)) :=
 ck (Au .i64 ((max (ax0.length:Int) (y1.length:Int))+1)) <|
 bd (lp (Qm ax0 y1) (0,0,[]))<|fun l1 =>
 bd (He l1) fun r3 =>
 some r3
def Qn(b1:List UInt8):((List UInt8)×Int)->Option (((List UInt8)×Int)⊕((List UInt8)×Int)):=fun s=>match s with
 |(r6',n8) =>
  bd (Kq r6' b1) fun r3 =>
  ite' (decide (0<=r3)) (
   bd (Kr r6' b1) fun r4 =>
   ck (Au .i64 (n8+1)) <|
   some (.inl (r4.S,(n8+1)))
   ) (
   some (.inr (r6',n8))
   )
def Qo(a0:List UInt8)(b1:List UInt8):((List UInt8)×(List UInt8)×Int)->Option (((List UInt8)×(List UInt8)×Int)⊕((List UInt8)×(List UInt8))):=fun s=>match s with
 |(q5,r6,k7) =>
  ite' (decide (k7<(a0.length:Int))) (
   ck (Au .i64 (k7+1)) <|
   ck (Cv a0 k7 (k7+1)) <|
   ck (decide (r6.length+List.length (sub a0 k7 (k7+1))<=4611686018427387904)) <|
   bd (J3 (r6++(sub a0 k7 (k7+1)))) fun r2 =>
   bd (lp (Qn b1) (r2,0))<|fun(r6',n8) =>
   ck (decide (q5.length+List.length (BS [(n8%256)])<=4611686018427387904)) <|
   ck (Au .i64 (k7+1)) <|
   some (.inl ((q5++(BS [(n8%256)])),r6',(k7+1)))
   ) (
   some (.inr (q5,r6))
   )
def Kt(a0:List UInt8)(b1:List UInt8):Option (ES) :=
 bd (J3 b1) fun r1 =>
 ite' (decide (r1=[])) (
  some (ES.mk [] [] 1)
  ) (
  bd (lp (Qo a0 b1) ([],[],0))<|fun(q5,r6) =>
  bd (J3 q5) fun r5 =>
  some (ES.mk r5 r6 0)
  )
def ME(ax0:Int)(y1:Int):Option (Int) :=
 bd (Kl ax0) fun r1 =>
 bd (Kl y1) fun r2 =>
 ite' r1 (
  ite' r2 (
   some 0
   ) (
   some (-1)
   )
  ) (
  ite' r2 (
   some 1
   ) (
   ite' (decide (ax0<y1)) (
    some (-1)
    ) (
    ite' (decide (y1<ax0)) (
     some 1
     ) (
     some 0
     )
    )
   )
  )
def MF(ax0:Int)(y1:Int):Option (Int) :=
 bd (Km ax0) fun r1 =>
 bd (Km y1) fun r2 =>
 ite' r1 (
  ite' r2 (
   some 0
   ) (
   some (-1)
   )
  ) (
  ite' r2 (
   some 1
   ) (
   ite' (decide (ax0<y1)) (
    some (-1)
    ) (
    ite' (decide (y1<ax0)) (
     some 1
     ) (
     some 0
     )
    )
   )
  )
def Qp(as0:List UInt8)(a9:List UInt8):Option ((List UInt8)) :=
 ite' (bif (decide (as0=[])) then true else(decide (a9=[]))) (
  some as0
  ) (
  ck (!(decide ((a9.length:Int)=1))||(BR a9 0)) <|
  ite' (bif (decide ((a9.length:Int)=1)) then(decide ((Ct a9 0)<128)) else false) (
   ck (BR a9 0) <|
   bd (M5 as0 (Ct a9 0)) fun r1 =>
   some r1
   ) (
   none
   )
  )
def MG(l0:List Ao)(a1:List Al)(ao:Int):Option (Bool) :=
 bd (M8 l0 12 ao) fun r1 =>
 bd (gd r1 (I3 a1 8)) fun r2 =>
 some (bif r1 then r2 else false)
def GU(h0:Ba):Option (Bool) :=
 ck (!(decide ((h0.Stages.length:Int)<=40000))||Au .i64 (1402560-(h0.Stages.length:Int))) <|
 bd (gd (decide ((h0.Stages.length:Int)<=40000)) (Hd h0.From 0 (1402560-(h0.Stages.length:Int)))) fun r1 =>
 bd (gd (bif (decide ((h0.Stages.length:Int)<=40000)) then r1 else false) (Zf h0.Stages (fun a0=>Zd a0))) fun r2 =>
 some (bif (bif (decide ((h0.Stages.length:Int)<=40000)) then r1 else false) then(!r2) else false)
def I5 :((List UInt8)×(List UInt8))->Option (((List UInt8)×(List UInt8))⊕(List UInt8)):=fun s=>match s with
 |(x5,y6) =>
  ite' (!decide (y6=[])) (
   bd (Kt x5 y6) fun r3 =>
   some (.inl (y6,r3.R))
   ) (
   some (.inr x5)
   )
def MI(a0:List UInt8)(b1:List UInt8):Option ((List UInt8)) :=
 bd (J3 a0) fun r1 =>
 bd (J3 b1) fun r2 =>
 bd (lp (I5) (r1,r2))<|fun x5 =>
 some x5
def Hk(b2:Bool)(b3:List UInt8)(av:List UInt8):Option (Af) :=
 bd (J3 b3) fun r1 =>
 ite' (decide (r1=[])) (
  some (Af.mk false [] [])
  ) (
  bd (MI r1 av) fun r2 =>
  bd (Kt r1 r2) fun r3 =>
  bd (Kt av r2) fun r4 =>
  some (Af.mk b2 r3.Q r4.Q)
  )
def Qq(ax0:List Int)(y1:List Int):Int->Option (Int⊕(Unit⊕Int)):=fun s=>match s with
 |k6 =>
  ite' (decide (0<=k6)) (
   bd (at? ax0 k6) fun x1 =>
   bd (at? y1 k6) fun x2 =>
   bd (MF x1 x2) fun r2 =>
   ite' (!decide (r2=0)) (
    some (.inr (.inr r2))
    ) (
    ck (Au .i64 (k6-1)) <|
    some (.inl (k6-1))
    )
   ) (
   some (.inr (.inl ()))
   )
def yzf(ax0:List Int)(y1:List Int):Option (Int) :=
 bd (ME (ax0.length:Int) (y1.length:Int)) fun r1 =>
 ite' (!decide (r1=0)) (
  some r1
  ) (
  ck (Au .i64 ((ax0.length:Int)-1)) <|
  bd (lp (Qq ax0 y1) ((ax0.length:Int)-1))<|fun o=>match o with
  | .inl ()=>(
    some 0
   )
  | .inr o=>(
    some o
   )
  )
def yze(ax0:List Int)(ai:Int):Option ((List Int)) :=
 ite' (decide (ai<0)) (
  ck (Au .i64 (-ai)) <|
  ck (decide (0<=(-ai))) <|
  bd (I4 ax0 ((1*2 ^ min (Int.toNat (-ai)) 32)%4294967296)) fun r1 =>
  some r1.1
  ) (
  ck (decide (0<=ai)) <|
  bd (Hh ax0 [((1*2 ^ min (Int.toNat ai) 32)%4294967296)]) fun r2 =>
  some r2
  )
def MJ(a0:List UInt8):Option ((List UInt8)) :=
 bd (Qp a0 [0]) fun r1 =>
 some r1
def JY(out:List Ao)(x:Ao):Option (List Ao):=match out.getLast? with
 |none=>some [x]
 |some a=>bd (JX a x) fun p=>some (bif p.2 then out.dropLast++[p.1] else out++[x])
def ofL(f:Int):Int->List Int->List Ao->Option (List Ao)
 |_,[],out=>some out
 |k,s :: l,out=>ck (Au .i64 (f+k)&&Au .i64 (f+k+1))<|bd (Iq (f+k) (f+k+1) s) fun x=>bd (JY out x) fun out=>ofL f (k+1) l out
def GV(h0:Ba):Option (List Ao×Int) :=
 bd (GU h0) fun b=>ite' (!b) (some ([],1)) <|
 bd (ofL h0.From 0 h0.Stages []) fun out=>ite' (decide (2000<(out.length:Int))) (some ([],2)) (some (out,0))
def qzh7(x3:Ao):(Int×(List (Int×Int)))->Option ((Int×(List (Int×Int)))⊕(List (Int×Int))):=fun s=>match s with
 |(t60,m2) =>
  ite' (decide (t60<(x3.Table.length:Int))) (
   bd (at? x3.Table t60) fun x4 =>
   ck (Au .i64 (t60+1)) <|
   some (.inl ((t60+1),(mput keqI m2 x4.Stage x4.Ticks)))
   ) (
   some (.inr m2)
   )
def qzk6(h1:Ba)(x3:Ao):(Int×(List (Int×Int)))->Option ((Int×(List (Int×Int)))⊕((List (Int×Int))⊕Bool)):=fun s=>match s with
 |(t84,m2') =>
  ite' (decide (t84<(List.length (sub h1.Stages (x3.From-h1.From) (x3.To-h1.From)):Int))) (
   bd (at? (sub h1.Stages (x3.From-h1.From) (x3.To-h1.From)) t84) fun x5 =>
   bd (Hc x3) fun r3 =>
   bd (gd r3 (Hd x5 x3.Lo x3.Hi)) fun r4 =>
   bd (gd (!(bif r3 then(!r4) else false)) (Hc x3)) fun r5 =>
   ite' (bif (bif r3 then(!r4) else false) then true else(bif (!r5) then(decide ((Option.getD (mget keqI m2' x5) 0)=0)) else false)) (
    some (.inr (.inr false))
    ) (
    ck (Au .i64 ((Option.getD (mget keqI m2' x5) 0)-1)) <|
    ck (Au .i64 (t84+1)) <|
    some (.inl ((t84+1),(mput keqI m2' x5 ((Option.getD (mget keqI m2' x5) 0)-1))))
    )
   ) (
   some (.inr (.inl m2'))
   )
def qzhr(h1:Ba)(l0:List Ao):Int->Option (Int⊕(Unit⊕Bool)):=fun s=>match s with
 |t52 =>
  ite' (decide (t52<(l0.length:Int))) (
   bd (at? l0 t52) fun x3 =>
   bd (lp (qzh7 x3) (0,([]:List (Int×Int))))<|fun m2 =>
   ck (Au .i64 (x3.From-h1.From)) <|
   ck (Au .i64 (x3.To-h1.From)) <|
   ck (Cv h1.Stages (x3.From-h1.From) (x3.To-h1.From)) <|
   bd (lp (qzk6 h1 x3) (0,m2))<|fun o=>match o with
   | .inl m2'=>(
     ck (Au .i64 (t52+1)) <|
     some (.inl (t52+1))
    )
   | .inr o=>(
     some (.inr (.inr o))
    )
   ) (
   some (.inr (.inl ()))
   )
def Qr(l0:List Ao)(h1:Ba):Option (Bool) :=
 bd (Kp l0) fun r1 =>
 bd (gd (!(!decide (r1=0))) (GU h1)) fun r2 =>
 ite' (bif (!decide (r1=0)) then true else(!r2)) (
  some false
  ) (
  ite' (decide ((l0.length:Int)=0)) (
   some (decide ((h1.Stages.length:Int)=0))
   ) (
   bd (at? l0 0) fun x1 =>
   ck (!(!(!decide (h1.From=x1.From)))||Au .i64 ((l0.length:Int)-1)) <|
   bd (gd (!(!decide (h1.From=x1.From))) (at? l0 ((l0.length:Int)-1))) fun x2 =>
   ck (!(!(!decide (h1.From=x1.From)))||Au .i64 (x2.To-h1.From)) <|
   ite' (bif (!decide (h1.From=x1.From)) then true else(!decide ((h1.Stages.length:Int)=(x2.To-h1.From)))) (
    some false
    ) (
    bd (lp (qzhr h1 l0) 0)<|fun o=>match o with
    | .inl ()=>(
      some true
     )
    | .inr o=>(
      some o
     )
    )
   )
  )
def Qs(a0:Af):Option (Bool) :=
 ite' (bif (decide (a0.Num=[])) then true else(decide (a0.Den=[]))) (
  some ((a0.Neg==false)&&(decide (a0.Num=[])&&(decide (a0.Den=[])&&true)))
  ) (
  bd (MA a0.Num) fun r1 =>
  bd (MA a0.Den) fun r2 =>
  bd (gd (bif r1 then r2 else false) (MI a0.Num a0.Den)) fun r3 =>
  some (bif (bif r1 then r2 else false) then(decide (r3=[1])) else false)
  )
def Qt(al:Int)(ag:Int):Option (EB) :=
 bd (M4 al) fun r1 =>
 bd (M4 ag) fun r2 =>
 ite' (bif (!r1) then true else(!r2)) (
  some (EB.mk (Af.mk false [] []) 3)
  ) (
  ite' (decide (ag=0)) (
   some (EB.mk (Af.mk false [] []) 1)
   ) (
   bd (MC al) fun r3 =>
   bd (MC ag) fun r4 =>
   bd (Hk (!((decide (al<0))==(decide (ag<0)))) r3 r4) fun r5 =>
   some (EB.mk r5 0)
   )
  )
def Hl(a0:Af):Option (Af) :=
 bd (Qs a0) fun r1 =>
 ite' r1 (
  some a0
  ) (
  some (Af.mk false [] [])
  )
def MK(y1:List Int):Int->Option (Int⊕Int):=fun s=>match s with
 |aa =>
  ck (Au .i64 ((y1.length:Int)-1)) <|
  bd (at? y1 ((y1.length:Int)-1)) fun x2 =>
  ck (decide (0<=aa)) <|
  ite' (decide (((x2*2 ^ min (Int.toNat aa) 32)%4294967296)<2147483648)) (
   ck (Au .i64 (aa+1)) <|
   some (.inl (aa+1))
   ) (
   some (.inr aa)
   )
def ML(j13:Int)(a6:List Int)(r4:(List Int)):(Int×Int)->Option ((Int×Int)⊕Int):=fun s=>match s with
 |(a2,ab) =>
  ck (!(decide (ab<4294967296))||Au .i64 ((r4.length:Int)-2)) <|
  bd (gd (decide (ab<4294967296)) (at? r4 ((r4.length:Int)-2))) fun x7 =>
  ck (!(decide (ab<4294967296))||Au .i64 (j13+(r4.length:Int))) <|
  ck (!(decide (ab<4294967296))||Au .i64 ((j13+(r4.length:Int))-2)) <|
  bd (gd (decide (ab<4294967296)) (at? a6 ((j13+(r4.length:Int))-2))) fun x8 =>
  ite' (bif (decide (ab<4294967296)) then(decide ((bitI .or .u64 ((ab*4294967296)%18446744073709551616) (x8%18446744073709551616))<((a2*(x7%18446744073709551616))%18446744073709551616))) else false) (
   ck (Au .i64 ((r4.length:Int)-1)) <|
   bd (at? r4 ((r4.length:Int)-1)) fun x9 =>
   some (.inl (((a2-1)%18446744073709551616),((ab+(x9%18446744073709551616))%18446744073709551616)))
   ) (
   some (.inr a2)
   )
def Qu(j13:Int)(a6:List Int)(r4:(List Int)):(Int×(List Int))->Option ((Int×(List Int))⊕(Int×(List Int))):=fun s=>match s with
 |(a2',ac) =>
  bd (F7 (sub a6 j13 ((j13+(r4.length:Int))+1))) fun r8 =>
  bd (He r8) fun r9 =>
  bd (yzf r9 ac) fun r10 =>
  ite' (decide (r10<0)) (
   bd (Hj ac r4) fun r11 =>
   some (.inl (((a2'-1)%18446744073709551616),r11))
   ) (
   some (.inr (a2',ac))
   )
def I6(r4:(List Int)):(Int×(List Int)×(List Int))->Option ((Int×(List Int)×(List Int))⊕((List Int)×(List Int))):=fun s=>match s with
 |(j13,a6,l3) =>
  ite' (decide (0<=j13)) (
   ck (Au .i64 (j13+(r4.length:Int))) <|
   bd (at? a6 (j13+(r4.length:Int))) fun x3 =>
   ck (Au .i64 (j13+(r4.length:Int))) <|
   ck (Au .i64 ((j13+(r4.length:Int))-1)) <|
   bd (at? a6 ((j13+(r4.length:Int))-1)) fun x4 =>
   ck (Au .i64 ((r4.length:Int)-1)) <|
   bd (at? r4 ((r4.length:Int)-1)) fun x5 =>
   ck (!decide ((x5%18446744073709551616)=0)) <|
   ck (Au .i64 ((r4.length:Int)-1)) <|
   bd (at? r4 ((r4.length:Int)-1)) fun x6 =>
   bd (lp (ML j13 a6 r4) ((min (((bitI .or .u64 (((x3%18446744073709551616)*4294967296)%18446744073709551616) (x4%18446744073709551616)).tdiv (x5%18446744073709551616))%18446744073709551616) 4294967295),(((bitI .or .u64 (((x3%18446744073709551616)*4294967296)%18446744073709551616) (x4%18446744073709551616))-(((min (((bitI .or .u64 (((x3%18446744073709551616)*4294967296)%18446744073709551616) (x4%18446744073709551616)).tdiv (x5%18446744073709551616))%18446744073709551616) 4294967295)*(x6%18446744073709551616))%18446744073709551616))%18446744073709551616)))<|fun a2 =>
   bd (α:=Unit⊕Unit) (
    ite' (decide (a2=0)) (
     some (.inr ())
     ) (
     some (.inl ())
     )
   )<|fun o=>match o with
    | .inl ()=>(
      ck (Au .i64 (j13+(r4.length:Int))) <|
      ck (Au .i64 ((j13+(r4.length:Int))+1)) <|
      ck (Cv a6 j13 ((j13+(r4.length:Int))+1)) <|
      bd (Hh r4 [(a2%4294967296)]) fun r7 =>
      bd (lp (Qu j13 a6 r4) (a2,r7))<|fun(a2',ac) =>
      bd (F7 (sub a6 j13 ((j13+(r4.length:Int))+1))) fun r12 =>
      bd (He r12) fun r13 =>
      bd (Hj r13 ac) fun r14 =>
      ck (Cv a6 j13 ((j13+(r4.length:Int))+1)) <|
      ck (Cv (Bv a6 (Int.toNat j13) (List.replicate (Int.toNat (((j13+(r4.length:Int))+1)-j13)) 0)) j13 ((j13+(r4.length:Int))+1)) <|
      bd (at? l3 j13) fun x10 =>
      ck (Au .i64 (j13-1)) <|
      some (.inl ((j13-1),(Bv (Bv a6 (Int.toNat j13) (List.replicate (Int.toNat (((j13+(r4.length:Int))+1)-j13)) 0)) (Int.toNat j13) (List.take (Int.toNat (((j13+(r4.length:Int))+1)-j13)) r14)),(List.set l3 (Int.toNat j13) (a2'%4294967296))))
     )
    | .inr ()=>(
      ck (Au .i64 (j13-1)) <|
      some (.inl ((j13-1),a6,l3))
     )
   ) (
   some (.inr (a6,l3))
   )
def ET(ax0:List Int)(y1:List Int):Option ((List Int)×(List Int)) :=
 bd (yzf ax0 y1) fun r1 =>
 ite' (decide (r1<0)) (
  some ([],ax0)
  ) (
  ite' (decide ((y1.length:Int)=1)) (
   bd (at? y1 0) fun x1 =>
   bd (I4 ax0 x1) fun r2 =>
   bd (He [r2.2]) fun r3 =>
   some (r2.1,r3)
   ) (
   bd (lp (MK y1) 0)<|fun aa =>
   bd (yze y1 aa) fun r4 =>
   bd (yze ax0 aa) fun r5 =>
   bd (F7 r5) fun r6 =>
   ck (decide (List.length (r6++[0,0])*4<=140737488355328)) <|
   ck (Au .i64 ((ax0.length:Int)-(r4.length:Int))) <|
   ck (Au .i64 (((ax0.length:Int)-(r4.length:Int))+2)) <|
   ck (mkOk (((ax0.length:Int)-(r4.length:Int))+2) 4) <|
   ck (Au .i64 ((List.length (r6++[0,0]):Int)-(r4.length:Int))) <|
   ck (Au .i64 (((List.length (r6++[0,0]):Int)-(r4.length:Int))-1)) <|
   bd (lp (I6 r4) ((((List.length (r6++[0,0]):Int)-(r4.length:Int))-1),(r6++[0,0]),(List.replicate (Int.toNat (((ax0.length:Int)-(r4.length:Int))+2)) 0)))<|fun(a6,l3) =>
   bd (He l3) fun r15 =>
   bd (He a6) fun r16 =>
   ck (Au .i64 (-aa)) <|
   bd (yze r16 (-aa)) fun r17 =>
   some (r15,r17)
   )
  )
def Qv(ax0:List Int):(Int×(List Int))->Option ((Int×(List Int))⊕(List Int)):=fun s=>match s with
 |(t8,l1) =>
  ite' (decide (t8<(ax0.length:Int))) (
   bd (at? ax0 t8) fun x1 =>
   ck (decide (List.length (l1++[(x1%256),((Int.fdiv x1 256)%256),((Int.fdiv x1 65536)%256),((Int.fdiv x1 16777216)%256)])*1<=140737488355328)) <|
   ck (Au .i64 (t8+1)) <|
   some (.inl ((t8+1),(l1++[(x1%256),((Int.fdiv x1 256)%256),((Int.fdiv x1 65536)%256),((Int.fdiv x1 16777216)%256)])))
   ) (
   some (.inr l1)
   )
def Io(ax0:List Int):Option ((List UInt8)) :=
 bd (lp (Qv ax0) (0,[]))<|fun l1 =>
 bd (In l1) fun r1 =>
 bd (MJ (BS r1)) fun r2 =>
 some r2
def FE(a0:List UInt8)(b1:List UInt8):Option ((List UInt8)) :=
 bd (Gv a0) fun r1 =>
 bd (Gv b1) fun r2 =>
 bd (Hh r1 r2) fun r3 =>
 bd (Io r3) fun r4 =>
 some r4
def MM(a0:List UInt8)(b1:List UInt8):Option ((List UInt8)) :=
 bd (Gv a0) fun r1 =>
 bd (Gv b1) fun r2 =>
 bd (Ks r1 r2) fun r3 =>
 bd (Io r3) fun r4 =>
 some r4
def MN(a0:List UInt8)(b1:List UInt8):Option (Int) :=
 bd (Gv a0) fun r1 =>
 bd (Gv b1) fun r2 =>
 bd (yzf r1 r2) fun r3 =>
 some r3
def MO(a0:List UInt8)(b1:List UInt8):Option ((List UInt8)×Int) :=
 bd (Gv a0) fun r1 =>
 bd (Gv b1) fun r2 =>
 bd (yzf r1 r2) fun r3 =>
 ite' (decide (r3<0)) (
  some ([],3)
  ) (
  bd (Hj r1 r2) fun r4 =>
  bd (Io r4) fun r5 =>
  some (r5,0)
  )
def MP(n0:Int):Option ((List UInt8)×Int) :=
 ite' (decide (n0<0)) (
  some ([],3)
  ) (
  bd (He [(n0%4294967296),((Int.fdiv n0 4294967296)%4294967296)]) fun r1 =>
  bd (Io r1) fun r2 =>
  some (r2,0)
  )
def Ip:(List Int×List Int)->Option ((List Int×List Int)⊕List Int):=fun s=>match s with
 |(x,y)=>ite' (decide ((y.length:Int)=0)) (some (.inr x)) (bd (ET x y) fun r=>some (.inl (y,r.2)))
def GT(a0:List UInt8)(b1:List UInt8):Option (List UInt8) :=
 bd (Gv a0) fun x =>
 bd (Gv b1) fun y =>
 bd (lp Ip (x,y)) fun r =>
 Io r
def FF(a0:Af):Option (Bool) :=
 ite' ((a0.Neg==false)&&(decide (a0.Num=[])&&(decide (a0.Den=[])&&true))) (
  some true
  ) (
  bd (gd (bif (!decide (a0.Num=[])) then(!decide (a0.Den=[])) else false) (Kg a0.Num)) fun r1 =>
  bd (gd (bif (bif (!decide (a0.Num=[])) then(!decide (a0.Den=[])) else false) then r1 else false) (Kg a0.Den)) fun r2 =>
  bd (gd (bif (bif (bif (!decide (a0.Num=[])) then(!decide (a0.Den=[])) else false) then r1 else false) then r2 else false) (GT a0.Num a0.Den)) fun r3 =>
  some (bif (bif (bif (bif (!decide (a0.Num=[])) then(!decide (a0.Den=[])) else false) then r1 else false) then r2 else false) then(decide (r3=[1])) else false)
  )
def Qw(a0:Af):Option (Af) :=
 bd (Hl a0) fun r1 =>
 ite' (!decide (r1.Num=[])) (
  some (Af.mk (!r1.Neg) r1.Num r1.Den)
  ) (
  some r1
  )
def Ei(a0:Af):Option (AQ) :=
 bd (gd (!(decide (a0.Num=[]))) (FF a0)) fun r1 =>
 ite' (bif (decide (a0.Num=[])) then true else(!r1)) (
  some (AQ.mk false [] [1])
  ) (
  some (AQ.mk a0.Neg a0.Num a0.Den)
  )
def Ku(f0:AQ)(g1:AQ):Option (AQ) :=
 bd (FE f0.num g1.num) fun r1 =>
 bd (FE f0.den g1.den) fun r2 =>
 some (AQ.mk (!(f0.neg==g1.neg)) r1 r2)
def Kv(f0:AQ)(g1:AQ):Option (AQ) :=
 bd (FE f0.num g1.den) fun r1 =>
 bd (FE g1.num f0.den) fun r2 =>
 bd (FE f0.den g1.den) fun r3 =>
 ite' (f0.neg==g1.neg) (
  bd (MM r1 r2) fun r4 =>
  some (AQ.mk f0.neg r4 r3)
  ) (
  bd (MN r1 r2) fun r5 =>
  bd (α:=(List UInt8)×(List UInt8)×AQ) (
   ite' (decide (r5<0)) (
    some (r2,r1,(AQ.mk g1.neg f0.num f0.den))
    ) (
    some (r1,r2,f0)
    )
  )<|fun(a5,b6,b0) =>
   bd (MO a5 b6) fun r6 =>
   some (AQ.mk b0.neg r6.1 r3)
  )
def I7(n0:Int):Option (AQ) :=
 ck (Au .i64 (-n0)) <|
 bd (MP (max n0 (-n0))) fun r1 =>
 some (AQ.mk (decide (n0<0)) r1.1 [1])
def Qx(a0:Af)(b1:Af):Option (Af) :=
 bd (Hl a0) fun r1 =>
 bd (Hl b1) fun r2 =>
 bd (I0 r1) fun r3 =>
 bd (I0 r2) fun r4 =>
 bd (Hg r3.1 r4.1) fun r5 =>
 bd (Hg r3.2 r4.2) fun r6 =>
 bd (Hk (!(r1.Neg==r2.Neg)) r5 r6) fun r7 =>
 some r7
def MQ(a0:Af)(b1:Af):Option (Af) :=
 bd (Hl a0) fun r1 =>
 bd (Hl b1) fun r2 =>
 bd (I0 r1) fun r3 =>
 bd (I0 r2) fun r4 =>
 bd (Hg r3.1 r4.2) fun r5 =>
 bd (Hg r4.1 r3.2) fun r6 =>
 bd (Hg r3.2 r4.2) fun r7 =>
 ite' (r1.Neg==r2.Neg) (
  bd (Qh r5 r6) fun r8 =>
  bd (Hk r1.Neg r8 r7) fun r9 =>
  some r9
  ) (
  bd (Kq r5 r6) fun r10 =>
  ite' (decide (0<=r10)) (
   bd (Kr r5 r6) fun r11 =>
   bd (Hk r1.Neg r11.S r7) fun r12 =>
   some r12
   ) (
   bd (Kr r6 r5) fun r13 =>
   bd (Hk r2.Neg r13.S r7) fun r14 =>
   some r14
   )
  )
def Kw(a0:List UInt8)(b1:List UInt8):Option ((List UInt8)×(List UInt8)×Int) :=
 bd (Gv a0) fun r1 =>
 bd (Gv b1) fun r2 =>
 ite' (decide ((r2.length:Int)=0)) (
  some ([],[],1)
  ) (
  bd (ET r1 r2) fun r3 =>
  bd (Io r3.1) fun r4 =>
  bd (Io r3.2) fun r5 =>
  some (r4,r5,0)
  )
def Qy(a0:Af):Option (Bool) :=
 bd (FF a0) fun r1 =>
 some (bif r1 then(!a0.Neg) else false)
def Qz(a0:Af)(b1:Af):Option (Af) :=
 bd (Qw b1) fun r1 =>
 bd (MQ a0 r1) fun r2 =>
 some r2
def MR(f0:AQ)(g1:AQ):Option (AQ) :=
 bd (Ku f0 (AQ.mk g1.neg g1.den g1.num)) fun r1 =>
 some r1
def I8(f0:AQ)(g1:AQ):Option (AQ) :=
 bd (Kv f0 (AQ.mk (!g1.neg) g1.num g1.den)) fun r1 =>
 some r1
def yz1(f0:AQ):Option (Af) :=
 ite' (decide (f0.num=[])) (
  some (Af.mk false [] [])
  ) (
  bd (GT f0.num f0.den) fun r1 =>
  bd (Kw f0.num r1) fun r2 =>
  bd (Kw f0.den r1) fun r3 =>
  some (Af.mk f0.neg r2.1 r3.1)
  )
def EX(op0:AQ->Option AQ)(b1:Af):Option (Af) :=
 bd (Ei b1) fun r1 =>
 bd (op0 r1) fun r2 =>
 bd (yz1 r2) fun r3 =>
 some r3
def EW(a0:Af):Option (Af) :=
 bd (EX (fun a0=>I8 (AQ.mk false [] [1]) a0) a0) fun r1 =>
 some r1
def Dj(a0:Af)(b1:Af):Option (Af) :=
 bd (Ei a0) fun r1 =>
 bd (EX (fun a0=>I8 r1 a0) b1) fun r2 =>
 some r2
def Kx(al:Int)(ag:Int):Option (Af×Int) :=
 bd (Iz al) fun r1 =>
 bd (gd (!(!r1)) (Iz ag)) fun r2 =>
 ite' (bif (!r1) then true else(!r2)) (
  some ((Af.mk false [] []),3)
  ) (
  ite' (decide (ag=0)) (
   some ((Af.mk false [] []),1)
   ) (
   bd (I7 al) fun r3 =>
   bd (I7 ag) fun r4 =>
   bd (MR r3 r4) fun r5 =>
   bd (yz1 r5) fun r6 =>
   some (r6,0)
   )
  )
def Gw(a0:Af)(b1:Af):Option (Int) :=
 bd (Ei a0) fun r1 =>
 bd (Ei b1) fun r2 =>
 bd (I8 r1 r2) fun r3 =>
 ite' (decide (r3.num=[])) (
  some 0
  ) (
  ite' r3.neg (
   some (-1)
   ) (
   some 1
   )
  )
def C8(a0:Af)(b1:Af):Option (Af) :=
 bd (Ei a0) fun r1 =>
 bd (EX (fun a0=>Ku r1 a0) b1) fun r2 =>
 some r2
def BY(a0:Af)(b1:Af):Option (Af) :=
 bd (Ei a0) fun r1 =>
 bd (EX (fun a0=>Kv r1 a0) b1) fun r2 =>
 some r2
def Di(n0:Int):Option (Af) :=
 bd (Iz n0) fun r1 =>
 ite' (!r1) (
  some (Af.mk false [] [])
  ) (
  bd (I7 n0) fun r2 =>
  bd (yz1 r2) fun r3 =>
  some r3
  )
def Q0 :Option (Bc) :=
 bd (Di 10) fun r1 =>
 some (Bc.mk [(Bq.mk 0 (Af.mk false [] [])),(Bq.mk 10 r1)])
def Q1(ac0:Bc):Int->Option (Int⊕(Unit⊕Int)):=fun s=>match s with
 |t18 =>
  ite' (decide (t18<(ac0.Points.length:Int))) (
   bd (at? ac0.Points t18) fun x1 =>
   bd (PU x1.Stage) fun r1 =>
   ite' (!r1) (
    some (.inr (.inr 3))
    ) (
    bd (Qy x1.Flow) fun r2 =>
    ite' (!r2) (
     some (.inr (.inr 1))
     ) (
     ck (!(decide (0<t18))||Au .i64 (t18-1)) <|
     bd (gd (decide (0<t18)) (at? ac0.Points (t18-1))) fun x2 =>
     ck (!((decide (0<t18))&&(!(decide (x1.Stage<=x2.Stage))))||Au .i64 (t18-1)) <|
     bd (gd ((decide (0<t18))&&(!(decide (x1.Stage<=x2.Stage)))) (at? ac0.Points (t18-1))) fun x3 =>
     bd (gd ((decide (0<t18))&&(!(decide (x1.Stage<=x2.Stage)))) (Gw x1.Flow x3.Flow)) fun r3 =>
     ite' (bif (decide (0<t18)) then(bif (decide (x1.Stage<=x2.Stage)) then true else(decide (r3<0))) else false) (
      some (.inr (.inr 1))
      ) (
      ck (Au .i64 (t18+1)) <|
      some (.inl (t18+1))
      )
     )
    )
   ) (
   some (.inr (.inl ()))
   )
def Ky(ac0:Bc):Option (Int) :=
 ite' (bif (decide ((ac0.Points.length:Int)<1)) then true else(decide (16<(ac0.Points.length:Int)))) (
  some 2
  ) (
  bd (lp (Q1 ac0) 0)<|fun o=>match o with
  | .inl ()=>(
    some 0
   )
  | .inr o=>(
    some o
   )
  )
def MS(ac0:Bc)(a3:Int):Option (Af) :=
 bd (J2 (ac0.Points.length:Int) (fun a0=>Kn a0 ac0 a3)) fun r1 =>
 ite' (decide (r1=0)) (
  some (Af.mk false [] [])
  ) (
  ck (Au .i64 (r1-1)) <|
  bd (at? ac0.Points (r1-1)) fun x1 =>
  ite' (decide (r1=(ac0.Points.length:Int))) (
   some x1.Flow
   ) (
   bd (at? ac0.Points r1) fun x2 =>
   ck (Au .i64 (a3-x1.Stage)) <|
   ck (Au .i64 (x2.Stage-x1.Stage)) <|
   bd (Kx (a3-x1.Stage) (x2.Stage-x1.Stage)) fun r2 =>
   bd (Dj x2.Flow x1.Flow) fun r3 =>
   bd (C8 r2.1 r3) fun r4 =>
   bd (BY x1.Flow r4) fun r5 =>
   some r5
   )
  )
def Zg :Option ((List Ao)×(List Al)) :=
 bd (Di 1) fun r1 =>
 bd (Q0 ) fun r2 =>
 bd (Di 2) fun r3 =>
 bd (Q0 ) fun r4 =>
 some ([(Ao.mk 0 4 [(AM.mk 1 2),(AM.mk 5 1),(AM.mk 9 1)] 0 0),(Ao.mk 4 6 [] 2 3)],[(Al.mk 0 2 r1 0 r2),(Al.mk 3 5 r3 0 r4)])
def Kz(as0:Al):Option (Bool) :=
 ite' (bif (bif (bif (bif (decide (as0.From<0)) then true else(decide (as0.To<=as0.From))) then true else(decide (1402560<as0.To))) then true else(decide (as0.Datum<(-1000)))) then true else(decide (1000<as0.Datum))) (
  some false
  ) (
  bd (FF as0.Weight) fun r1 =>
  bd (gd r1 (Ky as0.Curve)) fun r2 =>
  some (bif r1 then(decide (r2=0)) else false)
  )
def MT(ac0:Bc)(a3:Int):Option (Af) :=
 bd (Ky ac0) fun r1 =>
 ite' (!decide (r1=0)) (
  some (Af.mk false [] [])
  ) (
  bd (MS ac0 a3) fun r2 =>
  some r2
  )
def Q2(l0:List Al):(Int×Int)->Option ((Int×Int)⊕(Unit⊕Int)):=fun s=>match s with
 |(ax,t11) =>
  ite' (decide (t11<(l0.length:Int))) (
   bd (at? l0 t11) fun x1 =>
   bd (Kz x1) fun r1 =>
   ite' (bif (!r1) then true else(decide (x1.From<ax))) (
    some (.inr (.inr 1))
    ) (
    ck (Au .i64 (t11+1)) <|
    some (.inl (x1.To,(t11+1)))
    )
   ) (
   some (.inr (.inl ()))
   )
def D9(l0:List Al):Option (Int) :=
 ite' (decide (400<(l0.length:Int))) (
  some 2
  ) (
  bd (lp (Q2 l0) (0,0))<|fun o=>match o with
  | .inl ()=>(
    some 0
   )
  | .inr o=>(
    some o
   )
  )
def D8(as0:Al)(a3:Int):Option (Af) :=
 ck (Au .i64 (a3+as0.Datum)) <|
 bd (MT as0.Curve (a3+as0.Datum)) fun r1 =>
 bd (C8 as0.Weight r1) fun r2 =>
 some r2
def JZ:List Int->List (Int×Int)->Option (List (Int×Int))
 |[],m=>some m
 |s :: l,m=>ck (Au .i64 (Option.getD (mget keqI m s) 0+1)) (JZ l (mput keqI m s (Option.getD (mget keqI m s) 0+1)))
def BQ(s:Al):List (Int×Int)->Af->Option Af
 |[],r=>some r
 |p :: l,r=>bd (Di p.2) fun a=>bd (D8 s p.1) fun b=>bd (C8 a b) fun c=>bd (BY r c) fun r=>BQ s l r
def insA{α:Type}(x:α):List α->List (List α)
 |[]=>[[x]]
 |y :: l=>(x :: y :: l) :: (insA x l).map (y :: ·)
def Mo{α:Type}:List α->List (List α)
 |[]=>[[]]
 |x :: l=>(Mo l).flatMap (insA x)
def eqR:Option Af->Option Af->Bool
 |some a,some b=>a.Neg==b.Neg&&(decide (a.Num=b.Num)&&decide (a.Den=b.Den))
 |_,_=>false
def It(s:Al)(m:List (Int×Int))(r:Af):Option Af:=bif (Mo m).all (fun m'=>eqR (BQ s m' r) (BQ s m r)) then BQ s m r else none
def vaL(h:Ba):List Al->Af->Option (Af×Int)
 |[],r=>some (r,0)
 |s :: l,r=>ck (Au .i64 (h.From+(h.Stages.length:Int)))<|ite' (bif decide (s.From<h.From) then true else decide (h.From+(h.Stages.length:Int)<s.To)) (some (Af.mk false [] [],19)) <|
  ck (Au .i64 (s.From-h.From)&&Au .i64 (s.To-h.From)&&Cv h.Stages (s.From-h.From) (s.To-h.From)) <|
  bd (JZ (sub h.Stages (s.From-h.From) (s.To-h.From)) []) fun m=>bd (It s m r) fun r=>vaL h l r
def Is(h0:Ba)(l1:List Al):Option (Af×Int) :=
 bd (D9 l1) fun e=>ite' (!decide (e=0)) (some (Af.mk false [] [],e)) <|
 bd (GV h0) fun p=>ite' (!decide (p.2=0)) (some (Af.mk false [] [],1)) <|
 vaL h0 l1 (Af.mk false [] [])
def EY(l0:List Ao)(a1:List Al):Option (Int) :=
 bd (Kp l0) fun r1 =>
 ite' (!decide (r1=0)) (
  some r1
  ) (
  bd (D9 a1) fun r2 =>
  ite' (!decide (r2=0)) (
   some r2
   ) (
   bd (gd ((decide (0<(a1.length:Int)))&&(!(decide ((l0.length:Int)=0)))) (at? a1 0)) fun x1 =>
   bd (gd ((decide (0<(a1.length:Int)))&&(!(decide ((l0.length:Int)=0)))) (at? l0 0)) fun x2 =>
   ck (!((decide (0<(a1.length:Int)))&&(!(bif (decide ((l0.length:Int)=0)) then true else(decide (x1.From<x2.From)))))||Au .i64 ((a1.length:Int)-1)) <|
   bd (gd ((decide (0<(a1.length:Int)))&&(!(bif (decide ((l0.length:Int)=0)) then true else(decide (x1.From<x2.From))))) (at? a1 ((a1.length:Int)-1))) fun x3 =>
   ck (!((decide (0<(a1.length:Int)))&&(!(bif (decide ((l0.length:Int)=0)) then true else(decide (x1.From<x2.From)))))||Au .i64 ((l0.length:Int)-1)) <|
   bd (gd ((decide (0<(a1.length:Int)))&&(!(bif (decide ((l0.length:Int)=0)) then true else(decide (x1.From<x2.From))))) (at? l0 ((l0.length:Int)-1))) fun x4 =>
   ite' (bif (decide (0<(a1.length:Int))) then(bif (bif (decide ((l0.length:Int)=0)) then true else(decide (x1.From<x2.From))) then true else(decide (x4.To<x3.To))) else false) (
    some 19
    ) (
    some 0
    )
   )
  )
def Q3(l0:List Ao)(a1:List Al)(k2:Int):Option ((List A7)×Int) :=
 bd (EY l0 a1) fun r1 =>
 ite' (!decide (r1=0)) (
  some ([],r1)
  ) (
  ite' (bif (decide (k2<0)) then true else(decide ((l0.length:Int)<=k2))) (
   some ([],1)
   ) (
   bd (at? l0 k2) fun x1 =>
   bd (Iv x1 a1) fun r2 =>
   some (r2,0)
   )
  )
def MU(l0:List Al)(t1:EA):(Int×(List Al))->Option ((Int×(List Al))⊕(List Al)):=fun s=>match s with
 |(t32,l3) =>
  ite' (decide (t32<(l0.length:Int))) (
   bd (at? l0 t32) fun x1 =>
   ite' (decide ((max x1.From t1.From)<(min x1.To t1.To))) (
    ck (decide (List.length (l3++[(Al.mk (max x1.From t1.From) (min x1.To t1.To) x1.Weight x1.Datum x1.Curve)])*88<=140737488355328)) <|
    ck (Au .i64 (t32+1)) <|
    some (.inl ((t32+1),(l3++[(Al.mk (max x1.From t1.From) (min x1.To t1.To) x1.Weight x1.Datum x1.Curve)])))
    ) (
    ck (Au .i64 (t32+1)) <|
    some (.inl ((t32+1),l3))
    )
   ) (
   some (.inr l3)
   )
def K2(l0:List Al)(t1:EA):Option ((List Al)×Int) :=
 bd (D9 l0) fun r1 =>
 ite' (!decide (r1=0)) (
  some ([],r1)
  ) (
  ite' (bif (bif (decide (t1.From<0)) then true else(decide (t1.To<t1.From))) then true else(decide (1402560<t1.To))) (
   some ([],3)
   ) (
   bd (lp (MU l0 t1) (0,[]))<|fun l3 =>
   some (l3,0)
   )
  )
def K3(by1:Af)(l0:List Al):(Int×(List Al))->Option ((Int×(List Al))⊕(List Al)):=fun s=>match s with
 |(t20,l3) =>
  ite' (decide (t20<(l0.length:Int))) (
   bd (at? l0 t20) fun x1 =>
   bd (C8 x1.Weight by1) fun r3 =>
   ck (decide (List.length (l3++[(Al.mk x1.From x1.To r3 x1.Datum x1.Curve)])*88<=140737488355328)) <|
   ck (Au .i64 (t20+1)) <|
   some (.inl ((t20+1),(l3++[(Al.mk x1.From x1.To r3 x1.Datum x1.Curve)])))
   ) (
   some (.inr l3)
   )
def MW(l0:List Al)(by1:Af):Option ((List Al)×Int) :=
 bd (D9 l0) fun r1 =>
 ite' (!decide (r1=0)) (
  some ([],r1)
  ) (
  bd (FF by1) fun r2 =>
  ite' (!r2) (
   some ([],1)
   ) (
   bd (lp (K3 by1 l0) (0,[]))<|fun l3 =>
   some (l3,0)
   )
  )
def MY(as0:Al)(a3:Int):Option (Af×Int) :=
 bd (Kz as0) fun r1 =>
 ite' (!r1) (
  some ((Af.mk false [] []),1)
  ) (
  ite' (bif (decide (a3<0)) then true else(decide (1000<a3))) (
   some ((Af.mk false [] []),3)
   ) (
   bd (D8 as0 a3) fun r2 =>
   some (r2,0)
   )
  )
def Ha(au:Int)(a3:Int)(c0:List Al)(c1:Bool):Option (Af) :=
 ite' (decide (au<0)) (
  some (Af.mk false [] [])
  ) (
  bd (at? c0 au) fun x1 =>
  bd (MY x1 a3) fun r1 =>
  ite' c1 (
   bd (EW r1.1) fun r2 =>
   some r2
   ) (
   some r1.1
   )
  )
def forN{G:Type}(f:G->Nat->Option G):Nat->Nat->G->Option G
 |0,_,s=>some s
 |m+1,k,s=>bd (f s k) fun s=>forN f m (k+1) s
def bigF:Nat:=2 ^ 4096
def lpB{G ω:Type}(body:G->Option (G⊕ω))(s:G):Option ω:=lpN body bigF s
def GY(rate:Int->Int->Option Af)(st:Int):List A7->Option (List Af)
 |[]=>some []
 |c :: l=>bd (rate c.Span st) fun a=>bd (GY rate st l) fun r=>some (a :: r)
def GX:(Int×Int×List Int×List Int)->Option ((Int×Int×List Int×List Int)⊕(Int×List Int×List Int)):=fun s=>match s with
 | (n,at0,left,row)=>ite' (decide (0<n)) (
   bd (at? left at0) fun la=>ite' (decide (la=0)) (ck (Au .i64 (at0+1))<|some (.inl (n,at0+1,left,row))) <|
   bd (at? row at0) fun xa=>ck (Au .i64 (xa+min n la)&&Au .i64 (la-min n la)&&Au .i64 (n-min n la)) <|
   some (.inl (n-min n la,at0,left.set at0.toNat (la-min n la),row.set at0.toNat (xa+min n la)))) (some (.inr (at0,left,row)))
def bgL(rate:Int->Int->Option Af)(cl:List A7):List AM->Int->List Int->List (List Af)->List (List Int)->Option (List (List Af)×List (List Int))
 |[],_,_,co,x=>some (co,x)
 |h :: t,at0,left,co,x=>bd (GY rate h.Stage cl) fun c=>bd (lp GX (h.Ticks,at0,left,List.replicate cl.length 0)) fun r=>bgL rate cl t r.1 r.2.1 (co++[c]) (x++[r.2.2])
def FB(r:Ao)(spans:List Al)(rate:Int->Int->Option Af):Option (List A7×List (List Af)×List (List Int)) :=
 bd (Iv r spans) fun cl=>ck (decide (0<cl.length)&&decide (cl.length<=1000000)&&decide (r.Table.length<=1000000)) <|
 bd (bgL rate cl r.Table 0 (cl.map (·.Ticks)) [] []) fun p=>some (cl,p.1,p.2)
def imS(co:List (List Af))(x:List (List Int))(a b:Nat)(m:Int×Af)(s:Nat):Option (Int×Af) :=
 bd (at? co (s:Int)) fun cs=>bd (at? cs (b:Int)) fun cb=>bd (at? cs (a:Int)) fun ca=>bd (Dj cb ca) fun d =>
 bd (at? x (s:Int)) fun xs=>bd (at? xs (a:Int)) fun xa =>
 ite' (decide (0<xa)) (ite' (decide (m.1<0)) (some ((s:Int),d)) (bd (Gw d m.2) fun q=>ite' (decide (q<0)) (some ((s:Int),d)) (some m))) (some m)
def imM(co:List (List Af))(x:List (List Int))(a b:Nat):Option (Int×Af):=forN (imS co x a b) x.length 0 (-1,Af.mk false [] [])
def Iu(co:List (List Af))(x:List (List Int))(n a:Nat):Option (List (Int×Af)):=forN (fun l b=>bd (imM co x a b) fun m=>some (l++[m])) n 0 []
def imMv(co:List (List Af))(x:List (List Int))(n:Nat):Option (List (List (Int×Af))):=forN (fun l a=>bd (Iu co x n a) fun r=>some (l++[r])) n 0 []
def imE(mv:List (List (Int×Af)))(a:Nat)(s:List Af×List Int×Int)(b:Nat):Option (List Af×List Int×Int) :=
 bd (at? mv (a:Int)) fun row=>bd (at? row (b:Int)) fun m =>
 ite' (bif !decide ((a:Int)=(b:Int)) then decide (0<=m.1) else false) (
  bd (at? s.1 (a:Int)) fun da=>bd (BY da m.2) fun e=>bd (at? s.1 (b:Int)) fun db=>bd (Gw e db) fun q =>
  ite' (decide (q<0)) (some (s.1.set b e,s.2.1.set b (a:Int),(b:Int))) (some s)) (some s)
def Kb(mv:List (List (Int×Af)))(n:Nat)(d:List Af)(f:List Int):Option (List Af×List Int×Int):=forN (fun s a=>forN (imE mv a) n 0 s) n 0 (d,f,-1)
def imPs(mv:List (List (Int×Af)))(n:Nat):Nat->List Af->List Int->Int->Option (Option (List Int×Int))
 |0,_,f,c=>some (some (f,c))
 |k+1,d,f,_=>bd (Kb mv n d f) fun r=>ite' (decide (r.2.2<0)) (some none) (imPs mv n k r.1 r.2.1 r.2.2)
def imG(mv:List (List (Int×Af)))(f:List Int)(b:Int):Option (Int×Int):=bd (at? f b) fun a=>bd (at? mv a) fun row=>bd (at? row b) fun m=>some (a,m.1)
def Ee(mv:List (List (Int×Af)))(x:List (List Int))(f:List Int)(at0:Int):(Int×Bool×Int)->Option ((Int×Bool×Int)⊕Int):=fun s=>match s with
 | (b,begun,most)=>ite' (bif !begun then true else !decide (b=at0)) (
   bd (imG mv f b) fun g=>bd (at? x g.2) fun xs=>bd (at? xs g.1) fun xa=>some (.inl (g.1,true,min most xa))) (some (.inr most))
def Ef(mv:List (List (Int×Af)))(f:List Int)(at0 most:Int):(Int×Bool×List (List Int))->Option ((Int×Bool×List (List Int))⊕List (List Int)):=fun s=>match s with
 | (b,begun,x)=>ite' (bif !begun then true else !decide (b=at0)) (
   bd (imG mv f b) fun g=>bd (at? x g.2) fun xs=>bd (at? xs g.1) fun xa=>ck (Au .i64 (xa-most))<|bd (at? (xs.set g.1.toNat (xa-most)) b) fun xb=>ck (Au .i64 (xb+most)) <|
   some (.inl (g.1,true,x.set g.2.toNat ((xs.set g.1.toNat (xa-most)).set b.toNat (xb+most))))) (some (.inr x))
def GW(co:List (List Af))(n:Nat):(List (List Int)×List Int)->Option ((List (List Int)×List Int)⊕List (List Int)):=fun s=>match s with
 |(x,f)=>bd (imMv co x n) fun mv=>bd (imPs mv n (n+1) (List.replicate n (Af.mk false [] [])) f (-1)) fun o=>match o with
  |none=>some (.inr x)
  |some (f,c)=>bd (forN (fun(at0:Int) (_:Nat)=>at? f at0) n 0 c) fun at0 =>
   bd (lp (Ee mv x f at0) (at0,false,1402560)) fun most=>bd (lp (Ef mv f at0 most) (at0,false,x)) fun x=>some (.inl (x,f))
def F9(co:List (List Af))(x:List (List Int))(n:Nat):Option (List (List Int)):=lpB (GW co n) (x,List.replicate n 0)
def Bp(m:List (Int×List Int))(k s:Int):List (Int×List Int):=mput keqI m k (Option.getD (mget keqI m k) []++[s])
def Eh(rate:Int->Int->Option Af)(r:Ao):List A7->List (Int×List Int)->Af->Option (List (Int×List Int)×Af)
 |[],m,q=>some (m,q)
 |c :: l,m,q=>bd (rate c.Span r.Hi) fun a=>bd (rate c.Span r.Lo) fun b=>bd (Gw a b) fun e =>
  bd (forN (fun m (_:Nat)=>some (Bp m c.Span (bif decide (e<0) then r.Hi else r.Lo))) c.Ticks.toNat 0 m) fun m =>
  bd (Di c.Ticks) fun i=>bd (rate c.Span (bif decide (e<0) then r.Hi else r.Lo)) fun g=>bd (C8 i g) fun p=>bd (BY q p) fun q=>Eh rate r l m q
def DA(h:AM):List A7->List Af->List Int->List (Int×List Int)->Af->Option (List (Int×List Int)×Af)
 |c :: cl,g :: co,n :: x,m,q=>bd (forN (fun m (_:Nat)=>some (Bp m c.Span h.Stage)) n.toNat 0 m) fun m =>
  bd (Di n) fun i=>bd (C8 i g) fun p=>bd (BY q p) fun q=>DA h cl co x m q
 |_,_,[],m,q=>some (m,q)
 |_,_,_,_,_=>none
def DB(cl:List A7):List AM->List (List Af)->List (List Int)->List (Int×List Int)->Af->Option (List (Int×List Int)×Af)
 |h :: t,co :: cs,x :: xs,m,q=>bd (DA h cl co x m q) fun r=>DB cl t cs xs r.1 r.2
 |_,_,[],m,q=>some (m,q)
 |_,_,_,_,_=>none
def enAt(spans:List Al)(t:Int):Option Int:=bd (J2 (spans.length:Int) (fun a0=>FC a0 spans t)) fun k =>
 bd (gd (!decide (k=(spans.length:Int))) (at? spans k)) fun x=>some (bif (bif decide (k=(spans.length:Int)) then true else decide (t<x.From)) then -1 else k)
def EU(spans:List Al)(a8 to0:Int):(Int×List (Int×List Int)×List Int)->Option ((Int×List (Int×List Int)×List Int)⊕List Int):=fun s=>match s with
 | (t,m,out)=>ite' (decide (t<to0)) (
   bd (enAt spans t) fun k=>bd (mget keqI m k) fun l=>match l with
   |[]=>none
   | s :: l=>ck (Au .i64 (t-a8)&&(decide (0<=t-a8)&&decide (t-a8<(out.length:Int)))&&Au .i64 (t+1))<|some (.inl (t+1,mput keqI m k l,out.set (t-a8).toNat s))) (some (.inr out))
def EV(spans:List Al)(rate:Int->Int->Option Af)(a8:Int):List Ao->Af->List Int->Option (Af×List Int)
 |[],q,out=>some (q,out)
 | r :: l,q,out=>bd (ite' (decide ((r.Table.length:Int)=0)) (bd (Iv r spans) fun cl=>ck (decide (cl.length<=1000000))<|Eh rate r cl [] q)
   (bd (FB r spans rate) fun b=>bd (F9 b.2.1 b.2.2 b.1.length) fun x=>DB b.1 r.Table b.2.1 x [] q)) fun p =>
  ck (p.1.all fun e=>decide ((e.2.length:Int)<=1000000000))<|bd (lp (EU spans a8 r.To) (r.From,p.1,out)) fun out=>EV spans rate a8 l p.2 out
def Hb(l0:List Ao)(a1:List Al)(ap:Bool):Option (Af×Ba) :=
 bd (gd (decide (0<(l0.length:Int))) (at? l0 0)) fun a=>bd (gd (decide (0<(l0.length:Int))) (at? l0 ((l0.length:Int)-1))) fun z =>
 ck (decide ((l0.length:Int)<=1000000000)&&(!decide (0<(l0.length:Int))||(Au .i64 (z.To-a.From)&&decide (0<=z.To-a.From)&&decide (z.To-a.From<=1000000000)))) <|
 bd (EV a1 (fun s t=>Ha s t a1 ap) (bif decide (0<(l0.length:Int)) then a.From else 0) l0 (Af.mk false [] []) (bif decide (0<(l0.length:Int)) then List.replicate (z.To-a.From).toNat 0 else [])) fun r =>
 bd (ite' ap (EW r.1) (some r.1)) fun q=>some (q,Ba.mk (bif decide (0<(l0.length:Int)) then a.From else 0) r.2)
def K4(l0:List Ao)(a1:List Al):Option (Af×Ba×Int) :=
 bd (EY l0 a1) fun r1 =>
 ite' (!decide (r1=0)) (
  some ((Af.mk false [] []),(Ba.mk 0 []),r1)
  ) (
  bd (Hb l0 a1 false) fun r2 =>
  some (r2.1,r2.2,0)
  )
def K5(l0:List Ao)(a1:List Al):Option (Af×Ba×Int) :=
 bd (EY l0 a1) fun r1 =>
 ite' (!decide (r1=0)) (
  some ((Af.mk false [] []),(Ba.mk 0 []),r1)
  ) (
  bd (Hb l0 a1 true) fun r2 =>
  some (r2.1,r2.2,0)
  )
def EZ(l0:List Ao)(a1:List Al):Option (Dh×Int) :=
 bd (K4 l0 a1) fun r1 =>
 bd (K5 l0 a1) fun r2 =>
 ite' (bif (!decide (r1.2.2=0)) then true else(!decide (r2.2.2=0))) (
  some ((Dh.mk (Af.mk false [] []) (Af.mk false [] [])),r1.2.2)
  ) (
  some ((Dh.mk r1.1 r2.1),0)
  )
def I9 :Option (Bool) :=
 bd (Zg ) fun r1 =>
 bd (Q3 r1.1 r1.2 0) fun r2 =>
 bd (Q3 r1.1 r1.2 1) fun r3 =>
 bd (K4 r1.1 r1.2) fun r4 =>
 bd (K5 r1.1 r1.2) fun r5 =>
 bd (EZ r1.1 r1.2) fun r6 =>
 bd (GV (Ba.mk 0 [1,5,1,9,2,3])) fun r7 =>
 bd (EZ r7.1 r1.2) fun r8 =>
 ite' (bif (bif (bif (bif (bif (bif (bif (bif (!decide (r2.2=0)) then true else(!decide (r3.2=0))) then true else(!decide (r4.2.2=0))) then true else(!decide (r5.2.2=0))) then true else(!decide (r6.2=0))) then true else(!decide (r7.2=0))) then true else(!decide (r8.2=0))) then true else(!decide ((r2.1.length:Int)=3))) then true else(!decide ((r3.1.length:Int)=2))) (
  some false
  ) (
  bd (Is r4.2.1 r1.2) fun r9 =>
  bd (Is r5.2.1 r1.2) fun r10 =>
  bd (at? r2.1 0) fun x1 =>
  bd (gd (decide (x1.Span=0)&&(decide (x1.Ticks=2)&&true)) (at? r2.1 1)) fun x2 =>
  bd (gd (bif (decide (x1.Span=0)&&(decide (x1.Ticks=2)&&true)) then(decide (x2.Span=1)&&(decide (x2.Ticks=1)&&true)) else false) (at? r2.1 2)) fun x3 =>
  bd (gd (bif (bif (decide (x1.Span=0)&&(decide (x1.Ticks=2)&&true)) then(decide (x2.Span=1)&&(decide (x2.Ticks=1)&&true)) else false) then(decide (x3.Span=(-1))&&(decide (x3.Ticks=1)&&true)) else false) (at? r3.1 0)) fun x4 =>
  bd (gd (bif (bif (bif (decide (x1.Span=0)&&(decide (x1.Ticks=2)&&true)) then(decide (x2.Span=1)&&(decide (x2.Ticks=1)&&true)) else false) then(decide (x3.Span=(-1))&&(decide (x3.Ticks=1)&&true)) else false) then(decide (x4.Span=1)&&(decide (x4.Ticks=1)&&true)) else false) (at? r3.1 1)) fun x5 =>
  bd (Di 12) fun r11 =>
  bd (gd ((r4.1.Neg==r11.Neg)&&(decide (r4.1.Num=r11.Num)&&(decide (r4.1.Den=r11.Den)&&true))) (Di 30)) fun r12 =>
  bd (gd (bif (bif ((r4.1.Neg==r11.Neg)&&(decide (r4.1.Num=r11.Num)&&(decide (r4.1.Den=r11.Den)&&true))) then((r5.1.Neg==r12.Neg)&&(decide (r5.1.Num=r12.Num)&&(decide (r5.1.Den=r12.Den)&&true))) else false) then((r6.1.Lo.Neg==r4.1.Neg)&&(decide (r6.1.Lo.Num=r4.1.Num)&&(decide (r6.1.Lo.Den=r4.1.Den)&&((r6.1.Hi.Neg==r5.1.Neg)&&(decide (r6.1.Hi.Num=r5.1.Num)&&(decide (r6.1.Hi.Den=r5.1.Den)&&true)))))) else false) (Qr r1.1 r4.2.1)) fun r13 =>
  bd (gd (bif (bif (bif ((r4.1.Neg==r11.Neg)&&(decide (r4.1.Num=r11.Num)&&(decide (r4.1.Den=r11.Den)&&true))) then((r5.1.Neg==r12.Neg)&&(decide (r5.1.Num=r12.Num)&&(decide (r5.1.Den=r12.Den)&&true))) else false) then((r6.1.Lo.Neg==r4.1.Neg)&&(decide (r6.1.Lo.Num=r4.1.Num)&&(decide (r6.1.Lo.Den=r4.1.Den)&&((r6.1.Hi.Neg==r5.1.Neg)&&(decide (r6.1.Hi.Num=r5.1.Num)&&(decide (r6.1.Hi.Den=r5.1.Den)&&true)))))) else false) then r13 else false) (Qr r1.1 r5.2.1)) fun r14 =>
  bd (gd (bif (bif (bif (bif (bif (decide (x1.Span=0)&&(decide (x1.Ticks=2)&&true)) then(decide (x2.Span=1)&&(decide (x2.Ticks=1)&&true)) else false) then(decide (x3.Span=(-1))&&(decide (x3.Ticks=1)&&true)) else false) then(decide (x4.Span=1)&&(decide (x4.Ticks=1)&&true)) else false) then(decide (x5.Span=(-1))&&(decide (x5.Ticks=1)&&true)) else false) then(bif (bif (bif (bif (bif (bif (bif (bif ((r4.1.Neg==r11.Neg)&&(decide (r4.1.Num=r11.Num)&&(decide (r4.1.Den=r11.Den)&&true))) then((r5.1.Neg==r12.Neg)&&(decide (r5.1.Num=r12.Num)&&(decide (r5.1.Den=r12.Den)&&true))) else false) then((r6.1.Lo.Neg==r4.1.Neg)&&(decide (r6.1.Lo.Num=r4.1.Num)&&(decide (r6.1.Lo.Den=r4.1.Den)&&((r6.1.Hi.Neg==r5.1.Neg)&&(decide (r6.1.Hi.Num=r5.1.Num)&&(decide (r6.1.Hi.Den=r5.1.Den)&&true)))))) else false) then r13 else false) then r14 else false) then((r9.1.Neg==r4.1.Neg)&&(decide (r9.1.Num=r4.1.Num)&&(decide (r9.1.Den=r4.1.Den)&&true))) else false) then((r10.1.Neg==r5.1.Neg)&&(decide (r10.1.Num=r5.1.Num)&&(decide (r10.1.Den=r5.1.Den)&&true))) else false) then(decide (r9.2=0)) else false) then(decide (r10.2=0)) else false) else false) (Di 28)) fun r15 =>
  bd (gd (bif (bif (bif (bif (bif (decide (x1.Span=0)&&(decide (x1.Ticks=2)&&true)) then(decide (x2.Span=1)&&(decide (x2.Ticks=1)&&true)) else false) then(decide (x3.Span=(-1))&&(decide (x3.Ticks=1)&&true)) else false) then(decide (x4.Span=1)&&(decide (x4.Ticks=1)&&true)) else false) then(decide (x5.Span=(-1))&&(decide (x5.Ticks=1)&&true)) else false) then(bif (bif (bif (bif (bif (bif (bif (bif ((r4.1.Neg==r11.Neg)&&(decide (r4.1.Num=r11.Num)&&(decide (r4.1.Den=r11.Den)&&true))) then((r5.1.Neg==r12.Neg)&&(decide (r5.1.Num=r12.Num)&&(decide (r5.1.Den=r12.Den)&&true))) else false) then((r6.1.Lo.Neg==r4.1.Neg)&&(decide (r6.1.Lo.Num=r4.1.Num)&&(decide (r6.1.Lo.Den=r4.1.Den)&&((r6.1.Hi.Neg==r5.1.Neg)&&(decide (r6.1.Hi.Num=r5.1.Num)&&(decide (r6.1.Hi.Den=r5.1.Den)&&true)))))) else false) then r13 else false) then r14 else false) then((r9.1.Neg==r4.1.Neg)&&(decide (r9.1.Num=r4.1.Num)&&(decide (r9.1.Den=r4.1.Den)&&true))) else false) then((r10.1.Neg==r5.1.Neg)&&(decide (r10.1.Num=r5.1.Num)&&(decide (r10.1.Den=r5.1.Den)&&true))) else false) then(decide (r9.2=0)) else false) then(decide (r10.2=0)) else false) else false) (Di 28)) fun r16 =>
  bd (gd (bif (bif (bif (bif (bif (bif (decide (x1.Span=0)&&(decide (x1.Ticks=2)&&true)) then(decide (x2.Span=1)&&(decide (x2.Ticks=1)&&true)) else false) then(decide (x3.Span=(-1))&&(decide (x3.Ticks=1)&&true)) else false) then(decide (x4.Span=1)&&(decide (x4.Ticks=1)&&true)) else false) then(decide (x5.Span=(-1))&&(decide (x5.Ticks=1)&&true)) else false) then(bif (bif (bif (bif (bif (bif (bif (bif ((r4.1.Neg==r11.Neg)&&(decide (r4.1.Num=r11.Num)&&(decide (r4.1.Den=r11.Den)&&true))) then((r5.1.Neg==r12.Neg)&&(decide (r5.1.Num=r12.Num)&&(decide (r5.1.Den=r12.Den)&&true))) else false) then((r6.1.Lo.Neg==r4.1.Neg)&&(decide (r6.1.Lo.Num=r4.1.Num)&&(decide (r6.1.Lo.Den=r4.1.Den)&&((r6.1.Hi.Neg==r5.1.Neg)&&(decide (r6.1.Hi.Num=r5.1.Num)&&(decide (r6.1.Hi.Den=r5.1.Den)&&true)))))) else false) then r13 else false) then r14 else false) then((r9.1.Neg==r4.1.Neg)&&(decide (r9.1.Num=r4.1.Num)&&(decide (r9.1.Den=r4.1.Den)&&true))) else false) then((r10.1.Neg==r5.1.Neg)&&(decide (r10.1.Num=r5.1.Num)&&(decide (r10.1.Den=r5.1.Den)&&true))) else false) then(decide (r9.2=0)) else false) then(decide (r10.2=0)) else false) else false) then((r8.1.Lo.Neg==r15.Neg)&&(decide (r8.1.Lo.Num=r15.Num)&&(decide (r8.1.Lo.Den=r15.Den)&&((r8.1.Hi.Neg==r16.Neg)&&(decide (r8.1.Hi.Num=r16.Num)&&(decide (r8.1.Hi.Den=r16.Den)&&true)))))) else false) (EY r1.1 r1.2)) fun r17 =>
  ck (!(bif (bif (bif (bif (bif (bif (bif (decide (x1.Span=0)&&(decide (x1.Ticks=2)&&true)) then(decide (x2.Span=1)&&(decide (x2.Ticks=1)&&true)) else false) then(decide (x3.Span=(-1))&&(decide (x3.Ticks=1)&&true)) else false) then(decide (x4.Span=1)&&(decide (x4.Ticks=1)&&true)) else false) then(decide (x5.Span=(-1))&&(decide (x5.Ticks=1)&&true)) else false) then(bif (bif (bif (bif (bif (bif (bif (bif ((r4.1.Neg==r11.Neg)&&(decide (r4.1.Num=r11.Num)&&(decide (r4.1.Den=r11.Den)&&true))) then((r5.1.Neg==r12.Neg)&&(decide (r5.1.Num=r12.Num)&&(decide (r5.1.Den=r12.Den)&&true))) else false) then((r6.1.Lo.Neg==r4.1.Neg)&&(decide (r6.1.Lo.Num=r4.1.Num)&&(decide (r6.1.Lo.Den=r4.1.Den)&&((r6.1.Hi.Neg==r5.1.Neg)&&(decide (r6.1.Hi.Num=r5.1.Num)&&(decide (r6.1.Hi.Den=r5.1.Den)&&true)))))) else false) then r13 else false) then r14 else false) then((r9.1.Neg==r4.1.Neg)&&(decide (r9.1.Num=r4.1.Num)&&(decide (r9.1.Den=r4.1.Den)&&true))) else false) then((r10.1.Neg==r5.1.Neg)&&(decide (r10.1.Num=r5.1.Num)&&(decide (r10.1.Den=r5.1.Den)&&true))) else false) then(decide (r9.2=0)) else false) then(decide (r10.2=0)) else false) else false) then((r8.1.Lo.Neg==r15.Neg)&&(decide (r8.1.Lo.Num=r15.Num)&&(decide (r8.1.Lo.Den=r15.Den)&&((r8.1.Hi.Neg==r16.Neg)&&(decide (r8.1.Hi.Num=r16.Num)&&(decide (r8.1.Hi.Den=r16.Den)&&true)))))) else false) then(decide (r17=0)) else false)||(Cv r1.1 0 1)) <|
  bd (gd (bif (bif (bif (bif (bif (bif (bif (decide (x1.Span=0)&&(decide (x1.Ticks=2)&&true)) then(decide (x2.Span=1)&&(decide (x2.Ticks=1)&&true)) else false) then(decide (x3.Span=(-1))&&(decide (x3.Ticks=1)&&true)) else false) then(decide (x4.Span=1)&&(decide (x4.Ticks=1)&&true)) else false) then(decide (x5.Span=(-1))&&(decide (x5.Ticks=1)&&true)) else false) then(bif (bif (bif (bif (bif (bif (bif (bif ((r4.1.Neg==r11.Neg)&&(decide (r4.1.Num=r11.Num)&&(decide (r4.1.Den=r11.Den)&&true))) then((r5.1.Neg==r12.Neg)&&(decide (r5.1.Num=r12.Num)&&(decide (r5.1.Den=r12.Den)&&true))) else false) then((r6.1.Lo.Neg==r4.1.Neg)&&(decide (r6.1.Lo.Num=r4.1.Num)&&(decide (r6.1.Lo.Den=r4.1.Den)&&((r6.1.Hi.Neg==r5.1.Neg)&&(decide (r6.1.Hi.Num=r5.1.Num)&&(decide (r6.1.Hi.Den=r5.1.Den)&&true)))))) else false) then r13 else false) then r14 else false) then((r9.1.Neg==r4.1.Neg)&&(decide (r9.1.Num=r4.1.Num)&&(decide (r9.1.Den=r4.1.Den)&&true))) else false) then((r10.1.Neg==r5.1.Neg)&&(decide (r10.1.Num=r5.1.Num)&&(decide (r10.1.Den=r5.1.Den)&&true))) else false) then(decide (r9.2=0)) else false) then(decide (r10.2=0)) else false) else false) then((r8.1.Lo.Neg==r15.Neg)&&(decide (r8.1.Lo.Num=r15.Num)&&(decide (r8.1.Lo.Den=r15.Den)&&((r8.1.Hi.Neg==r16.Neg)&&(decide (r8.1.Hi.Num=r16.Num)&&(decide (r8.1.Hi.Den=r16.Den)&&true)))))) else false) then(decide (r17=0)) else false) (EY (sub r1.1 0 1) r1.2)) fun r18 =>
  some (bif (bif (bif (bif (bif (bif (bif (bif (decide (x1.Span=0)&&(decide (x1.Ticks=2)&&true)) then(decide (x2.Span=1)&&(decide (x2.Ticks=1)&&true)) else false) then(decide (x3.Span=(-1))&&(decide (x3.Ticks=1)&&true)) else false) then(decide (x4.Span=1)&&(decide (x4.Ticks=1)&&true)) else false) then(decide (x5.Span=(-1))&&(decide (x5.Ticks=1)&&true)) else false) then(bif (bif (bif (bif (bif (bif (bif (bif ((r4.1.Neg==r11.Neg)&&(decide (r4.1.Num=r11.Num)&&(decide (r4.1.Den=r11.Den)&&true))) then((r5.1.Neg==r12.Neg)&&(decide (r5.1.Num=r12.Num)&&(decide (r5.1.Den=r12.Den)&&true))) else false) then((r6.1.Lo.Neg==r4.1.Neg)&&(decide (r6.1.Lo.Num=r4.1.Num)&&(decide (r6.1.Lo.Den=r4.1.Den)&&((r6.1.Hi.Neg==r5.1.Neg)&&(decide (r6.1.Hi.Num=r5.1.Num)&&(decide (r6.1.Hi.Den=r5.1.Den)&&true)))))) else false) then r13 else false) then r14 else false) then((r9.1.Neg==r4.1.Neg)&&(decide (r9.1.Num=r4.1.Num)&&(decide (r9.1.Den=r4.1.Den)&&true))) else false) then((r10.1.Neg==r5.1.Neg)&&(decide (r10.1.Num=r5.1.Num)&&(decide (r10.1.Den=r5.1.Den)&&true))) else false) then(decide (r9.2=0)) else false) then(decide (r10.2=0)) else false) else false) then((r8.1.Lo.Neg==r15.Neg)&&(decide (r8.1.Lo.Num=r15.Num)&&(decide (r8.1.Lo.Den=r15.Den)&&((r8.1.Hi.Neg==r16.Neg)&&(decide (r8.1.Hi.Num=r16.Num)&&(decide (r8.1.Hi.Den=r16.Den)&&true)))))) else false) then(decide (r17=0)) else false) then(decide (r18=19)) else false)
  )
def Q4(l0:List Ao)(a1:List Al)(q2:Ec):Option (Bool) :=
 bd (MG l0 a1 60) fun r1 =>
 bd (gd (!(!r1)) (EY l0 a1)) fun r2 =>
 bd (gd (!(bif (bif (bif (bif (!r1) then true else(!decide (r2=0))) then true else(decide ((l0.length:Int)=0))) then true else(decide (8<(q2.By.Num.length:Int)))) then true else(decide (8<(q2.By.Den.length:Int))))) (FF q2.By)) fun r3 =>
 ite' (bif (bif (bif (bif (bif (!r1) then true else(!decide (r2=0))) then true else(decide ((l0.length:Int)=0))) then true else(decide (8<(q2.By.Num.length:Int)))) then true else(decide (8<(q2.By.Den.length:Int)))) then true else(!r3)) (
  bd (I9 ) fun r4 =>
  some r4
  ) (
  ck (Au .i64 q2.At) <|
  ck (Au .i64 ((l0.length:Int)+1)) <|
  ck (!decide (((l0.length:Int)+1)=0)) <|
  bd (at? l0 0) fun x1 =>
  ck (Au .i64 ((l0.length:Int)-1)) <|
  bd (at? l0 ((l0.length:Int)-1)) fun x2 =>
  bd (α:=Int) (
   ite' (decide ((q2.At.tmod ((l0.length:Int)+1))<(l0.length:Int))) (
    bd (at? l0 (q2.At.tmod ((l0.length:Int)+1))) fun x3 =>
    some x3.From
    ) (
    some x2.To
    )
  )<|fun aq =>
   bd (K2 a1 (EA.mk x1.From aq)) fun r5 =>
   bd (K2 a1 (EA.mk aq x2.To)) fun r6 =>
   ck (Cv l0 0 (q2.At.tmod ((l0.length:Int)+1))) <|
   bd (EZ (sub l0 0 (q2.At.tmod ((l0.length:Int)+1))) r5.1) fun r7 =>
   ck (Cv l0 (q2.At.tmod ((l0.length:Int)+1)) (l0.length:Int)) <|
   bd (EZ (sub l0 (q2.At.tmod ((l0.length:Int)+1)) (l0.length:Int)) r6.1) fun r8 =>
   bd (EZ l0 a1) fun r9 =>
   bd (MW a1 q2.By) fun r10 =>
   bd (EZ l0 r10.1) fun r11 =>
   ite' (bif (bif (bif (bif (bif (bif (!decide (r5.2=0)) then true else(!decide (r6.2=0))) then true else(!decide (r7.2=0))) then true else(!decide (r8.2=0))) then true else(!decide (r9.2=0))) then true else(!decide (r10.2=0))) then true else(!decide (r11.2=0))) (
    some false
    ) (
    bd (C8 q2.By r9.1.Lo) fun r12 =>
    bd (C8 q2.By r9.1.Hi) fun r13 =>
    bd (α:=Dh) (
     ite' q2.By.Neg (
      some (Dh.mk r13 r12)
      ) (
      some (Dh.mk r12 r13)
      )
    )<|fun b5 =>
     bd (I9 ) fun r14 =>
     bd (gd r14 (BY r7.1.Lo r8.1.Lo)) fun r15 =>
     bd (gd r14 (BY r7.1.Hi r8.1.Hi)) fun r16 =>
     some (bif (bif r14 then((r9.1.Lo.Neg==r15.Neg)&&(decide (r9.1.Lo.Num=r15.Num)&&(decide (r9.1.Lo.Den=r15.Den)&&((r9.1.Hi.Neg==r16.Neg)&&(decide (r9.1.Hi.Num=r16.Num)&&(decide (r9.1.Hi.Den=r16.Den)&&true)))))) else false) then((r11.1.Lo.Neg==b5.Lo.Neg)&&(decide (r11.1.Lo.Num=b5.Lo.Num)&&(decide (r11.1.Lo.Den=b5.Lo.Den)&&((r11.1.Hi.Neg==b5.Hi.Neg)&&(decide (r11.1.Hi.Num=b5.Hi.Num)&&(decide (r11.1.Hi.Den=b5.Hi.Den)&&true)))))) else false)
    )
  )
end Go.Am

