/- Part F1: the functions of this seat as functions of plain values. No condition. -/
import Derived.Test.YtibbibelkkgfpaaGreatDoorX1
set_option linter.unusedVariables false
namespace Go.Am
structure AM where
 Stage:Int
 Ticks:Int
deriving DecidableEq,Inhabited
structure Al where
 From:Int
 To:Int
 Table:List AM
 Lo:Int
 Hi:Int
deriving DecidableEq,Inhabited
structure Af where
 Neg:Bool
 Num:List UInt8
 Den:List UInt8
deriving DecidableEq,Inhabited
structure Bz where
 Stage:Int
 Flow:Af
deriving DecidableEq,Inhabited
structure Bh where
 Points:List Bz
deriving DecidableEq,Inhabited
structure An where
 From:Int
 To:Int
 Weight:Af
 Datum:Int
 Curve:Bh
deriving DecidableEq,Inhabited
structure AD where
 From:Int
 Stages:List Int
deriving DecidableEq,Inhabited
structure Ic where
 At:Int
 By:Af
deriving DecidableEq,Inhabited
structure Jw where
 A:List Al
 B:List Al
deriving DecidableEq,Inhabited
structure Ie where
 From:Int
 To:Int
deriving DecidableEq,Inhabited
structure Ig where
 e0:Int
 e1:Int
deriving DecidableEq,Inhabited
structure AZ where
 neg:Bool
 num:List UInt8
 den:List UInt8
deriving DecidableEq,Inhabited
structure AB where
 Span:Int
 Ticks:Int
deriving DecidableEq,Inhabited
structure Jx where
 run:Al
 classes:List AB
 cost:List (List Af)
 x:List (List Int)
deriving DecidableEq,Inhabited
structure Gp where
 Q:List UInt8
 R:List UInt8
 E:Int
deriving DecidableEq,Inhabited
structure EO where
 S:List UInt8
 E:Int
deriving DecidableEq,Inhabited
structure F0 where
 A:Af
 E:Int
deriving DecidableEq,Inhabited
structure Jy where
 L:List An
 E:Int
deriving DecidableEq,Inhabited
structure Jz where
 L:List AB
 E:Int
deriving DecidableEq,Inhabited
structure Fp where
 Lo:Af
 Hi:Af
deriving DecidableEq,Inhabited
structure Ih where
 B:Fp
 E:Int
deriving DecidableEq,Inhabited
def qz43(x y:AM):Bool:=(decide (x.Stage=y.Stage)&&(decide (x.Ticks=y.Ticks)&&true))
def qz60(x y:Af):Bool:=((x.Neg==y.Neg)&&(decide (x.Num=y.Num)&&(decide (x.Den=y.Den)&&true)))
def qz1r(x y:Bz):Bool:=(decide (x.Stage=y.Stage)&&((x.Flow.Neg==y.Flow.Neg)&&(decide (x.Flow.Num=y.Flow.Num)&&(decide (x.Flow.Den=y.Flow.Den)&&true))))
def qzyt(x y:Ic):Bool:=(decide (x.At=y.At)&&((x.By.Neg==y.By.Neg)&&(decide (x.By.Num=y.By.Num)&&(decide (x.By.Den=y.By.Den)&&true))))
def qz1w(x y:Ie):Bool:=(decide (x.From=y.From)&&(decide (x.To=y.To)&&true))
def qz29(x y:Ig):Bool:=(decide (x.e0=y.e0)&&(decide (x.e1=y.e1)&&true))
def qzu7(x y:AZ):Bool:=((x.neg==y.neg)&&(decide (x.num=y.num)&&(decide (x.den=y.den)&&true)))
def qz1u(x y:AB):Bool:=(decide (x.Span=y.Span)&&(decide (x.Ticks=y.Ticks)&&true))
def qzuk(x y:Gp):Bool:=(decide (x.Q=y.Q)&&(decide (x.R=y.R)&&(decide (x.E=y.E)&&true)))
def qzy2(x y:EO):Bool:=(decide (x.S=y.S)&&(decide (x.E=y.E)&&true))
def qzzm(x y:F0):Bool:=((x.A.Neg==y.A.Neg)&&(decide (x.A.Num=y.A.Num)&&(decide (x.A.Den=y.A.Den)&&(decide (x.E=y.E)&&true))))
def qzyp(x y:Fp):Bool:=((x.Lo.Neg==y.Lo.Neg)&&(decide (x.Lo.Num=y.Lo.Num)&&(decide (x.Lo.Den=y.Lo.Den)&&((x.Hi.Neg==y.Hi.Neg)&&(decide (x.Hi.Num=y.Hi.Num)&&(decide (x.Hi.Den=y.Hi.Den)&&true))))))
def qzuj(x y:Ih):Bool:=((x.B.Lo.Neg==y.B.Lo.Neg)&&(decide (x.B.Lo.Num=y.B.Lo.Num)&&(decide (x.B.Lo.Den=y.B.Lo.Den)&&((x.B.Hi.Neg==y.B.Hi.Neg)&&(decide (x.B.Hi.Num=y.B.Hi.Num)&&(decide (x.B.Hi.Den=y.B.Hi.Den)&&(decide (x.E=y.E)&&true)))))))
def Ii(l:List Int):Option (List Int):=ck (decide (l.length<=4611686018427387904)) (some l.reverse)
def F3(l:List Int):Option (List Int):=ck (decide (0<l.length)&&decide (l.length*4<=140737488355328)) (some l)
def PJ(h0:AD):Int->Option (Int⊕(Unit⊕Bool)):=fun s=>match s with
 |k3 =>
  ite' (decide (k3<(h0.Stages.length:Int))) (
   bd (at? h0.Stages k3) fun x1 =>
   bd (gd (!(decide (x1<0))) (at? h0.Stages k3)) fun x2 =>
   ite' (bif (decide (x1<0)) then true else(decide (1000<x2))) (
    some (.inr (.inr false))
    ) (
    ck (As .i64 (k3+1)) <|
    some (.inl (k3+1))
    )
   ) (
   some (.inr (.inl ()))
   )
def Mg(h0:AD):Option (Bool) :=
 ck (!(!(bif (decide (h0.From<0)) then true else(decide (40000<(h0.Stages.length:Int)))))||As .i64 (1402560-(h0.Stages.length:Int))) <|
 ite' (bif (bif (decide (h0.From<0)) then true else(decide (40000<(h0.Stages.length:Int)))) then true else(decide ((1402560-(h0.Stages.length:Int))<h0.From))) (
  some false
  ) (
  bd (lp (PJ h0) 0)<|fun o=>match o with
  | .inl ()=>(
    some true
   )
  | .inr o=>(
    some o
   )
  )
def FD(ax0:Al):Option (Bool) :=
 some (decide ((ax0.Table.length:Int)=0))
def FE(n0:Int)(lo1:Int)(j9:Int):Option (Bool) :=
 some (bif (decide (lo1<=n0)) then(decide (n0<=j9)) else false)
def JZ(a0:List UInt8):Option (Bool) :=
 ck (!(!(decide (a0=[])))||(BZ a0 0)) <|
 some (bif (decide (a0=[])) then true else(!decide ((Cy a0 0)=0)))
def Eb(a8:Int)(to1:Int)(aw:Int):Option (Al) :=
 ck (As .i64 (to1-a8)) <|
 some (Al.mk a8 to1 [(AM.mk aw (to1-a8))] 0 0)
def Mh(ax0:Al):Option (Bool) :=
 some (decide ((ax0.Table.length:Int)=1))
def Mi(ax0:Al):Int->Option (Int⊕(Unit⊕Int)):=fun s=>match s with
 |k3 =>
  ite' (decide (k3<(ax0.Table.length:Int))) (
   bd (at? ax0.Table k3) fun x1 =>
   ite' (bif (bif (bif (decide (x1.Stage<0)) then true else(decide (1000<x1.Stage))) then true else(decide (x1.Ticks<1))) then true else(decide (1402560<x1.Ticks))) (
    some (.inr (.inr 3))
    ) (
    ck (As .i64 (k3+1)) <|
    some (.inl (k3+1))
    )
   ) (
   some (.inr (.inl ()))
   )
def PK(ax0:Al):(Int×Int)->Option ((Int×Int)⊕(Int⊕Int)):=fun s=>match s with
 |(ae,k6) =>
  ite' (decide (k6<(ax0.Table.length:Int))) (
   ck (!(decide (0<k6))||As .i64 (k6-1)) <|
   bd (gd (decide (0<k6)) (at? ax0.Table (k6-1))) fun x2 =>
   bd (gd (decide (0<k6)) (at? ax0.Table k6)) fun x3 =>
   ite' (bif (decide (0<k6)) then(decide (x3.Stage<=x2.Stage)) else false) (
    some (.inr (.inr 1))
    ) (
    bd (at? ax0.Table k6) fun x4 =>
    ck (As .i64 (ae+x4.Ticks)) <|
    ck (As .i64 (k6+1)) <|
    some (.inl ((ae+x4.Ticks),(k6+1)))
    )
   ) (
   some (.inr (.inl ae))
   )
def Is(ax0:Al):Option (Int) :=
 ite' (decide ((ax0.Table.length:Int)=0)) (
  ite' (bif (bif (decide (ax0.Lo<0)) then true else(decide (ax0.Hi<ax0.Lo))) then true else(decide (1000<ax0.Hi))) (
   some 3
   ) (
   some 0
   )
  ) (
  bd (lp (Mi ax0) 0)<|fun o=>match o with
  | .inl ()=>(
    bd (lp (PK ax0) (0,0))<|fun o=>match o with
    | .inl ae=>(
      ck (As .i64 (ax0.To-ax0.From)) <|
      ite' (bif (bif (!decide (ae=(ax0.To-ax0.From))) then true else(!decide (ax0.Lo=0))) then true else(!decide (ax0.Hi=0))) (
       some 1
       ) (
       some 0
       )
     )
    | .inr o=>(
      some o
     )
   )
  | .inr o=>(
    some o
   )
  )
def PL(ac0:Bh):Int->Option (Int⊕(Unit⊕Bool)):=fun s=>match s with
 |k3 =>
  ite' (decide (k3<(ac0.Points.length:Int))) (
   bd (at? ac0.Points k3) fun x1 =>
   bd (gd (!(decide (12<(x1.Flow.Num.length:Int)))) (at? ac0.Points k3)) fun x2 =>
   ite' (bif (decide (12<(x1.Flow.Num.length:Int))) then true else(decide (12<(x2.Flow.Den.length:Int)))) (
    some (.inr (.inr false))
    ) (
    ck (As .i64 (k3+1)) <|
    some (.inl (k3+1))
    )
   ) (
   some (.inr (.inl ()))
   )
def Ka(ac0:Bh):Option (Bool) :=
 ite' (decide (20<(ac0.Points.length:Int))) (
  some false
  ) (
  bd (lp (PL ac0) 0)<|fun o=>match o with
  | .inl ()=>(
    some true
   )
  | .inr o=>(
    some o
   )
  )
def It(n0:Int):Option (Bool) :=
 some (bif (decide ((-999999999999999)<=n0)) then(decide (n0<=999999999999999)) else false)
def Mj(ax0:Al):Int->Option (Int⊕(Unit⊕Int)):=fun s=>match s with
 |t43 =>
  ite' (decide (t43<(ax0.Table.length:Int))) (
   bd (at? ax0.Table t43) fun x1 =>
   bd (FE x1.Stage 0 1000) fun r2 =>
   bd (gd (!(!r2)) (FE x1.Ticks 1 1402560)) fun r3 =>
   ite' (bif (!r2) then true else(!r3)) (
    some (.inr (.inr 3))
    ) (
    ck (As .i64 (t43+1)) <|
    some (.inl (t43+1))
    )
   ) (
   some (.inr (.inl ()))
   )
def PM(ax0:Al):(Int×Int)->Option ((Int×Int)⊕(Int⊕Int)):=fun s=>match s with
 |(ae,t61) =>
  ite' (decide (t61<(ax0.Table.length:Int))) (
   bd (at? ax0.Table t61) fun x2 =>
   ck (!(decide (0<t61))||As .i64 (t61-1)) <|
   bd (gd (decide (0<t61)) (at? ax0.Table (t61-1))) fun x3 =>
   ite' (bif (decide (0<t61)) then(decide (x2.Stage<=x3.Stage)) else false) (
    some (.inr (.inr 1))
    ) (
    ck (As .i64 (ae+x2.Ticks)) <|
    ck (As .i64 (t61+1)) <|
    some (.inl ((ae+x2.Ticks),(t61+1)))
    )
   ) (
   some (.inr (.inl ae))
   )
def Kb(ax0:Al):Option (Int) :=
 ite' (bif (bif (decide (ax0.From<0)) then true else(decide (ax0.To<=ax0.From))) then true else(decide (1402560<ax0.To))) (
  some 3
  ) (
  bd (FD ax0) fun r1 =>
  ite' r1 (
   ite' (bif (bif (decide (ax0.Lo<0)) then true else(decide (ax0.Hi<ax0.Lo))) then true else(decide (1000<ax0.Hi))) (
    some 3
    ) (
    some 0
    )
   ) (
   bd (lp (Mj ax0) 0)<|fun o=>match o with
   | .inl ()=>(
     bd (lp (PM ax0) (0,0))<|fun o=>match o with
     | .inl ae=>(
       ck (As .i64 (ax0.To-ax0.From)) <|
       ite' (bif (bif (!decide (ae=(ax0.To-ax0.From))) then true else(!decide (ax0.Lo=0))) then true else(!decide (ax0.Hi=0))) (
        some 1
        ) (
        some 0
        )
      )
     | .inr o=>(
       some o
      )
    )
   | .inr o=>(
     some o
    )
   )
  )
def Kc(f1:Int->Option Bool):(Int×Int)->Option ((Int×Int)⊕Int):=fun s=>match s with
 |(i5,j6) =>
  ite' (decide (i5<j6)) (
   ck (As .i64 (i5+j6)) <|
   ck (As .i64 (Int.fdiv ((i5+j6)%18446744073709551616) 2)) <|
   bd (f1 (Int.fdiv ((i5+j6)%18446744073709551616) 2)) fun r1 =>
   ite' (!r1) (
    ck (As .i64 ((Int.fdiv ((i5+j6)%18446744073709551616) 2)+1)) <|
    some (.inl (((Int.fdiv ((i5+j6)%18446744073709551616) 2)+1),j6))
    ) (
    some (.inl (i5,(Int.fdiv ((i5+j6)%18446744073709551616) 2)))
    )
   ) (
   some (.inr i5)
   )
def J0(n0:Int)(f1:Int->Option Bool):Option (Int) :=
 bd (lp (Kc f1) (0,n0))<|fun i5 =>
 some i5
def Mk(k0:Int)(c0:List An)(c1:Al):Option (Bool) :=
 bd (at? c0 k0) fun x1 =>
 some (decide (c1.From<x1.To))
def FB(k0:Int)(c0:List An)(c1:Int):Option (Bool) :=
 bd (at? c0 k0) fun x1 =>
 some (decide (c1<x1.To))
def PN(as0:Int):Option (Bool) :=
 bd (FE as0 0 1000) fun r1 =>
 some (!r1)
def Iu(a0:Af):Option ((List UInt8)×(List UInt8)) :=
 ite' (decide (a0.Num=[])) (
  some ([],[1])
  ) (
  some (a0.Num,a0.Den)
  )
def Ml(n0:Int):Option (Bool) :=
 some (bif (decide ((-999999999999999)<=n0)) then(decide (n0<=999999999999999)) else false)
def PO(f1:Int->Option Bool)(as0:List Int):Int->Option (Int⊕(Unit⊕Int)):=fun s=>match s with
 |t8 =>
  ite' (decide (t8<(as0.length:Int))) (
   bd (at? as0 t8) fun x1 =>
   bd (f1 x1) fun r1 =>
   ite' r1 (
    some (.inr (.inr t8))
    ) (
    ck (As .i64 (t8+1)) <|
    some (.inl (t8+1))
    )
   ) (
   some (.inr (.inl ()))
   )
def Mm(as0:List Int)(f1:Int->Option Bool):Option (Int) :=
 bd (lp (PO f1 as0) 0)<|fun o=>match o with
 | .inl ()=>(
   some (-1)
  )
 | .inr o=>(
   some o
  )
def Mn(l0:List Int)(a2:Int):(Int×Int)->Option ((Int×Int)⊕Int):=fun s=>match s with
 |(n5,k6) =>
  ite' (decide (k6<(l0.length:Int))) (
   bd (at? l0 k6) fun x1 =>
   ite' (decide (x1=a2)) (
    ck (As .i64 (n5+1)) <|
    ck (As .i64 (k6+1)) <|
    some (.inl ((n5+1),(k6+1)))
    ) (
    ck (As .i64 (k6+1)) <|
    some (.inl (n5,(k6+1)))
    )
   ) (
   some (.inr n5)
   )
def Mo(l0:List Int)(a2:Int):Option (Int) :=
 bd (lp (Mn l0 a2) (0,0))<|fun n5 =>
 some n5
def Mp(a2:Int)(ai:List AM):Int->Option (Int⊕(Unit⊕Int)):=fun s=>match s with
 |k5 =>
  ite' (decide (k5<(ai.length:Int))) (
   bd (at? ai k5) fun x1 =>
   ite' (decide (x1.Stage=a2)) (
    bd (at? ai k5) fun x2 =>
    some (.inr (.inr x2.Ticks))
    ) (
    ck (As .i64 (k5+1)) <|
    some (.inl (k5+1))
    )
   ) (
   some (.inr (.inl ()))
   )
def Mq(ai:List AM)(a2:Int):Option (Int) :=
 bd (lp (Mp a2 ai) 0)<|fun o=>match o with
 | .inl ()=>(
   some 0
  )
 | .inr o=>(
   some o
  )
def PP :(List Int)->Option ((List Int)⊕(List Int)):=fun s=>match s with
 |x0 =>
  ck (!(decide (0<(x0.length:Int)))||As .i64 ((x0.length:Int)-1)) <|
  bd (gd (decide (0<(x0.length:Int))) (at? x0 ((x0.length:Int)-1))) fun x1 =>
  ite' (bif (decide (0<(x0.length:Int))) then(decide (x1=0)) else false) (
   ck (As .i64 ((x0.length:Int)-1)) <|
   ck (CC x0 0 ((x0.length:Int)-1)) <|
   some (.inl (sub x0 0 ((x0.length:Int)-1)))
   ) (
   some (.inr x0)
   )
def GM(ax0:List Int):Option ((List Int)) :=
 bd (lp (PP) ax0)<|fun x0 =>
 some x0
def PQ(ar:Int):Option (Bool) :=
 some (bif (decide ((-1000)<=ar)) then(decide (ar<=2000)) else false)
def PR(a0:List UInt8):Int->Option (Int⊕Int):=fun s=>match s with
 |k3 =>
  ck (!(decide (k3<(a0.length:Int)))||(BZ a0 k3)) <|
  ite' (bif (decide (k3<(a0.length:Int))) then(decide ((Cy a0 k3)=0)) else false) (
   ck (As .i64 (k3+1)) <|
   some (.inl (k3+1))
   ) (
   some (.inr k3)
   )
def J1(a0:List UInt8):Option ((List UInt8)) :=
 bd (lp (PR a0) 0)<|fun k3 =>
 ck (CC a0 k3 (a0.length:Int)) <|
 some (sub a0 k3 (a0.length:Int))
def FF(a0:List UInt8)(k1:Int):Option (Int) :=
 ite' (decide ((a0.length:Int)<=k1)) (
  some 0
  ) (
  ck (As .i64 ((a0.length:Int)-1)) <|
  ck (As .i64 (((a0.length:Int)-1)-k1)) <|
  ck (BZ a0 (((a0.length:Int)-1)-k1)) <|
  ck (As .i64 (Cy a0 (((a0.length:Int)-1)-k1))) <|
  some (Cy a0 (((a0.length:Int)-1)-k1))
  )
def PS(l0:List Int):(Int×(List Int))->Option ((Int×(List Int))⊕(List Int)):=fun s=>match s with
 |(k4,l1) =>
  ite' (decide (0<=k4)) (
   bd (at? l0 k4) fun x1 =>
   ck (decide (List.length (l1++[(x1%256)])*1<=140737488355328)) <|
   ck (As .i64 (k4-1)) <|
   some (.inl ((k4-1),(l1++[(x1%256)])))
   ) (
   some (.inr l1)
   )
def Kd(l0:List Int):Option ((List UInt8)) :=
 ck (As .i64 ((l0.length:Int)-1)) <|
 bd (lp (PS l0) (((l0.length:Int)-1),[]))<|fun l1 =>
 bd (J1 (Ca l1)) fun r1 =>
 some r1
def PT :(Int×(List UInt8))->Option ((Int×(List UInt8))⊕(List UInt8)):=fun s=>match s with
 |(n0',ao) =>
  ite' (decide (0<n0')) (
   ck (decide (List.length (Ca [((n0'.tmod 256)%256)])+ao.length<=4611686018427387904)) <|
   ck (As .i64 (n0'.tdiv 256)) <|
   some (.inl ((n0'.tdiv 256),((Ca [((n0'.tmod 256)%256)])++ao)))
   ) (
   some (.inr ao)
   )
def PU(n0:Int):Option (EO) :=
 ite' (decide (n0<0)) (
  some (EO.mk [] 3)
  ) (
  bd (lp (PT) (n0,[]))<|fun ao =>
  some (EO.mk ao 0)
  )
def GN(ax0:List Int)(k1:Int):Option (Int) :=
 ite' (decide (k1<(ax0.length:Int))) (
  bd (at? ax0 k1) fun x1 =>
  some (x1%18446744073709551616)
  ) (
  some 0
  )
def Ke(ax0:Int):Option (Bool) :=
 some (!decide (ax0=ax0))
def Kf(ax0:Int):Option (Bool) :=
 some (!decide (ax0=ax0))
def PW(ac1:Int):(List UInt8)->Option ((List UInt8)⊕(List UInt8)):=fun s=>match s with
 |s0 =>
  ck (!(decide (0<(s0.length:Int)))||(BZ s0 0)) <|
  ite' (bif (decide (0<(s0.length:Int))) then(decide ((Cy s0 0)=ac1)) else false) (
   ck (CC s0 1 (s0.length:Int)) <|
   some (.inl (sub s0 1 (s0.length:Int)))
   ) (
   some (.inr s0)
   )
def Mr(as0:List UInt8)(ac1:Int):Option ((List UInt8)) :=
 bd (lp (PW ac1) as0)<|fun s0 =>
 some s0
def Kg(k0:Int)(c0:Bh)(c1:Int):Option (Bool) :=
 bd (at? c0.Points k0) fun x1 =>
 some (decide (c1<x1.Stage))
def Ms(l0:List Al):Int->Option (Int⊕(Unit⊕Int)):=fun s=>match s with
 |k3 =>
  ite' (decide (k3<(l0.length:Int))) (
   bd (at? l0 k3) fun x1 =>
   bd (gd (!(decide (x1.From<0))) (at? l0 k3)) fun x2 =>
   bd (gd (!(decide (x1.From<0))) (at? l0 k3)) fun x3 =>
   bd (gd (!(bif (decide (x1.From<0)) then true else(decide (x2.To<=x3.From)))) (at? l0 k3)) fun x4 =>
   ite' (bif (bif (decide (x1.From<0)) then true else(decide (x2.To<=x3.From))) then true else(decide (1402560<x4.To))) (
    some (.inr (.inr 3))
    ) (
    bd (gd (decide (0<k3)) (at? l0 k3)) fun x5 =>
    ck (!(decide (0<k3))||As .i64 (k3-1)) <|
    bd (gd (decide (0<k3)) (at? l0 (k3-1))) fun x6 =>
    ite' (bif (decide (0<k3)) then(!decide (x5.From=x6.To)) else false) (
     some (.inr (.inr 1))
     ) (
     bd (at? l0 k3) fun x7 =>
     bd (Is x7) fun r1 =>
     ite' (!decide (r1=0)) (
      some (.inr (.inr r1))
      ) (
      ck (As .i64 (k3+1)) <|
      some (.inl (k3+1))
      )
     )
    )
   ) (
   some (.inr (.inl ()))
   )
def Iv(l0:List Al):Option (Int) :=
 ite' (decide (2000<(l0.length:Int))) (
  some 2
  ) (
  bd (lp (Ms l0) 0)<|fun o=>match o with
  | .inl ()=>(
    ck (!(decide (0<(l0.length:Int)))||As .i64 ((l0.length:Int)-1)) <|
    bd (gd (decide (0<(l0.length:Int))) (at? l0 ((l0.length:Int)-1))) fun x8 =>
    bd (gd (decide (0<(l0.length:Int))) (at? l0 0)) fun x9 =>
    ck (!(decide (0<(l0.length:Int)))||As .i64 (x8.To-x9.From)) <|
    ite' (bif (decide (0<(l0.length:Int))) then(decide (40000<(x8.To-x9.From))) else false) (
     some 2
     ) (
     some 0
     )
   )
  | .inr o=>(
    some o
   )
  )
def Mt(l0:List Al):Int->Option (Int⊕(Unit⊕Bool)):=fun s=>match s with
 |k7 =>
  ite' (decide (k7<(l0.length:Int))) (
   bd (at? l0 k7) fun x1 =>
   ite' (decide (20<(x1.Table.length:Int))) (
    some (.inr (.inr false))
    ) (
    ck (As .i64 (k7+1)) <|
    some (.inl (k7+1))
    )
   ) (
   some (.inr (.inl ()))
   )
def Mu(l0:List Al)(az:Int)(ap:Int):Option (Bool) :=
 ite' (decide (az<(l0.length:Int))) (
  some false
  ) (
  bd (lp (Mt l0) 0)<|fun o=>match o with
  | .inl ()=>(
    bd (Iv l0) fun r1 =>
    ck (!(!(bif (!decide (r1=0)) then true else(decide ((l0.length:Int)=0))))||As .i64 ((l0.length:Int)-1)) <|
    bd (gd (!(bif (!decide (r1=0)) then true else(decide ((l0.length:Int)=0)))) (at? l0 ((l0.length:Int)-1))) fun x2 =>
    bd (gd (!(bif (!decide (r1=0)) then true else(decide ((l0.length:Int)=0)))) (at? l0 0)) fun x3 =>
    ck (!(!(bif (!decide (r1=0)) then true else(decide ((l0.length:Int)=0))))||As .i64 (x2.To-x3.From)) <|
    some (bif (bif (!decide (r1=0)) then true else(decide ((l0.length:Int)=0))) then true else(decide ((x2.To-x3.From)<=ap)))
   )
  | .inr o=>(
    some o
   )
  )
def PX(l0:List An):Int->Option (Int⊕(Unit⊕Bool)):=fun s=>match s with
 |k5 =>
  ite' (decide (k5<(l0.length:Int))) (
   bd (at? l0 k5) fun x1 =>
   bd (Ka x1.Curve) fun r1 =>
   bd (gd (!(!r1)) (at? l0 k5)) fun x2 =>
   bd (gd (!(bif (!r1) then true else(decide (40<(x2.Weight.Num.length:Int))))) (at? l0 k5)) fun x3 =>
   ite' (bif (bif (!r1) then true else(decide (40<(x2.Weight.Num.length:Int)))) then true else(decide (40<(x3.Weight.Den.length:Int)))) (
    some (.inr (.inr false))
    ) (
    ck (As .i64 (k5+1)) <|
    some (.inl (k5+1))
    )
   ) (
   some (.inr (.inl ()))
   )
def Iw(l0:List An)(ay:Int):Option (Bool) :=
 ite' (bif (bif (decide (ay<(l0.length:Int))) then(decide ((l0.length:Int)<=400)) else false) then true else(decide (410<(l0.length:Int)))) (
  some false
  ) (
  bd (lp (PX l0) 0)<|fun o=>match o with
  | .inl ()=>(
    some true
   )
  | .inr o=>(
    some o
   )
  )
def Mv(l0:List Al):Int->Option (Int⊕(Unit⊕Int)):=fun s=>match s with
 |t12 =>
  ite' (decide (t12<(l0.length:Int))) (
   bd (at? l0 t12) fun x1 =>
   ite' (bif (bif (decide (x1.From<0)) then true else(decide (x1.To<=x1.From))) then true else(decide (1402560<x1.To))) (
    some (.inr (.inr 3))
    ) (
    ck (!(decide (0<t12))||As .i64 (t12-1)) <|
    bd (gd (decide (0<t12)) (at? l0 (t12-1))) fun x2 =>
    ite' (bif (decide (0<t12)) then(!decide (x1.From=x2.To)) else false) (
     some (.inr (.inr 1))
     ) (
     bd (Kb x1) fun r1 =>
     ite' (!decide (r1=0)) (
      some (.inr (.inr r1))
      ) (
      ck (As .i64 (t12+1)) <|
      some (.inl (t12+1))
      )
     )
    )
   ) (
   some (.inr (.inl ()))
   )
def Kh(l0:List Al):Option (Int) :=
 ite' (decide (2000<(l0.length:Int))) (
  some 2
  ) (
  bd (lp (Mv l0) 0)<|fun o=>match o with
  | .inl ()=>(
    ck (!(decide (0<(l0.length:Int)))||As .i64 ((l0.length:Int)-1)) <|
    bd (gd (decide (0<(l0.length:Int))) (at? l0 ((l0.length:Int)-1))) fun x3 =>
    bd (gd (decide (0<(l0.length:Int))) (at? l0 0)) fun x4 =>
    ck (!(decide (0<(l0.length:Int)))||As .i64 (x3.To-x4.From)) <|
    ite' (bif (decide (0<(l0.length:Int))) then(decide (40000<(x3.To-x4.From))) else false) (
     some 2
     ) (
     some 0
     )
   )
  | .inr o=>(
    some o
   )
  )
def PY(a1:List An)(ax0:Al):(Int×Int×(List AB))->Option ((Int×Int×(List AB))⊕(Int×(List AB))):=fun s=>match s with
 |(af,k7,l3) =>
  bd (gd (decide (k7<(a1.length:Int))) (at? a1 k7)) fun x1 =>
  ite' (bif (decide (k7<(a1.length:Int))) then(decide (x1.From<ax0.To)) else false) (
   bd (at? a1 k7) fun x2 =>
   bd (at? a1 k7) fun x3 =>
   ck (As .i64 ((min ax0.To x2.To)-(max ax0.From x3.From))) <|
   ck (decide (List.length (l3++[(AB.mk k7 ((min ax0.To x2.To)-(max ax0.From x3.From)))])*16<=140737488355328)) <|
   ck (As .i64 (af-((min ax0.To x2.To)-(max ax0.From x3.From)))) <|
   ck (As .i64 (k7+1)) <|
   some (.inl ((af-((min ax0.To x2.To)-(max ax0.From x3.From))),(k7+1),(l3++[(AB.mk k7 ((min ax0.To x2.To)-(max ax0.From x3.From)))])))
   ) (
   some (.inr (af,l3))
   )
def Ip(ax0:Al)(a1:List An):Option ((List AB)) :=
 ck (As .i64 (ax0.To-ax0.From)) <|
 bd (J0 (a1.length:Int) (fun a0=>Mk a0 a1 ax0)) fun r1 =>
 bd (lp (PY a1 ax0) ((ax0.To-ax0.From),r1,[]))<|fun(af,l3) =>
 ite' (decide (0<af)) (
  ck (decide (List.length (l3++[(AB.mk (-1) af)])*16<=140737488355328)) <|
  some (l3++[(AB.mk (-1) af)])
  ) (
  some l3
  )
def GB(a0:Al)(b1:Al):Option (Al×Bool) :=
 bd (Mh a0) fun r1 =>
 bd (gd r1 (Mh b1)) fun r2 =>
 bd (gd (bif r1 then r2 else false) (at? a0.Table 0)) fun x1 =>
 bd (gd (bif r1 then r2 else false) (at? b1.Table 0)) fun x2 =>
 ite' (bif (bif r1 then r2 else false) then(decide (x1.Stage=x2.Stage)) else false) (
  bd (at? a0.Table 0) fun x3 =>
  bd (Eb a0.From b1.To x3.Stage) fun r3 =>
  some (r3,true)
  ) (
  bd (FD a0) fun r4 =>
  bd (gd r4 (FD b1)) fun r5 =>
  ite' (bif (bif (bif r4 then r5 else false) then(decide (a0.Lo=b1.Lo)) else false) then(decide (a0.Hi=b1.Hi)) else false) (
   some ((Al.mk a0.From b1.To [] a0.Lo a0.Hi),true)
   ) (
   some ((Al.mk 0 0 [] 0 0),false)
   )
  )
def PZ(as0:List Int)(f1:Int->Option Bool):Option (Bool) :=
 bd (Mm as0 f1) fun r1 =>
 some (decide (0<=r1))
def Mw(h1:AD)(x3:Al):Int->Option (Int⊕(Unit⊕Bool)):=fun s=>match s with
 |i9 =>
  ite' (decide (i9<(List.length (sub h1.Stages (x3.From-h1.From) (x3.To-h1.From)):Int))) (
   bd (gd (decide ((x3.Table.length:Int)=0)) (at? (sub h1.Stages (x3.From-h1.From) (x3.To-h1.From)) i9)) fun x4 =>
   bd (gd ((decide ((x3.Table.length:Int)=0))&&(!(decide (x4<x3.Lo)))) (at? (sub h1.Stages (x3.From-h1.From) (x3.To-h1.From)) i9)) fun x5 =>
   ite' (bif (decide ((x3.Table.length:Int)=0)) then(bif (decide (x4<x3.Lo)) then true else(decide (x3.Hi<x5))) else false) (
    some (.inr (.inr false))
    ) (
    bd (gd (decide (0<(x3.Table.length:Int))) (at? (sub h1.Stages (x3.From-h1.From) (x3.To-h1.From)) i9)) fun x6 =>
    bd (gd (decide (0<(x3.Table.length:Int))) (Mo (sub h1.Stages (x3.From-h1.From) (x3.To-h1.From)) x6)) fun r3 =>
    bd (gd (decide (0<(x3.Table.length:Int))) (at? (sub h1.Stages (x3.From-h1.From) (x3.To-h1.From)) i9)) fun x7 =>
    bd (gd (decide (0<(x3.Table.length:Int))) (Mq x3.Table x7)) fun r4 =>
    ite' (bif (decide (0<(x3.Table.length:Int))) then(!decide (r3=r4)) else false) (
     some (.inr (.inr false))
     ) (
     ck (As .i64 (i9+1)) <|
     some (.inl (i9+1))
     )
    )
   ) (
   some (.inr (.inl ()))
   )
def Mx(h1:AD)(l0:List Al):Int->Option (Int⊕(Unit⊕Bool)):=fun s=>match s with
 |k6 =>
  ite' (decide (k6<(l0.length:Int))) (
   bd (at? l0 k6) fun x3 =>
   ck (As .i64 (x3.From-h1.From)) <|
   ck (As .i64 (x3.To-h1.From)) <|
   ck (CC h1.Stages (x3.From-h1.From) (x3.To-h1.From)) <|
   bd (lp (Mw h1 x3) 0)<|fun o=>match o with
   | .inl ()=>(
     ck (As .i64 (k6+1)) <|
     some (.inl (k6+1))
    )
   | .inr o=>(
     some (.inr (.inr o))
    )
   ) (
   some (.inr (.inl ()))
   )
def Ei(l0:List Al)(h1:AD):Option (Bool) :=
 bd (Mg h1) fun r1 =>
 bd (Iv l0) fun r2 =>
 ite' (bif (!decide (r2=0)) then true else(!r1)) (
  some false
  ) (
  ite' (decide ((l0.length:Int)=0)) (
   some (decide ((h1.Stages.length:Int)=0))
   ) (
   bd (at? l0 0) fun x1 =>
   ck (!(!(!decide (h1.From=x1.From)))||As .i64 (h1.From+(h1.Stages.length:Int))) <|
   ck (!(!(!decide (h1.From=x1.From)))||As .i64 ((l0.length:Int)-1)) <|
   bd (gd (!(!decide (h1.From=x1.From))) (at? l0 ((l0.length:Int)-1))) fun x2 =>
   ite' (bif (!decide (h1.From=x1.From)) then true else(!decide ((h1.From+(h1.Stages.length:Int))=x2.To))) (
    some false
    ) (
    bd (lp (Mx h1 l0) 0)<|fun o=>match o with
    | .inl ()=>(
      some true
     )
    | .inr o=>(
      some o
     )
    )
   )
  )
def Qa(a0:List UInt8)(ad:Int):(Int×Int)->Option ((Int×Int)⊕Int):=fun s=>match s with
 |(ah,t22) =>
  ite' (decide (t22<(List.length (bytes (sub a0 (max 0 (ad-4)) ad)):Int))) (
   bd (at? (bytes (sub a0 (max 0 (ad-4)) ad)) t22) fun x1 =>
   ck (As .i64 (t22+1)) <|
   some (.inl ((bitI .or .u32 ((ah*256)%4294967296) (x1%4294967296)),(t22+1)))
   ) (
   some (.inr ah)
   )
def Qb(a0:List UInt8):(Int×(List Int))->Option ((Int×(List Int))⊕(List Int)):=fun s=>match s with
 |(ad,l2) =>
  ite' (decide (0<ad)) (
   ck (As .i64 (ad-4)) <|
   ck (CC a0 (max 0 (ad-4)) ad) <|
   bd (lp (Qa a0 ad) (0,0))<|fun ah =>
   ck (decide (List.length (l2++[ah])*4<=140737488355328)) <|
   ck (As .i64 (ad-4)) <|
   some (.inl ((ad-4),(l2++[ah])))
   ) (
   some (.inr l2)
   )
def Gq(a0:List UInt8):Option ((List Int)) :=
 bd (lp (Qb a0) ((a0.length:Int),[]))<|fun l2 =>
 bd (GM l2) fun r1 =>
 some r1
def My(a0:List UInt8):Option (Bool) :=
 bd (J1 a0) fun r1 =>
 some (decide (a0=r1))
def Mz(a0:List UInt8)(b1:List UInt8)(i6:Int):(Int×Int×(List Int))->Option ((Int×Int×(List Int))⊕(List Int)):=fun s=>match s with
 |(ak,k8,l0') =>
  ite' (decide (k8<=(b1.length:Int))) (
   ck (As .i64 (i6+k8)) <|
   bd (at? l0' (i6+k8)) fun x1 =>
   bd (FF a0 i6) fun r1 =>
   bd (FF b1 k8) fun r2 =>
   ck (As .i64 (r1*r2)) <|
   ck (As .i64 (x1+(r1*r2))) <|
   ck (As .i64 ((x1+(r1*r2))+ak)) <|
   ck (As .i64 (i6+k8)) <|
   bd (at? l0' (i6+k8)) fun x2 =>
   ck (As .i64 (((x1+(r1*r2))+ak).tdiv 256)) <|
   ck (As .i64 (k8+1)) <|
   some (.inl ((((x1+(r1*r2))+ak).tdiv 256),(k8+1),(List.set l0' (Int.toNat (i6+k8)) (((x1+(r1*r2))+ak).tmod 256))))
   ) (
   some (.inr l0')
   )
def Qc(a0:List UInt8)(b1:List UInt8):(Int×(List Int))->Option ((Int×(List Int))⊕(List Int)):=fun s=>match s with
 |(i6,l0) =>
  ite' (decide (i6<(a0.length:Int))) (
   bd (lp (Mz a0 b1 i6) (0,0,l0))<|fun l0' =>
   ck (As .i64 (i6+1)) <|
   some (.inl ((i6+1),l0'))
   ) (
   some (.inr l0)
   )
def GO(a0:List UInt8)(b1:List UInt8):Option ((List UInt8)) :=
 ck (As .i64 ((a0.length:Int)+(b1.length:Int))) <|
 ck (As .i64 (((a0.length:Int)+(b1.length:Int))+1)) <|
 ck (mkOk (((a0.length:Int)+(b1.length:Int))+1) 8) <|
 bd (lp (Qc a0 b1) (0,(List.replicate (Int.toNat (((a0.length:Int)+(b1.length:Int))+1)) 0)))<|fun l0 =>
 bd (Kd l0) fun r3 =>
 some r3
def M0(n0:Int):Option ((List UInt8)) :=
 bd (α:=Int) (
  ite' (decide (n0<0)) (
   ck (As .i64 (-n0)) <|
   some (-n0)
   ) (
   some n0
   )
 )<|fun n0' =>
  bd (PU n0') fun r1 =>
  some r1.S
def Qd(a0:List UInt8)(b1:List UInt8):(Int×Int×(List Int))->Option ((Int×Int×(List Int))⊕(List Int)):=fun s=>match s with
 |(a7,k7,l1) =>
  ite' (decide (k7<=(max (a0.length:Int) (b1.length:Int)))) (
   bd (FF a0 k7) fun r1 =>
   bd (FF b1 k7) fun r2 =>
   ck (As .i64 (r1+r2)) <|
   ck (As .i64 ((r1+r2)+a7)) <|
   ck (decide (List.length (l1++[(((r1+r2)+a7).tmod 256)])*8<=140737488355328)) <|
   ck (As .i64 (((r1+r2)+a7).tdiv 256)) <|
   ck (As .i64 (k7+1)) <|
   some (.inl ((((r1+r2)+a7).tdiv 256),(k7+1),(l1++[(((r1+r2)+a7).tmod 256)])))
   ) (
   some (.inr l1)
   )
def Qe(a0:List UInt8)(b1:List UInt8):Option ((List UInt8)) :=
 bd (lp (Qd a0 b1) (0,0,[]))<|fun l1 =>
 bd (Kd l1) fun r3 =>
 some r3
def Ki(a0:List UInt8)(b1:List UInt8):Option (Int) :=
 bd (J1 a0) fun r1 =>
 bd (J1 b1) fun r2 =>
 ite' (decide (r1=r2)) (
  some 0
  ) (
  ite' (bif (decide ((r1.length:Int)<(r2.length:Int))) then true else(bif (decide ((r1.length:Int)=(r2.length:Int))) then(Op.bytesLess r1 r2) else false)) (
   some (-1)
   ) (
   some 1
   )
  )
def Qf(a0:List UInt8)(b1:List UInt8):(Int×Int×(List Int))->Option ((Int×Int×(List Int))⊕(List Int)):=fun s=>match s with
 |(a4,k7,l2) =>
  ite' (decide (k7<(a0.length:Int))) (
   bd (FF a0 k7) fun r2 =>
   bd (FF b1 k7) fun r3 =>
   ck (As .i64 (r2-r3)) <|
   ck (As .i64 ((r2-r3)-a4)) <|
   bd (α:=Int×Int) (
    ite' (decide (((r2-r3)-a4)<0)) (
     ck (As .i64 (((r2-r3)-a4)+256)) <|
     some (1,(((r2-r3)-a4)+256))
     ) (
     some (0,((r2-r3)-a4))
     )
   )<|fun(a4',n8) =>
    ck (decide (List.length (l2++[n8])*8<=140737488355328)) <|
    ck (As .i64 (k7+1)) <|
    some (.inl (a4',(k7+1),(l2++[n8])))
   ) (
   some (.inr l2)
   )
def Kj(a0:List UInt8)(b1:List UInt8):Option (EO) :=
 bd (Ki a0 b1) fun r1 =>
 ite' (decide (r1<0)) (
  some (EO.mk [] 3)
  ) (
  bd (lp (Qf a0 b1) (0,0,[]))<|fun l2 =>
  bd (Kd l2) fun r4 =>
  some (EO.mk r4 0)
  )
def Qg(by1:Int)(ax0:List Int):(Int×Int×(List Int))->Option ((Int×Int×(List Int))⊕(Int×(List Int))):=fun s=>match s with
 |(al,k8,l0) =>
  ite' (decide (0<=k8)) (
   bd (at? ax0 k8) fun x1 =>
   ck (!decide ((by1%18446744073709551616)=0)) <|
   ck (!decide ((by1%18446744073709551616)=0)) <|
   bd (at? l0 k8) fun x2 =>
   ck (As .i64 (k8-1)) <|
   some (.inl (((bitI .or .u64 ((al*4294967296)%18446744073709551616) (x1%18446744073709551616)).tmod (by1%18446744073709551616)),(k8-1),(List.set l0 (Int.toNat k8) ((((bitI .or .u64 ((al*4294967296)%18446744073709551616) (x1%18446744073709551616)).tdiv (by1%18446744073709551616))%18446744073709551616)%4294967296))))
   ) (
   some (.inr (al,l0))
   )
def Ix(ax0:List Int)(by1:Int):Option ((List Int)×Int) :=
 ck (mkOk (ax0.length:Int) 4) <|
 ck (As .i64 ((ax0.length:Int)-1)) <|
 bd (lp (Qg by1 ax0) (0,((ax0.length:Int)-1),(List.replicate (Int.toNat (ax0.length:Int)) 0)))<|fun(al,l0) =>
 bd (GM l0) fun r1 =>
 some (r1,(al%4294967296))
def M1(t20:Int)(x1:Int)(y1:List Int):(Int×Int×(List Int))->Option ((Int×Int×(List Int))⊕(List Int)):=fun s=>match s with
 |(an,k9,l0') =>
  ite' (bif (decide (k9<(y1.length:Int))) then true else(decide (0<an))) (
   bd (GN y1 k9) fun r1 =>
   ck (As .i64 (t20+k9)) <|
   bd (at? l0' (t20+k9)) fun x2 =>
   ck (As .i64 (t20+k9)) <|
   bd (at? l0' (t20+k9)) fun x3 =>
   ck (As .i64 (k9+1)) <|
   some (.inl ((Int.fdiv (((((((x1%18446744073709551616)*r1)%18446744073709551616)+(x2%18446744073709551616))%18446744073709551616)+an)%18446744073709551616) 4294967296),(k9+1),(List.set l0' (Int.toNat (t20+k9)) ((((((((x1%18446744073709551616)*r1)%18446744073709551616)+(x2%18446744073709551616))%18446744073709551616)+an)%18446744073709551616)%4294967296))))
   ) (
   some (.inr l0')
   )
def Qh(ax0:List Int)(y1:List Int):(Int×(List Int))->Option ((Int×(List Int))⊕(List Int)):=fun s=>match s with
 |(t20,l0) =>
  ite' (decide (t20<(ax0.length:Int))) (
   bd (at? ax0 t20) fun x1 =>
   bd (lp (M1 t20 x1 y1) (0,0,l0))<|fun l0' =>
   ck (As .i64 (t20+1)) <|
   some (.inl ((t20+1),l0'))
   ) (
   some (.inr l0)
   )
def GP(ax0:List Int)(y1:List Int):Option ((List Int)) :=
 ck (As .i64 ((ax0.length:Int)+(y1.length:Int))) <|
 ck (As .i64 (((ax0.length:Int)+(y1.length:Int))+1)) <|
 ck (mkOk (((ax0.length:Int)+(y1.length:Int))+1) 4) <|
 bd (lp (Qh ax0 y1) (0,(List.replicate (Int.toNat (((ax0.length:Int)+(y1.length:Int))+1)) 0)))<|fun l0 =>
 bd (GM l0) fun r2 =>
 some r2
def Qi(ax0:List Int)(y1:List Int):(Int×Int×(List Int))->Option ((Int×Int×(List Int))⊕(List Int)):=fun s=>match s with
 |(a4,t11,l1) =>
  ite' (decide (t11<(ax0.length:Int))) (
   bd (at? ax0 t11) fun x1 =>
   bd (GN y1 t11) fun r1 =>
   ck (decide (List.length (l1++[((((((x1%18446744073709551616)-r1)%18446744073709551616)-a4)%18446744073709551616)%4294967296)])*4<=140737488355328)) <|
   ck (As .i64 (t11+1)) <|
   some (.inl ((Int.fdiv (((((x1%18446744073709551616)-r1)%18446744073709551616)-a4)%18446744073709551616) 9223372036854775808),(t11+1),(l1++[((((((x1%18446744073709551616)-r1)%18446744073709551616)-a4)%18446744073709551616)%4294967296)])))
   ) (
   some (.inr l1)
   )
def GQ(ax0:List Int)(y1:List Int):Option ((List Int)) :=
 bd (lp (Qi ax0 y1) (0,0,[]))<|fun l1 =>
 bd (GM l1) fun r2 =>
 some r2
def Qj(ax0:List Int)(y1:List Int):(Int×Int×(List Int))->Option ((Int×Int×(List Int))⊕(List Int)):=fun s=>match s with
 |(a7,t15,l1) =>
  ite' (decide (t15<((max (ax0.length:Int) (y1.length:Int))+1))) (
   bd (GN ax0 t15) fun r1 =>
   bd (GN y1 t15) fun r2 =>
   ck (decide (List.length (l1++[(((((r1+r2)%18446744073709551616)+a7)%18446744073709551616)%4294967296)])*4<=140737488355328)) <|
   ck (As .i64 (t15+1)) <|
   some (.inl ((Int.fdiv ((((r1+r2)%18446744073709551616)+a7)%18446744073709551616) 4294967296),(t15+1),(l1++[(((((r1+r2)%18446744073709551616)+a7)%18446744073709551616)%4294967296)])))
   ) (
   some (.inr l1)
   )
def Kk(ax0:List Int)(y1:List Int):Option ((List Int)) :=
 ck (As .i64 ((max (ax0.length:Int) (y1.length:Int))+1)) <|
 bd (lp (Qj ax0 y1) (0,0,[]))<|fun l1 =>
 bd (GM l1) fun r3 =>
 some r3
def Qk(b1:List UInt8):((List UInt8)×Int)->Option (((List UInt8)×Int)⊕((List UInt8)×Int)):=fun s=>match s with
 |(r6',n8) =>
  bd (Ki r6' b1) fun r3 =>
  ite' (decide (0<=r3)) (
   bd (Kj r6' b1) fun r4 =>
   ck (As .i64 (n8+1)) <|
   some (.inl (r4.S,(n8+1)))
   ) (
   some (.inr (r6',n8))
   )
def Ql(a0:List UInt8)(b1:List UInt8):((List UInt8)×(List UInt8)×Int)->Option (((List UInt8)×(List UInt8)×Int)⊕((List UInt8)×(List UInt8))):=fun s=>match s with
 |(q5,r6,k7) =>
  ite' (decide (k7<(a0.length:Int))) (
   ck (As .i64 (k7+1)) <|
   ck (CC a0 k7 (k7+1)) <|
   ck (decide (r6.length+List.length (sub a0 k7 (k7+1))<=4611686018427387904)) <|
   bd (J1 (r6++(sub a0 k7 (k7+1)))) fun r2 =>
   bd (lp (Qk b1) (r2,0))<|fun(r6',n8) =>
   ck (decide (q5.length+List.length (Ca [(n8%256)])<=4611686018427387904)) <|
   ck (As .i64 (k7+1)) <|
   some (.inl ((q5++(Ca [(n8%256)])),r6',(k7+1)))
   ) (
   some (.inr (q5,r6))
   )
def Kl(a0:List UInt8)(b1:List UInt8):Option (Gp) :=
 bd (J1 b1) fun r1 =>
 ite' (decide (r1=[])) (
  some (Gp.mk [] [] 1)
  ) (
  bd (lp (Ql a0 b1) ([],[],0))<|fun(q5,r6) =>
  bd (J1 q5) fun r5 =>
  some (Gp.mk r5 r6 0)
  )
def M2(ax0:Int)(y1:Int):Option (Int) :=
 bd (Ke ax0) fun r1 =>
 bd (Ke y1) fun r2 =>
 ite' r1 (
  ite' r2 (
   some 0
   ) (
   some (-1)
   )
  ) (
  ite' r2 (
   some 1
   ) (
   ite' (decide (ax0<y1)) (
    some (-1)
    ) (
    ite' (decide (y1<ax0)) (
     some 1
     ) (
     some 0
     )
    )
   )
  )
def M3(ax0:Int)(y1:Int):Option (Int) :=
 bd (Kf ax0) fun r1 =>
 bd (Kf y1) fun r2 =>
 ite' r1 (
  ite' r2 (
   some 0
   ) (
   some (-1)
   )
  ) (
  ite' r2 (
   some 1
   ) (
   ite' (decide (ax0<y1)) (
    some (-1)
    ) (
    ite' (decide (y1<ax0)) (
     some 1
     ) (
     some 0
     )
    )
   )
  )
def Qm(as0:List UInt8)(a9:List UInt8):Option ((List UInt8)) :=
 ite' (bif (decide (as0=[])) then true else(decide (a9=[]))) (
  some as0
  ) (
  ck (!(decide ((a9.length:Int)=1))||(BZ a9 0)) <|
  ite' (bif (decide ((a9.length:Int)=1)) then(decide ((Cy a9 0)<128)) else false) (
   ck (BZ a9 0) <|
   bd (Mr as0 (Cy a9 0)) fun r1 =>
   some r1
   ) (
   none
   )
  )
def folL(rec:AD->Option (List AD))(h:AD)(n:Int):(Int×List AD)->Option ((Int×List AD)⊕List AD):=fun s=>match s with
 |(k,out)=>ite' (decide (k<n)) (bd (rec ⟨h.From,h.Stages++[k]⟩) fun r=>ck (decide (out.length+r.length<=1000000000)&&As .i64 (k+1))<|some (.inl (k+1,out++r))) (some (.inr out))
def BI:Nat->List Al->AD->Int->Option (List AD)
 |0,_,_,_=>none
 |m+1,l,h,n=>ck (decide (l.length<=1000000000)&&decide (h.Stages.length<=1000000000)&&As .i64 (h.From+(h.Stages.length:Int))) <|
  bd (gd (!decide ((l.length:Int)=0)) (at? l ((l.length:Int)-1))) fun z =>
  ite' (bif decide ((l.length:Int)=0) then true else decide (z.To<=h.From+(h.Stages.length:Int))) (bd (Ei l h) fun b=>some (bif b then [h] else [])) (lp (folL (fun h=>BI m l h n) h n) (0,[]))
def PI(l:List Al)(h:AD)(n:Int):Option (List AD):=BI 64 l h n
def M4(l0:List Al)(a1:List An)(ap:Int):Option (Bool) :=
 bd (Mu l0 12 ap) fun r1 =>
 bd (gd r1 (Iw a1 8)) fun r2 =>
 some (bif r1 then r2 else false)
def M5(l0:List Al)(n1:Int):Option ((List AD)) :=
 bd (α:=AD) (
  ite' (decide (0<(l0.length:Int))) (
   bd (at? l0 0) fun x1 =>
   some (AD.mk x1.From [])
   ) (
   some (AD.mk 0 [])
   )
 )<|fun b0 =>
  bd (PI l0 b0 n1) fun r1 =>
  some r1
def EQ(h0:AD):Option (Bool) :=
 ck (!(decide ((h0.Stages.length:Int)<=40000))||As .i64 (1402560-(h0.Stages.length:Int))) <|
 bd (gd (decide ((h0.Stages.length:Int)<=40000)) (FE h0.From 0 (1402560-(h0.Stages.length:Int)))) fun r1 =>
 bd (gd (bif (decide ((h0.Stages.length:Int)<=40000)) then r1 else false) (PZ h0.Stages (fun a0=>PN a0))) fun r2 =>
 some (bif (bif (decide ((h0.Stages.length:Int)<=40000)) then r1 else false) then(!r2) else false)
def Iy :((List UInt8)×(List UInt8))->Option (((List UInt8)×(List UInt8))⊕(List UInt8)):=fun s=>match s with
 |(x5,y6) =>
  ite' (!decide (y6=[])) (
   bd (Kl x5 y6) fun r3 =>
   some (.inl (y6,r3.R))
   ) (
   some (.inr x5)
   )
def M6(a0:List UInt8)(b1:List UInt8):Option ((List UInt8)) :=
 bd (J1 a0) fun r1 =>
 bd (J1 b1) fun r2 =>
 bd (lp (Iy) (r1,r2))<|fun x5 =>
 some x5
def GR(b4:Bool)(b5:List UInt8)(av:List UInt8):Option (Af) :=
 bd (J1 b5) fun r1 =>
 ite' (decide (r1=[])) (
  some (Af.mk false [] [])
  ) (
  bd (M6 r1 av) fun r2 =>
  bd (Kl r1 r2) fun r3 =>
  bd (Kl av r2) fun r4 =>
  some (Af.mk b4 r3.Q r4.Q)
  )
def Qn(ax0:List Int)(y1:List Int):Int->Option (Int⊕(Unit⊕Int)):=fun s=>match s with
 |k6 =>
  ite' (decide (0<=k6)) (
   bd (at? ax0 k6) fun x1 =>
   bd (at? y1 k6) fun x2 =>
   bd (M3 x1 x2) fun r2 =>
   ite' (!decide (r2=0)) (
    some (.inr (.inr r2))
    ) (
    ck (As .i64 (k6-1)) <|
    some (.inl (k6-1))
    )
   ) (
   some (.inr (.inl ()))
   )
def yzf(ax0:List Int)(y1:List Int):Option (Int) :=
 bd (M2 (ax0.length:Int) (y1.length:Int)) fun r1 =>
 ite' (!decide (r1=0)) (
  some r1
  ) (
  ck (As .i64 ((ax0.length:Int)-1)) <|
  bd (lp (Qn ax0 y1) ((ax0.length:Int)-1))<|fun o=>match o with
  | .inl ()=>(
    some 0
   )
  | .inr o=>(
    some o
   )
  )
def yze(ax0:List Int)(aj:Int):Option ((List Int)) :=
 ite' (decide (aj<0)) (
  ck (As .i64 (-aj)) <|
  ck (decide (0<=(-aj))) <|
  bd (Ix ax0 ((1*2 ^ min (Int.toNat (-aj)) 32)%4294967296)) fun r1 =>
  some r1.1
  ) (
  ck (decide (0<=aj)) <|
  bd (GP ax0 [((1*2 ^ min (Int.toNat aj) 32)%4294967296)]) fun r2 =>
  some r2
  )
def M7(a0:List UInt8):Option ((List UInt8)) :=
 bd (Qm a0 [0]) fun r1 =>
 some r1
def GC(out:List Al)(x:Al):Option (List Al):=match out.getLast? with
 |none=>some [x]
 |some a=>bd (GB a x) fun p=>some (bif p.2 then out.dropLast++[p.1] else out++[x])
def ofL(f:Int):Int->List Int->List Al->Option (List Al)
 |_,[],out=>some out
 |k,s :: l,out=>ck (As .i64 (f+k)&&As .i64 (f+k+1))<|bd (Eb (f+k) (f+k+1) s) fun x=>bd (GC out x) fun out=>ofL f (k+1) l out
def F4(h0:AD):Option (List Al×Int) :=
 bd (EQ h0) fun b=>ite' (!b) (some ([],1)) <|
 bd (ofL h0.From 0 h0.Stages []) fun out=>ite' (decide (2000<(out.length:Int))) (some ([],2)) (some (out,0))
def qzh7(x3:Al):(Int×(List (Int×Int)))->Option ((Int×(List (Int×Int)))⊕(List (Int×Int))):=fun s=>match s with
 |(t60,m2) =>
  ite' (decide (t60<(x3.Table.length:Int))) (
   bd (at? x3.Table t60) fun x4 =>
   ck (As .i64 (t60+1)) <|
   some (.inl ((t60+1),(mput keqI m2 x4.Stage x4.Ticks)))
   ) (
   some (.inr m2)
   )
def qzk6(h1:AD)(x3:Al):(Int×(List (Int×Int)))->Option ((Int×(List (Int×Int)))⊕((List (Int×Int))⊕Bool)):=fun s=>match s with
 |(t84,m2') =>
  ite' (decide (t84<(List.length (sub h1.Stages (x3.From-h1.From) (x3.To-h1.From)):Int))) (
   bd (at? (sub h1.Stages (x3.From-h1.From) (x3.To-h1.From)) t84) fun x5 =>
   bd (FD x3) fun r3 =>
   bd (gd r3 (FE x5 x3.Lo x3.Hi)) fun r4 =>
   bd (gd (!(bif r3 then(!r4) else false)) (FD x3)) fun r5 =>
   ite' (bif (bif r3 then(!r4) else false) then true else(bif (!r5) then(decide ((Option.getD (mget keqI m2' x5) 0)=0)) else false)) (
    some (.inr (.inr false))
    ) (
    ck (As .i64 ((Option.getD (mget keqI m2' x5) 0)-1)) <|
    ck (As .i64 (t84+1)) <|
    some (.inl ((t84+1),(mput keqI m2' x5 ((Option.getD (mget keqI m2' x5) 0)-1))))
    )
   ) (
   some (.inr (.inl m2'))
   )
def qzhr(h1:AD)(l0:List Al):Int->Option (Int⊕(Unit⊕Bool)):=fun s=>match s with
 |t52 =>
  ite' (decide (t52<(l0.length:Int))) (
   bd (at? l0 t52) fun x3 =>
   bd (lp (qzh7 x3) (0,([]:List (Int×Int))))<|fun m2 =>
   ck (As .i64 (x3.From-h1.From)) <|
   ck (As .i64 (x3.To-h1.From)) <|
   ck (CC h1.Stages (x3.From-h1.From) (x3.To-h1.From)) <|
   bd (lp (qzk6 h1 x3) (0,m2))<|fun o=>match o with
   | .inl m2'=>(
     ck (As .i64 (t52+1)) <|
     some (.inl (t52+1))
    )
   | .inr o=>(
     some (.inr (.inr o))
    )
   ) (
   some (.inr (.inl ()))
   )
def qzet(l0:List Al)(h1:AD):Option (Bool) :=
 bd (Kh l0) fun r1 =>
 bd (gd (!(!decide (r1=0))) (EQ h1)) fun r2 =>
 ite' (bif (!decide (r1=0)) then true else(!r2)) (
  some false
  ) (
  ite' (decide ((l0.length:Int)=0)) (
   some (decide ((h1.Stages.length:Int)=0))
   ) (
   bd (at? l0 0) fun x1 =>
   ck (!(!(!decide (h1.From=x1.From)))||As .i64 ((l0.length:Int)-1)) <|
   bd (gd (!(!decide (h1.From=x1.From))) (at? l0 ((l0.length:Int)-1))) fun x2 =>
   ck (!(!(!decide (h1.From=x1.From)))||As .i64 (x2.To-h1.From)) <|
   ite' (bif (!decide (h1.From=x1.From)) then true else(!decide ((h1.Stages.length:Int)=(x2.To-h1.From)))) (
    some false
    ) (
    bd (lp (qzhr h1 l0) 0)<|fun o=>match o with
    | .inl ()=>(
      some true
     )
    | .inr o=>(
      some o
     )
    )
   )
  )
def Qo(a0:Af):Option (Bool) :=
 ite' (bif (decide (a0.Num=[])) then true else(decide (a0.Den=[]))) (
  some ((a0.Neg==false)&&(decide (a0.Num=[])&&(decide (a0.Den=[])&&true)))
  ) (
  bd (My a0.Num) fun r1 =>
  bd (My a0.Den) fun r2 =>
  bd (gd (bif r1 then r2 else false) (M6 a0.Num a0.Den)) fun r3 =>
  some (bif (bif r1 then r2 else false) then(decide (r3=[1])) else false)
  )
def Qp(am:Int)(ag:Int):Option (F0) :=
 bd (Ml am) fun r1 =>
 bd (Ml ag) fun r2 =>
 ite' (bif (!r1) then true else(!r2)) (
  some (F0.mk (Af.mk false [] []) 3)
  ) (
  ite' (decide (ag=0)) (
   some (F0.mk (Af.mk false [] []) 1)
   ) (
   bd (M0 am) fun r3 =>
   bd (M0 ag) fun r4 =>
   bd (GR (!((decide (am<0))==(decide (ag<0)))) r3 r4) fun r5 =>
   some (F0.mk r5 0)
   )
  )
def GS(a0:Af):Option (Af) :=
 bd (Qo a0) fun r1 =>
 ite' r1 (
  some a0
  ) (
  some (Af.mk false [] [])
  )
def M8(y1:List Int):Int->Option (Int⊕Int):=fun s=>match s with
 |aa =>
  ck (As .i64 ((y1.length:Int)-1)) <|
  bd (at? y1 ((y1.length:Int)-1)) fun x2 =>
  ck (decide (0<=aa)) <|
  ite' (decide (((x2*2 ^ min (Int.toNat aa) 32)%4294967296)<2147483648)) (
   ck (As .i64 (aa+1)) <|
   some (.inl (aa+1))
   ) (
   some (.inr aa)
   )
def M9(j13:Int)(a6:List Int)(r4:(List Int)):(Int×Int)->Option ((Int×Int)⊕Int):=fun s=>match s with
 |(a3,ab) =>
  ck (!(decide (ab<4294967296))||As .i64 ((r4.length:Int)-2)) <|
  bd (gd (decide (ab<4294967296)) (at? r4 ((r4.length:Int)-2))) fun x7 =>
  ck (!(decide (ab<4294967296))||As .i64 (j13+(r4.length:Int))) <|
  ck (!(decide (ab<4294967296))||As .i64 ((j13+(r4.length:Int))-2)) <|
  bd (gd (decide (ab<4294967296)) (at? a6 ((j13+(r4.length:Int))-2))) fun x8 =>
  ite' (bif (decide (ab<4294967296)) then(decide ((bitI .or .u64 ((ab*4294967296)%18446744073709551616) (x8%18446744073709551616))<((a3*(x7%18446744073709551616))%18446744073709551616))) else false) (
   ck (As .i64 ((r4.length:Int)-1)) <|
   bd (at? r4 ((r4.length:Int)-1)) fun x9 =>
   some (.inl (((a3-1)%18446744073709551616),((ab+(x9%18446744073709551616))%18446744073709551616)))
   ) (
   some (.inr a3)
   )
def Qq(j13:Int)(a6:List Int)(r4:(List Int)):(Int×(List Int))->Option ((Int×(List Int))⊕(Int×(List Int))):=fun s=>match s with
 |(a3',ac) =>
  bd (F3 (sub a6 j13 ((j13+(r4.length:Int))+1))) fun r8 =>
  bd (GM r8) fun r9 =>
  bd (yzf r9 ac) fun r10 =>
  ite' (decide (r10<0)) (
   bd (GQ ac r4) fun r11 =>
   some (.inl (((a3'-1)%18446744073709551616),r11))
   ) (
   some (.inr (a3',ac))
   )
def Iz(r4:(List Int)):(Int×(List Int)×(List Int))->Option ((Int×(List Int)×(List Int))⊕((List Int)×(List Int))):=fun s=>match s with
 |(j13,a6,l3) =>
  ite' (decide (0<=j13)) (
   ck (As .i64 (j13+(r4.length:Int))) <|
   bd (at? a6 (j13+(r4.length:Int))) fun x3 =>
   ck (As .i64 (j13+(r4.length:Int))) <|
   ck (As .i64 ((j13+(r4.length:Int))-1)) <|
   bd (at? a6 ((j13+(r4.length:Int))-1)) fun x4 =>
   ck (As .i64 ((r4.length:Int)-1)) <|
   bd (at? r4 ((r4.length:Int)-1)) fun x5 =>
   ck (!decide ((x5%18446744073709551616)=0)) <|
   ck (As .i64 ((r4.length:Int)-1)) <|
   bd (at? r4 ((r4.length:Int)-1)) fun x6 =>
   bd (lp (M9 j13 a6 r4) ((min (((bitI .or .u64 (((x3%18446744073709551616)*4294967296)%18446744073709551616) (x4%18446744073709551616)).tdiv (x5%18446744073709551616))%18446744073709551616) 4294967295),(((bitI .or .u64 (((x3%18446744073709551616)*4294967296)%18446744073709551616) (x4%18446744073709551616))-(((min (((bitI .or .u64 (((x3%18446744073709551616)*4294967296)%18446744073709551616) (x4%18446744073709551616)).tdiv (x5%18446744073709551616))%18446744073709551616) 4294967295)*(x6%18446744073709551616))%18446744073709551616))%18446744073709551616)))<|fun a3 =>
   bd (α:=Unit⊕Unit) (
    ite' (decide (a3=0)) (
     some (.inr ())
     ) (
     some (.inl ())
     )
   )<|fun o=>match o with
    | .inl ()=>(
      ck (As .i64 (j13+(r4.length:Int))) <|
      ck (As .i64 ((j13+(r4.length:Int))+1)) <|
      ck (CC a6 j13 ((j13+(r4.length:Int))+1)) <|
      bd (GP r4 [(a3%4294967296)]) fun r7 =>
      bd (lp (Qq j13 a6 r4) (a3,r7))<|fun(a3',ac) =>
      bd (F3 (sub a6 j13 ((j13+(r4.length:Int))+1))) fun r12 =>
      bd (GM r12) fun r13 =>
      bd (GQ r13 ac) fun r14 =>
      ck (CC a6 j13 ((j13+(r4.length:Int))+1)) <|
      ck (CC (B0 a6 (Int.toNat j13) (List.replicate (Int.toNat (((j13+(r4.length:Int))+1)-j13)) 0)) j13 ((j13+(r4.length:Int))+1)) <|
      bd (at? l3 j13) fun x10 =>
      ck (As .i64 (j13-1)) <|
      some (.inl ((j13-1),(B0 (B0 a6 (Int.toNat j13) (List.replicate (Int.toNat (((j13+(r4.length:Int))+1)-j13)) 0)) (Int.toNat j13) (List.take (Int.toNat (((j13+(r4.length:Int))+1)-j13)) r14)),(List.set l3 (Int.toNat j13) (a3'%4294967296))))
     )
    | .inr ()=>(
      ck (As .i64 (j13-1)) <|
      some (.inl ((j13-1),a6,l3))
     )
   ) (
   some (.inr (a6,l3))
   )
def EP(ax0:List Int)(y1:List Int):Option ((List Int)×(List Int)) :=
 bd (yzf ax0 y1) fun r1 =>
 ite' (decide (r1<0)) (
  some ([],ax0)
  ) (
  ite' (decide ((y1.length:Int)=1)) (
   bd (at? y1 0) fun x1 =>
   bd (Ix ax0 x1) fun r2 =>
   bd (GM [r2.2]) fun r3 =>
   some (r2.1,r3)
   ) (
   bd (lp (M8 y1) 0)<|fun aa =>
   bd (yze y1 aa) fun r4 =>
   bd (yze ax0 aa) fun r5 =>
   bd (F3 r5) fun r6 =>
   ck (decide (List.length (r6++[0,0])*4<=140737488355328)) <|
   ck (As .i64 ((ax0.length:Int)-(r4.length:Int))) <|
   ck (As .i64 (((ax0.length:Int)-(r4.length:Int))+2)) <|
   ck (mkOk (((ax0.length:Int)-(r4.length:Int))+2) 4) <|
   ck (As .i64 ((List.length (r6++[0,0]):Int)-(r4.length:Int))) <|
   ck (As .i64 (((List.length (r6++[0,0]):Int)-(r4.length:Int))-1)) <|
   bd (lp (Iz r4) ((((List.length (r6++[0,0]):Int)-(r4.length:Int))-1),(r6++[0,0]),(List.replicate (Int.toNat (((ax0.length:Int)-(r4.length:Int))+2)) 0)))<|fun(a6,l3) =>
   bd (GM l3) fun r15 =>
   bd (GM a6) fun r16 =>
   ck (As .i64 (-aa)) <|
   bd (yze r16 (-aa)) fun r17 =>
   some (r15,r17)
   )
  )
def Qr(ax0:List Int):(Int×(List Int))->Option ((Int×(List Int))⊕(List Int)):=fun s=>match s with
 |(t8,l1) =>
  ite' (decide (t8<(ax0.length:Int))) (
   bd (at? ax0 t8) fun x1 =>
   ck (decide (List.length (l1++[(x1%256),((Int.fdiv x1 256)%256),((Int.fdiv x1 65536)%256),((Int.fdiv x1 16777216)%256)])*1<=140737488355328)) <|
   ck (As .i64 (t8+1)) <|
   some (.inl ((t8+1),(l1++[(x1%256),((Int.fdiv x1 256)%256),((Int.fdiv x1 65536)%256),((Int.fdiv x1 16777216)%256)])))
   ) (
   some (.inr l1)
   )
def Ij(ax0:List Int):Option ((List UInt8)) :=
 bd (lp (Qr ax0) (0,[]))<|fun l1 =>
 bd (Ii l1) fun r1 =>
 bd (M7 (Ca r1)) fun r2 =>
 some r2
def FG(a0:List UInt8)(b1:List UInt8):Option ((List UInt8)) :=
 bd (Gq a0) fun r1 =>
 bd (Gq b1) fun r2 =>
 bd (GP r1 r2) fun r3 =>
 bd (Ij r3) fun r4 =>
 some r4
def MA(a0:List UInt8)(b1:List UInt8):Option ((List UInt8)) :=
 bd (Gq a0) fun r1 =>
 bd (Gq b1) fun r2 =>
 bd (Kk r1 r2) fun r3 =>
 bd (Ij r3) fun r4 =>
 some r4
def MB(a0:List UInt8)(b1:List UInt8):Option (Int) :=
 bd (Gq a0) fun r1 =>
 bd (Gq b1) fun r2 =>
 bd (yzf r1 r2) fun r3 =>
 some r3
def MC(a0:List UInt8)(b1:List UInt8):Option ((List UInt8)×Int) :=
 bd (Gq a0) fun r1 =>
 bd (Gq b1) fun r2 =>
 bd (yzf r1 r2) fun r3 =>
 ite' (decide (r3<0)) (
  some ([],3)
  ) (
  bd (GQ r1 r2) fun r4 =>
  bd (Ij r4) fun r5 =>
  some (r5,0)
  )
def MD(n0:Int):Option ((List UInt8)×Int) :=
 ite' (decide (n0<0)) (
  some ([],3)
  ) (
  bd (GM [(n0%4294967296),((Int.fdiv n0 4294967296)%4294967296)]) fun r1 =>
  bd (Ij r1) fun r2 =>
  some (r2,0)
  )
def Ik:(List Int×List Int)->Option ((List Int×List Int)⊕List Int):=fun s=>match s with
 |(x,y)=>ite' (decide ((y.length:Int)=0)) (some (.inr x)) (bd (EP x y) fun r=>some (.inl (y,r.2)))
def GA(a0:List UInt8)(b1:List UInt8):Option (List UInt8) :=
 bd (Gq a0) fun x =>
 bd (Gq b1) fun y =>
 bd (lp Ik (x,y)) fun r =>
 Ij r
def I0(a0:Af):Option (Bool) :=
 ite' ((a0.Neg==false)&&(decide (a0.Num=[])&&(decide (a0.Den=[])&&true))) (
  some true
  ) (
  bd (gd (bif (!decide (a0.Num=[])) then(!decide (a0.Den=[])) else false) (JZ a0.Num)) fun r1 =>
  bd (gd (bif (bif (!decide (a0.Num=[])) then(!decide (a0.Den=[])) else false) then r1 else false) (JZ a0.Den)) fun r2 =>
  bd (gd (bif (bif (bif (!decide (a0.Num=[])) then(!decide (a0.Den=[])) else false) then r1 else false) then r2 else false) (GA a0.Num a0.Den)) fun r3 =>
  some (bif (bif (bif (bif (!decide (a0.Num=[])) then(!decide (a0.Den=[])) else false) then r1 else false) then r2 else false) then(decide (r3=[1])) else false)
  )
def Qs(a0:Af):Option (Af) :=
 bd (GS a0) fun r1 =>
 ite' (!decide (r1.Num=[])) (
  some (Af.mk (!r1.Neg) r1.Num r1.Den)
  ) (
  some r1
  )
def Cp(a0:Af):Option (AZ) :=
 bd (gd (!(decide (a0.Num=[]))) (I0 a0)) fun r1 =>
 ite' (bif (decide (a0.Num=[])) then true else(!r1)) (
  some (AZ.mk false [] [1])
  ) (
  some (AZ.mk a0.Neg a0.Num a0.Den)
  )
def Km(f0:AZ)(g1:AZ):Option (AZ) :=
 bd (FG f0.num g1.num) fun r1 =>
 bd (FG f0.den g1.den) fun r2 =>
 some (AZ.mk (!(f0.neg==g1.neg)) r1 r2)
def Kn(f0:AZ)(g1:AZ):Option (AZ) :=
 bd (FG f0.num g1.den) fun r1 =>
 bd (FG g1.num f0.den) fun r2 =>
 bd (FG f0.den g1.den) fun r3 =>
 ite' (f0.neg==g1.neg) (
  bd (MA r1 r2) fun r4 =>
  some (AZ.mk f0.neg r4 r3)
  ) (
  bd (MB r1 r2) fun r5 =>
  bd (α:=(List UInt8)×(List UInt8)×AZ) (
   ite' (decide (r5<0)) (
    some (r2,r1,(AZ.mk g1.neg f0.num f0.den))
    ) (
    some (r1,r2,f0)
    )
  )<|fun(a5,b6,b0) =>
   bd (MC a5 b6) fun r6 =>
   some (AZ.mk b0.neg r6.1 r3)
  )
def I3(n0:Int):Option (AZ) :=
 ck (As .i64 (-n0)) <|
 bd (MD (max n0 (-n0))) fun r1 =>
 some (AZ.mk (decide (n0<0)) r1.1 [1])
def Qt(a0:Af)(b1:Af):Option (Af) :=
 bd (GS a0) fun r1 =>
 bd (GS b1) fun r2 =>
 bd (Iu r1) fun r3 =>
 bd (Iu r2) fun r4 =>
 bd (GO r3.1 r4.1) fun r5 =>
 bd (GO r3.2 r4.2) fun r6 =>
 bd (GR (!(r1.Neg==r2.Neg)) r5 r6) fun r7 =>
 some r7
def ME(a0:Af)(b1:Af):Option (Af) :=
 bd (GS a0) fun r1 =>
 bd (GS b1) fun r2 =>
 bd (Iu r1) fun r3 =>
 bd (Iu r2) fun r4 =>
 bd (GO r3.1 r4.2) fun r5 =>
 bd (GO r4.1 r3.2) fun r6 =>
 bd (GO r3.2 r4.2) fun r7 =>
 ite' (r1.Neg==r2.Neg) (
  bd (Qe r5 r6) fun r8 =>
  bd (GR r1.Neg r8 r7) fun r9 =>
  some r9
  ) (
  bd (Ki r5 r6) fun r10 =>
  ite' (decide (0<=r10)) (
   bd (Kj r5 r6) fun r11 =>
   bd (GR r1.Neg r11.S r7) fun r12 =>
   some r12
   ) (
   bd (Kj r6 r5) fun r13 =>
   bd (GR r2.Neg r13.S r7) fun r14 =>
   some r14
   )
  )
def Ko(a0:List UInt8)(b1:List UInt8):Option ((List UInt8)×(List UInt8)×Int) :=
 bd (Gq a0) fun r1 =>
 bd (Gq b1) fun r2 =>
 ite' (decide ((r2.length:Int)=0)) (
  some ([],[],1)
  ) (
  bd (EP r1 r2) fun r3 =>
  bd (Ij r3.1) fun r4 =>
  bd (Ij r3.2) fun r5 =>
  some (r4,r5,0)
  )
def Qu(a0:Af):Option (Bool) :=
 bd (I0 a0) fun r1 =>
 some (bif r1 then(!a0.Neg) else false)
def Qv(a0:Af)(b1:Af):Option (Af) :=
 bd (Qs b1) fun r1 =>
 bd (ME a0 r1) fun r2 =>
 some r2
def MF(f0:AZ)(g1:AZ):Option (AZ) :=
 bd (Km f0 (AZ.mk g1.neg g1.den g1.num)) fun r1 =>
 some r1
def I4(f0:AZ)(g1:AZ):Option (AZ) :=
 bd (Kn f0 (AZ.mk (!g1.neg) g1.num g1.den)) fun r1 =>
 some r1
def yz1(f0:AZ):Option (Af) :=
 ite' (decide (f0.num=[])) (
  some (Af.mk false [] [])
  ) (
  bd (GA f0.num f0.den) fun r1 =>
  bd (Ko f0.num r1) fun r2 =>
  bd (Ko f0.den r1) fun r3 =>
  some (Af.mk f0.neg r2.1 r3.1)
  )
def EV(op0:AZ->Option AZ)(b1:Af):Option (Af) :=
 bd (Cp b1) fun r1 =>
 bd (op0 r1) fun r2 =>
 bd (yz1 r2) fun r3 =>
 some r3
def EU(a0:Af):Option (Af) :=
 bd (EV (fun a0=>I4 (AZ.mk false [] [1]) a0) a0) fun r1 =>
 some r1
def Dm(a0:Af)(b1:Af):Option (Af) :=
 bd (Cp a0) fun r1 =>
 bd (EV (fun a0=>I4 r1 a0) b1) fun r2 =>
 some r2
def Kp(am:Int)(ag:Int):Option (Af×Int) :=
 bd (It am) fun r1 =>
 bd (gd (!(!r1)) (It ag)) fun r2 =>
 ite' (bif (!r1) then true else(!r2)) (
  some ((Af.mk false [] []),3)
  ) (
  ite' (decide (ag=0)) (
   some ((Af.mk false [] []),1)
   ) (
   bd (I3 am) fun r3 =>
   bd (I3 ag) fun r4 =>
   bd (MF r3 r4) fun r5 =>
   bd (yz1 r5) fun r6 =>
   some (r6,0)
   )
  )
def Fq(a0:Af)(b1:Af):Option (Int) :=
 bd (Cp a0) fun r1 =>
 bd (Cp b1) fun r2 =>
 bd (I4 r1 r2) fun r3 =>
 ite' (decide (r3.num=[])) (
  some 0
  ) (
  ite' r3.neg (
   some (-1)
   ) (
   some 1
   )
  )
def Kq(a0:Af)(b1:Af):Option (Af) :=
 bd (Fq a0 b1) fun r1 =>
 ite' (decide (r1<=0)) (
  bd (Cp a0) fun r2 =>
  bd (yz1 r2) fun r3 =>
  some r3
  ) (
  bd (Cp b1) fun r4 =>
  bd (yz1 r4) fun r5 =>
  some r5
  )
def Kr(a0:Af)(b1:Af):Option (Af) :=
 bd (Fq a0 b1) fun r1 =>
 ite' (decide (0<=r1)) (
  bd (Cp a0) fun r2 =>
  bd (yz1 r2) fun r3 =>
  some r3
  ) (
  bd (Cp b1) fun r4 =>
  bd (yz1 r4) fun r5 =>
  some r5
  )
def Dl(a0:Af)(b1:Af):Option (Af) :=
 bd (Cp a0) fun r1 =>
 bd (EV (fun a0=>Km r1 a0) b1) fun r2 =>
 some r2
def Ct(a0:Af)(b1:Af):Option (Af) :=
 bd (Cp a0) fun r1 =>
 bd (EV (fun a0=>Kn r1 a0) b1) fun r2 =>
 some r2
def Ec(n0:Int):Option (Af) :=
 bd (It n0) fun r1 =>
 ite' (!r1) (
  some (Af.mk false [] [])
  ) (
  bd (I3 n0) fun r2 =>
  bd (yz1 r2) fun r3 =>
  some r3
  )
def Qw :Option (Bh) :=
 bd (Ec 10) fun r1 =>
 some (Bh.mk [(Bz.mk 0 (Af.mk false [] [])),(Bz.mk 10 r1)])
def Qx(ac0:Bh):Int->Option (Int⊕(Unit⊕Int)):=fun s=>match s with
 |t18 =>
  ite' (decide (t18<(ac0.Points.length:Int))) (
   bd (at? ac0.Points t18) fun x1 =>
   bd (PQ x1.Stage) fun r1 =>
   ite' (!r1) (
    some (.inr (.inr 3))
    ) (
    bd (Qu x1.Flow) fun r2 =>
    ite' (!r2) (
     some (.inr (.inr 1))
     ) (
     ck (!(decide (0<t18))||As .i64 (t18-1)) <|
     bd (gd (decide (0<t18)) (at? ac0.Points (t18-1))) fun x2 =>
     ck (!((decide (0<t18))&&(!(decide (x1.Stage<=x2.Stage))))||As .i64 (t18-1)) <|
     bd (gd ((decide (0<t18))&&(!(decide (x1.Stage<=x2.Stage)))) (at? ac0.Points (t18-1))) fun x3 =>
     bd (gd ((decide (0<t18))&&(!(decide (x1.Stage<=x2.Stage)))) (Fq x1.Flow x3.Flow)) fun r3 =>
     ite' (bif (decide (0<t18)) then(bif (decide (x1.Stage<=x2.Stage)) then true else(decide (r3<0))) else false) (
      some (.inr (.inr 1))
      ) (
      ck (As .i64 (t18+1)) <|
      some (.inl (t18+1))
      )
     )
    )
   ) (
   some (.inr (.inl ()))
   )
def Ks(ac0:Bh):Option (Int) :=
 ite' (bif (decide ((ac0.Points.length:Int)<1)) then true else(decide (16<(ac0.Points.length:Int)))) (
  some 2
  ) (
  bd (lp (Qx ac0) 0)<|fun o=>match o with
  | .inl ()=>(
    some 0
   )
  | .inr o=>(
    some o
   )
  )
def MG(ac0:Bh)(a2:Int):Option (Af) :=
 bd (J0 (ac0.Points.length:Int) (fun a0=>Kg a0 ac0 a2)) fun r1 =>
 ite' (decide (r1=0)) (
  some (Af.mk false [] [])
  ) (
  ck (As .i64 (r1-1)) <|
  bd (at? ac0.Points (r1-1)) fun x1 =>
  ite' (decide (r1=(ac0.Points.length:Int))) (
   some x1.Flow
   ) (
   bd (at? ac0.Points r1) fun x2 =>
   ck (As .i64 (a2-x1.Stage)) <|
   ck (As .i64 (x2.Stage-x1.Stage)) <|
   bd (Kp (a2-x1.Stage) (x2.Stage-x1.Stage)) fun r2 =>
   bd (Dm x2.Flow x1.Flow) fun r3 =>
   bd (Dl r2.1 r3) fun r4 =>
   bd (Ct x1.Flow r4) fun r5 =>
   some r5
   )
  )
def qzod :Option ((List Al)×(List An)) :=
 bd (Ec 1) fun r1 =>
 bd (Qw ) fun r2 =>
 bd (Ec 2) fun r3 =>
 bd (Qw ) fun r4 =>
 some ([(Al.mk 0 4 [(AM.mk 1 2),(AM.mk 5 1),(AM.mk 9 1)] 0 0),(Al.mk 4 6 [] 2 3)],[(An.mk 0 2 r1 0 r2),(An.mk 3 5 r3 0 r4)])
def Kt(as0:An):Option (Bool) :=
 ite' (bif (bif (bif (bif (decide (as0.From<0)) then true else(decide (as0.To<=as0.From))) then true else(decide (1402560<as0.To))) then true else(decide (as0.Datum<(-1000)))) then true else(decide (1000<as0.Datum))) (
  some false
  ) (
  bd (I0 as0.Weight) fun r1 =>
  bd (gd r1 (Ks as0.Curve)) fun r2 =>
  some (bif r1 then(decide (r2=0)) else false)
  )
def MI(ac0:Bh)(a2:Int):Option (Af) :=
 bd (Ks ac0) fun r1 =>
 ite' (!decide (r1=0)) (
  some (Af.mk false [] [])
  ) (
  bd (MG ac0 a2) fun r2 =>
  some r2
  )
def Qy(l0:List An):(Int×Int)->Option ((Int×Int)⊕(Unit⊕Int)):=fun s=>match s with
 |(ax,t11) =>
  ite' (decide (t11<(l0.length:Int))) (
   bd (at? l0 t11) fun x1 =>
   bd (Kt x1) fun r1 =>
   ite' (bif (!r1) then true else(decide (x1.From<ax))) (
    some (.inr (.inr 1))
    ) (
    ck (As .i64 (t11+1)) <|
    some (.inl (x1.To,(t11+1)))
    )
   ) (
   some (.inr (.inl ()))
   )
def ER(l0:List An):Option (Int) :=
 ite' (decide (400<(l0.length:Int))) (
  some 2
  ) (
  bd (lp (Qy l0) (0,0))<|fun o=>match o with
  | .inl ()=>(
    some 0
   )
  | .inr o=>(
    some o
   )
  )
def D1(as0:An)(a2:Int):Option (Af) :=
 ck (As .i64 (a2+as0.Datum)) <|
 bd (MI as0.Curve (a2+as0.Datum)) fun r1 =>
 bd (Dl as0.Weight r1) fun r2 =>
 some r2
def F6:List Int->List (Int×Int)->Option (List (Int×Int))
 |[],m=>some m
 |s :: l,m=>ck (As .i64 (Option.getD (mget keqI m s) 0+1)) (F6 l (mput keqI m s (Option.getD (mget keqI m s) 0+1)))
def B7(s:An):List (Int×Int)->Af->Option Af
 |[],r=>some r
 |p :: l,r=>bd (Ec p.2) fun a=>bd (D1 s p.1) fun b=>bd (Dl a b) fun c=>bd (Ct r c) fun r=>B7 s l r
def insA{α:Type}(x:α):List α->List (List α)
 |[]=>[[x]]
 |y :: l=>(x :: y :: l) :: (insA x l).map (y :: ·)
def JT{α:Type}:List α->List (List α)
 |[]=>[[]]
 |x :: l=>(JT l).flatMap (insA x)
def eqR:Option Af->Option Af->Bool
 |some a,some b=>a.Neg==b.Neg&&(decide (a.Num=b.Num)&&decide (a.Den=b.Den))
 |_,_=>false
def F5(s:An)(m:List (Int×Int))(r:Af):Option Af:=bif (JT m).all (fun m'=>eqR (B7 s m' r) (B7 s m r)) then B7 s m r else none
def vaL(h:AD):List An->Af->Option (Af×Int)
 |[],r=>some (r,0)
 |s :: l,r=>ck (As .i64 (h.From+(h.Stages.length:Int)))<|ite' (bif decide (s.From<h.From) then true else decide (h.From+(h.Stages.length:Int)<s.To)) (some (Af.mk false [] [],19)) <|
  ck (As .i64 (s.From-h.From)&&As .i64 (s.To-h.From)&&CC h.Stages (s.From-h.From) (s.To-h.From)) <|
  bd (F6 (sub h.Stages (s.From-h.From) (s.To-h.From)) []) fun m=>bd (F5 s m r) fun r=>vaL h l r
def GD(h0:AD)(l1:List An):Option (Af×Int) :=
 bd (ER l1) fun e=>ite' (!decide (e=0)) (some (Af.mk false [] [],e)) <|
 bd (F4 h0) fun p=>ite' (!decide (p.2=0)) (some (Af.mk false [] [],1)) <|
 vaL h0 l1 (Af.mk false [] [])
def GT(l0:List Al)(a1:List An):Option (Int) :=
 bd (Kh l0) fun r1 =>
 ite' (!decide (r1=0)) (
  some r1
  ) (
  bd (ER a1) fun r2 =>
  ite' (!decide (r2=0)) (
   some r2
   ) (
   bd (gd ((decide (0<(a1.length:Int)))&&(!(decide ((l0.length:Int)=0)))) (at? a1 0)) fun x1 =>
   bd (gd ((decide (0<(a1.length:Int)))&&(!(decide ((l0.length:Int)=0)))) (at? l0 0)) fun x2 =>
   ck (!((decide (0<(a1.length:Int)))&&(!(bif (decide ((l0.length:Int)=0)) then true else(decide (x1.From<x2.From)))))||As .i64 ((a1.length:Int)-1)) <|
   bd (gd ((decide (0<(a1.length:Int)))&&(!(bif (decide ((l0.length:Int)=0)) then true else(decide (x1.From<x2.From))))) (at? a1 ((a1.length:Int)-1))) fun x3 =>
   ck (!((decide (0<(a1.length:Int)))&&(!(bif (decide ((l0.length:Int)=0)) then true else(decide (x1.From<x2.From)))))||As .i64 ((l0.length:Int)-1)) <|
   bd (gd ((decide (0<(a1.length:Int)))&&(!(bif (decide ((l0.length:Int)=0)) then true else(decide (x1.From<x2.From))))) (at? l0 ((l0.length:Int)-1))) fun x4 =>
   ite' (bif (decide (0<(a1.length:Int))) then(bif (bif (decide ((l0.length:Int)=0)) then true else(decide (x1.From<x2.From))) then true else(decide (x4.To<x3.To))) else false) (
    some 19
    ) (
    some 0
    )
   )
  )
def qzjv(l0:List Al)(a1:List An)(k2:Int):Option ((List AB)×Int) :=
 bd (GT l0 a1) fun r1 =>
 ite' (!decide (r1=0)) (
  some ([],r1)
  ) (
  ite' (bif (decide (k2<0)) then true else(decide ((l0.length:Int)<=k2))) (
   some ([],1)
   ) (
   bd (at? l0 k2) fun x1 =>
   bd (Ip x1 a1) fun r2 =>
   some (r2,0)
   )
  )
def MJ(as0:An)(a2:Int):Option (Af×Int) :=
 bd (Kt as0) fun r1 =>
 ite' (!r1) (
  some ((Af.mk false [] []),1)
  ) (
  ite' (bif (decide (a2<0)) then true else(decide (1000<a2))) (
   some ((Af.mk false [] []),3)
   ) (
   bd (D1 as0 a2) fun r2 =>
   some (r2,0)
   )
  )
def GJ(au:Int)(a2:Int)(c0:List An)(c1:Bool):Option (Af) :=
 ite' (decide (au<0)) (
  some (Af.mk false [] [])
  ) (
  bd (at? c0 au) fun x1 =>
  bd (MJ x1 a2) fun r1 =>
  ite' c1 (
   bd (EU r1.1) fun r2 =>
   some r2
   ) (
   some r1.1
   )
  )
def forN{σ:Type}(f:σ->Nat->Option σ):Nat->Nat->σ->Option σ
 |0,_,s=>some s
 |m+1,k,s=>bd (f s k) fun s=>forN f m (k+1) s
def bigF:Nat:=2 ^ 4096
def lpB{σ ω:Type}(body:σ->Option (σ⊕ω))(s:σ):Option ω:=lpN body bigF s
def GG(rate:Int->Int->Option Af)(st:Int):List AB->Option (List Af)
 |[]=>some []
 |c :: l=>bd (rate c.Span st) fun a=>bd (GG rate st l) fun r=>some (a :: r)
def GF:(Int×Int×List Int×List Int)->Option ((Int×Int×List Int×List Int)⊕(Int×List Int×List Int)):=fun s=>match s with
 | (n,at0,left,row)=>ite' (decide (0<n)) (
   bd (at? left at0) fun la=>ite' (decide (la=0)) (ck (As .i64 (at0+1))<|some (.inl (n,at0+1,left,row))) <|
   bd (at? row at0) fun xa=>ck (As .i64 (xa+min n la)&&As .i64 (la-min n la)&&As .i64 (n-min n la)) <|
   some (.inl (n-min n la,at0,left.set at0.toNat (la-min n la),row.set at0.toNat (xa+min n la)))) (some (.inr (at0,left,row)))
def bgL(rate:Int->Int->Option Af)(cl:List AB):List AM->Int->List Int->List (List Af)->List (List Int)->Option (List (List Af)×List (List Int))
 |[],_,_,co,x=>some (co,x)
 |h :: t,at0,left,co,x=>bd (GG rate h.Stage cl) fun c=>bd (lp GF (h.Ticks,at0,left,List.replicate cl.length 0)) fun r=>bgL rate cl t r.1 r.2.1 (co++[c]) (x++[r.2.2])
def F9(r:Al)(spans:List An)(rate:Int->Int->Option Af):Option (List AB×List (List Af)×List (List Int)) :=
 bd (Ip r spans) fun cl=>ck (decide (0<cl.length)&&decide (cl.length<=1000000)&&decide (r.Table.length<=1000000)) <|
 bd (bgL rate cl r.Table 0 (cl.map (·.Ticks)) [] []) fun p=>some (cl,p.1,p.2)
def imS(co:List (List Af))(x:List (List Int))(a b:Nat)(m:Int×Af)(s:Nat):Option (Int×Af) :=
 bd (at? co (s:Int)) fun cs=>bd (at? cs (b:Int)) fun cb=>bd (at? cs (a:Int)) fun ca=>bd (Dm cb ca) fun d =>
 bd (at? x (s:Int)) fun xs=>bd (at? xs (a:Int)) fun xa =>
 ite' (decide (0<xa)) (ite' (decide (m.1<0)) (some ((s:Int),d)) (bd (Fq d m.2) fun q=>ite' (decide (q<0)) (some ((s:Int),d)) (some m))) (some m)
def imM(co:List (List Af))(x:List (List Int))(a b:Nat):Option (Int×Af):=forN (imS co x a b) x.length 0 (-1,Af.mk false [] [])
def Io(co:List (List Af))(x:List (List Int))(n a:Nat):Option (List (Int×Af)):=forN (fun l b=>bd (imM co x a b) fun m=>some (l++[m])) n 0 []
def imMv(co:List (List Af))(x:List (List Int))(n:Nat):Option (List (List (Int×Af))):=forN (fun l a=>bd (Io co x n a) fun r=>some (l++[r])) n 0 []
def imE(mv:List (List (Int×Af)))(a:Nat)(s:List Af×List Int×Int)(b:Nat):Option (List Af×List Int×Int) :=
 bd (at? mv (a:Int)) fun row=>bd (at? row (b:Int)) fun m =>
 ite' (bif !decide ((a:Int)=(b:Int)) then decide (0<=m.1) else false) (
  bd (at? s.1 (a:Int)) fun da=>bd (Ct da m.2) fun e=>bd (at? s.1 (b:Int)) fun db=>bd (Fq e db) fun q =>
  ite' (decide (q<0)) (some (s.1.set b e,s.2.1.set b (a:Int),(b:Int))) (some s)) (some s)
def JU(mv:List (List (Int×Af)))(n:Nat)(d:List Af)(f:List Int):Option (List Af×List Int×Int):=forN (fun s a=>forN (imE mv a) n 0 s) n 0 (d,f,-1)
def imPs(mv:List (List (Int×Af)))(n:Nat):Nat->List Af->List Int->Int->Option (Option (List Int×Int))
 |0,_,f,c=>some (some (f,c))
 |k+1,d,f,_=>bd (JU mv n d f) fun r=>ite' (decide (r.2.2<0)) (some none) (imPs mv n k r.1 r.2.1 r.2.2)
def imG(mv:List (List (Int×Af)))(f:List Int)(b:Int):Option (Int×Int):=bd (at? f b) fun a=>bd (at? mv a) fun row=>bd (at? row b) fun m=>some (a,m.1)
def Ee(mv:List (List (Int×Af)))(x:List (List Int))(f:List Int)(at0:Int):(Int×Bool×Int)->Option ((Int×Bool×Int)⊕Int):=fun s=>match s with
 | (b,begun,most)=>ite' (bif !begun then true else !decide (b=at0)) (
   bd (imG mv f b) fun g=>bd (at? x g.2) fun xs=>bd (at? xs g.1) fun xa=>some (.inl (g.1,true,min most xa))) (some (.inr most))
def Ef(mv:List (List (Int×Af)))(f:List Int)(at0 most:Int):(Int×Bool×List (List Int))->Option ((Int×Bool×List (List Int))⊕List (List Int)):=fun s=>match s with
 | (b,begun,x)=>ite' (bif !begun then true else !decide (b=at0)) (
   bd (imG mv f b) fun g=>bd (at? x g.2) fun xs=>bd (at? xs g.1) fun xa=>ck (As .i64 (xa-most))<|bd (at? (xs.set g.1.toNat (xa-most)) b) fun xb=>ck (As .i64 (xb+most)) <|
   some (.inl (g.1,true,x.set g.2.toNat ((xs.set g.1.toNat (xa-most)).set b.toNat (xb+most))))) (some (.inr x))
def GE(co:List (List Af))(n:Nat):(List (List Int)×List Int)->Option ((List (List Int)×List Int)⊕List (List Int)):=fun s=>match s with
 |(x,f)=>bd (imMv co x n) fun mv=>bd (imPs mv n (n+1) (List.replicate n (Af.mk false [] [])) f (-1)) fun o=>match o with
  |none=>some (.inr x)
  |some (f,c)=>bd (forN (fun(at0:Int) (_:Nat)=>at? f at0) n 0 c) fun at0 =>
   bd (lp (Ee mv x f at0) (at0,false,1402560)) fun most=>bd (lp (Ef mv f at0 most) (at0,false,x)) fun x=>some (.inl (x,f))
def F8(co:List (List Af))(x:List (List Int))(n:Nat):Option (List (List Int)):=lpB (GE co n) (x,List.replicate n 0)
def Bs(m:List (Int×List Int))(k s:Int):List (Int×List Int):=mput keqI m k (Option.getD (mget keqI m k) []++[s])
def Eh(rate:Int->Int->Option Af)(r:Al):List AB->List (Int×List Int)->Af->Option (List (Int×List Int)×Af)
 |[],m,q=>some (m,q)
 |c :: l,m,q=>bd (rate c.Span r.Hi) fun a=>bd (rate c.Span r.Lo) fun b=>bd (Fq a b) fun e =>
  bd (forN (fun m (_:Nat)=>some (Bs m c.Span (bif decide (e<0) then r.Hi else r.Lo))) c.Ticks.toNat 0 m) fun m =>
  bd (Ec c.Ticks) fun i=>bd (rate c.Span (bif decide (e<0) then r.Hi else r.Lo)) fun g=>bd (Dl i g) fun p=>bd (Ct q p) fun q=>Eh rate r l m q
def D8(h:AM):List AB->List Af->List Int->List (Int×List Int)->Af->Option (List (Int×List Int)×Af)
 |c :: cl,g :: co,n :: x,m,q=>bd (forN (fun m (_:Nat)=>some (Bs m c.Span h.Stage)) n.toNat 0 m) fun m =>
  bd (Ec n) fun i=>bd (Dl i g) fun p=>bd (Ct q p) fun q=>D8 h cl co x m q
 |_,_,[],m,q=>some (m,q)
 |_,_,_,_,_=>none
def D9(cl:List AB):List AM->List (List Af)->List (List Int)->List (Int×List Int)->Af->Option (List (Int×List Int)×Af)
 |h :: t,co :: cs,x :: xs,m,q=>bd (D8 h cl co x m q) fun r=>D9 cl t cs xs r.1 r.2
 |_,_,[],m,q=>some (m,q)
 |_,_,_,_,_=>none
def enAt(spans:List An)(t:Int):Option Int:=bd (J0 (spans.length:Int) (fun a0=>FB a0 spans t)) fun k =>
 bd (gd (!decide (k=(spans.length:Int))) (at? spans k)) fun x=>some (bif (bif decide (k=(spans.length:Int)) then true else decide (t<x.From)) then -1 else k)
def ES(spans:List An)(a8 to0:Int):(Int×List (Int×List Int)×List Int)->Option ((Int×List (Int×List Int)×List Int)⊕List Int):=fun s=>match s with
 | (t,m,out)=>ite' (decide (t<to0)) (
   bd (enAt spans t) fun k=>bd (mget keqI m k) fun l=>match l with
   |[]=>none
   | s :: l=>ck (As .i64 (t-a8)&&(decide (0<=t-a8)&&decide (t-a8<(out.length:Int)))&&As .i64 (t+1))<|some (.inl (t+1,mput keqI m k l,out.set (t-a8).toNat s))) (some (.inr out))
def ET(spans:List An)(rate:Int->Int->Option Af)(a8:Int):List Al->Af->List Int->Option (Af×List Int)
 |[],q,out=>some (q,out)
 | r :: l,q,out=>bd (ite' (decide ((r.Table.length:Int)=0)) (bd (Ip r spans) fun cl=>ck (decide (cl.length<=1000000))<|Eh rate r cl [] q)
   (bd (F9 r spans rate) fun b=>bd (F8 b.2.1 b.2.2 b.1.length) fun x=>D9 b.1 r.Table b.2.1 x [] q)) fun p =>
  ck (p.1.all fun e=>decide ((e.2.length:Int)<=1000000000))<|bd (lp (ES spans a8 r.To) (r.From,p.1,out)) fun out=>ET spans rate a8 l p.2 out
def GL(l0:List Al)(a1:List An)(aq:Bool):Option (Af×AD) :=
 bd (gd (decide (0<(l0.length:Int))) (at? l0 0)) fun a=>bd (gd (decide (0<(l0.length:Int))) (at? l0 ((l0.length:Int)-1))) fun z =>
 ck (decide ((l0.length:Int)<=1000000000)&&(!decide (0<(l0.length:Int))||(As .i64 (z.To-a.From)&&decide (0<=z.To-a.From)&&decide (z.To-a.From<=1000000000)))) <|
 bd (ET a1 (fun s t=>GJ s t a1 aq) (bif decide (0<(l0.length:Int)) then a.From else 0) l0 (Af.mk false [] []) (bif decide (0<(l0.length:Int)) then List.replicate (z.To-a.From).toNat 0 else [])) fun r =>
 bd (ite' aq (EU r.1) (some r.1)) fun q=>some (q,AD.mk (bif decide (0<(l0.length:Int)) then a.From else 0) r.2)
def MK(l0:List Al)(a1:List An):Option (Af×AD×Int) :=
 bd (GT l0 a1) fun r1 =>
 ite' (!decide (r1=0)) (
  some ((Af.mk false [] []),(AD.mk 0 []),r1)
  ) (
  bd (GL l0 a1 false) fun r2 =>
  some (r2.1,r2.2,0)
  )
def ML(l0:List Al)(a1:List An):Option (Af×AD×Int) :=
 bd (GT l0 a1) fun r1 =>
 ite' (!decide (r1=0)) (
  some ((Af.mk false [] []),(AD.mk 0 []),r1)
  ) (
  bd (GL l0 a1 true) fun r2 =>
  some (r2.1,r2.2,0)
  )
def MM(l0:List Al)(a1:List An):Option (Fp×Int) :=
 bd (MK l0 a1) fun r1 =>
 bd (ML l0 a1) fun r2 =>
 ite' (bif (!decide (r1.2.2=0)) then true else(!decide (r2.2.2=0))) (
  some ((Fp.mk (Af.mk false [] []) (Af.mk false [] [])),r1.2.2)
  ) (
  some ((Fp.mk r1.1 r2.1),0)
  )
def GU:Option (Bool):=some true
def Qz(l0:List Al):Int->Option (Int⊕(Unit⊕Bool)):=fun s=>match s with
 |t28 =>
  ite' (decide (t28<(l0.length:Int))) (
   bd (at? l0 t28) fun x1 =>
   ck (!((!(decide (3<x1.Hi)))&&(decide (0<(x1.Table.length:Int))))||As .i64 ((x1.Table.length:Int)-1)) <|
   bd (gd ((!(decide (3<x1.Hi)))&&(decide (0<(x1.Table.length:Int)))) (at? x1.Table ((x1.Table.length:Int)-1))) fun x2 =>
   ite' (bif (decide (3<x1.Hi)) then true else(bif (decide (0<(x1.Table.length:Int))) then(decide (3<x2.Stage)) else false)) (
    bd (GU ) fun r4 =>
    some (.inr (.inr r4))
    ) (
    ck (As .i64 (t28+1)) <|
    some (.inl (t28+1))
    )
   ) (
   some (.inr (.inl ()))
   )
def Q0(r6:(List AD))(a1:List An):(Int×Af×Af)->Option ((Int×Af×Af)⊕((Af×Af)⊕Bool)):=fun s=>match s with
 |(t64,b2,b3) =>
  ite' (decide (t64<(r6.length:Int))) (
   bd (at? r6 t64) fun x3 =>
   bd (GD x3 a1) fun r7 =>
   ite' (!decide (r7.2=0)) (
    some (.inr (.inr false))
    ) (
    bd (α:=Af×Af) (
     ite' (decide (t64=0)) (
      some (r7.1,r7.1)
      ) (
      some (b2,b3)
      )
    )<|fun(b2',b3') =>
     bd (Kq b2' r7.1) fun r8 =>
     bd (Kr b3' r7.1) fun r9 =>
     ck (As .i64 (t64+1)) <|
     some (.inl ((t64+1),r8,r9))
    )
   ) (
   some (.inr (.inl (b2,b3)))
   )
def Q1(l0:List Al)(a1:List An):Option (Bool) :=
 bd (M4 l0 a1 6) fun r1 =>
 bd (gd (!(!r1)) (GT l0 a1)) fun r2 =>
 ite' (bif (!r1) then true else(!decide (r2=0))) (
  bd (GU ) fun r3 =>
  some r3
  ) (
  bd (lp (Qz l0) 0)<|fun o=>match o with
  | .inl ()=>(
    bd (MM l0 a1) fun r5 =>
    bd (M5 l0 4) fun r6 =>
    bd (lp (Q0 r6 a1) (0,(Af.mk false [] []),(Af.mk false [] [])))<|fun o=>match o with
    | .inl (b2,b3)=>(
      bd (GU ) fun r10 =>
      some (bif (bif r10 then(decide (r5.2=0)) else false) then((r5.1.Lo.Neg==b2.Neg)&&(decide (r5.1.Lo.Num=b2.Num)&&(decide (r5.1.Lo.Den=b2.Den)&&((r5.1.Hi.Neg==b3.Neg)&&(decide (r5.1.Hi.Num=b3.Num)&&(decide (r5.1.Hi.Den=b3.Den)&&true)))))) else false)
     )
    | .inr o=>(
      some o
     )
   )
  | .inr o=>(
    some o
   )
  )
end Go.Am

