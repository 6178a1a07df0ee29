/- Part F1: the functions of this seat as functions of plain values. No condition. -/
import Derived.Test.YtbidhbeoimpjbaaGreatDoorX1
set_option linter.unusedVariables false
namespace Go.Am
structure AJ where
 Neg:Bool
 Num:List UInt8
 Den:List UInt8
deriving DecidableEq,Inhabited
structure AC where
 Stage:Int
 Flow:AJ
deriving DecidableEq,Inhabited
structure AG where
 Points:List AC
deriving DecidableEq,Inhabited
structure Ac where
 Kind:Int
 Gauge:Int
 Seq:Int
 Known:Int
 From:Int
 To:Int
 Shift:Int
 Curve:AG
deriving DecidableEq,Inhabited
structure CD where
 e0:Int
 e1:Int
 e2:Int
 e3:Int
deriving DecidableEq,Inhabited
structure Aw where
 From:Int
 To:Int
deriving DecidableEq,Inhabited
structure CE where
 Gauge:Int
 Known:Int
 Ticks:Aw
 Weight:AJ
deriving DecidableEq,Inhabited
structure CO where
 e0:List Ac
 e1:List Ac
 e2:List Ac
deriving DecidableEq,Inhabited
structure AL where
 From:Int
 To:Int
 Weight:AJ
 Datum:Int
 Curve:AG
deriving DecidableEq,Inhabited
structure BJ where
 neg:Bool
 num:List UInt8
 den:List UInt8
deriving DecidableEq,Inhabited
structure FK where
 Q:List UInt8
 R:List UInt8
 E:Int
deriving DecidableEq,Inhabited
structure FL where
 S:List UInt8
 E:Int
deriving DecidableEq,Inhabited
structure CP where
 L:List AL
 E:Int
deriving DecidableEq,Inhabited
structure AZ where
 L:List Ac
 E:Int
deriving DecidableEq,Inhabited
structure CQ where
 V:Ac
 E:Int
deriving DecidableEq,Inhabited
structure CF where
 N:Int
 E:Int
deriving DecidableEq,Inhabited
structure CR where
 L:List Int
 E:Int
deriving DecidableEq,Inhabited
structure BO where
 L:List Aw
 E:Int
deriving DecidableEq,Inhabited
def uS(x y:AJ):Bool:=((x.Neg==y.Neg)&&(decide (x.Num=y.Num)&&(decide (x.Den=y.Den)&&true)))
def uT(x y:AC):Bool:=(decide (x.Stage=y.Stage)&&((x.Flow.Neg==y.Flow.Neg)&&(decide (x.Flow.Num=y.Flow.Num)&&(decide (x.Flow.Den=y.Flow.Den)&&true))))
def uU(x y:CD):Bool:=(decide (x.e0=y.e0)&&(decide (x.e1=y.e1)&&(decide (x.e2=y.e2)&&(decide (x.e3=y.e3)&&true))))
def uV(x y:Aw):Bool:=(decide (x.From=y.From)&&(decide (x.To=y.To)&&true))
def uW(x y:CE):Bool:=(decide (x.Gauge=y.Gauge)&&(decide (x.Known=y.Known)&&(decide (x.Ticks.From=y.Ticks.From)&&(decide (x.Ticks.To=y.Ticks.To)&&((x.Weight.Neg==y.Weight.Neg)&&(decide (x.Weight.Num=y.Weight.Num)&&(decide (x.Weight.Den=y.Weight.Den)&&true)))))))
def uX(x y:BJ):Bool:=((x.neg==y.neg)&&(decide (x.num=y.num)&&(decide (x.den=y.den)&&true)))
def uY(x y:FK):Bool:=(decide (x.Q=y.Q)&&(decide (x.R=y.R)&&(decide (x.E=y.E)&&true)))
def uZ(x y:FL):Bool:=(decide (x.S=y.S)&&(decide (x.E=y.E)&&true))
def u_(x y:CF):Bool:=(decide (x.N=y.N)&&(decide (x.E=y.E)&&true))
def A_:List UInt8:=[0,1,2,2,3,3,3,3,4,4,4,4,4,4,4,4,5,5,5,5,5,5,5,5,5,5,5,5,5,5,5,5,6,6,6,6,6,6,6,6,6,6,6,6,6,6,6,6,6,6,6,6,6,6,6,6,6,6,6,6,6,6,6,6,7,7,7,7,7,7,7,7,7,7,7,7,7,7,7,7,7,7,7,7,7,7,7,7,7,7,7,7,7,7,7,7,7,7,7,7,7,7,7,7,7,7,7,7,7,7,7,7,7,7,7,7,7,7,7,7,7,7,7,7,7,7,7,7,8,8,8,8,8,8,8,8,8,8,8,8,8,8,8,8,8,8,8,8,8,8,8,8,8,8,8,8,8,8,8,8,8,8,8,8,8,8,8,8,8,8,8,8,8,8,8,8,8,8,8,8,8,8,8,8,8,8,8,8,8,8,8,8,8,8,8,8,8,8,8,8,8,8,8,8,8,8,8,8,8,8,8,8,8,8,8,8,8,8,8,8,8,8,8,8,8,8,8,8,8,8,8,8,8,8,8,8,8,8,8,8,8,8,8,8,8,8,8,8,8,8,8,8,8,8,8,8]
def Ba(a:Int):List Int->List Int
 |[]=>[a]
 |b :: l=>bif decide (a<=b) then a :: b :: l else b :: Ba a l
def Bj:List Int->List Int
 |[]=>[]
 |a :: l=>Ba a (Bj l)
def CG(l:List Int):Option (List Int):=ck (decide (l.length<=1000000000)) (some (Bj l))
def I5(l:List Int):Option (List Int):=ck (decide (l.length<=4611686018427387904)) (some l.reverse)
def Gt(l:List Int):Option (List Int):=ck (decide (0<l.length)&&decide (l.length*4<=140737488355328)) (some l)
def Ny(l:List AC):Option (List AC):=ck (decide (0<l.length)&&decide (l.length*48<=140737488355328)) (some l)
def cpA{α:Type}(eq:α->α->Option Bool)(a:α):List α->Option (List α)
 |[]=>some []
 |b :: l=>bd (eq b a) fun q=>bd (cpA eq b l) fun r=>some (bif q then r else b :: r)
def cpF{α:Type}(eq:α->α->Option Bool):List α->Option (List α)
 |[]=>some []
 |a :: l=>bd (cpA eq a l) fun r=>some (a :: r)
def WD(l:List Ac)(eq:Ac->Ac->Option Bool):Option (List Ac):=ck (decide (l.length<=1000000)) (cpF eq l)
def WS(l:List Int):Option (List Int):=ck (decide (l.length<=1000000)) (cpF (fun a b=>some (decide (a=b))) l)
def Wy(l:List (List Ac)):Option (List Ac):=ck (decide (List.length (List.flatten l)<=1000000)&&decide (l.length<=1000000)) (some (List.flatten l))
def QP(ac0:AG):Int->Option (Int⊕(Unit⊕Bool)):=fun s=>match s with
 |k3 =>
  ite' (decide (k3<(ac0.Points.length:Int))) (
   bd (at? ac0.Points k3) fun x1 =>
   bd (gd (!(decide (12<(x1.Flow.Num.length:Int)))) (at? ac0.Points k3)) fun x2 =>
   ite' (bif (decide (12<(x1.Flow.Num.length:Int))) then true else(decide (12<(x2.Flow.Den.length:Int)))) (
    some (.inr (.inr false))
    ) (
    ck (As .i64 (k3+1)) <|
    some (.inl (k3+1))
    )
   ) (
   some (.inr (.inl ()))
   )
def Kj(ac0:AG):Option (Bool) :=
 ite' (decide (20<(ac0.Points.length:Int))) (
  some false
  ) (
  bd (lp (QP ac0) 0)<|fun o=>match o with
  | .inl ()=>(
    some true
   )
  | .inr o=>(
    some o
   )
  )
def TZ(a0:List Int)(b1:List Int):Int->Option (Int⊕(Unit⊕Bool)):=fun s=>match s with
 |k5 =>
  ite' (decide (k5<(a0.length:Int))) (
   bd (at? a0 k5) fun x1 =>
   bd (at? b1 k5) fun x2 =>
   ite' (!decide (x1=x2)) (
    some (.inr (.inr false))
    ) (
    ck (As .i64 (k5+1)) <|
    some (.inl (k5+1))
    )
   ) (
   some (.inr (.inl ()))
   )
def WY(a0:List Int)(b1:List Int):Option (Bool) :=
 ite' (!decide ((a0.length:Int)=(b1.length:Int))) (
  some false
  ) (
  bd (lp (TZ a0 b1) 0)<|fun o=>match o with
  | .inl ()=>(
    some true
   )
  | .inr o=>(
    some o
   )
  )
def vd(a0:List Aw)(b1:List Aw):Int->Option (Int⊕(Unit⊕Bool)):=fun s=>match s with
 |k5 =>
  ite' (decide (k5<(a0.length:Int))) (
   bd (at? a0 k5) fun x1 =>
   bd (at? b1 k5) fun x2 =>
   ite' (!(decide (x1.From=x2.From)&&(decide (x1.To=x2.To)&&true))) (
    some (.inr (.inr false))
    ) (
    ck (As .i64 (k5+1)) <|
    some (.inl (k5+1))
    )
   ) (
   some (.inr (.inl ()))
   )
def WZ(a0:List Aw)(b1:List Aw):Option (Bool) :=
 ite' (!decide ((a0.length:Int)=(b1.length:Int))) (
  some false
  ) (
  bd (lp (vd a0 b1) 0)<|fun o=>match o with
  | .inl ()=>(
    some true
   )
  | .inr o=>(
    some o
   )
  )
def Xa(a0:AG)(b1:AG):Int->Option (Int⊕(Unit⊕Bool)):=fun s=>match s with
 |k5 =>
  ite' (decide (k5<(a0.Points.length:Int))) (
   bd (at? a0.Points k5) fun x1 =>
   bd (at? b1.Points k5) fun x2 =>
   ite' (!(decide (x1.Stage=x2.Stage)&&((x1.Flow.Neg==x2.Flow.Neg)&&(decide (x1.Flow.Num=x2.Flow.Num)&&(decide (x1.Flow.Den=x2.Flow.Den)&&true))))) (
    some (.inr (.inr false))
    ) (
    ck (As .i64 (k5+1)) <|
    some (.inl (k5+1))
    )
   ) (
   some (.inr (.inl ()))
   )
def Hs(a0:AG)(b1:AG):Option (Bool) :=
 ite' (!decide ((a0.Points.length:Int)=(b1.Points.length:Int))) (
  some false
  ) (
  bd (lp (Xa a0 b1) 0)<|fun o=>match o with
  | .inl ()=>(
    some true
   )
  | .inr o=>(
    some o
   )
  )
def QQ(ai:Ac->Ac->Option Int)(az:Ac)(ax0:List Ac):(Int×Int)->Option ((Int×Int)⊕Int):=fun s=>match s with
 |(i9,j10) =>
  ite' (decide (i9<j10)) (
   ck (As .i64 (i9+j10)) <|
   ck (As .i64 (Int.fdiv ((i9+j10)%18446744073709551616) 2)) <|
   bd (at? ax0 (Int.fdiv ((i9+j10)%18446744073709551616) 2)) fun x1 =>
   bd (ai x1 az) fun r1 =>
   ite' (decide (r1<0)) (
    ck (As .i64 ((Int.fdiv ((i9+j10)%18446744073709551616) 2)+1)) <|
    some (.inl (((Int.fdiv ((i9+j10)%18446744073709551616) 2)+1),j10))
    ) (
    some (.inl (i9,(Int.fdiv ((i9+j10)%18446744073709551616) 2)))
    )
   ) (
   some (.inr i9)
   )
def I8(ax0:List Ac)(az:Ac)(ai:Ac->Ac->Option Int):Option (Int×Bool) :=
 bd (lp (QQ ai az ax0) (0,(ax0.length:Int)))<|fun i9 =>
 bd (gd (decide (i9<(ax0.length:Int))) (at? ax0 i9)) fun x2 =>
 bd (gd (decide (i9<(ax0.length:Int))) (ai x2 az)) fun r2 =>
 some (i9,(bif (decide (i9<(ax0.length:Int))) then(decide (r2=0)) else false))
def Kk(b9:Int)(ax:Int):Option (Int) :=
 ite' (bif (bif (bif (decide (b9<0)) then true else(decide (1402560<=b9))) then true else(decide (ax<0))) then true else(decide (14609<ax))) (
  some 3
  ) (
  some 0
  )
def QR(ac:Int)(ab:Int)(a9:Int)(l0:List Ac)(aa:Int):((Option Ac)×Int)->Option (((Option Ac)×Int)⊕(Option Ac)):=fun s=>match s with
 |(ag,t16) =>
  ite' (decide (t16<(l0.length:Int))) (
   bd (at? l0 t16) fun x1 =>
   bd (α:=Unit⊕Unit) (
    ite' (bif (bif (bif (bif (!decide (x1.Kind=ab)) then true else(!decide (x1.Gauge=ac))) then true else(decide (a9<x1.Known))) then true else(decide (aa<x1.From))) then true else(decide (x1.To<=aa))) (
     some (.inr ())
     ) (
     some (.inl ())
     )
   )<|fun o=>match o with
    | .inl ()=>(
      bd (gd (!(!(Option.isSome ag))) (ag)) fun x2 =>
      bd (gd (!(bif (!(Option.isSome ag)) then true else(decide (x2.Known<x1.Known)))) (ag)) fun x3 =>
      bd (gd ((!(bif (!(Option.isSome ag)) then true else(decide (x2.Known<x1.Known))))&&(decide (x1.Known=x3.Known))) (ag)) fun x4 =>
      ite' (bif (bif (!(Option.isSome ag)) then true else(decide (x2.Known<x1.Known))) then true else(bif (decide (x1.Known=x3.Known)) then(decide (x4.Seq<x1.Seq)) else false)) (
       ck (As .i64 (t16+1)) <|
       some (.inl ((some x1),(t16+1)))
       ) (
       ck (As .i64 (t16+1)) <|
       some (.inl (ag,(t16+1)))
       )
     )
    | .inr ()=>(
      ck (As .i64 (t16+1)) <|
      some (.inl (ag,(t16+1)))
     )
   ) (
   some (.inr ag)
   )
def Gu(l0:List Ac)(ab:Int)(ac:Int)(aa:Int)(a9:Int):Option ((Option Ac)) :=
 bd (lp (QR ac ab a9 l0 aa) (none,0))<|fun ag =>
 some ag
def T_(b9:Int)(ax:Int):Option (Int) :=
 ite' (bif (bif (bif (decide (b9<0)) then true else(decide (1402560<=b9))) then true else(decide (ax<0))) then true else(decide (14609<ax))) (
  some 3
  ) (
  some 0
  )
def QS(ac:Int)(ab:Int)(a9:Int)(l0:List Ac)(aa:Int):(Int×Int)->Option ((Int×Int)⊕Int):=fun s=>match s with
 |(b4,k12) =>
  ite' (decide (k12<(l0.length:Int))) (
   bd (at? l0 k12) fun x1 =>
   bd (gd ((bif (bif (bif (bif (decide (x1.Kind=ab)) then(decide (x1.Gauge=ac)) else false) then(decide (x1.Known<=a9)) else false) then(decide (x1.From<=aa)) else false) then(decide (aa<x1.To)) else false)&&(!(decide (b4<0)))) (at? l0 (max 0 b4))) fun x2 =>
   ite' (bif (bif (bif (bif (bif (decide (x1.Kind=ab)) then(decide (x1.Gauge=ac)) else false) then(decide (x1.Known<=a9)) else false) then(decide (x1.From<=aa)) else false) then(decide (aa<x1.To)) else false) then(bif (decide (b4<0)) then true else(decide (x2.Known<=x1.Known))) else false) (
    ck (As .i64 (k12+1)) <|
    some (.inl (k12,(k12+1)))
    ) (
    ck (As .i64 (k12+1)) <|
    some (.inl (b4,(k12+1)))
    )
   ) (
   some (.inr b4)
   )
def N2(l0:List Ac)(ab:Int)(ac:Int)(aa:Int)(a9:Int):Option (Int) :=
 bd (lp (QS ac ab a9 l0 aa) ((-1),0))<|fun b4 =>
 some b4
def QT(l0:List Ac)(ab:Int)(ac:Int)(aa:Int)(a9:Int):Option (Int) :=
 bd (Gu l0 ab ac aa a9) fun r1 =>
 ite' (Option.isSome r1) (
  bd (r1) fun x1 =>
  some x1.Shift
  ) (
  some 0
  )
def Kl(a0:Ac)(b1:Ac):Option (Bool) :=
 some (bif (decide (a0.Gauge<b1.Gauge)) then true else(bif (decide (a0.Gauge=b1.Gauge)) then(decide (a0.Seq<b1.Seq)) else false))
def yzy(n0:Int):Option (Bool) :=
 some (bif (decide ((-999999999999999)<=n0)) then(decide (n0<=999999999999999)) else false)
def QX(bh:Int):Option (Bool) :=
 some (bif (decide ((-1000)<=bh)) then(decide (bh<=2000)) else false)
def Ko(a0:List UInt8):Option (Bool) :=
 ck (!(!(decide (a0=[])))||(CH a0 0)) <|
 some (bif (decide (a0=[])) then true else(!decide ((Dj a0 0)=0)))
def QY(c0:List Int)(st:List Aw->Option Bool):(Int×(List Aw))->Option ((Int×(List Aw))⊕((List Aw)⊕(List Aw))):=fun s=>match s with
 |(k3,ys) =>
  ite' (decide (k3<(c0.length:Int))) (
   ck (As .i64 (k3-1)) <|
   bd (at? c0 (k3-1)) fun x1 =>
   bd (at? c0 k3) fun x2 =>
   bd (st (ys++[(Aw.mk x1 x2)])) fun s1 =>
   ite' s1 (
    some (.inr (.inr (ys++[(Aw.mk x1 x2)])))
    ) (
    ck (As .i64 (k3+1)) <|
    some (.inl ((k3+1),(ys++[(Aw.mk x1 x2)])))
    )
   ) (
   some (.inr (.inl ys))
   )
def Kp(c0:List Int)(st:List Aw->Option Bool):Option (List Aw) :=
 bd (lp (QY c0 st) (1,[]))<|fun o=>match o with
 | .inl ys=>(
   some ys
  )
 | .inr o=>(
   some o
  )
def yzi(ba:List AC)(bg:List AC):Int->Option (Int⊕(Unit⊕Bool)):=fun s=>match s with
 |t13 =>
  ite' (decide (t13<(ba.length:Int))) (
   bd (at? ba t13) fun x1 =>
   bd (at? bg t13) fun x2 =>
   ite' (!(decide (x1.Stage=x2.Stage)&&((x1.Flow.Neg==x2.Flow.Neg)&&(decide (x1.Flow.Num=x2.Flow.Num)&&(decide (x1.Flow.Den=x2.Flow.Den)&&true))))) (
    some (.inr (.inr false))
    ) (
    ck (As .i64 (t13+1)) <|
    some (.inl (t13+1))
    )
   ) (
   some (.inr (.inl ()))
   )
def QZ(ba:List AC)(bg:List AC):Option (Bool) :=
 ite' (!decide ((ba.length:Int)=(bg.length:Int))) (
  some false
  ) (
  bd (lp (yzi ba bg) 0)<|fun o=>match o with
  | .inl ()=>(
    some true
   )
  | .inr o=>(
    some o
   )
  )
def I9(ax0:Int):Option (Bool) :=
 some (!decide (ax0=ax0))
def Px(a1:Int)(bc:Ac->Ac->Option Int):(Int×(List Ac))->Option ((Int×(List Ac))⊕(List Ac)):=fun s=>match s with
 |(j9,a2') =>
  bd (gd (decide (a1<j9)) (at? a2' j9)) fun x1 =>
  ck (!(decide (a1<j9))||As .i64 (j9-1)) <|
  bd (gd (decide (a1<j9)) (at? a2' (j9-1))) fun x2 =>
  bd (gd (decide (a1<j9)) (bc x1 x2)) fun r1 =>
  ite' (bif (decide (a1<j9)) then(decide (r1<0)) else false) (
   ck (As .i64 (j9-1)) <|
   ck (As .i64 (j9-1)) <|
   bd (at? a2' (j9-1)) fun x3 =>
   bd (at? a2' j9) fun x4 =>
   bd (at? a2' j9) fun x5 =>
   bd (at? (List.set a2' (Int.toNat j9) x3) (j9-1)) fun x6 =>
   ck (As .i64 (j9-1)) <|
   some (.inl ((j9-1),(List.set (List.set a2' (Int.toNat j9) x3) (Int.toNat (j9-1)) x4)))
   ) (
   some (.inr a2')
   )
def Py(a1:Int)(b2:Int)(bc:Ac->Ac->Option Int):(Int×(List Ac))->Option ((Int×(List Ac))⊕(List Ac)):=fun s=>match s with
 |(i8,a2) =>
  ite' (decide (i8<b2)) (
   bd (lp (Px a1 bc) (i8,a2))<|fun a2' =>
   ck (As .i64 (i8+1)) <|
   some (.inl ((i8+1),a2'))
   ) (
   some (.inr a2)
   )
def Ra(a8:List Ac)(a1:Int)(b2:Int)(bc:Ac->Ac->Option Int):Option (List Ac) :=
 ck (As .i64 (a1+1)) <|
 bd (lp (Py a1 b2 bc) ((a1+1),a8))<|fun a2 =>
 some a2
def ve(ax0:Int):Option (Int) :=
 bd (α:=Int×Int) (
  ite' (decide (65536<=ax0)) (
   some ((Int.fdiv ax0 65536),16)
   ) (
   some (ax0,0)
   )
 )<|fun(x0,n2) =>
  ite' (decide (256<=x0)) (
   ck (As .i64 (n2+8)) <|
   ck (CH A_ ((Int.fdiv x0 256)%256)) <|
   ck (As .i64 (Dj A_ ((Int.fdiv x0 256)%256))) <|
   ck (As .i64 ((n2+8)+(Dj A_ ((Int.fdiv x0 256)%256)))) <|
   some ((n2+8)+(Dj A_ ((Int.fdiv x0 256)%256)))
   ) (
   ck (CH A_ (x0%256)) <|
   ck (As .i64 (Dj A_ (x0%256))) <|
   ck (As .i64 (n2+(Dj A_ (x0%256)))) <|
   some (n2+(Dj A_ (x0%256)))
   )
def jR(ax0:Int):Option (Int) :=
 bd (α:=Int×Int) (
  ite' (decide (4294967296<=ax0)) (
   some ((Int.fdiv ax0 4294967296),32)
   ) (
   some (ax0,0)
   )
 )<|fun(x0,n2) =>
  bd (α:=Int×Int) (
   ite' (decide (65536<=x0)) (
    ck (As .i64 (n2+16)) <|
    some ((Int.fdiv x0 65536),(n2+16))
    ) (
    some (x0,n2)
    )
  )<|fun(x0',n2') =>
   ite' (decide (256<=x0')) (
    ck (As .i64 (n2'+8)) <|
    ck (CH A_ ((Int.fdiv x0' 256)%256)) <|
    ck (As .i64 (Dj A_ ((Int.fdiv x0' 256)%256))) <|
    ck (As .i64 ((n2'+8)+(Dj A_ ((Int.fdiv x0' 256)%256)))) <|
    some ((n2'+8)+(Dj A_ ((Int.fdiv x0' 256)%256)))
    ) (
    ck (CH A_ (x0'%256)) <|
    ck (As .i64 (Dj A_ (x0'%256))) <|
    ck (As .i64 (n2'+(Dj A_ (x0'%256)))) <|
    some (n2'+(Dj A_ (x0'%256)))
    )
def Rb(a0:List UInt8):Int->Option (Int⊕Int):=fun s=>match s with
 |k3 =>
  ck (!(decide (k3<(a0.length:Int)))||(CH a0 k3)) <|
  ite' (bif (decide (k3<(a0.length:Int))) then(decide ((Dj a0 k3)=0)) else false) (
   ck (As .i64 (k3+1)) <|
   some (.inl (k3+1))
   ) (
   some (.inr k3)
   )
def DV(a0:List UInt8):Option ((List UInt8)) :=
 bd (lp (Rb a0) 0)<|fun k3 =>
 ck (El a0 k3 (a0.length:Int)) <|
 some (sub a0 k3 (a0.length:Int))
def vf :(List Int)->Option ((List Int)⊕(List Int)):=fun s=>match s with
 |x0 =>
  ck (!(decide (0<(x0.length:Int)))||As .i64 ((x0.length:Int)-1)) <|
  bd (gd (decide (0<(x0.length:Int))) (at? x0 ((x0.length:Int)-1))) fun x1 =>
  ite' (bif (decide (0<(x0.length:Int))) then(decide (x1=0)) else false) (
   ck (As .i64 ((x0.length:Int)-1)) <|
   ck (El x0 0 ((x0.length:Int)-1)) <|
   some (.inl (sub x0 0 ((x0.length:Int)-1)))
   ) (
   some (.inr x0)
   )
def Ht(ax0:List Int):Option ((List Int)) :=
 bd (lp (vf) ax0)<|fun x0 =>
 some x0
def vg(by1:Int)(ax0:List Int):(Int×Int×(List Int))->Option ((Int×Int×(List Int))⊕(Int×(List Int))):=fun s=>match s with
 |(b7,k8,l0) =>
  ite' (decide (0<=k8)) (
   bd (at? ax0 k8) fun x1 =>
   ck (!decide ((by1%18446744073709551616)=0)) <|
   ck (!decide ((by1%18446744073709551616)=0)) <|
   bd (at? l0 k8) fun x2 =>
   ck (As .i64 (k8-1)) <|
   some (.inl (((bitI .or .u64 ((b7*4294967296)%18446744073709551616) (x1%18446744073709551616)).tmod (by1%18446744073709551616)),(k8-1),(List.set l0 (Int.toNat k8) ((((bitI .or .u64 ((b7*4294967296)%18446744073709551616) (x1%18446744073709551616)).tdiv (by1%18446744073709551616))%18446744073709551616)%4294967296))))
   ) (
   some (.inr (b7,l0))
   )
def Uu(ax0:List Int)(by1:Int):Option ((List Int)×Int) :=
 ck (mkOk (ax0.length:Int) 4) <|
 ck (As .i64 ((ax0.length:Int)-1)) <|
 bd (lp (vg by1 ax0) (0,((ax0.length:Int)-1),(List.replicate (Int.toNat (ax0.length:Int)) 0)))<|fun(b7,l0) =>
 bd (Ht l0) fun r1 =>
 some (r1,(b7%4294967296))
def Kq(a0:List UInt8)(b1:List UInt8):Option (Int) :=
 bd (DV a0) fun r1 =>
 bd (DV b1) fun r2 =>
 ite' (decide (r1=r2)) (
  some 0
  ) (
  ite' (bif (decide ((r1.length:Int)<(r2.length:Int))) then true else(bif (decide ((r1.length:Int)=(r2.length:Int))) then(Op.bytesLess r1 r2) else false)) (
   some (-1)
   ) (
   some 1
   )
  )
def Uh(a1:Int)(b2:Int)(n3:Int):(Int×(List Ac))->Option ((Int×(List Ac))⊕(List Ac)):=fun s=>match s with
 |(i10,a2) =>
  ite' (decide (i10<n3)) (
   ck (As .i64 (a1+i10)) <|
   ck (As .i64 (b2+i10)) <|
   ck (As .i64 (b2+i10)) <|
   bd (at? a2 (b2+i10)) fun x1 =>
   ck (As .i64 (a1+i10)) <|
   bd (at? a2 (a1+i10)) fun x2 =>
   bd (at? a2 (a1+i10)) fun x3 =>
   bd (at? (List.set a2 (Int.toNat (a1+i10)) x1) (b2+i10)) fun x4 =>
   ck (As .i64 (i10+1)) <|
   some (.inl ((i10+1),(List.set (List.set a2 (Int.toNat (a1+i10)) x1) (Int.toNat (b2+i10)) x2)))
   ) (
   some (.inr a2)
   )
def N3(a8:List Ac)(a1:Int)(b2:Int)(n3:Int)(ae:Ac->Ac->Option Int):Option (List Ac) :=
 bd (lp (Uh a1 b2 n3) (0,a8))<|fun a2 =>
 some a2
def N4(a0:AJ):Option ((List UInt8)×(List UInt8)) :=
 ite' (decide (a0.Num=[])) (
  some ([],[1])
  ) (
  some (a0.Num,a0.Den)
  )
def Rc(ax0:List Int)(k1:Int):Option (Int) :=
 ite' (decide (k1<(ax0.length:Int))) (
  bd (at? ax0 k1) fun x1 =>
  some (x1%18446744073709551616)
  ) (
  some 0
  )
def Gv(a0:List UInt8)(k1:Int):Option (Int) :=
 ite' (decide ((a0.length:Int)<=k1)) (
  some 0
  ) (
  ck (As .i64 ((a0.length:Int)-1)) <|
  ck (As .i64 (((a0.length:Int)-1)-k1)) <|
  ck (CH a0 (((a0.length:Int)-1)-k1)) <|
  ck (As .i64 (Dj a0 (((a0.length:Int)-1)-k1))) <|
  some (Dj a0 (((a0.length:Int)-1)-k1))
  )
def Rd(l0:List Int):(Int×(List Int))->Option ((Int×(List Int))⊕(List Int)):=fun s=>match s with
 |(k4,l1) =>
  ite' (decide (0<=k4)) (
   bd (at? l0 k4) fun x1 =>
   ck (decide (List.length (l1++[(x1%256)])*1<=140737488355328)) <|
   ck (As .i64 (k4-1)) <|
   some (.inl ((k4-1),(l1++[(x1%256)])))
   ) (
   some (.inr l1)
   )
def Kr(l0:List Int):Option ((List UInt8)) :=
 ck (As .i64 ((l0.length:Int)-1)) <|
 bd (lp (Rd l0) (((l0.length:Int)-1),[]))<|fun l1 =>
 bd (DV (CS l1)) fun r1 =>
 some r1
def vh(ax0:List Int)(y1:List Int):(Int×Int×(List Int))->Option ((Int×Int×(List Int))⊕(List Int)):=fun s=>match s with
 |(aj,t15,l1) =>
  ite' (decide (t15<((max (ax0.length:Int) (y1.length:Int))+1))) (
   bd (Rc ax0 t15) fun r1 =>
   bd (Rc y1 t15) fun r2 =>
   ck (decide (List.length (l1++[(((((r1+r2)%18446744073709551616)+aj)%18446744073709551616)%4294967296)])*4<=140737488355328)) <|
   ck (As .i64 (t15+1)) <|
   some (.inl ((Int.fdiv ((((r1+r2)%18446744073709551616)+aj)%18446744073709551616) 4294967296),(t15+1),(l1++[(((((r1+r2)%18446744073709551616)+aj)%18446744073709551616)%4294967296)])))
   ) (
   some (.inr l1)
   )
def Xb(ax0:List Int)(y1:List Int):Option ((List Int)) :=
 ck (As .i64 ((max (ax0.length:Int) (y1.length:Int))+1)) <|
 bd (lp (vh ax0 y1) (0,0,[]))<|fun l1 =>
 bd (Ht l1) fun r3 =>
 some r3
def Ks(ax0:Int):Option (Bool) :=
 some (!decide (ax0=ax0))
def vi(ac1:Int):(List UInt8)->Option ((List UInt8)⊕(List UInt8)):=fun s=>match s with
 |s0 =>
  ck (!(decide (0<(s0.length:Int)))||(CH s0 0)) <|
  ite' (bif (decide (0<(s0.length:Int))) then(decide ((Dj s0 0)=ac1)) else false) (
   ck (El s0 1 (s0.length:Int)) <|
   some (.inl (sub s0 1 (s0.length:Int)))
   ) (
   some (.inr s0)
   )
def qW(as0:List UInt8)(ac1:Int):Option ((List UInt8)) :=
 bd (lp (vi ac1) as0)<|fun s0 =>
 some s0
def Re(l0:List Ac):Int->Option (Int⊕(Unit⊕Bool)):=fun s=>match s with
 |k5 =>
  ite' (decide (k5<(l0.length:Int))) (
   bd (at? l0 k5) fun x1 =>
   bd (Kj x1.Curve) fun r1 =>
   ite' (!r1) (
    some (.inr (.inr false))
    ) (
    ck (As .i64 (k5+1)) <|
    some (.inl (k5+1))
    )
   ) (
   some (.inr (.inl ()))
   )
def N5(l0:List Ac)(bp:Int):Option (Bool) :=
 ite' (bif (bif (decide (bp<(l0.length:Int))) then(decide ((l0.length:Int)<=400)) else false) then true else(decide (410<(l0.length:Int)))) (
  some false
  ) (
  bd (lp (Re l0) 0)<|fun o=>match o with
  | .inl ()=>(
    some true
   )
  | .inr o=>(
    some o
   )
  )
def Kt(a0:Ac)(b1:Ac):Option (Bool) :=
 bd (Hs a0.Curve b1.Curve) fun r1 =>
 some (bif (bif (bif (bif (bif (bif (bif r1 then(decide (a0.Kind=b1.Kind)) else false) then(decide (a0.Gauge=b1.Gauge)) else false) then(decide (a0.Seq=b1.Seq)) else false) then(decide (a0.Known=b1.Known)) else false) then(decide (a0.From=b1.From)) else false) then(decide (a0.To=b1.To)) else false) then(decide (a0.Shift=b1.Shift)) else false)
def vj(a0:List AL)(b1:List AL):Int->Option (Int⊕(Unit⊕Bool)):=fun s=>match s with
 |k5 =>
  ite' (decide (k5<(a0.length:Int))) (
   bd (at? a0 k5) fun x1 =>
   bd (at? b1 k5) fun x2 =>
   bd (Hs x1.Curve x2.Curve) fun r1 =>
   bd (gd (!(!r1)) (at? a0 k5)) fun x3 =>
   bd (gd (!(!r1)) (at? b1 k5)) fun x4 =>
   bd (gd (!(bif (!r1) then true else(!decide (x3.From=x4.From)))) (at? a0 k5)) fun x5 =>
   bd (gd (!(bif (!r1) then true else(!decide (x3.From=x4.From)))) (at? b1 k5)) fun x6 =>
   bd (gd (!(bif (bif (!r1) then true else(!decide (x3.From=x4.From))) then true else(!decide (x5.To=x6.To)))) (at? a0 k5)) fun x7 =>
   bd (gd (!(bif (bif (!r1) then true else(!decide (x3.From=x4.From))) then true else(!decide (x5.To=x6.To)))) (at? b1 k5)) fun x8 =>
   bd (gd (!(bif (bif (bif (!r1) then true else(!decide (x3.From=x4.From))) then true else(!decide (x5.To=x6.To))) then true else(!((x7.Weight.Neg==x8.Weight.Neg)&&(decide (x7.Weight.Num=x8.Weight.Num)&&(decide (x7.Weight.Den=x8.Weight.Den)&&true)))))) (at? a0 k5)) fun x9 =>
   bd (gd (!(bif (bif (bif (!r1) then true else(!decide (x3.From=x4.From))) then true else(!decide (x5.To=x6.To))) then true else(!((x7.Weight.Neg==x8.Weight.Neg)&&(decide (x7.Weight.Num=x8.Weight.Num)&&(decide (x7.Weight.Den=x8.Weight.Den)&&true)))))) (at? b1 k5)) fun x10 =>
   ite' (bif (bif (bif (bif (!r1) then true else(!decide (x3.From=x4.From))) then true else(!decide (x5.To=x6.To))) then true else(!((x7.Weight.Neg==x8.Weight.Neg)&&(decide (x7.Weight.Num=x8.Weight.Num)&&(decide (x7.Weight.Den=x8.Weight.Den)&&true))))) then true else(!decide (x9.Datum=x10.Datum))) (
    some (.inr (.inr false))
    ) (
    ck (As .i64 (k5+1)) <|
    some (.inl (k5+1))
    )
   ) (
   some (.inr (.inl ()))
   )
def Rf(a0:List AL)(b1:List AL):Option (Bool) :=
 ite' (!decide ((a0.length:Int)=(b1.length:Int))) (
  some false
  ) (
  bd (lp (vj a0 b1) 0)<|fun o=>match o with
  | .inl ()=>(
    some true
   )
  | .inr o=>(
    some o
   )
  )
def Rg(l0:List Ac)(v1:Ac):(Bool×Int×(List Ac))->Option ((Bool×Int×(List Ac))⊕(Bool×(List Ac))):=fun s=>match s with
 |(av,k7,l2) =>
  ite' (decide (k7<(l0.length:Int))) (
   bd (at? l0 k7) fun x1 =>
   bd (Kl v1 x1) fun r1 =>
   bd (at? l0 k7) fun x2 =>
   bd (Kl x2 v1) fun r2 =>
   bd (α:=Bool×(List Ac)) (
    ite' (bif (!av) then(!r2) else false) (
     ck (decide (List.length (l2++[v1])*80<=140737488355328)) <|
     some (true,(l2++[v1]))
     ) (
     some (av,l2)
     )
   )<|fun(av',l2') =>
    ite' (bif r1 then true else r2) (
     bd (at? l0 k7) fun x3 =>
     ck (decide (List.length (l2'++[x3])*80<=140737488355328)) <|
     ck (As .i64 (k7+1)) <|
     some (.inl (av',(k7+1),(l2'++[x3])))
     ) (
     ck (As .i64 (k7+1)) <|
     some (.inl (av',(k7+1),l2'))
     )
   ) (
   some (.inr (av,l2))
   )
def Rh(l0:List Ac)(v1:Ac):Option ((List Ac)) :=
 bd (lp (Rg l0 v1) (false,0,[]))<|fun(av,l2) =>
 ite' (!av) (
  ck (decide (List.length (l2++[v1])*80<=140737488355328)) <|
  some (l2++[v1])
  ) (
  some l2
  )
def D5(a6:Int)(t2:Aw)(x1:Ac):(Int×(List (Int×Bool)))->Option ((Int×(List (Int×Bool)))⊕(List (Int×Bool))):=fun s=>match s with
 |(t32,m1') =>
  ite' (decide (t32<(List.length [x1.From,x1.To]:Int))) (
   bd (at? [x1.From,x1.To] t32) fun x2 =>
   ite' (bif (bif (decide (x1.Gauge=a6)) then(decide (t2.From<x2)) else false) then(decide (x2<t2.To)) else false) (
    ck (As .i64 (t32+1)) <|
    some (.inl ((t32+1),(mput keqI m1' x2 true)))
    ) (
    ck (As .i64 (t32+1)) <|
    some (.inl ((t32+1),m1'))
    )
   ) (
   some (.inr m1')
   )
def Er(a6:Int)(l0:List Ac)(t2:Aw):(Int×(List (Int×Bool)))->Option ((Int×(List (Int×Bool)))⊕(List (Int×Bool))):=fun s=>match s with
 |(t22,m1) =>
  ite' (decide (t22<(l0.length:Int))) (
   bd (at? l0 t22) fun x1 =>
   bd (lp (D5 a6 t2 x1) (0,m1))<|fun m1' =>
   ck (As .i64 (t22+1)) <|
   some (.inl ((t22+1),m1'))
   ) (
   some (.inr m1)
   )
def Hu(l0:List Ac)(a6:Int)(t2:Aw):Option ((List Int)) :=
 bd (lp (Er a6 l0 t2) (0,(mput keqI (mput keqI ([]:List (Int×Bool)) t2.From true) t2.To true)))<|fun m1 =>
 bd (CG (List.map (fun p=>p.1) m1)) fun r1 =>
 some r1
def Hv(a0:AG)(b1:AG):Option (Bool) :=
 bd (QZ a0.Points b1.Points) fun r1 =>
 some r1
def Gw(ax0:Int)(y1:Int):Option (Int) :=
 bd (I9 ax0) fun r1 =>
 bd (I9 y1) fun r2 =>
 ite' r1 (
  ite' r2 (
   some 0
   ) (
   some (-1)
   )
  ) (
  ite' r2 (
   some 1
   ) (
   ite' (decide (ax0<y1)) (
    some (-1)
    ) (
    ite' (decide (y1<ax0)) (
     some 1
     ) (
     some 0
     )
    )
   )
  )
def uy(ax0:Int):Option (Int) :=
 bd (jR ax0) fun r1 =>
 some r1
def N6(a0:List UInt8):Option (Bool) :=
 bd (DV a0) fun r1 =>
 some (decide (a0=r1))
def Ri(a0:List UInt8)(aq:Int):(Int×Int)->Option ((Int×Int)⊕Int):=fun s=>match s with
 |(aw,t22) =>
  ite' (decide (t22<(List.length (bytes (sub a0 (max 0 (aq-4)) aq)):Int))) (
   bd (at? (bytes (sub a0 (max 0 (aq-4)) aq)) t22) fun x1 =>
   ck (As .i64 (t22+1)) <|
   some (.inl ((bitI .or .u32 ((aw*256)%4294967296) (x1%4294967296)),(t22+1)))
   ) (
   some (.inr aw)
   )
def Rj(a0:List UInt8):(Int×(List Int))->Option ((Int×(List Int))⊕(List Int)):=fun s=>match s with
 |(aq,l2) =>
  ite' (decide (0<aq)) (
   ck (As .i64 (aq-4)) <|
   ck (El a0 (max 0 (aq-4)) aq) <|
   bd (lp (Ri a0 aq) (0,0))<|fun aw =>
   ck (decide (List.length (l2++[aw])*4<=140737488355328)) <|
   ck (As .i64 (aq-4)) <|
   some (.inl ((aq-4),(l2++[aw])))
   ) (
   some (.inr l2)
   )
def GO(a0:List UInt8):Option ((List Int)) :=
 bd (lp (Rj a0) ((a0.length:Int),[]))<|fun l2 =>
 bd (Ht l2) fun r1 =>
 some r1
def Ui(ae:Ac->Ac->Option Int)(m2:Int):(Int×Int×(List Ac))->Option ((Int×Int×(List Ac))⊕(Int×(List Ac))):=fun s=>match s with
 |(i10,j11,a2) =>
  ite' (!decide (i10=j11)) (
   ite' (decide (j11<i10)) (
    ck (As .i64 (m2-i10)) <|
    bd (N3 a2 (m2-i10) m2 j11 ae) fun r1 =>
    ck (As .i64 (i10-j11)) <|
    some (.inl ((i10-j11),j11,r1))
    ) (
    ck (As .i64 (m2-i10)) <|
    ck (As .i64 (m2+j11)) <|
    ck (As .i64 ((m2+j11)-i10)) <|
    bd (N3 a2 (m2-i10) ((m2+j11)-i10) i10 ae) fun r2 =>
    ck (As .i64 (j11-i10)) <|
    some (.inl (i10,(j11-i10),r2))
    )
   ) (
   some (.inr (i10,a2))
   )
def Xc(a8:List Ac)(a1:Int)(m2:Int)(b3:Int)(ae:Ac->Ac->Option Int):Option (List Ac) :=
 ck (As .i64 (m2-a1)) <|
 ck (As .i64 (b3-m2)) <|
 bd (lp (Ui ae m2) ((m2-a1),(b3-m2),a8))<|fun(i10,a2) =>
 ck (As .i64 (m2-i10)) <|
 bd (N3 a2 (m2-i10) m2 i10 ae) fun r3 =>
 some r3
def qX(t20:Int)(x1:Int)(y1:List Int):(Int×Int×(List Int))->Option ((Int×Int×(List Int))⊕(List Int)):=fun s=>match s with
 |(bb,k9,l0') =>
  ite' (bif (decide (k9<(y1.length:Int))) then true else(decide (0<bb))) (
   bd (Rc y1 k9) fun r1 =>
   ck (As .i64 (t20+k9)) <|
   bd (at? l0' (t20+k9)) fun x2 =>
   ck (As .i64 (t20+k9)) <|
   bd (at? l0' (t20+k9)) fun x3 =>
   ck (As .i64 (k9+1)) <|
   some (.inl ((Int.fdiv (((((((x1%18446744073709551616)*r1)%18446744073709551616)+(x2%18446744073709551616))%18446744073709551616)+bb)%18446744073709551616) 4294967296),(k9+1),(List.set l0' (Int.toNat (t20+k9)) ((((((((x1%18446744073709551616)*r1)%18446744073709551616)+(x2%18446744073709551616))%18446744073709551616)+bb)%18446744073709551616)%4294967296))))
   ) (
   some (.inr l0')
   )
def vm(ax0:List Int)(y1:List Int):(Int×(List Int))->Option ((Int×(List Int))⊕(List Int)):=fun s=>match s with
 |(t20,l0) =>
  ite' (decide (t20<(ax0.length:Int))) (
   bd (at? ax0 t20) fun x1 =>
   bd (lp (qX t20 x1 y1) (0,0,l0))<|fun l0' =>
   ck (As .i64 (t20+1)) <|
   some (.inl ((t20+1),l0'))
   ) (
   some (.inr l0)
   )
def Rk(ax0:List Int)(y1:List Int):Option ((List Int)) :=
 ck (As .i64 ((ax0.length:Int)+(y1.length:Int))) <|
 ck (As .i64 (((ax0.length:Int)+(y1.length:Int))+1)) <|
 ck (mkOk (((ax0.length:Int)+(y1.length:Int))+1) 4) <|
 bd (lp (vm ax0 y1) (0,(List.replicate (Int.toNat (((ax0.length:Int)+(y1.length:Int))+1)) 0)))<|fun l0 =>
 bd (Ht l0) fun r2 =>
 some r2
def vn(ax0:List Int)(y1:List Int):(Int×Int×(List Int))->Option ((Int×Int×(List Int))⊕(List Int)):=fun s=>match s with
 |(af,t11,l1) =>
  ite' (decide (t11<(ax0.length:Int))) (
   bd (at? ax0 t11) fun x1 =>
   bd (Rc y1 t11) fun r1 =>
   ck (decide (List.length (l1++[((((((x1%18446744073709551616)-r1)%18446744073709551616)-af)%18446744073709551616)%4294967296)])*4<=140737488355328)) <|
   ck (As .i64 (t11+1)) <|
   some (.inl ((Int.fdiv (((((x1%18446744073709551616)-r1)%18446744073709551616)-af)%18446744073709551616) 9223372036854775808),(t11+1),(l1++[((((((x1%18446744073709551616)-r1)%18446744073709551616)-af)%18446744073709551616)%4294967296)])))
   ) (
   some (.inr l1)
   )
def Rl(ax0:List Int)(y1:List Int):Option ((List Int)) :=
 bd (lp (vn ax0 y1) (0,0,[]))<|fun l1 =>
 bd (Ht l1) fun r2 =>
 some r2
def Rm(a0:List UInt8)(b1:List UInt8):(Int×Int×(List Int))->Option ((Int×Int×(List Int))⊕(List Int)):=fun s=>match s with
 |(af,k7,l2) =>
  ite' (decide (k7<(a0.length:Int))) (
   bd (Gv a0 k7) fun r2 =>
   bd (Gv b1 k7) fun r3 =>
   ck (As .i64 (r2-r3)) <|
   ck (As .i64 ((r2-r3)-af)) <|
   bd (α:=Int×Int) (
    ite' (decide (((r2-r3)-af)<0)) (
     ck (As .i64 (((r2-r3)-af)+256)) <|
     some (1,(((r2-r3)-af)+256))
     ) (
     some (0,((r2-r3)-af))
     )
   )<|fun(af',n8) =>
    ck (decide (List.length (l2++[n8])*8<=140737488355328)) <|
    ck (As .i64 (k7+1)) <|
    some (.inl (af',(k7+1),(l2++[n8])))
   ) (
   some (.inr l2)
   )
def Ku(a0:List UInt8)(b1:List UInt8):Option (FL) :=
 bd (Kq a0 b1) fun r1 =>
 ite' (decide (r1<0)) (
  some (FL.mk [] 3)
  ) (
  bd (lp (Rm a0 b1) (0,0,[]))<|fun l2 =>
  bd (Kr l2) fun r4 =>
  some (FL.mk r4 0)
  )
def N7(a0:List UInt8)(b1:List UInt8)(i6:Int):(Int×Int×(List Int))->Option ((Int×Int×(List Int))⊕(List Int)):=fun s=>match s with
 |(b5,k8,l0') =>
  ite' (decide (k8<=(b1.length:Int))) (
   ck (As .i64 (i6+k8)) <|
   bd (at? l0' (i6+k8)) fun x1 =>
   bd (Gv a0 i6) fun r1 =>
   bd (Gv b1 k8) fun r2 =>
   ck (As .i64 (r1*r2)) <|
   ck (As .i64 (x1+(r1*r2))) <|
   ck (As .i64 ((x1+(r1*r2))+b5)) <|
   ck (As .i64 (i6+k8)) <|
   bd (at? l0' (i6+k8)) fun x2 =>
   ck (As .i64 (((x1+(r1*r2))+b5).tdiv 256)) <|
   ck (As .i64 (k8+1)) <|
   some (.inl ((((x1+(r1*r2))+b5).tdiv 256),(k8+1),(List.set l0' (Int.toNat (i6+k8)) (((x1+(r1*r2))+b5).tmod 256))))
   ) (
   some (.inr l0')
   )
def Rn(a0:List UInt8)(b1:List UInt8):(Int×(List Int))->Option ((Int×(List Int))⊕(List Int)):=fun s=>match s with
 |(i6,l0) =>
  ite' (decide (i6<(a0.length:Int))) (
   bd (lp (N7 a0 b1 i6) (0,0,l0))<|fun l0' =>
   ck (As .i64 (i6+1)) <|
   some (.inl ((i6+1),l0'))
   ) (
   some (.inr l0)
   )
def Kv(a0:List UInt8)(b1:List UInt8):Option ((List UInt8)) :=
 ck (As .i64 ((a0.length:Int)+(b1.length:Int))) <|
 ck (As .i64 (((a0.length:Int)+(b1.length:Int))+1)) <|
 ck (mkOk (((a0.length:Int)+(b1.length:Int))+1) 8) <|
 bd (lp (Rn a0 b1) (0,(List.replicate (Int.toNat (((a0.length:Int)+(b1.length:Int))+1)) 0)))<|fun l0 =>
 bd (Kr l0) fun r3 =>
 some r3
def Ro(a0:List UInt8)(b1:List UInt8):(Int×Int×(List Int))->Option ((Int×Int×(List Int))⊕(List Int)):=fun s=>match s with
 |(aj,k7,l1) =>
  ite' (decide (k7<=(max (a0.length:Int) (b1.length:Int)))) (
   bd (Gv a0 k7) fun r1 =>
   bd (Gv b1 k7) fun r2 =>
   ck (As .i64 (r1+r2)) <|
   ck (As .i64 ((r1+r2)+aj)) <|
   ck (decide (List.length (l1++[(((r1+r2)+aj).tmod 256)])*8<=140737488355328)) <|
   ck (As .i64 (((r1+r2)+aj).tdiv 256)) <|
   ck (As .i64 (k7+1)) <|
   some (.inl ((((r1+r2)+aj).tdiv 256),(k7+1),(l1++[(((r1+r2)+aj).tmod 256)])))
   ) (
   some (.inr l1)
   )
def Rp(a0:List UInt8)(b1:List UInt8):Option ((List UInt8)) :=
 bd (lp (Ro a0 b1) (0,0,[]))<|fun l1 =>
 bd (Kr l1) fun r3 =>
 some r3
def N8(ax0:Int)(y1:Int):Option (Int) :=
 bd (Ks ax0) fun r1 =>
 bd (Ks y1) fun r2 =>
 ite' r1 (
  ite' r2 (
   some 0
   ) (
   some (-1)
   )
  ) (
  ite' r2 (
   some 1
   ) (
   ite' (decide (ax0<y1)) (
    some (-1)
    ) (
    ite' (decide (y1<ax0)) (
     some 1
     ) (
     some 0
     )
    )
   )
  )
def Rq(as0:List UInt8)(al:List UInt8):Option ((List UInt8)) :=
 ite' (bif (decide (as0=[])) then true else(decide (al=[]))) (
  some as0
  ) (
  ck (!(decide ((al.length:Int)=1))||(CH al 0)) <|
  ite' (bif (decide ((al.length:Int)=1)) then(decide ((Dj al 0)<128)) else false) (
   ck (CH al 0) <|
   bd (qW as0 (Dj al 0)) fun r1 =>
   some r1
   ) (
   none
   )
  )
def Uk(a0:List Ac)(b1:List Ac):Int->Option (Int⊕(Unit⊕Bool)):=fun s=>match s with
 |k5 =>
  ite' (decide (k5<(a0.length:Int))) (
   bd (at? a0 k5) fun x1 =>
   bd (at? b1 k5) fun x2 =>
   bd (Kt x1 x2) fun r1 =>
   ite' (!r1) (
    some (.inr (.inr false))
    ) (
    ck (As .i64 (k5+1)) <|
    some (.inl (k5+1))
    )
   ) (
   some (.inr (.inl ()))
   )
def Xd(a0:List Ac)(b1:List Ac):Option (Bool) :=
 ite' (!decide ((a0.length:Int)=(b1.length:Int))) (
  some false
  ) (
  bd (lp (Uk a0 b1) 0)<|fun o=>match o with
  | .inl ()=>(
    some true
   )
  | .inr o=>(
    some o
   )
  )
def DT(a0:Ac)(b1:Ac):Option (Int) :=
 bd (Gw a0.Gauge b1.Gauge) fun r1 =>
 ite' (!decide (r1=0)) (
  some r1
  ) (
  bd (Gw a0.Seq b1.Seq) fun r2 =>
  some r2
  )
def IA(a0:Ac)(b1:Ac):Option (Bool) :=
 bd (Hv a0.Curve b1.Curve) fun r1 =>
 ite' (!r1) (
  some false
  ) (
  some (bif (bif (bif (bif (bif (bif (decide (a0.Kind=b1.Kind)) then(decide (a0.Gauge=b1.Gauge)) else false) then(decide (a0.Seq=b1.Seq)) else false) then(decide (a0.Known=b1.Known)) else false) then(decide (a0.From=b1.From)) else false) then(decide (a0.To=b1.To)) else false) then(decide (a0.Shift=b1.Shift)) else false)
  )
def Xe(ax0:Ac)(y1:Ac):Option (Int) :=
 bd (DT ax0 y1) fun r1 =>
 some r1
def K3(a1:Int)(ae:Ac->Ac->Option Int)(a8:List Ac):(Int×Int)->Option ((Int×Int)⊕Int):=fun s=>match s with
 |(i10,j11) =>
  ite' (decide (i10<j11)) (
   ck (As .i64 (i10+j11)) <|
   ck (As .i64 (Int.fdiv ((i10+j11)%18446744073709551616) 2)) <|
   bd (at? a8 (Int.fdiv ((i10+j11)%18446744073709551616) 2)) fun x1 =>
   bd (at? a8 a1) fun x2 =>
   bd (ae x1 x2) fun r1 =>
   ite' (decide (r1<0)) (
    ck (As .i64 ((Int.fdiv ((i10+j11)%18446744073709551616) 2)+1)) <|
    some (.inl (((Int.fdiv ((i10+j11)%18446744073709551616) 2)+1),j11))
    ) (
    some (.inl (i10,(Int.fdiv ((i10+j11)%18446744073709551616) 2)))
    )
   ) (
   some (.inr i10)
   )
def K_(i10:Int):(Int×(List Ac))->Option ((Int×(List Ac))⊕(List Ac)):=fun s=>match s with
 |(k13,a2) =>
  ck (As .i64 (i10-1)) <|
  ite' (decide (k13<(i10-1))) (
   ck (As .i64 (k13+1)) <|
   ck (As .i64 (k13+1)) <|
   bd (at? a2 (k13+1)) fun x3 =>
   bd (at? a2 k13) fun x4 =>
   bd (at? a2 k13) fun x5 =>
   bd (at? (List.set a2 (Int.toNat k13) x3) (k13+1)) fun x6 =>
   ck (As .i64 (k13+1)) <|
   some (.inl ((k13+1),(List.set (List.set a2 (Int.toNat k13) x3) (Int.toNat (k13+1)) x4)))
   ) (
   some (.inr a2)
   )
def L_(ae:Ac->Ac->Option Int)(a8:List Ac)(m2:Int):(Int×Int)->Option ((Int×Int)⊕Int):=fun s=>match s with
 |(i14,j15) =>
  ite' (decide (i14<j15)) (
   ck (As .i64 (i14+j15)) <|
   ck (As .i64 (Int.fdiv ((i14+j15)%18446744073709551616) 2)) <|
   bd (at? a8 m2) fun x7 =>
   bd (at? a8 (Int.fdiv ((i14+j15)%18446744073709551616) 2)) fun x8 =>
   bd (ae x7 x8) fun r2 =>
   ite' (!(decide (r2<0))) (
    ck (As .i64 ((Int.fdiv ((i14+j15)%18446744073709551616) 2)+1)) <|
    some (.inl (((Int.fdiv ((i14+j15)%18446744073709551616) 2)+1),j15))
    ) (
    some (.inl (i14,(Int.fdiv ((i14+j15)%18446744073709551616) 2)))
    )
   ) (
   some (.inr i14)
   )
def M_(i14:Int):(Int×(List Ac))->Option ((Int×(List Ac))⊕(List Ac)):=fun s=>match s with
 |(k17,a2) =>
  ite' (decide (i14<k17)) (
   ck (As .i64 (k17-1)) <|
   ck (As .i64 (k17-1)) <|
   bd (at? a2 (k17-1)) fun x9 =>
   bd (at? a2 k17) fun x10 =>
   bd (at? a2 k17) fun x11 =>
   bd (at? (List.set a2 (Int.toNat k17) x9) (k17-1)) fun x12 =>
   ck (As .i64 (k17-1)) <|
   some (.inl ((k17-1),(List.set (List.set a2 (Int.toNat k17) x9) (Int.toNat (k17-1)) x10)))
   ) (
   some (.inr a2)
   )
def NK(a1:Int)(b3:Int)(ae:Ac->Ac->Option Int)(a8:List Ac)(m2:Int):(Int×Int)->Option ((Int×Int)⊕Int):=fun s=>match s with
 |(a3',r21') =>
  ite' (decide (a3'<r21')) (
   ck (As .i64 (a3'+r21')) <|
   ck (As .i64 (Int.fdiv ((a3'+r21')%18446744073709551616) 2)) <|
   ck (As .i64 ((((Int.fdiv ((a1+b3)%18446744073709551616) 2)+m2)-1)-(Int.fdiv ((a3'+r21')%18446744073709551616) 2))) <|
   bd (at? a8 ((((Int.fdiv ((a1+b3)%18446744073709551616) 2)+m2)-1)-(Int.fdiv ((a3'+r21')%18446744073709551616) 2))) fun x13 =>
   bd (at? a8 (Int.fdiv ((a3'+r21')%18446744073709551616) 2)) fun x14 =>
   bd (ae x13 x14) fun r3 =>
   ite' (!(decide (r3<0))) (
    ck (As .i64 ((Int.fdiv ((a3'+r21')%18446744073709551616) 2)+1)) <|
    some (.inl (((Int.fdiv ((a3'+r21')%18446744073709551616) 2)+1),r21'))
    ) (
    some (.inl (a3',(Int.fdiv ((a3'+r21')%18446744073709551616) 2)))
    )
   ) (
   some (.inr a3')
   )
def N9(n:Nat):(List Ac)->Int->Int->Int->(Ac->Ac->Option Int)->Option (List Ac):=match n with
 |0=>fun _ _ _ _ _=>none
 |n+1=>fun a8 a1 m2 b3 ae =>
  ck (As .i64 (m2-a1)) <|
  ite' (decide ((m2-a1)=1)) (
   bd (lp (K3 a1 ae a8) (m2,b3))<|fun i10 =>
   bd (lp (K_ i10) (a1,a8))<|fun a2 =>
   some a2
   ) (
   ck (As .i64 (b3-m2)) <|
   ite' (decide ((b3-m2)=1)) (
    bd (lp (L_ ae a8 m2) (a1,m2))<|fun i14 =>
    bd (lp (M_ i14) (m2,a8))<|fun a2 =>
    some a2
    ) (
    ck (As .i64 (a1+b3)) <|
    ck (As .i64 (Int.fdiv ((a1+b3)%18446744073709551616) 2)) <|
    ck (As .i64 ((Int.fdiv ((a1+b3)%18446744073709551616) 2)+m2)) <|
    bd (α:=Int×Int) (
     ite' (decide ((Int.fdiv ((a1+b3)%18446744073709551616) 2)<m2)) (
      ck (As .i64 (((Int.fdiv ((a1+b3)%18446744073709551616) 2)+m2)-b3)) <|
      some ((((Int.fdiv ((a1+b3)%18446744073709551616) 2)+m2)-b3),(Int.fdiv ((a1+b3)%18446744073709551616) 2))
      ) (
      some (a1,m2)
      )
    )<|fun(a3,r21) =>
     ck (As .i64 (((Int.fdiv ((a1+b3)%18446744073709551616) 2)+m2)-1)) <|
     bd (lp (NK a1 b3 ae a8 m2) (a3,r21))<|fun a3' =>
     ck (As .i64 (((Int.fdiv ((a1+b3)%18446744073709551616) 2)+m2)-a3')) <|
     bd (α:=(List Ac)) (
      ite' (bif (decide (a3'<m2)) then(decide (m2<(((Int.fdiv ((a1+b3)%18446744073709551616) 2)+m2)-a3'))) else false) (
       bd (Xc a8 a3' m2 (((Int.fdiv ((a1+b3)%18446744073709551616) 2)+m2)-a3') ae) fun r4 =>
       some r4
       ) (
       some a8
       )
     )<|fun a2 =>
      bd (α:=(List Ac)) (
       ite' (bif (decide (a1<a3')) then(decide (a3'<(Int.fdiv ((a1+b3)%18446744073709551616) 2))) else false) (
        bd (N9 n a2 a1 a3' (Int.fdiv ((a1+b3)%18446744073709551616) 2) ae) fun r5 =>
        some r5
        ) (
        some a2
        )
      )<|fun a2' =>
       ite' (bif (decide ((Int.fdiv ((a1+b3)%18446744073709551616) 2)<(((Int.fdiv ((a1+b3)%18446744073709551616) 2)+m2)-a3'))) then(decide ((((Int.fdiv ((a1+b3)%18446744073709551616) 2)+m2)-a3')<b3)) else false) (
        bd (N9 n a2' (Int.fdiv ((a1+b3)%18446744073709551616) 2) (((Int.fdiv ((a1+b3)%18446744073709551616) 2)+m2)-a3') b3 ae) fun r6 =>
        some r6
        ) (
        some a2'
        )
    )
   )
def Xf(a8:List Ac)(a1:Int)(m2:Int)(b3:Int)(ae:Ac->Ac->Option Int):Option (List Ac):=N9 64 a8 a1 m2 b3 ae
def Rr(b1:List UInt8):((List UInt8)×Int)->Option (((List UInt8)×Int)⊕((List UInt8)×Int)):=fun s=>match s with
 |(r6',n8) =>
  bd (Kq r6' b1) fun r3 =>
  ite' (decide (0<=r3)) (
   bd (Ku r6' b1) fun r4 =>
   ck (As .i64 (n8+1)) <|
   some (.inl (r4.S,(n8+1)))
   ) (
   some (.inr (r6',n8))
   )
def Rs(a0:List UInt8)(b1:List UInt8):((List UInt8)×(List UInt8)×Int)->Option (((List UInt8)×(List UInt8)×Int)⊕((List UInt8)×(List UInt8))):=fun s=>match s with
 |(q5,r6,k7) =>
  ite' (decide (k7<(a0.length:Int))) (
   ck (As .i64 (k7+1)) <|
   ck (El a0 k7 (k7+1)) <|
   ck (decide (r6.length+List.length (sub a0 k7 (k7+1))<=4611686018427387904)) <|
   bd (DV (r6++(sub a0 k7 (k7+1)))) fun r2 =>
   bd (lp (Rr b1) (r2,0))<|fun(r6',n8) =>
   ck (decide (q5.length+List.length (CS [(n8%256)])<=4611686018427387904)) <|
   ck (As .i64 (k7+1)) <|
   some (.inl ((q5++(CS [(n8%256)])),r6',(k7+1)))
   ) (
   some (.inr (q5,r6))
   )
def Kw(a0:List UInt8)(b1:List UInt8):Option (FK) :=
 bd (DV b1) fun r1 =>
 ite' (decide (r1=[])) (
  some (FK.mk [] [] 1)
  ) (
  bd (lp (Rs a0 b1) ([],[],0))<|fun(q5,r6) =>
  bd (DV q5) fun r5 =>
  some (FK.mk r5 r6 0)
  )
def vo(ax0:List Int)(y1:List Int):Int->Option (Int⊕(Unit⊕Int)):=fun s=>match s with
 |k6 =>
  ite' (decide (0<=k6)) (
   bd (at? ax0 k6) fun x1 =>
   bd (at? y1 k6) fun x2 =>
   bd (N8 x1 x2) fun r2 =>
   ite' (!decide (r2=0)) (
    some (.inr (.inr r2))
    ) (
    ck (As .i64 (k6-1)) <|
    some (.inl (k6-1))
    )
   ) (
   some (.inr (.inl ()))
   )
def Rt(ax0:List Int)(y1:List Int):Option (Int) :=
 bd (Gw (ax0.length:Int) (y1.length:Int)) fun r1 =>
 ite' (!decide (r1=0)) (
  some r1
  ) (
  ck (As .i64 ((ax0.length:Int)-1)) <|
  bd (lp (vo ax0 y1) ((ax0.length:Int)-1))<|fun o=>match o with
  | .inl ()=>(
    some 0
   )
  | .inr o=>(
    some o
   )
  )
def PB(ax0:List Int)(ay:Int):Option ((List Int)) :=
 ite' (decide (ay<0)) (
  ck (As .i64 (-ay)) <|
  ck (decide (0<=(-ay))) <|
  bd (Uu ax0 ((1*2 ^ min (Int.toNat (-ay)) 32)%4294967296)) fun r1 =>
  some r1.1
  ) (
  ck (decide (0<=ay)) <|
  bd (Rk ax0 [((1*2 ^ min (Int.toNat ay) 32)%4294967296)]) fun r2 =>
  some r2
  )
def NA(a0:List UInt8):Option ((List UInt8)) :=
 bd (Rq a0 [0]) fun r1 =>
 some r1
def NB(a0:List UInt8)(b1:List UInt8):Option (Int) :=
 bd (GO a0) fun r1 =>
 bd (GO b1) fun r2 =>
 bd (Rt r1 r2) fun r3 =>
 some r3
def C_(ai:Ac->Ac->Option Int)(n1:Int):(Int×Int×(List Ac))->Option ((Int×Int×(List Ac))⊕(Int×(List Ac))):=fun s=>match s with
 |(a7,b8,a2) =>
  ite' (decide (b8<=n1)) (
   bd (Ra a2 a7 b8 ai) fun r1 =>
   ck (As .i64 (b8+20)) <|
   some (.inl (b8,(b8+20),r1))
   ) (
   some (.inr (a7,a2))
   )
def H_(a4:Int)(ai:Ac->Ac->Option Int)(n1:Int):(Int×Int×(List Ac))->Option ((Int×Int×(List Ac))⊕(Int×(List Ac))):=fun s=>match s with
 |(a7',b8,a2'') =>
  ite' (decide (b8<=n1)) (
   ck (As .i64 (a7'+a4)) <|
   bd (Xf a2'' a7' (a7'+a4) b8 ai) fun r3 =>
   ck (As .i64 (2*a4)) <|
   ck (As .i64 (b8+(2*a4))) <|
   some (.inl (b8,(b8+(2*a4)),r3))
   ) (
   some (.inr (a7',a2''))
   )
def I_(ai:Ac->Ac->Option Int)(n1:Int):(Int×(List Ac))->Option ((Int×(List Ac))⊕(List Ac)):=fun s=>match s with
 |(a4,a2') =>
  ite' (decide (a4<n1)) (
   ck (As .i64 (2*a4)) <|
   bd (lp (H_ a4 ai n1) (0,(2*a4),a2'))<|fun(a7',a2'') =>
   ck (As .i64 (a7'+a4)) <|
   ite' (decide ((a7'+a4)<n1)) (
    bd (Xf a2'' a7' (a7'+a4) n1 ai) fun r4 =>
    ck (As .i64 (a4*2)) <|
    some (.inl ((a4*2),r4))
    ) (
    ck (As .i64 (a4*2)) <|
    some (.inl ((a4*2),a2''))
    )
   ) (
   some (.inr a2')
   )
def Xg(a8:List Ac)(n1:Int)(ai:Ac->Ac->Option Int):Option (List Ac) :=
 bd (lp (C_ ai n1) (0,20,a8))<|fun(a7,a2) =>
 bd (Ra a2 a7 n1 ai) fun r2 =>
 bd (lp (I_ ai n1) (20,r2))<|fun a2' =>
 some a2'
def IB :((List UInt8)×(List UInt8))->Option (((List UInt8)×(List UInt8))⊕(List UInt8)):=fun s=>match s with
 |(x5,y6) =>
  ite' (!decide (y6=[])) (
   bd (Kw x5 y6) fun r3 =>
   some (.inl (y6,r3.R))
   ) (
   some (.inr x5)
   )
def NC(a0:List UInt8)(b1:List UInt8):Option ((List UInt8)) :=
 bd (DV a0) fun r1 =>
 bd (DV b1) fun r2 =>
 bd (lp (IB) (r1,r2))<|fun x5 =>
 some x5
def qY(y1:List Int):Int->Option (Int⊕Int):=fun s=>match s with
 |am =>
  ck (As .i64 ((y1.length:Int)-1)) <|
  bd (at? y1 ((y1.length:Int)-1)) fun x2 =>
  ck (decide (0<=am)) <|
  ite' (decide (((x2*2 ^ min (Int.toNat am) 32)%4294967296)<2147483648)) (
   ck (As .i64 (am+1)) <|
   some (.inl (am+1))
   ) (
   some (.inr am)
   )
def qZ(j13:Int)(ah:List Int)(r4:(List Int)):(Int×Int)->Option ((Int×Int)⊕Int):=fun s=>match s with
 |(ad,ao) =>
  ck (!(decide (ao<4294967296))||As .i64 ((r4.length:Int)-2)) <|
  bd (gd (decide (ao<4294967296)) (at? r4 ((r4.length:Int)-2))) fun x7 =>
  ck (!(decide (ao<4294967296))||As .i64 (j13+(r4.length:Int))) <|
  ck (!(decide (ao<4294967296))||As .i64 ((j13+(r4.length:Int))-2)) <|
  bd (gd (decide (ao<4294967296)) (at? ah ((j13+(r4.length:Int))-2))) fun x8 =>
  ite' (bif (decide (ao<4294967296)) then(decide ((bitI .or .u64 ((ao*4294967296)%18446744073709551616) (x8%18446744073709551616))<((ad*(x7%18446744073709551616))%18446744073709551616))) else false) (
   ck (As .i64 ((r4.length:Int)-1)) <|
   bd (at? r4 ((r4.length:Int)-1)) fun x9 =>
   some (.inl (((ad-1)%18446744073709551616),((ao+(x9%18446744073709551616))%18446744073709551616)))
   ) (
   some (.inr ad)
   )
def yzk(j13:Int)(ah:List Int)(r4:(List Int)):(Int×(List Int))->Option ((Int×(List Int))⊕(Int×(List Int))):=fun s=>match s with
 |(ad',ap) =>
  bd (Gt (sub ah j13 ((j13+(r4.length:Int))+1))) fun r8 =>
  bd (Ht r8) fun r9 =>
  bd (Rt r9 ap) fun r10 =>
  ite' (decide (r10<0)) (
   bd (Rl ap r4) fun r11 =>
   some (.inl (((ad'-1)%18446744073709551616),r11))
   ) (
   some (.inr (ad',ap))
   )
def Uv(r4:(List Int)):(Int×(List Int)×(List Int))->Option ((Int×(List Int)×(List Int))⊕((List Int)×(List Int))):=fun s=>match s with
 |(j13,ah,l3) =>
  ite' (decide (0<=j13)) (
   ck (As .i64 (j13+(r4.length:Int))) <|
   bd (at? ah (j13+(r4.length:Int))) fun x3 =>
   ck (As .i64 (j13+(r4.length:Int))) <|
   ck (As .i64 ((j13+(r4.length:Int))-1)) <|
   bd (at? ah ((j13+(r4.length:Int))-1)) fun x4 =>
   ck (As .i64 ((r4.length:Int)-1)) <|
   bd (at? r4 ((r4.length:Int)-1)) fun x5 =>
   ck (!decide ((x5%18446744073709551616)=0)) <|
   ck (As .i64 ((r4.length:Int)-1)) <|
   bd (at? r4 ((r4.length:Int)-1)) fun x6 =>
   bd (lp (qZ j13 ah r4) ((min (((bitI .or .u64 (((x3%18446744073709551616)*4294967296)%18446744073709551616) (x4%18446744073709551616)).tdiv (x5%18446744073709551616))%18446744073709551616) 4294967295),(((bitI .or .u64 (((x3%18446744073709551616)*4294967296)%18446744073709551616) (x4%18446744073709551616))-(((min (((bitI .or .u64 (((x3%18446744073709551616)*4294967296)%18446744073709551616) (x4%18446744073709551616)).tdiv (x5%18446744073709551616))%18446744073709551616) 4294967295)*(x6%18446744073709551616))%18446744073709551616))%18446744073709551616)))<|fun ad =>
   bd (α:=Unit⊕Unit) (
    ite' (decide (ad=0)) (
     some (.inr ())
     ) (
     some (.inl ())
     )
   )<|fun o=>match o with
    | .inl ()=>(
      ck (As .i64 (j13+(r4.length:Int))) <|
      ck (As .i64 ((j13+(r4.length:Int))+1)) <|
      ck (El ah j13 ((j13+(r4.length:Int))+1)) <|
      bd (Rk r4 [(ad%4294967296)]) fun r7 =>
      bd (lp (yzk j13 ah r4) (ad,r7))<|fun(ad',ap) =>
      bd (Gt (sub ah j13 ((j13+(r4.length:Int))+1))) fun r12 =>
      bd (Ht r12) fun r13 =>
      bd (Rl r13 ap) fun r14 =>
      ck (El ah j13 ((j13+(r4.length:Int))+1)) <|
      ck (El (BQ ah (Int.toNat j13) (List.replicate (Int.toNat (((j13+(r4.length:Int))+1)-j13)) 0)) j13 ((j13+(r4.length:Int))+1)) <|
      bd (at? l3 j13) fun x10 =>
      ck (As .i64 (j13-1)) <|
      some (.inl ((j13-1),(BQ (BQ ah (Int.toNat j13) (List.replicate (Int.toNat (((j13+(r4.length:Int))+1)-j13)) 0)) (Int.toNat j13) (List.take (Int.toNat (((j13+(r4.length:Int))+1)-j13)) r14)),(List.set l3 (Int.toNat j13) (ad'%4294967296))))
     )
    | .inr ()=>(
      ck (As .i64 (j13-1)) <|
      some (.inl ((j13-1),ah,l3))
     )
   ) (
   some (.inr (ah,l3))
   )
def Nx(ax0:List Int)(y1:List Int):Option ((List Int)×(List Int)) :=
 bd (Rt ax0 y1) fun r1 =>
 ite' (decide (r1<0)) (
  some ([],ax0)
  ) (
  ite' (decide ((y1.length:Int)=1)) (
   bd (at? y1 0) fun x1 =>
   bd (Uu ax0 x1) fun r2 =>
   bd (Ht [r2.2]) fun r3 =>
   some (r2.1,r3)
   ) (
   bd (lp (qY y1) 0)<|fun am =>
   bd (PB y1 am) fun r4 =>
   bd (PB ax0 am) fun r5 =>
   bd (Gt r5) fun r6 =>
   ck (decide (List.length (r6++[0,0])*4<=140737488355328)) <|
   ck (As .i64 ((ax0.length:Int)-(r4.length:Int))) <|
   ck (As .i64 (((ax0.length:Int)-(r4.length:Int))+2)) <|
   ck (mkOk (((ax0.length:Int)-(r4.length:Int))+2) 4) <|
   ck (As .i64 ((List.length (r6++[0,0]):Int)-(r4.length:Int))) <|
   ck (As .i64 (((List.length (r6++[0,0]):Int)-(r4.length:Int))-1)) <|
   bd (lp (Uv r4) ((((List.length (r6++[0,0]):Int)-(r4.length:Int))-1),(r6++[0,0]),(List.replicate (Int.toNat (((ax0.length:Int)-(r4.length:Int))+2)) 0)))<|fun(ah,l3) =>
   bd (Ht l3) fun r15 =>
   bd (Ht ah) fun r16 =>
   ck (As .i64 (-am)) <|
   bd (PB r16 (-am)) fun r17 =>
   some (r15,r17)
   )
  )
def vp(ax0:List Int):(Int×(List Int))->Option ((Int×(List Int))⊕(List Int)):=fun s=>match s with
 |(t8,l1) =>
  ite' (decide (t8<(ax0.length:Int))) (
   bd (at? ax0 t8) fun x1 =>
   ck (decide (List.length (l1++[(x1%256),((Int.fdiv x1 256)%256),((Int.fdiv x1 65536)%256),((Int.fdiv x1 16777216)%256)])*1<=140737488355328)) <|
   ck (As .i64 (t8+1)) <|
   some (.inl ((t8+1),(l1++[(x1%256),((Int.fdiv x1 256)%256),((Int.fdiv x1 65536)%256),((Int.fdiv x1 16777216)%256)])))
   ) (
   some (.inr l1)
   )
def I6(ax0:List Int):Option ((List UInt8)) :=
 bd (lp (vp ax0) (0,[]))<|fun l1 =>
 bd (I5 l1) fun r1 =>
 bd (NA (CS r1)) fun r2 =>
 some r2
def IC(a0:List UInt8)(b1:List UInt8):Option ((List UInt8)) :=
 bd (GO a0) fun r1 =>
 bd (GO b1) fun r2 =>
 bd (Rk r1 r2) fun r3 =>
 bd (I6 r3) fun r4 =>
 some r4
def ND(a0:List UInt8)(b1:List UInt8):Option ((List UInt8)) :=
 bd (GO a0) fun r1 =>
 bd (GO b1) fun r2 =>
 bd (Xb r1 r2) fun r3 =>
 bd (I6 r3) fun r4 =>
 some r4
def NE(a0:List UInt8)(b1:List UInt8):Option ((List UInt8)×Int) :=
 bd (GO a0) fun r1 =>
 bd (GO b1) fun r2 =>
 bd (Rt r1 r2) fun r3 =>
 ite' (decide (r3<0)) (
  some ([],3)
  ) (
  bd (Rl r1 r2) fun r4 =>
  bd (I6 r4) fun r5 =>
  some (r5,0)
  )
def Kx(br:Bool)(bt:List UInt8)(bj:List UInt8):Option (AJ) :=
 bd (DV bt) fun r1 =>
 ite' (decide (r1=[])) (
  some (AJ.mk false [] [])
  ) (
  bd (NC r1 bj) fun r2 =>
  bd (Kw r1 r2) fun r3 =>
  bd (Kw bj r2) fun r4 =>
  some (AJ.mk br r3.Q r4.Q)
  )
def I7:(List Int×List Int)->Option ((List Int×List Int)⊕List Int):=fun s=>match s with
 |(x,y)=>ite' (decide ((y.length:Int)=0)) (some (.inr x)) (bd (Nx x y) fun r=>some (.inl (y,r.2)))
def Hq(a0:List UInt8)(b1:List UInt8):Option (List UInt8) :=
 bd (GO a0) fun x =>
 bd (GO b1) fun y =>
 bd (lp I7 (x,y)) fun r =>
 I6 r
def Xh(ax0:List Ac)(bq:Ac->Ac->Option Int):Option (List Ac) :=
 bd (Xg ax0 (ax0.length:Int) bq) fun r1 =>
 some r1
def yzs(a0:AJ):Option (Bool) :=
 ite' ((a0.Neg==false)&&(decide (a0.Num=[])&&(decide (a0.Den=[])&&true))) (
  some true
  ) (
  bd (gd (bif (!decide (a0.Num=[])) then(!decide (a0.Den=[])) else false) (Ko a0.Num)) fun r1 =>
  bd (gd (bif (bif (!decide (a0.Num=[])) then(!decide (a0.Den=[])) else false) then r1 else false) (Ko a0.Den)) fun r2 =>
  bd (gd (bif (bif (bif (!decide (a0.Num=[])) then(!decide (a0.Den=[])) else false) then r1 else false) then r2 else false) (Hq a0.Num a0.Den)) fun r3 =>
  some (bif (bif (bif (bif (!decide (a0.Num=[])) then(!decide (a0.Den=[])) else false) then r1 else false) then r2 else false) then(decide (r3=[1])) else false)
  )
def NF(a0:AJ):Option (Bool) :=
 ite' (bif (decide (a0.Num=[])) then true else(decide (a0.Den=[]))) (
  some ((a0.Neg==false)&&(decide (a0.Num=[])&&(decide (a0.Den=[])&&true)))
  ) (
  bd (N6 a0.Num) fun r1 =>
  bd (N6 a0.Den) fun r2 =>
  bd (gd (bif r1 then r2 else false) (NC a0.Num a0.Den)) fun r3 =>
  some (bif (bif r1 then r2 else false) then(decide (r3=[1])) else false)
  )
def Ru(a0:AJ):Option (Bool) :=
 bd (yzs a0) fun r1 =>
 some (bif r1 then(!a0.Neg) else false)
def Xi(n0:Int):Option ((List UInt8)×Int) :=
 ite' (decide (n0<0)) (
  some ([],3)
  ) (
  bd (Ht [(n0%4294967296),((Int.fdiv n0 4294967296)%4294967296)]) fun r1 =>
  bd (I6 r1) fun r2 =>
  some (r2,0)
  )
def Rw(a0:List UInt8)(b1:List UInt8):Option ((List UInt8)×(List UInt8)×Int) :=
 bd (GO a0) fun r1 =>
 bd (GO b1) fun r2 =>
 ite' (decide ((r2.length:Int)=0)) (
  some ([],[],1)
  ) (
  bd (Nx r1 r2) fun r3 =>
  bd (I6 r3.1) fun r4 =>
  bd (I6 r3.2) fun r5 =>
  some (r4,r5,0)
  )
def Xj(a0:AJ):Option (BJ) :=
 bd (gd (!(decide (a0.Num=[]))) (yzs a0)) fun r1 =>
 ite' (bif (decide (a0.Num=[])) then true else(!r1)) (
  some (BJ.mk false [] [1])
  ) (
  some (BJ.mk a0.Neg a0.Num a0.Den)
  )
def q_(f0:BJ)(g1:BJ):Option (BJ) :=
 bd (IC f0.num g1.den) fun r1 =>
 bd (IC g1.num f0.den) fun r2 =>
 bd (IC f0.den g1.den) fun r3 =>
 ite' (f0.neg==g1.neg) (
  bd (ND r1 r2) fun r4 =>
  some (BJ.mk f0.neg r4 r3)
  ) (
  bd (NB r1 r2) fun r5 =>
  bd (α:=(List UInt8)×(List UInt8)×BJ) (
   ite' (decide (r5<0)) (
    some (r2,r1,(BJ.mk g1.neg f0.num f0.den))
    ) (
    some (r1,r2,f0)
    )
  )<|fun(a5,b6,b0) =>
   bd (NE a5 b6) fun r6 =>
   some (BJ.mk b0.neg r6.1 r3)
  )
def Ky(a0:AJ):Option (AJ) :=
 bd (NF a0) fun r1 =>
 ite' r1 (
  some a0
  ) (
  some (AJ.mk false [] [])
  )
def yzh(n0:Int):Option (BJ) :=
 ck (As .i64 (-n0)) <|
 bd (Xi (max n0 (-n0))) fun r1 =>
 some (BJ.mk (decide (n0<0)) r1.1 [1])
def qzw(f0:BJ):Option (AJ) :=
 ite' (decide (f0.num=[])) (
  some (AJ.mk false [] [])
  ) (
  bd (Hq f0.num f0.den) fun r1 =>
  bd (Rw f0.num r1) fun r2 =>
  bd (Rw f0.den r1) fun r3 =>
  some (AJ.mk f0.neg r2.1 r3.1)
  )
def rh(f0:BJ)(g1:BJ):Option (BJ) :=
 bd (q_ f0 (BJ.mk (!g1.neg) g1.num g1.den)) fun r1 =>
 some r1
def Ry(a0:AJ)(b1:AJ):Option (AJ) :=
 bd (Ky a0) fun r1 =>
 bd (Ky b1) fun r2 =>
 bd (N4 r1) fun r3 =>
 bd (N4 r2) fun r4 =>
 bd (Kv r3.1 r4.2) fun r5 =>
 bd (Kv r4.1 r3.2) fun r6 =>
 bd (Kv r3.2 r4.2) fun r7 =>
 ite' (r1.Neg==r2.Neg) (
  bd (Rp r5 r6) fun r8 =>
  bd (Kx r1.Neg r8 r7) fun r9 =>
  some r9
  ) (
  bd (Kq r5 r6) fun r10 =>
  ite' (decide (0<=r10)) (
   bd (Ku r5 r6) fun r11 =>
   bd (Kx r1.Neg r11.S r7) fun r12 =>
   some r12
   ) (
   bd (Ku r6 r5) fun r13 =>
   bd (Kx r2.Neg r13.S r7) fun r14 =>
   some r14
   )
  )
def Rz(a0:AJ):Option (AJ) :=
 bd (Ky a0) fun r1 =>
 ite' (!decide (r1.Num=[])) (
  some (AJ.mk (!r1.Neg) r1.Num r1.Den)
  ) (
  some r1
  )
def Uw(n0:Int):Option (AJ) :=
 bd (yzy n0) fun r1 =>
 ite' (!r1) (
  some (AJ.mk false [] [])
  ) (
  bd (yzh n0) fun r2 =>
  bd (qzw r2) fun r3 =>
  some r3
  )
def Kz(bk:Int):Option (AG) :=
 bd (Uw bk) fun r1 =>
 some (AG.mk [(AC.mk 0 (AJ.mk false [] [])),(AC.mk 10 r1)])
def rj(a0:AJ)(b1:AJ):Option (Int) :=
 bd (Xj a0) fun r1 =>
 bd (Xj b1) fun r2 =>
 bd (rh r1 r2) fun r3 =>
 ite' (decide (r3.num=[])) (
  some 0
  ) (
  ite' r3.neg (
   some (-1)
   ) (
   some 1
   )
  )
def R0(a0:AJ)(b1:AJ):Option (AJ) :=
 bd (Rz b1) fun r1 =>
 bd (Ry a0 r1) fun r2 =>
 some r2
def Hw(bn:Int)(to1:Int)(bm:Int)(bi:Int):Option (AL) :=
 bd (Uw 1) fun r1 =>
 bd (Kz bm) fun r2 =>
 some (AL.mk bn to1 r1 bi r2)
def R3(ac0:AG):Int->Option (Int⊕(Unit⊕Int)):=fun s=>match s with
 |t18 =>
  ite' (decide (t18<(ac0.Points.length:Int))) (
   bd (at? ac0.Points t18) fun x1 =>
   bd (QX x1.Stage) fun r1 =>
   ite' (!r1) (
    some (.inr (.inr 3))
    ) (
    bd (Ru x1.Flow) fun r2 =>
    ite' (!r2) (
     some (.inr (.inr 1))
     ) (
     ck (!(decide (0<t18))||As .i64 (t18-1)) <|
     bd (gd (decide (0<t18)) (at? ac0.Points (t18-1))) fun x2 =>
     ck (!((decide (0<t18))&&(!(decide (x1.Stage<=x2.Stage))))||As .i64 (t18-1)) <|
     bd (gd ((decide (0<t18))&&(!(decide (x1.Stage<=x2.Stage)))) (at? ac0.Points (t18-1))) fun x3 =>
     bd (gd ((decide (0<t18))&&(!(decide (x1.Stage<=x2.Stage)))) (rj x1.Flow x3.Flow)) fun r3 =>
     ite' (bif (decide (0<t18)) then(bif (decide (x1.Stage<=x2.Stage)) then true else(decide (r3<0))) else false) (
      some (.inr (.inr 1))
      ) (
      ck (As .i64 (t18+1)) <|
      some (.inl (t18+1))
      )
     )
    )
   ) (
   some (.inr (.inl ()))
   )
def NG(ac0:AG):Option (Int) :=
 ite' (bif (decide ((ac0.Points.length:Int)<1)) then true else(decide (16<(ac0.Points.length:Int)))) (
  some 2
  ) (
  bd (lp (R3 ac0) 0)<|fun o=>match o with
  | .inl ()=>(
    some 0
   )
  | .inr o=>(
    some o
   )
  )
def R4(a0:AJ)(b1:AJ):Option (Int) :=
 bd (R0 a0 b1) fun r1 =>
 ite' (decide (r1.Num=[])) (
  some 0
  ) (
  ite' r1.Neg (
   some (-1)
   ) (
   some 1
   )
  )
def Hr(v0:Ac):Option (Bool) :=
 ite' (bif (bif (bif (bif (bif (bif (bif (bif (decide (v0.Gauge<0)) then true else(decide (40<=v0.Gauge))) then true else(decide (v0.Seq<0))) then true else(decide (1099511627776<v0.Seq))) then true else(decide (v0.Known<0))) then true else(decide (14609<v0.Known))) then true else(decide (v0.From<0))) then true else(decide (v0.To<=v0.From))) then true else(decide (1402560<v0.To))) (
  some false
  ) (
  ite' (decide (v0.Kind=1)) (
   bd (gd (decide (v0.Shift=0)) (NG v0.Curve)) fun r1 =>
   some (bif (decide (v0.Shift=0)) then(decide (r1=0)) else false)
   ) (
   ck (!(bif (Option.isSome (mget keqI (mput keqI (mput keqI ([]:List (Int×Int)) 2 1000) 3 960) v0.Kind)) then(decide ((v0.Curve.Points.length:Int)=0)) else false)||As .i64 (-(Option.getD (mget keqI (mput keqI (mput keqI ([]:List (Int×Int)) 2 1000) 3 960) v0.Kind) 0))) <|
   some (bif (bif (bif (Option.isSome (mget keqI (mput keqI (mput keqI ([]:List (Int×Int)) 2 1000) 3 960) v0.Kind)) then(decide ((v0.Curve.Points.length:Int)=0)) else false) then(decide ((-(Option.getD (mget keqI (mput keqI (mput keqI ([]:List (Int×Int)) 2 1000) 3 960) v0.Kind) 0))<=v0.Shift)) else false) then(decide (v0.Shift<=(Option.getD (mget keqI (mput keqI (mput keqI ([]:List (Int×Int)) 2 1000) 3 960) v0.Kind) 0))) else false)
   )
  )
def R5(l0:List Ac):Int->Option (Int⊕(Unit⊕Int)):=fun s=>match s with
 |t10 =>
  ite' (decide (t10<(l0.length:Int))) (
   bd (at? l0 t10) fun x1 =>
   bd (Hr x1) fun r1 =>
   ck (!((!(!r1))&&(decide (0<t10)))||As .i64 (t10-1)) <|
   bd (gd ((!(!r1))&&(decide (0<t10))) (at? l0 (t10-1))) fun x2 =>
   bd (gd ((!(!r1))&&(decide (0<t10))) (DT x2 x1)) fun r2 =>
   ite' (bif (!r1) then true else(bif (decide (0<t10)) then(decide (0<=r2)) else false)) (
    some (.inr (.inr 1))
    ) (
    ck (As .i64 (t10+1)) <|
    some (.inl (t10+1))
    )
   ) (
   some (.inr (.inl ()))
   )
def DU(l0:List Ac):Option (Int) :=
 ite' (decide (400<(l0.length:Int))) (
  some 2
  ) (
  bd (lp (R5 l0) 0)<|fun o=>match o with
  | .inl ()=>(
    some 0
   )
  | .inr o=>(
    some o
   )
  )
def Xk(a6:Int)(ak:Int)(l0:List Ac)(ar:AJ):Aw->(List AL)->Option ((List AL)⊕((List AL)×Int)):=fun x s=>match s with
 |l11 =>
  bd (Gu l0 1 a6 x.From ak) fun r3 =>
  ite' (!(Option.isSome r3)) (
   some (.inr ([],8))
   ) (
   bd (QT l0 2 a6 x.From ak) fun r4 =>
   ck (!(decide (0<(l11.length:Int)))||As .i64 ((l11.length:Int)-1)) <|
   bd (gd (decide (0<(l11.length:Int))) (at? l11 ((l11.length:Int)-1))) fun x1 =>
   ck (!(bif (decide (0<(l11.length:Int))) then(decide (x1.Datum=r4)) else false)||As .i64 ((l11.length:Int)-1)) <|
   bd (gd (bif (decide (0<(l11.length:Int))) then(decide (x1.Datum=r4)) else false) (at? l11 ((l11.length:Int)-1))) fun x2 =>
   bd (gd (bif (decide (0<(l11.length:Int))) then(decide (x1.Datum=r4)) else false) (r3)) fun x3 =>
   bd (gd (bif (decide (0<(l11.length:Int))) then(decide (x1.Datum=r4)) else false) (Hv x2.Curve x3.Curve)) fun r5 =>
   ite' (bif (bif (decide (0<(l11.length:Int))) then(decide (x1.Datum=r4)) else false) then r5 else false) (
    ck (As .i64 ((l11.length:Int)-1)) <|
    bd (at? l11 ((l11.length:Int)-1)) fun x4 =>
    some (.inl (List.set l11 (Int.toNat ((l11.length:Int)-1)) (AL.mk x4.From x.To x4.Weight x4.Datum x4.Curve)))
    ) (
    bd (r3) fun x5 =>
    bd (Ny x5.Curve.Points) fun r6 =>
    ck (decide (List.length (l11++[(AL.mk x.From x.To ar r4 (AG.mk r6))])*88<=140737488355328)) <|
    some (.inl (l11++[(AL.mk x.From x.To ar r4 (AG.mk r6))]))
    )
   )
def NH(l0:List Ac)(a6:Int)(t2:Aw)(ak:Int)(ar:AJ):Option ((List AL)×Int) :=
 bd (DU l0) fun r1 =>
 ite' (!decide (r1=0)) (
  some ([],r1)
  ) (
  bd (yzs ar) fun r2 =>
  ite' (!r2) (
   some ([],1)
   ) (
   ite' (bif (bif (bif (bif (decide (t2.From<0)) then true else(decide (t2.To<t2.From))) then true else(decide (1402560<t2.To))) then true else(decide (ak<0))) then true else(decide (14609<ak))) (
    some ([],3)
    ) (
    bd (Hu l0 a6 t2) fun c1 =>
    bd (Kp c1 (fun l=>EL (Xk a6 ak l0 ar) l [])) fun l =>
    bd (Bt (Xk a6 ak l0 ar) l []) fun o=>match o with
    | .inl l11=>(
      some (l11,0)
     )
    | .inr q=>((
      fun o =>
      some o
     ) q)
    )
   )
  )
def R6(l0:List Ac)(bo:Int)(to2:Int)(ak:Int):Option ((List AL)) :=
 bd (Uw 1) fun r1 =>
 bd (NH l0 3 (Aw.mk bo to2) ak r1) fun r2 =>
 ite' (!decide (r2.2=0)) (
  some []
  ) (
  some r2.1
  )
def R7(ac0:AG):Int->Option (Int⊕(Unit⊕Int)):=fun s=>match s with
 |k3 =>
  ite' (decide (k3<(ac0.Points.length:Int))) (
   bd (at? ac0.Points k3) fun x1 =>
   ite' (bif (decide (x1.Stage<(-1000))) then true else(decide (2000<x1.Stage))) (
    some (.inr (.inr 3))
    ) (
    bd (NF x1.Flow) fun r1 =>
    ite' (bif (!r1) then true else x1.Flow.Neg) (
     some (.inr (.inr 1))
     ) (
     ck (!(decide (0<k3))||As .i64 (k3-1)) <|
     bd (gd (decide (0<k3)) (at? ac0.Points (k3-1))) fun x2 =>
     ite' (bif (decide (0<k3)) then(decide (x1.Stage<=x2.Stage)) else false) (
      some (.inr (.inr 1))
      ) (
      ck (!(decide (0<k3))||As .i64 (k3-1)) <|
      bd (gd (decide (0<k3)) (at? ac0.Points (k3-1))) fun x3 =>
      bd (gd (decide (0<k3)) (R4 x1.Flow x3.Flow)) fun r2 =>
      ite' (bif (decide (0<k3)) then(decide (r2<0)) else false) (
       some (.inr (.inr 1))
       ) (
       ck (As .i64 (k3+1)) <|
       some (.inl (k3+1))
       )
      )
     )
    )
   ) (
   some (.inr (.inl ()))
   )
def R8(ac0:AG):Option (Int) :=
 ite' (bif (decide ((ac0.Points.length:Int)<1)) then true else(decide (16<(ac0.Points.length:Int)))) (
  some 2
  ) (
  bd (lp (R7 ac0) 0)<|fun o=>match o with
  | .inl ()=>(
    some 0
   )
  | .inr o=>(
    some o
   )
  )
def Dn(l0:List Ac)(v1:Ac):Option ((List Ac)×Int) :=
 bd (DU l0) fun r1 =>
 ite' (!decide (r1=0)) (
  some ([],r1)
  ) (
  bd (Hr v1) fun r2 =>
  ite' (!r2) (
   some ([],1)
   ) (
   bd (I8 l0 v1 (fun a0 a1=>DT a0 a1)) fun r3 =>
   ite' r3.2 (
    bd (at? l0 r3.1) fun x1 =>
    bd (IA x1 v1) fun r4 =>
    ite' r4 (
     some ([],9)
     ) (
     some ([],24)
     )
    ) (
    ite' (decide (400<=(l0.length:Int))) (
     some ([],2)
     ) (
     none
     )
    )
   )
  )
def insL{α:Type}(l:List α)(k:Nat)(x:α):List α:=l.take k++[x]++l.drop k
def Q6(l0:List Ac)(v1:Ac):Option (List Ac×Int) :=
 bd (DU l0) fun e=>bd (Hr v1) fun b=>bd (I8 l0 v1 (fun a0 a1=>DT a0 a1)) fun p =>
 ck (decide (e=0)&&b&&!p.2&&decide (0<=p.1)&&decide (Int.toNat p.1<=l0.length)&&decide (l0.length<400)) (some (insL l0 (Int.toNat p.1) v1,0))
def Cf(l0:List Ac)(v1:Ac):Option (List Ac×Int):=match Dn l0 v1 with
 |some y=>some y
 |none=>Q6 l0 v1
def E_(a0:List Ac)(b1:List Ac):Int->Option (Int⊕(Unit⊕((List Ac)×Int))):=fun s=>match s with
 |t15 =>
  ite' (decide (t15<(List.length [a0,b1]:Int))) (
   bd (at? [a0,b1] t15) fun x1 =>
   bd (DU x1) fun r1 =>
   ite' (!decide (r1=0)) (
    some (.inr (.inr ([],r1)))
    ) (
    ck (As .i64 (t15+1)) <|
    some (.inl (t15+1))
    )
   ) (
   some (.inr (.inl ()))
   )
def NL(r3:List Ac):Int->Option (Int⊕(Unit⊕((List Ac)×Int))):=fun s=>match s with
 |k10 =>
  ite' (decide (k10<(r3.length:Int))) (
   ck (As .i64 (k10-1)) <|
   bd (at? r3 (k10-1)) fun x2 =>
   bd (at? r3 k10) fun x3 =>
   bd (DT x2 x3) fun r4 =>
   ck (!(decide (r4=0))||As .i64 (k10-1)) <|
   bd (gd (decide (r4=0)) (at? r3 (k10-1))) fun x4 =>
   bd (gd (decide (r4=0)) (at? r3 k10)) fun x5 =>
   bd (gd (decide (r4=0)) (IA x4 x5)) fun r5 =>
   ite' (bif (decide (r4=0)) then(!r5) else false) (
    some (.inr (.inr ([],24)))
    ) (
    ck (As .i64 (k10+1)) <|
    some (.inl (k10+1))
    )
   ) (
   some (.inr (.inl ()))
   )
def Xl(a0:List Ac)(b1:List Ac):Option ((List Ac)×Int) :=
 bd (lp (E_ a0 b1) 0)<|fun o=>match o with
 | .inl ()=>(
   bd (Wy [a0,b1]) fun r2 =>
   bd (Xh r2 (fun a0 a1=>Xe a0 a1)) fun r3 =>
   bd (lp (NL r3) 1)<|fun o=>match o with
   | .inl ()=>(
     bd (WD r3 (fun a0 a1=>IA a0 a1)) fun r6 =>
     ite' (decide (400<(r6.length:Int))) (
      some ([],2)
      ) (
      some (r6,0)
      )
    )
   | .inr o=>(
     some o
    )
  )
 | .inr o=>(
   some o
  )
def Gx(l0:List Ac)(ab:Int)(ac:Int)(aa:Int)(a9:Int):Option (Ac×Int) :=
 bd (DU l0) fun r1 =>
 ite' (!decide (r1=0)) (
  some ((Ac.mk 0 0 0 0 0 0 0 (AG.mk [])),r1)
  ) (
  bd (Kk aa a9) fun r2 =>
  ite' (!decide (r2=0)) (
   some ((Ac.mk 0 0 0 0 0 0 0 (AG.mk [])),r2)
   ) (
   bd (Gu l0 ab ac aa a9) fun r3 =>
   ite' (Option.isSome r3) (
    bd (r3) fun x1 =>
    some (x1,0)
    ) (
    some ((Ac.mk 0 0 0 0 0 0 0 (AG.mk [])),8)
    )
   )
  )
def K0(l0:List Ac)(ab:Int)(ac:Int)(aa:Int)(a9:Int):Option (Int×Int) :=
 bd (DU l0) fun r1 =>
 ite' (!decide (r1=0)) (
  some (0,r1)
  ) (
  ite' (bif (!decide (ab=2)) then(!decide (ab=3)) else false) (
   some (0,1)
   ) (
   bd (Kk aa a9) fun r2 =>
   ite' (!decide (r2=0)) (
    some (0,r2)
    ) (
    bd (QT l0 ab ac aa a9) fun r3 =>
    some (r3,0)
    )
   )
  )
def P_(a6:Int)(l0:List Ac):(Int×(List Int))->Option ((Int×(List Int))⊕(List Int)):=fun s=>match s with
 |(t17,l2) =>
  ite' (decide (t17<(l0.length:Int))) (
   bd (at? l0 t17) fun x1 =>
   ite' (decide (x1.Gauge=a6)) (
    ck (decide (List.length (l2++[x1.Known])*8<=140737488355328)) <|
    ck (As .i64 (t17+1)) <|
    some (.inl ((t17+1),(l2++[x1.Known])))
    ) (
    ck (As .i64 (t17+1)) <|
    some (.inl ((t17+1),l2))
    )
   ) (
   some (.inr l2)
   )
def Xm(l0:List Ac)(a6:Int):Option ((List Int)×Int) :=
 bd (DU l0) fun r1 =>
 ite' (!decide (r1=0)) (
  some ([],r1)
  ) (
  bd (lp (P_ a6 l0) (0,[]))<|fun l2 =>
  bd (CG l2) fun r2 =>
  bd (WS r2) fun r3 =>
  some (r3,0)
  )
def NI(v0:Ac):Option (Bool) :=
 ite' (bif (bif (bif (bif (bif (bif (bif (bif (decide (v0.Gauge<0)) then true else(decide (39<v0.Gauge))) then true else(decide (v0.Seq<0))) then true else(decide (1099511627776<v0.Seq))) then true else(decide (v0.Known<0))) then true else(decide (14609<v0.Known))) then true else(decide (v0.From<0))) then true else(decide (v0.To<=v0.From))) then true else(decide (1402560<v0.To))) (
  some false
  ) (
  ite' (decide (v0.Kind=1)) (
   bd (gd (decide (v0.Shift=0)) (R8 v0.Curve)) fun r1 =>
   some (bif (decide (v0.Shift=0)) then(decide (r1=0)) else false)
   ) (
   ite' (decide (v0.Kind=2)) (
    some (bif (bif (decide ((v0.Curve.Points.length:Int)=0)) then(decide ((-1000)<=v0.Shift)) else false) then(decide (v0.Shift<=1000)) else false)
    ) (
    ite' (decide (v0.Kind=3)) (
     some (bif (bif (decide ((v0.Curve.Points.length:Int)=0)) then(decide ((-960)<=v0.Shift)) else false) then(decide (v0.Shift<=960)) else false)
     ) (
     some false
     )
    )
   )
  )
def R9(l0:List Ac):Int->Option (Int⊕(Unit⊕Int)):=fun s=>match s with
 |k3 =>
  ite' (decide (k3<(l0.length:Int))) (
   bd (at? l0 k3) fun x1 =>
   bd (NI x1) fun r1 =>
   ck (!(!(decide (k3=0)))||As .i64 (k3-1)) <|
   bd (gd (!(decide (k3=0))) (at? l0 (k3-1))) fun x2 =>
   bd (gd (!(decide (k3=0))) (at? l0 k3)) fun x3 =>
   bd (gd (!(decide (k3=0))) (Kl x2 x3)) fun r2 =>
   ite' (bif (!r1) then true else(!(bif (decide (k3=0)) then true else r2))) (
    some (.inr (.inr 1))
    ) (
    ck (As .i64 (k3+1)) <|
    some (.inl (k3+1))
    )
   ) (
   some (.inr (.inl ()))
   )
def RA(l0:List Ac):Option (Int) :=
 ite' (decide (400<(l0.length:Int))) (
  some 2
  ) (
  bd (lp (R9 l0) 0)<|fun o=>match o with
  | .inl ()=>(
    some 0
   )
  | .inr o=>(
    some o
   )
  )
def K2(au:Int)(l0:List Ac)(r1:(List Ac)×Int)(v1:Ac):Aw->(List Aw)->Option ((List Aw)⊕Unit):=fun x s=>match s with
 |l7 =>
  bd (Gu l0 v1.Kind v1.Gauge x.From au) fun r2 =>
  bd (Gu r1.1 v1.Kind v1.Gauge x.From au) fun r3 =>
  bd (gd ((!(!(Option.isSome r3)))&&(bif (!(Option.isSome r2)) then(!decide (v1.Kind=1)) else false)) (r3)) fun x1 =>
  bd (α:=Unit⊕Unit) (
   ite' (bif (!(Option.isSome r3)) then true else(bif (bif (!(Option.isSome r2)) then(!decide (v1.Kind=1)) else false) then(decide (x1.Shift=0)) else false)) (
    some (.inr ())
    ) (
    some (.inl ())
    )
  )<|fun o=>match o with
   | .inl ()=>(
     bd (gd (Option.isSome r2) (r2)) fun x2 =>
     bd (gd (Option.isSome r2) (r3)) fun x3 =>
     bd (gd (bif (Option.isSome r2) then(decide (x2.Shift=x3.Shift)) else false) (r2)) fun x4 =>
     bd (gd (bif (Option.isSome r2) then(decide (x2.Shift=x3.Shift)) else false) (r3)) fun x5 =>
     bd (gd (bif (Option.isSome r2) then(decide (x2.Shift=x3.Shift)) else false) (Hv x4.Curve x5.Curve)) fun r4 =>
     bd (α:=Unit⊕Unit) (
      ite' (bif (bif (Option.isSome r2) then(decide (x2.Shift=x3.Shift)) else false) then r4 else false) (
       some (.inr ())
       ) (
       some (.inl ())
       )
     )<|fun o=>match o with
      | .inl ()=>(
        ck (!(decide (0<(l7.length:Int)))||As .i64 ((l7.length:Int)-1)) <|
        bd (gd (decide (0<(l7.length:Int))) (at? l7 ((l7.length:Int)-1))) fun x6 =>
        ite' (bif (decide (0<(l7.length:Int))) then(decide (x6.To=x.From)) else false) (
         ck (As .i64 ((l7.length:Int)-1)) <|
         bd (at? l7 ((l7.length:Int)-1)) fun x7 =>
         some (.inl (List.set l7 (Int.toNat ((l7.length:Int)-1)) (Aw.mk x7.From x.To)))
         ) (
         ck (decide (List.length (l7++[x])*16<=140737488355328)) <|
         some (.inl (l7++[x]))
         )
       )
      | .inr ()=>(
        some (.inl l7)
       )
    )
   | .inr ()=>(
     some (.inl l7)
    )
def ID(l0:List Ac)(v1:Ac)(au:Int):Option ((List Aw)×Int) :=
 bd (Cf l0 v1) fun r1 =>
 ite' (!decide (r1.2=0)) (
  some ([],r1.2)
  ) (
  ite' (bif (decide (au<0)) then true else(decide (14609<au))) (
   some ([],3)
   ) (
   bd (Hu l0 v1.Gauge (Aw.mk v1.From v1.To)) fun c1 =>
   bd (Kp c1 (fun l=>EL (K2 au l0 r1 v1) l [])) fun l =>
   bd (Bt (K2 au l0 r1 v1) l []) fun o=>match o with
   | .inl l7=>(
     some (l7,0)
    )
   |.inr _=>none
   )
  )
def Xo :Option ((List Ac)×Bool) :=
 bd (Cf [] (Ac.mk 2 3 3 5 150 300 5 (AG.mk []))) fun r1 =>
 bd (Kz 100) fun r2 =>
 bd (Cf r1.1 (Ac.mk 1 3 1 0 0 1000 0 r2)) fun r3 =>
 bd (Kz 50) fun r4 =>
 bd (Cf r3.1 (Ac.mk 1 3 2 10 100 200 0 r4)) fun r5 =>
 some (r5.1,(bif (bif (bif (decide (r1.2=0)) then(decide (r3.2=0)) else false) then(decide (r5.2=0)) else false) then(decide ((r5.1.length:Int)=3)) else false))
def NJ :Option (Bool) :=
 bd (Xo ) fun r1 =>
 bd (gd (!(!r1.2)) (at? r1.1 0)) fun x1 =>
 bd (gd (!(bif (!r1.2) then true else(!decide (x1.Seq=1)))) (at? r1.1 1)) fun x2 =>
 bd (gd (!(bif (bif (!r1.2) then true else(!decide (x1.Seq=1))) then true else(!decide (x2.Seq=2)))) (at? r1.1 2)) fun x3 =>
 bd (gd (!(bif (bif (bif (!r1.2) then true else(!decide (x1.Seq=1))) then true else(!decide (x2.Seq=2))) then true else(!decide (x3.Seq=3)))) (DU r1.1)) fun r2 =>
 ite' (bif (bif (bif (bif (!r1.2) then true else(!decide (x1.Seq=1))) then true else(!decide (x2.Seq=2))) then true else(!decide (x3.Seq=3))) then true else(!decide (r2=0))) (
  some false
  ) (
  bd (Gx r1.1 1 3 150 9) fun r3 =>
  bd (Gx r1.1 1 3 150 10) fun r4 =>
  bd (Gx r1.1 1 3 1000 10) fun r5 =>
  bd (K0 r1.1 2 3 150 4) fun r6 =>
  bd (K0 r1.1 2 3 150 5) fun r7 =>
  bd (K0 r1.1 3 3 150 5) fun r8 =>
  bd (K0 r1.1 1 3 150 5) fun r9 =>
  ite' (bif (bif (bif (bif (bif (bif (bif (bif (bif (bif (bif (!decide (r3.2=0)) then true else(!decide (r4.2=0))) then true else(!decide (r5.2=8))) then true else(!decide (r6.2=0))) then true else(!decide (r7.2=0))) then true else(!decide (r8.2=0))) then true else(!decide (r9.2=1))) then true else(!decide (r3.1.Seq=1))) then true else(!decide (r4.1.Seq=2))) then true else(!decide (r6.1=0))) then true else(!decide (r7.1=5))) then true else(!decide (r8.1=0))) (
   some false
   ) (
   bd (R6 r1.1 90 210 9) fun r10 =>
   bd (Hw 90 150 100 0) fun r11 =>
   bd (Hw 150 210 100 5) fun r12 =>
   bd (Rf r10 [r11,r12]) fun r13 =>
   bd (R6 r1.1 90 210 10) fun r14 =>
   bd (Hw 90 100 100 0) fun r15 =>
   bd (Hw 100 150 50 0) fun r16 =>
   bd (Hw 150 200 50 5) fun r17 =>
   bd (Hw 200 210 100 5) fun r18 =>
   bd (Rf r14 [r15,r16,r17,r18]) fun r19 =>
   bd (Uw 1) fun r20 =>
   bd (NH r1.1 3 (Aw.mk 990 1001) 10 r20) fun r21 =>
   bd (Uw 1) fun r22 =>
   bd (NH r1.1 3 (Aw.mk 90 90) 10 r22) fun r23 =>
   bd (Kz 50) fun r24 =>
   bd (ID r1.1 (Ac.mk 1 3 4 12 150 250 0 r24) 11) fun r25 =>
   bd (ID r1.1 (Ac.mk 1 3 4 12 150 250 0 r24) 12) fun r26 =>
   bd (at? r1.1 0) fun x4 =>
   bd (Cf r1.1 x4) fun r27 =>
   bd (Cf r1.1 (Ac.mk 1 3 1 12 150 250 0 r24)) fun r28 =>
   bd (Xm r1.1 3) fun r29 =>
   ck (El r1.1 0 2) <|
   ck (El r1.1 1 (r1.1.length:Int)) <|
   bd (Xl (sub r1.1 0 2) (sub r1.1 1 (r1.1.length:Int))) fun r30 =>
   bd (gd (bif (bif (bif (bif r13 then r19 else false) then(bif (bif (bif (bif (bif (bif (bif (decide (r21.2=8)) then(decide (r23.2=0)) else false) then(decide (r25.2=0)) else false) then(decide (r26.2=0)) else false) then(decide (r27.2=9)) else false) then(decide (r28.2=24)) else false) then(decide (r29.2=0)) else false) then(decide (r30.2=0)) else false) else false) then(decide ((r23.1.length:Int)=0)) else false) then(decide ((r25.1.length:Int)=0)) else false) (WZ r26.1 [(Aw.mk 200 250)])) fun r31 =>
   bd (gd (bif (bif (bif (bif (bif r13 then r19 else false) then(bif (bif (bif (bif (bif (bif (bif (decide (r21.2=8)) then(decide (r23.2=0)) else false) then(decide (r25.2=0)) else false) then(decide (r26.2=0)) else false) then(decide (r27.2=9)) else false) then(decide (r28.2=24)) else false) then(decide (r29.2=0)) else false) then(decide (r30.2=0)) else false) else false) then(decide ((r23.1.length:Int)=0)) else false) then(decide ((r25.1.length:Int)=0)) else false) then r31 else false) (WY r29.1 [0,5,10])) fun r32 =>
   bd (gd (bif (bif (bif (bif (bif (bif r13 then r19 else false) then(bif (bif (bif (bif (bif (bif (bif (decide (r21.2=8)) then(decide (r23.2=0)) else false) then(decide (r25.2=0)) else false) then(decide (r26.2=0)) else false) then(decide (r27.2=9)) else false) then(decide (r28.2=24)) else false) then(decide (r29.2=0)) else false) then(decide (r30.2=0)) else false) else false) then(decide ((r23.1.length:Int)=0)) else false) then(decide ((r25.1.length:Int)=0)) else false) then r31 else false) then r32 else false) (Xd r30.1 r1.1)) fun r33 =>
   some (bif (bif (bif (bif (bif (bif (bif r13 then r19 else false) then(bif (bif (bif (bif (bif (bif (bif (decide (r21.2=8)) then(decide (r23.2=0)) else false) then(decide (r25.2=0)) else false) then(decide (r26.2=0)) else false) then(decide (r27.2=9)) else false) then(decide (r28.2=24)) else false) then(decide (r29.2=0)) else false) then(decide (r30.2=0)) else false) else false) then(decide ((r23.1.length:Int)=0)) else false) then(decide ((r25.1.length:Int)=0)) else false) then r31 else false) then r32 else false) then r33 else false)
   )
  )
def RB(l0:List Ac)(v1:Ac):Int->Option (Int⊕(Unit⊕AZ)):=fun s=>match s with
 |k7 =>
  ite' (decide (k7<(l0.length:Int))) (
   bd (at? l0 k7) fun x1 =>
   bd (gd (decide (x1.Gauge=v1.Gauge)) (at? l0 k7)) fun x2 =>
   ite' (bif (decide (x1.Gauge=v1.Gauge)) then(decide (x2.Seq=v1.Seq)) else false) (
    bd (at? l0 k7) fun x3 =>
    bd (Kt x3 v1) fun r3 =>
    ite' r3 (
     some (.inr (.inr (AZ.mk [] 9)))
     ) (
     some (.inr (.inr (AZ.mk [] 24)))
     )
    ) (
    ck (As .i64 (k7+1)) <|
    some (.inl (k7+1))
    )
   ) (
   some (.inr (.inl ()))
   )
def RC(l0:List Ac)(v1:Ac):Option (AZ) :=
 bd (RA l0) fun r1 =>
 ite' (!decide (r1=0)) (
  some (AZ.mk [] r1)
  ) (
  bd (NI v1) fun r2 =>
  ite' (!r2) (
   some (AZ.mk [] 1)
   ) (
   bd (lp (RB l0 v1) 0)<|fun o=>match o with
   | .inl ()=>(
     ite' (decide (400<=(l0.length:Int))) (
      some (AZ.mk [] 2)
      ) (
      bd (Rh l0 v1) fun r4 =>
      some (AZ.mk r4 0)
      )
    )
   | .inr o=>(
     some o
    )
   )
  )
def NM(a0:List Ac)(b1:List Ac)(i6:Int):Int->Option (Int⊕(Unit⊕AZ)):=fun s=>match s with
 |k7 =>
  ite' (decide (k7<(b1.length:Int))) (
   bd (at? a0 i6) fun x1 =>
   bd (at? b1 k7) fun x2 =>
   bd (Kt x1 x2) fun r3 =>
   bd (at? a0 i6) fun x3 =>
   bd (at? b1 k7) fun x4 =>
   bd (gd (decide (x3.Gauge=x4.Gauge)) (at? a0 i6)) fun x5 =>
   bd (gd (decide (x3.Gauge=x4.Gauge)) (at? b1 k7)) fun x6 =>
   ite' (bif (bif (decide (x3.Gauge=x4.Gauge)) then(decide (x5.Seq=x6.Seq)) else false) then(!r3) else false) (
    some (.inr (.inr (AZ.mk [] 24)))
    ) (
    ck (As .i64 (k7+1)) <|
    some (.inl (k7+1))
    )
   ) (
   some (.inr (.inl ()))
   )
def N_(a0:List Ac)(b1:List Ac):Int->Option (Int⊕(Unit⊕AZ)):=fun s=>match s with
 |i6 =>
  ite' (decide (i6<(a0.length:Int))) (
   bd (lp (NM a0 b1 i6) 0)<|fun o=>match o with
   | .inl ()=>(
     ck (As .i64 (i6+1)) <|
     some (.inl (i6+1))
    )
   | .inr o=>(
     some (.inr (.inr o))
    )
   ) (
   some (.inr (.inl ()))
   )
def U_(b1:List Ac):((List Ac)×Int)->Option (((List Ac)×Int)⊕(List Ac)):=fun s=>match s with
 |(bf,k10) =>
  ite' (decide (k10<(b1.length:Int))) (
   bd (at? b1 k10) fun x7 =>
   bd (Rh bf x7) fun r4 =>
   ck (As .i64 (k10+1)) <|
   some (.inl (r4,(k10+1)))
   ) (
   some (.inr bf)
   )
def QU(a0:List Ac)(b1:List Ac):Option (AZ) :=
 bd (RA a0) fun r1 =>
 bd (α:=Int) (
  ite' (decide (r1=0)) (
   bd (RA b1) fun r2 =>
   some r2
   ) (
   some r1
   )
 )<|fun e5 =>
  ite' (!decide (e5=0)) (
   some (AZ.mk [] e5)
   ) (
   bd (lp (N_ a0 b1) 0)<|fun o=>match o with
   | .inl ()=>(
     ck (decide (List.length ([]++a0)*80<=140737488355328)) <|
     bd (lp (U_ b1) (([]++a0),0))<|fun bf =>
     ite' (decide (400<(bf.length:Int))) (
      some (AZ.mk [] 2)
      ) (
      some (AZ.mk bf 0)
      )
    )
   | .inr o=>(
     some o
    )
   )
def O_(l0:List Ac)(ab:Int)(ac:Int)(aa:Int)(a9:Int):Option (CQ) :=
 bd (RA l0) fun r1 =>
 bd (α:=Int) (
  ite' (decide (r1=0)) (
   bd (T_ aa a9) fun r2 =>
   some r2
   ) (
   some r1
   )
 )<|fun e11 =>
  ite' (!decide (e11=0)) (
   some (CQ.mk (Ac.mk 0 0 0 0 0 0 0 (AG.mk [])) e11)
   ) (
   bd (N2 l0 ab ac aa a9) fun r3 =>
   ite' (decide (r3<0)) (
    some (CQ.mk (Ac.mk 0 0 0 0 0 0 0 (AG.mk [])) 8)
    ) (
    bd (at? l0 r3) fun x1 =>
    some (CQ.mk x1 0)
    )
   )
def QV(l0:List Ac)(ab:Int)(ac:Int)(aa:Int)(a9:Int):Option (CF) :=
 bd (RA l0) fun r1 =>
 ite' (!decide (r1=0)) (
  some (CF.mk 0 r1)
  ) (
  ite' (bif (!decide (ab=2)) then(!decide (ab=3)) else false) (
   some (CF.mk 0 1)
   ) (
   bd (O_ l0 ab ac aa a9) fun r2 =>
   ite' (bif (!decide (r2.E=0)) then(!decide (r2.E=8)) else false) (
    some (CF.mk 0 r2.E)
    ) (
    some (CF.mk r2.V.Shift 0)
    )
   )
  )
def QW(be:Int)(a6:Int)(l0:List Ac):(Int×Int)->Option ((Int×Int)⊕Int):=fun s=>match s with
 |(an,k9) =>
  ite' (decide (k9<(l0.length:Int))) (
   bd (at? l0 k9) fun x1 =>
   bd (gd (decide (x1.Gauge=a6)) (at? l0 k9)) fun x2 =>
   bd (gd ((bif (decide (x1.Gauge=a6)) then(decide (be<x2.Known)) else false)&&(!(decide (an<0)))) (at? l0 k9)) fun x3 =>
   ite' (bif (bif (decide (x1.Gauge=a6)) then(decide (be<x2.Known)) else false) then(bif (decide (an<0)) then true else(decide (x3.Known<an))) else false) (
    bd (at? l0 k9) fun x4 =>
    ck (As .i64 (k9+1)) <|
    some (.inl (x4.Known,(k9+1)))
    ) (
    ck (As .i64 (k9+1)) <|
    some (.inl (an,(k9+1)))
    )
   ) (
   some (.inr an)
   )
def V_(a6:Int)(l0:List Ac):(Int×(List Int))->Option ((Int×(List Int))⊕((List Int)⊕CR)):=fun s=>match s with
 |(be,l2) =>
  ite' (decide ((-1)<=be)) (
   bd (lp (QW be a6 l0) ((-1),0))<|fun an =>
   ite' (decide (an<0)) (
    some (.inr (.inr (CR.mk l2 0)))
    ) (
    ck (decide (List.length (l2++[an])*8<=140737488355328)) <|
    some (.inl (an,(l2++[an])))
    )
   ) (
   some (.inr (.inl l2))
   )
def Jz(l0:List Ac)(a6:Int):Option (CR) :=
 bd (RA l0) fun r1 =>
 ite' (!decide (r1=0)) (
  some (CR.mk [] r1)
  ) (
  bd (lp (V_ a6 l0) ((-1),[]))<|fun o=>match o with
  | .inl l2=>(
    some (CR.mk l2 0)
   )
  | .inr o=>(
    some o
   )
  )
def W_(l0:List Ac)(m1:List Ac)(v2:Ac)(at3:CD):Option (Bool) :=
 bd (N5 l0 20) fun r1 =>
 bd (gd (!(!r1)) (N5 m1 20)) fun r2 =>
 bd (gd (!(bif (!r1) then true else(!r2))) (Kj v2.Curve)) fun r3 =>
 ite' (bif (bif (!r1) then true else(!r2)) then true else(!r3)) (
  bd (NJ ) fun r4 =>
  some r4
  ) (
  bd (Cf l0 v2) fun r5 =>
  bd (RC l0 v2) fun r6 =>
  bd (Xl l0 m1) fun r7 =>
  bd (QU l0 m1) fun r8 =>
  bd (Gx l0 at3.e0 at3.e1 at3.e2 at3.e3) fun r9 =>
  bd (O_ l0 at3.e0 at3.e1 at3.e2 at3.e3) fun r10 =>
  bd (K0 l0 at3.e0 at3.e1 at3.e2 at3.e3) fun r11 =>
  bd (QV l0 at3.e0 at3.e1 at3.e2 at3.e3) fun r12 =>
  bd (Xm l0 at3.e1) fun r13 =>
  bd (Jz l0 at3.e1) fun r14 =>
  bd (Hr v2) fun r15 =>
  bd (NI v2) fun r16 =>
  bd (gd (!(!(r15==r16))) (DU l0)) fun r17 =>
  bd (gd (!(!(r15==r16))) (RA l0)) fun r18 =>
  bd (gd (!(bif (bif (!(r15==r16)) then true else(!decide (r17=r18))) then true else(!decide (r5.2=r6.E)))) (Xd r5.1 r6.L)) fun r19 =>
  bd (gd (!(bif (bif (bif (bif (!(r15==r16)) then true else(!decide (r17=r18))) then true else(!decide (r5.2=r6.E))) then true else(!r19)) then true else(!decide (r7.2=r8.E)))) (Xd r7.1 r8.L)) fun r20 =>
  ite' (bif (bif (bif (bif (bif (!(r15==r16)) then true else(!decide (r17=r18))) then true else(!decide (r5.2=r6.E))) then true else(!r19)) then true else(!decide (r7.2=r8.E))) then true else(!r20)) (
   some false
   ) (
   bd (NJ ) fun r21 =>
   bd (gd (bif r21 then(decide (r9.2=r10.E)) else false) (Kt r9.1 r10.V)) fun r22 =>
   bd (gd (bif (bif (bif (bif (bif r21 then(decide (r9.2=r10.E)) else false) then r22 else false) then(decide (r11.2=r12.E)) else false) then(decide (r11.1=r12.N)) else false) then(decide (r13.2=r14.E)) else false) (WY r13.1 r14.L)) fun r23 =>
   some (bif (bif (bif (bif (bif (bif r21 then(decide (r9.2=r10.E)) else false) then r22 else false) then(decide (r11.2=r12.E)) else false) then(decide (r11.1=r12.N)) else false) then(decide (r13.2=r14.E)) else false) then r23 else false)
   )
  )
end Go.Am

