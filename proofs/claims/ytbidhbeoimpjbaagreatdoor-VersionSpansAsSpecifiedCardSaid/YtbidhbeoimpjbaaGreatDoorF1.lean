/- Part F1: the functions of this seat as functions of plain values. No condition. -/
import Derived.Test.YtbidhbeoimpjbaaGreatDoorX1
set_option linter.unusedVariables false
namespace Go.Am
structure AJ where
 Neg:Bool
 Num:List UInt8
 Den:List UInt8
deriving DecidableEq,Inhabited
structure AF where
 Stage:Int
 Flow:AJ
deriving DecidableEq,Inhabited
structure AH where
 Points:List AF
deriving DecidableEq,Inhabited
structure Ac where
 Kind:Int
 Gauge:Int
 Seq:Int
 Known:Int
 From:Int
 To:Int
 Shift:Int
 Curve:AH
deriving DecidableEq,Inhabited
structure CD where
 e0:Int
 e1:Int
 e2:Int
 e3:Int
deriving DecidableEq,Inhabited
structure Au where
 From:Int
 To:Int
deriving DecidableEq,Inhabited
structure BC where
 Gauge:Int
 Known:Int
 Ticks:Au
 Weight:AJ
deriving DecidableEq,Inhabited
structure CP where
 e0:List Ac
 e1:List Ac
 e2:List Ac
deriving DecidableEq,Inhabited
structure AB where
 From:Int
 To:Int
 Weight:AJ
 Datum:Int
 Curve:AH
deriving DecidableEq,Inhabited
structure BM where
 neg:Bool
 num:List UInt8
 den:List UInt8
deriving DecidableEq,Inhabited
structure FI where
 Q:List UInt8
 R:List UInt8
 E:Int
deriving DecidableEq,Inhabited
structure FJ where
 S:List UInt8
 E:Int
deriving DecidableEq,Inhabited
structure Bw where
 L:List AB
 E:Int
deriving DecidableEq,Inhabited
structure Ba where
 L:List Ac
 E:Int
deriving DecidableEq,Inhabited
structure CQ where
 V:Ac
 E:Int
deriving DecidableEq,Inhabited
structure CE where
 N:Int
 E:Int
deriving DecidableEq,Inhabited
structure CR where
 L:List Int
 E:Int
deriving DecidableEq,Inhabited
structure BT where
 L:List Au
 E:Int
deriving DecidableEq,Inhabited
def wz2k(x y:AJ):Bool:=((x.Neg==y.Neg)&&(decide (x.Num=y.Num)&&(decide (x.Den=y.Den)&&true)))
def wz9t(x y:AF):Bool:=(decide (x.Stage=y.Stage)&&((x.Flow.Neg==y.Flow.Neg)&&(decide (x.Flow.Num=y.Flow.Num)&&(decide (x.Flow.Den=y.Flow.Den)&&true))))
def jz8t(x y:CD):Bool:=(decide (x.e0=y.e0)&&(decide (x.e1=y.e1)&&(decide (x.e2=y.e2)&&(decide (x.e3=y.e3)&&true))))
def wz9x(x y:Au):Bool:=(decide (x.From=y.From)&&(decide (x.To=y.To)&&true))
def jz73(x y:BC):Bool:=(decide (x.Gauge=y.Gauge)&&(decide (x.Known=y.Known)&&(decide (x.Ticks.From=y.Ticks.From)&&(decide (x.Ticks.To=y.Ticks.To)&&((x.Weight.Neg==y.Weight.Neg)&&(decide (x.Weight.Num=y.Weight.Num)&&(decide (x.Weight.Den=y.Weight.Den)&&true)))))))
def wz8j(x y:BM):Bool:=((x.neg==y.neg)&&(decide (x.num=y.num)&&(decide (x.den=y.den)&&true)))
def wz78(x y:FI):Bool:=(decide (x.Q=y.Q)&&(decide (x.R=y.R)&&(decide (x.E=y.E)&&true)))
def wz86(x y:FJ):Bool:=(decide (x.S=y.S)&&(decide (x.E=y.E)&&true))
def jz7z(x y:CE):Bool:=(decide (x.N=y.N)&&(decide (x.E=y.E)&&true))
def Bb(a:Int):List Int->List Int
 |[]=>[a]
 |b :: l=>bif decide (a<=b) then a :: b :: l else b :: Bb a l
def Bm:List Int->List Int
 |[]=>[]
 |a :: l=>Bb a (Bm l)
def CF(l:List Int):Option (List Int):=ck (decide (0<l.length)&&decide (l.length<=1000000000)) (some (Bm l))
def I4(l:List Int):Option (List Int):=ck (decide (l.length<=4611686018427387904)) (some l.reverse)
def Gw(l:List Int):Option (List Int):=ck (decide (0<l.length)&&decide (l.length*4<=140737488355328)) (some l)
def Ho(l:List AF):Option (List AF):=ck (decide (0<l.length)&&decide (l.length*48<=140737488355328)) (some l)
def cpA{α:Type}(eq:α->α->Option Bool)(a:α):List α->Option (List α)
 |[]=>some []
 |b :: l=>bd (eq b a) fun q=>bd (cpA eq b l) fun r=>some (bif q then r else b :: r)
def cpF{α:Type}(eq:α->α->Option Bool):List α->Option (List α)
 |[]=>some []
 |a :: l=>bd (cpA eq a l) fun r=>some (a :: r)
def WQ(l:List Ac)(eq:Ac->Ac->Option Bool):Option (List Ac):=ck (decide (l.length<=1000000)) (cpF eq l)
def Xe(l:List Int):Option (List Int):=ck (decide (l.length<=1000000)) (cpF (fun a b=>some (decide (a=b))) l)
def WB(l:List (List Ac)):Option (List Ac):=ck (decide (List.length (List.flatten l)<=1000000)&&decide (l.length<=1000000)) (some (List.flatten l))
def Rh(ac0:AH):Int->Option (Int⊕(Unit⊕Bool)):=fun s=>match s with
 |k3 =>
  ite' (decide (k3<(ac0.Points.length:Int))) (
   bd (at? ac0.Points k3) fun x1 =>
   bd (gd (!(decide (12<(x1.Flow.Num.length:Int)))) (at? ac0.Points k3)) fun x2 =>
   ite' (bif (decide (12<(x1.Flow.Num.length:Int))) then true else(decide (12<(x2.Flow.Den.length:Int)))) (
    some (.inr (.inr false))
    ) (
    ck (At .i64 (k3+1)) <|
    some (.inl (k3+1))
    )
   ) (
   some (.inr (.inl ()))
   )
def Ku(ac0:AH):Option (Bool) :=
 ite' (decide (20<(ac0.Points.length:Int))) (
  some false
  ) (
  bd (lp (Rh ac0) 0)<|fun o=>match o with
  | .inl ()=>(
    some true
   )
  | .inr o=>(
    some o
   )
  )
def jzq5(a0:List Int)(b1:List Int):Int->Option (Int⊕(Unit⊕Bool)):=fun s=>match s with
 |k5 =>
  ite' (decide (k5<(a0.length:Int))) (
   bd (at? a0 k5) fun x1 =>
   bd (at? b1 k5) fun x2 =>
   ite' (!decide (x1=x2)) (
    some (.inr (.inr false))
    ) (
    ck (At .i64 (k5+1)) <|
    some (.inl (k5+1))
    )
   ) (
   some (.inr (.inl ()))
   )
def Xk(a0:List Int)(b1:List Int):Option (Bool) :=
 ite' (!decide ((a0.length:Int)=(b1.length:Int))) (
  some false
  ) (
  bd (lp (jzq5 a0 b1) 0)<|fun o=>match o with
  | .inl ()=>(
    some true
   )
  | .inr o=>(
    some o
   )
  )
def Ri(a0:List Au)(b1:List Au):Int->Option (Int⊕(Unit⊕Bool)):=fun s=>match s with
 |k5 =>
  ite' (decide (k5<(a0.length:Int))) (
   bd (at? a0 k5) fun x1 =>
   bd (at? b1 k5) fun x2 =>
   ite' (!(decide (x1.From=x2.From)&&(decide (x1.To=x2.To)&&true))) (
    some (.inr (.inr false))
    ) (
    ck (At .i64 (k5+1)) <|
    some (.inl (k5+1))
    )
   ) (
   some (.inr (.inl ()))
   )
def Kv(a0:List Au)(b1:List Au):Option (Bool) :=
 ite' (!decide ((a0.length:Int)=(b1.length:Int))) (
  some false
  ) (
  bd (lp (Ri a0 b1) 0)<|fun o=>match o with
  | .inl ()=>(
    some true
   )
  | .inr o=>(
    some o
   )
  )
def Xl(a0:AH)(b1:AH):Int->Option (Int⊕(Unit⊕Bool)):=fun s=>match s with
 |k5 =>
  ite' (decide (k5<(a0.Points.length:Int))) (
   bd (at? a0.Points k5) fun x1 =>
   bd (at? b1.Points k5) fun x2 =>
   ite' (!(decide (x1.Stage=x2.Stage)&&((x1.Flow.Neg==x2.Flow.Neg)&&(decide (x1.Flow.Num=x2.Flow.Num)&&(decide (x1.Flow.Den=x2.Flow.Den)&&true))))) (
    some (.inr (.inr false))
    ) (
    ck (At .i64 (k5+1)) <|
    some (.inl (k5+1))
    )
   ) (
   some (.inr (.inl ()))
   )
def I8(a0:AH)(b1:AH):Option (Bool) :=
 ite' (!decide ((a0.Points.length:Int)=(b1.Points.length:Int))) (
  some false
  ) (
  bd (lp (Xl a0 b1) 0)<|fun o=>match o with
  | .inl ()=>(
    some true
   )
  | .inr o=>(
    some o
   )
  )
def Rj(am:Ac->Ac->Option Int)(az:Ac)(ax0:List Ac):(Int×Int)->Option ((Int×Int)⊕Int):=fun s=>match s with
 |(i9,j10) =>
  ite' (decide (i9<j10)) (
   ck (At .i64 (i9+j10)) <|
   ck (At .i64 (Int.fdiv ((i9+j10)%18446744073709551616) 2)) <|
   bd (at? ax0 (Int.fdiv ((i9+j10)%18446744073709551616) 2)) fun x1 =>
   bd (am x1 az) fun r1 =>
   ite' (decide (r1<0)) (
    ck (At .i64 ((Int.fdiv ((i9+j10)%18446744073709551616) 2)+1)) <|
    some (.inl (((Int.fdiv ((i9+j10)%18446744073709551616) 2)+1),j10))
    ) (
    some (.inl (i9,(Int.fdiv ((i9+j10)%18446744073709551616) 2)))
    )
   ) (
   some (.inr i9)
   )
def I7(ax0:List Ac)(az:Ac)(am:Ac->Ac->Option Int):Option (Int×Bool) :=
 bd (lp (Rj am az ax0) (0,(ax0.length:Int)))<|fun i9 =>
 bd (gd (decide (i9<(ax0.length:Int))) (at? ax0 i9)) fun x2 =>
 bd (gd (decide (i9<(ax0.length:Int))) (am x2 az)) fun r2 =>
 some (i9,(bif (decide (i9<(ax0.length:Int))) then(decide (r2=0)) else false))
def Rk(bh:Int)(be:Int):Option (Int) :=
 ite' (bif (bif (bif (decide (bh<0)) then true else(decide (1402560<=bh))) then true else(decide (be<0))) then true else(decide (14609<be))) (
  some 3
  ) (
  some 0
  )
def Rl(ae:Int)(ag:Int)(a9:Int)(l0:List Ac)(aa:Int):((Option Ac)×Int)->Option (((Option Ac)×Int)⊕(Option Ac)):=fun s=>match s with
 |(aj,t16) =>
  ite' (decide (t16<(l0.length:Int))) (
   bd (at? l0 t16) fun x1 =>
   bd (α:=Unit⊕Unit) (
    ite' (bif (bif (bif (bif (!decide (x1.Kind=ag)) then true else(!decide (x1.Gauge=ae))) then true else(decide (a9<x1.Known))) then true else(decide (aa<x1.From))) then true else(decide (x1.To<=aa))) (
     some (.inr ())
     ) (
     some (.inl ())
     )
   )<|fun o=>match o with
    | .inl ()=>(
      bd (gd (!(!(Option.isSome aj))) (aj)) fun x2 =>
      bd (gd (!(bif (!(Option.isSome aj)) then true else(decide (x2.Known<x1.Known)))) (aj)) fun x3 =>
      bd (gd ((!(bif (!(Option.isSome aj)) then true else(decide (x2.Known<x1.Known))))&&(decide (x1.Known=x3.Known))) (aj)) fun x4 =>
      ite' (bif (bif (!(Option.isSome aj)) then true else(decide (x2.Known<x1.Known))) then true else(bif (decide (x1.Known=x3.Known)) then(decide (x4.Seq<x1.Seq)) else false)) (
       ck (At .i64 (t16+1)) <|
       some (.inl ((some x1),(t16+1)))
       ) (
       ck (At .i64 (t16+1)) <|
       some (.inl (aj,(t16+1)))
       )
     )
    | .inr ()=>(
      ck (At .i64 (t16+1)) <|
      some (.inl (aj,(t16+1)))
     )
   ) (
   some (.inr aj)
   )
def Gx(l0:List Ac)(ag:Int)(ae:Int)(aa:Int)(a9:Int):Option ((Option Ac)) :=
 bd (lp (Rl ae ag a9 l0 aa) (none,0))<|fun aj =>
 some aj
def Rm(ae:Int)(ag:Int)(a9:Int)(l0:List Ac)(aa:Int):(Int×Int)->Option ((Int×Int)⊕Int):=fun s=>match s with
 |(b4,k12) =>
  ite' (decide (k12<(l0.length:Int))) (
   bd (at? l0 k12) fun x1 =>
   bd (gd ((bif (bif (bif (bif (decide (x1.Kind=ag)) then(decide (x1.Gauge=ae)) else false) then(decide (x1.Known<=a9)) else false) then(decide (x1.From<=aa)) else false) then(decide (aa<x1.To)) else false)&&(!(decide (b4<0)))) (at? l0 (max 0 b4))) fun x2 =>
   ite' (bif (bif (bif (bif (bif (decide (x1.Kind=ag)) then(decide (x1.Gauge=ae)) else false) then(decide (x1.Known<=a9)) else false) then(decide (x1.From<=aa)) else false) then(decide (aa<x1.To)) else false) then(bif (decide (b4<0)) then true else(decide (x2.Known<=x1.Known))) else false) (
    ck (At .i64 (k12+1)) <|
    some (.inl (k12,(k12+1)))
    ) (
    ck (At .i64 (k12+1)) <|
    some (.inl (b4,(k12+1)))
    )
   ) (
   some (.inr b4)
   )
def Hr(l0:List Ac)(ag:Int)(ae:Int)(aa:Int)(a9:Int):Option (Int) :=
 bd (lp (Rm ae ag a9 l0 aa) ((-1),0))<|fun b4 =>
 some b4
def Kw(l0:List Ac)(ag:Int)(ae:Int)(aa:Int)(a9:Int):Option (Int) :=
 bd (Gx l0 ag ae aa a9) fun r1 =>
 ite' (Option.isSome r1) (
  bd (r1) fun x1 =>
  some x1.Shift
  ) (
  some 0
  )
def I9(a0:Ac)(b1:Ac):Option (Bool) :=
 some (bif (decide (a0.Gauge<b1.Gauge)) then true else(bif (decide (a0.Gauge=b1.Gauge)) then(decide (a0.Seq<b1.Seq)) else false))
def Kx(a3:Int)(l0:List Ac)(ax:Int):(Int×Int)->Option ((Int×Int)⊕Int):=fun s=>match s with
 |(al,k12) =>
  ite' (decide (k12<(l0.length:Int))) (
   bd (at? l0 k12) fun x1 =>
   bd (gd (decide (x1.Gauge=a3)) (at? l0 k12)) fun x2 =>
   bd (α:=Int) (
    ite' (bif (decide (x1.Gauge=a3)) then(decide (ax<x2.From)) else false) (
     bd (at? l0 k12) fun x3 =>
     some (min al x3.From)
     ) (
     some al
     )
   )<|fun al' =>
    bd (at? l0 k12) fun x4 =>
    bd (gd (decide (x4.Gauge=a3)) (at? l0 k12)) fun x5 =>
    ite' (bif (decide (x4.Gauge=a3)) then(decide (ax<x5.To)) else false) (
     bd (at? l0 k12) fun x6 =>
     ck (At .i64 (k12+1)) <|
     some (.inl ((min al' x6.To),(k12+1)))
     ) (
     ck (At .i64 (k12+1)) <|
     some (.inl (al',(k12+1)))
     )
   ) (
   some (.inr al)
   )
def Rn(a3:Int)(l0:List Ac)(to3:Int):(Int×(List Int))->Option ((Int×(List Int))⊕(List Int)):=fun s=>match s with
 |(ax,l0') =>
  ite' (decide (ax<to3)) (
   bd (lp (Kx a3 l0 ax) (to3,0))<|fun al =>
   ck (decide (List.length (l0'++[al])*8<=140737488355328)) <|
   some (.inl (al,(l0'++[al])))
   ) (
   some (.inr l0')
   )
def Ky(l0:List Ac)(a3:Int)(bg:Int)(to3:Int):Option ((List Int)) :=
 bd (lp (Rn a3 l0 to3) (bg,[bg]))<|fun l0' =>
 some l0'
def ND(a0:List Ac)(b1:List Ac)(v2:Ac)(aa:Int)(a9:Int):Option (Bool) :=
 bd (Hr a0 v2.Kind v2.Gauge aa a9) fun r1 =>
 bd (Hr b1 v2.Kind v2.Gauge aa a9) fun r2 =>
 ite' (decide (r2<0)) (
  some false
  ) (
  ite' (decide (r1<0)) (
   bd (gd (!(decide (v2.Kind=1))) (at? b1 r2)) fun x1 =>
   some (bif (decide (v2.Kind=1)) then true else(!decide (x1.Shift=0)))
   ) (
   bd (at? a0 r1) fun x2 =>
   bd (at? b1 r2) fun x3 =>
   bd (I8 x2.Curve x3.Curve) fun r3 =>
   bd (gd (!(!r3)) (at? a0 r1)) fun x4 =>
   bd (gd (!(!r3)) (at? b1 r2)) fun x5 =>
   some (bif (!r3) then true else(!decide (x4.Shift=x5.Shift)))
   )
  )
def yzy(n0:Int):Option (Bool) :=
 some (bif (decide ((-999999999999999)<=n0)) then(decide (n0<=999999999999999)) else false)
def Ro(bf:Int):Option (Bool) :=
 some (bif (decide ((-1000)<=bf)) then(decide (bf<=2000)) else false)
def Kz(a0:List UInt8):Option (Bool) :=
 ck (!(!(decide (a0=[])))||(CG a0 0)) <|
 some (bif (decide (a0=[])) then true else(!decide ((Di a0 0)=0)))
def Rp(c0:List Int)(st:List Au->Option Bool):(Int×(List Au))->Option ((Int×(List Au))⊕((List Au)⊕(List Au))):=fun s=>match s with
 |(k3,ys) =>
  ite' (decide (k3<(c0.length:Int))) (
   ck (At .i64 (k3-1)) <|
   bd (at? c0 (k3-1)) fun x1 =>
   bd (at? c0 k3) fun x2 =>
   bd (st (ys++[(Au.mk x1 x2)])) fun s1 =>
   ite' s1 (
    some (.inr (.inr (ys++[(Au.mk x1 x2)])))
    ) (
    ck (At .i64 (k3+1)) <|
    some (.inl ((k3+1),(ys++[(Au.mk x1 x2)])))
    )
   ) (
   some (.inr (.inl ys))
   )
def K0(c0:List Int)(st:List Au->Option Bool):Option (List Au) :=
 bd (lp (Rp c0 st) (1,[]))<|fun o=>match o with
 | .inl ys=>(
   some ys
  )
 | .inr o=>(
   some o
  )
def yzi(b9:List AF)(bc:List AF):Int->Option (Int⊕(Unit⊕Bool)):=fun s=>match s with
 |t13 =>
  ite' (decide (t13<(b9.length:Int))) (
   bd (at? b9 t13) fun x1 =>
   bd (at? bc t13) fun x2 =>
   ite' (!(decide (x1.Stage=x2.Stage)&&((x1.Flow.Neg==x2.Flow.Neg)&&(decide (x1.Flow.Num=x2.Flow.Num)&&(decide (x1.Flow.Den=x2.Flow.Den)&&true))))) (
    some (.inr (.inr false))
    ) (
    ck (At .i64 (t13+1)) <|
    some (.inl (t13+1))
    )
   ) (
   some (.inr (.inl ()))
   )
def Rq(b9:List AF)(bc:List AF):Option (Bool) :=
 ite' (!decide ((b9.length:Int)=(bc.length:Int))) (
  some false
  ) (
  bd (lp (yzi b9 bc) 0)<|fun o=>match o with
  | .inl ()=>(
    some true
   )
  | .inr o=>(
    some o
   )
  )
def IA(ax0:Int):Option (Bool) :=
 some (!decide (ax0=ax0))
def jz6x(a1:Int)(bb:Ac->Ac->Option Int):(Int×(List Ac))->Option ((Int×(List Ac))⊕(List Ac)):=fun s=>match s with
 |(j9,a2') =>
  bd (gd (decide (a1<j9)) (at? a2' j9)) fun x1 =>
  ck (!(decide (a1<j9))||At .i64 (j9-1)) <|
  bd (gd (decide (a1<j9)) (at? a2' (j9-1))) fun x2 =>
  bd (gd (decide (a1<j9)) (bb x1 x2)) fun r1 =>
  ite' (bif (decide (a1<j9)) then(decide (r1<0)) else false) (
   ck (At .i64 (j9-1)) <|
   ck (At .i64 (j9-1)) <|
   bd (at? a2' (j9-1)) fun x3 =>
   bd (at? a2' j9) fun x4 =>
   bd (at? a2' j9) fun x5 =>
   bd (at? (List.set a2' (Int.toNat j9) x3) (j9-1)) fun x6 =>
   ck (At .i64 (j9-1)) <|
   some (.inl ((j9-1),(List.set (List.set a2' (Int.toNat j9) x3) (Int.toNat (j9-1)) x4)))
   ) (
   some (.inr a2')
   )
def jz6y(a1:Int)(b2:Int)(bb:Ac->Ac->Option Int):(Int×(List Ac))->Option ((Int×(List Ac))⊕(List Ac)):=fun s=>match s with
 |(i8,a2) =>
  ite' (decide (i8<b2)) (
   bd (lp (jz6x a1 bb) (i8,a2))<|fun a2' =>
   ck (At .i64 (i8+1)) <|
   some (.inl ((i8+1),a2'))
   ) (
   some (.inr a2)
   )
def Rr(a8:List Ac)(a1:Int)(b2:Int)(bb:Ac->Ac->Option Int):Option (List Ac) :=
 ck (At .i64 (a1+1)) <|
 bd (lp (jz6y a1 b2 bb) ((a1+1),a8))<|fun a2 =>
 some a2
def Rs(a0:List UInt8):Int->Option (Int⊕Int):=fun s=>match s with
 |k3 =>
  ck (!(decide (k3<(a0.length:Int)))||(CG a0 k3)) <|
  ite' (bif (decide (k3<(a0.length:Int))) then(decide ((Di a0 k3)=0)) else false) (
   ck (At .i64 (k3+1)) <|
   some (.inl (k3+1))
   ) (
   some (.inr k3)
   )
def D4(a0:List UInt8):Option ((List UInt8)) :=
 bd (lp (Rs a0) 0)<|fun k3 =>
 ck (El a0 k3 (a0.length:Int)) <|
 some (sub a0 k3 (a0.length:Int))
def vzd :(List Int)->Option ((List Int)⊕(List Int)):=fun s=>match s with
 |x0 =>
  ck (!(decide (0<(x0.length:Int)))||At .i64 ((x0.length:Int)-1)) <|
  bd (gd (decide (0<(x0.length:Int))) (at? x0 ((x0.length:Int)-1))) fun x1 =>
  ite' (bif (decide (0<(x0.length:Int))) then(decide (x1=0)) else false) (
   ck (At .i64 ((x0.length:Int)-1)) <|
   ck (El x0 0 ((x0.length:Int)-1)) <|
   some (.inl (sub x0 0 ((x0.length:Int)-1)))
   ) (
   some (.inr x0)
   )
def Hs(ax0:List Int):Option ((List Int)) :=
 bd (lp (vzd) ax0)<|fun x0 =>
 some x0
def kzs(by1:Int)(ax0:List Int):(Int×Int×(List Int))->Option ((Int×Int×(List Int))⊕(Int×(List Int))):=fun s=>match s with
 |(b7,k8,l0) =>
  ite' (decide (0<=k8)) (
   bd (at? ax0 k8) fun x1 =>
   ck (!decide ((by1%18446744073709551616)=0)) <|
   ck (!decide ((by1%18446744073709551616)=0)) <|
   bd (at? l0 k8) fun x2 =>
   ck (At .i64 (k8-1)) <|
   some (.inl (((bitI .or .u64 ((b7*4294967296)%18446744073709551616) (x1%18446744073709551616)).tmod (by1%18446744073709551616)),(k8-1),(List.set l0 (Int.toNat k8) ((((bitI .or .u64 ((b7*4294967296)%18446744073709551616) (x1%18446744073709551616)).tdiv (by1%18446744073709551616))%18446744073709551616)%4294967296))))
   ) (
   some (.inr (b7,l0))
   )
def U8(ax0:List Int)(by1:Int):Option ((List Int)×Int) :=
 ck (mkOk (ax0.length:Int) 4) <|
 ck (At .i64 ((ax0.length:Int)-1)) <|
 bd (lp (kzs by1 ax0) (0,((ax0.length:Int)-1),(List.replicate (Int.toNat (ax0.length:Int)) 0)))<|fun(b7,l0) =>
 bd (Hs l0) fun r1 =>
 some (r1,(b7%4294967296))
def IB(a0:List UInt8)(b1:List UInt8):Option (Int) :=
 bd (D4 a0) fun r1 =>
 bd (D4 b1) fun r2 =>
 ite' (decide (r1=r2)) (
  some 0
  ) (
  ite' (bif (decide ((r1.length:Int)<(r2.length:Int))) then true else(bif (decide ((r1.length:Int)=(r2.length:Int))) then(Op.bytesLess r1 r2) else false)) (
   some (-1)
   ) (
   some 1
   )
  )
def jz62(a1:Int)(b2:Int)(n3:Int):(Int×(List Ac))->Option ((Int×(List Ac))⊕(List Ac)):=fun s=>match s with
 |(i10,a2) =>
  ite' (decide (i10<n3)) (
   ck (At .i64 (a1+i10)) <|
   ck (At .i64 (b2+i10)) <|
   ck (At .i64 (b2+i10)) <|
   bd (at? a2 (b2+i10)) fun x1 =>
   ck (At .i64 (a1+i10)) <|
   bd (at? a2 (a1+i10)) fun x2 =>
   bd (at? a2 (a1+i10)) fun x3 =>
   bd (at? (List.set a2 (Int.toNat (a1+i10)) x1) (b2+i10)) fun x4 =>
   ck (At .i64 (i10+1)) <|
   some (.inl ((i10+1),(List.set (List.set a2 (Int.toNat (a1+i10)) x1) (Int.toNat (b2+i10)) x2)))
   ) (
   some (.inr a2)
   )
def NE(a8:List Ac)(a1:Int)(b2:Int)(n3:Int)(af:Ac->Ac->Option Int):Option (List Ac) :=
 bd (lp (jz62 a1 b2 n3) (0,a8))<|fun a2 =>
 some a2
def K2(a0:AJ):Option ((List UInt8)×(List UInt8)) :=
 ite' (decide (a0.Num=[])) (
  some ([],[1])
  ) (
  some (a0.Num,a0.Den)
  )
def Rt(ax0:List Int)(k1:Int):Option (Int) :=
 ite' (decide (k1<(ax0.length:Int))) (
  bd (at? ax0 k1) fun x1 =>
  some (x1%18446744073709551616)
  ) (
  some 0
  )
def FK(a0:List UInt8)(k1:Int):Option (Int) :=
 ite' (decide ((a0.length:Int)<=k1)) (
  some 0
  ) (
  ck (At .i64 ((a0.length:Int)-1)) <|
  ck (At .i64 (((a0.length:Int)-1)-k1)) <|
  ck (CG a0 (((a0.length:Int)-1)-k1)) <|
  ck (At .i64 (Di a0 (((a0.length:Int)-1)-k1))) <|
  some (Di a0 (((a0.length:Int)-1)-k1))
  )
def Ru(l0:List Int):(Int×(List Int))->Option ((Int×(List Int))⊕(List Int)):=fun s=>match s with
 |(k4,l1) =>
  ite' (decide (0<=k4)) (
   bd (at? l0 k4) fun x1 =>
   ck (decide (List.length (l1++[(x1%256)])*1<=140737488355328)) <|
   ck (At .i64 (k4-1)) <|
   some (.inl ((k4-1),(l1++[(x1%256)])))
   ) (
   some (.inr l1)
   )
def IC(l0:List Int):Option ((List UInt8)) :=
 ck (At .i64 ((l0.length:Int)-1)) <|
 bd (lp (Ru l0) (((l0.length:Int)-1),[]))<|fun l1 =>
 bd (D4 (CS l1)) fun r1 =>
 some r1
def vze(ax0:List Int)(y1:List Int):(Int×Int×(List Int))->Option ((Int×Int×(List Int))⊕(List Int)):=fun s=>match s with
 |(an,t15,l1) =>
  ite' (decide (t15<((max (ax0.length:Int) (y1.length:Int))+1))) (
   bd (Rt ax0 t15) fun r1 =>
   bd (Rt y1 t15) fun r2 =>
   ck (decide (List.length (l1++[(((((r1+r2)%18446744073709551616)+an)%18446744073709551616)%4294967296)])*4<=140737488355328)) <|
   ck (At .i64 (t15+1)) <|
   some (.inl ((Int.fdiv ((((r1+r2)%18446744073709551616)+an)%18446744073709551616) 4294967296),(t15+1),(l1++[(((((r1+r2)%18446744073709551616)+an)%18446744073709551616)%4294967296)])))
   ) (
   some (.inr l1)
   )
def Xm(ax0:List Int)(y1:List Int):Option ((List Int)) :=
 ck (At .i64 ((max (ax0.length:Int) (y1.length:Int))+1)) <|
 bd (lp (vze ax0 y1) (0,0,[]))<|fun l1 =>
 bd (Hs l1) fun r3 =>
 some r3
def K3(ax0:Int):Option (Bool) :=
 some (!decide (ax0=ax0))
def wz7(ac1:Int):(List UInt8)->Option ((List UInt8)⊕(List UInt8)):=fun s=>match s with
 |s0 =>
  ck (!(decide (0<(s0.length:Int)))||(CG s0 0)) <|
  ite' (bif (decide (0<(s0.length:Int))) then(decide ((Di s0 0)=ac1)) else false) (
   ck (El s0 1 (s0.length:Int)) <|
   some (.inl (sub s0 1 (s0.length:Int)))
   ) (
   some (.inr s0)
   )
def jzz(as0:List UInt8)(ac1:Int):Option ((List UInt8)) :=
 bd (lp (wz7 ac1) as0)<|fun s0 =>
 some s0
def Rw(l0:List Ac):Int->Option (Int⊕(Unit⊕Bool)):=fun s=>match s with
 |k5 =>
  ite' (decide (k5<(l0.length:Int))) (
   bd (at? l0 k5) fun x1 =>
   bd (Ku x1.Curve) fun r1 =>
   ite' (!r1) (
    some (.inr (.inr false))
    ) (
    ck (At .i64 (k5+1)) <|
    some (.inl (k5+1))
    )
   ) (
   some (.inr (.inl ()))
   )
def NF(l0:List Ac)(bp:Int):Option (Bool) :=
 ite' (bif (bif (decide (bp<(l0.length:Int))) then(decide ((l0.length:Int)<=400)) else false) then true else(decide (410<(l0.length:Int)))) (
  some false
  ) (
  bd (lp (Rw l0) 0)<|fun o=>match o with
  | .inl ()=>(
    some true
   )
  | .inr o=>(
    some o
   )
  )
def K4(a0:Ac)(b1:Ac):Option (Bool) :=
 bd (I8 a0.Curve b1.Curve) fun r1 =>
 some (bif (bif (bif (bif (bif (bif (bif r1 then(decide (a0.Kind=b1.Kind)) else false) then(decide (a0.Gauge=b1.Gauge)) else false) then(decide (a0.Seq=b1.Seq)) else false) then(decide (a0.Known=b1.Known)) else false) then(decide (a0.From=b1.From)) else false) then(decide (a0.To=b1.To)) else false) then(decide (a0.Shift=b1.Shift)) else false)
def Ry(a0:List AB)(b1:List AB):Int->Option (Int⊕(Unit⊕Bool)):=fun s=>match s with
 |k5 =>
  ite' (decide (k5<(a0.length:Int))) (
   bd (at? a0 k5) fun x1 =>
   bd (at? b1 k5) fun x2 =>
   bd (I8 x1.Curve x2.Curve) fun r1 =>
   bd (gd (!(!r1)) (at? a0 k5)) fun x3 =>
   bd (gd (!(!r1)) (at? b1 k5)) fun x4 =>
   bd (gd (!(bif (!r1) then true else(!decide (x3.From=x4.From)))) (at? a0 k5)) fun x5 =>
   bd (gd (!(bif (!r1) then true else(!decide (x3.From=x4.From)))) (at? b1 k5)) fun x6 =>
   bd (gd (!(bif (bif (!r1) then true else(!decide (x3.From=x4.From))) then true else(!decide (x5.To=x6.To)))) (at? a0 k5)) fun x7 =>
   bd (gd (!(bif (bif (!r1) then true else(!decide (x3.From=x4.From))) then true else(!decide (x5.To=x6.To)))) (at? b1 k5)) fun x8 =>
   bd (gd (!(bif (bif (bif (!r1) then true else(!decide (x3.From=x4.From))) then true else(!decide (x5.To=x6.To))) then true else(!((x7.Weight.Neg==x8.Weight.Neg)&&(decide (x7.Weight.Num=x8.Weight.Num)&&(decide (x7.Weight.Den=x8.Weight.Den)&&true)))))) (at? a0 k5)) fun x9 =>
   bd (gd (!(bif (bif (bif (!r1) then true else(!decide (x3.From=x4.From))) then true else(!decide (x5.To=x6.To))) then true else(!((x7.Weight.Neg==x8.Weight.Neg)&&(decide (x7.Weight.Num=x8.Weight.Num)&&(decide (x7.Weight.Den=x8.Weight.Den)&&true)))))) (at? b1 k5)) fun x10 =>
   ite' (bif (bif (bif (bif (!r1) then true else(!decide (x3.From=x4.From))) then true else(!decide (x5.To=x6.To))) then true else(!((x7.Weight.Neg==x8.Weight.Neg)&&(decide (x7.Weight.Num=x8.Weight.Num)&&(decide (x7.Weight.Den=x8.Weight.Den)&&true))))) then true else(!decide (x9.Datum=x10.Datum))) (
    some (.inr (.inr false))
    ) (
    ck (At .i64 (k5+1)) <|
    some (.inl (k5+1))
    )
   ) (
   some (.inr (.inl ()))
   )
def ID(a0:List AB)(b1:List AB):Option (Bool) :=
 ite' (!decide ((a0.length:Int)=(b1.length:Int))) (
  some false
  ) (
  bd (lp (Ry a0 b1) 0)<|fun o=>match o with
  | .inl ()=>(
    some true
   )
  | .inr o=>(
    some o
   )
  )
def Rz(l0:List Ac)(v1:Ac):(Bool×Int×(List Ac))->Option ((Bool×Int×(List Ac))⊕(Bool×(List Ac))):=fun s=>match s with
 |(av,k7,l2) =>
  ite' (decide (k7<(l0.length:Int))) (
   bd (at? l0 k7) fun x1 =>
   bd (I9 v1 x1) fun r1 =>
   bd (at? l0 k7) fun x2 =>
   bd (I9 x2 v1) fun r2 =>
   bd (α:=Bool×(List Ac)) (
    ite' (bif (!av) then(!r2) else false) (
     ck (decide (List.length (l2++[v1])*80<=140737488355328)) <|
     some (true,(l2++[v1]))
     ) (
     some (av,l2)
     )
   )<|fun(av',l2') =>
    ite' (bif r1 then true else r2) (
     bd (at? l0 k7) fun x3 =>
     ck (decide (List.length (l2'++[x3])*80<=140737488355328)) <|
     ck (At .i64 (k7+1)) <|
     some (.inl (av',(k7+1),(l2'++[x3])))
     ) (
     ck (At .i64 (k7+1)) <|
     some (.inl (av',(k7+1),l2'))
     )
   ) (
   some (.inr (av,l2))
   )
def NG(l0:List Ac)(v1:Ac):Option ((List Ac)) :=
 bd (lp (Rz l0 v1) (false,0,[]))<|fun(av,l2) =>
 ite' (!av) (
  ck (decide (List.length (l2++[v1])*80<=140737488355328)) <|
  some (l2++[v1])
  ) (
  some l2
  )
def D5(a3:Int)(t2:Au)(x1:Ac):(Int×(List (Int×Bool)))->Option ((Int×(List (Int×Bool)))⊕(List (Int×Bool))):=fun s=>match s with
 |(t32,m1') =>
  ite' (decide (t32<(List.length [x1.From,x1.To]:Int))) (
   bd (at? [x1.From,x1.To] t32) fun x2 =>
   ite' (bif (bif (decide (x1.Gauge=a3)) then(decide (t2.From<x2)) else false) then(decide (x2<t2.To)) else false) (
    ck (At .i64 (t32+1)) <|
    some (.inl ((t32+1),(mput keqI m1' x2 true)))
    ) (
    ck (At .i64 (t32+1)) <|
    some (.inl ((t32+1),m1'))
    )
   ) (
   some (.inr m1')
   )
def Er(a3:Int)(l0:List Ac)(t2:Au):(Int×(List (Int×Bool)))->Option ((Int×(List (Int×Bool)))⊕(List (Int×Bool))):=fun s=>match s with
 |(t22,m1) =>
  ite' (decide (t22<(l0.length:Int))) (
   bd (at? l0 t22) fun x1 =>
   bd (lp (D5 a3 t2 x1) (0,m1))<|fun m1' =>
   ck (At .i64 (t22+1)) <|
   some (.inl ((t22+1),m1'))
   ) (
   some (.inr m1)
   )
def Gy(l0:List Ac)(a3:Int)(t2:Au):Option ((List Int)) :=
 bd (lp (Er a3 l0 t2) (0,(mput keqI (mput keqI ([]:List (Int×Bool)) t2.From true) t2.To true)))<|fun m1 =>
 bd (CF (List.map (fun p=>p.1) m1)) fun r1 =>
 some r1
def Ht(a0:AH)(b1:AH):Option (Bool) :=
 bd (Rq a0.Points b1.Points) fun r1 =>
 some r1
def Gz(ax0:Int)(y1:Int):Option (Int) :=
 bd (IA ax0) fun r1 =>
 bd (IA y1) fun r2 =>
 ite' r1 (
  ite' r2 (
   some 0
   ) (
   some (-1)
   )
  ) (
  ite' r2 (
   some 1
   ) (
   ite' (decide (ax0<y1)) (
    some (-1)
    ) (
    ite' (decide (y1<ax0)) (
     some 1
     ) (
     some 0
     )
    )
   )
  )
def K5(a0:List UInt8):Option (Bool) :=
 bd (D4 a0) fun r1 =>
 some (decide (a0=r1))
def R0(a0:List UInt8)(au:Int):(Int×Int)->Option ((Int×Int)⊕Int):=fun s=>match s with
 |(aw,t22) =>
  ite' (decide (t22<(List.length (bytes (sub a0 (max 0 (au-4)) au)):Int))) (
   bd (at? (bytes (sub a0 (max 0 (au-4)) au)) t22) fun x1 =>
   ck (At .i64 (t22+1)) <|
   some (.inl ((bitI .or .u32 ((aw*256)%4294967296) (x1%4294967296)),(t22+1)))
   ) (
   some (.inr aw)
   )
def R3(a0:List UInt8):(Int×(List Int))->Option ((Int×(List Int))⊕(List Int)):=fun s=>match s with
 |(au,l2) =>
  ite' (decide (0<au)) (
   ck (At .i64 (au-4)) <|
   ck (El a0 (max 0 (au-4)) au) <|
   bd (lp (R0 a0 au) (0,0))<|fun aw =>
   ck (decide (List.length (l2++[aw])*4<=140737488355328)) <|
   ck (At .i64 (au-4)) <|
   some (.inl ((au-4),(l2++[aw])))
   ) (
   some (.inr l2)
   )
def GQ(a0:List UInt8):Option ((List Int)) :=
 bd (lp (R3 a0) ((a0.length:Int),[]))<|fun l2 =>
 bd (Hs l2) fun r1 =>
 some r1
def jz7b(af:Ac->Ac->Option Int)(m2:Int):(Int×Int×(List Ac))->Option ((Int×Int×(List Ac))⊕(Int×(List Ac))):=fun s=>match s with
 |(i10,j11,a2) =>
  ite' (!decide (i10=j11)) (
   ite' (decide (j11<i10)) (
    ck (At .i64 (m2-i10)) <|
    bd (NE a2 (m2-i10) m2 j11 af) fun r1 =>
    ck (At .i64 (i10-j11)) <|
    some (.inl ((i10-j11),j11,r1))
    ) (
    ck (At .i64 (m2-i10)) <|
    ck (At .i64 (m2+j11)) <|
    ck (At .i64 ((m2+j11)-i10)) <|
    bd (NE a2 (m2-i10) ((m2+j11)-i10) i10 af) fun r2 =>
    ck (At .i64 (j11-i10)) <|
    some (.inl (i10,(j11-i10),r2))
    )
   ) (
   some (.inr (i10,a2))
   )
def Xo(a8:List Ac)(a1:Int)(m2:Int)(b3:Int)(af:Ac->Ac->Option Int):Option (List Ac) :=
 ck (At .i64 (m2-a1)) <|
 ck (At .i64 (b3-m2)) <|
 bd (lp (jz7b af m2) ((m2-a1),(b3-m2),a8))<|fun(i10,a2) =>
 ck (At .i64 (m2-i10)) <|
 bd (NE a2 (m2-i10) m2 i10 af) fun r3 =>
 some r3
def jzl(t20:Int)(x1:Int)(y1:List Int):(Int×Int×(List Int))->Option ((Int×Int×(List Int))⊕(List Int)):=fun s=>match s with
 |(ba,k9,l0') =>
  ite' (bif (decide (k9<(y1.length:Int))) then true else(decide (0<ba))) (
   bd (Rt y1 k9) fun r1 =>
   ck (At .i64 (t20+k9)) <|
   bd (at? l0' (t20+k9)) fun x2 =>
   ck (At .i64 (t20+k9)) <|
   bd (at? l0' (t20+k9)) fun x3 =>
   ck (At .i64 (k9+1)) <|
   some (.inl ((Int.fdiv (((((((x1%18446744073709551616)*r1)%18446744073709551616)+(x2%18446744073709551616))%18446744073709551616)+ba)%18446744073709551616) 4294967296),(k9+1),(List.set l0' (Int.toNat (t20+k9)) ((((((((x1%18446744073709551616)*r1)%18446744073709551616)+(x2%18446744073709551616))%18446744073709551616)+ba)%18446744073709551616)%4294967296))))
   ) (
   some (.inr l0')
   )
def kzu(ax0:List Int)(y1:List Int):(Int×(List Int))->Option ((Int×(List Int))⊕(List Int)):=fun s=>match s with
 |(t20,l0) =>
  ite' (decide (t20<(ax0.length:Int))) (
   bd (at? ax0 t20) fun x1 =>
   bd (lp (jzl t20 x1 y1) (0,0,l0))<|fun l0' =>
   ck (At .i64 (t20+1)) <|
   some (.inl ((t20+1),l0'))
   ) (
   some (.inr l0)
   )
def R4(ax0:List Int)(y1:List Int):Option ((List Int)) :=
 ck (At .i64 ((ax0.length:Int)+(y1.length:Int))) <|
 ck (At .i64 (((ax0.length:Int)+(y1.length:Int))+1)) <|
 ck (mkOk (((ax0.length:Int)+(y1.length:Int))+1) 4) <|
 bd (lp (kzu ax0 y1) (0,(List.replicate (Int.toNat (((ax0.length:Int)+(y1.length:Int))+1)) 0)))<|fun l0 =>
 bd (Hs l0) fun r2 =>
 some r2
def kzo(ax0:List Int)(y1:List Int):(Int×Int×(List Int))->Option ((Int×Int×(List Int))⊕(List Int)):=fun s=>match s with
 |(ah,t11,l1) =>
  ite' (decide (t11<(ax0.length:Int))) (
   bd (at? ax0 t11) fun x1 =>
   bd (Rt y1 t11) fun r1 =>
   ck (decide (List.length (l1++[((((((x1%18446744073709551616)-r1)%18446744073709551616)-ah)%18446744073709551616)%4294967296)])*4<=140737488355328)) <|
   ck (At .i64 (t11+1)) <|
   some (.inl ((Int.fdiv (((((x1%18446744073709551616)-r1)%18446744073709551616)-ah)%18446744073709551616) 9223372036854775808),(t11+1),(l1++[((((((x1%18446744073709551616)-r1)%18446744073709551616)-ah)%18446744073709551616)%4294967296)])))
   ) (
   some (.inr l1)
   )
def R5(ax0:List Int)(y1:List Int):Option ((List Int)) :=
 bd (lp (kzo ax0 y1) (0,0,[]))<|fun l1 =>
 bd (Hs l1) fun r2 =>
 some r2
def R6(a0:List UInt8)(b1:List UInt8):(Int×Int×(List Int))->Option ((Int×Int×(List Int))⊕(List Int)):=fun s=>match s with
 |(ah,k7,l2) =>
  ite' (decide (k7<(a0.length:Int))) (
   bd (FK a0 k7) fun r2 =>
   bd (FK b1 k7) fun r3 =>
   ck (At .i64 (r2-r3)) <|
   ck (At .i64 ((r2-r3)-ah)) <|
   bd (α:=Int×Int) (
    ite' (decide (((r2-r3)-ah)<0)) (
     ck (At .i64 (((r2-r3)-ah)+256)) <|
     some (1,(((r2-r3)-ah)+256))
     ) (
     some (0,((r2-r3)-ah))
     )
   )<|fun(ah',n8) =>
    ck (decide (List.length (l2++[n8])*8<=140737488355328)) <|
    ck (At .i64 (k7+1)) <|
    some (.inl (ah',(k7+1),(l2++[n8])))
   ) (
   some (.inr l2)
   )
def IE(a0:List UInt8)(b1:List UInt8):Option (FJ) :=
 bd (IB a0 b1) fun r1 =>
 ite' (decide (r1<0)) (
  some (FJ.mk [] 3)
  ) (
  bd (lp (R6 a0 b1) (0,0,[]))<|fun l2 =>
  bd (IC l2) fun r4 =>
  some (FJ.mk r4 0)
  )
def NH(a0:List UInt8)(b1:List UInt8)(i6:Int):(Int×Int×(List Int))->Option ((Int×Int×(List Int))⊕(List Int)):=fun s=>match s with
 |(b5,k8,l0') =>
  ite' (decide (k8<=(b1.length:Int))) (
   ck (At .i64 (i6+k8)) <|
   bd (at? l0' (i6+k8)) fun x1 =>
   bd (FK a0 i6) fun r1 =>
   bd (FK b1 k8) fun r2 =>
   ck (At .i64 (r1*r2)) <|
   ck (At .i64 (x1+(r1*r2))) <|
   ck (At .i64 ((x1+(r1*r2))+b5)) <|
   ck (At .i64 (i6+k8)) <|
   bd (at? l0' (i6+k8)) fun x2 =>
   ck (At .i64 (((x1+(r1*r2))+b5).tdiv 256)) <|
   ck (At .i64 (k8+1)) <|
   some (.inl ((((x1+(r1*r2))+b5).tdiv 256),(k8+1),(List.set l0' (Int.toNat (i6+k8)) (((x1+(r1*r2))+b5).tmod 256))))
   ) (
   some (.inr l0')
   )
def R7(a0:List UInt8)(b1:List UInt8):(Int×(List Int))->Option ((Int×(List Int))⊕(List Int)):=fun s=>match s with
 |(i6,l0) =>
  ite' (decide (i6<(a0.length:Int))) (
   bd (lp (NH a0 b1 i6) (0,0,l0))<|fun l0' =>
   ck (At .i64 (i6+1)) <|
   some (.inl ((i6+1),l0'))
   ) (
   some (.inr l0)
   )
def IF(a0:List UInt8)(b1:List UInt8):Option ((List UInt8)) :=
 ck (At .i64 ((a0.length:Int)+(b1.length:Int))) <|
 ck (At .i64 (((a0.length:Int)+(b1.length:Int))+1)) <|
 ck (mkOk (((a0.length:Int)+(b1.length:Int))+1) 8) <|
 bd (lp (R7 a0 b1) (0,(List.replicate (Int.toNat (((a0.length:Int)+(b1.length:Int))+1)) 0)))<|fun l0 =>
 bd (IC l0) fun r3 =>
 some r3
def R8(a0:List UInt8)(b1:List UInt8):(Int×Int×(List Int))->Option ((Int×Int×(List Int))⊕(List Int)):=fun s=>match s with
 |(an,k7,l1) =>
  ite' (decide (k7<=(max (a0.length:Int) (b1.length:Int)))) (
   bd (FK a0 k7) fun r1 =>
   bd (FK b1 k7) fun r2 =>
   ck (At .i64 (r1+r2)) <|
   ck (At .i64 ((r1+r2)+an)) <|
   ck (decide (List.length (l1++[(((r1+r2)+an).tmod 256)])*8<=140737488355328)) <|
   ck (At .i64 (((r1+r2)+an).tdiv 256)) <|
   ck (At .i64 (k7+1)) <|
   some (.inl ((((r1+r2)+an).tdiv 256),(k7+1),(l1++[(((r1+r2)+an).tmod 256)])))
   ) (
   some (.inr l1)
   )
def NI(a0:List UInt8)(b1:List UInt8):Option ((List UInt8)) :=
 bd (lp (R8 a0 b1) (0,0,[]))<|fun l1 =>
 bd (IC l1) fun r3 =>
 some r3
def NJ(ax0:Int)(y1:Int):Option (Int) :=
 bd (K3 ax0) fun r1 =>
 bd (K3 y1) fun r2 =>
 ite' r1 (
  ite' r2 (
   some 0
   ) (
   some (-1)
   )
  ) (
  ite' r2 (
   some 1
   ) (
   ite' (decide (ax0<y1)) (
    some (-1)
    ) (
    ite' (decide (y1<ax0)) (
     some 1
     ) (
     some 0
     )
    )
   )
  )
def R9(as0:List UInt8)(ao:List UInt8):Option ((List UInt8)) :=
 ite' (bif (decide (as0=[])) then true else(decide (ao=[]))) (
  some as0
  ) (
  ck (!(decide ((ao.length:Int)=1))||(CG ao 0)) <|
  ite' (bif (decide ((ao.length:Int)=1)) then(decide ((Di ao 0)<128)) else false) (
   ck (CG ao 0) <|
   bd (jzz as0 (Di ao 0)) fun r1 =>
   some r1
   ) (
   none
   )
  )
def jz7t(a0:List Ac)(b1:List Ac):Int->Option (Int⊕(Unit⊕Bool)):=fun s=>match s with
 |k5 =>
  ite' (decide (k5<(a0.length:Int))) (
   bd (at? a0 k5) fun x1 =>
   bd (at? b1 k5) fun x2 =>
   bd (K4 x1 x2) fun r1 =>
   ite' (!r1) (
    some (.inr (.inr false))
    ) (
    ck (At .i64 (k5+1)) <|
    some (.inl (k5+1))
    )
   ) (
   some (.inr (.inl ()))
   )
def Xp(a0:List Ac)(b1:List Ac):Option (Bool) :=
 ite' (!decide ((a0.length:Int)=(b1.length:Int))) (
  some false
  ) (
  bd (lp (jz7t a0 b1) 0)<|fun o=>match o with
  | .inl ()=>(
    some true
   )
  | .inr o=>(
    some o
   )
  )
def DT(a0:Ac)(b1:Ac):Option (Int) :=
 bd (Gz a0.Gauge b1.Gauge) fun r1 =>
 ite' (!decide (r1=0)) (
  some r1
  ) (
  bd (Gz a0.Seq b1.Seq) fun r2 =>
  some r2
  )
def IG(a0:Ac)(b1:Ac):Option (Bool) :=
 bd (Ht a0.Curve b1.Curve) fun r1 =>
 ite' (!r1) (
  some false
  ) (
  some (bif (bif (bif (bif (bif (bif (decide (a0.Kind=b1.Kind)) then(decide (a0.Gauge=b1.Gauge)) else false) then(decide (a0.Seq=b1.Seq)) else false) then(decide (a0.Known=b1.Known)) else false) then(decide (a0.From=b1.From)) else false) then(decide (a0.To=b1.To)) else false) then(decide (a0.Shift=b1.Shift)) else false)
  )
def Xq(ax0:Ac)(y1:Ac):Option (Int) :=
 bd (DT ax0 y1) fun r1 =>
 some r1
def jz67(a1:Int)(af:Ac->Ac->Option Int)(a8:List Ac):(Int×Int)->Option ((Int×Int)⊕Int):=fun s=>match s with
 |(i10,j11) =>
  ite' (decide (i10<j11)) (
   ck (At .i64 (i10+j11)) <|
   ck (At .i64 (Int.fdiv ((i10+j11)%18446744073709551616) 2)) <|
   bd (at? a8 (Int.fdiv ((i10+j11)%18446744073709551616) 2)) fun x1 =>
   bd (at? a8 a1) fun x2 =>
   bd (af x1 x2) fun r1 =>
   ite' (decide (r1<0)) (
    ck (At .i64 ((Int.fdiv ((i10+j11)%18446744073709551616) 2)+1)) <|
    some (.inl (((Int.fdiv ((i10+j11)%18446744073709551616) 2)+1),j11))
    ) (
    some (.inl (i10,(Int.fdiv ((i10+j11)%18446744073709551616) 2)))
    )
   ) (
   some (.inr i10)
   )
def jz65(i10:Int):(Int×(List Ac))->Option ((Int×(List Ac))⊕(List Ac)):=fun s=>match s with
 |(k13,a2) =>
  ck (At .i64 (i10-1)) <|
  ite' (decide (k13<(i10-1))) (
   ck (At .i64 (k13+1)) <|
   ck (At .i64 (k13+1)) <|
   bd (at? a2 (k13+1)) fun x3 =>
   bd (at? a2 k13) fun x4 =>
   bd (at? a2 k13) fun x5 =>
   bd (at? (List.set a2 (Int.toNat k13) x3) (k13+1)) fun x6 =>
   ck (At .i64 (k13+1)) <|
   some (.inl ((k13+1),(List.set (List.set a2 (Int.toNat k13) x3) (Int.toNat (k13+1)) x4)))
   ) (
   some (.inr a2)
   )
def jz64(af:Ac->Ac->Option Int)(a8:List Ac)(m2:Int):(Int×Int)->Option ((Int×Int)⊕Int):=fun s=>match s with
 |(i14,j15) =>
  ite' (decide (i14<j15)) (
   ck (At .i64 (i14+j15)) <|
   ck (At .i64 (Int.fdiv ((i14+j15)%18446744073709551616) 2)) <|
   bd (at? a8 m2) fun x7 =>
   bd (at? a8 (Int.fdiv ((i14+j15)%18446744073709551616) 2)) fun x8 =>
   bd (af x7 x8) fun r2 =>
   ite' (!(decide (r2<0))) (
    ck (At .i64 ((Int.fdiv ((i14+j15)%18446744073709551616) 2)+1)) <|
    some (.inl (((Int.fdiv ((i14+j15)%18446744073709551616) 2)+1),j15))
    ) (
    some (.inl (i14,(Int.fdiv ((i14+j15)%18446744073709551616) 2)))
    )
   ) (
   some (.inr i14)
   )
def jz66(i14:Int):(Int×(List Ac))->Option ((Int×(List Ac))⊕(List Ac)):=fun s=>match s with
 |(k17,a2) =>
  ite' (decide (i14<k17)) (
   ck (At .i64 (k17-1)) <|
   ck (At .i64 (k17-1)) <|
   bd (at? a2 (k17-1)) fun x9 =>
   bd (at? a2 k17) fun x10 =>
   bd (at? a2 k17) fun x11 =>
   bd (at? (List.set a2 (Int.toNat k17) x9) (k17-1)) fun x12 =>
   ck (At .i64 (k17-1)) <|
   some (.inl ((k17-1),(List.set (List.set a2 (Int.toNat k17) x9) (Int.toNat (k17-1)) x10)))
   ) (
   some (.inr a2)
   )
def jz63(a1:Int)(b3:Int)(af:Ac->Ac->Option Int)(a8:List Ac)(m2:Int):(Int×Int)->Option ((Int×Int)⊕Int):=fun s=>match s with
 |(a4',r21') =>
  ite' (decide (a4'<r21')) (
   ck (At .i64 (a4'+r21')) <|
   ck (At .i64 (Int.fdiv ((a4'+r21')%18446744073709551616) 2)) <|
   ck (At .i64 ((((Int.fdiv ((a1+b3)%18446744073709551616) 2)+m2)-1)-(Int.fdiv ((a4'+r21')%18446744073709551616) 2))) <|
   bd (at? a8 ((((Int.fdiv ((a1+b3)%18446744073709551616) 2)+m2)-1)-(Int.fdiv ((a4'+r21')%18446744073709551616) 2))) fun x13 =>
   bd (at? a8 (Int.fdiv ((a4'+r21')%18446744073709551616) 2)) fun x14 =>
   bd (af x13 x14) fun r3 =>
   ite' (!(decide (r3<0))) (
    ck (At .i64 ((Int.fdiv ((a4'+r21')%18446744073709551616) 2)+1)) <|
    some (.inl (((Int.fdiv ((a4'+r21')%18446744073709551616) 2)+1),r21'))
    ) (
    some (.inl (a4',(Int.fdiv ((a4'+r21')%18446744073709551616) 2)))
    )
   ) (
   some (.inr a4')
   )
def NK(n:Nat):(List Ac)->Int->Int->Int->(Ac->Ac->Option Int)->Option (List Ac):=match n with
 |0=>fun _ _ _ _ _=>none
 |n+1=>fun a8 a1 m2 b3 af =>
  ck (At .i64 (m2-a1)) <|
  ite' (decide ((m2-a1)=1)) (
   bd (lp (jz67 a1 af a8) (m2,b3))<|fun i10 =>
   bd (lp (jz65 i10) (a1,a8))<|fun a2 =>
   some a2
   ) (
   ck (At .i64 (b3-m2)) <|
   ite' (decide ((b3-m2)=1)) (
    bd (lp (jz64 af a8 m2) (a1,m2))<|fun i14 =>
    bd (lp (jz66 i14) (m2,a8))<|fun a2 =>
    some a2
    ) (
    ck (At .i64 (a1+b3)) <|
    ck (At .i64 (Int.fdiv ((a1+b3)%18446744073709551616) 2)) <|
    ck (At .i64 ((Int.fdiv ((a1+b3)%18446744073709551616) 2)+m2)) <|
    bd (α:=Int×Int) (
     ite' (decide ((Int.fdiv ((a1+b3)%18446744073709551616) 2)<m2)) (
      ck (At .i64 (((Int.fdiv ((a1+b3)%18446744073709551616) 2)+m2)-b3)) <|
      some ((((Int.fdiv ((a1+b3)%18446744073709551616) 2)+m2)-b3),(Int.fdiv ((a1+b3)%18446744073709551616) 2))
      ) (
      some (a1,m2)
      )
    )<|fun(a4,r21) =>
     ck (At .i64 (((Int.fdiv ((a1+b3)%18446744073709551616) 2)+m2)-1)) <|
     bd (lp (jz63 a1 b3 af a8 m2) (a4,r21))<|fun a4' =>
     ck (At .i64 (((Int.fdiv ((a1+b3)%18446744073709551616) 2)+m2)-a4')) <|
     bd (α:=(List Ac)) (
      ite' (bif (decide (a4'<m2)) then(decide (m2<(((Int.fdiv ((a1+b3)%18446744073709551616) 2)+m2)-a4'))) else false) (
       bd (Xo a8 a4' m2 (((Int.fdiv ((a1+b3)%18446744073709551616) 2)+m2)-a4') af) fun r4 =>
       some r4
       ) (
       some a8
       )
     )<|fun a2 =>
      bd (α:=(List Ac)) (
       ite' (bif (decide (a1<a4')) then(decide (a4'<(Int.fdiv ((a1+b3)%18446744073709551616) 2))) else false) (
        bd (NK n a2 a1 a4' (Int.fdiv ((a1+b3)%18446744073709551616) 2) af) fun r5 =>
        some r5
        ) (
        some a2
        )
      )<|fun a2' =>
       ite' (bif (decide ((Int.fdiv ((a1+b3)%18446744073709551616) 2)<(((Int.fdiv ((a1+b3)%18446744073709551616) 2)+m2)-a4'))) then(decide ((((Int.fdiv ((a1+b3)%18446744073709551616) 2)+m2)-a4')<b3)) else false) (
        bd (NK n a2' (Int.fdiv ((a1+b3)%18446744073709551616) 2) (((Int.fdiv ((a1+b3)%18446744073709551616) 2)+m2)-a4') b3 af) fun r6 =>
        some r6
        ) (
        some a2'
        )
    )
   )
def Xr(a8:List Ac)(a1:Int)(m2:Int)(b3:Int)(af:Ac->Ac->Option Int):Option (List Ac):=NK 64 a8 a1 m2 b3 af
def RA(b1:List UInt8):((List UInt8)×Int)->Option (((List UInt8)×Int)⊕((List UInt8)×Int)):=fun s=>match s with
 |(r6',n8) =>
  bd (IB r6' b1) fun r3 =>
  ite' (decide (0<=r3)) (
   bd (IE r6' b1) fun r4 =>
   ck (At .i64 (n8+1)) <|
   some (.inl (r4.S,(n8+1)))
   ) (
   some (.inr (r6',n8))
   )
def RB(a0:List UInt8)(b1:List UInt8):((List UInt8)×(List UInt8)×Int)->Option (((List UInt8)×(List UInt8)×Int)⊕((List UInt8)×(List UInt8))):=fun s=>match s with
 |(q5,r6,k7) =>
  ite' (decide (k7<(a0.length:Int))) (
   ck (At .i64 (k7+1)) <|
   ck (El a0 k7 (k7+1)) <|
   ck (decide (r6.length+List.length (sub a0 k7 (k7+1))<=4611686018427387904)) <|
   bd (D4 (r6++(sub a0 k7 (k7+1)))) fun r2 =>
   bd (lp (RA b1) (r2,0))<|fun(r6',n8) =>
   ck (decide (q5.length+List.length (CS [(n8%256)])<=4611686018427387904)) <|
   ck (At .i64 (k7+1)) <|
   some (.inl ((q5++(CS [(n8%256)])),r6',(k7+1)))
   ) (
   some (.inr (q5,r6))
   )
def IH(a0:List UInt8)(b1:List UInt8):Option (FI) :=
 bd (D4 b1) fun r1 =>
 ite' (decide (r1=[])) (
  some (FI.mk [] [] 1)
  ) (
  bd (lp (RB a0 b1) ([],[],0))<|fun(q5,r6) =>
  bd (D4 q5) fun r5 =>
  some (FI.mk r5 r6 0)
  )
def jz2(ax0:List Int)(y1:List Int):Int->Option (Int⊕(Unit⊕Int)):=fun s=>match s with
 |k6 =>
  ite' (decide (0<=k6)) (
   bd (at? ax0 k6) fun x1 =>
   bd (at? y1 k6) fun x2 =>
   bd (NJ x1 x2) fun r2 =>
   ite' (!decide (r2=0)) (
    some (.inr (.inr r2))
    ) (
    ck (At .i64 (k6-1)) <|
    some (.inl (k6-1))
    )
   ) (
   some (.inr (.inl ()))
   )
def RC(ax0:List Int)(y1:List Int):Option (Int) :=
 bd (Gz (ax0.length:Int) (y1.length:Int)) fun r1 =>
 ite' (!decide (r1=0)) (
  some r1
  ) (
  ck (At .i64 ((ax0.length:Int)-1)) <|
  bd (lp (jz2 ax0 y1) ((ax0.length:Int)-1))<|fun o=>match o with
  | .inl ()=>(
    some 0
   )
  | .inr o=>(
    some o
   )
  )
def PT(ax0:List Int)(ay:Int):Option ((List Int)) :=
 ite' (decide (ay<0)) (
  ck (At .i64 (-ay)) <|
  ck (decide (0<=(-ay))) <|
  bd (U8 ax0 ((1*2 ^ min (Int.toNat (-ay)) 32)%4294967296)) fun r1 =>
  some r1.1
  ) (
  ck (decide (0<=ay)) <|
  bd (R4 ax0 [((1*2 ^ min (Int.toNat ay) 32)%4294967296)]) fun r2 =>
  some r2
  )
def NL(a0:List UInt8):Option ((List UInt8)) :=
 bd (R9 a0 [0]) fun r1 =>
 some r1
def NM(a0:List UInt8)(b1:List UInt8):Option (Int) :=
 bd (GQ a0) fun r1 =>
 bd (GQ b1) fun r2 =>
 bd (RC r1 r2) fun r3 =>
 some r3
def jz7d(am:Ac->Ac->Option Int)(n1:Int):(Int×Int×(List Ac))->Option ((Int×Int×(List Ac))⊕(Int×(List Ac))):=fun s=>match s with
 |(a7,b8,a2) =>
  ite' (decide (b8<=n1)) (
   bd (Rr a2 a7 b8 am) fun r1 =>
   ck (At .i64 (b8+20)) <|
   some (.inl (b8,(b8+20),r1))
   ) (
   some (.inr (a7,a2))
   )
def jz7c(a6:Int)(am:Ac->Ac->Option Int)(n1:Int):(Int×Int×(List Ac))->Option ((Int×Int×(List Ac))⊕(Int×(List Ac))):=fun s=>match s with
 |(a7',b8,a2'') =>
  ite' (decide (b8<=n1)) (
   ck (At .i64 (a7'+a6)) <|
   bd (Xr a2'' a7' (a7'+a6) b8 am) fun r3 =>
   ck (At .i64 (2*a6)) <|
   ck (At .i64 (b8+(2*a6))) <|
   some (.inl (b8,(b8+(2*a6)),r3))
   ) (
   some (.inr (a7',a2''))
   )
def jz7a(am:Ac->Ac->Option Int)(n1:Int):(Int×(List Ac))->Option ((Int×(List Ac))⊕(List Ac)):=fun s=>match s with
 |(a6,a2') =>
  ite' (decide (a6<n1)) (
   ck (At .i64 (2*a6)) <|
   bd (lp (jz7c a6 am n1) (0,(2*a6),a2'))<|fun(a7',a2'') =>
   ck (At .i64 (a7'+a6)) <|
   ite' (decide ((a7'+a6)<n1)) (
    bd (Xr a2'' a7' (a7'+a6) n1 am) fun r4 =>
    ck (At .i64 (a6*2)) <|
    some (.inl ((a6*2),r4))
    ) (
    ck (At .i64 (a6*2)) <|
    some (.inl ((a6*2),a2''))
    )
   ) (
   some (.inr a2')
   )
def Xs(a8:List Ac)(n1:Int)(am:Ac->Ac->Option Int):Option (List Ac) :=
 bd (lp (jz7d am n1) (0,20,a8))<|fun(a7,a2) =>
 bd (Rr a2 a7 n1 am) fun r2 =>
 bd (lp (jz7a am n1) (20,r2))<|fun a2' =>
 some a2'
def II :((List UInt8)×(List UInt8))->Option (((List UInt8)×(List UInt8))⊕(List UInt8)):=fun s=>match s with
 |(x5,y6) =>
  ite' (!decide (y6=[])) (
   bd (IH x5 y6) fun r3 =>
   some (.inl (y6,r3.R))
   ) (
   some (.inr x5)
   )
def K6(a0:List UInt8)(b1:List UInt8):Option ((List UInt8)) :=
 bd (D4 a0) fun r1 =>
 bd (D4 b1) fun r2 =>
 bd (lp (II) (r1,r2))<|fun x5 =>
 some x5
def kzx(y1:List Int):Int->Option (Int⊕Int):=fun s=>match s with
 |ap =>
  ck (At .i64 ((y1.length:Int)-1)) <|
  bd (at? y1 ((y1.length:Int)-1)) fun x2 =>
  ck (decide (0<=ap)) <|
  ite' (decide (((x2*2 ^ min (Int.toNat ap) 32)%4294967296)<2147483648)) (
   ck (At .i64 (ap+1)) <|
   some (.inl (ap+1))
   ) (
   some (.inr ap)
   )
def kz2(j13:Int)(ak:List Int)(r4:(List Int)):(Int×Int)->Option ((Int×Int)⊕Int):=fun s=>match s with
 |(ac,aq) =>
  ck (!(decide (aq<4294967296))||At .i64 ((r4.length:Int)-2)) <|
  bd (gd (decide (aq<4294967296)) (at? r4 ((r4.length:Int)-2))) fun x7 =>
  ck (!(decide (aq<4294967296))||At .i64 (j13+(r4.length:Int))) <|
  ck (!(decide (aq<4294967296))||At .i64 ((j13+(r4.length:Int))-2)) <|
  bd (gd (decide (aq<4294967296)) (at? ak ((j13+(r4.length:Int))-2))) fun x8 =>
  ite' (bif (decide (aq<4294967296)) then(decide ((bitI .or .u64 ((aq*4294967296)%18446744073709551616) (x8%18446744073709551616))<((ac*(x7%18446744073709551616))%18446744073709551616))) else false) (
   ck (At .i64 ((r4.length:Int)-1)) <|
   bd (at? r4 ((r4.length:Int)-1)) fun x9 =>
   some (.inl (((ac-1)%18446744073709551616),((aq+(x9%18446744073709551616))%18446744073709551616)))
   ) (
   some (.inr ac)
   )
def yzk(j13:Int)(ak:List Int)(r4:(List Int)):(Int×(List Int))->Option ((Int×(List Int))⊕(Int×(List Int))):=fun s=>match s with
 |(ac',ar) =>
  bd (Gw (sub ak j13 ((j13+(r4.length:Int))+1))) fun r8 =>
  bd (Hs r8) fun r9 =>
  bd (RC r9 ar) fun r10 =>
  ite' (decide (r10<0)) (
   bd (R5 ar r4) fun r11 =>
   some (.inl (((ac'-1)%18446744073709551616),r11))
   ) (
   some (.inr (ac',ar))
   )
def U9(r4:(List Int)):(Int×(List Int)×(List Int))->Option ((Int×(List Int)×(List Int))⊕((List Int)×(List Int))):=fun s=>match s with
 |(j13,ak,l3) =>
  ite' (decide (0<=j13)) (
   ck (At .i64 (j13+(r4.length:Int))) <|
   bd (at? ak (j13+(r4.length:Int))) fun x3 =>
   ck (At .i64 (j13+(r4.length:Int))) <|
   ck (At .i64 ((j13+(r4.length:Int))-1)) <|
   bd (at? ak ((j13+(r4.length:Int))-1)) fun x4 =>
   ck (At .i64 ((r4.length:Int)-1)) <|
   bd (at? r4 ((r4.length:Int)-1)) fun x5 =>
   ck (!decide ((x5%18446744073709551616)=0)) <|
   ck (At .i64 ((r4.length:Int)-1)) <|
   bd (at? r4 ((r4.length:Int)-1)) fun x6 =>
   bd (lp (kz2 j13 ak r4) ((min (((bitI .or .u64 (((x3%18446744073709551616)*4294967296)%18446744073709551616) (x4%18446744073709551616)).tdiv (x5%18446744073709551616))%18446744073709551616) 4294967295),(((bitI .or .u64 (((x3%18446744073709551616)*4294967296)%18446744073709551616) (x4%18446744073709551616))-(((min (((bitI .or .u64 (((x3%18446744073709551616)*4294967296)%18446744073709551616) (x4%18446744073709551616)).tdiv (x5%18446744073709551616))%18446744073709551616) 4294967295)*(x6%18446744073709551616))%18446744073709551616))%18446744073709551616)))<|fun ac =>
   bd (α:=Unit⊕Unit) (
    ite' (decide (ac=0)) (
     some (.inr ())
     ) (
     some (.inl ())
     )
   )<|fun o=>match o with
    | .inl ()=>(
      ck (At .i64 (j13+(r4.length:Int))) <|
      ck (At .i64 ((j13+(r4.length:Int))+1)) <|
      ck (El ak j13 ((j13+(r4.length:Int))+1)) <|
      bd (R4 r4 [(ac%4294967296)]) fun r7 =>
      bd (lp (yzk j13 ak r4) (ac,r7))<|fun(ac',ar) =>
      bd (Gw (sub ak j13 ((j13+(r4.length:Int))+1))) fun r12 =>
      bd (Hs r12) fun r13 =>
      bd (R5 r13 ar) fun r14 =>
      ck (El ak j13 ((j13+(r4.length:Int))+1)) <|
      ck (El (BV ak (Int.toNat j13) (List.replicate (Int.toNat (((j13+(r4.length:Int))+1)-j13)) 0)) j13 ((j13+(r4.length:Int))+1)) <|
      bd (at? l3 j13) fun x10 =>
      ck (At .i64 (j13-1)) <|
      some (.inl ((j13-1),(BV (BV ak (Int.toNat j13) (List.replicate (Int.toNat (((j13+(r4.length:Int))+1)-j13)) 0)) (Int.toNat j13) (List.take (Int.toNat (((j13+(r4.length:Int))+1)-j13)) r14)),(List.set l3 (Int.toNat j13) (ac'%4294967296))))
     )
    | .inr ()=>(
      ck (At .i64 (j13-1)) <|
      some (.inl ((j13-1),ak,l3))
     )
   ) (
   some (.inr (ak,l3))
   )
def NA(ax0:List Int)(y1:List Int):Option ((List Int)×(List Int)) :=
 bd (RC ax0 y1) fun r1 =>
 ite' (decide (r1<0)) (
  some ([],ax0)
  ) (
  ite' (decide ((y1.length:Int)=1)) (
   bd (at? y1 0) fun x1 =>
   bd (U8 ax0 x1) fun r2 =>
   bd (Hs [r2.2]) fun r3 =>
   some (r2.1,r3)
   ) (
   bd (lp (kzx y1) 0)<|fun ap =>
   bd (PT y1 ap) fun r4 =>
   bd (PT ax0 ap) fun r5 =>
   bd (Gw r5) fun r6 =>
   ck (decide (List.length (r6++[0,0])*4<=140737488355328)) <|
   ck (At .i64 ((ax0.length:Int)-(r4.length:Int))) <|
   ck (At .i64 (((ax0.length:Int)-(r4.length:Int))+2)) <|
   ck (mkOk (((ax0.length:Int)-(r4.length:Int))+2) 4) <|
   ck (At .i64 ((List.length (r6++[0,0]):Int)-(r4.length:Int))) <|
   ck (At .i64 (((List.length (r6++[0,0]):Int)-(r4.length:Int))-1)) <|
   bd (lp (U9 r4) ((((List.length (r6++[0,0]):Int)-(r4.length:Int))-1),(r6++[0,0]),(List.replicate (Int.toNat (((ax0.length:Int)-(r4.length:Int))+2)) 0)))<|fun(ak,l3) =>
   bd (Hs l3) fun r15 =>
   bd (Hs ak) fun r16 =>
   ck (At .i64 (-ap)) <|
   bd (PT r16 (-ap)) fun r17 =>
   some (r15,r17)
   )
  )
def vzb(ax0:List Int):(Int×(List Int))->Option ((Int×(List Int))⊕(List Int)):=fun s=>match s with
 |(t8,l1) =>
  ite' (decide (t8<(ax0.length:Int))) (
   bd (at? ax0 t8) fun x1 =>
   ck (decide (List.length (l1++[(x1%256),((Int.fdiv x1 256)%256),((Int.fdiv x1 65536)%256),((Int.fdiv x1 16777216)%256)])*1<=140737488355328)) <|
   ck (At .i64 (t8+1)) <|
   some (.inl ((t8+1),(l1++[(x1%256),((Int.fdiv x1 256)%256),((Int.fdiv x1 65536)%256),((Int.fdiv x1 16777216)%256)])))
   ) (
   some (.inr l1)
   )
def I5(ax0:List Int):Option ((List UInt8)) :=
 bd (lp (vzb ax0) (0,[]))<|fun l1 =>
 bd (I4 l1) fun r1 =>
 bd (NL (CS r1)) fun r2 =>
 some r2
def IJ(a0:List UInt8)(b1:List UInt8):Option ((List UInt8)) :=
 bd (GQ a0) fun r1 =>
 bd (GQ b1) fun r2 =>
 bd (R4 r1 r2) fun r3 =>
 bd (I5 r3) fun r4 =>
 some r4
def NN(a0:List UInt8)(b1:List UInt8):Option ((List UInt8)) :=
 bd (GQ a0) fun r1 =>
 bd (GQ b1) fun r2 =>
 bd (Xm r1 r2) fun r3 =>
 bd (I5 r3) fun r4 =>
 some r4
def NO(a0:List UInt8)(b1:List UInt8):Option ((List UInt8)×Int) :=
 bd (GQ a0) fun r1 =>
 bd (GQ b1) fun r2 =>
 bd (RC r1 r2) fun r3 =>
 ite' (decide (r3<0)) (
  some ([],3)
  ) (
  bd (R5 r1 r2) fun r4 =>
  bd (I5 r4) fun r5 =>
  some (r5,0)
  )
def IK(br:Bool)(bt:List UInt8)(bj:List UInt8):Option (AJ) :=
 bd (D4 bt) fun r1 =>
 ite' (decide (r1=[])) (
  some (AJ.mk false [] [])
  ) (
  bd (K6 r1 bj) fun r2 =>
  bd (IH r1 r2) fun r3 =>
  bd (IH bj r2) fun r4 =>
  some (AJ.mk br r3.Q r4.Q)
  )
def I6:(List Int×List Int)->Option ((List Int×List Int)⊕List Int):=fun s=>match s with
 |(x,y)=>ite' (decide ((y.length:Int)=0)) (some (.inr x)) (bd (NA x y) fun r=>some (.inl (y,r.2)))
def Hn(a0:List UInt8)(b1:List UInt8):Option (List UInt8) :=
 bd (GQ a0) fun x =>
 bd (GQ b1) fun y =>
 bd (lp I6 (x,y)) fun r =>
 I5 r
def Xt(ax0:List Ac)(bq:Ac->Ac->Option Int):Option (List Ac) :=
 bd (Xs ax0 (ax0.length:Int) bq) fun r1 =>
 some r1
def yzs(a0:AJ):Option (Bool) :=
 ite' ((a0.Neg==false)&&(decide (a0.Num=[])&&(decide (a0.Den=[])&&true))) (
  some true
  ) (
  bd (gd (bif (!decide (a0.Num=[])) then(!decide (a0.Den=[])) else false) (Kz a0.Num)) fun r1 =>
  bd (gd (bif (bif (!decide (a0.Num=[])) then(!decide (a0.Den=[])) else false) then r1 else false) (Kz a0.Den)) fun r2 =>
  bd (gd (bif (bif (bif (!decide (a0.Num=[])) then(!decide (a0.Den=[])) else false) then r1 else false) then r2 else false) (Hn a0.Num a0.Den)) fun r3 =>
  some (bif (bif (bif (bif (!decide (a0.Num=[])) then(!decide (a0.Den=[])) else false) then r1 else false) then r2 else false) then(decide (r3=[1])) else false)
  )
def IL(a0:AJ):Option (Bool) :=
 ite' (bif (decide (a0.Num=[])) then true else(decide (a0.Den=[]))) (
  some ((a0.Neg==false)&&(decide (a0.Num=[])&&(decide (a0.Den=[])&&true)))
  ) (
  bd (K5 a0.Num) fun r1 =>
  bd (K5 a0.Den) fun r2 =>
  bd (gd (bif r1 then r2 else false) (K6 a0.Num a0.Den)) fun r3 =>
  some (bif (bif r1 then r2 else false) then(decide (r3=[1])) else false)
  )
def RD(a0:AJ):Option (Bool) :=
 bd (yzs a0) fun r1 =>
 some (bif r1 then(!a0.Neg) else false)
def Xu(n0:Int):Option ((List UInt8)×Int) :=
 ite' (decide (n0<0)) (
  some ([],3)
  ) (
  bd (Hs [(n0%4294967296),((Int.fdiv n0 4294967296)%4294967296)]) fun r1 =>
  bd (I5 r1) fun r2 =>
  some (r2,0)
  )
def RE(a0:List UInt8)(b1:List UInt8):Option ((List UInt8)×(List UInt8)×Int) :=
 bd (GQ a0) fun r1 =>
 bd (GQ b1) fun r2 =>
 ite' (decide ((r2.length:Int)=0)) (
  some ([],[],1)
  ) (
  bd (NA r1 r2) fun r3 =>
  bd (I5 r3.1) fun r4 =>
  bd (I5 r3.2) fun r5 =>
  some (r4,r5,0)
  )
def Xv(a0:AJ):Option (BM) :=
 bd (gd (!(decide (a0.Num=[]))) (yzs a0)) fun r1 =>
 ite' (bif (decide (a0.Num=[])) then true else(!r1)) (
  some (BM.mk false [] [1])
  ) (
  some (BM.mk a0.Neg a0.Num a0.Den)
  )
def wz3(f0:BM)(g1:BM):Option (BM) :=
 bd (IJ f0.num g1.den) fun r1 =>
 bd (IJ g1.num f0.den) fun r2 =>
 bd (IJ f0.den g1.den) fun r3 =>
 ite' (f0.neg==g1.neg) (
  bd (NN r1 r2) fun r4 =>
  some (BM.mk f0.neg r4 r3)
  ) (
  bd (NM r1 r2) fun r5 =>
  bd (α:=(List UInt8)×(List UInt8)×BM) (
   ite' (decide (r5<0)) (
    some (r2,r1,(BM.mk g1.neg f0.num f0.den))
    ) (
    some (r1,r2,f0)
    )
  )<|fun(a5,b6,b0) =>
   bd (NO a5 b6) fun r6 =>
   some (BM.mk b0.neg r6.1 r3)
  )
def IM(a0:AJ):Option (AJ) :=
 bd (IL a0) fun r1 =>
 ite' r1 (
  some a0
  ) (
  some (AJ.mk false [] [])
  )
def yzh(n0:Int):Option (BM) :=
 ck (At .i64 (-n0)) <|
 bd (Xu (max n0 (-n0))) fun r1 =>
 some (BM.mk (decide (n0<0)) r1.1 [1])
def qzw(f0:BM):Option (AJ) :=
 ite' (decide (f0.num=[])) (
  some (AJ.mk false [] [])
  ) (
  bd (Hn f0.num f0.den) fun r1 =>
  bd (RE f0.num r1) fun r2 =>
  bd (RE f0.den r1) fun r3 =>
  some (AJ.mk f0.neg r2.1 r3.1)
  )
def wz5(f0:BM)(g1:BM):Option (BM) :=
 bd (wz3 f0 (BM.mk (!g1.neg) g1.num g1.den)) fun r1 =>
 some r1
def NP(a0:AJ)(b1:AJ):Option (AJ) :=
 bd (IM a0) fun r1 =>
 bd (IM b1) fun r2 =>
 bd (K2 r1) fun r3 =>
 bd (K2 r2) fun r4 =>
 bd (IF r3.1 r4.2) fun r5 =>
 bd (IF r4.1 r3.2) fun r6 =>
 bd (IF r3.2 r4.2) fun r7 =>
 ite' (r1.Neg==r2.Neg) (
  bd (NI r5 r6) fun r8 =>
  bd (IK r1.Neg r8 r7) fun r9 =>
  some r9
  ) (
  bd (IB r5 r6) fun r10 =>
  ite' (decide (0<=r10)) (
   bd (IE r5 r6) fun r11 =>
   bd (IK r1.Neg r11.S r7) fun r12 =>
   some r12
   ) (
   bd (IE r6 r5) fun r13 =>
   bd (IK r2.Neg r13.S r7) fun r14 =>
   some r14
   )
  )
def NQ(a0:AJ):Option (AJ) :=
 bd (IM a0) fun r1 =>
 ite' (!decide (r1.Num=[])) (
  some (AJ.mk (!r1.Neg) r1.Num r1.Den)
  ) (
  some r1
  )
def UA(n0:Int):Option (AJ) :=
 bd (yzy n0) fun r1 =>
 ite' (!r1) (
  some (AJ.mk false [] [])
  ) (
  bd (yzh n0) fun r2 =>
  bd (qzw r2) fun r3 =>
  some r3
  )
def K7(bk:Int):Option (AH) :=
 bd (UA bk) fun r1 =>
 some (AH.mk [(AF.mk 0 (AJ.mk false [] [])),(AF.mk 10 r1)])
def wz0(a0:AJ)(b1:AJ):Option (Int) :=
 bd (Xv a0) fun r1 =>
 bd (Xv b1) fun r2 =>
 bd (wz5 r1 r2) fun r3 =>
 ite' (decide (r3.num=[])) (
  some 0
  ) (
  ite' r3.neg (
   some (-1)
   ) (
   some 1
   )
  )
def NR(a0:AJ)(b1:AJ):Option (AJ) :=
 bd (NQ b1) fun r1 =>
 bd (NP a0 r1) fun r2 =>
 some r2
def Hu(bn:Int)(to1:Int)(bm:Int)(bi:Int):Option (AB) :=
 bd (UA 1) fun r1 =>
 bd (K7 bm) fun r2 =>
 some (AB.mk bn to1 r1 bi r2)
def RF(ac0:AH):Int->Option (Int⊕(Unit⊕Int)):=fun s=>match s with
 |t18 =>
  ite' (decide (t18<(ac0.Points.length:Int))) (
   bd (at? ac0.Points t18) fun x1 =>
   bd (Ro x1.Stage) fun r1 =>
   ite' (!r1) (
    some (.inr (.inr 3))
    ) (
    bd (RD x1.Flow) fun r2 =>
    ite' (!r2) (
     some (.inr (.inr 1))
     ) (
     ck (!(decide (0<t18))||At .i64 (t18-1)) <|
     bd (gd (decide (0<t18)) (at? ac0.Points (t18-1))) fun x2 =>
     ck (!((decide (0<t18))&&(!(decide (x1.Stage<=x2.Stage))))||At .i64 (t18-1)) <|
     bd (gd ((decide (0<t18))&&(!(decide (x1.Stage<=x2.Stage)))) (at? ac0.Points (t18-1))) fun x3 =>
     bd (gd ((decide (0<t18))&&(!(decide (x1.Stage<=x2.Stage)))) (wz0 x1.Flow x3.Flow)) fun r3 =>
     ite' (bif (decide (0<t18)) then(bif (decide (x1.Stage<=x2.Stage)) then true else(decide (r3<0))) else false) (
      some (.inr (.inr 1))
      ) (
      ck (At .i64 (t18+1)) <|
      some (.inl (t18+1))
      )
     )
    )
   ) (
   some (.inr (.inl ()))
   )
def NS(ac0:AH):Option (Int) :=
 ite' (bif (decide ((ac0.Points.length:Int)<1)) then true else(decide (16<(ac0.Points.length:Int)))) (
  some 2
  ) (
  bd (lp (RF ac0) 0)<|fun o=>match o with
  | .inl ()=>(
    some 0
   )
  | .inr o=>(
    some o
   )
  )
def NT(a0:AJ)(b1:AJ):Option (Int) :=
 bd (NR a0 b1) fun r1 =>
 ite' (decide (r1.Num=[])) (
  some 0
  ) (
  ite' r1.Neg (
   some (-1)
   ) (
   some 1
   )
  )
def Hq(v0:Ac):Option (Bool) :=
 ite' (bif (bif (bif (bif (bif (bif (bif (bif (decide (v0.Gauge<0)) then true else(decide (40<=v0.Gauge))) then true else(decide (v0.Seq<0))) then true else(decide (1099511627776<v0.Seq))) then true else(decide (v0.Known<0))) then true else(decide (14609<v0.Known))) then true else(decide (v0.From<0))) then true else(decide (v0.To<=v0.From))) then true else(decide (1402560<v0.To))) (
  some false
  ) (
  ite' (decide (v0.Kind=1)) (
   bd (gd (decide (v0.Shift=0)) (NS v0.Curve)) fun r1 =>
   some (bif (decide (v0.Shift=0)) then(decide (r1=0)) else false)
   ) (
   ck (!(bif (Option.isSome (mget keqI (mput keqI (mput keqI ([]:List (Int×Int)) 2 1000) 3 960) v0.Kind)) then(decide ((v0.Curve.Points.length:Int)=0)) else false)||At .i64 (-(Option.getD (mget keqI (mput keqI (mput keqI ([]:List (Int×Int)) 2 1000) 3 960) v0.Kind) 0))) <|
   some (bif (bif (bif (Option.isSome (mget keqI (mput keqI (mput keqI ([]:List (Int×Int)) 2 1000) 3 960) v0.Kind)) then(decide ((v0.Curve.Points.length:Int)=0)) else false) then(decide ((-(Option.getD (mget keqI (mput keqI (mput keqI ([]:List (Int×Int)) 2 1000) 3 960) v0.Kind) 0))<=v0.Shift)) else false) then(decide (v0.Shift<=(Option.getD (mget keqI (mput keqI (mput keqI ([]:List (Int×Int)) 2 1000) 3 960) v0.Kind) 0))) else false)
   )
  )
def RG(l0:List Ac):Int->Option (Int⊕(Unit⊕Int)):=fun s=>match s with
 |t10 =>
  ite' (decide (t10<(l0.length:Int))) (
   bd (at? l0 t10) fun x1 =>
   bd (Hq x1) fun r1 =>
   ck (!((!(!r1))&&(decide (0<t10)))||At .i64 (t10-1)) <|
   bd (gd ((!(!r1))&&(decide (0<t10))) (at? l0 (t10-1))) fun x2 =>
   bd (gd ((!(!r1))&&(decide (0<t10))) (DT x2 x1)) fun r2 =>
   ite' (bif (!r1) then true else(bif (decide (0<t10)) then(decide (0<=r2)) else false)) (
    some (.inr (.inr 1))
    ) (
    ck (At .i64 (t10+1)) <|
    some (.inl (t10+1))
    )
   ) (
   some (.inr (.inl ()))
   )
def DU(l0:List Ac):Option (Int) :=
 ite' (decide (400<(l0.length:Int))) (
  some 2
  ) (
  bd (lp (RG l0) 0)<|fun o=>match o with
  | .inl ()=>(
    some 0
   )
  | .inr o=>(
    some o
   )
  )
def K8(a3:Int)(ab:Int)(l0:List Ac)(ad:AJ):Au->(List AB)->Option ((List AB)⊕((List AB)×Int)):=fun x s=>match s with
 |l11 =>
  bd (Gx l0 1 a3 x.From ab) fun r3 =>
  ite' (!(Option.isSome r3)) (
   some (.inr ([],8))
   ) (
   bd (Kw l0 2 a3 x.From ab) fun r4 =>
   ck (!(decide (0<(l11.length:Int)))||At .i64 ((l11.length:Int)-1)) <|
   bd (gd (decide (0<(l11.length:Int))) (at? l11 ((l11.length:Int)-1))) fun x1 =>
   ck (!(bif (decide (0<(l11.length:Int))) then(decide (x1.Datum=r4)) else false)||At .i64 ((l11.length:Int)-1)) <|
   bd (gd (bif (decide (0<(l11.length:Int))) then(decide (x1.Datum=r4)) else false) (at? l11 ((l11.length:Int)-1))) fun x2 =>
   bd (gd (bif (decide (0<(l11.length:Int))) then(decide (x1.Datum=r4)) else false) (r3)) fun x3 =>
   bd (gd (bif (decide (0<(l11.length:Int))) then(decide (x1.Datum=r4)) else false) (Ht x2.Curve x3.Curve)) fun r5 =>
   ite' (bif (bif (decide (0<(l11.length:Int))) then(decide (x1.Datum=r4)) else false) then r5 else false) (
    ck (At .i64 ((l11.length:Int)-1)) <|
    bd (at? l11 ((l11.length:Int)-1)) fun x4 =>
    some (.inl (List.set l11 (Int.toNat ((l11.length:Int)-1)) (AB.mk x4.From x.To x4.Weight x4.Datum x4.Curve)))
    ) (
    bd (r3) fun x5 =>
    bd (Ho x5.Curve.Points) fun r6 =>
    ck (decide (List.length (l11++[(AB.mk x.From x.To ad r4 (AH.mk r6))])*88<=140737488355328)) <|
    some (.inl (l11++[(AB.mk x.From x.To ad r4 (AH.mk r6))]))
    )
   )
def G0(l0:List Ac)(a3:Int)(t2:Au)(ab:Int)(ad:AJ):Option ((List AB)×Int) :=
 bd (DU l0) fun r1 =>
 ite' (!decide (r1=0)) (
  some ([],r1)
  ) (
  bd (yzs ad) fun r2 =>
  ite' (!r2) (
   some ([],1)
   ) (
   ite' (bif (bif (bif (bif (decide (t2.From<0)) then true else(decide (t2.To<t2.From))) then true else(decide (1402560<t2.To))) then true else(decide (ab<0))) then true else(decide (14609<ab))) (
    some ([],3)
    ) (
    bd (Gy l0 a3 t2) fun c1 =>
    bd (K0 c1 (fun l=>EM (K8 a3 ab l0 ad) l [])) fun l =>
    bd (Bh (K8 a3 ab l0 ad) l []) fun o=>match o with
    | .inl l11=>(
      some (l11,0)
     )
    | .inr q=>((
      fun o =>
      some o
     ) q)
    )
   )
  )
def RH(l0:List Ac)(bo:Int)(to2:Int)(ab:Int):Option ((List AB)) :=
 bd (UA 1) fun r1 =>
 bd (G0 l0 3 (Au.mk bo to2) ab r1) fun r2 =>
 ite' (!decide (r2.2=0)) (
  some []
  ) (
  some r2.1
  )
def RI(ac0:AH):Int->Option (Int⊕(Unit⊕Int)):=fun s=>match s with
 |k3 =>
  ite' (decide (k3<(ac0.Points.length:Int))) (
   bd (at? ac0.Points k3) fun x1 =>
   ite' (bif (decide (x1.Stage<(-1000))) then true else(decide (2000<x1.Stage))) (
    some (.inr (.inr 3))
    ) (
    bd (IL x1.Flow) fun r1 =>
    ite' (bif (!r1) then true else x1.Flow.Neg) (
     some (.inr (.inr 1))
     ) (
     ck (!(decide (0<k3))||At .i64 (k3-1)) <|
     bd (gd (decide (0<k3)) (at? ac0.Points (k3-1))) fun x2 =>
     ite' (bif (decide (0<k3)) then(decide (x1.Stage<=x2.Stage)) else false) (
      some (.inr (.inr 1))
      ) (
      ck (!(decide (0<k3))||At .i64 (k3-1)) <|
      bd (gd (decide (0<k3)) (at? ac0.Points (k3-1))) fun x3 =>
      bd (gd (decide (0<k3)) (NT x1.Flow x3.Flow)) fun r2 =>
      ite' (bif (decide (0<k3)) then(decide (r2<0)) else false) (
       some (.inr (.inr 1))
       ) (
       ck (At .i64 (k3+1)) <|
       some (.inl (k3+1))
       )
      )
     )
    )
   ) (
   some (.inr (.inl ()))
   )
def NU(ac0:AH):Option (Int) :=
 ite' (bif (decide ((ac0.Points.length:Int)<1)) then true else(decide (16<(ac0.Points.length:Int)))) (
  some 2
  ) (
  bd (lp (RI ac0) 0)<|fun o=>match o with
  | .inl ()=>(
    some 0
   )
  | .inr o=>(
    some o
   )
  )
def Dm(l0:List Ac)(v1:Ac):Option ((List Ac)×Int) :=
 bd (DU l0) fun r1 =>
 ite' (!decide (r1=0)) (
  some ([],r1)
  ) (
  bd (Hq v1) fun r2 =>
  ite' (!r2) (
   some ([],1)
   ) (
   bd (I7 l0 v1 (fun a0 a1=>DT a0 a1)) fun r3 =>
   ite' r3.2 (
    bd (at? l0 r3.1) fun x1 =>
    bd (IG x1 v1) fun r4 =>
    ite' r4 (
     some ([],9)
     ) (
     some ([],24)
     )
    ) (
    ite' (decide (400<=(l0.length:Int))) (
     some ([],2)
     ) (
     none
     )
    )
   )
  )
def insL{α:Type}(l:List α)(k:Nat)(x:α):List α:=l.take k++[x]++l.drop k
def QO(l0:List Ac)(v1:Ac):Option (List Ac×Int) :=
 bd (DU l0) fun e=>bd (Hq v1) fun b=>bd (I7 l0 v1 (fun a0 a1=>DT a0 a1)) fun p =>
 ck (decide (e=0)&&b&&!p.2&&decide (0<=p.1)&&decide (Int.toNat p.1<=l0.length)&&decide (l0.length<400)) (some (insL l0 (Int.toNat p.1) v1,0))
def Cu(l0:List Ac)(v1:Ac):Option (List Ac×Int):=match Dm l0 v1 with
 |some y=>some y
 |none=>QO l0 v1
def jz7u(a0:List Ac)(b1:List Ac):Int->Option (Int⊕(Unit⊕((List Ac)×Int))):=fun s=>match s with
 |t15 =>
  ite' (decide (t15<(List.length [a0,b1]:Int))) (
   bd (at? [a0,b1] t15) fun x1 =>
   bd (DU x1) fun r1 =>
   ite' (!decide (r1=0)) (
    some (.inr (.inr ([],r1)))
    ) (
    ck (At .i64 (t15+1)) <|
    some (.inl (t15+1))
    )
   ) (
   some (.inr (.inl ()))
   )
def jz7v(r3:List Ac):Int->Option (Int⊕(Unit⊕((List Ac)×Int))):=fun s=>match s with
 |k10 =>
  ite' (decide (k10<(r3.length:Int))) (
   ck (At .i64 (k10-1)) <|
   bd (at? r3 (k10-1)) fun x2 =>
   bd (at? r3 k10) fun x3 =>
   bd (DT x2 x3) fun r4 =>
   ck (!(decide (r4=0))||At .i64 (k10-1)) <|
   bd (gd (decide (r4=0)) (at? r3 (k10-1))) fun x4 =>
   bd (gd (decide (r4=0)) (at? r3 k10)) fun x5 =>
   bd (gd (decide (r4=0)) (IG x4 x5)) fun r5 =>
   ite' (bif (decide (r4=0)) then(!r5) else false) (
    some (.inr (.inr ([],24)))
    ) (
    ck (At .i64 (k10+1)) <|
    some (.inl (k10+1))
    )
   ) (
   some (.inr (.inl ()))
   )
def Xw(a0:List Ac)(b1:List Ac):Option ((List Ac)×Int) :=
 bd (lp (jz7u a0 b1) 0)<|fun o=>match o with
 | .inl ()=>(
   bd (WB [a0,b1]) fun r2 =>
   bd (Xt r2 (fun a0 a1=>Xq a0 a1)) fun r3 =>
   bd (lp (jz7v r3) 1)<|fun o=>match o with
   | .inl ()=>(
     bd (WQ r3 (fun a0 a1=>IG a0 a1)) fun r6 =>
     ite' (decide (400<(r6.length:Int))) (
      some ([],2)
      ) (
      some (r6,0)
      )
    )
   | .inr o=>(
     some o
    )
  )
 | .inr o=>(
   some o
  )
def NV(l0:List Ac)(ag:Int)(ae:Int)(aa:Int)(a9:Int):Option (Ac×Int) :=
 bd (DU l0) fun r1 =>
 ite' (!decide (r1=0)) (
  some ((Ac.mk 0 0 0 0 0 0 0 (AH.mk [])),r1)
  ) (
  bd (Rk aa a9) fun r2 =>
  ite' (!decide (r2=0)) (
   some ((Ac.mk 0 0 0 0 0 0 0 (AH.mk [])),r2)
   ) (
   bd (Gx l0 ag ae aa a9) fun r3 =>
   ite' (Option.isSome r3) (
    bd (r3) fun x1 =>
    some (x1,0)
    ) (
    some ((Ac.mk 0 0 0 0 0 0 0 (AH.mk [])),8)
    )
   )
  )
def K9(l0:List Ac)(ag:Int)(ae:Int)(aa:Int)(a9:Int):Option (Int×Int) :=
 bd (DU l0) fun r1 =>
 ite' (!decide (r1=0)) (
  some (0,r1)
  ) (
  ite' (bif (!decide (ag=2)) then(!decide (ag=3)) else false) (
   some (0,1)
   ) (
   bd (Rk aa a9) fun r2 =>
   ite' (!decide (r2=0)) (
    some (0,r2)
    ) (
    bd (Kw l0 ag ae aa a9) fun r3 =>
    some (r3,0)
    )
   )
  )
def jz70(a3:Int)(l0:List Ac):(Int×(List Int))->Option ((Int×(List Int))⊕(List Int)):=fun s=>match s with
 |(t17,l2) =>
  ite' (decide (t17<(l0.length:Int))) (
   bd (at? l0 t17) fun x1 =>
   ite' (decide (x1.Gauge=a3)) (
    ck (decide (List.length (l2++[x1.Known])*8<=140737488355328)) <|
    ck (At .i64 (t17+1)) <|
    some (.inl ((t17+1),(l2++[x1.Known])))
    ) (
    ck (At .i64 (t17+1)) <|
    some (.inl ((t17+1),l2))
    )
   ) (
   some (.inr l2)
   )
def Xx(l0:List Ac)(a3:Int):Option ((List Int)×Int) :=
 bd (DU l0) fun r1 =>
 ite' (!decide (r1=0)) (
  some ([],r1)
  ) (
  bd (lp (jz70 a3 l0) (0,[]))<|fun l2 =>
  bd (CF l2) fun r2 =>
  bd (Xe r2) fun r3 =>
  some (r3,0)
  )
def KA(v0:Ac):Option (Bool) :=
 ite' (bif (bif (bif (bif (bif (bif (bif (bif (decide (v0.Gauge<0)) then true else(decide (39<v0.Gauge))) then true else(decide (v0.Seq<0))) then true else(decide (1099511627776<v0.Seq))) then true else(decide (v0.Known<0))) then true else(decide (14609<v0.Known))) then true else(decide (v0.From<0))) then true else(decide (v0.To<=v0.From))) then true else(decide (1402560<v0.To))) (
  some false
  ) (
  ite' (decide (v0.Kind=1)) (
   bd (gd (decide (v0.Shift=0)) (NU v0.Curve)) fun r1 =>
   some (bif (decide (v0.Shift=0)) then(decide (r1=0)) else false)
   ) (
   ite' (decide (v0.Kind=2)) (
    some (bif (bif (decide ((v0.Curve.Points.length:Int)=0)) then(decide ((-1000)<=v0.Shift)) else false) then(decide (v0.Shift<=1000)) else false)
    ) (
    ite' (decide (v0.Kind=3)) (
     some (bif (bif (decide ((v0.Curve.Points.length:Int)=0)) then(decide ((-960)<=v0.Shift)) else false) then(decide (v0.Shift<=960)) else false)
     ) (
     some false
     )
    )
   )
  )
def RJ(l0:List Ac):Int->Option (Int⊕(Unit⊕Int)):=fun s=>match s with
 |k3 =>
  ite' (decide (k3<(l0.length:Int))) (
   bd (at? l0 k3) fun x1 =>
   bd (KA x1) fun r1 =>
   ck (!(!(decide (k3=0)))||At .i64 (k3-1)) <|
   bd (gd (!(decide (k3=0))) (at? l0 (k3-1))) fun x2 =>
   bd (gd (!(decide (k3=0))) (at? l0 k3)) fun x3 =>
   bd (gd (!(decide (k3=0))) (I9 x2 x3)) fun r2 =>
   ite' (bif (!r1) then true else(!(bif (decide (k3=0)) then true else r2))) (
    some (.inr (.inr 1))
    ) (
    ck (At .i64 (k3+1)) <|
    some (.inl (k3+1))
    )
   ) (
   some (.inr (.inl ()))
   )
def KB(l0:List Ac):Option (Int) :=
 ite' (decide (400<(l0.length:Int))) (
  some 2
  ) (
  bd (lp (RJ l0) 0)<|fun o=>match o with
  | .inl ()=>(
    some 0
   )
  | .inr o=>(
    some o
   )
  )
def NW(a3:Int)(ab:Int)(l0:List Ac)(r3:(List Int))(ad:AJ):(Int×(List AB))->Option ((Int×(List AB))⊕((List AB)⊕Bw)):=fun s=>match s with
 |(k15,l6) =>
  ck (At .i64 (k15+1)) <|
  ite' (decide ((k15+1)<(r3.length:Int))) (
   bd (at? r3 k15) fun x1 =>
   bd (Hr l0 1 a3 x1 ab) fun r4 =>
   ite' (decide (r4<0)) (
    some (.inr (.inr (Bw.mk [] 8)))
    ) (
    bd (at? r3 k15) fun x2 =>
    ck (At .i64 (k15+1)) <|
    bd (at? r3 (k15+1)) fun x3 =>
    bd (at? l0 r4) fun x4 =>
    bd (at? r3 k15) fun x5 =>
    bd (Hr l0 2 a3 x5 ab) fun r5 =>
    bd (α:=AB) (
     ite' (decide (0<=r5)) (
      bd (at? l0 r5) fun x6 =>
      some (AB.mk x2 x3 ad x6.Shift x4.Curve)
      ) (
      some (AB.mk x2 x3 ad 0 x4.Curve)
      )
    )<|fun b3 =>
     bd (α:=Unit⊕(List AB)) (
      ite' (decide (0<(l6.length:Int))) (
       ck (At .i64 ((l6.length:Int)-1)) <|
       bd (at? l6 ((l6.length:Int)-1)) fun x7 =>
       bd (I8 x7.Curve b3.Curve) fun r6 =>
       ite' (bif r6 then(decide (x7.Datum=b3.Datum)) else false) (
        ck (At .i64 ((l6.length:Int)-1)) <|
        bd (at? l6 ((l6.length:Int)-1)) fun x8 =>
        some (.inr (List.set l6 (Int.toNat ((l6.length:Int)-1)) (AB.mk x8.From b3.To x8.Weight x8.Datum x8.Curve)))
        ) (
        some (.inl ())
        )
       ) (
       some (.inl ())
       )
     )<|fun o=>match o with
      | .inl ()=>(
        ck (decide (List.length (l6++[b3])*88<=140737488355328)) <|
        ck (At .i64 (k15+1)) <|
        some (.inl ((k15+1),(l6++[b3])))
       )
      | .inr l6'=>(
        ck (At .i64 (k15+1)) <|
        some (.inl ((k15+1),l6'))
       )
    )
   ) (
   some (.inr (.inl l6))
   )
def NX(l0:List Ac)(a3:Int)(t2:Au)(ab:Int)(ad:AJ):Option (Bw) :=
 bd (KB l0) fun r1 =>
 ite' (!decide (r1=0)) (
  some (Bw.mk [] r1)
  ) (
  bd (IL ad) fun r2 =>
  ite' (!r2) (
   some (Bw.mk [] 1)
   ) (
   ite' (bif (bif (bif (bif (decide (t2.From<0)) then true else(decide (t2.To<t2.From))) then true else(decide (1402560<t2.To))) then true else(decide (ab<0))) then true else(decide (14609<ab))) (
    some (Bw.mk [] 3)
    ) (
    bd (Ky l0 a3 t2.From t2.To) fun r3 =>
    bd (lp (NW a3 ab l0 r3 ad) (0,[]))<|fun o=>match o with
    | .inl l6=>(
      some (Bw.mk l6 0)
     )
    | .inr o=>(
      some o
     )
    )
   )
  )
def KC(ai:Int)(l0:List Ac)(r1:(List Ac)×Int)(v1:Ac):Au->(List Au)->Option ((List Au)⊕Unit):=fun x s=>match s with
 |l7 =>
  bd (Gx l0 v1.Kind v1.Gauge x.From ai) fun r2 =>
  bd (Gx r1.1 v1.Kind v1.Gauge x.From ai) fun r3 =>
  bd (gd ((!(!(Option.isSome r3)))&&(bif (!(Option.isSome r2)) then(!decide (v1.Kind=1)) else false)) (r3)) fun x1 =>
  bd (α:=Unit⊕Unit) (
   ite' (bif (!(Option.isSome r3)) then true else(bif (bif (!(Option.isSome r2)) then(!decide (v1.Kind=1)) else false) then(decide (x1.Shift=0)) else false)) (
    some (.inr ())
    ) (
    some (.inl ())
    )
  )<|fun o=>match o with
   | .inl ()=>(
     bd (gd (Option.isSome r2) (r2)) fun x2 =>
     bd (gd (Option.isSome r2) (r3)) fun x3 =>
     bd (gd (bif (Option.isSome r2) then(decide (x2.Shift=x3.Shift)) else false) (r2)) fun x4 =>
     bd (gd (bif (Option.isSome r2) then(decide (x2.Shift=x3.Shift)) else false) (r3)) fun x5 =>
     bd (gd (bif (Option.isSome r2) then(decide (x2.Shift=x3.Shift)) else false) (Ht x4.Curve x5.Curve)) fun r4 =>
     bd (α:=Unit⊕Unit) (
      ite' (bif (bif (Option.isSome r2) then(decide (x2.Shift=x3.Shift)) else false) then r4 else false) (
       some (.inr ())
       ) (
       some (.inl ())
       )
     )<|fun o=>match o with
      | .inl ()=>(
        ck (!(decide (0<(l7.length:Int)))||At .i64 ((l7.length:Int)-1)) <|
        bd (gd (decide (0<(l7.length:Int))) (at? l7 ((l7.length:Int)-1))) fun x6 =>
        ite' (bif (decide (0<(l7.length:Int))) then(decide (x6.To=x.From)) else false) (
         ck (At .i64 ((l7.length:Int)-1)) <|
         bd (at? l7 ((l7.length:Int)-1)) fun x7 =>
         some (.inl (List.set l7 (Int.toNat ((l7.length:Int)-1)) (Au.mk x7.From x.To)))
         ) (
         ck (decide (List.length (l7++[x])*16<=140737488355328)) <|
         some (.inl (l7++[x]))
         )
       )
      | .inr ()=>(
        some (.inl l7)
       )
    )
   | .inr ()=>(
     some (.inl l7)
    )
def IN(l0:List Ac)(v1:Ac)(ai:Int):Option ((List Au)×Int) :=
 bd (Cu l0 v1) fun r1 =>
 ite' (!decide (r1.2=0)) (
  some ([],r1.2)
  ) (
  ite' (bif (decide (ai<0)) then true else(decide (14609<ai))) (
   some ([],3)
   ) (
   bd (Gy l0 v1.Gauge (Au.mk v1.From v1.To)) fun c1 =>
   bd (K0 c1 (fun l=>EM (KC ai l0 r1 v1) l [])) fun l =>
   bd (Bh (KC ai l0 r1 v1) l []) fun o=>match o with
   | .inl l7=>(
     some (l7,0)
    )
   |.inr _=>none
   )
  )
def Xy :Option ((List Ac)×Bool) :=
 bd (Cu [] (Ac.mk 2 3 3 5 150 300 5 (AH.mk []))) fun r1 =>
 bd (K7 100) fun r2 =>
 bd (Cu r1.1 (Ac.mk 1 3 1 0 0 1000 0 r2)) fun r3 =>
 bd (K7 50) fun r4 =>
 bd (Cu r3.1 (Ac.mk 1 3 2 10 100 200 0 r4)) fun r5 =>
 some (r5.1,(bif (bif (bif (decide (r1.2=0)) then(decide (r3.2=0)) else false) then(decide (r5.2=0)) else false) then(decide ((r5.1.length:Int)=3)) else false))
def KD :Option (Bool) :=
 bd (Xy ) fun r1 =>
 bd (gd (!(!r1.2)) (at? r1.1 0)) fun x1 =>
 bd (gd (!(bif (!r1.2) then true else(!decide (x1.Seq=1)))) (at? r1.1 1)) fun x2 =>
 bd (gd (!(bif (bif (!r1.2) then true else(!decide (x1.Seq=1))) then true else(!decide (x2.Seq=2)))) (at? r1.1 2)) fun x3 =>
 bd (gd (!(bif (bif (bif (!r1.2) then true else(!decide (x1.Seq=1))) then true else(!decide (x2.Seq=2))) then true else(!decide (x3.Seq=3)))) (DU r1.1)) fun r2 =>
 ite' (bif (bif (bif (bif (!r1.2) then true else(!decide (x1.Seq=1))) then true else(!decide (x2.Seq=2))) then true else(!decide (x3.Seq=3))) then true else(!decide (r2=0))) (
  some false
  ) (
  bd (NV r1.1 1 3 150 9) fun r3 =>
  bd (NV r1.1 1 3 150 10) fun r4 =>
  bd (NV r1.1 1 3 1000 10) fun r5 =>
  bd (K9 r1.1 2 3 150 4) fun r6 =>
  bd (K9 r1.1 2 3 150 5) fun r7 =>
  bd (K9 r1.1 3 3 150 5) fun r8 =>
  bd (K9 r1.1 1 3 150 5) fun r9 =>
  ite' (bif (bif (bif (bif (bif (bif (bif (bif (bif (bif (bif (!decide (r3.2=0)) then true else(!decide (r4.2=0))) then true else(!decide (r5.2=8))) then true else(!decide (r6.2=0))) then true else(!decide (r7.2=0))) then true else(!decide (r8.2=0))) then true else(!decide (r9.2=1))) then true else(!decide (r3.1.Seq=1))) then true else(!decide (r4.1.Seq=2))) then true else(!decide (r6.1=0))) then true else(!decide (r7.1=5))) then true else(!decide (r8.1=0))) (
   some false
   ) (
   bd (RH r1.1 90 210 9) fun r10 =>
   bd (Hu 90 150 100 0) fun r11 =>
   bd (Hu 150 210 100 5) fun r12 =>
   bd (ID r10 [r11,r12]) fun r13 =>
   bd (RH r1.1 90 210 10) fun r14 =>
   bd (Hu 90 100 100 0) fun r15 =>
   bd (Hu 100 150 50 0) fun r16 =>
   bd (Hu 150 200 50 5) fun r17 =>
   bd (Hu 200 210 100 5) fun r18 =>
   bd (ID r14 [r15,r16,r17,r18]) fun r19 =>
   bd (UA 1) fun r20 =>
   bd (G0 r1.1 3 (Au.mk 990 1001) 10 r20) fun r21 =>
   bd (UA 1) fun r22 =>
   bd (G0 r1.1 3 (Au.mk 90 90) 10 r22) fun r23 =>
   bd (K7 50) fun r24 =>
   bd (IN r1.1 (Ac.mk 1 3 4 12 150 250 0 r24) 11) fun r25 =>
   bd (IN r1.1 (Ac.mk 1 3 4 12 150 250 0 r24) 12) fun r26 =>
   bd (at? r1.1 0) fun x4 =>
   bd (Cu r1.1 x4) fun r27 =>
   bd (Cu r1.1 (Ac.mk 1 3 1 12 150 250 0 r24)) fun r28 =>
   bd (Xx r1.1 3) fun r29 =>
   ck (El r1.1 0 2) <|
   ck (El r1.1 1 (r1.1.length:Int)) <|
   bd (Xw (sub r1.1 0 2) (sub r1.1 1 (r1.1.length:Int))) fun r30 =>
   bd (gd (bif (bif (bif (bif r13 then r19 else false) then(bif (bif (bif (bif (bif (bif (bif (decide (r21.2=8)) then(decide (r23.2=0)) else false) then(decide (r25.2=0)) else false) then(decide (r26.2=0)) else false) then(decide (r27.2=9)) else false) then(decide (r28.2=24)) else false) then(decide (r29.2=0)) else false) then(decide (r30.2=0)) else false) else false) then(decide ((r23.1.length:Int)=0)) else false) then(decide ((r25.1.length:Int)=0)) else false) (Kv r26.1 [(Au.mk 200 250)])) fun r31 =>
   bd (gd (bif (bif (bif (bif (bif r13 then r19 else false) then(bif (bif (bif (bif (bif (bif (bif (decide (r21.2=8)) then(decide (r23.2=0)) else false) then(decide (r25.2=0)) else false) then(decide (r26.2=0)) else false) then(decide (r27.2=9)) else false) then(decide (r28.2=24)) else false) then(decide (r29.2=0)) else false) then(decide (r30.2=0)) else false) else false) then(decide ((r23.1.length:Int)=0)) else false) then(decide ((r25.1.length:Int)=0)) else false) then r31 else false) (Xk r29.1 [0,5,10])) fun r32 =>
   bd (gd (bif (bif (bif (bif (bif (bif r13 then r19 else false) then(bif (bif (bif (bif (bif (bif (bif (decide (r21.2=8)) then(decide (r23.2=0)) else false) then(decide (r25.2=0)) else false) then(decide (r26.2=0)) else false) then(decide (r27.2=9)) else false) then(decide (r28.2=24)) else false) then(decide (r29.2=0)) else false) then(decide (r30.2=0)) else false) else false) then(decide ((r23.1.length:Int)=0)) else false) then(decide ((r25.1.length:Int)=0)) else false) then r31 else false) then r32 else false) (Xp r30.1 r1.1)) fun r33 =>
   some (bif (bif (bif (bif (bif (bif (bif r13 then r19 else false) then(bif (bif (bif (bif (bif (bif (bif (decide (r21.2=8)) then(decide (r23.2=0)) else false) then(decide (r25.2=0)) else false) then(decide (r26.2=0)) else false) then(decide (r27.2=9)) else false) then(decide (r28.2=24)) else false) then(decide (r29.2=0)) else false) then(decide (r30.2=0)) else false) else false) then(decide ((r23.1.length:Int)=0)) else false) then(decide ((r25.1.length:Int)=0)) else false) then r31 else false) then r32 else false) then r33 else false)
   )
  )
def RK(l0:List Ac)(v1:Ac):Int->Option (Int⊕(Unit⊕Ba)):=fun s=>match s with
 |k7 =>
  ite' (decide (k7<(l0.length:Int))) (
   bd (at? l0 k7) fun x1 =>
   bd (gd (decide (x1.Gauge=v1.Gauge)) (at? l0 k7)) fun x2 =>
   ite' (bif (decide (x1.Gauge=v1.Gauge)) then(decide (x2.Seq=v1.Seq)) else false) (
    bd (at? l0 k7) fun x3 =>
    bd (K4 x3 v1) fun r3 =>
    ite' r3 (
     some (.inr (.inr (Ba.mk [] 9)))
     ) (
     some (.inr (.inr (Ba.mk [] 24)))
     )
    ) (
    ck (At .i64 (k7+1)) <|
    some (.inl (k7+1))
    )
   ) (
   some (.inr (.inl ()))
   )
def NY(l0:List Ac)(v1:Ac):Option (Ba) :=
 bd (KB l0) fun r1 =>
 ite' (!decide (r1=0)) (
  some (Ba.mk [] r1)
  ) (
  bd (KA v1) fun r2 =>
  ite' (!r2) (
   some (Ba.mk [] 1)
   ) (
   bd (lp (RK l0 v1) 0)<|fun o=>match o with
   | .inl ()=>(
     ite' (decide (400<=(l0.length:Int))) (
      some (Ba.mk [] 2)
      ) (
      bd (NG l0 v1) fun r4 =>
      some (Ba.mk r4 0)
      )
    )
   | .inr o=>(
     some o
    )
   )
  )
def NZ(ai:Int)(l0:List Ac)(r1:Ba)(r2:(List Int))(v1:Ac):(Int×(List Au))->Option ((Int×(List Au))⊕(List Au)):=fun s=>match s with
 |(k10,l4) =>
  ck (At .i64 (k10+1)) <|
  ite' (decide ((k10+1)<(r2.length:Int))) (
   bd (at? r2 k10) fun x1 =>
   bd (ND l0 r1.L v1 x1 ai) fun r3 =>
   bd (α:=Unit⊕Unit) (
    ite' (!r3) (
     some (.inr ())
     ) (
     some (.inl ())
     )
   )<|fun o=>match o with
    | .inl ()=>(
      ck (!(decide (0<(l4.length:Int)))||At .i64 ((l4.length:Int)-1)) <|
      bd (gd (decide (0<(l4.length:Int))) (at? l4 ((l4.length:Int)-1))) fun x2 =>
      bd (gd (decide (0<(l4.length:Int))) (at? r2 k10)) fun x3 =>
      ite' (bif (decide (0<(l4.length:Int))) then(decide (x2.To=x3)) else false) (
       ck (At .i64 ((l4.length:Int)-1)) <|
       ck (At .i64 (k10+1)) <|
       bd (at? r2 (k10+1)) fun x4 =>
       bd (at? l4 ((l4.length:Int)-1)) fun x5 =>
       ck (At .i64 (k10+1)) <|
       some (.inl ((k10+1),(List.set l4 (Int.toNat ((l4.length:Int)-1)) (Au.mk x5.From x4))))
       ) (
       bd (at? r2 k10) fun x6 =>
       ck (At .i64 (k10+1)) <|
       bd (at? r2 (k10+1)) fun x7 =>
       ck (decide (List.length (l4++[(Au.mk x6 x7)])*16<=140737488355328)) <|
       ck (At .i64 (k10+1)) <|
       some (.inl ((k10+1),(l4++[(Au.mk x6 x7)])))
       )
     )
    | .inr ()=>(
      ck (At .i64 (k10+1)) <|
      some (.inl ((k10+1),l4))
     )
   ) (
   some (.inr l4)
   )
def Oa(l0:List Ac)(v1:Ac)(ai:Int):Option (BT) :=
 bd (NY l0 v1) fun r1 =>
 ite' (!decide (r1.E=0)) (
  some (BT.mk [] r1.E)
  ) (
  ite' (bif (decide (ai<0)) then true else(decide (14609<ai))) (
   some (BT.mk [] 3)
   ) (
   bd (Ky l0 v1.Gauge v1.From v1.To) fun r2 =>
   bd (lp (NZ ai l0 r1 r2 v1) (0,[]))<|fun l4 =>
   some (BT.mk l4 0)
   )
  )
def RL(l0:List Ac)(v1:Ac)(q2:BC):Option (Bool) :=
 bd (NF l0 20) fun r1 =>
 bd (gd (!(!r1)) (Ku v1.Curve)) fun r2 =>
 ite' (bif (bif (bif (!r1) then true else(!r2)) then true else(decide (30<(q2.Weight.Num.length:Int)))) then true else(decide (30<(q2.Weight.Den.length:Int)))) (
  bd (KD ) fun r3 =>
  some r3
  ) (
  bd (G0 l0 q2.Gauge q2.Ticks q2.Known q2.Weight) fun r4 =>
  bd (NX l0 q2.Gauge q2.Ticks q2.Known q2.Weight) fun r5 =>
  bd (IN l0 v1 q2.Known) fun r6 =>
  bd (Oa l0 v1 q2.Known) fun r7 =>
  bd (KD ) fun r8 =>
  bd (gd (bif r8 then(decide (r4.2=r5.E)) else false) (ID r4.1 r5.L)) fun r9 =>
  bd (gd (bif (bif (bif r8 then(decide (r4.2=r5.E)) else false) then r9 else false) then(decide (r6.2=r7.E)) else false) (Kv r6.1 r7.L)) fun r10 =>
  some (bif (bif (bif (bif r8 then(decide (r4.2=r5.E)) else false) then r9 else false) then(decide (r6.2=r7.E)) else false) then r10 else false)
  )
end Go.Am

