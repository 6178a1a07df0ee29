/- Part F1: the functions of this seat as functions of plain values. No condition. -/
import Derived.Test.YtiaclogojhfmfaaGreatDoorX1
set_option linter.unusedVariables false
namespace Go.Am
structure Ae where
 Gauge:Int
 Seq:Int
 From:Int
 To:Int
 Stage:Int
 Known:Int
deriving DecidableEq,Inhabited
structure DK where
 e0:List Ae
 e1:List Ae
deriving DecidableEq,Inhabited
structure Bd where
 Neg:Bool
 Num:List UInt8
 Den:List UInt8
deriving DecidableEq,Inhabited
structure AO where
 Stage:Int
 Flow:Bd
deriving DecidableEq,Inhabited
structure AM where
 Points:List AO
deriving DecidableEq,Inhabited
structure Ah where
 Kind:Int
 Gauge:Int
 Seq:Int
 Known:Int
 From:Int
 To:Int
 Shift:Int
 Curve:AM
deriving DecidableEq,Inhabited
structure At where
 From:Int
 To:Int
deriving DecidableEq,Inhabited
structure Dx where
 Gauge:Int
 Ticks:At
 Known:Int
deriving DecidableEq,Inhabited
structure Cq where
 R:Ae
 V:Ah
 Known:Int
deriving DecidableEq,Inhabited
structure DL where
 e0:List Ae
 e1:List Ae
 e2:List Ae
deriving DecidableEq,Inhabited
structure B8 where
 Stage:Int
 Ticks:Int
deriving DecidableEq,Inhabited
structure AT where
 From:Int
 To:Int
 Table:List B8
 Lo:Int
 Hi:Int
deriving DecidableEq,Inhabited
structure Dy where
 T:At
 E:Int
deriving DecidableEq,Inhabited
structure Az where
 t:At
 stage:Int
deriving DecidableEq,Inhabited
structure Cw where
 neg:Bool
 num:List UInt8
 den:List UInt8
deriving DecidableEq,Inhabited
structure GE where
 Q:List UInt8
 R:List UInt8
 E:Int
deriving DecidableEq,Inhabited
structure GF where
 S:List UInt8
 E:Int
deriving DecidableEq,Inhabited
structure BC where
 L:List Ae
 E:Int
deriving DecidableEq,Inhabited
structure DM where
 L:List Int
 E:Int
deriving DecidableEq,Inhabited
structure B9 where
 L:List Ah
 E:Int
deriving DecidableEq,Inhabited
structure DN where
 L:List AT
 E:Int
deriving DecidableEq,Inhabited
structure Bv where
 L:List At
 E:Int
deriving DecidableEq,Inhabited
structure AU where
 t:At
 stage:Int
deriving DecidableEq,Inhabited
def jzrs(x y:Ae):Bool:=(decide (x.Gauge=y.Gauge)&&(decide (x.Seq=y.Seq)&&(decide (x.From=y.From)&&(decide (x.To=y.To)&&(decide (x.Stage=y.Stage)&&(decide (x.Known=y.Known)&&true))))))
def wz2k(x y:Bd):Bool:=((x.Neg==y.Neg)&&(decide (x.Num=y.Num)&&(decide (x.Den=y.Den)&&true)))
def wz9t(x y:AO):Bool:=(decide (x.Stage=y.Stage)&&((x.Flow.Neg==y.Flow.Neg)&&(decide (x.Flow.Num=y.Flow.Num)&&(decide (x.Flow.Den=y.Flow.Den)&&true))))
def wz9x(x y:At):Bool:=(decide (x.From=y.From)&&(decide (x.To=y.To)&&true))
def jzrq(x y:Dx):Bool:=(decide (x.Gauge=y.Gauge)&&(decide (x.Ticks.From=y.Ticks.From)&&(decide (x.Ticks.To=y.Ticks.To)&&(decide (x.Known=y.Known)&&true))))
def jza2(x y:B8):Bool:=(decide (x.Stage=y.Stage)&&(decide (x.Ticks=y.Ticks)&&true))
def jzrw(x y:Dy):Bool:=(decide (x.T.From=y.T.From)&&(decide (x.T.To=y.T.To)&&(decide (x.E=y.E)&&true)))
def jzrl(x y:Az):Bool:=(decide (x.t.From=y.t.From)&&(decide (x.t.To=y.t.To)&&(decide (x.stage=y.stage)&&true)))
def wz8j(x y:Cw):Bool:=((x.neg==y.neg)&&(decide (x.num=y.num)&&(decide (x.den=y.den)&&true)))
def wz78(x y:GE):Bool:=(decide (x.Q=y.Q)&&(decide (x.R=y.R)&&(decide (x.E=y.E)&&true)))
def wz86(x y:GF):Bool:=(decide (x.S=y.S)&&(decide (x.E=y.E)&&true))
def jzq9(x y:AU):Bool:=(decide (x.t.From=y.t.From)&&(decide (x.t.To=y.t.To)&&(decide (x.stage=y.stage)&&true)))
def Mf(q:(List Az->Option Bool)->Option (List Az)):Option (List Az):=q (fun l=>ck (decide (l.length<=1000000000)) (some false))
def Ig(l:List Int):Option (List Int):=ck (decide (l.length<=4611686018427387904)) (some l.reverse)
def Be(a:Int):List Int->List Int
 |[]=>[a]
 |b :: l=>bif decide (a<=b) then a :: b :: l else b :: Be a l
def BD:List Int->List Int
 |[]=>[]
 |a :: l=>Be a (BD l)
def Dz(m:List (Int×Bool)):Option (List Int):=ck (decide (0<m.length)&&decide (m.length<=1000000000)) (some (BD (m.map (·.1))))
def Gf(l:List Int):Option (List Int):=ck (decide (0<l.length)&&decide (l.length*4<=140737488355328)) (some l)
def Tl(l:List Ae):Option (List Ae):=ck (decide (0<l.length)&&decide (l.length*48<=140737488355328)) (some l)
def Mg(l0:List Ae)(b7:Int):Option (Bool) :=
 some (bif (decide ((l0.length:Int)<=b7)) then true else(bif (decide (4000<(l0.length:Int))) then(decide ((l0.length:Int)<=4010)) else false))
def Ks(ar0:Ae):Option (Bool) :=
 some (bif (bif (bif (bif (bif (bif (bif (bif (bif (bif (decide (0<=ar0.Gauge)) then(decide (ar0.Gauge<40)) else false) then(decide (0<=ar0.Seq)) else false) then(decide (ar0.Seq<=1099511627776)) else false) then(decide (0<=ar0.From)) else false) then(decide (ar0.From<ar0.To)) else false) then(decide (ar0.To<=1402560)) else false) then(decide (0<=ar0.Stage)) else false) then(decide (ar0.Stage<=1000)) else false) then(decide (0<=ar0.Known)) else false) then(decide (ar0.Known<=14609)) else false)
def jzpy(a0:List Ae)(b1:List Ae):Int->Option (Int⊕(Unit⊕Bool)):=fun s=>match s with
 |k5 =>
  ite' (decide (k5<(a0.length:Int))) (
   bd (at? a0 k5) fun x1 =>
   bd (at? b1 k5) fun x2 =>
   ite' (!(decide (x1.Gauge=x2.Gauge)&&(decide (x1.Seq=x2.Seq)&&(decide (x1.From=x2.From)&&(decide (x1.To=x2.To)&&(decide (x1.Stage=x2.Stage)&&(decide (x1.Known=x2.Known)&&true))))))) (
    some (.inr (.inr false))
    ) (
    ck (Ax .i64 (k5+1)) <|
    some (.inl (k5+1))
    )
   ) (
   some (.inr (.inl ()))
   )
def VD(a0:List Ae)(b1:List Ae):Option (Bool) :=
 ite' (!decide ((a0.length:Int)=(b1.length:Int))) (
  some false
  ) (
  bd (lp (jzpy a0 b1) 0)<|fun o=>match o with
  | .inl ()=>(
    some true
   )
  | .inr o=>(
    some o
   )
  )
def jzq5(a0:List Int)(b1:List Int):Int->Option (Int⊕(Unit⊕Bool)):=fun s=>match s with
 |k5 =>
  ite' (decide (k5<(a0.length:Int))) (
   bd (at? a0 k5) fun x1 =>
   bd (at? b1 k5) fun x2 =>
   ite' (!decide (x1=x2)) (
    some (.inr (.inr false))
    ) (
    ck (Ax .i64 (k5+1)) <|
    some (.inl (k5+1))
    )
   ) (
   some (.inr (.inl ()))
   )
def VE(a0:List Int)(b1:List Int):Option (Bool) :=
 ite' (!decide ((a0.length:Int)=(b1.length:Int))) (
  some false
  ) (
  bd (lp (jzq5 a0 b1) 0)<|fun o=>match o with
  | .inl ()=>(
    some true
   )
  | .inr o=>(
    some o
   )
  )
def PB(ac0:AM):Int->Option (Int⊕(Unit⊕Bool)):=fun s=>match s with
 |k3 =>
  ite' (decide (k3<(ac0.Points.length:Int))) (
   bd (at? ac0.Points k3) fun x1 =>
   bd (gd (!(decide (12<(x1.Flow.Num.length:Int)))) (at? ac0.Points k3)) fun x2 =>
   ite' (bif (decide (12<(x1.Flow.Num.length:Int))) then true else(decide (12<(x2.Flow.Den.length:Int)))) (
    some (.inr (.inr false))
    ) (
    ck (Ax .i64 (k3+1)) <|
    some (.inl (k3+1))
    )
   ) (
   some (.inr (.inl ()))
   )
def Kt(ac0:AM):Option (Bool) :=
 ite' (decide (20<(ac0.Points.length:Int))) (
  some false
  ) (
  bd (lp (PB ac0) 0)<|fun o=>match o with
  | .inl ()=>(
    some true
   )
  | .inr o=>(
    some o
   )
  )
def PC(a0:List At)(b1:List At):Int->Option (Int⊕(Unit⊕Bool)):=fun s=>match s with
 |k5 =>
  ite' (decide (k5<(a0.length:Int))) (
   bd (at? a0 k5) fun x1 =>
   bd (at? b1 k5) fun x2 =>
   ite' (!(decide (x1.From=x2.From)&&(decide (x1.To=x2.To)&&true))) (
    some (.inr (.inr false))
    ) (
    ck (Ax .i64 (k5+1)) <|
    some (.inl (k5+1))
    )
   ) (
   some (.inr (.inl ()))
   )
def Hc(a0:List At)(b1:List At):Option (Bool) :=
 ite' (!decide ((a0.length:Int)=(b1.length:Int))) (
  some false
  ) (
  bd (lp (PC a0 b1) 0)<|fun o=>match o with
  | .inl ()=>(
    some true
   )
  | .inr o=>(
    some o
   )
  )
def F6(au:Int)(to1:Int):Option (At) :=
 some (At.mk au to1)
def VF :Option ((List Ae)×Ah) :=
 some ([(Ae.mk 3 1 100 120 50 0),(Ae.mk 3 2 110 114 60 2),(Ae.mk 3 5 130 140 50 1)],(Ah.mk 3 3 9 3 105 200 (-4) (AM.mk [])))
def Hd(au:Int)(to1:Int):Option (AT) :=
 some (AT.mk au to1 [] 0 1000)
def Gg(au:Int)(to1:Int)(be:Int):Option (AT) :=
 ck (Ax .i64 (to1-au)) <|
 some (AT.mk au to1 [(B8.mk be (to1-au))] 0 0)
def PD(ar:Ae->Ae->Option Int)(a6:Ae)(ax0:List Ae):(Int×Int)->Option ((Int×Int)⊕Int):=fun s=>match s with
 |(i9,j10) =>
  ite' (decide (i9<j10)) (
   ck (Ax .i64 (i9+j10)) <|
   ck (Ax .i64 (Int.fdiv ((i9+j10)%18446744073709551616) 2)) <|
   bd (at? ax0 (Int.fdiv ((i9+j10)%18446744073709551616) 2)) fun x1 =>
   bd (ar x1 a6) fun r1 =>
   ite' (decide (r1<0)) (
    ck (Ax .i64 ((Int.fdiv ((i9+j10)%18446744073709551616) 2)+1)) <|
    some (.inl (((Int.fdiv ((i9+j10)%18446744073709551616) 2)+1),j10))
    ) (
    some (.inl (i9,(Int.fdiv ((i9+j10)%18446744073709551616) 2)))
    )
   ) (
   some (.inr i9)
   )
def Ij(ax0:List Ae)(a6:Ae)(ar:Ae->Ae->Option Int):Option (Int×Bool) :=
 bd (lp (PD ar a6 ax0) (0,(ax0.length:Int)))<|fun i9 =>
 bd (gd (decide (i9<(ax0.length:Int))) (at? ax0 i9)) fun x2 =>
 bd (gd (decide (i9<(ax0.length:Int))) (ar x2 a6)) fun r2 =>
 some (i9,(bif (decide (i9<(ax0.length:Int))) then(decide (r2=0)) else false))
def Il(a0:Ae)(b1:Ae):Option (Bool) :=
 some (decide (a0.Gauge=b1.Gauge)&&(decide (a0.Seq=b1.Seq)&&(decide (a0.From=b1.From)&&(decide (a0.To=b1.To)&&(decide (a0.Stage=b1.Stage)&&(decide (b1.Known=b1.Known)&&true))))))
def PE(l0:List Ae)(ar1:Ae):Int->Option (Int⊕(Unit⊕Int)):=fun s=>match s with
 |k5 =>
  ite' (decide (k5<(l0.length:Int))) (
   bd (at? l0 k5) fun x1 =>
   bd (gd (decide (x1.Gauge=ar1.Gauge)) (at? l0 k5)) fun x2 =>
   ite' (bif (decide (x1.Gauge=ar1.Gauge)) then(decide (x2.Seq=ar1.Seq)) else false) (
    some (.inr (.inr k5))
    ) (
    ck (Ax .i64 (k5+1)) <|
    some (.inl (k5+1))
    )
   ) (
   some (.inr (.inl ()))
   )
def Ku(l0:List Ae)(ar1:Ae):Option (Int) :=
 bd (lp (PE l0 ar1) 0)<|fun o=>match o with
 | .inl ()=>(
   some (-1)
  )
 | .inr o=>(
   some o
  )
def Mh(a0:Ae)(b1:Ae):Option (Bool) :=
 some (bif (bif (bif (bif (decide (a0.Gauge=b1.Gauge)) then(decide (a0.Seq=b1.Seq)) else false) then(decide (a0.From=b1.From)) else false) then(decide (a0.To=b1.To)) else false) then(decide (a0.Stage=b1.Stage)) else false)
def Kv(a0:Ae)(b1:Ae):Option (Bool) :=
 some (bif (decide (a0.Gauge<b1.Gauge)) then true else(bif (decide (a0.Gauge=b1.Gauge)) then(decide (a0.Seq<b1.Seq)) else false))
def PF(l0:List Int)(n1:Int):(Bool×Int×(List Int))->Option ((Bool×Int×(List Int))⊕(Bool×(List Int))):=fun s=>match s with
 |(a9,k7,l1) =>
  ite' (decide (k7<(l0.length:Int))) (
   bd (gd (!a9) (at? l0 k7)) fun x1 =>
   bd (α:=Bool×(List Int)) (
    ite' (bif (!a9) then(decide (n1<=x1)) else false) (
     ck (decide (List.length (l1++[n1])*8<=140737488355328)) <|
     some (true,(l1++[n1]))
     ) (
     some (a9,l1)
     )
   )<|fun(a9',l1') =>
    bd (at? l0 k7) fun x2 =>
    ite' (!decide (x2=n1)) (
     bd (at? l0 k7) fun x3 =>
     ck (decide (List.length (l1'++[x3])*8<=140737488355328)) <|
     ck (Ax .i64 (k7+1)) <|
     some (.inl (a9',(k7+1),(l1'++[x3])))
     ) (
     ck (Ax .i64 (k7+1)) <|
     some (.inl (a9',(k7+1),l1'))
     )
   ) (
   some (.inr (a9,l1))
   )
def Gi(l0:List Int)(n1:Int):Option ((List Int)) :=
 bd (lp (PF l0 n1) (false,0,[]))<|fun(a9,l1) =>
 ite' (!a9) (
  ck (decide (List.length (l1++[n1])*8<=140737488355328)) <|
  some (l1++[n1])
  ) (
  some l1
  )
def Im(n0:Int)(lo1:Int)(gB:Int):Option (Bool) :=
 some (bif (decide (lo1<=n0)) then(decide (n0<=gB)) else false)
def PH(l0:List Ah):Int->Option (Int⊕(Unit⊕Bool)):=fun s=>match s with
 |k5 =>
  ite' (decide (k5<(l0.length:Int))) (
   bd (at? l0 k5) fun x1 =>
   bd (Kt x1.Curve) fun r1 =>
   ite' (!r1) (
    some (.inr (.inr false))
    ) (
    ck (Ax .i64 (k5+1)) <|
    some (.inl (k5+1))
    )
   ) (
   some (.inr (.inl ()))
   )
def Mi(l0:List Ah)(b7:Int):Option (Bool) :=
 ite' (bif (bif (decide (b7<(l0.length:Int))) then(decide ((l0.length:Int)<=400)) else false) then true else(decide (410<(l0.length:Int)))) (
  some false
  ) (
  bd (lp (PH l0) 0)<|fun o=>match o with
  | .inl ()=>(
    some true
   )
  | .inr o=>(
    some o
   )
  )
def PI(al:List Int):Int->Option (Int⊕(Unit⊕Int)):=fun s=>match s with
 |t8 =>
  ite' (decide (t8<(al.length:Int))) (
   bd (at? al t8) fun x1 =>
   ite' (!decide (x1=0)) (
    some (.inr (.inr x1))
    ) (
    ck (Ax .i64 (t8+1)) <|
    some (.inl (t8+1))
    )
   ) (
   some (.inr (.inl ()))
   )
def In(al:List Int):Option (Int) :=
 bd (lp (PI al) 0)<|fun o=>match o with
 | .inl ()=>(
   some 0
  )
 | .inr o=>(
   some o
  )
def He(n0:Int):Option (Bool) :=
 some (bif (decide (0<=n0)) then(decide (n0<=14609)) else false)
def jzq0(a0:List B8)(b1:List B8):Int->Option (Int⊕(Unit⊕Bool)):=fun s=>match s with
 |k5 =>
  ite' (decide (k5<(a0.length:Int))) (
   bd (at? a0 k5) fun x1 =>
   bd (at? b1 k5) fun x2 =>
   ite' (!(decide (x1.Stage=x2.Stage)&&(decide (x1.Ticks=x2.Ticks)&&true))) (
    some (.inr (.inr false))
    ) (
    ck (Ax .i64 (k5+1)) <|
    some (.inl (k5+1))
    )
   ) (
   some (.inr (.inl ()))
   )
def VG(a0:List B8)(b1:List B8):Option (Bool) :=
 ite' (!decide ((a0.length:Int)=(b1.length:Int))) (
  some false
  ) (
  bd (lp (jzq0 a0 b1) 0)<|fun o=>match o with
  | .inl ()=>(
    some true
   )
  | .inr o=>(
    some o
   )
  )
def Mj(r1:(List Az))(r2:(List Az)):(Int×Int×(List At))->Option ((Int×Int×(List At))⊕(List At)):=fun s=>match s with
 |(i8,j9,l2) =>
  ite' (bif (decide (i8<(r1.length:Int))) then(decide (j9<(r2.length:Int))) else false) (
   bd (at? r1 i8) fun x1 =>
   bd (at? r2 j9) fun x2 =>
   bd (at? r1 i8) fun x3 =>
   bd (at? r2 j9) fun x4 =>
   bd (at? r1 i8) fun x5 =>
   bd (at? r2 j9) fun x6 =>
   bd (α:=(List At)) (
    ite' (!decide (x5.stage=x6.stage)) (
     ck (!(decide (0<(l2.length:Int)))||Ax .i64 ((l2.length:Int)-1)) <|
     bd (gd (decide (0<(l2.length:Int))) (at? l2 ((l2.length:Int)-1))) fun x7 =>
     ite' (bif (decide (0<(l2.length:Int))) then(decide (x7.To=(max x1.t.From x2.t.From))) else false) (
      ck (Ax .i64 ((l2.length:Int)-1)) <|
      bd (at? l2 ((l2.length:Int)-1)) fun x8 =>
      some (List.set l2 (Int.toNat ((l2.length:Int)-1)) (At.mk x8.From (min x3.t.To x4.t.To)))
      ) (
      ck (decide (List.length (l2++[(At.mk (max x1.t.From x2.t.From) (min x3.t.To x4.t.To))])*16<=140737488355328)) <|
      some (l2++[(At.mk (max x1.t.From x2.t.From) (min x3.t.To x4.t.To))])
      )
     ) (
     some l2
     )
   )<|fun l2' =>
    bd (at? r1 i8) fun x9 =>
    bd (α:=Int) (
     ite' (decide (x9.t.To=(min x3.t.To x4.t.To))) (
      ck (Ax .i64 (i8+1)) <|
      some (i8+1)
      ) (
      some i8
      )
    )<|fun i8' =>
     bd (at? r2 j9) fun x10 =>
     ite' (decide (x10.t.To=(min x3.t.To x4.t.To))) (
      ck (Ax .i64 (j9+1)) <|
      some (.inl (i8',(j9+1),l2'))
      ) (
      some (.inl (i8',j9,l2'))
      )
   ) (
   some (.inr l2)
   )
def Kw(a0:(List Az->Option Bool)->Option (List Az))(b1:(List Az->Option Bool)->Option (List Az)):Option ((List At)) :=
 bd (Mf a0) fun r1 =>
 bd (Mf b1) fun r2 =>
 bd (lp (Mj r1 r2) (0,0,[]))<|fun l2 =>
 some l2
def Hf :Option (At) :=
 some (At.mk 0 1402560)
def PJ(ar:Ah->Ah->Option Int)(a6:Ah)(ax0:List Ah):(Int×Int)->Option ((Int×Int)⊕Int):=fun s=>match s with
 |(i9,j10) =>
  ite' (decide (i9<j10)) (
   ck (Ax .i64 (i9+j10)) <|
   ck (Ax .i64 (Int.fdiv ((i9+j10)%18446744073709551616) 2)) <|
   bd (at? ax0 (Int.fdiv ((i9+j10)%18446744073709551616) 2)) fun x1 =>
   bd (ar x1 a6) fun r1 =>
   ite' (decide (r1<0)) (
    ck (Ax .i64 ((Int.fdiv ((i9+j10)%18446744073709551616) 2)+1)) <|
    some (.inl (((Int.fdiv ((i9+j10)%18446744073709551616) 2)+1),j10))
    ) (
    some (.inl (i9,(Int.fdiv ((i9+j10)%18446744073709551616) 2)))
    )
   ) (
   some (.inr i9)
   )
def Ik(ax0:List Ah)(a6:Ah)(ar:Ah->Ah->Option Int):Option (Int×Bool) :=
 bd (lp (PJ ar a6 ax0) (0,(ax0.length:Int)))<|fun i9 =>
 bd (gd (decide (i9<(ax0.length:Int))) (at? ax0 i9)) fun x2 =>
 bd (gd (decide (i9<(ax0.length:Int))) (ar x2 a6)) fun r2 =>
 some (i9,(bif (decide (i9<(ax0.length:Int))) then(decide (r2=0)) else false))
def PK(al:List Int):Int->Option (Int⊕(Unit⊕Int)):=fun s=>match s with
 |t8 =>
  ite' (decide (t8<(al.length:Int))) (
   bd (at? al t8) fun x1 =>
   ite' (!decide (x1=0)) (
    some (.inr (.inr x1))
    ) (
    ck (Ax .i64 (t8+1)) <|
    some (.inl (t8+1))
    )
   ) (
   some (.inr (.inl ()))
   )
def Ml(al:List Int):Option (Int) :=
 bd (lp (PK al) 0)<|fun o=>match o with
 | .inl ()=>(
   some 0
  )
 | .inr o=>(
   some o
  )
def PL(c0:List Int)(c1:List Int)(k4:Int):Int->Option (Int⊕Int):=fun s=>match s with
 |k4' =>
  ck (Ax .i64 (k4'+1)) <|
  bd (gd (decide ((k4'+1)<(c0.length:Int))) (at? c1 k4')) fun x1 =>
  bd (gd (decide ((k4'+1)<(c0.length:Int))) (at? c1 k4)) fun x2 =>
  ite' (bif (decide ((k4'+1)<(c0.length:Int))) then(decide (x1=x2)) else false) (
   ck (Ax .i64 (k4'+1)) <|
   some (.inl (k4'+1))
   ) (
   some (.inr k4')
   )
def PM(c0:List Int)(c1:List Int)(st:List Az->Option Bool):(Int×(List Az))->Option ((Int×(List Az))⊕((List Az)⊕(List Az))):=fun s=>match s with
 |(k4,ys) =>
  ck (Ax .i64 (k4+1)) <|
  ite' (decide ((k4+1)<(c0.length:Int))) (
   ck (Ax .i64 (k4+1)) <|
   bd (lp (PL c0 c1 k4) (k4+1))<|fun k4' =>
   bd (at? c0 k4) fun x3 =>
   bd (at? c0 k4') fun x4 =>
   bd (at? c1 k4) fun x5 =>
   bd (st (ys++[(Az.mk (At.mk x3 x4) x5)])) fun s1 =>
   ite' s1 (
    some (.inr (.inr (ys++[(Az.mk (At.mk x3 x4) x5)])))
    ) (
    some (.inl (k4',(ys++[(Az.mk (At.mk x3 x4) x5)])))
    )
   ) (
   some (.inr (.inl ys))
   )
def D0(c0:List Int)(c1:List Int)(st:List Az->Option Bool):Option (List Az) :=
 bd (lp (PM c0 c1 st) (0,[]))<|fun o=>match o with
 | .inl ys=>(
   some ys
  )
 | .inr o=>(
   some o
  )
def Io(a0:Ah)(b1:Ah):Option (Bool) :=
 some (bif (decide (a0.Gauge<b1.Gauge)) then true else(bif (decide (a0.Gauge=b1.Gauge)) then(decide (a0.Seq<b1.Seq)) else false))
def PN(a2:Int)(ac:Int)(a3:Int)(l0:List Ah)(a4:Int):(Int×Int)->Option ((Int×Int)⊕Int):=fun s=>match s with
 |(ax,k12) =>
  ite' (decide (k12<(l0.length:Int))) (
   bd (at? l0 k12) fun x1 =>
   bd (gd ((bif (bif (bif (bif (decide (x1.Kind=ac)) then(decide (x1.Gauge=a2)) else false) then(decide (x1.Known<=a3)) else false) then(decide (x1.From<=a4)) else false) then(decide (a4<x1.To)) else false)&&(!(decide (ax<0)))) (at? l0 (max 0 ax))) fun x2 =>
   ite' (bif (bif (bif (bif (bif (decide (x1.Kind=ac)) then(decide (x1.Gauge=a2)) else false) then(decide (x1.Known<=a3)) else false) then(decide (x1.From<=a4)) else false) then(decide (a4<x1.To)) else false) then(bif (decide (ax<0)) then true else(decide (x2.Known<=x1.Known))) else false) (
    ck (Ax .i64 (k12+1)) <|
    some (.inl (k12,(k12+1)))
    ) (
    ck (Ax .i64 (k12+1)) <|
    some (.inl (ax,(k12+1)))
    )
   ) (
   some (.inr ax)
   )
def Mm(l0:List Ah)(ac:Int)(a2:Int)(a4:Int)(a3:Int):Option (Int) :=
 bd (lp (PN a2 ac a3 l0 a4) ((-1),0))<|fun ax =>
 some ax
def PO(l0:List Ah)(v1:Ah):(Bool×Int×(List Ah))->Option ((Bool×Int×(List Ah))⊕(Bool×(List Ah))):=fun s=>match s with
 |(a9,k7,l2) =>
  ite' (decide (k7<(l0.length:Int))) (
   bd (at? l0 k7) fun x1 =>
   bd (Io v1 x1) fun r1 =>
   bd (at? l0 k7) fun x2 =>
   bd (Io x2 v1) fun r2 =>
   bd (α:=Bool×(List Ah)) (
    ite' (bif (!a9) then(!r2) else false) (
     ck (decide (List.length (l2++[v1])*80<=140737488355328)) <|
     some (true,(l2++[v1]))
     ) (
     some (a9,l2)
     )
   )<|fun(a9',l2') =>
    ite' (bif r1 then true else r2) (
     bd (at? l0 k7) fun x3 =>
     ck (decide (List.length (l2'++[x3])*80<=140737488355328)) <|
     ck (Ax .i64 (k7+1)) <|
     some (.inl (a9',(k7+1),(l2'++[x3])))
     ) (
     ck (Ax .i64 (k7+1)) <|
     some (.inl (a9',(k7+1),l2'))
     )
   ) (
   some (.inr (a9,l2))
   )
def Mn(l0:List Ah)(v1:Ah):Option ((List Ah)) :=
 bd (lp (PO l0 v1) (false,0,[]))<|fun(a9,l2) =>
 ite' (!a9) (
  ck (decide (List.length (l2++[v1])*80<=140737488355328)) <|
  some (l2++[v1])
  ) (
  some l2
  )
def F7(ax0:Int):Option (Bool) :=
 some (!decide (ax0=ax0))
def PP(ax0:Int)(y1:Int):Option (Bool) :=
 bd (F7 ax0) fun r1 =>
 bd (gd r1 (F7 y1)) fun r2 =>
 some (bif (bif r1 then(!r2) else false) then true else(decide (ax0<y1)))
def PQ(ax0:Int):Option (Bool) :=
 some (!decide (ax0=ax0))
def PR(bb:Int)(b9:Int):Option (Int) :=
 ite' (bif (bif (bif (decide (bb<0)) then true else(decide (1402560<=bb))) then true else(decide (b9<0))) then true else(decide (14609<b9))) (
  some 3
  ) (
  some 0
  )
def VH(a0:AM)(b1:AM):Int->Option (Int⊕(Unit⊕Bool)):=fun s=>match s with
 |k5 =>
  ite' (decide (k5<(a0.Points.length:Int))) (
   bd (at? a0.Points k5) fun x1 =>
   bd (at? b1.Points k5) fun x2 =>
   ite' (!(decide (x1.Stage=x2.Stage)&&((x1.Flow.Neg==x2.Flow.Neg)&&(decide (x1.Flow.Num=x2.Flow.Num)&&(decide (x1.Flow.Den=x2.Flow.Den)&&true))))) (
    some (.inr (.inr false))
    ) (
    ck (Ax .i64 (k5+1)) <|
    some (.inl (k5+1))
    )
   ) (
   some (.inr (.inl ()))
   )
def PS(a0:AM)(b1:AM):Option (Bool) :=
 ite' (!decide ((a0.Points.length:Int)=(b1.Points.length:Int))) (
  some false
  ) (
  bd (lp (VH a0 b1) 0)<|fun o=>match o with
  | .inl ()=>(
    some true
   )
  | .inr o=>(
    some o
   )
  )
def PT(ba:Int):Option (Bool) :=
 some (bif (decide ((-1000)<=ba)) then(decide (ba<=2000)) else false)
def yzi(b2:List AO)(b5:List AO):Int->Option (Int⊕(Unit⊕Bool)):=fun s=>match s with
 |t13 =>
  ite' (decide (t13<(b2.length:Int))) (
   bd (at? b2 t13) fun x1 =>
   bd (at? b5 t13) fun x2 =>
   ite' (!(decide (x1.Stage=x2.Stage)&&((x1.Flow.Neg==x2.Flow.Neg)&&(decide (x1.Flow.Num=x2.Flow.Num)&&(decide (x1.Flow.Den=x2.Flow.Den)&&true))))) (
    some (.inr (.inr false))
    ) (
    ck (Ax .i64 (t13+1)) <|
    some (.inl (t13+1))
    )
   ) (
   some (.inr (.inl ()))
   )
def PU(b2:List AO)(b5:List AO):Option (Bool) :=
 ite' (!decide ((b2.length:Int)=(b5.length:Int))) (
  some false
  ) (
  bd (lp (yzi b2 b5) 0)<|fun o=>match o with
  | .inl ()=>(
    some true
   )
  | .inr o=>(
    some o
   )
  )
def PW(a2:Int)(ac:Int)(a3:Int)(l0:List Ah)(a4:Int):((Option Ah)×Int)->Option (((Option Ah)×Int)⊕(Option Ah)):=fun s=>match s with
 |(a7,t16) =>
  ite' (decide (t16<(l0.length:Int))) (
   bd (at? l0 t16) fun x1 =>
   bd (α:=Unit⊕Unit) (
    ite' (bif (bif (bif (bif (!decide (x1.Kind=ac)) then true else(!decide (x1.Gauge=a2))) then true else(decide (a3<x1.Known))) then true else(decide (a4<x1.From))) then true else(decide (x1.To<=a4))) (
     some (.inr ())
     ) (
     some (.inl ())
     )
   )<|fun o=>match o with
    | .inl ()=>(
      bd (gd (!(!(Option.isSome a7))) (a7)) fun x2 =>
      bd (gd (!(bif (!(Option.isSome a7)) then true else(decide (x2.Known<x1.Known)))) (a7)) fun x3 =>
      bd (gd ((!(bif (!(Option.isSome a7)) then true else(decide (x2.Known<x1.Known))))&&(decide (x1.Known=x3.Known))) (a7)) fun x4 =>
      ite' (bif (bif (!(Option.isSome a7)) then true else(decide (x2.Known<x1.Known))) then true else(bif (decide (x1.Known=x3.Known)) then(decide (x4.Seq<x1.Seq)) else false)) (
       ck (Ax .i64 (t16+1)) <|
       some (.inl ((some x1),(t16+1)))
       ) (
       ck (Ax .i64 (t16+1)) <|
       some (.inl (a7,(t16+1)))
       )
     )
    | .inr ()=>(
      ck (Ax .i64 (t16+1)) <|
      some (.inl (a7,(t16+1)))
     )
   ) (
   some (.inr a7)
   )
def Mo(l0:List Ah)(ac:Int)(a2:Int)(a4:Int)(a3:Int):Option ((Option Ah)) :=
 bd (lp (PW a2 ac a3 l0 a4) (none,0))<|fun a7 =>
 some a7
def Kx(a0:List UInt8):Option (Bool) :=
 ck (!(!(decide (a0=[])))||(C5 a0 0)) <|
 some (bif (decide (a0=[])) then true else(!decide ((CS a0 0)=0)))
def PX(a0:List UInt8):Int->Option (Int⊕Int):=fun s=>match s with
 |k3 =>
  ck (!(decide (k3<(a0.length:Int)))||(C5 a0 k3)) <|
  ite' (bif (decide (k3<(a0.length:Int))) then(decide ((CS a0 k3)=0)) else false) (
   ck (Ax .i64 (k3+1)) <|
   some (.inl (k3+1))
   ) (
   some (.inr k3)
   )
def D1(a0:List UInt8):Option ((List UInt8)) :=
 bd (lp (PX a0) 0)<|fun k3 =>
 ck (Dm a0 k3 (a0.length:Int)) <|
 some (sub a0 k3 (a0.length:Int))
def Ip(a0:List UInt8)(b1:List UInt8):Option (Int) :=
 bd (D1 a0) fun r1 =>
 bd (D1 b1) fun r2 =>
 ite' (decide (r1=r2)) (
  some 0
  ) (
  ite' (bif (decide ((r1.length:Int)<(r2.length:Int))) then true else(bif (decide ((r1.length:Int)=(r2.length:Int))) then(Op.bytesLess r1 r2) else false)) (
   some (-1)
   ) (
   some 1
   )
  )
def Ky(a0:Bd):Option ((List UInt8)×(List UInt8)) :=
 ite' (decide (a0.Num=[])) (
  some ([],[1])
  ) (
  some (a0.Num,a0.Den)
  )
def vzd :(List Int)->Option ((List Int)⊕(List Int)):=fun s=>match s with
 |x0 =>
  ck (!(decide (0<(x0.length:Int)))||Ax .i64 ((x0.length:Int)-1)) <|
  bd (gd (decide (0<(x0.length:Int))) (at? x0 ((x0.length:Int)-1))) fun x1 =>
  ite' (bif (decide (0<(x0.length:Int))) then(decide (x1=0)) else false) (
   ck (Ax .i64 ((x0.length:Int)-1)) <|
   ck (Dm x0 0 ((x0.length:Int)-1)) <|
   some (.inl (sub x0 0 ((x0.length:Int)-1)))
   ) (
   some (.inr x0)
   )
def HF(ax0:List Int):Option ((List Int)) :=
 bd (lp (vzd) ax0)<|fun x0 =>
 some x0
def F8(a0:List UInt8)(k1:Int):Option (Int) :=
 ite' (decide ((a0.length:Int)<=k1)) (
  some 0
  ) (
  ck (Ax .i64 ((a0.length:Int)-1)) <|
  ck (Ax .i64 (((a0.length:Int)-1)-k1)) <|
  ck (C5 a0 (((a0.length:Int)-1)-k1)) <|
  ck (Ax .i64 (CS a0 (((a0.length:Int)-1)-k1))) <|
  some (CS a0 (((a0.length:Int)-1)-k1))
  )
def PY(l0:List Int):(Int×(List Int))->Option ((Int×(List Int))⊕(List Int)):=fun s=>match s with
 |(k4,l1) =>
  ite' (decide (0<=k4)) (
   bd (at? l0 k4) fun x1 =>
   ck (decide (List.length (l1++[(x1%256)])*1<=140737488355328)) <|
   ck (Ax .i64 (k4-1)) <|
   some (.inl ((k4-1),(l1++[(x1%256)])))
   ) (
   some (.inr l1)
   )
def Iq(l0:List Int):Option ((List UInt8)) :=
 ck (Ax .i64 ((l0.length:Int)-1)) <|
 bd (lp (PY l0) (((l0.length:Int)-1),[]))<|fun l1 =>
 bd (D1 (CJ l1)) fun r1 =>
 some r1
def PZ(ax0:List Int)(k1:Int):Option (Int) :=
 ite' (decide (k1<(ax0.length:Int))) (
  bd (at? ax0 k1) fun x1 =>
  some (x1%18446744073709551616)
  ) (
  some 0
  )
def Kz(ax0:Int):Option (Bool) :=
 some (!decide (ax0=ax0))
def wz7(ac1:Int):(List UInt8)->Option ((List UInt8)⊕(List UInt8)):=fun s=>match s with
 |s0 =>
  ck (!(decide (0<(s0.length:Int)))||(C5 s0 0)) <|
  ite' (bif (decide (0<(s0.length:Int))) then(decide ((CS s0 0)=ac1)) else false) (
   ck (Dm s0 1 (s0.length:Int)) <|
   some (.inl (sub s0 1 (s0.length:Int)))
   ) (
   some (.inr s0)
   )
def Zc(as0:List UInt8)(ac1:Int):Option ((List UInt8)) :=
 bd (lp (wz7 ac1) as0)<|fun s0 =>
 some s0
def F5(ar0:Ae):Option (Bool) :=
 bd (Im ar0.Gauge 0 39) fun r1 =>
 bd (gd r1 (Im ar0.Seq 0 1099511627776)) fun r2 =>
 bd (gd (bif (bif (bif (bif r1 then r2 else false) then(decide (0<=ar0.From)) else false) then(decide (ar0.From<ar0.To)) else false) then(decide (ar0.To<=1402560)) else false) (Im ar0.Stage 0 1000)) fun r3 =>
 bd (gd (bif (bif (bif (bif (bif r1 then r2 else false) then(decide (0<=ar0.From)) else false) then(decide (ar0.From<ar0.To)) else false) then(decide (ar0.To<=1402560)) else false) then r3 else false) (Im ar0.Known 0 14609)) fun r4 =>
 some (bif (bif (bif (bif (bif (bif r1 then r2 else false) then(decide (0<=ar0.From)) else false) then(decide (ar0.From<ar0.To)) else false) then(decide (ar0.To<=1402560)) else false) then r3 else false) then r4 else false)
def Qa(l0:List Ae):Int->Option (Int⊕(Unit⊕Int)):=fun s=>match s with
 |k3 =>
  ite' (decide (k3<(l0.length:Int))) (
   bd (at? l0 k3) fun x1 =>
   bd (Ks x1) fun r1 =>
   ck (!(!(decide (k3=0)))||Ax .i64 (k3-1)) <|
   bd (gd (!(decide (k3=0))) (at? l0 (max 0 (k3-1)))) fun x2 =>
   bd (gd (!(decide (k3=0))) (at? l0 k3)) fun x3 =>
   bd (gd (!(decide (k3=0))) (Kv x2 x3)) fun r2 =>
   ite' (bif (!r1) then true else(!(bif (decide (k3=0)) then true else r2))) (
    some (.inr (.inr 1))
    ) (
    ck (Ax .i64 (k3+1)) <|
    some (.inl (k3+1))
    )
   ) (
   some (.inr (.inl ()))
   )
def Ir(l0:List Ae):Option (Int) :=
 ite' (decide (4000<(l0.length:Int))) (
  some 2
  ) (
  bd (lp (Qa l0) 0)<|fun o=>match o with
  | .inl ()=>(
    some 0
   )
  | .inr o=>(
    some o
   )
  )
def Mp(l0:List Ae)(vs1:List Ah):Option (Bool) :=
 bd (Mg l0 20) fun r1 =>
 bd (gd r1 (Mi vs1 12)) fun r2 =>
 some (bif r1 then r2 else false)
def jzq7(a0:List AT)(b1:List AT):Int->Option (Int⊕(Unit⊕Bool)):=fun s=>match s with
 |k5 =>
  ite' (decide (k5<(a0.length:Int))) (
   bd (at? a0 k5) fun x1 =>
   bd (at? b1 k5) fun x2 =>
   bd (VG x1.Table x2.Table) fun r1 =>
   bd (gd (!(!r1)) (at? a0 k5)) fun x3 =>
   bd (gd (!(!r1)) (at? b1 k5)) fun x4 =>
   bd (gd (!(bif (!r1) then true else(!decide (x3.From=x4.From)))) (at? a0 k5)) fun x5 =>
   bd (gd (!(bif (!r1) then true else(!decide (x3.From=x4.From)))) (at? b1 k5)) fun x6 =>
   bd (gd (!(bif (bif (!r1) then true else(!decide (x3.From=x4.From))) then true else(!decide (x5.To=x6.To)))) (at? a0 k5)) fun x7 =>
   bd (gd (!(bif (bif (!r1) then true else(!decide (x3.From=x4.From))) then true else(!decide (x5.To=x6.To)))) (at? b1 k5)) fun x8 =>
   bd (gd (!(bif (bif (bif (!r1) then true else(!decide (x3.From=x4.From))) then true else(!decide (x5.To=x6.To))) then true else(!decide (x7.Lo=x8.Lo)))) (at? a0 k5)) fun x9 =>
   bd (gd (!(bif (bif (bif (!r1) then true else(!decide (x3.From=x4.From))) then true else(!decide (x5.To=x6.To))) then true else(!decide (x7.Lo=x8.Lo)))) (at? b1 k5)) fun x10 =>
   ite' (bif (bif (bif (bif (!r1) then true else(!decide (x3.From=x4.From))) then true else(!decide (x5.To=x6.To))) then true else(!decide (x7.Lo=x8.Lo))) then true else(!decide (x9.Hi=x10.Hi))) (
    some (.inr (.inr false))
    ) (
    ck (Ax .i64 (k5+1)) <|
    some (.inl (k5+1))
    )
   ) (
   some (.inr (.inl ()))
   )
def Mq(a0:List AT)(b1:List AT):Option (Bool) :=
 ite' (!decide ((a0.length:Int)=(b1.length:Int))) (
  some false
  ) (
  bd (lp (jzq7 a0 b1) 0)<|fun o=>match o with
  | .inl ()=>(
    some true
   )
  | .inr o=>(
    some o
   )
  )
def K0(ar0:Ae)(vs1:List Ah)(ap:Int):Option (At) :=
 bd (Mm vs1 3 ar0.Gauge ar0.From ap) fun r1 =>
 bd (α:=Int) (
  ite' (decide (0<=r1)) (
   bd (at? vs1 r1) fun x1 =>
   some x1.Shift
   ) (
   some 0
   )
 )<|fun n7 =>
  ck (Ax .i64 (ar0.From+n7)) <|
  ck (Ax .i64 (ar0.To+n7)) <|
  ite' (decide ((min 1402560 (ar0.To+n7))<=(max 0 (ar0.From+n7)))) (
   some (At.mk 0 0)
   ) (
   some (At.mk (max 0 (ar0.From+n7)) (min 1402560 (ar0.To+n7)))
   )
def ED(ax0:Int)(y1:Int):Option (Int) :=
 bd (F7 ax0) fun r1 =>
 bd (F7 y1) fun r2 =>
 ite' r1 (
  ite' r2 (
   some 0
   ) (
   some (-1)
   )
  ) (
  ite' r2 (
   some 1
   ) (
   ite' (decide (ax0<y1)) (
    some (-1)
    ) (
    ite' (decide (y1<ax0)) (
     some 1
     ) (
     some 0
     )
    )
   )
  )
def Qb(a6:Int)(ax0:List Int):(Int×Int)->Option ((Int×Int)⊕Int):=fun s=>match s with
 |(i7,j8) =>
  ite' (decide (i7<j8)) (
   ck (Ax .i64 (i7+j8)) <|
   ck (Ax .i64 (Int.fdiv ((i7+j8)%18446744073709551616) 2)) <|
   bd (at? ax0 (Int.fdiv ((i7+j8)%18446744073709551616) 2)) fun x1 =>
   bd (PP x1 a6) fun r1 =>
   ite' r1 (
    ck (Ax .i64 ((Int.fdiv ((i7+j8)%18446744073709551616) 2)+1)) <|
    some (.inl (((Int.fdiv ((i7+j8)%18446744073709551616) 2)+1),j8))
    ) (
    some (.inl (i7,(Int.fdiv ((i7+j8)%18446744073709551616) 2)))
    )
   ) (
   some (.inr i7)
   )
def K2(ax0:List Int)(a6:Int):Option (Int×Bool) :=
 bd (lp (Qb a6 ax0) (0,(ax0.length:Int)))<|fun i7 =>
 bd (gd (decide (i7<(ax0.length:Int))) (at? ax0 i7)) fun x2 =>
 bd (gd ((decide (i7<(ax0.length:Int)))&&(!(decide (x2=a6)))) (at? ax0 i7)) fun x3 =>
 bd (gd ((decide (i7<(ax0.length:Int)))&&(!(decide (x2=a6)))) (PQ x3)) fun r2 =>
 bd (gd (((decide (i7<(ax0.length:Int)))&&(!(decide (x2=a6))))&&r2) (PQ a6)) fun r3 =>
 some (i7,(bif (decide (i7<(ax0.length:Int))) then(bif (decide (x2=a6)) then true else(bif r2 then r3 else false)) else false))
def Qd(a2:Int)(a3:Int)(l0:List Ae)(a4:Int)(vs1:List Ah):(Int×Int)->Option ((Int×Int)⊕Int):=fun s=>match s with
 |(a7,k12) =>
  ite' (decide (k12<(l0.length:Int))) (
   bd (at? l0 k12) fun x1 =>
   bd (K0 x1 vs1 a3) fun r1 =>
   bd (at? l0 k12) fun x2 =>
   bd (gd (decide (x2.Gauge=a2)) (at? l0 k12)) fun x3 =>
   bd (gd ((bif (bif (bif (decide (x2.Gauge=a2)) then(decide (x3.Known<=a3)) else false) then(decide (r1.From<=a4)) else false) then(decide (a4<r1.To)) else false)&&(!(decide (a7<0)))) (at? l0 k12)) fun x4 =>
   bd (gd ((bif (bif (bif (decide (x2.Gauge=a2)) then(decide (x3.Known<=a3)) else false) then(decide (r1.From<=a4)) else false) then(decide (a4<r1.To)) else false)&&(!(decide (a7<0)))) (at? l0 (max 0 a7))) fun x5 =>
   ite' (bif (bif (bif (bif (decide (x2.Gauge=a2)) then(decide (x3.Known<=a3)) else false) then(decide (r1.From<=a4)) else false) then(decide (a4<r1.To)) else false) then(bif (decide (a7<0)) then true else(decide (x5.Seq<x4.Seq))) else false) (
    ck (Ax .i64 (k12+1)) <|
    some (.inl (k12,(k12+1)))
    ) (
    ck (Ax .i64 (k12+1)) <|
    some (.inl (a7,(k12+1)))
    )
   ) (
   some (.inr a7)
   )
def Qe(l0:List Ae)(vs1:List Ah)(a2:Int)(a4:Int)(a3:Int):Option (Int) :=
 bd (lp (Qd a2 a3 l0 a4 vs1) ((-1),0))<|fun a7 =>
 some a7
def Mr(a0:Ah)(b1:Ah):Option (Bool) :=
 bd (PS a0.Curve b1.Curve) fun r1 =>
 some (bif (bif (bif (bif (bif (bif (bif r1 then(decide (a0.Kind=b1.Kind)) else false) then(decide (a0.Gauge=b1.Gauge)) else false) then(decide (a0.Seq=b1.Seq)) else false) then(decide (a0.Known=b1.Known)) else false) then(decide (a0.From=b1.From)) else false) then(decide (a0.To=b1.To)) else false) then(decide (a0.Shift=b1.Shift)) else false)
def Qf(a0:AM)(b1:AM):Option (Bool) :=
 bd (PU a0.Points b1.Points) fun r1 =>
 some r1
def Qg(l0:List Ah)(ac:Int)(a2:Int)(a4:Int)(a3:Int):Option (Int) :=
 bd (Mo l0 ac a2 a4 a3) fun r1 =>
 ite' (Option.isSome r1) (
  bd (r1) fun x1 =>
  some x1.Shift
  ) (
  some 0
  )
def K3(a0:List UInt8):Option (Bool) :=
 bd (D1 a0) fun r1 =>
 some (decide (a0=r1))
def Qh(a0:List UInt8)(ak:Int):(Int×Int)->Option ((Int×Int)⊕Int):=fun s=>match s with
 |(av,t22) =>
  ite' (decide (t22<(List.length (bytes (sub a0 (max 0 (ak-4)) ak)):Int))) (
   bd (at? (bytes (sub a0 (max 0 (ak-4)) ak)) t22) fun x1 =>
   ck (Ax .i64 (t22+1)) <|
   some (.inl ((bitI .or .u32 ((av*256)%4294967296) (x1%4294967296)),(t22+1)))
   ) (
   some (.inr av)
   )
def Qi(a0:List UInt8):(Int×(List Int))->Option ((Int×(List Int))⊕(List Int)):=fun s=>match s with
 |(ak,l2) =>
  ite' (decide (0<ak)) (
   ck (Ax .i64 (ak-4)) <|
   ck (Dm a0 (max 0 (ak-4)) ak) <|
   bd (lp (Qh a0 ak) (0,0))<|fun av =>
   ck (decide (List.length (l2++[av])*4<=140737488355328)) <|
   ck (Ax .i64 (ak-4)) <|
   some (.inl ((ak-4),(l2++[av])))
   ) (
   some (.inr l2)
   )
def HE(a0:List UInt8):Option ((List Int)) :=
 bd (lp (Qi a0) ((a0.length:Int),[]))<|fun l2 =>
 bd (HF l2) fun r1 =>
 some r1
def Qj(a0:List UInt8)(b1:List UInt8):(Int×Int×(List Int))->Option ((Int×Int×(List Int))⊕(List Int)):=fun s=>match s with
 |(ab,k7,l2) =>
  ite' (decide (k7<(a0.length:Int))) (
   bd (F8 a0 k7) fun r2 =>
   bd (F8 b1 k7) fun r3 =>
   ck (Ax .i64 (r2-r3)) <|
   ck (Ax .i64 ((r2-r3)-ab)) <|
   bd (α:=Int×Int) (
    ite' (decide (((r2-r3)-ab)<0)) (
     ck (Ax .i64 (((r2-r3)-ab)+256)) <|
     some (1,(((r2-r3)-ab)+256))
     ) (
     some (0,((r2-r3)-ab))
     )
   )<|fun(ab',n8) =>
    ck (decide (List.length (l2++[n8])*8<=140737488355328)) <|
    ck (Ax .i64 (k7+1)) <|
    some (.inl (ab',(k7+1),(l2++[n8])))
   ) (
   some (.inr l2)
   )
def Is(a0:List UInt8)(b1:List UInt8):Option (GF) :=
 bd (Ip a0 b1) fun r1 =>
 ite' (decide (r1<0)) (
  some (GF.mk [] 3)
  ) (
  bd (lp (Qj a0 b1) (0,0,[]))<|fun l2 =>
  bd (Iq l2) fun r4 =>
  some (GF.mk r4 0)
  )
def Ms(a0:List UInt8)(b1:List UInt8)(i6:Int):(Int×Int×(List Int))->Option ((Int×Int×(List Int))⊕(List Int)):=fun s=>match s with
 |(ay,k8,l0') =>
  ite' (decide (k8<=(b1.length:Int))) (
   ck (Ax .i64 (i6+k8)) <|
   bd (at? l0' (i6+k8)) fun x1 =>
   bd (F8 a0 i6) fun r1 =>
   bd (F8 b1 k8) fun r2 =>
   ck (Ax .i64 (r1*r2)) <|
   ck (Ax .i64 (x1+(r1*r2))) <|
   ck (Ax .i64 ((x1+(r1*r2))+ay)) <|
   ck (Ax .i64 (i6+k8)) <|
   bd (at? l0' (i6+k8)) fun x2 =>
   ck (Ax .i64 (((x1+(r1*r2))+ay).tdiv 256)) <|
   ck (Ax .i64 (k8+1)) <|
   some (.inl ((((x1+(r1*r2))+ay).tdiv 256),(k8+1),(List.set l0' (Int.toNat (i6+k8)) (((x1+(r1*r2))+ay).tmod 256))))
   ) (
   some (.inr l0')
   )
def Ql(a0:List UInt8)(b1:List UInt8):(Int×(List Int))->Option ((Int×(List Int))⊕(List Int)):=fun s=>match s with
 |(i6,l0) =>
  ite' (decide (i6<(a0.length:Int))) (
   bd (lp (Ms a0 b1 i6) (0,0,l0))<|fun l0' =>
   ck (Ax .i64 (i6+1)) <|
   some (.inl ((i6+1),l0'))
   ) (
   some (.inr l0)
   )
def It(a0:List UInt8)(b1:List UInt8):Option ((List UInt8)) :=
 ck (Ax .i64 ((a0.length:Int)+(b1.length:Int))) <|
 ck (Ax .i64 (((a0.length:Int)+(b1.length:Int))+1)) <|
 ck (mkOk (((a0.length:Int)+(b1.length:Int))+1) 8) <|
 bd (lp (Ql a0 b1) (0,(List.replicate (Int.toNat (((a0.length:Int)+(b1.length:Int))+1)) 0)))<|fun l0 =>
 bd (Iq l0) fun r3 =>
 some r3
def Qm(a0:List UInt8)(b1:List UInt8):(Int×Int×(List Int))->Option ((Int×Int×(List Int))⊕(List Int)):=fun s=>match s with
 |(ae,k7,l1) =>
  ite' (decide (k7<=(max (a0.length:Int) (b1.length:Int)))) (
   bd (F8 a0 k7) fun r1 =>
   bd (F8 b1 k7) fun r2 =>
   ck (Ax .i64 (r1+r2)) <|
   ck (Ax .i64 ((r1+r2)+ae)) <|
   ck (decide (List.length (l1++[(((r1+r2)+ae).tmod 256)])*8<=140737488355328)) <|
   ck (Ax .i64 (((r1+r2)+ae).tdiv 256)) <|
   ck (Ax .i64 (k7+1)) <|
   some (.inl ((((r1+r2)+ae).tdiv 256),(k7+1),(l1++[(((r1+r2)+ae).tmod 256)])))
   ) (
   some (.inr l1)
   )
def Mt(a0:List UInt8)(b1:List UInt8):Option ((List UInt8)) :=
 bd (lp (Qm a0 b1) (0,0,[]))<|fun l1 =>
 bd (Iq l1) fun r3 =>
 some r3
def kzs(by1:Int)(ax0:List Int):(Int×Int×(List Int))->Option ((Int×Int×(List Int))⊕(Int×(List Int))):=fun s=>match s with
 |(az,k8,l0) =>
  ite' (decide (0<=k8)) (
   bd (at? ax0 k8) fun x1 =>
   ck (!decide ((by1%18446744073709551616)=0)) <|
   ck (!decide ((by1%18446744073709551616)=0)) <|
   bd (at? l0 k8) fun x2 =>
   ck (Ax .i64 (k8-1)) <|
   some (.inl (((bitI .or .u64 ((az*4294967296)%18446744073709551616) (x1%18446744073709551616)).tmod (by1%18446744073709551616)),(k8-1),(List.set l0 (Int.toNat k8) ((((bitI .or .u64 ((az*4294967296)%18446744073709551616) (x1%18446744073709551616)).tdiv (by1%18446744073709551616))%18446744073709551616)%4294967296))))
   ) (
   some (.inr (az,l0))
   )
def Tm(ax0:List Int)(by1:Int):Option ((List Int)×Int) :=
 ck (mkOk (ax0.length:Int) 4) <|
 ck (Ax .i64 ((ax0.length:Int)-1)) <|
 bd (lp (kzs by1 ax0) (0,((ax0.length:Int)-1),(List.replicate (Int.toNat (ax0.length:Int)) 0)))<|fun(az,l0) =>
 bd (HF l0) fun r1 =>
 some (r1,(az%4294967296))
def Zd(t20:Int)(x1:Int)(y1:List Int):(Int×Int×(List Int))->Option ((Int×Int×(List Int))⊕(List Int)):=fun s=>match s with
 |(b3,k9,l0') =>
  ite' (bif (decide (k9<(y1.length:Int))) then true else(decide (0<b3))) (
   bd (PZ y1 k9) fun r1 =>
   ck (Ax .i64 (t20+k9)) <|
   bd (at? l0' (t20+k9)) fun x2 =>
   ck (Ax .i64 (t20+k9)) <|
   bd (at? l0' (t20+k9)) fun x3 =>
   ck (Ax .i64 (k9+1)) <|
   some (.inl ((Int.fdiv (((((((x1%18446744073709551616)*r1)%18446744073709551616)+(x2%18446744073709551616))%18446744073709551616)+b3)%18446744073709551616) 4294967296),(k9+1),(List.set l0' (Int.toNat (t20+k9)) ((((((((x1%18446744073709551616)*r1)%18446744073709551616)+(x2%18446744073709551616))%18446744073709551616)+b3)%18446744073709551616)%4294967296))))
   ) (
   some (.inr l0')
   )
def kzu(ax0:List Int)(y1:List Int):(Int×(List Int))->Option ((Int×(List Int))⊕(List Int)):=fun s=>match s with
 |(t20,l0) =>
  ite' (decide (t20<(ax0.length:Int))) (
   bd (at? ax0 t20) fun x1 =>
   bd (lp (Zd t20 x1 y1) (0,0,l0))<|fun l0' =>
   ck (Ax .i64 (t20+1)) <|
   some (.inl ((t20+1),l0'))
   ) (
   some (.inr l0)
   )
def Qn(ax0:List Int)(y1:List Int):Option ((List Int)) :=
 ck (Ax .i64 ((ax0.length:Int)+(y1.length:Int))) <|
 ck (Ax .i64 (((ax0.length:Int)+(y1.length:Int))+1)) <|
 ck (mkOk (((ax0.length:Int)+(y1.length:Int))+1) 4) <|
 bd (lp (kzu ax0 y1) (0,(List.replicate (Int.toNat (((ax0.length:Int)+(y1.length:Int))+1)) 0)))<|fun l0 =>
 bd (HF l0) fun r2 =>
 some r2
def kzo(ax0:List Int)(y1:List Int):(Int×Int×(List Int))->Option ((Int×Int×(List Int))⊕(List Int)):=fun s=>match s with
 |(ab,t11,l1) =>
  ite' (decide (t11<(ax0.length:Int))) (
   bd (at? ax0 t11) fun x1 =>
   bd (PZ y1 t11) fun r1 =>
   ck (decide (List.length (l1++[((((((x1%18446744073709551616)-r1)%18446744073709551616)-ab)%18446744073709551616)%4294967296)])*4<=140737488355328)) <|
   ck (Ax .i64 (t11+1)) <|
   some (.inl ((Int.fdiv (((((x1%18446744073709551616)-r1)%18446744073709551616)-ab)%18446744073709551616) 9223372036854775808),(t11+1),(l1++[((((((x1%18446744073709551616)-r1)%18446744073709551616)-ab)%18446744073709551616)%4294967296)])))
   ) (
   some (.inr l1)
   )
def Qo(ax0:List Int)(y1:List Int):Option ((List Int)) :=
 bd (lp (kzo ax0 y1) (0,0,[]))<|fun l1 =>
 bd (HF l1) fun r2 =>
 some r2
def vze(ax0:List Int)(y1:List Int):(Int×Int×(List Int))->Option ((Int×Int×(List Int))⊕(List Int)):=fun s=>match s with
 |(ae,t15,l1) =>
  ite' (decide (t15<((max (ax0.length:Int) (y1.length:Int))+1))) (
   bd (PZ ax0 t15) fun r1 =>
   bd (PZ y1 t15) fun r2 =>
   ck (decide (List.length (l1++[(((((r1+r2)%18446744073709551616)+ae)%18446744073709551616)%4294967296)])*4<=140737488355328)) <|
   ck (Ax .i64 (t15+1)) <|
   some (.inl ((Int.fdiv ((((r1+r2)%18446744073709551616)+ae)%18446744073709551616) 4294967296),(t15+1),(l1++[(((((r1+r2)%18446744073709551616)+ae)%18446744073709551616)%4294967296)])))
   ) (
   some (.inr l1)
   )
def VI(ax0:List Int)(y1:List Int):Option ((List Int)) :=
 ck (Ax .i64 ((max (ax0.length:Int) (y1.length:Int))+1)) <|
 bd (lp (vze ax0 y1) (0,0,[]))<|fun l1 =>
 bd (HF l1) fun r3 =>
 some r3
def Mu(ax0:Int)(y1:Int):Option (Int) :=
 bd (Kz ax0) fun r1 =>
 bd (Kz y1) fun r2 =>
 ite' r1 (
  ite' r2 (
   some 0
   ) (
   some (-1)
   )
  ) (
  ite' r2 (
   some 1
   ) (
   ite' (decide (ax0<y1)) (
    some (-1)
    ) (
    ite' (decide (y1<ax0)) (
     some 1
     ) (
     some 0
     )
    )
   )
  )
def Qp(as0:List UInt8)(af:List UInt8):Option ((List UInt8)) :=
 ite' (bif (decide (as0=[])) then true else(decide (af=[]))) (
  some as0
  ) (
  ck (!(decide ((af.length:Int)=1))||(C5 af 0)) <|
  ite' (bif (decide ((af.length:Int)=1)) then(decide ((CS af 0)<128)) else false) (
   ck (C5 af 0) <|
   bd (Zc as0 (CS af 0)) fun r1 =>
   some r1
   ) (
   none
   )
  )
def Qq(l0:List Ae)(ar1:Ae):(Bool×Int×(List Ae))->Option ((Bool×Int×(List Ae))⊕(Bool×(List Ae))):=fun s=>match s with
 |(am,k12,l5) =>
  ite' (decide (k12<(l0.length:Int))) (
   bd (at? l0 k12) fun x4 =>
   bd (Kv ar1 x4) fun r5 =>
   bd (α:=Bool×(List Ae)) (
    ite' (bif r5 then(!am) else false) (
     ck (decide (List.length (l5++[ar1])*48<=140737488355328)) <|
     some (true,(l5++[ar1]))
     ) (
     some (am,l5)
     )
   )<|fun(am',l5') =>
    bd (at? l0 k12) fun x5 =>
    ck (decide (List.length (l5'++[x5])*48<=140737488355328)) <|
    ck (Ax .i64 (k12+1)) <|
    some (.inl (am',(k12+1),(l5'++[x5])))
   ) (
   some (.inr (am,l5))
   )
def F9(l0:List Ae)(ar1:Ae):Option (BC) :=
 bd (Ir l0) fun r1 =>
 ite' (!decide (r1=0)) (
  some (BC.mk [] r1)
  ) (
  bd (Ks ar1) fun r2 =>
  ite' (!r2) (
   some (BC.mk [] 1)
   ) (
   bd (Ku l0 ar1) fun r3 =>
   ite' (decide (0<=r3)) (
    bd (at? l0 r3) fun x1 =>
    bd (Mh x1 ar1) fun r4 =>
    bd (gd r4 (at? l0 r3)) fun x2 =>
    ite' (bif r4 then(decide (x2.Known<=ar1.Known)) else false) (
     some (BC.mk [] 9)
     ) (
     ite' (!r4) (
      some (BC.mk [] 24)
      ) (
      ck (decide (List.length ([]++l0)*48<=140737488355328)) <|
      bd (at? ([]++l0) r3) fun x3 =>
      some (BC.mk (List.set ([]++l0) (Int.toNat r3) ar1) 0)
      )
     )
    ) (
    ite' (decide ((l0.length:Int)=4000)) (
     some (BC.mk [] 2)
     ) (
     bd (lp (Qq l0 ar1) (false,0,[]))<|fun(am,l5) =>
     ite' (!am) (
      ck (decide (List.length (l5++[ar1])*48<=140737488355328)) <|
      some (BC.mk (l5++[ar1]) 0)
      ) (
      some (BC.mk l5 0)
      )
     )
    )
   )
  )
def Ep(a0:Ae)(b1:Ae):Option (Int) :=
 bd (ED a0.Gauge b1.Gauge) fun r1 =>
 bd (ED a0.Seq b1.Seq) fun r2 =>
 bd (Ml [r1,r2]) fun r3 =>
 some r3
def Qr(a2:Int)(a3:Int)(l0:List Ae)(t3:At)(vs1:List Ah):((List Int)×Int)->Option (((List Int)×Int)⊕(List Int)):=fun s=>match s with
 |(an,k12) =>
  ite' (decide (k12<(l0.length:Int))) (
   bd (at? l0 k12) fun x3 =>
   bd (K0 x3 vs1 a3) fun r2 =>
   bd (at? l0 k12) fun x4 =>
   bd (α:=(List Int)) (
    ite' (bif (bif (decide (x4.Gauge=a2)) then(decide (t3.From<r2.From)) else false) then(decide (r2.From<t3.To)) else false) (
     bd (Gi an r2.From) fun r3 =>
     some r3
     ) (
     some an
     )
   )<|fun an' =>
    bd (at? l0 k12) fun x5 =>
    ite' (bif (bif (decide (x5.Gauge=a2)) then(decide (t3.From<r2.To)) else false) then(decide (r2.To<t3.To)) else false) (
     bd (Gi an' r2.To) fun r4 =>
     ck (Ax .i64 (k12+1)) <|
     some (.inl (r4,(k12+1)))
     ) (
     ck (Ax .i64 (k12+1)) <|
     some (.inl (an',(k12+1)))
     )
   ) (
   some (.inr an)
   )
def K4(l0:List Ae)(vs1:List Ah)(a2:Int)(t3:At)(a3:Int):Option ((List Int)) :=
 bd (lp (Qr a2 a3 l0 t3 vs1) ([t3.From],0))<|fun an =>
 bd (Gi an t3.To) fun r5 =>
 some r5
def K5(l0:List Ae)(vs1:List Ah)(a2:Int)(a4:Int)(a3:Int):Option (Int) :=
 bd (Qe l0 vs1 a2 a4 a3) fun r1 =>
 ite' (decide (r1<0)) (
  some (-1)
  ) (
  bd (at? l0 r1) fun x1 =>
  some x1.Stage
  )
def Qs(r2:(List Int)):((List Int)×Int)->Option (((List Int)×Int)⊕(List Int)):=fun s=>match s with
 |(aj,k16) =>
  ite' (decide (k16<(r2.length:Int))) (
   bd (at? r2 k16) fun x1 =>
   bd (Gi aj x1) fun r3 =>
   ck (Ax .i64 (k16+1)) <|
   some (.inl (r3,(k16+1)))
   ) (
   some (.inr aj)
   )
def Qt(aj:List Int)(ao:Int)(aq:Int)(l0:List Ae)(m2:List Ae)(vs1:List Ah)(ws3:List Ah):(Int×(List At))->Option ((Int×(List At))⊕(List At)):=fun s=>match s with
 |(k18,l2) =>
  ck (Ax .i64 (k18+1)) <|
  ite' (decide ((k18+1)<(aj.length:Int))) (
   bd (at? aj k18) fun x2 =>
   bd (K5 l0 vs1 ao x2 aq) fun r4 =>
   bd (at? aj k18) fun x3 =>
   bd (K5 m2 ws3 ao x3 aq) fun r5 =>
   ck (!(bif (!decide (r4=r5)) then(decide (0<(l2.length:Int))) else false)||Ax .i64 ((l2.length:Int)-1)) <|
   bd (gd (bif (!decide (r4=r5)) then(decide (0<(l2.length:Int))) else false) (at? l2 (max 0 ((l2.length:Int)-1)))) fun x4 =>
   bd (gd (bif (!decide (r4=r5)) then(decide (0<(l2.length:Int))) else false) (at? aj k18)) fun x5 =>
   ite' (bif (bif (!decide (r4=r5)) then(decide (0<(l2.length:Int))) else false) then(decide (x4.To=x5)) else false) (
    ck (Ax .i64 ((l2.length:Int)-1)) <|
    ck (Ax .i64 (k18+1)) <|
    bd (at? aj (k18+1)) fun x6 =>
    bd (at? l2 ((l2.length:Int)-1)) fun x7 =>
    ck (Ax .i64 (k18+1)) <|
    some (.inl ((k18+1),(List.set l2 (Int.toNat ((l2.length:Int)-1)) (At.mk x7.From x6))))
    ) (
    ite' (!decide (r4=r5)) (
     bd (at? aj k18) fun x8 =>
     ck (Ax .i64 (k18+1)) <|
     bd (at? aj (k18+1)) fun x9 =>
     ck (decide (List.length (l2++[(At.mk x8 x9)])*16<=140737488355328)) <|
     ck (Ax .i64 (k18+1)) <|
     some (.inl ((k18+1),(l2++[(At.mk x8 x9)])))
     ) (
     ck (Ax .i64 (k18+1)) <|
     some (.inl ((k18+1),l2))
     )
    )
   ) (
   some (.inr l2)
   )
def K6(l0:List Ae)(vs1:List Ah)(m2:List Ae)(ws3:List Ah)(ao:Int)(aq:Int):Option ((List At)) :=
 bd (K4 l0 vs1 ao (At.mk 0 1402560) aq) fun r1 =>
 bd (K4 m2 ws3 ao (At.mk 0 1402560) aq) fun r2 =>
 bd (lp (Qs r2) (r1,0))<|fun aj =>
 bd (lp (Qt aj ao aq l0 m2 vs1 ws3) (0,[]))<|fun l2 =>
 some l2
def EC(a0:Ah)(b1:Ah):Option (Int) :=
 bd (ED a0.Gauge b1.Gauge) fun r1 =>
 ite' (!decide (r1=0)) (
  some r1
  ) (
  bd (ED a0.Seq b1.Seq) fun r2 =>
  some r2
  )
def Mv(a0:Ah)(b1:Ah):Option (Bool) :=
 bd (Qf a0.Curve b1.Curve) fun r1 =>
 ite' (!r1) (
  some false
  ) (
  some (bif (bif (bif (bif (bif (bif (decide (a0.Kind=b1.Kind)) then(decide (a0.Gauge=b1.Gauge)) else false) then(decide (a0.Seq=b1.Seq)) else false) then(decide (a0.Known=b1.Known)) else false) then(decide (a0.From=b1.From)) else false) then(decide (a0.To=b1.To)) else false) then(decide (a0.Shift=b1.Shift)) else false)
  )
def Qu(b1:List UInt8):((List UInt8)×Int)->Option (((List UInt8)×Int)⊕((List UInt8)×Int)):=fun s=>match s with
 |(r6',n8) =>
  bd (Ip r6' b1) fun r3 =>
  ite' (decide (0<=r3)) (
   bd (Is r6' b1) fun r4 =>
   ck (Ax .i64 (n8+1)) <|
   some (.inl (r4.S,(n8+1)))
   ) (
   some (.inr (r6',n8))
   )
def Qv(a0:List UInt8)(b1:List UInt8):((List UInt8)×(List UInt8)×Int)->Option (((List UInt8)×(List UInt8)×Int)⊕((List UInt8)×(List UInt8))):=fun s=>match s with
 |(q5,r6,k7) =>
  ite' (decide (k7<(a0.length:Int))) (
   ck (Ax .i64 (k7+1)) <|
   ck (Dm a0 k7 (k7+1)) <|
   ck (decide (r6.length+List.length (sub a0 k7 (k7+1))<=4611686018427387904)) <|
   bd (D1 (r6++(sub a0 k7 (k7+1)))) fun r2 =>
   bd (lp (Qu b1) (r2,0))<|fun(r6',n8) =>
   ck (decide (q5.length+List.length (CJ [(n8%256)])<=4611686018427387904)) <|
   ck (Ax .i64 (k7+1)) <|
   some (.inl ((q5++(CJ [(n8%256)])),r6',(k7+1)))
   ) (
   some (.inr (q5,r6))
   )
def Iu(a0:List UInt8)(b1:List UInt8):Option (GE) :=
 bd (D1 b1) fun r1 =>
 ite' (decide (r1=[])) (
  some (GE.mk [] [] 1)
  ) (
  bd (lp (Qv a0 b1) ([],[],0))<|fun(q5,r6) =>
  bd (D1 q5) fun r5 =>
  some (GE.mk r5 r6 0)
  )
def jz2(ax0:List Int)(y1:List Int):Int->Option (Int⊕(Unit⊕Int)):=fun s=>match s with
 |k6 =>
  ite' (decide (0<=k6)) (
   bd (at? ax0 k6) fun x1 =>
   bd (at? y1 k6) fun x2 =>
   bd (Mu x1 x2) fun r2 =>
   ite' (!decide (r2=0)) (
    some (.inr (.inr r2))
    ) (
    ck (Ax .i64 (k6-1)) <|
    some (.inl (k6-1))
    )
   ) (
   some (.inr (.inl ()))
   )
def Qw(ax0:List Int)(y1:List Int):Option (Int) :=
 bd (ED (ax0.length:Int) (y1.length:Int)) fun r1 =>
 ite' (!decide (r1=0)) (
  some r1
  ) (
  ck (Ax .i64 ((ax0.length:Int)-1)) <|
  bd (lp (jz2 ax0 y1) ((ax0.length:Int)-1))<|fun o=>match o with
  | .inl ()=>(
    some 0
   )
  | .inr o=>(
    some o
   )
  )
def Ox(ax0:List Int)(aw:Int):Option ((List Int)) :=
 ite' (decide (aw<0)) (
  ck (Ax .i64 (-aw)) <|
  ck (decide (0<=(-aw))) <|
  bd (Tm ax0 ((1*2 ^ min (Int.toNat (-aw)) 32)%4294967296)) fun r1 =>
  some r1.1
  ) (
  ck (decide (0<=aw)) <|
  bd (Qn ax0 [((1*2 ^ min (Int.toNat aw) 32)%4294967296)]) fun r2 =>
  some r2
  )
def Mw(a0:List UInt8):Option ((List UInt8)) :=
 bd (Qp a0 [0]) fun r1 =>
 some r1
def Qx(l0:List Ae):Int->Option (Int⊕(Unit⊕Int)):=fun s=>match s with
 |t10 =>
  ite' (decide (t10<(l0.length:Int))) (
   bd (at? l0 t10) fun x1 =>
   bd (F5 x1) fun r1 =>
   ck (!((!(!r1))&&(decide (0<t10)))||Ax .i64 (t10-1)) <|
   bd (gd ((!(!r1))&&(decide (0<t10))) (at? l0 (t10-1))) fun x2 =>
   bd (gd ((!(!r1))&&(decide (0<t10))) (Ep x2 x1)) fun r2 =>
   ite' (bif (!r1) then true else(bif (decide (0<t10)) then(decide (0<=r2)) else false)) (
    some (.inr (.inr 1))
    ) (
    ck (Ax .i64 (t10+1)) <|
    some (.inl (t10+1))
    )
   ) (
   some (.inr (.inl ()))
   )
def DO(l0:List Ae):Option (Int) :=
 ite' (decide (4000<(l0.length:Int))) (
  some 2
  ) (
  bd (lp (Qx l0) 0)<|fun o=>match o with
  | .inl ()=>(
    some 0
   )
  | .inr o=>(
    some o
   )
  )
def Iv :((List UInt8)×(List UInt8))->Option (((List UInt8)×(List UInt8))⊕(List UInt8)):=fun s=>match s with
 |(x5,y6) =>
  ite' (!decide (y6=[])) (
   bd (Iu x5 y6) fun r3 =>
   some (.inl (y6,r3.R))
   ) (
   some (.inr x5)
   )
def K7(a0:List UInt8)(b1:List UInt8):Option ((List UInt8)) :=
 bd (D1 a0) fun r1 =>
 bd (D1 b1) fun r2 =>
 bd (lp (Iv) (r1,r2))<|fun x5 =>
 some x5
def Ze(y1:List Int):Int->Option (Int⊕Int):=fun s=>match s with
 |ag =>
  ck (Ax .i64 ((y1.length:Int)-1)) <|
  bd (at? y1 ((y1.length:Int)-1)) fun x2 =>
  ck (decide (0<=ag)) <|
  ite' (decide (((x2*2 ^ min (Int.toNat ag) 32)%4294967296)<2147483648)) (
   ck (Ax .i64 (ag+1)) <|
   some (.inl (ag+1))
   ) (
   some (.inr ag)
   )
def Zf(j13:Int)(ad:List Int)(r4:(List Int)):(Int×Int)->Option ((Int×Int)⊕Int):=fun s=>match s with
 |(aa,ah) =>
  ck (!(decide (ah<4294967296))||Ax .i64 ((r4.length:Int)-2)) <|
  bd (gd (decide (ah<4294967296)) (at? r4 ((r4.length:Int)-2))) fun x7 =>
  ck (!(decide (ah<4294967296))||Ax .i64 (j13+(r4.length:Int))) <|
  ck (!(decide (ah<4294967296))||Ax .i64 ((j13+(r4.length:Int))-2)) <|
  bd (gd (decide (ah<4294967296)) (at? ad ((j13+(r4.length:Int))-2))) fun x8 =>
  ite' (bif (decide (ah<4294967296)) then(decide ((bitI .or .u64 ((ah*4294967296)%18446744073709551616) (x8%18446744073709551616))<((aa*(x7%18446744073709551616))%18446744073709551616))) else false) (
   ck (Ax .i64 ((r4.length:Int)-1)) <|
   bd (at? r4 ((r4.length:Int)-1)) fun x9 =>
   some (.inl (((aa-1)%18446744073709551616),((ah+(x9%18446744073709551616))%18446744073709551616)))
   ) (
   some (.inr aa)
   )
def yzk(j13:Int)(ad:List Int)(r4:(List Int)):(Int×(List Int))->Option ((Int×(List Int))⊕(Int×(List Int))):=fun s=>match s with
 |(aa',ai) =>
  bd (Gf (sub ad j13 ((j13+(r4.length:Int))+1))) fun r8 =>
  bd (HF r8) fun r9 =>
  bd (Qw r9 ai) fun r10 =>
  ite' (decide (r10<0)) (
   bd (Qo ai r4) fun r11 =>
   some (.inl (((aa'-1)%18446744073709551616),r11))
   ) (
   some (.inr (aa',ai))
   )
def Tn(r4:(List Int)):(Int×(List Int)×(List Int))->Option ((Int×(List Int)×(List Int))⊕((List Int)×(List Int))):=fun s=>match s with
 |(j13,ad,l3) =>
  ite' (decide (0<=j13)) (
   ck (Ax .i64 (j13+(r4.length:Int))) <|
   bd (at? ad (j13+(r4.length:Int))) fun x3 =>
   ck (Ax .i64 (j13+(r4.length:Int))) <|
   ck (Ax .i64 ((j13+(r4.length:Int))-1)) <|
   bd (at? ad ((j13+(r4.length:Int))-1)) fun x4 =>
   ck (Ax .i64 ((r4.length:Int)-1)) <|
   bd (at? r4 ((r4.length:Int)-1)) fun x5 =>
   ck (!decide ((x5%18446744073709551616)=0)) <|
   ck (Ax .i64 ((r4.length:Int)-1)) <|
   bd (at? r4 ((r4.length:Int)-1)) fun x6 =>
   bd (lp (Zf j13 ad r4) ((min (((bitI .or .u64 (((x3%18446744073709551616)*4294967296)%18446744073709551616) (x4%18446744073709551616)).tdiv (x5%18446744073709551616))%18446744073709551616) 4294967295),(((bitI .or .u64 (((x3%18446744073709551616)*4294967296)%18446744073709551616) (x4%18446744073709551616))-(((min (((bitI .or .u64 (((x3%18446744073709551616)*4294967296)%18446744073709551616) (x4%18446744073709551616)).tdiv (x5%18446744073709551616))%18446744073709551616) 4294967295)*(x6%18446744073709551616))%18446744073709551616))%18446744073709551616)))<|fun aa =>
   bd (α:=Unit⊕Unit) (
    ite' (decide (aa=0)) (
     some (.inr ())
     ) (
     some (.inl ())
     )
   )<|fun o=>match o with
    | .inl ()=>(
      ck (Ax .i64 (j13+(r4.length:Int))) <|
      ck (Ax .i64 ((j13+(r4.length:Int))+1)) <|
      ck (Dm ad j13 ((j13+(r4.length:Int))+1)) <|
      bd (Qn r4 [(aa%4294967296)]) fun r7 =>
      bd (lp (yzk j13 ad r4) (aa,r7))<|fun(aa',ai) =>
      bd (Gf (sub ad j13 ((j13+(r4.length:Int))+1))) fun r12 =>
      bd (HF r12) fun r13 =>
      bd (Qo r13 ai) fun r14 =>
      ck (Dm ad j13 ((j13+(r4.length:Int))+1)) <|
      ck (Dm (BP ad (Int.toNat j13) (List.replicate (Int.toNat (((j13+(r4.length:Int))+1)-j13)) 0)) j13 ((j13+(r4.length:Int))+1)) <|
      bd (at? l3 j13) fun x10 =>
      ck (Ax .i64 (j13-1)) <|
      some (.inl ((j13-1),(BP (BP ad (Int.toNat j13) (List.replicate (Int.toNat (((j13+(r4.length:Int))+1)-j13)) 0)) (Int.toNat j13) (List.take (Int.toNat (((j13+(r4.length:Int))+1)-j13)) r14)),(List.set l3 (Int.toNat j13) (aa'%4294967296))))
     )
    | .inr ()=>(
      ck (Ax .i64 (j13-1)) <|
      some (.inl ((j13-1),ad,l3))
     )
   ) (
   some (.inr (ad,l3))
   )
def Ow(ax0:List Int)(y1:List Int):Option ((List Int)×(List Int)) :=
 bd (Qw ax0 y1) fun r1 =>
 ite' (decide (r1<0)) (
  some ([],ax0)
  ) (
  ite' (decide ((y1.length:Int)=1)) (
   bd (at? y1 0) fun x1 =>
   bd (Tm ax0 x1) fun r2 =>
   bd (HF [r2.2]) fun r3 =>
   some (r2.1,r3)
   ) (
   bd (lp (Ze y1) 0)<|fun ag =>
   bd (Ox y1 ag) fun r4 =>
   bd (Ox ax0 ag) fun r5 =>
   bd (Gf r5) fun r6 =>
   ck (decide (List.length (r6++[0,0])*4<=140737488355328)) <|
   ck (Ax .i64 ((ax0.length:Int)-(r4.length:Int))) <|
   ck (Ax .i64 (((ax0.length:Int)-(r4.length:Int))+2)) <|
   ck (mkOk (((ax0.length:Int)-(r4.length:Int))+2) 4) <|
   ck (Ax .i64 ((List.length (r6++[0,0]):Int)-(r4.length:Int))) <|
   ck (Ax .i64 (((List.length (r6++[0,0]):Int)-(r4.length:Int))-1)) <|
   bd (lp (Tn r4) ((((List.length (r6++[0,0]):Int)-(r4.length:Int))-1),(r6++[0,0]),(List.replicate (Int.toNat (((ax0.length:Int)-(r4.length:Int))+2)) 0)))<|fun(ad,l3) =>
   bd (HF l3) fun r15 =>
   bd (HF ad) fun r16 =>
   ck (Ax .i64 (-ag)) <|
   bd (Ox r16 (-ag)) fun r17 =>
   some (r15,r17)
   )
  )
def vzb(ax0:List Int):(Int×(List Int))->Option ((Int×(List Int))⊕(List Int)):=fun s=>match s with
 |(t8,l1) =>
  ite' (decide (t8<(ax0.length:Int))) (
   bd (at? ax0 t8) fun x1 =>
   ck (decide (List.length (l1++[(x1%256),((Int.fdiv x1 256)%256),((Int.fdiv x1 65536)%256),((Int.fdiv x1 16777216)%256)])*1<=140737488355328)) <|
   ck (Ax .i64 (t8+1)) <|
   some (.inl ((t8+1),(l1++[(x1%256),((Int.fdiv x1 256)%256),((Int.fdiv x1 65536)%256),((Int.fdiv x1 16777216)%256)])))
   ) (
   some (.inr l1)
   )
def L0(ax0:List Int):Option ((List UInt8)) :=
 bd (lp (vzb ax0) (0,[]))<|fun l1 =>
 bd (Ig l1) fun r1 =>
 bd (Mw (CJ r1)) fun r2 =>
 some r2
def Iw(a0:List UInt8)(b1:List UInt8):Option ((List UInt8)) :=
 bd (HE a0) fun r1 =>
 bd (HE b1) fun r2 =>
 bd (Qn r1 r2) fun r3 =>
 bd (L0 r3) fun r4 =>
 some r4
def Mx(a0:List UInt8)(b1:List UInt8):Option ((List UInt8)) :=
 bd (HE a0) fun r1 =>
 bd (HE b1) fun r2 =>
 bd (VI r1 r2) fun r3 =>
 bd (L0 r3) fun r4 =>
 some r4
def My(a0:List UInt8)(b1:List UInt8):Option (Int) :=
 bd (HE a0) fun r1 =>
 bd (HE b1) fun r2 =>
 bd (Qw r1 r2) fun r3 =>
 some r3
def Mz(a0:List UInt8)(b1:List UInt8):Option ((List UInt8)×Int) :=
 bd (HE a0) fun r1 =>
 bd (HE b1) fun r2 =>
 bd (Qw r1 r2) fun r3 =>
 ite' (decide (r3<0)) (
  some ([],3)
  ) (
  bd (Qo r1 r2) fun r4 =>
  bd (L0 r4) fun r5 =>
  some (r5,0)
  )
def Ix(bf:Bool)(bg:List UInt8)(bc:List UInt8):Option (Bd) :=
 bd (D1 bg) fun r1 =>
 ite' (decide (r1=[])) (
  some (Bd.mk false [] [])
  ) (
  bd (K7 r1 bc) fun r2 =>
  bd (Iu r1 r2) fun r3 =>
  bd (Iu bc r2) fun r4 =>
  some (Bd.mk bf r3.Q r4.Q)
  )
def Ih:(List Int×List Int)->Option ((List Int×List Int)⊕List Int):=fun s=>match s with
 |(x,y)=>ite' (decide ((y.length:Int)=0)) (some (.inr x)) (bd (Ow x y) fun r=>some (.inl (y,r.2)))
def Ii(a0:List UInt8)(b1:List UInt8):Option (List UInt8) :=
 bd (HE a0) fun x =>
 bd (HE b1) fun y =>
 bd (lp Ih (x,y)) fun r =>
 L0 r
def DP(l0:List Ae)(ar1:Ae):Option ((List Ae)×Int) :=
 bd (DO l0) fun r1 =>
 ite' (!decide (r1=0)) (
  some ([],r1)
  ) (
  bd (F5 ar1) fun r2 =>
  ite' (!r2) (
   some ([],1)
   ) (
   bd (Ij l0 ar1 (fun a0 a1=>Ep a0 a1)) fun r3 =>
   ite' (bif (!r3.2) then(decide ((l0.length:Int)=4000)) else false) (
    some ([],2)
    ) (
    ite' (!r3.2) (
     none
     ) (
     bd (at? l0 r3.1) fun x1 =>
     bd (Il x1 ar1) fun r5 =>
     ite' (!r5) (
      some ([],24)
      ) (
      bd (at? l0 r3.1) fun x2 =>
      ite' (decide (x2.Known<=ar1.Known)) (
       some ([],9)
       ) (
       bd (Tl l0) fun r6 =>
       bd (at? r6 r3.1) fun x3 =>
       some ((List.set r6 (Int.toNat r3.1) ar1),0)
       )
      )
     )
    )
   )
  )
def insL{α:Type}(l:List α)(k:Nat)(x:α):List α:=l.take k++[x]++l.drop k
def P8(l0:List Ae)(r1:Ae):Option (List Ae×Int) :=
 bd (DO l0) fun e=>bd (F5 r1) fun b=>bd (Ij l0 r1 (fun a0 a1=>Ep a0 a1)) fun p =>
 ck (decide (e=0)&&b&&!p.2&&decide (0<=p.1)&&decide (Int.toNat p.1<=l0.length)&&decide (l0.length<4000)) (some (insL l0 (Int.toNat p.1) r1,0))
def Cb(l0:List Ae)(r1:Ae):Option (List Ae×Int):=match DP l0 r1 with
 |some y=>some y
 |none=>P8 l0 r1
def jzpo(a0:List Ae)(b1:List Ae):Int->Option (Int⊕(Unit⊕((List Ae)×Int))):=fun s=>match s with
 |t16 =>
  ite' (decide (t16<(List.length [a0,b1]:Int))) (
   bd (at? [a0,b1] t16) fun x1 =>
   bd (DO x1) fun r1 =>
   ite' (!decide (r1=0)) (
    some (.inr (.inr ([],r1)))
    ) (
    ck (Ax .i64 (t16+1)) <|
    some (.inl (t16+1))
    )
   ) (
   some (.inr (.inl ()))
   )
def jzow :((List Ae)×(List Ae)×(List Ae))->Option (((List Ae)×(List Ae)×(List Ae))⊕(((List Ae)×(List Ae)×(List Ae))⊕((List Ae)×Int))):=fun s=>match s with
 |(a0',b1',l2) =>
  ite' (bif (decide (0<(a0'.length:Int))) then(decide (0<(b1'.length:Int))) else false) (
   bd (at? a0' 0) fun x2 =>
   bd (at? b1' 0) fun x3 =>
   bd (Ep x2 x3) fun r2 =>
   ite' (decide (r2<0)) (
    bd (at? a0' 0) fun x4 =>
    ck (decide (List.length (l2++[x4])*48<=140737488355328)) <|
    ck (Dm a0' 1 (a0'.length:Int)) <|
    some (.inl ((sub a0' 1 (a0'.length:Int)),b1',(l2++[x4])))
    ) (
    ite' (decide (0<r2)) (
     bd (at? b1' 0) fun x5 =>
     ck (decide (List.length (l2++[x5])*48<=140737488355328)) <|
     ck (Dm b1' 1 (b1'.length:Int)) <|
     some (.inl (a0',(sub b1' 1 (b1'.length:Int)),(l2++[x5])))
     ) (
     bd (at? a0' 0) fun x6 =>
     bd (at? b1' 0) fun x7 =>
     bd (Il x6 x7) fun r3 =>
     ite' (!r3) (
      some (.inr (.inr ([],24)))
      ) (
      bd (at? a0' 0) fun x8 =>
      bd (at? b1' 0) fun x9 =>
      ck (decide (List.length (l2++[(Ae.mk x8.Gauge x8.Seq x8.From x8.To x8.Stage (min x8.Known x9.Known))])*48<=140737488355328)) <|
      ck (Dm a0' 1 (a0'.length:Int)) <|
      ck (Dm b1' 1 (b1'.length:Int)) <|
      some (.inl ((sub a0' 1 (a0'.length:Int)),(sub b1' 1 (b1'.length:Int)),(l2++[(Ae.mk x8.Gauge x8.Seq x8.From x8.To x8.Stage (min x8.Known x9.Known))])))
      )
     )
    )
   ) (
   some (.inr (.inl (a0',b1',l2)))
   )
def VJ(a0:List Ae)(b1:List Ae):Option ((List Ae)×Int) :=
 bd (lp (jzpo a0 b1) 0)<|fun o=>match o with
 | .inl ()=>(
   bd (lp (jzow) (a0,b1,[]))<|fun o=>match o with
   | .inl (a0',b1',l2)=>(
     ck (decide (List.length (l2++a0')*48<=140737488355328)) <|
     ck (decide (List.length ((l2++a0')++b1')*48<=140737488355328)) <|
     ite' (decide (4000<(List.length ((l2++a0')++b1'):Int))) (
      some ([],2)
      ) (
      some (((l2++a0')++b1'),0)
      )
    )
   | .inr o=>(
     some o
    )
  )
 | .inr o=>(
   some o
  )
def jzrk(b4:Int)(l0:List Ae):(Int×(List (Int×Bool)))->Option ((Int×(List (Int×Bool)))⊕(List (Int×Bool))):=fun s=>match s with
 |(t18,m0) =>
  ite' (decide (t18<(l0.length:Int))) (
   bd (at? l0 t18) fun x1 =>
   ite' (decide (x1.Gauge=b4)) (
    ck (Ax .i64 (t18+1)) <|
    some (.inl ((t18+1),(mput keqI m0 x1.Known true)))
    ) (
    ck (Ax .i64 (t18+1)) <|
    some (.inl ((t18+1),m0))
    )
   ) (
   some (.inr m0)
   )
def VK(l0:List Ae)(b4:Int):Option ((List Int)×Int) :=
 bd (DO l0) fun r1 =>
 ite' (!decide (r1=0)) (
  some ([],r1)
  ) (
  bd (lp (jzrk b4 l0) (0,([]:List (Int×Bool))))<|fun m0 =>
  bd (Dz m0) fun r2 =>
  some (r2,0)
  )
def K8(a0:Bd):Option (Bool) :=
 ite' (bif (decide (a0.Num=[])) then true else(decide (a0.Den=[]))) (
  some ((a0.Neg==false)&&(decide (a0.Num=[])&&(decide (a0.Den=[])&&true)))
  ) (
  bd (K3 a0.Num) fun r1 =>
  bd (K3 a0.Den) fun r2 =>
  bd (gd (bif r1 then r2 else false) (K7 a0.Num a0.Den)) fun r3 =>
  some (bif (bif r1 then r2 else false) then(decide (r3=[1])) else false)
  )
def yzs(a0:Bd):Option (Bool) :=
 ite' ((a0.Neg==false)&&(decide (a0.Num=[])&&(decide (a0.Den=[])&&true))) (
  some true
  ) (
  bd (gd (bif (!decide (a0.Num=[])) then(!decide (a0.Den=[])) else false) (Kx a0.Num)) fun r1 =>
  bd (gd (bif (bif (!decide (a0.Num=[])) then(!decide (a0.Den=[])) else false) then r1 else false) (Kx a0.Den)) fun r2 =>
  bd (gd (bif (bif (bif (!decide (a0.Num=[])) then(!decide (a0.Den=[])) else false) then r1 else false) then r2 else false) (Ii a0.Num a0.Den)) fun r3 =>
  some (bif (bif (bif (bif (!decide (a0.Num=[])) then(!decide (a0.Den=[])) else false) then r1 else false) then r2 else false) then(decide (r3=[1])) else false)
  )
def VL(a0:Bd):Option (Cw) :=
 bd (gd (!(decide (a0.Num=[]))) (yzs a0)) fun r1 =>
 ite' (bif (decide (a0.Num=[])) then true else(!r1)) (
  some (Cw.mk false [] [1])
  ) (
  some (Cw.mk a0.Neg a0.Num a0.Den)
  )
def Zg(f0:Cw)(g1:Cw):Option (Cw) :=
 bd (Iw f0.num g1.den) fun r1 =>
 bd (Iw g1.num f0.den) fun r2 =>
 bd (Iw f0.den g1.den) fun r3 =>
 ite' (f0.neg==g1.neg) (
  bd (Mx r1 r2) fun r4 =>
  some (Cw.mk f0.neg r4 r3)
  ) (
  bd (My r1 r2) fun r5 =>
  bd (α:=(List UInt8)×(List UInt8)×Cw) (
   ite' (decide (r5<0)) (
    some (r2,r1,(Cw.mk g1.neg f0.num f0.den))
    ) (
    some (r1,r2,f0)
    )
  )<|fun(a5,b6,b0) =>
   bd (Mz a5 b6) fun r6 =>
   some (Cw.mk b0.neg r6.1 r3)
  )
def Iy(a0:Bd):Option (Bd) :=
 bd (K8 a0) fun r1 =>
 ite' r1 (
  some a0
  ) (
  some (Bd.mk false [] [])
  )
def Qy(a0:Bd):Option (Bool) :=
 bd (yzs a0) fun r1 =>
 some (bif r1 then(!a0.Neg) else false)
def Zh(f0:Cw)(g1:Cw):Option (Cw) :=
 bd (Zg f0 (Cw.mk (!g1.neg) g1.num g1.den)) fun r1 =>
 some r1
def M0(a0:Bd)(b1:Bd):Option (Bd) :=
 bd (Iy a0) fun r1 =>
 bd (Iy b1) fun r2 =>
 bd (Ky r1) fun r3 =>
 bd (Ky r2) fun r4 =>
 bd (It r3.1 r4.2) fun r5 =>
 bd (It r4.1 r3.2) fun r6 =>
 bd (It r3.2 r4.2) fun r7 =>
 ite' (r1.Neg==r2.Neg) (
  bd (Mt r5 r6) fun r8 =>
  bd (Ix r1.Neg r8 r7) fun r9 =>
  some r9
  ) (
  bd (Ip r5 r6) fun r10 =>
  ite' (decide (0<=r10)) (
   bd (Is r5 r6) fun r11 =>
   bd (Ix r1.Neg r11.S r7) fun r12 =>
   some r12
   ) (
   bd (Is r6 r5) fun r13 =>
   bd (Ix r2.Neg r13.S r7) fun r14 =>
   some r14
   )
  )
def M1(a0:Bd):Option (Bd) :=
 bd (Iy a0) fun r1 =>
 ite' (!decide (r1.Num=[])) (
  some (Bd.mk (!r1.Neg) r1.Num r1.Den)
  ) (
  some r1
  )
def Zi(a0:Bd)(b1:Bd):Option (Int) :=
 bd (VL a0) fun r1 =>
 bd (VL b1) fun r2 =>
 bd (Zh r1 r2) fun r3 =>
 ite' (decide (r3.num=[])) (
  some 0
  ) (
  ite' r3.neg (
   some (-1)
   ) (
   some 1
   )
  )
def M2(a0:Bd)(b1:Bd):Option (Bd) :=
 bd (M1 b1) fun r1 =>
 bd (M0 a0 r1) fun r2 =>
 some r2
def Qz(ac0:AM):Int->Option (Int⊕(Unit⊕Int)):=fun s=>match s with
 |t18 =>
  ite' (decide (t18<(ac0.Points.length:Int))) (
   bd (at? ac0.Points t18) fun x1 =>
   bd (PT x1.Stage) fun r1 =>
   ite' (!r1) (
    some (.inr (.inr 3))
    ) (
    bd (Qy x1.Flow) fun r2 =>
    ite' (!r2) (
     some (.inr (.inr 1))
     ) (
     ck (!(decide (0<t18))||Ax .i64 (t18-1)) <|
     bd (gd (decide (0<t18)) (at? ac0.Points (t18-1))) fun x2 =>
     ck (!((decide (0<t18))&&(!(decide (x1.Stage<=x2.Stage))))||Ax .i64 (t18-1)) <|
     bd (gd ((decide (0<t18))&&(!(decide (x1.Stage<=x2.Stage)))) (at? ac0.Points (t18-1))) fun x3 =>
     bd (gd ((decide (0<t18))&&(!(decide (x1.Stage<=x2.Stage)))) (Zi x1.Flow x3.Flow)) fun r3 =>
     ite' (bif (decide (0<t18)) then(bif (decide (x1.Stage<=x2.Stage)) then true else(decide (r3<0))) else false) (
      some (.inr (.inr 1))
      ) (
      ck (Ax .i64 (t18+1)) <|
      some (.inl (t18+1))
      )
     )
    )
   ) (
   some (.inr (.inl ()))
   )
def M3(ac0:AM):Option (Int) :=
 ite' (bif (decide ((ac0.Points.length:Int)<1)) then true else(decide (16<(ac0.Points.length:Int)))) (
  some 2
  ) (
  bd (lp (Qz ac0) 0)<|fun o=>match o with
  | .inl ()=>(
    some 0
   )
  | .inr o=>(
    some o
   )
  )
def M4(a0:Bd)(b1:Bd):Option (Int) :=
 bd (M2 a0 b1) fun r1 =>
 ite' (decide (r1.Num=[])) (
  some 0
  ) (
  ite' r1.Neg (
   some (-1)
   ) (
   some 1
   )
  )
def Hb(v0:Ah):Option (Bool) :=
 ite' (bif (bif (bif (bif (bif (bif (bif (bif (decide (v0.Gauge<0)) then true else(decide (40<=v0.Gauge))) then true else(decide (v0.Seq<0))) then true else(decide (1099511627776<v0.Seq))) then true else(decide (v0.Known<0))) then true else(decide (14609<v0.Known))) then true else(decide (v0.From<0))) then true else(decide (v0.To<=v0.From))) then true else(decide (1402560<v0.To))) (
  some false
  ) (
  ite' (decide (v0.Kind=1)) (
   bd (gd (decide (v0.Shift=0)) (M3 v0.Curve)) fun r1 =>
   some (bif (decide (v0.Shift=0)) then(decide (r1=0)) else false)
   ) (
   ck (!(bif (Option.isSome (mget keqI (mput keqI (mput keqI ([]:List (Int×Int)) 2 1000) 3 960) v0.Kind)) then(decide ((v0.Curve.Points.length:Int)=0)) else false)||Ax .i64 (-(Option.getD (mget keqI (mput keqI (mput keqI ([]:List (Int×Int)) 2 1000) 3 960) v0.Kind) 0))) <|
   some (bif (bif (bif (Option.isSome (mget keqI (mput keqI (mput keqI ([]:List (Int×Int)) 2 1000) 3 960) v0.Kind)) then(decide ((v0.Curve.Points.length:Int)=0)) else false) then(decide ((-(Option.getD (mget keqI (mput keqI (mput keqI ([]:List (Int×Int)) 2 1000) 3 960) v0.Kind) 0))<=v0.Shift)) else false) then(decide (v0.Shift<=(Option.getD (mget keqI (mput keqI (mput keqI ([]:List (Int×Int)) 2 1000) 3 960) v0.Kind) 0))) else false)
   )
  )
def Q0(ac0:AM):Int->Option (Int⊕(Unit⊕Int)):=fun s=>match s with
 |k3 =>
  ite' (decide (k3<(ac0.Points.length:Int))) (
   bd (at? ac0.Points k3) fun x1 =>
   ite' (bif (decide (x1.Stage<(-1000))) then true else(decide (2000<x1.Stage))) (
    some (.inr (.inr 3))
    ) (
    bd (K8 x1.Flow) fun r1 =>
    ite' (bif (!r1) then true else x1.Flow.Neg) (
     some (.inr (.inr 1))
     ) (
     ck (!(decide (0<k3))||Ax .i64 (k3-1)) <|
     bd (gd (decide (0<k3)) (at? ac0.Points (k3-1))) fun x2 =>
     ite' (bif (decide (0<k3)) then(decide (x1.Stage<=x2.Stage)) else false) (
      some (.inr (.inr 1))
      ) (
      ck (!(decide (0<k3))||Ax .i64 (k3-1)) <|
      bd (gd (decide (0<k3)) (at? ac0.Points (k3-1))) fun x3 =>
      bd (gd (decide (0<k3)) (M4 x1.Flow x3.Flow)) fun r2 =>
      ite' (bif (decide (0<k3)) then(decide (r2<0)) else false) (
       some (.inr (.inr 1))
       ) (
       ck (Ax .i64 (k3+1)) <|
       some (.inl (k3+1))
       )
      )
     )
    )
   ) (
   some (.inr (.inl ()))
   )
def M5(ac0:AM):Option (Int) :=
 ite' (bif (decide ((ac0.Points.length:Int)<1)) then true else(decide (16<(ac0.Points.length:Int)))) (
  some 2
  ) (
  bd (lp (Q0 ac0) 0)<|fun o=>match o with
  | .inl ()=>(
    some 0
   )
  | .inr o=>(
    some o
   )
  )
def Q3(l0:List Ah):Int->Option (Int⊕(Unit⊕Int)):=fun s=>match s with
 |t10 =>
  ite' (decide (t10<(l0.length:Int))) (
   bd (at? l0 t10) fun x1 =>
   bd (Hb x1) fun r1 =>
   ck (!((!(!r1))&&(decide (0<t10)))||Ax .i64 (t10-1)) <|
   bd (gd ((!(!r1))&&(decide (0<t10))) (at? l0 (t10-1))) fun x2 =>
   bd (gd ((!(!r1))&&(decide (0<t10))) (EC x2 x1)) fun r2 =>
   ite' (bif (!r1) then true else(bif (decide (0<t10)) then(decide (0<=r2)) else false)) (
    some (.inr (.inr 1))
    ) (
    ck (Ax .i64 (t10+1)) <|
    some (.inl (t10+1))
    )
   ) (
   some (.inr (.inl ()))
   )
def Er(l0:List Ah):Option (Int) :=
 ite' (decide (400<(l0.length:Int))) (
  some 2
  ) (
  bd (lp (Q3 l0) 0)<|fun o=>match o with
  | .inl ()=>(
    some 0
   )
  | .inr o=>(
    some o
   )
  )
def K9(v0:Ah):Option (Bool) :=
 ite' (bif (bif (bif (bif (bif (bif (bif (bif (decide (v0.Gauge<0)) then true else(decide (39<v0.Gauge))) then true else(decide (v0.Seq<0))) then true else(decide (1099511627776<v0.Seq))) then true else(decide (v0.Known<0))) then true else(decide (14609<v0.Known))) then true else(decide (v0.From<0))) then true else(decide (v0.To<=v0.From))) then true else(decide (1402560<v0.To))) (
  some false
  ) (
  ite' (decide (v0.Kind=1)) (
   bd (gd (decide (v0.Shift=0)) (M5 v0.Curve)) fun r1 =>
   some (bif (decide (v0.Shift=0)) then(decide (r1=0)) else false)
   ) (
   ite' (decide (v0.Kind=2)) (
    some (bif (bif (decide ((v0.Curve.Points.length:Int)=0)) then(decide ((-1000)<=v0.Shift)) else false) then(decide (v0.Shift<=1000)) else false)
    ) (
    ite' (decide (v0.Kind=3)) (
     some (bif (bif (decide ((v0.Curve.Points.length:Int)=0)) then(decide ((-960)<=v0.Shift)) else false) then(decide (v0.Shift<=960)) else false)
     ) (
     some false
     )
    )
   )
  )
def Q4(l0:List Ah)(ac:Int)(a2:Int)(a4:Int)(a3:Int):Option (Int×Int) :=
 bd (Er l0) fun r1 =>
 ite' (!decide (r1=0)) (
  some (0,r1)
  ) (
  ite' (bif (!decide (ac=2)) then(!decide (ac=3)) else false) (
   some (0,1)
   ) (
   bd (PR a4 a3) fun r2 =>
   ite' (!decide (r2=0)) (
    some (0,r2)
    ) (
    bd (Qg l0 ac a2 a4 a3) fun r3 =>
    some (r3,0)
    )
   )
  )
def CY(l0:List Ah)(v1:Ah):Option ((List Ah)×Int) :=
 bd (Er l0) fun r1 =>
 ite' (!decide (r1=0)) (
  some ([],r1)
  ) (
  bd (Hb v1) fun r2 =>
  ite' (!r2) (
   some ([],1)
   ) (
   bd (Ik l0 v1 (fun a0 a1=>EC a0 a1)) fun r3 =>
   ite' r3.2 (
    bd (at? l0 r3.1) fun x1 =>
    bd (Mv x1 v1) fun r4 =>
    ite' r4 (
     some ([],9)
     ) (
     some ([],24)
     )
    ) (
    ite' (decide (400<=(l0.length:Int))) (
     some ([],2)
     ) (
     none
     )
    )
   )
  )
def PA(l0:List Ah)(v1:Ah):Option (List Ah×Int) :=
 bd (Er l0) fun e=>bd (Hb v1) fun b=>bd (Ik l0 v1 (fun a0 a1=>EC a0 a1)) fun p =>
 ck (decide (e=0)&&b&&!p.2&&decide (0<=p.1)&&decide (Int.toNat p.1<=l0.length)&&decide (l0.length<400)) (some (insL l0 (Int.toNat p.1) v1,0))
def Es(l0:List Ah)(v1:Ah):Option (List Ah×Int):=match CY l0 v1 with
 |some y=>some y
 |none=>PA l0 v1
def Q5(l0:List Ah):Int->Option (Int⊕(Unit⊕Int)):=fun s=>match s with
 |k3 =>
  ite' (decide (k3<(l0.length:Int))) (
   bd (at? l0 k3) fun x1 =>
   bd (K9 x1) fun r1 =>
   ck (!(!(decide (k3=0)))||Ax .i64 (k3-1)) <|
   bd (gd (!(decide (k3=0))) (at? l0 (k3-1))) fun x2 =>
   bd (gd (!(decide (k3=0))) (at? l0 k3)) fun x3 =>
   bd (gd (!(decide (k3=0))) (Io x2 x3)) fun r2 =>
   ite' (bif (!r1) then true else(!(bif (decide (k3=0)) then true else r2))) (
    some (.inr (.inr 1))
    ) (
    ck (Ax .i64 (k3+1)) <|
    some (.inl (k3+1))
    )
   ) (
   some (.inr (.inl ()))
   )
def Iz(l0:List Ah):Option (Int) :=
 ite' (decide (400<(l0.length:Int))) (
  some 2
  ) (
  bd (lp (Q5 l0) 0)<|fun o=>match o with
  | .inl ()=>(
    some 0
   )
  | .inr o=>(
    some o
   )
  )
def I0(ar0:Ae)(vs1:List Ah)(ap:Int):Option (At) :=
 bd (Q4 vs1 3 ar0.Gauge ar0.From ap) fun r1 =>
 ck (Ax .i64 (ar0.From+r1.1)) <|
 ck (Ax .i64 (ar0.To+r1.1)) <|
 ite' (decide ((min 1402560 (ar0.To+r1.1))<=(max 0 (ar0.From+r1.1)))) (
  some (At.mk 0 0)
  ) (
  some (At.mk (max 0 (ar0.From+r1.1)) (min 1402560 (ar0.To+r1.1)))
  )
def Q6(l0:List Ah)(v1:Ah):Int->Option (Int⊕(Unit⊕B9)):=fun s=>match s with
 |k7 =>
  ite' (decide (k7<(l0.length:Int))) (
   bd (at? l0 k7) fun x1 =>
   bd (gd (decide (x1.Gauge=v1.Gauge)) (at? l0 k7)) fun x2 =>
   ite' (bif (decide (x1.Gauge=v1.Gauge)) then(decide (x2.Seq=v1.Seq)) else false) (
    bd (at? l0 k7) fun x3 =>
    bd (Mr x3 v1) fun r3 =>
    ite' r3 (
     some (.inr (.inr (B9.mk [] 9)))
     ) (
     some (.inr (.inr (B9.mk [] 24)))
     )
    ) (
    ck (Ax .i64 (k7+1)) <|
    some (.inl (k7+1))
    )
   ) (
   some (.inr (.inl ()))
   )
def M6(l0:List Ah)(v1:Ah):Option (B9) :=
 bd (Iz l0) fun r1 =>
 ite' (!decide (r1=0)) (
  some (B9.mk [] r1)
  ) (
  bd (K9 v1) fun r2 =>
  ite' (!r2) (
   some (B9.mk [] 1)
   ) (
   bd (lp (Q6 l0 v1) 0)<|fun o=>match o with
   | .inl ()=>(
     ite' (decide (400<=(l0.length:Int))) (
      some (B9.mk [] 2)
      ) (
      bd (Mn l0 v1) fun r4 =>
      some (B9.mk r4 0)
      )
    )
   | .inr o=>(
     some o
    )
   )
  )
def VM(ar0:Ae)(vs1:List Ah)(ap:Int):Option (At×Int) :=
 bd (F5 ar0) fun r1 =>
 ite' (!r1) (
  some ((At.mk 0 0),1)
  ) (
  bd (Er vs1) fun r2 =>
  ite' (!decide (r2=0)) (
   some ((At.mk 0 0),r2)
   ) (
   bd (He ap) fun r3 =>
   ite' (!r3) (
    some ((At.mk 0 0),3)
    ) (
    bd (I0 ar0 vs1 ap) fun r4 =>
    some (r4,0)
    )
   )
  )
def M7(l0:List Ae)(vs1:List Ah)(ar2:Ae)(a8:Int):Option (Bv) :=
 bd (Ir l0) fun r1 =>
 bd (α:=Int) (
  ite' (decide (r1=0)) (
   bd (Iz vs1) fun r2 =>
   some r2
   ) (
   some r1
   )
 )<|fun e9 =>
  ite' (!decide (e9=0)) (
   some (Bv.mk [] e9)
   ) (
   bd (F9 l0 ar2) fun r3 =>
   ite' (!decide (r3.E=0)) (
    some (Bv.mk [] r3.E)
    ) (
    ite' (bif (decide (a8<0)) then true else(decide (14609<a8))) (
     some (Bv.mk [] 3)
     ) (
     bd (K6 l0 vs1 r3.L vs1 ar2.Gauge a8) fun r4 =>
     some (Bv.mk r4 0)
     )
    )
   )
def M8(l0:List Ae)(vs1:List Ah)(v2:Ah)(a8:Int):Option (Bv) :=
 bd (Ir l0) fun r1 =>
 bd (α:=Int) (
  ite' (decide (r1=0)) (
   bd (Iz vs1) fun r2 =>
   some r2
   ) (
   some r1
   )
 )<|fun e9 =>
  ite' (!decide (e9=0)) (
   some (Bv.mk [] e9)
   ) (
   bd (M6 vs1 v2) fun r3 =>
   ite' (!decide (r3.E=0)) (
    some (Bv.mk [] r3.E)
    ) (
    ite' (bif (decide (a8<0)) then true else(decide (14609<a8))) (
     some (Bv.mk [] 3)
     ) (
     bd (K6 l0 vs1 l0 r3.L v2.Gauge a8) fun r4 =>
     some (Bv.mk r4 0)
     )
    )
   )
def FB(a2:Int)(a3:Int)(l0:List Ae)(t3:At)(vs1:List Ah):(Int×(List (Int×Bool))×(List AU))->Option ((Int×(List (Int×Bool))×(List AU))⊕((List (Int×Bool))×(List AU))):=fun s=>match s with
 |(t34,m1,l5) =>
  ite' (decide (t34<(l0.length:Int))) (
   bd (at? l0 t34) fun x1 =>
   bd (α:=Unit⊕Unit) (
    ite' (bif (!decide (x1.Gauge=a2)) then true else(decide (a3<x1.Known))) (
     some (.inr ())
     ) (
     some (.inl ())
     )
   )<|fun o=>match o with
    | .inl ()=>(
      bd (I0 x1 vs1 a3) fun r1 =>
      ite' (decide ((max r1.From t3.From)<(min r1.To t3.To))) (
       ck (decide (List.length (l5++[(AU.mk (At.mk (max r1.From t3.From) (min r1.To t3.To)) x1.Stage)])*24<=140737488355328)) <|
       ck (Ax .i64 (t34+1)) <|
       some (.inl ((t34+1),(mput keqI (mput keqI m1 (max r1.From t3.From) true) (min r1.To t3.To) true),(l5++[(AU.mk (At.mk (max r1.From t3.From) (min r1.To t3.To)) x1.Stage)])))
       ) (
       ck (Ax .i64 (t34+1)) <|
       some (.inl ((t34+1),m1,l5))
       )
     )
    | .inr ()=>(
      ck (Ax .i64 (t34+1)) <|
      some (.inl ((t34+1),m1,l5))
     )
   ) (
   some (.inr (m1,l5))
   )
def I3(r2:(List Int)):(Int×(List Int))->Option ((Int×(List Int))⊕(List Int)):=fun s=>match s with
 |(t90,l7) =>
  ite' (decide (t90<(List.length (List.replicate (Int.toNat (r2.length:Int)) (0:Int)):Int))) (
   bd (at? l7 t90) fun x2 =>
   ck (Ax .i64 (t90+1)) <|
   some (.inl ((t90+1),(List.set l7 (Int.toNat t90) (-1))))
   ) (
   some (.inr l7)
   )
def Q7(r4:Int×Bool)(x3:AU):(Int×(List Int))->Option ((Int×(List Int))⊕(List Int)):=fun s=>match s with
 |(k25,l7'') =>
  ite' (decide (k25<r4.1)) (
   bd (at? l7'' k25) fun x4 =>
   ck (Ax .i64 (k25+1)) <|
   some (.inl ((k25+1),(List.set l7'' (Int.toNat k25) x3.stage)))
   ) (
   some (.inr l7'')
   )
def M9(l5:List AU)(r2:(List Int)):(Int×(List Int))->Option ((Int×(List Int))⊕(List Int)):=fun s=>match s with
 |(t99,l7') =>
  ite' (decide (t99<(l5.length:Int))) (
   bd (at? l5 t99) fun x3 =>
   bd (K2 r2 x3.t.From) fun r3 =>
   bd (K2 r2 x3.t.To) fun r4 =>
   bd (lp (Q7 r4 x3) (r3.1,l7'))<|fun l7'' =>
   ck (Ax .i64 (t99+1)) <|
   some (.inl ((t99+1),l7''))
   ) (
   some (.inr l7')
   )
def Et(l0:List Ae)(vs1:List Ah)(a2:Int)(t3:At)(a3:Int):Option ((List Int)×(List Int)) :=
 bd (lp (FB a2 a3 l0 t3 vs1) (0,(mput keqI (mput keqI ([]:List (Int×Bool)) t3.From true) t3.To true),[]))<|fun(m1,l5) =>
 bd (Dz m1) fun r2 =>
 ck (mkOk (r2.length:Int) 8) <|
 bd (lp (I3 r2) (0,(List.replicate (Int.toNat (r2.length:Int)) 0)))<|fun l7 =>
 bd (lp (M9 l5 r2) (0,l7))<|fun l7' =>
 some (r2,l7')
def VN :Az->(List AT)->Option ((List AT)⊕Unit):=fun x s=>match s with
 |l7 =>
  ite' (decide (0<=x.stage)) (
   ck (Ax .i64 (x.t.To-x.t.From)) <|
   ck (decide (List.length (l7++[(AT.mk x.t.From x.t.To [(B8.mk x.stage (x.t.To-x.t.From))] 0 0)])*56<=140737488355328)) <|
   some (.inl (l7++[(AT.mk x.t.From x.t.To [(B8.mk x.stage (x.t.To-x.t.From))] 0 0)]))
   ) (
   ck (decide (List.length (l7++[(AT.mk x.t.From x.t.To [] 0 1000)])*56<=140737488355328)) <|
   some (.inl (l7++[(AT.mk x.t.From x.t.To [] 0 1000)]))
   )
def MA(l0:List Ae)(vs1:List Ah)(a2:Int)(t3:At)(a3:Int):Option ((List AT)×Int) :=
 bd (DO l0) fun r1 =>
 bd (Er vs1) fun r2 =>
 bd (In [r1,r2]) fun r3 =>
 ite' (!decide (r3=0)) (
  some ([],r3)
  ) (
  bd (gd (!(bif (bif (bif (bif (decide (a2<0)) then true else(decide (40<=a2))) then true else(decide (t3.From<0))) then true else(decide (t3.To<t3.From))) then true else(decide (1402560<t3.To)))) (He a3)) fun r4 =>
  ite' (bif (bif (bif (bif (bif (decide (a2<0)) then true else(decide (40<=a2))) then true else(decide (t3.From<0))) then true else(decide (t3.To<t3.From))) then true else(decide (1402560<t3.To))) then true else(!r4)) (
   some ([],3)
   ) (
   bd (Et l0 vs1 a2 t3 a3) fun c1 =>
   bd (D0 c1.1 c1.2 (fun l=>I4 VN l [])) fun l =>
   bd (DQ VN l []) fun o=>match o with
   | .inl l7=>(
     ite' (decide (2000<(l7.length:Int))) (
      some ([],2)
      ) (
      some (l7,0)
      )
    )
   |.inr _=>none
   )
  )
def KA(l0:List Ae)(vs1:List Ah)(ar2:Ae)(a8:Int):Option ((List At)×Int) :=
 bd (DO l0) fun r1 =>
 bd (Er vs1) fun r2 =>
 bd (In [r1,r2]) fun r3 =>
 ite' (!decide (r3=0)) (
  some ([],r3)
  ) (
  bd (Cb l0 ar2) fun r4 =>
  ite' (!decide (r4.2=0)) (
   some ([],r4.2)
   ) (
   bd (He a8) fun r5 =>
   ite' (!r5) (
    some ([],3)
    ) (
    bd (Hf ) fun r6 =>
    bd (Et l0 vs1 ar2.Gauge r6 a8) fun c1 =>
    bd (Hf ) fun r7 =>
    bd (Et r4.1 vs1 ar2.Gauge r7 a8) fun c2 =>
    bd (Kw (D0 c1.1 c1.2) (D0 c2.1 c2.2)) fun r8 =>
    some (r8,0)
    )
   )
  )
def KB(l0:List Ae)(vs1:List Ah)(v2:Ah)(a8:Int):Option ((List At)×Int) :=
 bd (DO l0) fun r1 =>
 bd (Er vs1) fun r2 =>
 bd (In [r1,r2]) fun r3 =>
 ite' (!decide (r3=0)) (
  some ([],r3)
  ) (
  bd (Es vs1 v2) fun r4 =>
  ite' (!decide (r4.2=0)) (
   some ([],r4.2)
   ) (
   bd (He a8) fun r5 =>
   ite' (!r5) (
    some ([],3)
    ) (
    bd (Hf ) fun r6 =>
    bd (Et l0 vs1 v2.Gauge r6 a8) fun c1 =>
    bd (Hf ) fun r7 =>
    bd (Et l0 r4.1 v2.Gauge r7 a8) fun c2 =>
    bd (Kw (D0 c1.1 c1.2) (D0 c2.1 c2.2)) fun r8 =>
    some (r8,0)
    )
   )
  )
def KC :Option (Bool) :=
 bd (VF ) fun r1 =>
 bd (F6 95 125) fun r2 =>
 bd (MA r1.1 [r1.2] 3 r2 1) fun r3 =>
 bd (F6 95 125) fun r4 =>
 bd (MA r1.1 [r1.2] 3 r4 2) fun r5 =>
 bd (F6 95 125) fun r6 =>
 bd (MA r1.1 [r1.2] 3 r6 3) fun r7 =>
 bd (at? r1.1 0) fun x1 =>
 bd (at? r1.1 0) fun x2 =>
 bd (at? r1.1 2) fun x3 =>
 bd (Cb r1.1 x1) fun r8 =>
 bd (Cb r1.1 (Ae.mk x2.Gauge x2.Seq x2.From x2.To 51 x2.Known)) fun r9 =>
 bd (Cb r1.1 (Ae.mk x3.Gauge x3.Seq x3.From x3.To x3.Stage 0)) fun r10 =>
 bd (KA r1.1 [] (Ae.mk 3 3 112 125 60 2) 2) fun r11 =>
 bd (KB r1.1 [] r1.2 3) fun r12 =>
 bd (VK r1.1 3) fun r13 =>
 bd (at? r1.1 1) fun x4 =>
 bd (VM x4 [r1.2] 3) fun r14 =>
 ck (Dm r1.1 0 2) <|
 ck (Dm r1.1 1 (r1.1.length:Int)) <|
 bd (VJ (sub r1.1 0 2) (sub r1.1 1 (r1.1.length:Int))) fun r15 =>
 bd (gd (!(bif (!(bif (bif (bif (bif (bif (bif (bif (bif (bif (bif (decide (r3.2=0)) then(decide (r5.2=0)) else false) then(decide (r7.2=0)) else false) then(decide (r8.2=9)) else false) then(decide (r9.2=24)) else false) then(decide (r10.2=0)) else false) then(decide (r11.2=0)) else false) then(decide (r12.2=0)) else false) then(decide (r13.2=0)) else false) then(decide (r14.2=0)) else false) then(decide (r15.2=0)) else false)) then true else(!decide ((r10.1.length:Int)=3)))) (at? r10.1 2)) fun x5 =>
 bd (gd (!(bif (bif (!(bif (bif (bif (bif (bif (bif (bif (bif (bif (bif (decide (r3.2=0)) then(decide (r5.2=0)) else false) then(decide (r7.2=0)) else false) then(decide (r8.2=9)) else false) then(decide (r9.2=24)) else false) then(decide (r10.2=0)) else false) then(decide (r11.2=0)) else false) then(decide (r12.2=0)) else false) then(decide (r13.2=0)) else false) then(decide (r14.2=0)) else false) then(decide (r15.2=0)) else false)) then true else(!decide ((r10.1.length:Int)=3))) then true else(!(decide (x5.Gauge=x3.Gauge)&&(decide (x5.Seq=x3.Seq)&&(decide (x5.From=x3.From)&&(decide (x5.To=x3.To)&&(decide (x5.Stage=x3.Stage)&&(decide (x5.Known=0)&&true))))))))) (DO r1.1)) fun r16 =>
 bd (gd (!(bif (bif (bif (!(bif (bif (bif (bif (bif (bif (bif (bif (bif (bif (decide (r3.2=0)) then(decide (r5.2=0)) else false) then(decide (r7.2=0)) else false) then(decide (r8.2=9)) else false) then(decide (r9.2=24)) else false) then(decide (r10.2=0)) else false) then(decide (r11.2=0)) else false) then(decide (r12.2=0)) else false) then(decide (r13.2=0)) else false) then(decide (r14.2=0)) else false) then(decide (r15.2=0)) else false)) then true else(!decide ((r10.1.length:Int)=3))) then true else(!(decide (x5.Gauge=x3.Gauge)&&(decide (x5.Seq=x3.Seq)&&(decide (x5.From=x3.From)&&(decide (x5.To=x3.To)&&(decide (x5.Stage=x3.Stage)&&(decide (x5.Known=0)&&true)))))))) then true else(!decide (r16=0)))) (at? r1.1 0)) fun x6 =>
 bd (gd (!(bif (bif (bif (!(bif (bif (bif (bif (bif (bif (bif (bif (bif (bif (decide (r3.2=0)) then(decide (r5.2=0)) else false) then(decide (r7.2=0)) else false) then(decide (r8.2=9)) else false) then(decide (r9.2=24)) else false) then(decide (r10.2=0)) else false) then(decide (r11.2=0)) else false) then(decide (r12.2=0)) else false) then(decide (r13.2=0)) else false) then(decide (r14.2=0)) else false) then(decide (r15.2=0)) else false)) then true else(!decide ((r10.1.length:Int)=3))) then true else(!(decide (x5.Gauge=x3.Gauge)&&(decide (x5.Seq=x3.Seq)&&(decide (x5.From=x3.From)&&(decide (x5.To=x3.To)&&(decide (x5.Stage=x3.Stage)&&(decide (x5.Known=0)&&true)))))))) then true else(!decide (r16=0)))) (F5 x6)) fun r17 =>
 bd (gd (!(bif (bif (bif (bif (!(bif (bif (bif (bif (bif (bif (bif (bif (bif (bif (decide (r3.2=0)) then(decide (r5.2=0)) else false) then(decide (r7.2=0)) else false) then(decide (r8.2=9)) else false) then(decide (r9.2=24)) else false) then(decide (r10.2=0)) else false) then(decide (r11.2=0)) else false) then(decide (r12.2=0)) else false) then(decide (r13.2=0)) else false) then(decide (r14.2=0)) else false) then(decide (r15.2=0)) else false)) then true else(!decide ((r10.1.length:Int)=3))) then true else(!(decide (x5.Gauge=x3.Gauge)&&(decide (x5.Seq=x3.Seq)&&(decide (x5.From=x3.From)&&(decide (x5.To=x3.To)&&(decide (x5.Stage=x3.Stage)&&(decide (x5.Known=0)&&true)))))))) then true else(!decide (r16=0))) then true else(!r17))) (VD r15.1 r1.1)) fun r18 =>
 ite' (bif (bif (bif (bif (bif (!(bif (bif (bif (bif (bif (bif (bif (bif (bif (bif (decide (r3.2=0)) then(decide (r5.2=0)) else false) then(decide (r7.2=0)) else false) then(decide (r8.2=9)) else false) then(decide (r9.2=24)) else false) then(decide (r10.2=0)) else false) then(decide (r11.2=0)) else false) then(decide (r12.2=0)) else false) then(decide (r13.2=0)) else false) then(decide (r14.2=0)) else false) then(decide (r15.2=0)) else false)) then true else(!decide ((r10.1.length:Int)=3))) then true else(!(decide (x5.Gauge=x3.Gauge)&&(decide (x5.Seq=x3.Seq)&&(decide (x5.From=x3.From)&&(decide (x5.To=x3.To)&&(decide (x5.Stage=x3.Stage)&&(decide (x5.Known=0)&&true)))))))) then true else(!decide (r16=0))) then true else(!r17)) then true else(!r18)) (
  some false
  ) (
  bd (Hd 95 100) fun r19 =>
  bd (Gg 100 120 50) fun r20 =>
  bd (Hd 120 125) fun r21 =>
  bd (Mq r3.1 [r19,r20,r21]) fun r22 =>
  bd (Hd 95 100) fun r23 =>
  bd (Gg 100 110 50) fun r24 =>
  bd (Gg 110 114 60) fun r25 =>
  bd (Gg 114 120 50) fun r26 =>
  bd (Hd 120 125) fun r27 =>
  bd (Mq r5.1 [r23,r24,r25,r26,r27]) fun r28 =>
  bd (Hd 95 100) fun r29 =>
  bd (Gg 100 106 50) fun r30 =>
  bd (Gg 106 110 60) fun r31 =>
  bd (Gg 110 120 50) fun r32 =>
  bd (Hd 120 125) fun r33 =>
  bd (Mq r7.1 [r29,r30,r31,r32,r33]) fun r34 =>
  bd (F6 114 125) fun r35 =>
  bd (Hc r11.1 [r35]) fun r36 =>
  bd (gd r36 (F6 106 114)) fun r37 =>
  bd (gd r36 (F6 126 130)) fun r38 =>
  bd (gd r36 (F6 136 140)) fun r39 =>
  bd (gd r36 (Hc r12.1 [r37,r38,r39])) fun r40 =>
  bd (gd (bif (bif (bif r22 then r28 else false) then r34 else false) then(bif r36 then r40 else false) else false) (VE r13.1 [0,1,2])) fun r41 =>
  bd (gd (bif (bif (bif (bif r22 then r28 else false) then r34 else false) then(bif r36 then r40 else false) else false) then r41 else false) (F6 106 110)) fun r42 =>
  some (bif (bif (bif (bif (bif r22 then r28 else false) then r34 else false) then(bif r36 then r40 else false) else false) then r41 else false) then(decide (r14.1.From=r42.From)&&(decide (r14.1.To=r42.To)&&true)) else false)
  )
def Q8(l0:List Ae)(vs1:List Ah)(ax2:Cq):Option (Bool) :=
 bd (Kt ax2.V.Curve) fun r1 =>
 bd (Mp l0 vs1) fun r2 =>
 ite' (bif (!r2) then true else(!r1)) (
  bd (KC ) fun r3 =>
  some r3
  ) (
  bd (KA l0 vs1 ax2.R ax2.Known) fun r4 =>
  bd (M7 l0 vs1 ax2.R ax2.Known) fun r5 =>
  bd (KB l0 vs1 ax2.V ax2.Known) fun r6 =>
  bd (M8 l0 vs1 ax2.V ax2.Known) fun r7 =>
  bd (KC ) fun r8 =>
  bd (gd r8 (Hc r4.1 r5.L)) fun r9 =>
  bd (gd (bif (bif r8 then r9 else false) then(decide (r4.2=r5.E)) else false) (Hc r6.1 r7.L)) fun r10 =>
  some (bif (bif (bif (bif r8 then r9 else false) then(decide (r4.2=r5.E)) else false) then r10 else false) then(decide (r6.2=r7.E)) else false)
  )
end Go.Am

