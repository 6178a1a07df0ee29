/- Part F1: the functions of this seat as functions of plain values. No condition. -/
import Derived.Test.YtiaclogojhfmfaaGreatDoorX1
set_option linter.unusedVariables false
namespace Go.Am
structure Ae where
 Gauge:Int
 Seq:Int
 From:Int
 To:Int
 Stage:Int
 Known:Int
deriving DecidableEq,Inhabited
structure DK where
 e0:List Ae
 e1:List Ae
deriving DecidableEq,Inhabited
structure Be where
 Neg:Bool
 Num:List UInt8
 Den:List UInt8
deriving DecidableEq,Inhabited
structure AO where
 Stage:Int
 Flow:Be
deriving DecidableEq,Inhabited
structure AP where
 Points:List AO
deriving DecidableEq,Inhabited
structure Ai where
 Kind:Int
 Gauge:Int
 Seq:Int
 Known:Int
 From:Int
 To:Int
 Shift:Int
 Curve:AP
deriving DecidableEq,Inhabited
structure At where
 From:Int
 To:Int
deriving DecidableEq,Inhabited
structure Dy where
 Gauge:Int
 Ticks:At
 Known:Int
deriving DecidableEq,Inhabited
structure Cm where
 R:Ae
 V:Ai
 Known:Int
deriving DecidableEq,Inhabited
structure DL where
 e0:List Ae
 e1:List Ae
 e2:List Ae
deriving DecidableEq,Inhabited
structure Bn where
 Stage:Int
 Ticks:Int
deriving DecidableEq,Inhabited
structure AI where
 From:Int
 To:Int
 Table:List Bn
 Lo:Int
 Hi:Int
deriving DecidableEq,Inhabited
structure Dz where
 T:At
 E:Int
deriving DecidableEq,Inhabited
structure Az where
 t:At
 stage:Int
deriving DecidableEq,Inhabited
structure Ct where
 neg:Bool
 num:List UInt8
 den:List UInt8
deriving DecidableEq,Inhabited
structure GF where
 Q:List UInt8
 R:List UInt8
 E:Int
deriving DecidableEq,Inhabited
structure GG where
 S:List UInt8
 E:Int
deriving DecidableEq,Inhabited
structure BC where
 L:List Ae
 E:Int
deriving DecidableEq,Inhabited
structure DM where
 L:List Int
 E:Int
deriving DecidableEq,Inhabited
structure Bz where
 L:List Ai
 E:Int
deriving DecidableEq,Inhabited
structure DN where
 L:List AI
 E:Int
deriving DecidableEq,Inhabited
structure DO where
 L:List At
 E:Int
deriving DecidableEq,Inhabited
structure AT where
 t:At
 stage:Int
deriving DecidableEq,Inhabited
def jzrs(x y:Ae):Bool:=(decide (x.Gauge=y.Gauge)&&(decide (x.Seq=y.Seq)&&(decide (x.From=y.From)&&(decide (x.To=y.To)&&(decide (x.Stage=y.Stage)&&(decide (x.Known=y.Known)&&true))))))
def wz2k(x y:Be):Bool:=((x.Neg==y.Neg)&&(decide (x.Num=y.Num)&&(decide (x.Den=y.Den)&&true)))
def wz9t(x y:AO):Bool:=(decide (x.Stage=y.Stage)&&((x.Flow.Neg==y.Flow.Neg)&&(decide (x.Flow.Num=y.Flow.Num)&&(decide (x.Flow.Den=y.Flow.Den)&&true))))
def wz9x(x y:At):Bool:=(decide (x.From=y.From)&&(decide (x.To=y.To)&&true))
def jzrq(x y:Dy):Bool:=(decide (x.Gauge=y.Gauge)&&(decide (x.Ticks.From=y.Ticks.From)&&(decide (x.Ticks.To=y.Ticks.To)&&(decide (x.Known=y.Known)&&true))))
def jza2(x y:Bn):Bool:=(decide (x.Stage=y.Stage)&&(decide (x.Ticks=y.Ticks)&&true))
def jzrw(x y:Dz):Bool:=(decide (x.T.From=y.T.From)&&(decide (x.T.To=y.T.To)&&(decide (x.E=y.E)&&true)))
def jzrl(x y:Az):Bool:=(decide (x.t.From=y.t.From)&&(decide (x.t.To=y.t.To)&&(decide (x.stage=y.stage)&&true)))
def wz8j(x y:Ct):Bool:=((x.neg==y.neg)&&(decide (x.num=y.num)&&(decide (x.den=y.den)&&true)))
def wz78(x y:GF):Bool:=(decide (x.Q=y.Q)&&(decide (x.R=y.R)&&(decide (x.E=y.E)&&true)))
def wz86(x y:GG):Bool:=(decide (x.S=y.S)&&(decide (x.E=y.E)&&true))
def jzq9(x y:AT):Bool:=(decide (x.t.From=y.t.From)&&(decide (x.t.To=y.t.To)&&(decide (x.stage=y.stage)&&true)))
def LU(q:(List Az->Option Bool)->Option (List Az)):Option (List Az):=q (fun l=>ck (decide (l.length<=1000000000)) (some false))
def Ij(l:List Int):Option (List Int):=ck (decide (l.length<=4611686018427387904)) (some l.reverse)
def Bf(a:Int):List Int->List Int
 |[]=>[a]
 |b :: l=>bif decide (a<=b) then a :: b :: l else b :: Bf a l
def BD:List Int->List Int
 |[]=>[]
 |a :: l=>Bf a (BD l)
def D0(m:List (Int×Bool)):Option (List Int):=ck (decide (0<m.length)&&decide (m.length<=1000000000)) (some (BD (m.map (·.1))))
def Gb(l:List Int):Option (List Int):=ck (decide (0<l.length)&&decide (l.length*4<=140737488355328)) (some l)
def SX(l:List Ae):Option (List Ae):=ck (decide (0<l.length)&&decide (l.length*48<=140737488355328)) (some l)
def LV(ar0:Ae):Option (Bool) :=
 some (bif (bif (bif (bif (bif (bif (bif (bif (bif (bif (decide (0<=ar0.Gauge)) then(decide (ar0.Gauge<40)) else false) then(decide (0<=ar0.Seq)) else false) then(decide (ar0.Seq<=1099511627776)) else false) then(decide (0<=ar0.From)) else false) then(decide (ar0.From<ar0.To)) else false) then(decide (ar0.To<=1402560)) else false) then(decide (0<=ar0.Stage)) else false) then(decide (ar0.Stage<=1000)) else false) then(decide (0<=ar0.Known)) else false) then(decide (ar0.Known<=14609)) else false)
def jzpy(a0:List Ae)(b1:List Ae):Int->Option (Int⊕(Unit⊕Bool)):=fun s=>match s with
 |k5 =>
  ite' (decide (k5<(a0.length:Int))) (
   bd (at? a0 k5) fun x1 =>
   bd (at? b1 k5) fun x2 =>
   ite' (!(decide (x1.Gauge=x2.Gauge)&&(decide (x1.Seq=x2.Seq)&&(decide (x1.From=x2.From)&&(decide (x1.To=x2.To)&&(decide (x1.Stage=x2.Stage)&&(decide (x1.Known=x2.Known)&&true))))))) (
    some (.inr (.inr false))
    ) (
    ck (Ay .i64 (k5+1)) <|
    some (.inl (k5+1))
    )
   ) (
   some (.inr (.inl ()))
   )
def Vy(a0:List Ae)(b1:List Ae):Option (Bool) :=
 ite' (!decide ((a0.length:Int)=(b1.length:Int))) (
  some false
  ) (
  bd (lp (jzpy a0 b1) 0)<|fun o=>match o with
  | .inl ()=>(
    some true
   )
  | .inr o=>(
    some o
   )
  )
def jzq5(a0:List Int)(b1:List Int):Int->Option (Int⊕(Unit⊕Bool)):=fun s=>match s with
 |k5 =>
  ite' (decide (k5<(a0.length:Int))) (
   bd (at? a0 k5) fun x1 =>
   bd (at? b1 k5) fun x2 =>
   ite' (!decide (x1=x2)) (
    some (.inr (.inr false))
    ) (
    ck (Ay .i64 (k5+1)) <|
    some (.inl (k5+1))
    )
   ) (
   some (.inr (.inl ()))
   )
def Vz(a0:List Int)(b1:List Int):Option (Bool) :=
 ite' (!decide ((a0.length:Int)=(b1.length:Int))) (
  some false
  ) (
  bd (lp (jzq5 a0 b1) 0)<|fun o=>match o with
  | .inl ()=>(
    some true
   )
  | .inr o=>(
    some o
   )
  )
def wz7i(a0:List At)(b1:List At):Int->Option (Int⊕(Unit⊕Bool)):=fun s=>match s with
 |k5 =>
  ite' (decide (k5<(a0.length:Int))) (
   bd (at? a0 k5) fun x1 =>
   bd (at? b1 k5) fun x2 =>
   ite' (!(decide (x1.From=x2.From)&&(decide (x1.To=x2.To)&&true))) (
    some (.inr (.inr false))
    ) (
    ck (Ay .i64 (k5+1)) <|
    some (.inl (k5+1))
    )
   ) (
   some (.inr (.inl ()))
   )
def Pt(a0:List At)(b1:List At):Option (Bool) :=
 ite' (!decide ((a0.length:Int)=(b1.length:Int))) (
  some false
  ) (
  bd (lp (wz7i a0 b1) 0)<|fun o=>match o with
  | .inl ()=>(
    some true
   )
  | .inr o=>(
    some o
   )
  )
def Pu(l0:List AI)(aw:Int):Int->Option (Int⊕(Unit⊕Int)):=fun s=>match s with
 |t9 =>
  ite' (decide (t9<(l0.length:Int))) (
   bd (at? l0 t9) fun x1 =>
   ite' (bif (bif (decide (x1.From<=aw)) then(decide (aw<x1.To)) else false) then(decide ((x1.Table.length:Int)=1)) else false) (
    bd (at? x1.Table 0) fun x2 =>
    some (.inr (.inr x2.Stage))
    ) (
    ck (Ay .i64 (t9+1)) <|
    some (.inl (t9+1))
    )
   ) (
   some (.inr (.inl ()))
   )
def Kf(l0:List AI)(aw:Int):Option (Int) :=
 bd (lp (Pu l0 aw) 0)<|fun o=>match o with
 | .inl ()=>(
   some (-1)
  )
 | .inr o=>(
   some o
  )
def Eu(ao:Int)(to1:Int):Option (At) :=
 some (At.mk ao to1)
def Pv(l0:List At):Int->Option (Int⊕(Unit⊕Bool)):=fun s=>match s with
 |t7 =>
  ite' (decide (t7<(l0.length:Int))) (
   bd (at? l0 t7) fun x1 =>
   ck (!((!(decide (x1.To<=x1.From)))&&(decide (0<t7)))||Ay .i64 (t7-1)) <|
   bd (gd ((!(decide (x1.To<=x1.From)))&&(decide (0<t7))) (at? l0 (t7-1))) fun x2 =>
   ite' (bif (decide (x1.To<=x1.From)) then true else(bif (decide (0<t7)) then(decide (x1.From<=x2.To)) else false)) (
    some (.inr (.inr false))
    ) (
    ck (Ay .i64 (t7+1)) <|
    some (.inl (t7+1))
    )
   ) (
   some (.inr (.inl ()))
   )
def Hc(l0:List At):Option (Bool) :=
 bd (lp (Pv l0) 0)<|fun o=>match o with
 | .inl ()=>(
   some true
  )
 | .inr o=>(
   some o
  )
def LW(am:Int)(l2:List At):Int->Option (Int⊕Int):=fun s=>match s with
 |at7'' =>
  bd (gd (decide (at7''<(l2.length:Int))) (at? l2 at7'')) fun x5 =>
  ite' (bif (decide (at7''<(l2.length:Int))) then(decide (x5.To<=am)) else false) (
   ck (Ay .i64 (at7''+1)) <|
   some (.inl (at7''+1))
   ) (
   some (.inr at7'')
   )
def LX(l2:List At)(r1:Int)(r2:Int)(x3:AI)(x4:AI):(Int×Int)->Option ((Int×Int)⊕(Int⊕Bool)):=fun s=>match s with
 |(at7',am) =>
  ite' (decide (am<(min x3.To x4.To))) (
   bd (lp (LW am l2) at7')<|fun at7'' =>
   bd (gd (decide (at7''<(l2.length:Int))) (at? l2 at7'')) fun x6 =>
   ite' (!((bif (decide (at7''<(l2.length:Int))) then(decide (x6.From<=am)) else false)==(!decide (r1=r2)))) (
    some (.inr (.inr false))
    ) (
    ite' (bif (decide (at7''<(l2.length:Int))) then(decide (x6.From<=am)) else false) (
     bd (at? l2 at7'') fun x7 =>
     some (.inl (at7'',x7.To))
     ) (
     ite' (decide (at7''<(l2.length:Int))) (
      bd (at? l2 at7'') fun x8 =>
      some (.inl (at7'',x8.From))
      ) (
      some (.inl (at7'',(min x3.To x4.To)))
      )
     )
    )
   ) (
   some (.inr (.inl at7'))
   )
def Pw(a0:List AI)(b1:List AI)(l2:List At):(Int×Int×Int)->Option ((Int×Int×Int)⊕(Unit⊕Bool)):=fun s=>match s with
 |(at7,i8,j9) =>
  ite' (bif (decide (i8<(a0.length:Int))) then(decide (j9<(b1.length:Int))) else false) (
   bd (at? a0 i8) fun x1 =>
   bd (at? b1 j9) fun x2 =>
   bd (at? a0 i8) fun x3 =>
   bd (at? b1 j9) fun x4 =>
   bd (Kf a0 (max x1.From x2.From)) fun r1 =>
   bd (Kf b1 (max x1.From x2.From)) fun r2 =>
   bd (lp (LX l2 r1 r2 x3 x4) (at7,(max x1.From x2.From)))<|fun o=>match o with
   | .inl at7'=>(
     bd (at? a0 i8) fun x9 =>
     bd (at? b1 j9) fun x10 =>
     bd (at? a0 i8) fun x11 =>
     bd (gd (decide (x11.To=(min x9.To x10.To))) (at? b1 j9)) fun x12 =>
     ite' (bif (decide (x11.To=(min x9.To x10.To))) then(decide (x12.To=(min x9.To x10.To))) else false) (
      ck (Ay .i64 (i8+1)) <|
      ck (Ay .i64 (j9+1)) <|
      some (.inl (at7',(i8+1),(j9+1)))
      ) (
      bd (at? a0 i8) fun x13 =>
      ite' (decide (x13.To=(min x9.To x10.To))) (
       ck (Ay .i64 (i8+1)) <|
       some (.inl (at7',(i8+1),j9))
       ) (
       ck (Ay .i64 (j9+1)) <|
       some (.inl (at7',i8,(j9+1)))
       )
      )
    )
   | .inr o=>(
     some (.inr (.inr o))
    )
   ) (
   some (.inr (.inl ()))
   )
def Hd(a0:List AI)(b1:List AI)(l2:List At):Option (Bool) :=
 bd (lp (Pw a0 b1 l2) (0,0,0))<|fun o=>match o with
 | .inl ()=>(
   some true
  )
 | .inr o=>(
   some o
  )
def V0 :Option ((List Ae)×Ai) :=
 some ([(Ae.mk 3 1 100 120 50 0),(Ae.mk 3 2 110 114 60 2),(Ae.mk 3 5 130 140 50 1)],(Ai.mk 3 3 9 3 105 200 (-4) (AP.mk [])))
def He(ao:Int)(to1:Int):Option (AI) :=
 some (AI.mk ao to1 [] 0 1000)
def Gc(ao:Int)(to1:Int)(b9:Int):Option (AI) :=
 ck (Ay .i64 (to1-ao)) <|
 some (AI.mk ao to1 [(Bn.mk b9 (to1-ao))] 0 0)
def Px(an:Ae->Ae->Option Int)(a2:Ae)(ax0:List Ae):(Int×Int)->Option ((Int×Int)⊕Int):=fun s=>match s with
 |(i9,j10) =>
  ite' (decide (i9<j10)) (
   ck (Ay .i64 (i9+j10)) <|
   ck (Ay .i64 (Int.fdiv ((i9+j10)%18446744073709551616) 2)) <|
   bd (at? ax0 (Int.fdiv ((i9+j10)%18446744073709551616) 2)) fun x1 =>
   bd (an x1 a2) fun r1 =>
   ite' (decide (r1<0)) (
    ck (Ay .i64 ((Int.fdiv ((i9+j10)%18446744073709551616) 2)+1)) <|
    some (.inl (((Int.fdiv ((i9+j10)%18446744073709551616) 2)+1),j10))
    ) (
    some (.inl (i9,(Int.fdiv ((i9+j10)%18446744073709551616) 2)))
    )
   ) (
   some (.inr i9)
   )
def Im(ax0:List Ae)(a2:Ae)(an:Ae->Ae->Option Int):Option (Int×Bool) :=
 bd (lp (Px an a2 ax0) (0,(ax0.length:Int)))<|fun i9 =>
 bd (gd (decide (i9<(ax0.length:Int))) (at? ax0 i9)) fun x2 =>
 bd (gd (decide (i9<(ax0.length:Int))) (an x2 a2)) fun r2 =>
 some (i9,(bif (decide (i9<(ax0.length:Int))) then(decide (r2=0)) else false))
def Io(a0:Ae)(b1:Ae):Option (Bool) :=
 some (decide (a0.Gauge=b1.Gauge)&&(decide (a0.Seq=b1.Seq)&&(decide (a0.From=b1.From)&&(decide (a0.To=b1.To)&&(decide (a0.Stage=b1.Stage)&&(decide (b1.Known=b1.Known)&&true))))))
def Py(l0:List Ae)(ar1:Ae):Int->Option (Int⊕(Unit⊕Int)):=fun s=>match s with
 |k5 =>
  ite' (decide (k5<(l0.length:Int))) (
   bd (at? l0 k5) fun x1 =>
   bd (gd (decide (x1.Gauge=ar1.Gauge)) (at? l0 k5)) fun x2 =>
   ite' (bif (decide (x1.Gauge=ar1.Gauge)) then(decide (x2.Seq=ar1.Seq)) else false) (
    some (.inr (.inr k5))
    ) (
    ck (Ay .i64 (k5+1)) <|
    some (.inl (k5+1))
    )
   ) (
   some (.inr (.inl ()))
   )
def LY(l0:List Ae)(ar1:Ae):Option (Int) :=
 bd (lp (Py l0 ar1) 0)<|fun o=>match o with
 | .inl ()=>(
   some (-1)
  )
 | .inr o=>(
   some o
  )
def Pz(a0:Ae)(b1:Ae):Option (Bool) :=
 some (bif (bif (bif (bif (decide (a0.Gauge=b1.Gauge)) then(decide (a0.Seq=b1.Seq)) else false) then(decide (a0.From=b1.From)) else false) then(decide (a0.To=b1.To)) else false) then(decide (a0.Stage=b1.Stage)) else false)
def LZ(a0:Ae)(b1:Ae):Option (Bool) :=
 some (bif (decide (a0.Gauge<b1.Gauge)) then true else(bif (decide (a0.Gauge=b1.Gauge)) then(decide (a0.Seq<b1.Seq)) else false))
def Ip(n0:Int)(lo1:Int)(gF:Int):Option (Bool) :=
 some (bif (decide (lo1<=n0)) then(decide (n0<=gF)) else false)
def P0(ai:List Int):Int->Option (Int⊕(Unit⊕Int)):=fun s=>match s with
 |t8 =>
  ite' (decide (t8<(ai.length:Int))) (
   bd (at? ai t8) fun x1 =>
   ite' (!decide (x1=0)) (
    some (.inr (.inr x1))
    ) (
    ck (Ay .i64 (t8+1)) <|
    some (.inl (t8+1))
    )
   ) (
   some (.inr (.inl ()))
   )
def Iq(ai:List Int):Option (Int) :=
 bd (lp (P0 ai) 0)<|fun o=>match o with
 | .inl ()=>(
   some 0
  )
 | .inr o=>(
   some o
  )
def Ge(n0:Int):Option (Bool) :=
 some (bif (decide (0<=n0)) then(decide (n0<=14609)) else false)
def jzq0(a0:List Bn)(b1:List Bn):Int->Option (Int⊕(Unit⊕Bool)):=fun s=>match s with
 |k5 =>
  ite' (decide (k5<(a0.length:Int))) (
   bd (at? a0 k5) fun x1 =>
   bd (at? b1 k5) fun x2 =>
   ite' (!(decide (x1.Stage=x2.Stage)&&(decide (x1.Ticks=x2.Ticks)&&true))) (
    some (.inr (.inr false))
    ) (
    ck (Ay .i64 (k5+1)) <|
    some (.inl (k5+1))
    )
   ) (
   some (.inr (.inl ()))
   )
def V1(a0:List Bn)(b1:List Bn):Option (Bool) :=
 ite' (!decide ((a0.length:Int)=(b1.length:Int))) (
  some false
  ) (
  bd (lp (jzq0 a0 b1) 0)<|fun o=>match o with
  | .inl ()=>(
    some true
   )
  | .inr o=>(
    some o
   )
  )
def Ma(r1:(List Az))(r2:(List Az)):(Int×Int×(List At))->Option ((Int×Int×(List At))⊕(List At)):=fun s=>match s with
 |(i8,j9,l2) =>
  ite' (bif (decide (i8<(r1.length:Int))) then(decide (j9<(r2.length:Int))) else false) (
   bd (at? r1 i8) fun x1 =>
   bd (at? r2 j9) fun x2 =>
   bd (at? r1 i8) fun x3 =>
   bd (at? r2 j9) fun x4 =>
   bd (at? r1 i8) fun x5 =>
   bd (at? r2 j9) fun x6 =>
   bd (α:=(List At)) (
    ite' (!decide (x5.stage=x6.stage)) (
     ck (!(decide (0<(l2.length:Int)))||Ay .i64 ((l2.length:Int)-1)) <|
     bd (gd (decide (0<(l2.length:Int))) (at? l2 ((l2.length:Int)-1))) fun x7 =>
     ite' (bif (decide (0<(l2.length:Int))) then(decide (x7.To=(max x1.t.From x2.t.From))) else false) (
      ck (Ay .i64 ((l2.length:Int)-1)) <|
      bd (at? l2 ((l2.length:Int)-1)) fun x8 =>
      some (List.set l2 (Int.toNat ((l2.length:Int)-1)) (At.mk x8.From (min x3.t.To x4.t.To)))
      ) (
      ck (decide (List.length (l2++[(At.mk (max x1.t.From x2.t.From) (min x3.t.To x4.t.To))])*16<=140737488355328)) <|
      some (l2++[(At.mk (max x1.t.From x2.t.From) (min x3.t.To x4.t.To))])
      )
     ) (
     some l2
     )
   )<|fun l2' =>
    bd (at? r1 i8) fun x9 =>
    bd (α:=Int) (
     ite' (decide (x9.t.To=(min x3.t.To x4.t.To))) (
      ck (Ay .i64 (i8+1)) <|
      some (i8+1)
      ) (
      some i8
      )
    )<|fun i8' =>
     bd (at? r2 j9) fun x10 =>
     ite' (decide (x10.t.To=(min x3.t.To x4.t.To))) (
      ck (Ay .i64 (j9+1)) <|
      some (.inl (i8',(j9+1),l2'))
      ) (
      some (.inl (i8',j9,l2'))
      )
   ) (
   some (.inr l2)
   )
def Kg(a0:(List Az->Option Bool)->Option (List Az))(b1:(List Az->Option Bool)->Option (List Az)):Option ((List At)) :=
 bd (LU a0) fun r1 =>
 bd (LU b1) fun r2 =>
 bd (lp (Ma r1 r2) (0,0,[]))<|fun l2 =>
 some l2
def Hf :Option (At) :=
 some (At.mk 0 1402560)
def P3(an:Ai->Ai->Option Int)(a2:Ai)(ax0:List Ai):(Int×Int)->Option ((Int×Int)⊕Int):=fun s=>match s with
 |(i9,j10) =>
  ite' (decide (i9<j10)) (
   ck (Ay .i64 (i9+j10)) <|
   ck (Ay .i64 (Int.fdiv ((i9+j10)%18446744073709551616) 2)) <|
   bd (at? ax0 (Int.fdiv ((i9+j10)%18446744073709551616) 2)) fun x1 =>
   bd (an x1 a2) fun r1 =>
   ite' (decide (r1<0)) (
    ck (Ay .i64 ((Int.fdiv ((i9+j10)%18446744073709551616) 2)+1)) <|
    some (.inl (((Int.fdiv ((i9+j10)%18446744073709551616) 2)+1),j10))
    ) (
    some (.inl (i9,(Int.fdiv ((i9+j10)%18446744073709551616) 2)))
    )
   ) (
   some (.inr i9)
   )
def In(ax0:List Ai)(a2:Ai)(an:Ai->Ai->Option Int):Option (Int×Bool) :=
 bd (lp (P3 an a2 ax0) (0,(ax0.length:Int)))<|fun i9 =>
 bd (gd (decide (i9<(ax0.length:Int))) (at? ax0 i9)) fun x2 =>
 bd (gd (decide (i9<(ax0.length:Int))) (an x2 a2)) fun r2 =>
 some (i9,(bif (decide (i9<(ax0.length:Int))) then(decide (r2=0)) else false))
def P4(ai:List Int):Int->Option (Int⊕(Unit⊕Int)):=fun s=>match s with
 |t8 =>
  ite' (decide (t8<(ai.length:Int))) (
   bd (at? ai t8) fun x1 =>
   ite' (!decide (x1=0)) (
    some (.inr (.inr x1))
    ) (
    ck (Ay .i64 (t8+1)) <|
    some (.inl (t8+1))
    )
   ) (
   some (.inr (.inl ()))
   )
def Mb(ai:List Int):Option (Int) :=
 bd (lp (P4 ai) 0)<|fun o=>match o with
 | .inl ()=>(
   some 0
  )
 | .inr o=>(
   some o
  )
def P5(c0:List Int)(c1:List Int)(k4:Int):Int->Option (Int⊕Int):=fun s=>match s with
 |k4' =>
  ck (Ay .i64 (k4'+1)) <|
  bd (gd (decide ((k4'+1)<(c0.length:Int))) (at? c1 k4')) fun x1 =>
  bd (gd (decide ((k4'+1)<(c0.length:Int))) (at? c1 k4)) fun x2 =>
  ite' (bif (decide ((k4'+1)<(c0.length:Int))) then(decide (x1=x2)) else false) (
   ck (Ay .i64 (k4'+1)) <|
   some (.inl (k4'+1))
   ) (
   some (.inr k4')
   )
def P6(c0:List Int)(c1:List Int)(st:List Az->Option Bool):(Int×(List Az))->Option ((Int×(List Az))⊕((List Az)⊕(List Az))):=fun s=>match s with
 |(k4,ys) =>
  ck (Ay .i64 (k4+1)) <|
  ite' (decide ((k4+1)<(c0.length:Int))) (
   ck (Ay .i64 (k4+1)) <|
   bd (lp (P5 c0 c1 k4) (k4+1))<|fun k4' =>
   bd (at? c0 k4) fun x3 =>
   bd (at? c0 k4') fun x4 =>
   bd (at? c1 k4) fun x5 =>
   bd (st (ys++[(Az.mk (At.mk x3 x4) x5)])) fun s1 =>
   ite' s1 (
    some (.inr (.inr (ys++[(Az.mk (At.mk x3 x4) x5)])))
    ) (
    some (.inl (k4',(ys++[(Az.mk (At.mk x3 x4) x5)])))
    )
   ) (
   some (.inr (.inl ys))
   )
def D1(c0:List Int)(c1:List Int)(st:List Az->Option Bool):Option (List Az) :=
 bd (lp (P6 c0 c1 st) (0,[]))<|fun o=>match o with
 | .inl ys=>(
   some ys
  )
 | .inr o=>(
   some o
  )
def Kh(a0:Ai)(b1:Ai):Option (Bool) :=
 some (bif (decide (a0.Gauge<b1.Gauge)) then true else(bif (decide (a0.Gauge=b1.Gauge)) then(decide (a0.Seq<b1.Seq)) else false))
def P7(l0:List Ai)(v1:Ai):(Bool×Int×(List Ai))->Option ((Bool×Int×(List Ai))⊕(Bool×(List Ai))):=fun s=>match s with
 |(al,k7,l2) =>
  ite' (decide (k7<(l0.length:Int))) (
   bd (at? l0 k7) fun x1 =>
   bd (Kh v1 x1) fun r1 =>
   bd (at? l0 k7) fun x2 =>
   bd (Kh x2 v1) fun r2 =>
   bd (α:=Bool×(List Ai)) (
    ite' (bif (!al) then(!r2) else false) (
     ck (decide (List.length (l2++[v1])*80<=140737488355328)) <|
     some (true,(l2++[v1]))
     ) (
     some (al,l2)
     )
   )<|fun(al',l2') =>
    ite' (bif r1 then true else r2) (
     bd (at? l0 k7) fun x3 =>
     ck (decide (List.length (l2'++[x3])*80<=140737488355328)) <|
     ck (Ay .i64 (k7+1)) <|
     some (.inl (al',(k7+1),(l2'++[x3])))
     ) (
     ck (Ay .i64 (k7+1)) <|
     some (.inl (al',(k7+1),l2'))
     )
   ) (
   some (.inr (al,l2))
   )
def P8(l0:List Ai)(v1:Ai):Option ((List Ai)) :=
 bd (lp (P7 l0 v1) (false,0,[]))<|fun(al,l2) =>
 ite' (!al) (
  ck (decide (List.length (l2++[v1])*80<=140737488355328)) <|
  some (l2++[v1])
  ) (
  some l2
  )
def F5(ax0:Int):Option (Bool) :=
 some (!decide (ax0=ax0))
def P9(ax0:Int)(y1:Int):Option (Bool) :=
 bd (F5 ax0) fun r1 =>
 bd (gd r1 (F5 y1)) fun r2 =>
 some (bif (bif r1 then(!r2) else false) then true else(decide (ax0<y1)))
def PA(ax0:Int):Option (Bool) :=
 some (!decide (ax0=ax0))
def PB(b5:Int)(b3:Int):Option (Int) :=
 ite' (bif (bif (bif (decide (b5<0)) then true else(decide (1402560<=b5))) then true else(decide (b3<0))) then true else(decide (14609<b3))) (
  some 3
  ) (
  some 0
  )
def V2(a0:AP)(b1:AP):Int->Option (Int⊕(Unit⊕Bool)):=fun s=>match s with
 |k5 =>
  ite' (decide (k5<(a0.Points.length:Int))) (
   bd (at? a0.Points k5) fun x1 =>
   bd (at? b1.Points k5) fun x2 =>
   ite' (!(decide (x1.Stage=x2.Stage)&&((x1.Flow.Neg==x2.Flow.Neg)&&(decide (x1.Flow.Num=x2.Flow.Num)&&(decide (x1.Flow.Den=x2.Flow.Den)&&true))))) (
    some (.inr (.inr false))
    ) (
    ck (Ay .i64 (k5+1)) <|
    some (.inl (k5+1))
    )
   ) (
   some (.inr (.inl ()))
   )
def V3(a0:AP)(b1:AP):Option (Bool) :=
 ite' (!decide ((a0.Points.length:Int)=(b1.Points.length:Int))) (
  some false
  ) (
  bd (lp (V2 a0 b1) 0)<|fun o=>match o with
  | .inl ()=>(
    some true
   )
  | .inr o=>(
    some o
   )
  )
def PC(b4:Int):Option (Bool) :=
 some (bif (decide ((-1000)<=b4)) then(decide (b4<=2000)) else false)
def yzi(ax:List AO)(b2:List AO):Int->Option (Int⊕(Unit⊕Bool)):=fun s=>match s with
 |t13 =>
  ite' (decide (t13<(ax.length:Int))) (
   bd (at? ax t13) fun x1 =>
   bd (at? b2 t13) fun x2 =>
   ite' (!(decide (x1.Stage=x2.Stage)&&((x1.Flow.Neg==x2.Flow.Neg)&&(decide (x1.Flow.Num=x2.Flow.Num)&&(decide (x1.Flow.Den=x2.Flow.Den)&&true))))) (
    some (.inr (.inr false))
    ) (
    ck (Ay .i64 (t13+1)) <|
    some (.inl (t13+1))
    )
   ) (
   some (.inr (.inl ()))
   )
def PD(ax:List AO)(b2:List AO):Option (Bool) :=
 ite' (!decide ((ax.length:Int)=(b2.length:Int))) (
  some false
  ) (
  bd (lp (yzi ax b2) 0)<|fun o=>match o with
  | .inl ()=>(
    some true
   )
  | .inr o=>(
    some o
   )
  )
def PE(a3:Int)(ag:Int)(a4:Int)(l0:List Ai)(ah:Int):((Option Ai)×Int)->Option (((Option Ai)×Int)⊕(Option Ai)):=fun s=>match s with
 |(a8,t16) =>
  ite' (decide (t16<(l0.length:Int))) (
   bd (at? l0 t16) fun x1 =>
   bd (α:=Unit⊕Unit) (
    ite' (bif (bif (bif (bif (!decide (x1.Kind=ag)) then true else(!decide (x1.Gauge=a3))) then true else(decide (a4<x1.Known))) then true else(decide (ah<x1.From))) then true else(decide (x1.To<=ah))) (
     some (.inr ())
     ) (
     some (.inl ())
     )
   )<|fun o=>match o with
    | .inl ()=>(
      bd (gd (!(!(Option.isSome a8))) (a8)) fun x2 =>
      bd (gd (!(bif (!(Option.isSome a8)) then true else(decide (x2.Known<x1.Known)))) (a8)) fun x3 =>
      bd (gd ((!(bif (!(Option.isSome a8)) then true else(decide (x2.Known<x1.Known))))&&(decide (x1.Known=x3.Known))) (a8)) fun x4 =>
      ite' (bif (bif (!(Option.isSome a8)) then true else(decide (x2.Known<x1.Known))) then true else(bif (decide (x1.Known=x3.Known)) then(decide (x4.Seq<x1.Seq)) else false)) (
       ck (Ay .i64 (t16+1)) <|
       some (.inl ((some x1),(t16+1)))
       ) (
       ck (Ay .i64 (t16+1)) <|
       some (.inl (a8,(t16+1)))
       )
     )
    | .inr ()=>(
      ck (Ay .i64 (t16+1)) <|
      some (.inl (a8,(t16+1)))
     )
   ) (
   some (.inr a8)
   )
def Mc(l0:List Ai)(ag:Int)(a3:Int)(ah:Int)(a4:Int):Option ((Option Ai)) :=
 bd (lp (PE a3 ag a4 l0 ah) (none,0))<|fun a8 =>
 some a8
def Ki(a0:List UInt8):Option (Bool) :=
 ck (!(!(decide (a0=[])))||(Cz a0 0)) <|
 some (bif (decide (a0=[])) then true else(!decide ((CS a0 0)=0)))
def PF(a0:List UInt8):Int->Option (Int⊕Int):=fun s=>match s with
 |k3 =>
  ck (!(decide (k3<(a0.length:Int)))||(Cz a0 k3)) <|
  ite' (bif (decide (k3<(a0.length:Int))) then(decide ((CS a0 k3)=0)) else false) (
   ck (Ay .i64 (k3+1)) <|
   some (.inl (k3+1))
   ) (
   some (.inr k3)
   )
def DR(a0:List UInt8):Option ((List UInt8)) :=
 bd (lp (PF a0) 0)<|fun k3 =>
 ck (Dm a0 k3 (a0.length:Int)) <|
 some (sub a0 k3 (a0.length:Int))
def Kj(a0:List UInt8)(b1:List UInt8):Option (Int) :=
 bd (DR a0) fun r1 =>
 bd (DR b1) fun r2 =>
 ite' (decide (r1=r2)) (
  some 0
  ) (
  ite' (bif (decide ((r1.length:Int)<(r2.length:Int))) then true else(bif (decide ((r1.length:Int)=(r2.length:Int))) then(Op.bytesLess r1 r2) else false)) (
   some (-1)
   ) (
   some 1
   )
  )
def Md(a0:Be):Option ((List UInt8)×(List UInt8)) :=
 ite' (decide (a0.Num=[])) (
  some ([],[1])
  ) (
  some (a0.Num,a0.Den)
  )
def vzd :(List Int)->Option ((List Int)⊕(List Int)):=fun s=>match s with
 |x0 =>
  ck (!(decide (0<(x0.length:Int)))||Ay .i64 ((x0.length:Int)-1)) <|
  bd (gd (decide (0<(x0.length:Int))) (at? x0 ((x0.length:Int)-1))) fun x1 =>
  ite' (bif (decide (0<(x0.length:Int))) then(decide (x1=0)) else false) (
   ck (Ay .i64 ((x0.length:Int)-1)) <|
   ck (Dm x0 0 ((x0.length:Int)-1)) <|
   some (.inl (sub x0 0 ((x0.length:Int)-1)))
   ) (
   some (.inr x0)
   )
def HH(ax0:List Int):Option ((List Int)) :=
 bd (lp (vzd) ax0)<|fun x0 =>
 some x0
def Gf(a0:List UInt8)(k1:Int):Option (Int) :=
 ite' (decide ((a0.length:Int)<=k1)) (
  some 0
  ) (
  ck (Ay .i64 ((a0.length:Int)-1)) <|
  ck (Ay .i64 (((a0.length:Int)-1)-k1)) <|
  ck (Cz a0 (((a0.length:Int)-1)-k1)) <|
  ck (Ay .i64 (CS a0 (((a0.length:Int)-1)-k1))) <|
  some (CS a0 (((a0.length:Int)-1)-k1))
  )
def PH(l0:List Int):(Int×(List Int))->Option ((Int×(List Int))⊕(List Int)):=fun s=>match s with
 |(k4,l1) =>
  ite' (decide (0<=k4)) (
   bd (at? l0 k4) fun x1 =>
   ck (decide (List.length (l1++[(x1%256)])*1<=140737488355328)) <|
   ck (Ay .i64 (k4-1)) <|
   some (.inl ((k4-1),(l1++[(x1%256)])))
   ) (
   some (.inr l1)
   )
def Kk(l0:List Int):Option ((List UInt8)) :=
 ck (Ay .i64 ((l0.length:Int)-1)) <|
 bd (lp (PH l0) (((l0.length:Int)-1),[]))<|fun l1 =>
 bd (DR (CI l1)) fun r1 =>
 some r1
def PI(ax0:List Int)(k1:Int):Option (Int) :=
 ite' (decide (k1<(ax0.length:Int))) (
  bd (at? ax0 k1) fun x1 =>
  some (x1%18446744073709551616)
  ) (
  some 0
  )
def Kl(ax0:Int):Option (Bool) :=
 some (!decide (ax0=ax0))
def wz7(ac1:Int):(List UInt8)->Option ((List UInt8)⊕(List UInt8)):=fun s=>match s with
 |s0 =>
  ck (!(decide (0<(s0.length:Int)))||(Cz s0 0)) <|
  ite' (bif (decide (0<(s0.length:Int))) then(decide ((CS s0 0)=ac1)) else false) (
   ck (Dm s0 1 (s0.length:Int)) <|
   some (.inl (sub s0 1 (s0.length:Int)))
   ) (
   some (.inr s0)
   )
def YC(as0:List UInt8)(ac1:Int):Option ((List UInt8)) :=
 bd (lp (wz7 ac1) as0)<|fun s0 =>
 some s0
def F4(ar0:Ae):Option (Bool) :=
 bd (Ip ar0.Gauge 0 39) fun r1 =>
 bd (gd r1 (Ip ar0.Seq 0 1099511627776)) fun r2 =>
 bd (gd (bif (bif (bif (bif r1 then r2 else false) then(decide (0<=ar0.From)) else false) then(decide (ar0.From<ar0.To)) else false) then(decide (ar0.To<=1402560)) else false) (Ip ar0.Stage 0 1000)) fun r3 =>
 bd (gd (bif (bif (bif (bif (bif r1 then r2 else false) then(decide (0<=ar0.From)) else false) then(decide (ar0.From<ar0.To)) else false) then(decide (ar0.To<=1402560)) else false) then r3 else false) (Ip ar0.Known 0 14609)) fun r4 =>
 some (bif (bif (bif (bif (bif (bif r1 then r2 else false) then(decide (0<=ar0.From)) else false) then(decide (ar0.From<ar0.To)) else false) then(decide (ar0.To<=1402560)) else false) then r3 else false) then r4 else false)
def PJ(l0:List Ae):Int->Option (Int⊕(Unit⊕Int)):=fun s=>match s with
 |k3 =>
  ite' (decide (k3<(l0.length:Int))) (
   bd (at? l0 k3) fun x1 =>
   bd (LV x1) fun r1 =>
   ck (!(!(decide (k3=0)))||Ay .i64 (k3-1)) <|
   bd (gd (!(decide (k3=0))) (at? l0 (max 0 (k3-1)))) fun x2 =>
   bd (gd (!(decide (k3=0))) (at? l0 k3)) fun x3 =>
   bd (gd (!(decide (k3=0))) (LZ x2 x3)) fun r2 =>
   ite' (bif (!r1) then true else(!(bif (decide (k3=0)) then true else r2))) (
    some (.inr (.inr 1))
    ) (
    ck (Ay .i64 (k3+1)) <|
    some (.inl (k3+1))
    )
   ) (
   some (.inr (.inl ()))
   )
def PK(l0:List Ae):Option (Int) :=
 ite' (decide (4000<(l0.length:Int))) (
  some 2
  ) (
  bd (lp (PJ l0) 0)<|fun o=>match o with
  | .inl ()=>(
    some 0
   )
  | .inr o=>(
    some o
   )
  )
def jzq7(a0:List AI)(b1:List AI):Int->Option (Int⊕(Unit⊕Bool)):=fun s=>match s with
 |k5 =>
  ite' (decide (k5<(a0.length:Int))) (
   bd (at? a0 k5) fun x1 =>
   bd (at? b1 k5) fun x2 =>
   bd (V1 x1.Table x2.Table) fun r1 =>
   bd (gd (!(!r1)) (at? a0 k5)) fun x3 =>
   bd (gd (!(!r1)) (at? b1 k5)) fun x4 =>
   bd (gd (!(bif (!r1) then true else(!decide (x3.From=x4.From)))) (at? a0 k5)) fun x5 =>
   bd (gd (!(bif (!r1) then true else(!decide (x3.From=x4.From)))) (at? b1 k5)) fun x6 =>
   bd (gd (!(bif (bif (!r1) then true else(!decide (x3.From=x4.From))) then true else(!decide (x5.To=x6.To)))) (at? a0 k5)) fun x7 =>
   bd (gd (!(bif (bif (!r1) then true else(!decide (x3.From=x4.From))) then true else(!decide (x5.To=x6.To)))) (at? b1 k5)) fun x8 =>
   bd (gd (!(bif (bif (bif (!r1) then true else(!decide (x3.From=x4.From))) then true else(!decide (x5.To=x6.To))) then true else(!decide (x7.Lo=x8.Lo)))) (at? a0 k5)) fun x9 =>
   bd (gd (!(bif (bif (bif (!r1) then true else(!decide (x3.From=x4.From))) then true else(!decide (x5.To=x6.To))) then true else(!decide (x7.Lo=x8.Lo)))) (at? b1 k5)) fun x10 =>
   ite' (bif (bif (bif (bif (!r1) then true else(!decide (x3.From=x4.From))) then true else(!decide (x5.To=x6.To))) then true else(!decide (x7.Lo=x8.Lo))) then true else(!decide (x9.Hi=x10.Hi))) (
    some (.inr (.inr false))
    ) (
    ck (Ay .i64 (k5+1)) <|
    some (.inl (k5+1))
    )
   ) (
   some (.inr (.inl ()))
   )
def Me(a0:List AI)(b1:List AI):Option (Bool) :=
 ite' (!decide ((a0.length:Int)=(b1.length:Int))) (
  some false
  ) (
  bd (lp (jzq7 a0 b1) 0)<|fun o=>match o with
  | .inl ()=>(
    some true
   )
  | .inr o=>(
    some o
   )
  )
def EG(ax0:Int)(y1:Int):Option (Int) :=
 bd (F5 ax0) fun r1 =>
 bd (F5 y1) fun r2 =>
 ite' r1 (
  ite' r2 (
   some 0
   ) (
   some (-1)
   )
  ) (
  ite' r2 (
   some 1
   ) (
   ite' (decide (ax0<y1)) (
    some (-1)
    ) (
    ite' (decide (y1<ax0)) (
     some 1
     ) (
     some 0
     )
    )
   )
  )
def PL(a2:Int)(ax0:List Int):(Int×Int)->Option ((Int×Int)⊕Int):=fun s=>match s with
 |(i7,j8) =>
  ite' (decide (i7<j8)) (
   ck (Ay .i64 (i7+j8)) <|
   ck (Ay .i64 (Int.fdiv ((i7+j8)%18446744073709551616) 2)) <|
   bd (at? ax0 (Int.fdiv ((i7+j8)%18446744073709551616) 2)) fun x1 =>
   bd (P9 x1 a2) fun r1 =>
   ite' r1 (
    ck (Ay .i64 ((Int.fdiv ((i7+j8)%18446744073709551616) 2)+1)) <|
    some (.inl (((Int.fdiv ((i7+j8)%18446744073709551616) 2)+1),j8))
    ) (
    some (.inl (i7,(Int.fdiv ((i7+j8)%18446744073709551616) 2)))
    )
   ) (
   some (.inr i7)
   )
def Km(ax0:List Int)(a2:Int):Option (Int×Bool) :=
 bd (lp (PL a2 ax0) (0,(ax0.length:Int)))<|fun i7 =>
 bd (gd (decide (i7<(ax0.length:Int))) (at? ax0 i7)) fun x2 =>
 bd (gd ((decide (i7<(ax0.length:Int)))&&(!(decide (x2=a2)))) (at? ax0 i7)) fun x3 =>
 bd (gd ((decide (i7<(ax0.length:Int)))&&(!(decide (x2=a2)))) (PA x3)) fun r2 =>
 bd (gd (((decide (i7<(ax0.length:Int)))&&(!(decide (x2=a2))))&&r2) (PA a2)) fun r3 =>
 some (i7,(bif (decide (i7<(ax0.length:Int))) then(bif (decide (x2=a2)) then true else(bif r2 then r3 else false)) else false))
def PM(a0:Ai)(b1:Ai):Option (Bool) :=
 bd (V3 a0.Curve b1.Curve) fun r1 =>
 some (bif (bif (bif (bif (bif (bif (bif r1 then(decide (a0.Kind=b1.Kind)) else false) then(decide (a0.Gauge=b1.Gauge)) else false) then(decide (a0.Seq=b1.Seq)) else false) then(decide (a0.Known=b1.Known)) else false) then(decide (a0.From=b1.From)) else false) then(decide (a0.To=b1.To)) else false) then(decide (a0.Shift=b1.Shift)) else false)
def PN(a0:AP)(b1:AP):Option (Bool) :=
 bd (PD a0.Points b1.Points) fun r1 =>
 some r1
def PO(l0:List Ai)(ag:Int)(a3:Int)(ah:Int)(a4:Int):Option (Int) :=
 bd (Mc l0 ag a3 ah a4) fun r1 =>
 ite' (Option.isSome r1) (
  bd (r1) fun x1 =>
  some x1.Shift
  ) (
  some 0
  )
def Mf(a0:List UInt8):Option (Bool) :=
 bd (DR a0) fun r1 =>
 some (decide (a0=r1))
def PP(a0:List UInt8)(af:Int):(Int×Int)->Option ((Int×Int)⊕Int):=fun s=>match s with
 |(ap,t22) =>
  ite' (decide (t22<(List.length (bytes (sub a0 (max 0 (af-4)) af)):Int))) (
   bd (at? (bytes (sub a0 (max 0 (af-4)) af)) t22) fun x1 =>
   ck (Ay .i64 (t22+1)) <|
   some (.inl ((bitI .or .u32 ((ap*256)%4294967296) (x1%4294967296)),(t22+1)))
   ) (
   some (.inr ap)
   )
def PQ(a0:List UInt8):(Int×(List Int))->Option ((Int×(List Int))⊕(List Int)):=fun s=>match s with
 |(af,l2) =>
  ite' (decide (0<af)) (
   ck (Ay .i64 (af-4)) <|
   ck (Dm a0 (max 0 (af-4)) af) <|
   bd (lp (PP a0 af) (0,0))<|fun ap =>
   ck (decide (List.length (l2++[ap])*4<=140737488355328)) <|
   ck (Ay .i64 (af-4)) <|
   some (.inl ((af-4),(l2++[ap])))
   ) (
   some (.inr l2)
   )
def HG(a0:List UInt8):Option ((List Int)) :=
 bd (lp (PQ a0) ((a0.length:Int),[]))<|fun l2 =>
 bd (HH l2) fun r1 =>
 some r1
def PR(a0:List UInt8)(b1:List UInt8):(Int×Int×(List Int))->Option ((Int×Int×(List Int))⊕(List Int)):=fun s=>match s with
 |(a7,k7,l2) =>
  ite' (decide (k7<(a0.length:Int))) (
   bd (Gf a0 k7) fun r2 =>
   bd (Gf b1 k7) fun r3 =>
   ck (Ay .i64 (r2-r3)) <|
   ck (Ay .i64 ((r2-r3)-a7)) <|
   bd (α:=Int×Int) (
    ite' (decide (((r2-r3)-a7)<0)) (
     ck (Ay .i64 (((r2-r3)-a7)+256)) <|
     some (1,(((r2-r3)-a7)+256))
     ) (
     some (0,((r2-r3)-a7))
     )
   )<|fun(a7',n8) =>
    ck (decide (List.length (l2++[n8])*8<=140737488355328)) <|
    ck (Ay .i64 (k7+1)) <|
    some (.inl (a7',(k7+1),(l2++[n8])))
   ) (
   some (.inr l2)
   )
def Ko(a0:List UInt8)(b1:List UInt8):Option (GG) :=
 bd (Kj a0 b1) fun r1 =>
 ite' (decide (r1<0)) (
  some (GG.mk [] 3)
  ) (
  bd (lp (PR a0 b1) (0,0,[]))<|fun l2 =>
  bd (Kk l2) fun r4 =>
  some (GG.mk r4 0)
  )
def Mg(a0:List UInt8)(b1:List UInt8)(i6:Int):(Int×Int×(List Int))->Option ((Int×Int×(List Int))⊕(List Int)):=fun s=>match s with
 |(ar,k8,l0') =>
  ite' (decide (k8<=(b1.length:Int))) (
   ck (Ay .i64 (i6+k8)) <|
   bd (at? l0' (i6+k8)) fun x1 =>
   bd (Gf a0 i6) fun r1 =>
   bd (Gf b1 k8) fun r2 =>
   ck (Ay .i64 (r1*r2)) <|
   ck (Ay .i64 (x1+(r1*r2))) <|
   ck (Ay .i64 ((x1+(r1*r2))+ar)) <|
   ck (Ay .i64 (i6+k8)) <|
   bd (at? l0' (i6+k8)) fun x2 =>
   ck (Ay .i64 (((x1+(r1*r2))+ar).tdiv 256)) <|
   ck (Ay .i64 (k8+1)) <|
   some (.inl ((((x1+(r1*r2))+ar).tdiv 256),(k8+1),(List.set l0' (Int.toNat (i6+k8)) (((x1+(r1*r2))+ar).tmod 256))))
   ) (
   some (.inr l0')
   )
def PS(a0:List UInt8)(b1:List UInt8):(Int×(List Int))->Option ((Int×(List Int))⊕(List Int)):=fun s=>match s with
 |(i6,l0) =>
  ite' (decide (i6<(a0.length:Int))) (
   bd (lp (Mg a0 b1 i6) (0,0,l0))<|fun l0' =>
   ck (Ay .i64 (i6+1)) <|
   some (.inl ((i6+1),l0'))
   ) (
   some (.inr l0)
   )
def Kp(a0:List UInt8)(b1:List UInt8):Option ((List UInt8)) :=
 ck (Ay .i64 ((a0.length:Int)+(b1.length:Int))) <|
 ck (Ay .i64 (((a0.length:Int)+(b1.length:Int))+1)) <|
 ck (mkOk (((a0.length:Int)+(b1.length:Int))+1) 8) <|
 bd (lp (PS a0 b1) (0,(List.replicate (Int.toNat (((a0.length:Int)+(b1.length:Int))+1)) 0)))<|fun l0 =>
 bd (Kk l0) fun r3 =>
 some r3
def PT(a0:List UInt8)(b1:List UInt8):(Int×Int×(List Int))->Option ((Int×Int×(List Int))⊕(List Int)):=fun s=>match s with
 |(aa,k7,l1) =>
  ite' (decide (k7<=(max (a0.length:Int) (b1.length:Int)))) (
   bd (Gf a0 k7) fun r1 =>
   bd (Gf b1 k7) fun r2 =>
   ck (Ay .i64 (r1+r2)) <|
   ck (Ay .i64 ((r1+r2)+aa)) <|
   ck (decide (List.length (l1++[(((r1+r2)+aa).tmod 256)])*8<=140737488355328)) <|
   ck (Ay .i64 (((r1+r2)+aa).tdiv 256)) <|
   ck (Ay .i64 (k7+1)) <|
   some (.inl ((((r1+r2)+aa).tdiv 256),(k7+1),(l1++[(((r1+r2)+aa).tmod 256)])))
   ) (
   some (.inr l1)
   )
def PU(a0:List UInt8)(b1:List UInt8):Option ((List UInt8)) :=
 bd (lp (PT a0 b1) (0,0,[]))<|fun l1 =>
 bd (Kk l1) fun r3 =>
 some r3
def kzs(by1:Int)(ax0:List Int):(Int×Int×(List Int))->Option ((Int×Int×(List Int))⊕(Int×(List Int))):=fun s=>match s with
 |(av,k8,l0) =>
  ite' (decide (0<=k8)) (
   bd (at? ax0 k8) fun x1 =>
   ck (!decide ((by1%18446744073709551616)=0)) <|
   ck (!decide ((by1%18446744073709551616)=0)) <|
   bd (at? l0 k8) fun x2 =>
   ck (Ay .i64 (k8-1)) <|
   some (.inl (((bitI .or .u64 ((av*4294967296)%18446744073709551616) (x1%18446744073709551616)).tmod (by1%18446744073709551616)),(k8-1),(List.set l0 (Int.toNat k8) ((((bitI .or .u64 ((av*4294967296)%18446744073709551616) (x1%18446744073709551616)).tdiv (by1%18446744073709551616))%18446744073709551616)%4294967296))))
   ) (
   some (.inr (av,l0))
   )
def SY(ax0:List Int)(by1:Int):Option ((List Int)×Int) :=
 ck (mkOk (ax0.length:Int) 4) <|
 ck (Ay .i64 ((ax0.length:Int)-1)) <|
 bd (lp (kzs by1 ax0) (0,((ax0.length:Int)-1),(List.replicate (Int.toNat (ax0.length:Int)) 0)))<|fun(av,l0) =>
 bd (HH l0) fun r1 =>
 some (r1,(av%4294967296))
def YD(t20:Int)(x1:Int)(y1:List Int):(Int×Int×(List Int))->Option ((Int×Int×(List Int))⊕(List Int)):=fun s=>match s with
 |(ay,k9,l0') =>
  ite' (bif (decide (k9<(y1.length:Int))) then true else(decide (0<ay))) (
   bd (PI y1 k9) fun r1 =>
   ck (Ay .i64 (t20+k9)) <|
   bd (at? l0' (t20+k9)) fun x2 =>
   ck (Ay .i64 (t20+k9)) <|
   bd (at? l0' (t20+k9)) fun x3 =>
   ck (Ay .i64 (k9+1)) <|
   some (.inl ((Int.fdiv (((((((x1%18446744073709551616)*r1)%18446744073709551616)+(x2%18446744073709551616))%18446744073709551616)+ay)%18446744073709551616) 4294967296),(k9+1),(List.set l0' (Int.toNat (t20+k9)) ((((((((x1%18446744073709551616)*r1)%18446744073709551616)+(x2%18446744073709551616))%18446744073709551616)+ay)%18446744073709551616)%4294967296))))
   ) (
   some (.inr l0')
   )
def kzu(ax0:List Int)(y1:List Int):(Int×(List Int))->Option ((Int×(List Int))⊕(List Int)):=fun s=>match s with
 |(t20,l0) =>
  ite' (decide (t20<(ax0.length:Int))) (
   bd (at? ax0 t20) fun x1 =>
   bd (lp (YD t20 x1 y1) (0,0,l0))<|fun l0' =>
   ck (Ay .i64 (t20+1)) <|
   some (.inl ((t20+1),l0'))
   ) (
   some (.inr l0)
   )
def PW(ax0:List Int)(y1:List Int):Option ((List Int)) :=
 ck (Ay .i64 ((ax0.length:Int)+(y1.length:Int))) <|
 ck (Ay .i64 (((ax0.length:Int)+(y1.length:Int))+1)) <|
 ck (mkOk (((ax0.length:Int)+(y1.length:Int))+1) 4) <|
 bd (lp (kzu ax0 y1) (0,(List.replicate (Int.toNat (((ax0.length:Int)+(y1.length:Int))+1)) 0)))<|fun l0 =>
 bd (HH l0) fun r2 =>
 some r2
def kzo(ax0:List Int)(y1:List Int):(Int×Int×(List Int))->Option ((Int×Int×(List Int))⊕(List Int)):=fun s=>match s with
 |(a7,t11,l1) =>
  ite' (decide (t11<(ax0.length:Int))) (
   bd (at? ax0 t11) fun x1 =>
   bd (PI y1 t11) fun r1 =>
   ck (decide (List.length (l1++[((((((x1%18446744073709551616)-r1)%18446744073709551616)-a7)%18446744073709551616)%4294967296)])*4<=140737488355328)) <|
   ck (Ay .i64 (t11+1)) <|
   some (.inl ((Int.fdiv (((((x1%18446744073709551616)-r1)%18446744073709551616)-a7)%18446744073709551616) 9223372036854775808),(t11+1),(l1++[((((((x1%18446744073709551616)-r1)%18446744073709551616)-a7)%18446744073709551616)%4294967296)])))
   ) (
   some (.inr l1)
   )
def PX(ax0:List Int)(y1:List Int):Option ((List Int)) :=
 bd (lp (kzo ax0 y1) (0,0,[]))<|fun l1 =>
 bd (HH l1) fun r2 =>
 some r2
def vze(ax0:List Int)(y1:List Int):(Int×Int×(List Int))->Option ((Int×Int×(List Int))⊕(List Int)):=fun s=>match s with
 |(aa,t15,l1) =>
  ite' (decide (t15<((max (ax0.length:Int) (y1.length:Int))+1))) (
   bd (PI ax0 t15) fun r1 =>
   bd (PI y1 t15) fun r2 =>
   ck (decide (List.length (l1++[(((((r1+r2)%18446744073709551616)+aa)%18446744073709551616)%4294967296)])*4<=140737488355328)) <|
   ck (Ay .i64 (t15+1)) <|
   some (.inl ((Int.fdiv ((((r1+r2)%18446744073709551616)+aa)%18446744073709551616) 4294967296),(t15+1),(l1++[(((((r1+r2)%18446744073709551616)+aa)%18446744073709551616)%4294967296)])))
   ) (
   some (.inr l1)
   )
def V4(ax0:List Int)(y1:List Int):Option ((List Int)) :=
 ck (Ay .i64 ((max (ax0.length:Int) (y1.length:Int))+1)) <|
 bd (lp (vze ax0 y1) (0,0,[]))<|fun l1 =>
 bd (HH l1) fun r3 =>
 some r3
def Mh(ax0:Int)(y1:Int):Option (Int) :=
 bd (Kl ax0) fun r1 =>
 bd (Kl y1) fun r2 =>
 ite' r1 (
  ite' r2 (
   some 0
   ) (
   some (-1)
   )
  ) (
  ite' r2 (
   some 1
   ) (
   ite' (decide (ax0<y1)) (
    some (-1)
    ) (
    ite' (decide (y1<ax0)) (
     some 1
     ) (
     some 0
     )
    )
   )
  )
def PY(as0:List UInt8)(ab:List UInt8):Option ((List UInt8)) :=
 ite' (bif (decide (as0=[])) then true else(decide (ab=[]))) (
  some as0
  ) (
  ck (!(decide ((ab.length:Int)=1))||(Cz ab 0)) <|
  ite' (bif (decide ((ab.length:Int)=1)) then(decide ((CS ab 0)<128)) else false) (
   ck (Cz ab 0) <|
   bd (YC as0 (CS ab 0)) fun r1 =>
   some r1
   ) (
   none
   )
  )
def PZ(l0:List Ae)(ar1:Ae):(Bool×Int×(List Ae))->Option ((Bool×Int×(List Ae))⊕(Bool×(List Ae))):=fun s=>match s with
 |(aj,k12,l5) =>
  ite' (decide (k12<(l0.length:Int))) (
   bd (at? l0 k12) fun x4 =>
   bd (LZ ar1 x4) fun r5 =>
   bd (α:=Bool×(List Ae)) (
    ite' (bif r5 then(!aj) else false) (
     ck (decide (List.length (l5++[ar1])*48<=140737488355328)) <|
     some (true,(l5++[ar1]))
     ) (
     some (aj,l5)
     )
   )<|fun(aj',l5') =>
    bd (at? l0 k12) fun x5 =>
    ck (decide (List.length (l5'++[x5])*48<=140737488355328)) <|
    ck (Ay .i64 (k12+1)) <|
    some (.inl (aj',(k12+1),(l5'++[x5])))
   ) (
   some (.inr (aj,l5))
   )
def Hg(l0:List Ae)(ar1:Ae):Option (BC) :=
 bd (PK l0) fun r1 =>
 ite' (!decide (r1=0)) (
  some (BC.mk [] r1)
  ) (
  bd (LV ar1) fun r2 =>
  ite' (!r2) (
   some (BC.mk [] 1)
   ) (
   bd (LY l0 ar1) fun r3 =>
   ite' (decide (0<=r3)) (
    bd (at? l0 r3) fun x1 =>
    bd (Pz x1 ar1) fun r4 =>
    bd (gd r4 (at? l0 r3)) fun x2 =>
    ite' (bif r4 then(decide (x2.Known<=ar1.Known)) else false) (
     some (BC.mk [] 9)
     ) (
     ite' (!r4) (
      some (BC.mk [] 24)
      ) (
      ck (decide (List.length ([]++l0)*48<=140737488355328)) <|
      bd (at? ([]++l0) r3) fun x3 =>
      some (BC.mk (List.set ([]++l0) (Int.toNat r3) ar1) 0)
      )
     )
    ) (
    ite' (decide ((l0.length:Int)=4000)) (
     some (BC.mk [] 2)
     ) (
     bd (lp (PZ l0 ar1) (false,0,[]))<|fun(aj,l5) =>
     ite' (!aj) (
      ck (decide (List.length (l5++[ar1])*48<=140737488355328)) <|
      some (BC.mk (l5++[ar1]) 0)
      ) (
      some (BC.mk l5 0)
      )
     )
    )
   )
  )
def Es(a0:Ae)(b1:Ae):Option (Int) :=
 bd (EG a0.Gauge b1.Gauge) fun r1 =>
 bd (EG a0.Seq b1.Seq) fun r2 =>
 bd (Mb [r1,r2]) fun r3 =>
 some r3
def EF(a0:Ai)(b1:Ai):Option (Int) :=
 bd (EG a0.Gauge b1.Gauge) fun r1 =>
 ite' (!decide (r1=0)) (
  some r1
  ) (
  bd (EG a0.Seq b1.Seq) fun r2 =>
  some r2
  )
def Mi(a0:Ai)(b1:Ai):Option (Bool) :=
 bd (PN a0.Curve b1.Curve) fun r1 =>
 ite' (!r1) (
  some false
  ) (
  some (bif (bif (bif (bif (bif (bif (decide (a0.Kind=b1.Kind)) then(decide (a0.Gauge=b1.Gauge)) else false) then(decide (a0.Seq=b1.Seq)) else false) then(decide (a0.Known=b1.Known)) else false) then(decide (a0.From=b1.From)) else false) then(decide (a0.To=b1.To)) else false) then(decide (a0.Shift=b1.Shift)) else false)
  )
def Qa(b1:List UInt8):((List UInt8)×Int)->Option (((List UInt8)×Int)⊕((List UInt8)×Int)):=fun s=>match s with
 |(r6',n8) =>
  bd (Kj r6' b1) fun r3 =>
  ite' (decide (0<=r3)) (
   bd (Ko r6' b1) fun r4 =>
   ck (Ay .i64 (n8+1)) <|
   some (.inl (r4.S,(n8+1)))
   ) (
   some (.inr (r6',n8))
   )
def Qb(a0:List UInt8)(b1:List UInt8):((List UInt8)×(List UInt8)×Int)->Option (((List UInt8)×(List UInt8)×Int)⊕((List UInt8)×(List UInt8))):=fun s=>match s with
 |(q5,r6,k7) =>
  ite' (decide (k7<(a0.length:Int))) (
   ck (Ay .i64 (k7+1)) <|
   ck (Dm a0 k7 (k7+1)) <|
   ck (decide (r6.length+List.length (sub a0 k7 (k7+1))<=4611686018427387904)) <|
   bd (DR (r6++(sub a0 k7 (k7+1)))) fun r2 =>
   bd (lp (Qa b1) (r2,0))<|fun(r6',n8) =>
   ck (decide (q5.length+List.length (CI [(n8%256)])<=4611686018427387904)) <|
   ck (Ay .i64 (k7+1)) <|
   some (.inl ((q5++(CI [(n8%256)])),r6',(k7+1)))
   ) (
   some (.inr (q5,r6))
   )
def Kq(a0:List UInt8)(b1:List UInt8):Option (GF) :=
 bd (DR b1) fun r1 =>
 ite' (decide (r1=[])) (
  some (GF.mk [] [] 1)
  ) (
  bd (lp (Qb a0 b1) ([],[],0))<|fun(q5,r6) =>
  bd (DR q5) fun r5 =>
  some (GF.mk r5 r6 0)
  )
def jz2(ax0:List Int)(y1:List Int):Int->Option (Int⊕(Unit⊕Int)):=fun s=>match s with
 |k6 =>
  ite' (decide (0<=k6)) (
   bd (at? ax0 k6) fun x1 =>
   bd (at? y1 k6) fun x2 =>
   bd (Mh x1 x2) fun r2 =>
   ite' (!decide (r2=0)) (
    some (.inr (.inr r2))
    ) (
    ck (Ay .i64 (k6-1)) <|
    some (.inl (k6-1))
    )
   ) (
   some (.inr (.inl ()))
   )
def Qd(ax0:List Int)(y1:List Int):Option (Int) :=
 bd (EG (ax0.length:Int) (y1.length:Int)) fun r1 =>
 ite' (!decide (r1=0)) (
  some r1
  ) (
  ck (Ay .i64 ((ax0.length:Int)-1)) <|
  bd (lp (jz2 ax0 y1) ((ax0.length:Int)-1))<|fun o=>match o with
  | .inl ()=>(
    some 0
   )
  | .inr o=>(
    some o
   )
  )
def Ob(ax0:List Int)(aq:Int):Option ((List Int)) :=
 ite' (decide (aq<0)) (
  ck (Ay .i64 (-aq)) <|
  ck (decide (0<=(-aq))) <|
  bd (SY ax0 ((1*2 ^ min (Int.toNat (-aq)) 32)%4294967296)) fun r1 =>
  some r1.1
  ) (
  ck (decide (0<=aq)) <|
  bd (PW ax0 [((1*2 ^ min (Int.toNat aq) 32)%4294967296)]) fun r2 =>
  some r2
  )
def Mj(a0:List UInt8):Option ((List UInt8)) :=
 bd (PY a0 [0]) fun r1 =>
 some r1
def Qe(l0:List Ae):Int->Option (Int⊕(Unit⊕Int)):=fun s=>match s with
 |t10 =>
  ite' (decide (t10<(l0.length:Int))) (
   bd (at? l0 t10) fun x1 =>
   bd (F4 x1) fun r1 =>
   ck (!((!(!r1))&&(decide (0<t10)))||Ay .i64 (t10-1)) <|
   bd (gd ((!(!r1))&&(decide (0<t10))) (at? l0 (t10-1))) fun x2 =>
   bd (gd ((!(!r1))&&(decide (0<t10))) (Es x2 x1)) fun r2 =>
   ite' (bif (!r1) then true else(bif (decide (0<t10)) then(decide (0<=r2)) else false)) (
    some (.inr (.inr 1))
    ) (
    ck (Ay .i64 (t10+1)) <|
    some (.inl (t10+1))
    )
   ) (
   some (.inr (.inl ()))
   )
def DP(l0:List Ae):Option (Int) :=
 ite' (decide (4000<(l0.length:Int))) (
  some 2
  ) (
  bd (lp (Qe l0) 0)<|fun o=>match o with
  | .inl ()=>(
    some 0
   )
  | .inr o=>(
    some o
   )
  )
def Ir :((List UInt8)×(List UInt8))->Option (((List UInt8)×(List UInt8))⊕(List UInt8)):=fun s=>match s with
 |(x5,y6) =>
  ite' (!decide (y6=[])) (
   bd (Kq x5 y6) fun r3 =>
   some (.inl (y6,r3.R))
   ) (
   some (.inr x5)
   )
def Ml(a0:List UInt8)(b1:List UInt8):Option ((List UInt8)) :=
 bd (DR a0) fun r1 =>
 bd (DR b1) fun r2 =>
 bd (lp (Ir) (r1,r2))<|fun x5 =>
 some x5
def YE(y1:List Int):Int->Option (Int⊕Int):=fun s=>match s with
 |ac =>
  ck (Ay .i64 ((y1.length:Int)-1)) <|
  bd (at? y1 ((y1.length:Int)-1)) fun x2 =>
  ck (decide (0<=ac)) <|
  ite' (decide (((x2*2 ^ min (Int.toNat ac) 32)%4294967296)<2147483648)) (
   ck (Ay .i64 (ac+1)) <|
   some (.inl (ac+1))
   ) (
   some (.inr ac)
   )
def YF(j13:Int)(a9:List Int)(r4:(List Int)):(Int×Int)->Option ((Int×Int)⊕Int):=fun s=>match s with
 |(a6,ad) =>
  ck (!(decide (ad<4294967296))||Ay .i64 ((r4.length:Int)-2)) <|
  bd (gd (decide (ad<4294967296)) (at? r4 ((r4.length:Int)-2))) fun x7 =>
  ck (!(decide (ad<4294967296))||Ay .i64 (j13+(r4.length:Int))) <|
  ck (!(decide (ad<4294967296))||Ay .i64 ((j13+(r4.length:Int))-2)) <|
  bd (gd (decide (ad<4294967296)) (at? a9 ((j13+(r4.length:Int))-2))) fun x8 =>
  ite' (bif (decide (ad<4294967296)) then(decide ((bitI .or .u64 ((ad*4294967296)%18446744073709551616) (x8%18446744073709551616))<((a6*(x7%18446744073709551616))%18446744073709551616))) else false) (
   ck (Ay .i64 ((r4.length:Int)-1)) <|
   bd (at? r4 ((r4.length:Int)-1)) fun x9 =>
   some (.inl (((a6-1)%18446744073709551616),((ad+(x9%18446744073709551616))%18446744073709551616)))
   ) (
   some (.inr a6)
   )
def yzk(j13:Int)(a9:List Int)(r4:(List Int)):(Int×(List Int))->Option ((Int×(List Int))⊕(Int×(List Int))):=fun s=>match s with
 |(a6',ae) =>
  bd (Gb (sub a9 j13 ((j13+(r4.length:Int))+1))) fun r8 =>
  bd (HH r8) fun r9 =>
  bd (Qd r9 ae) fun r10 =>
  ite' (decide (r10<0)) (
   bd (PX ae r4) fun r11 =>
   some (.inl (((a6'-1)%18446744073709551616),r11))
   ) (
   some (.inr (a6',ae))
   )
def SZ(r4:(List Int)):(Int×(List Int)×(List Int))->Option ((Int×(List Int)×(List Int))⊕((List Int)×(List Int))):=fun s=>match s with
 |(j13,a9,l3) =>
  ite' (decide (0<=j13)) (
   ck (Ay .i64 (j13+(r4.length:Int))) <|
   bd (at? a9 (j13+(r4.length:Int))) fun x3 =>
   ck (Ay .i64 (j13+(r4.length:Int))) <|
   ck (Ay .i64 ((j13+(r4.length:Int))-1)) <|
   bd (at? a9 ((j13+(r4.length:Int))-1)) fun x4 =>
   ck (Ay .i64 ((r4.length:Int)-1)) <|
   bd (at? r4 ((r4.length:Int)-1)) fun x5 =>
   ck (!decide ((x5%18446744073709551616)=0)) <|
   ck (Ay .i64 ((r4.length:Int)-1)) <|
   bd (at? r4 ((r4.length:Int)-1)) fun x6 =>
   bd (lp (YF j13 a9 r4) ((min (((bitI .or .u64 (((x3%18446744073709551616)*4294967296)%18446744073709551616) (x4%18446744073709551616)).tdiv (x5%18446744073709551616))%18446744073709551616) 4294967295),(((bitI .or .u64 (((x3%18446744073709551616)*4294967296)%18446744073709551616) (x4%18446744073709551616))-(((min (((bitI .or .u64 (((x3%18446744073709551616)*4294967296)%18446744073709551616) (x4%18446744073709551616)).tdiv (x5%18446744073709551616))%18446744073709551616) 4294967295)*(x6%18446744073709551616))%18446744073709551616))%18446744073709551616)))<|fun a6 =>
   bd (α:=Unit⊕Unit) (
    ite' (decide (a6=0)) (
     some (.inr ())
     ) (
     some (.inl ())
     )
   )<|fun o=>match o with
    | .inl ()=>(
      ck (Ay .i64 (j13+(r4.length:Int))) <|
      ck (Ay .i64 ((j13+(r4.length:Int))+1)) <|
      ck (Dm a9 j13 ((j13+(r4.length:Int))+1)) <|
      bd (PW r4 [(a6%4294967296)]) fun r7 =>
      bd (lp (yzk j13 a9 r4) (a6,r7))<|fun(a6',ae) =>
      bd (Gb (sub a9 j13 ((j13+(r4.length:Int))+1))) fun r12 =>
      bd (HH r12) fun r13 =>
      bd (PX r13 ae) fun r14 =>
      ck (Dm a9 j13 ((j13+(r4.length:Int))+1)) <|
      ck (Dm (BS a9 (Int.toNat j13) (List.replicate (Int.toNat (((j13+(r4.length:Int))+1)-j13)) 0)) j13 ((j13+(r4.length:Int))+1)) <|
      bd (at? l3 j13) fun x10 =>
      ck (Ay .i64 (j13-1)) <|
      some (.inl ((j13-1),(BS (BS a9 (Int.toNat j13) (List.replicate (Int.toNat (((j13+(r4.length:Int))+1)-j13)) 0)) (Int.toNat j13) (List.take (Int.toNat (((j13+(r4.length:Int))+1)-j13)) r14)),(List.set l3 (Int.toNat j13) (a6'%4294967296))))
     )
    | .inr ()=>(
      ck (Ay .i64 (j13-1)) <|
      some (.inl ((j13-1),a9,l3))
     )
   ) (
   some (.inr (a9,l3))
   )
def Oa(ax0:List Int)(y1:List Int):Option ((List Int)×(List Int)) :=
 bd (Qd ax0 y1) fun r1 =>
 ite' (decide (r1<0)) (
  some ([],ax0)
  ) (
  ite' (decide ((y1.length:Int)=1)) (
   bd (at? y1 0) fun x1 =>
   bd (SY ax0 x1) fun r2 =>
   bd (HH [r2.2]) fun r3 =>
   some (r2.1,r3)
   ) (
   bd (lp (YE y1) 0)<|fun ac =>
   bd (Ob y1 ac) fun r4 =>
   bd (Ob ax0 ac) fun r5 =>
   bd (Gb r5) fun r6 =>
   ck (decide (List.length (r6++[0,0])*4<=140737488355328)) <|
   ck (Ay .i64 ((ax0.length:Int)-(r4.length:Int))) <|
   ck (Ay .i64 (((ax0.length:Int)-(r4.length:Int))+2)) <|
   ck (mkOk (((ax0.length:Int)-(r4.length:Int))+2) 4) <|
   ck (Ay .i64 ((List.length (r6++[0,0]):Int)-(r4.length:Int))) <|
   ck (Ay .i64 (((List.length (r6++[0,0]):Int)-(r4.length:Int))-1)) <|
   bd (lp (SZ r4) ((((List.length (r6++[0,0]):Int)-(r4.length:Int))-1),(r6++[0,0]),(List.replicate (Int.toNat (((ax0.length:Int)-(r4.length:Int))+2)) 0)))<|fun(a9,l3) =>
   bd (HH l3) fun r15 =>
   bd (HH a9) fun r16 =>
   ck (Ay .i64 (-ac)) <|
   bd (Ob r16 (-ac)) fun r17 =>
   some (r15,r17)
   )
  )
def vzb(ax0:List Int):(Int×(List Int))->Option ((Int×(List Int))⊕(List Int)):=fun s=>match s with
 |(t8,l1) =>
  ite' (decide (t8<(ax0.length:Int))) (
   bd (at? ax0 t8) fun x1 =>
   ck (decide (List.length (l1++[(x1%256),((Int.fdiv x1 256)%256),((Int.fdiv x1 65536)%256),((Int.fdiv x1 16777216)%256)])*1<=140737488355328)) <|
   ck (Ay .i64 (t8+1)) <|
   some (.inl ((t8+1),(l1++[(x1%256),((Int.fdiv x1 256)%256),((Int.fdiv x1 65536)%256),((Int.fdiv x1 16777216)%256)])))
   ) (
   some (.inr l1)
   )
def Ln(ax0:List Int):Option ((List UInt8)) :=
 bd (lp (vzb ax0) (0,[]))<|fun l1 =>
 bd (Ij l1) fun r1 =>
 bd (Mj (CI r1)) fun r2 =>
 some r2
def Is(a0:List UInt8)(b1:List UInt8):Option ((List UInt8)) :=
 bd (HG a0) fun r1 =>
 bd (HG b1) fun r2 =>
 bd (PW r1 r2) fun r3 =>
 bd (Ln r3) fun r4 =>
 some r4
def Mm(a0:List UInt8)(b1:List UInt8):Option ((List UInt8)) :=
 bd (HG a0) fun r1 =>
 bd (HG b1) fun r2 =>
 bd (V4 r1 r2) fun r3 =>
 bd (Ln r3) fun r4 =>
 some r4
def Mn(a0:List UInt8)(b1:List UInt8):Option (Int) :=
 bd (HG a0) fun r1 =>
 bd (HG b1) fun r2 =>
 bd (Qd r1 r2) fun r3 =>
 some r3
def Mo(a0:List UInt8)(b1:List UInt8):Option ((List UInt8)×Int) :=
 bd (HG a0) fun r1 =>
 bd (HG b1) fun r2 =>
 bd (Qd r1 r2) fun r3 =>
 ite' (decide (r3<0)) (
  some ([],3)
  ) (
  bd (PX r1 r2) fun r4 =>
  bd (Ln r4) fun r5 =>
  some (r5,0)
  )
def Kr(ba:Bool)(bb:List UInt8)(b7:List UInt8):Option (Be) :=
 bd (DR bb) fun r1 =>
 ite' (decide (r1=[])) (
  some (Be.mk false [] [])
  ) (
  bd (Ml r1 b7) fun r2 =>
  bd (Kq r1 r2) fun r3 =>
  bd (Kq b7 r2) fun r4 =>
  some (Be.mk ba r3.Q r4.Q)
  )
def Ik:(List Int×List Int)->Option ((List Int×List Int)⊕List Int):=fun s=>match s with
 |(x,y)=>ite' (decide ((y.length:Int)=0)) (some (.inr x)) (bd (Oa x y) fun r=>some (.inl (y,r.2)))
def Il(a0:List UInt8)(b1:List UInt8):Option (List UInt8) :=
 bd (HG a0) fun x =>
 bd (HG b1) fun y =>
 bd (lp Ik (x,y)) fun r =>
 Ln r
def DQ(l0:List Ae)(ar1:Ae):Option ((List Ae)×Int) :=
 bd (DP l0) fun r1 =>
 ite' (!decide (r1=0)) (
  some ([],r1)
  ) (
  bd (F4 ar1) fun r2 =>
  ite' (!r2) (
   some ([],1)
   ) (
   bd (Im l0 ar1 (fun a0 a1=>Es a0 a1)) fun r3 =>
   ite' (bif (!r3.2) then(decide ((l0.length:Int)=4000)) else false) (
    some ([],2)
    ) (
    ite' (!r3.2) (
     none
     ) (
     bd (at? l0 r3.1) fun x1 =>
     bd (Io x1 ar1) fun r5 =>
     ite' (!r5) (
      some ([],24)
      ) (
      bd (at? l0 r3.1) fun x2 =>
      ite' (decide (x2.Known<=ar1.Known)) (
       some ([],9)
       ) (
       bd (SX l0) fun r6 =>
       bd (at? r6 r3.1) fun x3 =>
       some ((List.set r6 (Int.toNat r3.1) ar1),0)
       )
      )
     )
    )
   )
  )
def insL{α:Type}(l:List α)(k:Nat)(x:α):List α:=l.take k++[x]++l.drop k
def Pq(l0:List Ae)(r1:Ae):Option (List Ae×Int) :=
 bd (DP l0) fun e=>bd (F4 r1) fun b=>bd (Im l0 r1 (fun a0 a1=>Es a0 a1)) fun p =>
 ck (decide (e=0)&&b&&!p.2&&decide (0<=p.1)&&decide (Int.toNat p.1<=l0.length)&&decide (l0.length<4000)) (some (insL l0 (Int.toNat p.1) r1,0))
def BE(l0:List Ae)(r1:Ae):Option (List Ae×Int):=match DQ l0 r1 with
 |some y=>some y
 |none=>Pq l0 r1
def jzpo(a0:List Ae)(b1:List Ae):Int->Option (Int⊕(Unit⊕((List Ae)×Int))):=fun s=>match s with
 |t16 =>
  ite' (decide (t16<(List.length [a0,b1]:Int))) (
   bd (at? [a0,b1] t16) fun x1 =>
   bd (DP x1) fun r1 =>
   ite' (!decide (r1=0)) (
    some (.inr (.inr ([],r1)))
    ) (
    ck (Ay .i64 (t16+1)) <|
    some (.inl (t16+1))
    )
   ) (
   some (.inr (.inl ()))
   )
def jzow :((List Ae)×(List Ae)×(List Ae))->Option (((List Ae)×(List Ae)×(List Ae))⊕(((List Ae)×(List Ae)×(List Ae))⊕((List Ae)×Int))):=fun s=>match s with
 |(a0',b1',l2) =>
  ite' (bif (decide (0<(a0'.length:Int))) then(decide (0<(b1'.length:Int))) else false) (
   bd (at? a0' 0) fun x2 =>
   bd (at? b1' 0) fun x3 =>
   bd (Es x2 x3) fun r2 =>
   ite' (decide (r2<0)) (
    bd (at? a0' 0) fun x4 =>
    ck (decide (List.length (l2++[x4])*48<=140737488355328)) <|
    ck (Dm a0' 1 (a0'.length:Int)) <|
    some (.inl ((sub a0' 1 (a0'.length:Int)),b1',(l2++[x4])))
    ) (
    ite' (decide (0<r2)) (
     bd (at? b1' 0) fun x5 =>
     ck (decide (List.length (l2++[x5])*48<=140737488355328)) <|
     ck (Dm b1' 1 (b1'.length:Int)) <|
     some (.inl (a0',(sub b1' 1 (b1'.length:Int)),(l2++[x5])))
     ) (
     bd (at? a0' 0) fun x6 =>
     bd (at? b1' 0) fun x7 =>
     bd (Io x6 x7) fun r3 =>
     ite' (!r3) (
      some (.inr (.inr ([],24)))
      ) (
      bd (at? a0' 0) fun x8 =>
      bd (at? b1' 0) fun x9 =>
      ck (decide (List.length (l2++[(Ae.mk x8.Gauge x8.Seq x8.From x8.To x8.Stage (min x8.Known x9.Known))])*48<=140737488355328)) <|
      ck (Dm a0' 1 (a0'.length:Int)) <|
      ck (Dm b1' 1 (b1'.length:Int)) <|
      some (.inl ((sub a0' 1 (a0'.length:Int)),(sub b1' 1 (b1'.length:Int)),(l2++[(Ae.mk x8.Gauge x8.Seq x8.From x8.To x8.Stage (min x8.Known x9.Known))])))
      )
     )
    )
   ) (
   some (.inr (.inl (a0',b1',l2)))
   )
def V5(a0:List Ae)(b1:List Ae):Option ((List Ae)×Int) :=
 bd (lp (jzpo a0 b1) 0)<|fun o=>match o with
 | .inl ()=>(
   bd (lp (jzow) (a0,b1,[]))<|fun o=>match o with
   | .inl (a0',b1',l2)=>(
     ck (decide (List.length (l2++a0')*48<=140737488355328)) <|
     ck (decide (List.length ((l2++a0')++b1')*48<=140737488355328)) <|
     ite' (decide (4000<(List.length ((l2++a0')++b1'):Int))) (
      some ([],2)
      ) (
      some (((l2++a0')++b1'),0)
      )
    )
   | .inr o=>(
     some o
    )
  )
 | .inr o=>(
   some o
  )
def jzrk(az:Int)(l0:List Ae):(Int×(List (Int×Bool)))->Option ((Int×(List (Int×Bool)))⊕(List (Int×Bool))):=fun s=>match s with
 |(t18,m0) =>
  ite' (decide (t18<(l0.length:Int))) (
   bd (at? l0 t18) fun x1 =>
   ite' (decide (x1.Gauge=az)) (
    ck (Ay .i64 (t18+1)) <|
    some (.inl ((t18+1),(mput keqI m0 x1.Known true)))
    ) (
    ck (Ay .i64 (t18+1)) <|
    some (.inl ((t18+1),m0))
    )
   ) (
   some (.inr m0)
   )
def V6(l0:List Ae)(az:Int):Option ((List Int)×Int) :=
 bd (DP l0) fun r1 =>
 ite' (!decide (r1=0)) (
  some ([],r1)
  ) (
  bd (lp (jzrk az l0) (0,([]:List (Int×Bool))))<|fun m0 =>
  bd (D0 m0) fun r2 =>
  some (r2,0)
  )
def Mp(a0:Be):Option (Bool) :=
 ite' (bif (decide (a0.Num=[])) then true else(decide (a0.Den=[]))) (
  some ((a0.Neg==false)&&(decide (a0.Num=[])&&(decide (a0.Den=[])&&true)))
  ) (
  bd (Mf a0.Num) fun r1 =>
  bd (Mf a0.Den) fun r2 =>
  bd (gd (bif r1 then r2 else false) (Ml a0.Num a0.Den)) fun r3 =>
  some (bif (bif r1 then r2 else false) then(decide (r3=[1])) else false)
  )
def yzs(a0:Be):Option (Bool) :=
 ite' ((a0.Neg==false)&&(decide (a0.Num=[])&&(decide (a0.Den=[])&&true))) (
  some true
  ) (
  bd (gd (bif (!decide (a0.Num=[])) then(!decide (a0.Den=[])) else false) (Ki a0.Num)) fun r1 =>
  bd (gd (bif (bif (!decide (a0.Num=[])) then(!decide (a0.Den=[])) else false) then r1 else false) (Ki a0.Den)) fun r2 =>
  bd (gd (bif (bif (bif (!decide (a0.Num=[])) then(!decide (a0.Den=[])) else false) then r1 else false) then r2 else false) (Il a0.Num a0.Den)) fun r3 =>
  some (bif (bif (bif (bif (!decide (a0.Num=[])) then(!decide (a0.Den=[])) else false) then r1 else false) then r2 else false) then(decide (r3=[1])) else false)
  )
def V7(a0:Be):Option (Ct) :=
 bd (gd (!(decide (a0.Num=[]))) (yzs a0)) fun r1 =>
 ite' (bif (decide (a0.Num=[])) then true else(!r1)) (
  some (Ct.mk false [] [1])
  ) (
  some (Ct.mk a0.Neg a0.Num a0.Den)
  )
def YG(f0:Ct)(g1:Ct):Option (Ct) :=
 bd (Is f0.num g1.den) fun r1 =>
 bd (Is g1.num f0.den) fun r2 =>
 bd (Is f0.den g1.den) fun r3 =>
 ite' (f0.neg==g1.neg) (
  bd (Mm r1 r2) fun r4 =>
  some (Ct.mk f0.neg r4 r3)
  ) (
  bd (Mn r1 r2) fun r5 =>
  bd (α:=(List UInt8)×(List UInt8)×Ct) (
   ite' (decide (r5<0)) (
    some (r2,r1,(Ct.mk g1.neg f0.num f0.den))
    ) (
    some (r1,r2,f0)
    )
  )<|fun(a5,b6,b0) =>
   bd (Mo a5 b6) fun r6 =>
   some (Ct.mk b0.neg r6.1 r3)
  )
def Ks(a0:Be):Option (Be) :=
 bd (Mp a0) fun r1 =>
 ite' r1 (
  some a0
  ) (
  some (Be.mk false [] [])
  )
def Qf(a0:Be):Option (Bool) :=
 bd (yzs a0) fun r1 =>
 some (bif r1 then(!a0.Neg) else false)
def YH(f0:Ct)(g1:Ct):Option (Ct) :=
 bd (YG f0 (Ct.mk (!g1.neg) g1.num g1.den)) fun r1 =>
 some r1
def Qg(a0:Be)(b1:Be):Option (Be) :=
 bd (Ks a0) fun r1 =>
 bd (Ks b1) fun r2 =>
 bd (Md r1) fun r3 =>
 bd (Md r2) fun r4 =>
 bd (Kp r3.1 r4.2) fun r5 =>
 bd (Kp r4.1 r3.2) fun r6 =>
 bd (Kp r3.2 r4.2) fun r7 =>
 ite' (r1.Neg==r2.Neg) (
  bd (PU r5 r6) fun r8 =>
  bd (Kr r1.Neg r8 r7) fun r9 =>
  some r9
  ) (
  bd (Kj r5 r6) fun r10 =>
  ite' (decide (0<=r10)) (
   bd (Ko r5 r6) fun r11 =>
   bd (Kr r1.Neg r11.S r7) fun r12 =>
   some r12
   ) (
   bd (Ko r6 r5) fun r13 =>
   bd (Kr r2.Neg r13.S r7) fun r14 =>
   some r14
   )
  )
def Qh(a0:Be):Option (Be) :=
 bd (Ks a0) fun r1 =>
 ite' (!decide (r1.Num=[])) (
  some (Be.mk (!r1.Neg) r1.Num r1.Den)
  ) (
  some r1
  )
def YI(a0:Be)(b1:Be):Option (Int) :=
 bd (V7 a0) fun r1 =>
 bd (V7 b1) fun r2 =>
 bd (YH r1 r2) fun r3 =>
 ite' (decide (r3.num=[])) (
  some 0
  ) (
  ite' r3.neg (
   some (-1)
   ) (
   some 1
   )
  )
def Qi(a0:Be)(b1:Be):Option (Be) :=
 bd (Qh b1) fun r1 =>
 bd (Qg a0 r1) fun r2 =>
 some r2
def Qj(ac0:AP):Int->Option (Int⊕(Unit⊕Int)):=fun s=>match s with
 |t18 =>
  ite' (decide (t18<(ac0.Points.length:Int))) (
   bd (at? ac0.Points t18) fun x1 =>
   bd (PC x1.Stage) fun r1 =>
   ite' (!r1) (
    some (.inr (.inr 3))
    ) (
    bd (Qf x1.Flow) fun r2 =>
    ite' (!r2) (
     some (.inr (.inr 1))
     ) (
     ck (!(decide (0<t18))||Ay .i64 (t18-1)) <|
     bd (gd (decide (0<t18)) (at? ac0.Points (t18-1))) fun x2 =>
     ck (!((decide (0<t18))&&(!(decide (x1.Stage<=x2.Stage))))||Ay .i64 (t18-1)) <|
     bd (gd ((decide (0<t18))&&(!(decide (x1.Stage<=x2.Stage)))) (at? ac0.Points (t18-1))) fun x3 =>
     bd (gd ((decide (0<t18))&&(!(decide (x1.Stage<=x2.Stage)))) (YI x1.Flow x3.Flow)) fun r3 =>
     ite' (bif (decide (0<t18)) then(bif (decide (x1.Stage<=x2.Stage)) then true else(decide (r3<0))) else false) (
      some (.inr (.inr 1))
      ) (
      ck (Ay .i64 (t18+1)) <|
      some (.inl (t18+1))
      )
     )
    )
   ) (
   some (.inr (.inl ()))
   )
def Mq(ac0:AP):Option (Int) :=
 ite' (bif (decide ((ac0.Points.length:Int)<1)) then true else(decide (16<(ac0.Points.length:Int)))) (
  some 2
  ) (
  bd (lp (Qj ac0) 0)<|fun o=>match o with
  | .inl ()=>(
    some 0
   )
  | .inr o=>(
    some o
   )
  )
def Ql(a0:Be)(b1:Be):Option (Int) :=
 bd (Qi a0 b1) fun r1 =>
 ite' (decide (r1.Num=[])) (
  some 0
  ) (
  ite' r1.Neg (
   some (-1)
   ) (
   some 1
   )
  )
def Hb(v0:Ai):Option (Bool) :=
 ite' (bif (bif (bif (bif (bif (bif (bif (bif (decide (v0.Gauge<0)) then true else(decide (40<=v0.Gauge))) then true else(decide (v0.Seq<0))) then true else(decide (1099511627776<v0.Seq))) then true else(decide (v0.Known<0))) then true else(decide (14609<v0.Known))) then true else(decide (v0.From<0))) then true else(decide (v0.To<=v0.From))) then true else(decide (1402560<v0.To))) (
  some false
  ) (
  ite' (decide (v0.Kind=1)) (
   bd (gd (decide (v0.Shift=0)) (Mq v0.Curve)) fun r1 =>
   some (bif (decide (v0.Shift=0)) then(decide (r1=0)) else false)
   ) (
   ck (!(bif (Option.isSome (mget keqI (mput keqI (mput keqI ([]:List (Int×Int)) 2 1000) 3 960) v0.Kind)) then(decide ((v0.Curve.Points.length:Int)=0)) else false)||Ay .i64 (-(Option.getD (mget keqI (mput keqI (mput keqI ([]:List (Int×Int)) 2 1000) 3 960) v0.Kind) 0))) <|
   some (bif (bif (bif (Option.isSome (mget keqI (mput keqI (mput keqI ([]:List (Int×Int)) 2 1000) 3 960) v0.Kind)) then(decide ((v0.Curve.Points.length:Int)=0)) else false) then(decide ((-(Option.getD (mget keqI (mput keqI (mput keqI ([]:List (Int×Int)) 2 1000) 3 960) v0.Kind) 0))<=v0.Shift)) else false) then(decide (v0.Shift<=(Option.getD (mget keqI (mput keqI (mput keqI ([]:List (Int×Int)) 2 1000) 3 960) v0.Kind) 0))) else false)
   )
  )
def Qm(ac0:AP):Int->Option (Int⊕(Unit⊕Int)):=fun s=>match s with
 |k3 =>
  ite' (decide (k3<(ac0.Points.length:Int))) (
   bd (at? ac0.Points k3) fun x1 =>
   ite' (bif (decide (x1.Stage<(-1000))) then true else(decide (2000<x1.Stage))) (
    some (.inr (.inr 3))
    ) (
    bd (Mp x1.Flow) fun r1 =>
    ite' (bif (!r1) then true else x1.Flow.Neg) (
     some (.inr (.inr 1))
     ) (
     ck (!(decide (0<k3))||Ay .i64 (k3-1)) <|
     bd (gd (decide (0<k3)) (at? ac0.Points (k3-1))) fun x2 =>
     ite' (bif (decide (0<k3)) then(decide (x1.Stage<=x2.Stage)) else false) (
      some (.inr (.inr 1))
      ) (
      ck (!(decide (0<k3))||Ay .i64 (k3-1)) <|
      bd (gd (decide (0<k3)) (at? ac0.Points (k3-1))) fun x3 =>
      bd (gd (decide (0<k3)) (Ql x1.Flow x3.Flow)) fun r2 =>
      ite' (bif (decide (0<k3)) then(decide (r2<0)) else false) (
       some (.inr (.inr 1))
       ) (
       ck (Ay .i64 (k3+1)) <|
       some (.inl (k3+1))
       )
      )
     )
    )
   ) (
   some (.inr (.inl ()))
   )
def Qn(ac0:AP):Option (Int) :=
 ite' (bif (decide ((ac0.Points.length:Int)<1)) then true else(decide (16<(ac0.Points.length:Int)))) (
  some 2
  ) (
  bd (lp (Qm ac0) 0)<|fun o=>match o with
  | .inl ()=>(
    some 0
   )
  | .inr o=>(
    some o
   )
  )
def Qo(l0:List Ai):Int->Option (Int⊕(Unit⊕Int)):=fun s=>match s with
 |t10 =>
  ite' (decide (t10<(l0.length:Int))) (
   bd (at? l0 t10) fun x1 =>
   bd (Hb x1) fun r1 =>
   ck (!((!(!r1))&&(decide (0<t10)))||Ay .i64 (t10-1)) <|
   bd (gd ((!(!r1))&&(decide (0<t10))) (at? l0 (t10-1))) fun x2 =>
   bd (gd ((!(!r1))&&(decide (0<t10))) (EF x2 x1)) fun r2 =>
   ite' (bif (!r1) then true else(bif (decide (0<t10)) then(decide (0<=r2)) else false)) (
    some (.inr (.inr 1))
    ) (
    ck (Ay .i64 (t10+1)) <|
    some (.inl (t10+1))
    )
   ) (
   some (.inr (.inl ()))
   )
def Et(l0:List Ai):Option (Int) :=
 ite' (decide (400<(l0.length:Int))) (
  some 2
  ) (
  bd (lp (Qo l0) 0)<|fun o=>match o with
  | .inl ()=>(
    some 0
   )
  | .inr o=>(
    some o
   )
  )
def Mr(v0:Ai):Option (Bool) :=
 ite' (bif (bif (bif (bif (bif (bif (bif (bif (decide (v0.Gauge<0)) then true else(decide (39<v0.Gauge))) then true else(decide (v0.Seq<0))) then true else(decide (1099511627776<v0.Seq))) then true else(decide (v0.Known<0))) then true else(decide (14609<v0.Known))) then true else(decide (v0.From<0))) then true else(decide (v0.To<=v0.From))) then true else(decide (1402560<v0.To))) (
  some false
  ) (
  ite' (decide (v0.Kind=1)) (
   bd (gd (decide (v0.Shift=0)) (Qn v0.Curve)) fun r1 =>
   some (bif (decide (v0.Shift=0)) then(decide (r1=0)) else false)
   ) (
   ite' (decide (v0.Kind=2)) (
    some (bif (bif (decide ((v0.Curve.Points.length:Int)=0)) then(decide ((-1000)<=v0.Shift)) else false) then(decide (v0.Shift<=1000)) else false)
    ) (
    ite' (decide (v0.Kind=3)) (
     some (bif (bif (decide ((v0.Curve.Points.length:Int)=0)) then(decide ((-960)<=v0.Shift)) else false) then(decide (v0.Shift<=960)) else false)
     ) (
     some false
     )
    )
   )
  )
def Qp(l0:List Ai)(ag:Int)(a3:Int)(ah:Int)(a4:Int):Option (Int×Int) :=
 bd (Et l0) fun r1 =>
 ite' (!decide (r1=0)) (
  some (0,r1)
  ) (
  ite' (bif (!decide (ag=2)) then(!decide (ag=3)) else false) (
   some (0,1)
   ) (
   bd (PB ah a4) fun r2 =>
   ite' (!decide (r2=0)) (
    some (0,r2)
    ) (
    bd (PO l0 ag a3 ah a4) fun r3 =>
    some (r3,0)
    )
   )
  )
def CZ(l0:List Ai)(v1:Ai):Option ((List Ai)×Int) :=
 bd (Et l0) fun r1 =>
 ite' (!decide (r1=0)) (
  some ([],r1)
  ) (
  bd (Hb v1) fun r2 =>
  ite' (!r2) (
   some ([],1)
   ) (
   bd (In l0 v1 (fun a0 a1=>EF a0 a1)) fun r3 =>
   ite' r3.2 (
    bd (at? l0 r3.1) fun x1 =>
    bd (Mi x1 v1) fun r4 =>
    ite' r4 (
     some ([],9)
     ) (
     some ([],24)
     )
    ) (
    ite' (decide (400<=(l0.length:Int))) (
     some ([],2)
     ) (
     none
     )
    )
   )
  )
def Ps(l0:List Ai)(v1:Ai):Option (List Ai×Int) :=
 bd (Et l0) fun e=>bd (Hb v1) fun b=>bd (In l0 v1 (fun a0 a1=>EF a0 a1)) fun p =>
 ck (decide (e=0)&&b&&!p.2&&decide (0<=p.1)&&decide (Int.toNat p.1<=l0.length)&&decide (l0.length<400)) (some (insL l0 (Int.toNat p.1) v1,0))
def CY(l0:List Ai)(v1:Ai):Option (List Ai×Int):=match CZ l0 v1 with
 |some y=>some y
 |none=>Ps l0 v1
def Qq(l0:List Ai):Int->Option (Int⊕(Unit⊕Int)):=fun s=>match s with
 |k3 =>
  ite' (decide (k3<(l0.length:Int))) (
   bd (at? l0 k3) fun x1 =>
   bd (Mr x1) fun r1 =>
   ck (!(!(decide (k3=0)))||Ay .i64 (k3-1)) <|
   bd (gd (!(decide (k3=0))) (at? l0 (k3-1))) fun x2 =>
   bd (gd (!(decide (k3=0))) (at? l0 k3)) fun x3 =>
   bd (gd (!(decide (k3=0))) (Kh x2 x3)) fun r2 =>
   ite' (bif (!r1) then true else(!(bif (decide (k3=0)) then true else r2))) (
    some (.inr (.inr 1))
    ) (
    ck (Ay .i64 (k3+1)) <|
    some (.inl (k3+1))
    )
   ) (
   some (.inr (.inl ()))
   )
def Qr(l0:List Ai):Option (Int) :=
 ite' (decide (400<(l0.length:Int))) (
  some 2
  ) (
  bd (lp (Qq l0) 0)<|fun o=>match o with
  | .inl ()=>(
    some 0
   )
  | .inr o=>(
    some o
   )
  )
def It(ar0:Ae)(vs1:List Ai)(au:Int):Option (At) :=
 bd (Qp vs1 3 ar0.Gauge ar0.From au) fun r1 =>
 ck (Ay .i64 (ar0.From+r1.1)) <|
 ck (Ay .i64 (ar0.To+r1.1)) <|
 ite' (decide ((min 1402560 (ar0.To+r1.1))<=(max 0 (ar0.From+r1.1)))) (
  some (At.mk 0 0)
  ) (
  some (At.mk (max 0 (ar0.From+r1.1)) (min 1402560 (ar0.To+r1.1)))
  )
def Qs(l0:List Ai)(v1:Ai):Int->Option (Int⊕(Unit⊕Bz)):=fun s=>match s with
 |k7 =>
  ite' (decide (k7<(l0.length:Int))) (
   bd (at? l0 k7) fun x1 =>
   bd (gd (decide (x1.Gauge=v1.Gauge)) (at? l0 k7)) fun x2 =>
   ite' (bif (decide (x1.Gauge=v1.Gauge)) then(decide (x2.Seq=v1.Seq)) else false) (
    bd (at? l0 k7) fun x3 =>
    bd (PM x3 v1) fun r3 =>
    ite' r3 (
     some (.inr (.inr (Bz.mk [] 9)))
     ) (
     some (.inr (.inr (Bz.mk [] 24)))
     )
    ) (
    ck (Ay .i64 (k7+1)) <|
    some (.inl (k7+1))
    )
   ) (
   some (.inr (.inl ()))
   )
def V8(l0:List Ai)(v1:Ai):Option (Bz) :=
 bd (Qr l0) fun r1 =>
 ite' (!decide (r1=0)) (
  some (Bz.mk [] r1)
  ) (
  bd (Mr v1) fun r2 =>
  ite' (!r2) (
   some (Bz.mk [] 1)
   ) (
   bd (lp (Qs l0 v1) 0)<|fun o=>match o with
   | .inl ()=>(
     ite' (decide (400<=(l0.length:Int))) (
      some (Bz.mk [] 2)
      ) (
      bd (P8 l0 v1) fun r4 =>
      some (Bz.mk r4 0)
      )
    )
   | .inr o=>(
     some o
    )
   )
  )
def V9(ar0:Ae)(vs1:List Ai)(au:Int):Option (At×Int) :=
 bd (F4 ar0) fun r1 =>
 ite' (!r1) (
  some ((At.mk 0 0),1)
  ) (
  bd (Et vs1) fun r2 =>
  ite' (!decide (r2=0)) (
   some ((At.mk 0 0),r2)
   ) (
   bd (Ge au) fun r3 =>
   ite' (!r3) (
    some ((At.mk 0 0),3)
    ) (
    bd (It ar0 vs1 au) fun r4 =>
    some (r4,0)
    )
   )
  )
def F6(a3:Int)(a4:Int)(l0:List Ae)(t3:At)(vs1:List Ai):(Int×(List (Int×Bool))×(List AT))->Option ((Int×(List (Int×Bool))×(List AT))⊕((List (Int×Bool))×(List AT))):=fun s=>match s with
 |(t34,m1,l5) =>
  ite' (decide (t34<(l0.length:Int))) (
   bd (at? l0 t34) fun x1 =>
   bd (α:=Unit⊕Unit) (
    ite' (bif (!decide (x1.Gauge=a3)) then true else(decide (a4<x1.Known))) (
     some (.inr ())
     ) (
     some (.inl ())
     )
   )<|fun o=>match o with
    | .inl ()=>(
      bd (It x1 vs1 a4) fun r1 =>
      ite' (decide ((max r1.From t3.From)<(min r1.To t3.To))) (
       ck (decide (List.length (l5++[(AT.mk (At.mk (max r1.From t3.From) (min r1.To t3.To)) x1.Stage)])*24<=140737488355328)) <|
       ck (Ay .i64 (t34+1)) <|
       some (.inl ((t34+1),(mput keqI (mput keqI m1 (max r1.From t3.From) true) (min r1.To t3.To) true),(l5++[(AT.mk (At.mk (max r1.From t3.From) (min r1.To t3.To)) x1.Stage)])))
       ) (
       ck (Ay .i64 (t34+1)) <|
       some (.inl ((t34+1),m1,l5))
       )
     )
    | .inr ()=>(
      ck (Ay .i64 (t34+1)) <|
      some (.inl ((t34+1),m1,l5))
     )
   ) (
   some (.inr (m1,l5))
   )
def Iu(r2:(List Int)):(Int×(List Int))->Option ((Int×(List Int))⊕(List Int)):=fun s=>match s with
 |(t90,l7) =>
  ite' (decide (t90<(List.length (List.replicate (Int.toNat (r2.length:Int)) (0:Int)):Int))) (
   bd (at? l7 t90) fun x2 =>
   ck (Ay .i64 (t90+1)) <|
   some (.inl ((t90+1),(List.set l7 (Int.toNat t90) (-1))))
   ) (
   some (.inr l7)
   )
def Qt(r4:Int×Bool)(x3:AT):(Int×(List Int))->Option ((Int×(List Int))⊕(List Int)):=fun s=>match s with
 |(k25,l7'') =>
  ite' (decide (k25<r4.1)) (
   bd (at? l7'' k25) fun x4 =>
   ck (Ay .i64 (k25+1)) <|
   some (.inl ((k25+1),(List.set l7'' (Int.toNat k25) x3.stage)))
   ) (
   some (.inr l7'')
   )
def Ms(l5:List AT)(r2:(List Int)):(Int×(List Int))->Option ((Int×(List Int))⊕(List Int)):=fun s=>match s with
 |(t99,l7') =>
  ite' (decide (t99<(l5.length:Int))) (
   bd (at? l5 t99) fun x3 =>
   bd (Km r2 x3.t.From) fun r3 =>
   bd (Km r2 x3.t.To) fun r4 =>
   bd (lp (Qt r4 x3) (r3.1,l7'))<|fun l7'' =>
   ck (Ay .i64 (t99+1)) <|
   some (.inl ((t99+1),l7''))
   ) (
   some (.inr l7')
   )
def Ev(l0:List Ae)(vs1:List Ai)(a3:Int)(t3:At)(a4:Int):Option ((List Int)×(List Int)) :=
 bd (lp (F6 a3 a4 l0 t3 vs1) (0,(mput keqI (mput keqI ([]:List (Int×Bool)) t3.From true) t3.To true),[]))<|fun(m1,l5) =>
 bd (D0 m1) fun r2 =>
 ck (mkOk (r2.length:Int) 8) <|
 bd (lp (Iu r2) (0,(List.replicate (Int.toNat (r2.length:Int)) 0)))<|fun l7 =>
 bd (lp (Ms l5 r2) (0,l7))<|fun l7' =>
 some (r2,l7')
def Hh :Az->(List AI)->Option ((List AI)⊕Unit):=fun x s=>match s with
 |l7 =>
  ite' (decide (0<=x.stage)) (
   ck (Ay .i64 (x.t.To-x.t.From)) <|
   ck (decide (List.length (l7++[(AI.mk x.t.From x.t.To [(Bn.mk x.stage (x.t.To-x.t.From))] 0 0)])*56<=140737488355328)) <|
   some (.inl (l7++[(AI.mk x.t.From x.t.To [(Bn.mk x.stage (x.t.To-x.t.From))] 0 0)]))
   ) (
   ck (decide (List.length (l7++[(AI.mk x.t.From x.t.To [] 0 1000)])*56<=140737488355328)) <|
   some (.inl (l7++[(AI.mk x.t.From x.t.To [] 0 1000)]))
   )
def CJ(l0:List Ae)(vs1:List Ai)(a3:Int)(t3:At)(a4:Int):Option ((List AI)×Int) :=
 bd (DP l0) fun r1 =>
 bd (Et vs1) fun r2 =>
 bd (Iq [r1,r2]) fun r3 =>
 ite' (!decide (r3=0)) (
  some ([],r3)
  ) (
  bd (gd (!(bif (bif (bif (bif (decide (a3<0)) then true else(decide (40<=a3))) then true else(decide (t3.From<0))) then true else(decide (t3.To<t3.From))) then true else(decide (1402560<t3.To)))) (Ge a4)) fun r4 =>
  ite' (bif (bif (bif (bif (bif (decide (a3<0)) then true else(decide (40<=a3))) then true else(decide (t3.From<0))) then true else(decide (t3.To<t3.From))) then true else(decide (1402560<t3.To))) then true else(!r4)) (
   some ([],3)
   ) (
   bd (Ev l0 vs1 a3 t3 a4) fun c1 =>
   bd (D1 c1.1 c1.2 (fun l=>Gg Hh l [])) fun l =>
   bd (C0 Hh l []) fun o=>match o with
   | .inl l7=>(
     ite' (decide (2000<(l7.length:Int))) (
      some ([],2)
      ) (
      some (l7,0)
      )
    )
   |.inr _=>none
   )
  )
def Kt(l0:List Ae)(vs1:List Ai)(ar2:Ae)(ak:Int):Option ((List At)×Int) :=
 bd (DP l0) fun r1 =>
 bd (Et vs1) fun r2 =>
 bd (Iq [r1,r2]) fun r3 =>
 ite' (!decide (r3=0)) (
  some ([],r3)
  ) (
  bd (BE l0 ar2) fun r4 =>
  ite' (!decide (r4.2=0)) (
   some ([],r4.2)
   ) (
   bd (Ge ak) fun r5 =>
   ite' (!r5) (
    some ([],3)
    ) (
    bd (Hf ) fun r6 =>
    bd (Ev l0 vs1 ar2.Gauge r6 ak) fun c1 =>
    bd (Hf ) fun r7 =>
    bd (Ev r4.1 vs1 ar2.Gauge r7 ak) fun c2 =>
    bd (Kg (D1 c1.1 c1.2) (D1 c2.1 c2.2)) fun r8 =>
    some (r8,0)
    )
   )
  )
def Ku(l0:List Ae)(vs1:List Ai)(v2:Ai)(ak:Int):Option ((List At)×Int) :=
 bd (DP l0) fun r1 =>
 bd (Et vs1) fun r2 =>
 bd (Iq [r1,r2]) fun r3 =>
 ite' (!decide (r3=0)) (
  some ([],r3)
  ) (
  bd (CY vs1 v2) fun r4 =>
  ite' (!decide (r4.2=0)) (
   some ([],r4.2)
   ) (
   bd (Ge ak) fun r5 =>
   ite' (!r5) (
    some ([],3)
    ) (
    bd (Hf ) fun r6 =>
    bd (Ev l0 vs1 v2.Gauge r6 ak) fun c1 =>
    bd (Hf ) fun r7 =>
    bd (Ev l0 r4.1 v2.Gauge r7 ak) fun c2 =>
    bd (Kg (D1 c1.1 c1.2) (D1 c2.1 c2.2)) fun r8 =>
    some (r8,0)
    )
   )
  )
def Kv :Option (Bool) :=
 bd (V0 ) fun r1 =>
 bd (Eu 95 125) fun r2 =>
 bd (CJ r1.1 [r1.2] 3 r2 1) fun r3 =>
 bd (Eu 95 125) fun r4 =>
 bd (CJ r1.1 [r1.2] 3 r4 2) fun r5 =>
 bd (Eu 95 125) fun r6 =>
 bd (CJ r1.1 [r1.2] 3 r6 3) fun r7 =>
 bd (at? r1.1 0) fun x1 =>
 bd (at? r1.1 0) fun x2 =>
 bd (at? r1.1 2) fun x3 =>
 bd (BE r1.1 x1) fun r8 =>
 bd (BE r1.1 (Ae.mk x2.Gauge x2.Seq x2.From x2.To 51 x2.Known)) fun r9 =>
 bd (BE r1.1 (Ae.mk x3.Gauge x3.Seq x3.From x3.To x3.Stage 0)) fun r10 =>
 bd (Kt r1.1 [] (Ae.mk 3 3 112 125 60 2) 2) fun r11 =>
 bd (Ku r1.1 [] r1.2 3) fun r12 =>
 bd (V6 r1.1 3) fun r13 =>
 bd (at? r1.1 1) fun x4 =>
 bd (V9 x4 [r1.2] 3) fun r14 =>
 ck (Dm r1.1 0 2) <|
 ck (Dm r1.1 1 (r1.1.length:Int)) <|
 bd (V5 (sub r1.1 0 2) (sub r1.1 1 (r1.1.length:Int))) fun r15 =>
 bd (gd (!(bif (!(bif (bif (bif (bif (bif (bif (bif (bif (bif (bif (decide (r3.2=0)) then(decide (r5.2=0)) else false) then(decide (r7.2=0)) else false) then(decide (r8.2=9)) else false) then(decide (r9.2=24)) else false) then(decide (r10.2=0)) else false) then(decide (r11.2=0)) else false) then(decide (r12.2=0)) else false) then(decide (r13.2=0)) else false) then(decide (r14.2=0)) else false) then(decide (r15.2=0)) else false)) then true else(!decide ((r10.1.length:Int)=3)))) (at? r10.1 2)) fun x5 =>
 bd (gd (!(bif (bif (!(bif (bif (bif (bif (bif (bif (bif (bif (bif (bif (decide (r3.2=0)) then(decide (r5.2=0)) else false) then(decide (r7.2=0)) else false) then(decide (r8.2=9)) else false) then(decide (r9.2=24)) else false) then(decide (r10.2=0)) else false) then(decide (r11.2=0)) else false) then(decide (r12.2=0)) else false) then(decide (r13.2=0)) else false) then(decide (r14.2=0)) else false) then(decide (r15.2=0)) else false)) then true else(!decide ((r10.1.length:Int)=3))) then true else(!(decide (x5.Gauge=x3.Gauge)&&(decide (x5.Seq=x3.Seq)&&(decide (x5.From=x3.From)&&(decide (x5.To=x3.To)&&(decide (x5.Stage=x3.Stage)&&(decide (x5.Known=0)&&true))))))))) (DP r1.1)) fun r16 =>
 bd (gd (!(bif (bif (bif (!(bif (bif (bif (bif (bif (bif (bif (bif (bif (bif (decide (r3.2=0)) then(decide (r5.2=0)) else false) then(decide (r7.2=0)) else false) then(decide (r8.2=9)) else false) then(decide (r9.2=24)) else false) then(decide (r10.2=0)) else false) then(decide (r11.2=0)) else false) then(decide (r12.2=0)) else false) then(decide (r13.2=0)) else false) then(decide (r14.2=0)) else false) then(decide (r15.2=0)) else false)) then true else(!decide ((r10.1.length:Int)=3))) then true else(!(decide (x5.Gauge=x3.Gauge)&&(decide (x5.Seq=x3.Seq)&&(decide (x5.From=x3.From)&&(decide (x5.To=x3.To)&&(decide (x5.Stage=x3.Stage)&&(decide (x5.Known=0)&&true)))))))) then true else(!decide (r16=0)))) (at? r1.1 0)) fun x6 =>
 bd (gd (!(bif (bif (bif (!(bif (bif (bif (bif (bif (bif (bif (bif (bif (bif (decide (r3.2=0)) then(decide (r5.2=0)) else false) then(decide (r7.2=0)) else false) then(decide (r8.2=9)) else false) then(decide (r9.2=24)) else false) then(decide (r10.2=0)) else false) then(decide (r11.2=0)) else false) then(decide (r12.2=0)) else false) then(decide (r13.2=0)) else false) then(decide (r14.2=0)) else false) then(decide (r15.2=0)) else false)) then true else(!decide ((r10.1.length:Int)=3))) then true else(!(decide (x5.Gauge=x3.Gauge)&&(decide (x5.Seq=x3.Seq)&&(decide (x5.From=x3.From)&&(decide (x5.To=x3.To)&&(decide (x5.Stage=x3.Stage)&&(decide (x5.Known=0)&&true)))))))) then true else(!decide (r16=0)))) (F4 x6)) fun r17 =>
 bd (gd (!(bif (bif (bif (bif (!(bif (bif (bif (bif (bif (bif (bif (bif (bif (bif (decide (r3.2=0)) then(decide (r5.2=0)) else false) then(decide (r7.2=0)) else false) then(decide (r8.2=9)) else false) then(decide (r9.2=24)) else false) then(decide (r10.2=0)) else false) then(decide (r11.2=0)) else false) then(decide (r12.2=0)) else false) then(decide (r13.2=0)) else false) then(decide (r14.2=0)) else false) then(decide (r15.2=0)) else false)) then true else(!decide ((r10.1.length:Int)=3))) then true else(!(decide (x5.Gauge=x3.Gauge)&&(decide (x5.Seq=x3.Seq)&&(decide (x5.From=x3.From)&&(decide (x5.To=x3.To)&&(decide (x5.Stage=x3.Stage)&&(decide (x5.Known=0)&&true)))))))) then true else(!decide (r16=0))) then true else(!r17))) (Vy r15.1 r1.1)) fun r18 =>
 ite' (bif (bif (bif (bif (bif (!(bif (bif (bif (bif (bif (bif (bif (bif (bif (bif (decide (r3.2=0)) then(decide (r5.2=0)) else false) then(decide (r7.2=0)) else false) then(decide (r8.2=9)) else false) then(decide (r9.2=24)) else false) then(decide (r10.2=0)) else false) then(decide (r11.2=0)) else false) then(decide (r12.2=0)) else false) then(decide (r13.2=0)) else false) then(decide (r14.2=0)) else false) then(decide (r15.2=0)) else false)) then true else(!decide ((r10.1.length:Int)=3))) then true else(!(decide (x5.Gauge=x3.Gauge)&&(decide (x5.Seq=x3.Seq)&&(decide (x5.From=x3.From)&&(decide (x5.To=x3.To)&&(decide (x5.Stage=x3.Stage)&&(decide (x5.Known=0)&&true)))))))) then true else(!decide (r16=0))) then true else(!r17)) then true else(!r18)) (
  some false
  ) (
  bd (He 95 100) fun r19 =>
  bd (Gc 100 120 50) fun r20 =>
  bd (He 120 125) fun r21 =>
  bd (Me r3.1 [r19,r20,r21]) fun r22 =>
  bd (He 95 100) fun r23 =>
  bd (Gc 100 110 50) fun r24 =>
  bd (Gc 110 114 60) fun r25 =>
  bd (Gc 114 120 50) fun r26 =>
  bd (He 120 125) fun r27 =>
  bd (Me r5.1 [r23,r24,r25,r26,r27]) fun r28 =>
  bd (He 95 100) fun r29 =>
  bd (Gc 100 106 50) fun r30 =>
  bd (Gc 106 110 60) fun r31 =>
  bd (Gc 110 120 50) fun r32 =>
  bd (He 120 125) fun r33 =>
  bd (Me r7.1 [r29,r30,r31,r32,r33]) fun r34 =>
  bd (Eu 114 125) fun r35 =>
  bd (Pt r11.1 [r35]) fun r36 =>
  bd (gd r36 (Eu 106 114)) fun r37 =>
  bd (gd r36 (Eu 126 130)) fun r38 =>
  bd (gd r36 (Eu 136 140)) fun r39 =>
  bd (gd r36 (Pt r12.1 [r37,r38,r39])) fun r40 =>
  bd (gd (bif (bif (bif r22 then r28 else false) then r34 else false) then(bif r36 then r40 else false) else false) (Vz r13.1 [0,1,2])) fun r41 =>
  bd (gd (bif (bif (bif (bif r22 then r28 else false) then r34 else false) then(bif r36 then r40 else false) else false) then r41 else false) (Eu 106 110)) fun r42 =>
  some (bif (bif (bif (bif (bif r22 then r28 else false) then r34 else false) then(bif r36 then r40 else false) else false) then r41 else false) then(decide (r14.1.From=r42.From)&&(decide (r14.1.To=r42.To)&&true)) else false)
  )
def Qu(l0:List Ae)(vs1:List Ai)(ax2:Cm):Option (Bool) :=
 ite' (bif (bif (bif (decide (40<(l0.length:Int))) then true else(decide (40<(vs1.length:Int)))) then true else(decide (ax2.Known<0))) then true else(decide (14609<ax2.Known))) (
  bd (Kv ) fun r1 =>
  some r1
  ) (
  bd (Eu 0 1402560) fun r2 =>
  bd (Kt l0 vs1 ax2.R ax2.Known) fun r3 =>
  bd (α:=Unit⊕Bool) (
   ite' (decide (r3.2=0)) (
    bd (BE l0 ax2.R) fun r4 =>
    bd (CJ l0 vs1 ax2.R.Gauge r2 ax2.Known) fun r5 =>
    bd (CJ r4.1 vs1 ax2.R.Gauge r2 ax2.Known) fun r6 =>
    bd (gd (!(bif (bif (!decide (r4.2=0)) then true else(!decide (r5.2=0))) then true else(!decide (r6.2=0)))) (Hc r3.1)) fun r7 =>
    bd (gd (!(bif (bif (bif (!decide (r4.2=0)) then true else(!decide (r5.2=0))) then true else(!decide (r6.2=0))) then true else(!r7))) (Hd r5.1 r6.1 r3.1)) fun r8 =>
    ite' (bif (bif (bif (bif (!decide (r4.2=0)) then true else(!decide (r5.2=0))) then true else(!decide (r6.2=0))) then true else(!r7)) then true else(!r8)) (
     some (.inr false)
     ) (
     some (.inl ())
     )
    ) (
    some (.inl ())
    )
  )<|fun o=>match o with
   | .inl ()=>(
     bd (Ku l0 vs1 ax2.V ax2.Known) fun r9 =>
     bd (α:=Unit⊕Bool) (
      ite' (decide (r9.2=0)) (
       bd (CY vs1 ax2.V) fun r10 =>
       bd (CJ l0 vs1 ax2.V.Gauge r2 ax2.Known) fun r11 =>
       bd (CJ l0 r10.1 ax2.V.Gauge r2 ax2.Known) fun r12 =>
       bd (gd (!(bif (bif (!decide (r10.2=0)) then true else(!decide (r11.2=0))) then true else(!decide (r12.2=0)))) (Hc r9.1)) fun r13 =>
       bd (gd (!(bif (bif (bif (!decide (r10.2=0)) then true else(!decide (r11.2=0))) then true else(!decide (r12.2=0))) then true else(!r13))) (Hd r11.1 r12.1 r9.1)) fun r14 =>
       ite' (bif (bif (bif (bif (bif (!decide (r10.2=0)) then true else(!decide (r11.2=0))) then true else(!decide (r12.2=0))) then true else(!r13)) then true else(!r14)) then true else(bif (!decide (ax2.V.Kind=3)) then(decide (0<(r9.1.length:Int))) else false)) (
        some (.inr false)
        ) (
        some (.inl ())
        )
       ) (
       some (.inl ())
       )
     )<|fun o=>match o with
      | .inl ()=>(
        bd (Kv ) fun r15 =>
        some r15
       )
      | .inr o=>(
        some o
       )
    )
   | .inr o=>(
     some o
    )
  )
end Go.Am

