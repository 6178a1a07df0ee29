/- Part F1: the functions of this seat as functions of plain values. No condition. -/
import Derived.Test.YtiaclogojhfmfaaGreatDoorX1
set_option linter.unusedVariables false
namespace Go.Am
structure jzn4 where
 Gauge:Int
 Seq:Int
 From:Int
 To:Int
 Stage:Int
 Known:Int
deriving DecidableEq,Inhabited
structure jzpt where
 e0:List jzn4
 e1:List jzn4
deriving DecidableEq,Inhabited
structure qza where
 Neg:Bool
 Num:List UInt8
 Den:List UInt8
deriving DecidableEq,Inhabited
structure wz2g where
 Stage:Int
 Flow:qza
deriving DecidableEq,Inhabited
structure wz2d where
 Points:List wz2g
deriving DecidableEq,Inhabited
structure jzn5 where
 Kind:Int
 Gauge:Int
 Seq:Int
 Known:Int
 From:Int
 To:Int
 Shift:Int
 Curve:wz2d
deriving DecidableEq,Inhabited
structure wz2h where
 From:Int
 To:Int
deriving DecidableEq,Inhabited
structure jzoj where
 Gauge:Int
 Ticks:wz2h
 Known:Int
deriving DecidableEq,Inhabited
structure jzos where
 R:jzn4
 V:jzn5
 Known:Int
deriving DecidableEq,Inhabited
structure jzo8 where
 e0:List jzn4
 e1:List jzn4
 e2:List jzn4
deriving DecidableEq,Inhabited
structure wz2w where
 Stage:Int
 Ticks:Int
deriving DecidableEq,Inhabited
structure wz3g where
 From:Int
 To:Int
 Table:List wz2w
 Lo:Int
 Hi:Int
deriving DecidableEq,Inhabited
structure jzok where
 T:wz2h
 E:Int
deriving DecidableEq,Inhabited
structure jzn6 where
 t:wz2h
 stage:Int
deriving DecidableEq,Inhabited
structure qzf where
 neg:Bool
 num:List UInt8
 den:List UInt8
deriving DecidableEq,Inhabited
structure jzi where
 Q:List UInt8
 R:List UInt8
 E:Int
deriving DecidableEq,Inhabited
structure vzs where
 S:List UInt8
 E:Int
deriving DecidableEq,Inhabited
structure jzoi where
 L:List jzn4
 E:Int
deriving DecidableEq,Inhabited
structure jzod where
 L:List Int
 E:Int
deriving DecidableEq,Inhabited
structure jzoh where
 L:List jzn5
 E:Int
deriving DecidableEq,Inhabited
structure jzog where
 L:List wz3g
 E:Int
deriving DecidableEq,Inhabited
structure jzn9 where
 L:List wz2h
 E:Int
deriving DecidableEq,Inhabited
structure jzn7 where
 t:wz2h
 stage:Int
deriving DecidableEq,Inhabited
def jzrs(x y:jzn4):Bool:=(decide (x.Gauge=y.Gauge)&&(decide (x.Seq=y.Seq)&&(decide (x.From=y.From)&&(decide (x.To=y.To)&&(decide (x.Stage=y.Stage)&&(decide (x.Known=y.Known)&&true))))))
def wz2k(x y:qza):Bool:=((x.Neg==y.Neg)&&(decide (x.Num=y.Num)&&(decide (x.Den=y.Den)&&true)))
def wz9t(x y:wz2g):Bool:=(decide (x.Stage=y.Stage)&&((x.Flow.Neg==y.Flow.Neg)&&(decide (x.Flow.Num=y.Flow.Num)&&(decide (x.Flow.Den=y.Flow.Den)&&true))))
def wz9x(x y:wz2h):Bool:=(decide (x.From=y.From)&&(decide (x.To=y.To)&&true))
def jzrq(x y:jzoj):Bool:=(decide (x.Gauge=y.Gauge)&&(decide (x.Ticks.From=y.Ticks.From)&&(decide (x.Ticks.To=y.Ticks.To)&&(decide (x.Known=y.Known)&&true))))
def jza2(x y:wz2w):Bool:=(decide (x.Stage=y.Stage)&&(decide (x.Ticks=y.Ticks)&&true))
def jzrw(x y:jzok):Bool:=(decide (x.T.From=y.T.From)&&(decide (x.T.To=y.T.To)&&(decide (x.E=y.E)&&true)))
def jzrl(x y:jzn6):Bool:=(decide (x.t.From=y.t.From)&&(decide (x.t.To=y.t.To)&&(decide (x.stage=y.stage)&&true)))
def wz8j(x y:qzf):Bool:=((x.neg==y.neg)&&(decide (x.num=y.num)&&(decide (x.den=y.den)&&true)))
def wz78(x y:jzi):Bool:=(decide (x.Q=y.Q)&&(decide (x.R=y.R)&&(decide (x.E=y.E)&&true)))
def wz86(x y:vzs):Bool:=(decide (x.S=y.S)&&(decide (x.E=y.E)&&true))
def jzq9(x y:jzn7):Bool:=(decide (x.t.From=y.t.From)&&(decide (x.t.To=y.t.To)&&(decide (x.stage=y.stage)&&true)))
def jzpq(q:(List jzn6->Option Bool)->Option (List jzn6)):Option (List jzn6):=q (fun l=>ck (decide (l.length<=1000000000)) (some false))
def jzpc(l:List Int):Option (List Int):=ck (decide (l.length<=4611686018427387904)) (some l.reverse)
def jzov(a:Int):List Int->List Int
 |[]=>[a]
 |b :: l=>bif decide (a<=b) then a :: b :: l else b :: jzov a l
def jzpf:List Int->List Int
 |[]=>[]
 |a :: l=>jzov a (jzpf l)
def jzoa(m:List (Int×Bool)):Option (List Int):=ck (decide (0<m.length)&&decide (m.length<=1000000000)) (some (jzpf (m.map (·.1))))
def jzo1(l:List Int):Option (List Int):=ck (decide (0<l.length)&&decide (l.length*4<=140737488355328)) (some l)
def vzi(l:List jzn4):Option (List jzn4):=ck (decide (0<l.length)&&decide (l.length*48<=140737488355328)) (some l)
def jzpy(a0:List jzn4)(b1:List jzn4):Int->Option (Int⊕(Unit⊕Bool)):=fun s=>match s with
 |k5 =>
  ite' (decide (k5<(a0.length:Int))) (
   bd (at? a0 k5) fun x1 =>
   bd (at? b1 k5) fun x2 =>
   ite' (!(decide (x1.Gauge=x2.Gauge)&&(decide (x1.Seq=x2.Seq)&&(decide (x1.From=x2.From)&&(decide (x1.To=x2.To)&&(decide (x1.Stage=x2.Stage)&&(decide (x1.Known=x2.Known)&&true))))))) (
    some (.inr (.inr false))
    ) (
    ck (inB .i64 (k5+1)) <|
    some (.inl (k5+1))
    )
   ) (
   some (.inr (.inl ()))
   )
def jzo7(a0:List jzn4)(b1:List jzn4):Option (Bool) :=
 ite' (!decide ((a0.length:Int)=(b1.length:Int))) (
  some false
  ) (
  bd (lp (jzpy a0 b1) 0)<|fun o=>match o with
  | .inl ()=>(
    some true
   )
  | .inr o=>(
    some o
   )
  )
def jzq5(a0:List Int)(b1:List Int):Int->Option (Int⊕(Unit⊕Bool)):=fun s=>match s with
 |k5 =>
  ite' (decide (k5<(a0.length:Int))) (
   bd (at? a0 k5) fun x1 =>
   bd (at? b1 k5) fun x2 =>
   ite' (!decide (x1=x2)) (
    some (.inr (.inr false))
    ) (
    ck (inB .i64 (k5+1)) <|
    some (.inl (k5+1))
    )
   ) (
   some (.inr (.inl ()))
   )
def jzqd(a0:List Int)(b1:List Int):Option (Bool) :=
 ite' (!decide ((a0.length:Int)=(b1.length:Int))) (
  some false
  ) (
  bd (lp (jzq5 a0 b1) 0)<|fun o=>match o with
  | .inl ()=>(
    some true
   )
  | .inr o=>(
    some o
   )
  )
def wz7i(a0:List wz2h)(b1:List wz2h):Int->Option (Int⊕(Unit⊕Bool)):=fun s=>match s with
 |k5 =>
  ite' (decide (k5<(a0.length:Int))) (
   bd (at? a0 k5) fun x1 =>
   bd (at? b1 k5) fun x2 =>
   ite' (!(decide (x1.From=x2.From)&&(decide (x1.To=x2.To)&&true))) (
    some (.inr (.inr false))
    ) (
    ck (inB .i64 (k5+1)) <|
    some (.inl (k5+1))
    )
   ) (
   some (.inr (.inl ()))
   )
def wz6e(a0:List wz2h)(b1:List wz2h):Option (Bool) :=
 ite' (!decide ((a0.length:Int)=(b1.length:Int))) (
  some false
  ) (
  bd (lp (wz7i a0 b1) 0)<|fun o=>match o with
  | .inl ()=>(
    some true
   )
  | .inr o=>(
    some o
   )
  )
def jz2a(l0:List wz3g)(ar:Int):Int->Option (Int⊕(Unit⊕Int)):=fun s=>match s with
 |t9 =>
  ite' (decide (t9<(l0.length:Int))) (
   bd (at? l0 t9) fun x1 =>
   ite' (bif (bif (decide (x1.From<=ar)) then(decide (ar<x1.To)) else false) then(decide ((x1.Table.length:Int)=1)) else false) (
    bd (at? x1.Table 0) fun x2 =>
    some (.inr (.inr x2.Stage))
    ) (
    ck (inB .i64 (t9+1)) <|
    some (.inl (t9+1))
    )
   ) (
   some (.inr (.inl ()))
   )
def jz18(l0:List wz3g)(ar:Int):Option (Int) :=
 bd (lp (jz2a l0 ar) 0)<|fun o=>match o with
 | .inl ()=>(
   some (-1)
  )
 | .inr o=>(
   some o
  )
def jzor(aj:Int)(to1:Int):Option (wz2h) :=
 some (wz2h.mk aj to1)
def jzqp :Option ((List jzn4)×jzn5) :=
 some ([(jzn4.mk 3 1 100 120 50 0),(jzn4.mk 3 2 110 114 60 2),(jzn4.mk 3 5 130 140 50 1)],(jzn5.mk 3 3 9 3 105 200 (-4) (wz2d.mk [])))
def jzpd(aj:Int)(to1:Int):Option (wz3g) :=
 some (wz3g.mk aj to1 [] 0 1000)
def jzo5(aj:Int)(to1:Int)(ba:Int):Option (wz3g) :=
 ck (inB .i64 (to1-aj)) <|
 some (wz3g.mk aj to1 [(wz2w.mk ba (to1-aj))] 0 0)
def jzp4(ai:jzn4->jzn4->Option Int)(a2:jzn4)(ax0:List jzn4):(Int×Int)->Option ((Int×Int)⊕Int):=fun s=>match s with
 |(i9,j10) =>
  ite' (decide (i9<j10)) (
   ck (inB .i64 (i9+j10)) <|
   ck (inB .i64 (Int.fdiv ((i9+j10)%18446744073709551616) 2)) <|
   bd (at? ax0 (Int.fdiv ((i9+j10)%18446744073709551616) 2)) fun x1 =>
   bd (ai x1 a2) fun r1 =>
   ite' (decide (r1<0)) (
    ck (inB .i64 ((Int.fdiv ((i9+j10)%18446744073709551616) 2)+1)) <|
    some (.inl (((Int.fdiv ((i9+j10)%18446744073709551616) 2)+1),j10))
    ) (
    some (.inl (i9,(Int.fdiv ((i9+j10)%18446744073709551616) 2)))
    )
   ) (
   some (.inr i9)
   )
def jzox(ax0:List jzn4)(a2:jzn4)(ai:jzn4->jzn4->Option Int):Option (Int×Bool) :=
 bd (lp (jzp4 ai a2 ax0) (0,(ax0.length:Int)))<|fun i9 =>
 bd (gd (decide (i9<(ax0.length:Int))) (at? ax0 i9)) fun x2 =>
 bd (gd (decide (i9<(ax0.length:Int))) (ai x2 a2)) fun r2 =>
 some (i9,(bif (decide (i9<(ax0.length:Int))) then(decide (r2=0)) else false))
def jzo4(a0:jzn4)(b1:jzn4):Option (Bool) :=
 some (decide (a0.Gauge=b1.Gauge)&&(decide (a0.Seq=b1.Seq)&&(decide (a0.From=b1.From)&&(decide (a0.To=b1.To)&&(decide (a0.Stage=b1.Stage)&&(decide (b1.Known=b1.Known)&&true))))))
def jzo0(n0:Int)(lo1:Int)(hi2:Int):Option (Bool) :=
 some (bif (decide (lo1<=n0)) then(decide (n0<=hi2)) else false)
def jzsp(ag:List Int):Int->Option (Int⊕(Unit⊕Int)):=fun s=>match s with
 |t8 =>
  ite' (decide (t8<(ag.length:Int))) (
   bd (at? ag t8) fun x1 =>
   ite' (!decide (x1=0)) (
    some (.inr (.inr x1))
    ) (
    ck (inB .i64 (t8+1)) <|
    some (.inl (t8+1))
    )
   ) (
   some (.inr (.inl ()))
   )
def jzq3(ag:List Int):Option (Int) :=
 bd (lp (jzsp ag) 0)<|fun o=>match o with
 | .inl ()=>(
   some 0
  )
 | .inr o=>(
   some o
  )
def jzpk(n0:Int):Option (Bool) :=
 some (bif (decide (0<=n0)) then(decide (n0<=14609)) else false)
def jzq0(a0:List wz2w)(b1:List wz2w):Int->Option (Int⊕(Unit⊕Bool)):=fun s=>match s with
 |k5 =>
  ite' (decide (k5<(a0.length:Int))) (
   bd (at? a0 k5) fun x1 =>
   bd (at? b1 k5) fun x2 =>
   ite' (!(decide (x1.Stage=x2.Stage)&&(decide (x1.Ticks=x2.Ticks)&&true))) (
    some (.inr (.inr false))
    ) (
    ck (inB .i64 (k5+1)) <|
    some (.inl (k5+1))
    )
   ) (
   some (.inr (.inl ()))
   )
def jzqb(a0:List wz2w)(b1:List wz2w):Option (Bool) :=
 ite' (!decide ((a0.length:Int)=(b1.length:Int))) (
  some false
  ) (
  bd (lp (jzq0 a0 b1) 0)<|fun o=>match o with
  | .inl ()=>(
    some true
   )
  | .inr o=>(
    some o
   )
  )
def jzq6(r1:(List jzn6))(r2:(List jzn6)):(Int×Int×(List wz2h))->Option ((Int×Int×(List wz2h))⊕(List wz2h)):=fun s=>match s with
 |(i8,j9,l2) =>
  ite' (bif (decide (i8<(r1.length:Int))) then(decide (j9<(r2.length:Int))) else false) (
   bd (at? r1 i8) fun x1 =>
   bd (at? r2 j9) fun x2 =>
   bd (at? r1 i8) fun x3 =>
   bd (at? r2 j9) fun x4 =>
   bd (at? r1 i8) fun x5 =>
   bd (at? r2 j9) fun x6 =>
   bd (α:=(List wz2h)) (
    ite' (!decide (x5.stage=x6.stage)) (
     ck (!(decide (0<(l2.length:Int)))||inB .i64 ((l2.length:Int)-1)) <|
     bd (gd (decide (0<(l2.length:Int))) (at? l2 ((l2.length:Int)-1))) fun x7 =>
     ite' (bif (decide (0<(l2.length:Int))) then(decide (x7.To=(max x1.t.From x2.t.From))) else false) (
      ck (inB .i64 ((l2.length:Int)-1)) <|
      bd (at? l2 ((l2.length:Int)-1)) fun x8 =>
      some (List.set l2 (Int.toNat ((l2.length:Int)-1)) (wz2h.mk x8.From (min x3.t.To x4.t.To)))
      ) (
      ck (decide (List.length (l2++[(wz2h.mk (max x1.t.From x2.t.From) (min x3.t.To x4.t.To))])*16<=140737488355328)) <|
      some (l2++[(wz2h.mk (max x1.t.From x2.t.From) (min x3.t.To x4.t.To))])
      )
     ) (
     some l2
     )
   )<|fun l2' =>
    bd (at? r1 i8) fun x9 =>
    bd (α:=Int) (
     ite' (decide (x9.t.To=(min x3.t.To x4.t.To))) (
      ck (inB .i64 (i8+1)) <|
      some (i8+1)
      ) (
      some i8
      )
    )<|fun i8' =>
     bd (at? r2 j9) fun x10 =>
     ite' (decide (x10.t.To=(min x3.t.To x4.t.To))) (
      ck (inB .i64 (j9+1)) <|
      some (.inl (i8',(j9+1),l2'))
      ) (
      some (.inl (i8',j9,l2'))
      )
   ) (
   some (.inr l2)
   )
def jzpv(a0:(List jzn6->Option Bool)->Option (List jzn6))(b1:(List jzn6->Option Bool)->Option (List jzn6)):Option ((List wz2h)) :=
 bd (jzpq a0) fun r1 =>
 bd (jzpq b1) fun r2 =>
 bd (lp (jzq6 r1 r2) (0,0,[]))<|fun l2 =>
 some l2
def jzph :Option (wz2h) :=
 some (wz2h.mk 0 1402560)
def jzpx(ai:jzn5->jzn5->Option Int)(a2:jzn5)(ax0:List jzn5):(Int×Int)->Option ((Int×Int)⊕Int):=fun s=>match s with
 |(i9,j10) =>
  ite' (decide (i9<j10)) (
   ck (inB .i64 (i9+j10)) <|
   ck (inB .i64 (Int.fdiv ((i9+j10)%18446744073709551616) 2)) <|
   bd (at? ax0 (Int.fdiv ((i9+j10)%18446744073709551616) 2)) fun x1 =>
   bd (ai x1 a2) fun r1 =>
   ite' (decide (r1<0)) (
    ck (inB .i64 ((Int.fdiv ((i9+j10)%18446744073709551616) 2)+1)) <|
    some (.inl (((Int.fdiv ((i9+j10)%18446744073709551616) 2)+1),j10))
    ) (
    some (.inl (i9,(Int.fdiv ((i9+j10)%18446744073709551616) 2)))
    )
   ) (
   some (.inr i9)
   )
def jzoq(ax0:List jzn5)(a2:jzn5)(ai:jzn5->jzn5->Option Int):Option (Int×Bool) :=
 bd (lp (jzpx ai a2 ax0) (0,(ax0.length:Int)))<|fun i9 =>
 bd (gd (decide (i9<(ax0.length:Int))) (at? ax0 i9)) fun x2 =>
 bd (gd (decide (i9<(ax0.length:Int))) (ai x2 a2)) fun r2 =>
 some (i9,(bif (decide (i9<(ax0.length:Int))) then(decide (r2=0)) else false))
def jzp9(ag:List Int):Int->Option (Int⊕(Unit⊕Int)):=fun s=>match s with
 |t8 =>
  ite' (decide (t8<(ag.length:Int))) (
   bd (at? ag t8) fun x1 =>
   ite' (!decide (x1=0)) (
    some (.inr (.inr x1))
    ) (
    ck (inB .i64 (t8+1)) <|
    some (.inl (t8+1))
    )
   ) (
   some (.inr (.inl ()))
   )
def jzqc(ag:List Int):Option (Int) :=
 bd (lp (jzp9 ag) 0)<|fun o=>match o with
 | .inl ()=>(
   some 0
  )
 | .inr o=>(
   some o
  )
def jzqv(c0:List Int)(c1:List Int)(k4:Int):Int->Option (Int⊕Int):=fun s=>match s with
 |k4' =>
  ck (inB .i64 (k4'+1)) <|
  bd (gd (decide ((k4'+1)<(c0.length:Int))) (at? c1 k4')) fun x1 =>
  bd (gd (decide ((k4'+1)<(c0.length:Int))) (at? c1 k4)) fun x2 =>
  ite' (bif (decide ((k4'+1)<(c0.length:Int))) then(decide (x1=x2)) else false) (
   ck (inB .i64 (k4'+1)) <|
   some (.inl (k4'+1))
   ) (
   some (.inr k4')
   )
def jzqs(c0:List Int)(c1:List Int)(st:List jzn6->Option Bool):(Int×(List jzn6))->Option ((Int×(List jzn6))⊕((List jzn6)⊕(List jzn6))):=fun s=>match s with
 |(k4,ys) =>
  ck (inB .i64 (k4+1)) <|
  ite' (decide ((k4+1)<(c0.length:Int))) (
   ck (inB .i64 (k4+1)) <|
   bd (lp (jzqv c0 c1 k4) (k4+1))<|fun k4' =>
   bd (at? c0 k4) fun x3 =>
   bd (at? c0 k4') fun x4 =>
   bd (at? c1 k4) fun x5 =>
   bd (st (ys++[(jzn6.mk (wz2h.mk x3 x4) x5)])) fun s1 =>
   ite' s1 (
    some (.inr (.inr (ys++[(jzn6.mk (wz2h.mk x3 x4) x5)])))
    ) (
    some (.inl (k4',(ys++[(jzn6.mk (wz2h.mk x3 x4) x5)])))
    )
   ) (
   some (.inr (.inl ys))
   )
def jzou(c0:List Int)(c1:List Int)(st:List jzn6->Option Bool):Option (List jzn6) :=
 bd (lp (jzqs c0 c1 st) (0,[]))<|fun o=>match o with
 | .inl ys=>(
   some ys
  )
 | .inr o=>(
   some o
  )
def qzcc(ax0:Int):Option (Bool) :=
 some (!decide (ax0=ax0))
def jzrr(ax0:Int)(y1:Int):Option (Bool) :=
 bd (qzcc ax0) fun r1 =>
 bd (gd r1 (qzcc y1)) fun r2 =>
 some (bif (bif r1 then(!r2) else false) then true else(decide (ax0<y1)))
def jzp3(ax0:Int):Option (Bool) :=
 some (!decide (ax0=ax0))
def jzqk(b8:Int)(b4:Int):Option (Int) :=
 ite' (bif (bif (bif (decide (b8<0)) then true else(decide (1402560<=b8))) then true else(decide (b4<0))) then true else(decide (14609<b4))) (
  some 3
  ) (
  some 0
  )
def wz5p(b5:Int):Option (Bool) :=
 some (bif (decide ((-1000)<=b5)) then(decide (b5<=2000)) else false)
def yzi(au:List wz2g)(az:List wz2g):Int->Option (Int⊕(Unit⊕Bool)):=fun s=>match s with
 |t13 =>
  ite' (decide (t13<(au.length:Int))) (
   bd (at? au t13) fun x1 =>
   bd (at? az t13) fun x2 =>
   ite' (!(decide (x1.Stage=x2.Stage)&&((x1.Flow.Neg==x2.Flow.Neg)&&(decide (x1.Flow.Num=x2.Flow.Num)&&(decide (x1.Flow.Den=x2.Flow.Den)&&true))))) (
    some (.inr (.inr false))
    ) (
    ck (inB .i64 (t13+1)) <|
    some (.inl (t13+1))
    )
   ) (
   some (.inr (.inl ()))
   )
def qzbb(au:List wz2g)(az:List wz2g):Option (Bool) :=
 ite' (!decide ((au.length:Int)=(az.length:Int))) (
  some false
  ) (
  bd (lp (yzi au az) 0)<|fun o=>match o with
  | .inl ()=>(
    some true
   )
  | .inr o=>(
    some o
   )
  )
def jzre(a3:Int)(ae:Int)(a4:Int)(l0:List jzn5)(af:Int):((Option jzn5)×Int)->Option (((Option jzn5)×Int)⊕(Option jzn5)):=fun s=>match s with
 |(a7,t16) =>
  ite' (decide (t16<(l0.length:Int))) (
   bd (at? l0 t16) fun x1 =>
   bd (α:=Unit⊕Unit) (
    ite' (bif (bif (bif (bif (!decide (x1.Kind=ae)) then true else(!decide (x1.Gauge=a3))) then true else(decide (a4<x1.Known))) then true else(decide (af<x1.From))) then true else(decide (x1.To<=af))) (
     some (.inr ())
     ) (
     some (.inl ())
     )
   )<|fun o=>match o with
    | .inl ()=>(
      bd (gd (!(!(Option.isSome a7))) (a7)) fun x2 =>
      bd (gd (!(bif (!(Option.isSome a7)) then true else(decide (x2.Known<x1.Known)))) (a7)) fun x3 =>
      bd (gd ((!(bif (!(Option.isSome a7)) then true else(decide (x2.Known<x1.Known))))&&(decide (x1.Known=x3.Known))) (a7)) fun x4 =>
      ite' (bif (bif (!(Option.isSome a7)) then true else(decide (x2.Known<x1.Known))) then true else(bif (decide (x1.Known=x3.Known)) then(decide (x4.Seq<x1.Seq)) else false)) (
       ck (inB .i64 (t16+1)) <|
       some (.inl ((some x1),(t16+1)))
       ) (
       ck (inB .i64 (t16+1)) <|
       some (.inl (a7,(t16+1)))
       )
     )
    | .inr ()=>(
      ck (inB .i64 (t16+1)) <|
      some (.inl (a7,(t16+1)))
     )
   ) (
   some (.inr a7)
   )
def jzqj(l0:List jzn5)(ae:Int)(a3:Int)(af:Int)(a4:Int):Option ((Option jzn5)) :=
 bd (lp (jzre a3 ae a4 l0 af) (none,0))<|fun a7 =>
 some a7
def qzcb(a0:List UInt8):Option (Bool) :=
 ck (!(!(decide (a0=[])))||(qzf7 a0 0)) <|
 some (bif (decide (a0=[])) then true else(!decide ((wzw a0 0)=0)))
def vzd :(List Int)->Option ((List Int)⊕(List Int)):=fun s=>match s with
 |x0 =>
  ck (!(decide (0<(x0.length:Int)))||inB .i64 ((x0.length:Int)-1)) <|
  bd (gd (decide (0<(x0.length:Int))) (at? x0 ((x0.length:Int)-1))) fun x1 =>
  ite' (bif (decide (0<(x0.length:Int))) then(decide (x1=0)) else false) (
   ck (inB .i64 ((x0.length:Int)-1)) <|
   ck (kzy x0 0 ((x0.length:Int)-1)) <|
   some (.inl (sub x0 0 ((x0.length:Int)-1)))
   ) (
   some (.inr x0)
   )
def qzx(ax0:List Int):Option ((List Int)) :=
 bd (lp (vzd) ax0)<|fun x0 =>
 some x0
def kzc(ax0:List Int)(k1:Int):Option (Int) :=
 ite' (decide (k1<(ax0.length:Int))) (
  bd (at? ax0 k1) fun x1 =>
  some (x1%18446744073709551616)
  ) (
  some 0
  )
def qzai(ax0:Int):Option (Bool) :=
 some (!decide (ax0=ax0))
def wz7(ac1:Int):(List UInt8)->Option ((List UInt8)⊕(List UInt8)):=fun s=>match s with
 |s0 =>
  ck (!(decide (0<(s0.length:Int)))||(qzf7 s0 0)) <|
  ite' (bif (decide (0<(s0.length:Int))) then(decide ((wzw s0 0)=ac1)) else false) (
   ck (kzy s0 1 (s0.length:Int)) <|
   some (.inl (sub s0 1 (s0.length:Int)))
   ) (
   some (.inr s0)
   )
def jzz(as0:List UInt8)(ac1:Int):Option ((List UInt8)) :=
 bd (lp (wz7 ac1) as0)<|fun s0 =>
 some s0
def jzom(ar0:jzn4):Option (Bool) :=
 bd (jzo0 ar0.Gauge 0 39) fun r1 =>
 bd (gd r1 (jzo0 ar0.Seq 0 1099511627776)) fun r2 =>
 bd (gd (bif (bif (bif (bif r1 then r2 else false) then(decide (0<=ar0.From)) else false) then(decide (ar0.From<ar0.To)) else false) then(decide (ar0.To<=1402560)) else false) (jzo0 ar0.Stage 0 1000)) fun r3 =>
 bd (gd (bif (bif (bif (bif (bif r1 then r2 else false) then(decide (0<=ar0.From)) else false) then(decide (ar0.From<ar0.To)) else false) then(decide (ar0.To<=1402560)) else false) then r3 else false) (jzo0 ar0.Known 0 14609)) fun r4 =>
 some (bif (bif (bif (bif (bif (bif r1 then r2 else false) then(decide (0<=ar0.From)) else false) then(decide (ar0.From<ar0.To)) else false) then(decide (ar0.To<=1402560)) else false) then r3 else false) then r4 else false)
def jzq7(a0:List wz3g)(b1:List wz3g):Int->Option (Int⊕(Unit⊕Bool)):=fun s=>match s with
 |k5 =>
  ite' (decide (k5<(a0.length:Int))) (
   bd (at? a0 k5) fun x1 =>
   bd (at? b1 k5) fun x2 =>
   bd (jzqb x1.Table x2.Table) fun r1 =>
   bd (gd (!(!r1)) (at? a0 k5)) fun x3 =>
   bd (gd (!(!r1)) (at? b1 k5)) fun x4 =>
   bd (gd (!(bif (!r1) then true else(!decide (x3.From=x4.From)))) (at? a0 k5)) fun x5 =>
   bd (gd (!(bif (!r1) then true else(!decide (x3.From=x4.From)))) (at? b1 k5)) fun x6 =>
   bd (gd (!(bif (bif (!r1) then true else(!decide (x3.From=x4.From))) then true else(!decide (x5.To=x6.To)))) (at? a0 k5)) fun x7 =>
   bd (gd (!(bif (bif (!r1) then true else(!decide (x3.From=x4.From))) then true else(!decide (x5.To=x6.To)))) (at? b1 k5)) fun x8 =>
   bd (gd (!(bif (bif (bif (!r1) then true else(!decide (x3.From=x4.From))) then true else(!decide (x5.To=x6.To))) then true else(!decide (x7.Lo=x8.Lo)))) (at? a0 k5)) fun x9 =>
   bd (gd (!(bif (bif (bif (!r1) then true else(!decide (x3.From=x4.From))) then true else(!decide (x5.To=x6.To))) then true else(!decide (x7.Lo=x8.Lo)))) (at? b1 k5)) fun x10 =>
   ite' (bif (bif (bif (bif (!r1) then true else(!decide (x3.From=x4.From))) then true else(!decide (x5.To=x6.To))) then true else(!decide (x7.Lo=x8.Lo))) then true else(!decide (x9.Hi=x10.Hi))) (
    some (.inr (.inr false))
    ) (
    ck (inB .i64 (k5+1)) <|
    some (.inl (k5+1))
    )
   ) (
   some (.inr (.inl ()))
   )
def jzpi(a0:List wz3g)(b1:List wz3g):Option (Bool) :=
 ite' (!decide ((a0.length:Int)=(b1.length:Int))) (
  some false
  ) (
  bd (lp (jzq7 a0 b1) 0)<|fun o=>match o with
  | .inl ()=>(
    some true
   )
  | .inr o=>(
    some o
   )
  )
def qzca(ax0:Int)(y1:Int):Option (Int) :=
 bd (qzcc ax0) fun r1 =>
 bd (qzcc y1) fun r2 =>
 ite' r1 (
  ite' r2 (
   some 0
   ) (
   some (-1)
   )
  ) (
  ite' r2 (
   some 1
   ) (
   ite' (decide (ax0<y1)) (
    some (-1)
    ) (
    ite' (decide (y1<ax0)) (
     some 1
     ) (
     some 0
     )
    )
   )
  )
def jzqf(a2:Int)(ax0:List Int):(Int×Int)->Option ((Int×Int)⊕Int):=fun s=>match s with
 |(i7,j8) =>
  ite' (decide (i7<j8)) (
   ck (inB .i64 (i7+j8)) <|
   ck (inB .i64 (Int.fdiv ((i7+j8)%18446744073709551616) 2)) <|
   bd (at? ax0 (Int.fdiv ((i7+j8)%18446744073709551616) 2)) fun x1 =>
   bd (jzrr x1 a2) fun r1 =>
   ite' r1 (
    ck (inB .i64 ((Int.fdiv ((i7+j8)%18446744073709551616) 2)+1)) <|
    some (.inl (((Int.fdiv ((i7+j8)%18446744073709551616) 2)+1),j8))
    ) (
    some (.inl (i7,(Int.fdiv ((i7+j8)%18446744073709551616) 2)))
    )
   ) (
   some (.inr i7)
   )
def jzpg(ax0:List Int)(a2:Int):Option (Int×Bool) :=
 bd (lp (jzqf a2 ax0) (0,(ax0.length:Int)))<|fun i7 =>
 bd (gd (decide (i7<(ax0.length:Int))) (at? ax0 i7)) fun x2 =>
 bd (gd ((decide (i7<(ax0.length:Int)))&&(!(decide (x2=a2)))) (at? ax0 i7)) fun x3 =>
 bd (gd ((decide (i7<(ax0.length:Int)))&&(!(decide (x2=a2)))) (jzp3 x3)) fun r2 =>
 bd (gd (((decide (i7<(ax0.length:Int)))&&(!(decide (x2=a2))))&&r2) (jzp3 a2)) fun r3 =>
 some (i7,(bif (decide (i7<(ax0.length:Int))) then(bif (decide (x2=a2)) then true else(bif r2 then r3 else false)) else false))
def jzqn(a0:wz2d)(b1:wz2d):Option (Bool) :=
 bd (qzbb a0.Points b1.Points) fun r1 =>
 some r1
def jzqm(l0:List jzn5)(ae:Int)(a3:Int)(af:Int)(a4:Int):Option (Int) :=
 bd (jzqj l0 ae a3 af a4) fun r1 =>
 ite' (Option.isSome r1) (
  bd (r1) fun x1 =>
  some x1.Shift
  ) (
  some 0
  )
def qzb2(a0:List UInt8)(ad:Int):(Int×Int)->Option ((Int×Int)⊕Int):=fun s=>match s with
 |(ak,t22) =>
  ite' (decide (t22<(List.length (bytes (sub a0 (max 0 (ad-4)) ad)):Int))) (
   bd (at? (bytes (sub a0 (max 0 (ad-4)) ad)) t22) fun x1 =>
   ck (inB .i64 (t22+1)) <|
   some (.inl ((bitI .or .u32 ((ak*256)%4294967296) (x1%4294967296)),(t22+1)))
   ) (
   some (.inr ak)
   )
def qzb4(a0:List UInt8):(Int×(List Int))->Option ((Int×(List Int))⊕(List Int)):=fun s=>match s with
 |(ad,l2) =>
  ite' (decide (0<ad)) (
   ck (inB .i64 (ad-4)) <|
   ck (kzy a0 (max 0 (ad-4)) ad) <|
   bd (lp (qzb2 a0 ad) (0,0))<|fun ak =>
   ck (decide (List.length (l2++[ak])*4<=140737488355328)) <|
   ck (inB .i64 (ad-4)) <|
   some (.inl ((ad-4),(l2++[ak])))
   ) (
   some (.inr l2)
   )
def wzn(a0:List UInt8):Option ((List Int)) :=
 bd (lp (qzb4 a0) ((a0.length:Int),[]))<|fun l2 =>
 bd (qzx l2) fun r1 =>
 some r1
def kzs(by1:Int)(ax0:List Int):(Int×Int×(List Int))->Option ((Int×Int×(List Int))⊕(Int×(List Int))):=fun s=>match s with
 |(ao,k8,l0) =>
  ite' (decide (0<=k8)) (
   bd (at? ax0 k8) fun x1 =>
   ck (!decide ((by1%18446744073709551616)=0)) <|
   ck (!decide ((by1%18446744073709551616)=0)) <|
   bd (at? l0 k8) fun x2 =>
   ck (inB .i64 (k8-1)) <|
   some (.inl (((bitI .or .u64 ((ao*4294967296)%18446744073709551616) (x1%18446744073709551616)).tmod (by1%18446744073709551616)),(k8-1),(List.set l0 (Int.toNat k8) ((((bitI .or .u64 ((ao*4294967296)%18446744073709551616) (x1%18446744073709551616)).tdiv (by1%18446744073709551616))%18446744073709551616)%4294967296))))
   ) (
   some (.inr (ao,l0))
   )
def jzs(ax0:List Int)(by1:Int):Option ((List Int)×Int) :=
 ck (mkOk (ax0.length:Int) 4) <|
 ck (inB .i64 ((ax0.length:Int)-1)) <|
 bd (lp (kzs by1 ax0) (0,((ax0.length:Int)-1),(List.replicate (Int.toNat (ax0.length:Int)) 0)))<|fun(ao,l0) =>
 bd (qzx l0) fun r1 =>
 some (r1,(ao%4294967296))
def jzl(t20:Int)(x1:Int)(y1:List Int):(Int×Int×(List Int))->Option ((Int×Int×(List Int))⊕(List Int)):=fun s=>match s with
 |(aw,k9,l0') =>
  ite' (bif (decide (k9<(y1.length:Int))) then true else(decide (0<aw))) (
   bd (kzc y1 k9) fun r1 =>
   ck (inB .i64 (t20+k9)) <|
   bd (at? l0' (t20+k9)) fun x2 =>
   ck (inB .i64 (t20+k9)) <|
   bd (at? l0' (t20+k9)) fun x3 =>
   ck (inB .i64 (k9+1)) <|
   some (.inl ((Int.fdiv (((((((x1%18446744073709551616)*r1)%18446744073709551616)+(x2%18446744073709551616))%18446744073709551616)+aw)%18446744073709551616) 4294967296),(k9+1),(List.set l0' (Int.toNat (t20+k9)) ((((((((x1%18446744073709551616)*r1)%18446744073709551616)+(x2%18446744073709551616))%18446744073709551616)+aw)%18446744073709551616)%4294967296))))
   ) (
   some (.inr l0')
   )
def kzu(ax0:List Int)(y1:List Int):(Int×(List Int))->Option ((Int×(List Int))⊕(List Int)):=fun s=>match s with
 |(t20,l0) =>
  ite' (decide (t20<(ax0.length:Int))) (
   bd (at? ax0 t20) fun x1 =>
   bd (lp (jzl t20 x1 y1) (0,0,l0))<|fun l0' =>
   ck (inB .i64 (t20+1)) <|
   some (.inl ((t20+1),l0'))
   ) (
   some (.inr l0)
   )
def wz1(ax0:List Int)(y1:List Int):Option ((List Int)) :=
 ck (inB .i64 ((ax0.length:Int)+(y1.length:Int))) <|
 ck (inB .i64 (((ax0.length:Int)+(y1.length:Int))+1)) <|
 ck (mkOk (((ax0.length:Int)+(y1.length:Int))+1) 4) <|
 bd (lp (kzu ax0 y1) (0,(List.replicate (Int.toNat (((ax0.length:Int)+(y1.length:Int))+1)) 0)))<|fun l0 =>
 bd (qzx l0) fun r2 =>
 some r2
def kzo(ax0:List Int)(y1:List Int):(Int×Int×(List Int))->Option ((Int×Int×(List Int))⊕(List Int)):=fun s=>match s with
 |(ap,t11,l1) =>
  ite' (decide (t11<(ax0.length:Int))) (
   bd (at? ax0 t11) fun x1 =>
   bd (kzc y1 t11) fun r1 =>
   ck (decide (List.length (l1++[((((((x1%18446744073709551616)-r1)%18446744073709551616)-ap)%18446744073709551616)%4294967296)])*4<=140737488355328)) <|
   ck (inB .i64 (t11+1)) <|
   some (.inl ((Int.fdiv (((((x1%18446744073709551616)-r1)%18446744073709551616)-ap)%18446744073709551616) 9223372036854775808),(t11+1),(l1++[((((((x1%18446744073709551616)-r1)%18446744073709551616)-ap)%18446744073709551616)%4294967296)])))
   ) (
   some (.inr l1)
   )
def wzz(ax0:List Int)(y1:List Int):Option ((List Int)) :=
 bd (lp (kzo ax0 y1) (0,0,[]))<|fun l1 =>
 bd (qzx l1) fun r2 =>
 some r2
def vze(ax0:List Int)(y1:List Int):(Int×Int×(List Int))->Option ((Int×Int×(List Int))⊕(List Int)):=fun s=>match s with
 |(av,t15,l1) =>
  ite' (decide (t15<((max (ax0.length:Int) (y1.length:Int))+1))) (
   bd (kzc ax0 t15) fun r1 =>
   bd (kzc y1 t15) fun r2 =>
   ck (decide (List.length (l1++[(((((r1+r2)%18446744073709551616)+av)%18446744073709551616)%4294967296)])*4<=140737488355328)) <|
   ck (inB .i64 (t15+1)) <|
   some (.inl ((Int.fdiv ((((r1+r2)%18446744073709551616)+av)%18446744073709551616) 4294967296),(t15+1),(l1++[(((((r1+r2)%18446744073709551616)+av)%18446744073709551616)%4294967296)])))
   ) (
   some (.inr l1)
   )
def vzk(ax0:List Int)(y1:List Int):Option ((List Int)) :=
 ck (inB .i64 ((max (ax0.length:Int) (y1.length:Int))+1)) <|
 bd (lp (vze ax0 y1) (0,0,[]))<|fun l1 =>
 bd (qzx l1) fun r3 =>
 some r3
def qzax(ax0:Int)(y1:Int):Option (Int) :=
 bd (qzai ax0) fun r1 =>
 bd (qzai y1) fun r2 =>
 ite' r1 (
  ite' r2 (
   some 0
   ) (
   some (-1)
   )
  ) (
  ite' r2 (
   some 1
   ) (
   ite' (decide (ax0<y1)) (
    some (-1)
    ) (
    ite' (decide (y1<ax0)) (
     some 1
     ) (
     some 0
     )
    )
   )
  )
def qzav(as0:List UInt8)(a9:List UInt8):Option ((List UInt8)) :=
 ite' (bif (decide (as0=[])) then true else(decide (a9=[]))) (
  some as0
  ) (
  ck (!(decide ((a9.length:Int)=1))||(qzf7 a9 0)) <|
  ite' (bif (decide ((a9.length:Int)=1)) then(decide ((wzw a9 0)<128)) else false) (
   ck (qzf7 a9 0) <|
   bd (jzz as0 (wzw a9 0)) fun r1 =>
   some r1
   ) (
   none
   )
  )
def jzon(a0:jzn4)(b1:jzn4):Option (Int) :=
 bd (qzca a0.Gauge b1.Gauge) fun r1 =>
 bd (qzca a0.Seq b1.Seq) fun r2 =>
 bd (jzqc [r1,r2]) fun r3 =>
 some r3
def jzo3(a0:jzn5)(b1:jzn5):Option (Int) :=
 bd (qzca a0.Gauge b1.Gauge) fun r1 =>
 ite' (!decide (r1=0)) (
  some r1
  ) (
  bd (qzca a0.Seq b1.Seq) fun r2 =>
  some r2
  )
def jzqq(a0:jzn5)(b1:jzn5):Option (Bool) :=
 bd (jzqn a0.Curve b1.Curve) fun r1 =>
 ite' (!r1) (
  some false
  ) (
  some (bif (bif (bif (bif (bif (bif (decide (a0.Kind=b1.Kind)) then(decide (a0.Gauge=b1.Gauge)) else false) then(decide (a0.Seq=b1.Seq)) else false) then(decide (a0.Known=b1.Known)) else false) then(decide (a0.From=b1.From)) else false) then(decide (a0.To=b1.To)) else false) then(decide (a0.Shift=b1.Shift)) else false)
  )
def jz2(ax0:List Int)(y1:List Int):Int->Option (Int⊕(Unit⊕Int)):=fun s=>match s with
 |k6 =>
  ite' (decide (0<=k6)) (
   bd (at? ax0 k6) fun x1 =>
   bd (at? y1 k6) fun x2 =>
   bd (qzax x1 x2) fun r2 =>
   ite' (!decide (r2=0)) (
    some (.inr (.inr r2))
    ) (
    ck (inB .i64 (k6-1)) <|
    some (.inl (k6-1))
    )
   ) (
   some (.inr (.inl ()))
   )
def wzl(ax0:List Int)(y1:List Int):Option (Int) :=
 bd (qzca (ax0.length:Int) (y1.length:Int)) fun r1 =>
 ite' (!decide (r1=0)) (
  some r1
  ) (
  ck (inB .i64 ((ax0.length:Int)-1)) <|
  bd (lp (jz2 ax0 y1) ((ax0.length:Int)-1))<|fun o=>match o with
  | .inl ()=>(
    some 0
   )
  | .inr o=>(
    some o
   )
  )
def wzm(ax0:List Int)(al:Int):Option ((List Int)) :=
 ite' (decide (al<0)) (
  ck (inB .i64 (-al)) <|
  ck (decide (0<=(-al))) <|
  bd (jzs ax0 ((1*2 ^ min (Int.toNat (-al)) 32)%4294967296)) fun r1 =>
  some r1.1
  ) (
  ck (decide (0<=al)) <|
  bd (wz1 ax0 [((1*2 ^ min (Int.toNat al) 32)%4294967296)]) fun r2 =>
  some r2
  )
def qzdj(a0:List UInt8):Option ((List UInt8)) :=
 bd (qzav a0 [0]) fun r1 =>
 some r1
def jzpn(l0:List jzn4):Int->Option (Int⊕(Unit⊕Int)):=fun s=>match s with
 |t10 =>
  ite' (decide (t10<(l0.length:Int))) (
   bd (at? l0 t10) fun x1 =>
   bd (jzom x1) fun r1 =>
   ck (!((!(!r1))&&(decide (0<t10)))||inB .i64 (t10-1)) <|
   bd (gd ((!(!r1))&&(decide (0<t10))) (at? l0 (t10-1))) fun x2 =>
   bd (gd ((!(!r1))&&(decide (0<t10))) (jzon x2 x1)) fun r2 =>
   ite' (bif (!r1) then true else(bif (decide (0<t10)) then(decide (0<=r2)) else false)) (
    some (.inr (.inr 1))
    ) (
    ck (inB .i64 (t10+1)) <|
    some (.inl (t10+1))
    )
   ) (
   some (.inr (.inl ()))
   )
def jzn8(l0:List jzn4):Option (Int) :=
 ite' (decide (4000<(l0.length:Int))) (
  some 2
  ) (
  bd (lp (jzpn l0) 0)<|fun o=>match o with
  | .inl ()=>(
    some 0
   )
  | .inr o=>(
    some o
   )
  )
def kzx(y1:List Int):Int->Option (Int⊕Int):=fun s=>match s with
 |aa =>
  ck (inB .i64 ((y1.length:Int)-1)) <|
  bd (at? y1 ((y1.length:Int)-1)) fun x2 =>
  ck (decide (0<=aa)) <|
  ite' (decide (((x2*2 ^ min (Int.toNat aa) 32)%4294967296)<2147483648)) (
   ck (inB .i64 (aa+1)) <|
   some (.inl (aa+1))
   ) (
   some (.inr aa)
   )
def kz2(j13:Int)(a8:List Int)(r4:(List Int)):(Int×Int)->Option ((Int×Int)⊕Int):=fun s=>match s with
 |(a6,ab) =>
  ck (!(decide (ab<4294967296))||inB .i64 ((r4.length:Int)-2)) <|
  bd (gd (decide (ab<4294967296)) (at? r4 ((r4.length:Int)-2))) fun x7 =>
  ck (!(decide (ab<4294967296))||inB .i64 (j13+(r4.length:Int))) <|
  ck (!(decide (ab<4294967296))||inB .i64 ((j13+(r4.length:Int))-2)) <|
  bd (gd (decide (ab<4294967296)) (at? a8 ((j13+(r4.length:Int))-2))) fun x8 =>
  ite' (bif (decide (ab<4294967296)) then(decide ((bitI .or .u64 ((ab*4294967296)%18446744073709551616) (x8%18446744073709551616))<((a6*(x7%18446744073709551616))%18446744073709551616))) else false) (
   ck (inB .i64 ((r4.length:Int)-1)) <|
   bd (at? r4 ((r4.length:Int)-1)) fun x9 =>
   some (.inl (((a6-1)%18446744073709551616),((ab+(x9%18446744073709551616))%18446744073709551616)))
   ) (
   some (.inr a6)
   )
def yzk(j13:Int)(a8:List Int)(r4:(List Int)):(Int×(List Int))->Option ((Int×(List Int))⊕(Int×(List Int))):=fun s=>match s with
 |(a6',ac) =>
  bd (jzo1 (sub a8 j13 ((j13+(r4.length:Int))+1))) fun r8 =>
  bd (qzx r8) fun r9 =>
  bd (wzl r9 ac) fun r10 =>
  ite' (decide (r10<0)) (
   bd (wzz ac r4) fun r11 =>
   some (.inl (((a6'-1)%18446744073709551616),r11))
   ) (
   some (.inr (a6',ac))
   )
def wz2(r4:(List Int)):(Int×(List Int)×(List Int))->Option ((Int×(List Int)×(List Int))⊕((List Int)×(List Int))):=fun s=>match s with
 |(j13,a8,l3) =>
  ite' (decide (0<=j13)) (
   ck (inB .i64 (j13+(r4.length:Int))) <|
   bd (at? a8 (j13+(r4.length:Int))) fun x3 =>
   ck (inB .i64 (j13+(r4.length:Int))) <|
   ck (inB .i64 ((j13+(r4.length:Int))-1)) <|
   bd (at? a8 ((j13+(r4.length:Int))-1)) fun x4 =>
   ck (inB .i64 ((r4.length:Int)-1)) <|
   bd (at? r4 ((r4.length:Int)-1)) fun x5 =>
   ck (!decide ((x5%18446744073709551616)=0)) <|
   ck (inB .i64 ((r4.length:Int)-1)) <|
   bd (at? r4 ((r4.length:Int)-1)) fun x6 =>
   bd (lp (kz2 j13 a8 r4) ((min (((bitI .or .u64 (((x3%18446744073709551616)*4294967296)%18446744073709551616) (x4%18446744073709551616)).tdiv (x5%18446744073709551616))%18446744073709551616) 4294967295),(((bitI .or .u64 (((x3%18446744073709551616)*4294967296)%18446744073709551616) (x4%18446744073709551616))-(((min (((bitI .or .u64 (((x3%18446744073709551616)*4294967296)%18446744073709551616) (x4%18446744073709551616)).tdiv (x5%18446744073709551616))%18446744073709551616) 4294967295)*(x6%18446744073709551616))%18446744073709551616))%18446744073709551616)))<|fun a6 =>
   bd (α:=Unit⊕Unit) (
    ite' (decide (a6=0)) (
     some (.inr ())
     ) (
     some (.inl ())
     )
   )<|fun o=>match o with
    | .inl ()=>(
      ck (inB .i64 (j13+(r4.length:Int))) <|
      ck (inB .i64 ((j13+(r4.length:Int))+1)) <|
      ck (kzy a8 j13 ((j13+(r4.length:Int))+1)) <|
      bd (wz1 r4 [(a6%4294967296)]) fun r7 =>
      bd (lp (yzk j13 a8 r4) (a6,r7))<|fun(a6',ac) =>
      bd (jzo1 (sub a8 j13 ((j13+(r4.length:Int))+1))) fun r12 =>
      bd (qzx r12) fun r13 =>
      bd (wzz r13 ac) fun r14 =>
      ck (kzy a8 j13 ((j13+(r4.length:Int))+1)) <|
      ck (kzy (qzy a8 (Int.toNat j13) (List.replicate (Int.toNat (((j13+(r4.length:Int))+1)-j13)) 0)) j13 ((j13+(r4.length:Int))+1)) <|
      bd (at? l3 j13) fun x10 =>
      ck (inB .i64 (j13-1)) <|
      some (.inl ((j13-1),(qzy (qzy a8 (Int.toNat j13) (List.replicate (Int.toNat (((j13+(r4.length:Int))+1)-j13)) 0)) (Int.toNat j13) (List.take (Int.toNat (((j13+(r4.length:Int))+1)-j13)) r14)),(List.set l3 (Int.toNat j13) (a6'%4294967296))))
     )
    | .inr ()=>(
      ck (inB .i64 (j13-1)) <|
      some (.inl ((j13-1),a8,l3))
     )
   ) (
   some (.inr (a8,l3))
   )
def kzf(ax0:List Int)(y1:List Int):Option ((List Int)×(List Int)) :=
 bd (wzl ax0 y1) fun r1 =>
 ite' (decide (r1<0)) (
  some ([],ax0)
  ) (
  ite' (decide ((y1.length:Int)=1)) (
   bd (at? y1 0) fun x1 =>
   bd (jzs ax0 x1) fun r2 =>
   bd (qzx [r2.2]) fun r3 =>
   some (r2.1,r3)
   ) (
   bd (lp (kzx y1) 0)<|fun aa =>
   bd (wzm y1 aa) fun r4 =>
   bd (wzm ax0 aa) fun r5 =>
   bd (jzo1 r5) fun r6 =>
   ck (decide (List.length (r6++[0,0])*4<=140737488355328)) <|
   ck (inB .i64 ((ax0.length:Int)-(r4.length:Int))) <|
   ck (inB .i64 (((ax0.length:Int)-(r4.length:Int))+2)) <|
   ck (mkOk (((ax0.length:Int)-(r4.length:Int))+2) 4) <|
   ck (inB .i64 ((List.length (r6++[0,0]):Int)-(r4.length:Int))) <|
   ck (inB .i64 (((List.length (r6++[0,0]):Int)-(r4.length:Int))-1)) <|
   bd (lp (wz2 r4) ((((List.length (r6++[0,0]):Int)-(r4.length:Int))-1),(r6++[0,0]),(List.replicate (Int.toNat (((ax0.length:Int)-(r4.length:Int))+2)) 0)))<|fun(a8,l3) =>
   bd (qzx l3) fun r15 =>
   bd (qzx a8) fun r16 =>
   ck (inB .i64 (-aa)) <|
   bd (wzm r16 (-aa)) fun r17 =>
   some (r15,r17)
   )
  )
def vzb(ax0:List Int):(Int×(List Int))->Option ((Int×(List Int))⊕(List Int)):=fun s=>match s with
 |(t8,l1) =>
  ite' (decide (t8<(ax0.length:Int))) (
   bd (at? ax0 t8) fun x1 =>
   ck (decide (List.length (l1++[(x1%256),((Int.fdiv x1 256)%256),((Int.fdiv x1 65536)%256),((Int.fdiv x1 16777216)%256)])*1<=140737488355328)) <|
   ck (inB .i64 (t8+1)) <|
   some (.inl ((t8+1),(l1++[(x1%256),((Int.fdiv x1 256)%256),((Int.fdiv x1 65536)%256),((Int.fdiv x1 16777216)%256)])))
   ) (
   some (.inr l1)
   )
def qz7(ax0:List Int):Option ((List UInt8)) :=
 bd (lp (vzb ax0) (0,[]))<|fun l1 =>
 bd (jzpc l1) fun r1 =>
 bd (qzdj (vzg r1)) fun r2 =>
 some r2
def qzau(a0:List UInt8)(b1:List UInt8):Option ((List UInt8)) :=
 bd (wzn a0) fun r1 =>
 bd (wzn b1) fun r2 =>
 bd (wz1 r1 r2) fun r3 =>
 bd (qz7 r3) fun r4 =>
 some r4
def qzg3(a0:List UInt8)(b1:List UInt8):Option ((List UInt8)) :=
 bd (wzn a0) fun r1 =>
 bd (wzn b1) fun r2 =>
 bd (vzk r1 r2) fun r3 =>
 bd (qz7 r3) fun r4 =>
 some r4
def qzgu(a0:List UInt8)(b1:List UInt8):Option (Int) :=
 bd (wzn a0) fun r1 =>
 bd (wzn b1) fun r2 =>
 bd (wzl r1 r2) fun r3 =>
 some r3
def qzgk(a0:List UInt8)(b1:List UInt8):Option ((List UInt8)×Int) :=
 bd (wzn a0) fun r1 =>
 bd (wzn b1) fun r2 =>
 bd (wzl r1 r2) fun r3 =>
 ite' (decide (r3<0)) (
  some ([],3)
  ) (
  bd (wzz r1 r2) fun r4 =>
  bd (qz7 r4) fun r5 =>
  some (r5,0)
  )
def wzp:(List Int×List Int)->Option ((List Int×List Int)⊕List Int):=fun s=>match s with
 |(x,y)=>ite' (decide ((y.length:Int)=0)) (some (.inr x)) (bd (kzf x y) fun r=>some (.inl (y,r.2)))
def qzeo(a0:List UInt8)(b1:List UInt8):Option (List UInt8) :=
 bd (wzn a0) fun x =>
 bd (wzn b1) fun y =>
 bd (lp wzp (x,y)) fun r =>
 qz7 r
def jzp8(l0:List jzn4)(ar1:jzn4):Option ((List jzn4)×Int) :=
 bd (jzn8 l0) fun r1 =>
 ite' (!decide (r1=0)) (
  some ([],r1)
  ) (
  bd (jzom ar1) fun r2 =>
  ite' (!r2) (
   some ([],1)
   ) (
   bd (jzox l0 ar1 (fun a0 a1=>jzon a0 a1)) fun r3 =>
   ite' (bif (!r3.2) then(decide ((l0.length:Int)=4000)) else false) (
    some ([],2)
    ) (
    ite' (!r3.2) (
     none
     ) (
     bd (at? l0 r3.1) fun x1 =>
     bd (jzo4 x1 ar1) fun r5 =>
     ite' (!r5) (
      some ([],24)
      ) (
      bd (at? l0 r3.1) fun x2 =>
      ite' (decide (x2.Known<=ar1.Known)) (
       some ([],9)
       ) (
       bd (vzi l0) fun r6 =>
       bd (at? r6 r3.1) fun x3 =>
       some ((List.set r6 (Int.toNat r3.1) ar1),0)
       )
      )
     )
    )
   )
  )
def insL{α:Type}(l:List α)(k:Nat)(x:α):List α:=l.take k++[x]++l.drop k
def jzp6(l0:List jzn4)(r1:jzn4):Option (List jzn4×Int) :=
 bd (jzn8 l0) fun e=>bd (jzom r1) fun b=>bd (jzox l0 r1 (fun a0 a1=>jzon a0 a1)) fun p =>
 ck (decide (e=0)&&b&&!p.2&&decide (0<=p.1)&&decide (Int.toNat p.1<=l0.length)&&decide (l0.length<4000)) (some (insL l0 (Int.toNat p.1) r1,0))
def jzot(l0:List jzn4)(r1:jzn4):Option (List jzn4×Int):=match jzp8 l0 r1 with
 |some y=>some y
 |none=>jzp6 l0 r1
def jzpo(a0:List jzn4)(b1:List jzn4):Int->Option (Int⊕(Unit⊕((List jzn4)×Int))):=fun s=>match s with
 |t16 =>
  ite' (decide (t16<(List.length [a0,b1]:Int))) (
   bd (at? [a0,b1] t16) fun x1 =>
   bd (jzn8 x1) fun r1 =>
   ite' (!decide (r1=0)) (
    some (.inr (.inr ([],r1)))
    ) (
    ck (inB .i64 (t16+1)) <|
    some (.inl (t16+1))
    )
   ) (
   some (.inr (.inl ()))
   )
def jzow :((List jzn4)×(List jzn4)×(List jzn4))->Option (((List jzn4)×(List jzn4)×(List jzn4))⊕(((List jzn4)×(List jzn4)×(List jzn4))⊕((List jzn4)×Int))):=fun s=>match s with
 |(a0',b1',l2) =>
  ite' (bif (decide (0<(a0'.length:Int))) then(decide (0<(b1'.length:Int))) else false) (
   bd (at? a0' 0) fun x2 =>
   bd (at? b1' 0) fun x3 =>
   bd (jzon x2 x3) fun r2 =>
   ite' (decide (r2<0)) (
    bd (at? a0' 0) fun x4 =>
    ck (decide (List.length (l2++[x4])*48<=140737488355328)) <|
    ck (kzy a0' 1 (a0'.length:Int)) <|
    some (.inl ((sub a0' 1 (a0'.length:Int)),b1',(l2++[x4])))
    ) (
    ite' (decide (0<r2)) (
     bd (at? b1' 0) fun x5 =>
     ck (decide (List.length (l2++[x5])*48<=140737488355328)) <|
     ck (kzy b1' 1 (b1'.length:Int)) <|
     some (.inl (a0',(sub b1' 1 (b1'.length:Int)),(l2++[x5])))
     ) (
     bd (at? a0' 0) fun x6 =>
     bd (at? b1' 0) fun x7 =>
     bd (jzo4 x6 x7) fun r3 =>
     ite' (!r3) (
      some (.inr (.inr ([],24)))
      ) (
      bd (at? a0' 0) fun x8 =>
      bd (at? b1' 0) fun x9 =>
      ck (decide (List.length (l2++[(jzn4.mk x8.Gauge x8.Seq x8.From x8.To x8.Stage (min x8.Known x9.Known))])*48<=140737488355328)) <|
      ck (kzy a0' 1 (a0'.length:Int)) <|
      ck (kzy b1' 1 (b1'.length:Int)) <|
      some (.inl ((sub a0' 1 (a0'.length:Int)),(sub b1' 1 (b1'.length:Int)),(l2++[(jzn4.mk x8.Gauge x8.Seq x8.From x8.To x8.Stage (min x8.Known x9.Known))])))
      )
     )
    )
   ) (
   some (.inr (.inl (a0',b1',l2)))
   )
def jzoc(a0:List jzn4)(b1:List jzn4):Option ((List jzn4)×Int) :=
 bd (lp (jzpo a0 b1) 0)<|fun o=>match o with
 | .inl ()=>(
   bd (lp (jzow) (a0,b1,[]))<|fun o=>match o with
   | .inl (a0',b1',l2)=>(
     ck (decide (List.length (l2++a0')*48<=140737488355328)) <|
     ck (decide (List.length ((l2++a0')++b1')*48<=140737488355328)) <|
     ite' (decide (4000<(List.length ((l2++a0')++b1'):Int))) (
      some ([],2)
      ) (
      some (((l2++a0')++b1'),0)
      )
    )
   | .inr o=>(
     some o
    )
  )
 | .inr o=>(
   some o
  )
def jzrk(ax:Int)(l0:List jzn4):(Int×(List (Int×Bool)))->Option ((Int×(List (Int×Bool)))⊕(List (Int×Bool))):=fun s=>match s with
 |(t18,m0) =>
  ite' (decide (t18<(l0.length:Int))) (
   bd (at? l0 t18) fun x1 =>
   ite' (decide (x1.Gauge=ax)) (
    ck (inB .i64 (t18+1)) <|
    some (.inl ((t18+1),(mput keqI m0 x1.Known true)))
    ) (
    ck (inB .i64 (t18+1)) <|
    some (.inl ((t18+1),m0))
    )
   ) (
   some (.inr m0)
   )
def jzqx(l0:List jzn4)(ax:Int):Option ((List Int)×Int) :=
 bd (jzn8 l0) fun r1 =>
 ite' (!decide (r1=0)) (
  some ([],r1)
  ) (
  bd (lp (jzrk ax l0) (0,([]:List (Int×Bool))))<|fun m0 =>
  bd (jzoa m0) fun r2 =>
  some (r2,0)
  )
def yzs(a0:qza):Option (Bool) :=
 ite' ((a0.Neg==false)&&(decide (a0.Num=[])&&(decide (a0.Den=[])&&true))) (
  some true
  ) (
  bd (gd (bif (!decide (a0.Num=[])) then(!decide (a0.Den=[])) else false) (qzcb a0.Num)) fun r1 =>
  bd (gd (bif (bif (!decide (a0.Num=[])) then(!decide (a0.Den=[])) else false) then r1 else false) (qzcb a0.Den)) fun r2 =>
  bd (gd (bif (bif (bif (!decide (a0.Num=[])) then(!decide (a0.Den=[])) else false) then r1 else false) then r2 else false) (qzeo a0.Num a0.Den)) fun r3 =>
  some (bif (bif (bif (bif (!decide (a0.Num=[])) then(!decide (a0.Den=[])) else false) then r1 else false) then r2 else false) then(decide (r3=[1])) else false)
  )
def jzg(a0:qza):Option (qzf) :=
 bd (gd (!(decide (a0.Num=[]))) (yzs a0)) fun r1 =>
 ite' (bif (decide (a0.Num=[])) then true else(!r1)) (
  some (qzf.mk false [] [1])
  ) (
  some (qzf.mk a0.Neg a0.Num a0.Den)
  )
def wz3(f0:qzf)(g1:qzf):Option (qzf) :=
 bd (qzau f0.num g1.den) fun r1 =>
 bd (qzau g1.num f0.den) fun r2 =>
 bd (qzau f0.den g1.den) fun r3 =>
 ite' (f0.neg==g1.neg) (
  bd (qzg3 r1 r2) fun r4 =>
  some (qzf.mk f0.neg r4 r3)
  ) (
  bd (qzgu r1 r2) fun r5 =>
  bd (α:=(List UInt8)×(List UInt8)×qzf) (
   ite' (decide (r5<0)) (
    some (r2,r1,(qzf.mk g1.neg f0.num f0.den))
    ) (
    some (r1,r2,f0)
    )
  )<|fun(a5,b6,b0) =>
   bd (qzgk a5 b6) fun r6 =>
   some (qzf.mk b0.neg r6.1 r3)
  )
def wz5b(a0:qza):Option (Bool) :=
 bd (yzs a0) fun r1 =>
 some (bif r1 then(!a0.Neg) else false)
def wz5(f0:qzf)(g1:qzf):Option (qzf) :=
 bd (wz3 f0 (qzf.mk (!g1.neg) g1.num g1.den)) fun r1 =>
 some r1
def wz0(a0:qza)(b1:qza):Option (Int) :=
 bd (jzg a0) fun r1 =>
 bd (jzg b1) fun r2 =>
 bd (wz5 r1 r2) fun r3 =>
 ite' (decide (r3.num=[])) (
  some 0
  ) (
  ite' r3.neg (
   some (-1)
   ) (
   some 1
   )
  )
def wz5e(ac0:wz2d):Int->Option (Int⊕(Unit⊕Int)):=fun s=>match s with
 |t18 =>
  ite' (decide (t18<(ac0.Points.length:Int))) (
   bd (at? ac0.Points t18) fun x1 =>
   bd (wz5p x1.Stage) fun r1 =>
   ite' (!r1) (
    some (.inr (.inr 3))
    ) (
    bd (wz5b x1.Flow) fun r2 =>
    ite' (!r2) (
     some (.inr (.inr 1))
     ) (
     ck (!(decide (0<t18))||inB .i64 (t18-1)) <|
     bd (gd (decide (0<t18)) (at? ac0.Points (t18-1))) fun x2 =>
     ck (!((decide (0<t18))&&(!(decide (x1.Stage<=x2.Stage))))||inB .i64 (t18-1)) <|
     bd (gd ((decide (0<t18))&&(!(decide (x1.Stage<=x2.Stage)))) (at? ac0.Points (t18-1))) fun x3 =>
     bd (gd ((decide (0<t18))&&(!(decide (x1.Stage<=x2.Stage)))) (wz0 x1.Flow x3.Flow)) fun r3 =>
     ite' (bif (decide (0<t18)) then(bif (decide (x1.Stage<=x2.Stage)) then true else(decide (r3<0))) else false) (
      some (.inr (.inr 1))
      ) (
      ck (inB .i64 (t18+1)) <|
      some (.inl (t18+1))
      )
     )
    )
   ) (
   some (.inr (.inl ()))
   )
def wz31(ac0:wz2d):Option (Int) :=
 ite' (bif (decide ((ac0.Points.length:Int)<1)) then true else(decide (16<(ac0.Points.length:Int)))) (
  some 2
  ) (
  bd (lp (wz5e ac0) 0)<|fun o=>match o with
  | .inl ()=>(
    some 0
   )
  | .inr o=>(
    some o
   )
  )
def jzo9(v0:jzn5):Option (Bool) :=
 ite' (bif (bif (bif (bif (bif (bif (bif (bif (decide (v0.Gauge<0)) then true else(decide (40<=v0.Gauge))) then true else(decide (v0.Seq<0))) then true else(decide (1099511627776<v0.Seq))) then true else(decide (v0.Known<0))) then true else(decide (14609<v0.Known))) then true else(decide (v0.From<0))) then true else(decide (v0.To<=v0.From))) then true else(decide (1402560<v0.To))) (
  some false
  ) (
  ite' (decide (v0.Kind=1)) (
   bd (gd (decide (v0.Shift=0)) (wz31 v0.Curve)) fun r1 =>
   some (bif (decide (v0.Shift=0)) then(decide (r1=0)) else false)
   ) (
   ck (!(bif (Option.isSome (mget keqI (mput keqI (mput keqI ([]:List (Int×Int)) 2 1000) 3 960) v0.Kind)) then(decide ((v0.Curve.Points.length:Int)=0)) else false)||inB .i64 (-(Option.getD (mget keqI (mput keqI (mput keqI ([]:List (Int×Int)) 2 1000) 3 960) v0.Kind) 0))) <|
   some (bif (bif (bif (Option.isSome (mget keqI (mput keqI (mput keqI ([]:List (Int×Int)) 2 1000) 3 960) v0.Kind)) then(decide ((v0.Curve.Points.length:Int)=0)) else false) then(decide ((-(Option.getD (mget keqI (mput keqI (mput keqI ([]:List (Int×Int)) 2 1000) 3 960) v0.Kind) 0))<=v0.Shift)) else false) then(decide (v0.Shift<=(Option.getD (mget keqI (mput keqI (mput keqI ([]:List (Int×Int)) 2 1000) 3 960) v0.Kind) 0))) else false)
   )
  )
def jzrd(l0:List jzn5):Int->Option (Int⊕(Unit⊕Int)):=fun s=>match s with
 |t10 =>
  ite' (decide (t10<(l0.length:Int))) (
   bd (at? l0 t10) fun x1 =>
   bd (jzo9 x1) fun r1 =>
   ck (!((!(!r1))&&(decide (0<t10)))||inB .i64 (t10-1)) <|
   bd (gd ((!(!r1))&&(decide (0<t10))) (at? l0 (t10-1))) fun x2 =>
   bd (gd ((!(!r1))&&(decide (0<t10))) (jzo3 x2 x1)) fun r2 =>
   ite' (bif (!r1) then true else(bif (decide (0<t10)) then(decide (0<=r2)) else false)) (
    some (.inr (.inr 1))
    ) (
    ck (inB .i64 (t10+1)) <|
    some (.inl (t10+1))
    )
   ) (
   some (.inr (.inl ()))
   )
def jzoo(l0:List jzn5):Option (Int) :=
 ite' (decide (400<(l0.length:Int))) (
  some 2
  ) (
  bd (lp (jzrd l0) 0)<|fun o=>match o with
  | .inl ()=>(
    some 0
   )
  | .inr o=>(
    some o
   )
  )
def jzqh(l0:List jzn5)(ae:Int)(a3:Int)(af:Int)(a4:Int):Option (Int×Int) :=
 bd (jzoo l0) fun r1 =>
 ite' (!decide (r1=0)) (
  some (0,r1)
  ) (
  ite' (bif (!decide (ae=2)) then(!decide (ae=3)) else false) (
   some (0,1)
   ) (
   bd (jzqk af a4) fun r2 =>
   ite' (!decide (r2=0)) (
    some (0,r2)
    ) (
    bd (jzqm l0 ae a3 af a4) fun r3 =>
    some (r3,0)
    )
   )
  )
def jzql(l0:List jzn5)(v1:jzn5):Option ((List jzn5)×Int) :=
 bd (jzoo l0) fun r1 =>
 ite' (!decide (r1=0)) (
  some ([],r1)
  ) (
  bd (jzo9 v1) fun r2 =>
  ite' (!r2) (
   some ([],1)
   ) (
   bd (jzoq l0 v1 (fun a0 a1=>jzo3 a0 a1)) fun r3 =>
   ite' r3.2 (
    bd (at? l0 r3.1) fun x1 =>
    bd (jzqq x1 v1) fun r4 =>
    ite' r4 (
     some ([],9)
     ) (
     some ([],24)
     )
    ) (
    ite' (decide (400<=(l0.length:Int))) (
     some ([],2)
     ) (
     none
     )
    )
   )
  )
def jzqi(l0:List jzn5)(v1:jzn5):Option (List jzn5×Int) :=
 bd (jzoo l0) fun e=>bd (jzo9 v1) fun b=>bd (jzoq l0 v1 (fun a0 a1=>jzo3 a0 a1)) fun p =>
 ck (decide (e=0)&&b&&!p.2&&decide (0<=p.1)&&decide (Int.toNat p.1=l0.length)&&decide (l0.length<400)) (some (insL l0 (Int.toNat p.1) v1,0))
def jzpu(l0:List jzn5)(v1:jzn5):Option (List jzn5×Int):=match jzql l0 v1 with
 |some y=>some y
 |none=>jzqi l0 v1
def jzpe(ar0:jzn4)(vs1:List jzn5)(an:Int):Option (wz2h) :=
 bd (jzqh vs1 3 ar0.Gauge ar0.From an) fun r1 =>
 ck (inB .i64 (ar0.From+r1.1)) <|
 ck (inB .i64 (ar0.To+r1.1)) <|
 ite' (decide ((min 1402560 (ar0.To+r1.1))<=(max 0 (ar0.From+r1.1)))) (
  some (wz2h.mk 0 0)
  ) (
  some (wz2h.mk (max 0 (ar0.From+r1.1)) (min 1402560 (ar0.To+r1.1)))
  )
def jzqu(ar0:jzn4)(vs1:List jzn5)(an:Int):Option (wz2h×Int) :=
 bd (jzom ar0) fun r1 =>
 ite' (!r1) (
  some ((wz2h.mk 0 0),1)
  ) (
  bd (jzoo vs1) fun r2 =>
  ite' (!decide (r2=0)) (
   some ((wz2h.mk 0 0),r2)
   ) (
   bd (jzpk an) fun r3 =>
   ite' (!r3) (
    some ((wz2h.mk 0 0),3)
    ) (
    bd (jzpe ar0 vs1 an) fun r4 =>
    some (r4,0)
    )
   )
  )
def jzol(a3:Int)(a4:Int)(l0:List jzn4)(t3:wz2h)(vs1:List jzn5):(Int×(List (Int×Bool))×(List jzn7))->Option ((Int×(List (Int×Bool))×(List jzn7))⊕((List (Int×Bool))×(List jzn7))):=fun s=>match s with
 |(t34,m1,l5) =>
  ite' (decide (t34<(l0.length:Int))) (
   bd (at? l0 t34) fun x1 =>
   bd (α:=Unit⊕Unit) (
    ite' (bif (!decide (x1.Gauge=a3)) then true else(decide (a4<x1.Known))) (
     some (.inr ())
     ) (
     some (.inl ())
     )
   )<|fun o=>match o with
    | .inl ()=>(
      bd (jzpe x1 vs1 a4) fun r1 =>
      ite' (decide ((max r1.From t3.From)<(min r1.To t3.To))) (
       ck (decide (List.length (l5++[(jzn7.mk (wz2h.mk (max r1.From t3.From) (min r1.To t3.To)) x1.Stage)])*24<=140737488355328)) <|
       ck (inB .i64 (t34+1)) <|
       some (.inl ((t34+1),(mput keqI (mput keqI m1 (max r1.From t3.From) true) (min r1.To t3.To) true),(l5++[(jzn7.mk (wz2h.mk (max r1.From t3.From) (min r1.To t3.To)) x1.Stage)])))
       ) (
       ck (inB .i64 (t34+1)) <|
       some (.inl ((t34+1),m1,l5))
       )
     )
    | .inr ()=>(
      ck (inB .i64 (t34+1)) <|
      some (.inl ((t34+1),m1,l5))
     )
   ) (
   some (.inr (m1,l5))
   )
def jzp0(r2:(List Int)):(Int×(List Int))->Option ((Int×(List Int))⊕(List Int)):=fun s=>match s with
 |(t90,l7) =>
  ite' (decide (t90<(List.length (List.replicate (Int.toNat (r2.length:Int)) (0:Int)):Int))) (
   bd (at? l7 t90) fun x2 =>
   ck (inB .i64 (t90+1)) <|
   some (.inl ((t90+1),(List.set l7 (Int.toNat t90) (-1))))
   ) (
   some (.inr l7)
   )
def jzq8(r4:Int×Bool)(x3:jzn7):(Int×(List Int))->Option ((Int×(List Int))⊕(List Int)):=fun s=>match s with
 |(k25,l7'') =>
  ite' (decide (k25<r4.1)) (
   bd (at? l7'' k25) fun x4 =>
   ck (inB .i64 (k25+1)) <|
   some (.inl ((k25+1),(List.set l7'' (Int.toNat k25) x3.stage)))
   ) (
   some (.inr l7'')
   )
def jzp1(l5:List jzn7)(r2:(List Int)):(Int×(List Int))->Option ((Int×(List Int))⊕(List Int)):=fun s=>match s with
 |(t99,l7') =>
  ite' (decide (t99<(l5.length:Int))) (
   bd (at? l5 t99) fun x3 =>
   bd (jzpg r2 x3.t.From) fun r3 =>
   bd (jzpg r2 x3.t.To) fun r4 =>
   bd (lp (jzq8 r4 x3) (r3.1,l7'))<|fun l7'' =>
   ck (inB .i64 (t99+1)) <|
   some (.inl ((t99+1),l7''))
   ) (
   some (.inr l7')
   )
def jzop(l0:List jzn4)(vs1:List jzn5)(a3:Int)(t3:wz2h)(a4:Int):Option ((List Int)×(List Int)) :=
 bd (lp (jzol a3 a4 l0 t3 vs1) (0,(mput keqI (mput keqI ([]:List (Int×Bool)) t3.From true) t3.To true),[]))<|fun(m1,l5) =>
 bd (jzoa m1) fun r2 =>
 ck (mkOk (r2.length:Int) 8) <|
 bd (lp (jzp0 r2) (0,(List.replicate (Int.toNat (r2.length:Int)) 0)))<|fun l7 =>
 bd (lp (jzp1 l5 r2) (0,l7))<|fun l7' =>
 some (r2,l7')
def jzpz :jzn6->(List wz3g)->Option ((List wz3g)⊕Unit):=fun x s=>match s with
 |l7 =>
  ite' (decide (0<=x.stage)) (
   ck (inB .i64 (x.t.To-x.t.From)) <|
   ck (decide (List.length (l7++[(wz3g.mk x.t.From x.t.To [(wz2w.mk x.stage (x.t.To-x.t.From))] 0 0)])*56<=140737488355328)) <|
   some (.inl (l7++[(wz3g.mk x.t.From x.t.To [(wz2w.mk x.stage (x.t.To-x.t.From))] 0 0)]))
   ) (
   ck (decide (List.length (l7++[(wz3g.mk x.t.From x.t.To [] 0 1000)])*56<=140737488355328)) <|
   some (.inl (l7++[(wz3g.mk x.t.From x.t.To [] 0 1000)]))
   )
def jzpj(l0:List jzn4)(vs1:List jzn5)(a3:Int)(t3:wz2h)(a4:Int):Option ((List wz3g)×Int) :=
 bd (jzn8 l0) fun r1 =>
 bd (jzoo vs1) fun r2 =>
 bd (jzq3 [r1,r2]) fun r3 =>
 ite' (!decide (r3=0)) (
  some ([],r3)
  ) (
  bd (gd (!(bif (bif (bif (bif (decide (a3<0)) then true else(decide (40<=a3))) then true else(decide (t3.From<0))) then true else(decide (t3.To<t3.From))) then true else(decide (1402560<t3.To)))) (jzpk a4)) fun r4 =>
  ite' (bif (bif (bif (bif (bif (decide (a3<0)) then true else(decide (40<=a3))) then true else(decide (t3.From<0))) then true else(decide (t3.To<t3.From))) then true else(decide (1402560<t3.To))) then true else(!r4)) (
   some ([],3)
   ) (
   bd (jzop l0 vs1 a3 t3 a4) fun c1 =>
   bd (jzou c1.1 c1.2 (fun l=>wz4k jzpz l [])) fun l =>
   bd (wz20 jzpz l []) fun o=>match o with
   | .inl l7=>(
     ite' (decide (2000<(l7.length:Int))) (
      some ([],2)
      ) (
      some (l7,0)
      )
    )
   |.inr _=>none
   )
  )
def jzqa(l0:List jzn4)(vs1:List jzn5)(ar2:jzn4)(ah:Int):Option ((List wz2h)×Int) :=
 bd (jzn8 l0) fun r1 =>
 bd (jzoo vs1) fun r2 =>
 bd (jzq3 [r1,r2]) fun r3 =>
 ite' (!decide (r3=0)) (
  some ([],r3)
  ) (
  bd (jzot l0 ar2) fun r4 =>
  ite' (!decide (r4.2=0)) (
   some ([],r4.2)
   ) (
   bd (jzpk ah) fun r5 =>
   ite' (!r5) (
    some ([],3)
    ) (
    bd (jzph ) fun r6 =>
    bd (jzop l0 vs1 ar2.Gauge r6 ah) fun c1 =>
    bd (jzph ) fun r7 =>
    bd (jzop r4.1 vs1 ar2.Gauge r7 ah) fun c2 =>
    bd (jzpv (jzou c1.1 c1.2) (jzou c2.1 c2.2)) fun r8 =>
    some (r8,0)
    )
   )
  )
def jzqo(l0:List jzn4)(vs1:List jzn5)(v2:jzn5)(ah:Int):Option ((List wz2h)×Int) :=
 bd (jzn8 l0) fun r1 =>
 bd (jzoo vs1) fun r2 =>
 bd (jzq3 [r1,r2]) fun r3 =>
 ite' (!decide (r3=0)) (
  some ([],r3)
  ) (
  bd (jzpu vs1 v2) fun r4 =>
  ite' (!decide (r4.2=0)) (
   some ([],r4.2)
   ) (
   bd (jzpk ah) fun r5 =>
   ite' (!r5) (
    some ([],3)
    ) (
    bd (jzph ) fun r6 =>
    bd (jzop l0 vs1 v2.Gauge r6 ah) fun c1 =>
    bd (jzph ) fun r7 =>
    bd (jzop l0 r4.1 v2.Gauge r7 ah) fun c2 =>
    bd (jzpv (jzou c1.1 c1.2) (jzou c2.1 c2.2)) fun r8 =>
    some (r8,0)
    )
   )
  )
def jzo6 :Option (Bool) :=
 bd (jzqp ) fun r1 =>
 bd (jzor 95 125) fun r2 =>
 bd (jzpj r1.1 [r1.2] 3 r2 1) fun r3 =>
 bd (jzor 95 125) fun r4 =>
 bd (jzpj r1.1 [r1.2] 3 r4 2) fun r5 =>
 bd (jzor 95 125) fun r6 =>
 bd (jzpj r1.1 [r1.2] 3 r6 3) fun r7 =>
 bd (at? r1.1 0) fun x1 =>
 bd (at? r1.1 0) fun x2 =>
 bd (at? r1.1 2) fun x3 =>
 bd (jzot r1.1 x1) fun r8 =>
 bd (jzot r1.1 (jzn4.mk x2.Gauge x2.Seq x2.From x2.To 51 x2.Known)) fun r9 =>
 bd (jzot r1.1 (jzn4.mk x3.Gauge x3.Seq x3.From x3.To x3.Stage 0)) fun r10 =>
 bd (jzqa r1.1 [] (jzn4.mk 3 3 112 125 60 2) 2) fun r11 =>
 bd (jzqo r1.1 [] r1.2 3) fun r12 =>
 bd (jzqx r1.1 3) fun r13 =>
 bd (at? r1.1 1) fun x4 =>
 bd (jzqu x4 [r1.2] 3) fun r14 =>
 ck (kzy r1.1 0 2) <|
 ck (kzy r1.1 1 (r1.1.length:Int)) <|
 bd (jzoc (sub r1.1 0 2) (sub r1.1 1 (r1.1.length:Int))) fun r15 =>
 bd (gd (!(bif (!(bif (bif (bif (bif (bif (bif (bif (bif (bif (bif (decide (r3.2=0)) then(decide (r5.2=0)) else false) then(decide (r7.2=0)) else false) then(decide (r8.2=9)) else false) then(decide (r9.2=24)) else false) then(decide (r10.2=0)) else false) then(decide (r11.2=0)) else false) then(decide (r12.2=0)) else false) then(decide (r13.2=0)) else false) then(decide (r14.2=0)) else false) then(decide (r15.2=0)) else false)) then true else(!decide ((r10.1.length:Int)=3)))) (at? r10.1 2)) fun x5 =>
 bd (gd (!(bif (bif (!(bif (bif (bif (bif (bif (bif (bif (bif (bif (bif (decide (r3.2=0)) then(decide (r5.2=0)) else false) then(decide (r7.2=0)) else false) then(decide (r8.2=9)) else false) then(decide (r9.2=24)) else false) then(decide (r10.2=0)) else false) then(decide (r11.2=0)) else false) then(decide (r12.2=0)) else false) then(decide (r13.2=0)) else false) then(decide (r14.2=0)) else false) then(decide (r15.2=0)) else false)) then true else(!decide ((r10.1.length:Int)=3))) then true else(!(decide (x5.Gauge=x3.Gauge)&&(decide (x5.Seq=x3.Seq)&&(decide (x5.From=x3.From)&&(decide (x5.To=x3.To)&&(decide (x5.Stage=x3.Stage)&&(decide (x5.Known=0)&&true))))))))) (jzn8 r1.1)) fun r16 =>
 bd (gd (!(bif (bif (bif (!(bif (bif (bif (bif (bif (bif (bif (bif (bif (bif (decide (r3.2=0)) then(decide (r5.2=0)) else false) then(decide (r7.2=0)) else false) then(decide (r8.2=9)) else false) then(decide (r9.2=24)) else false) then(decide (r10.2=0)) else false) then(decide (r11.2=0)) else false) then(decide (r12.2=0)) else false) then(decide (r13.2=0)) else false) then(decide (r14.2=0)) else false) then(decide (r15.2=0)) else false)) then true else(!decide ((r10.1.length:Int)=3))) then true else(!(decide (x5.Gauge=x3.Gauge)&&(decide (x5.Seq=x3.Seq)&&(decide (x5.From=x3.From)&&(decide (x5.To=x3.To)&&(decide (x5.Stage=x3.Stage)&&(decide (x5.Known=0)&&true)))))))) then true else(!decide (r16=0)))) (at? r1.1 0)) fun x6 =>
 bd (gd (!(bif (bif (bif (!(bif (bif (bif (bif (bif (bif (bif (bif (bif (bif (decide (r3.2=0)) then(decide (r5.2=0)) else false) then(decide (r7.2=0)) else false) then(decide (r8.2=9)) else false) then(decide (r9.2=24)) else false) then(decide (r10.2=0)) else false) then(decide (r11.2=0)) else false) then(decide (r12.2=0)) else false) then(decide (r13.2=0)) else false) then(decide (r14.2=0)) else false) then(decide (r15.2=0)) else false)) then true else(!decide ((r10.1.length:Int)=3))) then true else(!(decide (x5.Gauge=x3.Gauge)&&(decide (x5.Seq=x3.Seq)&&(decide (x5.From=x3.From)&&(decide (x5.To=x3.To)&&(decide (x5.Stage=x3.Stage)&&(decide (x5.Known=0)&&true)))))))) then true else(!decide (r16=0)))) (jzom x6)) fun r17 =>
 bd (gd (!(bif (bif (bif (bif (!(bif (bif (bif (bif (bif (bif (bif (bif (bif (bif (decide (r3.2=0)) then(decide (r5.2=0)) else false) then(decide (r7.2=0)) else false) then(decide (r8.2=9)) else false) then(decide (r9.2=24)) else false) then(decide (r10.2=0)) else false) then(decide (r11.2=0)) else false) then(decide (r12.2=0)) else false) then(decide (r13.2=0)) else false) then(decide (r14.2=0)) else false) then(decide (r15.2=0)) else false)) then true else(!decide ((r10.1.length:Int)=3))) then true else(!(decide (x5.Gauge=x3.Gauge)&&(decide (x5.Seq=x3.Seq)&&(decide (x5.From=x3.From)&&(decide (x5.To=x3.To)&&(decide (x5.Stage=x3.Stage)&&(decide (x5.Known=0)&&true)))))))) then true else(!decide (r16=0))) then true else(!r17))) (jzo7 r15.1 r1.1)) fun r18 =>
 ite' (bif (bif (bif (bif (bif (!(bif (bif (bif (bif (bif (bif (bif (bif (bif (bif (decide (r3.2=0)) then(decide (r5.2=0)) else false) then(decide (r7.2=0)) else false) then(decide (r8.2=9)) else false) then(decide (r9.2=24)) else false) then(decide (r10.2=0)) else false) then(decide (r11.2=0)) else false) then(decide (r12.2=0)) else false) then(decide (r13.2=0)) else false) then(decide (r14.2=0)) else false) then(decide (r15.2=0)) else false)) then true else(!decide ((r10.1.length:Int)=3))) then true else(!(decide (x5.Gauge=x3.Gauge)&&(decide (x5.Seq=x3.Seq)&&(decide (x5.From=x3.From)&&(decide (x5.To=x3.To)&&(decide (x5.Stage=x3.Stage)&&(decide (x5.Known=0)&&true)))))))) then true else(!decide (r16=0))) then true else(!r17)) then true else(!r18)) (
  some false
  ) (
  bd (jzpd 95 100) fun r19 =>
  bd (jzo5 100 120 50) fun r20 =>
  bd (jzpd 120 125) fun r21 =>
  bd (jzpi r3.1 [r19,r20,r21]) fun r22 =>
  bd (jzpd 95 100) fun r23 =>
  bd (jzo5 100 110 50) fun r24 =>
  bd (jzo5 110 114 60) fun r25 =>
  bd (jzo5 114 120 50) fun r26 =>
  bd (jzpd 120 125) fun r27 =>
  bd (jzpi r5.1 [r23,r24,r25,r26,r27]) fun r28 =>
  bd (jzpd 95 100) fun r29 =>
  bd (jzo5 100 106 50) fun r30 =>
  bd (jzo5 106 110 60) fun r31 =>
  bd (jzo5 110 120 50) fun r32 =>
  bd (jzpd 120 125) fun r33 =>
  bd (jzpi r7.1 [r29,r30,r31,r32,r33]) fun r34 =>
  bd (jzor 114 125) fun r35 =>
  bd (wz6e r11.1 [r35]) fun r36 =>
  bd (gd r36 (jzor 106 114)) fun r37 =>
  bd (gd r36 (jzor 126 130)) fun r38 =>
  bd (gd r36 (jzor 136 140)) fun r39 =>
  bd (gd r36 (wz6e r12.1 [r37,r38,r39])) fun r40 =>
  bd (gd (bif (bif (bif r22 then r28 else false) then r34 else false) then(bif r36 then r40 else false) else false) (jzqd r13.1 [0,1,2])) fun r41 =>
  bd (gd (bif (bif (bif (bif r22 then r28 else false) then r34 else false) then(bif r36 then r40 else false) else false) then r41 else false) (jzor 106 110)) fun r42 =>
  some (bif (bif (bif (bif (bif r22 then r28 else false) then r34 else false) then(bif r36 then r40 else false) else false) then r41 else false) then(decide (r14.1.From=r42.From)&&(decide (r14.1.To=r42.To)&&true)) else false)
  )
def jz16(r3:(List wz3g)×Int):(Int×Int×Int×(List Int))->Option ((Int×Int×Int×(List Int))⊕((Int×(List Int))⊕Bool)):=fun s=>match s with
 |(at9,b9,t71,l3) =>
  ite' (decide (t71<(r3.1.length:Int))) (
   bd (at? r3.1 t71) fun x1 =>
   bd (α:=Int) (
    ite' (decide (0<(x1.Table.length:Int))) (
     bd (at? x1.Table 0) fun x2 =>
     some x2.Stage
     ) (
     some (-1)
     )
   )<|fun ay =>
    bd (gd (bif (bif (decide ((x1.Table.length:Int)=1)) then(decide (x1.Lo=0)) else false) then(decide (x1.Hi=0)) else false) (at? x1.Table 0)) fun x3 =>
    ck (!(bif (bif (decide ((x1.Table.length:Int)=1)) then(decide (x1.Lo=0)) else false) then(decide (x1.Hi=0)) else false)||inB .i64 (x1.To-x1.From)) <|
    ite' (bif (bif (bif (!decide (x1.From=at9)) then true else(decide (x1.To<=x1.From))) then true else(decide (ay=b9))) then true else(!(bif (bif (bif (bif (decide ((x1.Table.length:Int)=1)) then(decide (x1.Lo=0)) else false) then(decide (x1.Hi=0)) else false) then(decide (x3.Ticks=(x1.To-x1.From))) else false) then true else(bif (bif (decide ((x1.Table.length:Int)=0)) then(decide (x1.Lo=0)) else false) then(decide (x1.Hi=1000)) else false)))) (
     some (.inr (.inr false))
     ) (
     ck (inB .i64 (x1.To-1)) <|
     ck (inB .i64 (x1.From+x1.To)) <|
     ck (inB .i64 ((x1.From+x1.To).tdiv 2)) <|
     ck (decide (List.length (l3++[x1.From,(x1.To-1),((x1.From+x1.To).tdiv 2)])*8<=140737488355328)) <|
     ck (inB .i64 (t71+1)) <|
     some (.inl (x1.To,ay,(t71+1),(l3++[x1.From,(x1.To-1),((x1.From+x1.To).tdiv 2)])))
     )
   ) (
   some (.inr (.inl (at9,l3)))
   )
def jz14(l0:List jzn4)(q2:jzoj)(vs1:List jzn5)(x4:Int):(Int×Int×Int)->Option ((Int×Int×Int)⊕(Int⊕Bool)):=fun s=>match s with
 |(b7,am,aq) =>
  ite' (decide (aq<(l0.length:Int))) (
   bd (at? l0 aq) fun x5 =>
   bd (jzqu x5 vs1 q2.Known) fun r5 =>
   ite' (!decide (r5.2=0)) (
    some (.inr (.inr false))
    ) (
    ite' (bif (bif (bif (bif (decide (x5.Gauge=q2.Gauge)) then(decide (x5.Known<=q2.Known)) else false) then(decide (r5.1.From<=x4)) else false) then(decide (x4<r5.1.To)) else false) then(decide (b7<x5.Seq)) else false) (
     ck (inB .i64 (aq+1)) <|
     some (.inl (x5.Seq,x5.Stage,(aq+1)))
     ) (
     ck (inB .i64 (aq+1)) <|
     some (.inl (b7,am,(aq+1)))
     )
    )
   ) (
   some (.inr (.inl am))
   )
def jz17(l0:List jzn4)(l3:List Int)(q2:jzoj)(r3:(List wz3g)×Int)(vs1:List jzn5):Int->Option (Int⊕(Unit⊕Bool)):=fun s=>match s with
 |b2 =>
  ite' (decide (b2<(l3.length:Int))) (
   bd (at? l3 b2) fun x4 =>
   bd (lp (jz14 l0 q2 vs1 x4) ((-1),(-1),0))<|fun o=>match o with
   | .inl am=>(
     bd (jz18 r3.1 x4) fun r6 =>
     ite' (!decide (am=r6)) (
      some (.inr (.inr false))
      ) (
      ck (inB .i64 (b2+1)) <|
      some (.inl (b2+1))
      )
    )
   | .inr o=>(
     some (.inr (.inr o))
    )
   ) (
   some (.inr (.inl ()))
   )
def jz15(l3:List Int)(q2:jzoj)(r10:(List wz3g)×Int)(r3:(List wz3g)×Int)(r8:(List wz3g)×Int):Int->Option (Int⊕(Unit⊕Bool)):=fun s=>match s with
 |b3 =>
  ite' (decide (b3<(List.length (l3++[((q2.Ticks.From+q2.Ticks.To).tdiv 2),(((q2.Ticks.From+q2.Ticks.To).tdiv 2)-1)]):Int))) (
   bd (at? (l3++[((q2.Ticks.From+q2.Ticks.To).tdiv 2),(((q2.Ticks.From+q2.Ticks.To).tdiv 2)-1)]) b3) fun x6 =>
   bd (jz18 r8.1 x6) fun r11 =>
   bd (α:=Int) (
    ite' (decide (((q2.Ticks.From+q2.Ticks.To).tdiv 2)<=x6)) (
     bd (jz18 r10.1 x6) fun r12 =>
     some r12
     ) (
     some r11
     )
   )<|fun bb =>
    bd (jz18 r3.1 x6) fun r13 =>
    ite' (!decide (bb=r13)) (
     some (.inr (.inr false))
     ) (
     ck (inB .i64 (b3+1)) <|
     some (.inl (b3+1))
     )
   ) (
   some (.inr (.inl ()))
   )
def jz19(l0:List jzn4)(vs1:List jzn5)(q2:jzoj):Option (Bool) :=
 bd (gd (!(bif (decide (60<(l0.length:Int))) then true else(decide (40<(vs1.length:Int))))) (jzn8 l0)) fun r1 =>
 ite' (bif (bif (decide (60<(l0.length:Int))) then true else(decide (40<(vs1.length:Int)))) then true else(!decide (r1=0))) (
  bd (jzo6 ) fun r2 =>
  some r2
  ) (
  bd (jzpj l0 vs1 q2.Gauge q2.Ticks q2.Known) fun r3 =>
  ite' (!decide (r3.2=0)) (
   bd (jzo6 ) fun r4 =>
   some (bif r4 then(decide ((r3.1.length:Int)=0)) else false)
   ) (
   bd (lp (jz16 r3) (q2.Ticks.From,(-2),0,[]))<|fun o=>match o with
   | .inl (at9,l3)=>(
     ite' (!decide (at9=q2.Ticks.To)) (
      some false
      ) (
      bd (lp (jz17 l0 l3 q2 r3 vs1) 0)<|fun o=>match o with
      | .inl ()=>(
        ck (inB .i64 (q2.Ticks.From+q2.Ticks.To)) <|
        ck (inB .i64 ((q2.Ticks.From+q2.Ticks.To).tdiv 2)) <|
        bd (jzor q2.Ticks.From ((q2.Ticks.From+q2.Ticks.To).tdiv 2)) fun r7 =>
        bd (jzpj l0 vs1 q2.Gauge r7 q2.Known) fun r8 =>
        bd (jzor ((q2.Ticks.From+q2.Ticks.To).tdiv 2) q2.Ticks.To) fun r9 =>
        bd (jzpj l0 vs1 q2.Gauge r9 q2.Known) fun r10 =>
        ite' (bif (!decide (r8.2=0)) then true else(!decide (r10.2=0))) (
         some false
         ) (
         ck (inB .i64 (((q2.Ticks.From+q2.Ticks.To).tdiv 2)-1)) <|
         ck (decide (List.length (l3++[((q2.Ticks.From+q2.Ticks.To).tdiv 2),(((q2.Ticks.From+q2.Ticks.To).tdiv 2)-1)])*8<=140737488355328)) <|
         bd (lp (jz15 l3 q2 r10 r3 r8) 0)<|fun o=>match o with
         | .inl ()=>(
           bd (jzo6 ) fun r14 =>
           some r14
          )
         | .inr o=>(
           some o
          )
         )
       )
      | .inr o=>(
        some o
       )
      )
    )
   | .inr o=>(
     some o
    )
   )
  )
end Go.Am

