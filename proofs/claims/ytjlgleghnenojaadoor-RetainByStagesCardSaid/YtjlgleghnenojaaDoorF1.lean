/- Part F1: the functions of this seat as functions of plain values. No condition. -/
import Derived.Test.YtjlgleghnenojaaDoorX1
set_option linter.unusedVariables false
namespace Go.Am
structure wz2c where
 From:Int
 Stages:List Int
deriving DecidableEq,Inhabited
structure kzhx where
 Raw:Int
 Hour:Int
 Day:Int
 Month:Int
deriving DecidableEq,Inhabited
structure kzhv where
 Gauge:Int
 From:Int
 To:Int
deriving DecidableEq,Inhabited
structure kzh0 where
 Freezes:List kzhv
 Gauge:Int
 Before:Int
 Today:Int
deriving DecidableEq,Inhabited
structure jz50 where
 e0:Int
 e1:Int
 e2:Int
 e3:Int
deriving DecidableEq,Inhabited
structure wz2h where
 From:Int
 To:Int
deriving DecidableEq,Inhabited
structure kzht where
 Level:Int
 From:Int
 To:Int
deriving DecidableEq,Inhabited
structure wz2w where
 Stage:Int
 Ticks:Int
deriving DecidableEq,Inhabited
structure wz3g where
 From:Int
 To:Int
 Table:List wz2w
 Lo:Int
 Hi:Int
deriving DecidableEq,Inhabited
structure kzhz where
 e0:Int
 e1:Int
 e2:Int
 e3:Int
 e4:Int
deriving DecidableEq,Inhabited
structure kzhu where
 limits:kzhz
 freezes:List kzhv
 today:Int
deriving DecidableEq,Inhabited
def kzob(x y:kzhx):Bool:=(decide (x.Raw=y.Raw)&&(decide (x.Hour=y.Hour)&&(decide (x.Day=y.Day)&&(decide (x.Month=y.Month)&&true))))
def kzm0(x y:kzhv):Bool:=(decide (x.Gauge=y.Gauge)&&(decide (x.From=y.From)&&(decide (x.To=y.To)&&true)))
def jz8t(x y:jz50):Bool:=(decide (x.e0=y.e0)&&(decide (x.e1=y.e1)&&(decide (x.e2=y.e2)&&(decide (x.e3=y.e3)&&true))))
def wz9x(x y:wz2h):Bool:=(decide (x.From=y.From)&&(decide (x.To=y.To)&&true))
def kzoa(x y:kzht):Bool:=(decide (x.Level=y.Level)&&(decide (x.From=y.From)&&(decide (x.To=y.To)&&true)))
def jza2(x y:wz2w):Bool:=(decide (x.Stage=y.Stage)&&(decide (x.Ticks=y.Ticks)&&true))
def kznr(x y:kzhz):Bool:=(decide (x.e0=y.e0)&&(decide (x.e1=y.e1)&&(decide (x.e2=y.e2)&&(decide (x.e3=y.e3)&&(decide (x.e4=y.e4)&&true)))))
def kzgi:List UInt8:=[0,1,2,2,3,3,3,3,4,4,4,4,4,4,4,4,5,5,5,5,5,5,5,5,5,5,5,5,5,5,5,5,6,6,6,6,6,6,6,6,6,6,6,6,6,6,6,6,6,6,6,6,6,6,6,6,6,6,6,6,6,6,6,6,7,7,7,7,7,7,7,7,7,7,7,7,7,7,7,7,7,7,7,7,7,7,7,7,7,7,7,7,7,7,7,7,7,7,7,7,7,7,7,7,7,7,7,7,7,7,7,7,7,7,7,7,7,7,7,7,7,7,7,7,7,7,7,7,8,8,8,8,8,8,8,8,8,8,8,8,8,8,8,8,8,8,8,8,8,8,8,8,8,8,8,8,8,8,8,8,8,8,8,8,8,8,8,8,8,8,8,8,8,8,8,8,8,8,8,8,8,8,8,8,8,8,8,8,8,8,8,8,8,8,8,8,8,8,8,8,8,8,8,8,8,8,8,8,8,8,8,8,8,8,8,8,8,8,8,8,8,8,8,8,8,8,8,8,8,8,8,8,8,8,8,8,8,8,8,8,8,8,8,8,8,8,8,8,8,8,8,8,8,8,8,8]
def jzov(a:Int):List Int->List Int
 |[]=>[a]
 |b :: l=>bif decide (a<=b) then a :: b :: l else b :: jzov a l
def jzpf:List Int->List Int
 |[]=>[]
 |a :: l=>jzov a (jzpf l)
def jzoa(m:List (Int×Int)):Option (List Int):=ck (decide (m.length<=1000000000)) (some (jzpf (m.map (·.1))))
def vzi(l:List wz3g):Option (List wz3g):=ck (decide (0<l.length)&&decide (l.length*56<=140737488355328)) (some l)
def jz53(l:List wz2w):Option (List wz2w):=ck (decide (0<l.length)&&decide (l.length*16<=140737488355328)) (some l)
def wz46(h0:wz2c):Int->Option (Int⊕(Unit⊕Bool)):=fun s=>match s with
 |k3 =>
  ite' (decide (k3<(h0.Stages.length:Int))) (
   bd (at? h0.Stages k3) fun x1 =>
   bd (gd (!(decide (x1<0))) (at? h0.Stages k3)) fun x2 =>
   ite' (bif (decide (x1<0)) then true else(decide (1000<x2))) (
    some (.inr (.inr false))
    ) (
    ck (inB .i64 (k3+1)) <|
    some (.inl (k3+1))
    )
   ) (
   some (.inr (.inl ()))
   )
def wz4t(h0:wz2c):Option (Bool) :=
 ck (!(!(bif (decide (h0.From<0)) then true else(decide (40000<(h0.Stages.length:Int)))))||inB .i64 (1402560-(h0.Stages.length:Int))) <|
 ite' (bif (bif (decide (h0.From<0)) then true else(decide (40000<(h0.Stages.length:Int)))) then true else(decide ((1402560-(h0.Stages.length:Int))<h0.From))) (
  some false
  ) (
  bd (lp (wz46 h0) 0)<|fun o=>match o with
  | .inl ()=>(
    some true
   )
  | .inr o=>(
    some o
   )
  )
def kzjp(l0:List kzht)(t1:wz2h):(Int×(List kzht))->Option ((Int×(List kzht))⊕(List kzht)):=fun s=>match s with
 |(t10,l3) =>
  ite' (decide (t10<(l0.length:Int))) (
   bd (at? l0 t10) fun x1 =>
   ite' (bif (decide (t1.From<=x1.From)) then(decide (x1.To<=t1.To)) else false) (
    ck (decide (List.length (l3++[x1])*24<=140737488355328)) <|
    ck (inB .i64 (t10+1)) <|
    some (.inl ((t10+1),(l3++[x1])))
    ) (
    ck (inB .i64 (t10+1)) <|
    some (.inl ((t10+1),l3))
    )
   ) (
   some (.inr l3)
   )
def kzjq(l0:List kzht)(t1:wz2h):Option ((List kzht)) :=
 bd (lp (kzjp l0 t1) (0,[]))<|fun l3 =>
 some l3
def kzji(a9:List kzht)(x1:kzht):(Bool×Int)->Option ((Bool×Int)⊕Bool):=fun s=>match s with
 |(in8,t19) =>
  ite' (decide (t19<(a9.length:Int))) (
   bd (at? a9 t19) fun x2 =>
   ck (inB .i64 (t19+1)) <|
   some (.inl ((bif in8 then true else(bif (decide (x2.From<=x1.From)) then(decide (x1.To<=x2.To)) else false)),(t19+1)))
   ) (
   some (.inr in8)
   )
def kzjh(l0:List kzht)(a9:List kzht):(Int×(List kzht))->Option ((Int×(List kzht))⊕(List kzht)):=fun s=>match s with
 |(t13,l3) =>
  ite' (decide (t13<(l0.length:Int))) (
   bd (at? l0 t13) fun x1 =>
   bd (lp (kzji a9 x1) (false,0))<|fun in8 =>
   ite' in8 (
    ck (decide (List.length (l3++[x1])*24<=140737488355328)) <|
    ck (inB .i64 (t13+1)) <|
    some (.inl ((t13+1),(l3++[x1])))
    ) (
    ck (inB .i64 (t13+1)) <|
    some (.inl ((t13+1),l3))
    )
   ) (
   some (.inr l3)
   )
def kzjl(l0:List kzht)(a9:List kzht):Option ((List kzht)) :=
 bd (lp (kzjh l0 a9) (0,[]))<|fun l3 =>
 some l3
def kzjs(a0:List wz3g)(b1:List wz3g)(k5:Int):Int->Option (Int⊕(Unit⊕Bool)):=fun s=>match s with
 |i6 =>
  bd (at? a0 k5) fun x11 =>
  ite' (decide (i6<(x11.Table.length:Int))) (
   bd (at? a0 k5) fun x12 =>
   bd (at? x12.Table i6) fun x13 =>
   bd (at? b1 k5) fun x14 =>
   bd (at? x14.Table i6) fun x15 =>
   ite' (!(decide (x13.Stage=x15.Stage)&&(decide (x13.Ticks=x15.Ticks)&&true))) (
    some (.inr (.inr false))
    ) (
    ck (inB .i64 (i6+1)) <|
    some (.inl (i6+1))
    )
   ) (
   some (.inr (.inl ()))
   )
def kzjt(a0:List wz3g)(b1:List wz3g):Int->Option (Int⊕(Unit⊕Bool)):=fun s=>match s with
 |k5 =>
  ite' (decide (k5<(a0.length:Int))) (
   bd (at? a0 k5) fun x1 =>
   bd (at? b1 k5) fun x2 =>
   bd (gd (!(!decide (x1.From=x2.From))) (at? a0 k5)) fun x3 =>
   bd (gd (!(!decide (x1.From=x2.From))) (at? b1 k5)) fun x4 =>
   bd (gd (!(bif (!decide (x1.From=x2.From)) then true else(!decide (x3.To=x4.To)))) (at? a0 k5)) fun x5 =>
   bd (gd (!(bif (!decide (x1.From=x2.From)) then true else(!decide (x3.To=x4.To)))) (at? b1 k5)) fun x6 =>
   bd (gd (!(bif (bif (!decide (x1.From=x2.From)) then true else(!decide (x3.To=x4.To))) then true else(!decide (x5.Lo=x6.Lo)))) (at? a0 k5)) fun x7 =>
   bd (gd (!(bif (bif (!decide (x1.From=x2.From)) then true else(!decide (x3.To=x4.To))) then true else(!decide (x5.Lo=x6.Lo)))) (at? b1 k5)) fun x8 =>
   bd (gd (!(bif (bif (bif (!decide (x1.From=x2.From)) then true else(!decide (x3.To=x4.To))) then true else(!decide (x5.Lo=x6.Lo))) then true else(!decide (x7.Hi=x8.Hi)))) (at? a0 k5)) fun x9 =>
   bd (gd (!(bif (bif (bif (!decide (x1.From=x2.From)) then true else(!decide (x3.To=x4.To))) then true else(!decide (x5.Lo=x6.Lo))) then true else(!decide (x7.Hi=x8.Hi)))) (at? b1 k5)) fun x10 =>
   ite' (bif (bif (bif (bif (!decide (x1.From=x2.From)) then true else(!decide (x3.To=x4.To))) then true else(!decide (x5.Lo=x6.Lo))) then true else(!decide (x7.Hi=x8.Hi))) then true else(!decide ((x9.Table.length:Int)=(x10.Table.length:Int)))) (
    some (.inr (.inr false))
    ) (
    bd (lp (kzjs a0 b1 k5) 0)<|fun o=>match o with
    | .inl ()=>(
      ck (inB .i64 (k5+1)) <|
      some (.inl (k5+1))
     )
    | .inr o=>(
      some (.inr (.inr o))
     )
    )
   ) (
   some (.inr (.inl ()))
   )
def kzjy(a0:List wz3g)(b1:List wz3g):Option (Bool) :=
 ite' (!decide ((a0.length:Int)=(b1.length:Int))) (
  some false
  ) (
  bd (lp (kzjt a0 b1) 0)<|fun o=>match o with
  | .inl ()=>(
    some true
   )
  | .inr o=>(
    some o
   )
  )
def kzi1(af:Int)(to1:Int):Option (Bool) :=
 some (bif (bif (decide (0<=af)) then(decide (af<=to1)) else false) then(decide (to1<=1402560)) else false)
def kzia(af:Int)(to1:Int)(ap:Int):Option (wz3g) :=
 ck (inB .i64 (to1-af)) <|
 some (wz3g.mk af to1 [(wz2w.mk ap (to1-af))] 0 0)
def kzit(ax0:wz3g):Option (Bool) :=
 some (decide ((ax0.Table.length:Int)=0))
def kzir(n0:Int)(lo1:Int)(hi2:Int):Option (Bool) :=
 some (bif (decide (lo1<=n0)) then(decide (n0<=hi2)) else false)
def kzjo(ax0:wz3g):Option (Bool) :=
 some (decide ((ax0.Table.length:Int)=1))
def kzjv(al:wz3g->wz3g->Option (wz3g×Bool))(l0:List wz3g):(Int×(List wz3g))->Option ((Int×(List wz3g))⊕(List wz3g)):=fun s=>match s with
 |(t13,l3) =>
  ite' (decide (t13<(l0.length:Int))) (
   bd (at? l0 t13) fun x1 =>
   bd (α:=Unit⊕(List wz3g)) (
    ite' (decide (0<(l3.length:Int))) (
     ck (inB .i64 ((l3.length:Int)-1)) <|
     bd (at? l3 ((l3.length:Int)-1)) fun x2 =>
     bd (al x2 x1) fun r1 =>
     ite' r1.2 (
      ck (inB .i64 ((l3.length:Int)-1)) <|
      bd (at? l3 ((l3.length:Int)-1)) fun x3 =>
      some (.inr (List.set l3 (Int.toNat ((l3.length:Int)-1)) r1.1))
      ) (
      some (.inl ())
      )
     ) (
     some (.inl ())
     )
   )<|fun o=>match o with
    | .inl ()=>(
      ck (decide (List.length (l3++[x1])*56<=140737488355328)) <|
      ck (inB .i64 (t13+1)) <|
      some (.inl ((t13+1),(l3++[x1])))
     )
    | .inr l3'=>(
      ck (inB .i64 (t13+1)) <|
      some (.inl ((t13+1),l3'))
     )
   ) (
   some (.inr l3)
   )
def kzie(l0:List wz3g)(al:wz3g->wz3g->Option (wz3g×Bool)):Option ((List wz3g)) :=
 bd (lp (kzjv al l0) (0,[]))<|fun l3 =>
 some l3
def kzjw(r1:List wz3g):(Int×(List wz3g))->Option ((Int×(List wz3g))⊕(List wz3g)):=fun s=>match s with
 |(t9,ah) =>
  ite' (decide (t9<(r1.length:Int))) (
   bd (at? ah t9) fun x1 =>
   bd (jz53 x1.Table) fun r2 =>
   bd (at? ah t9) fun x2 =>
   ck (inB .i64 (t9+1)) <|
   some (.inl ((t9+1),(List.set ah (Int.toNat t9) (wz3g.mk x2.From x2.To r2 x2.Lo x2.Hi))))
   ) (
   some (.inr ah)
   )
def kzkf(l0:List wz3g):Option ((List wz3g)) :=
 bd (vzi l0) fun r1 =>
 bd (lp (kzjw r1) (0,r1))<|fun ah =>
 some ah
def kziv(n0:Int):Option (Bool) :=
 some (bif (decide (0<=n0)) then(decide (n0<40)) else false)
def kzjr(as0:Int):Option (Bool) :=
 bd (kzir as0 0 1000) fun r1 =>
 some (!r1)
def kzkd(ax0:wz3g):Int->Option (Int⊕(Unit⊕Int)):=fun s=>match s with
 |t43 =>
  ite' (decide (t43<(ax0.Table.length:Int))) (
   bd (at? ax0.Table t43) fun x1 =>
   bd (kzir x1.Stage 0 1000) fun r2 =>
   bd (gd (!(!r2)) (kzir x1.Ticks 1 1402560)) fun r3 =>
   ite' (bif (!r2) then true else(!r3)) (
    some (.inr (.inr 3))
    ) (
    ck (inB .i64 (t43+1)) <|
    some (.inl (t43+1))
    )
   ) (
   some (.inr (.inl ()))
   )
def kzkg(ax0:wz3g):(Int×Int)->Option ((Int×Int)⊕(Int⊕Int)):=fun s=>match s with
 |(ai,t61) =>
  ite' (decide (t61<(ax0.Table.length:Int))) (
   bd (at? ax0.Table t61) fun x2 =>
   ck (!(decide (0<t61))||inB .i64 (t61-1)) <|
   bd (gd (decide (0<t61)) (at? ax0.Table (t61-1))) fun x3 =>
   ite' (bif (decide (0<t61)) then(decide (x2.Stage<=x3.Stage)) else false) (
    some (.inr (.inr 1))
    ) (
    ck (inB .i64 (ai+x2.Ticks)) <|
    ck (inB .i64 (t61+1)) <|
    some (.inl ((ai+x2.Ticks),(t61+1)))
    )
   ) (
   some (.inr (.inl ai))
   )
def kzk1(ax0:wz3g):Option (Int) :=
 ite' (bif (bif (decide (ax0.From<0)) then true else(decide (ax0.To<=ax0.From))) then true else(decide (1402560<ax0.To))) (
  some 3
  ) (
  bd (kzit ax0) fun r1 =>
  ite' r1 (
   ite' (bif (bif (decide (ax0.Lo<0)) then true else(decide (ax0.Hi<ax0.Lo))) then true else(decide (1000<ax0.Hi))) (
    some 3
    ) (
    some 0
    )
   ) (
   bd (lp (kzkd ax0) 0)<|fun o=>match o with
   | .inl ()=>(
     bd (lp (kzkg ax0) (0,0))<|fun o=>match o with
     | .inl ai=>(
       ck (inB .i64 (ax0.To-ax0.From)) <|
       ite' (bif (bif (!decide (ai=(ax0.To-ax0.From))) then true else(!decide (ax0.Lo=0))) then true else(!decide (ax0.Hi=0))) (
        some 1
        ) (
        some 0
        )
      )
     | .inr o=>(
       some o
      )
    )
   | .inr o=>(
     some o
    )
   )
  )
def kzi8(n0:Int):Option (Bool) :=
 some (bif (decide (0<=n0)) then(decide (n0<=4)) else false)
def kze(f1:kzhv->Option Bool)(as0:List kzhv):Int->Option (Int⊕(Unit⊕Int)):=fun s=>match s with
 |t8 =>
  ite' (decide (t8<(as0.length:Int))) (
   bd (at? as0 t8) fun x1 =>
   bd (f1 x1) fun r1 =>
   ite' r1 (
    some (.inr (.inr t8))
    ) (
    ck (inB .i64 (t8+1)) <|
    some (.inl (t8+1))
    )
   ) (
   some (.inr (.inl ()))
   )
def qzas(as0:List kzhv)(f1:kzhv->Option Bool):Option (Int) :=
 bd (lp (kze f1 as0) 0)<|fun o=>match o with
 | .inl ()=>(
   some (-1)
  )
 | .inr o=>(
   some o
  )
def wz3d(f1:Int->Option Bool)(as0:List Int):Int->Option (Int⊕(Unit⊕Int)):=fun s=>match s with
 |t8 =>
  ite' (decide (t8<(as0.length:Int))) (
   bd (at? as0 t8) fun x1 =>
   bd (f1 x1) fun r1 =>
   ite' r1 (
    some (.inr (.inr t8))
    ) (
    ck (inB .i64 (t8+1)) <|
    some (.inl (t8+1))
    )
   ) (
   some (.inr (.inl ()))
   )
def wz29(as0:List Int)(f1:Int->Option Bool):Option (Int) :=
 bd (lp (wz3d f1 as0) 0)<|fun o=>match o with
 | .inl ()=>(
   some (-1)
  )
 | .inr o=>(
   some o
  )
def kzik(n0:Int)(c0:Int)(c1:Int):Option (kzht) :=
 ck (!decide (n0=0)) <|
 ck (inB .i64 (c1-(c1.tmod n0))) <|
 ck (!decide (n0=0)) <|
 ck (inB .i64 (c1-(c1.tmod n0))) <|
 ck (inB .i64 ((c1-(c1.tmod n0))+n0)) <|
 some (kzht.mk c0 (c1-(c1.tmod n0)) ((c1-(c1.tmod n0))+n0))
def kzh1(ax0:kzhv)(c0:kzht):Option (Bool) :=
 some (bif (decide (ax0.From<c0.To)) then(decide (c0.From<ax0.To)) else false)
def kzih(a3:Int):Option (Bool) :=
 some (bif (bif (decide ((a3.tmod 4)=0)) then(!decide ((a3.tmod 100)=0)) else false) then true else(decide ((a3.tmod 400)=0)))
def jza8(ax0:Int):Option (Int) :=
 bd (α:=Int×Int) (
  ite' (decide (65536<=ax0)) (
   some ((Int.fdiv ax0 65536),16)
   ) (
   some (ax0,0)
   )
 )<|fun(x0,n2) =>
  ite' (decide (256<=x0)) (
   ck (inB .i64 (n2+8)) <|
   ck (qzf7 kzgi ((Int.fdiv x0 256)%256)) <|
   ck (inB .i64 (wzw kzgi ((Int.fdiv x0 256)%256))) <|
   ck (inB .i64 ((n2+8)+(wzw kzgi ((Int.fdiv x0 256)%256)))) <|
   some ((n2+8)+(wzw kzgi ((Int.fdiv x0 256)%256)))
   ) (
   ck (qzf7 kzgi (x0%256)) <|
   ck (inB .i64 (wzw kzgi (x0%256))) <|
   ck (inB .i64 (n2+(wzw kzgi (x0%256)))) <|
   some (n2+(wzw kzgi (x0%256)))
   )
def wz7x(ax0:Int):Option (Int) :=
 bd (α:=Int×Int) (
  ite' (decide (4294967296<=ax0)) (
   some ((Int.fdiv ax0 4294967296),32)
   ) (
   some (ax0,0)
   )
 )<|fun(x0,n2) =>
  bd (α:=Int×Int) (
   ite' (decide (65536<=x0)) (
    ck (inB .i64 (n2+16)) <|
    some ((Int.fdiv x0 65536),(n2+16))
    ) (
    some (x0,n2)
    )
  )<|fun(x0',n2') =>
   ite' (decide (256<=x0')) (
    ck (inB .i64 (n2'+8)) <|
    ck (qzf7 kzgi ((Int.fdiv x0' 256)%256)) <|
    ck (inB .i64 (wzw kzgi ((Int.fdiv x0' 256)%256))) <|
    ck (inB .i64 ((n2'+8)+(wzw kzgi ((Int.fdiv x0' 256)%256)))) <|
    some ((n2'+8)+(wzw kzgi ((Int.fdiv x0' 256)%256)))
    ) (
    ck (qzf7 kzgi (x0'%256)) <|
    ck (inB .i64 (wzw kzgi (x0'%256))) <|
    ck (inB .i64 (n2'+(wzw kzgi (x0'%256)))) <|
    some (n2'+(wzw kzgi (x0'%256)))
    )
def kzh7(a3:Int)(a5:Int):Option (Int) :=
 bd (gd (decide (a5=2)) (kzih a3)) fun b =>
 ite' (bif decide (a5=2) then b else false) (some 29) (at? [31,28,31,30,31,30,31,31,30,31,30,31] (a5-1))
def kzh9(a0:wz3g)(b1:wz3g):Option (wz3g×Bool) :=
 bd (kzjo a0) fun r1 =>
 bd (gd r1 (kzjo b1)) fun r2 =>
 bd (gd (bif r1 then r2 else false) (at? a0.Table 0)) fun x1 =>
 bd (gd (bif r1 then r2 else false) (at? b1.Table 0)) fun x2 =>
 ite' (bif (bif r1 then r2 else false) then(decide (x1.Stage=x2.Stage)) else false) (
  bd (at? a0.Table 0) fun x3 =>
  bd (kzia a0.From b1.To x3.Stage) fun r3 =>
  some (r3,true)
  ) (
  bd (kzit a0) fun r4 =>
  bd (gd r4 (kzit b1)) fun r5 =>
  ite' (bif (bif (bif r4 then r5 else false) then(decide (a0.Lo=b1.Lo)) else false) then(decide (a0.Hi=b1.Hi)) else false) (
   some ((wz3g.mk a0.From b1.To [] a0.Lo a0.Hi),true)
   ) (
   some ((wz3g.mk 0 0 [] 0 0),false)
   )
  )
def kzj4(l0:List wz3g):Int->Option (Int⊕(Unit⊕Int)):=fun s=>match s with
 |t12 =>
  ite' (decide (t12<(l0.length:Int))) (
   bd (at? l0 t12) fun x1 =>
   ite' (bif (bif (decide (x1.From<0)) then true else(decide (x1.To<=x1.From))) then true else(decide (1402560<x1.To))) (
    some (.inr (.inr 3))
    ) (
    ck (!(decide (0<t12))||inB .i64 (t12-1)) <|
    bd (gd (decide (0<t12)) (at? l0 (t12-1))) fun x2 =>
    ite' (bif (decide (0<t12)) then(!decide (x1.From=x2.To)) else false) (
     some (.inr (.inr 1))
     ) (
     bd (kzk1 x1) fun r1 =>
     ite' (!decide (r1=0)) (
      some (.inr (.inr r1))
      ) (
      ck (inB .i64 (t12+1)) <|
      some (.inl (t12+1))
      )
     )
    )
   ) (
   some (.inr (.inl ()))
   )
def kzhy(l0:List wz3g):Option (Int) :=
 ite' (decide (2000<(l0.length:Int))) (
  some 2
  ) (
  bd (lp (kzj4 l0) 0)<|fun o=>match o with
  | .inl ()=>(
    ck (!(decide (0<(l0.length:Int)))||inB .i64 ((l0.length:Int)-1)) <|
    bd (gd (decide (0<(l0.length:Int))) (at? l0 ((l0.length:Int)-1))) fun x3 =>
    bd (gd (decide (0<(l0.length:Int))) (at? l0 0)) fun x4 =>
    ck (!(decide (0<(l0.length:Int)))||inB .i64 (x3.To-x4.From)) <|
    ite' (bif (decide (0<(l0.length:Int))) then(decide (40000<(x3.To-x4.From))) else false) (
     some 2
     ) (
     some 0
     )
   )
  | .inr o=>(
    some o
   )
  )
def kzkc(at1:Int)(r3:(List wz3g)):(Int×(List wz3g)×(List wz3g))->Option ((Int×(List wz3g)×(List wz3g))⊕(((List wz3g)×(List wz3g))⊕((List wz3g)×(List wz3g)×Int))):=fun s=>match s with
 |(t39,l2,l4) =>
  ite' (decide (t39<(r3.length:Int))) (
   bd (at? r3 t39) fun x3 =>
   ite' (decide (x3.To<=at1)) (
    ck (decide (List.length (l2++[x3])*56<=140737488355328)) <|
    ck (inB .i64 (t39+1)) <|
    some (.inl ((t39+1),(l2++[x3]),l4))
    ) (
    ite' (decide (at1<=x3.From)) (
     ck (decide (List.length (l4++[x3])*56<=140737488355328)) <|
     ck (inB .i64 (t39+1)) <|
     some (.inl ((t39+1),l2,(l4++[x3])))
     ) (
     bd (kzjo x3) fun r4 =>
     ite' r4 (
      bd (at? x3.Table 0) fun x4 =>
      bd (kzia x3.From at1 x4.Stage) fun r5 =>
      ck (decide (List.length (l2++[r5])*56<=140737488355328)) <|
      bd (at? x3.Table 0) fun x5 =>
      bd (kzia at1 x3.To x5.Stage) fun r6 =>
      ck (decide (List.length (l4++[r6])*56<=140737488355328)) <|
      ck (inB .i64 (t39+1)) <|
      some (.inl ((t39+1),(l2++[r5]),(l4++[r6])))
      ) (
      bd (kzit x3) fun r7 =>
      ite' r7 (
       ck (decide (List.length (l2++[(wz3g.mk x3.From at1 x3.Table x3.Lo x3.Hi)])*56<=140737488355328)) <|
       ck (decide (List.length (l4++[(wz3g.mk at1 x3.To x3.Table x3.Lo x3.Hi)])*56<=140737488355328)) <|
       ck (inB .i64 (t39+1)) <|
       some (.inl ((t39+1),(l2++[(wz3g.mk x3.From at1 x3.Table x3.Lo x3.Hi)]),(l4++[(wz3g.mk at1 x3.To x3.Table x3.Lo x3.Hi)])))
       ) (
       some (.inr (.inr ([],[],29)))
       )
      )
     )
    )
   ) (
   some (.inr (.inl (l2,l4)))
   )
def kzkn(l0:List wz3g)(at1:Int):Option ((List wz3g)×(List wz3g)×Int) :=
 bd (kzhy l0) fun r1 =>
 ite' (!decide (r1=0)) (
  some ([],[],r1)
  ) (
  bd (gd (!(decide ((l0.length:Int)=0))) (at? l0 0)) fun x1 =>
  ck (!(!(decide ((l0.length:Int)=0)))||inB .i64 ((l0.length:Int)-1)) <|
  bd (gd (!(decide ((l0.length:Int)=0))) (at? l0 ((l0.length:Int)-1))) fun x2 =>
  bd (gd (!(decide ((l0.length:Int)=0))) (kzir at1 x1.From x2.To)) fun r2 =>
  ite' (bif (decide ((l0.length:Int)=0)) then true else(!r2)) (
   some ([],[],1)
   ) (
   bd (kzkf l0) fun r3 =>
   bd (lp (kzkc at1 r3) (0,[],[]))<|fun o=>match o with
   | .inl (l2,l4)=>(
     some (l2,l4,0)
    )
   | .inr o=>(
     some o
    )
   )
  )
def kzjb(ax0:wz3g):Option (Int×Int) :=
 bd (kzit ax0) fun r1 =>
 ite' r1 (
  some (ax0.Lo,ax0.Hi)
  ) (
  bd (at? ax0.Table 0) fun x1 =>
  ck (inB .i64 ((ax0.Table.length:Int)-1)) <|
  bd (at? ax0.Table ((ax0.Table.length:Int)-1)) fun x2 =>
  some (x1.Stage,x2.Stage)
  )
def jz8(as0:List kzhv)(f1:kzhv->Option Bool):Option (Bool) :=
 bd (qzas as0 f1) fun r1 =>
 some (decide (0<=r1))
def kzja(ax0:kzhv):Option (Bool) :=
 bd (kziv ax0.Gauge) fun r1 =>
 some (bif (bif (bif (!r1) then true else(decide (ax0.From<0))) then true else(decide (ax0.To<=ax0.From))) then true else(decide (1402560<ax0.To)))
def kziu(as0:List Int)(f1:Int->Option Bool):Option (Bool) :=
 bd (wz29 as0 f1) fun r1 =>
 some (decide (0<=r1))
def kzip(a3:Int):Option (Int) :=
 bd (kzih a3) fun r1 =>
 ite' r1 (
  some 366
  ) (
  some 365
  )
def jzc7(ax0:Int):Option (Int) :=
 bd (wz7x ax0) fun r1 =>
 some r1
def kzh6(k0:kzhu)(b1:kzht):Option (Bool) :=
 ck (inB .i64 (b1.To-1)) <|
 ck (inB .i64 (k0.today-(b1.To-1).tdiv 96)) <|
 bd (at? [k0.limits.e0,k0.limits.e1,k0.limits.e2,k0.limits.e3,k0.limits.e4] b1.Level) fun x =>
 bd (gd (decide (x<k0.today-(b1.To-1).tdiv 96)) (jz8 k0.freezes (fun a0=>kzh1 a0 b1))) fun r =>
 some (bif decide (x<k0.today-(b1.To-1).tdiv 96) then !r else false)
def tbs(l:List wz3g):Bool:=l.all fun x=>decide (x.Table.length<=2000000)
def kzif(a0:List wz3g)(b1:List wz3g):Option (List wz3g×Int) :=
 bd (kzhy a0) fun e=>ite' (!decide (e=0)) (some ([],e)) <|
 bd (kzhy b1) fun e=>ite' (!decide (e=0)) (some ([],e)) <|
 ck (decide (0<a0.length)&&tbs a0&&tbs b1) <|
 bd (bif decide (0<a0.length)&&decide (0<b1.length) then
   bd (at? a0 ((a0.length:Int)-1)) fun x=>bd (at? b1 0) fun y =>
   ite' (!decide (x.To=y.From)) (some 1) <|
   bd (at? b1 ((b1.length:Int)-1)) fun x=>bd (at? a0 0) fun y =>
   ck (inB .i64 (x.To-y.From))<|ite' (decide (40000<x.To-y.From)) (some 2) (some 0)
  else some 0) fun e=>ite' (!decide (e=0)) (some ([],e)) <|
 bd (kzie (a0++b1) (fun a0 a1=>kzh9 a0 a1)) fun all =>
 ite' (decide (2000<(all.length:Int))) (some ([],2)) (some (all,0))
def kzlb(out:List wz3g)(x:wz3g):Option (List wz3g):=match out.getLast? with
 |none=>some [x]
 |some a=>bd (kzif [a] [x]) fun p=>match p with
  |([y],e)=>some (bif decide (e=0) then out.dropLast++[y] else out++[x])
  |_=>some (out++[x])
def jbL:List wz3g->List wz3g->Option (List wz3g)
 |[],out=>some out
 |x :: l,out=>bd (kzlb out x) fun out=>jbL l out
def kzis(l0:List wz3g):Option (List wz3g):=ck (decide (l0.length<=1000000)) (jbL l0 [])
def strs:List wz3g->List (List wz3g)
 |[]=>[]
 |x :: r=>match strs r with
  |(y :: p) :: q=>bif !decide (x.Table=[])&&!decide (y.Table=[]) then(x :: y :: p) :: q else [x] :: (y :: p) :: q
  |_=>[[x]]
def addM:List wz2w->List (Int×Int)->Option (List (Int×Int))
 |[],m=>some m
 |h :: l,m=>ck (inB .i64 (Option.getD (mget keqI m h.Stage) 0+h.Ticks)) (addM l (mput keqI m h.Stage (Option.getD (mget keqI m h.Stage) 0+h.Ticks)))
def kzmo:List wz3g->List (Int×Int)->Option (List (Int×Int))
 |[],m=>some m
 |x :: l,m=>bd (addM x.Table m) fun m=>kzmo l m
def decM(m:List (Int×Int))(s:Int):Option (List (Int×Int)):=ck (inB .i64 (Option.getD (mget keqI m s) 0-1)) (some (mput keqI m s (Option.getD (mget keqI m s) 0-1)))
def kzle(out:List wz3g)(part:List wz3g):Option (List wz3g⊕Unit) :=
 bd (at? part 0) fun x=>bd (at? part ((part.length:Int)-1)) fun y =>
 ite' (decide (x.Table=[])) (some (.inl (out++[x]))) <|
 ite' (!(decide (x.Table.length=1)&&decide (y.Table.length=1))) (some (.inr ())) <|
 bd (at? x.Table 0) fun a=>bd (at? y.Table 0) fun b =>
 ck (inB .i64 (x.From+1))<|bd (kzia x.From (x.From+1) a.Stage) fun h =>
 bd (kzmo part []) fun m=>bd (decM m a.Stage) fun m=>bd (decM m b.Stage) fun m =>
 ck (inB .i64 (y.To-1))<|bd (jzoa m) fun ks =>
 bd (bif decide (x.From+1<y.To) then bd (kzia (y.To-1) y.To b.Stage) fun z=>some [z] else some []) fun z =>
 some (.inl (out++[h]++(bif decide (x.From+1<y.To-1) then [wz3g.mk (x.From+1) (y.To-1) ((ks.filter fun s=>decide (0<Option.getD (mget keqI m s) 0)).map fun s=>wz2w.mk s (Option.getD (mget keqI m s) 0)) 0 0] else [])++z))
def smL:List (List wz3g)->List wz3g->Option (List wz3g⊕Unit)
 |[],out=>some (.inl out)
 |p :: l,out=>bd (kzle out p) fun o=>match o with
  |.inl out=>smL l out
  |.inr _=>some (.inr ())
def kzii(l0:List wz3g):Option (List wz3g×Int) :=
 bd (kzhy l0) fun e=>ite' (!decide (e=0)) (some ([],e)) <|
 ck (tbs l0) <|
 bd (smL (strs l0) []) fun o=>match o with
 |.inr _=>some ([],29)
 |.inl out=>bd (kzie out (fun a0 a1=>kzh9 a0 a1)) fun all=>ite' (decide (2000<(all.length:Int))) (some ([],2)) (some (all,0))
def tabM:List wz2w->List (Int×Int)->List (Int×Int)
 |[],m=>m
 |h :: l,m=>tabM l (mput keqI m h.Stage h.Ticks)
def subM:List wz2w->List (Int×Int)->Option (List (Int×Int))
 |[],m=>some m
 |h :: l,m=>ck (inB .i64 (Option.getD (mget keqI m h.Stage) 0-h.Ticks)) (subM l (mput keqI m h.Stage (Option.getD (mget keqI m h.Stage) 0-h.Ticks)))
def finX(y:wz3g):List wz3g->List (Int×Int)->Option (Option (List (Int×Int)))
 |[],m=>some (some m)
 |x :: l,m=>ite' (decide (min x.To y.To<=max x.From y.From)) (finX y l m) <|
  bd (kzjb x) fun p =>
  ite' (decide (y.Table=[])) (ite' (bif decide (p.1<y.Lo) then true else decide (y.Hi<p.2)) (some none) (finX y l m)) <|
  ite' (decide (p.1=p.2)) (ck (inB .i64 (min x.To y.To-max x.From y.From)&&inB .i64 (Option.getD (mget keqI m p.1) 0-(min x.To y.To-max x.From y.From))) (finX y l (mput keqI m p.1 (Option.getD (mget keqI m p.1) 0-(min x.To y.To-max x.From y.From))))) <|
  ite' (bif (bif decide (x.Table=[]) then true else !decide (max x.From y.From=x.From)) then true else !decide (min x.To y.To=x.To)) (some none) <|
  bd (subM x.Table m) fun m=>finX y l m
def finY(a:List wz3g):List wz3g->Option Bool
 |[]=>some true
 |y :: l=>bd (finX y a (tabM y.Table [])) fun o=>match o with
  |none=>some false
  |some m=>bif m.all (fun p=>decide (p.2=0)) then finY a l else some false
def kzjg(a0:List wz3g)(b1:List wz3g):Option (Bool×Int) :=
 bd (kzhy a0) fun e=>ite' (!decide (e=0)) (some (false,e)) <|
 bd (kzhy b1) fun e=>ite' (!decide (e=0)) (some (false,e)) <|
 ck (tbs a0&&tbs b1) <|
 ite' (bif decide (a0.length=0) then true else decide (b1.length=0)) (some (decide (a0.length=b1.length),0)) <|
 bd (at? a0 0) fun x=>bd (at? b1 0) fun y =>
 bd (at? a0 ((a0.length:Int)-1)) fun x2=>bd (at? b1 ((b1.length:Int)-1)) fun y2 =>
 ite' (bif !decide (x.From=y.From) then true else !decide (x2.To=y2.To)) (some (false,0)) <|
 bd (finY a0 b1) fun r=>some (r,0)
def kzig(w0:kzhx)(f1:List kzhv):Option (Int) :=
 ite' (bif (bif (bif (bif (decide (w0.Raw<0)) then true else(decide (w0.Hour<w0.Raw))) then true else(decide (w0.Day<w0.Hour))) then true else(decide (w0.Month<w0.Day))) then true else(decide (14609<w0.Month))) (
  some 3
  ) (
  ite' (decide (100<(f1.length:Int))) (
   some 2
   ) (
   bd (jz8 f1 (fun a0=>kzja a0)) fun r1 =>
   ite' r1 (
    some 1
    ) (
    some 0
    )
   )
  )
def kziy(h0:wz2c):Option (Bool) :=
 ck (!(decide ((h0.Stages.length:Int)<=40000))||inB .i64 (1402560-(h0.Stages.length:Int))) <|
 bd (gd (decide ((h0.Stages.length:Int)<=40000)) (kzir h0.From 0 (1402560-(h0.Stages.length:Int)))) fun r1 =>
 bd (gd (bif (decide ((h0.Stages.length:Int)<=40000)) then r1 else false) (kziu h0.Stages (fun a0=>kzjr a0))) fun r2 =>
 some (bif (bif (decide ((h0.Stages.length:Int)<=40000)) then r1 else false) then(!r2) else false)
def kzje :(Int×Int)->Option ((Int×Int)⊕(Int×Int)):=fun s=>match s with
 |(a6',a8) =>
  bd (kzip a8) fun r1 =>
  ite' (decide (r1<=a6')) (
   bd (kzip a8) fun r2 =>
   ck (inB .i64 (a6'-r2)) <|
   ck (inB .i64 (a8+1)) <|
   some (.inl ((a6'-r2),(a8+1)))
   ) (
   some (.inr (a6',a8))
   )
def kzjd(a8:Int):(Int×Int)->Option ((Int×Int)⊕(Int×Int)):=fun s=>match s with
 |(a6'',ab) =>
  bd (kzh7 a8 ab) fun r3 =>
  ite' (decide (r3<=a6'')) (
   bd (kzh7 a8 ab) fun r4 =>
   ck (inB .i64 (a6''-r4)) <|
   ck (inB .i64 (ab+1)) <|
   some (.inl ((a6''-r4),(ab+1)))
   ) (
   some (.inr (a6'',ab))
   )
def kzju(a6:Int):Option (Int×Int×Int×Int) :=
 ite' (bif (decide (a6<0)) then true else(decide (14609<a6))) (
  some (0,0,0,3)
  ) (
  bd (lp (kzje) (a6,2000))<|fun(a6',a8) =>
  bd (lp (kzjd a8) (a6',1))<|fun(a6'',ab) =>
  ck (inB .i64 (a6''+1)) <|
  some (a8,ab,(a6''+1),0)
  )
def kzjj(a3:Int):(Int×Int)->Option ((Int×Int)⊕Int):=fun s=>match s with
 |(aa,y9) =>
  ite' (decide (y9<a3)) (
   bd (kzip y9) fun r2 =>
   ck (inB .i64 (aa+r2)) <|
   ck (inB .i64 (y9+1)) <|
   some (.inl ((aa+r2),(y9+1)))
   ) (
   some (.inr aa)
   )
def kzj5(a5:Int)(a3:Int):(Int×Int)->Option ((Int×Int)⊕Int):=fun s=>match s with
 |(aa',m10) =>
  ite' (decide (m10<a5)) (
   bd (kzh7 a3 m10) fun r3 =>
   ck (inB .i64 (aa'+r3)) <|
   ck (inB .i64 (m10+1)) <|
   some (.inl ((aa'+r3),(m10+1)))
   ) (
   some (.inr aa')
   )
def kzj3(a3:Int)(a5:Int)(ag:Int):Option (Int×Int) :=
 bd (gd (!(bif (bif (bif (bif (decide (a3<2000)) then true else(decide (2040<=a3))) then true else(decide (a5<1))) then true else(decide (12<a5))) then true else(decide (ag<1)))) (kzh7 a3 a5)) fun r1 =>
 ite' (bif (bif (bif (bif (bif (decide (a3<2000)) then true else(decide (2040<=a3))) then true else(decide (a5<1))) then true else(decide (12<a5))) then true else(decide (ag<1))) then true else(decide (r1<ag))) (
  some (0,3)
  ) (
  ck (inB .i64 (ag-1)) <|
  bd (lp (kzjj a3) ((ag-1),2000))<|fun aa =>
  bd (lp (kzj5 a5 a3) (aa,1))<|fun aa' =>
  some (aa',0)
  )
def kzio(w0:kzhx)(f1:List kzhv)(g2:Int)(aj:Int):Option (kzhu×Int) :=
 bd (kzig w0 f1) fun e =>
 ite' (!decide (e=0)) (some (kzhu.mk (kzhz.mk 0 0 0 0 0) [] 0,e)) <|
 bd (kziv g2) fun b =>
 ite' (bif (bif !b then true else decide (aj<0)) then true else decide (14609<aj)) (some (kzhu.mk (kzhz.mk 0 0 0 0 0) [] 0,3)) <|
 some (kzhu.mk (kzhz.mk 0 w0.Raw w0.Hour w0.Day w0.Month) (List.filter (fun x=>decide (x.Gauge=g2)) f1) aj,0)
def kzky(out:List wz3g)(x:wz3g):Option (List wz3g):=match out.getLast? with
 |none=>some [x]
 |some a=>bd (kzh9 a x) fun p=>some (bif p.2 then out.dropLast++[p.1] else out++[x])
def ofL(f:Int):Int->List Int->List wz3g->Option (List wz3g)
 |_,[],out=>some out
 |k,s :: l,out=>ck (inB .i64 (f+k)&&inB .i64 (f+k+1))<|bd (kzia (f+k) (f+k+1) s) fun x=>bd (kzky out x) fun out=>ofL f (k+1) l out
def kzj8(h0:wz2c):Option (List wz3g×Int) :=
 bd (kziy h0) fun b=>ite' (!b) (some ([],1)) <|
 bd (ofL h0.From 0 h0.Stages []) fun out=>ite' (decide (2000<(out.length:Int))) (some ([],2)) (some (out,0))
def kzj2(x3:wz3g):(Int×(List (Int×Int)))->Option ((Int×(List (Int×Int)))⊕(List (Int×Int))):=fun s=>match s with
 |(t60,m2) =>
  ite' (decide (t60<(x3.Table.length:Int))) (
   bd (at? x3.Table t60) fun x4 =>
   ck (inB .i64 (t60+1)) <|
   some (.inl ((t60+1),(mput keqI m2 x4.Stage x4.Ticks)))
   ) (
   some (.inr m2)
   )
def kzjm(h1:wz2c)(x3:wz3g):(Int×(List (Int×Int)))->Option ((Int×(List (Int×Int)))⊕((List (Int×Int))⊕Bool)):=fun s=>match s with
 |(t84,m2') =>
  ite' (decide (t84<(List.length (sub h1.Stages (x3.From-h1.From) (x3.To-h1.From)):Int))) (
   bd (at? (sub h1.Stages (x3.From-h1.From) (x3.To-h1.From)) t84) fun x5 =>
   bd (kzit x3) fun r3 =>
   bd (gd r3 (kzir x5 x3.Lo x3.Hi)) fun r4 =>
   bd (gd (!(bif r3 then(!r4) else false)) (kzit x3)) fun r5 =>
   ite' (bif (bif r3 then(!r4) else false) then true else(bif (!r5) then(decide ((Option.getD (mget keqI m2' x5) 0)=0)) else false)) (
    some (.inr (.inr false))
    ) (
    ck (inB .i64 ((Option.getD (mget keqI m2' x5) 0)-1)) <|
    ck (inB .i64 (t84+1)) <|
    some (.inl ((t84+1),(mput keqI m2' x5 ((Option.getD (mget keqI m2' x5) 0)-1))))
    )
   ) (
   some (.inr (.inl m2'))
   )
def kzjz(h1:wz2c)(l0:List wz3g):Int->Option (Int⊕(Unit⊕Bool)):=fun s=>match s with
 |t52 =>
  ite' (decide (t52<(l0.length:Int))) (
   bd (at? l0 t52) fun x3 =>
   bd (lp (kzj2 x3) (0,([]:List (Int×Int))))<|fun m2 =>
   ck (inB .i64 (x3.From-h1.From)) <|
   ck (inB .i64 (x3.To-h1.From)) <|
   ck (kzy h1.Stages (x3.From-h1.From) (x3.To-h1.From)) <|
   bd (lp (kzjm h1 x3) (0,m2))<|fun o=>match o with
   | .inl m2'=>(
     ck (inB .i64 (t52+1)) <|
     some (.inl (t52+1))
    )
   | .inr o=>(
     some (.inr (.inr o))
    )
   ) (
   some (.inr (.inl ()))
   )
def kzj6(l0:List wz3g)(h1:wz2c):Option (Bool) :=
 bd (kzhy l0) fun r1 =>
 bd (gd (!(!decide (r1=0))) (kziy h1)) fun r2 =>
 ite' (bif (!decide (r1=0)) then true else(!r2)) (
  some false
  ) (
  ite' (decide ((l0.length:Int)=0)) (
   some (decide ((h1.Stages.length:Int)=0))
   ) (
   bd (at? l0 0) fun x1 =>
   ck (!(!(!decide (h1.From=x1.From)))||inB .i64 ((l0.length:Int)-1)) <|
   bd (gd (!(!decide (h1.From=x1.From))) (at? l0 ((l0.length:Int)-1))) fun x2 =>
   ck (!(!(!decide (h1.From=x1.From)))||inB .i64 (x2.To-h1.From)) <|
   ite' (bif (!decide (h1.From=x1.From)) then true else(!decide ((h1.Stages.length:Int)=(x2.To-h1.From)))) (
    some false
    ) (
    bd (lp (kzjz h1 l0) 0)<|fun o=>match o with
    | .inl ()=>(
      some true
     )
    | .inr o=>(
      some o
     )
    )
   )
  )
def kzi2(a7:Int)(a2:Int):Option (kzht) :=
 ite' (decide (a7=0)) (
  bd (kzik 1 a7 a2) fun r1 =>
  some r1
  ) (
  ite' (decide (a7=1)) (
   bd (kzik 4 a7 a2) fun r2 =>
   some r2
   ) (
   ite' (decide (a7=2)) (
    bd (kzik 96 a7 a2) fun r3 =>
    some r3
    ) (
    ck (inB .i64 (a2.tdiv 96)) <|
    bd (kzju (a2.tdiv 96)) fun r4 =>
    ck (inB .i64 ((a2.tdiv 96)-r4.2.2.1)) <|
    ck (inB .i64 (((a2.tdiv 96)-r4.2.2.1)+1)) <|
    bd (kzh7 r4.1 r4.2.1) fun r5 =>
    ite' (decide (a7=4)) (
     bd (kzj3 r4.1 1 1) fun r6 =>
     bd (kzip r4.1) fun r7 =>
     ck (inB .i64 (r6.1*96)) <|
     ck (inB .i64 (r6.1+r7)) <|
     ck (inB .i64 ((r6.1+r7)*96)) <|
     some (kzht.mk a7 (r6.1*96) ((r6.1+r7)*96))
     ) (
     ck (inB .i64 ((((a2.tdiv 96)-r4.2.2.1)+1)*96)) <|
     ck (inB .i64 ((((a2.tdiv 96)-r4.2.2.1)+1)+r5)) <|
     ck (inB .i64 (((((a2.tdiv 96)-r4.2.2.1)+1)+r5)*96)) <|
     some (kzht.mk a7 ((((a2.tdiv 96)-r4.2.2.1)+1)*96) (((((a2.tdiv 96)-r4.2.2.1)+1)+r5)*96))
     )
    )
   )
  )
def kzic(n0:Int)(a2:Int):Option (kzht×Int) :=
 bd (kzi8 n0) fun r1 =>
 ite' (bif (bif (!r1) then true else(decide (a2<0))) then true else(decide (1402560<=a2))) (
  some ((kzht.mk 0 0 0),3)
  ) (
  bd (kzi2 n0 a2) fun r2 =>
  some (r2,0)
  )
def kzh3(k0:kzhu)(a2:Int):Nat->Int->Option (kzht)
 |0,_=>none
 |n+1,level=>bd (kzic level a2) fun p=>bd (kzh6 k0 p.1) fun m =>
  ite' m (some p.1) (ite' (decide (level=1)) (some (kzht.mk 0 p.1.From p.1.To)) (kzh3 k0 a2 n (level-1)))
def kzid(k0:kzhu)(a2:Int):Option (kzht):=kzh3 k0 a2 4 4
def kzla(w0:kzhx)(f1:List kzhv)(ad:Int)(am:Int)(ak:Int):Option (Int×Int) :=
 bd (kzio w0 f1 ad ak) fun r1 =>
 ite' (!decide (r1.2=0)) (
  some (0,r1.2)
  ) (
  ite' (bif (decide (am<0)) then true else(decide (1402560<=am))) (
   some (0,3)
   ) (
   bd (kzid r1.1 am) fun r2 =>
   some (r2.Level,0)
   )
  )
def kziw(b0:kzht):Option (Bool) :=
 bd (kzi8 b0.Level) fun r1 =>
 bd (gd (bif (bif r1 then(decide (0<=b0.From)) else false) then(decide (b0.From<1402560)) else false) (kzi2 b0.Level b0.From)) fun r2 =>
 some (bif (bif (bif r1 then(decide (0<=b0.From)) else false) then(decide (b0.From<1402560)) else false) then(decide (r2.Level=b0.Level)&&(decide (r2.From=b0.From)&&(decide (r2.To=b0.To)&&true))) else false)
def kzi4(c0:wz2h)(c1:kzhu)(st:List kzht->Option Bool):(Int×kzht×(List kzht))->Option ((Int×kzht×(List kzht))⊕((kzht×(List kzht))⊕(List kzht))):=fun s=>match s with
 |(at5,a4,ys) =>
  ite' (decide (at5<c0.To)) (
   bd (kzid c1 at5) fun r1 =>
   ite' (decide (r1.Level=0)) (
    some (.inl (r1.To,(kzht.mk a4.Level a4.From (min r1.To c0.To)),ys))
    ) (
    ite' (decide (a4.From<a4.To)) (
     bd (st (ys++[a4])) fun s1 =>
     ite' s1 (
      some (.inr (.inr (ys++[a4])))
      ) (
      bd (st ((ys++[a4])++[r1])) fun s2 =>
      ite' s2 (
       some (.inr (.inr ((ys++[a4])++[r1])))
       ) (
       some (.inl (r1.To,(kzht.mk 0 r1.To r1.To),((ys++[a4])++[r1])))
       )
      )
     ) (
     bd (st (ys++[r1])) fun s3 =>
     ite' s3 (
      some (.inr (.inr (ys++[r1])))
      ) (
      some (.inl (r1.To,(kzht.mk 0 r1.To r1.To),(ys++[r1])))
      )
     )
    )
   ) (
   some (.inr (.inl (a4,ys)))
   )
def kzil(c0:wz2h)(c1:kzhu)(st:List kzht->Option Bool):Option (List kzht) :=
 bd (lp (kzi4 c0 c1 st) (c0.From,(kzht.mk 0 c0.From c0.From),[]))<|fun o=>match o with
 | .inl (a4,ys)=>(
   ite' (decide (a4.From<a4.To)) (
    bd (st (ys++[a4])) fun s4 =>
    ite' s4 (
     some (ys++[a4])
     ) (
     some (ys++[a4])
     )
    ) (
    some ys
    )
  )
 | .inr o=>(
   some o
  )
def kzix(ac:List kzht)(l0:List wz3g):(Int×Int)->Option ((Int×Int)⊕(Unit⊕((List wz3g)×Int))):=fun s=>match s with
 |(ao,t24) =>
  ite' (decide (t24<(ac.length:Int))) (
   bd (at? ac t24) fun x1 =>
   bd (α:=Unit⊕Unit) (
    ite' (decide (x1.Level=0)) (
     some (.inr ())
     ) (
     some (.inl ())
     )
   )<|fun o=>match o with
    | .inl ()=>(
      bd (kziw x1) fun r2 =>
      bd (gd (!(bif (!r2) then true else(decide ((l0.length:Int)=0)))) (at? l0 0)) fun x2 =>
      ck (!(!(bif (bif (!r2) then true else(decide ((l0.length:Int)=0))) then true else(decide (x1.From<x2.From))))||inB .i64 ((l0.length:Int)-1)) <|
      bd (gd (!(bif (bif (!r2) then true else(decide ((l0.length:Int)=0))) then true else(decide (x1.From<x2.From)))) (at? l0 ((l0.length:Int)-1))) fun x3 =>
      ite' (bif (bif (bif (bif (!r2) then true else(decide ((l0.length:Int)=0))) then true else(decide (x1.From<x2.From))) then true else(decide (x3.To<x1.To))) then true else(decide (x1.From<ao))) (
       some (.inr (.inr ([],1)))
       ) (
       ck (inB .i64 (t24+1)) <|
       some (.inl (x1.To,(t24+1)))
       )
     )
    | .inr ()=>(
      ck (inB .i64 (t24+1)) <|
      some (.inl (ao,(t24+1)))
     )
   ) (
   some (.inr (.inl ()))
   )
def kzi9(ac:List kzht):((List wz3g)×Int×(List wz3g))->Option (((List wz3g)×Int×(List wz3g))⊕(((List wz3g)×(List wz3g))⊕((List wz3g)×Int))):=fun s=>match s with
 |(ae,t72,l2) =>
  ite' (decide (t72<(ac.length:Int))) (
   bd (at? ac t72) fun x4 =>
   bd (α:=Unit⊕Unit) (
    ite' (decide (x4.Level=0)) (
     some (.inr ())
     ) (
     some (.inl ())
     )
   )<|fun o=>match o with
    | .inl ()=>(
      bd (kzkn ae x4.From) fun r3 =>
      ite' (!decide (r3.2.2=0)) (
       some (.inr (.inr ([],r3.2.2)))
       ) (
       bd (kzkn r3.2.1 x4.To) fun r4 =>
       ite' (!decide (r4.2.2=0)) (
        some (.inr (.inr ([],r4.2.2)))
        ) (
        bd (kzii r4.1) fun r5 =>
        ite' (!decide (r5.2=0)) (
         some (.inr (.inr ([],r5.2)))
         ) (
         ck (decide (List.length (l2++r3.1)*56<=140737488355328)) <|
         ck (decide (List.length ((l2++r3.1)++r5.1)*56<=140737488355328)) <|
         ite' (decide ((r4.2.1.length:Int)=0)) (
          some (.inr (.inl (r4.2.1,((l2++r3.1)++r5.1))))
          ) (
          ck (inB .i64 (t72+1)) <|
          some (.inl (r4.2.1,(t72+1),((l2++r3.1)++r5.1)))
          )
         )
        )
       )
     )
    | .inr ()=>(
      ck (inB .i64 (t72+1)) <|
      some (.inl (ae,(t72+1),l2))
     )
   ) (
   some (.inr (.inl (ae,l2)))
   )
def kziz(l0:List wz3g)(ac:List kzht):Option ((List wz3g)×Int) :=
 bd (kzhy l0) fun r1 =>
 ite' (!decide (r1=0)) (
  some ([],r1)
  ) (
  bd (lp (kzix ac l0) (0,0))<|fun o=>match o with
  | .inl ()=>(
    bd (lp (kzi9 ac) (l0,0,[]))<|fun o=>match o with
    | .inl (ae,l2)=>(
      ck (decide (List.length (l2++ae)*56<=140737488355328)) <|
      bd (kzis (l2++ae)) fun r6 =>
      bd (kzif r6 []) fun r7 =>
      some (r7.1,r7.2)
     )
    | .inr o=>(
      some o
     )
   )
  | .inr o=>(
    some o
   )
  )
def kzi5(k0:kzhu)(t1:wz2h):Option (wz2h×kzhu) :=
 some (t1,k0)
def kzij :kzht->(List kzht)->Option ((List kzht)⊕((List kzht)×Int)):=fun x s=>match s with
 |l8 =>
  ite' (decide ((l8.length:Int)=4000)) (
   some (.inr ([],2))
   ) (
   ck (decide (List.length (l8++[x])*24<=140737488355328)) <|
   some (.inl (l8++[x]))
   )
def kzjn(w0:kzhx)(f1:List kzhv)(ad:Int)(t3:wz2h)(ak:Int):Option ((List kzht)×Int) :=
 bd (kzio w0 f1 ad ak) fun r1 =>
 ite' (!decide (r1.2=0)) (
  some ([],r1.2)
  ) (
  bd (kzi1 t3.From t3.To) fun r2 =>
  ite' (!r2) (
   some ([],3)
   ) (
   bd (kzi5 r1.1 t3) fun c1 =>
   bd (kzil c1.1 c1.2 (fun l=>wz4k kzij l [])) fun l =>
   bd (wz20 kzij l []) fun o=>match o with
   | .inl l8=>(
     some (l8,0)
    )
   | .inr q=>((
     fun o =>
     some o
    ) q)
   )
  )
def kzk6(r1:kzhu×Int):kzht->(List kzht)->Option ((List kzht)⊕((List kzht)×Int)):=fun x s=>match s with
 |l9 =>
  bd (gd (!(decide (x.Level=0))) (kzid r1.1 x.From)) fun r4 =>
  bd (α:=Unit⊕Unit) (
   ite' (bif (decide (x.Level=0)) then true else(decide (r4.Level=x.Level)&&(decide (r4.From=x.From)&&(decide (r4.To=x.To)&&true)))) (
    some (.inr ())
    ) (
    some (.inl ())
    )
  )<|fun o=>match o with
   | .inl ()=>(
     ite' (decide ((l9.length:Int)=4000)) (
      some (.inr ([],2))
      ) (
      ck (decide (List.length (l9++[x])*24<=140737488355328)) <|
      some (.inl (l9++[x]))
      )
    )
   | .inr ()=>(
     some (.inl l9)
    )
def kzlx(w0:kzhx)(f1:List kzhv)(ad:Int)(t3:wz2h)(an:Int)(aq:Int):Option ((List kzht)×Int) :=
 bd (kzio w0 f1 ad an) fun r1 =>
 ite' (!decide (r1.2=0)) (
  some ([],r1.2)
  ) (
  bd (kzio w0 f1 ad aq) fun r2 =>
  ite' (!decide (r2.2=0)) (
   some ([],r2.2)
   ) (
   bd (kzi1 t3.From t3.To) fun r3 =>
   ite' (!r3) (
    some ([],3)
    ) (
    bd (kzi5 r2.1 t3) fun c1 =>
    bd (kzil c1.1 c1.2 (fun l=>wz4k (kzk6 r1) l [])) fun l =>
    bd (wz20 (kzk6 r1) l []) fun o=>match o with
    | .inl l9=>(
      some (l9,0)
     )
    | .inr q=>((
      fun o =>
      some o
     ) q)
    )
   )
  )
def kzl7 :Int->Option (Int⊕(Unit⊕Bool)):=fun s=>match s with
 |t39 =>
  ite' (decide (t39<(List.length [(jz50.mk 3 50 1 0),(jz50.mk 3 50 2 1),(jz50.mk 3 50 3 2),(jz50.mk 3 50 40 2),(jz50.mk 3 50 73 2),(jz50.mk 3 50 800 2),(jz50.mk 4 50 70 2),(jz50.mk 4 50 71 3),(jz50.mk 4 50 765 3),(jz50.mk 4 50 766 4),(jz50.mk 3 100 4 0),(jz50.mk 3 104 4 1)]:Int))) (
   bd (at? [(jz50.mk 3 50 1 0),(jz50.mk 3 50 2 1),(jz50.mk 3 50 3 2),(jz50.mk 3 50 40 2),(jz50.mk 3 50 73 2),(jz50.mk 3 50 800 2),(jz50.mk 4 50 70 2),(jz50.mk 4 50 71 3),(jz50.mk 4 50 765 3),(jz50.mk 4 50 766 4),(jz50.mk 3 100 4 0),(jz50.mk 3 104 4 1)] t39) fun x1 =>
   bd (kzla (kzhx.mk 1 2 40 400) [(kzhv.mk 3 100 101)] x1.e0 x1.e1 x1.e2) fun r1 =>
   ite' (bif (!decide (r1.1=x1.e3)) then true else(!decide (r1.2=0))) (
    some (.inr (.inr false))
    ) (
    ck (inB .i64 (t39+1)) <|
    some (.inl (t39+1))
    )
   ) (
   some (.inr (.inl ()))
   )
def kzi6 :Option (Bool) :=
 bd (lp (kzl7) 0)<|fun o=>match o with
 | .inl ()=>(
   bd (kzjn (kzhx.mk 1 2 40 400) [(kzhv.mk 3 100 101)] 4 (wz2h.mk 90 200) 3) fun r2 =>
   bd (kzlx (kzhx.mk 1 2 40 400) [(kzhv.mk 3 100 101)] 4 (wz2h.mk 0 300) 2 3) fun r3 =>
   ite' (bif (bif (bif (!decide (r2.2=0)) then true else(!decide (r3.2=0))) then true else(!decide ((r2.1.length:Int)=26))) then true else(!decide ((r3.1.length:Int)=25))) (
    some false
    ) (
    bd (at? r2.1 0) fun x2 =>
    bd (gd (decide (x2.Level=2)&&(decide (x2.From=0)&&(decide (x2.To=96)&&true))) (at? r2.1 1)) fun x3 =>
    bd (gd (bif (decide (x2.Level=2)&&(decide (x2.From=0)&&(decide (x2.To=96)&&true))) then(decide (x3.Level=1)&&(decide (x3.From=96)&&(decide (x3.To=100)&&true))) else false) (at? r2.1 24)) fun x4 =>
    bd (gd (bif (bif (decide (x2.Level=2)&&(decide (x2.From=0)&&(decide (x2.To=96)&&true))) then(decide (x3.Level=1)&&(decide (x3.From=96)&&(decide (x3.To=100)&&true))) else false) then(decide (x4.Level=1)&&(decide (x4.From=188)&&(decide (x4.To=192)&&true))) else false) (at? r2.1 25)) fun x5 =>
    bd (gd (bif (bif (bif (decide (x2.Level=2)&&(decide (x2.From=0)&&(decide (x2.To=96)&&true))) then(decide (x3.Level=1)&&(decide (x3.From=96)&&(decide (x3.To=100)&&true))) else false) then(decide (x4.Level=1)&&(decide (x4.From=188)&&(decide (x4.To=192)&&true))) else false) then(decide (x5.Level=0)&&(decide (x5.From=192)&&(decide (x5.To=200)&&true))) else false) (at? r3.1 0)) fun x6 =>
    bd (gd (bif (bif (bif (decide (x2.Level=2)&&(decide (x2.From=0)&&(decide (x2.To=96)&&true))) then(decide (x3.Level=1)&&(decide (x3.From=96)&&(decide (x3.To=100)&&true))) else false) then(decide (x4.Level=1)&&(decide (x4.From=188)&&(decide (x4.To=192)&&true))) else false) then(decide (x5.Level=0)&&(decide (x5.From=192)&&(decide (x5.To=200)&&true))) else false) (at? r2.1 0)) fun x7 =>
    bd (gd (bif (bif (bif (bif (decide (x2.Level=2)&&(decide (x2.From=0)&&(decide (x2.To=96)&&true))) then(decide (x3.Level=1)&&(decide (x3.From=96)&&(decide (x3.To=100)&&true))) else false) then(decide (x4.Level=1)&&(decide (x4.From=188)&&(decide (x4.To=192)&&true))) else false) then(decide (x5.Level=0)&&(decide (x5.From=192)&&(decide (x5.To=200)&&true))) else false) then(decide (x6.Level=x7.Level)&&(decide (x6.From=x7.From)&&(decide (x6.To=x7.To)&&true))) else false) (at? r3.1 24)) fun x8 =>
    bd (gd (bif (bif (bif (bif (decide (x2.Level=2)&&(decide (x2.From=0)&&(decide (x2.To=96)&&true))) then(decide (x3.Level=1)&&(decide (x3.From=96)&&(decide (x3.To=100)&&true))) else false) then(decide (x4.Level=1)&&(decide (x4.From=188)&&(decide (x4.To=192)&&true))) else false) then(decide (x5.Level=0)&&(decide (x5.From=192)&&(decide (x5.To=200)&&true))) else false) then(decide (x6.Level=x7.Level)&&(decide (x6.From=x7.From)&&(decide (x6.To=x7.To)&&true))) else false) (at? r2.1 24)) fun x9 =>
    bd (kzj8 (wz2c.mk 0 [1,2,1,3,4,4])) fun r4 =>
    bd (kziz r4.1 [(kzht.mk 1 0 4)]) fun r5 =>
    ck (kzy r4.1 0 4) <|
    bd (kzii (sub r4.1 0 4)) fun r6 =>
    ck (kzy r4.1 4 (r4.1.length:Int)) <|
    bd (kzif r6.1 (sub r4.1 4 (r4.1.length:Int))) fun r7 =>
    bd (gd (bif (bif (bif (bif (bif (bif (bif (bif (bif (decide (x2.Level=2)&&(decide (x2.From=0)&&(decide (x2.To=96)&&true))) then(decide (x3.Level=1)&&(decide (x3.From=96)&&(decide (x3.To=100)&&true))) else false) then(decide (x4.Level=1)&&(decide (x4.From=188)&&(decide (x4.To=192)&&true))) else false) then(decide (x5.Level=0)&&(decide (x5.From=192)&&(decide (x5.To=200)&&true))) else false) then(decide (x6.Level=x7.Level)&&(decide (x6.From=x7.From)&&(decide (x6.To=x7.To)&&true))) else false) then(decide (x8.Level=x9.Level)&&(decide (x8.From=x9.From)&&(decide (x8.To=x9.To)&&true))) else false) then(decide (r4.2=0)) else false) then(decide (r5.2=0)) else false) then(decide (r6.2=0)) else false) then(decide (r7.2=0)) else false) (kzjy r5.1 r7.1)) fun r8 =>
    bd (gd (bif (bif (bif (bif (bif (bif (bif (bif (bif (bif (bif (decide (x2.Level=2)&&(decide (x2.From=0)&&(decide (x2.To=96)&&true))) then(decide (x3.Level=1)&&(decide (x3.From=96)&&(decide (x3.To=100)&&true))) else false) then(decide (x4.Level=1)&&(decide (x4.From=188)&&(decide (x4.To=192)&&true))) else false) then(decide (x5.Level=0)&&(decide (x5.From=192)&&(decide (x5.To=200)&&true))) else false) then(decide (x6.Level=x7.Level)&&(decide (x6.From=x7.From)&&(decide (x6.To=x7.To)&&true))) else false) then(decide (x8.Level=x9.Level)&&(decide (x8.From=x9.From)&&(decide (x8.To=x9.To)&&true))) else false) then(decide (r4.2=0)) else false) then(decide (r5.2=0)) else false) then(decide (r6.2=0)) else false) then(decide (r7.2=0)) else false) then r8 else false) then(decide ((r5.1.length:Int)=4)) else false) (kzig (kzhx.mk 1 2 40 400) [(kzhv.mk 3 100 101)])) fun r9 =>
    some (bif (bif (bif (bif (bif (bif (bif (bif (bif (bif (bif (bif (decide (x2.Level=2)&&(decide (x2.From=0)&&(decide (x2.To=96)&&true))) then(decide (x3.Level=1)&&(decide (x3.From=96)&&(decide (x3.To=100)&&true))) else false) then(decide (x4.Level=1)&&(decide (x4.From=188)&&(decide (x4.To=192)&&true))) else false) then(decide (x5.Level=0)&&(decide (x5.From=192)&&(decide (x5.To=200)&&true))) else false) then(decide (x6.Level=x7.Level)&&(decide (x6.From=x7.From)&&(decide (x6.To=x7.To)&&true))) else false) then(decide (x8.Level=x9.Level)&&(decide (x8.From=x9.From)&&(decide (x8.To=x9.To)&&true))) else false) then(decide (r4.2=0)) else false) then(decide (r5.2=0)) else false) then(decide (r6.2=0)) else false) then(decide (r7.2=0)) else false) then r8 else false) then(decide ((r5.1.length:Int)=4)) else false) then(decide (r9=0)) else false)
    )
  )
 | .inr o=>(
   some o
  )
def kzjf(h0:wz2c)(w1:kzhx)(q2:kzh0):Option (Bool) :=
 bd (wz4t h0) fun r1 =>
 ite' (bif (bif (bif (bif (decide ((h0.Stages.length:Int)=0)) then true else(decide (300<(h0.Stages.length:Int)))) then true else(!r1)) then true else(decide (12<(q2.Freezes.length:Int)))) then true else(decide (q2.Today<q2.Before))) (
  bd (kzi6 ) fun r2 =>
  some r2
  ) (
  ck (inB .i64 (h0.From+(h0.Stages.length:Int))) <|
  bd (kzjn w1 q2.Freezes q2.Gauge (wz2h.mk h0.From (h0.From+(h0.Stages.length:Int))) q2.Before) fun r3 =>
  bd (kzjn w1 q2.Freezes q2.Gauge (wz2h.mk h0.From (h0.From+(h0.Stages.length:Int))) q2.Today) fun r4 =>
  ite' (bif (!decide (r3.2=0)) then true else(!decide (r4.2=0))) (
   bd (kzi6 ) fun r5 =>
   some r5
   ) (
   bd (kzj8 h0) fun r6 =>
   bd (kzjq r4.1 (wz2h.mk h0.From (h0.From+(h0.Stages.length:Int)))) fun r7 =>
   bd (kzjl r3.1 r7) fun r8 =>
   bd (kziz r6.1 r8) fun r9 =>
   bd (kziz r9.1 r7) fun r10 =>
   bd (kziz r6.1 r7) fun r11 =>
   bd (gd (!(bif (bif (bif (!decide (r6.2=0)) then true else(!decide (r9.2=0))) then true else(!decide (r10.2=0))) then true else(!decide (r11.2=0)))) (kzjy r10.1 r11.1)) fun r12 =>
   ite' (bif (bif (bif (bif (!decide (r6.2=0)) then true else(!decide (r9.2=0))) then true else(!decide (r10.2=0))) then true else(!decide (r11.2=0))) then true else(!r12)) (
    some false
    ) (
    bd (kzjg r9.1 r10.1) fun r13 =>
    bd (kzi6 ) fun r14 =>
    bd (gd (bif (bif r14 then(decide (r13.2=0)) else false) then r13.1 else false) (kzj6 r9.1 h0)) fun r15 =>
    bd (gd (bif (bif (bif r14 then(decide (r13.2=0)) else false) then r13.1 else false) then r15 else false) (kzj6 r10.1 h0)) fun r16 =>
    some (bif (bif (bif (bif r14 then(decide (r13.2=0)) else false) then r13.1 else false) then r15 else false) then r16 else false)
    )
   )
  )
end Go.Am

