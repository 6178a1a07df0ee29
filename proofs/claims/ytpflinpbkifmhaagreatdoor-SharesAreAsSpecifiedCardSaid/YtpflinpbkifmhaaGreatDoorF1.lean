/- Part F1 of the proof that the last part closes: the functions of this seat as functions of plain values. No condition. -/
import Derived.Test.YtpflinpbkifmhaaGreatDoorX1
import Derived.Test.YtpflinpbkifmhaaGreatDoorT3
set_option linter.unusedVariables false
set_option linter.unusedSimpArgs false
namespace Go.Am
attribute [local simp] qzc0 qzbz qzcz
structure qza where
 Neg:Bool
 Num:List UInt8
 Den:List UInt8
deriving DecidableEq,Inhabited
def qza.cells (x:qza):List AVal:=[.bool x.Neg,.str x.Num,.str x.Den]
theorem qza.noref (x:qza):∀ v,v∈x.cells→qzt v:=by simp [qza.cells]
structure qzb where
 State:Int
 Weight:Int
 Floor:qza
 Cap:qza
deriving DecidableEq,Inhabited
def qzb.cells (x:qzb):List AVal:=[.int .i64 x.State,.int .i64 x.Weight,.bool x.Floor.Neg,.str x.Floor.Num,.str x.Floor.Den,.bool x.Cap.Neg,.str x.Cap.Num,.str x.Cap.Den]
theorem qzb.noref (x:qzb):∀ v,v∈x.cells→qzt v:=by simp [qzb.cells]
structure qze where
 Parts:List qza
 Rest:qza
deriving DecidableEq,Inhabited
def qze.cells (x:qze):List AVal:=[slcV 3 qza.cells x.Parts,.bool x.Rest.Neg,.str x.Rest.Num,.str x.Rest.Den]
theorem qze.noref (x:qze):∀ v,v∈x.cells→qzt v:=by simp [qze.cells,(fun l=>qzj (st:=3) (c:=qza.cells) (l:=l) qza.noref)]
structure kzi where
 e0:Int
 e1:Int
deriving DecidableEq,Inhabited
def kzi.cells (x:kzi):List AVal:=[.int .u16 x.e0,.int .u16 x.e1]
theorem kzi.noref (x:kzi):∀ v,v∈x.cells→qzt v:=by simp [kzi.cells]
structure qz6 where
 level:qza
deriving DecidableEq,Inhabited
def qz6.cells (x:qz6):List AVal:=[.bool x.level.Neg,.str x.level.Num,.str x.level.Den]
theorem qz6.noref (x:qz6):∀ v,v∈x.cells→qzt v:=by simp [qz6.cells]
structure qzf where
 neg:Bool
 num:List UInt8
 den:List UInt8
deriving DecidableEq,Inhabited
def qzf.cells (x:qzf):List AVal:=[.bool x.neg,.str x.num,.str x.den]
theorem qzf.noref (x:qzf):∀ v,v∈x.cells→qzt v:=by simp [qzf.cells]
structure jzi where
 Q:List UInt8
 R:List UInt8
 E:Int
deriving DecidableEq,Inhabited
def jzi.cells (x:jzi):List AVal:=[.str x.Q,.str x.R,.int .i64 x.E]
theorem jzi.noref (x:jzi):∀ v,v∈x.cells→qzt v:=by simp [jzi.cells]
structure vzs where
 S:List UInt8
 E:Int
deriving DecidableEq,Inhabited
def vzs.cells (x:vzs):List AVal:=[.str x.S,.int .i64 x.E]
theorem vzs.noref (x:vzs):∀ v,v∈x.cells→qzt v:=by simp [vzs.cells]
structure vzu where
 A:qza
 E:Int
deriving DecidableEq,Inhabited
def vzu.cells (x:vzu):List AVal:=[.bool x.A.Neg,.str x.A.Num,.str x.A.Den,.int .i64 x.E]
theorem vzu.noref (x:vzu):∀ v,v∈x.cells→qzt v:=by simp [vzu.cells]
structure kzj where
 L:List qza
 E:Int
deriving DecidableEq,Inhabited
def kzj.cells (x:kzj):List AVal:=[slcV 3 qza.cells x.L,.int .i64 x.E]
theorem kzj.noref (x:kzj):∀ v,v∈x.cells→qzt v:=by simp [kzj.cells,(fun l=>qzj (st:=3) (c:=qza.cells) (l:=l) qza.noref)]
structure jzh where
 A:qza
 E:Int
deriving DecidableEq,Inhabited
def jzh.cells (x:jzh):List AVal:=[.bool x.A.Neg,.str x.A.Num,.str x.A.Den,.int .i64 x.E]
theorem jzh.noref (x:jzh):∀ v,v∈x.cells→qzt v:=by simp [jzh.cells]
structure jzk where
 D:qze
 E:Int
deriving DecidableEq,Inhabited
def jzk.cells (x:jzk):List AVal:=[slcV 3 qza.cells x.D.Parts,.bool x.D.Rest.Neg,.str x.D.Rest.Num,.str x.D.Rest.Den,.int .i64 x.E]
theorem jzk.noref (x:jzk):∀ v,v∈x.cells→qzt v:=by simp [jzk.cells,(fun l=>qzj (st:=3) (c:=qza.cells) (l:=l) qza.noref)]
def vzi (l:List Int):Option (List Int):=ck (decide (0 < List.length l)&&decide (List.length l*4≤140737488355328)) (some l)
def yzz (l:List Int):Option (List Int):=ck (decide (List.length l≤4611686018427387904)) (some l.reverse)
def qze3 (a0:List qza) (b1:List qza):Int→Option (Int⊕(Unit⊕Bool)):=fun s=>match s with
 | k5 =>
  ite' (decide (k5 < (List.length a0:Int))) (
   bd (at? a0 k5) fun x1 =>
   bd (at? b1 k5) fun x2 =>
   ite' (!((x1.Neg==x2.Neg)&&(decide (x1.Num=x2.Num)&&(decide (x1.Den=x2.Den)&&true)))) (
    some (.inr (.inr false))
    ) (
    ck (inB .i64 (k5+1)) <|
    some (.inl (k5+1))
    )
   ) (
   some (.inr (.inl ()))
   )
def qzba (a0:List qza) (b1:List qza):Option (Bool) :=
 ite' (!decide ((List.length a0:Int)=(List.length b1:Int))) (
  some false
  ) (
  bd (lp (qze3 a0 b1) 0) <| fun o=>match o with
  | .inl ()=>(
    some true
   )
  | .inr o=>(
    some o
   )
  )
def jzr (l0:List qzb) (of1:qzb→Option qza):(Int×(List qza))→Option ((Int×(List qza))⊕(List qza)):=fun s=>match s with
 | (t10,l2) =>
  ite' (decide (t10 < (List.length l0:Int))) (
   bd (at? l0 t10) fun x1 =>
   bd (of1 x1) fun r1 =>
   ck (decide (List.length (l2++[r1])*40≤140737488355328)) <|
   ck (inB .i64 (t10+1)) <|
   some (.inl ((t10+1),(l2++[r1])))
   ) (
   some (.inr l2)
   )
def qzu (l0:List qzb) (of1:qzb→Option qza):Option (List qza) :=
 bd (lp (jzr l0 of1) (0,[])) <| fun l2 =>
 some l2
def yz0 (s0:qzb):Option (qza) :=
 some s0.Cap
def wzkk (l0:List qzb):(Int×(List qza)×(List qza))→Option ((Int×(List qza)×(List qza))⊕((List qza)×(List qza))):=fun s=>match s with
 | (k6,l1,l3) =>
  ite' (decide (k6 < (List.length l0:Int))) (
   bd (at? l0 k6) fun x1 =>
   ck (decide (List.length (l1++[x1.Floor])*40≤140737488355328)) <|
   bd (at? l0 k6) fun x2 =>
   ck (decide (List.length (l3++[x2.Cap])*40≤140737488355328)) <|
   ck (inB .i64 (k6+1)) <|
   some (.inl ((k6+1),(l1++[x1.Floor]),(l3++[x2.Cap])))
   ) (
   some (.inr (l1,l3))
   )
def wzkg (l0:List qzb):Option ((List qza)×(List qza)) :=
 bd (lp (wzkk l0) (0,[],[])) <| fun (l1,l3) =>
 some (l1,l3)
def qzan (x0:qzb) (c0:qzb):Option (Bool) :=
 some (decide (x0.State=c0.State))
def yzi (s10:List qza) (s21:List qza):Int→Option (Int⊕(Unit⊕Bool)):=fun s=>match s with
 | t13 =>
  ite' (decide (t13 < (List.length s10:Int))) (
   bd (at? s10 t13) fun x1 =>
   bd (at? s21 t13) fun x2 =>
   ite' (!((x1.Neg==x2.Neg)&&(decide (x1.Num=x2.Num)&&(decide (x1.Den=x2.Den)&&true)))) (
    some (.inr (.inr false))
    ) (
    ck (inB .i64 (t13+1)) <|
    some (.inl (t13+1))
    )
   ) (
   some (.inr (.inl ()))
   )
def qzbb (s10:List qza) (s21:List qza):Option (Bool) :=
 ite' (!decide ((List.length s10:Int)=(List.length s21:Int))) (
  some false
  ) (
  bd (lp (yzi s10 s21) 0) <| fun o=>match o with
  | .inl ()=>(
    some true
   )
  | .inr o=>(
    some o
   )
  )
def qzcb (a0:List UInt8):Option (Bool) :=
 ck (!(!(decide (a0=[])))||(qzf7 a0 0)) <|
 some (bif (decide (a0=[])) then true else (!decide ((wzw a0 0)=0)))
def yzy (n0:Int):Option (Bool) :=
 some (bif (decide ((-999999999999999)≤n0)) then (decide (n0≤999999999999999)) else false)
def qzdt (a0:qza) (most1:Int):Option (Bool) :=
 some (bif (decide ((List.length a0.Num:Int)≤most1)) then (decide ((List.length a0.Den:Int)≤most1)) else false)
def jzx (s0:qzb):Option (qza) :=
 some s0.Cap
def jzb (s0:qzb):Option (qza) :=
 some s0.Floor
def wzi9 (a0:qza):Option ((List UInt8)×(List UInt8)) :=
 ite' (decide (a0.Num=[])) (
  some ([],[1])
  ) (
  some (a0.Num,a0.Den)
  )
def kze (f1:qzb→Option Bool) (s0:List qzb):Int→Option (Int⊕(Unit⊕Int)):=fun s=>match s with
 | t8 =>
  ite' (decide (t8 < (List.length s0:Int))) (
   bd (at? s0 t8) fun x1 =>
   bd (f1 x1) fun r1 =>
   ite' r1 (
    some (.inr (.inr t8))
    ) (
    ck (inB .i64 (t8+1)) <|
    some (.inl (t8+1))
    )
   ) (
   some (.inr (.inl ()))
   )
def qzas (s0:List qzb) (f1:qzb→Option Bool):Option (Int) :=
 bd (lp (kze f1 s0) 0) <| fun o=>match o with
 | .inl ()=>(
   some (-1)
  )
 | .inr o=>(
   some o
  )
def wzky (a0:List UInt8):Int→Option (Int⊕Int):=fun s=>match s with
 | k3 =>
  ck (!(decide (k3 < (List.length a0:Int)))||(qzf7 a0 k3)) <|
  ite' (bif (decide (k3 < (List.length a0:Int))) then (decide ((wzw a0 k3)=0)) else false) (
   ck (inB .i64 (k3+1)) <|
   some (.inl (k3+1))
   ) (
   some (.inr k3)
   )
def wziv (a0:List UInt8):Option (List UInt8) :=
 bd (lp (wzky a0) 0) <| fun k3 =>
 ck (kzy a0 k3 (List.length a0:Int)) <|
 some (sub a0 k3 (List.length a0:Int))
def wzi0 (a0:List UInt8) (k1:Int):Option (Int) :=
 ite' (decide ((List.length a0:Int)≤k1)) (
  some 0
  ) (
  ck (inB .i64 ((List.length a0:Int) - 1)) <|
  ck (inB .i64 (((List.length a0:Int) - 1) - k1)) <|
  ck (qzf7 a0 (((List.length a0:Int) - 1) - k1)) <|
  ck (inB .i64 (wzw a0 (((List.length a0:Int) - 1) - k1))) <|
  some (wzw a0 (((List.length a0:Int) - 1) - k1))
  )
def wzkm (l0:List Int):(Int×(List Int))→Option ((Int×(List Int))⊕(List Int)):=fun s=>match s with
 | (k4,l1) =>
  ite' (decide (0≤k4)) (
   bd (at? l0 k4) fun x1 =>
   ck (decide (List.length (l1++[(x1%256)])*1≤140737488355328)) <|
   ck (inB .i64 (k4 - 1)) <|
   some (.inl ((k4 - 1),(l1++[(x1%256)])))
   ) (
   some (.inr l1)
   )
def wzi7 (l0:List Int):Option (List UInt8) :=
 ck (inB .i64 ((List.length l0:Int) - 1)) <|
 bd (lp (wzkm l0) (((List.length l0:Int) - 1),[])) <| fun l1 =>
 bd (wziv (vzg l1)) fun r1 =>
 some r1
def wzj3 (a0:List UInt8):Option (Bool) :=
 bd (wziv a0) fun r1 =>
 some (decide (a0=r1))
def vzd :((List Int))→Option ((List Int)⊕(List Int)):=fun s=>match s with
 | x0' =>
  ck (!(decide (0 < (List.length x0':Int)))||inB .i64 ((List.length x0':Int) - 1)) <|
  bd (gd (decide (0 < (List.length x0':Int))) (at? x0' ((List.length x0':Int) - 1))) fun x1 =>
  ite' (bif (decide (0 < (List.length x0':Int))) then (decide (x1=0)) else false) (
   ck (inB .i64 ((List.length x0':Int) - 1)) <|
   ck (kzy x0' 0 ((List.length x0':Int) - 1)) <|
   some (.inl (sub x0' 0 ((List.length x0':Int) - 1)))
   ) (
   some (.inr x0')
   )
def qzx (x0:List Int):Option (List Int) :=
 bd (lp (vzd) x0) <| fun x0' =>
 some x0'
def wzjs (n0:Int):Option (Bool) :=
 some (bif (decide ((-999999999999999)≤n0)) then (decide (n0≤999999999999999)) else false)
def kzc (x0:List Int) (k1:Int):Option (Int) :=
 ite' (decide (k1 < (List.length x0:Int))) (
  bd (at? x0 k1) fun x1 =>
  some (x1%18446744073709551616)
  ) (
  some 0
  )
def wzlc :(Int×(List UInt8))→Option ((Int×(List UInt8))⊕(List UInt8)):=fun s=>match s with
 | (n0',out3) =>
  ite' (decide (0 < n0')) (
   ck (decide (List.length (vzg [((n0'.tmod 256)%256)])+List.length out3≤4611686018427387904)) <|
   ck (inB .i64 (n0'.tdiv 256)) <|
   some (.inl ((n0'.tdiv 256),((vzg [((n0'.tmod 256)%256)])++out3)))
   ) (
   some (.inr out3)
   )
def wzll (n0:Int):Option (vzs) :=
 ite' (decide (n0 < 0)) (
  some (vzs.mk [] 3)
  ) (
  bd (lp (wzlc) (n0,[])) <| fun out3 =>
  some (vzs.mk out3 0)
  )
def qzcc (x0:Int):Option (Bool) :=
 some (!decide (x0=x0))
def qzai (x0:Int):Option (Bool) :=
 some (!decide (x0=x0))
def wz7 (c1:Int):((List UInt8))→Option ((List UInt8)⊕(List UInt8)):=fun s=>match s with
 | s0' =>
  ck (!(decide (0 < (List.length s0':Int)))||(qzf7 s0' 0)) <|
  ite' (bif (decide (0 < (List.length s0':Int))) then (decide ((wzw s0' 0)=c1)) else false) (
   ck (kzy s0' 1 (List.length s0':Int)) <|
   some (.inl (sub s0' 1 (List.length s0':Int)))
   ) (
   some (.inr s0')
   )
def jzz (s0:List UInt8) (c1:Int):Option (List UInt8) :=
 bd (lp (wz7 c1) s0) <| fun s0' =>
 some s0'
def qzbf (l0:List qzb):Int→Option (Int⊕(Unit⊕Bool)):=fun s=>match s with
 | k3 =>
  ite' (decide (k3 < (List.length l0:Int))) (
   bd (at? l0 k3) fun x1 =>
   bd (qzdt x1.Floor 20) fun r1 =>
   bd (at? l0 k3) fun x2 =>
   bd (qzdt x2.Cap 20) fun r2 =>
   ite' (bif (!r1) then true else (!r2)) (
    some (.inr (.inr false))
    ) (
    ck (inB .i64 (k3+1)) <|
    some (.inl (k3+1))
    )
   ) (
   some (.inr (.inl ()))
   )
def qzdx (l0:List qzb):Option (Bool) :=
 ite' (decide (10 < (List.length l0:Int))) (
  some false
  ) (
  bd (lp (qzbf l0) 0) <| fun o=>match o with
  | .inl ()=>(
    some true
   )
  | .inr o=>(
    some o
   )
  )
def jz8 (s0:List qzb) (f1:qzb→Option Bool):Option (Bool) :=
 bd (qzas s0 f1) fun r1 =>
 some (decide (0≤r1))
def wzje (a0:List UInt8) (b1:List UInt8) (i6:Int):(Int×Int×(List Int))→Option ((Int×Int×(List Int))⊕(List Int)):=fun s=>match s with
 | (carry7,k8,l0') =>
  ite' (decide (k8≤(List.length b1:Int))) (
   ck (inB .i64 (i6+k8)) <|
   bd (at? l0' (i6+k8)) fun x1 =>
   bd (wzi0 a0 i6) fun r1 =>
   bd (wzi0 b1 k8) fun r2 =>
   ck (inB .i64 (r1*r2)) <|
   ck (inB .i64 (x1+(r1*r2))) <|
   ck (inB .i64 ((x1+(r1*r2))+carry7)) <|
   ck (inB .i64 (i6+k8)) <|
   bd (at? l0' (i6+k8)) fun x2 =>
   ck (inB .i64 (((x1+(r1*r2))+carry7).tdiv 256)) <|
   ck (inB .i64 (k8+1)) <|
   some (.inl ((((x1+(r1*r2))+carry7).tdiv 256),(k8+1),(List.set l0' (Int.toNat (i6+k8)) (((x1+(r1*r2))+carry7).tmod 256))))
   ) (
   some (.inr l0')
   )
def wzjt (a0:List UInt8) (b1:List UInt8):(Int×(List Int))→Option ((Int×(List Int))⊕(List Int)):=fun s=>match s with
 | (i6,l0) =>
  ite' (decide (i6 < (List.length a0:Int))) (
   bd (lp (wzje a0 b1 i6) (0,0,l0)) <| fun l0' =>
   ck (inB .i64 (i6+1)) <|
   some (.inl ((i6+1),l0'))
   ) (
   some (.inr l0)
   )
def wzi4 (a0:List UInt8) (b1:List UInt8):Option (List UInt8) :=
 ck (inB .i64 ((List.length a0:Int)+(List.length b1:Int))) <|
 ck (inB .i64 (((List.length a0:Int)+(List.length b1:Int))+1)) <|
 ck (mkOk (((List.length a0:Int)+(List.length b1:Int))+1) 8) <|
 bd (lp (wzjt a0 b1) (0,(List.replicate (Int.toNat (((List.length a0:Int)+(List.length b1:Int))+1)) 0))) <| fun l0 =>
 bd (wzi7 l0) fun r3 =>
 some r3
def wzld (a0:List UInt8) (b1:List UInt8):(Int×Int×(List Int))→Option ((Int×Int×(List Int))⊕(List Int)):=fun s=>match s with
 | (carry6,k7,l1) =>
  ite' (decide (k7≤(max (List.length a0:Int) (List.length b1:Int)))) (
   bd (wzi0 a0 k7) fun r1 =>
   bd (wzi0 b1 k7) fun r2 =>
   ck (inB .i64 (r1+r2)) <|
   ck (inB .i64 ((r1+r2)+carry6)) <|
   ck (decide (List.length (l1++[(((r1+r2)+carry6).tmod 256)])*8≤140737488355328)) <|
   ck (inB .i64 (((r1+r2)+carry6).tdiv 256)) <|
   ck (inB .i64 (k7+1)) <|
   some (.inl ((((r1+r2)+carry6).tdiv 256),(k7+1),(l1++[(((r1+r2)+carry6).tmod 256)])))
   ) (
   some (.inr l1)
   )
def wzlm (a0:List UInt8) (b1:List UInt8):Option (List UInt8) :=
 bd (lp (wzld a0 b1) (0,0,[])) <| fun l1 =>
 bd (wzi7 l1) fun r3 =>
 some r3
def wzj6 (a0:List UInt8) (b1:List UInt8):Option (Int) :=
 bd (wziv a0) fun r1 =>
 bd (wziv b1) fun r2 =>
 ite' (decide (r1=r2)) (
  some 0
  ) (
  ite' (bif (decide ((List.length r1:Int) < (List.length r2:Int))) then true else (bif (decide ((List.length r1:Int)=(List.length r2:Int))) then (Op.bytesLess r1 r2) else false)) (
   some (-1)
   ) (
   some 1
   )
  )
def wzlg (a0:List UInt8) (b1:List UInt8):(Int×Int×(List Int))→Option ((Int×Int×(List Int))⊕(List Int)):=fun s=>match s with
 | (borrow6,k7,l2) =>
  ite' (decide (k7 < (List.length a0:Int))) (
   bd (wzi0 a0 k7) fun r2 =>
   bd (wzi0 b1 k7) fun r3 =>
   ck (inB .i64 (r2 - r3)) <|
   ck (inB .i64 ((r2 - r3) - borrow6)) <|
   bd (α:=Int×Int) (
    ite' (decide (((r2 - r3) - borrow6) < 0)) (
     ck (inB .i64 (((r2 - r3) - borrow6)+256)) <|
     some (1,(((r2 - r3) - borrow6)+256))
     ) (
     some (0,((r2 - r3) - borrow6))
     )
   ) <| fun (borrow6',n8) =>
    ck (decide (List.length (l2++[n8])*8≤140737488355328)) <|
    ck (inB .i64 (k7+1)) <|
    some (.inl (borrow6',(k7+1),(l2++[n8])))
   ) (
   some (.inr l2)
   )
def wzj8 (a0:List UInt8) (b1:List UInt8):Option (vzs) :=
 bd (wzj6 a0 b1) fun r1 =>
 ite' (decide (r1 < 0)) (
  some (vzs.mk [] 3)
  ) (
  bd (lp (wzlg a0 b1) (0,0,[])) <| fun l2 =>
  bd (wzi7 l2) fun r4 =>
  some (vzs.mk r4 0)
  )
def qzb2 (a0:List UInt8) (end4:Int):(Int×Int)→Option ((Int×Int)⊕Int):=fun s=>match s with
 | (digit5,t22) =>
  ite' (decide (t22 < (List.length (bytes (sub a0 (max 0 (end4 - 4)) end4)):Int))) (
   bd (at? (bytes (sub a0 (max 0 (end4 - 4)) end4)) t22) fun x1 =>
   ck (inB .i64 (t22+1)) <|
   some (.inl ((bitI .or .u32 ((digit5*256)%4294967296) (x1%4294967296)),(t22+1)))
   ) (
   some (.inr digit5)
   )
def qzb4 (a0:List UInt8):(Int×(List Int))→Option ((Int×(List Int))⊕(List Int)):=fun s=>match s with
 | (end4,l2) =>
  ite' (decide (0 < end4)) (
   ck (inB .i64 (end4 - 4)) <|
   ck (kzy a0 (max 0 (end4 - 4)) end4) <|
   bd (lp (qzb2 a0 end4) (0,0)) <| fun digit5 =>
   ck (decide (List.length (l2++[digit5])*4≤140737488355328)) <|
   ck (inB .i64 (end4 - 4)) <|
   some (.inl ((end4 - 4),(l2++[digit5])))
   ) (
   some (.inr l2)
   )
def wzn (a0:List UInt8):Option (List Int) :=
 bd (lp (qzb4 a0) ((List.length a0:Int),[])) <| fun l2 =>
 bd (qzx l2) fun r1 =>
 some r1
def wzkl (b1:List UInt8):((List UInt8)×Int)→Option (((List UInt8)×Int)⊕((List UInt8)×Int)):=fun s=>match s with
 | (r6',n8) =>
  bd (wzj6 r6' b1) fun r3 =>
  ite' (decide (0≤r3)) (
   bd (wzj8 r6' b1) fun r4 =>
   ck (inB .i64 (n8+1)) <|
   some (.inl (r4.S,(n8+1)))
   ) (
   some (.inr (r6',n8))
   )
def wzkn (a0:List UInt8) (b1:List UInt8):((List UInt8)×(List UInt8)×Int)→Option (((List UInt8)×(List UInt8)×Int)⊕((List UInt8)×(List UInt8))):=fun s=>match s with
 | (q5,r6,k7) =>
  ite' (decide (k7 < (List.length a0:Int))) (
   ck (inB .i64 (k7+1)) <|
   ck (kzy a0 k7 (k7+1)) <|
   ck (decide (List.length r6+List.length (sub a0 k7 (k7+1))≤4611686018427387904)) <|
   bd (wziv (r6++(sub a0 k7 (k7+1)))) fun r2 =>
   bd (lp (wzkl b1) (r2,0)) <| fun (r6',n8) =>
   ck (decide (List.length q5+List.length (vzg [(n8%256)])≤4611686018427387904)) <|
   ck (inB .i64 (k7+1)) <|
   some (.inl ((q5++(vzg [(n8%256)])),r6',(k7+1)))
   ) (
   some (.inr (q5,r6))
   )
def wzjd (a0:List UInt8) (b1:List UInt8):Option (jzi) :=
 bd (wziv b1) fun r1 =>
 ite' (decide (r1=[])) (
  some (jzi.mk [] [] 1)
  ) (
  bd (lp (wzkn a0 b1) ([],[],0)) <| fun (q5,r6) =>
  bd (wziv q5) fun r5 =>
  some (jzi.mk r5 r6 0)
  )
def kzs (by1:Int) (x0:List Int):(Int×Int×(List Int))→Option ((Int×Int×(List Int))⊕(Int×(List Int))):=fun s=>match s with
 | (rest7,k8,l0) =>
  ite' (decide (0≤k8)) (
   bd (at? x0 k8) fun x1 =>
   ck (!decide ((by1%18446744073709551616)=0)) <|
   ck (!decide ((by1%18446744073709551616)=0)) <|
   bd (at? l0 k8) fun x2 =>
   ck (inB .i64 (k8 - 1)) <|
   some (.inl (((bitI .or .u64 ((rest7*4294967296)%18446744073709551616) (x1%18446744073709551616)).tmod (by1%18446744073709551616)),(k8 - 1),(List.set l0 (Int.toNat k8) ((((bitI .or .u64 ((rest7*4294967296)%18446744073709551616) (x1%18446744073709551616)).tdiv (by1%18446744073709551616))%18446744073709551616)%4294967296))))
   ) (
   some (.inr (rest7,l0))
   )
def jzs (x0:List Int) (by1:Int):Option ((List Int)×Int) :=
 ck (mkOk (List.length x0:Int) 4) <|
 ck (inB .i64 ((List.length x0:Int) - 1)) <|
 bd (lp (kzs by1 x0) (0,((List.length x0:Int) - 1),(List.replicate (Int.toNat (List.length x0:Int)) 0))) <| fun (rest7,l0) =>
 bd (qzx l0) fun r1 =>
 some (r1,(rest7%4294967296))
def jzl (t20:Int) (x1:Int) (y1:List Int):(Int×Int×(List Int))→Option ((Int×Int×(List Int))⊕(List Int)):=fun s=>match s with
 | (carry8,k9,l0') =>
  ite' (bif (decide (k9 < (List.length y1:Int))) then true else (decide (0 < carry8))) (
   bd (kzc y1 k9) fun r1 =>
   ck (inB .i64 (t20+k9)) <|
   bd (at? l0' (t20+k9)) fun x2 =>
   ck (inB .i64 (t20+k9)) <|
   bd (at? l0' (t20+k9)) fun x3 =>
   ck (inB .i64 (k9+1)) <|
   some (.inl ((Int.fdiv (((((((x1%18446744073709551616)*r1)%18446744073709551616)+(x2%18446744073709551616))%18446744073709551616)+carry8)%18446744073709551616) 4294967296),(k9+1),(List.set l0' (Int.toNat (t20+k9)) ((((((((x1%18446744073709551616)*r1)%18446744073709551616)+(x2%18446744073709551616))%18446744073709551616)+carry8)%18446744073709551616)%4294967296))))
   ) (
   some (.inr l0')
   )
def kzu (x0:List Int) (y1:List Int):(Int×(List Int))→Option ((Int×(List Int))⊕(List Int)):=fun s=>match s with
 | (t20,l0) =>
  ite' (decide (t20 < (List.length x0:Int))) (
   bd (at? x0 t20) fun x1 =>
   bd (lp (jzl t20 x1 y1) (0,0,l0)) <| fun l0' =>
   ck (inB .i64 (t20+1)) <|
   some (.inl ((t20+1),l0'))
   ) (
   some (.inr l0)
   )
def wz1 (x0:List Int) (y1:List Int):Option (List Int) :=
 ck (inB .i64 ((List.length x0:Int)+(List.length y1:Int))) <|
 ck (inB .i64 (((List.length x0:Int)+(List.length y1:Int))+1)) <|
 ck (mkOk (((List.length x0:Int)+(List.length y1:Int))+1) 4) <|
 bd (lp (kzu x0 y1) (0,(List.replicate (Int.toNat (((List.length x0:Int)+(List.length y1:Int))+1)) 0))) <| fun l0 =>
 bd (qzx l0) fun r2 =>
 some r2
def kzo (x0:List Int) (y1:List Int):(Int×Int×(List Int))→Option ((Int×Int×(List Int))⊕(List Int)):=fun s=>match s with
 | (borrow6,t11,l1) =>
  ite' (decide (t11 < (List.length x0:Int))) (
   bd (at? x0 t11) fun x1 =>
   bd (kzc y1 t11) fun r1 =>
   ck (decide (List.length (l1++[((((((x1%18446744073709551616) - r1)%18446744073709551616) - borrow6)%18446744073709551616)%4294967296)])*4≤140737488355328)) <|
   ck (inB .i64 (t11+1)) <|
   some (.inl ((Int.fdiv (((((x1%18446744073709551616) - r1)%18446744073709551616) - borrow6)%18446744073709551616) 9223372036854775808),(t11+1),(l1++[((((((x1%18446744073709551616) - r1)%18446744073709551616) - borrow6)%18446744073709551616)%4294967296)])))
   ) (
   some (.inr l1)
   )
def wzz (x0:List Int) (y1:List Int):Option (List Int) :=
 bd (lp (kzo x0 y1) (0,0,[])) <| fun l1 =>
 bd (qzx l1) fun r2 =>
 some r2
def vze (x0:List Int) (y1:List Int):(Int×Int×(List Int))→Option ((Int×Int×(List Int))⊕(List Int)):=fun s=>match s with
 | (carry6,t15,l1) =>
  ite' (decide (t15 < ((max (List.length x0:Int) (List.length y1:Int))+1))) (
   bd (kzc x0 t15) fun r1 =>
   bd (kzc y1 t15) fun r2 =>
   ck (decide (List.length (l1++[(((((r1+r2)%18446744073709551616)+carry6)%18446744073709551616)%4294967296)])*4≤140737488355328)) <|
   ck (inB .i64 (t15+1)) <|
   some (.inl ((Int.fdiv ((((r1+r2)%18446744073709551616)+carry6)%18446744073709551616) 4294967296),(t15+1),(l1++[(((((r1+r2)%18446744073709551616)+carry6)%18446744073709551616)%4294967296)])))
   ) (
   some (.inr l1)
   )
def vzk (x0:List Int) (y1:List Int):Option (List Int) :=
 ck (inB .i64 ((max (List.length x0:Int) (List.length y1:Int))+1)) <|
 bd (lp (vze x0 y1) (0,0,[])) <| fun l1 =>
 bd (qzx l1) fun r3 =>
 some r3
def wzjh (n0:Int):Option (List UInt8) :=
 bd (α:=Int) (
  ite' (decide (n0 < 0)) (
   ck (inB .i64 (-n0)) <|
   some (-n0)
   ) (
   some n0
   )
 ) <| fun n0' =>
  bd (wzll n0') fun r1 =>
  some r1.S
def qzca (x0:Int) (y1:Int):Option (Int) :=
 bd (qzcc x0) fun r1 =>
 bd (qzcc y1) fun r2 =>
 ite' r1 (
  ite' r2 (
   some 0
   ) (
   some (-1)
   )
  ) (
  ite' r2 (
   some 1
   ) (
   ite' (decide (x0 < y1)) (
    some (-1)
    ) (
    ite' (decide (y1 < x0)) (
     some 1
     ) (
     some 0
     )
    )
   )
  )
def qzax (x0:Int) (y1:Int):Option (Int) :=
 bd (qzai x0) fun r1 =>
 bd (qzai y1) fun r2 =>
 ite' r1 (
  ite' r2 (
   some 0
   ) (
   some (-1)
   )
  ) (
  ite' r2 (
   some 1
   ) (
   ite' (decide (x0 < y1)) (
    some (-1)
    ) (
    ite' (decide (y1 < x0)) (
     some 1
     ) (
     some 0
     )
    )
   )
  )
def qzav (s0:List UInt8) (cutset1:List UInt8):Option (List UInt8) :=
 ite' (bif (decide (s0=[])) then true else (decide (cutset1=[]))) (
  some s0
  ) (
  ck (!(decide ((List.length cutset1:Int)=1))||(qzf7 cutset1 0)) <|
  ite' (bif (decide ((List.length cutset1:Int)=1)) then (decide ((wzw cutset1 0) < 128)) else false) (
   ck (qzf7 cutset1 0) <|
   bd (jzz s0 (wzw cutset1 0)) fun r1 =>
   some r1
   ) (
   none
   )
  )
def qzcf (l0:List qzb) (a1:qza):Option (Bool) :=
 bd (qzdx l0) fun r1 =>
 some (bif (bif r1 then (decide ((List.length a1.Num:Int)≤20)) else false) then (decide ((List.length a1.Den:Int)≤20)) else false)
def wzjc :((List UInt8)×(List UInt8))→Option (((List UInt8)×(List UInt8))⊕(List UInt8)):=fun s=>match s with
 | (x5,y6) =>
  ite' (!decide (y6=[])) (
   bd (wzjd x5 y6) fun r3 =>
   some (.inl (y6,r3.R))
   ) (
   some (.inr x5)
   )
def wzkq (a0:List UInt8) (b1:List UInt8):Option (List UInt8) :=
 bd (wziv a0) fun r1 =>
 bd (wziv b1) fun r2 =>
 bd (lp (wzjc) (r1,r2)) <| fun x5 =>
 some x5
def jz2 (x0:List Int) (y1:List Int):Int→Option (Int⊕(Unit⊕Int)):=fun s=>match s with
 | k6 =>
  ite' (decide (0≤k6)) (
   bd (at? x0 k6) fun x1 =>
   bd (at? y1 k6) fun x2 =>
   bd (qzax x1 x2) fun r2 =>
   ite' (!decide (r2=0)) (
    some (.inr (.inr r2))
    ) (
    ck (inB .i64 (k6 - 1)) <|
    some (.inl (k6 - 1))
    )
   ) (
   some (.inr (.inl ()))
   )
def wzl (x0:List Int) (y1:List Int):Option (Int) :=
 bd (qzca (List.length x0:Int) (List.length y1:Int)) fun r1 =>
 ite' (!decide (r1=0)) (
  some r1
  ) (
  ck (inB .i64 ((List.length x0:Int) - 1)) <|
  bd (lp (jz2 x0 y1) ((List.length x0:Int) - 1)) <| fun o=>match o with
  | .inl ()=>(
    some 0
   )
  | .inr o=>(
    some o
   )
  )
def wzm (x0:List Int) (bits1:Int):Option (List Int) :=
 ite' (decide (bits1 < 0)) (
  ck (inB .i64 (-bits1)) <|
  ck (decide (0≤(-bits1))) <|
  bd (jzs x0 ((1*2 ^ min (Int.toNat (-bits1)) 32)%4294967296)) fun r1 =>
  some r1.1
  ) (
  ck (decide (0≤bits1)) <|
  bd (wz1 x0 [((1*2 ^ min (Int.toNat bits1) 32)%4294967296)]) fun r2 =>
  some r2
  )
def qzdj (a0:List UInt8):Option (List UInt8) :=
 bd (qzav a0 [0]) fun r1 =>
 some r1
def wzi3 (neg0:Bool) (num1:List UInt8) (den2:List UInt8):Option (qza) :=
 bd (wziv num1) fun r1 =>
 ite' (decide (r1=[])) (
  some (qza.mk false [] [])
  ) (
  bd (wzkq r1 den2) fun r2 =>
  bd (wzjd r1 r2) fun r3 =>
  bd (wzjd den2 r2) fun r4 =>
  some (qza.mk neg0 r3.Q r4.Q)
  )
def wzj5 (a0:qza):Option (Bool) :=
 ite' (bif (decide (a0.Num=[])) then true else (decide (a0.Den=[]))) (
  some ((a0.Neg==false)&&(decide (a0.Num=[])&&(decide (a0.Den=[])&&true)))
  ) (
  bd (wzj3 a0.Num) fun r1 =>
  bd (wzj3 a0.Den) fun r2 =>
  bd (gd (bif r1 then r2 else false) (wzkq a0.Num a0.Den)) fun r3 =>
  some (bif (bif r1 then r2 else false) then (decide (r3=[1])) else false)
  )
def kzx (y1:List Int):Int→Option (Int⊕Int):=fun s=>match s with
 | bits8 =>
  ck (inB .i64 ((List.length y1:Int) - 1)) <|
  bd (at? y1 ((List.length y1:Int) - 1)) fun x2 =>
  ck (decide (0≤bits8)) <|
  ite' (decide (((x2*2 ^ min (Int.toNat bits8) 32)%4294967296) < 2147483648)) (
   ck (inB .i64 (bits8+1)) <|
   some (.inl (bits8+1))
   ) (
   some (.inr bits8)
   )
def kz2 (j13:Int) (l1:List Int) (r4:List Int):(Int×Int)→Option ((Int×Int)⊕Int):=fun s=>match s with
 | (guess15,left16) =>
  ck (!(decide (left16 < 4294967296))||inB .i64 ((List.length r4:Int) - 2)) <|
  bd (gd (decide (left16 < 4294967296)) (at? r4 ((List.length r4:Int) - 2))) fun x7 =>
  ck (!(decide (left16 < 4294967296))||inB .i64 (j13+(List.length r4:Int))) <|
  ck (!(decide (left16 < 4294967296))||inB .i64 ((j13+(List.length r4:Int)) - 2)) <|
  bd (gd (decide (left16 < 4294967296)) (at? l1 ((j13+(List.length r4:Int)) - 2))) fun x8 =>
  ite' (bif (decide (left16 < 4294967296)) then (decide ((bitI .or .u64 ((left16*4294967296)%18446744073709551616) (x8%18446744073709551616)) < ((guess15*(x7%18446744073709551616))%18446744073709551616))) else false) (
   ck (inB .i64 ((List.length r4:Int) - 1)) <|
   bd (at? r4 ((List.length r4:Int) - 1)) fun x9 =>
   some (.inl (((guess15 - 1)%18446744073709551616),((left16+(x9%18446744073709551616))%18446744073709551616)))
   ) (
   some (.inr guess15)
   )
def yzk (j13:Int) (l1:List Int) (r4:List Int):(Int×(List Int))→Option ((Int×(List Int))⊕(Int×(List Int))):=fun s=>match s with
 | (guess15',product18) =>
  ck (kzy l1 j13 ((j13+(List.length r4:Int))+1)) <|
  bd (vzi (sub l1 j13 ((j13+(List.length r4:Int))+1))) fun r8 =>
  bd (qzx r8) fun r9 =>
  bd (wzl r9 product18) fun r10 =>
  ite' (decide (r10 < 0)) (
   bd (wzz product18 r4) fun r11 =>
   some (.inl (((guess15' - 1)%18446744073709551616),r11))
   ) (
   some (.inr (guess15',product18))
   )
def wz2 (r4:List Int):(Int×(List Int)×(List Int))→Option ((Int×(List Int)×(List Int))⊕((List Int)×(List Int))):=fun s=>match s with
 | (j13,l1,l5) =>
  ite' (decide (0≤j13)) (
   ck (inB .i64 (j13+(List.length r4:Int))) <|
   bd (at? l1 (j13+(List.length r4:Int))) fun x3 =>
   ck (inB .i64 (j13+(List.length r4:Int))) <|
   ck (inB .i64 ((j13+(List.length r4:Int)) - 1)) <|
   bd (at? l1 ((j13+(List.length r4:Int)) - 1)) fun x4 =>
   ck (inB .i64 ((List.length r4:Int) - 1)) <|
   bd (at? r4 ((List.length r4:Int) - 1)) fun x5 =>
   ck (!decide ((x5%18446744073709551616)=0)) <|
   ck (inB .i64 ((List.length r4:Int) - 1)) <|
   bd (at? r4 ((List.length r4:Int) - 1)) fun x6 =>
   bd (lp (kz2 j13 l1 r4) ((min (((bitI .or .u64 (((x3%18446744073709551616)*4294967296)%18446744073709551616) (x4%18446744073709551616)).tdiv (x5%18446744073709551616))%18446744073709551616) 4294967295),(((bitI .or .u64 (((x3%18446744073709551616)*4294967296)%18446744073709551616) (x4%18446744073709551616)) - (((min (((bitI .or .u64 (((x3%18446744073709551616)*4294967296)%18446744073709551616) (x4%18446744073709551616)).tdiv (x5%18446744073709551616))%18446744073709551616) 4294967295)*(x6%18446744073709551616))%18446744073709551616))%18446744073709551616))) <| fun guess15 =>
   bd (α:=Unit⊕Unit) (
    ite' (decide (guess15=0)) (
     some (.inr ())
     ) (
     some (.inl ())
     )
   ) <| fun o=>match o with
    | .inl ()=>(
      ck (inB .i64 (j13+(List.length r4:Int))) <|
      ck (inB .i64 ((j13+(List.length r4:Int))+1)) <|
      ck (kzy l1 j13 ((j13+(List.length r4:Int))+1)) <|
      bd (wz1 r4 [(guess15%4294967296)]) fun r7 =>
      bd (lp (yzk j13 l1 r4) (guess15,r7)) <| fun (guess15',product18) =>
      ck (kzy l1 j13 ((j13+(List.length r4:Int))+1)) <|
      bd (vzi (sub l1 j13 ((j13+(List.length r4:Int))+1))) fun r12 =>
      bd (qzx r12) fun r13 =>
      bd (wzz r13 product18) fun r14 =>
      ck (kzy l1 j13 ((j13+(List.length r4:Int))+1)) <|
      ck (kzy (qzy l1 (Int.toNat j13) (List.replicate (Int.toNat (((j13+(List.length r4:Int))+1) - j13)) 0)) j13 ((j13+(List.length r4:Int))+1)) <|
      bd (at? l5 j13) fun x10 =>
      ck (inB .i64 (j13 - 1)) <|
      some (.inl ((j13 - 1),(qzy (qzy l1 (Int.toNat j13) (List.replicate (Int.toNat (((j13+(List.length r4:Int))+1) - j13)) 0)) (Int.toNat j13) (List.take (Int.toNat (((j13+(List.length r4:Int))+1) - j13)) r14)),(List.set l5 (Int.toNat j13) (guess15'%4294967296))))
     )
    | .inr ()=>(
      ck (inB .i64 (j13 - 1)) <|
      some (.inl ((j13 - 1),l1,l5))
     )
   ) (
   some (.inr (l1,l5))
   )
def kzf (x0:List Int) (y1:List Int):Option ((List Int)×(List Int)) :=
 bd (wzl x0 y1) fun r1 =>
 ite' (decide (r1 < 0)) (
  some ([],x0)
  ) (
  ite' (decide ((List.length y1:Int)=1)) (
   bd (at? y1 0) fun x1 =>
   bd (jzs x0 x1) fun r2 =>
   bd (qzx [r2.2]) fun r3 =>
   some (r2.1,r3)
   ) (
   bd (lp (kzx y1) 0) <| fun bits8 =>
   bd (wzm y1 bits8) fun r4 =>
   bd (wzm x0 bits8) fun r5 =>
   bd (vzi r5) fun r6 =>
   ck (decide (List.length (r6++[0,0])*4≤140737488355328)) <|
   ck (inB .i64 ((List.length x0:Int) - (List.length r4:Int))) <|
   ck (inB .i64 (((List.length x0:Int) - (List.length r4:Int))+2)) <|
   ck (mkOk (((List.length x0:Int) - (List.length r4:Int))+2) 4) <|
   ck (inB .i64 ((List.length (r6++[0,0]):Int) - (List.length r4:Int))) <|
   ck (inB .i64 (((List.length (r6++[0,0]):Int) - (List.length r4:Int)) - 1)) <|
   bd (lp (wz2 r4) ((((List.length (r6++[0,0]):Int) - (List.length r4:Int)) - 1),(r6++[0,0]),(List.replicate (Int.toNat (((List.length x0:Int) - (List.length r4:Int))+2)) 0))) <| fun (l1,l5) =>
   bd (qzx l5) fun r15 =>
   bd (qzx l1) fun r16 =>
   ck (inB .i64 (-bits8)) <|
   bd (wzm r16 (-bits8)) fun r17 =>
   some (r15,r17)
   )
  )
def vzb (x0:List Int):(Int×(List Int))→Option ((Int×(List Int))⊕(List Int)):=fun s=>match s with
 | (t8,l1) =>
  ite' (decide (t8 < (List.length x0:Int))) (
   bd (at? x0 t8) fun x1 =>
   ck (decide (List.length (l1++[(x1%256),((Int.fdiv x1 256)%256),((Int.fdiv x1 65536)%256),((Int.fdiv x1 16777216)%256)])*1≤140737488355328)) <|
   ck (inB .i64 (t8+1)) <|
   some (.inl ((t8+1),(l1++[(x1%256),((Int.fdiv x1 256)%256),((Int.fdiv x1 65536)%256),((Int.fdiv x1 16777216)%256)])))
   ) (
   some (.inr l1)
   )
def qz7 (x0:List Int):Option (List UInt8) :=
 bd (lp (vzb x0) (0,[])) <| fun l1 =>
 bd (yzz l1) fun r1 =>
 bd (qzdj (vzg r1)) fun r2 =>
 some r2
def qza9 (a0:List UInt8) (b1:List UInt8):Option ((List UInt8)×(List UInt8)×Int) :=
 bd (wzn a0) fun r1 =>
 bd (wzn b1) fun r2 =>
 ite' (decide ((List.length r2:Int)=0)) (
  some ([],[],1)
  ) (
  bd (kzf r1 r2) fun r3 =>
  bd (qz7 r3.1) fun r4 =>
  bd (qz7 r3.2) fun r5 =>
  some (r4,r5,0)
  )
def qzau (a0:List UInt8) (b1:List UInt8):Option (List UInt8) :=
 bd (wzn a0) fun r1 =>
 bd (wzn b1) fun r2 =>
 bd (wz1 r1 r2) fun r3 =>
 bd (qz7 r3) fun r4 =>
 some r4
def qzg3 (a0:List UInt8) (b1:List UInt8):Option (List UInt8) :=
 bd (wzn a0) fun r1 =>
 bd (wzn b1) fun r2 =>
 bd (vzk r1 r2) fun r3 =>
 bd (qz7 r3) fun r4 =>
 some r4
def qzgu (a0:List UInt8) (b1:List UInt8):Option (Int) :=
 bd (wzn a0) fun r1 =>
 bd (wzn b1) fun r2 =>
 bd (wzl r1 r2) fun r3 =>
 some r3
def qzgk (a0:List UInt8) (b1:List UInt8):Option ((List UInt8)×Int) :=
 bd (wzn a0) fun r1 =>
 bd (wzn b1) fun r2 =>
 bd (wzl r1 r2) fun r3 =>
 ite' (decide (r3 < 0)) (
  some ([],3)
  ) (
  bd (wzz r1 r2) fun r4 =>
  bd (qz7 r4) fun r5 =>
  some (r5,0)
  )
def qzgv (n0:Int):Option ((List UInt8)×Int) :=
 ite' (decide (n0 < 0)) (
  some ([],3)
  ) (
  bd (qzx [(n0%4294967296),((Int.fdiv n0 4294967296)%4294967296)]) fun r1 =>
  bd (qz7 r1) fun r2 =>
  some (r2,0)
  )
def wzl7 (num0:Int) (den1:Int):Option (vzu) :=
 bd (wzjs num0) fun r1 =>
 bd (wzjs den1) fun r2 =>
 ite' (bif (!r1) then true else (!r2)) (
  some (vzu.mk (qza.mk false [] []) 3)
  ) (
  ite' (decide (den1=0)) (
   some (vzu.mk (qza.mk false [] []) 1)
   ) (
   bd (wzjh num0) fun r3 =>
   bd (wzjh den1) fun r4 =>
   bd (wzi3 (!((decide (num0 < 0))==(decide (den1 < 0)))) r3 r4) fun r5 =>
   some (vzu.mk r5 0)
   )
  )
def wzp:(List Int×List Int)→Option ((List Int×List Int)⊕List Int):=fun s=>match s with
 | (x,y)=>ite' (decide ((List.length y:Int)=0)) (some (.inr x)) (bd (kzf x y) fun r=>some (.inl (y,r.2)))
def qzeo (a0:List UInt8) (b1:List UInt8):Option (List UInt8) :=
 bd (wzn a0) fun x =>
 bd (wzn b1) fun y =>
 bd (lp wzp (x,y)) fun r =>
 qz7 r
def yzs (a0:qza):Option (Bool) :=
 ite' ((a0.Neg==false)&&(decide (a0.Num=[])&&(decide (a0.Den=[])&&true))) (
  some true
  ) (
  bd (gd (bif (!decide (a0.Num=[])) then (!decide (a0.Den=[])) else false) (qzcb a0.Num)) fun r1 =>
  bd (gd (bif (bif (!decide (a0.Num=[])) then (!decide (a0.Den=[])) else false) then r1 else false) (qzcb a0.Den)) fun r2 =>
  bd (gd (bif (bif (bif (!decide (a0.Num=[])) then (!decide (a0.Den=[])) else false) then r1 else false) then r2 else false) (qzeo a0.Num a0.Den)) fun r3 =>
  some (bif (bif (bif (bif (!decide (a0.Num=[])) then (!decide (a0.Den=[])) else false) then r1 else false) then r2 else false) then (decide (r3=[1])) else false)
  )
def jz7 (a0:qza):Option (Bool) :=
 bd (yzs a0) fun r1 =>
 some (bif r1 then (!a0.Neg) else false)
def wziz (a0:qza):Option (Bool) :=
 bd (wzj5 a0) fun r1 =>
 some (bif r1 then (!a0.Neg) else false)
def jzg (a0:qza):Option (qzf) :=
 bd (gd (!(decide (a0.Num=[]))) (yzs a0)) fun r1 =>
 ite' (bif (decide (a0.Num=[])) then true else (!r1)) (
  some (qzf.mk false [] [1])
  ) (
  some (qzf.mk a0.Neg a0.Num a0.Den)
  )
def qzw (f0:qzf):Option (qza) :=
 ite' (decide (f0.num=[])) (
  some (qza.mk false [] [])
  ) (
  bd (qzeo f0.num f0.den) fun r1 =>
  bd (qza9 f0.num r1) fun r2 =>
  bd (qza9 f0.den r1) fun r3 =>
  some (qza.mk f0.neg r2.1 r3.1)
  )
def qza0 (op0:qzf→Option qzf) (b1:qza):Option (qza) :=
 bd (jzg b1) fun r1 =>
 bd (op0 r1) fun r2 =>
 bd (qzw r2) fun r3 =>
 some r3
def wz3 (f0:qzf) (g1:qzf):Option (qzf) :=
 bd (qzau f0.num g1.den) fun r1 =>
 bd (qzau g1.num f0.den) fun r2 =>
 bd (qzau f0.den g1.den) fun r3 =>
 ite' (f0.neg==g1.neg) (
  bd (qzg3 r1 r2) fun r4 =>
  some (qzf.mk f0.neg r4 r3)
  ) (
  bd (qzgu r1 r2) fun r5 =>
  bd (α:=(List UInt8)×(List UInt8)×qzf) (
   ite' (decide (r5 < 0)) (
    some (r2,r1,(qzf.mk g1.neg f0.num f0.den))
    ) (
    some (r1,r2,f0)
    )
  ) <| fun (a5,b6,b0) =>
   bd (qzgk a5 b6) fun r6 =>
   some (qzf.mk b0.neg r6.1 r3)
  )
def wz5 (f0:qzf) (g1:qzf):Option (qzf) :=
 bd (wz3 f0 (qzf.mk (!g1.neg) g1.num g1.den)) fun r1 =>
 some r1
def wzv (f0:qzf) (g1:qzf):Option (qzf) :=
 bd (qzau f0.num g1.num) fun r1 =>
 bd (qzau f0.den g1.den) fun r2 =>
 some (qzf.mk (!(f0.neg==g1.neg)) r1 r2)
def yzh (n0:Int):Option (qzf) :=
 ck (inB .i64 (-n0)) <|
 bd (qzgv (max n0 (-n0))) fun r1 =>
 some (qzf.mk (decide (n0 < 0)) r1.1 [1])
def wzj7 (n0:Int):Option (qza) :=
 bd (wzl7 n0 1) fun r1 =>
 some r1.A
def wzi1 (a0:qza):Option (qza) :=
 bd (wzj5 a0) fun r1 =>
 ite' r1 (
  some a0
  ) (
  some (qza.mk false [] [])
  )
def wzlo (a0:qza):Option (qza) :=
 bd (wzi1 a0) fun r1 =>
 ite' (!decide (r1.Num=[])) (
  some (qza.mk (!r1.Neg) r1.Num r1.Den)
  ) (
  some r1
  )
def wz4 (f0:qzf) (g1:qzf):Option (qzf) :=
 bd (wzv f0 (qzf.mk g1.neg g1.den g1.num)) fun r1 =>
 some r1
def qzbi (a0:qza) (b1:qza):Option (qza) :=
 bd (jzg a0) fun r1 =>
 bd (qza0 (fun a0=>wz3 r1 a0) b1) fun r2 =>
 some r2
def wz0 (a0:qza) (b1:qza):Option (Int) :=
 bd (jzg a0) fun r1 =>
 bd (jzg b1) fun r2 =>
 bd (wz5 r1 r2) fun r3 =>
 ite' (decide (r3.num=[])) (
  some 0
  ) (
  ite' r3.neg (
   some (-1)
   ) (
   some 1
   )
  )
def qzcw (a0:qza) (b1:qza):Option (qza) :=
 bd (jzg a0) fun r1 =>
 bd (qza0 (fun a0=>wzv r1 a0) b1) fun r2 =>
 some r2
def qzz (n0:Int):Option (qza) :=
 bd (yzy n0) fun r1 =>
 ite' (!r1) (
  some (qza.mk false [] [])
  ) (
  bd (yzh n0) fun r2 =>
  bd (qzw r2) fun r3 =>
  some r3
  )
def qzbh (a0:qza) (b1:qza):Option (qza) :=
 bd (jzg a0) fun r1 =>
 bd (qza0 (fun a0=>wz5 r1 a0) b1) fun r2 =>
 some r2
def qzea (l0:List Int):(Int×(List qza))→Option ((Int×(List qza))⊕(List qza)):=fun s=>match s with
 | (t8,l1) =>
  ite' (decide (t8 < (List.length l0:Int))) (
   bd (at? l0 t8) fun x1 =>
   bd (qzz x1) fun r1 =>
   ck (decide (List.length (l1++[r1])*40≤140737488355328)) <|
   ck (inB .i64 (t8+1)) <|
   some (.inl ((t8+1),(l1++[r1])))
   ) (
   some (.inr l1)
   )
def qzb3 (l0:List Int):Option (List qza) :=
 bd (lp (qzea l0) (0,[])) <| fun l1 =>
 some l1
def vzj (s0:qzb) (c0:qza):Option (qza) :=
 bd (qzcw s0.Floor c0) fun r1 =>
 some r1
def wzkr (a0:qza) (b1:qza):Option (qza) :=
 bd (wzi1 a0) fun r1 =>
 bd (wzi1 b1) fun r2 =>
 bd (wzi9 r1) fun r3 =>
 bd (wzi9 r2) fun r4 =>
 bd (wzi4 r3.1 r4.1) fun r5 =>
 bd (wzi4 r3.2 r4.2) fun r6 =>
 bd (wzi3 (!(r1.Neg==r2.Neg)) r5 r6) fun r7 =>
 some r7
def wzj9 (a0:qza) (b1:qza):Option (qza) :=
 bd (wzi1 a0) fun r1 =>
 bd (wzi1 b1) fun r2 =>
 bd (wzi9 r1) fun r3 =>
 bd (wzi9 r2) fun r4 =>
 bd (wzi4 r3.1 r4.2) fun r5 =>
 bd (wzi4 r4.1 r3.2) fun r6 =>
 bd (wzi4 r3.2 r4.2) fun r7 =>
 ite' (r1.Neg==r2.Neg) (
  bd (wzlm r5 r6) fun r8 =>
  bd (wzi3 r1.Neg r8 r7) fun r9 =>
  some r9
  ) (
  bd (wzj6 r5 r6) fun r10 =>
  ite' (decide (0≤r10)) (
   bd (wzj8 r5 r6) fun r11 =>
   bd (wzi3 r1.Neg r11.S r7) fun r12 =>
   some r12
   ) (
   bd (wzj8 r6 r5) fun r13 =>
   bd (wzi3 r2.Neg r13.S r7) fun r14 =>
   some r14
   )
  )
def qzbc (l0:List qza):(Int×qza)→Option ((Int×qza)⊕qza):=fun s=>match s with
 | (t8,b1) =>
  ite' (decide (t8 < (List.length l0:Int))) (
   bd (at? l0 t8) fun x1 =>
   bd (qzbi b1 x1) fun r1 =>
   ck (inB .i64 (t8+1)) <|
   some (.inl ((t8+1),r1))
   ) (
   some (.inr b1)
   )
def qzf9 (l0:List qza):Option (qza) :=
 bd (lp (qzbc l0) (0,(qza.mk false [] []))) <| fun b1 =>
 some b1
def qzlk (num0:Int) (den1:Int):Option (qza×Int) :=
 bd (yzy num0) fun r1 =>
 bd (gd (!(!r1)) (yzy den1)) fun r2 =>
 ite' (bif (!r1) then true else (!r2)) (
  some ((qza.mk false [] []),3)
  ) (
  ite' (decide (den1=0)) (
   some ((qza.mk false [] []),1)
   ) (
   bd (yzh num0) fun r3 =>
   bd (yzh den1) fun r4 =>
   bd (wz4 r3 r4) fun r5 =>
   bd (qzw r5) fun r6 =>
   some (r6,0)
   )
  )
def wzha (a0:qza) (b1:qza):Option (Int) :=
 bd (wz0 a0 b1) fun r1 =>
 some r1
def qzgm (a0:qza) (b1:qza):Option (qza×Int) :=
 bd (jzg b1) fun r1 =>
 ite' (decide (r1.num=[])) (
  some ((qza.mk false [] []),1)
  ) (
  bd (jzg a0) fun r2 =>
  bd (qza0 (fun a0=>wz4 r2 a0) b1) fun r3 =>
  some (r3,0)
  )
def wzlp (a0:qza) (b1:qza):Option (vzu) :=
 bd (wzi1 b1) fun r1 =>
 ite' (decide (r1.Num=[])) (
  some (vzu.mk (qza.mk false [] []) 1)
  ) (
  bd (wzkr a0 (qza.mk r1.Neg r1.Den r1.Num)) fun r2 =>
  some (vzu.mk r2 0)
  )
def natV (s:List UInt8):Nat:=s.foldl (fun n b=>n*256+b.toNat) 0
def ratV (a:qza):Rat:=mkRat (if a.Neg then -(natV a.Num:Int) else natV a.Num) (if a.Den=[] then 1 else natV a.Den)
def qzeg (a:qza):List qza→List qza
 | []=>[a]
 | b :: l=>if ratV a≤ratV b then a :: b :: l else b :: qzeg a l
def qzi1:List qza→List qza
 | []=>[]
 | a :: l=>qzeg a (qzi1 l)
def qzjz (l:List qza):Bool:=l.all fun a=>l.all fun b=>(match wzha a b with | some c=>decide (c < 0)==decide (ratV a < ratV b) | none=>false)&&(!(decide (ratV a=ratV b))||decide (a=b))
def yzm (l:List qza):Option (List qza):=ck (decide (0 < List.length l)&&qzjz l&&decide (List.length l≤4611686018427387900)) (some (qzi1 l))
def yzv (l0:List qzb):Int→Option (Int⊕(Unit⊕Int)):=fun s=>match s with
 | t16 =>
  ite' (decide (t16 < (List.length l0:Int))) (
   bd (at? l0 t16) fun x1 =>
   ite' (bif (bif (bif (decide (x1.State < 0)) then true else (decide (8≤x1.State))) then true else (decide (x1.Weight < 1))) then true else (decide (1000000 < x1.Weight))) (
    some (.inr (.inr 3))
    ) (
    bd (jz7 x1.Floor) fun r1 =>
    bd (gd (!(!r1)) (jz7 x1.Cap)) fun r2 =>
    bd (gd (!(bif (!r1) then true else (!r2))) (wz0 x1.Floor x1.Cap)) fun r3 =>
    ite' (bif (bif (!r1) then true else (!r2)) then true else (decide (0 < r3))) (
     some (.inr (.inr 1))
     ) (
     ck (kzy l0 0 t16) <|
     bd (jz8 (sub l0 0 t16) (fun a0=>qzan a0 x1)) fun r4 =>
     ite' r4 (
      some (.inr (.inr 9))
      ) (
      ck (inB .i64 (t16+1)) <|
      some (.inl (t16+1))
      )
     )
    )
   ) (
   some (.inr (.inl ()))
   )
def kz4 (l0:List qzb):Option (Int) :=
 ite' (bif (decide ((List.length l0:Int) < 1)) then true else (decide (8 < (List.length l0:Int)))) (
  some 2
  ) (
  bd (lp (yzv l0) 0) <| fun o=>match o with
  | .inl ()=>(
    some 0
   )
  | .inr o=>(
    some o
   )
  )
def qzeh (a0:qza) (b1:qza):Option (qza) :=
 bd (wz0 a0 b1) fun r1 =>
 ite' (decide (r1≤0)) (
  bd (jzg a0) fun r2 =>
  bd (qzw r2) fun r3 =>
  some r3
  ) (
  bd (jzg b1) fun r4 =>
  bd (qzw r4) fun r5 =>
  some r5
  )
def qzen (a0:qza) (b1:qza):Option (qza) :=
 bd (wz0 a0 b1) fun r1 =>
 ite' (decide (0≤r1)) (
  bd (jzg a0) fun r2 =>
  bd (qzw r2) fun r3 =>
  some r3
  ) (
  bd (jzg b1) fun r4 =>
  bd (qzw r4) fun r5 =>
  some r5
  )
def vz7 (l0:List qza):Option (qza) :=
 bd (qzf9 l0) fun r1 =>
 some r1
def jza (num0:Int) (den1:Int):Option (qza) :=
 bd (qzlk num0 den1) fun r1 =>
 some r1.1
def yzg (l0:List qzb) (a1:qza):Option (Int) :=
 bd (kz4 l0) fun r1 =>
 ite' (!decide (r1=0)) (
  some r1
  ) (
  bd (jz7 a1) fun r2 =>
  ite' (!r2) (
   some 1
   ) (
   some 0
   )
  )
def wza (x0:qz6) (s1:qzb):Option (qza) :=
 bd (qzz s1.Weight) fun r1 =>
 bd (qzcw x0.level r1) fun r2 =>
 bd (qzen r2 s1.Floor) fun r3 =>
 bd (qzeh r3 s1.Cap) fun r4 =>
 some r4
def jzn (l0:List qzb):Option (qza) :=
 bd (qzu l0 (fun a0=>jzx a0)) fun r1 =>
 bd (vz7 r1) fun r2 =>
 some r2
def jz1 (l0:List qzb):Option (qza) :=
 bd (qzu l0 (fun a0=>jzb a0)) fun r1 =>
 bd (vz7 r1) fun r2 =>
 some r2
def wzs (a0:qza) (b1:qza):Option (qza) :=
 bd (qzgm a0 b1) fun r1 =>
 some r1.1
def wzlj (l0:List qza):(Int×qza)→Option ((Int×qza)⊕qza):=fun s=>match s with
 | (k4,b1) =>
  ite' (decide (k4 < (List.length l0:Int))) (
   bd (at? l0 k4) fun x1 =>
   bd (wzj9 b1 x1) fun r1 =>
   ck (inB .i64 (k4+1)) <|
   some (.inl ((k4+1),r1))
   ) (
   some (.inr b1)
   )
def wzka (l0:List qza):Option (qza) :=
 bd (lp (wzlj l0) (0,(qza.mk false [] []))) <| fun b1 =>
 some b1
def wzi2 (a0:qza) (b1:qza):Option (qza) :=
 bd (wzlp a0 b1) fun r1 =>
 some r1.A
def wzlk (a0:qza) (b1:qza):Option (qza) :=
 bd (wzlo b1) fun r1 =>
 bd (wzj9 a0 r1) fun r2 =>
 some r2
def wzjy (d3:qze) (flow1:qza) (l0:List qzb) (low2:qza):Int→Option (Int⊕(Unit⊕Bool)):=fun s=>match s with
 | k10 =>
  ite' (decide (k10 < (List.length l0:Int))) (
   bd (at? d3.Parts k10) fun x1 =>
   bd (at? l0 k10) fun x2 =>
   bd (wzkr x2.Floor flow1) fun r1 =>
   bd (wzi2 r1 low2) fun r2 =>
   ite' (!((x1.Neg==r2.Neg)&&(decide (x1.Num=r2.Num)&&(decide (x1.Den=r2.Den)&&true)))) (
    some (.inr (.inr false))
    ) (
    ck (inB .i64 (k10+1)) <|
    some (.inl (k10+1))
    )
   ) (
   some (.inr (.inl ()))
   )
def wzks (l0:List qzb) (flow1:qza) (low2:qza) (d3:qze):Option (Bool) :=
 bd (lp (wzjy d3 flow1 l0 low2) 0) <| fun o=>match o with
 | .inl ()=>(
   some ((d3.Rest.Neg==false)&&(decide (d3.Rest.Num=[])&&(decide (d3.Rest.Den=[])&&true)))
  )
 | .inr o=>(
   some o
  )
def qzk4 (l0:List qzb) (level1:qza):Option ((List qza)×Int) :=
 bd (yzg l0 level1) fun r1 =>
 ite' (!decide (r1=0)) (
  some ([],r1)
  ) (
  bd (qzu l0 (fun a0=>wza (qz6.mk level1) a0)) fun r2 =>
  some (r2,0)
  )
def jzf (l0:List qzb):(Int×(List qza))→Option ((Int×(List qza))⊕(List qza)):=fun s=>match s with
 | (t16,l5) =>
  ite' (decide (t16 < (List.length l0:Int))) (
   bd (at? l0 t16) fun x1 =>
   bd (qzz x1.Weight) fun r1 =>
   bd (wzs x1.Floor r1) fun r2 =>
   bd (wzs x1.Cap r1) fun r3 =>
   ck (decide (List.length (l5++[r2,r3])*40≤140737488355328)) <|
   ck (inB .i64 (t16+1)) <|
   some (.inl ((t16+1),(l5++[r2,r3])))
   ) (
   some (.inr l5)
   )
def jzd (flow1:qza) (l0:List qzb) (r4:List qza):(Int×qza)→Option ((Int×qza)⊕(qza⊕qza)):=fun s=>match s with
 | (t39,b6) =>
  ite' (decide (t39 < (List.length r4:Int))) (
   bd (at? r4 t39) fun x2 =>
   bd (qzu l0 (fun a0=>wza (qz6.mk b6) a0)) fun r5 =>
   bd (vz7 r5) fun r6 =>
   bd (qzu l0 (fun a0=>wza (qz6.mk x2) a0)) fun r7 =>
   bd (vz7 r7) fun r8 =>
   bd (wz0 flow1 r6) fun r9 =>
   ite' (decide (r9≤0)) (
    some (.inr (.inl b6))
    ) (
    bd (wz0 flow1 r8) fun r10 =>
    ite' (decide (r10≤0)) (
     bd (qzbh flow1 r6) fun r11 =>
     bd (qzbh r8 r6) fun r12 =>
     bd (wzs r11 r12) fun r13 =>
     bd (qzbh x2 b6) fun r14 =>
     bd (qzcw r13 r14) fun r15 =>
     bd (qzbi b6 r15) fun r16 =>
     some (.inr (.inr r16))
     ) (
     ck (inB .i64 (t39+1)) <|
     some (.inl ((t39+1),x2))
     )
    )
   ) (
   some (.inr (.inl b6))
   )
def wzq (l0:List qzb) (flow1:qza):Option (qza) :=
 bd (lp (jzf l0) (0,[])) <| fun l5 =>
 bd (yzm l5) fun r4 =>
 bd (lp (jzd flow1 l0 r4) (0,(qza.mk false [] []))) <| fun o=>match o with
 | .inl b6=>(
   some b6
  )
 | .inr o=>(
   some o
  )
def wzi8 (a0:qza) (b1:qza):Option (Int) :=
 bd (wzlk a0 b1) fun r1 =>
 ite' (decide (r1.Num=[])) (
  some 0
  ) (
  ite' r1.Neg (
   some (-1)
   ) (
   some 1
   )
  )
def wzjj (d1:qze) (k6:Int) (l0:List qzb) (x1:qza):Int→Option (Int⊕(Unit⊕Bool)):=fun s=>match s with
 | i8 =>
  ite' (decide (i8 < (List.length l0:Int))) (
   bd (at? l0 k6) fun x5 =>
   bd (wzj7 x5.Weight) fun r3 =>
   bd (wzi2 x1 r3) fun r4 =>
   bd (at? d1.Parts i8) fun x6 =>
   bd (at? l0 i8) fun x7 =>
   bd (wzj7 x7.Weight) fun r5 =>
   bd (wzi2 x6 r5) fun r6 =>
   bd (at? l0 k6) fun x8 =>
   bd (gd (!((x1.Neg==x8.Floor.Neg)&&(decide (x1.Num=x8.Floor.Num)&&(decide (x1.Den=x8.Floor.Den)&&true)))) (at? d1.Parts i8)) fun x9 =>
   bd (gd (!((x1.Neg==x8.Floor.Neg)&&(decide (x1.Num=x8.Floor.Num)&&(decide (x1.Den=x8.Floor.Den)&&true)))) (at? l0 i8)) fun x10 =>
   bd (gd (bif (!((x1.Neg==x8.Floor.Neg)&&(decide (x1.Num=x8.Floor.Num)&&(decide (x1.Den=x8.Floor.Den)&&true)))) then (!((x9.Neg==x10.Cap.Neg)&&(decide (x9.Num=x10.Cap.Num)&&(decide (x9.Den=x10.Cap.Den)&&true)))) else false) (wzi8 r4 r6)) fun r7 =>
   ite' (bif (bif (!((x1.Neg==x8.Floor.Neg)&&(decide (x1.Num=x8.Floor.Num)&&(decide (x1.Den=x8.Floor.Den)&&true)))) then (!((x9.Neg==x10.Cap.Neg)&&(decide (x9.Num=x10.Cap.Num)&&(decide (x9.Den=x10.Cap.Den)&&true)))) else false) then (decide (0 < r7)) else false) (
    some (.inr (.inr false))
    ) (
    ck (inB .i64 (i8+1)) <|
    some (.inl (i8+1))
    )
   ) (
   some (.inr (.inl ()))
   )
def wzjg (d1:qze) (l0:List qzb):Int→Option (Int⊕(Unit⊕Bool)):=fun s=>match s with
 | k6 =>
  ite' (decide (k6 < (List.length l0:Int))) (
   bd (at? d1.Parts k6) fun x1 =>
   bd (at? l0 k6) fun x2 =>
   bd (wzi8 x1 x2.Floor) fun r1 =>
   bd (gd (!(decide (r1 < 0))) (at? l0 k6)) fun x3 =>
   bd (gd (!(decide (r1 < 0))) (wzi8 x1 x3.Cap)) fun r2 =>
   bd (gd ((!(bif (decide (r1 < 0)) then true else (decide (0 < r2))))&&(!((d1.Rest.Neg==false)&&(decide (d1.Rest.Num=[])&&(decide (d1.Rest.Den=[])&&true))))) (at? l0 k6)) fun x4 =>
   ite' (bif (bif (decide (r1 < 0)) then true else (decide (0 < r2))) then true else (bif (!((d1.Rest.Neg==false)&&(decide (d1.Rest.Num=[])&&(decide (d1.Rest.Den=[])&&true)))) then (!((x1.Neg==x4.Cap.Neg)&&(decide (x1.Num=x4.Cap.Num)&&(decide (x1.Den=x4.Cap.Den)&&true)))) else false)) (
    some (.inr (.inr false))
    ) (
    bd (lp (wzjj d1 k6 l0 x1) 0) <| fun o=>match o with
    | .inl ()=>(
      ck (inB .i64 (k6+1)) <|
      some (.inl (k6+1))
     )
    | .inr o=>(
      some (.inr (.inr o))
     )
    )
   ) (
   some (.inr (.inl ()))
   )
def wzjr (l0:List qzb) (d1:qze):Option (Bool) :=
 bd (lp (wzjg d1 l0) 0) <| fun o=>match o with
 | .inl ()=>(
   some true
  )
 | .inr o=>(
   some o
  )
def wzxj (a0:qza) (b1:qza):Option (qza) :=
 bd (wzi8 a0 b1) fun r1 =>
 ite' (decide (r1≤0)) (
  bd (wzi1 a0) fun r2 =>
  some r2
  ) (
  bd (wzi1 b1) fun r3 =>
  some r3
  )
def wzxi (a0:qza) (b1:qza):Option (qza) :=
 bd (wzi8 a0 b1) fun r1 =>
 ite' (decide (0≤r1)) (
  bd (wzi1 a0) fun r2 =>
  some r2
  ) (
  bd (wzi1 b1) fun r3 =>
  some r3
  )
def wzxh (l0:List qzb) (level1:qza):(Int×Int)→Option ((Int×Int)⊕Int):=fun s=>match s with
 | (n5,k6) =>
  ite' (decide (k6 < (List.length l0:Int))) (
   bd (at? l0 k6) fun x1 =>
   bd (wzj7 x1.Weight) fun r1 =>
   bd (wzkr level1 r1) fun r2 =>
   bd (at? l0 k6) fun x2 =>
   bd (wzi8 r2 x2.Floor) fun r3 =>
   bd (gd (decide (0≤r3)) (at? l0 k6)) fun x3 =>
   bd (gd (decide (0≤r3)) (wzi8 r2 x3.Cap)) fun r4 =>
   ite' (bif (decide (0≤r3)) then (decide (r4 < 0)) else false) (
    bd (at? l0 k6) fun x4 =>
    ck (inB .i64 (n5+x4.Weight)) <|
    ck (inB .i64 (k6+1)) <|
    some (.inl ((n5+x4.Weight),(k6+1)))
    ) (
    ck (inB .i64 (k6+1)) <|
    some (.inl (n5,(k6+1)))
    )
   ) (
   some (.inr n5)
   )
def wzxc (l0:List qzb) (level1:qza):Option (Int) :=
 bd (lp (wzxh l0 level1) (0,0)) <| fun n5 =>
 some n5
def kz3 (l0:List qzb) (flow1:qza):Option (qza×Int) :=
 bd (yzg l0 flow1) fun r1 =>
 ite' (!decide (r1=0)) (
  some ((qza.mk false [] []),r1)
  ) (
  bd (jzn l0) fun r2 =>
  bd (wz0 flow1 r2) fun r3 =>
  ite' (decide (0 < r3)) (
   some ((qza.mk false [] []),8)
   ) (
   bd (wzq l0 flow1) fun r4 =>
   some (r4,0)
   )
  )
def wzy (l0:List qzb) (flow1:qza):Option (qze×Int) :=
 bd (yzg l0 flow1) fun r1 =>
 ite' (!decide (r1=0)) (
  some ((qze.mk [] (qza.mk false [] [])),r1)
  ) (
  bd (jz1 l0) fun r2 =>
  bd (jzn l0) fun r3 =>
  bd (wz0 flow1 r2) fun r4 =>
  ite' (decide (r4 < 0)) (
   bd (wzs flow1 r2) fun r5 =>
   bd (qzu l0 (fun a0=>vzj a0 r5)) fun r6 =>
   some ((qze.mk r6 (qza.mk false [] [])),0)
   ) (
   bd (wz0 flow1 r3) fun r7 =>
   ite' (decide (0 < r7)) (
    bd (qzu l0 (fun a0=>yz0 a0)) fun r8 =>
    bd (qzbh flow1 r3) fun r9 =>
    some ((qze.mk r8 r9),0)
    ) (
    bd (wzq l0 flow1) fun r10 =>
    bd (qzu l0 (fun a0=>wza (qz6.mk r10) a0)) fun r11 =>
    some ((qze.mk r11 (qza.mk false [] [])),0)
    )
   )
  )
def wzkz (k3:Int) (l0:List qzb) (x1:qzb):Int→Option (Int⊕(Unit⊕Int)):=fun s=>match s with
 | i7 =>
  ite' (decide (i7 < k3)) (
   bd (at? l0 i7) fun x2 =>
   ite' (decide (x2.State=x1.State)) (
    some (.inr (.inr 9))
    ) (
    ck (inB .i64 (i7+1)) <|
    some (.inl (i7+1))
    )
   ) (
   some (.inr (.inl ()))
   )
def wzkx (l0:List qzb):Int→Option (Int⊕(Unit⊕Int)):=fun s=>match s with
 | k3 =>
  ite' (decide (k3 < (List.length l0:Int))) (
   bd (at? l0 k3) fun x1 =>
   ite' (bif (bif (bif (decide (x1.State < 0)) then true else (decide (7 < x1.State))) then true else (decide (x1.Weight < 1))) then true else (decide (1000000 < x1.Weight))) (
    some (.inr (.inr 3))
    ) (
    bd (wziz x1.Floor) fun r1 =>
    bd (wziz x1.Cap) fun r2 =>
    ite' (bif (!r1) then true else (!r2)) (
     some (.inr (.inr 1))
     ) (
     bd (wzi8 x1.Floor x1.Cap) fun r3 =>
     ite' (decide (0 < r3)) (
      some (.inr (.inr 1))
      ) (
      bd (lp (wzkz k3 l0 x1) 0) <| fun o=>match o with
      | .inl ()=>(
        ck (inB .i64 (k3+1)) <|
        some (.inl (k3+1))
       )
      | .inr o=>(
        some (.inr (.inr o))
       )
      )
     )
    )
   ) (
   some (.inr (.inl ()))
   )
def wzku (l0:List qzb):Option (Int) :=
 ite' (bif (decide ((List.length l0:Int) < 1)) then true else (decide (8 < (List.length l0:Int)))) (
  some 2
  ) (
  bd (lp (wzkx l0) 0) <| fun o=>match o with
  | .inl ()=>(
    some 0
   )
  | .inr o=>(
    some o
   )
  )
def wzx (l0:List qzb) (flow1:qza) (d2:qze):Option (Bool) :=
 bd (wzy l0 flow1) fun r1 =>
 bd (gd (bif (decide (r1.2=0)) then ((d2.Rest.Neg==r1.1.Rest.Neg)&&(decide (d2.Rest.Num=r1.1.Rest.Num)&&(decide (d2.Rest.Den=r1.1.Rest.Den)&&true))) else false) (qzbb d2.Parts r1.1.Parts)) fun r2 =>
 some (bif (bif (decide (r1.2=0)) then ((d2.Rest.Neg==r1.1.Rest.Neg)&&(decide (d2.Rest.Num=r1.1.Rest.Num)&&(decide (d2.Rest.Den=r1.1.Rest.Den)&&true))) else false) then r2 else false)
def wzkt (l0:List qzb) (a1:qza):Option (Int) :=
 bd (wzku l0) fun r1 =>
 ite' (!decide (r1=0)) (
  some r1
  ) (
  bd (wziz a1) fun r2 =>
  ite' (!r2) (
   some 1
   ) (
   some 0
   )
  )
def wzxn (l0:List qzb) (level1:qza):(Int×(List qza))→Option ((Int×(List qza))⊕(List qza)):=fun s=>match s with
 | (k6,l3) =>
  ite' (decide (k6 < (List.length l0:Int))) (
   bd (at? l0 k6) fun x1 =>
   bd (wzj7 x1.Weight) fun r1 =>
   bd (wzkr level1 r1) fun r2 =>
   bd (at? l0 k6) fun x2 =>
   bd (wzxi r2 x2.Floor) fun r3 =>
   bd (at? l0 k6) fun x3 =>
   bd (wzxj r3 x3.Cap) fun r4 =>
   ck (decide (List.length (l3++[r4])*40≤140737488355328)) <|
   ck (inB .i64 (k6+1)) <|
   some (.inl ((k6+1),(l3++[r4])))
   ) (
   some (.inr l3)
   )
def wzw0 (l0:List qzb) (level1:qza):Option (List qza) :=
 bd (lp (wzxn l0 level1) (0,[])) <| fun l3 =>
 some l3
def wzw5 (l0:List qzb):(Int×(List qza))→Option ((Int×(List qza))⊕(List qza)):=fun s=>match s with
 | (k6,l4) =>
  ite' (decide (k6 < (List.length l0:Int))) (
   bd (at? l0 k6) fun x1 =>
   bd (wzj7 x1.Weight) fun r1 =>
   bd (at? l0 k6) fun x2 =>
   bd (wzi2 x2.Floor r1) fun r2 =>
   bd (at? l0 k6) fun x3 =>
   bd (wzi2 x3.Cap r1) fun r3 =>
   ck (decide (List.length (l4++[r2,r3])*40≤140737488355328)) <|
   ck (inB .i64 (k6+1)) <|
   some (.inl ((k6+1),(l4++[r2,r3])))
   ) (
   some (.inr l4)
   )
def wzw4 (flow1:qza) (l0:List qzb) (l4:List qza):(Bool×Int×qza)→Option ((Bool×Int×qza)⊕(Bool×qza)):=fun s=>match s with
 | (some10,k11,b6) =>
  ite' (decide (k11 < (List.length l4:Int))) (
   bd (at? l4 k11) fun x4 =>
   bd (wzw0 l0 x4) fun r7 =>
   bd (wzka r7) fun r8 =>
   bd (at? l4 k11) fun x5 =>
   bd (wzxc l0 x5) fun r9 =>
   bd (wzi8 r8 flow1) fun r10 =>
   bd (α:=Unit⊕Unit) (
    ite' (decide (0≤r10)) (
     some (.inr ())
     ) (
     some (.inl ())
     )
   ) <| fun o=>match o with
    | .inl ()=>(
      bd (α:=Unit⊕Unit) (
       ite' (decide (r9=0)) (
        some (.inr ())
        ) (
        some (.inl ())
        )
      ) <| fun o=>match o with
       | .inl ()=>(
         bd (at? l4 k11) fun x6 =>
         bd (wzlk flow1 r8) fun r11 =>
         bd (wzj7 r9) fun r12 =>
         bd (wzi2 r11 r12) fun r13 =>
         bd (wzj9 x6 r13) fun r14 =>
         bd (wzw0 l0 r14) fun r15 =>
         bd (wzka r15) fun r16 =>
         bd (gd (((r16.Neg==flow1.Neg)&&(decide (r16.Num=flow1.Num)&&(decide (r16.Den=flow1.Den)&&true)))&&(!(!some10))) (wzi8 r14 b6)) fun r17 =>
         ite' (bif ((r16.Neg==flow1.Neg)&&(decide (r16.Num=flow1.Num)&&(decide (r16.Den=flow1.Den)&&true))) then (bif (!some10) then true else (decide (r17 < 0))) else false) (
          ck (inB .i64 (k11+1)) <|
          some (.inl (true,(k11+1),r14))
          ) (
          ck (inB .i64 (k11+1)) <|
          some (.inl (some10,(k11+1),b6))
          )
        )
       | .inr ()=>(
         ck (inB .i64 (k11+1)) <|
         some (.inl (some10,(k11+1),b6))
        )
     )
    | .inr ()=>(
      ck (inB .i64 (k11+1)) <|
      some (.inl (some10,(k11+1),b6))
     )
   ) (
   some (.inr (some10,b6))
   )
def wzw6 (flow1:qza) (l0:List qzb) (l4:List qza):(Bool×Int×qza)→Option ((Bool×Int×qza)⊕qza):=fun s=>match s with
 | (some10',k15,b6') =>
  ite' (decide (k15 < (List.length l4:Int))) (
   bd (at? l4 k15) fun x7 =>
   bd (wzw0 l0 x7) fun r18 =>
   bd (wzka r18) fun r19 =>
   bd (wzi8 r19 flow1) fun r20 =>
   bd (gd ((decide (0≤r20))&&(!(!some10'))) (at? l4 k15)) fun x8 =>
   bd (gd ((decide (0≤r20))&&(!(!some10'))) (wzi8 x8 b6')) fun r21 =>
   ite' (bif (decide (0≤r20)) then (bif (!some10') then true else (decide (r21 < 0))) else false) (
    bd (at? l4 k15) fun x9 =>
    ck (inB .i64 (k15+1)) <|
    some (.inl (true,(k15+1),x9))
    ) (
    ck (inB .i64 (k15+1)) <|
    some (.inl (some10',(k15+1),b6'))
    )
   ) (
   some (.inr b6')
   )
def wzw3 (l0:List qzb) (flow1:qza):Option (qza) :=
 bd (lp (wzw5 l0) (0,[])) <| fun l4 =>
 bd (wzw0 l0 (qza.mk false [] [])) fun r4 =>
 bd (wzka r4) fun r5 =>
 bd (wzi8 r5 flow1) fun r6 =>
 ite' (decide (0≤r6)) (
  some (qza.mk false [] [])
  ) (
  bd (lp (wzw4 flow1 l0 l4) (false,0,(qza.mk false [] []))) <| fun (some10,b6) =>
  bd (lp (wzw6 flow1 l0 l4) (some10,0,b6)) <| fun b6' =>
  some b6'
  )
def qzdf (r1:qza) (r10:qza) (r11:qza) (r12:qza) (r13:List qza) (r2:qza) (r3:qza) (r4:qza) (r5:qza) (r6:qza) (r7:qza) (r8:qza) (r9:List qza):Int→Option (Int⊕(Unit⊕Bool)):=fun s=>match s with
 | t47 =>
  ite' (decide (t47 < (List.length [r6,r7,r8]:Int))) (
   bd (at? [r6,r7,r8] t47) fun x1 =>
   bd (qzk4 [(qzb.mk 0 1 r1 r2),(qzb.mk 1 2 (qza.mk false [] []) r3),(qzb.mk 2 1 r4 r5)] x1) fun r14 =>
   bd (gd (!(!decide (r14.2=0))) (at? [r9,[r10,r11,r12],r13] t47)) fun x2 =>
   bd (gd (!(!decide (r14.2=0))) (qzba r14.1 x2)) fun r15 =>
   ite' (bif (!decide (r14.2=0)) then true else (!r15)) (
    some (.inr (.inr false))
    ) (
    ck (inB .i64 (t47+1)) <|
    some (.inl (t47+1))
    )
   ) (
   some (.inr (.inl ()))
   )
def qzdg (r1:qza) (r16:qza) (r17:qza) (r18:qza) (r2:qza) (r3:qza) (r4:qza) (r5:qza):Int→Option (Int⊕(Unit⊕Bool)):=fun s=>match s with
 | t77 =>
  ite' (decide (t77 < (List.length [3,5,10,17]:Int))) (
   bd (at? [3,5,10,17] t77) fun x3 =>
   bd (qzz x3) fun r19 =>
   bd (kz3 [(qzb.mk 0 1 r1 r2),(qzb.mk 1 2 (qza.mk false [] []) r3),(qzb.mk 2 1 r4 r5)] r19) fun r20 =>
   bd (gd (!(!decide (r20.2=0))) (at? [(qza.mk false [] []),r16,r17,r18] t77)) fun x4 =>
   ite' (bif (!decide (r20.2=0)) then true else (!((r20.1.Neg==x4.Neg)&&(decide (r20.1.Num=x4.Num)&&(decide (r20.1.Den=x4.Den)&&true))))) (
    some (.inr (.inr false))
    ) (
    ck (inB .i64 (t77+1)) <|
    some (.inl (t77+1))
    )
   ) (
   some (.inr (.inl ()))
   )
def yzu :Option (Bool) :=
 bd (qzz 2) fun r1 =>
 bd (qzz 4) fun r2 =>
 bd (qzz 10) fun r3 =>
 bd (qzz 1) fun r4 =>
 bd (qzz 3) fun r5 =>
 bd (qzz 1) fun r6 =>
 bd (jza 5 2) fun r7 =>
 bd (qzz 9) fun r8 =>
 bd (qzb3 [2,2,1]) fun r9 =>
 bd (jza 5 2) fun r10 =>
 bd (qzz 5) fun r11 =>
 bd (jza 5 2) fun r12 =>
 bd (qzb3 [4,10,3]) fun r13 =>
 bd (lp (qzdf r1 r10 r11 r12 r13 r2 r3 r4 r5 r6 r7 r8 r9) 0) <| fun o=>match o with
 | .inl ()=>(
   bd (qzz 1) fun r16 =>
   bd (jza 5 2) fun r17 =>
   bd (qzz 5) fun r18 =>
   bd (lp (qzdg r1 r16 r17 r18 r2 r3 r4 r5) 0) <| fun o=>match o with
   | .inl ()=>(
     bd (qzz 18) fun r21 =>
     bd (kz3 [(qzb.mk 0 1 r1 r2),(qzb.mk 1 2 (qza.mk false [] []) r3),(qzb.mk 2 1 r4 r5)] r21) fun r22 =>
     bd (qzz 10) fun r23 =>
     bd (wzy [(qzb.mk 0 1 r1 r2),(qzb.mk 1 2 (qza.mk false [] []) r3),(qzb.mk 2 1 r4 r5)] r23) fun r24 =>
     bd (qzz 2) fun r25 =>
     bd (wzy [(qzb.mk 0 1 r1 r2),(qzb.mk 1 2 (qza.mk false [] []) r3),(qzb.mk 2 1 r4 r5)] r25) fun r26 =>
     bd (qzz 20) fun r27 =>
     bd (wzy [(qzb.mk 0 1 r1 r2),(qzb.mk 1 2 (qza.mk false [] []) r3),(qzb.mk 2 1 r4 r5)] r27) fun r28 =>
     bd (gd (bif (bif (bif (decide (r22.2=8)) then (decide (r24.2=0)) else false) then (decide (r26.2=0)) else false) then (decide (r28.2=0)) else false) (kz4 [(qzb.mk 0 1 r1 r2),(qzb.mk 1 2 (qza.mk false [] []) r3),(qzb.mk 2 1 r4 r5)])) fun r29 =>
     bd (gd (bif (bif (bif (bif (decide (r22.2=8)) then (decide (r24.2=0)) else false) then (decide (r26.2=0)) else false) then (decide (r28.2=0)) else false) then (decide (r29=0)) else false) (kz4 [])) fun r30 =>
     bd (at? [r9,[r10,r11,r12],r13] 1) fun x5 =>
     bd (qzba r24.1.Parts x5) fun r31 =>
     bd (gd (bif r31 then ((r24.1.Rest.Neg==false)&&(decide (r24.1.Rest.Num=[])&&(decide (r24.1.Rest.Den=[])&&true))) else false) (jza 4 3)) fun r32 =>
     bd (gd (bif r31 then ((r24.1.Rest.Neg==false)&&(decide (r24.1.Rest.Num=[])&&(decide (r24.1.Rest.Den=[])&&true))) else false) (jza 2 3)) fun r33 =>
     bd (gd (bif r31 then ((r24.1.Rest.Neg==false)&&(decide (r24.1.Rest.Num=[])&&(decide (r24.1.Rest.Den=[])&&true))) else false) (qzba r26.1.Parts [r32,(qza.mk false [] []),r33])) fun r34 =>
     bd (gd (bif (bif (bif r31 then ((r24.1.Rest.Neg==false)&&(decide (r24.1.Rest.Num=[])&&(decide (r24.1.Rest.Den=[])&&true))) else false) then r34 else false) then ((r26.1.Rest.Neg==false)&&(decide (r26.1.Rest.Num=[])&&(decide (r26.1.Rest.Den=[])&&true))) else false) (at? [r9,[r10,r11,r12],r13] 2)) fun x6 =>
     bd (gd (bif (bif (bif r31 then ((r24.1.Rest.Neg==false)&&(decide (r24.1.Rest.Num=[])&&(decide (r24.1.Rest.Den=[])&&true))) else false) then r34 else false) then ((r26.1.Rest.Neg==false)&&(decide (r26.1.Rest.Num=[])&&(decide (r26.1.Rest.Den=[])&&true))) else false) (qzba r28.1.Parts x6)) fun r35 =>
     bd (gd (bif (bif (bif (bif r31 then ((r24.1.Rest.Neg==false)&&(decide (r24.1.Rest.Num=[])&&(decide (r24.1.Rest.Den=[])&&true))) else false) then r34 else false) then ((r26.1.Rest.Neg==false)&&(decide (r26.1.Rest.Num=[])&&(decide (r26.1.Rest.Den=[])&&true))) else false) then r35 else false) (qzz 3)) fun r36 =>
     bd (gd (bif (bif (bif (bif (bif (bif (decide (r22.2=8)) then (decide (r24.2=0)) else false) then (decide (r26.2=0)) else false) then (decide (r28.2=0)) else false) then (decide (r29=0)) else false) then (decide (r30=2)) else false) then (bif (bif (bif (bif (bif r31 then ((r24.1.Rest.Neg==false)&&(decide (r24.1.Rest.Num=[])&&(decide (r24.1.Rest.Den=[])&&true))) else false) then r34 else false) then ((r26.1.Rest.Neg==false)&&(decide (r26.1.Rest.Num=[])&&(decide (r26.1.Rest.Den=[])&&true))) else false) then r35 else false) then ((r28.1.Rest.Neg==r36.Neg)&&(decide (r28.1.Rest.Num=r36.Num)&&(decide (r28.1.Rest.Den=r36.Den)&&true))) else false) else false) (qzz 10)) fun r37 =>
     bd (gd (bif (bif (bif (bif (bif (bif (decide (r22.2=8)) then (decide (r24.2=0)) else false) then (decide (r26.2=0)) else false) then (decide (r28.2=0)) else false) then (decide (r29=0)) else false) then (decide (r30=2)) else false) then (bif (bif (bif (bif (bif r31 then ((r24.1.Rest.Neg==false)&&(decide (r24.1.Rest.Num=[])&&(decide (r24.1.Rest.Den=[])&&true))) else false) then r34 else false) then ((r26.1.Rest.Neg==false)&&(decide (r26.1.Rest.Num=[])&&(decide (r26.1.Rest.Den=[])&&true))) else false) then r35 else false) then ((r28.1.Rest.Neg==r36.Neg)&&(decide (r28.1.Rest.Num=r36.Num)&&(decide (r28.1.Rest.Den=r36.Den)&&true))) else false) else false) (wzx [(qzb.mk 0 1 r1 r2),(qzb.mk 1 2 (qza.mk false [] []) r3),(qzb.mk 2 1 r4 r5)] r37 r24.1)) fun r38 =>
     bd (gd (bif (bif (bif (bif (bif (bif (bif (decide (r22.2=8)) then (decide (r24.2=0)) else false) then (decide (r26.2=0)) else false) then (decide (r28.2=0)) else false) then (decide (r29=0)) else false) then (decide (r30=2)) else false) then (bif (bif (bif (bif (bif r31 then ((r24.1.Rest.Neg==false)&&(decide (r24.1.Rest.Num=[])&&(decide (r24.1.Rest.Den=[])&&true))) else false) then r34 else false) then ((r26.1.Rest.Neg==false)&&(decide (r26.1.Rest.Num=[])&&(decide (r26.1.Rest.Den=[])&&true))) else false) then r35 else false) then ((r28.1.Rest.Neg==r36.Neg)&&(decide (r28.1.Rest.Num=r36.Num)&&(decide (r28.1.Rest.Den=r36.Den)&&true))) else false) else false) then r38 else false) (qzz 10)) fun r39 =>
     bd (gd (bif (bif (bif (bif (bif (bif (bif (decide (r22.2=8)) then (decide (r24.2=0)) else false) then (decide (r26.2=0)) else false) then (decide (r28.2=0)) else false) then (decide (r29=0)) else false) then (decide (r30=2)) else false) then (bif (bif (bif (bif (bif r31 then ((r24.1.Rest.Neg==false)&&(decide (r24.1.Rest.Num=[])&&(decide (r24.1.Rest.Den=[])&&true))) else false) then r34 else false) then ((r26.1.Rest.Neg==false)&&(decide (r26.1.Rest.Num=[])&&(decide (r26.1.Rest.Den=[])&&true))) else false) then r35 else false) then ((r28.1.Rest.Neg==r36.Neg)&&(decide (r28.1.Rest.Num=r36.Num)&&(decide (r28.1.Rest.Den=r36.Den)&&true))) else false) else false) then r38 else false) (qzb3 [3,5,2])) fun r40 =>
     bd (gd (bif (bif (bif (bif (bif (bif (bif (decide (r22.2=8)) then (decide (r24.2=0)) else false) then (decide (r26.2=0)) else false) then (decide (r28.2=0)) else false) then (decide (r29=0)) else false) then (decide (r30=2)) else false) then (bif (bif (bif (bif (bif r31 then ((r24.1.Rest.Neg==false)&&(decide (r24.1.Rest.Num=[])&&(decide (r24.1.Rest.Den=[])&&true))) else false) then r34 else false) then ((r26.1.Rest.Neg==false)&&(decide (r26.1.Rest.Num=[])&&(decide (r26.1.Rest.Den=[])&&true))) else false) then r35 else false) then ((r28.1.Rest.Neg==r36.Neg)&&(decide (r28.1.Rest.Num=r36.Num)&&(decide (r28.1.Rest.Den=r36.Den)&&true))) else false) else false) then r38 else false) (wzx [(qzb.mk 0 1 r1 r2),(qzb.mk 1 2 (qza.mk false [] []) r3),(qzb.mk 2 1 r4 r5)] r39 (qze.mk r40 (qza.mk false [] [])))) fun r41 =>
     some (bif (bif (bif (bif (bif (bif (bif (bif (decide (r22.2=8)) then (decide (r24.2=0)) else false) then (decide (r26.2=0)) else false) then (decide (r28.2=0)) else false) then (decide (r29=0)) else false) then (decide (r30=2)) else false) then (bif (bif (bif (bif (bif r31 then ((r24.1.Rest.Neg==false)&&(decide (r24.1.Rest.Num=[])&&(decide (r24.1.Rest.Den=[])&&true))) else false) then r34 else false) then ((r26.1.Rest.Neg==false)&&(decide (r26.1.Rest.Num=[])&&(decide (r26.1.Rest.Den=[])&&true))) else false) then r35 else false) then ((r28.1.Rest.Neg==r36.Neg)&&(decide (r28.1.Rest.Num=r36.Num)&&(decide (r28.1.Rest.Den=r36.Den)&&true))) else false) else false) then r38 else false) then (!r41) else false)
    )
   | .inr o=>(
     some o
    )
  )
 | .inr o=>(
   some o
  )
def wzxo (l0:List qzb) (level1:qza):Option (kzj) :=
 bd (wzkt l0 level1) fun r1 =>
 ite' (!decide (r1=0)) (
  some (kzj.mk [] r1)
  ) (
  bd (wzw0 l0 level1) fun r2 =>
  some (kzj.mk r2 0)
  )
def wzxf (l0:List qzb) (flow1:qza):Option (jzh) :=
 bd (wzkt l0 flow1) fun r1 =>
 ite' (!decide (r1=0)) (
  some (jzh.mk (qza.mk false [] []) r1)
  ) (
  bd (wzkg l0) fun r2 =>
  bd (wzka r2.2) fun r3 =>
  bd (wzi8 flow1 r3) fun r4 =>
  ite' (decide (0 < r4)) (
   some (jzh.mk (qza.mk false [] []) 8)
   ) (
   bd (wzw3 l0 flow1) fun r5 =>
   some (jzh.mk r5 0)
   )
  )
def wzxe (flow1:qza) (l0:List qzb) (r3:qza):(Int×(List qza))→Option ((Int×(List qza))⊕(List qza)):=fun s=>match s with
 | (k11,l5) =>
  ite' (decide (k11 < (List.length l0:Int))) (
   bd (at? l0 k11) fun x1 =>
   bd (wzkr x1.Floor flow1) fun r6 =>
   bd (wzi2 r6 r3) fun r7 =>
   ck (decide (List.length (l5++[r7])*40≤140737488355328)) <|
   ck (inB .i64 (k11+1)) <|
   some (.inl ((k11+1),(l5++[r7])))
   ) (
   some (.inr l5)
   )
def wzxd (l0:List qzb) (flow1:qza):Option (jzk) :=
 bd (wzkt l0 flow1) fun r1 =>
 ite' (!decide (r1=0)) (
  some (jzk.mk (qze.mk [] (qza.mk false [] [])) r1)
  ) (
  bd (wzkg l0) fun r2 =>
  bd (wzka r2.1) fun r3 =>
  bd (wzka r2.2) fun r4 =>
  bd (wzi8 flow1 r3) fun r5 =>
  ite' (decide (r5 < 0)) (
   bd (lp (wzxe flow1 l0 r3) (0,[])) <| fun l5 =>
   some (jzk.mk (qze.mk l5 (qza.mk false [] [])) 0)
   ) (
   bd (wzi8 flow1 r4) fun r8 =>
   ite' (decide (0 < r8)) (
    bd (wzlk flow1 r4) fun r9 =>
    some (jzk.mk (qze.mk r2.2 r9) 0)
    ) (
    bd (wzw3 l0 flow1) fun r10 =>
    bd (wzw0 l0 r10) fun r11 =>
    some (jzk.mk (qze.mk r11 (qza.mk false [] [])) 0)
    )
   )
  )
def wzkj (d2:qze) (l0:List qzb):Int→Option (Int⊕(Unit⊕Bool)):=fun s=>match s with
 | k9 =>
  ite' (decide (k9 < (List.length l0:Int))) (
   bd (at? d2.Parts k9) fun x1 =>
   bd (wziz x1) fun r3 =>
   ite' (!r3) (
    some (.inr (.inr false))
    ) (
    ck (inB .i64 (k9+1)) <|
    some (.inl (k9+1))
    )
   ) (
   some (.inr (.inl ()))
   )
def wzkf (l0:List qzb) (flow1:qza) (d2:qze):Option (Bool) :=
 bd (wzkt l0 flow1) fun r1 =>
 ite' (bif (!decide (r1=0)) then true else (!decide ((List.length d2.Parts:Int)=(List.length l0:Int)))) (
  some false
  ) (
  bd (wziz d2.Rest) fun r2 =>
  ite' (!r2) (
   some false
   ) (
   bd (lp (wzkj d2 l0) 0) <| fun o=>match o with
   | .inl ()=>(
     bd (wzka d2.Parts) fun r4 =>
     bd (wzj9 r4 d2.Rest) fun r5 =>
     ite' (!((r5.Neg==flow1.Neg)&&(decide (r5.Num=flow1.Num)&&(decide (r5.Den=flow1.Den)&&true)))) (
      some false
      ) (
      bd (wzkg l0) fun r6 =>
      bd (wzka r6.1) fun r7 =>
      bd (wzi8 flow1 r7) fun r8 =>
      ite' (decide (r8 < 0)) (
       bd (wzks l0 flow1 r7 d2) fun r9 =>
       some r9
       ) (
       bd (wzjr l0 d2) fun r10 =>
       some r10
       )
      )
    )
   | .inr o=>(
     some o
    )
   )
  )
def wzwz (d2:qze):Int→Option (Int⊕(Unit⊕Bool)):=fun s=>match s with
 | t48 =>
  ite' (decide (t48 < (List.length d2.Parts:Int))) (
   bd (at? d2.Parts t48) fun x1 =>
   ite' (bif (decide (60 < (List.length x1.Num:Int))) then true else (decide (60 < (List.length x1.Den:Int)))) (
    bd (yzu ) fun r3 =>
    some (.inr (.inr r3))
    ) (
    ck (inB .i64 (t48+1)) <|
    some (.inl (t48+1))
    )
   ) (
   some (.inr (.inl ()))
   )
def wzwy (l0:List qzb) (a1:qza) (d2:qze):Option (Bool) :=
 bd (qzcf l0 a1) fun r1 =>
 ite' (bif (bif (bif (!r1) then true else (decide (12 < (List.length d2.Parts:Int)))) then true else (decide (60 < (List.length d2.Rest.Num:Int)))) then true else (decide (60 < (List.length d2.Rest.Den:Int)))) (
  bd (yzu ) fun r2 =>
  some r2
  ) (
  bd (lp (wzwz d2) 0) <| fun o=>match o with
  | .inl ()=>(
    bd (qzk4 l0 a1) fun r4 =>
    bd (kz3 l0 a1) fun r5 =>
    bd (wzy l0 a1) fun r6 =>
    bd (wzxo l0 a1) fun r7 =>
    bd (wzxf l0 a1) fun r8 =>
    bd (wzxd l0 a1) fun r9 =>
    bd (kz4 l0) fun r10 =>
    bd (wzku l0) fun r11 =>
    bd (gd (decide (r10=r11)) (qzba r4.1 r7.L)) fun r12 =>
    bd (qzba r6.1.Parts r9.D.Parts) fun r13 =>
    bd (yzu ) fun r14 =>
    bd (gd (bif (bif r14 then (bif (bif (bif (bif (decide (r10=r11)) then r12 else false) then (decide (r4.2=r7.E)) else false) then ((r5.1.Neg==r8.A.Neg)&&(decide (r5.1.Num=r8.A.Num)&&(decide (r5.1.Den=r8.A.Den)&&true))) else false) then (decide (r5.2=r8.E)) else false) else false) then (bif (bif r13 then ((r6.1.Rest.Neg==r9.D.Rest.Neg)&&(decide (r6.1.Rest.Num=r9.D.Rest.Num)&&(decide (r6.1.Rest.Den=r9.D.Rest.Den)&&true))) else false) then (decide (r6.2=r9.E)) else false) else false) (wzx l0 a1 d2)) fun r15 =>
    bd (gd (bif (bif r14 then (bif (bif (bif (bif (decide (r10=r11)) then r12 else false) then (decide (r4.2=r7.E)) else false) then ((r5.1.Neg==r8.A.Neg)&&(decide (r5.1.Num=r8.A.Num)&&(decide (r5.1.Den=r8.A.Den)&&true))) else false) then (decide (r5.2=r8.E)) else false) else false) then (bif (bif r13 then ((r6.1.Rest.Neg==r9.D.Rest.Neg)&&(decide (r6.1.Rest.Num=r9.D.Rest.Num)&&(decide (r6.1.Rest.Den=r9.D.Rest.Den)&&true))) else false) then (decide (r6.2=r9.E)) else false) else false) (wzkf l0 a1 d2)) fun r16 =>
    some (bif (bif (bif r14 then (bif (bif (bif (bif (decide (r10=r11)) then r12 else false) then (decide (r4.2=r7.E)) else false) then ((r5.1.Neg==r8.A.Neg)&&(decide (r5.1.Num=r8.A.Num)&&(decide (r5.1.Den=r8.A.Den)&&true))) else false) then (decide (r5.2=r8.E)) else false) else false) then (bif (bif r13 then ((r6.1.Rest.Neg==r9.D.Rest.Neg)&&(decide (r6.1.Rest.Num=r9.D.Rest.Num)&&(decide (r6.1.Rest.Den=r9.D.Rest.Den)&&true))) else false) then (decide (r6.2=r9.E)) else false) else false) then (r15==r16) else false)
   )
  | .inr o=>(
    some o
   )
  )
end Go.Am

set_option linter.unusedVariables false
namespace Go.Am
def tT:Nat→Type
 | 0=>qza
 | 1=>qzb
 | 2=>qze
 | 3=>kzi
 | 4=>qz6
 | 5=>qzf
 | 6=>jzi
 | 7=>vzs
 | 8=>vzu
 | 9=>kzj
 | 10=>jzh
 | 11=>jzk
 | n+12=>Unit
instance tabT:TabT:=⟨tT⟩
def tls:Nat→List CT
 | 0=>[.bool,.str,.str]
 | 1=>[(.int .i64),(.int .i64),.bool,.str,.str,.bool,.str,.str]
 | 2=>[(.slc (.us 0)),.bool,.str,.str]
 | 3=>[(.int .u16),(.int .u16)]
 | 4=>[.bool,.str,.str]
 | 5=>[.bool,.str,.str]
 | 6=>[.str,.str,(.int .i64)]
 | 7=>[.str,(.int .i64)]
 | 8=>[.bool,.str,.str,(.int .i64)]
 | 9=>[(.slc (.us 0)),(.int .i64)]
 | 10=>[.bool,.str,.str,(.int .i64)]
 | 11=>[(.slc (.us 0)),.bool,.str,.str,(.int .i64)]
 | n+12=>[]
def tmk:(i:Nat)→Row (tls i)→tT i
 | 0=>fun (r:Bool×(List UInt8)×(List UInt8))=>(qza.mk r.1 r.2.1 r.2.2)
 | 1=>fun (r:Int×Int×Bool×(List UInt8)×(List UInt8)×Bool×(List UInt8)×(List UInt8))=>(qzb.mk r.1 r.2.1 (qza.mk r.2.2.1 r.2.2.2.1 r.2.2.2.2.1) (qza.mk r.2.2.2.2.2.1 r.2.2.2.2.2.2.1 r.2.2.2.2.2.2.2))
 | 2=>fun (r:(List qza)×Bool×(List UInt8)×(List UInt8))=>(qze.mk r.1 (qza.mk r.2.1 r.2.2.1 r.2.2.2))
 | 3=>fun (r:Int×Int)=>(kzi.mk r.1 r.2)
 | 4=>fun (r:Bool×(List UInt8)×(List UInt8))=>(qz6.mk (qza.mk r.1 r.2.1 r.2.2))
 | 5=>fun (r:Bool×(List UInt8)×(List UInt8))=>(qzf.mk r.1 r.2.1 r.2.2)
 | 6=>fun (r:(List UInt8)×(List UInt8)×Int)=>(jzi.mk r.1 r.2.1 r.2.2)
 | 7=>fun (r:(List UInt8)×Int)=>(vzs.mk r.1 r.2)
 | 8=>fun (r:Bool×(List UInt8)×(List UInt8)×Int)=>(vzu.mk (qza.mk r.1 r.2.1 r.2.2.1) r.2.2.2)
 | 9=>fun (r:(List qza)×Int)=>(kzj.mk r.1 r.2)
 | 10=>fun (r:Bool×(List UInt8)×(List UInt8)×Int)=>(jzh.mk (qza.mk r.1 r.2.1 r.2.2.1) r.2.2.2)
 | 11=>fun (r:(List qza)×Bool×(List UInt8)×(List UInt8)×Int)=>(jzk.mk (qze.mk r.1 (qza.mk r.2.1 r.2.2.1 r.2.2.2.1)) r.2.2.2.2)
 | n+12=>fun _=>()
def tun:(i:Nat)→tT i→Row (tls i)
 | 0=>fun (x:qza)=>(x.Neg,x.Num,x.Den)
 | 1=>fun (x:qzb)=>(x.State,x.Weight,x.Floor.Neg,x.Floor.Num,x.Floor.Den,x.Cap.Neg,x.Cap.Num,x.Cap.Den)
 | 2=>fun (x:qze)=>(x.Parts,x.Rest.Neg,x.Rest.Num,x.Rest.Den)
 | 3=>fun (x:kzi)=>(x.e0,x.e1)
 | 4=>fun (x:qz6)=>(x.level.Neg,x.level.Num,x.level.Den)
 | 5=>fun (x:qzf)=>(x.neg,x.num,x.den)
 | 6=>fun (x:jzi)=>(x.Q,x.R,x.E)
 | 7=>fun (x:vzs)=>(x.S,x.E)
 | 8=>fun (x:vzu)=>(x.A.Neg,x.A.Num,x.A.Den,x.E)
 | 9=>fun (x:kzj)=>(x.L,x.E)
 | 10=>fun (x:jzh)=>(x.A.Neg,x.A.Num,x.A.Den,x.E)
 | 11=>fun (x:jzk)=>(x.D.Parts,x.D.Rest.Neg,x.D.Rest.Num,x.D.Rest.Den,x.E)
 | n+12=>fun _=>()
@[reducible] def tin:(i:Nat)→Inhabited (tT i)
 | 0=>(inferInstance:Inhabited qza)
 | 1=>(inferInstance:Inhabited qzb)
 | 2=>(inferInstance:Inhabited qze)
 | 3=>(inferInstance:Inhabited kzi)
 | 4=>(inferInstance:Inhabited qz6)
 | 5=>(inferInstance:Inhabited qzf)
 | 6=>(inferInstance:Inhabited jzi)
 | 7=>(inferInstance:Inhabited vzs)
 | 8=>(inferInstance:Inhabited vzu)
 | 9=>(inferInstance:Inhabited kzj)
 | 10=>(inferInstance:Inhabited jzh)
 | 11=>(inferInstance:Inhabited jzk)
 | n+12=>(inferInstance:Inhabited Unit)
def tca:(i:Nat)→tT i→List AVal
 | 0=>qza.cells
 | 1=>qzb.cells
 | 2=>qze.cells
 | 3=>kzi.cells
 | 4=>qz6.cells
 | 5=>qzf.cells
 | 6=>jzi.cells
 | 7=>vzs.cells
 | 8=>vzu.cells
 | 9=>kzj.cells
 | 10=>jzh.cells
 | 11=>jzk.cells
 | n+12=>fun _=>[]
instance tab:Tab:=⟨tls,tmk,tun,tin,tca⟩
theorem nr0 (x:qza) (v:AVal) (h:v∈qza.cells x):qzt v:=by
 have k:∀ v∈qza.cells x,qzt v:=by
  unfold qza.cells; simp only [List.forall_mem_cons]; exact ⟨.bool _,.str _,.str _,fun _ h=>by cases h⟩
 exact k v h
theorem nr1 (x:qzb) (v:AVal) (h:v∈qzb.cells x):qzt v:=by
 have k:∀ v∈qzb.cells x,qzt v:=by
  unfold qzb.cells; simp only [List.forall_mem_cons]; exact ⟨.int _ _,.int _ _,.bool _,.str _,.str _,.bool _,.str _,.str _,fun _ h=>by cases h⟩
 exact k v h
theorem nr2 (x:qze) (v:AVal) (h:v∈qze.cells x):qzt v:=by
 have k:∀ v∈qze.cells x,qzt v:=by
  unfold qze.cells; simp only [List.forall_mem_cons]; exact ⟨qzj (fun x v h=>nr0 x v h),.bool _,.str _,.str _,fun _ h=>by cases h⟩
 exact k v h
theorem nr3 (x:kzi) (v:AVal) (h:v∈kzi.cells x):qzt v:=by
 have k:∀ v∈kzi.cells x,qzt v:=by
  unfold kzi.cells; simp only [List.forall_mem_cons]; exact ⟨.int _ _,.int _ _,fun _ h=>by cases h⟩
 exact k v h
theorem nr4 (x:qz6) (v:AVal) (h:v∈qz6.cells x):qzt v:=by
 have k:∀ v∈qz6.cells x,qzt v:=by
  unfold qz6.cells; simp only [List.forall_mem_cons]; exact ⟨.bool _,.str _,.str _,fun _ h=>by cases h⟩
 exact k v h
theorem nr5 (x:qzf) (v:AVal) (h:v∈qzf.cells x):qzt v:=by
 have k:∀ v∈qzf.cells x,qzt v:=by
  unfold qzf.cells; simp only [List.forall_mem_cons]; exact ⟨.bool _,.str _,.str _,fun _ h=>by cases h⟩
 exact k v h
theorem nr6 (x:jzi) (v:AVal) (h:v∈jzi.cells x):qzt v:=by
 have k:∀ v∈jzi.cells x,qzt v:=by
  unfold jzi.cells; simp only [List.forall_mem_cons]; exact ⟨.str _,.str _,.int _ _,fun _ h=>by cases h⟩
 exact k v h
theorem nr7 (x:vzs) (v:AVal) (h:v∈vzs.cells x):qzt v:=by
 have k:∀ v∈vzs.cells x,qzt v:=by
  unfold vzs.cells; simp only [List.forall_mem_cons]; exact ⟨.str _,.int _ _,fun _ h=>by cases h⟩
 exact k v h
theorem nr8 (x:vzu) (v:AVal) (h:v∈vzu.cells x):qzt v:=by
 have k:∀ v∈vzu.cells x,qzt v:=by
  unfold vzu.cells; simp only [List.forall_mem_cons]; exact ⟨.bool _,.str _,.str _,.int _ _,fun _ h=>by cases h⟩
 exact k v h
theorem nr9 (x:kzj) (v:AVal) (h:v∈kzj.cells x):qzt v:=by
 have k:∀ v∈kzj.cells x,qzt v:=by
  unfold kzj.cells; simp only [List.forall_mem_cons]; exact ⟨qzj (fun x v h=>nr0 x v h),.int _ _,fun _ h=>by cases h⟩
 exact k v h
theorem nr10 (x:jzh) (v:AVal) (h:v∈jzh.cells x):qzt v:=by
 have k:∀ v∈jzh.cells x,qzt v:=by
  unfold jzh.cells; simp only [List.forall_mem_cons]; exact ⟨.bool _,.str _,.str _,.int _ _,fun _ h=>by cases h⟩
 exact k v h
theorem nr11 (x:jzk) (v:AVal) (h:v∈jzk.cells x):qzt v:=by
 have k:∀ v∈jzk.cells x,qzt v:=by
  unfold jzk.cells; simp only [List.forall_mem_cons]; exact ⟨qzj (fun x v h=>nr0 x v h),.bool _,.str _,.str _,.int _ _,fun _ h=>by cases h⟩
 exact k v h
instance tabOk:TabOk where
 unmk i r:=match i,r with
  | 0,r=>rfl
  | 1,r=>rfl
  | 2,r=>rfl
  | 3,r=>rfl
  | 4,r=>rfl
  | 5,r=>rfl
  | 6,r=>rfl
  | 7,r=>rfl
  | 8,r=>rfl
  | 9,r=>rfl
  | 10,r=>rfl
  | 11,r=>rfl
  | _+12,r=>rfl
 cells i x:=match i,x with
  | 0,x=>(by kernel_rfl)
  | 1,x=>(by kernel_rfl)
  | 2,x=>(by kernel_rfl)
  | 3,x=>(by kernel_rfl)
  | 4,x=>(by kernel_rfl)
  | 5,x=>(by kernel_rfl)
  | 6,x=>(by kernel_rfl)
  | 7,x=>(by kernel_rfl)
  | 8,x=>(by kernel_rfl)
  | 9,x=>(by kernel_rfl)
  | 10,x=>(by kernel_rfl)
  | 11,x=>(by kernel_rfl)
  | _+12,x=>(by kernel_rfl)
 nor i x v h:=match i,x,h with
  | 0,x,h=>nr0 x v h
  | 1,x,h=>nr1 x v h
  | 2,x,h=>nr2 x v h
  | 3,x,h=>nr3 x v h
  | 4,x,h=>nr4 x v h
  | 5,x,h=>nr5 x v h
  | 6,x,h=>nr6 x v h
  | 7,x,h=>nr7 x v h
  | 8,x,h=>nr8 x v h
  | 9,x,h=>nr9 x v h
  | 10,x,h=>nr10 x v h
  | 11,x,h=>nr11 x v h
  | _+12,x,h=>(by cases h)
 pos i c h j e:=match i,h with
  | 0,h=>(by subst e; simp [Tab.ls,tls] at h)
  | 1,h=>(by subst e; simp [Tab.ls,tls] at h)
  | 2,h=>(by subst e; simp [Tab.ls,tls] at h)
  | 3,h=>(by subst e; simp [Tab.ls,tls] at h)
  | 4,h=>(by subst e; simp [Tab.ls,tls] at h)
  | 5,h=>(by subst e; simp [Tab.ls,tls] at h)
  | 6,h=>(by subst e; simp [Tab.ls,tls] at h)
  | 7,h=>(by subst e; simp [Tab.ls,tls] at h)
  | 8,h=>(by subst e; simp [Tab.ls,tls] at h)
  | 9,h=>(by subst e; simp [Tab.ls,tls] at h)
  | 10,h=>(by subst e; simp [Tab.ls,tls] at h)
  | 11,h=>(by subst e; simp [Tab.ls,tls] at h)
  | _+12,h=>(by subst e; cases h)
end Go.Am

