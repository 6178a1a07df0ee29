/- Part F1 of the proof that the last part closes: the functions of this seat as functions of plain values. No condition. -/
import Derived.Test.YtpflinpbkifmhaaGreatDoorX1
import Derived.Test.YtpflinpbkifmhaaGreatDoorT3
set_option linter.unusedVariables false
set_option linter.unusedSimpArgs false
namespace Go.Am
attribute [local simp] qzc0 qzbz qzcz
structure qza where
 Neg:Bool
 Num:List UInt8
 Den:List UInt8
deriving DecidableEq,Inhabited
def qza.cells (x:qza):List AVal:=[.bool x.Neg,.str x.Num,.str x.Den]
theorem qza.noref (x:qza):∀ v,v∈x.cells→qzt v:=by simp [qza.cells]
structure qzb where
 State:Int
 Weight:Int
 Floor:qza
 Cap:qza
deriving DecidableEq,Inhabited
def qzb.cells (x:qzb):List AVal:=[.int .i64 x.State,.int .i64 x.Weight,.bool x.Floor.Neg,.str x.Floor.Num,.str x.Floor.Den,.bool x.Cap.Neg,.str x.Cap.Num,.str x.Cap.Den]
theorem qzb.noref (x:qzb):∀ v,v∈x.cells→qzt v:=by simp [qzb.cells]
structure qze where
 Parts:List qza
 Rest:qza
deriving DecidableEq,Inhabited
def qze.cells (x:qze):List AVal:=[slcV 3 qza.cells x.Parts,.bool x.Rest.Neg,.str x.Rest.Num,.str x.Rest.Den]
theorem qze.noref (x:qze):∀ v,v∈x.cells→qzt v:=by simp [qze.cells,(fun l=>qzj (st:=3) (c:=qza.cells) (l:=l) qza.noref)]
structure kzi where
 e0:Int
 e1:Int
deriving DecidableEq,Inhabited
def kzi.cells (x:kzi):List AVal:=[.int .u16 x.e0,.int .u16 x.e1]
theorem kzi.noref (x:kzi):∀ v,v∈x.cells→qzt v:=by simp [kzi.cells]
structure qz6 where
 level:qza
deriving DecidableEq,Inhabited
def qz6.cells (x:qz6):List AVal:=[.bool x.level.Neg,.str x.level.Num,.str x.level.Den]
theorem qz6.noref (x:qz6):∀ v,v∈x.cells→qzt v:=by simp [qz6.cells]
structure qzf where
 neg:Bool
 num:List UInt8
 den:List UInt8
deriving DecidableEq,Inhabited
def qzf.cells (x:qzf):List AVal:=[.bool x.neg,.str x.num,.str x.den]
theorem qzf.noref (x:qzf):∀ v,v∈x.cells→qzt v:=by simp [qzf.cells]
structure jzi where
 Q:List UInt8
 R:List UInt8
 E:Int
deriving DecidableEq,Inhabited
def jzi.cells (x:jzi):List AVal:=[.str x.Q,.str x.R,.int .i64 x.E]
theorem jzi.noref (x:jzi):∀ v,v∈x.cells→qzt v:=by simp [jzi.cells]
structure vzs where
 S:List UInt8
 E:Int
deriving DecidableEq,Inhabited
def vzs.cells (x:vzs):List AVal:=[.str x.S,.int .i64 x.E]
theorem vzs.noref (x:vzs):∀ v,v∈x.cells→qzt v:=by simp [vzs.cells]
structure vzu where
 A:qza
 E:Int
deriving DecidableEq,Inhabited
def vzu.cells (x:vzu):List AVal:=[.bool x.A.Neg,.str x.A.Num,.str x.A.Den,.int .i64 x.E]
theorem vzu.noref (x:vzu):∀ v,v∈x.cells→qzt v:=by simp [vzu.cells]
structure kzj where
 L:List qza
 E:Int
deriving DecidableEq,Inhabited
def kzj.cells (x:kzj):List AVal:=[slcV 3 qza.cells x.L,.int .i64 x.E]
theorem kzj.noref (x:kzj):∀ v,v∈x.cells→qzt v:=by simp [kzj.cells,(fun l=>qzj (st:=3) (c:=qza.cells) (l:=l) qza.noref)]
structure jzh where
 A:qza
 E:Int
deriving DecidableEq,Inhabited
def jzh.cells (x:jzh):List AVal:=[.bool x.A.Neg,.str x.A.Num,.str x.A.Den,.int .i64 x.E]
theorem jzh.noref (x:jzh):∀ v,v∈x.cells→qzt v:=by simp [jzh.cells]
structure jzk where
 D:qze
 E:Int
deriving DecidableEq,Inhabited
def jzk.cells (x:jzk):List AVal:=[slcV 3 qza.cells x.D.Parts,.bool x.D.Rest.Neg,.str x.D.Rest.Num,.str x.D.Rest.Den,.int .i64 x.E]
theorem jzk.noref (x:jzk):∀ v,v∈x.cells→qzt v:=by simp [jzk.cells,(fun l=>qzj (st:=3) (c:=qza.cells) (l:=l) qza.noref)]
def vzi (l:List Int):Option (List Int):=ck (decide (0 < List.length l)&&decide (List.length l*4≤140737488355328)) (some l)
def yzz (l:List Int):Option (List Int):=ck (decide (List.length l≤4611686018427387904)) (some l.reverse)
def qze3 (a0:List qza) (b1:List qza):Int→Option (Int⊕(Unit⊕Bool)):=fun s=>match s with
 | k5 =>
  ite' (decide (k5 < (List.length a0:Int))) (
   bd (at? a0 k5) fun x1 =>
   bd (at? b1 k5) fun x2 =>
   ite' (!((x1.Neg==x2.Neg)&&(decide (x1.Num=x2.Num)&&(decide (x1.Den=x2.Den)&&true)))) (
    some (.inr (.inr false))
    ) (
    ck (inB .i64 (k5+1)) <|
    some (.inl (k5+1))
    )
   ) (
   some (.inr (.inl ()))
   )
def qzba (a0:List qza) (b1:List qza):Option (Bool) :=
 ite' (!decide ((List.length a0:Int)=(List.length b1:Int))) (
  some false
  ) (
  bd (lp (qze3 a0 b1) 0) <| fun o=>match o with
  | .inl ()=>(
    some true
   )
  | .inr o=>(
    some o
   )
  )
def jzr (l0:List qzb) (of1:qzb→Option qza):(Int×(List qza))→Option ((Int×(List qza))⊕(List qza)):=fun s=>match s with
 | (t10,l2) =>
  ite' (decide (t10 < (List.length l0:Int))) (
   bd (at? l0 t10) fun x1 =>
   bd (of1 x1) fun r1 =>
   ck (decide (List.length (l2++[r1])*40≤140737488355328)) <|
   ck (inB .i64 (t10+1)) <|
   some (.inl ((t10+1),(l2++[r1])))
   ) (
   some (.inr l2)
   )
def qzu (l0:List qzb) (of1:qzb→Option qza):Option (List qza) :=
 bd (lp (jzr l0 of1) (0,[])) <| fun l2 =>
 some l2
def yz0 (s0:qzb):Option (qza) :=
 some s0.Cap
def qzan (x0:qzb) (c0:qzb):Option (Bool) :=
 some (decide (x0.State=c0.State))
def yzi (s10:List qza) (s21:List qza):Int→Option (Int⊕(Unit⊕Bool)):=fun s=>match s with
 | t13 =>
  ite' (decide (t13 < (List.length s10:Int))) (
   bd (at? s10 t13) fun x1 =>
   bd (at? s21 t13) fun x2 =>
   ite' (!((x1.Neg==x2.Neg)&&(decide (x1.Num=x2.Num)&&(decide (x1.Den=x2.Den)&&true)))) (
    some (.inr (.inr false))
    ) (
    ck (inB .i64 (t13+1)) <|
    some (.inl (t13+1))
    )
   ) (
   some (.inr (.inl ()))
   )
def qzbb (s10:List qza) (s21:List qza):Option (Bool) :=
 ite' (!decide ((List.length s10:Int)=(List.length s21:Int))) (
  some false
  ) (
  bd (lp (yzi s10 s21) 0) <| fun o=>match o with
  | .inl ()=>(
    some true
   )
  | .inr o=>(
    some o
   )
  )
def qzcb (a0:List UInt8):Option (Bool) :=
 ck (!(!(decide (a0=[])))||(qzf7 a0 0)) <|
 some (bif (decide (a0=[])) then true else (!decide ((wzw a0 0)=0)))
def yzy (n0:Int):Option (Bool) :=
 some (bif (decide ((-999999999999999)≤n0)) then (decide (n0≤999999999999999)) else false)
def qzdt (a0:qza) (most1:Int):Option (Bool) :=
 some (bif (decide ((List.length a0.Num:Int)≤most1)) then (decide ((List.length a0.Den:Int)≤most1)) else false)
def jzx (s0:qzb):Option (qza) :=
 some s0.Cap
def jzb (s0:qzb):Option (qza) :=
 some s0.Floor
def kze (f1:qzb→Option Bool) (s0:List qzb):Int→Option (Int⊕(Unit⊕Int)):=fun s=>match s with
 | t8 =>
  ite' (decide (t8 < (List.length s0:Int))) (
   bd (at? s0 t8) fun x1 =>
   bd (f1 x1) fun r1 =>
   ite' r1 (
    some (.inr (.inr t8))
    ) (
    ck (inB .i64 (t8+1)) <|
    some (.inl (t8+1))
    )
   ) (
   some (.inr (.inl ()))
   )
def qzas (s0:List qzb) (f1:qzb→Option Bool):Option (Int) :=
 bd (lp (kze f1 s0) 0) <| fun o=>match o with
 | .inl ()=>(
   some (-1)
  )
 | .inr o=>(
   some o
  )
def vzd :((List Int))→Option ((List Int)⊕(List Int)):=fun s=>match s with
 | x0' =>
  ck (!(decide (0 < (List.length x0':Int)))||inB .i64 ((List.length x0':Int) - 1)) <|
  bd (gd (decide (0 < (List.length x0':Int))) (at? x0' ((List.length x0':Int) - 1))) fun x1 =>
  ite' (bif (decide (0 < (List.length x0':Int))) then (decide (x1=0)) else false) (
   ck (inB .i64 ((List.length x0':Int) - 1)) <|
   ck (kzy x0' 0 ((List.length x0':Int) - 1)) <|
   some (.inl (sub x0' 0 ((List.length x0':Int) - 1)))
   ) (
   some (.inr x0')
   )
def qzx (x0:List Int):Option (List Int) :=
 bd (lp (vzd) x0) <| fun x0' =>
 some x0'
def kzc (x0:List Int) (k1:Int):Option (Int) :=
 ite' (decide (k1 < (List.length x0:Int))) (
  bd (at? x0 k1) fun x1 =>
  some (x1%18446744073709551616)
  ) (
  some 0
  )
def qzcc (x0:Int):Option (Bool) :=
 some (!decide (x0=x0))
def qzai (x0:Int):Option (Bool) :=
 some (!decide (x0=x0))
def wz7 (c1:Int):((List UInt8))→Option ((List UInt8)⊕(List UInt8)):=fun s=>match s with
 | s0' =>
  ck (!(decide (0 < (List.length s0':Int)))||(qzf7 s0' 0)) <|
  ite' (bif (decide (0 < (List.length s0':Int))) then (decide ((wzw s0' 0)=c1)) else false) (
   ck (kzy s0' 1 (List.length s0':Int)) <|
   some (.inl (sub s0' 1 (List.length s0':Int)))
   ) (
   some (.inr s0')
   )
def jzz (s0:List UInt8) (c1:Int):Option (List UInt8) :=
 bd (lp (wz7 c1) s0) <| fun s0' =>
 some s0'
def qzbf (l0:List qzb):Int→Option (Int⊕(Unit⊕Bool)):=fun s=>match s with
 | k3 =>
  ite' (decide (k3 < (List.length l0:Int))) (
   bd (at? l0 k3) fun x1 =>
   bd (qzdt x1.Floor 20) fun r1 =>
   bd (at? l0 k3) fun x2 =>
   bd (qzdt x2.Cap 20) fun r2 =>
   ite' (bif (!r1) then true else (!r2)) (
    some (.inr (.inr false))
    ) (
    ck (inB .i64 (k3+1)) <|
    some (.inl (k3+1))
    )
   ) (
   some (.inr (.inl ()))
   )
def qzdx (l0:List qzb):Option (Bool) :=
 ite' (decide (10 < (List.length l0:Int))) (
  some false
  ) (
  bd (lp (qzbf l0) 0) <| fun o=>match o with
  | .inl ()=>(
    some true
   )
  | .inr o=>(
    some o
   )
  )
def jz8 (s0:List qzb) (f1:qzb→Option Bool):Option (Bool) :=
 bd (qzas s0 f1) fun r1 =>
 some (decide (0≤r1))
def qzb2 (a0:List UInt8) (end4:Int):(Int×Int)→Option ((Int×Int)⊕Int):=fun s=>match s with
 | (digit5,t22) =>
  ite' (decide (t22 < (List.length (bytes (sub a0 (max 0 (end4 - 4)) end4)):Int))) (
   bd (at? (bytes (sub a0 (max 0 (end4 - 4)) end4)) t22) fun x1 =>
   ck (inB .i64 (t22+1)) <|
   some (.inl ((bitI .or .u32 ((digit5*256)%4294967296) (x1%4294967296)),(t22+1)))
   ) (
   some (.inr digit5)
   )
def qzb4 (a0:List UInt8):(Int×(List Int))→Option ((Int×(List Int))⊕(List Int)):=fun s=>match s with
 | (end4,l2) =>
  ite' (decide (0 < end4)) (
   ck (inB .i64 (end4 - 4)) <|
   ck (kzy a0 (max 0 (end4 - 4)) end4) <|
   bd (lp (qzb2 a0 end4) (0,0)) <| fun digit5 =>
   ck (decide (List.length (l2++[digit5])*4≤140737488355328)) <|
   ck (inB .i64 (end4 - 4)) <|
   some (.inl ((end4 - 4),(l2++[digit5])))
   ) (
   some (.inr l2)
   )
def wzn (a0:List UInt8):Option (List Int) :=
 bd (lp (qzb4 a0) ((List.length a0:Int),[])) <| fun l2 =>
 bd (qzx l2) fun r1 =>
 some r1
def kzs (by1:Int) (x0:List Int):(Int×Int×(List Int))→Option ((Int×Int×(List Int))⊕(Int×(List Int))):=fun s=>match s with
 | (rest7,k8,l0) =>
  ite' (decide (0≤k8)) (
   bd (at? x0 k8) fun x1 =>
   ck (!decide ((by1%18446744073709551616)=0)) <|
   ck (!decide ((by1%18446744073709551616)=0)) <|
   bd (at? l0 k8) fun x2 =>
   ck (inB .i64 (k8 - 1)) <|
   some (.inl (((bitI .or .u64 ((rest7*4294967296)%18446744073709551616) (x1%18446744073709551616)).tmod (by1%18446744073709551616)),(k8 - 1),(List.set l0 (Int.toNat k8) ((((bitI .or .u64 ((rest7*4294967296)%18446744073709551616) (x1%18446744073709551616)).tdiv (by1%18446744073709551616))%18446744073709551616)%4294967296))))
   ) (
   some (.inr (rest7,l0))
   )
def jzs (x0:List Int) (by1:Int):Option ((List Int)×Int) :=
 ck (mkOk (List.length x0:Int) 4) <|
 ck (inB .i64 ((List.length x0:Int) - 1)) <|
 bd (lp (kzs by1 x0) (0,((List.length x0:Int) - 1),(List.replicate (Int.toNat (List.length x0:Int)) 0))) <| fun (rest7,l0) =>
 bd (qzx l0) fun r1 =>
 some (r1,(rest7%4294967296))
def jzl (t20:Int) (x1:Int) (y1:List Int):(Int×Int×(List Int))→Option ((Int×Int×(List Int))⊕(List Int)):=fun s=>match s with
 | (carry8,k9,l0') =>
  ite' (bif (decide (k9 < (List.length y1:Int))) then true else (decide (0 < carry8))) (
   bd (kzc y1 k9) fun r1 =>
   ck (inB .i64 (t20+k9)) <|
   bd (at? l0' (t20+k9)) fun x2 =>
   ck (inB .i64 (t20+k9)) <|
   bd (at? l0' (t20+k9)) fun x3 =>
   ck (inB .i64 (k9+1)) <|
   some (.inl ((Int.fdiv (((((((x1%18446744073709551616)*r1)%18446744073709551616)+(x2%18446744073709551616))%18446744073709551616)+carry8)%18446744073709551616) 4294967296),(k9+1),(List.set l0' (Int.toNat (t20+k9)) ((((((((x1%18446744073709551616)*r1)%18446744073709551616)+(x2%18446744073709551616))%18446744073709551616)+carry8)%18446744073709551616)%4294967296))))
   ) (
   some (.inr l0')
   )
def kzu (x0:List Int) (y1:List Int):(Int×(List Int))→Option ((Int×(List Int))⊕(List Int)):=fun s=>match s with
 | (t20,l0) =>
  ite' (decide (t20 < (List.length x0:Int))) (
   bd (at? x0 t20) fun x1 =>
   bd (lp (jzl t20 x1 y1) (0,0,l0)) <| fun l0' =>
   ck (inB .i64 (t20+1)) <|
   some (.inl ((t20+1),l0'))
   ) (
   some (.inr l0)
   )
def wz1 (x0:List Int) (y1:List Int):Option (List Int) :=
 ck (inB .i64 ((List.length x0:Int)+(List.length y1:Int))) <|
 ck (inB .i64 (((List.length x0:Int)+(List.length y1:Int))+1)) <|
 ck (mkOk (((List.length x0:Int)+(List.length y1:Int))+1) 4) <|
 bd (lp (kzu x0 y1) (0,(List.replicate (Int.toNat (((List.length x0:Int)+(List.length y1:Int))+1)) 0))) <| fun l0 =>
 bd (qzx l0) fun r2 =>
 some r2
def kzo (x0:List Int) (y1:List Int):(Int×Int×(List Int))→Option ((Int×Int×(List Int))⊕(List Int)):=fun s=>match s with
 | (borrow6,t11,l1) =>
  ite' (decide (t11 < (List.length x0:Int))) (
   bd (at? x0 t11) fun x1 =>
   bd (kzc y1 t11) fun r1 =>
   ck (decide (List.length (l1++[((((((x1%18446744073709551616) - r1)%18446744073709551616) - borrow6)%18446744073709551616)%4294967296)])*4≤140737488355328)) <|
   ck (inB .i64 (t11+1)) <|
   some (.inl ((Int.fdiv (((((x1%18446744073709551616) - r1)%18446744073709551616) - borrow6)%18446744073709551616) 9223372036854775808),(t11+1),(l1++[((((((x1%18446744073709551616) - r1)%18446744073709551616) - borrow6)%18446744073709551616)%4294967296)])))
   ) (
   some (.inr l1)
   )
def wzz (x0:List Int) (y1:List Int):Option (List Int) :=
 bd (lp (kzo x0 y1) (0,0,[])) <| fun l1 =>
 bd (qzx l1) fun r2 =>
 some r2
def vze (x0:List Int) (y1:List Int):(Int×Int×(List Int))→Option ((Int×Int×(List Int))⊕(List Int)):=fun s=>match s with
 | (carry6,t15,l1) =>
  ite' (decide (t15 < ((max (List.length x0:Int) (List.length y1:Int))+1))) (
   bd (kzc x0 t15) fun r1 =>
   bd (kzc y1 t15) fun r2 =>
   ck (decide (List.length (l1++[(((((r1+r2)%18446744073709551616)+carry6)%18446744073709551616)%4294967296)])*4≤140737488355328)) <|
   ck (inB .i64 (t15+1)) <|
   some (.inl ((Int.fdiv ((((r1+r2)%18446744073709551616)+carry6)%18446744073709551616) 4294967296),(t15+1),(l1++[(((((r1+r2)%18446744073709551616)+carry6)%18446744073709551616)%4294967296)])))
   ) (
   some (.inr l1)
   )
def vzk (x0:List Int) (y1:List Int):Option (List Int) :=
 ck (inB .i64 ((max (List.length x0:Int) (List.length y1:Int))+1)) <|
 bd (lp (vze x0 y1) (0,0,[])) <| fun l1 =>
 bd (qzx l1) fun r3 =>
 some r3
def qzca (x0:Int) (y1:Int):Option (Int) :=
 bd (qzcc x0) fun r1 =>
 bd (qzcc y1) fun r2 =>
 ite' r1 (
  ite' r2 (
   some 0
   ) (
   some (-1)
   )
  ) (
  ite' r2 (
   some 1
   ) (
   ite' (decide (x0 < y1)) (
    some (-1)
    ) (
    ite' (decide (y1 < x0)) (
     some 1
     ) (
     some 0
     )
    )
   )
  )
def qzax (x0:Int) (y1:Int):Option (Int) :=
 bd (qzai x0) fun r1 =>
 bd (qzai y1) fun r2 =>
 ite' r1 (
  ite' r2 (
   some 0
   ) (
   some (-1)
   )
  ) (
  ite' r2 (
   some 1
   ) (
   ite' (decide (x0 < y1)) (
    some (-1)
    ) (
    ite' (decide (y1 < x0)) (
     some 1
     ) (
     some 0
     )
    )
   )
  )
def qzav (s0:List UInt8) (cutset1:List UInt8):Option (List UInt8) :=
 ite' (bif (decide (s0=[])) then true else (decide (cutset1=[]))) (
  some s0
  ) (
  ck (!(decide ((List.length cutset1:Int)=1))||(qzf7 cutset1 0)) <|
  ite' (bif (decide ((List.length cutset1:Int)=1)) then (decide ((wzw cutset1 0) < 128)) else false) (
   ck (qzf7 cutset1 0) <|
   bd (jzz s0 (wzw cutset1 0)) fun r1 =>
   some r1
   ) (
   none
   )
  )
def qzcf (l0:List qzb) (a1:qza):Option (Bool) :=
 bd (qzdx l0) fun r1 =>
 some (bif (bif r1 then (decide ((List.length a1.Num:Int)≤20)) else false) then (decide ((List.length a1.Den:Int)≤20)) else false)
def jz2 (x0:List Int) (y1:List Int):Int→Option (Int⊕(Unit⊕Int)):=fun s=>match s with
 | k6 =>
  ite' (decide (0≤k6)) (
   bd (at? x0 k6) fun x1 =>
   bd (at? y1 k6) fun x2 =>
   bd (qzax x1 x2) fun r2 =>
   ite' (!decide (r2=0)) (
    some (.inr (.inr r2))
    ) (
    ck (inB .i64 (k6 - 1)) <|
    some (.inl (k6 - 1))
    )
   ) (
   some (.inr (.inl ()))
   )
def wzl (x0:List Int) (y1:List Int):Option (Int) :=
 bd (qzca (List.length x0:Int) (List.length y1:Int)) fun r1 =>
 ite' (!decide (r1=0)) (
  some r1
  ) (
  ck (inB .i64 ((List.length x0:Int) - 1)) <|
  bd (lp (jz2 x0 y1) ((List.length x0:Int) - 1)) <| fun o=>match o with
  | .inl ()=>(
    some 0
   )
  | .inr o=>(
    some o
   )
  )
def wzm (x0:List Int) (bits1:Int):Option (List Int) :=
 ite' (decide (bits1 < 0)) (
  ck (inB .i64 (-bits1)) <|
  ck (decide (0≤(-bits1))) <|
  bd (jzs x0 ((1*2 ^ min (Int.toNat (-bits1)) 32)%4294967296)) fun r1 =>
  some r1.1
  ) (
  ck (decide (0≤bits1)) <|
  bd (wz1 x0 [((1*2 ^ min (Int.toNat bits1) 32)%4294967296)]) fun r2 =>
  some r2
  )
def qzdj (a0:List UInt8):Option (List UInt8) :=
 bd (qzav a0 [0]) fun r1 =>
 some r1
def kzx (y1:List Int):Int→Option (Int⊕Int):=fun s=>match s with
 | bits8 =>
  ck (inB .i64 ((List.length y1:Int) - 1)) <|
  bd (at? y1 ((List.length y1:Int) - 1)) fun x2 =>
  ck (decide (0≤bits8)) <|
  ite' (decide (((x2*2 ^ min (Int.toNat bits8) 32)%4294967296) < 2147483648)) (
   ck (inB .i64 (bits8+1)) <|
   some (.inl (bits8+1))
   ) (
   some (.inr bits8)
   )
def kz2 (j13:Int) (l1:List Int) (r4:List Int):(Int×Int)→Option ((Int×Int)⊕Int):=fun s=>match s with
 | (guess15,left16) =>
  ck (!(decide (left16 < 4294967296))||inB .i64 ((List.length r4:Int) - 2)) <|
  bd (gd (decide (left16 < 4294967296)) (at? r4 ((List.length r4:Int) - 2))) fun x7 =>
  ck (!(decide (left16 < 4294967296))||inB .i64 (j13+(List.length r4:Int))) <|
  ck (!(decide (left16 < 4294967296))||inB .i64 ((j13+(List.length r4:Int)) - 2)) <|
  bd (gd (decide (left16 < 4294967296)) (at? l1 ((j13+(List.length r4:Int)) - 2))) fun x8 =>
  ite' (bif (decide (left16 < 4294967296)) then (decide ((bitI .or .u64 ((left16*4294967296)%18446744073709551616) (x8%18446744073709551616)) < ((guess15*(x7%18446744073709551616))%18446744073709551616))) else false) (
   ck (inB .i64 ((List.length r4:Int) - 1)) <|
   bd (at? r4 ((List.length r4:Int) - 1)) fun x9 =>
   some (.inl (((guess15 - 1)%18446744073709551616),((left16+(x9%18446744073709551616))%18446744073709551616)))
   ) (
   some (.inr guess15)
   )
def yzk (j13:Int) (l1:List Int) (r4:List Int):(Int×(List Int))→Option ((Int×(List Int))⊕(Int×(List Int))):=fun s=>match s with
 | (guess15',product18) =>
  ck (kzy l1 j13 ((j13+(List.length r4:Int))+1)) <|
  bd (vzi (sub l1 j13 ((j13+(List.length r4:Int))+1))) fun r8 =>
  bd (qzx r8) fun r9 =>
  bd (wzl r9 product18) fun r10 =>
  ite' (decide (r10 < 0)) (
   bd (wzz product18 r4) fun r11 =>
   some (.inl (((guess15' - 1)%18446744073709551616),r11))
   ) (
   some (.inr (guess15',product18))
   )
def wz2 (r4:List Int):(Int×(List Int)×(List Int))→Option ((Int×(List Int)×(List Int))⊕((List Int)×(List Int))):=fun s=>match s with
 | (j13,l1,l5) =>
  ite' (decide (0≤j13)) (
   ck (inB .i64 (j13+(List.length r4:Int))) <|
   bd (at? l1 (j13+(List.length r4:Int))) fun x3 =>
   ck (inB .i64 (j13+(List.length r4:Int))) <|
   ck (inB .i64 ((j13+(List.length r4:Int)) - 1)) <|
   bd (at? l1 ((j13+(List.length r4:Int)) - 1)) fun x4 =>
   ck (inB .i64 ((List.length r4:Int) - 1)) <|
   bd (at? r4 ((List.length r4:Int) - 1)) fun x5 =>
   ck (!decide ((x5%18446744073709551616)=0)) <|
   ck (inB .i64 ((List.length r4:Int) - 1)) <|
   bd (at? r4 ((List.length r4:Int) - 1)) fun x6 =>
   bd (lp (kz2 j13 l1 r4) ((min (((bitI .or .u64 (((x3%18446744073709551616)*4294967296)%18446744073709551616) (x4%18446744073709551616)).tdiv (x5%18446744073709551616))%18446744073709551616) 4294967295),(((bitI .or .u64 (((x3%18446744073709551616)*4294967296)%18446744073709551616) (x4%18446744073709551616)) - (((min (((bitI .or .u64 (((x3%18446744073709551616)*4294967296)%18446744073709551616) (x4%18446744073709551616)).tdiv (x5%18446744073709551616))%18446744073709551616) 4294967295)*(x6%18446744073709551616))%18446744073709551616))%18446744073709551616))) <| fun guess15 =>
   bd (α:=Unit⊕Unit) (
    ite' (decide (guess15=0)) (
     some (.inr ())
     ) (
     some (.inl ())
     )
   ) <| fun o=>match o with
    | .inl ()=>(
      ck (inB .i64 (j13+(List.length r4:Int))) <|
      ck (inB .i64 ((j13+(List.length r4:Int))+1)) <|
      ck (kzy l1 j13 ((j13+(List.length r4:Int))+1)) <|
      bd (wz1 r4 [(guess15%4294967296)]) fun r7 =>
      bd (lp (yzk j13 l1 r4) (guess15,r7)) <| fun (guess15',product18) =>
      ck (kzy l1 j13 ((j13+(List.length r4:Int))+1)) <|
      bd (vzi (sub l1 j13 ((j13+(List.length r4:Int))+1))) fun r12 =>
      bd (qzx r12) fun r13 =>
      bd (wzz r13 product18) fun r14 =>
      ck (kzy l1 j13 ((j13+(List.length r4:Int))+1)) <|
      ck (kzy (qzy l1 (Int.toNat j13) (List.replicate (Int.toNat (((j13+(List.length r4:Int))+1) - j13)) 0)) j13 ((j13+(List.length r4:Int))+1)) <|
      bd (at? l5 j13) fun x10 =>
      ck (inB .i64 (j13 - 1)) <|
      some (.inl ((j13 - 1),(qzy (qzy l1 (Int.toNat j13) (List.replicate (Int.toNat (((j13+(List.length r4:Int))+1) - j13)) 0)) (Int.toNat j13) (List.take (Int.toNat (((j13+(List.length r4:Int))+1) - j13)) r14)),(List.set l5 (Int.toNat j13) (guess15'%4294967296))))
     )
    | .inr ()=>(
      ck (inB .i64 (j13 - 1)) <|
      some (.inl ((j13 - 1),l1,l5))
     )
   ) (
   some (.inr (l1,l5))
   )
def kzf (x0:List Int) (y1:List Int):Option ((List Int)×(List Int)) :=
 bd (wzl x0 y1) fun r1 =>
 ite' (decide (r1 < 0)) (
  some ([],x0)
  ) (
  ite' (decide ((List.length y1:Int)=1)) (
   bd (at? y1 0) fun x1 =>
   bd (jzs x0 x1) fun r2 =>
   bd (qzx [r2.2]) fun r3 =>
   some (r2.1,r3)
   ) (
   bd (lp (kzx y1) 0) <| fun bits8 =>
   bd (wzm y1 bits8) fun r4 =>
   bd (wzm x0 bits8) fun r5 =>
   bd (vzi r5) fun r6 =>
   ck (decide (List.length (r6++[0,0])*4≤140737488355328)) <|
   ck (inB .i64 ((List.length x0:Int) - (List.length r4:Int))) <|
   ck (inB .i64 (((List.length x0:Int) - (List.length r4:Int))+2)) <|
   ck (mkOk (((List.length x0:Int) - (List.length r4:Int))+2) 4) <|
   ck (inB .i64 ((List.length (r6++[0,0]):Int) - (List.length r4:Int))) <|
   ck (inB .i64 (((List.length (r6++[0,0]):Int) - (List.length r4:Int)) - 1)) <|
   bd (lp (wz2 r4) ((((List.length (r6++[0,0]):Int) - (List.length r4:Int)) - 1),(r6++[0,0]),(List.replicate (Int.toNat (((List.length x0:Int) - (List.length r4:Int))+2)) 0))) <| fun (l1,l5) =>
   bd (qzx l5) fun r15 =>
   bd (qzx l1) fun r16 =>
   ck (inB .i64 (-bits8)) <|
   bd (wzm r16 (-bits8)) fun r17 =>
   some (r15,r17)
   )
  )
def vzb (x0:List Int):(Int×(List Int))→Option ((Int×(List Int))⊕(List Int)):=fun s=>match s with
 | (t8,l1) =>
  ite' (decide (t8 < (List.length x0:Int))) (
   bd (at? x0 t8) fun x1 =>
   ck (decide (List.length (l1++[(x1%256),((Int.fdiv x1 256)%256),((Int.fdiv x1 65536)%256),((Int.fdiv x1 16777216)%256)])*1≤140737488355328)) <|
   ck (inB .i64 (t8+1)) <|
   some (.inl ((t8+1),(l1++[(x1%256),((Int.fdiv x1 256)%256),((Int.fdiv x1 65536)%256),((Int.fdiv x1 16777216)%256)])))
   ) (
   some (.inr l1)
   )
def qz7 (x0:List Int):Option (List UInt8) :=
 bd (lp (vzb x0) (0,[])) <| fun l1 =>
 bd (yzz l1) fun r1 =>
 bd (qzdj (vzg r1)) fun r2 =>
 some r2
def qza9 (a0:List UInt8) (b1:List UInt8):Option ((List UInt8)×(List UInt8)×Int) :=
 bd (wzn a0) fun r1 =>
 bd (wzn b1) fun r2 =>
 ite' (decide ((List.length r2:Int)=0)) (
  some ([],[],1)
  ) (
  bd (kzf r1 r2) fun r3 =>
  bd (qz7 r3.1) fun r4 =>
  bd (qz7 r3.2) fun r5 =>
  some (r4,r5,0)
  )
def qzau (a0:List UInt8) (b1:List UInt8):Option (List UInt8) :=
 bd (wzn a0) fun r1 =>
 bd (wzn b1) fun r2 =>
 bd (wz1 r1 r2) fun r3 =>
 bd (qz7 r3) fun r4 =>
 some r4
def qzg3 (a0:List UInt8) (b1:List UInt8):Option (List UInt8) :=
 bd (wzn a0) fun r1 =>
 bd (wzn b1) fun r2 =>
 bd (vzk r1 r2) fun r3 =>
 bd (qz7 r3) fun r4 =>
 some r4
def qzgu (a0:List UInt8) (b1:List UInt8):Option (Int) :=
 bd (wzn a0) fun r1 =>
 bd (wzn b1) fun r2 =>
 bd (wzl r1 r2) fun r3 =>
 some r3
def qzgk (a0:List UInt8) (b1:List UInt8):Option ((List UInt8)×Int) :=
 bd (wzn a0) fun r1 =>
 bd (wzn b1) fun r2 =>
 bd (wzl r1 r2) fun r3 =>
 ite' (decide (r3 < 0)) (
  some ([],3)
  ) (
  bd (wzz r1 r2) fun r4 =>
  bd (qz7 r4) fun r5 =>
  some (r5,0)
  )
def qzgv (n0:Int):Option ((List UInt8)×Int) :=
 ite' (decide (n0 < 0)) (
  some ([],3)
  ) (
  bd (qzx [(n0%4294967296),((Int.fdiv n0 4294967296)%4294967296)]) fun r1 =>
  bd (qz7 r1) fun r2 =>
  some (r2,0)
  )
def wzp:(List Int×List Int)→Option ((List Int×List Int)⊕List Int):=fun s=>match s with
 | (x,y)=>ite' (decide ((List.length y:Int)=0)) (some (.inr x)) (bd (kzf x y) fun r=>some (.inl (y,r.2)))
def qzeo (a0:List UInt8) (b1:List UInt8):Option (List UInt8) :=
 bd (wzn a0) fun x =>
 bd (wzn b1) fun y =>
 bd (lp wzp (x,y)) fun r =>
 qz7 r
def yzs (a0:qza):Option (Bool) :=
 ite' ((a0.Neg==false)&&(decide (a0.Num=[])&&(decide (a0.Den=[])&&true))) (
  some true
  ) (
  bd (gd (bif (!decide (a0.Num=[])) then (!decide (a0.Den=[])) else false) (qzcb a0.Num)) fun r1 =>
  bd (gd (bif (bif (!decide (a0.Num=[])) then (!decide (a0.Den=[])) else false) then r1 else false) (qzcb a0.Den)) fun r2 =>
  bd (gd (bif (bif (bif (!decide (a0.Num=[])) then (!decide (a0.Den=[])) else false) then r1 else false) then r2 else false) (qzeo a0.Num a0.Den)) fun r3 =>
  some (bif (bif (bif (bif (!decide (a0.Num=[])) then (!decide (a0.Den=[])) else false) then r1 else false) then r2 else false) then (decide (r3=[1])) else false)
  )
def jz7 (a0:qza):Option (Bool) :=
 bd (yzs a0) fun r1 =>
 some (bif r1 then (!a0.Neg) else false)
def jzg (a0:qza):Option (qzf) :=
 bd (gd (!(decide (a0.Num=[]))) (yzs a0)) fun r1 =>
 ite' (bif (decide (a0.Num=[])) then true else (!r1)) (
  some (qzf.mk false [] [1])
  ) (
  some (qzf.mk a0.Neg a0.Num a0.Den)
  )
def qzw (f0:qzf):Option (qza) :=
 ite' (decide (f0.num=[])) (
  some (qza.mk false [] [])
  ) (
  bd (qzeo f0.num f0.den) fun r1 =>
  bd (qza9 f0.num r1) fun r2 =>
  bd (qza9 f0.den r1) fun r3 =>
  some (qza.mk f0.neg r2.1 r3.1)
  )
def qza0 (op0:qzf→Option qzf) (b1:qza):Option (qza) :=
 bd (jzg b1) fun r1 =>
 bd (op0 r1) fun r2 =>
 bd (qzw r2) fun r3 =>
 some r3
def wz3 (f0:qzf) (g1:qzf):Option (qzf) :=
 bd (qzau f0.num g1.den) fun r1 =>
 bd (qzau g1.num f0.den) fun r2 =>
 bd (qzau f0.den g1.den) fun r3 =>
 ite' (f0.neg==g1.neg) (
  bd (qzg3 r1 r2) fun r4 =>
  some (qzf.mk f0.neg r4 r3)
  ) (
  bd (qzgu r1 r2) fun r5 =>
  bd (α:=(List UInt8)×(List UInt8)×qzf) (
   ite' (decide (r5 < 0)) (
    some (r2,r1,(qzf.mk g1.neg f0.num f0.den))
    ) (
    some (r1,r2,f0)
    )
  ) <| fun (a5,b6,b0) =>
   bd (qzgk a5 b6) fun r6 =>
   some (qzf.mk b0.neg r6.1 r3)
  )
def wz5 (f0:qzf) (g1:qzf):Option (qzf) :=
 bd (wz3 f0 (qzf.mk (!g1.neg) g1.num g1.den)) fun r1 =>
 some r1
def wzv (f0:qzf) (g1:qzf):Option (qzf) :=
 bd (qzau f0.num g1.num) fun r1 =>
 bd (qzau f0.den g1.den) fun r2 =>
 some (qzf.mk (!(f0.neg==g1.neg)) r1 r2)
def yzh (n0:Int):Option (qzf) :=
 ck (inB .i64 (-n0)) <|
 bd (qzgv (max n0 (-n0))) fun r1 =>
 some (qzf.mk (decide (n0 < 0)) r1.1 [1])
def wz4 (f0:qzf) (g1:qzf):Option (qzf) :=
 bd (wzv f0 (qzf.mk g1.neg g1.den g1.num)) fun r1 =>
 some r1
def qzbi (a0:qza) (b1:qza):Option (qza) :=
 bd (jzg a0) fun r1 =>
 bd (qza0 (fun a0=>wz3 r1 a0) b1) fun r2 =>
 some r2
def wz0 (a0:qza) (b1:qza):Option (Int) :=
 bd (jzg a0) fun r1 =>
 bd (jzg b1) fun r2 =>
 bd (wz5 r1 r2) fun r3 =>
 ite' (decide (r3.num=[])) (
  some 0
  ) (
  ite' r3.neg (
   some (-1)
   ) (
   some 1
   )
  )
def qzcw (a0:qza) (b1:qza):Option (qza) :=
 bd (jzg a0) fun r1 =>
 bd (qza0 (fun a0=>wzv r1 a0) b1) fun r2 =>
 some r2
def qzz (n0:Int):Option (qza) :=
 bd (yzy n0) fun r1 =>
 ite' (!r1) (
  some (qza.mk false [] [])
  ) (
  bd (yzh n0) fun r2 =>
  bd (qzw r2) fun r3 =>
  some r3
  )
def qzbh (a0:qza) (b1:qza):Option (qza) :=
 bd (jzg a0) fun r1 =>
 bd (qza0 (fun a0=>wz5 r1 a0) b1) fun r2 =>
 some r2
def qzea (l0:List Int):(Int×(List qza))→Option ((Int×(List qza))⊕(List qza)):=fun s=>match s with
 | (t8,l1) =>
  ite' (decide (t8 < (List.length l0:Int))) (
   bd (at? l0 t8) fun x1 =>
   bd (qzz x1) fun r1 =>
   ck (decide (List.length (l1++[r1])*40≤140737488355328)) <|
   ck (inB .i64 (t8+1)) <|
   some (.inl ((t8+1),(l1++[r1])))
   ) (
   some (.inr l1)
   )
def qzb3 (l0:List Int):Option (List qza) :=
 bd (lp (qzea l0) (0,[])) <| fun l1 =>
 some l1
def vzj (s0:qzb) (c0:qza):Option (qza) :=
 bd (qzcw s0.Floor c0) fun r1 =>
 some r1
def qzbc (l0:List qza):(Int×qza)→Option ((Int×qza)⊕qza):=fun s=>match s with
 | (t8,b1) =>
  ite' (decide (t8 < (List.length l0:Int))) (
   bd (at? l0 t8) fun x1 =>
   bd (qzbi b1 x1) fun r1 =>
   ck (inB .i64 (t8+1)) <|
   some (.inl ((t8+1),r1))
   ) (
   some (.inr b1)
   )
def qzf9 (l0:List qza):Option (qza) :=
 bd (lp (qzbc l0) (0,(qza.mk false [] []))) <| fun b1 =>
 some b1
def qzlk (num0:Int) (den1:Int):Option (qza×Int) :=
 bd (yzy num0) fun r1 =>
 bd (gd (!(!r1)) (yzy den1)) fun r2 =>
 ite' (bif (!r1) then true else (!r2)) (
  some ((qza.mk false [] []),3)
  ) (
  ite' (decide (den1=0)) (
   some ((qza.mk false [] []),1)
   ) (
   bd (yzh num0) fun r3 =>
   bd (yzh den1) fun r4 =>
   bd (wz4 r3 r4) fun r5 =>
   bd (qzw r5) fun r6 =>
   some (r6,0)
   )
  )
def wzha (a0:qza) (b1:qza):Option (Int) :=
 bd (wz0 a0 b1) fun r1 =>
 some r1
def qzgm (a0:qza) (b1:qza):Option (qza×Int) :=
 bd (jzg b1) fun r1 =>
 ite' (decide (r1.num=[])) (
  some ((qza.mk false [] []),1)
  ) (
  bd (jzg a0) fun r2 =>
  bd (qza0 (fun a0=>wz4 r2 a0) b1) fun r3 =>
  some (r3,0)
  )
def natV (s:List UInt8):Nat:=s.foldl (fun n b=>n*256+b.toNat) 0
def ratV (a:qza):Rat:=mkRat (if a.Neg then -(natV a.Num:Int) else natV a.Num) (if a.Den=[] then 1 else natV a.Den)
def qzeg (a:qza):List qza→List qza
 | []=>[a]
 | b :: l=>if ratV a≤ratV b then a :: b :: l else b :: qzeg a l
def qzi1:List qza→List qza
 | []=>[]
 | a :: l=>qzeg a (qzi1 l)
def qzjz (l:List qza):Bool:=l.all fun a=>l.all fun b=>(match wzha a b with | some c=>decide (c < 0)==decide (ratV a < ratV b) | none=>false)&&(!(decide (ratV a=ratV b))||decide (a=b))
def yzm (l:List qza):Option (List qza):=ck (decide (0 < List.length l)&&qzjz l&&decide (List.length l≤4611686018427387900)) (some (qzi1 l))
def yzv (l0:List qzb):Int→Option (Int⊕(Unit⊕Int)):=fun s=>match s with
 | t16 =>
  ite' (decide (t16 < (List.length l0:Int))) (
   bd (at? l0 t16) fun x1 =>
   ite' (bif (bif (bif (decide (x1.State < 0)) then true else (decide (8≤x1.State))) then true else (decide (x1.Weight < 1))) then true else (decide (1000000 < x1.Weight))) (
    some (.inr (.inr 3))
    ) (
    bd (jz7 x1.Floor) fun r1 =>
    bd (gd (!(!r1)) (jz7 x1.Cap)) fun r2 =>
    bd (gd (!(bif (!r1) then true else (!r2))) (wz0 x1.Floor x1.Cap)) fun r3 =>
    ite' (bif (bif (!r1) then true else (!r2)) then true else (decide (0 < r3))) (
     some (.inr (.inr 1))
     ) (
     ck (kzy l0 0 t16) <|
     bd (jz8 (sub l0 0 t16) (fun a0=>qzan a0 x1)) fun r4 =>
     ite' r4 (
      some (.inr (.inr 9))
      ) (
      ck (inB .i64 (t16+1)) <|
      some (.inl (t16+1))
      )
     )
    )
   ) (
   some (.inr (.inl ()))
   )
def kz4 (l0:List qzb):Option (Int) :=
 ite' (bif (decide ((List.length l0:Int) < 1)) then true else (decide (8 < (List.length l0:Int)))) (
  some 2
  ) (
  bd (lp (yzv l0) 0) <| fun o=>match o with
  | .inl ()=>(
    some 0
   )
  | .inr o=>(
    some o
   )
  )
def qzeh (a0:qza) (b1:qza):Option (qza) :=
 bd (wz0 a0 b1) fun r1 =>
 ite' (decide (r1≤0)) (
  bd (jzg a0) fun r2 =>
  bd (qzw r2) fun r3 =>
  some r3
  ) (
  bd (jzg b1) fun r4 =>
  bd (qzw r4) fun r5 =>
  some r5
  )
def qzen (a0:qza) (b1:qza):Option (qza) :=
 bd (wz0 a0 b1) fun r1 =>
 ite' (decide (0≤r1)) (
  bd (jzg a0) fun r2 =>
  bd (qzw r2) fun r3 =>
  some r3
  ) (
  bd (jzg b1) fun r4 =>
  bd (qzw r4) fun r5 =>
  some r5
  )
def vz7 (l0:List qza):Option (qza) :=
 bd (qzf9 l0) fun r1 =>
 some r1
def jza (num0:Int) (den1:Int):Option (qza) :=
 bd (qzlk num0 den1) fun r1 =>
 some r1.1
def yzg (l0:List qzb) (a1:qza):Option (Int) :=
 bd (kz4 l0) fun r1 =>
 ite' (!decide (r1=0)) (
  some r1
  ) (
  bd (jz7 a1) fun r2 =>
  ite' (!r2) (
   some 1
   ) (
   some 0
   )
  )
def wza (x0:qz6) (s1:qzb):Option (qza) :=
 bd (qzz s1.Weight) fun r1 =>
 bd (qzcw x0.level r1) fun r2 =>
 bd (qzen r2 s1.Floor) fun r3 =>
 bd (qzeh r3 s1.Cap) fun r4 =>
 some r4
def jzn (l0:List qzb):Option (qza) :=
 bd (qzu l0 (fun a0=>jzx a0)) fun r1 =>
 bd (vz7 r1) fun r2 =>
 some r2
def jz1 (l0:List qzb):Option (qza) :=
 bd (qzu l0 (fun a0=>jzb a0)) fun r1 =>
 bd (vz7 r1) fun r2 =>
 some r2
def wzs (a0:qza) (b1:qza):Option (qza) :=
 bd (qzgm a0 b1) fun r1 =>
 some r1.1
def qzk4 (l0:List qzb) (level1:qza):Option ((List qza)×Int) :=
 bd (yzg l0 level1) fun r1 =>
 ite' (!decide (r1=0)) (
  some ([],r1)
  ) (
  bd (qzu l0 (fun a0=>wza (qz6.mk level1) a0)) fun r2 =>
  some (r2,0)
  )
def jzf (l0:List qzb):(Int×(List qza))→Option ((Int×(List qza))⊕(List qza)):=fun s=>match s with
 | (t16,l5) =>
  ite' (decide (t16 < (List.length l0:Int))) (
   bd (at? l0 t16) fun x1 =>
   bd (qzz x1.Weight) fun r1 =>
   bd (wzs x1.Floor r1) fun r2 =>
   bd (wzs x1.Cap r1) fun r3 =>
   ck (decide (List.length (l5++[r2,r3])*40≤140737488355328)) <|
   ck (inB .i64 (t16+1)) <|
   some (.inl ((t16+1),(l5++[r2,r3])))
   ) (
   some (.inr l5)
   )
def jzd (flow1:qza) (l0:List qzb) (r4:List qza):(Int×qza)→Option ((Int×qza)⊕(qza⊕qza)):=fun s=>match s with
 | (t39,b6) =>
  ite' (decide (t39 < (List.length r4:Int))) (
   bd (at? r4 t39) fun x2 =>
   bd (qzu l0 (fun a0=>wza (qz6.mk b6) a0)) fun r5 =>
   bd (vz7 r5) fun r6 =>
   bd (qzu l0 (fun a0=>wza (qz6.mk x2) a0)) fun r7 =>
   bd (vz7 r7) fun r8 =>
   bd (wz0 flow1 r6) fun r9 =>
   ite' (decide (r9≤0)) (
    some (.inr (.inl b6))
    ) (
    bd (wz0 flow1 r8) fun r10 =>
    ite' (decide (r10≤0)) (
     bd (qzbh flow1 r6) fun r11 =>
     bd (qzbh r8 r6) fun r12 =>
     bd (wzs r11 r12) fun r13 =>
     bd (qzbh x2 b6) fun r14 =>
     bd (qzcw r13 r14) fun r15 =>
     bd (qzbi b6 r15) fun r16 =>
     some (.inr (.inr r16))
     ) (
     ck (inB .i64 (t39+1)) <|
     some (.inl ((t39+1),x2))
     )
    )
   ) (
   some (.inr (.inl b6))
   )
def wzq (l0:List qzb) (flow1:qza):Option (qza) :=
 bd (lp (jzf l0) (0,[])) <| fun l5 =>
 bd (yzm l5) fun r4 =>
 bd (lp (jzd flow1 l0 r4) (0,(qza.mk false [] []))) <| fun o=>match o with
 | .inl b6=>(
   some b6
  )
 | .inr o=>(
   some o
  )
def kz3 (l0:List qzb) (flow1:qza):Option (qza×Int) :=
 bd (yzg l0 flow1) fun r1 =>
 ite' (!decide (r1=0)) (
  some ((qza.mk false [] []),r1)
  ) (
  bd (jzn l0) fun r2 =>
  bd (wz0 flow1 r2) fun r3 =>
  ite' (decide (0 < r3)) (
   some ((qza.mk false [] []),8)
   ) (
   bd (wzq l0 flow1) fun r4 =>
   some (r4,0)
   )
  )
def wzy (l0:List qzb) (flow1:qza):Option (qze×Int) :=
 bd (yzg l0 flow1) fun r1 =>
 ite' (!decide (r1=0)) (
  some ((qze.mk [] (qza.mk false [] [])),r1)
  ) (
  bd (jz1 l0) fun r2 =>
  bd (jzn l0) fun r3 =>
  bd (wz0 flow1 r2) fun r4 =>
  ite' (decide (r4 < 0)) (
   bd (wzs flow1 r2) fun r5 =>
   bd (qzu l0 (fun a0=>vzj a0 r5)) fun r6 =>
   some ((qze.mk r6 (qza.mk false [] [])),0)
   ) (
   bd (wz0 flow1 r3) fun r7 =>
   ite' (decide (0 < r7)) (
    bd (qzu l0 (fun a0=>yz0 a0)) fun r8 =>
    bd (qzbh flow1 r3) fun r9 =>
    some ((qze.mk r8 r9),0)
    ) (
    bd (wzq l0 flow1) fun r10 =>
    bd (qzu l0 (fun a0=>wza (qz6.mk r10) a0)) fun r11 =>
    some ((qze.mk r11 (qza.mk false [] [])),0)
    )
   )
  )
def wzx (l0:List qzb) (flow1:qza) (d2:qze):Option (Bool) :=
 bd (wzy l0 flow1) fun r1 =>
 bd (gd (bif (decide (r1.2=0)) then ((d2.Rest.Neg==r1.1.Rest.Neg)&&(decide (d2.Rest.Num=r1.1.Rest.Num)&&(decide (d2.Rest.Den=r1.1.Rest.Den)&&true))) else false) (qzbb d2.Parts r1.1.Parts)) fun r2 =>
 some (bif (bif (decide (r1.2=0)) then ((d2.Rest.Neg==r1.1.Rest.Neg)&&(decide (d2.Rest.Num=r1.1.Rest.Num)&&(decide (d2.Rest.Den=r1.1.Rest.Den)&&true))) else false) then r2 else false)
def qzdf (r1:qza) (r10:qza) (r11:qza) (r12:qza) (r13:List qza) (r2:qza) (r3:qza) (r4:qza) (r5:qza) (r6:qza) (r7:qza) (r8:qza) (r9:List qza):Int→Option (Int⊕(Unit⊕Bool)):=fun s=>match s with
 | t47 =>
  ite' (decide (t47 < (List.length [r6,r7,r8]:Int))) (
   bd (at? [r6,r7,r8] t47) fun x1 =>
   bd (qzk4 [(qzb.mk 0 1 r1 r2),(qzb.mk 1 2 (qza.mk false [] []) r3),(qzb.mk 2 1 r4 r5)] x1) fun r14 =>
   bd (gd (!(!decide (r14.2=0))) (at? [r9,[r10,r11,r12],r13] t47)) fun x2 =>
   bd (gd (!(!decide (r14.2=0))) (qzba r14.1 x2)) fun r15 =>
   ite' (bif (!decide (r14.2=0)) then true else (!r15)) (
    some (.inr (.inr false))
    ) (
    ck (inB .i64 (t47+1)) <|
    some (.inl (t47+1))
    )
   ) (
   some (.inr (.inl ()))
   )
def qzdg (r1:qza) (r16:qza) (r17:qza) (r18:qza) (r2:qza) (r3:qza) (r4:qza) (r5:qza):Int→Option (Int⊕(Unit⊕Bool)):=fun s=>match s with
 | t77 =>
  ite' (decide (t77 < (List.length [3,5,10,17]:Int))) (
   bd (at? [3,5,10,17] t77) fun x3 =>
   bd (qzz x3) fun r19 =>
   bd (kz3 [(qzb.mk 0 1 r1 r2),(qzb.mk 1 2 (qza.mk false [] []) r3),(qzb.mk 2 1 r4 r5)] r19) fun r20 =>
   bd (gd (!(!decide (r20.2=0))) (at? [(qza.mk false [] []),r16,r17,r18] t77)) fun x4 =>
   ite' (bif (!decide (r20.2=0)) then true else (!((r20.1.Neg==x4.Neg)&&(decide (r20.1.Num=x4.Num)&&(decide (r20.1.Den=x4.Den)&&true))))) (
    some (.inr (.inr false))
    ) (
    ck (inB .i64 (t77+1)) <|
    some (.inl (t77+1))
    )
   ) (
   some (.inr (.inl ()))
   )
def yzu :Option (Bool) :=
 bd (qzz 2) fun r1 =>
 bd (qzz 4) fun r2 =>
 bd (qzz 10) fun r3 =>
 bd (qzz 1) fun r4 =>
 bd (qzz 3) fun r5 =>
 bd (qzz 1) fun r6 =>
 bd (jza 5 2) fun r7 =>
 bd (qzz 9) fun r8 =>
 bd (qzb3 [2,2,1]) fun r9 =>
 bd (jza 5 2) fun r10 =>
 bd (qzz 5) fun r11 =>
 bd (jza 5 2) fun r12 =>
 bd (qzb3 [4,10,3]) fun r13 =>
 bd (lp (qzdf r1 r10 r11 r12 r13 r2 r3 r4 r5 r6 r7 r8 r9) 0) <| fun o=>match o with
 | .inl ()=>(
   bd (qzz 1) fun r16 =>
   bd (jza 5 2) fun r17 =>
   bd (qzz 5) fun r18 =>
   bd (lp (qzdg r1 r16 r17 r18 r2 r3 r4 r5) 0) <| fun o=>match o with
   | .inl ()=>(
     bd (qzz 18) fun r21 =>
     bd (kz3 [(qzb.mk 0 1 r1 r2),(qzb.mk 1 2 (qza.mk false [] []) r3),(qzb.mk 2 1 r4 r5)] r21) fun r22 =>
     bd (qzz 10) fun r23 =>
     bd (wzy [(qzb.mk 0 1 r1 r2),(qzb.mk 1 2 (qza.mk false [] []) r3),(qzb.mk 2 1 r4 r5)] r23) fun r24 =>
     bd (qzz 2) fun r25 =>
     bd (wzy [(qzb.mk 0 1 r1 r2),(qzb.mk 1 2 (qza.mk false [] []) r3),(qzb.mk 2 1 r4 r5)] r25) fun r26 =>
     bd (qzz 20) fun r27 =>
     bd (wzy [(qzb.mk 0 1 r1 r2),(qzb.mk 1 2 (qza.mk false [] []) r3),(qzb.mk 2 1 r4 r5)] r27) fun r28 =>
     bd (gd (bif (bif (bif (decide (r22.2=8)) then (decide (r24.2=0)) else false) then (decide (r26.2=0)) else false) then (decide (r28.2=0)) else false) (kz4 [(qzb.mk 0 1 r1 r2),(qzb.mk 1 2 (qza.mk false [] []) r3),(qzb.mk 2 1 r4 r5)])) fun r29 =>
     bd (gd (bif (bif (bif (bif (decide (r22.2=8)) then (decide (r24.2=0)) else false) then (decide (r26.2=0)) else false) then (decide (r28.2=0)) else false) then (decide (r29=0)) else false) (kz4 [])) fun r30 =>
     bd (at? [r9,[r10,r11,r12],r13] 1) fun x5 =>
     bd (qzba r24.1.Parts x5) fun r31 =>
     bd (gd (bif r31 then ((r24.1.Rest.Neg==false)&&(decide (r24.1.Rest.Num=[])&&(decide (r24.1.Rest.Den=[])&&true))) else false) (jza 4 3)) fun r32 =>
     bd (gd (bif r31 then ((r24.1.Rest.Neg==false)&&(decide (r24.1.Rest.Num=[])&&(decide (r24.1.Rest.Den=[])&&true))) else false) (jza 2 3)) fun r33 =>
     bd (gd (bif r31 then ((r24.1.Rest.Neg==false)&&(decide (r24.1.Rest.Num=[])&&(decide (r24.1.Rest.Den=[])&&true))) else false) (qzba r26.1.Parts [r32,(qza.mk false [] []),r33])) fun r34 =>
     bd (gd (bif (bif (bif r31 then ((r24.1.Rest.Neg==false)&&(decide (r24.1.Rest.Num=[])&&(decide (r24.1.Rest.Den=[])&&true))) else false) then r34 else false) then ((r26.1.Rest.Neg==false)&&(decide (r26.1.Rest.Num=[])&&(decide (r26.1.Rest.Den=[])&&true))) else false) (at? [r9,[r10,r11,r12],r13] 2)) fun x6 =>
     bd (gd (bif (bif (bif r31 then ((r24.1.Rest.Neg==false)&&(decide (r24.1.Rest.Num=[])&&(decide (r24.1.Rest.Den=[])&&true))) else false) then r34 else false) then ((r26.1.Rest.Neg==false)&&(decide (r26.1.Rest.Num=[])&&(decide (r26.1.Rest.Den=[])&&true))) else false) (qzba r28.1.Parts x6)) fun r35 =>
     bd (gd (bif (bif (bif (bif r31 then ((r24.1.Rest.Neg==false)&&(decide (r24.1.Rest.Num=[])&&(decide (r24.1.Rest.Den=[])&&true))) else false) then r34 else false) then ((r26.1.Rest.Neg==false)&&(decide (r26.1.Rest.Num=[])&&(decide (r26.1.Rest.Den=[])&&true))) else false) then r35 else false) (qzz 3)) fun r36 =>
     bd (gd (bif (bif (bif (bif (bif (bif (decide (r22.2=8)) then (decide (r24.2=0)) else false) then (decide (r26.2=0)) else false) then (decide (r28.2=0)) else false) then (decide (r29=0)) else false) then (decide (r30=2)) else false) then (bif (bif (bif (bif (bif r31 then ((r24.1.Rest.Neg==false)&&(decide (r24.1.Rest.Num=[])&&(decide (r24.1.Rest.Den=[])&&true))) else false) then r34 else false) then ((r26.1.Rest.Neg==false)&&(decide (r26.1.Rest.Num=[])&&(decide (r26.1.Rest.Den=[])&&true))) else false) then r35 else false) then ((r28.1.Rest.Neg==r36.Neg)&&(decide (r28.1.Rest.Num=r36.Num)&&(decide (r28.1.Rest.Den=r36.Den)&&true))) else false) else false) (qzz 10)) fun r37 =>
     bd (gd (bif (bif (bif (bif (bif (bif (decide (r22.2=8)) then (decide (r24.2=0)) else false) then (decide (r26.2=0)) else false) then (decide (r28.2=0)) else false) then (decide (r29=0)) else false) then (decide (r30=2)) else false) then (bif (bif (bif (bif (bif r31 then ((r24.1.Rest.Neg==false)&&(decide (r24.1.Rest.Num=[])&&(decide (r24.1.Rest.Den=[])&&true))) else false) then r34 else false) then ((r26.1.Rest.Neg==false)&&(decide (r26.1.Rest.Num=[])&&(decide (r26.1.Rest.Den=[])&&true))) else false) then r35 else false) then ((r28.1.Rest.Neg==r36.Neg)&&(decide (r28.1.Rest.Num=r36.Num)&&(decide (r28.1.Rest.Den=r36.Den)&&true))) else false) else false) (wzx [(qzb.mk 0 1 r1 r2),(qzb.mk 1 2 (qza.mk false [] []) r3),(qzb.mk 2 1 r4 r5)] r37 r24.1)) fun r38 =>
     bd (gd (bif (bif (bif (bif (bif (bif (bif (decide (r22.2=8)) then (decide (r24.2=0)) else false) then (decide (r26.2=0)) else false) then (decide (r28.2=0)) else false) then (decide (r29=0)) else false) then (decide (r30=2)) else false) then (bif (bif (bif (bif (bif r31 then ((r24.1.Rest.Neg==false)&&(decide (r24.1.Rest.Num=[])&&(decide (r24.1.Rest.Den=[])&&true))) else false) then r34 else false) then ((r26.1.Rest.Neg==false)&&(decide (r26.1.Rest.Num=[])&&(decide (r26.1.Rest.Den=[])&&true))) else false) then r35 else false) then ((r28.1.Rest.Neg==r36.Neg)&&(decide (r28.1.Rest.Num=r36.Num)&&(decide (r28.1.Rest.Den=r36.Den)&&true))) else false) else false) then r38 else false) (qzz 10)) fun r39 =>
     bd (gd (bif (bif (bif (bif (bif (bif (bif (decide (r22.2=8)) then (decide (r24.2=0)) else false) then (decide (r26.2=0)) else false) then (decide (r28.2=0)) else false) then (decide (r29=0)) else false) then (decide (r30=2)) else false) then (bif (bif (bif (bif (bif r31 then ((r24.1.Rest.Neg==false)&&(decide (r24.1.Rest.Num=[])&&(decide (r24.1.Rest.Den=[])&&true))) else false) then r34 else false) then ((r26.1.Rest.Neg==false)&&(decide (r26.1.Rest.Num=[])&&(decide (r26.1.Rest.Den=[])&&true))) else false) then r35 else false) then ((r28.1.Rest.Neg==r36.Neg)&&(decide (r28.1.Rest.Num=r36.Num)&&(decide (r28.1.Rest.Den=r36.Den)&&true))) else false) else false) then r38 else false) (qzb3 [3,5,2])) fun r40 =>
     bd (gd (bif (bif (bif (bif (bif (bif (bif (decide (r22.2=8)) then (decide (r24.2=0)) else false) then (decide (r26.2=0)) else false) then (decide (r28.2=0)) else false) then (decide (r29=0)) else false) then (decide (r30=2)) else false) then (bif (bif (bif (bif (bif r31 then ((r24.1.Rest.Neg==false)&&(decide (r24.1.Rest.Num=[])&&(decide (r24.1.Rest.Den=[])&&true))) else false) then r34 else false) then ((r26.1.Rest.Neg==false)&&(decide (r26.1.Rest.Num=[])&&(decide (r26.1.Rest.Den=[])&&true))) else false) then r35 else false) then ((r28.1.Rest.Neg==r36.Neg)&&(decide (r28.1.Rest.Num=r36.Num)&&(decide (r28.1.Rest.Den=r36.Den)&&true))) else false) else false) then r38 else false) (wzx [(qzb.mk 0 1 r1 r2),(qzb.mk 1 2 (qza.mk false [] []) r3),(qzb.mk 2 1 r4 r5)] r39 (qze.mk r40 (qza.mk false [] [])))) fun r41 =>
     some (bif (bif (bif (bif (bif (bif (bif (bif (decide (r22.2=8)) then (decide (r24.2=0)) else false) then (decide (r26.2=0)) else false) then (decide (r28.2=0)) else false) then (decide (r29=0)) else false) then (decide (r30=2)) else false) then (bif (bif (bif (bif (bif r31 then ((r24.1.Rest.Neg==false)&&(decide (r24.1.Rest.Num=[])&&(decide (r24.1.Rest.Den=[])&&true))) else false) then r34 else false) then ((r26.1.Rest.Neg==false)&&(decide (r26.1.Rest.Num=[])&&(decide (r26.1.Rest.Den=[])&&true))) else false) then r35 else false) then ((r28.1.Rest.Neg==r36.Neg)&&(decide (r28.1.Rest.Num=r36.Num)&&(decide (r28.1.Rest.Den=r36.Den)&&true))) else false) else false) then r38 else false) then (!r41) else false)
    )
   | .inr o=>(
     some o
    )
  )
 | .inr o=>(
   some o
  )
def wz0h (l0:List qzb) (q2:kzi):(Bool×Int×(List qzb)×(List qzb))→Option ((Bool×Int×(List qzb)×(List qzb))⊕(Bool×(List qzb)×(List qzb))):=fun s=>match s with
 | (light14,t71,l8,l10) =>
  ite' (decide (t71 < (List.length l0:Int))) (
   bd (at? l0 t71) fun x1 =>
   ck (!light14||inB .i64 (x1.Weight*(1+(q2.e0.tmod 1000)))) <|
   ck (inB .i64 (x1.Weight*(1+(q2.e0.tmod 1000)))) <|
   ck (decide (List.length (l8++[(qzb.mk x1.State (x1.Weight*(1+(q2.e0.tmod 1000))) x1.Floor x1.Cap)])*96≤140737488355328)) <|
   bd (qzz (1+(q2.e0.tmod 1000))) fun r6 =>
   bd (qzcw x1.Floor r6) fun r7 =>
   bd (qzz (1+(q2.e0.tmod 1000))) fun r8 =>
   bd (qzcw x1.Cap r8) fun r9 =>
   ck (decide (List.length (l10++[(qzb.mk x1.State x1.Weight r7 r9)])*96≤140737488355328)) <|
   ck (inB .i64 (t71+1)) <|
   some (.inl ((bif light14 then (decide ((x1.Weight*(1+(q2.e0.tmod 1000)))≤1000000)) else false),(t71+1),(l8++[(qzb.mk x1.State (x1.Weight*(1+(q2.e0.tmod 1000))) x1.Floor x1.Cap)]),(l10++[(qzb.mk x1.State x1.Weight r7 r9)])))
   ) (
   some (.inr (light14,l8,l10))
   )
def wz0k (l0:List qzb) (q2:kzi) (r13:qze×Int) (r5:qze×Int):Int→Option (Int⊕(Unit⊕Bool)):=fun s=>match s with
 | t189 =>
  ite' (decide (t189 < (List.length l0:Int))) (
   bd (at? r13.1.Parts t189) fun x2 =>
   bd (at? r5.1.Parts t189) fun x3 =>
   bd (qzz (1+(q2.e0.tmod 1000))) fun r17 =>
   bd (qzcw x3 r17) fun r18 =>
   ite' (!((x2.Neg==r18.Neg)&&(decide (x2.Num=r18.Num)&&(decide (x2.Den=r18.Den)&&true)))) (
    some (.inr (.inr false))
    ) (
    ck (inB .i64 (t189+1)) <|
    some (.inl (t189+1))
    )
   ) (
   some (.inr (.inl ()))
   )
def wz0i (l0:List qzb) (flow1:qza) (q2:kzi):Option (Bool) :=
 bd (qzcf l0 flow1) fun r1 =>
 bd (gd (!(!r1)) (kz4 l0)) fun r2 =>
 bd (gd (!(bif (!r1) then true else (!decide (r2=0)))) (yzs flow1)) fun r3 =>
 ite' (bif (bif (bif (!r1) then true else (!decide (r2=0))) then true else (!r3)) then true else flow1.Neg) (
  bd (yzu ) fun r4 =>
  some r4
  ) (
  bd (wzy l0 flow1) fun r5 =>
  ck (inB .i64 q2.e0) <|
  ck (inB .i64 (1+(q2.e0.tmod 1000))) <|
  ck (inB .i64 q2.e1) <|
  ck (!decide ((List.length l0:Int)=0)) <|
  ck (kzy l0 (q2.e1.tmod (List.length l0:Int)) (List.length l0:Int)) <|
  ck (decide (List.length ([]++(sub l0 (q2.e1.tmod (List.length l0:Int)) (List.length l0:Int)))*96≤140737488355328)) <|
  ck (kzy l0 0 (q2.e1.tmod (List.length l0:Int))) <|
  ck (decide (List.length (([]++(sub l0 (q2.e1.tmod (List.length l0:Int)) (List.length l0:Int)))++(sub l0 0 (q2.e1.tmod (List.length l0:Int))))*96≤140737488355328)) <|
  bd (lp (wz0h l0 q2) (true,0,[],[])) <| fun (light14,l8,l10) =>
  bd (wzy (([]++(sub l0 (q2.e1.tmod (List.length l0:Int)) (List.length l0:Int)))++(sub l0 0 (q2.e1.tmod (List.length l0:Int)))) flow1) fun r10 =>
  bd (qzz (1+(q2.e0.tmod 1000))) fun r11 =>
  bd (qzcw flow1 r11) fun r12 =>
  bd (wzy l10 r12) fun r13 =>
  bd (gd (!(bif (bif (bif (bif (bif (!decide (r5.2=0)) then true else (!decide (r10.2=0))) then true else (!decide (r13.2=0))) then true else (!decide ((List.length r5.1.Parts:Int)=(List.length l0:Int)))) then true else (!decide ((List.length r13.1.Parts:Int)=(List.length l0:Int)))) then true else (!((r10.1.Rest.Neg==r5.1.Rest.Neg)&&(decide (r10.1.Rest.Num=r5.1.Rest.Num)&&(decide (r10.1.Rest.Den=r5.1.Rest.Den)&&true)))))) (qzz (1+(q2.e0.tmod 1000)))) fun r14 =>
  bd (gd (!(bif (bif (bif (bif (bif (!decide (r5.2=0)) then true else (!decide (r10.2=0))) then true else (!decide (r13.2=0))) then true else (!decide ((List.length r5.1.Parts:Int)=(List.length l0:Int)))) then true else (!decide ((List.length r13.1.Parts:Int)=(List.length l0:Int)))) then true else (!((r10.1.Rest.Neg==r5.1.Rest.Neg)&&(decide (r10.1.Rest.Num=r5.1.Rest.Num)&&(decide (r10.1.Rest.Den=r5.1.Rest.Den)&&true)))))) (qzcw r5.1.Rest r14)) fun r15 =>
  ite' (bif (bif (bif (bif (bif (bif (!decide (r5.2=0)) then true else (!decide (r10.2=0))) then true else (!decide (r13.2=0))) then true else (!decide ((List.length r5.1.Parts:Int)=(List.length l0:Int)))) then true else (!decide ((List.length r13.1.Parts:Int)=(List.length l0:Int)))) then true else (!((r10.1.Rest.Neg==r5.1.Rest.Neg)&&(decide (r10.1.Rest.Num=r5.1.Rest.Num)&&(decide (r10.1.Rest.Den=r5.1.Rest.Den)&&true))))) then true else (!((r13.1.Rest.Neg==r15.Neg)&&(decide (r13.1.Rest.Num=r15.Num)&&(decide (r13.1.Rest.Den=r15.Den)&&true))))) (
   some false
   ) (
   ck (kzy r5.1.Parts (q2.e1.tmod (List.length l0:Int)) (List.length r5.1.Parts:Int)) <|
   ck (decide (List.length ([]++(sub r5.1.Parts (q2.e1.tmod (List.length l0:Int)) (List.length r5.1.Parts:Int)))*40≤140737488355328)) <|
   ck (kzy r5.1.Parts 0 (q2.e1.tmod (List.length l0:Int))) <|
   ck (decide (List.length (([]++(sub r5.1.Parts (q2.e1.tmod (List.length l0:Int)) (List.length r5.1.Parts:Int)))++(sub r5.1.Parts 0 (q2.e1.tmod (List.length l0:Int))))*40≤140737488355328)) <|
   bd (qzba r10.1.Parts (([]++(sub r5.1.Parts (q2.e1.tmod (List.length l0:Int)) (List.length r5.1.Parts:Int)))++(sub r5.1.Parts 0 (q2.e1.tmod (List.length l0:Int))))) fun r16 =>
   ite' (!r16) (
    some false
    ) (
    bd (lp (wz0k l0 q2 r13 r5) 0) <| fun o=>match o with
    | .inl ()=>(
      ite' (!light14) (
       bd (yzu ) fun r19 =>
       some r19
       ) (
       bd (wzy l8 flow1) fun r20 =>
       bd (yzu ) fun r21 =>
       bd (gd (bif r21 then (decide (r20.2=0)) else false) (qzba r20.1.Parts r5.1.Parts)) fun r22 =>
       some (bif (bif (bif r21 then (decide (r20.2=0)) else false) then r22 else false) then ((r20.1.Rest.Neg==r5.1.Rest.Neg)&&(decide (r20.1.Rest.Num=r5.1.Rest.Num)&&(decide (r20.1.Rest.Den=r5.1.Rest.Den)&&true))) else false)
       )
     )
    | .inr o=>(
      some o
     )
    )
   )
  )
end Go.Am

set_option linter.unusedVariables false
namespace Go.Am
def tT:Nat→Type
 | 0=>qza
 | 1=>qzb
 | 2=>qze
 | 3=>kzi
 | 4=>qz6
 | 5=>qzf
 | 6=>jzi
 | 7=>vzs
 | 8=>vzu
 | 9=>kzj
 | 10=>jzh
 | 11=>jzk
 | n+12=>Unit
instance tabT:TabT:=⟨tT⟩
def tls:Nat→List CT
 | 0=>[.bool,.str,.str]
 | 1=>[(.int .i64),(.int .i64),.bool,.str,.str,.bool,.str,.str]
 | 2=>[(.slc (.us 0)),.bool,.str,.str]
 | 3=>[(.int .u16),(.int .u16)]
 | 4=>[.bool,.str,.str]
 | 5=>[.bool,.str,.str]
 | 6=>[.str,.str,(.int .i64)]
 | 7=>[.str,(.int .i64)]
 | 8=>[.bool,.str,.str,(.int .i64)]
 | 9=>[(.slc (.us 0)),(.int .i64)]
 | 10=>[.bool,.str,.str,(.int .i64)]
 | 11=>[(.slc (.us 0)),.bool,.str,.str,(.int .i64)]
 | n+12=>[]
def tmk:(i:Nat)→Row (tls i)→tT i
 | 0=>fun (r:Bool×(List UInt8)×(List UInt8))=>(qza.mk r.1 r.2.1 r.2.2)
 | 1=>fun (r:Int×Int×Bool×(List UInt8)×(List UInt8)×Bool×(List UInt8)×(List UInt8))=>(qzb.mk r.1 r.2.1 (qza.mk r.2.2.1 r.2.2.2.1 r.2.2.2.2.1) (qza.mk r.2.2.2.2.2.1 r.2.2.2.2.2.2.1 r.2.2.2.2.2.2.2))
 | 2=>fun (r:(List qza)×Bool×(List UInt8)×(List UInt8))=>(qze.mk r.1 (qza.mk r.2.1 r.2.2.1 r.2.2.2))
 | 3=>fun (r:Int×Int)=>(kzi.mk r.1 r.2)
 | 4=>fun (r:Bool×(List UInt8)×(List UInt8))=>(qz6.mk (qza.mk r.1 r.2.1 r.2.2))
 | 5=>fun (r:Bool×(List UInt8)×(List UInt8))=>(qzf.mk r.1 r.2.1 r.2.2)
 | 6=>fun (r:(List UInt8)×(List UInt8)×Int)=>(jzi.mk r.1 r.2.1 r.2.2)
 | 7=>fun (r:(List UInt8)×Int)=>(vzs.mk r.1 r.2)
 | 8=>fun (r:Bool×(List UInt8)×(List UInt8)×Int)=>(vzu.mk (qza.mk r.1 r.2.1 r.2.2.1) r.2.2.2)
 | 9=>fun (r:(List qza)×Int)=>(kzj.mk r.1 r.2)
 | 10=>fun (r:Bool×(List UInt8)×(List UInt8)×Int)=>(jzh.mk (qza.mk r.1 r.2.1 r.2.2.1) r.2.2.2)
 | 11=>fun (r:(List qza)×Bool×(List UInt8)×(List UInt8)×Int)=>(jzk.mk (qze.mk r.1 (qza.mk r.2.1 r.2.2.1 r.2.2.2.1)) r.2.2.2.2)
 | n+12=>fun _=>()
def tun:(i:Nat)→tT i→Row (tls i)
 | 0=>fun (x:qza)=>(x.Neg,x.Num,x.Den)
 | 1=>fun (x:qzb)=>(x.State,x.Weight,x.Floor.Neg,x.Floor.Num,x.Floor.Den,x.Cap.Neg,x.Cap.Num,x.Cap.Den)
 | 2=>fun (x:qze)=>(x.Parts,x.Rest.Neg,x.Rest.Num,x.Rest.Den)
 | 3=>fun (x:kzi)=>(x.e0,x.e1)
 | 4=>fun (x:qz6)=>(x.level.Neg,x.level.Num,x.level.Den)
 | 5=>fun (x:qzf)=>(x.neg,x.num,x.den)
 | 6=>fun (x:jzi)=>(x.Q,x.R,x.E)
 | 7=>fun (x:vzs)=>(x.S,x.E)
 | 8=>fun (x:vzu)=>(x.A.Neg,x.A.Num,x.A.Den,x.E)
 | 9=>fun (x:kzj)=>(x.L,x.E)
 | 10=>fun (x:jzh)=>(x.A.Neg,x.A.Num,x.A.Den,x.E)
 | 11=>fun (x:jzk)=>(x.D.Parts,x.D.Rest.Neg,x.D.Rest.Num,x.D.Rest.Den,x.E)
 | n+12=>fun _=>()
@[reducible] def tin:(i:Nat)→Inhabited (tT i)
 | 0=>(inferInstance:Inhabited qza)
 | 1=>(inferInstance:Inhabited qzb)
 | 2=>(inferInstance:Inhabited qze)
 | 3=>(inferInstance:Inhabited kzi)
 | 4=>(inferInstance:Inhabited qz6)
 | 5=>(inferInstance:Inhabited qzf)
 | 6=>(inferInstance:Inhabited jzi)
 | 7=>(inferInstance:Inhabited vzs)
 | 8=>(inferInstance:Inhabited vzu)
 | 9=>(inferInstance:Inhabited kzj)
 | 10=>(inferInstance:Inhabited jzh)
 | 11=>(inferInstance:Inhabited jzk)
 | n+12=>(inferInstance:Inhabited Unit)
def tca:(i:Nat)→tT i→List AVal
 | 0=>qza.cells
 | 1=>qzb.cells
 | 2=>qze.cells
 | 3=>kzi.cells
 | 4=>qz6.cells
 | 5=>qzf.cells
 | 6=>jzi.cells
 | 7=>vzs.cells
 | 8=>vzu.cells
 | 9=>kzj.cells
 | 10=>jzh.cells
 | 11=>jzk.cells
 | n+12=>fun _=>[]
instance tab:Tab:=⟨tls,tmk,tun,tin,tca⟩
theorem nr0 (x:qza) (v:AVal) (h:v∈qza.cells x):qzt v:=by
 have k:∀ v∈qza.cells x,qzt v:=by
  unfold qza.cells; simp only [List.forall_mem_cons]; exact ⟨.bool _,.str _,.str _,fun _ h=>by cases h⟩
 exact k v h
theorem nr1 (x:qzb) (v:AVal) (h:v∈qzb.cells x):qzt v:=by
 have k:∀ v∈qzb.cells x,qzt v:=by
  unfold qzb.cells; simp only [List.forall_mem_cons]; exact ⟨.int _ _,.int _ _,.bool _,.str _,.str _,.bool _,.str _,.str _,fun _ h=>by cases h⟩
 exact k v h
theorem nr2 (x:qze) (v:AVal) (h:v∈qze.cells x):qzt v:=by
 have k:∀ v∈qze.cells x,qzt v:=by
  unfold qze.cells; simp only [List.forall_mem_cons]; exact ⟨qzj (fun x v h=>nr0 x v h),.bool _,.str _,.str _,fun _ h=>by cases h⟩
 exact k v h
theorem nr3 (x:kzi) (v:AVal) (h:v∈kzi.cells x):qzt v:=by
 have k:∀ v∈kzi.cells x,qzt v:=by
  unfold kzi.cells; simp only [List.forall_mem_cons]; exact ⟨.int _ _,.int _ _,fun _ h=>by cases h⟩
 exact k v h
theorem nr4 (x:qz6) (v:AVal) (h:v∈qz6.cells x):qzt v:=by
 have k:∀ v∈qz6.cells x,qzt v:=by
  unfold qz6.cells; simp only [List.forall_mem_cons]; exact ⟨.bool _,.str _,.str _,fun _ h=>by cases h⟩
 exact k v h
theorem nr5 (x:qzf) (v:AVal) (h:v∈qzf.cells x):qzt v:=by
 have k:∀ v∈qzf.cells x,qzt v:=by
  unfold qzf.cells; simp only [List.forall_mem_cons]; exact ⟨.bool _,.str _,.str _,fun _ h=>by cases h⟩
 exact k v h
theorem nr6 (x:jzi) (v:AVal) (h:v∈jzi.cells x):qzt v:=by
 have k:∀ v∈jzi.cells x,qzt v:=by
  unfold jzi.cells; simp only [List.forall_mem_cons]; exact ⟨.str _,.str _,.int _ _,fun _ h=>by cases h⟩
 exact k v h
theorem nr7 (x:vzs) (v:AVal) (h:v∈vzs.cells x):qzt v:=by
 have k:∀ v∈vzs.cells x,qzt v:=by
  unfold vzs.cells; simp only [List.forall_mem_cons]; exact ⟨.str _,.int _ _,fun _ h=>by cases h⟩
 exact k v h
theorem nr8 (x:vzu) (v:AVal) (h:v∈vzu.cells x):qzt v:=by
 have k:∀ v∈vzu.cells x,qzt v:=by
  unfold vzu.cells; simp only [List.forall_mem_cons]; exact ⟨.bool _,.str _,.str _,.int _ _,fun _ h=>by cases h⟩
 exact k v h
theorem nr9 (x:kzj) (v:AVal) (h:v∈kzj.cells x):qzt v:=by
 have k:∀ v∈kzj.cells x,qzt v:=by
  unfold kzj.cells; simp only [List.forall_mem_cons]; exact ⟨qzj (fun x v h=>nr0 x v h),.int _ _,fun _ h=>by cases h⟩
 exact k v h
theorem nr10 (x:jzh) (v:AVal) (h:v∈jzh.cells x):qzt v:=by
 have k:∀ v∈jzh.cells x,qzt v:=by
  unfold jzh.cells; simp only [List.forall_mem_cons]; exact ⟨.bool _,.str _,.str _,.int _ _,fun _ h=>by cases h⟩
 exact k v h
theorem nr11 (x:jzk) (v:AVal) (h:v∈jzk.cells x):qzt v:=by
 have k:∀ v∈jzk.cells x,qzt v:=by
  unfold jzk.cells; simp only [List.forall_mem_cons]; exact ⟨qzj (fun x v h=>nr0 x v h),.bool _,.str _,.str _,.int _ _,fun _ h=>by cases h⟩
 exact k v h
instance tabOk:TabOk where
 unmk i r:=match i,r with
  | 0,r=>rfl
  | 1,r=>rfl
  | 2,r=>rfl
  | 3,r=>rfl
  | 4,r=>rfl
  | 5,r=>rfl
  | 6,r=>rfl
  | 7,r=>rfl
  | 8,r=>rfl
  | 9,r=>rfl
  | 10,r=>rfl
  | 11,r=>rfl
  | _+12,r=>rfl
 cells i x:=match i,x with
  | 0,x=>(by kernel_rfl)
  | 1,x=>(by kernel_rfl)
  | 2,x=>(by kernel_rfl)
  | 3,x=>(by kernel_rfl)
  | 4,x=>(by kernel_rfl)
  | 5,x=>(by kernel_rfl)
  | 6,x=>(by kernel_rfl)
  | 7,x=>(by kernel_rfl)
  | 8,x=>(by kernel_rfl)
  | 9,x=>(by kernel_rfl)
  | 10,x=>(by kernel_rfl)
  | 11,x=>(by kernel_rfl)
  | _+12,x=>(by kernel_rfl)
 nor i x v h:=match i,x,h with
  | 0,x,h=>nr0 x v h
  | 1,x,h=>nr1 x v h
  | 2,x,h=>nr2 x v h
  | 3,x,h=>nr3 x v h
  | 4,x,h=>nr4 x v h
  | 5,x,h=>nr5 x v h
  | 6,x,h=>nr6 x v h
  | 7,x,h=>nr7 x v h
  | 8,x,h=>nr8 x v h
  | 9,x,h=>nr9 x v h
  | 10,x,h=>nr10 x v h
  | 11,x,h=>nr11 x v h
  | _+12,x,h=>(by cases h)
 pos i c h j e:=match i,h with
  | 0,h=>(by subst e; simp [Tab.ls,tls] at h)
  | 1,h=>(by subst e; simp [Tab.ls,tls] at h)
  | 2,h=>(by subst e; simp [Tab.ls,tls] at h)
  | 3,h=>(by subst e; simp [Tab.ls,tls] at h)
  | 4,h=>(by subst e; simp [Tab.ls,tls] at h)
  | 5,h=>(by subst e; simp [Tab.ls,tls] at h)
  | 6,h=>(by subst e; simp [Tab.ls,tls] at h)
  | 7,h=>(by subst e; simp [Tab.ls,tls] at h)
  | 8,h=>(by subst e; simp [Tab.ls,tls] at h)
  | 9,h=>(by subst e; simp [Tab.ls,tls] at h)
  | 10,h=>(by subst e; simp [Tab.ls,tls] at h)
  | 11,h=>(by subst e; simp [Tab.ls,tls] at h)
  | _+12,h=>(by subst e; cases h)
end Go.Am

