/- Part F2 of the proof that the last part closes: the functions of this seat as functions of plain values. No condition. -/
import Derived.Test.YtomegmhiddbmbaaGreatDoorT4
import Derived.Test.YtomegmhiddbmbaaGreatDoorF1
import Derived.Test.YtomegmhiddbmbaaGreatDoorChecked
set_option linter.unusedVariables false
namespace Go.Am
open Go.Proofs
def EE:Nat→AVal:=fun _=>.top
def wz2c.cells(x:wz2c):List AVal:=[.int .i64 x.From,slcV 1 (cI .i64) x.Stages]
def qza.cells(x:qza):List AVal:=[.bool x.Neg,.str x.Num,.str x.Den]
def wz2g.cells(x:wz2g):List AVal:=[.int .i64 x.Stage,.bool x.Flow.Neg,.str x.Flow.Num,.str x.Flow.Den]
def wz2d.cells(x:wz2d):List AVal:=[slcV 4 wz2g.cells x.Points]
def wz2b.cells(x:wz2b):List AVal:=[.int .i64 x.From,.int .i64 x.To,.bool x.Weight.Neg,.str x.Weight.Num,.str x.Weight.Den,.int .i64 x.Datum,slcV 4 wz2g.cells x.Curve.Points]
def wz2p.cells(x:wz2p):List AVal:=[.int .i64 x.History.From,slcV 1 (cI .i64) x.History.Stages,slcV 7 wz2b.cells x.Spans,.bool x.Level.Neg,.str x.Level.Num,.str x.Level.Den]
def wz2v.cells(x:wz2v):List AVal:=[.int .u8 x.e0,.int .u8 x.e1,.int .u8 x.e2]
def wz2e.cells(x:wz2e):List AVal:=[.bool x.Flow.Neg,.str x.Flow.Num,.str x.Flow.Den,.int .i64 x.Ticks]
def wz2h.cells(x:wz2h):List AVal:=[.int .i64 x.From,.int .i64 x.To]
def qzf.cells(x:qzf):List AVal:=[.bool x.neg,.str x.num,.str x.den]
def wz22.cells(x:wz22):List AVal:=[.int .i64 x.e0,.int .i64 x.e1]
def wz2w.cells(x:wz2w):List AVal:=[.int .i64 x.Stage,.int .i64 x.Ticks]
def wz3g.cells(x:wz3g):List AVal:=[.int .i64 x.From,.int .i64 x.To,slcV 2 wz2w.cells x.Table,.int .i64 x.Lo,.int .i64 x.Hi]
def jzi.cells(x:jzi):List AVal:=[.str x.Q,.str x.R,.int .i64 x.E]
def vzs.cells(x:vzs):List AVal:=[.str x.S,.int .i64 x.E]
def vzu.cells(x:vzu):List AVal:=[.bool x.A.Neg,.str x.A.Num,.str x.A.Den,.int .i64 x.E]
def wz2f.cells(x:wz2f):List AVal:=[.bool x.Flow.Neg,.str x.Flow.Num,.str x.Flow.Den,.int .i64 x.Tick]
def wz2m.cells(x:wz2m):List AVal:=[.bool x.X.Flow.Neg,.str x.X.Flow.Num,.str x.X.Flow.Den,.int .i64 x.X.Tick,.int .i64 x.E]
def wz2l.cells(x:wz2l):List AVal:=[slcV 3 qza.cells x.L,.int .i64 x.E]
def wz2j.cells(x:wz2j):List AVal:=[.int .i64 x.N,.int .i64 x.E]
def wz2i.cells(x:wz2i):List AVal:=[.bool x.F.Neg,.str x.F.Num,.str x.F.Den,.int .i64 x.E]
def wz2q.cells(x:wz2q):List AVal:=[slcV 4 wz2e.cells x.L,.int .i64 x.E]
def wz2o.cells(x:wz2o):List AVal:=[slcV 2 wz2h.cells x.L,.int .i64 x.E]
def tT:Nat→Type
 |0=>wz2c
 |1=>qza
 |2=>wz2g
 |3=>wz2d
 |4=>wz2b
 |5=>wz2p
 |6=>wz2v
 |7=>wz2e
 |8=>wz2h
 |9=>qzf
 |10=>wz22
 |11=>wz2w
 |12=>wz3g
 |13=>jzi
 |14=>vzs
 |15=>vzu
 |16=>wz2f
 |17=>wz2m
 |18=>wz2l
 |19=>wz2j
 |20=>wz2i
 |21=>wz2q
 |22=>wz2o
 |n+23=>Unit
def tFA:Nat→Type
 |0=>wz2e
 |1=>Int×qza
 |2=>qza×qza
 |3=>Int
 |4=>(List Int)×(List Int)
 |5=>qzf
 |6=>qza×qza
 |_=>Unit
def tFR:Nat→Type
 |0=>Bool
 |1=>Bool
 |2=>Bool
 |3=>Bool
 |4=>(List Int)
 |5=>qzf
 |6=>Int
 |_=>Unit
noncomputable def taA:(i:Nat)→tFA i→List AVal
 |0=>fun(x:wz2e)=>[.agg (wz2e.cells x)]
 |1=>fun(x:Int×qza)=>[.int .i64 x.1,.agg (qza.cells x.2)]
 |2=>fun(x:qza×qza)=>[.agg (qza.cells x.1),.agg (qza.cells x.2)]
 |3=>fun(x:Int)=>[.int .i64 x]
 |4=>fun(x:(List Int)×(List Int))=>[slcV 1 (cI .u32) x.1,slcV 1 (cI .u32) x.2]
 |5=>fun(x:qzf)=>[.agg (qzf.cells x)]
 |6=>fun(x:qza×qza)=>[.agg (qza.cells x.1),.agg (qza.cells x.2)]
 |n+7=>fun _=>[]
noncomputable def taR:(i:Nat)→tFR i→AVal
 |0=>fun(x:Bool)=>.bool x
 |1=>fun(x:Bool)=>.bool x
 |2=>fun(x:Bool)=>.bool x
 |3=>fun(x:Bool)=>.bool x
 |4=>fun(x:(List Int))=>slcV 1 (cI .u32) x
 |5=>fun(x:qzf)=>.agg (qzf.cells x)
 |6=>fun(x:Int)=>.int .i64 x
 |n+7=>fun _=>.tup []
def tfa:Nat→List CT
 |0=>[(.us 7)]
 |1=>[(.int .i64),(.us 1)]
 |2=>[(.us 1),(.us 1)]
 |3=>[(.int .i64)]
 |4=>[(.slc (.int .u32)),(.slc (.int .u32))]
 |5=>[(.us 9)]
 |6=>[(.us 1),(.us 1)]
 |_=>[]
def tfr:Nat→List CT
 |0=>[.bool]
 |1=>[.bool]
 |2=>[.bool]
 |3=>[.bool]
 |4=>[(.slc (.int .u32))]
 |5=>[(.us 9)]
 |6=>[(.int .i64)]
 |_=>[]
noncomputable instance tabT:TabT:=⟨tT,EE,Tryz.prog,tFA,tFR,taA,taR⟩
def tls:Nat→List CT
 |0=>[(.int .i64),(.slc (.int .i64))]
 |1=>[.bool,.str,.str]
 |2=>[(.int .i64),.bool,.str,.str]
 |3=>[(.slc (.us 2))]
 |4=>[(.int .i64),(.int .i64),.bool,.str,.str,(.int .i64),(.slc (.us 2))]
 |5=>[(.int .i64),(.slc (.int .i64)),(.slc (.us 4)),.bool,.str,.str]
 |6=>[(.int .u8),(.int .u8),(.int .u8)]
 |7=>[.bool,.str,.str,(.int .i64)]
 |8=>[(.int .i64),(.int .i64)]
 |9=>[.bool,.str,.str]
 |10=>[(.int .i64),(.int .i64)]
 |11=>[(.int .i64),(.int .i64)]
 |12=>[(.int .i64),(.int .i64),(.slc (.us 11)),(.int .i64),(.int .i64)]
 |13=>[.str,.str,(.int .i64)]
 |14=>[.str,(.int .i64)]
 |15=>[.bool,.str,.str,(.int .i64)]
 |16=>[.bool,.str,.str,(.int .i64)]
 |17=>[.bool,.str,.str,(.int .i64),(.int .i64)]
 |18=>[(.slc (.us 1)),(.int .i64)]
 |19=>[(.int .i64),(.int .i64)]
 |20=>[.bool,.str,.str,(.int .i64)]
 |21=>[(.slc (.us 7)),(.int .i64)]
 |22=>[(.slc (.us 8)),(.int .i64)]
 |n+23=>[]
def tmk:(i:Nat)→Row (tls i)→tT i
 |0=>fun(r:Int×(List Int))=>(wz2c.mk r.1 r.2)
 |1=>fun(r:Bool×(List UInt8)×(List UInt8))=>(qza.mk r.1 r.2.1 r.2.2)
 |2=>fun(r:Int×Bool×(List UInt8)×(List UInt8))=>(wz2g.mk r.1 (qza.mk r.2.1 r.2.2.1 r.2.2.2))
 |3=>fun(r:(List wz2g))=>(wz2d.mk r)
 |4=>fun(r:Int×Int×Bool×(List UInt8)×(List UInt8)×Int×(List wz2g))=>(wz2b.mk r.1 r.2.1 (qza.mk r.2.2.1 r.2.2.2.1 r.2.2.2.2.1) r.2.2.2.2.2.1 (wz2d.mk r.2.2.2.2.2.2))
 |5=>fun(r:Int×(List Int)×(List wz2b)×Bool×(List UInt8)×(List UInt8))=>(wz2p.mk (wz2c.mk r.1 r.2.1) r.2.2.1 (qza.mk r.2.2.2.1 r.2.2.2.2.1 r.2.2.2.2.2))
 |6=>fun(r:Int×Int×Int)=>(wz2v.mk r.1 r.2.1 r.2.2)
 |7=>fun(r:Bool×(List UInt8)×(List UInt8)×Int)=>(wz2e.mk (qza.mk r.1 r.2.1 r.2.2.1) r.2.2.2)
 |8=>fun(r:Int×Int)=>(wz2h.mk r.1 r.2)
 |9=>fun(r:Bool×(List UInt8)×(List UInt8))=>(qzf.mk r.1 r.2.1 r.2.2)
 |10=>fun(r:Int×Int)=>(wz22.mk r.1 r.2)
 |11=>fun(r:Int×Int)=>(wz2w.mk r.1 r.2)
 |12=>fun(r:Int×Int×(List wz2w)×Int×Int)=>(wz3g.mk r.1 r.2.1 r.2.2.1 r.2.2.2.1 r.2.2.2.2)
 |13=>fun(r:(List UInt8)×(List UInt8)×Int)=>(jzi.mk r.1 r.2.1 r.2.2)
 |14=>fun(r:(List UInt8)×Int)=>(vzs.mk r.1 r.2)
 |15=>fun(r:Bool×(List UInt8)×(List UInt8)×Int)=>(vzu.mk (qza.mk r.1 r.2.1 r.2.2.1) r.2.2.2)
 |16=>fun(r:Bool×(List UInt8)×(List UInt8)×Int)=>(wz2f.mk (qza.mk r.1 r.2.1 r.2.2.1) r.2.2.2)
 |17=>fun(r:Bool×(List UInt8)×(List UInt8)×Int×Int)=>(wz2m.mk (wz2f.mk (qza.mk r.1 r.2.1 r.2.2.1) r.2.2.2.1) r.2.2.2.2)
 |18=>fun(r:(List qza)×Int)=>(wz2l.mk r.1 r.2)
 |19=>fun(r:Int×Int)=>(wz2j.mk r.1 r.2)
 |20=>fun(r:Bool×(List UInt8)×(List UInt8)×Int)=>(wz2i.mk (qza.mk r.1 r.2.1 r.2.2.1) r.2.2.2)
 |21=>fun(r:(List wz2e)×Int)=>(wz2q.mk r.1 r.2)
 |22=>fun(r:(List wz2h)×Int)=>(wz2o.mk r.1 r.2)
 |n+23=>fun _=>()
def tun:(i:Nat)→tT i→Row (tls i)
 |0=>fun(x:wz2c)=>(x.From,x.Stages)
 |1=>fun(x:qza)=>(x.Neg,x.Num,x.Den)
 |2=>fun(x:wz2g)=>(x.Stage,x.Flow.Neg,x.Flow.Num,x.Flow.Den)
 |3=>fun(x:wz2d)=>(x.Points)
 |4=>fun(x:wz2b)=>(x.From,x.To,x.Weight.Neg,x.Weight.Num,x.Weight.Den,x.Datum,x.Curve.Points)
 |5=>fun(x:wz2p)=>(x.History.From,x.History.Stages,x.Spans,x.Level.Neg,x.Level.Num,x.Level.Den)
 |6=>fun(x:wz2v)=>(x.e0,x.e1,x.e2)
 |7=>fun(x:wz2e)=>(x.Flow.Neg,x.Flow.Num,x.Flow.Den,x.Ticks)
 |8=>fun(x:wz2h)=>(x.From,x.To)
 |9=>fun(x:qzf)=>(x.neg,x.num,x.den)
 |10=>fun(x:wz22)=>(x.e0,x.e1)
 |11=>fun(x:wz2w)=>(x.Stage,x.Ticks)
 |12=>fun(x:wz3g)=>(x.From,x.To,x.Table,x.Lo,x.Hi)
 |13=>fun(x:jzi)=>(x.Q,x.R,x.E)
 |14=>fun(x:vzs)=>(x.S,x.E)
 |15=>fun(x:vzu)=>(x.A.Neg,x.A.Num,x.A.Den,x.E)
 |16=>fun(x:wz2f)=>(x.Flow.Neg,x.Flow.Num,x.Flow.Den,x.Tick)
 |17=>fun(x:wz2m)=>(x.X.Flow.Neg,x.X.Flow.Num,x.X.Flow.Den,x.X.Tick,x.E)
 |18=>fun(x:wz2l)=>(x.L,x.E)
 |19=>fun(x:wz2j)=>(x.N,x.E)
 |20=>fun(x:wz2i)=>(x.F.Neg,x.F.Num,x.F.Den,x.E)
 |21=>fun(x:wz2q)=>(x.L,x.E)
 |22=>fun(x:wz2o)=>(x.L,x.E)
 |n+23=>fun _=>()
@[reducible] def tin:(i:Nat)→Inhabited (tT i)
 |0=>(inferInstance:Inhabited wz2c)
 |1=>(inferInstance:Inhabited qza)
 |2=>(inferInstance:Inhabited wz2g)
 |3=>(inferInstance:Inhabited wz2d)
 |4=>(inferInstance:Inhabited wz2b)
 |5=>(inferInstance:Inhabited wz2p)
 |6=>(inferInstance:Inhabited wz2v)
 |7=>(inferInstance:Inhabited wz2e)
 |8=>(inferInstance:Inhabited wz2h)
 |9=>(inferInstance:Inhabited qzf)
 |10=>(inferInstance:Inhabited wz22)
 |11=>(inferInstance:Inhabited wz2w)
 |12=>(inferInstance:Inhabited wz3g)
 |13=>(inferInstance:Inhabited jzi)
 |14=>(inferInstance:Inhabited vzs)
 |15=>(inferInstance:Inhabited vzu)
 |16=>(inferInstance:Inhabited wz2f)
 |17=>(inferInstance:Inhabited wz2m)
 |18=>(inferInstance:Inhabited wz2l)
 |19=>(inferInstance:Inhabited wz2j)
 |20=>(inferInstance:Inhabited wz2i)
 |21=>(inferInstance:Inhabited wz2q)
 |22=>(inferInstance:Inhabited wz2o)
 |n+23=>(inferInstance:Inhabited Unit)
def tca:(i:Nat)→tT i→List AVal
 |0=>wz2c.cells
 |1=>qza.cells
 |2=>wz2g.cells
 |3=>wz2d.cells
 |4=>wz2b.cells
 |5=>wz2p.cells
 |6=>wz2v.cells
 |7=>wz2e.cells
 |8=>wz2h.cells
 |9=>qzf.cells
 |10=>wz22.cells
 |11=>wz2w.cells
 |12=>wz3g.cells
 |13=>jzi.cells
 |14=>vzs.cells
 |15=>vzu.cells
 |16=>wz2f.cells
 |17=>wz2m.cells
 |18=>wz2l.cells
 |19=>wz2j.cells
 |20=>wz2i.cells
 |21=>wz2q.cells
 |22=>wz2o.cells
 |n+23=>fun _=>[]
def tkk:Nat→Option (List Nat)
 |1=>some [0,2,2]
 |2=>some [1,0,2,2]
 |6=>some [1,1,1]
 |7=>some [0,2,2,1]
 |8=>some [1,1]
 |9=>some [0,2,2]
 |10=>some [1,1]
 |11=>some [1,1]
 |13=>some [2,2,1]
 |14=>some [2,1]
 |15=>some [0,2,2,1]
 |16=>some [0,2,2,1]
 |17=>some [0,2,2,1,1]
 |19=>some [1,1]
 |20=>some [0,2,2,1]
 |_=>none
def tke:(i:Nat)→tT i→tT i→Bool
 |0=>fun _ _=>true
 |1=>wz2k
 |2=>wz9t
 |3=>fun _ _=>true
 |4=>fun _ _=>true
 |5=>fun _ _=>true
 |6=>wz9a
 |7=>wz9w
 |8=>wz9x
 |9=>wz8j
 |10=>jzaq
 |11=>jza2
 |12=>fun _ _=>true
 |13=>wz78
 |14=>wz86
 |15=>wz87
 |16=>wz8n
 |17=>wz80
 |18=>fun _ _=>true
 |19=>wz79
 |20=>wz7t
 |21=>fun _ _=>true
 |22=>fun _ _=>true
 |n+23=>fun _ _=>true
theorem teA:(i:Nat)→Row (tfa i)=tFA i
 |0=>rfl
 |1=>rfl
 |2=>rfl
 |3=>rfl
 |4=>rfl
 |5=>rfl
 |6=>rfl
 |n+7=>rfl
theorem teR:(i:Nat)→Row (tfr i)=tFR i
 |0=>rfl
 |1=>rfl
 |2=>rfl
 |3=>rfl
 |4=>rfl
 |5=>rfl
 |6=>rfl
 |n+7=>rfl
noncomputable instance tab:Tab:=⟨tls,tmk,tun,tin,tca,tfa,tfr,teA,teR,tkk,tke⟩
theorem nr0(x:wz2c)(v:AVal)(h:v∈wz2c.cells x):qzt v:=by
 have k:∀v∈wz2c.cells x,qzt v:=by
  unfold wz2c.cells;simp only[List.forall_mem_cons];exact⟨.int _ _,qzj (fun x v h=>qz1 v h),fun _ h=>by cases h⟩
 exact k v h
theorem nr1(x:qza)(v:AVal)(h:v∈qza.cells x):qzt v:=by
 have k:∀v∈qza.cells x,qzt v:=by
  unfold qza.cells;simp only[List.forall_mem_cons];exact⟨.bool _,.str _,.str _,fun _ h=>by cases h⟩
 exact k v h
theorem nr2(x:wz2g)(v:AVal)(h:v∈wz2g.cells x):qzt v:=by
 have k:∀v∈wz2g.cells x,qzt v:=by
  unfold wz2g.cells;simp only[List.forall_mem_cons];exact⟨.int _ _,.bool _,.str _,.str _,fun _ h=>by cases h⟩
 exact k v h
theorem nr3(x:wz2d)(v:AVal)(h:v∈wz2d.cells x):qzt v:=by
 have k:∀v∈wz2d.cells x,qzt v:=by
  unfold wz2d.cells;simp only[List.forall_mem_cons];exact⟨qzj (fun x v h=>nr2 x v h),fun _ h=>by cases h⟩
 exact k v h
theorem nr4(x:wz2b)(v:AVal)(h:v∈wz2b.cells x):qzt v:=by
 have k:∀v∈wz2b.cells x,qzt v:=by
  unfold wz2b.cells;simp only[List.forall_mem_cons];exact⟨.int _ _,.int _ _,.bool _,.str _,.str _,.int _ _,qzj (fun x v h=>nr2 x v h),fun _ h=>by cases h⟩
 exact k v h
theorem nr5(x:wz2p)(v:AVal)(h:v∈wz2p.cells x):qzt v:=by
 have k:∀v∈wz2p.cells x,qzt v:=by
  unfold wz2p.cells;simp only[List.forall_mem_cons];exact⟨.int _ _,qzj (fun x v h=>qz1 v h),qzj (fun x v h=>nr4 x v h),.bool _,.str _,.str _,fun _ h=>by cases h⟩
 exact k v h
theorem nr6(x:wz2v)(v:AVal)(h:v∈wz2v.cells x):qzt v:=by
 have k:∀v∈wz2v.cells x,qzt v:=by
  unfold wz2v.cells;simp only[List.forall_mem_cons];exact⟨.int _ _,.int _ _,.int _ _,fun _ h=>by cases h⟩
 exact k v h
theorem nr7(x:wz2e)(v:AVal)(h:v∈wz2e.cells x):qzt v:=by
 have k:∀v∈wz2e.cells x,qzt v:=by
  unfold wz2e.cells;simp only[List.forall_mem_cons];exact⟨.bool _,.str _,.str _,.int _ _,fun _ h=>by cases h⟩
 exact k v h
theorem nr8(x:wz2h)(v:AVal)(h:v∈wz2h.cells x):qzt v:=by
 have k:∀v∈wz2h.cells x,qzt v:=by
  unfold wz2h.cells;simp only[List.forall_mem_cons];exact⟨.int _ _,.int _ _,fun _ h=>by cases h⟩
 exact k v h
theorem nr9(x:qzf)(v:AVal)(h:v∈qzf.cells x):qzt v:=by
 have k:∀v∈qzf.cells x,qzt v:=by
  unfold qzf.cells;simp only[List.forall_mem_cons];exact⟨.bool _,.str _,.str _,fun _ h=>by cases h⟩
 exact k v h
theorem nr10(x:wz22)(v:AVal)(h:v∈wz22.cells x):qzt v:=by
 have k:∀v∈wz22.cells x,qzt v:=by
  unfold wz22.cells;simp only[List.forall_mem_cons];exact⟨.int _ _,.int _ _,fun _ h=>by cases h⟩
 exact k v h
theorem nr11(x:wz2w)(v:AVal)(h:v∈wz2w.cells x):qzt v:=by
 have k:∀v∈wz2w.cells x,qzt v:=by
  unfold wz2w.cells;simp only[List.forall_mem_cons];exact⟨.int _ _,.int _ _,fun _ h=>by cases h⟩
 exact k v h
theorem nr12(x:wz3g)(v:AVal)(h:v∈wz3g.cells x):qzt v:=by
 have k:∀v∈wz3g.cells x,qzt v:=by
  unfold wz3g.cells;simp only[List.forall_mem_cons];exact⟨.int _ _,.int _ _,qzj (fun x v h=>nr11 x v h),.int _ _,.int _ _,fun _ h=>by cases h⟩
 exact k v h
theorem nr13(x:jzi)(v:AVal)(h:v∈jzi.cells x):qzt v:=by
 have k:∀v∈jzi.cells x,qzt v:=by
  unfold jzi.cells;simp only[List.forall_mem_cons];exact⟨.str _,.str _,.int _ _,fun _ h=>by cases h⟩
 exact k v h
theorem nr14(x:vzs)(v:AVal)(h:v∈vzs.cells x):qzt v:=by
 have k:∀v∈vzs.cells x,qzt v:=by
  unfold vzs.cells;simp only[List.forall_mem_cons];exact⟨.str _,.int _ _,fun _ h=>by cases h⟩
 exact k v h
theorem nr15(x:vzu)(v:AVal)(h:v∈vzu.cells x):qzt v:=by
 have k:∀v∈vzu.cells x,qzt v:=by
  unfold vzu.cells;simp only[List.forall_mem_cons];exact⟨.bool _,.str _,.str _,.int _ _,fun _ h=>by cases h⟩
 exact k v h
theorem nr16(x:wz2f)(v:AVal)(h:v∈wz2f.cells x):qzt v:=by
 have k:∀v∈wz2f.cells x,qzt v:=by
  unfold wz2f.cells;simp only[List.forall_mem_cons];exact⟨.bool _,.str _,.str _,.int _ _,fun _ h=>by cases h⟩
 exact k v h
theorem nr17(x:wz2m)(v:AVal)(h:v∈wz2m.cells x):qzt v:=by
 have k:∀v∈wz2m.cells x,qzt v:=by
  unfold wz2m.cells;simp only[List.forall_mem_cons];exact⟨.bool _,.str _,.str _,.int _ _,.int _ _,fun _ h=>by cases h⟩
 exact k v h
theorem nr18(x:wz2l)(v:AVal)(h:v∈wz2l.cells x):qzt v:=by
 have k:∀v∈wz2l.cells x,qzt v:=by
  unfold wz2l.cells;simp only[List.forall_mem_cons];exact⟨qzj (fun x v h=>nr1 x v h),.int _ _,fun _ h=>by cases h⟩
 exact k v h
theorem nr19(x:wz2j)(v:AVal)(h:v∈wz2j.cells x):qzt v:=by
 have k:∀v∈wz2j.cells x,qzt v:=by
  unfold wz2j.cells;simp only[List.forall_mem_cons];exact⟨.int _ _,.int _ _,fun _ h=>by cases h⟩
 exact k v h
theorem nr20(x:wz2i)(v:AVal)(h:v∈wz2i.cells x):qzt v:=by
 have k:∀v∈wz2i.cells x,qzt v:=by
  unfold wz2i.cells;simp only[List.forall_mem_cons];exact⟨.bool _,.str _,.str _,.int _ _,fun _ h=>by cases h⟩
 exact k v h
theorem nr21(x:wz2q)(v:AVal)(h:v∈wz2q.cells x):qzt v:=by
 have k:∀v∈wz2q.cells x,qzt v:=by
  unfold wz2q.cells;simp only[List.forall_mem_cons];exact⟨qzj (fun x v h=>nr7 x v h),.int _ _,fun _ h=>by cases h⟩
 exact k v h
theorem nr22(x:wz2o)(v:AVal)(h:v∈wz2o.cells x):qzt v:=by
 have k:∀v∈wz2o.cells x,qzt v:=by
  unfold wz2o.cells;simp only[List.forall_mem_cons];exact⟨qzj (fun x v h=>nr8 x v h),.int _ _,fun _ h=>by cases h⟩
 exact k v h
instance tabOk:TabOk where
 unmk i r:=match i,r with
  |0,r=>rfl
  |1,r=>rfl
  |2,r=>rfl
  |3,r=>rfl
  |4,r=>rfl
  |5,r=>rfl
  |6,r=>rfl
  |7,r=>rfl
  |8,r=>rfl
  |9,r=>rfl
  |10,r=>rfl
  |11,r=>rfl
  |12,r=>rfl
  |13,r=>rfl
  |14,r=>rfl
  |15,r=>rfl
  |16,r=>rfl
  |17,r=>rfl
  |18,r=>rfl
  |19,r=>rfl
  |20,r=>rfl
  |21,r=>rfl
  |22,r=>rfl
  |_+23,r=>rfl
 cells i x:=match i,x with
  |0,x=>(by kernel_rfl)
  |1,x=>(by kernel_rfl)
  |2,x=>(by kernel_rfl)
  |3,x=>(by kernel_rfl)
  |4,x=>(by kernel_rfl)
  |5,x=>(by kernel_rfl)
  |6,x=>(by kernel_rfl)
  |7,x=>(by kernel_rfl)
  |8,x=>(by kernel_rfl)
  |9,x=>(by kernel_rfl)
  |10,x=>(by kernel_rfl)
  |11,x=>(by kernel_rfl)
  |12,x=>(by kernel_rfl)
  |13,x=>(by kernel_rfl)
  |14,x=>(by kernel_rfl)
  |15,x=>(by kernel_rfl)
  |16,x=>(by kernel_rfl)
  |17,x=>(by kernel_rfl)
  |18,x=>(by kernel_rfl)
  |19,x=>(by kernel_rfl)
  |20,x=>(by kernel_rfl)
  |21,x=>(by kernel_rfl)
  |22,x=>(by kernel_rfl)
  |_+23,x=>(by kernel_rfl)
 nor i x v h:=match i,x,h with
  |0,x,h=>nr0 x v h
  |1,x,h=>nr1 x v h
  |2,x,h=>nr2 x v h
  |3,x,h=>nr3 x v h
  |4,x,h=>nr4 x v h
  |5,x,h=>nr5 x v h
  |6,x,h=>nr6 x v h
  |7,x,h=>nr7 x v h
  |8,x,h=>nr8 x v h
  |9,x,h=>nr9 x v h
  |10,x,h=>nr10 x v h
  |11,x,h=>nr11 x v h
  |12,x,h=>nr12 x v h
  |13,x,h=>nr13 x v h
  |14,x,h=>nr14 x v h
  |15,x,h=>nr15 x v h
  |16,x,h=>nr16 x v h
  |17,x,h=>nr17 x v h
  |18,x,h=>nr18 x v h
  |19,x,h=>nr19 x v h
  |20,x,h=>nr20 x v h
  |21,x,h=>nr21 x v h
  |22,x,h=>nr22 x v h
  |_+23,x,h=>(by cases h)
 pos i c h j e:=match i,h with
  |0,h=>(by subst e;simp[Tab.ls,tls]at h)
  |1,h=>(by subst e;simp[Tab.ls,tls]at h)
  |2,h=>(by subst e;simp[Tab.ls,tls]at h)
  |3,h=>(by subst e;simp[Tab.ls,tls]at h)
  |4,h=>(by subst e;simp[Tab.ls,tls]at h)
  |5,h=>(by subst e;simp[Tab.ls,tls]at h)
  |6,h=>(by subst e;simp[Tab.ls,tls]at h)
  |7,h=>(by subst e;simp[Tab.ls,tls]at h)
  |8,h=>(by subst e;simp[Tab.ls,tls]at h)
  |9,h=>(by subst e;simp[Tab.ls,tls]at h)
  |10,h=>(by subst e;simp[Tab.ls,tls]at h)
  |11,h=>(by subst e;simp[Tab.ls,tls]at h)
  |12,h=>(by subst e;simp[Tab.ls,tls]at h)
  |13,h=>(by subst e;simp[Tab.ls,tls]at h)
  |14,h=>(by subst e;simp[Tab.ls,tls]at h)
  |15,h=>(by subst e;simp[Tab.ls,tls]at h)
  |16,h=>(by subst e;simp[Tab.ls,tls]at h)
  |17,h=>(by subst e;simp[Tab.ls,tls]at h)
  |18,h=>(by subst e;simp[Tab.ls,tls]at h)
  |19,h=>(by subst e;simp[Tab.ls,tls]at h)
  |20,h=>(by subst e;simp[Tab.ls,tls]at h)
  |21,h=>(by subst e;simp[Tab.ls,tls]at h)
  |22,h=>(by subst e;simp[Tab.ls,tls]at h)
  |_+23,h=>(by subst e;cases h)
 aA i x:=match i,x with
  |0,x=>(by kernel_rfl)
  |1,x=>(by kernel_rfl)
  |2,x=>(by kernel_rfl)
  |3,x=>(by kernel_rfl)
  |4,x=>(by kernel_rfl)
  |5,x=>(by kernel_rfl)
  |6,x=>(by kernel_rfl)
  |_+7,x=>(by kernel_rfl)
 aR i x:=match i,x with
  |0,x=>(by kernel_rfl)
  |1,x=>(by kernel_rfl)
  |2,x=>(by kernel_rfl)
  |3,x=>(by kernel_rfl)
  |4,x=>(by kernel_rfl)
  |5,x=>(by kernel_rfl)
  |6,x=>(by kernel_rfl)
  |_+7,x=>(by kernel_rfl)
 kq i x y l h:=match i,x,y,l,h with
  |0,x,y,_,h=>(by cases h)
  |1,x,y,_,h=>(by cases h;exact⟨rfl,by kernel_rfl⟩)
  |2,x,y,_,h=>(by cases h;exact⟨rfl,by kernel_rfl⟩)
  |3,x,y,_,h=>(by cases h)
  |4,x,y,_,h=>(by cases h)
  |5,x,y,_,h=>(by cases h)
  |6,x,y,_,h=>(by cases h;exact⟨rfl,by kernel_rfl⟩)
  |7,x,y,_,h=>(by cases h;exact⟨rfl,by kernel_rfl⟩)
  |8,x,y,_,h=>(by cases h;exact⟨rfl,by kernel_rfl⟩)
  |9,x,y,_,h=>(by cases h;exact⟨rfl,by kernel_rfl⟩)
  |10,x,y,_,h=>(by cases h;exact⟨rfl,by kernel_rfl⟩)
  |11,x,y,_,h=>(by cases h;exact⟨rfl,by kernel_rfl⟩)
  |12,x,y,_,h=>(by cases h)
  |13,x,y,_,h=>(by cases h;exact⟨rfl,by kernel_rfl⟩)
  |14,x,y,_,h=>(by cases h;exact⟨rfl,by kernel_rfl⟩)
  |15,x,y,_,h=>(by cases h;exact⟨rfl,by kernel_rfl⟩)
  |16,x,y,_,h=>(by cases h;exact⟨rfl,by kernel_rfl⟩)
  |17,x,y,_,h=>(by cases h;exact⟨rfl,by kernel_rfl⟩)
  |18,x,y,_,h=>(by cases h)
  |19,x,y,_,h=>(by cases h;exact⟨rfl,by kernel_rfl⟩)
  |20,x,y,_,h=>(by cases h;exact⟨rfl,by kernel_rfl⟩)
  |21,x,y,_,h=>(by cases h)
  |22,x,y,_,h=>(by cases h)
  |_+23,x,y,_,h=>(by cases h)
end Go.Am

