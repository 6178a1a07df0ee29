/- Part F2: the functions of this seat as functions of plain values. No condition. -/
import Derived.Test.YtiaclogojhfmfaaGreatDoorT4
import Derived.Test.YtiaclogojhfmfaaGreatDoorF1
import Derived.Test.YtiaclogojhfmfaaGreatDoorChecked
set_option linter.unusedVariables false
namespace Go.Am
open Go.Proofs
def EE:Nat->AVal:=fun _=>.top
def jzn4.cells(x:jzn4):List AVal:=[.int .i64 x.Gauge,.int .i64 x.Seq,.int .i64 x.From,.int .i64 x.To,.int .i64 x.Stage,.int .i64 x.Known]
def jzpt.cells(x:jzpt):List AVal:=[slcV 6 jzn4.cells x.e0,slcV 6 jzn4.cells x.e1]
def qza.cells(x:qza):List AVal:=[.bool x.Neg,.str x.Num,.str x.Den]
def wz2g.cells(x:wz2g):List AVal:=[.int .i64 x.Stage,.bool x.Flow.Neg,.str x.Flow.Num,.str x.Flow.Den]
def wz2d.cells(x:wz2d):List AVal:=[slcV 4 wz2g.cells x.Points]
def jzn5.cells(x:jzn5):List AVal:=[.int .i64 x.Kind,.int .i64 x.Gauge,.int .i64 x.Seq,.int .i64 x.Known,.int .i64 x.From,.int .i64 x.To,.int .i64 x.Shift,slcV 4 wz2g.cells x.Curve.Points]
def wz2h.cells(x:wz2h):List AVal:=[.int .i64 x.From,.int .i64 x.To]
def jzoj.cells(x:jzoj):List AVal:=[.int .i64 x.Gauge,.int .i64 x.Ticks.From,.int .i64 x.Ticks.To,.int .i64 x.Known]
def jzos.cells(x:jzos):List AVal:=[.int .i64 x.R.Gauge,.int .i64 x.R.Seq,.int .i64 x.R.From,.int .i64 x.R.To,.int .i64 x.R.Stage,.int .i64 x.R.Known,.int .i64 x.V.Kind,.int .i64 x.V.Gauge,.int .i64 x.V.Seq,.int .i64 x.V.Known,.int .i64 x.V.From,.int .i64 x.V.To,.int .i64 x.V.Shift,slcV 4 wz2g.cells x.V.Curve.Points,.int .i64 x.Known]
def jzo8.cells(x:jzo8):List AVal:=[slcV 6 jzn4.cells x.e0,slcV 6 jzn4.cells x.e1,slcV 6 jzn4.cells x.e2]
def wz2w.cells(x:wz2w):List AVal:=[.int .i64 x.Stage,.int .i64 x.Ticks]
def wz3g.cells(x:wz3g):List AVal:=[.int .i64 x.From,.int .i64 x.To,slcV 2 wz2w.cells x.Table,.int .i64 x.Lo,.int .i64 x.Hi]
def jzok.cells(x:jzok):List AVal:=[.int .i64 x.T.From,.int .i64 x.T.To,.int .i64 x.E]
def jzn6.cells(x:jzn6):List AVal:=[.int .i64 x.t.From,.int .i64 x.t.To,.int .i64 x.stage]
def qzf.cells(x:qzf):List AVal:=[.bool x.neg,.str x.num,.str x.den]
def jzi.cells(x:jzi):List AVal:=[.str x.Q,.str x.R,.int .i64 x.E]
def vzs.cells(x:vzs):List AVal:=[.str x.S,.int .i64 x.E]
def jzoi.cells(x:jzoi):List AVal:=[slcV 6 jzn4.cells x.L,.int .i64 x.E]
def jzod.cells(x:jzod):List AVal:=[slcV 1 (cI .i64) x.L,.int .i64 x.E]
def jzoh.cells(x:jzoh):List AVal:=[slcV 8 jzn5.cells x.L,.int .i64 x.E]
def jzog.cells(x:jzog):List AVal:=[slcV 5 wz3g.cells x.L,.int .i64 x.E]
def jzn9.cells(x:jzn9):List AVal:=[slcV 2 wz2h.cells x.L,.int .i64 x.E]
def jzn7.cells(x:jzn7):List AVal:=[.int .i64 x.t.From,.int .i64 x.t.To,.int .i64 x.stage]
def tT:Nat->Type
 |0=>jzn4
 |1=>jzpt
 |2=>qza
 |3=>wz2g
 |4=>wz2d
 |5=>jzn5
 |6=>wz2h
 |7=>jzoj
 |8=>jzos
 |9=>jzo8
 |10=>wz2w
 |11=>wz3g
 |12=>jzok
 |13=>jzn6
 |14=>qzf
 |15=>jzi
 |16=>vzs
 |17=>jzoi
 |18=>jzod
 |19=>jzoh
 |20=>jzog
 |21=>jzn9
 |22=>jzn7
 |n+23=>Unit
def tFA:Nat->Type
 |0=>jzn4×jzn4
 |1=>jzn6
 |2=>jzn5×jzn5
 |3=>(List Int)×(List Int)
 |_=>Unit
def tFR:Nat->Type
 |0=>Int
 |1=>Bool
 |2=>Int
 |3=>(List Int)
 |_=>Unit
noncomputable def taA:(i:Nat)->tFA i->List AVal
 |0=>fun(x:jzn4×jzn4)=>[.agg (jzn4.cells x.1),.agg (jzn4.cells x.2)]
 |1=>fun(x:jzn6)=>[.agg (jzn6.cells x)]
 |2=>fun(x:jzn5×jzn5)=>[.agg (jzn5.cells x.1),.agg (jzn5.cells x.2)]
 |3=>fun(x:(List Int)×(List Int))=>[slcV 1 (cI .u32) x.1,slcV 1 (cI .u32) x.2]
 |n+4=>fun _=>[]
noncomputable def taR:(i:Nat)->tFR i->AVal
 |0=>fun(x:Int)=>.int .i64 x
 |1=>fun(x:Bool)=>.bool x
 |2=>fun(x:Int)=>.int .i64 x
 |3=>fun(x:(List Int))=>slcV 1 (cI .u32) x
 |n+4=>fun _=>.tup []
def tfa:Nat->List CT
 |0=>[(.us 0),(.us 0)]
 |1=>[(.us 13)]
 |2=>[(.us 5),(.us 5)]
 |3=>[(.slc (.int .u32)),(.slc (.int .u32))]
 |_=>[]
def tfr:Nat->List CT
 |0=>[(.int .i64)]
 |1=>[.bool]
 |2=>[(.int .i64)]
 |3=>[(.slc (.int .u32))]
 |_=>[]
noncomputable instance tabT:TabT:=⟨tT,EE,Tryz.prog,tFA,tFR,taA,taR⟩
def tls:Nat->List CT
 |0=>[(.int .i64),(.int .i64),(.int .i64),(.int .i64),(.int .i64),(.int .i64)]
 |1=>[(.slc (.us 0)),(.slc (.us 0))]
 |2=>[.bool,.str,.str]
 |3=>[(.int .i64),.bool,.str,.str]
 |4=>[(.slc (.us 3))]
 |5=>[(.int .i64),(.int .i64),(.int .i64),(.int .i64),(.int .i64),(.int .i64),(.int .i64),(.slc (.us 3))]
 |6=>[(.int .i64),(.int .i64)]
 |7=>[(.int .i64),(.int .i64),(.int .i64),(.int .i64)]
 |8=>[(.int .i64),(.int .i64),(.int .i64),(.int .i64),(.int .i64),(.int .i64),(.int .i64),(.int .i64),(.int .i64),(.int .i64),(.int .i64),(.int .i64),(.int .i64),(.slc (.us 3)),(.int .i64)]
 |9=>[(.slc (.us 0)),(.slc (.us 0)),(.slc (.us 0))]
 |10=>[(.int .i64),(.int .i64)]
 |11=>[(.int .i64),(.int .i64),(.slc (.us 10)),(.int .i64),(.int .i64)]
 |12=>[(.int .i64),(.int .i64),(.int .i64)]
 |13=>[(.int .i64),(.int .i64),(.int .i64)]
 |14=>[.bool,.str,.str]
 |15=>[.str,.str,(.int .i64)]
 |16=>[.str,(.int .i64)]
 |17=>[(.slc (.us 0)),(.int .i64)]
 |18=>[(.slc (.int .i64)),(.int .i64)]
 |19=>[(.slc (.us 5)),(.int .i64)]
 |20=>[(.slc (.us 11)),(.int .i64)]
 |21=>[(.slc (.us 6)),(.int .i64)]
 |22=>[(.int .i64),(.int .i64),(.int .i64)]
 |n+23=>[]
def tmk:(i:Nat)->Row (tls i)->tT i
 |0=>fun(r:Int×Int×Int×Int×Int×Int)=>(jzn4.mk r.1 r.2.1 r.2.2.1 r.2.2.2.1 r.2.2.2.2.1 r.2.2.2.2.2)
 |1=>fun(r:(List jzn4)×(List jzn4))=>(jzpt.mk r.1 r.2)
 |2=>fun(r:Bool×(List UInt8)×(List UInt8))=>(qza.mk r.1 r.2.1 r.2.2)
 |3=>fun(r:Int×Bool×(List UInt8)×(List UInt8))=>(wz2g.mk r.1 (qza.mk r.2.1 r.2.2.1 r.2.2.2))
 |4=>fun(r:(List wz2g))=>(wz2d.mk r)
 |5=>fun(r:Int×Int×Int×Int×Int×Int×Int×(List wz2g))=>(jzn5.mk r.1 r.2.1 r.2.2.1 r.2.2.2.1 r.2.2.2.2.1 r.2.2.2.2.2.1 r.2.2.2.2.2.2.1 (wz2d.mk r.2.2.2.2.2.2.2))
 |6=>fun(r:Int×Int)=>(wz2h.mk r.1 r.2)
 |7=>fun(r:Int×Int×Int×Int)=>(jzoj.mk r.1 (wz2h.mk r.2.1 r.2.2.1) r.2.2.2)
 |8=>fun(r:Int×Int×Int×Int×Int×Int×Int×Int×Int×Int×Int×Int×Int×(List wz2g)×Int)=>(jzos.mk (jzn4.mk r.1 r.2.1 r.2.2.1 r.2.2.2.1 r.2.2.2.2.1 r.2.2.2.2.2.1) (jzn5.mk r.2.2.2.2.2.2.1 r.2.2.2.2.2.2.2.1 r.2.2.2.2.2.2.2.2.1 r.2.2.2.2.2.2.2.2.2.1 r.2.2.2.2.2.2.2.2.2.2.1 r.2.2.2.2.2.2.2.2.2.2.2.1 r.2.2.2.2.2.2.2.2.2.2.2.2.1 (wz2d.mk r.2.2.2.2.2.2.2.2.2.2.2.2.2.1)) r.2.2.2.2.2.2.2.2.2.2.2.2.2.2)
 |9=>fun(r:(List jzn4)×(List jzn4)×(List jzn4))=>(jzo8.mk r.1 r.2.1 r.2.2)
 |10=>fun(r:Int×Int)=>(wz2w.mk r.1 r.2)
 |11=>fun(r:Int×Int×(List wz2w)×Int×Int)=>(wz3g.mk r.1 r.2.1 r.2.2.1 r.2.2.2.1 r.2.2.2.2)
 |12=>fun(r:Int×Int×Int)=>(jzok.mk (wz2h.mk r.1 r.2.1) r.2.2)
 |13=>fun(r:Int×Int×Int)=>(jzn6.mk (wz2h.mk r.1 r.2.1) r.2.2)
 |14=>fun(r:Bool×(List UInt8)×(List UInt8))=>(qzf.mk r.1 r.2.1 r.2.2)
 |15=>fun(r:(List UInt8)×(List UInt8)×Int)=>(jzi.mk r.1 r.2.1 r.2.2)
 |16=>fun(r:(List UInt8)×Int)=>(vzs.mk r.1 r.2)
 |17=>fun(r:(List jzn4)×Int)=>(jzoi.mk r.1 r.2)
 |18=>fun(r:(List Int)×Int)=>(jzod.mk r.1 r.2)
 |19=>fun(r:(List jzn5)×Int)=>(jzoh.mk r.1 r.2)
 |20=>fun(r:(List wz3g)×Int)=>(jzog.mk r.1 r.2)
 |21=>fun(r:(List wz2h)×Int)=>(jzn9.mk r.1 r.2)
 |22=>fun(r:Int×Int×Int)=>(jzn7.mk (wz2h.mk r.1 r.2.1) r.2.2)
 |n+23=>fun _=>()
def tun:(i:Nat)->tT i->Row (tls i)
 |0=>fun(x:jzn4)=>(x.Gauge,x.Seq,x.From,x.To,x.Stage,x.Known)
 |1=>fun(x:jzpt)=>(x.e0,x.e1)
 |2=>fun(x:qza)=>(x.Neg,x.Num,x.Den)
 |3=>fun(x:wz2g)=>(x.Stage,x.Flow.Neg,x.Flow.Num,x.Flow.Den)
 |4=>fun(x:wz2d)=>(x.Points)
 |5=>fun(x:jzn5)=>(x.Kind,x.Gauge,x.Seq,x.Known,x.From,x.To,x.Shift,x.Curve.Points)
 |6=>fun(x:wz2h)=>(x.From,x.To)
 |7=>fun(x:jzoj)=>(x.Gauge,x.Ticks.From,x.Ticks.To,x.Known)
 |8=>fun(x:jzos)=>(x.R.Gauge,x.R.Seq,x.R.From,x.R.To,x.R.Stage,x.R.Known,x.V.Kind,x.V.Gauge,x.V.Seq,x.V.Known,x.V.From,x.V.To,x.V.Shift,x.V.Curve.Points,x.Known)
 |9=>fun(x:jzo8)=>(x.e0,x.e1,x.e2)
 |10=>fun(x:wz2w)=>(x.Stage,x.Ticks)
 |11=>fun(x:wz3g)=>(x.From,x.To,x.Table,x.Lo,x.Hi)
 |12=>fun(x:jzok)=>(x.T.From,x.T.To,x.E)
 |13=>fun(x:jzn6)=>(x.t.From,x.t.To,x.stage)
 |14=>fun(x:qzf)=>(x.neg,x.num,x.den)
 |15=>fun(x:jzi)=>(x.Q,x.R,x.E)
 |16=>fun(x:vzs)=>(x.S,x.E)
 |17=>fun(x:jzoi)=>(x.L,x.E)
 |18=>fun(x:jzod)=>(x.L,x.E)
 |19=>fun(x:jzoh)=>(x.L,x.E)
 |20=>fun(x:jzog)=>(x.L,x.E)
 |21=>fun(x:jzn9)=>(x.L,x.E)
 |22=>fun(x:jzn7)=>(x.t.From,x.t.To,x.stage)
 |n+23=>fun _=>()
@[reducible] def tin:(i:Nat)->Inhabited (tT i)
 |0=>(inferInstance:Inhabited jzn4)
 |1=>(inferInstance:Inhabited jzpt)
 |2=>(inferInstance:Inhabited qza)
 |3=>(inferInstance:Inhabited wz2g)
 |4=>(inferInstance:Inhabited wz2d)
 |5=>(inferInstance:Inhabited jzn5)
 |6=>(inferInstance:Inhabited wz2h)
 |7=>(inferInstance:Inhabited jzoj)
 |8=>(inferInstance:Inhabited jzos)
 |9=>(inferInstance:Inhabited jzo8)
 |10=>(inferInstance:Inhabited wz2w)
 |11=>(inferInstance:Inhabited wz3g)
 |12=>(inferInstance:Inhabited jzok)
 |13=>(inferInstance:Inhabited jzn6)
 |14=>(inferInstance:Inhabited qzf)
 |15=>(inferInstance:Inhabited jzi)
 |16=>(inferInstance:Inhabited vzs)
 |17=>(inferInstance:Inhabited jzoi)
 |18=>(inferInstance:Inhabited jzod)
 |19=>(inferInstance:Inhabited jzoh)
 |20=>(inferInstance:Inhabited jzog)
 |21=>(inferInstance:Inhabited jzn9)
 |22=>(inferInstance:Inhabited jzn7)
 |n+23=>(inferInstance:Inhabited Unit)
def tca:(i:Nat)->tT i->List AVal
 |0=>jzn4.cells
 |1=>jzpt.cells
 |2=>qza.cells
 |3=>wz2g.cells
 |4=>wz2d.cells
 |5=>jzn5.cells
 |6=>wz2h.cells
 |7=>jzoj.cells
 |8=>jzos.cells
 |9=>jzo8.cells
 |10=>wz2w.cells
 |11=>wz3g.cells
 |12=>jzok.cells
 |13=>jzn6.cells
 |14=>qzf.cells
 |15=>jzi.cells
 |16=>vzs.cells
 |17=>jzoi.cells
 |18=>jzod.cells
 |19=>jzoh.cells
 |20=>jzog.cells
 |21=>jzn9.cells
 |22=>jzn7.cells
 |n+23=>fun _=>[]
def tkk:Nat->Option (List Nat)
 |0=>some [1,1,1,1,1,1]
 |2=>some [0,2,2]
 |3=>some [1,0,2,2]
 |6=>some [1,1]
 |7=>some [1,1,1,1]
 |10=>some [1,1]
 |12=>some [1,1,1]
 |13=>some [1,1,1]
 |14=>some [0,2,2]
 |15=>some [2,2,1]
 |16=>some [2,1]
 |22=>some [1,1,1]
 |_=>none
def tke:(i:Nat)->tT i->tT i->Bool
 |0=>jzrs
 |1=>fun _ _=>true
 |2=>wz2k
 |3=>wz9t
 |4=>fun _ _=>true
 |5=>fun _ _=>true
 |6=>wz9x
 |7=>jzrq
 |8=>fun _ _=>true
 |9=>fun _ _=>true
 |10=>jza2
 |11=>fun _ _=>true
 |12=>jzrw
 |13=>jzrl
 |14=>wz8j
 |15=>wz78
 |16=>wz86
 |17=>fun _ _=>true
 |18=>fun _ _=>true
 |19=>fun _ _=>true
 |20=>fun _ _=>true
 |21=>fun _ _=>true
 |22=>jzq9
 |n+23=>fun _ _=>true
theorem teA:(i:Nat)->Row (tfa i)=tFA i
 |0=>rfl
 |1=>rfl
 |2=>rfl
 |3=>rfl
 |n+4=>rfl
theorem teR:(i:Nat)->Row (tfr i)=tFR i
 |0=>rfl
 |1=>rfl
 |2=>rfl
 |3=>rfl
 |n+4=>rfl
noncomputable instance tab:Tab:=⟨tls,tmk,tun,tin,tca,tfa,tfr,teA,teR,tkk,tke⟩
theorem nr0(x:jzn4)(v:AVal)(h:v∈jzn4.cells x):qzt v:=by
 have k:∀v∈jzn4.cells x,qzt v:=by unfold jzn4.cells;simp only[Ga8];exact⟨.int _ _,.int _ _,.int _ _,.int _ _,.int _ _,.int _ _,fun _ h=>by cases h⟩
 exact k v h
theorem nr1(x:jzpt)(v:AVal)(h:v∈jzpt.cells x):qzt v:=by
 have k:∀v∈jzpt.cells x,qzt v:=by unfold jzpt.cells;simp only[Ga8];exact⟨qzj (fun x v h=>nr0 x v h),qzj (fun x v h=>nr0 x v h),fun _ h=>by cases h⟩
 exact k v h
theorem nr2(x:qza)(v:AVal)(h:v∈qza.cells x):qzt v:=by
 have k:∀v∈qza.cells x,qzt v:=by unfold qza.cells;simp only[Ga8];exact⟨.bool _,.str _,.str _,fun _ h=>by cases h⟩
 exact k v h
theorem nr3(x:wz2g)(v:AVal)(h:v∈wz2g.cells x):qzt v:=by
 have k:∀v∈wz2g.cells x,qzt v:=by unfold wz2g.cells;simp only[Ga8];exact⟨.int _ _,.bool _,.str _,.str _,fun _ h=>by cases h⟩
 exact k v h
theorem nr4(x:wz2d)(v:AVal)(h:v∈wz2d.cells x):qzt v:=by
 have k:∀v∈wz2d.cells x,qzt v:=by unfold wz2d.cells;simp only[Ga8];exact⟨qzj (fun x v h=>nr3 x v h),fun _ h=>by cases h⟩
 exact k v h
theorem nr5(x:jzn5)(v:AVal)(h:v∈jzn5.cells x):qzt v:=by
 have k:∀v∈jzn5.cells x,qzt v:=by unfold jzn5.cells;simp only[Ga8];exact⟨.int _ _,.int _ _,.int _ _,.int _ _,.int _ _,.int _ _,.int _ _,qzj (fun x v h=>nr3 x v h),fun _ h=>by cases h⟩
 exact k v h
theorem nr6(x:wz2h)(v:AVal)(h:v∈wz2h.cells x):qzt v:=by
 have k:∀v∈wz2h.cells x,qzt v:=by unfold wz2h.cells;simp only[Ga8];exact⟨.int _ _,.int _ _,fun _ h=>by cases h⟩
 exact k v h
theorem nr7(x:jzoj)(v:AVal)(h:v∈jzoj.cells x):qzt v:=by
 have k:∀v∈jzoj.cells x,qzt v:=by unfold jzoj.cells;simp only[Ga8];exact⟨.int _ _,.int _ _,.int _ _,.int _ _,fun _ h=>by cases h⟩
 exact k v h
theorem nr8(x:jzos)(v:AVal)(h:v∈jzos.cells x):qzt v:=by
 have k:∀v∈jzos.cells x,qzt v:=by unfold jzos.cells;simp only[Ga8];exact⟨.int _ _,.int _ _,.int _ _,.int _ _,.int _ _,.int _ _,.int _ _,.int _ _,.int _ _,.int _ _,.int _ _,.int _ _,.int _ _,qzj (fun x v h=>nr3 x v h),.int _ _,fun _ h=>by cases h⟩
 exact k v h
theorem nr9(x:jzo8)(v:AVal)(h:v∈jzo8.cells x):qzt v:=by
 have k:∀v∈jzo8.cells x,qzt v:=by unfold jzo8.cells;simp only[Ga8];exact⟨qzj (fun x v h=>nr0 x v h),qzj (fun x v h=>nr0 x v h),qzj (fun x v h=>nr0 x v h),fun _ h=>by cases h⟩
 exact k v h
theorem nr10(x:wz2w)(v:AVal)(h:v∈wz2w.cells x):qzt v:=by
 have k:∀v∈wz2w.cells x,qzt v:=by unfold wz2w.cells;simp only[Ga8];exact⟨.int _ _,.int _ _,fun _ h=>by cases h⟩
 exact k v h
theorem nr11(x:wz3g)(v:AVal)(h:v∈wz3g.cells x):qzt v:=by
 have k:∀v∈wz3g.cells x,qzt v:=by unfold wz3g.cells;simp only[Ga8];exact⟨.int _ _,.int _ _,qzj (fun x v h=>nr10 x v h),.int _ _,.int _ _,fun _ h=>by cases h⟩
 exact k v h
theorem nr12(x:jzok)(v:AVal)(h:v∈jzok.cells x):qzt v:=by
 have k:∀v∈jzok.cells x,qzt v:=by unfold jzok.cells;simp only[Ga8];exact⟨.int _ _,.int _ _,.int _ _,fun _ h=>by cases h⟩
 exact k v h
theorem nr13(x:jzn6)(v:AVal)(h:v∈jzn6.cells x):qzt v:=by
 have k:∀v∈jzn6.cells x,qzt v:=by unfold jzn6.cells;simp only[Ga8];exact⟨.int _ _,.int _ _,.int _ _,fun _ h=>by cases h⟩
 exact k v h
theorem nr14(x:qzf)(v:AVal)(h:v∈qzf.cells x):qzt v:=by
 have k:∀v∈qzf.cells x,qzt v:=by unfold qzf.cells;simp only[Ga8];exact⟨.bool _,.str _,.str _,fun _ h=>by cases h⟩
 exact k v h
theorem nr15(x:jzi)(v:AVal)(h:v∈jzi.cells x):qzt v:=by
 have k:∀v∈jzi.cells x,qzt v:=by unfold jzi.cells;simp only[Ga8];exact⟨.str _,.str _,.int _ _,fun _ h=>by cases h⟩
 exact k v h
theorem nr16(x:vzs)(v:AVal)(h:v∈vzs.cells x):qzt v:=by
 have k:∀v∈vzs.cells x,qzt v:=by unfold vzs.cells;simp only[Ga8];exact⟨.str _,.int _ _,fun _ h=>by cases h⟩
 exact k v h
theorem nr17(x:jzoi)(v:AVal)(h:v∈jzoi.cells x):qzt v:=by
 have k:∀v∈jzoi.cells x,qzt v:=by unfold jzoi.cells;simp only[Ga8];exact⟨qzj (fun x v h=>nr0 x v h),.int _ _,fun _ h=>by cases h⟩
 exact k v h
theorem nr18(x:jzod)(v:AVal)(h:v∈jzod.cells x):qzt v:=by
 have k:∀v∈jzod.cells x,qzt v:=by unfold jzod.cells;simp only[Ga8];exact⟨qzj (fun x v h=>qz1 v h),.int _ _,fun _ h=>by cases h⟩
 exact k v h
theorem nr19(x:jzoh)(v:AVal)(h:v∈jzoh.cells x):qzt v:=by
 have k:∀v∈jzoh.cells x,qzt v:=by unfold jzoh.cells;simp only[Ga8];exact⟨qzj (fun x v h=>nr5 x v h),.int _ _,fun _ h=>by cases h⟩
 exact k v h
theorem nr20(x:jzog)(v:AVal)(h:v∈jzog.cells x):qzt v:=by
 have k:∀v∈jzog.cells x,qzt v:=by unfold jzog.cells;simp only[Ga8];exact⟨qzj (fun x v h=>nr11 x v h),.int _ _,fun _ h=>by cases h⟩
 exact k v h
theorem nr21(x:jzn9)(v:AVal)(h:v∈jzn9.cells x):qzt v:=by
 have k:∀v∈jzn9.cells x,qzt v:=by unfold jzn9.cells;simp only[Ga8];exact⟨qzj (fun x v h=>nr6 x v h),.int _ _,fun _ h=>by cases h⟩
 exact k v h
theorem nr22(x:jzn7)(v:AVal)(h:v∈jzn7.cells x):qzt v:=by
 have k:∀v∈jzn7.cells x,qzt v:=by unfold jzn7.cells;simp only[Ga8];exact⟨.int _ _,.int _ _,.int _ _,fun _ h=>by cases h⟩
 exact k v h
instance tabOk:TabOk where
 unmk i r:=match i,r with
  |0,r=>rfl
  |1,r=>rfl
  |2,r=>rfl
  |3,r=>rfl
  |4,r=>rfl
  |5,r=>rfl
  |6,r=>rfl
  |7,r=>rfl
  |8,r=>rfl
  |9,r=>rfl
  |10,r=>rfl
  |11,r=>rfl
  |12,r=>rfl
  |13,r=>rfl
  |14,r=>rfl
  |15,r=>rfl
  |16,r=>rfl
  |17,r=>rfl
  |18,r=>rfl
  |19,r=>rfl
  |20,r=>rfl
  |21,r=>rfl
  |22,r=>rfl
  |_+23,r=>rfl
 cells i x:=match i,x with
  |0,x=>(by kernel_rfl)
  |1,x=>(by kernel_rfl)
  |2,x=>(by kernel_rfl)
  |3,x=>(by kernel_rfl)
  |4,x=>(by kernel_rfl)
  |5,x=>(by kernel_rfl)
  |6,x=>(by kernel_rfl)
  |7,x=>(by kernel_rfl)
  |8,x=>(by kernel_rfl)
  |9,x=>(by kernel_rfl)
  |10,x=>(by kernel_rfl)
  |11,x=>(by kernel_rfl)
  |12,x=>(by kernel_rfl)
  |13,x=>(by kernel_rfl)
  |14,x=>(by kernel_rfl)
  |15,x=>(by kernel_rfl)
  |16,x=>(by kernel_rfl)
  |17,x=>(by kernel_rfl)
  |18,x=>(by kernel_rfl)
  |19,x=>(by kernel_rfl)
  |20,x=>(by kernel_rfl)
  |21,x=>(by kernel_rfl)
  |22,x=>(by kernel_rfl)
  |_+23,x=>(by kernel_rfl)
 nor i x v h:=match i,x,h with
  |0,x,h=>nr0 x v h
  |1,x,h=>nr1 x v h
  |2,x,h=>nr2 x v h
  |3,x,h=>nr3 x v h
  |4,x,h=>nr4 x v h
  |5,x,h=>nr5 x v h
  |6,x,h=>nr6 x v h
  |7,x,h=>nr7 x v h
  |8,x,h=>nr8 x v h
  |9,x,h=>nr9 x v h
  |10,x,h=>nr10 x v h
  |11,x,h=>nr11 x v h
  |12,x,h=>nr12 x v h
  |13,x,h=>nr13 x v h
  |14,x,h=>nr14 x v h
  |15,x,h=>nr15 x v h
  |16,x,h=>nr16 x v h
  |17,x,h=>nr17 x v h
  |18,x,h=>nr18 x v h
  |19,x,h=>nr19 x v h
  |20,x,h=>nr20 x v h
  |21,x,h=>nr21 x v h
  |22,x,h=>nr22 x v h
  |_+23,x,h=>(by cases h)
 pos i c h j e:=match i,h with
  |0,h=>(by subst e;simp[Tab.ls,tls]at h)
  |1,h=>(by subst e;simp[Tab.ls,tls]at h)
  |2,h=>(by subst e;simp[Tab.ls,tls]at h)
  |3,h=>(by subst e;simp[Tab.ls,tls]at h)
  |4,h=>(by subst e;simp[Tab.ls,tls]at h)
  |5,h=>(by subst e;simp[Tab.ls,tls]at h)
  |6,h=>(by subst e;simp[Tab.ls,tls]at h)
  |7,h=>(by subst e;simp[Tab.ls,tls]at h)
  |8,h=>(by subst e;simp[Tab.ls,tls]at h)
  |9,h=>(by subst e;simp[Tab.ls,tls]at h)
  |10,h=>(by subst e;simp[Tab.ls,tls]at h)
  |11,h=>(by subst e;simp[Tab.ls,tls]at h)
  |12,h=>(by subst e;simp[Tab.ls,tls]at h)
  |13,h=>(by subst e;simp[Tab.ls,tls]at h)
  |14,h=>(by subst e;simp[Tab.ls,tls]at h)
  |15,h=>(by subst e;simp[Tab.ls,tls]at h)
  |16,h=>(by subst e;simp[Tab.ls,tls]at h)
  |17,h=>(by subst e;simp[Tab.ls,tls]at h)
  |18,h=>(by subst e;simp[Tab.ls,tls]at h)
  |19,h=>(by subst e;simp[Tab.ls,tls]at h)
  |20,h=>(by subst e;simp[Tab.ls,tls]at h)
  |21,h=>(by subst e;simp[Tab.ls,tls]at h)
  |22,h=>(by subst e;simp[Tab.ls,tls]at h)
  |_+23,h=>(by subst e;cases h)
 aA i x:=match i,x with
  |0,x=>(by kernel_rfl)
  |1,x=>(by kernel_rfl)
  |2,x=>(by kernel_rfl)
  |3,x=>(by kernel_rfl)
  |_+4,x=>(by kernel_rfl)
 aR i x:=match i,x with
  |0,x=>(by kernel_rfl)
  |1,x=>(by kernel_rfl)
  |2,x=>(by kernel_rfl)
  |3,x=>(by kernel_rfl)
  |_+4,x=>(by kernel_rfl)
 kq i x y l h:=match i,x,y,l,h with
  |0,x,y,_,h=>(by cases h;exact⟨rfl,by kernel_rfl⟩)
  |1,x,y,_,h=>(by cases h)
  |2,x,y,_,h=>(by cases h;exact⟨rfl,by kernel_rfl⟩)
  |3,x,y,_,h=>(by cases h;exact⟨rfl,by kernel_rfl⟩)
  |4,x,y,_,h=>(by cases h)
  |5,x,y,_,h=>(by cases h)
  |6,x,y,_,h=>(by cases h;exact⟨rfl,by kernel_rfl⟩)
  |7,x,y,_,h=>(by cases h;exact⟨rfl,by kernel_rfl⟩)
  |8,x,y,_,h=>(by cases h)
  |9,x,y,_,h=>(by cases h)
  |10,x,y,_,h=>(by cases h;exact⟨rfl,by kernel_rfl⟩)
  |11,x,y,_,h=>(by cases h)
  |12,x,y,_,h=>(by cases h;exact⟨rfl,by kernel_rfl⟩)
  |13,x,y,_,h=>(by cases h;exact⟨rfl,by kernel_rfl⟩)
  |14,x,y,_,h=>(by cases h;exact⟨rfl,by kernel_rfl⟩)
  |15,x,y,_,h=>(by cases h;exact⟨rfl,by kernel_rfl⟩)
  |16,x,y,_,h=>(by cases h;exact⟨rfl,by kernel_rfl⟩)
  |17,x,y,_,h=>(by cases h)
  |18,x,y,_,h=>(by cases h)
  |19,x,y,_,h=>(by cases h)
  |20,x,y,_,h=>(by cases h)
  |21,x,y,_,h=>(by cases h)
  |22,x,y,_,h=>(by cases h;exact⟨rfl,by kernel_rfl⟩)
  |_+23,x,y,_,h=>(by cases h)
end Go.Am

