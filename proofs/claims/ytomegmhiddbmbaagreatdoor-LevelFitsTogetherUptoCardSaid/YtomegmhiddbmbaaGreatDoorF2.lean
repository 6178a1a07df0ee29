/- Part F2: the functions of this seat as functions of plain values. No condition. -/
import Derived.Test.YtomegmhiddbmbaaGreatDoorT4
import Derived.Test.YtomegmhiddbmbaaGreatDoorF1
import Derived.Test.YtomegmhiddbmbaaGreatDoorChecked
set_option linter.unusedVariables false
namespace Go.Am
open Go.Proofs
def EE:Nat->Aa:=fun _=>.top
def Au.cells(x:Au):List Aa:=[.int .i64 x.From,slcV 1 (cI .i64) x.Stages]
def Ag.cells(x:Ag):List Aa:=[.bool x.Neg,.str x.Num,.str x.Den]
def AN.cells(x:AN):List Aa:=[.int .i64 x.Stage,.bool x.Flow.Neg,.str x.Flow.Num,.str x.Flow.Den]
def AK.cells(x:AK):List Aa:=[slcV 4 AN.cells x.Points]
def Aj.cells(x:Aj):List Aa:=[.int .i64 x.From,.int .i64 x.To,.bool x.Weight.Neg,.str x.Weight.Num,.str x.Weight.Den,.int .i64 x.Datum,slcV 4 AN.cells x.Curve.Points]
def Ba.cells(x:Ba):List Aa:=[.int .i64 x.History.From,slcV 1 (cI .i64) x.History.Stages,slcV 7 Aj.cells x.Spans,.bool x.Level.Neg,.str x.Level.Num,.str x.Level.Den]
def Cq.cells(x:Cq):List Aa:=[.int .u8 x.e0,.int .u8 x.e1,.int .u8 x.e2]
def AI.cells(x:AI):List Aa:=[.bool x.Flow.Neg,.str x.Flow.Num,.str x.Flow.Den,.int .i64 x.Ticks]
def AO.cells(x:AO):List Aa:=[.int .i64 x.From,.int .i64 x.To]
def Bc.cells(x:Bc):List Aa:=[.bool x.neg,.str x.num,.str x.den]
def Cr.cells(x:Cr):List Aa:=[.int .i64 x.e0,.int .i64 x.e1]
def BB.cells(x:BB):List Aa:=[.int .i64 x.Stage,.int .i64 x.Ticks]
def A9.cells(x:A9):List Aa:=[.int .i64 x.From,.int .i64 x.To,slcV 2 BB.cells x.Table,.int .i64 x.Lo,.int .i64 x.Hi]
def Fx.cells(x:Fx):List Aa:=[.str x.Q,.str x.R,.int .i64 x.E]
def Em.cells(x:Em):List Aa:=[.str x.S,.int .i64 x.E]
def EF.cells(x:EF):List Aa:=[.bool x.A.Neg,.str x.A.Num,.str x.A.Den,.int .i64 x.E]
def Bd.cells(x:Bd):List Aa:=[.bool x.Flow.Neg,.str x.Flow.Num,.str x.Flow.Den,.int .i64 x.Tick]
def Cs.cells(x:Cs):List Aa:=[.bool x.X.Flow.Neg,.str x.X.Flow.Num,.str x.X.Flow.Den,.int .i64 x.X.Tick,.int .i64 x.E]
def CA.cells(x:CA):List Aa:=[slcV 3 Ag.cells x.L,.int .i64 x.E]
def Ct.cells(x:Ct):List Aa:=[.int .i64 x.N,.int .i64 x.E]
def Cu.cells(x:Cu):List Aa:=[.bool x.F.Neg,.str x.F.Num,.str x.F.Den,.int .i64 x.E]
def CB.cells(x:CB):List Aa:=[slcV 4 AI.cells x.L,.int .i64 x.E]
def CC.cells(x:CC):List Aa:=[slcV 2 AO.cells x.L,.int .i64 x.E]
def tT:Nat->Type
 |0=>Au
 |1=>Ag
 |2=>AN
 |3=>AK
 |4=>Aj
 |5=>Ba
 |6=>Cq
 |7=>AI
 |8=>AO
 |9=>Bc
 |10=>Cr
 |11=>BB
 |12=>A9
 |13=>Fx
 |14=>Em
 |15=>EF
 |16=>Bd
 |17=>Cs
 |18=>CA
 |19=>Ct
 |20=>Cu
 |21=>CB
 |22=>CC
 |n+23=>Unit
def tFA:Nat->Type
 |0=>AI
 |1=>Int×Ag
 |2=>Ag×Ag
 |3=>Int
 |4=>(List Int)×(List Int)
 |5=>Bc
 |6=>Ag×Ag
 |_=>Unit
def tFR:Nat->Type
 |0=>Bool
 |1=>Bool
 |2=>Bool
 |3=>Bool
 |4=>(List Int)
 |5=>Bc
 |6=>Int
 |_=>Unit
noncomputable def taA:(i:Nat)->tFA i->List Aa
 |0=>fun(x:AI)=>[.agg (AI.cells x)]
 |1=>fun(x:Int×Ag)=>[.int .i64 x.1,.agg (Ag.cells x.2)]
 |2=>fun(x:Ag×Ag)=>[.agg (Ag.cells x.1),.agg (Ag.cells x.2)]
 |3=>fun(x:Int)=>[.int .i64 x]
 |4=>fun(x:(List Int)×(List Int))=>[slcV 1 (cI .u32) x.1,slcV 1 (cI .u32) x.2]
 |5=>fun(x:Bc)=>[.agg (Bc.cells x)]
 |6=>fun(x:Ag×Ag)=>[.agg (Ag.cells x.1),.agg (Ag.cells x.2)]
 |n+7=>fun _=>[]
noncomputable def taR:(i:Nat)->tFR i->Aa
 |0=>fun(x:Bool)=>.bool x
 |1=>fun(x:Bool)=>.bool x
 |2=>fun(x:Bool)=>.bool x
 |3=>fun(x:Bool)=>.bool x
 |4=>fun(x:(List Int))=>slcV 1 (cI .u32) x
 |5=>fun(x:Bc)=>.agg (Bc.cells x)
 |6=>fun(x:Int)=>.int .i64 x
 |n+7=>fun _=>.tup []
def tfa:Nat->List CT
 |0=>[(.us 7)]
 |1=>[(.int .i64),(.us 1)]
 |2=>[(.us 1),(.us 1)]
 |3=>[(.int .i64)]
 |4=>[(.slc (.int .u32)),(.slc (.int .u32))]
 |5=>[(.us 9)]
 |6=>[(.us 1),(.us 1)]
 |_=>[]
def tfr:Nat->List CT
 |0=>[.bool]
 |1=>[.bool]
 |2=>[.bool]
 |3=>[.bool]
 |4=>[(.slc (.int .u32))]
 |5=>[(.us 9)]
 |6=>[(.int .i64)]
 |_=>[]
noncomputable instance tabT:TabT:=⟨tT,EE,Tryz.prog,tFA,tFR,taA,taR⟩
def tls:Nat->List CT
 |0=>[(.int .i64),(.slc (.int .i64))]
 |1=>[.bool,.str,.str]
 |2=>[(.int .i64),.bool,.str,.str]
 |3=>[(.slc (.us 2))]
 |4=>[(.int .i64),(.int .i64),.bool,.str,.str,(.int .i64),(.slc (.us 2))]
 |5=>[(.int .i64),(.slc (.int .i64)),(.slc (.us 4)),.bool,.str,.str]
 |6=>[(.int .u8),(.int .u8),(.int .u8)]
 |7=>[.bool,.str,.str,(.int .i64)]
 |8=>[(.int .i64),(.int .i64)]
 |9=>[.bool,.str,.str]
 |10=>[(.int .i64),(.int .i64)]
 |11=>[(.int .i64),(.int .i64)]
 |12=>[(.int .i64),(.int .i64),(.slc (.us 11)),(.int .i64),(.int .i64)]
 |13=>[.str,.str,(.int .i64)]
 |14=>[.str,(.int .i64)]
 |15=>[.bool,.str,.str,(.int .i64)]
 |16=>[.bool,.str,.str,(.int .i64)]
 |17=>[.bool,.str,.str,(.int .i64),(.int .i64)]
 |18=>[(.slc (.us 1)),(.int .i64)]
 |19=>[(.int .i64),(.int .i64)]
 |20=>[.bool,.str,.str,(.int .i64)]
 |21=>[(.slc (.us 7)),(.int .i64)]
 |22=>[(.slc (.us 8)),(.int .i64)]
 |n+23=>[]
def tmk:(i:Nat)->Row (tls i)->tT i
 |0=>fun(r:Int×(List Int))=>(Au.mk r.1 r.2)
 |1=>fun(r:Bool×(List UInt8)×(List UInt8))=>(Ag.mk r.1 r.2.1 r.2.2)
 |2=>fun(r:Int×Bool×(List UInt8)×(List UInt8))=>(AN.mk r.1 (Ag.mk r.2.1 r.2.2.1 r.2.2.2))
 |3=>fun(r:(List AN))=>(AK.mk r)
 |4=>fun(r:Int×Int×Bool×(List UInt8)×(List UInt8)×Int×(List AN))=>(Aj.mk r.1 r.2.1 (Ag.mk r.2.2.1 r.2.2.2.1 r.2.2.2.2.1) r.2.2.2.2.2.1 (AK.mk r.2.2.2.2.2.2))
 |5=>fun(r:Int×(List Int)×(List Aj)×Bool×(List UInt8)×(List UInt8))=>(Ba.mk (Au.mk r.1 r.2.1) r.2.2.1 (Ag.mk r.2.2.2.1 r.2.2.2.2.1 r.2.2.2.2.2))
 |6=>fun(r:Int×Int×Int)=>(Cq.mk r.1 r.2.1 r.2.2)
 |7=>fun(r:Bool×(List UInt8)×(List UInt8)×Int)=>(AI.mk (Ag.mk r.1 r.2.1 r.2.2.1) r.2.2.2)
 |8=>fun(r:Int×Int)=>(AO.mk r.1 r.2)
 |9=>fun(r:Bool×(List UInt8)×(List UInt8))=>(Bc.mk r.1 r.2.1 r.2.2)
 |10=>fun(r:Int×Int)=>(Cr.mk r.1 r.2)
 |11=>fun(r:Int×Int)=>(BB.mk r.1 r.2)
 |12=>fun(r:Int×Int×(List BB)×Int×Int)=>(A9.mk r.1 r.2.1 r.2.2.1 r.2.2.2.1 r.2.2.2.2)
 |13=>fun(r:(List UInt8)×(List UInt8)×Int)=>(Fx.mk r.1 r.2.1 r.2.2)
 |14=>fun(r:(List UInt8)×Int)=>(Em.mk r.1 r.2)
 |15=>fun(r:Bool×(List UInt8)×(List UInt8)×Int)=>(EF.mk (Ag.mk r.1 r.2.1 r.2.2.1) r.2.2.2)
 |16=>fun(r:Bool×(List UInt8)×(List UInt8)×Int)=>(Bd.mk (Ag.mk r.1 r.2.1 r.2.2.1) r.2.2.2)
 |17=>fun(r:Bool×(List UInt8)×(List UInt8)×Int×Int)=>(Cs.mk (Bd.mk (Ag.mk r.1 r.2.1 r.2.2.1) r.2.2.2.1) r.2.2.2.2)
 |18=>fun(r:(List Ag)×Int)=>(CA.mk r.1 r.2)
 |19=>fun(r:Int×Int)=>(Ct.mk r.1 r.2)
 |20=>fun(r:Bool×(List UInt8)×(List UInt8)×Int)=>(Cu.mk (Ag.mk r.1 r.2.1 r.2.2.1) r.2.2.2)
 |21=>fun(r:(List AI)×Int)=>(CB.mk r.1 r.2)
 |22=>fun(r:(List AO)×Int)=>(CC.mk r.1 r.2)
 |n+23=>fun _=>()
def tun:(i:Nat)->tT i->Row (tls i)
 |0=>fun(x:Au)=>(x.From,x.Stages)
 |1=>fun(x:Ag)=>(x.Neg,x.Num,x.Den)
 |2=>fun(x:AN)=>(x.Stage,x.Flow.Neg,x.Flow.Num,x.Flow.Den)
 |3=>fun(x:AK)=>(x.Points)
 |4=>fun(x:Aj)=>(x.From,x.To,x.Weight.Neg,x.Weight.Num,x.Weight.Den,x.Datum,x.Curve.Points)
 |5=>fun(x:Ba)=>(x.History.From,x.History.Stages,x.Spans,x.Level.Neg,x.Level.Num,x.Level.Den)
 |6=>fun(x:Cq)=>(x.e0,x.e1,x.e2)
 |7=>fun(x:AI)=>(x.Flow.Neg,x.Flow.Num,x.Flow.Den,x.Ticks)
 |8=>fun(x:AO)=>(x.From,x.To)
 |9=>fun(x:Bc)=>(x.neg,x.num,x.den)
 |10=>fun(x:Cr)=>(x.e0,x.e1)
 |11=>fun(x:BB)=>(x.Stage,x.Ticks)
 |12=>fun(x:A9)=>(x.From,x.To,x.Table,x.Lo,x.Hi)
 |13=>fun(x:Fx)=>(x.Q,x.R,x.E)
 |14=>fun(x:Em)=>(x.S,x.E)
 |15=>fun(x:EF)=>(x.A.Neg,x.A.Num,x.A.Den,x.E)
 |16=>fun(x:Bd)=>(x.Flow.Neg,x.Flow.Num,x.Flow.Den,x.Tick)
 |17=>fun(x:Cs)=>(x.X.Flow.Neg,x.X.Flow.Num,x.X.Flow.Den,x.X.Tick,x.E)
 |18=>fun(x:CA)=>(x.L,x.E)
 |19=>fun(x:Ct)=>(x.N,x.E)
 |20=>fun(x:Cu)=>(x.F.Neg,x.F.Num,x.F.Den,x.E)
 |21=>fun(x:CB)=>(x.L,x.E)
 |22=>fun(x:CC)=>(x.L,x.E)
 |n+23=>fun _=>()
@[reducible] def tin:(i:Nat)->Inhabited (tT i)
 |0=>(inferInstance:Inhabited Au)
 |1=>(inferInstance:Inhabited Ag)
 |2=>(inferInstance:Inhabited AN)
 |3=>(inferInstance:Inhabited AK)
 |4=>(inferInstance:Inhabited Aj)
 |5=>(inferInstance:Inhabited Ba)
 |6=>(inferInstance:Inhabited Cq)
 |7=>(inferInstance:Inhabited AI)
 |8=>(inferInstance:Inhabited AO)
 |9=>(inferInstance:Inhabited Bc)
 |10=>(inferInstance:Inhabited Cr)
 |11=>(inferInstance:Inhabited BB)
 |12=>(inferInstance:Inhabited A9)
 |13=>(inferInstance:Inhabited Fx)
 |14=>(inferInstance:Inhabited Em)
 |15=>(inferInstance:Inhabited EF)
 |16=>(inferInstance:Inhabited Bd)
 |17=>(inferInstance:Inhabited Cs)
 |18=>(inferInstance:Inhabited CA)
 |19=>(inferInstance:Inhabited Ct)
 |20=>(inferInstance:Inhabited Cu)
 |21=>(inferInstance:Inhabited CB)
 |22=>(inferInstance:Inhabited CC)
 |n+23=>(inferInstance:Inhabited Unit)
def tca:(i:Nat)->tT i->List Aa
 |0=>Au.cells
 |1=>Ag.cells
 |2=>AN.cells
 |3=>AK.cells
 |4=>Aj.cells
 |5=>Ba.cells
 |6=>Cq.cells
 |7=>AI.cells
 |8=>AO.cells
 |9=>Bc.cells
 |10=>Cr.cells
 |11=>BB.cells
 |12=>A9.cells
 |13=>Fx.cells
 |14=>Em.cells
 |15=>EF.cells
 |16=>Bd.cells
 |17=>Cs.cells
 |18=>CA.cells
 |19=>Ct.cells
 |20=>Cu.cells
 |21=>CB.cells
 |22=>CC.cells
 |n+23=>fun _=>[]
def tkk:Nat->Option (List Nat)
 |1=>some [0,2,2]
 |2=>some [1,0,2,2]
 |6=>some [1,1,1]
 |7=>some [0,2,2,1]
 |8=>some [1,1]
 |9=>some [0,2,2]
 |10=>some [1,1]
 |11=>some [1,1]
 |13=>some [2,2,1]
 |14=>some [2,1]
 |15=>some [0,2,2,1]
 |16=>some [0,2,2,1]
 |17=>some [0,2,2,1,1]
 |19=>some [1,1]
 |20=>some [0,2,2,1]
 |_=>none
def tke:(i:Nat)->tT i->tT i->Bool
 |0=>fun _ _=>true
 |1=>BO
 |2=>wz9t
 |3=>fun _ _=>true
 |4=>fun _ _=>true
 |5=>fun _ _=>true
 |6=>wz9a
 |7=>wz9w
 |8=>wz9x
 |9=>wz8j
 |10=>jzaq
 |11=>jza2
 |12=>fun _ _=>true
 |13=>wz78
 |14=>wz86
 |15=>wz87
 |16=>wz8n
 |17=>wz80
 |18=>fun _ _=>true
 |19=>wz79
 |20=>wz7t
 |21=>fun _ _=>true
 |22=>fun _ _=>true
 |n+23=>fun _ _=>true
theorem teA:(i:Nat)->Row (tfa i)=tFA i
 |0=>rfl
 |1=>rfl
 |2=>rfl
 |3=>rfl
 |4=>rfl
 |5=>rfl
 |6=>rfl
 |n+7=>rfl
theorem teR:(i:Nat)->Row (tfr i)=tFR i
 |0=>rfl
 |1=>rfl
 |2=>rfl
 |3=>rfl
 |4=>rfl
 |5=>rfl
 |6=>rfl
 |n+7=>rfl
noncomputable instance tab:Tab:=⟨tls,tmk,tun,tin,tca,tfa,tfr,teA,teR,tkk,tke⟩
theorem nr0(x:Au)(v:Aa)(h:v∈Au.cells x):AC v:=by
 have k:∀v∈Au.cells x,AC v:=by unfold Au.cells;simp only[Eg];exact⟨.int _ _,Gc (fun x v h=>NW v h),fun _ h=>by cases h⟩
 exact k v h
theorem nr1(x:Ag)(v:Aa)(h:v∈Ag.cells x):AC v:=by
 have k:∀v∈Ag.cells x,AC v:=by unfold Ag.cells;simp only[Eg];exact⟨.bool _,.str _,.str _,fun _ h=>by cases h⟩
 exact k v h
theorem nr2(x:AN)(v:Aa)(h:v∈AN.cells x):AC v:=by
 have k:∀v∈AN.cells x,AC v:=by unfold AN.cells;simp only[Eg];exact⟨.int _ _,.bool _,.str _,.str _,fun _ h=>by cases h⟩
 exact k v h
theorem nr3(x:AK)(v:Aa)(h:v∈AK.cells x):AC v:=by
 have k:∀v∈AK.cells x,AC v:=by unfold AK.cells;simp only[Eg];exact⟨Gc (fun x v h=>nr2 x v h),fun _ h=>by cases h⟩
 exact k v h
theorem nr4(x:Aj)(v:Aa)(h:v∈Aj.cells x):AC v:=by
 have k:∀v∈Aj.cells x,AC v:=by unfold Aj.cells;simp only[Eg];exact⟨.int _ _,.int _ _,.bool _,.str _,.str _,.int _ _,Gc (fun x v h=>nr2 x v h),fun _ h=>by cases h⟩
 exact k v h
theorem nr5(x:Ba)(v:Aa)(h:v∈Ba.cells x):AC v:=by
 have k:∀v∈Ba.cells x,AC v:=by unfold Ba.cells;simp only[Eg];exact⟨.int _ _,Gc (fun x v h=>NW v h),Gc (fun x v h=>nr4 x v h),.bool _,.str _,.str _,fun _ h=>by cases h⟩
 exact k v h
theorem nr6(x:Cq)(v:Aa)(h:v∈Cq.cells x):AC v:=by
 have k:∀v∈Cq.cells x,AC v:=by unfold Cq.cells;simp only[Eg];exact⟨.int _ _,.int _ _,.int _ _,fun _ h=>by cases h⟩
 exact k v h
theorem nr7(x:AI)(v:Aa)(h:v∈AI.cells x):AC v:=by
 have k:∀v∈AI.cells x,AC v:=by unfold AI.cells;simp only[Eg];exact⟨.bool _,.str _,.str _,.int _ _,fun _ h=>by cases h⟩
 exact k v h
theorem nr8(x:AO)(v:Aa)(h:v∈AO.cells x):AC v:=by
 have k:∀v∈AO.cells x,AC v:=by unfold AO.cells;simp only[Eg];exact⟨.int _ _,.int _ _,fun _ h=>by cases h⟩
 exact k v h
theorem nr9(x:Bc)(v:Aa)(h:v∈Bc.cells x):AC v:=by
 have k:∀v∈Bc.cells x,AC v:=by unfold Bc.cells;simp only[Eg];exact⟨.bool _,.str _,.str _,fun _ h=>by cases h⟩
 exact k v h
theorem nr10(x:Cr)(v:Aa)(h:v∈Cr.cells x):AC v:=by
 have k:∀v∈Cr.cells x,AC v:=by unfold Cr.cells;simp only[Eg];exact⟨.int _ _,.int _ _,fun _ h=>by cases h⟩
 exact k v h
theorem nr11(x:BB)(v:Aa)(h:v∈BB.cells x):AC v:=by
 have k:∀v∈BB.cells x,AC v:=by unfold BB.cells;simp only[Eg];exact⟨.int _ _,.int _ _,fun _ h=>by cases h⟩
 exact k v h
theorem nr12(x:A9)(v:Aa)(h:v∈A9.cells x):AC v:=by
 have k:∀v∈A9.cells x,AC v:=by unfold A9.cells;simp only[Eg];exact⟨.int _ _,.int _ _,Gc (fun x v h=>nr11 x v h),.int _ _,.int _ _,fun _ h=>by cases h⟩
 exact k v h
theorem nr13(x:Fx)(v:Aa)(h:v∈Fx.cells x):AC v:=by
 have k:∀v∈Fx.cells x,AC v:=by unfold Fx.cells;simp only[Eg];exact⟨.str _,.str _,.int _ _,fun _ h=>by cases h⟩
 exact k v h
theorem nr14(x:Em)(v:Aa)(h:v∈Em.cells x):AC v:=by
 have k:∀v∈Em.cells x,AC v:=by unfold Em.cells;simp only[Eg];exact⟨.str _,.int _ _,fun _ h=>by cases h⟩
 exact k v h
theorem nr15(x:EF)(v:Aa)(h:v∈EF.cells x):AC v:=by
 have k:∀v∈EF.cells x,AC v:=by unfold EF.cells;simp only[Eg];exact⟨.bool _,.str _,.str _,.int _ _,fun _ h=>by cases h⟩
 exact k v h
theorem nr16(x:Bd)(v:Aa)(h:v∈Bd.cells x):AC v:=by
 have k:∀v∈Bd.cells x,AC v:=by unfold Bd.cells;simp only[Eg];exact⟨.bool _,.str _,.str _,.int _ _,fun _ h=>by cases h⟩
 exact k v h
theorem nr17(x:Cs)(v:Aa)(h:v∈Cs.cells x):AC v:=by
 have k:∀v∈Cs.cells x,AC v:=by unfold Cs.cells;simp only[Eg];exact⟨.bool _,.str _,.str _,.int _ _,.int _ _,fun _ h=>by cases h⟩
 exact k v h
theorem nr18(x:CA)(v:Aa)(h:v∈CA.cells x):AC v:=by
 have k:∀v∈CA.cells x,AC v:=by unfold CA.cells;simp only[Eg];exact⟨Gc (fun x v h=>nr1 x v h),.int _ _,fun _ h=>by cases h⟩
 exact k v h
theorem nr19(x:Ct)(v:Aa)(h:v∈Ct.cells x):AC v:=by
 have k:∀v∈Ct.cells x,AC v:=by unfold Ct.cells;simp only[Eg];exact⟨.int _ _,.int _ _,fun _ h=>by cases h⟩
 exact k v h
theorem nr20(x:Cu)(v:Aa)(h:v∈Cu.cells x):AC v:=by
 have k:∀v∈Cu.cells x,AC v:=by unfold Cu.cells;simp only[Eg];exact⟨.bool _,.str _,.str _,.int _ _,fun _ h=>by cases h⟩
 exact k v h
theorem nr21(x:CB)(v:Aa)(h:v∈CB.cells x):AC v:=by
 have k:∀v∈CB.cells x,AC v:=by unfold CB.cells;simp only[Eg];exact⟨Gc (fun x v h=>nr7 x v h),.int _ _,fun _ h=>by cases h⟩
 exact k v h
theorem nr22(x:CC)(v:Aa)(h:v∈CC.cells x):AC v:=by
 have k:∀v∈CC.cells x,AC v:=by unfold CC.cells;simp only[Eg];exact⟨Gc (fun x v h=>nr8 x v h),.int _ _,fun _ h=>by cases h⟩
 exact k v h
instance tabOk:TabOk where
 unmk i r:=match i,r with
  |0,r=>rfl
  |1,r=>rfl
  |2,r=>rfl
  |3,r=>rfl
  |4,r=>rfl
  |5,r=>rfl
  |6,r=>rfl
  |7,r=>rfl
  |8,r=>rfl
  |9,r=>rfl
  |10,r=>rfl
  |11,r=>rfl
  |12,r=>rfl
  |13,r=>rfl
  |14,r=>rfl
  |15,r=>rfl
  |16,r=>rfl
  |17,r=>rfl
  |18,r=>rfl
  |19,r=>rfl
  |20,r=>rfl
  |21,r=>rfl
  |22,r=>rfl
  |_+23,r=>rfl
 cells i x:=match i,x with
  |0,x=>(by kernel_rfl)
  |1,x=>(by kernel_rfl)
  |2,x=>(by kernel_rfl)
  |3,x=>(by kernel_rfl)
  |4,x=>(by kernel_rfl)
  |5,x=>(by kernel_rfl)
  |6,x=>(by kernel_rfl)
  |7,x=>(by kernel_rfl)
  |8,x=>(by kernel_rfl)
  |9,x=>(by kernel_rfl)
  |10,x=>(by kernel_rfl)
  |11,x=>(by kernel_rfl)
  |12,x=>(by kernel_rfl)
  |13,x=>(by kernel_rfl)
  |14,x=>(by kernel_rfl)
  |15,x=>(by kernel_rfl)
  |16,x=>(by kernel_rfl)
  |17,x=>(by kernel_rfl)
  |18,x=>(by kernel_rfl)
  |19,x=>(by kernel_rfl)
  |20,x=>(by kernel_rfl)
  |21,x=>(by kernel_rfl)
  |22,x=>(by kernel_rfl)
  |_+23,x=>(by kernel_rfl)
 nor i x v h:=match i,x,h with
  |0,x,h=>nr0 x v h
  |1,x,h=>nr1 x v h
  |2,x,h=>nr2 x v h
  |3,x,h=>nr3 x v h
  |4,x,h=>nr4 x v h
  |5,x,h=>nr5 x v h
  |6,x,h=>nr6 x v h
  |7,x,h=>nr7 x v h
  |8,x,h=>nr8 x v h
  |9,x,h=>nr9 x v h
  |10,x,h=>nr10 x v h
  |11,x,h=>nr11 x v h
  |12,x,h=>nr12 x v h
  |13,x,h=>nr13 x v h
  |14,x,h=>nr14 x v h
  |15,x,h=>nr15 x v h
  |16,x,h=>nr16 x v h
  |17,x,h=>nr17 x v h
  |18,x,h=>nr18 x v h
  |19,x,h=>nr19 x v h
  |20,x,h=>nr20 x v h
  |21,x,h=>nr21 x v h
  |22,x,h=>nr22 x v h
  |_+23,x,h=>(by cases h)
 pos i c h j e:=match i,h with
  |0,h=>(by subst e;simp[Tab.ls,tls]at h)
  |1,h=>(by subst e;simp[Tab.ls,tls]at h)
  |2,h=>(by subst e;simp[Tab.ls,tls]at h)
  |3,h=>(by subst e;simp[Tab.ls,tls]at h)
  |4,h=>(by subst e;simp[Tab.ls,tls]at h)
  |5,h=>(by subst e;simp[Tab.ls,tls]at h)
  |6,h=>(by subst e;simp[Tab.ls,tls]at h)
  |7,h=>(by subst e;simp[Tab.ls,tls]at h)
  |8,h=>(by subst e;simp[Tab.ls,tls]at h)
  |9,h=>(by subst e;simp[Tab.ls,tls]at h)
  |10,h=>(by subst e;simp[Tab.ls,tls]at h)
  |11,h=>(by subst e;simp[Tab.ls,tls]at h)
  |12,h=>(by subst e;simp[Tab.ls,tls]at h)
  |13,h=>(by subst e;simp[Tab.ls,tls]at h)
  |14,h=>(by subst e;simp[Tab.ls,tls]at h)
  |15,h=>(by subst e;simp[Tab.ls,tls]at h)
  |16,h=>(by subst e;simp[Tab.ls,tls]at h)
  |17,h=>(by subst e;simp[Tab.ls,tls]at h)
  |18,h=>(by subst e;simp[Tab.ls,tls]at h)
  |19,h=>(by subst e;simp[Tab.ls,tls]at h)
  |20,h=>(by subst e;simp[Tab.ls,tls]at h)
  |21,h=>(by subst e;simp[Tab.ls,tls]at h)
  |22,h=>(by subst e;simp[Tab.ls,tls]at h)
  |_+23,h=>(by subst e;cases h)
 aA i x:=match i,x with
  |0,x=>(by kernel_rfl)
  |1,x=>(by kernel_rfl)
  |2,x=>(by kernel_rfl)
  |3,x=>(by kernel_rfl)
  |4,x=>(by kernel_rfl)
  |5,x=>(by kernel_rfl)
  |6,x=>(by kernel_rfl)
  |_+7,x=>(by kernel_rfl)
 aR i x:=match i,x with
  |0,x=>(by kernel_rfl)
  |1,x=>(by kernel_rfl)
  |2,x=>(by kernel_rfl)
  |3,x=>(by kernel_rfl)
  |4,x=>(by kernel_rfl)
  |5,x=>(by kernel_rfl)
  |6,x=>(by kernel_rfl)
  |_+7,x=>(by kernel_rfl)
 kq i x y l h:=match i,x,y,l,h with
  |0,x,y,_,h=>(by cases h)
  |1,x,y,_,h=>(by cases h;exact⟨rfl,by kernel_rfl⟩)
  |2,x,y,_,h=>(by cases h;exact⟨rfl,by kernel_rfl⟩)
  |3,x,y,_,h=>(by cases h)
  |4,x,y,_,h=>(by cases h)
  |5,x,y,_,h=>(by cases h)
  |6,x,y,_,h=>(by cases h;exact⟨rfl,by kernel_rfl⟩)
  |7,x,y,_,h=>(by cases h;exact⟨rfl,by kernel_rfl⟩)
  |8,x,y,_,h=>(by cases h;exact⟨rfl,by kernel_rfl⟩)
  |9,x,y,_,h=>(by cases h;exact⟨rfl,by kernel_rfl⟩)
  |10,x,y,_,h=>(by cases h;exact⟨rfl,by kernel_rfl⟩)
  |11,x,y,_,h=>(by cases h;exact⟨rfl,by kernel_rfl⟩)
  |12,x,y,_,h=>(by cases h)
  |13,x,y,_,h=>(by cases h;exact⟨rfl,by kernel_rfl⟩)
  |14,x,y,_,h=>(by cases h;exact⟨rfl,by kernel_rfl⟩)
  |15,x,y,_,h=>(by cases h;exact⟨rfl,by kernel_rfl⟩)
  |16,x,y,_,h=>(by cases h;exact⟨rfl,by kernel_rfl⟩)
  |17,x,y,_,h=>(by cases h;exact⟨rfl,by kernel_rfl⟩)
  |18,x,y,_,h=>(by cases h)
  |19,x,y,_,h=>(by cases h;exact⟨rfl,by kernel_rfl⟩)
  |20,x,y,_,h=>(by cases h;exact⟨rfl,by kernel_rfl⟩)
  |21,x,y,_,h=>(by cases h)
  |22,x,y,_,h=>(by cases h)
  |_+23,x,y,_,h=>(by cases h)
end Go.Am

