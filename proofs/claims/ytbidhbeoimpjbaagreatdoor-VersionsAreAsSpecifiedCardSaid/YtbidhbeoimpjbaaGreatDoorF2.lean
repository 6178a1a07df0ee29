/- Part F2: the functions of this seat as functions of plain values. No condition. -/
import Derived.Test.YtbidhbeoimpjbaaGreatDoorT4
import Derived.Test.YtbidhbeoimpjbaaGreatDoorF1
import Derived.Test.YtbidhbeoimpjbaaGreatDoorChecked
set_option linter.unusedVariables false
namespace Go.Am
open Go.Proofs
def EE:Nat->Aa:=fun _=>.top
def AJ.cells(x:AJ):List Aa:=[.bool x.Neg,.str x.Num,.str x.Den]
def AC.cells(x:AC):List Aa:=[.int .i64 x.Stage,.bool x.Flow.Neg,.str x.Flow.Num,.str x.Flow.Den]
def AG.cells(x:AG):List Aa:=[slcV 4 AC.cells x.Points]
def Ac.cells(x:Ac):List Aa:=[.int .i64 x.Kind,.int .i64 x.Gauge,.int .i64 x.Seq,.int .i64 x.Known,.int .i64 x.From,.int .i64 x.To,.int .i64 x.Shift,slcV 4 AC.cells x.Curve.Points]
def CD.cells(x:CD):List Aa:=[.int .i64 x.e0,.int .i64 x.e1,.int .i64 x.e2,.int .i64 x.e3]
def Aw.cells(x:Aw):List Aa:=[.int .i64 x.From,.int .i64 x.To]
def CE.cells(x:CE):List Aa:=[.int .i64 x.Gauge,.int .i64 x.Known,.int .i64 x.Ticks.From,.int .i64 x.Ticks.To,.bool x.Weight.Neg,.str x.Weight.Num,.str x.Weight.Den]
def CO.cells(x:CO):List Aa:=[slcV 8 Ac.cells x.e0,slcV 8 Ac.cells x.e1,slcV 8 Ac.cells x.e2]
def AL.cells(x:AL):List Aa:=[.int .i64 x.From,.int .i64 x.To,.bool x.Weight.Neg,.str x.Weight.Num,.str x.Weight.Den,.int .i64 x.Datum,slcV 4 AC.cells x.Curve.Points]
def BJ.cells(x:BJ):List Aa:=[.bool x.neg,.str x.num,.str x.den]
def FK.cells(x:FK):List Aa:=[.str x.Q,.str x.R,.int .i64 x.E]
def FL.cells(x:FL):List Aa:=[.str x.S,.int .i64 x.E]
def CP.cells(x:CP):List Aa:=[slcV 7 AL.cells x.L,.int .i64 x.E]
def AZ.cells(x:AZ):List Aa:=[slcV 8 Ac.cells x.L,.int .i64 x.E]
def CQ.cells(x:CQ):List Aa:=[.int .i64 x.V.Kind,.int .i64 x.V.Gauge,.int .i64 x.V.Seq,.int .i64 x.V.Known,.int .i64 x.V.From,.int .i64 x.V.To,.int .i64 x.V.Shift,slcV 4 AC.cells x.V.Curve.Points,.int .i64 x.E]
def CF.cells(x:CF):List Aa:=[.int .i64 x.N,.int .i64 x.E]
def CR.cells(x:CR):List Aa:=[slcV 1 (cI .i64) x.L,.int .i64 x.E]
def BO.cells(x:BO):List Aa:=[slcV 2 Aw.cells x.L,.int .i64 x.E]
def tT:Nat->Type
 |0=>AJ
 |1=>AC
 |2=>AG
 |3=>Ac
 |4=>CD
 |5=>Aw
 |6=>CE
 |7=>CO
 |8=>AL
 |9=>BJ
 |10=>FK
 |11=>FL
 |12=>CP
 |13=>AZ
 |14=>CQ
 |15=>CF
 |16=>CR
 |17=>BO
 |n+18=>Unit
def tFA:Nat->Type
 |0=>Ac×Ac
 |1=>Aw
 |2=>(List Int)×(List Int)
 |3=>Ac×Ac
 |_=>Unit
def tFR:Nat->Type
 |0=>Int
 |1=>Bool
 |2=>(List Int)
 |3=>Bool
 |_=>Unit
noncomputable def taA:(i:Nat)->tFA i->List Aa
 |0=>fun(x:Ac×Ac)=>[.agg (Ac.cells x.1),.agg (Ac.cells x.2)]
 |1=>fun(x:Aw)=>[.agg (Aw.cells x)]
 |2=>fun(x:(List Int)×(List Int))=>[slcV 1 (cI .u32) x.1,slcV 1 (cI .u32) x.2]
 |3=>fun(x:Ac×Ac)=>[.agg (Ac.cells x.1),.agg (Ac.cells x.2)]
 |n+4=>fun _=>[]
noncomputable def taR:(i:Nat)->tFR i->Aa
 |0=>fun(x:Int)=>.int .i64 x
 |1=>fun(x:Bool)=>.bool x
 |2=>fun(x:(List Int))=>slcV 1 (cI .u32) x
 |3=>fun(x:Bool)=>.bool x
 |n+4=>fun _=>.tup []
def tfa:Nat->List CT
 |0=>[(.us 3),(.us 3)]
 |1=>[(.us 5)]
 |2=>[(.slc (.int .u32)),(.slc (.int .u32))]
 |3=>[(.us 3),(.us 3)]
 |_=>[]
def tfr:Nat->List CT
 |0=>[(.int .i64)]
 |1=>[.bool]
 |2=>[(.slc (.int .u32))]
 |3=>[.bool]
 |_=>[]
noncomputable instance tabT:TabT:=⟨tT,EE,Tryz.prog,tFA,tFR,taA,taR⟩
def tls:Nat->List CT
 |0=>[.bool,.str,.str]
 |1=>[(.int .i64),.bool,.str,.str]
 |2=>[(.slc (.us 1))]
 |3=>[(.int .i64),(.int .i64),(.int .i64),(.int .i64),(.int .i64),(.int .i64),(.int .i64),(.slc (.us 1))]
 |4=>[(.int .i64),(.int .i64),(.int .i64),(.int .i64)]
 |5=>[(.int .i64),(.int .i64)]
 |6=>[(.int .i64),(.int .i64),(.int .i64),(.int .i64),.bool,.str,.str]
 |7=>[(.slc (.us 3)),(.slc (.us 3)),(.slc (.us 3))]
 |8=>[(.int .i64),(.int .i64),.bool,.str,.str,(.int .i64),(.slc (.us 1))]
 |9=>[.bool,.str,.str]
 |10=>[.str,.str,(.int .i64)]
 |11=>[.str,(.int .i64)]
 |12=>[(.slc (.us 8)),(.int .i64)]
 |13=>[(.slc (.us 3)),(.int .i64)]
 |14=>[(.int .i64),(.int .i64),(.int .i64),(.int .i64),(.int .i64),(.int .i64),(.int .i64),(.slc (.us 1)),(.int .i64)]
 |15=>[(.int .i64),(.int .i64)]
 |16=>[(.slc (.int .i64)),(.int .i64)]
 |17=>[(.slc (.us 5)),(.int .i64)]
 |n+18=>[]
def tmk:(i:Nat)->Row (tls i)->tT i
 |0=>fun(r:Bool×(List UInt8)×(List UInt8))=>(AJ.mk r.1 r.2.1 r.2.2)
 |1=>fun(r:Int×Bool×(List UInt8)×(List UInt8))=>(AC.mk r.1 (AJ.mk r.2.1 r.2.2.1 r.2.2.2))
 |2=>fun(r:(List AC))=>(AG.mk r)
 |3=>fun(r:Int×Int×Int×Int×Int×Int×Int×(List AC))=>(Ac.mk r.1 r.2.1 r.2.2.1 r.2.2.2.1 r.2.2.2.2.1 r.2.2.2.2.2.1 r.2.2.2.2.2.2.1 (AG.mk r.2.2.2.2.2.2.2))
 |4=>fun(r:Int×Int×Int×Int)=>(CD.mk r.1 r.2.1 r.2.2.1 r.2.2.2)
 |5=>fun(r:Int×Int)=>(Aw.mk r.1 r.2)
 |6=>fun(r:Int×Int×Int×Int×Bool×(List UInt8)×(List UInt8))=>(CE.mk r.1 r.2.1 (Aw.mk r.2.2.1 r.2.2.2.1) (AJ.mk r.2.2.2.2.1 r.2.2.2.2.2.1 r.2.2.2.2.2.2))
 |7=>fun(r:(List Ac)×(List Ac)×(List Ac))=>(CO.mk r.1 r.2.1 r.2.2)
 |8=>fun(r:Int×Int×Bool×(List UInt8)×(List UInt8)×Int×(List AC))=>(AL.mk r.1 r.2.1 (AJ.mk r.2.2.1 r.2.2.2.1 r.2.2.2.2.1) r.2.2.2.2.2.1 (AG.mk r.2.2.2.2.2.2))
 |9=>fun(r:Bool×(List UInt8)×(List UInt8))=>(BJ.mk r.1 r.2.1 r.2.2)
 |10=>fun(r:(List UInt8)×(List UInt8)×Int)=>(FK.mk r.1 r.2.1 r.2.2)
 |11=>fun(r:(List UInt8)×Int)=>(FL.mk r.1 r.2)
 |12=>fun(r:(List AL)×Int)=>(CP.mk r.1 r.2)
 |13=>fun(r:(List Ac)×Int)=>(AZ.mk r.1 r.2)
 |14=>fun(r:Int×Int×Int×Int×Int×Int×Int×(List AC)×Int)=>(CQ.mk (Ac.mk r.1 r.2.1 r.2.2.1 r.2.2.2.1 r.2.2.2.2.1 r.2.2.2.2.2.1 r.2.2.2.2.2.2.1 (AG.mk r.2.2.2.2.2.2.2.1)) r.2.2.2.2.2.2.2.2)
 |15=>fun(r:Int×Int)=>(CF.mk r.1 r.2)
 |16=>fun(r:(List Int)×Int)=>(CR.mk r.1 r.2)
 |17=>fun(r:(List Aw)×Int)=>(BO.mk r.1 r.2)
 |n+18=>fun _=>()
def tun:(i:Nat)->tT i->Row (tls i)
 |0=>fun(x:AJ)=>(x.Neg,x.Num,x.Den)
 |1=>fun(x:AC)=>(x.Stage,x.Flow.Neg,x.Flow.Num,x.Flow.Den)
 |2=>fun(x:AG)=>(x.Points)
 |3=>fun(x:Ac)=>(x.Kind,x.Gauge,x.Seq,x.Known,x.From,x.To,x.Shift,x.Curve.Points)
 |4=>fun(x:CD)=>(x.e0,x.e1,x.e2,x.e3)
 |5=>fun(x:Aw)=>(x.From,x.To)
 |6=>fun(x:CE)=>(x.Gauge,x.Known,x.Ticks.From,x.Ticks.To,x.Weight.Neg,x.Weight.Num,x.Weight.Den)
 |7=>fun(x:CO)=>(x.e0,x.e1,x.e2)
 |8=>fun(x:AL)=>(x.From,x.To,x.Weight.Neg,x.Weight.Num,x.Weight.Den,x.Datum,x.Curve.Points)
 |9=>fun(x:BJ)=>(x.neg,x.num,x.den)
 |10=>fun(x:FK)=>(x.Q,x.R,x.E)
 |11=>fun(x:FL)=>(x.S,x.E)
 |12=>fun(x:CP)=>(x.L,x.E)
 |13=>fun(x:AZ)=>(x.L,x.E)
 |14=>fun(x:CQ)=>(x.V.Kind,x.V.Gauge,x.V.Seq,x.V.Known,x.V.From,x.V.To,x.V.Shift,x.V.Curve.Points,x.E)
 |15=>fun(x:CF)=>(x.N,x.E)
 |16=>fun(x:CR)=>(x.L,x.E)
 |17=>fun(x:BO)=>(x.L,x.E)
 |n+18=>fun _=>()
@[reducible] def tin:(i:Nat)->Inhabited (tT i)
 |0=>(inferInstance:Inhabited AJ)
 |1=>(inferInstance:Inhabited AC)
 |2=>(inferInstance:Inhabited AG)
 |3=>(inferInstance:Inhabited Ac)
 |4=>(inferInstance:Inhabited CD)
 |5=>(inferInstance:Inhabited Aw)
 |6=>(inferInstance:Inhabited CE)
 |7=>(inferInstance:Inhabited CO)
 |8=>(inferInstance:Inhabited AL)
 |9=>(inferInstance:Inhabited BJ)
 |10=>(inferInstance:Inhabited FK)
 |11=>(inferInstance:Inhabited FL)
 |12=>(inferInstance:Inhabited CP)
 |13=>(inferInstance:Inhabited AZ)
 |14=>(inferInstance:Inhabited CQ)
 |15=>(inferInstance:Inhabited CF)
 |16=>(inferInstance:Inhabited CR)
 |17=>(inferInstance:Inhabited BO)
 |n+18=>(inferInstance:Inhabited Unit)
def tca:(i:Nat)->tT i->List Aa
 |0=>AJ.cells
 |1=>AC.cells
 |2=>AG.cells
 |3=>Ac.cells
 |4=>CD.cells
 |5=>Aw.cells
 |6=>CE.cells
 |7=>CO.cells
 |8=>AL.cells
 |9=>BJ.cells
 |10=>FK.cells
 |11=>FL.cells
 |12=>CP.cells
 |13=>AZ.cells
 |14=>CQ.cells
 |15=>CF.cells
 |16=>CR.cells
 |17=>BO.cells
 |n+18=>fun _=>[]
def tkk:Nat->Option (List Nat)
 |0=>some [0,2,2]
 |1=>some [1,0,2,2]
 |4=>some [1,1,1,1]
 |5=>some [1,1]
 |6=>some [1,1,1,1,0,2,2]
 |9=>some [0,2,2]
 |10=>some [2,2,1]
 |11=>some [2,1]
 |15=>some [1,1]
 |_=>none
def tke:(i:Nat)->tT i->tT i->Bool
 |0=>uS
 |1=>uT
 |2=>fun _ _=>true
 |3=>fun _ _=>true
 |4=>uU
 |5=>uV
 |6=>uW
 |7=>fun _ _=>true
 |8=>fun _ _=>true
 |9=>uX
 |10=>uY
 |11=>uZ
 |12=>fun _ _=>true
 |13=>fun _ _=>true
 |14=>fun _ _=>true
 |15=>u_
 |16=>fun _ _=>true
 |17=>fun _ _=>true
 |n+18=>fun _ _=>true
theorem teA:(i:Nat)->Row (tfa i)=tFA i
 |0=>rfl
 |1=>rfl
 |2=>rfl
 |3=>rfl
 |n+4=>rfl
theorem teR:(i:Nat)->Row (tfr i)=tFR i
 |0=>rfl
 |1=>rfl
 |2=>rfl
 |3=>rfl
 |n+4=>rfl
noncomputable instance tab:Tab:=⟨tls,tmk,tun,tin,tca,tfa,tfr,teA,teR,tkk,tke⟩
theorem nr0(x:AJ)(v:Aa)(h:v∈AJ.cells x):AF v:=by
 have k:∀v∈AJ.cells x,AF v:=by unfold AJ.cells;simp only[FU];exact⟨.bool _,.str _,.str _,fun _ h=>by cases h⟩
 exact k v h
theorem nr1(x:AC)(v:Aa)(h:v∈AC.cells x):AF v:=by
 have k:∀v∈AC.cells x,AF v:=by unfold AC.cells;simp only[FU];exact⟨.int _ _,.bool _,.str _,.str _,fun _ h=>by cases h⟩
 exact k v h
theorem nr2(x:AG)(v:Aa)(h:v∈AG.cells x):AF v:=by
 have k:∀v∈AG.cells x,AF v:=by unfold AG.cells;simp only[FU];exact⟨GP (fun x v h=>nr1 x v h),fun _ h=>by cases h⟩
 exact k v h
theorem nr3(x:Ac)(v:Aa)(h:v∈Ac.cells x):AF v:=by
 have k:∀v∈Ac.cells x,AF v:=by unfold Ac.cells;simp only[FU];exact⟨.int _ _,.int _ _,.int _ _,.int _ _,.int _ _,.int _ _,.int _ _,GP (fun x v h=>nr1 x v h),fun _ h=>by cases h⟩
 exact k v h
theorem nr4(x:CD)(v:Aa)(h:v∈CD.cells x):AF v:=by
 have k:∀v∈CD.cells x,AF v:=by unfold CD.cells;simp only[FU];exact⟨.int _ _,.int _ _,.int _ _,.int _ _,fun _ h=>by cases h⟩
 exact k v h
theorem nr5(x:Aw)(v:Aa)(h:v∈Aw.cells x):AF v:=by
 have k:∀v∈Aw.cells x,AF v:=by unfold Aw.cells;simp only[FU];exact⟨.int _ _,.int _ _,fun _ h=>by cases h⟩
 exact k v h
theorem nr6(x:CE)(v:Aa)(h:v∈CE.cells x):AF v:=by
 have k:∀v∈CE.cells x,AF v:=by unfold CE.cells;simp only[FU];exact⟨.int _ _,.int _ _,.int _ _,.int _ _,.bool _,.str _,.str _,fun _ h=>by cases h⟩
 exact k v h
theorem nr7(x:CO)(v:Aa)(h:v∈CO.cells x):AF v:=by
 have k:∀v∈CO.cells x,AF v:=by unfold CO.cells;simp only[FU];exact⟨GP (fun x v h=>nr3 x v h),GP (fun x v h=>nr3 x v h),GP (fun x v h=>nr3 x v h),fun _ h=>by cases h⟩
 exact k v h
theorem nr8(x:AL)(v:Aa)(h:v∈AL.cells x):AF v:=by
 have k:∀v∈AL.cells x,AF v:=by unfold AL.cells;simp only[FU];exact⟨.int _ _,.int _ _,.bool _,.str _,.str _,.int _ _,GP (fun x v h=>nr1 x v h),fun _ h=>by cases h⟩
 exact k v h
theorem nr9(x:BJ)(v:Aa)(h:v∈BJ.cells x):AF v:=by
 have k:∀v∈BJ.cells x,AF v:=by unfold BJ.cells;simp only[FU];exact⟨.bool _,.str _,.str _,fun _ h=>by cases h⟩
 exact k v h
theorem nr10(x:FK)(v:Aa)(h:v∈FK.cells x):AF v:=by
 have k:∀v∈FK.cells x,AF v:=by unfold FK.cells;simp only[FU];exact⟨.str _,.str _,.int _ _,fun _ h=>by cases h⟩
 exact k v h
theorem nr11(x:FL)(v:Aa)(h:v∈FL.cells x):AF v:=by
 have k:∀v∈FL.cells x,AF v:=by unfold FL.cells;simp only[FU];exact⟨.str _,.int _ _,fun _ h=>by cases h⟩
 exact k v h
theorem nr12(x:CP)(v:Aa)(h:v∈CP.cells x):AF v:=by
 have k:∀v∈CP.cells x,AF v:=by unfold CP.cells;simp only[FU];exact⟨GP (fun x v h=>nr8 x v h),.int _ _,fun _ h=>by cases h⟩
 exact k v h
theorem nr13(x:AZ)(v:Aa)(h:v∈AZ.cells x):AF v:=by
 have k:∀v∈AZ.cells x,AF v:=by unfold AZ.cells;simp only[FU];exact⟨GP (fun x v h=>nr3 x v h),.int _ _,fun _ h=>by cases h⟩
 exact k v h
theorem nr14(x:CQ)(v:Aa)(h:v∈CQ.cells x):AF v:=by
 have k:∀v∈CQ.cells x,AF v:=by unfold CQ.cells;simp only[FU];exact⟨.int _ _,.int _ _,.int _ _,.int _ _,.int _ _,.int _ _,.int _ _,GP (fun x v h=>nr1 x v h),.int _ _,fun _ h=>by cases h⟩
 exact k v h
theorem nr15(x:CF)(v:Aa)(h:v∈CF.cells x):AF v:=by
 have k:∀v∈CF.cells x,AF v:=by unfold CF.cells;simp only[FU];exact⟨.int _ _,.int _ _,fun _ h=>by cases h⟩
 exact k v h
theorem nr16(x:CR)(v:Aa)(h:v∈CR.cells x):AF v:=by
 have k:∀v∈CR.cells x,AF v:=by unfold CR.cells;simp only[FU];exact⟨GP (fun x v h=>Ut v h),.int _ _,fun _ h=>by cases h⟩
 exact k v h
theorem nr17(x:BO)(v:Aa)(h:v∈BO.cells x):AF v:=by
 have k:∀v∈BO.cells x,AF v:=by unfold BO.cells;simp only[FU];exact⟨GP (fun x v h=>nr5 x v h),.int _ _,fun _ h=>by cases h⟩
 exact k v h
instance tabOk:TabOk where
 unmk i r:=match i,r with
  |0,r=>rfl
  |1,r=>rfl
  |2,r=>rfl
  |3,r=>rfl
  |4,r=>rfl
  |5,r=>rfl
  |6,r=>rfl
  |7,r=>rfl
  |8,r=>rfl
  |9,r=>rfl
  |10,r=>rfl
  |11,r=>rfl
  |12,r=>rfl
  |13,r=>rfl
  |14,r=>rfl
  |15,r=>rfl
  |16,r=>rfl
  |17,r=>rfl
  |_+18,r=>rfl
 cells i x:=match i,x with
  |0,x=>(by kernel_rfl)
  |1,x=>(by kernel_rfl)
  |2,x=>(by kernel_rfl)
  |3,x=>(by kernel_rfl)
  |4,x=>(by kernel_rfl)
  |5,x=>(by kernel_rfl)
  |6,x=>(by kernel_rfl)
  |7,x=>(by kernel_rfl)
  |8,x=>(by kernel_rfl)
  |9,x=>(by kernel_rfl)
  |10,x=>(by kernel_rfl)
  |11,x=>(by kernel_rfl)
  |12,x=>(by kernel_rfl)
  |13,x=>(by kernel_rfl)
  |14,x=>(by kernel_rfl)
  |15,x=>(by kernel_rfl)
  |16,x=>(by kernel_rfl)
  |17,x=>(by kernel_rfl)
  |_+18,x=>(by kernel_rfl)
 nor i x v h:=match i,x,h with
  |0,x,h=>nr0 x v h
  |1,x,h=>nr1 x v h
  |2,x,h=>nr2 x v h
  |3,x,h=>nr3 x v h
  |4,x,h=>nr4 x v h
  |5,x,h=>nr5 x v h
  |6,x,h=>nr6 x v h
  |7,x,h=>nr7 x v h
  |8,x,h=>nr8 x v h
  |9,x,h=>nr9 x v h
  |10,x,h=>nr10 x v h
  |11,x,h=>nr11 x v h
  |12,x,h=>nr12 x v h
  |13,x,h=>nr13 x v h
  |14,x,h=>nr14 x v h
  |15,x,h=>nr15 x v h
  |16,x,h=>nr16 x v h
  |17,x,h=>nr17 x v h
  |_+18,x,h=>(by cases h)
 pos i c h j e:=match i,h with
  |0,h=>(by subst e;simp[Tab.ls,tls]at h)
  |1,h=>(by subst e;simp[Tab.ls,tls]at h)
  |2,h=>(by subst e;simp[Tab.ls,tls]at h)
  |3,h=>(by subst e;simp[Tab.ls,tls]at h)
  |4,h=>(by subst e;simp[Tab.ls,tls]at h)
  |5,h=>(by subst e;simp[Tab.ls,tls]at h)
  |6,h=>(by subst e;simp[Tab.ls,tls]at h)
  |7,h=>(by subst e;simp[Tab.ls,tls]at h)
  |8,h=>(by subst e;simp[Tab.ls,tls]at h)
  |9,h=>(by subst e;simp[Tab.ls,tls]at h)
  |10,h=>(by subst e;simp[Tab.ls,tls]at h)
  |11,h=>(by subst e;simp[Tab.ls,tls]at h)
  |12,h=>(by subst e;simp[Tab.ls,tls]at h)
  |13,h=>(by subst e;simp[Tab.ls,tls]at h)
  |14,h=>(by subst e;simp[Tab.ls,tls]at h)
  |15,h=>(by subst e;simp[Tab.ls,tls]at h)
  |16,h=>(by subst e;simp[Tab.ls,tls]at h)
  |17,h=>(by subst e;simp[Tab.ls,tls]at h)
  |_+18,h=>(by subst e;cases h)
 aA i x:=match i,x with
  |0,x=>(by kernel_rfl)
  |1,x=>(by kernel_rfl)
  |2,x=>(by kernel_rfl)
  |3,x=>(by kernel_rfl)
  |_+4,x=>(by kernel_rfl)
 aR i x:=match i,x with
  |0,x=>(by kernel_rfl)
  |1,x=>(by kernel_rfl)
  |2,x=>(by kernel_rfl)
  |3,x=>(by kernel_rfl)
  |_+4,x=>(by kernel_rfl)
 kq i x y l h:=match i,x,y,l,h with
  |0,x,y,_,h=>(by cases h;exact⟨rfl,by kernel_rfl⟩)
  |1,x,y,_,h=>(by cases h;exact⟨rfl,by kernel_rfl⟩)
  |2,x,y,_,h=>(by cases h)
  |3,x,y,_,h=>(by cases h)
  |4,x,y,_,h=>(by cases h;exact⟨rfl,by kernel_rfl⟩)
  |5,x,y,_,h=>(by cases h;exact⟨rfl,by kernel_rfl⟩)
  |6,x,y,_,h=>(by cases h;exact⟨rfl,by kernel_rfl⟩)
  |7,x,y,_,h=>(by cases h)
  |8,x,y,_,h=>(by cases h)
  |9,x,y,_,h=>(by cases h;exact⟨rfl,by kernel_rfl⟩)
  |10,x,y,_,h=>(by cases h;exact⟨rfl,by kernel_rfl⟩)
  |11,x,y,_,h=>(by cases h;exact⟨rfl,by kernel_rfl⟩)
  |12,x,y,_,h=>(by cases h)
  |13,x,y,_,h=>(by cases h)
  |14,x,y,_,h=>(by cases h)
  |15,x,y,_,h=>(by cases h;exact⟨rfl,by kernel_rfl⟩)
  |16,x,y,_,h=>(by cases h)
  |17,x,y,_,h=>(by cases h)
  |_+18,x,y,_,h=>(by cases h)
end Go.Am

