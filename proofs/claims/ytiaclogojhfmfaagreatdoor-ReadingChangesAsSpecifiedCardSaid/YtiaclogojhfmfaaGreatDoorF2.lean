/- Part F2: the functions of this seat as functions of plain values. No condition. -/
import Derived.Test.YtiaclogojhfmfaaGreatDoorT4
import Derived.Test.YtiaclogojhfmfaaGreatDoorF1
import Derived.Test.YtiaclogojhfmfaaGreatDoorChecked
set_option linter.unusedVariables false
namespace Go.Am
open Go.Proofs
def EE:Nat->Aa:=fun _=>.top
def Ae.cells(x:Ae):List Aa:=[.int .i64 x.Gauge,.int .i64 x.Seq,.int .i64 x.From,.int .i64 x.To,.int .i64 x.Stage,.int .i64 x.Known]
def DK.cells(x:DK):List Aa:=[slcV 6 Ae.cells x.e0,slcV 6 Ae.cells x.e1]
def Bd.cells(x:Bd):List Aa:=[.bool x.Neg,.str x.Num,.str x.Den]
def AO.cells(x:AO):List Aa:=[.int .i64 x.Stage,.bool x.Flow.Neg,.str x.Flow.Num,.str x.Flow.Den]
def AM.cells(x:AM):List Aa:=[slcV 4 AO.cells x.Points]
def Ah.cells(x:Ah):List Aa:=[.int .i64 x.Kind,.int .i64 x.Gauge,.int .i64 x.Seq,.int .i64 x.Known,.int .i64 x.From,.int .i64 x.To,.int .i64 x.Shift,slcV 4 AO.cells x.Curve.Points]
def At.cells(x:At):List Aa:=[.int .i64 x.From,.int .i64 x.To]
def Dx.cells(x:Dx):List Aa:=[.int .i64 x.Gauge,.int .i64 x.Ticks.From,.int .i64 x.Ticks.To,.int .i64 x.Known]
def Cq.cells(x:Cq):List Aa:=[.int .i64 x.R.Gauge,.int .i64 x.R.Seq,.int .i64 x.R.From,.int .i64 x.R.To,.int .i64 x.R.Stage,.int .i64 x.R.Known,.int .i64 x.V.Kind,.int .i64 x.V.Gauge,.int .i64 x.V.Seq,.int .i64 x.V.Known,.int .i64 x.V.From,.int .i64 x.V.To,.int .i64 x.V.Shift,slcV 4 AO.cells x.V.Curve.Points,.int .i64 x.Known]
def DL.cells(x:DL):List Aa:=[slcV 6 Ae.cells x.e0,slcV 6 Ae.cells x.e1,slcV 6 Ae.cells x.e2]
def B8.cells(x:B8):List Aa:=[.int .i64 x.Stage,.int .i64 x.Ticks]
def AT.cells(x:AT):List Aa:=[.int .i64 x.From,.int .i64 x.To,slcV 2 B8.cells x.Table,.int .i64 x.Lo,.int .i64 x.Hi]
def Dy.cells(x:Dy):List Aa:=[.int .i64 x.T.From,.int .i64 x.T.To,.int .i64 x.E]
def Az.cells(x:Az):List Aa:=[.int .i64 x.t.From,.int .i64 x.t.To,.int .i64 x.stage]
def Cw.cells(x:Cw):List Aa:=[.bool x.neg,.str x.num,.str x.den]
def GE.cells(x:GE):List Aa:=[.str x.Q,.str x.R,.int .i64 x.E]
def GF.cells(x:GF):List Aa:=[.str x.S,.int .i64 x.E]
def BC.cells(x:BC):List Aa:=[slcV 6 Ae.cells x.L,.int .i64 x.E]
def DM.cells(x:DM):List Aa:=[slcV 1 (cI .i64) x.L,.int .i64 x.E]
def B9.cells(x:B9):List Aa:=[slcV 8 Ah.cells x.L,.int .i64 x.E]
def DN.cells(x:DN):List Aa:=[slcV 5 AT.cells x.L,.int .i64 x.E]
def Bv.cells(x:Bv):List Aa:=[slcV 2 At.cells x.L,.int .i64 x.E]
def AU.cells(x:AU):List Aa:=[.int .i64 x.t.From,.int .i64 x.t.To,.int .i64 x.stage]
def tT:Nat->Type
 |0=>Ae
 |1=>DK
 |2=>Bd
 |3=>AO
 |4=>AM
 |5=>Ah
 |6=>At
 |7=>Dx
 |8=>Cq
 |9=>DL
 |10=>B8
 |11=>AT
 |12=>Dy
 |13=>Az
 |14=>Cw
 |15=>GE
 |16=>GF
 |17=>BC
 |18=>DM
 |19=>B9
 |20=>DN
 |21=>Bv
 |22=>AU
 |n+23=>Unit
def tFA:Nat->Type
 |0=>Ae×Ae
 |1=>Az
 |2=>Ah×Ah
 |3=>(List Int)×(List Int)
 |_=>Unit
def tFR:Nat->Type
 |0=>Int
 |1=>Bool
 |2=>Int
 |3=>(List Int)
 |_=>Unit
noncomputable def taA:(i:Nat)->tFA i->List Aa
 |0=>fun(x:Ae×Ae)=>[.agg (Ae.cells x.1),.agg (Ae.cells x.2)]
 |1=>fun(x:Az)=>[.agg (Az.cells x)]
 |2=>fun(x:Ah×Ah)=>[.agg (Ah.cells x.1),.agg (Ah.cells x.2)]
 |3=>fun(x:(List Int)×(List Int))=>[slcV 1 (cI .u32) x.1,slcV 1 (cI .u32) x.2]
 |n+4=>fun _=>[]
noncomputable def taR:(i:Nat)->tFR i->Aa
 |0=>fun(x:Int)=>.int .i64 x
 |1=>fun(x:Bool)=>.bool x
 |2=>fun(x:Int)=>.int .i64 x
 |3=>fun(x:(List Int))=>slcV 1 (cI .u32) x
 |n+4=>fun _=>.tup []
def tfa:Nat->List CT
 |0=>[(.us 0),(.us 0)]
 |1=>[(.us 13)]
 |2=>[(.us 5),(.us 5)]
 |3=>[(.slc (.int .u32)),(.slc (.int .u32))]
 |_=>[]
def tfr:Nat->List CT
 |0=>[(.int .i64)]
 |1=>[.bool]
 |2=>[(.int .i64)]
 |3=>[(.slc (.int .u32))]
 |_=>[]
noncomputable instance tabT:TabT:=⟨tT,EE,Tryz.prog,tFA,tFR,taA,taR⟩
def tls:Nat->List CT
 |0=>[(.int .i64),(.int .i64),(.int .i64),(.int .i64),(.int .i64),(.int .i64)]
 |1=>[(.slc (.us 0)),(.slc (.us 0))]
 |2=>[.bool,.str,.str]
 |3=>[(.int .i64),.bool,.str,.str]
 |4=>[(.slc (.us 3))]
 |5=>[(.int .i64),(.int .i64),(.int .i64),(.int .i64),(.int .i64),(.int .i64),(.int .i64),(.slc (.us 3))]
 |6=>[(.int .i64),(.int .i64)]
 |7=>[(.int .i64),(.int .i64),(.int .i64),(.int .i64)]
 |8=>[(.int .i64),(.int .i64),(.int .i64),(.int .i64),(.int .i64),(.int .i64),(.int .i64),(.int .i64),(.int .i64),(.int .i64),(.int .i64),(.int .i64),(.int .i64),(.slc (.us 3)),(.int .i64)]
 |9=>[(.slc (.us 0)),(.slc (.us 0)),(.slc (.us 0))]
 |10=>[(.int .i64),(.int .i64)]
 |11=>[(.int .i64),(.int .i64),(.slc (.us 10)),(.int .i64),(.int .i64)]
 |12=>[(.int .i64),(.int .i64),(.int .i64)]
 |13=>[(.int .i64),(.int .i64),(.int .i64)]
 |14=>[.bool,.str,.str]
 |15=>[.str,.str,(.int .i64)]
 |16=>[.str,(.int .i64)]
 |17=>[(.slc (.us 0)),(.int .i64)]
 |18=>[(.slc (.int .i64)),(.int .i64)]
 |19=>[(.slc (.us 5)),(.int .i64)]
 |20=>[(.slc (.us 11)),(.int .i64)]
 |21=>[(.slc (.us 6)),(.int .i64)]
 |22=>[(.int .i64),(.int .i64),(.int .i64)]
 |n+23=>[]
def tmk:(i:Nat)->Row (tls i)->tT i
 |0=>fun(r:Int×Int×Int×Int×Int×Int)=>(Ae.mk r.1 r.2.1 r.2.2.1 r.2.2.2.1 r.2.2.2.2.1 r.2.2.2.2.2)
 |1=>fun(r:(List Ae)×(List Ae))=>(DK.mk r.1 r.2)
 |2=>fun(r:Bool×(List UInt8)×(List UInt8))=>(Bd.mk r.1 r.2.1 r.2.2)
 |3=>fun(r:Int×Bool×(List UInt8)×(List UInt8))=>(AO.mk r.1 (Bd.mk r.2.1 r.2.2.1 r.2.2.2))
 |4=>fun(r:(List AO))=>(AM.mk r)
 |5=>fun(r:Int×Int×Int×Int×Int×Int×Int×(List AO))=>(Ah.mk r.1 r.2.1 r.2.2.1 r.2.2.2.1 r.2.2.2.2.1 r.2.2.2.2.2.1 r.2.2.2.2.2.2.1 (AM.mk r.2.2.2.2.2.2.2))
 |6=>fun(r:Int×Int)=>(At.mk r.1 r.2)
 |7=>fun(r:Int×Int×Int×Int)=>(Dx.mk r.1 (At.mk r.2.1 r.2.2.1) r.2.2.2)
 |8=>fun(r:Int×Int×Int×Int×Int×Int×Int×Int×Int×Int×Int×Int×Int×(List AO)×Int)=>(Cq.mk (Ae.mk r.1 r.2.1 r.2.2.1 r.2.2.2.1 r.2.2.2.2.1 r.2.2.2.2.2.1) (Ah.mk r.2.2.2.2.2.2.1 r.2.2.2.2.2.2.2.1 r.2.2.2.2.2.2.2.2.1 r.2.2.2.2.2.2.2.2.2.1 r.2.2.2.2.2.2.2.2.2.2.1 r.2.2.2.2.2.2.2.2.2.2.2.1 r.2.2.2.2.2.2.2.2.2.2.2.2.1 (AM.mk r.2.2.2.2.2.2.2.2.2.2.2.2.2.1)) r.2.2.2.2.2.2.2.2.2.2.2.2.2.2)
 |9=>fun(r:(List Ae)×(List Ae)×(List Ae))=>(DL.mk r.1 r.2.1 r.2.2)
 |10=>fun(r:Int×Int)=>(B8.mk r.1 r.2)
 |11=>fun(r:Int×Int×(List B8)×Int×Int)=>(AT.mk r.1 r.2.1 r.2.2.1 r.2.2.2.1 r.2.2.2.2)
 |12=>fun(r:Int×Int×Int)=>(Dy.mk (At.mk r.1 r.2.1) r.2.2)
 |13=>fun(r:Int×Int×Int)=>(Az.mk (At.mk r.1 r.2.1) r.2.2)
 |14=>fun(r:Bool×(List UInt8)×(List UInt8))=>(Cw.mk r.1 r.2.1 r.2.2)
 |15=>fun(r:(List UInt8)×(List UInt8)×Int)=>(GE.mk r.1 r.2.1 r.2.2)
 |16=>fun(r:(List UInt8)×Int)=>(GF.mk r.1 r.2)
 |17=>fun(r:(List Ae)×Int)=>(BC.mk r.1 r.2)
 |18=>fun(r:(List Int)×Int)=>(DM.mk r.1 r.2)
 |19=>fun(r:(List Ah)×Int)=>(B9.mk r.1 r.2)
 |20=>fun(r:(List AT)×Int)=>(DN.mk r.1 r.2)
 |21=>fun(r:(List At)×Int)=>(Bv.mk r.1 r.2)
 |22=>fun(r:Int×Int×Int)=>(AU.mk (At.mk r.1 r.2.1) r.2.2)
 |n+23=>fun _=>()
def tun:(i:Nat)->tT i->Row (tls i)
 |0=>fun(x:Ae)=>(x.Gauge,x.Seq,x.From,x.To,x.Stage,x.Known)
 |1=>fun(x:DK)=>(x.e0,x.e1)
 |2=>fun(x:Bd)=>(x.Neg,x.Num,x.Den)
 |3=>fun(x:AO)=>(x.Stage,x.Flow.Neg,x.Flow.Num,x.Flow.Den)
 |4=>fun(x:AM)=>(x.Points)
 |5=>fun(x:Ah)=>(x.Kind,x.Gauge,x.Seq,x.Known,x.From,x.To,x.Shift,x.Curve.Points)
 |6=>fun(x:At)=>(x.From,x.To)
 |7=>fun(x:Dx)=>(x.Gauge,x.Ticks.From,x.Ticks.To,x.Known)
 |8=>fun(x:Cq)=>(x.R.Gauge,x.R.Seq,x.R.From,x.R.To,x.R.Stage,x.R.Known,x.V.Kind,x.V.Gauge,x.V.Seq,x.V.Known,x.V.From,x.V.To,x.V.Shift,x.V.Curve.Points,x.Known)
 |9=>fun(x:DL)=>(x.e0,x.e1,x.e2)
 |10=>fun(x:B8)=>(x.Stage,x.Ticks)
 |11=>fun(x:AT)=>(x.From,x.To,x.Table,x.Lo,x.Hi)
 |12=>fun(x:Dy)=>(x.T.From,x.T.To,x.E)
 |13=>fun(x:Az)=>(x.t.From,x.t.To,x.stage)
 |14=>fun(x:Cw)=>(x.neg,x.num,x.den)
 |15=>fun(x:GE)=>(x.Q,x.R,x.E)
 |16=>fun(x:GF)=>(x.S,x.E)
 |17=>fun(x:BC)=>(x.L,x.E)
 |18=>fun(x:DM)=>(x.L,x.E)
 |19=>fun(x:B9)=>(x.L,x.E)
 |20=>fun(x:DN)=>(x.L,x.E)
 |21=>fun(x:Bv)=>(x.L,x.E)
 |22=>fun(x:AU)=>(x.t.From,x.t.To,x.stage)
 |n+23=>fun _=>()
@[reducible] def tin:(i:Nat)->Inhabited (tT i)
 |0=>(inferInstance:Inhabited Ae)
 |1=>(inferInstance:Inhabited DK)
 |2=>(inferInstance:Inhabited Bd)
 |3=>(inferInstance:Inhabited AO)
 |4=>(inferInstance:Inhabited AM)
 |5=>(inferInstance:Inhabited Ah)
 |6=>(inferInstance:Inhabited At)
 |7=>(inferInstance:Inhabited Dx)
 |8=>(inferInstance:Inhabited Cq)
 |9=>(inferInstance:Inhabited DL)
 |10=>(inferInstance:Inhabited B8)
 |11=>(inferInstance:Inhabited AT)
 |12=>(inferInstance:Inhabited Dy)
 |13=>(inferInstance:Inhabited Az)
 |14=>(inferInstance:Inhabited Cw)
 |15=>(inferInstance:Inhabited GE)
 |16=>(inferInstance:Inhabited GF)
 |17=>(inferInstance:Inhabited BC)
 |18=>(inferInstance:Inhabited DM)
 |19=>(inferInstance:Inhabited B9)
 |20=>(inferInstance:Inhabited DN)
 |21=>(inferInstance:Inhabited Bv)
 |22=>(inferInstance:Inhabited AU)
 |n+23=>(inferInstance:Inhabited Unit)
def tca:(i:Nat)->tT i->List Aa
 |0=>Ae.cells
 |1=>DK.cells
 |2=>Bd.cells
 |3=>AO.cells
 |4=>AM.cells
 |5=>Ah.cells
 |6=>At.cells
 |7=>Dx.cells
 |8=>Cq.cells
 |9=>DL.cells
 |10=>B8.cells
 |11=>AT.cells
 |12=>Dy.cells
 |13=>Az.cells
 |14=>Cw.cells
 |15=>GE.cells
 |16=>GF.cells
 |17=>BC.cells
 |18=>DM.cells
 |19=>B9.cells
 |20=>DN.cells
 |21=>Bv.cells
 |22=>AU.cells
 |n+23=>fun _=>[]
def tkk:Nat->Option (List Nat)
 |0=>some [1,1,1,1,1,1]
 |2=>some [0,2,2]
 |3=>some [1,0,2,2]
 |6=>some [1,1]
 |7=>some [1,1,1,1]
 |10=>some [1,1]
 |12=>some [1,1,1]
 |13=>some [1,1,1]
 |14=>some [0,2,2]
 |15=>some [2,2,1]
 |16=>some [2,1]
 |22=>some [1,1,1]
 |_=>none
def tke:(i:Nat)->tT i->tT i->Bool
 |0=>jzrs
 |1=>fun _ _=>true
 |2=>wz2k
 |3=>wz9t
 |4=>fun _ _=>true
 |5=>fun _ _=>true
 |6=>wz9x
 |7=>jzrq
 |8=>fun _ _=>true
 |9=>fun _ _=>true
 |10=>jza2
 |11=>fun _ _=>true
 |12=>jzrw
 |13=>jzrl
 |14=>wz8j
 |15=>wz78
 |16=>wz86
 |17=>fun _ _=>true
 |18=>fun _ _=>true
 |19=>fun _ _=>true
 |20=>fun _ _=>true
 |21=>fun _ _=>true
 |22=>jzq9
 |n+23=>fun _ _=>true
theorem teA:(i:Nat)->Row (tfa i)=tFA i
 |0=>rfl
 |1=>rfl
 |2=>rfl
 |3=>rfl
 |n+4=>rfl
theorem teR:(i:Nat)->Row (tfr i)=tFR i
 |0=>rfl
 |1=>rfl
 |2=>rfl
 |3=>rfl
 |n+4=>rfl
noncomputable instance tab:Tab:=⟨tls,tmk,tun,tin,tca,tfa,tfr,teA,teR,tkk,tke⟩
theorem nr0(x:Ae)(v:Aa)(h:v∈Ae.cells x):AF v:=by
 have k:∀v∈Ae.cells x,AF v:=by unfold Ae.cells;simp only[Ei];exact⟨.int _ _,.int _ _,.int _ _,.int _ _,.int _ _,.int _ _,fun _ h=>by cases h⟩
 exact k v h
theorem nr1(x:DK)(v:Aa)(h:v∈DK.cells x):AF v:=by
 have k:∀v∈DK.cells x,AF v:=by unfold DK.cells;simp only[Ei];exact⟨Eo (fun x v h=>nr0 x v h),Eo (fun x v h=>nr0 x v h),fun _ h=>by cases h⟩
 exact k v h
theorem nr2(x:Bd)(v:Aa)(h:v∈Bd.cells x):AF v:=by
 have k:∀v∈Bd.cells x,AF v:=by unfold Bd.cells;simp only[Ei];exact⟨.bool _,.str _,.str _,fun _ h=>by cases h⟩
 exact k v h
theorem nr3(x:AO)(v:Aa)(h:v∈AO.cells x):AF v:=by
 have k:∀v∈AO.cells x,AF v:=by unfold AO.cells;simp only[Ei];exact⟨.int _ _,.bool _,.str _,.str _,fun _ h=>by cases h⟩
 exact k v h
theorem nr4(x:AM)(v:Aa)(h:v∈AM.cells x):AF v:=by
 have k:∀v∈AM.cells x,AF v:=by unfold AM.cells;simp only[Ei];exact⟨Eo (fun x v h=>nr3 x v h),fun _ h=>by cases h⟩
 exact k v h
theorem nr5(x:Ah)(v:Aa)(h:v∈Ah.cells x):AF v:=by
 have k:∀v∈Ah.cells x,AF v:=by unfold Ah.cells;simp only[Ei];exact⟨.int _ _,.int _ _,.int _ _,.int _ _,.int _ _,.int _ _,.int _ _,Eo (fun x v h=>nr3 x v h),fun _ h=>by cases h⟩
 exact k v h
theorem nr6(x:At)(v:Aa)(h:v∈At.cells x):AF v:=by
 have k:∀v∈At.cells x,AF v:=by unfold At.cells;simp only[Ei];exact⟨.int _ _,.int _ _,fun _ h=>by cases h⟩
 exact k v h
theorem nr7(x:Dx)(v:Aa)(h:v∈Dx.cells x):AF v:=by
 have k:∀v∈Dx.cells x,AF v:=by unfold Dx.cells;simp only[Ei];exact⟨.int _ _,.int _ _,.int _ _,.int _ _,fun _ h=>by cases h⟩
 exact k v h
theorem nr8(x:Cq)(v:Aa)(h:v∈Cq.cells x):AF v:=by
 have k:∀v∈Cq.cells x,AF v:=by unfold Cq.cells;simp only[Ei];exact⟨.int _ _,.int _ _,.int _ _,.int _ _,.int _ _,.int _ _,.int _ _,.int _ _,.int _ _,.int _ _,.int _ _,.int _ _,.int _ _,Eo (fun x v h=>nr3 x v h),.int _ _,fun _ h=>by cases h⟩
 exact k v h
theorem nr9(x:DL)(v:Aa)(h:v∈DL.cells x):AF v:=by
 have k:∀v∈DL.cells x,AF v:=by unfold DL.cells;simp only[Ei];exact⟨Eo (fun x v h=>nr0 x v h),Eo (fun x v h=>nr0 x v h),Eo (fun x v h=>nr0 x v h),fun _ h=>by cases h⟩
 exact k v h
theorem nr10(x:B8)(v:Aa)(h:v∈B8.cells x):AF v:=by
 have k:∀v∈B8.cells x,AF v:=by unfold B8.cells;simp only[Ei];exact⟨.int _ _,.int _ _,fun _ h=>by cases h⟩
 exact k v h
theorem nr11(x:AT)(v:Aa)(h:v∈AT.cells x):AF v:=by
 have k:∀v∈AT.cells x,AF v:=by unfold AT.cells;simp only[Ei];exact⟨.int _ _,.int _ _,Eo (fun x v h=>nr10 x v h),.int _ _,.int _ _,fun _ h=>by cases h⟩
 exact k v h
theorem nr12(x:Dy)(v:Aa)(h:v∈Dy.cells x):AF v:=by
 have k:∀v∈Dy.cells x,AF v:=by unfold Dy.cells;simp only[Ei];exact⟨.int _ _,.int _ _,.int _ _,fun _ h=>by cases h⟩
 exact k v h
theorem nr13(x:Az)(v:Aa)(h:v∈Az.cells x):AF v:=by
 have k:∀v∈Az.cells x,AF v:=by unfold Az.cells;simp only[Ei];exact⟨.int _ _,.int _ _,.int _ _,fun _ h=>by cases h⟩
 exact k v h
theorem nr14(x:Cw)(v:Aa)(h:v∈Cw.cells x):AF v:=by
 have k:∀v∈Cw.cells x,AF v:=by unfold Cw.cells;simp only[Ei];exact⟨.bool _,.str _,.str _,fun _ h=>by cases h⟩
 exact k v h
theorem nr15(x:GE)(v:Aa)(h:v∈GE.cells x):AF v:=by
 have k:∀v∈GE.cells x,AF v:=by unfold GE.cells;simp only[Ei];exact⟨.str _,.str _,.int _ _,fun _ h=>by cases h⟩
 exact k v h
theorem nr16(x:GF)(v:Aa)(h:v∈GF.cells x):AF v:=by
 have k:∀v∈GF.cells x,AF v:=by unfold GF.cells;simp only[Ei];exact⟨.str _,.int _ _,fun _ h=>by cases h⟩
 exact k v h
theorem nr17(x:BC)(v:Aa)(h:v∈BC.cells x):AF v:=by
 have k:∀v∈BC.cells x,AF v:=by unfold BC.cells;simp only[Ei];exact⟨Eo (fun x v h=>nr0 x v h),.int _ _,fun _ h=>by cases h⟩
 exact k v h
theorem nr18(x:DM)(v:Aa)(h:v∈DM.cells x):AF v:=by
 have k:∀v∈DM.cells x,AF v:=by unfold DM.cells;simp only[Ei];exact⟨Eo (fun x v h=>qz1 v h),.int _ _,fun _ h=>by cases h⟩
 exact k v h
theorem nr19(x:B9)(v:Aa)(h:v∈B9.cells x):AF v:=by
 have k:∀v∈B9.cells x,AF v:=by unfold B9.cells;simp only[Ei];exact⟨Eo (fun x v h=>nr5 x v h),.int _ _,fun _ h=>by cases h⟩
 exact k v h
theorem nr20(x:DN)(v:Aa)(h:v∈DN.cells x):AF v:=by
 have k:∀v∈DN.cells x,AF v:=by unfold DN.cells;simp only[Ei];exact⟨Eo (fun x v h=>nr11 x v h),.int _ _,fun _ h=>by cases h⟩
 exact k v h
theorem nr21(x:Bv)(v:Aa)(h:v∈Bv.cells x):AF v:=by
 have k:∀v∈Bv.cells x,AF v:=by unfold Bv.cells;simp only[Ei];exact⟨Eo (fun x v h=>nr6 x v h),.int _ _,fun _ h=>by cases h⟩
 exact k v h
theorem nr22(x:AU)(v:Aa)(h:v∈AU.cells x):AF v:=by
 have k:∀v∈AU.cells x,AF v:=by unfold AU.cells;simp only[Ei];exact⟨.int _ _,.int _ _,.int _ _,fun _ h=>by cases h⟩
 exact k v h
instance tabOk:TabOk where
 unmk i r:=match i,r with
  |0,r=>rfl
  |1,r=>rfl
  |2,r=>rfl
  |3,r=>rfl
  |4,r=>rfl
  |5,r=>rfl
  |6,r=>rfl
  |7,r=>rfl
  |8,r=>rfl
  |9,r=>rfl
  |10,r=>rfl
  |11,r=>rfl
  |12,r=>rfl
  |13,r=>rfl
  |14,r=>rfl
  |15,r=>rfl
  |16,r=>rfl
  |17,r=>rfl
  |18,r=>rfl
  |19,r=>rfl
  |20,r=>rfl
  |21,r=>rfl
  |22,r=>rfl
  |_+23,r=>rfl
 cells i x:=match i,x with
  |0,x=>(by kernel_rfl)
  |1,x=>(by kernel_rfl)
  |2,x=>(by kernel_rfl)
  |3,x=>(by kernel_rfl)
  |4,x=>(by kernel_rfl)
  |5,x=>(by kernel_rfl)
  |6,x=>(by kernel_rfl)
  |7,x=>(by kernel_rfl)
  |8,x=>(by kernel_rfl)
  |9,x=>(by kernel_rfl)
  |10,x=>(by kernel_rfl)
  |11,x=>(by kernel_rfl)
  |12,x=>(by kernel_rfl)
  |13,x=>(by kernel_rfl)
  |14,x=>(by kernel_rfl)
  |15,x=>(by kernel_rfl)
  |16,x=>(by kernel_rfl)
  |17,x=>(by kernel_rfl)
  |18,x=>(by kernel_rfl)
  |19,x=>(by kernel_rfl)
  |20,x=>(by kernel_rfl)
  |21,x=>(by kernel_rfl)
  |22,x=>(by kernel_rfl)
  |_+23,x=>(by kernel_rfl)
 nor i x v h:=match i,x,h with
  |0,x,h=>nr0 x v h
  |1,x,h=>nr1 x v h
  |2,x,h=>nr2 x v h
  |3,x,h=>nr3 x v h
  |4,x,h=>nr4 x v h
  |5,x,h=>nr5 x v h
  |6,x,h=>nr6 x v h
  |7,x,h=>nr7 x v h
  |8,x,h=>nr8 x v h
  |9,x,h=>nr9 x v h
  |10,x,h=>nr10 x v h
  |11,x,h=>nr11 x v h
  |12,x,h=>nr12 x v h
  |13,x,h=>nr13 x v h
  |14,x,h=>nr14 x v h
  |15,x,h=>nr15 x v h
  |16,x,h=>nr16 x v h
  |17,x,h=>nr17 x v h
  |18,x,h=>nr18 x v h
  |19,x,h=>nr19 x v h
  |20,x,h=>nr20 x v h
  |21,x,h=>nr21 x v h
  |22,x,h=>nr22 x v h
  |_+23,x,h=>(by cases h)
 pos i c h j e:=match i,h with
  |0,h=>(by subst e;simp[Tab.ls,tls]at h)
  |1,h=>(by subst e;simp[Tab.ls,tls]at h)
  |2,h=>(by subst e;simp[Tab.ls,tls]at h)
  |3,h=>(by subst e;simp[Tab.ls,tls]at h)
  |4,h=>(by subst e;simp[Tab.ls,tls]at h)
  |5,h=>(by subst e;simp[Tab.ls,tls]at h)
  |6,h=>(by subst e;simp[Tab.ls,tls]at h)
  |7,h=>(by subst e;simp[Tab.ls,tls]at h)
  |8,h=>(by subst e;simp[Tab.ls,tls]at h)
  |9,h=>(by subst e;simp[Tab.ls,tls]at h)
  |10,h=>(by subst e;simp[Tab.ls,tls]at h)
  |11,h=>(by subst e;simp[Tab.ls,tls]at h)
  |12,h=>(by subst e;simp[Tab.ls,tls]at h)
  |13,h=>(by subst e;simp[Tab.ls,tls]at h)
  |14,h=>(by subst e;simp[Tab.ls,tls]at h)
  |15,h=>(by subst e;simp[Tab.ls,tls]at h)
  |16,h=>(by subst e;simp[Tab.ls,tls]at h)
  |17,h=>(by subst e;simp[Tab.ls,tls]at h)
  |18,h=>(by subst e;simp[Tab.ls,tls]at h)
  |19,h=>(by subst e;simp[Tab.ls,tls]at h)
  |20,h=>(by subst e;simp[Tab.ls,tls]at h)
  |21,h=>(by subst e;simp[Tab.ls,tls]at h)
  |22,h=>(by subst e;simp[Tab.ls,tls]at h)
  |_+23,h=>(by subst e;cases h)
 aA i x:=match i,x with
  |0,x=>(by kernel_rfl)
  |1,x=>(by kernel_rfl)
  |2,x=>(by kernel_rfl)
  |3,x=>(by kernel_rfl)
  |_+4,x=>(by kernel_rfl)
 aR i x:=match i,x with
  |0,x=>(by kernel_rfl)
  |1,x=>(by kernel_rfl)
  |2,x=>(by kernel_rfl)
  |3,x=>(by kernel_rfl)
  |_+4,x=>(by kernel_rfl)
 kq i x y l h:=match i,x,y,l,h with
  |0,x,y,_,h=>(by cases h;exact⟨rfl,by kernel_rfl⟩)
  |1,x,y,_,h=>(by cases h)
  |2,x,y,_,h=>(by cases h;exact⟨rfl,by kernel_rfl⟩)
  |3,x,y,_,h=>(by cases h;exact⟨rfl,by kernel_rfl⟩)
  |4,x,y,_,h=>(by cases h)
  |5,x,y,_,h=>(by cases h)
  |6,x,y,_,h=>(by cases h;exact⟨rfl,by kernel_rfl⟩)
  |7,x,y,_,h=>(by cases h;exact⟨rfl,by kernel_rfl⟩)
  |8,x,y,_,h=>(by cases h)
  |9,x,y,_,h=>(by cases h)
  |10,x,y,_,h=>(by cases h;exact⟨rfl,by kernel_rfl⟩)
  |11,x,y,_,h=>(by cases h)
  |12,x,y,_,h=>(by cases h;exact⟨rfl,by kernel_rfl⟩)
  |13,x,y,_,h=>(by cases h;exact⟨rfl,by kernel_rfl⟩)
  |14,x,y,_,h=>(by cases h;exact⟨rfl,by kernel_rfl⟩)
  |15,x,y,_,h=>(by cases h;exact⟨rfl,by kernel_rfl⟩)
  |16,x,y,_,h=>(by cases h;exact⟨rfl,by kernel_rfl⟩)
  |17,x,y,_,h=>(by cases h)
  |18,x,y,_,h=>(by cases h)
  |19,x,y,_,h=>(by cases h)
  |20,x,y,_,h=>(by cases h)
  |21,x,y,_,h=>(by cases h)
  |22,x,y,_,h=>(by cases h;exact⟨rfl,by kernel_rfl⟩)
  |_+23,x,y,_,h=>(by cases h)
end Go.Am

