/- Part F2: the functions of this seat as functions of plain values. No condition. -/
import Derived.Test.YtibbibelkkgfpaaGreatDoorT4
import Derived.Test.YtibbibelkkgfpaaGreatDoorF1
import Derived.Test.YtibbibelkkgfpaaGreatDoorChecked
set_option linter.unusedVariables false
namespace Go.Am
open Go.Proofs
def EE:Nat->Aa:=fun _=>.top
def AM.cells(x:AM):List Aa:=[.int .i64 x.Stage,.int .i64 x.Ticks]
def Ao.cells(x:Ao):List Aa:=[.int .i64 x.From,.int .i64 x.To,slcV 2 AM.cells x.Table,.int .i64 x.Lo,.int .i64 x.Hi]
def Af.cells(x:Af):List Aa:=[.bool x.Neg,.str x.Num,.str x.Den]
def Bw.cells(x:Bw):List Aa:=[.int .i64 x.Stage,.bool x.Flow.Neg,.str x.Flow.Num,.str x.Flow.Den]
def Bg.cells(x:Bg):List Aa:=[slcV 4 Bw.cells x.Points]
def Al.cells(x:Al):List Aa:=[.int .i64 x.From,.int .i64 x.To,.bool x.Weight.Neg,.str x.Weight.Num,.str x.Weight.Den,.int .i64 x.Datum,slcV 4 Bw.cells x.Curve.Points]
def AU.cells(x:AU):List Aa:=[.int .i64 x.From,slcV 1 (cI .i64) x.Stages]
def HY.cells(x:HY):List Aa:=[.int .u8 x.At,.bool x.By.Neg,.str x.By.Num,.str x.By.Den]
def Jr.cells(x:Jr):List Aa:=[slcV 5 Ao.cells x.A,slcV 5 Ao.cells x.B]
def HZ.cells(x:HZ):List Aa:=[.int .i64 x.From,.int .i64 x.To]
def Ia.cells(x:Ia):List Aa:=[.int .i64 x.e0,.int .i64 x.e1]
def AX.cells(x:AX):List Aa:=[.bool x.neg,.str x.num,.str x.den]
def A9.cells(x:A9):List Aa:=[.int .i64 x.Span,.int .i64 x.Ticks]
def Js.cells(x:Js):List Aa:=[.int .i64 x.run.From,.int .i64 x.run.To,slcV 2 AM.cells x.run.Table,.int .i64 x.run.Lo,.int .i64 x.run.Hi,slcV 2 A9.cells x.classes,slcV 1 (cL 3 Af.cells) x.cost,slcV 1 (cL 1 (cI .i64)) x.x]
def Gm.cells(x:Gm):List Aa:=[.str x.Q,.str x.R,.int .i64 x.E]
def EL.cells(x:EL):List Aa:=[.str x.S,.int .i64 x.E]
def F3.cells(x:F3):List Aa:=[.bool x.A.Neg,.str x.A.Num,.str x.A.Den,.int .i64 x.E]
def Jt.cells(x:Jt):List Aa:=[slcV 7 Al.cells x.L,.int .i64 x.E]
def Ju.cells(x:Ju):List Aa:=[slcV 2 A9.cells x.L,.int .i64 x.E]
def Fq.cells(x:Fq):List Aa:=[.bool x.Lo.Neg,.str x.Lo.Num,.str x.Lo.Den,.bool x.Hi.Neg,.str x.Hi.Num,.str x.Hi.Den]
def Ib.cells(x:Ib):List Aa:=[.bool x.B.Lo.Neg,.str x.B.Lo.Num,.str x.B.Lo.Den,.bool x.B.Hi.Neg,.str x.B.Hi.Num,.str x.B.Hi.Den,.int .i64 x.E]
def tT:Nat->Type
 |0=>AM
 |1=>Ao
 |2=>Af
 |3=>Bw
 |4=>Bg
 |5=>Al
 |6=>AU
 |7=>HY
 |8=>Jr
 |9=>HZ
 |10=>Ia
 |11=>AX
 |12=>A9
 |13=>Js
 |14=>Gm
 |15=>EL
 |16=>F3
 |17=>Jt
 |18=>Ju
 |19=>Fq
 |20=>Ib
 |n+21=>Unit
def tFA:Nat->Type
 |0=>Ao×Ao
 |1=>Int
 |2=>Int×Int
 |3=>(List Int)×(List Int)
 |4=>AX
 |_=>Unit
def tFR:Nat->Type
 |0=>Ao×Bool
 |1=>Bool
 |2=>Bool
 |3=>(List Int)
 |4=>AX
 |_=>Unit
noncomputable def taA:(i:Nat)->tFA i->List Aa
 |0=>fun(x:Ao×Ao)=>[.agg (Ao.cells x.1),.agg (Ao.cells x.2)]
 |1=>fun(x:Int)=>[.int .i64 x]
 |2=>fun(x:Int×Int)=>[.int .i64 x.1,.int .i64 x.2]
 |3=>fun(x:(List Int)×(List Int))=>[slcV 1 (cI .u32) x.1,slcV 1 (cI .u32) x.2]
 |4=>fun(x:AX)=>[.agg (AX.cells x)]
 |n+5=>fun _=>[]
noncomputable def taR:(i:Nat)->tFR i->Aa
 |0=>fun(x:Ao×Bool)=>.tup [.agg (Ao.cells x.1),.bool x.2]
 |1=>fun(x:Bool)=>.bool x
 |2=>fun(x:Bool)=>.bool x
 |3=>fun(x:(List Int))=>slcV 1 (cI .u32) x
 |4=>fun(x:AX)=>.agg (AX.cells x)
 |n+5=>fun _=>.tup []
def tfa:Nat->List CT
 |0=>[(.us 1),(.us 1)]
 |1=>[(.int .i64)]
 |2=>[(.int .i64),(.int .i64)]
 |3=>[(.slc (.int .u32)),(.slc (.int .u32))]
 |4=>[(.us 11)]
 |_=>[]
def tfr:Nat->List CT
 |0=>[(.us 1),.bool]
 |1=>[.bool]
 |2=>[.bool]
 |3=>[(.slc (.int .u32))]
 |4=>[(.us 11)]
 |_=>[]
noncomputable instance tabT:TabT:=⟨tT,EE,Tryz.prog,tFA,tFR,taA,taR⟩
def tls:Nat->List CT
 |0=>[(.int .i64),(.int .i64)]
 |1=>[(.int .i64),(.int .i64),(.slc (.us 0)),(.int .i64),(.int .i64)]
 |2=>[.bool,.str,.str]
 |3=>[(.int .i64),.bool,.str,.str]
 |4=>[(.slc (.us 3))]
 |5=>[(.int .i64),(.int .i64),.bool,.str,.str,(.int .i64),(.slc (.us 3))]
 |6=>[(.int .i64),(.slc (.int .i64))]
 |7=>[(.int .u8),.bool,.str,.str]
 |8=>[(.slc (.us 1)),(.slc (.us 1))]
 |9=>[(.int .i64),(.int .i64)]
 |10=>[(.int .i64),(.int .i64)]
 |11=>[.bool,.str,.str]
 |12=>[(.int .i64),(.int .i64)]
 |13=>[(.int .i64),(.int .i64),(.slc (.us 0)),(.int .i64),(.int .i64),(.slc (.us 12)),(.slc (.slc (.us 2))),(.slc (.slc (.int .i64)))]
 |14=>[.str,.str,(.int .i64)]
 |15=>[.str,(.int .i64)]
 |16=>[.bool,.str,.str,(.int .i64)]
 |17=>[(.slc (.us 5)),(.int .i64)]
 |18=>[(.slc (.us 12)),(.int .i64)]
 |19=>[.bool,.str,.str,.bool,.str,.str]
 |20=>[.bool,.str,.str,.bool,.str,.str,(.int .i64)]
 |n+21=>[]
def tmk:(i:Nat)->Row (tls i)->tT i
 |0=>fun(r:Int×Int)=>(AM.mk r.1 r.2)
 |1=>fun(r:Int×Int×(List AM)×Int×Int)=>(Ao.mk r.1 r.2.1 r.2.2.1 r.2.2.2.1 r.2.2.2.2)
 |2=>fun(r:Bool×(List UInt8)×(List UInt8))=>(Af.mk r.1 r.2.1 r.2.2)
 |3=>fun(r:Int×Bool×(List UInt8)×(List UInt8))=>(Bw.mk r.1 (Af.mk r.2.1 r.2.2.1 r.2.2.2))
 |4=>fun(r:(List Bw))=>(Bg.mk r)
 |5=>fun(r:Int×Int×Bool×(List UInt8)×(List UInt8)×Int×(List Bw))=>(Al.mk r.1 r.2.1 (Af.mk r.2.2.1 r.2.2.2.1 r.2.2.2.2.1) r.2.2.2.2.2.1 (Bg.mk r.2.2.2.2.2.2))
 |6=>fun(r:Int×(List Int))=>(AU.mk r.1 r.2)
 |7=>fun(r:Int×Bool×(List UInt8)×(List UInt8))=>(HY.mk r.1 (Af.mk r.2.1 r.2.2.1 r.2.2.2))
 |8=>fun(r:(List Ao)×(List Ao))=>(Jr.mk r.1 r.2)
 |9=>fun(r:Int×Int)=>(HZ.mk r.1 r.2)
 |10=>fun(r:Int×Int)=>(Ia.mk r.1 r.2)
 |11=>fun(r:Bool×(List UInt8)×(List UInt8))=>(AX.mk r.1 r.2.1 r.2.2)
 |12=>fun(r:Int×Int)=>(A9.mk r.1 r.2)
 |13=>fun(r:Int×Int×(List AM)×Int×Int×(List A9)×(List (List Af))×(List (List Int)))=>(Js.mk (Ao.mk r.1 r.2.1 r.2.2.1 r.2.2.2.1 r.2.2.2.2.1) r.2.2.2.2.2.1 r.2.2.2.2.2.2.1 r.2.2.2.2.2.2.2)
 |14=>fun(r:(List UInt8)×(List UInt8)×Int)=>(Gm.mk r.1 r.2.1 r.2.2)
 |15=>fun(r:(List UInt8)×Int)=>(EL.mk r.1 r.2)
 |16=>fun(r:Bool×(List UInt8)×(List UInt8)×Int)=>(F3.mk (Af.mk r.1 r.2.1 r.2.2.1) r.2.2.2)
 |17=>fun(r:(List Al)×Int)=>(Jt.mk r.1 r.2)
 |18=>fun(r:(List A9)×Int)=>(Ju.mk r.1 r.2)
 |19=>fun(r:Bool×(List UInt8)×(List UInt8)×Bool×(List UInt8)×(List UInt8))=>(Fq.mk (Af.mk r.1 r.2.1 r.2.2.1) (Af.mk r.2.2.2.1 r.2.2.2.2.1 r.2.2.2.2.2))
 |20=>fun(r:Bool×(List UInt8)×(List UInt8)×Bool×(List UInt8)×(List UInt8)×Int)=>(Ib.mk (Fq.mk (Af.mk r.1 r.2.1 r.2.2.1) (Af.mk r.2.2.2.1 r.2.2.2.2.1 r.2.2.2.2.2.1)) r.2.2.2.2.2.2)
 |n+21=>fun _=>()
def tun:(i:Nat)->tT i->Row (tls i)
 |0=>fun(x:AM)=>(x.Stage,x.Ticks)
 |1=>fun(x:Ao)=>(x.From,x.To,x.Table,x.Lo,x.Hi)
 |2=>fun(x:Af)=>(x.Neg,x.Num,x.Den)
 |3=>fun(x:Bw)=>(x.Stage,x.Flow.Neg,x.Flow.Num,x.Flow.Den)
 |4=>fun(x:Bg)=>(x.Points)
 |5=>fun(x:Al)=>(x.From,x.To,x.Weight.Neg,x.Weight.Num,x.Weight.Den,x.Datum,x.Curve.Points)
 |6=>fun(x:AU)=>(x.From,x.Stages)
 |7=>fun(x:HY)=>(x.At,x.By.Neg,x.By.Num,x.By.Den)
 |8=>fun(x:Jr)=>(x.A,x.B)
 |9=>fun(x:HZ)=>(x.From,x.To)
 |10=>fun(x:Ia)=>(x.e0,x.e1)
 |11=>fun(x:AX)=>(x.neg,x.num,x.den)
 |12=>fun(x:A9)=>(x.Span,x.Ticks)
 |13=>fun(x:Js)=>(x.run.From,x.run.To,x.run.Table,x.run.Lo,x.run.Hi,x.classes,x.cost,x.x)
 |14=>fun(x:Gm)=>(x.Q,x.R,x.E)
 |15=>fun(x:EL)=>(x.S,x.E)
 |16=>fun(x:F3)=>(x.A.Neg,x.A.Num,x.A.Den,x.E)
 |17=>fun(x:Jt)=>(x.L,x.E)
 |18=>fun(x:Ju)=>(x.L,x.E)
 |19=>fun(x:Fq)=>(x.Lo.Neg,x.Lo.Num,x.Lo.Den,x.Hi.Neg,x.Hi.Num,x.Hi.Den)
 |20=>fun(x:Ib)=>(x.B.Lo.Neg,x.B.Lo.Num,x.B.Lo.Den,x.B.Hi.Neg,x.B.Hi.Num,x.B.Hi.Den,x.E)
 |n+21=>fun _=>()
@[reducible] def tin:(i:Nat)->Inhabited (tT i)
 |0=>(inferInstance:Inhabited AM)
 |1=>(inferInstance:Inhabited Ao)
 |2=>(inferInstance:Inhabited Af)
 |3=>(inferInstance:Inhabited Bw)
 |4=>(inferInstance:Inhabited Bg)
 |5=>(inferInstance:Inhabited Al)
 |6=>(inferInstance:Inhabited AU)
 |7=>(inferInstance:Inhabited HY)
 |8=>(inferInstance:Inhabited Jr)
 |9=>(inferInstance:Inhabited HZ)
 |10=>(inferInstance:Inhabited Ia)
 |11=>(inferInstance:Inhabited AX)
 |12=>(inferInstance:Inhabited A9)
 |13=>(inferInstance:Inhabited Js)
 |14=>(inferInstance:Inhabited Gm)
 |15=>(inferInstance:Inhabited EL)
 |16=>(inferInstance:Inhabited F3)
 |17=>(inferInstance:Inhabited Jt)
 |18=>(inferInstance:Inhabited Ju)
 |19=>(inferInstance:Inhabited Fq)
 |20=>(inferInstance:Inhabited Ib)
 |n+21=>(inferInstance:Inhabited Unit)
def tca:(i:Nat)->tT i->List Aa
 |0=>AM.cells
 |1=>Ao.cells
 |2=>Af.cells
 |3=>Bw.cells
 |4=>Bg.cells
 |5=>Al.cells
 |6=>AU.cells
 |7=>HY.cells
 |8=>Jr.cells
 |9=>HZ.cells
 |10=>Ia.cells
 |11=>AX.cells
 |12=>A9.cells
 |13=>Js.cells
 |14=>Gm.cells
 |15=>EL.cells
 |16=>F3.cells
 |17=>Jt.cells
 |18=>Ju.cells
 |19=>Fq.cells
 |20=>Ib.cells
 |n+21=>fun _=>[]
def tkk:Nat->Option (List Nat)
 |0=>some [1,1]
 |2=>some [0,2,2]
 |3=>some [1,0,2,2]
 |7=>some [1,0,2,2]
 |9=>some [1,1]
 |10=>some [1,1]
 |11=>some [0,2,2]
 |12=>some [1,1]
 |14=>some [2,2,1]
 |15=>some [2,1]
 |16=>some [0,2,2,1]
 |19=>some [0,2,2,0,2,2]
 |20=>some [0,2,2,0,2,2,1]
 |_=>none
def tke:(i:Nat)->tT i->tT i->Bool
 |0=>qz43
 |1=>fun _ _=>true
 |2=>qz60
 |3=>qz1r
 |4=>fun _ _=>true
 |5=>fun _ _=>true
 |6=>fun _ _=>true
 |7=>qzyt
 |8=>fun _ _=>true
 |9=>qz1w
 |10=>qz29
 |11=>qzu7
 |12=>qz1u
 |13=>fun _ _=>true
 |14=>qzuk
 |15=>qzy2
 |16=>qzzm
 |17=>fun _ _=>true
 |18=>fun _ _=>true
 |19=>qzyp
 |20=>qzuj
 |n+21=>fun _ _=>true
theorem teA:(i:Nat)->Row (tfa i)=tFA i
 |0=>rfl
 |1=>rfl
 |2=>rfl
 |3=>rfl
 |4=>rfl
 |n+5=>rfl
theorem teR:(i:Nat)->Row (tfr i)=tFR i
 |0=>rfl
 |1=>rfl
 |2=>rfl
 |3=>rfl
 |4=>rfl
 |n+5=>rfl
noncomputable instance tab:Tab:=⟨tls,tmk,tun,tin,tca,tfa,tfr,teA,teR,tkk,tke⟩
theorem nr0(x:AM)(v:Aa)(h:v∈AM.cells x):AB v:=by
 have k:∀v∈AM.cells x,AB v:=by unfold AM.cells;simp only[DM];exact⟨.int _ _,.int _ _,fun _ h=>by cases h⟩
 exact k v h
theorem nr1(x:Ao)(v:Aa)(h:v∈Ao.cells x):AB v:=by
 have k:∀v∈Ao.cells x,AB v:=by unfold Ao.cells;simp only[DM];exact⟨.int _ _,.int _ _,CH (fun x v h=>nr0 x v h),.int _ _,.int _ _,fun _ h=>by cases h⟩
 exact k v h
theorem nr2(x:Af)(v:Aa)(h:v∈Af.cells x):AB v:=by
 have k:∀v∈Af.cells x,AB v:=by unfold Af.cells;simp only[DM];exact⟨.bool _,.str _,.str _,fun _ h=>by cases h⟩
 exact k v h
theorem nr3(x:Bw)(v:Aa)(h:v∈Bw.cells x):AB v:=by
 have k:∀v∈Bw.cells x,AB v:=by unfold Bw.cells;simp only[DM];exact⟨.int _ _,.bool _,.str _,.str _,fun _ h=>by cases h⟩
 exact k v h
theorem nr4(x:Bg)(v:Aa)(h:v∈Bg.cells x):AB v:=by
 have k:∀v∈Bg.cells x,AB v:=by unfold Bg.cells;simp only[DM];exact⟨CH (fun x v h=>nr3 x v h),fun _ h=>by cases h⟩
 exact k v h
theorem nr5(x:Al)(v:Aa)(h:v∈Al.cells x):AB v:=by
 have k:∀v∈Al.cells x,AB v:=by unfold Al.cells;simp only[DM];exact⟨.int _ _,.int _ _,.bool _,.str _,.str _,.int _ _,CH (fun x v h=>nr3 x v h),fun _ h=>by cases h⟩
 exact k v h
theorem nr6(x:AU)(v:Aa)(h:v∈AU.cells x):AB v:=by
 have k:∀v∈AU.cells x,AB v:=by unfold AU.cells;simp only[DM];exact⟨.int _ _,CH (fun x v h=>U8 v h),fun _ h=>by cases h⟩
 exact k v h
theorem nr7(x:HY)(v:Aa)(h:v∈HY.cells x):AB v:=by
 have k:∀v∈HY.cells x,AB v:=by unfold HY.cells;simp only[DM];exact⟨.int _ _,.bool _,.str _,.str _,fun _ h=>by cases h⟩
 exact k v h
theorem nr8(x:Jr)(v:Aa)(h:v∈Jr.cells x):AB v:=by
 have k:∀v∈Jr.cells x,AB v:=by unfold Jr.cells;simp only[DM];exact⟨CH (fun x v h=>nr1 x v h),CH (fun x v h=>nr1 x v h),fun _ h=>by cases h⟩
 exact k v h
theorem nr9(x:HZ)(v:Aa)(h:v∈HZ.cells x):AB v:=by
 have k:∀v∈HZ.cells x,AB v:=by unfold HZ.cells;simp only[DM];exact⟨.int _ _,.int _ _,fun _ h=>by cases h⟩
 exact k v h
theorem nr10(x:Ia)(v:Aa)(h:v∈Ia.cells x):AB v:=by
 have k:∀v∈Ia.cells x,AB v:=by unfold Ia.cells;simp only[DM];exact⟨.int _ _,.int _ _,fun _ h=>by cases h⟩
 exact k v h
theorem nr11(x:AX)(v:Aa)(h:v∈AX.cells x):AB v:=by
 have k:∀v∈AX.cells x,AB v:=by unfold AX.cells;simp only[DM];exact⟨.bool _,.str _,.str _,fun _ h=>by cases h⟩
 exact k v h
theorem nr12(x:A9)(v:Aa)(h:v∈A9.cells x):AB v:=by
 have k:∀v∈A9.cells x,AB v:=by unfold A9.cells;simp only[DM];exact⟨.int _ _,.int _ _,fun _ h=>by cases h⟩
 exact k v h
theorem nr13(x:Js)(v:Aa)(h:v∈Js.cells x):AB v:=by
 have k:∀v∈Js.cells x,AB v:=by unfold Js.cells;simp only[DM];exact⟨.int _ _,.int _ _,CH (fun x v h=>nr0 x v h),.int _ _,.int _ _,CH (fun x v h=>nr12 x v h),CH (fun x v h=>(by rcases BX.1 h with rfl;exact CH (fun x v h=>nr2 x v h))),CH (fun x v h=>(by rcases BX.1 h with rfl;exact CH (fun x v h=>U8 v h))),fun _ h=>by cases h⟩
 exact k v h
theorem nr14(x:Gm)(v:Aa)(h:v∈Gm.cells x):AB v:=by
 have k:∀v∈Gm.cells x,AB v:=by unfold Gm.cells;simp only[DM];exact⟨.str _,.str _,.int _ _,fun _ h=>by cases h⟩
 exact k v h
theorem nr15(x:EL)(v:Aa)(h:v∈EL.cells x):AB v:=by
 have k:∀v∈EL.cells x,AB v:=by unfold EL.cells;simp only[DM];exact⟨.str _,.int _ _,fun _ h=>by cases h⟩
 exact k v h
theorem nr16(x:F3)(v:Aa)(h:v∈F3.cells x):AB v:=by
 have k:∀v∈F3.cells x,AB v:=by unfold F3.cells;simp only[DM];exact⟨.bool _,.str _,.str _,.int _ _,fun _ h=>by cases h⟩
 exact k v h
theorem nr17(x:Jt)(v:Aa)(h:v∈Jt.cells x):AB v:=by
 have k:∀v∈Jt.cells x,AB v:=by unfold Jt.cells;simp only[DM];exact⟨CH (fun x v h=>nr5 x v h),.int _ _,fun _ h=>by cases h⟩
 exact k v h
theorem nr18(x:Ju)(v:Aa)(h:v∈Ju.cells x):AB v:=by
 have k:∀v∈Ju.cells x,AB v:=by unfold Ju.cells;simp only[DM];exact⟨CH (fun x v h=>nr12 x v h),.int _ _,fun _ h=>by cases h⟩
 exact k v h
theorem nr19(x:Fq)(v:Aa)(h:v∈Fq.cells x):AB v:=by
 have k:∀v∈Fq.cells x,AB v:=by unfold Fq.cells;simp only[DM];exact⟨.bool _,.str _,.str _,.bool _,.str _,.str _,fun _ h=>by cases h⟩
 exact k v h
theorem nr20(x:Ib)(v:Aa)(h:v∈Ib.cells x):AB v:=by
 have k:∀v∈Ib.cells x,AB v:=by unfold Ib.cells;simp only[DM];exact⟨.bool _,.str _,.str _,.bool _,.str _,.str _,.int _ _,fun _ h=>by cases h⟩
 exact k v h
instance tabOk:TabOk where
 unmk i r:=match i,r with
  |0,r=>rfl
  |1,r=>rfl
  |2,r=>rfl
  |3,r=>rfl
  |4,r=>rfl
  |5,r=>rfl
  |6,r=>rfl
  |7,r=>rfl
  |8,r=>rfl
  |9,r=>rfl
  |10,r=>rfl
  |11,r=>rfl
  |12,r=>rfl
  |13,r=>rfl
  |14,r=>rfl
  |15,r=>rfl
  |16,r=>rfl
  |17,r=>rfl
  |18,r=>rfl
  |19,r=>rfl
  |20,r=>rfl
  |_+21,r=>rfl
 cells i x:=match i,x with
  |0,x=>(by kernel_rfl)
  |1,x=>(by kernel_rfl)
  |2,x=>(by kernel_rfl)
  |3,x=>(by kernel_rfl)
  |4,x=>(by kernel_rfl)
  |5,x=>(by kernel_rfl)
  |6,x=>(by kernel_rfl)
  |7,x=>(by kernel_rfl)
  |8,x=>(by kernel_rfl)
  |9,x=>(by kernel_rfl)
  |10,x=>(by kernel_rfl)
  |11,x=>(by kernel_rfl)
  |12,x=>(by kernel_rfl)
  |13,x=>(by kernel_rfl)
  |14,x=>(by kernel_rfl)
  |15,x=>(by kernel_rfl)
  |16,x=>(by kernel_rfl)
  |17,x=>(by kernel_rfl)
  |18,x=>(by kernel_rfl)
  |19,x=>(by kernel_rfl)
  |20,x=>(by kernel_rfl)
  |_+21,x=>(by kernel_rfl)
 nor i x v h:=match i,x,h with
  |0,x,h=>nr0 x v h
  |1,x,h=>nr1 x v h
  |2,x,h=>nr2 x v h
  |3,x,h=>nr3 x v h
  |4,x,h=>nr4 x v h
  |5,x,h=>nr5 x v h
  |6,x,h=>nr6 x v h
  |7,x,h=>nr7 x v h
  |8,x,h=>nr8 x v h
  |9,x,h=>nr9 x v h
  |10,x,h=>nr10 x v h
  |11,x,h=>nr11 x v h
  |12,x,h=>nr12 x v h
  |13,x,h=>nr13 x v h
  |14,x,h=>nr14 x v h
  |15,x,h=>nr15 x v h
  |16,x,h=>nr16 x v h
  |17,x,h=>nr17 x v h
  |18,x,h=>nr18 x v h
  |19,x,h=>nr19 x v h
  |20,x,h=>nr20 x v h
  |_+21,x,h=>(by cases h)
 pos i c h j e:=match i,h with
  |0,h=>(by subst e;simp[Tab.ls,tls]at h)
  |1,h=>(by subst e;simp[Tab.ls,tls]at h)
  |2,h=>(by subst e;simp[Tab.ls,tls]at h)
  |3,h=>(by subst e;simp[Tab.ls,tls]at h)
  |4,h=>(by subst e;simp[Tab.ls,tls]at h)
  |5,h=>(by subst e;simp[Tab.ls,tls]at h)
  |6,h=>(by subst e;simp[Tab.ls,tls]at h)
  |7,h=>(by subst e;simp[Tab.ls,tls]at h)
  |8,h=>(by subst e;simp[Tab.ls,tls]at h)
  |9,h=>(by subst e;simp[Tab.ls,tls]at h)
  |10,h=>(by subst e;simp[Tab.ls,tls]at h)
  |11,h=>(by subst e;simp[Tab.ls,tls]at h)
  |12,h=>(by subst e;simp[Tab.ls,tls]at h)
  |13,h=>(by subst e;simp[Tab.ls,tls]at h)
  |14,h=>(by subst e;simp[Tab.ls,tls]at h)
  |15,h=>(by subst e;simp[Tab.ls,tls]at h)
  |16,h=>(by subst e;simp[Tab.ls,tls]at h)
  |17,h=>(by subst e;simp[Tab.ls,tls]at h)
  |18,h=>(by subst e;simp[Tab.ls,tls]at h)
  |19,h=>(by subst e;simp[Tab.ls,tls]at h)
  |20,h=>(by subst e;simp[Tab.ls,tls]at h)
  |_+21,h=>(by subst e;cases h)
 aA i x:=match i,x with
  |0,x=>(by kernel_rfl)
  |1,x=>(by kernel_rfl)
  |2,x=>(by kernel_rfl)
  |3,x=>(by kernel_rfl)
  |4,x=>(by kernel_rfl)
  |_+5,x=>(by kernel_rfl)
 aR i x:=match i,x with
  |0,x=>(by kernel_rfl)
  |1,x=>(by kernel_rfl)
  |2,x=>(by kernel_rfl)
  |3,x=>(by kernel_rfl)
  |4,x=>(by kernel_rfl)
  |_+5,x=>(by kernel_rfl)
 kq i x y l h:=match i,x,y,l,h with
  |0,x,y,_,h=>(by cases h;exact⟨rfl,by kernel_rfl⟩)
  |1,x,y,_,h=>(by cases h)
  |2,x,y,_,h=>(by cases h;exact⟨rfl,by kernel_rfl⟩)
  |3,x,y,_,h=>(by cases h;exact⟨rfl,by kernel_rfl⟩)
  |4,x,y,_,h=>(by cases h)
  |5,x,y,_,h=>(by cases h)
  |6,x,y,_,h=>(by cases h)
  |7,x,y,_,h=>(by cases h;exact⟨rfl,by kernel_rfl⟩)
  |8,x,y,_,h=>(by cases h)
  |9,x,y,_,h=>(by cases h;exact⟨rfl,by kernel_rfl⟩)
  |10,x,y,_,h=>(by cases h;exact⟨rfl,by kernel_rfl⟩)
  |11,x,y,_,h=>(by cases h;exact⟨rfl,by kernel_rfl⟩)
  |12,x,y,_,h=>(by cases h;exact⟨rfl,by kernel_rfl⟩)
  |13,x,y,_,h=>(by cases h)
  |14,x,y,_,h=>(by cases h;exact⟨rfl,by kernel_rfl⟩)
  |15,x,y,_,h=>(by cases h;exact⟨rfl,by kernel_rfl⟩)
  |16,x,y,_,h=>(by cases h;exact⟨rfl,by kernel_rfl⟩)
  |17,x,y,_,h=>(by cases h)
  |18,x,y,_,h=>(by cases h)
  |19,x,y,_,h=>(by cases h;exact⟨rfl,by kernel_rfl⟩)
  |20,x,y,_,h=>(by cases h;exact⟨rfl,by kernel_rfl⟩)
  |_+21,x,y,_,h=>(by cases h)
end Go.Am

