/- Part F2: the functions of this seat as functions of plain values. No condition. -/
import Derived.Test.YtibbibelkkgfpaaGreatDoorT3
import Derived.Test.YtibbibelkkgfpaaGreatDoorF1
import Derived.Test.YtibbibelkkgfpaaGreatDoorChecked
set_option linter.unusedVariables false
namespace Go.Am
open Go.Proofs
def EE:Nat->Aa:=fun _=>.top
def AM.cells(x:AM):List Aa:=[.int .i64 x.Stage,.int .i64 x.Ticks]
def Al.cells(x:Al):List Aa:=[.int .i64 x.From,.int .i64 x.To,slcV 2 AM.cells x.Table,.int .i64 x.Lo,.int .i64 x.Hi]
def Af.cells(x:Af):List Aa:=[.bool x.Neg,.str x.Num,.str x.Den]
def Bz.cells(x:Bz):List Aa:=[.int .i64 x.Stage,.bool x.Flow.Neg,.str x.Flow.Num,.str x.Flow.Den]
def Bh.cells(x:Bh):List Aa:=[slcV 4 Bz.cells x.Points]
def An.cells(x:An):List Aa:=[.int .i64 x.From,.int .i64 x.To,.bool x.Weight.Neg,.str x.Weight.Num,.str x.Weight.Den,.int .i64 x.Datum,slcV 4 Bz.cells x.Curve.Points]
def AD.cells(x:AD):List Aa:=[.int .i64 x.From,slcV 1 (cI .i64) x.Stages]
def Ic.cells(x:Ic):List Aa:=[.int .u8 x.At,.bool x.By.Neg,.str x.By.Num,.str x.By.Den]
def Jw.cells(x:Jw):List Aa:=[slcV 5 Al.cells x.A,slcV 5 Al.cells x.B]
def Ie.cells(x:Ie):List Aa:=[.int .i64 x.From,.int .i64 x.To]
def Ig.cells(x:Ig):List Aa:=[.int .i64 x.e0,.int .i64 x.e1]
def AZ.cells(x:AZ):List Aa:=[.bool x.neg,.str x.num,.str x.den]
def AB.cells(x:AB):List Aa:=[.int .i64 x.Span,.int .i64 x.Ticks]
def Jx.cells(x:Jx):List Aa:=[.int .i64 x.run.From,.int .i64 x.run.To,slcV 2 AM.cells x.run.Table,.int .i64 x.run.Lo,.int .i64 x.run.Hi,slcV 2 AB.cells x.classes,slcV 1 (cL 3 Af.cells) x.cost,slcV 1 (cL 1 (cI .i64)) x.x]
def Gp.cells(x:Gp):List Aa:=[.str x.Q,.str x.R,.int .i64 x.E]
def EO.cells(x:EO):List Aa:=[.str x.S,.int .i64 x.E]
def F0.cells(x:F0):List Aa:=[.bool x.A.Neg,.str x.A.Num,.str x.A.Den,.int .i64 x.E]
def Jy.cells(x:Jy):List Aa:=[slcV 7 An.cells x.L,.int .i64 x.E]
def Jz.cells(x:Jz):List Aa:=[slcV 2 AB.cells x.L,.int .i64 x.E]
def Fp.cells(x:Fp):List Aa:=[.bool x.Lo.Neg,.str x.Lo.Num,.str x.Lo.Den,.bool x.Hi.Neg,.str x.Hi.Num,.str x.Hi.Den]
def Ih.cells(x:Ih):List Aa:=[.bool x.B.Lo.Neg,.str x.B.Lo.Num,.str x.B.Lo.Den,.bool x.B.Hi.Neg,.str x.B.Hi.Num,.str x.B.Hi.Den,.int .i64 x.E]
def tT:Nat->Type
 |0=>AM
 |1=>Al
 |2=>Af
 |3=>Bz
 |4=>Bh
 |5=>An
 |6=>AD
 |7=>Ic
 |8=>Jw
 |9=>Ie
 |10=>Ig
 |11=>AZ
 |12=>AB
 |13=>Jx
 |14=>Gp
 |15=>EO
 |16=>F0
 |17=>Jy
 |18=>Jz
 |19=>Fp
 |20=>Ih
 |n+21=>Unit
def tFA:Nat->Type
 |0=>Al×Al
 |1=>Int
 |2=>Int×Int
 |3=>(List Int)×(List Int)
 |4=>AZ
 |_=>Unit
def tFR:Nat->Type
 |0=>Al×Bool
 |1=>Bool
 |2=>Bool
 |3=>(List Int)
 |4=>AZ
 |_=>Unit
noncomputable def taA:(i:Nat)->tFA i->List Aa
 |0=>fun(x:Al×Al)=>[.agg (Al.cells x.1),.agg (Al.cells x.2)]
 |1=>fun(x:Int)=>[.int .i64 x]
 |2=>fun(x:Int×Int)=>[.int .i64 x.1,.int .i64 x.2]
 |3=>fun(x:(List Int)×(List Int))=>[slcV 1 (cI .u32) x.1,slcV 1 (cI .u32) x.2]
 |4=>fun(x:AZ)=>[.agg (AZ.cells x)]
 |n+5=>fun _=>[]
noncomputable def taR:(i:Nat)->tFR i->Aa
 |0=>fun(x:Al×Bool)=>.tup [.agg (Al.cells x.1),.bool x.2]
 |1=>fun(x:Bool)=>.bool x
 |2=>fun(x:Bool)=>.bool x
 |3=>fun(x:(List Int))=>slcV 1 (cI .u32) x
 |4=>fun(x:AZ)=>.agg (AZ.cells x)
 |n+5=>fun _=>.tup []
def tfa:Nat->List CT
 |0=>[(.us 1),(.us 1)]
 |1=>[(.int .i64)]
 |2=>[(.int .i64),(.int .i64)]
 |3=>[(.slc (.int .u32)),(.slc (.int .u32))]
 |4=>[(.us 11)]
 |_=>[]
def tfr:Nat->List CT
 |0=>[(.us 1),.bool]
 |1=>[.bool]
 |2=>[.bool]
 |3=>[(.slc (.int .u32))]
 |4=>[(.us 11)]
 |_=>[]
noncomputable instance tabT:TabT:=⟨tT,EE,Tryz.prog,tFA,tFR,taA,taR⟩
def tls:Nat->List CT
 |0=>[(.int .i64),(.int .i64)]
 |1=>[(.int .i64),(.int .i64),(.slc (.us 0)),(.int .i64),(.int .i64)]
 |2=>[.bool,.str,.str]
 |3=>[(.int .i64),.bool,.str,.str]
 |4=>[(.slc (.us 3))]
 |5=>[(.int .i64),(.int .i64),.bool,.str,.str,(.int .i64),(.slc (.us 3))]
 |6=>[(.int .i64),(.slc (.int .i64))]
 |7=>[(.int .u8),.bool,.str,.str]
 |8=>[(.slc (.us 1)),(.slc (.us 1))]
 |9=>[(.int .i64),(.int .i64)]
 |10=>[(.int .i64),(.int .i64)]
 |11=>[.bool,.str,.str]
 |12=>[(.int .i64),(.int .i64)]
 |13=>[(.int .i64),(.int .i64),(.slc (.us 0)),(.int .i64),(.int .i64),(.slc (.us 12)),(.slc (.slc (.us 2))),(.slc (.slc (.int .i64)))]
 |14=>[.str,.str,(.int .i64)]
 |15=>[.str,(.int .i64)]
 |16=>[.bool,.str,.str,(.int .i64)]
 |17=>[(.slc (.us 5)),(.int .i64)]
 |18=>[(.slc (.us 12)),(.int .i64)]
 |19=>[.bool,.str,.str,.bool,.str,.str]
 |20=>[.bool,.str,.str,.bool,.str,.str,(.int .i64)]
 |n+21=>[]
def tmk:(i:Nat)->Row (tls i)->tT i
 |0=>fun(r:Int×Int)=>(AM.mk r.1 r.2)
 |1=>fun(r:Int×Int×(List AM)×Int×Int)=>(Al.mk r.1 r.2.1 r.2.2.1 r.2.2.2.1 r.2.2.2.2)
 |2=>fun(r:Bool×(List UInt8)×(List UInt8))=>(Af.mk r.1 r.2.1 r.2.2)
 |3=>fun(r:Int×Bool×(List UInt8)×(List UInt8))=>(Bz.mk r.1 (Af.mk r.2.1 r.2.2.1 r.2.2.2))
 |4=>fun(r:(List Bz))=>(Bh.mk r)
 |5=>fun(r:Int×Int×Bool×(List UInt8)×(List UInt8)×Int×(List Bz))=>(An.mk r.1 r.2.1 (Af.mk r.2.2.1 r.2.2.2.1 r.2.2.2.2.1) r.2.2.2.2.2.1 (Bh.mk r.2.2.2.2.2.2))
 |6=>fun(r:Int×(List Int))=>(AD.mk r.1 r.2)
 |7=>fun(r:Int×Bool×(List UInt8)×(List UInt8))=>(Ic.mk r.1 (Af.mk r.2.1 r.2.2.1 r.2.2.2))
 |8=>fun(r:(List Al)×(List Al))=>(Jw.mk r.1 r.2)
 |9=>fun(r:Int×Int)=>(Ie.mk r.1 r.2)
 |10=>fun(r:Int×Int)=>(Ig.mk r.1 r.2)
 |11=>fun(r:Bool×(List UInt8)×(List UInt8))=>(AZ.mk r.1 r.2.1 r.2.2)
 |12=>fun(r:Int×Int)=>(AB.mk r.1 r.2)
 |13=>fun(r:Int×Int×(List AM)×Int×Int×(List AB)×(List (List Af))×(List (List Int)))=>(Jx.mk (Al.mk r.1 r.2.1 r.2.2.1 r.2.2.2.1 r.2.2.2.2.1) r.2.2.2.2.2.1 r.2.2.2.2.2.2.1 r.2.2.2.2.2.2.2)
 |14=>fun(r:(List UInt8)×(List UInt8)×Int)=>(Gp.mk r.1 r.2.1 r.2.2)
 |15=>fun(r:(List UInt8)×Int)=>(EO.mk r.1 r.2)
 |16=>fun(r:Bool×(List UInt8)×(List UInt8)×Int)=>(F0.mk (Af.mk r.1 r.2.1 r.2.2.1) r.2.2.2)
 |17=>fun(r:(List An)×Int)=>(Jy.mk r.1 r.2)
 |18=>fun(r:(List AB)×Int)=>(Jz.mk r.1 r.2)
 |19=>fun(r:Bool×(List UInt8)×(List UInt8)×Bool×(List UInt8)×(List UInt8))=>(Fp.mk (Af.mk r.1 r.2.1 r.2.2.1) (Af.mk r.2.2.2.1 r.2.2.2.2.1 r.2.2.2.2.2))
 |20=>fun(r:Bool×(List UInt8)×(List UInt8)×Bool×(List UInt8)×(List UInt8)×Int)=>(Ih.mk (Fp.mk (Af.mk r.1 r.2.1 r.2.2.1) (Af.mk r.2.2.2.1 r.2.2.2.2.1 r.2.2.2.2.2.1)) r.2.2.2.2.2.2)
 |n+21=>fun _=>()
def tun:(i:Nat)->tT i->Row (tls i)
 |0=>fun(x:AM)=>(x.Stage,x.Ticks)
 |1=>fun(x:Al)=>(x.From,x.To,x.Table,x.Lo,x.Hi)
 |2=>fun(x:Af)=>(x.Neg,x.Num,x.Den)
 |3=>fun(x:Bz)=>(x.Stage,x.Flow.Neg,x.Flow.Num,x.Flow.Den)
 |4=>fun(x:Bh)=>(x.Points)
 |5=>fun(x:An)=>(x.From,x.To,x.Weight.Neg,x.Weight.Num,x.Weight.Den,x.Datum,x.Curve.Points)
 |6=>fun(x:AD)=>(x.From,x.Stages)
 |7=>fun(x:Ic)=>(x.At,x.By.Neg,x.By.Num,x.By.Den)
 |8=>fun(x:Jw)=>(x.A,x.B)
 |9=>fun(x:Ie)=>(x.From,x.To)
 |10=>fun(x:Ig)=>(x.e0,x.e1)
 |11=>fun(x:AZ)=>(x.neg,x.num,x.den)
 |12=>fun(x:AB)=>(x.Span,x.Ticks)
 |13=>fun(x:Jx)=>(x.run.From,x.run.To,x.run.Table,x.run.Lo,x.run.Hi,x.classes,x.cost,x.x)
 |14=>fun(x:Gp)=>(x.Q,x.R,x.E)
 |15=>fun(x:EO)=>(x.S,x.E)
 |16=>fun(x:F0)=>(x.A.Neg,x.A.Num,x.A.Den,x.E)
 |17=>fun(x:Jy)=>(x.L,x.E)
 |18=>fun(x:Jz)=>(x.L,x.E)
 |19=>fun(x:Fp)=>(x.Lo.Neg,x.Lo.Num,x.Lo.Den,x.Hi.Neg,x.Hi.Num,x.Hi.Den)
 |20=>fun(x:Ih)=>(x.B.Lo.Neg,x.B.Lo.Num,x.B.Lo.Den,x.B.Hi.Neg,x.B.Hi.Num,x.B.Hi.Den,x.E)
 |n+21=>fun _=>()
@[reducible] def tin:(i:Nat)->Inhabited (tT i)
 |0=>(inferInstance:Inhabited AM)
 |1=>(inferInstance:Inhabited Al)
 |2=>(inferInstance:Inhabited Af)
 |3=>(inferInstance:Inhabited Bz)
 |4=>(inferInstance:Inhabited Bh)
 |5=>(inferInstance:Inhabited An)
 |6=>(inferInstance:Inhabited AD)
 |7=>(inferInstance:Inhabited Ic)
 |8=>(inferInstance:Inhabited Jw)
 |9=>(inferInstance:Inhabited Ie)
 |10=>(inferInstance:Inhabited Ig)
 |11=>(inferInstance:Inhabited AZ)
 |12=>(inferInstance:Inhabited AB)
 |13=>(inferInstance:Inhabited Jx)
 |14=>(inferInstance:Inhabited Gp)
 |15=>(inferInstance:Inhabited EO)
 |16=>(inferInstance:Inhabited F0)
 |17=>(inferInstance:Inhabited Jy)
 |18=>(inferInstance:Inhabited Jz)
 |19=>(inferInstance:Inhabited Fp)
 |20=>(inferInstance:Inhabited Ih)
 |n+21=>(inferInstance:Inhabited Unit)
def tca:(i:Nat)->tT i->List Aa
 |0=>AM.cells
 |1=>Al.cells
 |2=>Af.cells
 |3=>Bz.cells
 |4=>Bh.cells
 |5=>An.cells
 |6=>AD.cells
 |7=>Ic.cells
 |8=>Jw.cells
 |9=>Ie.cells
 |10=>Ig.cells
 |11=>AZ.cells
 |12=>AB.cells
 |13=>Jx.cells
 |14=>Gp.cells
 |15=>EO.cells
 |16=>F0.cells
 |17=>Jy.cells
 |18=>Jz.cells
 |19=>Fp.cells
 |20=>Ih.cells
 |n+21=>fun _=>[]
def tkk:Nat->Option (List Nat)
 |0=>some [1,1]
 |2=>some [0,2,2]
 |3=>some [1,0,2,2]
 |7=>some [1,0,2,2]
 |9=>some [1,1]
 |10=>some [1,1]
 |11=>some [0,2,2]
 |12=>some [1,1]
 |14=>some [2,2,1]
 |15=>some [2,1]
 |16=>some [0,2,2,1]
 |19=>some [0,2,2,0,2,2]
 |20=>some [0,2,2,0,2,2,1]
 |_=>none
def tke:(i:Nat)->tT i->tT i->Bool
 |0=>qz43
 |1=>fun _ _=>true
 |2=>qz60
 |3=>qz1r
 |4=>fun _ _=>true
 |5=>fun _ _=>true
 |6=>fun _ _=>true
 |7=>qzyt
 |8=>fun _ _=>true
 |9=>qz1w
 |10=>qz29
 |11=>qzu7
 |12=>qz1u
 |13=>fun _ _=>true
 |14=>qzuk
 |15=>qzy2
 |16=>qzzm
 |17=>fun _ _=>true
 |18=>fun _ _=>true
 |19=>qzyp
 |20=>qzuj
 |n+21=>fun _ _=>true
theorem teA:(i:Nat)->Row (tfa i)=tFA i
 |0=>rfl
 |1=>rfl
 |2=>rfl
 |3=>rfl
 |4=>rfl
 |n+5=>rfl
theorem teR:(i:Nat)->Row (tfr i)=tFR i
 |0=>rfl
 |1=>rfl
 |2=>rfl
 |3=>rfl
 |4=>rfl
 |n+5=>rfl
noncomputable instance tab:Tab:=⟨tls,tmk,tun,tin,tca,tfa,tfr,teA,teR,tkk,tke⟩
theorem nr0(x:AM)(v:Aa)(h:v∈AM.cells x):AE v:=by
 have k:∀v∈AM.cells x,AE v:=by unfold AM.cells;simp only[DR];exact⟨.int _ _,.int _ _,fun _ h=>by cases h⟩
 exact k v h
theorem nr1(x:Al)(v:Aa)(h:v∈Al.cells x):AE v:=by
 have k:∀v∈Al.cells x,AE v:=by unfold Al.cells;simp only[DR];exact⟨.int _ _,.int _ _,C0 (fun x v h=>nr0 x v h),.int _ _,.int _ _,fun _ h=>by cases h⟩
 exact k v h
theorem nr2(x:Af)(v:Aa)(h:v∈Af.cells x):AE v:=by
 have k:∀v∈Af.cells x,AE v:=by unfold Af.cells;simp only[DR];exact⟨.bool _,.str _,.str _,fun _ h=>by cases h⟩
 exact k v h
theorem nr3(x:Bz)(v:Aa)(h:v∈Bz.cells x):AE v:=by
 have k:∀v∈Bz.cells x,AE v:=by unfold Bz.cells;simp only[DR];exact⟨.int _ _,.bool _,.str _,.str _,fun _ h=>by cases h⟩
 exact k v h
theorem nr4(x:Bh)(v:Aa)(h:v∈Bh.cells x):AE v:=by
 have k:∀v∈Bh.cells x,AE v:=by unfold Bh.cells;simp only[DR];exact⟨C0 (fun x v h=>nr3 x v h),fun _ h=>by cases h⟩
 exact k v h
theorem nr5(x:An)(v:Aa)(h:v∈An.cells x):AE v:=by
 have k:∀v∈An.cells x,AE v:=by unfold An.cells;simp only[DR];exact⟨.int _ _,.int _ _,.bool _,.str _,.str _,.int _ _,C0 (fun x v h=>nr3 x v h),fun _ h=>by cases h⟩
 exact k v h
theorem nr6(x:AD)(v:Aa)(h:v∈AD.cells x):AE v:=by
 have k:∀v∈AD.cells x,AE v:=by unfold AD.cells;simp only[DR];exact⟨.int _ _,C0 (fun x v h=>US v h),fun _ h=>by cases h⟩
 exact k v h
theorem nr7(x:Ic)(v:Aa)(h:v∈Ic.cells x):AE v:=by
 have k:∀v∈Ic.cells x,AE v:=by unfold Ic.cells;simp only[DR];exact⟨.int _ _,.bool _,.str _,.str _,fun _ h=>by cases h⟩
 exact k v h
theorem nr8(x:Jw)(v:Aa)(h:v∈Jw.cells x):AE v:=by
 have k:∀v∈Jw.cells x,AE v:=by unfold Jw.cells;simp only[DR];exact⟨C0 (fun x v h=>nr1 x v h),C0 (fun x v h=>nr1 x v h),fun _ h=>by cases h⟩
 exact k v h
theorem nr9(x:Ie)(v:Aa)(h:v∈Ie.cells x):AE v:=by
 have k:∀v∈Ie.cells x,AE v:=by unfold Ie.cells;simp only[DR];exact⟨.int _ _,.int _ _,fun _ h=>by cases h⟩
 exact k v h
theorem nr10(x:Ig)(v:Aa)(h:v∈Ig.cells x):AE v:=by
 have k:∀v∈Ig.cells x,AE v:=by unfold Ig.cells;simp only[DR];exact⟨.int _ _,.int _ _,fun _ h=>by cases h⟩
 exact k v h
theorem nr11(x:AZ)(v:Aa)(h:v∈AZ.cells x):AE v:=by
 have k:∀v∈AZ.cells x,AE v:=by unfold AZ.cells;simp only[DR];exact⟨.bool _,.str _,.str _,fun _ h=>by cases h⟩
 exact k v h
theorem nr12(x:AB)(v:Aa)(h:v∈AB.cells x):AE v:=by
 have k:∀v∈AB.cells x,AE v:=by unfold AB.cells;simp only[DR];exact⟨.int _ _,.int _ _,fun _ h=>by cases h⟩
 exact k v h
theorem nr13(x:Jx)(v:Aa)(h:v∈Jx.cells x):AE v:=by
 have k:∀v∈Jx.cells x,AE v:=by unfold Jx.cells;simp only[DR];exact⟨.int _ _,.int _ _,C0 (fun x v h=>nr0 x v h),.int _ _,.int _ _,C0 (fun x v h=>nr12 x v h),C0 (fun x v h=>(by rcases B3.1 h with rfl;exact C0 (fun x v h=>nr2 x v h))),C0 (fun x v h=>(by rcases B3.1 h with rfl;exact C0 (fun x v h=>US v h))),fun _ h=>by cases h⟩
 exact k v h
theorem nr14(x:Gp)(v:Aa)(h:v∈Gp.cells x):AE v:=by
 have k:∀v∈Gp.cells x,AE v:=by unfold Gp.cells;simp only[DR];exact⟨.str _,.str _,.int _ _,fun _ h=>by cases h⟩
 exact k v h
theorem nr15(x:EO)(v:Aa)(h:v∈EO.cells x):AE v:=by
 have k:∀v∈EO.cells x,AE v:=by unfold EO.cells;simp only[DR];exact⟨.str _,.int _ _,fun _ h=>by cases h⟩
 exact k v h
theorem nr16(x:F0)(v:Aa)(h:v∈F0.cells x):AE v:=by
 have k:∀v∈F0.cells x,AE v:=by unfold F0.cells;simp only[DR];exact⟨.bool _,.str _,.str _,.int _ _,fun _ h=>by cases h⟩
 exact k v h
theorem nr17(x:Jy)(v:Aa)(h:v∈Jy.cells x):AE v:=by
 have k:∀v∈Jy.cells x,AE v:=by unfold Jy.cells;simp only[DR];exact⟨C0 (fun x v h=>nr5 x v h),.int _ _,fun _ h=>by cases h⟩
 exact k v h
theorem nr18(x:Jz)(v:Aa)(h:v∈Jz.cells x):AE v:=by
 have k:∀v∈Jz.cells x,AE v:=by unfold Jz.cells;simp only[DR];exact⟨C0 (fun x v h=>nr12 x v h),.int _ _,fun _ h=>by cases h⟩
 exact k v h
theorem nr19(x:Fp)(v:Aa)(h:v∈Fp.cells x):AE v:=by
 have k:∀v∈Fp.cells x,AE v:=by unfold Fp.cells;simp only[DR];exact⟨.bool _,.str _,.str _,.bool _,.str _,.str _,fun _ h=>by cases h⟩
 exact k v h
theorem nr20(x:Ih)(v:Aa)(h:v∈Ih.cells x):AE v:=by
 have k:∀v∈Ih.cells x,AE v:=by unfold Ih.cells;simp only[DR];exact⟨.bool _,.str _,.str _,.bool _,.str _,.str _,.int _ _,fun _ h=>by cases h⟩
 exact k v h
instance tabOk:TabOk where
 unmk i r:=match i,r with
  |0,r=>rfl
  |1,r=>rfl
  |2,r=>rfl
  |3,r=>rfl
  |4,r=>rfl
  |5,r=>rfl
  |6,r=>rfl
  |7,r=>rfl
  |8,r=>rfl
  |9,r=>rfl
  |10,r=>rfl
  |11,r=>rfl
  |12,r=>rfl
  |13,r=>rfl
  |14,r=>rfl
  |15,r=>rfl
  |16,r=>rfl
  |17,r=>rfl
  |18,r=>rfl
  |19,r=>rfl
  |20,r=>rfl
  |_+21,r=>rfl
 cells i x:=match i,x with
  |0,x=>(by kernel_rfl)
  |1,x=>(by kernel_rfl)
  |2,x=>(by kernel_rfl)
  |3,x=>(by kernel_rfl)
  |4,x=>(by kernel_rfl)
  |5,x=>(by kernel_rfl)
  |6,x=>(by kernel_rfl)
  |7,x=>(by kernel_rfl)
  |8,x=>(by kernel_rfl)
  |9,x=>(by kernel_rfl)
  |10,x=>(by kernel_rfl)
  |11,x=>(by kernel_rfl)
  |12,x=>(by kernel_rfl)
  |13,x=>(by kernel_rfl)
  |14,x=>(by kernel_rfl)
  |15,x=>(by kernel_rfl)
  |16,x=>(by kernel_rfl)
  |17,x=>(by kernel_rfl)
  |18,x=>(by kernel_rfl)
  |19,x=>(by kernel_rfl)
  |20,x=>(by kernel_rfl)
  |_+21,x=>(by kernel_rfl)
 nor i x v h:=match i,x,h with
  |0,x,h=>nr0 x v h
  |1,x,h=>nr1 x v h
  |2,x,h=>nr2 x v h
  |3,x,h=>nr3 x v h
  |4,x,h=>nr4 x v h
  |5,x,h=>nr5 x v h
  |6,x,h=>nr6 x v h
  |7,x,h=>nr7 x v h
  |8,x,h=>nr8 x v h
  |9,x,h=>nr9 x v h
  |10,x,h=>nr10 x v h
  |11,x,h=>nr11 x v h
  |12,x,h=>nr12 x v h
  |13,x,h=>nr13 x v h
  |14,x,h=>nr14 x v h
  |15,x,h=>nr15 x v h
  |16,x,h=>nr16 x v h
  |17,x,h=>nr17 x v h
  |18,x,h=>nr18 x v h
  |19,x,h=>nr19 x v h
  |20,x,h=>nr20 x v h
  |_+21,x,h=>(by cases h)
 pos i c h j e:=match i,h with
  |0,h=>(by subst e;simp[Tab.ls,tls]at h)
  |1,h=>(by subst e;simp[Tab.ls,tls]at h)
  |2,h=>(by subst e;simp[Tab.ls,tls]at h)
  |3,h=>(by subst e;simp[Tab.ls,tls]at h)
  |4,h=>(by subst e;simp[Tab.ls,tls]at h)
  |5,h=>(by subst e;simp[Tab.ls,tls]at h)
  |6,h=>(by subst e;simp[Tab.ls,tls]at h)
  |7,h=>(by subst e;simp[Tab.ls,tls]at h)
  |8,h=>(by subst e;simp[Tab.ls,tls]at h)
  |9,h=>(by subst e;simp[Tab.ls,tls]at h)
  |10,h=>(by subst e;simp[Tab.ls,tls]at h)
  |11,h=>(by subst e;simp[Tab.ls,tls]at h)
  |12,h=>(by subst e;simp[Tab.ls,tls]at h)
  |13,h=>(by subst e;simp[Tab.ls,tls]at h)
  |14,h=>(by subst e;simp[Tab.ls,tls]at h)
  |15,h=>(by subst e;simp[Tab.ls,tls]at h)
  |16,h=>(by subst e;simp[Tab.ls,tls]at h)
  |17,h=>(by subst e;simp[Tab.ls,tls]at h)
  |18,h=>(by subst e;simp[Tab.ls,tls]at h)
  |19,h=>(by subst e;simp[Tab.ls,tls]at h)
  |20,h=>(by subst e;simp[Tab.ls,tls]at h)
  |_+21,h=>(by subst e;cases h)
 aA i x:=match i,x with
  |0,x=>(by kernel_rfl)
  |1,x=>(by kernel_rfl)
  |2,x=>(by kernel_rfl)
  |3,x=>(by kernel_rfl)
  |4,x=>(by kernel_rfl)
  |_+5,x=>(by kernel_rfl)
 aR i x:=match i,x with
  |0,x=>(by kernel_rfl)
  |1,x=>(by kernel_rfl)
  |2,x=>(by kernel_rfl)
  |3,x=>(by kernel_rfl)
  |4,x=>(by kernel_rfl)
  |_+5,x=>(by kernel_rfl)
 kq i x y l h:=match i,x,y,l,h with
  |0,x,y,_,h=>(by cases h;exact⟨rfl,by kernel_rfl⟩)
  |1,x,y,_,h=>(by cases h)
  |2,x,y,_,h=>(by cases h;exact⟨rfl,by kernel_rfl⟩)
  |3,x,y,_,h=>(by cases h;exact⟨rfl,by kernel_rfl⟩)
  |4,x,y,_,h=>(by cases h)
  |5,x,y,_,h=>(by cases h)
  |6,x,y,_,h=>(by cases h)
  |7,x,y,_,h=>(by cases h;exact⟨rfl,by kernel_rfl⟩)
  |8,x,y,_,h=>(by cases h)
  |9,x,y,_,h=>(by cases h;exact⟨rfl,by kernel_rfl⟩)
  |10,x,y,_,h=>(by cases h;exact⟨rfl,by kernel_rfl⟩)
  |11,x,y,_,h=>(by cases h;exact⟨rfl,by kernel_rfl⟩)
  |12,x,y,_,h=>(by cases h;exact⟨rfl,by kernel_rfl⟩)
  |13,x,y,_,h=>(by cases h)
  |14,x,y,_,h=>(by cases h;exact⟨rfl,by kernel_rfl⟩)
  |15,x,y,_,h=>(by cases h;exact⟨rfl,by kernel_rfl⟩)
  |16,x,y,_,h=>(by cases h;exact⟨rfl,by kernel_rfl⟩)
  |17,x,y,_,h=>(by cases h)
  |18,x,y,_,h=>(by cases h)
  |19,x,y,_,h=>(by cases h;exact⟨rfl,by kernel_rfl⟩)
  |20,x,y,_,h=>(by cases h;exact⟨rfl,by kernel_rfl⟩)
  |_+21,x,y,_,h=>(by cases h)
end Go.Am

