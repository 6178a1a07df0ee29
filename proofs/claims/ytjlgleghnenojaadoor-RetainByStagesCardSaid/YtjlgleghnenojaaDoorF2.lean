/- Part F2: the functions of this seat as functions of plain values. No condition. -/
import Derived.Test.YtjlgleghnenojaaDoorT4
import Derived.Test.YtjlgleghnenojaaDoorF1
import Derived.Test.YtjlgleghnenojaaDoorChecked
set_option linter.unusedVariables false
namespace Go.Am
open Go.Proofs
def kzmt(j:Nat):Int:=[31,28,31,30,31,30,31,31,30,31,30,31].getD j 0
def EE:Nat->AVal:=fun i=>if i=0 then .cptr (fun j=>.int .i64 (kzmt j)) 12 0 else .top
def wz2c.cells(x:wz2c):List AVal:=[.int .i64 x.From,slcV 1 (cI .i64) x.Stages]
def kzhx.cells(x:kzhx):List AVal:=[.int .i64 x.Raw,.int .i64 x.Hour,.int .i64 x.Day,.int .i64 x.Month]
def kzhv.cells(x:kzhv):List AVal:=[.int .i64 x.Gauge,.int .i64 x.From,.int .i64 x.To]
def kzh0.cells(x:kzh0):List AVal:=[slcV 3 kzhv.cells x.Freezes,.int .i64 x.Gauge,.int .i64 x.Before,.int .i64 x.Today]
def jz50.cells(x:jz50):List AVal:=[.int .i64 x.e0,.int .i64 x.e1,.int .i64 x.e2,.int .i64 x.e3]
def wz2h.cells(x:wz2h):List AVal:=[.int .i64 x.From,.int .i64 x.To]
def kzht.cells(x:kzht):List AVal:=[.int .i64 x.Level,.int .i64 x.From,.int .i64 x.To]
def wz2w.cells(x:wz2w):List AVal:=[.int .i64 x.Stage,.int .i64 x.Ticks]
def wz3g.cells(x:wz3g):List AVal:=[.int .i64 x.From,.int .i64 x.To,slcV 2 wz2w.cells x.Table,.int .i64 x.Lo,.int .i64 x.Hi]
def kzhz.cells(x:kzhz):List AVal:=[.int .i64 x.e0,.int .i64 x.e1,.int .i64 x.e2,.int .i64 x.e3,.int .i64 x.e4]
def kzhu.cells(x:kzhu):List AVal:=[.int .i64 x.limits.e0,.int .i64 x.limits.e1,.int .i64 x.limits.e2,.int .i64 x.limits.e3,.int .i64 x.limits.e4,slcV 3 kzhv.cells x.freezes,.int .i64 x.today]
def tT:Nat->Type
 |0=>wz2c
 |1=>kzhx
 |2=>kzhv
 |3=>kzh0
 |4=>jz50
 |5=>wz2h
 |6=>kzht
 |7=>wz2w
 |8=>wz3g
 |9=>kzhz
 |10=>kzhu
 |n+11=>Unit
def tFA:Nat->Type
 |0=>wz3g×wz3g
 |1=>kzhv
 |2=>Int
 |3=>kzht
 |4=>Int
 |_=>Unit
def tFR:Nat->Type
 |0=>wz3g×Bool
 |1=>Bool
 |2=>Bool
 |3=>Bool
 |4=>kzht
 |_=>Unit
noncomputable def taA:(i:Nat)->tFA i->List AVal
 |0=>fun(x:wz3g×wz3g)=>[.agg (wz3g.cells x.1),.agg (wz3g.cells x.2)]
 |1=>fun(x:kzhv)=>[.agg (kzhv.cells x)]
 |2=>fun(x:Int)=>[.int .i64 x]
 |3=>fun(x:kzht)=>[.agg (kzht.cells x)]
 |4=>fun(x:Int)=>[.int .i64 x]
 |n+5=>fun _=>[]
noncomputable def taR:(i:Nat)->tFR i->AVal
 |0=>fun(x:wz3g×Bool)=>.tup [.agg (wz3g.cells x.1),.bool x.2]
 |1=>fun(x:Bool)=>.bool x
 |2=>fun(x:Bool)=>.bool x
 |3=>fun(x:Bool)=>.bool x
 |4=>fun(x:kzht)=>.agg (kzht.cells x)
 |n+5=>fun _=>.tup []
def tfa:Nat->List CT
 |0=>[(.us 8),(.us 8)]
 |1=>[(.us 2)]
 |2=>[(.int .i64)]
 |3=>[(.us 6)]
 |4=>[(.int .i64)]
 |_=>[]
def tfr:Nat->List CT
 |0=>[(.us 8),.bool]
 |1=>[.bool]
 |2=>[.bool]
 |3=>[.bool]
 |4=>[(.us 6)]
 |_=>[]
noncomputable instance tabT:TabT:=⟨tT,EE,Tryd.prog,tFA,tFR,taA,taR⟩
def tls:Nat->List CT
 |0=>[(.int .i64),(.slc (.int .i64))]
 |1=>[(.int .i64),(.int .i64),(.int .i64),(.int .i64)]
 |2=>[(.int .i64),(.int .i64),(.int .i64)]
 |3=>[(.slc (.us 2)),(.int .i64),(.int .i64),(.int .i64)]
 |4=>[(.int .i64),(.int .i64),(.int .i64),(.int .i64)]
 |5=>[(.int .i64),(.int .i64)]
 |6=>[(.int .i64),(.int .i64),(.int .i64)]
 |7=>[(.int .i64),(.int .i64)]
 |8=>[(.int .i64),(.int .i64),(.slc (.us 7)),(.int .i64),(.int .i64)]
 |9=>[(.int .i64),(.int .i64),(.int .i64),(.int .i64),(.int .i64)]
 |10=>[(.int .i64),(.int .i64),(.int .i64),(.int .i64),(.int .i64),(.slc (.us 2)),(.int .i64)]
 |n+11=>[]
def tmk:(i:Nat)->Row (tls i)->tT i
 |0=>fun(r:Int×(List Int))=>(wz2c.mk r.1 r.2)
 |1=>fun(r:Int×Int×Int×Int)=>(kzhx.mk r.1 r.2.1 r.2.2.1 r.2.2.2)
 |2=>fun(r:Int×Int×Int)=>(kzhv.mk r.1 r.2.1 r.2.2)
 |3=>fun(r:(List kzhv)×Int×Int×Int)=>(kzh0.mk r.1 r.2.1 r.2.2.1 r.2.2.2)
 |4=>fun(r:Int×Int×Int×Int)=>(jz50.mk r.1 r.2.1 r.2.2.1 r.2.2.2)
 |5=>fun(r:Int×Int)=>(wz2h.mk r.1 r.2)
 |6=>fun(r:Int×Int×Int)=>(kzht.mk r.1 r.2.1 r.2.2)
 |7=>fun(r:Int×Int)=>(wz2w.mk r.1 r.2)
 |8=>fun(r:Int×Int×(List wz2w)×Int×Int)=>(wz3g.mk r.1 r.2.1 r.2.2.1 r.2.2.2.1 r.2.2.2.2)
 |9=>fun(r:Int×Int×Int×Int×Int)=>(kzhz.mk r.1 r.2.1 r.2.2.1 r.2.2.2.1 r.2.2.2.2)
 |10=>fun(r:Int×Int×Int×Int×Int×(List kzhv)×Int)=>(kzhu.mk (kzhz.mk r.1 r.2.1 r.2.2.1 r.2.2.2.1 r.2.2.2.2.1) r.2.2.2.2.2.1 r.2.2.2.2.2.2)
 |n+11=>fun _=>()
def tun:(i:Nat)->tT i->Row (tls i)
 |0=>fun(x:wz2c)=>(x.From,x.Stages)
 |1=>fun(x:kzhx)=>(x.Raw,x.Hour,x.Day,x.Month)
 |2=>fun(x:kzhv)=>(x.Gauge,x.From,x.To)
 |3=>fun(x:kzh0)=>(x.Freezes,x.Gauge,x.Before,x.Today)
 |4=>fun(x:jz50)=>(x.e0,x.e1,x.e2,x.e3)
 |5=>fun(x:wz2h)=>(x.From,x.To)
 |6=>fun(x:kzht)=>(x.Level,x.From,x.To)
 |7=>fun(x:wz2w)=>(x.Stage,x.Ticks)
 |8=>fun(x:wz3g)=>(x.From,x.To,x.Table,x.Lo,x.Hi)
 |9=>fun(x:kzhz)=>(x.e0,x.e1,x.e2,x.e3,x.e4)
 |10=>fun(x:kzhu)=>(x.limits.e0,x.limits.e1,x.limits.e2,x.limits.e3,x.limits.e4,x.freezes,x.today)
 |n+11=>fun _=>()
@[reducible] def tin:(i:Nat)->Inhabited (tT i)
 |0=>(inferInstance:Inhabited wz2c)
 |1=>(inferInstance:Inhabited kzhx)
 |2=>(inferInstance:Inhabited kzhv)
 |3=>(inferInstance:Inhabited kzh0)
 |4=>(inferInstance:Inhabited jz50)
 |5=>(inferInstance:Inhabited wz2h)
 |6=>(inferInstance:Inhabited kzht)
 |7=>(inferInstance:Inhabited wz2w)
 |8=>(inferInstance:Inhabited wz3g)
 |9=>(inferInstance:Inhabited kzhz)
 |10=>(inferInstance:Inhabited kzhu)
 |n+11=>(inferInstance:Inhabited Unit)
def tca:(i:Nat)->tT i->List AVal
 |0=>wz2c.cells
 |1=>kzhx.cells
 |2=>kzhv.cells
 |3=>kzh0.cells
 |4=>jz50.cells
 |5=>wz2h.cells
 |6=>kzht.cells
 |7=>wz2w.cells
 |8=>wz3g.cells
 |9=>kzhz.cells
 |10=>kzhu.cells
 |n+11=>fun _=>[]
def tkk:Nat->Option (List Nat)
 |1=>some [1,1,1,1]
 |2=>some [1,1,1]
 |4=>some [1,1,1,1]
 |5=>some [1,1]
 |6=>some [1,1,1]
 |7=>some [1,1]
 |9=>some [1,1,1,1,1]
 |_=>none
def tke:(i:Nat)->tT i->tT i->Bool
 |0=>fun _ _=>true
 |1=>kzob
 |2=>kzm0
 |3=>fun _ _=>true
 |4=>jz8t
 |5=>wz9x
 |6=>kzoa
 |7=>jza2
 |8=>fun _ _=>true
 |9=>kznr
 |10=>fun _ _=>true
 |n+11=>fun _ _=>true
theorem teA:(i:Nat)->Row (tfa i)=tFA i
 |0=>rfl
 |1=>rfl
 |2=>rfl
 |3=>rfl
 |4=>rfl
 |n+5=>rfl
theorem teR:(i:Nat)->Row (tfr i)=tFR i
 |0=>rfl
 |1=>rfl
 |2=>rfl
 |3=>rfl
 |4=>rfl
 |n+5=>rfl
noncomputable instance tab:Tab:=⟨tls,tmk,tun,tin,tca,tfa,tfr,teA,teR,tkk,tke⟩
theorem nr0(x:wz2c)(v:AVal)(h:v∈wz2c.cells x):qzt v:=by
 have k:∀v∈wz2c.cells x,qzt v:=by unfold wz2c.cells;simp only[Ga8];exact⟨.int _ _,qzj (fun x v h=>qz1 v h),fun _ h=>by cases h⟩
 exact k v h
theorem nr1(x:kzhx)(v:AVal)(h:v∈kzhx.cells x):qzt v:=by
 have k:∀v∈kzhx.cells x,qzt v:=by unfold kzhx.cells;simp only[Ga8];exact⟨.int _ _,.int _ _,.int _ _,.int _ _,fun _ h=>by cases h⟩
 exact k v h
theorem nr2(x:kzhv)(v:AVal)(h:v∈kzhv.cells x):qzt v:=by
 have k:∀v∈kzhv.cells x,qzt v:=by unfold kzhv.cells;simp only[Ga8];exact⟨.int _ _,.int _ _,.int _ _,fun _ h=>by cases h⟩
 exact k v h
theorem nr3(x:kzh0)(v:AVal)(h:v∈kzh0.cells x):qzt v:=by
 have k:∀v∈kzh0.cells x,qzt v:=by unfold kzh0.cells;simp only[Ga8];exact⟨qzj (fun x v h=>nr2 x v h),.int _ _,.int _ _,.int _ _,fun _ h=>by cases h⟩
 exact k v h
theorem nr4(x:jz50)(v:AVal)(h:v∈jz50.cells x):qzt v:=by
 have k:∀v∈jz50.cells x,qzt v:=by unfold jz50.cells;simp only[Ga8];exact⟨.int _ _,.int _ _,.int _ _,.int _ _,fun _ h=>by cases h⟩
 exact k v h
theorem nr5(x:wz2h)(v:AVal)(h:v∈wz2h.cells x):qzt v:=by
 have k:∀v∈wz2h.cells x,qzt v:=by unfold wz2h.cells;simp only[Ga8];exact⟨.int _ _,.int _ _,fun _ h=>by cases h⟩
 exact k v h
theorem nr6(x:kzht)(v:AVal)(h:v∈kzht.cells x):qzt v:=by
 have k:∀v∈kzht.cells x,qzt v:=by unfold kzht.cells;simp only[Ga8];exact⟨.int _ _,.int _ _,.int _ _,fun _ h=>by cases h⟩
 exact k v h
theorem nr7(x:wz2w)(v:AVal)(h:v∈wz2w.cells x):qzt v:=by
 have k:∀v∈wz2w.cells x,qzt v:=by unfold wz2w.cells;simp only[Ga8];exact⟨.int _ _,.int _ _,fun _ h=>by cases h⟩
 exact k v h
theorem nr8(x:wz3g)(v:AVal)(h:v∈wz3g.cells x):qzt v:=by
 have k:∀v∈wz3g.cells x,qzt v:=by unfold wz3g.cells;simp only[Ga8];exact⟨.int _ _,.int _ _,qzj (fun x v h=>nr7 x v h),.int _ _,.int _ _,fun _ h=>by cases h⟩
 exact k v h
theorem nr9(x:kzhz)(v:AVal)(h:v∈kzhz.cells x):qzt v:=by
 have k:∀v∈kzhz.cells x,qzt v:=by unfold kzhz.cells;simp only[Ga8];exact⟨.int _ _,.int _ _,.int _ _,.int _ _,.int _ _,fun _ h=>by cases h⟩
 exact k v h
theorem nr10(x:kzhu)(v:AVal)(h:v∈kzhu.cells x):qzt v:=by
 have k:∀v∈kzhu.cells x,qzt v:=by unfold kzhu.cells;simp only[Ga8];exact⟨.int _ _,.int _ _,.int _ _,.int _ _,.int _ _,qzj (fun x v h=>nr2 x v h),.int _ _,fun _ h=>by cases h⟩
 exact k v h
instance tabOk:kzhw where
 unmk i r:=match i,r with
  |0,r=>rfl
  |1,r=>rfl
  |2,r=>rfl
  |3,r=>rfl
  |4,r=>rfl
  |5,r=>rfl
  |6,r=>rfl
  |7,r=>rfl
  |8,r=>rfl
  |9,r=>rfl
  |10,r=>rfl
  |_+11,r=>rfl
 cells i x:=match i,x with
  |0,x=>(by kernel_rfl)
  |1,x=>(by kernel_rfl)
  |2,x=>(by kernel_rfl)
  |3,x=>(by kernel_rfl)
  |4,x=>(by kernel_rfl)
  |5,x=>(by kernel_rfl)
  |6,x=>(by kernel_rfl)
  |7,x=>(by kernel_rfl)
  |8,x=>(by kernel_rfl)
  |9,x=>(by kernel_rfl)
  |10,x=>(by kernel_rfl)
  |_+11,x=>(by kernel_rfl)
 nor i x v h:=match i,x,h with
  |0,x,h=>nr0 x v h
  |1,x,h=>nr1 x v h
  |2,x,h=>nr2 x v h
  |3,x,h=>nr3 x v h
  |4,x,h=>nr4 x v h
  |5,x,h=>nr5 x v h
  |6,x,h=>nr6 x v h
  |7,x,h=>nr7 x v h
  |8,x,h=>nr8 x v h
  |9,x,h=>nr9 x v h
  |10,x,h=>nr10 x v h
  |_+11,x,h=>(by cases h)
 pos i c h j e:=match i,h with
  |0,h=>(by subst e;simp[Tab.ls,tls]at h)
  |1,h=>(by subst e;simp[Tab.ls,tls]at h)
  |2,h=>(by subst e;simp[Tab.ls,tls]at h)
  |3,h=>(by subst e;simp[Tab.ls,tls]at h)
  |4,h=>(by subst e;simp[Tab.ls,tls]at h)
  |5,h=>(by subst e;simp[Tab.ls,tls]at h)
  |6,h=>(by subst e;simp[Tab.ls,tls]at h)
  |7,h=>(by subst e;simp[Tab.ls,tls]at h)
  |8,h=>(by subst e;simp[Tab.ls,tls]at h)
  |9,h=>(by subst e;simp[Tab.ls,tls]at h)
  |10,h=>(by subst e;simp[Tab.ls,tls]at h)
  |_+11,h=>(by subst e;cases h)
 aA i x:=match i,x with
  |0,x=>(by kernel_rfl)
  |1,x=>(by kernel_rfl)
  |2,x=>(by kernel_rfl)
  |3,x=>(by kernel_rfl)
  |4,x=>(by kernel_rfl)
  |_+5,x=>(by kernel_rfl)
 aR i x:=match i,x with
  |0,x=>(by kernel_rfl)
  |1,x=>(by kernel_rfl)
  |2,x=>(by kernel_rfl)
  |3,x=>(by kernel_rfl)
  |4,x=>(by kernel_rfl)
  |_+5,x=>(by kernel_rfl)
 kq i x y l h:=match i,x,y,l,h with
  |0,x,y,_,h=>(by cases h)
  |1,x,y,_,h=>(by cases h;exact⟨rfl,by kernel_rfl⟩)
  |2,x,y,_,h=>(by cases h;exact⟨rfl,by kernel_rfl⟩)
  |3,x,y,_,h=>(by cases h)
  |4,x,y,_,h=>(by cases h;exact⟨rfl,by kernel_rfl⟩)
  |5,x,y,_,h=>(by cases h;exact⟨rfl,by kernel_rfl⟩)
  |6,x,y,_,h=>(by cases h;exact⟨rfl,by kernel_rfl⟩)
  |7,x,y,_,h=>(by cases h;exact⟨rfl,by kernel_rfl⟩)
  |8,x,y,_,h=>(by cases h)
  |9,x,y,_,h=>(by cases h;exact⟨rfl,by kernel_rfl⟩)
  |10,x,y,_,h=>(by cases h)
  |_+11,x,y,_,h=>(by cases h)
end Go.Am

