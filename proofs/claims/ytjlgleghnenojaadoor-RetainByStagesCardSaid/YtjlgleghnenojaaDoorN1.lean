/- Part N1: plain lemmas about digits. No condition. -/
set_option linter.unusedSimpArgs false
set_option linter.unusedVariables false
namespace Go.Am
structure Base where
 n:Nat
 pos:0<n
theorem Base.pw(b:Base)(k:Nat):0<b.n ^ k:=Nat.pow_pos b.pos
def b32:Base:=⟨4294967296,by decide⟩
variable {b:Base}
def vl(b:Base)(f:Nat->Nat):Nat->Nat
 |0=>0
 |n+1=>vl b f n+f n*b.n ^ n
def dg(b:Base)(v i:Nat):Nat:=v / b.n ^ i%b.n
def ln(v:Nat):Nat:=if v=0 then 0 else Nat.log2 v / 32+1
variable {b:Base}
def sv:List UInt8->Nat
 |[]=>0
 |b :: r=>b.toNat*256 ^ r.length+sv r
def kz6:List UInt8->Prop
 |[]=>True
 |b :: _=>b≠0
def bsK:Nat->Nat->List UInt8
 |0,_=>[]
 |k+1,v=>if v=0 then [] else bsK k (v / 256)++[UInt8.ofNat v]
def bs(v:Nat):List UInt8:=bsK v v
structure Rx where
 neg:Bool
 num:List UInt8
 den:List UInt8
def Rx.zero:Rx:=⟨false,[],[]⟩
def sg(neg:Bool)(n:Nat):Int:=if neg then -(n:Int) else n
def fv(neg:Bool)(n d:Nat):Rat:=mkRat (sg neg n) d
def Rx.of(q:Rat):Rx:=if q.num=0 then Rx.zero else⟨decide (q.num<0),bs q.num.natAbs,bs q.den⟩
def Rx.Valid(r:Rx):Prop:=r=Rx.zero\/(r.num≠[]/\r.den≠[]/\kz6 r.num/\kz6 r.den/\Nat.gcd (sv r.num) (sv r.den)=1)
noncomputable def Rx.q(r:Rx):Rat:=open Classical in if r.Valid then fv r.neg (sv r.num) (sv r.den) else 0
end Go.Am

