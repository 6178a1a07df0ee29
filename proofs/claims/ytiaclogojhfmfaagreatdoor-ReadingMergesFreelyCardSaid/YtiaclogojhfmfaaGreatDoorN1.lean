/- Part N1 of the proof that the last part closes: plain lemmas about digits. No condition. -/
set_option linter.unusedSimpArgs false
set_option linter.unusedVariables false
namespace Go.Am
structure Base where
 n:Nat
 pos:0<n
theorem Base.pw(b:Base)(k:Nat):0<b.n ^ k:=Nat.pow_pos b.pos
variable {b:Base}
def vl(b:Base)(f:Nat→Nat):Nat→Nat
 |0=>0
 |n+1=>vl b f n+f n*b.n ^ n
variable {b:Base}
def sv:List UInt8→Nat
 |[]=>0
 |b :: r=>b.toNat*256 ^ r.length+sv r
theorem qzgi:∀l m:List UInt8,sv (l++m)=sv l*256 ^ m.length+sv m
 |[],m=>by simp[sv]
 |b :: r,m=>by
  simp only[List.cons_append,sv,qzgi r m,List.length_append,Nat.pow_add,Nat.add_mul,Nat.mul_assoc,Nat.add_assoc]
theorem qz5u(b:UInt8):b.toNat<256:=UInt8.toNat_lt b
theorem qzi0:∀l:List UInt8,sv l<256 ^ l.length
 |[]=>by simp[sv]
 |b :: r=>by
  have h1:=qzi0 r
  have h2:(b.toNat+1)*256 ^ r.length≤256*256 ^ r.length:=Nat.mul_le_mul_right _ (qz5u b)
  simp only[sv,List.length_cons,Nat.pow_succ,Nat.add_mul]at h2 ⊢
  omega
theorem qzyg(b:UInt8):sv [b]=b.toNat:=by simp[sv]
def kz6:List UInt8→Prop
 |[]=>True
 |b :: _=>b≠0
theorem qzwn{b:UInt8}(h:b≠0):1≤b.toNat:=by
 rcases Nat.eq_zero_or_pos b.toNat with h'|h'
 ·exact absurd (UInt8.toNat_inj.1 h') h
 ·exact h'
theorem qzsy{b:UInt8}{r:List UInt8}(h:b≠0):256 ^ r.length≤sv (b :: r):=by
 have:1*256 ^ r.length≤b.toNat*256 ^ r.length:=Nat.mul_le_mul_right _ (qzwn h)
 simp only[sv];omega
theorem qzqg:∀{l m:List UInt8},l.length=m.length→sv l=sv m→l=m
 |[],[],_,_=>rfl
 |a :: r,b :: s,hl,h=>by
  have hl':r.length=s.length:=by simpa using hl
  have h1:=qzi0 r
  have h2:=qzi0 s
  simp only[sv,hl']at h
  rw[hl']at h1
  have hp:0<256 ^ s.length:=Nat.pow_pos (by decide)
  have e:(a.toNat*256 ^ s.length+sv r) / 256 ^ s.length=(b.toNat*256 ^ s.length+sv s) / 256 ^ s.length:=by rw[h]
  rw[Nat.mul_comm a.toNat,Nat.mul_comm b.toNat,Nat.mul_add_div hp,Nat.mul_add_div hp,Nat.div_eq_of_lt h1,Nat.div_eq_of_lt h2]at e
  have e':a.toNat=b.toNat:=by omega
  have hab:a=b:=UInt8.toNat_inj.1 e'
  subst hab
  rw[qzqg hl' (by omega)]
theorem qzrk{l m:List UInt8}(hl:kz6 l)(h:sv l=sv m):l.length≤m.length:=by
 cases l with
 |nil=>simp
 |cons b r =>
  have h1:=qzsy (r:=r) hl
  have h2:=qzi0 m
  rcases Nat.lt_or_ge m.length (r.length+1) with h'|h'
  ·exfalso
   have:=Nat.pow_le_pow_right (n:=256) (by decide) (show m.length≤r.length by omega)
   omega
  ·exact h'
theorem qzyd{l m:List UInt8}(hl:kz6 l)(hm:kz6 m)(h:sv l=sv m):l=m :=
 qzqg (Nat.le_antisymm (qzrk hl h) (qzrk hm h.symm)) h
def bsK:Nat→Nat→List UInt8
 |0,_=>[]
 |k+1,v=>if v=0 then [] else bsK k (v / 256)++[UInt8.ofNat v]
def bs(v:Nat):List UInt8:=bsK v v
theorem qzrz(v:Nat):(UInt8.ofNat v).toNat=v%256:=by simp
theorem qztr:∀(k v:Nat),v≤k→sv (bsK k v)=v∧kz6 (bsK k v)∧(v≠0→bsK k v≠[])
 |0,v,h=>by simp[bsK,sv,kz6];omega
 |k+1,v,h=>by
  unfold bsK
  by_cases hv:v=0
  ·simp[hv,sv,kz6]
  ·rw[if_neg hv]
   obtain⟨h1,h2,h3⟩:=qztr k (v / 256) (by omega)
   refine⟨?_,?_,by simp⟩
   ·rw[qzgi,h1,qzyg,qzrz]
    simp only[List.length_singleton,Nat.pow_one]
    omega
   ·cases hb:bsK k (v / 256) with
    |nil =>
     rw[hb]at h1 h3
     have:v / 256=0:=by simpa [sv] using h1.symm
     show UInt8.ofNat v≠0
     intro hz
     have:=qzrz v
     rw[hz]at this
     simp at this
     omega
    |cons b r =>
     rw[hb]at h2
     exact h2
theorem wzj(v:Nat):sv (bs v)=v:=(qztr v v (Nat.le_refl _)).1
theorem vzh(v:Nat):kz6 (bs v):=(qztr v v (Nat.le_refl _)).2.1
theorem qzsf{l:List UInt8}(h:kz6 l):bs (sv l)=l:=qzyd (vzh _) h (wzj _)
theorem qzmu{v n:Nat}(h:v<256 ^ n):(bs v).length≤n:=by
 cases hb:bs v with
 |nil=>simp
 |cons b r =>
  have h1:=vzh v
  have h2:=wzj v
  rw[hb]at h1 h2
  have h3:=qzsy (r:=r) h1
  rw[h2]at h3
  rcases Nat.lt_or_ge r.length n with h'|h'
  ·exact h'
  ·have:=Nat.pow_le_pow_right (n:=256) (by decide) h';omega
structure Rx where
 neg:Bool
 num:List UInt8
 den:List UInt8
def Rx.zero:Rx:=⟨false,[],[]⟩
def sg(neg:Bool)(n:Nat):Int:=if neg then -(n:Int) else n
theorem qznf(neg:Bool)(n:Nat):(sg neg n).natAbs=n:=by unfold sg;split<;>simp
theorem wzd1(neg:Bool):sg neg 0=0:=by unfold sg;split<;>rfl
theorem wzeq(neg:Bool){n g:Nat}(h:g ∣ n):sg neg n / g=sg neg (n / g):=by
 obtain⟨k,rfl⟩:=h
 rcases Nat.eq_zero_or_pos g with rfl|hg
 ·cases neg<;>simp[sg]
 cases neg
 ·simp[sg]
 ·simp only[sg,if_true]
  rw[Nat.mul_div_cancel_left _ hg,Int.neg_ediv_of_dvd (by exact_mod_cast Nat.dvd_mul_right g k)]
  congr 1
  rw[Int.natCast_mul,Int.mul_ediv_cancel_left _ (by omega)]
def fv(neg:Bool)(n d:Nat):Rat:=mkRat (sg neg n) d
def Rx.of(q:Rat):Rx:=if q.num=0 then Rx.zero else⟨decide (q.num<0),bs q.num.natAbs,bs q.den⟩
def Rx.Valid(r:Rx):Prop:=r=Rx.zero∨(r.num≠[]∧r.den≠[]∧kz6 r.num∧kz6 r.den∧Nat.gcd (sv r.num) (sv r.den)=1)
theorem qzuj{neg:Bool}{n d:Nat}(hd:d≠0):(fv neg n d).num=sg neg (n / Nat.gcd n d)∧(fv neg n d).den=d / Nat.gcd n d:=by
 unfold fv mkRat
 rw[dif_neg hd,Rat.normalize_eq]
 simp only[qznf]
 exact⟨wzeq neg (Nat.gcd_dvd_left n d),trivial⟩
theorem qzqo{neg:Bool}{d:Nat}:fv neg 0 d=0:=by
 unfold fv;rw[wzd1];exact Rat.zero_mkRat d
theorem qzwd{neg:Bool}{n d:Nat}(hd:d≠0):fv neg n d=0↔n=0:=by
 constructor
 ·intro h
  have h1:=(qzuj (neg:=neg) (n:=n) hd).1
  rw[h]at h1
  have h2:n / Nat.gcd n d=0:=by
   have:=congrArg Int.natAbs h1
   rw[qznf]at this
   simpa using this.symm
  rcases Nat.eq_zero_or_pos n with h3|h3
  ·exact h3
  ·have:=Nat.div_pos (Nat.le_of_dvd h3 (Nat.gcd_dvd_left n d)) (Nat.gcd_pos_of_pos_left d h3)
   omega
 ·rintro rfl;exact qzqo
theorem qz8j{neg:Bool}{n d:Nat}(hn:n≠0)(hd:d≠0):Rx.of (fv neg n d)=⟨neg,bs (n / Nat.gcd n d),bs (d / Nat.gcd n d)⟩:=by
 obtain⟨h1,h2⟩:=qzuj (neg:=neg) (n:=n) hd
 have hp:0<n / Nat.gcd n d:=Nat.div_pos (Nat.le_of_dvd (by omega) (Nat.gcd_dvd_left n d)) (Nat.gcd_pos_of_pos_left d (by omega))
 unfold Rx.of
 have hz:(fv neg n d).num≠0:=by rw[h1];unfold sg;split<;>omega
 rw[if_neg hz,h1,h2,qznf]
 congr 1
 unfold sg
 cases neg
 ·simp
  exact Int.ediv_nonneg (by omega) (by omega)
 ·simp;omega
noncomputable def Rx.q(r:Rx):Rat:=open Classical in if r.Valid then fv r.neg (sv r.num) (sv r.den) else 0
theorem qzf5{l:List UInt8}(h1:l≠[])(h2:kz6 l):sv l≠0:=by
 intro h
 have:=qzsf h2
 rw[h]at this
 exact h1 this.symm
theorem wzfe(a:Bool)(n d:Nat):fv (!a) n d = -fv a n d:=by
 unfold fv
 rw[Rat.neg_mkRat]
 congr 1
 cases a<;>simp[sg]
theorem wzfq{a:Bool}{n d:Nat}(hn:n≠0)(hd:d≠0):0<fv a n d↔a=false:=by
 rw[Rat.lt_iff,(qzuj hd).1]
 have hp:0<n / Nat.gcd n d:=Nat.div_pos (Nat.le_of_dvd (by omega) (Nat.gcd_dvd_left n d)) (Nat.gcd_pos_of_pos_left d (by omega))
 cases a<;>simp[sg]<;>omega
end Go.Am

