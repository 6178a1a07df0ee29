/- Part S1 of the proof that the last part closes: the mathematics of shares. No condition. -/
import Derived.Test.YtpflinpbkifmhaaGreatDoorR2
set_option linter.unusedVariables false
set_option linter.unusedSimpArgs false
namespace Go.Am
theorem yzj (a b:Rat):a < b∨b≤a:=by grind
structure Shr where
 w:Int
 fl:Rat
 cp:Rat
def Shr.Ok (s:Shr):Prop:=1≤s.w∧0≤s.fl∧s.fl≤s.cp
theorem Shr.Ok.w0 {s:Shr} (h:s.Ok):(0:Rat) < (s.w:Rat):=by
 have:(0:Int) < s.w:=by have:=h.1; omega
 exact Rat.intCast_pos.2 this
def part (x:Rat) (s:Shr):Rat:=minQ (maxQ (x*(s.w:Rat)) s.fl) s.cp
def tot (x:Rat) (l:List Shr):Rat:=sQ (l.map (part x))
def flo (l:List Shr):Rat:=sQ (l.map Shr.fl)
def cap (l:List Shr):Rat:=sQ (l.map Shr.cp)
theorem vz3 {a b c:Rat} (h:a≤b) (hc:0≤c):a*c≤b*c:=Rat.mul_le_mul_of_nonneg_right h hc
theorem qzm0 {a b c:Rat} (h:a < b) (hc:0 < c):a*c < b*c:=Rat.mul_lt_mul_of_pos_right h hc
theorem qzmo {s:Shr} (h:s.Ok) {x y:Rat} (hxy:x≤y):part x s≤part y s:=by
 have h1:=vz3 hxy (Rat.le_of_lt h.w0)
 unfold part minQ maxQ
 generalize x*(s.w:Rat)=a at *
 generalize y*(s.w:Rat)=b at *
 (repeat' split)<;>grind
theorem qzn2 {s:Shr} (h:s.Ok) {x:Rat} (hx:x*(s.w:Rat)≤s.fl):part x s=s.fl:=by
 have:=h.2.2
 unfold part minQ maxQ
 generalize x*(s.w:Rat)=a at *
 (repeat' split)<;>grind
theorem qznl {s:Shr} (h:s.Ok) {x:Rat} (hx:s.cp≤x*(s.w:Rat)):part x s=s.cp:=by
 have:=h.2.2
 unfold part minQ maxQ
 generalize x*(s.w:Rat)=a at *
 (repeat' split)<;>grind
theorem qzoy {s:Shr} (h:s.Ok) {x:Rat} (h1:s.fl≤x*(s.w:Rat)) (h2:x*(s.w:Rat)≤s.cp):part x s=x*(s.w:Rat):=by
 unfold part minQ maxQ
 generalize x*(s.w:Rat)=a at *
 (repeat' split)<;>grind
def vzr (l:List Shr):Prop:=∀ s,s∈l→s.Ok
theorem vzr.tail {s:Shr} {l:List Shr} (h:vzr (s :: l)):vzr l:=fun t ht=>h t (List.mem_cons_of_mem _ ht)
theorem vzr.head {s:Shr} {l:List Shr} (h:vzr (s :: l)):s.Ok:=h s List.mem_cons_self
theorem qzr9 {f g:Shr→Rat}:∀ {l:List Shr},(∀ s,s∈l→f s≤g s)→sQ (l.map f)≤sQ (l.map g)
 | [],_=>Rat.le_refl
 | s :: l,h=>by
  have h1:=h s List.mem_cons_self
  have h2:=qzr9 (l:=l) fun t ht=>h t (List.mem_cons_of_mem _ ht)
  show f s+sQ (l.map f)≤g s+sQ (l.map g)
  grind
theorem qz8m {f g:Shr→Rat} {l:List Shr} (h:∀ s,s∈l→f s=g s):sQ (l.map f)=sQ (l.map g):=by
 rw [List.map_congr_left h]
theorem qzs0 {l:List Shr} (h:vzr l) {x y:Rat} (hxy:x≤y):tot x l≤tot y l:=qzr9 fun s hs=>qzmo (h s hs) hxy
def slI (a:Rat) (s:Shr):Int:=if s.fl≤a*(s.w:Rat)∧a*(s.w:Rat) < s.cp then s.w else 0
def sI:List Int→Int
 | []=>0
 | x :: l=>x+sI l
def slT (a:Rat) (l:List Shr):Int:=sI (l.map (slI a))
def e1 (s:Shr):Rat:=s.fl / (s.w:Rat)
def e2 (s:Shr):Rat:=s.cp / (s.w:Rat)
theorem qza8 {a b:Rat} (h:b≠0):a / b*b=a:=Rat.div_mul_cancel h
theorem qzp5 {s:Shr} (h:s.Ok):e1 s*(s.w:Rat)=s.fl:=qza8 (by have:=h.w0; grind)
theorem qzp4 {s:Shr} (h:s.Ok):e2 s*(s.w:Rat)=s.cp:=qza8 (by have:=h.w0; grind)
theorem kz5 {a b c:Rat} (hc:0 < c) (h:a*c≤b*c):a≤b:=by
 rcases yzj b a with h' | h'
 ·have:=qzm0 h' hc; grind
 ·exact h'
theorem wzcj {s:Shr} (h:s.Ok):0≤e1 s:=kz5 h.w0 (by rw [qzp5 h]; have:=h.2.1; grind)
theorem qz3t {s:Shr} (h:s.Ok):e1 s≤e2 s:=kz5 h.w0 (by rw [qzp5 h,qzp4 h]; exact h.2.2)
def NoE (a b:Rat) (s:Shr):Prop:=(e1 s≤a∨b≤e1 s)∧(e2 s≤a∨b≤e2 s)
theorem qz3k {s:Shr} (h:s.Ok) {a b t:Rat} (hn:NoE a b s) (hab:a < b) (h1:a≤t) (h2:t≤b):part t s=part a s+(t - a)*(slI a s:Rat):=by
 have hw:=h.w0
 have m1:=vz3 h1 (Rat.le_of_lt hw)
 have m2:=vz3 h2 (Rat.le_of_lt hw)
 have m3:=qzm0 hab hw
 unfold slI
 by_cases c1:s.fl≤a*(s.w:Rat)
 ·by_cases c2:a*(s.w:Rat) < s.cp
  ·rw [if_pos ⟨c1,c2⟩]
   have hb:b≤e2 s:=by
    rcases hn.2 with h' | h'
    ·have:=vz3 h' (Rat.le_of_lt hw)
     rw [qzp4 h] at this
     grind
    ·exact h'
   have m4:=vz3 hb (Rat.le_of_lt hw)
   rw [qzp4 h] at m4
   rw [qzoy h (by grind) (by grind),qzoy h c1 (by grind)]
   grind
  ·rw [if_neg (fun h=>c2 h.2),qznl h (by grind),qznl h (by grind)]
   simp [Rat.mul_zero,Rat.add_zero]
 ·rw [if_neg (fun h=>c1 h.1)]
  have hb:b≤e1 s:=by
   rcases hn.1 with h' | h'
   ·have:=vz3 h' (Rat.le_of_lt hw)
    rw [qzp5 h] at this
    grind
   ·exact h'
  have m4:=vz3 hb (Rat.le_of_lt hw)
  rw [qzp5 h] at m4
  rw [qzn2 h (by grind),qzn2 h (by grind)]
  simp [Rat.mul_zero,Rat.add_zero]
theorem qzny {a b t:Rat} (hab:a < b) (h1:a≤t) (h2:t≤b):∀ {l:List Shr},vzr l→(∀ s,s∈l→NoE a b s)→tot t l=tot a l+(t - a)*(slT a l:Rat)
 | [],_,_=>by
  show (0:Rat)=0+(t - a)*((0:Int):Rat)
  simp [Rat.mul_zero,Rat.add_zero]
 | s :: l,h,hn=>by
  have p1:=qz3k h.head (hn s List.mem_cons_self) hab h1 h2
  have p2:=qzny hab h1 h2 h.tail fun s hs=>hn s (List.mem_cons_of_mem _ hs)
  show part t s+tot t l=part a s+tot a l+(t - a)*((slI a s+slT a l:Int):Rat)
  rw [p1,p2,Rat.intCast_add,Rat.mul_add]
  grind
def yzo (l:List Shr) (f x:Rat):Prop:=0≤x∧f≤tot x l∧∀ y,0≤y→f≤tot y l→x≤y
theorem yzo.uniq {l:List Shr} {f x y:Rat} (h:yzo l f x) (h':yzo l f y):x=y:=by
 have h1:=h.2.2 y h'.1 h'.2.1
 have h2:=h'.2.2 x h.1 h.2.1
 grind
theorem qz3q {l:List Shr} {f:Rat} (h:f≤tot 0 l):yzo l f 0:=⟨Rat.le_refl,h,fun y hy _=>hy⟩
theorem qzop {l:List Shr} (h:vzr l) {f a b:Rat} (ha:0≤a) (h1:tot a l < f) (h2:f≤tot b l) (hn:∀ s,s∈l→NoE a b s):yzo l f (a+(f - tot a l) / (tot b l - tot a l)*(b - a))∧tot (a+(f - tot a l) / (tot b l - tot a l)*(b - a)) l=f:=by
 have hab:a < b:=by
  rcases yzj a b with h' | h'
  ·exact h'
  ·have:=qzs0 h h'; grind
 have hb:=qzny hab (Rat.le_of_lt hab) Rat.le_refl h hn
 generalize hS:((slT a l:Int):Rat)=S at *
 have hd:0 < tot b l - tot a l:=by grind
 have hba:0 < b - a:=by grind
 have hS0:0 < S:=by
  rcases yzj 0 S with h' | h'
  ·exact h'
  ·have:=vz3 h' (Rat.le_of_lt hba)
   have e:S*(b - a)=(b - a)*S:=Rat.mul_comm _ _
   grind
 have hx0:(f - tot a l) / (tot b l - tot a l)*(tot b l - tot a l)=f - tot a l:=qza8 (by grind)
 generalize hth:(f - tot a l) / (tot b l - tot a l)=th at *
 have ht0:0 < th:=by
  rcases yzj 0 th with h' | h'
  ·exact h'
  ·have:=vz3 h' (Rat.le_of_lt hd); grind
 have ht1:th≤1:=by
  rcases yzj 1 th with h' | h'
  ·have:=qzm0 h' hd; grind
  ·exact h'
 have hx1:0 < th*(b - a):=by have:=qzm0 ht0 hba; grind
 have hx2:th*(b - a)≤b - a:=by have:=vz3 ht1 (Rat.le_of_lt hba); grind
 have hxt:=qzny hab (t:=a+th*(b - a)) (by grind) (by grind) h hn
 rw [hS] at hxt
 have hxf:tot (a+th*(b - a)) l=f:=by
  have e:(a+th*(b - a) - a)*S=th*((b - a)*S):=by
   rw [show a+th*(b - a) - a=th*(b - a) by grind,Rat.mul_assoc]
  have e2:(b - a)*S=tot b l - tot a l:=by grind
  rw [e2,hx0] at e
  grind
 refine ⟨⟨by grind,by grind,fun y hy hfy=>?_⟩,hxf⟩
 rcases yzj y (a+th*(b - a)) with h' | h'
 ·exfalso
  rcases yzj a y with h3 | h3
  ·have hyt:=qzny hab (t:=y) (by grind) (by grind) h hn
   rw [hS] at hyt
   have:=qzm0 (a:=y - a) (b:=a+th*(b - a) - a) (by grind) hS0
   grind
  ·have:=qzs0 h h3
   grind
 ·exact h'
theorem wzdc {l:List Shr} (h:vzr l) {x:Rat} (hx:∀ s,s∈l→e2 s≤x):tot x l=cap l:=qz8m fun s hs=>qznl (h s hs) (by
 have:=vz3 (hx s hs) (Rat.le_of_lt (h s hs).w0)
 rwa [qzp4 (h s hs)] at this)
def jzm:List Shr→List Rat
 | []=>[]
 | s :: l=>e1 s :: e2 s :: jzm l
theorem qzef {x:Rat}:∀ {l:List Shr},x∈jzm l↔∃ s,s∈l∧(x=e1 s∨x=e2 s)
 | []=>by simp [jzm]
 | t :: l=>by simp [jzm,qzef,or_assoc]
theorem qzug {l:List Shr} (h:vzr l) {x:Rat} (hx:x∈jzm l):0≤x:=by
 obtain ⟨s,hs,rfl | rfl⟩:=qzef.1 hx
 ·exact wzcj (h s hs)
 ·exact Rat.le_trans (wzcj (h s hs)) (qz3t (h s hs))
theorem qzxj {l:List Shr} {a b:Rat} (h:∀ x,x∈jzm l→x≤a∨b≤x):∀ s,s∈l→NoE a b s:=fun s hs=>⟨h _ (qzef.2 ⟨s,hs,.inl rfl⟩),h _ (qzef.2 ⟨s,hs,.inr rfl⟩)⟩
end Go.Am

set_option linter.unusedVariables false
set_option linter.unusedSimpArgs false
namespace Go.Am
theorem eqR (x y:qza):((x.Neg==y.Neg)&&(decide (x.Num=y.Num)&&(decide (x.Den=y.Den)&&true)))=decide (x=y):=by
 cases x; cases y
 simp [qza.mk.injEq]
 rw [Bool.eq_iff_iff]
 simp [and_assoc]
theorem qzj4 {l:List qzb} {of:qzb→Option qza} {g:qzb→qza} (h:∀ s,s∈l→of s=some (g s)) (hl:l.length≤1000):qzu l of=some (l.map g):=by
 unfold qzu
 have key:lp (jzr l of) (0,[])=some (l.map g):=by
  refine qznm (fun s=>∃ k:Nat,s=((k:Int),(l.take k).map g)∧k≤l.length) (fun s=>l.length - s.1.toNat) _ ?_ ⟨0,rfl,by omega⟩ (by dsimp only; omega)
  rintro s ⟨k,rfl,hk⟩
  simp only [jzr]
  by_cases h0:k < l.length
  ·left
   have hx:l[k]?=some l[k]:=List.getElem?_eq_getElem h0
   rw [it_d (by omega),at_e (n:=k) rfl hx]
   simp only [bd_s]
   rw [h _ (List.getElem_mem h0)]
   simp only [bd_s]
   rw [ck_d (by simp only [List.length_append,List.length_map,List.length_take,List.length_singleton]; omega),qz3 (by omega)]
   exact ⟨_,rfl,⟨k+1,by rw [qzha hx]; rfl,by omega⟩,by dsimp only; omega⟩
  ·right
   rw [it_n (by omega),show k=l.length by omega,List.take_length]
 rw [key]; rfl
noncomputable def shq (s:qzb):Shr:=⟨s.Weight,rq s.Floor,rq s.Cap⟩
def SG (n:Nat) (s:qzb):Prop:=Sz n s.Floor∧Sz n s.Cap∧1≤s.Weight∧s.Weight≤1000000
def SGs (n:Nat) (l:List qzb):Prop:=∀ s,s∈l→SG n s
theorem qzrh {n m:Nat} {a:qza} {s:qzb} (hs:SG n s) (ha:Sz m a) (n1:1≤n) (m1:1≤m) (hn:n≤1000000) (hm:m≤1000000):wza ⟨a⟩ s=some (rof (part (rq a) (shq s)))∧Sz (m+n+9) (rof (part (rq a) (shq s))):=by
 obtain ⟨h1,h2,h3,h4⟩:=hs
 unfold wza
 obtain ⟨i1,i2⟩:=qzrp (n:=s.Weight) (by omega) (by omega)
 obtain ⟨j1,j2⟩:=qzi5 ha i2 m1 (by omega) (by omega) (by omega)
 obtain ⟨k1,k2⟩:=qzrt j2 h1 (by omega) n1 (by omega) (by omega)
 obtain ⟨p1,p2⟩:=qzq3 k2 h2 (by omega) n1 (by omega) (by omega)
 rw [i1]
 simp only [bd_s]
 rw [j1]
 simp only [bd_s]
 rw [k1]
 simp only [bd_s]
 rw [p1]
 simp only [qzs] at p2 ⊢
 exact ⟨rfl,p2.mono (by omega)⟩
noncomputable def pts (x:Rat) (l:List qzb):List qza:=l.map fun s=>rof (part x (shq s))
theorem wzfo (x:Rat) (l:List qzb):(pts x l).map rq=(l.map shq).map (part x):=by
 unfold pts
 rw [List.map_map,List.map_map]
 exact List.map_congr_left fun s _=>qzs _
section
variable {n m:Nat} {l:List qzb}
theorem qzlb {a:qza} (hs:SGs n l) (ha:Sz m a) (hl:l.length≤10) (n1:1≤n) (m1:1≤m) (hn:n≤1000000) (hm:m≤1000000):qzu l (fun a0=>wza ⟨a⟩ a0)=some (pts (rq a) l) :=
 qzj4 (fun s h=>(qzrh (hs s h) ha n1 m1 hn hm).1) (by omega)
theorem qz04 {a:qza} (hs:SGs n l) (ha:Sz m a) (n1:1≤n) (m1:1≤m) (hn:n≤1000000) (hm:m≤1000000):∀ b,b∈pts (rq a) l→Sz (m+n+9) b:=fun b hb=>by
 obtain ⟨s,h,rfl⟩:=List.mem_map.1 hb
 exact (qzrh (hs s h) ha n1 m1 hn hm).2
theorem qz24 {a:qza} (hs:SGs n l) (ha:Sz m a) (hl:l.length≤10) (n1:1≤n) (m1:1≤m) (hn:n≤100000) (hm:m≤100000):vz7 (pts (rq a) l)=some (rof (tot (rq a) (l.map shq)))∧Sz (10*(m+n+10)+1) (rof (tot (rq a) (l.map shq))):=by
 have:=qzgs (qz04 hs ha n1 m1 (by omega) (by omega)) (by omega) (by omega) (show (pts (rq a) l).length≤10 by unfold pts; rw [List.length_map]; exact hl) (by omega)
 rw [wzfo] at this
 exact this
theorem qzq5 (hs:SGs n l) (hl:l.length≤10) (n1:1≤n) (hn:n≤100000):jz1 l=some (rof (flo (l.map shq)))∧Sz (10*(n+1)+1) (rof (flo (l.map shq))):=by
 unfold jz1
 rw [qzj4 (of:=fun a0=>jzb a0) (g:=fun s=>s.Floor) (fun s h=>rfl) (by omega)]
 simp only [bd_s]
 have:=qzgs (l:=l.map fun s=>s.Floor) (n:=n) (L:=10) (fun b hb=>by obtain ⟨s,h,rfl⟩:=List.mem_map.1 hb; exact (hs s h).1) n1 (by omega) (by rw [List.length_map]; exact hl) (by omega)
 rw [List.map_map] at this
 have e:flo (l.map shq)=sQ (l.map (rq∘fun s=>s.Floor)):=by unfold flo; rw [List.map_map]; rfl
 rw [e,this.1]
 exact ⟨rfl,this.2⟩
theorem qzql (hs:SGs n l) (hl:l.length≤10) (n1:1≤n) (hn:n≤100000):jzn l=some (rof (cap (l.map shq)))∧Sz (10*(n+1)+1) (rof (cap (l.map shq))):=by
 unfold jzn
 rw [qzj4 (of:=fun a0=>jzx a0) (g:=fun s=>s.Cap) (fun s h=>rfl) (by omega)]
 simp only [bd_s]
 have:=qzgs (l:=l.map fun s=>s.Cap) (n:=n) (L:=10) (fun b hb=>by obtain ⟨s,h,rfl⟩:=List.mem_map.1 hb; exact (hs s h).2.1) n1 (by omega) (by rw [List.length_map]; exact hl) (by omega)
 rw [List.map_map] at this
 have e:cap (l.map shq)=sQ (l.map (rq∘fun s=>s.Cap)):=by unfold cap; rw [List.map_map]; rfl
 rw [e,this.1]
 exact ⟨rfl,this.2⟩
theorem qzet {a b:qza} {k:Nat} (ha:Sz k a) (hb:Sz m b) (h0:rq b≠0) (n1:1≤k) (m1:1≤m) (hn:k≤33554432) (hm:m≤33554432):wzs a b=some (rof (rq a / rq b))∧Sz (k+m+1) (rof (rq a / rq b)):=by
 unfold wzs
 obtain ⟨e,h⟩:=qzy9 ha hb h0 n1 m1 hn hm
 rw [e]
 exact ⟨rfl,h⟩
theorem qzvk {s:qzb} (hs:SG n s) (n1:1≤n) (hn:n≤1000000):qzz s.Weight=some (rof (s.Weight:Rat))∧wzs s.Floor (rof (s.Weight:Rat))=some (rof (e1 (shq s)))∧wzs s.Cap (rof (s.Weight:Rat))=some (rof (e2 (shq s)))∧Sz (n+9) (rof (e1 (shq s)))∧Sz (n+9) (rof (e2 (shq s))):=by
 obtain ⟨h1,h2,h3,h4⟩:=hs
 obtain ⟨i1,i2⟩:=qzrp (n:=s.Weight) (by omega) (by omega)
 have hw:rq (rof (s.Weight:Rat))≠0:=by
  rw [qzs]
  intro h
  have:=Rat.intCast_eq_zero_iff.1 h
  omega
 obtain ⟨j1,j2⟩:=qzet h1 i2 hw n1 (by omega) (by omega) (by omega)
 obtain ⟨k1,k2⟩:=qzet h2 i2 hw n1 (by omega) (by omega) (by omega)
 rw [qzs] at j1 j2 k1 k2
 exact ⟨i1,j1,k1,j2,k2⟩
theorem qztm (l m:List Shr):jzm (l++m)=jzm l++jzm m:=by
 induction l with
 | nil=>rfl
 | cons s l ih=>simp [jzm,ih]
theorem qzrl (l:List Shr):(jzm l).length=2*l.length:=by
 induction l with
 | nil=>rfl
 | cons s l ih=>simp [jzm,ih]; omega
theorem qz3w (hs:SGs n l) (hl:l.length≤10) (n1:1≤n) (hn:n≤1000000):lp (jzf l) (0,[])=some ((jzm (l.map shq)).map rof):=by
 refine qznm (fun s=>∃ k:Nat,s=((k:Int),(jzm ((l.take k).map shq)).map rof)∧k≤l.length) (fun s=>l.length - s.1.toNat) _ ?_ ⟨0,rfl,by omega⟩ (by dsimp only; omega)
 rintro s ⟨k,rfl,hk⟩
 simp only [jzf]
 by_cases h0:k < l.length
 ·left
  have hx:l[k]?=some l[k]:=List.getElem?_eq_getElem h0
  obtain ⟨h1,h2,h3,_,_⟩:=qzvk (hs _ (List.getElem_mem h0)) n1 hn
  rw [it_d (by omega),at_e (n:=k) rfl hx]
  simp only [bd_s]
  rw [h1]
  simp only [bd_s]
  rw [h2,h3]
  simp only [bd_s]
  rw [ck_d (by simp only [List.length_append,List.length_map,qzrl,List.length_take,List.length_cons,List.length_nil]; omega),qz3 (by omega)]
  refine ⟨_,rfl,⟨k+1,?_,by omega⟩,by dsimp only; omega⟩
  rw [qzha hx,qztm,List.map_append]
  rfl
 ·right
  rw [it_n (by omega),show k=l.length by omega,List.take_length]
end
theorem qzvi (s:List UInt8):natV s=sv s:=by
 have key:∀ (s:List UInt8) (n:Nat),s.foldl (fun n b=>n*256+b.toNat) n=n*256 ^ s.length+sv s:=by
  intro s
  induction s with
  | nil=>intro n; simp [sv]
  | cons b r ih =>
   intro n
   rw [List.foldl_cons,ih]
   simp only [sv,List.length_cons,Nat.pow_succ,Nat.add_mul]
   rw [show n*256*256 ^ r.length=n*(256 ^ r.length*256) by rw [Nat.mul_assoc,Nat.mul_comm 256]]
   omega
 unfold natV
 rw [key]; simp
theorem qzot (q:Rat):ratV (rof q)=q:=by
 unfold ratV
 rw [qzvi,qzvi]
 by_cases h0:q=0
 ·subst h0; rfl
 ·rw [wzd0 h0,wzd8,qzvf,if_neg (qzpy (Rat.den_nz q)),wzj,wzj]
  have:=fvq q
  unfold fv sg at this
  exact this
def qins (a:Rat):List Rat→List Rat
 | []=>[a]
 | b :: l=>if a≤b then a :: b :: l else b :: qins a l
def qzfe:List Rat→List Rat
 | []=>[]
 | a :: l=>qins a (qzfe l)
theorem qzsx (a:Rat):∀ l:List Rat,qzeg (rof a) (l.map rof)=(qins a l).map rof
 | []=>rfl
 | b :: l=>by
  simp only [List.map_cons,qzeg,qins,qzot]
  split
  ·rfl
  ·rw [qzsx a l]; rfl
theorem qzq8:∀ l:List Rat,qzi1 (l.map rof)=(qzfe l).map rof
 | []=>rfl
 | a :: l=>by
  simp only [List.map_cons,qzi1,qzfe]
  rw [qzq8 l,qzsx]
theorem qzo0 {a x:Rat}:∀ {l:List Rat},x∈qins a l↔x=a∨x∈l
 | []=>by simp [qins]
 | b :: l=>by
  unfold qins
  split
  ·simp
  ·simp only [List.mem_cons,qzo0 (l:=l)]
   constructor
   ·rintro (h | h | h)
    ·exact .inr (.inl h)
    ·exact .inl h
    ·exact .inr (.inr h)
   ·rintro (h | h | h)
    ·exact .inr (.inl h)
    ·exact .inl h
    ·exact .inr (.inr h)
theorem qzrg {x:Rat}:∀ {l:List Rat},x∈qzfe l↔x∈l
 | []=>Iff.rfl
 | a :: l=>by rw [qzfe,qzo0,qzrg (l:=l),List.mem_cons]
theorem qzs2 (a:Rat):∀ l:List Rat,(qins a l).length=l.length+1
 | []=>rfl
 | b :: l=>by
  unfold qins
  split
  ·rfl
  ·simp [qzs2 a l]
theorem qzrs:∀ l:List Rat,(qzfe l).length=l.length
 | []=>rfl
 | a :: l=>by rw [qzfe,qzs2,qzrs l]; rfl
theorem qzve {a:Rat}:∀ {l:List Rat},l.Pairwise (·≤·)→(qins a l).Pairwise (·≤·)
 | [],_=>by simp [qins]
 | b :: l,h=>by
  unfold qins
  rw [List.pairwise_cons] at h
  split
  ·rename_i hab
   rw [List.pairwise_cons,List.pairwise_cons]
   refine ⟨fun x hx=>?_,h⟩
   rcases List.mem_cons.1 hx with rfl | hx
   ·exact hab
   ·exact Rat.le_trans hab (h.1 x hx)
  ·rename_i hab
   rw [List.pairwise_cons]
   refine ⟨fun x hx=>?_,qzve h.2⟩
   rcases qzo0.1 hx with rfl | hx
   ·grind
   ·exact h.1 x hx
theorem qztd:∀ l:List Rat,(qzfe l).Pairwise (·≤·)
 | []=>List.Pairwise.nil
 | a :: l=>qzve (qztd l)
theorem wzc6 {l:List Rat} {n:Nat} (hs:∀ q,q∈l→Sz n (rof q)) (n1:1≤n) (hn:n≤1000000) (h0:l≠[]) (hl:l.length≤100):yzm (l.map rof)=some ((qzfe l).map rof):=by
 unfold yzm
 have h1:decide (0 < (l.map rof).length)=true:=by
  cases l with
  | nil=>exact absurd rfl h0
  | cons=>rfl
 have h2:qzjz (l.map rof)=true:=by
  unfold qzjz
  rw [List.all_eq_true]
  intro a ha
  rw [List.all_eq_true]
  intro b hb
  obtain ⟨p,hp,rfl⟩:=List.mem_map.1 ha
  obtain ⟨q,hq,rfl⟩:=List.mem_map.1 hb
  have hc:wzha (rof p) (rof q)=some (cmpQ p q):=by
   unfold wzha
   rw [jz9 (hs p hp) (hs q hq) n1 n1 (by omega) (by omega),qzs,qzs]; rfl
  rw [hc,qzot,qzot]
  have e1:decide (cmpQ p q < 0)=decide (p < q):=by
   unfold cmpQ
   by_cases h:p < q
   ·rw [if_pos h,decide_eq_true h]; rfl
   ·rw [if_neg h,decide_eq_false h]
    split<;>rfl
  by_cases hpq:p=q
  ·subst hpq
   simp [e1]
  ·simp [e1,hpq]
 rw [ck_t (by rw [h1,h2]; simp; omega),qzq8]
end Go.Am

set_option linter.unusedVariables false
set_option linter.unusedSimpArgs false
namespace Go.Am
section
variable {n m:Nat} {l:List qzb}
theorem qzud {l:List Rat} (h:l.Pairwise (·≤·)) {i j:Nat} {x y:Rat} (hi:l[i]?=some x) (hj:l[j]?=some y) (hij:i≤j):x≤y:=by
 obtain ⟨h1,rfl⟩:=List.getElem?_eq_some_iff.1 hi
 obtain ⟨h2,rfl⟩:=List.getElem?_eq_some_iff.1 hj
 rcases Nat.lt_or_ge i j with h' | h'
 ·exact List.pairwise_iff_getElem.1 h i j h1 h2 h'
 ·have:i=j:=by omega
  subst this; exact Rat.le_refl
theorem qzfx {p q:Rat}:cmpQ p q≤0↔p≤q:=by
 unfold cmpQ
 constructor
 ·intro h
  rcases yzj q p with h' | h'
  ·rw [if_neg (by grind),if_pos h'] at h; omega
  ·exact h'
 ·intro h
  split
  ·omega
  ·rw [if_neg (by grind)]; omega
theorem qzvu {p q:Rat}:cmpQ p q < 0↔p < q:=by
 unfold cmpQ
 constructor
 ·intro h
  rcases yzj p q with h' | h'
  ·exact h'
  ·rw [if_neg (by grind)] at h
   split at h<;>omega
 ·intro h
  rw [if_pos h]; omega
theorem qzhv {p q:Rat}:0 < cmpQ p q↔q < p:=by
 unfold cmpQ
 constructor
 ·intro h
  rcases yzj q p with h' | h'
  ·exact h'
  ·split at h
   ·omega
   ·rw [if_neg (by grind)] at h; omega
 ·intro h
  rw [if_neg (by grind),if_pos h]; omega
theorem qz27 {flow:qza} (hs:SGs n l) (hok:vzr (l.map shq)) (hf:Sz n flow) (n1:1≤n) (hn:n≤1000) (hl:l.length≤10) (h0:l≠[]) (hc:rq flow≤cap (l.map shq)):∃ x,wzq l flow=some (rof x)∧yzo (l.map shq) (rq flow) x∧Sz 200000 (rof x):=by
 unfold wzq
 rw [qz3w hs hl n1 (by omega)]
 simp only [bd_s]
 have hne:jzm (l.map shq)≠[]:=by
  cases l with
  | nil=>exact absurd rfl h0
  | cons=>simp [jzm]
 have hlen:(jzm (l.map shq)).length≤20:=by rw [qzrl,List.length_map]; omega
 have hes:∀ q,q∈jzm (l.map shq)→Sz (n+9) (rof q):=fun q hq=>by
  obtain ⟨s,hs',hq⟩:=qzef.1 hq
  obtain ⟨t,ht,rfl⟩:=List.mem_map.1 hs'
  obtain ⟨_,_,_,h4,h5⟩:=qzvk (hs t ht) n1 (by omega)
  rcases hq with rfl | rfl
  ·exact h4
  ·exact h5
 rw [wzc6 hes (by omega) (by omega) hne (by omega)]
 simp only [bd_s]
 have hpw:=qztd (jzm (l.map shq))
 have hmem:∀ x,x∈qzfe (jzm (l.map shq))↔x∈jzm (l.map shq):=fun x=>qzrg
 have hql:=qzrs (jzm (l.map shq))
 generalize qzfe (jzm (l.map shq))=es at *
 obtain ⟨o,e,ho⟩:=vzf (s:=(0,(⟨false,[],[]⟩:qza))) (body:=jzd flow l (es.map rof)) (fun s=>∃ (k:Nat) (a:Rat),s=((k:Int),rof a)∧k≤es.length∧0≤a∧Sz (n+9) (rof a)∧(k=0→a=0)∧(0 < k→es[k - 1]?=some a∧tot a (l.map shq) < rq flow)) (fun s=>es.length - s.1.toNat) (fun o=>∃ x,(o=.inl (rof x)∨o=.inr (rof x))∧yzo (l.map shq) (rq flow) x∧Sz 200000 (rof x)) (by
  rintro s ⟨k,a,rfl,hk,ha,has,hk0,hk1⟩
  simp only [jzd,List.length_map]
  by_cases h:k < es.length
  ·have hx:es[k]?=some es[k]:=List.getElem?_eq_getElem h
   have hxm:es[k]∈jzm (l.map shq):=(hmem _).1 (List.getElem_mem h)
   have hbs:=hes _ hxm
   have hb0:=qzug hok hxm
   generalize hb:es[k]=b at *
   have hab:∀ x,x∈jzm (l.map shq)→x≤a∨b≤x:=fun x hxe=>by
    obtain ⟨i,hi,rfl⟩:=List.mem_iff_getElem.1 ((hmem x).2 hxe)
    have hi':es[i]?=some es[i]:=List.getElem?_eq_getElem hi
    rcases Nat.lt_or_ge i k with h' | h'
    ·exact .inl (qzud hpw hi' (hk1 (by omega)).1 (by omega))
    ·exact .inr (qzud hpw hx hi' h')
   obtain ⟨t1,t2⟩:=qz24 hs has hl n1 (by omega) (by omega) (by omega)
   obtain ⟨u1,u2⟩:=qz24 hs hbs hl n1 (by omega) (by omega) (by omega)
   rw [qzs] at t1 t2 u1 u2
   have p1:=qzlb hs has hl n1 (by omega) (by omega) (by omega)
   have p2:=qzlb hs hbs hl n1 (by omega) (by omega) (by omega)
   rw [qzs] at p1 p2
   rw [it_d (by omega),at_e (n:=k) rfl (by rw [List.getElem?_map,hx]; rfl)]
   simp only [bd_s]
   rw [p1,p2]
   simp only [bd_s]
   rw [t1,u1]
   simp only [bd_s]
   rw [jz9 hf t2 n1 (by omega) (by omega) (by omega),qzs]
   simp only [bd_s]
   by_cases c1:rq flow≤tot a (l.map shq)
   ·right
    rw [it_d (qzfx.2 c1)]
    refine ⟨_,rfl,a,.inl rfl,?_,has.mono (by omega)⟩
    have hk00:k=0:=by
     rcases Nat.eq_zero_or_pos k with h' | h'
     ·exact h'
     ·have:=(hk1 h').2; grind
    rw [hk0 hk00] at c1 ⊢
    exact qz3q c1
   ·rw [it_n (fun h=>c1 (qzfx.1 h)),jz9 hf u2 n1 (by omega) (by omega) (by omega),qzs]
    simp only [bd_s]
    by_cases c2:rq flow≤tot b (l.map shq)
    ·right
     have hlt:tot a (l.map shq) < rq flow:=by grind
     have hd0:rq (rof (tot b (l.map shq) - tot a (l.map shq)))≠0:=by rw [qzs]; grind
     rw [it_d (qzfx.2 c2)]
     obtain ⟨v1,v2⟩:=qzg8 hf t2 n1 (by omega) (by omega) (by omega)
     obtain ⟨w1,w2⟩:=qzg8 u2 t2 (by omega) (by omega) (by omega) (by omega)
     rw [qzs] at v1 v2
     rw [qzs,qzs] at w1 w2
     obtain ⟨x1,x2⟩:=qzet v2 w2 hd0 (by omega) (by omega) (by omega) (by omega)
     rw [qzs,qzs] at x1 x2
     obtain ⟨y1,y2⟩:=qzg8 hbs has (by omega) (by omega) (by omega) (by omega)
     rw [qzs,qzs] at y1 y2
     obtain ⟨z1,z2⟩:=qzi5 x2 y2 (by omega) (by omega) (by omega) (by omega)
     rw [qzs,qzs] at z1 z2
     obtain ⟨s1,s2⟩:=qziy has z2 (by omega) (by omega) (by omega) (by omega)
     rw [qzs,qzs] at s1 s2
     rw [v1,w1]
     simp only [bd_s]
     rw [x1,y1]
     simp only [bd_s]
     rw [z1]
     simp only [bd_s]
     rw [s1]
     simp only [bd_s]
     exact ⟨_,rfl,_,.inr rfl,(qzop hok ha hlt c2 (qzxj hab)).1,s2.mono (by omega)⟩
    ·left
     rw [it_n (fun h=>c2 (qzfx.1 h)),qz3 (by omega)]
     refine ⟨_,rfl,⟨k+1,b,rfl,by omega,hb0,hbs,fun h=>by omega,fun _=>⟨by rw [Nat.add_sub_cancel]; exact hx,by grind⟩⟩,by dsimp only; omega⟩
  ·exfalso
   have hkl:k=es.length:=by omega
   have hpos:0 < es.length:=by
    rw [hql]
    exact List.length_pos_iff.2 hne
   obtain ⟨g1,g2⟩:=hk1 (by omega)
   have:tot a (l.map shq)=cap (l.map shq):=wzdc hok fun s hs'=>by
    have hm:e2 s∈jzm (l.map shq):=qzef.2 ⟨s,hs',.inr rfl⟩
    obtain ⟨i,hi,e⟩:=List.mem_iff_getElem.1 ((hmem _).2 hm)
    have hi':es[i]?=some (e2 s):=by rw [List.getElem?_eq_getElem hi,e]
    exact qzud hpw hi' g1 (by omega)
   grind) ⟨0,0,rfl,by omega,Rat.le_refl,Sz.zero _,fun _=>rfl,fun h=>by omega⟩ (by dsimp only; omega)
 obtain ⟨x,hx,h1,h2⟩:=ho
 rw [e]
 rcases hx with rfl | rfl
 ·exact ⟨x,rfl,h1,h2⟩
 ·exact ⟨x,rfl,h1,h2⟩
end
def posB (a:qza):Bool:=decide (Vd a)&&!a.Neg
theorem qzi9 {a:qza} (h:Sz 134217728 a):jz7 a=some (posB a):=by
 unfold jz7 posB
 rw [qzga h]
 simp only [bd_s]
 by_cases hv:Vd a<;>simp [hv]
theorem qzc5 {a:qza}:posB a=true↔Vd a∧0≤rq a:=by
 unfold posB
 rw [Bool.and_eq_true,decide_eq_true_iff]
 refine and_congr_right fun hv=>?_
 have h:=qz3l (q:=rq a)
 rw [qzyo hv] at h
 cases hn:a.Neg
 ·simp [hn] at h ⊢; grind
 ·simp [hn] at h ⊢; grind
noncomputable def serr (pre:List qzb) (s:qzb):Int :=
 if s.State < 0∨8≤s.State∨s.Weight < 1∨1000000 < s.Weight then 3
 else if posB s.Floor=false∨posB s.Cap=false∨rq s.Cap < rq s.Floor then 1
 else if ∃ t,t∈pre∧t.State=s.State then 9 else 0
noncomputable def sgo (pre:List qzb):List qzb→Int
 | []=>0
 | s :: l=>if serr pre s=0 then sgo (pre++[s]) l else serr pre s
noncomputable def chkS (l:List qzb):Int:=if l.length < 1∨8 < l.length then 2 else sgo [] l
def Few (n:Nat) (l:List qzb):Prop:=∀ s,s∈l→Sz n s.Floor∧Sz n s.Cap
theorem qz29 {l:List qzb} {f:qzb→Option Bool} {g:qzb→Bool} (h:∀ s,s∈l→f s=some (g s)) (hl:l.length≤1000):jz8 l f=some (l.any g):=by
 unfold jz8 qzas
 obtain ⟨o,e,ho⟩:=vzf (s:=(0:Int)) (body:=kze f l) (fun s=>∃ k:Nat,s=(k:Int)∧k≤l.length∧(l.take k).any g=false) (fun s=>l.length - s.toNat) (fun o=>(o=.inl ()∧l.any g=false)∨∃ k:Nat,o=.inr (k:Int)∧l.any g=true) (by
  rintro s ⟨k,rfl,hk,hn⟩
  simp only [kze]
  by_cases h0:k < l.length
  ·have hx:l[k]?=some l[k]:=List.getElem?_eq_getElem h0
   rw [it_d (by omega),at_e (n:=k) rfl hx]
   simp only [bd_s]
   rw [h _ (List.getElem_mem h0)]
   simp only [bd_s]
   cases hg:g l[k]
   ·left
    rw [qzil,qz3 (by omega)]
    exact ⟨_,rfl,⟨k+1,rfl,by omega,by rw [List.take_succ_eq_append_getElem h0,List.any_append,hn]; simp [hg]⟩,by omega⟩
   ·right
    rw [wzdh]
    exact ⟨_,rfl,.inr ⟨k,rfl,List.any_eq_true.2 ⟨_,List.getElem_mem h0,hg⟩⟩⟩
  ·right
   rw [it_n (by omega)]
   rw [show k=l.length by omega,List.take_length] at hn
   exact ⟨_,rfl,.inl ⟨rfl,hn⟩⟩) ⟨0,rfl,by omega,rfl⟩ (by show l.length - (0:Int).toNat < _; omega)
 rw [e]
 rcases ho with ⟨rfl,h1⟩ | ⟨k,rfl,h1⟩
 ·rw [h1]; rfl
 ·rw [h1]
  exact congrArg some (decide_eq_true (by omega))
theorem qz3b {pre l:List qzb} {k:Nat} (h:k < l.length):sgo (l.take k) (l.drop k)=if serr (l.take k) l[k]=0 then sgo (l.take (k+1)) (l.drop (k+1)) else serr (l.take k) l[k]:=by
 rw [List.drop_eq_getElem_cons h,sgo,List.take_succ_eq_append_getElem h]
theorem qz3n {α:Type} {l:List α} {k:Nat}:sub l 0 (k:Int)=l.take k:=by
 unfold sub
 rw [show Int.toNat 0=0 from rfl,List.drop_zero,show ((k:Int) - 0).toNat=k by omega]
theorem qzvl {pre:List qzb} {s:qzb}:(pre.any fun t=>decide (t.State=s.State))=true↔∃ t,t∈pre∧t.State=s.State:=by
 rw [List.any_eq_true]
 simp
theorem qzuh {n:Nat} {l:List qzb} (hf:Few n l) (n1:1≤n) (hn:n≤1000000):kz4 l=some (chkS l):=by
 unfold kz4 chkS
 by_cases hb:l.length < 1∨8 < l.length
 ·rw [if_pos hb,it_t (by
   rcases hb with h | h
   ·rw [decide_eq_true (by omega:(l.length:Int) < 1)]; rfl
   ·rw [decide_eq_true (by omega:(8:Int) < (l.length:Int))]; simp)]
 ·rw [if_neg hb,it_f (by rw [decide_eq_false (by omega:¬ (l.length:Int) < 1),decide_eq_false (by omega:¬ (8:Int) < (l.length:Int))]; rfl)]
  obtain ⟨o,e,ho⟩:=vzf (s:=(0:Int)) (body:=yzv l) (fun s=>∃ k:Nat,s=(k:Int)∧k≤l.length∧sgo (l.take k) (l.drop k)=sgo [] l) (fun s=>l.length - s.toNat) (fun o=>(o=.inl ()∧sgo [] l=0)∨o=.inr (sgo [] l)) (by
   rintro s ⟨k,rfl,hk,hg⟩
   simp only [yzv]
   by_cases h0:k < l.length
   ·have hx:l[k]?=some l[k]:=List.getElem?_eq_getElem h0
    have hz:=hf _ (List.getElem_mem h0)
    rw [qz3b (pre:=[]) h0] at hg
    rw [it_d (by omega),at_e (n:=k) rfl hx]
    simp only [bd_s]
    generalize l[k]=s at *
    obtain ⟨z1,z2⟩:=hz
    by_cases c1:s.State < 0∨8≤s.State∨s.Weight < 1∨1000000 < s.Weight
    ·right
     have he:serr (l.take k) s=3:=by unfold serr; rw [if_pos c1]
     rw [he,if_neg (by omega)] at hg
     rw [it_t (by rcases c1 with h | h | h | h<;>simp [h])]
     exact ⟨_,rfl,.inr (by rw [← hg])⟩
    ·rw [it_f (by simp only [not_or] at c1; simp; omega)]
     rw [qzi9 (z1.mono (by omega)),qzi9 (z2.mono (by omega))]
     simp only [bd_s]
     by_cases c2:posB s.Floor=false∨posB s.Cap=false∨rq s.Cap < rq s.Floor
     ·right
      have he:serr (l.take k) s=1:=by unfold serr; rw [if_neg c1,if_pos c2]
      rw [he,if_neg (by omega)] at hg
      rw [jz9 z1 z2 n1 n1 (by omega) (by omega)]
      refine ⟨.inr 1,?_,.inr (by rw [← hg])⟩
      cases p1:posB s.Floor
      ·rfl
      ·cases p2:posB s.Cap
       ·rfl
       ·have h3:rq s.Cap < rq s.Floor:=by simpa [p1,p2] using c2
        simp only [Bool.not_true,Bool.not_false,qzbx,bd_s,cond_false]
        rw [it_t (by simp; exact qzhv.2 h3)]
     ·simp only [not_or,Bool.not_eq_false] at c2
      obtain ⟨p1,p2,p3⟩:=c2
      rw [p1,p2]
      simp only [Bool.not_true,Bool.not_false,qzbx,bd_s,cond_false]
      rw [jz9 z1 z2 n1 n1 (by omega) (by omega)]
      simp only [bd_s]
      rw [it_f (decide_eq_false (fun h=>p3 (qzhv.1 h))),qzhn (by omega),qz3n]
      rw [qz29 (f:=fun a0=>qzan a0 s) (g:=fun t=>decide (t.State=s.State)) (fun t _=>rfl) (by rw [List.length_take]; omega)]
      simp only [bd_s]
      by_cases c3:∃ t,t∈l.take k∧t.State=s.State
      ·right
       have he:serr (l.take k) s=9:=by unfold serr; rw [if_neg c1,if_neg (by simp [p1,p2,p3]),if_pos c3]
       rw [he,if_neg (by omega)] at hg
       rw [it_t (qzvl.2 c3)]
       exact ⟨_,rfl,.inr (by rw [← hg])⟩
      ·left
       have he:serr (l.take k) s=0:=by unfold serr; rw [if_neg c1,if_neg (by simp [p1,p2,p3]),if_neg c3]
       rw [he,if_pos rfl] at hg
       rw [it_f (by rw [← Bool.not_eq_true]; exact fun h=>c3 (qzvl.1 h)),qz3 (by omega)]
       exact ⟨_,rfl,⟨k+1,rfl,by omega,hg⟩,by omega⟩
   ·right
    rw [it_n (by omega)]
    rw [show k=l.length by omega,List.take_length,List.drop_length] at hg
    exact ⟨_,rfl,.inl ⟨rfl,hg.symm⟩⟩) ⟨0,rfl,by omega,rfl⟩ (by show l.length - (0:Int).toNat < _; omega)
  rw [e]
  rcases ho with ⟨rfl,h1⟩ | rfl
  ·rw [h1]; rfl
  ·rfl
end Go.Am

set_option linter.unusedVariables false
set_option linter.unusedSimpArgs false
namespace Go.Am
def SOk (s:qzb):Prop:=(0≤s.State∧s.State < 8∧1≤s.Weight∧s.Weight≤1000000)∧Vd s.Floor∧0≤rq s.Floor∧Vd s.Cap∧0≤rq s.Cap∧rq s.Floor≤rq s.Cap
structure Good (l:List qzb):Prop where
 n1:1≤l.length
 n8:l.length≤8
 ok:∀ s,s∈l→SOk s
 nd:(l.map (·.State)).Nodup
theorem qzrv {pre:List qzb} {s:qzb}:serr pre s=0↔SOk s∧∀ t,t∈pre→t.State≠s.State:=by
 unfold serr SOk
 by_cases c1:s.State < 0∨8≤s.State∨s.Weight < 1∨1000000 < s.Weight
 ·rw [if_pos c1]
  constructor
  ·intro h; omega
  ·rintro ⟨⟨h,_⟩,_⟩; omega
 ·rw [if_neg c1]
  by_cases c2:posB s.Floor=false∨posB s.Cap=false∨rq s.Cap < rq s.Floor
  ·rw [if_pos c2]
   constructor
   ·intro h; omega
   ·rintro ⟨⟨_,h1,h2,h3,h4,h5⟩,_⟩
    have p1:=qzc5.2 ⟨h1,h2⟩
    have p2:=qzc5.2 ⟨h3,h4⟩
    rw [p1,p2] at c2
    rcases c2 with h | h | h
    ·cases h
    ·cases h
    ·grind
  ·rw [if_neg c2]
   simp only [not_or,Bool.not_eq_false] at c2
   obtain ⟨p1,p2,p3⟩:=c2
   obtain ⟨h1,h2⟩:=qzc5.1 p1
   obtain ⟨h3,h4⟩:=qzc5.1 p2
   by_cases c3:∃ t,t∈pre∧t.State=s.State
   ·rw [if_pos c3]
    constructor
    ·intro h; omega
    ·rintro ⟨_,h⟩
     obtain ⟨t,ht,e⟩:=c3
     exact absurd e (h t ht)
   ·rw [if_neg c3]
    refine ⟨fun _=>⟨⟨by omega,h1,h2,h3,h4,by grind⟩,fun t ht e=>c3 ⟨t,ht,e⟩⟩,fun _=>rfl⟩
theorem qztt:∀ {l pre:List qzb},sgo pre l=0↔(∀ s,s∈l→SOk s)∧(l.map (·.State)).Nodup∧∀ s,s∈l→∀ t,t∈pre→t.State≠s.State
 | [],pre=>by simp [sgo]
 | s :: l,pre=>by
  unfold sgo
  by_cases h:serr pre s=0
  ·rw [if_pos h,qztt (l:=l)]
   obtain ⟨h1,h2⟩:=qzrv.1 h
   simp only [List.map_cons,List.nodup_cons,List.mem_map,List.mem_cons,List.mem_append,List.mem_singleton]
   constructor
   ·rintro ⟨a,b,c⟩
    refine ⟨fun t ht=>?_,⟨?_,b⟩,fun t ht u hu=>?_⟩
    ·rcases ht with rfl | ht
     ·exact h1
     ·exact a t ht
    ·rintro ⟨t,ht,e⟩
     exact c t ht s (.inr (.inl rfl)) e.symm
    ·rcases ht with rfl | ht
     ·exact h2 u hu
     ·exact c t ht u (.inl hu)
   ·rintro ⟨a,⟨b,b2⟩,c⟩
    refine ⟨fun t ht=>a t (.inr ht),b2,fun t ht u hu=>?_⟩
    rcases hu with hu | hu | hu
    ·exact c t (.inr ht) u hu
    ·subst hu
     intro e
     exact b ⟨t,ht,e.symm⟩
    ·cases hu
  ·rw [if_neg h]
   constructor
   ·intro h'; exact absurd h' h
   ·rintro ⟨a,_,c⟩
    exact absurd (qzrv.2 ⟨a s List.mem_cons_self,c s List.mem_cons_self⟩) h
theorem qzo6 {l:List qzb}:chkS l=0↔Good l:=by
 unfold chkS
 by_cases hb:l.length < 1∨8 < l.length
 ·rw [if_pos hb]
  constructor
  ·intro h; omega
  ·intro h; have:=h.n1; have:=h.n8; omega
 ·rw [if_neg hb,qztt]
  constructor
  ·rintro ⟨a,b,_⟩; exact ⟨by omega,by omega,a,b⟩
  ·intro h; exact ⟨h.ok,h.nd,fun s _ t ht=>by cases ht⟩
theorem Good.all {l:List qzb} (h:Good l):vzr (l.map shq):=fun s hs=>by
 obtain ⟨t,ht,rfl⟩:=List.mem_map.1 hs
 obtain ⟨⟨_,_,h1,_⟩,_,h2,_,_,h3⟩:=h.ok t ht
 exact ⟨h1,h2,h3⟩
theorem Good.sg {n:Nat} {l:List qzb} (h:Good l) (hf:Few n l):SGs n l:=fun s hs=>⟨(hf s hs).1,(hf s hs).2,(h.ok s hs).1.2.2.1,(h.ok s hs).1.2.2.2⟩
theorem Good.ne {l:List qzb} (h:Good l):l≠[]:=fun e=>by have:=h.n1; rw [e] at this; simp at this
end Go.Am

set_option linter.unusedVariables false
set_option linter.unusedSimpArgs false
namespace Go.Am
noncomputable def chk2 (l:List qzb) (a:qza):Int:=if chkS l=0 then (if posB a=true then 0 else 1) else chkS l
theorem qzgd {l:List qzb} {a:qza}:chk2 l a=0↔Good l∧Vd a∧0≤rq a:=by
 unfold chk2
 by_cases h:chkS l=0
 ·rw [if_pos h,← qzo6]
  by_cases hp:posB a=true
  ·rw [if_pos hp]
   exact ⟨fun _=>⟨h,qzc5.1 hp⟩,fun _=>rfl⟩
  ·rw [if_neg hp]
   exact ⟨fun h=>by omega,fun h=>absurd (qzc5.2 h.2) hp⟩
 ·rw [if_neg h,← qzo6]
  exact ⟨fun h'=>absurd h' h,fun h'=>absurd h'.1 h⟩
section
variable {n m:Nat} {l:List qzb}
theorem qzue {a:qza} (hf:Few n l) (ha:Sz m a) (n1:1≤n) (hn:n≤1000000) (hm:m≤1000000):yzg l a=some (chk2 l a):=by
 unfold yzg chk2
 rw [qzuh hf n1 hn,qzi9 (ha.mono (by omega))]
 simp only [bd_s]
 by_cases h:chkS l=0
 ·rw [qzk5 h,if_pos h]
  by_cases hp:posB a=true
  ·rw [hp,if_pos rfl]; rfl
  ·rw [if_neg hp,it_t (by simp [hp])]
 ·rw [qzhj h,if_neg h]
theorem SGs.w (hs:SGs n l):∀ s,s∈l.map shq→1≤s.w∧s.w≤1000000:=fun s h=>by
 obtain ⟨t,ht,rfl⟩:=List.mem_map.1 h
 exact ⟨(hs t ht).2.2.1,(hs t ht).2.2.2⟩
end
end Go.Am

set_option linter.unusedVariables false
set_option linter.unusedSimpArgs false
namespace Go.Am
section
variable {n m:Nat} {l:List qzb}
end
open Classical in
noncomputable def lev (L:List Shr) (f:Rat):Rat:=if h:∃ x,yzo L f x then h.choose else 0
theorem wzfd {L:List Shr} {f x:Rat} (h:yzo L f x):lev L f=x:=by
 unfold lev
 rw [dif_pos ⟨x,h⟩]
 exact (Exists.choose_spec (⟨x,h⟩:∃ x,yzo L f x)).uniq h
noncomputable def dvP (L:List Shr) (f:Rat):List Rat:=if f < flo L then L.map (fun s=>s.fl*(f / flo L)) else if cap L < f then L.map Shr.cp else L.map (part (lev L f))
noncomputable def dvR (L:List Shr) (f:Rat):Rat:=if f < flo L then 0 else if cap L < f then f - cap L else 0
noncomputable def dv (l:List qzb) (f:Rat):qze:=⟨(dvP (l.map shq) f).map rof,rof (dvR (l.map shq) f)⟩
end Go.Am

set_option linter.unusedVariables false
set_option linter.unusedSimpArgs false
namespace Go.Am
theorem wz1n {n:Nat} {l:List qzb} (hf:Few n l) (h:Good l):SGs n l:=h.sg hf
section
variable {n:Nat} {l:List qzb} {a:qza}
theorem qzfy (hf:Few n l) (ha:Sz n a) (n1:1≤n) (hn:n≤1000) (hg:Good l) (hc:¬ cap (l.map shq) < rq a):wzq l a=some (rof (lev (l.map shq) (rq a)))∧yzo (l.map shq) (rq a) (lev (l.map shq) (rq a))∧Sz 200000 (rof (lev (l.map shq) (rq a))):=by
 have:=hg.n8
 obtain ⟨x,h1,h2,h3⟩:=qz27 (hg.sg hf) hg.all ha n1 hn (by omega) hg.ne (by grind)
 rw [wzfd h2]
 exact ⟨h1,h2,h3⟩
noncomputable def dvF (l:List qzb) (a:qza):qze×Int:=if chk2 l a=0 then (dv l (rq a),0) else (⟨[],rof 0⟩,chk2 l a)
theorem qzwa (x:Rat):pts x l=((l.map shq).map (part x)).map rof:=by
 unfold pts
 rw [List.map_map,List.map_map]; rfl
theorem qzvd {f:Rat} (hf:0≤f) (h:f < flo (l.map shq)):flo (l.map shq)≠0:=by grind
theorem qzs7 (hg:Good l):((l.map shq).map Shr.cp).map rof=l.map (·.Cap):=by
 rw [List.map_map,List.map_map]
 exact List.map_congr_left fun s hs=>qzyo (hg.ok s hs).2.2.2.1
theorem qzfu (hf:Few n l) (ha:Sz n a) (n1:1≤n) (hn:n≤1000):wzy l a=some (dvF l a):=by
 unfold wzy dvF
 rw [qzue hf ha n1 (by omega) (by omega)]
 simp only [bd_s]
 by_cases h:chk2 l a=0
 ·obtain ⟨hg,hv,hp⟩:=qzgd.1 h
  have:=hg.n8
  have hs:=hg.sg hf
  obtain ⟨c1,c2⟩:=qzql hs (by omega) n1 (by omega)
  obtain ⟨d1,d2⟩:=qzq5 hs (by omega) n1 (by omega)
  rw [qzk5 h,if_pos h,d1,c1]
  simp only [bd_s]
  rw [jz9 ha d2 n1 (by omega) (by omega) (by omega),qzs]
  simp only [bd_s]
  unfold dv dvP dvR
  by_cases h1:rq a < flo (l.map shq)
  ·have h0:rq (rof (flo (l.map shq)))≠0:=by rw [qzs]; exact qzvd hp h1
   obtain ⟨e1,e2⟩:=qzet ha d2 h0 n1 (by omega) (by omega) (by omega)
   rw [qzs] at e1 e2
   rw [it_d (qzvu.2 h1),if_pos h1,if_pos h1,e1]
   simp only [bd_s]
   rw [qzj4 (of:=fun a0=>vzj a0 (rof (rq a / flo (l.map shq)))) (g:=fun s=>rof (rq s.Floor*(rq a / flo (l.map shq)))) (fun s hs'=>by
    unfold vzj
    rw [(qzi5 (hf s hs').1 e2 n1 (by omega) (by omega) (by omega)).1,qzs]; rfl) (by omega)]
   simp only [bd_s]
   rw [List.map_map,List.map_map]
   rfl
  ·rw [it_n (fun h=>h1 (qzvu.1 h)),if_neg h1,if_neg h1,jz9 ha c2 n1 (by omega) (by omega) (by omega),qzs]
   simp only [bd_s]
   by_cases h2:cap (l.map shq) < rq a
   ·rw [it_d (qzhv.2 h2),if_pos h2,if_pos h2,qzj4 (of:=fun a0=>yz0 a0) (g:=fun s=>s.Cap) (fun s _=>rfl) (by omega)]
    simp only [bd_s]
    rw [(qzg8 ha c2 n1 (by omega) (by omega) (by omega)).1,qzs,qzs7 hg]
    rfl
   ·obtain ⟨g1,g2,g3⟩:=qzfy hf ha n1 hn hg h2
    have:=qzlb hs g3 (by omega) n1 (by omega) (by omega) (by omega)
    rw [qzs] at this
    rw [it_n (fun h=>h2 (qzhv.1 h)),if_neg h2,if_neg h2,g1]
    simp only [bd_s]
    rw [this,qzwa]
    rfl
 ·rw [qzhj h,if_neg h]; rfl
theorem qzx9 {body:Int→Option (Int⊕(Unit⊕Bool))} {x y:List qza} (hl:x.length=y.length) (hn:x.length≤1000) (hb:∀ k:Nat,(h:k < x.length)→(h2:k < y.length)→body (k:Int)=if x[k]=y[k] then some (.inl ((k:Int)+1)) else some (.inr (.inr false))) (he:body (x.length:Int)=some (.inr (.inl ()))):lp body 0=some (if x=y then .inl () else .inr false):=by
 refine qznm (fun s=>∃ k:Nat,s=(k:Int)∧k≤x.length∧x.take k=y.take k) (fun s=>x.length - s.toNat) _ ?_ ⟨0,rfl,by omega,rfl⟩ (by show x.length - (0:Int).toNat < _; omega)
 rintro s ⟨k,rfl,hk,ht⟩
 by_cases h0:k < x.length
 ·have h2:k < y.length:=by omega
  rw [hb k h0 h2]
  by_cases hc:x[k]=y[k]
  ·left
   rw [if_pos hc]
   exact ⟨_,rfl,⟨k+1,rfl,by omega,by rw [List.take_succ_eq_append_getElem h0,List.take_succ_eq_append_getElem h2,ht,hc]⟩,by omega⟩
  ·right
   rw [if_neg hc,if_neg]
   intro e
   subst e
   exact hc rfl
 ·right
  rw [show k=x.length by omega,he,if_pos]
  rw [show k=x.length by omega,List.take_length,hl,List.take_length] at ht
  exact ht
theorem wzvw {x y:List qza} (hn:x.length≤1000):qzba x y=some (decide (x=y)):=by
 unfold qzba
 by_cases hl:x.length=y.length
 ·rw [qzk5 (by omega),qzx9 hl hn (fun k h h2=>by
   simp only [qze3]
   rw [it_d (by omega),at_e (n:=k) rfl (List.getElem?_eq_getElem h),at_e (n:=k) rfl (List.getElem?_eq_getElem h2)]
   simp only [bd_s]
   rw [eqR]
   by_cases hc:x[k]=y[k]
   ·rw [qzk5 hc,if_pos hc,qz3 (by omega)]
   ·rw [qzhj hc,if_neg hc]) (by simp only [qze3]; rw [it_n (by omega)])]
  by_cases e:x=y
  ·rw [if_pos e,decide_eq_true e]; rfl
  ·rw [if_neg e,decide_eq_false e]; rfl
 ·rw [qzhj (by omega),decide_eq_false (fun e=>hl (by rw [e]))]
end
end Go.Am

set_option linter.unusedVariables false
set_option linter.unusedSimpArgs false
namespace Go.Am
theorem qz2h (c:Rat) (g:Shr→Rat):∀ L:List Shr,sQ (L.map fun s=>g s*c)=sQ (L.map g)*c
 | []=>by show (0:Rat)=0*c; grind
 | s :: L=>by
  show g s*c+sQ (L.map fun s=>g s*c)=(g s+sQ (L.map g))*c
  rw [qz2h c g L,Rat.add_mul]
end Go.Am

set_option linter.unusedVariables false
set_option linter.unusedSimpArgs false
namespace Go.Am
theorem qzul {body:Int→Option (Int⊕(Unit⊕Bool))} {N:Nat} (P:Nat→Prop) (hN:N≤1000) (hb:∀ k:Nat,k < N→(P k→body (k:Int)=some (.inl ((k:Int)+1)))∧(¬ P k→body (k:Int)=some (.inr (.inr false)))) (he:body (N:Int)=some (.inr (.inl ()))):∃ b:Bool,(b=true↔∀ k,k < N→P k)∧lp body 0=some (cond b (.inl ()) (.inr false)):=by
 obtain ⟨o,e,ho⟩:=vzf (s:=(0:Int)) (body:=body) (fun s=>∃ k:Nat,s=(k:Int)∧k≤N∧∀ j,j < k→P j) (fun s=>N - s.toNat) (fun o=>(o=.inl ()∧∀ k,k < N→P k)∨(o=.inr false∧¬ ∀ k,k < N→P k)) (by
  rintro s ⟨k,rfl,hk,ht⟩
  by_cases h0:k < N
  ·by_cases hc:P k
   ·left
    rw [(hb k h0).1 hc]
    exact ⟨_,rfl,⟨k+1,rfl,by omega,fun j hj=>by
     rcases Nat.lt_or_ge j k with h' | h'
     ·exact ht j h'
     ·rw [show j=k by omega]; exact hc⟩,by omega⟩
   ·right
    rw [(hb k h0).2 hc]
    exact ⟨_,rfl,.inr ⟨rfl,fun h=>hc (h k h0)⟩⟩
  ·right
   rw [show k=N by omega] at ht ⊢
   rw [he]
   exact ⟨_,rfl,.inl ⟨rfl,ht⟩⟩) ⟨0,rfl,by omega,fun j h=>by omega⟩ (by show N - (0:Int).toNat < _; omega)
 rcases ho with ⟨rfl,h⟩ | ⟨rfl,h⟩
 ·exact ⟨true,⟨fun _=>h,fun _=>rfl⟩,e⟩
 ·exact ⟨false,⟨fun h'=>Bool.noConfusion h',fun h'=>absurd h' h⟩,e⟩
section
variable {n M:Nat} {l:List qzb} {a:qza} {d:qze}
end
end Go.Am

set_option linter.unusedVariables false
set_option linter.unusedSimpArgs false
namespace Go.Am
theorem qzvb {L:List Shr} {f:Rat}:(dvP L f).length=L.length:=by
 unfold dvP
 split
 ·rw [List.length_map]
 ·split<;>rw [List.length_map]
theorem qzzf {l:List qzb} {f:Rat}:(dv l f).Parts.length=l.length:=by
 show ((dvP (l.map shq) f).map rof).length=_
 rw [List.length_map,qzvb,List.length_map]
section
variable {n M:Nat} {l:List qzb} {a:qza} {d:qze}
theorem qzzc (hf:Few n l) (ha:Sz n a) (n1:1≤n) (hn:n≤1000) (hg:Good l):¬ cap (l.map shq) < rq a→yzo (l.map shq) (rq a) (lev (l.map shq) (rq a)):=fun h=>(qzfy hf ha n1 hn hg h).2.1
end
end Go.Am

set_option linter.unusedVariables false
set_option linter.unusedSimpArgs false
namespace Go.Am
theorem wzdz (l:List qzb):∃ b:Bool,qzdx l=some b∧(b=true↔l.length≤10∧Few 20 l):=by
 unfold qzdx
 by_cases h:10 < l.length
 ·rw [it_d (by omega)]
  exact ⟨false,rfl,⟨fun h=>Bool.noConfusion h,fun h'=>by omega⟩⟩
 ·rw [it_n (by omega)]
  obtain ⟨b,hb,e⟩:=qzul (N:=l.length) (body:=qzbf l) (fun k=>(hk:k < l.length)→Sz 20 l[k].Floor∧Sz 20 l[k].Cap) (by omega) (fun k hk=>by
   simp only [qzbf,qzdt]
   rw [it_d (by omega),at_e (n:=k) rfl (List.getElem?_eq_getElem hk)]
   simp only [bd_s]
   rw [qz3 (by omega)]
   have hPk:((hk:k < l.length)→Sz 20 l[k].Floor∧Sz 20 l[k].Cap)↔(Sz 20 l[k].Floor∧Sz 20 l[k].Cap):=⟨fun h=>h hk,fun h _=>h⟩
   rw [hPk]
   generalize l[k]=s
   have key:(bif (!(bif decide ((s.Floor.Num.length:Int)≤20) then decide ((s.Floor.Den.length:Int)≤20) else false)) then true else (!(bif decide ((s.Cap.Num.length:Int)≤20) then decide ((s.Cap.Den.length:Int)≤20) else false)))=false↔Sz 20 s.Floor∧Sz 20 s.Cap:=by
    unfold Sz
    by_cases c1:s.Floor.Num.length≤20
    ·by_cases c2:s.Floor.Den.length≤20
     ·by_cases c3:s.Cap.Num.length≤20
      ·by_cases c4:s.Cap.Den.length≤20
       ·rw [decide_eq_true (by omega),decide_eq_true (by omega),decide_eq_true (by omega),decide_eq_true (by omega)]; simp [c1,c2,c3,c4]
       ·rw [decide_eq_false (by omega:¬ (s.Cap.Den.length:Int)≤20)]; simp [c4]
      ·rw [decide_eq_false (by omega:¬ (s.Cap.Num.length:Int)≤20)]; simp [c3]
     ·rw [decide_eq_false (by omega:¬ (s.Floor.Den.length:Int)≤20)]; simp [c2]
    ·rw [decide_eq_false (by omega:¬ (s.Floor.Num.length:Int)≤20)]; simp [c1]
   exact ⟨fun h=>it_f (key.2 h),fun h=>it_t (by rw [← Bool.not_eq_false,key]; exact h)⟩) (by show ite' _ _ _=_; exact it_n (by omega))
  rw [e]
  refine ⟨b,by cases b<;>rfl,hb.trans ⟨fun h'=>⟨by omega,fun s hs=>?_⟩,fun h' k hk hk2=>h'.2 _ (List.getElem_mem hk)⟩⟩
  obtain ⟨k,hk,rfl⟩:=List.mem_iff_getElem.1 hs
  exact h' k hk hk
theorem qzya (l:List qzb) (a:qza):∃ b:Bool,qzcf l a=some b∧(b=true↔l.length≤10∧Few 20 l∧Sz 20 a):=by
 unfold qzcf
 obtain ⟨b,e,hb⟩:=wzdz l
 rw [e]
 refine ⟨_,rfl,?_⟩
 unfold Sz
 cases b
 ·simp only [cond_false]
  exact ⟨fun h=>Bool.noConfusion h,fun h=>hb.2 ⟨h.1,h.2.1⟩⟩
 ·obtain ⟨h1,h2⟩:=hb.1 rfl
  by_cases c1:a.Num.length≤20
  ·by_cases c2:a.Den.length≤20
   ·rw [decide_eq_true (by omega:(a.Num.length:Int)≤20),decide_eq_true (by omega:(a.Den.length:Int)≤20)]
    exact ⟨fun _=>⟨h1,h2,c1,c2⟩,fun _=>rfl⟩
   ·rw [decide_eq_false (by omega:¬ (a.Den.length:Int)≤20)]
    simp [c2]
  ·rw [decide_eq_false (by omega:¬ (a.Num.length:Int)≤20)]
   simp [c1]
theorem qz7k {n:Nat} {l:List qzb} {a:qza} (hf:Few n l) (ha:Sz n a) (n1:1≤n) (hn:n≤1000) (h:chk2 l a=0):(∀ p,p∈(dv l (rq a)).Parts→Sz 300000 p)∧Sz 300000 (dv l (rq a)).Rest:=by
 obtain ⟨hg,hv,hp⟩:=qzgd.1 h
 have hg8:=hg.n8
 have hs:=hg.sg hf
 obtain ⟨c1,c2⟩:=qzql hs (by omega) n1 (by omega)
 obtain ⟨d1,d2⟩:=qzq5 hs (by omega) n1 (by omega)
 show (∀ p,p∈(dvP (l.map shq) (rq a)).map rof→Sz 300000 p)∧Sz 300000 (rof (dvR (l.map shq) (rq a)))
 unfold dvP dvR
 by_cases h1:rq a < flo (l.map shq)
 ·have h0:rq (rof (flo (l.map shq)))≠0:=by rw [qzs]; exact qzvd hp h1
  obtain ⟨e1,e2⟩:=qzet ha d2 h0 n1 (by omega) (by omega) (by omega)
  rw [qzs] at e2
  rw [if_pos h1,if_pos h1]
  refine ⟨fun p hp=>?_,Sz.zero _⟩
  rw [List.map_map,List.map_map] at hp
  obtain ⟨s,hs',rfl⟩:=List.mem_map.1 hp
  have:=(qzi5 (hf s hs').1 e2 n1 (by omega) (by omega) (by omega)).2
  rw [qzs] at this
  exact this.mono (by omega)
 ·rw [if_neg h1,if_neg h1]
  by_cases h2:cap (l.map shq) < rq a
  ·rw [if_pos h2,if_pos h2,qzs7 hg]
   refine ⟨fun p hp=>?_,?_⟩
   ·obtain ⟨s,hs',rfl⟩:=List.mem_map.1 hp
    exact (hf s hs').2.mono (by omega)
   ·have:=(qzg8 ha c2 n1 (by omega) (by omega) (by omega)).2
    rw [qzs] at this
    exact this.mono (by omega)
  ·obtain ⟨g1,g2,g3⟩:=qzfy hf ha n1 hn hg h2
   rw [if_neg h2,if_neg h2]
   refine ⟨fun p hp=>?_,Sz.zero _⟩
   rw [← qzwa] at hp
   have:=qz04 hs g3 n1 (by omega) (by omega) (by omega) p (by rw [qzs]; exact hp)
   exact this.mono (by omega)
end Go.Am

set_option linter.unusedVariables false
set_option linter.unusedSimpArgs false
namespace Go.Am
noncomputable def dvG (L:List Shr) (f:Rat) (s:Shr):Rat:=if f < flo L then s.fl*(f / flo L) else if cap L < f then s.cp else part (lev L f) s
theorem wzd9 (L:List Shr) (f:Rat):dvP L f=L.map (dvG L f):=by
 unfold dvP dvG
 by_cases h1:f < flo L
 ·simp only [h1,if_true]
 ·by_cases h2:cap L < f
  ·simp only [h1,h2,if_true,if_false]
  ·simp only [h1,h2,if_false]
end Go.Am

set_option linter.unusedVariables false
set_option linter.unusedSimpArgs false
namespace Go.Am
theorem wz0t {L L':List Shr} (h:∀ x,tot x L'=tot x L) (f:Rat):yzo L' f=yzo L f:=by
 funext x
 unfold yzo
 simp only [h]
theorem wz07 {L L':List Shr} (h:∀ x,tot x L'=tot x L) (f:Rat):lev L' f=lev L f:=by
 unfold lev
 rw [wz0t h f]
theorem wz06 {L L':List Shr} (h0:flo L'=flo L) (h1:cap L'=cap L) (h:∀ x,tot x L'=tot x L) (f:Rat) (s:Shr):dvG L' f s=dvG L f s:=by
 unfold dvG
 rw [h0,h1,wz07 h]
theorem wz01 {L L':List Shr} (h0:flo L'=flo L) (h1:cap L'=cap L) (f:Rat):dvR L' f=dvR L f:=by
 unfold dvR
 rw [h0,h1]
theorem wz0n {g:Shr→Rat} (A B:List Shr):sQ ((B++A).map g)=sQ ((A++B).map g):=by
 rw [List.map_append,List.map_append,qzrc,qzrc,Rat.add_comm]
def scl (c:Rat) (s:Shr):Shr:=⟨s.w,s.fl*c,s.cp*c⟩
theorem wz0l {a b c:Rat} (hc:0 < c):a*c≤b*c↔a≤b:=⟨kz5 hc,fun h=>vz3 h (by grind)⟩
theorem wz1b {a b c:Rat} (hc:0 < c):minQ (a*c) (b*c)=minQ a b*c:=by
 unfold minQ
 by_cases h:a≤b
 ·rw [if_pos h,if_pos ((wz0l hc).2 h)]
 ·rw [if_neg h,if_neg (fun h'=>h ((wz0l hc).1 h'))]
theorem wz08 {a b c:Rat} (hc:0 < c):maxQ (a*c) (b*c)=maxQ a b*c:=by
 unfold maxQ
 by_cases h:b≤a
 ·rw [if_pos h,if_pos ((wz0l hc).2 h)]
 ·rw [if_neg h,if_neg (fun h'=>h ((wz0l hc).1 h'))]
theorem wz0q {c:Rat} (hc:0 < c) (x:Rat) (s:Shr):part (x*c) (scl c s)=part x s*c:=by
 unfold part scl
 rw [show x*c*(s.w:Rat)=x*(s.w:Rat)*c by grind,wz08 hc,wz1b hc]
theorem wz0o {g h:Shr→Rat} {c:Rat} {k:Shr→Shr} (hg:∀ s,h (k s)=g s*c) (L:List Shr):sQ ((L.map k).map h)=sQ (L.map g)*c:=by
 rw [List.map_map,← qz2h]
 exact congrArg sQ (List.map_congr_left fun s _=>hg s)
theorem wz0z {c:Rat} (hc:0 < c) (x:Rat) (L:List Shr):tot (x*c) (L.map (scl c))=tot x L*c:=wz0o (fun s=>wz0q hc x s) L
theorem wz0w {c:Rat} (L:List Shr):flo (L.map (scl c))=flo L*c:=wz0o (fun _=>rfl) L
theorem wz0u {c:Rat} (L:List Shr):cap (L.map (scl c))=cap L*c:=wz0o (fun _=>rfl) L
theorem wz05 {c:Rat} (hc:0 < c) {L:List Shr} {f x:Rat} (h:yzo L f x):yzo (L.map (scl c)) (f*c) (x*c):=by
 obtain ⟨h0,h1,h2⟩:=h
 have hc0:c≠0:=by grind
 refine ⟨by have:=vz3 h0 (show 0≤c by grind); grind,by rw [wz0z hc]; exact vz3 h1 (by grind),fun y hy hf=>?_⟩
 have e:y / c*c=y:=qza8 hc0
 rw [← e,wz0z hc] at hf
 rw [← e]
 refine vz3 (h2 _ ?_ (kz5 hc hf)) (by grind)
 exact kz5 hc (by rw [e]; grind)
theorem wz0j {a b c:Rat} (hc:0 < c):a*c < b*c↔a < b:=⟨fun h=>by
 have:=(wz0l (a:=b) (b:=a) hc).2
 grind,fun h=>qzm0 h hc⟩
theorem wz1d {c:Rat} (hc:0 < c) {L:List Shr} {f:Rat} (hlev:¬ cap L < f→yzo L f (lev L f)) (s:Shr):dvG (L.map (scl c)) (f*c) (scl c s)=dvG L f s*c:=by
 unfold dvG
 rw [wz0w,wz0u]
 by_cases h1:f < flo L
 ·rw [if_pos h1,if_pos ((wz0j hc).2 h1)]
  show s.fl*c*(f*c / (flo L*c))=_
  have e:f*c / (flo L*c)=f / flo L:=by
   by_cases h0:flo L=0
   ·rw [h0,Rat.zero_mul,Rat.div_def,Rat.div_def,Rat.inv_zero,Rat.mul_zero,Rat.mul_zero]
   ·have hx:flo L*c≠0:=fun e=>by
     rcases Rat.mul_eq_zero.1 e with h | h
     ·exact h0 h
     ·grind
    have e1:f*c / (flo L*c)*(flo L*c)=f*c:=qza8 hx
    have e2:f / flo L*flo L=f:=qza8 h0
    have e3:f / flo L*(flo L*c)=f*c:=by rw [← Rat.mul_assoc,e2]
    have e4:(f*c / (flo L*c) - f / flo L)*(flo L*c)=0:=by grind
    rcases Rat.mul_eq_zero.1 e4 with h | h
    ·grind
    ·exact absurd h hx
  rw [e]; grind
 ·rw [if_neg h1,if_neg (fun h=>h1 ((wz0j hc).1 h))]
  by_cases h2:cap L < f
  ·rw [if_pos h2,if_pos ((wz0j hc).2 h2)]; rfl
  ·rw [if_neg h2,if_neg (fun h=>h2 ((wz0j hc).1 h)),wzfd (wz05 hc (hlev h2)),wz0q hc]
theorem wz1e {c:Rat} (hc:0 < c) {L:List Shr} {f:Rat}:dvR (L.map (scl c)) (f*c)=dvR L f*c:=by
 unfold dvR
 rw [wz0w,wz0u]
 by_cases h1:f < flo L
 ·rw [if_pos h1,if_pos ((wz0j hc).2 h1),Rat.zero_mul]
 ·rw [if_neg h1,if_neg (fun h=>h1 ((wz0j hc).1 h))]
  by_cases h2:cap L < f
  ·rw [if_pos h2,if_pos ((wz0j hc).2 h2)]; grind
  ·rw [if_neg h2,if_neg (fun h=>h2 ((wz0j hc).1 h)),Rat.zero_mul]
def hvy (c:Int) (s:Shr):Shr:=⟨s.w*c,s.fl,s.cp⟩
theorem wz0r {c:Int} (hc:0 < c) (x:Rat) (s:Shr):part (x / (c:Rat)) (hvy c s)=part x s:=by
 have hc0:(c:Rat)≠0:=fun e=>by have:=Rat.intCast_eq_zero_iff.1 e; omega
 unfold part hvy
 rw [show x / (c:Rat)*((s.w*c:Int):Rat)=x*(s.w:Rat) by
  have e:x / (c:Rat)*(c:Rat)=x:=qza8 hc0
  rw [Rat.intCast_mul]
  calc x / (c:Rat)*((s.w:Rat)*(c:Rat))=x / (c:Rat)*(c:Rat)*(s.w:Rat):=by grind
   _=_:=by rw [e]]
theorem wz0y {c:Int} (hc:0 < c) (x:Rat) (L:List Shr):tot (x / (c:Rat)) (L.map (hvy c))=tot x L:=by
 unfold tot
 rw [List.map_map]
 exact congrArg sQ (List.map_congr_left fun s _=>wz0r hc x s)
theorem wz0x {c:Int} (L:List Shr):flo (L.map (hvy c))=flo L:=by unfold flo; rw [List.map_map]; rfl
theorem wz0v {c:Int} (L:List Shr):cap (L.map (hvy c))=cap L:=by unfold cap; rw [List.map_map]; rfl
theorem wz04 {c:Int} (hc:0 < c) {L:List Shr} {f x:Rat} (h:yzo L f x):yzo (L.map (hvy c)) f (x / (c:Rat)):=by
 obtain ⟨h0,h1,h2⟩:=h
 have hp:(0:Rat) < (c:Rat):=Rat.intCast_pos.2 hc
 have hc0:(c:Rat)≠0:=by grind
 have e:x / (c:Rat)*(c:Rat)=x:=qza8 hc0
 refine ⟨kz5 hp (by rw [e]; grind),by rw [wz0y hc]; exact h1,fun y hy hf=>?_⟩
 have e2:y*(c:Rat) / (c:Rat)=y:=by
  have e3:y*(c:Rat) / (c:Rat)*(c:Rat)=y*(c:Rat):=qza8 hc0
  have:=kz5 hp (show y*(c:Rat) / (c:Rat)*(c:Rat)≤y*(c:Rat) by rw [e3]; exact Rat.le_refl)
  have:=kz5 hp (show y*(c:Rat)≤y*(c:Rat) / (c:Rat)*(c:Rat) by rw [e3]; exact Rat.le_refl)
  grind
 rw [← e2,wz0y hc] at hf
 have:=h2 _ (by have:=vz3 hy (show (0:Rat)≤c by grind); grind) hf
 exact kz5 hp (by rw [e]; exact this)
theorem wz1g {c:Int} (hc:0 < c) {L:List Shr} {f:Rat} (hlev:¬ cap L < f→yzo L f (lev L f)) (s:Shr):dvG (L.map (hvy c)) f (hvy c s)=dvG L f s:=by
 unfold dvG
 rw [wz0x,wz0v]
 by_cases h1:f < flo L
 ·rw [if_pos h1,if_pos h1]; rfl
 ·rw [if_neg h1,if_neg h1]
  by_cases h2:cap L < f
  ·rw [if_pos h2,if_pos h2]; rfl
  ·rw [if_neg h2,if_neg h2,wzfd (wz04 hc (hlev h2)),wz0r hc]
theorem wz1h {c:Int} {L:List Shr} {f:Rat}:dvR (L.map (hvy c)) f=dvR L f:=by
 unfold dvR
 rw [wz0x,wz0v]
end Go.Am

set_option linter.unusedVariables false
set_option linter.unusedSimpArgs false
namespace Go.Am
noncomputable def mrS (c:Int) (s:qzb):qzb:=⟨s.State,s.Weight,rof (rq s.Floor*(c:Rat)),rof (rq s.Cap*(c:Rat))⟩
def hvS (c:Int) (s:qzb):qzb:=⟨s.State,s.Weight*c,s.Floor,s.Cap⟩
theorem wz0s (c:Int) (l:List qzb):(l.map (mrS c)).map shq=(l.map shq).map (scl (c:Rat)):=by
 rw [List.map_map,List.map_map]
 exact List.map_congr_left fun s _=>by
  show (⟨_,rq (rof _),rq (rof _)⟩:Shr)=_
  rw [qzs,qzs]; rfl
theorem wz1k (c:Int) (l:List qzb):(l.map (hvS c)).map shq=(l.map shq).map (hvy c):=by
 rw [List.map_map,List.map_map]; rfl
theorem wz0p {α:Type} {l:List α} {k:Nat} (hk:k≤l.length):sub l (k:Int) (l.length:Int)=l.drop k:=by
 unfold sub
 rw [Int.toNat_natCast,List.take_of_length_le (by rw [List.length_drop]; omega)]
theorem wz1j {c:Int} (hc:1≤c) {l:List qzb} (h:Good l):Good (l.map (mrS c)):=by
 have hp:(0:Rat)≤(c:Rat):=by have:=Rat.intCast_pos.2 (show 0 < c by omega); grind
 refine ⟨by rw [List.length_map]; exact h.n1,by rw [List.length_map]; exact h.n8,fun t ht=>?_,by rw [List.map_map]; exact h.nd⟩
 obtain ⟨s,hs,rfl⟩:=List.mem_map.1 ht
 obtain ⟨g1,g2,g3,g4,g5,g6⟩:=h.ok s hs
 refine ⟨g1,qz07 _,?_,qz07 _,?_,?_⟩
 ·show 0≤rq (rof _); rw [qzs]; have:=vz3 g3 hp; grind
 ·show 0≤rq (rof _); rw [qzs]; have:=vz3 g5 hp; grind
 ·show rq (rof _)≤rq (rof _); rw [qzs,qzs]; exact vz3 g6 hp
theorem wz1f {c:Int} (hc:1≤c) {l:List qzb} (h:Good l) (hw:∀ s,s∈l→s.Weight*c≤1000000):Good (l.map (hvS c)):=by
 refine ⟨by rw [List.length_map]; exact h.n1,by rw [List.length_map]; exact h.n8,fun t ht=>?_,by rw [List.map_map]; exact h.nd⟩
 obtain ⟨s,hs,rfl⟩:=List.mem_map.1 ht
 obtain ⟨⟨g1,g1',g1'',_⟩,g2⟩:=h.ok s hs
 refine ⟨⟨g1,g1',?_,hw s hs⟩,g2⟩
 show 1≤s.Weight*c
 have:=Int.mul_le_mul g1'' hc (by omega) (by omega)
 omega
theorem wz03 {A B:List qzb} (h:Good (A++B)):Good (B++A):=by
 have e:(B++A).length=(A++B).length:=by simp [Nat.add_comm]
 refine ⟨by rw [e]; exact h.n1,by rw [e]; exact h.n8,fun s hs=>h.ok s ?_,?_⟩
 ·rw [List.mem_append] at hs ⊢; exact hs.symm
 ·have:=h.nd
  rw [List.map_append] at this ⊢
  exact List.perm_append_comm.nodup_iff.1 this
theorem wz1a {n:Nat} {A B:List qzb} (h:Few n (A++B)):Few n (B++A):=fun s hs=>h s (by rw [List.mem_append] at hs ⊢; exact hs.symm)
theorem wz1m {c:Int} (hc:1≤c) (hc2:c≤1000) {l:List qzb} (h:Few 20 l):Few 29 (l.map (mrS c)):=fun t ht=>by
 obtain ⟨s,hs,rfl⟩:=List.mem_map.1 ht
 obtain ⟨h1,h2⟩:=h s hs
 have i2:=(qzrp (n:=c) (by omega) (by omega)).2
 have a1:=(qzi5 h1 i2 (by omega) (by omega) (by omega) (by omega)).2
 have a2:=(qzi5 h2 i2 (by omega) (by omega) (by omega) (by omega)).2
 rw [qzs] at a1 a2
 exact ⟨a1,a2⟩
theorem wz1l {n:Nat} {c:Int} {l:List qzb} (h:Few n l):Few n (l.map (hvS c)):=fun t ht=>by
 obtain ⟨s,hs,rfl⟩:=List.mem_map.1 ht
 exact h s hs
theorem wz09 {l:List qzb} {q:kzi} {c:Int} (hq:1+q.e0.tmod 1000=c) (hc:1≤c) (hc2:c≤1000) (hs:SGs 20 l) (hl:l.length≤10) :
  lp (wz0h l q) (true,0,[],[])=some (l.all (fun s=>decide (s.Weight*c≤1000000)),l.map (hvS c),l.map (mrS c)):=by
 obtain ⟨o,e,ho⟩:=vzf (s:=((true,0,[],[]):Bool×Int×List qzb×List qzb)) (body:=wz0h l q)
  (fun s=>∃ k:Nat,s=((l.take k).all (fun s=>decide (s.Weight*c≤1000000)),(k:Int),(l.take k).map (hvS c),(l.take k).map (mrS c))∧k≤l.length) (fun s=>l.length - s.2.1.toNat)
  (fun o=>o=(l.all (fun s=>decide (s.Weight*c≤1000000)),l.map (hvS c),l.map (mrS c))) (by
  rintro s ⟨k,rfl,hk⟩
  simp only [wz0h]
  rw [hq]
  by_cases h0:k < l.length
  ·left
   have hx:l[k]?=some l[k]:=List.getElem?_eq_getElem h0
   obtain ⟨g1,g2,g3,g4⟩:=hs _ (List.getElem_mem h0)
   have hm1:l[k].Weight*c≤1000000*1000:=Int.mul_le_mul g4 hc2 (by omega) (by omega)
   have hm0:0≤l[k].Weight*c:=Int.mul_nonneg (by omega) (by omega)
   obtain ⟨i1,i2⟩:=qzrp (n:=c) (by omega) (by omega)
   have a1:=(qzi5 g1 i2 (by omega) (by omega) (by omega) (by omega)).1
   have a2:=(qzi5 g2 i2 (by omega) (by omega) (by omega) (by omega)).1
   rw [qzs] at a1 a2
   have hb:inB .i64 (l[k].Weight*c)=true:=by simp [inB]; omega
   have htl:(l.take k).length≤10:=by rw [List.length_take]; omega
   rw [it_d (by omega),at_e (n:=k) rfl hx]
   simp only [bd_s]
   rw [ck_t (by rw [hb,Bool.or_true]),ck_t hb,ck_d (by rw [List.length_append,List.length_map]; simp only [List.length_cons,List.length_nil]; omega),i1]
   simp only [bd_s]
   rw [a1]
   simp only [bd_s]
   rw [a2]
   simp only [bd_s]
   rw [ck_d (by rw [List.length_append,List.length_map]; simp only [List.length_cons,List.length_nil]; omega),qz3 (by omega)]
   refine ⟨_,rfl,⟨k+1,?_,h0⟩,by dsimp only; omega⟩
   rw [qzha hx,qzha hx]
   have e1:(l.take (k+1)).all (fun s=>decide (s.Weight*c≤1000000))=(bif (l.take k).all (fun s=>decide (s.Weight*c≤1000000)) then decide (l[k].Weight*c≤1000000) else false):=by
    rw [List.take_add_one,hx,List.all_append]
    cases (l.take k).all (fun s=>decide (s.Weight*c≤1000000))<;>simp
   rw [e1]
   rfl
  ·right
   rw [it_n (by omega)]
   exact ⟨_,rfl,by rw [List.take_of_length_le (by omega)]⟩) ⟨0,rfl,by omega⟩ (by dsimp only; omega)
 rw [e,ho]
theorem wz1i (A B:List qzb) (f:Rat):(dv (B++A) f).Parts=(dv (A++B) f).Parts.drop A.length++(dv (A++B) f).Parts.take A.length∧(dv (B++A) f).Rest=(dv (A++B) f).Rest:=by
 have h0:flo ((B++A).map shq)=flo ((A++B).map shq):=by unfold flo; rw [List.map_append (f:=shq),List.map_append (f:=shq)]; exact wz0n _ _
 have h1:cap ((B++A).map shq)=cap ((A++B).map shq):=by unfold cap; rw [List.map_append (f:=shq),List.map_append (f:=shq)]; exact wz0n _ _
 have h2:∀ x,tot x ((B++A).map shq)=tot x ((A++B).map shq):=fun x=>by unfold tot; rw [List.map_append (f:=shq),List.map_append (f:=shq)]; exact wz0n _ _
 refine ⟨?_,by show rof _=rof _; rw [wz01 h0 h1]⟩
 show (dvP _ f).map rof=((dvP _ f).map rof).drop _++((dvP _ f).map rof).take _
 rw [wzd9,wzd9,funext (wz06 h0 h1 h2 f)]
 rw [List.map_append,List.map_append,List.map_append,List.map_append,List.map_append,List.map_append]
 rw [List.drop_left' (by simp),List.take_left' (by simp)]
theorem wz02 {l:List qzb} {f:Rat} {k:Nat} (hk:k < (l.map shq).length) (h:k < (dv l f).Parts.length):(dv l f).Parts[k]=rof (dvG (l.map shq) f (l.map shq)[k]):=by
 have:(dv l f).Parts[k]?=some (rof (dvG (l.map shq) f (l.map shq)[k])):=by
  show ((dvP (l.map shq) f).map rof)[k]?=_
  rw [wzd9,List.getElem?_map,List.getElem?_map,List.getElem?_eq_getElem hk]; rfl
 rw [List.getElem?_eq_getElem h] at this
 exact Option.some.inj this
theorem wz1o {c:Int} (hc:1≤c) {l:List qzb} {f:Rat} (hlev:¬ cap (l.map shq) < f→yzo (l.map shq) f (lev (l.map shq) f)):dv (l.map (hvS c)) f=dv l f:=by
 unfold dv
 rw [wz1k,wzd9,wzd9,wz1h,List.map_map (g:=dvG _ f)]
 congr 2
 exact List.map_congr_left fun s _=>wz1g (by omega) hlev s
theorem wz00 (z:qza):((z.Neg==z.Neg)&&(decide (z.Num=z.Num)&&(decide (z.Den=z.Den)&&true)))=true:=by rw [eqR]; exact decide_eq_true rfl
theorem wz1c (hsan:yzu=some true) (l:List qzb) (a:qza) (q:kzi) (q0:0≤q.e0∧q.e0≤65535) (q1:0≤q.e1∧q.e1≤65535):wz0i l a q=some true:=by
 unfold wz0i
 obtain ⟨x,e,hx⟩:=qzya l a
 rw [e,hsan]
 simp only [bd_s]
 cases x
 ·rfl
 obtain ⟨hl,hf,ha⟩:=hx.1 rfl
 simp only [Bool.not_true,Bool.not_false,qzbx,bd_s,cond_false]
 rw [qzuh hf (by omega) (by omega)]
 simp only [bd_s]
 by_cases hc:chkS l=0
 ·rw [hc]
  have e0:(!decide ((0:Int)=0))=false:=rfl
  simp only [e0,Bool.not_false,qzbx,bd_s,cond_false]
  rw [qzga (ha.mono (by omega))]
  simp only [decide_true,Bool.not_true,Bool.not_false,qzbx,bd_s,cond_false]
  by_cases va:Vd a
  ·rw [decide_eq_true va]
   simp only [Bool.not_true,Bool.not_false,qzbx,bd_s,cond_false]
   by_cases na:a.Neg=true
   ·rw [na,it_t (by rfl)]
   have na':a.Neg=false:=by simpa using na
   rw [na',it_f (by rfl)]
   have pa:0≤rq a:=(qzc5.1 (by unfold posB; simp [va,na'])).2
   have hg:=qzo6.1 hc
   have hg8:=hg.n8
   have hg1:=hg.n1
   obtain ⟨c,hcq,c1,c2⟩:∃ c:Int,1+q.e0.tmod 1000=c∧1≤c∧c≤1000:=⟨_,rfl,by have:=Int.tmod_nonneg 1000 q0.1; omega,by have:=Int.tmod_lt_of_pos q.e0 (show (0:Int) < 1000 by omega); omega⟩
   obtain ⟨k,hkq,k1⟩:∃ k:Nat,q.e1.tmod (l.length:Int)=(k:Int)∧k < l.length:=by
    have h1:=Int.tmod_nonneg (l.length:Int) q1.1
    have h2:=Int.tmod_lt_of_pos q.e1 (show (0:Int) < (l.length:Int) by omega)
    exact ⟨(q.e1.tmod (l.length:Int)).toNat,by omega,by omega⟩
   have hcp:(0:Rat) < (c:Rat):=Rat.intCast_pos.2 (by omega)
   have hp2:chk2 l a=0:=qzgd.2 ⟨hg,va,pa⟩
   have fp:dvF l a=(dv l (rq a),0):=by unfold dvF; rw [if_pos hp2]
   have levp:=qzzc hf ha (by omega) (by omega) hg
   have zp:=qz7k hf ha (by omega) (by omega) hp2
   have lenp:(dv l (rq a)).Parts.length=l.length:=qzzf
   have hAB:l.take k++l.drop k=l:=List.take_append_drop k l
   have lenA:(l.take k).length=k:=by rw [List.length_take]; omega
   have ht:(([]:List qzb)++l.drop k)++l.take k=l.drop k++l.take k:=rfl
   have gt:Good (l.drop k++l.take k):=wz03 (by rw [hAB]; exact hg)
   have ft:Few 20 (l.drop k++l.take k):=wz1a (by rw [hAB]; exact hf)
   have tp2:chk2 (l.drop k++l.take k) a=0:=qzgd.2 ⟨gt,va,pa⟩
   have tp:dvF (l.drop k++l.take k) a=(dv (l.drop k++l.take k) (rq a),0):=by unfold dvF; rw [if_pos tp2]
   obtain ⟨sw1,sw2⟩:=wz1i (l.take k) (l.drop k) (rq a)
   rw [hAB] at sw1 sw2
   rw [lenA] at sw1
   obtain ⟨i1,i2⟩:=qzrp (n:=c) (by omega) (by omega)
   obtain ⟨m1,m2⟩:=qzi5 ha i2 (by omega) (by omega) (by omega) (by omega)
   rw [qzs] at m1 m2
   have gm:=wz1j c1 hg
   have fm:=wz1m c1 c2 hf
   have mp2:chk2 (l.map (mrS c)) (rof (rq a*(c:Rat)))=0:=qzgd.2 ⟨gm,qz07 _,by rw [qzs]; have:=vz3 pa (show (0:Rat)≤c by grind); grind⟩
   have mp:dvF (l.map (mrS c)) (rof (rq a*(c:Rat)))=(dv (l.map (mrS c)) (rq a*(c:Rat)),0):=by unfold dvF; rw [if_pos mp2,qzs]
   have lenm:(dv (l.map (mrS c)) (rq a*(c:Rat))).Parts.length=l.length:=by rw [qzzf,List.length_map]
   have restm:(dv (l.map (mrS c)) (rq a*(c:Rat))).Rest=rof (dvR (l.map shq) (rq a)*(c:Rat)):=by
    show rof (dvR ((l.map (mrS c)).map shq) _)=_
    rw [wz0s,wz1e hcp]
   obtain ⟨n1,n2⟩:=qzi5 zp.2 i2 (by omega) (by omega) (by omega) (by omega)
   rw [qzs,show rq (dv l (rq a)).Rest=dvR (l.map shq) (rq a) from qzs _] at n1
   rw [qzfu hf ha (by omega) (by omega),fp]
   simp only [bd_s,hcq,hkq]
   rw [qz3 (by omega),qz3 (by omega),qz3 (by omega),qzwv (by omega),qzhn (by omega)]
   rw [wz0p (by omega),qz3n]
   rw [ck_d (by simp only [List.nil_append,List.length_drop]; omega),qzhn (by omega),ck_d (by simp only [List.nil_append,List.length_append,List.length_drop,List.length_take]; omega)]
   rw [wz09 hcq c1 c2 (wz1n hf hg) hl,ht]
   simp only [bd_s]
   rw [qzfu ft ha (by omega) (by omega),tp]
   simp only [bd_s]
   rw [i1]
   simp only [bd_s]
   rw [m1]
   simp only [bd_s]
   rw [qzfu (n:=29) fm (m2.mono (by omega)) (by omega) (by omega),mp]
   simp only [bd_s]
   have lt1:(!decide (((dv l (rq a)).Parts.length:Int)=(l.length:Int)))=false:=by rw [lenp]; simp
   have lt2:(!decide (((dv (l.map (mrS c)) (rq a*(c:Rat))).Parts.length:Int)=(l.length:Int)))=false:=by rw [lenm]; simp
   rw [sw2,wz00,lt1,lt2]
   simp only [decide_true,Bool.not_true,Bool.not_false,qzbx,bd_s,cond_false]
   rw [n1]
   simp only [qzbx,bd_s]
   rw [restm,wz00,it_f (by rfl)]
   rw [qzhn (by omega),qzhn (by omega)]
   rw [show ((dv l (rq a)).Parts.length:Int)=((dv l (rq a)).Parts.length:Nat) from rfl,wz0p (by omega),qz3n]
   rw [ck_d (by simp only [List.nil_append,List.length_drop]; omega),ck_d (by simp only [List.nil_append,List.length_append,List.length_drop,List.length_take]; omega)]
   rw [wzvw (by rw [sw1]; simp only [List.length_append,List.length_drop,List.length_take]; omega),decide_eq_true (by rw [sw1]; rfl)]
   simp only [bd_s,Bool.not_true,qzil]
   obtain ⟨w,hw,ew⟩:=qzul (N:=l.length) (body:=wz0k l q (dv (l.map (mrS c)) (rq a*(c:Rat)),0) (dv l (rq a),0)) (fun _=>True) (by omega) (fun j hj=>by
    simp only [wz0k]
    have h1:j < (dv l (rq a)).Parts.length:=by omega
    have h2:j < (dv (l.map (mrS c)) (rq a*(c:Rat))).Parts.length:=by omega
    have hjL:j < (l.map shq).length:=by rw [List.length_map]; exact hj
    have hjM:j < ((l.map (mrS c)).map shq).length:=by rw [List.length_map,List.length_map]; exact hj
    rw [it_d (by omega),at_e (n:=j) rfl (List.getElem?_eq_getElem h2),at_e (n:=j) rfl (List.getElem?_eq_getElem h1),hcq,i1]
    simp only [bd_s]
    have u:=(qzi5 (zp.1 _ (List.getElem_mem h1)) i2 (by omega) (by omega) (by omega) (by omega)).1
    have g1:=wz02 hjL h1
    have g2:=wz02 hjM h2
    rw [qzs] at u
    rw [u]
    simp only [bd_s]
    have e3:(dv (l.map (mrS c)) (rq a*(c:Rat))).Parts[j]=rof (rq (dv l (rq a)).Parts[j]*(c:Rat)):=by
     rw [g2,g1,qzs]
     have e4:((l.map (mrS c)).map shq)[j]=scl (c:Rat) (l.map shq)[j]:=by
      have:((l.map (mrS c)).map shq)[j]?=some (scl (c:Rat) (l.map shq)[j]):=by rw [wz0s,List.getElem?_map,List.getElem?_eq_getElem hjL]; rfl
      rw [List.getElem?_eq_getElem hjM] at this
      exact Option.some.inj this
     rw [e4,wz0s,wz1d hcp levp]
    rw [e3,wz00,it_f (by rfl),qz3 (by omega)]
    exact ⟨fun _=>rfl,fun h=>absurd trivial h⟩) (by show ite' _ _ _=_; exact it_n (by omega))
   have hwt:w=true:=hw.2 fun _ _=>trivial
   rw [ew,hwt]
   simp only [bd_s,cond_true]
   by_cases hw:l.all (fun s=>decide (s.Weight*c≤1000000))=true
   ·rw [hw,it_f (by rfl)]
    have gh:=wz1f c1 hg (fun s hs=>by have:=List.all_eq_true.1 hw s hs; simpa using this)
    have hp2':chk2 (l.map (hvS c)) a=0:=qzgd.2 ⟨gh,va,pa⟩
    have hpF:dvF (l.map (hvS c)) a=(dv l (rq a),0):=by unfold dvF; rw [if_pos hp2',wz1o c1 levp]
    rw [qzfu (wz1l hf) ha (by omega) (by omega),hpF]
    simp only [bd_s,decide_true,cond_true,qzbx]
    rw [wzvw (by omega),decide_eq_true rfl]
    simp only [bd_s,cond_true]
    rw [beq_self_eq_true]; rfl
   ·rw [it_t (by rw [Bool.not_eq_true] at hw; rw [hw]; rfl)]
  ·rw [decide_eq_false va]; simp [gd,bd,ite']
 ·simp [hc,gd,bd,ite']
end Go.Am

set_option linter.unusedVariables false
set_option linter.unusedSimpArgs false
namespace Go.Am
end Go.Am

set_option linter.unusedVariables false
set_option linter.unusedSimpArgs false
namespace Go.Am
end Go.Am

