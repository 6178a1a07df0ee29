/- Part S1 of the proof that the last part closes: the mathematics of shares. No condition. -/
import Derived.Test.YtpflinpbkifmhaaGreatDoorR2
set_option linter.unusedVariables false
set_option linter.unusedSimpArgs false
namespace Go.Am
theorem yzj (a b:Rat):a < b∨b≤a:=by grind
structure Shr where
 w:Int
 fl:Rat
 cp:Rat
def Shr.Ok (s:Shr):Prop:=1≤s.w∧0≤s.fl∧s.fl≤s.cp
theorem Shr.Ok.w0 {s:Shr} (h:s.Ok):(0:Rat) < (s.w:Rat):=by
 have:(0:Int) < s.w:=by have:=h.1; omega
 exact Rat.intCast_pos.2 this
def part (x:Rat) (s:Shr):Rat:=minQ (maxQ (x*(s.w:Rat)) s.fl) s.cp
def tot (x:Rat) (l:List Shr):Rat:=sQ (l.map (part x))
def flo (l:List Shr):Rat:=sQ (l.map Shr.fl)
def cap (l:List Shr):Rat:=sQ (l.map Shr.cp)
theorem vz3 {a b c:Rat} (h:a≤b) (hc:0≤c):a*c≤b*c:=Rat.mul_le_mul_of_nonneg_right h hc
theorem qzm0 {a b c:Rat} (h:a < b) (hc:0 < c):a*c < b*c:=Rat.mul_lt_mul_of_pos_right h hc
theorem qzmo {s:Shr} (h:s.Ok) {x y:Rat} (hxy:x≤y):part x s≤part y s:=by
 have h1:=vz3 hxy (Rat.le_of_lt h.w0)
 unfold part minQ maxQ
 generalize x*(s.w:Rat)=a at *
 generalize y*(s.w:Rat)=b at *
 (repeat' split)<;>grind
theorem qznt {s:Shr} (h:s.Ok) (x:Rat):s.fl≤part x s:=by
 have:=h.2.2
 unfold part minQ maxQ
 (repeat' split)<;>grind
theorem qzq0 {s:Shr} (h:s.Ok) (x:Rat):part x s≤s.cp:=by
 unfold part minQ maxQ
 (repeat' split)<;>grind
theorem wzd3 {s:Shr} (h:s.Ok) (x:Rat):0≤part x s:=Rat.le_trans h.2.1 (qznt h x)
theorem qzn2 {s:Shr} (h:s.Ok) {x:Rat} (hx:x*(s.w:Rat)≤s.fl):part x s=s.fl:=by
 have:=h.2.2
 unfold part minQ maxQ
 generalize x*(s.w:Rat)=a at *
 (repeat' split)<;>grind
theorem qznl {s:Shr} (h:s.Ok) {x:Rat} (hx:s.cp≤x*(s.w:Rat)):part x s=s.cp:=by
 have:=h.2.2
 unfold part minQ maxQ
 generalize x*(s.w:Rat)=a at *
 (repeat' split)<;>grind
theorem qzoy {s:Shr} (h:s.Ok) {x:Rat} (h1:s.fl≤x*(s.w:Rat)) (h2:x*(s.w:Rat)≤s.cp):part x s=x*(s.w:Rat):=by
 unfold part minQ maxQ
 generalize x*(s.w:Rat)=a at *
 (repeat' split)<;>grind
theorem qz2p {s:Shr} (h:s.Ok):part 0 s=s.fl:=qzn2 h (by have:=h.2.1; grind)
def vzr (l:List Shr):Prop:=∀ s,s∈l→s.Ok
theorem vzr.tail {s:Shr} {l:List Shr} (h:vzr (s :: l)):vzr l:=fun t ht=>h t (List.mem_cons_of_mem _ ht)
theorem vzr.head {s:Shr} {l:List Shr} (h:vzr (s :: l)):s.Ok:=h s List.mem_cons_self
theorem qzr9 {f g:Shr→Rat}:∀ {l:List Shr},(∀ s,s∈l→f s≤g s)→sQ (l.map f)≤sQ (l.map g)
 | [],_=>Rat.le_refl
 | s :: l,h=>by
  have h1:=h s List.mem_cons_self
  have h2:=qzr9 (l:=l) fun t ht=>h t (List.mem_cons_of_mem _ ht)
  show f s+sQ (l.map f)≤g s+sQ (l.map g)
  grind
theorem qz8m {f g:Shr→Rat} {l:List Shr} (h:∀ s,s∈l→f s=g s):sQ (l.map f)=sQ (l.map g):=by
 rw [List.map_congr_left h]
theorem qzoc {f g:Shr→Rat}:∀ {l:List Shr},(∀ s,s∈l→f s≤g s)→sQ (l.map f)=sQ (l.map g)→∀ s,s∈l→f s=g s
 | [],_,_,s,hs=>by cases hs
 | t :: l,h,e,s,hs=>by
  have h1:=h t List.mem_cons_self
  have h2:=qzr9 (l:=l) fun t ht=>h t (List.mem_cons_of_mem _ ht)
  have e':f t+sQ (l.map f)=g t+sQ (l.map g):=e
  rcases List.mem_cons.1 hs with rfl | hs
  ·grind
  ·exact qzoc (l:=l) (fun t ht=>h t (List.mem_cons_of_mem _ ht)) (by grind) s hs
theorem qzs0 {l:List Shr} (h:vzr l) {x y:Rat} (hxy:x≤y):tot x l≤tot y l:=qzr9 fun s hs=>qzmo (h s hs) hxy
theorem qz3m {l:List Shr} (h:vzr l):tot 0 l=flo l:=qz8m fun s hs=>qz2p (h s hs)
def slI (a:Rat) (s:Shr):Int:=if s.fl≤a*(s.w:Rat)∧a*(s.w:Rat) < s.cp then s.w else 0
def sI:List Int→Int
 | []=>0
 | x :: l=>x+sI l
def slT (a:Rat) (l:List Shr):Int:=sI (l.map (slI a))
def e1 (s:Shr):Rat:=s.fl / (s.w:Rat)
def e2 (s:Shr):Rat:=s.cp / (s.w:Rat)
theorem qza8 {a b:Rat} (h:b≠0):a / b*b=a:=Rat.div_mul_cancel h
theorem qzp5 {s:Shr} (h:s.Ok):e1 s*(s.w:Rat)=s.fl:=qza8 (by have:=h.w0; grind)
theorem qzp4 {s:Shr} (h:s.Ok):e2 s*(s.w:Rat)=s.cp:=qza8 (by have:=h.w0; grind)
theorem kz5 {a b c:Rat} (hc:0 < c) (h:a*c≤b*c):a≤b:=by
 rcases yzj b a with h' | h'
 ·have:=qzm0 h' hc; grind
 ·exact h'
theorem wzcj {s:Shr} (h:s.Ok):0≤e1 s:=kz5 h.w0 (by rw [qzp5 h]; have:=h.2.1; grind)
theorem qz3t {s:Shr} (h:s.Ok):e1 s≤e2 s:=kz5 h.w0 (by rw [qzp5 h,qzp4 h]; exact h.2.2)
def NoE (a b:Rat) (s:Shr):Prop:=(e1 s≤a∨b≤e1 s)∧(e2 s≤a∨b≤e2 s)
theorem qz3k {s:Shr} (h:s.Ok) {a b t:Rat} (hn:NoE a b s) (hab:a < b) (h1:a≤t) (h2:t≤b):part t s=part a s+(t - a)*(slI a s:Rat):=by
 have hw:=h.w0
 have m1:=vz3 h1 (Rat.le_of_lt hw)
 have m2:=vz3 h2 (Rat.le_of_lt hw)
 have m3:=qzm0 hab hw
 unfold slI
 by_cases c1:s.fl≤a*(s.w:Rat)
 ·by_cases c2:a*(s.w:Rat) < s.cp
  ·rw [if_pos ⟨c1,c2⟩]
   have hb:b≤e2 s:=by
    rcases hn.2 with h' | h'
    ·have:=vz3 h' (Rat.le_of_lt hw)
     rw [qzp4 h] at this
     grind
    ·exact h'
   have m4:=vz3 hb (Rat.le_of_lt hw)
   rw [qzp4 h] at m4
   rw [qzoy h (by grind) (by grind),qzoy h c1 (by grind)]
   grind
  ·rw [if_neg (fun h=>c2 h.2),qznl h (by grind),qznl h (by grind)]
   simp [Rat.mul_zero,Rat.add_zero]
 ·rw [if_neg (fun h=>c1 h.1)]
  have hb:b≤e1 s:=by
   rcases hn.1 with h' | h'
   ·have:=vz3 h' (Rat.le_of_lt hw)
    rw [qzp5 h] at this
    grind
   ·exact h'
  have m4:=vz3 hb (Rat.le_of_lt hw)
  rw [qzp5 h] at m4
  rw [qzn2 h (by grind),qzn2 h (by grind)]
  simp [Rat.mul_zero,Rat.add_zero]
theorem qzny {a b t:Rat} (hab:a < b) (h1:a≤t) (h2:t≤b):∀ {l:List Shr},vzr l→(∀ s,s∈l→NoE a b s)→tot t l=tot a l+(t - a)*(slT a l:Rat)
 | [],_,_=>by
  show (0:Rat)=0+(t - a)*((0:Int):Rat)
  simp [Rat.mul_zero,Rat.add_zero]
 | s :: l,h,hn=>by
  have p1:=qz3k h.head (hn s List.mem_cons_self) hab h1 h2
  have p2:=qzny hab h1 h2 h.tail fun s hs=>hn s (List.mem_cons_of_mem _ hs)
  show part t s+tot t l=part a s+tot a l+(t - a)*((slI a s+slT a l:Int):Rat)
  rw [p1,p2,Rat.intCast_add,Rat.mul_add]
  grind
def yzo (l:List Shr) (f x:Rat):Prop:=0≤x∧f≤tot x l∧∀ y,0≤y→f≤tot y l→x≤y
theorem yzo.uniq {l:List Shr} {f x y:Rat} (h:yzo l f x) (h':yzo l f y):x=y:=by
 have h1:=h.2.2 y h'.1 h'.2.1
 have h2:=h'.2.2 x h.1 h.2.1
 grind
theorem qz3q {l:List Shr} {f:Rat} (h:f≤tot 0 l):yzo l f 0:=⟨Rat.le_refl,h,fun y hy _=>hy⟩
theorem qzop {l:List Shr} (h:vzr l) {f a b:Rat} (ha:0≤a) (h1:tot a l < f) (h2:f≤tot b l) (hn:∀ s,s∈l→NoE a b s):yzo l f (a+(f - tot a l) / (tot b l - tot a l)*(b - a))∧tot (a+(f - tot a l) / (tot b l - tot a l)*(b - a)) l=f:=by
 have hab:a < b:=by
  rcases yzj a b with h' | h'
  ·exact h'
  ·have:=qzs0 h h'; grind
 have hb:=qzny hab (Rat.le_of_lt hab) Rat.le_refl h hn
 generalize hS:((slT a l:Int):Rat)=S at *
 have hd:0 < tot b l - tot a l:=by grind
 have hba:0 < b - a:=by grind
 have hS0:0 < S:=by
  rcases yzj 0 S with h' | h'
  ·exact h'
  ·have:=vz3 h' (Rat.le_of_lt hba)
   have e:S*(b - a)=(b - a)*S:=Rat.mul_comm _ _
   grind
 have hx0:(f - tot a l) / (tot b l - tot a l)*(tot b l - tot a l)=f - tot a l:=qza8 (by grind)
 generalize hth:(f - tot a l) / (tot b l - tot a l)=th at *
 have ht0:0 < th:=by
  rcases yzj 0 th with h' | h'
  ·exact h'
  ·have:=vz3 h' (Rat.le_of_lt hd); grind
 have ht1:th≤1:=by
  rcases yzj 1 th with h' | h'
  ·have:=qzm0 h' hd; grind
  ·exact h'
 have hx1:0 < th*(b - a):=by have:=qzm0 ht0 hba; grind
 have hx2:th*(b - a)≤b - a:=by have:=vz3 ht1 (Rat.le_of_lt hba); grind
 have hxt:=qzny hab (t:=a+th*(b - a)) (by grind) (by grind) h hn
 rw [hS] at hxt
 have hxf:tot (a+th*(b - a)) l=f:=by
  have e:(a+th*(b - a) - a)*S=th*((b - a)*S):=by
   rw [show a+th*(b - a) - a=th*(b - a) by grind,Rat.mul_assoc]
  have e2:(b - a)*S=tot b l - tot a l:=by grind
  rw [e2,hx0] at e
  grind
 refine ⟨⟨by grind,by grind,fun y hy hfy=>?_⟩,hxf⟩
 rcases yzj y (a+th*(b - a)) with h' | h'
 ·exfalso
  rcases yzj a y with h3 | h3
  ·have hyt:=qzny hab (t:=y) (by grind) (by grind) h hn
   rw [hS] at hyt
   have:=qzm0 (a:=y - a) (b:=a+th*(b - a) - a) (by grind) hS0
   grind
  ·have:=qzs0 h h3
   grind
 ·exact h'
theorem wzdc {l:List Shr} (h:vzr l) {x:Rat} (hx:∀ s,s∈l→e2 s≤x):tot x l=cap l:=qz8m fun s hs=>qznl (h s hs) (by
 have:=vz3 (hx s hs) (Rat.le_of_lt (h s hs).w0)
 rwa [qzp4 (h s hs)] at this)
def jzm:List Shr→List Rat
 | []=>[]
 | s :: l=>e1 s :: e2 s :: jzm l
theorem qzef {x:Rat}:∀ {l:List Shr},x∈jzm l↔∃ s,s∈l∧(x=e1 s∨x=e2 s)
 | []=>by simp [jzm]
 | t :: l=>by simp [jzm,qzef,or_assoc]
theorem qzug {l:List Shr} (h:vzr l) {x:Rat} (hx:x∈jzm l):0≤x:=by
 obtain ⟨s,hs,rfl | rfl⟩:=qzef.1 hx
 ·exact wzcj (h s hs)
 ·exact Rat.le_trans (wzcj (h s hs)) (qz3t (h s hs))
theorem qzxj {l:List Shr} {a b:Rat} (h:∀ x,x∈jzm l→x≤a∨b≤x):∀ s,s∈l→NoE a b s:=fun s hs=>⟨h _ (qzef.2 ⟨s,hs,.inl rfl⟩),h _ (qzef.2 ⟨s,hs,.inr rfl⟩)⟩
theorem qzq6 (x:Rat):∀ l:List Rat,(∀ y,y∈l→x≤y)∨∃ a,a∈l∧a < x∧∀ y,y∈l→y≤a∨x≤y
 | []=>.inl fun y hy=>by cases hy
 | z :: l=>by
  rcases qzq6 x l with h | ⟨a,ha,hax,h⟩
  ·rcases yzj z x with h1 | h1
   ·refine .inr ⟨z,List.mem_cons_self,h1,fun y hy=>?_⟩
    rcases List.mem_cons.1 hy with rfl | hy
    ·exact .inl Rat.le_refl
    ·exact .inr (h y hy)
   ·refine .inl fun y hy=>?_
    rcases List.mem_cons.1 hy with rfl | hy
    ·exact h1
    ·exact h y hy
  ·rcases yzj z x with h1 | h1
   ·rcases yzj a z with h2 | h2
    ·refine .inr ⟨z,List.mem_cons_self,h1,fun y hy=>?_⟩
     rcases List.mem_cons.1 hy with rfl | hy
     ·exact .inl Rat.le_refl
     ·rcases h y hy with h3 | h3
      ·exact .inl (by grind)
      ·exact .inr h3
    ·refine .inr ⟨a,List.mem_cons_of_mem _ ha,hax,fun y hy=>?_⟩
     rcases List.mem_cons.1 hy with rfl | hy
     ·exact .inl h2
     ·exact h y hy
   ·refine .inr ⟨a,List.mem_cons_of_mem _ ha,hax,fun y hy=>?_⟩
    rcases List.mem_cons.1 hy with rfl | hy
    ·exact .inr h1
    ·exact h y hy
def Cand (l:List Shr) (f c:Rat):Prop:=(c∈jzm l∧f≤tot c l)∨∃ a,a∈jzm l∧tot a l < f∧slT a l≠0∧c=a+(f - tot a l) / ((slT a l:Int):Rat)∧tot c l=f
theorem wzx3 {l:List Shr} (h:vzr l) {f x:Rat} (hx:yzo l f x) (h0:tot 0 l < f):Cand l f x:=by
 by_cases he:x∈jzm l
 ·exact .inl ⟨he,hx.2.1⟩
 rcases qzq6 x (jzm l) with h1 | ⟨a,ha,hax,h1⟩
 ·exfalso
  have:tot x l=tot 0 l:=qz8m fun s hs=>by
   have h2:=h1 (e1 s) (qzef.2 ⟨s,hs,.inl rfl⟩)
   have h3:=vz3 h2 (Rat.le_of_lt (h s hs).w0)
   rw [qzp5 (h s hs)] at h3
   rw [qzn2 (h s hs) h3,qz2p (h s hs)]
  have:=hx.2.1
  grind
 ·have hn:=qzxj h1
  have ha0:=qzug h ha
  have haf:tot a l < f:=by
   rcases yzj (tot a l) f with h' | h'
   ·exact h'
   ·have:=hx.2.2 a ha0 h'; grind
  have hl:=qzny hax (Rat.le_of_lt hax) Rat.le_refl h hn
  have hx1:=hx.2.1
  have hxa:0 < x - a:=by grind
  have hS0:0 < ((slT a l:Int):Rat):=by
   rcases yzj 0 ((slT a l:Int):Rat) with h' | h'
   ·exact h'
   ·have:=vz3 h' (Rat.le_of_lt hxa)
    have e:((slT a l:Int):Rat)*(x - a)=(x - a)*((slT a l:Int):Rat):=Rat.mul_comm _ _
    grind
  have hd:(f - tot a l) / ((slT a l:Int):Rat)*((slT a l:Int):Rat)=f - tot a l:=qza8 (by grind)
  have hSne:slT a l≠0:=fun e=>by rw [e] at hS0; exact absurd hS0 (by decide)
  generalize hq:(f - tot a l) / ((slT a l:Int):Rat)=q at *
  have hq1:q≤x - a:=kz5 hS0 (by grind)
  have hq0:0 < q:=by
   rcases yzj 0 q with h' | h'
   ·exact h'
   ·have:=vz3 h' (Rat.le_of_lt hS0); grind
  have ht:=qzny hax (t:=a+q) (by grind) (by grind) h hn
  rw [show a+q - a=q by grind,hd] at ht
  have htf:tot (a+q) l=f:=by grind
  have hxe:x=a+q:=by
   have:=hx.2.2 (a+q) (by grind) (by grind)
   grind
  exact .inr ⟨a,ha,haf,hSne,by rw [hq]; exact hxe,by rw [hxe]; exact htf⟩
theorem wzzi {s:Shr} (h:s.Ok) (a:Rat):0≤slI a s:=by unfold slI; have:=h.1; split<;>omega
theorem wzyr (a:Rat):∀ {l:List Shr},vzr l→0≤slT a l
 | [],_=>by show (0:Int)≤0; omega
 | s :: l,h=>by
  have h1:=wzzi h.head a
  have h2:=wzyr a h.tail
  show 0≤slI a s+slT a l
  omega
theorem wzzg {l:List Shr} (h:vzr l) {f c:Rat} (hc:Cand l f c):0≤c∧f≤tot c l:=by
 rcases hc with ⟨h1,h2⟩ | ⟨a,ha,h1,h2,h3,h4⟩
 ·exact ⟨qzug h h1,h2⟩
 ·have ha0:=qzug h ha
  have hn:=wzyr a h
  have hp:0 < ((slT a l:Int):Rat):=Rat.intCast_pos.2 (by omega)
  have hd:(f - tot a l) / ((slT a l:Int):Rat)*((slT a l:Int):Rat)=f - tot a l:=qza8 (by grind)
  have:0≤(f - tot a l) / ((slT a l:Int):Rat):=kz5 hp (by grind)
  exact ⟨by grind,by grind⟩
theorem wzya {l:List Shr} (h:vzr l) {f x c:Rat} (hx:yzo l f x) (h0:tot 0 l < f) (hc:Cand l f c) (hm:∀ d,Cand l f d→c≤d):c=x:=by
 have h1:=hm x (wzx3 h hx h0)
 obtain ⟨h2,h3⟩:=wzzg h hc
 have h4:=hx.2.2 c h2 h3
 grind
end Go.Am

set_option linter.unusedVariables false
set_option linter.unusedSimpArgs false
namespace Go.Am
theorem eqR (x y:qza):((x.Neg==y.Neg)&&(decide (x.Num=y.Num)&&(decide (x.Den=y.Den)&&true)))=decide (x=y):=by
 cases x; cases y
 simp [qza.mk.injEq]
 rw [Bool.eq_iff_iff]
 simp [and_assoc]
theorem eqR0 (x:qza):((x.Neg==false)&&(decide (x.Num=[])&&(decide (x.Den=[])&&true)))=decide (x=rof 0):=eqR x ⟨false,[],[]⟩
theorem qzj4 {l:List qzb} {of:qzb→Option qza} {g:qzb→qza} (h:∀ s,s∈l→of s=some (g s)) (hl:l.length≤1000):qzu l of=some (l.map g):=by
 unfold qzu
 have key:lp (jzr l of) (0,[])=some (l.map g):=by
  refine qznm (fun s=>∃ k:Nat,s=((k:Int),(l.take k).map g)∧k≤l.length) (fun s=>l.length - s.1.toNat) _ ?_ ⟨0,rfl,by omega⟩ (by dsimp only; omega)
  rintro s ⟨k,rfl,hk⟩
  simp only [jzr]
  by_cases h0:k < l.length
  ·left
   have hx:l[k]?=some l[k]:=List.getElem?_eq_getElem h0
   rw [it_d (by omega),at_e (n:=k) rfl hx]
   simp only [bd_s]
   rw [h _ (List.getElem_mem h0)]
   simp only [bd_s]
   rw [ck_d (by simp only [List.length_append,List.length_map,List.length_take,List.length_singleton]; omega),qz3 (by omega)]
   exact ⟨_,rfl,⟨k+1,by rw [qzha hx]; rfl,by omega⟩,by dsimp only; omega⟩
  ·right
   rw [it_n (by omega),show k=l.length by omega,List.take_length]
 rw [key]; rfl
noncomputable def shq (s:qzb):Shr:=⟨s.Weight,rq s.Floor,rq s.Cap⟩
def SG (n:Nat) (s:qzb):Prop:=Sz n s.Floor∧Sz n s.Cap∧1≤s.Weight∧s.Weight≤1000000
def SGs (n:Nat) (l:List qzb):Prop:=∀ s,s∈l→SG n s
theorem qzrh {n m:Nat} {a:qza} {s:qzb} (hs:SG n s) (ha:Sz m a) (n1:1≤n) (m1:1≤m) (hn:n≤1000000) (hm:m≤1000000):wza ⟨a⟩ s=some (rof (part (rq a) (shq s)))∧Sz (m+n+9) (rof (part (rq a) (shq s))):=by
 obtain ⟨h1,h2,h3,h4⟩:=hs
 unfold wza
 obtain ⟨i1,i2⟩:=qzrp (n:=s.Weight) (by omega) (by omega)
 obtain ⟨j1,j2⟩:=qzi5 ha i2 m1 (by omega) (by omega) (by omega)
 obtain ⟨k1,k2⟩:=qzrt j2 h1 (by omega) n1 (by omega) (by omega)
 obtain ⟨p1,p2⟩:=qzq3 k2 h2 (by omega) n1 (by omega) (by omega)
 rw [i1]
 simp only [bd_s]
 rw [j1]
 simp only [bd_s]
 rw [k1]
 simp only [bd_s]
 rw [p1]
 simp only [qzs] at p2 ⊢
 exact ⟨rfl,p2.mono (by omega)⟩
noncomputable def pts (x:Rat) (l:List qzb):List qza:=l.map fun s=>rof (part x (shq s))
theorem wzfo (x:Rat) (l:List qzb):(pts x l).map rq=(l.map shq).map (part x):=by
 unfold pts
 rw [List.map_map,List.map_map]
 exact List.map_congr_left fun s _=>qzs _
section
variable {n m:Nat} {l:List qzb}
theorem qzlb {a:qza} (hs:SGs n l) (ha:Sz m a) (hl:l.length≤10) (n1:1≤n) (m1:1≤m) (hn:n≤1000000) (hm:m≤1000000):qzu l (fun a0=>wza ⟨a⟩ a0)=some (pts (rq a) l) :=
 qzj4 (fun s h=>(qzrh (hs s h) ha n1 m1 hn hm).1) (by omega)
theorem qz04 {a:qza} (hs:SGs n l) (ha:Sz m a) (n1:1≤n) (m1:1≤m) (hn:n≤1000000) (hm:m≤1000000):∀ b,b∈pts (rq a) l→Sz (m+n+9) b:=fun b hb=>by
 obtain ⟨s,h,rfl⟩:=List.mem_map.1 hb
 exact (qzrh (hs s h) ha n1 m1 hn hm).2
theorem qz24 {a:qza} (hs:SGs n l) (ha:Sz m a) (hl:l.length≤10) (n1:1≤n) (m1:1≤m) (hn:n≤100000) (hm:m≤100000):vz7 (pts (rq a) l)=some (rof (tot (rq a) (l.map shq)))∧Sz (10*(m+n+10)+1) (rof (tot (rq a) (l.map shq))):=by
 have:=qzgs (qz04 hs ha n1 m1 (by omega) (by omega)) (by omega) (by omega) (show (pts (rq a) l).length≤10 by unfold pts; rw [List.length_map]; exact hl) (by omega)
 rw [wzfo] at this
 exact this
theorem qzq5 (hs:SGs n l) (hl:l.length≤10) (n1:1≤n) (hn:n≤100000):jz1 l=some (rof (flo (l.map shq)))∧Sz (10*(n+1)+1) (rof (flo (l.map shq))):=by
 unfold jz1
 rw [qzj4 (of:=fun a0=>jzb a0) (g:=fun s=>s.Floor) (fun s h=>rfl) (by omega)]
 simp only [bd_s]
 have:=qzgs (l:=l.map fun s=>s.Floor) (n:=n) (L:=10) (fun b hb=>by obtain ⟨s,h,rfl⟩:=List.mem_map.1 hb; exact (hs s h).1) n1 (by omega) (by rw [List.length_map]; exact hl) (by omega)
 rw [List.map_map] at this
 have e:flo (l.map shq)=sQ (l.map (rq∘fun s=>s.Floor)):=by unfold flo; rw [List.map_map]; rfl
 rw [e,this.1]
 exact ⟨rfl,this.2⟩
theorem qzql (hs:SGs n l) (hl:l.length≤10) (n1:1≤n) (hn:n≤100000):jzn l=some (rof (cap (l.map shq)))∧Sz (10*(n+1)+1) (rof (cap (l.map shq))):=by
 unfold jzn
 rw [qzj4 (of:=fun a0=>jzx a0) (g:=fun s=>s.Cap) (fun s h=>rfl) (by omega)]
 simp only [bd_s]
 have:=qzgs (l:=l.map fun s=>s.Cap) (n:=n) (L:=10) (fun b hb=>by obtain ⟨s,h,rfl⟩:=List.mem_map.1 hb; exact (hs s h).2.1) n1 (by omega) (by rw [List.length_map]; exact hl) (by omega)
 rw [List.map_map] at this
 have e:cap (l.map shq)=sQ (l.map (rq∘fun s=>s.Cap)):=by unfold cap; rw [List.map_map]; rfl
 rw [e,this.1]
 exact ⟨rfl,this.2⟩
theorem qzet {a b:qza} {k:Nat} (ha:Sz k a) (hb:Sz m b) (h0:rq b≠0) (n1:1≤k) (m1:1≤m) (hn:k≤33554432) (hm:m≤33554432):wzs a b=some (rof (rq a / rq b))∧Sz (k+m+1) (rof (rq a / rq b)):=by
 unfold wzs
 obtain ⟨e,h⟩:=qzy9 ha hb h0 n1 m1 hn hm
 rw [e]
 exact ⟨rfl,h⟩
theorem qzvk {s:qzb} (hs:SG n s) (n1:1≤n) (hn:n≤1000000):qzz s.Weight=some (rof (s.Weight:Rat))∧wzs s.Floor (rof (s.Weight:Rat))=some (rof (e1 (shq s)))∧wzs s.Cap (rof (s.Weight:Rat))=some (rof (e2 (shq s)))∧Sz (n+9) (rof (e1 (shq s)))∧Sz (n+9) (rof (e2 (shq s))):=by
 obtain ⟨h1,h2,h3,h4⟩:=hs
 obtain ⟨i1,i2⟩:=qzrp (n:=s.Weight) (by omega) (by omega)
 have hw:rq (rof (s.Weight:Rat))≠0:=by
  rw [qzs]
  intro h
  have:=Rat.intCast_eq_zero_iff.1 h
  omega
 obtain ⟨j1,j2⟩:=qzet h1 i2 hw n1 (by omega) (by omega) (by omega)
 obtain ⟨k1,k2⟩:=qzet h2 i2 hw n1 (by omega) (by omega) (by omega)
 rw [qzs] at j1 j2 k1 k2
 exact ⟨i1,j1,k1,j2,k2⟩
theorem qztm (l m:List Shr):jzm (l++m)=jzm l++jzm m:=by
 induction l with
 | nil=>rfl
 | cons s l ih=>simp [jzm,ih]
theorem qzrl (l:List Shr):(jzm l).length=2*l.length:=by
 induction l with
 | nil=>rfl
 | cons s l ih=>simp [jzm,ih]; omega
theorem qz3w (hs:SGs n l) (hl:l.length≤10) (n1:1≤n) (hn:n≤1000000):lp (jzf l) (0,[])=some ((jzm (l.map shq)).map rof):=by
 refine qznm (fun s=>∃ k:Nat,s=((k:Int),(jzm ((l.take k).map shq)).map rof)∧k≤l.length) (fun s=>l.length - s.1.toNat) _ ?_ ⟨0,rfl,by omega⟩ (by dsimp only; omega)
 rintro s ⟨k,rfl,hk⟩
 simp only [jzf]
 by_cases h0:k < l.length
 ·left
  have hx:l[k]?=some l[k]:=List.getElem?_eq_getElem h0
  obtain ⟨h1,h2,h3,_,_⟩:=qzvk (hs _ (List.getElem_mem h0)) n1 hn
  rw [it_d (by omega),at_e (n:=k) rfl hx]
  simp only [bd_s]
  rw [h1]
  simp only [bd_s]
  rw [h2,h3]
  simp only [bd_s]
  rw [ck_d (by simp only [List.length_append,List.length_map,qzrl,List.length_take,List.length_cons,List.length_nil]; omega),qz3 (by omega)]
  refine ⟨_,rfl,⟨k+1,?_,by omega⟩,by dsimp only; omega⟩
  rw [qzha hx,qztm,List.map_append]
  rfl
 ·right
  rw [it_n (by omega),show k=l.length by omega,List.take_length]
end
theorem qzvi (s:List UInt8):natV s=sv s:=by
 have key:∀ (s:List UInt8) (n:Nat),s.foldl (fun n b=>n*256+b.toNat) n=n*256 ^ s.length+sv s:=by
  intro s
  induction s with
  | nil=>intro n; simp [sv]
  | cons b r ih =>
   intro n
   rw [List.foldl_cons,ih]
   simp only [sv,List.length_cons,Nat.pow_succ,Nat.add_mul]
   rw [show n*256*256 ^ r.length=n*(256 ^ r.length*256) by rw [Nat.mul_assoc,Nat.mul_comm 256]]
   omega
 unfold natV
 rw [key]; simp
theorem qzot (q:Rat):ratV (rof q)=q:=by
 unfold ratV
 rw [qzvi,qzvi]
 by_cases h0:q=0
 ·subst h0; rfl
 ·rw [wzd0 h0,wzd8,qzvf,if_neg (qzpy (Rat.den_nz q)),wzj,wzj]
  have:=fvq q
  unfold fv sg at this
  exact this
def qins (a:Rat):List Rat→List Rat
 | []=>[a]
 | b :: l=>if a≤b then a :: b :: l else b :: qins a l
def qzfe:List Rat→List Rat
 | []=>[]
 | a :: l=>qins a (qzfe l)
theorem qzsx (a:Rat):∀ l:List Rat,qzeg (rof a) (l.map rof)=(qins a l).map rof
 | []=>rfl
 | b :: l=>by
  simp only [List.map_cons,qzeg,qins,qzot]
  split
  ·rfl
  ·rw [qzsx a l]; rfl
theorem qzq8:∀ l:List Rat,qzi1 (l.map rof)=(qzfe l).map rof
 | []=>rfl
 | a :: l=>by
  simp only [List.map_cons,qzi1,qzfe]
  rw [qzq8 l,qzsx]
theorem qzo0 {a x:Rat}:∀ {l:List Rat},x∈qins a l↔x=a∨x∈l
 | []=>by simp [qins]
 | b :: l=>by
  unfold qins
  split
  ·simp
  ·simp only [List.mem_cons,qzo0 (l:=l)]
   constructor
   ·rintro (h | h | h)
    ·exact .inr (.inl h)
    ·exact .inl h
    ·exact .inr (.inr h)
   ·rintro (h | h | h)
    ·exact .inr (.inl h)
    ·exact .inl h
    ·exact .inr (.inr h)
theorem qzrg {x:Rat}:∀ {l:List Rat},x∈qzfe l↔x∈l
 | []=>Iff.rfl
 | a :: l=>by rw [qzfe,qzo0,qzrg (l:=l),List.mem_cons]
theorem qzs2 (a:Rat):∀ l:List Rat,(qins a l).length=l.length+1
 | []=>rfl
 | b :: l=>by
  unfold qins
  split
  ·rfl
  ·simp [qzs2 a l]
theorem qzrs:∀ l:List Rat,(qzfe l).length=l.length
 | []=>rfl
 | a :: l=>by rw [qzfe,qzs2,qzrs l]; rfl
theorem qzve {a:Rat}:∀ {l:List Rat},l.Pairwise (·≤·)→(qins a l).Pairwise (·≤·)
 | [],_=>by simp [qins]
 | b :: l,h=>by
  unfold qins
  rw [List.pairwise_cons] at h
  split
  ·rename_i hab
   rw [List.pairwise_cons,List.pairwise_cons]
   refine ⟨fun x hx=>?_,h⟩
   rcases List.mem_cons.1 hx with rfl | hx
   ·exact hab
   ·exact Rat.le_trans hab (h.1 x hx)
  ·rename_i hab
   rw [List.pairwise_cons]
   refine ⟨fun x hx=>?_,qzve h.2⟩
   rcases qzo0.1 hx with rfl | hx
   ·grind
   ·exact h.1 x hx
theorem qztd:∀ l:List Rat,(qzfe l).Pairwise (·≤·)
 | []=>List.Pairwise.nil
 | a :: l=>qzve (qztd l)
theorem wzc6 {l:List Rat} {n:Nat} (hs:∀ q,q∈l→Sz n (rof q)) (n1:1≤n) (hn:n≤1000000) (h0:l≠[]) (hl:l.length≤100):yzm (l.map rof)=some ((qzfe l).map rof):=by
 unfold yzm
 have h1:decide (0 < (l.map rof).length)=true:=by
  cases l with
  | nil=>exact absurd rfl h0
  | cons=>rfl
 have h2:qzjz (l.map rof)=true:=by
  unfold qzjz
  rw [List.all_eq_true]
  intro a ha
  rw [List.all_eq_true]
  intro b hb
  obtain ⟨p,hp,rfl⟩:=List.mem_map.1 ha
  obtain ⟨q,hq,rfl⟩:=List.mem_map.1 hb
  have hc:wzha (rof p) (rof q)=some (cmpQ p q):=by
   unfold wzha
   rw [jz9 (hs p hp) (hs q hq) n1 n1 (by omega) (by omega),qzs,qzs]; rfl
  rw [hc,qzot,qzot]
  have e1:decide (cmpQ p q < 0)=decide (p < q):=by
   unfold cmpQ
   by_cases h:p < q
   ·rw [if_pos h,decide_eq_true h]; rfl
   ·rw [if_neg h,decide_eq_false h]
    split<;>rfl
  by_cases hpq:p=q
  ·subst hpq
   simp [e1]
  ·simp [e1,hpq]
 rw [ck_t (by rw [h1,h2]; simp; omega),qzq8]
end Go.Am

set_option linter.unusedVariables false
set_option linter.unusedSimpArgs false
namespace Go.Am
section
variable {n m:Nat} {l:List qzb}
theorem qzud {l:List Rat} (h:l.Pairwise (·≤·)) {i j:Nat} {x y:Rat} (hi:l[i]?=some x) (hj:l[j]?=some y) (hij:i≤j):x≤y:=by
 obtain ⟨h1,rfl⟩:=List.getElem?_eq_some_iff.1 hi
 obtain ⟨h2,rfl⟩:=List.getElem?_eq_some_iff.1 hj
 rcases Nat.lt_or_ge i j with h' | h'
 ·exact List.pairwise_iff_getElem.1 h i j h1 h2 h'
 ·have:i=j:=by omega
  subst this; exact Rat.le_refl
theorem qzfx {p q:Rat}:cmpQ p q≤0↔p≤q:=by
 unfold cmpQ
 constructor
 ·intro h
  rcases yzj q p with h' | h'
  ·rw [if_neg (by grind),if_pos h'] at h; omega
  ·exact h'
 ·intro h
  split
  ·omega
  ·rw [if_neg (by grind)]; omega
theorem qzvu {p q:Rat}:cmpQ p q < 0↔p < q:=by
 unfold cmpQ
 constructor
 ·intro h
  rcases yzj p q with h' | h'
  ·exact h'
  ·rw [if_neg (by grind)] at h
   split at h<;>omega
 ·intro h
  rw [if_pos h]; omega
theorem qzhv {p q:Rat}:0 < cmpQ p q↔q < p:=by
 unfold cmpQ
 constructor
 ·intro h
  rcases yzj q p with h' | h'
  ·exact h'
  ·split at h
   ·omega
   ·rw [if_neg (by grind)] at h; omega
 ·intro h
  rw [if_neg (by grind),if_pos h]; omega
theorem wzxb {p q:Rat}:0≤cmpQ p q↔q≤p:=by
 have h1:=qzvu (p:=p) (q:=q)
 constructor
 ·intro h
  rcases yzj p q with h' | h'
  ·have:=h1.2 h'; omega
  ·exact h'
 ·intro h
  rcases Int.lt_or_le (cmpQ p q) 0 with h' | h'
  ·have:=h1.1 h'; grind
  ·exact h'
theorem qz27 {flow:qza} (hs:SGs n l) (hok:vzr (l.map shq)) (hf:Sz n flow) (n1:1≤n) (hn:n≤1000) (hl:l.length≤10) (h0:l≠[]) (hc:rq flow≤cap (l.map shq)):∃ x,wzq l flow=some (rof x)∧yzo (l.map shq) (rq flow) x∧Sz 200000 (rof x):=by
 unfold wzq
 rw [qz3w hs hl n1 (by omega)]
 simp only [bd_s]
 have hne:jzm (l.map shq)≠[]:=by
  cases l with
  | nil=>exact absurd rfl h0
  | cons=>simp [jzm]
 have hlen:(jzm (l.map shq)).length≤20:=by rw [qzrl,List.length_map]; omega
 have hes:∀ q,q∈jzm (l.map shq)→Sz (n+9) (rof q):=fun q hq=>by
  obtain ⟨s,hs',hq⟩:=qzef.1 hq
  obtain ⟨t,ht,rfl⟩:=List.mem_map.1 hs'
  obtain ⟨_,_,_,h4,h5⟩:=qzvk (hs t ht) n1 (by omega)
  rcases hq with rfl | rfl
  ·exact h4
  ·exact h5
 rw [wzc6 hes (by omega) (by omega) hne (by omega)]
 simp only [bd_s]
 have hpw:=qztd (jzm (l.map shq))
 have hmem:∀ x,x∈qzfe (jzm (l.map shq))↔x∈jzm (l.map shq):=fun x=>qzrg
 have hql:=qzrs (jzm (l.map shq))
 generalize qzfe (jzm (l.map shq))=es at *
 obtain ⟨o,e,ho⟩:=vzf (s:=(0,(⟨false,[],[]⟩:qza))) (body:=jzd flow l (es.map rof)) (fun s=>∃ (k:Nat) (a:Rat),s=((k:Int),rof a)∧k≤es.length∧0≤a∧Sz (n+9) (rof a)∧(k=0→a=0)∧(0 < k→es[k - 1]?=some a∧tot a (l.map shq) < rq flow)) (fun s=>es.length - s.1.toNat) (fun o=>∃ x,(o=.inl (rof x)∨o=.inr (rof x))∧yzo (l.map shq) (rq flow) x∧Sz 200000 (rof x)) (by
  rintro s ⟨k,a,rfl,hk,ha,has,hk0,hk1⟩
  simp only [jzd,List.length_map]
  by_cases h:k < es.length
  ·have hx:es[k]?=some es[k]:=List.getElem?_eq_getElem h
   have hxm:es[k]∈jzm (l.map shq):=(hmem _).1 (List.getElem_mem h)
   have hbs:=hes _ hxm
   have hb0:=qzug hok hxm
   generalize hb:es[k]=b at *
   have hab:∀ x,x∈jzm (l.map shq)→x≤a∨b≤x:=fun x hxe=>by
    obtain ⟨i,hi,rfl⟩:=List.mem_iff_getElem.1 ((hmem x).2 hxe)
    have hi':es[i]?=some es[i]:=List.getElem?_eq_getElem hi
    rcases Nat.lt_or_ge i k with h' | h'
    ·exact .inl (qzud hpw hi' (hk1 (by omega)).1 (by omega))
    ·exact .inr (qzud hpw hx hi' h')
   obtain ⟨t1,t2⟩:=qz24 hs has hl n1 (by omega) (by omega) (by omega)
   obtain ⟨u1,u2⟩:=qz24 hs hbs hl n1 (by omega) (by omega) (by omega)
   rw [qzs] at t1 t2 u1 u2
   have p1:=qzlb hs has hl n1 (by omega) (by omega) (by omega)
   have p2:=qzlb hs hbs hl n1 (by omega) (by omega) (by omega)
   rw [qzs] at p1 p2
   rw [it_d (by omega),at_e (n:=k) rfl (by rw [List.getElem?_map,hx]; rfl)]
   simp only [bd_s]
   rw [p1,p2]
   simp only [bd_s]
   rw [t1,u1]
   simp only [bd_s]
   rw [jz9 hf t2 n1 (by omega) (by omega) (by omega),qzs]
   simp only [bd_s]
   by_cases c1:rq flow≤tot a (l.map shq)
   ·right
    rw [it_d (qzfx.2 c1)]
    refine ⟨_,rfl,a,.inl rfl,?_,has.mono (by omega)⟩
    have hk00:k=0:=by
     rcases Nat.eq_zero_or_pos k with h' | h'
     ·exact h'
     ·have:=(hk1 h').2; grind
    rw [hk0 hk00] at c1 ⊢
    exact qz3q c1
   ·rw [it_n (fun h=>c1 (qzfx.1 h)),jz9 hf u2 n1 (by omega) (by omega) (by omega),qzs]
    simp only [bd_s]
    by_cases c2:rq flow≤tot b (l.map shq)
    ·right
     have hlt:tot a (l.map shq) < rq flow:=by grind
     have hd0:rq (rof (tot b (l.map shq) - tot a (l.map shq)))≠0:=by rw [qzs]; grind
     rw [it_d (qzfx.2 c2)]
     obtain ⟨v1,v2⟩:=qzg8 hf t2 n1 (by omega) (by omega) (by omega)
     obtain ⟨w1,w2⟩:=qzg8 u2 t2 (by omega) (by omega) (by omega) (by omega)
     rw [qzs] at v1 v2
     rw [qzs,qzs] at w1 w2
     obtain ⟨x1,x2⟩:=qzet v2 w2 hd0 (by omega) (by omega) (by omega) (by omega)
     rw [qzs,qzs] at x1 x2
     obtain ⟨y1,y2⟩:=qzg8 hbs has (by omega) (by omega) (by omega) (by omega)
     rw [qzs,qzs] at y1 y2
     obtain ⟨z1,z2⟩:=qzi5 x2 y2 (by omega) (by omega) (by omega) (by omega)
     rw [qzs,qzs] at z1 z2
     obtain ⟨s1,s2⟩:=qziy has z2 (by omega) (by omega) (by omega) (by omega)
     rw [qzs,qzs] at s1 s2
     rw [v1,w1]
     simp only [bd_s]
     rw [x1,y1]
     simp only [bd_s]
     rw [z1]
     simp only [bd_s]
     rw [s1]
     simp only [bd_s]
     exact ⟨_,rfl,_,.inr rfl,(qzop hok ha hlt c2 (qzxj hab)).1,s2.mono (by omega)⟩
    ·left
     rw [it_n (fun h=>c2 (qzfx.1 h)),qz3 (by omega)]
     refine ⟨_,rfl,⟨k+1,b,rfl,by omega,hb0,hbs,fun h=>by omega,fun _=>⟨by rw [Nat.add_sub_cancel]; exact hx,by grind⟩⟩,by dsimp only; omega⟩
  ·exfalso
   have hkl:k=es.length:=by omega
   have hpos:0 < es.length:=by
    rw [hql]
    exact List.length_pos_iff.2 hne
   obtain ⟨g1,g2⟩:=hk1 (by omega)
   have:tot a (l.map shq)=cap (l.map shq):=wzdc hok fun s hs'=>by
    have hm:e2 s∈jzm (l.map shq):=qzef.2 ⟨s,hs',.inr rfl⟩
    obtain ⟨i,hi,e⟩:=List.mem_iff_getElem.1 ((hmem _).2 hm)
    have hi':es[i]?=some (e2 s):=by rw [List.getElem?_eq_getElem hi,e]
    exact qzud hpw hi' g1 (by omega)
   grind) ⟨0,0,rfl,by omega,Rat.le_refl,Sz.zero _,fun _=>rfl,fun h=>by omega⟩ (by dsimp only; omega)
 obtain ⟨x,hx,h1,h2⟩:=ho
 rw [e]
 rcases hx with rfl | rfl
 ·exact ⟨x,rfl,h1,h2⟩
 ·exact ⟨x,rfl,h1,h2⟩
end
def posB (a:qza):Bool:=decide (Vd a)&&!a.Neg
theorem qzi9 {a:qza} (h:Sz 134217728 a):jz7 a=some (posB a):=by
 unfold jz7 posB
 rw [qzga h]
 simp only [bd_s]
 by_cases hv:Vd a<;>simp [hv]
theorem wzkc {a:qza} (h:Sz 134217728 a):wziz a=some (posB a):=by
 unfold wziz posB
 rw [wzol h]
 simp only [bd_s]
 by_cases hv:Vd a<;>simp [hv]
theorem qzc5 {a:qza}:posB a=true↔Vd a∧0≤rq a:=by
 unfold posB
 rw [Bool.and_eq_true,decide_eq_true_iff]
 refine and_congr_right fun hv=>?_
 have h:=qz3l (q:=rq a)
 rw [qzyo hv] at h
 cases hn:a.Neg
 ·simp [hn] at h ⊢; grind
 ·simp [hn] at h ⊢; grind
noncomputable def serr (pre:List qzb) (s:qzb):Int :=
 if s.State < 0∨8≤s.State∨s.Weight < 1∨1000000 < s.Weight then 3
 else if posB s.Floor=false∨posB s.Cap=false∨rq s.Cap < rq s.Floor then 1
 else if ∃ t,t∈pre∧t.State=s.State then 9 else 0
noncomputable def sgo (pre:List qzb):List qzb→Int
 | []=>0
 | s :: l=>if serr pre s=0 then sgo (pre++[s]) l else serr pre s
noncomputable def chkS (l:List qzb):Int:=if l.length < 1∨8 < l.length then 2 else sgo [] l
def Few (n:Nat) (l:List qzb):Prop:=∀ s,s∈l→Sz n s.Floor∧Sz n s.Cap
theorem qz29 {l:List qzb} {f:qzb→Option Bool} {g:qzb→Bool} (h:∀ s,s∈l→f s=some (g s)) (hl:l.length≤1000):jz8 l f=some (l.any g):=by
 unfold jz8 qzas
 obtain ⟨o,e,ho⟩:=vzf (s:=(0:Int)) (body:=kze f l) (fun s=>∃ k:Nat,s=(k:Int)∧k≤l.length∧(l.take k).any g=false) (fun s=>l.length - s.toNat) (fun o=>(o=.inl ()∧l.any g=false)∨∃ k:Nat,o=.inr (k:Int)∧l.any g=true) (by
  rintro s ⟨k,rfl,hk,hn⟩
  simp only [kze]
  by_cases h0:k < l.length
  ·have hx:l[k]?=some l[k]:=List.getElem?_eq_getElem h0
   rw [it_d (by omega),at_e (n:=k) rfl hx]
   simp only [bd_s]
   rw [h _ (List.getElem_mem h0)]
   simp only [bd_s]
   cases hg:g l[k]
   ·left
    rw [qzil,qz3 (by omega)]
    exact ⟨_,rfl,⟨k+1,rfl,by omega,by rw [List.take_succ_eq_append_getElem h0,List.any_append,hn]; simp [hg]⟩,by omega⟩
   ·right
    rw [wzdh]
    exact ⟨_,rfl,.inr ⟨k,rfl,List.any_eq_true.2 ⟨_,List.getElem_mem h0,hg⟩⟩⟩
  ·right
   rw [it_n (by omega)]
   rw [show k=l.length by omega,List.take_length] at hn
   exact ⟨_,rfl,.inl ⟨rfl,hn⟩⟩) ⟨0,rfl,by omega,rfl⟩ (by show l.length - (0:Int).toNat < _; omega)
 rw [e]
 rcases ho with ⟨rfl,h1⟩ | ⟨k,rfl,h1⟩
 ·rw [h1]; rfl
 ·rw [h1]
  exact congrArg some (decide_eq_true (by omega))
theorem qz3b {pre l:List qzb} {k:Nat} (h:k < l.length):sgo (l.take k) (l.drop k)=if serr (l.take k) l[k]=0 then sgo (l.take (k+1)) (l.drop (k+1)) else serr (l.take k) l[k]:=by
 rw [List.drop_eq_getElem_cons h,sgo,List.take_succ_eq_append_getElem h]
theorem qz3n {α:Type} {l:List α} {k:Nat}:sub l 0 (k:Int)=l.take k:=by
 unfold sub
 rw [show Int.toNat 0=0 from rfl,List.drop_zero,show ((k:Int) - 0).toNat=k by omega]
theorem qzvl {pre:List qzb} {s:qzb}:(pre.any fun t=>decide (t.State=s.State))=true↔∃ t,t∈pre∧t.State=s.State:=by
 rw [List.any_eq_true]
 simp
theorem qzuh {n:Nat} {l:List qzb} (hf:Few n l) (n1:1≤n) (hn:n≤1000000):kz4 l=some (chkS l):=by
 unfold kz4 chkS
 by_cases hb:l.length < 1∨8 < l.length
 ·rw [if_pos hb,it_t (by
   rcases hb with h | h
   ·rw [decide_eq_true (by omega:(l.length:Int) < 1)]; rfl
   ·rw [decide_eq_true (by omega:(8:Int) < (l.length:Int))]; simp)]
 ·rw [if_neg hb,it_f (by rw [decide_eq_false (by omega:¬ (l.length:Int) < 1),decide_eq_false (by omega:¬ (8:Int) < (l.length:Int))]; rfl)]
  obtain ⟨o,e,ho⟩:=vzf (s:=(0:Int)) (body:=yzv l) (fun s=>∃ k:Nat,s=(k:Int)∧k≤l.length∧sgo (l.take k) (l.drop k)=sgo [] l) (fun s=>l.length - s.toNat) (fun o=>(o=.inl ()∧sgo [] l=0)∨o=.inr (sgo [] l)) (by
   rintro s ⟨k,rfl,hk,hg⟩
   simp only [yzv]
   by_cases h0:k < l.length
   ·have hx:l[k]?=some l[k]:=List.getElem?_eq_getElem h0
    have hz:=hf _ (List.getElem_mem h0)
    rw [qz3b (pre:=[]) h0] at hg
    rw [it_d (by omega),at_e (n:=k) rfl hx]
    simp only [bd_s]
    generalize l[k]=s at *
    obtain ⟨z1,z2⟩:=hz
    by_cases c1:s.State < 0∨8≤s.State∨s.Weight < 1∨1000000 < s.Weight
    ·right
     have he:serr (l.take k) s=3:=by unfold serr; rw [if_pos c1]
     rw [he,if_neg (by omega)] at hg
     rw [it_t (by rcases c1 with h | h | h | h<;>simp [h])]
     exact ⟨_,rfl,.inr (by rw [← hg])⟩
    ·rw [it_f (by simp only [not_or] at c1; simp; omega)]
     rw [qzi9 (z1.mono (by omega)),qzi9 (z2.mono (by omega))]
     simp only [bd_s]
     by_cases c2:posB s.Floor=false∨posB s.Cap=false∨rq s.Cap < rq s.Floor
     ·right
      have he:serr (l.take k) s=1:=by unfold serr; rw [if_neg c1,if_pos c2]
      rw [he,if_neg (by omega)] at hg
      rw [jz9 z1 z2 n1 n1 (by omega) (by omega)]
      refine ⟨.inr 1,?_,.inr (by rw [← hg])⟩
      cases p1:posB s.Floor
      ·rfl
      ·cases p2:posB s.Cap
       ·rfl
       ·have h3:rq s.Cap < rq s.Floor:=by simpa [p1,p2] using c2
        simp only [Bool.not_true,Bool.not_false,qzbx,bd_s,cond_false]
        rw [it_t (by simp; exact qzhv.2 h3)]
     ·simp only [not_or,Bool.not_eq_false] at c2
      obtain ⟨p1,p2,p3⟩:=c2
      rw [p1,p2]
      simp only [Bool.not_true,Bool.not_false,qzbx,bd_s,cond_false]
      rw [jz9 z1 z2 n1 n1 (by omega) (by omega)]
      simp only [bd_s]
      rw [it_f (decide_eq_false (fun h=>p3 (qzhv.1 h))),qzhn (by omega),qz3n]
      rw [qz29 (f:=fun a0=>qzan a0 s) (g:=fun t=>decide (t.State=s.State)) (fun t _=>rfl) (by rw [List.length_take]; omega)]
      simp only [bd_s]
      by_cases c3:∃ t,t∈l.take k∧t.State=s.State
      ·right
       have he:serr (l.take k) s=9:=by unfold serr; rw [if_neg c1,if_neg (by simp [p1,p2,p3]),if_pos c3]
       rw [he,if_neg (by omega)] at hg
       rw [it_t (qzvl.2 c3)]
       exact ⟨_,rfl,.inr (by rw [← hg])⟩
      ·left
       have he:serr (l.take k) s=0:=by unfold serr; rw [if_neg c1,if_neg (by simp [p1,p2,p3]),if_neg c3]
       rw [he,if_pos rfl] at hg
       rw [it_f (by rw [← Bool.not_eq_true]; exact fun h=>c3 (qzvl.1 h)),qz3 (by omega)]
       exact ⟨_,rfl,⟨k+1,rfl,by omega,hg⟩,by omega⟩
   ·right
    rw [it_n (by omega)]
    rw [show k=l.length by omega,List.take_length,List.drop_length] at hg
    exact ⟨_,rfl,.inl ⟨rfl,hg.symm⟩⟩) ⟨0,rfl,by omega,rfl⟩ (by show l.length - (0:Int).toNat < _; omega)
  rw [e]
  rcases ho with ⟨rfl,h1⟩ | rfl
  ·rw [h1]; rfl
  ·rfl
end Go.Am

set_option linter.unusedVariables false
set_option linter.unusedSimpArgs false
namespace Go.Am
theorem wzwj {l:List qzb} {s:qzb} {k:Nat} (hk:k≤l.length) (hl:l.length≤1000):lp (wzkz (k:Int) l s) 0=some (if ∃ t,t∈l.take k∧t.State=s.State then .inr 9 else .inl ()):=by
 refine qznm (fun x=>∃ i:Nat,x=(i:Int)∧i≤k∧¬ ∃ t,t∈l.take i∧t.State=s.State) (fun x=>k - x.toNat) _ ?_ ⟨0,rfl,by omega,by rintro ⟨t,ht,_⟩; simp at ht⟩ (by show k - (0:Int).toNat < _; omega)
 rintro x ⟨i,rfl,hi,hn⟩
 simp only [wzkz]
 by_cases h0:i < k
 ·have hil:i < l.length:=by omega
  have hx:l[i]?=some l[i]:=List.getElem?_eq_getElem hil
  rw [it_d (by omega),at_e (n:=i) rfl hx]
  simp only [bd_s]
  by_cases hc:l[i].State=s.State
  ·right
   have:∃ t,t∈l.take k∧t.State=s.State:=⟨l[i],by
    rw [List.mem_take_iff_getElem]
    exact ⟨i,by omega,rfl⟩,hc⟩
   rw [it_d hc,if_pos this]
  ·left
   rw [it_n hc,qz3 (by omega)]
   refine ⟨_,rfl,⟨i+1,rfl,by omega,?_⟩,by omega⟩
   rintro ⟨t,ht,hts⟩
   rw [List.take_succ_eq_append_getElem hil,List.mem_append,List.mem_singleton] at ht
   rcases ht with ht | rfl
   ·exact hn ⟨t,ht,hts⟩
   ·exact hc hts
 ·right
  rw [it_n (by omega)]
  rw [show i=k by omega] at hn
  rw [if_neg hn]
theorem wzs7 {n:Nat} {l:List qzb} (hf:Few n l) (n1:1≤n) (hn:n≤1000000):wzku l=some (chkS l):=by
 unfold wzku chkS
 by_cases hb:l.length < 1∨8 < l.length
 ·rw [if_pos hb,it_t (by
   rcases hb with h | h
   ·rw [decide_eq_true (by omega:(l.length:Int) < 1)]; rfl
   ·rw [decide_eq_true (by omega:(8:Int) < (l.length:Int))]; simp)]
 ·rw [if_neg hb,it_f (by rw [decide_eq_false (by omega:¬ (l.length:Int) < 1),decide_eq_false (by omega:¬ (8:Int) < (l.length:Int))]; rfl)]
  obtain ⟨o,e,ho⟩:=vzf (s:=(0:Int)) (body:=wzkx l) (fun s=>∃ k:Nat,s=(k:Int)∧k≤l.length∧sgo (l.take k) (l.drop k)=sgo [] l) (fun s=>l.length - s.toNat) (fun o=>(o=.inl ()∧sgo [] l=0)∨o=.inr (sgo [] l)) (by
   rintro s ⟨k,rfl,hk,hg⟩
   simp only [wzkx]
   by_cases h0:k < l.length
   ·have hx:l[k]?=some l[k]:=List.getElem?_eq_getElem h0
    have hz:=hf _ (List.getElem_mem h0)
    rw [qz3b (pre:=[]) h0] at hg
    rw [it_d (by omega),at_e (n:=k) rfl hx]
    simp only [bd_s]
    generalize l[k]=s at *
    obtain ⟨z1,z2⟩:=hz
    by_cases c1:s.State < 0∨8≤s.State∨s.Weight < 1∨1000000 < s.Weight
    ·right
     have he:serr (l.take k) s=3:=by unfold serr; rw [if_pos c1]
     rw [he,if_neg (by omega)] at hg
     have c1':s.State < 0∨7 < s.State∨s.Weight < 1∨1000000 < s.Weight:=by omega
     rw [it_t (by rcases c1' with h | h | h | h<;>simp [h])]
     exact ⟨_,rfl,.inr (by rw [← hg])⟩
    ·rw [it_f (by simp only [not_or] at c1; simp; omega)]
     rw [wzkc (z1.mono (by omega)),wzkc (z2.mono (by omega))]
     simp only [bd_s]
     by_cases c2:posB s.Floor=false∨posB s.Cap=false∨rq s.Cap < rq s.Floor
     ·right
      have he:serr (l.take k) s=1:=by unfold serr; rw [if_neg c1,if_pos c2]
      rw [he,if_neg (by omega)] at hg
      rw [wzle z1 z2 n1 n1 (by omega) (by omega)]
      refine ⟨.inr 1,?_,.inr (by rw [← hg])⟩
      cases p1:posB s.Floor
      ·rfl
      ·cases p2:posB s.Cap
       ·rfl
       ·have h3:rq s.Cap < rq s.Floor:=by simpa [p1,p2] using c2
        simp only [Bool.not_true,Bool.not_false,bd_s,cond_false]
        rw [it_f rfl,it_d (qzhv.2 h3)]
     ·simp only [not_or,Bool.not_eq_false] at c2
      obtain ⟨p1,p2,p3⟩:=c2
      rw [p1,p2]
      simp only [Bool.not_true,Bool.not_false,bd_s,cond_false,qzil]
      rw [wzle z1 z2 n1 n1 (by omega) (by omega)]
      simp only [bd_s]
      rw [it_n (fun h=>p3 (qzhv.1 h)),wzwj hk (by omega)]
      by_cases c3:∃ t,t∈l.take k∧t.State=s.State
      ·right
       have he:serr (l.take k) s=9:=by unfold serr; rw [if_neg c1,if_neg (by simp [p1,p2,p3]),if_pos c3]
       rw [he,if_neg (by omega)] at hg
       rw [if_pos c3]
       exact ⟨_,rfl,.inr (by rw [← hg])⟩
      ·left
       have he:serr (l.take k) s=0:=by unfold serr; rw [if_neg c1,if_neg (by simp [p1,p2,p3]),if_neg c3]
       rw [he,if_pos rfl] at hg
       rw [if_neg c3]
       simp only [bd_s]
       rw [qz3 (by omega)]
       exact ⟨_,rfl,⟨k+1,rfl,by omega,hg⟩,by omega⟩
   ·right
    rw [it_n (by omega)]
    rw [show k=l.length by omega,List.take_length,List.drop_length] at hg
    exact ⟨_,rfl,.inl ⟨rfl,hg.symm⟩⟩) ⟨0,rfl,by omega,rfl⟩ (by show l.length - (0:Int).toNat < _; omega)
  rw [e]
  rcases ho with ⟨rfl,h1⟩ | rfl
  ·rw [h1]; rfl
  ·rfl
def SOk (s:qzb):Prop:=(0≤s.State∧s.State < 8∧1≤s.Weight∧s.Weight≤1000000)∧Vd s.Floor∧0≤rq s.Floor∧Vd s.Cap∧0≤rq s.Cap∧rq s.Floor≤rq s.Cap
structure Good (l:List qzb):Prop where
 n1:1≤l.length
 n8:l.length≤8
 ok:∀ s,s∈l→SOk s
 nd:(l.map (·.State)).Nodup
theorem qzrv {pre:List qzb} {s:qzb}:serr pre s=0↔SOk s∧∀ t,t∈pre→t.State≠s.State:=by
 unfold serr SOk
 by_cases c1:s.State < 0∨8≤s.State∨s.Weight < 1∨1000000 < s.Weight
 ·rw [if_pos c1]
  constructor
  ·intro h; omega
  ·rintro ⟨⟨h,_⟩,_⟩; omega
 ·rw [if_neg c1]
  by_cases c2:posB s.Floor=false∨posB s.Cap=false∨rq s.Cap < rq s.Floor
  ·rw [if_pos c2]
   constructor
   ·intro h; omega
   ·rintro ⟨⟨_,h1,h2,h3,h4,h5⟩,_⟩
    have p1:=qzc5.2 ⟨h1,h2⟩
    have p2:=qzc5.2 ⟨h3,h4⟩
    rw [p1,p2] at c2
    rcases c2 with h | h | h
    ·cases h
    ·cases h
    ·grind
  ·rw [if_neg c2]
   simp only [not_or,Bool.not_eq_false] at c2
   obtain ⟨p1,p2,p3⟩:=c2
   obtain ⟨h1,h2⟩:=qzc5.1 p1
   obtain ⟨h3,h4⟩:=qzc5.1 p2
   by_cases c3:∃ t,t∈pre∧t.State=s.State
   ·rw [if_pos c3]
    constructor
    ·intro h; omega
    ·rintro ⟨_,h⟩
     obtain ⟨t,ht,e⟩:=c3
     exact absurd e (h t ht)
   ·rw [if_neg c3]
    refine ⟨fun _=>⟨⟨by omega,h1,h2,h3,h4,by grind⟩,fun t ht e=>c3 ⟨t,ht,e⟩⟩,fun _=>rfl⟩
theorem qztt:∀ {l pre:List qzb},sgo pre l=0↔(∀ s,s∈l→SOk s)∧(l.map (·.State)).Nodup∧∀ s,s∈l→∀ t,t∈pre→t.State≠s.State
 | [],pre=>by simp [sgo]
 | s :: l,pre=>by
  unfold sgo
  by_cases h:serr pre s=0
  ·rw [if_pos h,qztt (l:=l)]
   obtain ⟨h1,h2⟩:=qzrv.1 h
   simp only [List.map_cons,List.nodup_cons,List.mem_map,List.mem_cons,List.mem_append,List.mem_singleton]
   constructor
   ·rintro ⟨a,b,c⟩
    refine ⟨fun t ht=>?_,⟨?_,b⟩,fun t ht u hu=>?_⟩
    ·rcases ht with rfl | ht
     ·exact h1
     ·exact a t ht
    ·rintro ⟨t,ht,e⟩
     exact c t ht s (.inr (.inl rfl)) e.symm
    ·rcases ht with rfl | ht
     ·exact h2 u hu
     ·exact c t ht u (.inl hu)
   ·rintro ⟨a,⟨b,b2⟩,c⟩
    refine ⟨fun t ht=>a t (.inr ht),b2,fun t ht u hu=>?_⟩
    rcases hu with hu | hu | hu
    ·exact c t (.inr ht) u hu
    ·subst hu
     intro e
     exact b ⟨t,ht,e.symm⟩
    ·cases hu
  ·rw [if_neg h]
   constructor
   ·intro h'; exact absurd h' h
   ·rintro ⟨a,_,c⟩
    exact absurd (qzrv.2 ⟨a s List.mem_cons_self,c s List.mem_cons_self⟩) h
theorem qzo6 {l:List qzb}:chkS l=0↔Good l:=by
 unfold chkS
 by_cases hb:l.length < 1∨8 < l.length
 ·rw [if_pos hb]
  constructor
  ·intro h; omega
  ·intro h; have:=h.n1; have:=h.n8; omega
 ·rw [if_neg hb,qztt]
  constructor
  ·rintro ⟨a,b,_⟩; exact ⟨by omega,by omega,a,b⟩
  ·intro h; exact ⟨h.ok,h.nd,fun s _ t ht=>by cases ht⟩
theorem Good.all {l:List qzb} (h:Good l):vzr (l.map shq):=fun s hs=>by
 obtain ⟨t,ht,rfl⟩:=List.mem_map.1 hs
 obtain ⟨⟨_,_,h1,_⟩,_,h2,_,_,h3⟩:=h.ok t ht
 exact ⟨h1,h2,h3⟩
theorem Good.sg {n:Nat} {l:List qzb} (h:Good l) (hf:Few n l):SGs n l:=fun s hs=>⟨(hf s hs).1,(hf s hs).2,(h.ok s hs).1.2.2.1,(h.ok s hs).1.2.2.2⟩
theorem Good.ne {l:List qzb} (h:Good l):l≠[]:=fun e=>by have:=h.n1; rw [e] at this; simp at this
end Go.Am

set_option linter.unusedVariables false
set_option linter.unusedSimpArgs false
namespace Go.Am
noncomputable def chk2 (l:List qzb) (a:qza):Int:=if chkS l=0 then (if posB a=true then 0 else 1) else chkS l
theorem qzgd {l:List qzb} {a:qza}:chk2 l a=0↔Good l∧Vd a∧0≤rq a:=by
 unfold chk2
 by_cases h:chkS l=0
 ·rw [if_pos h,← qzo6]
  by_cases hp:posB a=true
  ·rw [if_pos hp]
   exact ⟨fun _=>⟨h,qzc5.1 hp⟩,fun _=>rfl⟩
  ·rw [if_neg hp]
   exact ⟨fun h=>by omega,fun h=>absurd (qzc5.2 h.2) hp⟩
 ·rw [if_neg h,← qzo6]
  exact ⟨fun h'=>absurd h' h,fun h'=>absurd h'.1 h⟩
section
variable {n m:Nat} {l:List qzb}
theorem qzue {a:qza} (hf:Few n l) (ha:Sz m a) (n1:1≤n) (hn:n≤1000000) (hm:m≤1000000):yzg l a=some (chk2 l a):=by
 unfold yzg chk2
 rw [qzuh hf n1 hn,qzi9 (ha.mono (by omega))]
 simp only [bd_s]
 by_cases h:chkS l=0
 ·rw [qzk5 h,if_pos h]
  by_cases hp:posB a=true
  ·rw [hp,if_pos rfl]; rfl
  ·rw [if_neg hp,it_t (by simp [hp])]
 ·rw [qzhj h,if_neg h]
theorem wzsi {a:qza} (hf:Few n l) (ha:Sz m a) (n1:1≤n) (hn:n≤1000000) (hm:m≤1000000):wzkt l a=some (chk2 l a):=by
 unfold wzkt chk2
 rw [wzs7 hf n1 hn,wzkc (ha.mono (by omega))]
 simp only [bd_s]
 by_cases h:chkS l=0
 ·rw [qzk5 h,if_pos h]
  by_cases hp:posB a=true
  ·rw [hp,if_pos rfl]; rfl
  ·rw [if_neg hp,it_t (by simp [hp])]
 ·rw [qzhj h,if_neg h]
theorem wzxp {a:qza} (hs:SGs n l) (ha:Sz m a) (hl:l.length≤10) (n1:1≤n) (m1:1≤m) (hn:n≤1000000) (hm:m≤1000000):wzw0 l a=some (pts (rq a) l):=by
 unfold wzw0
 have key:lp (wzxn l a) (0,[])=some (pts (rq a) l):=by
  refine qznm (fun s=>∃ k:Nat,s=((k:Int),pts (rq a) (l.take k))∧k≤l.length) (fun s=>l.length - s.1.toNat) _ ?_ ⟨0,rfl,by omega⟩ (by dsimp only; omega)
  rintro s ⟨k,rfl,hk⟩
  simp only [wzxn]
  by_cases h0:k < l.length
  ·left
   have hx:l[k]?=some l[k]:=List.getElem?_eq_getElem h0
   obtain ⟨h1,h2,h3,h4⟩:=hs _ (List.getElem_mem h0)
   have i2:=(qzrp (n:=l[k].Weight) (by omega) (by omega)).2
   have j2:=(qzi5 ha i2 m1 (by omega) (by omega) (by omega)).2
   rw [qzs] at j2
   have k2:=(qzrt j2 h1 (by omega) n1 (by omega) (by omega)).2
   rw [qzs] at k2
   rw [it_d (by omega),at_e (n:=k) rfl hx]
   simp only [bd_s]
   rw [wzqg (by omega) (by omega)]
   simp only [bd_s]
   rw [wzqm ha i2 m1 (by omega) (by omega) (by omega),qzs]
   simp only [bd_s]
   rw [wzyv j2 h1 (by omega) n1 (by omega) (by omega),qzs]
   simp only [bd_s]
   rw [wzyu k2 h2 (by omega) n1 (by omega) (by omega),qzs]
   simp only [bd_s]
   rw [ck_d (by simp only [pts,List.length_append,List.length_map,List.length_take,List.length_singleton]; omega),qz3 (by omega)]
   refine ⟨_,rfl,⟨k+1,?_,by omega⟩,by dsimp only; omega⟩
   unfold pts
   rw [qzha hx]
   rfl
  ·right
   rw [it_n (by omega),show k=l.length by omega,List.take_length]
 rw [key]; rfl
theorem wzxu {a:qza} (hs:SGs n l) (ha:Sz m a) (hl:l.length≤10) (n1:1≤n) (m1:1≤m) (hn:n≤100000) (hm:m≤100000):wzka (pts (rq a) l)=some (rof (tot (rq a) (l.map shq))):=by
 have:=wzqp (qz04 hs ha n1 m1 (by omega) (by omega)) (by omega) (by omega) (show (pts (rq a) l).length≤10 by unfold pts; rw [List.length_map]; exact hl) (by omega)
 rw [wzfo] at this
 exact this
theorem wzrt (hl:l.length≤1000):wzkg l=some (l.map (·.Floor),l.map (·.Cap)):=by
 unfold wzkg
 have key:lp (wzkk l) (0,[],[])=some (l.map (·.Floor),l.map (·.Cap)):=by
  refine qznm (fun s=>∃ k:Nat,s=((k:Int),(l.take k).map (·.Floor),(l.take k).map (·.Cap))∧k≤l.length) (fun s=>l.length - s.1.toNat) _ ?_ ⟨0,rfl,by omega⟩ (by dsimp only; omega)
  rintro s ⟨k,rfl,hk⟩
  simp only [wzkk]
  by_cases h0:k < l.length
  ·left
   have hx:l[k]?=some l[k]:=List.getElem?_eq_getElem h0
   rw [it_d (by omega),at_e (n:=k) rfl hx]
   simp only [bd_s]
   rw [ck_d (by simp only [List.length_append,List.length_map,List.length_take,List.length_singleton]; omega),ck_d (by simp only [List.length_append,List.length_map,List.length_take,List.length_singleton]; omega),qz3 (by omega)]
   refine ⟨_,rfl,⟨k+1,?_,by omega⟩,by dsimp only; omega⟩
   rw [qzha hx,qzha hx]
   rfl
  ·right
   rw [it_n (by omega),show k=l.length by omega,List.take_length]
 rw [key]; rfl
theorem wzvh:flo (l.map shq)=sQ ((l.map (·.Floor)).map rq):=by unfold flo; rw [List.map_map,List.map_map]; rfl
theorem wzzc:cap (l.map shq)=sQ ((l.map (·.Cap)).map rq):=by unfold cap; rw [List.map_map,List.map_map]; rfl
theorem wzvk (hf:Few n l) (hl:l.length≤10) (n1:1≤n) (hn:n≤100000):wzka (l.map (·.Floor))=some (rof (flo (l.map shq))):=by
 rw [wzqp (L:=10) (n:=n) (fun b hb=>by obtain ⟨s,h,rfl⟩:=List.mem_map.1 hb; exact (hf s h).1) n1 (by omega) (by rw [List.length_map]; exact hl) (by omega),wzvh]
theorem wzx7 (hf:Few n l) (hl:l.length≤10) (n1:1≤n) (hn:n≤100000):wzka (l.map (·.Cap))=some (rof (cap (l.map shq))):=by
 rw [wzqp (L:=10) (n:=n) (fun b hb=>by obtain ⟨s,h,rfl⟩:=List.mem_map.1 hb; exact (hf s h).2) n1 (by omega) (by rw [List.length_map]; exact hl) (by omega),wzzc]
theorem wzn8 {a b:qza} {k:Nat} (ha:Sz k a) (hb:Sz m b) (h0:rq b≠0) (n1:1≤k) (m1:1≤m) (hn:k≤33554432) (hm:m≤33554432):wzi2 a b=some (rof (rq a / rq b)):=by
 unfold wzi2
 rw [wztr ha hb h0 n1 m1 hn hm]; rfl
theorem wzym (hs:SGs n l) (hl:l.length≤10) (n1:1≤n) (hn:n≤1000000):lp (wzw5 l) (0,[])=some ((jzm (l.map shq)).map rof):=by
 refine qznm (fun s=>∃ k:Nat,s=((k:Int),(jzm ((l.take k).map shq)).map rof)∧k≤l.length) (fun s=>l.length - s.1.toNat) _ ?_ ⟨0,rfl,by omega⟩ (by dsimp only; omega)
 rintro s ⟨k,rfl,hk⟩
 simp only [wzw5]
 by_cases h0:k < l.length
 ·left
  have hx:l[k]?=some l[k]:=List.getElem?_eq_getElem h0
  obtain ⟨h1,h2,h3,h4⟩:=hs _ (List.getElem_mem h0)
  have i2:=(qzrp (n:=l[k].Weight) (by omega) (by omega)).2
  have hw:rq (rof (l[k].Weight:Rat))≠0:=by
   rw [qzs]
   intro h
   have:=Rat.intCast_eq_zero_iff.1 h
   omega
  rw [it_d (by omega),at_e (n:=k) rfl hx]
  simp only [bd_s]
  rw [wzqg (by omega) (by omega)]
  simp only [bd_s]
  rw [wzn8 h1 i2 hw n1 (by omega) (by omega) (by omega),wzn8 h2 i2 hw n1 (by omega) (by omega) (by omega),qzs]
  simp only [bd_s]
  rw [ck_d (by simp only [List.length_append,List.length_map,qzrl,List.length_take,List.length_cons,List.length_nil]; omega),qz3 (by omega)]
  refine ⟨_,rfl,⟨k+1,?_,by omega⟩,by dsimp only; omega⟩
  rw [qzha hx,qztm,List.map_append]
  rfl
 ·right
  rw [it_n (by omega),show k=l.length by omega,List.take_length]
theorem wzx0:∀ a b:List Int,sI (a++b)=sI a+sI b
 | [],b=>by simp [sI]
 | x :: a,b=>by
  show x+sI (a++b)=x+sI a+sI b
  rw [wzx0 a b]; omega
theorem wzx1 (a:Rat):∀ {l:List Shr},(∀ s,s∈l→1≤s.w∧s.w≤1000000)→0≤slT a l∧slT a l≤1000000*l.length
 | [],_=>by simp [slT,sI]
 | s :: l,h=>by
  have h1:=h s List.mem_cons_self
  have h2:=wzx1 a (l:=l) fun t ht=>h t (List.mem_cons_of_mem _ ht)
  have h3:0≤slI a s∧slI a s≤1000000:=by unfold slI; split<;>omega
  have e:slT a (s :: l)=slI a s+slT a l:=rfl
  rw [e,List.length_cons]
  omega
theorem SGs.w (hs:SGs n l):∀ s,s∈l.map shq→1≤s.w∧s.w≤1000000:=fun s h=>by
 obtain ⟨t,ht,rfl⟩:=List.mem_map.1 h
 exact ⟨(hs t ht).2.2.1,(hs t ht).2.2.2⟩
theorem wzyw {a:qza} (hs:SGs n l) (ha:Sz m a) (hl:l.length≤10) (n1:1≤n) (m1:1≤m) (hn:n≤1000000) (hm:m≤1000000):wzxc l a=some (slT (rq a) (l.map shq)):=by
 unfold wzxc
 have key:lp (wzxh l a) (0,0)=some (slT (rq a) (l.map shq)):=by
  refine qznm (fun s=>∃ k:Nat,s=(slT (rq a) ((l.take k).map shq),(k:Int))∧k≤l.length) (fun s=>l.length - s.2.toNat) _ ?_ ⟨0,rfl,by omega⟩ (by dsimp only; omega)
  rintro s ⟨k,rfl,hk⟩
  simp only [wzxh]
  by_cases h0:k < l.length
  ·left
   have hx:l[k]?=some l[k]:=List.getElem?_eq_getElem h0
   have hst:slT (rq a) ((l.take (k+1)).map shq)=slT (rq a) ((l.take k).map shq)+slI (rq a) (shq l[k]):=by
    unfold slT
    rw [qzha hx,List.map_append,wzx0]
    simp [sI]
   have hb:=wzx1 (rq a) (l:=(l.take k).map shq) (fun s h=>SGs.w (n:=n) hs s (by
    obtain ⟨t,ht,rfl⟩:=List.mem_map.1 h
    exact List.mem_map_of_mem (List.mem_of_mem_take ht)))
   rw [List.length_map,List.length_take] at hb
   obtain ⟨h1,h2,h3,h4⟩:=hs _ (List.getElem_mem h0)
   generalize l[k]=s at *
   have i2:=(qzrp (n:=s.Weight) (by omega) (by omega)).2
   have j2:=(qzi5 ha i2 m1 (by omega) (by omega) (by omega)).2
   rw [qzs] at j2
   rw [it_d (by omega),at_e (n:=k) rfl hx]
   simp only [bd_s]
   rw [wzqg (by omega) (by omega)]
   simp only [bd_s]
   rw [wzqm ha i2 m1 (by omega) (by omega) (by omega),qzs]
   simp only [bd_s]
   rw [wzle j2 h1 (by omega) n1 (by omega) (by omega),qzs]
   simp only [bd_s]
   have hs':(shq s).w=s.Weight∧(shq s).fl=rq s.Floor∧(shq s).cp=rq s.Cap:=⟨rfl,rfl,rfl⟩
   by_cases c1:rq s.Floor≤rq a*(s.Weight:Rat)
   ·rw [decide_eq_true (wzxb.2 c1)]
    simp only [qzbx,bd_s,cond_true]
    rw [wzle j2 h2 (by omega) n1 (by omega) (by omega),qzs]
    simp only [bd_s]
    by_cases c2:rq a*(s.Weight:Rat) < rq s.Cap
    ·have he:slI (rq a) (shq s)=s.Weight:=by unfold slI; rw [if_pos ⟨c1,c2⟩]; rfl
     rw [it_d (qzvu.2 c2),qz3 (by omega),qz3 (by omega)]
     exact ⟨_,rfl,⟨k+1,by rw [hst,he]; rfl,by omega⟩,by dsimp only; omega⟩
    ·have he:slI (rq a) (shq s)=0:=by unfold slI; rw [if_neg (fun h=>c2 h.2)]
     rw [it_n (fun h=>c2 (qzvu.1 h)),qz3 (by omega)]
     exact ⟨_,rfl,⟨k+1,by rw [hst,he]; simp,by omega⟩,by dsimp only; omega⟩
   ·have he:slI (rq a) (shq s)=0:=by unfold slI; rw [if_neg (fun h=>c1 h.1)]
    rw [decide_eq_false (fun h=>c1 (wzxb.1 h))]
    simp only [wzcn,bd_s,cond_false,qzil]
    rw [qz3 (by omega)]
    exact ⟨_,rfl,⟨k+1,by rw [hst,he]; simp,by omega⟩,by dsimp only; omega⟩
  ·right
   rw [it_n (by omega),show k=l.length by omega,List.take_length]
 rw [key]; rfl
end
end Go.Am

set_option linter.unusedVariables false
set_option linter.unusedSimpArgs false
namespace Go.Am
section
variable {n m:Nat} {l:List qzb}
abbrev Inv (L:List Shr) (f:Rat) (P:Rat→Prop) (sm:Bool) (b:Rat):Prop:=(sm=true→Cand L f b∧Sz 50000 (rof b))∧∀ c,P c→sm=true∧b≤c
def C2 (L:List Shr) (f a c:Rat):Prop:=tot a L < f∧slT a L≠0∧c=a+(f - tot a L) / ((slT a L:Int):Rat)∧tot c L=f
theorem wzxz {flow:qza} (hs:SGs n l) (hok:vzr (l.map shq)) (hf:Sz n flow) (hv:Vd flow) (n1:1≤n) (hn:n≤1000) (hl:l.length≤10) {x0:Rat} (hx0:yzo (l.map shq) (rq flow) x0):wzw3 l flow=some (rof x0):=by
 unfold wzw3
 rw [wzym hs hl n1 (by omega)]
 simp only [bd_s]
 have hz:Sz 1 (⟨false,[],[]⟩:qza):=Sz.zero 1
 have ez:rq (⟨false,[],[]⟩:qza)=0:=qzs 0
 have t0:=qz24 hs hz hl n1 (by omega) (by omega) (by omega)
 rw [ez] at t0
 have r0:=wzxp hs hz hl n1 (by omega) (by omega) (by omega)
 have q0:=wzxu hs hz hl n1 (by omega) (by omega) (by omega)
 rw [ez] at r0 q0
 rw [r0]
 simp only [bd_s]
 rw [q0]
 simp only [bd_s]
 rw [wzle t0.2 hf (by omega) n1 (by omega) (by omega),qzs]
 simp only [bd_s]
 by_cases c0:rq flow≤tot 0 (l.map shq)
 ·rw [it_d (wzxb.2 c0)]
  rw [hx0.uniq (qz3q c0)]; rfl
 rw [it_n (fun h=>c0 (wzxb.1 h))]
 have hlt0:tot 0 (l.map shq) < rq flow:=by grind
 have hes:∀ q,q∈jzm (l.map shq)→Sz (n+9) (rof q):=fun q hq=>by
  obtain ⟨s,hs',hq⟩:=qzef.1 hq
  obtain ⟨t,ht,rfl⟩:=List.mem_map.1 hs'
  obtain ⟨_,_,_,h4,h5⟩:=qzvk (hs t ht) n1 (by omega)
  rcases hq with rfl | rfl
  ·exact h4
  ·exact h5
 have hlen:(jzm (l.map shq)).length≤20:=by rw [qzrl,List.length_map]; omega
 have hcand:∀ c,Cand (l.map shq) (rq flow) c↔((∃ i:Nat,i < (jzm (l.map shq)).length∧∃ a,(jzm (l.map shq))[i]?=some a∧C2 (l.map shq) (rq flow) a c)∨(c∈jzm (l.map shq)∧rq flow≤tot c (l.map shq))):=fun c=>by
  unfold Cand C2
  constructor
  ·rintro (h | ⟨a,ha,h⟩)
   ·exact .inr h
   ·obtain ⟨i,hi,e⟩:=List.mem_iff_getElem.1 ha
    exact .inl ⟨i,hi,a,by rw [List.getElem?_eq_getElem hi,e],h⟩
  ·rintro (⟨i,hi,a,ha,h⟩ | h)
   ·exact .inr ⟨a,List.mem_of_getElem? ha,h⟩
   ·exact .inl h
 have hmem:∀ i x,(jzm (l.map shq))[i]?=some x→x∈jzm (l.map shq):=fun i x h=>List.mem_of_getElem? h
 have hslw:∀ a,0≤slT a (l.map shq)∧slT a (l.map shq)≤1000000*l.length:=fun a=>by
  have:=wzx1 a (SGs.w hs)
  rwa [List.length_map] at this
 generalize hE:jzm (l.map shq)=es at *
 obtain ⟨⟨sm,b'⟩,e,b,hb,hi1⟩:=vzf (s:=(false,0,(⟨false,[],[]⟩:qza))) (body:=wzw4 flow l (es.map rof)) (fun s=>∃ (sm:Bool) (k:Nat) (b:Rat),s=(sm,(k:Int),rof b)∧k≤es.length∧Inv (l.map shq) (rq flow) (fun c=>∃ i:Nat,i < k∧∃ a,es[i]?=some a∧C2 (l.map shq) (rq flow) a c) sm b) (fun s=>es.length - s.2.1.toNat) (fun o=>∃ b,o.2=rof b∧Inv (l.map shq) (rq flow) (fun c=>∃ i:Nat,i < es.length∧∃ a,es[i]?=some a∧C2 (l.map shq) (rq flow) a c) o.1 b) (by
  rintro s ⟨sm,k,b,rfl,hk,hi1,hi2⟩
  simp only [wzw4,List.length_map]
  by_cases h0:k < es.length
  ·left
   have hx:es[k]?=some es[k]:=List.getElem?_eq_getElem h0
   have ha:=hmem k _ hx
   have has:=hes _ ha
   generalize es[k]=a at *
   have hxm:(es.map rof)[k]?=some (rof a):=by rw [List.getElem?_map,hx]; rfl
   have t1:=(qz24 hs has hl n1 (by omega) (by omega) (by omega)).2
   have r1:=wzxp hs has hl n1 (by omega) (by omega) (by omega)
   have q1:=wzxu hs has hl n1 (by omega) (by omega) (by omega)
   have f1:=wzyw hs has hl n1 (by omega) (by omega) (by omega)
   rw [qzs] at t1 r1 q1 f1
   rw [it_d (by omega),at_e (n:=k) rfl hxm]
   simp only [bd_s]
   rw [r1,f1]
   simp only [bd_s]
   rw [q1]
   simp only [bd_s]
   rw [wzle t1 hf (by omega) n1 (by omega) (by omega),qzs]
   simp only [bd_s]
   have hw:=hslw a
   have hskip:(¬ ∃ c,C2 (l.map shq) (rq flow) a c)→Inv (l.map shq) (rq flow) (fun c=>∃ i:Nat,i < k+1∧∃ a,es[i]?=some a∧C2 (l.map shq) (rq flow) a c) sm b:=fun hno=>⟨hi1,fun c ⟨i,hi,a',ha',hc⟩=>by
    rcases Nat.lt_or_ge i k with h' | h'
    ·exact hi2 c ⟨i,h',a',ha',hc⟩
    ·have:i=k:=by omega
     subst this
     rw [hx] at ha'
     cases ha'
     exact absurd ⟨c,hc⟩ hno⟩
   by_cases c1:rq flow≤tot a (l.map shq)
   ·rw [it_d (wzxb.2 c1)]
    simp only [bd_s]
    rw [qz3 (by omega)]
    exact ⟨_,rfl,⟨sm,k+1,b,rfl,by omega,hskip (by rintro ⟨c,h1,_⟩; grind)⟩,by dsimp only; omega⟩
   ·rw [it_n (fun h=>c1 (wzxb.1 h))]
    simp only [bd_s]
    by_cases c2:slT a (l.map shq)=0
    ·rw [it_d c2]
     simp only [bd_s]
     rw [qz3 (by omega)]
     exact ⟨_,rfl,⟨sm,k+1,b,rfl,by omega,hskip (by rintro ⟨c,_,h2,_⟩; exact h2 c2)⟩,by dsimp only; omega⟩
    ·rw [it_n c2]
     simp only [bd_s]
     have i2:=(qzrp (n:=slT a (l.map shq)) (by omega) (by omega)).2
     have hw0:rq (rof ((slT a (l.map shq):Int):Rat))≠0:=by
      rw [qzs]
      intro h
      exact c2 (Rat.intCast_eq_zero_iff.1 h)
     have s2:=(qzg8 hf t1 n1 (by omega) (by omega) (by omega)).2
     rw [qzs] at s2
     have d2:=(qzy9 s2 i2 hw0 (by omega) (by omega) (by omega) (by omega)).2
     rw [qzs,qzs] at d2
     have a2:=(qziy has d2 (by omega) (by omega) (by omega) (by omega)).2
     rw [qzs,qzs] at a2
     rw [wzt2 hf t1 n1 (by omega) (by omega) (by omega),qzs]
     simp only [bd_s]
     rw [wzqg (by omega) (by omega)]
     simp only [bd_s]
     rw [wzn8 s2 i2 hw0 (by omega) (by omega) (by omega) (by omega),qzs,qzs]
     simp only [bd_s]
     rw [wzod has d2 (by omega) (by omega) (by omega) (by omega),qzs,qzs]
     simp only [bd_s]
     generalize hmo:a+(rq flow - tot a (l.map shq)) / ((slT a (l.map shq):Int):Rat)=mo at *
     have hmoS:Sz 50000 (rof mo):=a2.mono (by omega)
     have r3:=wzxp hs hmoS hl n1 (by omega) (by omega) (by omega)
     have q3:=wzxu hs hmoS hl n1 (by omega) (by omega) (by omega)
     rw [qzs] at r3 q3
     rw [r3]
     simp only [bd_s]
     rw [q3]
     simp only [bd_s]
     rw [eqR]
     by_cases c3:tot mo (l.map shq)=rq flow
     ·have hC:C2 (l.map shq) (rq flow) a mo:=⟨by grind,c2,hmo.symm,c3⟩
      have hCd:Cand (l.map shq) (rq flow) mo:=(hcand mo).2 (.inl ⟨k,h0,a,hx,hC⟩)
      have huniq:∀ c,C2 (l.map shq) (rq flow) a c→c=mo:=fun c h=>by rw [h.2.2.1,hmo]
      rw [decide_eq_true (show rof (tot mo (l.map shq))=flow by rw [c3]; exact qzyo hv)]
      cases sm
      ·simp only [Bool.not_false,Bool.not_true,Bool.and_false,wzcn,bd_s,cond_true,wzdh]
       rw [qz3 (by omega)]
       refine ⟨_,rfl,⟨true,k+1,mo,rfl,by omega,fun _=>⟨hCd,hmoS⟩,fun c ⟨i,hi,a',ha',hc⟩=>⟨rfl,?_⟩⟩,by dsimp only; omega⟩
       rcases Nat.lt_or_ge i k with h' | h'
       ·have:=(hi2 c ⟨i,h',a',ha',hc⟩).1; cases this
       ·have:i=k:=by omega
        subst this
        rw [hx] at ha'
        cases ha'
        rw [huniq c hc]; exact Rat.le_refl
      ·obtain ⟨hb1,hb2⟩:=hi1 rfl
       simp only [Bool.not_true,Bool.not_false,Bool.and_true,qzbx,cond_true,cond_false]
       rw [wzle hmoS hb2 (by omega) (by omega) (by omega) (by omega),qzs,qzs]
       simp only [bd_s]
       by_cases c4:mo < b
       ·rw [it_d (qzvu.2 c4),qz3 (by omega)]
        refine ⟨_,rfl,⟨true,k+1,mo,rfl,by omega,fun _=>⟨hCd,hmoS⟩,fun c ⟨i,hi,a',ha',hc⟩=>⟨rfl,?_⟩⟩,by dsimp only; omega⟩
        rcases Nat.lt_or_ge i k with h' | h'
        ·have:=(hi2 c ⟨i,h',a',ha',hc⟩).2; grind
        ·have:i=k:=by omega
         subst this
         rw [hx] at ha'
         cases ha'
         rw [huniq c hc]; exact Rat.le_refl
       ·rw [it_n (fun h=>c4 (qzvu.1 h)),qz3 (by omega)]
        refine ⟨_,rfl,⟨true,k+1,b,rfl,by omega,fun _=>⟨hb1,hb2⟩,fun c ⟨i,hi,a',ha',hc⟩=>⟨rfl,?_⟩⟩,by dsimp only; omega⟩
        rcases Nat.lt_or_ge i k with h' | h'
        ·exact (hi2 c ⟨i,h',a',ha',hc⟩).2
        ·have:i=k:=by omega
         subst this
         rw [hx] at ha'
         cases ha'
         rw [huniq c hc]; grind
     ·have hf3:decide (rof (tot mo (l.map shq))=flow)=false:=decide_eq_false (fun h=>c3 (by rw [← qzs (tot mo (l.map shq)),h]))
      rw [hf3]
      have hno:¬ ∃ c,C2 (l.map shq) (rq flow) a c:=by
       rintro ⟨c,h1,h2,h3,h4⟩
       rw [hmo] at h3
       rw [h3] at h4
       exact c3 h4
      cases sm
      ·simp only [Bool.not_false,Bool.not_true,wzcn,bd_s,cond_false,qzil]
       rw [qz3 (by omega)]
       exact ⟨_,rfl,⟨false,k+1,b,rfl,by omega,hskip hno⟩,by dsimp only; omega⟩
      ·obtain ⟨hb1,hb2⟩:=hi1 rfl
       simp only [Bool.not_true,Bool.not_false,qzbx,cond_false]
       rw [wzle hmoS hb2 (by omega) (by omega) (by omega) (by omega)]
       simp only [bd_s,qzil]
       rw [qz3 (by omega)]
       exact ⟨_,rfl,⟨true,k+1,b,rfl,by omega,hskip hno⟩,by dsimp only; omega⟩
  ·right
   rw [it_n (by omega)]
   refine ⟨_,rfl,b,rfl,hi1,?_⟩
   rw [show k=es.length by omega] at hi2
   exact hi2) ⟨false,0,0,rfl,by omega,⟨(fun h=>Bool.noConfusion h),fun c ⟨i,hi,_⟩=>by omega⟩⟩ (by dsimp only; omega)
 dsimp only at hb hi1
 subst hb
 rw [e]
 simp only [bd_s]
 obtain ⟨o,e2,b2,hb2,sm2,hi2⟩:=vzf (s:=(sm,0,rof b)) (body:=wzw6 flow l (es.map rof)) (fun s=>∃ (sm:Bool) (k:Nat) (b:Rat),s=(sm,(k:Int),rof b)∧k≤es.length∧Inv (l.map shq) (rq flow) (fun c=>(∃ i:Nat,i < es.length∧∃ a,es[i]?=some a∧C2 (l.map shq) (rq flow) a c)∨(∃ i:Nat,i < k∧es[i]?=some c∧rq flow≤tot c (l.map shq))) sm b) (fun s=>es.length - s.2.1.toNat) (fun o=>∃ b,o=rof b∧∃ sm,Inv (l.map shq) (rq flow) (fun c=>(∃ i:Nat,i < es.length∧∃ a,es[i]?=some a∧C2 (l.map shq) (rq flow) a c)∨(∃ i:Nat,i < es.length∧es[i]?=some c∧rq flow≤tot c (l.map shq))) sm b) (by
  rintro s ⟨sm,k,b,rfl,hk,hi1,hi2⟩
  simp only [wzw6,List.length_map]
  by_cases h0:k < es.length
  ·left
   have hx:es[k]?=some es[k]:=List.getElem?_eq_getElem h0
   have ha:=hmem k _ hx
   have has:=hes _ ha
   generalize es[k]=a at *
   have hxm:(es.map rof)[k]?=some (rof a):=by rw [List.getElem?_map,hx]; rfl
   have t1:=(qz24 hs has hl n1 (by omega) (by omega) (by omega)).2
   have r1:=wzxp hs has hl n1 (by omega) (by omega) (by omega)
   have q1:=wzxu hs has hl n1 (by omega) (by omega) (by omega)
   rw [qzs] at t1 r1 q1
   rw [it_d (by omega),at_e (n:=k) rfl hxm]
   simp only [bd_s]
   rw [r1]
   simp only [bd_s]
   rw [q1]
   simp only [bd_s]
   rw [wzle t1 hf (by omega) n1 (by omega) (by omega),qzs]
   simp only [bd_s]
   have hkeep:(rq flow≤tot a (l.map shq)→sm=true∧b≤a)→Inv (l.map shq) (rq flow) (fun c=>(∃ i:Nat,i < es.length∧∃ a,es[i]?=some a∧C2 (l.map shq) (rq flow) a c)∨(∃ i:Nat,i < k+1∧es[i]?=some c∧rq flow≤tot c (l.map shq))) sm b:=fun hno=>⟨hi1,fun c hc=>by
    rcases hc with hc | ⟨i,hi,ha',hc⟩
    ·exact hi2 c (.inl hc)
    ·rcases Nat.lt_or_ge i k with h' | h'
     ·exact hi2 c (.inr ⟨i,h',ha',hc⟩)
     ·have:i=k:=by omega
      subst this
      rw [hx] at ha'
      cases ha'
      exact hno hc⟩
   have htake:rq flow≤tot a (l.map shq)→(sm=true→a≤b)→Inv (l.map shq) (rq flow) (fun c=>(∃ i:Nat,i < es.length∧∃ a,es[i]?=some a∧C2 (l.map shq) (rq flow) a c)∨(∃ i:Nat,i < k+1∧es[i]?=some c∧rq flow≤tot c (l.map shq))) true a:=fun hc1 hab=>⟨fun _=>⟨(hcand a).2 (.inr ⟨ha,hc1⟩),has.mono (by omega)⟩,fun c hc=>⟨rfl,by
    rcases hc with hc | ⟨i,hi,ha',hc⟩
    ·obtain ⟨g1,g2⟩:=hi2 c (.inl hc)
     have:=hab g1
     grind
    ·rcases Nat.lt_or_ge i k with h' | h'
     ·obtain ⟨g1,g2⟩:=hi2 c (.inr ⟨i,h',ha',hc⟩)
      have:=hab g1
      grind
     ·have:i=k:=by omega
      subst this
      rw [hx] at ha'
      cases ha'
      exact Rat.le_refl⟩⟩
   cases sm
   ·simp only [Bool.not_false,Bool.not_true,Bool.and_false,wzcn,bd_s,cond_true]
    by_cases c1:rq flow≤tot a (l.map shq)
    ·rw [decide_eq_true (wzxb.2 c1)]
     simp only [cond_true,wzdh,bd_s]
     rw [qz3 (by omega)]
     exact ⟨_,rfl,⟨true,k+1,a,rfl,by omega,htake c1 (fun h=>by cases h)⟩,by dsimp only; omega⟩
    ·rw [decide_eq_false (fun h=>c1 (wzxb.1 h))]
     simp only [cond_false,qzil]
     rw [qz3 (by omega)]
     exact ⟨_,rfl,⟨false,k+1,b,rfl,by omega,hkeep (fun h=>absurd h c1)⟩,by dsimp only; omega⟩
   ·obtain ⟨hb1,hb2⟩:=hi1 rfl
    by_cases c1:rq flow≤tot a (l.map shq)
    ·rw [decide_eq_true (wzxb.2 c1)]
     simp only [Bool.not_true,Bool.not_false,Bool.and_true,qzbx,bd_s,cond_true,cond_false]
     rw [wzle has hb2 (by omega) (by omega) (by omega) (by omega),qzs,qzs]
     simp only [bd_s]
     by_cases c4:a < b
     ·rw [it_d (qzvu.2 c4),qz3 (by omega)]
      exact ⟨_,rfl,⟨true,k+1,a,rfl,by omega,htake c1 (fun _=>by grind)⟩,by dsimp only; omega⟩
     ·rw [it_n (fun h=>c4 (qzvu.1 h)),qz3 (by omega)]
      exact ⟨_,rfl,⟨true,k+1,b,rfl,by omega,hkeep (fun _=>⟨rfl,by grind⟩)⟩,by dsimp only; omega⟩
    ·rw [decide_eq_false (fun h=>c1 (wzxb.1 h))]
     simp only [Bool.false_and,wzcn,bd_s,cond_false,qzil]
     rw [qz3 (by omega)]
     exact ⟨_,rfl,⟨true,k+1,b,rfl,by omega,hkeep (fun h=>absurd h c1)⟩,by dsimp only; omega⟩
  ·right
   rw [it_n (by omega)]
   rw [show k=es.length by omega] at hi2
   exact ⟨_,rfl,b,rfl,sm,hi1,hi2⟩) ⟨sm,0,b,rfl,by omega,⟨hi1.1,fun c hc=>by
    rcases hc with hc | ⟨i,hi,_⟩
    ·exact hi1.2 c hc
    ·omega⟩⟩ (by dsimp only; omega)
 rw [e2]
 subst hb2
 obtain ⟨g1,g2⟩:=hi2
 have hall:∀ c,Cand (l.map shq) (rq flow) c→sm2=true∧b2≤c:=fun c hc=>by
  rcases (hcand c).1 hc with h | ⟨h1,h2⟩
  ·exact g2 c (.inl h)
  ·obtain ⟨i,hi,e⟩:=List.mem_iff_getElem.1 h1
   exact g2 c (.inr ⟨i,hi,by rw [List.getElem?_eq_getElem hi,e],h2⟩)
 have hsm:=(hall x0 (by have:=wzx3 hok hx0 hlt0; exact this)).1
 have:=wzya hok hx0 hlt0 (g1 hsm).1 (fun d hd=>(hall d hd).2)
 rw [this]; rfl
end
open Classical in
noncomputable def lev (L:List Shr) (f:Rat):Rat:=if h:∃ x,yzo L f x then h.choose else 0
theorem wzfd {L:List Shr} {f x:Rat} (h:yzo L f x):lev L f=x:=by
 unfold lev
 rw [dif_pos ⟨x,h⟩]
 exact (Exists.choose_spec (⟨x,h⟩:∃ x,yzo L f x)).uniq h
noncomputable def dvP (L:List Shr) (f:Rat):List Rat:=if f < flo L then L.map (fun s=>s.fl*(f / flo L)) else if cap L < f then L.map Shr.cp else L.map (part (lev L f))
noncomputable def dvR (L:List Shr) (f:Rat):Rat:=if f < flo L then 0 else if cap L < f then f - cap L else 0
noncomputable def dv (l:List qzb) (f:Rat):qze:=⟨(dvP (l.map shq) f).map rof,rof (dvR (l.map shq) f)⟩
end Go.Am

set_option linter.unusedVariables false
set_option linter.unusedSimpArgs false
namespace Go.Am
theorem wzr6 {l:List qza} (h:∀ a,a∈l→Vd a):(l.map rq).map rof=l:=by
 rw [List.map_map]
 exact (List.map_congr_left fun a ha=>qzyo (h a ha)).trans (List.map_id l)
section
variable {n:Nat} {l:List qzb} {a:qza}
theorem wzx8 (hf:Few n l) (ha:Sz n a) (n1:1≤n) (hn:n≤1000):qzk4 l a=some (if chk2 l a=0 then (pts (rq a) l,0) else ([],chk2 l a)):=by
 unfold qzk4
 rw [qzue hf ha n1 (by omega) (by omega)]
 simp only [bd_s]
 by_cases h:chk2 l a=0
 ·have hg:=(qzgd.1 h).1
  have:=hg.n8
  rw [qzk5 h,if_pos h,qzlb (hg.sg hf) ha (by omega) n1 n1 (by omega) (by omega)]
  rfl
 ·rw [qzhj h,if_neg h]
theorem wzyx (hf:Few n l) (ha:Sz n a) (n1:1≤n) (hn:n≤1000):wzxo l a=some (if chk2 l a=0 then ⟨pts (rq a) l,0⟩ else ⟨[],chk2 l a⟩):=by
 unfold wzxo
 rw [wzsi hf ha n1 (by omega) (by omega)]
 simp only [bd_s]
 by_cases h:chk2 l a=0
 ·have hg:=(qzgd.1 h).1
  have:=hg.n8
  rw [qzk5 h,if_pos h,wzxp (hg.sg hf) ha (by omega) n1 n1 (by omega) (by omega)]
  rfl
 ·rw [qzhj h,if_neg h]
noncomputable def lvR (l:List qzb) (a:qza):qza×Int:=if chk2 l a=0 then (if cap (l.map shq) < rq a then (rof 0,8) else (rof (lev (l.map shq) (rq a)),0)) else (rof 0,chk2 l a)
theorem qzfy (hf:Few n l) (ha:Sz n a) (n1:1≤n) (hn:n≤1000) (hg:Good l) (hc:¬ cap (l.map shq) < rq a):wzq l a=some (rof (lev (l.map shq) (rq a)))∧yzo (l.map shq) (rq a) (lev (l.map shq) (rq a))∧Sz 200000 (rof (lev (l.map shq) (rq a))):=by
 have:=hg.n8
 obtain ⟨x,h1,h2,h3⟩:=qz27 (hg.sg hf) hg.all ha n1 hn (by omega) hg.ne (by grind)
 rw [wzfd h2]
 exact ⟨h1,h2,h3⟩
theorem qzl2 (hf:Few n l) (ha:Sz n a) (n1:1≤n) (hn:n≤1000):kz3 l a=some (lvR l a):=by
 unfold kz3 lvR
 rw [qzue hf ha n1 (by omega) (by omega)]
 simp only [bd_s]
 by_cases h:chk2 l a=0
 ·have hg:=(qzgd.1 h).1
  have:=hg.n8
  obtain ⟨c1,c2⟩:=qzql (hg.sg hf) (by omega) n1 (by omega)
  rw [qzk5 h,if_pos h,c1]
  simp only [bd_s]
  rw [jz9 ha c2 n1 (by omega) (by omega) (by omega),qzs]
  simp only [bd_s]
  by_cases hc:cap (l.map shq) < rq a
  ·rw [it_d (qzhv.2 hc),if_pos hc]; rfl
  ·rw [it_n (fun h=>hc (qzhv.1 h)),if_neg hc,(qzfy hf ha n1 hn hg hc).1]; rfl
 ·rw [qzhj h,if_neg h]; rfl
theorem wzx6 (hf:Few n l) (ha:Sz n a) (n1:1≤n) (hn:n≤1000):wzxf l a=some ⟨(lvR l a).1,(lvR l a).2⟩:=by
 unfold wzxf lvR
 rw [wzsi hf ha n1 (by omega) (by omega)]
 simp only [bd_s]
 by_cases h:chk2 l a=0
 ·obtain ⟨hg,hv,_⟩:=qzgd.1 h
  have:=hg.n8
  obtain ⟨c1,c2⟩:=qzql (hg.sg hf) (by omega) n1 (by omega)
  rw [qzk5 h,if_pos h,wzrt (by omega)]
  simp only [bd_s]
  rw [wzx7 hf (by omega) n1 (by omega)]
  simp only [bd_s]
  rw [wzle ha c2 n1 (by omega) (by omega) (by omega),qzs]
  simp only [bd_s]
  by_cases hc:cap (l.map shq) < rq a
  ·rw [it_d (qzhv.2 hc),if_pos hc]; rfl
  ·rw [it_n (fun h=>hc (qzhv.1 h)),if_neg hc,wzxz (hg.sg hf) hg.all ha hv n1 hn (by omega) (qzfy hf ha n1 hn hg hc).2.1]; rfl
 ·rw [qzhj h,if_neg h]; rfl
noncomputable def dvF (l:List qzb) (a:qza):qze×Int:=if chk2 l a=0 then (dv l (rq a),0) else (⟨[],rof 0⟩,chk2 l a)
theorem qzwa (x:Rat):pts x l=((l.map shq).map (part x)).map rof:=by
 unfold pts
 rw [List.map_map,List.map_map]; rfl
theorem qzvd {f:Rat} (hf:0≤f) (h:f < flo (l.map shq)):flo (l.map shq)≠0:=by grind
theorem qzs7 (hg:Good l):((l.map shq).map Shr.cp).map rof=l.map (·.Cap):=by
 rw [List.map_map,List.map_map]
 exact List.map_congr_left fun s hs=>qzyo (hg.ok s hs).2.2.2.1
theorem qzfu (hf:Few n l) (ha:Sz n a) (n1:1≤n) (hn:n≤1000):wzy l a=some (dvF l a):=by
 unfold wzy dvF
 rw [qzue hf ha n1 (by omega) (by omega)]
 simp only [bd_s]
 by_cases h:chk2 l a=0
 ·obtain ⟨hg,hv,hp⟩:=qzgd.1 h
  have:=hg.n8
  have hs:=hg.sg hf
  obtain ⟨c1,c2⟩:=qzql hs (by omega) n1 (by omega)
  obtain ⟨d1,d2⟩:=qzq5 hs (by omega) n1 (by omega)
  rw [qzk5 h,if_pos h,d1,c1]
  simp only [bd_s]
  rw [jz9 ha d2 n1 (by omega) (by omega) (by omega),qzs]
  simp only [bd_s]
  unfold dv dvP dvR
  by_cases h1:rq a < flo (l.map shq)
  ·have h0:rq (rof (flo (l.map shq)))≠0:=by rw [qzs]; exact qzvd hp h1
   obtain ⟨e1,e2⟩:=qzet ha d2 h0 n1 (by omega) (by omega) (by omega)
   rw [qzs] at e1 e2
   rw [it_d (qzvu.2 h1),if_pos h1,if_pos h1,e1]
   simp only [bd_s]
   rw [qzj4 (of:=fun a0=>vzj a0 (rof (rq a / flo (l.map shq)))) (g:=fun s=>rof (rq s.Floor*(rq a / flo (l.map shq)))) (fun s hs'=>by
    unfold vzj
    rw [(qzi5 (hf s hs').1 e2 n1 (by omega) (by omega) (by omega)).1,qzs]; rfl) (by omega)]
   simp only [bd_s]
   rw [List.map_map,List.map_map]
   rfl
  ·rw [it_n (fun h=>h1 (qzvu.1 h)),if_neg h1,if_neg h1,jz9 ha c2 n1 (by omega) (by omega) (by omega),qzs]
   simp only [bd_s]
   by_cases h2:cap (l.map shq) < rq a
   ·rw [it_d (qzhv.2 h2),if_pos h2,if_pos h2,qzj4 (of:=fun a0=>yz0 a0) (g:=fun s=>s.Cap) (fun s _=>rfl) (by omega)]
    simp only [bd_s]
    rw [(qzg8 ha c2 n1 (by omega) (by omega) (by omega)).1,qzs,qzs7 hg]
    rfl
   ·obtain ⟨g1,g2,g3⟩:=qzfy hf ha n1 hn hg h2
    have:=qzlb hs g3 (by omega) n1 (by omega) (by omega) (by omega)
    rw [qzs] at this
    rw [it_n (fun h=>h2 (qzhv.1 h)),if_neg h2,if_neg h2,g1]
    simp only [bd_s]
    rw [this,qzwa]
    rfl
 ·rw [qzhj h,if_neg h]; rfl
theorem wzx2 (hf:Few n l) (ha:Sz n a) (n1:1≤n) (hn:n≤1000):wzxd l a=some ⟨(dvF l a).1,(dvF l a).2⟩:=by
 unfold wzxd dvF
 rw [wzsi hf ha n1 (by omega) (by omega)]
 simp only [bd_s]
 by_cases h:chk2 l a=0
 ·obtain ⟨hg,hv,hp⟩:=qzgd.1 h
  have:=hg.n8
  have hs:=hg.sg hf
  obtain ⟨c1,c2⟩:=qzql hs (by omega) n1 (by omega)
  obtain ⟨d1,d2⟩:=qzq5 hs (by omega) n1 (by omega)
  rw [qzk5 h,if_pos h,wzrt (by omega)]
  simp only [bd_s]
  rw [wzvk hf (by omega) n1 (by omega),wzx7 hf (by omega) n1 (by omega)]
  simp only [bd_s]
  rw [wzle ha d2 n1 (by omega) (by omega) (by omega),qzs]
  simp only [bd_s]
  unfold dv dvP dvR
  by_cases h1:rq a < flo (l.map shq)
  ·have h0:rq (rof (flo (l.map shq)))≠0:=by rw [qzs]; exact qzvd hp h1
   rw [it_d (qzvu.2 h1),if_pos h1,if_pos h1]
   have key:lp (wzxe a l (rof (flo (l.map shq)))) (0,[])=some (l.map fun s=>rof (rq s.Floor*rq a / flo (l.map shq))):=by
    refine qznm (fun s=>∃ k:Nat,s=((k:Int),(l.take k).map fun s=>rof (rq s.Floor*rq a / flo (l.map shq)))∧k≤l.length) (fun s=>l.length - s.1.toNat) _ ?_ ⟨0,rfl,by omega⟩ (by dsimp only; omega)
    rintro s ⟨k,rfl,hk⟩
    simp only [wzxe]
    by_cases h0':k < l.length
    ·left
     have hx:l[k]?=some l[k]:=List.getElem?_eq_getElem h0'
     have hz:=(hf _ (List.getElem_mem h0')).1
     rw [it_d (by omega),at_e (n:=k) rfl hx]
     simp only [bd_s]
     have m2:=(qzi5 hz ha n1 n1 (by omega) (by omega)).2
     rw [wzqm hz ha n1 n1 (by omega) (by omega)]
     simp only [bd_s]
     rw [wzn8 m2 d2 h0 (by omega) (by omega) (by omega) (by omega),qzs,qzs]
     simp only [bd_s]
     rw [ck_d (by simp only [List.length_append,List.length_map,List.length_take,List.length_singleton]; omega),qz3 (by omega)]
     exact ⟨_,rfl,⟨k+1,by rw [qzha hx]; rfl,by omega⟩,by dsimp only; omega⟩
    ·right
     rw [it_n (by omega),show k=l.length by omega,List.take_length]
   rw [key]
   simp only [bd_s]
   rw [List.map_map,List.map_map]
   congr 3
   exact List.map_congr_left fun s hs'=>by
    show rof (rq s.Floor*rq a / flo (l.map shq))=rof (rq s.Floor*(rq a / flo (l.map shq)))
    rw [Rat.div_def,Rat.div_def,Rat.mul_assoc]
  ·rw [it_n (fun h=>h1 (qzvu.1 h)),if_neg h1,if_neg h1,wzle ha c2 n1 (by omega) (by omega) (by omega),qzs]
   simp only [bd_s]
   by_cases h2:cap (l.map shq) < rq a
   ·rw [it_d (qzhv.2 h2),if_pos h2,if_pos h2,wzt2 ha c2 n1 (by omega) (by omega) (by omega),qzs,qzs7 hg]
    rfl
   ·obtain ⟨g1,g2,g3⟩:=qzfy hf ha n1 hn hg h2
    have:=wzxp hs g3 (by omega) n1 (by omega) (by omega) (by omega)
    rw [qzs] at this
    rw [it_n (fun h=>h2 (qzhv.1 h)),if_neg h2,if_neg h2,wzxz hs hg.all ha hv n1 hn (by omega) g2]
    simp only [bd_s]
    rw [this,qzwa]
    rfl
 ·rw [qzhj h,if_neg h]; rfl
theorem qzx9 {body:Int→Option (Int⊕(Unit⊕Bool))} {x y:List qza} (hl:x.length=y.length) (hn:x.length≤1000) (hb:∀ k:Nat,(h:k < x.length)→(h2:k < y.length)→body (k:Int)=if x[k]=y[k] then some (.inl ((k:Int)+1)) else some (.inr (.inr false))) (he:body (x.length:Int)=some (.inr (.inl ()))):lp body 0=some (if x=y then .inl () else .inr false):=by
 refine qznm (fun s=>∃ k:Nat,s=(k:Int)∧k≤x.length∧x.take k=y.take k) (fun s=>x.length - s.toNat) _ ?_ ⟨0,rfl,by omega,rfl⟩ (by show x.length - (0:Int).toNat < _; omega)
 rintro s ⟨k,rfl,hk,ht⟩
 by_cases h0:k < x.length
 ·have h2:k < y.length:=by omega
  rw [hb k h0 h2]
  by_cases hc:x[k]=y[k]
  ·left
   rw [if_pos hc]
   exact ⟨_,rfl,⟨k+1,rfl,by omega,by rw [List.take_succ_eq_append_getElem h0,List.take_succ_eq_append_getElem h2,ht,hc]⟩,by omega⟩
  ·right
   rw [if_neg hc,if_neg]
   intro e
   subst e
   exact hc rfl
 ·right
  rw [show k=x.length by omega,he,if_pos]
  rw [show k=x.length by omega,List.take_length,hl,List.take_length] at ht
  exact ht
theorem wzvw {x y:List qza} (hn:x.length≤1000):qzba x y=some (decide (x=y)):=by
 unfold qzba
 by_cases hl:x.length=y.length
 ·rw [qzk5 (by omega),qzx9 hl hn (fun k h h2=>by
   simp only [qze3]
   rw [it_d (by omega),at_e (n:=k) rfl (List.getElem?_eq_getElem h),at_e (n:=k) rfl (List.getElem?_eq_getElem h2)]
   simp only [bd_s]
   rw [eqR]
   by_cases hc:x[k]=y[k]
   ·rw [qzk5 hc,if_pos hc,qz3 (by omega)]
   ·rw [qzhj hc,if_neg hc]) (by simp only [qze3]; rw [it_n (by omega)])]
  by_cases e:x=y
  ·rw [if_pos e,decide_eq_true e]; rfl
  ·rw [if_neg e,decide_eq_false e]; rfl
 ·rw [qzhj (by omega),decide_eq_false (fun e=>hl (by rw [e]))]
theorem qz3z {x y:List qza} (hn:x.length≤1000):qzbb x y=some (decide (x=y)):=by
 unfold qzbb
 by_cases hl:x.length=y.length
 ·rw [qzk5 (by omega),qzx9 hl hn (fun k h h2=>by
   simp only [yzi]
   rw [it_d (by omega),at_e (n:=k) rfl (List.getElem?_eq_getElem h),at_e (n:=k) rfl (List.getElem?_eq_getElem h2)]
   simp only [bd_s]
   rw [eqR]
   by_cases hc:x[k]=y[k]
   ·rw [qzk5 hc,if_pos hc,qz3 (by omega)]
   ·rw [qzhj hc,if_neg hc]) (by simp only [yzi]; rw [it_n (by omega)])]
  by_cases e:x=y
  ·rw [if_pos e,decide_eq_true e]; rfl
  ·rw [if_neg e,decide_eq_false e]; rfl
 ·rw [qzhj (by omega),decide_eq_false (fun e=>hl (by rw [e]))]
theorem qzkz {d:qze} (hf:Few n l) (ha:Sz n a) (n1:1≤n) (hn:n≤1000) (hd:d.Parts.length≤1000):wzx l a d=some (decide ((dvF l a).2=0∧d=(dvF l a).1)):=by
 unfold wzx
 rw [qzfu hf ha n1 hn]
 simp only [bd_s]
 rw [eqR,qz3z hd]
 generalize dvF l a=w
 cases d with
 | mk p r =>
  obtain ⟨⟨p2,r2⟩,e⟩:=w
  by_cases h1:e=0
  ·by_cases h2:r=r2
   ·by_cases h3:p=p2
    ·simp [h1,h2,h3,gd,bd]
    ·simp [h1,h2,h3,gd,bd]
   ·simp [h1,h2,gd,bd]
  ·simp [h1,gd,bd]
end
end Go.Am

set_option linter.unusedVariables false
set_option linter.unusedSimpArgs false
namespace Go.Am
theorem wzc3 {L:List Shr} (h:vzr L) {f x:Rat} (hx:yzo L f x) (hf:flo L≤f):tot x L=f:=by
 rcases yzj 0 x with h0 | h0
 ·rcases qzq6 x (0 :: jzm L) with h1 | ⟨a,ha,hax,h1⟩
  ·have:=h1 0 List.mem_cons_self; grind
  ·have ha0:0≤a:=by
    rcases List.mem_cons.1 ha with rfl | ha
    ·exact Rat.le_refl
    ·exact qzug h ha
   have haf:tot a L < f:=by
    rcases yzj (tot a L) f with h' | h'
    ·exact h'
    ·have:=hx.2.2 a ha0 h'; grind
   obtain ⟨g1,g2⟩:=qzop h ha0 haf hx.2.1 (qzxj fun y hy=>h1 y (List.mem_cons_of_mem _ hy))
   rw [← hx.uniq g1] at g2
   exact g2
 ·have:x=0:=by have:=hx.1; grind
  subst this
  have h1:=hx.2.1
  rw [qz3m h] at h1 ⊢
  grind
def qz6a (L:List Shr) (ps:List Rat) (r:Rat):Prop :=
 ∀ (k:Nat) (p:Rat) (s:Shr),ps[k]?=some p→L[k]?=some s→(s.fl≤p∧p≤s.cp∧(r≠0→p=s.cp))∧∀ (i:Nat) (q:Rat) (t:Shr),ps[i]?=some q→L[i]?=some t→p≠s.fl→q≠t.cp→p / (s.w:Rat)≤q / (t.w:Rat)
def AccQ (L:List Shr) (ps:List Rat) (r f:Rat):Prop :=
 sQ ps+r=f∧(f < flo L→(∀ (k:Nat) (p:Rat) (s:Shr),ps[k]?=some p→L[k]?=some s→p=s.fl*f / flo L)∧r=0)∧(¬ f < flo L→qz6a L ps r)
theorem qzn1 {L:List Shr} {ps:List Rat} {g:Shr→Rat} (hl:ps.length=L.length) (h:∀ (k:Nat) (p:Rat) (s:Shr),ps[k]?=some p→L[k]?=some s→p=g s):ps=L.map g:=by
 refine List.ext_getElem (by rw [List.length_map]; exact hl) fun i h1 h2=>?_
 rw [List.getElem_map]
 rw [List.length_map] at h2
 exact h i _ _ (List.getElem?_eq_getElem h1) (List.getElem?_eq_getElem h2)
theorem qzfv {L:List Shr} {g:Shr→Rat} {k:Nat} {p:Rat} {s:Shr} (h1:(L.map g)[k]?=some p) (h2:L[k]?=some s):p=g s:=by
 rw [List.getElem?_map,h2] at h1
 cases h1; rfl
theorem qz2h (c:Rat) (g:Shr→Rat):∀ L:List Shr,sQ (L.map fun s=>g s*c)=sQ (L.map g)*c
 | []=>by show (0:Rat)=0*c; grind
 | s :: L=>by
  show g s*c+sQ (L.map fun s=>g s*c)=(g s+sQ (L.map g))*c
  rw [qz2h c g L,Rat.add_mul]
theorem qz0p {g:Shr→Rat}:∀ {ps:List Rat} {L:List Shr},ps.length=L.length→(∀ (k:Nat) (p:Rat) (s:Shr),ps[k]?=some p→L[k]?=some s→p≤g s)→sQ ps≤sQ (L.map g)
 | [],[],_,_=>Rat.le_refl
 | [],_ :: _,h,_=>by simp at h
 | _ :: _,[],h,_=>by simp at h
 | p :: ps,s :: L,hl,h=>by
  have h1:=h 0 p s rfl rfl
  have h2:=qz0p (ps:=ps) (L:=L) (g:=g) (by simpa using hl) fun k p s a b=>h (k+1) p s a b
  show p+sQ ps≤g s+sQ (L.map g)
  grind
theorem qzp2 {L0:List Shr} {g:Rat→Shr→Rat} (hg:∀ p s,0≤p→s∈L0→0≤g p s):∀ {ps:List Rat} {L:List Shr},(∀ s,s∈L→s∈L0)→ps.length=L.length→(∀ p,p∈ps→0≤p)→∃ x,0≤x∧(∀ (k:Nat) (p:Rat) (s:Shr),ps[k]?=some p→L[k]?=some s→p≠s.fl→g p s≤x)∧(x=0∨∃ (k:Nat) (p:Rat) (s:Shr),ps[k]?=some p∧L[k]?=some s∧p≠s.fl∧x=g p s)
 | [],[],_,_,_=>⟨0,Rat.le_refl,fun k p s h=>by simp at h,.inl rfl⟩
 | [],_ :: _,_,h,_=>by simp at h
 | _ :: _,[],_,h,_=>by simp at h
 | p :: ps,s :: L,hs,hl,hp=>by
  obtain ⟨x,h0,h1,h2⟩:=qzp2 hg (ps:=ps) (L:=L) (fun t ht=>hs t (List.mem_cons_of_mem _ ht)) (by simpa using hl) fun q hq=>hp q (List.mem_cons_of_mem _ hq)
  have hnn:=hg p s (hp p List.mem_cons_self) (hs s List.mem_cons_self)
  by_cases hc:p≠s.fl∧x < g p s
  ·refine ⟨g p s,hnn,fun k q t hq ht hne=>?_,.inr ⟨0,p,s,rfl,rfl,hc.1,rfl⟩⟩
   cases k with
   | zero=>simp at hq ht; subst hq ht; exact Rat.le_refl
   | succ k=>have:=h1 k q t (by simpa using hq) (by simpa using ht) hne; have:=hc.2; grind
  ·refine ⟨x,h0,fun k q t hq ht hne=>?_,?_⟩
   ·cases k with
    | zero =>
     simp at hq ht; subst hq ht
     rcases yzj x (g p s) with h' | h'
     ·exact absurd ⟨hne,h'⟩ hc
     ·exact h'
    | succ k=>exact h1 k q t (by simpa using hq) (by simpa using ht) hne
   ·rcases h2 with h2 | ⟨k,q,t,hq,ht,hr⟩
    ·exact .inl h2
    ·exact .inr ⟨k+1,q,t,by simpa using hq,by simpa using ht,hr⟩
theorem qzw8 {L:List Shr} (h:vzr L) {ps:List Rat} (hl:ps.length=L.length) (hp:∀ p,p∈ps→0≤p) {r:Rat} (hf:qz6a L ps r):∃ x,0≤x∧ps=L.map (part x):=by
 obtain ⟨x,h0,h1,h2⟩:=qzp2 (L0:=L) (g:=fun p s=>p / (s.w:Rat)) (fun p s hp hs=>kz5 (h s hs).w0 (by rw [qza8 (by have:=(h s hs).w0; grind)]; grind)) (ps:=ps) (L:=L) (fun s hs=>hs) hl hp
 refine ⟨x,h0,qzn1 hl fun i q t hq ht=>?_⟩
 have hto:=h t (List.mem_of_getElem? ht)
 have hw:=hto.w0
 have hdq:q / (t.w:Rat)*(t.w:Rat)=q:=qza8 (by grind)
 have hq0:=hp q (List.mem_of_getElem? hq)
 obtain ⟨⟨g1,g2,g3⟩,g4⟩:=hf i q t hq ht
 by_cases hc:q=t.cp
 ·by_cases he:q=t.fl
  ·have a:=qznt hto x
   have b:=qzq0 hto x
   grind
  ·have:=vz3 (h1 i q t hq ht he) (Rat.le_of_lt hw)
   rw [hdq] at this
   rw [qznl hto (by rw [← hc]; exact this)]
   exact hc
 ·have hx:x*(t.w:Rat)≤q:=by
   rcases h2 with rfl | ⟨k,p,s,hpk,hsk,hne,rfl⟩
   ·grind
   ·have:=(hf k p s hpk hsk).2 i q t hq ht hne hc
    have:=vz3 this (Rat.le_of_lt hw)
    rw [hdq] at this
    exact this
  by_cases he:q=t.fl
  ·rw [qzn2 hto (by rw [← he]; exact hx)]; exact he
  ·have:=vz3 (h1 i q t hq ht he) (Rat.le_of_lt hw)
   rw [hdq] at this
   rw [qzoy hto (by grind) (by grind)]
   grind
theorem qzt5 {s:Shr} (h:s.Ok) (x:Rat):(part x s=s.fl∨part x s≤x*(s.w:Rat))∧(part x s=s.cp∨x*(s.w:Rat)≤part x s):=by
 have:=h.2.2
 unfold part minQ maxQ
 generalize x*(s.w:Rat)=a
 constructor<;>(repeat' split)<;>grind
theorem wzc4 {L:List Shr} (h:vzr L) {ps:List Rat} {r f:Rat} (hl:ps.length=L.length) (hp:∀ p,p∈ps→0≤p) (hr:0≤r) (hf0:0≤f) (hlev:¬ cap L < f→yzo L f (lev L f)):AccQ L ps r f↔ps=dvP L f∧r=dvR L f:=by
 unfold AccQ dvP dvR
 by_cases c1:f < flo L
 ·rw [if_pos c1,if_pos c1]
  have hfl:flo L≠0:=by grind
  constructor
  ·rintro ⟨_,h2,_⟩
   obtain ⟨h3,h4⟩:=h2 c1
   refine ⟨qzn1 hl fun k p s a b=>?_,h4⟩
   rw [h3 k p s a b,Rat.div_def,Rat.div_def,Rat.mul_assoc]
  ·rintro ⟨rfl,rfl⟩
   refine ⟨?_,fun _=>⟨fun k p s a b=>?_,rfl⟩,fun h'=>absurd c1 h'⟩
   ·rw [qz2h]
    have:flo L*(f / flo L)=f:=by rw [Rat.mul_comm]; exact qza8 hfl
    show flo L*(f / flo L)+0=f
    grind
   ·rw [qzfv a b,Rat.div_def,Rat.div_def,Rat.mul_assoc]
 ·rw [if_neg c1,if_neg c1]
  have hfl:flo L≤f:=by grind
  by_cases c2:cap L < f
  ·rw [if_pos c2,if_pos c2]
   constructor
   ·rintro ⟨h1,_,h3⟩
    have hq:=h3 c1
    have hr0:r≠0:=by
     have:=qz0p (g:=Shr.cp) hl fun k p s a b=>(hq k p s a b).1.2.1
     have e:sQ (L.map Shr.cp)=cap L:=rfl
     grind
    have hps:ps=L.map Shr.cp:=qzn1 hl fun k p s a b=>(hq k p s a b).1.2.2 hr0
    refine ⟨hps,?_⟩
    have e:sQ ps=cap L:=by rw [hps]; rfl
    grind
   ·rintro ⟨rfl,rfl⟩
    refine ⟨?_,fun h'=>absurd h' c1,fun _ k p s a b=>⟨⟨?_,?_,fun _=>qzfv a b⟩,fun i q t a' b' _ hne=>absurd (qzfv a' b') hne⟩⟩
    ·show cap L+(f - cap L)=f
     grind
    ·rw [qzfv a b]; exact (h s (List.mem_of_getElem? b)).2.2
    ·rw [qzfv a b]; exact Rat.le_refl
  ·rw [if_neg c2,if_neg c2]
   have hx:=hlev c2
   have ht:=wzc3 h hx hfl
   constructor
   ·rintro ⟨h1,_,h3⟩
    have hq:=h3 c1
    have hr0:r=0:=by
     by_cases hr0:r=0
     ·exact hr0
     ·have hps:ps=L.map Shr.cp:=qzn1 hl fun k p s a b=>(hq k p s a b).1.2.2 hr0
      have e:sQ ps=cap L:=by rw [hps]; rfl
      grind
    obtain ⟨y,hy0,hps⟩:=qzw8 h hl hp hq
    have hty:tot y L=f:=by
     have e:sQ ps=tot y L:=by rw [hps]; rfl
     grind
    have hle:=hx.2.2 y hy0 (by grind)
    have:=qzoc (f:=part (lev L f)) (g:=part y) (fun s hs=>qzmo (h s hs) hle) (show tot (lev L f) L=tot y L by rw [ht,hty])
    refine ⟨?_,hr0⟩
    rw [hps]
    exact (List.map_congr_left fun s hs=>this s hs).symm
   ·rintro ⟨rfl,rfl⟩
    refine ⟨?_,fun h'=>absurd h' c1,fun _ k p s a b=>?_⟩
    ·have e:sQ (L.map (part (lev L f)))=f:=ht
     grind
    ·have hs:=h s (List.mem_of_getElem? b)
     rw [qzfv a b]
     refine ⟨⟨qznt hs _,qzq0 hs _,fun h'=>absurd rfl h'⟩,fun i q t a' b' h1 h2=>?_⟩
     have ht':=h t (List.mem_of_getElem? b')
     rw [qzfv a' b'] at h2 ⊢
     have w1:=hs.w0
     have w2:=ht'.w0
     have g1:=(qzt5 hs (lev L f)).1.resolve_left h1
     have g2:=(qzt5 ht' (lev L f)).2.resolve_left h2
     have d1:part (lev L f) s / (s.w:Rat)*(s.w:Rat)=part (lev L f) s:=qza8 (by grind)
     have d2:part (lev L f) t / (t.w:Rat)*(t.w:Rat)=part (lev L f) t:=qza8 (by grind)
     have e1:part (lev L f) s / (s.w:Rat)≤lev L f:=kz5 w1 (by rw [d1]; exact g1)
     have e2:lev L f≤part (lev L f) t / (t.w:Rat):=kz5 w2 (by rw [d2]; exact g2)
     grind
end Go.Am

set_option linter.unusedVariables false
set_option linter.unusedSimpArgs false
namespace Go.Am
theorem qzul {body:Int→Option (Int⊕(Unit⊕Bool))} {N:Nat} (P:Nat→Prop) (hN:N≤1000) (hb:∀ k:Nat,k < N→(P k→body (k:Int)=some (.inl ((k:Int)+1)))∧(¬ P k→body (k:Int)=some (.inr (.inr false)))) (he:body (N:Int)=some (.inr (.inl ()))):∃ b:Bool,(b=true↔∀ k,k < N→P k)∧lp body 0=some (cond b (.inl ()) (.inr false)):=by
 obtain ⟨o,e,ho⟩:=vzf (s:=(0:Int)) (body:=body) (fun s=>∃ k:Nat,s=(k:Int)∧k≤N∧∀ j,j < k→P j) (fun s=>N - s.toNat) (fun o=>(o=.inl ()∧∀ k,k < N→P k)∨(o=.inr false∧¬ ∀ k,k < N→P k)) (by
  rintro s ⟨k,rfl,hk,ht⟩
  by_cases h0:k < N
  ·by_cases hc:P k
   ·left
    rw [(hb k h0).1 hc]
    exact ⟨_,rfl,⟨k+1,rfl,by omega,fun j hj=>by
     rcases Nat.lt_or_ge j k with h' | h'
     ·exact ht j h'
     ·rw [show j=k by omega]; exact hc⟩,by omega⟩
   ·right
    rw [(hb k h0).2 hc]
    exact ⟨_,rfl,.inr ⟨rfl,fun h=>hc (h k h0)⟩⟩
  ·right
   rw [show k=N by omega] at ht ⊢
   rw [he]
   exact ⟨_,rfl,.inl ⟨rfl,ht⟩⟩) ⟨0,rfl,by omega,fun j h=>by omega⟩ (by show N - (0:Int).toNat < _; omega)
 rcases ho with ⟨rfl,h⟩ | ⟨rfl,h⟩
 ·exact ⟨true,⟨fun _=>h,fun _=>rfl⟩,e⟩
 ·exact ⟨false,⟨fun h'=>Bool.noConfusion h',fun h'=>absurd h' h⟩,e⟩
theorem wzli {α β:Type} {f:α→β} {l:List α} {k:Nat} (h:k < l.length):(l.map f)[k]?=some (f l[k]):=by rw [List.getElem?_map,List.getElem?_eq_getElem h]; rfl
section
variable {n M:Nat} {l:List qzb} {a:qza} {d:qze}
theorem wzty (hf:Few n l) (ha:Sz n a) (n1:1≤n) (hn:n≤1000) (hl:l.length≤10) (hs:SGs n l) (hd:d.Parts.length=l.length) (h0:flo (l.map shq)≠0):∃ b:Bool,wzks l a (rof (flo (l.map shq))) d=some b∧(b=true↔(∀ k,(h:k < l.length)→d.Parts[k]=rof (rq l[k].Floor*rq a / flo (l.map shq)))∧d.Rest=rof 0):=by
 unfold wzks
 obtain ⟨d1,d2⟩:=qzq5 hs hl n1 (by omega)
 obtain ⟨b,hb,e⟩:=qzul (N:=l.length) (body:=wzjy d a l (rof (flo (l.map shq)))) (fun k=>(h:k < l.length)→d.Parts[k]=rof (rq l[k].Floor*rq a / flo (l.map shq))) (by omega) (fun k hk=>by
  simp only [wzjy]
  have hk2:k < d.Parts.length:=by omega
  have hz:=(hf _ (List.getElem_mem hk)).1
  have m2:=(qzi5 hz ha n1 n1 (by omega) (by omega)).2
  rw [it_d (by omega),at_e (n:=k) rfl (List.getElem?_eq_getElem hk2),at_e (n:=k) rfl (List.getElem?_eq_getElem hk)]
  simp only [bd_s]
  rw [wzqm hz ha n1 n1 (by omega) (by omega)]
  simp only [bd_s]
  rw [wzn8 m2 d2 (by rw [qzs]; exact h0) (by omega) (by omega) (by omega) (by omega),qzs,qzs]
  simp only [bd_s]
  rw [eqR]
  exact ⟨fun h=>by rw [qzk5 (h hk),qz3 (by omega)],fun h=>qzhj fun h'=>h fun _=>h'⟩) (by simp only [wzjy]; rw [it_n (by omega)])
 rw [e]
 simp only [bd_s]
 rw [eqR0]
 cases b
 ·refine ⟨false,rfl,⟨fun h=>Bool.noConfusion h,fun h=>?_⟩⟩
  exact hb.2 fun k hk h'=>h.1 k h'
 ·refine ⟨decide (d.Rest=rof 0),rfl,?_⟩
  rw [decide_eq_true_iff]
  exact ⟨fun h=>⟨fun k hk=>hb.1 rfl k hk hk,h⟩,fun h=>h.2⟩
def wznw (l:List qzb) (d:qze) (hd:d.Parts.length=l.length) (k:Nat) (hk:k < l.length):Prop :=
 (rq l[k].Floor≤rq d.Parts[k]∧rq d.Parts[k]≤rq l[k].Cap∧(d.Rest≠rof 0→d.Parts[k]=l[k].Cap))∧∀ i,(hi:i < l.length)→d.Parts[k]≠l[k].Floor→d.Parts[i]≠l[i].Cap→rq d.Parts[k] / (l[k].Weight:Rat)≤rq d.Parts[i] / (l[i].Weight:Rat)
def InI (l:List qzb) (d:qze) (hd:d.Parts.length=l.length) (k:Nat) (hk:k < l.length) (i:Nat) (hi:i < l.length):Prop:=d.Parts[k]≠l[k].Floor→d.Parts[i]≠l[i].Cap→rq d.Parts[k] / (l[k].Weight:Rat)≤rq d.Parts[i] / (l[i].Weight:Rat)
theorem wzu1 (hf:Few n l) (n1:1≤n) (hn:n≤1000) (hl:l.length≤10) (hs:SGs n l) (hd:d.Parts.length=l.length) (hM:M≤1000000) (M1:1≤M) (hp:∀ p,p∈d.Parts→Sz M p) {k:Nat} (hk:k < l.length):∃ b:Bool,(b=true↔∀ i,i < l.length→(hi:i < l.length)→InI l d hd k hk i hi)∧lp (wzjj d (k:Int) l d.Parts[k]) 0=some (cond b (.inl ()) (.inr false)):=by
 refine qzul (N:=l.length) (fun i=>(hi:i < l.length)→InI l d hd k hk i hi) (by omega) (fun i hi=>?_) (by show ite' _ _ _=_; exact it_n (by omega))
 simp only [wzjj]
 have hk2:k < d.Parts.length:=by omega
 have hi2:i < d.Parts.length:=by omega
 have z1:=hp _ (List.getElem_mem hk2)
 have z2:=hp _ (List.getElem_mem hi2)
 obtain ⟨_,_,w1,w2⟩:=hs _ (List.getElem_mem hk)
 obtain ⟨_,_,w3,w4⟩:=hs _ (List.getElem_mem hi)
 have i1:=(qzrp (n:=l[k].Weight) (by omega) (by omega)).2
 have i2:=(qzrp (n:=l[i].Weight) (by omega) (by omega)).2
 have hw1:rq (rof (l[k].Weight:Rat))≠0:=by
  rw [qzs]
  intro h
  have:=Rat.intCast_eq_zero_iff.1 h
  omega
 have hw2:rq (rof (l[i].Weight:Rat))≠0:=by
  rw [qzs]
  intro h
  have:=Rat.intCast_eq_zero_iff.1 h
  omega
 have q1:=(qzy9 z1 i1 hw1 M1 (by omega) (by omega) (by omega)).2
 have q2:=(qzy9 z2 i2 hw2 M1 (by omega) (by omega) (by omega)).2
 rw [qzs] at q1 q2
 rw [it_d (by omega),at_e (n:=k) rfl (List.getElem?_eq_getElem hk),at_e (n:=i) rfl (List.getElem?_eq_getElem hi),at_e (n:=i) rfl (List.getElem?_eq_getElem hi2)]
 simp only [bd_s]
 rw [wzqg (by omega) (by omega),wzqg (by omega) (by omega)]
 simp only [bd_s]
 rw [wzn8 z1 i1 hw1 M1 (by omega) (by omega) (by omega),wzn8 z2 i2 hw2 M1 (by omega) (by omega) (by omega),qzs,qzs]
 simp only [bd_s]
 rw [eqR]
 unfold InI
 by_cases c1:d.Parts[k]=l[k].Floor
 ·rw [decide_eq_true c1]
  simp only [Bool.not_true,wzcn,bd_s,cond_false,qzil]
  rw [qz3 (by omega)]
  exact ⟨fun _=>rfl,fun h=>absurd (fun _ h _=>absurd c1 h) h⟩
 ·rw [decide_eq_false c1]
  simp only [Bool.not_false,qzbx,bd_s,cond_true]
  rw [eqR]
  by_cases c2:d.Parts[i]=l[i].Cap
  ·rw [decide_eq_true c2]
   simp only [Bool.not_true,wzcn,bd_s,cond_false,qzil]
   rw [qz3 (by omega)]
   exact ⟨fun _=>rfl,fun h=>absurd (fun _ _ h=>absurd c2 h) h⟩
  ·rw [decide_eq_false c2]
   simp only [Bool.not_false,qzbx,cond_true]
   rw [wzle q1 q2 (by omega) (by omega) (by omega) (by omega),qzs,qzs]
   simp only [bd_s]
   rw [qz3 (by omega)]
   by_cases c3:rq d.Parts[i] / (l[i].Weight:Rat) < rq d.Parts[k] / (l[k].Weight:Rat)
   ·rw [it_d (qzhv.2 c3)]
    exact ⟨fun h=>absurd (h hi c1 c2) (Rat.not_le.2 c3),fun _=>rfl⟩
   ·rw [it_n (fun h=>c3 (qzhv.1 h))]
    exact ⟨fun _=>rfl,fun h=>absurd (fun _ _ _=>Rat.not_lt.1 c3) h⟩
theorem wzvb (hf:Few n l) (n1:1≤n) (hn:n≤1000) (hl:l.length≤10) (hs:SGs n l) (hd:d.Parts.length=l.length) (hM:M≤1000000) (M1:1≤M) (hp:∀ p,p∈d.Parts→Sz M p):∃ b:Bool,wzjr l d=some b∧(b=true↔∀ k,(hk:k < l.length)→wznw l d hd k hk):=by
 unfold wzjr
 obtain ⟨b,hb,e⟩:=qzul (N:=l.length) (body:=wzjg d l) (fun k=>(hk:k < l.length)→wznw l d hd k hk) (by omega) (fun k hk=>by
  simp only [wzjg]
  have hk2:k < d.Parts.length:=by omega
  have z1:=hp _ (List.getElem_mem hk2)
  obtain ⟨z3,z4⟩:=hf _ (List.getElem_mem hk)
  obtain ⟨bi,hbi,hin⟩:=wzu1 hf n1 hn hl hs hd hM M1 hp hk
  have hbi':bi=true↔∀ i,(hi:i < l.length)→InI l d hd k hk i hi:=hbi.trans ⟨fun h i hi=>h i hi hi,fun h i _ hi=>h i hi⟩
  rw [it_d (by omega),at_e (n:=k) rfl (List.getElem?_eq_getElem hk),at_e (n:=k) rfl (List.getElem?_eq_getElem hk2)]
  simp only [bd_s]
  rw [wzle z1 z3 M1 n1 (by omega) (by omega),eqR0,hin]
  simp only [bd_s]
  rw [qz3 (by omega)]
  have hfi:(hk':k < l.length)→wznw l d hd k hk'↔(rq l[k].Floor≤rq d.Parts[k]∧rq d.Parts[k]≤rq l[k].Cap∧(d.Rest≠rof 0→d.Parts[k]=l[k].Cap))∧bi=true:=by
   intro hk'
   unfold wznw
   rw [hbi']
   rfl
  have hP:((hk':k < l.length)→wznw l d hd k hk')↔(rq l[k].Floor≤rq d.Parts[k]∧rq d.Parts[k]≤rq l[k].Cap∧(d.Rest≠rof 0→d.Parts[k]=l[k].Cap))∧bi=true:=⟨fun h=>(hfi hk).1 (h hk),fun h hk'=>(hfi hk').2 h⟩
  rw [hP]
  clear hP hfi hbi hbi' hin
  by_cases c1:rq d.Parts[k] < rq l[k].Floor
  ·rw [decide_eq_true (qzvu.2 c1)]
   refine ⟨fun h=>absurd h.1.1 (Rat.not_le.2 c1),fun _=>?_⟩
   by_cases c5:d.Rest=rof 0
   ·rw [decide_eq_true c5]; rfl
   ·rw [decide_eq_false c5]; rfl
  ·rw [decide_eq_false (fun h=>c1 (qzvu.1 h))]
   simp only [Bool.not_false,qzbx,bd_s,cond_false]
   rw [wzle z1 z4 M1 n1 (by omega) (by omega)]
   simp only [bd_s]
   by_cases c2:rq l[k].Cap < rq d.Parts[k]
   ·rw [decide_eq_true (qzhv.2 c2)]
    refine ⟨fun h=>absurd h.1.2.1 (Rat.not_le.2 c2),fun _=>?_⟩
    by_cases c5:d.Rest=rof 0
    ·rw [decide_eq_true c5]; rfl
    ·rw [decide_eq_false c5]; rfl
   ·rw [decide_eq_false (fun h=>c2 (qzhv.1 h))]
    by_cases c5:d.Rest=rof 0
    ·rw [decide_eq_true c5]
     simp only [Bool.not_true,Bool.and_false,wzcn,bd_s,cond_false,qzil]
     cases bi
     ·exact ⟨fun h=>Bool.noConfusion h.2,fun _=>rfl⟩
     ·exact ⟨fun _=>rfl,fun h=>absurd ⟨⟨Rat.not_lt.1 c1,Rat.not_lt.1 c2,fun h'=>absurd c5 h'⟩,rfl⟩ h⟩
    ·rw [decide_eq_false c5]
     simp only [Bool.not_false,Bool.true_and,qzbx,bd_s,cond_true,cond_false]
     rw [eqR]
     by_cases c6:d.Parts[k]=l[k].Cap
     ·rw [qzk5 c6]
      cases bi
      ·exact ⟨fun h=>Bool.noConfusion h.2,fun _=>rfl⟩
      ·exact ⟨fun _=>rfl,fun h=>absurd ⟨⟨Rat.not_lt.1 c1,Rat.not_lt.1 c2,fun _=>c6⟩,rfl⟩ h⟩
     ·rw [qzhj c6]
      exact ⟨fun h=>absurd (h.1.2.2 c5) c6,fun _=>rfl⟩) (by show ite' _ _ _=_; exact it_n (by omega))
 rw [e]
 cases b
 ·exact ⟨false,rfl,⟨fun h=>Bool.noConfusion h,fun h=>hb.2 fun k _ hk=>h k hk⟩⟩
 ·exact ⟨true,rfl,⟨fun _ k hk=>hb.1 rfl k hk hk,fun _=>rfl⟩⟩
end
end Go.Am

set_option linter.unusedVariables false
set_option linter.unusedSimpArgs false
namespace Go.Am
theorem wzst {b:Bool} {p:Prop} [Decidable p] (h:b=true↔p):(some b:Option Bool)=some (decide p):=by
 congr 1
 by_cases hp:p
 ·rw [decide_eq_true hp]; exact h.2 hp
 ·rw [decide_eq_false hp]
  cases b
  ·rfl
  ·exact absurd (h.1 rfl) hp
theorem qzvb {L:List Shr} {f:Rat}:(dvP L f).length=L.length:=by
 unfold dvP
 split
 ·rw [List.length_map]
 ·split<;>rw [List.length_map]
theorem wzej {L:List Shr} (h:vzr L) {f:Rat} (hf:0≤f):∀ p,p∈dvP L f→0≤p:=by
 intro p hp
 unfold dvP at hp
 split at hp
 ·rename_i h1
  obtain ⟨s,hs,rfl⟩:=List.mem_map.1 hp
  have h2:=(h s hs).2.1
  have h3:0 < flo L:=by grind
  have h4:f / flo L*flo L=f:=qza8 (by grind)
  have h5:0≤f / flo L:=kz5 h3 (by grind)
  have:=vz3 h2 h5
  grind
 ·split at hp
  ·obtain ⟨s,hs,rfl⟩:=List.mem_map.1 hp
   exact Rat.le_trans (h s hs).2.1 (h s hs).2.2
  ·obtain ⟨s,hs,rfl⟩:=List.mem_map.1 hp
   exact wzd3 (h s hs) _
theorem wzed {L:List Shr} {f:Rat}:0≤dvR L f:=by
 unfold dvR
 split
 ·exact Rat.le_refl
 ·split
  ·grind
  ·exact Rat.le_refl
theorem wzqz {q:Rat} (h:0≤q):posB (rof q)=true:=qzc5.2 ⟨qz07 q,by rw [qzs]; exact h⟩
theorem qzzf {l:List qzb} {f:Rat}:(dv l f).Parts.length=l.length:=by
 show ((dvP (l.map shq) f).map rof).length=_
 rw [List.length_map,qzvb,List.length_map]
section
variable {n M:Nat} {l:List qzb} {a:qza} {d:qze}
theorem wzv2 {f:Rat} (h1:∀ p,p∈d.Parts→Vd p) (h2:Vd d.Rest):d=dv l f↔d.Parts.map rq=dvP (l.map shq) f∧rq d.Rest=dvR (l.map shq) f:=by
 constructor
 ·intro h
  rw [h]
  refine ⟨?_,qzs _⟩
  show ((dvP (l.map shq) f).map rof).map rq=_
  rw [List.map_map]
  exact (List.map_congr_left fun q _=>qzs q).trans (List.map_id _)
 ·rintro ⟨h3,h4⟩
  cases d with
  | mk p r =>
   show _=(⟨(dvP (l.map shq) f).map rof,rof (dvR (l.map shq) f)⟩:qze)
   dsimp only at h1 h2 h3 h4
   rw [← h3,← h4,wzr6 h1,qzyo h2]
theorem qzzc (hf:Few n l) (ha:Sz n a) (n1:1≤n) (hn:n≤1000) (hg:Good l):¬ cap (l.map shq) < rq a→yzo (l.map shq) (rq a) (lev (l.map shq) (rq a)):=fun h=>(qzfy hf ha n1 hn hg h).2.1
theorem wzmu {d:qze} {k:Nat} (h:k < d.Parts.length):(d.Parts.map rq)[k]?=some (rq d.Parts[k]):=wzli h
theorem wzmn {a b:qza} (ha:Vd a) (hb:Vd b):a=b↔rq a=rq b:=⟨fun h=>by rw [h],fun h=>by rw [← qzyo ha,h,qzyo hb]⟩
theorem wztx (hg:Good l) (hd:d.Parts.length=l.length) (h1:∀ p,p∈d.Parts→Vd p) (h2:Vd d.Rest):(∀ k,(hk:k < l.length)→wznw l d hd k hk)↔qz6a (l.map shq) (d.Parts.map rq) (rq d.Rest):=by
 have hr0:d.Rest≠rof 0↔rq d.Rest≠0:=not_congr (by rw [wzmn h2 (qz07 0),qzs])
 constructor
 ·intro h k p s hp hs
  obtain ⟨hk,_⟩:=List.getElem?_eq_some_iff.1 hs
  rw [List.length_map] at hk
  have hk2:k < d.Parts.length:=by omega
  rw [wzmu hk2] at hp
  rw [wzli hk] at hs
  cases hp; cases hs
  obtain ⟨⟨g1,g2,g3⟩,g4⟩:=h k hk
  have v1:=h1 _ (List.getElem_mem hk2)
  have so:=hg.ok _ (List.getElem_mem hk)
  refine ⟨⟨g1,g2,fun hr=>by rw [g3 (hr0.2 hr)]; rfl⟩,fun i q t hq ht=>?_⟩
  obtain ⟨hi,_⟩:=List.getElem?_eq_some_iff.1 ht
  rw [List.length_map] at hi
  have hi2:i < d.Parts.length:=by omega
  rw [wzmu hi2] at hq
  rw [wzli hi] at ht
  cases hq; cases ht
  exact fun e1 e2=>g4 i hi (fun e=>e1 (by rw [e]; rfl)) (fun e=>e2 (by rw [e]; rfl))
 ·intro h k hk
  have hk2:k < d.Parts.length:=by omega
  obtain ⟨⟨g1,g2,g3⟩,g4⟩:=h k (rq d.Parts[k]) (shq l[k]) (wzmu hk2) (wzli hk)
  have v1:=h1 _ (List.getElem_mem hk2)
  have so:=hg.ok _ (List.getElem_mem hk)
  refine ⟨⟨g1,g2,fun hr=>(wzmn v1 so.2.2.2.1).2 (g3 (hr0.1 hr))⟩,fun i hi e1 e2=>?_⟩
  have hi2:i < d.Parts.length:=by omega
  have v2:=h1 _ (List.getElem_mem hi2)
  have so2:=hg.ok _ (List.getElem_mem hi)
  have g5:=g4 i (rq d.Parts[i]) (shq l[i]) (wzmu hi2) (wzli hi)
  exact g5 (fun e=>e1 ((wzmn v1 so.2.1).2 e)) (fun e=>e2 ((wzmn v2 so2.2.2.2.1).2 e))
theorem wzs2 (hd:d.Parts.length=l.length) (h1:∀ p,p∈d.Parts→Vd p) (h2:Vd d.Rest) {f:Rat}:((∀ k,(h:k < l.length)→d.Parts[k]=rof (rq l[k].Floor*f / flo (l.map shq)))∧d.Rest=rof 0)↔(∀ (k:Nat) (p:Rat) (s:Shr),(d.Parts.map rq)[k]?=some p→(l.map shq)[k]?=some s→p=s.fl*f / flo (l.map shq))∧rq d.Rest=0:=by
 refine and_congr ⟨fun h k p s hp hs=>?_,fun h k hk=>?_⟩ (by rw [wzmn h2 (qz07 0),qzs])
 ·obtain ⟨hk,_⟩:=List.getElem?_eq_some_iff.1 hs
  rw [List.length_map] at hk
  have hk2:k < d.Parts.length:=by omega
  rw [wzmu hk2] at hp
  rw [wzli hk] at hs
  cases hp; cases hs
  rw [h k hk,qzs]; rfl
 ·have hk2:k < d.Parts.length:=by omega
  have v1:=h1 _ (List.getElem_mem hk2)
  rw [wzmn v1 (qz07 _),qzs]
  exact h k (rq d.Parts[k]) (shq l[k]) (wzmu hk2) (wzli hk)
theorem wzqv (hf:Few n l) (ha:Sz n a) (n1:1≤n) (hn:n≤1000) (hM:M≤1000000) (M1:1≤M) (hp:∀ p,p∈d.Parts→Sz M p) (hr:Sz M d.Rest) (hdl:d.Parts.length≤1000):wzkf l a d=some (decide (chk2 l a=0∧d=dv l (rq a))):=by
 unfold wzkf
 rw [wzsi hf ha n1 (by omega) (by omega)]
 simp only [bd_s]
 by_cases h:chk2 l a=0
 ·obtain ⟨hg,hv,hf0⟩:=qzgd.1 h
  have hg8:=hg.n8
  have hs:=hg.sg hf
  by_cases hd:d.Parts.length=l.length
  ·rw [it_f (by rw [h,hd]; simp),wzkc (hr.mono (by omega))]
   simp only [bd_s]
   by_cases p1:posB d.Rest=true
   ·obtain ⟨v1,v2⟩:=qzc5.1 p1
    rw [it_f (by rw [p1]; rfl)]
    obtain ⟨b,hb,e⟩:=qzul (N:=l.length) (body:=wzkj d l) (fun k=>(hk:k < d.Parts.length)→posB d.Parts[k]=true) (by omega) (fun k hk=>by
     simp only [wzkj]
     have hk2:k < d.Parts.length:=by omega
     rw [it_d (by omega),at_e (n:=k) rfl (List.getElem?_eq_getElem hk2)]
     simp only [bd_s]
     rw [wzkc ((hp _ (List.getElem_mem hk2)).mono (by omega))]
     simp only [bd_s]
     rw [qz3 (by omega)]
     exact ⟨fun h=>by rw [h hk2]; rfl,fun h=>it_t (by
      cases hq:posB d.Parts[k]
      ·rfl
      ·exact absurd (fun _=>hq) h)⟩) (by show ite' _ _ _=_; exact it_n (by omega))
    rw [e]
    cases b
    ·-- some part is not positive
     have hne:¬ (chk2 l a=0∧d=dv l (rq a)):=by
      rintro ⟨_,hde⟩
      refine Bool.noConfusion (hb.2 fun k _ hk=>?_)
      have hm:d.Parts[k]∈d.Parts:=List.getElem_mem hk
      have hm2:d.Parts[k]∈(dv l (rq a)).Parts:=hde▸hm
      obtain ⟨q,hq,e⟩:=List.mem_map.1 hm2
      rw [← e]
      exact wzqz (wzej hg.all hf0 q hq)
     exact (congrArg some (decide_eq_false hne)).symm
    ·have hall:∀ p,p∈d.Parts→Vd p∧0≤rq p:=fun p hpm=>by
      obtain ⟨k,hk,rfl⟩:=List.mem_iff_getElem.1 hpm
      exact qzc5.1 (hb.1 rfl k (by omega) hk)
     obtain ⟨s1,s2⟩:=qzgs (l:=d.Parts) (n:=M) (L:=10) hp M1 (by omega) (by omega) (by omega)
     have q1:=wzqp (l:=d.Parts) (n:=M) (L:=10) hp M1 (by omega) (by omega) (by omega)
     have q2:=wzod s2 hr (by omega) (by omega) (by omega) (by omega)
     rw [qzs] at q2
     simp only [bd_s,cond_true]
     rw [q1]
     simp only [bd_s]
     rw [q2]
     simp only [bd_s]
     rw [eqR]
     have hiff:=wzc4 hg.all (ps:=d.Parts.map rq) (r:=rq d.Rest) (f:=rq a) (by rw [List.length_map,List.length_map]; exact hd) (fun p hpm=>by
      obtain ⟨q,hq,rfl⟩:=List.mem_map.1 hpm
      exact (hall q hq).2) v2 hf0 (qzzc hf ha n1 hn hg)
     rw [← wzv2 (fun p h=>(hall p h).1) v1] at hiff
     have hgoal:(chk2 l a=0∧d=dv l (rq a))↔AccQ (l.map shq) (d.Parts.map rq) (rq d.Rest) (rq a):=⟨fun h=>hiff.2 h.2,fun h'=>⟨h,hiff.1 h'⟩⟩
     have hdec:∀ b:Bool,(b=true↔AccQ (l.map shq) (d.Parts.map rq) (rq d.Rest) (rq a))→(some b:Option Bool)=some (decide (chk2 l a=0∧d=dv l (rq a))):=fun b hb'=>wzst (hb'.trans hgoal.symm)
     by_cases c1:rof (sQ (d.Parts.map rq)+rq d.Rest)=a
     ·have c1':sQ (d.Parts.map rq)+rq d.Rest=rq a:=by rw [← c1,qzs]
      rw [qzk5 c1,wzrt (by omega)]
      simp only [bd_s]
      rw [wzvk hf (by omega) n1 (by omega)]
      simp only [bd_s]
      obtain ⟨d1,d2⟩:=qzq5 hs (by omega) n1 (by omega)
      rw [wzle ha d2 n1 (by omega) (by omega) (by omega),qzs]
      simp only [bd_s]
      by_cases c2:rq a < flo (l.map shq)
      ·obtain ⟨b,e1,hb1⟩:=wzty hf ha n1 hn (by omega) hs hd (qzvd hf0 c2)
       rw [it_d (qzvu.2 c2),e1]
       refine hdec b (hb1.trans ((wzs2 hd (fun p h=>(hall p h).1) v1).trans ⟨fun h=>⟨c1',fun _=>h,fun h'=>absurd c2 h'⟩,fun h=>h.2.1 c2⟩))
      ·obtain ⟨b,e1,hb1⟩:=wzvb hf n1 hn (by omega) hs hd hM M1 hp
       rw [it_n (fun h=>c2 (qzvu.1 h)),e1]
       refine hdec b (hb1.trans ((wztx hg hd (fun p h=>(hall p h).1) v1).trans ⟨fun h=>⟨c1',fun h'=>absurd h' c2,fun _=>h⟩,fun h=>h.2.2 c2⟩))
     ·rw [qzhj c1]
      exact hdec false ⟨fun h=>Bool.noConfusion h,fun h=>absurd (by rw [h.1,qzyo hv]) c1⟩
   ·have hne:¬ (chk2 l a=0∧d=dv l (rq a)):=by
     rintro ⟨_,hde⟩
     apply p1
     rw [hde]
     exact wzqz wzed
    rw [it_t (by simp [p1])]
    exact (congrArg some (decide_eq_false hne)).symm
  ·have hne:¬ (chk2 l a=0∧d=dv l (rq a)):=by
    rintro ⟨_,hde⟩
    apply hd
    rw [hde,qzzf]
   rw [it_t (by rw [h]; simp; omega)]
   exact (congrArg some (decide_eq_false hne)).symm
 ·have hne:¬ (chk2 l a=0∧d=dv l (rq a)):=fun h'=>h h'.1
  rw [it_t (by simp [h])]
  exact (congrArg some (decide_eq_false hne)).symm
end
end Go.Am

set_option linter.unusedVariables false
set_option linter.unusedSimpArgs false
namespace Go.Am
theorem wzdz (l:List qzb):∃ b:Bool,qzdx l=some b∧(b=true↔l.length≤10∧Few 20 l):=by
 unfold qzdx
 by_cases h:10 < l.length
 ·rw [it_d (by omega)]
  exact ⟨false,rfl,⟨fun h=>Bool.noConfusion h,fun h'=>by omega⟩⟩
 ·rw [it_n (by omega)]
  obtain ⟨b,hb,e⟩:=qzul (N:=l.length) (body:=qzbf l) (fun k=>(hk:k < l.length)→Sz 20 l[k].Floor∧Sz 20 l[k].Cap) (by omega) (fun k hk=>by
   simp only [qzbf,qzdt]
   rw [it_d (by omega),at_e (n:=k) rfl (List.getElem?_eq_getElem hk)]
   simp only [bd_s]
   rw [qz3 (by omega)]
   have hPk:((hk:k < l.length)→Sz 20 l[k].Floor∧Sz 20 l[k].Cap)↔(Sz 20 l[k].Floor∧Sz 20 l[k].Cap):=⟨fun h=>h hk,fun h _=>h⟩
   rw [hPk]
   generalize l[k]=s
   have key:(bif (!(bif decide ((s.Floor.Num.length:Int)≤20) then decide ((s.Floor.Den.length:Int)≤20) else false)) then true else (!(bif decide ((s.Cap.Num.length:Int)≤20) then decide ((s.Cap.Den.length:Int)≤20) else false)))=false↔Sz 20 s.Floor∧Sz 20 s.Cap:=by
    unfold Sz
    by_cases c1:s.Floor.Num.length≤20
    ·by_cases c2:s.Floor.Den.length≤20
     ·by_cases c3:s.Cap.Num.length≤20
      ·by_cases c4:s.Cap.Den.length≤20
       ·rw [decide_eq_true (by omega),decide_eq_true (by omega),decide_eq_true (by omega),decide_eq_true (by omega)]; simp [c1,c2,c3,c4]
       ·rw [decide_eq_false (by omega:¬ (s.Cap.Den.length:Int)≤20)]; simp [c4]
      ·rw [decide_eq_false (by omega:¬ (s.Cap.Num.length:Int)≤20)]; simp [c3]
     ·rw [decide_eq_false (by omega:¬ (s.Floor.Den.length:Int)≤20)]; simp [c2]
    ·rw [decide_eq_false (by omega:¬ (s.Floor.Num.length:Int)≤20)]; simp [c1]
   exact ⟨fun h=>it_f (key.2 h),fun h=>it_t (by rw [← Bool.not_eq_false,key]; exact h)⟩) (by show ite' _ _ _=_; exact it_n (by omega))
  rw [e]
  refine ⟨b,by cases b<;>rfl,hb.trans ⟨fun h'=>⟨by omega,fun s hs=>?_⟩,fun h' k hk hk2=>h'.2 _ (List.getElem_mem hk)⟩⟩
  obtain ⟨k,hk,rfl⟩:=List.mem_iff_getElem.1 hs
  exact h' k hk hk
theorem qzya (l:List qzb) (a:qza):∃ b:Bool,qzcf l a=some b∧(b=true↔l.length≤10∧Few 20 l∧Sz 20 a):=by
 unfold qzcf
 obtain ⟨b,e,hb⟩:=wzdz l
 rw [e]
 refine ⟨_,rfl,?_⟩
 unfold Sz
 cases b
 ·simp only [cond_false]
  exact ⟨fun h=>Bool.noConfusion h,fun h=>hb.2 ⟨h.1,h.2.1⟩⟩
 ·obtain ⟨h1,h2⟩:=hb.1 rfl
  by_cases c1:a.Num.length≤20
  ·by_cases c2:a.Den.length≤20
   ·rw [decide_eq_true (by omega:(a.Num.length:Int)≤20),decide_eq_true (by omega:(a.Den.length:Int)≤20)]
    exact ⟨fun _=>⟨h1,h2,c1,c2⟩,fun _=>rfl⟩
   ·rw [decide_eq_false (by omega:¬ (a.Den.length:Int)≤20)]
    simp [c2]
  ·rw [decide_eq_false (by omega:¬ (a.Num.length:Int)≤20)]
   simp [c1]
theorem wzza (x:Rat) (l:List qzb):(pts x l).length=l.length:=by unfold pts; rw [List.length_map]
theorem wzvr (l:List qzb) (a:qza) (hl:l.length≤10):(dvF l a).1.Parts.length≤10:=by
 unfold dvF
 split
 ·show (dv l (rq a)).Parts.length≤10
  rw [qzzf]; exact hl
 ·simp
theorem wzzd (hsan:yzu=some true) (l:List qzb) (a:qza) (d:qze):wzwy l a d=some true:=by
 unfold wzwy
 obtain ⟨b,e,hb⟩:=qzya l a
 rw [e,hsan]
 simp only [bd_s]
 cases b
 ·rfl
 obtain ⟨hl,hf,ha⟩:=hb.1 rfl
 by_cases c1:12 < d.Parts.length
 ·rw [it_t (by rw [decide_eq_true (by omega:(12:Int) < (d.Parts.length:Int))]; rfl)]
 by_cases c2:60 < d.Rest.Num.length
 ·rw [it_t (by rw [decide_eq_true (by omega:(60:Int) < (d.Rest.Num.length:Int))]; simp)]
 by_cases c3:60 < d.Rest.Den.length
 ·rw [it_t (by rw [decide_eq_true (by omega:(60:Int) < (d.Rest.Den.length:Int))]; simp)]
 rw [it_f (by rw [decide_eq_false (by omega:¬ (12:Int) < (d.Parts.length:Int)),decide_eq_false (by omega:¬ (60:Int) < (d.Rest.Num.length:Int)),decide_eq_false (by omega:¬ (60:Int) < (d.Rest.Den.length:Int))]; rfl)]
 obtain ⟨o,eo,ho⟩:=vzf (s:=(0:Int)) (body:=wzwz d) (fun s=>∃ k:Nat,s=(k:Int)∧k≤d.Parts.length∧∀ p,p∈d.Parts.take k→Sz 60 p) (fun s=>d.Parts.length - s.toNat) (fun o=>(o=.inl ()∧∀ p,p∈d.Parts→Sz 60 p)∨o=.inr true) (by
  rintro s ⟨k,rfl,hk,hp⟩
  simp only [wzwz]
  by_cases h0:k < d.Parts.length
  ·rw [it_d (by omega),at_e (n:=k) rfl (List.getElem?_eq_getElem h0),hsan]
   simp only [bd_s]
   by_cases c:60 < d.Parts[k].Num.length∨60 < d.Parts[k].Den.length
   ·right
    rw [it_t (by
     rcases c with c | c
     ·rw [decide_eq_true (by omega:(60:Int) < (d.Parts[k].Num.length:Int))]; rfl
     ·rw [decide_eq_true (by omega:(60:Int) < (d.Parts[k].Den.length:Int))]; simp)]
    exact ⟨_,rfl,.inr rfl⟩
   ·left
    simp only [not_or] at c
    rw [it_f (by rw [decide_eq_false (by omega:¬ (60:Int) < (d.Parts[k].Num.length:Int)),decide_eq_false (by omega:¬ (60:Int) < (d.Parts[k].Den.length:Int))]; rfl),qz3 (by omega)]
    refine ⟨_,rfl,⟨k+1,rfl,by omega,fun p hpm=>?_⟩,by omega⟩
    rw [List.take_succ_eq_append_getElem h0,List.mem_append,List.mem_singleton] at hpm
    rcases hpm with hpm | rfl
    ·exact hp p hpm
    ·exact ⟨by omega,by omega⟩
  ·right
   rw [it_n (by omega)]
   rw [show k=d.Parts.length by omega,List.take_length] at hp
   exact ⟨_,rfl,.inl ⟨rfl,hp⟩⟩) ⟨0,rfl,by omega,fun p hp=>by simp at hp⟩ (by show d.Parts.length - (0:Int).toNat < _; omega)
 rw [eo]
 rcases ho with ⟨rfl,hp⟩ | rfl
 ·simp only [bd_s]
  rw [wzx8 hf ha (by omega) (by omega),qzl2 hf ha (by omega) (by omega),qzfu hf ha (by omega) (by omega),wzyx hf ha (by omega) (by omega),wzx6 hf ha (by omega) (by omega),wzx2 hf ha (by omega) (by omega),qzuh hf (by omega) (by omega),wzs7 hf (by omega) (by omega),qzkz hf ha (by omega) (by omega) (by omega),wzqv (M:=60) hf ha (by omega) (by omega) (by omega) (by omega) hp ⟨by omega,by omega⟩ (by omega)]
  simp only [bd_s]
  have hacc:decide ((dvF l a).2=0∧d=(dvF l a).1)=decide (chk2 l a=0∧d=dv l (rq a)):=by
   refine decide_eq_decide.2 ?_
   unfold dvF
   by_cases h:chk2 l a=0
   ·rw [if_pos h]; simp [h]
   ·rw [if_neg h]; simp [h]
  rw [hacc]
  have hA:∃ A:List qza×Int,A.1.length≤1000∧(if chk2 l a=0 then (pts (rq a) l,0) else (([],chk2 l a):List qza×Int))=A∧(if chk2 l a=0 then (⟨pts (rq a) l,0⟩:kzj) else ⟨[],chk2 l a⟩)=⟨A.1,A.2⟩:=by
   by_cases h:chk2 l a=0
   ·exact ⟨_,by rw [wzza]; omega,if_pos h,by rw [if_pos h]⟩
   ·exact ⟨_,by simp,if_neg h,by rw [if_neg h]⟩
  obtain ⟨A,hA1,hA2,hA3⟩:=hA
  rw [hA2,hA3]
  have hD:=wzvr l a hl
  generalize dvF l a=D at *
  generalize lvR l a=V at *
  generalize decide (chk2 l a=0∧d=dv l (rq a))=x at *
  rw [wzvw hA1,wzvw (by omega)]
  simp [gd,bd]
 ·rfl
end Go.Am

set_option linter.unusedVariables false
set_option linter.unusedSimpArgs false
namespace Go.Am
end Go.Am

set_option linter.unusedVariables false
set_option linter.unusedSimpArgs false
namespace Go.Am
def hvy (c:Int) (s:Shr):Shr:=⟨s.w*c,s.fl,s.cp⟩
end Go.Am

set_option linter.unusedVariables false
set_option linter.unusedSimpArgs false
namespace Go.Am
end Go.Am

set_option linter.unusedVariables false
set_option linter.unusedSimpArgs false
namespace Go.Am
end Go.Am

set_option linter.unusedVariables false
set_option linter.unusedSimpArgs false
namespace Go.Am
end Go.Am

