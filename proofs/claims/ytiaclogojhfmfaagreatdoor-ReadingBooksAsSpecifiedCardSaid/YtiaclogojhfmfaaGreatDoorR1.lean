/- Part R1 of the proof that the last part closes: the functions of numbers as functions of core numbers. No condition. -/
import Derived.Test.YtiaclogojhfmfaaGreatDoorX1
import Derived.Test.YtiaclogojhfmfaaGreatDoorN1
set_option linter.unusedSimpArgs false
set_option linter.unusedVariables false
namespace Go.Am
section
variable {α β:Type}
theorem bd_s(a:α)(k:α→Option β):bd (some a) k=k a:=id rfl
theorem ck_t{c:Bool}{x:Option α}(h:c=true):ck c x=x:=by subst h;rfl
theorem ck_d{p:Prop}[Decidable p]{x:Option α}(h:p):ck (decide p) x=x:=ck_t (decide_eq_true h)
theorem qz3{n:Int}{x:Option α}(h:-9223372036854775808≤n∧n≤9223372036854775807):ck (inB .i64 n) x=x:=ck_t (by simp[inB,h])
theorem qzhn{l:List β}{lo hi:Int}{x:Option α}(h:0≤lo∧lo≤hi∧hi≤l.length):ck (kzy l lo hi) x=x:=ck_t (by simp[kzy,h])
theorem it_t{c:Bool}{x y:Option α}(h:c=true):ite' c x y=x:=by subst h;rfl
theorem it_f{c:Bool}{x y:Option α}(h:c=false):ite' c x y=y:=by subst h;rfl
theorem it_d{p:Prop}[Decidable p]{x y:Option α}(h:p):ite' (decide p) x y=x:=it_t (decide_eq_true h)
theorem it_n{p:Prop}[Decidable p]{x y:Option α}(h:¬p):ite' (decide p) x y=y:=it_f (decide_eq_false h)
theorem qzk5{p:Prop}[Decidable p]{x y:Option α}(h:p):ite' (!decide p) x y=y:=it_f (by simp[h])
theorem qzhj{p:Prop}[Decidable p]{x y:Option α}(h:¬p):ite' (!decide p) x y=x:=it_t (by simp[h])
theorem qzbx[Inhabited α]{x:Option α}:gd true x=x:=id rfl
theorem wzcn[Inhabited α]{x:Option α}:gd false x=some default:=id rfl
theorem wzdh{x y:Option α}:ite' true x y=x:=id rfl
theorem qzil{x y:Option α}:ite' false x y=y:=id rfl
theorem wzdp{x:Option α}:ck true x=x:=id rfl
theorem at_e{l:List α}{j:Int}{n:Nat}{x:α}(hj:j=n)(h:l[n]?=some x):at? l j=some x:=by
 subst hj
 unfold at?
 rw[decide_eq_true (by omega:(0:Int)≤n)]
 exact h
end
theorem jzd2{ι σ ω:Type}{body:σ→Option (σ⊕ω)}(f:ι→σ)(I:ι→Prop)(μ:ι→Nat)(R:ω→Prop)
  (step:∀i,I i→(∃i',body (f i)=some (.inl (f i'))∧I i'∧μ i'<μ i)∨(∃o,body (f i)=some (.inr o)∧R o)) {s:σ} (i:ι) (hs:s=f i) (h:I i) (hb:μ i<4611686018427387904):∃o,lp body s=some o∧R o:=by
 subst hs
 have key:∀(n:Nat) (i:ι),I i→μ i<n→∃o,lpN body n (f i)=some o∧R o:=by
  intro n
  induction n with
  |zero=>intro i _ h;omega
  |succ n ih =>
   intro i hs hn
   rcases step i hs with ⟨s',e,hs',hm⟩|⟨o,e,ho⟩
   ·obtain⟨o,e2,ho⟩:=ih s' hs' (by omega)
    exact⟨o,by unfold lpN;rw[e];exact e2,ho⟩
   ·exact⟨o,by unfold lpN;rw[e],ho⟩
 rw[qztg]
 exact key _ i h hb
def lf(l:List Int)(i:Nat):Nat:=(l[i]?.getD 0).toNat
def val(b:Base)(l:List Int):Nat:=vl b (lf l) l.length
end Go.Am

