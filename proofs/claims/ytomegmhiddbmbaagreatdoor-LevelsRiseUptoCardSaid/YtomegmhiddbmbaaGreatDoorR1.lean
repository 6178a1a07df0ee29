/- Part R1 of the proof that the last part closes: the functions of numbers as functions of core numbers. No condition. -/
import Derived.Test.YtomegmhiddbmbaaGreatDoorX1
import Derived.Test.YtomegmhiddbmbaaGreatDoorN1
import Derived.Test.YtomegmhiddbmbaaGreatDoorF1
set_option linter.unusedSimpArgs false
set_option linter.unusedVariables false
namespace Go.Am
section
variable {α β:Type}
theorem bd_s(a:α)(k:α→Option β):bd (some a) k=k a:=id rfl
theorem ck_t{c:Bool}{x:Option α}(h:c=true):ck c x=x:=by subst h;rfl
theorem ck_d{p:Prop}[Decidable p]{x:Option α}(h:p):ck (decide p) x=x:=ck_t (decide_eq_true h)
theorem qzwv{p:Prop}[Decidable p]{x:Option α}(h:¬p):ck (!decide p) x=x:=ck_t (by simp[h])
theorem qz3{n:Int}{x:Option α}(h:-9223372036854775808≤n∧n≤9223372036854775807):ck (inB .i64 n) x=x:=ck_t (by simp[inB,h])
theorem qzwy{n:Int}{b:Nat}{x:Option α}(h:0≤n∧n*b≤140737488355328):ck (mkOk n b) x=x:=ck_t (by simp[mkOk,h])
theorem qzhn{l:List β}{lo hi:Int}{x:Option α}(h:0≤lo∧lo≤hi∧hi≤l.length):ck (kzy l lo hi) x=x:=ck_t (by simp[kzy,h])
theorem wzwr{l:List UInt8}{j:Int}{x:Option α}(h:0≤j∧j<l.length):ck (qzf7 l j) x=x:=ck_t (by simp[qzf7,h])
theorem ck_o{p:Prop}[Decidable p]{c:Bool}{x:Option α}(h:p→c=true):ck (!decide p||c) x=x:=ck_t (by by_cases hp:p<;>simp[hp,h])
theorem it_t{c:Bool}{x y:Option α}(h:c=true):ite' c x y=x:=by subst h;rfl
theorem it_f{c:Bool}{x y:Option α}(h:c=false):ite' c x y=y:=by subst h;rfl
theorem it_d{p:Prop}[Decidable p]{x y:Option α}(h:p):ite' (decide p) x y=x:=it_t (decide_eq_true h)
theorem it_n{p:Prop}[Decidable p]{x y:Option α}(h:¬p):ite' (decide p) x y=y:=it_f (decide_eq_false h)
theorem qzk5{p:Prop}[Decidable p]{x y:Option α}(h:p):ite' (!decide p) x y=y:=it_f (by simp[h])
theorem qzhj{p:Prop}[Decidable p]{x y:Option α}(h:¬p):ite' (!decide p) x y=x:=it_t (by simp[h])
theorem qzbx[Inhabited α]{x:Option α}:gd true x=x:=id rfl
theorem wzcn[Inhabited α]{x:Option α}:gd false x=some default:=id rfl
theorem wzdh{x y:Option α}:ite' true x y=x:=id rfl
theorem qzil{x y:Option α}:ite' false x y=y:=id rfl
theorem wzdp{x:Option α}:ck true x=x:=id rfl
theorem at_e{l:List α}{j:Int}{n:Nat}{x:α}(hj:j=n)(h:l[n]?=some x):at? l j=some x:=by
 subst hj
 unfold at?
 rw[decide_eq_true (by omega:(0:Int)≤n)]
 exact h
end
theorem jzd2{ι σ ω:Type}{body:σ→Option (σ⊕ω)}(f:ι→σ)(I:ι→Prop)(μ:ι→Nat)(R:ω→Prop)
  (step:∀i,I i→(∃i',body (f i)=some (.inl (f i'))∧I i'∧μ i'<μ i)∨(∃o,body (f i)=some (.inr o)∧R o)) {s:σ} (i:ι) (hs:s=f i) (h:I i) (hb:μ i<4611686018427387904):∃o,lp body s=some o∧R o:=by
 subst hs
 have key:∀(n:Nat) (i:ι),I i→μ i<n→∃o,lpN body n (f i)=some o∧R o:=by
  intro n
  induction n with
  |zero=>intro i _ h;omega
  |succ n ih =>
   intro i hs hn
   rcases step i hs with ⟨s',e,hs',hm⟩|⟨o,e,ho⟩
   ·obtain⟨o,e2,ho⟩:=ih s' hs' (by omega)
    exact⟨o,by unfold lpN;rw[e];exact e2,ho⟩
   ·exact⟨o,by unfold lpN;rw[e],ho⟩
 rw[qztg]
 exact key _ i h hb
def lf(l:List Int)(i:Nat):Nat:=(l[i]?.getD 0).toNat
def Dg(b:Base)(l:List Int):Prop:=∀x,x∈l→0≤x∧x<b.n
theorem yz4{b:Base}{l:List Int}(h:Dg b l)(i:Nat):lf l i<b.n:=by
 unfold lf
 cases hx:l[i]? with
 |none=>exact b.pos
 |some x =>
  have:=h x (List.mem_of_getElem? hx)
  simp only[Option.getD_some];omega
theorem qzqc{l:List Int}{i:Nat}(h:l.length≤i):lf l i=0:=by unfold lf;rw[List.getElem?_eq_none h];rfl
theorem qzei{l m:List Int}{i:Nat}(h:i<l.length):lf (l++m) i=lf l i:=by unfold lf;rw[List.getElem?_append_left h]
theorem qzxd{l m:List Int}{i:Nat}(h:l.length≤i):lf (l++m) i=lf m (i-l.length):=by unfold lf;rw[List.getElem?_append_right h]
theorem qzbk{l:List Int}{x:Int}:lf (l++[x]) l.length=x.toNat:=by rw[qzxd (Nat.le_refl _)];simp[lf]
theorem qzmj{l:List Int}{k i:Nat}{x:Int}(hk:k<l.length):lf (l.set k x) i=if i=k then x.toNat else lf l i:=by
 unfold lf
 rw[List.getElem?_set]
 by_cases h:k=i
 ·subst h;simp[hk]
 ·rw[if_neg h,if_neg (by omega)]
theorem qzjt(n i:Nat):lf (List.replicate n 0) i=0:=by
 unfold lf
 rw[List.getElem?_replicate]
 split<;>rfl
theorem qzgw{b:Base}{l m:List Int}(h:Dg b l)(h':Dg b m):Dg b (l++m):=fun x hx=>(List.mem_append.1 hx).elim (h x) (h' x)
theorem qzgl{b:Base}{x:Int}(h:0≤x∧x<b.n):Dg b [x]:=fun y hy=>by rw[List.mem_singleton.1 hy];exact h
theorem qzth{b:Base}:Dg b []:=fun _ h=>by cases h
theorem qztw{b:Base}{l:List Int}{k:Nat}{x:Int}(h:Dg b l)(hx:0≤x∧x<b.n):Dg b (l.set k x):=fun y hy=>(List.mem_or_eq_of_mem_set hy).elim (h y) fun e=>e▸hx
theorem qzml{b:Base}{n:Nat}:Dg b (List.replicate n 0):=fun x hx=>by
 rw[List.eq_of_mem_replicate hx];have:=b.pos;omega
theorem qzsq{b:Base}{l:List Int}(h:Dg b l)(lo hi:Int):Dg b (sub l lo hi):=fun x hx=>h x (List.mem_of_mem_drop (List.mem_of_mem_take hx))
theorem qzap{b:Base}{l:List Int}(h:Dg b l){j:Int}(hj:0≤j∧j<l.length):at? l j=some (lf l j.toNat:Int):=by
 have hn:j.toNat<l.length:=by omega
 refine at_e (n:=j.toNat) (by omega) ?_
 have hd:=h _ (List.getElem_mem hn)
 unfold lf
 rw[List.getElem?_eq_getElem hn]
 simp only[Option.getD_some]
 congr 1;omega
def val(b:Base)(l:List Int):Nat:=vl b (lf l) l.length
theorem qzks{b:Base}{l:List Int}{x:Int}:val b (l++[x])=val b l+x.toNat*b.n ^ l.length:=by
 unfold val
 rw[List.length_append,List.length_singleton]
 simp only[qzda]
 rw[qzbk]
 congr 1
 exact wzr fun i hi=>qzei hi
theorem qzjo{b:Base}{l:List Int}(h:Dg b l):val b l<b.n ^ l.length:=qzk9 fun i _=>yz4 h i
theorem qzcx{b:Base}{l:List Int}{n:Nat}(h:l.length≤n):vl b (lf l) n=val b l:=qzvt (fun i hi=>qzqc hi) h
theorem qz3e{l m:List Int}{b:Base}(hl:Dg b l)(hm:Dg b m)(hn:l.length=m.length)(h:∀i,i<l.length→lf l i=lf m i):l=m:=by
 refine List.ext_getElem hn fun i h1 h2=>?_
 have e:=h i h1
 have d1:=hl _ (List.getElem_mem h1)
 have d2:=hm _ (List.getElem_mem h2)
 unfold lf at e
 rw[List.getElem?_eq_getElem h1,List.getElem?_eq_getElem h2]at e
 simp only[Option.getD_some]at e
 omega
def dl(v:Nat):List Int:=(List.range (ln v)).map fun i=>(dg b32 v i:Int)
theorem wzi(v:Nat):(dl v).length=ln v:=by simp[dl]
theorem qza4(v:Nat):Dg b32 (dl v):=fun x hx=>by
 obtain⟨i,_,rfl⟩:=List.mem_map.1 hx
 have:=qzf3 (b:=b32) v i
 omega
theorem wzbi{v i:Nat}(h:i<ln v):lf (dl v) i=dg b32 v i:=by simp[lf,dl,h]
theorem qzfb(v i:Nat):lf (dl v) i=dg b32 v i:=by
 by_cases h:i<ln v
 ·exact wzbi h
 ·rw[qzqc (by rw[wzi];omega),qzw4]
  exact Nat.lt_of_lt_of_le (qze1 v) (Nat.pow_le_pow_right b32.pos (by omega))
theorem qzc4(v:Nat):val b32 (dl v)=v:=by
 unfold val
 rw[wzi,wzr fun i hi=>wzbi hi,qznv]
theorem qzns:ln 0=0:=rfl
theorem wzd2:dl 0=[]:=rfl
theorem qzmv{v:Nat}(h:v≠0):0<ln v:=by unfold ln;rw[if_neg h];omega
theorem wzbs{l:List Int}(h:Dg b32 l)(hn:Norm (lf l) l.length):l=dl (val b32 l):=by
 have e:l.length=ln (val b32 l):=wzcv (fun i _=>yz4 h i) hn
 refine qz3e h (qza4 _) (by rw[wzi];exact e) fun i hi=>?_
 rw[qzfb]
 exact(qzwx (fun i _=>yz4 h i) i hi).symm
theorem qzah{u v:Nat}(h:u≤v):ln u≤ln v:=by
 by_cases hu:u=0
 ·subst hu;simp[qzns]
 ·rcases Nat.lt_or_ge (ln v) (ln u) with h1|h1
  ·have h2:=qznk hu
   have h3:=qze1 v
   have h4:b32.n ^ ln v≤b32.n ^ (ln u-1):=Nat.pow_le_pow_right b32.pos (by omega)
   omega
  ·exact h1
theorem qzi4{v n:Nat}(h:v<b32.n ^ n):ln v≤n:=by
 by_cases hv:v=0
 ·subst hv;simp[qzns]
 ·rcases Nat.lt_or_ge n (ln v) with h1|h1
  ·have h2:=qznk hv
   have h4:b32.n ^ n≤b32.n ^ (ln v-1):=Nat.pow_le_pow_right b32.pos (by omega)
   omega
  ·exact h1
def bl(v:Nat):Nat:=(bs v).length
theorem qzlt(v:Nat):v<256 ^ bl v:=by have:=qzi0 (bs v);rwa [wzj]at this
theorem qzsh{v n:Nat}(h:v<256 ^ n):bl v≤n:=qzmu h
theorem qzni{u v:Nat}(h:u≤v):bl u≤bl v:=qzsh (Nat.lt_of_le_of_lt h (qzlt v))
theorem qzzz(u v:Nat):bl (u*v)≤bl u+bl v:=qzsh (by rw[Nat.pow_add];exact Nat.mul_lt_mul'' (qzlt u) (qzlt v))
theorem qz0u(u v:Nat):bl (u+v)≤max (bl u) (bl v)+1:=by
 have h1:256 ^ bl u≤256 ^ max (bl u) (bl v):=Nat.pow_le_pow_right (by decide) (by omega)
 have h2:256 ^ bl v≤256 ^ max (bl u) (bl v):=Nat.pow_le_pow_right (by decide) (by omega)
 have h3:=qzlt u
 have h4:=qzlt v
 exact qzsh (by rw[Nat.pow_succ];omega)
theorem qzxl(u v:Nat):bl (u / v)≤bl u:=qzni (Nat.div_le_self u v)
theorem qzls(s:List UInt8):bl (sv s)≤s.length:=qzsh (qzi0 s)
theorem qzwl(v:Nat):ln v≤bl v:=qzi4 (Nat.lt_of_lt_of_le (qzlt v) (Nat.pow_le_pow_left (by decide) _))
theorem qzbe{l:List Int}(h:Dg b32 l)(hn:l.length≤4294967296):qzx l=some (dl (val b32 l)):=by
 unfold qzx
 obtain⟨o,e,ho⟩:=vzf (body:=vzd) (fun x:List Int=>Dg b32 x∧val b32 x=val b32 l∧x.length≤4294967296) (fun x=>x.length) (fun o=>o=dl (val b32 l)) (by
  rintro x ⟨hx,hv,hm⟩
  simp only[vzd]
  rcases List.eq_nil_or_concat x with rfl|⟨y,t,rfl⟩
  ·right
   refine⟨[],by simp[ck,gd,bd,ite'],?_⟩
   rw[←hv];rfl
  ·have ht:0≤t∧t<b32.n:=hx t (by simp)
   have hat:at? (y++[t]) (((y++[t]).length:Int)-1)=some t:=at_e (n:=y.length) (by simp) (by simp)
   simp only[List.concat_eq_append]at hx hv hm ⊢
   rw[ck_o (fun _=>by simp only[inB,decide_eq_true_eq];simp only[List.length_append,List.length_singleton]at hm ⊢;omega)]
   rw[hat,decide_eq_true (by simp only[List.length_append,List.length_singleton];omega:(0:Int)<((y++[t]).length:Int))]
   simp only[qzbx,bd_s,cond_true]
   by_cases h0:t=0
   ·left
    subst h0
    rw[it_d rfl,qz3 (by simp only[List.length_append,List.length_singleton]at hm ⊢;omega),qzhn (by simp;omega)]
    have hs:sub (y++[(0:Int)]) 0 (((y++[(0:Int)]).length:Int)-1)=y:=by simp[sub]
    rw[hs]
    refine⟨y,rfl,⟨fun z hz=>hx z (by simp[hz]),?_,by simp at hm;omega⟩,by simp⟩
    rw[←hv,qzks];simp
   ·right
    rw[it_n h0]
    refine⟨_,rfl,?_⟩
    rw[←hv]
    refine wzbs hx (Or.inr ?_)
    rw[List.length_append,List.length_singleton,Nat.add_sub_cancel,qzbk]
    omega) ⟨h,rfl,hn⟩ (by show l.length<_;omega)
 rw[e,ho];rfl
theorem qzpr{l:List Int}(h:Dg b32 l){k:Int}(hk:0≤k):kzc l k=some (lf l k.toNat:Int):=by
 unfold kzc
 by_cases h1:k<(l.length:Int)
 ·rw[it_d h1,qzap h ⟨hk,h1⟩]
  have:=yz4 h k.toNat
  rw[wzg]at this
  simp only[bd_s]
  congr 1;omega
 ·rw[it_n h1,qzqc (by omega)];rfl
theorem wzea{x y:List Int}(hx:Dg b32 x)(hy:Dg b32 y)(nx:x.length≤2147483648)(ny:y.length≤2147483648):vzk x y=some (dl (val b32 x+val b32 y)):=by
 unfold vzk
 rw[qz3 (by omega)]
 obtain⟨o,e,h1,h2,h3⟩:=vzf (s:=(0,0,[])) (body:=vze x y) (fun s=>∃(c k:Nat) (l:List Int),s=((c:Int),(k:Int),l)∧k≤max x.length y.length+1∧c≤1∧l.length=k∧Dg b32 l∧vl b32 (lf l) k+c*b32.n ^ k=vl b32 (lf x) k+vl b32 (lf y) k) (fun s=>max x.length y.length+1-s.2.1.toNat) (fun l=>l.length=max x.length y.length+1∧Dg b32 l∧val b32 l=val b32 x+val b32 y) (by
  rintro s ⟨c,k,l,rfl,hk,hc,hl,hd,hv⟩
  simp only[vze]
  by_cases h:k<max x.length y.length+1
  ·left
   rw[it_d (by omega),qzpr hx (by omega),qzpr hy (by omega)]
   have a1:=yz4 hx k
   have a2:=yz4 hy k
   rw[wzg]at a1 a2
   simp only[bd_s,Int.toNat_natCast]
   rw[ck_d (by simp only[List.length_append,List.length_singleton];omega),qz3 (by omega)]
   have es:(((lf x k:Int)+(lf y k:Int))%18446744073709551616+(c:Int))%18446744073709551616=((lf x k+lf y k+c:Nat):Int):=by omega
   rw[es]
   have q1:Int.fdiv ((lf x k+lf y k+c:Nat):Int) 4294967296=((lf x k+lf y k+c) / 4294967296:Nat):=by
    rw[Int.fdiv_eq_ediv_of_nonneg _ (by omega)];omega
   rw[q1]
   refine⟨_,rfl,⟨_,k+1,_,rfl,by omega,by omega,by simp[hl],qzgw hd (qzgl ?_),?_⟩,by simp;omega⟩
   ·rw[wzg];omega
   ·refine qzxt (b:=b32) (s:=lf x k+lf y k+c) ?_ rfl ?_
    ·rw[←hv]
     congr 1
     exact wzr fun i hi=>qzei (by omega)
    ·rw[←hl,qzbk,wzg];omega
  ·right
   rw[it_n (by omega)]
   refine⟨_,rfl,by omega,hd,?_⟩
   have hk':k=max x.length y.length+1:=by omega
   have v1:vl b32 (lf x) k=val b32 x:=qzcx (by omega)
   have v2:vl b32 (lf y) k=val b32 y:=qzcx (by omega)
   rw[v1,v2]at hv
   have b1:=qzjo hx
   have b2:=qzjo hy
   have p1:b32.n ^ x.length≤b32.n ^ max x.length y.length:=Nat.pow_le_pow_right b32.pos (by omega)
   have p2:b32.n ^ y.length≤b32.n ^ max x.length y.length:=Nat.pow_le_pow_right b32.pos (by omega)
   have p3:b32.n ^ k=b32.n ^ max x.length y.length*4294967296:=by rw[hk',Nat.pow_succ];rfl
   have hc0:c=0:=by
    rcases Nat.eq_zero_or_pos c with h0|h0
    ·exact h0
    ·have h1:c=1:=by omega
     rw[h1]at hv;omega
   rw[hc0]at hv
   unfold val at hv ⊢
   rw[hl];omega) ⟨0,0,[],rfl,by omega,by omega,rfl,qzth,by simp[vl]⟩ (by dsimp only;omega)
 rw[e]
 simp only[bd_s]
 rw[qzbe h2 (by omega),h3];rfl
theorem qz26{x y:List Int}(hx:Dg b32 x)(hy:Dg b32 y)(nx:x.length≤4294967296)(h:val b32 y≤val b32 x):wzz x y=some (dl (val b32 x-val b32 y)):=by
 unfold wzz
 obtain⟨o,e,h1,h2,h3⟩:=vzf (s:=(0,0,[])) (body:=kzo x y) (fun s=>∃(w k:Nat) (l:List Int),s=((w:Int),(k:Int),l)∧k≤x.length∧w≤1∧l.length=k∧Dg b32 l∧vl b32 (lf l) k+vl b32 (lf y) k=vl b32 (lf x) k+w*b32.n ^ k) (fun s=>x.length-s.2.1.toNat) (fun l=>l.length=x.length∧Dg b32 l∧val b32 l=val b32 x-val b32 y) (by
  rintro s ⟨w,k,l,rfl,hk,hw,hl,hd,hv⟩
  simp only[kzo]
  by_cases h:k<x.length
  ·left
   rw[it_d (by omega),qzap hx (by omega),qzpr hy (by omega)]
   have a1:=yz4 hx k
   have a2:=yz4 hy k
   rw[wzg]at a1 a2
   simp only[bd_s,Int.toNat_natCast]
   rw[ck_d (by simp only[List.length_append,List.length_singleton];omega),qz3 (by omega)]
   by_cases hb:lf y k+w≤lf x k
   ·have es:((((lf x k:Int)%18446744073709551616-(lf y k:Int))%18446744073709551616-(w:Int))%18446744073709551616)=((lf x k-lf y k-w:Nat):Int):=by omega
    rw[es]
    have q1:Int.fdiv ((lf x k-lf y k-w:Nat):Int) 9223372036854775808=((0:Nat):Int):=by
     rw[Int.fdiv_eq_ediv_of_nonneg _ (by omega)];omega
    rw[q1]
    refine⟨_,rfl,⟨_,k+1,_,rfl,by omega,by omega,by simp[hl],qzgw hd (qzgl ?_),?_⟩,by simp;omega⟩
    ·rw[wzg];omega
    ·refine qzpl (b:=b32) (w:=w) ?_ ?_
     ·rw[←hv];congr 1;exact wzr fun i hi=>qzei (by omega)
     ·rw[←hl,qzbk,hl,wzg];omega
   ·have es:((((lf x k:Int)%18446744073709551616-(lf y k:Int))%18446744073709551616-(w:Int))%18446744073709551616)=((18446744073709551616+lf x k-lf y k-w:Nat):Int):=by omega
    rw[es]
    have q1:Int.fdiv ((18446744073709551616+lf x k-lf y k-w:Nat):Int) 9223372036854775808=((1:Nat):Int):=by
     rw[Int.fdiv_eq_ediv_of_nonneg _ (by omega)];omega
    rw[q1]
    refine⟨_,rfl,⟨_,k+1,_,rfl,by omega,by omega,by simp[hl],qzgw hd (qzgl ?_),?_⟩,by simp;omega⟩
    ·rw[wzg];omega
    ·refine qzpl (b:=b32) (w:=w) ?_ ?_
     ·rw[←hv];congr 1;exact wzr fun i hi=>qzei (by omega)
     ·rw[←hl,qzbk,hl,wzg];omega
  ·right
   rw[it_n (by omega)]
   refine⟨_,rfl,by omega,hd,?_⟩
   have hk':k=x.length:=by omega
   have v1:vl b32 (lf x) k=val b32 x:=by rw[hk'];rfl
   have v3:vl b32 (lf l) k=val b32 l:=by rw[←hl];rfl
   have v4:vl b32 (lf y) k≤val b32 y:=by
    rcases Nat.le_total k y.length with h'|h'
    ·exact qz6b h'
    ·rw[qzcx h'];exact Nat.le_refl _
   have hlt:=qzjo hd
   rw[v1,v3]at hv
   rw[hl]at hlt
   by_cases hy0:y.length≤k
   ·rw[qzcx hy0]at hv
    have hw0:w=0:=by
     rcases Nat.eq_zero_or_pos w with h0|h0
     ·exact h0
     ·have h1:w=1:=by omega
      rw[h1]at hv;omega
    rw[hw0]at hv;omega
   ·-- the digits of y above are 0,for y is not greater than x
    have hxl:=qzjo hx
    rw[←hk']at hxl
    have hsp:val b32 y=vl b32 (lf y) k+b32.n ^ k*vl b32 (fun i=>lf y (k+i)) (y.length-k):=by
     have:=qzo9 (b:=b32) (lf y) k (y.length-k)
     rw[show k+(y.length-k)=y.length by omega]at this
     exact this
    have hz:vl b32 (fun i=>lf y (k+i)) (y.length-k)=0:=by
     rcases Nat.eq_zero_or_pos (vl b32 (fun i=>lf y (k+i)) (y.length-k)) with h0 | h0
     ·exact h0
     ·have:b32.n ^ k*1≤b32.n ^ k*vl b32 (fun i=>lf y (k+i)) (y.length-k):=Nat.mul_le_mul_left _ h0
      omega
    rw[hz]at hsp
    have hw0:w=0:=by
     rcases Nat.eq_zero_or_pos w with h0|h0
     ·exact h0
     ·have h1:w=1:=by omega
      rw[h1]at hv;omega
    rw[hw0]at hv;omega) ⟨0,0,[],rfl,by omega,by omega,rfl,qzth,by simp[vl]⟩ (by dsimp only;omega)
 rw[e]
 simp only[bd_s]
 rw[qzbe h2 (by omega),h3];rfl
theorem wzbk{a b:Nat}(ha:a<4294967296)(hb:b<4294967296):((a:Int)%18446744073709551616*(b:Int))%18446744073709551616=((a*b:Nat):Int)∧a*b≤18446744065119617025:=by
 have h0:a*b≤4294967295*b:=Nat.mul_le_mul_right b (by omega)
 have h1:a*b≤18446744065119617025:=by omega
 refine⟨?_,h1⟩
 rw[show(a:Int)%18446744073709551616=a by omega,←Int.natCast_mul]
 exact Int.emod_eq_of_lt (by omega) (by omega)
def Hold(p:Prop):Prop:=p
theorem qz3g{x y l:List Int}{i:Nat}(hx:Dg b32 x)(hy:Dg b32 y)(nx:x.length≤1073741824)(ny:y.length≤1073741824)(h:i<x.length)(hl:l.length=x.length+y.length+1)(hd:Dg b32 l)(hv:Hold (val b32 l=vl b32 (lf x) i*val b32 y)) :
  ∃m,lp (jzl (i:Int) (lf x i:Int) y) (0,0,l)=some m∧m.length=x.length+y.length+1∧Dg b32 m∧Hold (val b32 m=vl b32 (lf x) (i+1)*val b32 y):=by
 have a1:=yz4 hx i
 rw[wzg]at a1
 exact vzf (s:=(0,0,l)) (body:=jzl (i:Int) (lf x i:Int) y) (fun s=>∃(c k:Nat) (m:List Int),s=((c:Int),(k:Int),m)∧k≤y.length+1∧c<4294967296∧m.length=x.length+y.length+1∧Dg b32 m∧Hold (val b32 m+c*b32.n ^ (i+k)=vl b32 (lf x) i*val b32 y+lf x i*vl b32 (lf y) k*b32.n ^ i)) (fun s=>y.length+1-s.2.1.toNat) (fun m=>m.length=x.length+y.length+1∧Dg b32 m∧Hold (val b32 m=vl b32 (lf x) (i+1)*val b32 y)) (by
  rintro s ⟨c,k,m,rfl,hk,hc,hm,hdm,hvm⟩
  simp only[jzl]
  have hkm:0<c→k≤y.length:=by
   intro hc0
   rcases Nat.lt_or_ge y.length k with h'|h'
   ·have e1:vl b32 (lf y) k=val b32 y:=qzcx (by omega)
    rw[e1]at hvm
    exact qzzl (b:=b32) (out:=lf m) (x:=lf x) (y:=lf y) (N:=m.length) (m:=y.length) (a:=lf x i) (fun j _=>yz4 hy j) (by rw[wzg];exact a1) (qzk9 fun j _=>yz4 hx j) hvm hc0
   ·exact h'
  by_cases hgo:k<y.length∨0<c
  ·left
   have hk1:k≤y.length:=hgo.elim (by omega) hkm
   have hix:i+k<m.length:=by omega
   have a2:=yz4 hy k
   have a3:=yz4 hdm (i+k)
   rw[wzg]at a2 a3
   obtain⟨p1,p2⟩:=wzbk a1 a2
   rw[it_t (by rcases hgo with h'|h'<;>simp[h']),qzpr hy (by omega)]
   simp only[bd_s,Int.toNat_natCast]
   rw[qz3 (by omega),qzap hdm (by omega),show Int.toNat ((i:Int)+k)=i+k by omega]
   simp only[bd_s]
   rw[qz3 (by omega),qz3 (by omega)]
   rw[p1]
   generalize hp:lf x i*lf y k=p at *
   have es:(((p:Int)+(lf m (i+k):Int)%18446744073709551616)%18446744073709551616+(c:Int))%18446744073709551616=((p+lf m (i+k)+c:Nat):Int):=by omega
   rw[es]
   have q1:Int.fdiv ((p+lf m (i+k)+c:Nat):Int) 4294967296=((p+lf m (i+k)+c) / 4294967296:Nat):=by
    rw[Int.fdiv_eq_ediv_of_nonneg _ (by omega)];omega
   have q2:((p+lf m (i+k)+c:Nat):Int)%4294967296=((p+lf m (i+k)+c)%4294967296:Nat):=by omega
   rw[q1,q2]
   refine⟨_,rfl,⟨_,k+1,_,rfl,by omega,by omega,by simp[hm],qztw hdm (by rw[wzg];omega),?_⟩,by dsimp only;omega⟩
   have hst:=qzw3 (b:=b32) (out:=lf m) (y:=lf y) (N:=m.length) (i:=i) (k:=k) (a:=lf x i) (c:=c) (s:=p+lf m (i+k)+c) hvm hix (by rw[←hp])
   rw[←hst]
   congr 1
   unfold val
   rw[List.length_set]
   refine wzr fun j hj=>?_
   rw[qzmj hix,Int.toNat_natCast,wzg]
  ·right
   have hk2:y.length≤k:=by omega
   have hc2:c=0:=by omega
   rw[it_f (by simp;omega)]
   refine⟨_,rfl,hm,hdm,?_⟩
   unfold Hold at hvm ⊢;rw[qzcx hk2,hc2]at hvm
   rw[qzda,Nat.add_mul]
   have:lf x i*b32.n ^ i*val b32 y=lf x i*val b32 y*b32.n ^ i:=by simp only[Nat.mul_comm,Nat.mul_left_comm,Nat.mul_assoc]
   omega) ⟨0,0,l,rfl,by omega,by omega,hl,hd,by unfold Hold at hv ⊢;rw[hv];simp[vl]⟩ (by dsimp only;omega)
theorem qz3j{x y:List Int}(hx:Dg b32 x)(hy:Dg b32 y)(nx:x.length≤1073741824)(ny:y.length≤1073741824):wz1 x y=some (dl (val b32 x*val b32 y)):=by
 unfold wz1
 rw[qz3 (by omega),qz3 (by omega),qzwy (by omega)]
 rw[show Int.toNat ((x.length:Int)+y.length+1)=x.length+y.length+1 by omega]
 obtain⟨o,e,h1,h2,h3⟩:=vzf (s:=(0,List.replicate (x.length+y.length+1) 0)) (body:=kzu x y) (fun s=>∃(i:Nat) (l:List Int),s=((i:Int),l)∧i≤x.length∧l.length=x.length+y.length+1∧Dg b32 l∧Hold (val b32 l=vl b32 (lf x) i*val b32 y)) (fun s=>x.length-s.1.toNat) (fun l=>l.length=x.length+y.length+1∧Dg b32 l∧Hold (val b32 l=val b32 x*val b32 y)) (by
  rintro s ⟨i,l,rfl,hi,hl,hd,hv⟩
  simp only[kzu]
  by_cases h:i<x.length
  ·left
   rw[it_d (by omega),qzap hx (by omega)]
   simp only[bd_s,Int.toNat_natCast]
   obtain⟨o,e,g1,g2,g3⟩:=qz3g hx hy nx ny h hl hd hv
   rw[e]
   simp only[bd_s]
   rw[qz3 (by omega)]
   exact⟨_,rfl,⟨i+1,o,rfl,by omega,g1,g2,g3⟩,by dsimp only;omega⟩
  ·right
   rw[it_n (by omega)]
   refine⟨_,rfl,hl,hd,?_⟩
   rw[show i=x.length by omega]at hv;exact hv) ⟨0,_,rfl,by omega,by simp,qzml,by
    unfold Hold val
    rw[wzr (g:=fun _=>0) fun i _=>qzjt _ i,qznr];simp[vl]⟩ (by dsimp only;omega)
 rw[e]
 simp only[bd_s]
 rw[qzbe h2 (by omega),show val b32 o=_ from h3];rfl
theorem qz3d{n:Nat}(h:n<18446744073709551616):IntKind.wrap .u64 (n:Int)=n:=by
 unfold IntKind.wrap
 simp[IntKind.signed,IntKind.bits]
 omega
theorem qzs8{hi lo:Nat}(h1:hi<4294967296)(h2:lo<4294967296):bitI .or .u64 (((hi:Int)*4294967296)%18446744073709551616) ((lo:Int)%18446744073709551616)=((hi*4294967296+lo:Nat):Int):=by
 rw[show((hi:Int)*4294967296)%18446744073709551616=((hi*4294967296:Nat):Int) by omega,show(lo:Int)%18446744073709551616=((lo:Nat):Int) by omega]
 have e:hi*4294967296+lo=(hi*4294967296) ||| lo:=by
  have:=Nat.shiftLeft_add_eq_or_of_lt (b:=lo) (i:=32) (by omega) hi
  rwa [Nat.shiftLeft_eq]at this
 have eb:(BitVec.ofInt 64 ((hi*4294967296:Nat):Int) ||| BitVec.ofInt 64 (lo:Int)).toNat=hi*4294967296+lo:=by
  rw[BitVec.toNat_or,BitVec.ofInt_natCast,BitVec.ofInt_natCast,BitVec.toNat_ofNat,BitVec.toNat_ofNat,Nat.mod_eq_of_lt (by omega),Nat.mod_eq_of_lt (by omega),←e]
 unfold bitI
 show IntKind.wrap .u64 (((BitVec.ofInt 64 ((hi*4294967296:Nat):Int) ||| BitVec.ofInt 64 (lo:Int)).toNat:Nat):Int)=_
 rw[eb]
 exact qz3d (by omega)
theorem qz3p{x:List Int}{d:Nat}(hx:Dg b32 x)(nx:x.length≤1073741824)(hd0:0<d)(hd1:d<4294967296):jzs x (d:Int)=some (dl (val b32 x / d),((val b32 x%d:Nat):Int)):=by
 unfold jzs
 rw[qzwy (by omega),qz3 (by omega)]
 rw[show Int.toNat (x.length:Int)=x.length by omega]
 obtain⟨⟨r',o⟩,e,h1,h2,r,hr,h3,h4⟩:=vzf (s:=(0,(x.length:Int)-1,List.replicate x.length 0)) (body:=kzs (d:Int) x) (fun s=>∃(r k:Nat) (l:List Int),s=((r:Int),(k:Int)-1,l)∧k≤x.length∧r<d∧l.length=x.length∧Dg b32 l∧(∀j,j<k→lf l j=0)∧Hold (val b32 x=d*val b32 l+r*b32.n ^ k+vl b32 (lf x) k)) (fun s=>(s.2.1+1).toNat) (fun s=>s.2.length=x.length∧Dg b32 s.2∧(∃r:Nat,s.1=(r:Int)∧r<d∧Hold (val b32 x=d*val b32 s.2+r))) (by
  rintro s ⟨r,k,l,rfl,hk,hr,hl,hd,hz,hv⟩
  simp only[kzs]
  by_cases h:0<k
  ·left
   obtain⟨k,rfl⟩:∃j,k=j+1:=⟨k-1,by omega⟩
   have hkk:((k+1:Nat):Int)-1=(k:Int):=by omega
   rw[hkk]
   rw[it_d (by omega),qzap hx (by omega)]
   have a1:=yz4 hx k
   rw[wzg]at a1
   simp only[bd_s,Int.toNat_natCast]
   rw[show(d:Int)%18446744073709551616=(d:Int) by omega]
   rw[qzwv (by omega),qzwv (by omega),qzap hd (by omega),qzs8 (by omega) a1]
   simp only[bd_s,Int.toNat_natCast]
   rw[qz3 (by omega)]
   have hq:=Nat.div_add_mod (r*4294967296+lf x k) d
   have hm:=Nat.mod_lt (r*4294967296+lf x k) hd0
   have hqb:(r*4294967296+lf x k) / d<4294967296:=by
    rw[Nat.div_lt_iff_lt_mul hd0]
    have:(r+1)*4294967296≤d*4294967296:=Nat.mul_le_mul_right _ hr
    rw[Nat.mul_comm 4294967296 d];omega
   rw[Int.tmod_eq_emod_of_nonneg (by omega),Int.tdiv_eq_ediv_of_nonneg (by omega),←Int.natCast_emod,←Int.natCast_ediv]
   generalize hQ:(r*4294967296+lf x k) / d=q at *
   generalize hR:(r*4294967296+lf x k)%d=r' at *
   rw[show((q:Int)%18446744073709551616)%4294967296=(q:Int) by omega]
   refine⟨_,rfl,⟨r',k,_,rfl,by omega,hm,by rw[List.length_set];exact hl,qztw hd (by rw[wzg];omega),?_,?_⟩,by dsimp only;omega⟩
   ·intro j hj
    rw[qzmj (by omega),if_neg (by omega)]
    exact hz j (by omega)
   ·have hst:=qzwz (b:=b32) (out:=lf l) (x:=lf x) (n:=x.length) (k:=k) (by':=d) (r:=r) (q:=q) (r':=r') (by unfold Hold val at hv;rw[hl]at hv;exact hv) (by omega) (hz k (by omega)) (by rw[wzg,Nat.mul_comm q d];exact hq.symm)
    unfold Hold
    rw[show val b32 x=vl b32 (lf x) x.length from rfl,hst]
    congr 3
    unfold val
    rw[List.length_set,hl]
    refine wzr fun j hj=>?_
    rw[qzmj (by omega),Int.toNat_natCast]
  ·right
   have hk0:k=0:=by omega
   subst hk0
   rw[it_n (by omega)]
   refine⟨_,rfl,hl,hd,r,rfl,hr,?_⟩
   unfold Hold at *
   rw[hv];simp[vl]) ⟨0,x.length,_,rfl,Nat.le_refl _,hd0,by simp,qzml,fun j _=>qzjt _ j,by
    unfold Hold
    have:val b32 (List.replicate x.length 0)=0:=by
     unfold val
     rw[wzr (g:=fun _=>0) fun i _=>qzjt _ i,qznr]
    rw[this];simp[val]⟩ (by dsimp only;omega)
 dsimp only at hr h1 h2 h4
 subst hr
 rw[e]
 simp only[bd_s]
 rw[qzbe h2 (by omega)]
 simp only[bd_s]
 unfold Hold at h4
 have hv1:val b32 x / d=val b32 o:=by
  rw[h4,Nat.mul_add_div hd0,Nat.div_eq_of_lt h3];rfl
 have hv2:val b32 x%d=r:=by
  rw[h4,Nat.mul_add_mod,Nat.mod_eq_of_lt h3]
 rw[hv1,hv2]
 congr 2;omega
theorem qzt2{v d:Nat}(hv:ln v≤1073741824)(hd0:0<d)(hd1:d<4294967296):jzs (dl v) (d:Int)=some (dl (v / d),((v%d:Nat):Int)):=by
 rw[qz3p (qza4 v) (by rw[wzi];exact hv) hd0 hd1,qzc4]
theorem qztq{d:Nat}(h0:0<d)(h1:d<4294967296):dl d=[(d:Int)]:=by
 have hd:Dg b32 [(d:Int)]:=qzgl (by rw[wzg];omega)
 have e:=wzbs hd (Or.inr (by simp[lf];omega))
 have hv:val b32 [(d:Int)]=d:=by simp[val,vl,lf]
 rw[hv]at e
 exact e.symm
theorem qzo8{u v:Nat}(hu:ln u≤1073741824)(hv:ln v≤1073741824):wz1 (dl u) (dl v)=some (dl (u*v)):=by
 rw[qz3j (qza4 u) (qza4 v) (by rw[wzi];exact hu) (by rw[wzi];exact hv),qzc4,qzc4]
theorem wzdx{u v:Nat}(hu:ln u≤1073741824)(hv:ln v≤1073741824):vzk (dl u) (dl v)=some (dl (u+v)):=by
 rw[wzea (qza4 u) (qza4 v) (by rw[wzi];omega) (by rw[wzi];omega),qzc4,qzc4]
theorem qzox{u v:Nat}(hu:ln u≤1073741824)(h:v≤u):wzz (dl u) (dl v)=some (dl (u-v)):=by
 rw[qz26 (qza4 u) (qza4 v) (by rw[wzi];omega) (by rw[qzc4,qzc4];exact h),qzc4,qzc4]
theorem qzk7{v b:Nat}(hv:ln v≤1073741824)(hb:b≤31):wzm (dl v) (b:Int)=some (dl (v*2 ^ b)):=by
 unfold wzm
 have p1:2 ^ b≤2 ^ 31:=Nat.pow_le_pow_right (by decide) hb
 have p2:0<2 ^ b:=Nat.pow_pos (by decide)
 have e:(1*2 ^ min (Int.toNat (b:Int)) 32)%4294967296=((2 ^ b:Nat):Int):=by
  rw[show min (Int.toNat (b:Int)) 32=b by omega,Int.one_mul,Int.natCast_pow]
  have p3:((2:Nat):Int) ^ b=((2 ^ b:Nat):Int):=(Int.natCast_pow 2 b).symm
  simp only[Int.cast_ofNat_Int]at p3 ⊢
  rw[p3]
  omega
 rw[it_n (by omega),ck_d (by omega),e,←qztq p2 (by omega),qzo8 hv (Nat.le_trans (qzi4 (n:=1) (by rw[Nat.pow_one,wzg];omega)) (by omega))]
 rfl
theorem qzu5{v b:Nat}(hv:ln v≤1073741824)(hb:b≤31):wzm (dl v) (-(b:Int))=some (dl (v / 2 ^ b)):=by
 by_cases h0:b=0
 ·subst h0
  have:=qzk7 (v:=v) (b:=0) hv (by omega)
  simp only[Int.natCast_zero,Nat.pow_zero,Nat.mul_one]at this
  simp[this]
 unfold wzm
 have p1:2 ^ b≤2 ^ 31:=Nat.pow_le_pow_right (by decide) hb
 have p2:0<2 ^ b:=Nat.pow_pos (by decide)
 have e:(1*2 ^ min (Int.toNat (- -(b:Int))) 32)%4294967296=((2 ^ b:Nat):Int):=by
  rw[show min (Int.toNat (- -(b:Int))) 32=b by omega,Int.one_mul,Int.natCast_pow]
  have p3:((2:Nat):Int) ^ b=((2 ^ b:Nat):Int):=(Int.natCast_pow 2 b).symm
  simp only[Int.cast_ofNat_Int]at p3 ⊢
  rw[p3]
  omega
 rw[it_d (by omega),qz3 (by omega),ck_d (by omega),e,qzt2 hv p2 (by omega)]
 rfl
theorem qzto(x:Int):qzcc x=some false:=by unfold qzcc;simp
theorem qzrb(x:Int):qzai x=some false:=by unfold qzai;simp
def cmpI(x y:Int):Int:=if x<y then -1 else if y<x then 1 else 0
theorem wzez(x y:Int):qzca x y=some (cmpI x y):=by
 unfold qzca cmpI
 rw[qzto,qzto]
 simp only[bd_s,qzil]
 split
 ·rename_i h;rw[it_d h]
 ·rename_i h
  rw[it_n h]
  split
  ·rename_i h;rw[it_d h]
  ·rename_i h;rw[it_n h]
theorem wzdl(x y:Int):qzax x y=some (cmpI x y):=by
 unfold qzax cmpI
 rw[qzrb,qzrb]
 simp only[bd_s,qzil]
 split
 ·rename_i h;rw[it_d h]
 ·rename_i h
  rw[it_n h]
  split
  ·rename_i h;rw[it_d h]
  ·rename_i h;rw[it_n h]
theorem qzhg{u v:Nat}(hu:ln u≤1073741824)(hv:ln v≤1073741824):wzl (dl u) (dl v)=some (cmpI u v):=by
 unfold wzl
 rw[wzez,wzi,wzi]
 simp only[bd_s]
 rcases Nat.lt_trichotomy (ln u) (ln v) with h|h|h
 ·have hlt:u<v:=by
   rcases Nat.lt_or_ge u v with h'|h'
   ·exact h'
   ·have:=qzah h';omega
  rw[show cmpI (ln u:Int) (ln v:Int) = -1 by unfold cmpI;rw[if_pos (by omega)],qzhj (by omega),show cmpI (u:Int) (v:Int) = -1 by unfold cmpI;rw[if_pos (by omega)]]
 ·rw[show cmpI (ln u:Int) (ln v:Int)=0 by unfold cmpI;rw[if_neg (by omega),if_neg (by omega)],qzk5 rfl,qz3 (by omega)]
  obtain⟨o,e,ho⟩:=vzf (s:=(ln u:Int)-1) (body:=jz2 (dl u) (dl v)) (fun s=>∃k:Nat,s=(k:Int)-1∧k≤ln u∧∀j,k≤j→j<ln u→dg b32 u j=dg b32 v j) (fun s=>(s+1).toNat) (fun o=>o=if u=v then .inl () else .inr (cmpI u v)) (by
   rintro s ⟨k,rfl,hk,hj⟩
   simp only[jz2]
   by_cases h0:0<k
   ·obtain⟨k,rfl⟩:∃j,k=j+1:=⟨k-1,by omega⟩
    have hkk:((k+1:Nat):Int)-1=(k:Int):=by omega
    rw[hkk,it_d (by omega),qzap (qza4 u) (by rw[wzi];omega),qzap (qza4 v) (by rw[wzi];omega)]
    simp only[bd_s,Int.toNat_natCast]
    rw[wzdl,qzfb,qzfb]
    simp only[bd_s]
    have hul:vl b32 (dg b32 u) (ln u)=u:=qznv u
    have hvl:vl b32 (dg b32 v) (ln u)=v:=by rw[h];exact qznv v
    rcases Nat.lt_trichotomy (dg b32 u k) (dg b32 v k) with h1|h1|h1
    ·right
     have hlt:=qzm5 (b:=b32) (f:=dg b32 u) (g:=dg b32 v) (fun i _=>qzf3 u i) h1 (n:=ln u) (by omega) (fun i hi hi2=>hj i (by omega) hi2)
     rw[hul,hvl]at hlt
     rw[show cmpI (dg b32 u k:Int) (dg b32 v k:Int) = -1 by unfold cmpI;rw[if_pos (by omega)],qzhj (by omega)]
     refine⟨_,rfl,?_⟩
     rw[if_neg (by omega),show cmpI (u:Int) (v:Int) = -1 by unfold cmpI;rw[if_pos (by omega)]]
    ·left
     rw[show cmpI (dg b32 u k:Int) (dg b32 v k:Int)=0 by unfold cmpI;rw[if_neg (by omega),if_neg (by omega)],qzk5 rfl,qz3 (by omega)]
     refine⟨_,rfl,⟨k,rfl,by omega,fun j h2 h3=>?_⟩,by omega⟩
     rcases Nat.lt_or_ge k j with h4|h4
     ·exact hj j (by omega) h3
     ·rw[show j=k by omega];exact h1
    ·right
     have hlt:=qzm5 (b:=b32) (f:=dg b32 v) (g:=dg b32 u) (fun i _=>qzf3 v i) h1 (n:=ln u) (by omega) (fun i hi hi2=>(hj i (by omega) hi2).symm)
     rw[hul,hvl]at hlt
     rw[show cmpI (dg b32 u k:Int) (dg b32 v k:Int)=1 by unfold cmpI;rw[if_neg (by omega),if_pos (by omega)],qzhj (by omega)]
     refine⟨_,rfl,?_⟩
     rw[if_neg (by omega),show cmpI (u:Int) (v:Int)=1 by unfold cmpI;rw[if_neg (by omega),if_pos (by omega)]]
   ·right
    rw[it_n (by omega)]
    refine⟨_,rfl,?_⟩
    have huv:u=v:=by
     rw[←qznv u,←qznv v,←h]
     exact wzr fun i hi=>hj i (by omega) hi
    rw[if_pos huv]) ⟨ln u,rfl,Nat.le_refl _,fun j h1 h2=>by omega⟩ (by show((ln u:Int)-1+1).toNat<_;omega)
  rw[e,ho]
  by_cases huv:u=v
  ·subst huv
   rw[if_pos rfl,show cmpI (u:Int) (u:Int)=0 by unfold cmpI;rw[if_neg (by omega),if_neg (by omega)]]
   rfl
  ·rw[if_neg huv];rfl
 ·have hlt:v<u:=by
   rcases Nat.lt_or_ge v u with h'|h'
   ·exact h'
   ·have:=qzah h';omega
  rw[show cmpI (ln u:Int) (ln v:Int)=1 by unfold cmpI;rw[if_neg (by omega),if_pos (by omega)],qzhj (by omega),show cmpI (u:Int) (v:Int)=1 by unfold cmpI;rw[if_neg (by omega),if_pos (by omega)]]
theorem wzgz{v:Nat}(hv:ln v≤1073741824)(h0:v≠0):∃b:Nat,lp (kzx (dl v)) 0=some (b:Int)∧b≤31∧2147483648≤dg b32 v (ln v-1)*2 ^ b∧dg b32 v (ln v-1)*2 ^ b<4294967296:=by
 have hp:=qzmv h0
 have ht:dg b32 v (ln v-1)≠0:=(wzdw v).resolve_left (by omega)
 have htb:=qzf3 (b:=b32) v (ln v-1)
 rw[wzg]at htb
 obtain⟨o,e,b,rfl,h1,h2,h3⟩:=vzf (s:=(0:Int)) (body:=kzx (dl v)) (fun s=>∃b:Nat,s=(b:Int)∧b≤31∧dg b32 v (ln v-1)*2 ^ b<4294967296) (fun s=>32-s.toNat) (fun o=>∃b:Nat,o=(b:Int)∧b≤31∧2147483648≤dg b32 v (ln v-1)*2 ^ b∧dg b32 v (ln v-1)*2 ^ b<4294967296) (by
  rintro s ⟨b,rfl,hb,hlt⟩
  simp only[kzx,wzi]
  rw[qz3 (by omega),qzap (qza4 v) (by rw[wzi];omega)]
  simp only[bd_s]
  rw[ck_d (by omega),show Int.toNat ((ln v:Int)-1)=ln v-1 by omega,qzfb,show min (Int.toNat (b:Int)) 32=b by omega]
  have e1:(dg b32 v (ln v-1):Int)*2 ^ b=((dg b32 v (ln v-1)*2 ^ b:Nat):Int):=by
   have p3:((2:Nat):Int) ^ b=((2 ^ b:Nat):Int):=(Int.natCast_pow 2 b).symm
   simp only[Int.cast_ofNat_Int]at p3
   rw[p3,←Int.natCast_mul]
  rw[e1]
  generalize hT:dg b32 v (ln v-1)*2 ^ b=T at *
  by_cases h:T<2147483648
  ·left
   rw[it_d (by omega),qz3 (by omega)]
   have hb31:b<31:=by
    rcases Nat.lt_or_ge b 31 with h'|h'
    ·exact h'
    ·have h6:1*2 ^ 31≤dg b32 v (ln v-1)*2 ^ b:=Nat.mul_le_mul (by omega) (Nat.pow_le_pow_right (by decide) h')
     omega
   refine⟨_,rfl,⟨b+1,by omega,by omega,?_⟩,by omega⟩
   rw[Nat.pow_succ,←Nat.mul_assoc,hT];omega
  ·right
   rw[it_n (by omega)]
   exact⟨_,rfl,b,rfl,hb,by omega,by omega⟩) ⟨0,rfl,by omega,by simpa using htb⟩ (by show 32-(0:Int).toNat<_;omega)
 exact⟨b,e,h1,h2,h3⟩
theorem wzgu{j n d g left t0:Nat}{l r:List Int}(hl:Dg b32 l)(hr:Dg b32 r)(hn:r.length=n)(h2:2≤n)(hj:j+n≤l.length)(hL:l.length≤4294967296)
  (key:∀g left:Nat,left+g*lf r (n-1)=t0→left*b32.n+lf l (j+n-2)<g*lf r (n-2)→d<g) (hd:d≤g) (hg:g<4294967296) (hleft:left+g*lf r (n-1)=t0) (hlb:left<18446744073709551616) :
  ∃g':Nat,lp (kz2 (j:Int) l r) ((g:Int),(left:Int))=some (g':Int)∧d≤g'∧g'≤g:=by
 obtain⟨o,e,g',rfl,h3,h4⟩:=vzf (s:=((g:Int),(left:Int))) (body:=kz2 (j:Int) l r) (fun s=>∃g2 left:Nat,s=((g2:Int),(left:Int))∧d≤g2∧g2≤g∧Hold (left+g2*lf r (n-1)=t0)∧left<18446744073709551616) (fun s=>s.1.toNat) (fun o=>∃g':Nat,o=(g':Int)∧d≤g'∧g'≤g) (by
  clear hd hleft hlb
  rintro s ⟨g2,left,rfl,hd,hg2,hv,hb⟩
  have hg3:g2<4294967296:=by omega
  simp only[kz2]
  have a1:=yz4 hr (n-1)
  have a2:=yz4 hr (n-2)
  have a3:=yz4 hl (j+n-2)
  rw[wzg]at a1 a2 a3
  have key':=key g2 left hv
  clear key
  rw[hn]
  rw[ck_o (fun _=>by simp only[inB,decide_eq_true_eq];omega)]
  by_cases h:left<4294967296
  ·have hdl:decide ((left:Int)<4294967296)=true:=decide_eq_true (by omega)
   rw[hdl]
   simp only[qzbx,Bool.not_true,Bool.false_or,cond_true]
   rw[qzap hr (by omega)]
   simp only[bd_s]
   rw[ck_t (by simp only[inB,decide_eq_true_eq];omega),ck_t (by simp only[inB,decide_eq_true_eq];omega),qzap hl (by omega)]
   simp only[bd_s]
   rw[show Int.toNat ((n:Int)-2)=n-2 by omega,show Int.toNat ((j:Int)+n-2)=j+n-2 by omega]
   rw[qzs8 h a3]
   obtain⟨m1,m2⟩:=wzbk hg3 a2
   rw[show((g2:Int)*((lf r (n-2):Int)%18446744073709551616))%18446744073709551616=((g2*lf r (n-2):Nat):Int) by
    rw[show(lf r (n-2):Int)%18446744073709551616=lf r (n-2) by omega]
    rw[show(g2:Int)%18446744073709551616=g2 by omega]at m1
    exact m1]
   rw[wzg]at key'
   generalize g2*lf r (n-2)=q at *
   by_cases hc:left*4294967296+lf l (j+n-2)<q
   ·left
    have hdg:=key' hc
    rw[it_d (by omega),qz3 (by omega),qzap hr (by omega),show Int.toNat ((n:Int)-1)=n-1 by omega]
    simp only[bd_s]
    refine⟨_,rfl,⟨g2-1,left+lf r (n-1),?_,by omega,by omega,?_,by omega⟩,by dsimp only;omega⟩
    ·refine Prod.ext ?_ ?_
     ·dsimp only;omega
     ·dsimp only;omega
    ·unfold Hold at hv ⊢
     obtain⟨k,rfl⟩:∃k,g2=k+1:=⟨g2-1,by omega⟩
     rw[←hv,Nat.add_sub_cancel,Nat.add_mul];omega
   ·right
    rw[it_n (by omega)]
    exact⟨_,rfl,g2,rfl,hd,hg2⟩
  ·have hdl:decide ((left:Int)<4294967296)=false:=decide_eq_false (by omega)
   rw[hdl]
   simp only[wzcn,bd_s,Bool.not_false,Bool.true_or,cond_false,wzdp,qzil]
   right
   exact⟨_,rfl,g2,rfl,hd,hg2⟩) ⟨g,left,rfl,hd,Nat.le_refl _,hleft,hlb⟩ (by show(g:Int).toNat<_;omega)
 exact⟨g',e,h3,h4⟩
theorem wzey{l:List Int}{lo hi i:Nat}(h:i<hi-lo):lf (sub l (lo:Int) (hi:Int)) i=lf l (lo+i):=by
 unfold lf sub
 rw[show Int.toNat (lo:Int)=lo by omega,show Int.toNat ((hi:Int)-lo)=hi-lo by omega,List.getElem?_take,if_pos h,List.getElem?_drop]
theorem qzqq{l:List Int}{lo hi:Nat}(h:lo≤hi)(h2:hi≤l.length):(sub l (lo:Int) (hi:Int)).length=hi-lo:=by
 simp only[sub,List.length_take,List.length_drop];omega
theorem qzs6(v j i:Nat):dg b32 v (j+i)=dg b32 (v / b32.n ^ j) i:=by unfold dg;rw[Nat.pow_add,Nat.div_div_eq_div_mul]
theorem wzc5{l:List Int}{R j n:Nat}(hd:∀i,lf l i=dg b32 R i)(hj:j+n≤l.length)(hR:R<b32.n ^ (j+n)):val b32 (sub l (j:Int) ((j+n:Nat):Int))=R / b32.n ^ j:=by
 unfold val
 rw[qzqq (by omega) hj,show j+n-j=n by omega]
 rw[wzr (g:=dg b32 (R / b32.n ^ j)) fun i hi=>by rw[wzey (by omega),hd,qzs6],qzk3]
 refine Nat.mod_eq_of_lt ?_
 rw[Nat.div_lt_iff_lt_mul (b32.pw j),←Nat.pow_add,Nat.add_comm n j];exact hR
theorem qzoz{l:List Int}(h0:0<l.length)(h:l.length≤4294967296):vzi l=some l:=by
 unfold vzi
 exact ck_t (by simp;omega)
theorem wzg1{j n P V g:Nat}{l:List Int}(hl:Dg b32 l)(hn:ln V=n)(hj:j+n+1≤l.length)(hL:l.length≤1073741824)(hP:val b32 (sub l (j:Int) ((j+(n+1):Nat):Int))=P)(hV:0<V)(hd:P / V≤g)(hg:g<4294967296) :
  lp (yzk (j:Int) l (dl V)) ((g:Int),dl (V*g))=some (((P / V:Nat):Int),dl (V*(P / V))):=by
 have hlen:(sub l (j:Int) ((j+(n+1):Nat):Int)).length=n+1:=by rw[qzqq (by omega) (by omega)];omega
 have hPl:ln P≤n+1:=by
  have:=qzjo (qzsq hl (j:Int) ((j+(n+1):Nat):Int))
  rw[hP,hlen]at this
  exact qzi4 this
 refine qznm (fun s=>∃g:Nat,s=((g:Int),dl (V*g))∧P / V≤g∧g<4294967296) (fun s=>s.1.toNat) _ ?_ ⟨g,rfl,hd,hg⟩ (by show(g:Int).toNat<_;omega)
 rintro s ⟨g,rfl,hd,hg⟩
 simp only[yzk,wzi,hn]
 have hVg:ln (V*g)≤n+1:=by
  refine qzi4 ?_
  rw[Nat.pow_succ]
  refine Nat.mul_lt_mul'' ?_ (by rw[wzg];exact hg)
  rw[←hn];exact qze1 V
 rw[show(j:Int)+n+1=((j+(n+1):Nat):Int) by omega]
 (try rw[qzhn (by omega)])
 rw[qzoz (by omega) (by omega)]
 simp only[bd_s]
 rw[qzbe (qzsq hl _ _) (by omega),hP]
 simp only[bd_s]
 rw[qzhg (by omega) (by omega)]
 simp only[bd_s]
 have f1:P<V*g→P / V<g:=fun h=>by rw[Nat.div_lt_iff_lt_mul hV,Nat.mul_comm];exact h
 have f2:¬P<V*g→g≤P / V:=fun h=>by rw[Nat.le_div_iff_mul_le hV,Nat.mul_comm];omega
 generalize P / V=D at *
 by_cases h:P<V*g
 ·left
  have hlt:=f1 h
  have hle:V≤V*g:=Nat.le_mul_of_pos_right V (by omega)
  rw[it_d (by unfold cmpI;rw[if_pos (by omega)];omega),qzox (by omega) hle]
  simp only[bd_s]
  refine⟨_,rfl,⟨g-1,?_,by omega,by omega⟩,by dsimp only;omega⟩
  refine Prod.ext ?_ ?_
  ·dsimp only;omega
  ·dsimp only
   congr 1
   obtain⟨k,rfl⟩:∃k,g=k+1:=⟨g-1,by omega⟩
   rw[Nat.add_sub_cancel,Nat.mul_add];omega
 ·right
  have heq:D=g:=Nat.le_antisymm hd (f2 h)
  rw[it_n (by unfold cmpI;rw[if_neg (by omega)];split<;>omega),heq]
theorem qzti{l:List Int}(hl:Dg b32 l)(i:Nat):lf l i=dg b32 (val b32 l) i:=by
 by_cases h:i<l.length
 ·exact(qzwx (fun i _=>yz4 hl i) i h).symm
 ·rw[qzqc (by omega),qzw4]
  exact Nat.lt_of_lt_of_le (qzjo hl) (Nat.pow_le_pow_right b32.pos (by omega))
theorem qz3v(R j:Nat):R=R%b32.n ^ j+b32.n ^ j*(R / b32.n ^ j):=(Nat.mod_add_div R (b32.n ^ j)).symm
theorem wzdg{l d:List Int}{j n:Nat}(hl:Dg b32 l)(hd:Dg b32 d)(hdn:d.length≤n)(hj:j+n≤l.length)(hz:val b32 l<b32.n ^ (j+n)) :
  Dg b32 (qzy (qzy l j (List.replicate n 0)) j (List.take n d))∧(qzy (qzy l j (List.replicate n 0)) j (List.take n d)).length=l.length∧val b32 (qzy (qzy l j (List.replicate n 0)) j (List.take n d))=val b32 d*b32.n ^ j+val b32 l%b32.n ^ j:=by
 rw[List.take_of_length_le hdn]
 have e1:(qzy l j (List.replicate n 0)).length=l.length:=qzc1 (by simp;omega)
 have e2:(qzy (qzy l j (List.replicate n 0)) j d).length=l.length:=by rw[qzc1 (by rw[e1];omega),e1]
 have dp:∀(l new:List Int) (i:Nat),Dg b32 l→Dg b32 new→Dg b32 (qzy l i new):=fun l new i h1 h2=>qzgw (qzgw (fun x hx=>h1 x (List.mem_of_mem_take hx)) h2) (fun x hx=>h1 x (List.mem_of_mem_drop hx))
 have hD:Dg b32 (qzy (qzy l j (List.replicate n 0)) j d):=dp _ _ _ (dp _ _ _ hl qzml) hd
 refine⟨hD,e2,?_⟩
 have lo:∀i,i<j→lf (qzy (qzy l j (List.replicate n 0)) j d) i=lf l i:=by
  intro i hi
  unfold lf qzy
  rw[List.append_assoc,List.getElem?_append_left (by simp;omega),List.getElem?_take,if_pos hi,List.append_assoc,List.getElem?_append_left (by simp;omega),List.getElem?_take,if_pos hi]
 have hi':∀i,lf (qzy (qzy l j (List.replicate n 0)) j d) (j+i)=lf d i:=by
  intro i
  have hz':∀k,j+n≤k→lf l k=0:=fun k hk=>by
   rw[qzti hl,qzw4];exact Nat.lt_of_lt_of_le hz (Nat.pow_le_pow_right b32.pos hk)
  have g1:∀(l new:List Int) (hln:j≤l.length),lf (qzy l j new) (j+i)=if i<new.length then lf new i else lf l (j+i):=by
   intro l new hln
   unfold lf qzy
   have hlt:(l.take j).length=j:=by rw[List.length_take];omega
   rw[List.append_assoc,List.getElem?_append_right (by rw[hlt];omega),hlt,show j+i-j=i by omega]
   split
   ·rename_i h;rw[List.getElem?_append_left h]
   ·rename_i h;rw[List.getElem?_append_right (by omega),List.getElem?_drop,show j+new.length+(i-new.length)=j+i by omega]
  rw[g1 _ _ (by rw[e1];omega)]
  split
  ·rfl
  ·rename_i h
   rw[g1 _ _ (by omega),qzqc (l:=d) (by omega)]
   split
   ·exact qzjt _ _
   ·rename_i h2
    simp only[List.length_replicate]at h2
    exact hz' _ (by omega)
 unfold val
 obtain⟨m,hm⟩:∃m,l.length=j+m:=⟨l.length-j,by omega⟩
 have hlow:vl b32 (lf l) j=val b32 l%b32.n ^ j:=by
  rw[←qzk3]
  exact wzr fun i _=>qzti hl i
 rw[e2,hm,qzo9,wzr lo,wzr (n:=m) (fun i _=>hi' i),qzcx (by omega:d.length≤m),hlow,Nat.mul_comm (b32.n ^ j),Nat.add_comm,←hm]
 rfl
theorem qzvs{R j n:Nat}(h:R<b32.n ^ (j+n+1))(h2:1≤n):R / b32.n ^ j / b32.n ^ (n-1)=dg b32 R (j+n)*b32.n+dg b32 R (j+n-1):=by
 obtain⟨m,rfl⟩:∃m,n=m+1:=⟨n-1,by omega⟩
 rw[Nat.add_sub_cancel,Nat.div_div_eq_div_mul,←Nat.pow_add,show j+(m+1)-1=j+m by omega]
 unfold dg
 rw[show j+(m+1)=(j+m)+1 by omega]at h ⊢
 generalize j+m=k at *
 have e:R / b32.n ^ (k+1)=R / b32.n ^ k / b32.n:=by rw[Nat.pow_succ,Nat.div_div_eq_div_mul]
 have hlt:R / b32.n ^ k / b32.n<b32.n:=by
  rw[←e,Nat.div_lt_iff_lt_mul (b32.pw _),←Nat.pow_succ',];exact h
 rw[e,Nat.mod_eq_of_lt hlt]
 have:=Nat.div_add_mod (R / b32.n ^ k) b32.n
 rw[Nat.mul_comm]at this
 exact this.symm
theorem qzgo(P n:Nat):P=P / b32.n ^ n*b32.n ^ n+P%b32.n ^ n:=by
 have:=Nat.div_add_mod P (b32.n ^ n)
 rw[Nat.mul_comm]at this;exact this.symm
theorem wzfz{V n j R:Nat}{l q:List Int}(hl:Dg b32 l)(hq:Dg b32 q)(hV:ln V=n)(h2:2≤n)(hvt:2147483648≤dg b32 V (n-1))(hR:val b32 l=R)(hRV:R<V*b32.n ^ (j+1))(hj:j+n+1≤l.length)(hL:l.length≤1073741824)
  (hjq:R / b32.n ^ j / b32.n ^ (n-1)≠0→j<q.length) (hqj:lf q j=0) (hQ:q.length≤1073741824) {X:Nat} (hX:X=V*val b32 q+R) :
  ∃l' q',wz2 (dl V) ((j:Int),l,q)=some (.inl ((j:Int)-1,l',q'))∧Dg b32 l'∧Dg b32 q'∧l'.length=l.length∧q'.length=q.length∧X=V*val b32 q'+val b32 l'∧val b32 l'<V*b32.n ^ j∧(∀i,i≠j→lf q' i=lf q i):=by
 have hVB:V<b32.n ^ n:=by rw[←hV];exact qze1 V
 have hV0:0<V:=by
  rcases Nat.eq_zero_or_pos V with h|h
  ·rw[h]at hV;rw[qzns]at hV;omega
  ·exact h
 have hRB:R<b32.n ^ (j+n+1):=by
  rw[show j+n+1=n+(j+1) by omega,Nat.pow_add]
  exact Nat.lt_of_lt_of_le hRV (Nat.mul_le_mul_right _ (Nat.le_of_lt hVB))
 have hld:∀i,lf l i=dg b32 R i:=fun i=>by rw[qzti hl,hR]
 have htop:=qzvs hRB (by omega:1≤n)
 have hPd:=qz3v R j
 have hPlt:R / b32.n ^ j<V*b32.n:=by
  rw[Nat.div_lt_iff_lt_mul (b32.pw j),Nat.mul_assoc,←Nat.pow_succ'];exact hRV
 have hRlow:R%b32.n ^ j<b32.n ^ j:=Nat.mod_lt _ (b32.pw j)
 have hsub:=wzc5 (l:=l) (R:=R) (j:=j) (n:=n+1) hld (by omega) (by rw[show j+(n+1)=j+n+1 by omega];exact hRB)
 generalize hP:R / b32.n ^ j=P at *
 have hdB:P / V<4294967296:=by rw[Nat.div_lt_iff_lt_mul hV0,Nat.mul_comm];exact hPlt
 have hdP:P / V*V≤P:=Nat.div_mul_le_self P V
 have hdP2:P<(P / V+1)*V:=by
  have:=Nat.lt_mul_div_succ P hV0
  rwa [Nat.mul_comm]at this
 have hVs:V=dg b32 V (n-1)*b32.n ^ (n-1)+V%b32.n ^ (n-1):=by
  have e:V / b32.n ^ (n-1)=dg b32 V (n-1):=by
   unfold dg
   rw[Nat.mod_eq_of_lt]
   rw[Nat.div_lt_iff_lt_mul (b32.pw _),←Nat.pow_succ',Nat.succ_eq_add_one,show n-1+1=n by omega];exact hVB
  have:=qzgo V (n-1)
  rw[e]at this;exact this
 have hVs2:V=(dg b32 V (n-1)*b32.n+dg b32 V (n-2))*b32.n ^ (n-2)+V%b32.n ^ (n-2):=by
  have e:=qzvs (R:=V) (j:=0) (n:=n-1) (by rw[show 0+(n-1)+1=n by omega];exact hVB) (by omega)
  rw[Nat.pow_zero,Nat.div_one,show n-1-1=n-2 by omega,show 0+(n-1)=n-1 by omega,show n-1-1=n-2 by omega]at e
  have:=qzgo V (n-2)
  rw[e]at this;exact this
 have hPs:=qzgo P (n-1)
 rw[htop]at hPs
 have hPs2:P=((dg b32 R (j+n)*b32.n+dg b32 R (j+n-1))*b32.n+dg b32 R (j+n-2))*b32.n ^ (n-2)+P%b32.n ^ (n-2):=by
  have e2:P / b32.n ^ (n-2)=(dg b32 R (j+n)*b32.n+dg b32 R (j+n-1))*b32.n+dg b32 R (j+n-2):=by
   rw[←htop]
   have a:P / b32.n ^ (n-1)=P / b32.n ^ (n-2) / b32.n:=by rw[show n-1=n-2+1 by omega,Nat.pow_succ,Nat.div_div_eq_div_mul]
   have c:dg b32 R (j+n-2)=P / b32.n ^ (n-2)%b32.n:=by
    rw[show j+n-2=j+(n-2) by omega,qzs6,hP];rfl
   rw[a,c]
   have:=Nat.div_add_mod (P / b32.n ^ (n-2)) b32.n
   rw[Nat.mul_comm]at this;exact this.symm
  have:=qzgo P (n-2)
  rw[e2]at this;exact this
 have hv1:=qzf3 (b:=b32) V (n-1)
 have hv2:=qzf3 (b:=b32) V (n-2)
 have hp0:=qzf3 (b:=b32) R (j+n)
 have hp1:=qzf3 (b:=b32) R (j+n-1)
 have hp2:=qzf3 (b:=b32) R (j+n-2)
 have hgt:P / V≤(dg b32 R (j+n)*b32.n+dg b32 R (j+n-1)) / dg b32 V (n-1) :=
  qzzg hVs hPs (Nat.mod_lt _ (b32.pw _)) hdP (by omega)
 have key:∀g left:Nat,left+g*dg b32 V (n-1)=dg b32 R (j+n)*b32.n+dg b32 R (j+n-1)→left*b32.n+dg b32 R (j+n-2)<g*dg b32 V (n-2)→P / V<g:=fun g left hl hb =>
  qzuy (b:=b32) (v:=V) (v1:=dg b32 V (n-1)) (v2:=dg b32 V (n-2)) (part:=P) hVs2 hPs2 (Nat.mod_lt _ (b32.pw _)) hdP hl hb
 simp only[wz2,wzi,hV]
 rw[it_d (by omega),qz3 (by omega),qzap hl (by omega)]
 simp only[bd_s]
 rw[qz3 (by omega),qz3 (by omega),qzap hl (by omega)]
 simp only[bd_s]
 rw[qz3 (by omega),qzap (qza4 V) (by rw[wzi];omega)]
 simp only[bd_s]
 rw[show Int.toNat ((j:Int)+n)=j+n by omega,show Int.toNat ((j:Int)+n-1)=j+n-1 by omega,show Int.toNat ((n:Int)-1)=n-1 by omega,qzfb,hld,hld]
 rw[wzg]at hv1 hv2 hp0 hp1 hp2
 rw[show(dg b32 V (n-1):Int)%18446744073709551616=(dg b32 V (n-1):Int) by omega]
 rw[qzwv (by omega),qz3 (by omega)]
 rw[show(dg b32 R (j+n):Int)%18446744073709551616=(dg b32 R (j+n):Int) by omega]
 rw[qzs8 hp0 hp1]
 rw[wzg]at htop hgt key
 generalize hT:dg b32 R (j+n)*4294967296+dg b32 R (j+n-1)=T at *
 have hTb:T<18446744073709551616:=by omega
 generalize hv1e:dg b32 V (n-1)=v1 at *
 have hq0:T / v1*v1≤T:=Nat.div_mul_le_self T v1
 have hg0e:min ((((T:Nat):Int).tdiv (v1:Int))%18446744073709551616) 4294967295=((min (T / v1) 4294967295:Nat):Int):=by
  rw[Int.tdiv_eq_ediv_of_nonneg (by omega),←Int.natCast_ediv]
  have:T / v1≤T:=Nat.div_le_self _ _
  generalize T / v1=w at *
  omega
 rw[hg0e]
 have hwT:T / v1≤T:=Nat.div_le_self _ _
 generalize T / v1=w at *
 generalize hg0:min w 4294967295=g0 at *
 have hg0B:g0<4294967296:=by omega
 have hdg0:P / V≤g0:=by omega
 have hg0q:g0*v1≤T:=Nat.le_trans (Nat.mul_le_mul_right _ (by omega)) hq0
 have hl0e:(((T:Nat):Int)-((g0:Int)*(v1:Int))%18446744073709551616)%18446744073709551616=((T-g0*v1:Nat):Int):=by
  rw[←Int.natCast_mul]
  generalize g0*v1=z at *
  omega
 rw[hl0e]
 obtain⟨g,eg,hdg,hgg⟩:=wzgu (j:=j) (n:=n) (d:=P / V) (g:=g0) (left:=T-g0*v1) (t0:=T) (l:=l) (r:=dl V) hl (qza4 V) (by rw[wzi];exact hV) h2 (by omega) (by omega) (by
  intro g left h1 h3
  rw[qzfb,hv1e]at h1
  rw[qzfb,hld,wzg]at h3
  exact key g left h1 h3) hdg0 hg0B (by rw[qzfb,hv1e];omega) (by omega)
 rw[eg]
 simp only[bd_s]
 by_cases h0:g=0
 ·subst h0
  have hPV:P<V:=by
   rw[Nat.eq_zero_of_le_zero hdg]at hdP2
   omega
  rw[it_d (by omega)]
  simp only[bd_s]
  rw[qz3 (by omega)]
  refine⟨l,q,rfl,hl,hq,rfl,rfl,by rw[hR];exact hX,?_,fun i _=>rfl⟩
  rw[hR,hPd]
  have h5:(P+1)*b32.n ^ j≤V*b32.n ^ j:=Nat.mul_le_mul_right _ hPV
  rw[Nat.add_mul,Nat.mul_comm P]at h5
  omega
 ·have hT0:T≠0:=by
   intro h
   omega
  have hjlen:=hjq (by rw[wzg,htop];exact hT0)
  rw[it_n (by omega)]
  simp only[bd_s]
  have hgB:g<4294967296:=by omega
  have hj1:(j:Int)+n+1=((j+(n+1):Nat):Int):=by omega
  rw[qz3 (by omega),qz3 (by omega),hj1,qzhn (by omega)]
  rw[show(g:Int)%4294967296=(g:Int) by omega,←qztq (by omega:0<g) hgB,qzo8 (by omega) (Nat.le_trans (qzi4 (n:=1) (by rw[Nat.pow_one,wzg];exact hgB)) (by omega))]
  simp only[bd_s]
  rw[wzg1 (j:=j) (n:=n) (P:=P) (V:=V) (g:=g) hl hV (by omega) hL hsub hV0 hdg hgB]
  simp only[bd_s]
  have hPl:ln P≤n+1:=by
   refine qzi4 ?_
   rw[Nat.pow_succ]
   exact Nat.lt_trans hPlt (Nat.mul_lt_mul_of_pos_right hVB b32.pos)
  have hslen:(sub l (j:Int) ((j+(n+1):Nat):Int)).length=n+1:=by rw[qzqq (by omega) (by omega)];omega
  rw[qzoz (by omega) (by omega)]
  simp only[bd_s]
  rw[qzbe (qzsq hl _ _) (by omega),hsub]
  simp only[bd_s]
  have hVD:V*(P / V)≤P:=by rw[Nat.mul_comm];exact hdP
  rw[qzox (by omega) hVD]
  simp only[bd_s]
  have hD:P-V*(P / V)<V:=by
   have:(P / V+1)*V=V*(P / V)+V:=by rw[Nat.add_mul,Nat.mul_comm,Nat.one_mul]
   omega
  have hDl:(dl (P-V*(P / V))).length≤n+1:=by
   rw[wzi]
   have:=qzah (Nat.le_of_lt hD)
   omega
  have hw:Int.toNat (((j+(n+1):Nat):Int)-(j:Int))=n+1:=by omega
  rw[hw]
  obtain⟨p1,p2,p3⟩:=wzdg (l:=l) (d:=dl (P-V*(P / V))) (j:=j) (n:=n+1) hl (qza4 _) hDl (by omega) (by rw[hR,show j+(n+1)=j+n+1 by omega];exact hRB)
  have hpl:(qzy l j (List.replicate (n+1) 0)).length=l.length:=qzc1 (by simp;omega)
  rw[show Int.toNat (j:Int)=j by omega,qzhn (by omega)]
  (try rw[qzhn (by omega)])
  (try rw[qzhn (by rw[hpl];omega)])
  rw[qzap hq (by omega)]
  simp only[bd_s]
  rw[qz3 (by omega)]
  rw[qzc4,hR]at p3
  have hd32:((P / V:Nat):Int)%4294967296=((P / V:Nat):Int):=by
   generalize P / V=z at *;omega
  rw[hd32]
  refine⟨_,_,rfl,p1,qztw hq (by rw[wzg];generalize P / V=z at *;omega),p2,by rw[List.length_set],?_,?_,?_⟩
  ·rw[p3]
   have hst:=wzc0 (b:=b32) (q:=lf q) (Q:=q.length) (j:=j) (d:=P / V) (v:=V) (part:=P) (rest:=R) (R:=R%b32.n ^ j) (rest':=(P-P / V*V)*b32.n ^ j+R%b32.n ^ j) (X:=X) hX hjlen hqj (by rw[Nat.mul_comm P];rw[Nat.add_comm];exact hPd) rfl hdP
   rw[hst,Nat.mul_comm V (P / V)]
   congr 2
   unfold val
   rw[List.length_set]
   refine wzr fun i hi=>?_
   rw[qzmj hjlen,Int.toNat_natCast]
  ·rw[p3]
   have:=wzcw (b:=b32) (v:=V) (part:=P) (d:=P / V) (j:=j) (R:=R%b32.n ^ j) hdP2 hdP hRlow
   rwa [Nat.mul_comm (P / V) V]at this
  ·intro i hi
   rw[qzmj hjlen,if_neg hi]
theorem qz28{l:List Int}{n:Nat}(h:∀i,i<n→lf l i=0):vl b32 (lf l) n=0:=by rw[wzr (g:=fun _=>0) h,qznr]
theorem wzda(n:Nat):val b32 (List.replicate n 0)=0:=qz28 fun i _=>qzjt n i
theorem wzc7{V n X Q k0:Nat}{l0:List Int}(hl0:Dg b32 l0)(hX:val b32 l0=X)(hV:ln V=n)(h2:2≤n)(hvt:2147483648≤dg b32 V (n-1))(hlen:l0.length=k0+n)(hXb:X<b32.n ^ (k0+n-2))(hk0:2≤k0)(hL:l0.length≤1073741824)(hQ:k0-1≤Q)(hQb:Q≤1073741824) :
  ∃l q,lp (wz2 (dl V)) ((k0:Int)-1,l0,List.replicate Q 0)=some (l,q)∧Dg b32 l∧Dg b32 q∧l.length≤1073741824∧q.length≤1073741824∧X=V*val b32 q+val b32 l∧val b32 l<V:=by
 have hV0:V≠0:=by intro h;rw[h,qzns]at hV;omega
 have hVge:b32.n ^ (n-1)≤V:=by rw[←hV];exact qznk hV0
 obtain⟨⟨l,q⟩,e,h⟩:=vzf (s:=((k0:Int)-1,l0,List.replicate Q 0)) (body:=wz2 (dl V)) (fun s=>∃(k:Nat) (l q:List Int),s=((k:Int)-1,l,q)∧k≤k0∧Dg b32 l∧Dg b32 q∧l.length=l0.length∧q.length=Q∧(∀i,i<k→lf q i=0)∧Hold (X=V*val b32 q+val b32 l)∧Hold (val b32 l<V*b32.n ^ k)) (fun s=>(s.1+1).toNat) (fun o=>Dg b32 o.1∧Dg b32 o.2∧o.1.length≤1073741824∧o.2.length≤1073741824∧X=V*val b32 o.2+val b32 o.1∧val b32 o.1<V) (by
  rintro s ⟨k,l,q,rfl,hk,hl,hq,hll,hql,hz,hXe,hR⟩
  unfold Hold at hXe hR
  by_cases h:0<k
  ·left
   obtain⟨j,rfl⟩:∃j,k=j+1:=⟨k-1,by omega⟩
   rw[show((j+1:Nat):Int)-1=(j:Int) by omega]
   obtain⟨l',q',e,p1,p2,p3,p4,p5,p6,p7⟩:=wzfz (V:=V) (n:=n) (j:=j) (l:=l) (q:=q) hl hq hV h2 hvt rfl hR (by omega) (by omega) (by
    intro hne
    rw[hql]
    rcases Nat.lt_or_ge j (k0-1) with h'|h'
    ·omega
    ·exfalso
     apply hne
     have hj:j=k0-1:=by omega
     have hle:val b32 l≤X:=by omega
     rw[Nat.div_div_eq_div_mul,←Nat.pow_add]
     refine Nat.div_eq_of_lt (Nat.lt_of_le_of_lt hle ?_)
     rw[show j+(n-1)=k0+n-2 by omega];exact hXb) (hz j (by omega)) (by omega) hXe
   refine⟨_,e,⟨j,l',q',rfl,by omega,p1,p2,by omega,by omega,?_,p5,p6⟩,by dsimp only;omega⟩
   intro i hi
   rw[p7 i (by omega)]
   exact hz i (by omega)
  ·right
   have hk0':k=0:=by omega
   subst hk0'
   refine⟨(l,q),?_,hl,hq,by dsimp only;omega,by dsimp only;omega,hXe,by simpa using hR⟩
   simp only[wz2]
   rw[it_n (by omega)]) ⟨k0,l0,_,rfl,Nat.le_refl _,hl0,qzml,rfl,by simp,fun i _=>qzjt _ i,by unfold Hold;rw[wzda,hX];simp,by
    unfold Hold
    rw[hX]
    refine Nat.lt_of_lt_of_le hXb ?_
    refine Nat.le_trans ?_ (Nat.mul_le_mul_right _ hVge)
    rw[←Nat.pow_add]
    exact Nat.pow_le_pow_right b32.pos (by omega)⟩ (by dsimp only;omega)
 exact⟨l,q,e,h⟩
theorem wzbm{u v:Nat}(hu:ln u≤536870912)(hv:ln v≤536870912)(h0:v≠0):kzf (dl u) (dl v)=some (dl (u / v),dl (u%v)):=by
 unfold kzf
 rw[qzhg (by omega) (by omega)]
 simp only[bd_s]
 by_cases h:u<v
 ·rw[it_d (by unfold cmpI;rw[if_pos (by omega)];omega),Nat.div_eq_of_lt h,Nat.mod_eq_of_lt h];rfl
 rw[it_n (by unfold cmpI;rw[if_neg (by omega)];split<;>omega),wzi]
 by_cases h1:ln v=1
 ·have hvlt:v<4294967296:=by have:=qze1 v;rw[h1,Nat.pow_one,wzg]at this;exact this
  rw[it_d (by omega),qztq (by omega) hvlt]
  rw[show at? [(v:Int)] 0=some (v:Int) from at_e (n:=0) rfl rfl]
  simp only[bd_s]
  rw[qzt2 (by omega) (by omega) hvlt]
  simp only[bd_s]
  have hr:=Nat.mod_lt u (Nat.pos_of_ne_zero h0)
  have ht:qzx [((u%v:Nat):Int)]=some (dl (u%v)):=by
   rw[qzbe (qzgl (by rw[wzg];omega)) (by simp)]
   rw[show val b32 [((u%v:Nat):Int)]=u%v by generalize u%v=z;simp[val,vl,lf]]
  rw[ht];rfl
 rw[it_n (by omega)]
 have hlv:=qzmv h0
 obtain⟨b,eb,hb,hb1,hb2⟩:=wzgz (v:=v) (by omega) h0
 rw[eb]
 simp only[bd_s]
 rw[qzk7 (by omega) hb,qzk7 (by omega) hb]
 simp only[bd_s]
 have hp:0<2 ^ b:=Nat.pow_pos (by decide)
 have hpb:2 ^ b<4294967296:=by
  have:2 ^ b≤2 ^ 31:=Nat.pow_le_pow_right (by decide) hb
  omega
 have hVd:v=dg b32 v (ln v-1)*b32.n ^ (ln v-1)+v%b32.n ^ (ln v-1):=by
  have e:v / b32.n ^ (ln v-1)=dg b32 v (ln v-1):=by
   unfold dg
   rw[Nat.mod_eq_of_lt]
   rw[Nat.div_lt_iff_lt_mul (b32.pw _),←Nat.pow_succ',Nat.succ_eq_add_one,show ln v-1+1=ln v by omega];exact qze1 v
  have:=qzgo v (ln v-1)
  rw[e]at this;exact this
 have hlow:=Nat.mod_lt v (b32.pw (ln v-1))
 have hVm:v*2 ^ b=dg b32 v (ln v-1)*2 ^ b*b32.n ^ (ln v-1)+v%b32.n ^ (ln v-1)*2 ^ b:=by
  have:=congrArg (fun z=>z*2 ^ b) hVd
  simp only[Nat.add_mul]at this
  rw[this]
  congr 1
  rw[Nat.mul_assoc,Nat.mul_comm (b32.n ^ (ln v-1)),←Nat.mul_assoc]
 have hVlt:v*2 ^ b<b32.n ^ ln v:=by
  have ht:dg b32 v (ln v-1)*2 ^ b+2 ^ b≤b32.n:=by
   have hdv:dg b32 v (ln v-1)*2 ^ b+2 ^ b=(dg b32 v (ln v-1)+1)*2 ^ b:=by rw[Nat.add_mul,Nat.one_mul]
   have h32:b32.n=2 ^ (32-b)*2 ^ b:=by rw[←Nat.pow_add,show 32-b+b=32 by omega];rfl
   rw[hdv,h32]
   refine Nat.mul_le_mul_right _ ?_
   have:dg b32 v (ln v-1)*2 ^ b<2 ^ (32-b)*2 ^ b:=by rw[←h32,wzg];exact hb2
   exact Nat.lt_of_mul_lt_mul_right this
  have h5:(v%b32.n ^ (ln v-1)+1)*2 ^ b≤b32.n ^ (ln v-1)*2 ^ b:=Nat.mul_le_mul_right _ hlow
  have h6:(dg b32 v (ln v-1)*2 ^ b+2 ^ b)*b32.n ^ (ln v-1)≤b32.n*b32.n ^ (ln v-1):=Nat.mul_le_mul_right _ ht
  rw[←Nat.pow_succ',Nat.succ_eq_add_one,show ln v-1+1=ln v by omega,Nat.add_mul]at h6
  rw[Nat.add_mul,Nat.one_mul,Nat.mul_comm (b32.n ^ (ln v-1))]at h5
  rw[hVm]
  omega
 have hVge:b32.n ^ (ln v-1)≤v*2 ^ b:=Nat.le_trans (qznk h0) (Nat.le_mul_of_pos_right _ hp)
 have hlnV:ln (v*2 ^ b)=ln v:=(qzra hVlt (Or.inr hVge)).symm
 have htopV:dg b32 (v*2 ^ b) (ln v-1)=dg b32 v (ln v-1)*2 ^ b+v%b32.n ^ (ln v-1)*2 ^ b / b32.n ^ (ln v-1):=by
  unfold dg
  rw[Nat.mod_eq_of_lt]
  ·have:=hVm
   unfold dg at this
   rw[this]
   rw[Nat.mul_comm _ (b32.n ^ (ln v-1)),Nat.mul_add_div (b32.pw _)]
  ·rw[Nat.div_lt_iff_lt_mul (b32.pw _),←Nat.pow_succ',Nat.succ_eq_add_one,show ln v-1+1=ln v by omega];exact hVlt
 have hvt:2147483648≤dg b32 (v*2 ^ b) (ln v-1):=by rw[htopV];exact Nat.le_trans hb1 (Nat.le_add_right _ _)
 have hu0:u≠0:=by omega
 have hX0:u*2 ^ b≠0:=Nat.mul_ne_zero hu0 (by omega)
 have hXlen:ln (u*2 ^ b)≤ln u+1:=by
  refine qzi4 ?_
  rw[Nat.pow_succ]
  exact Nat.mul_lt_mul'' (qze1 u) (by rw[wzg];exact hpb)
 have hXp:=qzmv hX0
 have hXV:ln v≤ln (u*2 ^ b):=by rw[←hlnV];exact qzah (Nat.mul_le_mul_right _ (by omega))
 have huv:ln v≤ln u:=qzah (by omega)
 rw[qzoz (by rw[wzi];omega) (by rw[wzi];omega)]
 simp only[bd_s]
 have hrl:(dl (u*2 ^ b)++[0,0]).length=ln (u*2 ^ b)+2:=by simp[wzi]
 rw[hrl,show(dl (v*2 ^ b)).length=ln v by rw[wzi,hlnV],wzi u]
 rw[ck_d (by omega),qz3 (by omega),qz3 (by omega),qzwy (by omega),qz3 (by omega),qz3 (by omega)]
 have hD0:Dg b32 (dl (u*2 ^ b)++[0,0]):=qzgw (qza4 _) (qzml (n:=2))
 have hv0:val b32 (dl (u*2 ^ b)++[0,0])=u*2 ^ b:=by
  have e1:dl (u*2 ^ b)++[0,0]=(dl (u*2 ^ b)++[0])++[0]:=by simp
  rw[e1,qzks,qzks,qzc4];simp
 obtain⟨l,q,e,g1,g2,g3,g4,g5,g6⟩:=wzc7 (V:=v*2 ^ b) (n:=ln v) (X:=u*2 ^ b) (Q:=ln u-ln v+2) (k0:=ln (u*2 ^ b)+2-ln v) hD0 hv0 hlnV (by omega) hvt (by rw[hrl];omega) (by rw[show ln (u*2 ^ b)+2-ln v+ln v-2=ln (u*2 ^ b) by omega];exact qze1 _) (by omega) (by rw[hrl];omega) (by omega) (by omega)
 rw[show((ln (u*2 ^ b)+2:Nat):Int)-(ln v:Int)-1=((ln (u*2 ^ b)+2-ln v:Nat):Int)-1 by omega,show Int.toNat ((ln u:Int)-(ln v:Int)+2)=ln u-ln v+2 by omega,e]
 simp only[bd_s]
 rw[qzbe g2 (by omega),qzbe g1 (by omega)]
 simp only[bd_s]
 rw[qz3 (by omega)]
 have hVpos:0<v*2 ^ b:=Nat.mul_pos (by omega) hp
 have hq:val b32 q=u / v:=by
  have e1:u*2 ^ b / (v*2 ^ b)=val b32 q:=by rw[g5,Nat.mul_add_div hVpos,Nat.div_eq_of_lt g6];rfl
  rw[Nat.mul_div_mul_right _ _ hp]at e1
  exact e1.symm
 have hr:val b32 l=u%v*2 ^ b:=by
  have e1:u*2 ^ b%(v*2 ^ b)=val b32 l:=by rw[g5,Nat.mul_add_mod,Nat.mod_eq_of_lt g6]
  rw[Nat.mul_mod_mul_right]at e1
  exact e1.symm
 rw[qzu5 (by rw[hr,←hr];exact Nat.le_trans (qzah (Nat.le_of_lt g6)) (by omega)) hb]
 rw[hq,hr,Nat.mul_div_cancel _ hp]
 rfl
end Go.Am

