/- Part R1: the functions of numbers as functions of core numbers. No condition. -/
import Derived.Test.YtbidhbeoimpjbaaGreatDoorN1
import Derived.Test.YtbidhbeoimpjbaaGreatDoorF1
set_option linter.unusedSimpArgs false
set_option linter.unusedVariables false
namespace Go.Am
section
variable {α U:Type}
theorem Af(a:α)(k:α->Option U):bd (some a) k=k a:=id rfl
theorem ck_t{c:Bool}{x:Option α}(h:c=true):ck c x=x:=by subst h;rfl
theorem ck_d{p:Prop}[Decidable p]{x:Option α}(h:p:=by omega):ck (decide p) x=x:=ck_t (Cy h)
theorem RU{p:Prop}[Decidable p]{x:Option α}(h:¬p:=by omega):ck (!decide p) x=x:=ck_t (by simp[h])
theorem AA{n:Int}{x:Option α}(h:-9223372036854775808<=n/\n<=9223372036854775807:=by omega):ck (As .i64 n) x=x:=ck_t (by simp[As,h])
theorem Ob{n:Int}{b:Nat}{x:Option α}(h:0<=n/\n*b<=140737488355328:=by omega):ck (mkOk n b) x=x:=ck_t (by simp[mkOk,h])
theorem EP{l:List U}{lo hi:Int}{x:Option α}(h:0<=lo/\lo<=hi/\hi<=l.length:=by omega):ck (El l lo hi) x=x:=ck_t (by simp[El,h])
theorem xV{l:List UInt8}{j:Int}{x:Option α}(h:0<=j/\j<l.length:=by omega):ck (CH l j) x=x:=ck_t (by simp[CH,h])
theorem ck_o{p:Prop}[Decidable p]{c:Bool}{x:Option α}(h:p->c=true):ck (!decide p||c) x=x:=ck_t (by by_cases hp:p<;>simp[hp,h])
theorem it_t{c:Bool}{x y:Option α}(h:c=true):ite' c x y=x:=by subst h;rfl
theorem it_f{c:Bool}{x y:Option α}(h:c=false):ite' c x y=y:=by subst h;rfl
theorem it_d{p:Prop}[Decidable p]{x y:Option α}(h:p:=by omega):ite' (decide p) x y=x:=it_t (Cy h)
theorem it_n{p:Prop}[Decidable p]{x y:Option α}(h:¬p:=by omega):ite' (decide p) x y=y:=it_f (Bz h)
theorem Bu{p:Prop}[Decidable p]{x y:Option α}(h:p:=by omega):ite' (!decide p) x y=y:=it_f (by simp[h])
theorem BU{p:Prop}[Decidable p]{x y:Option α}(h:¬p:=by omega):ite' (!decide p) x y=x:=it_t (by simp[h])
theorem ifP{c:Prop}{d:Decidable c}{x y:α}(h:c:=by omega):@ite α c d x y=x:=Ap h
theorem ifN{c:Prop}{d:Decidable c}{x y:α}(h:¬c:=by omega):@ite α c d x y=y:=Aj h
theorem AU[Inhabited α]{x:Option α}:gd true x=x:=id rfl
theorem AQ[Inhabited α]{x:Option α}:gd false x=some default:=id rfl
theorem Dp{x y:Option α}:ite' true x y=x:=id rfl
theorem Be{x y:Option α}:ite' false x y=y:=id rfl
theorem G2{x:Option α}:ck true x=x:=id rfl
theorem at_e{l:List α}{j:Int}{n:Nat}{x:α}(hj:j=n)(h:l[n]?=some x):at? l j=some x:=by subst hj;unfold at?;rw[Cy (by omega:(0:Int)<=n)];exact h
end
theorem XI{ι O ω:Type}{body:O->Option (O⊕ω)}(f:ι->O)(I:ι->Prop)(J:ι->Nat)(R:ω->Prop)(step:∀i,I i->(∃i',body (f i)=some (.inl (f i'))/\I i'/\J i'<J i)\/(∃o,body (f i)=some (.inr o)/\R o)) {s:O} (i:ι) (hs:s=f i) (h:I i) (hb:J i<4611686018427387904):∃o,lp body s=some o/\R o:=by
 subst hs
 have key:∀(n:Nat) (i:ι),I i->J i<n->∃o,lpN body n (f i)=some o/\R o:=by
  intro n;induction n with
  |zero=>intro i _ h;omega
  |succ n ih =>
   intro i hs hn;rcases step i hs with ⟨s',e,aX,hm⟩|⟨o,e,ho⟩
   ·obtain⟨o,e2,ho⟩:=ih s' aX (by omega);exact⟨o,by unfold lpN;rw[e];exact e2,ho⟩
   ·exact⟨o,by unfold lpN;rw[e],ho⟩
 rw[Ki];exact key _ i h hb
def lf(l:List Int)(i:Nat):Nat:=(l[i]?.getD 0).toNat
def Dg(b:Base)(l:List Int):Prop:=∀x,x∈l->0<=x/\x<b.n
theorem yz4{b:Base}{l:List Int}(h:Dg b l)(i:Nat):lf l i<b.n:=by
 unfold lf;cases hx:l[i]? with
 |none=>exact b.pos
 |some x =>have:=h x (Dx hx);simp only[Lr];omega
theorem II{l:List Int}{i:Nat}(h:l.length<=i):lf l i=0:=by unfold lf;rw[JA h];rfl
theorem FM{l m:List Int}{i:Nat}(h:i<l.length):lf (l++m) i=lf l i:=by unfold lf;rw[F0 h]
theorem xW{l m:List Int}{i:Nat}(h:l.length<=i):lf (l++m) i=lf m (i-l.length):=by unfold lf;rw[GS h]
theorem EQ{l:List Int}{x:Int}:lf (l++[x]) l.length=x.toNat:=by rw[xW (AB _)];simp[lf]
theorem IJ{l:List Int}{k i:Nat}{x:Int}(hk:k<l.length):lf (l.set k x) i=if i=k then x.toNat else lf l i:=by
 unfold lf;rw[JB];by_cases h:k=i
 ·subst h;simp[hk]
 ·rw[Aj h,Aj (by omega)]
theorem H9(n i:Nat):lf (List.replicate n 0) i=0:=by unfold lf;rw[rl];split<;>rfl
theorem ER{b:Base}{l m:List Int}(h:Dg b l)(h':Dg b m):Dg b (l++m):=fun x hx=>(Cp.1 hx).elim (h x) (h' x)
theorem FN{b:Base}{x:Int}(h:0<=x/\x<b.n):Dg b [x]:=fun y hy=>by rw[BX.1 hy];exact h
theorem KB{b:Base}:Dg b []:=fun _ h=>by cases h
theorem Od{b:Base}{l:List Int}{k:Nat}{x:Int}(h:Dg b l)(hx:0<=x/\x<b.n):Dg b (l.set k x):=fun y hy=>(List.mem_or_eq_of_mem_set hy).elim (h y) fun e=>e▸hx
theorem IK{b:Base}{n:Nat}:Dg b (List.replicate n 0):=fun x hx=>by rw[List.eq_of_mem_replicate hx];have:=b.pos;omega
theorem RW{b:Base}{l:List Int}(h:Dg b l)(lo hi:Int):Dg b (sub l lo hi):=fun x hx=>h x (U0 (List.mem_of_mem_take hx))
theorem BV{b:Base}{l:List Int}(h:Dg b l){j:Int}(hj:0<=j/\j<l.length):at? l j=some (lf l j.toNat:Int):=by
 have hn:j.toNat<l.length:=by omega
 refine at_e (n:=j.toNat) (by omega) ?_;have hd:=h _ (GT hn);unfold lf;rw[AD hn];simp only[Lr];congr 1;omega
def val(b:Base)(l:List Int):Nat:=vl b (lf l) l.length
theorem KC{b:Base}{l:List Int}{x:Int}:val b (l++[x])=val b l+x.toNat*b.n ^ l.length:=by unfold val;rw[BK,Dh];simp only[EO];rw[EQ];congr 1;exact D7 fun i hi=>FM hi
theorem G3{b:Base}{l:List Int}(h:Dg b l):val b l<b.n ^ l.length:=Gy fun i _=>yz4 h i
theorem D9{b:Base}{l:List Int}{n:Nat}(h:l.length<=n):vl b (lf l) n=val b l:=Xx (fun i hi=>II hi) h
theorem xX{l m:List Int}{b:Base}(hl:Dg b l)(hm:Dg b m)(hn:l.length=m.length)(h:∀i,i<l.length->lf l i=lf m i):l=m:=by refine List.ext_getElem hn fun i h1 h2=>?_;have e:=h i h1;have d1:=hl _ (GT h1);have d2:=hm _ (GT h2);unfold lf at e;rw[AD h1,AD h2]at e;simp only[Lr]at e;omega
def dl(v:Nat):List Int:=(List.range (ln v)).map fun i=>(dg b32 v i:Int)
theorem Dq(v:Nat):(dl v).length=ln v:=by simp[dl]
theorem CK(v:Nat):Dg b32 (dl v):=fun x hx=>by obtain⟨i,_,rfl⟩:=P5.1 hx;have:=EN (b:=b32) v i;omega
theorem XJ{v i:Nat}(h:i<ln v):lf (dl v) i=dg b32 v i:=by simp[lf,dl,h]
theorem FO(v i:Nat):lf (dl v) i=dg b32 v i:=by
 by_cases h:i<ln v
 ·exact XJ h
 ·rw[II (by rw[Dq];omega),RO];exact F4 (Et v) (Du b32.pos (by omega))
theorem Ev(v:Nat):val b32 (dl v)=v:=by unfold val;rw[Dq,D7 fun i hi=>XJ hi,IG]
theorem Oe:ln 0=0:=rfl
theorem xY:dl 0=[]:=rfl
theorem Of{v:Nat}(h:v≠0):0<ln v:=by unfold ln;rw[Aj h];omega
theorem XK{l:List Int}(h:Dg b32 l)(hn:Norm (lf l) l.length):l=dl (val b32 l):=by have e:l.length=ln (val b32 l):=xx (fun i _=>yz4 h i) hn;refine xX h (CK _) (by rw[Dq];exact e) fun i hi=>?_;rw[FO];exact(RN (fun i _=>yz4 h i) i hi).symm
theorem ES{u v:Nat}(h:u<=v):ln u<=ln v:=by
 by_cases hu:u=0
 ·subst hu;simp[Oe]
 ·rcases C9 (ln v) (ln u) with h1|h1;·have h2:=IF hu;have h3:=Et v;have h4:b32.n ^ ln v<=b32.n ^ (ln u-1):=Du b32.pos (by omega);omega
  ·exact h1
theorem HA{v n:Nat}(h:v<b32.n ^ n):ln v<=n:=by
 by_cases hv:v=0
 ·subst hv;simp[Oe]
 ·rcases C9 n (ln v) with h1|h1;·have h2:=IF hv;have h4:b32.n ^ n<=b32.n ^ (ln v-1):=Du b32.pos (by omega);omega
  ·exact h1
def bl(v:Nat):Nat:=(bs v).length
theorem HB(v:Nat):v<256 ^ bl v:=by have:=Do (bs v);rwa [AS]at this
theorem Og{v n:Nat}(h:v<256 ^ n):bl v<=n:=X8 h
theorem FP{u v:Nat}(h:u<=v):bl u<=bl v:=Og (Up h (HB v))
theorem XM(u v:Nat):bl (u*v)<=bl u+bl v:=Og (by rw[Ih];exact Nat.mul_lt_mul'' (HB u) (HB v))
theorem RX(u v:Nat):bl (u+v)<=max (bl u) (bl v)+1:=by have h1:256 ^ bl u<=256 ^ max (bl u) (bl v):=Du (by decide) (by omega);have h2:256 ^ bl v<=256 ^ max (bl u) (bl v):=Du (by decide) (by omega);have h3:=HB u;have h4:=HB v;exact Og (by rw[EC];omega)
theorem l_(u v:Nat):bl (u / v)<=bl u:=FP (Nat.div_le_self u v)
theorem HD(s:List UInt8):bl (sv s)<=s.length:=Og (Do s)
theorem RY(v:Nat):ln v<=bl v:=HA (F4 (HB v) (Nat.pow_le_pow_left (by decide) _))
theorem ET{l:List Int}(h:Dg b32 l)(hn:l.length<=4294967296):Ht l=some (dl (val b32 l)):=by
 unfold Ht
 obtain⟨o,e,ho⟩:=Dw (body:=vf) (fun x:List Int=>Dg b32 x/\val b32 x=val b32 l/\x.length<=4294967296) (fun x=>x.length) (fun o=>o=dl (val b32 l)) (by
  rintro x ⟨hx,hv,hm⟩;simp only[vf];rcases List.eq_nil_or_concat x with rfl|⟨y,t,rfl⟩
  ·right;refine⟨[],by simp[ck,gd,bd,ite'],?_⟩;rw[<-hv];rfl
  ·have ht:0<=t/\t<b32.n:=hx t (by simp);have dA:at? (y++[t]) (((y++[t]).length:Int)-1)=some t:=at_e (n:=y.length) (by simp) (by simp);simp only[List.concat_eq_append]at hx hv hm |-;rw[ck_o (fun _=>by simp only[As,BB];simp only[BK,Dh]at hm |-;omega)];rw[dA,Cy (by simp only[BK,Dh];omega:(0:Int)<((y++[t]).length:Int))];simp only[AU,Af,Cj];by_cases h0:t=0
   ·left;subst h0;rw[it_d rfl,AA (by simp only[BK,Dh]at hm |-;omega),EP (by simp;omega)];have hs:sub (y++[(0:Int)]) 0 (((y++[(0:Int)]).length:Int)-1)=y:=by simp[sub]
    rw[hs];refine⟨y,rfl,⟨fun z hz=>hx z (by simp[hz]),?_,by simp at hm;omega⟩,by simp⟩;rw[<-hv,KC];simp
   ·right;rw[it_n h0];refine⟨_,rfl,?_⟩;rw[<-hv];refine XK hx (Or.inr ?_);rw[BK,Dh,Nat.add_sub_cancel,EQ];omega) ⟨h,rfl,hn⟩ (by show l.length<_;omega)
 rw[e,ho];rfl
theorem Oh{l:List Int}(h:Dg b32 l){k:Int}(hk:0<=k):Rc l k=some (lf l k.toNat:Int):=by
 unfold Rc;by_cases h1:k<(l.length:Int)
 ·rw[it_d h1,BV h ⟨hk,h1⟩];have:=yz4 h k.toNat;rw[C8]at this;simp only[Af];congr 1;omega
 ·rw[it_n h1,II (by omega)];rfl
theorem xZ{x y:List Int}(hx:Dg b32 x)(hy:Dg b32 y)(nx:x.length<=2147483648)(ny:y.length<=2147483648):Xb x y=some (dl (val b32 x+val b32 y)):=by
 unfold Xb;rw[AA]
 obtain⟨o,e,h1,h2,h3⟩:=Dw (s:=(0,0,[])) (body:=vh x y) (fun s=>∃(c k:Nat) (l:List Int),s=((c:Int),(k:Int),l)/\k<=max x.length y.length+1/\c<=1/\l.length=k/\Dg b32 l/\vl b32 (lf l) k+c*b32.n ^ k=vl b32 (lf x) k+vl b32 (lf y) k) (fun s=>max x.length y.length+1-s.2.1.toNat) (fun l=>l.length=max x.length y.length+1/\Dg b32 l/\val b32 l=val b32 x+val b32 y) (by
  rintro s ⟨c,k,l,rfl,hk,hc,hl,hd,hv⟩;simp only[vh];by_cases h:k<max x.length y.length+1
  ·left;rw[it_d,Oh hx (by omega),Oh hy (by omega)];have a1:=yz4 hx k;have a2:=yz4 hy k;rw[C8]at a1 a2;simp only[Af,DJ];rw[ck_d (by simp only[BK,Dh];omega),AA];have es:(((lf x k:Int)+(lf y k:Int))%18446744073709551616+(c:Int))%18446744073709551616=((lf x k+lf y k+c:Nat):Int):=by omega
   rw[es];have q1:Int.fdiv ((lf x k+lf y k+c:Nat):Int) 4294967296=((lf x k+lf y k+c) / 4294967296:Nat):=by rw[P3 _ (by omega)];omega
   rw[q1];refine⟨_,rfl,⟨_,k+1,_,rfl,by omega,by omega,by simp[hl],ER hd (FN ?_),?_⟩,by simp;omega⟩
   ·rw[C8];omega
   ·refine X0 (b:=b32) (s:=lf x k+lf y k+c) ?_ rfl ?_;·rw[<-hv];congr 1;exact D7 fun i hi=>FM (by omega)
    ·rw[<-hl,EQ,C8];omega
  ·right;rw[it_n];refine⟨_,rfl,by omega,hd,?_⟩;have di:k=max x.length y.length+1:=by omega
   have v1:vl b32 (lf x) k=val b32 x:=D9 (by omega);have v2:vl b32 (lf y) k=val b32 y:=D9 (by omega);rw[v1,v2]at hv;have b1:=G3 hx;have b2:=G3 hy;have p1:b32.n ^ x.length<=b32.n ^ max x.length y.length:=Du b32.pos (by omega);have p2:b32.n ^ y.length<=b32.n ^ max x.length y.length:=Du b32.pos (by omega);have p3:b32.n ^ k=b32.n ^ max x.length y.length*4294967296:=by rw[di,EC];rfl
   have cP:c=0:=by
    rcases F8 c with h0|h0
    ·exact h0
    ·have h1:c=1:=(by omega);rw[h1]at hv;omega
   rw[cP]at hv;unfold val at hv |-;rw[hl];omega) ⟨0,0,[],rfl,by omega,by omega,rfl,KB,by simp[vl]⟩ (by dsimp only;omega)
 rw[e];simp only[Af];rw[ET h2 (by omega),h3];rfl
theorem x_{x y:List Int}(hx:Dg b32 x)(hy:Dg b32 y)(nx:x.length<=4294967296)(h:val b32 y<=val b32 x):Rl x y=some (dl (val b32 x-val b32 y)):=by
 unfold Rl
 obtain⟨o,e,h1,h2,h3⟩:=Dw (s:=(0,0,[])) (body:=vn x y) (fun s=>∃(w k:Nat) (l:List Int),s=((w:Int),(k:Int),l)/\k<=x.length/\w<=1/\l.length=k/\Dg b32 l/\vl b32 (lf l) k+vl b32 (lf y) k=vl b32 (lf x) k+w*b32.n ^ k) (fun s=>x.length-s.2.1.toNat) (fun l=>l.length=x.length/\Dg b32 l/\val b32 l=val b32 x-val b32 y) (by
  rintro s ⟨w,k,l,rfl,hk,hw,hl,hd,hv⟩;simp only[vn];by_cases h:k<x.length
  ·left;rw[it_d,BV hx (by omega),Oh hy (by omega)];have a1:=yz4 hx k;have a2:=yz4 hy k;rw[C8]at a1 a2;simp only[Af,DJ];rw[ck_d (by simp only[BK,Dh];omega),AA];by_cases hb:lf y k+w<=lf x k
   ·have es:((((lf x k:Int)%18446744073709551616-(lf y k:Int))%18446744073709551616-(w:Int))%18446744073709551616)=((lf x k-lf y k-w:Nat):Int):=(by omega);rw[es];have q1:Int.fdiv ((lf x k-lf y k-w:Nat):Int) 9223372036854775808=((0:Nat):Int):=by rw[P3 _ (by omega)];omega
    rw[q1];refine⟨_,rfl,⟨_,k+1,_,rfl,by omega,by omega,by simp[hl],ER hd (FN ?_),?_⟩,by simp;omega⟩
    ·rw[C8];omega
    ·refine NQ (b:=b32) (w:=w) ?_ ?_;·rw[<-hv];congr 1;exact D7 fun i hi=>FM (by omega)
     ·rw[<-hl,EQ,hl,C8];omega
   ·have es:((((lf x k:Int)%18446744073709551616-(lf y k:Int))%18446744073709551616-(w:Int))%18446744073709551616)=((18446744073709551616+lf x k-lf y k-w:Nat):Int):=(by omega);rw[es];have q1:Int.fdiv ((18446744073709551616+lf x k-lf y k-w:Nat):Int) 9223372036854775808=((1:Nat):Int):=by rw[P3 _ (by omega)];omega
    rw[q1];refine⟨_,rfl,⟨_,k+1,_,rfl,by omega,by omega,by simp[hl],ER hd (FN ?_),?_⟩,by simp;omega⟩
    ·rw[C8];omega
    ·refine NQ (b:=b32) (w:=w) ?_ ?_;·rw[<-hv];congr 1;exact D7 fun i hi=>FM (by omega)
     ·rw[<-hl,EQ,hl,C8];omega
  ·right;rw[it_n];refine⟨_,rfl,by omega,hd,?_⟩;have di:k=x.length:=by omega
   have v1:vl b32 (lf x) k=val b32 x:=by rw[di];rfl
   have v3:vl b32 (lf l) k=val b32 l:=by rw[<-hl];rfl
   have v4:vl b32 (lf y) k<=val b32 y:=by
    rcases Nat.le_total k y.length with h'|h'
    ·exact RL h'
    ·rw[D9 h'];exact AB _
   have hlt:=G3 hd;rw[v1,v3]at hv;rw[hl]at hlt;by_cases lH:y.length<=k
   ·rw[D9 lH]at hv
    have iS:w=0:=by
     rcases F8 w with h0|h0
     ·exact h0
     ·have h1:w=1:=(by omega);rw[h1]at hv;omega
    rw[iS]at hv;omega
   ·-- the digits of y above are 0,for y is not greater than x
    have fV:=G3 hx;rw[<-di]at fV;have dF:val b32 y=vl b32 (lf y) k+b32.n ^ k*vl b32 (fun i=>lf y (k+i)) (y.length-k):=by have:=K6 (b:=b32) (lf y) k (y.length-k);rw[show k+(y.length-k)=y.length by omega]at this;exact this
    have hz:vl b32 (fun i=>lf y (k+i)) (y.length-k)=0:=by
     rcases F8 (vl b32 (fun i=>lf y (k+i)) (y.length-k)) with h0 | h0
     ·exact h0
     ·have:b32.n ^ k*1<=b32.n ^ k*vl b32 (fun i=>lf y (k+i)) (y.length-k):=Uq _ h0;omega
    rw[hz]at dF
    have iS:w=0:=by
     rcases F8 w with h0|h0
     ·exact h0
     ·have h1:w=1:=(by omega);rw[h1]at hv;omega
    rw[iS]at hv;omega) ⟨0,0,[],rfl,by omega,by omega,rfl,KB,by simp[vl]⟩ (by dsimp only;omega)
 rw[e];simp only[Af];rw[ET h2 (by omega),h3];rfl
theorem XN{a b:Nat}(ha:a<4294967296)(hb:b<4294967296):((a:Int)%18446744073709551616*(b:Int))%18446744073709551616=((a*b:Nat):Int)/\a*b<=18446744065119617025:=by
 have h0:a*b<=4294967295*b:=Bp b (by omega);have h1:a*b<=18446744065119617025:=by omega
 refine⟨?_,h1⟩;rw[show(a:Int)%18446744073709551616=a by omega,<-P4];exact Int.emod_eq_of_lt (by omega) (by omega)
def Hold(p:Prop):Prop:=p
theorem ya{x y l:List Int}{i:Nat}(hx:Dg b32 x)(hy:Dg b32 y)(nx:x.length<=1073741824)(ny:y.length<=1073741824)(h:i<x.length)(hl:l.length=x.length+y.length+1)(hd:Dg b32 l)(hv:Hold (val b32 l=vl b32 (lf x) i*val b32 y)) : ∃m,lp (qX (i:Int) (lf x i:Int) y) (0,0,l)=some m/\m.length=x.length+y.length+1/\Dg b32 m/\Hold (val b32 m=vl b32 (lf x) (i+1)*val b32 y):=by
 have a1:=yz4 hx i;rw[C8]at a1
 exact Dw (s:=(0,0,l)) (body:=qX (i:Int) (lf x i:Int) y) (fun s=>∃(c k:Nat) (m:List Int),s=((c:Int),(k:Int),m)/\k<=y.length+1/\c<4294967296/\m.length=x.length+y.length+1/\Dg b32 m/\Hold (val b32 m+c*b32.n ^ (i+k)=vl b32 (lf x) i*val b32 y+lf x i*vl b32 (lf y) k*b32.n ^ i)) (fun s=>y.length+1-s.2.1.toNat) (fun m=>m.length=x.length+y.length+1/\Dg b32 m/\Hold (val b32 m=vl b32 (lf x) (i+1)*val b32 y)) (by
  rintro s ⟨c,k,m,rfl,hk,hc,hm,eQ,fJ⟩;simp only[qX]
  have oQ:0<c->k<=y.length:=by
   intro cP;rcases C9 y.length k with h'|h'
   ·have e1:vl b32 (lf y) k=val b32 y:=D9 (by omega);rw[e1]at fJ;exact X3 (b:=b32) (out:=lf m) (x:=lf x) (y:=lf y) (N:=m.length) (m:=y.length) (a:=lf x i) (fun j _=>yz4 hy j) (by rw[C8];exact a1) (Gy fun j _=>yz4 hx j) fJ cP
   ·exact h'
  by_cases fR:k<y.length\/0<c
  ·left;have eX:k<=y.length:=fR.elim (by omega) oQ;have jy:i+k<m.length:=by omega
   have a2:=yz4 hy k;have a3:=yz4 eQ (i+k);rw[C8]at a2 a3;obtain⟨p1,p2⟩:=XN a1 a2;rw[it_t (by rcases fR with h'|h'<;>simp[h']),Oh hy (by omega)];simp only[Af,DJ];rw[AA,BV eQ (by omega),show Int.toNat ((i:Int)+k)=i+k by omega];simp only[Af];rw[AA,AA];rw[p1];generalize hp:lf x i*lf y k=p at *;have es:(((p:Int)+(lf m (i+k):Int)%18446744073709551616)%18446744073709551616+(c:Int))%18446744073709551616=((p+lf m (i+k)+c:Nat):Int):=by omega
   rw[es];have q1:Int.fdiv ((p+lf m (i+k)+c:Nat):Int) 4294967296=((p+lf m (i+k)+c) / 4294967296:Nat):=by rw[P3 _ (by omega)];omega
   have q2:((p+lf m (i+k)+c:Nat):Int)%4294967296=((p+lf m (i+k)+c)%4294967296:Nat):=by omega
   rw[q1,q2];refine⟨_,rfl,⟨_,k+1,_,rfl,by omega,by omega,by simp[hm],Od eQ (by rw[C8];omega),?_⟩,by dsimp only;omega⟩;have aI:=k_ (b:=b32) (out:=lf m) (y:=lf y) (N:=m.length) (i:=i) (k:=k) (a:=lf x i) (c:=c) (s:=p+lf m (i+k)+c) fJ jy (by rw[<-hp]);rw[<-aI];congr 1;unfold val;rw[HY];refine D7 fun j hj=>?_;rw[IJ jy,DJ,C8]
  ·right;have dr:y.length<=k:=by omega
   have fC:c=0:=by omega
   rw[it_f (by simp;omega)];refine⟨_,rfl,hm,eQ,?_⟩;unfold Hold at fJ |-;rw[D9 dr,fC]at fJ;rw[EO,AT];have:lf x i*b32.n ^ i*val b32 y=lf x i*val b32 y*b32.n ^ i:=by simp only[Bf,Lk,FB]
   omega) ⟨0,0,l,rfl,by omega,by omega,hl,hd,by unfold Hold at hv |-;rw[hv];simp[vl]⟩ (by dsimp only;omega)
theorem yb{x y:List Int}(hx:Dg b32 x)(hy:Dg b32 y)(nx:x.length<=1073741824)(ny:y.length<=1073741824):Rk x y=some (dl (val b32 x*val b32 y)):=by
 unfold Rk;rw[AA,AA,Ob];rw[show Int.toNat ((x.length:Int)+y.length+1)=x.length+y.length+1 by omega]
 obtain⟨o,e,h1,h2,h3⟩:=Dw (s:=(0,List.replicate (x.length+y.length+1) 0)) (body:=vm x y) (fun s=>∃(i:Nat) (l:List Int),s=((i:Int),l)/\i<=x.length/\l.length=x.length+y.length+1/\Dg b32 l/\Hold (val b32 l=vl b32 (lf x) i*val b32 y)) (fun s=>x.length-s.1.toNat) (fun l=>l.length=x.length+y.length+1/\Dg b32 l/\Hold (val b32 l=val b32 x*val b32 y)) (by
  rintro s ⟨i,l,rfl,hi,hl,hd,hv⟩;simp only[vm];by_cases h:i<x.length
  ·left;rw[it_d,BV hx (by omega)];simp only[Af,DJ];obtain⟨o,e,g1,g2,g3⟩:=ya hx hy nx ny h hl hd hv;rw[e];simp only[Af];rw[AA];exact⟨_,rfl,⟨i+1,o,rfl,by omega,g1,g2,g3⟩,by dsimp only;omega⟩
  ·right;rw[it_n];refine⟨_,rfl,hl,hd,?_⟩;rw[show i=x.length by omega]at hv;exact hv) ⟨0,_,rfl,by omega,by simp,IK,by unfold Hold val;rw[D7 (g:=fun _=>0) fun i _=>H9 _ i,K7];simp[vl]⟩ (by dsimp only;omega)
 rw[e];simp only[Af];rw[ET h2 (by omega),show val b32 o=_ from h3];rfl
theorem yc{n:Nat}(h:n<18446744073709551616):IntKind.wrap .u64 (n:Int)=n:=by unfold IntKind.wrap;simp[IntKind.signed,IntKind.bits];omega
theorem RZ{hi lo:Nat}(h1:hi<4294967296)(h2:lo<4294967296):bitI .or .u64 (((hi:Int)*4294967296)%18446744073709551616) ((lo:Int)%18446744073709551616)=((hi*4294967296+lo:Nat):Int):=by
 rw[show((hi:Int)*4294967296)%18446744073709551616=((hi*4294967296:Nat):Int) by omega,show(lo:Int)%18446744073709551616=((lo:Nat):Int) by omega]
 have e:hi*4294967296+lo=(hi*4294967296) ||| lo:=by
  have:=Nat.shiftLeft_add_eq_or_of_lt (b:=lo) (i:=32) (by omega) hi
  rwa [Nat.shiftLeft_eq]at this
 have eb:(BitVec.ofInt 64 ((hi*4294967296:Nat):Int) ||| BitVec.ofInt 64 (lo:Int)).toNat=hi*4294967296+lo:=by rw[BitVec.toNat_or,BitVec.ofInt_natCast,BitVec.ofInt_natCast,BitVec.toNat_ofNat,BitVec.toNat_ofNat,Eh (by omega),Eh (by omega),<-e]
 unfold bitI;show IntKind.wrap .u64 (((BitVec.ofInt 64 ((hi*4294967296:Nat):Int) ||| BitVec.ofInt 64 (lo:Int)).toNat:Nat):Int)=_;rw[eb];exact yc (by omega)
theorem yd{x:List Int}{d:Nat}(hx:Dg b32 x)(nx:x.length<=1073741824)(iT:0<d)(fc:d<4294967296):Uu x (d:Int)=some (dl (val b32 x / d),((val b32 x%d:Nat):Int)):=by
 unfold Uu;rw[Ob,AA];rw[show Int.toNat (x.length:Int)=x.length by omega]
 obtain⟨⟨r',o⟩,e,h1,h2,r,hr,h3,h4⟩:=Dw (s:=(0,(x.length:Int)-1,List.replicate x.length 0)) (body:=vg (d:Int) x) (fun s=>∃(r k:Nat) (l:List Int),s=((r:Int),(k:Int)-1,l)/\k<=x.length/\r<d/\l.length=x.length/\Dg b32 l/\(∀j,j<k->lf l j=0)/\Hold (val b32 x=d*val b32 l+r*b32.n ^ k+vl b32 (lf x) k)) (fun s=>(s.2.1+1).toNat) (fun s=>s.2.length=x.length/\Dg b32 s.2/\(∃r:Nat,s.1=(r:Int)/\r<d/\Hold (val b32 x=d*val b32 s.2+r))) (by
  rintro s ⟨r,k,l,rfl,hk,hr,hl,hd,hz,hv⟩;simp only[vg];by_cases h:0<k
  ·left;obtain⟨k,rfl⟩:∃j,k=j+1:=⟨k-1,by omega⟩;have gF:((k+1:Nat):Int)-1=(k:Int):=by omega
   rw[gF];rw[it_d,BV hx (by omega)];have a1:=yz4 hx k;rw[C8]at a1;simp only[Af,DJ];rw[show(d:Int)%18446744073709551616=(d:Int) by omega];rw[RU,RU,BV hd (by omega),RZ (by omega) a1];simp only[Af,DJ];rw[AA];have hq:=Ig (r*4294967296+lf x k) d;have hm:=Ga (r*4294967296+lf x k) iT;have qb:(r*4294967296+lf x k) / d<4294967296:=by rw[GW iT];have:(r+1)*4294967296<=d*4294967296:=Bp _ hr;rw[Bf 4294967296 d];omega
   rw[Int.tmod_eq_emod_of_nonneg (by omega),qG (by omega),<-Int.natCast_emod,<-Int.natCast_ediv];generalize hQ:(r*4294967296+lf x k) / d=q at *;generalize hR:(r*4294967296+lf x k)%d=r' at *;rw[show((q:Int)%18446744073709551616)%4294967296=(q:Int) by omega];refine⟨_,rfl,⟨r',k,_,rfl,by omega,hm,by rw[List.length_set];exact hl,Od hd (by rw[C8];omega),?_,?_⟩,by dsimp only;omega⟩
   ·intro j hj;rw[IJ (by omega),ifN];exact hz j (by omega)
   ·have aI:=xz (b:=b32) (out:=lf l) (x:=lf x) (n:=x.length) (k:=k) (by':=d) (r:=r) (q:=q) (r':=r') (by unfold Hold val at hv;rw[hl]at hv;exact hv) (by omega) (hz k (by omega)) (by rw[C8,Bf q d];exact hq.symm);unfold Hold;rw[show val b32 x=vl b32 (lf x) x.length from rfl,aI];congr 3;unfold val;rw[HY,hl];refine D7 fun j hj=>?_;rw[IJ (by omega),DJ]
  ·right;have iU:k=0:=by omega
   subst iU;rw[it_n];refine⟨_,rfl,hl,hd,r,rfl,hr,?_⟩;unfold Hold at *
   rw[hv];simp[vl]) ⟨0,x.length,_,rfl,AB _,iT,by simp,IK,fun j _=>H9 _ j,by
    unfold Hold;have:val b32 (List.replicate x.length 0)=0:=by unfold val;rw[D7 (g:=fun _=>0) fun i _=>H9 _ i,K7]
    rw[this];simp[val]⟩ (by dsimp only;omega)
 dsimp only at hr h1 h2 h4;subst hr;rw[e];simp only[Af];rw[ET h2 (by omega)];simp only[Af];unfold Hold at h4;have ii:val b32 x / d=val b32 o:=by rw[h4,P8 iT,JE h3];rfl
 have jz:val b32 x%d=r:=by rw[h4,PJ,Eh h3]
 rw[ii,jz];congr 2;omega
theorem XO{v d:Nat}(hv:ln v<=1073741824)(iT:0<d)(fc:d<4294967296):Uu (dl v) (d:Int)=some (dl (v / d),((v%d:Nat):Int)):=by rw[yd (CK v) (by rw[Dq];exact hv) iT fc,Ev]
theorem Sa{d:Nat}(h0:0<d)(h1:d<4294967296):dl d=[(d:Int)]:=by
 have hd:Dg b32 [(d:Int)]:=FN (by rw[C8];omega);have e:=XK hd (Or.inr (by simp[lf];omega));have hv:val b32 [(d:Int)]=d:=by simp[val,vl,lf]
 rw[hv]at e;exact e.symm
theorem Sb{u v:Nat}(hu:ln u<=1073741824)(hv:ln v<=1073741824):Rk (dl u) (dl v)=some (dl (u*v)):=by rw[yb (CK u) (CK v) (by rw[Dq];exact hu) (by rw[Dq];exact hv),Ev,Ev]
theorem ye{u v:Nat}(hu:ln u<=1073741824)(hv:ln v<=1073741824):Xb (dl u) (dl v)=some (dl (u+v)):=by rw[xZ (CK u) (CK v) (by rw[Dq];omega) (by rw[Dq];omega),Ev,Ev]
theorem ZI{u v:Nat}(hu:ln u<=1073741824)(h:v<=u):Rl (dl u) (dl v)=some (dl (u-v)):=by rw[x_ (CK u) (CK v) (by rw[Dq];omega) (by rw[Ev,Ev];exact h),Ev,Ev]
theorem Se{v b:Nat}(hv:ln v<=1073741824)(hb:b<=31):PB (dl v) (b:Int)=some (dl (v*2 ^ b)):=by
 unfold PB;have p1:2 ^ b<=2 ^ 31:=Du (by decide) hb;have p2:0<2 ^ b:=Nat.pow_pos (by decide);have e:(1*2 ^ min (Int.toNat (b:Int)) 32)%4294967296=((2 ^ b:Nat):Int):=by rw[show min (Int.toNat (b:Int)) 32=b by omega,Int.one_mul,Int.natCast_pow];have p3:((2:Nat):Int) ^ b=((2 ^ b:Nat):Int):=(Int.natCast_pow 2 b).symm;simp only[Int.cast_ofNat_Int]at p3 |-;rw[p3];omega
 rw[it_n,ck_d,e,<-Sa p2 (by omega),Sb hv (Bo (HA (n:=1) (by rw[Nat.pow_one,C8];omega)) (by omega))];rfl
theorem yf{v b:Nat}(hv:ln v<=1073741824)(hb:b<=31):PB (dl v) (-(b:Int))=some (dl (v / 2 ^ b)):=by
 by_cases h0:b=0
 ·subst h0;have:=Se (v:=v) (b:=0) hv (by omega);simp only[Int.natCast_zero,Nat.pow_zero,Nat.mul_one]at this;simp[this]
 unfold PB;have p1:2 ^ b<=2 ^ 31:=Du (by decide) hb;have p2:0<2 ^ b:=Nat.pow_pos (by decide);have e:(1*2 ^ min (Int.toNat (- -(b:Int))) 32)%4294967296=((2 ^ b:Nat):Int):=by rw[show min (Int.toNat (- -(b:Int))) 32=b by omega,Int.one_mul,Int.natCast_pow];have p3:((2:Nat):Int) ^ b=((2 ^ b:Nat):Int):=(Int.natCast_pow 2 b).symm;simp only[Int.cast_ofNat_Int]at p3 |-;rw[p3];omega
 rw[it_d,AA,ck_d,e,XO hv p2 (by omega)];rfl
theorem XP(x:Int):I9 x=some false:=by unfold I9;simp
theorem XQ(x:Int):Ks x=some false:=by unfold Ks;simp
def cmpI(x y:Int):Int:=if x<y then -1 else if y<x then 1 else 0
theorem yg(x y:Int):Gw x y=some (cmpI x y):=by
 unfold Gw cmpI;rw[XP,XP];simp only[Af,Be];split
 ·rename_i h;rw[it_d h]
 ·rename_i h;rw[it_n h];split
  ·rename_i h;rw[it_d h]
  ·rename_i h;rw[it_n h]
theorem yh(x y:Int):N8 x y=some (cmpI x y):=by
 unfold N8 cmpI;rw[XQ,XQ];simp only[Af,Be];split
 ·rename_i h;rw[it_d h]
 ·rename_i h;rw[it_n h];split
  ·rename_i h;rw[it_d h]
  ·rename_i h;rw[it_n h]
theorem Oi{u v:Nat}(hu:ln u<=1073741824)(hv:ln v<=1073741824):Rt (dl u) (dl v)=some (cmpI u v):=by
 unfold Rt;rw[yg,Dq,Dq];simp only[Af];rcases Nat.lt_trichotomy (ln u) (ln v) with h|h|h
 ·have hlt:u<v:=by
   rcases C9 u v with h'|h'
   ·exact h'
   ·have:=ES h';omega
  rw[show cmpI (ln u:Int) (ln v:Int) = -1 by unfold cmpI;rw[ifP],BU,show cmpI (u:Int) (v:Int) = -1 by unfold cmpI;rw[ifP]]
 ·rw[show cmpI (ln u:Int) (ln v:Int)=0 by unfold cmpI;rw[ifN,ifN],Bu rfl,AA]
  obtain⟨o,e,ho⟩:=Dw (s:=(ln u:Int)-1) (body:=vo (dl u) (dl v)) (fun s=>∃k:Nat,s=(k:Int)-1/\k<=ln u/\∀j,k<=j->j<ln u->dg b32 u j=dg b32 v j) (fun s=>(s+1).toNat) (fun o=>o=if u=v then .inl () else .inr (cmpI u v)) (by
   rintro s ⟨k,rfl,hk,hj⟩;simp only[vo];by_cases h0:0<k
   ·obtain⟨k,rfl⟩:∃j,k=j+1:=⟨k-1,by omega⟩;have gF:((k+1:Nat):Int)-1=(k:Int):=(by omega);rw[gF,it_d,BV (CK u) (by rw[Dq];omega),BV (CK v) (by rw[Dq];omega)];simp only[Af,DJ];rw[yh,FO,FO];simp only[Af];have mJ:vl b32 (dg b32 u) (ln u)=u:=IG u;have dH:vl b32 (dg b32 v) (ln u)=v:=(by rw[h];exact IG v);rcases Nat.lt_trichotomy (dg b32 u k) (dg b32 v k) with h1|h1|h1
    ·right;have hlt:=RM (b:=b32) (f:=dg b32 u) (g:=dg b32 v) (fun i _=>EN u i) h1 (n:=ln u) (by omega) (fun i hi lI=>hj i (by omega) lI);rw[mJ,dH]at hlt;rw[show cmpI (dg b32 u k:Int) (dg b32 v k:Int) = -1 by unfold cmpI;rw[ifP],BU];refine⟨_,rfl,?_⟩;rw[ifN,show cmpI (u:Int) (v:Int) = -1 by unfold cmpI;rw[ifP]]
    ·left;rw[show cmpI (dg b32 u k:Int) (dg b32 v k:Int)=0 by unfold cmpI;rw[ifN,ifN],Bu rfl,AA];refine⟨_,rfl,⟨k,rfl,by omega,fun j h2 h3=>?_⟩,by omega⟩;rcases C9 k j with h4|h4
     ·exact hj j (by omega) h3
     ·rw[show j=k by omega];exact h1
    ·right;have hlt:=RM (b:=b32) (f:=dg b32 v) (g:=dg b32 u) (fun i _=>EN v i) h1 (n:=ln u) (by omega) (fun i hi lI=>(hj i (by omega) lI).symm);rw[mJ,dH]at hlt;rw[show cmpI (dg b32 u k:Int) (dg b32 v k:Int)=1 by unfold cmpI;rw[ifN,ifP],BU];refine⟨_,rfl,?_⟩;rw[ifN,show cmpI (u:Int) (v:Int)=1 by unfold cmpI;rw[ifN,ifP]]
   ·right;rw[it_n];refine⟨_,rfl,?_⟩;have jA:u=v:=by rw[<-IG u,<-IG v,<-h];exact D7 fun i hi=>hj i (by omega) hi
    rw[Ap jA]) ⟨ln u,rfl,AB _,fun j h1 h2=>by omega⟩ (by show((ln u:Int)-1+1).toNat<_;omega)
  rw[e,ho];by_cases jA:u=v
  ·subst jA;rw[Ap rfl,show cmpI (u:Int) (u:Int)=0 by unfold cmpI;rw[ifN,ifN]];rfl
  ·rw[Aj jA];rfl
 ·have hlt:v<u:=by
   rcases C9 v u with h'|h'
   ·exact h'
   ·have:=ES h';omega
  rw[show cmpI (ln u:Int) (ln v:Int)=1 by unfold cmpI;rw[ifN,ifP],BU,show cmpI (u:Int) (v:Int)=1 by unfold cmpI;rw[ifN,ifP]]
theorem yi{v:Nat}(hv:ln v<=1073741824)(h0:v≠0):∃b:Nat,lp (qY (dl v)) 0=some (b:Int)/\b<=31/\2147483648<=dg b32 v (ln v-1)*2 ^ b/\dg b32 v (ln v-1)*2 ^ b<4294967296:=by
 have hp:=Of h0;have ht:dg b32 v (ln v-1)≠0:=(xy v).resolve_left (by omega);have mK:=EN (b:=b32) v (ln v-1);rw[C8]at mK
 obtain⟨o,e,b,rfl,h1,h2,h3⟩:=Dw (s:=(0:Int)) (body:=qY (dl v)) (fun s=>∃b:Nat,s=(b:Int)/\b<=31/\dg b32 v (ln v-1)*2 ^ b<4294967296) (fun s=>32-s.toNat) (fun o=>∃b:Nat,o=(b:Int)/\b<=31/\2147483648<=dg b32 v (ln v-1)*2 ^ b/\dg b32 v (ln v-1)*2 ^ b<4294967296) (by
  rintro s ⟨b,rfl,hb,hlt⟩;simp only[qY,Dq];rw[AA,BV (CK v) (by rw[Dq];omega)];simp only[Af];rw[ck_d,show Int.toNat ((ln v:Int)-1)=ln v-1 by omega,FO,show min (Int.toNat (b:Int)) 32=b by omega];have e1:(dg b32 v (ln v-1):Int)*2 ^ b=((dg b32 v (ln v-1)*2 ^ b:Nat):Int):=by have p3:((2:Nat):Int) ^ b=((2 ^ b:Nat):Int):=(Int.natCast_pow 2 b).symm;simp only[Int.cast_ofNat_Int]at p3;rw[p3,<-P4]
  rw[e1];generalize hT:dg b32 v (ln v-1)*2 ^ b=T at *;by_cases h:T<2147483648
  ·left;rw[it_d,AA]
   have oR:b<31:=by
    rcases C9 b 31 with h'|h'
    ·exact h'
    ·have h6:1*2 ^ 31<=dg b32 v (ln v-1)*2 ^ b:=Nat.mul_le_mul (by omega) (Du (by decide) h');omega
   refine⟨_,rfl,⟨b+1,by omega,by omega,?_⟩,by omega⟩;rw[EC,<-FB,hT];omega
  ·right;rw[it_n];exact⟨_,rfl,b,rfl,hb,by omega,by omega⟩) ⟨0,rfl,by omega,by simpa using mK⟩ (by show 32-(0:Int).toNat<_;omega)
 exact⟨b,e,h1,h2,h3⟩
theorem yj{j n d g left t0:Nat}{l r:List Int}(hl:Dg b32 l)(hr:Dg b32 r)(hn:r.length=n)(h2:2<=n)(hj:j+n<=l.length)(hL:l.length<=4294967296)(key:∀g left:Nat,left+g*lf r (n-1)=t0->left*b32.n+lf l (j+n-2)<g*lf r (n-2)->d<g) (hd:d<=g) (hg:g<4294967296) (gI:left+g*lf r (n-1)=t0) (mL:left<18446744073709551616) : ∃g':Nat,lp (qZ (j:Int) l r) ((g:Int),(left:Int))=some (g':Int)/\d<=g'/\g'<=g:=by
 obtain⟨o,e,g',rfl,h3,h4⟩:=Dw (s:=((g:Int),(left:Int))) (body:=qZ (j:Int) l r) (fun s=>∃g2 left:Nat,s=((g2:Int),(left:Int))/\d<=g2/\g2<=g/\Hold (left+g2*lf r (n-1)=t0)/\left<18446744073709551616) (fun s=>s.1.toNat) (fun o=>∃g':Nat,o=(g':Int)/\d<=g'/\g'<=g) (by
  clear hd gI mL;rintro s ⟨g2,left,rfl,hd,dz,hv,hb⟩;have eH:g2<4294967296:=by omega
  simp only[qZ];have a1:=yz4 hr (n-1);have a2:=yz4 hr (n-2);have a3:=yz4 hl (j+n-2);rw[C8]at a1 a2 a3;have key':=key g2 left hv;clear key;rw[hn];rw[ck_o (fun _=>by simp only[As,BB];omega)];by_cases h:left<4294967296
  ·have gm:decide ((left:Int)<4294967296)=true:=Cy (by omega);rw[gm];simp only[AU,Da,Bool.false_or,Cj];rw[BV hr (by omega)];simp only[Af];rw[ck_t (by simp only[As,BB];omega),ck_t (by simp only[As,BB];omega),BV hl (by omega)];simp only[Af];rw[show Int.toNat ((n:Int)-2)=n-2 by omega,show Int.toNat ((j:Int)+n-2)=j+n-2 by omega];rw[RZ h a3];obtain⟨m1,m2⟩:=XN eH a2;rw[show((g2:Int)*((lf r (n-2):Int)%18446744073709551616))%18446744073709551616=((g2*lf r (n-2):Nat):Int) by rw[show(lf r (n-2):Int)%18446744073709551616=lf r (n-2) by omega];rw[show(g2:Int)%18446744073709551616=g2 by omega]at m1;exact m1];rw[C8]at key';generalize g2*lf r (n-2)=q at *;by_cases hc:left*4294967296+lf l (j+n-2)<q
   ·left;have lJ:=key' hc;rw[it_d,AA,BV hr (by omega),show Int.toNat ((n:Int)-1)=n-1 by omega];simp only[Af];refine⟨_,rfl,⟨g2-1,left+lf r (n-1),?_,by omega,by omega,?_,by omega⟩,by dsimp only;omega⟩
    ·refine Prod.ext ?_ ?_;·dsimp only;omega
     ·dsimp only;omega
    ·unfold Hold at hv |-;obtain⟨k,rfl⟩:∃k,g2=k+1:=⟨g2-1,by omega⟩;rw[<-hv,Nat.add_sub_cancel,AT];omega
   ·right;rw[it_n];exact⟨_,rfl,g2,rfl,hd,dz⟩
  ·have gm:decide ((left:Int)<4294967296)=false:=Bz (by omega);rw[gm];simp only[AQ,Af,CZ,Bool.true_or,Cq,G2,Be];right;exact⟨_,rfl,g2,rfl,hd,dz⟩) ⟨g,left,rfl,hd,AB _,gI,mL⟩ (by show(g:Int).toNat<_;omega)
 exact⟨g',e,h3,h4⟩
theorem yk{l:List Int}{lo hi i:Nat}(h:i<hi-lo):lf (sub l (lo:Int) (hi:Int)) i=lf l (lo+i):=by unfold lf sub;rw[show Int.toNat (lo:Int)=lo by omega,show Int.toNat ((hi:Int)-lo)=hi-lo by omega,FX,Ap h,F3]
theorem Sf{l:List Int}{lo hi:Nat}(h:lo<=hi)(h2:hi<=l.length):(sub l (lo:Int) (hi:Int)).length=hi-lo:=by simp only[sub,Eg,EB];omega
theorem XR(v j i:Nat):dg b32 v (j+i)=dg b32 (v / b32.n ^ j) i:=by unfold dg;rw[Ih,U5]
theorem ym{l:List Int}{R j n:Nat}(hd:∀i,lf l i=dg b32 R i)(hj:j+n<=l.length)(hR:R<b32.n ^ (j+n)):val b32 (sub l (j:Int) ((j+n:Nat):Int))=R / b32.n ^ j:=by unfold val;rw[Sf (by omega) hj,show j+n-j=n by omega];rw[D7 (g:=dg b32 (R / b32.n ^ j)) fun i hi=>by rw[yk (by omega),hd,XR],NP];refine Eh ?_;rw[GW (b32.pw j),<-Ih,Nat.add_comm n j];exact hR
theorem Sg{l:List Int}(h0:0<l.length)(h:l.length<=4294967296):Gt l=some l:=by unfold Gt;exact ck_t (by simp;omega)
theorem yn{j n P V g:Nat}{l:List Int}(hl:Dg b32 l)(hn:ln V=n)(hj:j+n+1<=l.length)(hL:l.length<=1073741824)(hP:val b32 (sub l (j:Int) ((j+(n+1):Nat):Int))=P)(hV:0<V)(hd:P / V<=g)(hg:g<4294967296) :
  lp (yzk (j:Int) l (dl V)) ((g:Int),dl (V*g))=some (((P / V:Nat):Int),dl (V*(P / V))):=by
 have aD:(sub l (j:Int) ((j+(n+1):Nat):Int)).length=n+1:=by rw[Sf (by omega) (by omega)];omega
 have oS:ln P<=n+1:=by have:=G3 (RW hl (j:Int) ((j+(n+1):Nat):Int));rw[hP,aD]at this;exact HA this
 refine Oj (fun s=>∃g:Nat,s=((g:Int),dl (V*g))/\P / V<=g/\g<4294967296) (fun s=>s.1.toNat) _ ?_ ⟨g,rfl,hd,hg⟩ (by show(g:Int).toNat<_;omega);rintro s ⟨g,rfl,hd,hg⟩;simp only[yzk,Dq,hn];have qc:ln (V*g)<=n+1:=by refine HA ?_;rw[EC];refine Nat.mul_lt_mul'' ?_ (by rw[C8];exact hg);rw[<-hn];exact Et V
 rw[show(j:Int)+n+1=((j+(n+1):Nat):Int) by omega]
 (try rw[EP])
 rw[Sg (by omega) (by omega)];simp only[Af];rw[ET (RW hl _ _) (by omega),hP];simp only[Af];rw[Oi (by omega) (by omega)];simp only[Af];have f1:P<V*g->P / V<g:=fun h=>by rw[GW hV,Bf];exact h
 have f2:¬P<V*g->g<=P / V:=fun h=>by rw[PI hV,Bf];omega
 generalize P / V=D at *;by_cases h:P<V*g
 ·left;have hlt:=f1 h;have aE:V<=V*g:=Nat.le_mul_of_pos_right V (by omega);rw[it_d (by unfold cmpI;rw[ifP];omega),ZI (by omega) aE];simp only[Af];refine⟨_,rfl,⟨g-1,?_,by omega,by omega⟩,by dsimp only;omega⟩;refine Prod.ext ?_ ?_
  ·dsimp only;omega
  ·dsimp only;congr 1;obtain⟨k,rfl⟩:∃k,g=k+1:=⟨g-1,by omega⟩;rw[Nat.add_sub_cancel,Nat.mul_add];omega
 ·right;have heq:D=g:=Nat.le_antisymm hd (f2 h);rw[it_n (by unfold cmpI;rw[ifN];split<;>omega),heq]
theorem Si{l:List Int}(hl:Dg b32 l)(i:Nat):lf l i=dg b32 (val b32 l) i:=by
 by_cases h:i<l.length
 ·exact(RN (fun i _=>yz4 hl i) i h).symm
 ·rw[II (by omega),RO];exact F4 (G3 hl) (Du b32.pos (by omega))
theorem yp(R j:Nat):R=R%b32.n ^ j+b32.n ^ j*(R / b32.n ^ j):=(Nat.mod_add_div R (b32.n ^ j)).symm
theorem yq{l d:List Int}{j n:Nat}(hl:Dg b32 l)(hd:Dg b32 d)(jZ:d.length<=n)(hj:j+n<=l.length)(hz:val b32 l<b32.n ^ (j+n)) :
  Dg b32 (BQ (BQ l j (List.replicate n 0)) j (List.take n d))/\(BQ (BQ l j (List.replicate n 0)) j (List.take n d)).length=l.length/\val b32 (BQ (BQ l j (List.replicate n 0)) j (List.take n d))=val b32 d*b32.n ^ j+val b32 l%b32.n ^ j:=by
 rw[Ia jZ];have e1:(BQ l j (List.replicate n 0)).length=l.length:=KD (by simp;omega);have e2:(BQ (BQ l j (List.replicate n 0)) j d).length=l.length:=by rw[KD (by rw[e1];omega),e1]
 have dp:∀(l new:List Int) (i:Nat),Dg b32 l->Dg b32 new->Dg b32 (BQ l i new):=fun l new i h1 h2=>ER (ER (fun x hx=>h1 x (List.mem_of_mem_take hx)) h2) (fun x hx=>h1 x (U0 hx));have hD:Dg b32 (BQ (BQ l j (List.replicate n 0)) j d):=dp _ _ _ (dp _ _ _ hl IK) hd;refine⟨hD,e2,?_⟩;have lo:∀i,i<j->lf (BQ (BQ l j (List.replicate n 0)) j d) i=lf l i:=by intro i hi;unfold lf BQ;rw[List.append_assoc,F0 (by simp;omega),FX,Ap hi,List.append_assoc,F0 (by simp;omega),FX,Ap hi]
 have bC:∀i,lf (BQ (BQ l j (List.replicate n 0)) j d) (j+i)=lf d i:=by
  intro i;have iv:∀k,j+n<=k->lf l k=0:=fun k hk=>by rw[Si hl,RO];exact F4 hz (Du b32.pos hk)
  have g1:∀(l new:List Int) (dx:j<=l.length),lf (BQ l j new) (j+i)=if i<new.length then lf new i else lf l (j+i):=by
   intro l new dx;unfold lf BQ;have hlt:(l.take j).length=j:=by rw[Eg];omega
   rw[List.append_assoc,GS (by rw[hlt];omega),hlt,show j+i-j=i by omega];split
   ·rename_i h;rw[F0 h]
   ·rename_i h;rw[GS (by omega),F3,show j+new.length+(i-new.length)=j+i by omega]
  rw[g1 _ _ (by rw[e1];omega)];split
  ·rfl
  ·rename_i h;rw[g1 _ _ (by omega),II (l:=d) (by omega)];split
   ·exact H9 _ _
   ·rename_i h2;simp only[qI]at h2;exact iv _ (by omega)
 unfold val;obtain⟨m,hm⟩:∃m,l.length=j+m:=⟨l.length-j,by omega⟩;have fI:vl b32 (lf l) j=val b32 l%b32.n ^ j:=by rw[<-NP];exact D7 fun i _=>Si hl i
 rw[e2,hm,K6,D7 lo,D7 (n:=m) (fun i _=>bC i),D9 (by omega:d.length<=m),fI,Bf (b32.n ^ j),Nat.add_comm,<-hm];rfl
theorem XS{R j n:Nat}(h:R<b32.n ^ (j+n+1))(h2:1<=n):R / b32.n ^ j / b32.n ^ (n-1)=dg b32 R (j+n)*b32.n+dg b32 R (j+n-1):=by
 obtain⟨m,rfl⟩:∃m,n=m+1:=⟨n-1,by omega⟩;rw[Nat.add_sub_cancel,U5,<-Ih,show j+(m+1)-1=j+m by omega];unfold dg;rw[show j+(m+1)=(j+m)+1 by omega]at h |-;generalize j+m=k at *;have e:R / b32.n ^ (k+1)=R / b32.n ^ k / b32.n:=by rw[EC,U5]
 have hlt:R / b32.n ^ k / b32.n<b32.n:=by rw[<-e,GW (b32.pw _),<-Nat.pow_succ',];exact h
 rw[e,Eh hlt];have:=Ig (R / b32.n ^ k) b32.n;rw[Bf]at this;exact this.symm
theorem KE(P n:Nat):P=P / b32.n ^ n*b32.n ^ n+P%b32.n ^ n:=by have:=Ig P (b32.n ^ n);rw[Bf]at this;exact this.symm
theorem yr{V n j R:Nat}{l q:List Int}(hl:Dg b32 l)(hq:Dg b32 q)(hV:ln V=n)(h2:2<=n)(iQ:2147483648<=dg b32 V (n-1))(hR:val b32 l=R)(mM:R<V*b32.n ^ (j+1))(hj:j+n+1<=l.length)(hL:l.length<=1073741824)(oT:R / b32.n ^ j / b32.n ^ (n-1)≠0->j<q.length) (oU:lf q j=0) (hQ:q.length<=1073741824) {X:Nat} (hX:X=V*val b32 q+R) : ∃l' q',Uv (dl V) ((j:Int),l,q)=some (.inl ((j:Int)-1,l',q'))/\Dg b32 l'/\Dg b32 q'/\l'.length=l.length/\q'.length=q.length/\X=V*val b32 q'+val b32 l'/\val b32 l'<V*b32.n ^ j/\(∀i,i≠j->lf q' i=lf q i):=by
 have ko:V<b32.n ^ n:=by rw[<-hV];exact Et V
 have jB:0<V:=by
  rcases F8 V with h|h
  ·rw[h]at hV;rw[Oe]at hV;omega
  ·exact h
 have lK:R<b32.n ^ (j+n+1):=by rw[show j+n+1=n+(j+1) by omega,Ih];exact F4 mM (Bp _ (GX ko))
 have hZ:∀i,lf l i=dg b32 R i:=fun i=>by rw[Si hl,hR]
 have gp:=XS lK (by omega:1<=n);have mN:=yp R j;have jC:R / b32.n ^ j<V*b32.n:=by rw[GW (b32.pw j),FB,<-Nat.pow_succ'];exact mM
 have jD:R%b32.n ^ j<b32.n ^ j:=Ga _ (b32.pw j);have dD:=ym (l:=l) (R:=R) (j:=j) (n:=n+1) hZ (by omega) (by rw[show j+(n+1)=j+n+1 by omega];exact lK);generalize hP:R / b32.n ^ j=P at *;have qd:P / V<4294967296:=by rw[GW jB,Bf];exact jC
 have jE:P / V*V<=P:=Nat.div_mul_le_self P V
 have jF:P<(P / V+1)*V:=by
  have:=Nat.lt_mul_div_succ P jB
  rwa [Bf]at this
 have oV:V=dg b32 V (n-1)*b32.n ^ (n-1)+V%b32.n ^ (n-1):=by
  have e:V / b32.n ^ (n-1)=dg b32 V (n-1):=by unfold dg;rw[Eh];rw[GW (b32.pw _),<-Nat.pow_succ',Nat.succ_eq_add_one,show n-1+1=n by omega];exact ko
  have:=KE V (n-1);rw[e]at this;exact this
 have lL:V=(dg b32 V (n-1)*b32.n+dg b32 V (n-2))*b32.n ^ (n-2)+V%b32.n ^ (n-2):=by have e:=XS (R:=V) (j:=0) (n:=n-1) (by rw[show 0+(n-1)+1=n by omega];exact ko) (by omega);rw[Nat.pow_zero,Nat.div_one,show n-1-1=n-2 by omega,show 0+(n-1)=n-1 by omega,show n-1-1=n-2 by omega]at e;have:=KE V (n-2);rw[e]at this;exact this
 have mO:=KE P (n-1);rw[gp]at mO
 have lM:P=((dg b32 R (j+n)*b32.n+dg b32 R (j+n-1))*b32.n+dg b32 R (j+n-2))*b32.n ^ (n-2)+P%b32.n ^ (n-2):=by
  have e2:P / b32.n ^ (n-2)=(dg b32 R (j+n)*b32.n+dg b32 R (j+n-1))*b32.n+dg b32 R (j+n-2):=by
   rw[<-gp];have a:P / b32.n ^ (n-1)=P / b32.n ^ (n-2) / b32.n:=by rw[show n-1=n-2+1 by omega,EC,U5]
   have c:dg b32 R (j+n-2)=P / b32.n ^ (n-2)%b32.n:=by rw[show j+n-2=j+(n-2) by omega,XR,hP];rfl
   rw[a,c];have:=Ig (P / b32.n ^ (n-2)) b32.n;rw[Bf]at this;exact this.symm
  have:=KE P (n-2);rw[e2]at this;exact this
 have ii:=EN (b:=b32) V (n-1);have jz:=EN (b:=b32) V (n-2);have mP:=EN (b:=b32) R (j+n);have mQ:=EN (b:=b32) R (j+n-1);have eS:=EN (b:=b32) R (j+n-2)
 have hgt:P / V<=(dg b32 R (j+n)*b32.n+dg b32 R (j+n-1)) / dg b32 V (n-1) :=
  xu oV mO (Ga _ (b32.pw _)) jE (by omega)
 have key:∀g left:Nat,left+g*dg b32 V (n-1)=dg b32 R (j+n)*b32.n+dg b32 R (j+n-1)->left*b32.n+dg b32 R (j+n-2)<g*dg b32 V (n-2)->P / V<g:=fun g left hl hb =>
  xw (b:=b32) (v:=V) (v1:=dg b32 V (n-1)) (v2:=dg b32 V (n-2)) (part:=P) lL lM (Ga _ (b32.pw _)) jE hl hb
 simp only[Uv,Dq,hV];rw[it_d,AA,BV hl (by omega)];simp only[Af];rw[AA,AA,BV hl (by omega)];simp only[Af];rw[AA,BV (CK V) (by rw[Dq];omega)];simp only[Af];rw[show Int.toNat ((j:Int)+n)=j+n by omega,show Int.toNat ((j:Int)+n-1)=j+n-1 by omega,show Int.toNat ((n:Int)-1)=n-1 by omega,FO,hZ,hZ];rw[C8]at ii jz mP mQ eS;rw[show(dg b32 V (n-1):Int)%18446744073709551616=(dg b32 V (n-1):Int) by omega];rw[RU,AA];rw[show(dg b32 R (j+n):Int)%18446744073709551616=(dg b32 R (j+n):Int) by omega];rw[RZ mP mQ];rw[C8]at gp hgt key;generalize hT:dg b32 R (j+n)*4294967296+dg b32 R (j+n-1)=T at *;have qe:T<18446744073709551616:=by omega
 generalize jG:dg b32 V (n-1)=v1 at *;have oW:T / v1*v1<=T:=Nat.div_mul_le_self T v1;have lN:min ((((T:Nat):Int).tdiv (v1:Int))%18446744073709551616) 4294967295=((min (T / v1) 4294967295:Nat):Int):=by rw[qG (by omega),<-Int.natCast_ediv];have:T / v1<=T:=Nat.div_le_self _ _;generalize T / v1=w at *;omega
 rw[lN];have qf:T / v1<=T:=Nat.div_le_self _ _;generalize T / v1=w at *;generalize gJ:min w 4294967295=g0 at *;have lO:g0<4294967296:=by omega
 have lP:P / V<=g0:=by omega
 have oX:g0*v1<=T:=Bo (Bp _ (by omega)) oW;have lQ:(((T:Nat):Int)-((g0:Int)*(v1:Int))%18446744073709551616)%18446744073709551616=((T-g0*v1:Nat):Int):=by rw[<-P4];generalize g0*v1=z at *;omega
 rw[lQ];obtain⟨g,eg,lJ,qg⟩:=yj (j:=j) (n:=n) (d:=P / V) (g:=g0) (left:=T-g0*v1) (t0:=T) (l:=l) (r:=dl V) hl (CK V) (by rw[Dq];exact hV) h2 (by omega) (by omega) (by intro g left h1 h3;rw[FO,jG]at h1;rw[FO,hZ,C8]at h3;exact key g left h1 h3) lP lO (by rw[FO,jG];omega) (by omega);rw[eg];simp only[Af];by_cases h0:g=0
 ·subst h0;have oY:P<V:=by rw[Nat.eq_zero_of_le_zero lJ]at jF;omega
  rw[it_d];simp only[Af];rw[AA];refine⟨l,q,rfl,hl,hq,rfl,rfl,by rw[hR];exact hX,?_,fun i _=>rfl⟩;rw[hR,mN];have h5:(P+1)*b32.n ^ j<=V*b32.n ^ j:=Bp _ oY;rw[AT,Bf P]at h5;omega
 ·have oZ:T≠0:=by
   intro h;omega
  have fK:=oT (by rw[C8,gp];exact oZ);rw[it_n];simp only[Af];have lR:g<4294967296:=by omega
  have pb:(j:Int)+n+1=((j+(n+1):Nat):Int):=by omega
  rw[AA,AA,pb,EP];rw[show(g:Int)%4294967296=(g:Int) by omega,<-Sa (by omega:0<g) lR,Sb (by omega) (Bo (HA (n:=1) (by rw[Nat.pow_one,C8];exact lR)) (by omega))];simp only[Af];rw[yn (j:=j) (n:=n) (P:=P) (V:=V) (g:=g) hl hV (by omega) hL dD jB lJ lR];simp only[Af];have oS:ln P<=n+1:=by refine HA ?_;rw[EC];exact Nat.lt_trans jC (Nat.mul_lt_mul_of_pos_right ko b32.pos)
  have mR:(sub l (j:Int) ((j+(n+1):Nat):Int)).length=n+1:=by rw[Sf (by omega) (by omega)];omega
  rw[Sg (by omega) (by omega)];simp only[Af];rw[ET (RW hl _ _) (by omega),dD];simp only[Af];have pc:V*(P / V)<=P:=by rw[Bf];exact jE
  rw[ZI (by omega) pc];simp only[Af]
  have hD:P-V*(P / V)<V:=by
   have:(P / V+1)*V=V*(P / V)+V:=by rw[AT,Bf,Nat.one_mul]
   omega
  have pe:(dl (P-V*(P / V))).length<=n+1:=by rw[Dq];have:=ES (GX hD);omega
  have hw:Int.toNat (((j+(n+1):Nat):Int)-(j:Int))=n+1:=by omega
  rw[hw];obtain⟨p1,p2,p3⟩:=yq (l:=l) (d:=dl (P-V*(P / V))) (j:=j) (n:=n+1) hl (CK _) pe (by omega) (by rw[hR,show j+(n+1)=j+n+1 by omega];exact lK);have cQ:(BQ l j (List.replicate (n+1) 0)).length=l.length:=KD (by simp;omega);rw[show Int.toNat (j:Int)=j by omega,EP]
  (try rw[EP])
  (try rw[EP (by rw[cQ];omega)])
  rw[BV hq (by omega)];simp only[Af];rw[AA];rw[Ev,hR]at p3;have lS:((P / V:Nat):Int)%4294967296=((P / V:Nat):Int):=by generalize P / V=z at *;omega
  rw[lS];refine⟨_,_,rfl,p1,Od hq (by rw[C8];generalize P / V=z at *;omega),p2,by rw[HY],?_,?_,?_⟩
  ·rw[p3];have aI:=xA (b:=b32) (q:=lf q) (Q:=q.length) (j:=j) (d:=P / V) (v:=V) (part:=P) (rest:=R) (R:=R%b32.n ^ j) (rest':=(P-P / V*V)*b32.n ^ j+R%b32.n ^ j) (X:=X) hX fK oU (by rw[Bf P];rw[Nat.add_comm];exact mN) rfl jE;rw[aI,Bf V (P / V)];congr 2;unfold val;rw[HY];refine D7 fun i hi=>?_;rw[IJ fK,DJ]
  ·rw[p3];have:=xB (b:=b32) (v:=V) (part:=P) (d:=P / V) (j:=j) (R:=R%b32.n ^ j) jF jE jD
   rwa [Bf (P / V) V]at this
  ·intro i hi;rw[IJ fK,Aj hi]
theorem yu{l:List Int}{n:Nat}(h:∀i,i<n->lf l i=0):vl b32 (lf l) n=0:=by rw[D7 (g:=fun _=>0) h,K7]
theorem yv(n:Nat):val b32 (List.replicate n 0)=0:=yu fun i _=>H9 n i
theorem yw{V n X Q k0:Nat}{l0:List Int}(gW:Dg b32 l0)(hX:val b32 l0=X)(hV:ln V=n)(h2:2<=n)(iQ:2147483648<=dg b32 V (n-1))(aD:l0.length=k0+n)(mS:X<b32.n ^ (k0+n-2))(iU:2<=k0)(hL:l0.length<=1073741824)(hQ:k0-1<=Q)(qh:Q<=1073741824) : ∃l q,lp (Uv (dl V)) ((k0:Int)-1,l0,List.replicate Q 0)=some (l,q)/\Dg b32 l/\Dg b32 q/\l.length<=1073741824/\q.length<=1073741824/\X=V*val b32 q+val b32 l/\val b32 l<V:=by
 have jB:V≠0:=by intro h;rw[h,Oe]at hV;omega
 have il:b32.n ^ (n-1)<=V:=by rw[<-hV];exact IF jB
 obtain⟨⟨l,q⟩,e,h⟩:=Dw (s:=((k0:Int)-1,l0,List.replicate Q 0)) (body:=Uv (dl V)) (fun s=>∃(k:Nat) (l q:List Int),s=((k:Int)-1,l,q)/\k<=k0/\Dg b32 l/\Dg b32 q/\l.length=l0.length/\q.length=Q/\(∀i,i<k->lf q i=0)/\Hold (X=V*val b32 q+val b32 l)/\Hold (val b32 l<V*b32.n ^ k)) (fun s=>(s.1+1).toNat) (fun o=>Dg b32 o.1/\Dg b32 o.2/\o.1.length<=1073741824/\o.2.length<=1073741824/\X=V*val b32 o.2+val b32 o.1/\val b32 o.1<V) (by
  rintro s ⟨k,l,q,rfl,hk,hl,hq,eF,pf,hz,lT,hR⟩;unfold Hold at lT hR;by_cases h:0<k
  ·left;obtain⟨j,rfl⟩:∃j,k=j+1:=⟨k-1,by omega⟩;rw[show((j+1:Nat):Int)-1=(j:Int) by omega]
   obtain⟨l',q',e,p1,p2,p3,p4,p5,p6,p7⟩:=yr (V:=V) (n:=n) (j:=j) (l:=l) (q:=q) hl hq hV h2 iQ rfl hR (by omega) (by omega) (by
    intro aH;rw[pf];rcases C9 j (k0-1) with h'|h'
    ·omega
    ·exfalso;apply aH;have hj:j=k0-1:=by omega
     have aE:val b32 l<=X:=(by omega);rw[U5,<-Ih];refine JE (Up aE ?_);rw[show j+(n-1)=k0+n-2 by omega];exact mS) (hz j (by omega)) (by omega) lT
   refine⟨_,e,⟨j,l',q',rfl,by omega,p1,p2,by omega,by omega,?_,p5,p6⟩,by dsimp only;omega⟩;intro i hi;rw[p7 i (by omega)];exact hz i (by omega)
  ·right;have lU:k=0:=by omega
   subst lU;refine⟨(l,q),?_,hl,hq,by dsimp only;omega,by dsimp only;omega,lT,by simpa using hR⟩;simp only[Uv];rw[it_n]) ⟨k0,l0,_,rfl,AB _,gW,IK,rfl,by simp,fun i _=>H9 _ i,by unfold Hold;rw[yv,hX];simp,by unfold Hold;rw[hX];refine F4 mS ?_;refine Bo ?_ (Bp _ il);rw[<-Ih];exact Nat.pow_le_pow_right b32.pos (by omega)⟩ (by dsimp only;omega)
 exact⟨l,q,e,h⟩
theorem yx{u v:Nat}(hu:ln u<=536870912)(hv:ln v<=536870912)(h0:v≠0):Nx (dl u) (dl v)=some (dl (u / v),dl (u%v)):=by
 unfold Nx;rw[Oi (by omega) (by omega)];simp only[Af];by_cases h:u<v
 ·rw[it_d (by unfold cmpI;rw[ifP];omega),JE h,Eh h];rfl
 rw[it_n (by unfold cmpI;rw[ifN];split<;>omega),Dq];by_cases h1:ln v=1
 ·have jH:v<4294967296:=by have:=Et v;rw[h1,Nat.pow_one,C8]at this;exact this
  rw[it_d,Sa (by omega) jH];rw[show at? [(v:Int)] 0=some (v:Int) from at_e (n:=0) rfl rfl];simp only[Af];rw[XO (by omega) (by omega) jH];simp only[Af];have hr:=Ga u (J9 h0);have ht:Ht [((u%v:Nat):Int)]=some (dl (u%v)):=by rw[ET (FN (by rw[C8];omega)) (by simp)];rw[show val b32 [((u%v:Nat):Int)]=u%v by generalize u%v=z;simp[val,vl,lf]]
  rw[ht];rfl
 rw[it_n];have iY:=Of h0;obtain⟨b,eb,hb,dQ,cR⟩:=yi (v:=v) (by omega) h0;rw[eb];simp only[Af];rw[Se (by omega) hb,Se (by omega) hb];simp only[Af];have hp:0<2 ^ b:=Nat.pow_pos (by decide);have mT:2 ^ b<4294967296:=by have:2 ^ b<=2 ^ 31:=Du (by decide) hb;omega
 have pg:v=dg b32 v (ln v-1)*b32.n ^ (ln v-1)+v%b32.n ^ (ln v-1):=by
  have e:v / b32.n ^ (ln v-1)=dg b32 v (ln v-1):=by unfold dg;rw[Eh];rw[GW (b32.pw _),<-Nat.pow_succ',Nat.succ_eq_add_one,show ln v-1+1=ln v by omega];exact Et v
  have:=KE v (ln v-1);rw[e]at this;exact this
 have fI:=Ga v (b32.pw (ln v-1));have mU:v*2 ^ b=dg b32 v (ln v-1)*2 ^ b*b32.n ^ (ln v-1)+v%b32.n ^ (ln v-1)*2 ^ b:=by have:=F5 (fun z=>z*2 ^ b) pg;simp only[AT]at this;rw[this];congr 1;rw[FB,Bf (b32.n ^ (ln v-1)),<-FB]
 have jI:v*2 ^ b<b32.n ^ ln v:=by
  have ht:dg b32 v (ln v-1)*2 ^ b+2 ^ b<=b32.n:=by
   have ph:dg b32 v (ln v-1)*2 ^ b+2 ^ b=(dg b32 v (ln v-1)+1)*2 ^ b:=by rw[AT,Nat.one_mul]
   have mV:b32.n=2 ^ (32-b)*2 ^ b:=by rw[<-Ih,show 32-b+b=32 by omega];rfl
   rw[ph,mV];refine Bp _ ?_;have:dg b32 v (ln v-1)*2 ^ b<2 ^ (32-b)*2 ^ b:=by rw[<-mV,C8];exact cR
   exact Nat.lt_of_mul_lt_mul_right this
  have h5:(v%b32.n ^ (ln v-1)+1)*2 ^ b<=b32.n ^ (ln v-1)*2 ^ b:=Bp _ fI;have h6:(dg b32 v (ln v-1)*2 ^ b+2 ^ b)*b32.n ^ (ln v-1)<=b32.n*b32.n ^ (ln v-1):=Bp _ ht;rw[<-Nat.pow_succ',Nat.succ_eq_add_one,show ln v-1+1=ln v by omega,AT]at h6;rw[AT,Nat.one_mul,Bf (b32.n ^ (ln v-1))]at h5;rw[mU];omega
 have il:b32.n ^ (ln v-1)<=v*2 ^ b:=Bo (IF h0) (Nat.le_mul_of_pos_right _ hp);have im:ln (v*2 ^ b)=ln v:=(Xz jI (Or.inr il)).symm
 have jJ:dg b32 (v*2 ^ b) (ln v-1)=dg b32 v (ln v-1)*2 ^ b+v%b32.n ^ (ln v-1)*2 ^ b / b32.n ^ (ln v-1):=by
  unfold dg;rw[Eh]
  ·have:=mU;unfold dg at this;rw[this];rw[Bf _ (b32.n ^ (ln v-1)),P8 (b32.pw _)]
  ·rw[GW (b32.pw _),<-Nat.pow_succ',Nat.succ_eq_add_one,show ln v-1+1=ln v by omega];exact jI
 have iQ:2147483648<=dg b32 (v*2 ^ b) (ln v-1):=by rw[jJ];exact Bo dQ (Nat.le_add_right _ _)
 have kU:u≠0:=by omega
 have pi:u*2 ^ b≠0:=Nat.mul_ne_zero kU (by omega);have mW:ln (u*2 ^ b)<=ln u+1:=by refine HA ?_;rw[EC];exact Nat.mul_lt_mul'' (Et u) (by rw[C8];exact mT)
 have qi:=Of pi;have qj:ln v<=ln (u*2 ^ b):=by rw[<-im];exact ES (Bp _ (by omega))
 have jA:ln v<=ln u:=ES (by omega);rw[Sg (by rw[Dq];omega) (by rw[Dq];omega)];simp only[Af];have jx:(dl (u*2 ^ b)++[0,0]).length=ln (u*2 ^ b)+2:=by simp[Dq]
 rw[jx,show(dl (v*2 ^ b)).length=ln v by rw[Dq,im],Dq u];rw[ck_d,AA,AA,Ob,AA,AA];have pj:Dg b32 (dl (u*2 ^ b)++[0,0]):=ER (CK _) (IK (n:=2))
 have qD:val b32 (dl (u*2 ^ b)++[0,0])=u*2 ^ b:=by
  have e1:dl (u*2 ^ b)++[0,0]=(dl (u*2 ^ b)++[0])++[0]:=by simp
  rw[e1,KC,KC,Ev];simp
 obtain⟨l,q,e,g1,g2,g3,g4,g5,g6⟩:=yw (V:=v*2 ^ b) (n:=ln v) (X:=u*2 ^ b) (Q:=ln u-ln v+2) (k0:=ln (u*2 ^ b)+2-ln v) pj qD im (by omega) iQ (by rw[jx];omega) (by rw[show ln (u*2 ^ b)+2-ln v+ln v-2=ln (u*2 ^ b) by omega];exact Et _) (by omega) (by rw[jx];omega) (by omega) (by omega);rw[show((ln (u*2 ^ b)+2:Nat):Int)-(ln v:Int)-1=((ln (u*2 ^ b)+2-ln v:Nat):Int)-1 by omega,show Int.toNat ((ln u:Int)-(ln v:Int)+2)=ln u-ln v+2 by omega,e];simp only[Af];rw[ET g2 (by omega),ET g1 (by omega)];simp only[Af];rw[AA];have jK:0<v*2 ^ b:=Nat.mul_pos (by omega) hp
 have hq:val b32 q=u / v:=by
  have e1:u*2 ^ b / (v*2 ^ b)=val b32 q:=by rw[g5,P8 jK,JE g6];rfl
  rw[Nat.mul_div_mul_right _ _ hp]at e1;exact e1.symm
 have hr:val b32 l=u%v*2 ^ b:=by
  have e1:u*2 ^ b%(v*2 ^ b)=val b32 l:=by rw[g5,PJ,Eh g6]
  rw[Nat.mul_mod_mul_right]at e1;exact e1.symm
 rw[yf (by rw[hr,<-hr];exact Bo (ES (GX g6)) (by omega)) hb];rw[hq,hr,Nat.mul_div_cancel _ hp];rfl
end Go.Am

