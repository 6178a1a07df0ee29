/- Part R1: the functions of numbers as functions of core numbers. No condition. -/
import Derived.Test.YtbidhbeoimpjbaaGreatDoorN1
import Derived.Test.YtbidhbeoimpjbaaGreatDoorF1
set_option linter.unusedSimpArgs false
set_option linter.unusedVariables false
namespace Go.Am
section
variable {α U:Type}
theorem Ae(a:α)(k:α->Option U):bd (some a) k=k a:=id rfl
theorem ck_t{c:Bool}{x:Option α}(h:c=true):ck c x=x:=by subst h;rfl
theorem ck_d{p:Prop}[Decidable p]{x:Option α}(h:p:=by omega):ck (decide p) x=x:=ck_t (CN h)
theorem Sg{p:Prop}[Decidable p]{x:Option α}(h:¬p:=by omega):ck (!decide p) x=x:=ck_t (by simp[h])
theorem AA{n:Int}{x:Option α}(h:-9223372036854775808<=n/\n<=9223372036854775807:=by omega):ck (At .i64 n) x=x:=ck_t (by simp[At,h])
theorem Ou{n:Int}{b:Nat}{x:Option α}(h:0<=n/\n*b<=140737488355328:=by omega):ck (mkOk n b) x=x:=ck_t (by simp[mkOk,h])
theorem EQ{l:List U}{lo hi:Int}{x:Option α}(h:0<=lo/\lo<=hi/\hi<=l.length:=by omega):ck (El l lo hi) x=x:=ck_t (by simp[El,h])
theorem wzwr{l:List UInt8}{j:Int}{x:Option α}(h:0<=j/\j<l.length:=by omega):ck (CG l j) x=x:=ck_t (by simp[CG,h])
theorem ck_o{p:Prop}[Decidable p]{c:Bool}{x:Option α}(h:p->c=true):ck (!decide p||c) x=x:=ck_t (by by_cases hp:p<;>simp[hp,h])
theorem it_t{c:Bool}{x y:Option α}(h:c=true):ite' c x y=x:=by subst h;rfl
theorem it_f{c:Bool}{x y:Option α}(h:c=false):ite' c x y=y:=by subst h;rfl
theorem it_d{p:Prop}[Decidable p]{x y:Option α}(h:p:=by omega):ite' (decide p) x y=x:=it_t (CN h)
theorem it_n{p:Prop}[Decidable p]{x y:Option α}(h:¬p:=by omega):ite' (decide p) x y=y:=it_f (BA h)
theorem Bf{p:Prop}[Decidable p]{x y:Option α}(h:p:=by omega):ite' (!decide p) x y=y:=it_f (by simp[h])
theorem B9{p:Prop}[Decidable p]{x y:Option α}(h:¬p:=by omega):ite' (!decide p) x y=x:=it_t (by simp[h])
theorem ifP{c:Prop}{d:Decidable c}{x y:α}(h:c:=by omega):@ite α c d x y=x:=Ap h
theorem ifN{c:Prop}{d:Decidable c}{x y:α}(h:¬c:=by omega):@ite α c d x y=y:=Aj h
theorem AR[Inhabited α]{x:Option α}:gd true x=x:=id rfl
theorem AP[Inhabited α]{x:Option α}:gd false x=some default:=id rfl
theorem Do{x y:Option α}:ite' true x y=x:=id rfl
theorem AX{x y:Option α}:ite' false x y=y:=id rfl
theorem DZ{x:Option α}:ck true x=x:=id rfl
theorem at_e{l:List α}{j:Int}{n:Nat}{x:α}(hj:j=n)(h:l[n]?=some x):at? l j=some x:=by subst hj;unfold at?;rw[CN (by omega:(0:Int)<=n)];exact h
end
theorem XV{ι O ω:Type}{body:O->Option (O⊕ω)}(f:ι->O)(I:ι->Prop)(J:ι->Nat)(R:ω->Prop)(step:∀i,I i->(∃i',body (f i)=some (.inl (f i'))/\I i'/\J i'<J i)\/(∃o,body (f i)=some (.inr o)/\R o)) {s:O} (i:ι) (hs:s=f i) (h:I i) (hb:J i<4611686018427387904):∃o,lp body s=some o/\R o:=by
 subst hs
 have key:∀(n:Nat) (i:ι),I i->J i<n->∃o,lpN body n (f i)=some o/\R o:=by
  intro n;induction n with
  |zero=>intro i _ h;omega
  |succ n ih =>
   intro i hs hn;rcases step i hs with ⟨s',e,aX,hm⟩|⟨o,e,ho⟩
   ·obtain⟨o,e2,ho⟩:=ih s' aX (by omega);exact⟨o,by unfold lpN;rw[e];exact e2,ho⟩
   ·exact⟨o,by unfold lpN;rw[e],ho⟩
 rw[Kt];exact key _ i h hb
def lf(l:List Int)(i:Nat):Nat:=(l[i]?.getD 0).toNat
def Dg(b:Base)(l:List Int):Prop:=∀x,x∈l->0<=x/\x<b.n
theorem yz4{b:Base}{l:List Int}(h:Dg b l)(i:Nat):lf l i<b.n:=by
 unfold lf;cases hx:l[i]? with
 |none=>exact b.pos
 |some x =>have:=h x (Dw hx);simp only[L5];omega
theorem IU{l:List Int}{i:Nat}(h:l.length<=i):lf l i=0:=by unfold lf;rw[JL h];rfl
theorem FL{l m:List Int}{i:Nat}(h:i<l.length):lf (l++m) i=lf l i:=by unfold lf;rw[Fy h]
theorem qzxd{l m:List Int}{i:Nat}(h:l.length<=i):lf (l++m) i=lf m (i-l.length):=by unfold lf;rw[GT h]
theorem ER{l:List Int}{x:Int}:lf (l++[x]) l.length=x.toNat:=by rw[qzxd (AC _)];simp[lf]
theorem IV{l:List Int}{k i:Nat}{x:Int}(hk:k<l.length):lf (l.set k x) i=if i=k then x.toNat else lf l i:=by
 unfold lf;rw[JM];by_cases h:k=i
 ·subst h;simp[hk]
 ·rw[Aj h,Aj (by omega)]
theorem H7(n i:Nat):lf (List.replicate n 0) i=0:=by unfold lf;rw[Gbk];split<;>rfl
theorem ES{b:Base}{l m:List Int}(h:Dg b l)(h':Dg b m):Dg b (l++m):=fun x hx=>(Cq.1 hx).elim (h x) (h' x)
theorem FM{b:Base}{x:Int}(h:0<=x/\x<b.n):Dg b [x]:=fun y hy=>by rw[Ce.1 hy];exact h
theorem KL{b:Base}:Dg b []:=fun _ h=>by cases h
theorem Ov{b:Base}{l:List Int}{k:Nat}{x:Int}(h:Dg b l)(hx:0<=x/\x<b.n):Dg b (l.set k x):=fun y hy=>(List.mem_or_eq_of_mem_set hy).elim (h y) fun e=>e▸hx
theorem IW{b:Base}{n:Nat}:Dg b (List.replicate n 0):=fun x hx=>by rw[List.eq_of_mem_replicate hx];have:=b.pos;omega
theorem Si{b:Base}{l:List Int}(h:Dg b l)(lo hi:Int):Dg b (sub l lo hi):=fun x hx=>h x (UF (List.mem_of_mem_take hx))
theorem Cb{b:Base}{l:List Int}(h:Dg b l){j:Int}(hj:0<=j/\j<l.length):at? l j=some (lf l j.toNat:Int):=by
 have hn:j.toNat<l.length:=by omega
 refine at_e (n:=j.toNat) (by omega) ?_;have hd:=h _ (HV hn);unfold lf;rw[AD hn];simp only[L5];congr 1;omega
def val(b:Base)(l:List Int):Nat:=vl b (lf l) l.length
theorem KM{b:Base}{l:List Int}{x:Int}:val b (l++[x])=val b l+x.toNat*b.n ^ l.length:=by unfold val;rw[BN,Df];simp only[EP];rw[ER];congr 1;exact D7 fun i hi=>FL hi
theorem G5{b:Base}{l:List Int}(h:Dg b l):val b l<b.n ^ l.length:=G2 fun i _=>yz4 h i
theorem D9{b:Base}{l:List Int}{n:Nat}(h:l.length<=n):vl b (lf l) n=val b l:=XA (fun i hi=>IU hi) h
theorem qz3e{l m:List Int}{b:Base}(hl:Dg b l)(hm:Dg b m)(hn:l.length=m.length)(h:∀i,i<l.length->lf l i=lf m i):l=m:=by refine List.ext_getElem hn fun i h1 h2=>?_;have e:=h i h1;have d1:=hl _ (HV h1);have d2:=hm _ (HV h2);unfold lf at e;rw[AD h1,AD h2]at e;simp only[L5]at e;omega
def dl(v:Nat):List Int:=(List.range (ln v)).map fun i=>(dg b32 v i:Int)
theorem Dp(v:Nat):(dl v).length=ln v:=by simp[dl]
theorem CJ(v:Nat):Dg b32 (dl v):=fun x hx=>by obtain⟨i,_,rfl⟩:=PN.1 hx;have:=EO (b:=b32) v i;omega
theorem XW{v i:Nat}(h:i<ln v):lf (dl v) i=dg b32 v i:=by simp[lf,dl,h]
theorem FN(v i:Nat):lf (dl v) i=dg b32 v i:=by
 by_cases h:i<ln v
 ·exact XW h
 ·rw[IU (by rw[Dp];omega),RZ];exact F0 (Et v) (Du b32.pos (by omega))
theorem Ev(v:Nat):val b32 (dl v)=v:=by unfold val;rw[Dp,D7 fun i hi=>XW hi,IS]
theorem Ow:ln 0=0:=rfl
theorem wzd2:dl 0=[]:=rfl
theorem Ox{v:Nat}(h:v≠0):0<ln v:=by unfold ln;rw[Aj h];omega
theorem XX{l:List Int}(h:Dg b32 l)(hn:Norm (lf l) l.length):l=dl (val b32 l):=by have e:l.length=ln (val b32 l):=wzcv (fun i _=>yz4 h i) hn;refine qz3e h (CJ _) (by rw[Dp];exact e) fun i hi=>?_;rw[FN];exact(RY (fun i _=>yz4 h i) i hi).symm
theorem ET{u v:Nat}(h:u<=v):ln u<=ln v:=by
 by_cases hu:u=0
 ·subst hu;simp[Ow]
 ·rcases C9 (ln v) (ln u) with h1|h1;·have h2:=IR hu;have h3:=Et v;have h4:b32.n ^ ln v<=b32.n ^ (ln u-1):=Du b32.pos (by omega);omega
  ·exact h1
theorem H8{v n:Nat}(h:v<b32.n ^ n):ln v<=n:=by
 by_cases hv:v=0
 ·subst hv;simp[Ow]
 ·rcases C9 n (ln v) with h1|h1;·have h2:=IR hv;have h4:b32.n ^ n<=b32.n ^ (ln v-1):=Du b32.pos (by omega);omega
  ·exact h1
def bl(v:Nat):Nat:=(bs v).length
theorem H9(v:Nat):v<256 ^ bl v:=by have:=Dn (bs v);rwa [AT]at this
theorem Oy{v n:Nat}(h:v<256 ^ n):bl v<=n:=XK h
theorem FO{u v:Nat}(h:u<=v):bl u<=bl v:=Oy (U0 h (H9 v))
theorem XY(u v:Nat):bl (u*v)<=bl u+bl v:=Oy (by rw[Ig];exact Nat.mul_lt_mul'' (H9 u) (H9 v))
theorem Sj(u v:Nat):bl (u+v)<=max (bl u) (bl v)+1:=by have h1:256 ^ bl u<=256 ^ max (bl u) (bl v):=Du (by decide) (by omega);have h2:256 ^ bl v<=256 ^ max (bl u) (bl v):=Du (by decide) (by omega);have h3:=H9 u;have h4:=H9 v;exact Oy (by rw[ED];omega)
theorem HA(s:List UInt8):bl (sv s)<=s.length:=Oy (Dn s)
theorem Sl(v:Nat):ln v<=bl v:=H8 (F0 (H9 v) (Nat.pow_le_pow_left (by decide) _))
theorem EU{l:List Int}(h:Dg b32 l)(hn:l.length<=4294967296):Hs l=some (dl (val b32 l)):=by
 unfold Hs
 obtain⟨o,e,ho⟩:=DA (body:=vzd) (fun x:List Int=>Dg b32 x/\val b32 x=val b32 l/\x.length<=4294967296) (fun x=>x.length) (fun o=>o=dl (val b32 l)) (by
  rintro x ⟨hx,hv,hm⟩;simp only[vzd];rcases List.eq_nil_or_concat x with rfl|⟨y,t,rfl⟩
  ·right;refine⟨[],by simp[ck,gd,bd,ite'],?_⟩;rw[<-hv];rfl
  ·have ht:0<=t/\t<b32.n:=hx t (by simp);have d5:at? (y++[t]) (((y++[t]).length:Int)-1)=some t:=at_e (n:=y.length) (by simp) (by simp);simp only[List.concat_eq_append]at hx hv hm ⊢;rw[ck_o (fun _=>by simp only[At,BE];simp only[BN,Df]at hm ⊢;omega)];rw[d5,CN (by simp only[BN,Df];omega:(0:Int)<((y++[t]).length:Int))];simp only[AR,Ae,BP];by_cases h0:t=0
   ·left;subst h0;rw[it_d rfl,AA (by simp only[BN,Df]at hm ⊢;omega),EQ (by simp;omega)];have hs:sub (y++[(0:Int)]) 0 (((y++[(0:Int)]).length:Int)-1)=y:=by simp[sub]
    rw[hs];refine⟨y,rfl,⟨fun z hz=>hx z (by simp[hz]),?_,by simp at hm;omega⟩,by simp⟩;rw[<-hv,KM];simp
   ·right;rw[it_n h0];refine⟨_,rfl,?_⟩;rw[<-hv];refine XX hx (Or.inr ?_);rw[BN,Df,Nat.add_sub_cancel,ER];omega) ⟨h,rfl,hn⟩ (by show l.length<_;omega)
 rw[e,ho];rfl
theorem Oz{l:List Int}(h:Dg b32 l){k:Int}(hk:0<=k):Rt l k=some (lf l k.toNat:Int):=by
 unfold Rt;by_cases h1:k<(l.length:Int)
 ·rw[it_d h1,Cb h ⟨hk,h1⟩];have:=yz4 h k.toNat;rw[C8]at this;simp only[Ae];congr 1;omega
 ·rw[it_n h1,IU (by omega)];rfl
theorem wzea{x y:List Int}(hx:Dg b32 x)(hy:Dg b32 y)(nx:x.length<=2147483648)(ny:y.length<=2147483648):Xm x y=some (dl (val b32 x+val b32 y)):=by
 unfold Xm;rw[AA]
 obtain⟨o,e,h1,h2,h3⟩:=DA (s:=(0,0,[])) (body:=vze x y) (fun s=>∃(c k:Nat) (l:List Int),s=((c:Int),(k:Int),l)/\k<=max x.length y.length+1/\c<=1/\l.length=k/\Dg b32 l/\vl b32 (lf l) k+c*b32.n ^ k=vl b32 (lf x) k+vl b32 (lf y) k) (fun s=>max x.length y.length+1-s.2.1.toNat) (fun l=>l.length=max x.length y.length+1/\Dg b32 l/\val b32 l=val b32 x+val b32 y) (by
  rintro s ⟨c,k,l,rfl,hk,hc,hl,hd,hv⟩;simp only[vze];by_cases h:k<max x.length y.length+1
  ·left;rw[it_d,Oz hx (by omega),Oz hy (by omega)];have a1:=yz4 hx k;have a2:=yz4 hy k;rw[C8]at a1 a2;simp only[Ae,DJ];rw[ck_d (by simp only[BN,Df];omega),AA];have es:(((lf x k:Int)+(lf y k:Int))%18446744073709551616+(c:Int))%18446744073709551616=((lf x k+lf y k+c:Nat):Int):=by omega
   rw[es];have q1:Int.fdiv ((lf x k+lf y k+c:Nat):Int) 4294967296=((lf x k+lf y k+c) / 4294967296:Nat):=by rw[PL _ (by omega)];omega
   rw[q1];refine⟨_,rfl,⟨_,k+1,_,rfl,by omega,by omega,by simp[hl],ES hd (FM ?_),?_⟩,by simp;omega⟩
   ·rw[C8];omega
   ·refine XD (b:=b32) (s:=lf x k+lf y k+c) ?_ rfl ?_;·rw[<-hv];congr 1;exact D7 fun i hi=>FL (by omega)
    ·rw[<-hl,ER,C8];omega
  ·right;rw[it_n];refine⟨_,rfl,by omega,hd,?_⟩;have dr:k=max x.length y.length+1:=by omega
   have v1:vl b32 (lf x) k=val b32 x:=D9 (by omega);have v2:vl b32 (lf y) k=val b32 y:=D9 (by omega);rw[v1,v2]at hv;have b1:=G5 hx;have b2:=G5 hy;have p1:b32.n ^ x.length<=b32.n ^ max x.length y.length:=Du b32.pos (by omega);have p2:b32.n ^ y.length<=b32.n ^ max x.length y.length:=Du b32.pos (by omega);have p3:b32.n ^ k=b32.n ^ max x.length y.length*4294967296:=by rw[dr,ED];rfl
   have cO:c=0:=by
    rcases F6 c with h0|h0
    ·exact h0
    ·have h1:c=1:=(by omega);rw[h1]at hv;omega
   rw[cO]at hv;unfold val at hv ⊢;rw[hl];omega) ⟨0,0,[],rfl,by omega,by omega,rfl,KL,by simp[vl]⟩ (by dsimp only;omega)
 rw[e];simp only[Ae];rw[EU h2 (by omega),h3];rfl
theorem qz26{x y:List Int}(hx:Dg b32 x)(hy:Dg b32 y)(nx:x.length<=4294967296)(h:val b32 y<=val b32 x):R5 x y=some (dl (val b32 x-val b32 y)):=by
 unfold R5
 obtain⟨o,e,h1,h2,h3⟩:=DA (s:=(0,0,[])) (body:=kzo x y) (fun s=>∃(w k:Nat) (l:List Int),s=((w:Int),(k:Int),l)/\k<=x.length/\w<=1/\l.length=k/\Dg b32 l/\vl b32 (lf l) k+vl b32 (lf y) k=vl b32 (lf x) k+w*b32.n ^ k) (fun s=>x.length-s.2.1.toNat) (fun l=>l.length=x.length/\Dg b32 l/\val b32 l=val b32 x-val b32 y) (by
  rintro s ⟨w,k,l,rfl,hk,hw,hl,hd,hv⟩;simp only[kzo];by_cases h:k<x.length
  ·left;rw[it_d,Cb hx (by omega),Oz hy (by omega)];have a1:=yz4 hx k;have a2:=yz4 hy k;rw[C8]at a1 a2;simp only[Ae,DJ];rw[ck_d (by simp only[BN,Df];omega),AA];by_cases hb:lf y k+w<=lf x k
   ·have es:((((lf x k:Int)%18446744073709551616-(lf y k:Int))%18446744073709551616-(w:Int))%18446744073709551616)=((lf x k-lf y k-w:Nat):Int):=(by omega);rw[es];have q1:Int.fdiv ((lf x k-lf y k-w:Nat):Int) 9223372036854775808=((0:Nat):Int):=by rw[PL _ (by omega)];omega
    rw[q1];refine⟨_,rfl,⟨_,k+1,_,rfl,by omega,by omega,by simp[hl],ES hd (FM ?_),?_⟩,by simp;omega⟩
    ·rw[C8];omega
    ·refine Of (b:=b32) (w:=w) ?_ ?_;·rw[<-hv];congr 1;exact D7 fun i hi=>FL (by omega)
     ·rw[<-hl,ER,hl,C8];omega
   ·have es:((((lf x k:Int)%18446744073709551616-(lf y k:Int))%18446744073709551616-(w:Int))%18446744073709551616)=((18446744073709551616+lf x k-lf y k-w:Nat):Int):=(by omega);rw[es];have q1:Int.fdiv ((18446744073709551616+lf x k-lf y k-w:Nat):Int) 9223372036854775808=((1:Nat):Int):=by rw[PL _ (by omega)];omega
    rw[q1];refine⟨_,rfl,⟨_,k+1,_,rfl,by omega,by omega,by simp[hl],ES hd (FM ?_),?_⟩,by simp;omega⟩
    ·rw[C8];omega
    ·refine Of (b:=b32) (w:=w) ?_ ?_;·rw[<-hv];congr 1;exact D7 fun i hi=>FL (by omega)
     ·rw[<-hl,ER,hl,C8];omega
  ·right;rw[it_n];refine⟨_,rfl,by omega,hd,?_⟩;have dr:k=x.length:=by omega
   have v1:vl b32 (lf x) k=val b32 x:=by rw[dr];rfl
   have v3:vl b32 (lf l) k=val b32 l:=by rw[<-hl];rfl
   have v4:vl b32 (lf y) k<=val b32 y:=by
    rcases Nat.le_total k y.length with h'|h'
    ·exact RW h'
    ·rw[D9 h'];exact AC _
   have hlt:=G5 hd;rw[v1,v3]at hv;rw[hl]at hlt;by_cases l9:y.length<=k
   ·rw[D9 l9]at hv
    have iI:w=0:=by
     rcases F6 w with h0|h0
     ·exact h0
     ·have h1:w=1:=(by omega);rw[h1]at hv;omega
    rw[iI]at hv;omega
   ·-- the digits of y above are 0,for y is not greater than x
    have fP:=G5 hx;rw[<-dr]at fP;have dB:val b32 y=vl b32 (lf y) k+b32.n ^ k*vl b32 (fun i=>lf y (k+i)) (y.length-k):=by have:=KG (b:=b32) (lf y) k (y.length-k);rw[show k+(y.length-k)=y.length by omega]at this;exact this
    have hz:vl b32 (fun i=>lf y (k+i)) (y.length-k)=0:=by
     rcases F6 (vl b32 (fun i=>lf y (k+i)) (y.length-k)) with h0 | h0
     ·exact h0
     ·have:b32.n ^ k*1<=b32.n ^ k*vl b32 (fun i=>lf y (k+i)) (y.length-k):=U3 _ h0;omega
    rw[hz]at dB
    have iI:w=0:=by
     rcases F6 w with h0|h0
     ·exact h0
     ·have h1:w=1:=(by omega);rw[h1]at hv;omega
    rw[iI]at hv;omega) ⟨0,0,[],rfl,by omega,by omega,rfl,KL,by simp[vl]⟩ (by dsimp only;omega)
 rw[e];simp only[Ae];rw[EU h2 (by omega),h3];rfl
theorem XZ{a b:Nat}(ha:a<4294967296)(hb:b<4294967296):((a:Int)%18446744073709551616*(b:Int))%18446744073709551616=((a*b:Nat):Int)/\a*b<=18446744065119617025:=by
 have h0:a*b<=4294967295*b:=Bq b (by omega);have h1:a*b<=18446744065119617025:=by omega
 refine⟨?_,h1⟩;rw[show(a:Int)%18446744073709551616=a by omega,<-PM];exact Int.emod_eq_of_lt (by omega) (by omega)
def Hold(p:Prop):Prop:=p
theorem qz3g{x y l:List Int}{i:Nat}(hx:Dg b32 x)(hy:Dg b32 y)(nx:x.length<=1073741824)(ny:y.length<=1073741824)(h:i<x.length)(hl:l.length=x.length+y.length+1)(hd:Dg b32 l)(hv:Hold (val b32 l=vl b32 (lf x) i*val b32 y)) : ∃m,lp (jzl (i:Int) (lf x i:Int) y) (0,0,l)=some m/\m.length=x.length+y.length+1/\Dg b32 m/\Hold (val b32 m=vl b32 (lf x) (i+1)*val b32 y):=by
 have a1:=yz4 hx i;rw[C8]at a1
 exact DA (s:=(0,0,l)) (body:=jzl (i:Int) (lf x i:Int) y) (fun s=>∃(c k:Nat) (m:List Int),s=((c:Int),(k:Int),m)/\k<=y.length+1/\c<4294967296/\m.length=x.length+y.length+1/\Dg b32 m/\Hold (val b32 m+c*b32.n ^ (i+k)=vl b32 (lf x) i*val b32 y+lf x i*vl b32 (lf y) k*b32.n ^ i)) (fun s=>y.length+1-s.2.1.toNat) (fun m=>m.length=x.length+y.length+1/\Dg b32 m/\Hold (val b32 m=vl b32 (lf x) (i+1)*val b32 y)) (by
  rintro s ⟨c,k,m,rfl,hk,hc,hm,eJ,fF⟩;simp only[jzl]
  have oB:0<c->k<=y.length:=by
   intro cO;rcases C9 y.length k with h'|h'
   ·have e1:vl b32 (lf y) k=val b32 y:=D9 (by omega);rw[e1]at fF;exact XF (b:=b32) (out:=lf m) (x:=lf x) (y:=lf y) (N:=m.length) (m:=y.length) (a:=lf x i) (fun j _=>yz4 hy j) (by rw[C8];exact a1) (G2 fun j _=>yz4 hx j) fF cO
   ·exact h'
  by_cases fL:k<y.length\/0<c
  ·left;have eS:k<=y.length:=fL.elim (by omega) oB;have jp:i+k<m.length:=by omega
   have a2:=yz4 hy k;have a3:=yz4 eJ (i+k);rw[C8]at a2 a3;obtain⟨p1,p2⟩:=XZ a1 a2;rw[it_t (by rcases fL with h'|h'<;>simp[h']),Oz hy (by omega)];simp only[Ae,DJ];rw[AA,Cb eJ (by omega),show Int.toNat ((i:Int)+k)=i+k by omega];simp only[Ae];rw[AA,AA];rw[p1];generalize hp:lf x i*lf y k=p at *;have es:(((p:Int)+(lf m (i+k):Int)%18446744073709551616)%18446744073709551616+(c:Int))%18446744073709551616=((p+lf m (i+k)+c:Nat):Int):=by omega
   rw[es];have q1:Int.fdiv ((p+lf m (i+k)+c:Nat):Int) 4294967296=((p+lf m (i+k)+c) / 4294967296:Nat):=by rw[PL _ (by omega)];omega
   have q2:((p+lf m (i+k)+c:Nat):Int)%4294967296=((p+lf m (i+k)+c)%4294967296:Nat):=by omega
   rw[q1,q2];refine⟨_,rfl,⟨_,k+1,_,rfl,by omega,by omega,by simp[hm],Ov eJ (by rw[C8];omega),?_⟩,by dsimp only;omega⟩;have aI:=XE (b:=b32) (out:=lf m) (y:=lf y) (N:=m.length) (i:=i) (k:=k) (a:=lf x i) (c:=c) (s:=p+lf m (i+k)+c) fF jp (by rw[<-hp]);rw[<-aI];congr 1;unfold val;rw[HY];refine D7 fun j hj=>?_;rw[IV jp,DJ,C8]
  ·right;have cm:y.length<=k:=by omega
   have f7:c=0:=by omega
   rw[it_f (by simp;omega)];refine⟨_,rfl,hm,eJ,?_⟩;unfold Hold at fF ⊢;rw[D9 cm,f7]at fF;rw[EP,AU];have:lf x i*b32.n ^ i*val b32 y=lf x i*val b32 y*b32.n ^ i:=by simp only[Bg,Lu,F8]
   omega) ⟨0,0,l,rfl,by omega,by omega,hl,hd,by unfold Hold at hv ⊢;rw[hv];simp[vl]⟩ (by dsimp only;omega)
theorem qz3j{x y:List Int}(hx:Dg b32 x)(hy:Dg b32 y)(nx:x.length<=1073741824)(ny:y.length<=1073741824):R4 x y=some (dl (val b32 x*val b32 y)):=by
 unfold R4;rw[AA,AA,Ou];rw[show Int.toNat ((x.length:Int)+y.length+1)=x.length+y.length+1 by omega]
 obtain⟨o,e,h1,h2,h3⟩:=DA (s:=(0,List.replicate (x.length+y.length+1) 0)) (body:=kzu x y) (fun s=>∃(i:Nat) (l:List Int),s=((i:Int),l)/\i<=x.length/\l.length=x.length+y.length+1/\Dg b32 l/\Hold (val b32 l=vl b32 (lf x) i*val b32 y)) (fun s=>x.length-s.1.toNat) (fun l=>l.length=x.length+y.length+1/\Dg b32 l/\Hold (val b32 l=val b32 x*val b32 y)) (by
  rintro s ⟨i,l,rfl,hi,hl,hd,hv⟩;simp only[kzu];by_cases h:i<x.length
  ·left;rw[it_d,Cb hx (by omega)];simp only[Ae,DJ];obtain⟨o,e,g1,g2,g3⟩:=qz3g hx hy nx ny h hl hd hv;rw[e];simp only[Ae];rw[AA];exact⟨_,rfl,⟨i+1,o,rfl,by omega,g1,g2,g3⟩,by dsimp only;omega⟩
  ·right;rw[it_n];refine⟨_,rfl,hl,hd,?_⟩;rw[show i=x.length by omega]at hv;exact hv) ⟨0,_,rfl,by omega,by simp,IW,by unfold Hold val;rw[D7 (g:=fun _=>0) fun i _=>H7 _ i,KH];simp[vl]⟩ (by dsimp only;omega)
 rw[e];simp only[Ae];rw[EU h2 (by omega),show val b32 o=_ from h3];rfl
theorem qz3d{n:Nat}(h:n<18446744073709551616):IntKind.wrap .u64 (n:Int)=n:=by unfold IntKind.wrap;simp[IntKind.signed,IntKind.bits];omega
theorem Sn{hi lo:Nat}(h1:hi<4294967296)(h2:lo<4294967296):bitI .or .u64 (((hi:Int)*4294967296)%18446744073709551616) ((lo:Int)%18446744073709551616)=((hi*4294967296+lo:Nat):Int):=by
 rw[show((hi:Int)*4294967296)%18446744073709551616=((hi*4294967296:Nat):Int) by omega,show(lo:Int)%18446744073709551616=((lo:Nat):Int) by omega]
 have e:hi*4294967296+lo=(hi*4294967296) ||| lo:=by
  have:=Nat.shiftLeft_add_eq_or_of_lt (b:=lo) (i:=32) (by omega) hi
  rwa [Nat.shiftLeft_eq]at this
 have eb:(BitVec.ofInt 64 ((hi*4294967296:Nat):Int) ||| BitVec.ofInt 64 (lo:Int)).toNat=hi*4294967296+lo:=by rw[BitVec.toNat_or,BitVec.ofInt_natCast,BitVec.ofInt_natCast,BitVec.toNat_ofNat,BitVec.toNat_ofNat,Eh (by omega),Eh (by omega),<-e]
 unfold bitI;show IntKind.wrap .u64 (((BitVec.ofInt 64 ((hi*4294967296:Nat):Int) ||| BitVec.ofInt 64 (lo:Int)).toNat:Nat):Int)=_;rw[eb];exact qz3d (by omega)
theorem qz3p{x:List Int}{d:Nat}(hx:Dg b32 x)(nx:x.length<=1073741824)(iJ:0<d)(eY:d<4294967296):U8 x (d:Int)=some (dl (val b32 x / d),((val b32 x%d:Nat):Int)):=by
 unfold U8;rw[Ou,AA];rw[show Int.toNat (x.length:Int)=x.length by omega]
 obtain⟨⟨r',o⟩,e,h1,h2,r,hr,h3,h4⟩:=DA (s:=(0,(x.length:Int)-1,List.replicate x.length 0)) (body:=kzs (d:Int) x) (fun s=>∃(r k:Nat) (l:List Int),s=((r:Int),(k:Int)-1,l)/\k<=x.length/\r<d/\l.length=x.length/\Dg b32 l/\(∀j,j<k->lf l j=0)/\Hold (val b32 x=d*val b32 l+r*b32.n ^ k+vl b32 (lf x) k)) (fun s=>(s.2.1+1).toNat) (fun s=>s.2.length=x.length/\Dg b32 s.2/\(∃r:Nat,s.1=(r:Int)/\r<d/\Hold (val b32 x=d*val b32 s.2+r))) (by
  rintro s ⟨r,k,l,rfl,hk,hr,hl,hd,hz,hv⟩;simp only[kzs];by_cases h:0<k
  ·left;obtain⟨k,rfl⟩:∃j,k=j+1:=⟨k-1,by omega⟩;have gy:((k+1:Nat):Int)-1=(k:Int):=by omega
   rw[gy];rw[it_d,Cb hx (by omega)];have a1:=yz4 hx k;rw[C8]at a1;simp only[Ae,DJ];rw[show(d:Int)%18446744073709551616=(d:Int) by omega];rw[Sg,Sg,Cb hd (by omega),Sn (by omega) a1];simp only[Ae,DJ];rw[AA];have hq:=Ie (r*4294967296+lf x k) d;have hm:=Gc (r*4294967296+lf x k) iJ;have pP:(r*4294967296+lf x k) / d<4294967296:=by rw[GV iJ];have:(r+1)*4294967296<=d*4294967296:=Bq _ hr;rw[Bg 4294967296 d];omega
   rw[Int.tmod_eq_emod_of_nonneg (by omega),Gay (by omega),<-Int.natCast_emod,<-Int.natCast_ediv];generalize hQ:(r*4294967296+lf x k) / d=q at *;generalize hR:(r*4294967296+lf x k)%d=r' at *;rw[show((q:Int)%18446744073709551616)%4294967296=(q:Int) by omega];refine⟨_,rfl,⟨r',k,_,rfl,by omega,hm,by rw[List.length_set];exact hl,Ov hd (by rw[C8];omega),?_,?_⟩,by dsimp only;omega⟩
   ·intro j hj;rw[IV (by omega),ifN];exact hz j (by omega)
   ·have aI:=qzwz (b:=b32) (out:=lf l) (x:=lf x) (n:=x.length) (k:=k) (by':=d) (r:=r) (q:=q) (r':=r') (by unfold Hold val at hv;rw[hl]at hv;exact hv) (by omega) (hz k (by omega)) (by rw[C8,Bg q d];exact hq.symm);unfold Hold;rw[show val b32 x=vl b32 (lf x) x.length from rfl,aI];congr 3;unfold val;rw[HY,hl];refine D7 fun j hj=>?_;rw[IV (by omega),DJ]
  ·right;have iK:k=0:=by omega
   subst iK;rw[it_n];refine⟨_,rfl,hl,hd,r,rfl,hr,?_⟩;unfold Hold at *
   rw[hv];simp[vl]) ⟨0,x.length,_,rfl,AC _,iJ,by simp,IW,fun j _=>H7 _ j,by
    unfold Hold;have:val b32 (List.replicate x.length 0)=0:=by unfold val;rw[D7 (g:=fun _=>0) fun i _=>H7 _ i,KH]
    rw[this];simp[val]⟩ (by dsimp only;omega)
 dsimp only at hr h1 h2 h4;subst hr;rw[e];simp only[Ae];rw[EU h2 (by omega)];simp only[Ae];unfold Hold at h4;have gX:val b32 x / d=val b32 o:=by rw[h4,PQ iJ,JP h3];rfl
 have gc:val b32 x%d=r:=by rw[h4,Qe,Eh h3]
 rw[gX,gc];congr 2;omega
theorem Ya{v d:Nat}(hv:ln v<=1073741824)(iJ:0<d)(eY:d<4294967296):U8 (dl v) (d:Int)=some (dl (v / d),((v%d:Nat):Int)):=by rw[qz3p (CJ v) (by rw[Dp];exact hv) iJ eY,Ev]
theorem So{d:Nat}(h0:0<d)(h1:d<4294967296):dl d=[(d:Int)]:=by
 have hd:Dg b32 [(d:Int)]:=FM (by rw[C8];omega);have e:=XX hd (Or.inr (by simp[lf];omega));have hv:val b32 [(d:Int)]=d:=by simp[val,vl,lf]
 rw[hv]at e;exact e.symm
theorem Sp{u v:Nat}(hu:ln u<=1073741824)(hv:ln v<=1073741824):R4 (dl u) (dl v)=some (dl (u*v)):=by rw[qz3j (CJ u) (CJ v) (by rw[Dp];exact hu) (by rw[Dp];exact hv),Ev,Ev]
theorem wzdx{u v:Nat}(hu:ln u<=1073741824)(hv:ln v<=1073741824):Xm (dl u) (dl v)=some (dl (u+v)):=by rw[wzea (CJ u) (CJ v) (by rw[Dp];omega) (by rw[Dp];omega),Ev,Ev]
theorem Sq{u v:Nat}(hu:ln u<=1073741824)(h:v<=u):R5 (dl u) (dl v)=some (dl (u-v)):=by rw[qz26 (CJ u) (CJ v) (by rw[Dp];omega) (by rw[Ev,Ev];exact h),Ev,Ev]
theorem Sr{v b:Nat}(hv:ln v<=1073741824)(hb:b<=31):PT (dl v) (b:Int)=some (dl (v*2 ^ b)):=by
 unfold PT;have p1:2 ^ b<=2 ^ 31:=Du (by decide) hb;have p2:0<2 ^ b:=Nat.pow_pos (by decide);have e:(1*2 ^ min (Int.toNat (b:Int)) 32)%4294967296=((2 ^ b:Nat):Int):=by rw[show min (Int.toNat (b:Int)) 32=b by omega,Int.one_mul,Int.natCast_pow];have p3:((2:Nat):Int) ^ b=((2 ^ b:Nat):Int):=(Int.natCast_pow 2 b).symm;simp only[Int.cast_ofNat_Int]at p3 ⊢;rw[p3];omega
 rw[it_n,ck_d,e,<-So p2 (by omega),Sp hv (Br (H8 (n:=1) (by rw[Nat.pow_one,C8];omega)) (by omega))];rfl
theorem qzu5{v b:Nat}(hv:ln v<=1073741824)(hb:b<=31):PT (dl v) (-(b:Int))=some (dl (v / 2 ^ b)):=by
 by_cases h0:b=0
 ·subst h0;have:=Sr (v:=v) (b:=0) hv (by omega);simp only[Int.natCast_zero,Nat.pow_zero,Nat.mul_one]at this;simp[this]
 unfold PT;have p1:2 ^ b<=2 ^ 31:=Du (by decide) hb;have p2:0<2 ^ b:=Nat.pow_pos (by decide);have e:(1*2 ^ min (Int.toNat (- -(b:Int))) 32)%4294967296=((2 ^ b:Nat):Int):=by rw[show min (Int.toNat (- -(b:Int))) 32=b by omega,Int.one_mul,Int.natCast_pow];have p3:((2:Nat):Int) ^ b=((2 ^ b:Nat):Int):=(Int.natCast_pow 2 b).symm;simp only[Int.cast_ofNat_Int]at p3 ⊢;rw[p3];omega
 rw[it_d,AA,ck_d,e,Ya hv p2 (by omega)];rfl
theorem Yb(x:Int):IA x=some false:=by unfold IA;simp
theorem Yc(x:Int):K3 x=some false:=by unfold K3;simp
def cmpI(x y:Int):Int:=if x<y then -1 else if y<x then 1 else 0
theorem wzez(x y:Int):Gz x y=some (cmpI x y):=by
 unfold Gz cmpI;rw[Yb,Yb];simp only[Ae,AX];split
 ·rename_i h;rw[it_d h]
 ·rename_i h;rw[it_n h];split
  ·rename_i h;rw[it_d h]
  ·rename_i h;rw[it_n h]
theorem wzdl(x y:Int):NJ x y=some (cmpI x y):=by
 unfold NJ cmpI;rw[Yc,Yc];simp only[Ae,AX];split
 ·rename_i h;rw[it_d h]
 ·rename_i h;rw[it_n h];split
  ·rename_i h;rw[it_d h]
  ·rename_i h;rw[it_n h]
theorem O0{u v:Nat}(hu:ln u<=1073741824)(hv:ln v<=1073741824):RC (dl u) (dl v)=some (cmpI u v):=by
 unfold RC;rw[wzez,Dp,Dp];simp only[Ae];rcases Nat.lt_trichotomy (ln u) (ln v) with h|h|h
 ·have hlt:u<v:=by
   rcases C9 u v with h'|h'
   ·exact h'
   ·have:=ET h';omega
  rw[show cmpI (ln u:Int) (ln v:Int) = -1 by unfold cmpI;rw[ifP],B9,show cmpI (u:Int) (v:Int) = -1 by unfold cmpI;rw[ifP]]
 ·rw[show cmpI (ln u:Int) (ln v:Int)=0 by unfold cmpI;rw[ifN,ifN],Bf rfl,AA]
  obtain⟨o,e,ho⟩:=DA (s:=(ln u:Int)-1) (body:=jz2 (dl u) (dl v)) (fun s=>∃k:Nat,s=(k:Int)-1/\k<=ln u/\∀j,k<=j->j<ln u->dg b32 u j=dg b32 v j) (fun s=>(s+1).toNat) (fun o=>o=if u=v then .inl () else .inr (cmpI u v)) (by
   rintro s ⟨k,rfl,hk,hj⟩;simp only[jz2];by_cases h0:0<k
   ·obtain⟨k,rfl⟩:∃j,k=j+1:=⟨k-1,by omega⟩;have gy:((k+1:Nat):Int)-1=(k:Int):=(by omega);rw[gy,it_d,Cb (CJ u) (by rw[Dp];omega),Cb (CJ v) (by rw[Dp];omega)];simp only[Ae,DJ];rw[wzdl,FN,FN];simp only[Ae];have m7:vl b32 (dg b32 u) (ln u)=u:=IS u;have dD:vl b32 (dg b32 v) (ln u)=v:=(by rw[h];exact IS v);rcases Nat.lt_trichotomy (dg b32 u k) (dg b32 v k) with h1|h1|h1
    ·right;have hlt:=RX (b:=b32) (f:=dg b32 u) (g:=dg b32 v) (fun i _=>EO u i) h1 (n:=ln u) (by omega) (fun i hi jq=>hj i (by omega) jq);rw[m7,dD]at hlt;rw[show cmpI (dg b32 u k:Int) (dg b32 v k:Int) = -1 by unfold cmpI;rw[ifP],B9];refine⟨_,rfl,?_⟩;rw[ifN,show cmpI (u:Int) (v:Int) = -1 by unfold cmpI;rw[ifP]]
    ·left;rw[show cmpI (dg b32 u k:Int) (dg b32 v k:Int)=0 by unfold cmpI;rw[ifN,ifN],Bf rfl,AA];refine⟨_,rfl,⟨k,rfl,by omega,fun j h2 h3=>?_⟩,by omega⟩;rcases C9 k j with h4|h4
     ·exact hj j (by omega) h3
     ·rw[show j=k by omega];exact h1
    ·right;have hlt:=RX (b:=b32) (f:=dg b32 v) (g:=dg b32 u) (fun i _=>EO v i) h1 (n:=ln u) (by omega) (fun i hi jq=>(hj i (by omega) jq).symm);rw[m7,dD]at hlt;rw[show cmpI (dg b32 u k:Int) (dg b32 v k:Int)=1 by unfold cmpI;rw[ifN,ifP],B9];refine⟨_,rfl,?_⟩;rw[ifN,show cmpI (u:Int) (v:Int)=1 by unfold cmpI;rw[ifN,ifP]]
   ·right;rw[it_n];refine⟨_,rfl,?_⟩;have jr:u=v:=by rw[<-IS u,<-IS v,<-h];exact D7 fun i hi=>hj i (by omega) hi
    rw[Ap jr]) ⟨ln u,rfl,AC _,fun j h1 h2=>by omega⟩ (by show((ln u:Int)-1+1).toNat<_;omega)
  rw[e,ho];by_cases jr:u=v
  ·subst jr;rw[Ap rfl,show cmpI (u:Int) (u:Int)=0 by unfold cmpI;rw[ifN,ifN]];rfl
  ·rw[Aj jr];rfl
 ·have hlt:v<u:=by
   rcases C9 v u with h'|h'
   ·exact h'
   ·have:=ET h';omega
  rw[show cmpI (ln u:Int) (ln v:Int)=1 by unfold cmpI;rw[ifN,ifP],B9,show cmpI (u:Int) (v:Int)=1 by unfold cmpI;rw[ifN,ifP]]
theorem wzgz{v:Nat}(hv:ln v<=1073741824)(h0:v≠0):∃b:Nat,lp (kzx (dl v)) 0=some (b:Int)/\b<=31/\2147483648<=dg b32 v (ln v-1)*2 ^ b/\dg b32 v (ln v-1)*2 ^ b<4294967296:=by
 have hp:=Ox h0;have ht:dg b32 v (ln v-1)≠0:=(wzdw v).resolve_left (by omega);have m9:=EO (b:=b32) v (ln v-1);rw[C8]at m9
 obtain⟨o,e,b,rfl,h1,h2,h3⟩:=DA (s:=(0:Int)) (body:=kzx (dl v)) (fun s=>∃b:Nat,s=(b:Int)/\b<=31/\dg b32 v (ln v-1)*2 ^ b<4294967296) (fun s=>32-s.toNat) (fun o=>∃b:Nat,o=(b:Int)/\b<=31/\2147483648<=dg b32 v (ln v-1)*2 ^ b/\dg b32 v (ln v-1)*2 ^ b<4294967296) (by
  rintro s ⟨b,rfl,hb,hlt⟩;simp only[kzx,Dp];rw[AA,Cb (CJ v) (by rw[Dp];omega)];simp only[Ae];rw[ck_d,show Int.toNat ((ln v:Int)-1)=ln v-1 by omega,FN,show min (Int.toNat (b:Int)) 32=b by omega];have e1:(dg b32 v (ln v-1):Int)*2 ^ b=((dg b32 v (ln v-1)*2 ^ b:Nat):Int):=by have p3:((2:Nat):Int) ^ b=((2 ^ b:Nat):Int):=(Int.natCast_pow 2 b).symm;simp only[Int.cast_ofNat_Int]at p3;rw[p3,<-PM]
  rw[e1];generalize hT:dg b32 v (ln v-1)*2 ^ b=T at *;by_cases h:T<2147483648
  ·left;rw[it_d,AA]
   have oC:b<31:=by
    rcases C9 b 31 with h'|h'
    ·exact h'
    ·have h6:1*2 ^ 31<=dg b32 v (ln v-1)*2 ^ b:=Nat.mul_le_mul (by omega) (Du (by decide) h');omega
   refine⟨_,rfl,⟨b+1,by omega,by omega,?_⟩,by omega⟩;rw[ED,<-F8,hT];omega
  ·right;rw[it_n];exact⟨_,rfl,b,rfl,hb,by omega,by omega⟩) ⟨0,rfl,by omega,by simpa using m9⟩ (by show 32-(0:Int).toNat<_;omega)
 exact⟨b,e,h1,h2,h3⟩
theorem wzgu{j n d g left t0:Nat}{l r:List Int}(hl:Dg b32 l)(hr:Dg b32 r)(hn:r.length=n)(h2:2<=n)(hj:j+n<=l.length)(hL:l.length<=4294967296)(key:∀g left:Nat,left+g*lf r (n-1)=t0->left*b32.n+lf l (j+n-2)<g*lf r (n-2)->d<g) (hd:d<=g) (hg:g<4294967296) (g7:left+g*lf r (n-1)=t0) (mA:left<18446744073709551616) : ∃g':Nat,lp (kz2 (j:Int) l r) ((g:Int),(left:Int))=some (g':Int)/\d<=g'/\g'<=g:=by
 obtain⟨o,e,g',rfl,h3,h4⟩:=DA (s:=((g:Int),(left:Int))) (body:=kz2 (j:Int) l r) (fun s=>∃g2 left:Nat,s=((g2:Int),(left:Int))/\d<=g2/\g2<=g/\Hold (left+g2*lf r (n-1)=t0)/\left<18446744073709551616) (fun s=>s.1.toNat) (fun o=>∃g':Nat,o=(g':Int)/\d<=g'/\g'<=g) (by
  clear hd g7 mA;rintro s ⟨g2,left,rfl,hd,dv,hv,hb⟩;have eE:g2<4294967296:=by omega
  simp only[kz2];have a1:=yz4 hr (n-1);have a2:=yz4 hr (n-2);have a3:=yz4 hl (j+n-2);rw[C8]at a1 a2 a3;have key':=key g2 left hv;clear key;rw[hn];rw[ck_o (fun _=>by simp only[At,BE];omega)];by_cases h:left<4294967296
  ·have ga:decide ((left:Int)<4294967296)=true:=CN (by omega);rw[ga];simp only[AR,De,Bool.false_or,BP];rw[Cb hr (by omega)];simp only[Ae];rw[ck_t (by simp only[At,BE];omega),ck_t (by simp only[At,BE];omega),Cb hl (by omega)];simp only[Ae];rw[show Int.toNat ((n:Int)-2)=n-2 by omega,show Int.toNat ((j:Int)+n-2)=j+n-2 by omega];rw[Sn h a3];obtain⟨m1,m2⟩:=XZ eE a2;rw[show((g2:Int)*((lf r (n-2):Int)%18446744073709551616))%18446744073709551616=((g2*lf r (n-2):Nat):Int) by rw[show(lf r (n-2):Int)%18446744073709551616=lf r (n-2) by omega];rw[show(g2:Int)%18446744073709551616=g2 by omega]at m1;exact m1];rw[C8]at key';generalize g2*lf r (n-2)=q at *;by_cases hc:left*4294967296+lf l (j+n-2)<q
   ·left;have lA:=key' hc;rw[it_d,AA,Cb hr (by omega),show Int.toNat ((n:Int)-1)=n-1 by omega];simp only[Ae];refine⟨_,rfl,⟨g2-1,left+lf r (n-1),?_,by omega,by omega,?_,by omega⟩,by dsimp only;omega⟩
    ·refine Prod.ext ?_ ?_;·dsimp only;omega
     ·dsimp only;omega
    ·unfold Hold at hv ⊢;obtain⟨k,rfl⟩:∃k,g2=k+1:=⟨g2-1,by omega⟩;rw[<-hv,Nat.add_sub_cancel,AU];omega
   ·right;rw[it_n];exact⟨_,rfl,g2,rfl,hd,dv⟩
  ·have ga:decide ((left:Int)<4294967296)=false:=BA (by omega);rw[ga];simp only[AP,Ae,Dt,Bool.true_or,CM,DZ,AX];right;exact⟨_,rfl,g2,rfl,hd,dv⟩) ⟨g,left,rfl,hd,AC _,g7,mA⟩ (by show(g:Int).toNat<_;omega)
 exact⟨g',e,h3,h4⟩
theorem wzey{l:List Int}{lo hi i:Nat}(h:i<hi-lo):lf (sub l (lo:Int) (hi:Int)) i=lf l (lo+i):=by unfold lf sub;rw[show Int.toNat (lo:Int)=lo by omega,show Int.toNat ((hi:Int)-lo)=hi-lo by omega,FZ,Ap h,Fz]
theorem Ss{l:List Int}{lo hi:Nat}(h:lo<=hi)(h2:hi<=l.length):(sub l (lo:Int) (hi:Int)).length=hi-lo:=by simp only[sub,Eg,EC];omega
theorem Yd(v j i:Nat):dg b32 v (j+i)=dg b32 (v / b32.n ^ j) i:=by unfold dg;rw[Ig,UH]
theorem wzc5{l:List Int}{R j n:Nat}(hd:∀i,lf l i=dg b32 R i)(hj:j+n<=l.length)(hR:R<b32.n ^ (j+n)):val b32 (sub l (j:Int) ((j+n:Nat):Int))=R / b32.n ^ j:=by unfold val;rw[Ss (by omega) hj,show j+n-j=n by omega];rw[D7 (g:=dg b32 (R / b32.n ^ j)) fun i hi=>by rw[wzey (by omega),hd,Yd],Oe];refine Eh ?_;rw[GV (b32.pw j),<-Ig,Nat.add_comm n j];exact hR
theorem St{l:List Int}(h0:0<l.length)(h:l.length<=4294967296):Gw l=some l:=by unfold Gw;exact ck_t (by simp;omega)
theorem wzg1{j n P V g:Nat}{l:List Int}(hl:Dg b32 l)(hn:ln V=n)(hj:j+n+1<=l.length)(hL:l.length<=1073741824)(hP:val b32 (sub l (j:Int) ((j+(n+1):Nat):Int))=P)(hV:0<V)(hd:P / V<=g)(hg:g<4294967296) :
  lp (yzk (j:Int) l (dl V)) ((g:Int),dl (V*g))=some (((P / V:Nat):Int),dl (V*(P / V))):=by
 have aD:(sub l (j:Int) ((j+(n+1):Nat):Int)).length=n+1:=by rw[Ss (by omega) (by omega)];omega
 have oD:ln P<=n+1:=by have:=G5 (Si hl (j:Int) ((j+(n+1):Nat):Int));rw[hP,aD]at this;exact H8 this
 refine O1 (fun s=>∃g:Nat,s=((g:Int),dl (V*g))/\P / V<=g/\g<4294967296) (fun s=>s.1.toNat) _ ?_ ⟨g,rfl,hd,hg⟩ (by show(g:Int).toNat<_;omega);rintro s ⟨g,rfl,hd,hg⟩;simp only[yzk,Dp,hn];have pQ:ln (V*g)<=n+1:=by refine H8 ?_;rw[ED];refine Nat.mul_lt_mul'' ?_ (by rw[C8];exact hg);rw[<-hn];exact Et V
 rw[show(j:Int)+n+1=((j+(n+1):Nat):Int) by omega]
 (try rw[EQ])
 rw[St (by omega) (by omega)];simp only[Ae];rw[EU (Si hl _ _) (by omega),hP];simp only[Ae];rw[O0 (by omega) (by omega)];simp only[Ae];have f1:P<V*g->P / V<g:=fun h=>by rw[GV hV,Bg];exact h
 have f2:¬P<V*g->g<=P / V:=fun h=>by rw[Qd hV,Bg];omega
 generalize P / V=D at *;by_cases h:P<V*g
 ·left;have hlt:=f1 h;have aE:V<=V*g:=Nat.le_mul_of_pos_right V (by omega);rw[it_d (by unfold cmpI;rw[ifP];omega),Sq (by omega) aE];simp only[Ae];refine⟨_,rfl,⟨g-1,?_,by omega,by omega⟩,by dsimp only;omega⟩;refine Prod.ext ?_ ?_
  ·dsimp only;omega
  ·dsimp only;congr 1;obtain⟨k,rfl⟩:∃k,g=k+1:=⟨g-1,by omega⟩;rw[Nat.add_sub_cancel,Nat.mul_add];omega
 ·right;have heq:D=g:=Nat.le_antisymm hd (f2 h);rw[it_n (by unfold cmpI;rw[ifN];split<;>omega),heq]
theorem Su{l:List Int}(hl:Dg b32 l)(i:Nat):lf l i=dg b32 (val b32 l) i:=by
 by_cases h:i<l.length
 ·exact(RY (fun i _=>yz4 hl i) i h).symm
 ·rw[IU (by omega),RZ];exact F0 (G5 hl) (Du b32.pos (by omega))
theorem qz3v(R j:Nat):R=R%b32.n ^ j+b32.n ^ j*(R / b32.n ^ j):=(Nat.mod_add_div R (b32.n ^ j)).symm
theorem wzdg{l d:List Int}{j n:Nat}(hl:Dg b32 l)(hd:Dg b32 d)(jP:d.length<=n)(hj:j+n<=l.length)(hz:val b32 l<b32.n ^ (j+n)) :
  Dg b32 (BV (BV l j (List.replicate n 0)) j (List.take n d))/\(BV (BV l j (List.replicate n 0)) j (List.take n d)).length=l.length/\val b32 (BV (BV l j (List.replicate n 0)) j (List.take n d))=val b32 d*b32.n ^ j+val b32 l%b32.n ^ j:=by
 rw[HZ jP];have e1:(BV l j (List.replicate n 0)).length=l.length:=KN (by simp;omega);have e2:(BV (BV l j (List.replicate n 0)) j d).length=l.length:=by rw[KN (by rw[e1];omega),e1]
 have dp:∀(l new:List Int) (i:Nat),Dg b32 l->Dg b32 new->Dg b32 (BV l i new):=fun l new i h1 h2=>ES (ES (fun x hx=>h1 x (List.mem_of_mem_take hx)) h2) (fun x hx=>h1 x (UF hx));have hD:Dg b32 (BV (BV l j (List.replicate n 0)) j d):=dp _ _ _ (dp _ _ _ hl IW) hd;refine⟨hD,e2,?_⟩;have lo:∀i,i<j->lf (BV (BV l j (List.replicate n 0)) j d) i=lf l i:=by intro i hi;unfold lf BV;rw[List.append_assoc,Fy (by simp;omega),FZ,Ap hi,List.append_assoc,Fy (by simp;omega),FZ,Ap hi]
 have bw:∀i,lf (BV (BV l j (List.replicate n 0)) j d) (j+i)=lf d i:=by
  intro i;have ig:∀k,j+n<=k->lf l k=0:=fun k hk=>by rw[Su hl,RZ];exact F0 hz (Du b32.pos hk)
  have g1:∀(l new:List Int) (cN:j<=l.length),lf (BV l j new) (j+i)=if i<new.length then lf new i else lf l (j+i):=by
   intro l new cN;unfold lf BV;have hlt:(l.take j).length=j:=by rw[Eg];omega
   rw[List.append_assoc,GT (by rw[hlt];omega),hlt,show j+i-j=i by omega];split
   ·rename_i h;rw[Fy h]
   ·rename_i h;rw[GT (by omega),Fz,show j+new.length+(i-new.length)=j+i by omega]
  rw[g1 _ _ (by rw[e1];omega)];split
  ·rfl
  ·rename_i h;rw[g1 _ _ (by omega),IU (l:=d) (by omega)];split
   ·exact H7 _ _
   ·rename_i h2;simp only[Gbw]at h2;exact ig _ (by omega)
 unfold val;obtain⟨m,hm⟩:∃m,l.length=j+m:=⟨l.length-j,by omega⟩;have fE:vl b32 (lf l) j=val b32 l%b32.n ^ j:=by rw[<-Oe];exact D7 fun i _=>Su hl i
 rw[e2,hm,KG,D7 lo,D7 (n:=m) (fun i _=>bw i),D9 (by omega:d.length<=m),fE,Bg (b32.n ^ j),Nat.add_comm,<-hm];rfl
theorem Ye{R j n:Nat}(h:R<b32.n ^ (j+n+1))(h2:1<=n):R / b32.n ^ j / b32.n ^ (n-1)=dg b32 R (j+n)*b32.n+dg b32 R (j+n-1):=by
 obtain⟨m,rfl⟩:∃m,n=m+1:=⟨n-1,by omega⟩;rw[Nat.add_sub_cancel,UH,<-Ig,show j+(m+1)-1=j+m by omega];unfold dg;rw[show j+(m+1)=(j+m)+1 by omega]at h ⊢;generalize j+m=k at *;have e:R / b32.n ^ (k+1)=R / b32.n ^ k / b32.n:=by rw[ED,UH]
 have hlt:R / b32.n ^ k / b32.n<b32.n:=by rw[<-e,GV (b32.pw _),<-Nat.pow_succ',];exact h
 rw[e,Eh hlt];have:=Ie (R / b32.n ^ k) b32.n;rw[Bg]at this;exact this.symm
theorem KO(P n:Nat):P=P / b32.n ^ n*b32.n ^ n+P%b32.n ^ n:=by have:=Ie P (b32.n ^ n);rw[Bg]at this;exact this.symm
theorem wzfz{V n j R:Nat}{l q:List Int}(hl:Dg b32 l)(hq:Dg b32 q)(hV:ln V=n)(h2:2<=n)(iG:2147483648<=dg b32 V (n-1))(hR:val b32 l=R)(mB:R<V*b32.n ^ (j+1))(hj:j+n+1<=l.length)(hL:l.length<=1073741824)(oE:R / b32.n ^ j / b32.n ^ (n-1)≠0->j<q.length) (oF:lf q j=0) (hQ:q.length<=1073741824) {X:Nat} (hX:X=V*val b32 q+R) : ∃l' q',U9 (dl V) ((j:Int),l,q)=some (.inl ((j:Int)-1,l',q'))/\Dg b32 l'/\Dg b32 q'/\l'.length=l.length/\q'.length=q.length/\X=V*val b32 q'+val b32 l'/\val b32 l'<V*b32.n ^ j/\(∀i,i≠j->lf q' i=lf q i):=by
 have kb:V<b32.n ^ n:=by rw[<-hV];exact Et V
 have js:0<V:=by
  rcases F6 V with h|h
  ·rw[h]at hV;rw[Ow]at hV;omega
  ·exact h
 have lB:R<b32.n ^ (j+n+1):=by rw[show j+n+1=n+(j+1) by omega,Ig];exact F0 mB (Bq _ (GW kb))
 have gS:∀i,lf l i=dg b32 R i:=fun i=>by rw[Su hl,hR]
 have ge:=Ye lB (by omega:1<=n);have mC:=qz3v R j;have jt:R / b32.n ^ j<V*b32.n:=by rw[GV (b32.pw j),F8,<-Nat.pow_succ'];exact mB
 have ju:R%b32.n ^ j<b32.n ^ j:=Gc _ (b32.pw j);have d9:=wzc5 (l:=l) (R:=R) (j:=j) (n:=n+1) gS (by omega) (by rw[show j+(n+1)=j+n+1 by omega];exact lB);generalize hP:R / b32.n ^ j=P at *;have pR:P / V<4294967296:=by rw[GV js,Bg];exact jt
 have jv:P / V*V<=P:=Nat.div_mul_le_self P V
 have jw:P<(P / V+1)*V:=by
  have:=Nat.lt_mul_div_succ P js
  rwa [Bg]at this
 have oG:V=dg b32 V (n-1)*b32.n ^ (n-1)+V%b32.n ^ (n-1):=by
  have e:V / b32.n ^ (n-1)=dg b32 V (n-1):=by unfold dg;rw[Eh];rw[GV (b32.pw _),<-Nat.pow_succ',Nat.succ_eq_add_one,show n-1+1=n by omega];exact kb
  have:=KO V (n-1);rw[e]at this;exact this
 have lC:V=(dg b32 V (n-1)*b32.n+dg b32 V (n-2))*b32.n ^ (n-2)+V%b32.n ^ (n-2):=by have e:=Ye (R:=V) (j:=0) (n:=n-1) (by rw[show 0+(n-1)+1=n by omega];exact kb) (by omega);rw[Nat.pow_zero,Nat.div_one,show n-1-1=n-2 by omega,show 0+(n-1)=n-1 by omega,show n-1-1=n-2 by omega]at e;have:=KO V (n-2);rw[e]at this;exact this
 have mD:=KO P (n-1);rw[ge]at mD
 have lD:P=((dg b32 R (j+n)*b32.n+dg b32 R (j+n-1))*b32.n+dg b32 R (j+n-2))*b32.n ^ (n-2)+P%b32.n ^ (n-2):=by
  have e2:P / b32.n ^ (n-2)=(dg b32 R (j+n)*b32.n+dg b32 R (j+n-1))*b32.n+dg b32 R (j+n-2):=by
   rw[<-ge];have a:P / b32.n ^ (n-1)=P / b32.n ^ (n-2) / b32.n:=by rw[show n-1=n-2+1 by omega,ED,UH]
   have c:dg b32 R (j+n-2)=P / b32.n ^ (n-2)%b32.n:=by rw[show j+n-2=j+(n-2) by omega,Yd,hP];rfl
   rw[a,c];have:=Ie (P / b32.n ^ (n-2)) b32.n;rw[Bg]at this;exact this.symm
  have:=KO P (n-2);rw[e2]at this;exact this
 have gX:=EO (b:=b32) V (n-1);have gc:=EO (b:=b32) V (n-2);have gZ:=EO (b:=b32) R (j+n);have mE:=EO (b:=b32) R (j+n-1);have oH:=EO (b:=b32) R (j+n-2)
 have hgt:P / V<=(dg b32 R (j+n)*b32.n+dg b32 R (j+n-1)) / dg b32 V (n-1) :=
  qzzg oG mD (Gc _ (b32.pw _)) jv (by omega)
 have key:∀g left:Nat,left+g*dg b32 V (n-1)=dg b32 R (j+n)*b32.n+dg b32 R (j+n-1)->left*b32.n+dg b32 R (j+n-2)<g*dg b32 V (n-2)->P / V<g:=fun g left hl hb =>
  qzuy (b:=b32) (v:=V) (v1:=dg b32 V (n-1)) (v2:=dg b32 V (n-2)) (part:=P) lC lD (Gc _ (b32.pw _)) jv hl hb
 simp only[U9,Dp,hV];rw[it_d,AA,Cb hl (by omega)];simp only[Ae];rw[AA,AA,Cb hl (by omega)];simp only[Ae];rw[AA,Cb (CJ V) (by rw[Dp];omega)];simp only[Ae];rw[show Int.toNat ((j:Int)+n)=j+n by omega,show Int.toNat ((j:Int)+n-1)=j+n-1 by omega,show Int.toNat ((n:Int)-1)=n-1 by omega,FN,gS,gS];rw[C8]at gX gc gZ mE oH;rw[show(dg b32 V (n-1):Int)%18446744073709551616=(dg b32 V (n-1):Int) by omega];rw[Sg,AA];rw[show(dg b32 R (j+n):Int)%18446744073709551616=(dg b32 R (j+n):Int) by omega];rw[Sn gZ mE];rw[C8]at ge hgt key;generalize hT:dg b32 R (j+n)*4294967296+dg b32 R (j+n-1)=T at *;have pS:T<18446744073709551616:=by omega
 generalize jx:dg b32 V (n-1)=v1 at *;have oI:T / v1*v1<=T:=Nat.div_mul_le_self T v1;have lE:min ((((T:Nat):Int).tdiv (v1:Int))%18446744073709551616) 4294967295=((min (T / v1) 4294967295:Nat):Int):=by rw[Gay (by omega),<-Int.natCast_ediv];have:T / v1<=T:=Nat.div_le_self _ _;generalize T / v1=w at *;omega
 rw[lE];have pT:T / v1<=T:=Nat.div_le_self _ _;generalize T / v1=w at *;generalize g9:min w 4294967295=g0 at *;have lF:g0<4294967296:=by omega
 have lG:P / V<=g0:=by omega
 have oJ:g0*v1<=T:=Br (Bq _ (by omega)) oI;have lH:(((T:Nat):Int)-((g0:Int)*(v1:Int))%18446744073709551616)%18446744073709551616=((T-g0*v1:Nat):Int):=by rw[<-PM];generalize g0*v1=z at *;omega
 rw[lH];obtain⟨g,eg,lA,pU⟩:=wzgu (j:=j) (n:=n) (d:=P / V) (g:=g0) (left:=T-g0*v1) (t0:=T) (l:=l) (r:=dl V) hl (CJ V) (by rw[Dp];exact hV) h2 (by omega) (by omega) (by intro g left h1 h3;rw[FN,jx]at h1;rw[FN,gS,C8]at h3;exact key g left h1 h3) lG lF (by rw[FN,jx];omega) (by omega);rw[eg];simp only[Ae];by_cases h0:g=0
 ·subst h0;have oK:P<V:=by rw[Nat.eq_zero_of_le_zero lA]at jw;omega
  rw[it_d];simp only[Ae];rw[AA];refine⟨l,q,rfl,hl,hq,rfl,rfl,by rw[hR];exact hX,?_,fun i _=>rfl⟩;rw[hR,mC];have h5:(P+1)*b32.n ^ j<=V*b32.n ^ j:=Bq _ oK;rw[AU,Bg P]at h5;omega
 ·have oL:T≠0:=by
   intro h;omega
  have fG:=oE (by rw[C8,ge];exact oL);rw[it_n];simp only[Ae];have lI:g<4294967296:=by omega
  have oM:(j:Int)+n+1=((j+(n+1):Nat):Int):=by omega
  rw[AA,AA,oM,EQ];rw[show(g:Int)%4294967296=(g:Int) by omega,<-So (by omega:0<g) lI,Sp (by omega) (Br (H8 (n:=1) (by rw[Nat.pow_one,C8];exact lI)) (by omega))];simp only[Ae];rw[wzg1 (j:=j) (n:=n) (P:=P) (V:=V) (g:=g) hl hV (by omega) hL d9 js lA lI];simp only[Ae];have oD:ln P<=n+1:=by refine H8 ?_;rw[ED];exact Nat.lt_trans jt (Nat.mul_lt_mul_of_pos_right kb b32.pos)
  have mF:(sub l (j:Int) ((j+(n+1):Nat):Int)).length=n+1:=by rw[Ss (by omega) (by omega)];omega
  rw[St (by omega) (by omega)];simp only[Ae];rw[EU (Si hl _ _) (by omega),d9];simp only[Ae];have oO:V*(P / V)<=P:=by rw[Bg];exact jv
  rw[Sq (by omega) oO];simp only[Ae]
  have hD:P-V*(P / V)<V:=by
   have:(P / V+1)*V=V*(P / V)+V:=by rw[AU,Bg,Nat.one_mul]
   omega
  have oP:(dl (P-V*(P / V))).length<=n+1:=by rw[Dp];have:=ET (GW hD);omega
  have hw:Int.toNat (((j+(n+1):Nat):Int)-(j:Int))=n+1:=by omega
  rw[hw];obtain⟨p1,p2,p3⟩:=wzdg (l:=l) (d:=dl (P-V*(P / V))) (j:=j) (n:=n+1) hl (CJ _) oP (by omega) (by rw[hR,show j+(n+1)=j+n+1 by omega];exact lB);have cC:(BV l j (List.replicate (n+1) 0)).length=l.length:=KN (by simp;omega);rw[show Int.toNat (j:Int)=j by omega,EQ]
  (try rw[EQ])
  (try rw[EQ (by rw[cC];omega)])
  rw[Cb hq (by omega)];simp only[Ae];rw[AA];rw[Ev,hR]at p3;have lJ:((P / V:Nat):Int)%4294967296=((P / V:Nat):Int):=by generalize P / V=z at *;omega
  rw[lJ];refine⟨_,_,rfl,p1,Ov hq (by rw[C8];generalize P / V=z at *;omega),p2,by rw[HY],?_,?_,?_⟩
  ·rw[p3];have aI:=wzc0 (b:=b32) (q:=lf q) (Q:=q.length) (j:=j) (d:=P / V) (v:=V) (part:=P) (rest:=R) (R:=R%b32.n ^ j) (rest':=(P-P / V*V)*b32.n ^ j+R%b32.n ^ j) (X:=X) hX fG oF (by rw[Bg P];rw[Nat.add_comm];exact mC) rfl jv;rw[aI,Bg V (P / V)];congr 2;unfold val;rw[HY];refine D7 fun i hi=>?_;rw[IV fG,DJ]
  ·rw[p3];have:=wzcw (b:=b32) (v:=V) (part:=P) (d:=P / V) (j:=j) (R:=R%b32.n ^ j) jw jv ju
   rwa [Bg (P / V) V]at this
  ·intro i hi;rw[IV fG,Aj hi]
theorem qz28{l:List Int}{n:Nat}(h:∀i,i<n->lf l i=0):vl b32 (lf l) n=0:=by rw[D7 (g:=fun _=>0) h,KH]
theorem wzda(n:Nat):val b32 (List.replicate n 0)=0:=qz28 fun i _=>H7 n i
theorem wzc7{V n X Q k0:Nat}{l0:List Int}(gJ:Dg b32 l0)(hX:val b32 l0=X)(hV:ln V=n)(h2:2<=n)(iG:2147483648<=dg b32 V (n-1))(aD:l0.length=k0+n)(mG:X<b32.n ^ (k0+n-2))(iK:2<=k0)(hL:l0.length<=1073741824)(hQ:k0-1<=Q)(pV:Q<=1073741824) : ∃l q,lp (U9 (dl V)) ((k0:Int)-1,l0,List.replicate Q 0)=some (l,q)/\Dg b32 l/\Dg b32 q/\l.length<=1073741824/\q.length<=1073741824/\X=V*val b32 q+val b32 l/\val b32 l<V:=by
 have js:V≠0:=by intro h;rw[h,Ow]at hV;omega
 have h9:b32.n ^ (n-1)<=V:=by rw[<-hV];exact IR js
 obtain⟨⟨l,q⟩,e,h⟩:=DA (s:=((k0:Int)-1,l0,List.replicate Q 0)) (body:=U9 (dl V)) (fun s=>∃(k:Nat) (l q:List Int),s=((k:Int)-1,l,q)/\k<=k0/\Dg b32 l/\Dg b32 q/\l.length=l0.length/\q.length=Q/\(∀i,i<k->lf q i=0)/\Hold (X=V*val b32 q+val b32 l)/\Hold (val b32 l<V*b32.n ^ k)) (fun s=>(s.1+1).toNat) (fun o=>Dg b32 o.1/\Dg b32 o.2/\o.1.length<=1073741824/\o.2.length<=1073741824/\X=V*val b32 o.2+val b32 o.1/\val b32 o.1<V) (by
  rintro s ⟨k,l,q,rfl,hk,hl,hq,eB,oQ,hz,lK,hR⟩;unfold Hold at lK hR;by_cases h:0<k
  ·left;obtain⟨j,rfl⟩:∃j,k=j+1:=⟨k-1,by omega⟩;rw[show((j+1:Nat):Int)-1=(j:Int) by omega]
   obtain⟨l',q',e,p1,p2,p3,p4,p5,p6,p7⟩:=wzfz (V:=V) (n:=n) (j:=j) (l:=l) (q:=q) hl hq hV h2 iG rfl hR (by omega) (by omega) (by
    intro aH;rw[oQ];rcases C9 j (k0-1) with h'|h'
    ·omega
    ·exfalso;apply aH;have hj:j=k0-1:=by omega
     have aE:val b32 l<=X:=(by omega);rw[UH,<-Ig];refine JP (U0 aE ?_);rw[show j+(n-1)=k0+n-2 by omega];exact mG) (hz j (by omega)) (by omega) lK
   refine⟨_,e,⟨j,l',q',rfl,by omega,p1,p2,by omega,by omega,?_,p5,p6⟩,by dsimp only;omega⟩;intro i hi;rw[p7 i (by omega)];exact hz i (by omega)
  ·right;have lL:k=0:=by omega
   subst lL;refine⟨(l,q),?_,hl,hq,by dsimp only;omega,by dsimp only;omega,lK,by simpa using hR⟩;simp only[U9];rw[it_n]) ⟨k0,l0,_,rfl,AC _,gJ,IW,rfl,by simp,fun i _=>H7 _ i,by unfold Hold;rw[wzda,hX];simp,by unfold Hold;rw[hX];refine F0 mG ?_;refine Br ?_ (Bq _ h9);rw[<-Ig];exact Nat.pow_le_pow_right b32.pos (by omega)⟩ (by dsimp only;omega)
 exact⟨l,q,e,h⟩
theorem wzbm{u v:Nat}(hu:ln u<=536870912)(hv:ln v<=536870912)(h0:v≠0):NA (dl u) (dl v)=some (dl (u / v),dl (u%v)):=by
 unfold NA;rw[O0 (by omega) (by omega)];simp only[Ae];by_cases h:u<v
 ·rw[it_d (by unfold cmpI;rw[ifP];omega),JP h,Eh h];rfl
 rw[it_n (by unfold cmpI;rw[ifN];split<;>omega),Dp];by_cases h1:ln v=1
 ·have jy:v<4294967296:=by have:=Et v;rw[h1,Nat.pow_one,C8]at this;exact this
  rw[it_d,So (by omega) jy];rw[show at? [(v:Int)] 0=some (v:Int) from at_e (n:=0) rfl rfl];simp only[Ae];rw[Ya (by omega) (by omega) jy];simp only[Ae];have hr:=Gc u (JJ h0);have ht:Hs [((u%v:Nat):Int)]=some (dl (u%v)):=by rw[EU (FM (by rw[C8];omega)) (by simp)];rw[show val b32 [((u%v:Nat):Int)]=u%v by generalize u%v=z;simp[val,vl,lf]]
  rw[ht];rfl
 rw[it_n];have iQ:=Ox h0;obtain⟨b,eb,hb,dL,cP⟩:=wzgz (v:=v) (by omega) h0;rw[eb];simp only[Ae];rw[Sr (by omega) hb,Sr (by omega) hb];simp only[Ae];have hp:0<2 ^ b:=Nat.pow_pos (by decide);have mH:2 ^ b<4294967296:=by have:2 ^ b<=2 ^ 31:=Du (by decide) hb;omega
 have oR:v=dg b32 v (ln v-1)*b32.n ^ (ln v-1)+v%b32.n ^ (ln v-1):=by
  have e:v / b32.n ^ (ln v-1)=dg b32 v (ln v-1):=by unfold dg;rw[Eh];rw[GV (b32.pw _),<-Nat.pow_succ',Nat.succ_eq_add_one,show ln v-1+1=ln v by omega];exact Et v
  have:=KO v (ln v-1);rw[e]at this;exact this
 have fE:=Gc v (b32.pw (ln v-1));have mI:v*2 ^ b=dg b32 v (ln v-1)*2 ^ b*b32.n ^ (ln v-1)+v%b32.n ^ (ln v-1)*2 ^ b:=by have:=F3 (fun z=>z*2 ^ b) oR;simp only[AU]at this;rw[this];congr 1;rw[F8,Bg (b32.n ^ (ln v-1)),<-F8]
 have jz:v*2 ^ b<b32.n ^ ln v:=by
  have ht:dg b32 v (ln v-1)*2 ^ b+2 ^ b<=b32.n:=by
   have oS:dg b32 v (ln v-1)*2 ^ b+2 ^ b=(dg b32 v (ln v-1)+1)*2 ^ b:=by rw[AU,Nat.one_mul]
   have mJ:b32.n=2 ^ (32-b)*2 ^ b:=by rw[<-Ig,show 32-b+b=32 by omega];rfl
   rw[oS,mJ];refine Bq _ ?_;have:dg b32 v (ln v-1)*2 ^ b<2 ^ (32-b)*2 ^ b:=by rw[<-mJ,C8];exact cP
   exact Nat.lt_of_mul_lt_mul_right this
  have h5:(v%b32.n ^ (ln v-1)+1)*2 ^ b<=b32.n ^ (ln v-1)*2 ^ b:=Bq _ fE;have h6:(dg b32 v (ln v-1)*2 ^ b+2 ^ b)*b32.n ^ (ln v-1)<=b32.n*b32.n ^ (ln v-1):=Bq _ ht;rw[<-Nat.pow_succ',Nat.succ_eq_add_one,show ln v-1+1=ln v by omega,AU]at h6;rw[AU,Nat.one_mul,Bg (b32.n ^ (ln v-1))]at h5;rw[mI];omega
 have h9:b32.n ^ (ln v-1)<=v*2 ^ b:=Br (IR h0) (Nat.le_mul_of_pos_right _ hp);have hJ:ln (v*2 ^ b)=ln v:=(XC jz (Or.inr h9)).symm
 have jA:dg b32 (v*2 ^ b) (ln v-1)=dg b32 v (ln v-1)*2 ^ b+v%b32.n ^ (ln v-1)*2 ^ b / b32.n ^ (ln v-1):=by
  unfold dg;rw[Eh]
  ·have:=mI;unfold dg at this;rw[this];rw[Bg _ (b32.n ^ (ln v-1)),PQ (b32.pw _)]
  ·rw[GV (b32.pw _),<-Nat.pow_succ',Nat.succ_eq_add_one,show ln v-1+1=ln v by omega];exact jz
 have iG:2147483648<=dg b32 (v*2 ^ b) (ln v-1):=by rw[jA];exact Br dL (Nat.le_add_right _ _)
 have kL:u≠0:=by omega
 have oT:u*2 ^ b≠0:=Nat.mul_ne_zero kL (by omega);have mK:ln (u*2 ^ b)<=ln u+1:=by refine H8 ?_;rw[ED];exact Nat.mul_lt_mul'' (Et u) (by rw[C8];exact mH)
 have pX:=Ox oT;have pY:ln v<=ln (u*2 ^ b):=by rw[<-hJ];exact ET (Bq _ (by omega))
 have jr:ln v<=ln u:=ET (by omega);rw[St (by rw[Dp];omega) (by rw[Dp];omega)];simp only[Ae];have jo:(dl (u*2 ^ b)++[0,0]).length=ln (u*2 ^ b)+2:=by simp[Dp]
 rw[jo,show(dl (v*2 ^ b)).length=ln v by rw[Dp,hJ],Dp u];rw[ck_d,AA,AA,Ou,AA,AA];have oU:Dg b32 (dl (u*2 ^ b)++[0,0]):=ES (CJ _) (IW (n:=2))
 have gR:val b32 (dl (u*2 ^ b)++[0,0])=u*2 ^ b:=by
  have e1:dl (u*2 ^ b)++[0,0]=(dl (u*2 ^ b)++[0])++[0]:=by simp
  rw[e1,KM,KM,Ev];simp
 obtain⟨l,q,e,g1,g2,g3,g4,g5,g6⟩:=wzc7 (V:=v*2 ^ b) (n:=ln v) (X:=u*2 ^ b) (Q:=ln u-ln v+2) (k0:=ln (u*2 ^ b)+2-ln v) oU gR hJ (by omega) iG (by rw[jo];omega) (by rw[show ln (u*2 ^ b)+2-ln v+ln v-2=ln (u*2 ^ b) by omega];exact Et _) (by omega) (by rw[jo];omega) (by omega) (by omega);rw[show((ln (u*2 ^ b)+2:Nat):Int)-(ln v:Int)-1=((ln (u*2 ^ b)+2-ln v:Nat):Int)-1 by omega,show Int.toNat ((ln u:Int)-(ln v:Int)+2)=ln u-ln v+2 by omega,e];simp only[Ae];rw[EU g2 (by omega),EU g1 (by omega)];simp only[Ae];rw[AA];have jB:0<v*2 ^ b:=Nat.mul_pos (by omega) hp
 have hq:val b32 q=u / v:=by
  have e1:u*2 ^ b / (v*2 ^ b)=val b32 q:=by rw[g5,PQ jB,JP g6];rfl
  rw[Nat.mul_div_mul_right _ _ hp]at e1;exact e1.symm
 have hr:val b32 l=u%v*2 ^ b:=by
  have e1:u*2 ^ b%(v*2 ^ b)=val b32 l:=by rw[g5,Qe,Eh g6]
  rw[Nat.mul_mod_mul_right]at e1;exact e1.symm
 rw[qzu5 (by rw[hr,<-hr];exact Br (ET (GW g6)) (by omega)) hb];rw[hq,hr,Nat.mul_div_cancel _ hp];rfl
end Go.Am

