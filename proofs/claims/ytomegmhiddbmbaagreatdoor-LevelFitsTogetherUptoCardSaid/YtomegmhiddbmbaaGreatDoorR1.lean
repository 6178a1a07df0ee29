/- Part R1: the functions of numbers as functions of core numbers. No condition. -/
import Derived.Test.YtomegmhiddbmbaaGreatDoorN1
import Derived.Test.YtomegmhiddbmbaaGreatDoorF1
set_option linter.unusedSimpArgs false
set_option linter.unusedVariables false
namespace Go.Am
section
variable {U β:Type}
theorem Af(a:U)(k:U->Option β):bd (some a) k=k a:=id rfl
theorem ck_t{c:Bool}{x:Option U}(h:c=true):ck c x=x:=by subst h;rfl
theorem ck_d{p:Prop}[Decidable p]{x:Option U}(h:p):ck (decide p) x=x:=ck_t (Bt h)
theorem OS{p:Prop}[Decidable p]{x:Option U}(h:¬p):ck (!decide p) x=x:=ck_t (by simp[h])
theorem AF{n:Int}{x:Option U}(h:-9223372036854775808<=n/\n<=9223372036854775807):ck (A0 .i64 n) x=x:=ck_t (by simp[A0,h])
theorem OT{n:Int}{b:Nat}{x:Option U}(h:0<=n/\n*b<=140737488355328):ck (mkOk n b) x=x:=ck_t (by simp[mkOk,h])
theorem EL{l:List β}{lo hi:Int}{x:Option U}(h:0<=lo/\lo<=hi/\hi<=l.length):ck (Dv l lo hi) x=x:=ck_t (by simp[Dv,h])
theorem wzwr{l:List UInt8}{j:Int}{x:Option U}(h:0<=j/\j<l.length):ck (BP l j) x=x:=ck_t (by simp[BP,h])
theorem ck_o{p:Prop}[Decidable p]{c:Bool}{x:Option U}(h:p->c=true):ck (!decide p||c) x=x:=ck_t (by by_cases hp:p<;>simp[hp,h])
theorem it_t{c:Bool}{x y:Option U}(h:c=true):ite' c x y=x:=by subst h;rfl
theorem it_f{c:Bool}{x y:Option U}(h:c=false):ite' c x y=y:=by subst h;rfl
theorem it_d{p:Prop}[Decidable p]{x y:Option U}(h:p):ite' (decide p) x y=x:=it_t (Bt h)
theorem it_n{p:Prop}[Decidable p]{x y:Option U}(h:¬p):ite' (decide p) x y=y:=it_f (BE h)
theorem CG{p:Prop}[Decidable p]{x y:Option U}(h:p):ite' (!decide p) x y=y:=it_f (by simp[h])
theorem CY{p:Prop}[Decidable p]{x y:Option U}(h:¬p):ite' (!decide p) x y=x:=it_t (by simp[h])
theorem Dq[Inhabited U]{x:Option U}:gd true x=x:=id rfl
theorem FJ[Inhabited U]{x:Option U}:gd false x=some default:=id rfl
theorem YY{x y:Option U}:ite' true x y=x:=id rfl
theorem FK{x y:Option U}:ite' false x y=y:=id rfl
theorem wzdp{x:Option U}:ck true x=x:=id rfl
theorem at_e{l:List U}{j:Int}{n:Nat}{x:U}(hj:j=n)(h:l[n]?=some x):at? l j=some x:=by subst hj;unfold at?;rw[Bt (by omega:(0:Int)<=n)];exact h
end
theorem YZ{ι O ω:Type}{body:O->Option (O⊕ω)}(f:ι->O)(I:ι->Prop)(J:ι->Nat)(R:ω->Prop)(step:∀i,I i->(∃i',body (f i)=some (.inl (f i'))/\I i'/\J i'<J i)\/(∃o,body (f i)=some (.inr o)/\R o)) {s:O} (i:ι) (hs:s=f i) (h:I i) (hb:J i<4611686018427387904):∃o,lp body s=some o/\R o:=by
 subst hs
 have key:∀(n:Nat) (i:ι),I i->J i<n->∃o,lpN body n (f i)=some o/\R o:=by
  intro n;induction n with
  |zero=>intro i _ h;omega
  |succ n ih =>
   intro i hs hn;rcases step i hs with ⟨s',e,bi,hm⟩|⟨o,e,ho⟩
   ·obtain⟨o,e2,ho⟩:=ih s' bi (by omega);exact⟨o,by unfold lpN;rw[e];exact e2,ho⟩
   ·exact⟨o,by unfold lpN;rw[e],ho⟩
 rw[Mf];exact key _ i h hb
def lf(l:List Int)(i:Nat):Nat:=(l[i]?.getD 0).toNat
def Dg(b:Base)(l:List Int):Prop:=∀x,x∈l->0<=x/\x<b.n
theorem yz4{b:Base}{l:List Int}(h:Dg b l)(i:Nat):lf l i<b.n:=by
 unfold lf;cases hx:l[i]? with
 |none=>exact b.pos
 |some x =>have:=h x (BH hx);simp only[Nz];omega
theorem Jf{l:List Int}{i:Nat}(h:l.length<=i):lf l i=0:=by unfold lf;rw[JV h];rfl
theorem FL{l m:List Int}{i:Nat}(h:i<l.length):lf (l++m) i=lf l i:=by unfold lf;rw[FU h]
theorem qzxd{l m:List Int}{i:Nat}(h:l.length<=i):lf (l++m) i=lf m (i-l.length):=by unfold lf;rw[Ir h]
theorem EM{l:List Int}{x:Int}:lf (l++[x]) l.length=x.toNat:=by rw[qzxd (AD _)];simp[lf]
theorem Jg{l:List Int}{k i:Nat}{x:Int}(hk:k<l.length):lf (l.set k x) i=if i=k then x.toNat else lf l i:=by
 unfold lf;rw[JW];by_cases h:k=i
 ·subst h;simp[hk]
 ·rw[Ak h,Ak (by omega)]
theorem HG(n i:Nat):lf (List.replicate n 0) i=0:=by unfold lf;rw[List.getElem?_replicate];split<;>rfl
theorem Ep{b:Base}{l m:List Int}(h:Dg b l)(h':Dg b m):Dg b (l++m):=fun x hx=>(DJ.1 hx).elim (h x) (h' x)
theorem Er{b:Base}{x:Int}(h:0<=x/\x<b.n):Dg b [x]:=fun y hy=>by rw[CM.1 hy];exact h
theorem M8{b:Base}:Dg b []:=fun _ h=>by cases h
theorem OU{b:Base}{l:List Int}{k:Nat}{x:Int}(h:Dg b l)(hx:0<=x/\x<b.n):Dg b (l.set k x):=fun y hy=>(List.mem_or_eq_of_mem_set hy).elim (h y) fun e=>e▸hx
theorem Jh{b:Base}{n:Nat}:Dg b (List.replicate n 0):=fun x hx=>by rw[List.eq_of_mem_replicate hx];have:=b.pos;omega
theorem Sv{b:Base}{l:List Int}(h:Dg b l)(lo hi:Int):Dg b (sub l lo hi):=fun x hx=>h x (Gca (List.mem_of_mem_take hx))
theorem Cd{b:Base}{l:List Int}(h:Dg b l){j:Int}(hj:0<=j/\j<l.length):at? l j=some (lf l j.toNat:Int):=by
 have hn:j.toNat<l.length:=by omega
 refine at_e (n:=j.toNat) (by omega) ?_;have hd:=h _ (GW hn);unfold lf;rw[AG hn];simp only[Nz];congr 1;omega
def val(b:Base)(l:List Int):Nat:=vl b (lf l) l.length
theorem Ji{b:Base}{l:List Int}{x:Int}:val b (l++[x])=val b l+x.toNat*b.n ^ l.length:=by unfold val;rw[Dx,Eh];simp only[EJ];rw[EM];congr 1;exact D6 fun i hi=>FL hi
theorem G7{b:Base}{l:List Int}(h:Dg b l):val b l<b.n ^ l.length:=G5 fun i _=>yz4 h i
theorem D7{b:Base}{l:List Int}{n:Nat}(h:l.length<=n):vl b (lf l) n=val b l:=YG (fun i hi=>Jf hi) h
theorem qz3e{l m:List Int}{b:Base}(hl:Dg b l)(hm:Dg b m)(hn:l.length=m.length)(h:∀i,i<l.length->lf l i=lf m i):l=m:=by refine List.ext_getElem hn fun i h1 h2=>?_;have e:=h i h1;have d1:=hl _ (GW h1);have d2:=hm _ (GW h2);unfold lf at e;rw[AG h1,AG h2]at e;simp only[Nz]at e;omega
def dl(v:Nat):List Int:=(List.range (ln v)).map fun i=>(dg b32 v i:Int)
theorem Di(v:Nat):(dl v).length=ln v:=by simp[dl]
theorem CH(v:Nat):Dg b32 (dl v):=fun x hx=>by obtain⟨i,_,rfl⟩:=FX.1 hx;have:=EI (b:=b32) v i;omega
theorem Za{v i:Nat}(h:i<ln v):lf (dl v) i=dg b32 v i:=by simp[lf,dl,h]
theorem FM(v i:Nat):lf (dl v) i=dg b32 v i:=by
 by_cases h:i<ln v
 ·exact Za h
 ·rw[Jf (by rw[Di];omega),So];exact F3 (En v) (Du b32.pos (by omega))
theorem Es(v:Nat):val b32 (dl v)=v:=by unfold val;rw[Di,D6 fun i hi=>Za hi,Jc]
theorem OV:ln 0=0:=rfl
theorem wzd2:dl 0=[]:=rfl
theorem M9{v:Nat}(h:v≠0):0<ln v:=by unfold ln;rw[Ak h];omega
theorem Zb{l:List Int}(h:Dg b32 l)(hn:Norm (lf l) l.length):l=dl (val b32 l):=by have e:l.length=ln (val b32 l):=wzcv (fun i _=>yz4 h i) hn;refine qz3e h (CH _) (by rw[Di];exact e) fun i hi=>?_;rw[FM];exact(Sn (fun i _=>yz4 h i) i hi).symm
theorem DW{u v:Nat}(h:u<=v):ln u<=ln v:=by
 by_cases hu:u=0
 ·subst hu;simp[OV]
 ·rcases CN (ln v) (ln u) with h1|h1;·have h2:=Jb hu;have h3:=En v;have h4:b32.n ^ ln v<=b32.n ^ (ln u-1):=Du b32.pos (by omega);omega
  ·exact h1
theorem G8{v n:Nat}(h:v<b32.n ^ n):ln v<=n:=by
 by_cases hv:v=0
 ·subst hv;simp[OV]
 ·rcases CN n (ln v) with h1|h1;·have h2:=Jb hv;have h4:b32.n ^ n<=b32.n ^ (ln v-1):=Du b32.pos (by omega);omega
  ·exact h1
def bl(v:Nat):Nat:=(bs v).length
theorem HH(v:Nat):v<256 ^ bl v:=by have:=Do (bs v);rwa [AQ]at this
theorem OW{v n:Nat}(h:v<256 ^ n):bl v<=n:=Sr h
theorem Et{u v:Nat}(h:u<=v):bl u<=bl v:=OW (UK h (HH v))
theorem Zd(u v:Nat):bl (u*v)<=bl u+bl v:=OW (by rw[Iy];exact Nat.mul_lt_mul'' (HH u) (HH v))
theorem Sw(u v:Nat):bl (u+v)<=max (bl u) (bl v)+1:=by have h1:256 ^ bl u<=256 ^ max (bl u) (bl v):=Du (by decide) (by omega);have h2:256 ^ bl v<=256 ^ max (bl u) (bl v):=Du (by decide) (by omega);have h3:=HH u;have h4:=HH v;exact OW (by rw[Ei];omega)
theorem Ze(u v:Nat):bl (u / v)<=bl u:=Et (Nat.div_le_self u v)
theorem EN(s:List UInt8):bl (sv s)<=s.length:=OW (Do s)
theorem Sx(v:Nat):ln v<=bl v:=G8 (F3 (HH v) (Nat.pow_le_pow_left (by decide) _))
theorem Eu{l:List Int}(h:Dg b32 l)(hn:l.length<=274877906944):H7 l=some (dl (val b32 l)):=by
 unfold H7
 obtain⟨o,e,ho⟩:=Ev (body:=vzd) (fun x:List Int=>Dg b32 x/\val b32 x=val b32 l/\x.length<=274877906944) (fun x=>x.length) (fun o=>o=dl (val b32 l)) (by
  rintro x ⟨hx,hv,hm⟩;simp only[vzd];rcases List.eq_nil_or_concat x with rfl|⟨y,t,rfl⟩
  ·right;refine⟨[],by simp[ck,gd,bd,ite'],?_⟩;rw[<-hv];rfl
  ·have ht:0<=t/\t<b32.n:=hx t (by simp);have cQ:at? (y++[t]) (((y++[t]).length:Int)-1)=some t:=at_e (n:=y.length) (by simp) (by simp);simp only[List.concat_eq_append]at hx hv hm ⊢;rw[ck_o (fun _=>by simp only[A0,CO];simp only[Dx,Eh]at hm ⊢;omega)];rw[cQ,Bt (by simp only[Dx,Eh];omega:(0:Int)<((y++[t]).length:Int))];simp only[Dq,Af,I0];by_cases h0:t=0
   ·left;subst h0;rw[it_d rfl,AF (by simp only[Dx,Eh]at hm ⊢;omega),EL (by simp;omega)];have hs:sub (y++[(0:Int)]) 0 (((y++[(0:Int)]).length:Int)-1)=y:=by simp[sub]
    rw[hs];refine⟨y,rfl,⟨fun z hz=>hx z (by simp[hz]),?_,by simp at hm;omega⟩,by simp⟩;rw[<-hv,Ji];simp
   ·right;rw[it_n h0];refine⟨_,rfl,?_⟩;rw[<-hv];refine Zb hx (Or.inr ?_);rw[Dx,Eh,Nat.add_sub_cancel,EM];omega) ⟨h,rfl,hn⟩ (by show l.length<_;omega)
 rw[e,ho];rfl
theorem OX{l:List Int}(h:Dg b32 l){k:Int}(hk:0<=k):R6 l k=some (lf l k.toNat:Int):=by
 unfold R6;by_cases h1:k<(l.length:Int)
 ·rw[it_d h1,Cd h ⟨hk,h1⟩];have:=yz4 h k.toNat;rw[Cl]at this;simp only[Af];congr 1;omega
 ·rw[it_n h1,Jf (by omega)];rfl
theorem wzea{x y:List Int}(hx:Dg b32 x)(hy:Dg b32 y)(nx:x.length<=137438953472)(ny:y.length<=137438953472):Yy x y=some (dl (val b32 x+val b32 y)):=by
 unfold Yy;rw[AF (by omega)]
 obtain⟨o,e,h1,h2,h3⟩:=Ev (s:=(0,0,[])) (body:=vze x y) (fun s=>∃(c k:Nat) (l:List Int),s=((c:Int),(k:Int),l)/\k<=max x.length y.length+1/\c<=1/\l.length=k/\Dg b32 l/\vl b32 (lf l) k+c*b32.n ^ k=vl b32 (lf x) k+vl b32 (lf y) k) (fun s=>max x.length y.length+1-s.2.1.toNat) (fun l=>l.length=max x.length y.length+1/\Dg b32 l/\val b32 l=val b32 x+val b32 y) (by
  rintro s ⟨c,k,l,rfl,hk,hc,hl,hd,hv⟩;simp only[vze];by_cases h:k<max x.length y.length+1
  ·left;rw[it_d (by omega),OX hx (by omega),OX hy (by omega)];have a1:=yz4 hx k;have a2:=yz4 hy k;rw[Cl]at a1 a2;simp only[Af,CL];rw[ck_d (by simp only[Dx,Eh];omega),AF (by omega)];have es:(((lf x k:Int)+(lf y k:Int))%18446744073709551616+(c:Int))%18446744073709551616=((lf x k+lf y k+c:Nat):Int):=by omega
   rw[es];have q1:Int.fdiv ((lf x k+lf y k+c:Nat):Int) 4294967296=((lf x k+lf y k+c) / 4294967296:Nat):=by rw[N5 _ (by omega)];omega
   rw[q1];refine⟨_,rfl,⟨_,k+1,_,rfl,by omega,by omega,by simp[hl],Ep hd (Er ?_),?_⟩,by simp;omega⟩
   ·rw[Cl];omega
   ·refine YJ (b:=b32) (s:=lf x k+lf y k+c) ?_ rfl ?_;·rw[<-hv];congr 1;exact D6 fun i hi=>FL (by omega)
    ·rw[<-hl,EM,Cl];omega
  ·right;rw[it_n (by omega)];refine⟨_,rfl,by omega,hd,?_⟩;have dq:k=max x.length y.length+1:=by omega
   have v1:vl b32 (lf x) k=val b32 x:=D7 (by omega);have v2:vl b32 (lf y) k=val b32 y:=D7 (by omega);rw[v1,v2]at hv;have b1:=G7 hx;have b2:=G7 hy;have p1:b32.n ^ x.length<=b32.n ^ max x.length y.length:=Du b32.pos (by omega);have p2:b32.n ^ y.length<=b32.n ^ max x.length y.length:=Du b32.pos (by omega);have p3:b32.n ^ k=b32.n ^ max x.length y.length*4294967296:=by rw[dq,Ei];rfl
   have c9:c=0:=by
    rcases F0 c with h0|h0
    ·exact h0
    ·have h1:c=1:=(by omega);rw[h1]at hv;omega
   rw[c9]at hv;unfold val at hv ⊢;rw[hl];omega) ⟨0,0,[],rfl,by omega,by omega,rfl,M8,by simp[vl]⟩ (by dsimp only;omega)
 rw[e];simp only[Af];rw[Eu h2 (by omega),h3];rfl
theorem qz26{x y:List Int}(hx:Dg b32 x)(hy:Dg b32 y)(nx:x.length<=274877906944)(h:val b32 y<=val b32 x):RD x y=some (dl (val b32 x-val b32 y)):=by
 unfold RD
 obtain⟨o,e,h1,h2,h3⟩:=Ev (s:=(0,0,[])) (body:=kzo x y) (fun s=>∃(w k:Nat) (l:List Int),s=((w:Int),(k:Int),l)/\k<=x.length/\w<=1/\l.length=k/\Dg b32 l/\vl b32 (lf l) k+vl b32 (lf y) k=vl b32 (lf x) k+w*b32.n ^ k) (fun s=>x.length-s.2.1.toNat) (fun l=>l.length=x.length/\Dg b32 l/\val b32 l=val b32 x-val b32 y) (by
  rintro s ⟨w,k,l,rfl,hk,hw,hl,hd,hv⟩;simp only[kzo];by_cases h:k<x.length
  ·left;rw[it_d (by omega),Cd hx (by omega),OX hy (by omega)];have a1:=yz4 hx k;have a2:=yz4 hy k;rw[Cl]at a1 a2;simp only[Af,CL];rw[ck_d (by simp only[Dx,Eh];omega),AF (by omega)];by_cases hb:lf y k+w<=lf x k
   ·have es:((((lf x k:Int)%18446744073709551616-(lf y k:Int))%18446744073709551616-(w:Int))%18446744073709551616)=((lf x k-lf y k-w:Nat):Int):=(by omega);rw[es];have q1:Int.fdiv ((lf x k-lf y k-w:Nat):Int) 9223372036854775808=((0:Nat):Int):=by rw[N5 _ (by omega)];omega
    rw[q1];refine⟨_,rfl,⟨_,k+1,_,rfl,by omega,by omega,by simp[hl],Ep hd (Er ?_),?_⟩,by simp;omega⟩
    ·rw[Cl];omega
    ·refine OL (b:=b32) (w:=w) ?_ ?_;·rw[<-hv];congr 1;exact D6 fun i hi=>FL (by omega)
     ·rw[<-hl,EM,hl,Cl];omega
   ·have es:((((lf x k:Int)%18446744073709551616-(lf y k:Int))%18446744073709551616-(w:Int))%18446744073709551616)=((18446744073709551616+lf x k-lf y k-w:Nat):Int):=(by omega);rw[es];have q1:Int.fdiv ((18446744073709551616+lf x k-lf y k-w:Nat):Int) 9223372036854775808=((1:Nat):Int):=by rw[N5 _ (by omega)];omega
    rw[q1];refine⟨_,rfl,⟨_,k+1,_,rfl,by omega,by omega,by simp[hl],Ep hd (Er ?_),?_⟩,by simp;omega⟩
    ·rw[Cl];omega
    ·refine OL (b:=b32) (w:=w) ?_ ?_;·rw[<-hv];congr 1;exact D6 fun i hi=>FL (by omega)
     ·rw[<-hl,EM,hl,Cl];omega
  ·right;rw[it_n (by omega)];refine⟨_,rfl,by omega,hd,?_⟩;have dq:k=x.length:=by omega
   have v1:vl b32 (lf x) k=val b32 x:=by rw[dq];rfl
   have v3:vl b32 (lf l) k=val b32 l:=by rw[<-hl];rfl
   have v4:vl b32 (lf y) k<=val b32 y:=by
    rcases Nat.le_total k y.length with h'|h'
    ·exact Sj h'
    ·rw[D7 h'];exact AD _
   have hlt:=G7 hd;rw[v1,v3]at hv;rw[hl]at hlt;by_cases kF:y.length<=k
   ·rw[D7 kF]at hv
    have gR:w=0:=by
     rcases F0 w with h0|h0
     ·exact h0
     ·have h1:w=1:=(by omega);rw[h1]at hv;omega
    rw[gR]at hv;omega
   ·-- the digits of y above are 0,for y is not greater than x
    have f8:=G7 hx;rw[<-dq]at f8;have eG:val b32 y=vl b32 (lf y) k+b32.n ^ k*vl b32 (fun i=>lf y (k+i)) (y.length-k):=by have:=M5 (b:=b32) (lf y) k (y.length-k);rw[show k+(y.length-k)=y.length by omega]at this;exact this
    have hz:vl b32 (fun i=>lf y (k+i)) (y.length-k)=0:=by
     rcases F0 (vl b32 (fun i=>lf y (k+i)) (y.length-k)) with h0 | h0
     ·exact h0
     ·have:b32.n ^ k*1<=b32.n ^ k*vl b32 (fun i=>lf y (k+i)) (y.length-k):=UL _ h0;omega
    rw[hz]at eG
    have gR:w=0:=by
     rcases F0 w with h0|h0
     ·exact h0
     ·have h1:w=1:=(by omega);rw[h1]at hv;omega
    rw[gR]at hv;omega) ⟨0,0,[],rfl,by omega,by omega,rfl,M8,by simp[vl]⟩ (by dsimp only;omega)
 rw[e];simp only[Af];rw[Eu h2 (by omega),h3];rfl
theorem Zf{a b:Nat}(ha:a<4294967296)(hb:b<4294967296):((a:Int)%18446744073709551616*(b:Int))%18446744073709551616=((a*b:Nat):Int)/\a*b<=18446744065119617025:=by
 have h0:a*b<=4294967295*b:=BD b (by omega);have h1:a*b<=18446744065119617025:=by omega
 refine⟨?_,h1⟩;rw[show(a:Int)%18446744073709551616=a by omega,<-Qm];exact Int.emod_eq_of_lt (by omega) (by omega)
def Hold(p:Prop):Prop:=p
theorem qz3g{x y l:List Int}{i:Nat}(hx:Dg b32 x)(hy:Dg b32 y)(nx:x.length<=68719476736)(ny:y.length<=68719476736)(h:i<x.length)(hl:l.length=x.length+y.length+1)(hd:Dg b32 l)(hv:Hold (val b32 l=vl b32 (lf x) i*val b32 y)) : ∃m,lp (jzl (i:Int) (lf x i:Int) y) (0,0,l)=some m/\m.length=x.length+y.length+1/\Dg b32 m/\Hold (val b32 m=vl b32 (lf x) (i+1)*val b32 y):=by
 have a1:=yz4 hx i;rw[Cl]at a1
 exact Ev (s:=(0,0,l)) (body:=jzl (i:Int) (lf x i:Int) y) (fun s=>∃(c k:Nat) (m:List Int),s=((c:Int),(k:Int),m)/\k<=y.length+1/\c<4294967296/\m.length=x.length+y.length+1/\Dg b32 m/\Hold (val b32 m+c*b32.n ^ (i+k)=vl b32 (lf x) i*val b32 y+lf x i*vl b32 (lf y) k*b32.n ^ i)) (fun s=>y.length+1-s.2.1.toNat) (fun m=>m.length=x.length+y.length+1/\Dg b32 m/\Hold (val b32 m=vl b32 (lf x) (i+1)*val b32 y)) (by
  rintro s ⟨c,k,m,rfl,hk,hc,hm,dA,eV⟩;simp only[jzl]
  have nq:0<c->k<=y.length:=by
   intro c9;rcases CN y.length k with h'|h'
   ·have e1:vl b32 (lf y) k=val b32 y:=D7 (by omega);rw[e1]at eV;exact YL (b:=b32) (out:=lf m) (x:=lf x) (y:=lf y) (N:=m.length) (m:=y.length) (a:=lf x i) (fun j _=>yz4 hy j) (by rw[Cl];exact a1) (G5 fun j _=>yz4 hx j) eV c9
   ·exact h'
  by_cases fu:k<y.length\/0<c
  ·left;have ei:k<=y.length:=fu.elim (by omega) nq;have fT:i+k<m.length:=by omega
   have a2:=yz4 hy k;have a3:=yz4 dA (i+k);rw[Cl]at a2 a3;obtain⟨p1,p2⟩:=Zf a1 a2;rw[it_t (by rcases fu with h'|h'<;>simp[h']),OX hy (by omega)];simp only[Af,CL];rw[AF (by omega),Cd dA (by omega),show Int.toNat ((i:Int)+k)=i+k by omega];simp only[Af];rw[AF (by omega),AF (by omega)];rw[p1];generalize hp:lf x i*lf y k=p at *;have es:(((p:Int)+(lf m (i+k):Int)%18446744073709551616)%18446744073709551616+(c:Int))%18446744073709551616=((p+lf m (i+k)+c:Nat):Int):=by omega
   rw[es];have q1:Int.fdiv ((p+lf m (i+k)+c:Nat):Int) 4294967296=((p+lf m (i+k)+c) / 4294967296:Nat):=by rw[N5 _ (by omega)];omega
   have q2:((p+lf m (i+k)+c:Nat):Int)%4294967296=((p+lf m (i+k)+c)%4294967296:Nat):=by omega
   rw[q1,q2];refine⟨_,rfl,⟨_,k+1,_,rfl,by omega,by omega,by simp[hm],OU dA (by rw[Cl];omega),?_⟩,by dsimp only;omega⟩;have aH:=YK (b:=b32) (out:=lf m) (y:=lf y) (N:=m.length) (i:=i) (k:=k) (a:=lf x i) (c:=c) (s:=p+lf m (i+k)+c) eV fT (by rw[<-hp]);rw[<-aH];congr 1;unfold val;rw[It];refine D6 fun j hj=>?_;rw[Jg fT,CL,Cl]
  ·right;have fN:y.length<=k:=by omega
   have fE:c=0:=by omega
   rw[it_f (by simp;omega)];refine⟨_,rfl,hm,dA,?_⟩;unfold Hold at eV ⊢;rw[D7 fN,fE]at eV;rw[EJ,Bb];have:lf x i*b32.n ^ i*val b32 y=lf x i*val b32 y*b32.n ^ i:=by simp only[Bj,Ny,Fu]
   omega) ⟨0,0,l,rfl,by omega,by omega,hl,hd,by unfold Hold at hv ⊢;rw[hv];simp[vl]⟩ (by dsimp only;omega)
theorem qz3j{x y:List Int}(hx:Dg b32 x)(hy:Dg b32 y)(nx:x.length<=68719476736)(ny:y.length<=68719476736):RC x y=some (dl (val b32 x*val b32 y)):=by
 unfold RC;rw[AF (by omega),AF (by omega),OT (by omega)];rw[show Int.toNat ((x.length:Int)+y.length+1)=x.length+y.length+1 by omega]
 obtain⟨o,e,h1,h2,h3⟩:=Ev (s:=(0,List.replicate (x.length+y.length+1) 0)) (body:=kzu x y) (fun s=>∃(i:Nat) (l:List Int),s=((i:Int),l)/\i<=x.length/\l.length=x.length+y.length+1/\Dg b32 l/\Hold (val b32 l=vl b32 (lf x) i*val b32 y)) (fun s=>x.length-s.1.toNat) (fun l=>l.length=x.length+y.length+1/\Dg b32 l/\Hold (val b32 l=val b32 x*val b32 y)) (by
  rintro s ⟨i,l,rfl,hi,hl,hd,hv⟩;simp only[kzu];by_cases h:i<x.length
  ·left;rw[it_d (by omega),Cd hx (by omega)];simp only[Af,CL];obtain⟨o,e,g1,g2,g3⟩:=qz3g hx hy nx ny h hl hd hv;rw[e];simp only[Af];rw[AF (by omega)];exact⟨_,rfl,⟨i+1,o,rfl,by omega,g1,g2,g3⟩,by dsimp only;omega⟩
  ·right;rw[it_n (by omega)];refine⟨_,rfl,hl,hd,?_⟩;rw[show i=x.length by omega]at hv;exact hv) ⟨0,_,rfl,by omega,by simp,Jh,by unfold Hold val;rw[D6 (g:=fun _=>0) fun i _=>HG _ i,M6];simp[vl]⟩ (by dsimp only;omega)
 rw[e];simp only[Af];rw[Eu h2 (by omega),show val b32 o=_ from h3];rfl
theorem qz3d{n:Nat}(h:n<18446744073709551616):IntKind.wrap .u64 (n:Int)=n:=by unfold IntKind.wrap;simp[IntKind.signed,IntKind.bits];omega
theorem Sy{hi lo:Nat}(h1:hi<4294967296)(h2:lo<4294967296):bitI .or .u64 (((hi:Int)*4294967296)%18446744073709551616) ((lo:Int)%18446744073709551616)=((hi*4294967296+lo:Nat):Int):=by
 rw[show((hi:Int)*4294967296)%18446744073709551616=((hi*4294967296:Nat):Int) by omega,show(lo:Int)%18446744073709551616=((lo:Nat):Int) by omega]
 have e:hi*4294967296+lo=(hi*4294967296) ||| lo:=by
  have:=Nat.shiftLeft_add_eq_or_of_lt (b:=lo) (i:=32) (by omega) hi
  rwa [Nat.shiftLeft_eq]at this
 have eb:(BitVec.ofInt 64 ((hi*4294967296:Nat):Int) ||| BitVec.ofInt 64 (lo:Int)).toNat=hi*4294967296+lo:=by rw[BitVec.toNat_or,BitVec.ofInt_natCast,BitVec.ofInt_natCast,BitVec.toNat_ofNat,BitVec.toNat_ofNat,DM (by omega),DM (by omega),<-e]
 unfold bitI;show IntKind.wrap .u64 (((BitVec.ofInt 64 ((hi*4294967296:Nat):Int) ||| BitVec.ofInt 64 (lo:Int)).toNat:Nat):Int)=_;rw[eb];exact qz3d (by omega)
theorem qz3p{x:List Int}{d:Nat}(hx:Dg b32 x)(nx:x.length<=68719476736)(gT:0<d)(dX:d<4294967296):UN x (d:Int)=some (dl (val b32 x / d),((val b32 x%d:Nat):Int)):=by
 unfold UN;rw[OT (by omega),AF (by omega)];rw[show Int.toNat (x.length:Int)=x.length by omega]
 obtain⟨⟨r',o⟩,e,h1,h2,r,hr,h3,h4⟩:=Ev (s:=(0,(x.length:Int)-1,List.replicate x.length 0)) (body:=kzs (d:Int) x) (fun s=>∃(r k:Nat) (l:List Int),s=((r:Int),(k:Int)-1,l)/\k<=x.length/\r<d/\l.length=x.length/\Dg b32 l/\(∀j,j<k->lf l j=0)/\Hold (val b32 x=d*val b32 l+r*b32.n ^ k+vl b32 (lf x) k)) (fun s=>(s.2.1+1).toNat) (fun s=>s.2.length=x.length/\Dg b32 s.2/\(∃r:Nat,s.1=(r:Int)/\r<d/\Hold (val b32 x=d*val b32 s.2+r))) (by
  rintro s ⟨r,k,l,rfl,hk,hr,hl,hd,hz,hv⟩;simp only[kzs];by_cases h:0<k
  ·left;obtain⟨k,rfl⟩:∃j,k=j+1:=⟨k-1,by omega⟩;have gr:((k+1:Nat):Int)-1=(k:Int):=by omega
   rw[gr];rw[it_d (by omega),Cd hx (by omega)];have a1:=yz4 hx k;rw[Cl]at a1;simp only[Af,CL];rw[show(d:Int)%18446744073709551616=(d:Int) by omega];rw[OS (by omega),OS (by omega),Cd hd (by omega),Sy (by omega) a1];simp only[Af,CL];rw[AF (by omega)];have hq:=Ix (r*4294967296+lf x k) d;have hm:=Gg (r*4294967296+lf x k) gT;have oC:(r*4294967296+lf x k) / d<4294967296:=by rw[In gT];have:(r+1)*4294967296<=d*4294967296:=BD _ hr;rw[Bj 4294967296 d];omega
   rw[Int.tmod_eq_emod_of_nonneg (by omega),UR (by omega),<-Int.natCast_emod,<-Int.natCast_ediv];generalize hQ:(r*4294967296+lf x k) / d=q at *;generalize hR:(r*4294967296+lf x k)%d=r' at *;rw[show((q:Int)%18446744073709551616)%4294967296=(q:Int) by omega];refine⟨_,rfl,⟨r',k,_,rfl,by omega,hm,by rw[List.length_set];exact hl,OU hd (by rw[Cl];omega),?_,?_⟩,by dsimp only;omega⟩
   ·intro j hj;rw[Jg (by omega),Ak (by omega)];exact hz j (by omega)
   ·have aH:=qzwz (b:=b32) (out:=lf l) (x:=lf x) (n:=x.length) (k:=k) (by':=d) (r:=r) (q:=q) (r':=r') (by unfold Hold val at hv;rw[hl]at hv;exact hv) (by omega) (hz k (by omega)) (by rw[Cl,Bj q d];exact hq.symm);unfold Hold;rw[show val b32 x=vl b32 (lf x) x.length from rfl,aH];congr 3;unfold val;rw[It,hl];refine D6 fun j hj=>?_;rw[Jg (by omega),CL]
  ·right;have fR:k=0:=by omega
   subst fR;rw[it_n (by omega)];refine⟨_,rfl,hl,hd,r,rfl,hr,?_⟩;unfold Hold at *
   rw[hv];simp[vl]) ⟨0,x.length,_,rfl,AD _,gT,by simp,Jh,fun j _=>HG _ j,by
    unfold Hold;have:val b32 (List.replicate x.length 0)=0:=by unfold val;rw[D6 (g:=fun _=>0) fun i _=>HG _ i,M6]
    rw[this];simp[val]⟩ (by dsimp only;omega)
 dsimp only at hr h1 h2 h4;subst hr;rw[e];simp only[Af];rw[Eu h2 (by omega)];simp only[Af];unfold Hold at h4;have kG:val b32 x / d=val b32 o:=by rw[h4,Qq gT,Ka h3];rfl
 have iJ:val b32 x%d=r:=by rw[h4,Qz,DM h3]
 rw[kG,iJ];congr 2;omega
theorem Zg{v d:Nat}(hv:ln v<=68719476736)(gT:0<d)(dX:d<4294967296):UN (dl v) (d:Int)=some (dl (v / d),((v%d:Nat):Int)):=by rw[qz3p (CH v) (by rw[Di];exact hv) gT dX,Es]
theorem S0{d:Nat}(h0:0<d)(h1:d<4294967296):dl d=[(d:Int)]:=by
 have hd:Dg b32 [(d:Int)]:=Er (by rw[Cl];omega);have e:=Zb hd (Or.inr (by simp[lf];omega));have hv:val b32 [(d:Int)]=d:=by simp[val,vl,lf]
 rw[hv]at e;exact e.symm
theorem S4{u v:Nat}(hu:ln u<=68719476736)(hv:ln v<=68719476736):RC (dl u) (dl v)=some (dl (u*v)):=by rw[qz3j (CH u) (CH v) (by rw[Di];exact hu) (by rw[Di];exact hv),Es,Es]
theorem wzdx{u v:Nat}(hu:ln u<=68719476736)(hv:ln v<=68719476736):Yy (dl u) (dl v)=some (dl (u+v)):=by rw[wzea (CH u) (CH v) (by rw[Di];omega) (by rw[Di];omega),Es,Es]
theorem S5{u v:Nat}(hu:ln u<=68719476736)(h:v<=u):RD (dl u) (dl v)=some (dl (u-v)):=by rw[qz26 (CH u) (CH v) (by rw[Di];omega) (by rw[Es,Es];exact h),Es,Es]
theorem S6{v b:Nat}(hv:ln v<=68719476736)(hb:b<=31):Qt (dl v) (b:Int)=some (dl (v*2 ^ b)):=by
 unfold Qt;have p1:2 ^ b<=2 ^ 31:=Du (by decide) hb;have p2:0<2 ^ b:=Nat.pow_pos (by decide);have e:(1*2 ^ min (Int.toNat (b:Int)) 32)%4294967296=((2 ^ b:Nat):Int):=by rw[show min (Int.toNat (b:Int)) 32=b by omega,Int.one_mul,Int.natCast_pow];have p3:((2:Nat):Int) ^ b=((2 ^ b:Nat):Int):=(Int.natCast_pow 2 b).symm;simp only[Int.cast_ofNat_Int]at p3 ⊢;rw[p3];omega
 rw[it_n (by omega),ck_d (by omega),e,<-S0 p2 (by omega),S4 hv (Bg (G8 (n:=1) (by rw[Nat.pow_one,Cl];omega)) (by omega))];rfl
theorem qzu5{v b:Nat}(hv:ln v<=68719476736)(hb:b<=31):Qt (dl v) (-(b:Int))=some (dl (v / 2 ^ b)):=by
 by_cases h0:b=0
 ·subst h0;have:=S6 (v:=v) (b:=0) hv (by omega);simp only[Int.natCast_zero,Nat.pow_zero,Nat.mul_one]at this;simp[this]
 unfold Qt;have p1:2 ^ b<=2 ^ 31:=Du (by decide) hb;have p2:0<2 ^ b:=Nat.pow_pos (by decide);have e:(1*2 ^ min (Int.toNat (- -(b:Int))) 32)%4294967296=((2 ^ b:Nat):Int):=by rw[show min (Int.toNat (- -(b:Int))) 32=b by omega,Int.one_mul,Int.natCast_pow];have p3:((2:Nat):Int) ^ b=((2 ^ b:Nat):Int):=(Int.natCast_pow 2 b).symm;simp only[Int.cast_ofNat_Int]at p3 ⊢;rw[p3];omega
 rw[it_d (by omega),AF (by omega),ck_d (by omega),e,Zg hv p2 (by omega)];rfl
theorem Zh(x:Int):Mq x=some false:=by unfold Mq;simp
theorem Zi(x:Int):Mr x=some false:=by unfold Mr;simp
def cmpI(x y:Int):Int:=if x<y then -1 else if y<x then 1 else 0
theorem wzez(x y:Int):Ov x y=some (cmpI x y):=by
 unfold Ov cmpI;rw[Zh,Zh];simp only[Af,FK];split
 ·rename_i h;rw[it_d h]
 ·rename_i h;rw[it_n h];split
  ·rename_i h;rw[it_d h]
  ·rename_i h;rw[it_n h]
theorem wzdl(x y:Int):Ow x y=some (cmpI x y):=by
 unfold Ow cmpI;rw[Zi,Zi];simp only[Af,FK];split
 ·rename_i h;rw[it_d h]
 ·rename_i h;rw[it_n h];split
  ·rename_i h;rw[it_d h]
  ·rename_i h;rw[it_n h]
theorem OY{u v:Nat}(hu:ln u<=68719476736)(hv:ln v<=68719476736):RJ (dl u) (dl v)=some (cmpI u v):=by
 unfold RJ;rw[wzez,Di,Di];simp only[Af];rcases Nat.lt_trichotomy (ln u) (ln v) with h|h|h
 ·have hlt:u<v:=by
   rcases CN u v with h'|h'
   ·exact h'
   ·have:=DW h';omega
  rw[show cmpI (ln u:Int) (ln v:Int) = -1 by unfold cmpI;rw[Aq (by omega)],CY (by omega),show cmpI (u:Int) (v:Int) = -1 by unfold cmpI;rw[Aq (by omega)]]
 ·rw[show cmpI (ln u:Int) (ln v:Int)=0 by unfold cmpI;rw[Ak (by omega),Ak (by omega)],CG rfl,AF (by omega)]
  obtain⟨o,e,ho⟩:=Ev (s:=(ln u:Int)-1) (body:=jz2 (dl u) (dl v)) (fun s=>∃k:Nat,s=(k:Int)-1/\k<=ln u/\∀j,k<=j->j<ln u->dg b32 u j=dg b32 v j) (fun s=>(s+1).toNat) (fun o=>o=if u=v then .inl () else .inr (cmpI u v)) (by
   rintro s ⟨k,rfl,hk,hj⟩;simp only[jz2];by_cases h0:0<k
   ·obtain⟨k,rfl⟩:∃j,k=j+1:=⟨k-1,by omega⟩;have gr:((k+1:Nat):Int)-1=(k:Int):=(by omega);rw[gr,it_d (by omega),Cd (CH u) (by rw[Di];omega),Cd (CH v) (by rw[Di];omega)];simp only[Af,CL];rw[wzdl,FM,FM];simp only[Af];have lL:vl b32 (dg b32 u) (ln u)=u:=Jc u;have gX:vl b32 (dg b32 v) (ln u)=v:=(by rw[h];exact Jc v);rcases Nat.lt_trichotomy (dg b32 u k) (dg b32 v k) with h1|h1|h1
    ·right;have hlt:=Sl (b:=b32) (f:=dg b32 u) (g:=dg b32 v) (fun i _=>EI u i) h1 (n:=ln u) (by omega) (fun i hi iH=>hj i (by omega) iH);rw[lL,gX]at hlt;rw[show cmpI (dg b32 u k:Int) (dg b32 v k:Int) = -1 by unfold cmpI;rw[Aq (by omega)],CY (by omega)];refine⟨_,rfl,?_⟩;rw[Ak (by omega),show cmpI (u:Int) (v:Int) = -1 by unfold cmpI;rw[Aq (by omega)]]
    ·left;rw[show cmpI (dg b32 u k:Int) (dg b32 v k:Int)=0 by unfold cmpI;rw[Ak (by omega),Ak (by omega)],CG rfl,AF (by omega)];refine⟨_,rfl,⟨k,rfl,by omega,fun j h2 h3=>?_⟩,by omega⟩;rcases CN k j with h4|h4
     ·exact hj j (by omega) h3
     ·rw[show j=k by omega];exact h1
    ·right;have hlt:=Sl (b:=b32) (f:=dg b32 v) (g:=dg b32 u) (fun i _=>EI v i) h1 (n:=ln u) (by omega) (fun i hi iH=>(hj i (by omega) iH).symm);rw[lL,gX]at hlt;rw[show cmpI (dg b32 u k:Int) (dg b32 v k:Int)=1 by unfold cmpI;rw[Ak (by omega),Aq (by omega)],CY (by omega)];refine⟨_,rfl,?_⟩;rw[Ak (by omega),show cmpI (u:Int) (v:Int)=1 by unfold cmpI;rw[Ak (by omega),Aq (by omega)]]
   ·right;rw[it_n (by omega)];refine⟨_,rfl,?_⟩;have iK:u=v:=by rw[<-Jc u,<-Jc v,<-h];exact D6 fun i hi=>hj i (by omega) hi
    rw[Aq iK]) ⟨ln u,rfl,AD _,fun j h1 h2=>by omega⟩ (by show((ln u:Int)-1+1).toNat<_;omega)
  rw[e,ho];by_cases iK:u=v
  ·subst iK;rw[Aq rfl,show cmpI (u:Int) (u:Int)=0 by unfold cmpI;rw[Ak (by omega),Ak (by omega)]];rfl
  ·rw[Ak iK];rfl
 ·have hlt:v<u:=by
   rcases CN v u with h'|h'
   ·exact h'
   ·have:=DW h';omega
  rw[show cmpI (ln u:Int) (ln v:Int)=1 by unfold cmpI;rw[Ak (by omega),Aq (by omega)],CY (by omega),show cmpI (u:Int) (v:Int)=1 by unfold cmpI;rw[Ak (by omega),Aq (by omega)]]
theorem wzgz{v:Nat}(hv:ln v<=68719476736)(h0:v≠0):∃b:Nat,lp (kzx (dl v)) 0=some (b:Int)/\b<=31/\2147483648<=dg b32 v (ln v-1)*2 ^ b/\dg b32 v (ln v-1)*2 ^ b<4294967296:=by
 have hp:=M9 h0;have ht:dg b32 v (ln v-1)≠0:=(wzdw v).resolve_left (by omega);have lM:=EI (b:=b32) v (ln v-1);rw[Cl]at lM
 obtain⟨o,e,b,rfl,h1,h2,h3⟩:=Ev (s:=(0:Int)) (body:=kzx (dl v)) (fun s=>∃b:Nat,s=(b:Int)/\b<=31/\dg b32 v (ln v-1)*2 ^ b<4294967296) (fun s=>32-s.toNat) (fun o=>∃b:Nat,o=(b:Int)/\b<=31/\2147483648<=dg b32 v (ln v-1)*2 ^ b/\dg b32 v (ln v-1)*2 ^ b<4294967296) (by
  rintro s ⟨b,rfl,hb,hlt⟩;simp only[kzx,Di];rw[AF (by omega),Cd (CH v) (by rw[Di];omega)];simp only[Af];rw[ck_d (by omega),show Int.toNat ((ln v:Int)-1)=ln v-1 by omega,FM,show min (Int.toNat (b:Int)) 32=b by omega];have e1:(dg b32 v (ln v-1):Int)*2 ^ b=((dg b32 v (ln v-1)*2 ^ b:Nat):Int):=by have p3:((2:Nat):Int) ^ b=((2 ^ b:Nat):Int):=(Int.natCast_pow 2 b).symm;simp only[Int.cast_ofNat_Int]at p3;rw[p3,<-Qm]
  rw[e1];generalize hT:dg b32 v (ln v-1)*2 ^ b=T at *;by_cases h:T<2147483648
  ·left;rw[it_d (by omega),AF (by omega)]
   have nt:b<31:=by
    rcases CN b 31 with h'|h'
    ·exact h'
    ·have h6:1*2 ^ 31<=dg b32 v (ln v-1)*2 ^ b:=Nat.mul_le_mul (by omega) (Du (by decide) h');omega
   refine⟨_,rfl,⟨b+1,by omega,by omega,?_⟩,by omega⟩;rw[Ei,<-Fu,hT];omega
  ·right;rw[it_n (by omega)];exact⟨_,rfl,b,rfl,hb,by omega,by omega⟩) ⟨0,rfl,by omega,by simpa using lM⟩ (by show 32-(0:Int).toNat<_;omega)
 exact⟨b,e,h1,h2,h3⟩
theorem wzgu{j n d g left t0:Nat}{l r:List Int}(hl:Dg b32 l)(hr:Dg b32 r)(hn:r.length=n)(h2:2<=n)(hj:j+n<=l.length)(hL:l.length<=274877906944)(key:∀g left:Nat,left+g*lf r (n-1)=t0->left*b32.n+lf l (j+n-2)<g*lf r (n-2)->d<g) (hd:d<=g) (hg:g<4294967296) (fU:left+g*lf r (n-1)=t0) (lN:left<18446744073709551616) : ∃g':Nat,lp (kz2 (j:Int) l r) ((g:Int),(left:Int))=some (g':Int)/\d<=g'/\g'<=g:=by
 obtain⟨o,e,g',rfl,h3,h4⟩:=Ev (s:=((g:Int),(left:Int))) (body:=kz2 (j:Int) l r) (fun s=>∃g2 left:Nat,s=((g2:Int),(left:Int))/\d<=g2/\g2<=g/\Hold (left+g2*lf r (n-1)=t0)/\left<18446744073709551616) (fun s=>s.1.toNat) (fun o=>∃g':Nat,o=(g':Int)/\d<=g'/\g'<=g) (by
  clear hd fU lN;rintro s ⟨g2,left,rfl,hd,gU,hv,hb⟩;have jU:g2<4294967296:=by omega
  simp only[kz2];have a1:=yz4 hr (n-1);have a2:=yz4 hr (n-2);have a3:=yz4 hl (j+n-2);rw[Cl]at a1 a2 a3;have key':=key g2 left hv;clear key;rw[hn];rw[ck_o (fun _=>by simp only[A0,CO];omega)];by_cases h:left<4294967296
  ·have kH:decide ((left:Int)<4294967296)=true:=Bt (by omega);rw[kH];simp only[Dq,Ql,Bool.false_or,I0];rw[Cd hr (by omega)];simp only[Af];rw[ck_t (by simp only[A0,CO];omega),ck_t (by simp only[A0,CO];omega),Cd hl (by omega)];simp only[Af];rw[show Int.toNat ((n:Int)-2)=n-2 by omega,show Int.toNat ((j:Int)+n-2)=j+n-2 by omega];rw[Sy h a3];obtain⟨m1,m2⟩:=Zf jU a2;rw[show((g2:Int)*((lf r (n-2):Int)%18446744073709551616))%18446744073709551616=((g2*lf r (n-2):Nat):Int) by rw[show(lf r (n-2):Int)%18446744073709551616=lf r (n-2) by omega];rw[show(g2:Int)%18446744073709551616=g2 by omega]at m1;exact m1];rw[Cl]at key';generalize g2*lf r (n-2)=q at *;by_cases hc:left*4294967296+lf l (j+n-2)<q
   ·left;have kI:=key' hc;rw[it_d (by omega),AF (by omega),Cd hr (by omega),show Int.toNat ((n:Int)-1)=n-1 by omega];simp only[Af];refine⟨_,rfl,⟨g2-1,left+lf r (n-1),?_,by omega,by omega,?_,by omega⟩,by dsimp only;omega⟩
    ·refine Prod.ext ?_ ?_;·dsimp only;omega
     ·dsimp only;omega
    ·unfold Hold at hv ⊢;obtain⟨k,rfl⟩:∃k,g2=k+1:=⟨g2-1,by omega⟩;rw[<-hv,Nat.add_sub_cancel,Bb];omega
   ·right;rw[it_n (by omega)];exact⟨_,rfl,g2,rfl,hd,gU⟩
  ·have kH:decide ((left:Int)<4294967296)=false:=BE (by omega);rw[kH];simp only[FJ,Af,UG,Bool.true_or,Iz,wzdp,FK];right;exact⟨_,rfl,g2,rfl,hd,gU⟩) ⟨g,left,rfl,hd,AD _,fU,lN⟩ (by show(g:Int).toNat<_;omega)
 exact⟨g',e,h3,h4⟩
theorem wzey{l:List Int}{lo hi i:Nat}(h:i<hi-lo):lf (sub l (lo:Int) (hi:Int)) i=lf l (lo+i):=by unfold lf sub;rw[show Int.toNat (lo:Int)=lo by omega,show Int.toNat ((hi:Int)-lo)=hi-lo by omega,Is,Aq h,Im]
theorem S7{l:List Int}{lo hi:Nat}(h:lo<=hi)(h2:hi<=l.length):(sub l (lo:Int) (hi:Int)).length=hi-lo:=by simp only[sub,Iu,Nv];omega
theorem Zj(v j i:Nat):dg b32 v (j+i)=dg b32 (v / b32.n ^ j) i:=by unfold dg;rw[Iy,UU]
theorem wzc5{l:List Int}{R j n:Nat}(hd:∀i,lf l i=dg b32 R i)(hj:j+n<=l.length)(hR:R<b32.n ^ (j+n)):val b32 (sub l (j:Int) ((j+n:Nat):Int))=R / b32.n ^ j:=by unfold val;rw[S7 (by omega) hj,show j+n-j=n by omega];rw[D6 (g:=dg b32 (R / b32.n ^ j)) fun i hi=>by rw[wzey (by omega),hd,Zj],OK];refine DM ?_;rw[In (b32.pw j),<-Iy,Nat.add_comm n j];exact hR
theorem S8{l:List Int}(h0:0<l.length)(h:l.length<=274877906944):Qs l=some l:=by unfold Qs;exact ck_t (by simp;omega)
theorem wzg1{j n P V g:Nat}{l:List Int}(hl:Dg b32 l)(hn:ln V=n)(hj:j+n+1<=l.length)(hL:l.length<=68719476736)(hP:val b32 (sub l (j:Int) ((j+(n+1):Nat):Int))=P)(hV:0<V)(hd:P / V<=g)(hg:g<4294967296) :
  lp (yzk (j:Int) l (dl V)) ((g:Int),dl (V*g))=some (((P / V:Nat):Int),dl (V*(P / V))):=by
 have aF:(sub l (j:Int) ((j+(n+1):Nat):Int)).length=n+1:=by rw[S7 (by omega) (by omega)];omega
 have nu:ln P<=n+1:=by have:=G7 (Sv hl (j:Int) ((j+(n+1):Nat):Int));rw[hP,aF]at this;exact G8 this
 refine OZ (fun s=>∃g:Nat,s=((g:Int),dl (V*g))/\P / V<=g/\g<4294967296) (fun s=>s.1.toNat) _ ?_ ⟨g,rfl,hd,hg⟩ (by show(g:Int).toNat<_;omega);rintro s ⟨g,rfl,hd,hg⟩;simp only[yzk,Di,hn];have oD:ln (V*g)<=n+1:=by refine G8 ?_;rw[Ei];refine Nat.mul_lt_mul'' ?_ (by rw[Cl];exact hg);rw[<-hn];exact En V
 rw[show(j:Int)+n+1=((j+(n+1):Nat):Int) by omega]
 (try rw[EL (by omega)])
 rw[S8 (by omega) (by omega)];simp only[Af];rw[Eu (Sv hl _ _) (by omega),hP];simp only[Af];rw[OY (by omega) (by omega)];simp only[Af];have f1:P<V*g->P / V<g:=fun h=>by rw[In hV,Bj];exact h
 have f2:¬P<V*g->g<=P / V:=fun h=>by rw[Qy hV,Bj];omega
 generalize P / V=D at *;by_cases h:P<V*g
 ·left;have hlt:=f1 h;have aD:V<=V*g:=Nat.le_mul_of_pos_right V (by omega);rw[it_d (by unfold cmpI;rw[Aq (by omega)];omega),S5 (by omega) aD];simp only[Af];refine⟨_,rfl,⟨g-1,?_,by omega,by omega⟩,by dsimp only;omega⟩;refine Prod.ext ?_ ?_
  ·dsimp only;omega
  ·dsimp only;congr 1;obtain⟨k,rfl⟩:∃k,g=k+1:=⟨g-1,by omega⟩;rw[Nat.add_sub_cancel,Nat.mul_add];omega
 ·right;have heq:D=g:=Nat.le_antisymm hd (f2 h);rw[it_n (by unfold cmpI;rw[Ak (by omega)];split<;>omega),heq]
theorem S9{l:List Int}(hl:Dg b32 l)(i:Nat):lf l i=dg b32 (val b32 l) i:=by
 by_cases h:i<l.length
 ·exact(Sn (fun i _=>yz4 hl i) i h).symm
 ·rw[Jf (by omega),So];exact F3 (G7 hl) (Du b32.pos (by omega))
theorem qz3v(R j:Nat):R=R%b32.n ^ j+b32.n ^ j*(R / b32.n ^ j):=(Nat.mod_add_div R (b32.n ^ j)).symm
theorem wzdg{l d:List Int}{j n:Nat}(hl:Dg b32 l)(hd:Dg b32 d)(fm:d.length<=n)(hj:j+n<=l.length)(hz:val b32 l<b32.n ^ (j+n)) :
  Dg b32 (Ca (Ca l j (List.replicate n 0)) j (List.take n d))/\(Ca (Ca l j (List.replicate n 0)) j (List.take n d)).length=l.length/\val b32 (Ca (Ca l j (List.replicate n 0)) j (List.take n d))=val b32 d*b32.n ^ j+val b32 l%b32.n ^ j:=by
 rw[Iw fm];have e1:(Ca l j (List.replicate n 0)).length=l.length:=MA (by simp;omega);have e2:(Ca (Ca l j (List.replicate n 0)) j d).length=l.length:=by rw[MA (by rw[e1];omega),e1]
 have dp:∀(l new:List Int) (i:Nat),Dg b32 l->Dg b32 new->Dg b32 (Ca l i new):=fun l new i h1 h2=>Ep (Ep (fun x hx=>h1 x (List.mem_of_mem_take hx)) h2) (fun x hx=>h1 x (Gca hx));have hD:Dg b32 (Ca (Ca l j (List.replicate n 0)) j d):=dp _ _ _ (dp _ _ _ hl Jh) hd;refine⟨hD,e2,?_⟩;have lo:∀i,i<j->lf (Ca (Ca l j (List.replicate n 0)) j d) i=lf l i:=by intro i hi;unfold lf Ca;rw[List.append_assoc,FU (by simp;omega),Is,Aq hi,List.append_assoc,FU (by simp;omega),Is,Aq hi]
 have bf:∀i,lf (Ca (Ca l j (List.replicate n 0)) j d) (j+i)=lf d i:=by
  intro i;have gW:∀k,j+n<=k->lf l k=0:=fun k hk=>by rw[S9 hl,So];exact F3 hz (Du b32.pos hk)
  have g1:∀(l new:List Int) (c8:j<=l.length),lf (Ca l j new) (j+i)=if i<new.length then lf new i else lf l (j+i):=by
   intro l new c8;unfold lf Ca;have hlt:(l.take j).length=j:=by rw[Iu];omega
   rw[List.append_assoc,Ir (by rw[hlt];omega),hlt,show j+i-j=i by omega];split
   ·rename_i h;rw[FU h]
   ·rename_i h;rw[Ir (by omega),Im,show j+new.length+(i-new.length)=j+i by omega]
  rw[g1 _ _ (by rw[e1];omega)];split
  ·rfl
  ·rename_i h;rw[g1 _ _ (by omega),Jf (l:=d) (by omega)];split
   ·exact HG _ _
   ·rename_i h2;simp only[Gbw]at h2;exact gW _ (by omega)
 unfold val;obtain⟨m,hm⟩:∃m,l.length=j+m:=⟨l.length-j,by omega⟩;have eU:vl b32 (lf l) j=val b32 l%b32.n ^ j:=by rw[<-OK];exact D6 fun i _=>S9 hl i
 rw[e2,hm,M5,D6 lo,D6 (n:=m) (fun i _=>bf i),D7 (by omega:d.length<=m),eU,Bj (b32.n ^ j),Nat.add_comm,<-hm];rfl
theorem Zl{R j n:Nat}(h:R<b32.n ^ (j+n+1))(h2:1<=n):R / b32.n ^ j / b32.n ^ (n-1)=dg b32 R (j+n)*b32.n+dg b32 R (j+n-1):=by
 obtain⟨m,rfl⟩:∃m,n=m+1:=⟨n-1,by omega⟩;rw[Nat.add_sub_cancel,UU,<-Iy,show j+(m+1)-1=j+m by omega];unfold dg;rw[show j+(m+1)=(j+m)+1 by omega]at h ⊢;generalize j+m=k at *;have e:R / b32.n ^ (k+1)=R / b32.n ^ k / b32.n:=by rw[Ei,UU]
 have hlt:R / b32.n ^ k / b32.n<b32.n:=by rw[<-e,In (b32.pw _),<-Nat.pow_succ',];exact h
 rw[e,DM hlt];have:=Ix (R / b32.n ^ k) b32.n;rw[Bj]at this;exact this.symm
theorem MB(P n:Nat):P=P / b32.n ^ n*b32.n ^ n+P%b32.n ^ n:=by have:=Ix P (b32.n ^ n);rw[Bj]at this;exact this.symm
theorem wzfz{V n j R:Nat}{l q:List Int}(hl:Dg b32 l)(hq:Dg b32 q)(hV:ln V=n)(h2:2<=n)(gQ:2147483648<=dg b32 V (n-1))(hR:val b32 l=R)(lO:R<V*b32.n ^ (j+1))(hj:j+n+1<=l.length)(hL:l.length<=68719476736)(nv:R / b32.n ^ j / b32.n ^ (n-1)≠0->j<q.length) (nw:lf q j=0) (hQ:q.length<=68719476736) {X:Nat} (hX:X=V*val b32 q+R) : ∃l' q',UO (dl V) ((j:Int),l,q)=some (.inl ((j:Int)-1,l',q'))/\Dg b32 l'/\Dg b32 q'/\l'.length=l.length/\q'.length=q.length/\X=V*val b32 q'+val b32 l'/\val b32 l'<V*b32.n ^ j/\(∀i,i≠j->lf q' i=lf q i):=by
 have js:V<b32.n ^ n:=by rw[<-hV];exact En V
 have iL:0<V:=by
  rcases F0 V with h|h
  ·rw[h]at hV;rw[OV]at hV;omega
  ·exact h
 have kJ:R<b32.n ^ (j+n+1):=by rw[show j+n+1=n+(j+1) by omega,Iy];exact F3 lO (BD _ (FZ js))
 have gq:∀i,lf l i=dg b32 R i:=fun i=>by rw[S9 hl,hR]
 have fG:=Zl kJ (by omega:1<=n);have lP:=qz3v R j;have iM:R / b32.n ^ j<V*b32.n:=by rw[In (b32.pw j),Fu,<-Nat.pow_succ'];exact lO
 have iN:R%b32.n ^ j<b32.n ^ j:=Gg _ (b32.pw j);have cx:=wzc5 (l:=l) (R:=R) (j:=j) (n:=n+1) gq (by omega) (by rw[show j+(n+1)=j+n+1 by omega];exact kJ);generalize hP:R / b32.n ^ j=P at *;have oE:P / V<4294967296:=by rw[In iL,Bj];exact iM
 have iO:P / V*V<=P:=Nat.div_mul_le_self P V
 have iP:P<(P / V+1)*V:=by
  have:=Nat.lt_mul_div_succ P iL
  rwa [Bj]at this
 have nz:V=dg b32 V (n-1)*b32.n ^ (n-1)+V%b32.n ^ (n-1):=by
  have e:V / b32.n ^ (n-1)=dg b32 V (n-1):=by unfold dg;rw[DM];rw[In (b32.pw _),<-Nat.pow_succ',Nat.succ_eq_add_one,show n-1+1=n by omega];exact js
  have:=MB V (n-1);rw[e]at this;exact this
 have kK:V=(dg b32 V (n-1)*b32.n+dg b32 V (n-2))*b32.n ^ (n-2)+V%b32.n ^ (n-2):=by have e:=Zl (R:=V) (j:=0) (n:=n-1) (by rw[show 0+(n-1)+1=n by omega];exact js) (by omega);rw[Nat.pow_zero,Nat.div_one,show n-1-1=n-2 by omega,show 0+(n-1)=n-1 by omega,show n-1-1=n-2 by omega]at e;have:=MB V (n-2);rw[e]at this;exact this
 have lQ:=MB P (n-1);rw[fG]at lQ
 have kL:P=((dg b32 R (j+n)*b32.n+dg b32 R (j+n-1))*b32.n+dg b32 R (j+n-2))*b32.n ^ (n-2)+P%b32.n ^ (n-2):=by
  have e2:P / b32.n ^ (n-2)=(dg b32 R (j+n)*b32.n+dg b32 R (j+n-1))*b32.n+dg b32 R (j+n-2):=by
   rw[<-fG];have a:P / b32.n ^ (n-1)=P / b32.n ^ (n-2) / b32.n:=by rw[show n-1=n-2+1 by omega,Ei,UU]
   have c:dg b32 R (j+n-2)=P / b32.n ^ (n-2)%b32.n:=by rw[show j+n-2=j+(n-2) by omega,Zj,hP];rfl
   rw[a,c];have:=Ix (P / b32.n ^ (n-2)) b32.n;rw[Bj]at this;exact this.symm
  have:=MB P (n-2);rw[e2]at this;exact this
 have kG:=EI (b:=b32) V (n-1);have iJ:=EI (b:=b32) V (n-2);have lR:=EI (b:=b32) R (j+n);have jq:=EI (b:=b32) R (j+n-1);have dW:=EI (b:=b32) R (j+n-2)
 have hgt:P / V<=(dg b32 R (j+n)*b32.n+dg b32 R (j+n-1)) / dg b32 V (n-1) :=
  qzzg nz lQ (Gg _ (b32.pw _)) iO (by omega)
 have key:∀g left:Nat,left+g*dg b32 V (n-1)=dg b32 R (j+n)*b32.n+dg b32 R (j+n-1)->left*b32.n+dg b32 R (j+n-2)<g*dg b32 V (n-2)->P / V<g:=fun g left hl hb =>
  qzuy (b:=b32) (v:=V) (v1:=dg b32 V (n-1)) (v2:=dg b32 V (n-2)) (part:=P) kK kL (Gg _ (b32.pw _)) iO hl hb
 simp only[UO,Di,hV];rw[it_d (by omega),AF (by omega),Cd hl (by omega)];simp only[Af];rw[AF (by omega),AF (by omega),Cd hl (by omega)];simp only[Af];rw[AF (by omega),Cd (CH V) (by rw[Di];omega)];simp only[Af];rw[show Int.toNat ((j:Int)+n)=j+n by omega,show Int.toNat ((j:Int)+n-1)=j+n-1 by omega,show Int.toNat ((n:Int)-1)=n-1 by omega,FM,gq,gq];rw[Cl]at kG iJ lR jq dW;rw[show(dg b32 V (n-1):Int)%18446744073709551616=(dg b32 V (n-1):Int) by omega];rw[OS (by omega),AF (by omega)];rw[show(dg b32 R (j+n):Int)%18446744073709551616=(dg b32 R (j+n):Int) by omega];rw[Sy lR jq];rw[Cl]at fG hgt key;generalize hT:dg b32 R (j+n)*4294967296+dg b32 R (j+n-1)=T at *;have oF:T<18446744073709551616:=by omega
 generalize iQ:dg b32 V (n-1)=v1 at *;have n4:T / v1*v1<=T:=Nat.div_mul_le_self T v1;have kM:min ((((T:Nat):Int).tdiv (v1:Int))%18446744073709551616) 4294967295=((min (T / v1) 4294967295:Nat):Int):=by rw[UR (by omega),<-Int.natCast_ediv];have:T / v1<=T:=Nat.div_le_self _ _;generalize T / v1=w at *;omega
 rw[kM];have oG:T / v1<=T:=Nat.div_le_self _ _;generalize T / v1=w at *;generalize fV:min w 4294967295=g0 at *;have kN:g0<4294967296:=by omega
 have kO:P / V<=g0:=by omega
 have n5:g0*v1<=T:=Bg (BD _ (by omega)) n4;have kP:(((T:Nat):Int)-((g0:Int)*(v1:Int))%18446744073709551616)%18446744073709551616=((T-g0*v1:Nat):Int):=by rw[<-Qm];generalize g0*v1=z at *;omega
 rw[kP];obtain⟨g,eg,kI,oH⟩:=wzgu (j:=j) (n:=n) (d:=P / V) (g:=g0) (left:=T-g0*v1) (t0:=T) (l:=l) (r:=dl V) hl (CH V) (by rw[Di];exact hV) h2 (by omega) (by omega) (by intro g left h1 h3;rw[FM,iQ]at h1;rw[FM,gq,Cl]at h3;exact key g left h1 h3) kO kN (by rw[FM,iQ];omega) (by omega);rw[eg];simp only[Af];by_cases h0:g=0
 ·subst h0;have n9:P<V:=by rw[Nat.eq_zero_of_le_zero kI]at iP;omega
  rw[it_d (by omega)];simp only[Af];rw[AF (by omega)];refine⟨l,q,rfl,hl,hq,rfl,rfl,by rw[hR];exact hX,?_,fun i _=>rfl⟩;rw[hR,lP];have h5:(P+1)*b32.n ^ j<=V*b32.n ^ j:=BD _ n9;rw[Bb,Bj P]at h5;omega
 ·have nA:T≠0:=by
   intro h;omega
  have eW:=nv (by rw[Cl,fG];exact nA);rw[it_n (by omega)];simp only[Af];have kQ:g<4294967296:=by omega
  have nB:(j:Int)+n+1=((j+(n+1):Nat):Int):=by omega
  rw[AF (by omega),AF (by omega),nB,EL (by omega)];rw[show(g:Int)%4294967296=(g:Int) by omega,<-S0 (by omega:0<g) kQ,S4 (by omega) (Bg (G8 (n:=1) (by rw[Nat.pow_one,Cl];exact kQ)) (by omega))];simp only[Af];rw[wzg1 (j:=j) (n:=n) (P:=P) (V:=V) (g:=g) hl hV (by omega) hL cx iL kI kQ];simp only[Af];have nu:ln P<=n+1:=by refine G8 ?_;rw[Ei];exact Nat.lt_trans iM (Nat.mul_lt_mul_of_pos_right js b32.pos)
  have lS:(sub l (j:Int) ((j+(n+1):Nat):Int)).length=n+1:=by rw[S7 (by omega) (by omega)];omega
  rw[S8 (by omega) (by omega)];simp only[Af];rw[Eu (Sv hl _ _) (by omega),cx];simp only[Af];have nC:V*(P / V)<=P:=by rw[Bj];exact iO
  rw[S5 (by omega) nC];simp only[Af]
  have hD:P-V*(P / V)<V:=by
   have:(P / V+1)*V=V*(P / V)+V:=by rw[Bb,Bj,Nat.one_mul]
   omega
  have nD:(dl (P-V*(P / V))).length<=n+1:=by rw[Di];have:=DW (FZ hD);omega
  have hw:Int.toNat (((j+(n+1):Nat):Int)-(j:Int))=n+1:=by omega
  rw[hw];obtain⟨p1,p2,p3⟩:=wzdg (l:=l) (d:=dl (P-V*(P / V))) (j:=j) (n:=n+1) hl (CH _) nD (by omega) (by rw[hR,show j+(n+1)=j+n+1 by omega];exact kJ);have bB:(Ca l j (List.replicate (n+1) 0)).length=l.length:=MA (by simp;omega);rw[show Int.toNat (j:Int)=j by omega,EL (by omega)]
  (try rw[EL (by omega)])
  (try rw[EL (by rw[bB];omega)])
  rw[Cd hq (by omega)];simp only[Af];rw[AF (by omega)];rw[Es,hR]at p3;have kR:((P / V:Nat):Int)%4294967296=((P / V:Nat):Int):=by generalize P / V=z at *;omega
  rw[kR];refine⟨_,_,rfl,p1,OU hq (by rw[Cl];generalize P / V=z at *;omega),p2,by rw[It],?_,?_,?_⟩
  ·rw[p3];have aH:=wzc0 (b:=b32) (q:=lf q) (Q:=q.length) (j:=j) (d:=P / V) (v:=V) (part:=P) (rest:=R) (R:=R%b32.n ^ j) (rest':=(P-P / V*V)*b32.n ^ j+R%b32.n ^ j) (X:=X) hX eW nw (by rw[Bj P];rw[Nat.add_comm];exact lP) rfl iO;rw[aH,Bj V (P / V)];congr 2;unfold val;rw[It];refine D6 fun i hi=>?_;rw[Jg eW,CL]
  ·rw[p3];have:=wzcw (b:=b32) (v:=V) (part:=P) (d:=P / V) (j:=j) (R:=R%b32.n ^ j) iP iO iN
   rwa [Bj (P / V) V]at this
  ·intro i hi;rw[Jg eW,Ak hi]
theorem qz28{l:List Int}{n:Nat}(h:∀i,i<n->lf l i=0):vl b32 (lf l) n=0:=by rw[D6 (g:=fun _=>0) h,M6]
theorem wzda(n:Nat):val b32 (List.replicate n 0)=0:=qz28 fun i _=>HG n i
theorem wzc7{V n X Q k0:Nat}{l0:List Int}(gi:Dg b32 l0)(hX:val b32 l0=X)(hV:ln V=n)(h2:2<=n)(gQ:2147483648<=dg b32 V (n-1))(aF:l0.length=k0+n)(lT:X<b32.n ^ (k0+n-2))(fR:2<=k0)(hL:l0.length<=68719476736)(hQ:k0-1<=Q)(oI:Q<=68719476736) : ∃l q,lp (UO (dl V)) ((k0:Int)-1,l0,List.replicate Q 0)=some (l,q)/\Dg b32 l/\Dg b32 q/\l.length<=68719476736/\q.length<=68719476736/\X=V*val b32 q+val b32 l/\val b32 l<V:=by
 have iL:V≠0:=by intro h;rw[h,OV]at hV;omega
 have gv:b32.n ^ (n-1)<=V:=by rw[<-hV];exact Jb iL
 obtain⟨⟨l,q⟩,e,h⟩:=Ev (s:=((k0:Int)-1,l0,List.replicate Q 0)) (body:=UO (dl V)) (fun s=>∃(k:Nat) (l q:List Int),s=((k:Int)-1,l,q)/\k<=k0/\Dg b32 l/\Dg b32 q/\l.length=l0.length/\q.length=Q/\(∀i,i<k->lf q i=0)/\Hold (X=V*val b32 q+val b32 l)/\Hold (val b32 l<V*b32.n ^ k)) (fun s=>(s.1+1).toNat) (fun o=>Dg b32 o.1/\Dg b32 o.2/\o.1.length<=68719476736/\o.2.length<=68719476736/\X=V*val b32 o.2+val b32 o.1/\val b32 o.1<V) (by
  rintro s ⟨k,l,q,rfl,hk,hl,hq,da,nE,hz,kS,hR⟩;unfold Hold at kS hR;by_cases h:0<k
  ·left;obtain⟨j,rfl⟩:∃j,k=j+1:=⟨k-1,by omega⟩;rw[show((j+1:Nat):Int)-1=(j:Int) by omega]
   obtain⟨l',q',e,p1,p2,p3,p4,p5,p6,p7⟩:=wzfz (V:=V) (n:=n) (j:=j) (l:=l) (q:=q) hl hq hV h2 gQ rfl hR (by omega) (by omega) (by
    intro aL;rw[nE];rcases CN j (k0-1) with h'|h'
    ·omega
    ·exfalso;apply aL;have hj:j=k0-1:=by omega
     have aD:val b32 l<=X:=(by omega);rw[UU,<-Iy];refine Ka (UK aD ?_);rw[show j+(n-1)=k0+n-2 by omega];exact lT) (hz j (by omega)) (by omega) kS
   refine⟨_,e,⟨j,l',q',rfl,by omega,p1,p2,by omega,by omega,?_,p5,p6⟩,by dsimp only;omega⟩;intro i hi;rw[p7 i (by omega)];exact hz i (by omega)
  ·right;have kT:k=0:=by omega
   subst kT;refine⟨(l,q),?_,hl,hq,by dsimp only;omega,by dsimp only;omega,kS,by simpa using hR⟩;simp only[UO];rw[it_n (by omega)]) ⟨k0,l0,_,rfl,AD _,gi,Jh,rfl,by simp,fun i _=>HG _ i,by unfold Hold;rw[wzda,hX];simp,by unfold Hold;rw[hX];refine F3 lT ?_;refine Bg ?_ (BD _ gv);rw[<-Iy];exact Nat.pow_le_pow_right b32.pos (by omega)⟩ (by dsimp only;omega)
 exact⟨l,q,e,h⟩
theorem Zm{u v:Nat}(hu:ln u<=34359738368)(hv:ln v<=34359738368)(h0:v≠0):NX (dl u) (dl v)=some (dl (u / v),dl (u%v)):=by
 unfold NX;rw[OY (by omega) (by omega)];simp only[Af];by_cases h:u<v
 ·rw[it_d (by unfold cmpI;rw[Aq (by omega)];omega),Ka h,DM h];rfl
 rw[it_n (by unfold cmpI;rw[Ak (by omega)];split<;>omega),Di];by_cases h1:ln v=1
 ·have iR:v<4294967296:=by have:=En v;rw[h1,Nat.pow_one,Cl]at this;exact this
  rw[it_d (by omega),S0 (by omega) iR];rw[show at? [(v:Int)] 0=some (v:Int) from at_e (n:=0) rfl rfl];simp only[Af];rw[Zg (by omega) (by omega) iR];simp only[Af];have hr:=Gg u (Io h0);have ht:H7 [((u%v:Nat):Int)]=some (dl (u%v)):=by rw[Eu (Er (by rw[Cl];omega)) (by simp)];rw[show val b32 [((u%v:Nat):Int)]=u%v by generalize u%v=z;simp[val,vl,lf]]
  rw[ht];rfl
 rw[it_n (by omega)];have hJ:=M9 h0;obtain⟨b,eb,hb,cK,cw⟩:=wzgz (v:=v) (by omega) h0;rw[eb];simp only[Af];rw[S6 (by omega) hb,S6 (by omega) hb];simp only[Af];have hp:0<2 ^ b:=Nat.pow_pos (by decide);have lU:2 ^ b<4294967296:=by have:2 ^ b<=2 ^ 31:=Du (by decide) hb;omega
 have nF:v=dg b32 v (ln v-1)*b32.n ^ (ln v-1)+v%b32.n ^ (ln v-1):=by
  have e:v / b32.n ^ (ln v-1)=dg b32 v (ln v-1):=by unfold dg;rw[DM];rw[In (b32.pw _),<-Nat.pow_succ',Nat.succ_eq_add_one,show ln v-1+1=ln v by omega];exact En v
  have:=MB v (ln v-1);rw[e]at this;exact this
 have eU:=Gg v (b32.pw (ln v-1));have lV:v*2 ^ b=dg b32 v (ln v-1)*2 ^ b*b32.n ^ (ln v-1)+v%b32.n ^ (ln v-1)*2 ^ b:=by have:=E9 (fun z=>z*2 ^ b) nF;simp only[Bb]at this;rw[this];congr 1;rw[Fu,Bj (b32.n ^ (ln v-1)),<-Fu]
 have iS:v*2 ^ b<b32.n ^ ln v:=by
  have ht:dg b32 v (ln v-1)*2 ^ b+2 ^ b<=b32.n:=by
   have nG:dg b32 v (ln v-1)*2 ^ b+2 ^ b=(dg b32 v (ln v-1)+1)*2 ^ b:=by rw[Bb,Nat.one_mul]
   have lW:b32.n=2 ^ (32-b)*2 ^ b:=by rw[<-Iy,show 32-b+b=32 by omega];rfl
   rw[nG,lW];refine BD _ ?_;have:dg b32 v (ln v-1)*2 ^ b<2 ^ (32-b)*2 ^ b:=by rw[<-lW,Cl];exact cw
   exact Nat.lt_of_mul_lt_mul_right this
  have h5:(v%b32.n ^ (ln v-1)+1)*2 ^ b<=b32.n ^ (ln v-1)*2 ^ b:=BD _ eU;have h6:(dg b32 v (ln v-1)*2 ^ b+2 ^ b)*b32.n ^ (ln v-1)<=b32.n*b32.n ^ (ln v-1):=BD _ ht;rw[<-Nat.pow_succ',Nat.succ_eq_add_one,show ln v-1+1=ln v by omega,Bb]at h6;rw[Bb,Nat.one_mul,Bj (b32.n ^ (ln v-1))]at h5;rw[lV];omega
 have gv:b32.n ^ (ln v-1)<=v*2 ^ b:=Bg (Jb h0) (Nat.le_mul_of_pos_right _ hp);have gw:ln (v*2 ^ b)=ln v:=(YI iS (Or.inr gv)).symm
 have iT:dg b32 (v*2 ^ b) (ln v-1)=dg b32 v (ln v-1)*2 ^ b+v%b32.n ^ (ln v-1)*2 ^ b / b32.n ^ (ln v-1):=by
  unfold dg;rw[DM]
  ·have:=lV;unfold dg at this;rw[this];rw[Bj _ (b32.n ^ (ln v-1)),Qq (b32.pw _)]
  ·rw[In (b32.pw _),<-Nat.pow_succ',Nat.succ_eq_add_one,show ln v-1+1=ln v by omega];exact iS
 have gQ:2147483648<=dg b32 (v*2 ^ b) (ln v-1):=by rw[iT];exact Bg cK (Nat.le_add_right _ _)
 have jR:u≠0:=by omega
 have nH:u*2 ^ b≠0:=Nat.mul_ne_zero jR (by omega);have lX:ln (u*2 ^ b)<=ln u+1:=by refine G8 ?_;rw[Ei];exact Nat.mul_lt_mul'' (En u) (by rw[Cl];exact lU)
 have oJ:=M9 nH;have oK:ln v<=ln (u*2 ^ b):=by rw[<-gw];exact DW (BD _ (by omega))
 have iK:ln v<=ln u:=DW (by omega);rw[S8 (by rw[Di];omega) (by rw[Di];omega)];simp only[Af];have kU:(dl (u*2 ^ b)++[0,0]).length=ln (u*2 ^ b)+2:=by simp[Di]
 rw[kU,show(dl (v*2 ^ b)).length=ln v by rw[Di,gw],Di u];rw[ck_d (by omega),AF (by omega),AF (by omega),OT (by omega),AF (by omega),AF (by omega)];have nI:Dg b32 (dl (u*2 ^ b)++[0,0]):=Ep (CH _) (Jh (n:=2))
 have nJ:val b32 (dl (u*2 ^ b)++[0,0])=u*2 ^ b:=by
  have e1:dl (u*2 ^ b)++[0,0]=(dl (u*2 ^ b)++[0])++[0]:=by simp
  rw[e1,Ji,Ji,Es];simp
 obtain⟨l,q,e,g1,g2,g3,g4,g5,g6⟩:=wzc7 (V:=v*2 ^ b) (n:=ln v) (X:=u*2 ^ b) (Q:=ln u-ln v+2) (k0:=ln (u*2 ^ b)+2-ln v) nI nJ gw (by omega) gQ (by rw[kU];omega) (by rw[show ln (u*2 ^ b)+2-ln v+ln v-2=ln (u*2 ^ b) by omega];exact En _) (by omega) (by rw[kU];omega) (by omega) (by omega);rw[show((ln (u*2 ^ b)+2:Nat):Int)-(ln v:Int)-1=((ln (u*2 ^ b)+2-ln v:Nat):Int)-1 by omega,show Int.toNat ((ln u:Int)-(ln v:Int)+2)=ln u-ln v+2 by omega,e];simp only[Af];rw[Eu g2 (by omega),Eu g1 (by omega)];simp only[Af];rw[AF (by omega)];have iU:0<v*2 ^ b:=Nat.mul_pos (by omega) hp
 have hq:val b32 q=u / v:=by
  have e1:u*2 ^ b / (v*2 ^ b)=val b32 q:=by rw[g5,Qq iU,Ka g6];rfl
  rw[Nat.mul_div_mul_right _ _ hp]at e1;exact e1.symm
 have hr:val b32 l=u%v*2 ^ b:=by
  have e1:u*2 ^ b%(v*2 ^ b)=val b32 l:=by rw[g5,Qz,DM g6]
  rw[Nat.mul_mod_mul_right]at e1;exact e1.symm
 rw[qzu5 (by rw[hr,<-hr];exact Bg (DW (FZ g6)) (by omega)) hb];rw[hq,hr,Nat.mul_div_cancel _ hp];rfl
end Go.Am

