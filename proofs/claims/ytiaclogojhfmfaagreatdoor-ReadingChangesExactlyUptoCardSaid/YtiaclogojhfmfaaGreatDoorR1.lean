/- Part R1: the functions of numbers as functions of core numbers. No condition. -/
import Derived.Test.YtiaclogojhfmfaaGreatDoorN1
import Derived.Test.YtiaclogojhfmfaaGreatDoorF1
set_option linter.unusedSimpArgs false
set_option linter.unusedVariables false
namespace Go.Am
section
variable {α U:Type}
theorem Ac(a:α)(k:α->Option U):bd (some a) k=k a:=id rfl
theorem ck_t{c:Bool}{x:Option α}(h:c=true):ck c x=x:=by subst h;rfl
theorem ck_d{p:Prop}[Decidable p]{x:Option α}(h:p:=by omega):ck (decide p) x=x:=ck_t (B9 h)
theorem QB{p:Prop}[Decidable p]{x:Option α}(h:¬p:=by omega):ck (!decide p) x=x:=ck_t (by simp[h])
theorem AB{n:Int}{x:Option α}(h:-9223372036854775808<=n/\n<=9223372036854775807:=by omega):ck (Ay .i64 n) x=x:=ck_t (by simp[Ay,h])
theorem K3{n:Int}{b:Nat}{x:Option α}(h:0<=n/\n*b<=140737488355328:=by omega):ck (mkOk n b) x=x:=ck_t (by simp[mkOk,h])
theorem EL{l:List U}{lo hi:Int}{x:Option α}(h:0<=lo/\lo<=hi/\hi<=l.length:=by omega):ck (Dm l lo hi) x=x:=ck_t (by simp[Dm,h])
theorem wzwr{l:List UInt8}{j:Int}{x:Option α}(h:0<=j/\j<l.length:=by omega):ck (Cz l j) x=x:=ck_t (by simp[Cz,h])
theorem ck_o{p:Prop}[Decidable p]{c:Bool}{x:Option α}(h:p->c=true):ck (!decide p||c) x=x:=ck_t (by by_cases hp:p<;>simp[hp,h])
theorem it_t{c:Bool}{x y:Option α}(h:c=true):ite' c x y=x:=by subst h;rfl
theorem it_f{c:Bool}{x y:Option α}(h:c=false):ite' c x y=y:=by subst h;rfl
theorem it_d{p:Prop}[Decidable p]{x y:Option α}(h:p:=by omega):ite' (decide p) x y=x:=it_t (B9 h)
theorem it_n{p:Prop}[Decidable p]{x y:Option α}(h:¬p:=by omega):ite' (decide p) x y=y:=it_f (Bj h)
theorem AK{p:Prop}[Decidable p]{x y:Option α}(h:p:=by omega):ite' (!decide p) x y=y:=it_f (by simp[h])
theorem AY{p:Prop}[Decidable p]{x y:Option α}(h:¬p:=by omega):ite' (!decide p) x y=x:=it_t (by simp[h])
theorem ifP{c:Prop}{d:Decidable c}{x y:α}(h:c:=by omega):@ite α c d x y=x:=An h
theorem ifN{c:Prop}{d:Decidable c}{x y:α}(h:¬c:=by omega):@ite α c d x y=y:=Aj h
theorem AN[Inhabited α]{x:Option α}:gd true x=x:=id rfl
theorem AJ[Inhabited α]{x:Option α}:gd false x=some default:=id rfl
theorem C6{x y:Option α}:ite' true x y=x:=id rfl
theorem AV{x y:Option α}:ite' false x y=y:=id rfl
theorem Gl{x:Option α}:ck true x=x:=id rfl
theorem at_e{l:List α}{j:Int}{n:Nat}{x:α}(hj:j=n)(h:l[n]?=some x):at? l j=some x:=by subst hj;unfold at?;rw[B9 (by omega:(0:Int)<=n)];exact h
end
theorem QC{ι O ω:Type}{body:O->Option (O⊕ω)}(f:ι->O)(I:ι->Prop)(Z:ι->Nat)(R:ω->Prop)(step:∀i,I i->(∃i',body (f i)=some (.inl (f i'))/\I i'/\Z i'<Z i)\/(∃o,body (f i)=some (.inr o)/\R o)) {s:O} (i:ι) (hs:s=f i) (h:I i) (hb:Z i<4611686018427387904):∃o,lp body s=some o/\R o:=by
 subst hs
 have key:∀(n:Nat) (i:ι),I i->Z i<n->∃o,lpN body n (f i)=some o/\R o:=by
  intro n;induction n with
  |zero=>intro i _ h;omega
  |succ n ih =>
   intro i hs hn;rcases step i hs with ⟨s',e,bg,hm⟩|⟨o,e,ho⟩
   ·obtain⟨o,e2,ho⟩:=ih s' bg (by omega);exact⟨o,by unfold lpN;rw[e];exact e2,ho⟩
   ·exact⟨o,by unfold lpN;rw[e],ho⟩
 rw[Kc];exact key _ i h hb
def lf(l:List Int)(i:Nat):Nat:=(l[i]?.getD 0).toNat
def Dg(b:Base)(l:List Int):Prop:=∀x,x∈l->0<=x/\x<b.n
theorem yz4{b:Base}{l:List Int}(h:Dg b l)(i:Nat):lf l i<b.n:=by
 unfold lf;cases hx:l[i]? with
 |none=>exact b.pos
 |some x =>have:=h x (Cq hx);simp only[Lk];omega
theorem I4{l:List Int}{i:Nat}(h:l.length<=i):lf l i=0:=by unfold lf;rw[J3 h];rfl
theorem F7{l m:List Int}{i:Nat}(h:i<l.length):lf (l++m) i=lf l i:=by unfold lf;rw[Fm h]
theorem qzxd{l m:List Int}{i:Nat}(h:l.length<=i):lf (l++m) i=lf m (i-l.length):=by unfold lf;rw[GB h]
theorem EM{l:List Int}{x:Int}:lf (l++[x]) l.length=x.toNat:=by rw[qzxd (AC _)];simp[lf]
theorem I5{l:List Int}{k i:Nat}{x:Int}(hk:k<l.length):lf (l.set k x) i=if i=k then x.toNat else lf l i:=by
 unfold lf;rw[Jw];by_cases h:k=i
 ·subst h;simp[hk]
 ·rw[Aj h,Aj (by omega)]
theorem Hk(n i:Nat):lf (List.replicate n 0) i=0:=by unfold lf;rw[Oj];split<;>rfl
theorem EN{b:Base}{l m:List Int}(h:Dg b l)(h':Dg b m):Dg b (l++m):=fun x hx=>(BJ.1 hx).elim (h x) (h' x)
theorem F8{b:Base}{x:Int}(h:0<=x/\x<b.n):Dg b [x]:=fun y hy=>by rw[BK.1 hy];exact h
theorem K4{b:Base}:Dg b []:=fun _ h=>by cases h
theorem M9{b:Base}{l:List Int}{k:Nat}{x:Int}(h:Dg b l)(hx:0<=x/\x<b.n):Dg b (l.set k x):=fun y hy=>(List.mem_or_eq_of_mem_set hy).elim (h y) fun e=>e▸hx
theorem I6{b:Base}{n:Nat}:Dg b (List.replicate n 0):=fun x hx=>by rw[List.eq_of_mem_replicate hx];have:=b.pos;omega
theorem QD{b:Base}{l:List Int}(h:Dg b l)(lo hi:Int):Dg b (sub l lo hi):=fun x hx=>h x (NW (List.mem_of_mem_take hx))
theorem BU{b:Base}{l:List Int}(h:Dg b l){j:Int}(hj:0<=j/\j<l.length):at? l j=some (lf l j.toNat:Int):=by
 have hn:j.toNat<l.length:=by omega
 refine at_e (n:=j.toNat) (by omega) ?_;have hd:=h _ (BI hn);unfold lf;rw[AD hn];simp only[Lk];congr 1;omega
def val(b:Base)(l:List Int):Nat:=vl b (lf l) l.length
theorem K5{b:Base}{l:List Int}{x:Int}:val b (l++[x])=val b l+x.toNat*b.n ^ l.length:=by unfold val;rw[Ch,Ed];simp only[EI];rw[EM];congr 1;exact D2 fun i hi=>F7 hi
theorem Gm{b:Base}{l:List Int}(h:Dg b l):val b l<b.n ^ l.length:=Gj fun i _=>yz4 h i
theorem D5{b:Base}{l:List Int}{n:Nat}(h:l.length<=n):vl b (lf l) n=val b l:=VK (fun i hi=>I4 hi) h
theorem qz3e{l m:List Int}{b:Base}(hl:Dg b l)(hm:Dg b m)(hn:l.length=m.length)(h:∀i,i<l.length->lf l i=lf m i):l=m:=by refine List.ext_getElem hn fun i h1 h2=>?_;have e:=h i h1;have d1:=hl _ (BI h1);have d2:=hm _ (BI h2);unfold lf at e;rw[AD h1,AD h2]at e;simp only[Lk]at e;omega
def dl(v:Nat):List Int:=(List.range (ln v)).map fun i=>(dg b32 v i:Int)
theorem Dc(v:Nat):(dl v).length=ln v:=by simp[dl]
theorem C7(v:Nat):Dg b32 (dl v):=fun x hx=>by obtain⟨i,_,rfl⟩:=Ls.1 hx;have:=EH (b:=b32) v i;omega
theorem Wh{v i:Nat}(h:i<ln v):lf (dl v) i=dg b32 v i:=by simp[lf,dl,h]
theorem F9(v i:Nat):lf (dl v) i=dg b32 v i:=by
 by_cases h:i<ln v
 ·exact Wh h
 ·rw[I4 (by rw[Dc];omega),Q5];exact Fs (Ew v) (Dj b32.pos (by omega))
theorem Ey(v:Nat):val b32 (dl v)=v:=by unfold val;rw[Dc,D2 fun i hi=>Wh hi,Ix]
theorem MA:ln 0=0:=rfl
theorem wzd2:dl 0=[]:=rfl
theorem MB{v:Nat}(h:v≠0):0<ln v:=by unfold ln;rw[Aj h];omega
theorem Wi{l:List Int}(h:Dg b32 l)(hn:Norm (lf l) l.length):l=dl (val b32 l):=by have e:l.length=ln (val b32 l):=wzcv (fun i _=>yz4 h i) hn;refine qz3e h (C7 _) (by rw[Dc];exact e) fun i hi=>?_;rw[F9];exact(Q4 (fun i _=>yz4 h i) i hi).symm
theorem EO{u v:Nat}(h:u<=v):ln u<=ln v:=by
 by_cases hu:u=0
 ·subst hu;simp[MA]
 ·rcases BL (ln v) (ln u) with h1|h1;·have h2:=Iw hu;have h3:=Ew v;have h4:b32.n ^ ln v<=b32.n ^ (ln u-1):=Dj b32.pos (by omega);omega
  ·exact h1
theorem Hl{v n:Nat}(h:v<b32.n ^ n):ln v<=n:=by
 by_cases hv:v=0
 ·subst hv;simp[MA]
 ·rcases BL n (ln v) with h1|h1;·have h2:=Iw hv;have h4:b32.n ^ n<=b32.n ^ (ln v-1):=Dj b32.pos (by omega);omega
  ·exact h1
def bl(v:Nat):Nat:=(bs v).length
theorem Hm(v:Nat):v<256 ^ bl v:=by have:=Db (bs v);rwa [AX]at this
theorem MC{v n:Nat}(h:v<256 ^ n):bl v<=n:=VW h
theorem FB{u v:Nat}(h:u<=v):bl u<=bl v:=MC (SS h (Hm v))
theorem Wj(u v:Nat):bl (u*v)<=bl u+bl v:=MC (by rw[HL];exact Nat.mul_lt_mul'' (Hm u) (Hm v))
theorem QE(u v:Nat):bl (u+v)<=max (bl u) (bl v)+1:=by have h1:256 ^ bl u<=256 ^ max (bl u) (bl v):=Dj (by decide) (by omega);have h2:256 ^ bl v<=256 ^ max (bl u) (bl v):=Dj (by decide) (by omega);have h3:=Hm u;have h4:=Hm v;exact MC (by rw[E8];omega)
theorem Hn(s:List UInt8):bl (sv s)<=s.length:=MC (Db s)
theorem QF(v:Nat):ln v<=bl v:=Hl (Fs (Hm v) (Nat.pow_le_pow_left (by decide) _))
theorem EP{l:List Int}(h:Dg b32 l)(hn:l.length<=4294967296):HH l=some (dl (val b32 l)):=by
 unfold HH
 obtain⟨o,e,ho⟩:=CF (body:=vzd) (fun x:List Int=>Dg b32 x/\val b32 x=val b32 l/\x.length<=4294967296) (fun x=>x.length) (fun o=>o=dl (val b32 l)) (by
  rintro x ⟨hx,hv,hm⟩;simp only[vzd];rcases List.eq_nil_or_concat x with rfl|⟨y,t,rfl⟩
  ·right;refine⟨[],by simp[ck,gd,bd,ite'],?_⟩;rw[<-hv];rfl
  ·have ht:0<=t/\t<b32.n:=hx t (by simp);have bQ:at? (y++[t]) (((y++[t]).length:Int)-1)=some t:=at_e (n:=y.length) (by simp) (by simp);simp only[List.concat_eq_append]at hx hv hm |-;rw[ck_o (fun _=>by simp only[Ay,BA];simp only[Ch,Ed]at hm |-;omega)];rw[bQ,B9 (by simp only[Ch,Ed];omega:(0:Int)<((y++[t]).length:Int))];simp only[AN,Ac,CC];by_cases h0:t=0
   ·left;subst h0;rw[it_d rfl,AB (by simp only[Ch,Ed]at hm |-;omega),EL (by simp;omega)];have hs:sub (y++[(0:Int)]) 0 (((y++[(0:Int)]).length:Int)-1)=y:=by simp[sub]
    rw[hs];refine⟨y,rfl,⟨fun z hz=>hx z (by simp[hz]),?_,by simp at hm;omega⟩,by simp⟩;rw[<-hv,K5];simp
   ·right;rw[it_n h0];refine⟨_,rfl,?_⟩;rw[<-hv];refine Wi hx (Or.inr ?_);rw[Ch,Ed,Nat.add_sub_cancel,EM];omega) ⟨h,rfl,hn⟩ (by show l.length<_;omega)
 rw[e,ho];rfl
theorem MD{l:List Int}(h:Dg b32 l){k:Int}(hk:0<=k):PI l k=some (lf l k.toNat:Int):=by
 unfold PI;by_cases h1:k<(l.length:Int)
 ·rw[it_d h1,BU h ⟨hk,h1⟩];have:=yz4 h k.toNat;rw[Cu]at this;simp only[Ac];congr 1;omega
 ·rw[it_n h1,I4 (by omega)];rfl
theorem wzea{x y:List Int}(hx:Dg b32 x)(hy:Dg b32 y)(nx:x.length<=2147483648)(ny:y.length<=2147483648):V4 x y=some (dl (val b32 x+val b32 y)):=by
 unfold V4;rw[AB]
 obtain⟨o,e,h1,h2,h3⟩:=CF (s:=(0,0,[])) (body:=vze x y) (fun s=>∃(c k:Nat) (l:List Int),s=((c:Int),(k:Int),l)/\k<=max x.length y.length+1/\c<=1/\l.length=k/\Dg b32 l/\vl b32 (lf l) k+c*b32.n ^ k=vl b32 (lf x) k+vl b32 (lf y) k) (fun s=>max x.length y.length+1-s.2.1.toNat) (fun l=>l.length=max x.length y.length+1/\Dg b32 l/\val b32 l=val b32 x+val b32 y) (by
  rintro s ⟨c,k,l,rfl,hk,hc,hl,hd,hv⟩;simp only[vze];by_cases h:k<max x.length y.length+1
  ·left;rw[it_d,MD hx (by omega),MD hy (by omega)];have a1:=yz4 hx k;have a2:=yz4 hy k;rw[Cu]at a1 a2;simp only[Ac,CN];rw[ck_d (by simp only[Ch,Ed];omega),AB];have es:(((lf x k:Int)+(lf y k:Int))%18446744073709551616+(c:Int))%18446744073709551616=((lf x k+lf y k+c:Nat):Int):=by omega
   rw[es];have q1:Int.fdiv ((lf x k+lf y k+c:Nat):Int) 4294967296=((lf x k+lf y k+c) / 4294967296:Nat):=by rw[Le _ (by omega)];omega
   rw[q1];refine⟨_,rfl,⟨_,k+1,_,rfl,by omega,by omega,by simp[hl],EN hd (F8 ?_),?_⟩,by simp;omega⟩
   ·rw[Cu];omega
   ·refine VN (b:=b32) (s:=lf x k+lf y k+c) ?_ rfl ?_;·rw[<-hv];congr 1;exact D2 fun i hi=>F7 (by omega)
    ·rw[<-hl,EM,Cu];omega
  ·right;rw[it_n];refine⟨_,rfl,by omega,hd,?_⟩;have dm:k=max x.length y.length+1:=by omega
   have v1:vl b32 (lf x) k=val b32 x:=D5 (by omega);have v2:vl b32 (lf y) k=val b32 y:=D5 (by omega);rw[v1,v2]at hv;have b1:=Gm hx;have b2:=Gm hy;have p1:b32.n ^ x.length<=b32.n ^ max x.length y.length:=Dj b32.pos (by omega);have p2:b32.n ^ y.length<=b32.n ^ max x.length y.length:=Dj b32.pos (by omega);have p3:b32.n ^ k=b32.n ^ max x.length y.length*4294967296:=by rw[dm,E8];rfl
   have bV:c=0:=by
    rcases Fq c with h0|h0
    ·exact h0
    ·have h1:c=1:=(by omega);rw[h1]at hv;omega
   rw[bV]at hv;unfold val at hv |-;rw[hl];omega) ⟨0,0,[],rfl,by omega,by omega,rfl,K4,by simp[vl]⟩ (by dsimp only;omega)
 rw[e];simp only[Ac];rw[EP h2 (by omega),h3];rfl
theorem qz26{x y:List Int}(hx:Dg b32 x)(hy:Dg b32 y)(nx:x.length<=4294967296)(h:val b32 y<=val b32 x):PX x y=some (dl (val b32 x-val b32 y)):=by
 unfold PX
 obtain⟨o,e,h1,h2,h3⟩:=CF (s:=(0,0,[])) (body:=kzo x y) (fun s=>∃(w k:Nat) (l:List Int),s=((w:Int),(k:Int),l)/\k<=x.length/\w<=1/\l.length=k/\Dg b32 l/\vl b32 (lf l) k+vl b32 (lf y) k=vl b32 (lf x) k+w*b32.n ^ k) (fun s=>x.length-s.2.1.toNat) (fun l=>l.length=x.length/\Dg b32 l/\val b32 l=val b32 x-val b32 y) (by
  rintro s ⟨w,k,l,rfl,hk,hw,hl,hd,hv⟩;simp only[kzo];by_cases h:k<x.length
  ·left;rw[it_d,BU hx (by omega),MD hy (by omega)];have a1:=yz4 hx k;have a2:=yz4 hy k;rw[Cu]at a1 a2;simp only[Ac,CN];rw[ck_d (by simp only[Ch,Ed];omega),AB];by_cases hb:lf y k+w<=lf x k
   ·have es:((((lf x k:Int)%18446744073709551616-(lf y k:Int))%18446744073709551616-(w:Int))%18446744073709551616)=((lf x k-lf y k-w:Nat):Int):=(by omega);rw[es];have q1:Int.fdiv ((lf x k-lf y k-w:Nat):Int) 9223372036854775808=((0:Nat):Int):=by rw[Le _ (by omega)];omega
    rw[q1];refine⟨_,rfl,⟨_,k+1,_,rfl,by omega,by omega,by simp[hl],EN hd (F8 ?_),?_⟩,by simp;omega⟩
    ·rw[Cu];omega
    ·refine My (b:=b32) (w:=w) ?_ ?_;·rw[<-hv];congr 1;exact D2 fun i hi=>F7 (by omega)
     ·rw[<-hl,EM,hl,Cu];omega
   ·have es:((((lf x k:Int)%18446744073709551616-(lf y k:Int))%18446744073709551616-(w:Int))%18446744073709551616)=((18446744073709551616+lf x k-lf y k-w:Nat):Int):=(by omega);rw[es];have q1:Int.fdiv ((18446744073709551616+lf x k-lf y k-w:Nat):Int) 9223372036854775808=((1:Nat):Int):=by rw[Le _ (by omega)];omega
    rw[q1];refine⟨_,rfl,⟨_,k+1,_,rfl,by omega,by omega,by simp[hl],EN hd (F8 ?_),?_⟩,by simp;omega⟩
    ·rw[Cu];omega
    ·refine My (b:=b32) (w:=w) ?_ ?_;·rw[<-hv];congr 1;exact D2 fun i hi=>F7 (by omega)
     ·rw[<-hl,EM,hl,Cu];omega
  ·right;rw[it_n];refine⟨_,rfl,by omega,hd,?_⟩;have dm:k=x.length:=by omega
   have v1:vl b32 (lf x) k=val b32 x:=by rw[dm];rfl
   have v3:vl b32 (lf l) k=val b32 l:=by rw[<-hl];rfl
   have v4:vl b32 (lf y) k<=val b32 y:=by
    rcases Nat.le_total k y.length with h'|h'
    ·exact Q0 h'
    ·rw[D5 h'];exact AC _
   have hlt:=Gm hd;rw[v1,v3]at hv;rw[hl]at hlt;by_cases mf:y.length<=k
   ·rw[D5 mf]at hv
    have iW:w=0:=by
     rcases Fq w with h0|h0
     ·exact h0
     ·have h1:w=1:=(by omega);rw[h1]at hv;omega
    rw[iW]at hv;omega
   ·-- the digits of y above are 0,for y is not greater than x
    have fY:=Gm hx;rw[<-dm]at fY;have cX:val b32 y=vl b32 (lf y) k+b32.n ^ k*vl b32 (fun i=>lf y (k+i)) (y.length-k):=by have:=Kw (b:=b32) (lf y) k (y.length-k);rw[show k+(y.length-k)=y.length by omega]at this;exact this
    have hz:vl b32 (fun i=>lf y (k+i)) (y.length-k)=0:=by
     rcases Fq (vl b32 (fun i=>lf y (k+i)) (y.length-k)) with h0 | h0
     ·exact h0
     ·have:b32.n ^ k*1<=b32.n ^ k*vl b32 (fun i=>lf y (k+i)) (y.length-k):=ST _ h0;omega
    rw[hz]at cX
    have iW:w=0:=by
     rcases Fq w with h0|h0
     ·exact h0
     ·have h1:w=1:=(by omega);rw[h1]at hv;omega
    rw[iW]at hv;omega) ⟨0,0,[],rfl,by omega,by omega,rfl,K4,by simp[vl]⟩ (by dsimp only;omega)
 rw[e];simp only[Ac];rw[EP h2 (by omega),h3];rfl
theorem Wl{a b:Nat}(ha:a<4294967296)(hb:b<4294967296):((a:Int)%18446744073709551616*(b:Int))%18446744073709551616=((a*b:Nat):Int)/\a*b<=18446744065119617025:=by
 have h0:a*b<=4294967295*b:=Bq b (by omega);have h1:a*b<=18446744065119617025:=by omega
 refine⟨?_,h1⟩;rw[show(a:Int)%18446744073709551616=a by omega,<-NV];exact Int.emod_eq_of_lt (by omega) (by omega)
def Hold(p:Prop):Prop:=p
theorem qz3g{x y l:List Int}{i:Nat}(hx:Dg b32 x)(hy:Dg b32 y)(nx:x.length<=1073741824)(ny:y.length<=1073741824)(h:i<x.length)(hl:l.length=x.length+y.length+1)(hd:Dg b32 l)(hv:Hold (val b32 l=vl b32 (lf x) i*val b32 y)) : ∃m,lp (YD (i:Int) (lf x i:Int) y) (0,0,l)=some m/\m.length=x.length+y.length+1/\Dg b32 m/\Hold (val b32 m=vl b32 (lf x) (i+1)*val b32 y):=by
 have a1:=yz4 hx i;rw[Cu]at a1
 exact CF (s:=(0,0,l)) (body:=YD (i:Int) (lf x i:Int) y) (fun s=>∃(c k:Nat) (m:List Int),s=((c:Int),(k:Int),m)/\k<=y.length+1/\c<4294967296/\m.length=x.length+y.length+1/\Dg b32 m/\Hold (val b32 m+c*b32.n ^ (i+k)=vl b32 (lf x) i*val b32 y+lf x i*vl b32 (lf y) k*b32.n ^ i)) (fun s=>y.length+1-s.2.1.toNat) (fun m=>m.length=x.length+y.length+1/\Dg b32 m/\Hold (val b32 m=vl b32 (lf x) (i+1)*val b32 y)) (by
  rintro s ⟨c,k,m,rfl,hk,hc,hm,eV,fH⟩;simp only[YD]
  have oL:0<c->k<=y.length:=by
   intro bV;rcases BL y.length k with h'|h'
   ·have e1:vl b32 (lf y) k=val b32 y:=D5 (by omega);rw[e1]at fH;exact VQ (b:=b32) (out:=lf m) (x:=lf x) (y:=lf y) (N:=m.length) (m:=y.length) (a:=lf x i) (fun j _=>yz4 hy j) (by rw[Cu];exact a1) (Gj fun j _=>yz4 hx j) fH bV
   ·exact h'
  by_cases fU:k<y.length\/0<c
  ·left;have di:k<=y.length:=fU.elim (by omega) oL;have jG:i+k<m.length:=by omega
   have a2:=yz4 hy k;have a3:=yz4 eV (i+k);rw[Cu]at a2 a3;obtain⟨p1,p2⟩:=Wl a1 a2;rw[it_t (by rcases fU with h'|h'<;>simp[h']),MD hy (by omega)];simp only[Ac,CN];rw[AB,BU eV (by omega),show Int.toNat ((i:Int)+k)=i+k by omega];simp only[Ac];rw[AB,AB];rw[p1];generalize hp:lf x i*lf y k=p at *;have es:(((p:Int)+(lf m (i+k):Int)%18446744073709551616)%18446744073709551616+(c:Int))%18446744073709551616=((p+lf m (i+k)+c:Nat):Int):=by omega
   rw[es];have q1:Int.fdiv ((p+lf m (i+k)+c:Nat):Int) 4294967296=((p+lf m (i+k)+c) / 4294967296:Nat):=by rw[Le _ (by omega)];omega
   have q2:((p+lf m (i+k)+c:Nat):Int)%4294967296=((p+lf m (i+k)+c)%4294967296:Nat):=by omega
   rw[q1,q2];refine⟨_,rfl,⟨_,k+1,_,rfl,by omega,by omega,by simp[hm],M9 eV (by rw[Cu];omega),?_⟩,by dsimp only;omega⟩;have aH:=VP (b:=b32) (out:=lf m) (y:=lf y) (N:=m.length) (i:=i) (k:=k) (a:=lf x i) (c:=c) (s:=p+lf m (i+k)+c) fH jG (by rw[<-hp]);rw[<-aH];congr 1;unfold val;rw[H9];refine D2 fun j hj=>?_;rw[I5 jG,CN,Cu]
  ·right;have eu:y.length<=k:=by omega
   have dG:c=0:=by omega
   rw[it_f (by simp;omega)];refine⟨_,rfl,hm,eV,?_⟩;unfold Hold at fH |-;rw[D5 eu,dG]at fH;rw[EI,Ba];have:lf x i*b32.n ^ i*val b32 y=lf x i*val b32 y*b32.n ^ i:=by simp only[Bi,Lj,Ft]
   omega) ⟨0,0,l,rfl,by omega,by omega,hl,hd,by unfold Hold at hv |-;rw[hv];simp[vl]⟩ (by dsimp only;omega)
theorem qz3j{x y:List Int}(hx:Dg b32 x)(hy:Dg b32 y)(nx:x.length<=1073741824)(ny:y.length<=1073741824):PW x y=some (dl (val b32 x*val b32 y)):=by
 unfold PW;rw[AB,AB,K3];rw[show Int.toNat ((x.length:Int)+y.length+1)=x.length+y.length+1 by omega]
 obtain⟨o,e,h1,h2,h3⟩:=CF (s:=(0,List.replicate (x.length+y.length+1) 0)) (body:=kzu x y) (fun s=>∃(i:Nat) (l:List Int),s=((i:Int),l)/\i<=x.length/\l.length=x.length+y.length+1/\Dg b32 l/\Hold (val b32 l=vl b32 (lf x) i*val b32 y)) (fun s=>x.length-s.1.toNat) (fun l=>l.length=x.length+y.length+1/\Dg b32 l/\Hold (val b32 l=val b32 x*val b32 y)) (by
  rintro s ⟨i,l,rfl,hi,hl,hd,hv⟩;simp only[kzu];by_cases h:i<x.length
  ·left;rw[it_d,BU hx (by omega)];simp only[Ac,CN];obtain⟨o,e,g1,g2,g3⟩:=qz3g hx hy nx ny h hl hd hv;rw[e];simp only[Ac];rw[AB];exact⟨_,rfl,⟨i+1,o,rfl,by omega,g1,g2,g3⟩,by dsimp only;omega⟩
  ·right;rw[it_n];refine⟨_,rfl,hl,hd,?_⟩;rw[show i=x.length by omega]at hv;exact hv) ⟨0,_,rfl,by omega,by simp,I6,by unfold Hold val;rw[D2 (g:=fun _=>0) fun i _=>Hk _ i,Kx];simp[vl]⟩ (by dsimp only;omega)
 rw[e];simp only[Ac];rw[EP h2 (by omega),show val b32 o=_ from h3];rfl
theorem qz3d{n:Nat}(h:n<18446744073709551616):IntKind.wrap .u64 (n:Int)=n:=by unfold IntKind.wrap;simp[IntKind.signed,IntKind.bits];omega
theorem QG{hi lo:Nat}(h1:hi<4294967296)(h2:lo<4294967296):bitI .or .u64 (((hi:Int)*4294967296)%18446744073709551616) ((lo:Int)%18446744073709551616)=((hi*4294967296+lo:Nat):Int):=by
 rw[show((hi:Int)*4294967296)%18446744073709551616=((hi*4294967296:Nat):Int) by omega,show(lo:Int)%18446744073709551616=((lo:Nat):Int) by omega]
 have e:hi*4294967296+lo=(hi*4294967296) ||| lo:=by
  have:=Nat.shiftLeft_add_eq_or_of_lt (b:=lo) (i:=32) (by omega) hi
  rwa [Nat.shiftLeft_eq]at this
 have eb:(BitVec.ofInt 64 ((hi*4294967296:Nat):Int) ||| BitVec.ofInt 64 (lo:Int)).toNat=hi*4294967296+lo:=by rw[BitVec.toNat_or,BitVec.ofInt_natCast,BitVec.ofInt_natCast,BitVec.toNat_ofNat,BitVec.toNat_ofNat,Ee (by omega),Ee (by omega),<-e]
 unfold bitI;show IntKind.wrap .u64 (((BitVec.ofInt 64 ((hi*4294967296:Nat):Int) ||| BitVec.ofInt 64 (lo:Int)).toNat:Nat):Int)=_;rw[eb];exact qz3d (by omega)
theorem qz3p{x:List Int}{d:Nat}(hx:Dg b32 x)(nx:x.length<=1073741824)(iX:0<d)(gG:d<4294967296):SY x (d:Int)=some (dl (val b32 x / d),((val b32 x%d:Nat):Int)):=by
 unfold SY;rw[K3,AB];rw[show Int.toNat (x.length:Int)=x.length by omega]
 obtain⟨⟨r',o⟩,e,h1,h2,r,hr,h3,h4⟩:=CF (s:=(0,(x.length:Int)-1,List.replicate x.length 0)) (body:=kzs (d:Int) x) (fun s=>∃(r k:Nat) (l:List Int),s=((r:Int),(k:Int)-1,l)/\k<=x.length/\r<d/\l.length=x.length/\Dg b32 l/\(∀j,j<k->lf l j=0)/\Hold (val b32 x=d*val b32 l+r*b32.n ^ k+vl b32 (lf x) k)) (fun s=>(s.2.1+1).toNat) (fun s=>s.2.length=x.length/\Dg b32 s.2/\(∃r:Nat,s.1=(r:Int)/\r<d/\Hold (val b32 x=d*val b32 s.2+r))) (by
  rintro s ⟨r,k,l,rfl,hk,hr,hl,hd,hz,hv⟩;simp only[kzs];by_cases h:0<k
  ·left;obtain⟨k,rfl⟩:∃j,k=j+1:=⟨k-1,by omega⟩;have fA:((k+1:Nat):Int)-1=(k:Int):=by omega
   rw[fA];rw[it_d,BU hx (by omega)];have a1:=yz4 hx k;rw[Cu]at a1;simp only[Ac,CN];rw[show(d:Int)%18446744073709551616=(d:Int) by omega];rw[QB,QB,BU hd (by omega),QG (by omega) a1];simp only[Ac,CN];rw[AB];have hq:=HK (r*4294967296+lf x k) d;have hm:=FQ (r*4294967296+lf x k) iX;have pX:(r*4294967296+lf x k) / d<4294967296:=by rw[GM iX];have:(r+1)*4294967296<=d*4294967296:=Bq _ hr;rw[Bi 4294967296 d];omega
   rw[Int.tmod_eq_emod_of_nonneg (by omega),YB (by omega),<-Int.natCast_emod,<-Int.natCast_ediv];generalize hQ:(r*4294967296+lf x k) / d=q at *;generalize hR:(r*4294967296+lf x k)%d=r' at *;rw[show((q:Int)%18446744073709551616)%4294967296=(q:Int) by omega];refine⟨_,rfl,⟨r',k,_,rfl,by omega,hm,by rw[List.length_set];exact hl,M9 hd (by rw[Cu];omega),?_,?_⟩,by dsimp only;omega⟩
   ·intro j hj;rw[I5 (by omega),ifN];exact hz j (by omega)
   ·have aH:=qzwz (b:=b32) (out:=lf l) (x:=lf x) (n:=x.length) (k:=k) (by':=d) (r:=r) (q:=q) (r':=r') (by unfold Hold val at hv;rw[hl]at hv;exact hv) (by omega) (hz k (by omega)) (by rw[Cu,Bi q d];exact hq.symm);unfold Hold;rw[show val b32 x=vl b32 (lf x) x.length from rfl,aH];congr 3;unfold val;rw[H9,hl];refine D2 fun j hj=>?_;rw[I5 (by omega),CN]
  ·right;have fd:k=0:=by omega
   subst fd;rw[it_n];refine⟨_,rfl,hl,hd,r,rfl,hr,?_⟩;unfold Hold at *
   rw[hv];simp[vl]) ⟨0,x.length,_,rfl,AC _,iX,by simp,I6,fun j _=>Hk _ j,by
    unfold Hold;have:val b32 (List.replicate x.length 0)=0:=by unfold val;rw[D2 (g:=fun _=>0) fun i _=>Hk _ i,Kx]
    rw[this];simp[val]⟩ (by dsimp only;omega)
 dsimp only at hr h1 h2 h4;subst hr;rw[e];simp only[Ac];rw[EP h2 (by omega)];simp only[Ac];unfold Hold at h4;have fF:val b32 x / d=val b32 o:=by rw[h4,NX iX,J7 h3];rfl
 have jH:val b32 x%d=r:=by rw[h4,On,Ee h3]
 rw[fF,jH];congr 2;omega
theorem Wm{v d:Nat}(hv:ln v<=1073741824)(iX:0<d)(gG:d<4294967296):SY (dl v) (d:Int)=some (dl (v / d),((v%d:Nat):Int)):=by rw[qz3p (C7 v) (by rw[Dc];exact hv) iX gG,Ey]
theorem QH{d:Nat}(h0:0<d)(h1:d<4294967296):dl d=[(d:Int)]:=by
 have hd:Dg b32 [(d:Int)]:=F8 (by rw[Cu];omega);have e:=Wi hd (Or.inr (by simp[lf];omega));have hv:val b32 [(d:Int)]=d:=by simp[val,vl,lf]
 rw[hv]at e;exact e.symm
theorem QI{u v:Nat}(hu:ln u<=1073741824)(hv:ln v<=1073741824):PW (dl u) (dl v)=some (dl (u*v)):=by rw[qz3j (C7 u) (C7 v) (by rw[Dc];exact hu) (by rw[Dc];exact hv),Ey,Ey]
theorem wzdx{u v:Nat}(hu:ln u<=1073741824)(hv:ln v<=1073741824):V4 (dl u) (dl v)=some (dl (u+v)):=by rw[wzea (C7 u) (C7 v) (by rw[Dc];omega) (by rw[Dc];omega),Ey,Ey]
theorem QJ{u v:Nat}(hu:ln u<=1073741824)(h:v<=u):PX (dl u) (dl v)=some (dl (u-v)):=by rw[qz26 (C7 u) (C7 v) (by rw[Dc];omega) (by rw[Ey,Ey];exact h),Ey,Ey]
theorem QK{v b:Nat}(hv:ln v<=1073741824)(hb:b<=31):Ob (dl v) (b:Int)=some (dl (v*2 ^ b)):=by
 unfold Ob;have p1:2 ^ b<=2 ^ 31:=Dj (by decide) hb;have p2:0<2 ^ b:=Nat.pow_pos (by decide);have e:(1*2 ^ min (Int.toNat (b:Int)) 32)%4294967296=((2 ^ b:Nat):Int):=by rw[show min (Int.toNat (b:Int)) 32=b by omega,Int.one_mul,Int.natCast_pow];have p3:((2:Nat):Int) ^ b=((2 ^ b:Nat):Int):=(Int.natCast_pow 2 b).symm;simp only[Int.cast_ofNat_Int]at p3 |-;rw[p3];omega
 rw[it_n,ck_d,e,<-QH p2 (by omega),QI hv (Bt (Hl (n:=1) (by rw[Nat.pow_one,Cu];omega)) (by omega))];rfl
theorem qzu5{v b:Nat}(hv:ln v<=1073741824)(hb:b<=31):Ob (dl v) (-(b:Int))=some (dl (v / 2 ^ b)):=by
 by_cases h0:b=0
 ·subst h0;have:=QK (v:=v) (b:=0) hv (by omega);simp only[Int.natCast_zero,Nat.pow_zero,Nat.mul_one]at this;simp[this]
 unfold Ob;have p1:2 ^ b<=2 ^ 31:=Dj (by decide) hb;have p2:0<2 ^ b:=Nat.pow_pos (by decide);have e:(1*2 ^ min (Int.toNat (- -(b:Int))) 32)%4294967296=((2 ^ b:Nat):Int):=by rw[show min (Int.toNat (- -(b:Int))) 32=b by omega,Int.one_mul,Int.natCast_pow];have p3:((2:Nat):Int) ^ b=((2 ^ b:Nat):Int):=(Int.natCast_pow 2 b).symm;simp only[Int.cast_ofNat_Int]at p3 |-;rw[p3];omega
 rw[it_d,AB,ck_d,e,Wm hv p2 (by omega)];rfl
theorem Wn(x:Int):F5 x=some false:=by unfold F5;simp
theorem Wo(x:Int):Kl x=some false:=by unfold Kl;simp
def cmpI(x y:Int):Int:=if x<y then -1 else if y<x then 1 else 0
theorem wzez(x y:Int):EG x y=some (cmpI x y):=by
 unfold EG cmpI;rw[Wn,Wn];simp only[Ac,AV];split
 ·rename_i h;rw[it_d h]
 ·rename_i h;rw[it_n h];split
  ·rename_i h;rw[it_d h]
  ·rename_i h;rw[it_n h]
theorem wzdl(x y:Int):Mh x y=some (cmpI x y):=by
 unfold Mh cmpI;rw[Wo,Wo];simp only[Ac,AV];split
 ·rename_i h;rw[it_d h]
 ·rename_i h;rw[it_n h];split
  ·rename_i h;rw[it_d h]
  ·rename_i h;rw[it_n h]
theorem ME{u v:Nat}(hu:ln u<=1073741824)(hv:ln v<=1073741824):Qd (dl u) (dl v)=some (cmpI u v):=by
 unfold Qd;rw[wzez,Dc,Dc];simp only[Ac];rcases Nat.lt_trichotomy (ln u) (ln v) with h|h|h
 ·have hlt:u<v:=by
   rcases BL u v with h'|h'
   ·exact h'
   ·have:=EO h';omega
  rw[show cmpI (ln u:Int) (ln v:Int) = -1 by unfold cmpI;rw[ifP],AY,show cmpI (u:Int) (v:Int) = -1 by unfold cmpI;rw[ifP]]
 ·rw[show cmpI (ln u:Int) (ln v:Int)=0 by unfold cmpI;rw[ifN,ifN],AK rfl,AB]
  obtain⟨o,e,ho⟩:=CF (s:=(ln u:Int)-1) (body:=jz2 (dl u) (dl v)) (fun s=>∃k:Nat,s=(k:Int)-1/\k<=ln u/\∀j,k<=j->j<ln u->dg b32 u j=dg b32 v j) (fun s=>(s+1).toNat) (fun o=>o=if u=v then .inl () else .inr (cmpI u v)) (by
   rintro s ⟨k,rfl,hk,hj⟩;simp only[jz2];by_cases h0:0<k
   ·obtain⟨k,rfl⟩:∃j,k=j+1:=⟨k-1,by omega⟩;have fA:((k+1:Nat):Int)-1=(k:Int):=(by omega);rw[fA,it_d,BU (C7 u) (by rw[Dc];omega),BU (C7 v) (by rw[Dc];omega)];simp only[Ac,CN];rw[wzdl,F9,F9];simp only[Ac];have nh:vl b32 (dg b32 u) (ln u)=u:=Ix u;have cg:vl b32 (dg b32 v) (ln u)=v:=(by rw[h];exact Ix v);rcases Nat.lt_trichotomy (dg b32 u k) (dg b32 v k) with h1|h1|h1
    ·right;have hlt:=Q3 (b:=b32) (f:=dg b32 u) (g:=dg b32 v) (fun i _=>EH u i) h1 (n:=ln u) (by omega) (fun i hi gF=>hj i (by omega) gF);rw[nh,cg]at hlt;rw[show cmpI (dg b32 u k:Int) (dg b32 v k:Int) = -1 by unfold cmpI;rw[ifP],AY];refine⟨_,rfl,?_⟩;rw[ifN,show cmpI (u:Int) (v:Int) = -1 by unfold cmpI;rw[ifP]]
    ·left;rw[show cmpI (dg b32 u k:Int) (dg b32 v k:Int)=0 by unfold cmpI;rw[ifN,ifN],AK rfl,AB];refine⟨_,rfl,⟨k,rfl,by omega,fun j h2 h3=>?_⟩,by omega⟩;rcases BL k j with h4|h4
     ·exact hj j (by omega) h3
     ·rw[show j=k by omega];exact h1
    ·right;have hlt:=Q3 (b:=b32) (f:=dg b32 v) (g:=dg b32 u) (fun i _=>EH v i) h1 (n:=ln u) (by omega) (fun i hi gF=>(hj i (by omega) gF).symm);rw[nh,cg]at hlt;rw[show cmpI (dg b32 u k:Int) (dg b32 v k:Int)=1 by unfold cmpI;rw[ifN,ifP],AY];refine⟨_,rfl,?_⟩;rw[ifN,show cmpI (u:Int) (v:Int)=1 by unfold cmpI;rw[ifN,ifP]]
   ·right;rw[it_n];refine⟨_,rfl,?_⟩;have jI:u=v:=by rw[<-Ix u,<-Ix v,<-h];exact D2 fun i hi=>hj i (by omega) hi
    rw[An jI]) ⟨ln u,rfl,AC _,fun j h1 h2=>by omega⟩ (by show((ln u:Int)-1+1).toNat<_;omega)
  rw[e,ho];by_cases jI:u=v
  ·subst jI;rw[An rfl,show cmpI (u:Int) (u:Int)=0 by unfold cmpI;rw[ifN,ifN]];rfl
  ·rw[Aj jI];rfl
 ·have hlt:v<u:=by
   rcases BL v u with h'|h'
   ·exact h'
   ·have:=EO h';omega
  rw[show cmpI (ln u:Int) (ln v:Int)=1 by unfold cmpI;rw[ifN,ifP],AY,show cmpI (u:Int) (v:Int)=1 by unfold cmpI;rw[ifN,ifP]]
theorem wzgz{v:Nat}(hv:ln v<=1073741824)(h0:v≠0):∃b:Nat,lp (YE (dl v)) 0=some (b:Int)/\b<=31/\2147483648<=dg b32 v (ln v-1)*2 ^ b/\dg b32 v (ln v-1)*2 ^ b<4294967296:=by
 have hp:=MB h0;have ht:dg b32 v (ln v-1)≠0:=(wzdw v).resolve_left (by omega);have ni:=EH (b:=b32) v (ln v-1);rw[Cu]at ni
 obtain⟨o,e,b,rfl,h1,h2,h3⟩:=CF (s:=(0:Int)) (body:=YE (dl v)) (fun s=>∃b:Nat,s=(b:Int)/\b<=31/\dg b32 v (ln v-1)*2 ^ b<4294967296) (fun s=>32-s.toNat) (fun o=>∃b:Nat,o=(b:Int)/\b<=31/\2147483648<=dg b32 v (ln v-1)*2 ^ b/\dg b32 v (ln v-1)*2 ^ b<4294967296) (by
  rintro s ⟨b,rfl,hb,hlt⟩;simp only[YE,Dc];rw[AB,BU (C7 v) (by rw[Dc];omega)];simp only[Ac];rw[ck_d,show Int.toNat ((ln v:Int)-1)=ln v-1 by omega,F9,show min (Int.toNat (b:Int)) 32=b by omega];have e1:(dg b32 v (ln v-1):Int)*2 ^ b=((dg b32 v (ln v-1)*2 ^ b:Nat):Int):=by have p3:((2:Nat):Int) ^ b=((2 ^ b:Nat):Int):=(Int.natCast_pow 2 b).symm;simp only[Int.cast_ofNat_Int]at p3;rw[p3,<-NV]
  rw[e1];generalize hT:dg b32 v (ln v-1)*2 ^ b=T at *;by_cases h:T<2147483648
  ·left;rw[it_d,AB]
   have oM:b<31:=by
    rcases BL b 31 with h'|h'
    ·exact h'
    ·have h6:1*2 ^ 31<=dg b32 v (ln v-1)*2 ^ b:=Nat.mul_le_mul (by omega) (Dj (by decide) h');omega
   refine⟨_,rfl,⟨b+1,by omega,by omega,?_⟩,by omega⟩;rw[E8,<-Ft,hT];omega
  ·right;rw[it_n];exact⟨_,rfl,b,rfl,hb,by omega,by omega⟩) ⟨0,rfl,by omega,by simpa using ni⟩ (by show 32-(0:Int).toNat<_;omega)
 exact⟨b,e,h1,h2,h3⟩
theorem wzgu{j n d g left t0:Nat}{l r:List Int}(hl:Dg b32 l)(hr:Dg b32 r)(hn:r.length=n)(h2:2<=n)(hj:j+n<=l.length)(hL:l.length<=4294967296)(key:∀g left:Nat,left+g*lf r (n-1)=t0->left*b32.n+lf l (j+n-2)<g*lf r (n-2)->d<g) (hd:d<=g) (hg:g<4294967296) (gH:left+g*lf r (n-1)=t0) (nj:left<18446744073709551616) : ∃g':Nat,lp (YF (j:Int) l r) ((g:Int),(left:Int))=some (g':Int)/\d<=g'/\g'<=g:=by
 obtain⟨o,e,g',rfl,h3,h4⟩:=CF (s:=((g:Int),(left:Int))) (body:=YF (j:Int) l r) (fun s=>∃g2 left:Nat,s=((g2:Int),(left:Int))/\d<=g2/\g2<=g/\Hold (left+g2*lf r (n-1)=t0)/\left<18446744073709551616) (fun s=>s.1.toNat) (fun o=>∃g':Nat,o=(g':Int)/\d<=g'/\g'<=g) (by
  clear hd gH nj;rintro s ⟨g2,left,rfl,hd,iY,hv,hb⟩;have lk:g2<4294967296:=by omega
  simp only[YF];have a1:=yz4 hr (n-1);have a2:=yz4 hr (n-2);have a3:=yz4 hl (j+n-2);rw[Cu]at a1 a2 a3;have key':=key g2 left hv;clear key;rw[hn];rw[ck_o (fun _=>by simp only[Ay,BA];omega)];by_cases h:left<4294967296
  ·have dR:decide ((left:Int)<4294967296)=true:=B9 (by omega);rw[dR];simp only[AN,Dn,Bool.false_or,CC];rw[BU hr (by omega)];simp only[Ac];rw[ck_t (by simp only[Ay,BA];omega),ck_t (by simp only[Ay,BA];omega),BU hl (by omega)];simp only[Ac];rw[show Int.toNat ((n:Int)-2)=n-2 by omega,show Int.toNat ((j:Int)+n-2)=j+n-2 by omega];rw[QG h a3];obtain⟨m1,m2⟩:=Wl lk a2;rw[show((g2:Int)*((lf r (n-2):Int)%18446744073709551616))%18446744073709551616=((g2*lf r (n-2):Nat):Int) by rw[show(lf r (n-2):Int)%18446744073709551616=lf r (n-2) by omega];rw[show(g2:Int)%18446744073709551616=g2 by omega]at m1;exact m1];rw[Cu]at key';generalize g2*lf r (n-2)=q at *;by_cases hc:left*4294967296+lf l (j+n-2)<q
   ·left;have mg:=key' hc;rw[it_d,AB,BU hr (by omega),show Int.toNat ((n:Int)-1)=n-1 by omega];simp only[Ac];refine⟨_,rfl,⟨g2-1,left+lf r (n-1),?_,by omega,by omega,?_,by omega⟩,by dsimp only;omega⟩
    ·refine Prod.ext ?_ ?_;·dsimp only;omega
     ·dsimp only;omega
    ·unfold Hold at hv |-;obtain⟨k,rfl⟩:∃k,g2=k+1:=⟨g2-1,by omega⟩;rw[<-hv,Nat.add_sub_cancel,Ba];omega
   ·right;rw[it_n];exact⟨_,rfl,g2,rfl,hd,iY⟩
  ·have dR:decide ((left:Int)<4294967296)=false:=Bj (by omega);rw[dR];simp only[AJ,Ac,DF,Bool.true_or,Cf,Gl,AV];right;exact⟨_,rfl,g2,rfl,hd,iY⟩) ⟨g,left,rfl,hd,AC _,gH,nj⟩ (by show(g:Int).toNat<_;omega)
 exact⟨g',e,h3,h4⟩
theorem wzey{l:List Int}{lo hi i:Nat}(h:i<hi-lo):lf (sub l (lo:Int) (hi:Int)) i=lf l (lo+i):=by unfold lf sub;rw[show Int.toNat (lo:Int)=lo by omega,show Int.toNat ((hi:Int)-lo)=hi-lo by omega,Fo,An h,Ec]
theorem QL{l:List Int}{lo hi:Nat}(h:lo<=hi)(h2:hi<=l.length):(sub l (lo:Int) (hi:Int)).length=hi-lo:=by simp only[sub,Do,CQ];omega
theorem Wp(v j i:Nat):dg b32 v (j+i)=dg b32 (v / b32.n ^ j) i:=by unfold dg;rw[HL,Ti]
theorem wzc5{l:List Int}{R j n:Nat}(hd:∀i,lf l i=dg b32 R i)(hj:j+n<=l.length)(hR:R<b32.n ^ (j+n)):val b32 (sub l (j:Int) ((j+n:Nat):Int))=R / b32.n ^ j:=by unfold val;rw[QL (by omega) hj,show j+n-j=n by omega];rw[D2 (g:=dg b32 (R / b32.n ^ j)) fun i hi=>by rw[wzey (by omega),hd,Wp],Mx];refine Ee ?_;rw[GM (b32.pw j),<-HL,Nat.add_comm n j];exact hR
theorem QM{l:List Int}(h0:0<l.length)(h:l.length<=4294967296):Gb l=some l:=by unfold Gb;exact ck_t (by simp;omega)
theorem wzg1{j n P V g:Nat}{l:List Int}(hl:Dg b32 l)(hn:ln V=n)(hj:j+n+1<=l.length)(hL:l.length<=1073741824)(hP:val b32 (sub l (j:Int) ((j+(n+1):Nat):Int))=P)(hV:0<V)(hd:P / V<=g)(hg:g<4294967296) :
  lp (yzk (j:Int) l (dl V)) ((g:Int),dl (V*g))=some (((P / V:Nat):Int),dl (V*(P / V))):=by
 have aD:(sub l (j:Int) ((j+(n+1):Nat):Int)).length=n+1:=by rw[QL (by omega) (by omega)];omega
 have oO:ln P<=n+1:=by have:=Gm (QD hl (j:Int) ((j+(n+1):Nat):Int));rw[hP,aD]at this;exact Hl this
 refine MF (fun s=>∃g:Nat,s=((g:Int),dl (V*g))/\P / V<=g/\g<4294967296) (fun s=>s.1.toNat) _ ?_ ⟨g,rfl,hd,hg⟩ (by show(g:Int).toNat<_;omega);rintro s ⟨g,rfl,hd,hg⟩;simp only[yzk,Dc,hn];have pY:ln (V*g)<=n+1:=by refine Hl ?_;rw[E8];refine Nat.mul_lt_mul'' ?_ (by rw[Cu];exact hg);rw[<-hn];exact Ew V
 rw[show(j:Int)+n+1=((j+(n+1):Nat):Int) by omega]
 (try rw[EL])
 rw[QM (by omega) (by omega)];simp only[Ac];rw[EP (QD hl _ _) (by omega),hP];simp only[Ac];rw[ME (by omega) (by omega)];simp only[Ac];have f1:P<V*g->P / V<g:=fun h=>by rw[GM hV,Bi];exact h
 have f2:¬P<V*g->g<=P / V:=fun h=>by rw[Om hV,Bi];omega
 generalize P / V=D at *;by_cases h:P<V*g
 ·left;have hlt:=f1 h;have aE:V<=V*g:=Nat.le_mul_of_pos_right V (by omega);rw[it_d (by unfold cmpI;rw[ifP];omega),QJ (by omega) aE];simp only[Ac];refine⟨_,rfl,⟨g-1,?_,by omega,by omega⟩,by dsimp only;omega⟩;refine Prod.ext ?_ ?_
  ·dsimp only;omega
  ·dsimp only;congr 1;obtain⟨k,rfl⟩:∃k,g=k+1:=⟨g-1,by omega⟩;rw[Nat.add_sub_cancel,Nat.mul_add];omega
 ·right;have heq:D=g:=Nat.le_antisymm hd (f2 h);rw[it_n (by unfold cmpI;rw[ifN];split<;>omega),heq]
theorem QN{l:List Int}(hl:Dg b32 l)(i:Nat):lf l i=dg b32 (val b32 l) i:=by
 by_cases h:i<l.length
 ·exact(Q4 (fun i _=>yz4 hl i) i h).symm
 ·rw[I4 (by omega),Q5];exact Fs (Gm hl) (Dj b32.pos (by omega))
theorem qz3v(R j:Nat):R=R%b32.n ^ j+b32.n ^ j*(R / b32.n ^ j):=(Nat.mod_add_div R (b32.n ^ j)).symm
theorem wzdg{l d:List Int}{j n:Nat}(hl:Dg b32 l)(hd:Dg b32 d)(km:d.length<=n)(hj:j+n<=l.length)(hz:val b32 l<b32.n ^ (j+n)) :
  Dg b32 (BS (BS l j (List.replicate n 0)) j (List.take n d))/\(BS (BS l j (List.replicate n 0)) j (List.take n d)).length=l.length/\val b32 (BS (BS l j (List.replicate n 0)) j (List.take n d))=val b32 d*b32.n ^ j+val b32 l%b32.n ^ j:=by
 rw[J6 km];have e1:(BS l j (List.replicate n 0)).length=l.length:=K6 (by simp;omega);have e2:(BS (BS l j (List.replicate n 0)) j d).length=l.length:=by rw[K6 (by rw[e1];omega),e1]
 have dp:∀(l new:List Int) (i:Nat),Dg b32 l->Dg b32 new->Dg b32 (BS l i new):=fun l new i h1 h2=>EN (EN (fun x hx=>h1 x (List.mem_of_mem_take hx)) h2) (fun x hx=>h1 x (NW hx));have hD:Dg b32 (BS (BS l j (List.replicate n 0)) j d):=dp _ _ _ (dp _ _ _ hl I6) hd;refine⟨hD,e2,?_⟩;have lo:∀i,i<j->lf (BS (BS l j (List.replicate n 0)) j d) i=lf l i:=by intro i hi;unfold lf BS;rw[List.append_assoc,Fm (by simp;omega),Fo,An hi,List.append_assoc,Fm (by simp;omega),Fo,An hi]
 have aZ:∀i,lf (BS (BS l j (List.replicate n 0)) j d) (j+i)=lf d i:=by
  intro i;have iF:∀k,j+n<=k->lf l k=0:=fun k hk=>by rw[QN hl,Q5];exact Fs hz (Dj b32.pos hk)
  have g1:∀(l new:List Int) (c8:j<=l.length),lf (BS l j new) (j+i)=if i<new.length then lf new i else lf l (j+i):=by
   intro l new c8;unfold lf BS;have hlt:(l.take j).length=j:=by rw[Do];omega
   rw[List.append_assoc,GB (by rw[hlt];omega),hlt,show j+i-j=i by omega];split
   ·rename_i h;rw[Fm h]
   ·rename_i h;rw[GB (by omega),Ec,show j+new.length+(i-new.length)=j+i by omega]
  rw[g1 _ _ (by rw[e1];omega)];split
  ·rfl
  ·rename_i h;rw[g1 _ _ (by omega),I4 (l:=d) (by omega)];split
   ·exact Hk _ _
   ·rename_i h2;simp only[Tf]at h2;exact iF _ (by omega)
 unfold val;obtain⟨m,hm⟩:∃m,l.length=j+m:=⟨l.length-j,by omega⟩;have bw:vl b32 (lf l) j=val b32 l%b32.n ^ j:=by rw[<-Mx];exact D2 fun i _=>QN hl i
 rw[e2,hm,Kw,D2 lo,D2 (n:=m) (fun i _=>aZ i),D5 (by omega:d.length<=m),bw,Bi (b32.n ^ j),Nat.add_comm,<-hm];rfl
theorem Wq{R j n:Nat}(h:R<b32.n ^ (j+n+1))(h2:1<=n):R / b32.n ^ j / b32.n ^ (n-1)=dg b32 R (j+n)*b32.n+dg b32 R (j+n-1):=by
 obtain⟨m,rfl⟩:∃m,n=m+1:=⟨n-1,by omega⟩;rw[Nat.add_sub_cancel,Ti,<-HL,show j+(m+1)-1=j+m by omega];unfold dg;rw[show j+(m+1)=(j+m)+1 by omega]at h |-;generalize j+m=k at *;have e:R / b32.n ^ (k+1)=R / b32.n ^ k / b32.n:=by rw[E8,Ti]
 have hlt:R / b32.n ^ k / b32.n<b32.n:=by rw[<-e,GM (b32.pw _),<-Nat.pow_succ',];exact h
 rw[e,Ee hlt];have:=HK (R / b32.n ^ k) b32.n;rw[Bi]at this;exact this.symm
theorem K7(P n:Nat):P=P / b32.n ^ n*b32.n ^ n+P%b32.n ^ n:=by have:=HK P (b32.n ^ n);rw[Bi]at this;exact this.symm
theorem wzfz{V n j R:Nat}{l q:List Int}(hl:Dg b32 l)(hq:Dg b32 q)(hV:ln V=n)(h2:2<=n)(iU:2147483648<=dg b32 V (n-1))(hR:val b32 l=R)(nk:R<V*b32.n ^ (j+1))(hj:j+n+1<=l.length)(hL:l.length<=1073741824)(oP:R / b32.n ^ j / b32.n ^ (n-1)≠0->j<q.length) (oQ:lf q j=0) (hQ:q.length<=1073741824) {X:Nat} (hX:X=V*val b32 q+R) : ∃l' q',SZ (dl V) ((j:Int),l,q)=some (.inl ((j:Int)-1,l',q'))/\Dg b32 l'/\Dg b32 q'/\l'.length=l.length/\q'.length=q.length/\X=V*val b32 q'+val b32 l'/\val b32 l'<V*b32.n ^ j/\(∀i,i≠j->lf q' i=lf q i):=by
 have kx:V<b32.n ^ n:=by rw[<-hV];exact Ew V
 have jJ:0<V:=by
  rcases Fq V with h|h
  ·rw[h]at hV;rw[MA]at hV;omega
  ·exact h
 have mh:R<b32.n ^ (j+n+1):=by rw[show j+n+1=n+(j+1) by omega,HL];exact Fs nk (Bq _ (GN kx))
 have ie:∀i,lf l i=dg b32 R i:=fun i=>by rw[QN hl,hR]
 have gl:=Wq mh (by omega:1<=n);have nl:=qz3v R j;have jK:R / b32.n ^ j<V*b32.n:=by rw[GM (b32.pw j),Ft,<-Nat.pow_succ'];exact nk
 have jL:R%b32.n ^ j<b32.n ^ j:=FQ _ (b32.pw j);have dA:=wzc5 (l:=l) (R:=R) (j:=j) (n:=n+1) ie (by omega) (by rw[show j+(n+1)=j+n+1 by omega];exact mh);generalize hP:R / b32.n ^ j=P at *;have pZ:P / V<4294967296:=by rw[GM jJ,Bi];exact jK
 have jM:P / V*V<=P:=Nat.div_mul_le_self P V
 have jN:P<(P / V+1)*V:=by
  have:=Nat.lt_mul_div_succ P jJ
  rwa [Bi]at this
 have oR:V=dg b32 V (n-1)*b32.n ^ (n-1)+V%b32.n ^ (n-1):=by
  have e:V / b32.n ^ (n-1)=dg b32 V (n-1):=by unfold dg;rw[Ee];rw[GM (b32.pw _),<-Nat.pow_succ',Nat.succ_eq_add_one,show n-1+1=n by omega];exact kx
  have:=K7 V (n-1);rw[e]at this;exact this
 have mi:V=(dg b32 V (n-1)*b32.n+dg b32 V (n-2))*b32.n ^ (n-2)+V%b32.n ^ (n-2):=by have e:=Wq (R:=V) (j:=0) (n:=n-1) (by rw[show 0+(n-1)+1=n by omega];exact kx) (by omega);rw[Nat.pow_zero,Nat.div_one,show n-1-1=n-2 by omega,show 0+(n-1)=n-1 by omega,show n-1-1=n-2 by omega]at e;have:=K7 V (n-2);rw[e]at this;exact this
 have nm:=K7 P (n-1);rw[gl]at nm
 have mj:P=((dg b32 R (j+n)*b32.n+dg b32 R (j+n-1))*b32.n+dg b32 R (j+n-2))*b32.n ^ (n-2)+P%b32.n ^ (n-2):=by
  have e2:P / b32.n ^ (n-2)=(dg b32 R (j+n)*b32.n+dg b32 R (j+n-1))*b32.n+dg b32 R (j+n-2):=by
   rw[<-gl];have a:P / b32.n ^ (n-1)=P / b32.n ^ (n-2) / b32.n:=by rw[show n-1=n-2+1 by omega,E8,Ti]
   have c:dg b32 R (j+n-2)=P / b32.n ^ (n-2)%b32.n:=by rw[show j+n-2=j+(n-2) by omega,Wp,hP];rfl
   rw[a,c];have:=HK (P / b32.n ^ (n-2)) b32.n;rw[Bi]at this;exact this.symm
  have:=K7 P (n-2);rw[e2]at this;exact this
 have fF:=EH (b:=b32) V (n-1);have jH:=EH (b:=b32) V (n-2);have gm:=EH (b:=b32) R (j+n);have np:=EH (b:=b32) R (j+n-1);have c6:=EH (b:=b32) R (j+n-2)
 have hgt:P / V<=(dg b32 R (j+n)*b32.n+dg b32 R (j+n-1)) / dg b32 V (n-1) :=
  qzzg oR nm (FQ _ (b32.pw _)) jM (by omega)
 have key:∀g left:Nat,left+g*dg b32 V (n-1)=dg b32 R (j+n)*b32.n+dg b32 R (j+n-1)->left*b32.n+dg b32 R (j+n-2)<g*dg b32 V (n-2)->P / V<g:=fun g left hl hb =>
  qzuy (b:=b32) (v:=V) (v1:=dg b32 V (n-1)) (v2:=dg b32 V (n-2)) (part:=P) mi mj (FQ _ (b32.pw _)) jM hl hb
 simp only[SZ,Dc,hV];rw[it_d,AB,BU hl (by omega)];simp only[Ac];rw[AB,AB,BU hl (by omega)];simp only[Ac];rw[AB,BU (C7 V) (by rw[Dc];omega)];simp only[Ac];rw[show Int.toNat ((j:Int)+n)=j+n by omega,show Int.toNat ((j:Int)+n-1)=j+n-1 by omega,show Int.toNat ((n:Int)-1)=n-1 by omega,F9,ie,ie];rw[Cu]at fF jH gm np c6;rw[show(dg b32 V (n-1):Int)%18446744073709551616=(dg b32 V (n-1):Int) by omega];rw[QB,AB];rw[show(dg b32 R (j+n):Int)%18446744073709551616=(dg b32 R (j+n):Int) by omega];rw[QG gm np];rw[Cu]at gl hgt key;generalize hT:dg b32 R (j+n)*4294967296+dg b32 R (j+n-1)=T at *;have oS:T<18446744073709551616:=by omega
 generalize jO:dg b32 V (n-1)=v1 at *;have gI:T / v1*v1<=T:=Nat.div_mul_le_self T v1;have ml:min ((((T:Nat):Int).tdiv (v1:Int))%18446744073709551616) 4294967295=((min (T / v1) 4294967295:Nat):Int):=by rw[YB (by omega),<-Int.natCast_ediv];have:T / v1<=T:=Nat.div_le_self _ _;generalize T / v1=w at *;omega
 rw[ml];have qa:T / v1<=T:=Nat.div_le_self _ _;generalize T / v1=w at *;generalize iZ:min w 4294967295=g0 at *;have mn:g0<4294967296:=by omega
 have mo:P / V<=g0:=by omega
 have oT:g0*v1<=T:=Bt (Bq _ (by omega)) gI;have mq:(((T:Nat):Int)-((g0:Int)*(v1:Int))%18446744073709551616)%18446744073709551616=((T-g0*v1:Nat):Int):=by rw[<-NV];generalize g0*v1=z at *;omega
 rw[mq];obtain⟨g,eg,mg,qb⟩:=wzgu (j:=j) (n:=n) (d:=P / V) (g:=g0) (left:=T-g0*v1) (t0:=T) (l:=l) (r:=dl V) hl (C7 V) (by rw[Dc];exact hV) h2 (by omega) (by omega) (by intro g left h1 h3;rw[F9,jO]at h1;rw[F9,ie,Cu]at h3;exact key g left h1 h3) mo mn (by rw[F9,jO];omega) (by omega);rw[eg];simp only[Ac];by_cases h0:g=0
 ·subst h0;have oU:P<V:=by rw[Nat.eq_zero_of_le_zero mg]at jN;omega
  rw[it_d];simp only[Ac];rw[AB];refine⟨l,q,rfl,hl,hq,rfl,rfl,by rw[hR];exact hX,?_,fun i _=>rfl⟩;rw[hR,nl];have h5:(P+1)*b32.n ^ j<=V*b32.n ^ j:=Bq _ oU;rw[Ba,Bi P]at h5;omega
 ·have oV:T≠0:=by
   intro h;omega
  have fI:=oP (by rw[Cu,gl];exact oV);rw[it_n];simp only[Ac];have mr:g<4294967296:=by omega
  have dV:(j:Int)+n+1=((j+(n+1):Nat):Int):=by omega
  rw[AB,AB,dV,EL];rw[show(g:Int)%4294967296=(g:Int) by omega,<-QH (by omega:0<g) mr,QI (by omega) (Bt (Hl (n:=1) (by rw[Nat.pow_one,Cu];exact mr)) (by omega))];simp only[Ac];rw[wzg1 (j:=j) (n:=n) (P:=P) (V:=V) (g:=g) hl hV (by omega) hL dA jJ mg mr];simp only[Ac];have oO:ln P<=n+1:=by refine Hl ?_;rw[E8];exact Nat.lt_trans jK (Nat.mul_lt_mul_of_pos_right kx b32.pos)
  have nq:(sub l (j:Int) ((j+(n+1):Nat):Int)).length=n+1:=by rw[QL (by omega) (by omega)];omega
  rw[QM (by omega) (by omega)];simp only[Ac];rw[EP (QD hl _ _) (by omega),dA];simp only[Ac];have oW:V*(P / V)<=P:=by rw[Bi];exact jM
  rw[QJ (by omega) oW];simp only[Ac]
  have hD:P-V*(P / V)<V:=by
   have:(P / V+1)*V=V*(P / V)+V:=by rw[Ba,Bi,Nat.one_mul]
   omega
  have oX:(dl (P-V*(P / V))).length<=n+1:=by rw[Dc];have:=EO (GN hD);omega
  have hw:Int.toNat (((j+(n+1):Nat):Int)-(j:Int))=n+1:=by omega
  rw[hw];obtain⟨p1,p2,p3⟩:=wzdg (l:=l) (d:=dl (P-V*(P / V))) (j:=j) (n:=n+1) hl (C7 _) oX (by omega) (by rw[hR,show j+(n+1)=j+n+1 by omega];exact mh);have cf:(BS l j (List.replicate (n+1) 0)).length=l.length:=K6 (by simp;omega);rw[show Int.toNat (j:Int)=j by omega,EL]
  (try rw[EL])
  (try rw[EL (by rw[cf];omega)])
  rw[BU hq (by omega)];simp only[Ac];rw[AB];rw[Ey,hR]at p3;have mu:((P / V:Nat):Int)%4294967296=((P / V:Nat):Int):=by generalize P / V=z at *;omega
  rw[mu];refine⟨_,_,rfl,p1,M9 hq (by rw[Cu];generalize P / V=z at *;omega),p2,by rw[H9],?_,?_,?_⟩
  ·rw[p3];have aH:=wzc0 (b:=b32) (q:=lf q) (Q:=q.length) (j:=j) (d:=P / V) (v:=V) (part:=P) (rest:=R) (R:=R%b32.n ^ j) (rest':=(P-P / V*V)*b32.n ^ j+R%b32.n ^ j) (X:=X) hX fI oQ (by rw[Bi P];rw[Nat.add_comm];exact nl) rfl jM;rw[aH,Bi V (P / V)];congr 2;unfold val;rw[H9];refine D2 fun i hi=>?_;rw[I5 fI,CN]
  ·rw[p3];have:=wzcw (b:=b32) (v:=V) (part:=P) (d:=P / V) (j:=j) (R:=R%b32.n ^ j) jN jM jL
   rwa [Bi (P / V) V]at this
  ·intro i hi;rw[I5 fI,Aj hi]
theorem qz28{l:List Int}{n:Nat}(h:∀i,i<n->lf l i=0):vl b32 (lf l) n=0:=by rw[D2 (g:=fun _=>0) h,Kx]
theorem wzda(n:Nat):val b32 (List.replicate n 0)=0:=qz28 fun i _=>Hk n i
theorem wzc7{V n X Q k0:Nat}{l0:List Int}(gA:Dg b32 l0)(hX:val b32 l0=X)(hV:ln V=n)(h2:2<=n)(iU:2147483648<=dg b32 V (n-1))(aD:l0.length=k0+n)(nt:X<b32.n ^ (k0+n-2))(fd:2<=k0)(hL:l0.length<=1073741824)(hQ:k0-1<=Q)(qc:Q<=1073741824) : ∃l q,lp (SZ (dl V)) ((k0:Int)-1,l0,List.replicate Q 0)=some (l,q)/\Dg b32 l/\Dg b32 q/\l.length<=1073741824/\q.length<=1073741824/\X=V*val b32 q+val b32 l/\val b32 l<V:=by
 have jJ:V≠0:=by intro h;rw[h,MA]at hV;omega
 have ix:b32.n ^ (n-1)<=V:=by rw[<-hV];exact Iw jJ
 obtain⟨⟨l,q⟩,e,h⟩:=CF (s:=((k0:Int)-1,l0,List.replicate Q 0)) (body:=SZ (dl V)) (fun s=>∃(k:Nat) (l q:List Int),s=((k:Int)-1,l,q)/\k<=k0/\Dg b32 l/\Dg b32 q/\l.length=l0.length/\q.length=Q/\(∀i,i<k->lf q i=0)/\Hold (X=V*val b32 q+val b32 l)/\Hold (val b32 l<V*b32.n ^ k)) (fun s=>(s.1+1).toNat) (fun o=>Dg b32 o.1/\Dg b32 o.2/\o.1.length<=1073741824/\o.2.length<=1073741824/\X=V*val b32 o.2+val b32 o.1/\val b32 o.1<V) (by
  rintro s ⟨k,l,q,rfl,hk,hl,hq,da,oY,hz,mw,hR⟩;unfold Hold at mw hR;by_cases h:0<k
  ·left;obtain⟨j,rfl⟩:∃j,k=j+1:=⟨k-1,by omega⟩;rw[show((j+1:Nat):Int)-1=(j:Int) by omega]
   obtain⟨l',q',e,p1,p2,p3,p4,p5,p6,p7⟩:=wzfz (V:=V) (n:=n) (j:=j) (l:=l) (q:=q) hl hq hV h2 iU rfl hR (by omega) (by omega) (by
    intro aI;rw[oY];rcases BL j (k0-1) with h'|h'
    ·omega
    ·exfalso;apply aI;have hj:j=k0-1:=by omega
     have aE:val b32 l<=X:=(by omega);rw[Ti,<-HL];refine J7 (SS aE ?_);rw[show j+(n-1)=k0+n-2 by omega];exact nt) (hz j (by omega)) (by omega) mw
   refine⟨_,e,⟨j,l',q',rfl,by omega,p1,p2,by omega,by omega,?_,p5,p6⟩,by dsimp only;omega⟩;intro i hi;rw[p7 i (by omega)];exact hz i (by omega)
  ·right;have mx:k=0:=by omega
   subst mx;refine⟨(l,q),?_,hl,hq,by dsimp only;omega,by dsimp only;omega,mw,by simpa using hR⟩;simp only[SZ];rw[it_n]) ⟨k0,l0,_,rfl,AC _,gA,I6,rfl,by simp,fun i _=>Hk _ i,by unfold Hold;rw[wzda,hX];simp,by unfold Hold;rw[hX];refine Fs nt ?_;refine Bt ?_ (Bq _ ix);rw[<-HL];exact Nat.pow_le_pow_right b32.pos (by omega)⟩ (by dsimp only;omega)
 exact⟨l,q,e,h⟩
theorem wzbm{u v:Nat}(hu:ln u<=536870912)(hv:ln v<=536870912)(h0:v≠0):Oa (dl u) (dl v)=some (dl (u / v),dl (u%v)):=by
 unfold Oa;rw[ME (by omega) (by omega)];simp only[Ac];by_cases h:u<v
 ·rw[it_d (by unfold cmpI;rw[ifP];omega),J7 h,Ee h];rfl
 rw[it_n (by unfold cmpI;rw[ifN];split<;>omega),Dc];by_cases h1:ln v=1
 ·have jP:v<4294967296:=by have:=Ew v;rw[h1,Nat.pow_one,Cu]at this;exact this
  rw[it_d,QH (by omega) jP];rw[show at? [(v:Int)] 0=some (v:Int) from at_e (n:=0) rfl rfl];simp only[Ac];rw[Wm (by omega) (by omega) jP];simp only[Ac];have hr:=FQ u (Jx h0);have ht:HH [((u%v:Nat):Int)]=some (dl (u%v)):=by rw[EP (F8 (by rw[Cu];omega)) (by simp)];rw[show val b32 [((u%v:Nat):Int)]=u%v by generalize u%v=z;simp[val,vl,lf]]
  rw[ht];rfl
 rw[it_n];have ji:=MB h0;obtain⟨b,eb,hb,dr,dq⟩:=wzgz (v:=v) (by omega) h0;rw[eb];simp only[Ac];rw[QK (by omega) hb,QK (by omega) hb];simp only[Ac];have hp:0<2 ^ b:=Nat.pow_pos (by decide);have nu:2 ^ b<4294967296:=by have:2 ^ b<=2 ^ 31:=Dj (by decide) hb;omega
 have oZ:v=dg b32 v (ln v-1)*b32.n ^ (ln v-1)+v%b32.n ^ (ln v-1):=by
  have e:v / b32.n ^ (ln v-1)=dg b32 v (ln v-1):=by unfold dg;rw[Ee];rw[GM (b32.pw _),<-Nat.pow_succ',Nat.succ_eq_add_one,show ln v-1+1=ln v by omega];exact Ew v
  have:=K7 v (ln v-1);rw[e]at this;exact this
 have bw:=FQ v (b32.pw (ln v-1));have nv:v*2 ^ b=dg b32 v (ln v-1)*2 ^ b*b32.n ^ (ln v-1)+v%b32.n ^ (ln v-1)*2 ^ b:=by have:=Eg (fun z=>z*2 ^ b) oZ;simp only[Ba]at this;rw[this];congr 1;rw[Ft,Bi (b32.n ^ (ln v-1)),<-Ft]
 have jQ:v*2 ^ b<b32.n ^ ln v:=by
  have ht:dg b32 v (ln v-1)*2 ^ b+2 ^ b<=b32.n:=by
   have pb:dg b32 v (ln v-1)*2 ^ b+2 ^ b=(dg b32 v (ln v-1)+1)*2 ^ b:=by rw[Ba,Nat.one_mul]
   have nw:b32.n=2 ^ (32-b)*2 ^ b:=by rw[<-HL,show 32-b+b=32 by omega];rfl
   rw[pb,nw];refine Bq _ ?_;have:dg b32 v (ln v-1)*2 ^ b<2 ^ (32-b)*2 ^ b:=by rw[<-nw,Cu];exact dq
   exact Nat.lt_of_mul_lt_mul_right this
  have h5:(v%b32.n ^ (ln v-1)+1)*2 ^ b<=b32.n ^ (ln v-1)*2 ^ b:=Bq _ bw;have h6:(dg b32 v (ln v-1)*2 ^ b+2 ^ b)*b32.n ^ (ln v-1)<=b32.n*b32.n ^ (ln v-1):=Bq _ ht;rw[<-Nat.pow_succ',Nat.succ_eq_add_one,show ln v-1+1=ln v by omega,Ba]at h6;rw[Ba,Nat.one_mul,Bi (b32.n ^ (ln v-1))]at h5;rw[nv];omega
 have ix:b32.n ^ (ln v-1)<=v*2 ^ b:=Bt (Iw h0) (Nat.le_mul_of_pos_right _ hp);have iy:ln (v*2 ^ b)=ln v:=(VM jQ (Or.inr ix)).symm
 have jR:dg b32 (v*2 ^ b) (ln v-1)=dg b32 v (ln v-1)*2 ^ b+v%b32.n ^ (ln v-1)*2 ^ b / b32.n ^ (ln v-1):=by
  unfold dg;rw[Ee]
  ·have:=nv;unfold dg at this;rw[this];rw[Bi _ (b32.n ^ (ln v-1)),NX (b32.pw _)]
  ·rw[GM (b32.pw _),<-Nat.pow_succ',Nat.succ_eq_add_one,show ln v-1+1=ln v by omega];exact jQ
 have iU:2147483648<=dg b32 (v*2 ^ b) (ln v-1):=by rw[jR];exact Bt dr (Nat.le_add_right _ _)
 have lh:u≠0:=by omega
 have pc:u*2 ^ b≠0:=Nat.mul_ne_zero lh (by omega);have nz:ln (u*2 ^ b)<=ln u+1:=by refine Hl ?_;rw[E8];exact Nat.mul_lt_mul'' (Ew u) (by rw[Cu];exact nu)
 have qd:=MB pc;have qe:ln v<=ln (u*2 ^ b):=by rw[<-iy];exact EO (Bq _ (by omega))
 have jI:ln v<=ln u:=EO (by omega);rw[QM (by rw[Dc];omega) (by rw[Dc];omega)];simp only[Ac];have iw:(dl (u*2 ^ b)++[0,0]).length=ln (u*2 ^ b)+2:=by simp[Dc]
 rw[iw,show(dl (v*2 ^ b)).length=ln v by rw[Dc,iy],Dc u];rw[ck_d,AB,AB,K3,AB,AB];have pe:Dg b32 (dl (u*2 ^ b)++[0,0]):=EN (C7 _) (I6 (n:=2))
 have gj:val b32 (dl (u*2 ^ b)++[0,0])=u*2 ^ b:=by
  have e1:dl (u*2 ^ b)++[0,0]=(dl (u*2 ^ b)++[0])++[0]:=by simp
  rw[e1,K5,K5,Ey];simp
 obtain⟨l,q,e,g1,g2,g3,g4,g5,g6⟩:=wzc7 (V:=v*2 ^ b) (n:=ln v) (X:=u*2 ^ b) (Q:=ln u-ln v+2) (k0:=ln (u*2 ^ b)+2-ln v) pe gj iy (by omega) iU (by rw[iw];omega) (by rw[show ln (u*2 ^ b)+2-ln v+ln v-2=ln (u*2 ^ b) by omega];exact Ew _) (by omega) (by rw[iw];omega) (by omega) (by omega);rw[show((ln (u*2 ^ b)+2:Nat):Int)-(ln v:Int)-1=((ln (u*2 ^ b)+2-ln v:Nat):Int)-1 by omega,show Int.toNat ((ln u:Int)-(ln v:Int)+2)=ln u-ln v+2 by omega,e];simp only[Ac];rw[EP g2 (by omega),EP g1 (by omega)];simp only[Ac];rw[AB];have jS:0<v*2 ^ b:=Nat.mul_pos (by omega) hp
 have hq:val b32 q=u / v:=by
  have e1:u*2 ^ b / (v*2 ^ b)=val b32 q:=by rw[g5,NX jS,J7 g6];rfl
  rw[Nat.mul_div_mul_right _ _ hp]at e1;exact e1.symm
 have hr:val b32 l=u%v*2 ^ b:=by
  have e1:u*2 ^ b%(v*2 ^ b)=val b32 l:=by rw[g5,On,Ee g6]
  rw[Nat.mul_mod_mul_right]at e1;exact e1.symm
 rw[qzu5 (by rw[hr,<-hr];exact Bt (EO (GN g6)) (by omega)) hb];rw[hq,hr,Nat.mul_div_cancel _ hp];rfl
end Go.Am

