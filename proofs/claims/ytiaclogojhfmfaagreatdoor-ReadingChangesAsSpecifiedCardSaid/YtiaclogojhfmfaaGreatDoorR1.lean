/- Part R1: the functions of numbers as functions of core numbers. No condition. -/
import Derived.Test.YtiaclogojhfmfaaGreatDoorN1
import Derived.Test.YtiaclogojhfmfaaGreatDoorF1
set_option linter.unusedSimpArgs false
set_option linter.unusedVariables false
namespace Go.Am
section
variable {α U:Type}
theorem Ac(a:α)(k:α->Option U):bd (some a) k=k a:=id rfl
theorem ck_t{c:Bool}{x:Option α}(h:c=true):ck c x=x:=by subst h;rfl
theorem ck_d{p:Prop}[Decidable p]{x:Option α}(h:p:=by omega):ck (decide p) x=x:=ck_t (BF h)
theorem QQ{p:Prop}[Decidable p]{x:Option α}(h:¬p:=by omega):ck (!decide p) x=x:=ck_t (by simp[h])
theorem A7{n:Int}{x:Option α}(h:-9223372036854775808<=n/\n<=9223372036854775807:=by omega):ck (Ax .i64 n) x=x:=ck_t (by simp[Ax,h])
theorem KJ{n:Int}{b:Nat}{x:Option α}(h:0<=n/\n*b<=140737488355328:=by omega):ck (mkOk n b) x=x:=ck_t (by simp[mkOk,h])
theorem EJ{l:List U}{lo hi:Int}{x:Option α}(h:0<=lo/\lo<=hi/\hi<=l.length:=by omega):ck (Dm l lo hi) x=x:=ck_t (by simp[Dm,h])
theorem wzwr{l:List UInt8}{j:Int}{x:Option α}(h:0<=j/\j<l.length:=by omega):ck (C5 l j) x=x:=ck_t (by simp[C5,h])
theorem ck_o{p:Prop}[Decidable p]{c:Bool}{x:Option α}(h:p->c=true):ck (!decide p||c) x=x:=ck_t (by by_cases hp:p<;>simp[hp,h])
theorem it_t{c:Bool}{x y:Option α}(h:c=true):ite' c x y=x:=by subst h;rfl
theorem it_f{c:Bool}{x y:Option α}(h:c=false):ite' c x y=y:=by subst h;rfl
theorem it_d{p:Prop}[Decidable p]{x y:Option α}(h:p:=by omega):ite' (decide p) x y=x:=it_t (BF h)
theorem it_n{p:Prop}[Decidable p]{x y:Option α}(h:¬p:=by omega):ite' (decide p) x y=y:=it_f (By h)
theorem AH{p:Prop}[Decidable p]{x y:Option α}(h:p:=by omega):ite' (!decide p) x y=y:=it_f (by simp[h])
theorem AR{p:Prop}[Decidable p]{x y:Option α}(h:¬p:=by omega):ite' (!decide p) x y=x:=it_t (by simp[h])
theorem ifP{c:Prop}{d:Decidable c}{x y:α}(h:c:=by omega):@ite α c d x y=x:=An h
theorem ifN{c:Prop}{d:Decidable c}{x y:α}(h:¬c:=by omega):@ite α c d x y=y:=Ak h
theorem AN[Inhabited α]{x:Option α}:gd true x=x:=id rfl
theorem AI[Inhabited α]{x:Option α}:gd false x=some default:=id rfl
theorem BS{x y:Option α}:ite' true x y=x:=id rfl
theorem AV{x y:Option α}:ite' false x y=y:=id rfl
theorem FC{x:Option α}:ck true x=x:=id rfl
theorem at_e{l:List α}{j:Int}{n:Nat}{x:α}(hj:j=n)(h:l[n]?=some x):at? l j=some x:=by subst hj;unfold at?;rw[BF (by omega:(0:Int)<=n)];exact h
end
theorem QR{ι O ω:Type}{body:O->Option (O⊕ω)}(f:ι->O)(I:ι->Prop)(Z:ι->Nat)(R:ω->Prop)(step:∀i,I i->(∃i',body (f i)=some (.inl (f i'))/\I i'/\Z i'<Z i)\/(∃o,body (f i)=some (.inr o)/\R o)) {s:O} (i:ι) (hs:s=f i) (h:I i) (hb:Z i<4611686018427387904):∃o,lp body s=some o/\R o:=by
 subst hs
 have key:∀(n:Nat) (i:ι),I i->Z i<n->∃o,lpN body n (f i)=some o/\R o:=by
  intro n;induction n with
  |zero=>intro i _ h;omega
  |succ n ih =>
   intro i hs hn;rcases step i hs with ⟨s',e,bj,hm⟩|⟨o,e,ho⟩
   ·obtain⟨o,e2,ho⟩:=ih s' bj (by omega);exact⟨o,by unfold lpN;rw[e];exact e2,ho⟩
   ·exact⟨o,by unfold lpN;rw[e],ho⟩
 rw[Kp];exact key _ i h hb
def lf(l:List Int)(i:Nat):Nat:=(l[i]?.getD 0).toNat
def Dg(b:Base)(l:List Int):Prop:=∀x,x∈l->0<=x/\x<b.n
theorem yz4{b:Base}{l:List Int}(h:Dg b l)(i:Nat):lf l i<b.n:=by
 unfold lf;cases hx:l[i]? with
 |none=>exact b.pos
 |some x =>have:=h x (CB hx);simp only[Lw];omega
theorem ID{l:List Int}{i:Nat}(h:l.length<=i):lf l i=0:=by unfold lf;rw[JG h];rfl
theorem FD{l m:List Int}{i:Nat}(h:i<l.length):lf (l++m) i=lf l i:=by unfold lf;rw[Fj h]
theorem qzxd{l m:List Int}{i:Nat}(h:l.length<=i):lf (l++m) i=lf m (i-l.length):=by unfold lf;rw[GB h]
theorem EK{l:List Int}{x:Int}:lf (l++[x]) l.length=x.toNat:=by rw[qzxd (AC _)];simp[lf]
theorem IE{l:List Int}{k i:Nat}{x:Int}(hk:k<l.length):lf (l.set k x) i=if i=k then x.toNat else lf l i:=by
 unfold lf;rw[J7];by_cases h:k=i
 ·subst h;simp[hk]
 ·rw[Ak h,Ak (by omega)]
theorem Hh(n i:Nat):lf (List.replicate n 0) i=0:=by unfold lf;rw[O3];split<;>rfl
theorem EL{b:Base}{l m:List Int}(h:Dg b l)(h':Dg b m):Dg b (l++m):=fun x hx=>(Bh.1 hx).elim (h x) (h' x)
theorem FE{b:Base}{x:Int}(h:0<=x/\x<b.n):Dg b [x]:=fun y hy=>by rw[Bi.1 hy];exact h
theorem KK{b:Base}:Dg b []:=fun _ h=>by cases h
theorem MR{b:Base}{l:List Int}{k:Nat}{x:Int}(h:Dg b l)(hx:0<=x/\x<b.n):Dg b (l.set k x):=fun y hy=>(List.mem_or_eq_of_mem_set hy).elim (h y) fun e=>e▸hx
theorem IF{b:Base}{n:Nat}:Dg b (List.replicate n 0):=fun x hx=>by rw[List.eq_of_mem_replicate hx];have:=b.pos;omega
theorem QS{b:Base}{l:List Int}(h:Dg b l)(lo hi:Int):Dg b (sub l lo hi):=fun x hx=>h x (Oq (List.mem_of_mem_take hx))
theorem BT{b:Base}{l:List Int}(h:Dg b l){j:Int}(hj:0<=j/\j<l.length):at? l j=some (lf l j.toNat:Int):=by
 have hn:j.toNat<l.length:=by omega
 refine at_e (n:=j.toNat) (by omega) ?_;have hd:=h _ (BH hn);unfold lf;rw[AD hn];simp only[Lw];congr 1;omega
def val(b:Base)(l:List Int):Nat:=vl b (lf l) l.length
theorem KL{b:Base}{l:List Int}{x:Int}:val b (l++[x])=val b l+x.toNat*b.n ^ l.length:=by unfold val;rw[Ch,DE];simp only[EG];rw[EK];congr 1;exact D2 fun i hi=>FD hi
theorem Gm{b:Base}{l:List Int}(h:Dg b l):val b l<b.n ^ l.length:=Gk fun i _=>yz4 h i
theorem D5{b:Base}{l:List Int}{n:Nat}(h:l.length<=n):vl b (lf l) n=val b l:=Wg (fun i hi=>ID hi) h
theorem qz3e{l m:List Int}{b:Base}(hl:Dg b l)(hm:Dg b m)(hn:l.length=m.length)(h:∀i,i<l.length->lf l i=lf m i):l=m:=by refine List.ext_getElem hn fun i h1 h2=>?_;have e:=h i h1;have d1:=hl _ (BH h1);have d2:=hm _ (BH h2);unfold lf at e;rw[AD h1,AD h2]at e;simp only[Lw]at e;omega
def dl(v:Nat):List Int:=(List.range (ln v)).map fun i=>(dg b32 v i:Int)
theorem Db(v:Nat):(dl v).length=ln v:=by simp[dl]
theorem C7(v:Nat):Dg b32 (dl v):=fun x hx=>by obtain⟨i,_,rfl⟩:=L7.1 hx;have:=EF (b:=b32) v i;omega
theorem W3{v i:Nat}(h:i<ln v):lf (dl v) i=dg b32 v i:=by simp[lf,dl,h]
theorem FF(v i:Nat):lf (dl v) i=dg b32 v i:=by
 by_cases h:i<ln v
 ·exact W3 h
 ·rw[ID (by rw[Db];omega),QK];exact Ft (Eu v) (Di b32.pos (by omega))
theorem Ew(v:Nat):val b32 (dl v)=v:=by unfold val;rw[Db,D2 fun i hi=>W3 hi,I8]
theorem MS:ln 0=0:=rfl
theorem wzd2:dl 0=[]:=rfl
theorem MT{v:Nat}(h:v≠0):0<ln v:=by unfold ln;rw[Ak h];omega
theorem W4{l:List Int}(h:Dg b32 l)(hn:Norm (lf l) l.length):l=dl (val b32 l):=by have e:l.length=ln (val b32 l):=wzcv (fun i _=>yz4 h i) hn;refine qz3e h (C7 _) (by rw[Db];exact e) fun i hi=>?_;rw[FF];exact(QJ (fun i _=>yz4 h i) i hi).symm
theorem EM{u v:Nat}(h:u<=v):ln u<=ln v:=by
 by_cases hu:u=0
 ·subst hu;simp[MS]
 ·rcases BU (ln v) (ln u) with h1|h1;·have h2:=I7 hu;have h3:=Eu v;have h4:b32.n ^ ln v<=b32.n ^ (ln u-1):=Di b32.pos (by omega);omega
  ·exact h1
theorem Hj{v n:Nat}(h:v<b32.n ^ n):ln v<=n:=by
 by_cases hv:v=0
 ·subst hv;simp[MS]
 ·rcases BU n (ln v) with h1|h1;·have h2:=I7 hv;have h4:b32.n ^ n<=b32.n ^ (ln v-1):=Di b32.pos (by omega);omega
  ·exact h1
def bl(v:Nat):Nat:=(bs v).length
theorem Hk(v:Nat):v<256 ^ bl v:=by have:=Da (bs v);rwa [AY]at this
theorem MU{v n:Nat}(h:v<256 ^ n):bl v<=n:=Wr h
theorem FG{u v:Nat}(h:u<=v):bl u<=bl v:=MU (Th h (Hk v))
theorem W5(u v:Nat):bl (u*v)<=bl u+bl v:=MU (by rw[HI];exact Nat.mul_lt_mul'' (Hk u) (Hk v))
theorem QT(u v:Nat):bl (u+v)<=max (bl u) (bl v)+1:=by have h1:256 ^ bl u<=256 ^ max (bl u) (bl v):=Di (by decide) (by omega);have h2:256 ^ bl v<=256 ^ max (bl u) (bl v):=Di (by decide) (by omega);have h3:=Hk u;have h4:=Hk v;exact MU (by rw[E5];omega)
theorem Hl(s:List UInt8):bl (sv s)<=s.length:=MU (Da s)
theorem QU(v:Nat):ln v<=bl v:=Hj (Ft (Hk v) (Nat.pow_le_pow_left (by decide) _))
theorem EN{l:List Int}(h:Dg b32 l)(hn:l.length<=4294967296):HF l=some (dl (val b32 l)):=by
 unfold HF
 obtain⟨o,e,ho⟩:=Cl (body:=vzd) (fun x:List Int=>Dg b32 x/\val b32 x=val b32 l/\x.length<=4294967296) (fun x=>x.length) (fun o=>o=dl (val b32 l)) (by
  rintro x ⟨hx,hv,hm⟩;simp only[vzd];rcases List.eq_nil_or_concat x with rfl|⟨y,t,rfl⟩
  ·right;refine⟨[],by simp[ck,gd,bd,ite'],?_⟩;rw[<-hv];rfl
  ·have ht:0<=t/\t<b32.n:=hx t (by simp);have bO:at? (y++[t]) (((y++[t]).length:Int)-1)=some t:=at_e (n:=y.length) (by simp) (by simp);simp only[List.concat_eq_append]at hx hv hm |-;rw[ck_o (fun _=>by simp only[Ax,Bp];simp only[Ch,DE]at hm |-;omega)];rw[bO,BF (by simp only[Ch,DE];omega:(0:Int)<((y++[t]).length:Int))];simp only[AN,Ac,BV];by_cases h0:t=0
   ·left;subst h0;rw[it_d rfl,A7 (by simp only[Ch,DE]at hm |-;omega),EJ (by simp;omega)];have hs:sub (y++[(0:Int)]) 0 (((y++[(0:Int)]).length:Int)-1)=y:=by simp[sub]
    rw[hs];refine⟨y,rfl,⟨fun z hz=>hx z (by simp[hz]),?_,by simp at hm;omega⟩,by simp⟩;rw[<-hv,KL];simp
   ·right;rw[it_n h0];refine⟨_,rfl,?_⟩;rw[<-hv];refine W4 hx (Or.inr ?_);rw[Ch,DE,Nat.add_sub_cancel,EK];omega) ⟨h,rfl,hn⟩ (by show l.length<_;omega)
 rw[e,ho];rfl
theorem MV{l:List Int}(h:Dg b32 l){k:Int}(hk:0<=k):PZ l k=some (lf l k.toNat:Int):=by
 unfold PZ;by_cases h1:k<(l.length:Int)
 ·rw[it_d h1,BT h ⟨hk,h1⟩];have:=yz4 h k.toNat;rw[Cx]at this;simp only[Ac];congr 1;omega
 ·rw[it_n h1,ID (by omega)];rfl
theorem wzea{x y:List Int}(hx:Dg b32 x)(hy:Dg b32 y)(nx:x.length<=2147483648)(ny:y.length<=2147483648):VI x y=some (dl (val b32 x+val b32 y)):=by
 unfold VI;rw[A7]
 obtain⟨o,e,h1,h2,h3⟩:=Cl (s:=(0,0,[])) (body:=vze x y) (fun s=>∃(c k:Nat) (l:List Int),s=((c:Int),(k:Int),l)/\k<=max x.length y.length+1/\c<=1/\l.length=k/\Dg b32 l/\vl b32 (lf l) k+c*b32.n ^ k=vl b32 (lf x) k+vl b32 (lf y) k) (fun s=>max x.length y.length+1-s.2.1.toNat) (fun l=>l.length=max x.length y.length+1/\Dg b32 l/\val b32 l=val b32 x+val b32 y) (by
  rintro s ⟨c,k,l,rfl,hk,hc,hl,hd,hv⟩;simp only[vze];by_cases h:k<max x.length y.length+1
  ·left;rw[it_d,MV hx (by omega),MV hy (by omega)];have a1:=yz4 hx k;have a2:=yz4 hy k;rw[Cx]at a1 a2;simp only[Ac,CN];rw[ck_d (by simp only[Ch,DE];omega),A7];have es:(((lf x k:Int)+(lf y k:Int))%18446744073709551616+(c:Int))%18446744073709551616=((lf x k+lf y k+c:Nat):Int):=by omega
   rw[es];have q1:Int.fdiv ((lf x k+lf y k+c:Nat):Int) 4294967296=((lf x k+lf y k+c) / 4294967296:Nat):=by rw[Lr _ (by omega)];omega
   rw[q1];refine⟨_,rfl,⟨_,k+1,_,rfl,by omega,by omega,by simp[hl],EL hd (FE ?_),?_⟩,by simp;omega⟩
   ·rw[Cx];omega
   ·refine Wj (b:=b32) (s:=lf x k+lf y k+c) ?_ rfl ?_;·rw[<-hv];congr 1;exact D2 fun i hi=>FD (by omega)
    ·rw[<-hl,EK,Cx];omega
  ·right;rw[it_n];refine⟨_,rfl,by omega,hd,?_⟩;have dm:k=max x.length y.length+1:=by omega
   have v1:vl b32 (lf x) k=val b32 x:=D5 (by omega);have v2:vl b32 (lf y) k=val b32 y:=D5 (by omega);rw[v1,v2]at hv;have b1:=Gm hx;have b2:=Gm hy;have p1:b32.n ^ x.length<=b32.n ^ max x.length y.length:=Di b32.pos (by omega);have p2:b32.n ^ y.length<=b32.n ^ max x.length y.length:=Di b32.pos (by omega);have p3:b32.n ^ k=b32.n ^ max x.length y.length*4294967296:=by rw[dm,E5];rfl
   have c8:c=0:=by
    rcases Fs c with h0|h0
    ·exact h0
    ·have h1:c=1:=(by omega);rw[h1]at hv;omega
   rw[c8]at hv;unfold val at hv |-;rw[hl];omega) ⟨0,0,[],rfl,by omega,by omega,rfl,KK,by simp[vl]⟩ (by dsimp only;omega)
 rw[e];simp only[Ac];rw[EN h2 (by omega),h3];rfl
theorem qz26{x y:List Int}(hx:Dg b32 x)(hy:Dg b32 y)(nx:x.length<=4294967296)(h:val b32 y<=val b32 x):Qo x y=some (dl (val b32 x-val b32 y)):=by
 unfold Qo
 obtain⟨o,e,h1,h2,h3⟩:=Cl (s:=(0,0,[])) (body:=kzo x y) (fun s=>∃(w k:Nat) (l:List Int),s=((w:Int),(k:Int),l)/\k<=x.length/\w<=1/\l.length=k/\Dg b32 l/\vl b32 (lf l) k+vl b32 (lf y) k=vl b32 (lf x) k+w*b32.n ^ k) (fun s=>x.length-s.2.1.toNat) (fun l=>l.length=x.length/\Dg b32 l/\val b32 l=val b32 x-val b32 y) (by
  rintro s ⟨w,k,l,rfl,hk,hw,hl,hd,hv⟩;simp only[kzo];by_cases h:k<x.length
  ·left;rw[it_d,BT hx (by omega),MV hy (by omega)];have a1:=yz4 hx k;have a2:=yz4 hy k;rw[Cx]at a1 a2;simp only[Ac,CN];rw[ck_d (by simp only[Ch,DE];omega),A7];by_cases hb:lf y k+w<=lf x k
   ·have es:((((lf x k:Int)%18446744073709551616-(lf y k:Int))%18446744073709551616-(w:Int))%18446744073709551616)=((lf x k-lf y k-w:Nat):Int):=(by omega);rw[es];have q1:Int.fdiv ((lf x k-lf y k-w:Nat):Int) 9223372036854775808=((0:Nat):Int):=by rw[Lr _ (by omega)];omega
    rw[q1];refine⟨_,rfl,⟨_,k+1,_,rfl,by omega,by omega,by simp[hl],EL hd (FE ?_),?_⟩,by simp;omega⟩
    ·rw[Cx];omega
    ·refine MG (b:=b32) (w:=w) ?_ ?_;·rw[<-hv];congr 1;exact D2 fun i hi=>FD (by omega)
     ·rw[<-hl,EK,hl,Cx];omega
   ·have es:((((lf x k:Int)%18446744073709551616-(lf y k:Int))%18446744073709551616-(w:Int))%18446744073709551616)=((18446744073709551616+lf x k-lf y k-w:Nat):Int):=(by omega);rw[es];have q1:Int.fdiv ((18446744073709551616+lf x k-lf y k-w:Nat):Int) 9223372036854775808=((1:Nat):Int):=by rw[Lr _ (by omega)];omega
    rw[q1];refine⟨_,rfl,⟨_,k+1,_,rfl,by omega,by omega,by simp[hl],EL hd (FE ?_),?_⟩,by simp;omega⟩
    ·rw[Cx];omega
    ·refine MG (b:=b32) (w:=w) ?_ ?_;·rw[<-hv];congr 1;exact D2 fun i hi=>FD (by omega)
     ·rw[<-hl,EK,hl,Cx];omega
  ·right;rw[it_n];refine⟨_,rfl,by omega,hd,?_⟩;have dm:k=x.length:=by omega
   have v1:vl b32 (lf x) k=val b32 x:=by rw[dm];rfl
   have v3:vl b32 (lf l) k=val b32 l:=by rw[<-hl];rfl
   have v4:vl b32 (lf y) k<=val b32 y:=by
    rcases Nat.le_total k y.length with h'|h'
    ·exact QH h'
    ·rw[D5 h'];exact AC _
   have hlt:=Gm hd;rw[v1,v3]at hv;rw[hl]at hlt;by_cases mc:y.length<=k
   ·rw[D5 mc]at hv
    have iR:w=0:=by
     rcases Fs w with h0|h0
     ·exact h0
     ·have h1:w=1:=(by omega);rw[h1]at hv;omega
    rw[iR]at hv;omega
   ·-- the digits of y above are 0,for y is not greater than x
    have fY:=Gm hx;rw[<-dm]at fY;have da:val b32 y=vl b32 (lf y) k+b32.n ^ k*vl b32 (fun i=>lf y (k+i)) (y.length-k):=by have:=KD (b:=b32) (lf y) k (y.length-k);rw[show k+(y.length-k)=y.length by omega]at this;exact this
    have hz:vl b32 (fun i=>lf y (k+i)) (y.length-k)=0:=by
     rcases Fs (vl b32 (fun i=>lf y (k+i)) (y.length-k)) with h0 | h0
     ·exact h0
     ·have:b32.n ^ k*1<=b32.n ^ k*vl b32 (fun i=>lf y (k+i)) (y.length-k):=Ti _ h0;omega
    rw[hz]at da
    have iR:w=0:=by
     rcases Fs w with h0|h0
     ·exact h0
     ·have h1:w=1:=(by omega);rw[h1]at hv;omega
    rw[iR]at hv;omega) ⟨0,0,[],rfl,by omega,by omega,rfl,KK,by simp[vl]⟩ (by dsimp only;omega)
 rw[e];simp only[Ac];rw[EN h2 (by omega),h3];rfl
theorem W6{a b:Nat}(ha:a<4294967296)(hb:b<4294967296):((a:Int)%18446744073709551616*(b:Int))%18446744073709551616=((a*b:Nat):Int)/\a*b<=18446744065119617025:=by
 have h0:a*b<=4294967295*b:=Bo b (by omega);have h1:a*b<=18446744065119617025:=by omega
 refine⟨?_,h1⟩;rw[show(a:Int)%18446744073709551616=a by omega,<-Oo];exact Int.emod_eq_of_lt (by omega) (by omega)
def Hold(p:Prop):Prop:=p
theorem qz3g{x y l:List Int}{i:Nat}(hx:Dg b32 x)(hy:Dg b32 y)(nx:x.length<=1073741824)(ny:y.length<=1073741824)(h:i<x.length)(hl:l.length=x.length+y.length+1)(hd:Dg b32 l)(hv:Hold (val b32 l=vl b32 (lf x) i*val b32 y)) : ∃m,lp (Zd (i:Int) (lf x i:Int) y) (0,0,l)=some m/\m.length=x.length+y.length+1/\Dg b32 m/\Hold (val b32 m=vl b32 (lf x) (i+1)*val b32 y):=by
 have a1:=yz4 hx i;rw[Cx]at a1
 exact Cl (s:=(0,0,l)) (body:=Zd (i:Int) (lf x i:Int) y) (fun s=>∃(c k:Nat) (m:List Int),s=((c:Int),(k:Int),m)/\k<=y.length+1/\c<4294967296/\m.length=x.length+y.length+1/\Dg b32 m/\Hold (val b32 m+c*b32.n ^ (i+k)=vl b32 (lf x) i*val b32 y+lf x i*vl b32 (lf y) k*b32.n ^ i)) (fun s=>y.length+1-s.2.1.toNat) (fun m=>m.length=x.length+y.length+1/\Dg b32 m/\Hold (val b32 m=vl b32 (lf x) (i+1)*val b32 y)) (by
  rintro s ⟨c,k,m,rfl,hk,hc,hm,eQ,fH⟩;simp only[Zd]
  have oL:0<c->k<=y.length:=by
   intro c8;rcases BU y.length k with h'|h'
   ·have e1:vl b32 (lf y) k=val b32 y:=D5 (by omega);rw[e1]at fH;exact Wm (b:=b32) (out:=lf m) (x:=lf x) (y:=lf y) (N:=m.length) (m:=y.length) (a:=lf x i) (fun j _=>yz4 hy j) (by rw[Cx];exact a1) (Gk fun j _=>yz4 hx j) fH c8
   ·exact h'
  by_cases fU:k<y.length\/0<c
  ·left;have dz:k<=y.length:=fU.elim (by omega) oL;have jB:i+k<m.length:=by omega
   have a2:=yz4 hy k;have a3:=yz4 eQ (i+k);rw[Cx]at a2 a3;obtain⟨p1,p2⟩:=W6 a1 a2;rw[it_t (by rcases fU with h'|h'<;>simp[h']),MV hy (by omega)];simp only[Ac,CN];rw[A7,BT eQ (by omega),show Int.toNat ((i:Int)+k)=i+k by omega];simp only[Ac];rw[A7,A7];rw[p1];generalize hp:lf x i*lf y k=p at *;have es:(((p:Int)+(lf m (i+k):Int)%18446744073709551616)%18446744073709551616+(c:Int))%18446744073709551616=((p+lf m (i+k)+c:Nat):Int):=by omega
   rw[es];have q1:Int.fdiv ((p+lf m (i+k)+c:Nat):Int) 4294967296=((p+lf m (i+k)+c) / 4294967296:Nat):=by rw[Lr _ (by omega)];omega
   have q2:((p+lf m (i+k)+c:Nat):Int)%4294967296=((p+lf m (i+k)+c)%4294967296:Nat):=by omega
   rw[q1,q2];refine⟨_,rfl,⟨_,k+1,_,rfl,by omega,by omega,by simp[hm],MR eQ (by rw[Cx];omega),?_⟩,by dsimp only;omega⟩;have aH:=Wl (b:=b32) (out:=lf m) (y:=lf y) (N:=m.length) (i:=i) (k:=k) (a:=lf x i) (c:=c) (s:=p+lf m (i+k)+c) fH jB (by rw[<-hp]);rw[<-aH];congr 1;unfold val;rw[H6];refine D2 fun j hj=>?_;rw[IE jB,CN,Cx]
  ·right;have dr:y.length<=k:=by omega
   have dK:c=0:=by omega
   rw[it_f (by simp;omega)];refine⟨_,rfl,hm,eQ,?_⟩;unfold Hold at fH |-;rw[D5 dr,dK]at fH;rw[EG,Ba];have:lf x i*b32.n ^ i*val b32 y=lf x i*val b32 y*b32.n ^ i:=by simp only[Bj,Lv,Fu]
   omega) ⟨0,0,l,rfl,by omega,by omega,hl,hd,by unfold Hold at hv |-;rw[hv];simp[vl]⟩ (by dsimp only;omega)
theorem qz3j{x y:List Int}(hx:Dg b32 x)(hy:Dg b32 y)(nx:x.length<=1073741824)(ny:y.length<=1073741824):Qn x y=some (dl (val b32 x*val b32 y)):=by
 unfold Qn;rw[A7,A7,KJ];rw[show Int.toNat ((x.length:Int)+y.length+1)=x.length+y.length+1 by omega]
 obtain⟨o,e,h1,h2,h3⟩:=Cl (s:=(0,List.replicate (x.length+y.length+1) 0)) (body:=kzu x y) (fun s=>∃(i:Nat) (l:List Int),s=((i:Int),l)/\i<=x.length/\l.length=x.length+y.length+1/\Dg b32 l/\Hold (val b32 l=vl b32 (lf x) i*val b32 y)) (fun s=>x.length-s.1.toNat) (fun l=>l.length=x.length+y.length+1/\Dg b32 l/\Hold (val b32 l=val b32 x*val b32 y)) (by
  rintro s ⟨i,l,rfl,hi,hl,hd,hv⟩;simp only[kzu];by_cases h:i<x.length
  ·left;rw[it_d,BT hx (by omega)];simp only[Ac,CN];obtain⟨o,e,g1,g2,g3⟩:=qz3g hx hy nx ny h hl hd hv;rw[e];simp only[Ac];rw[A7];exact⟨_,rfl,⟨i+1,o,rfl,by omega,g1,g2,g3⟩,by dsimp only;omega⟩
  ·right;rw[it_n];refine⟨_,rfl,hl,hd,?_⟩;rw[show i=x.length by omega]at hv;exact hv) ⟨0,_,rfl,by omega,by simp,IF,by unfold Hold val;rw[D2 (g:=fun _=>0) fun i _=>Hh _ i,KE];simp[vl]⟩ (by dsimp only;omega)
 rw[e];simp only[Ac];rw[EN h2 (by omega),show val b32 o=_ from h3];rfl
theorem qz3d{n:Nat}(h:n<18446744073709551616):IntKind.wrap .u64 (n:Int)=n:=by unfold IntKind.wrap;simp[IntKind.signed,IntKind.bits];omega
theorem QV{hi lo:Nat}(h1:hi<4294967296)(h2:lo<4294967296):bitI .or .u64 (((hi:Int)*4294967296)%18446744073709551616) ((lo:Int)%18446744073709551616)=((hi*4294967296+lo:Nat):Int):=by
 rw[show((hi:Int)*4294967296)%18446744073709551616=((hi*4294967296:Nat):Int) by omega,show(lo:Int)%18446744073709551616=((lo:Nat):Int) by omega]
 have e:hi*4294967296+lo=(hi*4294967296) ||| lo:=by
  have:=Nat.shiftLeft_add_eq_or_of_lt (b:=lo) (i:=32) (by omega) hi
  rwa [Nat.shiftLeft_eq]at this
 have eb:(BitVec.ofInt 64 ((hi*4294967296:Nat):Int) ||| BitVec.ofInt 64 (lo:Int)).toNat=hi*4294967296+lo:=by rw[BitVec.toNat_or,BitVec.ofInt_natCast,BitVec.ofInt_natCast,BitVec.toNat_ofNat,BitVec.toNat_ofNat,Ed (by omega),Ed (by omega),<-e]
 unfold bitI;show IntKind.wrap .u64 (((BitVec.ofInt 64 ((hi*4294967296:Nat):Int) ||| BitVec.ofInt 64 (lo:Int)).toNat:Nat):Int)=_;rw[eb];exact qz3d (by omega)
theorem qz3p{x:List Int}{d:Nat}(hx:Dg b32 x)(nx:x.length<=1073741824)(iS:0<d)(gC:d<4294967296):Tm x (d:Int)=some (dl (val b32 x / d),((val b32 x%d:Nat):Int)):=by
 unfold Tm;rw[KJ,A7];rw[show Int.toNat (x.length:Int)=x.length by omega]
 obtain⟨⟨r',o⟩,e,h1,h2,r,hr,h3,h4⟩:=Cl (s:=(0,(x.length:Int)-1,List.replicate x.length 0)) (body:=kzs (d:Int) x) (fun s=>∃(r k:Nat) (l:List Int),s=((r:Int),(k:Int)-1,l)/\k<=x.length/\r<d/\l.length=x.length/\Dg b32 l/\(∀j,j<k->lf l j=0)/\Hold (val b32 x=d*val b32 l+r*b32.n ^ k+vl b32 (lf x) k)) (fun s=>(s.2.1+1).toNat) (fun s=>s.2.length=x.length/\Dg b32 s.2/\(∃r:Nat,s.1=(r:Int)/\r<d/\Hold (val b32 x=d*val b32 s.2+r))) (by
  rintro s ⟨r,k,l,rfl,hk,hr,hl,hd,hz,hv⟩;simp only[kzs];by_cases h:0<k
  ·left;obtain⟨k,rfl⟩:∃j,k=j+1:=⟨k-1,by omega⟩;have fA:((k+1:Nat):Int)-1=(k:Int):=by omega
   rw[fA];rw[it_d,BT hx (by omega)];have a1:=yz4 hx k;rw[Cx]at a1;simp only[Ac,CN];rw[show(d:Int)%18446744073709551616=(d:Int) by omega];rw[QQ,QQ,BT hd (by omega),QV (by omega) a1];simp only[Ac,CN];rw[A7];have hq:=HH (r*4294967296+lf x k) d;have hm:=FU (r*4294967296+lf x k) iS;have pQ:(r*4294967296+lf x k) / d<4294967296:=by rw[GM iS];have:(r+1)*4294967296<=d*4294967296:=Bo _ hr;rw[Bj 4294967296 d];omega
   rw[Int.tmod_eq_emod_of_nonneg (by omega),Zb (by omega),<-Int.natCast_emod,<-Int.natCast_ediv];generalize hQ:(r*4294967296+lf x k) / d=q at *;generalize hR:(r*4294967296+lf x k)%d=r' at *;rw[show((q:Int)%18446744073709551616)%4294967296=(q:Int) by omega];refine⟨_,rfl,⟨r',k,_,rfl,by omega,hm,by rw[List.length_set];exact hl,MR hd (by rw[Cx];omega),?_,?_⟩,by dsimp only;omega⟩
   ·intro j hj;rw[IE (by omega),ifN];exact hz j (by omega)
   ·have aH:=qzwz (b:=b32) (out:=lf l) (x:=lf x) (n:=x.length) (k:=k) (by':=d) (r:=r) (q:=q) (r':=r') (by unfold Hold val at hv;rw[hl]at hv;exact hv) (by omega) (hz k (by omega)) (by rw[Cx,Bj q d];exact hq.symm);unfold Hold;rw[show val b32 x=vl b32 (lf x) x.length from rfl,aH];congr 3;unfold val;rw[H6,hl];refine D2 fun j hj=>?_;rw[IE (by omega),CN]
  ·right;have fV:k=0:=by omega
   subst fV;rw[it_n];refine⟨_,rfl,hl,hd,r,rfl,hr,?_⟩;unfold Hold at *
   rw[hv];simp[vl]) ⟨0,x.length,_,rfl,AC _,iS,by simp,IF,fun j _=>Hh _ j,by
    unfold Hold;have:val b32 (List.replicate x.length 0)=0:=by unfold val;rw[D2 (g:=fun _=>0) fun i _=>Hh _ i,KE]
    rw[this];simp[val]⟩ (by dsimp only;omega)
 dsimp only at hr h1 h2 h4;subst hr;rw[e];simp only[Ac];rw[EN h2 (by omega)];simp only[Ac];unfold Hold at h4;have fF:val b32 x / d=val b32 o:=by rw[h4,Ou iS,JJ h3];rfl
 have jC:val b32 x%d=r:=by rw[h4,O6,Ed h3]
 rw[fF,jC];congr 2;omega
theorem W7{v d:Nat}(hv:ln v<=1073741824)(iS:0<d)(gC:d<4294967296):Tm (dl v) (d:Int)=some (dl (v / d),((v%d:Nat):Int)):=by rw[qz3p (C7 v) (by rw[Db];exact hv) iS gC,Ew]
theorem QW{d:Nat}(h0:0<d)(h1:d<4294967296):dl d=[(d:Int)]:=by
 have hd:Dg b32 [(d:Int)]:=FE (by rw[Cx];omega);have e:=W4 hd (Or.inr (by simp[lf];omega));have hv:val b32 [(d:Int)]=d:=by simp[val,vl,lf]
 rw[hv]at e;exact e.symm
theorem QX{u v:Nat}(hu:ln u<=1073741824)(hv:ln v<=1073741824):Qn (dl u) (dl v)=some (dl (u*v)):=by rw[qz3j (C7 u) (C7 v) (by rw[Db];exact hu) (by rw[Db];exact hv),Ew,Ew]
theorem wzdx{u v:Nat}(hu:ln u<=1073741824)(hv:ln v<=1073741824):VI (dl u) (dl v)=some (dl (u+v)):=by rw[wzea (C7 u) (C7 v) (by rw[Db];omega) (by rw[Db];omega),Ew,Ew]
theorem QY{u v:Nat}(hu:ln u<=1073741824)(h:v<=u):Qo (dl u) (dl v)=some (dl (u-v)):=by rw[qz26 (C7 u) (C7 v) (by rw[Db];omega) (by rw[Ew,Ew];exact h),Ew,Ew]
theorem QZ{v b:Nat}(hv:ln v<=1073741824)(hb:b<=31):Ox (dl v) (b:Int)=some (dl (v*2 ^ b)):=by
 unfold Ox;have p1:2 ^ b<=2 ^ 31:=Di (by decide) hb;have p2:0<2 ^ b:=Nat.pow_pos (by decide);have e:(1*2 ^ min (Int.toNat (b:Int)) 32)%4294967296=((2 ^ b:Nat):Int):=by rw[show min (Int.toNat (b:Int)) 32=b by omega,Int.one_mul,Int.natCast_pow];have p3:((2:Nat):Int) ^ b=((2 ^ b:Nat):Int):=(Int.natCast_pow 2 b).symm;simp only[Int.cast_ofNat_Int]at p3 |-;rw[p3];omega
 rw[it_n,ck_d,e,<-QW p2 (by omega),QX hv (Br (Hj (n:=1) (by rw[Nat.pow_one,Cx];omega)) (by omega))];rfl
theorem qzu5{v b:Nat}(hv:ln v<=1073741824)(hb:b<=31):Ox (dl v) (-(b:Int))=some (dl (v / 2 ^ b)):=by
 by_cases h0:b=0
 ·subst h0;have:=QZ (v:=v) (b:=0) hv (by omega);simp only[Int.natCast_zero,Nat.pow_zero,Nat.mul_one]at this;simp[this]
 unfold Ox;have p1:2 ^ b<=2 ^ 31:=Di (by decide) hb;have p2:0<2 ^ b:=Nat.pow_pos (by decide);have e:(1*2 ^ min (Int.toNat (- -(b:Int))) 32)%4294967296=((2 ^ b:Nat):Int):=by rw[show min (Int.toNat (- -(b:Int))) 32=b by omega,Int.one_mul,Int.natCast_pow];have p3:((2:Nat):Int) ^ b=((2 ^ b:Nat):Int):=(Int.natCast_pow 2 b).symm;simp only[Int.cast_ofNat_Int]at p3 |-;rw[p3];omega
 rw[it_d,A7,ck_d,e,W7 hv p2 (by omega)];rfl
theorem W8(x:Int):F7 x=some false:=by unfold F7;simp
theorem W9(x:Int):Kz x=some false:=by unfold Kz;simp
def cmpI(x y:Int):Int:=if x<y then -1 else if y<x then 1 else 0
theorem wzez(x y:Int):ED x y=some (cmpI x y):=by
 unfold ED cmpI;rw[W8,W8];simp only[Ac,AV];split
 ·rename_i h;rw[it_d h]
 ·rename_i h;rw[it_n h];split
  ·rename_i h;rw[it_d h]
  ·rename_i h;rw[it_n h]
theorem wzdl(x y:Int):Mu x y=some (cmpI x y):=by
 unfold Mu cmpI;rw[W9,W9];simp only[Ac,AV];split
 ·rename_i h;rw[it_d h]
 ·rename_i h;rw[it_n h];split
  ·rename_i h;rw[it_d h]
  ·rename_i h;rw[it_n h]
theorem MW{u v:Nat}(hu:ln u<=1073741824)(hv:ln v<=1073741824):Qw (dl u) (dl v)=some (cmpI u v):=by
 unfold Qw;rw[wzez,Db,Db];simp only[Ac];rcases Nat.lt_trichotomy (ln u) (ln v) with h|h|h
 ·have hlt:u<v:=by
   rcases BU u v with h'|h'
   ·exact h'
   ·have:=EM h';omega
  rw[show cmpI (ln u:Int) (ln v:Int) = -1 by unfold cmpI;rw[ifP],AR,show cmpI (u:Int) (v:Int) = -1 by unfold cmpI;rw[ifP]]
 ·rw[show cmpI (ln u:Int) (ln v:Int)=0 by unfold cmpI;rw[ifN,ifN],AH rfl,A7]
  obtain⟨o,e,ho⟩:=Cl (s:=(ln u:Int)-1) (body:=jz2 (dl u) (dl v)) (fun s=>∃k:Nat,s=(k:Int)-1/\k<=ln u/\∀j,k<=j->j<ln u->dg b32 u j=dg b32 v j) (fun s=>(s+1).toNat) (fun o=>o=if u=v then .inl () else .inr (cmpI u v)) (by
   rintro s ⟨k,rfl,hk,hj⟩;simp only[jz2];by_cases h0:0<k
   ·obtain⟨k,rfl⟩:∃j,k=j+1:=⟨k-1,by omega⟩;have fA:((k+1:Nat):Int)-1=(k:Int):=(by omega);rw[fA,it_d,BT (C7 u) (by rw[Db];omega),BT (C7 v) (by rw[Db];omega)];simp only[Ac,CN];rw[wzdl,FF,FF];simp only[Ac];have mX:vl b32 (dg b32 u) (ln u)=u:=I8 u;have co:vl b32 (dg b32 v) (ln u)=v:=(by rw[h];exact I8 v);rcases Nat.lt_trichotomy (dg b32 u k) (dg b32 v k) with h1|h1|h1
    ·right;have hlt:=QI (b:=b32) (f:=dg b32 u) (g:=dg b32 v) (fun i _=>EF u i) h1 (n:=ln u) (by omega) (fun i hi gB=>hj i (by omega) gB);rw[mX,co]at hlt;rw[show cmpI (dg b32 u k:Int) (dg b32 v k:Int) = -1 by unfold cmpI;rw[ifP],AR];refine⟨_,rfl,?_⟩;rw[ifN,show cmpI (u:Int) (v:Int) = -1 by unfold cmpI;rw[ifP]]
    ·left;rw[show cmpI (dg b32 u k:Int) (dg b32 v k:Int)=0 by unfold cmpI;rw[ifN,ifN],AH rfl,A7];refine⟨_,rfl,⟨k,rfl,by omega,fun j h2 h3=>?_⟩,by omega⟩;rcases BU k j with h4|h4
     ·exact hj j (by omega) h3
     ·rw[show j=k by omega];exact h1
    ·right;have hlt:=QI (b:=b32) (f:=dg b32 v) (g:=dg b32 u) (fun i _=>EF v i) h1 (n:=ln u) (by omega) (fun i hi gB=>(hj i (by omega) gB).symm);rw[mX,co]at hlt;rw[show cmpI (dg b32 u k:Int) (dg b32 v k:Int)=1 by unfold cmpI;rw[ifN,ifP],AR];refine⟨_,rfl,?_⟩;rw[ifN,show cmpI (u:Int) (v:Int)=1 by unfold cmpI;rw[ifN,ifP]]
   ·right;rw[it_n];refine⟨_,rfl,?_⟩;have jD:u=v:=by rw[<-I8 u,<-I8 v,<-h];exact D2 fun i hi=>hj i (by omega) hi
    rw[An jD]) ⟨ln u,rfl,AC _,fun j h1 h2=>by omega⟩ (by show((ln u:Int)-1+1).toNat<_;omega)
  rw[e,ho];by_cases jD:u=v
  ·subst jD;rw[An rfl,show cmpI (u:Int) (u:Int)=0 by unfold cmpI;rw[ifN,ifN]];rfl
  ·rw[Ak jD];rfl
 ·have hlt:v<u:=by
   rcases BU v u with h'|h'
   ·exact h'
   ·have:=EM h';omega
  rw[show cmpI (ln u:Int) (ln v:Int)=1 by unfold cmpI;rw[ifN,ifP],AR,show cmpI (u:Int) (v:Int)=1 by unfold cmpI;rw[ifN,ifP]]
theorem wzgz{v:Nat}(hv:ln v<=1073741824)(h0:v≠0):∃b:Nat,lp (Ze (dl v)) 0=some (b:Int)/\b<=31/\2147483648<=dg b32 v (ln v-1)*2 ^ b/\dg b32 v (ln v-1)*2 ^ b<4294967296:=by
 have hp:=MT h0;have ht:dg b32 v (ln v-1)≠0:=(wzdw v).resolve_left (by omega);have mY:=EF (b:=b32) v (ln v-1);rw[Cx]at mY
 obtain⟨o,e,b,rfl,h1,h2,h3⟩:=Cl (s:=(0:Int)) (body:=Ze (dl v)) (fun s=>∃b:Nat,s=(b:Int)/\b<=31/\dg b32 v (ln v-1)*2 ^ b<4294967296) (fun s=>32-s.toNat) (fun o=>∃b:Nat,o=(b:Int)/\b<=31/\2147483648<=dg b32 v (ln v-1)*2 ^ b/\dg b32 v (ln v-1)*2 ^ b<4294967296) (by
  rintro s ⟨b,rfl,hb,hlt⟩;simp only[Ze,Db];rw[A7,BT (C7 v) (by rw[Db];omega)];simp only[Ac];rw[ck_d,show Int.toNat ((ln v:Int)-1)=ln v-1 by omega,FF,show min (Int.toNat (b:Int)) 32=b by omega];have e1:(dg b32 v (ln v-1):Int)*2 ^ b=((dg b32 v (ln v-1)*2 ^ b:Nat):Int):=by have p3:((2:Nat):Int) ^ b=((2 ^ b:Nat):Int):=(Int.natCast_pow 2 b).symm;simp only[Int.cast_ofNat_Int]at p3;rw[p3,<-Oo]
  rw[e1];generalize hT:dg b32 v (ln v-1)*2 ^ b=T at *;by_cases h:T<2147483648
  ·left;rw[it_d,A7]
   have oM:b<31:=by
    rcases BU b 31 with h'|h'
    ·exact h'
    ·have h6:1*2 ^ 31<=dg b32 v (ln v-1)*2 ^ b:=Nat.mul_le_mul (by omega) (Di (by decide) h');omega
   refine⟨_,rfl,⟨b+1,by omega,by omega,?_⟩,by omega⟩;rw[E5,<-Fu,hT];omega
  ·right;rw[it_n];exact⟨_,rfl,b,rfl,hb,by omega,by omega⟩) ⟨0,rfl,by omega,by simpa using mY⟩ (by show 32-(0:Int).toNat<_;omega)
 exact⟨b,e,h1,h2,h3⟩
theorem wzgu{j n d g left t0:Nat}{l r:List Int}(hl:Dg b32 l)(hr:Dg b32 r)(hn:r.length=n)(h2:2<=n)(hj:j+n<=l.length)(hL:l.length<=4294967296)(key:∀g left:Nat,left+g*lf r (n-1)=t0->left*b32.n+lf l (j+n-2)<g*lf r (n-2)->d<g) (hd:d<=g) (hg:g<4294967296) (gD:left+g*lf r (n-1)=t0) (mZ:left<18446744073709551616) : ∃g':Nat,lp (Zf (j:Int) l r) ((g:Int),(left:Int))=some (g':Int)/\d<=g'/\g'<=g:=by
 obtain⟨o,e,g',rfl,h3,h4⟩:=Cl (s:=((g:Int),(left:Int))) (body:=Zf (j:Int) l r) (fun s=>∃g2 left:Nat,s=((g2:Int),(left:Int))/\d<=g2/\g2<=g/\Hold (left+g2*lf r (n-1)=t0)/\left<18446744073709551616) (fun s=>s.1.toNat) (fun o=>∃g':Nat,o=(g':Int)/\d<=g'/\g'<=g) (by
  clear hd gD mZ;rintro s ⟨g2,left,rfl,hd,iT,hv,hb⟩;have lh:g2<4294967296:=by omega
  simp only[Zf];have a1:=yz4 hr (n-1);have a2:=yz4 hr (n-2);have a3:=yz4 hl (j+n-2);rw[Cx]at a1 a2 a3;have key':=key g2 left hv;clear key;rw[hn];rw[ck_o (fun _=>by simp only[Ax,Bp];omega)];by_cases h:left<4294967296
  ·have dV:decide ((left:Int)<4294967296)=true:=BF (by omega);rw[dV];simp only[AN,Dn,Bool.false_or,BV];rw[BT hr (by omega)];simp only[Ac];rw[ck_t (by simp only[Ax,Bp];omega),ck_t (by simp only[Ax,Bp];omega),BT hl (by omega)];simp only[Ac];rw[show Int.toNat ((n:Int)-2)=n-2 by omega,show Int.toNat ((j:Int)+n-2)=j+n-2 by omega];rw[QV h a3];obtain⟨m1,m2⟩:=W6 lh a2;rw[show((g2:Int)*((lf r (n-2):Int)%18446744073709551616))%18446744073709551616=((g2*lf r (n-2):Nat):Int) by rw[show(lf r (n-2):Int)%18446744073709551616=lf r (n-2) by omega];rw[show(g2:Int)%18446744073709551616=g2 by omega]at m1;exact m1];rw[Cx]at key';generalize g2*lf r (n-2)=q at *;by_cases hc:left*4294967296+lf l (j+n-2)<q
   ·left;have md:=key' hc;rw[it_d,A7,BT hr (by omega),show Int.toNat ((n:Int)-1)=n-1 by omega];simp only[Ac];refine⟨_,rfl,⟨g2-1,left+lf r (n-1),?_,by omega,by omega,?_,by omega⟩,by dsimp only;omega⟩
    ·refine Prod.ext ?_ ?_;·dsimp only;omega
     ·dsimp only;omega
    ·unfold Hold at hv |-;obtain⟨k,rfl⟩:∃k,g2=k+1:=⟨g2-1,by omega⟩;rw[<-hv,Nat.add_sub_cancel,Ba];omega
   ·right;rw[it_n];exact⟨_,rfl,g2,rfl,hd,iT⟩
  ·have dV:decide ((left:Int)<4294967296)=false:=By (by omega);rw[dV];simp only[AI,Ac,DB,Bool.true_or,Cm,FC,AV];right;exact⟨_,rfl,g2,rfl,hd,iT⟩) ⟨g,left,rfl,hd,AC _,gD,mZ⟩ (by show(g:Int).toNat<_;omega)
 exact⟨g',e,h3,h4⟩
theorem wzey{l:List Int}{lo hi i:Nat}(h:i<hi-lo):lf (sub l (lo:Int) (hi:Int)) i=lf l (lo+i):=by unfold lf sub;rw[show Int.toNat (lo:Int)=lo by omega,show Int.toNat ((hi:Int)-lo)=hi-lo by omega,Fl,An h,Ec]
theorem Ra{l:List Int}{lo hi:Nat}(h:lo<=hi)(h2:hi<=l.length):(sub l (lo:Int) (hi:Int)).length=hi-lo:=by simp only[sub,Df,CO];omega
theorem WA(v j i:Nat):dg b32 v (j+i)=dg b32 (v / b32.n ^ j) i:=by unfold dg;rw[HI,Tx]
theorem wzc5{l:List Int}{R j n:Nat}(hd:∀i,lf l i=dg b32 R i)(hj:j+n<=l.length)(hR:R<b32.n ^ (j+n)):val b32 (sub l (j:Int) ((j+n:Nat):Int))=R / b32.n ^ j:=by unfold val;rw[Ra (by omega) hj,show j+n-j=n by omega];rw[D2 (g:=dg b32 (R / b32.n ^ j)) fun i hi=>by rw[wzey (by omega),hd,WA],MF];refine Ed ?_;rw[GM (b32.pw j),<-HI,Nat.add_comm n j];exact hR
theorem Rb{l:List Int}(h0:0<l.length)(h:l.length<=4294967296):Gf l=some l:=by unfold Gf;exact ck_t (by simp;omega)
theorem wzg1{j n P V g:Nat}{l:List Int}(hl:Dg b32 l)(hn:ln V=n)(hj:j+n+1<=l.length)(hL:l.length<=1073741824)(hP:val b32 (sub l (j:Int) ((j+(n+1):Nat):Int))=P)(hV:0<V)(hd:P / V<=g)(hg:g<4294967296) :
  lp (yzk (j:Int) l (dl V)) ((g:Int),dl (V*g))=some (((P / V:Nat):Int),dl (V*(P / V))):=by
 have aD:(sub l (j:Int) ((j+(n+1):Nat):Int)).length=n+1:=by rw[Ra (by omega) (by omega)];omega
 have nc:ln P<=n+1:=by have:=Gm (QS hl (j:Int) ((j+(n+1):Nat):Int));rw[hP,aD]at this;exact Hj this
 refine MX (fun s=>∃g:Nat,s=((g:Int),dl (V*g))/\P / V<=g/\g<4294967296) (fun s=>s.1.toNat) _ ?_ ⟨g,rfl,hd,hg⟩ (by show(g:Int).toNat<_;omega);rintro s ⟨g,rfl,hd,hg⟩;simp only[yzk,Db,hn];have pR:ln (V*g)<=n+1:=by refine Hj ?_;rw[E5];refine Nat.mul_lt_mul'' ?_ (by rw[Cx];exact hg);rw[<-hn];exact Eu V
 rw[show(j:Int)+n+1=((j+(n+1):Nat):Int) by omega]
 (try rw[EJ])
 rw[Rb (by omega) (by omega)];simp only[Ac];rw[EN (QS hl _ _) (by omega),hP];simp only[Ac];rw[MW (by omega) (by omega)];simp only[Ac];have f1:P<V*g->P / V<g:=fun h=>by rw[GM hV,Bj];exact h
 have f2:¬P<V*g->g<=P / V:=fun h=>by rw[O5 hV,Bj];omega
 generalize P / V=D at *;by_cases h:P<V*g
 ·left;have hlt:=f1 h;have aE:V<=V*g:=Nat.le_mul_of_pos_right V (by omega);rw[it_d (by unfold cmpI;rw[ifP];omega),QY (by omega) aE];simp only[Ac];refine⟨_,rfl,⟨g-1,?_,by omega,by omega⟩,by dsimp only;omega⟩;refine Prod.ext ?_ ?_
  ·dsimp only;omega
  ·dsimp only;congr 1;obtain⟨k,rfl⟩:∃k,g=k+1:=⟨g-1,by omega⟩;rw[Nat.add_sub_cancel,Nat.mul_add];omega
 ·right;have heq:D=g:=Nat.le_antisymm hd (f2 h);rw[it_n (by unfold cmpI;rw[ifN];split<;>omega),heq]
theorem Rc{l:List Int}(hl:Dg b32 l)(i:Nat):lf l i=dg b32 (val b32 l) i:=by
 by_cases h:i<l.length
 ·exact(QJ (fun i _=>yz4 hl i) i h).symm
 ·rw[ID (by omega),QK];exact Ft (Gm hl) (Di b32.pos (by omega))
theorem qz3v(R j:Nat):R=R%b32.n ^ j+b32.n ^ j*(R / b32.n ^ j):=(Nat.mod_add_div R (b32.n ^ j)).symm
theorem wzdg{l d:List Int}{j n:Nat}(hl:Dg b32 l)(hd:Dg b32 d)(ki:d.length<=n)(hj:j+n<=l.length)(hz:val b32 l<b32.n ^ (j+n)) :
  Dg b32 (BP (BP l j (List.replicate n 0)) j (List.take n d))/\(BP (BP l j (List.replicate n 0)) j (List.take n d)).length=l.length/\val b32 (BP (BP l j (List.replicate n 0)) j (List.take n d))=val b32 d*b32.n ^ j+val b32 l%b32.n ^ j:=by
 rw[FT ki];have e1:(BP l j (List.replicate n 0)).length=l.length:=KM (by simp;omega);have e2:(BP (BP l j (List.replicate n 0)) j d).length=l.length:=by rw[KM (by rw[e1];omega),e1]
 have dp:∀(l new:List Int) (i:Nat),Dg b32 l->Dg b32 new->Dg b32 (BP l i new):=fun l new i h1 h2=>EL (EL (fun x hx=>h1 x (List.mem_of_mem_take hx)) h2) (fun x hx=>h1 x (Oq hx));have hD:Dg b32 (BP (BP l j (List.replicate n 0)) j d):=dp _ _ _ (dp _ _ _ hl IF) hd;refine⟨hD,e2,?_⟩;have lo:∀i,i<j->lf (BP (BP l j (List.replicate n 0)) j d) i=lf l i:=by intro i hi;unfold lf BP;rw[List.append_assoc,Fj (by simp;omega),Fl,An hi,List.append_assoc,Fj (by simp;omega),Fl,An hi]
 have bh:∀i,lf (BP (BP l j (List.replicate n 0)) j d) (j+i)=lf d i:=by
  intro i;have iA:∀k,j+n<=k->lf l k=0:=fun k hk=>by rw[Rc hl,QK];exact Ft hz (Di b32.pos hk)
  have g1:∀(l new:List Int) (cE:j<=l.length),lf (BP l j new) (j+i)=if i<new.length then lf new i else lf l (j+i):=by
   intro l new cE;unfold lf BP;have hlt:(l.take j).length=j:=by rw[Df];omega
   rw[List.append_assoc,GB (by rw[hlt];omega),hlt,show j+i-j=i by omega];split
   ·rename_i h;rw[Fj h]
   ·rename_i h;rw[GB (by omega),Ec,show j+new.length+(i-new.length)=j+i by omega]
  rw[g1 _ _ (by rw[e1];omega)];split
  ·rfl
  ·rename_i h;rw[g1 _ _ (by omega),ID (l:=d) (by omega)];split
   ·exact Hh _ _
   ·rename_i h2;simp only[Tu]at h2;exact iA _ (by omega)
 unfold val;obtain⟨m,hm⟩:∃m,l.length=j+m:=⟨l.length-j,by omega⟩;have dX:vl b32 (lf l) j=val b32 l%b32.n ^ j:=by rw[<-MF];exact D2 fun i _=>Rc hl i
 rw[e2,hm,KD,D2 lo,D2 (n:=m) (fun i _=>bh i),D5 (by omega:d.length<=m),dX,Bj (b32.n ^ j),Nat.add_comm,<-hm];rfl
theorem WB{R j n:Nat}(h:R<b32.n ^ (j+n+1))(h2:1<=n):R / b32.n ^ j / b32.n ^ (n-1)=dg b32 R (j+n)*b32.n+dg b32 R (j+n-1):=by
 obtain⟨m,rfl⟩:∃m,n=m+1:=⟨n-1,by omega⟩;rw[Nat.add_sub_cancel,Tx,<-HI,show j+(m+1)-1=j+m by omega];unfold dg;rw[show j+(m+1)=(j+m)+1 by omega]at h |-;generalize j+m=k at *;have e:R / b32.n ^ (k+1)=R / b32.n ^ k / b32.n:=by rw[E5,Tx]
 have hlt:R / b32.n ^ k / b32.n<b32.n:=by rw[<-e,GM (b32.pw _),<-Nat.pow_succ',];exact h
 rw[e,Ed hlt];have:=HH (R / b32.n ^ k) b32.n;rw[Bj]at this;exact this.symm
theorem KN(P n:Nat):P=P / b32.n ^ n*b32.n ^ n+P%b32.n ^ n:=by have:=HH P (b32.n ^ n);rw[Bj]at this;exact this.symm
theorem wzfz{V n j R:Nat}{l q:List Int}(hl:Dg b32 l)(hq:Dg b32 q)(hV:ln V=n)(h2:2<=n)(iP:2147483648<=dg b32 V (n-1))(hR:val b32 l=R)(nd:R<V*b32.n ^ (j+1))(hj:j+n+1<=l.length)(hL:l.length<=1073741824)(oO:R / b32.n ^ j / b32.n ^ (n-1)≠0->j<q.length) (oP:lf q j=0) (hQ:q.length<=1073741824) {X:Nat} (hX:X=V*val b32 q+R) : ∃l' q',Tn (dl V) ((j:Int),l,q)=some (.inl ((j:Int)-1,l',q'))/\Dg b32 l'/\Dg b32 q'/\l'.length=l.length/\q'.length=q.length/\X=V*val b32 q'+val b32 l'/\val b32 l'<V*b32.n ^ j/\(∀i,i≠j->lf q' i=lf q i):=by
 have kv:V<b32.n ^ n:=by rw[<-hV];exact Eu V
 have jE:0<V:=by
  rcases Fs V with h|h
  ·rw[h]at hV;rw[MS]at hV;omega
  ·exact h
 have me:R<b32.n ^ (j+n+1):=by rw[show j+n+1=n+(j+1) by omega,HI];exact Ft nd (Bo _ (GN kv))
 have hY:∀i,lf l i=dg b32 R i:=fun i=>by rw[Rc hl,hR]
 have gl:=WB me (by omega:1<=n);have ne:=qz3v R j;have jF:R / b32.n ^ j<V*b32.n:=by rw[GM (b32.pw j),Fu,<-Nat.pow_succ'];exact nd
 have jG:R%b32.n ^ j<b32.n ^ j:=FU _ (b32.pw j);have dB:=wzc5 (l:=l) (R:=R) (j:=j) (n:=n+1) hY (by omega) (by rw[show j+(n+1)=j+n+1 by omega];exact me);generalize hP:R / b32.n ^ j=P at *;have pS:P / V<4294967296:=by rw[GM jE,Bj];exact jF
 have jH:P / V*V<=P:=Nat.div_mul_le_self P V
 have jI:P<(P / V+1)*V:=by
  have:=Nat.lt_mul_div_succ P jE
  rwa [Bj]at this
 have oQ:V=dg b32 V (n-1)*b32.n ^ (n-1)+V%b32.n ^ (n-1):=by
  have e:V / b32.n ^ (n-1)=dg b32 V (n-1):=by unfold dg;rw[Ed];rw[GM (b32.pw _),<-Nat.pow_succ',Nat.succ_eq_add_one,show n-1+1=n by omega];exact kv
  have:=KN V (n-1);rw[e]at this;exact this
 have mf:V=(dg b32 V (n-1)*b32.n+dg b32 V (n-2))*b32.n ^ (n-2)+V%b32.n ^ (n-2):=by have e:=WB (R:=V) (j:=0) (n:=n-1) (by rw[show 0+(n-1)+1=n by omega];exact kv) (by omega);rw[Nat.pow_zero,Nat.div_one,show n-1-1=n-2 by omega,show 0+(n-1)=n-1 by omega,show n-1-1=n-2 by omega]at e;have:=KN V (n-2);rw[e]at this;exact this
 have nf:=KN P (n-1);rw[gl]at nf
 have mg:P=((dg b32 R (j+n)*b32.n+dg b32 R (j+n-1))*b32.n+dg b32 R (j+n-2))*b32.n ^ (n-2)+P%b32.n ^ (n-2):=by
  have e2:P / b32.n ^ (n-2)=(dg b32 R (j+n)*b32.n+dg b32 R (j+n-1))*b32.n+dg b32 R (j+n-2):=by
   rw[<-gl];have a:P / b32.n ^ (n-1)=P / b32.n ^ (n-2) / b32.n:=by rw[show n-1=n-2+1 by omega,E5,Tx]
   have c:dg b32 R (j+n-2)=P / b32.n ^ (n-2)%b32.n:=by rw[show j+n-2=j+(n-2) by omega,WA,hP];rfl
   rw[a,c];have:=HH (P / b32.n ^ (n-2)) b32.n;rw[Bj]at this;exact this.symm
  have:=KN P (n-2);rw[e2]at this;exact this
 have fF:=EF (b:=b32) V (n-1);have jC:=EF (b:=b32) V (n-2);have iU:=EF (b:=b32) R (j+n);have nh:=EF (b:=b32) R (j+n-1);have jJ:=EF (b:=b32) R (j+n-2)
 have hgt:P / V<=(dg b32 R (j+n)*b32.n+dg b32 R (j+n-1)) / dg b32 V (n-1) :=
  qzzg oQ nf (FU _ (b32.pw _)) jH (by omega)
 have key:∀g left:Nat,left+g*dg b32 V (n-1)=dg b32 R (j+n)*b32.n+dg b32 R (j+n-1)->left*b32.n+dg b32 R (j+n-2)<g*dg b32 V (n-2)->P / V<g:=fun g left hl hb =>
  qzuy (b:=b32) (v:=V) (v1:=dg b32 V (n-1)) (v2:=dg b32 V (n-2)) (part:=P) mf mg (FU _ (b32.pw _)) jH hl hb
 simp only[Tn,Db,hV];rw[it_d,A7,BT hl (by omega)];simp only[Ac];rw[A7,A7,BT hl (by omega)];simp only[Ac];rw[A7,BT (C7 V) (by rw[Db];omega)];simp only[Ac];rw[show Int.toNat ((j:Int)+n)=j+n by omega,show Int.toNat ((j:Int)+n-1)=j+n-1 by omega,show Int.toNat ((n:Int)-1)=n-1 by omega,FF,hY,hY];rw[Cx]at fF jC iU nh jJ;rw[show(dg b32 V (n-1):Int)%18446744073709551616=(dg b32 V (n-1):Int) by omega];rw[QQ,A7];rw[show(dg b32 R (j+n):Int)%18446744073709551616=(dg b32 R (j+n):Int) by omega];rw[QV iU nh];rw[Cx]at gl hgt key;generalize hT:dg b32 R (j+n)*4294967296+dg b32 R (j+n-1)=T at *;have pT:T<18446744073709551616:=by omega
 generalize jK:dg b32 V (n-1)=v1 at *;have jL:T / v1*v1<=T:=Nat.div_mul_le_self T v1;have mh:min ((((T:Nat):Int).tdiv (v1:Int))%18446744073709551616) 4294967295=((min (T / v1) 4294967295:Nat):Int):=by rw[Zb (by omega),<-Int.natCast_ediv];have:T / v1<=T:=Nat.div_le_self _ _;generalize T / v1=w at *;omega
 rw[mh];have pU:T / v1<=T:=Nat.div_le_self _ _;generalize T / v1=w at *;generalize gE:min w 4294967295=g0 at *;have mi:g0<4294967296:=by omega
 have mj:P / V<=g0:=by omega
 have oR:g0*v1<=T:=Br (Bo _ (by omega)) jL;have ml:(((T:Nat):Int)-((g0:Int)*(v1:Int))%18446744073709551616)%18446744073709551616=((T-g0*v1:Nat):Int):=by rw[<-Oo];generalize g0*v1=z at *;omega
 rw[ml];obtain⟨g,eg,md,pV⟩:=wzgu (j:=j) (n:=n) (d:=P / V) (g:=g0) (left:=T-g0*v1) (t0:=T) (l:=l) (r:=dl V) hl (C7 V) (by rw[Db];exact hV) h2 (by omega) (by omega) (by intro g left h1 h3;rw[FF,jK]at h1;rw[FF,hY,Cx]at h3;exact key g left h1 h3) mj mi (by rw[FF,jK];omega) (by omega);rw[eg];simp only[Ac];by_cases h0:g=0
 ·subst h0;have oS:P<V:=by rw[Nat.eq_zero_of_le_zero md]at jI;omega
  rw[it_d];simp only[Ac];rw[A7];refine⟨l,q,rfl,hl,hq,rfl,rfl,by rw[hR];exact hX,?_,fun i _=>rfl⟩;rw[hR,ne];have h5:(P+1)*b32.n ^ j<=V*b32.n ^ j:=Bo _ oS;rw[Ba,Bj P]at h5;omega
 ·have oT:T≠0:=by
   intro h;omega
  have fI:=oO (by rw[Cx,gl];exact oT);rw[it_n];simp only[Ac];have mn:g<4294967296:=by omega
  have gF:(j:Int)+n+1=((j+(n+1):Nat):Int):=by omega
  rw[A7,A7,gF,EJ];rw[show(g:Int)%4294967296=(g:Int) by omega,<-QW (by omega:0<g) mn,QX (by omega) (Br (Hj (n:=1) (by rw[Nat.pow_one,Cx];exact mn)) (by omega))];simp only[Ac];rw[wzg1 (j:=j) (n:=n) (P:=P) (V:=V) (g:=g) hl hV (by omega) hL dB jE md mn];simp only[Ac];have nc:ln P<=n+1:=by refine Hj ?_;rw[E5];exact Nat.lt_trans jF (Nat.mul_lt_mul_of_pos_right kv b32.pos)
  have ni:(sub l (j:Int) ((j+(n+1):Nat):Int)).length=n+1:=by rw[Ra (by omega) (by omega)];omega
  rw[Rb (by omega) (by omega)];simp only[Ac];rw[EN (QS hl _ _) (by omega),dB];simp only[Ac];have oU:V*(P / V)<=P:=by rw[Bj];exact jH
  rw[QY (by omega) oU];simp only[Ac]
  have hD:P-V*(P / V)<V:=by
   have:(P / V+1)*V=V*(P / V)+V:=by rw[Ba,Bj,Nat.one_mul]
   omega
  have oV:(dl (P-V*(P / V))).length<=n+1:=by rw[Db];have:=EM (GN hD);omega
  have hw:Int.toNat (((j+(n+1):Nat):Int)-(j:Int))=n+1:=by omega
  rw[hw];obtain⟨p1,p2,p3⟩:=wzdg (l:=l) (d:=dl (P-V*(P / V))) (j:=j) (n:=n+1) hl (C7 _) oV (by omega) (by rw[hR,show j+(n+1)=j+n+1 by omega];exact me);have cn:(BP l j (List.replicate (n+1) 0)).length=l.length:=KM (by simp;omega);rw[show Int.toNat (j:Int)=j by omega,EJ]
  (try rw[EJ])
  (try rw[EJ (by rw[cn];omega)])
  rw[BT hq (by omega)];simp only[Ac];rw[A7];rw[Ew,hR]at p3;have mo:((P / V:Nat):Int)%4294967296=((P / V:Nat):Int):=by generalize P / V=z at *;omega
  rw[mo];refine⟨_,_,rfl,p1,MR hq (by rw[Cx];generalize P / V=z at *;omega),p2,by rw[H6],?_,?_,?_⟩
  ·rw[p3];have aH:=wzc0 (b:=b32) (q:=lf q) (Q:=q.length) (j:=j) (d:=P / V) (v:=V) (part:=P) (rest:=R) (R:=R%b32.n ^ j) (rest':=(P-P / V*V)*b32.n ^ j+R%b32.n ^ j) (X:=X) hX fI oP (by rw[Bj P];rw[Nat.add_comm];exact ne) rfl jH;rw[aH,Bj V (P / V)];congr 2;unfold val;rw[H6];refine D2 fun i hi=>?_;rw[IE fI,CN]
  ·rw[p3];have:=wzcw (b:=b32) (v:=V) (part:=P) (d:=P / V) (j:=j) (R:=R%b32.n ^ j) jI jH jG
   rwa [Bj (P / V) V]at this
  ·intro i hi;rw[IE fI,Ak hi]
theorem qz28{l:List Int}{n:Nat}(h:∀i,i<n->lf l i=0):vl b32 (lf l) n=0:=by rw[D2 (g:=fun _=>0) h,KE]
theorem wzda(n:Nat):val b32 (List.replicate n 0)=0:=qz28 fun i _=>Hh n i
theorem wzc7{V n X Q k0:Nat}{l0:List Int}(gz:Dg b32 l0)(hX:val b32 l0=X)(hV:ln V=n)(h2:2<=n)(iP:2147483648<=dg b32 V (n-1))(aD:l0.length=k0+n)(nj:X<b32.n ^ (k0+n-2))(fV:2<=k0)(hL:l0.length<=1073741824)(hQ:k0-1<=Q)(pX:Q<=1073741824) : ∃l q,lp (Tn (dl V)) ((k0:Int)-1,l0,List.replicate Q 0)=some (l,q)/\Dg b32 l/\Dg b32 q/\l.length<=1073741824/\q.length<=1073741824/\X=V*val b32 q+val b32 l/\val b32 l<V:=by
 have jE:V≠0:=by intro h;rw[h,MS]at hV;omega
 have ir:b32.n ^ (n-1)<=V:=by rw[<-hV];exact I7 jE
 obtain⟨⟨l,q⟩,e,h⟩:=Cl (s:=((k0:Int)-1,l0,List.replicate Q 0)) (body:=Tn (dl V)) (fun s=>∃(k:Nat) (l q:List Int),s=((k:Int)-1,l,q)/\k<=k0/\Dg b32 l/\Dg b32 q/\l.length=l0.length/\q.length=Q/\(∀i,i<k->lf q i=0)/\Hold (X=V*val b32 q+val b32 l)/\Hold (val b32 l<V*b32.n ^ k)) (fun s=>(s.1+1).toNat) (fun o=>Dg b32 o.1/\Dg b32 o.2/\o.1.length<=1073741824/\o.2.length<=1073741824/\X=V*val b32 o.2+val b32 o.1/\val b32 o.1<V) (by
  rintro s ⟨k,l,q,rfl,hk,hl,hq,db,oW,hz,mq,hR⟩;unfold Hold at mq hR;by_cases h:0<k
  ·left;obtain⟨j,rfl⟩:∃j,k=j+1:=⟨k-1,by omega⟩;rw[show((j+1:Nat):Int)-1=(j:Int) by omega]
   obtain⟨l',q',e,p1,p2,p3,p4,p5,p6,p7⟩:=wzfz (V:=V) (n:=n) (j:=j) (l:=l) (q:=q) hl hq hV h2 iP rfl hR (by omega) (by omega) (by
    intro aJ;rw[oW];rcases BU j (k0-1) with h'|h'
    ·omega
    ·exfalso;apply aJ;have hj:j=k0-1:=by omega
     have aE:val b32 l<=X:=(by omega);rw[Tx,<-HI];refine JJ (Th aE ?_);rw[show j+(n-1)=k0+n-2 by omega];exact nj) (hz j (by omega)) (by omega) mq
   refine⟨_,e,⟨j,l',q',rfl,by omega,p1,p2,by omega,by omega,?_,p5,p6⟩,by dsimp only;omega⟩;intro i hi;rw[p7 i (by omega)];exact hz i (by omega)
  ·right;have mr:k=0:=by omega
   subst mr;refine⟨(l,q),?_,hl,hq,by dsimp only;omega,by dsimp only;omega,mq,by simpa using hR⟩;simp only[Tn];rw[it_n]) ⟨k0,l0,_,rfl,AC _,gz,IF,rfl,by simp,fun i _=>Hh _ i,by unfold Hold;rw[wzda,hX];simp,by unfold Hold;rw[hX];refine Ft nj ?_;refine Br ?_ (Bo _ ir);rw[<-HI];exact Nat.pow_le_pow_right b32.pos (by omega)⟩ (by dsimp only;omega)
 exact⟨l,q,e,h⟩
theorem wzbm{u v:Nat}(hu:ln u<=536870912)(hv:ln v<=536870912)(h0:v≠0):Ow (dl u) (dl v)=some (dl (u / v),dl (u%v)):=by
 unfold Ow;rw[MW (by omega) (by omega)];simp only[Ac];by_cases h:u<v
 ·rw[it_d (by unfold cmpI;rw[ifP];omega),JJ h,Ed h];rfl
 rw[it_n (by unfold cmpI;rw[ifN];split<;>omega),Db];by_cases h1:ln v=1
 ·have jM:v<4294967296:=by have:=Eu v;rw[h1,Nat.pow_one,Cx]at this;exact this
  rw[it_d,QW (by omega) jM];rw[show at? [(v:Int)] 0=some (v:Int) from at_e (n:=0) rfl rfl];simp only[Ac];rw[W7 (by omega) (by omega) jM];simp only[Ac];have hr:=FU u (JA h0);have ht:HF [((u%v:Nat):Int)]=some (dl (u%v)):=by rw[EN (FE (by rw[Cx];omega)) (by simp)];rw[show val b32 [((u%v:Nat):Int)]=u%v by generalize u%v=z;simp[val,vl,lf]]
  rw[ht];rfl
 rw[it_n];have jc:=MT h0;obtain⟨b,eb,hb,dt,dq⟩:=wzgz (v:=v) (by omega) h0;rw[eb];simp only[Ac];rw[QZ (by omega) hb,QZ (by omega) hb];simp only[Ac];have hp:0<2 ^ b:=Nat.pow_pos (by decide);have nk:2 ^ b<4294967296:=by have:2 ^ b<=2 ^ 31:=Di (by decide) hb;omega
 have oX:v=dg b32 v (ln v-1)*b32.n ^ (ln v-1)+v%b32.n ^ (ln v-1):=by
  have e:v / b32.n ^ (ln v-1)=dg b32 v (ln v-1):=by unfold dg;rw[Ed];rw[GM (b32.pw _),<-Nat.pow_succ',Nat.succ_eq_add_one,show ln v-1+1=ln v by omega];exact Eu v
  have:=KN v (ln v-1);rw[e]at this;exact this
 have dX:=FU v (b32.pw (ln v-1));have np:v*2 ^ b=dg b32 v (ln v-1)*2 ^ b*b32.n ^ (ln v-1)+v%b32.n ^ (ln v-1)*2 ^ b:=by have:=Ef (fun z=>z*2 ^ b) oX;simp only[Ba]at this;rw[this];congr 1;rw[Fu,Bj (b32.n ^ (ln v-1)),<-Fu]
 have jN:v*2 ^ b<b32.n ^ ln v:=by
  have ht:dg b32 v (ln v-1)*2 ^ b+2 ^ b<=b32.n:=by
   have oY:dg b32 v (ln v-1)*2 ^ b+2 ^ b=(dg b32 v (ln v-1)+1)*2 ^ b:=by rw[Ba,Nat.one_mul]
   have nq:b32.n=2 ^ (32-b)*2 ^ b:=by rw[<-HI,show 32-b+b=32 by omega];rfl
   rw[oY,nq];refine Bo _ ?_;have:dg b32 v (ln v-1)*2 ^ b<2 ^ (32-b)*2 ^ b:=by rw[<-nq,Cx];exact dq
   exact Nat.lt_of_mul_lt_mul_right this
  have h5:(v%b32.n ^ (ln v-1)+1)*2 ^ b<=b32.n ^ (ln v-1)*2 ^ b:=Bo _ dX;have h6:(dg b32 v (ln v-1)*2 ^ b+2 ^ b)*b32.n ^ (ln v-1)<=b32.n*b32.n ^ (ln v-1):=Bo _ ht;rw[<-Nat.pow_succ',Nat.succ_eq_add_one,show ln v-1+1=ln v by omega,Ba]at h6;rw[Ba,Nat.one_mul,Bj (b32.n ^ (ln v-1))]at h5;rw[np];omega
 have ir:b32.n ^ (ln v-1)<=v*2 ^ b:=Br (I7 h0) (Nat.le_mul_of_pos_right _ hp);have iu:ln (v*2 ^ b)=ln v:=(Wi jN (Or.inr ir)).symm
 have jO:dg b32 (v*2 ^ b) (ln v-1)=dg b32 v (ln v-1)*2 ^ b+v%b32.n ^ (ln v-1)*2 ^ b / b32.n ^ (ln v-1):=by
  unfold dg;rw[Ed]
  ·have:=np;unfold dg at this;rw[this];rw[Bj _ (b32.n ^ (ln v-1)),Ou (b32.pw _)]
  ·rw[GM (b32.pw _),<-Nat.pow_succ',Nat.succ_eq_add_one,show ln v-1+1=ln v by omega];exact jN
 have iP:2147483648<=dg b32 (v*2 ^ b) (ln v-1):=by rw[jO];exact Br dt (Nat.le_add_right _ _)
 have lc:u≠0:=by omega
 have oZ:u*2 ^ b≠0:=Nat.mul_ne_zero lc (by omega);have nt:ln (u*2 ^ b)<=ln u+1:=by refine Hj ?_;rw[E5];exact Nat.mul_lt_mul'' (Eu u) (by rw[Cx];exact nk)
 have pY:=MT oZ;have pZ:ln v<=ln (u*2 ^ b):=by rw[<-iu];exact EM (Bo _ (by omega))
 have jD:ln v<=ln u:=EM (by omega);rw[Rb (by rw[Db];omega) (by rw[Db];omega)];simp only[Ac];have iq:(dl (u*2 ^ b)++[0,0]).length=ln (u*2 ^ b)+2:=by simp[Db]
 rw[iq,show(dl (v*2 ^ b)).length=ln v by rw[Db,iu],Db u];rw[ck_d,A7,A7,KJ,A7,A7];have pb:Dg b32 (dl (u*2 ^ b)++[0,0]):=EL (C7 _) (IF (n:=2))
 have gj:val b32 (dl (u*2 ^ b)++[0,0])=u*2 ^ b:=by
  have e1:dl (u*2 ^ b)++[0,0]=(dl (u*2 ^ b)++[0])++[0]:=by simp
  rw[e1,KL,KL,Ew];simp
 obtain⟨l,q,e,g1,g2,g3,g4,g5,g6⟩:=wzc7 (V:=v*2 ^ b) (n:=ln v) (X:=u*2 ^ b) (Q:=ln u-ln v+2) (k0:=ln (u*2 ^ b)+2-ln v) pb gj iu (by omega) iP (by rw[iq];omega) (by rw[show ln (u*2 ^ b)+2-ln v+ln v-2=ln (u*2 ^ b) by omega];exact Eu _) (by omega) (by rw[iq];omega) (by omega) (by omega);rw[show((ln (u*2 ^ b)+2:Nat):Int)-(ln v:Int)-1=((ln (u*2 ^ b)+2-ln v:Nat):Int)-1 by omega,show Int.toNat ((ln u:Int)-(ln v:Int)+2)=ln u-ln v+2 by omega,e];simp only[Ac];rw[EN g2 (by omega),EN g1 (by omega)];simp only[Ac];rw[A7];have jP:0<v*2 ^ b:=Nat.mul_pos (by omega) hp
 have hq:val b32 q=u / v:=by
  have e1:u*2 ^ b / (v*2 ^ b)=val b32 q:=by rw[g5,Ou jP,JJ g6];rfl
  rw[Nat.mul_div_mul_right _ _ hp]at e1;exact e1.symm
 have hr:val b32 l=u%v*2 ^ b:=by
  have e1:u*2 ^ b%(v*2 ^ b)=val b32 l:=by rw[g5,O6,Ed g6]
  rw[Nat.mul_mod_mul_right]at e1;exact e1.symm
 rw[qzu5 (by rw[hr,<-hr];exact Br (EM (GN g6)) (by omega)) hb];rw[hq,hr,Nat.mul_div_cancel _ hp];rfl
end Go.Am

