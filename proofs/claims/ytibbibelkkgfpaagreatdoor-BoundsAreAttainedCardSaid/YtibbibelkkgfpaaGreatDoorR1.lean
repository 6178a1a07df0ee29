/- Part R1: the functions of numbers as functions of core numbers. No condition. -/
import Derived.Test.YtibbibelkkgfpaaGreatDoorN1
import Derived.Test.YtibbibelkkgfpaaGreatDoorF1
set_option linter.unusedSimpArgs false
set_option linter.unusedVariables false
namespace Go.Am
section
variable {α Y:Type}
theorem Ab(a:α)(k:α->Option Y):bd (some a) k=k a:=id rfl
theorem ck_t{c:Bool}{x:Option α}(h:c=true):ck c x=x:=by subst h;rfl
theorem ck_d{p:Prop}[Decidable p]{x:Option α}(h:p):ck (decide p) x=x:=ck_t (AD h)
theorem Qv{p:Prop}[Decidable p]{x:Option α}(h:¬p):ck (!decide p) x=x:=ck_t (by simp[h])
theorem A7{n:Int}{x:Option α}(h:-9223372036854775808<=n/\n<=9223372036854775807):ck (Au .i64 n) x=x:=ck_t (by simp[Au,h])
theorem M8{n:Int}{b:Nat}{x:Option α}(h:0<=n/\n*b<=140737488355328):ck (mkOk n b) x=x:=ck_t (by simp[mkOk,h])
theorem D9{l:List Y}{lo hi:Int}{x:Option α}(h:0<=lo/\lo<=hi/\hi<=l.length):ck (C3 l lo hi) x=x:=ck_t (by simp[C3,h])
theorem wzvy{l:List UInt8}{j:Int}{x:Option α}(h:0<=j/\j<l.length):ck (BR l j) x=x:=ck_t (by simp[BR,h])
theorem ck_o{p:Prop}[Decidable p]{c:Bool}{x:Option α}(h:p->c=true):ck (!decide p||c) x=x:=ck_t (by by_cases hp:p<;>simp[hp,h])
theorem it_t{c:Bool}{x y:Option α}(h:c=true):ite' c x y=x:=by subst h;rfl
theorem it_f{c:Bool}{x y:Option α}(h:c=false):ite' c x y=y:=by subst h;rfl
theorem it_d{p:Prop}[Decidable p]{x y:Option α}(h:p):ite' (decide p) x y=x:=it_t (AD h)
theorem it_n{p:Prop}[Decidable p]{x y:Option α}(h:¬p):ite' (decide p) x y=y:=it_f (AA h)
theorem B0{p:Prop}[Decidable p]{x y:Option α}(h:p):ite' (!decide p) x y=y:=it_f (by simp[h])
theorem B9{p:Prop}[Decidable p]{x y:Option α}(h:¬p):ite' (!decide p) x y=x:=it_t (by simp[h])
theorem Br[Inhabited α]{x:Option α}:gd true x=x:=id rfl
theorem Bs[Inhabited α]{x:Option α}:gd false x=some default:=id rfl
theorem GW{x y:Option α}:ite' true x y=x:=id rfl
theorem Du{x y:Option α}:ite' false x y=y:=id rfl
theorem wzps{x:Option α}:ck true x=x:=id rfl
theorem at_e{l:List α}{j:Int}{n:Nat}{x:α}(hj:j=n)(h:l[n]?=some x):at? l j=some x:=by subst hj;unfold at?;rw[AD (by omega:(0:Int)<=n)];exact h
end
theorem Ze{ι G ω:Type}{body:G->Option (G⊕ω)}(f:ι->G)(I:ι->Prop)(Z:ι->Nat)(R:ω->Prop)(step:∀i,I i->(∃i',body (f i)=some (.inl (f i'))/\I i'/\Z i'<Z i)\/(∃o,body (f i)=some (.inr o)/\R o)) {s:G} (i:ι) (hs:s=f i) (h:I i) (hb:Z i<4611686018427387904):∃o,lp body s=some o/\R o:=by
 subst hs
 have key:∀(n:Nat) (i:ι),I i->Z i<n->∃o,lpN body n (f i)=some o/\R o:=by
  intro n;induction n with
  |zero=>intro i _ h;omega
  |succ n ih =>
   intro i hs hn;rcases step i hs with ⟨s',e,aI,hm⟩|⟨o,e,ho⟩
   ·obtain⟨o,e2,ho⟩:=ih s' aI (by omega);exact⟨o,by unfold lpN;rw[e];exact e2,ho⟩
   ·exact⟨o,by unfold lpN;rw[e],ho⟩
 rw[JO];exact key _ i h hb
def lf(l:List Int)(i:Nat):Nat:=(l[i]?.getD 0).toNat
def Dg(b:Base)(l:List Int):Prop:=∀x,x∈l->0<=x/\x<b.n
theorem Bi{b:Base}{l:List Int}(h:Dg b l)(i:Nat):lf l i<b.n:=by
 unfold lf;cases hx:l[i]? with
 |none=>exact b.pos
 |some x =>have:=h x (AI hx);simp only[Le];omega
theorem Iz{l:List Int}{i:Nat}(h:l.length<=i):lf l i=0:=by unfold lf;rw[Lk h];rfl
theorem EW{l m:List Int}{i:Nat}(h:i<l.length):lf (l++m) i=lf l i:=by unfold lf;rw[Fu h]
theorem wzde{l m:List Int}{i:Nat}(h:l.length<=i):lf (l++m) i=lf m (i-l.length):=by unfold lf;rw[Ge h]
theorem Ej{l:List Int}{x:Int}:lf (l++[x]) l.length=x.toNat:=by rw[wzde (A8 _)];simp[lf]
theorem I0{l:List Int}{k i:Nat}{x:Int}(hk:k<l.length):lf (l.set k x) i=if i=k then x.toNat else lf l i:=by
 unfold lf;rw[DK];by_cases h:k=i
 ·subst h;simp[hk]
 ·rw[Ag h,Ag (by omega)]
theorem GX(n i:Nat):lf (List.replicate n 0) i=0:=by unfold lf;rw[Gbk];split<;>rfl
theorem DA{b:Base}{l m:List Int}(h:Dg b l)(h':Dg b m):Dg b (l++m):=fun x hx=>(Dx.1 hx).elim (h x) (h' x)
theorem DB{b:Base}{x:Int}(h:0<=x/\x<b.n):Dg b [x]:=fun y hy=>by rw[BX.1 hy];exact h
theorem Kv{b:Base}:Dg b []:=fun _ h=>by cases h
theorem M9{b:Base}{l:List Int}{k:Nat}{x:Int}(h:Dg b l)(hx:0<=x/\x<b.n):Dg b (l.set k x):=fun y hy=>(List.mem_or_eq_of_mem_set hy).elim (h y) fun e=>e▸hx
theorem I3{b:Base}{n:Nat}:Dg b (List.replicate n 0):=fun x hx=>by rw[List.eq_of_mem_replicate hx];have:=b.pos;omega
theorem Qw{b:Base}{l:List Int}(h:Dg b l)(lo hi:Int):Dg b (sub l lo hi):=fun x hx=>h x (Gca (List.mem_of_mem_take hx))
theorem B1{b:Base}{l:List Int}(h:Dg b l){j:Int}(hj:0<=j/\j<l.length):at? l j=some (lf l j.toNat:Int):=by
 have hn:j.toNat<l.length:=by omega
 refine at_e (n:=j.toNat) (by omega) ?_;have hd:=h _ (Jk hn);unfold lf;rw[AC hn];simp only[Le];congr 1;omega
def val(b:Base)(l:List Int):Nat:=vl b (lf l) l.length
theorem I4{b:Base}{l:List Int}{x:Int}:val b (l++[x])=val b l+x.toNat*b.n ^ l.length:=by unfold val;rw[Dv,Dw];simp only[Eh];rw[Ej];congr 1;exact CJ fun i hi=>EW hi
theorem FK{b:Base}{l:List Int}(h:Dg b l):val b l<b.n ^ l.length:=FI fun i _=>Bi h i
theorem CL{b:Base}{l:List Int}{n:Nat}(h:l.length<=n):vl b (lf l) n=val b l:=Y6 (fun i hi=>Iz hi) h
theorem wzk8{l m:List Int}{b:Base}(hl:Dg b l)(hm:Dg b m)(hn:l.length=m.length)(h:∀i,i<l.length->lf l i=lf m i):l=m:=by refine List.ext_getElem hn fun i h1 h2=>?_;have e:=h i h1;have d1:=hl _ (Jk h1);have d2:=hm _ (Jk h2);unfold lf at e;rw[AC h1,AC h2]at e;simp only[Le]at e;omega
def dl(v:Nat):List Int:=(List.range (ln v)).map fun i=>(dg b32 v i:Int)
theorem Cq(v:Nat):(dl v).length=ln v:=by simp[dl]
theorem BT(v:Nat):Dg b32 (dl v):=fun x hx=>by obtain⟨i,_,rfl⟩:=C7.1 hx;have:=Eg (b:=b32) v i;omega
theorem Zf{v i:Nat}(h:i<ln v):lf (dl v) i=dg b32 v i:=by simp[lf,dl,h]
theorem EX(v i:Nat):lf (dl v) i=dg b32 v i:=by
 by_cases h:i<ln v
 ·exact Zf h
 ·rw[Iz (by rw[Cq];omega),Qo];exact Gi (D7 v) (Cr b32.pos (by omega))
theorem DC(v:Nat):val b32 (dl v)=v:=by unfold val;rw[Cq,CJ fun i hi=>Zf hi,Ix]
theorem MA:ln 0=0:=rfl
theorem wzow:dl 0=[]:=rfl
theorem Kw{v:Nat}(h:v≠0):0<ln v:=by unfold ln;rw[Ag h];omega
theorem Zg{l:List Int}(h:Dg b32 l)(hn:Norm (lf l) l.length):l=dl (val b32 l):=by have e:l.length=ln (val b32 l):=wzo2 (fun i _=>Bi h i) hn;refine wzk8 h (BT _) (by rw[Cq];exact e) fun i hi=>?_;rw[EX];exact(Qn (fun i _=>Bi h i) i hi).symm
theorem Di{u v:Nat}(h:u<=v):ln u<=ln v:=by
 by_cases hu:u=0
 ·subst hu;simp[MA]
 ·rcases C8 (ln v) (ln u) with h1|h1;·have h2:=Iw hu;have h3:=D7 v;have h4:b32.n ^ ln v<=b32.n ^ (ln u-1):=Cr b32.pos (by omega);omega
  ·exact h1
theorem FL{v n:Nat}(h:v<b32.n ^ n):ln v<=n:=by
 by_cases hv:v=0
 ·subst hv;simp[MA]
 ·rcases C8 n (ln v) with h1|h1;·have h2:=Iw hv;have h4:b32.n ^ n<=b32.n ^ (ln v-1):=Cr b32.pos (by omega);omega
  ·exact h1
def bl(v:Nat):Nat:=(bs v).length
theorem GY(v:Nat):v<256 ^ bl v:=by have:=Cz (bs v);rwa [AN]at this
theorem MB{v n:Nat}(h:v<256 ^ n):bl v<=n:=Qr h
theorem DD{u v:Nat}(h:u<=v):bl u<=bl v:=MB (SN h (GY v))
theorem Zh(u v:Nat):bl (u*v)<=bl u+bl v:=MB (by rw[HD];exact Nat.mul_lt_mul'' (GY u) (GY v))
theorem Qx(u v:Nat):bl (u+v)<=max (bl u) (bl v)+1:=by have h1:256 ^ bl u<=256 ^ max (bl u) (bl v):=Cr (by decide) (by omega);have h2:256 ^ bl v<=256 ^ max (bl u) (bl v):=Cr (by decide) (by omega);have h3:=GY u;have h4:=GY v;exact MB (by rw[Dr];omega)
theorem Zi(u v:Nat):bl (u / v)<=bl u:=DD (Nat.div_le_self u v)
theorem Ek(s:List UInt8):bl (sv s)<=s.length:=MB (Cz s)
theorem Qy(v:Nat):ln v<=bl v:=FL (Gi (GY v) (Nat.pow_le_pow_left (by decide) _))
theorem DE{l:List Int}(h:Dg b32 l)(hn:l.length<=1099511627776):GM l=some (dl (val b32 l)):=by
 unfold GM
 obtain⟨o,e,ho⟩:=C6 (body:=P5) (fun x:List Int=>Dg b32 x/\val b32 x=val b32 l/\x.length<=1099511627776) (fun x=>x.length) (fun o=>o=dl (val b32 l)) (by
  rintro x ⟨hx,hv,hm⟩;simp only[P5];rcases List.eq_nil_or_concat x with rfl|⟨y,t,rfl⟩
  ·right;refine⟨[],by simp[ck,gd,bd,ite'],?_⟩;rw[<-hv];rfl
  ·have ht:0<=t/\t<b32.n:=hx t (by simp);have bL:at? (y++[t]) (((y++[t]).length:Int)-1)=some t:=at_e (n:=y.length) (by simp) (by simp);simp only[List.concat_eq_append]at hx hv hm |-;rw[ck_o (fun _=>by simp only[Au,CN];simp only[Dv,Dw]at hm |-;omega)];rw[bL,AD (by simp only[Dv,Dw];omega:(0:Int)<((y++[t]).length:Int))];simp only[Br,Ab,BZ];by_cases h0:t=0
   ·left;subst h0;rw[it_d rfl,A7 (by simp only[Dv,Dw]at hm |-;omega),D9 (by simp;omega)];have hs:sub (y++[(0:Int)]) 0 (((y++[(0:Int)]).length:Int)-1)=y:=by simp[sub]
    rw[hs];refine⟨y,rfl,⟨fun z hz=>hx z (by simp[hz]),?_,by simp at hm;omega⟩,by simp⟩;rw[<-hv,I4];simp
   ·right;rw[it_n h0];refine⟨_,rfl,?_⟩;rw[<-hv];refine Zg hx (Or.inr ?_);rw[Dv,Dw,Nat.add_sub_cancel,Ej];omega) ⟨h,rfl,hn⟩ (by show l.length<_;omega)
 rw[e,ho];rfl
theorem MC{l:List Int}(h:Dg b32 l){k:Int}(hk:0<=k):GN l k=some (lf l k.toNat:Int):=by
 unfold GN;by_cases h1:k<(l.length:Int)
 ·rw[it_d h1,B1 h ⟨hk,h1⟩];have:=Bi h k.toNat;rw[B8]at this;simp only[Ab];congr 1;omega
 ·rw[it_n h1,Iz (by omega)];rfl
theorem wzp0{x y:List Int}(hx:Dg b32 x)(hy:Dg b32 y)(nx:x.length<=549755813888)(ny:y.length<=549755813888):Ki x y=some (dl (val b32 x+val b32 y)):=by
 unfold Ki;rw[A7 (by omega)]
 obtain⟨o,e,h1,h2,h3⟩:=C6 (s:=(0,0,[])) (body:=PO x y) (fun s=>∃(c k:Nat) (l:List Int),s=((c:Int),(k:Int),l)/\k<=max x.length y.length+1/\c<=1/\l.length=k/\Dg b32 l/\vl b32 (lf l) k+c*b32.n ^ k=vl b32 (lf x) k+vl b32 (lf y) k) (fun s=>max x.length y.length+1-s.2.1.toNat) (fun l=>l.length=max x.length y.length+1/\Dg b32 l/\val b32 l=val b32 x+val b32 y) (by
  rintro s ⟨c,k,l,rfl,hk,hc,hl,hd,hv⟩;simp only[PO];by_cases h:k<max x.length y.length+1
  ·left;rw[it_d (by omega),MC hx (by omega),MC hy (by omega)];have a1:=Bi hx k;have a2:=Bi hy k;rw[B8]at a1 a2;simp only[Ab,B2];rw[ck_d (by simp only[Dv,Dw];omega),A7 (by omega)];have es:(((lf x k:Int)+(lf y k:Int))%18446744073709551616+(c:Int))%18446744073709551616=((lf x k+lf y k+c:Nat):Int):=by omega
   rw[es];have q1:Int.fdiv ((lf x k+lf y k+c:Nat):Int) 4294967296=((lf x k+lf y k+c) / 4294967296:Nat):=by rw[Lb _ (by omega)];omega
   rw[q1];refine⟨_,rfl,⟨_,k+1,_,rfl,by omega,by omega,by simp[hl],DA hd (DB ?_),?_⟩,by simp;omega⟩
   ·rw[B8];omega
   ·refine YD (b:=b32) (s:=lf x k+lf y k+c) ?_ rfl ?_;·rw[<-hv];congr 1;exact CJ fun i hi=>EW (by omega)
    ·rw[<-hl,Ej,B8];omega
  ·right;rw[it_n (by omega)];refine⟨_,rfl,by omega,hd,?_⟩;have fI:k=max x.length y.length+1:=by omega
   have v1:vl b32 (lf x) k=val b32 x:=CL (by omega);have v2:vl b32 (lf y) k=val b32 y:=CL (by omega);rw[v1,v2]at hv;have b1:=FK hx;have b2:=FK hy;have p1:b32.n ^ x.length<=b32.n ^ max x.length y.length:=Cr b32.pos (by omega);have p2:b32.n ^ y.length<=b32.n ^ max x.length y.length:=Cr b32.pos (by omega);have p3:b32.n ^ k=b32.n ^ max x.length y.length*4294967296:=by rw[fI,Dr];rfl
   have cR:c=0:=by
    rcases E7 c with h0|h0
    ·exact h0
    ·have h1:c=1:=(by omega);rw[h1]at hv;omega
   rw[cR]at hv;unfold val at hv |-;rw[hl];omega) ⟨0,0,[],rfl,by omega,by omega,rfl,Kv,by simp[vl]⟩ (by dsimp only;omega)
 rw[e];simp only[Ab];rw[DE h2 (by omega),h3];rfl
theorem wzko{x y:List Int}(hx:Dg b32 x)(hy:Dg b32 y)(nx:x.length<=1099511627776)(h:val b32 y<=val b32 x):GQ x y=some (dl (val b32 x-val b32 y)):=by
 unfold GQ
 obtain⟨o,e,h1,h2,h3⟩:=C6 (s:=(0,0,[])) (body:=PN x y) (fun s=>∃(w k:Nat) (l:List Int),s=((w:Int),(k:Int),l)/\k<=x.length/\w<=1/\l.length=k/\Dg b32 l/\vl b32 (lf l) k+vl b32 (lf y) k=vl b32 (lf x) k+w*b32.n ^ k) (fun s=>x.length-s.2.1.toNat) (fun l=>l.length=x.length/\Dg b32 l/\val b32 l=val b32 x-val b32 y) (by
  rintro s ⟨w,k,l,rfl,hk,hw,hl,hd,hv⟩;simp only[PN];by_cases h:k<x.length
  ·left;rw[it_d (by omega),B1 hx (by omega),MC hy (by omega)];have a1:=Bi hx k;have a2:=Bi hy k;rw[B8]at a1 a2;simp only[Ab,B2];rw[ck_d (by simp only[Dv,Dw];omega),A7 (by omega)];by_cases hb:lf y k+w<=lf x k
   ·have es:((((lf x k:Int)%18446744073709551616-(lf y k:Int))%18446744073709551616-(w:Int))%18446744073709551616)=((lf x k-lf y k-w:Nat):Int):=(by omega);rw[es];have q1:Int.fdiv ((lf x k-lf y k-w:Nat):Int) 9223372036854775808=((0:Nat):Int):=by rw[Lb _ (by omega)];omega
    rw[q1];refine⟨_,rfl,⟨_,k+1,_,rfl,by omega,by omega,by simp[hl],DA hd (DB ?_),?_⟩,by simp;omega⟩
    ·rw[B8];omega
    ·refine M2 (b:=b32) (w:=w) ?_ ?_;·rw[<-hv];congr 1;exact CJ fun i hi=>EW (by omega)
     ·rw[<-hl,Ej,hl,B8];omega
   ·have es:((((lf x k:Int)%18446744073709551616-(lf y k:Int))%18446744073709551616-(w:Int))%18446744073709551616)=((18446744073709551616+lf x k-lf y k-w:Nat):Int):=(by omega);rw[es];have q1:Int.fdiv ((18446744073709551616+lf x k-lf y k-w:Nat):Int) 9223372036854775808=((1:Nat):Int):=by rw[Lb _ (by omega)];omega
    rw[q1];refine⟨_,rfl,⟨_,k+1,_,rfl,by omega,by omega,by simp[hl],DA hd (DB ?_),?_⟩,by simp;omega⟩
    ·rw[B8];omega
    ·refine M2 (b:=b32) (w:=w) ?_ ?_;·rw[<-hv];congr 1;exact CJ fun i hi=>EW (by omega)
     ·rw[<-hl,Ej,hl,B8];omega
  ·right;rw[it_n (by omega)];refine⟨_,rfl,by omega,hd,?_⟩;have fI:k=x.length:=by omega
   have v1:vl b32 (lf x) k=val b32 x:=by rw[fI];rfl
   have v3:vl b32 (lf l) k=val b32 l:=by rw[<-hl];rfl
   have v4:vl b32 (lf y) k<=val b32 y:=by
    rcases Nat.le_total k y.length with h'|h'
    ·exact Ql h'
    ·rw[CL h'];exact A8 _
   have hlt:=FK hd;rw[v1,v3]at hv;rw[hl]at hlt;by_cases jx:y.length<=k
   ·rw[CL jx]at hv
    have iF:w=0:=by
     rcases E7 w with h0|h0
     ·exact h0
     ·have h1:w=1:=(by omega);rw[h1]at hv;omega
    rw[iF]at hv;omega
   ·-- the digits of y above are 0,for y is not greater than x
    have fo:=FK hx;rw[<-fI]at fo;have dq:val b32 y=vl b32 (lf y) k+b32.n ^ k*vl b32 (fun i=>lf y (k+i)) (y.length-k):=by have:=Ks (b:=b32) (lf y) k (y.length-k);rw[show k+(y.length-k)=y.length by omega]at this;exact this
    have hz:vl b32 (fun i=>lf y (k+i)) (y.length-k)=0:=by
     rcases E7 (vl b32 (fun i=>lf y (k+i)) (y.length-k)) with h0 | h0
     ·exact h0
     ·have:b32.n ^ k*1<=b32.n ^ k*vl b32 (fun i=>lf y (k+i)) (y.length-k):=NY _ h0;omega
    rw[hz]at dq
    have iF:w=0:=by
     rcases E7 w with h0|h0
     ·exact h0
     ·have h1:w=1:=(by omega);rw[h1]at hv;omega
    rw[iF]at hv;omega) ⟨0,0,[],rfl,by omega,by omega,rfl,Kv,by simp[vl]⟩ (by dsimp only;omega)
 rw[e];simp only[Ab];rw[DE h2 (by omega),h3];rfl
theorem Zj{a b:Nat}(ha:a<4294967296)(hb:b<4294967296):((a:Int)%18446744073709551616*(b:Int))%18446744073709551616=((a*b:Nat):Int)/\a*b<=18446744065119617025:=by
 have h0:a*b<=4294967295*b:=Bd b (by omega);have h1:a*b<=18446744065119617025:=by omega
 refine⟨?_,h1⟩;rw[show(a:Int)%18446744073709551616=a by omega,<-NS];exact Int.emod_eq_of_lt (by omega) (by omega)
def Hold(p:Prop):Prop:=p
theorem wzir{x y l:List Int}{i:Nat}(hx:Dg b32 x)(hy:Dg b32 y)(nx:x.length<=274877906944)(ny:y.length<=274877906944)(h:i<x.length)(hl:l.length=x.length+y.length+1)(hd:Dg b32 l)(hv:Hold (val b32 l=vl b32 (lf x) i*val b32 y)) : ∃m,lp (Mh (i:Int) (lf x i:Int) y) (0,0,l)=some m/\m.length=x.length+y.length+1/\Dg b32 m/\Hold (val b32 m=vl b32 (lf x) (i+1)*val b32 y):=by
 have a1:=Bi hx i;rw[B8]at a1
 exact C6 (s:=(0,0,l)) (body:=Mh (i:Int) (lf x i:Int) y) (fun s=>∃(c k:Nat) (m:List Int),s=((c:Int),(k:Int),m)/\k<=y.length+1/\c<4294967296/\m.length=x.length+y.length+1/\Dg b32 m/\Hold (val b32 m+c*b32.n ^ (i+k)=vl b32 (lf x) i*val b32 y+lf x i*vl b32 (lf y) k*b32.n ^ i)) (fun s=>y.length+1-s.2.1.toNat) (fun m=>m.length=x.length+y.length+1/\Dg b32 m/\Hold (val b32 m=vl b32 (lf x) (i+1)*val b32 y)) (by
  rintro s ⟨c,k,m,rfl,hk,hc,hm,dQ,eV⟩;simp only[Mh]
  have om:0<c->k<=y.length:=by
   intro cR;rcases C8 y.length k with h'|h'
   ·have e1:vl b32 (lf y) k=val b32 y:=CL (by omega);rw[e1]at eV;exact YO (b:=b32) (out:=lf m) (x:=lf x) (y:=lf y) (N:=m.length) (m:=y.length) (a:=lf x i) (fun j _=>Bi hy j) (by rw[B8];exact a1) (FI fun j _=>Bi hx j) eV cR
   ·exact h'
  by_cases lE:k<y.length\/0<c
  ·left;have gA:k<=y.length:=lE.elim (by omega) om;have gc:i+k<m.length:=by omega
   have a2:=Bi hy k;have a3:=Bi dQ (i+k);rw[B8]at a2 a3;obtain⟨p1,p2⟩:=Zj a1 a2;rw[it_t (by rcases lE with h'|h'<;>simp[h']),MC hy (by omega)];simp only[Ab,B2];rw[A7 (by omega),B1 dQ (by omega),show Int.toNat ((i:Int)+k)=i+k by omega];simp only[Ab];rw[A7 (by omega),A7 (by omega)];rw[p1];generalize hp:lf x i*lf y k=p at *;have es:(((p:Int)+(lf m (i+k):Int)%18446744073709551616)%18446744073709551616+(c:Int))%18446744073709551616=((p+lf m (i+k)+c:Nat):Int):=by omega
   rw[es];have q1:Int.fdiv ((p+lf m (i+k)+c:Nat):Int) 4294967296=((p+lf m (i+k)+c) / 4294967296:Nat):=by rw[Lb _ (by omega)];omega
   have q2:((p+lf m (i+k)+c:Nat):Int)%4294967296=((p+lf m (i+k)+c)%4294967296:Nat):=by omega
   rw[q1,q2];refine⟨_,rfl,⟨_,k+1,_,rfl,by omega,by omega,by simp[hm],M9 dQ (by rw[B8];omega),?_⟩,by dsimp only;omega⟩;have aL:=YJ (b:=b32) (out:=lf m) (y:=lf y) (N:=m.length) (i:=i) (k:=k) (a:=lf x i) (c:=c) (s:=p+lf m (i+k)+c) eV gc (by rw[<-hp]);rw[<-aL];congr 1;unfold val;rw[J0];refine CJ fun j hj=>?_;rw[I0 gc,B2,B8]
  ·right;have ew:y.length<=k:=by omega
   have dt:c=0:=by omega
   rw[it_f (by simp;omega)];refine⟨_,rfl,hm,dQ,?_⟩;unfold Hold at eV |-;rw[CL ew,dt]at eV;rw[Eh,AT];have:lf x i*b32.n ^ i*val b32 y=lf x i*val b32 y*b32.n ^ i:=by simp only[Bb,Ld,E3]
   omega) ⟨0,0,l,rfl,by omega,by omega,hl,hd,by unfold Hold at hv |-;rw[hv];simp[vl]⟩ (by dsimp only;omega)
theorem wzis{x y:List Int}(hx:Dg b32 x)(hy:Dg b32 y)(nx:x.length<=274877906944)(ny:y.length<=274877906944):GP x y=some (dl (val b32 x*val b32 y)):=by
 unfold GP;rw[A7 (by omega),A7 (by omega),M8 (by omega)];rw[show Int.toNat ((x.length:Int)+y.length+1)=x.length+y.length+1 by omega]
 obtain⟨o,e,h1,h2,h3⟩:=C6 (s:=(0,List.replicate (x.length+y.length+1) 0)) (body:=PM x y) (fun s=>∃(i:Nat) (l:List Int),s=((i:Int),l)/\i<=x.length/\l.length=x.length+y.length+1/\Dg b32 l/\Hold (val b32 l=vl b32 (lf x) i*val b32 y)) (fun s=>x.length-s.1.toNat) (fun l=>l.length=x.length+y.length+1/\Dg b32 l/\Hold (val b32 l=val b32 x*val b32 y)) (by
  rintro s ⟨i,l,rfl,hi,hl,hd,hv⟩;simp only[PM];by_cases h:i<x.length
  ·left;rw[it_d (by omega),B1 hx (by omega)];simp only[Ab,B2];obtain⟨o,e,g1,g2,g3⟩:=wzir hx hy nx ny h hl hd hv;rw[e];simp only[Ab];rw[A7 (by omega)];exact⟨_,rfl,⟨i+1,o,rfl,by omega,g1,g2,g3⟩,by dsimp only;omega⟩
  ·right;rw[it_n (by omega)];refine⟨_,rfl,hl,hd,?_⟩;rw[show i=x.length by omega]at hv;exact hv) ⟨0,_,rfl,by omega,by simp,I3,by unfold Hold val;rw[CJ (g:=fun _=>0) fun i _=>GX _ i,Kt];simp[vl]⟩ (by dsimp only;omega)
 rw[e];simp only[Ab];rw[DE h2 (by omega),show val b32 o=_ from h3];rfl
theorem wzk1{n:Nat}(h:n<18446744073709551616):IntKind.wrap .u64 (n:Int)=n:=by unfold IntKind.wrap;simp[IntKind.signed,IntKind.bits];omega
theorem Qz{hi lo:Nat}(h1:hi<4294967296)(h2:lo<4294967296):bitI .or .u64 (((hi:Int)*4294967296)%18446744073709551616) ((lo:Int)%18446744073709551616)=((hi*4294967296+lo:Nat):Int):=by
 rw[show((hi:Int)*4294967296)%18446744073709551616=((hi*4294967296:Nat):Int) by omega,show(lo:Int)%18446744073709551616=((lo:Nat):Int) by omega]
 have e:hi*4294967296+lo=(hi*4294967296) ||| lo:=by
  have:=Nat.shiftLeft_add_eq_or_of_lt (b:=lo) (i:=32) (by omega) hi
  rwa [Nat.shiftLeft_eq]at this
 have eb:(BitVec.ofInt 64 ((hi*4294967296:Nat):Int) ||| BitVec.ofInt 64 (lo:Int)).toNat=hi*4294967296+lo:=by rw[BitVec.toNat_or,BitVec.ofInt_natCast,BitVec.ofInt_natCast,BitVec.toNat_ofNat,BitVec.toNat_ofNat,C2 (by omega),C2 (by omega),<-e]
 unfold bitI;show IntKind.wrap .u64 (((BitVec.ofInt 64 ((hi*4294967296:Nat):Int) ||| BitVec.ofInt 64 (lo:Int)).toNat:Nat):Int)=_;rw[eb];exact wzk1 (by omega)
theorem wzku{x:List Int}{d:Nat}(hx:Dg b32 x)(nx:x.length<=274877906944)(iG:0<d)(iI:d<4294967296):Iq x (d:Int)=some (dl (val b32 x / d),((val b32 x%d:Nat):Int)):=by
 unfold Iq;rw[M8 (by omega),A7 (by omega)];rw[show Int.toNat (x.length:Int)=x.length by omega]
 obtain⟨⟨r',o⟩,e,h1,h2,r,hr,h3,h4⟩:=C6 (s:=(0,(x.length:Int)-1,List.replicate x.length 0)) (body:=PL (d:Int) x) (fun s=>∃(r k:Nat) (l:List Int),s=((r:Int),(k:Int)-1,l)/\k<=x.length/\r<d/\l.length=x.length/\Dg b32 l/\(∀j,j<k->lf l j=0)/\Hold (val b32 x=d*val b32 l+r*b32.n ^ k+vl b32 (lf x) k)) (fun s=>(s.2.1+1).toNat) (fun s=>s.2.length=x.length/\Dg b32 s.2/\(∃r:Nat,s.1=(r:Int)/\r<d/\Hold (val b32 x=d*val b32 s.2+r))) (by
  rintro s ⟨r,k,l,rfl,hk,hr,hl,hd,hz,hv⟩;simp only[PL];by_cases h:0<k
  ·left;obtain⟨k,rfl⟩:∃j,k=j+1:=⟨k-1,by omega⟩;have dc:((k+1:Nat):Int)-1=(k:Int):=by omega
   rw[dc];rw[it_d (by omega),B1 hx (by omega)];have a1:=Bi hx k;rw[B8]at a1;simp only[Ab,B2];rw[show(d:Int)%18446744073709551616=(d:Int) by omega];rw[Qv (by omega),Qv (by omega),B1 hd (by omega),Qz (by omega) a1];simp only[Ab,B2];rw[A7 (by omega)];have hq:=Jm (r*4294967296+lf x k) d;have hm:=Gj (r*4294967296+lf x k) iG;have pA:(r*4294967296+lf x k) / d<4294967296:=by rw[H7 iG];have:(r+1)*4294967296<=d*4294967296:=Bd _ hr;rw[Bb 4294967296 d];omega
   rw[Int.tmod_eq_emod_of_nonneg (by omega),SI (by omega),<-Int.natCast_emod,<-Int.natCast_ediv];generalize hQ:(r*4294967296+lf x k) / d=q at *;generalize hR:(r*4294967296+lf x k)%d=r' at *;rw[show((q:Int)%18446744073709551616)%4294967296=(q:Int) by omega];refine⟨_,rfl,⟨r',k,_,rfl,by omega,hm,by rw[List.length_set];exact hl,M9 hd (by rw[B8];omega),?_,?_⟩,by dsimp only;omega⟩
   ·intro j hj;rw[I0 (by omega),Ag (by omega)];exact hz j (by omega)
   ·have aL:=wza3 (b:=b32) (out:=lf l) (x:=lf x) (n:=x.length) (k:=k) (by':=d) (r:=r) (q:=q) (r':=r') (by unfold Hold val at hv;rw[hl]at hv;exact hv) (by omega) (hz k (by omega)) (by rw[B8,Bb q d];exact hq.symm);unfold Hold;rw[show val b32 x=vl b32 (lf x) x.length from rfl,aL];congr 3;unfold val;rw[J0,hl];refine CJ fun j hj=>?_;rw[I0 (by omega),B2]
  ·right;have ka:k=0:=by omega
   subst ka;rw[it_n (by omega)];refine⟨_,rfl,hl,hd,r,rfl,hr,?_⟩;unfold Hold at *
   rw[hv];simp[vl]) ⟨0,x.length,_,rfl,A8 _,iG,by simp,I3,fun j _=>GX _ j,by
    unfold Hold;have:val b32 (List.replicate x.length 0)=0:=by unfold val;rw[CJ (g:=fun _=>0) fun i _=>GX _ i,Kt]
    rw[this];simp[val]⟩ (by dsimp only;omega)
 dsimp only at hr h1 h2 h4;subst hr;rw[e];simp only[Ab];rw[DE h2 (by omega)];simp only[Ab];unfold Hold at h4;have lF:val b32 x / d=val b32 o:=by rw[h4,Lm iG,Jo h3];rfl
 have jy:val b32 x%d=r:=by rw[h4,NX,C2 h3]
 rw[lF,jy];congr 2;omega
theorem Zk{v d:Nat}(hv:ln v<=274877906944)(iG:0<d)(iI:d<4294967296):Iq (dl v) (d:Int)=some (dl (v / d),((v%d:Nat):Int)):=by rw[wzku (BT v) (by rw[Cq];exact hv) iG iI,DC]
theorem Q0{d:Nat}(h0:0<d)(h1:d<4294967296):dl d=[(d:Int)]:=by
 have hd:Dg b32 [(d:Int)]:=DB (by rw[B8];omega);have e:=Zg hd (Or.inr (by simp[lf];omega));have hv:val b32 [(d:Int)]=d:=by simp[val,vl,lf]
 rw[hv]at e;exact e.symm
theorem Q1{u v:Nat}(hu:ln u<=274877906944)(hv:ln v<=274877906944):GP (dl u) (dl v)=some (dl (u*v)):=by rw[wzis (BT u) (BT v) (by rw[Cq];exact hu) (by rw[Cq];exact hv),DC,DC]
theorem wzpp{u v:Nat}(hu:ln u<=274877906944)(hv:ln v<=274877906944):Ki (dl u) (dl v)=some (dl (u+v)):=by rw[wzp0 (BT u) (BT v) (by rw[Cq];omega) (by rw[Cq];omega),DC,DC]
theorem Q2{u v:Nat}(hu:ln u<=274877906944)(h:v<=u):GQ (dl u) (dl v)=some (dl (u-v)):=by rw[wzko (BT u) (BT v) (by rw[Cq];omega) (by rw[DC,DC];exact h),DC,DC]
theorem Q3{v b:Nat}(hv:ln v<=274877906944)(hb:b<=31):yze (dl v) (b:Int)=some (dl (v*2 ^ b)):=by
 unfold yze;have p1:2 ^ b<=2 ^ 31:=Cr (by decide) hb;have p2:0<2 ^ b:=Nat.pow_pos (by decide);have e:(1*2 ^ min (Int.toNat (b:Int)) 32)%4294967296=((2 ^ b:Nat):Int):=by rw[show min (Int.toNat (b:Int)) 32=b by omega,Int.one_mul,Int.natCast_pow];have p3:((2:Nat):Int) ^ b=((2 ^ b:Nat):Int):=(Int.natCast_pow 2 b).symm;simp only[Int.cast_ofNat_Int]at p3 |-;rw[p3];omega
 rw[it_n (by omega),ck_d (by omega),e,<-Q0 p2 (by omega),Q1 hv (AS (FL (n:=1) (by rw[Nat.pow_one,B8];omega)) (by omega))];rfl
theorem qz68{v b:Nat}(hv:ln v<=274877906944)(hb:b<=31):yze (dl v) (-(b:Int))=some (dl (v / 2 ^ b)):=by
 by_cases h0:b=0
 ·subst h0;have:=Q3 (v:=v) (b:=0) hv (by omega);simp only[Int.natCast_zero,Nat.pow_zero,Nat.mul_one]at this;simp[this]
 unfold yze;have p1:2 ^ b<=2 ^ 31:=Cr (by decide) hb;have p2:0<2 ^ b:=Nat.pow_pos (by decide);have e:(1*2 ^ min (Int.toNat (- -(b:Int))) 32)%4294967296=((2 ^ b:Nat):Int):=by rw[show min (Int.toNat (- -(b:Int))) 32=b by omega,Int.one_mul,Int.natCast_pow];have p3:((2:Nat):Int) ^ b=((2 ^ b:Nat):Int):=(Int.natCast_pow 2 b).symm;simp only[Int.cast_ofNat_Int]at p3 |-;rw[p3];omega
 rw[it_d (by omega),A7 (by omega),ck_d (by omega),e,Zk hv p2 (by omega)];rfl
theorem Zl(x:Int):Kb x=some false:=by unfold Kb;simp
theorem Zm(x:Int):Kc x=some false:=by unfold Kc;simp
def cmpI(x y:Int):Int:=if x<y then -1 else if y<x then 1 else 0
theorem wzt0(x y:Int):Mi x y=some (cmpI x y):=by
 unfold Mi cmpI;rw[Zl,Zl];simp only[Ab,Du];split
 ·rename_i h;rw[it_d h]
 ·rename_i h;rw[it_n h];split
  ·rename_i h;rw[it_d h]
  ·rename_i h;rw[it_n h]
theorem wzrt(x y:Int):Mj x y=some (cmpI x y):=by
 unfold Mj cmpI;rw[Zm,Zm];simp only[Ab,Du];split
 ·rename_i h;rw[it_d h]
 ·rename_i h;rw[it_n h];split
  ·rename_i h;rw[it_d h]
  ·rename_i h;rw[it_n h]
theorem MD{u v:Nat}(hu:ln u<=274877906944)(hv:ln v<=274877906944):yzf (dl u) (dl v)=some (cmpI u v):=by
 unfold yzf;rw[wzt0,Cq,Cq];simp only[Ab];rcases Nat.lt_trichotomy (ln u) (ln v) with h|h|h
 ·have hlt:u<v:=by
   rcases C8 u v with h'|h'
   ·exact h'
   ·have:=Di h';omega
  rw[show cmpI (ln u:Int) (ln v:Int) = -1 by unfold cmpI;rw[Aj (by omega)],B9 (by omega),show cmpI (u:Int) (v:Int) = -1 by unfold cmpI;rw[Aj (by omega)]]
 ·rw[show cmpI (ln u:Int) (ln v:Int)=0 by unfold cmpI;rw[Ag (by omega),Ag (by omega)],B0 rfl,A7 (by omega)]
  obtain⟨o,e,ho⟩:=C6 (s:=(ln u:Int)-1) (body:=PS (dl u) (dl v)) (fun s=>∃k:Nat,s=(k:Int)-1/\k<=ln u/\∀j,k<=j->j<ln u->dg b32 u j=dg b32 v j) (fun s=>(s+1).toNat) (fun o=>o=if u=v then .inl () else .inr (cmpI u v)) (by
   rintro s ⟨k,rfl,hk,hj⟩;simp only[PS];by_cases h0:0<k
   ·obtain⟨k,rfl⟩:∃j,k=j+1:=⟨k-1,by omega⟩;have dc:((k+1:Nat):Int)-1=(k:Int):=(by omega);rw[dc,it_d (by omega),B1 (BT u) (by rw[Cq];omega),B1 (BT v) (by rw[Cq];omega)];simp only[Ab,B2];rw[wzrt,EX,EX];simp only[Ab];have my:vl b32 (dg b32 u) (ln u)=u:=Ix u;have iL:vl b32 (dg b32 v) (ln u)=v:=(by rw[h];exact Ix v);rcases Nat.lt_trichotomy (dg b32 u k) (dg b32 v k) with h1|h1|h1
    ·right;have hlt:=Qm (b:=b32) (f:=dg b32 u) (g:=dg b32 v) (fun i _=>Eg u i) h1 (n:=ln u) (by omega) (fun i hi jw=>hj i (by omega) jw);rw[my,iL]at hlt;rw[show cmpI (dg b32 u k:Int) (dg b32 v k:Int) = -1 by unfold cmpI;rw[Aj (by omega)],B9 (by omega)];refine⟨_,rfl,?_⟩;rw[Ag (by omega),show cmpI (u:Int) (v:Int) = -1 by unfold cmpI;rw[Aj (by omega)]]
    ·left;rw[show cmpI (dg b32 u k:Int) (dg b32 v k:Int)=0 by unfold cmpI;rw[Ag (by omega),Ag (by omega)],B0 rfl,A7 (by omega)];refine⟨_,rfl,⟨k,rfl,by omega,fun j h2 h3=>?_⟩,by omega⟩;rcases C8 k j with h4|h4
     ·exact hj j (by omega) h3
     ·rw[show j=k by omega];exact h1
    ·right;have hlt:=Qm (b:=b32) (f:=dg b32 v) (g:=dg b32 u) (fun i _=>Eg v i) h1 (n:=ln u) (by omega) (fun i hi jw=>(hj i (by omega) jw).symm);rw[my,iL]at hlt;rw[show cmpI (dg b32 u k:Int) (dg b32 v k:Int)=1 by unfold cmpI;rw[Ag (by omega),Aj (by omega)],B9 (by omega)];refine⟨_,rfl,?_⟩;rw[Ag (by omega),show cmpI (u:Int) (v:Int)=1 by unfold cmpI;rw[Ag (by omega),Aj (by omega)]]
   ·right;rw[it_n (by omega)];refine⟨_,rfl,?_⟩;have dG:u=v:=by rw[<-Ix u,<-Ix v,<-h];exact CJ fun i hi=>hj i (by omega) hi
    rw[Aj dG]) ⟨ln u,rfl,A8 _,fun j h1 h2=>by omega⟩ (by show((ln u:Int)-1+1).toNat<_;omega)
  rw[e,ho];by_cases dG:u=v
  ·subst dG;rw[Aj rfl,show cmpI (u:Int) (u:Int)=0 by unfold cmpI;rw[Ag (by omega),Ag (by omega)]];rfl
  ·rw[Ag dG];rfl
 ·have hlt:v<u:=by
   rcases C8 v u with h'|h'
   ·exact h'
   ·have:=Di h';omega
  rw[show cmpI (ln u:Int) (ln v:Int)=1 by unfold cmpI;rw[Ag (by omega),Aj (by omega)],B9 (by omega),show cmpI (u:Int) (v:Int)=1 by unfold cmpI;rw[Ag (by omega),Aj (by omega)]]
theorem wzuc{v:Nat}(hv:ln v<=274877906944)(h0:v≠0):∃b:Nat,lp (Mp (dl v)) 0=some (b:Int)/\b<=31/\2147483648<=dg b32 v (ln v-1)*2 ^ b/\dg b32 v (ln v-1)*2 ^ b<4294967296:=by
 have hp:=Kw h0;have ht:dg b32 v (ln v-1)≠0:=(wzp7 v).resolve_left (by omega);have m4:=Eg (b:=b32) v (ln v-1);rw[B8]at m4
 obtain⟨o,e,b,rfl,h1,h2,h3⟩:=C6 (s:=(0:Int)) (body:=Mp (dl v)) (fun s=>∃b:Nat,s=(b:Int)/\b<=31/\dg b32 v (ln v-1)*2 ^ b<4294967296) (fun s=>32-s.toNat) (fun o=>∃b:Nat,o=(b:Int)/\b<=31/\2147483648<=dg b32 v (ln v-1)*2 ^ b/\dg b32 v (ln v-1)*2 ^ b<4294967296) (by
  rintro s ⟨b,rfl,hb,hlt⟩;simp only[Mp,Cq];rw[A7 (by omega),B1 (BT v) (by rw[Cq];omega)];simp only[Ab];rw[ck_d (by omega),show Int.toNat ((ln v:Int)-1)=ln v-1 by omega,EX,show min (Int.toNat (b:Int)) 32=b by omega];have e1:(dg b32 v (ln v-1):Int)*2 ^ b=((dg b32 v (ln v-1)*2 ^ b:Nat):Int):=by have p3:((2:Nat):Int) ^ b=((2 ^ b:Nat):Int):=(Int.natCast_pow 2 b).symm;simp only[Int.cast_ofNat_Int]at p3;rw[p3,<-NS]
  rw[e1];generalize hT:dg b32 v (ln v-1)*2 ^ b=T at *;by_cases h:T<2147483648
  ·left;rw[it_d (by omega),A7 (by omega)]
   have ot:b<31:=by
    rcases C8 b 31 with h'|h'
    ·exact h'
    ·have h6:1*2 ^ 31<=dg b32 v (ln v-1)*2 ^ b:=Nat.mul_le_mul (by omega) (Cr (by decide) h');omega
   refine⟨_,rfl,⟨b+1,by omega,by omega,?_⟩,by omega⟩;rw[Dr,<-E3,hT];omega
  ·right;rw[it_n (by omega)];exact⟨_,rfl,b,rfl,hb,by omega,by omega⟩) ⟨0,rfl,by omega,by simpa using m4⟩ (by show 32-(0:Int).toNat<_;omega)
 exact⟨b,e,h1,h2,h3⟩
theorem wzvn{j n d g left t0:Nat}{l r:List Int}(hl:Dg b32 l)(hr:Dg b32 r)(hn:r.length=n)(h2:2<=n)(hj:j+n<=l.length)(hL:l.length<=1099511627776)(key:∀g left:Nat,left+g*lf r (n-1)=t0->left*b32.n+lf l (j+n-2)<g*lf r (n-2)->d<g) (hd:d<=g) (hg:g<4294967296) (gn:left+g*lf r (n-1)=t0) (i7:left<18446744073709551616) : ∃g':Nat,lp (Mq (j:Int) l r) ((g:Int),(left:Int))=some (g':Int)/\d<=g'/\g'<=g:=by
 obtain⟨o,e,g',rfl,h3,h4⟩:=C6 (s:=((g:Int),(left:Int))) (body:=Mq (j:Int) l r) (fun s=>∃g2 left:Nat,s=((g2:Int),(left:Int))/\d<=g2/\g2<=g/\Hold (left+g2*lf r (n-1)=t0)/\left<18446744073709551616) (fun s=>s.1.toNat) (fun o=>∃g':Nat,o=(g':Int)/\d<=g'/\g'<=g) (by
  clear hd gn i7;rintro s ⟨g2,left,rfl,hd,iJ,hv,hb⟩;have kS:g2<4294967296:=by omega
  simp only[Mq];have a1:=Bi hr (n-1);have a2:=Bi hr (n-2);have a3:=Bi hl (j+n-2);rw[B8]at a1 a2 a3;have key':=key g2 left hv;clear key;rw[hn];rw[ck_o (fun _=>by simp only[Au,CN];omega)];by_cases h:left<4294967296
  ·have lG:decide ((left:Int)<4294967296)=true:=AD (by omega);rw[lG];simp only[Br,E4,Bool.false_or,BZ];rw[B1 hr (by omega)];simp only[Ab];rw[ck_t (by simp only[Au,CN];omega),ck_t (by simp only[Au,CN];omega),B1 hl (by omega)];simp only[Ab];rw[show Int.toNat ((n:Int)-2)=n-2 by omega,show Int.toNat ((j:Int)+n-2)=j+n-2 by omega];rw[Qz h a3];obtain⟨m1,m2⟩:=Zj kS a2;rw[show((g2:Int)*((lf r (n-2):Int)%18446744073709551616))%18446744073709551616=((g2*lf r (n-2):Nat):Int) by rw[show(lf r (n-2):Int)%18446744073709551616=lf r (n-2) by omega];rw[show(g2:Int)%18446744073709551616=g2 by omega]at m1;exact m1];rw[B8]at key';generalize g2*lf r (n-2)=q at *;by_cases hc:left*4294967296+lf l (j+n-2)<q
   ·left;have lH:=key' hc;rw[it_d (by omega),A7 (by omega),B1 hr (by omega),show Int.toNat ((n:Int)-1)=n-1 by omega];simp only[Ab];refine⟨_,rfl,⟨g2-1,left+lf r (n-1),?_,by omega,by omega,?_,by omega⟩,by dsimp only;omega⟩
    ·refine Prod.ext ?_ ?_;·dsimp only;omega
     ·dsimp only;omega
    ·unfold Hold at hv |-;obtain⟨k,rfl⟩:∃k,g2=k+1:=⟨g2-1,by omega⟩;rw[<-hv,Nat.add_sub_cancel,AT];omega
   ·right;rw[it_n (by omega)];exact⟨_,rfl,g2,rfl,hd,iJ⟩
  ·have lG:decide ((left:Int)<4294967296)=false:=AA (by omega);rw[lG];simp only[Bs,Ab,Ft,Bool.true_or,Co,wzps,Du];right;exact⟨_,rfl,g2,rfl,hd,iJ⟩) ⟨g,left,rfl,hd,A8 _,gn,i7⟩ (by show(g:Int).toNat<_;omega)
 exact⟨g',e,h3,h4⟩
theorem wzsv{l:List Int}{lo hi i:Nat}(h:i<hi-lo):lf (sub l (lo:Int) (hi:Int)) i=lf l (lo+i):=by unfold lf sub;rw[show Int.toNat (lo:Int)=lo by omega,show Int.toNat ((hi:Int)-lo)=hi-lo by omega,HC,Aj h,Gf]
theorem Q4{l:List Int}{lo hi:Nat}(h:lo<=hi)(h2:hi<=l.length):(sub l (lo:Int) (hi:Int)).length=hi-lo:=by simp only[sub,Gs,H5];omega
theorem Zn(v j i:Nat):dg b32 v (j+i)=dg b32 (v / b32.n ^ j) i:=by unfold dg;rw[HD,SM]
theorem wzph{l:List Int}{R j n:Nat}(hd:∀i,lf l i=dg b32 R i)(hj:j+n<=l.length)(hR:R<b32.n ^ (j+n)):val b32 (sub l (j:Int) ((j+n:Nat):Int))=R / b32.n ^ j:=by unfold val;rw[Q4 (by omega) hj,show j+n-j=n by omega];rw[CJ (g:=dg b32 (R / b32.n ^ j)) fun i hi=>by rw[wzsv (by omega),hd,Zn],M1];refine C2 ?_;rw[H7 (b32.pw j),<-HD,Nat.add_comm n j];exact hR
theorem Q5{l:List Int}(h0:0<l.length)(h:l.length<=1099511627776):F4 l=some l:=by unfold F4;exact ck_t (by simp;omega)
theorem wzvd{j n P V g:Nat}{l:List Int}(hl:Dg b32 l)(hn:ln V=n)(hj:j+n+1<=l.length)(hL:l.length<=274877906944)(hP:val b32 (sub l (j:Int) ((j+(n+1):Nat):Int))=P)(hV:0<V)(hd:P / V<=g)(hg:g<4294967296) :
  lp (PX (j:Int) l (dl V)) ((g:Int),dl (V*g))=some (((P / V:Nat):Int),dl (V*(P / V))):=by
 have aE:(sub l (j:Int) ((j+(n+1):Nat):Int)).length=n+1:=by rw[Q4 (by omega) (by omega)];omega
 have ov:ln P<=n+1:=by have:=FK (Qw hl (j:Int) ((j+(n+1):Nat):Int));rw[hP,aE]at this;exact FL this
 refine ME (fun s=>∃g:Nat,s=((g:Int),dl (V*g))/\P / V<=g/\g<4294967296) (fun s=>s.1.toNat) _ ?_ ⟨g,rfl,hd,hg⟩ (by show(g:Int).toNat<_;omega);rintro s ⟨g,rfl,hd,hg⟩;simp only[PX,Cq,hn];have pB:ln (V*g)<=n+1:=by refine FL ?_;rw[Dr];refine Nat.mul_lt_mul'' ?_ (by rw[B8];exact hg);rw[<-hn];exact D7 V
 rw[show(j:Int)+n+1=((j+(n+1):Nat):Int) by omega]
 (try rw[D9 (by omega)])
 rw[Q5 (by omega) (by omega)];simp only[Ab];rw[DE (Qw hl _ _) (by omega),hP];simp only[Ab];rw[MD (by omega) (by omega)];simp only[Ab];have f1:P<V*g->P / V<g:=fun h=>by rw[H7 hV,Bb];exact h
 have f2:¬P<V*g->g<=P / V:=fun h=>by rw[Od hV,Bb];omega
 generalize P / V=D at *;by_cases h:P<V*g
 ·left;have hlt:=f1 h;have aC:V<=V*g:=Nat.le_mul_of_pos_right V (by omega);rw[it_d (by unfold cmpI;rw[Aj (by omega)];omega),Q2 (by omega) aC];simp only[Ab];refine⟨_,rfl,⟨g-1,?_,by omega,by omega⟩,by dsimp only;omega⟩;refine Prod.ext ?_ ?_
  ·dsimp only;omega
  ·dsimp only;congr 1;obtain⟨k,rfl⟩:∃k,g=k+1:=⟨g-1,by omega⟩;rw[Nat.add_sub_cancel,Nat.mul_add];omega
 ·right;have heq:D=g:=Nat.le_antisymm hd (f2 h);rw[it_n (by unfold cmpI;rw[Ag (by omega)];split<;>omega),heq]
theorem Q6{l:List Int}(hl:Dg b32 l)(i:Nat):lf l i=dg b32 (val b32 l) i:=by
 by_cases h:i<l.length
 ·exact(Qn (fun i _=>Bi hl i) i h).symm
 ·rw[Iz (by omega),Qo];exact Gi (FK hl) (Cr b32.pos (by omega))
theorem wzkt(R j:Nat):R=R%b32.n ^ j+b32.n ^ j*(R / b32.n ^ j):=(Nat.mod_add_div R (b32.n ^ j)).symm
theorem wzq4{l d:List Int}{j n:Nat}(hl:Dg b32 l)(hd:Dg b32 d)(jX:d.length<=n)(hj:j+n<=l.length)(hz:val b32 l<b32.n ^ (j+n)) :
  Dg b32 (Bx (Bx l j (List.replicate n 0)) j (List.take n d))/\(Bx (Bx l j (List.replicate n 0)) j (List.take n d)).length=l.length/\val b32 (Bx (Bx l j (List.replicate n 0)) j (List.take n d))=val b32 d*b32.n ^ j+val b32 l%b32.n ^ j:=by
 rw[SF jX];have e1:(Bx l j (List.replicate n 0)).length=l.length:=Kx (by simp;omega);have e2:(Bx (Bx l j (List.replicate n 0)) j d).length=l.length:=by rw[Kx (by rw[e1];omega),e1]
 have dp:∀(l new:List Int) (i:Nat),Dg b32 l->Dg b32 new->Dg b32 (Bx l i new):=fun l new i h1 h2=>DA (DA (fun x hx=>h1 x (List.mem_of_mem_take hx)) h2) (fun x hx=>h1 x (Gca hx));have hD:Dg b32 (Bx (Bx l j (List.replicate n 0)) j d):=dp _ _ _ (dp _ _ _ hl I3) hd;refine⟨hD,e2,?_⟩;have lo:∀i,i<j->lf (Bx (Bx l j (List.replicate n 0)) j d) i=lf l i:=by intro i hi;unfold lf Bx;rw[List.append_assoc,Fu (by simp;omega),HC,Aj hi,List.append_assoc,Fu (by simp;omega),HC,Aj hi]
 have aW:∀i,lf (Bx (Bx l j (List.replicate n 0)) j d) (j+i)=lf d i:=by
  intro i;have fM:∀k,j+n<=k->lf l k=0:=fun k hk=>by rw[Q6 hl,Qo];exact Gi hz (Cr b32.pos hk)
  have g1:∀(l new:List Int) (cn:j<=l.length),lf (Bx l j new) (j+i)=if i<new.length then lf new i else lf l (j+i):=by
   intro l new cn;unfold lf Bx;have hlt:(l.take j).length=j:=by rw[Gs];omega
   rw[List.append_assoc,Ge (by rw[hlt];omega),hlt,show j+i-j=i by omega];split
   ·rename_i h;rw[Fu h]
   ·rename_i h;rw[Ge (by omega),Gf,show j+new.length+(i-new.length)=j+i by omega]
  rw[g1 _ _ (by rw[e1];omega)];split
  ·rfl
  ·rename_i h;rw[g1 _ _ (by omega),Iz (l:=d) (by omega)];split
   ·exact GX _ _
   ·rename_i h2;simp only[Ob]at h2;exact fM _ (by omega)
 unfold val;obtain⟨m,hm⟩:∃m,l.length=j+m:=⟨l.length-j,by omega⟩;have eU:vl b32 (lf l) j=val b32 l%b32.n ^ j:=by rw[<-M1];exact CJ fun i _=>Q6 hl i
 rw[e2,hm,Ks,CJ lo,CJ (n:=m) (fun i _=>aW i),CL (by omega:d.length<=m),eU,Bb (b32.n ^ j),Nat.add_comm,<-hm];rfl
theorem Zo{R j n:Nat}(h:R<b32.n ^ (j+n+1))(h2:1<=n):R / b32.n ^ j / b32.n ^ (n-1)=dg b32 R (j+n)*b32.n+dg b32 R (j+n-1):=by
 obtain⟨m,rfl⟩:∃m,n=m+1:=⟨n-1,by omega⟩;rw[Nat.add_sub_cancel,SM,<-HD,show j+(m+1)-1=j+m by omega];unfold dg;rw[show j+(m+1)=(j+m)+1 by omega]at h |-;generalize j+m=k at *;have e:R / b32.n ^ (k+1)=R / b32.n ^ k / b32.n:=by rw[Dr,SM]
 have hlt:R / b32.n ^ k / b32.n<b32.n:=by rw[<-e,H7 (b32.pw _),<-Nat.pow_succ',];exact h
 rw[e,C2 hlt];have:=Jm (R / b32.n ^ k) b32.n;rw[Bb]at this;exact this.symm
theorem Ky(P n:Nat):P=P / b32.n ^ n*b32.n ^ n+P%b32.n ^ n:=by have:=Jm P (b32.n ^ n);rw[Bb]at this;exact this.symm
theorem wzwz{V n j R:Nat}{l q:List Int}(hl:Dg b32 l)(hq:Dg b32 q)(hV:ln V=n)(h2:2<=n)(iE:2147483648<=dg b32 V (n-1))(hR:val b32 l=R)(m5:R<V*b32.n ^ (j+1))(hj:j+n+1<=l.length)(hL:l.length<=274877906944)(ox:R / b32.n ^ j / b32.n ^ (n-1)≠0->j<q.length) (oy:lf q j=0) (hQ:q.length<=274877906944) {X:Nat} (hX:X=V*val b32 q+R) : ∃l' q',Is (dl V) ((j:Int),l,q)=some (.inl ((j:Int)-1,l',q'))/\Dg b32 l'/\Dg b32 q'/\l'.length=l.length/\q'.length=q.length/\X=V*val b32 q'+val b32 l'/\val b32 l'<V*b32.n ^ j/\(∀i,i≠j->lf q' i=lf q i):=by
 have kj:V<b32.n ^ n:=by rw[<-hV];exact D7 V
 have jz:0<V:=by
  rcases E7 V with h|h
  ·rw[h]at hV;rw[MA]at hV;omega
  ·exact h
 have lI:R<b32.n ^ (j+n+1):=by rw[show j+n+1=n+(j+1) by omega,HD];exact Gi m5 (Bd _ (Gu kj))
 have gJ:∀i,lf l i=dg b32 R i:=fun i=>by rw[Q6 hl,hR]
 have fJ:=Zo lI (by omega:1<=n);have m6:=wzkt R j;have j8:R / b32.n ^ j<V*b32.n:=by rw[H7 (b32.pw j),E3,<-Nat.pow_succ'];exact m5
 have j9:R%b32.n ^ j<b32.n ^ j:=Gj _ (b32.pw j);have eG:=wzph (l:=l) (R:=R) (j:=j) (n:=n+1) gJ (by omega) (by rw[show j+(n+1)=j+n+1 by omega];exact lI);generalize hP:R / b32.n ^ j=P at *;have pC:P / V<4294967296:=by rw[H7 jz,Bb];exact j8
 have jA:P / V*V<=P:=Nat.div_mul_le_self P V
 have jC:P<(P / V+1)*V:=by
  have:=Nat.lt_mul_div_succ P jz
  rwa [Bb]at this
 have oz:V=dg b32 V (n-1)*b32.n ^ (n-1)+V%b32.n ^ (n-1):=by
  have e:V / b32.n ^ (n-1)=dg b32 V (n-1):=by unfold dg;rw[C2];rw[H7 (b32.pw _),<-Nat.pow_succ',Nat.succ_eq_add_one,show n-1+1=n by omega];exact kj
  have:=Ky V (n-1);rw[e]at this;exact this
 have lJ:V=(dg b32 V (n-1)*b32.n+dg b32 V (n-2))*b32.n ^ (n-2)+V%b32.n ^ (n-2):=by have e:=Zo (R:=V) (j:=0) (n:=n-1) (by rw[show 0+(n-1)+1=n by omega];exact kj) (by omega);rw[Nat.pow_zero,Nat.div_one,show n-1-1=n-2 by omega,show 0+(n-1)=n-1 by omega,show n-1-1=n-2 by omega]at e;have:=Ky V (n-2);rw[e]at this;exact this
 have m8:=Ky P (n-1);rw[fJ]at m8
 have lK:P=((dg b32 R (j+n)*b32.n+dg b32 R (j+n-1))*b32.n+dg b32 R (j+n-2))*b32.n ^ (n-2)+P%b32.n ^ (n-2):=by
  have e2:P / b32.n ^ (n-2)=(dg b32 R (j+n)*b32.n+dg b32 R (j+n-1))*b32.n+dg b32 R (j+n-2):=by
   rw[<-fJ];have a:P / b32.n ^ (n-1)=P / b32.n ^ (n-2) / b32.n:=by rw[show n-1=n-2+1 by omega,Dr,SM]
   have c:dg b32 R (j+n-2)=P / b32.n ^ (n-2)%b32.n:=by rw[show j+n-2=j+(n-2) by omega,Zn,hP];rfl
   rw[a,c];have:=Jm (P / b32.n ^ (n-2)) b32.n;rw[Bb]at this;exact this.symm
  have:=Ky P (n-2);rw[e2]at this;exact this
 have lF:=Eg (b:=b32) V (n-1);have jy:=Eg (b:=b32) V (n-2);have m9:=Eg (b:=b32) R (j+n);have mA:=Eg (b:=b32) R (j+n-1);have ge:=Eg (b:=b32) R (j+n-2)
 have hgt:P / V<=(dg b32 R (j+n)*b32.n+dg b32 R (j+n-1)) / dg b32 V (n-1) :=
  wzef oz m8 (Gj _ (b32.pw _)) jA (by omega)
 have key:∀g left:Nat,left+g*dg b32 V (n-1)=dg b32 R (j+n)*b32.n+dg b32 R (j+n-1)->left*b32.n+dg b32 R (j+n-2)<g*dg b32 V (n-2)->P / V<g:=fun g left hl hb =>
  qz65 (b:=b32) (v:=V) (v1:=dg b32 V (n-1)) (v2:=dg b32 V (n-2)) (part:=P) lJ lK (Gj _ (b32.pw _)) jA hl hb
 simp only[Is,Cq,hV];rw[it_d (by omega),A7 (by omega),B1 hl (by omega)];simp only[Ab];rw[A7 (by omega),A7 (by omega),B1 hl (by omega)];simp only[Ab];rw[A7 (by omega),B1 (BT V) (by rw[Cq];omega)];simp only[Ab];rw[show Int.toNat ((j:Int)+n)=j+n by omega,show Int.toNat ((j:Int)+n-1)=j+n-1 by omega,show Int.toNat ((n:Int)-1)=n-1 by omega,EX,gJ,gJ];rw[B8]at lF jy m9 mA ge;rw[show(dg b32 V (n-1):Int)%18446744073709551616=(dg b32 V (n-1):Int) by omega];rw[Qv (by omega),A7 (by omega)];rw[show(dg b32 R (j+n):Int)%18446744073709551616=(dg b32 R (j+n):Int) by omega];rw[Qz m9 mA];rw[B8]at fJ hgt key;generalize hT:dg b32 R (j+n)*4294967296+dg b32 R (j+n-1)=T at *;have pD:T<18446744073709551616:=by omega
 generalize jD:dg b32 V (n-1)=v1 at *;have o6:T / v1*v1<=T:=Nat.div_mul_le_self T v1;have lL:min ((((T:Nat):Int).tdiv (v1:Int))%18446744073709551616) 4294967295=((min (T / v1) 4294967295:Nat):Int):=by rw[SI (by omega),<-Int.natCast_ediv];have:T / v1<=T:=Nat.div_le_self _ _;generalize T / v1=w at *;omega
 rw[lL];have pE:T / v1<=T:=Nat.div_le_self _ _;generalize T / v1=w at *;generalize gm:min w 4294967295=g0 at *;have lM:g0<4294967296:=by omega
 have lN:P / V<=g0:=by omega
 have o7:g0*v1<=T:=AS (Bd _ (by omega)) o6;have lO:(((T:Nat):Int)-((g0:Int)*(v1:Int))%18446744073709551616)%18446744073709551616=((T-g0*v1:Nat):Int):=by rw[<-NS];generalize g0*v1=z at *;omega
 rw[lO];obtain⟨g,eg,lH,kf⟩:=wzvn (j:=j) (n:=n) (d:=P / V) (g:=g0) (left:=T-g0*v1) (t0:=T) (l:=l) (r:=dl V) hl (BT V) (by rw[Cq];exact hV) h2 (by omega) (by omega) (by intro g left h1 h3;rw[EX,jD]at h1;rw[EX,gJ,B8]at h3;exact key g left h1 h3) lN lM (by rw[EX,jD];omega) (by omega);rw[eg];simp only[Ab];by_cases h0:g=0
 ·subst h0;have oB:P<V:=by rw[Nat.eq_zero_of_le_zero lH]at jC;omega
  rw[it_d (by omega)];simp only[Ab];rw[A7 (by omega)];refine⟨l,q,rfl,hl,hq,rfl,rfl,by rw[hR];exact hX,?_,fun i _=>rfl⟩;rw[hR,m6];have h5:(P+1)*b32.n ^ j<=V*b32.n ^ j:=Bd _ oB;rw[AT,Bb P]at h5;omega
 ·have kc:T≠0:=by
   intro h;omega
  have eW:=ox (by rw[B8,fJ];exact kc);rw[it_n (by omega)];simp only[Ab];have lP:g<4294967296:=by omega
  have iz:(j:Int)+n+1=((j+(n+1):Nat):Int):=by omega
  rw[A7 (by omega),A7 (by omega),iz,D9 (by omega)];rw[show(g:Int)%4294967296=(g:Int) by omega,<-Q0 (by omega:0<g) lP,Q1 (by omega) (AS (FL (n:=1) (by rw[Nat.pow_one,B8];exact lP)) (by omega))];simp only[Ab];rw[wzvd (j:=j) (n:=n) (P:=P) (V:=V) (g:=g) hl hV (by omega) hL eG jz lH lP];simp only[Ab];have ov:ln P<=n+1:=by refine FL ?_;rw[Dr];exact Nat.lt_trans j8 (Nat.mul_lt_mul_of_pos_right kj b32.pos)
  have jE:(sub l (j:Int) ((j+(n+1):Nat):Int)).length=n+1:=by rw[Q4 (by omega) (by omega)];omega
  rw[Q5 (by omega) (by omega)];simp only[Ab];rw[DE (Qw hl _ _) (by omega),eG];simp only[Ab];have oC:V*(P / V)<=P:=by rw[Bb];exact jA
  rw[Q2 (by omega) oC];simp only[Ab]
  have hD:P-V*(P / V)<V:=by
   have:(P / V+1)*V=V*(P / V)+V:=by rw[AT,Bb,Nat.one_mul]
   omega
  have oD:(dl (P-V*(P / V))).length<=n+1:=by rw[Cq];have:=Di (Gu hD);omega
  have hw:Int.toNat (((j+(n+1):Nat):Int)-(j:Int))=n+1:=by omega
  rw[hw];obtain⟨p1,p2,p3⟩:=wzq4 (l:=l) (d:=dl (P-V*(P / V))) (j:=j) (n:=n+1) hl (BT _) oD (by omega) (by rw[hR,show j+(n+1)=j+n+1 by omega];exact lI);have bZ:(Bx l j (List.replicate (n+1) 0)).length=l.length:=Kx (by simp;omega);rw[show Int.toNat (j:Int)=j by omega,D9 (by omega)]
  (try rw[D9 (by omega)])
  (try rw[D9 (by rw[bZ];omega)])
  rw[B1 hq (by omega)];simp only[Ab];rw[A7 (by omega)];rw[DC,hR]at p3;have lQ:((P / V:Nat):Int)%4294967296=((P / V:Nat):Int):=by generalize P / V=z at *;omega
  rw[lQ];refine⟨_,_,rfl,p1,M9 hq (by rw[B8];generalize P / V=z at *;omega),p2,by rw[J0],?_,?_,?_⟩
  ·rw[p3];have aL:=wzqz (b:=b32) (q:=lf q) (Q:=q.length) (j:=j) (d:=P / V) (v:=V) (part:=P) (rest:=R) (R:=R%b32.n ^ j) (rest':=(P-P / V*V)*b32.n ^ j+R%b32.n ^ j) (X:=X) hX eW oy (by rw[Bb P];rw[Nat.add_comm];exact m6) rfl jA;rw[aL,Bb V (P / V)];congr 2;unfold val;rw[J0];refine CJ fun i hi=>?_;rw[I0 eW,B2]
  ·rw[p3];have:=wzpx (b:=b32) (v:=V) (part:=P) (d:=P / V) (j:=j) (R:=R%b32.n ^ j) jC jA j9
   rwa [Bb (P / V) V]at this
  ·intro i hi;rw[I0 eW,Ag hi]
theorem wzjc{l:List Int}{n:Nat}(h:∀i,i<n->lf l i=0):vl b32 (lf l) n=0:=by rw[CJ (g:=fun _=>0) h,Kt]
theorem wzpb(n:Nat):val b32 (List.replicate n 0)=0:=wzjc fun i _=>GX n i
theorem wzq7{V n X Q k0:Nat}{l0:List Int}(kW:Dg b32 l0)(hX:val b32 l0=X)(hV:ln V=n)(h2:2<=n)(iE:2147483648<=dg b32 V (n-1))(aE:l0.length=k0+n)(mB:X<b32.n ^ (k0+n-2))(ka:2<=k0)(hL:l0.length<=274877906944)(hQ:k0-1<=Q)(pG:Q<=274877906944) : ∃l q,lp (Is (dl V)) ((k0:Int)-1,l0,List.replicate Q 0)=some (l,q)/\Dg b32 l/\Dg b32 q/\l.length<=274877906944/\q.length<=274877906944/\X=V*val b32 q+val b32 l/\val b32 l<V:=by
 have jz:V≠0:=by intro h;rw[h,MA]at hV;omega
 have gU:b32.n ^ (n-1)<=V:=by rw[<-hV];exact Iw jz
 obtain⟨⟨l,q⟩,e,h⟩:=C6 (s:=((k0:Int)-1,l0,List.replicate Q 0)) (body:=Is (dl V)) (fun s=>∃(k:Nat) (l q:List Int),s=((k:Int)-1,l,q)/\k<=k0/\Dg b32 l/\Dg b32 q/\l.length=l0.length/\q.length=Q/\(∀i,i<k->lf q i=0)/\Hold (X=V*val b32 q+val b32 l)/\Hold (val b32 l<V*b32.n ^ k)) (fun s=>(s.1+1).toNat) (fun o=>Dg b32 o.1/\Dg b32 o.2/\o.1.length<=274877906944/\o.2.length<=274877906944/\X=V*val b32 o.2+val b32 o.1/\val b32 o.1<V) (by
  rintro s ⟨k,l,q,rfl,hk,hl,hq,c8,oE,hz,lR,hR⟩;unfold Hold at lR hR;by_cases h:0<k
  ·left;obtain⟨j,rfl⟩:∃j,k=j+1:=⟨k-1,by omega⟩;rw[show((j+1:Nat):Int)-1=(j:Int) by omega]
   obtain⟨l',q',e,p1,p2,p3,p4,p5,p6,p7⟩:=wzwz (V:=V) (n:=n) (j:=j) (l:=l) (q:=q) hl hq hV h2 iE rfl hR (by omega) (by omega) (by
    intro aH;rw[oE];rcases C8 j (k0-1) with h'|h'
    ·omega
    ·exfalso;apply aH;have hj:j=k0-1:=by omega
     have aC:val b32 l<=X:=(by omega);rw[SM,<-HD];refine Jo (SN aC ?_);rw[show j+(n-1)=k0+n-2 by omega];exact mB) (hz j (by omega)) (by omega) lR
   refine⟨_,e,⟨j,l',q',rfl,by omega,p1,p2,by omega,by omega,?_,p5,p6⟩,by dsimp only;omega⟩;intro i hi;rw[p7 i (by omega)];exact hz i (by omega)
  ·right;have lS:k=0:=by omega
   subst lS;refine⟨(l,q),?_,hl,hq,by dsimp only;omega,by dsimp only;omega,lR,by simpa using hR⟩;simp only[Is];rw[it_n (by omega)]) ⟨k0,l0,_,rfl,A8 _,kW,I3,rfl,by simp,fun i _=>GX _ i,by unfold Hold;rw[wzpb,hX];simp,by unfold Hold;rw[hX];refine Gi mB ?_;refine AS ?_ (Bd _ gU);rw[<-HD];exact Nat.pow_le_pow_right b32.pos (by omega)⟩ (by dsimp only;omega)
 exact⟨l,q,e,h⟩
theorem Zp{u v:Nat}(hu:ln u<=137438953472)(hv:ln v<=137438953472)(h0:v≠0):EM (dl u) (dl v)=some (dl (u / v),dl (u%v)):=by
 unfold EM;rw[MD (by omega) (by omega)];simp only[Ab];by_cases h:u<v
 ·rw[it_d (by unfold cmpI;rw[Aj (by omega)];omega),Jo h,C2 h];rfl
 rw[it_n (by unfold cmpI;rw[Ag (by omega)];split<;>omega),Cq];by_cases h1:ln v=1
 ·have jF:v<4294967296:=by have:=D7 v;rw[h1,Nat.pow_one,B8]at this;exact this
  rw[it_d (by omega),Q0 (by omega) jF];rw[show at? [(v:Int)] 0=some (v:Int) from at_e (n:=0) rfl rfl];simp only[Ab];rw[Zk (by omega) (by omega) jF];simp only[Ab];have hr:=Gj u (H9 h0);have ht:GM [((u%v:Nat):Int)]=some (dl (u%v)):=by rw[DE (DB (by rw[B8];omega)) (by simp)];rw[show val b32 [((u%v:Nat):Int)]=u%v by generalize u%v=z;simp[val,vl,lf]]
  rw[ht];rfl
 rw[it_n (by omega)];have iN:=Kw h0;obtain⟨b,eb,hb,fH,dy⟩:=wzuc (v:=v) (by omega) h0;rw[eb];simp only[Ab];rw[Q3 (by omega) hb,Q3 (by omega) hb];simp only[Ab];have hp:0<2 ^ b:=Nat.pow_pos (by decide);have mC:2 ^ b<4294967296:=by have:2 ^ b<=2 ^ 31:=Cr (by decide) hb;omega
 have oF:v=dg b32 v (ln v-1)*b32.n ^ (ln v-1)+v%b32.n ^ (ln v-1):=by
  have e:v / b32.n ^ (ln v-1)=dg b32 v (ln v-1):=by unfold dg;rw[C2];rw[H7 (b32.pw _),<-Nat.pow_succ',Nat.succ_eq_add_one,show ln v-1+1=ln v by omega];exact D7 v
  have:=Ky v (ln v-1);rw[e]at this;exact this
 have eU:=Gj v (b32.pw (ln v-1));have mD:v*2 ^ b=dg b32 v (ln v-1)*2 ^ b*b32.n ^ (ln v-1)+v%b32.n ^ (ln v-1)*2 ^ b:=by have:=Gk (fun z=>z*2 ^ b) oF;simp only[AT]at this;rw[this];congr 1;rw[E3,Bb (b32.n ^ (ln v-1)),<-E3]
 have jG:v*2 ^ b<b32.n ^ ln v:=by
  have ht:dg b32 v (ln v-1)*2 ^ b+2 ^ b<=b32.n:=by
   have oG:dg b32 v (ln v-1)*2 ^ b+2 ^ b=(dg b32 v (ln v-1)+1)*2 ^ b:=by rw[AT,Nat.one_mul]
   have mF:b32.n=2 ^ (32-b)*2 ^ b:=by rw[<-HD,show 32-b+b=32 by omega];rfl
   rw[oG,mF];refine Bd _ ?_;have:dg b32 v (ln v-1)*2 ^ b<2 ^ (32-b)*2 ^ b:=by rw[<-mF,B8];exact dy
   exact Nat.lt_of_mul_lt_mul_right this
  have h5:(v%b32.n ^ (ln v-1)+1)*2 ^ b<=b32.n ^ (ln v-1)*2 ^ b:=Bd _ eU;have h6:(dg b32 v (ln v-1)*2 ^ b+2 ^ b)*b32.n ^ (ln v-1)<=b32.n*b32.n ^ (ln v-1):=Bd _ ht;rw[<-Nat.pow_succ',Nat.succ_eq_add_one,show ln v-1+1=ln v by omega,AT]at h6;rw[AT,Nat.one_mul,Bb (b32.n ^ (ln v-1))]at h5;rw[mD];omega
 have gU:b32.n ^ (ln v-1)<=v*2 ^ b:=AS (Iw h0) (Nat.le_mul_of_pos_right _ hp);have gV:ln (v*2 ^ b)=ln v:=(Y9 jG (Or.inr gU)).symm
 have jH:dg b32 (v*2 ^ b) (ln v-1)=dg b32 v (ln v-1)*2 ^ b+v%b32.n ^ (ln v-1)*2 ^ b / b32.n ^ (ln v-1):=by
  unfold dg;rw[C2]
  ·have:=mD;unfold dg at this;rw[this];rw[Bb _ (b32.n ^ (ln v-1)),Lm (b32.pw _)]
  ·rw[H7 (b32.pw _),<-Nat.pow_succ',Nat.succ_eq_add_one,show ln v-1+1=ln v by omega];exact jG
 have iE:2147483648<=dg b32 (v*2 ^ b) (ln v-1):=by rw[jH];exact AS fH (Nat.le_add_right _ _)
 have kN:u≠0:=by omega
 have oH:u*2 ^ b≠0:=Nat.mul_ne_zero kN (by omega);have mH:ln (u*2 ^ b)<=ln u+1:=by refine FL ?_;rw[Dr];exact Nat.mul_lt_mul'' (D7 u) (by rw[B8];exact mC)
 have pH:=Kw oH;have pI:ln v<=ln (u*2 ^ b):=by rw[<-gV];exact Di (Bd _ (by omega))
 have dG:ln v<=ln u:=Di (by omega);rw[Q5 (by rw[Cq];omega) (by rw[Cq];omega)];simp only[Ab];have fC:(dl (u*2 ^ b)++[0,0]).length=ln (u*2 ^ b)+2:=by simp[Cq]
 rw[fC,show(dl (v*2 ^ b)).length=ln v by rw[Cq,gV],Cq u];rw[ck_d (by omega),A7 (by omega),A7 (by omega),M8 (by omega),A7 (by omega),A7 (by omega)];have oI:Dg b32 (dl (u*2 ^ b)++[0,0]):=DA (BT _) (I3 (n:=2))
 have oJ:val b32 (dl (u*2 ^ b)++[0,0])=u*2 ^ b:=by
  have e1:dl (u*2 ^ b)++[0,0]=(dl (u*2 ^ b)++[0])++[0]:=by simp
  rw[e1,I4,I4,DC];simp
 obtain⟨l,q,e,g1,g2,g3,g4,g5,g6⟩:=wzq7 (V:=v*2 ^ b) (n:=ln v) (X:=u*2 ^ b) (Q:=ln u-ln v+2) (k0:=ln (u*2 ^ b)+2-ln v) oI oJ gV (by omega) iE (by rw[fC];omega) (by rw[show ln (u*2 ^ b)+2-ln v+ln v-2=ln (u*2 ^ b) by omega];exact D7 _) (by omega) (by rw[fC];omega) (by omega) (by omega);rw[show((ln (u*2 ^ b)+2:Nat):Int)-(ln v:Int)-1=((ln (u*2 ^ b)+2-ln v:Nat):Int)-1 by omega,show Int.toNat ((ln u:Int)-(ln v:Int)+2)=ln u-ln v+2 by omega,e];simp only[Ab];rw[DE g2 (by omega),DE g1 (by omega)];simp only[Ab];rw[A7 (by omega)];have jI:0<v*2 ^ b:=Nat.mul_pos (by omega) hp
 have hq:val b32 q=u / v:=by
  have e1:u*2 ^ b / (v*2 ^ b)=val b32 q:=by rw[g5,Lm jI,Jo g6];rfl
  rw[Nat.mul_div_mul_right _ _ hp]at e1;exact e1.symm
 have hr:val b32 l=u%v*2 ^ b:=by
  have e1:u*2 ^ b%(v*2 ^ b)=val b32 l:=by rw[g5,NX,C2 g6]
  rw[Nat.mul_mod_mul_right]at e1;exact e1.symm
 rw[qz68 (by rw[hr,<-hr];exact AS (Di (Gu g6)) (by omega)) hb];rw[hq,hr,Nat.mul_div_cancel _ hp];rfl
end Go.Am

