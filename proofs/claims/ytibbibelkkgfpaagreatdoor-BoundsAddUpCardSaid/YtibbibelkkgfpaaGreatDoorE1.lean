/- Part E1: fA. No condition. -/
import Derived.Test.YtibbibelkkgfpaaGreatDoorD1
set_option linter.unusedSimpArgs false
set_option linter.unusedVariables false
set_option maxRecDepth 100000
namespace Go.Am
open Go.Proofs
attribute [local simp] areg aop dreg dop An.req Ag argU An.args BD An.unAll Req.val Req.when putT putH Ay ablk HS GA yzk G9 F3 vzo vz1 vz8 vzm yz3 yzu kz0 Mf yz8 yzr yzq IntKind.bits Gr ARes.ok ARes.val Gs cut An.quiet
attribute [local simp] UE UF UG UB UC UD O5 UY Va
attribute [local simp] JQ JP yzd Ma Mb look Dz zipA wm wh
attribute [local simp] Mg JS F6 GO Im Mh Mi yzy Fu yzc Th JT Ad.ep Ad.plain Ad.owned
attribute [local simp] CV Lx jz7 jzo jz0 jzf jz2 jz4 jzx jzn jzm jzk kzy wz4 kz1 wz2 jz6 Bz lay CA ldv DT Bj EF Cr yzh B2 Aa.kind
attribute [local simp] Aa.one_int Aa.one_bool Aa.one_str Aa.one_nils Aa.one_slc Aa.one_vec Aa.one_ptr Aa.one_eptr Aa.one_cptr Aa.one_nilp Aa.one_fn Aa.one_nilfn Aa.one_mp Aa.one_nilmp
attribute [local simp] yz6 LQ vz0 vzz yzt yzs vzt vz3 LR yzv yzo yzn yz0 LS vz4 vz7 vzx vzr vzq vz5 LT LU kzz kzx LV LW kzw kzv yz7 yz5 yzz yz4 LX LY yzw yz9
attribute [local simp] HL cI cB cS cL wz3 jzl jzj wzv kzu vzv kzs vz6 fzv fzl fz1 Mj vzw Mk yzp List.range_succ HW Pm jzp jzg

attribute [local simp] AM.cells Ao.cells Af.cells Bq.cells Bc.cells Al.cells Ba.cells Ec.cells GP.cells EA.cells Gt.cells AQ.cells A7.cells GQ.cells ES.cells DQ.cells EB.cells GR.cells GS.cells Dh.cells Gu.cells
section
def sx(j:Nat):Nat:=2*j+101
theorem Iw{k s:Nat}(h:k<100):(k=sx s)=False:=eq_false (by unfold sx;omega)
theorem Eg{s t:Nat}:(sx s=sx t)=(s=t):=propext ⟨fun h=>by unfold sx at h;omega,fun h=>h▸rfl⟩
theorem Mv{s t:Nat}:(rwx s=sx t)=False:=eq_false (by unfold sx rwx;omega)
def vS(ev lo:Nat->Nat)(j:Nat)(l:List Int):Aa:=.vec (sx j) (ev j) (lo j) l.length
def mSl(ev lo:Nat->Nat):Nat->List (Int×List Int)->List (Aa×Aa)
 |_,[]=>[]
 |j,p :: m=>(.int .i64 p.1,vS ev lo j p.2) :: mSl ev lo (j+1) m
def MX(ev lo:Nat->Nat)(m:List (Int×List Int))(h:Aq):Prop:=∀j k l,m[j]?=some (k,l)->∃N g,h (sx j)=.vec (ev j) 1 N g/\lo j+l.length<=N/\∀i x,l[i]?=some x->g (lo j+i)=[.int .i64 x]
def upN(f:Nat->Nat)(j v:Nat):Nat->Nat:=fun i=>if i=j then v else f i
theorem Kf(ev lo:Nat->Nat):∀(m:List (Int×List Int)) (j0 i:Nat),(mSl ev lo j0 m)[i]?=m[i]?.map fun p=>(.int .i64 p.1,vS ev lo (j0+i) p.2)
 |[],j0,i=>rfl
 |p :: m,j0,0=>rfl
 |p :: m,j0,i+1=>by show(mSl ev lo (j0+1) m)[i]?=_;rw[Kf ev lo m (j0+1) i];simp only[List.getElem?_cons_succ];rw[show j0+1+i=j0+(i+1) by omega]
theorem P2(ev lo:Nat->Nat):∀(m:List (Int×List Int)) (j0:Nat),(mSl ev lo j0 m).length=m.length
 |[],_=>rfl
 |p :: m,j0=>by show(mSl ev lo (j0+1) m).length+1=_;rw[P2 ev lo m];rfl
theorem P3{ev lo:Nat->Nat}{m:List (Int×List Int)}{j:Nat}{k:Int}{l:List Int}{E L n:Nat}(hj:j<m.length)(hn:l.length=n):(mSl ev lo 0 m).set j (.int .i64 k,.vec (sx j) E L n)=mSl (upN ev j E) (upN lo j L) 0 (m.set j (k,l)):=by
 apply L1;intro i;rw[Kf,DN,DN,P2,Kf];by_cases e:j=i
 ·subst e;rw[Aj rfl,Aj hj,Aj rfl,Aj hj];simp[vS,upN,hn]
 ·rw[Ah e,Ah e];have e':¬i=j:=fun h=>e h.symm;simp[vS,upN,e']
theorem XQ{ev lo:Nat->Nat}{m:List (Int×List Int)}{k:Int}{l:List Int}{E L n:Nat}(hn:l.length=n):mSl ev lo 0 m++[(.int .i64 k,.vec (sx m.length) E L n)]=mSl (upN ev m.length E) (upN lo m.length L) 0 (m++[(k,l)]):=by
 apply L1;intro i;rw[Kf,List.getElem?_append,List.getElem?_append,P2,Kf];split
 ·rename_i h;have e':¬i=m.length:=by omega
  simp[vS,upN,e']
 ·rename_i h;by_cases e:i=m.length
  ·subst e;simp[vS,upN,hn]
  ·have:∃q,i-m.length=q+1:=⟨i-m.length-1,by omega⟩;obtain⟨q,hq⟩:=this;simp[hq]
theorem Mw(ev lo:Nat->Nat)(a:Int):∀(m:List (Int×List Int)) (j0 i:Nat),(mget keqI m a=none/\Cb (.int .i64 a) (mSl ev lo j0 m) i=some none/\∀b,mput keqI m a b=m++[(a,b)]) \/ ∃j l,m[j]?=some (a,l)/\mget keqI m a=some l/\Cb (.int .i64 a) (mSl ev lo j0 m) i=some (some (i+j,vS ev lo (j0+j) l))/\∀b,mput keqI m a b=m.set j (a,b)
 |[],j0,i=>.inl ⟨rfl,rfl,fun _=>rfl⟩
 |p :: m,j0,i=>by
  have e:Cb (.int .i64 a) (mSl ev lo j0 (p :: m)) i=(match some (decide (a=p.1)) with | some true=>some (some (i,vS ev lo j0 p.2)) | some false=>Cb (.int .i64 a) (mSl ev lo (j0+1) m) (i+1) | none=>none):=rfl;by_cases h:a=p.1
  ·have hq:keqI a p.1=true:=AD h;refine .inr ⟨0,p.2,by rw[h];rfl,?_,by rw[e,AD h];rfl,fun b=>?_⟩
   ·show(match keqI a p.1 with | true=>some p.2 | false=>mget keqI m a)=_;rw[hq]
   ·show(match keqI a p.1 with | true=>(a,b) :: m | false=>p :: mput keqI m a b)=_;rw[hq];rfl
  ·have hq:keqI a p.1=false:=AE h;have g:mget keqI (p :: m) a=mget keqI m a:=by show(match keqI a p.1 with | true=>some p.2 | false=>mget keqI m a)=_;rw[hq]
   have q:∀b,mput keqI (p :: m) a b=p :: mput keqI m a b:=fun b=>by show(match keqI a p.1 with | true=>(a,b) :: m | false=>p :: mput keqI m a b)=_;rw[hq]
   rw[e,AE h,g];rcases Mw ev lo a m (j0+1) (i+1) with ⟨h1,h2,h3⟩|⟨j,l,h0,h1,h2,h3⟩
   ·exact .inl ⟨h1,h2,fun b=>by rw[q,h3];rfl⟩
   ·refine .inr ⟨j+1,l,h0,h1,?_,fun b=>by rw[q,h3];rfl⟩;show Cb (.int .i64 a) (mSl ev lo (j0+1) m) (i+1)=_;rw[h2,show i+1+j=i+(j+1) by omega,show j0+1+j=j0+(j+1) by omega]
def mN(q:Af)(F:Int)(e6 n:Nat)(out:List Int)(e7:Nat)(rc:List Aa)(o8 o9 o10 o11 o12 o13 o14 o15:Ad):List (Nat×Ad) := [(0,.gone 2),(1,.gone 2),(2,.box 1 [.bool false,.str [],.str []]),(3,.box 1 [.int .i64 0,.nils]),(4,.box 1 [.bool q.Neg,.str q.Num,.str q.Den]),(5,.box 1 [.int .i64 F,.vec 6 e6 0 n]),(6,.vec e6 1 n (Ai iC out)),(7,.box e7 rc),(8,o8),(9,o9),(10,o10),(11,o11),(12,o12),(13,o13),(14,o14),(15,o15)]
structure GH(h:Aq):Prop where
 lo:∀i,16<=i->i<100->∃e,h i=.gone e
theorem GH.set{h:Aq}(H:GH h){s:Nat}{o:Ad}:GH (hset h (sx s) o):=⟨fun i h1 h2=>by rw[BE (by unfold sx;omega)];exact H.lo i h1 h2⟩
theorem XR{m:List (Nat×Ad)}{h:Aq}{s:Nat}{o:Ad}(hm:m.all (fun p=>Nat.blt p.1 100)=true):hset (hx m h) (sx s) o=hx m (hset h (sx s) o):=by
 funext j;by_cases e:j=sx s
 ·subst e;have h1:hx m (hset h (sx s) o) (sx s)=hset h (sx s) o (sx s):=Md hm (by unfold sx;omega);rw[h1];simp[hset]
 ·show(if j=sx s then o else lkx m h j)=lkx m (hset h (sx s) o) j;rw[Ah e];clear hm;induction m with
  |nil=>show h j=(if j=sx s then o else h j);rw[Ah e]
  |cons p m ih=>simp only[lkx,ih]
theorem XS{m:List (Nat×Ad)}{s:Nat}(hm:m.all (fun p=>Nat.blt p.1 100)=true):m.all (fun p=>!(p.1==sx s))=true:=by
 rw[Dx]at hm |-;intro p hp;have:=hm p hp;simp only[G5]at this;have h2:p.1≠sx s:=by unfold sx;omega
 simpa using h2
structure MH(ev lo:Nat->Nat)(m:List (Int×List Int))(h:Aq):Prop where
 mx:MX ev lo m h
 fr:∀j,m.length<=j->∃e,h (sx j)=.gone e
theorem MH.old{ev:Nat->Nat}{m:List (Int×List Int)}{h:Aq}(H:MH ev (fun _=>0) m h){j:Nat}{a s:Int}{l:List Int}(hj:m[j]?=some (a,l)){g:Nat->List Aa}(hg:∀i x,(l++[s])[i]?=some x->g i=[.int .i64 x]) :
  MH (upN ev j (ev j+1)) (fun _=>0) (m.set j (a,l++[s])) (hset h (sx j) (.vec (ev j+1) 1 (l.length+1) g)):=by
 obtain⟨dU,_⟩:=AC.1 hj;refine⟨fun i k l' h1=>?_,fun i hi=>?_⟩
 ·rw[DN]at h1;by_cases e:j=i
  ·subst e;rw[Aj rfl,Aj dU]at h1;simp only[AY,BC]at h1;obtain⟨rfl,rfl⟩:=h1;refine⟨l.length+1,g,by rw[Dk];simp[upN],by simp,fun i x hx=>?_⟩;rw[Bs];exact hg i x hx
  ·rw[Ah e]at h1;obtain⟨N,g',h2,h3⟩:=H.mx i k l' h1;have e':¬i=j:=fun h=>e h.symm;exact⟨N,g',by rw[BE (fun h=>e' (by rw[Eg]at h;exact h)),h2];simp[upN,e'],h3⟩
 ·rw[J6]at hi;obtain⟨e,he⟩:=H.fr i hi;exact⟨e,by rw[BE (fun h=>by rw[Eg]at h;omega)];exact he⟩
theorem MH.new{ev:Nat->Nat}{m:List (Int×List Int)}{h:Aq}(H:MH ev (fun _=>0) m h){a s:Int}{K:Nat} :
  MH (upN ev m.length K) (fun _=>0) (m++[(a,[s])]) (hset h (sx m.length) (.vec K 1 1 (Ai iC [s]))):=by
 refine⟨fun i k l' h1=>?_,fun i hi=>?_⟩
 ·rw[List.getElem?_append]at h1;split at h1
  ·rename_i hlt;obtain⟨N,g',h2,h3⟩:=H.mx i k l' h1;have e':¬i=m.length:=by omega
   exact⟨N,g',by rw[BE (fun h=>e' (by rw[Eg]at h;exact h)),h2];simp[upN,e'],h3⟩
  ·have h0:i-m.length=0:=by
    obtain⟨h2,_⟩:=AC.1 h1;simp at h2;omega
   rw[h0]at h1;simp only[Gbc,AY,BC]at h1;obtain⟨rfl,rfl⟩:=h1;obtain rfl:i=m.length:=by rename_i hge;omega
   refine⟨1,_,by rw[Dk];simp[upN];rfl,by simp,fun i x hx=>?_⟩;rw[Bs];exact Bb hx
 ·simp at hi;obtain⟨e,he⟩:=H.fr i (by omega);exact⟨e,by rw[BE (fun h=>by rw[Eg]at h;omega)];exact he⟩
end
section
def glen(m:List (Int×List Int))(k:Int):Nat:=(Option.getD (mget keqI m k) []).length
def capM(m:List (Int×List Int)):Prop:=∀k,glen m k<=1000000000
def leM(m m':List (Int×List Int)):Prop:=∀k,glen m k<=glen m' k
theorem leM.refl(m:List (Int×List Int)):leM m m:=fun _=>A9 _
theorem leM.trans{a b c:List (Int×List Int)}(h:leM a b)(h':leM b c):leM a c:=fun k=>AP (h k) (h' k)
theorem capM.le{a b:List (Int×List Int)}(h:leM a b)(h':capM b):capM a:=fun k=>AP (h k) (h' k)
theorem capM.l{m:List (Int×List Int)}(h:capM m){k:Int}{l:List Int}(e:mget keqI m k=some l):l.length<=1000000000:=by have:=h k;unfold glen at this;rw[e]at this;exact this
theorem XT(a:Int)(b:List Int)(k:Int):∀m:List (Int×List Int),mget keqI (mput keqI m a b) k=if k=a then some b else mget keqI m k
 |[]=>by
  show(match keqI k a with | true=>some b | false=>none)=_;by_cases h:k=a
  ·rw[show keqI k a=true from AD h,Aj h]
  ·rw[show keqI k a=false from AE h,Ah h];rfl
 |p :: m=>by
  show mget keqI (match keqI a p.1 with | true=>(a,b) :: m | false=>p :: mput keqI m a b) k=if k=a then some b else(match keqI k p.1 with | true=>some p.2 | false=>mget keqI m k);by_cases h:a=p.1
  ·rw[show keqI a p.1=true from AD h];show(match keqI k a with | true=>some b | false=>mget keqI m k)=_;by_cases h2:k=a
   ·rw[show keqI k a=true from AD h2,Aj h2]
   ·rw[show keqI k a=false from AE h2,Ah h2,show keqI k p.1=false from AE (by omega)]
  ·rw[show keqI a p.1=false from AE h];show(match keqI k p.1 with | true=>some p.2 | false=>mget keqI (mput keqI m a b) k)=_;rw[XT a b k m];by_cases h2:k=p.1
   ·simp only[show keqI k p.1=true from AD h2,Ah (show ¬k=a by omega)]
   ·rw[show keqI k p.1=false from AE h2]
theorem XU(m:List (Int×List Int))(a s k:Int):glen (Bp m a s) k=if k=a then glen m a+1 else glen m k:=by
 unfold glen Bp;rw[XT];by_cases h:k=a
 ·rw[Aj h,Aj h];simp
 ·rw[Ah h,Ah h]
theorem leM.put(m:List (Int×List Int))(a s:Int):leM m (Bp m a s):=fun k=>by
 rw[XU];split
 ·rename_i h;subst h;omega
 ·omega
theorem GZ{a s:Int}:∀{N j:Nat} {m m1:List (Int×List Int)},forN (fun m (_:Nat)=>some (Bp m a s)) N j m=some m1->leM m m1/\glen m1 a=glen m a+N
 |0,j,m,m1,h=>by cases h;exact⟨.refl _,rfl⟩
 |N+1,j,m,m1,h=>by obtain⟨h1,h2⟩:=GZ (show forN (fun m (_:Nat)=>some (Bp m a s)) N (j+1) (Bp m a s)=some m1 from h);refine⟨(leM.put m a s).trans h1,?_⟩;rw[h2,XU,Aj rfl];omega
theorem XV{rate:Int->Int->Option Af}{r:Ao}:∀{cl:List A7} {m m1:List (Int×List Int)} {q q1:Af},Eh rate r cl m q=some (m1,q1)->leM m m1
 |[],m,m1,q,q1,h=>by cases h;exact .refl _
 |c :: l,m,m1,q,q1,h=>by obtain⟨a,_,h⟩:=bd_e (show bd (rate c.Span r.Hi) _=some (m1,q1) from h);obtain⟨b,_,h⟩:=bd_e h;obtain⟨e,_,h⟩:=bd_e h;obtain⟨m2,h1,h⟩:=bd_e h;obtain⟨i,_,h⟩:=bd_e h;obtain⟨g,_,h⟩:=bd_e h;obtain⟨p,_,h⟩:=bd_e h;obtain⟨q2,_,h⟩:=bd_e h;exact(GZ h1).1.trans (XV h)
theorem P4{hd:AM}:∀{cl:List A7} {co:List Af} {x:List Int} {m m1:List (Int×List Int)} {q q1:Af},DA hd cl co x m q=some (m1,q1)->leM m m1
 |cl,co,[],m,m1,q,q1,h=>by
  have:some (m,q)=some (m1,q1):=by cases cl<;>cases co<;>exact h
  cases this;exact .refl _
 |[],_,n :: x,m,m1,q,q1,h=>by cases h
 |c :: cl,[],n :: x,m,m1,q,q1,h=>by cases h
 |c :: cl,g :: co,n :: x,m,m1,q,q1,h=>by obtain⟨m2,h1,h⟩:=bd_e (show bd (forN _ n.toNat 0 m) _=some (m1,q1) from h);obtain⟨i,_,h⟩:=bd_e h;obtain⟨p,_,h⟩:=bd_e h;obtain⟨q2,_,h⟩:=bd_e h;exact(GZ h1).1.trans (P4 h)
theorem XW{cl:List A7}:∀{T:List AM} {co:List (List Af)} {x:List (List Int)} {m m1:List (Int×List Int)} {q q1:Af},DB cl T co x m q=some (m1,q1)->leM m m1
 |T,co,[],m,m1,q,q1,h=>by
  have:some (m,q)=some (m1,q1):=by cases T<;>cases co<;>exact h
  cases this;exact .refl _
 |[],_,n :: x,m,m1,q,q1,h=>by cases h
 |c :: cl,[],n :: x,m,m1,q,q1,h=>by cases h
 |hd :: T,co :: cs,n :: x,m,m1,q,q1,h=>by obtain⟨⟨m2,q2⟩,h1,h⟩:=bd_e (show bd (DA hd cl co n m q) _=some (m1,q1) from h);exact(P4 h1).trans (XW h)
def bE(C4 C5 fnv:Aa)(e7 e8:Nat)(L A47 A48:Aa):List (Nat×Aa):=[(4,C4),(5,C5),(6,.ptr 2 1 0),(7,.ptr 3 1 0),(8,fnv),(9,.ptr 4 1 0),(10,.ptr 5 1 0),(12,.ptr 7 e7 0),(13,.mp 8 e8),(46,L),(47,A47),(48,A48)]
section
attribute [local simp] Cf GN BP Cg Ch Ci yza subm subh Cj pick B6
attribute [local simp] lkx Px Cu subx bE mN rcO Cx Cy Iw Eg mv1 mvO Ad.wep Dk
attribute [local simp] XR
theorem XX{m:List (Nat×Aa)}{N i e B e8 K0:Nat}{l:List (Aa×Aa)}{k:Aa}{g:Nat->List Aa}{rest:List (Nat×Ad)}{h:Aq}(pq:i≠8)(eL:i≠B)(m5:8≠B)(hB:rest.all (fun p=>!(p.1==B))=true)(hh:h B=.gone K0) :
  See EE ⟨tl m N,hx ((i,.vec e 1 1 g) :: (8,.amap e8 (l++[(k,.vec i e 0 1)])) :: rest) h,[]⟩ ⟨tl m N,hx ((i,.gone (e+1)) :: (8,.amap e8 (l++[(k,.vec B (K0+1) 0 1)])) :: rest) (hset h B (.vec (K0+1) 1 1 g)),[]⟩:=by
 have e2:∀(l:List (Nat×Ad)) (j:Nat),j≠B->lkx l (hset h B (.vec (K0+1) 1 1 g)) j=lkx l h j:=fun l j hj=>by
  induction l with
  |nil=>exact BE hj
  |cons p l ih=>simp only[lkx,ih]
 have eB:(⟨tl m N,hx ((i,.vec e 1 1 g) :: (8,.amap e8 (l++[(k,.vec i e 0 1)])) :: rest) h,[]⟩:As).h B=.gone K0:=by show lkx _ h B=_;simp only[lkx,Ah eL,Ah m5,ER hB,hh]
 refine See.move (i:=i) (B:=B) (o:=.vec e 1 1 g) eL ?_ trivial (by rw[eB];rfl) ?_ ?_ (fun j i7 jk=>?_) (MVl.refl _) rfl rfl
 ·show lkx _ h i=_;simp[lkx]
 ·show lkx _ _ i=_;simp[lkx]
 ·rw[eB];show lkx _ _ B=_;simp only[lkx,Ah eL,Ah m5,ER hB];exact Dk
 ·rw[eB];show OM i e B (K0+1) (lkx _ h j) (lkx _ _ j);have jr:¬i=j:=fun k=>i7 k.symm;by_cases h8:8=j
  ·subst h8;simp only[lkx,Ah jr,AX];refine .inr (.inr (.inr ⟨e8,_,_,rfl,rfl,by simp,fun q a b ha hb=>?_⟩));rw[List.getElem?_append]at ha hb;split at ha
   ·rename_i hq;rw[Aj hq]at hb;rw[ha]at hb;cases hb;exact⟨.refl _,.refl _⟩
   ·rename_i hq;rw[Ah hq]at hb;have hz:q-l.length=0:=by obtain⟨h2,_⟩:=AC.1 ha;simp at h2;omega
    rw[hz]at ha hb;cases ha;cases hb;exact⟨.refl _,.vec _ _⟩
  ·simp only[lkx,Ah jr,Ah h8];rw[e2 rest j jk];exact .inl rfl
theorem Mx(j:Nat):upN (fun _=>0) j 0=fun _=>0:=funext fun i=>by unfold upN;split<;>rfl
theorem XY{l:List Int}{s:Int}:(l++[s]).length=l.length+1:=by simp
set_option maxHeartbeats 8000000 in
theorem wzv3{C4 C5 fnv:Aa}{e7 e8:Nat}{L A47 A48 A59 A60 A61 A84 A85:Aa}{q:Af}{F:Int}{e6 n:Nat}{out:List Int}{r:Ao}{e9 e10 e11:Nat}{o12 o13 o14 o15:Ad}{k s tk:Int}{ev:Nat->Nat}{m:List (Int×List Int)}{h:Aq}(hM:MH ev (fun _=>0) m h)(hG:GH h)(aG:∀l,mget keqI m k=some l->l.length<=1000000000) {b:AO} {Q:Exit->As->Prop}
  (cont:∀ev' h' e10' e11',MH ev' (fun _=>0) (Bp m k s) h'->GH h'->(∀t,h' (rwx t)=h (rwx t))->AW EE none Tryz.prog b Q ⟨tl (bE C4 C5 fnv e7 e8 L A47 A48++[(15,.ptr 9 e9 0),(16,.int .i64 s),(59,A59),(60,A60),(61,A61),(84,A84),(85,A85)]) 231,
   hx (mN q F e6 n out e7 (rcO r) (.amap e8 (mSl ev' (fun _=>0) 0 (Bp m k s))) (.box e9 [.int .i64 k,.int .i64 tk]) (.gone e10') (.gone e11') o12 o13 o14 o15) h',[]⟩) :
  AW EE none Tryz.prog (.seq (.block 5 (.reg true (My 0) XZ)) b) Q ⟨tl (bE C4 C5 fnv e7 e8 L A47 A48++[(15,.ptr 9 e9 0),(16,.int .i64 s),(59,A59),(60,A60),(61,A61),(84,A84),(85,A85)]) 231,
   hx (mN q F e6 n out e7 (rcO r) (.amap e8 (mSl ev (fun _=>0) 0 m)) (.box e9 [.int .i64 k,.int .i64 tk]) (.gone e10) (.gone e11) o12 o13 o14 o15) h,[]⟩:=by
 rcases Mw ev (fun _=>0) k m 0 0 with ⟨h1,h2,h3⟩ | ⟨j,l,h0,h1,h2,h3⟩
 ·have bX:Bp m k s=m++[(k,[s])]:=by
   unfold Bp;rw[h3,h1];rfl
  refine .seq (.block (AW.d1 (by simp[My,EG,BM,Cs,Aa.kkind,h2];exact⟨by kernel_rfl,rfl⟩) ?_));simp only[Ay,ablk];obtain⟨K0,iE⟩:=hM.fr m.length (A9 _);refine .see (.spx (m':=bE C4 C5 fnv e7 e8 L A47 A48++[(15,.ptr 9 e9 0),(16,.int .i64 s),(59,A59),(60,A60),(61,A61),(84,A84),(85,A85)]) (hm':=(11,.vec (e11+1) 1 1 (Ai iC [s])) :: (8,.amap e8 (mSl ev (fun _=>0) 0 m++[(.int .i64 k,.vec 11 (e11+1) 0 1)])) :: [(0,.gone 2),(1,.gone 2),(2,.box 1 [.bool false,.str [],.str []]),(3,.box 1 [.int .i64 0,.nils]),(4,.box 1 [.bool q.Neg,.str q.Num,.str q.Den]),(5,.box 1 [.int .i64 F,.vec 6 e6 0 n]),(6,.vec e6 1 n (Ai iC out)),(7,.box e7 (rcO r)),(9,.box e9 [.int .i64 k,.int .i64 tk]),(10,.gone (e10+1)),(12,o12),(13,o13),(14,o14),(15,o15)]) (by simp) ?_ (by simp)) ?_
  ·simp;rfl
  refine .see (XX (B:=sx m.length) (by omega) (by unfold sx;omega) (by unfold sx;omega) (XS (by simp)) iE) ?_;rw[XQ (l:=[s]) (n:=1) rfl,Mx,<-bX];refine .see (.spx (m':=bE C4 C5 fnv e7 e8 L A47 A48++[(15,.ptr 9 e9 0),(16,.int .i64 s),(59,A59),(60,A60),(61,A61),(84,A84),(85,A85)]) (hm':=mN q F e6 n out e7 (rcO r) (.amap e8 (mSl (upN ev m.length (K0+1)) (fun _=>0) 0 (Bp m k s))) (.box e9 [.int .i64 k,.int .i64 tk]) (.gone (e10+1)) (.gone (e11+2)) o12 o13 o14 o15) (by simp) (by simp) (by simp)) ?_;exact cont _ _ _ _ (by rw[bX];exact hM.new) hG.set (fun t=>BE (fun e=>by rw[Mv]at e;exact e))
 ·have hl:=aG l h1;simp only[Bs]at h2;have bX:Bp m k s=m.set j (k,l++[s]):=by unfold Bp;rw[h3,h1];rfl
  obtain⟨N,g,z1,z2,z3⟩:=hM.mx j k l h0;simp only[Bs]at z2 z3;have bU:(l.length+1)*8<=140737488355328:=by omega
  obtain⟨dU,_⟩:=AC.1 h0
  have kj:∀i x,(l++[s])[i]?=some x->(fun k:Nat=>if k<l.length then g k else([[Aa.int .i64 s]][k-l.length]?).getD []) i=[.int .i64 x]:=fun i x hx=>by
   rw[List.getElem?_append]at hx;simp only;split at hx
   ·rename_i hi;rw[Aj hi];exact z3 i x hx
   ·rename_i hi;rw[Ah hi];have h0:i-l.length=0:=by obtain⟨h2,_⟩:=AC.1 hx;simp at h2;omega
    rw[h0]at hx |-;cases hx;rfl
  refine .seq (.block (AW.d1 (by simp[My,EG,BM,Cs,Aa.kkind,h2,vS,z1,z2,bU];exact⟨by kernel_rfl,rfl⟩) ?_));simp only[Ay,ablk];refine .see (.spx (m':=bE C4 C5 fnv e7 e8 L A47 A48++[(15,.ptr 9 e9 0),(16,.int .i64 s),(59,A59),(60,A60),(61,A61),(84,A84),(85,A85)]) (hm':=mN q F e6 n out e7 (rcO r) (.amap e8 (mSl (upN ev j (ev j+1)) (fun _=>0) 0 (Bp m k s))) (.box e9 [.int .i64 k,.int .i64 tk]) (.gone (e10+1)) (.gone e11) o12 o13 o14 o15) (by simp) ?_ (by simp)) ?_
  ·simp;rw[P3 (l:=l++[s]) dU XY,Mx,<-bX];exact yza _
  exact cont _ _ _ _ (by rw[bX];exact hM.old h0 kj) hG.set (fun t=>BE (fun e=>by rw[Mv]at e;exact e))
structure YG where
 j:Nat
 m:List (Int×List Int)
 ev:Nat->Nat
 h:Aq
 a:Nat
 b:Nat
set_option maxHeartbeats 8000000 in
theorem wzvx{C4 C5 fnv:Aa}{e7 e8:Nat}{L A47 A48 A59 A60 A61:Aa}{q:Af}{F:Int}{e6 n:Nat}{out:List Int}{r:Ao}{e9 e10 e11:Nat}{o12 o13 o14 o15:Ad}{k s tk:Int}{ev:Nat->Nat}{m m1:List (Int×List Int)}{h:Aq}(hM:MH ev (fun _=>0) m h)(hG:GH h)(hF:forN (fun m (_:Nat)=>some (Bp m k s)) tk.toNat 0 m=some m1) (aG:capM m1) {Q:Exit->As->Prop}
  (cont:∀ev' h' e10' e11',MH ev' (fun _=>0) m1 h'->GH h'->(∀t,h' (rwx t)=h (rwx t))->Q .normal ⟨tl (bE C4 C5 fnv e7 e8 L A47 A48++[(15,.ptr 9 e9 0),(16,.int .i64 s),(59,A59),(60,A60),(61,A61)]) 231,
   hx (mN q F e6 n out e7 (rcO r) (.amap e8 (mSl ev' (fun _=>0) 0 m1)) (.box e9 [.int .i64 k,.int .i64 tk]) (.gone e10') (.gone e11') o12 o13 o14 o15) h',[]⟩) :
  AW EE none Tryz.prog (.block 4 (.loop (P5 0))) Q ⟨tl (bE C4 C5 fnv e7 e8 L A47 A48++[(15,.ptr 9 e9 0),(16,.int .i64 s),(59,A59),(60,A60),(61,A61),(84,.int .i64 tk),(85,.int .i64 0)]) 231,
   hx (mN q F e6 n out e7 (rcO r) (.amap e8 (mSl ev (fun _=>0) 0 m)) (.box e9 [.int .i64 k,.int .i64 tk]) (.gone e10) (.gone e11) o12 o13 o14 o15) h,[]⟩:=by
 have hN:tk.toNat<=1000000000:=by have:=(GZ hF).2;have:=aG k;omega
 refine .block (AW.lph (fun y:YG=>bE C4 C5 fnv e7 e8 L A47 A48++[(15,.ptr 9 e9 0),(16,.int .i64 s),(59,A59),(60,A60),(61,A61),(84,.int .i64 tk),(85,.int .i64 y.j)]) (fun y=>mN q F e6 n out e7 (rcO r) (.amap e8 (mSl y.ev (fun _=>0) 0 y.m)) (.box e9 [.int .i64 k,.int .i64 tk]) (.gone y.a) (.gone y.b) o12 o13 o14 o15) (fun y=>y.h) (fun y=>tk.toNat-y.j) (fun y=>y.j<=tk.toNat/\MH y.ev (fun _=>0) y.m y.h/\GH y.h/\(∀t,y.h (rwx t)=h (rwx t))/\forN (fun m (_:Nat)=>some (Bp m k s)) (tk.toNat-y.j) y.j y.m=some m1) ⟨0,m,ev,h,e10,e11⟩ ⟨BB _,hM,hG,fun _=>rfl,hF⟩ rfl (by simp) (by simp) (by simp) ?_);rintro⟨j,m,ev,h2,a,b⟩ ⟨hj,hM,hG,hr,hF⟩;simp only at hj hM hG hr hF |-;refine AW.sr (by simp[Ya];rfl) ?_;refine .seq (AW.if' (decide ((j:Int)<tk)) (by simp) (fun et=>AW.skip ?_) (fun et=>?_));rotate_left
 ·obtain rfl:j=tk.toNat:=by have:=of_decide_eq_false et;omega
  rw[Nat.sub_self]at hF;obtain rfl:=AI (show some m=some m1 from hF);exact .exs (by simp only[Ay,ablk,AX];exact cont ev h2 a b hM hG hr) (by simp) (by simp) (by simp)
 have hlt:j<tk.toNat:=by have:=BX et;omega
 rw[show tk.toNat-j=(tk.toNat-(j+1))+1 by omega]at hF;have hF:forN (fun m (_:Nat)=>some (Bp m k s)) (tk.toNat-(j+1)) (j+1) (Bp m k s)=some m1:=hF;have aS:inr .i64 ((j:Int)+1):=by show _/\_;omega
 have hc:capM m:=aG.le ((leM.put m k s).trans (GZ hF).1);simp only[Ay];refine .see (.spx (m':=bE C4 C5 fnv e7 e8 L A47 A48++[(15,.ptr 9 e9 0),(16,.int .i64 s),(59,A59),(60,A60),(61,A61),(84,.int .i64 tk),(85,.int .i64 j)]) (hm':=mN q F e6 n out e7 (rcO r) (.amap e8 (mSl ev (fun _=>0) 0 m)) (.box e9 [.int .i64 k,.int .i64 tk]) (.gone a) (.gone b) o12 o13 o14 o15) (by simp) (by simp) (by simp)) ?_;refine wzv3 hM hG (fun l e=>hc.l e) fun ev' h' a' b' dL dM bt=>?_;refine AW.r1 (by simp[Yb];exact⟨aS,rfl⟩) ?_;exact⟨⟨j+1,Bp m k s,ev',h',a',b'⟩,⟨by show j+1<=_;omega,dL,dM,fun t=>(bt t).trans (hr t),hF⟩,by show tk.toNat-(j+1)<tk.toNat-j;omega,.spx (by simp) (by simp) (by simp)⟩
end
end
section
structure YH where
 j:Nat
 m:List (Int×List Int)
 q:Af
 ev:Nat->Nat
 h:Aq
 c:Nat
 a:Nat
 b:Nat
structure Ix(caps:List Aa)(rate:Int->Int->Option Af):Prop where
 hE:CX Tryz.prog 91=true
 hR:∀(k s:Int) (a:Af),rate k s=some a->AJ EE Tryz.prog 91 (fnArgs 0 [.int .i64 k,.int .i64 s] caps) (.agg a.cells)
 hI:∀(n:Int) (r:Af),Di n=some r->AJ EE Tryz.prog 42 [.int .i64 n] (.agg r.cells)
 hM:∀(a b r:Af),C8 a b=some r->AJ EE Tryz.prog 30 [.agg a.cells,.agg b.cells] (.agg r.cells)
 hA:∀(a b r:Af),BY a b=some r->AJ EE Tryz.prog 31 [.agg a.cells,.agg b.cells] (.agg r.cells)
 hS:∀(a b r:Af),Dj a b=some r->AJ EE Tryz.prog 111 [.agg a.cells,.agg b.cells] (.agg r.cells)
 hC:∀(a b:Af) (r:Int),Gw a b=some r->AJ EE Tryz.prog 23 [.agg a.cells,.agg b.cells] (.int .i64 r)
 hCl:∀(r:Ao) (l:List Al) (c:List A7),Iv r l=some c->AJ EE Tryz.prog 44 [.agg r.cells,slcV 7 Al.cells l] (slcV 2 A7.cells c)
section
attribute [local simp] Cf GN BP Cg Ch Ci yza subm subh Cj pick B6
attribute [local simp] lkx Df Cu subx bE mN rcO clO Cx Cy Iw Eg Dk
set_option maxHeartbeats 8000000 in
theorem wzw0{caps:List Aa}{rate:Int->Int->Option Af}(EC:Ix caps rate){C4 C5:Aa}{e7 e8:Nat}{L A47 A48:Aa}{q q1:Af}{F:Int}{e6 n:Nat}{out:List Int}{r:Ao}{cl:List A7}(cn:cl.length<=1000000){e9 e10 e11:Nat}{o12 o13 o14 o15:Ad}{ev:Nat->Nat}{m m1:List (Int×List Int)}{h:Aq}(hM:MH ev (fun _=>0) m h)(hG:GH h)(hF:Eh rate r cl m q=some (m1,q1)) (aG:capM m1) {Q:Exit->As->Prop}
  (cont:∀ev' h' e9' e10' e11',MH ev' (fun _=>0) m1 h'->GH h'->(∀t,h' (rwx t)=h (rwx t))->Q .normal ⟨tl (bE C4 C5 (.fn 91 0 caps) e7 e8 L A47 A48) 231,
   hx (mN q1 F e6 n out e7 (rcO r) (.amap e8 (mSl ev' (fun _=>0) 0 m1)) (.gone e9') (.gone e10') (.gone e11') o12 o13 o14 o15) h',[]⟩) :
  AW EE none Tryz.prog (.block 2 (.loop (Yc 0))) Q ⟨tl (bE C4 C5 (.fn 91 0 caps) e7 e8 L A47 A48++[(59,clO cl),(60,.int .i64 cl.length),(61,.int .i64 0)]) 231,
   hx (mN q F e6 n out e7 (rcO r) (.amap e8 (mSl ev (fun _=>0) 0 m)) (.gone e9) (.gone e10) (.gone e11) o12 o13 o14 o15) h,[]⟩:=by
 refine .block (AW.lph (fun y:YH=>bE C4 C5 (.fn 91 0 caps) e7 e8 L A47 A48++[(59,clO cl),(60,.int .i64 cl.length),(61,.int .i64 y.j)]) (fun y=>mN y.q F e6 n out e7 (rcO r) (.amap e8 (mSl y.ev (fun _=>0) 0 y.m)) (.gone y.c) (.gone y.a) (.gone y.b) o12 o13 o14 o15) (fun y=>y.h) (fun y=>cl.length-y.j) (fun y=>y.j<=cl.length/\MH y.ev (fun _=>0) y.m y.h/\GH y.h/\(∀t,y.h (rwx t)=h (rwx t))/\Eh rate r (cl.drop y.j) y.m y.q=some (m1,q1)) ⟨0,m,q,ev,h,e9,e10,e11⟩ ⟨BB _,hM,hG,fun _=>rfl,hF⟩ rfl (by simp) (by simp) (by simp) ?_);rintro⟨j,m,q,ev,h2,e9,a,b⟩ ⟨hj,hM,hG,hr,hF⟩;refine AW.ath fun P hP=>?_;simp only at hj hM hG hr hF |-;refine AW.sr (by simp[Yd];rfl) ?_;refine .seq (AW.if' (decide ((j:Int)<(cl.length:Int))) (by simp) (fun et=>AW.skip ?_) (fun et=>?_));rotate_left
 ·obtain rfl:j=cl.length:=by have:=of_decide_eq_false et;omega
  rw[List.drop_length]at hF;obtain h3:=AI (show some (m,q)=some (m1,q1) from hF);simp only[BC]at h3;obtain⟨rfl,rfl⟩:=h3;exact .exs (by simp only[Ay,ablk,AX];exact cont ev h2 e9 a b hM hG hr) (by simp) (by simp) (by simp)
 have hlt:j<cl.length:=by have:=BX et;omega
 obtain⟨c,hc⟩:∃c,cl[j]?=some c:=⟨_,AA hlt⟩;have cc:Ai A7.cells cl j=c.cells:=Bb hc;rw[Ft hlt,show cl[j]=c from(AC.1 hc).2]at hF;obtain⟨ra,p1,hF⟩:=bd_e (show bd (rate c.Span r.Hi) _=some (m1,q1) from hF);obtain⟨rb,p2,hF⟩:=bd_e hF;obtain⟨e,p3,hF⟩:=bd_e hF;obtain⟨m2,p4,hF⟩:=bd_e hF;obtain⟨i,p5,hF⟩:=bd_e hF;obtain⟨g,p6,hF⟩:=bd_e hF;obtain⟨p,p7,hF⟩:=bd_e hF;obtain⟨q2,p8,hF⟩:=bd_e hF;have s1:=EC.hR _ _ _ p1;have s2:=EC.hR _ _ _ p2;have s3:=EC.hC _ _ _ p3;have s5:=EC.hI _ _ p5;have s6:=EC.hR _ _ _ p6;have s7:=EC.hM _ _ _ p7;have s8:=EC.hA _ _ _ p8;have hE:=EC.hE;have dj:capM m2:=aG.le (XV hF);have aS:inr .i64 ((j:Int)+1):=by show _/\_;omega
 simp only[Ay];refine .seq (.block (AW.sr (by simp[Ye,hlt,cc];rfl) ?_));refine AW.sr (by simp[Yf];rfl) ?_;generalize gf:(bif decide (e<0) then r.Hi else r.Lo)=best at p4 p6 s6
 have step:AW EE none Tryz.prog (.seq (.seq (.reg false (P6 0) []) (.block 4 (.loop (P5 0)))) (.reg true (P7 0) Yg)) (ablk 3 (Ay (AW EE none Tryz.prog (.reg false (P8 0) []) (Ay P (ablk 2 Q))) (Ay P (ablk 2 Q)))) ⟨tl (bE C4 C5 (.fn 91 0 caps) e7 e8 L A47 A48++[(15,.ptr 9 (e9+1) 0),(16,.int .i64 best),(59,clO cl),(60,.int .i64 cl.length),(61,.int .i64 j)]) 231,
   hx (mN q F e6 n out e7 (rcO r) (.amap e8 (mSl ev (fun _=>0) 0 m)) (.box (e9+1) [.int .i64 c.Span,.int .i64 c.Ticks]) (.gone a) (.gone b) o12 o13 o14 o15) h2,[]⟩:=by
  refine .seq (.seq (AW.r1 (by simp[P6];rfl) ?_));refine .see (.spx (m':=bE C4 C5 (.fn 91 0 caps) e7 e8 L A47 A48++[(15,.ptr 9 (e9+1) 0),(16,.int .i64 best),(59,clO cl),(60,.int .i64 cl.length),(61,.int .i64 j),(84,.int .i64 c.Ticks),(85,.int .i64 0)]) (hm':=mN q F e6 n out e7 (rcO r) (.amap e8 (mSl ev (fun _=>0) 0 m)) (.box (e9+1) [.int .i64 c.Span,.int .i64 c.Ticks]) (.gone a) (.gone b) o12 o13 o14 o15) (by simp) (by simp) (by simp)) ?_;refine wzvx hM hG p4 dj fun ev' h' a' b' dL dM bt=>?_;simp only[Ay];refine AW.d1 (by simp[P7];refine Bg.pure _ s5 ?_;simp;refine⟨hE,Bg.pure _ s6 ?_⟩;simp;refine Bg.pure _ s7 ?_;refine Bg.pure _ s8 ?_;simp;exact⟨by kernel_rfl,rfl⟩) ?_;simp only[ablk,Ay];refine AW.r1 (by simp[P8];exact⟨aS,rfl⟩) ?_;rw[hP];exact⟨⟨j+1,m2,q2,ev',h',e9+1,a',b'⟩,⟨by show j+1<=_;omega,dL,dM,fun t=>(bt t).trans (hr t),hF⟩,by show cl.length-(j+1)<cl.length-j;omega,.spx (by simp) (by simp) (by simp)⟩
 refine .seq (AW.sd (by simp[Yh];refine⟨hE,Bg.pure _ s1 ?_⟩;simp;refine⟨hE,Bg.pure _ s2 ?_⟩;simp;refine Bg.pure _ s3 ?_;simp;exact⟨by kernel_rfl,rfl⟩) ?_);refine AW.if' (decide (e<0)) (by simp) (fun et=>?_) (fun et=>AW.skip ?_)
 ·refine AW.r1 (by simp[Yi];rfl) ?_;simp only[Ay];have hb:r.Hi=best:=by rw[<-gf,et];rfl
  exact .see (.spx (by simp[hb]) (by simp) (by simp)) step
 ·simp only[Ay];have hb:r.Lo=best:=by rw[<-gf,et];rfl
  exact .see (.spx (by simp[hb]) (by simp) (by simp)) step
end
end
section
structure YK where
 j:Nat
 m:List (Int×List Int)
 ev:Nat->Nat
 h:Aq
 a:Nat
 b:Nat
structure YL where
 j:Nat
 m:List (Int×List Int)
 q:Af
 ev:Nat->Nat
 h:Aq
 a:Nat
 b:Nat
section
attribute [local simp] Cf GN BP Cg Ch Ci yza subm subh Cj pick B6
attribute [local simp] lkx Px Cu subx bE mN rcO clO Cx Cy Iw Eg Dk
attribute [local simp] XR
set_option maxHeartbeats 8000000 in
theorem wzu7{C4 C5 fnv:Aa}{e7 e8:Nat}{L A47 A48 A21 A119 A120 A121 A126 A127 A128 A133 A134:Aa}{q:Af}{F:Int}{e6 n:Nat}{out:List Int}{r:Ao}{e12 e13:Nat}{o9 o10 o11 o14 o15:Ad}{f:Nat->Aa}{cl:List A7}{co:List (List Af)}{er:Nat->Nat}{nn S:Nat}(hT:TkV f cl co er nn S){cx sI:Nat}{c:A7}(hc:cl[cx]?=some c)(cn:cx<nn){hd:AM}(hh:r.Table[sI]?=some hd)(iF:sI<r.Table.length){k s:Int}(hk:k=c.Span)(hs:s=hd.Stage){ev:Nat->Nat}{m:List (Int×List Int)}{h:Aq}(hM:MH ev (fun _=>0) m h)(hG:GH h)(aG:∀l,mget keqI m k=some l->l.length<=1000000000) {b:AO} {Q:Exit->As->Prop}
  (cont:∀ev' h' e10' e11',MH ev' (fun _=>0) (Bp m k s) h'->GH h'->(∀t,h' (rwx t)=h (rwx t))->AW EE none Tryz.prog b Q ⟨tl (bE C4 C5 fnv e7 e8 L A47 A48++[(17,.cptr f 8 0),(18,.int .i64 sI),(20,.int .i64 cx),(21,A21),(119,A119),(120,A120),(121,A121),(126,A126),(127,A127),(128,A128),(133,A133),(134,A134)]) 231,
   hx (mN q F e6 n out e7 (rcO r) (.amap e8 (mSl ev' (fun _=>0) 0 (Bp m k s))) o9 o10 o11 (.gone e10') (.gone e11') o14 o15) h',[]⟩) :
  AW EE none Tryz.prog (.seq (.block 11 (.reg true (Mz 0) Yj)) b) Q ⟨tl (bE C4 C5 fnv e7 e8 L A47 A48++[(17,.cptr f 8 0),(18,.int .i64 sI),(20,.int .i64 cx),(21,A21),(119,A119),(120,A120),(121,A121),(126,A126),(127,A127),(128,A128),(133,A133),(134,A134)]) 231,
   hx (mN q F e6 n out e7 (rcO r) (.amap e8 (mSl ev (fun _=>0) 0 m)) o9 o10 o11 (.gone e12) (.gone e13) o14 o15) h,[]⟩:=by
 have cc:Ai A7.cells cl cx=c.cells:=Bb hc;have chd:Ai AM.cells r.Table sI=hd.cells:=Bb hh;subst hk;subst hs;rcases Mw ev (fun _=>0) c.Span m 0 0 with ⟨h1,h2,h3⟩ | ⟨j,l,h0,h1,h2,h3⟩
 ·have bX:Bp m c.Span hd.Stage=m++[(c.Span,[hd.Stage])]:=by
   unfold Bp;rw[h3,h1];rfl
  refine .seq (.block (AW.d1 (by simp[Mz,hT.f5,cn,cc,chd,iF,EG,BM,Cs,Aa.kkind,h2];exact⟨by kernel_rfl,rfl⟩) ?_));simp only[Ay,ablk];obtain⟨K0,iE⟩:=hM.fr m.length (A9 _);refine .see (.spx (m':=bE C4 C5 fnv e7 e8 L A47 A48++[(17,.cptr f 8 0),(18,.int .i64 sI),(20,.int .i64 cx),(21,A21),(119,A119),(120,A120),(121,A121),(126,A126),(127,A127),(128,A128),(133,A133),(134,A134)]) (hm':=(13,.vec (e13+1) 1 1 (Ai iC [hd.Stage])) :: (8,.amap e8 (mSl ev (fun _=>0) 0 m++[(.int .i64 c.Span,.vec 13 (e13+1) 0 1)])) :: [(0,.gone 2),(1,.gone 2),(2,.box 1 [.bool false,.str [],.str []]),(3,.box 1 [.int .i64 0,.nils]),(4,.box 1 [.bool q.Neg,.str q.Num,.str q.Den]),(5,.box 1 [.int .i64 F,.vec 6 e6 0 n]),(6,.vec e6 1 n (Ai iC out)),(7,.box e7 (rcO r)),(9,o9),(10,o10),(11,o11),(12,.gone (e12+1)),(14,o14),(15,o15)]) (by simp) ?_ (by simp)) ?_
  ·simp;rfl
  refine .see (XX (B:=sx m.length) (by omega) (by unfold sx;omega) (by unfold sx;omega) (XS (by simp)) iE) ?_;rw[XQ (l:=[hd.Stage]) (n:=1) rfl,Mx,<-bX];refine .see (.spx (m':=bE C4 C5 fnv e7 e8 L A47 A48++[(17,.cptr f 8 0),(18,.int .i64 sI),(20,.int .i64 cx),(21,A21),(119,A119),(120,A120),(121,A121),(126,A126),(127,A127),(128,A128),(133,A133),(134,A134)]) (hm':=mN q F e6 n out e7 (rcO r) (.amap e8 (mSl (upN ev m.length (K0+1)) (fun _=>0) 0 (Bp m c.Span hd.Stage))) o9 o10 o11 (.gone (e12+1)) (.gone (e13+2)) o14 o15) (by simp) (by simp) (by simp)) ?_;exact cont _ _ _ _ (by rw[bX];exact hM.new) hG.set (fun t=>BE (fun e=>by rw[Mv]at e;exact e))
 ·have hl:=aG l h1;simp only[Bs]at h2;have bX:Bp m c.Span hd.Stage=m.set j (c.Span,l++[hd.Stage]):=by unfold Bp;rw[h3,h1];rfl
  obtain⟨N,g,z1,z2,z3⟩:=hM.mx j c.Span l h0;simp only[Bs]at z2 z3;have bU:(l.length+1)*8<=140737488355328:=by omega
  obtain⟨dU,_⟩:=AC.1 h0
  have kj:∀i x,(l++[hd.Stage])[i]?=some x->(fun k:Nat=>if k<l.length then g k else([[Aa.int .i64 hd.Stage]][k-l.length]?).getD []) i=[.int .i64 x]:=fun i x hx=>by
   rw[List.getElem?_append]at hx;simp only;split at hx
   ·rename_i hi;rw[Aj hi];exact z3 i x hx
   ·rename_i hi;rw[Ah hi];have h0:i-l.length=0:=by obtain⟨h2,_⟩:=AC.1 hx;simp at h2;omega
    rw[h0]at hx |-;cases hx;rfl
  refine .seq (.block (AW.d1 (by simp[Mz,hT.f5,cn,cc,chd,iF,EG,BM,Cs,Aa.kkind,h2,vS,z1,z2,bU];exact⟨by kernel_rfl,rfl⟩) ?_));simp only[Ay,ablk];refine .see (.spx (m':=bE C4 C5 fnv e7 e8 L A47 A48++[(17,.cptr f 8 0),(18,.int .i64 sI),(20,.int .i64 cx),(21,A21),(119,A119),(120,A120),(121,A121),(126,A126),(127,A127),(128,A128),(133,A133),(134,A134)]) (hm':=mN q F e6 n out e7 (rcO r) (.amap e8 (mSl (upN ev j (ev j+1)) (fun _=>0) 0 (Bp m c.Span hd.Stage))) o9 o10 o11 (.gone (e12+1)) (.gone e13) o14 o15) (by simp) ?_ (by simp)) ?_
  ·simp;rw[P3 (l:=l++[hd.Stage]) dU XY,Mx,<-bX];exact yza _
  exact cont _ _ _ _ (by rw[bX];exact hM.old h0 kj) hG.set (fun t=>BE (fun e=>by rw[Mv]at e;exact e))
set_option maxHeartbeats 8000000 in
theorem en_5{C4 C5 fnv:Aa}{e7 e8:Nat}{L A47 A48 A119 A120 A121 A126 A127 A128:Aa}{q:Af}{F:Int}{e6 n:Nat}{out:List Int}{r:Ao}{e12 e13:Nat}{o9 o10 o11 o14 o15:Ad}{f:Nat->Aa}{cl:List A7}{co:List (List Af)}{er:Nat->Nat}{nn S:Nat}(hT:TkV f cl co er nn S){cx sI:Nat} {c:A7} (hc:cl[cx]?=some c) (cn:cx<nn) {hd:AM} (hh:r.Table[sI]?=some hd) (iF:sI<r.Table.length) {tk:Int} {ev:Nat->Nat} {m m1:List (Int×List Int)} {h:Aq} (hM:MH ev (fun _=>0) m h) (hG:GH h)(hF:forN (fun m (_:Nat)=>some (Bp m c.Span hd.Stage)) tk.toNat 0 m=some m1) (aG:capM m1) {Q:Exit->As->Prop}
  (cont:∀ev' h' e10' e11',MH ev' (fun _=>0) m1 h'->GH h'->(∀t,h' (rwx t)=h (rwx t))->Q .normal ⟨tl (bE C4 C5 fnv e7 e8 L A47 A48++[(17,.cptr f 8 0),(18,.int .i64 sI),(20,.int .i64 cx),(21,.int .i64 tk),(119,A119),(120,A120),(121,A121),(126,A126),(127,A127),(128,A128)]) 231,
   hx (mN q F e6 n out e7 (rcO r) (.amap e8 (mSl ev' (fun _=>0) 0 m1)) o9 o10 o11 (.gone e10') (.gone e11') o14 o15) h',[]⟩) :
  AW EE none Tryz.prog (.block 10 (.loop (Yk 0))) Q ⟨tl (bE C4 C5 fnv e7 e8 L A47 A48++[(17,.cptr f 8 0),(18,.int .i64 sI),(20,.int .i64 cx),(21,.int .i64 tk),(119,A119),(120,A120),(121,A121),(126,A126),(127,A127),(128,A128),(133,.int .i64 tk),(134,.int .i64 0)]) 231,
   hx (mN q F e6 n out e7 (rcO r) (.amap e8 (mSl ev (fun _=>0) 0 m)) o9 o10 o11 (.gone e12) (.gone e13) o14 o15) h,[]⟩:=by
 have hN:tk.toNat<=1000000000:=by have:=(GZ hF).2;have:=aG c.Span;omega
 refine .block (AW.lph (fun y:YK=>bE C4 C5 fnv e7 e8 L A47 A48++[(17,.cptr f 8 0),(18,.int .i64 sI),(20,.int .i64 cx),(21,.int .i64 tk),(119,A119),(120,A120),(121,A121),(126,A126),(127,A127),(128,A128),(133,.int .i64 tk),(134,.int .i64 y.j)]) (fun y=>mN q F e6 n out e7 (rcO r) (.amap e8 (mSl y.ev (fun _=>0) 0 y.m)) o9 o10 o11 (.gone y.a) (.gone y.b) o14 o15) (fun y=>y.h) (fun y=>tk.toNat-y.j) (fun y=>y.j<=tk.toNat/\MH y.ev (fun _=>0) y.m y.h/\GH y.h/\(∀t,y.h (rwx t)=h (rwx t))/\forN (fun m (_:Nat)=>some (Bp m c.Span hd.Stage)) (tk.toNat-y.j) y.j y.m=some m1) ⟨0,m,ev,h,e12,e13⟩ ⟨BB _,hM,hG,fun _=>rfl,hF⟩ rfl (by simp) (by simp) (by simp) ?_);rintro⟨j,m,ev,h2,a,b⟩ ⟨hj,hM,hG,hr,hF⟩;simp only at hj hM hG hr hF |-;refine AW.sr (by simp[Yl];rfl) ?_;refine .seq (AW.if' (decide ((j:Int)<tk)) (by simp) (fun et=>AW.skip ?_) (fun et=>?_));rotate_left
 ·obtain rfl:j=tk.toNat:=by have:=of_decide_eq_false et;omega
  rw[Nat.sub_self]at hF;obtain rfl:=AI (show some m=some m1 from hF);exact .exs (by simp only[Ay,ablk,AX];exact cont ev h2 a b hM hG hr) (by simp) (by simp) (by simp)
 have hlt:j<tk.toNat:=by have:=BX et;omega
 rw[show tk.toNat-j=(tk.toNat-(j+1))+1 by omega]at hF;have hF:forN (fun m (_:Nat)=>some (Bp m c.Span hd.Stage)) (tk.toNat-(j+1)) (j+1) (Bp m c.Span hd.Stage)=some m1:=hF;have aS:inr .i64 ((j:Int)+1):=by show _/\_;omega
 have dj:capM m:=aG.le ((leM.put m c.Span hd.Stage).trans (GZ hF).1);simp only[Ay];refine .see (.spx (m':=bE C4 C5 fnv e7 e8 L A47 A48++[(17,.cptr f 8 0),(18,.int .i64 sI),(20,.int .i64 cx),(21,.int .i64 tk),(119,A119),(120,A120),(121,A121),(126,A126),(127,A127),(128,A128),(133,.int .i64 tk),(134,.int .i64 j)]) (hm':=mN q F e6 n out e7 (rcO r) (.amap e8 (mSl ev (fun _=>0) 0 m)) o9 o10 o11 (.gone a) (.gone b) o14 o15) (by simp) (by simp) (by simp)) ?_;refine wzu7 hT hc cn hh iF rfl rfl hM hG (fun l e=>dj.l e) fun ev' h' a' b' dL dM bt=>?_;refine AW.r1 (by simp[Ym];exact⟨aS,rfl⟩) ?_;exact⟨⟨j+1,Bp m c.Span hd.Stage,ev',h',a',b'⟩,⟨by show j+1<=_;omega,dL,dM,fun t=>(bt t).trans (hr t),hF⟩,by show tk.toNat-(j+1)<tk.toNat-j;omega,.spx (by simp) (by simp) (by simp)⟩
set_option maxHeartbeats 8000000 in
theorem en_4{caps:List Aa}{rate:Int->Int->Option Af}(EC:Ix caps rate){C4 C5 fnv:Aa}{e7 e8:Nat}{L A47 A48 A119 A120 A121:Aa}{q q1:Af}{F:Int}{e6 n:Nat}{out:List Int}{r:Ao}{e12 e13:Nat}{o9 o10 o11 o14 o15:Ad}{f:Nat->Aa}{cl:List A7}{co:List (List Af)}{er:Nat->Nat}{nn S:Nat}(hT:TkV f cl co er nn S)(cn:cl.length=nn)(bS:nn<=1000000){sI:Nat} {hd:AM} (hh:r.Table[sI]?=some hd) (iF:sI<r.Table.length) (gP:sI<S) {cs:List Af} (bn:co[sI]?=some cs) (cM:cs.length=nn) {row:List Int} (js:row.length=nn) {ev:Nat->Nat} {m m1:List (Int×List Int)} {h:Aq} (kl:h (rwx sI)=rowO (er sI) row) (hM:MH ev (fun _=>0) m h) (hG:GH h)(hF:DA hd cl cs row m q=some (m1,q1)) (aG:capM m1) {Q:Exit->As->Prop}
  (cont:∀ev' h' e10' e11',MH ev' (fun _=>0) m1 h'->GH h'->(∀t,h' (rwx t)=h (rwx t))->Q .normal ⟨tl (bE C4 C5 fnv e7 e8 L A47 A48++[(17,.cptr f 8 0),(119,A119),(120,A120),(121,A121)]) 231,
   hx (mN q1 F e6 n out e7 (rcO r) (.amap e8 (mSl ev' (fun _=>0) 0 m1)) o9 o10 o11 (.gone e10') (.gone e11') o14 o15) h',[]⟩) :
  AW EE none Tryz.prog (.block 8 (.loop (Yn 0))) Q ⟨tl (bE C4 C5 fnv e7 e8 L A47 A48++[(17,.cptr f 8 0),(18,.int .i64 sI),(119,A119),(120,A120),(121,A121),(126,.vec (rwx sI) (er sI) 0 nn),(127,.int .i64 nn),(128,.int .i64 0)]) 231,
   hx (mN q F e6 n out e7 (rcO r) (.amap e8 (mSl ev (fun _=>0) 0 m)) o9 o10 o11 (.gone e12) (.gone e13) o14 o15) h,[]⟩:=by
 refine .block (AW.lph (fun y:YL=>bE C4 C5 fnv e7 e8 L A47 A48++[(17,.cptr f 8 0),(18,.int .i64 sI),(119,A119),(120,A120),(121,A121),(126,.vec (rwx sI) (er sI) 0 nn),(127,.int .i64 nn),(128,.int .i64 y.j)]) (fun y=>mN y.q F e6 n out e7 (rcO r) (.amap e8 (mSl y.ev (fun _=>0) 0 y.m)) o9 o10 o11 (.gone y.a) (.gone y.b) o14 o15) (fun y=>y.h) (fun y=>nn-y.j) (fun y=>y.j<=nn/\MH y.ev (fun _=>0) y.m y.h/\GH y.h/\(∀t,y.h (rwx t)=h (rwx t))/\DA hd (cl.drop y.j) (cs.drop y.j) (row.drop y.j) y.m y.q=some (m1,q1)) ⟨0,m,q,ev,h,e12,e13⟩ ⟨BB _,hM,hG,fun _=>rfl,hF⟩ rfl (by simp) (by simp) (by simp) ?_);rintro⟨j,m,q,ev,h2,a,b⟩ ⟨hj,hM,hG,hr,hF⟩;refine AW.ath fun P hP=>?_;simp only at hj hM hG hr hF |-;refine AW.sr (by simp[Yo];rfl) ?_;refine .seq (AW.if' (decide ((j:Int)<(nn:Int))) (by simp) (fun et=>AW.skip ?_) (fun et=>?_));rotate_left
 ·obtain rfl:j=nn:=by have:=of_decide_eq_false et;omega
  rw[show row.drop j=[] by rw[<-js,List.drop_length],show cl.drop j=[] by rw[<-cn,List.drop_length]]at hF;obtain h3:=AI (show some (m,q)=some (m1,q1) from hF);simp only[BC]at h3;obtain⟨rfl,rfl⟩:=h3;exact .exs (by simp only[Ay,ablk,AX];exact cont ev h2 a b hM hG hr) (by simp) (by simp) (by simp)
 have hlt:j<nn:=by have:=BX et;omega
 obtain⟨c,hc⟩:∃c,cl[j]?=some c:=⟨_,AA (by omega)⟩;obtain⟨g,hg⟩:∃c,cs[j]?=some c:=⟨_,AA (by omega)⟩;obtain⟨tk,gQ⟩:∃c,row[j]?=some c:=⟨_,AA (by omega)⟩;have cg:Ai Af.cells cs j=g.cells:=Bb hg;have ct:Ai iC row j=iC tk:=Bb gQ;have cco:Ai coC co sI=coC cs:=Bb bn;rw[Ft (by omega),show cl[j]'(by omega)=c from(AC.1 hc).2,Ft (l:=cs) (by omega),show cs[j]'(by omega)=g from(AC.1 hg).2,Ft (l:=row) (by omega),show row[j]'(by omega)=tk from(AC.1 gQ).2]at hF;obtain⟨m2,p4,hF⟩:=bd_e (show bd (forN (fun m (_:Nat)=>some (Bp m c.Span hd.Stage)) tk.toNat 0 m) _=some (m1,q1) from hF);obtain⟨i,p5,hF⟩:=bd_e hF;obtain⟨p,p7,hF⟩:=bd_e hF;obtain⟨q2,p8,hF⟩:=bd_e hF;have s5:=EC.hI _ _ p5;have s7:=EC.hM _ _ _ p7;have s8:=EC.hA _ _ _ p8;have aF:h2 (rwx sI)=.vec (er sI) 1 nn (Ai iC row):=by rw[hr,kl];unfold rowO;rw[js]
 have dj:capM m2:=aG.le (P4 hF);have aS:inr .i64 ((j:Int)+1):=by show _/\_;omega
 simp only[Ay];refine .seq (.block (AW.sr (by simp[Yp,aF,hlt,ct,iC];rfl) ?_));refine .seq (.seq (AW.r1 (by simp[Yq];rfl) ?_));refine .see (.spx (m':=bE C4 C5 fnv e7 e8 L A47 A48++[(17,.cptr f 8 0),(18,.int .i64 sI),(20,.int .i64 j),(21,.int .i64 tk),(119,A119),(120,A120),(121,A121),(126,.vec (rwx sI) (er sI) 0 nn),(127,.int .i64 nn),(128,.int .i64 j),(133,.int .i64 tk),(134,.int .i64 0)]) (hm':=mN q F e6 n out e7 (rcO r) (.amap e8 (mSl ev (fun _=>0) 0 m)) o9 o10 o11 (.gone a) (.gone b) o14 o15) (by simp) (by simp) (by simp)) ?_;refine en_5 hT hc hlt hh iF hM hG p4 dj fun ev' h' a' b' dL dM bt=>?_;simp only[Ay];refine AW.d1 (by simp[Yr,hT.f6,gP,bn,cco,coC,cM,hlt,cg];refine Bg.pure _ s5 ?_;simp[hT.f6,gP,cco,coC,cM,hlt,cg];refine Bg.pure _ s7 ?_;refine Bg.pure _ s8 ?_;simp;exact⟨by kernel_rfl,rfl⟩) ?_;simp only[ablk,Ay];refine AW.r1 (by simp[Ys];exact⟨aS,rfl⟩) ?_;rw[hP];exact⟨⟨j+1,m2,q2,ev',h',a',b'⟩,⟨by show j+1<=_;omega,dL,dM,fun t=>(bt t).trans (hr t),hF⟩,by show nn-(j+1)<nn-j;omega,.spx (by simp) (by simp) (by simp)⟩
set_option maxHeartbeats 8000000 in
theorem en_3{caps:List Aa}{rate:Int->Int->Option Af}(EC:Ix caps rate){C4 C5 fnv:Aa}{e7 e8:Nat}{L A47 A48:Aa}{q q1:Af}{F:Int}{e6 n:Nat}{out:List Int}{r:Ao}{e12 e13:Nat}{o9 o10 o11 o14 o15:Ad}{f:Nat->Aa}{cl:List A7}{co:List (List Af)}{er:Nat->Nat}{nn S:Nat}(hT:TkV f cl co er nn S)(cn:cl.length=nn)(bS:nn<=1000000)(hS:r.Table.length=S)(dW:S<=1000000)(gK:co.length=S) (cM:∀c∈co,c.length=nn) {x:List (List Int)} (bR:x.length=S) (b9:∀c∈x,c.length=nn) {ev:Nat->Nat} {m m1:List (Int×List Int)} {h:Aq} (hX:RX er x h) (hM:MH ev (fun _=>0) m h) (hG:GH h)(hF:DB cl r.Table co x m q=some (m1,q1)) (aG:capM m1) {Q:Exit->As->Prop}
  (cont:∀ev' h' e10' e11',MH ev' (fun _=>0) m1 h'->GH h'->(∀t,h' (rwx t)=h (rwx t))->Q .normal ⟨tl (bE C4 C5 fnv e7 e8 L A47 A48) 231,
   hx (mN q1 F e6 n out e7 (rcO r) (.amap e8 (mSl ev' (fun _=>0) 0 m1)) o9 o10 o11 (.gone e10') (.gone e11') o14 o15) h',[]⟩) :
  AW EE none Tryz.prog (.block 6 (.loop (Yt 0))) Q ⟨tl (bE C4 C5 fnv e7 e8 L A47 A48++[(17,.cptr f 8 0),(119,.slc 1 S (xG er nn)),(120,.int .i64 S),(121,.int .i64 0)]) 231,
   hx (mN q F e6 n out e7 (rcO r) (.amap e8 (mSl ev (fun _=>0) 0 m)) o9 o10 o11 (.gone e12) (.gone e13) o14 o15) h,[]⟩:=by
 refine .block (AW.lph (fun y:YL=>bE C4 C5 fnv e7 e8 L A47 A48++[(17,.cptr f 8 0),(119,.slc 1 S (xG er nn)),(120,.int .i64 S),(121,.int .i64 y.j)]) (fun y=>mN y.q F e6 n out e7 (rcO r) (.amap e8 (mSl y.ev (fun _=>0) 0 y.m)) o9 o10 o11 (.gone y.a) (.gone y.b) o14 o15) (fun y=>y.h) (fun y=>S-y.j) (fun y=>y.j<=S/\MH y.ev (fun _=>0) y.m y.h/\GH y.h/\(∀t,y.h (rwx t)=h (rwx t))/\DB cl (r.Table.drop y.j) (co.drop y.j) (x.drop y.j) y.m y.q=some (m1,q1)) ⟨0,m,q,ev,h,e12,e13⟩ ⟨BB _,hM,hG,fun _=>rfl,hF⟩ rfl (by simp) (by simp) (by simp) ?_);rintro⟨j,m,q,ev,h2,a,b⟩ ⟨hj,hM,hG,hr,hF⟩;refine AW.ath fun P hP=>?_;simp only at hj hM hG hr hF |-;refine AW.sr (by simp[Yu];rfl) ?_;refine .seq (AW.if' (decide ((j:Int)<(S:Int))) (by simp) (fun et=>AW.skip ?_) (fun et=>?_));rotate_left
 ·obtain rfl:j=S:=by have:=of_decide_eq_false et;omega
  rw[show x.drop j=[] by rw[<-bR,List.drop_length],show r.Table.drop j=[] by rw[<-hS,List.drop_length]]at hF;obtain h3:=AI (show some (m,q)=some (m1,q1) from hF);simp only[BC]at h3;obtain⟨rfl,rfl⟩:=h3;exact .exs (by simp only[Ay,ablk,AX];exact cont ev h2 a b hM hG hr) (by simp) (by simp) (by simp)
 have hlt:j<S:=by have:=BX et;omega
 obtain⟨hd,hh⟩:∃c,r.Table[j]?=some c:=⟨_,AA (by omega)⟩;obtain⟨cs,bn⟩:∃c,co[j]?=some c:=⟨_,AA (by omega)⟩;obtain⟨row,aF⟩:∃c,x[j]?=some c:=⟨_,AA (by omega)⟩;rw[Ft (by omega),show r.Table[j]'(by omega)=hd from(AC.1 hh).2,Ft (l:=co) (by omega),show co[j]'(by omega)=cs from(AC.1 bn).2,Ft (l:=x) (by omega),show x[j]'(by omega)=row from(AC.1 aF).2]at hF;obtain⟨⟨m2,q2⟩,p1,hF⟩:=bd_e (show bd (DA hd cl cs row m q) _=some (m1,q1) from hF);have lD:cs.length=nn:=cM _ (AK bn);have js:row.length=nn:=b9 _ (AK aF);have kl:h2 (rwx j)=rowO (er j) row:=by rw[hr];exact hX j row aF
 have lE:h2 (rwx j)=.vec (er j) 1 nn (Ai iC row):=by rw[kl];unfold rowO;rw[js]
 have dj:capM m2:=aG.le (XW hF);have aS:inr .i64 ((j:Int)+1):=by show _/\_;omega
 simp only[Ay];refine .seq (.block (AW.sr (by simp[Yv,hlt,xG];rfl) ?_));refine .seq (AW.r1 (by simp[Yw,lE];rfl) ?_);refine .see (.spx (m':=bE C4 C5 fnv e7 e8 L A47 A48++[(17,.cptr f 8 0),(18,.int .i64 j),(119,.slc 1 S (xG er nn)),(120,.int .i64 S),(121,.int .i64 j),(126,.vec (rwx j) (er j) 0 nn),(127,.int .i64 nn),(128,.int .i64 0)]) (hm':=mN q F e6 n out e7 (rcO r) (.amap e8 (mSl ev (fun _=>0) 0 m)) o9 o10 o11 (.gone a) (.gone b) o14 o15) (by simp) (by simp) (by simp)) ?_;refine en_4 EC hT cn bS hh (by omega) hlt bn lD js kl hM hG p1 dj fun ev' h' a' b' dL dM bt=>?_;simp only[ablk,Ay];refine AW.r1 (by simp[Yx];exact⟨aS,rfl⟩) ?_;rw[hP];exact⟨⟨j+1,m2,q2,ev',h',a',b'⟩,⟨by show j+1<=_;omega,dL,dM,fun t=>(bt t).trans (hr t),hF⟩,by show S-(j+1)<S-j;omega,.spx (by simp) (by simp) (by simp)⟩
end
end
section
def CB(v:Aa):Aa:=.cptr (fun k=>[v].getD k .top) 1 0
structure YT where
 N:Nat
 t:Int
 m:List (Int×List Int)
 out:List Int
 lo:Nat->Nat
 a:Nat
 b:Nat
section
attribute [local simp] Cf GN BP Cg Ch Ci yza subm subh Cj pick B6
attribute [local simp] lkx Df Cu subx bE mN rcO clO Cx Cy Iw Eg Dk CB
theorem fz_1{id e s N:Nat}{v:Aa}{m:List (Nat×Aa)}{rest:List (Nat×Ad)}{h:Aq} :
  See EE ⟨tl ((s,.ptr id e 0) :: m) N,hx ((id,.box e [v]) :: rest) h,[]⟩ ⟨tl ((s,CB v) :: m) N,hx ((id,.gone (e+1)) :: rest) h,[]⟩:=by
 refine .freeze (id:=id) (o:=.box e [v]) (by simp) rfl trivial (by simp[Ad.ep]) (fun i hi=>.inl (by have aW:¬id=i:=fun k=>hi k.symm;simp[aW])) (XI fun j=>?_) rfl;simp only[look];split
 ·exact .box e 0 [v] _ rfl (fun k _=>rfl)
 ·exact .refl _
theorem MX.tail{ev lo:Nat->Nat}{m:List (Int×List Int)}{h:Aq}(H:MX ev lo m h){j:Nat}{a s:Int}{l:List Int}(hj:m[j]?=some (a,s :: l)):MX ev (upN lo j (lo j+1)) (m.set j (a,l)) h:=by
 obtain⟨dU,_⟩:=AC.1 hj;intro i k l' h1;rw[DN]at h1;by_cases e:j=i
 ·subst e;rw[Aj rfl,Aj dU]at h1;simp only[AY,BC]at h1;obtain⟨rfl,rfl⟩:=h1;obtain⟨N,g,z1,z2,z3⟩:=H j a (s :: l) hj;refine⟨N,g,z1,by simp[upN]at z2 |-;omega,fun i x hx=>?_⟩;have:=z3 (i+1) x (by simpa using hx);simp only[upN,AX];rw[show lo j+1+i=lo j+(i+1) by omega];exact this
 ·rw[Ah e]at h1;obtain⟨N,g,z1,z2,z3⟩:=H i k l' h1;have e':¬i=j:=fun h=>e h.symm;exact⟨N,g,z1,by simpa [upN,e'] using z2,by simpa [upN,e'] using z3⟩
theorem wzjx(f:Nat->Nat)(j:Nat):upN f j (f j)=f:=funext fun i=>by unfold upN;split<;>simp[*]
set_option maxHeartbeats 8000000 in
theorem en_6{spans:List Al}(gR:∀(t k:Int),J2 (spans.length:Int) (fun a0=>FC a0 spans t)=some k->AJ EE Tryz.prog 81 [.int .i64 spans.length,.fn 96 0 [CB (slcV 7 Al.cells spans),CB (.int .i64 t)]] (.int .i64 k)){C5 fnv:Aa} {e7 e8:Nat} {L A47 A48:Aa} {q:Af} {F:Int} {e6 n:Nat} {out out1:List Int} (ho:out.length=n) {r:Ao} {o9 o10 o11 o12 o13:Ad} {e14 e15:Nat} {ev:Nat->Nat} {m:List (Int×List Int)} {h:Aq} (hM:MX ev (fun _=>0) m h) {t0:Int}(hF:lp (EU spans F r.To) (t0,m,out)=some out1) {Q:Exit->As->Prop}
  (cont:∀lo m' e14' e15',out1.length=n->Q .normal ⟨tl (bE (CB (slcV 7 Al.cells spans)) C5 fnv e7 e8 L A47 A48) 231,
   hx (mN q F e6 n out1 e7 (rcO r) (.amap e8 (mSl ev lo 0 m')) o9 o10 o11 o12 o13 (.gone e14') (.gone e15')) h,[]⟩) :
  AW EE none Tryz.prog (.block 12 (.loop (P9 0))) Q ⟨tl (bE (CB (slcV 7 Al.cells spans)) C5 fnv e7 e8 L A47 A48++[(22,CB (.int .i64 t0))]) 231,
   hx (mN q F e6 n out e7 (rcO r) (.amap e8 (mSl ev (fun _=>0) 0 m)) o9 o10 o11 o12 o13 (.gone e14) (.gone e15)) h,[]⟩:=by
 unfold lp at hF;generalize 4611686018427387904=N0 at hF;refine .block (AW.lph (fun y:YT=>bE (CB (slcV 7 Al.cells spans)) C5 fnv e7 e8 L A47 A48++[(22,CB (.int .i64 y.t))]) (fun y=>mN q F e6 n y.out e7 (rcO r) (.amap e8 (mSl ev y.lo 0 y.m)) o9 o10 o11 o12 o13 (.gone y.a) (.gone y.b)) (fun _=>h) (fun y=>y.N) (fun y=>y.out.length=n/\MX ev y.lo y.m h/\lpN (EU spans F r.To) y.N (y.t,y.m,y.out)=some out1) ⟨N0,t0,m,out,fun _=>0,e14,e15⟩ ⟨ho,hM,hF⟩ rfl (by simp) (by simp) (by simp) ?_);rintro⟨N,t,m,out,lo,e14,e15⟩ ⟨ho,hM,hF⟩;refine AW.ath fun P hP=>?_;simp only at ho hM hF |-;obtain⟨N',hN,hL⟩:=Kc hF;clear hF;subst hN;refine .seq (.seq (AW.r1 (by simp[Yy];rfl) ?_));refine AW.if' (decide (t<r.To)) (by simp) (fun et=>AW.skip ?_) (fun et=>?_);rotate_left
 ·rcases hL with ⟨s',h1,_⟩|h1;·have:=(Bo (show ite' (decide (t<r.To)) _ _=_ from h1)).2 et;cases this
  ·have:=(Bo (show ite' (decide (t<r.To)) _ _=_ from h1)).2 et;cases this;exact .exs (by simp only[Ay,ablk,AX];exact cont lo m e14 e15 ho) (by simp) (by simp) (by simp)
 obtain⟨s',h1,hF⟩:∃s',EU spans F r.To (t,m,out)=some (.inl s')/\lpN (EU spans F r.To) N' s'=some out1:=by
  rcases hL with h|h1
  ·exact h
  ·exfalso;have:=(Bo (show ite' (decide (t<r.To)) _ _=_ from h1)).1 et;obtain⟨_,_,this⟩:=bd_e this;obtain⟨l,_,this⟩:=bd_e this;cases l with
   |nil=>cases this
   |cons s l =>obtain⟨_,this⟩:=ck_e this;cases this
 clear hL;have h1:=(Bo (show ite' (decide (t<r.To)) _ _=_ from h1)).1 et;obtain⟨kk,bN,h1⟩:=bd_e h1;obtain⟨l,fh,h1⟩:=bd_e h1;cases l with
 |nil=>cases h1
 |cons s l =>
 obtain⟨i1,h1⟩:=ck_e h1;cases h1;simp only[AH,CS]at i1;obtain⟨⟨i1,i2,i3⟩,i4⟩:=i1;have j1:inr .i64 (t-F):=by simp[Au]at i1;exact i1
 have j4:inr .i64 (t+1):=by simp[Au]at i4;exact i4
 obtain⟨u,hu⟩:∃u:Nat,t-F=u:=⟨(t-F).toNat,by omega⟩;have il:u<n:=by omega
 have j1':inr .i64 (u:Int):=hu▸j1;rw[show(t-F).toNat=u by omega]at hF;rcases Mw ev lo kk m 0 0 with ⟨w1,_,_⟩|⟨j,l',w0,w1,w2,w3⟩
 ·rw[fh]at w1;cases w1
 rw[fh]at w1;obtain rfl:=AI w1;simp only[Bs]at w2;obtain⟨Nn,g,z1,z2,z3⟩:=hM j kk (s :: l) w0;obtain⟨dU,_⟩:=AC.1 w0;have gg:g (lo j)=[.int .i64 s]:=by have:=z3 0 s rfl;rwa [Gn]at this
 have iy:lo j<Nn:=by simp at z2;omega
 have oa:lo j+(l.length+1)<=Nn:=by simpa using z2
 rw[w3]at hF;unfold enAt at bN;obtain⟨k,hk,bN⟩:=bd_e bN;obtain⟨x,ib,bN⟩:=bd_e bN;have dh:=AI bN;have sS:=gR t k hk;have f1:(fun k:Nat=>if k=u then [Aa.int .i64 s] else Ai iC out k)=Ai iC (out.set u s):=Ed (c:=iC) (by omega) rfl;obtain⟨ou,oc⟩:∃v,out[u]?=some v:=⟨_,AA (by omega)⟩;have co:Ai iC out u=[.int .i64 ou]:=Bb (c:=iC) oc;have hset:(mSl ev lo 0 m).set j (.int .i64 kk,.vec (sx j) (ev j) (lo j+1) l.length)=mSl ev (upN lo j (lo j+1)) 0 (m.set j (kk,l)):=by have:=P3 (ev:=ev) (lo:=lo) (k:=kk) (l:=l) (E:=ev j) (L:=lo j+1) (n:=l.length) dU rfl;rw[wzjx]at this;exact this
 have step:AW EE none Tryz.prog (.seq (.reg true (PA 0) Yz) (.reg false (PB 0) [])) (ablk 13 (Ay (AW EE none Tryz.prog (.seq (.seq (.reg false (PC 0) []) (.reg false (PD 0) [])) (.reg false (PE 0) [])) (Ay P (ablk 12 Q))) (Ay P (ablk 12 Q)))) ⟨tl (bE (CB (slcV 7 Al.cells spans)) C5 fnv e7 e8 L A47 A48++[(22,CB (.int .i64 t)),(23,.int .i64 kk)]) 231,hx (mN q F e6 n out e7 (rcO r) (.amap e8 (mSl ev lo 0 m)) o9 o10 o11 o12 o13 (.gone e14) (.gone e15)) h,[]⟩:=by refine AW.sd (by simp[PA,EG,BM,Aa.kkind,w2,vS,z1,iy,gg,hu,il,co,j1',f1];exact⟨by kernel_rfl,rfl⟩) ?_;refine AW.r1 (by simp[PB,EG,BM,Cs,Aa.kkind,w2,vS,z1,iy,hset];exact⟨by omega,rfl⟩) ?_;simp only[Ay,ablk];refine .seq (.seq (AW.r1 (by simp[PC];rfl) ?_));refine AW.r1 (by simp[PD];rfl) ?_;simp only[Ay];refine AW.r1 (by simp[PE];exact⟨j4,rfl⟩) ?_;simp only[Ay];rw[hP];refine⟨⟨N',t+1,m.set j (kk,l),out.set u s,upN lo j (lo j+1),e14,e15+1+1⟩,⟨by simp[ho],hM.tail w0,hF⟩,by show N'<N'+1;omega,?_⟩;refine .trans (.spx (m':=(22,.ptr 15 (e15+1) 0) :: bE (CB (slcV 7 Al.cells spans)) C5 fnv e7 e8 L A47 A48) (hm':=(15,.box (e15+1) [.int .i64 (t+1)]) :: [(0,.gone 2),(1,.gone 2),(2,.box 1 [.bool false,.str [],.str []]),(3,.box 1 [.int .i64 0,.nils]),(4,.box 1 [.bool q.Neg,.str q.Num,.str q.Den]),(5,.box 1 [.int .i64 F,.vec 6 e6 0 n]),(6,.vec e6 1 n (Ai iC (out.set u s))),(7,.box e7 (rcO r)),(8,.amap e8 (mSl ev (upN lo j (lo j+1)) 0 (m.set j (kk,l)))),(9,o9),(10,o10),(11,o11),(12,o12),(13,o13),(14,.gone e14)]) (by simp) (by simp) (by simp)) (.trans fz_1 (.spx (by simp) (by simp) (by simp)))
 refine .seq (.block (AW.sr (by simp[Y4];refine sS.call ?_;(try simp);rfl) ?_));refine .seq ?_;by_cases gI:k=(spans.length:Int)
 ·rw[AD gI]at dh;have dh:kk = -1:=dh.symm;subst dh;refine AW.sd (by simp[PF,gI];exact⟨by kernel_rfl,rfl⟩) ?_;refine AW.if' true (by simp) (fun _=>?_) (fun h=>by cases h);refine AW.r1 (by simp[PG];rfl) ?_;simp only[Ay];exact .see (.spx (by simp) (by simp) (by simp)) step
 ·rw[AE gI]at dh ib;obtain⟨ku,od,lF,oe⟩:=at_n (show at? spans k=some x from ib);subst od;have cxk:Ai Al.cells spans ku=x.cells:=Bb oe;refine AW.sd (by simp[PF,gI,lF,cxk];exact⟨by kernel_rfl,rfl⟩) ?_;refine AW.if' (decide (t<x.From)) (by simp) (fun e=>?_) (fun e=>AW.skip ?_)
  ·rw[e]at dh;have dh:kk = -1:=dh.symm;subst dh;refine AW.r1 (by simp[PG];rfl) ?_;simp only[Ay];exact .see (.spx (by simp) (by simp) (by simp)) step
  ·rw[e]at dh;have dh:kk=(ku:Int):=dh.symm;subst dh;simp only[Ay];exact .see (.spx (by simp) (by simp) (by simp)) step
end
end
section
theorem wzi7{m:List (Int×List Int)}{k:Int}{l:List Int}(h:mget keqI m k=some l):∃k',(k',l)∈m:=by
 induction m with
 |nil=>cases h
 |cons p m ih =>
  have h:(match keqI k p.1 with | true=>some p.2 | false=>mget keqI m k)=some l:=h;cases hq:keqI k p.1 with
  |true=>rw[hq]at h;cases h;exact⟨p.1,AV ..⟩
  |false=>rw[hq]at h;obtain⟨k',hk⟩:=ih h;exact⟨k',AT _ hk⟩
theorem wzke{m:List (Int×List Int)}(h:(m.all fun e=>decide ((List.length e.2:Int)<=1000000000))=true):capM m:=fun k=>by
 unfold glen;cases e:mget keqI m k with
 |none=>simp
 |some l =>obtain⟨k',hk⟩:=wzi7 e;have h2:(l.length:Int)<=1000000000:=BX (Dx.1 h _ hk);simp only[Lv];omega
theorem wztm{hm:List (Nat×Ad)}{h h':Aq}(hh:∀i,hm.any (fun p=>p.1==i)=true->h' i=hx hm h i):hx hm h'=h':=funext fun i=>by
 by_cases e:hm.any (fun p=>p.1==i)=true
 ·have e2:∀l:List (Nat×Ad),l.any (fun p=>p.1==i)=true->lkx l h' i=lkx l h i:=fun l hl=>by
   induction l with
   |nil=>simp at hl
   |cons p l ih =>
    simp only[lkx];split
    ·rfl
    ·rename_i aI;exact ih (by simpa [aI] using hl)
  rw[hh i e];exact e2 hm e
 ·refine ER (Dx.2 fun p hp=>?_);cases e3:(p.1==i)
  ·rfl
  ·exfalso;exact e (List.any_eq_true.2 ⟨p,hp,e3⟩)
theorem See.hxm{t:List Aa}{hm:List (Nat×Ad)}{h h':Aq}(hh:∀i,OSub (h i) (h' i)):See EE ⟨t,hx hm h,[]⟩ ⟨t,hx hm h',[]⟩:=by
 refine .of_sub ⟨.refl _,fun i=>?_,rfl,by intro D hD;cases hD⟩;show OSub (lkx hm h i) (lkx hm h' i);induction hm with
 |nil=>exact hh i
 |cons p hm ih =>
  simp only[lkx];split
  ·exact .refl _
  ·exact ih
def forH(h:Aq):Aq:=fun i=>if i<100 then h i else .gone (h i).ep
theorem wzkv(h:Aq)(i:Nat):OSub (h i) (forH h i):=by
 unfold forH;split
 ·exact .refl _
 ·exact .inl rfl
def mO(q:Af)(F:Int)(n:Nat)(out:List Int)(e6 e7 e8 e9 e10 e11 e12 e13 e14 e15:Nat):List (Nat×Ad) := [(0,.gone 2),(1,.gone 2),(2,.box 1 [.bool false,.str [],.str []]),(3,.box 1 [.int .i64 0,.nils]),(4,.box 1 [.bool q.Neg,.str q.Num,.str q.Den]),(5,.box 1 [.int .i64 F,.vec 6 e6 0 n]),(6,.vec e6 1 n (Ai iC out)),(7,.gone e7),(8,.gone e8),(9,.gone e9),(10,.gone e10),(11,.gone e11),(12,.gone e12),(13,.gone e13),(14,.gone e14),(15,.gone e15)]
def bO(C4 C5 fnv:Aa)(L A47:Aa):List (Nat×Aa):=[(4,C4),(5,C5),(6,.ptr 2 1 0),(7,.ptr 3 1 0),(8,fnv),(9,.ptr 4 1 0),(10,.ptr 5 1 0),(46,L),(47,A47)]
structure FH(h:Aq):Prop where
 gh:GH h
 rf:∀s,∃e,h (rwx s)=.gone e
 sf:∀s,∃e,h (sx s)=.gone e
theorem FH.for{h:Aq}(H:GH h):FH (forH h):=by
 refine⟨⟨fun i h1 h2=>?_⟩,fun s=>⟨(h (rwx s)).ep,?_⟩,fun s=>⟨(h (sx s)).ep,?_⟩⟩
 ·obtain⟨e,he⟩:=H.lo i h1 h2;exact⟨e,by show(if i<100 then _ else _)=_;rw[Aj h2];exact he⟩
 ·show(if rwx s<100 then _ else _)=_;rw[Ah (by unfold rwx;omega)]
 ·show(if sx s<100 then _ else _)=_;rw[Ah (by unfold sx;omega)]
structure YZ where
 i:Nat
 q:Af
 out:List Int
 h:Aq
 e7:Nat
 e8:Nat
 e9:Nat
 e10:Nat
 e11:Nat
 e12:Nat
 e13:Nat
 e14:Nat
 e15:Nat
section
attribute [local simp] Cf GN BP Cg Ch Ci yza subm subh Cj pick B6
attribute [local simp] lkx Df Cu subx bE mN rcO clO Cx Cy Iw Eg Dk CB mO bO
set_option maxHeartbeats 16000000 in
theorem wzoj{spans:List Al}(gR:∀(t k:Int),J2 (spans.length:Int) (fun a0=>FC a0 spans t)=some k->AJ EE Tryz.prog 81 [.int .i64 spans.length,.fn 96 0 [CB (slcV 7 Al.cells spans),CB (.int .i64 t)]] (.int .i64 k)){caps:List Aa} {rate:Int->Int->Option Af} (EC:Ix caps rate) {C5:Aa} {l:List Ao} (hl:l.length<=1000000000) {q q1:Af} {F:Int} {n:Nat} {out out1:List Int} (ho:out.length=n) {e6 e7 e8 e9 e10 e11 e12 e13 e14 e15:Nat} {h:Aq} (hH:FH h)(hF:EV spans rate F l q out=some (q1,out1)) {Q:Exit->As->Prop}(cont:∀h' e7 e8 e9 e10 e11 e12 e13 e14 e15,out1.length=n->Q .normal ⟨tl [(5,C5),(6,.ptr 2 1 0),(7,.ptr 3 1 0),(9,.ptr 4 1 0),(10,.ptr 5 1 0)] 231,hx (mO q1 F n out1 e6 e7 e8 e9 e10 e11 e12 e13 e14 e15) h',[]⟩) :
  AW EE none Tryz.prog (.block 0 (.loop (Y5 0))) Q ⟨tl (bO (CB (slcV 7 Al.cells spans)) C5 (.fn 91 0 caps) (.slc 5 l.length (Ai Ao.cells l)) (.int .i64 l.length)++[(48,.int .i64 0)]) 231,hx (mO q F n out e6 e7 e8 e9 e10 e11 e12 e13 e14 e15) h,[]⟩:=by
 refine .block (AW.lph (fun y:YZ=>bO (CB (slcV 7 Al.cells spans)) C5 (.fn 91 0 caps) (.slc 5 l.length (Ai Ao.cells l)) (.int .i64 l.length)++[(48,.int .i64 y.i)]) (fun y=>mO y.q F n y.out e6 y.e7 y.e8 y.e9 y.e10 y.e11 y.e12 y.e13 y.e14 y.e15) (fun y=>y.h) (fun y=>l.length-y.i) (fun y=>y.i<=l.length/\y.out.length=n/\FH y.h/\EV spans rate F (l.drop y.i) y.q y.out=some (q1,out1)) ⟨0,q,out,h,e7,e8,e9,e10,e11,e12,e13,e14,e15⟩ ⟨BB _,ho,hH,hF⟩ rfl (by simp) (by simp) (by simp) ?_);rintro⟨i,q,out,h,e7,e8,e9,e10,e11,e12,e13,e14,e15⟩ ⟨hi,ho,hH,hF⟩;refine AW.ath fun P hP=>?_;simp only at hi ho hH hF |-;refine AW.sr (by simp[PH];rfl) ?_;refine .seq (AW.if' (decide ((i:Int)<(l.length:Int))) (by simp) (fun et=>AW.skip ?_) (fun et=>?_));rotate_left
 ·obtain rfl:i=l.length:=by have:=of_decide_eq_false et;omega
  rw[List.drop_length]at hF;obtain h3:=AI (show some (q,out)=some (q1,out1) from hF);simp only[BC]at h3;obtain⟨rfl,rfl⟩:=h3;exact .exs (by simp only[Ay,ablk,AX];exact cont h e7 e8 e9 e10 e11 e12 e13 e14 e15 ho) (by simp) (by simp) (by simp)
 have hlt:i<l.length:=by have:=BX et;omega
 obtain⟨r,hr⟩:∃c,l[i]?=some c:=⟨_,AA hlt⟩;have cr:Ai Ao.cells l i=rcO r:=Bb hr;rw[Ft hlt,show l[i]=r from(AC.1 hr).2]at hF;obtain⟨⟨m1,q2⟩,hb,hF⟩:=bd_e (show bd (ite' (decide ((List.length r.Table:Int)=0)) _ _) _=some (q1,out1) from hF);obtain⟨aG,hF⟩:=ck_e hF;obtain⟨out2,jt,hF⟩:=bd_e hF;have aG:=wzke aG;have aS:inr .i64 ((i:Int)+1):=by show _/\_;omega
 have og:Ao.cells r=rcO r:=rfl;simp only[Ay];refine .seq (.block (AW.sr (by simp[Y6,hlt,cr];rfl) ?_));refine AW.sr (by simp[Y8];rfl) ?_
 have step:∀(ev:Nat->Nat) (h':Aq) (f9 f10 f11 f12 f13:Nat),MH ev (fun _=>0) m1 h'->GH h' ->
   AW EE none Tryz.prog (.seq (.reg false (PI 0) []) (.block 12 (.loop (P9 0)))) (ablk 1 (Ay (AW EE none Tryz.prog (.reg false (PJ 0) []) (Ay P (ablk 0 Q))) (Ay P (ablk 0 Q))))
   ⟨tl (bE (CB (slcV 7 Al.cells spans)) C5 (.fn 91 0 caps) (e7+1) (e8+1) (.slc 5 l.length (Ai Ao.cells l)) (.int .i64 l.length) (.int .i64 i)) 231,hx (mN q2 F e6 n out (e7+1) (rcO r) (.amap (e8+1) (mSl ev (fun _=>0) 0 m1)) (.gone f9) (.gone f10) (.gone f11) (.gone f12) (.gone f13) (.gone e14) (.gone e15)) h',[]⟩:=fun ev h' f9 f10 f11 f12 f13 hM hG=>by
  refine AW.sr (by simp[PI];rfl) ?_;refine .see (.spx (m':=(22,.ptr 14 (e14+1) 0) :: bE (CB (slcV 7 Al.cells spans)) C5 (.fn 91 0 caps) (e7+1) (e8+1) (.slc 5 l.length (Ai Ao.cells l)) (.int .i64 l.length) (.int .i64 i)) (hm':=(14,.box (e14+1) [.int .i64 r.From]) :: [(0,.gone 2),(1,.gone 2),(2,.box 1 [.bool false,.str [],.str []]),(3,.box 1 [.int .i64 0,.nils]),(4,.box 1 [.bool q2.Neg,.str q2.Num,.str q2.Den]),(5,.box 1 [.int .i64 F,.vec 6 e6 0 n]),(6,.vec e6 1 n (Ai iC out)),(7,.box (e7+1) (rcO r)),(8,.amap (e8+1) (mSl ev (fun _=>0) 0 m1)),(9,.gone f9),(10,.gone f10),(11,.gone f11),(12,.gone f12),(13,.gone f13),(15,.gone e15)]) (by simp) (by simp) (by simp)) ?_;refine .see fz_1 ?_;refine .see (.spx (m':=bE (CB (slcV 7 Al.cells spans)) C5 (.fn 91 0 caps) (e7+1) (e8+1) (.slc 5 l.length (Ai Ao.cells l)) (.int .i64 l.length) (.int .i64 i)++[(22,CB (.int .i64 r.From))]) (hm':=mN q2 F e6 n out (e7+1) (rcO r) (.amap (e8+1) (mSl ev (fun _=>0) 0 m1)) (.gone f9) (.gone f10) (.gone f11) (.gone f12) (.gone f13) (.gone (e14+2)) (.gone e15)) (by simp) (by simp) (by simp)) ?_;refine en_6 gR ho hM.mx jt fun lo m' g14 g15 gC=>?_;simp only[ablk,Ay];refine AW.r1 (by simp[PJ];exact⟨aS,rfl⟩) ?_;rw[hP];exact⟨⟨i+1,q2,out2,forH h',e7+1,e8+1,f9,f10,f11,f12,f13,g14,g15⟩,⟨by show i+1<=_;omega,gC,.for hG,hF⟩,by show l.length-(i+1)<l.length-i;omega,.trans (.spx (by simp) (by simp) (by simp)) (.hxm (wzkv h'))⟩
 refine .seq ?_;by_cases ht:r.Table.length=0
 ·rw[AD (by omega)]at hb;obtain⟨cl,cn,hb⟩:=bd_e (show bd (Iv r spans) _=some (m1,q2) from hb);obtain⟨bW,hb⟩:=ck_e hb;have lG:cl.length<=1000000:=BX bW;have sC:=EC.hCl _ _ _ cn;rw[HL,HL,og]at sC;refine AW.sr (by simp[PK];rfl) ?_;refine AW.if' (decide ((r.Table.length:Int)=0)) (by simp) (fun _=>?_) (fun e=>by exfalso;have:=of_decide_eq_false e;omega);refine AW.sr (by simp[Y9];refine sC.call ?_;(try simp);rfl) ?_;refine .see (.spx (m':=bE (CB (slcV 7 Al.cells spans)) C5 (.fn 91 0 caps) (e7+1) (e8+1) (.slc 5 l.length (Ai Ao.cells l)) (.int .i64 l.length) (.int .i64 i)++[(59,clO cl),(60,.int .i64 cl.length),(61,.int .i64 0)]) (hm':=mN q F e6 n out (e7+1) (rcO r) (.amap (e8+1) (mSl (fun _=>0) (fun _=>0) 0 [])) (.gone e9) (.gone e10) (.gone e11) (.gone e12) (.gone e13) (.gone e14) (.gone e15)) (by simp) (by simp[mSl]) (by simp)) ?_;refine wzw0 EC lG ⟨(fun j k l h=>by simp at h),fun j _=>hH.sf j⟩ hH.gh hb aG fun ev' h' f9 f10 f11 dL dM _=>?_;simp only[Ay];exact step ev' h' f9 f10 f11 e12 e13 dL dM
 ·rw[AE (by omega)]at hb;obtain⟨⟨cl,co,x⟩,fE,hb⟩:=bd_e (show bd (FB r spans rate) _=some (m1,q2) from hb);obtain⟨y,m6,hb⟩:=bd_e hb;simp only at m6 hb;have ki:0<r.Table.length:=by omega
  obtain⟨ju,dW⟩:cl.length<=1000000/\r.Table.length<=1000000:=by unfold FB at fE;obtain⟨cl',_,fE⟩:=bd_e fE;obtain⟨hc,fE⟩:=ck_e fE;obtain⟨_,_,fE⟩:=bd_e fE;cases fE;simp only[AH,CS]at hc;exact⟨hc.1.2,hc.2⟩
  refine AW.sr (by simp[PK];rfl) ?_;refine AW.if' (decide ((r.Table.length:Int)=0)) (by simp) (fun e=>by exfalso;have:=BX e;omega) (fun _=>?_);refine .see (.spx (m':=bE (CB (slcV 7 Al.cells spans)) C5 (.fn 91 0 caps) (e7+1) (e8+1) (.slc 5 l.length (Ai Ao.cells l)) (.int .i64 l.length) (.int .i64 i)) (hm':=mN q F e6 n out (e7+1) (rcO r) (.amap (e8+1) []) (.gone e9) (.gone e10) (.gone e11) (.gone e12) (.gone e13) (.gone e14) (.gone e15)) (by simp) (by simp) (by simp)) ?_;have lH:∀h0 s,hx (mN q F e6 n out (e7+1) (rcO r) (.amap (e8+1) []) (.gone e9) (.gone e10) (.gone e11) (.gone e12) (.gone e13) (.gone e14) (.gone e15)) h0 (rwx s)=h0 (rwx s):=fun h0 s=>Md (b:=100) (by simp) (by unfold rwx;omega);have fG:∀h0 i,16<=i->hx (mN q F e6 n out (e7+1) (rcO r) (.amap (e8+1) []) (.gone e9) (.gone e10) (.gone e11) (.gone e12) (.gone e13) (.gone e14) (.gone e15)) h0 i=h0 i:=fun h0 i hi=>Md (b:=16) (by simp) hi;have jv:∀h0 h',(∀i,i<16->h' i=hx (mN q F e6 n out (e7+1) (rcO r) (.amap (e8+1) []) (.gone e9) (.gone e10) (.gone e11) (.gone e12) (.gone e13) (.gone e14) (.gone e15)) h0 i)->hx (mN q F e6 n out (e7+1) (rcO r) (.amap (e8+1) []) (.gone e9) (.gone e10) (.gone e11) (.gone e12) (.gone e13) (.gone e14) (.gone e15)) h'=h':=fun h0 h' hh=>wztm fun i hi=>hh i (by simp at hi;omega);have fH:=wzp4 EC.hE EC.hR EC.hCl fE ki (H:=hx (mN q F e6 n out (e7+1) (rcO r) (.amap (e8+1) []) (.gone e9) (.gone e10) (.gone e11) (.gone e12) (.gone e13) (.gone e14) (.gone e15)) h) (fun s=>by rw[lH];exact hH.rf s) (fun i h1 h2=>by rw[fG _ i (by omega)];exact hH.gh.lo i (by omega) (by omega));refine .seq (.reg ?_);simp[YD];refine(show ATr EE Tryz.prog 94 _ _ _ from fH).mono ?_;rintro v h' ⟨f,er,rfl,hT,d1,d2,d3,d4,hX,dK,dR,fR⟩;have io:=jv h h' (fun i hi=>fR i (.inl (by omega)) (fun s=>by unfold rwx;omega));rw[<-io];refine .see (.spx (m':=bE (CB (slcV 7 Al.cells spans)) C5 (.fn 91 0 caps) (e7+1) (e8+1) (.slc 5 l.length (Ai Ao.cells l)) (.int .i64 l.length) (.int .i64 i)++[(17,.cptr f 8 0)]) (hm':=mN q F e6 n out (e7+1) (rcO r) (.amap (e8+1) []) (.gone e9) (.gone e10) (.gone e11) (.gone e12) (.gone e13) (.gone e14) (.gone e15)) (by simp) (by simp) (by simp)) ?_;have oh:=wzg2 EC.hS EC.hA EC.hC hT d2 d1 d3 d4 (H:=hx (mN q F e6 n out (e7+1) (rcO r) (.amap (e8+1) []) (.gone e9) (.gone e10) (.gone e11) (.gone e12) (.gone e13) (.gone e14) (.gone e15)) h') (by rw[io];exact hX) (fun i h1 h2=>by rw[io,fR i (.inr (by omega)) (fun s=>by unfold rwx;omega),fG _ i (by omega)];exact hH.gh.lo i (by omega) (by omega)) dW ju m6;refine .seq (.reg ?_);simp[YJ];refine(show ATr EE Tryz.prog 95 _ _ _ from oh).mono ?_;rintro v h2 ⟨rfl,l1,l2,l3,l4,l5⟩;rw[io]at l5;have ja:=jv h h2 (fun i hi=>(l5 i (.inl (by omega)) (fun s=>by unfold rwx;omega)).trans (fR i (.inl (by omega)) (fun s=>by unfold rwx;omega)));rw[<-ja];refine .see (.spx (m':=bE (CB (slcV 7 Al.cells spans)) C5 (.fn 91 0 caps) (e7+1) (e8+1) (.slc 5 l.length (Ai Ao.cells l)) (.int .i64 l.length) (.int .i64 i)++[(17,.cptr f 8 0)]) (hm':=mN q F e6 n out (e7+1) (rcO r) (.amap (e8+1) []) (.gone e9) (.gone e10) (.gone e11) (.gone e12) (.gone e13) (.gone e14) (.gone e15)) (by simp) (by simp) (by simp)) ?_;refine .seq (AW.r1 (by simp[YO,hT.f7];rfl) ?_);refine .see (.spx (m':=bE (CB (slcV 7 Al.cells spans)) C5 (.fn 91 0 caps) (e7+1) (e8+1) (.slc 5 l.length (Ai Ao.cells l)) (.int .i64 l.length) (.int .i64 i)++[(17,.cptr f 8 0),(119,.slc 1 r.Table.length (xG er cl.length)),(120,.int .i64 r.Table.length),(121,.int .i64 0)]) (hm':=mN q F e6 n out (e7+1) (rcO r) (.amap (e8+1) (mSl (fun _=>0) (fun _=>0) 0 [])) (.gone e9) (.gone e10) (.gone e11) (.gone e12) (.gone e13) (.gone e14) (.gone e15)) (by simp[xG]) (by simp[mSl]) (by simp)) ?_;refine en_3 EC hT rfl ju rfl dW d1 d3 l1 l2 l3 ⟨(fun j k l h=>by simp at h),fun j _=>?_⟩ ⟨fun i h1 h2=>?_⟩ hb aG fun ev' h3 f12 f13 dL dM _=>?_
  ·have fp:∀s,sx j≠rwx s:=fun s e=>by unfold sx rwx at e;omega
   rw[l5 _ (.inr (by unfold sx;omega)) fp,fR _ (.inr (by unfold sx;omega)) fp,fG _ _ (by unfold sx;omega)];exact hH.sf j
  ·have fW:∀s,i≠rwx s:=fun s=>by unfold rwx;omega
   by_cases hz:40<=i/\i<46
   ·exact l4 i hz.1 hz.2
   ·rw[l5 i (by omega) fW];by_cases hw:20<=i/\i<33
    ·exact dR i hw.1 hw.2
    ·rw[fR i (by omega) fW,fG _ i h1];exact hH.gh.lo i h1 h2
  simp only[Ay];exact step ev' h3 e9 e10 e11 f12 f13 dL dM
end
end
section
section
attribute [local simp] Cf GN BP Cg Ch Ci yza subm subh Cj pick B6
attribute [local simp] lkx Df Cu subx bE mN rcO clO Cx Cy Iw Eg Dk CB mO bO
theorem fz_h{m:List (Nat×Aa)}{N q e n:Nat}{F:Int}{g:Nat->List Aa}{rest:List (Nat×Ad)}{h:Aq} :
  See EE ⟨tl m N,hx ((5,.box q [.int .i64 F,.vec 6 e 0 n]) :: (6,.vec e 1 n g) :: rest) h,[]⟩ ⟨tl m N,hx ((5,.box q [.int .i64 F,.slc 1 n g]) :: (6,.gone (e+1)) :: rest) h,[]⟩:=by
 refine .freeze (id:=6) (o:=.vec e 1 n g) (by simp) rfl trivial (by simp[Ad.ep]) (fun i hi=>?_) (FVl.refl _) rfl;have aW:¬6=i:=fun k=>hi k.symm;by_cases i5:5=i
 ·subst i5;exact .inr (.inl ⟨q,[.int .i64 F,.vec 6 e 0 n],[.int .i64 F,.slc 1 n g],by simp,by simp,.refl _,.vec e 1 n g 0 n g rfl (by simp) (fun k _=>by rw[Bs]),trivial⟩)
 ·exact .inl (by simp[aW,i5])
set_option maxHeartbeats 8000000 in
theorem YQ(km:∀(a r:Af),EW a=some r->AJ EE Tryz.prog 93 [.agg a.cells] (.agg r.cells)){turned:Bool}{q1 q:Af}(hq:ite' turned (EW q1) (some q1)=some q){F:Int}{V:Aa}(om:V.one=true)(pt:unv V=V/\∀c,unc c V=True){st:List Int}(hV:W V (slcV 1 (cI .i64) st)){rest:List (Nat×Ad)}{h:Aq} :
  AW EE none Tryz.prog (.seq (.seq (.reg false (PL 0) []) (.cond (.t 226) (.reg false (PM 0) []) (.skip))) (.seq (.reg true (M0 0) PN) (.ret))) (Post EE rs50 (fun v _=>W v (.tup [.agg q.cells,.agg (Ba.cells ⟨F,st⟩)]))) ⟨tl [(5,CB (.bool turned)),(6,.ptr 2 1 0),(7,.ptr 3 1 0),(9,.ptr 4 1 0),(10,.ptr 5 1 0)] 231,hx ((2,.box 1 [.bool false,.str [],.str []]) :: (3,.box 1 [.int .i64 0,.nils]) :: (4,.box 1 [.bool q1.Neg,.str q1.Num,.str q1.Den]) :: (5,.box 1 [.int .i64 F,V]) :: rest) h,[]⟩:=by
 have fin:∀(m:List (Nat×Aa)) (hm:List (Nat×Ad)),look m 6=.ptr 2 1 0->look m 7=.ptr 3 1 0->look m 9=.ptr 4 1 0->look m 10=.ptr 5 1 0->lkx hm h 2=.box 1 [.bool false,.str [],.str []]->lkx hm h 3=.box 1 [.int .i64 0,.nils]->lkx hm h 4=.box 1 [.bool q.Neg,.str q.Num,.str q.Den]->lkx hm h 5=.box 1 [.int .i64 F,V] ->
   AW EE none Tryz.prog (.seq (.reg true (M0 0) PN) (.ret)) (Post EE rs50 (fun v _=>W v (.tup [.agg q.cells,.agg (Ba.cells ⟨F,st⟩)]))) ⟨tl m 231,hx hm h,[]⟩:=fun m hm a1 a2 a3 a4 b1 b2 b3 b4=>by
  refine AW.sd (by simp[M0,a1,a2,a3,a4,b1,b2,b3,b4,om];exact⟨by kernel_rfl,rfl⟩) ?_;refine .ret (.here (by simp[rs50,a1,a2]) rfl ?_);simp[rs50,a1,a2];exact hV
 refine .seq (.seq (AW.r1 (by simp[PL];rfl) ?_));refine AW.if' turned (by simp) (fun et=>?_) (fun et=>AW.skip ?_)
 ·rw[et]at hq;have s9:=km _ _ hq;refine AW.r1 (by simp[PM];refine s9.call ?_;simp;rfl) ?_;simp only[Ay];exact fin _ _ (by simp) (by simp) (by simp) (by simp) (by simp) (by simp) (by simp) (by simp)
 ·rw[et]at hq;obtain rfl:=AI (show some q1=some q from hq);simp only[Ay];exact fin _ _ (by simp) (by simp) (by simp) (by simp) (by simp) (by simp) (by simp) (by simp)
set_option maxHeartbeats 8000000 in
theorem wzwh{spans:List Al}(gR:∀(t k:Int),J2 (spans.length:Int) (fun a0=>FC a0 spans t)=some k->AJ EE Tryz.prog 81 [.int .i64 spans.length,.fn 96 0 [CB (slcV 7 Al.cells spans),CB (.int .i64 t)]] (.int .i64 k)){turned:Bool} (EC:Ix [CB (slcV 7 Al.cells spans),CB (.bool turned)] (fun s t=>Ha s t spans turned)) (km:∀(a r:Af),EW a=some r->AJ EE Tryz.prog 93 [.agg a.cells] (.agg r.cells)) {l:List Ao} {y:Af×Ba} (hF:Hb l spans turned=some y) :
  ATr EE Tryz.prog 50 [slcV 5 Ao.cells l,slcV 7 Al.cells spans,.bool turned] h0 (fun v _=>W v (.tup [.agg y.1.cells,.agg y.2.cells])):=by
 obtain⟨cd,hb,bW⟩:=ck50;unfold Hb at hF;obtain⟨a,ha,hF⟩:=bd_e hF;obtain⟨z,hz,hF⟩:=bd_e hF;obtain⟨hc,hF⟩:=ck_e hF;obtain⟨⟨q1,out1⟩,jw,hF⟩:=bd_e hF;obtain⟨q,hq,hF⟩:=bd_e hF;obtain rfl:=AI hF;simp only at hq;refine ATr.of (fn:=Tryz.f50) rfl hb cr50 (bW 0) 228 rfl ?_;rw[show([slcV 5 Ao.cells l,slcV 7 Al.cells spans,.bool turned]++List.replicate 228 .top)=tl [(0,slcV 5 Ao.cells l),(1,slcV 7 Al.cells spans),(2,.bool turned)] 231 from JR [_,_,_] 228];change AW EE none _ _ _ ⟨_,hx [] h0,[]⟩;refine .see (.spx (m':=[(0,slcV 5 Ao.cells l),(1,slcV 7 Al.cells spans),(2,.bool turned)]) (hm':=[(0,.gone 0),(1,.gone 0),(2,.gone 0),(3,.gone 0),(4,.gone 0),(5,.gone 0),(6,.gone 0),(7,.gone 0),(8,.gone 0),(9,.gone 0),(10,.gone 0),(11,.gone 0),(12,.gone 0),(13,.gone 0),(14,.gone 0),(15,.gone 0)]) (by simp) (by simp[h0]) (by simp)) ?_;refine AW.sr (by simp[YU];rfl) ?_;refine .see (.spx (m':=(4,.ptr 0 1 0) :: [(0,slcV 5 Ao.cells l),(5,.ptr 1 1 0),(6,.ptr 2 1 0),(7,.ptr 3 1 0)]) (hm':=(0,.box 1 [slcV 7 Al.cells spans]) :: [(1,.box 1 [.bool turned]),(2,.box 1 [.bool false,.str [],.str []]),(3,.box 1 [.int .i64 0,.nils]),(4,.gone 0),(5,.gone 0),(6,.gone 0),(7,.gone 0),(8,.gone 0),(9,.gone 0),(10,.gone 0),(11,.gone 0),(12,.gone 0),(13,.gone 0),(14,.gone 0),(15,.gone 0)]) (by simp) (by simp) (by simp)) ?_;refine .see fz_1 ?_;refine .see (.spx (m':=(5,.ptr 1 1 0) :: [(0,slcV 5 Ao.cells l),(4,CB (slcV 7 Al.cells spans)),(6,.ptr 2 1 0),(7,.ptr 3 1 0)]) (hm':=(1,.box 1 [.bool turned]) :: [(0,.gone 2),(2,.box 1 [.bool false,.str [],.str []]),(3,.box 1 [.int .i64 0,.nils]),(4,.gone 0),(5,.gone 0),(6,.gone 0),(7,.gone 0),(8,.gone 0),(9,.gone 0),(10,.gone 0),(11,.gone 0),(12,.gone 0),(13,.gone 0),(14,.gone 0),(15,.gone 0)]) (by simp) (by simp) (by simp)) ?_;refine .see fz_1 ?_;refine AW.sr (by simp[YW];rfl) ?_;refine AW.sr (by simp[YX];rfl) ?_;refine AW.sr (by simp[YY];rfl) ?_;refine .seq (AW.sr (by simp[Za];rfl) ?_);cases l with
 |nil =>have h3:=AI (show some (Af.mk false [] [],([]:List Int))=some (q1,out1) from jw);simp only[BC]at h3;obtain⟨rfl,rfl⟩:=h3;refine AW.if' false (by simp) (fun e=>by cases e) (fun _=>AW.skip ?_);simp only[Ay];refine .seq (.seq (AW.r1 (by simp[PO];rfl) ?_));refine .block (AW.lph (α:=Unit) (fun _=>[(5,CB (.bool turned)),(6,.ptr 2 1 0),(7,.ptr 3 1 0),(9,.ptr 4 1 0),(10,.ptr 5 1 0),(47,.int .i64 0),(48,.int .i64 0)]) (fun _=>(2,.box 1 [.bool false,.str [],.str []]) :: (3,.box 1 [.int .i64 0,.nils]) :: (4,.box 1 [.bool false,.str [],.str []]) :: (5,.box 1 [.int .i64 0,.nils]) :: [(0,.gone 2),(1,.gone 2),(6,.gone 0),(7,.gone 0),(8,.gone 0),(9,.gone 0),(10,.gone 0),(11,.gone 0),(12,.gone 0),(13,.gone 0),(14,.gone 0),(15,.gone 0)]) (fun _=>h0) (fun _=>0) (fun _=>True) () trivial rfl (by simp) (by simp) (by simp) (fun _ _=>?_));refine AW.sr (by simp[PH];rfl) ?_;refine .seq (AW.if' false (by simp) (fun e=>by cases e) (fun _=>?_));refine .exs (by simp only[Ay,ablk,AX];exact YQ km (V:=.nils) (F:=0) (st:=[]) (rest:=[(0,.gone 2),(1,.gone 2),(6,.gone 0),(7,.gone 0),(8,.gone 0),(9,.gone 0),(10,.gone 0),(11,.gone 0),(12,.gone 0),(13,.gone 0),(14,.gone 0),(15,.gone 0)]) hq rfl ⟨rfl,fun _=>rfl⟩ (JS.2 rfl)) (by simp) (by simp) (by simp)
 |cons r0 l =>
  have aE:decide (0<((r0 :: l).length:Int))=true:=AD (by simp only[B1];omega);rw[aE]at ha hz hc jw;simp only[Dw,Bool.false_or,AH,CS]at hc;obtain⟨cq,⟨⟨kn,dj⟩,gJ⟩⟩:=hc;obtain⟨_,_,ha⟩:=Ka (show at? (r0 :: l) 0=some a from ha);obtain⟨z0,z1,hz⟩:=Ka (show at? (r0 :: l) ((List.length (r0 :: l):Int)-1)=some z from hz);obtain rfl:r0=a:=by simpa using ha
  have ee:(r0 :: l)[l.length]?=some z:=by
   have:(((r0 :: l).length:Int)-1).toNat=l.length:=by simp
   rw[this]at hz;exact hz
  have ca:Ai Ao.cells (r0 :: l) 0=rcO r0:=rfl;have cz:Ai Ao.cells (r0 :: l) l.length=rcO z:=Bb ee;have j1:inr .i64 (z.To-r0.From):=by simp[Au]at kn;exact kn
  obtain⟨n,hn⟩:∃n:Nat,z.To-r0.From=n:=⟨(z.To-r0.From).toNat,by omega⟩;have j1':inr .i64 (n:Int):=hn▸j1;have bU:(n:Int)*8<=140737488355328:=by omega
  have iy:inr .i64 (l.length:Int):=by show _/\_;simp only[B1]at cq;omega
  have jw:EV spans (fun s t=>Ha s t spans turned) r0.From (r0 :: l) (Af.mk false [] []) (List.replicate n 0)=some (q1,out1):=by rw[show n=(z.To-r0.From).toNat by omega];exact jw
  refine AW.if' true (by simp) (fun _=>?_) (fun e=>by cases e);refine AW.d1 (by simp[Zb,ca,cz,iy,hn,j1',bU];exact⟨by omega,by kernel_rfl,rfl⟩) ?_;simp only[Ay];refine .seq (.seq (AW.r1 (by simp[PO];rfl) ?_));refine .see (.spx (m':=bO (CB (slcV 7 Al.cells spans)) (CB (.bool turned)) (.fn 91 0 [CB (slcV 7 Al.cells spans),CB (.bool turned)]) (.slc 5 (r0 :: l).length (Ai Ao.cells (r0 :: l))) (.int .i64 ((r0 :: l).length:Int))++[(48,.int .i64 0)]) (hm':=mO (Af.mk false [] []) r0.From n (List.replicate n 0) 1 0 0 0 0 0 0 0 0 0) (by simp) ?_ (by simp)) ?_
  ·simp;exact fun k hk=>F8 hk
  refine wzoj gR EC (l:=r0 :: l) (by simp only[B1]at cq |-;omega) (by simp) ⟨⟨fun i _ _=>⟨0,rfl⟩⟩,fun s=>⟨0,rfl⟩,fun s=>⟨0,rfl⟩⟩ jw fun h' f7 f8 f9 f10 f11 f12 f13 f14 f15 ho=>?_;simp only[Ay];refine .see (.spx (m':=[(5,CB (.bool turned)),(6,.ptr 2 1 0),(7,.ptr 3 1 0),(9,.ptr 4 1 0),(10,.ptr 5 1 0)]) (hm':=(5,.box 1 [.int .i64 r0.From,.vec 6 1 0 n]) :: (6,.vec 1 1 n (Ai iC out1)) :: [(0,.gone 2),(1,.gone 2),(2,.box 1 [.bool false,.str [],.str []]),(3,.box 1 [.int .i64 0,.nils]),(4,.box 1 [.bool q1.Neg,.str q1.Num,.str q1.Den]),(7,.gone f7),(8,.gone f8),(9,.gone f9),(10,.gone f10),(11,.gone f11),(12,.gone f12),(13,.gone f13),(14,.gone f14),(15,.gone f15)]) (by simp) (by simp) (by simp)) ?_;refine .see fz_h ?_;refine .see (.spx (m':=[(5,CB (.bool turned)),(6,.ptr 2 1 0),(7,.ptr 3 1 0),(9,.ptr 4 1 0),(10,.ptr 5 1 0)]) (hm':=(2,.box 1 [.bool false,.str [],.str []]) :: (3,.box 1 [.int .i64 0,.nils]) :: (4,.box 1 [.bool q1.Neg,.str q1.Num,.str q1.Den]) :: (5,.box 1 [.int .i64 r0.From,.slc 1 n (Ai iC out1)]) :: [(0,.gone 2),(1,.gone 2),(6,.gone 2),(7,.gone f7),(8,.gone f8),(9,.gone f9),(10,.gone f10),(11,.gone f11),(12,.gone f12),(13,.gone f13),(14,.gone f14),(15,.gone f15)]) (by simp) (by simp) (by simp)) ?_;have eF:(bif decide (0<((r0 :: l).length:Int)) then r0.From else 0)=r0.From:=by rw[aE];rfl
  rw[eF];exact YQ km hq rfl ⟨rfl,fun _=>rfl⟩ (by rw[<-ho];exact .refl _)
end
end
section
def k91:Fc:=⟨91,[(.int .i64),(.int .i64),(.slc (.us 5)),.bool],[false,false,true,true],[(.us 2)],fun x=>Ha x.1 x.2.1 x.2.2.1 x.2.2.2⟩
def k81:Fc:=⟨81,[(.int .i64),(.fn 1)],[false,false],[(.int .i64)],fun x=>J2 x.1 x.2.g⟩
def k96:Fc:=⟨96,[(.int .i64),(.slc (.us 5)),(.int .i64)],[false,true,true],[.bool],fun x=>FC x.1 x.2.1 x.2.2⟩
def k111:Fc:=⟨111,[(.us 2),(.us 2)],[false,false],[(.us 2)],fun x=>Dj x.1 x.2⟩
def k23:Fc:=⟨23,[(.us 2),(.us 2)],[false,false],[(.int .i64)],fun x=>Gw x.1 x.2⟩
def k44:Fc:=⟨44,[(.us 1),(.slc (.us 5))],[false,false],[(.slc (.us 12))],fun x=>Iv x.1 x.2⟩
def k93:Fc:=⟨93,[(.us 2)],[false],[(.us 2)],fun x=>EW x⟩
def k50:Fc:=⟨50,[(.slc (.us 1)),(.slc (.us 5)),.bool],[false,false,false],[(.us 2),(.us 6)],fun x=>Hb x.1 x.2.1 x.2.2⟩
theorem qz45{l:List Ao}:AB (slcV 5 Ao.cells l):=by
 refine CI fun a z hz=>?_;simp[Ao.cells]at hz;rcases hz with rfl|rfl|rfl|rfl|rfl
 ·exact .int _ _
 ·exact .int _ _
 ·refine CI fun a z hz=>?_;simp[AM.cells]at hz;rcases hz with rfl|rfl<;>exact .int _ _
 ·exact .int _ _
 ·exact .int _ _
theorem qz1p{l:List Al}:AB (slcV 7 Al.cells l):=by
 refine CI fun a z hz=>?_;simp[Al.cells]at hz;rcases hz with rfl|rfl|rfl|rfl|rfl|rfl|rfl<;>first|exact .int _ _|exact .bool _|exact .str _|skip
 exact CI fun a z hz=>by simp[Bq.cells]at hz;rcases hz with rfl|rfl|rfl|rfl<;>first|exact .int _ _|exact .bool _|exact .str _
theorem wztu(H91:Ap k91)(H81:Ap k81)(H96:Ap k96)(H42:Ap k42)(H30:Ap k30)(H31:Ap k31)(H111:Ap k111)(H23:Ap k23)(H44:Ap k44)(H93:Ap k93):Ap k50:=by
 refine⟨by kernel_rfl,fun x y e=>?_⟩;obtain⟨l,spans,turned⟩:=x
 have EC:Ix [CB (slcV 7 Al.cells spans),CB (.bool turned)] (fun s t=>Ha s t spans turned):={
  hE:=H91.en
  hR:=fun k s a h=>H91.still (x:=(k,s,spans,turned)) (y:=a) h (by kernel_rfl)
  hI:=fun n r h=>H42.still (x:=n) (y:=r) h (by kernel_rfl)
  hM:=fun a b r h=>H30.still (x:=(a,b)) (y:=r) h (by kernel_rfl)
  hA:=fun a b r h=>H31.still (x:=(a,b)) (y:=r) h (by kernel_rfl)
  hS:=fun a b r h=>H111.still (x:=(a,b)) (y:=r) h (by kernel_rfl)
  hC:=fun a b r h=>H23.still (x:=(a,b)) (y:=r) h (by kernel_rfl)
  hCl:=fun r l c h=>H44.still (x:=(r,l)) (y:=c) h (by kernel_rfl) }
 have gR:∀(t k:Int),J2 (spans.length:Int) (fun a0=>FC a0 spans t)=some k->AJ EE Tryz.prog 81 [.int .i64 spans.length,.fn 96 0 [CB (slcV 7 Al.cells spans),CB (.int .i64 t)]] (.int .i64 k):=fun t k h =>
  H81.still (x:=((spans.length:Int),Zc ⟨k96,H96⟩ 1 0 [.cptr [.slc (.us 5) spans] 0,.cptr [.int .i64 t] 0] rfl)) (y:=k) h (by kernel_rfl)
 have H:Pure EE Tryz.prog 50 [slcV 5 Ao.cells l,slcV 7 Al.cells spans,.bool turned] (.tup [.agg y.1.cells,.agg y.2.cells]) := (wzwh gR EC (fun a r h=>H93.still (x:=a) (y:=r) h (by kernel_rfl)) e).wv fun v h' q=>⟨_,q,rfl⟩;refine(Pure.still H hEE (fun z hz=>?_) ?_).cast (by kernel_rfl)
 ·simp at hz;rcases hz with rfl|rfl|rfl
  ·exact qz45
  ·exact qz1p
  ·exact .bool _
 ·refine .tup _ fun z hz=>?_;simp at hz;rcases hz with rfl|rfl
  ·exact .agg _ fun z hz=>by simp[Af.cells]at hz;rcases hz with rfl|rfl|rfl<;>first|exact .bool _|exact .str _
  ·exact .agg _ fun z hz=>by
    simp[Ba.cells]at hz;rcases hz with rfl|rfl
    ·exact .int _ _
    ·exact CI fun a z hz=>by simp[cI]at hz;subst hz;exact .int _ _
end
end Go.Am

