/- Part D4: helpers. No condition. -/
import Derived.Test.YtjlgleghnenojaaDoorD3
set_option linter.unusedSimpArgs false
set_option linter.unusedVariables false
set_option maxRecDepth 100000
namespace Go.Am
open Go.Proofs
attribute [local simp] areg aop dreg dop AOp.req argv argU AOp.args wze AOp.unAll Req.val Req.when putT putH qzdb ablk qzfc qzbd qzg6 vzl qzcj qzif qzid qzh7 qzh1 qzhy qzko qzhz qzji qzim qzgg qznh qzj2 qzkg qzjx IntKind.bits vz1 ARes.ok ARes.val vz5 cut AOp.quiet
attribute [local simp] qzc0 qzbz qzcz qze2 qzer qzep kzp qz1 qzh2 qzij
attribute [local simp] qzm6 qzj7 qzhq qzih qzm4 look qz8 zipA wm wh
attribute [local simp] qzm7 qzpn qzpz qzmg qzpx qzmf qzpo qzqa qzpi qzqk qzpm w_fn qznc qzjs qzjh qzhs qzj1 qzmh qzmi AObj.ep AObj.plain AObj.owned
attribute [local simp] wz9 qzbw qzeu qzdp qzey qzd2 qze5 qzfk qze7 qzdi qzdk qzd0 qzgy qzcq qzg5 qzc6 qzfa vz6 lay jzv ldv wzu qz5 kz1 qz9 qzgh wzd AVal.kind
attribute [local simp] AVal.one_int AVal.one_bool AVal.one_str AVal.one_nils AVal.one_slc AVal.one_vec AVal.one_ptr AVal.one_eptr AVal.one_cptr AVal.one_nilp AVal.one_fn AVal.one_nilfn AVal.one_mp AVal.one_nilmp
attribute [local simp] qzkh qzkv qzh8 qzh4 qzkt qzjr qzii qzik qzjn qzkm qzjf qzjw qzkl qzje qzh6 qzhx qzin qzig qzh5 qzio qzm9 qzna qzgf qzgr qzmt qzmr qzgn qzgz qzj6 qzj9 qzjv qzka qzju qzki qzkr qzku
attribute [local simp] qzh cI cB cS cL qzc3 qzdh qzdz qzb7 qzg1 qzh0 qzgc qziq fzm fzh fzv fzl fz1 qzjm qzhw qzjp qzjl qzjk List.range_succ qzd5 qze0 qzfg qzco qzdq qzdu qzag qzdw qzd4
attribute [local simp] qzj0
attribute [local simp] wz2c.cells
attribute [local simp] kzhx.cells
attribute [local simp] kzhv.cells
attribute [local simp] kzh0.cells
attribute [local simp] jz50.cells
attribute [local simp] wz2h.cells
attribute [local simp] kzht.cells
attribute [local simp] wz2w.cells
attribute [local simp] wz3g.cells
attribute [local simp] kzhz.cells
attribute [local simp] kzhu.cells
attribute [local simp] hset
def ng(x:wz3g):Bool:=!decide (x.Table=[])
theorem kzm5:∀(r:List wz3g) (x:wz3g),strs (x :: r)=(x :: (bif ng x then r.takeWhile ng else [])) :: strs (bif ng x then r.dropWhile ng else r)
 |[],x=>by cases h:ng x<;>simp[strs]
 |y :: r,x=>by
  have ih:=kzm5 r y
  show(match strs (y :: r) with
   |(y :: p) :: q=>bif !decide (x.Table=[])&&!decide (y.Table=[]) then(x :: y :: p) :: q else [x] :: (y :: p) :: q
   | _=>[[x]])=_
  rw[ih];show(bif ng x&&ng y then _ else _)=_;cases hx:ng x
  ·simp only[Bool.false_and,Gdt,ih]
  ·cases hy:ng y;·simp only[Bool.and_false,Gdt,Gdu,List.takeWhile_cons,List.dropWhile_cons,hy,Gd2,Gan,ih]
   ·simp only[Bool.and_true,Gdu,List.takeWhile_cons,List.dropWhile_cons,hy,Gd5]
theorem kzma{α:Type}(p:α->Bool):∀(l:List α) (n:Nat),n<=l.length->(∀i x,i<n->l[i]?=some x->p x=true)->(∀x,l[n]?=some x->p x=false)->l.takeWhile p=l.take n/\l.dropWhile p=l.drop n
 |[],n,_,_,_=>by simp
 |x :: l,0,_,_,h=>by simp[List.takeWhile_cons,List.dropWhile_cons,h x rfl]
 |x :: l,n+1,hn,h1,h2=>by obtain⟨a,b⟩:=kzma p l n (by simpa using hn) (fun i y hi hy=>h1 (i+1) y (by omega) (by simpa using hy)) (fun y hy=>h2 y (by simpa using hy));have hx:=h1 0 x (by omega) rfl;simp[List.takeWhile_cons,List.dropWhile_cons,hx,a,b]
theorem kzvd{l:List wz3g}{n:Nat}(h1:1<=n)(h2:n<=l.length)(h3:1<n->∀i x,i<n->l[i]?=some x->ng x=true)(h4:∀x y,l[0]?=some x->l[n]?=some y->(ng x&&ng y)=false):strs l=l.take n :: strs (l.drop n):=by
 cases l with
 |nil=>simp at h2;omega
 |cons x r =>
  obtain⟨k,rfl⟩:∃k,n=k+1:=⟨n-1,by omega⟩;rw[kzm5];cases hx:ng x
  ·obtain rfl:k=0:=by
    by_cases hk:k=0
    ·exact hk
    ·have:=h3 (by omega) 0 x (by omega) rfl;rw[hx]at this;cases this
   simp
  ·obtain⟨a,b⟩:=kzma ng r k (by simpa using h2) (fun i y hi hy=>h3 (by omega) (i+1) y (by omega) (by simpa using hy)) (fun y hy=>by
    have:=h4 x y rfl (by simpa using hy);rw[hx]at this;exact this)
   simp[a,b]
structure kzte(Ls:List (List wz3g))(b L e:Nat)(HC:List (List wz3g)->qzl->Prop)(X:qzl->Prop):Prop where
 loc:∀l h h',(∀i,i<b->h' i=h i)->HC l h->HC l h'
 round:∀pre p rest (h:qzl) (f:Nat->List AVal),Ls=pre++p :: rest->p≠[]->(∀k,k<p.length->f k=qzd wz3g.cells p k)->HC pre h->qzhp EE Tryd.prog L e [.slc 5 p.length f] h (fun v h'=>(v=.bool true/\HC (pre++[p]) h'/\∀i,b<=i->h' i=h i)\/(v=.bool false/\X h'))
def H51(hb:qzl)(s e N off:Nat)(C:Nat->List AVal):qzl:=hset hb s (.box e [.slc 5 (N-off) (fun k=>C (off+k))])
structure Y51 where
 off:Nat
 pre:List (List wz3g)
 hb:qzl
theorem kzvc(hb:qzl)(s e N off:Nat)(C:Nat->List AVal):H51 hb s e N off C s=.box e [.slc 5 (N-off) (fun k=>C (off+k))]:=by simp[H51,hset]
set_option maxHeartbeats 4000000 in
theorem kzw5(hG:∀(x:wz3g),qzq EE Tryd.prog 30 [.agg x.cells] (.bool (decide (x.Table=[]))))(l:List wz3g)(hl:l.length<=1000000)(b L e s ep:Nat)(hs:b<=s)(HC:List (List wz3g)->qzl->Prop)(X:qzl->Prop)(K:kzte (strs l) b L e HC X)(h:qzl)(hh:HC [] h)(hbox:h s=.box ep [.slc 5 l.length (qzd wz3g.cells l)]) :
  ATr EE Tryd.prog 51 [.yld L e,.ptr s ep 0] h (fun v h'=>HC (strs l) h'\/X h'):=by
 generalize hC:qzd wz3g.cells l=C at *;obtain⟨c,hb,hc⟩:=ck51;refine ATr.of (fn:=Tryd.f51) rfl hb cr51 (hc 0) 35 rfl ?_;refine .block (.loop (fun y:Y51=>(⟨[.yld L e,.ptr s ep 0]++List.replicate 35 .top,H51 y.hb s ep l.length y.off C,[]⟩:ASt)) (fun y=>l.length-y.off) (fun y=>y.off<=l.length/\strs l=y.pre++strs (l.drop y.off)/\HC y.pre y.hb) ⟨0,[],h⟩ ⟨Gdl _,by simp,hh⟩ (.of_sub ⟨?_,fun i=>?_,rfl,fun D hD=>by cases hD⟩) ?_)
 ·simp[List.replicate,TSub,VSub]
 ·refine .of_eq ?_;simp only[H51,hset];split
  ·rename_i hi;subst hi;simp[hbox]
  ·rfl
 rintro⟨off,pre,hb⟩ ⟨ho,hpre,hHC⟩;simp only at ho hpre hHC ⊢;have q0:=kzvc hb s ep l.length off C;refine .seq (.seq (AW.r1 (by simp[qz52,q0,List.replicate];rfl) ?_));refine AW.if' (decide (off<l.length)) (by simp;omega) (fun e1=>AW.skip ?_) (fun e1=>.exit ?_)
 ·have hlt:off<l.length:=Gd7 e1;simp only[qzdb];refine .block (AW.sr (by simp[qz8k];rfl) ?_);have hx0:(l.drop off)[0]?=some l[off]:=by rw[Gbd,Gcn];exact Gbe hlt
  have hc0:C off=l[off].cells:=by rw[<-hC];exact qzo (Gbe hlt)
  generalize l[off]=x0 at *;obtain⟨N,hN⟩:∃N,l.length-off=N:=⟨_,rfl⟩;have hNl:(l.drop off).length=N:=by rw[Gbs];omega
  refine .seq (.block (.loop (fun n:Nat=>(⟨[.yld L e,.ptr s ep 0,.top,.int .i64 n]++List.replicate 33 .top,H51 hb s ep l.length off C,[]⟩:ASt)) (fun n=>N-n) (fun n=>1<=n/\n<=N/\(1<n->∀i x,i<n->(l.drop off)[i]?=some x->ng x=true)) 1 ⟨Gcy _,by omega,fun h=>by omega⟩ (.of_sub ⟨?_,fun i=>.refl _,rfl,fun D hD=>by cases hD⟩) ?_))
  ·simp[List.replicate,TSub,VSub]
  rintro n ⟨h1,h2,h3⟩;have hin:inr .i64 ((n:Int)+1):=by show _/\_;omega
  obtain⟨t,ht,hgo,hend⟩:∃t:Bool,AW EE none Tryd.prog (.reg false (jz89 0) []) (fun ex S=>ex=.normal/\See EE S ⟨[.yld L e,.ptr s ep 0,.top,.int .i64 n]++List.replicate 21 .top++[.bool t]++List.replicate 11 .top,H51 hb s ep l.length off C,[]⟩) ⟨[.yld L e,.ptr s ep 0,.top,.int .i64 n]++List.replicate 33 .top,H51 hb s ep l.length off C,[]⟩/\(t=true->n<N/\∀i x,i<n+1->(l.drop off)[i]?=some x->ng x=true)/\(t=false->∀x y,(l.drop off)[0]?=some x->(l.drop off)[n]?=some y->(ng x&&ng y)=false):=by
   by_cases hn:n<N
   ·have hnI:(n:Int)<(N:Int):=(by omega);have hxn:(l.drop off)[n]?=some l[off+n]:=(by rw[Gbd];exact Gbe (by omega));have hcn:C (off+n)=l[off+n].cells:=(by rw[<-hC];exact qzo (Gbe (by omega)));generalize l[off+n]=xn at *;have hGn:=hG xn;have hG0:=hG x0;simp only[wz3g.cells,qzh]at hGn hG0;cases hg:ng x0
    ·refine⟨false,.reg ?_,(fun e=>by cases e),fun _ x y hx hy=>by rw[hx0]at hx;cases hx;rw[hg];rfl⟩;have hg':decide (x0.Table=[])=true:=(by simpa [ng] using hg);rw[hg']at hG0;simp[jz89,q0,hN,hnI,hc0];refine⟨by omega,.inr ⟨fun _=>⟨by simp,hG0.call ?_⟩,fun e=>by cases e⟩⟩;simp[q0,Req.fail];refine .inr ⟨(fun e=>by cases e),fun _=>?_⟩;simp[Req.fail];refine .of_sub ⟨?_,fun i=>.refl _,rfl,fun D hD=>by cases hD⟩;simp[List.replicate,TSub,VSub]
    ·have hg':decide (x0.Table=[])=false:=(by simpa [ng] using hg);rw[hg']at hG0;cases hy:ng xn
     ·refine⟨false,.reg ?_,(fun e=>by cases e),fun _ x y _ hy'=>by rw[hxn]at hy';cases hy';rw[hy,Bool.and_false]⟩;have hy':decide (xn.Table=[])=true:=(by simpa [ng] using hy);rw[hy']at hGn;simp[jz89,q0,hN,hnI,hc0];refine⟨by omega,.inr ⟨fun _=>⟨by simp,hG0.call ?_⟩,fun e=>by cases e⟩⟩;simp[q0,hN,hnI,hcn];refine .inr ⟨fun _=>⟨by simp,hGn.call ?_⟩,fun e=>by cases e⟩;simp;refine .of_sub ⟨?_,fun i=>.refl _,rfl,fun D hD=>by cases hD⟩;simp[List.replicate,TSub,VSub]
     ·refine⟨true,.reg ?_,fun _=>⟨hn,fun i x hi hx=>?_⟩,fun e=>by cases e⟩;·have hy':decide (xn.Table=[])=false:=(by simpa [ng] using hy);rw[hy']at hGn;simp[jz89,q0,hN,hnI,hc0];refine⟨by omega,.inr ⟨fun _=>⟨by simp,hG0.call ?_⟩,fun e=>by cases e⟩⟩;simp[q0,hN,hnI,hcn];refine .inr ⟨fun _=>⟨by simp,hGn.call ?_⟩,fun e=>by cases e⟩;simp;refine .of_sub ⟨?_,fun i=>.refl _,rfl,fun D hD=>by cases hD⟩;simp[List.replicate,TSub,VSub]
      ·by_cases hin:i=n;·subst hin;rw[hxn]at hx;cases hx;exact hy
       ·by_cases h1n:1<n;·exact h3 h1n i x (by omega) hx
        ·obtain rfl:i=0:=by omega
         rw[hx0]at hx;cases hx;exact hg
   ·refine⟨false,.reg ?_,(fun e=>by cases e),fun _ x y hx hy=>?_⟩;·have hnI:¬(n:Int)<(N:Int):=(by omega);simp[jz89,q0,hN,hnI];refine .inr ⟨(fun e=>by cases e),fun _=>?_⟩;simp[q0,Req.fail];refine .inr ⟨(fun e=>by cases e),fun _=>?_⟩;simp[Req.fail];refine .of_sub ⟨?_,fun i=>.refl _,rfl,fun D hD=>by cases hD⟩;simp[List.replicate,TSub,VSub]
    ·have:=(Gbg.1 hy).1;omega
  refine .seq (.seq (AW.mono ht ?_));rintro ex S ⟨rfl,hsee⟩;simp only[qzdb];refine .see hsee ?_;refine AW.if' t (by simp) (fun e2=>AW.skip ?_) (fun e2=>.exit ?_)
  ·obtain⟨g1,g2⟩:=hgo e2;simp only[qzdb];refine .block (AW.r1 (by simp[kzam];exact⟨hin,rfl⟩) ?_);simp only[qzdb,ablk];refine⟨n+1,⟨by omega,by omega,fun _=>g2⟩,by omega,.of_sub ⟨?_,fun i=>.refl _,rfl,fun D hD=>by cases hD⟩⟩;simp[List.replicate,TSub,VSub]
  have hst:=kzvd h1 (by omega) h3 (hend e2);rw[Ga3]at hst;generalize hp:(l.drop off).take n=p at *;have hpl:p.length=n:=by rw[<-hp,Gbz];omega
  have hpn:p≠[]:=List.length_pos_iff.1 (by omega);have hcp:∀k,k<p.length->C (off+k)=qzd wz3g.cells p k:=fun k hk=>by rw[<-hC,<-hp];unfold qzd;rw[List.getElem?_take_of_lt (by omega),Gbd]
  have hrd:=K.round pre p (strs (l.drop (off+n))) (H51 hb s ep l.length off C) (fun k=>C (off+k)) (by rw[hpre,hst]) hpn hcp (K.loc _ hb _ (fun i hi=>by simp only[H51,hset,Gd3 (show ¬i=s by omega)]) hHC);rw[hpl]at hrd;simp only[qzdb,ablk,Gd5];refine .seq (.seq (.reg ?_));simp[kzai,q0,hN];refine⟨h2,hrd.imp ?_⟩;rintro v h' (⟨rfl,hlo,hhi⟩|⟨rfl,hX⟩)
  ·have hb0:h' s=.box ep [.slc 5 N (fun k=>C (off+k))]:=by rw[hhi s hs,q0,hN]
   simp;refine AW.if' false (by simp) (fun e=>by cases e) (fun _=>AW.skip ?_);simp only[qzdb];refine AW.r1 (by simp[kzan,hb0];exact⟨h2,rfl⟩) ?_;refine⟨⟨off+n,pre++[p],h'⟩,⟨by simp only;omega,by simp only;rw[hpre,hst,List.append_assoc];rfl,hlo⟩,by simp only;omega,.of_sub ⟨?_,fun i=>.of_eq ?_,rfl,fun D hD=>by cases hD⟩⟩
   ·simp[List.replicate,TSub,VSub]
   ·simp only[H51,hset];split
    ·rw[show l.length-(off+n)=N-n by omega];simp only[Gcl]
    ·rfl
  ·simp;refine AW.if' true (by simp) (fun _=>.ret ?_) (fun e=>by cases e);simp only[qzdb,ablk];exact .here (by simp[rs51]) rfl (.inr hX)
 ·obtain rfl:off=l.length:=by have:=of_decide_eq_false e1;omega
  rw[List.drop_length]at hpre;simp only[qzdb,ablk,Gd5];refine .norm (.here (by simp[rs51]) rfl (.inl ?_));rw[show strs l=pre from by rw[hpre];simp[strs]];exact K.loc _ hb _ (fun i hi=>by simp only[H51,hset,Gd3 (show ¬i=s by omega)]) hHC
theorem kzv4(l:AVal)(hl:l.one=true)(hc1:wzk l=some [l])(h:qzl)(s:Nat)(hp:(h s).plain):ATr EE Tryd.prog 33 [l] h (fun v h'=>v=.fn 51 0 [.ptr s ((h s).ep+1) 0]/\h'=hset h s (.box ((h s).ep+1) [l])):=by obtain⟨c,hb,hc⟩:=ck33;refine ATr.of (fn:=Tryd.f33) rfl hb cr33 (hc s) 3 rfl ?_;refine AW.sr (by simp[qz6w,List.replicate,hc1];exact⟨hp,rfl⟩) ?_;refine AW.sr (by simp[qz4z];rfl) ?_;refine .ret (.here (by simp[rs33]) rfl ?_);simp[rs33]
end Go.Am

