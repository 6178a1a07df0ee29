/- Part D6: helpers. No condition. -/
import Derived.Test.YtjlgleghnenojaaDoorD5
set_option linter.unusedSimpArgs false
set_option linter.unusedVariables false
set_option maxRecDepth 100000
namespace Go.Am
open Go.Proofs
attribute [local simp] areg aop dreg dop AOp.req argv argU AOp.args wze AOp.unAll Req.val Req.when putT putH qzdb ablk qzfc qzbd qzg6 vzl qzcj qzif qzid qzh7 qzh1 qzhy qzko qzhz qzji qzim qzgg qznh qzj2 qzkg qzjx IntKind.bits vz1 ARes.ok ARes.val vz5 cut AOp.quiet
attribute [local simp] qzc0 qzbz qzcz qze2 qzer qzep kzp qz1 qzh2 qzij
attribute [local simp] qzm6 qzj7 qzhq qzih qzm4 look qz8 zipA wm wh
attribute [local simp] qzm7 qzpn qzpz qzmg qzpx qzmf qzpo qzqa qzpi qzqk qzpm w_fn qznc qzjs qzjh qzhs qzj1 qzmh qzmi AObj.ep AObj.plain AObj.owned
attribute [local simp] wz9 qzbw qzeu qzdp qzey qzd2 qze5 qzfk qze7 qzdi qzdk qzd0 qzgy qzcq qzg5 qzc6 qzfa vz6 lay jzv ldv wzu qz5 kz1 qz9 qzgh wzd AVal.kind
attribute [local simp] AVal.one_int AVal.one_bool AVal.one_str AVal.one_nils AVal.one_slc AVal.one_vec AVal.one_ptr AVal.one_eptr AVal.one_cptr AVal.one_nilp AVal.one_fn AVal.one_nilfn AVal.one_mp AVal.one_nilmp
attribute [local simp] qzkh qzkv qzh8 qzh4 qzkt qzjr qzii qzik qzjn qzkm qzjf qzjw qzkl qzje qzh6 qzhx qzin qzig qzh5 qzio qzm9 qzna qzgf qzgr qzmt qzmr qzgn qzgz qzj6 qzj9 qzjv qzka qzju qzki qzkr qzku
attribute [local simp] qzh cI cB cS cL qzc3 qzdh qzdz qzb7 qzg1 qzh0 qzgc qziq fzm fzh fzv fzl fz1 qzjm qzhw qzjp qzjl qzjk List.range_succ qzd5 qze0 qzfg qzco qzdq qzdu qzag qzdw qzd4
attribute [local simp] qzj0
attribute [local simp] wz2c.cells
attribute [local simp] kzhx.cells
attribute [local simp] kzhv.cells
attribute [local simp] kzh0.cells
attribute [local simp] jz50.cells
attribute [local simp] wz2h.cells
attribute [local simp] kzht.cells
attribute [local simp] wz2w.cells
attribute [local simp] wz3g.cells
attribute [local simp] kzhz.cells
attribute [local simp] kzhu.cells
attribute [local simp] hset
theorem kznq:∀(l:List wz3g),(strs l).length<=l.length/\∀p∈strs l,p.length<=l.length/\∀x∈p,x∈l
 |[]=>⟨Gcy _,fun p hp=>by cases hp⟩
 |x :: r=>by
  obtain⟨h1,h2⟩:=kznq r
  have key:∀L,strs r=L->(strs (x :: r)).length<=r.length+1/\∀p∈strs (x :: r),p.length<=r.length+1/\∀z∈p,z∈x :: r:=fun L hL=>by
   have e:strs (x :: r)=(match (generalizing:=false) L with
    |(y :: p) :: q=>bif !decide (x.Table=[])&&!decide (y.Table=[]) then(x :: y :: p) :: q else [x] :: (y :: p) :: q
    | _=>[[x]]):=by subst hL;rfl
   rw[e];rw[hL]at h1 h2;have one:([[x]]:List (List wz3g)).length<=r.length+1/\∀p∈([[x]]:List (List wz3g)),p.length<=r.length+1/\∀z∈p,z∈x :: r:=⟨by simp,fun p hp=>by rw[Gcc.1 hp];exact⟨by simp,fun z hz=>by rw[Gcc.1 hz];exact Gb5 ..⟩⟩
   match L,h1,h2 with
   |[],_,_=>exact one
   |[] :: _,_,_=>exact one
   |(y :: p) :: q,h1,h2 =>
    have hy:=h2 (y :: p) (Gb5 ..);have hq:∀t∈q,t.length<=r.length+1/\∀z∈t,z∈x :: r:=fun t ht=>by obtain⟨a,b⟩:=h2 t (Gb4 _ ht);exact⟨by omega,fun z hz=>Gb4 _ (b z hz)⟩
    simp only;cases (!decide (x.Table=[])&&!decide (y.Table=[]))
    ·simp only[Gdt];refine⟨by simp at h1 ⊢;omega,fun t ht=>?_⟩;rcases Gb3.1 ht with rfl|ht
     ·exact⟨by simp,fun z hz=>by rw[Gcc.1 hz];exact Gb5 ..⟩
     rcases Gb3.1 ht with rfl|ht
     ·exact⟨by have:=hy.1;omega,fun z hz=>Gb4 _ (hy.2 z hz)⟩
     ·exact hq t ht
    ·simp only[Gdu];refine⟨by simp at h1 ⊢;omega,fun t ht=>?_⟩;rcases Gb3.1 ht with rfl|ht
     ·refine⟨by have:=hy.1;simp at this ⊢;omega,fun z hz=>?_⟩;rcases Gb3.1 hz with rfl|hz
      ·exact Gb5 ..
      ·exact Gb4 _ (hy.2 z hz)
     ·exact hq t ht
  exact key _ rfl
theorem kzps{l:List wz3g}{r:List wz3g×Int}(hF:kzii l=some r):∃e,kzhy l=some e/\(e≠0->r=([],e))/\(e=0->tbs l=true/\∃o,smL (strs l) []=some o/\(o=.inr ()->r=([],29)) /\ ∀out,o=.inl out->∃all,kzie out (fun a0 a1=>kzh9 a0 a1)=some all/\ite' (decide (2000<(List.length all:Int))) (some ([],2)) (some (all,0))=some r):=by
 unfold kzii at hF;obtain⟨e,h1,hF⟩:=bd_e hF;refine⟨e,h1,fun k=>(Gdp ((it_e hF).1 k)).symm,fun k=>?_⟩;obtain⟨hc,hF⟩:=ck_e ((it_e hF).2 k);obtain⟨o,ho,hF⟩:=bd_e hF;refine⟨hc,o,ho,fun e=>?_,fun out e=>?_⟩
 ·subst e;exact(Gdp hF).symm
 ·subst e;exact bd_e hF
theorem see6{t:List AVal}{ds:List (Nat×Nat)}{h:qzl}(ep:Nat)(out:List wz3g)(h2:h 2=.box 1 [ownV 6 ep out])(h6:h 6=ownO ep 5 wz3g.cells out)(hd:∀D∈ds,h D.1=.dfr D.2/\D.1≠2/\D.1≠6) : ∃e',See EE ⟨t,h,ds⟩ ⟨t,hset (hset h 6 (.gone e')) 2 (.box 1 [.slc 5 out.length (qzd wz3g.cells out)]),ds⟩:=by
 cases out with
 |nil =>
  refine⟨ep,.pw (.refl _) (fun i=>?_) (fun D hD=>?_)⟩
  ·simp only[hset];by_cases i2:i=2
   ·subst i2;rw[Gd4 rfl,h2];exact qzmh.2 ⟨rfl,.nil _ _,trivial⟩
   rw[Gd3 i2];by_cases i6:i=6
   ·subst i6;rw[Gd4 rfl,h6];exact qzhs.2 trivial
   ·rw[Gd3 i6];exact qzhs.2 trivial
  ·obtain⟨a,b,c⟩:=hd D hD;simp only[hset,Gd3 b,Gd3 c];exact a
 |cons z out =>
  refine⟨ep+1,.freeze (id:=6) (o:=.vec ep 5 (out.length+1) (qzd wz3g.cells (z :: out))) h6 rfl trivial ?_ (fun j hj=>?_) (FVl.refl _) rfl⟩
  ·simp[hset]
  ·simp only[hset,Gd3 hj];by_cases i2:j=2
   ·subst i2;rw[Gd4 rfl,h2];exact .inr (.inl ⟨_,_,_,rfl,rfl,.vec _ _ _ _ 0 _ _ rfl (by simp) (fun k _=>by rw[Gdk]),trivial⟩)
   ·rw[Gd3 i2];exact .inl rfl
section
attribute [local simp] b16 kznm kzkz kzkx kzko kzk7 kzlr kzme kzmd kzk3 subm subh vz2
set_option maxHeartbeats 4000000 in
theorem kzwb(hC:∀(l:List wz3g) (e:Int),kzhy l=some e->qzq EE Tryd.prog 25 [slcV 5 wz3g.cells l] (.int .i64 e))(hJ:∀l r:List wz3g,kzie l (fun a0 a1=>kzh9 a0 a1)=some r->qzq EE Tryd.prog 37 [slcV 5 wz3g.cells l,.fn 24 0 []] (slcV 5 wz3g.cells r))(hG:∀(x:wz3g),qzq EE Tryd.prog 30 [.agg x.cells] (.bool (decide (x.Table=[]))))(hR:∀(x:wz3g),qzq EE Tryd.prog 34 [.agg x.cells] (.bool (decide (x.Table.length=1))))(hH:∀(a b s:Int) (r:wz3g),kzia a b s=some r->qzq EE Tryd.prog 23 [.int .i64 a,.int .i64 b,.int .i64 s] (.agg r.cells))(H67:qzq EE Tryd.prog 67 [.int .u64 0] (.int .i64 0)) (l:List wz3g) (r:List wz3g×Int) (hF:kzii l=some r) :
  ATr EE Tryd.prog 16 [slcV 5 wz3g.cells l] h0 (fun v _=>W v (.tup [slcV 5 wz3g.cells r.1,.int .i64 r.2])):=by
 obtain⟨e,h1,g1,hF⟩:=kzps hF;have sC:=hC l e h1;generalize hL:slcV 5 wz3g.cells l=L at *;have hL2:L=.slc 5 l.length (qzd wz3g.cells l):=by rw[<-hL,qzh]
 obtain⟨c,hb,hc⟩:=ck16;refine ATr.ofs (fn:=Tryd.f16) (n:=162) rfl hb cr16 (hc 0) (by simp;rfl) rfl (by simp) ?_;refine AW.sr (by simp[qz7h];rfl) ?_;refine .seq (AW.sr (by simp[qz67];refine sC.call ?_;(try simp);rfl) ?_);refine AW.sr (by simp[wzat];rfl) ?_;refine AW.if' (!decide (e=0)) (by simp) (fun e'=>?_) (fun e'=>AW.skip ?_)
 ·rw[g1 (by simpa using e')];refine AW.sr (by simp[qz6h];rfl) ?_;refine .ret ?_;simp only[qzdb];refine .here (by simp[rs16]) rfl ?_;simp[rs16]
 obtain⟨tl0,o,ho,hE,hF⟩:=hF (by simpa using e');have e0:e=0:=by simpa using e'
 subst e0;have hll:=kzkl h1;obtain⟨m1,m2⟩:=kznq l;simp only[qzdb];refine AW.sr (by simp[qz7v];rfl) ?_;refine .seq (.seq (.reg ?_));simp[wzaj];refine(kzv4 L (by rw[hL2];rfl) (by rw[hL2];rfl) _ 2000 (by simp)).mono ?_;rintro v h' ⟨rfl,rfl⟩;simp;refine .block (.see (.sp (m':=b16++[(25,.fn 51 0 [.ptr 2000 1 0])]) (hm':=[(2000,.box 1 [L]),(2,.box 1 [.nils]),(1,.box 1 [.int .i64 0]),(0,.box 1 [.nils])]) ?_ ?_ ?_) ?_)
 ·simp
 ·simp
 ·simp
 refine .rfunc (fi:=51) (caps:=[.ptr 2000 1 0]) 900 901 (by omega) (by simp) (by simp) (by simp) (by kernel_rfl) ?_;intro ps' asg body hps hasg hbody;refine(kzw5 hG l (by omega) 902 901 1 2000 1 (by omega) _ _ (kzvs hG hR hH H67 (strs l) (fun p hp=>?_) (by omega) o ps' asg body hps hasg hbody) _ ?_ ?_).mono ?_
 ·obtain⟨q1,q2⟩:=m2 p hp;exact⟨by omega,Ga0.2 fun x hx=>Ga0.1 tl0 x (q2 x hx)⟩
 ·exact⟨by simp[hset],by simp[hset],⟨0,[],by simp[hset],by simp[hset],by simp,ho⟩,by simp[hset],by simp[hset],by simp[hset,ts16]⟩
 ·simp[hset,hL2]
 rintro v h' (H|H)
 ·refine⟨.ready,none,by simp,H.hL,H.hD,by simp,?_⟩;obtain⟨ep,out,h2,h6,hol,hsm⟩:=H.out;rw[List.drop_length]at hsm;obtain rfl:=Gdp (show some (Sum.inl out)=some o from hsm);obtain⟨all,hall,hr⟩:=hF out rfl;have sJ:=hJ _ _ hall;have g0:=H.h0;have g1':=H.h1;have gD:=H.hD;simp only[wza0,ablk,qzdb];rw[qzh,qzh]at sJ;obtain⟨e6,s6⟩:=see6 (t:=tl (b16++[(25,.fn 51 0 [.ptr 2000 1 0])]) 162) (ds:=[(900,1)]) (h:=hset h' 901 (.gone 1)) ep out (by simp[hset,h2]) (by simp[hset,h6]) (fun D hD=>by rw[Gcc]at hD;subst hD;simp[hset,gD]);refine .see s6 ?_;refine AW.sr (by simp[kzr2,hset];refine sJ.call ?_;simp[hset,gD];rfl) ?_;refine .seq (AW.sr (by simp[kzqd,hset];rfl) ?_);refine AW.if' (decide (2000<(List.length all:Int))) (by simp) (fun e=>?_) (fun e=>AW.skip ?_)
  ·rw[e]at hr;cases hr;refine AW.sr (by simp[kzpy,hset,g0,g1'];rfl) ?_;refine .ret ?_;simp only[qzdb];refine⟨_,.refl _,?_,fun i=>.gone _,fun i=>.inl rfl,fun D _=>⟨_,rfl⟩,?_⟩
   ·simp[rs16,hset]
   ·simp[rs16,hset]
  ·rw[e]at hr;cases hr;simp only[qzdb];refine AW.sr (by simp[kzpv,hset,g0,g1'];rfl) ?_;refine .ret ?_;refine⟨_,.refl _,?_,fun i=>.gone _,fun i=>.inl rfl,fun D _=>⟨_,rfl⟩,?_⟩
   ·simp[rs16,hset]
   ·simp[rs16,hset]
 ·refine⟨.done,some .ret,by simp,H.hL,H.hD,by simp,?_⟩;rw[hE H.ho];simp only[wza0,ablk,qzdb];refine⟨_,.refl _,?_,fun i=>.gone _,fun i=>.inl rfl,fun D _=>⟨_,rfl⟩,?_⟩
  ·simp[rs16,hset,H.h0,H.h1]
  ·simp[rs16,hset,H.h0,H.h1]
end
theorem kzvg(H34:FcOk k34)(x:wz3g):qzq EE Tryd.prog 34 [.agg x.cells] (.bool (decide (x.Table.length=1))):=by
 have e:kzjo x=some (decide (x.Table.length=1)):=by unfold kzjo;congr 1;exact decide_eq_decide.2 (by omega)
 exact H34.still (x:=x) (y:=decide (x.Table.length=1)) e (by kernel_rfl)
theorem kzvw(H25:FcOk k25)(H37:FcOk k37)(H24:FcOk k24)(H30:FcOk k30)(H34:FcOk k34)(H23:FcOk k23)(H67:FcOk k67):FcOk k16:=by refine⟨by kernel_rfl,fun x y e=>?_⟩;have H:Pure EE Tryd.prog 16 [slcV 5 wz3g.cells x] (.tup [slcV 5 wz3g.cells y.1,.int .i64 y.2]) := (kzwb (kzmp H25) (kzlv H37 H24) (kzqi H30) (kzvg H34) (fun a b s r h=>H23.still (x:=(a,b,s)) (y:=r) h (by kernel_rfl)) (H67.ok (0:Int) (0:Int) (by kernel_rfl)) x y e).wv fun v h' q=>⟨_,q,rfl⟩;exact(Pure.still H hEE (fun z hz=>by rw[Gcc.1 hz];exact kziq) kzmc).cast (by kernel_rfl)
end Go.Am

