/- Part D2: helpers. No condition. -/
import Derived.Test.YtjlgleghnenojaaDoorD1
set_option linter.unusedSimpArgs false
set_option linter.unusedVariables false
set_option maxRecDepth 100000
namespace Go.Am
open Go.Proofs
attribute [local simp] areg aop dreg dop AOp.req argv argU AOp.args wze AOp.unAll Req.val Req.when putT putH qzdb ablk qzfc qzbd qzg6 vzl qzcj qzif qzid qzh7 qzh1 qzhy qzko qzhz qzji qzim qzgg qznh qzj2 qzkg qzjx IntKind.bits vz1 ARes.ok ARes.val vz5 cut AOp.quiet
attribute [local simp] qzc0 qzbz qzcz qze2 qzer qzep kzp qz1 qzh2 qzij
attribute [local simp] qzm6 qzj7 qzhq qzih qzm4 look qz8 zipA wm wh
attribute [local simp] qzm7 qzpn qzpz qzmg qzpx qzmf qzpo qzqa qzpi qzqk qzpm w_fn qznc qzjs qzjh qzhs qzj1 qzmh qzmi AObj.ep AObj.plain AObj.owned
attribute [local simp] wz9 qzbw qzeu qzdp qzey qzd2 qze5 qzfk qze7 qzdi qzdk qzd0 qzgy qzcq qzg5 qzc6 qzfa vz6 lay jzv ldv wzu qz5 kz1 qz9 qzgh wzd AVal.kind
attribute [local simp] AVal.one_int AVal.one_bool AVal.one_str AVal.one_nils AVal.one_slc AVal.one_vec AVal.one_ptr AVal.one_eptr AVal.one_cptr AVal.one_nilp AVal.one_fn AVal.one_nilfn AVal.one_mp AVal.one_nilmp
attribute [local simp] qzkh qzkv qzh8 qzh4 qzkt qzjr qzii qzik qzjn qzkm qzjf qzjw qzkl qzje qzh6 qzhx qzin qzig qzh5 qzio qzm9 qzna qzgf qzgr qzmt qzmr qzgn qzgz qzj6 qzj9 qzjv qzka qzju qzki qzkr qzku
attribute [local simp] qzh cI cB cS cL qzc3 qzdh qzdz qzb7 qzg1 qzh0 qzgc qziq fzm fzh fzv fzl fz1 qzjm qzhw qzjp qzjl qzjk List.range_succ qzd5 qze0 qzfg qzco qzdq qzdu qzag qzdw qzd4
attribute [local simp] qzj0
attribute [local simp] wz2c.cells
attribute [local simp] kzhx.cells
attribute [local simp] kzhv.cells
attribute [local simp] kzh0.cells
attribute [local simp] jz50.cells
attribute [local simp] wz2h.cells
attribute [local simp] kzht.cells
attribute [local simp] wz2w.cells
attribute [local simp] wz3g.cells
attribute [local simp] kzhz.cells
attribute [local simp] kzhu.cells
attribute [local simp] hset
def k28:Fc:=⟨28,[(.slc (.us 8))],[false],[(.slc (.us 8))],fun x=>kzis x⟩
def HQ(o:AObj)(e0 e2:Nat):qzl:=fun i=>if i=0 then .gone e0 else if i=2 then .gone e2 else if i=3 then o else .gone 0
theorem kzln{α:Type}(id ep:Nat)(l:List α)(x:α):ownV id ep (l++[x])=.vec id ep 0 (l.length+1):=by cases l<;>simp[ownV]
theorem kzlm{α:Type}(ep st:Nat)(c:α->List AVal)(l:List α)(x:α):ownO ep st c (l++[x])=.vec ep st (l.length+1) (qzd c (l++[x])):=by cases l<;>simp[ownO]
def TQ(L O:AVal)(n k:Nat):List AVal:=[L,.top,.nils,O,.top,.top,.top,.top,.top,L,.int .i64 n,.int .i64 k]++List.replicate 37 .top
structure YQ where
 k:Nat
 ep:Nat
 out:List wz3g
 e0:Nat
 e2:Nat
theorem kzow{out:List wz3g}{x:wz3g}{j:Nat}(hj:j<out.length+1):qzd wz3g.cells (out++[x]) j=if j<out.length then qzd wz3g.cells out j else x.cells:=by
 rw[yzt];split
 ·rfl
 ·rw[show j-out.length=0 by omega];rfl
set_option maxHeartbeats 4000000 in
theorem kzuy(H25:FcOk k25)(H37:FcOk k37)(H24:FcOk k24)(l r:List wz3g)(hF:kzis l=some r):ATr EE Tryd.prog 28 [slcV 5 wz3g.cells l] h0 (fun v _=>W v (slcV 5 wz3g.cells r)):=by
 unfold kzis at hF;obtain⟨hl,hF⟩:=ck_e hF;have hl:l.length<=1000000:=Gd7 hl;rw[qzh];generalize hL:qzd wz3g.cells l=C;obtain⟨c,hb,hc⟩:=ck28;refine ATr.of (fn:=Tryd.f28) rfl hb cr28 (hc 0) 48 rfl ?_;refine AW.sr (by simp[qz91,List.replicate];rfl) ?_;refine AW.sr (by simp[wzca];rfl) ?_;refine .seq (.seq (AW.r1 (by simp[qz9t];rfl) ?_));refine .block (.loop (fun y:YQ=>(⟨TQ (.slc 5 l.length C) (ownV 3 y.ep y.out) l.length y.k,HQ (ownO y.ep 5 wz3g.cells y.out) y.e0 y.e2,[]⟩:ASt)) (fun y=>l.length-y.k) (fun y=>y.k<=l.length/\y.out.length<=y.k/\jbL (l.drop y.k) y.out=some r) ⟨0,0,[],0,0⟩ ⟨Gdl _,Gcy _,hF⟩ (.of_sub ⟨?_,fun i=>?_,rfl,fun D hD=>by cases hD⟩) ?_)
 ·simp[TQ,List.replicate,TSub,VSub,ownV]
 ·exact .of_eq (by simp only[HQ,ownO,h0];(repeat' split)<;>rfl)
 rintro⟨k,ep,out,e0,e2⟩ ⟨hk,ho,hF⟩;simp only at hk ho hF ⊢;have q0:∀o e0 e2,HQ o e0 e2 0=.gone e0:=fun _ _ _=>rfl;have q1:∀o e0 e2,HQ o e0 e2 1=.gone 0:=fun _ _ _=>rfl;have q2:∀o e0 e2,HQ o e0 e2 2=.gone e2:=fun _ _ _=>rfl;have q3:∀o e0 e2,HQ o e0 e2 3=o:=fun _ _ _=>rfl;refine AW.sr (by simp[wzbw,TQ,List.replicate];rfl) ?_;refine .seq (AW.if' (decide ((k:Int)<(l.length:Int))) (by simp) (fun e=>AW.skip ?_) (fun e=>.exit ?_))
 ·have hlt:k<l.length:=by have:=Gd7 e;omega
  have hat:l[k]?=some l[k]:=Gbe hlt;have hcell:C k=l[k].cells:=by rw[<-hL];exact qzo hat
  have hdr:l.drop k=l[k] :: l.drop (k+1):=Ga4 hlt;rw[hdr]at hF;generalize l[k]=x at *;obtain⟨out1,hp,hF⟩:=bd_e (show bd (kzlb out x) (fun out=>jbL (l.drop (k+1)) out)=some r from hF);have hin1:inr .i64 ((k:Int)+1):=by show _/\_;omega
  simp only[qzdb];refine .seq (.block (AW.sr (by simp[kztp,q0,hlt,hcell];rfl) ?_));rcases List.eq_nil_or_concat out with rfl|⟨m,a,rfl⟩
  ·cases hp;refine .seq (AW.sr (by simp[kzo2,ownV];rfl) ?_);refine AW.sr (by simp[kzo8];rfl) ?_;refine AW.if' false (by simp) (fun e=>by cases e) (fun _=>AW.skip ?_);simp only[qzdb];refine AW.r1 (by simp[kzn4,q0,q2,q3,ownO];rfl) ?_;simp only[qzdb,ablk];refine AW.r1 (by simp[kzmn];exact⟨hin1,rfl⟩) ?_;simp only[qzdb];refine⟨⟨k+1,ep+1,[x],e0+1,e2+1⟩,⟨by simp only;omega,by simp,hF⟩,by simp only;omega,.of_sub ⟨?_,fun i=>?_,rfl,fun D hD=>by cases hD⟩⟩
   ·simp[TQ,List.replicate,TSub,VSub,ownV]
   ·simp only[hset];by_cases i3:i=3
    ·subst i3;refine .inr (.inr ⟨_,_,_,_,qzd wz3g.cells [x],by simp;exact⟨rfl,rfl,rfl,rfl⟩,by simp[HQ,ownO];try rfl,fun j hj=>?_⟩);obtain rfl:j=0:=by omega
     simp
    by_cases i0:i=0
    ·subst i0;exact .inl (by simp[HQ])
    by_cases i2:i=2
    ·subst i2;exact .inl (by simp[HQ])
    exact .of_eq (by simp[HQ,i0,i2,i3])
  rw[List.concat_eq_append]at *;have hml:(m++[a]).length=m.length+1:=by simp
  simp only[hml]at ho;obtain⟨p,hj,hp⟩:∃p,kzif [a] [x]=some p/\(match p with | ([y],e)=>some (bif decide (e=0) then m++[y] else m++[a]++[x]) | _=>some (m++[a]++[x]))=some out1:=by unfold kzlb at hp;rw[List.getLast?_concat,List.dropLast_concat]at hp;exact bd_e hp
  have hJ:=kzuf H25 H37 H24 [a] [x] (m++[a]) p hj 3 ep m.length (by omega) (by simp) (fun k hk=>by
   obtain rfl:k=0:=by simpa using hk
   rw[Gcn,qzo (x:=a) (by simp)];rfl)
  refine .seq (AW.sr (by simp[kzo2,kzln,kzlm,q3];rfl) ?_);refine AW.sr (by simp[kzo8];rfl) ?_;have hin0:inr .i64 ((m.length:Int)+1-1):=by show _/\_;omega
  refine AW.if' true (by simp<;>omega) (fun _=>?_) (fun e=>by cases e);refine .seq (.draw ?_);simp[kzsz,q0,q1,q3,hin0,kzb,kzln,kzlm];refine⟨by show _/\_;omega,by omega,.tup [slcV 5 wz3g.cells p.1,.int .i64 p.2],[3],fun h' e=>ATr.w (hJ h' fun j hj=>?_) ?_,?_⟩
  ·rw[Gcc]at hj;subst hj;rw[e 3 (by simp)];simp[q3]
  ·rw[qzh];refine⟨.refl _,qzpo.2 ⟨rfl,rfl,fun k hk=>?_⟩,trivial⟩;obtain rfl:k=0:=by omega
   simp
  simp;refine⟨by kernel_rfl,?_⟩;refine AW.sr (by simp[kzsy];rfl) ?_;refine AW.if' (decide (p.2=0)&&decide (p.1.length=1)) (by simp;rw[show decide ((p.1.length:Int)=1)=decide (p.1.length=1) from decide_eq_decide.2 (by omega)]) (fun e'=>?_) (fun e'=>AW.skip ?_)
  ·obtain⟨q,ee⟩:=p;simp only[Gai,Gdz]at e';obtain⟨rfl,hq⟩:=e';obtain⟨y,rfl⟩:∃y,q=[y]:=List.length_eq_one_iff.1 hq;obtain rfl:m++[y]=out1:=Gdp hp;refine AW.sr (by simp[kzsq,q3,hin0];exact⟨by show _/\_;omega,by omega,rfl⟩) ?_;refine .exit ?_;simp only[qzdb,ablk,Gd5];refine AW.r1 (by simp[kzmn];exact⟨hin1,rfl⟩) ?_;simp only[qzdb];refine⟨⟨k+1,ep,m++[y],e0+1,e2⟩,⟨by simp only;omega,by simp;omega,hF⟩,by simp only;omega,.of_sub ⟨?_,fun i=>?_,rfl,fun D hD=>by cases hD⟩⟩
   ·rw[kzln];simp[TQ,List.replicate,TSub,VSub]
   ·rw[kzlm];simp only[hset];by_cases i3:i=3
    ·subst i3;refine .inr (.inr ⟨_,_,_,_,qzd wz3g.cells (m++[y]),by simp;exact⟨rfl,rfl,rfl,rfl⟩,by simp[HQ];try rfl,fun j hj=>?_⟩);rw[kzow hj];by_cases hj':j<m.length
     ·rw[Gd4 hj'];simp[show ¬j=m.length by omega,kzow hj,hj']
     ·obtain rfl:j=m.length:=by omega
      have hca:qzd wz3g.cells (m++[a]) m.length=a.cells:=qzo (by simp);simp[hca]
    by_cases i0:i=0
    ·subst i0;exact .inl (by simp[HQ])
    by_cases i1:i=1
    ·subst i1;exact .of_eq (by simp[HQ])
    exact .of_eq (by simp[HQ,i0,i1,i3])
  ·obtain rfl:m++[a]++[x]=out1:=by
    obtain⟨q,ee⟩:=p
    match q,hp with
    |[],hp=>exact Gdp hp
    |[y],hp =>have:decide (ee=0)=false:=(by simpa using e');have hp:=Gdp hp;rw[this]at hp;exact hp
    |y :: z :: q,hp=>exact Gdp hp
   simp only[qzdb];refine AW.r1 (by simp[kzn4,q0,q2,q3];exact⟨by omega,rfl⟩) ?_;simp only[qzdb,ablk];refine AW.r1 (by simp[kzmn];exact⟨hin1,rfl⟩) ?_;simp only[qzdb];refine⟨⟨k+1,ep+1,m++[a]++[x],e0+1,e2+1⟩,⟨by simp only;omega,by simp;omega,hF⟩,by simp only;omega,.of_sub ⟨?_,fun i=>?_,rfl,fun D hD=>by cases hD⟩⟩
   ·rw[kzln];simp[TQ,List.replicate,TSub,VSub]
   ·rw[kzlm];simp only[hset];by_cases i3:i=3
    ·subst i3;refine .inr (.inr ⟨_,_,_,_,qzd wz3g.cells (m++[a]++[x]),by simp;exact⟨rfl,rfl,rfl,rfl⟩,by simp[HQ];try rfl,fun j hj=>?_⟩);have hj:j<(m++[a]).length+1:=by simp at hj ⊢;omega
     rw[kzow hj,hml];by_cases hj':j<m.length+1
     ·rw[Gd4 hj'];simp[hj']
     ·obtain rfl:j=m.length+1:=by simp at hj;omega
      simp
    by_cases i0:i=0
    ·subst i0;exact .inl (by simp[HQ])
    by_cases i1:i=1
    ·subst i1;exact .of_eq (by simp[HQ])
    by_cases i2:i=2
    ·subst i2;exact .inl (by simp[HQ])
    exact .of_eq (by simp[HQ,i0,i1,i2,i3])
 ·obtain rfl:k=l.length:=by have:=of_decide_eq_false e;omega
  rw[List.drop_length]at hF;obtain rfl:=Gdp (show some out=some r from hF);simp only[qzdb,ablk,Gd5];cases out with
  |nil =>refine AW.sr (by simp[kzno,TQ,ownV,List.replicate];rfl) ?_;refine .ret (.here (by simp[rs28]) rfl ?_);simp[rs28]
  |cons a m =>refine .fzc 3 (by simp[q3,ownO]) (by simp[q3,ownO]) ?_;refine AW.sr (by simp[kzno,TQ,ownV,ownO,q3,List.replicate];rfl) ?_;refine .ret (.here (by simp[rs28]) rfl ?_);simp[rs28]
theorem kzvo(H25:FcOk k25)(H37:FcOk k37)(H24:FcOk k24):FcOk k28:=by refine⟨by kernel_rfl,fun x y e=>?_⟩;have H:Pure EE Tryd.prog 28 [slcV 5 wz3g.cells x] (slcV 5 wz3g.cells y):=(kzuy H25 H37 H24 x y e).wv fun v h' q=>⟨_,q,rfl⟩;exact(Pure.still H hEE (fun z hz=>by rw[Gcc.1 hz];exact kziq) kziq).cast (by kernel_rfl)
end Go.Am

