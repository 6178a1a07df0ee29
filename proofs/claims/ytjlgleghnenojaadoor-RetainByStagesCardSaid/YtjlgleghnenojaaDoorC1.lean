/- Part C1: contracts of some functions of this seat. No condition. -/
import Derived.Test.YtjlgleghnenojaaDoorG1
import Derived.Test.YtjlgleghnenojaaDoorH1
set_option linter.unusedSimpArgs false
set_option linter.unusedVariables false
set_option maxRecDepth 100000
namespace Go.Am
open Go.Proofs
attribute [local simp] areg aop dreg dop AOp.req argv argU AOp.args wze AOp.unAll Req.val Req.when putT putH qzdb ablk qzfc qzbd qzg6 vzl qzcj qzif qzid qzh7 qzh1 qzhy qzko qzhz qzji qzim qzgg qznh qzj2 qzkg qzjx IntKind.bits vz1 ARes.ok ARes.val vz5 cut AOp.quiet
attribute [local simp] qzc0 qzbz qzcz qze2 qzer qzep kzp qz1 qzh2 qzij
attribute [local simp] qzm6 qzj7 qzhq qzih qzm4 look qz8 zipA wm wh
attribute [local simp] qzm7 qzpn qzpz qzmg qzpx qzmf qzpo qzqa qzpi qzqk qzpm w_fn qznc qzjs qzjh qzhs qzj1 qzmh qzmi AObj.ep AObj.plain AObj.owned
attribute [local simp] wz9 qzbw qzeu qzdp qzey qzd2 qze5 qzfk qze7 qzdi qzdk qzd0 qzgy qzcq qzg5 qzc6 qzfa vz6 lay jzv ldv wzu qz5 kz1 qz9 qzgh wzd AVal.kind
attribute [local simp] AVal.one_int AVal.one_bool AVal.one_str AVal.one_nils AVal.one_slc AVal.one_vec AVal.one_ptr AVal.one_eptr AVal.one_cptr AVal.one_nilp AVal.one_fn AVal.one_nilfn AVal.one_mp AVal.one_nilmp
attribute [local simp] qzkh qzkv qzh8 qzh4 qzkt qzjr qzii qzik qzjn qzkm qzjf qzjw qzkl qzje qzh6 qzhx qzin qzig qzh5 qzio qzm9 qzna qzgf qzgr qzmt qzmr qzgn qzgz qzj6 qzj9 qzjv qzka qzju qzki qzkr qzku
attribute [local simp] qzh cI cB cS cL qzc3 qzdh qzdz qzb7 qzg1 qzh0 qzgc qziq fzm fzh fzv fzl fz1 qzjm qzhw qzjp qzjl qzjk List.range_succ qzd5 qze0 qzfg qzco qzdq qzdu qzag qzdw qzd4
attribute [local simp] qzj0
attribute [local simp] wz2c.cells
attribute [local simp] kzhx.cells
attribute [local simp] kzhv.cells
attribute [local simp] kzh0.cells
attribute [local simp] jz50.cells
attribute [local simp] wz2h.cells
attribute [local simp] kzht.cells
attribute [local simp] wz2w.cells
attribute [local simp] wz3g.cells
attribute [local simp] kzhz.cells
attribute [local simp] kzhu.cells
theorem hEE:∀i,qzt (EE i):=fun i=>by
 unfold EE;split
 ·exact .cptr _ _ _ fun j _=>.int _ _
 ·exact .top
attribute [local simp] hset fzv fzl fzl fz1
theorem ATr.opaqueF{E:Nat->AVal}{P:Program}{f:FuncId}{args:List AVal}{r:AVal}{id:Nat}(hE:∀i,qzt (E i))(ha:∀x,x∈args->wz2n [id] x)(hr:wz2n [id] r)(H:∀e,ATr E P f args (fun i=>if i=id then .gone e else .gone 0) (fun v h'=>v=r/\(h' id).ep=e)):qzq E P f args r:=by
 intro h g w vs hh hv
 let hs:qzl:=fun i=>if i=id then .gone (h id).ep else .gone 0
 let g0:Gh:=⟨fun i=>if i∈[id] then g.blk i else 0,fun i=>if i∈[id] then g.ep i else 0,fun i=>if i∈[id] then g.bo i else 0,fun i=>if i∈[id] then g.st i else 0,fun i=>if i∈[id] then g.cp i else 0,g.fz⟩
 have hA:GAg [id] g g0:=⟨fun _ h=>h,fun i hi=>⟨Gd4 hi,Gd4 hi,Gd4 hi,Gd4 hi,Gd4 hi⟩⟩
 have no:∀i,(hs i).owned=true->False:=fun i hi=>by
  have:(hs i).owned=false:=by show(if i=id then AObj.gone _ else AObj.gone 0).owned=false;split<;>rfl
  rw[this]at hi;cases hi
 have H0:HR E g0 hs w:=by
  refine⟨fun i=>?_,fun i=>?_,fun i j hi hj e=>(no i hi).elim,fun i hi=>(no i hi).elim,hh.fzb,fun i=>(hh.glob i).ag hA (hE i).refs⟩
  ·show OR g0 w i (if i=id then .gone _ else .gone 0);split<;>trivial
  ·by_cases e:i=id;·subst e;show(if i∈[i] then g.ep i else 0)=(if i=i then AObj.gone (h i).ep else .gone 0).ep;rw[Gd4 (by simp),Gd4 rfl,hh.ep i];rfl
   ·show(if i∈[id] then g.ep i else 0)=(if i=id then AObj.gone (h id).ep else .gone 0).ep;rw[Gd3 (by simpa using e),Gd3 e];rfl
 refine(H _ g0 w vs H0 (hv.ag hA ha)).mono ?_;rintro e w' ⟨g',h',_,v,⟨rfl,hF⟩,rfl,hrv,hH,st⟩
 have hblk':∀i,i∈[id]->g'.blk i=g.blk i/\g'.ep i=g.ep i/\g'.bo i=g.bo i/\g'.st i=g.st i/\g'.cp i=g.cp i:=fun i hi=>by
  have hi':i=id:=by simpa using hi
  have e1:g'.ep i=g0.ep i:=by rw[hH.ep i,hi',hF];show(h id).ep=(if id∈[id] then g.ep id else 0);rw[Gd4 (by simp),hh.ep id]
  obtain⟨a,b,c,d⟩:=st.le.same i e1;obtain⟨a',b',c',d',e'⟩:=hA.pl i hi;exact⟨a.trans a',e1.trans b',b.trans c',c.trans d',d.trans e'⟩
 have hkeep:∀b,b<w.heap.size->w'.heap[b]?=w.heap[b]?:=fun b hb=>st.keep b hb fun i hi e=>(no i hi).elim
 let g2:Gh:=⟨g.blk,g.ep,g.bo,g.st,g.cp,g'.fz⟩
 have hA2:GAg [id] g' g2:=⟨fun _ h=>h,fun i hi=>by obtain⟨a,b,c,d,e⟩:=hblk' i hi;exact⟨a.symm,b.symm,c.symm,d.symm,e.symm⟩⟩;have hle:GLe g w g2 w':=⟨fun b hb=>st.le.fz b hb,fun _=>Gcy _,fun _ _=>⟨rfl,rfl,rfl,rfl⟩⟩;refine⟨g2,h,_,v,⟨rfl,rfl⟩,rfl,hrv.ag hA2 hr,?_,⟨hle,st.os,st.tape,st.output,st.size,fun b hb hn=>hkeep b hb,fun i ho=>.inl ⟨i,ho,rfl⟩,fun b hb=>?_,st.drawn⟩⟩
 ·refine⟨fun i=>(hh.obj i).mono hle rfl fun ho=>hkeep _ ((hh.obj i).lt ho),hh.ep,hh.inj,fun i hi hf=>?_,hH.fzb,fun i=>(hh.glob i).mono hle⟩;have hf':g'.fz (g.blk i):=hf;rcases st.fzn _ hf' with h1|⟨j,hj,ej⟩|h3
  ·exact hh.sep i hi h1
  ·exact no j hj
  ·have:g.blk i<w.heap.size:=(hh.obj i).lt hi;omega
 ·rcases st.fzn b hb with h1|⟨j,hj,ej⟩|h3;·exact .inl h1
  ·exact(no j hj).elim
  ·exact .inr (.inr h3)
theorem kzuo(id ep:Nat):qzq EE Tryd.prog 36 [.mp id ep] (.fn 54 0 [keyC id ep]):=by
 refine ATr.opaqueF (id:=id) hEE (fun x hx=>by simp at hx;subst hx;exact .mp _ _ (by simp)) ?_ fun e=>?_
 ·refine .fn _ _ _ fun x hx=>?_;simp at hx;subst hx;refine .cptr _ _ _ fun j hj=>?_;obtain rfl:j=0:=by omega
  exact .mp _ _ (by simp)
 obtain⟨c,hb,hc⟩:=ck36;refine ATr.of (fn:=Tryd.f36) rfl hb cr36 (hc (id+1)) 3 rfl ?_;refine AW.sr (by simp[qz8l,List.replicate];rfl) ?_;refine .fz (id+1) (by simp) (by simp) ?_;refine AW.sr (by simp[qz71];rfl) ?_;refine .ret (Post.here (by simp[rs36]) rfl ⟨?_,?_⟩)
 ·simp[rs36,keyC]
 ·simp
theorem jzeg(x:AVal):VSub x .top:=.inl rfl
theorem jzej{k k':IntKind}{a b:Int}:VSub (.int k a) (.int k' b)↔k'=k/\b=a:=by
 constructor
 ·rintro(h|h|⟨_,_,_,_,h,_⟩);·cases h
  ·injection h with h1 h2;exact⟨h1,h2⟩
  ·cases h
 ·rintro⟨rfl,rfl⟩;exact .refl _
theorem OSub.of_eq{o o':AObj}(h:o'=o):OSub o o':=.inr (.inl h)
theorem Post.norm{E:Nat->AVal}{rs:List ARes}{R:AVal->qzl->Prop}{S:ASt}(h:Post E rs R .ret S):Post E rs R .normal S:=h
theorem wz6f(a:wz3g):vz6 (wz3g.cells a)=true:=rfl
theorem wz8c(a:wz3g):List.take 5 (wz3g.cells a)=wz3g.cells a:=rfl
end Go.Am

