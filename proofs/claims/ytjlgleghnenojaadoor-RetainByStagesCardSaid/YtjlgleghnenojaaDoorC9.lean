/- Part C9: contracts of some functions of this seat. No condition. -/
import Derived.Test.YtjlgleghnenojaaDoorC8
import Derived.Test.YtjlgleghnenojaaDoorI2
set_option linter.unusedSimpArgs false
set_option linter.unusedVariables false
set_option maxRecDepth 100000
namespace Go.Am
open Go.Proofs
attribute [local simp] areg aop dreg dop AOp.req argv argU AOp.args wze AOp.unAll Req.val Req.when putT putH qzdb ablk qzfc qzbd qzg6 vzl qzcj qzif qzid qzh7 qzh1 qzhy qzko qzhz qzji qzim qzgg qznh qzj2 qzkg qzjx IntKind.bits vz1 ARes.ok ARes.val vz5 cut AOp.quiet
attribute [local simp] qzc0 qzbz qzcz qze2 qzer qzep kzp qz1 qzh2 qzij
attribute [local simp] qzm6 qzj7 qzhq qzih qzm4 look qz8 zipA wm wh
attribute [local simp] qzm7 qzpn qzpz qzmg qzpx qzmf qzpo qzqa qzpi qzqk qzpm w_fn qznc qzjs qzjh qzhs qzj1 qzmh qzmi AObj.ep AObj.plain AObj.owned
attribute [local simp] wz9 qzbw qzeu qzdp qzey qzd2 qze5 qzfk qze7 qzdi qzdk qzd0 qzgy qzcq qzg5 qzc6 qzfa vz6 lay jzv ldv wzu qz5 kz1 qz9 qzgh wzd AVal.kind
attribute [local simp] AVal.one_int AVal.one_bool AVal.one_str AVal.one_nils AVal.one_slc AVal.one_vec AVal.one_ptr AVal.one_eptr AVal.one_cptr AVal.one_nilp AVal.one_fn AVal.one_nilfn AVal.one_mp AVal.one_nilmp
attribute [local simp] qzkh qzkv qzh8 qzh4 qzkt qzjr qzii qzik qzjn qzkm qzjf qzjw qzkl qzje qzh6 qzhx qzin qzig qzh5 qzio qzm9 qzna qzgf qzgr qzmt qzmr qzgn qzgz qzj6 qzj9 qzjv qzka qzju qzki qzkr qzku
attribute [local simp] qzh cI cB cS cL qzc3 qzdh qzdz qzb7 qzg1 qzh0 qzgc qziq fzm fzh fzv fzl fz1 qzjm qzhw qzjp qzjl qzjk List.range_succ qzd5 qze0 qzfg qzco qzdq qzdu qzag qzdw qzd4
attribute [local simp] qzj0
attribute [local simp] wz2c.cells
attribute [local simp] kzhx.cells
attribute [local simp] kzhv.cells
attribute [local simp] kzh0.cells
attribute [local simp] jz50.cells
attribute [local simp] wz2h.cells
attribute [local simp] kzht.cells
attribute [local simp] wz2w.cells
attribute [local simp] wz3g.cells
attribute [local simp] kzhz.cells
attribute [local simp] kzhu.cells
theorem ATr.fzr{E:Nat->AVal}{P:Program}{f:FuncId}{args:List AVal}{s st n:Nat}{F:Nat->List AVal}(H:ATr E P f args h0 (fun v h'=>∃ep,v=.vec s ep 0 n/\h'=hset h0 s (.vec ep st n F))):Pure E P f args (.slc st n F):=by
 intro g w vs hh hv;refine(H g w vs hh hv).mono ?_;rintro e w' ⟨g',h',r,v,⟨ep,rfl,rfl⟩,he,hrv,hH,hst⟩;have hid:hset h0 s (.vec ep st n F) s=.vec ep st n F:=by simp[hset]
 obtain⟨H',st'⟩:=hH.freeze (h':=hset h0 s (.gone (ep+1))) hid rfl (by simp[hset]) (fun j hj=>by simp only[hset,Gd3 hj];exact .inl rfl);exact⟨_,_,_,v,rfl,he,(FV.vec ep st n F 0 n F rfl (by omega) (fun k _=>by rw[Gdk])).rv hH hid hrv,H',hst.trans st'⟩
theorem lend{E:Nat->AVal}{P:Program}{f:FuncId}{st n:Nat}{f':Nat->List AVal}{r:AVal}{id ep lo m:Nat}{F:Nat->List AVal}(H:qzq E P f [.slc st n f'] r)(hE:∀i,qzt (E i))(hf:∀i x,i<n->x∈f' i->qzt x)(hr:∀g g' w w' v,RV g w r v->RV g' w' r v) (h:qzl) (hid:h id=.vec ep st m F) (hlo:lo+n<=m) (hcell:∀k,k<n->f' k=F (lo+k)):ATr E P f [.vec id ep lo n] h (fun v h'=>v=r/\h'=h):=by
 intro g w vs hh hv
 obtain⟨v0,rfl⟩:∃v0,vs=[v0]:=by
  have:=hv.1
  match vs,this with
  |[v0],_=>exact⟨v0,rfl⟩
 have how:(h id).owned=true:=by rw[hid];rfl
 let g0:Gh:=⟨fun _=>0,fun _=>0,fun _=>0,fun _=>0,fun _=>0,fun b=>b=g.blk id\/g.fz b⟩
 have hv0:RV g0 w (.slc st n f') v0:=by have:=(FV.vec ep st m F lo n f' rfl hlo hcell).rv hh hid (hv.2 0 _ _ rfl rfl);exact RV.reghost (g:=frz g id) (gx:=g0) (fun _ h=>h) this (.slc _ _ _ hf)
 have H0:HR E g0 h0 w:=⟨fun _=>trivial,fun _=>rfl,(by intro i j hi;cases hi),(by intro i hi;cases hi),fun b hb=>hb.elim (fun e=>by rw[e];exact(hh.obj id).lt how) (hh.fzb b),fun i=>(hh.glob i).reghost (g:=g) (gx:=g0) (fun _ h=>.inr h) (hE i)⟩;refine(H h0 g0 w [v0] H0 (.cons hv0 (.nil _ _))).mono ?_;rintro e w' ⟨g',h',_,v,⟨rfl,rfl⟩,rfl,hrv,hH,hst⟩
 have hfz:∀b,g'.fz b->b≠g.blk id->g.fz b\/w.heap.size<=b:=fun b hb hne=>by
  rcases hst.fzn b hb with (h1|h1)|⟨j,hj,_⟩|h3
  ·exact absurd h1 hne
  ·exact .inl h1
  ·cases hj
  ·exact .inr h3
 have hkeep:∀b,b<w.heap.size->w'.heap[b]?=w.heap[b]?:=fun b hb=>hst.keep b hb (by intro i hi;cases hi)
 let g2:Gh:=⟨g.blk,g.ep,g.bo,g.st,g.cp,fun b=>g'.fz b/\b≠g.blk id⟩
 have hle:GLe g w g2 w':=⟨fun b hb=>⟨⟨(hst.le.fz b (.inr hb)).1,fun e=>hh.sep id how (e▸hb)⟩,hkeep b (hh.fzb b hb)⟩,fun _=>Gcy _,fun _ _=>⟨rfl,rfl,rfl,rfl⟩⟩;refine⟨g2,h,_,v,⟨rfl,rfl⟩,rfl,hr _ _ _ _ _ hrv,?_,⟨hle,hst.os,hst.tape,hst.output,hst.size,fun b hb _=>hkeep b hb,fun i ho=>.inl ⟨i,ho,rfl⟩,fun b hb=>?_,hst.drawn⟩⟩
 ·refine⟨fun i=>(hh.obj i).mono hle rfl fun ho=>hkeep _ ((hh.obj i).lt ho),hh.ep,hh.inj,fun i hi hz=>?_,fun b hb=>hH.fzb b hb.1,fun i=>(hh.glob i).mono hle⟩;rcases hfz _ hz.1 hz.2 with h1|h1
  ·exact hh.sep i hi h1
  ·have:g.blk i<w.heap.size:=(hh.obj i).lt hi;have e:g2.blk i=g.blk i:=rfl;omega
 ·rcases hfz b hb.1 hb.2 with h1|h1;·exact .inl h1
  ·exact .inr (.inr h1)
theorem kziq{l:List wz3g}:qzt (slcV 5 wz3g.cells l):=qzj fun a z hz=>kzlk hz
theorem kzud(l:List wz2w)(hby:l.length<=2000000):qzq EE Tryd.prog 56 [slcV 2 wz2w.cells l] (slcV 2 wz2w.cells l):=by
 cases l with
 |nil=>rw[qzh];exact kzt2 _
 |cons x l =>
  refine Pure.still ?_ hEE (fun z hz=>by rw[Gcc.1 hz];exact qzj fun a z hz=>kzli hz) (qzj fun a z hz=>kzli hz)
  conv=>rhs;rw[qzh]
  refine .fzr (s:=0) ((kzm8 (x :: l) (x :: l) _ h0 0 ?_ (by trivial) (.inl rfl)).mono fun v h' ⟨ep,h1,_,h3⟩=>⟨ep,h1,h3⟩);have:(decide (0<List.length (x :: l))&&decide (List.length (x :: l)*16<=140737488355328))=true:=by simp at hby ⊢;omega
  unfold jz53;rw[this];rfl
def SrcR(l:List wz3g)(X:AVal)(h:qzl)(s:Nat):Prop:=X=slcV 5 wz3g.cells l\/∃id ep lo m,id≠s/\X=.vec id ep lo (List.length l)/\h id=.vec ep 5 (List.length m) (qzd wz3g.cells m)/\lo+List.length l<=List.length m/\∀k,k<List.length l->qzd wz3g.cells m (lo+k)=qzd wz3g.cells l k
theorem kzmm{l:List wz3g}(h:tbs l=true){k:Nat}{x:wz3g}(e:l[k]?=some x):x.Table.length<=2000000:=Gd7 (Ga0.1 h x (Gb9 e))
set_option maxHeartbeats 1000000 in
theorem kzou(l:List wz3g)(hn:0<l.length)(hl:l.length<=1000000)(ht:tbs l=true)(X:AVal)(h:qzl)(s:Nat)(hp:(h s).plain)(hs:SrcR l X h s) :
  ATr EE Tryd.prog 38 [X] h fun v h'=>∃ep,v=.vec s ep 0 l.length/\h'=hset h s (.vec ep 5 l.length (qzd wz3g.cells l)):=by
 have hF:vzi l=some l:=by
  have:(decide (0<List.length l)&&decide (List.length l*56<=140737488355328))=true:=by simp;omega
  unfold vzi;rw[this];rfl
 obtain⟨c,hb,hc⟩:=ck38;refine ATr.of (fn:=Tryd.f38) rfl hb cr38 (hc s) 23 rfl ?_;refine AW.sr (by simp[wzae,List.replicate];rfl) ?_;refine .seq (.reg ?_);simp[qz7e];refine(kzna l l X h s hF hp hs).mono ?_;rintro v h' ⟨ep,rfl,_,rfl⟩;try simp
 refine .seq (.seq (AW.r1 (by simp[kzo1,hset];rfl) ?_));refine .block (.loop (fun k:Nat=>(⟨[.top,.top,.nils,.vec s ep 0 l.length,.top,.top,.top,.vec s ep 0 l.length,.int .i64 l.length,.int .i64 k]++List.replicate 14 .top,hset h s (.vec ep 5 l.length (qzd wz3g.cells l)),[]⟩:ASt)) (fun k=>l.length-k) (fun k=>k<=l.length) 0 (Gdl _) (.of_sub ⟨?_,fun i=>.refl _,rfl,fun D hD=>by cases hD⟩) ?_)
 ·simp[List.replicate,TSub,VSub]
 intro k hk;refine AW.sr (by simp[kzox,List.replicate];rfl) ?_;refine .seq (AW.if' (decide ((k:Int)<(l.length:Int))) (by simp) (fun e=>AW.skip ?_) (fun e=>.exit ?_))
 ·have hlt:k<l.length:=by have:=Gd7 e;omega
  have hat:l[k]?=some l[k]:=Gbe hlt;have hx:=kzud _ (kzmm ht hat);have hcell:qzd wz3g.cells l k=wz3g.cells l[k]:=qzo hat;rw[qzh]at hx;generalize l[k]=x at *;have hin1:inr .i64 ((k:Int)+1):=by show _/\_;omega
  simp only[qzdb];refine .seq (.block (AW.sr (by simp[kztm];rfl) ?_));refine AW.r1 (by simp[kzs1,hset,hlt,hcell];refine hx.call ?_;(try simp[hset,hlt,hcell]);rfl) ?_;simp only[qzdb,ablk];refine AW.r1 (by simp[kzta];exact⟨hin1,rfl⟩) ?_;simp only[qzdb];refine⟨k+1,by omega,by omega,.of_sub ⟨?_,fun i=>?_,rfl,fun D hD=>by cases hD⟩⟩
  ·simp[List.replicate,TSub,VSub]
  ·simp only[hset];by_cases hi:i=s
   ·subst hi;refine .inr (.inr ⟨_,_,_,_,_,by simp;exact⟨rfl,rfl,rfl,rfl⟩,by simp;rfl,fun j hj=>?_⟩);by_cases hjk:j=k
    ·subst hjk;simp[hcell]
    ·simp[hjk]
   ·exact .of_eq (by simp[hi])
 ·simp only[qzdb,ablk,Gd5];refine AW.sr (by simp[kzo5];rfl) ?_;refine .ret (.here (by simp[rs38]) rfl ⟨ep,by simp[rs38],rfl⟩)
theorem kzt5(l:List wz3g)(hl:l.length<=1000000)(ht:tbs l=true):qzq EE Tryd.prog 38 [slcV 5 wz3g.cells l] (slcV 5 wz3g.cells l):=by
 refine Pure.still ?_ hEE (fun z hz=>by rw[Gcc.1 hz];exact kziq) kziq;cases l with
 |cons x l =>
  conv=>rhs;rw[qzh]
  exact .fzr (s:=0) (kzou (x :: l) (Nat.succ_pos _) hl ht _ h0 0 trivial (.inl rfl))
 |nil =>rw[qzh];have hx:=kztt (qzd wz3g.cells []);obtain⟨c,hb,hc⟩:=ck38;refine Pure.of (fn:=Tryd.f38) rfl hb cr38 (hc 0) 23 rfl ?_;refine AW.sr (by simp[wzae,List.replicate];rfl) ?_;refine AW.sr (by simp[qz7e];refine hx.call ?_;(try simp);rfl) ?_;refine .seq (.seq (AW.r1 (by simp[kzo1];rfl) ?_));refine .block (.loop (fun k:Unit=>(⟨_,_,[]⟩:ASt)) (fun _=>0) (fun _=>True) () trivial (.refl _) ?_);rintro⟨⟩ _;refine AW.sr (by simp[kzox];rfl) ?_;refine .seq (AW.if' false (by simp) (fun e=>by cases e) (fun e=>.exit ?_));simp only[qzdb,ablk,Gd5];refine AW.sr (by simp[kzo5];rfl) ?_;exact .retp rfl (by simp[rs38]) (by simp[rs38])
end Go.Am

