/- Part C1 of the proof that the last part closes: contracts of some functions of this seat. No condition. -/
import Derived.Test.YtomegmhiddbmbaaGreatDoorG1
import Derived.Test.YtomegmhiddbmbaaGreatDoorX1
import Derived.Test.YtomegmhiddbmbaaGreatDoorH1
set_option linter.unusedSimpArgs false
set_option linter.unusedVariables false
set_option maxRecDepth 100000
namespace Go.Am
open Go.Proofs
attribute [local simp] areg aop dreg dop AOp.req argv argU AOp.args wze AOp.unAll Req.val Req.when putT putH qzdb ablk qzfc qzbd qzg6 vzl qzcj qzif qzid qzh7 qzh1 qzhy qzko qzhz qzji qzim qzgg qznh qzj2 qzkg qzjx IntKind.bits vz1 ARes.ok ARes.val vz5 cut AOp.quiet
attribute [local simp] qzc0 qzbz qzcz qze2 qzer qzep kzp qz1 qzh2 qzij
attribute [local simp] qzm6 qzj7 qzhq qzih qzm4 look qz8 zipA wm wh
attribute [local simp] qzm7 qzpn qzpz qzmg qzpx qzmf qzpo qzqa qzpi qzqk qzpm w_fn qznc qzjs qzjh qzhs qzj1 qzmh qzmi AObj.ep AObj.plain AObj.owned
attribute [local simp] wz9 qzbw qzeu qzdp qzey qzd2 qze5 qzfk qze7 qzdi qzdk qzd0 qzgy qzcq qzg5 qzc6 qzfa vz6 lay jzv ldv wzu qz5 kz1 qz9 qzgh wzd AVal.kind
attribute [local simp] AVal.one_int AVal.one_bool AVal.one_str AVal.one_nils AVal.one_slc AVal.one_vec AVal.one_ptr AVal.one_eptr AVal.one_cptr AVal.one_nilp AVal.one_fn AVal.one_nilfn AVal.one_mp AVal.one_nilmp
attribute [local simp] qzkh qzkv qzh8 qzh4 qzkt qzjr qzii qzik qzjn qzkm qzjf qzjw qzkl qzje qzh6 qzhx qzin qzig qzh5 qzio qzm9 qzna qzgf qzgr qzmt qzmr qzgn qzgz qzj6 qzj9 qzjv qzka qzju qzki qzkr qzku
attribute [local simp] qzh cI cB cS cL qzc3 qzdh qzdz qzb7 qzg1 qzh0 qzgc qziq fzm fzh fzv fzl fz1 qzjm qzhw qzjp qzjl qzjk List.range_succ qzd5 qze0 qzfg qzco qzdq qzdu qzag qzdw qzd4
attribute [local simp] qzj0
attribute [local simp] wz2c.cells
attribute [local simp] qza.cells
attribute [local simp] wz2g.cells
attribute [local simp] wz2d.cells
attribute [local simp] wz2b.cells
attribute [local simp] wz2p.cells
attribute [local simp] wz2v.cells
attribute [local simp] wz2e.cells
attribute [local simp] wz2h.cells
attribute [local simp] qzf.cells
attribute [local simp] wz22.cells
attribute [local simp] wz2w.cells
attribute [local simp] wz3g.cells
attribute [local simp] jzi.cells
attribute [local simp] vzs.cells
attribute [local simp] vzu.cells
attribute [local simp] wz2f.cells
attribute [local simp] wz2m.cells
attribute [local simp] wz2l.cells
attribute [local simp] wz2j.cells
attribute [local simp] wz2i.cells
attribute [local simp] wz2q.cells
attribute [local simp] wz2o.cells
def v161:Cc:=⟨161,.int .u32,[],[],fun l _=>vzi l⟩
def w162:Wc:=⟨162,.int .u8,[],[],fun l _=>yzz l⟩
theorem hEE:∀i,qzt (EE i):=fun _=>.top
theorem jzhc(l r:List Int)(X:AVal)(h:qzl)(s:Nat)(hF:vzi l=some r)(hp:(h s).plain)
  (hs:X=slcV 1 (cI .u32) l∨∃id ep lo m,id≠s∧X=.vec id ep lo (List.length l)∧h id=.vec ep 1 (List.length m) (qzd (cI .u32) m)∧lo+List.length l≤List.length m∧∀k,k<List.length l→qzd (cI .u32) m (lo+k)=qzd (cI .u32) l k) :
  ATr EE Tryz.prog 161 [X] h fun v h'=>∃ep,v=.vec s ep 0 (List.length r)∧0<List.length r∧h'=hset h s (.vec ep 1 (List.length r) (qzd (cI .u32) r)):=by
 have hh:r=l∧0<List.length l∧List.length l*4≤140737488355328:=by
  unfold vzi at hF
  cases hx:(decide (0<List.length l)&&decide (List.length l*4≤140737488355328))
  ·rw[hx]at hF;cases hF
  ·rw[hx]at hF;simp only[Bool.and_eq_true,decide_eq_true_eq]at hx;cases hF;exact⟨rfl,hx⟩
 obtain⟨rfl,hn,hby⟩:=hh
 obtain⟨c,hb,hc⟩:=jzkr
 refine ATr.sub (R:=fun v h'=>∃ep f',v=.vec s ep 0 (List.length r)∧h'=hset h s (.vec ep 1 (List.length r) f')∧∀k,k<List.length r→f' k=qzd (cI .u32) r k) ?_ ?_
 rotate_left
 ·rintro v h' ⟨ep,f',rfl,rfl,hf⟩
  refine⟨_,⟨ep,rfl,hn,rfl⟩,fun i=>?_⟩
  simp only[hset]
  split
  ·exact .inr (.inr ⟨_,_,_,_,_,rfl,rfl,fun k hk=>(hf k hk).symm⟩)
  ·exact .refl _
 refine ATr.of (fn:=Tryz.f161) rfl hb jzjz (hc s) 7 rfl ?_
 refine AW.sr (by simp[jzdz,List.replicate];rfl) ?_
 rcases hs with rfl|⟨id,ep,lo,m,hne,rfl,hid,hlo,hf⟩
 ·rw[qzh]
  refine .seq ?_
  refine AW.sr (by simp[jzav,hn];rfl) ?_
  refine AW.if' false (by simp) (fun e=>by cases e) (fun _=>AW.skip ?_)
  refine AW.sr (by simp[jzap,-AObj.plain,-AObj.ep,hset,hp,qz5,jzv,vz6,kz1,wzu,hby];first|rfl|exact⟨rfl,rfl⟩|exact⟨hp,rfl,rfl⟩) ?_
  refine .ret (Post.here (by simp[wz85]) rfl ⟨(h s).ep+2,qzd (cI .u32) r,by simp[wz85],?_,fun k hk=>rfl⟩)
  funext j
  simp only[hset]
  by_cases hj:j=s<;>simp[hj]
 ·refine .seq ?_
  refine AW.sr (by simp[jzav,hid];rfl) ?_
  refine AW.if' false (by simp) (fun e=>by cases e) (fun _=>AW.skip ?_)
  refine AW.sr (by simp[jzap,-AObj.plain,-AObj.ep,hset,hp,qz5,jzv,vz6,kz1,wzu,hby,hid,hne,hlo];first|rfl|exact⟨rfl,rfl⟩|exact⟨hp,rfl,rfl⟩) ?_
  refine .ret (Post.here (by simp[wz85]) rfl ⟨(h s).ep+2,fun k=>qzd (cI .u32) m (lo+k),by simp[wz85],?_,hf⟩)
  funext j
  simp only[hset]
  by_cases hj:j=s<;>simp[hj]
theorem jzhn:CcOk v161:=⟨by kernel_rfl,fun l x r X h s a b c=>jzhc l r X h s a b c⟩
theorem jzjd(l r:List Int)(h:qzl)(id ep:Nat)(hF:yzz l=some r)(hid:h id=ownO ep 1 (cI .u8) l) :
  ATr EE Tryz.prog 162 [ownV id ep l] h fun v h'=>v=.tup []∧h'=hset h id (ownO ep 1 (cI .u8) r)∧List.length r=List.length l:=by
 unfold yzz at hF
 cases hx:decide (List.length l≤4611686018427387904)
 ·rw[hx]at hF;cases hF
 rw[hx]at hF
 obtain rfl:r=l.reverse:=(Option.some.inj hF).symm
 simp only[decide_eq_true_eq]at hx
 have main:=wzcu (E:=EE) Tryz.laysE35 (fun n=>.int .u8 n) (Value.int .u8) (fun _=>rfl) (fun g w x v hv=>by cases hv;rfl) (fun g w x=>.int _ _) (H:=h) (id:=id) (ep:=ep) (l:=l) hid (by omega)
 exact main.mono fun v h' ⟨a,b⟩=>⟨a,b,by simp⟩
theorem jzg0:WcOk w162:=⟨by kernel_rfl,fun l x r h id ep a b=>jzjd l r h id ep a b⟩
theorem jzaj:kzz Tryz.prog 116=true:=by kernel_rfl
set_option maxHeartbeats 4000000 in
theorem wzd4(hby:∀x y r,kzf x y=some r→qzq EE Tryz.prog 117 [slcV 1 (cI .u32) x,slcV 1 (cI .u32) y] (.tup [slcV 1 (cI .u32) r.1,slcV 1 (cI .u32) r.2])):∀(n:Nat) (x y r:List Int),lpN wzp n (x,y)=some r→∀h:qzl,h 0=.box 1 [.fn 116 0 [.ptr 0 1 0]] →
  ATr EE Tryz.prog 116 [slcV 1 (cI .u32) x,slcV 1 (cI .u32) y,.ptr 0 1 0] h (fun v h'=>v=slcV 1 (cI .u32) r∧h'=h):=by
 intro n
 induction n with
 |zero=>intro x y r hr;cases hr
 |succ n ih =>
  intro x y r hr h h0
  rw[lpN]at hr
  obtain⟨c,hbd,hc⟩:=wzf8
  refine ATr.of (fn:=Tryz.f116) rfl hbd wzfv (hc 0) 19 rfl ?_
  refine .seq (.reg ?_)
  simp[qzz0]
  refine .seq (.seq (.reg ?_))
  simp[qzsp]
  refine .cond (t:=decide ((List.length y:Int)=0)) (by simp) (fun e=>?_) (fun e=>?_)
  ·have e':(wzp (x,y))=some (.inr x):=by simp only[wzp,e,ite']
   rw[e']at hr
   cases hr
   refine .seq (.reg ?_)
   simp[wzfp]
   refine .ret ?_
   simp only[qzdb,ablk]
   refine .here ?_ rfl ⟨?_,?_⟩
   ·simp[qzpj]
   ·simp[qzpj]
   ·simp
  ·have e':(wzp (x,y))=bd (kzf x y) fun r=>some (.inl (y,r.2)):=by simp only[wzp,e,ite']
   rw[e']at hr
   cases hq:kzf x y with
   |none=>rw[hq]at hr;cases hr
   |some q =>
   rw[hq]at hr
   have hr:lpN wzp n (y,q.2)=some r:=hr
   refine .skip ?_
   refine .seq (.reg ?_)
   simp[qzso]
   refine(hby x y q hq).ca (by simp) ?_
   simp
   refine .seq (.reg ?_)
   simp[jzdy,h0]
   refine⟨jzaj,?_⟩
   try simp[fnArgs]
   refine((ih y q.2 r hr h h0).w (by simp)).mono ?_
   rintro v h' ⟨rfl,rfl⟩
   refine .ret ?_
   try simp only[qzdb,ablk]
   refine .here ?_ rfl ⟨?_,?_⟩
   ·simp[qzpj]
   ·simp[qzpj]
   ·simp
set_option maxHeartbeats 4000000 in
theorem qzm1(hby:∀x y r,kzf x y=some r→qzq EE Tryz.prog 117 [slcV 1 (cI .u32) x,slcV 1 (cI .u32) y] (.tup [slcV 1 (cI .u32) r.1,slcV 1 (cI .u32) r.2]))(hld:∀x r,wzn x=some r→qzq EE Tryz.prog 118 [.str x] (slcV 1 (cI .u32) r))(htx:∀x r,qz7 x=some r→qzq EE Tryz.prog 119 [slcV 1 (cI .u32) x] (.str r))(a0:List UInt8)(b1:List UInt8)  (r:List UInt8)(h:qzeo a0 b1=some r):qzq EE Tryz.prog 89 [.str a0,.str b1] (.str r):=by
 refine Pure.still ?_ hEE (by simp) (by simp)
 obtain⟨c,hb,hc⟩:=ck89
 replace h:=Ok.of h;unfold qzeo at h
 obtain⟨x,hx,h⟩:=h.ex
 obtain⟨y,hy,h⟩:=h.ex
 obtain⟨q,hq,h⟩:=h.ex
 have ht:qz7 q=some r:=by
  cases hx:qz7 q with
  |none=>rw[hx]at h;exact h.no
  |some v=>rw[hx]at h;exact congrArg some h.some
 rw[qztg]at hq
 refine Pure.ofs (fn:=Tryz.f89) (n:=14) rfl hb cr89 (hc 0) rfl rfl (by simp) ?_
 refine AW.rS [(0,.str a0),(1,.str b1)] [] ?_ ?_
 ·simp[jzfo]
  exact .mk (by simp) (by simp) rfl
 refine AW.rS [(0,.str a0),(1,.str b1),(5,.ptr 0 1 0)] [(0,.box 1 [.nilfn])] ?_ ?_
 ·simp[jzfu]
  exact .mk (by simp) (by simp) rfl
 refine AW.rS [(0,.str a0),(1,.str b1),(5,.ptr 0 1 0)] [(0,.box 1 [.fn 116 0 [.ptr 0 1 0]])] ?_ ?_
 ·simp[jzfp]
  exact .mk (by simp) (by simp) rfl
 refine AW.dS [(4,.str r)] [(0,.gone 1)] ?_ ?_
 ·simp[jzfb]
  refine(hld a0 x hx).cd (by simp) ?_
  (try simp)
  refine(hld b1 y hy).cd (by simp) ?_
  (try simp)
  refine⟨jzaj,?_⟩
  simp[fnArgs]
  refine⟨slcV 1 (cI .u32) q,[0],fun h' e=>((wzd4 hby _ x y q hq h' ?_).w (by simp)).mono ?_,?_⟩
  ·rw[e 0 (by simp)];simp[hl,qz8]
  ·rintro v h' ⟨rfl,rfl⟩;exact⟨rfl,rfl⟩
  simp
  refine(htx q r ht).cd (by simp) ?_
  (try simp)
  (repeat' apply And.intro)<;>first|kernel_rfl|exact .mk (by simp) (by simp) rfl
 exact AW.rt (rs:=rs89) [(4,.str r)] [(0,.gone 1)] (by simp) (by simp) rfl rfl (by simp[rs89]) (by simp[rs89])
attribute [local simp] hset fzv fzl fzl fz1
theorem ATr.opaqueF{E:Nat→AVal}{P:Program}{f:FuncId}{args:List AVal}{r:AVal}{id:Nat}(hE:∀i,qzt (E i))(ha:∀x,x∈args→wz2n [id] x)(hr:wz2n [id] r)
  (H:∀e,ATr E P f args (fun i=>if i=id then .gone e else .gone 0) (fun v h'=>v=r∧(h' id).ep=e)):qzq E P f args r:=by
 intro h g w vs hh hv
 let hs:qzl:=fun i=>if i=id then .gone (h id).ep else .gone 0
 let g0:Gh:=⟨fun i=>if i∈[id] then g.blk i else 0,fun i=>if i∈[id] then g.ep i else 0,fun i=>if i∈[id] then g.bo i else 0,fun i=>if i∈[id] then g.st i else 0,fun i=>if i∈[id] then g.cp i else 0,g.fz⟩
 have hA:GAg [id] g g0:=⟨fun _ h=>h,fun i hi=>⟨if_pos hi,if_pos hi,if_pos hi,if_pos hi,if_pos hi⟩⟩
 have no:∀i,(hs i).owned=true→False:=fun i hi=>by
  have:(hs i).owned=false:=by show(if i=id then AObj.gone _ else AObj.gone 0).owned=false;split<;>rfl
  rw[this]at hi;cases hi
 have H0:HR E g0 hs w:=by
  refine⟨fun i=>?_,fun i=>?_,fun i j hi hj e=>(no i hi).elim,fun i hi=>(no i hi).elim,hh.fzb,fun i=>(hh.glob i).ag hA (hE i).refs⟩
  ·show OR g0 w i (if i=id then .gone _ else .gone 0);split<;>trivial
  ·by_cases e:i=id
   ·subst e
    show(if i∈[i] then g.ep i else 0)=(if i=i then AObj.gone (h i).ep else .gone 0).ep
    rw[if_pos (by simp),if_pos rfl,hh.ep i];rfl
   ·show(if i∈[id] then g.ep i else 0)=(if i=id then AObj.gone (h id).ep else .gone 0).ep
    rw[if_neg (by simpa using e),if_neg e];rfl
 refine(H _ g0 w vs H0 (hv.ag hA ha)).mono ?_
 rintro e w' ⟨g',h',_,v,⟨rfl,hF⟩,rfl,hrv,hH,st⟩
 have hblk':∀i,i∈[id]→g'.blk i=g.blk i∧g'.ep i=g.ep i∧g'.bo i=g.bo i∧g'.st i=g.st i∧g'.cp i=g.cp i:=fun i hi=>by
  have hi':i=id:=by simpa using hi
  have e1:g'.ep i=g0.ep i:=by
   rw[hH.ep i,hi',hF]
   show(h id).ep=(if id∈[id] then g.ep id else 0)
   rw[if_pos (by simp),hh.ep id]
  obtain⟨a,b,c,d⟩:=st.le.same i e1
  obtain⟨a',b',c',d',e'⟩:=hA.pl i hi
  exact⟨a.trans a',e1.trans b',b.trans c',c.trans d',d.trans e'⟩
 have hkeep:∀b,b<w.heap.size→w'.heap[b]?=w.heap[b]?:=fun b hb=>st.keep b hb fun i hi e=>(no i hi).elim
 let g2:Gh:=⟨g.blk,g.ep,g.bo,g.st,g.cp,g'.fz⟩
 have hA2:GAg [id] g' g2:=⟨fun _ h=>h,fun i hi=>by obtain⟨a,b,c,d,e⟩:=hblk' i hi;exact⟨a.symm,b.symm,c.symm,d.symm,e.symm⟩⟩
 have hle:GLe g w g2 w':=⟨fun b hb=>st.le.fz b hb,fun _=>Nat.le_refl _,fun _ _=>⟨rfl,rfl,rfl,rfl⟩⟩
 refine⟨g2,h,_,v,⟨rfl,rfl⟩,rfl,hrv.ag hA2 hr,?_,⟨hle,st.os,st.tape,st.output,st.size,fun b hb hn=>hkeep b hb,fun i ho=>.inl ⟨i,ho,rfl⟩,fun b hb=>?_,st.drawn⟩⟩
 ·refine⟨fun i=>(hh.obj i).mono hle rfl fun ho=>hkeep _ ((hh.obj i).lt ho),hh.ep,hh.inj,fun i hi hf=>?_,hH.fzb,fun i=>(hh.glob i).mono hle⟩
  have hf':g'.fz (g.blk i):=hf
  rcases st.fzn _ hf' with h1|⟨j,hj,ej⟩|h3
  ·exact hh.sep i hi h1
  ·exact no j hj
  ·have:g.blk i<w.heap.size:=(hh.obj i).lt hi
   omega
 ·rcases st.fzn b hb with h1|⟨j,hj,ej⟩|h3
  ·exact .inl h1
  ·exact(no j hj).elim
  ·exact .inr (.inr h3)
theorem jzh7(id ep:Nat):qzq EE Tryz.prog 57 [.mp id ep] (.fn 86 0 [keyC id ep]):=by
 refine ATr.opaqueF (id:=id) hEE (fun x hx=>by simp at hx;subst hx;exact .mp _ _ (by simp)) ?_ fun e=>?_
 ·refine .fn _ _ _ fun x hx=>?_
  simp at hx;subst hx
  refine .cptr _ _ _ fun j hj=>?_
  obtain rfl:j=0:=by omega
  exact .mp _ _ (by simp)
 obtain⟨c,hb,hc⟩:=ck57
 refine ATr.of (fn:=Tryz.f57) rfl hb cr57 (hc (id+1)) 3 rfl ?_
 refine AW.sr (by simp[jzfk,List.replicate];rfl) ?_
 refine .fz (id+1) (by simp) (by simp) ?_
 refine AW.sr (by simp[jze9];rfl) ?_
 refine .ret (Post.here (by simp[rs57]) rfl ⟨?_,?_⟩)
 ·simp[rs57,keyC]
 ·simp
noncomputable def xm57:Mk:=⟨57,86,by kernel_rfl,jzh7⟩
theorem jzeg(x:AVal):VSub x .top:=.inl rfl
theorem jzej{k k':IntKind}{a b:Int}:VSub (.int k a) (.int k' b)↔k'=k∧b=a:=by
 constructor
 ·rintro(h|h|⟨_,_,_,_,h,_⟩)
  ·cases h
  ·injection h with h1 h2;exact⟨h1,h2⟩
  ·cases h
 ·rintro⟨rfl,rfl⟩;exact .refl _
theorem OSub.of_eq{o o':AObj}(h:o'=o):OSub o o':=.inr (.inl h)
theorem wz6f(a:qza):vz6 (qza.cells a)=true:=rfl
theorem wz5i(a:qza):(qza.cells a).length=3:=rfl
theorem Post.norm{E:Nat→AVal}{rs:List ARes}{R:AVal→qzl→Prop}{S:ASt}(h:Post E rs R .ret S):Post E rs R .normal S:=h
theorem wz8c(a:qza):List.take 3 (qza.cells a)=qza.cells a:=rfl
end Go.Am

