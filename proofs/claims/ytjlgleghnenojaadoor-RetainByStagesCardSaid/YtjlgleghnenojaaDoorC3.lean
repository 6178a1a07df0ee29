/- Part C3: contracts of some functions of this seat. No condition. -/
import Derived.Test.YtjlgleghnenojaaDoorC1
set_option linter.unusedSimpArgs false
set_option linter.unusedVariables false
set_option maxRecDepth 100000
namespace Go.Am
open Go.Proofs
attribute [local simp] areg aop dreg dop AOp.req argv argU AOp.args wze AOp.unAll Req.val Req.when putT putH qzdb ablk qzfc qzbd qzg6 vzl qzcj qzif qzid qzh7 qzh1 qzhy qzko qzhz qzji qzim qzgg qznh qzj2 qzkg qzjx IntKind.bits vz1 ARes.ok ARes.val vz5 cut AOp.quiet
attribute [local simp] qzc0 qzbz qzcz qze2 qzer qzep kzp qz1 qzh2 qzij
attribute [local simp] qzm6 qzj7 qzhq qzih qzm4 look qz8 zipA wm wh
attribute [local simp] qzm7 qzpn qzpz qzmg qzpx qzmf qzpo qzqa qzpi qzqk qzpm w_fn qznc qzjs qzjh qzhs qzj1 qzmh qzmi AObj.ep AObj.plain AObj.owned
attribute [local simp] wz9 qzbw qzeu qzdp qzey qzd2 qze5 qzfk qze7 qzdi qzdk qzd0 qzgy qzcq qzg5 qzc6 qzfa vz6 lay jzv ldv wzu qz5 kz1 qz9 qzgh wzd AVal.kind
attribute [local simp] AVal.one_int AVal.one_bool AVal.one_str AVal.one_nils AVal.one_slc AVal.one_vec AVal.one_ptr AVal.one_eptr AVal.one_cptr AVal.one_nilp AVal.one_fn AVal.one_nilfn AVal.one_mp AVal.one_nilmp
attribute [local simp] qzkh qzkv qzh8 qzh4 qzkt qzjr qzii qzik qzjn qzkm qzjf qzjw qzkl qzje qzh6 qzhx qzin qzig qzh5 qzio qzm9 qzna qzgf qzgr qzmt qzmr qzgn qzgz qzj6 qzj9 qzjv qzka qzju qzki qzkr qzku
attribute [local simp] qzh cI cB cS cL qzc3 qzdh qzdz qzb7 qzg1 qzh0 qzgc qziq fzm fzh fzv fzl fz1 qzjm qzhw qzjp qzjl qzjk List.range_succ qzd5 qze0 qzfg qzco qzdq qzdu qzag qzdw qzd4
attribute [local simp] qzj0
attribute [local simp] wz2c.cells
attribute [local simp] kzhx.cells
attribute [local simp] kzhv.cells
attribute [local simp] kzh0.cells
attribute [local simp] jz50.cells
attribute [local simp] wz2h.cells
attribute [local simp] kzht.cells
attribute [local simp] wz2w.cells
attribute [local simp] wz3g.cells
attribute [local simp] kzhz.cells
attribute [local simp] kzhu.cells
def v55:Cc:=⟨55,.us 8,[],[],fun l _=>vzi l⟩
theorem kzna(l r:List wz3g)(X:AVal)(h:qzl)(s:Nat)(hF:vzi l=some r)(hp:(h s).plain)(hs:X=slcV 5 wz3g.cells l\/∃id ep lo m,id≠s/\X=.vec id ep lo (List.length l)/\h id=.vec ep 5 (List.length m) (qzd wz3g.cells m)/\lo+List.length l<=List.length m/\∀k,k<List.length l->qzd wz3g.cells m (lo+k)=qzd wz3g.cells l k) :
  ATr EE Tryd.prog 55 [X] h fun v h'=>∃ep,v=.vec s ep 0 (List.length r)/\0<List.length r/\h'=hset h s (.vec ep 5 (List.length r) (qzd wz3g.cells r)):=by
 have hh:r=l/\0<List.length l/\List.length l*56<=140737488355328:=by
  unfold vzi at hF;cases hx:(decide (0<List.length l)&&decide (List.length l*56<=140737488355328))
  ·rw[hx]at hF;cases hF
  ·rw[hx]at hF;simp only[Gai,Gdz]at hx;cases hF;exact⟨rfl,hx⟩
 obtain⟨rfl,hn,hby⟩:=hh;obtain⟨c,hb,hc⟩:=ck55;refine ATr.sub (R:=fun v h'=>∃ep f',v=.vec s ep 0 (List.length r)/\h'=hset h s (.vec ep 5 (List.length r) f')/\∀k,k<List.length r->f' k=qzd wz3g.cells r k) ?_ ?_;rotate_left
 ·rintro v h' ⟨ep,f',rfl,rfl,hf⟩;refine⟨_,⟨ep,rfl,hn,rfl⟩,fun i=>?_⟩;simp only[hset];split
  ·exact .inr (.inr ⟨_,_,_,_,_,rfl,rfl,fun k hk=>(hf k hk).symm⟩)
  ·exact .refl _
 refine ATr.of (fn:=Tryd.f55) rfl hb cr55 (hc s) 7 rfl ?_;refine AW.sr (by simp[wzac,List.replicate];rfl) ?_;rcases hs with rfl|⟨id,ep,lo,m,hne,rfl,hid,hlo,hf⟩
 ·rw[qzh];refine .seq ?_;refine AW.sr (by simp[wzbd,hn];rfl) ?_;refine AW.if' false (by simp) (fun e=>by cases e) (fun _=>AW.skip ?_);refine AW.sr (by simp[qz57,-AObj.plain,-AObj.ep,hset,hp,qz5,jzv,vz6,kz1,wzu,hby];first|rfl|exact⟨rfl,rfl⟩|exact⟨hp,rfl,rfl⟩) ?_;refine .ret (Post.here (by simp[rs55]) rfl ⟨(h s).ep+2,qzd wz3g.cells r,by simp[rs55],?_,fun k hk=>rfl⟩);funext j;simp only[hset];by_cases hj:j=s<;>simp[hj]
 ·refine .seq ?_;refine AW.sr (by simp[wzbd,hid];rfl) ?_;refine AW.if' false (by simp) (fun e=>by cases e) (fun _=>AW.skip ?_);refine AW.sr (by simp[qz57,-AObj.plain,-AObj.ep,hset,hp,qz5,jzv,vz6,kz1,wzu,hby,hid,hne,hlo];first|rfl|exact⟨rfl,rfl⟩|exact⟨hp,rfl,rfl⟩) ?_;refine .ret (Post.here (by simp[rs55]) rfl ⟨(h s).ep+2,fun k=>qzd wz3g.cells m (lo+k),by simp[rs55],?_,hf⟩);funext j;simp only[hset];by_cases hj:j=s<;>simp[hj]
theorem kzu2:CcOk v55:=⟨by kernel_rfl,fun l x r X h s a b c=>kzna l r X h s a b c⟩
def v56:Cc:=⟨56,.us 7,[],[],fun l _=>jz53 l⟩
theorem kzm8(l r:List wz2w)(X:AVal)(h:qzl)(s:Nat)(hF:jz53 l=some r)(hp:(h s).plain)(hs:X=slcV 2 wz2w.cells l\/∃id ep lo m,id≠s/\X=.vec id ep lo (List.length l)/\h id=.vec ep 2 (List.length m) (qzd wz2w.cells m)/\lo+List.length l<=List.length m/\∀k,k<List.length l->qzd wz2w.cells m (lo+k)=qzd wz2w.cells l k) :
  ATr EE Tryd.prog 56 [X] h fun v h'=>∃ep,v=.vec s ep 0 (List.length r)/\0<List.length r/\h'=hset h s (.vec ep 2 (List.length r) (qzd wz2w.cells r)):=by
 have hh:r=l/\0<List.length l/\List.length l*16<=140737488355328:=by
  unfold jz53 at hF;cases hx:(decide (0<List.length l)&&decide (List.length l*16<=140737488355328))
  ·rw[hx]at hF;cases hF
  ·rw[hx]at hF;simp only[Gai,Gdz]at hx;cases hF;exact⟨rfl,hx⟩
 obtain⟨rfl,hn,hby⟩:=hh;obtain⟨c,hb,hc⟩:=ck56;refine ATr.sub (R:=fun v h'=>∃ep f',v=.vec s ep 0 (List.length r)/\h'=hset h s (.vec ep 2 (List.length r) f')/\∀k,k<List.length r->f' k=qzd wz2w.cells r k) ?_ ?_;rotate_left
 ·rintro v h' ⟨ep,f',rfl,rfl,hf⟩;refine⟨_,⟨ep,rfl,hn,rfl⟩,fun i=>?_⟩;simp only[hset];split
  ·exact .inr (.inr ⟨_,_,_,_,_,rfl,rfl,fun k hk=>(hf k hk).symm⟩)
  ·exact .refl _
 refine ATr.of (fn:=Tryd.f56) rfl hb cr56 (hc s) 7 rfl ?_;refine AW.sr (by simp[jzft,List.replicate];rfl) ?_;rcases hs with rfl|⟨id,ep,lo,m,hne,rfl,hid,hlo,hf⟩
 ·rw[qzh];refine .seq ?_;refine AW.sr (by simp[jze4,hn];rfl) ?_;refine AW.if' false (by simp) (fun e=>by cases e) (fun _=>AW.skip ?_);refine AW.sr (by simp[jzcj,-AObj.plain,-AObj.ep,hset,hp,qz5,jzv,vz6,kz1,wzu,hby];first|rfl|exact⟨rfl,rfl⟩|exact⟨hp,rfl,rfl⟩) ?_;refine .ret (Post.here (by simp[rs56]) rfl ⟨(h s).ep+2,qzd wz2w.cells r,by simp[rs56],?_,fun k hk=>rfl⟩);funext j;simp only[hset];by_cases hj:j=s<;>simp[hj]
 ·refine .seq ?_;refine AW.sr (by simp[jze4,hid];rfl) ?_;refine AW.if' false (by simp) (fun e=>by cases e) (fun _=>AW.skip ?_);refine AW.sr (by simp[jzcj,-AObj.plain,-AObj.ep,hset,hp,qz5,jzv,vz6,kz1,wzu,hby,hid,hne,hlo];first|rfl|exact⟨rfl,rfl⟩|exact⟨hp,rfl,rfl⟩) ?_;refine .ret (Post.here (by simp[rs56]) rfl ⟨(h s).ep+2,fun k=>qzd wz2w.cells m (lo+k),by simp[rs56],?_,hf⟩);funext j;simp only[hset];by_cases hj:j=s<;>simp[hj]
theorem kzv0:CcOk v56:=⟨by kernel_rfl,fun l x r X h s a b c=>kzm8 l r X h s a b c⟩
end Go.Am

