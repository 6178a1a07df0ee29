/- Part C3: contracts of some functions of this seat. No condition. -/
import Derived.Test.YtbidhbeoimpjbaaGreatDoorC1
set_option linter.unusedSimpArgs false
set_option linter.unusedVariables false
set_option maxRecDepth 8000
namespace Go.Am
open Go.Proofs
attribute [local simp] areg aop dreg dop Ak.req Ag argU Ak.args BL Ak.unAll Req.val Req.when putT putH Bc ablk CA Cf BG unc unv Cm EK ARes.ok F5 ARes.val cut inr Ak.quiet
attribute [local simp] Gq Gr Gs Hl Gn Gp LR PS
attribute [local simp] QH VSub.refl TSub QI
attribute [local simp] Ai.plain Ai.owned Ai.ep hset h0 C0 Cs Cn AZ Aa.one lay Cr ldv fzv fzl fz1
def v65:Cc:=⟨65,.us 1,[],[],fun l _=>Ho l⟩
theorem jz9o(l r:List AF)(X:Aa)(h:Ay)(s:Nat)(hF:Ho l=some r)(hp:(h s).plain)(hs:X=slcV 4 AF.cells l\/∃id ep lo m,id≠s/\X=.vec id ep lo (List.length l)/\h id=.vec ep 4 (List.length m) (Az AF.cells m)/\lo+List.length l<=List.length m/\∀k,k<List.length l->Az AF.cells m (lo+k)=Az AF.cells l k) :
  ATr EE Tryz.prog 65 [X] h fun v h'=>∃ep,v=.vec s ep 0 (List.length r)/\0<List.length r/\h'=hset h s (.vec ep 4 (List.length r) (Az AF.cells r)):=by
 have hh:r=l/\0<List.length l/\List.length l*48<=140737488355328:=by
  unfold Ho at hF;cases hx:(decide (0<List.length l)&&decide (List.length l*48<=140737488355328))
  ·rw[hx]at hF;cases hF
  ·rw[hx]at hF;simp only[AE,BE]at hx;cases hF;exact⟨rfl,hx⟩
 obtain⟨rfl,hn,dX⟩:=hh;obtain⟨c,hb,hc⟩:=ck65;refine ATr.sub (R:=fun v h'=>∃ep f',v=.vec s ep 0 (List.length r)/\h'=hset h s (.vec ep 4 (List.length r) f')/\∀k,k<List.length r->f' k=Az AF.cells r k) ?_ ?_;rotate_left
 ·rintro v h' ⟨ep,f',rfl,rfl,hf⟩;refine⟨_,⟨ep,rfl,hn,rfl⟩,fun i=>?_⟩;simp only[hset];split
  ·exact .inr (.inr ⟨_,_,_,_,_,rfl,rfl,fun k hk=>(hf k hk).symm⟩)
  ·exact .refl _
 refine ATr.of (fn:=Tryz.f65) rfl hb cr65 (hc s) 7 rfl ?_;refine AW.sr (by simp[W0,List.replicate];rfl) ?_;rcases hs with rfl|⟨id,ep,lo,m,aH,rfl,hid,bW,hf⟩
 ·rw[Ib];refine .seq ?_;refine AW.sr (by simp[QL,hn];rfl) ?_;refine AW.if' false (by simp) (fun e=>by cases e) (fun _=>AW.skip ?_);refine AW.sr (by simp[QM,-Ai.plain,-Ai.ep,hset,hp,Bj,Cr,AZ,EH,DM,dX];first|rfl|exact⟨rfl,rfl⟩|exact⟨hp,rfl,rfl⟩) ?_;refine .ret (Post.here (by simp[rs65]) rfl ⟨(h s).ep+2,Az AF.cells r,by simp[rs65],?_,fun k hk=>rfl⟩);funext j;simp only[hset];by_cases hj:j=s<;>simp[hj]
 ·refine .seq ?_;refine AW.sr (by simp[QL,hid];rfl) ?_;refine AW.if' false (by simp) (fun e=>by cases e) (fun _=>AW.skip ?_);refine AW.sr (by simp[QM,-Ai.plain,-Ai.ep,hset,hp,Bj,Cr,AZ,EH,DM,dX,hid,aH,bW];first|rfl|exact⟨rfl,rfl⟩|exact⟨hp,rfl,rfl⟩) ?_;refine .ret (Post.here (by simp[rs65]) rfl ⟨(h s).ep+2,fun k=>Az AF.cells m (lo+k),by simp[rs65],?_,hf⟩);funext j;simp only[hset];by_cases hj:j=s<;>simp[hj]
theorem kzbf:CcOk v65:=⟨by kernel_rfl,fun l x r X h s a b c=>jz9o l r X h s a b c⟩
end Go.Am

