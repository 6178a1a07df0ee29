/- Part C3: contracts of some functions of this seat. No condition. -/
import Derived.Test.YtbidhbeoimpjbaaGreatDoorC1
set_option linter.unusedSimpArgs false
set_option linter.unusedVariables false
set_option maxRecDepth 8000
namespace Go.Am
open Go.Proofs
attribute [local simp] areg aop dreg dop Ak.req Ag argU Ak.args BI Ak.unAll Req.val Req.when putT putH Bb ablk CA Ca BD unc unv Cl EJ ARes.ok F7 ARes.val cut inr Ak.quiet
attribute [local simp] Gn Gp Gq Hm Gl Gm LF PA
attribute [local simp] Qz VSub.refl TSub Q0
attribute [local simp] Ai.plain Ai.owned Ai.ep hset h0 C0 Cs Cm AY Aa.one lay Cr ldv fzv fzl fz1
def v65:Cc:=⟨65,.us 1,[],[],fun l _=>Ny l⟩
theorem u7(l r:List AC)(X:Aa)(h:Ax)(s:Nat)(hF:Ny l=some r)(hp:(h s).plain)(hs:X=slcV 4 AC.cells l\/∃id ep lo m,id≠s/\X=.vec id ep lo (List.length l)/\h id=.vec ep 4 (List.length m) (Ay AC.cells m)/\lo+List.length l<=List.length m/\∀k,k<List.length l->Ay AC.cells m (lo+k)=Ay AC.cells l k) :
  ATr EE Tryz.prog 65 [X] h fun v h'=>∃ep,v=.vec s ep 0 (List.length r)/\0<List.length r/\h'=hset h s (.vec ep 4 (List.length r) (Ay AC.cells r)):=by
 have hh:r=l/\0<List.length l/\List.length l*48<=140737488355328:=by
  unfold Ny at hF;cases hx:(decide (0<List.length l)&&decide (List.length l*48<=140737488355328))
  ·rw[hx]at hF;cases hF
  ·rw[hx]at hF;simp only[AE,BB]at hx;cases hF;exact⟨rfl,hx⟩
 obtain⟨rfl,hn,ei⟩:=hh;obtain⟨c,hb,hc⟩:=ck65;refine ATr.sub (R:=fun v h'=>∃ep f',v=.vec s ep 0 (List.length r)/\h'=hset h s (.vec ep 4 (List.length r) f')/\∀k,k<List.length r->f' k=Ay AC.cells r k) ?_ ?_;rotate_left
 ·rintro v h' ⟨ep,f',rfl,rfl,hf⟩;refine⟨_,⟨ep,rfl,hn,rfl⟩,fun i=>?_⟩;simp only[hset];split
  ·exact .inr (.inr ⟨_,_,_,_,_,rfl,rfl,fun k hk=>(hf k hk).symm⟩)
  ·exact .refl _
 refine ATr.of (fn:=Tryz.f65) rfl hb cr65 (hc s) 7 rfl ?_;refine AW.sr (by simp[Wn,List.replicate];rfl) ?_;rcases hs with rfl|⟨id,ep,lo,m,aH,rfl,hid,cg,hf⟩
 ·rw[Ic];refine .seq ?_;refine AW.sr (by simp[Q3,hn];rfl) ?_;refine AW.if' false (by simp) (fun e=>by cases e) (fun _=>AW.skip ?_);refine AW.sr (by simp[Q4,-Ai.plain,-Ai.ep,hset,hp,Bh,Cr,AY,EG,DM,ei];first|rfl|exact⟨rfl,rfl⟩|exact⟨hp,rfl,rfl⟩) ?_;refine .ret (Post.here (by simp[rs65]) rfl ⟨(h s).ep+2,Ay AC.cells r,by simp[rs65],?_,fun k hk=>rfl⟩);funext j;simp only[hset];by_cases hj:j=s<;>simp[hj]
 ·refine .seq ?_;refine AW.sr (by simp[Q3,hid];rfl) ?_;refine AW.if' false (by simp) (fun e=>by cases e) (fun _=>AW.skip ?_);refine AW.sr (by simp[Q4,-Ai.plain,-Ai.ep,hset,hp,Bh,Cr,AY,EG,DM,ei,hid,aH,cg];first|rfl|exact⟨rfl,rfl⟩|exact⟨hp,rfl,rfl⟩) ?_;refine .ret (Post.here (by simp[rs65]) rfl ⟨(h s).ep+2,fun k=>Ay AC.cells m (lo+k),by simp[rs65],?_,hf⟩);funext j;simp only[hset];by_cases hj:j=s<;>simp[hj]
theorem u9:CcOk v65:=⟨by kernel_rfl,fun l x r X h s a b c=>u7 l r X h s a b c⟩
end Go.Am

