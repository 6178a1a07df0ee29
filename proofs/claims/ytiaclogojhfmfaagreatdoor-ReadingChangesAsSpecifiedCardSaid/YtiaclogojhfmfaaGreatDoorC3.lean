/- Part C3: contracts of some functions of this seat. No condition. -/
import Derived.Test.YtiaclogojhfmfaaGreatDoorC2
set_option linter.unusedSimpArgs false
set_option linter.unusedVariables false
set_option maxRecDepth 8000
namespace Go.Am
open Go.Proofs
attribute [local simp] areg aop dreg dop Al.req Ag argU Al.args Ca Al.unAll Req.val Req.when putT putH Dp ablk Dq CH Co unc unv Cj Gc ARes.ok GD ARes.val cut inr Al.quiet
attribute [local simp] Kh Ki Kj LW Kf Kg LV UJ
attribute [local simp] Ps VSub.refl TSub Pt
attribute [local simp] Aj.plain Aj.owned Aj.ep hset h0 CP Dr Cv BB Aa.one lay CR ldv fzv fzl fz1
def v49:Cc:=⟨49,.us 0,[],[],fun l _=>Tl l⟩
theorem jzt1(l r:List Ae)(X:Aa)(h:Aw)(s:Nat)(hF:Tl l=some r)(hp:(h s).plain)(hs:X=slcV 6 Ae.cells l\/∃id ep lo m,id≠s/\X=.vec id ep lo (List.length l)/\h id=.vec ep 6 (List.length m) (A0 Ae.cells m)/\lo+List.length l<=List.length m/\∀k,k<List.length l->A0 Ae.cells m (lo+k)=A0 Ae.cells l k) :
  ATr EE Tryz.prog 49 [X] h fun v h'=>∃ep,v=.vec s ep 0 (List.length r)/\0<List.length r/\h'=hset h s (.vec ep 6 (List.length r) (A0 Ae.cells r)):=by
 have hh:r=l/\0<List.length l/\List.length l*48<=140737488355328:=by
  unfold Tl at hF;cases hx:(decide (0<List.length l)&&decide (List.length l*48<=140737488355328))
  ·rw[hx]at hF;cases hF
  ·rw[hx]at hF;simp only[AE,Bp]at hx;cases hF;exact⟨rfl,hx⟩
 obtain⟨rfl,hn,eF⟩:=hh;obtain⟨c,hb,hc⟩:=ck49;refine ATr.sub (R:=fun v h'=>∃ep f',v=.vec s ep 0 (List.length r)/\h'=hset h s (.vec ep 6 (List.length r) f')/\∀k,k<List.length r->f' k=A0 Ae.cells r k) ?_ ?_;rotate_left
 ·rintro v h' ⟨ep,f',rfl,rfl,hf⟩;refine⟨_,⟨ep,rfl,hn,rfl⟩,fun i=>?_⟩;simp only[hset];split
  ·exact .inr (.inr ⟨_,_,_,_,_,rfl,rfl,fun k hk=>(hf k hk).symm⟩)
  ·exact .refl _
 refine ATr.of (fn:=Tryz.f49) rfl hb cr49 (hc s) 7 rfl ?_;refine AW.sr (by simp[V6,List.replicate];rfl) ?_;rcases hs with rfl|⟨id,ep,lo,m,aJ,rfl,hid,bu,hf⟩
 ·rw[LZ];refine .seq ?_;refine AW.sr (by simp[Py,hn];rfl) ?_;refine AW.if' false (by simp) (fun e=>by cases e) (fun _=>AW.skip ?_);refine AW.sr (by simp[Pz,-Aj.plain,-Aj.ep,hset,hp,Bq,CR,BB,E6,Eg,eF];first|rfl|exact⟨rfl,rfl⟩|exact⟨hp,rfl,rfl⟩) ?_;refine .ret (Post.here (by simp[rs49]) rfl ⟨(h s).ep+2,A0 Ae.cells r,by simp[rs49],?_,fun k hk=>rfl⟩);funext j;simp only[hset];by_cases hj:j=s<;>simp[hj]
 ·refine .seq ?_;refine AW.sr (by simp[Py,hid];rfl) ?_;refine AW.if' false (by simp) (fun e=>by cases e) (fun _=>AW.skip ?_);refine AW.sr (by simp[Pz,-Aj.plain,-Aj.ep,hset,hp,Bq,CR,BB,E6,Eg,eF,hid,aJ,bu];first|rfl|exact⟨rfl,rfl⟩|exact⟨hp,rfl,rfl⟩) ?_;refine .ret (Post.here (by simp[rs49]) rfl ⟨(h s).ep+2,fun k=>A0 Ae.cells m (lo+k),by simp[rs49],?_,hf⟩);funext j;simp only[hset];by_cases hj:j=s<;>simp[hj]
theorem jzvy:CcOk v49:=⟨by kernel_rfl,fun l x r X h s a b c=>jzt1 l r X h s a b c⟩
theorem P0(a:Az):BB (Az.cells a)=true:=rfl
theorem P3(a:Az):(Az.cells a).length=3:=rfl
theorem V7(a:Az):List.take 3 (Az.cells a)=Az.cells a:=rfl
def outP(b:Nat)(l:List Az):Aa:=if l.length=0 then .nils else .vec (b+3) l.length 0 l.length
structure jzw3(b:Nat)(ts:List Aa)(ps:Array Tmp)(asg body:Code)(l:List Az)(h:Aw):Prop where
 h0:h b=.box 1 [outP b l]
 h1:(h (b+1)).plain
 h1':(h (b+2)).plain
 h2:(l.length=0->h (b+3)=.gone 0)/\(l.length≠0->∃f,h (b+3)=.vec l.length 3 l.length f/\∀k,k<l.length->f k=A0 Az.cells l k)
 h3:h (b+4)=.dfr 1
 h4:h (b+5)=.loop 1 .ready none ts ps asg body (b+4) 1
def T110(b:Nat)(F:Aa):List Aa:=.top :: .top :: .ptr b 1 0 :: .top :: .nils :: .top :: F :: .top :: List.replicate 5 .top
def Kr(l:List Az):Option Bool:=ck (decide (List.length l<=1000000000)) (some false)
theorem jzvp{l:List Az}{s:Bool}(h:Kr l=some s):s=false/\l.length<=1000000000:=by
 unfold Kr at h;cases hx:decide (List.length l<=1000000000)
 ·rw[hx]at h;cases h
 ·rw[hx]at h;exact⟨(BJ h).symm,Ty hx⟩
theorem jzut(b:Nat)(hb:b+6<=1000)(F:Aa)(ps:Array Tmp)(asg body:Code)(dR:ps.toList=[7])(dU:A8 Tryz.prog asg (.reg false (Me b) [])=true)(bZ:A8 Tryz.prog body (P4 b)=true) :
  Csm EE Tryz.prog (fun x:Az=>[Aa.agg (Az.cells x)]) Kr (b+5) 1 (jzw3 b (T110 b F) ps asg body) (fun _ _=>False):=by
 refine⟨fun l h h' e H=>⟨(e b (by omega)).trans H.h0,by rw[e (b+1) (by omega)];exact H.h1,by rw[e (b+2) (by omega)];exact H.h1',by rw[e (b+3) (by omega)];exact H.h2,(e _ (by omega)).trans H.h3,(e _ (by omega)).trans H.h4⟩,fun l h h' _ H=>H,fun l k s h H hs=>?_⟩;obtain⟨rfl,kj⟩:=jzvp hs;simp only[Ch,DE]at kj;have gS:=H.h0;have h1:=H.h1;have h1':=H.h1';have h4:=H.h4;refine⟨T110 b F,ps,asg,body,b+4,1,H.h4,by rw[<-Array.length_toList,dR];rfl,fun ρ=>?_⟩;rw[dR];have n0:¬(b+4=b):=by omega
 refine(AW.r1 (ρ:=ρ) (pr:=[]) (by simp[Me,T110,CU,List.replicate,P3,P0,-Aj.ep,-Aj.plain];exact⟨h1,rfl⟩) ?_:AW EE ρ Tryz.prog (.reg false (Me b) []) _ _) asg dU;refine⟨rfl,by simp[h4],?_⟩;refine(AW.block (id:=1) ?_:AW EE ρ Tryz.prog (P4 b) _ _) body bZ;by_cases hl:l.length=0
 ·have h2:=H.h2.1 hl;obtain rfl:l=[]:=O1 hl;refine AW.r1 (by simp[P5,gS,h1',h2,outP,Eg,Bq,E6,P3,P0,V7,-Aj.ep,-Aj.plain];exact⟨trivial,rfl⟩) ?_;refine⟨⟨none,by simp⟩,rfl,fun _=>⟨?_,?_,?_,?_,?_,?_⟩,(fun e=>by cases e),fun i hi gB=>?_⟩
  ·simp[outP]
  ·simp
  ·simp
  ·refine⟨fun e=>by simp at e,fun _=>⟨_,by simp;rfl,fun j hj=>?_⟩⟩;obtain rfl:j=0:=by simp at hj;omega
   simp[A0]
  ·simp[H.h3]
  ·simp[T110,List.replicate]
  ·simp[show ¬(i=b+5) by omega,show ¬(i=b) by omega,show ¬(i=b+3) by omega,show ¬(i=b+2) by omega,show ¬(i=b+1) by omega]
 ·obtain⟨f,h2,hf⟩:=H.h2.2 hl;have cE:¬(l=[]):=fun e=>hl (by simp[e]);refine AW.r1 (by simp[P5,gS,h1',h2,outP,cE,Eg,Bq,E6,P3,P0,V7,-Aj.ep,-Aj.plain];exact⟨by omega,rfl⟩) ?_;refine⟨⟨none,by simp⟩,rfl,fun _=>⟨?_,?_,?_,?_,?_,?_⟩,(fun e=>by cases e),fun i hi gB=>?_⟩
  ·simp[outP]
  ·simp
  ·simp
  ·refine⟨fun e=>by simp at e,fun _=>⟨_,by simp;rfl,fun j hj=>?_⟩⟩;rw[yzt];by_cases aZ:j<l.length
   ·simp[aZ,hf j aZ]
   ·obtain rfl:j=l.length:=by simp at hj;omega
    simp[A0]
  ·simp[H.h3]
  ·simp[T110,List.replicate]
  ·simp[show ¬(i=b+5) by omega,show ¬(i=b) by omega,show ¬(i=b+3) by omega,show ¬(i=b+2) by omega,show ¬(i=b+1) by omega]
theorem jzsg(b:Nat)(hb:b+6<=1000)(f:FuncId)(caps:List Aa)(l:List Az)(H:SqOk EE Tryz.prog f caps (fun x:Az=>[Aa.agg (Az.cells x)]) Kr l)(h:Aw)(hp:∀i,b<=i->h i=.gone 0) :
  ATr EE Tryz.prog 110 [.nils,.fn f 0 caps] h (fun v h'=>v=outP b l/\(l.length≠0->∃f,h' (b+3)=.vec l.length 3 l.length f/\∀k,k<l.length->f k=A0 Az.cells l k)):=by
 obtain⟨lC,H⟩:=H;obtain⟨c,cf,hc⟩:=jzwd;refine ATr.of (fn:=Tryz.f110) rfl cf jzw8 (hc b) 11 rfl ?_;have p0:=hp b (AC _);have p1:=hp (b+1) (by omega);have p2:=hp (b+2) (by omega);have p3:=hp (b+3) (by omega);have p4:=hp (b+4) (by omega);have p5:=hp (b+5) (by omega);refine AW.sr (by simp[V8,p0];rfl) ?_;refine .seq (AW.sr (by simp[V9];rfl) ?_);refine .block (.see (.of_sub (S':=⟨T110 b (.fn f 0 caps),_,[]⟩) ⟨?_,fun i=>.refl _,rfl,by simp⟩) (.rfunc (fi:=f) (caps:=caps) (b+4) (b+5) (by omega) (by simp[p4]) (by simp[p5]) (by simp[T110,List.replicate]) lC ?_))
 ·simp[T110,List.replicate]
 intro ps' asg body dR dU bZ;have e5:((hset h b (.box 1 [.nils])) (b+5)).ep+1=1:=by simp[p5]
 have e4:((hset h b (.box 1 [.nils])) (b+4)).ep+1=1:=by simp[p4]
 simp only[e4,e5];refine(H (b+5) 1 _ _ (jzut b hb (.fn f 0 caps) ps' asg body dR dU bZ) _ ?_ ?_).mono ?_
 ·refine⟨?_,?_,?_,?_,?_,?_⟩;·simp[outP]
  ·simp[p1]
  ·simp[p2]
  ·simp[p3]
  ·simp
  ·simp
 ·intro i hi gB;exact⟨0,by simp[show ¬(i=b+5) by omega,show ¬(i=b+4) by omega,show ¬(i=b) by omega,hp i (by omega)]⟩
 rintro r h' (H|H);rotate_left
 ·exact H.elim
 have q0:=H.h0;refine⟨.ready,none,by simp,H.h4,H.h3,by simp,?_⟩;simp only[LU,ablk,Dp];refine AW.sr (by simp[VA,T110,List.replicate,q0];rfl) ?_;refine .ret ⟨_,.refl _,?_,hset (hset h' (b+5) (.gone 1)) (b+4) (.gone 1),fun i=>?_,?_,?_,?_⟩
 ·simp[P6]
 ·by_cases hi:i=b+4;·subst hi;exact .inl (by simp[H.h3])
  ·exact .of_eq (by simp[hi])
 ·intro D hD;simp at hD;subst hD;exact⟨1,by simp⟩
 ·simp[P6]
 ·intro aJ;obtain⟨f,q2,hf⟩:=H.h2.2 aJ;exact⟨f,by simp[q2],hf⟩
theorem jzsd(f:FuncId)(caps:List Aa)(hn:∀x,x∈caps->AF x)(l:List Az)(H:SqOk EE Tryz.prog f caps (fun x:Az=>[Aa.agg (Az.cells x)]) Kr l) :
  Bf EE Tryz.prog 93 [.fn f 0 caps] (slcV 3 Az.cells l):=by
 refine Pure.still ?_ hEE (by simp;exact hn) (Eo fun a z hz=>by simp[Az.cells]at hz;rcases hz with rfl | rfl | rfl<;>exact .int _ _);obtain⟨c,cf,hc⟩:=ck93;refine ATr.wv (R:=fun v h'=>W v (slcV 3 Az.cells l)) ?_ (fun v h' q=>⟨_,q,rfl⟩);refine ATr.of (fn:=Tryz.f93) rfl cf cr93 (hc 0) 4 rfl ?_;refine AW.sr (by simp[VB];rfl) ?_;refine .seq (.reg ?_);simp[VC];refine(jzsg 0 (by omega) f caps l H h0 (fun i hi=>rfl)).mono ?_;rintro r h' ⟨rfl,hf⟩;by_cases hl:l.length=0
 ·obtain rfl:l=[]:=O1 hl;refine .ret (.here ?_ rfl ?_)
  ·simp[rs93]
  ·simp[rs93,outP];exact .nil _ _
 ·obtain⟨f',q2,hf⟩:=hf hl;have cE:¬(l=[]):=fun e=>hl (by simp[e]);have q3:h' 3=.vec l.length 3 l.length f':=q2;simp[outP,cE];refine .fz 3 (by simp[q3]) (by simp[q3]) ?_;refine .ret (.here ?_ rfl ?_)
  ·simp[rs93]
  ·simp[rs93,q3];rw[LZ,Ha];exact⟨rfl,rfl,fun k hk=>.of_eq (by simpa using hf k hk)⟩
def k93:Fc:=⟨93,[.sq 1],[false],[.slc (.us 13)],fun x=>Mf x.g⟩
theorem jzwc:Ao k93:=⟨by kernel_rfl,fun x y e=>jzsd x.f x.caps x.nr y (x.ok _ _ e)⟩
end Go.Am

