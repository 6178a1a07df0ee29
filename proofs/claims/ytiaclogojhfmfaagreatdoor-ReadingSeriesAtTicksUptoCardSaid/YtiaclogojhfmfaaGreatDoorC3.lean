/- Part C3: contracts of some functions of this seat. No condition. -/
import Derived.Test.YtiaclogojhfmfaaGreatDoorC2
set_option linter.unusedSimpArgs false
set_option linter.unusedVariables false
set_option maxRecDepth 8000
namespace Go.Am
open Go.Proofs
attribute [local simp] areg aop dreg dop AOp.req argv argU AOp.args wze AOp.unAll Req.val Req.when putT putH qzdb ablk qzfc qzbd qzcj unc unv jzp vz1 ARes.ok vz5 ARes.val cut inr AOp.quiet
attribute [local simp] qzc0 qzbz qzcz qze2 qzer qzep qz08 kzp
attribute [local simp] jzeg VSub.refl TSub jzej
attribute [local simp] AObj.plain AObj.owned AObj.ep hset h0 wz9 qzbw wzk vz6 AVal.one lay jzv ldv fzv fzl fz1
def v49:Cc:=⟨49,.us 0,[],[],fun l _=>vzi l⟩
theorem jzt1(l r:List jzn4)(X:AVal)(h:qzl)(s:Nat)(hF:vzi l=some r)(hp:(h s).plain)(hs:X=slcV 6 jzn4.cells l\/∃id ep lo m,id≠s/\X=.vec id ep lo (List.length l)/\h id=.vec ep 6 (List.length m) (qzd jzn4.cells m)/\lo+List.length l<=List.length m/\∀k,k<List.length l->qzd jzn4.cells m (lo+k)=qzd jzn4.cells l k) :
  ATr EE Tryz.prog 49 [X] h fun v h'=>∃ep,v=.vec s ep 0 (List.length r)/\0<List.length r/\h'=hset h s (.vec ep 6 (List.length r) (qzd jzn4.cells r)):=by
 have hh:r=l/\0<List.length l/\List.length l*48<=140737488355328:=by
  unfold vzi at hF;cases hx:(decide (0<List.length l)&&decide (List.length l*48<=140737488355328))
  ·rw[hx]at hF;cases hF
  ·rw[hx]at hF;simp only[Gai,Gdz]at hx;cases hF;exact⟨rfl,hx⟩
 obtain⟨rfl,hn,hby⟩:=hh;obtain⟨c,hb,hc⟩:=ck49;refine ATr.sub (R:=fun v h'=>∃ep f',v=.vec s ep 0 (List.length r)/\h'=hset h s (.vec ep 6 (List.length r) f')/\∀k,k<List.length r->f' k=qzd jzn4.cells r k) ?_ ?_;rotate_left
 ·rintro v h' ⟨ep,f',rfl,rfl,hf⟩;refine⟨_,⟨ep,rfl,hn,rfl⟩,fun i=>?_⟩;simp only[hset];split
  ·exact .inr (.inr ⟨_,_,_,_,_,rfl,rfl,fun k hk=>(hf k hk).symm⟩)
  ·exact .refl _
 refine ATr.of (fn:=Tryz.f49) rfl hb cr49 (hc s) 7 rfl ?_;refine AW.sr (by simp[jzuk,List.replicate];rfl) ?_;rcases hs with rfl|⟨id,ep,lo,m,hne,rfl,hid,hlo,hf⟩
 ·rw[qzh];refine .seq ?_;refine AW.sr (by simp[jzs3,hn];rfl) ?_;refine AW.if' false (by simp) (fun e=>by cases e) (fun _=>AW.skip ?_);refine AW.sr (by simp[jzsx,-AObj.plain,-AObj.ep,hset,hp,qz5,jzv,vz6,kz1,wzu,hby];first|rfl|exact⟨rfl,rfl⟩|exact⟨hp,rfl,rfl⟩) ?_;refine .ret (Post.here (by simp[rs49]) rfl ⟨(h s).ep+2,qzd jzn4.cells r,by simp[rs49],?_,fun k hk=>rfl⟩);funext j;simp only[hset];by_cases hj:j=s<;>simp[hj]
 ·refine .seq ?_;refine AW.sr (by simp[jzs3,hid];rfl) ?_;refine AW.if' false (by simp) (fun e=>by cases e) (fun _=>AW.skip ?_);refine AW.sr (by simp[jzsx,-AObj.plain,-AObj.ep,hset,hp,qz5,jzv,vz6,kz1,wzu,hby,hid,hne,hlo];first|rfl|exact⟨rfl,rfl⟩|exact⟨hp,rfl,rfl⟩) ?_;refine .ret (Post.here (by simp[rs49]) rfl ⟨(h s).ep+2,fun k=>qzd jzn4.cells m (lo+k),by simp[rs49],?_,hf⟩);funext j;simp only[hset];by_cases hj:j=s<;>simp[hj]
theorem jzvy:CcOk v49:=⟨by kernel_rfl,fun l x r X h s a b c=>jzt1 l r X h s a b c⟩
theorem jzq4(a:jzn6):vz6 (jzn6.cells a)=true:=rfl
theorem jzq2(a:jzn6):(jzn6.cells a).length=3:=rfl
theorem jzrm(a:jzn6):List.take 3 (jzn6.cells a)=jzn6.cells a:=rfl
def outP(b:Nat)(l:List jzn6):AVal:=if l.length=0 then .nils else .vec (b+3) l.length 0 l.length
structure jzw3(b:Nat)(ts:List AVal)(ps:Array Tmp)(asg body:Code)(l:List jzn6)(h:qzl):Prop where
 h0:h b=.box 1 [outP b l]
 h1:(h (b+1)).plain
 h1':(h (b+2)).plain
 h2:(l.length=0->h (b+3)=.gone 0)/\(l.length≠0->∃f,h (b+3)=.vec l.length 3 l.length f/\∀k,k<l.length->f k=qzd jzn6.cells l k)
 h3:h (b+4)=.dfr 1
 h4:h (b+5)=.loop 1 .ready none ts ps asg body (b+4) 1
def T110(b:Nat)(F:AVal):List AVal:=.top :: .top :: .ptr b 1 0 :: .top :: .nils :: .top :: F :: .top :: List.replicate 5 .top
def jzrp(l:List jzn6):Option Bool:=ck (decide (List.length l<=1000000000)) (some false)
theorem jzvp{l:List jzn6}{s:Bool}(h:jzrp l=some s):s=false/\l.length<=1000000000:=by
 unfold jzrp at h;cases hx:decide (List.length l<=1000000000)
 ·rw[hx]at h;cases h
 ·rw[hx]at h;exact⟨(Gdp h).symm,Gd7 hx⟩
theorem jzut(b:Nat)(hb:b+6<=1000)(F:AVal)(ps:Array Tmp)(asg body:Code)(hps:ps.toList=[7])(hasg:qzg Tryz.prog asg (.reg false (jzry b) [])=true)(hbody:qzg Tryz.prog body (jzsh b)=true) :
  Csm EE Tryz.prog (fun x:jzn6=>[AVal.agg (jzn6.cells x)]) jzrp (b+5) 1 (jzw3 b (T110 b F) ps asg body) (fun _ _=>False):=by
 refine⟨fun l h h' e H=>⟨(e b (by omega)).trans H.h0,by rw[e (b+1) (by omega)];exact H.h1,by rw[e (b+2) (by omega)];exact H.h1',by rw[e (b+3) (by omega)];exact H.h2,(e _ (by omega)).trans H.h3,(e _ (by omega)).trans H.h4⟩,fun l h h' _ H=>H,fun l k s h H hs=>?_⟩;obtain⟨rfl,hlN⟩:=jzvp hs;simp only[Gbq,Gby]at hlN;have h00:=H.h0;have h1:=H.h1;have h1':=H.h1';have h4:=H.h4;refine⟨T110 b F,ps,asg,body,b+4,1,H.h4,by rw[<-Array.length_toList,hps];rfl,fun ρ=>?_⟩;rw[hps];have n0:¬(b+4=b):=by omega
 refine(AW.r1 (ρ:=ρ) (pr:=[]) (by simp[jzry,T110,qzli,List.replicate,jzq2,jzq4,-AObj.ep,-AObj.plain];exact⟨h1,rfl⟩) ?_:AW EE ρ Tryz.prog (.reg false (jzry b) []) _ _) asg hasg;refine⟨rfl,by simp[h4],?_⟩;refine(AW.block (id:=1) ?_:AW EE ρ Tryz.prog (jzsh b) _ _) body hbody;by_cases hl:l.length=0
 ·have h2:=H.h2.1 hl;obtain rfl:l=[]:=Ga6 hl;refine AW.r1 (by simp[jzsn,h00,h1',h2,outP,wzu,qz5,kz1,jzq2,jzq4,jzrm,-AObj.ep,-AObj.plain];exact⟨trivial,rfl⟩) ?_;refine⟨⟨none,by simp⟩,rfl,fun _=>⟨?_,?_,?_,?_,?_,?_⟩,(fun e=>by cases e),fun i hi hi2=>?_⟩
  ·simp[outP]
  ·simp
  ·simp
  ·refine⟨fun e=>by simp at e,fun _=>⟨_,by simp;rfl,fun j hj=>?_⟩⟩;obtain rfl:j=0:=by simp at hj;omega
   simp[qzd]
  ·simp[H.h3]
  ·simp[T110,List.replicate]
  ·simp[show ¬(i=b+5) by omega,show ¬(i=b) by omega,show ¬(i=b+3) by omega,show ¬(i=b+2) by omega,show ¬(i=b+1) by omega]
 ·obtain⟨f,h2,hf⟩:=H.h2.2 hl;have hln:¬(l=[]):=fun e=>hl (by simp[e]);refine AW.r1 (by simp[jzsn,h00,h1',h2,outP,hln,wzu,qz5,kz1,jzq2,jzq4,jzrm,-AObj.ep,-AObj.plain];exact⟨by omega,rfl⟩) ?_;refine⟨⟨none,by simp⟩,rfl,fun _=>⟨?_,?_,?_,?_,?_,?_⟩,(fun e=>by cases e),fun i hi hi2=>?_⟩
  ·simp[outP]
  ·simp
  ·simp
  ·refine⟨fun e=>by simp at e,fun _=>⟨_,by simp;rfl,fun j hj=>?_⟩⟩;rw[yzt];by_cases hj':j<l.length
   ·simp[hj',hf j hj']
   ·obtain rfl:j=l.length:=by simp at hj;omega
    simp[qzd]
  ·simp[H.h3]
  ·simp[T110,List.replicate]
  ·simp[show ¬(i=b+5) by omega,show ¬(i=b) by omega,show ¬(i=b+3) by omega,show ¬(i=b+2) by omega,show ¬(i=b+1) by omega]
theorem jzsg(b:Nat)(hb:b+6<=1000)(f:FuncId)(caps:List AVal)(l:List jzn6)(H:SqOk EE Tryz.prog f caps (fun x:jzn6=>[AVal.agg (jzn6.cells x)]) jzrp l)(h:qzl)(hp:∀i,b<=i->h i=.gone 0) :
  ATr EE Tryz.prog 110 [.nils,.fn f 0 caps] h (fun v h'=>v=outP b l/\(l.length≠0->∃f,h' (b+3)=.vec l.length 3 l.length f/\∀k,k<l.length->f k=qzd jzn6.cells l k)):=by
 obtain⟨hen,H⟩:=H;obtain⟨c,hbd,hc⟩:=jzwd;refine ATr.of (fn:=Tryz.f110) rfl hbd jzw8 (hc b) 11 rfl ?_;have p0:=hp b (Gcy _);have p1:=hp (b+1) (by omega);have p2:=hp (b+2) (by omega);have p3:=hp (b+3) (by omega);have p4:=hp (b+4) (by omega);have p5:=hp (b+5) (by omega);refine AW.sr (by simp[jztf,p0];rfl) ?_;refine .seq (AW.sr (by simp[jztq];rfl) ?_);refine .block (.see (.of_sub (S':=⟨T110 b (.fn f 0 caps),_,[]⟩) ⟨?_,fun i=>.refl _,rfl,by simp⟩) (.rfunc (fi:=f) (caps:=caps) (b+4) (b+5) (by omega) (by simp[p4]) (by simp[p5]) (by simp[T110,List.replicate]) hen ?_))
 ·simp[T110,List.replicate]
 intro ps' asg body hps hasg hbody;have e5:((hset h b (.box 1 [.nils])) (b+5)).ep+1=1:=by simp[p5]
 have e4:((hset h b (.box 1 [.nils])) (b+4)).ep+1=1:=by simp[p4]
 simp only[e4,e5];refine(H (b+5) 1 _ _ (jzut b hb (.fn f 0 caps) ps' asg body hps hasg hbody) _ ?_ ?_).mono ?_
 ·refine⟨?_,?_,?_,?_,?_,?_⟩;·simp[outP]
  ·simp[p1]
  ·simp[p2]
  ·simp[p3]
  ·simp
  ·simp
 ·intro i hi hi2;exact⟨0,by simp[show ¬(i=b+5) by omega,show ¬(i=b+4) by omega,show ¬(i=b) by omega,hp i (by omega)]⟩
 rintro r h' (H|H);rotate_left
 ·exact H.elim
 have q0:=H.h0;refine⟨.ready,none,by simp,H.h4,H.h3,by simp,?_⟩;simp only[wza0,ablk,qzdb];refine AW.sr (by simp[jztg,T110,List.replicate,q0];rfl) ?_;refine .ret ⟨_,.refl _,?_,hset (hset h' (b+5) (.gone 1)) (b+4) (.gone 1),fun i=>?_,?_,?_,?_⟩
 ·simp[jzs0]
 ·by_cases hi:i=b+4;·subst hi;exact .inl (by simp[H.h3])
  ·exact .of_eq (by simp[hi])
 ·intro D hD;simp at hD;subst hD;exact⟨1,by simp⟩
 ·simp[jzs0]
 ·intro hne;obtain⟨f,q2,hf⟩:=H.h2.2 hne;exact⟨f,by simp[q2],hf⟩
theorem jzsd(f:FuncId)(caps:List AVal)(hn:∀x,x∈caps->qzt x)(l:List jzn6)(H:SqOk EE Tryz.prog f caps (fun x:jzn6=>[AVal.agg (jzn6.cells x)]) jzrp l) :
  qzq EE Tryz.prog 93 [.fn f 0 caps] (slcV 3 jzn6.cells l):=by
 refine Pure.still ?_ hEE (by simp;exact hn) (qzj fun a z hz=>by simp[jzn6.cells]at hz;rcases hz with rfl | rfl | rfl<;>exact .int _ _);obtain⟨c,hbd,hc⟩:=ck93;refine ATr.wv (R:=fun v h'=>W v (slcV 3 jzn6.cells l)) ?_ (fun v h' q=>⟨_,q,rfl⟩);refine ATr.of (fn:=Tryz.f93) rfl hbd cr93 (hc 0) 4 rfl ?_;refine AW.sr (by simp[qz90];rfl) ?_;refine .seq (.reg ?_);simp[wzbv];refine(jzsg 0 (by omega) f caps l H h0 (fun i hi=>rfl)).mono ?_;rintro r h' ⟨rfl,hf⟩;by_cases hl:l.length=0
 ·obtain rfl:l=[]:=Ga6 hl;refine .ret (.here ?_ rfl ?_)
  ·simp[rs93]
  ·simp[rs93,outP];exact .nil _ _
 ·obtain⟨f',q2,hf⟩:=hf hl;have hln:¬(l=[]):=fun e=>hl (by simp[e]);have q3:h' 3=.vec l.length 3 l.length f':=q2;simp[outP,hln];refine .fz 3 (by simp[q3]) (by simp[q3]) ?_;refine .ret (.here ?_ rfl ?_)
  ·simp[rs93]
  ·simp[rs93,q3];rw[qzh,qzpo];exact⟨rfl,rfl,fun k hk=>.of_eq (by simpa using hf k hk)⟩
def k93:Fc:=⟨93,[.sq 1],[false],[.slc (.us 13)],fun x=>jzpq x.g⟩
theorem jzwc:FcOk k93:=⟨by kernel_rfl,fun x y e=>jzsd x.f x.caps x.nr y (x.ok _ _ e)⟩
end Go.Am

