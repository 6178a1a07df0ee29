/- Part C2 of the proof that the last part closes: contracts of some functions of this seat. No condition. -/
import Derived.Test.YtomegmhiddbmbaaGreatDoorG1
import Derived.Test.YtomegmhiddbmbaaGreatDoorX1
import Derived.Test.YtomegmhiddbmbaaGreatDoorH1
import Derived.Test.YtomegmhiddbmbaaGreatDoorC1
import Derived.Test.YtomegmhiddbmbaaGreatDoorA5
set_option linter.unusedSimpArgs false
set_option linter.unusedVariables false
set_option maxRecDepth 8000
namespace Go.Am
open Go.Proofs
attribute [local simp] areg aop dreg dop AOp.req argv argU AOp.args wze AOp.unAll Req.val Req.when putT putH qzdb ablk qzfc qzbd qzcj unc unv jzp vz1 ARes.ok vz5 ARes.val cut inr AOp.quiet
attribute [local simp] qzc0 qzbz qzcz qze2 qzer qzep qz08 kzp
attribute [local simp] jzeg VSub.refl TSub jzej
attribute [local simp] AObj.plain AObj.owned AObj.ep hset h0 wz9 qzbw wzk vz6 AVal.one lay jzv ldv fzv fzl fz1
theorem wz6u:∀(n:Nat) (l:List Nat),l.Nodup→(∀x,x∈l→x<n)→l.length≤n
 |0,l,_,h=>by
  cases l with
  |nil=>simp
  |cons x l=>exact absurd (h x (by simp)) (by omega)
 |n+1,l,hd,h=>by
  have h1:=wz6u n (l.erase n) (hd.erase n) (fun x hx=>by
   have h2:=(hd.mem_erase_iff).1 hx
   have:=h x h2.2
   omega)
  have:=List.length_erase_le (a:=n) (l:=l)
  by_cases hm:n∈l
  ·rw[List.length_erase_of_mem hm]at h1;omega
  ·rw[List.erase_of_not_mem hm]at h1;omega
structure jzfn(b L e N:Nat)(HC:List qza→qzl→Prop):Prop where
 loc:∀l h h',(∀i,i<b→h' i=h i)→HC l h→HC l h'
 round:∀l k h,l.length<N→HC l h→qzhp EE Tryz.prog L e [.agg (qza.cells k)] h (fun v h'=>v=.bool true∧HC (l++[k]) h'∧∀i,b≤i→h' i=h i)
def H86(b M eM n:Nat)(seen:List Nat)(hb:qzl):qzl:=fun i=>if i<b then hb i else if i=b then .miter 1 (some (M,eM,n)) seen else if i=b+1 then .gone seen.length else .gone 0
def S86(b L e M eM n:Nat)(x:List Nat×qzl):ASt:=⟨.yld L e :: keyC M eM :: .top :: .top :: .top :: .ptr b 1 0 :: List.replicate 8 .top,H86 b M eM n x.1 x.2,[]⟩
theorem jzhl(b L e M eM n:Nat)(x:List Nat×qzl):S86 b L e M eM n x=⟨.yld L e :: keyC M eM :: .top :: .top :: .top :: .ptr b 1 0 :: List.replicate 8 .top,H86 b M eM n x.1 x.2,[]⟩:=rfl
theorem jzd6(b L e M eM:Nat)(es:List (AVal×AVal))(ky:Nat→qza)(hM:M<b)(HC:List qza→qzl→Prop)(C:jzfn b L e es.length HC)
  (hMo:∀l h,HC l h→h M=.amap eM es) (hk:∀k,k<es.length→(es.getD k (.top,.top)).1=.agg (qza.cells (ky k))) (h:qzl) (hh:HC [] h) (hp:∀i,b≤i→h i=.gone 0) :
  ATr EE Tryz.prog 86 [.yld L e,keyC M eM] h (fun v h'=>∃ord:List Nat,ord.Nodup∧(∀x,x∈ord↔x<es.length)∧HC (ord.map ky) h'):=by
 obtain⟨c,hbd,hc⟩:=ck86
 refine ATr.of (fn:=Tryz.f86) rfl hbd cr86 (hc b) 12 rfl ?_
 have p0:=hp b (Nat.le_refl _)
 have p1:=hp (b+1) (by omega)
 have o2:=hMo _ _ hh
 have hMb:¬(M=b):=by omega
 refine AW.sr (by simp[jze7,keyC,o2,qzi6,p0];rfl) ?_
 refine .block (.loop (S86 b L e M eM es.length) (fun x=>es.length-x.1.length) (fun x=>x.1.Nodup∧(∀j,j∈x.1→j<es.length)∧HC (x.1.map ky) x.2) ([],h) ⟨.nil,(by intro j hj;cases hj),hh⟩ (.of_sub ⟨?_,fun i=>.of_eq ?_,rfl,by simp⟩) ?_)
 ·simp[List.replicate,S86,keyC]
 ·simp only[S86,H86]
  by_cases h1:i<b
  ·simp[h1,show ¬(i=b) by omega]
  ·by_cases h2:i=b
   ·subst h2;simp
   ·by_cases h3:i=b+1
    ·subst h3;simp[p1]
    ·have:=hp i (by omega)
     simp[h1,h2,h3,this]
 rintro⟨seen,hb⟩ ⟨hnd,hlt,hHC⟩
 simp only at hnd hlt hHC
 have q2:=hMo _ _ hHC
 have eM1:H86 b M eM es.length seen hb M=.amap eM es:=by simp[H86,hM,q2]
 have eb1:H86 b M eM es.length seen hb b=.miter 1 (some (M,eM,es.length)) seen:=by simp[H86]
 have eb2:H86 b M eM es.length seen hb (b+1)=.gone seen.length:=by simp[H86];omega
 refine .seq (.reg ?_)
 simp[jzf0,jzhl _ _ _ _ _ _ (seen,hb),List.replicate,qznp,eM1,eb1]
 refine⟨fun k hk1 hk2=>?_,fun hall=>?_⟩
 ·have hkk:es[k].fst=.agg (qza.cells (ky k)):=by have:=hk k hk1;simpa [hk1] using this
  refine .seq (AW.if' true rfl (fun _=>AW.skip ?_) (fun e=>by cases e))
  have hnot:(seen++[k]).Nodup:=by
   rw[List.nodup_append]
   exact⟨hnd,by simp,fun x hx y hy=>by simp at hy;subst hy;intro e;subst e;exact hk2 hx⟩
  have hlt':∀j,j∈seen++[k]→j<es.length:=by
   intro j hj
   rcases List.mem_append.1 hj with h|h
   ·exact hlt j h
   ·simp at h;omega
  have hle:=wz6u _ _ hnot hlt'
  refine .block (AW.sr (by
   simp[jzfe,qzgb,hMb,eM1,eb2]
   simp[hk1,hkk,wz5i,wz6f]
   rfl) (.seq (.reg ?_)))
  simp[jzfi,wz5i]
  refine(C.round (seen.map ky) (ky k) _ (by simp at hle ⊢;omega) (C.loc _ hb _ (fun i hi=>by simp[H86,hi,show ¬(i=b) by omega,show ¬(i=b+1) by omega]) hHC)).imp ?_
  rintro v h' ⟨rfl,hlo,hhi⟩
  have hb0:=hhi b (Nat.le_refl _)
  have hb1:=hhi (b+1) (by omega)
  simp at hb0 hb1
  simp
  refine AW.if' false rfl (fun e=>by cases e) (fun _=>.skip ?_)
  refine⟨seen++[k],h',⟨hnot,hlt',by simpa using hlo⟩,by simp at hle ⊢;omega,.of_sub ⟨?_,fun i=>?_,rfl,by simp⟩⟩
  ·simp[List.replicate,S86]
  ·simp only[S86,H86]
   by_cases h1:i<b
   ·exact .of_eq (by simp[h1])
   ·by_cases h2:i=b
    ·subst h2;exact .of_eq (by simp[hb0])
    ·by_cases h3:i=b+1
     ·subst h3;exact .inl (by simp[hb1])
     ·have:=hhi i (by omega)
      exact .of_eq (by simp[h1,h2,h3,this,H86])
 ·refine .seq (AW.if' false rfl (fun e=>by cases e) (fun _=>.exit ?_))
  simp only[qzdb,ablk,if_true]
  refine Post.norm (.here ?_ rfl ⟨seen,hnd,fun x=>⟨hlt x,hall x⟩,C.loc _ hb _ (fun i hi=>by simp[H86,hi]) hHC⟩)
  simp[rs86]
def outK(b:Nat)(l:List qza):AVal:=if l.length=0 then .nils else .vec (b+3) l.length 0 l.length
structure jzi6(b M eM:Nat)(es:List (AVal×AVal))(ts:List AVal)(ps:Array Tmp)(asg body:Code)(l:List qza)(h:qzl):Prop where
 hM:h M=.amap eM es
 h0:h b=.box 1 [outK b l]
 h1:(h (b+1)).plain
 h1':(h (b+2)).plain
 h2:(l.length=0→h (b+3)=.gone 0)∧(l.length≠0→∃f,h (b+3)=.vec l.length 3 l.length f∧∀k,k<l.length→f k=qzd qza.cells l k)
 h3:h (b+4)=.dfr 1
 h4:h (b+5)=.loop 1 .ready none ts ps asg body (b+4) 1
def T111(b:Nat)(F:AVal):List AVal:=.top :: .top :: .ptr b 1 0 :: .top :: .nils :: .top :: F :: .top :: List.replicate 5 .top
theorem jzho(b M eM:Nat)(es:List (AVal×AVal))(hes:es.length<1000000000000)(hM:M<b)(F:AVal)(ps:Array Tmp)(asg body:Code)(hps:ps.toList=[7])(hasg:qzg Tryz.prog asg (.reg false (wz8l b) [])=true)(hbody:qzg Tryz.prog body (jza6 b)=true) :
  jzfn (b+6) (b+5) 1 es.length (jzi6 b M eM es (T111 b F) ps asg body):=by
 refine⟨fun l h h' e H=>⟨(e M (by omega)).trans H.hM,(e b (by omega)).trans H.h0,by rw[e (b+1) (by omega)];exact H.h1,by rw[e (b+2) (by omega)];exact H.h1',by rw[e (b+3) (by omega)];exact H.h2,(e _ (by omega)).trans H.h3,(e _ (by omega)).trans H.h4⟩,fun l k h hlN H=>?_⟩
 have hM0:=H.hM
 have h00:=H.h0
 have h1:=H.h1
 have h1':=H.h1'
 have h4:=H.h4
 refine⟨T111 b F,ps,asg,body,b+4,1,H.h4,by rw[←Array.length_toList,hps];rfl,fun ρ=>?_⟩
 rw[hps]
 have n0:¬(b+4=b):=by omega
 refine(AW.r1 (ρ:=ρ) (pr:=[]) (by simp[wz8l,T111,qzli,List.replicate,wz5i,wz6f,-AObj.ep,-AObj.plain];exact⟨h1,rfl⟩) ?_:AW EE ρ Tryz.prog (.reg false (wz8l b) []) _ _) asg hasg
 refine⟨rfl,by simp[h4],?_⟩
 refine(AW.block (id:=1) ?_:AW EE ρ Tryz.prog (jza6 b) _ _) body hbody
 by_cases hl:l.length=0
 ·have h2:=H.h2.1 hl
  obtain rfl:l=[]:=List.eq_nil_of_length_eq_zero hl
  refine AW.r1 (by simp[jza4,h00,h1',h2,outK,wzu,qz5,kz1,wz5i,wz6f,wz8c,-AObj.ep,-AObj.plain];exact⟨trivial,rfl⟩) ?_
  refine⟨⟨none,by simp⟩,rfl,⟨?_,?_,?_,?_,?_,?_,?_⟩,fun i hi=>?_⟩
  ·simp[show ¬(M=b+5) by omega,show ¬(M=b) by omega,show ¬(M=b+3) by omega,show ¬(M=b+2) by omega,show ¬(M=b+1) by omega,hM0]
  ·simp[outK]
  ·simp
  ·simp
  ·refine⟨fun e=>by simp at e,fun _=>⟨_,by simp;rfl,fun j hj=>?_⟩⟩
   obtain rfl:j=0:=by simp at hj;omega
   simp[qzd]
  ·simp[H.h3]
  ·simp[T111,List.replicate]
  ·simp[show ¬(i=b+5) by omega,show ¬(i=b) by omega,show ¬(i=b+3) by omega,show ¬(i=b+2) by omega,show ¬(i=b+1) by omega]
 ·obtain⟨f,h2,hf⟩:=H.h2.2 hl
  have hln:¬(l=[]):=fun e=>hl (by simp[e])
  refine AW.r1 (by simp[jza4,h00,h1',h2,outK,hln,wzu,qz5,kz1,wz5i,wz6f,wz8c,-AObj.ep,-AObj.plain];exact⟨by omega,rfl⟩) ?_
  refine⟨⟨none,by simp⟩,rfl,⟨?_,?_,?_,?_,?_,?_,?_⟩,fun i hi=>?_⟩
  ·simp[show ¬(M=b+5) by omega,show ¬(M=b) by omega,show ¬(M=b+3) by omega,show ¬(M=b+2) by omega,show ¬(M=b+1) by omega,hM0]
  ·simp[outK]
  ·simp
  ·simp
  ·refine⟨fun e=>by simp at e,fun _=>⟨_,by simp;rfl,fun j hj=>?_⟩⟩
   rw[yzt]
   by_cases hj':j<l.length
   ·simp[hj',hf j hj']
   ·obtain rfl:j=l.length:=by simp at hj;omega
    simp[qzd]
  ·simp[H.h3]
  ·simp[T111,List.replicate]
  ·simp[show ¬(i=b+5) by omega,show ¬(i=b) by omega,show ¬(i=b+3) by omega,show ¬(i=b+2) by omega,show ¬(i=b+1) by omega]
theorem jzam(b M eM:Nat)(es:List (AVal×AVal))(ky:Nat→qza)(hM:M<b)(hes:es.length<1000000000000)(hk:∀k,k<es.length→(es.getD k (.top,.top)).1=.agg (qza.cells (ky k)))(h:qzl)
  (h2:h M=.amap eM es) (hp:∀i,b≤i→h i=.gone 0) :
  ATr EE Tryz.prog 111 [.nils,.fn 86 0 [keyC M eM]] h (fun v h'=>∃ord:List Nat,ord.Nodup∧(∀x,x∈ord↔x<es.length)∧v=outK b (ord.map ky)∧(ord≠[]→∃f,h' (b+3)=.vec ord.length 3 ord.length f∧∀k,k<ord.length→f k=qzd qza.cells (ord.map ky) k)∧h' M=.amap eM es):=by
 obtain⟨c,hbd,hc⟩:=jzjh
 refine ATr.of (fn:=Tryz.f111) rfl hbd jzje (hc b) 11 rfl ?_
 have p0:=hp b (Nat.le_refl _)
 have p1:=hp (b+1) (by omega)
 have p2:=hp (b+2) (by omega)
 have p3:=hp (b+3) (by omega)
 have p4:=hp (b+4) (by omega)
 have p5:=hp (b+5) (by omega)
 refine AW.sr (by simp[jzdr,p0];rfl) ?_
 refine .seq (AW.sr (by simp[jzde];rfl) ?_)
 refine .block (.see (.of_sub (S':=⟨T111 b (.fn 86 0 [keyC M eM]),_,[]⟩) ⟨?_,fun i=>.refl _,rfl,by simp⟩) (.rfunc (fi:=86) (caps:=[keyC M eM]) (b+4) (b+5) (by omega) (by simp[p4]) (by simp[p5]) (by simp[T111,List.replicate]) (by kernel_rfl) ?_))
 ·simp[T111,List.replicate]
 intro ps' asg body hps hasg hbody
 have e5:((hset h b (.box 1 [.nils])) (b+5)).ep+1=1:=by simp[p5]
 have e4:((hset h b (.box 1 [.nils])) (b+4)).ep+1=1:=by simp[p4]
 simp only[e4,e5]
 refine(jzd6 (b+6) (b+5) 1 M eM es ky (by omega) _ (jzho b M eM es hes hM (.fn 86 0 [keyC M eM]) ps' asg body hps hasg hbody) (fun l h H=>H.hM) hk _ ?_ ?_).mono ?_
 ·refine⟨?_,?_,?_,?_,?_,?_,?_⟩
  ·simp[show ¬(M=b+5) by omega,show ¬(M=b+4) by omega,show ¬(M=b) by omega,h2]
  ·simp[outK]
  ·simp[p1]
  ·simp[p2]
  ·simp[p3]
  ·simp
  ·simp
 ·intro i hi
  simp[show ¬(i=b+5) by omega,show ¬(i=b+4) by omega,show ¬(i=b) by omega,hp i (by omega)]
 rintro r h' ⟨ord,hnd,hall,H⟩
 have q0:=H.h0
 refine⟨.ready,none,by simp,H.h4,H.h3,by simp,?_⟩
 simp only[wza0,ablk,qzdb]
 have hol:(ord.map ky).length=ord.length:=by simp
 refine AW.sr (by simp[jzdj,T111,List.replicate,q0];rfl) ?_
 refine .ret ⟨_,.refl _,?_,hset (hset h' (b+5) (.gone 1)) (b+4) (.gone 1),fun i=>?_,?_,ord,hnd,hall,?_,?_,?_⟩
 ·simp[jzcv]
 ·by_cases hi:i=b+4
  ·subst hi;exact .inl (by simp[H.h3])
  ·exact .of_eq (by simp[hi])
 ·intro D hD
  simp at hD
  subst hD
  exact⟨1,by simp⟩
 ·simp[jzcv]
 ·intro hne
  obtain⟨f,q2,hf⟩:=H.h2.2 (by rw[hol];exact fun e=>hne (List.eq_nil_of_length_eq_zero e))
  refine⟨f,by simp[q2],fun k hk'=>hf k (by rw[hol];exact hk')⟩
 ·simp[show ¬(M=b+5) by omega,show ¬(M=b+4) by omega,H.hM]
theorem jzau(b M eM:Nat)(es:List (AVal×AVal))(ky:Nat→qza)(hM:M<b)(hes:es.length<1000000000000)(hk:∀k,k<es.length→(es.getD k (.top,.top)).1=.agg (qza.cells (ky k)))(h:qzl)
  (h2:h M=.amap eM es) (hp:∀i,b≤i→h i=.gone 0) :
  ATr EE Tryz.prog 84 [.fn 86 0 [keyC M eM]] h (fun v h'=>∃ord:List Nat,ord.Nodup∧(∀x,x∈ord↔x<es.length)∧v=outK b (ord.map ky)∧(ord≠[]→∃f,h' (b+3)=.vec ord.length 3 ord.length f∧∀k,k<ord.length→f k=qzd qza.cells (ord.map ky) k)∧h' M=.amap eM es):=by
 obtain⟨c,hbd,hc⟩:=ck84
 refine ATr.of (fn:=Tryz.f84) rfl hbd cr84 (hc b) 4 rfl ?_
 refine AW.sr (by simp[jzfa];rfl) ?_
 refine .seq (.reg ?_)
 simp[jzfm]
 refine(jzam b M eM es ky hM hes hk h h2 hp).mono ?_
 rintro r h' ⟨ord,hnd,hall,rfl,hf,hm1⟩
 refine .ret (.here ?_ rfl ⟨ord,hnd,hall,?_,hf,hm1⟩)<;>simp[rs84]
theorem jzf3{n:Nat}{ord:List Nat}(hnd:ord.Nodup)(h:∀x,x∈ord↔x<n):ord.Perm (List.range n):=by
 rw[List.perm_ext_iff_of_nodup hnd List.nodup_range]
 intro a;rw[h,List.mem_range]
theorem jzc5(F:AVal)(h:qzl):ATr EE Tryz.prog 147 [.nils,.int .i64 0,.int .i64 0,F] h (fun v h'=>v=.tup []∧h'=h):=by
 obtain⟨c,hbd,hc⟩:=jzk8
 refine ATr.of (fn:=Tryz.f147) rfl hbd jzkt (hc 0) 49 rfl ?_
 refine AW.sr (by simp[jzdx,List.replicate];rfl) ?_
 refine .block (.loop (fun _:Unit=>_) (fun _=>0) (fun _=>True) () trivial (.refl _) ?_)
 rintro⟨⟩ _
 refine .seq (AW.sr (by simp[jzdo];rfl) ?_)
 refine AW.if' false (by simp) (fun e=>by cases e) (fun _=>.exit ?_)
 simp only[qzdb,ablk,if_true]
 refine Post.norm (.here ?_ rfl ⟨?_,rfl⟩)<;>simp[jzfl]
theorem jzck(n:Int)(F:AVal)(h:qzl):ATr EE Tryz.prog 112 [.nils,.int .i64 0,.int .i64 0,.int .i64 n,F] h (fun v h'=>v=.tup []∧h'=h):=by
 obtain⟨c,hbd,hc⟩:=wzgi
 refine ATr.of (fn:=Tryz.f112) rfl hbd wzgb (hc 0) 143 rfl ?_
 refine AW.sr (by simp[qzx1,List.replicate];rfl) ?_
 refine AW.sr (by simp[qz0i];rfl) ?_
 refine .block (.loop (fun _:Unit=>_) (fun _=>0) (fun _=>True) () trivial (.refl _) ?_)
 rintro⟨⟩ _
 refine .block (AW.sr (by simp[qz2g];rfl) ?_)
 refine .seq (AW.sr (by simp[qzzr];rfl) ?_)
 refine AW.if' true (by simp) (fun _=>?_) (fun e=>by cases e)
 refine .seq (.reg ?_)
 simp[qz1r]
 refine(jzc5 F h).mono ?_
 rintro v h' ⟨rfl,rfl⟩
 refine .ret ?_
 simp only[qzdb,ablk]
 refine .here ?_ rfl ⟨?_,?_⟩<;>simp[qzex]
theorem jzcm(H113:qzq EE Tryz.prog 113 [.int .u64 0] (.int .i64 0))(F:AVal)(h:qzl):ATr EE Tryz.prog 85 [.nils,F] h (fun v h'=>v=.tup []∧h'=h):=by
 obtain⟨c,hbd,hc⟩:=ck85
 refine ATr.of (fn:=Tryz.f85) rfl hbd cr85 (hc 0) 12 rfl ?_
 refine AW.sr (by simp[wzuz,List.replicate];rfl) ?_
 refine .reg ?_
 simp[wzum]
 refine(H113 h).mono ?_
 rintro v h' ⟨rfl,rfl⟩
 (try simp)
 refine(jzck 0 F h').mono ?_
 rintro v h' ⟨rfl,rfl⟩
 refine Post.norm (.here ?_ rfl ⟨?_,rfl⟩)<;>simp[rs85]
section
variable {α:Type}{g:α→α→Option Int}
theorem wz6n(a:α):∀l,(wz3e g a l).Perm (a :: l)
 |[]=>.refl _
 |b :: l=>by
  unfold wz3e
  split
  ·exact((wz6n a l).cons b).trans (List.Perm.swap a b l)
  ·exact .refl _
theorem wz5q:∀l:List α,(wz3l g l).Perm l
 |[]=>.refl _
 |a :: l=>(wz6n a (wz3l g l)).trans ((wz5q l).cons a)
structure GOrd(g:α→α→Option Int)(K:List α):Prop where
 some:∀a b,a∈K→b∈K→∃c,g a b=some c
 irr:∀a,a∈K→gLt g a a=false
 tri:∀a b,a∈K→b∈K→gLt g a b=true∨gLt g b a=true∨a=b
 tr:∀a b c,a∈K→b∈K→c∈K→gLt g a b=true→gLt g b c=true→gLt g a c=true
theorem jzbu[DecidableEq α]{K:List α}(h:gOk g K=true):GOrd g K:=by
 unfold gOk at h
 have k:∀a b,a∈K→b∈K→(g a b).isSome=true∧gLt g a a=false∧(gLt g a b=true∨gLt g b a=true∨a=b)∧∀c,c∈K→gLt g a b=true→gLt g b c=true→gLt g a c=true:=by
  intro a b ha hb
  have:=List.all_eq_true.1 (List.all_eq_true.1 h a ha) b hb
  simp only[Bool.and_eq_true,Bool.not_eq_true',Bool.or_eq_true,decide_eq_true_eq,List.all_eq_true]at this
  obtain⟨⟨⟨h1,h2⟩,h3⟩,h4⟩:=this
  refine⟨h1,h2,by rcases h3 with (h|h)|h<;>simp[h],fun c hc p q=>?_⟩
  rcases h4 c hc with h|h
  ·rw[p,q]at h;cases h
  ·exact h
 exact⟨fun a b ha hb=>Option.isSome_iff_exists.1 (k a b ha hb).1,fun a ha=>(k a a ha ha).2.1,fun a b ha hb=>(k a b ha hb).2.2.1,fun a b c ha hb hc=>(k a b ha hb).2.2.2 c hc⟩
theorem GOrd.asym{K:List α}(H:GOrd g K){a b:α}(ha:a∈K)(hb:b∈K)(h:gLt g a b=true):gLt g b a=false:=by
 cases e:gLt g b a with
 |false=>rfl
 |true=>have:=H.tr a b a ha hb ha h e;rw[H.irr a ha]at this;cases this
theorem GOrd.ntr{K:List α}(H:GOrd g K){a b c:α}(ha:a∈K)(hb:b∈K)(hc:c∈K)(h:gLt g a b=false)(k:gLt g b c=false):gLt g a c=false:=by
 cases e:gLt g a c with
 |false=>rfl
 |true =>
  rcases H.tri a b ha hb with p|p|rfl
  ·rw[p]at h;cases h
  ·have:=H.tr b a c hb ha hc p e;rw[this]at k;cases k
  ·rw[e]at k;cases k
theorem GOrd.anti{K:List α}(H:GOrd g K){a b:α}(ha:a∈K)(hb:b∈K)(h:gLt g b a=false)(k:gLt g a b=false):a=b:=by
 rcases H.tri a b ha hb with p|p|p
 ·rw[p]at k;cases k
 ·rw[p]at h;cases h
 ·exact p
theorem wz65{K:List α}(H:GOrd g K){a:α}(ha:a∈K):∀l:List α,(∀x,x∈l→x∈K)→l.Pairwise (fun x y=>gLt g y x=false)→(wz3e g a l).Pairwise (fun x y=>gLt g y x=false)
 |[],_,_=>List.pairwise_singleton _ _
 |b :: l,hl,hp=>by
  obtain⟨h1,h2⟩:=List.pairwise_cons.1 hp
  have hb:=hl b (List.mem_cons_self ..)
  unfold wz3e
  split
  ·rename_i e
   refine List.pairwise_cons.2 ⟨fun c hc=>?_,wz65 H ha l (fun x hx=>hl x (List.mem_cons_of_mem _ hx)) h2⟩
   rcases List.mem_cons.1 ((wz6n a l).mem_iff.1 hc) with rfl|hc
   ·exact H.asym hb ha e
   ·exact h1 c hc
  ·rename_i e
   refine List.pairwise_cons.2 ⟨fun c hc=>?_,hp⟩
   rcases List.mem_cons.1 hc with rfl|hc
   ·exact e
   ·exact H.ntr (hl c (List.mem_cons_of_mem _ hc)) hb ha (h1 c hc) e
theorem wz7p{K:List α}(H:GOrd g K):∀l:List α,(∀x,x∈l→x∈K)→(wz3l g l).Pairwise (fun x y=>gLt g y x=false)
 |[],_=>List.Pairwise.nil
 |a :: l,h=>wz65 H (h a (List.mem_cons_self ..)) _ (fun x hx=>h x (List.mem_cons_of_mem _ ((wz5q l).mem_iff.1 hx))) (wz7p H l fun x hx=>h x (List.mem_cons_of_mem _ hx))
end
theorem ATr.wv{E:Nat→AVal}{P:Program}{f:FuncId}{args:List AVal}{h:qzl}{R R':AVal→qzl→Prop}(H:ATr E P f args h R)(hr:∀v h',R v h'→∃v',W v v'∧R' v' h'):ATr E P f args h R' :=
 fun g w vs hh hv=>(H g w vs hh hv).mono fun _ _ ⟨g',h',r,v,q,e,rv,rest⟩=>by
  obtain⟨v',w1,q'⟩:=hr r h' q
  exact⟨g',h',v',v,q',e,RV.w w1 rv,rest⟩
def qzqf(a:qza):List Value:=[.bool a.Neg,.string ⟨a.Num.toArray⟩,.string ⟨a.Den.toArray⟩]
theorem qz3i{g:Gh}{w:World}{b:Bool}{v:Value}(h:RV g w (.bool b) v):v=.bool b:=by cases h;rfl
theorem qzvv{g:Gh}{w:World}{s:List UInt8}{v:Value}(h:RV g w (.str s) v):v=.string ⟨s.toArray⟩:=by
 cases h with
 |str _ b hb=>subst hb;rfl
theorem qz1m(g:Gh)(w:World)(a:qza)(l:List Value)(h:RVs g w a.cells l):l=qzqf a:=by
 obtain⟨hl,hx⟩:=h
 match l,hl with
 |[u,v,x],_ =>
  have h0:=hx 0 _ _ rfl rfl
  have h1:=hx 1 _ _ rfl rfl
  have h2:=hx 2 _ _ rfl rfl
  rw[qz3i h0,qzvv h1,qzvv h2]
  rfl
theorem qz2w(g:Gh)(w:World)(a:qza):RVs g w a.cells (qzqf a) :=
 .cons (.bool _) (.cons (.str _ _ rfl) (.cons (.str _ _ rfl) (.nil _ _)))
theorem jzdk(g:qza→qza→Option Int)(F:FuncId)(eg:kzz Tryz.prog F=true)(hcmp:∀a b c,g a b=some c→qzq EE Tryz.prog F [.agg (qza.cells a),.agg (qza.cells b)] (.int .i64 c)){K:List qza}(H:GOrd g K)
  (L:List qza) (hL:L.Perm K) (hn:0<List.length L) (hlen:List.length L≤1000000000000) (h:qzl) (id ep:Nat) (f:Nat→List AVal) (hid:h id=.vec ep 3 (List.length L) f) (hf:∀k,k<List.length L→f k=qzd qza.cells L k) :
  ATr EE Tryz.prog 85 [.vec id ep 0 (List.length L),.fn F 0 []] h (fun v h'=>v=.tup []∧∃f',h'=hset h id (.vec ep 3 (List.length L) f')∧∀k,k<List.length L→f' k=qzd qza.cells (wz3l g K) k):=by
 let α:={a:qza // a∈L}
 have memK:∀a:α,a.1∈K:=fun a=>hL.mem_iff.1 a.2
 obtain⟨x0,hx0⟩:∃x,x∈L:=by
  cases L with
  |nil=>simp at hn
  |cons x t=>exact⟨x,by simp⟩
 have:Inhabited α:=⟨⟨x0,hx0⟩⟩
 have hsz:(L.attach.toArray).size=List.length L:=by rw[List.size_toArray];exact List.length_attach
 have hc:∀a b:α,g a.1 b.1=some ((g a.1 b.1).getD 0):=fun a b=>by
  obtain⟨c,hc⟩:=H.some a.1 b.1 (memK a) (memK b)
  simp only[hc,Option.getD_some]
 have hlt:∀a b:α,ltOf (fun a b:α=>(g a.1 b.1).getD 0) a b=gLt g a.1 b.1:=by
  intro a b
  unfold ltOf gLt
  rw[hc a b]
 have hswo:Go.Sort.SWO (ltOf (fun a b:α=>(g a.1 b.1).getD 0)):=by
  refine⟨fun a=>?_,fun a b c h1 h2=>?_,fun a b c h1 h2=>?_⟩
  ·rw[hlt];exact H.irr _ (memK a)
  ·rw[hlt]at *
   exact H.tr _ _ _ (memK a) (memK b) (memK c) h1 h2
  ·rw[hlt]at *
   exact H.ntr (memK a) (memK b) (memK c) h1 h2
 have main:=wzfu (E:=EE) Tryz.sortF0 3 (by omega) Tryz.isAgg27 Tryz.sizeOf27 (fun a:α=>a.1.cells) (fun a:α=>qzqf a.1) (fun _=>rfl) (fun _=>rfl)
  (fun a v hv=>by simp[qzqf]at hv;rcases hv with rfl | rfl | rfl<;>rfl) (fun g w a l hl=>qz1m g w a.1 l hl) (fun g w a=>qz2w g w a.1)
  (fun a b:α=>(g a.1 b.1).getD 0) hswo F (fun args w=>qzib eg args w)
  (fun a b=>hcmp a.1 b.1 _ (hc a b))
  (h:=h) (id:=id) (ep:=ep) (n:=List.length L) (f:=f) (d:=L.attach.toArray) hid hsz hn (by omega)
  (fun j hj=>by
   rw[hf j hj,qzo (List.getElem?_eq_getElem hj)]
   have:j<(L.attach.toArray).size:=by rw[hsz];exact hj
   rw[getElem!_pos _ j this]
   simp only[List.getElem_toArray]
   exact congrArg (fun a:α=>a.1.cells) (List.getElem_attach (xs:=L) (by rw[List.length_attach];exact hj)).symm)
 refine main.mono ?_
 rintro v h' ⟨rfl,d',hp,hs,rfl⟩
 refine⟨rfl,_,rfl,fun k hk=>?_⟩
 obtain⟨hp1,_,hp2⟩:=hp
 have hds:d'.size=List.length L:=by rw[hp1];exact hsz
 have gen:∀A:Array α,A.extract 0 A.size=A:=fun A=>by simp
 have e1:d'.extract 0 (List.length L)=d':=by rw[←hds];simp
 have e2:(L.attach.toArray).extract 0 (List.length L)=L.attach.toArray:=by
  rw[←hsz];exact gen _
 rw[e1,e2]at hp2
 have hp3:(d'.toList.map (·.1)).Perm L:=by
  have:=hp2.map (·.1)
  rwa [show(L.attach.toArray).toList=L.attach from rfl,List.attach_map_subtype_val]at this
 have hdr:d'.toList.map (·.1)=wz3l g K:=by
  refine List.Perm.eq_of_pairwise (le:=fun x y=>gLt g y x=false) (fun a b ha hb h1 h2=>?_) ?_ (wz7p H K fun x hx=>hx) ((hp3.trans hL).trans (wz5q K).symm)
  ·exact H.anti ((hp3.trans hL).mem_iff.1 ha) ((wz5q K).mem_iff.1 hb) h1 h2
  ·rw[List.pairwise_iff_getElem]
   intro i j hi hj hij
   have hi':i<d'.size:=by simpa using hi
   have hj':j<d'.size:=by simpa using hj
   have:=hs i j (Nat.zero_le _) hij (by rw[←hds];exact hj')
   rw[hlt,getElem!_pos d' i hi',getElem!_pos d' j hj']at this
   simpa using this
 have hk':k<d'.size:=by rw[hds];exact hk
 rw[getElem!_pos d' k hk',←hdr]
 have:(d'.toList.map (·.1))[k]?=some d'[k].1:=by simp[hk']
 rw[qzo this]
theorem jzbi(H113:qzq EE Tryz.prog 113 [.int .u64 0] (.int .i64 0))(g:qza→qza→Option Int)(F:FuncId)(l:List (qza×Int))(eg:l≠[]→kzz Tryz.prog F=true)(hcmp:∀a b c,g a b=some c→qzq EE Tryz.prog F [.agg (qza.cells a),.agg (qza.cells b)] (.int .i64 c))
  (M eM:Nat) (es:List (AVal×AVal)) (hes:es=l.map fun p=>(.agg (qza.cells p.1),.int .i64 p.2)) (r:List qza) (hr:wz2r l g=some r) (h:qzl) (h2:h M=.amap eM es) (hp:∀i,i≠M→h i=.gone 0) :
  ATr EE Tryz.prog 56 [.fn 86 0 [keyC M eM],.fn F 0 []] h (fun v h'=>v=slcV 3 qza.cells r∧∀i,i∈[M]→h' i=h i):=by
 unfold wz2r wz8q at hr
 cases hx:(gOk g (l.map (·.1))&&decide (List.length (l.map (·.1))<1000000000000))
 ·rw[hx]at hr;cases hr
 rw[hx]at hr
 obtain rfl:r=wz3l g (l.map (·.1)):=(Option.some.inj hr).symm
 simp only[Bool.and_eq_true,decide_eq_true_eq,List.length_map]at hx
 obtain⟨hok,hlen⟩:=hx
 have H:=jzbu hok
 have hel:List.length es=List.length l:=by rw[hes];simp
 have hk:∀k,k<es.length→(es.getD k (.top,.top)).1=.agg (qza.cells ((l.map (·.1)).getD k ⟨false,[],[]⟩)):=fun k hk=>by
  rw[hel]at hk
  subst hes
  simp[List.getD,hk]
 obtain⟨c,hbd,hc⟩:=ck56
 refine ATr.wv (R:=fun v h'=>W v (slcV 3 qza.cells (wz3l g (l.map (·.1))))∧∀i,i∈[M]→h' i=h i) ?_ (fun v h' q=>⟨_,q.1,rfl,q.2⟩)
 refine ATr.of (fn:=Tryz.f56) rfl hbd cr56 (hc (M+1)) 10 rfl ?_
 refine AW.sr (by simp[jzft];rfl) ?_
 refine .seq (.reg ?_)
 simp[jze4]
 refine(jzau (M+1) M eM es (fun k=>(l.map (·.1)).getD k ⟨false,[],[]⟩) (by omega) (by omega) hk h h2 (fun i hi=>hp i (by omega))).mono ?_
 rintro v h' ⟨ord,hnd,hall,rfl,hf,hm1⟩
 refine .seq (.reg ?_)
 have hpm:=jzf3 hnd hall
 have hL:(ord.map fun k=>(l.map (·.1)).getD k ⟨false,[],[]⟩).Perm (l.map (·.1)):=by
  have e1:(List.range es.length).map (fun k=>(l.map (·.1)).getD k ⟨false,[],[]⟩)=l.map (·.1):=by
   apply List.ext_getElem (by simp[hel])
   intro i h1 h2
   simp[hel]at h1
   simp[h1]
  have e2:=hpm.map (fun k=>(l.map (·.1)).getD k (⟨false,[],[]⟩:qza))
  rwa [e1]at e2
 have hll:List.length (ord.map fun k=>(l.map (·.1)).getD k (⟨false,[],[]⟩:qza))=List.length ord:=by simp
 generalize hLd:(ord.map fun k=>(l.map (·.1)).getD k (⟨false,[],[]⟩:qza))=L at *
 by_cases hn:ord=[]
 ·subst hn
  obtain rfl:L=[]:=by simpa using hLd.symm
  have hl0:l.map (·.1)=[]:=List.nil_perm.1 hL
  simp[jzco,outK]
  refine(jzcm H113 (.fn F 0 []) h').mono ?_
  rintro v h2' ⟨rfl,rfl⟩
  refine AW.sr (by simp[jzcj];rfl) ?_
  refine .ret (.here ?_ rfl ⟨?_,?_⟩)
  ·simp[rs56]
  ·simp[rs56]
   rw[hl0]
   exact .nil _ _
  ·simp[hm1,h2]
 ·obtain⟨f,q2,hf⟩:=hf hn
  have hpos:0<List.length ord:=by cases ord with | nil=>exact absurd rfl hn | cons=>simp
  have hne:l≠[]:=fun e=>by
   have:List.length ord=0:=by rw[hpm.length_eq,List.length_range,hel,e];rfl
   omega
  have hs:=jzdk g F (eg hne) hcmp H L hL (by omega) (by have:=hL.length_eq;simp at this;omega) h' (M+1+3) ord.length f (by rw[hll];exact q2) (fun k hk=>hf k (by omega))
  rw[hll]at hs
  simp[jzco,outK,hll,Nat.ne_of_gt hpos]
  refine ATr.mono hs ?_
  rintro v h2' ⟨rfl,f',rfl,hf'⟩
  refine AW.sr (by simp[jzcj];rfl) ?_
  refine .fz (M+1+3) (by simp) (by simp) ?_
  have hsl:List.length (wz3l g (l.map (·.1)))=List.length ord:=by rw[(wz5q _).length_eq,←hL.length_eq,hll]
  refine .ret (.here ?_ rfl ⟨?_,?_⟩)
  ·simp[rs56]
  ·simp[rs56]
   rw[qzh,qzpo]
   refine⟨rfl,hsl.symm,fun k hk=>?_⟩
   exact .of_eq (by simpa using hf' k (by omega))
  ·simp[hm1,h2,show ¬(M=M+1+3) by omega]
noncomputable def o56:Oc:=⟨56,86,.us 1,.int .i64,[.fn 6],[false],[.slc (.us 1)],fun l x=>kond (kond (Nat.beq x.nb 0) (Nat.beq x.caps.length 0) false) (wz2r l fun a b=>x.g (a,b)) none⟩
theorem jzjf(H113:qzq EE Tryz.prog 113 [.int .u64 0] (.int .i64 0))(l:List (qza×Int))(x:FnV 6)(y:List qza)(h:qzl)(id ep:Nat)(hF:kond (kond (Nat.beq x.nb 0) (Nat.beq x.caps.length 0) false) (wz2r l fun a b=>x.g (a,b)) none=some y)
  (hid:h id=.amap ep (l.map fun p=>(.agg (qza.cells p.1),.int .i64 p.2))):qzcd EE Tryz.prog 56 [.fn 86 0 [keyC id ep],.fn x.f x.nb x.caps] h [id] (slcV 3 qza.cells y):=by
 obtain⟨q,hF⟩:=wziq hF
 obtain⟨q1,q2⟩:=wzix q
 have q1:=wzir.1 q1
 have q2:x.caps=[]:=List.eq_nil_of_length_eq_zero (wzir.1 q2)
 rw[q1,q2]
 have hcm:∀a b c,x.g (a,b)=some c→kzz Tryz.prog x.f=true∧qzq EE Tryz.prog x.f [.agg (qza.cells a),.agg (qza.cells b)] (.int .i64 c):=fun a b c e=>by
  obtain⟨h1,h2⟩:=x.ok (a,b) c e
  rw[q1,q2]at h2
  exact⟨h1,h2⟩
 have hs:=ATr.frame (F:=[id]) (hs:=fun i=>if i=id then h id else .gone 0) (args:=[.fn 86 0 [keyC id ep],.fn x.f 0 []]) (r:=slcV 3 qza.cells y) (f:=56) (P:=Tryz.prog) hEE (fun i hi=>by simp at hi;simp[hi])
  (fun z hz=>by
   simp at hz
   rcases hz with rfl|rfl
   ·refine .fn _ _ _ fun z hz=>?_
    simp at hz;subst hz
    refine .cptr _ _ _ fun j hj=>?_
    obtain rfl:j=0:=by omega
    exact .mp _ _ (by simp)
   ·exact .fn _ _ _ fun z hz=>by cases hz)
  (fun i hi=>by
   obtain rfl:i=id:=by simpa using hi
   simp only[if_true,hid]
   intro e he
   obtain⟨p,_,rfl⟩:=List.mem_map.1 he
   refine⟨.agg _ fun z hz=>?_,.int _ _⟩
   simp[qza.cells]at hz
   rcases hz with rfl|rfl|rfl
   ·exact .bool _
   ·exact .str _
   ·exact .str _)
  (qzj fun a z hz=>nr1 a z hz)
  (jzbi H113 (fun a b=>x.g (a,b)) x.f l (fun hne=>by
    obtain⟨a,t,rfl⟩:∃a t,l=a :: t:=by
     cases l with
     |nil=>exact absurd rfl hne
     |cons a t=>exact⟨a,t,rfl⟩
    have hF2:=hF
    unfold wz2r wz8q at hF2
    cases hx:(gOk (fun a b=>x.g (a,b)) ((a :: t).map (·.1))&&decide (List.length ((a :: t).map (·.1))<1000000000000))
    ·rw[hx]at hF2;cases hF2
    simp only[Bool.and_eq_true]at hx
    obtain⟨c,hc⟩:=(jzbu hx.1).some a.1 a.1 (by simp) (by simp)
    exact(hcm _ _ _ hc).1) (fun a b c e=>(hcm a b c e).2) id ep _ rfl y hF (fun i=>if i=id then h id else .gone 0) (by simp[hid]) (fun i hi=>by simp[hi]))
 intro h' e
 exact hs h' fun j hj=>by
  have:=e j hj
  obtain rfl:j=id:=by simpa using hj
  rw[this];simp
theorem jzge(l:List (qza×Int)):mEs (.us 1) (.int .i64) l=l.map fun p=>(AVal.agg (qza.cells p.1),AVal.int .i64 p.2):=by kernel_rfl
end Go.Am

