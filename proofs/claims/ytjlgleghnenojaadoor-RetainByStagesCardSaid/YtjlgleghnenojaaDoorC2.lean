/- Part C2: contracts of some functions of this seat. No condition. -/
import Derived.Test.YtjlgleghnenojaaDoorC1
set_option linter.unusedSimpArgs false
set_option linter.unusedVariables false
set_option maxRecDepth 8000
namespace Go.Am
open Go.Proofs
attribute [local simp] areg aop dreg dop AOp.req argv argU AOp.args wze AOp.unAll Req.val Req.when putT putH qzdb ablk qzfc qzbd qzcj unc unv jzp vz1 ARes.ok vz5 ARes.val cut inr AOp.quiet
attribute [local simp] qzc0 qzbz qzcz qze2 qzer qzep qz08 kzp
attribute [local simp] jzeg VSub.refl TSub jzej
attribute [local simp] AObj.plain AObj.owned AObj.ep hset h0 wz9 qzbw wzk vz6 AVal.one lay jzv ldv fzv fzl fz1
theorem wz6u:∀(n:Nat) (l:List Nat),l.Nodup->(∀x,x∈l->x<n)->l.length<=n
 |0,l,_,h=>by
  cases l with
  |nil=>simp
  |cons x l=>exact absurd (h x (by simp)) (by omega)
 |n+1,l,hd,h=>by
  have h1:=wz6u n (l.erase n) (hd.erase n) (fun x hx=>by have h2:=(hd.mem_erase_iff).1 hx;have:=h x h2.2;omega);have:=List.length_erase_le (a:=n) (l:=l);by_cases hm:n∈l
  ·rw[List.length_erase_of_mem hm]at h1;omega
  ·rw[List.erase_of_not_mem hm]at h1;omega
structure jzfn(b L e N:Nat)(HC:List Int->qzl->Prop):Prop where
 loc:∀l h h',(∀i,i<b->h' i=h i)->HC l h->HC l h'
 round:∀l k h,l.length<N->HC l h->qzhp EE Tryd.prog L e [.int .i64 k] h (fun v h'=>v=.bool true/\HC (l++[k]) h'/\∀i,b<=i->h' i=h i)
def H54(b M eM n:Nat)(seen:List Nat)(hb:qzl):qzl:=fun i=>if i<b then hb i else if i=b then .miter 1 (some (M,eM,n)) seen else .gone 0
def S54(b L e M eM n:Nat)(x:List Nat×qzl):ASt:=⟨.yld L e :: keyC M eM :: .top :: .top :: .top :: .ptr b 1 0 :: List.replicate 8 .top,H54 b M eM n x.1 x.2,[]⟩
theorem kztz(b L e M eM n:Nat)(x:List Nat×qzl):S54 b L e M eM n x=⟨.yld L e :: keyC M eM :: .top :: .top :: .top :: .ptr b 1 0 :: List.replicate 8 .top,H54 b M eM n x.1 x.2,[]⟩:=rfl
theorem kzp4(b L e M eM:Nat)(es:List (AVal×AVal))(ky:Nat->Int)(hM:M<b)(HC:List Int->qzl->Prop)(C:jzfn b L e es.length HC)(hMo:∀l h,HC l h->h M=.amap eM es) (hk:∀k,k<es.length->(es.getD k (.top,.top)).1=.int .i64 (ky k)) (h:qzl) (hh:HC [] h) (hp:∀i,b<=i->h i=.gone 0) :
  ATr EE Tryd.prog 54 [.yld L e,keyC M eM] h (fun v h'=>∃ord:List Nat,ord.Nodup/\(∀x,x∈ord↔x<es.length)/\HC (ord.map ky) h'):=by
 obtain⟨c,hbd,hc⟩:=ck54;refine ATr.of (fn:=Tryd.f54) rfl hbd cr54 (hc b) 12 rfl ?_;have p0:=hp b (Gcy _);have o2:=hMo _ _ hh;have hMb:¬(M=b):=by omega
 refine AW.sr (by simp[jzun,keyC,o2,qzi6,p0];rfl) ?_;refine .block (.loop (S54 b L e M eM es.length) (fun x=>es.length-x.1.length) (fun x=>x.1.Nodup/\(∀j,j∈x.1->j<es.length)/\HC (x.1.map ky) x.2) ([],h) ⟨.nil,(by intro j hj;cases hj),hh⟩ (.of_sub ⟨?_,fun i=>.of_eq ?_,rfl,by simp⟩) ?_)
 ·simp[List.replicate,S54,keyC]
 ·simp only[S54,H54];by_cases h1:i<b
  ·simp[h1,show ¬(i=b) by omega]
  ·by_cases h2:i=b;·subst h2;simp
   ·have:=hp i (by omega);simp[h1,h2,this]
 rintro⟨seen,hb⟩ ⟨hnd,hlt,hHC⟩;simp only at hnd hlt hHC;have q2:=hMo _ _ hHC;have eM1:H54 b M eM es.length seen hb M=.amap eM es:=by simp[H54,hM,q2]
 have eb1:H54 b M eM es.length seen hb b=.miter 1 (some (M,eM,es.length)) seen:=by simp[H54]
 refine .seq (.reg ?_);simp[jzui,kztz _ _ _ _ _ _ (seen,hb),List.replicate,qznp,eM1,eb1];refine⟨fun k hk1 hk2=>?_,fun hall=>?_⟩
 ·have hkk:es[k].fst=.int .i64 (ky k):=by have:=hk k hk1;simpa [hk1] using this
  refine .seq (AW.if' true rfl (fun _=>AW.skip ?_) (fun e=>by cases e));have hnot:(seen++[k]).Nodup:=by rw[List.nodup_append];exact⟨hnd,by simp,fun x hx y hy=>by simp at hy;subst hy;intro e;subst e;exact hk2 hx⟩
  have hlt':∀j,j∈seen++[k]->j<es.length:=by
   intro j hj;rcases Gb2.1 hj with h|h
   ·exact hlt j h
   ·simp at h;omega
  have hle:=wz6u _ _ hnot hlt';refine .block (AW.sr (by simp[jzsy,qzgb,hMb,eM1];simp[hk1,hkk];rfl) (.seq (.reg ?_)));simp[jzs5];refine(C.round (seen.map ky) (ky k) _ (by simp at hle ⊢;omega) (C.loc _ hb _ (fun i hi=>by simp[H54,hi,show ¬(i=b) by omega]) hHC)).imp ?_;rintro v h' ⟨rfl,hlo,hhi⟩;have hb0:=hhi b (Gcy _);simp at hb0;simp;refine AW.if' false rfl (fun e=>by cases e) (fun _=>.skip ?_);refine⟨seen++[k],h',⟨hnot,hlt',by simpa using hlo⟩,by simp at hle ⊢;omega,.of_sub ⟨?_,fun i=>?_,rfl,by simp⟩⟩
  ·simp[List.replicate,S54]
  ·simp only[S54,H54];by_cases h1:i<b
   ·exact .of_eq (by simp[h1])
   ·by_cases h2:i=b;·subst h2;exact .of_eq (by simp[hb0])
    ·have:=hhi i (by omega);exact .of_eq (by simp[h1,h2,this,H54])
 ·refine .seq (AW.if' false rfl (fun e=>by cases e) (fun _=>.exit ?_));simp only[qzdb,ablk,Gd5];refine Post.norm (.here ?_ rfl ⟨seen,hnd,fun x=>⟨hlt x,hall x⟩,C.loc _ hb _ (fun i hi=>by simp[H54,hi]) hHC⟩);simp[rs54]
def outK(b:Nat)(l:List Int):AVal:=if l.length=0 then .nils else .vec (b+2) l.length 0 l.length
structure HC65(b M eM:Nat)(es:List (AVal×AVal))(ts:List AVal)(ps:Array Tmp)(asg body:Code)(l:List Int)(h:qzl):Prop where
 hM:h M=.amap eM es
 h0:h b=.box 1 [outK b l]
 h1:(h (b+1)).plain
 h2:(l.length=0->h (b+2)=.gone 0)/\(l.length≠0->∃f,h (b+2)=.vec l.length 1 l.length f/\∀k,k<l.length->f k=qzd (cI .i64) l k)
 h3:h (b+3)=.dfr 1
 h4:h (b+4)=.loop 1 .ready none ts ps asg body (b+3) 1
def T65(b:Nat)(F:AVal):List AVal:=.top :: .top :: .ptr b 1 0 :: .top :: .nils :: .top :: F :: .top :: List.replicate 5 .top
theorem kzu0(b M eM:Nat)(es:List (AVal×AVal))(hes:es.length<1000000000000)(hM:M<b)(F:AVal)(ps:Array Tmp)(asg body:Code)(hps:ps.toList=[7])(hasg:qzg Tryd.prog asg (.reg false (wzb7 b) [])=true)(hbody:qzg Tryd.prog body (qz4b b)=true) :
  jzfn (b+5) (b+4) 1 es.length (HC65 b M eM es (T65 b F) ps asg body):=by
 refine⟨fun l h h' e H=>⟨(e M (by omega)).trans H.hM,(e b (by omega)).trans H.h0,by rw[e (b+1) (by omega)];exact H.h1,by rw[e (b+2) (by omega)];exact H.h2,(e _ (by omega)).trans H.h3,(e _ (by omega)).trans H.h4⟩,fun l k h hlN H=>?_⟩;have hM0:=H.hM;have h00:=H.h0;have h1:=H.h1;have h4:=H.h4;refine⟨T65 b F,ps,asg,body,b+3,1,H.h4,by rw[<-Array.length_toList,hps];rfl,fun U=>?_⟩;rw[hps];have n0:¬(b+4=b):=by omega
 refine(AW.r1 (U:=U) (pr:=[]) (by simp[wzb7,T65,qzli,List.replicate];rfl) ?_:AW EE U Tryd.prog (.reg false (wzb7 b) []) _ _) asg hasg;refine⟨rfl,h4,?_⟩;refine(AW.block (id:=1) ?_:AW EE U Tryd.prog (qz4b b) _ _) body hbody;by_cases hl:l.length=0
 ·have h2:=H.h2.1 hl;obtain rfl:l=[]:=Ga6 hl;refine AW.r1 (by simp[wzco,h00,h1,h2,outK,wzu,qz5,kz1,-AObj.ep,-AObj.plain];exact⟨trivial,rfl⟩) ?_;refine⟨⟨none,by simp⟩,rfl,⟨?_,?_,?_,?_,?_,?_⟩,fun i hi=>?_⟩
  ·simp[show ¬(M=b+4) by omega,show ¬(M=b) by omega,show ¬(M=b+2) by omega,show ¬(M=b+1) by omega,hM0]
  ·simp[outK]
  ·simp
  ·refine⟨fun e=>by simp at e,fun _=>⟨_,by simp;rfl,fun j hj=>?_⟩⟩;obtain rfl:j=0:=by simp at hj;omega
   simp[qzd,cI]
  ·simp[H.h3]
  ·simp[T65,List.replicate]
  ·simp[show ¬(i=b+4) by omega,show ¬(i=b) by omega,show ¬(i=b+2) by omega,show ¬(i=b+1) by omega]
 ·obtain⟨f,h2,hf⟩:=H.h2.2 hl;have hln:¬(l=[]):=fun e=>hl (by simp[e]);refine AW.r1 (by simp[wzco,h00,h1,h2,outK,hln,wzu,qz5,kz1,-AObj.ep,-AObj.plain];exact⟨by omega,rfl⟩) ?_;refine⟨⟨none,by simp⟩,rfl,⟨?_,?_,?_,?_,?_,?_⟩,fun i hi=>?_⟩
  ·simp[show ¬(M=b+4) by omega,show ¬(M=b) by omega,show ¬(M=b+2) by omega,show ¬(M=b+1) by omega,hM0]
  ·simp[outK]
  ·simp
  ·refine⟨fun e=>by simp at e,fun _=>⟨_,by simp;rfl,fun j hj=>?_⟩⟩;rw[yzt];by_cases hj':j<l.length
   ·simp[hj',hf j hj']
   ·obtain rfl:j=l.length:=by simp at hj;omega
    simp[qzd,cI]
  ·simp[H.h3]
  ·simp[T65,List.replicate]
  ·simp[show ¬(i=b+4) by omega,show ¬(i=b) by omega,show ¬(i=b+2) by omega,show ¬(i=b+1) by omega]
theorem kzod(b M eM:Nat)(es:List (AVal×AVal))(ky:Nat->Int)(hM:M<b)(hes:es.length<1000000000000)(hk:∀k,k<es.length->(es.getD k (.top,.top)).1=.int .i64 (ky k))(h:qzl)(h2:h M=.amap eM es) (hp:∀i,b<=i->h i=.gone 0) :
  ATr EE Tryd.prog 65 [.nils,.fn 54 0 [keyC M eM]] h (fun v h'=>∃ord:List Nat,ord.Nodup/\(∀x,x∈ord↔x<es.length)/\v=outK b (ord.map ky)/\(ord≠[]->∃f,h' (b+2)=.vec ord.length 1 ord.length f/\∀k,k<ord.length->f k=qzd (cI .i64) (ord.map ky) k)/\h' M=.amap eM es):=by
 obtain⟨c,hbd,hc⟩:=ck65;refine ATr.of (fn:=Tryd.f65) rfl hbd cr65 (hc b) 11 rfl ?_;have p0:=hp b (Gcy _);have p1:=hp (b+1) (by omega);have p2:=hp (b+2) (by omega);have p3:=hp (b+3) (by omega);have p4:=hp (b+4) (by omega);refine AW.sr (by simp[qz55,p0];rfl) ?_;refine .seq (AW.sr (by simp[qz9q];rfl) ?_);refine .block (.see (.of_sub (S':=⟨T65 b (.fn 54 0 [keyC M eM]),_,[]⟩) ⟨?_,fun i=>.refl _,rfl,by simp⟩) (.rfunc (fi:=54) (caps:=[keyC M eM]) (b+3) (b+4) (by omega) (by simp[p3]) (by simp[p4]) (by simp[T65,List.replicate]) (by kernel_rfl) ?_))
 ·simp[T65,List.replicate]
 intro ps' asg body hps hasg hbody;have e5:((hset h b (.box 1 [.nils])) (b+4)).ep+1=1:=by simp[p4]
 have e4:((hset h b (.box 1 [.nils])) (b+3)).ep+1=1:=by simp[p3]
 simp only[e4,e5];refine(kzp4 (b+5) (b+4) 1 M eM es ky (by omega) _ (kzu0 b M eM es hes hM (.fn 54 0 [keyC M eM]) ps' asg body hps hasg hbody) (fun l h H=>H.hM) hk _ ?_ ?_).mono ?_
 ·refine⟨?_,?_,?_,?_,?_,?_⟩;·simp[show ¬(M=b+4) by omega,show ¬(M=b+3) by omega,show ¬(M=b) by omega,h2]
  ·simp[outK]
  ·simp[p1]
  ·simp[p2]
  ·simp
  ·simp
 ·intro i hi;simp[show ¬(i=b+4) by omega,show ¬(i=b+3) by omega,show ¬(i=b) by omega,hp i (by omega)]
 rintro r h' ⟨ord,hnd,hall,H⟩;have q0:=H.h0;refine⟨.ready,none,by simp,H.h4,H.h3,by simp,?_⟩;simp only[wza0,ablk,qzdb];have hol:(ord.map ky).length=ord.length:=by simp
 refine AW.sr (by simp[wzag,T65,List.replicate,q0];rfl) ?_;refine .ret ⟨_,.refl _,?_,hset (hset h' (b+4) (.gone 1)) (b+3) (.gone 1),fun i=>?_,?_,ord,hnd,hall,?_,?_,?_⟩
 ·simp[rs65]
 ·by_cases hi:i=b+3;·subst hi;exact .inl (by simp[H.h3])
  ·exact .of_eq (by simp[hi])
 ·intro D hD;simp at hD;subst hD;exact⟨1,by simp⟩
 ·simp[rs65]
 ·intro hne;obtain⟨f,q2,hf⟩:=H.h2.2 (by rw[hol];exact fun e=>hne (Ga6 e));refine⟨f,by simp[q2],fun k hk'=>hf k (by rw[hol];exact hk')⟩
 ·simp[show ¬(M=b+4) by omega,show ¬(M=b+3) by omega,H.hM]
theorem kznv(b M eM:Nat)(es:List (AVal×AVal))(ky:Nat->Int)(hM:M<b)(hes:es.length<1000000000000)(hk:∀k,k<es.length->(es.getD k (.top,.top)).1=.int .i64 (ky k))(h:qzl)(h2:h M=.amap eM es) (hp:∀i,b<=i->h i=.gone 0) :
  ATr EE Tryd.prog 52 [.fn 54 0 [keyC M eM]] h (fun v h'=>∃ord:List Nat,ord.Nodup/\(∀x,x∈ord↔x<es.length)/\v=outK b (ord.map ky)/\(ord≠[]->∃f,h' (b+2)=.vec ord.length 1 ord.length f/\∀k,k<ord.length->f k=qzd (cI .i64) (ord.map ky) k)/\h' M=.amap eM es):=by
 obtain⟨c,hbd,hc⟩:=ck52;refine ATr.of (fn:=Tryd.f52) rfl hbd cr52 (hc b) 4 rfl ?_;refine AW.sr (by simp[qz5d];rfl) ?_;refine .seq (.reg ?_);simp[qz46];refine(kzod b M eM es ky hM hes hk h h2 hp).mono ?_;rintro r h' ⟨ord,hnd,hall,rfl,hf,hm1⟩;refine .ret (.here ?_ rfl ⟨ord,hnd,hall,?_,hf,hm1⟩)<;>simp[rs52]
theorem jzf3{n:Nat}{ord:List Nat}(hnd:ord.Nodup)(h:∀x,x∈ord↔x<n):ord.Perm (List.range n):=by rw[List.perm_ext_iff_of_nodup hnd List.nodup_range];intro a;rw[h,Gcb]
theorem kzrn(h:qzl):ATr EE Tryd.prog 69 [.nils,.int .i64 0,.int .i64 0] h (fun v h'=>v=.tup []/\h'=h):=by obtain⟨c,hbd,hc⟩:=ck69;refine ATr.of (fn:=Tryd.f69) rfl hbd cr69 (hc 0) 46 rfl ?_;refine AW.sr (by simp[wzcm,List.replicate];rfl) ?_;refine .block (.loop (fun _:Unit=>_) (fun _=>0) (fun _=>True) () trivial (.refl _) ?_);rintro⟨⟩ _;refine .seq (AW.sr (by simp[qz64];rfl) ?_);refine AW.if' false (by simp) (fun e=>by cases e) (fun _=>.exit ?_);simp only[qzdb,ablk,Gd5];refine Post.norm (.here ?_ rfl ⟨?_,rfl⟩)<;>simp[rs69]
theorem kzpf(n:Int)(h:qzl):ATr EE Tryd.prog 66 [.nils,.int .i64 0,.int .i64 0,.int .i64 n] h (fun v h'=>v=.tup []/\h'=h):=by obtain⟨c,hbd,hc⟩:=ck66;refine ATr.of (fn:=Tryd.f66) rfl hbd cr66 (hc 0) 130 rfl ?_;refine AW.sr (by simp[wzb6,List.replicate];rfl) ?_;refine AW.sr (by simp[qz6m];rfl) ?_;refine .block (.loop (fun _:Unit=>_) (fun _=>0) (fun _=>True) () trivial (.refl _) ?_);rintro⟨⟩ _;refine .block (AW.sr (by simp[qz6c];rfl) ?_);refine .seq (AW.sr (by simp[kzs3];rfl) ?_);refine AW.if' true (by simp) (fun _=>?_) (fun e=>by cases e);refine .seq (.reg ?_);simp[kzth];refine(kzrn h).mono ?_;rintro v h' ⟨rfl,rfl⟩;refine .ret ?_;simp only[qzdb,ablk];refine .here ?_ rfl ⟨?_,?_⟩<;>simp[rs66]
theorem kzoy(H67:qzq EE Tryd.prog 67 [.int .u64 0] (.int .i64 0))(h:qzl):ATr EE Tryd.prog 53 [.nils] h (fun v h'=>v=.tup []/\h'=h):=by
 obtain⟨c,hbd,hc⟩:=ck53;refine ATr.of (fn:=Tryd.f53) rfl hbd cr53 (hc 0) 10 rfl ?_;refine AW.sr (by simp[qz62,List.replicate];rfl) ?_;refine .reg ?_;simp[wzby];refine(H67 h).mono ?_;rintro v h' ⟨rfl,rfl⟩
 (try simp)
 refine(kzpf 0 h').mono ?_;rintro v h' ⟨rfl,rfl⟩;refine Post.norm (.here ?_ rfl ⟨?_,rfl⟩)<;>simp[rs53]
theorem ATr.wv{E:Nat->AVal}{P:Program}{f:FuncId}{args:List AVal}{h:qzl}{R R':AVal->qzl->Prop}(H:ATr E P f args h R)(hr:∀v h',R v h'->∃v',W v v'/\R' v' h'):ATr E P f args h R' :=
 fun g w vs hh hv=>(H g w vs hh hv).mono fun _ _ ⟨g',h',r,v,q,e,rv,rest⟩=>by obtain⟨v',w1,q'⟩:=hr r h' q;exact⟨g',h',v',v,q',e,RV.w w1 rv,rest⟩
theorem jzqe(a:Int):∀l,(jzov a l).Perm (a :: l)
 |[]=>.refl _
 |b :: l=>by
  unfold jzov;cases decide (a<=b)
  ·exact((jzqe a l).cons b).trans (List.Perm.swap a b l)
  ·exact .refl _
theorem jzxd:∀l,(jzpf l).Perm l
 |[]=>.refl _
 |a :: l=>(jzqe a (jzpf l)).trans ((jzxd l).cons a)
theorem jzqw(a:Int):∀l:List Int,l.Pairwise (·<=·)->(jzov a l).Pairwise (·<=·)
 |[],_=>Gch _ _
 |b :: l,hp=>by
  obtain⟨h1,h2⟩:=Gcf.1 hp;unfold jzov;cases hd:decide (a<=b)
  ·have hd:=of_decide_eq_false hd;refine Gcf.2 ⟨fun c hc=>?_,jzqw a l h2⟩;rcases Gb3.1 ((jzqe a l).mem_iff.1 hc) with rfl|hc
   ·omega
   ·exact h1 c hc
  ·have hd:=Gd7 hd;refine Gcf.2 ⟨fun c hc=>?_,hp⟩;rcases Gb3.1 hc with rfl|hc
   ·exact hd
   ·have:=h1 c hc;omega
theorem jzrf:∀l:List Int,(jzpf l).Pairwise (·<=·)
 |[]=>List.Pairwise.nil
 |a :: l=>jzqw a _ (jzrf l)
theorem jzsr{l m:List Int}(h:l.Perm m):jzpb l=jzpf m:=by
 have tr:∀a b c:Int,decide (a<=b)=true->decide (b<=c)=true->decide (a<=c)=true:=by intro a b c h1 h2;simp at *;omega
 have tot:∀a b:Int,(decide (a<=b)||decide (b<=a))=true:=by intro a b;simp;omega
 have p1:=List.pairwise_mergeSort tr tot l;have pm:(jzpb l).Perm (jzpf m):=(List.mergeSort_perm l _).trans (h.trans (jzxd m).symm);exact pm.eq_of_pairwise (le:=fun a b=>a<=b) (fun a b _ _ h1 h2=>by omega) (p1.imp fun h=>by simpa using h) (jzrf m)
theorem kzqm(L:List Int)(hn:0<List.length L)(hlen:List.length L<=1000000000000)(h:qzl)(id ep:Nat)(f:Nat->List AVal)(hid:h id=.vec ep 1 (List.length L) f)(hf:∀k,k<List.length L->f k=qzd (cI .i64) L k){K:List Int}(hL:L.Perm K) :
  ATr EE Tryd.prog 53 [.vec id ep 0 (List.length L)] h (fun v h'=>v=.tup []/\∃f',h'=hset h id (.vec ep 1 (List.length L) f')/\∀k,k<List.length L->f' k=qzd (cI .i64) (jzpf K) k):=by
 have hs:=jzt0 (E:=EE) Tryd.lays189 (h:=h) (id:=id) (ep:=ep) (n:=List.length L) (f:=f) (a:=fun k=>L.getD k 0) hid hn (by omega) (fun k hk=>by rw[hf k hk,qzo (Gbe hk)];simp[cI,hk]);refine hs.mono ?_;rintro v h' ⟨rfl,rfl⟩;have e1:jzof (List.length L) (fun k=>L.getD k 0)=L:=by apply List.ext_getElem (by simp[jzof]);intro i h1 h2;simp[jzof]at h1 ⊢;simp[h1]
 refine⟨rfl,_,rfl,fun k hk=>?_⟩;rw[e1,jzsr hL];have hk':k<(jzpf K).length:=by rw[(jzxd K).length_eq,<-hL.length_eq];exact hk
 rw[qzo (Gbe hk')];simp[cI,hk']
def k67:Fc:=⟨67,[(.int .u64)],[false],[(.int .i64)],fun x=>jzc7 x⟩
theorem kzn8(H67:qzq EE Tryd.prog 67 [.int .u64 0] (.int .i64 0))(l:List (Int×Int))(M eM:Nat)(es:List (AVal×AVal))(hes:es=l.map fun p=>(.int .i64 p.1,.int .i64 p.2))(r:List Int)(hr:jzoa l=some r)(h:qzl)(h2:h M=.amap eM es)(hp:∀i,i≠M->h i=.gone 0) :
  ATr EE Tryd.prog 35 [.fn 54 0 [keyC M eM]] h (fun v h'=>v=slcV 1 (cI .i64) r/\∀i,i∈[M]->h' i=h i):=by
 unfold jzoa at hr;cases hx:decide (List.length l<=1000000000)
 ·rw[hx]at hr;cases hr
 rw[hx]at hr;obtain rfl:r=jzpf (l.map (·.1)):=(Gdp hr).symm;have hlen:=Gd7 hx;have hel:List.length es=List.length l:=by rw[hes];simp
 have hk:∀k,k<es.length->(es.getD k (.top,.top)).1=.int .i64 ((l.map (·.1)).getD k 0):=fun k hk=>by rw[hel]at hk;subst hes;simp[List.getD,hk]
 obtain⟨c,hbd,hc⟩:=ck35;refine ATr.wv (R:=fun v h'=>W v (slcV 1 (cI .i64) (jzpf (l.map (·.1))))/\∀i,i∈[M]->h' i=h i) ?_ (fun v h' q=>⟨_,q.1,rfl,q.2⟩);refine ATr.of (fn:=Tryd.f35) rfl hbd cr35 (hc (M+1)) 8 rfl ?_;refine AW.sr (by simp[qz8h];rfl) ?_;refine .seq (.reg ?_);simp[qz6q];refine(kznv (M+1) M eM es (fun k=>(l.map (·.1)).getD k 0) (by omega) (by omega) hk h h2 (fun i hi=>hp i (by omega))).mono ?_;rintro v h' ⟨ord,hnd,hall,rfl,hf,hm1⟩;refine .seq (.reg ?_);have hpm:=jzf3 hnd hall
 have hL:(ord.map fun k=>(l.map (·.1)).getD k 0).Perm (l.map (·.1)):=by
  have e1:(List.range es.length).map (fun k=>(l.map (·.1)).getD k 0)=l.map (·.1):=by apply List.ext_getElem (by simp[hel]);intro i h1 h2;simp[hel]at h1;simp[h1]
  have e2:=hpm.map (fun k=>(l.map (·.1)).getD k (0:Int))
  rwa [e1]at e2
 have hll:List.length (ord.map fun k=>(l.map (·.1)).getD k (0:Int))=List.length ord:=by simp
 generalize hLd:(ord.map fun k=>(l.map (·.1)).getD k (0:Int))=L at *;by_cases hn:ord=[]
 ·subst hn;obtain rfl:L=[]:=by simpa using hLd.symm
  have hl0:l.map (·.1)=[]:=List.nil_perm.1 hL;simp[kzhi,outK];refine(kzoy H67 h').mono ?_;rintro v h2' ⟨rfl,rfl⟩;refine AW.sr (by simp[kzhh];rfl) ?_;refine .ret (.here ?_ rfl ⟨?_,?_⟩)
  ·simp[rs35]
  ·simp[rs35];rw[hl0];exact .nil _ _
  ·simp[hm1,h2]
 ·obtain⟨f,q2,hf⟩:=hf hn;have hpos:0<List.length ord:=by cases ord with | nil=>exact absurd rfl hn | cons=>simp
  have hs:=kzqm L (by omega) (by have:=hL.length_eq;simp at this;omega) h' (M+1+2) ord.length f (by rw[hll];exact q2) (fun k hk=>hf k (by omega)) hL;rw[hll]at hs;simp[kzhi,outK,hll,Nat.ne_of_gt hpos];refine ATr.mono hs ?_;rintro v h2' ⟨rfl,f',rfl,hf'⟩;refine AW.sr (by simp[kzhh];rfl) ?_;refine .fz (M+1+2) (by simp) (by simp) ?_;have hsl:List.length (jzpf (l.map (·.1)))=List.length ord:=by rw[(jzxd _).length_eq,<-hL.length_eq,hll]
  refine .ret (.here ?_ rfl ⟨?_,?_⟩)
  ·simp[rs35]
  ·simp[rs35];rw[qzh,qzpo];refine⟨rfl,hsl.symm,fun k hk=>?_⟩;exact .of_eq (by simpa using hf' k (by omega))
  ·simp[hm1,h2,show ¬(M=M+1+2) by omega]
theorem kzv6(H67:qzq EE Tryd.prog 67 [.int .u64 0] (.int .i64 0))(l:List (Int×Int))(y:List Int)(h:qzl)(id ep:Nat)(hF:jzoa l=some y)(hid:h id=.amap ep (l.map fun p=>(.int .i64 p.1,.int .i64 p.2))):qzcd EE Tryd.prog 35 [.fn 54 0 [keyC id ep]] h [id] (slcV 1 (cI .i64) y):=by
 have hs:=ATr.frame (F:=[id]) (hs:=fun i=>if i=id then h id else .gone 0) (args:=[.fn 54 0 [keyC id ep]]) (r:=slcV 1 (cI .i64) y) (f:=35) (P:=Tryd.prog) hEE (fun i hi=>by simp at hi;simp[hi])
  (fun z hz=>by
   simp at hz;subst hz;refine .fn _ _ _ fun z hz=>?_;simp at hz;subst hz;refine .cptr _ _ _ fun j hj=>?_;obtain rfl:j=0:=by omega
   exact .mp _ _ (by simp))
  (fun i hi=>by
   obtain rfl:i=id:=by simpa using hi
   simp only[Gd5,hid];intro e he;obtain⟨p,_,rfl⟩:=Gb7.1 he;exact⟨.int _ _,.int _ _⟩)
  (qzj fun a z hz=>by simp[cI]at hz;subst hz;exact .int _ _)
  (kzn8 H67 l id ep _ rfl y hF (fun i=>if i=id then h id else .gone 0) (by simp[hid]) (fun i hi=>by simp[hi]))
 intro h' e
 exact hs h' fun j hj=>by
  have:=e j hj;obtain rfl:j=id:=by simpa using hj
  rw[this];simp
end Go.Am

