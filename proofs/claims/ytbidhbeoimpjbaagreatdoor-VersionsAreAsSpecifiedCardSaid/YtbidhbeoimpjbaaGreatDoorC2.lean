/- Part C2: contracts of some functions of this seat. No condition. -/
import Derived.Test.YtbidhbeoimpjbaaGreatDoorC1
set_option linter.unusedSimpArgs false
set_option linter.unusedVariables false
set_option maxRecDepth 8000
namespace Go.Am
open Go.Proofs
attribute [local simp] areg aop dreg dop Ak.req Ag argU Ak.args BI Ak.unAll Req.val Req.when putT putH Bb ablk CA Ca BD unc unv Cl EJ ARes.ok F7 ARes.val cut inr Ak.quiet
attribute [local simp] Gn Gp Gq Hm Gl Gm LF PA
attribute [local simp] Qz VSub.refl TSub Q0
attribute [local simp] Ai.plain Ai.owned Ai.ep hset h0 C0 Cs Cm AY Aa.one lay Cr ldv fzv fzl fz1
theorem uv(h:Ax):ATr EE Tryz.prog 96 [.nils,.int .i64 0,.int .i64 0] h (fun v h'=>v=.tup []/\h'=h):=by obtain⟨c,cC,hc⟩:=ck96;refine ATr.of (fn:=Tryz.f96) rfl cC cr96 (hc 0) 46 rfl ?_;refine AW.sr (by simp[d_,List.replicate];rfl) ?_;refine .block (.loop (fun _:Unit=>_) (fun _=>0) (fun _=>True) () trivial (.refl _) ?_);rintro⟨⟩ _;refine .seq (AW.sr (by simp[e_];rfl) ?_);refine AW.if' false (by simp) (fun e=>by cases e) (fun _=>.exit ?_);simp only[Bb,ablk,Bw];refine Post.norm (.here ?_ rfl ⟨?_,rfl⟩)<;>simp[rs96]
theorem uw(n:Int)(h:Ax):ATr EE Tryz.prog 78 [.nils,.int .i64 0,.int .i64 0,.int .i64 n] h (fun v h'=>v=.tup []/\h'=h):=by obtain⟨c,cC,hc⟩:=ck78;refine ATr.of (fn:=Tryz.f78) rfl cC cr78 (hc 0) 130 rfl ?_;refine AW.sr (by simp[fh,List.replicate];rfl) ?_;refine AW.sr (by simp[f9];rfl) ?_;refine .block (.loop (fun _:Unit=>_) (fun _=>0) (fun _=>True) () trivial (.refl _) ?_);rintro⟨⟩ _;refine .block (AW.sr (by simp[fM];rfl) ?_);refine .seq (AW.sr (by simp[f_];rfl) ?_);refine AW.if' true (by simp) (fun _=>?_) (fun e=>by cases e);refine .seq (.reg ?_);simp[gt];refine(uv h).mono ?_;rintro v h' ⟨rfl,rfl⟩;refine .ret ?_;simp only[Bb,ablk];refine .here ?_ rfl ⟨?_,?_⟩<;>simp[rs78]
theorem ux(H79:B8 EE Tryz.prog 79 [.int .u64 0] (.int .i64 0))(h:Ax):ATr EE Tryz.prog 57 [.nils] h (fun v h'=>v=.tup []/\h'=h):=by
 obtain⟨c,cC,hc⟩:=ck57;refine ATr.of (fn:=Tryz.f57) rfl cC cr57 (hc 0) 10 rfl ?_;refine AW.sr (by simp[g_,List.replicate];rfl) ?_;refine .reg ?_;simp[h_];refine(H79 h).mono ?_;rintro v h' ⟨rfl,rfl⟩
 (try simp)
 refine(uw 0 h').mono ?_;rintro v h' ⟨rfl,rfl⟩;refine Post.norm (.here ?_ rfl ⟨?_,rfl⟩)<;>simp[rs57]
def k79:Fc:=⟨79,[(.int .u64)],[false],[(.int .i64)],fun x=>uy x⟩
theorem ATr.wv{E:Nat->Aa}{P:Program}{f:FuncId}{args:List Aa}{h:Ax}{R R':Aa->Ax->Prop}(H:ATr E P f args h R)(hr:∀v h',R v h'->∃v',W v v'/\R' v' h'):ATr E P f args h R' :=
 fun g w vs hh hv=>(H g w vs hh hv).mono fun _ _ ⟨g',h',r,v,q,e,rv,rest⟩=>by obtain⟨v',w1,q'⟩:=hr r h' q;exact⟨g',h',v',v,q',e,RV.w w1 rv,rest⟩
theorem Q1(a:Int):∀l,(Ba a l).Perm (a :: l)
 |[]=>.refl _
 |b :: l=>by
  unfold Ba;cases decide (a<=b)
  ·exact((Q1 a l).cons b).trans (List.Perm.swap a b l)
  ·exact .refl _
theorem Q2:∀l,(Bj l).Perm l
 |[]=>.refl _
 |a :: l=>(Q1 a (Bj l)).trans ((Q2 l).cons a)
theorem Wl(a:Int):∀l:List Int,l.Pairwise (·<=·)->(Ba a l).Pairwise (·<=·)
 |[],_=>P6 _ _
 |b :: l,hp=>by
  obtain⟨h1,h2⟩:=GU.1 hp;unfold Ba;cases hd:decide (a<=b)
  ·have hd:=of_decide_eq_false hd;refine GU.2 ⟨fun c hc=>?_,Wl a l h2⟩;rcases AI.1 ((Q1 a l).mem_iff.1 hc) with rfl|hc
   ·omega
   ·exact h1 c hc
  ·have hd:=GY hd;refine GU.2 ⟨fun c hc=>?_,hp⟩;rcases AI.1 hc with rfl|hc
   ·exact hd
   ·have:=h1 c hc;omega
theorem Wm:∀l:List Int,(Bj l).Pairwise (·<=·)
 |[]=>List.Pairwise.nil
 |a :: l=>Wl a _ (Wm l)
theorem uz{l m:List Int}(h:l.Perm m):Ct l=Bj m:=by
 have tr:∀a b c:Int,decide (a<=b)=true->decide (b<=c)=true->decide (a<=c)=true:=by intro a b c h1 h2;simp at *;omega
 have tot:∀a b:Int,(decide (a<=b)||decide (b<=a))=true:=by intro a b;simp;omega
 have p1:=List.pairwise_mergeSort tr tot l;have pm:(Ct l).Perm (Bj m):=(List.mergeSort_perm l _).trans (h.trans (Q2 m).symm);exact pm.eq_of_pairwise (le:=fun a b=>a<=b) (fun a b _ _ h1 h2=>by omega) (p1.imp fun h=>by simpa using h) (Wm m)
theorem i_{l r:List Int}(h:CG l=some r):r=Bj l/\List.length l<=1000000000:=by
 have key:∀c:Bool,ck c (some (Bj l))=some r->c=true/\r=Bj l:=by
  intro c e;cases c
  ·cases e
  ·cases e;exact⟨rfl,rfl⟩
 unfold CG at h;obtain⟨h1,h2⟩:=key _ h;simp at h1;exact⟨h2,by omega⟩
def w57:Wc:=⟨57,.int .i64,[],[],fun l _=>CG l⟩
theorem u0(H79:Az k79)(l r:List Int)(h:Ax)(id ep:Nat)(hF:CG l=some r)(hid:h id=ownO ep 1 (cI .i64) l) :
  ATr EE Tryz.prog 57 [ownV id ep l] h fun v h'=>v=.tup []/\h'=hset h id (ownO ep 1 (cI .i64) r)/\List.length r=List.length l:=by
 obtain⟨rfl,aE⟩:=i_ hF;by_cases hx:0<List.length l;rotate_left
 ·obtain rfl:l=[]:=J7.1 (by omega);refine(ux (H79.still (x:=(0:Int)) (y:=(0:Int)) (by kernel_rfl) (by kernel_rfl)) h).mono ?_;rintro v h' ⟨rfl,rfl⟩;refine⟨rfl,?_,rfl⟩;funext i;show h' i=if i=id then ownO ep 1 (cI .i64) [] else h' i;split
  ·rename_i e;rw[e,hid]
  ·rfl
 have aD:(Bj l).length=l.length:=(Q2 l).length_eq;have mC:∀m:List Int,0<m.length->ownO ep 1 (cI .i64) m=.vec ep 1 m.length (Ay (cI .i64) m):=fun m hm=>by cases m with | nil=>simp at hm | cons a m=>rfl
 have gL:ownV id ep l=.vec id ep 0 l.length:=by cases l with | nil=>simp at hx | cons a m=>rfl
 rw[gL];rw[mC l hx]at hid;rw[mC (Bj l) (by rw[aD];exact hx),aD];have hs:=ub (E:=EE) Tryz.lays189 (h:=h) (id:=id) (ep:=ep) (n:=List.length l) (f:=Ay (cI .i64) l) (a:=fun k=>l.getD k 0) hid hx (by omega) (fun k hk=>by rw[D4 (AD hk)];simp[cI,hk]);have e1:Bi (List.length l) (fun k=>l.getD k 0)=l:=by apply List.ext_getElem (by simp[Bi]);intro i h1 h2;simp[Bi]at h1 |-;simp[h1]
 refine ATr.sub hs ?_;rintro v h' ⟨rfl,rfl⟩;refine⟨_,⟨rfl,rfl,rfl⟩,fun i=>?_⟩;simp only[hset];split
 ·refine .inr (.inr ⟨_,_,_,_,_,rfl,rfl,fun k hk=>?_⟩);rw[e1,uz (List.Perm.refl l)];have di:k<(Bj l).length:=by rw[aD];exact hk
  rw[D4 (AD di)];simp[cI,di]
 ·exact .refl _
theorem u6(H:Az k79):WcOk w57:=⟨by kernel_rfl,fun l x r h id ep a b=>u0 H l r h id ep a b⟩
end Go.Am

