/- Part D1: fA. No condition. -/
import Derived.Test.YtibbibelkkgfpaaGreatDoorC2
set_option linter.unusedSimpArgs false
set_option linter.unusedVariables false
set_option maxRecDepth 100000
namespace Go.Am
open Go.Proofs
attribute [local simp] areg aop dreg dop An.req Ag argU An.args BD An.unAll Req.val Req.when putT putH Ay ablk HS GA yzk G9 F3 vzo vz1 vz8 vzm yz3 yzu kz0 Mf yz8 yzr yzq IntKind.bits Gr ARes.ok ARes.val Gs cut An.quiet
attribute [local simp] UE UF UG UB UC UD O5 UY Va
attribute [local simp] JQ JP yzd Ma Mb look Dz zipA wm wh
attribute [local simp] Mg JS F6 GO Im Mh Mi yzy Fu yzc Th JT Ad.ep Ad.plain Ad.owned
attribute [local simp] CV Lx jz7 jzo jz0 jzf jz2 jz4 jzx jzn jzm jzk kzy wz4 kz1 wz2 jz6 Bz lay CA ldv DT Bj EF Cr yzh B2 Aa.kind
attribute [local simp] Aa.one_int Aa.one_bool Aa.one_str Aa.one_nils Aa.one_slc Aa.one_vec Aa.one_ptr Aa.one_eptr Aa.one_cptr Aa.one_nilp Aa.one_fn Aa.one_nilfn Aa.one_mp Aa.one_nilmp
attribute [local simp] yz6 LQ vz0 vzz yzt yzs vzt vz3 LR yzv yzo yzn yz0 LS vz4 vz7 vzx vzr vzq vz5 LT LU kzz kzx LV LW kzw kzv yz7 yz5 yzz yz4 LX LY yzw yz9
attribute [local simp] HL cI cB cS cL wz3 jzl jzj wzv kzu vzv kzs vz6 fzv fzl fz1 Mj vzw Mk yzp List.range_succ HW Pm jzp jzg

attribute [local simp] AM.cells Ao.cells Af.cells Bq.cells Bc.cells Al.cells Ba.cells Ec.cells GP.cells EA.cells Gt.cells AQ.cells A7.cells GQ.cells ES.cells DQ.cells EB.cells GR.cells GS.cells Dh.cells Gu.cells
section
theorem Bo{α:Type}{c:Bool}{a b:Option α}{r:α}(h:ite' c a b=some r):(c=true->a=some r)/\(c=false->b=some r):=by
 cases c with
 |false=>exact⟨(fun k=>by cases k),fun _=>h⟩
 |true=>exact⟨fun _=>h,(fun k=>by cases k)⟩
theorem Cw{α:Type}{l:List α}{k:Nat}{r:α}(h:at? l (k:Int)=some r):k<l.length/\l[k]?=some r:=by obtain⟨h1,h2,h3⟩:=Ka h;exact⟨by omega,by simpa using h3⟩
theorem AW.exs{E:Nat->Aa}{P:Program}{ρ:Option Nat}{Q:Exit->As->Prop}{m m':List (Nat×Aa)}{hm hm':List (Nat×Ad)}{h:Aq}{n i:Nat}(q:Q (.exit i) ⟨tl m' n,hx hm' h,[]⟩)(h1:subm m m')(h2:subx hm h hm')(h3:Cj hm hm'=true):AW E ρ P (.exit i) Q ⟨tl m n,hx hm h,[]⟩:=.see (.spx h1 h2 h3) (.exit q)
theorem AW.ath{E:Nat->Aa}{P:Program}{ρ:Option Nat}{Q:Exit->As->Prop}{K:As->Prop}{c:AO}{S:As}(h:∀K',K'=K->AW E ρ P c (Ay K' Q) S):AW E ρ P c (Ay K Q) S:=h K rfl
def rwx(s:Nat):Nat:=100+2*s
theorem Cx{k s:Nat}(h:k<100):(k=rwx s)=False:=eq_false (by unfold rwx;omega)
theorem Cy{k s:Nat}(h:k<100):(rwx s=k)=False:=eq_false (by unfold rwx;omega)
theorem Mp{s t:Nat}:(rwx s=rwx t)=(s=t):=propext ⟨fun h=>by unfold rwx at h;omega,fun h=>h▸rfl⟩
def iC(i:Int):List Aa:=[.int .i64 i]
def rowO(e:Nat)(l:List Int):Ad:=.vec e 1 l.length (Ai iC l)
def RX(er:Nat->Nat)(x:List (List Int))(h:Aq):Prop:=∀s r,x[s]?=some r->h (rwx s)=rowO (er s) r
def coC(r:List Af):List Aa:=[.slc 3 r.length (Ai Af.cells r)]
def mvC(m:Int×Af):List Aa:=[.int .i64 m.1,.bool m.2.Neg,.str m.2.Num,.str m.2.Den]
theorem Ed{α:Type}{c:α->List Aa}{l:List α}{b:Nat}{v:α}{g:List Aa}(hb:b<l.length)(hg:g=c v):(fun k:Nat=>if k=b then g else Ai c l k)=Ai c (l.set b v):=funext fun k=>by
 subst hg;unfold Ai;rw[DN];by_cases e:k=b
 ·subst e;rw[Aj rfl,Aj rfl,Aj hb]
 ·rw[Ah e,Ah (fun h=>e h.symm)]
structure TkV(f:Nat->Aa)(cl:List A7)(co:List (List Af))(er:Nat->Nat)(n S:Nat):Prop where
 f5:f 5=.slc 2 n (Ai A7.cells cl)
 f6:f 6=.slc 1 S (Ai coC co)
 f7:f 7=.slc 1 S (fun s=>[.vec (rwx s) (er s) 0 n])
def bI(f:Nat->Aa)(n k0 k1 k2:Nat):List (Nat×Aa):=[(0,.cptr f 8 0),(2,.int .i64 n),(3,.vec 40 k0 0 n),(4,.vec 41 k1 0 n),(5,.vec 42 k2 0 n)]
def mI(g:Nat->List Aa)(n k0:Nat)(o1 o2 o3 o4 o5:Ad):List (Nat×Ad):=[(40,.vec k0 1 n g),(41,o1),(42,o2),(43,o3),(44,o4),(45,o5)]
theorem Px{m:List (Nat×Ad)}{h:Aq}{i:Nat}{o:Ad}(hi:Nat.blt i 100=true):hset (hx m h) i o=hx ((i,o) :: m) h:=Df m h i o
structure YI where
 j:Nat
 m:Int×Af
 e:Nat
section
attribute [local simp] Cf GN BP Cg Ch Ci yza subm subh Cj pick B6
attribute [local simp] lkx Df Cu subx bI mI Cx Cy
set_option maxHeartbeats 4000000 in
theorem im_s(hS:∀(a b r:Af),Dj a b=some r->AJ EE Tryz.prog 111 [.agg a.cells,.agg b.cells] (.agg r.cells))(hC:∀(a b:Af) (r:Int),Gw a b=some r->AJ EE Tryz.prog 23 [.agg a.cells,.agg b.cells] (.int .i64 r)){f:Nat->Aa} {cl:List A7} {co:List (List Af)} {er:Nat->Nat} {n S:Nat} (hT:TkV f cl co er n S) {x:List (List Int)} (bR:x.length=S) (gK:co.length=S) (cM:∀c∈co,c.length=n) (b9:∀c∈x,c.length=n){h:Aq} (hX:RX er x h) {a b:Nat} (ha:a<n) (hb:b<n) {k0 k1 k2 e3:Nat} {g:Nat->List Aa} (hg:g a=[.vec 43 e3 0 n]) {l:List (Int×Af)} (hl:l.length=n) {m0 m1:Int×Af} (iA:l[b]?=some m0)(hF:forN (imS co x a b) S 0 m0=some m1) (dW:S<=1000000) {o1 o2:Ad} {e4 e5:Nat} {Q:Exit->As->Prop}(k:∀e4',Q .normal ⟨tl (bI f n k0 k1 k2++[(6,.int .i64 a),(7,.int .i64 b),(32,.int .i64 n),(33,.int .i64 a),(41,.int .i64 n),(42,.int .i64 b)]) 289,hx (mI g n k0 o1 o2 (.vec e3 4 n (Ai mvC (l.set b m1))) (.gone e4') (.gone e5)) h,[]⟩) :
  AW EE none Tryz.prog (.block 6 (.loop (Wu 40))) Q ⟨tl (bI f n k0 k1 k2++[(6,.int .i64 a),(7,.int .i64 b),(32,.int .i64 n),(33,.int .i64 a),(41,.int .i64 n),(42,.int .i64 b),(56,.int .i64 S),(57,.int .i64 0)]) 289,hx (mI g n k0 o1 o2 (.vec e3 4 n (Ai mvC l)) (.gone e4) (.gone e5)) h,[]⟩:=by
 refine .block (AW.lph (fun y:YI=>bI f n k0 k1 k2++[(6,.int .i64 a),(7,.int .i64 b),(32,.int .i64 n),(33,.int .i64 a),(41,.int .i64 n),(42,.int .i64 b),(56,.int .i64 S),(57,.int .i64 y.j)]) (fun y=>mI g n k0 o1 o2 (.vec e3 4 n (Ai mvC (l.set b y.m))) (.gone y.e) (.gone e5)) (fun _=>h) (fun y=>S-y.j) (fun y=>y.j<=S/\forN (imS co x a b) (S-y.j) y.j y.m=some m1) ⟨0,m0,e4⟩ ⟨BB _,by simpa using hF⟩ rfl (by simp) ?_ (by simp) ?_)
 ·have:l.set b m0=l:=by
   obtain⟨h1,h2⟩:=AC.1 iA;rw[<-h2];exact List.set_getElem_self h1
  simp[this]
 rintro⟨j,m,e⟩ ⟨hj,hF⟩;refine AW.ath fun P hP=>?_;simp only at hj hF |-;refine AW.sr (by simp[Wv];rfl) ?_;refine .seq (AW.if' (decide ((j:Int)<(S:Int))) (by simp) (fun et=>AW.skip ?_) (fun et=>?_));rotate_left
 ·obtain rfl:j=S:=by have:=of_decide_eq_false et;omega
  rw[Nat.sub_self]at hF;obtain rfl:=AI (show some m=some m1 from hF);exact .exs (by simp only[Ay,ablk,AX];exact k e) (by simp) (by simp) (by simp)
 have hlt:j<S:=by have:=BX et;omega
 rw[show S-j=(S-(j+1))+1 by omega]at hF;obtain⟨m',hm',hF⟩:=bd_e (show bd (imS co x a b m j) _=some m1 from hF);unfold imS at hm';obtain⟨cs,q1,hm'⟩:=bd_e hm';obtain⟨cb,q2,hm'⟩:=bd_e hm';obtain⟨ca,q3,hm'⟩:=bd_e hm';obtain⟨d,q4,hm'⟩:=bd_e hm';obtain⟨xs,q5,hm'⟩:=bd_e hm';obtain⟨xa,q6,hm'⟩:=bd_e hm';obtain⟨_,q1⟩:=Cw q1;obtain⟨_,q2⟩:=Cw q2;obtain⟨_,q3⟩:=Cw q3;obtain⟨_,q5⟩:=Cw q5;obtain⟨_,q6⟩:=Cw q6;have c1:Ai coC co j=coC cs:=Bb q1;have c2:Ai Af.cells cs b=cb.cells:=Bb q2;have c3:Ai Af.cells cs a=ca.cells:=Bb q3;have bn:cs.length=n:=cM _ (AK q1);have cw:xs.length=n:=b9 _ (AK q5);have dX:h (rwx j)=.vec (er j) 1 n (Ai iC xs):=(hX j xs q5).trans (by unfold rowO;rw[cw]);have c5:Ai iC xs a=iC xa:=Bb q6;have c6:Ai mvC (l.set b m) b=mvC m:=Bb (by simp[hl,hb]);have aS:inr .i64 ((j:Int)+1):=by show _/\_;omega
 have sS:=hS _ _ _ q4;simp only[Ay];refine .seq (.block (AW.sr (by simp[Ww];rfl) ?_));refine AW.sd (by simp[Wx,hT.f6,hlt,c1,coC,bn,ha,hb,c2,c3];refine Bg.pure _ sS ?_;simp;exact⟨by kernel_rfl,rfl⟩) ?_
 have nxt:∀(m':Int×Af) (e':Nat),forN (imS co x a b) (S-(j+1)) (j+1) m'=some m1 ->
   AW EE none Tryz.prog (.reg false (Mq 40) []) (Ay P (ablk 6 Q))
   ⟨tl (bI f n k0 k1 k2++[(6,.int .i64 a),(7,.int .i64 b),(32,.int .i64 n),(33,.int .i64 a),(41,.int .i64 n),(42,.int .i64 b),(56,.int .i64 S),(57,.int .i64 j)]) 289,hx (mI g n k0 o1 o2 (.vec e3 4 n (Ai mvC (l.set b m'))) (.gone e') (.gone e5)) h,[]⟩:=fun m' e' h1=>by
  refine AW.r1 (by simp[Mq];exact⟨aS,rfl⟩) ?_;rw[hP];exact⟨⟨j+1,m',e'⟩,⟨by show j+1<=S;omega,h1⟩,by show S-(j+1)<S-j;omega,.spx (by simp) (by simp) (by simp)⟩
 have upd:m'=((j:Int),d)->AW EE none Tryz.prog (.reg true (Py 40) Wy) (ablk 7 (Ay (AW EE none Tryz.prog (.reg false (Mq 40) []) (Ay P (ablk 6 Q))) (Ay P (ablk 6 Q)))) ⟨tl (bI f n k0 k1 k2++[(6,.int .i64 a),(7,.int .i64 b),(8,.int .i64 j),(9,.ptr 44 (e+1) 0),(32,.int .i64 n),(33,.int .i64 a),(41,.int .i64 n),(42,.int .i64 b),(56,.int .i64 S),(57,.int .i64 j)]) 289,hx (mI g n k0 o1 o2 (.vec e3 4 n (Ai mvC (l.set b m))) (.box (e+1) [.bool d.Neg,.str d.Num,.str d.Den]) (.gone e5)) h,[]⟩:=fun hm=>by
  subst hm;have f1:(fun k:Nat=>if k=b then [Aa.int .i64 j,.bool d.Neg,.str d.Num,.str d.Den] else Ai mvC (l.set b m) k)=Ai mvC (l.set b ((j:Int),d)):=by exact(Ed (c:=mvC) (v:=((j:Int),d)) (by simp;omega) rfl).trans (by rw[List.set_set])
  refine AW.d1 (by simp[Py,ha,hb,hg,c6,mvC,f1];exact⟨by kernel_rfl,rfl⟩) ?_;simp only[Ay,ablk];exact .see (.spx (by simp) (by simp) (by simp)) (nxt _ (e+1) hF)
 by_cases iB:0<xa
 ·rw[AD iB]at hm';by_cases dI:m.1<0
  ·rw[AD dI]at hm';obtain rfl:=AI (show some ((j:Int),d)=some m' from hm');refine AW.sd (by simp[Mr,hT.f7,hlt,ha,hb,dX,c5,iC,iB,hg,c6,mvC,dI];refine Ce.pure .top (by simp) (fun h=>by cases h) ?_;simp;exact⟨by kernel_rfl,rfl⟩) ?_;refine AW.if' true (by simp) (fun _=>?_) (fun h=>by cases h);exact .see (.spx (by simp) (by simp) (by simp)) (upd rfl)
  ·rw[AE dI]at hm';obtain⟨q,q7,hm'⟩:=bd_e (show bd (Gw d m.2) _=some m' from hm');have sC:=hC _ _ _ q7;refine AW.sd (by simp[Mr,hT.f7,hlt,ha,hb,dX,c5,iC,iB,hg,c6,mvC,dI];refine Ce.pure _ (by simp) (fun _=>sC) ?_;simp;exact⟨by kernel_rfl,rfl⟩) ?_;refine AW.if' (decide (q<0)) (by simp) (fun et=>?_) (fun et=>AW.skip ?_)
   ·rw[et]at hm';obtain rfl:=AI (show some ((j:Int),d)=some m' from hm');exact .see (.spx (by simp) (by simp) (by simp)) (upd rfl)
   ·rw[et]at hm';obtain rfl:=AI (show some m=some m' from hm');simp only[Ay,ablk];exact .see (.spx (by simp) (by simp) (by simp)) (nxt _ (e+1) hF)
 ·rw[AE iB]at hm';obtain rfl:=AI (show some m=some m' from hm');refine AW.sd (by simp[Mr,hT.f7,hlt,ha,dX,c5,iC,iB,hg,hb,c6,mvC];refine Ce.pure .top (by simp) (fun h=>by cases h) ?_;simp;exact⟨by kernel_rfl,rfl⟩) ?_;refine AW.if' false (by simp) (fun h=>by cases h) (fun _=>AW.skip ?_);simp only[Ay,ablk];exact .see (.spx (by simp) (by simp) (by simp)) (nxt _ (e+1) hF)
def zM:Int×Af:=(0,⟨false,[],[]⟩)
structure YB where
 j:Nat
 l:List (Int×Af)
 e:Nat
set_option maxHeartbeats 4000000 in
theorem im_b(hS:∀(a b r:Af),Dj a b=some r->AJ EE Tryz.prog 111 [.agg a.cells,.agg b.cells] (.agg r.cells))(hC:∀(a b:Af) (r:Int),Gw a b=some r->AJ EE Tryz.prog 23 [.agg a.cells,.agg b.cells] (.int .i64 r)){f:Nat->Aa} {cl:List A7} {co:List (List Af)} {er:Nat->Nat} {n S:Nat} (hT:TkV f cl co er n S) {x:List (List Int)} (bR:x.length=S) (gK:co.length=S) (cM:∀c∈co,c.length=n) (b9:∀c∈x,c.length=n){h:Aq} (hX:RX er x h) {a:Nat} (ha:a<n) {k0 k1 k2 e3:Nat} {g:Nat->List Aa} (hg:g a=[.vec 43 e3 0 n]) {r:List (Int×Af)}(hF:Iu co x n a=some r) (dW:S<=1000000) (bS:n<=1000000) {o1 o2:Ad} {e4 e5:Nat} {Q:Exit->As->Prop}(k:∀e4',r.length=n->Q .normal ⟨tl (bI f n k0 k1 k2++[(6,.int .i64 a),(32,.int .i64 n),(33,.int .i64 a)]) 289,hx (mI g n k0 o1 o2 (.vec e3 4 n (Ai mvC r)) (.gone e4') (.gone e5)) h,[]⟩) :
  AW EE none Tryz.prog (.block 4 (.loop (Wz 40))) Q ⟨tl (bI f n k0 k1 k2++[(6,.int .i64 a),(32,.int .i64 n),(33,.int .i64 a),(41,.int .i64 n),(42,.int .i64 0)]) 289,hx (mI g n k0 o1 o2 (.vec e3 4 n (Ai mvC (List.replicate n zM))) (.gone e4) (.gone e5)) h,[]⟩:=by
 refine .block (AW.lph (fun y:YB=>bI f n k0 k1 k2++[(6,.int .i64 a),(32,.int .i64 n),(33,.int .i64 a),(41,.int .i64 n),(42,.int .i64 y.j)]) (fun y=>mI g n k0 o1 o2 (.vec e3 4 n (Ai mvC (y.l++List.replicate (n-y.j) zM))) (.gone y.e) (.gone e5)) (fun _=>h) (fun y=>n-y.j) (fun y=>y.j<=n/\y.l.length=y.j/\forN (fun l b=>bd (imM co x a b) fun m=>some (l++[m])) (n-y.j) y.j y.l=some r) ⟨0,[],e4⟩ ⟨BB _,rfl,hF⟩ rfl (by simp) (by simp) (by simp) ?_);rintro⟨j,l,e⟩ ⟨hj,hl,hF⟩;simp only at hj hl hF |-;refine AW.sr (by simp[W0];rfl) ?_;refine .seq (AW.if' (decide ((j:Int)<(n:Int))) (by simp) (fun et=>AW.skip ?_) (fun et=>?_));rotate_left
 ·obtain rfl:j=n:=by have:=of_decide_eq_false et;omega
  rw[Nat.sub_self]at hF;obtain rfl:=AI (show some l=some r from hF);exact .exs (by simp only[Ay,ablk,AX];exact k e hl) (by simp) (by simp) (by simp)
 have hlt:j<n:=by have:=BX et;omega
 rw[show n-j=(n-(j+1))+1 by omega]at hF |-;obtain⟨l',dE,hF⟩:=bd_e (show bd (bd (imM co x a j) fun m=>some (l++[m])) _=some r from hF);obtain⟨m,hm,dE⟩:=bd_e dE;obtain rfl:=AI dE;have aS:inr .i64 ((j:Int)+1):=by show _/\_;omega
 have c0:Ai mvC (l++List.replicate (n-(j+1)+1) zM) j=[.int .i64 0,.bool false,.str [],.str []]:=Bb (c:=mvC) (x:=zM) (by rw[Gj (by omega),hl];simp);have s1:(l++List.replicate (n-(j+1)+1) zM).set j (-1,⟨false,[],[]⟩)=l++(-1,⟨false,[],[]⟩) :: List.replicate (n-(j+1)) zM:=by rw[List.set_append_right _ _ (by omega),hl,Nat.sub_self,List.replicate_succ];rfl
 have s2:(l++(-1,⟨false,[],[]⟩) :: List.replicate (n-(j+1)) zM).set j m=(l++[m])++List.replicate (n-(j+1)) zM:=by rw[List.set_append_right _ _ (by omega),hl,Nat.sub_self,List.append_assoc];rfl
 have f1:(fun k:Nat=>if k=j then [Aa.int .i64 (-1),.bool false,.str [],.str []] else Ai mvC (l++List.replicate (n-(j+1)+1) zM) k)=Ai mvC (l++(-1,⟨false,[],[]⟩) :: List.replicate (n-(j+1)) zM):=by rw[<-s1];exact Ed (v:=((-1:Int),(⟨false,[],[]⟩:Af))) (by simp;omega) rfl
 simp only[Ay];refine .seq (.block (AW.sr (by simp[W1];rfl) ?_));refine AW.sr (by simp[W2,ha,hg,hlt,c0,f1];rfl) ?_;refine AW.sr (by simp[W3,hT.f7];rfl) ?_;refine .see (.spx (m':=bI f n k0 k1 k2++[(6,.int .i64 a),(7,.int .i64 j),(32,.int .i64 n),(33,.int .i64 a),(41,.int .i64 n),(42,.int .i64 j),(56,.int .i64 S),(57,.int .i64 0)]) (hm':=mI g n k0 o1 o2 (.vec e3 4 n (Ai mvC (l++(-1,⟨false,[],[]⟩) :: List.replicate (n-(j+1)) zM))) (.gone e) (.gone e5)) (by simp) (by simp) (by simp)) ?_;refine im_s hS hC hT bR gK cM b9 hX ha hlt hg (by simp;omega) (m0:=(-1,⟨false,[],[]⟩)) (by rw[Gj (by omega),hl];simp) (by unfold imM at hm;rw[bR]at hm;exact hm) dW fun e4'=>?_;rw[s2];refine AW.r1 (by simp[W4];exact⟨aS,rfl⟩) ?_;exact⟨⟨j+1,l++[m],e4'⟩,⟨by show j+1<=n;omega,by simp[hl],hF⟩,by show n-(j+1)<n-(j+1)+1;omega,.spx (by simp) (by simp) (by simp)⟩
theorem F8{α:Type}{c:α->List Aa}{n k:Nat}{v:α}(hk:k<n):Ai c (List.replicate n v) k=c v:=Bb (by simp[hk])
def MVg(n:Nat)(mv:List (List (Int×Af)))(g:Nat->List Aa):Prop:=∀a r,mv[a]?=some r->r.length=n/\g a=[.slc 4 n (Ai mvC r)]
theorem wzt6{m:List (Nat×Aa)}{N n k0 j e:Nat}{g U:Nat->List Aa}{o1 o2 o4 o5:Ad}{h:Aq}(hj:g j=[.vec 43 e 0 n]):See EE ⟨tl m N,hx (mI g n k0 o1 o2 (.vec e 4 n U) o4 o5) h,[]⟩ ⟨tl m N,hx (mI (fun i=>if i=j then [.slc 4 n U] else g i) n k0 o1 o2 (.gone (e+1)) o4 o5) h,[]⟩:=by
 refine .freeze (id:=43) (o:=.vec e 4 n U) (by simp) rfl trivial (by simp[Ad.ep]) (fun i hi=>?_) (FVl.refl _) rfl;have aW:¬43=i:=fun k=>hi k.symm;by_cases i40:i=40
 ·subst i40;refine .inr (.inr (.inl ⟨k0,1,n,g,fun i=>if i=j then [.slc 4 n U] else g i,by simp,by simp,fun k hk=>?_⟩));show FVl 43 _ (g k) (if k=j then _ else g k);split
  ·rename_i e;subst e;rw[hj];exact⟨.vec e 4 n U 0 n U rfl (by simp) (fun k _=>by rw[Bs]),trivial⟩
  ·exact FVl.refl _
 ·have i40':¬40=i:=fun k=>i40 k.symm;refine .inl ?_;simp[aW,i40']
structure YA where
 j:Nat
 L:List (List (Int×Af))
 g:Nat->List Aa
 e3:Nat
 e4:Nat
set_option maxHeartbeats 4000000 in
theorem im_a(hS:∀(a b r:Af),Dj a b=some r->AJ EE Tryz.prog 111 [.agg a.cells,.agg b.cells] (.agg r.cells))(hC:∀(a b:Af) (r:Int),Gw a b=some r->AJ EE Tryz.prog 23 [.agg a.cells,.agg b.cells] (.int .i64 r)){f:Nat->Aa} {cl:List A7} {co:List (List Af)} {er:Nat->Nat} {n S:Nat} (hT:TkV f cl co er n S) {x:List (List Int)} (bR:x.length=S) (gK:co.length=S) (cM:∀c∈co,c.length=n) (b9:∀c∈x,c.length=n){h:Aq} (hX:RX er x h) {k0 k1 k2 e3:Nat} {g:Nat->List Aa} {mv:List (List (Int×Af))}(hF:imMv co x n=some mv) (dW:S<=1000000) (bS:n<=1000000) {o1 o2:Ad} {e4 e5:Nat} (fB:∀k,k<n->(g k).tail=[]) {Q:Exit->As->Prop}(k:∀g' e3' e4',mv.length=n->MVg n mv g'->(∀k,k<n->(g' k).tail=[])->Q .normal ⟨tl (bI f n k0 k1 k2) 289,hx (mI g' n k0 o1 o2 (.gone e3') (.gone e4') (.gone e5)) h,[]⟩) :
  AW EE none Tryz.prog (.block 2 (.loop (W5 40))) Q ⟨tl (bI f n k0 k1 k2++[(32,.int .i64 n),(33,.int .i64 0)]) 289,hx (mI g n k0 o1 o2 (.gone e3) (.gone e4) (.gone e5)) h,[]⟩:=by
 refine .block (AW.lph (fun y:YA=>bI f n k0 k1 k2++[(32,.int .i64 n),(33,.int .i64 y.j)]) (fun y=>mI y.g n k0 o1 o2 (.gone y.e3) (.gone y.e4) (.gone e5)) (fun _=>h) (fun y=>n-y.j) (fun y=>y.j<=n/\y.L.length=y.j/\MVg n y.L y.g/\(∀k,k<n->(y.g k).tail=[])/\forN (fun l a=>bd (Iu co x n a) fun r=>some (l++[r])) (n-y.j) y.j y.L=some mv) ⟨0,[],g,e3,e4⟩ ⟨BB _,rfl,(fun a r h=>by simp at h),fB,hF⟩ rfl (by simp) (by simp) (by simp) ?_);rintro⟨j,L,g,e3,e4⟩ ⟨hj,hL,hM,fB,hF⟩;simp only at hj hL hM fB hF |-;refine AW.sr (by simp[W6];rfl) ?_;refine .seq (AW.if' (decide ((j:Int)<(n:Int))) (by simp) (fun et=>AW.skip ?_) (fun et=>?_));rotate_left
 ·obtain rfl:j=n:=by have:=of_decide_eq_false et;omega
  rw[Nat.sub_self]at hF;obtain rfl:=AI (show some L=some mv from hF);exact .exs (by simp only[Ay,ablk,AX];exact k g e3 e4 hL hM fB) (by simp) (by simp) (by simp)
 have hlt:j<n:=by have:=BX et;omega
 rw[show n-j=(n-(j+1))+1 by omega]at hF;obtain⟨L',fu,hF⟩:=bd_e (show bd (bd (Iu co x n j) fun m=>some (L++[m])) _=some mv from hF);obtain⟨r,hr,fu⟩:=bd_e fu;obtain rfl:=AI fu;have aS:inr .i64 ((j:Int)+1):=by show _/\_;omega
 have bU:(n:Int)*48<=140737488355328:=by omega
 simp only[Ay];refine .seq (.block (AW.sr (by simp[W7];rfl) ?_));refine AW.sr (by simp[W8,hlt,bU,fB j hlt];rfl) ?_;refine AW.sr (by simp[W9];rfl) ?_;refine .see (.spx (m':=bI f n k0 k1 k2++[(6,.int .i64 j),(32,.int .i64 n),(33,.int .i64 j),(41,.int .i64 n),(42,.int .i64 0)]) (hm':=mI (fun k=>if k=j then [.vec 43 (e3+1) 0 n] else g k) n k0 o1 o2 (.vec (e3+1) 4 n (Ai mvC (List.replicate n zM))) (.gone e4) (.gone e5)) (by simp) ?_ (by simp)) ?_
 ·simp;intro k hk;exact F8 hk
 refine im_b hS hC hT bR gK cM b9 hX hlt (by simp) hr dW bS fun e4' fC=>?_;refine .see (wzt6 (j:=j) (by simp)) ?_;refine AW.r1 (by simp[WA];exact⟨aS,rfl⟩) ?_;refine⟨⟨j+1,L++[r],fun k=>if k=j then [.slc 4 n (Ai mvC r)] else g k,e3+1+1,e4'⟩,⟨by show j+1<=n;omega,by simp[hL],fun a q hq=>?_,fun k hk=>?_,hF⟩,by show n-(j+1)<n-j;omega,.spx (by simp) ?_ (by simp)⟩;rotate_left
 ·show(if k=j then _ else g k).tail=[];split
  ·rfl
  ·exact fB k hk
 ·simp;intro k hk;split
  ·rfl
  ·rfl
 rw[List.getElem?_append]at hq;split at hq
 ·rename_i hlt';obtain⟨p1,p2⟩:=hM a q hq;exact⟨p1,by show(if a=j then _ else g a)=_;rw[Ah (by omega)];exact p2⟩
 ·rename_i hge;have:a-L.length=0:=by obtain⟨h1,_⟩:=AC.1 hq;simp at h1;omega
  rw[this]at hq;obtain rfl:=AI hq;exact⟨fC,by show(if a=j then _ else g a)=_;rw[Aj (by omega)]⟩
end
end
section
def dO(k n:Nat)(d:List Af):Ad:=.vec k 3 n (Ai Af.cells d)
def fO(k n:Nat)(d:List Int):Ad:=.vec k 1 n (Ai iC d)
structure YE where
 j:Nat
 d:List Af
 f:List Int
 c:Int
 e:Nat
section
attribute [local simp] Cf GN BP Cg Ch Ci yza subm subh Cj pick B6
attribute [local simp] lkx Df Cu subx bI mI Cx Cy dO fO
set_option maxHeartbeats 8000000 in
theorem be_b(hA:∀(a b r:Af),BY a b=some r->AJ EE Tryz.prog 31 [.agg a.cells,.agg b.cells] (.agg r.cells))(hC:∀(a b:Af) (r:Int),Gw a b=some r->AJ EE Tryz.prog 23 [.agg a.cells,.agg b.cells] (.int .i64 r)){f:Nat->Aa} {n k0 k1 k2 e3 e4 e5:Nat} {g:Nat->List Aa} {mv:List (List (Int×Af))} (hM:MVg n mv g) {a:Nat} (ha:a<n) {P p:Int} {d d':List Af} {fr fr':List Int} {c c':Int} (hd:d.length=n) (hf:fr.length=n) (bS:n<=1000000)(hF:forN (imE mv a) n 0 (d,fr,c)=some (d',fr',c')) {h:Aq} {Q:Exit->As->Prop}(k:∀e5',d'.length=n->fr'.length=n->Q .normal ⟨tl (bI f n k0 k1 k2++[(10,.int .i64 c'),(130,.int .i64 P),(131,.int .i64 p),(133,.int .i64 n),(134,.int .i64 a)]) 289,hx (mI g n k0 (dO k1 n d') (fO k2 n fr') (.gone e3) (.gone e4) (.gone e5')) h,[]⟩) :
  AW EE none Tryz.prog (.block 12 (.loop (WB 40))) Q ⟨tl (bI f n k0 k1 k2++[(10,.int .i64 c),(11,.int .i64 a),(130,.int .i64 P),(131,.int .i64 p),(133,.int .i64 n),(134,.int .i64 a),(137,.int .i64 n),(138,.int .i64 0)]) 289,hx (mI g n k0 (dO k1 n d) (fO k2 n fr) (.gone e3) (.gone e4) (.gone e5)) h,[]⟩:=by
 refine .block (AW.lph (fun y:YE=>bI f n k0 k1 k2++[(10,.int .i64 y.c),(11,.int .i64 a),(130,.int .i64 P),(131,.int .i64 p),(133,.int .i64 n),(134,.int .i64 a),(137,.int .i64 n),(138,.int .i64 y.j)]) (fun y=>mI g n k0 (dO k1 n y.d) (fO k2 n y.f) (.gone e3) (.gone e4) (.gone y.e)) (fun _=>h) (fun y=>n-y.j) (fun y=>y.j<=n/\y.d.length=n/\y.f.length=n/\forN (imE mv a) (n-y.j) y.j (y.d,y.f,y.c)=some (d',fr',c')) ⟨0,d,fr,c,e5⟩ ⟨BB _,hd,hf,by simpa using hF⟩ rfl (by simp) (by simp) (by simp) ?_);rintro⟨j,d,fr,c,e⟩ ⟨hj,hd,hf,hF⟩;refine AW.ath fun P' hP=>?_;simp only at hj hd hf hF |-;refine AW.sr (by simp[WC];rfl) ?_;refine .seq (AW.if' (decide ((j:Int)<(n:Int))) (by simp) (fun et=>AW.skip ?_) (fun et=>?_));rotate_left
 ·obtain rfl:j=n:=by have:=of_decide_eq_false et;omega
  rw[Nat.sub_self]at hF;obtain h3:=AI (show some (d,fr,c)=some (d',fr',c') from hF);simp only[BC]at h3;obtain⟨rfl,rfl,rfl⟩:=h3;exact .exs (by simp only[Ay,ablk,AX];exact k e hd hf) (by simp) (by simp) (by simp)
 have hlt:j<n:=by have:=BX et;omega
 rw[show n-j=(n-(j+1))+1 by omega]at hF;obtain⟨s',aH,hF⟩:=bd_e (show bd (imE mv a (d,fr,c) j) _=some (d',fr',c') from hF);unfold imE at aH;obtain⟨row,q1,aH⟩:=bd_e aH;obtain⟨m,q2,aH⟩:=bd_e aH;obtain⟨_,q1⟩:=Cw q1;obtain⟨_,q2⟩:=Cw q2;obtain⟨_,jq⟩:=hM a row q1;have cm:Ai mvC row j=mvC m:=Bb q2;have aS:inr .i64 ((j:Int)+1):=by show _/\_;omega
 simp only[Ay];refine .seq (.block (AW.sr (by simp[WD];rfl) ?_));refine AW.sr (by simp[WE,ha,hlt,jq,cm,mvC];rfl) ?_
 have nxt:∀(d2:List Af) (fr2:List Int) (c2:Int) (e':Nat),d2.length=n->fr2.length=n->forN (imE mv a) (n-(j+1)) (j+1) (d2,fr2,c2)=some (d',fr',c') ->
   AW EE none Tryz.prog (.reg false (Pz 40) []) (Ay P' (ablk 12 Q))
   ⟨tl (bI f n k0 k1 k2++[(10,.int .i64 c2),(11,.int .i64 a),(130,.int .i64 P),(131,.int .i64 p),(133,.int .i64 n),(134,.int .i64 a),(137,.int .i64 n),(138,.int .i64 j)]) 289,hx (mI g n k0 (dO k1 n d2) (fO k2 n fr2) (.gone e3) (.gone e4) (.gone e')) h,[]⟩:=fun d2 fr2 c2 e' h1 h2 h3=>by
  refine AW.r1 (by simp[Pz];exact⟨aS,rfl⟩) ?_;rw[hP];exact⟨⟨j+1,d2,fr2,c2,e'⟩,⟨by show j+1<=n;omega,h1,h2,h3⟩,by show n-(j+1)<n-j;omega,.spx (by simp) (by simp) (by simp)⟩
 obtain⟨da0,lz⟩:∃v,d[a]?=some v:=⟨_,AA (by omega)⟩;obtain⟨db0,l6⟩:∃v,d[j]?=some v:=⟨_,AA (by omega)⟩;have ca0:Ai Af.cells d a=da0.cells:=Bb lz;have cb0:Ai Af.cells d j=db0.cells:=Bb l6;by_cases bm:a=j
 ·subst bm;rw[AD rfl]at aH;obtain rfl:=AI (show some (d,fr,c)=some s' from aH);refine AW.sd (by simp[Ms,ha,hlt,ca0,cb0];refine Ce.pure .top (by simp) (fun h=>by cases h) ?_;simp[ha,hlt,ca0,cb0];refine Ce.pure .top (by simp) (fun h=>by cases h) ?_;simp;exact⟨by kernel_rfl,rfl⟩) ?_;refine AW.if' false (by simp) (fun h=>by cases h) (fun _=>AW.skip ?_);simp only[Ay,ablk];exact .see (.spx (by simp) (by simp) (by simp)) (nxt d fr c (e+1) hd hf hF)
 have fD:¬(a:Int)=(j:Int):=fun e=>bm (by omega);rw[AE fD]at aH;by_cases dI:0<=m.1;rotate_left
 ·rw[AE dI]at aH;obtain rfl:=AI (show some (d,fr,c)=some s' from aH);refine AW.sd (by simp[Ms,fD,dI,ha,hlt,ca0,cb0];refine Ce.pure .top (by simp) (fun h=>by cases h) ?_;simp[ha,hlt,ca0,cb0];refine Ce.pure .top (by simp) (fun h=>by cases h) ?_;simp;exact⟨by kernel_rfl,rfl⟩) ?_;refine AW.if' false (by simp) (fun h=>by cases h) (fun _=>AW.skip ?_);simp only[Ay,ablk];exact .see (.spx (by simp) (by simp) (by simp)) (nxt d fr c (e+1) hd hf hF)
 rw[AD dI]at aH;obtain⟨da,q3,aH⟩:=bd_e (show bd (at? d (a:Int)) _=some s' from aH);obtain⟨ed,q4,aH⟩:=bd_e aH;obtain⟨db,q5,aH⟩:=bd_e aH;obtain⟨q,q6,aH⟩:=bd_e aH;obtain⟨_,q3⟩:=Cw q3;obtain⟨_,q5⟩:=Cw q5;have ca:Ai Af.cells d a=da.cells:=Bb q3;have cb:Ai Af.cells d j=db.cells:=Bb q5;have sA:=hA _ _ _ q4;have sC:=hC _ _ _ q6;refine AW.sd (by simp[Ms,fD,dI,ha,hlt,ca,cb];refine Ce.pure _ (by simp) (fun _=>sA) ?_;simp[ha,hlt,ca,cb];refine Ce.pure _ (by simp) (fun _=>sC) ?_;simp;exact⟨by kernel_rfl,rfl⟩) ?_;refine AW.if' (decide (q<0)) (by simp[fD]) (fun et=>?_) (fun et=>AW.skip ?_);rotate_left
 ·rw[et]at aH;obtain rfl:=AI (show some (d,fr,c)=some s' from aH);simp only[Ay,ablk];exact .see (.spx (by simp) (by simp) (by simp)) (nxt d fr c (e+1) hd hf hF)
 rw[et]at aH;obtain rfl:=AI (show some (d.set j ed,fr.set j (a:Int),(j:Int))=some s' from aH);obtain⟨fj,nZ⟩:∃v,fr[j]?=some v:=⟨_,AA (by omega)⟩;have cf:Ai iC fr j=iC fj:=Bb nZ;have f1:(fun k:Nat=>if k=j then ed.cells else Ai Af.cells d k)=Ai Af.cells (d.set j ed):=Ed (by omega) rfl;have f2:(fun k:Nat=>if k=j then [Aa.int .i64 a] else Ai iC fr k)=Ai iC (fr.set j (a:Int)):=Ed (by omega) rfl;simp only[Af.cells]at f1;refine AW.d1 (by simp[WF,ha,hlt,ca,cb,cf,iC];refine Bg.pure _ sA ?_;simp[ha,hlt,ca,cb,cf,iC,f1,f2];exact⟨by kernel_rfl,rfl⟩) ?_;simp only[Ay,ablk];refine .see (.spx (by simp) (by simp) (by simp)) (nxt (d.set j ed) (fr.set j (a:Int)) j (e+1) (by simp[hd]) (by simp[hf]) hF)
structure YF where
 j:Nat
 d:List Af
 f:List Int
 c:Int
 e:Nat
set_option maxHeartbeats 4000000 in
theorem be_a(hA:∀(a b r:Af),BY a b=some r->AJ EE Tryz.prog 31 [.agg a.cells,.agg b.cells] (.agg r.cells))(hC:∀(a b:Af) (r:Int),Gw a b=some r->AJ EE Tryz.prog 23 [.agg a.cells,.agg b.cells] (.int .i64 r)){f:Nat->Aa} {n k0 k1 k2 e3 e4 e5:Nat} {g:Nat->List Aa} {mv:List (List (Int×Af))} (hM:MVg n mv g) {P p:Int} {d d':List Af} {fr fr':List Int} {c':Int} (hd:d.length=n) (hf:fr.length=n) (bS:n<=1000000)(hF:Kb mv n d fr=some (d',fr',c')) {h:Aq} {Q:Exit->As->Prop}(k:∀e5',d'.length=n->fr'.length=n->Q .normal ⟨tl (bI f n k0 k1 k2++[(10,.int .i64 c'),(130,.int .i64 P),(131,.int .i64 p)]) 289,hx (mI g n k0 (dO k1 n d') (fO k2 n fr') (.gone e3) (.gone e4) (.gone e5')) h,[]⟩) :
  AW EE none Tryz.prog (.block 10 (.loop (WG 40))) Q ⟨tl (bI f n k0 k1 k2++[(10,.int .i64 (-1)),(130,.int .i64 P),(131,.int .i64 p),(133,.int .i64 n),(134,.int .i64 0)]) 289,hx (mI g n k0 (dO k1 n d) (fO k2 n fr) (.gone e3) (.gone e4) (.gone e5)) h,[]⟩:=by
 refine .block (AW.lph (fun y:YF=>bI f n k0 k1 k2++[(10,.int .i64 y.c),(130,.int .i64 P),(131,.int .i64 p),(133,.int .i64 n),(134,.int .i64 y.j)]) (fun y=>mI g n k0 (dO k1 n y.d) (fO k2 n y.f) (.gone e3) (.gone e4) (.gone y.e)) (fun _=>h) (fun y=>n-y.j) (fun y=>y.j<=n/\y.d.length=n/\y.f.length=n/\forN (fun s a=>forN (imE mv a) n 0 s) (n-y.j) y.j (y.d,y.f,y.c)=some (d',fr',c')) ⟨0,d,fr,-1,e5⟩ ⟨BB _,hd,hf,by simpa [Kb] using hF⟩ rfl (by simp) (by simp) (by simp) ?_);rintro⟨j,d,fr,c,e⟩ ⟨hj,hd,hf,hF⟩;simp only at hj hd hf hF |-;refine AW.sr (by simp[WH];rfl) ?_;refine .seq (AW.if' (decide ((j:Int)<(n:Int))) (by simp) (fun et=>AW.skip ?_) (fun et=>?_));rotate_left
 ·obtain rfl:j=n:=by have:=of_decide_eq_false et;omega
  rw[Nat.sub_self]at hF;obtain h3:=AI (show some (d,fr,c)=some (d',fr',c') from hF);simp only[BC]at h3;obtain⟨rfl,rfl,rfl⟩:=h3;exact .exs (by simp only[Ay,ablk,AX];exact k e hd hf) (by simp) (by simp) (by simp)
 have hlt:j<n:=by have:=BX et;omega
 rw[show n-j=(n-(j+1))+1 by omega]at hF;obtain⟨⟨d2,f2,c2⟩,aH,hF⟩:=bd_e (show bd (forN (imE mv j) n 0 (d,fr,c)) _=some (d',fr',c') from hF);have aS:inr .i64 ((j:Int)+1):=by show _/\_;omega
 simp only[Ay];refine .seq (.block (AW.sr (by simp[WI];rfl) ?_));refine AW.sr (by simp[WJ];rfl) ?_;refine .see (.spx (m':=bI f n k0 k1 k2++[(10,.int .i64 c),(11,.int .i64 j),(130,.int .i64 P),(131,.int .i64 p),(133,.int .i64 n),(134,.int .i64 j),(137,.int .i64 n),(138,.int .i64 0)]) (hm':=mI g n k0 (dO k1 n d) (fO k2 n fr) (.gone e3) (.gone e4) (.gone e)) (by simp) (by simp) (by simp)) ?_;refine be_b hA hC hM hlt hd hf bS aH fun e5' h1 h2=>?_;refine AW.r1 (by simp[WK];exact⟨aS,rfl⟩) ?_;exact⟨⟨j+1,d2,f2,c2,e5'⟩,⟨by show j+1<=n;omega,h1,h2,hF⟩,by show n-(j+1)<n-j;omega,.spx (by simp) (by simp) (by simp)⟩
set_option maxHeartbeats 4000000 in
theorem be_p(hA:∀(a b r:Af),BY a b=some r->AJ EE Tryz.prog 31 [.agg a.cells,.agg b.cells] (.agg r.cells))(hC:∀(a b:Af) (r:Int),Gw a b=some r->AJ EE Tryz.prog 23 [.agg a.cells,.agg b.cells] (.int .i64 r)){f:Nat->Aa} {n k0 k1 k2 e3 e4 e5:Nat} {g:Nat->List Aa} {mv:List (List (Int×Af))} (hM:MVg n mv g) {K:Nat} (hK:K<=1000001) {d:List Af} {fr:List Int} {c:Int} (hd:d.length=n) (hf:fr.length=n) (bS:n<=1000000) {o:Option (List Int×Int)}(hF:imPs mv n K d fr c=some o) {h:Aq} {Q:Exit->As->Prop}(k0x:o=none->∀d' fr' e5',Q (.exit 0) ⟨tl (bI f n k0 k1 k2) 289,hx (mI g n k0 (dO k1 n d') (fO k2 n fr') (.gone e3) (.gone e4) (.gone e5')) h,[]⟩)(k:∀d' fr' c' e5',o=some (fr',c')->d'.length=n->fr'.length=n->Q .normal ⟨tl (bI f n k0 k1 k2++[(10,.int .i64 c')]) 289,hx (mI g n k0 (dO k1 n d') (fO k2 n fr') (.gone e3) (.gone e4) (.gone e5')) h,[]⟩) :
  AW EE none Tryz.prog (.block 8 (.loop (WL 40))) Q ⟨tl (bI f n k0 k1 k2++[(10,.int .i64 c),(130,.int .i64 K),(131,.int .i64 0)]) 289,hx (mI g n k0 (dO k1 n d) (fO k2 n fr) (.gone e3) (.gone e4) (.gone e5)) h,[]⟩:=by
 refine .block (AW.lph (fun y:YF=>bI f n k0 k1 k2++[(10,.int .i64 y.c),(130,.int .i64 K),(131,.int .i64 y.j)]) (fun y=>mI g n k0 (dO k1 n y.d) (fO k2 n y.f) (.gone e3) (.gone e4) (.gone y.e)) (fun _=>h) (fun y=>K-y.j) (fun y=>y.j<=K/\y.d.length=n/\y.f.length=n/\imPs mv n (K-y.j) y.d y.f y.c=some o) ⟨0,d,fr,c,e5⟩ ⟨BB _,hd,hf,by simpa using hF⟩ rfl (by simp) (by simp) (by simp) ?_);rintro⟨j,d,fr,c,e⟩ ⟨hj,hd,hf,hF⟩;simp only at hj hd hf hF |-;refine AW.sr (by simp[WM];rfl) ?_;refine .seq (AW.if' (decide ((j:Int)<(K:Int))) (by simp) (fun et=>AW.skip ?_) (fun et=>?_));rotate_left
 ·obtain rfl:j=K:=by have:=of_decide_eq_false et;omega
  rw[Nat.sub_self]at hF;obtain rfl:=AI (show some (some (fr,c))=some o from hF);exact .exs (by simp only[Ay,ablk,AX];exact k d fr c e rfl hd hf) (by simp) (by simp) (by simp)
 have hlt:j<K:=by have:=BX et;omega
 rw[show K-j=(K-(j+1))+1 by omega]at hF;obtain⟨⟨d2,f2,c2⟩,aH,hF⟩:=bd_e (show bd (Kb mv n d fr) _=some o from hF);obtain⟨t1,t2⟩:=Bo hF;have aS:inr .i64 ((j:Int)+1):=by show _/\_;omega
 simp only[Ay];refine .seq (.block (AW.sr (by simp[WN];rfl) ?_));refine .seq (AW.sr (by simp[WP];rfl) ?_);refine .see (.spx (m':=bI f n k0 k1 k2++[(10,.int .i64 (-1)),(130,.int .i64 K),(131,.int .i64 j),(133,.int .i64 n),(134,.int .i64 0)]) (hm':=mI g n k0 (dO k1 n d) (fO k2 n fr) (.gone e3) (.gone e4) (.gone e)) (by simp) (by simp) (by simp)) ?_;refine be_a hA hC hM hd hf bS aH fun e5' h1 h2=>?_;simp only[Ay];refine AW.sr (by simp[WQ];rfl) ?_;refine AW.if' (decide (c2<0)) (by simp) (fun et=>?_) (fun et=>AW.skip ?_)
 ·obtain rfl:=AI (t1 et);exact .exs (by simp only[Ay,ablk];exact k0x rfl d2 f2 e5') (by simp) (by simp) (by simp)
 ·simp only[Ay,ablk];refine AW.r1 (by simp[WR];exact⟨aS,rfl⟩) ?_;exact⟨⟨j+1,d2,f2,c2,e5'⟩,⟨by show j+1<=K;omega,h1,h2,t2 et⟩,by show K-(j+1)<K-j;omega,.spx (by simp) (by simp) (by simp)⟩
end
end
section
theorem Kc{G ω:Type}{body:G->Option (G⊕ω)}{n:Nat}{s:G}{r:ω}(h:lpN body n s=some r):∃k,n=k+1/\((∃s',body s=some (.inl s')/\lpN body k s'=some r)\/body s=some (.inr r)):=by
 cases n with
 |zero=>cases h
 |succ k =>
  refine⟨k,rfl,?_⟩;unfold lpN at h;split at h
  ·rename_i s' e;exact .inl ⟨s',e,h⟩
  ·rename_i o e;cases h;exact .inr e
  ·cases h
theorem at_n{α:Type}{l:List α}{k:Int}{r:α}(h:at? l k=some r):∃u:Nat,k=(u:Int)/\u<l.length/\l[u]?=some r:=by obtain⟨h1,h2,h3⟩:=Ka h;exact⟨k.toNat,by omega,by omega,h3⟩
structure YC where
 j:Nat
 a:Int
structure YM where
 N:Nat
 b:Int
 u:Bool
 m:Int
structure YP where
 N:Nat
 b:Int
 u:Bool
 x:List (List Int)
 h:Aq
section
attribute [local simp] Cf GN BP Cg Ch Ci yza subm subh Cj pick B6
attribute [local simp] lkx Df Cu subx bI mI Cx Cy dO fO
set_option maxHeartbeats 4000000 in
theorem wzw1{f:Nat->Aa}{n k0 k1 k2 e3 e4 e5:Nat}{g:Nat->List Aa}{o1:Ad}{fr:List Int}{c c':Int}(hf:fr.length=n)(bS:n<=1000000)(hF:forN (fun(at0:Int) (_:Nat)=>at? fr at0) n 0 c=some c') {h:Aq} {Q:Exit->As->Prop}(k:Q .normal ⟨tl (bI f n k0 k1 k2++[(14,.int .i64 c')]) 289,hx (mI g n k0 o1 (fO k2 n fr) (.gone e3) (.gone e4) (.gone e5)) h,[]⟩) :
  AW EE none Tryz.prog (.block 14 (.loop (WS 40))) Q ⟨tl (bI f n k0 k1 k2++[(14,.int .i64 c),(192,.int .i64 n),(193,.int .i64 0)]) 289,hx (mI g n k0 o1 (fO k2 n fr) (.gone e3) (.gone e4) (.gone e5)) h,[]⟩:=by
 refine .block (AW.lph (fun y:YC=>bI f n k0 k1 k2++[(14,.int .i64 y.a),(192,.int .i64 n),(193,.int .i64 y.j)]) (fun y=>mI g n k0 o1 (fO k2 n fr) (.gone e3) (.gone e4) (.gone e5)) (fun _=>h) (fun y=>n-y.j) (fun y=>y.j<=n/\forN (fun(at0:Int) (_:Nat)=>at? fr at0) (n-y.j) y.j y.a=some c') ⟨0,c⟩ ⟨BB _,by simpa using hF⟩ rfl (by simp) (by simp) (by simp) ?_);rintro⟨j,a⟩ ⟨hj,hF⟩;simp only at hj hF |-;refine AW.sr (by simp[WT];rfl) ?_;refine .seq (AW.if' (decide ((j:Int)<(n:Int))) (by simp) (fun et=>AW.skip ?_) (fun et=>?_));rotate_left
 ·obtain rfl:j=n:=by have:=of_decide_eq_false et;omega
  rw[Nat.sub_self]at hF;obtain rfl:=AI (show some a=some c' from hF);exact .exs (by simp only[Ay,ablk,AX];exact k) (by simp) (by simp) (by simp)
 have hlt:j<n:=by have:=BX et;omega
 rw[show n-j=(n-(j+1))+1 by omega]at hF;obtain⟨a2,ja,bJ⟩:=bd_e (show bd (at? fr a) _=some c' from hF);obtain⟨u,rfl,hu,q⟩:=at_n ja;rw[hf]at hu;have cf:Ai iC fr u=iC a2:=Bb q;have aS:inr .i64 ((j:Int)+1):=by show _/\_;omega
 simp only[Ay];refine .seq (.block (AW.r1 (by simp[WU,hu,cf,iC];rfl) ?_));simp only[Ay,ablk];refine AW.r1 (by simp[WV];exact⟨aS,rfl⟩) ?_;exact⟨⟨j+1,a2⟩,⟨by show j+1<=n;omega,bJ⟩,by show n-(j+1)<n-j;omega,.spx (by simp) (by simp) (by simp)⟩
theorem WW{mv:List (List (Int×Af))}{fr:List Int}{b:Int}{p:Int×Int}(h:imG mv fr b=some p):∃(ub ua:Nat) (row:List (Int×Af)) (m:Int×Af),b=ub/\p=((ua:Int),m.1)/\ub<fr.length/\ua<mv.length/\fr[ub]?=some (ua:Int)/\mv[ua]?=some row/\row[ub]?=some m:=by unfold imG at h;obtain⟨a,h1,h⟩:=bd_e h;obtain⟨row,h2,h⟩:=bd_e h;obtain⟨m,h3,h⟩:=bd_e h;obtain rfl:=AI h;obtain⟨ub,rfl,a1,a2⟩:=at_n h1;obtain⟨ua,rfl,b1,b2⟩:=at_n h2;obtain⟨_,c2⟩:=Cw h3;exact⟨ub,ua,row,m,rfl,rfl,a1,b1,a2,b2,c2⟩
set_option maxHeartbeats 8000000 in
theorem wzof{f:Nat->Aa}{cl:List A7}{co:List (List Af)}{er:Nat->Nat}{n S:Nat}(hT:TkV f cl co er n S){x:List (List Int)}(bR:x.length=S)(b9:∀c∈x,c.length=n){h:Aq} (hX:RX er x h) {k0 k1 k2 e3 e4 e5:Nat} {g:Nat->List Aa} {o1:Ad} {mv:List (List (Int×Af))} (hM:MVg n mv g) (iD:mv.length=n) {fr:List Int} (hf:fr.length=n) {at0 r:Int}(hF:lp (Ee mv x fr at0) (at0,false,1402560)=some r) {Q:Exit->As->Prop}(k:Q .normal ⟨tl (bI f n k0 k1 k2++[(14,.int .i64 at0),(15,.int .i64 r)]) 289,hx (mI g n k0 o1 (fO k2 n fr) (.gone e3) (.gone e4) (.gone e5)) h,[]⟩) :
  AW EE none Tryz.prog (.block 16 (.loop (WX 40))) Q ⟨tl (bI f n k0 k1 k2++[(14,.int .i64 at0),(15,.int .i64 1402560),(16,.int .i64 at0),(17,.bool false)]) 289,hx (mI g n k0 o1 (fO k2 n fr) (.gone e3) (.gone e4) (.gone e5)) h,[]⟩:=by
 unfold lp at hF;generalize 4611686018427387904=N0 at hF;refine .block (AW.lph (fun y:YM=>bI f n k0 k1 k2++[(14,.int .i64 at0),(15,.int .i64 y.m),(16,.int .i64 y.b),(17,.bool y.u)]) (fun y=>mI g n k0 o1 (fO k2 n fr) (.gone e3) (.gone e4) (.gone e5)) (fun _=>h) (fun y=>y.N) (fun y=>lpN (Ee mv x fr at0) y.N (y.b,y.u,y.m)=some r) ⟨N0,at0,false,1402560⟩ hF rfl (by simp) (by simp) (by simp) ?_);rintro⟨N,b,u,m⟩ hF;simp only at hF |-;obtain⟨N',hN,hL⟩:=Kc hF;clear hF;subst hN;have hF:=hL;clear hL;obtain⟨cnd,hc⟩:∃cnd,cnd=(bif !u then true else !decide (b=at0)):=⟨_,rfl⟩;refine .seq (?_:AW EE none Tryz.prog (.seq (.reg false (Kd 40) []) (.cond (.t 207) (.skip) (.exit 16))) _ _)
 have gL:∀Q',AW EE none Tryz.prog (.cond (.t 207) (.skip) (.exit 16)) Q' ⟨tl (bI f n k0 k1 k2++[(14,.int .i64 at0),(15,.int .i64 m),(16,.int .i64 b),(17,.bool u),(207,.bool cnd)]) 289,hx (mI g n k0 o1 (fO k2 n fr) (.gone e3) (.gone e4) (.gone e5)) h,[]⟩ ->
   AW EE none Tryz.prog (.seq (.reg false (Kd 40) []) (.cond (.t 207) (.skip) (.exit 16))) Q' ⟨tl (bI f n k0 k1 k2++[(14,.int .i64 at0),(15,.int .i64 m),(16,.int .i64 b),(17,.bool u)]) 289,hx (mI g n k0 o1 (fO k2 n fr) (.gone e3) (.gone e4) (.gone e5)) h,[]⟩:=fun Q' hQ=>by
  cases u
  ·refine AW.sr (by simp[Kd];rfl) ?_;exact .see (.spx (by simp[hc]) (by simp) (by simp)) hQ
  ·refine AW.sr (by simp[Kd];rfl) ?_;exact .see (.spx (by simp[hc]) (by simp) (by simp)) hQ
 refine gL _ ?_;refine AW.if' cnd (by simp) (fun e=>AW.skip ?_) (fun e=>?_);rotate_left
 ·rcases hF with ⟨s',aH,hF⟩|hF;·have:=(Bo (show ite' (bif !u then true else !decide (b=at0)) _ _=_ from aH)).2 (hc▸e);cases this
  ·have:=(Bo (show ite' (bif !u then true else !decide (b=at0)) _ _=_ from hF)).2 (hc▸e);cases this;exact .exs (by simp only[Ay,ablk,AX];exact k) (by simp) (by simp) (by simp)
 obtain⟨s',aH,hF⟩:∃s',Ee mv x fr at0 (b,u,m)=some (.inl s')/\lpN (Ee mv x fr at0) N' s'=some r:=by
  rcases hF with h|hF
  ·exact h
  ·exfalso;have:=(Bo (show ite' (bif !u then true else !decide (b=at0)) _ _=_ from hF)).1 (hc▸e);obtain⟨_,_,this⟩:=bd_e this;obtain⟨_,_,this⟩:=bd_e this;obtain⟨_,_,this⟩:=bd_e this;cases this
 have aH:=(Bo (show ite' (bif !u then true else !decide (b=at0)) _ _=_ from aH)).1 (hc▸e);obtain⟨p,q1,aH⟩:=bd_e aH;obtain⟨xs,q2,aH⟩:=bd_e aH;obtain⟨xa,q3,aH⟩:=bd_e aH;cases aH;obtain⟨ub,ua,row,mm,rfl,rfl,z1,z2,z3,z4,z5⟩:=WW q1;obtain⟨us,l7,z6,z7⟩:=at_n q2;obtain⟨_,z8⟩:=Cw q3;rw[hf]at z1;rw[iD]at z2;rw[bR]at z6;obtain⟨_,jq⟩:=hM ua row z4;have cf:Ai iC fr ub=iC (ua:Int):=Bb z3;have cm:Ai mvC row ub=mvC mm:=Bb z5;have cw:xs.length=n:=b9 _ (AK z7);have dX:h (rwx us)=.vec (er us) 1 n (Ai iC xs):=(hX us xs z7).trans (by unfold rowO;rw[cw]);have cx:Ai iC xs ua=iC xa:=Bb z8;have gN:mm.1=(us:Int):=l7;simp only[Ay];refine .seq (.block (AW.d1 (by simp[WY,hT.f7,z1,z2,z6,cf,iC,jq,cm,mvC,gN,dX,cx];exact⟨by kernel_rfl,rfl⟩) ?_));simp only[Ay,ablk];refine AW.r1 (by simp[WZ,z1,cf,iC];rfl) ?_;exact⟨⟨N',(ua:Int),true,min m xa⟩,hF,by show N'<N'+1;omega,.spx (by simp) (by simp) (by simp)⟩
end
theorem wzu8{m:List (Nat×Ad)}{h:Aq}{s:Nat}{o:Ad}(hm:m.all (fun p=>Nat.blt p.1 100)=true):hset (hx m h) (rwx s) o=hx m (hset h (rwx s) o):=by
 funext j;by_cases e:j=rwx s
 ·subst e;have h1:hx m (hset h (rwx s) o) (rwx s)=hset h (rwx s) o (rwx s):=Md hm (by unfold rwx;omega);rw[h1];simp[hset]
 ·show(if j=rwx s then o else lkx m h j)=lkx m (hset h (rwx s) o) j;rw[Ah e];clear hm;induction m with
  |nil=>show h j=(if j=rwx s then o else h j);rw[Ah e]
  |cons p m ih=>simp only[lkx,ih]
theorem Dk{h:Aq}{i:Nat}{o:Ad}:hset h i o i=o:=Aj rfl
theorem BE{h:Aq}{i j:Nat}{o:Ad}(e:j≠i):hset h i o j=h j:=Ah e
section
attribute [local simp] Cf GN BP Cg Ch Ci yza subm subh Cj pick B6
attribute [local simp] lkx Px Cu subx bI mI Cx Cy dO fO
attribute [local simp] wzu8
attribute [local simp] Dk
set_option maxHeartbeats 8000000 in
theorem wzry{f:Nat->Aa}{cl:List A7}{co:List (List Af)}{er:Nat->Nat}{n S:Nat}(hT:TkV f cl co er n S){x:List (List Int)}(bR:x.length=S)(b9:∀c∈x,c.length=n){h:Aq} (hX:RX er x h) {k0 k1 k2 e3 e4 e5:Nat} {g:Nat->List Aa} {o1:Ad} {mv:List (List (Int×Af))} (hM:MVg n mv g) (iD:mv.length=n) {fr:List Int} (hf:fr.length=n) {at0 most:Int} {y:List (List Int)}(hF:lp (Ef mv fr at0 most) (at0,false,x)=some y) {Q:Exit->As->Prop}(k:∀h',y.length=S->(∀c∈y,c.length=n)->RX er y h'->(∀i,(∀s,i≠rwx s)->h' i=h i)->Q .normal ⟨tl (bI f n k0 k1 k2) 289,hx (mI g n k0 o1 (fO k2 n fr) (.gone e3) (.gone e4) (.gone e5)) h',[]⟩) :
  AW EE none Tryz.prog (.block 18 (.loop (Xa 40))) Q ⟨tl (bI f n k0 k1 k2++[(14,.int .i64 at0),(15,.int .i64 most),(18,.int .i64 at0),(19,.bool false)]) 289,hx (mI g n k0 o1 (fO k2 n fr) (.gone e3) (.gone e4) (.gone e5)) h,[]⟩:=by
 unfold lp at hF;generalize 4611686018427387904=N0 at hF;refine .block (AW.lph (fun z:YP=>bI f n k0 k1 k2++[(14,.int .i64 at0),(15,.int .i64 most),(18,.int .i64 z.b),(19,.bool z.u)]) (fun z=>mI g n k0 o1 (fO k2 n fr) (.gone e3) (.gone e4) (.gone e5)) (fun z=>z.h) (fun z=>z.N) (fun z=>z.x.length=S/\(∀c∈z.x,c.length=n)/\RX er z.x z.h/\(∀i,(∀s,i≠rwx s)->z.h i=h i)/\lpN (Ef mv fr at0 most) z.N (z.b,z.u,z.x)=some y) ⟨N0,at0,false,x,h⟩ ⟨bR,b9,hX,fun _ _=>rfl,hF⟩ rfl (by simp) (by simp) (by simp) ?_);rintro⟨N,b,u,x,h2⟩ ⟨bR,b9,hX,dK,hF⟩;simp only at bR b9 hX dK hF |-;obtain⟨N',hN,hL⟩:=Kc hF;clear hF;subst hN;have hF:=hL;clear hL;obtain⟨cnd,hc⟩:∃cnd,cnd=(bif !u then true else !decide (b=at0)):=⟨_,rfl⟩;refine .seq (?_:AW EE none Tryz.prog (.seq (.reg false (Ke 40) []) (.cond (.t 244) (.skip) (.exit 18))) _ _)
 have gL:∀Q',AW EE none Tryz.prog (.cond (.t 244) (.skip) (.exit 18)) Q' ⟨tl (bI f n k0 k1 k2++[(14,.int .i64 at0),(15,.int .i64 most),(18,.int .i64 b),(19,.bool u),(244,.bool cnd)]) 289,hx (mI g n k0 o1 (fO k2 n fr) (.gone e3) (.gone e4) (.gone e5)) h2,[]⟩ ->
   AW EE none Tryz.prog (.seq (.reg false (Ke 40) []) (.cond (.t 244) (.skip) (.exit 18))) Q' ⟨tl (bI f n k0 k1 k2++[(14,.int .i64 at0),(15,.int .i64 most),(18,.int .i64 b),(19,.bool u)]) 289,hx (mI g n k0 o1 (fO k2 n fr) (.gone e3) (.gone e4) (.gone e5)) h2,[]⟩:=fun Q' hQ=>by
  cases u
  ·refine AW.sr (by simp[Ke];rfl) ?_;exact .see (.spx (by simp[hc]) (by simp) (by simp)) hQ
  ·refine AW.sr (by simp[Ke];rfl) ?_;exact .see (.spx (by simp[hc]) (by simp) (by simp)) hQ
 refine gL _ ?_;refine AW.if' cnd (by simp) (fun e=>AW.skip ?_) (fun e=>?_);rotate_left
 ·rcases hF with ⟨s',aH,hF⟩|hF;·have:=(Bo (show ite' (bif !u then true else !decide (b=at0)) _ _=_ from aH)).2 (hc▸e);cases this
  ·have:=(Bo (show ite' (bif !u then true else !decide (b=at0)) _ _=_ from hF)).2 (hc▸e);cases this;exact .exs (by simp only[Ay,ablk,AX];exact k h2 bR b9 hX dK) (by simp) (by simp) (by simp)
 obtain⟨s',aH,hF⟩:∃s',Ef mv fr at0 most (b,u,x)=some (.inl s')/\lpN (Ef mv fr at0 most) N' s'=some y:=by
  rcases hF with h|hF
  ·exact h
  ·exfalso;have:=(Bo (show ite' (bif !u then true else !decide (b=at0)) _ _=_ from hF)).1 (hc▸e);obtain⟨_,_,this⟩:=bd_e this;obtain⟨_,_,this⟩:=bd_e this;obtain⟨_,_,this⟩:=bd_e this;obtain⟨_,this⟩:=ck_e this;obtain⟨_,_,this⟩:=bd_e this;obtain⟨_,this⟩:=ck_e this;cases this
 have aH:=(Bo (show ite' (bif !u then true else !decide (b=at0)) _ _=_ from aH)).1 (hc▸e);obtain⟨p,q1,aH⟩:=bd_e aH;obtain⟨xs,q2,aH⟩:=bd_e aH;obtain⟨xa,q3,aH⟩:=bd_e aH;obtain⟨i1,aH⟩:=ck_e aH;obtain⟨xb,q4,aH⟩:=bd_e aH;obtain⟨i2,aH⟩:=ck_e aH;cases aH;obtain⟨ub,ua,row,mm,rfl,rfl,z1,z2,z3,z4,z5⟩:=WW q1;obtain⟨us,l7,z6,z7⟩:=at_n q2;obtain⟨_,z8⟩:=Cw q3;obtain⟨_,z9⟩:=Cw q4;rw[hf]at z1;rw[iD]at z2;rw[bR]at z6;obtain⟨_,jq⟩:=hM ua row z4;have cf:Ai iC fr ub=iC (ua:Int):=Bb z3;have cm:Ai mvC row ub=mvC mm:=Bb z5;have cw:xs.length=n:=b9 _ (AK z7);have dX:h2 (rwx us)=.vec (er us) 1 n (Ai iC xs):=(hX us xs z7).trans (by unfold rowO;rw[cw]);have cx:Ai iC xs ua=iC xa:=Bb z8;simp only[B0]at z9 hF;have cx2:Ai iC (xs.set ua (xa-most)) ub=iC xb:=Bb z9;have gN:mm.1=(us:Int):=l7;rw[show mm.1.toNat=us by omega]at hF;have f1:(fun k:Nat=>if k=ua then [Aa.int .i64 (xa-most)] else Ai iC xs k)=Ai iC (xs.set ua (xa-most)):=Ed (by omega) rfl;have f2:(fun k:Nat=>if k=ub then [Aa.int .i64 (xb+most)] else Ai iC (xs.set ua (xa-most)) k)=Ai iC ((xs.set ua (xa-most)).set ub (xb+most)):=Ed (by simp;omega) rfl;have j1:inr .i64 (xa-most):=by simp[Au]at i1;exact i1
 have j2:inr .i64 (xb+most):=by simp[Au]at i2;exact i2
 simp only[Ay];refine .seq (.block (AW.sr (by simp[Xb,z1,z2,cf,iC,jq,cm,mvC,gN];rfl) ?_));refine AW.sd (by simp[Xc,hT.f7,z1,z2,z6,cf,iC,dX,cx,j1,f1];exact⟨by kernel_rfl,rfl⟩) ?_;refine AW.r1 (by simp[Xd,hT.f7,z1,z2,z6,iC,cx2,j2,f2];rfl) ?_;simp only[Ay,ablk];refine AW.r1 (by simp[Xe,z1,cf,iC];rfl) ?_;refine⟨⟨N',(ua:Int),true,x.set us ((xs.set ua (xa-most)).set ub (xb+most)),hset (hset h2 (rwx us) (.vec (er us) 1 n (Ai iC (xs.set ua (xa-most))))) (rwx us) (.vec (er us) 1 n (Ai iC ((xs.set ua (xa-most)).set ub (xb+most))))⟩,⟨by simp[bR],fun c hc=>?_,fun s r hr=>?_,fun i hi=>?_,hF⟩,by show N'<N'+1;omega,.spx (by simp) (by simp) (by simp)⟩
 ·rcases List.mem_or_eq_of_mem_set hc with h|rfl;·exact b9 _ h
  ·simp[cw]
 ·rw[DN]at hr;by_cases es:us=s
  ·subst es;rw[Aj rfl,Aj (by omega)]at hr;obtain rfl:=AI hr;simp[rowO,Dk,cw]
  ·rw[Ah es]at hr;show hset (hset h2 (rwx us) _) (rwx us) _ (rwx s)=_;rw[BE (fun e=>es (by rw[Mp]at e;exact e.symm)),BE (fun e=>es (by rw[Mp]at e;exact e.symm))];exact hX s r hr
 ·show hset (hset h2 (rwx us) _) (rwx us) _ i=_;rw[BE (hi us),BE (hi us)];exact dK i hi
end
end
section
structure YR where
 N:Nat
 x:List (List Int)
 f:List Int
 d:List Af
 g:Nat->List Aa
 h:Aq
 e3:Nat
 e4:Nat
 e5:Nat
section
attribute [local simp] Cf GN BP Cg Ch Ci yza subm subh Cj pick B6
attribute [local simp] lkx Df Cu subx bI mI Cx Cy dO fO
def zR:Af:=⟨false,[],[]⟩
set_option maxHeartbeats 8000000 in
theorem wzg2(hS:∀(a b r:Af),Dj a b=some r->AJ EE Tryz.prog 111 [.agg a.cells,.agg b.cells] (.agg r.cells))(hA:∀(a b r:Af),BY a b=some r->AJ EE Tryz.prog 31 [.agg a.cells,.agg b.cells] (.agg r.cells))(hC:∀(a b:Af) (r:Int),Gw a b=some r->AJ EE Tryz.prog 23 [.agg a.cells,.agg b.cells] (.int .i64 r)){f:Nat->Aa} {cl:List A7} {co:List (List Af)} {er:Nat->Nat} {n S:Nat} (hT:TkV f cl co er n S) {x:List (List Int)} (bR:x.length=S) (gK:co.length=S) (cM:∀c∈co,c.length=n) (b9:∀c∈x,c.length=n){H:Aq} (hX:RX er x H) (hg:∀i,40<=i->i<46->∃e,H i=.gone e) (dW:S<=1000000) (bS:n<=1000000) {y:List (List Int)} (hF:F9 co x n=some y) :
  ATr EE Tryz.prog 95 [.cptr f 8 0] H (fun v h'=>v=.tup []/\y.length=S/\(∀c∈y,c.length=n)/\RX er y h'/\(∀i,40<=i->i<46->∃e,h' i=.gone e)/\∀i,(i<40\/46<=i)->(∀s,i≠rwx s)->h' i=H i):=by
 obtain⟨cd,hb,bW⟩:=ck95;obtain⟨e0,g0⟩:=hg 40 (by omega) (by omega);obtain⟨e1,g1⟩:=hg 41 (by omega) (by omega);obtain⟨e2,g2⟩:=hg 42 (by omega) (by omega);obtain⟨e3,g3⟩:=hg 43 (by omega) (by omega);obtain⟨e4,g4⟩:=hg 44 (by omega) (by omega);obtain⟨e5,g5⟩:=hg 45 (by omega) (by omega);refine ATr.of (fn:=Tryz.f95) rfl hb cr95 (bW 40) 288 rfl ?_;rw[show([Aa.cptr f 8 0]++List.replicate 288 .top)=tl [(0,.cptr f 8 0)] 289 from JR [_] 288];change AW EE none _ _ _ ⟨_,hx [] H,[]⟩;refine .see (.spx (m':=[(0,.cptr f 8 0)]) (hm':=[(40,.gone e0),(41,.gone e1),(42,.gone e2),(43,.gone e3),(44,.gone e4),(45,.gone e5)]) (by simp) (by simp[g0,g1,g2,g3,g4,g5]) (by simp)) ?_;have l8:(n:Int)*24<=140737488355328:=by omega
 have l9:(n:Int)*40<=140737488355328:=by omega
 have lA:(n:Int)*8<=140737488355328:=by omega
 refine .scope (AW.sr (by simp[Xf,hT.f5];rfl) ?_);refine AW.sr (by simp[Xg,l8];rfl) ?_;refine AW.sd (by simp[Xh,l9,lA];exact⟨by kernel_rfl,rfl⟩) ?_;refine .seq (.label ?_);simp only[Ay];unfold F9 lpB at hF;generalize bigF=N0 at hF;refine .block (AW.lph (fun z:YR=>bI f n (e0+1) (e1+1) (e2+1)) (fun z=>mI z.g n (e0+1) (dO (e1+1) n z.d) (fO (e2+1) n z.f) (.gone z.e3) (.gone z.e4) (.gone z.e5)) (fun z=>z.h) (fun z=>z.N) (fun z=>z.x.length=S/\(∀c∈z.x,c.length=n)/\RX er z.x z.h/\(∀i,(∀s,i≠rwx s)->z.h i=H i)/\z.f.length=n/\z.d.length=n/\(∀k,k<n->(z.g k).tail=[])/\lpN (GW co n) z.N (z.x,z.f)=some y) ⟨N0,x,List.replicate n 0,List.replicate n zR,fun _=>[.nils],H,e3,e4,e5⟩ ⟨bR,b9,hX,fun _ _=>rfl,by simp,by simp,fun _ _=>rfl,hF⟩ rfl (by simp) ?_ (by simp) ?_)
 ·simp;exact⟨fun k hk=>(F8 hk),fun k hk=>(F8 hk)⟩
 rintro⟨N,x,fr,d,g,h,e3,e4,e5⟩ ⟨bR,b9,hX,dK,hf,hd,fB,hF⟩;simp only at bR b9 hX dK hf hd fB hF |-;obtain⟨N',hN,hL⟩:=Kc hF;clear hF;subst hN;have hF:=hL;clear hL
 obtain⟨mv,p1,cH⟩:∃mv,imMv co x n=some mv/\∃o,imPs mv n (n+1) (List.replicate n (Af.mk false [] [])) fr (-1)=some o:=by
  rcases hF with ⟨s',h1,_⟩|h1
  ·obtain⟨mv,q1,h1⟩:=bd_e (show bd (imMv co x n) _=_ from h1);obtain⟨o,q2,h1⟩:=bd_e h1;exact⟨mv,q1,o,q2⟩
  ·obtain⟨mv,q1,h1⟩:=bd_e (show bd (imMv co x n) _=_ from h1);obtain⟨o,q2,h1⟩:=bd_e h1;exact⟨mv,q1,o,q2⟩
 obtain⟨o,p2⟩:=cH
 have gO:GW co n (x,fr)=(match (generalizing:=false) o with
  |none=>some (.inr x)
  |some (f,c)=>bd (forN (fun(at0:Int) (_:Nat)=>at? f at0) n 0 c) fun at0 =>
   bd (lp (Ee mv x f at0) (at0,false,1402560)) fun most=>bd (lp (Ef mv f at0 most) (at0,false,x)) fun x=>some (.inl (x,f))):=by
  show bd (imMv co x n) _=_;rw[p1];show bd (imPs mv n (n+1) _ fr (-1)) _=_;rw[p2];rfl
 rw[gO]at hF;refine .block (.seq (.seq (AW.r1 (by simp[Xi];rfl) ?_)));refine .see (.spx (m':=bI f n (e0+1) (e1+1) (e2+1)++[(32,.int .i64 n),(33,.int .i64 0)]) (hm':=mI g n (e0+1) (dO (e1+1) n d) (fO (e2+1) n fr) (.gone e3) (.gone e4) (.gone e5)) (by simp) (by simp) (by simp)) ?_;refine im_a hS hC hT bR gK cM b9 hX p1 dW bS fB fun g' e3' e4' iD hM lB=>?_;simp only[Ay];refine AW.sr (by simp[Xj,HX];rfl) ?_;refine AW.sr (by simp[Xk];rfl) ?_;refine .seq (.seq (AW.r1 (by simp[Xl];exact⟨(by show _/\_;omega),rfl⟩) ?_));refine .see (.spx (m':=bI f n (e0+1) (e1+1) (e2+1)++[(10,.int .i64 (-1)),(130,.int .i64 ((n+1:Nat):Int)),(131,.int .i64 0)]) (hm':=mI g' n (e0+1) (dO (e1+1) n (List.replicate n zR)) (fO (e2+1) n fr) (.gone e3') (.gone e4') (.gone e5)) (by simp) ?_ (by simp)) ?_
 ·simp;intro k hk;rw[F8 hk];simp[hk,zR]
 refine be_p hA hC hM (by omega) (by simp) hf bS p2 (fun ho d' fr' e5'=>?_) (fun d' fr' c' e5' ho ia fS=>?_)
 ·subst ho;rcases hF with ⟨s',h1,_⟩|h1
  ·cases h1
  have hq:=Sum.inr.inj (AI h1);subst hq;simp only[Ay,ablk];rw[Ah (by omega)];simp only[AX,OA];generalize hm:mI g' n (e0+1) (dO (e1+1) n d') (fO (e2+1) n fr') (.gone e3') (.gone e4') (.gone e5')=M;have cJ:∀i,¬(40<=i/\i<46)->hx M h i=h i:=fun i hi=>by subst hm;refine ER ?_;simp;omega
  show Post EE rs95 _ .normal _;refine⟨_,.refl _,by simp[rs95],fun i=>if 40<=i/\i<46 then .gone (hx M h i).ep else h i,fun i=>?_,(fun D hD=>by cases hD),?_⟩
  ·show OSub (hx M h i) _;by_cases hi:40<=i/\i<46
   ·simp only[Aj hi];exact .inl rfl
   ·simp only[Ah hi];rw[cJ i hi];exact .refl _
  ·refine⟨by simp[rs95],bR,b9,fun s r hr=>?_,fun i h1 h2=>⟨_,Aj ⟨h1,h2⟩⟩,fun i hi hs=>?_⟩;·simp only[Ah (show ¬(40<=rwx s/\rwx s<46) by unfold rwx;omega)];exact hX s r hr
   ·simp only[Ah (show ¬(40<=i/\i<46) by omega)];exact dK i hs
 subst ho;simp only at hF
 obtain⟨at0,q1,hF⟩:∃at0,forN (fun(at0:Int) (_:Nat)=>at? fr' at0) n 0 c'=some at0/\∃most,lp (Ee mv x fr' at0) (at0,false,1402560)=some most/\∃x2,lp (Ef mv fr' at0 most) (at0,false,x)=some x2/\lpN (GW co n) N' (x2,fr')=some y:=by
  rcases hF with ⟨s',h1,h2⟩|h1
  ·obtain⟨at0,q1,h1⟩:=bd_e h1;obtain⟨most,q2,h1⟩:=bd_e h1;obtain⟨x2,q3,h1⟩:=bd_e h1;cases h1;exact⟨at0,q1,most,q2,x2,q3,h2⟩
  ·obtain⟨at0,q1,h1⟩:=bd_e h1;obtain⟨most,q2,h1⟩:=bd_e h1;obtain⟨x2,q3,h1⟩:=bd_e h1;cases h1
 obtain⟨most,q2,x2,q3,hF⟩:=hF;simp only[Ay];refine AW.sr (by simp[Xm];rfl) ?_;refine .seq (.seq (AW.r1 (by simp[Xn];rfl) ?_));refine .see (.spx (m':=bI f n (e0+1) (e1+1) (e2+1)++[(14,.int .i64 c'),(192,.int .i64 n),(193,.int .i64 0)]) (hm':=mI g' n (e0+1) (dO (e1+1) n d') (fO (e2+1) n fr') (.gone e3') (.gone e4') (.gone e5')) (by simp) (by simp) (by simp)) ?_;refine wzw1 fS bS q1 ?_;simp only[Ay];refine AW.sr (by simp[Xo];rfl) ?_;refine .seq (.seq (AW.r1 (by simp[Xp];rfl) ?_));refine .see (.spx (m':=bI f n (e0+1) (e1+1) (e2+1)++[(14,.int .i64 at0),(15,.int .i64 1402560),(16,.int .i64 at0),(17,.bool false)]) (hm':=mI g' n (e0+1) (dO (e1+1) n d') (fO (e2+1) n fr') (.gone e3') (.gone e4') (.gone e5')) (by simp) (by simp) (by simp)) ?_;refine wzof hT bR b9 hX hM iD fS q2 ?_;simp only[Ay];refine AW.sr (by simp[Xq];rfl) ?_;refine .see (.spx (m':=bI f n (e0+1) (e1+1) (e2+1)++[(14,.int .i64 at0),(15,.int .i64 most),(18,.int .i64 at0),(19,.bool false)]) (hm':=mI g' n (e0+1) (dO (e1+1) n d') (fO (e2+1) n fr') (.gone e3') (.gone e4') (.gone e5')) (by simp) (by simp) (by simp)) ?_;refine wzry hT bR b9 hX hM iD fS q3 fun h' l1 l2 l3 l4=>?_;simp only[Ay,ablk];exact⟨⟨N',x2,fr',d',g',h',e3',e4',e5'⟩,⟨l1,l2,l3,fun i hi=>(l4 i hi).trans (dK i hi),fS,ia,lB,hF⟩,by show N'<N'+1;omega,.spx (by simp) (by simp) (by simp)⟩
end
end
section
def bG(fnv:Aa)(p q w n:Nat):List (Nat×Aa):=[(2,fnv),(3,.ptr 20 p 0),(7,.ptr 21 q 0),(8,.vec 22 w 0 n)]
def mG(rc:List Aa)(p q w n:Nat)(clv Vc Vx:Aa)(left:List Int)(o23 o24 o25 o26 o27 o28 o29 o30 o31 o32:Ad):List (Nat×Ad) := [(20,.box p rc),(21,.box q (rc++[clv,Vc,Vx])),(22,.vec w 1 n (Ai iC left)),(23,o23),(24,o24),(25,o25),(26,o26),(27,o27),(28,o28),(29,o29),(30,o30),(31,o31),(32,o32)]
def rcO(r:Ao):List Aa:=[.int .i64 r.From,.int .i64 r.To,.slc 2 r.Table.length (Ai AM.cells r.Table),.int .i64 r.Lo,.int .i64 r.Hi]
def clO(cl:List A7):Aa:=.slc 2 cl.length (Ai A7.cells cl)
structure Y0 where
 j:Nat
 l:List Int
 e:Nat
structure Y2 where
 j:Nat
 r:List Af
 g:Nat->List Aa
 a:Nat
 b:Nat
 c:Nat
structure Y3 where
 N:Nat
 n:Int
 a:Int
 l:List Int
 r:List Int
section
attribute [local simp] Cf GN BP Cg Ch Ci yza subm subh Cj pick B6
attribute [local simp] lkx Df Cu subx bG mG rcO clO Cx Cy
theorem wzor{α:Type}{l:List α}{j n:Nat}{v z:α}(hl:l.length=j):(l++List.replicate (n+1) z).set j v=(l++[v])++List.replicate n z:=by rw[List.set_append_right _ _ (by omega),hl,Nat.sub_self,List.append_assoc];rfl
set_option maxHeartbeats 4000000 in
theorem bg_0{fnv:Aa}{p q w n:Nat}{r:Ao}{cl:List A7}(hn:cl.length=n)(bS:n<=1000000){Vc Vx:Aa}{o24 o25 o26 o27 o28 o29 o30 o31 o32:Ad}{e23:Nat}{h:Aq}{Q:Exit->As->Prop}(k:∀e',Q .normal ⟨tl (bG fnv p q w n) 151,hx (mG (rcO r) p q w n (clO cl) Vc Vx (cl.map (·.Ticks)) (.gone e') o24 o25 o26 o27 o28 o29 o30 o31 o32) h,[]⟩) :
  AW EE none Tryz.prog (.block 0 (.loop (Xr 20))) Q ⟨tl (bG fnv p q w n++[(33,clO cl),(34,.int .i64 n),(35,.int .i64 0)]) 151,hx (mG (rcO r) p q w n (clO cl) Vc Vx (List.replicate n 0) (.gone e23) o24 o25 o26 o27 o28 o29 o30 o31 o32) h,[]⟩:=by
 refine .block (AW.lph (fun y:Y0=>bG fnv p q w n++[(33,clO cl),(34,.int .i64 n),(35,.int .i64 y.j)]) (fun y=>mG (rcO r) p q w n (clO cl) Vc Vx (y.l++List.replicate (n-y.j) 0) (.gone y.e) o24 o25 o26 o27 o28 o29 o30 o31 o32) (fun _=>h) (fun y=>n-y.j) (fun y=>y.j<=n/\y.l=(cl.take y.j).map (·.Ticks)) ⟨0,[],e23⟩ ⟨BB _,rfl⟩ rfl (by simp) (by simp) (by simp) ?_);rintro⟨j,l,e⟩ ⟨hj,hl⟩;simp only at hj hl |-;refine AW.sr (by simp[Xs];rfl) ?_;refine .seq (AW.if' (decide ((j:Int)<(n:Int))) (by simp) (fun et=>AW.skip ?_) (fun et=>?_));rotate_left
 ·obtain rfl:j=n:=by have:=of_decide_eq_false et;omega
  obtain rfl:l=cl.map (·.Ticks):=by rw[hl,<-hn,List.take_length]
  exact .exs (by simp only[Ay,ablk,AX];exact k e) (by simp) (by simp) (by simp)
 have hlt:j<n:=by have:=BX et;omega
 obtain⟨c,hc⟩:∃c,cl[j]?=some c:=⟨_,AA (by omega)⟩;have cc:Ai A7.cells cl j=c.cells:=Bb hc;have c9:l.length=j:=by rw[hl];simp;omega
 obtain⟨m,hm⟩:∃m,n-j=m+1:=⟨n-(j+1),by omega⟩;have hm':n-(j+1)=m:=by omega
 have c0:Ai iC (l++List.replicate (m+1) 0) j=[.int .i64 0]:=Bb (c:=iC) (x:=0) (by rw[Gj (by omega),c9];simp);have f1:(fun k:Nat=>if k=j then [Aa.int .i64 c.Ticks] else Ai iC (l++List.replicate (m+1) 0) k)=Ai iC ((l++[c.Ticks])++List.replicate m 0):=by rw[<-wzor c9];exact Ed (c:=iC) (v:=c.Ticks) (by simp;omega) rfl
 have aS:inr .i64 ((j:Int)+1):=by show _/\_;omega
 rw[hm];simp only[Ay];refine .seq (.block (AW.sr (by simp[Xt,hn,hlt,cc];rfl) ?_));refine AW.r1 (by simp[Xu,hlt,c0,f1];rfl) ?_;simp only[Ay,ablk];refine AW.r1 (by simp[Xv];exact⟨aS,rfl⟩) ?_;refine⟨⟨j+1,l++[c.Ticks],e+1⟩,⟨by show j+1<=n;omega,?_⟩,by show n-(j+1)<m+1;omega,.spx (by simp[hn]) (by simp[hm',hn]) (by simp)⟩;show l++[c.Ticks]=(cl.take (j+1)).map (·.Ticks);rw[List.take_add_one,hc,List.map_append,hl];rfl
set_option maxHeartbeats 8000000 in
theorem bg_3{fnv:Aa}{p q w n:Nat}{r:Ao}{clv:Aa}{Vc:Aa}{e29 e27 s:Nat}{g:Nat->List Aa}(hg:g s=[.vec 27 e27 0 n]){left row left1 row1:List Int}{at0 at1 T:Int}(hl:left.length=n)(hr:row.length=n)(hF:lp GX (T,at0,left,row)=some (at1,left1,row1)) {o23 o24 o25 o26 o28 o30 o31 o32:Ad} {h:Aq} {Q:Exit->As->Prop} {A B C:Aa}(k:left1.length=n->row1.length=n->Q .normal ⟨tl (bG fnv p q w n++[(11,.int .i64 at1),(12,.int .i64 s),(47,A),(48,B),(49,C)]) 151,hx (mG (rcO r) p q w n clv Vc (.vec 29 e29 0 (s+1)) left1 o23 o24 o25 o26 (.vec e27 1 n (Ai iC row1)) o28 (.vec e29 1 (s+1) g) o30 o31 o32) h,[]⟩) :
  AW EE none Tryz.prog (.block 6 (.loop (Xw 20))) Q ⟨tl (bG fnv p q w n++[(11,.int .i64 at0),(12,.int .i64 s),(16,.int .i64 T),(47,A),(48,B),(49,C)]) 151,hx (mG (rcO r) p q w n clv Vc (.vec 29 e29 0 (s+1)) left o23 o24 o25 o26 (.vec e27 1 n (Ai iC row)) o28 (.vec e29 1 (s+1) g) o30 o31 o32) h,[]⟩:=by
 unfold lp at hF;generalize 4611686018427387904=N0 at hF;refine .block (AW.lph (fun y:Y3=>bG fnv p q w n++[(11,.int .i64 y.a),(12,.int .i64 s),(16,.int .i64 y.n),(47,A),(48,B),(49,C)]) (fun y=>mG (rcO r) p q w n clv Vc (.vec 29 e29 0 (s+1)) y.l o23 o24 o25 o26 (.vec e27 1 n (Ai iC y.r)) o28 (.vec e29 1 (s+1) g) o30 o31 o32) (fun _=>h) (fun y=>y.N) (fun y=>y.l.length=n/\y.r.length=n/\lpN GX y.N (y.n,y.a,y.l,y.r)=some (at1,left1,row1)) ⟨N0,T,at0,left,row⟩ ⟨hl,hr,hF⟩ rfl (by simp) (by simp) (by simp) ?_);rintro⟨N,T,a,left,row⟩ ⟨hl,hr,hF⟩;refine AW.ath fun P hP=>?_;simp only at hl hr hF |-;obtain⟨N',hN,hL⟩:=Kc hF;clear hF;subst hN;refine .seq (AW.sr (by simp[Xx];rfl) ?_);refine AW.if' (decide (0<T)) (by simp) (fun et=>AW.skip ?_) (fun et=>?_);rotate_left
 ·rcases hL with ⟨s',h1,_⟩|h1;·have:=(Bo (show ite' (decide (0<T)) _ _=_ from h1)).2 et;cases this
  ·have:=(Bo (show ite' (decide (0<T)) _ _=_ from h1)).2 et;cases this;exact .exs (by simp only[Ay,ablk,AX];exact k hl hr) (by simp) (by simp) (by simp)
 obtain⟨s',h1,hF⟩:∃s',GX (T,a,left,row)=some (.inl s')/\lpN GX N' s'=some (at1,left1,row1):=by
  rcases hL with h|h1
  ·exact h
  ·exfalso;have:=(Bo (show ite' (decide (0<T)) _ _=_ from h1)).1 et;obtain⟨_,_,this⟩:=bd_e this;rename_i la _;cases lC:decide (la=0) with
   |true =>have:=(Bo this).1 lC;obtain⟨_,this⟩:=ck_e this;cases this
   |false =>have:=(Bo this).2 lC;obtain⟨_,_,this⟩:=bd_e this;obtain⟨_,this⟩:=ck_e this;cases this
 clear hL;have h1:=(Bo (show ite' (decide (0<T)) _ _=_ from h1)).1 et;obtain⟨la,q1,h1⟩:=bd_e h1;obtain⟨u,hu,z1,z2⟩:=at_n q1;subst hu;rw[hl]at z1;have cl0:Ai iC left u=iC la:=Bb z2;have ath:∀(K':Exit->As->Prop) (S':As),P S'->Ay P K' .normal S':=fun _ _ h=>h;simp only[Ay];refine .block (.seq (.seq (AW.r1 (by simp[Xy,z1,cl0,iC];rfl) ?_)));refine AW.if' (decide (la=0)) (by simp) (fun e0=>?_) (fun e0=>AW.skip ?_)
 ·have h1:=(Bo h1).1 e0;obtain⟨i1,h1⟩:=ck_e h1;cases h1;have j1:inr .i64 ((u:Int)+1):=by simp[Au]at i1;exact i1
  refine AW.sr (by simp[Xz];exact⟨j1,rfl⟩) ?_;refine .exit ?_;simp only[Ay,ablk,AX];rw[hP];exact⟨⟨N',T,(u:Int)+1,left,row⟩,⟨hl,hr,hF⟩,by show N'<N'+1;omega,.spx (by simp) (by simp) (by simp)⟩
 have h1:=(Bo h1).2 e0;obtain⟨xa,q2,h1⟩:=bd_e h1;obtain⟨i1,h1⟩:=ck_e h1;cases h1;obtain⟨_,z3⟩:=Cw q2;have cr:Ai iC row u=iC xa:=Bb z3;simp only[AH]at i1;have j1:inr .i64 (xa+min T la):=by have:=i1.1.1;simp[Au]at this;exact this
 have j2:inr .i64 (la-min T la):=by have:=i1.1.2;simp[Au]at this;exact this
 have j3:inr .i64 (T-min T la):=by have:=i1.2;simp[Au]at this;exact this
 have f1:(fun k:Nat=>if k=u then [Aa.int .i64 (xa+min T la)] else Ai iC row k)=Ai iC (row.set u (xa+min T la)):=Ed (c:=iC) (by omega) rfl;have f2:(fun k:Nat=>if k=u then [Aa.int .i64 (la-min T la)] else Ai iC left k)=Ai iC (left.set u (la-min T la)):=Ed (c:=iC) (by omega) rfl;simp only[B0]at hF;simp only[Ay];refine AW.sr (by simp[X0,z1,cl0,iC];rfl) ?_;refine AW.sr (by simp[X2,z1,hg,cr,iC,j1,f1];exact⟨by omega,rfl⟩) ?_;refine AW.sr (by simp[X3,z1,cl0,iC,j2,f2];rfl) ?_;refine AW.r1 (by simp[X4];exact⟨j3,rfl⟩) ?_;simp only[Ay,ablk];rw[hP];exact⟨⟨N',T-min T la,(u:Int),left.set u (la-min T la),row.set u (xa+min T la)⟩,⟨by simp[hl],by simp[hr],hF⟩,by show N'<N'+1;omega,.spx (by simp) (by simp) (by simp)⟩
theorem X5(a:Af):(fun i:Nat=>([[Aa.bool a.Neg,.str a.Num,.str a.Den]][i]?).getD [])=Ai Af.cells [a]:=funext fun i=>by cases i<;>rfl
theorem wzre(l:List Af)(a:Af){n:Nat}(hn:n=l.length):(fun k:Nat=>if k<n then Ai Af.cells l k else([[Aa.bool a.Neg,.str a.Num,.str a.Den]][k-n]?).getD [])=Ai Af.cells (l++[a]):=funext fun k=>by
 subst hn;rw[Mt];split
 ·rfl
 ·cases k-l.length<;>rfl
theorem wzr8{m:List (Nat×Aa)}{N p q w n s e26 e:Nat}{rc:List Aa}{clv Vc Vx:Aa}{left:List Int}{a:Af}{row:List Af}{g0:Nat->List Aa}{o23 o24 o25 o27 o28 o29 o30 o31:Ad}{h:Aq}(pp:rc++[clv,Vc,Vx]=rc++[clv,Vc,Vx]) :
  See EE ⟨tl m N,hx (mG rc p q w n clv Vc Vx left o23 o24 o25 (.vec e26 1 (s+1) (fun k=>if k=s then [.vec 32 e 0 (row.length+1)] else g0 k)) o27 o28 o29 o30 o31 (.vec e 3 (row.length+1) (Ai Af.cells (a :: row)))) h,[]⟩
  ⟨tl m N,hx (mG rc p q w n clv Vc Vx left o23 o24 o25 (.vec e26 1 (s+1) (fun k=>if k=s then coC (a :: row) else g0 k)) o27 o28 o29 o30 o31 (.gone (e+1))) h,[]⟩:=by
 refine .freeze (id:=32) (o:=.vec e 3 (row.length+1) (Ai Af.cells (a :: row))) (by simp) rfl trivial (by simp[Ad.ep]) (fun i hi=>?_) (FVl.refl _) rfl;have aW:¬32=i:=fun k=>hi k.symm;by_cases i26:i=26
 ·subst i26;refine .inr (.inr (.inl ⟨e26,1,s+1,_,_,by simp;rfl,by simp;rfl,fun k hk=>?_⟩));show FVl 32 _ (if k=s then _ else g0 k) (if k=s then _ else g0 k);split
  ·exact⟨.vec e 3 (row.length+1) _ 0 (row.length+1) _ rfl (by simp) (fun k _=>by rw[Bs]),trivial⟩
  ·exact FVl.refl _
 ·have i26':¬26=i:=fun k=>i26 k.symm;refine .inl ?_;simp[aW,i26']
set_option maxHeartbeats 8000000 in
theorem bg_2{caps:List Aa}{rate:Int->Int->Option Af}(hE:CX Tryz.prog 91=true)(hR:∀(k s:Int) (a:Af),rate k s=some a->AJ EE Tryz.prog 91 (fnArgs 0 [.int .i64 k,.int .i64 s] caps) (.agg a.cells)){p q w n:Nat} {r:Ao} {cl:List A7} (hn:cl.length=n) (dH:0<n) (bS:n<=1000000) {st tk:Int} {row:List Af} (hF:GY rate st cl=some row) {s e24 e26 e30 e31 e32:Nat} {g0:Nat->List Aa} {Vx:Aa} {left:List Int} {o23 o25 o27 o28 o29:Ad} {h:Aq} {Q:Exit->As->Prop} {A B C D:Aa}
  (k:row.length=n->∀e30' e31' e32',Q .normal ⟨tl (bG (.fn 91 0 caps) p q w n++[(11,D),(12,.int .i64 s),(13,.ptr 24 e24 0),(47,A),(48,B),(49,C)]) 151,
   hx (mG (rcO r) p q w n (clO cl) (.vec 26 e26 0 (s+1)) Vx left o23 (.box e24 [.int .i64 st,.int .i64 tk]) o25 (.vec e26 1 (s+1) (fun k=>if k=s then coC row else g0 k)) o27 o28 o29 (.gone e30') (.gone e31') (.gone e32')) h,[]⟩) :
  AW EE none Tryz.prog (.block 4 (.loop (X6 20))) Q ⟨tl (bG (.fn 91 0 caps) p q w n++[(11,D),(12,.int .i64 s),(13,.ptr 24 e24 0),(47,A),(48,B),(49,C),(81,clO cl),(82,.int .i64 n),(83,.int .i64 0)]) 151,
   hx (mG (rcO r) p q w n (clO cl) (.vec 26 e26 0 (s+1)) Vx left o23 (.box e24 [.int .i64 st,.int .i64 tk]) o25 (.vec e26 1 (s+1) (fun k=>if k=s then [.nils] else g0 k)) o27 o28 o29 (.gone e30) (.gone e31) (.gone e32)) h,[]⟩:=by
 refine .block (AW.lph (fun y:Y2=>bG (.fn 91 0 caps) p q w n++[(11,D),(12,.int .i64 s),(13,.ptr 24 e24 0),(47,A),(48,B),(49,C),(81,clO cl),(82,.int .i64 n),(83,.int .i64 y.j)]) (fun y=>mG (rcO r) p q w n (clO cl) (.vec 26 e26 0 (s+1)) Vx left o23 (.box e24 [.int .i64 st,.int .i64 tk]) o25 (.vec e26 1 (s+1) (fun k=>if k=s then [ownV 32 y.c y.r] else g0 k)) o27 o28 o29 (.gone y.a) (.gone y.b) (ownO y.c 3 Af.cells y.r)) (fun _=>h) (fun y=>n-y.j) (fun y=>y.j<=n/\y.r.length=y.j/\∃z,GY rate st (cl.drop y.j)=some z/\y.r++z=row) ⟨0,[],fun _=>[],e30,e31,e32⟩ ⟨BB _,rfl,row,hF,rfl⟩ rfl (by simp) (by simp) (by simp) ?_);rintro⟨j,rw0,_,e30,e31,e32⟩ ⟨hj,hl,z,hz,aF⟩;simp only at hj hl hz aF |-;refine AW.sr (by simp[X7];rfl) ?_;refine .seq (AW.if' (decide ((j:Int)<(n:Int))) (by simp) (fun et=>AW.skip ?_) (fun et=>?_));rotate_left
 ·obtain rfl:j=n:=by have:=of_decide_eq_false et;omega
  rw[<-hn,List.drop_length]at hz;obtain rfl:=AI (show some []=some z from hz);rw[List.append_nil]at aF;subst aF;cases rw0 with
  |nil=>simp at hl;omega
  |cons a t =>refine .see (.spx (m':=bG (.fn 91 0 caps) p q w j++[(11,D),(12,.int .i64 s),(13,.ptr 24 e24 0),(47,A),(48,B),(49,C)]) (hm':=mG (rcO r) p q w j (clO cl) (.vec 26 e26 0 (s+1)) Vx left o23 (.box e24 [.int .i64 st,.int .i64 tk]) o25 (.vec e26 1 (s+1) (fun k=>if k=s then [.vec 32 e32 0 (t.length+1)] else g0 k)) o27 o28 o29 (.gone e30) (.gone e31) (.vec e32 3 (t.length+1) (Ai Af.cells (a :: t)))) (by simp) (by simp) (by simp)) ?_;refine .see (wzr8 rfl) (.exit ?_);simp only[Ay,ablk,AX];exact k hl e30 e31 (e32+1)
 have hlt:j<n:=by have:=BX et;omega
 obtain⟨c,hc⟩:∃c,cl[j]?=some c:=⟨_,AA (by omega)⟩;have cc:Ai A7.cells cl j=c.cells:=Bb hc;rw[Ft (by omega),show cl[j]'(by omega)=c from(AC.1 hc).2]at hz;obtain⟨a,ha,hz⟩:=bd_e (show bd (rate c.Span st) _=some z from hz);obtain⟨z',fL,hz⟩:=bd_e hz;obtain rfl:=AI hz;have sR:=hR _ _ _ ha;have aS:inr .i64 ((j:Int)+1):=by show _/\_;omega
 simp only[Ay];refine .seq (.block (AW.sr (by simp[X8,hn,hlt,cc];rfl) ?_));cases rw0 with
 |nil =>refine AW.d1 (by simp[P0,X5];refine⟨by omega,hE,Bg.pure _ sR ?_⟩;simp[X5];exact⟨by omega,by kernel_rfl,rfl⟩) ?_;simp only[Ay,ablk];refine AW.r1 (by simp[P1];exact⟨aS,rfl⟩) ?_;refine⟨⟨j+1,[a],fun _=>[],e30+1,e31+1,e32+1⟩,⟨by show j+1<=n;omega,by show 1=j+1;simp at hl;omega,z',fL,by rw[<-aF];rfl⟩,by show n-(j+1)<n-j;omega,.spx (by simp[hn]) ?_ (by simp)⟩;simp[hn];intro k _;split<;>rfl
 |cons b t =>
  have bU:(t.length+1+1)*40<=140737488355328:=by simp at hl;omega
  refine AW.d1 (by simp[P0];refine⟨by omega,hE,Bg.pure _ sR ?_⟩;simp;exact⟨bU,by omega,by kernel_rfl,rfl⟩) ?_;simp only[Ay,ablk];refine AW.r1 (by simp[P1];exact⟨aS,rfl⟩) ?_;refine⟨⟨j+1,b :: t++[a],fun _=>[],e30+1,e31+1,e32+1⟩,⟨by show j+1<=n;omega,by simp at hl |-;omega,z',fL,by rw[<-aF,List.append_assoc];rfl⟩,by show n-(j+1)<n-j;omega,.spx (by simp[hn]) ?_ (by simp)⟩;simp[hn];refine⟨fun k _=>by split<;>rfl,fun k _=>?_⟩;exact(congrFun (wzre (b :: t) a (n:=t.length+1) rfl) k).symm
end
end
section
def oV(id e:Nat):Nat->Aa
 |0=>.nils
 |s+1=>.vec id e 0 (s+1)
def oO(e:Nat)(g:Nat->List Aa):Nat->Ad
 |0=>.gone e
 |s+1=>.vec e 1 (s+1) g
def xG(er:Nat->Nat)(n:Nat)(k:Nat):List Aa:=[.vec (rwx k) (er k) 0 n]
structure Y1 where
 s:Nat
 co:List (List Af)
 x:List (List Int)
 a:Int
 l:List Int
 er:Nat->Nat
 h:Aq
 e24:Nat
 e25:Nat
 e26:Nat
 e27:Nat
 e28:Nat
 e29:Nat
 e30:Nat
 e31:Nat
 e32:Nat
structure RXs(er:Nat->Nat)(x:List (List Int))(H h:Aq):Prop where
 rw:RX er x h
 fr:∀s,x.length<=s->∃e,h (rwx s)=.gone e
 ke:∀i,(∀s,i≠rwx s)->h i=H i
section
attribute [local simp] Cf GN BP Cg Ch Ci yza subm subh Cj pick B6
attribute [local simp] lkx Df Cu subx bG mG rcO clO Cx Cy
theorem oV_z{id e:Nat}:oV id e 0=.nils:=rfl
theorem oV_s{id e s:Nat}:oV id e (s+1)=.vec id e 0 (s+1):=rfl
theorem oO_z{e:Nat}{g:Nat->List Aa}:oO e g 0=.gone e:=rfl
theorem oO_s{e s:Nat}{g:Nat->List Aa}:oO e g (s+1)=.vec e 1 (s+1) g:=rfl
attribute [local simp] oV_z oV_s oO_z oO_s
theorem X9{v:List Aa}{g:Nat->List Aa}{m k:Nat}(hk:k<m+1):(if k=m then v else g k)=if k<m then g k else([v][k-m]?).getD []:=by
 by_cases e:k=m
 ·subst e;simp
 ·rw[Ah e,Aj (by omega)]
theorem wzvc{fnv:Aa}{p q w n s:Nat}(dH:0<n)(bS:n<=1000000)(hs:s<=1000000){r:Ao}{cl:List A7}(hn:cl.length=n){left:List Int}{o23 o24:Ad}{e25 e26 e27 e28 e29:Nat}{g26 g29:Nat->List Aa}{o30 o31 o32:Ad}{h:Aq}{A B C D E:Aa}{b:AO}{Q:Exit->As->Prop}(k:AW EE none Tryz.prog b Q ⟨tl (bG fnv p q w n++[(11,D),(12,.int .i64 s),(13,E),(47,A),(48,B),(49,C)]) 151,hx (mG (rcO r) p q w n (clO cl) (.vec 26 (e26+1) 0 (s+1)) (.vec 29 (e29+1) 0 (s+1)) left o23 o24 (.gone (e25+1)) (.vec (e26+1) 1 (s+1) (fun k=>if k=s then [.nils] else g26 k)) (.vec (e27+1) 1 n (Ai iC (List.replicate n 0))) (.gone (e28+1)) (.vec (e29+1) 1 (s+1) (fun k=>if k=s then [.vec 27 (e27+1) 0 n] else g29 k)) o30 o31 o32) h,[]⟩) :
  AW EE none Tryz.prog (.seq (.reg true (Mu 20) XA) b) Q ⟨tl (bG fnv p q w n++[(11,D),(12,.int .i64 s),(13,E),(47,A),(48,B),(49,C)]) 151,hx (mG (rcO r) p q w n (clO cl) (oV 26 e26 s) (oV 29 e29 s) left o23 o24 (.gone e25) (oO e26 g26 s) (.gone e27) (.gone e28) (oO e29 g29 s) o30 o31 o32) h,[]⟩:=by
 have bU:(n:Int)*8<=140737488355328:=by omega
 cases s with
 |zero =>refine AW.sd (by simp[Mu,hn,bU];exact⟨by kernel_rfl,rfl⟩) ?_;refine .see (.spx (by simp) ?_ (by simp)) k;simp;exact⟨hn.symm,fun k hk=>F8 hk⟩
 |succ s =>
  have du:(s+1+1)*24<=140737488355328:=by omega
  refine AW.sd (by simp[Mu,hn,bU,du];exact⟨by kernel_rfl,rfl⟩) ?_;refine .see (.spx (by simp) ?_ (by simp)) k;simp;exact⟨hn.symm,fun k hk=>X9 hk,fun k hk=>F8 hk,fun k hk=>X9 hk⟩
attribute [local simp] mv1 mvO Ad.wep
theorem XB{α:Type}{c:α->List Aa}{i e B K:Nat}(hc:∀x,(c x).map (mv1 i e B K)=c x)(l:List α)(k:Nat):(Ai c l k).map (mv1 i e B K)=Ai c l k:=by
 unfold Ai;split
 ·exact hc _
 ·rfl
theorem wztp{m:List (Nat×Ad)}{s:Nat}(hm:m.all (fun p=>Nat.blt p.1 100)=true):m.all (fun p=>!(p.1==rwx s))=true:=by
 rw[Dx]at hm |-;intro p hp;have:=hm p hp;simp only[G5]at this;have h2:p.1≠rwx s:=by unfold rwx;omega
 simpa using h2
set_option maxHeartbeats 8000000 in
theorem bg_1{caps:List Aa}{rate:Int->Int->Option Af}(hE:CX Tryz.prog 91=true)(hR:∀(k s:Int) (a:Af),rate k s=some a->AJ EE Tryz.prog 91 (fnArgs 0 [.int .i64 k,.int .i64 s] caps) (.agg a.cells)){p q w n:Nat} {r:Ao} {cl:List A7} (hn:cl.length=n) (dH:0<n) (bS:n<=1000000) {co:List (List Af)} {x:List (List Int)} {left:List Int} (c9:left.length=n) (hS:r.Table.length<=1000000)(hF:bgL rate cl r.Table 0 left [] []=some (co,x)) {e23 e24 e25 e26 e27 e28 e29 e30 e31 e32:Nat} {H:Aq} (hH:∀s,∃e,H (rwx s)=.gone e) {Q:Exit->As->Prop}
  (k:∀er h left' e24 e25 e26 e27 e28 e29 e30 e31 e32,co.length=r.Table.length->x.length=r.Table.length->(∀c∈co,c.length=n)->(∀c∈x,c.length=n)->RXs er x H h->Q .normal ⟨tl [(3,.ptr 20 p 0),(7,.ptr 21 q 0)] 151,
   hx (mG (rcO r) p q w n (clO cl) (oV 26 e26 r.Table.length) (oV 29 e29 r.Table.length) left' (.gone e23) (.gone e24) (.gone e25) (oO e26 (Ai coC co) r.Table.length) (.gone e27) (.gone e28) (oO e29 (xG er n) r.Table.length) (.gone e30) (.gone e31) (.gone e32)) h,[]⟩) :
  AW EE none Tryz.prog (.block 2 (.loop (XC 20))) Q ⟨tl (bG (.fn 91 0 caps) p q w n++[(11,.int .i64 0),(47,.slc 2 r.Table.length (Ai AM.cells r.Table)),(48,.int .i64 r.Table.length),(49,.int .i64 0)]) 151,
   hx (mG (rcO r) p q w n (clO cl) .nils .nils left (.gone e23) (.gone e24) (.gone e25) (.gone e26) (.gone e27) (.gone e28) (.gone e29) (.gone e30) (.gone e31) (.gone e32)) H,[]⟩:=by
 generalize mw:r.Table.length=S at *;refine .block (AW.lph (fun y:Y1=>bG (.fn 91 0 caps) p q w n++[(11,.int .i64 y.a),(47,.slc 2 S (Ai AM.cells r.Table)),(48,.int .i64 S),(49,.int .i64 y.s)]) (fun y=>mG (rcO r) p q w n (clO cl) (oV 26 y.e26 y.s) (oV 29 y.e29 y.s) y.l (.gone e23) (.gone y.e24) (.gone y.e25) (oO y.e26 (Ai coC y.co) y.s) (.gone y.e27) (.gone y.e28) (oO y.e29 (xG y.er n) y.s) (.gone y.e30) (.gone y.e31) (.gone y.e32)) (fun y=>y.h) (fun y=>S-y.s) (fun y=>y.s<=S/\y.co.length=y.s/\y.x.length=y.s/\(∀c∈y.co,c.length=n)/\(∀c∈y.x,c.length=n)/\y.l.length=n/\RXs y.er y.x H y.h/\bgL rate cl (r.Table.drop y.s) y.a y.l y.co y.x=some (co,x)) ⟨0,[],[],0,left,fun _=>0,H,e24,e25,e26,e27,e28,e29,e30,e31,e32⟩ ⟨BB _,rfl,rfl,(fun c hc=>by cases hc),(fun c hc=>by cases hc),c9,⟨(fun s r h=>by simp at h),fun s _=>hH s,fun _ _=>rfl⟩,hF⟩ rfl (by simp) (by simp) (by simp) ?_);rintro⟨s,co',x',at0,left,er,h,e24,e25,e26,e27,e28,e29,e30,e31,e32⟩ ⟨hs,gc,gr,cM,b9,c9,hX,hF⟩;refine AW.ath fun P hP=>?_;simp only at hs gc gr cM b9 c9 hX hF |-;refine AW.sr (by simp[XD];rfl) ?_;refine .seq (AW.if' (decide ((s:Int)<(S:Int))) (by simp) (fun et=>AW.skip ?_) (fun et=>?_));rotate_left
 ·obtain rfl:s=S:=by have:=of_decide_eq_false et;omega
  rw[<-mw,List.drop_length]at hF;obtain h2:=AI (show some (co',x')=some (co,x) from hF);simp only[BC]at h2;obtain⟨rfl,rfl⟩:=h2;exact .exs (by simp only[Ay,ablk,AX];exact k er h left e24 e25 e26 e27 e28 e29 e30 e31 e32 gc gr cM b9 hX) (by simp) (by simp[mw]) (by simp)
 have hlt:s<S:=by have:=BX et;omega
 obtain⟨hd,my⟩:∃c,r.Table[s]?=some c:=⟨_,AA (by omega)⟩;have chd:Ai AM.cells r.Table s=hd.cells:=Bb my;rw[Ft (by omega),show r.Table[s]'(by omega)=hd from(AC.1 my).2]at hF;obtain⟨row,aF,hF⟩:=bd_e (show bd (GY rate hd.Stage cl) _=some (co,x) from hF);obtain⟨⟨at1,left1,row1⟩,ge,hF⟩:=bd_e hF;rw[hn]at ge;have aS:inr .i64 ((s:Int)+1):=by show _/\_;omega
 simp only[Ay];refine .seq (.block (AW.sr (by simp[XE,hlt,chd];rfl) ?_));refine .see (.spx (m':=bG (.fn 91 0 caps) p q w n++[(11,.int .i64 at0),(12,.int .i64 s),(13,.ptr 24 (e24+1) 0),(47,.slc 2 S (Ai AM.cells r.Table)),(48,.int .i64 S),(49,.int .i64 s)]) (hm':=mG (rcO r) p q w n (clO cl) (oV 26 e26 s) (oV 29 e29 s) left (.gone e23) (.box (e24+1) [.int .i64 hd.Stage,.int .i64 hd.Ticks]) (.gone e25) (oO e26 (Ai coC co') s) (.gone e27) (.gone e28) (oO e29 (xG er n) s) (.gone e30) (.gone e31) (.gone e32)) (by simp) (by simp) (by simp)) ?_;refine wzvc dH bS (by omega) hn ?_;refine .seq (.seq (AW.r1 (by simp[XF];rfl) ?_));refine .see (.spx (m':=bG (.fn 91 0 caps) p q w n++[(11,.int .i64 at0),(12,.int .i64 s),(13,.ptr 24 (e24+1) 0),(47,.slc 2 S (Ai AM.cells r.Table)),(48,.int .i64 S),(49,.int .i64 s),(81,clO cl),(82,.int .i64 n),(83,.int .i64 0)]) (hm':=mG (rcO r) p q w n (clO cl) (.vec 26 (e26+1) 0 (s+1)) (.vec 29 (e29+1) 0 (s+1)) left (.gone e23) (.box (e24+1) [.int .i64 hd.Stage,.int .i64 hd.Ticks]) (.gone (e25+1)) (.vec (e26+1) 1 (s+1) (fun k=>if k=s then [.nils] else Ai coC co' k)) (.vec (e27+1) 1 n (Ai iC (List.replicate n 0))) (.gone (e28+1)) (.vec (e29+1) 1 (s+1) (fun k=>if k=s then [.vec 27 (e27+1) 0 n] else xG er n k)) (.gone e30) (.gone e31) (.gone e32)) (by simp[hn]) (by simp) (by simp)) ?_;refine bg_2 hE hR hn dH bS aF fun fC e30' e31' e32'=>?_;simp only[Ay];refine AW.sr (by simp[XG];rfl) ?_;refine .see (.spx (m':=bG (.fn 91 0 caps) p q w n++[(11,.int .i64 at0),(12,.int .i64 s),(16,.int .i64 hd.Ticks),(47,.slc 2 S (Ai AM.cells r.Table)),(48,.int .i64 S),(49,.int .i64 s)]) (hm':=mG (rcO r) p q w n (clO cl) (.vec 26 (e26+1) 0 (s+1)) (.vec 29 (e29+1) 0 (s+1)) left (.gone e23) (.gone (e24+1)) (.gone (e25+1)) (.vec (e26+1) 1 (s+1) (fun k=>if k=s then coC row else Ai coC co' k)) (.vec (e27+1) 1 n (Ai iC (List.replicate n 0))) (.gone (e28+1)) (.vec (e29+1) 1 (s+1) (fun k=>if k=s then [.vec 27 (e27+1) 0 n] else xG er n k)) (.gone e30') (.gone e31') (.gone e32')) (by simp) (by simp) (by simp)) ?_;refine bg_3 (by simp) c9 (by simp) ge fun dy fW=>?_;simp only[ablk,Ay];obtain⟨K0,iE⟩:=hX.fr s (by omega);refine .see (.spx (m':=bG (.fn 91 0 caps) p q w n++[(11,.int .i64 at1),(47,.slc 2 S (Ai AM.cells r.Table)),(48,.int .i64 S),(49,.int .i64 s)]) (hm':=(27,.vec (e27+1) 1 n (Ai iC row1)) :: [(20,.box p (rcO r)),(21,.box q (rcO r++[clO cl,.vec 26 (e26+1) 0 (s+1),.vec 29 (e29+1) 0 (s+1)])),(22,.vec w 1 n (Ai iC left1)),(23,.gone e23),(24,.gone (e24+1)),(25,.gone (e25+1)),(26,.vec (e26+1) 1 (s+1) (fun k=>if k=s then coC row else Ai coC co' k)),(28,.gone (e28+1)),(29,.vec (e29+1) 1 (s+1) (fun k=>if k=s then [.vec 27 (e27+1) 0 n] else xG er n k)),(30,.gone e30'),(31,.gone e31'),(32,.gone e32')]) (by simp) (by simp) (by simp)) ?_;refine .see (See.mvx (B:=rwx s) trivial (by unfold rwx;omega) (wztp (by simp)) (by rw[iE];rfl)) ?_;rw[iE];refine .see (.spx (m':=bG (.fn 91 0 caps) p q w n++[(11,.int .i64 at1),(47,.slc 2 S (Ai AM.cells r.Table)),(48,.int .i64 S),(49,.int .i64 s)]) (hm':=mG (rcO r) p q w n (clO cl) (oV 26 (e26+1) (s+1)) (oV 29 (e29+1) (s+1)) left1 (.gone e23) (.gone (e24+1)) (.gone (e25+1)) (oO (e26+1) (Ai coC (co'++[row])) (s+1)) (.gone (e27+2)) (.gone (e28+1)) (oO (e29+1) (xG (fun i=>if i=s then K0+1 else er i) n) (s+1)) (.gone e30') (.gone e31') (.gone e32')) (by simp) ?_ (by simp)) ?_
 ·simp;refine⟨fun k _=>(XB (fun _=>rfl) _ _).symm,fun k hk=>?_,fun k hk=>?_⟩
  ·by_cases e:k=s;·subst e;rw[Aj rfl,Mt,Ah (by omega),gc,Nat.sub_self];rfl
   ·rw[Ah e,Mt,Aj (by omega)];exact(XB (fun _=>rfl) _ _).symm
  ·by_cases e:k=s;·subst e;simp[xG]
   ·simp[xG,e]
 refine AW.r1 (by simp[XH];exact⟨aS,rfl⟩) ?_;rw[hP];refine⟨⟨s+1,co'++[row],x'++[row1],at1,left1,fun i=>if i=s then K0+1 else er i,hset h (rwx s) (.vec (K0+1) 1 n (Ai iC row1)),e24+1,e25+1,e26+1,e27+2,e28+1,e29+1,e30',e31',e32'⟩,⟨by show s+1<=S;omega,by simp[gc],by simp[gr],fun c hc=>?_,fun c hc=>?_,dy,⟨fun s' r' bt=>?_,fun s' aH=>?_,fun i hi=>?_⟩,hF⟩,by show S-(s+1)<S-s;omega,.spx (by simp) (by simp) (by simp)⟩
 ·rcases DO.1 hc with h|h;·exact cM c h
  ·rw[CR.1 h];exact fC
 ·rcases DO.1 hc with h|h;·exact b9 c h
  ·rw[CR.1 h];exact fW
 ·have bt:(x'++[row1])[s']?=some r':=bt;show hset h (rwx s) _ (rwx s')=rowO (if s'=s then K0+1 else er s') r';rw[List.getElem?_append]at bt;split at bt
  ·rename_i hlt';rw[BE (fun e=>by rw[Mp]at e;omega),Ah (by omega)];exact hX.rw s' r' bt
  ·have h0:s'-x'.length=0:=by
    obtain⟨h1,_⟩:=AC.1 bt;simp at h1;omega
   rw[h0]at bt;obtain rfl:=AI bt;obtain rfl:s'=s:=by omega
   rw[Dk,Aj rfl];unfold rowO;rw[fW]
 ·have aH:(x'++[row1]).length<=s':=aH;simp at aH;obtain⟨e,he⟩:=hX.fr s' (by omega);exact⟨e,by show hset h (rwx s) _ (rwx s')=_;rw[BE (fun e=>by rw[Mp]at e;omega)];exact he⟩
 ·show hset h (rwx s) _ i=H i;rw[BE (hi s)];exact hX.ke i hi
end
end
section
section
attribute [local simp] Cf GN BP Cg Ch Ci yza subm subh Cj pick B6
attribute [local simp] lkx Df Cu subx bG mG rcO clO Cx Cy oV_z oV_s oO_z oO_s
theorem fz_a{m:List (Nat×Aa)}{N q id e S:Nat}{cs cs':List Aa}{g:Nat->List Aa}{rest:List (Nat×Ad)}{h:Aq}(hid:21≠id)(hc:FVl id (.vec e 1 S g) cs cs') :
  See EE ⟨tl m N,hx ((21,.box q cs) :: (id,.vec e 1 S g) :: rest) h,[]⟩ ⟨tl m N,hx ((21,.box q cs') :: (id,.gone (e+1)) :: rest) h,[]⟩:=by
 refine .freeze (id:=id) (o:=.vec e 1 S g) (by simp[hid]) rfl trivial (by simp[hid,Ad.ep]) (fun i hi=>?_) (FVl.refl _) rfl;have aW:¬id=i:=fun k=>hi k.symm;by_cases i21:21=i
 ·subst i21;exact .inr (.inl ⟨q,cs,cs',by simp,by simp,hc⟩)
 ·exact .inl (by simp[aW,i21])
theorem XI{id:Nat}{o:Ad}{m m':List (Nat×Aa)}{n:Nat}(h:∀k,FV id o (look m k) (look m' k)):FVl id o (tl m n) (tl m' n):=by
 unfold tl;generalize List.range n=r;induction r with
 |nil=>trivial
 |cons x r ih=>exact⟨h x,ih⟩
theorem fz_b{N q k:Nat}{cs:List Aa}{rest:List (Nat×Ad)}{h:Aq} :
  See EE ⟨tl [(k,.ptr 21 q 0)] N,hx ((21,.box q cs) :: rest) h,[]⟩ ⟨tl [(k,.cptr (fun j=>cs.getD j .top) cs.length 0)] N,hx ((21,.gone (q+1)) :: rest) h,[]⟩:=by
 refine .freeze (id:=21) (o:=.box q cs) (by simp) rfl trivial (by simp[Ad.ep]) (fun i hi=>.inl (by have aW:¬21=i:=fun k=>hi k.symm;simp[aW])) (XI fun j=>?_) rfl;simp only[look];split
 ·exact .box q 0 cs _ rfl (fun k _=>rfl)
 ·exact .refl _
set_option maxHeartbeats 8000000 in
theorem wzp4{caps:List Aa}{rate:Int->Int->Option Af}(hE:CX Tryz.prog 91=true)(hR:∀(k s:Int) (a:Af),rate k s=some a->AJ EE Tryz.prog 91 (fnArgs 0 [.int .i64 k,.int .i64 s] caps) (.agg a.cells))(hCl:∀(r:Ao) (l:List Al) (c:List A7),Iv r l=some c->AJ EE Tryz.prog 44 [.agg r.cells,slcV 7 Al.cells l] (slcV 2 A7.cells c)){r:Ao} {spans:List Al} {cl:List A7} {co:List (List Af)} {x:List (List Int)} (hF:FB r spans rate=some (cl,co,x)) (ki:0<r.Table.length){H:Aq} (hH:∀s,∃e,H (rwx s)=.gone e) (hg:∀i,20<=i->i<33->∃e,H i=.gone e) :
  ATr EE Tryz.prog 94 [.agg r.cells,slcV 7 Al.cells spans,.fn 91 0 caps] H (fun v h'=>∃f er,v=.cptr f 8 0/\TkV f cl co er cl.length r.Table.length/\co.length=r.Table.length/\x.length=r.Table.length/\(∀c∈co,c.length=cl.length)/\(∀c∈x,c.length=cl.length)/\RX er x h' /\ (∀s,r.Table.length<=s->∃e,h' (rwx s)=.gone e)/\(∀i,20<=i->i<33->∃e,h' i=.gone e)/\∀i,(i<20\/33<=i)->(∀s,i≠rwx s)->h' i=H i):=by
 obtain⟨cd,hb,bW⟩:=ck94;unfold FB at hF;obtain⟨cl',cn,hF⟩:=bd_e hF;obtain⟨hc,hF⟩:=ck_e hF;obtain⟨⟨co',x'⟩,eY,hF⟩:=bd_e hF;obtain h3:=AI hF;simp only[BC]at h3;obtain⟨rfl,rfl,rfl⟩:=h3;simp only[AH,CS]at hc;obtain⟨⟨dH,bS⟩,dW⟩:=hc;have sC:=hCl _ _ _ cn;obtain⟨e20,g20⟩:=hg 20 (by omega) (by omega);obtain⟨e21,g21⟩:=hg 21 (by omega) (by omega);obtain⟨e22,g22⟩:=hg 22 (by omega) (by omega);obtain⟨e23,g23⟩:=hg 23 (by omega) (by omega);obtain⟨e24,g24⟩:=hg 24 (by omega) (by omega);obtain⟨e25,g25⟩:=hg 25 (by omega) (by omega);obtain⟨e26,g26⟩:=hg 26 (by omega) (by omega);obtain⟨e27,g27⟩:=hg 27 (by omega) (by omega);obtain⟨e28,g28⟩:=hg 28 (by omega) (by omega);obtain⟨e29,g29⟩:=hg 29 (by omega) (by omega);obtain⟨e30,g30⟩:=hg 30 (by omega) (by omega);obtain⟨e31,g31⟩:=hg 31 (by omega) (by omega);obtain⟨e32,g32⟩:=hg 32 (by omega) (by omega);refine ATr.of (fn:=Tryz.f94) rfl hb cr94 (bW 20) 148 rfl ?_;have erc:r.cells=rcO r:=rfl;rw[HL,HL,erc]at sC;rw[HL,erc];rw[show([Aa.agg (rcO r),.slc 7 spans.length (Ai Al.cells spans),.fn 91 0 caps]++List.replicate 148 .top)=tl [(0,.agg (rcO r)),(1,.slc 7 spans.length (Ai Al.cells spans)),(2,.fn 91 0 caps)] 151 from JR [_,_,_] 148];change AW EE none _ _ _ ⟨_,hx [] H,[]⟩;refine .see (.spx (m':=[(0,.agg (rcO r)),(1,.slc 7 spans.length (Ai Al.cells spans)),(2,.fn 91 0 caps)]) (hm':=[(20,.gone e20),(21,.gone e21),(22,.gone e22),(23,.gone e23),(24,.gone e24),(25,.gone e25),(26,.gone e26),(27,.gone e27),(28,.gone e28),(29,.gone e29),(30,.gone e30),(31,.gone e31),(32,.gone e32)]) (by simp) (by simp[g20,g21,g22,g23,g24,g25,g26,g27,g28,g29,g30,g31,g32]) (by simp)) ?_;refine AW.sr (by simp[XJ];rfl) ?_;refine AW.sd (by simp[XK];refine Bg.pure _ sC ?_;simp;exact⟨by kernel_rfl,rfl⟩) ?_;have lA:(cl'.length:Int)*8<=140737488355328:=by omega
 refine AW.sr (by simp[XL,lA];rfl) ?_;refine .seq (.seq (AW.r1 (by simp[XM];rfl) ?_));refine .see (.spx (m':=bG (.fn 91 0 caps) (e20+1) (e21+1) (e22+1) cl'.length++[(33,clO cl'),(34,.int .i64 cl'.length),(35,.int .i64 0)]) (hm':=mG (rcO r) (e20+1) (e21+1) (e22+1) cl'.length (clO cl') .nils .nils (List.replicate cl'.length 0) (.gone e23) (.gone e24) (.gone e25) (.gone e26) (.gone e27) (.gone e28) (.gone e29) (.gone e30) (.gone e31) (.gone e32)) (by simp) ?_ (by simp)) ?_
 ·simp;exact fun k hk=>F8 hk
 refine bg_0 rfl bS fun e23'=>?_;simp only[Ay];refine AW.sr (by simp[XN];rfl) ?_;refine .seq (.seq (AW.r1 (by simp[XO];rfl) ?_));refine .see (.spx (m':=bG (.fn 91 0 caps) (e20+1) (e21+1) (e22+1) cl'.length++[(11,.int .i64 0),(47,.slc 2 r.Table.length (Ai AM.cells r.Table)),(48,.int .i64 r.Table.length),(49,.int .i64 0)]) (hm':=mG (rcO r) (e20+1) (e21+1) (e22+1) cl'.length (clO cl') .nils .nils (cl'.map (·.Ticks)) (.gone e23') (.gone e24) (.gone e25) (.gone e26) (.gone e27) (.gone e28) (.gone e29) (.gone e30) (.gone e31) (.gone e32)) (by simp) (by simp) (by simp)) ?_;refine bg_1 hE hR rfl dH bS (by simp) dW eY hH fun er h left' f24 f25 f26 f27 f28 f29 f30 f31 f32 d1 d2 d3 d4 hX=>?_;simp only[Ay];obtain⟨S,hS⟩:∃S,r.Table.length=S+1:=⟨r.Table.length-1,by omega⟩;rw[hS]at d1 d2 |-;refine .see (.spx (m':=[(7,.ptr 21 (e21+1) 0)]) (hm':=(21,.box (e21+1) (rcO r++[clO cl',.vec 26 f26 0 (S+1),.vec 29 f29 0 (S+1)])) :: (26,.vec f26 1 (S+1) (Ai coC co')) :: [(29,.vec f29 1 (S+1) (xG er cl'.length)),(20,.gone (e20+1)),(22,.gone (e22+1)),(23,.gone e23'),(24,.gone f24),(25,.gone f25),(27,.gone f27),(28,.gone f28),(30,.gone f30),(31,.gone f31),(32,.gone f32)]) (by simp) (by simp) (by simp)) ?_;refine .see (fz_a (cs':=rcO r++[clO cl',.slc 1 (S+1) (Ai coC co'),.vec 29 f29 0 (S+1)]) (by omega) ⟨.refl _,.refl _,.refl _,.refl _,.refl _,.refl _,.vec f26 1 (S+1) _ 0 (S+1) _ rfl (by omega) (fun k _=>by rw[Bs]),.refl _,trivial⟩) ?_;refine .see (.spx (m':=[(7,.ptr 21 (e21+1) 0)]) (hm':=(21,.box (e21+1) (rcO r++[clO cl',.slc 1 (S+1) (Ai coC co'),.vec 29 f29 0 (S+1)])) :: (29,.vec f29 1 (S+1) (xG er cl'.length)) :: [(26,.gone (f26+1)),(20,.gone (e20+1)),(22,.gone (e22+1)),(23,.gone e23'),(24,.gone f24),(25,.gone f25),(27,.gone f27),(28,.gone f28),(30,.gone f30),(31,.gone f31),(32,.gone f32)]) (by simp) (by simp) (by simp)) ?_;refine .see (fz_a (cs':=rcO r++[clO cl',.slc 1 (S+1) (Ai coC co'),.slc 1 (S+1) (xG er cl'.length)]) (by omega) ⟨.refl _,.refl _,.refl _,.refl _,.refl _,.refl _,.refl _,.vec f29 1 (S+1) _ 0 (S+1) _ rfl (by omega) (fun k _=>by rw[Bs]),trivial⟩) ?_;refine .see fz_b ?_;refine AW.sr (by simp[XP];rfl) ?_;refine .ret ?_;generalize hm:(21,Ad.gone (e21+1+1)) :: (29,Ad.gone (f29+1)) :: [(26,Ad.gone (f26+1)),(20,Ad.gone (e20+1)),(22,.gone (e22+1)),(23,.gone e23'),(24,.gone f24),(25,.gone f25),(27,.gone f27),(28,.gone f28),(30,.gone f30),(31,.gone f31),(32,.gone f32)]=M;have cJ:∀i,¬(20<=i/\i<33)->hx M h i=h i:=fun i hi=>by subst hm;refine ER ?_;simp;omega
 refine⟨_,.refl _,by simp[rs94],fun i=>if 20<=i/\i<33 then .gone (hx M h i).ep else h i,fun i=>?_,(fun D hD=>by cases hD),?_⟩
 ·show OSub (hx M h i) _;by_cases hi:20<=i/\i<33
  ·simp only[Aj hi];exact .inl rfl
  ·simp only[Ah hi];rw[cJ i hi];exact .refl _
 ·have fN:∀s,¬(20<=rwx s/\rwx s<33):=fun s=>by unfold rwx;omega
  refine⟨fun j=>(rcO r++[clO cl',.slc 1 (S+1) (Ai coC co'),.slc 1 (S+1) (xG er cl'.length)]).getD j .top,er,by simp[rs94],⟨rfl,rfl,rfl⟩,d1,d2,d3,d4,fun s r hr=>?_,fun s hs=>?_,fun i h1 h2=>⟨_,Aj ⟨h1,h2⟩⟩,fun i hi hs=>?_⟩
  ·simp only[Ah (fN s)];exact hX.rw s r hr
  ·simp only[Ah (fN s)];exact hX.fr s (by omega)
  ·simp only[Ah (show ¬(20<=i/\i<33) by omega)];exact hX.ke i hs
end
end
end Go.Am

