/- Part D1: helpers. No condition. -/
import Derived.Test.YtjlgleghnenojaaDoorC9
set_option linter.unusedSimpArgs false
set_option linter.unusedVariables false
set_option maxRecDepth 100000
namespace Go.Am
open Go.Proofs
attribute [local simp] areg aop dreg dop AOp.req argv argU AOp.args wze AOp.unAll Req.val Req.when putT putH qzdb ablk qzfc qzbd qzg6 vzl qzcj qzif qzid qzh7 qzh1 qzhy qzko qzhz qzji qzim qzgg qznh qzj2 qzkg qzjx IntKind.bits vz1 ARes.ok ARes.val vz5 cut AOp.quiet
attribute [local simp] qzc0 qzbz qzcz qze2 qzer qzep kzp qz1 qzh2 qzij
attribute [local simp] qzm6 qzj7 qzhq qzih qzm4 look qz8 zipA wm wh
attribute [local simp] qzm7 qzpn qzpz qzmg qzpx qzmf qzpo qzqa qzpi qzqk qzpm w_fn qznc qzjs qzjh qzhs qzj1 qzmh qzmi AObj.ep AObj.plain AObj.owned
attribute [local simp] wz9 qzbw qzeu qzdp qzey qzd2 qze5 qzfk qze7 qzdi qzdk qzd0 qzgy qzcq qzg5 qzc6 qzfa vz6 lay jzv ldv wzu qz5 kz1 qz9 qzgh wzd AVal.kind
attribute [local simp] AVal.one_int AVal.one_bool AVal.one_str AVal.one_nils AVal.one_slc AVal.one_vec AVal.one_ptr AVal.one_eptr AVal.one_cptr AVal.one_nilp AVal.one_fn AVal.one_nilfn AVal.one_mp AVal.one_nilmp
attribute [local simp] qzkh qzkv qzh8 qzh4 qzkt qzjr qzii qzik qzjn qzkm qzjf qzjw qzkl qzje qzh6 qzhx qzin qzig qzh5 qzio qzm9 qzna qzgf qzgr qzmt qzmr qzgn qzgz qzj6 qzj9 qzjv qzka qzju qzki qzkr qzku
attribute [local simp] qzh cI cB cS cL qzc3 qzdh qzdz qzb7 qzg1 qzh0 qzgc qziq fzm fzh fzv fzl fz1 qzjm qzhw qzjp qzjl qzjk List.range_succ qzd5 qze0 qzfg qzco qzdq qzdu qzag qzdw qzd4
attribute [local simp] qzj0
attribute [local simp] wz2c.cells
attribute [local simp] kzhx.cells
attribute [local simp] kzhv.cells
attribute [local simp] kzh0.cells
attribute [local simp] jz50.cells
attribute [local simp] wz2h.cells
attribute [local simp] kzht.cells
attribute [local simp] wz2w.cells
attribute [local simp] wz3g.cells
attribute [local simp] kzhz.cells
attribute [local simp] kzhu.cells
attribute [local simp] hset
theorem kzkl{l:List wz3g}(h:kzhy l=some 0):l.length<=2000:=by
 unfold kzhy at h;cases hd:decide (2000<(List.length l:Int))
 ·have:=of_decide_eq_false hd;omega
 ·rw[hd]at h;cases h
def jnE(a0 b1:List wz3g):Option Int:=bif decide (0<List.length a0)&&decide (0<List.length b1) then
   bd (at? a0 ((List.length a0:Int)-1)) fun x=>bd (at? b1 0) fun y =>
   ite' (!decide (x.To=y.From)) (some 1) <|
   bd (at? b1 ((List.length b1:Int)-1)) fun x=>bd (at? a0 0) fun y =>
   ck (inB .i64 (x.To-y.From))<|ite' (decide (40000<x.To-y.From)) (some 2) (some 0)
  else some 0
theorem bd_e{α β:Type}{a:Option α}{k:α->Option β}{r:β}(h:bd a k=some r):∃x,a=some x/\k x=some r:=by
 cases a with
 |none=>cases h
 |some x=>exact⟨x,rfl,h⟩
theorem it_e{α:Type}{e:Int}{a b:Option α}{r:α}(h:ite' (!decide (e=0)) a b=some r):(e≠0->a=some r)/\(e=0->b=some r):=by
 by_cases he:e=0
 ·rw[Gdy he]at h;exact⟨fun k=>absurd he k,fun _=>h⟩
 ·rw[Gdw he]at h;exact⟨fun _=>h,fun k=>absurd k he⟩
theorem ck_e{α:Type}{c:Bool}{a:Option α}{r:α}(h:ck c a=some r):c=true/\a=some r:=by
 cases c with
 |false=>cases h
 |true=>exact⟨rfl,h⟩
theorem kzo9{a b:List wz3g}{r:List wz3g×Int}(hF:kzif a b=some r):∃e1,kzhy a=some e1/\(e1≠0->r=([],e1))/\(e1=0->∃e2,kzhy b=some e2/\(e2≠0->r=([],e2)) /\ (e2=0->0<a.length/\tbs a=true/\tbs b=true/\∃e3,jnE a b=some e3/\(e3≠0->r=([],e3))/\(e3=0->∃all,kzie (a++b) (fun a0 a1=>kzh9 a0 a1)=some all/\ite' (decide (2000<(List.length all:Int))) (some ([],2)) (some (all,0))=some r))):=by unfold kzif at hF;obtain⟨e1,h1,hF⟩:=bd_e hF;refine⟨e1,h1,fun k=>(Gdp ((it_e hF).1 k)).symm,fun k=>?_⟩;obtain⟨e2,h2,hF⟩:=bd_e ((it_e hF).2 k);refine⟨e2,h2,fun k=>(Gdp ((it_e hF).1 k)).symm,fun k=>?_⟩;obtain⟨hc,hF⟩:=ck_e ((it_e hF).2 k);simp only[Gai,Gdz]at hc;obtain⟨e3,h3,hF⟩:=bd_e hF;refine⟨hc.1.1,hc.1.2,hc.2,e3,h3,fun k=>(Gdp ((it_e hF).1 k)).symm,fun k=>?_⟩;exact bd_e ((it_e hF).2 k)
def T17(X Y:AVal)(A K L:AVal):List AVal:=[X,Y,.top,.top,.nils,.int .i64 0,.top,.top,.top,A,.top,.top,K,.int .i64 2,L]++List.replicate 53 .top
theorem kzlj{l:List wz3g}(i:Nat)(x:AVal)(hi:i<l.length)(hx:x∈qzd wz3g.cells l i):qzt x:=by rw[qzo (Gbe hi)]at hx;exact kzlk hx
set_option maxHeartbeats 4000000 in
theorem kzp9(hC:∀(l:List wz3g) (e:Int),kzhy l=some e->qzq EE Tryd.prog 25 [slcV 5 wz3g.cells l] (.int .i64 e))(hJ:∀l r:List wz3g,kzie l (fun a0 a1=>kzh9 a0 a1)=some r->qzq EE Tryd.prog 37 [slcV 5 wz3g.cells l,.fn 24 0 []] (slcV 5 wz3g.cells r))(a b:List wz3g) (r:List wz3g×Int) (hF:kzif a b=some r) (X:AVal) (hs:qzl) (id:Nat) (hid:id<100) (hh:∀i,i≠id->hs i=.gone 0)(hX:∃ep lo m,(X=slcV 5 wz3g.cells a/\True/\True/\∀k,k<List.length a->qzd wz3g.cells a k=qzd wz3g.cells a k)\/(X=.vec id ep lo (List.length a)/\hs id=.vec ep 5 (List.length m) (qzd wz3g.cells m)/\lo+List.length a<=List.length m/\∀k,k<List.length a->qzd wz3g.cells m (lo+k)=qzd wz3g.cells a k)) :
  ATr EE Tryd.prog 17 [X,slcV 5 wz3g.cells b] hs (fun v h'=>W v (.tup [slcV 5 wz3g.cells r.1,.int .i64 r.2])/\h' id=hs id):=by
 obtain⟨ep,lo,m,hX⟩:=hX
 have cX:∀(h:qzl) (e:Int),h id=hs id->kzhy a=some e->ATr EE Tryd.prog 25 [X] h (fun v h'=>v=.int .i64 e/\h'=h):=fun h e h1 h2=>by
  rcases hX with ⟨rfl,_⟩|⟨rfl,g1,g2,g3⟩
  ·exact hC a e h2 h
  ·have:=hC a e h2;rw[qzh]at this;exact lend this hEE kzlj (fun g g' w w' v hv=>by cases hv;exact .int _ _) h (h1.trans g1) g2 (fun k hk=>(g3 k hk).symm)
 have pX:∀(h:qzl),h id=hs id->(h 200).plain->0<a.length->a.length<=2000->tbs a=true->ATr EE Tryd.prog 38 [X] h (fun v h'=>∃ep,v=.vec 200 ep 0 a.length/\h'=hset h 200 (.vec ep 5 a.length (qzd wz3g.cells a))):=fun h h1 h2 h3 h4 h5=>by
  refine kzou a h3 (by omega) h5 X h 200 h2 ?_;rcases hX with ⟨rfl,_⟩|⟨rfl,g1,g2,g3⟩
  ·exact .inl rfl
  ·exact .inr ⟨id,ep,lo,m,by omega,rfl,h1.trans g1,g2,g3⟩
 have xc:wzk X=some [X]/\AVal.one X=true:=by rcases hX with ⟨rfl,_⟩|⟨rfl,_⟩<;>simp
 obtain⟨xc,x1⟩:=xc;have xf:∀o,fzv 200 o X=X:=fun o=>by rcases hX with ⟨rfl,_⟩ | ⟨rfl,_⟩<;>simp[show ¬id=200 by omega]
 generalize hY:slcV 5 wz3g.cells b=Y at *;have hY2:Y=.slc 5 b.length (qzd wz3g.cells b):=by rw[<-hY,qzh]
 have yc:wzk Y=some [Y]/\AVal.one Y=true:=by rw[hY2];simp
 obtain⟨yc,y1⟩:=yc;have i100:hs 100=.gone 0:=hh 100 (by omega);have i200:hs 200=.gone 0:=hh 200 (by omega);obtain⟨e1,f1,g1,hF⟩:=kzo9 hF;obtain⟨c,hb,hc⟩:=ck17;refine ATr.of (fn:=Tryd.f17) rfl hb cr17 (hc 100) 66 rfl ?_;refine AW.sr (by simp[kzto,List.replicate];rfl) ?_;refine .seq (.seq (AW.r1 (by simp[kztd,xc,x1,yc,y1,i100];rfl) ?_));refine .block (.loop (fun k:Nat=>(⟨T17 X Y .top (.vec 100 1 0 2) (.int .i64 k),hset hs 100 (.vec 1 1 2 (fun i=>if i=0 then [X] else [Y])),[]⟩:ASt)) (fun k=>2-k) (fun k=>k<=2/\(1<=k->e1=0)/\(2<=k->kzhy b=some 0)) 0 ⟨by omega,fun h=>by omega,fun h=>by omega⟩ (.of_sub ⟨?_,fun i=>?_,rfl,fun D hD=>by cases hD⟩) ?_)
 ·simp[T17,List.replicate,TSub,VSub]
 ·simp only[hset];by_cases hi:i=100
  ·subst hi;refine .inr (.inr ⟨_,_,_,_,_,by simp;exact⟨rfl,rfl,rfl,rfl⟩,by simp;rfl,fun j hj=>?_⟩)
   match j with
   |0=>simp
   |1=>simp
  ·exact .of_eq (by simp[hi])
 rintro k ⟨hk,ha,hb2⟩;try dsimp only
 refine AW.sr (by simp[kzs0,T17,List.replicate];rfl) ?_;refine .seq (AW.if' (decide ((k:Int)<2)) (by simp) (fun e=>AW.skip ?_) (fun e=>.exit ?_))
 ·have hlt:k<2:=by have:=Gd7 e;omega
  obtain⟨Z,e,hZ,hZc,hZe,hZn⟩:∃Z e,(if k=0 then [X] else [Y])=[Z]/\(∀h:qzl,h id=hs id->ATr EE Tryd.prog 25 [Z] h (fun v h'=>v=.int .i64 e/\h'=h))/\(e≠0->r=([],e))/\(e=0->(1<=k+1->e1=0)/\(2<=k+1->kzhy b=some 0)):=by
   match k,hlt with
   |0,_=>exact⟨X,e1,rfl,fun h hi=>cX h e1 hi f1,g1,fun h=>⟨fun _=>h,fun h=>by omega⟩⟩
   |1,_ =>have e0:=ha (by omega);obtain⟨e2,f2,g2,_⟩:=hF e0;exact⟨Y,e2,rfl,fun h hi=>by rw[<-hY];exact hC b e2 f2 h,g2,fun h=>⟨fun _=>e0,fun _=>by rw[f2,h]⟩⟩
  have hin1:inr .i64 ((k:Int)+1):=by show _/\_;omega
  have hkI:(k:Int)<2:=by omega
  simp only[qzdb];refine .seq (.block (AW.sr (by simp[kzss,hlt,hkI,hZ];rfl) ?_));refine AW.sr (by simp[kztk];refine(hZc _ (by simp[hset];omega)).mono ?_;rintro v h' ⟨rfl,rfl⟩;(try simp);rfl) ?_;refine AW.sr (by simp[kztf];rfl) ?_;refine AW.if' (!decide (e=0)) (by simp) (fun e'=>?_) (fun e'=>AW.skip ?_)
  ·rw[hZe (by simpa using e')];refine AW.sr (by simp[kztg];rfl) ?_;refine .ret ?_;simp only[qzdb,ablk];refine .here (by simp[rs17]) rfl ?_;simp[rs17,hset];omega
  ·simp only[qzdb,ablk];refine AW.r1 (by simp[kzti];exact⟨hin1,rfl⟩) ?_;simp only[qzdb];obtain⟨q1,q2⟩:=hZn (by simpa using e');refine⟨k+1,⟨by omega,q1,q2⟩,by omega,.of_sub ⟨?_,fun i=>.refl _,rfl,fun D hD=>by cases hD⟩⟩;simp[T17,List.replicate,TSub,VSub]
 obtain rfl:k=2:=by have:=of_decide_eq_false e;omega
 have e10:=ha (by omega);have e20:=hb2 (by omega);subst e10;obtain⟨e2,f2,_,hF⟩:=hF rfl;rw[e20]at f2;cases f2;obtain⟨n0,ta,tb,e3,h3,g3,hF⟩:=hF rfl;have la:=kzkl f1;have lb:=kzkl e20;have sY:=kzt5 b (by omega) tb;rw[hY]at sY;simp only[qzdb,ablk,Gd5];refine .seq (.reg ?_);simp[kzs5];refine(pX _ (by simp[hset];omega) (by simp[hset,i200]) n0 la ta).mono ?_;rintro v h' ⟨ep2,rfl,rfl⟩;try simp
 refine sY.call ?_;simp[hY2,hset];refine⟨by omega,?_⟩;refine .fz 200 (by simp[hset]) (by simp[hset]) ?_;refine .see (S':=⟨T17 X Y (slcV 5 wz3g.cells (a++b)) .top .top,hset (hset hs 100 (.gone 1)) 200 (.gone (ep2+2)),[]⟩) (.of_sub ⟨?_,fun i=>?_,rfl,fun D hD=>by cases hD⟩) ?_
 ·simp[T17,List.replicate,TSub,VSub,xf,hY2,Gbq];exact .inl (funext fun k=>yzt)
 ·simp only[hset];by_cases h2:i=200
  ·subst h2;exact .inl (by simp)
  by_cases h1:i=100
  ·subst h1;exact .inl (by simp)
  exact .of_eq (by simp[h1,h2])
 have n1:¬id=100:=by omega
 have n2:¬id=200:=by omega
 obtain⟨n,hn⟩:∃n,a.length=n+1:=⟨a.length-1,by omega⟩;refine .seq (AW.mono (Q:=fun e S=>(e=.normal/\See EE S ⟨T17 X Y (slcV 5 wz3g.cells (a++b)) .top .top,hset (hset hs 100 (.gone 1)) 200 (.gone (ep2+2)),[]⟩/\e3=0)\/(e=.ret/\Post EE rs17 (fun v h'=>W v (.tup [slcV 5 wz3g.cells r.1,.int .i64 r.2])/\h' id=hs id) .ret S)) ?_ ?_);rotate_left
 ·rintro e S (⟨rfl,hsee,h0⟩|⟨rfl,hp⟩)
  ·obtain⟨all,hall,hr⟩:=hF h0;have sJ:=hJ _ _ hall;simp only[qzdb];refine .see hsee ?_;refine AW.sr (by simp[kzpn,T17,List.replicate,-qzh];refine sJ.call ?_;(try simp[-qzh]);rfl) ?_;refine .seq (AW.sr (by simp[kzqz];rfl) ?_);refine AW.if' (decide (2000<(List.length all:Int))) (by simp) (fun e=>?_) (fun e=>AW.skip ?_)
   ·rw[e]at hr;cases hr;refine AW.sr (by simp[kzry];rfl) ?_;refine .ret ?_;simp only[qzdb];refine .here (by simp[rs17]) rfl ?_;simp[rs17,n1,n2]
   ·rw[e]at hr;cases hr;simp only[qzdb];refine AW.sr (by simp[kzre];rfl) ?_;refine .ret ?_;refine .here (by simp[rs17]) rfl ?_;simp[rs17,n1,n2]
  ·exact hp
 rcases hX with ⟨rfl,ho,hlo,hcell⟩|⟨rfl,ho,hlo,hcell⟩
 all_goals
  refine AW.sr (by simp[kzsw,T17,List.replicate,hY2,hn,ho,n1,n2];rfl) ?_;refine AW.if' (decide (0<b.length)) (by simp) (fun e=>?_) (fun e=>AW.skip (.inl ⟨rfl,.of_sub ⟨?_,fun i=>.refl _,rfl,fun D hD=>by cases hD⟩,?_⟩))
  ·simp only[jnE,Gdy n0,e,Bool.and_self,Gdu]at h3;obtain⟨xl,hx,h3⟩:=bd_e h3;obtain⟨y0,hy,h3⟩:=bd_e h3;obtain⟨_,_,hx⟩:=qzlv hx;obtain⟨_,hb0,hy⟩:=qzlv hy;rw[hn,show(((n+1:Nat):Int)-1).toNat=n by omega]at hx;have hcx:qzd wz3g.cells a n=xl.cells:=qzo hx;have hcy:qzd wz3g.cells b 0=y0.cells:=qzo hy;have hb1:0<b.length:=by omega
   have hin1:inr .i64 ((n:Int)+1-1):=by show _/\_;omega
   refine .seq ?_;have hcm:=(hcell n (by omega)).trans hcx;refine AW.sd (by simp[kzr4,hY2,hn,ho,n1,n2,hcm,hcy,hb1];(repeat' apply And.intro)<;>first|omega|(show hpOk _ _=true;kernel_rfl)|exact rfl) ?_;refine AW.if' (!decide (xl.To=y0.From)) (by simp) (fun e'=>?_) (fun e'=>AW.skip ?_)
   ·rw[e']at h3;cases h3;rw[g3 (by omega)];refine AW.sr (by simp[kzrp];rfl) ?_;refine .ret (.inr ⟨rfl,?_⟩);refine .here (by simp[rs17]) rfl ?_;simp[rs17,n1,n2]
   rw[e']at h3;obtain⟨yl,hz,h3⟩:=bd_e h3;obtain⟨x0,hw,h3⟩:=bd_e h3;obtain⟨h64,h3⟩:=ck_e h3;obtain⟨_,_,hz⟩:=qzlv hz;obtain⟨_,_,hw⟩:=qzlv hw;obtain⟨nb,hnb⟩:∃nb,b.length=nb+1:=⟨b.length-1,by omega⟩;rw[hnb,show(((nb+1:Nat):Int)-1).toNat=nb by omega]at hz;have hcz:qzd wz3g.cells b nb=yl.cells:=qzo hz;have hcw:=(hcell 0 (by omega)).trans (qzo hw);try simp only[Gcn]at hcw
   have h64:inr .i64 (yl.To-x0.From):=by simp[inB]at h64;exact h64
   have hinb:inr .i64 ((nb:Int)+1-1):=by show _/\_;omega
   simp only[qzdb];refine AW.sd (by simp[kzql,hY2,hn,hnb,ho,n1,n2,hcz,hcw];(repeat' apply And.intro)<;>first|omega|exact h64.1|exact h64.2|(show hpOk _ _=true;kernel_rfl)|exact rfl) ?_;refine AW.if' (decide (40000<yl.To-x0.From)) (by simp) (fun e'=>?_) (fun e'=>AW.skip (.inl ⟨rfl,.of_sub ⟨?_,fun i=>.refl _,rfl,fun D hD=>by cases hD⟩,?_⟩))
   ·rw[e']at h3;cases h3;rw[g3 (by omega)];refine AW.sr (by simp[kzqo];rfl) ?_;refine .ret (.inr ⟨rfl,?_⟩);refine .here (by simp[rs17]) rfl ?_;simp[rs17,n1,n2]
   ·simp[T17,List.replicate,TSub,VSub,hY2,hn,hnb]
   ·rw[e']at h3;exact(Gdp h3).symm
  ·simp[T17,List.replicate,TSub,VSub,hY2,hn]
  ·simp only[jnE,e,Bool.and_false,Gdt]at h3;exact(Gdp h3).symm
def k25:Fc:=⟨25,[(.slc (.us 8))],[false],[(.int .i64)],fun x=>kzhy x⟩
def k37:Fc:=⟨37,[(.slc (.us 8)),(.fn 0)],[false,false],[(.slc (.us 8))],fun x=>kzie x.1 (fun a0 a1=>x.2.g (a0,a1))⟩
def k17:Fc:=⟨17,[(.slc (.us 8)),(.slc (.us 8))],[false,false],[(.slc (.us 8)),(.int .i64)],fun x=>kzif x.1 x.2⟩
theorem kzmp(H25:FcOk k25)(l:List wz3g)(e:Int)(h:kzhy l=some e):qzq EE Tryd.prog 25 [slcV 5 wz3g.cells l] (.int .i64 e):=H25.still (x:=l) (y:=e) h (by kernel_rfl)
theorem kzlv(H37:FcOk k37)(H24:FcOk k24)(l r:List wz3g)(h:kzie l (fun a0 a1=>kzh9 a0 a1)=some r):qzq EE Tryd.prog 37 [slcV 5 wz3g.cells l,.fn 24 0 []] (slcV 5 wz3g.cells r) :=
 H37.still (x:=(l,jzkz ⟨k24,H24⟩ 0 0 [] rfl)) (y:=r) h (by kernel_rfl)
theorem kzmc{r:List wz3g×Int}:qzt (.tup [slcV 5 wz3g.cells r.1,.int .i64 r.2]):=.tup _ fun z hz=>by
 rcases Gb3.1 hz with rfl|hz
 ·exact kziq
 ·rw[Gcc.1 hz];exact .int _ _
theorem kzus(H25:FcOk k25)(H37:FcOk k37)(H24:FcOk k24):FcOk k17:=by
 refine⟨by kernel_rfl,fun x y e=>?_⟩;have H:Pure EE Tryd.prog 17 [slcV 5 wz3g.cells x.1,slcV 5 wz3g.cells x.2] (.tup [slcV 5 wz3g.cells y.1,.int .i64 y.2]) := (kzp9 (kzmp H25) (kzlv H37 H24) x.1 x.2 y e _ h0 0 (by omega) (fun _ _=>rfl) ⟨0,0,[],.inl ⟨rfl,trivial,trivial,fun _ _=>rfl⟩⟩).wv fun v h' q=>⟨_,q.1,rfl⟩
 exact(Pure.still H hEE (fun z hz=>by
  rcases Gb3.1 hz with rfl|hz
  ·exact kziq
  ·rw[Gcc.1 hz];exact kziq) kzmc).cast (by kernel_rfl)
theorem kzuf(H25:FcOk k25)(H37:FcOk k37)(H24:FcOk k24)(a b m:List wz3g)(r:List wz3g×Int)(hF:kzif a b=some r)(id ep lo:Nat)(hid:id<100)(h1:lo+a.length<=m.length)(h2:∀k,k<a.length->qzd wz3g.cells m (lo+k)=qzd wz3g.cells a k) :
  qzcd EE Tryd.prog 17 [.vec id ep lo a.length,slcV 5 wz3g.cells b] (fun i=>if i=id then .vec ep 5 m.length (qzd wz3g.cells m) else .gone 0) [id] (.tup [slcV 5 wz3g.cells r.1,.int .i64 r.2]):=by
 refine ATr.frame hEE (fun i hi=>?_) (fun z hz=>?_) (fun i hi=>?_) kzmc ((kzp9 (kzmp H25) (kzlv H37 H24) a b r hF _ _ id hid (fun i hi=>?_) ⟨ep,lo,m,.inr ⟨rfl,?_,h1,h2⟩⟩).wv fun v h' q=>⟨_,q.1,rfl,fun i hi=>?_⟩)
 ·rw[Gcc]at hi;simp only[hi,Gd2]
 ·rcases Gb3.1 hz with rfl|hz;·exact .vec _ _ _ _ (by simp)
  ·rw[Gcc.1 hz];exact kziq.refs
 ·rw[Gcc.1 hi];simp only[Gd5];exact fun k x hk hx=>(kzlj k x hk hx).refs
 ·simp only[hi,Gd2]
 ·simp only[Gd5]
 ·rw[Gcc.1 hi];exact q.2
end Go.Am

