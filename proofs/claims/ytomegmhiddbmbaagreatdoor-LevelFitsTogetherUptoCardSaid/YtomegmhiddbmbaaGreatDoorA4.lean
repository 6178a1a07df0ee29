/- Part A4: an abstract machine proved sound over the calculus of the guide. No condition. -/
import Derived.Test.YtomegmhiddbmbaaGreatDoorA3
import Derived.ProofKit
import Derived.OpenShut
import Derived.Deep.DeepHandedRow
import Derived.Lib.LaidTab
import Derived.ChangeCalls
set_option linter.unusedSimpArgs false
set_option linter.unusedVariables false
namespace Go.Am
inductive AX where
 |skip
 |reg (draw:Bool) (ops:List As) (preds:List (List Nat))
 |seq (a b:AX)
 |cond (c:Ac) (a b:AX)
 |block (id:Nat) (c:AX)
 |loop (c:AX)
 |ret
 |exit (id:Nat)
 |rfunc (f:Ac) (ps:List Tmp) (assign body:AX)
 |scope (c:AX)
 |label (l:Nat)
 |any
def AA(P:Program):Code->AX->Bool
 |.skip,.skip=>true
 |.region _ ops false,.reg false m _=>yzf P ops ops.toList m
 |.region _ ops true,.reg true m preds=>yzf P ops ops.toList m&&II ops.toList preds&&Hl 0 ops.toList&&IJ m preds&&P.follows .mixedOrders
 |.seq a b,.seq a' b'=>AA P a a'&&AA P b b'
 |.cond c a b,.cond c' a' b'=>A8 c c'&&AA P a a'&&AA P b b'
 |.block id c,.block id' c'=>id==id'&&AA P c c'
 |.loop c,.loop c'=>AA P c c'
 |.ret,.ret=>true
 |.exit id,.exit id'=>id==id'
 |.scope c,.scope c'=>AA P c c'
 |.label l,.label l'=>l==l'
 |.rangeFunc f ps a b,.rfunc f' ps' a' b'=>A8 f f'&&ps.toList==ps'&&AA P a a'&&AA P b b'
 |_,.any=>true
 |_,_=>false
def AW(E:Nat->Aa)(ρ:Option Nat)(P:Program)(c:AX)(Q:Exit->Ay->Prop)(S:Ay):Prop:=∀code,AA P code c=true->AWp E ρ P code Q S
section
variable {E:Nat->Aa}{P:Program}{ρ:Option Nat}{Q:Exit->Ay->Prop}{S:Ay}
theorem AW.mono{c:AX}{Q':Exit->Ay->Prop}(h:AW E ρ P c Q S)(hq:∀e S',Q e S'->Q' e S'):AW E ρ P c Q' S:=fun code hc=>(h code hc).mono hq
theorem AW.see{c:AX}{S':Ay}(s:See E S S')(h:AW E ρ P c Q S'):AW E ρ P c Q S:=fun code hc=>(h code hc).see s
theorem AW.skip(h:Q .normal S):AW E ρ P .skip Q S:=by
 intro code hc;cases code<;>simp only[AA]at hc<;>first|exact .skip h|(cases hc;done)|skip
 all_goals (split at hc<;>cases hc)
theorem AW.ret(h:Q .ret S):AW E ρ P .ret Q S:=by
 intro code hc;cases code<;>simp only[AA]at hc<;>first|exact .ret h|(cases hc;done)|skip
 all_goals (split at hc<;>cases hc)
theorem AW.exit{id:Nat}(h:Q (.exit id) S):AW E ρ P (.exit id) Q S:=by
 intro code hc;cases code<;>simp only[AA]at hc<;>(try (cases hc;done))
 case exit id'=>simp only[Br]at hc;subst hc;exact .exit h
 all_goals (split at hc<;>cases hc)
theorem AW.seq{a b:AX}(h:AW E ρ P a (AL (AW E ρ P b Q) Q) S):AW E ρ P (.seq a b) Q S:=by
 intro code hc;cases code<;>simp only[AA]at hc<;>(try (cases hc;done))
 case seq x y =>
  simp only[AE]at hc;refine .seq ((h x hc.1).mono ?_);intro e S' q;cases e with
  |normal=>exact q y hc.2
  |_=>exact q
 all_goals (split at hc<;>cases hc)
theorem AW.block{id:Nat}{c:AX}(h:AW E ρ P c (ablk id Q) S):AW E ρ P (.block id c) Q S:=by
 intro code hc;cases code<;>simp only[AA]at hc<;>(try (cases hc;done))
 case block id' x =>simp only[AE,Br]at hc;obtain⟨rfl,hc⟩:=hc;exact .block (h x hc)
 all_goals (split at hc<;>cases hc)
theorem AW.scope{c:AX}(h:AW E ρ P c (UW Q) S):AW E ρ P (.scope c) Q S:=by
 intro code hc;cases code<;>simp only[AA]at hc<;>(try (cases hc;done))
 case scope x=>exact .scope (h x hc)
 all_goals (split at hc<;>cases hc)
theorem AW.label{l:Nat}(h:Q .normal S):AW E ρ P (.label l) Q S:=by
 intro code hc;cases code<;>simp only[AA]at hc<;>(try (cases hc;done))
 case label x=>exact .label h
 all_goals (split at hc<;>cases hc)
theorem AW.loop{c:AX}{U:Type}(inv:U->Ay)(J:U->Nat)(I:U->Prop)(x₀:U)(h₀:I x₀)(s₀:See E S (inv x₀))(round:∀x,I x->AW E ρ P c (AL (fun S'=>∃x',I x'/\J x'<J x/\See E S' (inv x')) Q) (inv x)):AW E ρ P (.loop c) Q S:=by
 intro code hc;cases code<;>simp only[AA]at hc<;>(try (cases hc;done))
 case loop x=>exact .loop' inv J I x₀ h₀ s₀ (fun y hy=>round y hy x hc)
 all_goals (split at hc<;>cases hc)
theorem AWp.cond'{c:Operand}{c':Ac}{x y:Code}{t:Bool}(hk:A8 c c'=true)(hc:Ae E S.t c'=.bool t)(ht:t=true->AWp E ρ P x Q S)(hf:t=false->AWp E ρ P y Q S):AWp E ρ P (.cond c x y) Q S:=by intro g a w hs;have rx:=AP hs.hr hs.tm hk;rw[hc]at rx;exact wpIn_cond_split (DO rx) (fun e=>ht e g a w hs) (fun e=>hf e g a w hs)
theorem AW.cond{c:Ac}{a b:AX}{t:Bool}(hc:Ae E S.t c=.bool t)(ht:t=true->AW E ρ P a Q S)(hf:t=false->AW E ρ P b Q S):AW E ρ P (.cond c a b) Q S:=by
 intro code hk;cases code<;>simp only[AA]at hk<;>(try (cases hk;done))
 case cond c' x y =>simp only[AE]at hk;exact .cond' hk.1.1 hc (fun e=>ht e x hk.1.2) (fun e=>hf e y hk.2)
 all_goals (split at hk<;>cases hk)
theorem AW.reg{ops:List As}{pr:List (List Nat)}(h:areg E P ops S (Q .normal)):AW E ρ P (.reg false ops pr) Q S:=by
 intro code hc
 match code,hc with
 |.region id l true,hc=>simp[AA]at hc
 |.region id l false,hc=>exact .region (by simpa [AA] using hc) h
 |.skip,hc=>simp[AA]at hc
 |.seq _ _,hc=>simp[AA]at hc
 |.cond _ _ _,hc=>simp[AA]at hc
 |.block _ _,hc=>simp[AA]at hc
 |.loop _,hc=>simp[AA]at hc
 |.rangeFunc _ _ _ _,hc=>simp[AA]at hc
 |.exit _,hc=>simp[AA]at hc
 |.scope _,hc=>simp[AA]at hc
 |.label _,hc=>simp[AA]at hc
 |.goto _,hc=>simp[AA]at hc
 |.ret,hc=>simp[AA]at hc
 |.refuse _,hc=>simp[AA]at hc
theorem AW.sreg{ops:List As}{pr:List (List Nat)}(h:SReg E P ops S (Q .normal)):AW E ρ P (.reg false ops pr) Q S:=by
 intro code hc
 match code,hc with
 |.region id l true,hc=>simp[AA]at hc
 |.region id l false,hc=>exact .sregion (by simpa [AA] using hc) h
 |.skip,hc=>simp[AA]at hc
 |.seq _ _,hc=>simp[AA]at hc
 |.cond _ _ _,hc=>simp[AA]at hc
 |.block _ _,hc=>simp[AA]at hc
 |.loop _,hc=>simp[AA]at hc
 |.rangeFunc _ _ _ _,hc=>simp[AA]at hc
 |.exit _,hc=>simp[AA]at hc
 |.scope _,hc=>simp[AA]at hc
 |.label _,hc=>simp[AA]at hc
 |.goto _,hc=>simp[AA]at hc
 |.ret,hc=>simp[AA]at hc
 |.refuse _,hc=>simp[AA]at hc
theorem AW.draw{ops:List As}{pr:List (List Nat)}(h:dreg E P ops S (fun S' tr=>hpOk pr tr=true/\Q .normal S')):AW E ρ P (.reg true ops pr) Q S:=by
 intro code hc
 match code,hc with
 |.region id l false,hc=>simp[AA]at hc
 |.region id l true,hc =>simp only[AA,AE]at hc;exact .drawn hc.1.1.1.1 hc.1.1.1.2 hc.1.1.2 hc.1.2 hc.2 h
 |.skip,hc=>simp[AA]at hc
 |.seq _ _,hc=>simp[AA]at hc
 |.cond _ _ _,hc=>simp[AA]at hc
 |.block _ _,hc=>simp[AA]at hc
 |.loop _,hc=>simp[AA]at hc
 |.rangeFunc _ _ _ _,hc=>simp[AA]at hc
 |.exit _,hc=>simp[AA]at hc
 |.scope _,hc=>simp[AA]at hc
 |.label _,hc=>simp[AA]at hc
 |.goto _,hc=>simp[AA]at hc
 |.ret,hc=>simp[AA]at hc
 |.refuse _,hc=>simp[AA]at hc
theorem AW.drawC{ops:List As}{pr:List (List Nat)}(h:EC E P ops S (fun S' tr=>Dn ops pr tr=true/\Q .normal S')):AW E ρ P (.reg true ops pr) Q S:=by
 intro code hc
 match code,hc with
 |.region id l false,hc=>simp[AA]at hc
 |.region id l true,hc =>simp only[AA,AE]at hc;exact .drawnT hc.1.1.1.1 hc.1.1.1.2 hc.1.1.2 hc.1.2 hc.2 (QW _ _ _ h)
 |.skip,hc=>simp[AA]at hc
 |.seq _ _,hc=>simp[AA]at hc
 |.cond _ _ _,hc=>simp[AA]at hc
 |.block _ _,hc=>simp[AA]at hc
 |.loop _,hc=>simp[AA]at hc
 |.rangeFunc _ _ _ _,hc=>simp[AA]at hc
 |.exit _,hc=>simp[AA]at hc
 |.scope _,hc=>simp[AA]at hc
 |.label _,hc=>simp[AA]at hc
 |.goto _,hc=>simp[AA]at hc
 |.ret,hc=>simp[AA]at hc
 |.refuse _,hc=>simp[AA]at hc
theorem AW.rfunc{f':Ac}{ps:List Tmp}{a b:AX}{fi:FuncId}{caps:List Aa}(D L:Nat)(gN:D≠L)(hD:(S.h D).plain)(hL:(S.h L).plain)(hf:Ae E S.t f'=.fn fi 0 caps)(he:Ci P fi=true)
  (h:∀(ps':Array Tmp) (a' b':Code),ps'.toList=ps->AA P a' a=true->AA P b' b=true ->
   ATr E P fi (.yld L ((S.h L).ep+1) :: caps) (hset (hset S.h D (.dfr ((S.h D).ep+1))) L (.loop ((S.h L).ep+1) .ready none S.t ps' a' b' D ((S.h D).ep+1)))
   (fun v h'=>∃st pd,st≠.busy/\h' L=.loop ((S.h L).ep+1) st pd S.t ps' a' b' D ((S.h D).ep+1)/\h' D=.dfr ((S.h D).ep+1)/\(∀X∈S.ds,h' X.1=.dfr X.2) /\
    QX Q pd ⟨S.t,hset h' L (.gone ((S.h L).ep+1)),(D,(S.h D).ep+1) :: S.ds⟩)):AW E none P (.rfunc f' ps a b) Q S:=by
 intro code hc
 match code,hc with
 |.rangeFunc f ps' a' b',hc =>simp only[AA,AE,Br]at hc;exact .rfunc D L gN hD hL hc.1.1.1 hf he (h ps' a' b' hc.1.1.2 hc.1.2 hc.2)
 |.region id l false,hc=>simp[AA]at hc
 |.region id l true,hc=>simp[AA]at hc
 |.skip,hc=>simp[AA]at hc
 |.seq _ _,hc=>simp[AA]at hc
 |.cond _ _ _,hc=>simp[AA]at hc
 |.block _ _,hc=>simp[AA]at hc
 |.loop _,hc=>simp[AA]at hc
 |.exit _,hc=>simp[AA]at hc
 |.scope _,hc=>simp[AA]at hc
 |.label _,hc=>simp[AA]at hc
 |.goto _,hc=>simp[AA]at hc
 |.ret,hc=>simp[AA]at hc
 |.refuse _,hc=>simp[AA]at hc
theorem ATr.of{f:FuncId}{fn:Func}{c:Code}{ac:AX}{args:List Aa}{h:Ax}{R:Aa->Ax->Prop}{rs:List ARes}(hf:P.funcs[f]?=some fn)(hb:fn.body=some c)(hr:Dm P fn.results.toList rs=true)(hc:AA P c ac=true)(n:Nat) (hn:fn.ntmps-args.length=n) (hw:AW E none P ac (Post E rs R) ⟨args++List.replicate n .top,h,[]⟩):ATr E P f args h R :=
 .of_body hf hb hr (by subst hn;exact hw c hc)
end
inductive AC:Aa->Prop where
 |top:AC .top
 |int (k:IntKind) (n:Int):AC (.int k n)
 |bool (b:Bool):AC (.bool b)
 |str (s:List UInt8):AC (.str s)
 |agg (l:List Aa) (h:∀x,x∈l->AC x):AC (.agg l)
 |tup (l:List Aa) (h:∀x,x∈l->AC x):AC (.tup l)
 |nils:AC .nils
 |slc (st n:Nat) (f:Nat->List Aa) (h:∀i x,i<n->x∈f i->AC x):AC (.slc st n f)
 |cptr (f:Nat->Aa) (lim off:Nat) (h:∀j,j<lim->AC (f j)):AC (.cptr f lim off)
 |nilp:AC .nilp
 |fn (f:FuncId) (nb:Nat) (l:List Aa) (h:∀x,x∈l->AC x):AC (.fn f nb l)
 |nilfn:AC .nilfn
 |nilmp:AC .nilmp
 |cnd (c:Bool) (x:Aa) (h:AC x):AC (.cnd c x)
theorem Hm{l:List Aa}:AC (.agg l)↔∀x,x∈l->AC x:=⟨fun h=>by cases h;assumption,.agg l⟩
theorem Hn{l:List Aa}:AC (.tup l)↔∀x,x∈l->AC x:=⟨fun h=>by cases h;assumption,.tup l⟩
theorem Wz{st n:Nat}{f:Nat->List Aa}:AC (.slc st n f)↔∀i x,i<n->x∈f i->AC x:=⟨fun h=>by cases h;assumption,.slc st n f⟩
theorem QY{f:FuncId}{nb:Nat}{l:List Aa}:AC (.fn f nb l)↔∀x,x∈l->AC x:=⟨fun h=>by cases h;assumption,.fn f nb l⟩
theorem RV.reghost{g gx:Gh}{w:World}(hf:∀b,g.fz b->gx.fz b){x:Aa}{v:Value}(h:RV g w x v)(hn:AC x):RV gx w x v:=by
 induction h with
 |top v=>exact .top v
 |int k n=>exact .int k n
 |bool b=>exact .bool b
 |str s b h=>exact .str s b h
 |agg l a hl _ ih=>exact .agg l a hl fun i x v hx hv=>ih i x v hx hv (Hm.1 hn x (BH hx))
 |tup l a hl _ ih=>exact .tup l a hl fun i x v hx hv=>ih i x v hx hv (Hn.1 hn x (BH hx))
 |nils=>exact .nils
 |slc0 st f a cap=>exact .slc0 st f a cap
 |slc st n f b off cap vals hz aQ hl hc h1 _ ih =>exact .slc st n f b off cap vals (hf b hz) aQ hl hc h1 fun i j x hi hx=>ih i j x hi hx (Wz.1 hn i x hi (BH hx))
 |vec=>cases hn
 |ptr=>cases hn
 |eptr=>cases hn
 |cptr f lim off b base vals hz hc _ ih =>
  cases hn with
  |cptr _ _ _ hn=>exact .cptr f lim off b base vals (hf b hz) hc fun j hj=>ih j hj (hn j hj)
 |nilp=>exact .nilp
 |fn f nb caps a hl _ ih=>exact .fn f nb caps a hl fun i x v hx hv=>ih i x v hx hv (QY.1 hn x (BH hx))
 |nilfn=>exact .nilfn
 |yld=>cases hn
 |mp=>cases hn
 |nilmp=>exact .nilmp
 |cnd c x v _ h0 ih =>
  cases hn with
  |cnd _ _ hn=>exact .cnd c x v (fun e=>ih e hn) h0
def h0:Ax:=fun _=>.gone 0
def Pure(E:Nat->Aa)(P:Program)(f:FuncId)(args:List Aa)(r:Aa):Prop:=ATr E P f args h0 (fun v _=>v=r)
theorem Pure.any{E:Nat->Aa}{P:Program}{f:FuncId}{args:List Aa}{r:Aa}(H:Pure E P f args r)(hE:∀i,AC (E i))(ha:∀x,x∈args->AC x)(hr:AC r)(h:Ax) :
  ATr E P f args h (fun v h'=>v=r/\h'=h):=by
 intro g w vs hh hv
 let g0:Gh:=⟨fun _=>0,fun _=>0,fun _=>0,fun _=>0,fun _=>0,g.fz⟩
 have H0:HR E g0 h0 w:=⟨fun _=>trivial,fun _=>rfl,(by intro i j hi;cases hi),(by intro i hi;cases hi),hh.fzb,fun i=>(hh.glob i).reghost (g:=g) (gx:=g0) (fun _ h=>h) (hE i)⟩;refine(H g0 w vs H0 ⟨hv.1,fun i x v hx hy=>(hv.2 i x v hx hy).reghost (g:=g) (gx:=g0) (fun _ h=>h) (ha x (BH hx))⟩).mono ?_;rintro e w' ⟨g',h',_,v,rfl,rfl,bt,hH,st⟩
 have eZ:∀b,g'.fz b->g.fz b\/w.heap.size<=b:=fun b hb=>by
  rcases st.fzn b hb with h1|⟨j,hj,_⟩|h3
  ·exact .inl h1
  ·cases hj
  ·exact .inr h3
 have aY:∀b,b<w.heap.size->w'.heap[b]?=w.heap[b]?:=fun b hb=>st.keep b hb (by intro i hi;cases hi)
 let g2:Gh:=⟨g.blk,g.ep,g.bo,g.st,g.cp,g'.fz⟩
 have aD:GLe g w g2 w':=⟨fun b hb=>⟨(st.le.fz b hb).1,aY b (hh.fzb b hb)⟩,fun _=>AD _,fun _ _=>⟨rfl,rfl,rfl,rfl⟩⟩;refine⟨g2,h,_,v,⟨rfl,rfl⟩,rfl,bt.reghost (g:=g') (gx:=g2) (fun _ h=>h) hr,?_,⟨aD,st.os,st.tape,st.output,st.size,fun b hb _=>aY b hb,fun i ho=>.inl ⟨i,ho,rfl⟩,fun b hb=>?_,st.drawn⟩⟩
 ·refine⟨fun i=>(hh.obj i).mono aD rfl fun ho=>aY _ ((hh.obj i).lt ho),hh.ep,hh.inj,fun i hi hf=>?_,hH.fzb,fun i=>(hh.glob i).mono aD⟩;rcases eZ _ hf with h1|h1
  ·exact hh.sep i hi h1
  ·have:g.blk i<w.heap.size:=(hh.obj i).lt hi;have e:g2.blk i=g.blk i:=rfl;omega
 ·rcases eZ b hb with h1|h1;·exact .inl h1
  ·exact .inr (.inr h1)
theorem Ho{k:IntKind}{n:Int}:AC (.int k n):=.int k n
theorem Hq{b:Bool}:AC (.bool b):=.bool b
theorem Hr{s:List UInt8}:AC (.str s):=.str s
theorem IK:AC .nils:=.nils
section
variable {E:Nat->Aa}{P:Program}{ρ:Option Nat}
theorem Post.here{rs:List ARes}{R:Aa->Ax->Prop}{S:Ay}(aB:FD S rs)(cr:S.ds=[])(hR:R (Gb S rs) S.h):Post E rs R .ret S := ⟨S,.refl S,aB,S.h,fun i=>.refl _,(by rw[cr];intro D hD;cases hD),hR⟩
theorem Post.pure{rs:List ARes}{r:Aa}{S:Ay}(aB:FD S rs)(hR:Gb S rs=r):Post E rs (fun v _=>v=r) .ret S := ⟨S,.refl S,aB,fun i=>.gone (S.h i).ep,fun i=>.inl rfl,fun D _=>⟨_,rfl⟩,hR⟩
theorem AW.retp{rs:List ARes}{r:Aa}{S:Ay}{Q:Exit->Ay->Prop}(hq:Q .ret=Post E rs (fun v _=>v=r) .ret)(aB:FD S rs)(hR:Gb S rs=r):AW E ρ P .ret Q S :=
 .ret (by rw[hq];exact .pure aB hR)
theorem AW.rets{rs:List ARes}{r:Aa}{S S':Ay}{Q:Exit->Ay->Prop}(hq:Q .ret=Post E rs (fun v _=>v=r) .ret)(s:See E S S')(aB:FD S' rs)(hR:Gb S' rs=r):AW E ρ P .ret Q S :=
 .see s (.retp hq aB hR)
theorem FF.pure{f:FuncId}{args:List Aa}{h:Ax}{K:Aa->List Nat->Prop}(v:Aa)(H:AY E P f args v)(k:K v []):FF E P f args h K:=⟨v,[],H.on h [],k⟩
theorem AY.call{f:FuncId}{args:List Aa}{r:Aa}(H:AY E P f args r){h:Ax}{K:Aa->Ax->Prop}(k:K r h):ATr E P f args h K := (H h).mono (by rintro _ _ ⟨rfl,rfl⟩;exact k)
theorem Pure.still{f:FuncId}{args:List Aa}{r:Aa}(H:Pure E P f args r)(hE:∀i,AC (E i))(ha:∀x,x∈args->AC x)(hr:AC r):AY E P f args r:=H.any hE ha hr
theorem Pure.of{f:FuncId}{fn:Func}{c:Code}{ac:AX}{args:List Aa}{r:Aa}{rs:List ARes}(hf:P.funcs[f]?=some fn)(hb:fn.body=some c)(hr:Dm P fn.results.toList rs=true)(hc:AA P c ac=true)(n:Nat) (hn:fn.ntmps-args.length=n) (hw:AW E none P ac (Post E rs (fun v _=>v=r)) ⟨args++List.replicate n .top,h0,[]⟩):Pure E P f args r :=
 ATr.of hf hb hr hc n hn hw
end
def fz1(id:Nat)(o:Ai):Aa->Aa
 | .ptr i ep off=>if i=id then(match o with
  |.box ep' cs=>if ep=ep' then .cptr (fun k=>cs.getD k .top) cs.length off else .top
  | _=>.top) else .ptr i ep off
 | .vec i ep lo n=>if i=id then(match o with
  |.vec ep' st m f=>if ep=ep'/\lo+n<=m then .slc st n (fun k=>f (lo+k)) else .top
  | _=>.top) else .vec i ep lo n
 |x=>x
mutual
def fzv(id:Nat)(o:Ai):Aa->Aa
 |.agg l=>.agg (fzl id o l)
 |.tup l=>.tup (fzl id o l)
 |.fn f nb l=>.fn f nb (fzl id o l)
 |.cnd c x=>.cnd c (fzv id o x)
 |x=>fz1 id o x
def fzl(id:Nat)(o:Ai):List Aa->List Aa
 |[]=>[]
 |x :: l=>fzv id o x :: fzl id o l
end
theorem W0(id:Nat)(o:Ai)(x:Aa):FV id o x (fz1 id o x):=by
 unfold fz1;split
 ·split
  ·rename_i e;subst e;split
   ·split;·rename_i e;subst e;exact .box _ _ _ _ rfl fun _ _=>rfl
    ·exact .top _
   ·exact .top _
  ·exact .refl _
 ·split
  ·rename_i e;subst e;split
   ·split;·rename_i e;obtain⟨rfl,e⟩:=e;exact .vec _ _ _ _ _ _ _ rfl e fun _ _=>rfl
    ·exact .top _
   ·exact .top _
  ·exact .refl _
 ·exact .refl _
mutual
theorem W1(id:Nat)(o:Ai):∀x,FV id o x (fzv id o x)
 |.agg l=>.aggl (Gr id o l)
 |.tup l=>.tupl (Gr id o l)
 |.fn f nb l=>.fn _ _ _ _ (Gr id o l).at.1 (Gr id o l).at.2
 |.cnd c x=>.cnd _ _ _ (W1 id o x)
 |.top=>.refl _
 |.int _ _=>.refl _
 |.bool _=>.refl _
 |.str _=>.refl _
 |.nils=>.refl _
 |.slc _ _ _=>.refl _
 |.vec i ep lo n=>W0 id o (.vec i ep lo n)
 |.ptr i ep off=>W0 id o (.ptr i ep off)
 |.eptr _ _ _ _=>.refl _
 |.cptr _ _ _=>.refl _
 |.nilp=>.refl _
 |.nilfn=>.refl _
 |.yld _ _=>.refl _
 |.mp _ _=>.refl _
 |.nilmp=>.refl _
theorem Gr(id:Nat)(o:Ai):∀l,FVl id o l (fzl id o l)
 |[]=>trivial
 |x :: l=>⟨W1 id o x,Gr id o l⟩
end
def fzo(id:Nat)(o:Ai):Ai->Ai
 |.box e l=>.box e (fzl id o l)
 |x=>x
section
variable {E:Nat->Aa}{P:Program}{ρ:Option Nat}{Q:Exit->Ay->Prop}{S:Ay}
theorem See.fz(id:Nat)(aP:(S.h id).owned=true)(bB:(S.h id).plain):See E S ⟨fzl id (S.h id) S.t,hset S.h id (.gone ((S.h id).ep+1)),S.ds⟩ :=
 .freeze (o:=S.h id) rfl aP bB (by simp[hset]) (fun j hj=>by simp[hset,hj];exact .inl rfl) (Gr _ _ _) rfl
theorem AW.fz{c:AX}(id:Nat)(aP:(S.h id).owned=true)(bB:(S.h id).plain)(h:AW E ρ P c Q ⟨fzl id (S.h id) S.t,hset S.h id (.gone ((S.h id).ep+1)),S.ds⟩):AW E ρ P c Q S:=.see (.fz id aP bB) h
theorem See.fzc(id:Nat)(aP:(S.h id).owned=true)(bB:(S.h id).plain):See E S ⟨fzl id (S.h id) S.t,hset (fun j=>fzo id (S.h id) (S.h j)) id (.gone ((S.h id).ep+1)),S.ds⟩ :=
 .freeze (o:=S.h id) rfl aP bB (by simp[hset]) (fun j hj=>by simp only[hset,hj,Df];cases hh:S.h j<;>simp only[fzo]<;>first|exact .inl rfl|exact .inr (.inl ⟨_,_,_,rfl,rfl,Gr _ _ _⟩)) (Gr _ _ _) rfl
theorem AW.fzc{c:AX}(id:Nat)(aP:(S.h id).owned=true)(bB:(S.h id).plain)(h:AW E ρ P c Q ⟨fzl id (S.h id) S.t,hset (fun j=>fzo id (S.h id) (S.h j)) id (.gone ((S.h id).ep+1)),S.ds⟩):AW E ρ P c Q S:=.see (.fzc id aP bB) h
end
inductive AR(F:List Nat):Aa->Prop where
 |top:AR F .top
 |int (k:IntKind) (n:Int):AR F (.int k n)
 |bool (b:Bool):AR F (.bool b)
 |str (s:List UInt8):AR F (.str s)
 |agg (l:List Aa) (h:∀x,x∈l->AR F x):AR F (.agg l)
 |tup (l:List Aa) (h:∀x,x∈l->AR F x):AR F (.tup l)
 |nils:AR F .nils
 |slc (st n:Nat) (f:Nat->List Aa) (h:∀i x,i<n->x∈f i->AR F x):AR F (.slc st n f)
 |vec (id ep lo n:Nat) (h:id∈F):AR F (.vec id ep lo n)
 |ptr (id ep off:Nat) (h:id∈F):AR F (.ptr id ep off)
 |eptr (id ep i off:Nat) (h:id∈F):AR F (.eptr id ep i off)
 |mp (id ep:Nat) (h:id∈F):AR F (.mp id ep)
 |cptr (f:Nat->Aa) (lim off:Nat) (h:∀j,j<lim->AR F (f j)):AR F (.cptr f lim off)
 |nilp:AR F .nilp
 |fn (f:FuncId) (nb:Nat) (l:List Aa) (h:∀x,x∈l->AR F x):AR F (.fn f nb l)
 |nilfn:AR F .nilfn
 |nilmp:AR F .nilmp
 |cnd (c:Bool) (x:Aa) (h:AR F x):AR F (.cnd c x)
structure GAg(F:List Nat)(g gx:Gh):Prop where
 fz:∀b,g.fz b->gx.fz b
 pl:∀i,i∈F->gx.blk i=g.blk i/\gx.ep i=g.ep i/\gx.bo i=g.bo i/\gx.st i=g.st i/\gx.cp i=g.cp i
theorem Hc.ag{g gx:Gh}{id lo n:Nat}{v:Value}(h:gx.blk id=g.blk id/\gx.ep id=g.ep id/\gx.bo id=g.bo id/\gx.st id=g.st id/\gx.cp id=g.cp id)(hv:Hc g id lo n v):Hc gx id lo n v:=by obtain⟨h1,_,h3,h4,h5⟩:=h;obtain⟨a,cap,e,hc,hh⟩:=hv;exact⟨a,cap,e,hc,by rw[h1,h3,h4,h5];exact hh⟩
theorem RV.ag{F:List Nat}{g gx:Gh}{w:World}(hA:GAg F g gx){x:Aa}{v:Value}(h:RV g w x v)(hn:AR F x):RV gx w x v:=by
 induction h with
 |top v=>exact .top v
 |int k n=>exact .int k n
 |bool b=>exact .bool b
 |str s b h=>exact .str s b h
 |agg l a hl _ ih=>cases hn with | agg _ hn=>exact .agg l a hl fun i x v hx hv=>ih i x v hx hv (hn x (BH hx))
 |tup l a hl _ ih=>cases hn with | tup _ hn=>exact .tup l a hl fun i x v hx hv=>ih i x v hx hv (hn x (BH hx))
 |nils=>exact .nils
 |slc0 st f a cap=>exact .slc0 st f a cap
 |slc st n f b off cap vals hz aQ hl hc h1 _ ih =>cases hn with | slc _ _ _ hn=>exact .slc st n f b off cap vals (hA.fz b hz) aQ hl hc h1 fun i j x hi hx=>ih i j x hi hx (hn i x hi (BH hx))
 |vec id ep lo n v h1 he h =>cases hn with | vec _ _ _ _ hm =>have ha:=hA.pl id hm;exact .vec id ep lo n v h1 (by rw[ha.2.1];exact he) fun e=>(h (by rw[<-ha.2.1];exact e)).ag ha
 |ptr id ep off v h1 he h =>cases hn with | ptr _ _ _ hm =>have ha:=hA.pl id hm;exact .ptr id ep off v h1 (by rw[ha.2.1];exact he) fun e=>by rw[ha.1];exact h (by rw[<-ha.2.1];exact e)
 |eptr id ep i off v h1 he h =>cases hn with | eptr _ _ _ _ hm =>have ha:=hA.pl id hm;exact .eptr id ep i off v h1 (by rw[ha.2.1];exact he) fun e=>by rw[ha.1,ha.2.2.1,ha.2.2.2.1];exact h (by rw[<-ha.2.1];exact e)
 |cptr f lim off b base vals hz hc _ ih =>cases hn with | cptr _ _ _ hn=>exact .cptr f lim off b base vals (hA.fz b hz) hc fun j hj=>ih j hj (hn j hj)
 |nilp=>exact .nilp
 |fn f nb caps a hl _ ih=>cases hn with | fn _ _ _ hn=>exact .fn f nb caps a hl fun i x v hx hv=>ih i x v hx hv (hn x (BH hx))
 |nilfn=>exact .nilfn
 |yld=>cases hn
 |mp id ep v h1 he h =>cases hn with | mp _ _ hm =>have ha:=hA.pl id hm;exact .mp id ep v h1 (by rw[ha.2.1];exact he) fun e=>by rw[ha.1];exact h (by rw[<-ha.2.1];exact e)
 |nilmp=>exact .nilmp
 |cnd c x v _ h0 ih=>cases hn with | cnd _ _ hn=>exact .cnd c x v (fun e=>ih e hn) h0
theorem RVs.ag{F:List Nat}{g gx:Gh}{w:World}(hA:GAg F g gx){l:List Aa}{a:List Value}(h:RVs g w l a)(hn:∀x,x∈l->AR F x):RVs gx w l a := ⟨h.1,fun i x v hx hv=>(h.2 i x v hx hv).ag hA (hn x (BH hx))⟩
def Kt(F:List Nat):Ai->Prop
 |.gone _=>True
 |.box _ cs=>∀x,x∈cs->AR F x
 |.vec _ _ n f=>∀k x,k<n->x∈f k->AR F x
 |.amap _ es=>∀e,e∈es->AR F e.1/\AR F e.2
 |_=>False
theorem OR.ag{F:List Nat}{g gx:Gh}{w:World}(hA:GAg F g gx){i:Nat}(hi:i∈F){o:Ai}(h:OR g w i o)(hn:Kt F o):OR gx w i o:=by
 have ha:=hA.pl i hi;cases o with
 |gone e=>trivial
 |box e cs =>obtain⟨arr,ty,hb,hr⟩:=h;exact⟨arr,ty,by rw[ha.1];exact hb,hr.ag hA hn⟩
 |vec e st n f =>
  obtain⟨h1,h2,h3,arr,ty,hb,hf,aT⟩:=h
  exact⟨ha.2.2.2.1.trans h1,h2,by rw[ha.2.2.2.2];exact h3,arr,ty,by rw[ha.1];exact hb,by rw[ha.2.2.1,ha.2.2.2.2];exact hf,
   fun k hk=>⟨(aT k hk).1,fun j x v hx hv=>⟨((aT k hk).2 j x v hx (by rw[<-ha.2.2.1];exact hv)).1,((aT k hk).2 j x v hx (by rw[<-ha.2.2.1];exact hv)).2.ag hA (hn k x hk (BH hx))⟩⟩⟩
 |amap e es =>obtain⟨arr,hb,hs,aT⟩:=h;exact⟨arr,by rw[ha.1];exact hb,hs,fun k x m hx hm=>⟨(aT k x m hx hm).1.ag hA (hn x (BH hx)).1,(aT k x m hx hm).2.1.ag hA (hn x (BH hx)).2,(aT k x m hx hm).2.2⟩⟩
 |_=>cases hn
theorem AC.refs{F:List Nat}{x:Aa}(h:AC x):AR F x:=by
 induction h with
 |top=>exact .top
 |int k n=>exact .int k n
 |bool b=>exact .bool b
 |str s=>exact .str s
 |agg l _ ih=>exact .agg l ih
 |tup l _ ih=>exact .tup l ih
 |nils=>exact .nils
 |slc st n f _ ih=>exact .slc st n f ih
 |cptr f lim off _ ih=>exact .cptr f lim off ih
 |nilp=>exact .nilp
 |fn f nb l _ ih=>exact .fn f nb l ih
 |nilfn=>exact .nilfn
 |nilmp=>exact .nilmp
 |cnd c x _ ih=>exact .cnd c x ih
theorem ATr.frame{E:Nat->Aa}{P:Program}{f:FuncId}{args:List Aa}{r:Aa}{F:List Nat}{hs:Ax}(hE:∀i,AC (E i))(gj:∀i,i∉F->hs i=.gone 0)(ha:∀x,x∈args->AR F x)(ho:∀i,i∈F->Kt F (hs i))(hr:AC r)(H:ATr E P f args hs (fun v h'=>v=r/\∀i,i∈F->h' i=hs i)):C9 E P f args hs F r:=by
 intro h bV g w vs hh hv
 let g0:Gh:=⟨fun i=>if i∈F then g.blk i else 0,fun i=>if i∈F then g.ep i else 0,fun i=>if i∈F then g.bo i else 0,fun i=>if i∈F then g.st i else 0,fun i=>if i∈F then g.cp i else 0,g.fz⟩
 have hA:GAg F g g0:=⟨fun _ h=>h,fun i hi=>⟨Aq hi,Aq hi,Aq hi,Aq hi,Aq hi⟩⟩
 have own:∀i,(hs i).owned=true->i∈F:=fun i hi=>by
  by_cases e:i∈F
  ·exact e
  ·rw[gj i e]at hi;cases hi
 have H0:HR E g0 hs w:=by
  refine⟨fun i=>?_,fun i=>?_,fun i j hi hj e=>?_,fun i hi=>?_,hh.fzb,fun i=>(hh.glob i).ag hA (hE i).refs⟩
  ·by_cases e:i∈F;·have:=hh.obj i;rw[bV i e]at this;exact this.ag hA e (ho i e)
   ·rw[gj i e];trivial
  ·by_cases e:i∈F;·show(if i∈F then g.ep i else 0)=_;rw[Aq e,hh.ep i,bV i e]
   ·show(if i∈F then g.ep i else 0)=_;rw[Ak e,gj i e];rfl
  ·have h1:=own i hi;have h2:=own j hj;have e':(if i∈F then g.blk i else 0)=(if j∈F then g.blk j else 0):=e;rw[Aq h1,Aq h2]at e';exact hh.inj i j (by rw[bV i h1];exact hi) (by rw[bV j h2];exact hj) e'
  ·have h1:=own i hi;show ¬g.fz (if i∈F then g.blk i else 0);rw[Aq h1];exact hh.sep i (by rw[bV i h1];exact hi)
 refine(H g0 w vs H0 (hv.ag hA ha)).mono ?_;rintro e w' ⟨g',h',_,v,⟨rfl,hF⟩,rfl,bt,hH,st⟩
 have cm:∀i,i∈F->g'.blk i=g.blk i/\g'.ep i=g.ep i/\g'.bo i=g.bo i/\g'.st i=g.st i/\g'.cp i=g.cp i:=fun i hi=>by
  have e1:g'.ep i=g0.ep i:=by rw[hH.ep i,hF i hi,H0.ep i]
  obtain⟨a,b,c,d⟩:=st.le.same i e1;obtain⟨a',b',c',d',e'⟩:=hA.pl i hi;exact⟨a.trans a',e1.trans b',b.trans c',c.trans d',d.trans e'⟩
 have aY:∀b,b<w.heap.size->(∀i,i∈F->(hs i).owned=true->g.blk i≠b)->w'.heap[b]?=w.heap[b]?:=fun b hb hn=>st.keep b hb fun i hi e=>by have h1:=own i hi;have e':(if i∈F then g.blk i else 0)=b:=e;rw[Aq h1]at e';exact hn i h1 hi e'
 let g2:Gh:=⟨g.blk,g.ep,g.bo,g.st,g.cp,g'.fz⟩
 have i9:GAg F g' g2:=⟨fun _ h=>h,fun i hi=>by obtain⟨a,b,c,d,e⟩:=cm i hi;exact⟨a.symm,b.symm,c.symm,d.symm,e.symm⟩⟩;have aD:GLe g w g2 w':=⟨fun b hb=>st.le.fz b hb,fun _=>AD _,fun _ _=>⟨rfl,rfl,rfl,rfl⟩⟩;refine⟨g2,h,_,v,⟨rfl,rfl⟩,rfl,RV.ag (F:=[]) (g:=g') (gx:=g2) ⟨fun _ h=>h,fun i hi=>by cases hi⟩ bt hr.refs,?_,⟨aD,st.os,st.tape,st.output,st.size,fun b hb hn=>aY b hb fun i hi cN=>hn i (by rw[bV i hi];exact cN),fun i ho=>.inl ⟨i,ho,rfl⟩,fun b hb=>?_,st.drawn⟩⟩
 ·refine⟨fun i=>?_,hh.ep,hh.inj,fun i hi hf=>?_,hH.fzb,fun i=>(hh.glob i).mono aD⟩
  ·by_cases e:i∈F;·have:=hH.obj i;rw[hF i e]at this;rw[bV i e];exact this.ag i9 e (ho i e)
   ·refine(hh.obj i).mono aD rfl fun ho=>aY _ ((hh.obj i).lt ho) fun j hj kj ej=>?_;have:=hh.inj j i (by rw[bV j hj];exact kj) ho ej;exact e (this▸hj)
  ·have fe:g'.fz (g.blk i):=hf;rcases st.fzn _ fe with h1|⟨j,hj,ej⟩|h3
   ·exact hh.sep i hi h1
   ·have dm:=own j hj;have ej':(if j∈F then g.blk j else 0)=g.blk i:=ej;rw[Aq dm]at ej';have dV:=hh.inj j i (by rw[bV j dm];exact hj) hi ej';subst dV;refine hH.sep j (by rw[hF j dm];exact hj) ?_;rw[(cm j dm).1];exact fe
   ·have:g.blk i<w.heap.size:=(hh.obj i).lt hi;omega
 ·rcases st.fzn b hb with h1|⟨j,hj,ej⟩|h3;·exact .inl h1
  ·have dm:=own j hj;have ej':(if j∈F then g.blk j else 0)=b:=ej;rw[Aq dm]at ej';exact .inr (.inl ⟨j,by rw[bV j dm];exact hj,ej'⟩)
  ·exact .inr (.inr h3)
section
variable {E:Nat->Aa}{P:Program}{ρ:Option Nat}{Q:Exit->Ay->Prop}{S S1:Ay}
theorem NL.mono{c:Bool}{t:List Aa}{h:Ax}{ds:List (Nat×Nat)}{xs:List Ac}{f:FuncId}{args:List Aa}{K K':Aa->Ax->Prop}(H:NL E P c t h ds xs f args K)(k:∀v h',K v h'->K' v h'):NL E P c t h ds xs f args K':=by
 rcases H with ⟨v,h1,h2⟩|⟨h1,h2⟩
 ·exact .inl ⟨v,h1,k _ _ h2⟩
 ·exact .inr ⟨fun e=>⟨(h1 e).1,(h1 e).2.mono fun v h' hk=>⟨hk.1,k _ _ hk.2⟩⟩,fun e=>k _ _ (h2 e)⟩
theorem BN.imp{id ep:Nat}{args:List Aa}{h:Ax}{K K':Aa->Ax->Prop}(R:BN E P id ep args h K)(hk:∀r h',K r h'->K' r h'):BN E P id ep args h K':=by obtain⟨ts,ps,asg,body,D,eD,h1,h2,h3⟩:=R;refine⟨ts,ps,asg,body,D,eD,h1,h2,fun ρ=>(h3 ρ).mono ?_⟩;rintro e S ⟨he,hid,hb⟩;refine⟨he,hid,hb.mono ?_⟩;intro e' S' hp;cases e'<;>first|exact⟨hp.1,hk _ _ hp.2⟩|exact hp
theorem Gl.mono{x:Aa}{h:Ax}{K K':Aa->Ax->Prop}(H:Gl x h K)(k:∀v h',K v h'->K' v h'):Gl x h K':=by
 unfold Gl at H ⊢;split at H
 ·split at H
  ·split at H;·exact⟨H.1,H.2.1,H.2.2.1,fun i hi hs=>k _ _ (H.2.2.2.1 i hi hs),fun hs=>k _ _ (H.2.2.2.2 hs)⟩
   ·exact H
  ·exact⟨H.1,k _ _ H.2⟩
  ·exact H
 ·exact H
theorem aop.mono{o:As}{K K':Ay->Prop}(H:aop E P o S K)(k:∀S',K S'->K' S'):aop E P o S K':=by
 unfold aop at H ⊢;split at H
 ·split at H;·exact H.mono fun v h' hk=>⟨hk.1,k _ hk.2⟩
  ·split at H;·exact⟨H.1,H.2.mono fun v h' hk=>⟨hk.1,k _ hk.2⟩⟩
   ·exact H.imp fun v h' hk=>⟨hk.1,k _ hk.2⟩
   ·exact H
  ·exact H.mono fun v h' hk=>k _ hk
  ·exact⟨H.1,k _ H.2⟩
 ·split at H;·exact H
  ·split at H;·exact H.mono fun v h' hk=>k _ hk
   ·refine⟨fun e=>k _ (H.1 e),fun e=>?_⟩;have H2:=H.2 e;split at H2
    ·exact⟨H2.1,H2.2.mono fun v h' hk=>k _ hk⟩
    ·exact⟨fun e=>⟨(H2.1 e).1,(H2.1 e).2.imp fun v h' hk=>⟨hk.1,k _ hk.2⟩⟩,fun e=>k _ (H2.2 e)⟩
    ·exact H2
   ·exact H
   ·exact⟨H.1,H.2.1,k _ H.2.2⟩
theorem areg.mono:∀{l:List As} {S:Ay} {K K':Ay->Prop},areg E P l S K->(∀S',K S'->K' S')->areg E P l S K'
 |[],S,K,K',H,k=>k _ H
 |o :: r,S,K,K',H,k=>aop.mono (H:aop E P o S (fun S'=>areg E P r S' K)) fun S' h'=>areg.mono h' k
theorem dop.mono{o:As}{K K':Aa->List Nat->Option (Nat×Ai)->Prop}(H:dop E P o S K)(k:∀v rd out,K v rd out->K' v rd out):dop E P o S K':=by
 unfold dop at H ⊢;split at H
 ·split at H;·obtain⟨v,rd,h1,h2⟩:=H;exact⟨v,rd,h1,k _ _ _ h2⟩
  ·split at H;·obtain⟨he,v,rd,h1,h2⟩:=H;exact⟨he,v,rd,h1,k _ _ _ h2⟩
   ·exact H
  ·exact⟨H.1,k _ _ _ H.2⟩
 ·split at H;·exact H
  ·split at H;·obtain⟨v,rd,h1,h2⟩:=H;exact⟨v,rd,h1,k _ _ _ h2⟩
   ·refine⟨fun e=>k _ _ _ (H.1 e),fun e=>?_⟩;have H2:=H.2 e;split at H2
    ·obtain⟨he,v,rd,h1,h2⟩:=H2;exact⟨he,v,rd,h1,k _ _ _ h2⟩
    ·exact H2
   ·exact⟨H.1,H.2.1,k _ _ _ H.2.2⟩
theorem dreg.mono:∀{l:List As} {S:Ay} {K K':Ay->List (List Nat×Option Nat)->Prop},dreg E P l S K->(∀S' tr,K S' tr->K' S' tr)->dreg E P l S K'
 |[],S,K,K',H,k=>k _ _ H
 |o :: r,S,K,K',H,k=>dop.mono (H:dop E P o S _) fun v rd out h'=>dreg.mono h' fun S' tr hk=>k _ _ hk
theorem AW.r1{ops:List As}{pr:List (List Nat)}(h:areg E P ops S (fun S'=>S'=S1))(k:Q .normal S1):AW E ρ P (.reg false ops pr) Q S:=.reg (h.mono fun S' e=>e▸k)
theorem AW.sr{ops:List As}{pr:List (List Nat)}{b:AX}(h:areg E P ops S (fun S'=>S'=S1))(k:AW E ρ P b Q S1):AW E ρ P (.seq (.reg false ops pr) b) Q S:=.seq (.r1 h k)
theorem AW.if'{c:Ac}{a b:AX}(t:Bool)(hc:Ae E S.t c=.bool t)(ht:t=true->AW E ρ P a Q S)(hf:t=false->AW E ρ P b Q S):AW E ρ P (.cond c a b) Q S:=.cond hc ht hf
def qzsg(live:List Nat):Nat->List Aa->List Aa
 |_,[]=>[]
 |i,x :: l=>(bif live.contains i then x else .top) :: qzsg live (i+1) l
end
theorem Aa.one_int{k:IntKind}{n:Int}:Aa.one (.int k n)=true:=rfl
theorem Aa.one_bool{b:Bool}:Aa.one (.bool b)=true:=rfl
theorem Aa.one_str{s:List UInt8}:Aa.one (.str s)=true:=rfl
theorem Aa.one_nils :Aa.one .nils=true:=rfl
theorem Aa.one_slc{st n:Nat}{f:Nat->List Aa}:Aa.one (.slc st n f)=true:=rfl
theorem Aa.one_vec{i e o n:Nat}:Aa.one (.vec i e o n)=true:=rfl
theorem Aa.one_ptr{i e o:Nat}:Aa.one (.ptr i e o)=true:=rfl
theorem Aa.one_eptr{i e k o:Nat}:Aa.one (.eptr i e k o)=true:=rfl
theorem Aa.one_cptr{f:Nat->Aa}{l o:Nat}:Aa.one (.cptr f l o)=true:=rfl
theorem Aa.one_nilp :Aa.one .nilp=true:=rfl
theorem Aa.one_fn{f:FuncId}{nb:Nat}{l:List Aa}:Aa.one (.fn f nb l)=true:=rfl
theorem Aa.one_nilfn :Aa.one .nilfn=true:=rfl
theorem Aa.one_mp{i e:Nat}:Aa.one (.mp i e)=true:=rfl
theorem Aa.one_nilmp :Aa.one .nilmp=true:=rfl
theorem Ku{k:IntKind}{n:Int}:unv (.int k n)=(.int k n):=rfl
theorem Kv{k:IntKind}{n:Int}{c:Bool}:unc c (.int k n)=True:=rfl
theorem Kw{b:Bool}:unv (.bool b)=(.bool b):=rfl
theorem Kx{b:Bool}{c:Bool}:unc c (.bool b)=True:=rfl
theorem Ky{s:List UInt8}:unv (.str s)=(.str s):=rfl
theorem Kz{s:List UInt8}{c:Bool}:unc c (.str s)=True:=rfl
theorem K0 :unv .nils=.nils:=rfl
theorem K2{c:Bool}:unc c .nils=True:=rfl
theorem K3{st n:Nat}{f:Nat->List Aa}:unv (.slc st n f)=(.slc st n f):=rfl
theorem K4{st n:Nat}{f:Nat->List Aa}{c:Bool}:unc c (.slc st n f)=True:=rfl
theorem K5{i e o n:Nat}:unv (.vec i e o n)=(.vec i e o n):=rfl
theorem K6{i e o n:Nat}{c:Bool}:unc c (.vec i e o n)=True:=rfl
theorem K7{i e o:Nat}:unv (.ptr i e o)=(.ptr i e o):=rfl
theorem K8{i e o:Nat}{c:Bool}:unc c (.ptr i e o)=True:=rfl
theorem K9{i e k o:Nat}:unv (.eptr i e k o)=(.eptr i e k o):=rfl
theorem KA{i e k o:Nat}{c:Bool}:unc c (.eptr i e k o)=True:=rfl
theorem KB{f:Nat->Aa}{l o:Nat}:unv (.cptr f l o)=(.cptr f l o):=rfl
theorem KC{f:Nat->Aa}{l o:Nat}{c:Bool}:unc c (.cptr f l o)=True:=rfl
theorem KD :unv .nilp=.nilp:=rfl
theorem KE{c:Bool}:unc c .nilp=True:=rfl
theorem KF{f:FuncId}{nb:Nat}{l:List Aa}:unv (.fn f nb l)=(.fn f nb l):=rfl
theorem KG{f:FuncId}{nb:Nat}{l:List Aa}{c:Bool}:unc c (.fn f nb l)=True:=rfl
theorem KH :unv .nilfn=.nilfn:=rfl
theorem KI{c:Bool}:unc c .nilfn=True:=rfl
theorem KJ{i e:Nat}:unv (.mp i e)=(.mp i e):=rfl
theorem KK{i e:Nat}{c:Bool}:unc c (.mp i e)=True:=rfl
theorem KL :unv .nilmp=.nilmp:=rfl
theorem KM{c:Bool}:unc c .nilmp=True:=rfl
theorem KN{l:List Aa}:unv (.agg l)=(.agg l):=rfl
theorem KO{l:List Aa}{c:Bool}:unc c (.agg l)=True:=rfl
theorem KP{l:List Aa}:unv (.tup l)=(.tup l):=rfl
theorem KQ{l:List Aa}{c:Bool}:unc c (.tup l)=True:=rfl
theorem KR :unv .top=.top:=rfl
theorem KS{c:Bool}:unc c .top=True:=rfl
theorem KT{d:Bool}{x:Aa}:unv (.cnd d x)=x:=rfl
theorem KU{c d:Bool}{x:Aa}:unc c (.cnd d x)=(c=true->d=true):=rfl
open Go.ChangeShapes
inductive Sh where
 |int (k:IntKind)
 |bool
 |str
 |slc (e:List Sh)
inductive ShOk(N:Nat):Sh->Aa->Prop where
 |int (k:IntKind) (n:Int) (h1:k.min<=n) (h2:n<=k.max):ShOk N (.int k) (.int k n)
 |bool (b:Bool):ShOk N .bool (.bool b)
 |str (s:List UInt8) (h:s.length<=N):ShOk N .str (.str s)
 |slc (e:List Sh) (n:Nat) (f:Nat->List Aa) (hn:n<=N) (hl:∀i,i<n->(f i).length=e.length) (h:∀(i j:Nat) (s:Sh) (x:Aa),i<n->e[j]?=some s->(f i)[j]?=some x->ShOk N s x):ShOk N (.slc e) (.slc e.length n f)
def CV(N:Nat)(ss:List Sh)(xs:List Aa):Prop:=xs.length=ss.length/\∀(j:Nat) (s:Sh) (x:Aa),ss[j]?=some s->xs[j]?=some x->ShOk N s x
theorem CV.nil{N:Nat}:CV N [] []:=⟨rfl,fun j s x h=>by simp at h⟩
theorem CV.one{N:Nat}{s:Sh}{x:Aa}(h:ShOk N s x):CV N [s] [x]:=by
 refine⟨rfl,fun j s' x' h1 h2=>?_⟩;cases j with
 |zero=>simp at h1 h2;subst h1;subst h2;exact h
 |succ j=>simp at h1
theorem CV.append{N:Nat}{ss ss':List Sh}{xs xs':List Aa}(h:CV N ss xs)(h':CV N ss' xs'):CV N (ss++ss') (xs++xs'):=by
 refine⟨by simp[h.1,h'.1],fun j s x h1 h2=>?_⟩;by_cases hj:j<ss.length
 ·rw[FU hj]at h1;rw[FU (by rw[h.1];exact hj)]at h2;exact h.2 j s x h1 h2
 ·rw[Ir (by omega)]at h1;rw[Ir (by rw[h.1];omega),h.1]at h2;exact h'.2 _ s x h1 h2
theorem CV.cons_inv{N:Nat}{s:Sh}{ss:List Sh}{xs:List Aa}(h:CV N (s :: ss) xs):∃x xs',xs=x :: xs'/\ShOk N s x/\CV N ss xs':=by
 cases xs with
 |nil=>have:=h.1;simp at this
 |cons x xs=>exact⟨x,xs,rfl,h.2 0 s x rfl rfl,by have:=h.1;simpa using this,fun j s' x' h1 h2=>h.2 (j+1) s' x' (by simpa using h1) (by simpa using h2)⟩
theorem CV.nil_inv{N:Nat}{xs:List Aa}(h:CV N [] xs):xs=[]:=Gbt.1 h.1
theorem ShOk.int_inv{N:Nat}{k:IntKind}{x:Aa}(h:ShOk N (.int k) x):∃n,x=.int k n/\k.min<=n/\n<=k.max:=by cases h;exact⟨_,rfl,by assumption,by assumption⟩
theorem ShOk.bool_inv{N:Nat}{x:Aa}(h:ShOk N .bool x):∃b,x=.bool b:=by cases h;exact⟨_,rfl⟩
theorem ShOk.str_inv{N:Nat}{x:Aa}(h:ShOk N .str x):∃s,x=.str s/\s.length<=N:=by cases h;exact⟨_,rfl,by assumption⟩
theorem ShOk.slc_inv{N:Nat}{e:List Sh}{x:Aa}(h:ShOk N (.slc e) x):∃n f,x=.slc e.length n f/\n<=N/\∀i,i<n->CV N e (f i):=by
 cases h with
 |slc _ n f hn hl h=>exact⟨n,f,rfl,hn,fun i hi=>⟨hl i hi,fun j s x h1 h2=>h i j s x hi h1 h2⟩⟩
section
variable (P:Program)
def rep{U:Type}(s:List U):Nat->List U
 |0=>[]
 |n+1=>s++rep s n
mutual
def Gs:Nat->TypeId->Option (List Sh)
 |0,_=>none
 |n+1,t=>match P.underlying t with
  |some .bool=>some [.bool]
  |some (.int k)=>some [.int k]
  |some .string=>some [.str]
  |some (.slice e)=>match Gs n e with
   |some s=>if P.cellsOf e=s.length/\0<s.length then some [.slc s] else none
   |none=>none
  |some (.struct fs)=>FG n (P.cellsOf t) fs.toList 0
  |some (.array m e)=>match Gs n e with
   |some s=>if P.cellsOf e=s.length/\P.cellsOf t=m*s.length then some (rep s m) else none
   |none=>none
  |_=>none
def FG:Nat->Nat->List Field->Nat->Option (List Sh)
 |0,_,_,_=>none
 |n+1,c,[],off=>if off=c then some [] else none
 |n+1,c,f :: r,off=>match Gs n f.type with
  | some s=>if f.offset=off/\P.cellsOf f.type=s.length then(match FG n c r (off+s.length) with
   |some q=>some (s++q)
   | none=>none) else none
  |none=>none
end
end
theorem IL{U β:Type}(f:U->Option β):∀(l:List U) (m:List β),l.mapM f=some m->m.length=l.length/\∀(i:Nat) (x:U) (y:β),l[i]?=some x->m[i]?=some y->f x=some y
 |[],m,h=>by simp at h;subst h;exact⟨rfl,fun i x y hx=>by simp at hx⟩
 |a :: l,m,h=>by
  rw[List.mapM_cons]at h;cases ha:f a with
  |none=>rw[ha]at h;cases h
  |some b =>
   rw[ha]at h;cases hl:l.mapM f with
   |none=>rw[hl]at h;cases h
   |some bs =>
    rw[hl]at h;have e:b :: bs=m:=by simpa using h
    subst e;obtain⟨h1,h2⟩:=IL f l bs hl;refine⟨by simp[h1],fun i x y hx hy=>?_⟩;cases i with
    |zero=>simp at hx hy;subst hx;subst hy;exact ha
    |succ i=>exact h2 i x y (by simpa using hx) (by simpa using hy)
theorem KV{U β:Type}{f g:U->Option β}:∀{l:List U} {m:List β},l.mapM f=some m->(∀(i:Nat) (x:U) (y:β),l[i]?=some x->m[i]?=some y->f x=some y->g x=some y)->l.mapM g=some m
 |[],m,h,_=>by simpa using h
 |a :: l,m,h,k=>by
  rw[List.mapM_cons]at h ⊢;cases ha:f a with
  |none=>rw[ha]at h;cases h
  |some b =>
   rw[ha]at h;cases hl:l.mapM f with
   |none=>rw[hl]at h;cases h
   |some bs =>
    rw[hl]at h;have e:b :: bs=m:=by simpa using h
    subst e;rw[k 0 a b rfl rfl ha,KV hl fun i x y hx hy=>k (i+1) x y (by simpa using hx) (by simpa using hy)];rfl
theorem QZ{n i:Nat}(h:i<n):(List.range n)[i]?=some i:=by simp[h]
section
variable {H:Type}{enc:TypeId×Value->H}{P:Program}{w w':World}
theorem qzu6{a:Addr}{n:Nat}{cs:List Value}(h:w.cells? 0 a n=some cs):cs.length=n/\∀i v,cs[i]?=some v->w.cell? (a.add i)=some v:=by
 unfold World.cells? at h;rw[Aq (Fv _)]at h;obtain⟨h1,h2⟩:=IL _ _ _ h;simp only[Qv]at h1;refine⟨h1,fun i v hv=>?_⟩;have hi:i<n:=by have:=(AU.1 hv).1;omega
 exact h2 i i v (QZ hi) hv
theorem W2{a:Addr}{v:Value}(h:w.cell? a=some v):a.spot=none/\a.block<w.heap.size:=by
 unfold World.cell? at h;split at h
 ·rename_i hb;split at h
  ·cases h
  ·rename_i hs;exact⟨by simpa using hs,(Ef.1 hb).1⟩
 ·cases h
mutual
def Bn{H:Type}:DataW H->Nat
 |.lit (.string bytes)=>bytes.length+1
 |.lit _=>1
 |.nil=>1
 |.ptr d=>Bn d+1
 |.slice elems spare=>dBulkAll elems+dBulkAll spare+1
 |.agg parts=>dBulkAll parts+1
 |.iface _ d=>Bn d+1
 |.map entries=>NS entries+1
 |.held _=>1
def dBulkAll{H:Type}:List (DataW H)->Nat
 |[]=>0
 |d :: r=>Bn d+dBulkAll r
def NS{H:Type}:List (Lit×DataW H)->Nat
 |[]=>0
 |x :: r=>Ra x+NS r
def Ra{H:Type}:Lit×DataW H->Nat
 |(.string bytes,d)=>bytes.length+Bn d+1
 |(_,d)=>Bn d+1
end
theorem jzmq(d:DataW H):1<=Bn d:=by
 cases d with
 |lit l=>cases l<;>simp[Bn]
 |_=>simp[Bn]
theorem NT:∀{l:List (DataW H)} {d:DataW H},d∈l->Bn d<=dBulkAll l
 |a :: l,d,h=>by
  rw[dBulkAll];rcases AM.1 h with rfl|h
  ·omega
  ·have:=NT h;omega
theorem W3:∀(l:List (DataW H)),l.length<=dBulkAll l
 |[]=>AD _
 |a :: l=>by rw[dBulkAll,DL];have:=jzmq a;have:=W3 l;omega
theorem qzwi{N:Nat}{g:Gh}(hg:∀b,b<w.heap.size->g.fz b){sp:Nat->Bool}{held:Bool}:∀(m fuel:Nat), (∀(t:TypeId) (cs:List Value) (d:DataW H) (ps:List MemPlace) (ss:List Sh),DataW.trod enc P w 0 sp held fuel t cs=some (d,ps)->Gs P m t=some ss->(maxLen<=N\/Bn d<=N) -> (∀v∈cs,v.oneCell'=true)/\∃xs,RVs g w xs cs/\CV N ss xs) /\
  (∀(fs:List Field) (c off:Nat) (cs:List Value) (res:List (DataW H×List MemPlace)) (ss:List Sh),cs.length=c->FG P m c fs off=some ss ->
   fs.mapM (fun f=>DataW.trod enc P w 0 sp held fuel f.type ((cs.drop f.offset).take (P.cellsOf f.type)))=some res->(maxLen<=N\/∀x∈res,Bn x.1<=N)->(∀v∈cs.drop off,v.oneCell'=true)/\∃xs,RVs g w xs (cs.drop off)/\CV N ss xs):=by
 intro m;induction m with
 |zero=>intro fuel;exact⟨fun t cs d ps ss _ h=>by simp[Gs]at h,fun fs c off cs res ss _ h=>by simp[FG]at h⟩
 |succ m ih =>
  intro fuel;constructor
  ·intro t cs d ps ss h hs hN;cases fuel with
   |zero=>simp[DataW.trod]at h
   |succ fuel =>
   obtain⟨ih1,ih2⟩:=ih fuel;unfold DataW.trod at h;unfold Gs at hs;cases hu:P.underlying t with
   |none=>rw[hu]at hs;cases hs
   |some de =>
   rw[hu]at h hs;cases de<;>simp only at hs<;>(try (cases hs;done))
   case bool =>
    rcases cs with _|⟨v,_|⟨v',r⟩⟩
    ·cases h
    ·cases v<;>(try (cases h;done))
     case bool b =>cases hs;exact⟨by simp[Value.oneCell'],[.bool b],.cons (.bool b) (.nil g w),.one (.bool b)⟩
    ·cases v<;>cases h
   case int k =>
    rcases cs with _|⟨v,_|⟨v',r⟩⟩
    ·cases h
    ·cases v<;>(try (cases h;done))
     case int k' n =>
      simp only at h;split at h
      ·rename_i hk;obtain⟨rfl,hw⟩:=hk;cases hs;simp only[Lit.wf,AE,CO]at hw;exact⟨by simp[Value.oneCell'],[.int _ n],.cons (.int _ n) (.nil g w),.one (.int _ n hw.1 hw.2)⟩
      ·cases h
    ·cases v<;>cases h
   case string =>
    rcases cs with _|⟨v,_|⟨v',r⟩⟩
    ·cases h
    ·cases v<;>(try (cases h;done))
     case string s =>
      simp only at h;split at h
      ·rename_i hl;cases hs;cases h
       have d6:s.data.toList.length<=N:=by
        rcases hN with hN|hN
        ·have:s.data.toList.length<=maxLen:=(by simpa using hl);omega
        ·simp only[Bn]at hN;omega
       exact⟨by simp[Value.oneCell'],[.str s.data.toList],.cons (.str _ s rfl) (.nil g w),.one (.str _ d6)⟩
      ·cases h
    ·cases v<;>cases h
   case slice e =>
    rcases cs with _|⟨v,_|⟨v',r⟩⟩
    ·cases h
    ·cases v<;>(try (cases h;done))
     case slice ao len cap =>
      cases ao with
      |none =>
       have gb:len=0/\cap=0:=by
        rcases len with _|len
        ·rcases cap with _|cap;·exact⟨rfl,rfl⟩
         ·cases h
        ·cases h
       obtain⟨rfl,rfl⟩:=gb;split at hs
       ·split at hs;·cases hs;exact⟨by simp[Value.oneCell'],[.slc _ 0 (fun _=>[])],.cons (.slc0 _ _ _ _) (.nil g w),.one (.slc _ 0 _ (Fv _) (fun i hi=>by omega) (fun i j s x hi=>by omega))⟩
        ·cases hs
       ·cases hs
      |some a =>
       simp only at h;split at hs
       ·rename_i s eE;split at hs
        ·rename_i cb;obtain⟨eF,ce⟩:=cb;cases hs;split at h
         ·rename_i hb;obtain⟨_,mQ,kl⟩:=hb;refine⟨by simp[Value.oneCell'],?_⟩;simp only[Option.bind_eq_some_iff,UM]at h;obtain⟨elems,aT,rest,cR,heq⟩:=h;obtain⟨dM,gO⟩:=IL _ _ _ aT;simp only[Qv]at dM;have hd:DataW.slice (elems.map Prod.fst) (rest.map Prod.fst)=d:=(Prod.mk.inj heq).1
          have lC:len<=N:=by
           rcases hN with hN|hN
           ·omega
           ·rw[<-hd,Bn]at hN;have:=W3 (elems.map Prod.fst);rw[Fy]at this;omega
          have km:maxLen<=N\/∀y∈elems,Bn y.1<=N:=by
           rcases hN with hN|hN
           ·exact .inl hN
           ·refine .inr fun y hy=>?_;rw[<-hd,Bn]at hN;have:=NT (UJ (f:=Prod.fst) hy);omega
          by_cases h0:len=0
          ·subst h0;exact⟨[.slc _ 0 (fun _=>[])],.cons (.slc0 _ _ _ _) (.nil g w),.one (.slc _ 0 _ (Fv _) (fun i hi=>by omega) (fun i j s x hi=>by omega))⟩
          have each:∀i,i<len->∃row:List Value,row.length=s.length/\(∀j v,row[j]?=some v->w.cell? ((a.add (i*P.cellsOf e)).add j)=some v)/\(∀v∈row,v.oneCell'=true)/\∃xs,RVs g w xs row/\CV N s xs:=(by intro i hi;have h1:=gO i i _ (QZ hi) (AG (by omega:i<elems.length));obtain⟨row,hr,ht⟩:=Option.bind_eq_some_iff.1 h1;obtain⟨r1,r2⟩:=qzu6 hr;obtain⟨o1,o2⟩:=ih1 e row _ _ s ht eE (km.imp id fun h=>h _ (GW _));exact⟨row,by omega,r2,o1,o2⟩);obtain⟨row0,r01,r02,_,_⟩:=each 0 (by omega);have eG:a.spot=none/\a.block<w.heap.size:=by have:=r02 0 _ (AG (by omega:0<row0.length));have:=W2 this;simpa [Addr.add] using this
          have rowx:∀i,∃p:List Value×List Aa,i<len->p.1.length=s.length/\(∀j v,p.1[j]?=some v->w.cell? ((a.add (i*P.cellsOf e)).add j)=some v)/\(∀v∈p.1,v.oneCell'=true)/\RVs g w p.2 p.1/\CV N s p.2:=by
           intro i;by_cases hi:i<len
           ·obtain⟨row,a1,a2,a3,xs,a4,a5⟩:=each i hi;exact⟨(row,xs),fun _=>⟨a1,a2,a3,a4,a5⟩⟩
           ·exact⟨([],[]),fun h=>absurd h hi⟩
          let F:=fun i=>(rowx i).choose
          have hF:∀i,i<len->_:=fun i=>(rowx i).choose_spec;obtain⟨blk,off,spot⟩:=a;obtain⟨dh,cq⟩:=eG;simp only at dh cq;subst dh
          refine⟨[.slc s.length len (fun i=>(F i).2)],.cons (.slc s.length len _ blk off cap (fun i j=>(F i).1.getD j undef) (hg blk cq) mQ (fun i hi=>(hF i hi).2.2.2.2.1) (fun i j hi hj=>?_) (fun i j hi hj=>?_) (fun i j x hi hx=>?_)) (.nil g w),
           .one (.slc s len _ lC (fun i hi=>(hF i hi).2.2.2.2.1) (fun i j s' x hi h1 h2=>(hF i hi).2.2.2.2.2 j s' x h1 h2))⟩
          ·have h1:=(hF i hi).1;have aV:j<(F i).1.length:=(by show j<(rowx i).choose.1.length;omega);have h2:=(hF i hi).2.1 j _ (AG aV);have e1:((⟨blk,off,none⟩:Addr).add (i*P.cellsOf e)).add j=⟨blk,off+i*s.length+j,none⟩:=(by rw[eF];unfold Addr.add;by_cases a1:i*s.length=0<;>by_cases a2:j=0<;>simp[a1,a2,GX]);rw[e1]at h2;rw[h2];simp[List.getD,aV]
          ·have h1:=(hF i hi).1;have aV:j<(F i).1.length:=(by show j<(rowx i).choose.1.length;omega);have e2:(F i).1.getD j undef=(F i).1[j]:=(by simp[List.getD,aV]);rw[e2];exact(hF i hi).2.2.1 _ (GW aV)
          ·have h1:=(hF i hi).1;have h4:=(hF i hi).2.2.2.1;have hj:j<(F i).2.length:=(AU.1 hx).1;have aV:j<(F i).1.length:=(by have:(F i).1.length=(F i).2.length:=h4.1;omega);have e2:(F i).1.getD j undef=(F i).1[j]:=(by simp[List.getD,aV]);have e3:(F i).1[j]?=some (F i).1[j]:=AG aV;exact h4.2 j x _ hx (e3.trans (by rw[e2]))
         ·cases h
        ·cases hs
       ·cases hs
    ·cases v<;>first|(cases h;done)|(rename_i ao len cap;rcases ao with _|ao<;>rcases len with _|len<;>rcases cap with _|cap<;>cases h)
   case struct fs =>
    simp only at h;split at h
    ·rename_i aF;simp only[UM]at h;obtain⟨res,aU,heq⟩:=h;have hd:DataW.agg (res.map Prod.fst)=d:=(Prod.mk.inj heq).1;have:=ih2 fs.toList (P.cellsOf t) 0 cs res ss aF hs aU (hN.imp id fun hN x hx=>by rw[<-hd,Bn]at hN;have:=NT (UJ (f:=Prod.fst) hx);omega);simpa using this
    ·cases h
   case array n e =>
    simp only at h;split at hs
    ·rename_i s eE;split at hs
     ·rename_i cb;obtain⟨eF,oz⟩:=cb;cases hs;split at h
      ·rename_i aF;simp only[UM]at h;obtain⟨res,aU,heq⟩:=h;have hd:DataW.agg (res.map Prod.fst)=d:=(Prod.mk.inj heq).1;have km:maxLen<=N\/∀y∈res,Bn y.1<=N:=hN.imp id fun hN x hx=>by rw[<-hd,Bn]at hN;have:=NT (UJ (f:=Prod.fst) hx);omega
       obtain⟨dM,gO⟩:=IL _ _ _ aU;simp only[Qv]at dM
       have go:∀k i,i+k=n->(∀v∈cs.drop (i*s.length),v.oneCell'=true)/\∃xs,RVs g w xs (cs.drop (i*s.length))/\CV N (rep s k) xs:=by
        intro k;induction k with
        |zero =>
         intro i hi
         have:cs.drop (i*s.length)=[]:=by
          rw[Ga5];have:i=n:=by omega
          subst this;omega
         rw[this];exact⟨by simp,[],.nil g w,.nil⟩
        |succ k ihk =>
         intro i hi;obtain⟨t1,xs1,t2,t3⟩:=ihk (i+1) (by omega);have h1:=gO i i _ (QZ (by omega)) (AG (by omega:i<res.length));obtain⟨o1,xs0,o2,o3⟩:=ih1 e _ _ _ s h1 eE (km.imp id fun h=>h _ (GW _));have e1:(cs.drop (i*P.cellsOf e)).take (P.cellsOf e)++cs.drop ((i+1)*s.length)=cs.drop (i*s.length):=by rw[eF,Ga,<-Qn];exact Qp _ _
         rw[<-e1];exact⟨fun v hv=>(DJ.1 hv).elim (o1 v) (t1 v),xs0++xs1,o2.append t2,o3.append t3⟩
       have:=go n 0 (by omega);simpa using this
      ·cases h
     ·cases hs
    ·cases hs
  ·intro fs c off cs res ss aF hs aU hN;cases fs with
   |nil =>
    simp only[FG]at hs;split at hs
    ·rename_i ho;cases hs;have:cs.drop off=[]:=by rw[Ga5];omega
     rw[this];exact⟨by simp,[],.nil g w,.nil⟩
    ·cases hs
   |cons f r =>
    obtain⟨ih1,ih2⟩:=ih fuel;simp only[FG]at hs;split at hs
    ·rename_i s eE;split at hs
     ·rename_i cb;obtain⟨ho,eF⟩:=cb;split at hs
      ·rename_i q hq;cases hs;rw[List.mapM_cons]at aU;cases ha:DataW.trod enc P w 0 sp held fuel f.type ((cs.drop f.offset).take (P.cellsOf f.type)) with
       |none=>rw[ha]at aU;cases aU
       |some y =>
        rw[ha]at aU;cases hl:r.mapM (fun f=>DataW.trod enc P w 0 sp held fuel f.type ((cs.drop f.offset).take (P.cellsOf f.type))) with
        |none=>rw[hl]at aU;cases aU
        |some ys =>
         rw[hl]at aU;have e:y :: ys=res:=by simpa using aU
         subst e;obtain⟨o1,xs0,o2,o3⟩:=ih1 f.type _ y.1 y.2 s ha eE (hN.imp id fun h=>h y (Be ..));obtain⟨t1,xs1,t2,t3⟩:=ih2 r c (off+s.length) cs ys q aF hq hl (hN.imp id fun h x hx=>h x (Bi _ hx));have e1:(cs.drop f.offset).take (P.cellsOf f.type)++cs.drop (off+s.length)=cs.drop off:=by rw[eF,ho,<-Qn];exact Qp _ _
         rw[<-e1];exact⟨fun v hv=>(DJ.1 hv).elim (o1 v) (t1 v),xs0++xs1,o2.append t2,o3.append t3⟩
      ·cases hs
     ·cases hs
    ·cases hs
theorem wzdd{a:Addr}{n:Nat}(h:0<n):MemPlace.cell a.block a.off∈MemPlace.row a n:=by unfold MemPlace.row;rw[FX];exact⟨0,Fz.2 h,by simp⟩
theorem qztv(hh:∀b,b<w.heap.size->w'.heap[b]?=w.heap[b]?){a:Addr}{n:Nat}{cs:List Value}(h:w.cells? 0 a n=some cs):w'.cells? 0 a n=some cs:=by
 unfold World.cells? at h ⊢;rw[Aq (Fv _)]at h ⊢;refine KV h fun i x y _ _ hy=>?_;have hb:=(W2 hy).2;have e:(a.add x).block=a.block:=by unfold Addr.add;split<;>rfl
 have:=hh _ hb;unfold World.cell? at hy ⊢;rw[this];exact hy
theorem qzun(hh:∀b,b<w.heap.size->w'.heap[b]?=w.heap[b]?){sp:Nat->Bool}{held:Bool}:∀(m fuel:Nat),
  (∀(t:TypeId) (cs:List Value) (d:DataW H) (ps:List MemPlace) (ss:List Sh),DataW.trod enc P w 0 (fun _=>true) held fuel t cs=some (d,ps)->Gs P m t=some ss->(∀p∈ps,sp p.block=true) ->
   DataW.trod enc P w' 0 sp held fuel t cs=some (d,ps)) /\
  (∀(fs:List Field) (c off:Nat) (cs:List Value) (res:List (DataW H×List MemPlace)) (ss:List Sh),FG P m c fs off=some ss ->
   fs.mapM (fun f=>DataW.trod enc P w 0 (fun _=>true) held fuel f.type ((cs.drop f.offset).take (P.cellsOf f.type)))=some res->(∀x∈res,∀p∈x.2,sp p.block=true) ->
   fs.mapM (fun f=>DataW.trod enc P w' 0 sp held fuel f.type ((cs.drop f.offset).take (P.cellsOf f.type)))=some res):=by
 intro m;induction m with
 |zero=>intro fuel;exact⟨fun t cs d ps ss _ h=>by simp[Gs]at h,fun fs c off cs res ss h=>by simp[FG]at h⟩
 |succ m ih =>
  intro fuel;constructor
  ·intro t cs d ps ss h hs hp;cases fuel with
   |zero=>simp[DataW.trod]at h
   |succ fuel =>
   obtain⟨ih1,ih2⟩:=ih fuel;unfold DataW.trod at h ⊢;unfold Gs at hs;cases hu:P.underlying t with
   |none=>rw[hu]at hs;cases hs
   |some de =>
   rw[hu]at h hs;cases de<;>simp only at hs<;>(try (cases hs;done))
   case bool =>
    rcases cs with _|⟨v,_|⟨v',r⟩⟩
    ·cases h
    ·cases v<;>(try (cases h;done));exact h
    ·cases v<;>cases h
   case int k =>
    rcases cs with _|⟨v,_|⟨v',r⟩⟩
    ·cases h
    ·cases v<;>(try (cases h;done));exact h
    ·cases v<;>cases h
   case string =>
    rcases cs with _|⟨v,_|⟨v',r⟩⟩
    ·cases h
    ·cases v<;>(try (cases h;done));exact h
    ·cases v<;>cases h
   case slice e =>
    rcases cs with _|⟨v,_|⟨v',r⟩⟩
    ·cases h
    ·cases v<;>(try (cases h;done))
     case slice ao len cap =>
      cases ao with
      |none =>
       rcases len with _|len
       ·rcases cap with _|cap;·exact h
        ·cases h
       ·cases h
      |some a =>
       simp only at h ⊢;split at hs
       ·rename_i s eE;split at hs
        ·rename_i cb;obtain⟨eF,ce⟩:=cb;split at h
         ·rename_i hb;rw[Aq hb];simp only[Option.bind_eq_some_iff,BK,UM]at h;obtain⟨elems,aT,rest,cR,heq⟩:=h;obtain⟨dM,gO⟩:=IL _ _ _ aT;obtain⟨gG,eH⟩:=IL _ _ _ cR;simp only[Qv]at dM gG;simp only[De]at heq;obtain⟨hd,fp⟩:=heq;have sub:∀x∈elems++rest,∀p∈x.2,sp p.block=true:=fun x hx p gl=>hp p (by rw[<-fp];exact DJ.2 (.inr (List.mem_flatMap.2 ⟨x,hx,gl⟩)));have step:∀(i:Nat) (y:DataW H×List MemPlace),y∈elems++rest->(w.cells? 0 (a.add (i*P.cellsOf e)) (P.cellsOf e)).bind (DataW.trod enc P w 0 (fun _=>true) held fuel e)=some y -> (w'.cells? 0 (a.add (i*P.cellsOf e)) (P.cellsOf e)).bind (DataW.trod enc P w' 0 sp held fuel e)=some y:=by intro i y hy hi;obtain⟨row,h1,h2⟩:=Option.bind_eq_some_iff.1 hi;rw[qztv hh h1];exact ih1 e row y.1 y.2 s h2 eE (sub y hy)
          have dx:(List.range len).mapM (fun i=>(w'.cells? 0 (a.add (i*P.cellsOf e)) (P.cellsOf e)).bind (DataW.trod enc P w' 0 sp held fuel e))=some elems :=
           KV aT fun i x y hx hy bZ=>step x y (DJ.2 (.inl (BH hy))) bZ
          have dC:(if sp a.block=true then(List.range (cap-len)).mapM (fun j=>(w'.cells? 0 (a.add ((len+j)*P.cellsOf e)) (P.cellsOf e)).bind (DataW.trod enc P w' 0 sp held fuel e)) else some [])=some rest:=by
           by_cases eG:sp a.block=true
           ·rw[Aq eG];exact KV cR fun i x y hx hy bZ=>step (len+x) y (DJ.2 (.inr (BH hy))) bZ
           ·rw[Ak eG];by_cases hc:0<elems.length+rest.length
            ·exfalso;have jm:MemPlace.cell a.block a.off∈ps:=(by rw[<-fp];exact DJ.2 (.inl (wzdd (Nat.mul_pos hc (by omega)))));exact eG (hp _ jm)
            ·have:rest=[]:=Gbt.1 (by omega);rw[this]
          rw[dx];simp only[Option.bind_some];rw[dC];simp only[Ej,hd,fp]
         ·cases h
        ·cases hs
       ·cases hs
    ·cases v<;>first|(cases h;done)|(rename_i ao len cap;rcases ao with _|ao<;>rcases len with _|len<;>rcases cap with _|cap<;>cases h)
   case struct fs =>
    simp only at h ⊢;split at h
    ·rename_i aF;rw[Aq aF];simp only[UM]at h ⊢;obtain⟨res,aU,heq⟩:=h;refine⟨res,ih2 fs.toList (P.cellsOf t) 0 cs res ss hs aU fun x hx p gl=>hp p ?_,heq⟩;simp only[De]at heq;rw[<-heq.2];exact List.mem_flatMap.2 ⟨x,hx,gl⟩
    ·cases h
   case array n e =>
    simp only at h ⊢;split at hs
    ·rename_i s eE;split at hs
     ·split at h;·rename_i aF;rw[Aq aF];simp only[UM]at h ⊢;obtain⟨res,aU,heq⟩:=h;simp only[De]at heq;refine⟨res,KV aU fun i x y hx hy bZ=>ih1 e _ y.1 y.2 s bZ eE fun p gl=>hp p ?_,by simp[heq.1,heq.2]⟩;rw[<-heq.2];exact List.mem_flatMap.2 ⟨y,BH hy,gl⟩
      ·cases h
     ·cases hs
    ·cases hs
  ·intro fs c off cs res ss hs aU hp;cases fs with
   |nil=>simpa using aU
   |cons f r =>
    obtain⟨ih1,ih2⟩:=ih fuel;simp only[FG]at hs;split at hs
    ·rename_i s eE;split at hs
     ·split at hs
      ·rename_i q hq;rw[List.mapM_cons]at aU ⊢;cases ha:DataW.trod enc P w 0 (fun _=>true) held fuel f.type ((cs.drop f.offset).take (P.cellsOf f.type)) with
       |none=>rw[ha]at aU;cases aU
       |some y =>
        rw[ha]at aU;cases hl:r.mapM (fun f=>DataW.trod enc P w 0 (fun _=>true) held fuel f.type ((cs.drop f.offset).take (P.cellsOf f.type))) with
        |none=>rw[hl]at aU;cases aU
        |some ys =>
         rw[hl]at aU;have e:y :: ys=res:=by simpa using aU
         subst e;rw[ih1 f.type _ y.1 y.2 s ha eE (fun p gl=>hp y (Be ..) p gl),ih2 r c (off+s.length) cs ys q hq hl (fun x hx=>hp x (Bi _ hx))];rfl
      ·cases hs
     ·cases hs
    ·cases hs
end
open Go.ChangeShapes Go.WideShapes Go.ChangeAt Go.RowKit
def Gt(P:Program)(t:TypeId):Bool:=match P.underlying t with
 |some (.struct _) | some (.array _ _)=>true
 |_=>false
def W4(N:Nat)(P:Program)(m:Nat)(t:TypeId)(x:Aa):Prop:=∃ss,Gs P m t=some ss/\((Gt P t=true/\∃xs,x=.agg xs/\CV N ss xs)\/(Gt P t=false/\∃s,ss=[s]/\ShOk N s x))
def KW(N:Nat)(P:Program)(m:Nat):List TypeId->List Aa->Prop
 |[],[]=>True
 |t :: ts,x :: xs=>W4 N P m t x/\KW N P m ts xs
 |_,_=>False
section
variable {H:Type}{enc:TypeId×Value->H}{P:Program}{W W':World}
theorem qz3s{N:Nat}{g:Gh}(hg:∀b,b<W.heap.size->g.fz b){m:Nat}{r:Reach}{b0:Nat}{t:TypeId}{v:Value}{sp:Nat->Bool}{held:Bool}{d:DataW H}{ps:List MemPlace}(bq:Value.okWide P W r b0 t v)(h:DataW.Trod enc P W 0 sp held t v d ps)(hs:(Gs P m t).isSome=true)(hN:maxLen<=N\/Bn d<=N) : ∃x,RV g W x v/\W4 N P m t x:=by
 obtain⟨fuel,h⟩:=h;obtain⟨ss,gm⟩:=Option.isSome_iff_exists.1 hs;obtain⟨_,xs,hx,dP⟩:=(qzwi hg m fuel).1 t _ d ps ss h gm hN;by_cases ha:Gt P t=true
 ·have:∃cs,v=.agg cs:=by
   unfold Gt at ha;unfold Value.okWide at bq;split at ha<;>rename_i hu<;>first|(rw[hu]at bq;obtain⟨cs,e,_⟩:=bq;exact⟨cs,e⟩)|cases ha
  obtain⟨cs,rfl⟩:=this;exact⟨.agg xs,.agg xs cs (by simpa [Value.cells] using hx.1) (fun i x v h1 h2=>hx.2 i x v h1 (by simpa [Value.cells] using h2)),ss,gm,.inl ⟨ha,xs,rfl,dP⟩⟩
 ·have jn:Gt P t=false:=by simpa using ha
  have dy:v.cells.toList=[v]:=by
   cases v<;>first|rfl|skip
   case agg cs =>
    exfalso;unfold Gt at jn;unfold Value.okWide at bq;cases hu:P.underlying t with
    |none=>rw[hu]at bq;simp[Cell.okWide,Cell.ok,hu]at bq
    |some de =>rw[hu]at bq jn;cases de<;>simp[Cell.okWide,Cell.ok,hu]at bq jn
  rw[dy]at hx;have hl:=hx.1;simp only[Eh]at hl
  match xs,hl,hx,dP with
  |[x],_,hx,dP =>
   have h1:=dP.1;simp only[Eh]at h1
   match ss,h1,gm,dP with
   |[s],_,gm,dP=>exact⟨x,hx.2 0 x v rfl rfl,[s],gm,.inr ⟨jn,s,rfl,dP.2 0 s x rfl rfl⟩⟩
theorem W5{N:Nat}{g:Gh}(hg:∀b,b<W.heap.size->g.fz b){m:Nat}{r:Reach}{b0:Nat}{sp:Nat->Bool}{held:Bool}:∀{ts:List TypeId} {vs:List Value} {ds:List (DataW H)} {ps:List MemPlace}, (∀(j:Nat) t v,ts[j]?=some t->vs[j]?=some v->Value.okWide P W r b0 t v)->DataW.TrodAll enc P W 0 sp held ts vs ds ps->(∀t∈ts,(Gs P m t).isSome=true)->(maxLen<=N\/dBulkAll ds<=N)->∃xs,RVs g W xs vs/\KW N P m ts xs
 |[],vs,ds,ps,_,h,_,_=>by obtain⟨rfl,_,_⟩:=trodAll_nil h;exact⟨[],.nil _ _,trivial⟩
 |t :: ts,vs,ds,ps,hv,h,hs,hN=>by obtain⟨v,vs',d,ds',p,q,rfl,rfl,rfl,h1,h2⟩:=trodAll_cons h;obtain⟨x,hx,ha⟩:=qz3s hg (hv 0 t v rfl rfl) h1 (hs t (Be ..)) (hN.imp id fun h=>by rw[dBulkAll]at h;omega);obtain⟨xs,dR,mR⟩:=W5 hg (fun j t v h1 h2=>hv (j+1) t v (by simpa using h1) (by simpa using h2)) h2 (fun t ht=>hs t (Bi _ ht)) (hN.imp id fun h=>by rw[dBulkAll]at h;omega);exact⟨x :: xs,.cons hx dR,ha,mR⟩
theorem W6(hh:∀b,b<W.heap.size->W'.heap[b]?=W.heap[b]?){m:Nat}{sp:Nat->Bool}{held:Bool}:∀{ts:List TypeId} {vs:List Value} {ds:List (DataW H)} {ps:List MemPlace},
  DataW.TrodAll enc P W 0 (fun _=>true) held ts vs ds ps->(∀t∈ts,(Gs P m t).isSome=true)->(∀p∈ps,sp p.block=true)->DataW.TrodAll enc P W' 0 sp held ts vs ds ps
 |[],vs,ds,ps,h,_,_=>by obtain⟨rfl,rfl,rfl⟩:=trodAll_nil h;exact trodAll_mk0
 |t :: ts,vs,ds,ps,h,hs,hp=>by obtain⟨v,vs',d,ds',p,q,rfl,rfl,rfl,⟨fuel,h1⟩,h2⟩:=trodAll_cons h;obtain⟨ss,gm⟩:=Option.isSome_iff_exists.1 (hs t (Be ..));exact trodAll_cons_mk ⟨fuel,(qzun hh m fuel).1 t _ d p ss h1 gm fun x hx=>hp x (DJ.2 (.inl hx))⟩ (W6 hh h2 (fun t ht=>hs t (Bi _ ht)) (fun x hx=>hp x (DJ.2 (.inr hx))))
theorem law_contract{N:Nat}{E:Nat->Aa}{f:FuncId}{fn:Func}{s:ChangeSpec}{m:Nat}{tb:TypeId}{laid:List (String×DataW Unit)}{W:World}{base:Nat}{args:Array Value}{ds gs:List (DataW H)}{before:List MemPlace}(eI:∀t∈fn.params.toList,(Gs P m t).isSome=true) (aU:fn.resultTypes=#[tb]) (hb:P.underlying tb=some .bool) (fQ:s.vars=[])(eJ:∀ds:List (DataW H),ds.length=fn.params.toList.length->s.fn H ds={ results:=[.lit (.bool true)],args:=ds })(iA:∀g:Gh,(∀b,b<W.heap.size->g.fz b)->∀i,RV g W (E i) (.pointer (some ⟨i,0,none⟩)))(hN:maxLen<=N\/dBulkAll ds<=N)(law:∀xs,KW N P m fn.params.toList xs->AY E P f xs (.bool true))(bq:∀(j:Nat) t v,fn.params[j]?=some t->args[j]?=some v->Value.okWide P W .any base t v)(hW:DataW.Whole enc P fn.params.toList s.vars false W args.toList ds gs before) :
  Calls P f args W fun e W'=>∃v,e=.returned v/\s.post enc P fn false true false false W args v W':=by
 have lD:=hW;obtain⟨p,q,hA,hV,rfl,eZ,bK⟩:=hW;rw[fQ]at hV;obtain⟨rfl,rfl⟩:=trodVars_none hV
 let g:Gh:=⟨fun _=>0,fun _=>0,fun _=>0,fun _=>0,fun _=>0,fun b=>b<W.heap.size⟩
 have hg:∀b,b<W.heap.size->g.fz b:=fun b h=>h;obtain⟨xs,dR,aB⟩:=W5 hg (fun j t v h1 h2=>bq j t v (by simpa using h1) (by simpa using h2)) hA eI hN;have HR0:HR E g h0 W:=⟨fun _=>trivial,fun _=>rfl,(by intro i j hi;cases hi),(by intro i hi;cases hi),fun b hb=>hb,iA g hg⟩;have main:=law xs aB h0 g W args.toList HR0 dR;rw[JU]at main;refine main.mono ?_;rintro e W' ⟨g',h',r,v,⟨rfl,rfl⟩,rfl,bt,_,st⟩;cases bt;have hh:∀b,b<W.heap.size->W'.heap[b]?=W.heap[b]?:=fun b hb=>st.keep b hb (by intro i hi;cases hi);have aF:ds.length=fn.params.toList.length:=(trodAll_length hA).2;refine⟨_,rfl,ds,[],_,[],p,[],lD,?_,?_,?_,?_,fun h=>by cases h⟩
 ·rw[List.append_nil,eJ ds aF,aU];exact trodAll_cons_mk (shut_bool hb true) trodAll_mk0
 ·rw[List.append_nil,eJ ds aF];exact W6 hh hA eI fun x hx=>by simpa using lD.lt x (DJ.2 (.inl hx))
 ·rw[List.append_nil,eJ ds aF,fQ];exact rfl
 ·refine⟨st.os,st.output,fun i hi=>?_⟩;rw[hh i hi];cases W.heap[i]? with
  |none=>rfl
  |some o=>cases o<;>first | exact⟨rfl,rfl,rfl,fun _ _=>rfl⟩ | exact .inr ⟨rfl,rfl⟩ | rfl
end
def look:List (Nat×Aa)->Nat->Aa
 |[],_=>.top
 |p :: r,i=>if p.1=i then p.2 else look r i
def tl(m:List (Nat×Aa))(n:Nat):List Aa:=(List.range n).map (look m)
def DR:List (Nat×Ai)->Nat->Ai
 |[],_=>.gone 0
 |p :: r,i=>if p.1=i then p.2 else DR r i
def hl(m:List (Nat×Ai)):Ax:=fun i=>DR m i
theorem CX(m:List (Nat×Aa))(n:Nat):(tl m n).length=n:=by simp[tl]
theorem DS(m:List (Nat×Aa))(n i:Nat):(tl m n)[i]?=if i<n then some (look m i) else none:=by unfold tl;by_cases h:i<n<;>simp[h]
theorem IM(m:List (Nat×Aa))(n i:Nat):(tl m n)[i]?.getD .top=if i<n then look m i else .top:=by rw[DS];split<;>rfl
theorem IN(m:List (Nat×Aa))(n i:Nat):(tl m n).getD i .top=if i<n then look m i else .top:=by rw[Nu,IM]
theorem Hs(m:List (Nat×Aa))(n i:Nat)(v:Aa):(tl m n).set i v=tl ((i,v) :: m) n:=by
 apply Qo;intro j;rw[JW,CX,DS,DS];by_cases h:i=j
 ·subst h;simp[look]
 ·simp[h,look]
theorem KX(m:List (Nat×Ai))(i:Nat)(o:Ai):hset (hl m) i o=hl ((i,o) :: m):=by
 funext j;simp only[hset,hl,DR];by_cases h:j=i
 ·subst h;simp
 ·have h':¬i=j:=fun e=>h e.symm;simp[h,h']
theorem KY(m:List (Nat×Ai))(i:Nat):hl m i=DR m i:=rfl
def zipA:Nat->List Aa->List (Nat×Aa)
 |_,[]=>[]
 |i,x :: r=>(i,x) :: zipA (i+1) r
theorem W7:∀(l:List Aa) (k i:Nat),look (zipA k l) i=if k<=i then l.getD (i-k) .top else .top
 |[],k,i=>by simp[zipA,look]
 |x :: r,k,i=>by
  have ih:=W7 r (k+1) i;simp only[zipA,look];by_cases h:k=i
  ·subst h;simp
  ·rw[Ak h,ih];by_cases h1:k+1<=i
   ·rw[Aq h1,Aq (by omega)];obtain⟨d,hd⟩:∃d,i-k=d+1:=⟨i-k-1,by omega⟩;rw[hd,show i-(k+1)=d by omega];rfl
   ·rw[Ak h1,Ak (by omega)]
theorem Rb(l:List Aa)(k:Nat):l++List.replicate k .top=tl (zipA 0 l) (l.length+k):=by
 apply Qo;intro i;rw[DS,W7];simp only[Fv,BK,Nat.sub_zero];by_cases h:i<l.length
 ·rw[FU h,Aq (by omega)];simp[h]
 ·rw[Ir (by omega),List.getElem?_replicate];by_cases h2:i<l.length+k
  ·rw[Aq (by omega),Aq h2];simp[List.getD,JV (Nat.le_of_not_lt h)]
  ·rw[Ak (by omega),Ak h2]
def vsub(x:Aa):Aa->Prop
 |.top=>True
 |.int k b=>x=.int k b
 |.slc st n f=>(x=.nils/\n=0)\/∃f',x=.slc st n f'/\∀k,k<n->f k=f' k
 |y=>y=x
theorem wzdi{g:Gh}{w:World}{x y:Aa}{v:Value}(h:vsub x y)(hx:RV g w x v):RV g w y v:=by
 cases y with
 |top=>exact .top v
 |int k b=>have h:x=.int k b:=h;rw[<-h];exact hx
 |slc st n f =>
  rcases h with ⟨rfl,rfl⟩|⟨f',rfl,hf⟩
  ·cases hx;exact .slc0 _ _ _ _
  ·exact hx.sub (.inr (.inr ⟨_,_,_,_,rfl,rfl,hf⟩))
 |bool=>have h:_=x:=h;rw[h];exact hx
 |str=>have h:_=x:=h;rw[h];exact hx
 |agg=>have h:_=x:=h;rw[h];exact hx
 |tup=>have h:_=x:=h;rw[h];exact hx
 |nils=>have h:_=x:=h;rw[h];exact hx
 |vec=>have h:_=x:=h;rw[h];exact hx
 |ptr=>have h:_=x:=h;rw[h];exact hx
 |eptr=>have h:_=x:=h;rw[h];exact hx
 |cptr=>have h:_=x:=h;rw[h];exact hx
 |nilp=>have h:_=x:=h;rw[h];exact hx
 |fn=>have h:_=x:=h;rw[h];exact hx
 |nilfn=>have h:_=x:=h;rw[h];exact hx
 |yld=>have h:_=x:=h;rw[h];exact hx
 |mp=>have h:_=x:=h;rw[h];exact hx
 |nilmp=>have h:_=x:=h;rw[h];exact hx
 |cnd=>have h:_=x:=h;rw[h];exact hx
theorem kzkz{k k':IntKind}{a b:Int}:vsub (.int k a) (.int k' b)↔k=k'/\a=b:=by simp[vsub]
theorem kzkx{st n st' n':Nat}{f f':Nat->List Aa}:vsub (.slc st n f) (.slc st' n' f')↔st=st'/\n=n'/\∀k,k<n'->f' k=f k:=by
 simp only[vsub,Aa.slc.injEq];constructor
 ·rintro(⟨h,_⟩|⟨g,⟨rfl,rfl,rfl⟩,h⟩);·cases h
  ·exact⟨rfl,rfl,h⟩
 ·rintro⟨rfl,rfl,h⟩;exact .inr ⟨f,⟨rfl,rfl,rfl⟩,h⟩
theorem kzko{st n:Nat}{f:Nat->List Aa}:vsub .nils (.slc st n f)↔n=0:=by simp[vsub]
theorem kznm{x:Aa}:vsub x .top↔True:=Iff.rfl
theorem W8(x:Aa):vsub x x:=by cases x<;>simp[vsub]
def subm(m:List (Nat×Aa)):List (Nat×Aa)->Prop
 |[]=>True
 |p :: r=>vsub (look m p.1) p.2/\subm m r
theorem W9{g:Gh}{w:World}{m:List (Nat×Aa)}:∀{r:List (Nat×Aa)},subm m r->∀i v,RV g w (look m i) v->RV g w (look r i) v
 |[],_,i,v,_=>.top v
 |p :: r,h,i,v,hv=>by
  simp only[look];split
  ·rename_i e;subst e;exact wzdi h.1 hv
  ·exact W9 h.2 i v hv
theorem wzef{g:Gh}{w:World}{m m':List (Nat×Aa)}{n:Nat}{a:List Value}(h:subm m m')(hv:RVs g w (tl m n) a):RVs g w (tl m' n) a:=by
 refine⟨by rw[hv.1,CX,CX],fun i x v hx hy=>?_⟩;rw[DS]at hx;split at hx
 ·rename_i hi;simp only[AZ]at hx;subst hx;exact W9 h i v (hv.2 i _ v (by rw[DS,Aq hi]) hy)
 ·cases hx
def osub(o:Ai):Ai->Prop
 |.gone e=>e=o.ep
 |.box e l=>o=.box e l
 |.vec e st n f=>∃f',o=.vec e st n f'/\∀k,k<n->f k=f' k
 |o'=>o'=o
theorem wzd5{o o':Ai}(h:osub o o'):OSub o o':=by
 cases o' with
 |gone e=>exact .inl (by have h:e=o.ep:=h;rw[h])
 |box e l=>exact .inr (.inl (Eq.symm (h:o=.box e l)))
 |vec e st n f =>obtain⟨f',rfl,hf⟩:=h;exact .inr (.inr ⟨_,_,_,_,_,rfl,rfl,hf⟩)
 |loop=>exact .inr (.inl h)
 |dfr=>exact .inr (.inl h)
 |amap=>exact .inr (.inl h)
 |miter=>exact .inr (.inl h)
theorem kzlr{e:Nat}{o:Ai}:osub o (.gone e)↔e=o.ep:=Iff.rfl
theorem kzme{e e':Nat}{l l':List Aa}:osub (.box e l) (.box e' l')↔e=e'/\l=l':=by simp[osub]
theorem kzmd{e st n e' st' n':Nat}{f f':Nat->List Aa}:osub (.vec e st n f) (.vec e' st' n' f')↔e=e'/\st=st'/\n=n'/\∀k,k<n'->f' k=f k:=by
 simp only[osub,Ai.vec.injEq];constructor
 ·rintro⟨g,⟨rfl,rfl,rfl,rfl⟩,h⟩;exact⟨rfl,rfl,rfl,h⟩
 ·rintro⟨rfl,rfl,rfl,h⟩;exact⟨f,⟨rfl,rfl,rfl,rfl⟩,h⟩
theorem WA(o:Ai):osub o o:=by cases o<;>simp[osub,Ai.ep]
def subh(m:List (Nat×Ai)):List (Nat×Ai)->Prop
 |[]=>True
 |p :: r=>osub (DR m p.1) p.2/\subh m r
def JY(m:List (Nat×Ai))(r:List (Nat×Ai)):Bool:=m.all fun p=>r.any fun q=>q.1==p.1
theorem NU{m:List (Nat×Ai)}{i:Nat}(h:m.all (fun p=>!(p.1==i))=true):DR m i=.gone 0:=by
 induction m with
 |nil=>rfl
 |cons p r ih =>simp only[List.all_cons,AE,GV,beq_eq_false_iff_ne,ne_eq]at h;simp only[DR,Ak h.1];exact ih (by simpa using h.2)
theorem WB{m:List (Nat×Ai)}:∀{r:List (Nat×Ai)},subh m r->∀i,r.any (fun q=>q.1==i)=true->OSub (DR m i) (DR r i)
 |[],_,i,h=>by simp at h
 |p :: r,h,i,hi=>by
  simp only[DR];split
  ·rename_i e;subst e;exact wzd5 h.1
  ·rename_i e;refine WB h.2 i ?_;simpa [e] using hi
theorem wzfa{m m':List (Nat×Ai)}(h:subh m m')(hk:JY m m'=true)(i:Nat):OSub (hl m i) (hl m' i):=by
 show OSub (DR m i) (DR m' i);by_cases h1:m'.any (fun q=>q.1==i)=true
 ·exact WB h i h1
 ·have h2:m.all (fun p=>!(p.1==i))=true:=by
   rw[Dw];intro p hp;unfold JY at hk;rw[Dw]at hk;have:=hk p hp;cases e:(p.1==i)
   ·rfl
   ·exfalso;have e':p.1=i:=(by simpa using e);subst e';exact h1 this
  rw[NU h2,NU (by
   rw[Dw];intro p hp;cases e:(p.1==i)
   ·rfl
   ·exfalso;exact h1 (List.any_eq_true.2 ⟨p,hp,e⟩))]
  exact .refl _
def pick(m:List (Nat×Aa)):List Nat->List (Nat×Aa)
 |[]=>[]
 |i :: r=>(i,look m i) :: pick m r
theorem WC(m:List (Nat×Aa)):∀l,subm m (pick m l)
 |[]=>trivial
 |i :: r=>⟨W8 _,WC m r⟩
def NV(m:List (Nat×Ai)):List Nat->List (Nat×Ai)
 |[]=>[]
 |i :: r=>(i,DR m i) :: NV m r
theorem WD(m:List (Nat×Ai)):∀l,subh m (NV m l)
 |[]=>trivial
 |i :: r=>⟨WA _,WD m r⟩
section
variable {E:Nat->Aa}{P:Program}{ρ:Option Nat}{Q:Exit->Ay->Prop}{S:Ay}{m m':List (Nat×Aa)}{hm bu:List (Nat×Ai)}{n:Nat}
theorem See.sp(h1:subm m m')(h2:subh hm bu)(h3:JY hm bu=true):See E ⟨tl m n,hl hm,[]⟩ ⟨tl m' n,hl bu,[]⟩:=by refine .trans (S':=⟨tl m' n,hl hm,[]⟩) (fun g a w hs=>⟨g,⟨hs.hr,wzef h1 hs.tm,hs.df,hs.dk,hs.dn⟩,.refl _ _ _⟩) ?_;exact .of_sub ⟨.refl _,fun i=>wzfa h2 h3 i,rfl,by intro D hD;cases hD⟩
theorem AW.srk(live ids:List Nat){ops:List As}{pr:List (List Nat)}{b:AX}(h:areg E P ops S (fun S'=>S'=⟨tl m n,hl hm,[]⟩))(e1:pick m live=m')(e2:NV hm ids=bu)(e3:JY hm bu=true)(k:AW E ρ P b Q ⟨tl m' n,hl bu,[]⟩):AW E ρ P (.seq (.reg false ops pr) b) Q S:=.sr h (.see (.sp (e1▸WC m live) (e2▸WD hm ids) e3) k)
theorem AW.lp{c:AX}{U:Type}(im:U->List (Nat×Aa))(ih:U->List (Nat×Ai))(J:U->Nat)(I:U->Prop)(x₀:U)(h₀:I x₀)(s1:subm m (im x₀))(s2:subh hm (ih x₀))(s3:JY hm (ih x₀)=true)(round:∀x,I x->AW E ρ P c (AL (fun S'=>∃x',I x'/\J x'<J x/\See E S' ⟨tl (im x') n,hl (ih x'),[]⟩) Q) ⟨tl (im x) n,hl (ih x),[]⟩):AW E ρ P (.loop c) Q ⟨tl m n,hl hm,[]⟩ :=
 .loop (fun x=>⟨tl (im x) n,hl (ih x),[]⟩) J I x₀ h₀ (.sp s1 s2 s3) round
theorem Pure.ofs{f:FuncId}{fn:Func}{c:Code}{ac:AX}{args:List Aa}{r:Aa}{rs:List ARes}(hf:P.funcs[f]?=some fn)(hb:fn.body=some c)(hr:Dm P fn.results.toList rs=true)(hc:AA P c ac=true)(hm:zipA 0 args=m) (hn:fn.ntmps=n) (aD:args.length<=n) (hw:AW E none P ac (Post E rs (fun v _=>v=r)) ⟨tl m n,hl [],[]⟩):Pure E P f args r :=
 .of hf hb hr hc (n-args.length) (by omega) (by rw[Rb,hm,show args.length+(n-args.length)=n by omega];exact hw)
end
theorem KZ{l:List Aa}:Cz (.agg l)=some l:=rfl
theorem La{k:IntKind}{n:Int}:Cz (.int k n)=some [(.int k n)]:=rfl
theorem Lb{b:Bool}:Cz (.bool b)=some [(.bool b)]:=rfl
theorem Lc{s:List UInt8}:Cz (.str s)=some [(.str s)]:=rfl
theorem Ld :Cz .nils=some [.nils]:=rfl
theorem Le{st n:Nat}{f:Nat->List Aa}:Cz (.slc st n f)=some [(.slc st n f)]:=rfl
theorem Lf{i e o n:Nat}:Cz (.vec i e o n)=some [(.vec i e o n)]:=rfl
theorem Lg{i e o:Nat}:Cz (.ptr i e o)=some [(.ptr i e o)]:=rfl
theorem Lh{i e k o:Nat}:Cz (.eptr i e k o)=some [(.eptr i e k o)]:=rfl
theorem Li{f:Nat->Aa}{l o:Nat}:Cz (.cptr f l o)=some [(.cptr f l o)]:=rfl
theorem Lj :Cz .nilp=some [.nilp]:=rfl
theorem Lk{f:FuncId}{nb:Nat}{l:List Aa}:Cz (.fn f nb l)=some [(.fn f nb l)]:=rfl
theorem Ll :Cz .nilfn=some [.nilfn]:=rfl
theorem Lm{i e:Nat}:Cz (.mp i e)=some [(.mp i e)]:=rfl
theorem Ln :Cz .nilmp=some [.nilmp]:=rfl
theorem ATr.frameW{E:Nat->Aa}{P:Program}{f:FuncId}{args:List Aa}{r:Aa}{F:List Nat}{hs ht:Ax}(hE:∀i,AC (E i))(gj:∀i,i∉F->hs i=.gone 0)(ha:∀x,x∈args->AR F x)(ho:∀i,i∈F->Kt F (hs i))(dF:∀i,i∈F->Kt F (ht i))(bF:∀i,i∈F->(ht i).ep=(hs i).ep)(aP:∀i,i∈F->(ht i).owned=(hs i).owned)(hr:AC r)(H:ATr E P f args hs (fun v h'=>v=r/\∀i,i∈F->h' i=ht i)) (h:Ax) (bV:∀i,i∈F->h i=hs i):ATr E P f args h (fun v h'=>v=r/\h'=fun i=>if i∈F then ht i else h i):=by
 intro g w vs hh hv
 let g0:Gh:=⟨fun i=>if i∈F then g.blk i else 0,fun i=>if i∈F then g.ep i else 0,fun i=>if i∈F then g.bo i else 0,fun i=>if i∈F then g.st i else 0,fun i=>if i∈F then g.cp i else 0,g.fz⟩
 have hA:GAg F g g0:=⟨fun _ h=>h,fun i hi=>⟨Aq hi,Aq hi,Aq hi,Aq hi,Aq hi⟩⟩
 have own:∀i,(hs i).owned=true->i∈F:=fun i hi=>by
  by_cases e:i∈F
  ·exact e
  ·rw[gj i e]at hi;cases hi
 have H0:HR E g0 hs w:=by
  refine⟨fun i=>?_,fun i=>?_,fun i j hi hj e=>?_,fun i hi=>?_,hh.fzb,fun i=>(hh.glob i).ag hA (hE i).refs⟩
  ·by_cases e:i∈F;·have:=hh.obj i;rw[bV i e]at this;exact this.ag hA e (ho i e)
   ·rw[gj i e];trivial
  ·by_cases e:i∈F;·show(if i∈F then g.ep i else 0)=_;rw[Aq e,hh.ep i,bV i e]
   ·show(if i∈F then g.ep i else 0)=_;rw[Ak e,gj i e];rfl
  ·have h1:=own i hi;have h2:=own j hj;have e':(if i∈F then g.blk i else 0)=(if j∈F then g.blk j else 0):=e;rw[Aq h1,Aq h2]at e';exact hh.inj i j (by rw[bV i h1];exact hi) (by rw[bV j h2];exact hj) e'
  ·have h1:=own i hi;show ¬g.fz (if i∈F then g.blk i else 0);rw[Aq h1];exact hh.sep i (by rw[bV i h1];exact hi)
 refine(H g0 w vs H0 (hv.ag hA ha)).mono ?_;rintro e w' ⟨g',h',_,v,⟨rfl,hF⟩,rfl,bt,hH,st⟩
 have cm:∀i,i∈F->g'.blk i=g.blk i/\g'.ep i=g.ep i/\g'.bo i=g.bo i/\g'.st i=g.st i/\g'.cp i=g.cp i:=fun i hi=>by
  have e1:g'.ep i=g0.ep i:=by rw[hH.ep i,hF i hi,bF i hi,H0.ep i]
  obtain⟨a,b,c,d⟩:=st.le.same i e1;obtain⟨a',b',c',d',e'⟩:=hA.pl i hi;exact⟨a.trans a',e1.trans b',b.trans c',c.trans d',d.trans e'⟩
 have aY:∀b,b<w.heap.size->(∀i,i∈F->(hs i).owned=true->g.blk i≠b)->w'.heap[b]?=w.heap[b]?:=fun b hb hn=>st.keep b hb fun i hi e=>by have h1:=own i hi;have e':(if i∈F then g.blk i else 0)=b:=e;rw[Aq h1]at e';exact hn i h1 hi e'
 let g2:Gh:=⟨g.blk,g.ep,g.bo,g.st,g.cp,g'.fz⟩
 have i9:GAg F g' g2:=⟨fun _ h=>h,fun i hi=>by obtain⟨a,b,c,d,e⟩:=cm i hi;exact⟨a.symm,b.symm,c.symm,d.symm,e.symm⟩⟩;have aD:GLe g w g2 w':=⟨fun b hb=>st.le.fz b hb,fun _=>AD _,fun _ _=>⟨rfl,rfl,rfl,rfl⟩⟩;refine⟨g2,_,_,v,⟨rfl,rfl⟩,rfl,RV.ag (F:=[]) (g:=g') (gx:=g2) ⟨fun _ h=>h,fun i hi=>by cases hi⟩ bt hr.refs,?_,⟨aD,st.os,st.tape,st.output,st.size,fun b hb hn=>aY b hb fun i hi cN=>hn i (by rw[bV i hi];exact cN),fun i cN=>.inl ⟨i,?_,rfl⟩,fun b hb=>?_,st.drawn⟩⟩
 ·have ow:∀i,(if i∈F then ht i else h i).owned=true->(h i).owned=true:=fun i hi=>by
   by_cases e:i∈F
   ·rw[Aq e]at hi;rw[bV i e,<-aP i e];exact hi
   ·rw[Ak e]at hi;exact hi
  refine⟨fun i=>?_,fun i=>?_,fun i j hi hj=>hh.inj i j (ow i hi) (ow j hj),fun i hi hf=>?_,hH.fzb,fun i=>(hh.glob i).mono aD⟩
  ·by_cases e:i∈F;·have:=hH.obj i;rw[hF i e]at this;show OR g2 w' i (if i∈F then ht i else h i);rw[Aq e];exact this.ag i9 e (dF i e)
   ·show OR g2 w' i (if i∈F then ht i else h i);rw[Ak e];refine(hh.obj i).mono aD rfl fun ho=>aY _ ((hh.obj i).lt ho) fun j hj kj ej=>?_;have:=hh.inj j i (by rw[bV j hj];exact kj) ho ej;exact e (this▸hj)
  ·show g.ep i=(if i∈F then ht i else h i).ep;by_cases e:i∈F
   ·rw[Aq e,bF i e,<-bV i e];exact hh.ep i
   ·rw[Ak e];exact hh.ep i
  ·have hi:=ow i hi;have fe:g'.fz (g.blk i):=hf;rcases st.fzn _ fe with h1|⟨j,hj,ej⟩|h3
   ·exact hh.sep i hi h1
   ·have dm:=own j hj;have ej':(if j∈F then g.blk j else 0)=g.blk i:=ej;rw[Aq dm]at ej';have dV:=hh.inj j i (by rw[bV j dm];exact hj) hi ej';subst dV;refine hH.sep j (by rw[hF j dm,aP j dm];exact hj) ?_;rw[(cm j dm).1];exact fe
   ·have:g.blk i<w.heap.size:=(hh.obj i).lt hi;omega
 ·by_cases e:i∈F;·rw[Aq e]at cN;rw[bV i e,<-aP i e];exact cN
  ·rw[Ak e]at cN;exact cN
 ·rcases st.fzn b hb with h1|⟨j,hj,ej⟩|h3;·exact .inl h1
  ·have dm:=own j hj;have ej':(if j∈F then g.blk j else 0)=b:=ej;rw[Aq dm]at ej';exact .inr (.inl ⟨j,by rw[bV j dm];exact hj,ej'⟩)
  ·exact .inr (.inr h3)
end Go.Am

