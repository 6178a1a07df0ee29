/- Part A4: an abstract machine proved sound over the calculus of the guide. No condition. -/
import Derived.Test.YtjlgleghnenojaaDoorA3
import Derived.ProofKit
import Derived.OpenShut
import Derived.Deep.DeepHandedRow
import Derived.Lib.LaidTab
import Derived.ChangeCalls
set_option linter.unusedSimpArgs false
set_option linter.unusedVariables false
namespace Go.Am
inductive qzk where
 |skip
 |reg (draw:Bool) (ops:List qzc) (preds:List (List Nat))
 |seq (a b:qzk)
 |cond (c:AArg) (a b:qzk)
 |block (id:Nat) (c:qzk)
 |loop (c:qzk)
 |ret
 |exit (id:Nat)
 |rfunc (f:AArg) (ps:List Tmp) (assign body:qzk)
 |scope (c:qzk)
 |label (l:Nat)
 |any
def qzg(P:Program):Code->qzk->Bool
 |.skip,.skip=>true
 |.region _ ops false,.reg false m _=>yzf P ops ops.toList m
 |.region _ ops true,.reg true m preds=>yzf P ops ops.toList m&&qzqz ops.toList preds&&qzg0 0 ops.toList&&qzqy m preds&&P.follows .mixedOrders
 |.seq a b,.seq a' b'=>qzg P a a'&&qzg P b b'
 |.cond c a b,.cond c' a' b'=>qzm c c'&&qzg P a a'&&qzg P b b'
 |.block id c,.block id' c'=>id==id'&&qzg P c c'
 |.loop c,.loop c'=>qzg P c c'
 |.ret,.ret=>true
 |.exit id,.exit id'=>id==id'
 |.scope c,.scope c'=>qzg P c c'
 |.label l,.label l'=>l==l'
 |.rangeFunc f ps a b,.rfunc f' ps' a' b'=>qzm f f'&&ps.toList==ps'&&qzg P a a'&&qzg P b b'
 |_,.any=>true
 |_,_=>false
def AW(E:Nat->AVal)(U:Option Nat)(P:Program)(c:qzk)(Q:Exit->ASt->Prop)(S:ASt):Prop:=∀code,qzg P code c=true->AWp E U P code Q S
section
variable {E:Nat->AVal}{P:Program}{U:Option Nat}{Q:Exit->ASt->Prop}{S:ASt}
theorem AW.mono{c:qzk}{Q':Exit->ASt->Prop}(h:AW E U P c Q S)(hq:∀e S',Q e S'->Q' e S'):AW E U P c Q' S:=fun code hc=>(h code hc).mono hq
theorem AW.see{c:qzk}{S':ASt}(s:See E S S')(h:AW E U P c Q S'):AW E U P c Q S:=fun code hc=>(h code hc).see s
theorem AW.skip(h:Q .normal S):AW E U P .skip Q S:=by
 intro code hc;cases code<;>simp only[qzg]at hc<;>first|exact .skip h|(cases hc;done)|skip
 all_goals (split at hc<;>cases hc)
theorem AW.ret(h:Q .ret S):AW E U P .ret Q S:=by
 intro code hc;cases code<;>simp only[qzg]at hc<;>first|exact .ret h|(cases hc;done)|skip
 all_goals (split at hc<;>cases hc)
theorem AW.exit{id:Nat}(h:Q (.exit id) S):AW E U P (.exit id) Q S:=by
 intro code hc;cases code<;>simp only[qzg]at hc<;>(try (cases hc;done))
 case exit id'=>simp only[Gds]at hc;subst hc;exact .exit h
 all_goals (split at hc<;>cases hc)
theorem AW.seq{a b:qzk}(h:AW E U P a (qzdb (AW E U P b Q) Q) S):AW E U P (.seq a b) Q S:=by
 intro code hc;cases code<;>simp only[qzg]at hc<;>(try (cases hc;done))
 case seq x y =>
  simp only[Gai]at hc;refine .seq ((h x hc.1).mono ?_);intro e S' q;cases e with
  |normal=>exact q y hc.2
  |_=>exact q
 all_goals (split at hc<;>cases hc)
theorem AW.block{id:Nat}{c:qzk}(h:AW E U P c (ablk id Q) S):AW E U P (.block id c) Q S:=by
 intro code hc;cases code<;>simp only[qzg]at hc<;>(try (cases hc;done))
 case block id' x =>simp only[Gai,Gds]at hc;obtain⟨rfl,hc⟩:=hc;exact .block (h x hc)
 all_goals (split at hc<;>cases hc)
theorem AW.scope{c:qzk}(h:AW E U P c (qzy1 Q) S):AW E U P (.scope c) Q S:=by
 intro code hc;cases code<;>simp only[qzg]at hc<;>(try (cases hc;done))
 case scope x=>exact .scope (h x hc)
 all_goals (split at hc<;>cases hc)
theorem AW.label{l:Nat}(h:Q .normal S):AW E U P (.label l) Q S:=by
 intro code hc;cases code<;>simp only[qzg]at hc<;>(try (cases hc;done))
 case label x=>exact .label h
 all_goals (split at hc<;>cases hc)
theorem AW.loop{c:qzk}{α:Type}(inv:α->ASt)(J:α->Nat)(I:α->Prop)(x₀:α)(h₀:I x₀)(s₀:See E S (inv x₀))(round:∀x,I x->AW E U P c (qzdb (fun S'=>∃x',I x'/\J x'<J x/\See E S' (inv x')) Q) (inv x)):AW E U P (.loop c) Q S:=by
 intro code hc;cases code<;>simp only[qzg]at hc<;>(try (cases hc;done))
 case loop x=>exact .loop' inv J I x₀ h₀ s₀ (fun y hy=>round y hy x hc)
 all_goals (split at hc<;>cases hc)
theorem AWp.cond'{c:Operand}{c':AArg}{x y:Code}{t:Bool}(hk:qzm c c'=true)(hc:argv E S.t c'=.bool t)(ht:t=true->AWp E U P x Q S)(hf:t=false->AWp E U P y Q S):AWp E U P (.cond c x y) Q S:=by intro g a w hs;have rx:=qzp hs.hr hs.tm hk;rw[hc]at rx;exact wpIn_cond_split (qzaj rx) (fun e=>ht e g a w hs) (fun e=>hf e g a w hs)
theorem AW.cond{c:AArg}{a b:qzk}{t:Bool}(hc:argv E S.t c=.bool t)(ht:t=true->AW E U P a Q S)(hf:t=false->AW E U P b Q S):AW E U P (.cond c a b) Q S:=by
 intro code hk;cases code<;>simp only[qzg]at hk<;>(try (cases hk;done))
 case cond c' x y =>simp only[Gai]at hk;exact .cond' hk.1.1 hc (fun e=>ht e x hk.1.2) (fun e=>hf e y hk.2)
 all_goals (split at hk<;>cases hk)
theorem AW.reg{ops:List qzc}{pr:List (List Nat)}(h:areg E P ops S (Q .normal)):AW E U P (.reg false ops pr) Q S:=by
 intro code hc
 match code,hc with
 |.region id l true,hc=>simp[qzg]at hc
 |.region id l false,hc=>exact .region (by simpa [qzg] using hc) h
 |.skip,hc=>simp[qzg]at hc
 |.seq _ _,hc=>simp[qzg]at hc
 |.cond _ _ _,hc=>simp[qzg]at hc
 |.block _ _,hc=>simp[qzg]at hc
 |.loop _,hc=>simp[qzg]at hc
 |.rangeFunc _ _ _ _,hc=>simp[qzg]at hc
 |.exit _,hc=>simp[qzg]at hc
 |.scope _,hc=>simp[qzg]at hc
 |.label _,hc=>simp[qzg]at hc
 |.goto _,hc=>simp[qzg]at hc
 |.ret,hc=>simp[qzg]at hc
 |.refuse _,hc=>simp[qzg]at hc
theorem AW.sreg{ops:List qzc}{pr:List (List Nat)}(h:SReg E P ops S (Q .normal)):AW E U P (.reg false ops pr) Q S:=by
 intro code hc
 match code,hc with
 |.region id l true,hc=>simp[qzg]at hc
 |.region id l false,hc=>exact .sregion (by simpa [qzg] using hc) h
 |.skip,hc=>simp[qzg]at hc
 |.seq _ _,hc=>simp[qzg]at hc
 |.cond _ _ _,hc=>simp[qzg]at hc
 |.block _ _,hc=>simp[qzg]at hc
 |.loop _,hc=>simp[qzg]at hc
 |.rangeFunc _ _ _ _,hc=>simp[qzg]at hc
 |.exit _,hc=>simp[qzg]at hc
 |.scope _,hc=>simp[qzg]at hc
 |.label _,hc=>simp[qzg]at hc
 |.goto _,hc=>simp[qzg]at hc
 |.ret,hc=>simp[qzg]at hc
 |.refuse _,hc=>simp[qzg]at hc
theorem AW.draw{ops:List qzc}{pr:List (List Nat)}(h:dreg E P ops S (fun S' tr=>hpOk pr tr=true/\Q .normal S')):AW E U P (.reg true ops pr) Q S:=by
 intro code hc
 match code,hc with
 |.region id l false,hc=>simp[qzg]at hc
 |.region id l true,hc =>simp only[qzg,Gai]at hc;exact .drawn hc.1.1.1.1 hc.1.1.1.2 hc.1.1.2 hc.1.2 hc.2 h
 |.skip,hc=>simp[qzg]at hc
 |.seq _ _,hc=>simp[qzg]at hc
 |.cond _ _ _,hc=>simp[qzg]at hc
 |.block _ _,hc=>simp[qzg]at hc
 |.loop _,hc=>simp[qzg]at hc
 |.rangeFunc _ _ _ _,hc=>simp[qzg]at hc
 |.exit _,hc=>simp[qzg]at hc
 |.scope _,hc=>simp[qzg]at hc
 |.label _,hc=>simp[qzg]at hc
 |.goto _,hc=>simp[qzg]at hc
 |.ret,hc=>simp[qzg]at hc
 |.refuse _,hc=>simp[qzg]at hc
theorem AW.drawC{ops:List qzc}{pr:List (List Nat)}(h:wzo8 E P ops S (fun S' tr=>wz35 ops pr tr=true/\Q .normal S')):AW E U P (.reg true ops pr) Q S:=by
 intro code hc
 match code,hc with
 |.region id l false,hc=>simp[qzg]at hc
 |.region id l true,hc =>simp only[qzg,Gai]at hc;exact .drawnT hc.1.1.1.1 hc.1.1.1.2 hc.1.1.2 hc.1.2 hc.2 (wzna _ _ _ h)
 |.skip,hc=>simp[qzg]at hc
 |.seq _ _,hc=>simp[qzg]at hc
 |.cond _ _ _,hc=>simp[qzg]at hc
 |.block _ _,hc=>simp[qzg]at hc
 |.loop _,hc=>simp[qzg]at hc
 |.rangeFunc _ _ _ _,hc=>simp[qzg]at hc
 |.exit _,hc=>simp[qzg]at hc
 |.scope _,hc=>simp[qzg]at hc
 |.label _,hc=>simp[qzg]at hc
 |.goto _,hc=>simp[qzg]at hc
 |.ret,hc=>simp[qzg]at hc
 |.refuse _,hc=>simp[qzg]at hc
theorem AW.rfunc{f':AArg}{ps:List Tmp}{a b:qzk}{fi:FuncId}{caps:List AVal}(D L:Nat)(hDL:D≠L)(hD:(S.h D).plain)(hL:(S.h L).plain)(hf:argv E S.t f'=.fn fi 0 caps)(he:kzz P fi=true)
  (h:∀(ps':Array Tmp) (a' b':Code),ps'.toList=ps->qzg P a' a=true->qzg P b' b=true ->
   ATr E P fi (.yld L ((S.h L).ep+1) :: caps) (hset (hset S.h D (.dfr ((S.h D).ep+1))) L (.loop ((S.h L).ep+1) .ready none S.t ps' a' b' D ((S.h D).ep+1)))
   (fun v h'=>∃st pd,st≠.busy/\h' L=.loop ((S.h L).ep+1) st pd S.t ps' a' b' D ((S.h D).ep+1)/\h' D=.dfr ((S.h D).ep+1)/\(∀X∈S.ds,h' X.1=.dfr X.2) /\
    wza0 Q pd ⟨S.t,hset h' L (.gone ((S.h L).ep+1)),(D,(S.h D).ep+1) :: S.ds⟩)):AW E none P (.rfunc f' ps a b) Q S:=by
 intro code hc
 match code,hc with
 |.rangeFunc f ps' a' b',hc =>simp only[qzg,Gai,Gds]at hc;exact .rfunc D L hDL hD hL hc.1.1.1 hf he (h ps' a' b' hc.1.1.2 hc.1.2 hc.2)
 |.region id l false,hc=>simp[qzg]at hc
 |.region id l true,hc=>simp[qzg]at hc
 |.skip,hc=>simp[qzg]at hc
 |.seq _ _,hc=>simp[qzg]at hc
 |.cond _ _ _,hc=>simp[qzg]at hc
 |.block _ _,hc=>simp[qzg]at hc
 |.loop _,hc=>simp[qzg]at hc
 |.exit _,hc=>simp[qzg]at hc
 |.scope _,hc=>simp[qzg]at hc
 |.label _,hc=>simp[qzg]at hc
 |.goto _,hc=>simp[qzg]at hc
 |.ret,hc=>simp[qzg]at hc
 |.refuse _,hc=>simp[qzg]at hc
theorem ATr.of{f:FuncId}{fn:Func}{c:Code}{ac:qzk}{args:List AVal}{h:qzl}{R:AVal->qzl->Prop}{rs:List ARes}(hf:P.funcs[f]?=some fn)(hb:fn.body=some c)(hr:qzi P fn.results.toList rs=true)(hc:qzg P c ac=true)(n:Nat) (hn:fn.ntmps-args.length=n) (hw:AW E none P ac (Post E rs R) ⟨args++List.replicate n .top,h,[]⟩):ATr E P f args h R :=
 .of_body hf hb hr (by subst hn;exact hw c hc)
end
inductive qzt:AVal->Prop where
 |top:qzt .top
 |int (k:IntKind) (n:Int):qzt (.int k n)
 |bool (b:Bool):qzt (.bool b)
 |str (s:List UInt8):qzt (.str s)
 |agg (l:List AVal) (h:∀x,x∈l->qzt x):qzt (.agg l)
 |tup (l:List AVal) (h:∀x,x∈l->qzt x):qzt (.tup l)
 |nils:qzt .nils
 |slc (st n:Nat) (f:Nat->List AVal) (h:∀i x,i<n->x∈f i->qzt x):qzt (.slc st n f)
 |cptr (f:Nat->AVal) (lim off:Nat) (h:∀j,j<lim->qzt (f j)):qzt (.cptr f lim off)
 |nilp:qzt .nilp
 |fn (f:FuncId) (nb:Nat) (l:List AVal) (h:∀x,x∈l->qzt x):qzt (.fn f nb l)
 |nilfn:qzt .nilfn
 |nilmp:qzt .nilmp
 |cnd (c:Bool) (x:AVal) (h:qzt x):qzt (.cnd c x)
theorem qzer{l:List AVal}:qzt (.agg l)↔∀x,x∈l->qzt x:=⟨fun h=>by cases h;assumption,.agg l⟩
theorem qzep{l:List AVal}:qzt (.tup l)↔∀x,x∈l->qzt x:=⟨fun h=>by cases h;assumption,.tup l⟩
theorem qz08{st n:Nat}{f:Nat->List AVal}:qzt (.slc st n f)↔∀i x,i<n->x∈f i->qzt x:=⟨fun h=>by cases h;assumption,.slc st n f⟩
theorem kzp{f:FuncId}{nb:Nat}{l:List AVal}:qzt (.fn f nb l)↔∀x,x∈l->qzt x:=⟨fun h=>by cases h;assumption,.fn f nb l⟩
theorem RV.reghost{g gx:Gh}{w:World}(hf:∀b,g.fz b->gx.fz b){x:AVal}{v:Value}(h:RV g w x v)(hn:qzt x):RV gx w x v:=by
 induction h with
 |top v=>exact .top v
 |int k n=>exact .int k n
 |bool b=>exact .bool b
 |str s b h=>exact .str s b h
 |agg l a hl _ ih=>exact .agg l a hl fun i x v hx hv=>ih i x v hx hv (qzer.1 hn x (Gb9 hx))
 |tup l a hl _ ih=>exact .tup l a hl fun i x v hx hv=>ih i x v hx hv (qzep.1 hn x (Gb9 hx))
 |nils=>exact .nils
 |slc0 st f a cap=>exact .slc0 st f a cap
 |slc st n f b off cap vals hz hcap hl hc h1 _ ih =>exact .slc st n f b off cap vals (hf b hz) hcap hl hc h1 fun i j x hi hx=>ih i j x hi hx (qz08.1 hn i x hi (Gb9 hx))
 |vec=>cases hn
 |ptr=>cases hn
 |eptr=>cases hn
 |cptr f lim off b base vals hz hc _ ih =>
  cases hn with
  |cptr _ _ _ hn=>exact .cptr f lim off b base vals (hf b hz) hc fun j hj=>ih j hj (hn j hj)
 |nilp=>exact .nilp
 |fn f nb caps a hl _ ih=>exact .fn f nb caps a hl fun i x v hx hv=>ih i x v hx hv (kzp.1 hn x (Gb9 hx))
 |nilfn=>exact .nilfn
 |yld=>cases hn
 |mp=>cases hn
 |nilmp=>exact .nilmp
 |cnd c x v _ h0 ih =>
  cases hn with
  |cnd _ _ hn=>exact .cnd c x v (fun e=>ih e hn) h0
def h0:qzl:=fun _=>.gone 0
def Pure(E:Nat->AVal)(P:Program)(f:FuncId)(args:List AVal)(r:AVal):Prop:=ATr E P f args h0 (fun v _=>v=r)
theorem Pure.any{E:Nat->AVal}{P:Program}{f:FuncId}{args:List AVal}{r:AVal}(H:Pure E P f args r)(hE:∀i,qzt (E i))(ha:∀x,x∈args->qzt x)(hr:qzt r)(h:qzl) :
  ATr E P f args h (fun v h'=>v=r/\h'=h):=by
 intro g w vs hh hv
 let g0:Gh:=⟨fun _=>0,fun _=>0,fun _=>0,fun _=>0,fun _=>0,g.fz⟩
 have H0:HR E g0 h0 w:=⟨fun _=>trivial,fun _=>rfl,(by intro i j hi;cases hi),(by intro i hi;cases hi),hh.fzb,fun i=>(hh.glob i).reghost (g:=g) (gx:=g0) (fun _ h=>h) (hE i)⟩;refine(H g0 w vs H0 ⟨hv.1,fun i x v hx hy=>(hv.2 i x v hx hy).reghost (g:=g) (gx:=g0) (fun _ h=>h) (ha x (Gb9 hx))⟩).mono ?_;rintro e w' ⟨g',h',_,v,rfl,rfl,hrv,hH,st⟩
 have hfz:∀b,g'.fz b->g.fz b\/w.heap.size<=b:=fun b hb=>by
  rcases st.fzn b hb with h1|⟨j,hj,_⟩|h3
  ·exact .inl h1
  ·cases hj
  ·exact .inr h3
 have hkeep:∀b,b<w.heap.size->w'.heap[b]?=w.heap[b]?:=fun b hb=>st.keep b hb (by intro i hi;cases hi)
 let g2:Gh:=⟨g.blk,g.ep,g.bo,g.st,g.cp,g'.fz⟩
 have hle:GLe g w g2 w':=⟨fun b hb=>⟨(st.le.fz b hb).1,hkeep b (hh.fzb b hb)⟩,fun _=>Gcy _,fun _ _=>⟨rfl,rfl,rfl,rfl⟩⟩;refine⟨g2,h,_,v,⟨rfl,rfl⟩,rfl,hrv.reghost (g:=g') (gx:=g2) (fun _ h=>h) hr,?_,⟨hle,st.os,st.tape,st.output,st.size,fun b hb _=>hkeep b hb,fun i ho=>.inl ⟨i,ho,rfl⟩,fun b hb=>?_,st.drawn⟩⟩
 ·refine⟨fun i=>(hh.obj i).mono hle rfl fun ho=>hkeep _ ((hh.obj i).lt ho),hh.ep,hh.inj,fun i hi hf=>?_,hH.fzb,fun i=>(hh.glob i).mono hle⟩;rcases hfz _ hf with h1|h1
  ·exact hh.sep i hi h1
  ·have:g.blk i<w.heap.size:=(hh.obj i).lt hi;have e:g2.blk i=g.blk i:=rfl;omega
 ·rcases hfz b hb with h1|h1;·exact .inl h1
  ·exact .inr (.inr h1)
theorem qzc0{k:IntKind}{n:Int}:qzt (.int k n):=.int k n
theorem qzbz{b:Bool}:qzt (.bool b):=.bool b
theorem qzcz{s:List UInt8}:qzt (.str s):=.str s
theorem qze2:qzt .nils:=.nils
section
variable {E:Nat->AVal}{P:Program}{U:Option Nat}
theorem Post.here{rs:List ARes}{R:AVal->qzl->Prop}{S:ASt}(hok:vz1 S rs)(hds:S.ds=[])(hR:R (vz5 S rs) S.h):Post E rs R .ret S := ⟨S,.refl S,hok,S.h,fun i=>.refl _,(by rw[hds];intro D hD;cases hD),hR⟩
theorem Post.pure{rs:List ARes}{r:AVal}{S:ASt}(hok:vz1 S rs)(hR:vz5 S rs=r):Post E rs (fun v _=>v=r) .ret S := ⟨S,.refl S,hok,fun i=>.gone (S.h i).ep,fun i=>.inl rfl,fun D _=>⟨_,rfl⟩,hR⟩
theorem AW.retp{rs:List ARes}{r:AVal}{S:ASt}{Q:Exit->ASt->Prop}(hq:Q .ret=Post E rs (fun v _=>v=r) .ret)(hok:vz1 S rs)(hR:vz5 S rs=r):AW E U P .ret Q S :=
 .ret (by rw[hq];exact .pure hok hR)
theorem AW.rets{rs:List ARes}{r:AVal}{S S':ASt}{Q:Exit->ASt->Prop}(hq:Q .ret=Post E rs (fun v _=>v=r) .ret)(s:See E S S')(hok:vz1 S' rs)(hR:vz5 S' rs=r):AW E U P .ret Q S :=
 .see s (.retp hq hok hR)
theorem jzo.pure{c:Bool}{t:List AVal}{h:qzl}{ds:List (Nat×Nat)}{xs:List AArg}{f:FuncId}{args:List AVal}{K:AVal->qzl->Prop}(v:AVal)(hu:c=true->wze c t xs)(H:c=true->qzq E P f args v)(k:K (.cnd c v) h):jzo E P c t h ds xs f args K :=
 .inl ⟨v,fun e=>⟨hu e,H e h⟩,k⟩
theorem qznq.pure{f:FuncId}{args:List AVal}{h:qzl}{K:AVal->List Nat->Prop}(v:AVal)(H:qzq E P f args v)(k:K v []):qznq E P f args h K:=⟨v,[],H.on h [],k⟩
theorem kzb.pure{c:Bool}{t:List AVal}{xs:List AArg}{f:FuncId}{args:List AVal}{h:qzl}{K:AVal->List Nat->Prop}(v:AVal)(hu:c=true->wze c t xs)(H:c=true->qzq E P f args v)(k:K (.cnd c v) []):kzb E P c t xs f args h K:=⟨v,[],fun e=>⟨hu e,(H e).on h []⟩,k⟩
theorem Pure.call{f:FuncId}{args:List AVal}{r:AVal}(H:Pure E P f args r)(hE:∀i,qzt (E i))(ha:∀x,x∈args->qzt x)(hr:qzt r){h:qzl}{K:AVal->qzl->Prop}(k:K r h):ATr E P f args h K := (H.any hE ha hr h).mono (by rintro _ _ ⟨rfl,rfl⟩;exact k)
theorem qzq.call{f:FuncId}{args:List AVal}{r:AVal}(H:qzq E P f args r){h:qzl}{K:AVal->qzl->Prop}(k:K r h):ATr E P f args h K := (H h).mono (by rintro _ _ ⟨rfl,rfl⟩;exact k)
theorem Pure.still{f:FuncId}{args:List AVal}{r:AVal}(H:Pure E P f args r)(hE:∀i,qzt (E i))(ha:∀x,x∈args->qzt x)(hr:qzt r):qzq E P f args r:=H.any hE ha hr
theorem Pure.of{f:FuncId}{fn:Func}{c:Code}{ac:qzk}{args:List AVal}{r:AVal}{rs:List ARes}(hf:P.funcs[f]?=some fn)(hb:fn.body=some c)(hr:qzi P fn.results.toList rs=true)(hc:qzg P c ac=true)(n:Nat) (hn:fn.ntmps-args.length=n) (hw:AW E none P ac (Post E rs (fun v _=>v=r)) ⟨args++List.replicate n .top,h0,[]⟩):Pure E P f args r :=
 ATr.of hf hb hr hc n hn hw
end
def fz1(id:Nat)(o:AObj):AVal->AVal
 | .ptr i ep off=>if i=id then(match o with
  |.box ep' cs=>if ep=ep' then .cptr (fun k=>cs.getD k .top) cs.length off else .top
  | _=>.top) else .ptr i ep off
 | .vec i ep lo n=>if i=id then(match o with
  |.vec ep' st m f=>if ep=ep'/\lo+n<=m then .slc st n (fun k=>f (lo+k)) else .top
  | _=>.top) else .vec i ep lo n
 |x=>x
mutual
def fzv(id:Nat)(o:AObj):AVal->AVal
 |.agg l=>.agg (fzl id o l)
 |.tup l=>.tup (fzl id o l)
 |.fn f nb l=>.fn f nb (fzl id o l)
 |.cnd c x=>.cnd c (fzv id o x)
 |x=>fz1 id o x
def fzl(id:Nat)(o:AObj):List AVal->List AVal
 |[]=>[]
 |x :: l=>fzv id o x :: fzl id o l
end
theorem qz1x(id:Nat)(o:AObj)(x:AVal):FV id o x (fz1 id o x):=by
 unfold fz1;split
 ·split
  ·rename_i e;subst e;split
   ·split;·rename_i e;subst e;exact .box _ _ _ _ rfl fun _ _=>rfl
    ·exact .top _
   ·exact .top _
  ·exact .refl _
 ·split
  ·rename_i e;subst e;split
   ·split;·rename_i e;obtain⟨rfl,e⟩:=e;exact .vec _ _ _ _ _ _ _ rfl e fun _ _=>rfl
    ·exact .top _
   ·exact .top _
  ·exact .refl _
 ·exact .refl _
mutual
theorem qz09(id:Nat)(o:AObj):∀x,FV id o x (fzv id o x)
 |.agg l=>.aggl (qzge id o l)
 |.tup l=>.tupl (qzge id o l)
 |.fn f nb l=>.fn _ _ _ _ (qzge id o l).at.1 (qzge id o l).at.2
 |.cnd c x=>.cnd _ _ _ (qz09 id o x)
 |.top=>.refl _
 |.int _ _=>.refl _
 |.bool _=>.refl _
 |.str _=>.refl _
 |.nils=>.refl _
 |.slc _ _ _=>.refl _
 |.vec i ep lo n=>qz1x id o (.vec i ep lo n)
 |.ptr i ep off=>qz1x id o (.ptr i ep off)
 |.eptr _ _ _ _=>.refl _
 |.cptr _ _ _=>.refl _
 |.nilp=>.refl _
 |.nilfn=>.refl _
 |.yld _ _=>.refl _
 |.mp _ _=>.refl _
 |.nilmp=>.refl _
theorem qzge(id:Nat)(o:AObj):∀l,FVl id o l (fzl id o l)
 |[]=>trivial
 |x :: l=>⟨qz09 id o x,qzge id o l⟩
end
def fzo(id:Nat)(o:AObj):AObj->AObj
 |.box e l=>.box e (fzl id o l)
 |x=>x
section
variable {E:Nat->AVal}{P:Program}{U:Option Nat}{Q:Exit->ASt->Prop}{S:ASt}
theorem See.fz(id:Nat)(how:(S.h id).owned=true)(hpl:(S.h id).plain):See E S ⟨fzl id (S.h id) S.t,hset S.h id (.gone ((S.h id).ep+1)),S.ds⟩ :=
 .freeze (o:=S.h id) rfl how hpl (by simp[hset]) (fun j hj=>by simp[hset,hj];exact .inl rfl) (qzge _ _ _) rfl
theorem AW.fz{c:qzk}(id:Nat)(how:(S.h id).owned=true)(hpl:(S.h id).plain)(h:AW E U P c Q ⟨fzl id (S.h id) S.t,hset S.h id (.gone ((S.h id).ep+1)),S.ds⟩):AW E U P c Q S:=.see (.fz id how hpl) h
theorem See.fzc(id:Nat)(how:(S.h id).owned=true)(hpl:(S.h id).plain):See E S ⟨fzl id (S.h id) S.t,hset (fun j=>fzo id (S.h id) (S.h j)) id (.gone ((S.h id).ep+1)),S.ds⟩ :=
 .freeze (o:=S.h id) rfl how hpl (by simp[hset]) (fun j hj=>by simp only[hset,hj,Gd2];cases hh:S.h j<;>simp only[fzo]<;>first|exact .inl rfl|exact .inr (.inl ⟨_,_,_,rfl,rfl,qzge _ _ _⟩)) (qzge _ _ _) rfl
theorem AW.fzc{c:qzk}(id:Nat)(how:(S.h id).owned=true)(hpl:(S.h id).plain)(h:AW E U P c Q ⟨fzl id (S.h id) S.t,hset (fun j=>fzo id (S.h id) (S.h j)) id (.gone ((S.h id).ep+1)),S.ds⟩):AW E U P c Q S:=.see (.fzc id how hpl) h
end
inductive wz2n(F:List Nat):AVal->Prop where
 |top:wz2n F .top
 |int (k:IntKind) (n:Int):wz2n F (.int k n)
 |bool (b:Bool):wz2n F (.bool b)
 |str (s:List UInt8):wz2n F (.str s)
 |agg (l:List AVal) (h:∀x,x∈l->wz2n F x):wz2n F (.agg l)
 |tup (l:List AVal) (h:∀x,x∈l->wz2n F x):wz2n F (.tup l)
 |nils:wz2n F .nils
 |slc (st n:Nat) (f:Nat->List AVal) (h:∀i x,i<n->x∈f i->wz2n F x):wz2n F (.slc st n f)
 |vec (id ep lo n:Nat) (h:id∈F):wz2n F (.vec id ep lo n)
 |ptr (id ep off:Nat) (h:id∈F):wz2n F (.ptr id ep off)
 |eptr (id ep i off:Nat) (h:id∈F):wz2n F (.eptr id ep i off)
 |mp (id ep:Nat) (h:id∈F):wz2n F (.mp id ep)
 |cptr (f:Nat->AVal) (lim off:Nat) (h:∀j,j<lim->wz2n F (f j)):wz2n F (.cptr f lim off)
 |nilp:wz2n F .nilp
 |fn (f:FuncId) (nb:Nat) (l:List AVal) (h:∀x,x∈l->wz2n F x):wz2n F (.fn f nb l)
 |nilfn:wz2n F .nilfn
 |nilmp:wz2n F .nilmp
 |cnd (c:Bool) (x:AVal) (h:wz2n F x):wz2n F (.cnd c x)
structure GAg(F:List Nat)(g gx:Gh):Prop where
 fz:∀b,g.fz b->gx.fz b
 pl:∀i,i∈F->gx.blk i=g.blk i/\gx.ep i=g.ep i/\gx.bo i=g.bo i/\gx.st i=g.st i/\gx.cp i=g.cp i
theorem qzp0.ag{g gx:Gh}{id lo n:Nat}{v:Value}(h:gx.blk id=g.blk id/\gx.ep id=g.ep id/\gx.bo id=g.bo id/\gx.st id=g.st id/\gx.cp id=g.cp id)(hv:qzp0 g id lo n v):qzp0 gx id lo n v:=by obtain⟨h1,_,h3,h4,h5⟩:=h;obtain⟨a,cap,e,hc,hh⟩:=hv;exact⟨a,cap,e,hc,by rw[h1,h3,h4,h5];exact hh⟩
theorem RV.ag{F:List Nat}{g gx:Gh}{w:World}(hA:GAg F g gx){x:AVal}{v:Value}(h:RV g w x v)(hn:wz2n F x):RV gx w x v:=by
 induction h with
 |top v=>exact .top v
 |int k n=>exact .int k n
 |bool b=>exact .bool b
 |str s b h=>exact .str s b h
 |agg l a hl _ ih=>cases hn with | agg _ hn=>exact .agg l a hl fun i x v hx hv=>ih i x v hx hv (hn x (Gb9 hx))
 |tup l a hl _ ih=>cases hn with | tup _ hn=>exact .tup l a hl fun i x v hx hv=>ih i x v hx hv (hn x (Gb9 hx))
 |nils=>exact .nils
 |slc0 st f a cap=>exact .slc0 st f a cap
 |slc st n f b off cap vals hz hcap hl hc h1 _ ih =>cases hn with | slc _ _ _ hn=>exact .slc st n f b off cap vals (hA.fz b hz) hcap hl hc h1 fun i j x hi hx=>ih i j x hi hx (hn i x hi (Gb9 hx))
 |vec id ep lo n v h1 he h =>cases hn with | vec _ _ _ _ hm =>have ha:=hA.pl id hm;exact .vec id ep lo n v h1 (by rw[ha.2.1];exact he) fun e=>(h (by rw[<-ha.2.1];exact e)).ag ha
 |ptr id ep off v h1 he h =>cases hn with | ptr _ _ _ hm =>have ha:=hA.pl id hm;exact .ptr id ep off v h1 (by rw[ha.2.1];exact he) fun e=>by rw[ha.1];exact h (by rw[<-ha.2.1];exact e)
 |eptr id ep i off v h1 he h =>cases hn with | eptr _ _ _ _ hm =>have ha:=hA.pl id hm;exact .eptr id ep i off v h1 (by rw[ha.2.1];exact he) fun e=>by rw[ha.1,ha.2.2.1,ha.2.2.2.1];exact h (by rw[<-ha.2.1];exact e)
 |cptr f lim off b base vals hz hc _ ih =>cases hn with | cptr _ _ _ hn=>exact .cptr f lim off b base vals (hA.fz b hz) hc fun j hj=>ih j hj (hn j hj)
 |nilp=>exact .nilp
 |fn f nb caps a hl _ ih=>cases hn with | fn _ _ _ hn=>exact .fn f nb caps a hl fun i x v hx hv=>ih i x v hx hv (hn x (Gb9 hx))
 |nilfn=>exact .nilfn
 |yld=>cases hn
 |mp id ep v h1 he h =>cases hn with | mp _ _ hm =>have ha:=hA.pl id hm;exact .mp id ep v h1 (by rw[ha.2.1];exact he) fun e=>by rw[ha.1];exact h (by rw[<-ha.2.1];exact e)
 |nilmp=>exact .nilmp
 |cnd c x v _ h0 ih=>cases hn with | cnd _ _ hn=>exact .cnd c x v (fun e=>ih e hn) h0
theorem RVs.ag{F:List Nat}{g gx:Gh}{w:World}(hA:GAg F g gx){l:List AVal}{a:List Value}(h:RVs g w l a)(hn:∀x,x∈l->wz2n F x):RVs gx w l a := ⟨h.1,fun i x v hx hv=>(h.2 i x v hx hv).ag hA (hn x (Gb9 hx))⟩
def jzfg(F:List Nat):AObj->Prop
 |.gone _=>True
 |.box _ cs=>∀x,x∈cs->wz2n F x
 |.vec _ _ n f=>∀k x,k<n->x∈f k->wz2n F x
 |.amap _ es=>∀e,e∈es->wz2n F e.1/\wz2n F e.2
 |_=>False
theorem OR.ag{F:List Nat}{g gx:Gh}{w:World}(hA:GAg F g gx){i:Nat}(hi:i∈F){o:AObj}(h:OR g w i o)(hn:jzfg F o):OR gx w i o:=by
 have ha:=hA.pl i hi;cases o with
 |gone e=>trivial
 |box e cs =>obtain⟨arr,ty,hb,hr⟩:=h;exact⟨arr,ty,by rw[ha.1];exact hb,hr.ag hA hn⟩
 |vec e st n f =>
  obtain⟨h1,h2,h3,arr,ty,hb,hf,hel⟩:=h
  exact⟨ha.2.2.2.1.trans h1,h2,by rw[ha.2.2.2.2];exact h3,arr,ty,by rw[ha.1];exact hb,by rw[ha.2.2.1,ha.2.2.2.2];exact hf,
   fun k hk=>⟨(hel k hk).1,fun j x v hx hv=>⟨((hel k hk).2 j x v hx (by rw[<-ha.2.2.1];exact hv)).1,((hel k hk).2 j x v hx (by rw[<-ha.2.2.1];exact hv)).2.ag hA (hn k x hk (Gb9 hx))⟩⟩⟩
 |amap e es =>obtain⟨arr,hb,hs,hel⟩:=h;exact⟨arr,by rw[ha.1];exact hb,hs,fun k x m hx hm=>⟨(hel k x m hx hm).1.ag hA (hn x (Gb9 hx)).1,(hel k x m hx hm).2.1.ag hA (hn x (Gb9 hx)).2,(hel k x m hx hm).2.2⟩⟩
 |_=>cases hn
theorem qzt.refs{F:List Nat}{x:AVal}(h:qzt x):wz2n F x:=by
 induction h with
 |top=>exact .top
 |int k n=>exact .int k n
 |bool b=>exact .bool b
 |str s=>exact .str s
 |agg l _ ih=>exact .agg l ih
 |tup l _ ih=>exact .tup l ih
 |nils=>exact .nils
 |slc st n f _ ih=>exact .slc st n f ih
 |cptr f lim off _ ih=>exact .cptr f lim off ih
 |nilp=>exact .nilp
 |fn f nb l _ ih=>exact .fn f nb l ih
 |nilfn=>exact .nilfn
 |nilmp=>exact .nilmp
 |cnd c x _ ih=>exact .cnd c x ih
theorem ATr.frame{E:Nat->AVal}{P:Program}{f:FuncId}{args:List AVal}{r:AVal}{F:List Nat}{hs:qzl}(hE:∀i,qzt (E i))(hsN:∀i,i∉F->hs i=.gone 0)(ha:∀x,x∈args->wz2n F x)(ho:∀i,i∈F->jzfg F (hs i))(hr:qzt r)(H:ATr E P f args hs (fun v h'=>v=r/\∀i,i∈F->h' i=hs i)):qzcd E P f args hs F r:=by
 intro h hag g w vs hh hv
 let g0:Gh:=⟨fun i=>if i∈F then g.blk i else 0,fun i=>if i∈F then g.ep i else 0,fun i=>if i∈F then g.bo i else 0,fun i=>if i∈F then g.st i else 0,fun i=>if i∈F then g.cp i else 0,g.fz⟩
 have hA:GAg F g g0:=⟨fun _ h=>h,fun i hi=>⟨Gd4 hi,Gd4 hi,Gd4 hi,Gd4 hi,Gd4 hi⟩⟩
 have own:∀i,(hs i).owned=true->i∈F:=fun i hi=>by
  by_cases e:i∈F
  ·exact e
  ·rw[hsN i e]at hi;cases hi
 have H0:HR E g0 hs w:=by
  refine⟨fun i=>?_,fun i=>?_,fun i j hi hj e=>?_,fun i hi=>?_,hh.fzb,fun i=>(hh.glob i).ag hA (hE i).refs⟩
  ·by_cases e:i∈F;·have:=hh.obj i;rw[hag i e]at this;exact this.ag hA e (ho i e)
   ·rw[hsN i e];trivial
  ·by_cases e:i∈F;·show(if i∈F then g.ep i else 0)=_;rw[Gd4 e,hh.ep i,hag i e]
   ·show(if i∈F then g.ep i else 0)=_;rw[Gd3 e,hsN i e];rfl
  ·have h1:=own i hi;have h2:=own j hj;have e':(if i∈F then g.blk i else 0)=(if j∈F then g.blk j else 0):=e;rw[Gd4 h1,Gd4 h2]at e';exact hh.inj i j (by rw[hag i h1];exact hi) (by rw[hag j h2];exact hj) e'
  ·have h1:=own i hi;show ¬g.fz (if i∈F then g.blk i else 0);rw[Gd4 h1];exact hh.sep i (by rw[hag i h1];exact hi)
 refine(H g0 w vs H0 (hv.ag hA ha)).mono ?_;rintro e w' ⟨g',h',_,v,⟨rfl,hF⟩,rfl,hrv,hH,st⟩
 have hblk':∀i,i∈F->g'.blk i=g.blk i/\g'.ep i=g.ep i/\g'.bo i=g.bo i/\g'.st i=g.st i/\g'.cp i=g.cp i:=fun i hi=>by
  have e1:g'.ep i=g0.ep i:=by rw[hH.ep i,hF i hi,H0.ep i]
  obtain⟨a,b,c,d⟩:=st.le.same i e1;obtain⟨a',b',c',d',e'⟩:=hA.pl i hi;exact⟨a.trans a',e1.trans b',b.trans c',c.trans d',d.trans e'⟩
 have hkeep:∀b,b<w.heap.size->(∀i,i∈F->(hs i).owned=true->g.blk i≠b)->w'.heap[b]?=w.heap[b]?:=fun b hb hn=>st.keep b hb fun i hi e=>by have h1:=own i hi;have e':(if i∈F then g.blk i else 0)=b:=e;rw[Gd4 h1]at e';exact hn i h1 hi e'
 let g2:Gh:=⟨g.blk,g.ep,g.bo,g.st,g.cp,g'.fz⟩
 have hA2:GAg F g' g2:=⟨fun _ h=>h,fun i hi=>by obtain⟨a,b,c,d,e⟩:=hblk' i hi;exact⟨a.symm,b.symm,c.symm,d.symm,e.symm⟩⟩;have hle:GLe g w g2 w':=⟨fun b hb=>st.le.fz b hb,fun _=>Gcy _,fun _ _=>⟨rfl,rfl,rfl,rfl⟩⟩;refine⟨g2,h,_,v,⟨rfl,rfl⟩,rfl,RV.ag (F:=[]) (g:=g') (gx:=g2) ⟨fun _ h=>h,fun i hi=>by cases hi⟩ hrv hr.refs,?_,⟨hle,st.os,st.tape,st.output,st.size,fun b hb hn=>hkeep b hb fun i hi ho'=>hn i (by rw[hag i hi];exact ho'),fun i ho=>.inl ⟨i,ho,rfl⟩,fun b hb=>?_,st.drawn⟩⟩
 ·refine⟨fun i=>?_,hh.ep,hh.inj,fun i hi hf=>?_,hH.fzb,fun i=>(hh.glob i).mono hle⟩
  ·by_cases e:i∈F;·have:=hH.obj i;rw[hF i e]at this;rw[hag i e];exact this.ag hA2 e (ho i e)
   ·refine(hh.obj i).mono hle rfl fun ho=>hkeep _ ((hh.obj i).lt ho) fun j hj hjo ej=>?_;have:=hh.inj j i (by rw[hag j hj];exact hjo) ho ej;exact e (this▸hj)
  ·have hf':g'.fz (g.blk i):=hf;rcases st.fzn _ hf' with h1|⟨j,hj,ej⟩|h3
   ·exact hh.sep i hi h1
   ·have hjF:=own j hj;have ej':(if j∈F then g.blk j else 0)=g.blk i:=ej;rw[Gd4 hjF]at ej';have hij:=hh.inj j i (by rw[hag j hjF];exact hj) hi ej';subst hij;refine hH.sep j (by rw[hF j hjF];exact hj) ?_;rw[(hblk' j hjF).1];exact hf'
   ·have:g.blk i<w.heap.size:=(hh.obj i).lt hi;omega
 ·rcases st.fzn b hb with h1|⟨j,hj,ej⟩|h3;·exact .inl h1
  ·have hjF:=own j hj;have ej':(if j∈F then g.blk j else 0)=b:=ej;rw[Gd4 hjF]at ej';exact .inr (.inl ⟨j,by rw[hag j hjF];exact hj,ej'⟩)
  ·exact .inr (.inr h3)
section
variable {E:Nat->AVal}{P:Program}{U:Option Nat}{Q:Exit->ASt->Prop}{S S1:ASt}
theorem jzo.mono{c:Bool}{t:List AVal}{h:qzl}{ds:List (Nat×Nat)}{xs:List AArg}{f:FuncId}{args:List AVal}{K K':AVal->qzl->Prop}(H:jzo E P c t h ds xs f args K)(k:∀v h',K v h'->K' v h'):jzo E P c t h ds xs f args K':=by
 rcases H with ⟨v,h1,h2⟩|⟨h1,h2⟩
 ·exact .inl ⟨v,h1,k _ _ h2⟩
 ·exact .inr ⟨fun e=>⟨(h1 e).1,(h1 e).2.mono fun v h' hk=>⟨hk.1,k _ _ hk.2⟩⟩,fun e=>k _ _ (h2 e)⟩
theorem qzhp.imp{id ep:Nat}{args:List AVal}{h:qzl}{K K':AVal->qzl->Prop}(R:qzhp E P id ep args h K)(hk:∀r h',K r h'->K' r h'):qzhp E P id ep args h K':=by obtain⟨ts,ps,asg,body,D,eD,h1,h2,h3⟩:=R;refine⟨ts,ps,asg,body,D,eD,h1,h2,fun U=>(h3 U).mono ?_⟩;rintro e S ⟨he,hid,hb⟩;refine⟨he,hid,hb.mono ?_⟩;intro e' S' hp;cases e'<;>first|exact⟨hp.1,hk _ _ hp.2⟩|exact hp
theorem qznp.mono{x:AVal}{h:qzl}{K K':AVal->qzl->Prop}(H:qznp x h K)(k:∀v h',K v h'->K' v h'):qznp x h K':=by
 unfold qznp at H ⊢;split at H
 ·split at H
  ·split at H;·exact⟨H.1,H.2.1,H.2.2.1,fun i hi hs=>k _ _ (H.2.2.2.1 i hi hs),fun hs=>k _ _ (H.2.2.2.2 hs)⟩
   ·exact H
  ·exact⟨H.1,k _ _ H.2⟩
  ·exact H
 ·exact H
theorem aop.mono{o:qzc}{K K':ASt->Prop}(H:aop E P o S K)(k:∀S',K S'->K' S'):aop E P o S K':=by
 unfold aop at H ⊢;split at H
 ·split at H;·exact H.mono fun v h' hk=>⟨hk.1,k _ hk.2⟩
  ·split at H;·exact⟨H.1,H.2.mono fun v h' hk=>⟨hk.1,k _ hk.2⟩⟩
   ·exact H.imp fun v h' hk=>⟨hk.1,k _ hk.2⟩
   ·exact H
  ·exact H.mono fun v h' hk=>k _ hk
  ·exact⟨H.1,k _ H.2⟩
 ·split at H;·exact H
  ·split at H;·exact H.mono fun v h' hk=>k _ hk
   ·refine⟨fun e=>k _ (H.1 e),fun e=>?_⟩;have H2:=H.2 e;split at H2
    ·exact⟨H2.1,H2.2.mono fun v h' hk=>k _ hk⟩
    ·exact⟨fun e=>⟨(H2.1 e).1,(H2.1 e).2.imp fun v h' hk=>⟨hk.1,k _ hk.2⟩⟩,fun e=>k _ (H2.2 e)⟩
    ·exact H2
   ·exact H
   ·exact⟨H.1,H.2.1,k _ H.2.2⟩
theorem areg.mono:∀{l:List qzc} {S:ASt} {K K':ASt->Prop},areg E P l S K->(∀S',K S'->K' S')->areg E P l S K'
 |[],S,K,K',H,k=>k _ H
 |o :: r,S,K,K',H,k=>aop.mono (H:aop E P o S (fun S'=>areg E P r S' K)) fun S' h'=>areg.mono h' k
theorem dop.mono{o:qzc}{K K':AVal->List Nat->Option (Nat×AObj)->Prop}(H:dop E P o S K)(k:∀v rd out,K v rd out->K' v rd out):dop E P o S K':=by
 unfold dop at H ⊢;split at H
 ·split at H;·obtain⟨v,rd,h1,h2⟩:=H;exact⟨v,rd,h1,k _ _ _ h2⟩
  ·split at H;·obtain⟨he,v,rd,h1,h2⟩:=H;exact⟨he,v,rd,h1,k _ _ _ h2⟩
   ·exact H
  ·exact⟨H.1,k _ _ _ H.2⟩
 ·split at H;·exact H
  ·split at H;·obtain⟨v,rd,h1,h2⟩:=H;exact⟨v,rd,h1,k _ _ _ h2⟩
   ·refine⟨fun e=>k _ _ _ (H.1 e),fun e=>?_⟩;have H2:=H.2 e;split at H2
    ·obtain⟨he,v,rd,h1,h2⟩:=H2;exact⟨he,v,rd,h1,k _ _ _ h2⟩
    ·exact H2
   ·exact⟨H.1,H.2.1,k _ _ _ H.2.2⟩
theorem dreg.mono:∀{l:List qzc} {S:ASt} {K K':ASt->List (List Nat×Option Nat)->Prop},dreg E P l S K->(∀S' tr,K S' tr->K' S' tr)->dreg E P l S K'
 |[],S,K,K',H,k=>k _ _ H
 |o :: r,S,K,K',H,k=>dop.mono (H:dop E P o S _) fun v rd out h'=>dreg.mono h' fun S' tr hk=>k _ _ hk
theorem AW.r1{ops:List qzc}{pr:List (List Nat)}(h:areg E P ops S (fun S'=>S'=S1))(k:Q .normal S1):AW E U P (.reg false ops pr) Q S:=.reg (h.mono fun S' e=>e▸k)
theorem AW.d1{ops:List qzc}{pr:List (List Nat)}(h:dreg E P ops S (fun S' tr=>hpOk pr tr=true/\S'=S1))(k:Q .normal S1):AW E U P (.reg true ops pr) Q S:=.draw (h.mono fun S' tr e=>⟨e.1,e.2▸k⟩)
theorem AW.sr{ops:List qzc}{pr:List (List Nat)}{b:qzk}(h:areg E P ops S (fun S'=>S'=S1))(k:AW E U P b Q S1):AW E U P (.seq (.reg false ops pr) b) Q S:=.seq (.r1 h k)
theorem AW.sd{ops:List qzc}{pr:List (List Nat)}{b:qzk}(h:dreg E P ops S (fun S' tr=>hpOk pr tr=true/\S'=S1))(k:AW E U P b Q S1):AW E U P (.seq (.reg true ops pr) b) Q S:=.seq (.d1 h k)
theorem AW.if'{c:AArg}{a b:qzk}(t:Bool)(hc:argv E S.t c=.bool t)(ht:t=true->AW E U P a Q S)(hf:t=false->AW E U P b Q S):AW E U P (.cond c a b) Q S:=.cond hc ht hf
def qzsg(live:List Nat):Nat->List AVal->List AVal
 |_,[]=>[]
 |i,x :: l=>(bif live.contains i then x else .top) :: qzsg live (i+1) l
theorem qzre(live:List Nat):∀(l:List AVal) (i:Nat),TSub l (qzsg live i l)
 |[],_=>trivial
 |x :: l,i=>by
  refine⟨?_,qzre live l (i+1)⟩;cases live.contains i
  ·exact .inl rfl
  ·exact .refl x
theorem See.keep(live:List Nat)(hds:∀D∈S.ds,S.h D.1=.dfr D.2):See E S ⟨qzsg live 0 S.t,S.h,S.ds⟩:=.of_sub ⟨qzre live S.t 0,fun i=>.refl _,rfl,hds⟩
theorem AW.keep{c:qzk}(live:List Nat){t:List AVal}(ht:qzsg live 0 S.t=t)(hds:∀D∈S.ds,S.h D.1=.dfr D.2)(h:AW E U P c Q ⟨t,S.h,S.ds⟩):AW E U P c Q S:=.see (.keep live hds) (ht▸h)
end
theorem AVal.one_int{k:IntKind}{n:Int}:AVal.one (.int k n)=true:=rfl
theorem AVal.one_bool{b:Bool}:AVal.one (.bool b)=true:=rfl
theorem AVal.one_str{s:List UInt8}:AVal.one (.str s)=true:=rfl
theorem AVal.one_nils :AVal.one .nils=true:=rfl
theorem AVal.one_slc{st n:Nat}{f:Nat->List AVal}:AVal.one (.slc st n f)=true:=rfl
theorem AVal.one_vec{i e o n:Nat}:AVal.one (.vec i e o n)=true:=rfl
theorem AVal.one_ptr{i e o:Nat}:AVal.one (.ptr i e o)=true:=rfl
theorem AVal.one_eptr{i e k o:Nat}:AVal.one (.eptr i e k o)=true:=rfl
theorem AVal.one_cptr{f:Nat->AVal}{l o:Nat}:AVal.one (.cptr f l o)=true:=rfl
theorem AVal.one_nilp :AVal.one .nilp=true:=rfl
theorem AVal.one_fn{f:FuncId}{nb:Nat}{l:List AVal}:AVal.one (.fn f nb l)=true:=rfl
theorem AVal.one_nilfn :AVal.one .nilfn=true:=rfl
theorem AVal.one_mp{i e:Nat}:AVal.one (.mp i e)=true:=rfl
theorem AVal.one_nilmp :AVal.one .nilmp=true:=rfl
theorem qzkh{k:IntKind}{n:Int}:unv (.int k n)=(.int k n):=rfl
theorem qzkv{k:IntKind}{n:Int}{c:Bool}:unc c (.int k n)=True:=rfl
theorem qzh8{b:Bool}:unv (.bool b)=(.bool b):=rfl
theorem qzh4{b:Bool}{c:Bool}:unc c (.bool b)=True:=rfl
theorem qzkt{s:List UInt8}:unv (.str s)=(.str s):=rfl
theorem qzjr{s:List UInt8}{c:Bool}:unc c (.str s)=True:=rfl
theorem qzii :unv .nils=.nils:=rfl
theorem qzik{c:Bool}:unc c .nils=True:=rfl
theorem qzjn{st n:Nat}{f:Nat->List AVal}:unv (.slc st n f)=(.slc st n f):=rfl
theorem qzkm{st n:Nat}{f:Nat->List AVal}{c:Bool}:unc c (.slc st n f)=True:=rfl
theorem qzjf{i e o n:Nat}:unv (.vec i e o n)=(.vec i e o n):=rfl
theorem qzjw{i e o n:Nat}{c:Bool}:unc c (.vec i e o n)=True:=rfl
theorem qzkl{i e o:Nat}:unv (.ptr i e o)=(.ptr i e o):=rfl
theorem qzje{i e o:Nat}{c:Bool}:unc c (.ptr i e o)=True:=rfl
theorem qzh6{i e k o:Nat}:unv (.eptr i e k o)=(.eptr i e k o):=rfl
theorem qzhx{i e k o:Nat}{c:Bool}:unc c (.eptr i e k o)=True:=rfl
theorem qzin{f:Nat->AVal}{l o:Nat}:unv (.cptr f l o)=(.cptr f l o):=rfl
theorem qzig{f:Nat->AVal}{l o:Nat}{c:Bool}:unc c (.cptr f l o)=True:=rfl
theorem qzh5 :unv .nilp=.nilp:=rfl
theorem qzio{c:Bool}:unc c .nilp=True:=rfl
theorem qzm9{f:FuncId}{nb:Nat}{l:List AVal}:unv (.fn f nb l)=(.fn f nb l):=rfl
theorem qzna{f:FuncId}{nb:Nat}{l:List AVal}{c:Bool}:unc c (.fn f nb l)=True:=rfl
theorem qzgf :unv .nilfn=.nilfn:=rfl
theorem qzgr{c:Bool}:unc c .nilfn=True:=rfl
theorem qzmt{i e:Nat}:unv (.mp i e)=(.mp i e):=rfl
theorem qzmr{i e:Nat}{c:Bool}:unc c (.mp i e)=True:=rfl
theorem qzgn :unv .nilmp=.nilmp:=rfl
theorem qzgz{c:Bool}:unc c .nilmp=True:=rfl
theorem qzj6{l:List AVal}:unv (.agg l)=(.agg l):=rfl
theorem qzj9{l:List AVal}{c:Bool}:unc c (.agg l)=True:=rfl
theorem qzjv{l:List AVal}:unv (.tup l)=(.tup l):=rfl
theorem qzka{l:List AVal}{c:Bool}:unc c (.tup l)=True:=rfl
theorem qzju :unv .top=.top:=rfl
theorem qzki{c:Bool}:unc c .top=True:=rfl
theorem qzkr{d:Bool}{x:AVal}:unv (.cnd d x)=x:=rfl
theorem qzku{c d:Bool}{x:AVal}:unc c (.cnd d x)=(c=true->d=true):=rfl
open Go.ChangeShapes
inductive Sh where
 |int (k:IntKind)
 |bool
 |str
 |slc (e:List Sh)
inductive ShOk(N:Nat):Sh->AVal->Prop where
 |int (k:IntKind) (n:Int) (h1:k.min<=n) (h2:n<=k.max):ShOk N (.int k) (.int k n)
 |bool (b:Bool):ShOk N .bool (.bool b)
 |str (s:List UInt8) (h:s.length<=N):ShOk N .str (.str s)
 |slc (e:List Sh) (n:Nat) (f:Nat->List AVal) (hn:n<=N) (hl:∀i,i<n->(f i).length=e.length) (h:∀(i j:Nat) (s:Sh) (x:AVal),i<n->e[j]?=some s->(f i)[j]?=some x->ShOk N s x):ShOk N (.slc e) (.slc e.length n f)
def kz7(N:Nat)(ss:List Sh)(xs:List AVal):Prop:=xs.length=ss.length/\∀(j:Nat) (s:Sh) (x:AVal),ss[j]?=some s->xs[j]?=some x->ShOk N s x
theorem kz7.nil{N:Nat}:kz7 N [] []:=⟨rfl,fun j s x h=>by simp at h⟩
theorem kz7.one{N:Nat}{s:Sh}{x:AVal}(h:ShOk N s x):kz7 N [s] [x]:=by
 refine⟨rfl,fun j s' x' h1 h2=>?_⟩;cases j with
 |zero=>simp at h1 h2;subst h1;subst h2;exact h
 |succ j=>simp at h1
theorem kz7.append{N:Nat}{ss ss':List Sh}{xs xs':List AVal}(h:kz7 N ss xs)(h':kz7 N ss' xs'):kz7 N (ss++ss') (xs++xs'):=by
 refine⟨by simp[h.1,h'.1],fun j s x h1 h2=>?_⟩;by_cases hj:j<ss.length
 ·rw[Gba hj]at h1;rw[Gba (by rw[h.1];exact hj)]at h2;exact h.2 j s x h1 h2
 ·rw[Gbb (by omega)]at h1;rw[Gbb (by rw[h.1];omega),h.1]at h2;exact h'.2 _ s x h1 h2
theorem kz7.cons_inv{N:Nat}{s:Sh}{ss:List Sh}{xs:List AVal}(h:kz7 N (s :: ss) xs):∃x xs',xs=x :: xs'/\ShOk N s x/\kz7 N ss xs':=by
 cases xs with
 |nil=>have:=h.1;simp at this
 |cons x xs=>exact⟨x,xs,rfl,h.2 0 s x rfl rfl,by have:=h.1;simpa using this,fun j s' x' h1 h2=>h.2 (j+1) s' x' (by simpa using h1) (by simpa using h2)⟩
theorem kz7.nil_inv{N:Nat}{xs:List AVal}(h:kz7 N [] xs):xs=[]:=Gbt.1 h.1
theorem ShOk.int_inv{N:Nat}{k:IntKind}{x:AVal}(h:ShOk N (.int k) x):∃n,x=.int k n/\k.min<=n/\n<=k.max:=by cases h;exact⟨_,rfl,by assumption,by assumption⟩
theorem ShOk.slc_inv{N:Nat}{e:List Sh}{x:AVal}(h:ShOk N (.slc e) x):∃n f,x=.slc e.length n f/\n<=N/\∀i,i<n->kz7 N e (f i):=by
 cases h with
 |slc _ n f hn hl h=>exact⟨n,f,rfl,hn,fun i hi=>⟨hl i hi,fun j s x h1 h2=>h i j s x hi h1 h2⟩⟩
section
variable (P:Program)
def rep{α:Type}(s:List α):Nat->List α
 |0=>[]
 |n+1=>s++rep s n
mutual
def kzd:Nat->TypeId->Option (List Sh)
 |0,_=>none
 |n+1,t=>match P.underlying t with
  |some .bool=>some [.bool]
  |some (.int k)=>some [.int k]
  |some .string=>some [.str]
  |some (.slice e)=>match kzd n e with
   |some s=>if P.cellsOf e=s.length/\0<s.length then some [.slc s] else none
   |none=>none
  |some (.struct fs)=>qzbm n (P.cellsOf t) fs.toList 0
  |some (.array m e)=>match kzd n e with
   |some s=>if P.cellsOf e=s.length/\P.cellsOf t=m*s.length then some (rep s m) else none
   |none=>none
  |_=>none
def qzbm:Nat->Nat->List Field->Nat->Option (List Sh)
 |0,_,_,_=>none
 |n+1,c,[],off=>if off=c then some [] else none
 |n+1,c,f :: r,off=>match kzd n f.type with
  | some s=>if f.offset=off/\P.cellsOf f.type=s.length then(match qzbm n c r (off+s.length) with
   |some q=>some (s++q)
   | none=>none) else none
  |none=>none
end
end
theorem qzej{α β:Type}(f:α->Option β):∀(l:List α) (m:List β),l.mapM f=some m->m.length=l.length/\∀(i:Nat) (x:α) (y:β),l[i]?=some x->m[i]?=some y->f x=some y
 |[],m,h=>by simp at h;subst h;exact⟨rfl,fun i x y hx=>by simp at hx⟩
 |a :: l,m,h=>by
  rw[List.mapM_cons]at h;cases ha:f a with
  |none=>rw[ha]at h;cases h
  |some b =>
   rw[ha]at h;cases hl:l.mapM f with
   |none=>rw[hl]at h;cases h
   |some bs =>
    rw[hl]at h;have e:b :: bs=m:=by simpa using h
    subst e;obtain⟨h1,h2⟩:=qzej f l bs hl;refine⟨by simp[h1],fun i x y hx hy=>?_⟩;cases i with
    |zero=>simp at hx hy;subst hx;subst hy;exact ha
    |succ i=>exact h2 i x y (by simpa using hx) (by simpa using hy)
theorem qzfi{α β:Type}{f g:α->Option β}:∀{l:List α} {m:List β},l.mapM f=some m->(∀(i:Nat) (x:α) (y:β),l[i]?=some x->m[i]?=some y->f x=some y->g x=some y)->l.mapM g=some m
 |[],m,h,_=>by simpa using h
 |a :: l,m,h,k=>by
  rw[List.mapM_cons]at h ⊢;cases ha:f a with
  |none=>rw[ha]at h;cases h
  |some b =>
   rw[ha]at h;cases hl:l.mapM f with
   |none=>rw[hl]at h;cases h
   |some bs =>
    rw[hl]at h;have e:b :: bs=m:=by simpa using h
    subst e;rw[k 0 a b rfl rfl ha,qzfi hl fun i x y hx hy=>k (i+1) x y (by simpa using hx) (by simpa using hy)];rfl
theorem qzl9{n i:Nat}(h:i<n):(List.range n)[i]?=some i:=by simp[h]
section
variable {H:Type}{enc:TypeId×Value->H}{P:Program}{w w':World}
theorem qzu6{a:Addr}{n:Nat}{cs:List Value}(h:w.cells? 0 a n=some cs):cs.length=n/\∀i v,cs[i]?=some v->w.cell? (a.add i)=some v:=by
 unfold World.cells? at h;rw[Gd4 (Gdl _)]at h;obtain⟨h1,h2⟩:=qzej _ _ _ h;simp only[Gbv]at h1;refine⟨h1,fun i v hv=>?_⟩;have hi:i<n:=by have:=(Gbg.1 hv).1;omega
 exact h2 i i v (qzl9 hi) hv
theorem qzpt{a:Addr}{v:Value}(h:w.cell? a=some v):a.spot=none/\a.block<w.heap.size:=by
 unfold World.cell? at h;split at h
 ·rename_i hb;split at h
  ·cases h
  ·rename_i hs;exact⟨by simpa using hs,(Gac.1 hb).1⟩
 ·cases h
mutual
def jzml{H:Type}:DataW H->Nat
 |.lit (.string bytes)=>bytes.length+1
 |.lit _=>1
 |.nil=>1
 |.ptr d=>jzml d+1
 |.slice elems spare=>jzmk elems+jzmk spare+1
 |.agg parts=>jzmk parts+1
 |.iface _ d=>jzml d+1
 |.map entries=>jzmn entries+1
 |.held _=>1
def jzmk{H:Type}:List (DataW H)->Nat
 |[]=>0
 |d :: r=>jzml d+jzmk r
def jzmn{H:Type}:List (Lit×DataW H)->Nat
 |[]=>0
 |x :: r=>jzmp x+jzmn r
def jzmp{H:Type}:Lit×DataW H->Nat
 |(.string bytes,d)=>bytes.length+jzml d+1
 |(_,d)=>jzml d+1
end
theorem jzmq(d:DataW H):1<=jzml d:=by
 cases d with
 |lit l=>cases l<;>simp[jzml]
 |_=>simp[jzml]
theorem jzmm:∀{l:List (DataW H)} {d:DataW H},d∈l->jzml d<=jzmk l
 |a :: l,d,h=>by
  rw[jzmk];rcases Gb3.1 h with rfl|h
  ·omega
  ·have:=jzmm h;omega
theorem jzmo:∀(l:List (DataW H)),l.length<=jzmk l
 |[]=>Gcy _
 |a :: l=>by rw[jzmk,Gbr];have:=jzmq a;have:=jzmo l;omega
theorem qzwi{N:Nat}{g:Gh}(hg:∀b,b<w.heap.size->g.fz b){sp:Nat->Bool}{held:Bool}:∀(m fuel:Nat), (∀(t:TypeId) (cs:List Value) (d:DataW H) (ps:List MemPlace) (ss:List Sh),DataW.trod enc P w 0 sp held fuel t cs=some (d,ps)->kzd P m t=some ss->(maxLen<=N\/jzml d<=N) -> (∀v∈cs,v.oneCell'=true)/\∃xs,RVs g w xs cs/\kz7 N ss xs) /\
  (∀(fs:List Field) (c off:Nat) (cs:List Value) (res:List (DataW H×List MemPlace)) (ss:List Sh),cs.length=c->qzbm P m c fs off=some ss ->
   fs.mapM (fun f=>DataW.trod enc P w 0 sp held fuel f.type ((cs.drop f.offset).take (P.cellsOf f.type)))=some res->(maxLen<=N\/∀x∈res,jzml x.1<=N)->(∀v∈cs.drop off,v.oneCell'=true)/\∃xs,RVs g w xs (cs.drop off)/\kz7 N ss xs):=by
 intro m;induction m with
 |zero=>intro fuel;exact⟨fun t cs d ps ss _ h=>by simp[kzd]at h,fun fs c off cs res ss _ h=>by simp[qzbm]at h⟩
 |succ m ih =>
  intro fuel;constructor
  ·intro t cs d ps ss h hs hN;cases fuel with
   |zero=>simp[DataW.trod]at h
   |succ fuel =>
   obtain⟨ih1,ih2⟩:=ih fuel;unfold DataW.trod at h;unfold kzd at hs;cases hu:P.underlying t with
   |none=>rw[hu]at hs;cases hs
   |some de =>
   rw[hu]at h hs;cases de<;>simp only at hs<;>(try (cases hs;done))
   case bool =>
    rcases cs with _|⟨v,_|⟨v',r⟩⟩
    ·cases h
    ·cases v<;>(try (cases h;done))
     case bool b =>cases hs;exact⟨by simp[Value.oneCell'],[.bool b],.cons (.bool b) (.nil g w),.one (.bool b)⟩
    ·cases v<;>cases h
   case int k =>
    rcases cs with _|⟨v,_|⟨v',r⟩⟩
    ·cases h
    ·cases v<;>(try (cases h;done))
     case int k' n =>
      simp only at h;split at h
      ·rename_i hk;obtain⟨rfl,hw⟩:=hk;cases hs;simp only[Lit.wf,Gai,Gdz]at hw;exact⟨by simp[Value.oneCell'],[.int _ n],.cons (.int _ n) (.nil g w),.one (.int _ n hw.1 hw.2)⟩
      ·cases h
    ·cases v<;>cases h
   case string =>
    rcases cs with _|⟨v,_|⟨v',r⟩⟩
    ·cases h
    ·cases v<;>(try (cases h;done))
     case string s =>
      simp only at h;split at h
      ·rename_i hl;cases hs;cases h
       have hsl:s.data.toList.length<=N:=by
        rcases hN with hN|hN
        ·have:s.data.toList.length<=maxLen:=(by simpa using hl);omega
        ·simp only[jzml]at hN;omega
       exact⟨by simp[Value.oneCell'],[.str s.data.toList],.cons (.str _ s rfl) (.nil g w),.one (.str _ hsl)⟩
      ·cases h
    ·cases v<;>cases h
   case slice e =>
    rcases cs with _|⟨v,_|⟨v',r⟩⟩
    ·cases h
    ·cases v<;>(try (cases h;done))
     case slice ao len cap =>
      cases ao with
      |none =>
       have hnil:len=0/\cap=0:=by
        rcases len with _|len
        ·rcases cap with _|cap;·exact⟨rfl,rfl⟩
         ·cases h
        ·cases h
       obtain⟨rfl,rfl⟩:=hnil;split at hs
       ·split at hs;·cases hs;exact⟨by simp[Value.oneCell'],[.slc _ 0 (fun _=>[])],.cons (.slc0 _ _ _ _) (.nil g w),.one (.slc _ 0 _ (Gdl _) (fun i hi=>by omega) (fun i j s x hi=>by omega))⟩
        ·cases hs
       ·cases hs
      |some a =>
       simp only at h;split at hs
       ·rename_i s hse;split at hs
        ·rename_i hcs;obtain⟨hce,hpos⟩:=hcs;cases hs;split at h
         ·rename_i hb;obtain⟨_,hlc,hcm⟩:=hb;refine⟨by simp[Value.oneCell'],?_⟩;simp only[Option.bind_eq_some_iff,Gdn]at h;obtain⟨elems,hel,rest,hrest,heq⟩:=h;obtain⟨hl1,hl2⟩:=qzej _ _ _ hel;simp only[Gbv]at hl1;have hd:DataW.slice (elems.map Prod.fst) (rest.map Prod.fst)=d:=(Prod.mk.inj heq).1
          have hlN:len<=N:=by
           rcases hN with hN|hN
           ·omega
           ·rw[<-hd,jzml]at hN;have:=jzmo (elems.map Prod.fst);rw[Gbu]at this;omega
          have heN:maxLen<=N\/∀y∈elems,jzml y.1<=N:=by
           rcases hN with hN|hN
           ·exact .inl hN
           ·refine .inr fun y hy=>?_;rw[<-hd,jzml]at hN;have:=jzmm (Gb8 (f:=Prod.fst) hy);omega
          by_cases h0:len=0
          ·subst h0;exact⟨[.slc _ 0 (fun _=>[])],.cons (.slc0 _ _ _ _) (.nil g w),.one (.slc _ 0 _ (Gdl _) (fun i hi=>by omega) (fun i j s x hi=>by omega))⟩
          have each:∀i,i<len->∃row:List Value,row.length=s.length/\(∀j v,row[j]?=some v->w.cell? ((a.add (i*P.cellsOf e)).add j)=some v)/\(∀v∈row,v.oneCell'=true)/\∃xs,RVs g w xs row/\kz7 N s xs:=(by intro i hi;have h1:=hl2 i i _ (qzl9 hi) (Gbe (by omega:i<elems.length));obtain⟨row,hr,ht⟩:=Option.bind_eq_some_iff.1 h1;obtain⟨r1,r2⟩:=qzu6 hr;obtain⟨o1,o2⟩:=ih1 e row _ _ s ht hse (heN.imp id fun h=>h _ (Gbo _));exact⟨row,by omega,r2,o1,o2⟩);obtain⟨row0,r01,r02,_,_⟩:=each 0 (by omega);have hsp:a.spot=none/\a.block<w.heap.size:=by have:=r02 0 _ (Gbe (by omega:0<row0.length));have:=qzpt this;simpa [Addr.add] using this
          have rowx:∀i,∃p:List Value×List AVal,i<len->p.1.length=s.length/\(∀j v,p.1[j]?=some v->w.cell? ((a.add (i*P.cellsOf e)).add j)=some v)/\(∀v∈p.1,v.oneCell'=true)/\RVs g w p.2 p.1/\kz7 N s p.2:=by
           intro i;by_cases hi:i<len
           ·obtain⟨row,a1,a2,a3,xs,a4,a5⟩:=each i hi;exact⟨(row,xs),fun _=>⟨a1,a2,a3,a4,a5⟩⟩
           ·exact⟨([],[]),fun h=>absurd h hi⟩
          let F:=fun i=>(rowx i).choose
          have hF:∀i,i<len->_:=fun i=>(rowx i).choose_spec;obtain⟨blk,off,spot⟩:=a;obtain⟨hs1,hs2⟩:=hsp;simp only at hs1 hs2;subst hs1
          refine⟨[.slc s.length len (fun i=>(F i).2)],.cons (.slc s.length len _ blk off cap (fun i j=>(F i).1.getD j undef) (hg blk hs2) hlc (fun i hi=>(hF i hi).2.2.2.2.1) (fun i j hi hj=>?_) (fun i j hi hj=>?_) (fun i j x hi hx=>?_)) (.nil g w),
           .one (.slc s len _ hlN (fun i hi=>(hF i hi).2.2.2.2.1) (fun i j s' x hi h1 h2=>(hF i hi).2.2.2.2.2 j s' x h1 h2))⟩
          ·have h1:=(hF i hi).1;have hj':j<(F i).1.length:=(by show j<(rowx i).choose.1.length;omega);have h2:=(hF i hi).2.1 j _ (Gbe hj');have e1:((⟨blk,off,none⟩:Addr).add (i*P.cellsOf e)).add j=⟨blk,off+i*s.length+j,none⟩:=(by rw[hce];unfold Addr.add;by_cases a1:i*s.length=0<;>by_cases a2:j=0<;>simp[a1,a2,Gcl]);rw[e1]at h2;rw[h2];simp[List.getD,hj']
          ·have h1:=(hF i hi).1;have hj':j<(F i).1.length:=(by show j<(rowx i).choose.1.length;omega);have e2:(F i).1.getD j undef=(F i).1[j]:=(by simp[List.getD,hj']);rw[e2];exact(hF i hi).2.2.1 _ (Gbo hj')
          ·have h1:=(hF i hi).1;have h4:=(hF i hi).2.2.2.1;have hj:j<(F i).2.length:=(Gbg.1 hx).1;have hj':j<(F i).1.length:=(by have:(F i).1.length=(F i).2.length:=h4.1;omega);have e2:(F i).1.getD j undef=(F i).1[j]:=(by simp[List.getD,hj']);have e3:(F i).1[j]?=some (F i).1[j]:=Gbe hj';exact h4.2 j x _ hx (e3.trans (by rw[e2]))
         ·cases h
        ·cases hs
       ·cases hs
    ·cases v<;>first|(cases h;done)|(rename_i ao len cap;rcases ao with _|ao<;>rcases len with _|len<;>rcases cap with _|cap<;>cases h)
   case struct fs =>
    simp only at h;split at h
    ·rename_i hlen;simp only[Gdn]at h;obtain⟨res,hres,heq⟩:=h;have hd:DataW.agg (res.map Prod.fst)=d:=(Prod.mk.inj heq).1;have:=ih2 fs.toList (P.cellsOf t) 0 cs res ss hlen hs hres (hN.imp id fun hN x hx=>by rw[<-hd,jzml]at hN;have:=jzmm (Gb8 (f:=Prod.fst) hx);omega);simpa using this
    ·cases h
   case array n e =>
    simp only at h;split at hs
    ·rename_i s hse;split at hs
     ·rename_i hcs;obtain⟨hce,hct⟩:=hcs;cases hs;split at h
      ·rename_i hlen;simp only[Gdn]at h;obtain⟨res,hres,heq⟩:=h;have hd:DataW.agg (res.map Prod.fst)=d:=(Prod.mk.inj heq).1;have heN:maxLen<=N\/∀y∈res,jzml y.1<=N:=hN.imp id fun hN x hx=>by rw[<-hd,jzml]at hN;have:=jzmm (Gb8 (f:=Prod.fst) hx);omega
       obtain⟨hl1,hl2⟩:=qzej _ _ _ hres;simp only[Gbv]at hl1
       have go:∀k i,i+k=n->(∀v∈cs.drop (i*s.length),v.oneCell'=true)/\∃xs,RVs g w xs (cs.drop (i*s.length))/\kz7 N (rep s k) xs:=by
        intro k;induction k with
        |zero =>
         intro i hi
         have:cs.drop (i*s.length)=[]:=by
          rw[Ga5];have:i=n:=by omega
          subst this;omega
         rw[this];exact⟨by simp,[],.nil g w,.nil⟩
        |succ k ihk =>
         intro i hi;obtain⟨t1,xs1,t2,t3⟩:=ihk (i+1) (by omega);have h1:=hl2 i i _ (qzl9 (by omega)) (Gbe (by omega:i<res.length));obtain⟨o1,xs0,o2,o3⟩:=ih1 e _ _ _ s h1 hse (heN.imp id fun h=>h _ (Gbo _));have e1:(cs.drop (i*P.cellsOf e)).take (P.cellsOf e)++cs.drop ((i+1)*s.length)=cs.drop (i*s.length):=by rw[hce,Gdj,<-Ga3];exact Gcj _ _
         rw[<-e1];exact⟨fun v hv=>(Gb2.1 hv).elim (o1 v) (t1 v),xs0++xs1,o2.append t2,o3.append t3⟩
       have:=go n 0 (by omega);simpa using this
      ·cases h
     ·cases hs
    ·cases hs
  ·intro fs c off cs res ss hlen hs hres hN;cases fs with
   |nil =>
    simp only[qzbm]at hs;split at hs
    ·rename_i ho;cases hs;have:cs.drop off=[]:=by rw[Ga5];omega
     rw[this];exact⟨by simp,[],.nil g w,.nil⟩
    ·cases hs
   |cons f r =>
    obtain⟨ih1,ih2⟩:=ih fuel;simp only[qzbm]at hs;split at hs
    ·rename_i s hse;split at hs
     ·rename_i hcs;obtain⟨ho,hce⟩:=hcs;split at hs
      ·rename_i q hq;cases hs;rw[List.mapM_cons]at hres;cases ha:DataW.trod enc P w 0 sp held fuel f.type ((cs.drop f.offset).take (P.cellsOf f.type)) with
       |none=>rw[ha]at hres;cases hres
       |some y =>
        rw[ha]at hres;cases hl:r.mapM (fun f=>DataW.trod enc P w 0 sp held fuel f.type ((cs.drop f.offset).take (P.cellsOf f.type))) with
        |none=>rw[hl]at hres;cases hres
        |some ys =>
         rw[hl]at hres;have e:y :: ys=res:=by simpa using hres
         subst e;obtain⟨o1,xs0,o2,o3⟩:=ih1 f.type _ y.1 y.2 s ha hse (hN.imp id fun h=>h y (Gb5 ..));obtain⟨t1,xs1,t2,t3⟩:=ih2 r c (off+s.length) cs ys q hlen hq hl (hN.imp id fun h x hx=>h x (Gb4 _ hx));have e1:(cs.drop f.offset).take (P.cellsOf f.type)++cs.drop (off+s.length)=cs.drop off:=by rw[hce,ho,<-Ga3];exact Gcj _ _
         rw[<-e1];exact⟨fun v hv=>(Gb2.1 hv).elim (o1 v) (t1 v),xs0++xs1,o2.append t2,o3.append t3⟩
      ·cases hs
     ·cases hs
    ·cases hs
theorem wzdd{a:Addr}{n:Nat}(h:0<n):MemPlace.cell a.block a.off∈MemPlace.row a n:=by unfold MemPlace.row;rw[Gb7];exact⟨0,Gcb.2 h,by simp⟩
theorem qztv(hh:∀b,b<w.heap.size->w'.heap[b]?=w.heap[b]?){a:Addr}{n:Nat}{cs:List Value}(h:w.cells? 0 a n=some cs):w'.cells? 0 a n=some cs:=by
 unfold World.cells? at h ⊢;rw[Gd4 (Gdl _)]at h ⊢;refine qzfi h fun i x y _ _ hy=>?_;have hb:=(qzpt hy).2;have e:(a.add x).block=a.block:=by unfold Addr.add;split<;>rfl
 have:=hh _ hb;unfold World.cell? at hy ⊢;rw[this];exact hy
theorem qzun(hh:∀b,b<w.heap.size->w'.heap[b]?=w.heap[b]?){sp:Nat->Bool}{held:Bool}:∀(m fuel:Nat),
  (∀(t:TypeId) (cs:List Value) (d:DataW H) (ps:List MemPlace) (ss:List Sh),DataW.trod enc P w 0 (fun _=>true) held fuel t cs=some (d,ps)->kzd P m t=some ss->(∀p∈ps,sp p.block=true) ->
   DataW.trod enc P w' 0 sp held fuel t cs=some (d,ps)) /\
  (∀(fs:List Field) (c off:Nat) (cs:List Value) (res:List (DataW H×List MemPlace)) (ss:List Sh),qzbm P m c fs off=some ss ->
   fs.mapM (fun f=>DataW.trod enc P w 0 (fun _=>true) held fuel f.type ((cs.drop f.offset).take (P.cellsOf f.type)))=some res->(∀x∈res,∀p∈x.2,sp p.block=true) ->
   fs.mapM (fun f=>DataW.trod enc P w' 0 sp held fuel f.type ((cs.drop f.offset).take (P.cellsOf f.type)))=some res):=by
 intro m;induction m with
 |zero=>intro fuel;exact⟨fun t cs d ps ss _ h=>by simp[kzd]at h,fun fs c off cs res ss h=>by simp[qzbm]at h⟩
 |succ m ih =>
  intro fuel;constructor
  ·intro t cs d ps ss h hs hp;cases fuel with
   |zero=>simp[DataW.trod]at h
   |succ fuel =>
   obtain⟨ih1,ih2⟩:=ih fuel;unfold DataW.trod at h ⊢;unfold kzd at hs;cases hu:P.underlying t with
   |none=>rw[hu]at hs;cases hs
   |some de =>
   rw[hu]at h hs;cases de<;>simp only at hs<;>(try (cases hs;done))
   case bool =>
    rcases cs with _|⟨v,_|⟨v',r⟩⟩
    ·cases h
    ·cases v<;>(try (cases h;done));exact h
    ·cases v<;>cases h
   case int k =>
    rcases cs with _|⟨v,_|⟨v',r⟩⟩
    ·cases h
    ·cases v<;>(try (cases h;done));exact h
    ·cases v<;>cases h
   case string =>
    rcases cs with _|⟨v,_|⟨v',r⟩⟩
    ·cases h
    ·cases v<;>(try (cases h;done));exact h
    ·cases v<;>cases h
   case slice e =>
    rcases cs with _|⟨v,_|⟨v',r⟩⟩
    ·cases h
    ·cases v<;>(try (cases h;done))
     case slice ao len cap =>
      cases ao with
      |none =>
       rcases len with _|len
       ·rcases cap with _|cap;·exact h
        ·cases h
       ·cases h
      |some a =>
       simp only at h ⊢;split at hs
       ·rename_i s hse;split at hs
        ·rename_i hcs;obtain⟨hce,hpos⟩:=hcs;split at h
         ·rename_i hb;rw[Gd4 hb];simp only[Option.bind_eq_some_iff,Gd5,Gdn]at h;obtain⟨elems,hel,rest,hrest,heq⟩:=h;obtain⟨hl1,hl2⟩:=qzej _ _ _ hel;obtain⟨hr1,hr2⟩:=qzej _ _ _ hrest;simp only[Gbv]at hl1 hr1;simp only[Gdr]at heq;obtain⟨hd,hps⟩:=heq;have sub:∀x∈elems++rest,∀p∈x.2,sp p.block=true:=fun x hx p hpx=>hp p (by rw[<-hps];exact Gb2.2 (.inr (List.mem_flatMap.2 ⟨x,hx,hpx⟩)));have step:∀(i:Nat) (y:DataW H×List MemPlace),y∈elems++rest->(w.cells? 0 (a.add (i*P.cellsOf e)) (P.cellsOf e)).bind (DataW.trod enc P w 0 (fun _=>true) held fuel e)=some y -> (w'.cells? 0 (a.add (i*P.cellsOf e)) (P.cellsOf e)).bind (DataW.trod enc P w' 0 sp held fuel e)=some y:=by intro i y hy hi;obtain⟨row,h1,h2⟩:=Option.bind_eq_some_iff.1 hi;rw[qztv hh h1];exact ih1 e row y.1 y.2 s h2 hse (sub y hy)
          have he1:(List.range len).mapM (fun i=>(w'.cells? 0 (a.add (i*P.cellsOf e)) (P.cellsOf e)).bind (DataW.trod enc P w' 0 sp held fuel e))=some elems :=
           qzfi hel fun i x y hx hy hxy=>step x y (Gb2.2 (.inl (Gb9 hy))) hxy
          have he2:(if sp a.block=true then(List.range (cap-len)).mapM (fun j=>(w'.cells? 0 (a.add ((len+j)*P.cellsOf e)) (P.cellsOf e)).bind (DataW.trod enc P w' 0 sp held fuel e)) else some [])=some rest:=by
           by_cases hsp:sp a.block=true
           ·rw[Gd4 hsp];exact qzfi hrest fun i x y hx hy hxy=>step (len+x) y (Gb2.2 (.inr (Gb9 hy))) hxy
           ·rw[Gd3 hsp];by_cases hc:0<elems.length+rest.length
            ·exfalso;have hpm:MemPlace.cell a.block a.off∈ps:=(by rw[<-hps];exact Gb2.2 (.inl (wzdd (Nat.mul_pos hc (by omega)))));exact hsp (hp _ hpm)
            ·have:rest=[]:=Gbt.1 (by omega);rw[this]
          rw[he1];simp only[Option.bind_some];rw[he2];simp only[Gdo,hd,hps]
         ·cases h
        ·cases hs
       ·cases hs
    ·cases v<;>first|(cases h;done)|(rename_i ao len cap;rcases ao with _|ao<;>rcases len with _|len<;>rcases cap with _|cap<;>cases h)
   case struct fs =>
    simp only at h ⊢;split at h
    ·rename_i hlen;rw[Gd4 hlen];simp only[Gdn]at h ⊢;obtain⟨res,hres,heq⟩:=h;refine⟨res,ih2 fs.toList (P.cellsOf t) 0 cs res ss hs hres fun x hx p hpx=>hp p ?_,heq⟩;simp only[Gdr]at heq;rw[<-heq.2];exact List.mem_flatMap.2 ⟨x,hx,hpx⟩
    ·cases h
   case array n e =>
    simp only at h ⊢;split at hs
    ·rename_i s hse;split at hs
     ·split at h;·rename_i hlen;rw[Gd4 hlen];simp only[Gdn]at h ⊢;obtain⟨res,hres,heq⟩:=h;simp only[Gdr]at heq;refine⟨res,qzfi hres fun i x y hx hy hxy=>ih1 e _ y.1 y.2 s hxy hse fun p hpx=>hp p ?_,by simp[heq.1,heq.2]⟩;rw[<-heq.2];exact List.mem_flatMap.2 ⟨y,Gb9 hy,hpx⟩
      ·cases h
     ·cases hs
    ·cases hs
  ·intro fs c off cs res ss hs hres hp;cases fs with
   |nil=>simpa using hres
   |cons f r =>
    obtain⟨ih1,ih2⟩:=ih fuel;simp only[qzbm]at hs;split at hs
    ·rename_i s hse;split at hs
     ·split at hs
      ·rename_i q hq;rw[List.mapM_cons]at hres ⊢;cases ha:DataW.trod enc P w 0 (fun _=>true) held fuel f.type ((cs.drop f.offset).take (P.cellsOf f.type)) with
       |none=>rw[ha]at hres;cases hres
       |some y =>
        rw[ha]at hres;cases hl:r.mapM (fun f=>DataW.trod enc P w 0 (fun _=>true) held fuel f.type ((cs.drop f.offset).take (P.cellsOf f.type))) with
        |none=>rw[hl]at hres;cases hres
        |some ys =>
         rw[hl]at hres;have e:y :: ys=res:=by simpa using hres
         subst e;rw[ih1 f.type _ y.1 y.2 s ha hse (fun p hpx=>hp y (Gb5 ..) p hpx),ih2 r c (off+s.length) cs ys q hq hl (fun x hx=>hp x (Gb4 _ hx))];rfl
      ·cases hs
     ·cases hs
    ·cases hs
end
open Go.ChangeShapes Go.WideShapes Go.ChangeAt Go.RowKit
def qzgq(P:Program)(t:TypeId):Bool:=match P.underlying t with
 |some (.struct _) | some (.array _ _)=>true
 |_=>false
def qz8q(N:Nat)(P:Program)(m:Nat)(t:TypeId)(x:AVal):Prop:=∃ss,kzd P m t=some ss/\((qzgq P t=true/\∃xs,x=.agg xs/\kz7 N ss xs)\/(qzgq P t=false/\∃s,ss=[s]/\ShOk N s x))
def qzma(N:Nat)(P:Program)(m:Nat):List TypeId->List AVal->Prop
 |[],[]=>True
 |t :: ts,x :: xs=>qz8q N P m t x/\qzma N P m ts xs
 |_,_=>False
section
variable {H:Type}{enc:TypeId×Value->H}{P:Program}{W W':World}
theorem qz3s{N:Nat}{g:Gh}(hg:∀b,b<W.heap.size->g.fz b){m:Nat}{r:Reach}{b0:Nat}{t:TypeId}{v:Value}{sp:Nat->Bool}{held:Bool}{d:DataW H}{ps:List MemPlace}(hval:Value.okWide P W r b0 t v)(h:DataW.Trod enc P W 0 sp held t v d ps)(hs:(kzd P m t).isSome=true)(hN:maxLen<=N\/jzml d<=N) : ∃x,RV g W x v/\qz8q N P m t x:=by
 obtain⟨fuel,h⟩:=h;obtain⟨ss,hss⟩:=Option.isSome_iff_exists.1 hs;obtain⟨_,xs,hx,hsh⟩:=(qzwi hg m fuel).1 t _ d ps ss h hss hN;by_cases ha:qzgq P t=true
 ·have:∃cs,v=.agg cs:=by
   unfold qzgq at ha;unfold Value.okWide at hval;split at ha<;>rename_i hu<;>first|(rw[hu]at hval;obtain⟨cs,e,_⟩:=hval;exact⟨cs,e⟩)|cases ha
  obtain⟨cs,rfl⟩:=this;exact⟨.agg xs,.agg xs cs (by simpa [Value.cells] using hx.1) (fun i x v h1 h2=>hx.2 i x v h1 (by simpa [Value.cells] using h2)),ss,hss,.inl ⟨ha,xs,rfl,hsh⟩⟩
 ·have ha':qzgq P t=false:=by simpa using ha
  have hone:v.cells.toList=[v]:=by
   cases v<;>first|rfl|skip
   case agg cs =>
    exfalso;unfold qzgq at ha';unfold Value.okWide at hval;cases hu:P.underlying t with
    |none=>rw[hu]at hval;simp[Cell.okWide,Cell.ok,hu]at hval
    |some de =>rw[hu]at hval ha';cases de<;>simp[Cell.okWide,Cell.ok,hu]at hval ha'
  rw[hone]at hx;have hl:=hx.1;simp only[Gby]at hl
  match xs,hl,hx,hsh with
  |[x],_,hx,hsh =>
   have h1:=hsh.1;simp only[Gby]at h1
   match ss,h1,hss,hsh with
   |[s],_,hss,hsh=>exact⟨x,hx.2 0 x v rfl rfl,[s],hss,.inr ⟨ha',s,rfl,hsh.2 0 s x rfl rfl⟩⟩
theorem qzrr{N:Nat}{g:Gh}(hg:∀b,b<W.heap.size->g.fz b){m:Nat}{r:Reach}{b0:Nat}{sp:Nat->Bool}{held:Bool}:∀{ts:List TypeId} {vs:List Value} {ds:List (DataW H)} {ps:List MemPlace}, (∀(j:Nat) t v,ts[j]?=some t->vs[j]?=some v->Value.okWide P W r b0 t v)->DataW.TrodAll enc P W 0 sp held ts vs ds ps->(∀t∈ts,(kzd P m t).isSome=true)->(maxLen<=N\/jzmk ds<=N)->∃xs,RVs g W xs vs/\qzma N P m ts xs
 |[],vs,ds,ps,_,h,_,_=>by obtain⟨rfl,_,_⟩:=trodAll_nil h;exact⟨[],.nil _ _,trivial⟩
 |t :: ts,vs,ds,ps,hv,h,hs,hN=>by obtain⟨v,vs',d,ds',p,q,rfl,rfl,rfl,h1,h2⟩:=trodAll_cons h;obtain⟨x,hx,ha⟩:=qz3s hg (hv 0 t v rfl rfl) h1 (hs t (Gb5 ..)) (hN.imp id fun h=>by rw[jzmk]at h;omega);obtain⟨xs,hxs,has⟩:=qzrr hg (fun j t v h1 h2=>hv (j+1) t v (by simpa using h1) (by simpa using h2)) h2 (fun t ht=>hs t (Gb4 _ ht)) (hN.imp id fun h=>by rw[jzmk]at h;omega);exact⟨x :: xs,.cons hx hxs,ha,has⟩
theorem qzpe(hh:∀b,b<W.heap.size->W'.heap[b]?=W.heap[b]?){m:Nat}{sp:Nat->Bool}{held:Bool}:∀{ts:List TypeId} {vs:List Value} {ds:List (DataW H)} {ps:List MemPlace},
  DataW.TrodAll enc P W 0 (fun _=>true) held ts vs ds ps->(∀t∈ts,(kzd P m t).isSome=true)->(∀p∈ps,sp p.block=true)->DataW.TrodAll enc P W' 0 sp held ts vs ds ps
 |[],vs,ds,ps,h,_,_=>by obtain⟨rfl,rfl,rfl⟩:=trodAll_nil h;exact trodAll_mk0
 |t :: ts,vs,ds,ps,h,hs,hp=>by obtain⟨v,vs',d,ds',p,q,rfl,rfl,rfl,⟨fuel,h1⟩,h2⟩:=trodAll_cons h;obtain⟨ss,hss⟩:=Option.isSome_iff_exists.1 (hs t (Gb5 ..));exact trodAll_cons_mk ⟨fuel,(qzun hh m fuel).1 t _ d p ss h1 hss fun x hx=>hp x (Gb2.2 (.inl hx))⟩ (qzpe hh h2 (fun t ht=>hs t (Gb4 _ ht)) (fun x hx=>hp x (Gb2.2 (.inr hx))))
theorem law_contract{N:Nat}{E:Nat->AVal}{f:FuncId}{fn:Func}{s:ChangeSpec}{m:Nat}{tb:TypeId}{laid:List (String×DataW Unit)}{W:World}{base:Nat}{args:Array Value}{ds gs:List (DataW H)}{before:List MemPlace}(hshape:∀t∈fn.params.toList,(kzd P m t).isSome=true) (hres:fn.resultTypes=#[tb]) (hb:P.underlying tb=some .bool) (hvars:s.vars=[])(hspec:∀ds:List (DataW H),ds.length=fn.params.toList.length->s.fn H ds={ results:=[.lit (.bool true)],args:=ds })(hglob:∀g:Gh,(∀b,b<W.heap.size->g.fz b)->∀i,RV g W (E i) (.pointer (some ⟨i,0,none⟩)))(hN:maxLen<=N\/jzmk ds<=N)(law:∀xs,qzma N P m fn.params.toList xs->qzq E P f xs (.bool true))(hval:∀(j:Nat) t v,fn.params[j]?=some t->args[j]?=some v->Value.okWide P W .any base t v)(hW:DataW.Whole enc P fn.params.toList s.vars false W args.toList ds gs before) :
  Calls P f args W fun e W'=>∃v,e=.returned v/\s.post enc P fn false true false false W args v W':=by
 have hW':=hW;obtain⟨p,q,hA,hV,rfl,hfz,hnd⟩:=hW;rw[hvars]at hV;obtain⟨rfl,rfl⟩:=trodVars_none hV
 let g:Gh:=⟨fun _=>0,fun _=>0,fun _=>0,fun _=>0,fun _=>0,fun b=>b<W.heap.size⟩
 have hg:∀b,b<W.heap.size->g.fz b:=fun b h=>h;obtain⟨xs,hxs,hok⟩:=qzrr hg (fun j t v h1 h2=>hval j t v (by simpa using h1) (by simpa using h2)) hA hshape hN;have HR0:HR E g h0 W:=⟨fun _=>trivial,fun _=>rfl,(by intro i j hi;cases hi),(by intro i hi;cases hi),fun b hb=>hb,hglob g hg⟩;have main:=law xs hok h0 g W args.toList HR0 hxs;rw[Gah]at main;refine main.mono ?_;rintro e W' ⟨g',h',r,v,⟨rfl,rfl⟩,rfl,hrv,_,st⟩;cases hrv;have hh:∀b,b<W.heap.size->W'.heap[b]?=W.heap[b]?:=fun b hb=>st.keep b hb (by intro i hi;cases hi);have hlen:ds.length=fn.params.toList.length:=(trodAll_length hA).2;refine⟨_,rfl,ds,[],_,[],p,[],hW',?_,?_,?_,?_,fun h=>by cases h⟩
 ·rw[List.append_nil,hspec ds hlen,hres];exact trodAll_cons_mk (shut_bool hb true) trodAll_mk0
 ·rw[List.append_nil,hspec ds hlen];exact qzpe hh hA hshape fun x hx=>by simpa using hW'.lt x (Gb2.2 (.inl hx))
 ·rw[List.append_nil,hspec ds hlen,hvars];exact rfl
 ·refine⟨st.os,st.output,fun i hi=>?_⟩;rw[hh i hi];cases W.heap[i]? with
  |none=>rfl
  |some o=>cases o<;>first | exact⟨rfl,rfl,rfl,fun _ _=>rfl⟩ | exact .inr ⟨rfl,rfl⟩ | rfl
end
def look:List (Nat×AVal)->Nat->AVal
 |[],_=>.top
 |p :: r,i=>if p.1=i then p.2 else look r i
def tl(m:List (Nat×AVal))(n:Nat):List AVal:=(List.range n).map (look m)
def qz8:List (Nat×AObj)->Nat->AObj
 |[],_=>.gone 0
 |p :: r,i=>if p.1=i then p.2 else qz8 r i
def hl(m:List (Nat×AObj)):qzl:=fun i=>qz8 m i
theorem qzgt(m:List (Nat×AVal))(n:Nat):(tl m n).length=n:=by simp[tl]
theorem qzem(m:List (Nat×AVal))(n i:Nat):(tl m n)[i]?=if i<n then some (look m i) else none:=by unfold tl;by_cases h:i<n<;>simp[h]
theorem qzj7(m:List (Nat×AVal))(n i:Nat):(tl m n)[i]?.getD .top=if i<n then look m i else .top:=by rw[qzem];split<;>rfl
theorem qzhq(m:List (Nat×AVal))(n i:Nat):(tl m n).getD i .top=if i<n then look m i else .top:=by rw[Ga9,qzj7]
theorem qzm6(m:List (Nat×AVal))(n i:Nat)(v:AVal):(tl m n).set i v=tl ((i,v) :: m) n:=by
 apply Ga7;intro j;rw[Gbl,qzgt,qzem,qzem];by_cases h:i=j
 ·subst h;simp[look]
 ·simp[h,look]
theorem qzih(m:List (Nat×AObj))(i:Nat)(o:AObj):hset (hl m) i o=hl ((i,o) :: m):=by
 funext j;simp only[hset,hl,qz8];by_cases h:j=i
 ·subst h;simp
 ·have h':¬i=j:=fun e=>h e.symm;simp[h,h']
theorem qzm4(m:List (Nat×AObj))(i:Nat):hl m i=qz8 m i:=rfl
def zipA:Nat->List AVal->List (Nat×AVal)
 |_,[]=>[]
 |i,x :: r=>(i,x) :: zipA (i+1) r
theorem qzrm:∀(l:List AVal) (k i:Nat),look (zipA k l) i=if k<=i then l.getD (i-k) .top else .top
 |[],k,i=>by simp[zipA,look]
 |x :: r,k,i=>by
  have ih:=qzrm r (k+1) i;simp only[zipA,look];by_cases h:k=i
  ·subst h;simp
  ·rw[Gd3 h,ih];by_cases h1:k+1<=i
   ·rw[Gd4 h1,Gd4 (by omega)];obtain⟨d,hd⟩:∃d,i-k=d+1:=⟨i-k-1,by omega⟩;rw[hd,show i-(k+1)=d by omega];rfl
   ·rw[Gd3 h1,Gd3 (by omega)]
theorem wzct(l:List AVal)(k:Nat):l++List.replicate k .top=tl (zipA 0 l) (l.length+k):=by
 apply Ga7;intro i;rw[qzem,qzrm];simp only[Gdl,Gd5,Nat.sub_zero];by_cases h:i<l.length
 ·rw[Gba h,Gd4 (by omega)];simp[h]
 ·rw[Gbb (by omega),List.getElem?_replicate];by_cases h2:i<l.length+k
  ·rw[Gd4 (by omega),Gd4 h2];simp[List.getD,Gbf (Nat.le_of_not_lt h)]
  ·rw[Gd3 (by omega),Gd3 h2]
def vsub(x:AVal):AVal->Prop
 |.top=>True
 |.int k b=>x=.int k b
 |.slc st n f=>(x=.nils/\n=0)\/∃f',x=.slc st n f'/\∀k,k<n->f k=f' k
 |y=>y=x
theorem wzdi{g:Gh}{w:World}{x y:AVal}{v:Value}(h:vsub x y)(hx:RV g w x v):RV g w y v:=by
 cases y with
 |top=>exact .top v
 |int k b=>have h:x=.int k b:=h;rw[<-h];exact hx
 |slc st n f =>
  rcases h with ⟨rfl,rfl⟩|⟨f',rfl,hf⟩
  ·cases hx;exact .slc0 _ _ _ _
  ·exact hx.sub (.inr (.inr ⟨_,_,_,_,rfl,rfl,hf⟩))
 |bool=>have h:_=x:=h;rw[h];exact hx
 |str=>have h:_=x:=h;rw[h];exact hx
 |agg=>have h:_=x:=h;rw[h];exact hx
 |tup=>have h:_=x:=h;rw[h];exact hx
 |nils=>have h:_=x:=h;rw[h];exact hx
 |vec=>have h:_=x:=h;rw[h];exact hx
 |ptr=>have h:_=x:=h;rw[h];exact hx
 |eptr=>have h:_=x:=h;rw[h];exact hx
 |cptr=>have h:_=x:=h;rw[h];exact hx
 |nilp=>have h:_=x:=h;rw[h];exact hx
 |fn=>have h:_=x:=h;rw[h];exact hx
 |nilfn=>have h:_=x:=h;rw[h];exact hx
 |yld=>have h:_=x:=h;rw[h];exact hx
 |mp=>have h:_=x:=h;rw[h];exact hx
 |nilmp=>have h:_=x:=h;rw[h];exact hx
 |cnd=>have h:_=x:=h;rw[h];exact hx
theorem kzkz{k k':IntKind}{a b:Int}:vsub (.int k a) (.int k' b)↔k=k'/\a=b:=by simp[vsub]
theorem kzkx{st n st' n':Nat}{f f':Nat->List AVal}:vsub (.slc st n f) (.slc st' n' f')↔st=st'/\n=n'/\∀k,k<n'->f' k=f k:=by
 simp only[vsub,AVal.slc.injEq];constructor
 ·rintro(⟨h,_⟩|⟨g,⟨rfl,rfl,rfl⟩,h⟩);·cases h
  ·exact⟨rfl,rfl,h⟩
 ·rintro⟨rfl,rfl,h⟩;exact .inr ⟨f,⟨rfl,rfl,rfl⟩,h⟩
theorem kzko{st n:Nat}{f:Nat->List AVal}:vsub .nils (.slc st n f)↔n=0:=by simp[vsub]
theorem kznm{x:AVal}:vsub x .top↔True:=Iff.rfl
theorem kzk7(x:AVal):vsub x x:=by cases x<;>simp[vsub]
def subm(m:List (Nat×AVal)):List (Nat×AVal)->Prop
 |[]=>True
 |p :: r=>vsub (look m p.1) p.2/\subm m r
theorem qzq1{g:Gh}{w:World}{m:List (Nat×AVal)}:∀{r:List (Nat×AVal)},subm m r->∀i v,RV g w (look m i) v->RV g w (look r i) v
 |[],_,i,v,_=>.top v
 |p :: r,h,i,v,hv=>by
  simp only[look];split
  ·rename_i e;subst e;exact wzdi h.1 hv
  ·exact qzq1 h.2 i v hv
theorem wzef{g:Gh}{w:World}{m m':List (Nat×AVal)}{n:Nat}{a:List Value}(h:subm m m')(hv:RVs g w (tl m n) a):RVs g w (tl m' n) a:=by
 refine⟨by rw[hv.1,qzgt,qzgt],fun i x v hx hy=>?_⟩;rw[qzem]at hx;split at hx
 ·rename_i hi;simp only[Gdq]at hx;subst hx;exact qzq1 h i v (hv.2 i _ v (by rw[qzem,Gd4 hi]) hy)
 ·cases hx
def osub(o:AObj):AObj->Prop
 |.gone e=>e=o.ep
 |.box e l=>o=.box e l
 |.vec e st n f=>∃f',o=.vec e st n f'/\∀k,k<n->f k=f' k
 |o'=>o'=o
theorem wzd5{o o':AObj}(h:osub o o'):OSub o o':=by
 cases o' with
 |gone e=>exact .inl (by have h:e=o.ep:=h;rw[h])
 |box e l=>exact .inr (.inl (Eq.symm (h:o=.box e l)))
 |vec e st n f =>obtain⟨f',rfl,hf⟩:=h;exact .inr (.inr ⟨_,_,_,_,_,rfl,rfl,hf⟩)
 |loop=>exact .inr (.inl h)
 |dfr=>exact .inr (.inl h)
 |amap=>exact .inr (.inl h)
 |miter=>exact .inr (.inl h)
theorem kzlr{e:Nat}{o:AObj}:osub o (.gone e)↔e=o.ep:=Iff.rfl
theorem kzme{e e':Nat}{l l':List AVal}:osub (.box e l) (.box e' l')↔e=e'/\l=l':=by simp[osub]
theorem kzmd{e st n e' st' n':Nat}{f f':Nat->List AVal}:osub (.vec e st n f) (.vec e' st' n' f')↔e=e'/\st=st'/\n=n'/\∀k,k<n'->f' k=f k:=by
 simp only[osub,AObj.vec.injEq];constructor
 ·rintro⟨g,⟨rfl,rfl,rfl,rfl⟩,h⟩;exact⟨rfl,rfl,rfl,h⟩
 ·rintro⟨rfl,rfl,rfl,h⟩;exact⟨f,⟨rfl,rfl,rfl,rfl⟩,h⟩
theorem kzk3(o:AObj):osub o o:=by cases o<;>simp[osub,AObj.ep]
def subh(m:List (Nat×AObj)):List (Nat×AObj)->Prop
 |[]=>True
 |p :: r=>osub (qz8 m p.1) p.2/\subh m r
def vz2(m:List (Nat×AObj))(r:List (Nat×AObj)):Bool:=m.all fun p=>r.any fun q=>q.1==p.1
theorem qzhl{m:List (Nat×AObj)}{i:Nat}(h:m.all (fun p=>!(p.1==i))=true):qz8 m i=.gone 0:=by
 induction m with
 |nil=>rfl
 |cons p r ih =>simp only[List.all_cons,Gai,Gao,beq_eq_false_iff_ne,ne_eq]at h;simp only[qz8,Gd3 h.1];exact ih (by simpa using h.2)
theorem qzrn{m:List (Nat×AObj)}:∀{r:List (Nat×AObj)},subh m r->∀i,r.any (fun q=>q.1==i)=true->OSub (qz8 m i) (qz8 r i)
 |[],_,i,h=>by simp at h
 |p :: r,h,i,hi=>by
  simp only[qz8];split
  ·rename_i e;subst e;exact wzd5 h.1
  ·rename_i e;refine qzrn h.2 i ?_;simpa [e] using hi
theorem wzfa{m m':List (Nat×AObj)}(h:subh m m')(hk:vz2 m m'=true)(i:Nat):OSub (hl m i) (hl m' i):=by
 show OSub (qz8 m i) (qz8 m' i);by_cases h1:m'.any (fun q=>q.1==i)=true
 ·exact qzrn h i h1
 ·have h2:m.all (fun p=>!(p.1==i))=true:=by
   rw[Ga0];intro p hp;unfold vz2 at hk;rw[Ga0]at hk;have:=hk p hp;cases e:(p.1==i)
   ·rfl
   ·exfalso;have e':p.1=i:=(by simpa using e);subst e';exact h1 this
  rw[qzhl h2,qzhl (by
   rw[Ga0];intro p hp;cases e:(p.1==i)
   ·rfl
   ·exfalso;exact h1 (List.any_eq_true.2 ⟨p,hp,e⟩))]
  exact .refl _
def pick(m:List (Nat×AVal)):List Nat->List (Nat×AVal)
 |[]=>[]
 |i :: r=>(i,look m i) :: pick m r
theorem kznd(m:List (Nat×AVal)):∀l,subm m (pick m l)
 |[]=>trivial
 |i :: r=>⟨kzk7 _,kznd m r⟩
def kzml(m:List (Nat×AObj)):List Nat->List (Nat×AObj)
 |[]=>[]
 |i :: r=>(i,qz8 m i) :: kzml m r
theorem kznb(m:List (Nat×AObj)):∀l,subh m (kzml m l)
 |[]=>trivial
 |i :: r=>⟨kzk3 _,kznb m r⟩
section
variable {E:Nat->AVal}{P:Program}{U:Option Nat}{Q:Exit->ASt->Prop}{S:ASt}{m m':List (Nat×AVal)}{hm hm':List (Nat×AObj)}{n:Nat}
theorem See.sp(h1:subm m m')(h2:subh hm hm')(h3:vz2 hm hm'=true):See E ⟨tl m n,hl hm,[]⟩ ⟨tl m' n,hl hm',[]⟩:=by refine .trans (S':=⟨tl m' n,hl hm,[]⟩) (fun g a w hs=>⟨g,⟨hs.hr,wzef h1 hs.tm,hs.df,hs.dk,hs.dn⟩,.refl _ _ _⟩) ?_;exact .of_sub ⟨.refl _,fun i=>wzfa h2 h3 i,rfl,by intro D hD;cases hD⟩
theorem AW.srk(live ids:List Nat){ops:List qzc}{pr:List (List Nat)}{b:qzk}(h:areg E P ops S (fun S'=>S'=⟨tl m n,hl hm,[]⟩))(e1:pick m live=m')(e2:kzml hm ids=hm')(e3:vz2 hm hm'=true)(k:AW E U P b Q ⟨tl m' n,hl hm',[]⟩):AW E U P (.seq (.reg false ops pr) b) Q S:=.sr h (.see (.sp (e1▸kznd m live) (e2▸kznb hm ids) e3) k)
theorem AW.lp{c:qzk}{α:Type}(im:α->List (Nat×AVal))(ih:α->List (Nat×AObj))(J:α->Nat)(I:α->Prop)(x₀:α)(h₀:I x₀)(s1:subm m (im x₀))(s2:subh hm (ih x₀))(s3:vz2 hm (ih x₀)=true)(round:∀x,I x->AW E U P c (qzdb (fun S'=>∃x',I x'/\J x'<J x/\See E S' ⟨tl (im x') n,hl (ih x'),[]⟩) Q) ⟨tl (im x) n,hl (ih x),[]⟩):AW E U P (.loop c) Q ⟨tl m n,hl hm,[]⟩ :=
 .loop (fun x=>⟨tl (im x) n,hl (ih x),[]⟩) J I x₀ h₀ (.sp s1 s2 s3) round
theorem Pure.ofs{f:FuncId}{fn:Func}{c:Code}{ac:qzk}{args:List AVal}{r:AVal}{rs:List ARes}(hf:P.funcs[f]?=some fn)(hb:fn.body=some c)(hr:qzi P fn.results.toList rs=true)(hc:qzg P c ac=true)(hm:zipA 0 args=m) (hn:fn.ntmps=n) (hle:args.length<=n) (hw:AW E none P ac (Post E rs (fun v _=>v=r)) ⟨tl m n,hl [],[]⟩):Pure E P f args r :=
 .of hf hb hr hc (n-args.length) (by omega) (by rw[wzct,hm,show args.length+(n-args.length)=n by omega];exact hw)
end
theorem qzfa{l:List AVal}:wzk (.agg l)=some l:=rfl
theorem qzeu{k:IntKind}{n:Int}:wzk (.int k n)=some [(.int k n)]:=rfl
theorem qzdp{b:Bool}:wzk (.bool b)=some [(.bool b)]:=rfl
theorem qzey{s:List UInt8}:wzk (.str s)=some [(.str s)]:=rfl
theorem qzd2 :wzk .nils=some [.nils]:=rfl
theorem qze5{st n:Nat}{f:Nat->List AVal}:wzk (.slc st n f)=some [(.slc st n f)]:=rfl
theorem qzfk{i e o n:Nat}:wzk (.vec i e o n)=some [(.vec i e o n)]:=rfl
theorem qze7{i e o:Nat}:wzk (.ptr i e o)=some [(.ptr i e o)]:=rfl
theorem qzdi{i e k o:Nat}:wzk (.eptr i e k o)=some [(.eptr i e k o)]:=rfl
theorem qzdk{f:Nat->AVal}{l o:Nat}:wzk (.cptr f l o)=some [(.cptr f l o)]:=rfl
theorem qzd0 :wzk .nilp=some [.nilp]:=rfl
theorem qzgy{f:FuncId}{nb:Nat}{l:List AVal}:wzk (.fn f nb l)=some [(.fn f nb l)]:=rfl
theorem qzcq :wzk .nilfn=some [.nilfn]:=rfl
theorem qzg5{i e:Nat}:wzk (.mp i e)=some [(.mp i e)]:=rfl
theorem qzc6 :wzk .nilmp=some [.nilmp]:=rfl
end Go.Am

