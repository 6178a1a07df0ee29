/- Part A4: an abstract machine proved sound over the calculus of the guide. No condition. -/
import Derived.Test.YtbidhbeoimpjbaaGreatDoorA3
import Derived.ProofKit
import Derived.OpenShut
import Derived.Deep.DeepHandedRow
import Derived.Lib.LaidTab
import Derived.ChangeCalls
set_option linter.unusedSimpArgs false
set_option linter.unusedVariables false
namespace Go.Am
inductive AR where
 |skip
 |reg (draw:Bool) (ops:List Av) (preds:List (List Nat))
 |seq (a b:AR)
 |cond (c:Ad) (a b:AR)
 |block (id:Nat) (c:AR)
 |loop (c:AR)
 |ret
 |exit (id:Nat)
 |rfunc (f:Ad) (ps:List Tmp) (assign body:AR)
 |scope (c:AR)
 |label (l:Nat)
 |any
def A8(P:Program):Code->AR->Bool
 |.skip,.skip=>true
 |.region _ ops false,.reg false m _=>yzf P ops ops.toList m
 |.region _ ops true,.reg true m preds=>yzf P ops ops.toList m&&Hj ops.toList preds&&Hk 0 ops.toList&&Iw m preds&&P.follows .mixedOrders
 |.seq a b,.seq a' b'=>A8 P a a'&&A8 P b b'
 |.cond c a b,.cond c' a' b'=>A7 c c'&&A8 P a a'&&A8 P b b'
 |.block id c,.block id' c'=>id==id'&&A8 P c c'
 |.loop c,.loop c'=>A8 P c c'
 |.ret,.ret=>true
 |.exit id,.exit id'=>id==id'
 |.scope c,.scope c'=>A8 P c c'
 |.label l,.label l'=>l==l'
 |.rangeFunc f ps a b,.rfunc f' ps' a' b'=>A7 f f'&&ps.toList==ps'&&A8 P a a'&&A8 P b b'
 |_,.any=>true
 |_,_=>false
def AW(E:Nat->Aa)(ρ:Option Nat)(P:Program)(c:AR)(Q:Exit->Au->Prop)(S:Au):Prop:=∀code,A8 P code c=true->AWp E ρ P code Q S
section
variable {E:Nat->Aa}{P:Program}{ρ:Option Nat}{Q:Exit->Au->Prop}{S:Au}
theorem AW.mono{c:AR}{Q':Exit->Au->Prop}(h:AW E ρ P c Q S)(hq:∀e S',Q e S'->Q' e S'):AW E ρ P c Q' S:=fun code hc=>(h code hc).mono hq
theorem AW.see{c:AR}{S':Au}(s:See E S S')(h:AW E ρ P c Q S'):AW E ρ P c Q S:=fun code hc=>(h code hc).see s
theorem AW.skip(h:Q .normal S):AW E ρ P .skip Q S:=by
 intro code hc;cases code<;>simp only[A8]at hc<;>first|exact .skip h|(cases hc;done)|skip
 all_goals (split at hc<;>cases hc)
theorem AW.ret(h:Q .ret S):AW E ρ P .ret Q S:=by
 intro code hc;cases code<;>simp only[A8]at hc<;>first|exact .ret h|(cases hc;done)|skip
 all_goals (split at hc<;>cases hc)
theorem AW.exit{id:Nat}(h:Q (.exit id) S):AW E ρ P (.exit id) Q S:=by
 intro code hc;cases code<;>simp only[A8]at hc<;>(try (cases hc;done))
 case exit id'=>simp only[Bq]at hc;subst hc;exact .exit h
 all_goals (split at hc<;>cases hc)
theorem AW.seq{a b:AR}(h:AW E ρ P a (Bb (AW E ρ P b Q) Q) S):AW E ρ P (.seq a b) Q S:=by
 intro code hc;cases code<;>simp only[A8]at hc<;>(try (cases hc;done))
 case seq x y =>
  simp only[AE]at hc;refine .seq ((h x hc.1).mono ?_);intro e S' q;cases e with
  |normal=>exact q y hc.2
  |_=>exact q
 all_goals (split at hc<;>cases hc)
theorem AW.block{id:Nat}{c:AR}(h:AW E ρ P c (ablk id Q) S):AW E ρ P (.block id c) Q S:=by
 intro code hc;cases code<;>simp only[A8]at hc<;>(try (cases hc;done))
 case block id' x =>simp only[AE,Bq]at hc;obtain⟨rfl,hc⟩:=hc;exact .block (h x hc)
 all_goals (split at hc<;>cases hc)
theorem AW.scope{c:AR}(h:AW E ρ P c (U7 Q) S):AW E ρ P (.scope c) Q S:=by
 intro code hc;cases code<;>simp only[A8]at hc<;>(try (cases hc;done))
 case scope x=>exact .scope (h x hc)
 all_goals (split at hc<;>cases hc)
theorem AW.label{l:Nat}(h:Q .normal S):AW E ρ P (.label l) Q S:=by
 intro code hc;cases code<;>simp only[A8]at hc<;>(try (cases hc;done))
 case label x=>exact .label h
 all_goals (split at hc<;>cases hc)
theorem AW.loop{c:AR}{α:Type}(inv:α->Au)(J:α->Nat)(I:α->Prop)(x₀:α)(h₀:I x₀)(s₀:See E S (inv x₀))(round:∀x,I x->AW E ρ P c (Bb (fun S'=>∃x',I x'/\J x'<J x/\See E S' (inv x')) Q) (inv x)):AW E ρ P (.loop c) Q S:=by
 intro code hc;cases code<;>simp only[A8]at hc<;>(try (cases hc;done))
 case loop x=>exact .loop' inv J I x₀ h₀ s₀ (fun y hy=>round y hy x hc)
 all_goals (split at hc<;>cases hc)
theorem AWp.cond'{c:Operand}{c':Ad}{x y:Code}{t:Bool}(hk:A7 c c'=true)(hc:Ag E S.t c'=.bool t)(ht:t=true->AWp E ρ P x Q S)(hf:t=false->AWp E ρ P y Q S):AWp E ρ P (.cond c x y) Q S:=by intro g a w hs;have rx:=AO hs.hr hs.tm hk;rw[hc]at rx;exact wpIn_cond_split (DO rx) (fun e=>ht e g a w hs) (fun e=>hf e g a w hs)
theorem AW.cond{c:Ad}{a b:AR}{t:Bool}(hc:Ag E S.t c=.bool t)(ht:t=true->AW E ρ P a Q S)(hf:t=false->AW E ρ P b Q S):AW E ρ P (.cond c a b) Q S:=by
 intro code hk;cases code<;>simp only[A8]at hk<;>(try (cases hk;done))
 case cond c' x y =>simp only[AE]at hk;exact .cond' hk.1.1 hc (fun e=>ht e x hk.1.2) (fun e=>hf e y hk.2)
 all_goals (split at hk<;>cases hk)
theorem AW.reg{ops:List Av}{pr:List (List Nat)}(h:areg E P ops S (Q .normal)):AW E ρ P (.reg false ops pr) Q S:=by
 intro code hc
 match code,hc with
 |.region id l true,hc=>simp[A8]at hc
 |.region id l false,hc=>exact .region (by simpa [A8] using hc) h
 |.skip,hc=>simp[A8]at hc
 |.seq _ _,hc=>simp[A8]at hc
 |.cond _ _ _,hc=>simp[A8]at hc
 |.block _ _,hc=>simp[A8]at hc
 |.loop _,hc=>simp[A8]at hc
 |.rangeFunc _ _ _ _,hc=>simp[A8]at hc
 |.exit _,hc=>simp[A8]at hc
 |.scope _,hc=>simp[A8]at hc
 |.label _,hc=>simp[A8]at hc
 |.goto _,hc=>simp[A8]at hc
 |.ret,hc=>simp[A8]at hc
 |.refuse _,hc=>simp[A8]at hc
theorem AW.sreg{ops:List Av}{pr:List (List Nat)}(h:SReg E P ops S (Q .normal)):AW E ρ P (.reg false ops pr) Q S:=by
 intro code hc
 match code,hc with
 |.region id l true,hc=>simp[A8]at hc
 |.region id l false,hc=>exact .sregion (by simpa [A8] using hc) h
 |.skip,hc=>simp[A8]at hc
 |.seq _ _,hc=>simp[A8]at hc
 |.cond _ _ _,hc=>simp[A8]at hc
 |.block _ _,hc=>simp[A8]at hc
 |.loop _,hc=>simp[A8]at hc
 |.rangeFunc _ _ _ _,hc=>simp[A8]at hc
 |.exit _,hc=>simp[A8]at hc
 |.scope _,hc=>simp[A8]at hc
 |.label _,hc=>simp[A8]at hc
 |.goto _,hc=>simp[A8]at hc
 |.ret,hc=>simp[A8]at hc
 |.refuse _,hc=>simp[A8]at hc
theorem AW.draw{ops:List Av}{pr:List (List Nat)}(h:dreg E P ops S (fun S' tr=>hpOk pr tr=true/\Q .normal S')):AW E ρ P (.reg true ops pr) Q S:=by
 intro code hc
 match code,hc with
 |.region id l false,hc=>simp[A8]at hc
 |.region id l true,hc =>simp only[A8,AE]at hc;exact .drawn hc.1.1.1.1 hc.1.1.1.2 hc.1.1.2 hc.1.2 hc.2 h
 |.skip,hc=>simp[A8]at hc
 |.seq _ _,hc=>simp[A8]at hc
 |.cond _ _ _,hc=>simp[A8]at hc
 |.block _ _,hc=>simp[A8]at hc
 |.loop _,hc=>simp[A8]at hc
 |.rangeFunc _ _ _ _,hc=>simp[A8]at hc
 |.exit _,hc=>simp[A8]at hc
 |.scope _,hc=>simp[A8]at hc
 |.label _,hc=>simp[A8]at hc
 |.goto _,hc=>simp[A8]at hc
 |.ret,hc=>simp[A8]at hc
 |.refuse _,hc=>simp[A8]at hc
theorem AW.drawC{ops:List Av}{pr:List (List Nat)}(h:Hl E P ops S (fun S' tr=>Dm ops pr tr=true/\Q .normal S')):AW E ρ P (.reg true ops pr) Q S:=by
 intro code hc
 match code,hc with
 |.region id l false,hc=>simp[A8]at hc
 |.region id l true,hc =>simp only[A8,AE]at hc;exact .drawnT hc.1.1.1.1 hc.1.1.1.2 hc.1.1.2 hc.1.2 hc.2 (Qv _ _ _ h)
 |.skip,hc=>simp[A8]at hc
 |.seq _ _,hc=>simp[A8]at hc
 |.cond _ _ _,hc=>simp[A8]at hc
 |.block _ _,hc=>simp[A8]at hc
 |.loop _,hc=>simp[A8]at hc
 |.rangeFunc _ _ _ _,hc=>simp[A8]at hc
 |.exit _,hc=>simp[A8]at hc
 |.scope _,hc=>simp[A8]at hc
 |.label _,hc=>simp[A8]at hc
 |.goto _,hc=>simp[A8]at hc
 |.ret,hc=>simp[A8]at hc
 |.refuse _,hc=>simp[A8]at hc
theorem AW.rfunc{f':Ad}{ps:List Tmp}{a b:AR}{fi:FuncId}{caps:List Aa}(D L:Nat)(iJ:D≠L)(hD:(S.h D).plain)(hL:(S.h L).plain)(hf:Ag E S.t f'=.fn fi 0 caps)(he:Co P fi=true)
  (h:∀(ps':Array Tmp) (a' b':Code),ps'.toList=ps->A8 P a' a=true->A8 P b' b=true ->
   ATr E P fi (.yld L ((S.h L).ep+1) :: caps) (hset (hset S.h D (.dfr ((S.h D).ep+1))) L (.loop ((S.h L).ep+1) .ready none S.t ps' a' b' D ((S.h D).ep+1)))
   (fun v h'=>∃st pd,st≠.busy/\h' L=.loop ((S.h L).ep+1) st pd S.t ps' a' b' D ((S.h D).ep+1)/\h' D=.dfr ((S.h D).ep+1)/\(∀X∈S.ds,h' X.1=.dfr X.2) /\
    VK Q pd ⟨S.t,hset h' L (.gone ((S.h L).ep+1)),(D,(S.h D).ep+1) :: S.ds⟩)):AW E none P (.rfunc f' ps a b) Q S:=by
 intro code hc
 match code,hc with
 |.rangeFunc f ps' a' b',hc =>simp only[A8,AE,Bq]at hc;exact .rfunc D L iJ hD hL hc.1.1.1 hf he (h ps' a' b' hc.1.1.2 hc.1.2 hc.2)
 |.region id l false,hc=>simp[A8]at hc
 |.region id l true,hc=>simp[A8]at hc
 |.skip,hc=>simp[A8]at hc
 |.seq _ _,hc=>simp[A8]at hc
 |.cond _ _ _,hc=>simp[A8]at hc
 |.block _ _,hc=>simp[A8]at hc
 |.loop _,hc=>simp[A8]at hc
 |.exit _,hc=>simp[A8]at hc
 |.scope _,hc=>simp[A8]at hc
 |.label _,hc=>simp[A8]at hc
 |.goto _,hc=>simp[A8]at hc
 |.ret,hc=>simp[A8]at hc
 |.refuse _,hc=>simp[A8]at hc
theorem ATr.of{f:FuncId}{fn:Func}{c:Code}{ac:AR}{args:List Aa}{h:Ax}{R:Aa->Ax->Prop}{rs:List ARes}(hf:P.funcs[f]?=some fn)(hb:fn.body=some c)(hr:ED P fn.results.toList rs=true)(hc:A8 P c ac=true)(n:Nat) (hn:fn.ntmps-args.length=n) (hw:AW E none P ac (Post E rs R) ⟨args++List.replicate n .top,h,[]⟩):ATr E P f args h R :=
 .of_body hf hb hr (by subst hn;exact hw c hc)
end
inductive AF:Aa->Prop where
 |top:AF .top
 |int (k:IntKind) (n:Int):AF (.int k n)
 |bool (b:Bool):AF (.bool b)
 |str (s:List UInt8):AF (.str s)
 |agg (l:List Aa) (h:∀x,x∈l->AF x):AF (.agg l)
 |tup (l:List Aa) (h:∀x,x∈l->AF x):AF (.tup l)
 |nils:AF .nils
 |slc (st n:Nat) (f:Nat->List Aa) (h:∀i x,i<n->x∈f i->AF x):AF (.slc st n f)
 |cptr (f:Nat->Aa) (lim off:Nat) (h:∀j,j<lim->AF (f j)):AF (.cptr f lim off)
 |nilp:AF .nilp
 |fn (f:FuncId) (nb:Nat) (l:List Aa) (h:∀x,x∈l->AF x):AF (.fn f nb l)
 |nilfn:AF .nilfn
 |nilmp:AF .nilmp
 |cnd (c:Bool) (x:Aa) (h:AF x):AF (.cnd c x)
theorem Gl{l:List Aa}:AF (.agg l)↔∀x,x∈l->AF x:=⟨fun h=>by cases h;assumption,.agg l⟩
theorem Gm{l:List Aa}:AF (.tup l)↔∀x,x∈l->AF x:=⟨fun h=>by cases h;assumption,.tup l⟩
theorem LF{st n:Nat}{f:Nat->List Aa}:AF (.slc st n f)↔∀i x,i<n->x∈f i->AF x:=⟨fun h=>by cases h;assumption,.slc st n f⟩
theorem PA{f:FuncId}{nb:Nat}{l:List Aa}:AF (.fn f nb l)↔∀x,x∈l->AF x:=⟨fun h=>by cases h;assumption,.fn f nb l⟩
theorem RV.reghost{g gx:Gh}{w:World}(hf:∀b,g.fz b->gx.fz b){x:Aa}{v:Value}(h:RV g w x v)(hn:AF x):RV gx w x v:=by
 induction h with
 |top v=>exact .top v
 |int k n=>exact .int k n
 |bool b=>exact .bool b
 |str s b h=>exact .str s b h
 |agg l a hl _ ih=>exact .agg l a hl fun i x v hx hv=>ih i x v hx hv (Gl.1 hn x (Dx hx))
 |tup l a hl _ ih=>exact .tup l a hl fun i x v hx hv=>ih i x v hx hv (Gm.1 hn x (Dx hx))
 |nils=>exact .nils
 |slc0 st f a cap=>exact .slc0 st f a cap
 |slc st n f b off cap vals hz aS hl hc h1 _ ih =>exact .slc st n f b off cap vals (hf b hz) aS hl hc h1 fun i j x hi hx=>ih i j x hi hx (LF.1 hn i x hi (Dx hx))
 |vec=>cases hn
 |ptr=>cases hn
 |eptr=>cases hn
 |cptr f lim off b base vals hz hc _ ih =>
  cases hn with
  |cptr _ _ _ hn=>exact .cptr f lim off b base vals (hf b hz) hc fun j hj=>ih j hj (hn j hj)
 |nilp=>exact .nilp
 |fn f nb caps a hl _ ih=>exact .fn f nb caps a hl fun i x v hx hv=>ih i x v hx hv (PA.1 hn x (Dx hx))
 |nilfn=>exact .nilfn
 |yld=>cases hn
 |mp=>cases hn
 |nilmp=>exact .nilmp
 |cnd c x v _ h0 ih =>
  cases hn with
  |cnd _ _ hn=>exact .cnd c x v (fun e=>ih e hn) h0
def h0:Ax:=fun _=>.gone 0
def Pure(E:Nat->Aa)(P:Program)(f:FuncId)(args:List Aa)(r:Aa):Prop:=ATr E P f args h0 (fun v _=>v=r)
theorem Pure.any{E:Nat->Aa}{P:Program}{f:FuncId}{args:List Aa}{r:Aa}(H:Pure E P f args r)(hE:∀i,AF (E i))(ha:∀x,x∈args->AF x)(hr:AF r)(h:Ax) :
  ATr E P f args h (fun v h'=>v=r/\h'=h):=by
 intro g w vs hh hv
 let g0:Gh:=⟨fun _=>0,fun _=>0,fun _=>0,fun _=>0,fun _=>0,g.fz⟩
 have H0:HR E g0 h0 w:=⟨fun _=>trivial,fun _=>rfl,(by intro i j hi;cases hi),(by intro i hi;cases hi),hh.fzb,fun i=>(hh.glob i).reghost (g:=g) (gx:=g0) (fun _ h=>h) (hE i)⟩;refine(H g0 w vs H0 ⟨hv.1,fun i x v hx hy=>(hv.2 i x v hx hy).reghost (g:=g) (gx:=g0) (fun _ h=>h) (ha x (Dx hx))⟩).mono ?_;rintro e w' ⟨g',h',_,v,rfl,rfl,bV,hH,st⟩
 have d7:∀b,g'.fz b->g.fz b\/w.heap.size<=b:=fun b hb=>by
  rcases st.fzn b hb with h1|⟨j,hj,_⟩|h3
  ·exact .inl h1
  ·cases hj
  ·exact .inr h3
 have cx:∀b,b<w.heap.size->w'.heap[b]?=w.heap[b]?:=fun b hb=>st.keep b hb (by intro i hi;cases hi)
 let g2:Gh:=⟨g.blk,g.ep,g.bo,g.st,g.cp,g'.fz⟩
 have aE:GLe g w g2 w':=⟨fun b hb=>⟨(st.le.fz b hb).1,cx b (hh.fzb b hb)⟩,fun _=>AB _,fun _ _=>⟨rfl,rfl,rfl,rfl⟩⟩;refine⟨g2,h,_,v,⟨rfl,rfl⟩,rfl,bV.reghost (g:=g') (gx:=g2) (fun _ h=>h) hr,?_,⟨aE,st.os,st.tape,st.output,st.size,fun b hb _=>cx b hb,fun i ho=>.inl ⟨i,ho,rfl⟩,fun b hb=>?_,st.drawn⟩⟩
 ·refine⟨fun i=>(hh.obj i).mono aE rfl fun ho=>cx _ ((hh.obj i).lt ho),hh.ep,hh.inj,fun i hi hf=>?_,hH.fzb,fun i=>(hh.glob i).mono aE⟩;rcases d7 _ hf with h1|h1
  ·exact hh.sep i hi h1
  ·have:g.blk i<w.heap.size:=(hh.obj i).lt hi;have e:g2.blk i=g.blk i:=rfl;omega
 ·rcases d7 b hb with h1|h1;·exact .inl h1
  ·exact .inr (.inr h1)
theorem Gn{k:IntKind}{n:Int}:AF (.int k n):=.int k n
theorem Gp{b:Bool}:AF (.bool b):=.bool b
theorem Gq{s:List UInt8}:AF (.str s):=.str s
theorem Hm:AF .nils:=.nils
section
variable {E:Nat->Aa}{P:Program}{ρ:Option Nat}
theorem Post.here{rs:List ARes}{R:Aa->Ax->Prop}{S:Au}(aB:EJ S rs)(co:S.ds=[])(hR:R (F7 S rs) S.h):Post E rs R .ret S := ⟨S,.refl S,aB,S.h,fun i=>.refl _,(by rw[co];intro D hD;cases hD),hR⟩
theorem Post.pure{rs:List ARes}{r:Aa}{S:Au}(aB:EJ S rs)(hR:F7 S rs=r):Post E rs (fun v _=>v=r) .ret S := ⟨S,.refl S,aB,fun i=>.gone (S.h i).ep,fun i=>.inl rfl,fun D _=>⟨_,rfl⟩,hR⟩
theorem AW.retp{rs:List ARes}{r:Aa}{S:Au}{Q:Exit->Au->Prop}(hq:Q .ret=Post E rs (fun v _=>v=r) .ret)(aB:EJ S rs)(hR:F7 S rs=r):AW E ρ P .ret Q S :=
 .ret (by rw[hq];exact .pure aB hR)
theorem AW.rets{rs:List ARes}{r:Aa}{S S':Au}{Q:Exit->Au->Prop}(hq:Q .ret=Post E rs (fun v _=>v=r) .ret)(s:See E S S')(aB:EJ S' rs)(hR:F7 S' rs=r):AW E ρ P .ret Q S :=
 .see s (.retp hq aB hR)
theorem Gk.pure{f:FuncId}{args:List Aa}{h:Ax}{K:Aa->List Nat->Prop}(v:Aa)(H:B8 E P f args v)(k:K v []):Gk E P f args h K:=⟨v,[],H.on h [],k⟩
theorem B8.call{f:FuncId}{args:List Aa}{r:Aa}(H:B8 E P f args r){h:Ax}{K:Aa->Ax->Prop}(k:K r h):ATr E P f args h K := (H h).mono (by rintro _ _ ⟨rfl,rfl⟩;exact k)
theorem Pure.still{f:FuncId}{args:List Aa}{r:Aa}(H:Pure E P f args r)(hE:∀i,AF (E i))(ha:∀x,x∈args->AF x)(hr:AF r):B8 E P f args r:=H.any hE ha hr
theorem Pure.of{f:FuncId}{fn:Func}{c:Code}{ac:AR}{args:List Aa}{r:Aa}{rs:List ARes}(hf:P.funcs[f]?=some fn)(hb:fn.body=some c)(hr:ED P fn.results.toList rs=true)(hc:A8 P c ac=true)(n:Nat) (hn:fn.ntmps-args.length=n) (hw:AW E none P ac (Post E rs (fun v _=>v=r)) ⟨args++List.replicate n .top,h0,[]⟩):Pure E P f args r :=
 ATr.of hf hb hr hc n hn hw
end
def fz1(id:Nat)(o:Ai):Aa->Aa
 | .ptr i ep off=>if i=id then(match o with
  |.box ep' cs=>if ep=ep' then .cptr (fun k=>cs.getD k .top) cs.length off else .top
  | _=>.top) else .ptr i ep off
 | .vec i ep lo n=>if i=id then(match o with
  |.vec ep' st m f=>if ep=ep'/\lo+n<=m then .slc st n (fun k=>f (lo+k)) else .top
  | _=>.top) else .vec i ep lo n
 |x=>x
mutual
def fzv(id:Nat)(o:Ai):Aa->Aa
 |.agg l=>.agg (fzl id o l)
 |.tup l=>.tup (fzl id o l)
 |.fn f nb l=>.fn f nb (fzl id o l)
 |.cnd c x=>.cnd c (fzv id o x)
 |x=>fz1 id o x
def fzl(id:Nat)(o:Ai):List Aa->List Aa
 |[]=>[]
 |x :: l=>fzv id o x :: fzl id o l
end
theorem VL(id:Nat)(o:Ai)(x:Aa):FV id o x (fz1 id o x):=by
 unfold fz1;split
 ·split
  ·rename_i e;subst e;split
   ·split;·rename_i e;subst e;exact .box _ _ _ _ rfl fun _ _=>rfl
    ·exact .top _
   ·exact .top _
  ·exact .refl _
 ·split
  ·rename_i e;subst e;split
   ·split;·rename_i e;obtain⟨rfl,e⟩:=e;exact .vec _ _ _ _ _ _ _ rfl e fun _ _=>rfl
    ·exact .top _
   ·exact .top _
  ·exact .refl _
 ·exact .refl _
mutual
theorem VM(id:Nat)(o:Ai):∀x,FV id o x (fzv id o x)
 |.agg l=>.aggl (Ix id o l)
 |.tup l=>.tupl (Ix id o l)
 |.fn f nb l=>.fn _ _ _ _ (Ix id o l).at.1 (Ix id o l).at.2
 |.cnd c x=>.cnd _ _ _ (VM id o x)
 |.top=>.refl _
 |.int _ _=>.refl _
 |.bool _=>.refl _
 |.str _=>.refl _
 |.nils=>.refl _
 |.slc _ _ _=>.refl _
 |.vec i ep lo n=>VL id o (.vec i ep lo n)
 |.ptr i ep off=>VL id o (.ptr i ep off)
 |.eptr _ _ _ _=>.refl _
 |.cptr _ _ _=>.refl _
 |.nilp=>.refl _
 |.nilfn=>.refl _
 |.yld _ _=>.refl _
 |.mp _ _=>.refl _
 |.nilmp=>.refl _
theorem Ix(id:Nat)(o:Ai):∀l,FVl id o l (fzl id o l)
 |[]=>trivial
 |x :: l=>⟨VM id o x,Ix id o l⟩
end
def fzo(id:Nat)(o:Ai):Ai->Ai
 |.box e l=>.box e (fzl id o l)
 |x=>x
section
variable {E:Nat->Aa}{P:Program}{ρ:Option Nat}{Q:Exit->Au->Prop}{S:Au}
theorem See.fz(id:Nat)(aQ:(S.h id).owned=true)(cQ:(S.h id).plain):See E S ⟨fzl id (S.h id) S.t,hset S.h id (.gone ((S.h id).ep+1)),S.ds⟩ :=
 .freeze (o:=S.h id) rfl aQ cQ (by simp[hset]) (fun j hj=>by simp[hset,hj];exact .inl rfl) (Ix _ _ _) rfl
theorem AW.fz{c:AR}(id:Nat)(aQ:(S.h id).owned=true)(cQ:(S.h id).plain)(h:AW E ρ P c Q ⟨fzl id (S.h id) S.t,hset S.h id (.gone ((S.h id).ep+1)),S.ds⟩):AW E ρ P c Q S:=.see (.fz id aQ cQ) h
end
section
variable {E:Nat->Aa}{P:Program}{ρ:Option Nat}{Q:Exit->Au->Prop}{S S1:Au}
theorem L7.mono{c:Bool}{t:List Aa}{h:Ax}{ds:List (Nat×Nat)}{xs:List Ad}{f:FuncId}{args:List Aa}{K K':Aa->Ax->Prop}(H:L7 E P c t h ds xs f args K)(k:∀v h',K v h'->K' v h'):L7 E P c t h ds xs f args K':=by
 rcases H with ⟨v,h1,h2⟩|⟨h1,h2⟩
 ·exact .inl ⟨v,h1,k _ _ h2⟩
 ·exact .inr ⟨fun e=>⟨(h1 e).1,(h1 e).2.mono fun v h' hk=>⟨hk.1,k _ _ hk.2⟩⟩,fun e=>k _ _ (h2 e)⟩
theorem Ce.imp{id ep:Nat}{args:List Aa}{h:Ax}{K K':Aa->Ax->Prop}(R:Ce E P id ep args h K)(hk:∀r h',K r h'->K' r h'):Ce E P id ep args h K':=by obtain⟨ts,ps,asg,body,D,eD,h1,h2,h3⟩:=R;refine⟨ts,ps,asg,body,D,eD,h1,h2,fun ρ=>(h3 ρ).mono ?_⟩;rintro e S ⟨he,hid,hb⟩;refine⟨he,hid,hb.mono ?_⟩;intro e' S' hp;cases e'<;>first|exact⟨hp.1,hk _ _ hp.2⟩|exact hp
theorem Hh.mono{x:Aa}{h:Ax}{K K':Aa->Ax->Prop}(H:Hh x h K)(k:∀v h',K v h'->K' v h'):Hh x h K':=by
 unfold Hh at H |-;split at H
 ·split at H
  ·split at H;·exact⟨H.1,H.2.1,H.2.2.1,fun i hi hs=>k _ _ (H.2.2.2.1 i hi hs),fun hs=>k _ _ (H.2.2.2.2 hs)⟩
   ·exact H
  ·exact⟨H.1,k _ _ H.2⟩
  ·exact H
 ·exact H
theorem aop.mono{o:Av}{K K':Au->Prop}(H:aop E P o S K)(k:∀S',K S'->K' S'):aop E P o S K':=by
 unfold aop at H |-;split at H
 ·split at H;·exact H.mono fun v h' hk=>⟨hk.1,k _ hk.2⟩
  ·split at H;·exact⟨H.1,H.2.mono fun v h' hk=>⟨hk.1,k _ hk.2⟩⟩
   ·exact H.imp fun v h' hk=>⟨hk.1,k _ hk.2⟩
   ·exact H
  ·exact H.mono fun v h' hk=>k _ hk
  ·exact⟨H.1,k _ H.2⟩
 ·split at H;·exact H
  ·split at H;·exact H.mono fun v h' hk=>k _ hk
   ·refine⟨fun e=>k _ (H.1 e),fun e=>?_⟩;have H2:=H.2 e;split at H2
    ·exact⟨H2.1,H2.2.mono fun v h' hk=>k _ hk⟩
    ·exact⟨fun e=>⟨(H2.1 e).1,(H2.1 e).2.imp fun v h' hk=>⟨hk.1,k _ hk.2⟩⟩,fun e=>k _ (H2.2 e)⟩
    ·exact H2
   ·exact H
   ·exact⟨H.1,H.2.1,k _ H.2.2⟩
theorem areg.mono:∀{l:List Av} {S:Au} {K K':Au->Prop},areg E P l S K->(∀S',K S'->K' S')->areg E P l S K'
 |[],S,K,K',H,k=>k _ H
 |o :: r,S,K,K',H,k=>aop.mono (H:aop E P o S (fun S'=>areg E P r S' K)) fun S' h'=>areg.mono h' k
theorem dop.mono{o:Av}{K K':Aa->List Nat->Option (Nat×Ai)->Prop}(H:dop E P o S K)(k:∀v rd out,K v rd out->K' v rd out):dop E P o S K':=by
 unfold dop at H |-;split at H
 ·split at H;·obtain⟨v,rd,h1,h2⟩:=H;exact⟨v,rd,h1,k _ _ _ h2⟩
  ·split at H;·obtain⟨he,v,rd,h1,h2⟩:=H;exact⟨he,v,rd,h1,k _ _ _ h2⟩
   ·exact H
  ·exact⟨H.1,k _ _ _ H.2⟩
 ·split at H;·exact H
  ·split at H;·obtain⟨v,rd,h1,h2⟩:=H;exact⟨v,rd,h1,k _ _ _ h2⟩
   ·refine⟨fun e=>k _ _ _ (H.1 e),fun e=>?_⟩;have H2:=H.2 e;split at H2
    ·obtain⟨he,v,rd,h1,h2⟩:=H2;exact⟨he,v,rd,h1,k _ _ _ h2⟩
    ·exact H2
   ·exact⟨H.1,H.2.1,k _ _ _ H.2.2⟩
theorem dreg.mono:∀{l:List Av} {S:Au} {K K':Au->List (List Nat×Option Nat)->Prop},dreg E P l S K->(∀S' tr,K S' tr->K' S' tr)->dreg E P l S K'
 |[],S,K,K',H,k=>k _ _ H
 |o :: r,S,K,K',H,k=>dop.mono (H:dop E P o S _) fun v rd out h'=>dreg.mono h' fun S' tr hk=>k _ _ hk
theorem AW.r1{ops:List Av}{pr:List (List Nat)}(h:areg E P ops S (fun S'=>S'=S1))(k:Q .normal S1):AW E ρ P (.reg false ops pr) Q S:=.reg (h.mono fun S' e=>e▸k)
theorem AW.d1{ops:List Av}{pr:List (List Nat)}(h:dreg E P ops S (fun S' tr=>hpOk pr tr=true/\S'=S1))(k:Q .normal S1):AW E ρ P (.reg true ops pr) Q S:=.draw (h.mono fun S' tr e=>⟨e.1,e.2▸k⟩)
theorem AW.sr{ops:List Av}{pr:List (List Nat)}{b:AR}(h:areg E P ops S (fun S'=>S'=S1))(k:AW E ρ P b Q S1):AW E ρ P (.seq (.reg false ops pr) b) Q S:=.seq (.r1 h k)
theorem AW.sd{ops:List Av}{pr:List (List Nat)}{b:AR}(h:dreg E P ops S (fun S' tr=>hpOk pr tr=true/\S'=S1))(k:AW E ρ P b Q S1):AW E ρ P (.seq (.reg true ops pr) b) Q S:=.seq (.d1 h k)
theorem AW.if'{c:Ad}{a b:AR}(t:Bool)(hc:Ag E S.t c=.bool t)(ht:t=true->AW E ρ P a Q S)(hf:t=false->AW E ρ P b Q S):AW E ρ P (.cond c a b) Q S:=.cond hc ht hf
def tO(live:List Nat):Nat->List Aa->List Aa
 |_,[]=>[]
 |i,x :: l=>(bif live.contains i then x else .top) :: tO live (i+1) l
end
theorem Aa.one_int{k:IntKind}{n:Int}:Aa.one (.int k n)=true:=rfl
theorem Aa.one_bool{b:Bool}:Aa.one (.bool b)=true:=rfl
theorem Aa.one_str{s:List UInt8}:Aa.one (.str s)=true:=rfl
theorem Aa.one_nils :Aa.one .nils=true:=rfl
theorem Aa.one_slc{st n:Nat}{f:Nat->List Aa}:Aa.one (.slc st n f)=true:=rfl
theorem Aa.one_vec{i e o n:Nat}:Aa.one (.vec i e o n)=true:=rfl
theorem Aa.one_ptr{i e o:Nat}:Aa.one (.ptr i e o)=true:=rfl
theorem Aa.one_eptr{i e k o:Nat}:Aa.one (.eptr i e k o)=true:=rfl
theorem Aa.one_cptr{f:Nat->Aa}{l o:Nat}:Aa.one (.cptr f l o)=true:=rfl
theorem Aa.one_nilp :Aa.one .nilp=true:=rfl
theorem Aa.one_fn{f:FuncId}{nb:Nat}{l:List Aa}:Aa.one (.fn f nb l)=true:=rfl
theorem Aa.one_nilfn :Aa.one .nilfn=true:=rfl
theorem Aa.one_mp{i e:Nat}:Aa.one (.mp i e)=true:=rfl
theorem Aa.one_nilmp :Aa.one .nilmp=true:=rfl
theorem LG{k:IntKind}{n:Int}:unv (.int k n)=(.int k n):=rfl
theorem LH{k:IntKind}{n:Int}{c:Bool}:unc c (.int k n)=True:=rfl
theorem LI{b:Bool}:unv (.bool b)=(.bool b):=rfl
theorem LJ{b:Bool}{c:Bool}:unc c (.bool b)=True:=rfl
theorem LK{s:List UInt8}:unv (.str s)=(.str s):=rfl
theorem LL{s:List UInt8}{c:Bool}:unc c (.str s)=True:=rfl
theorem LM :unv .nils=.nils:=rfl
theorem LN{c:Bool}:unc c .nils=True:=rfl
theorem LO{st n:Nat}{f:Nat->List Aa}:unv (.slc st n f)=(.slc st n f):=rfl
theorem LP{st n:Nat}{f:Nat->List Aa}{c:Bool}:unc c (.slc st n f)=True:=rfl
theorem LQ{i e o n:Nat}:unv (.vec i e o n)=(.vec i e o n):=rfl
theorem LR{i e o n:Nat}{c:Bool}:unc c (.vec i e o n)=True:=rfl
theorem LS{i e o:Nat}:unv (.ptr i e o)=(.ptr i e o):=rfl
theorem LT{i e o:Nat}{c:Bool}:unc c (.ptr i e o)=True:=rfl
theorem LU{i e k o:Nat}:unv (.eptr i e k o)=(.eptr i e k o):=rfl
theorem LV{i e k o:Nat}{c:Bool}:unc c (.eptr i e k o)=True:=rfl
theorem LW{f:Nat->Aa}{l o:Nat}:unv (.cptr f l o)=(.cptr f l o):=rfl
theorem LX{f:Nat->Aa}{l o:Nat}{c:Bool}:unc c (.cptr f l o)=True:=rfl
theorem LY :unv .nilp=.nilp:=rfl
theorem LZ{c:Bool}:unc c .nilp=True:=rfl
theorem Ma{f:FuncId}{nb:Nat}{l:List Aa}:unv (.fn f nb l)=(.fn f nb l):=rfl
theorem Mb{f:FuncId}{nb:Nat}{l:List Aa}{c:Bool}:unc c (.fn f nb l)=True:=rfl
theorem Mc :unv .nilfn=.nilfn:=rfl
theorem Md{c:Bool}:unc c .nilfn=True:=rfl
theorem Me{i e:Nat}:unv (.mp i e)=(.mp i e):=rfl
theorem Mf{i e:Nat}{c:Bool}:unc c (.mp i e)=True:=rfl
theorem Mg :unv .nilmp=.nilmp:=rfl
theorem Mh{c:Bool}:unc c .nilmp=True:=rfl
theorem Mi{l:List Aa}:unv (.agg l)=(.agg l):=rfl
theorem Mj{l:List Aa}{c:Bool}:unc c (.agg l)=True:=rfl
theorem Ml{l:List Aa}:unv (.tup l)=(.tup l):=rfl
theorem Mm{l:List Aa}{c:Bool}:unc c (.tup l)=True:=rfl
theorem Mn :unv .top=.top:=rfl
theorem Mo{c:Bool}:unc c .top=True:=rfl
theorem Mp{d:Bool}{x:Aa}:unv (.cnd d x)=x:=rfl
theorem Mq{c d:Bool}{x:Aa}:unc c (.cnd d x)=(c=true->d=true):=rfl
open Go.ChangeShapes
inductive Sh where
 |int (k:IntKind)
 |bool
 |str
 |slc (e:List Sh)
inductive ShOk(N:Nat):Sh->Aa->Prop where
 |int (k:IntKind) (n:Int) (h1:k.min<=n) (h2:n<=k.max):ShOk N (.int k) (.int k n)
 |bool (b:Bool):ShOk N .bool (.bool b)
 |str (s:List UInt8) (h:s.length<=N):ShOk N .str (.str s)
 |slc (e:List Sh) (n:Nat) (f:Nat->List Aa) (hn:n<=N) (hl:∀i,i<n->(f i).length=e.length) (h:∀(i j:Nat) (s:Sh) (x:Aa),i<n->e[j]?=some s->(f i)[j]?=some x->ShOk N s x):ShOk N (.slc e) (.slc e.length n f)
def De(N:Nat)(ss:List Sh)(xs:List Aa):Prop:=xs.length=ss.length/\∀(j:Nat) (s:Sh) (x:Aa),ss[j]?=some s->xs[j]?=some x->ShOk N s x
theorem De.nil{N:Nat}:De N [] []:=⟨rfl,fun j s x h=>by simp at h⟩
theorem De.one{N:Nat}{s:Sh}{x:Aa}(h:ShOk N s x):De N [s] [x]:=by
 refine⟨rfl,fun j s' x' h1 h2=>?_⟩;cases j with
 |zero=>simp at h1 h2;subst h1;subst h2;exact h
 |succ j=>simp at h1
theorem De.append{N:Nat}{ss ss':List Sh}{xs xs':List Aa}(h:De N ss xs)(h':De N ss' xs'):De N (ss++ss') (xs++xs'):=by
 refine⟨by simp[h.1,h'.1],fun j s x h1 h2=>?_⟩;by_cases hj:j<ss.length
 ·rw[F0 hj]at h1;rw[F0 (by rw[h.1];exact hj)]at h2;exact h.2 j s x h1 h2
 ·rw[GS (by omega)]at h1;rw[GS (by rw[h.1];omega),h.1]at h2;exact h'.2 _ s x h1 h2
theorem De.cons_inv{N:Nat}{s:Sh}{ss:List Sh}{xs:List Aa}(h:De N (s :: ss) xs):∃x xs',xs=x :: xs'/\ShOk N s x/\De N ss xs':=by
 cases xs with
 |nil=>have:=h.1;simp at this
 |cons x xs=>exact⟨x,xs,rfl,h.2 0 s x rfl rfl,by have:=h.1;simpa using this,fun j s' x' h1 h2=>h.2 (j+1) s' x' (by simpa using h1) (by simpa using h2)⟩
theorem De.nil_inv{N:Nat}{xs:List Aa}(h:De N [] xs):xs=[]:=J7.1 h.1
theorem ShOk.int_inv{N:Nat}{k:IntKind}{x:Aa}(h:ShOk N (.int k) x):∃n,x=.int k n/\k.min<=n/\n<=k.max:=by cases h;exact⟨_,rfl,by assumption,by assumption⟩
theorem ShOk.bool_inv{N:Nat}{x:Aa}(h:ShOk N .bool x):∃b,x=.bool b:=by cases h;exact⟨_,rfl⟩
theorem ShOk.str_inv{N:Nat}{x:Aa}(h:ShOk N .str x):∃s,x=.str s/\s.length<=N:=by cases h;exact⟨_,rfl,by assumption⟩
theorem ShOk.slc_inv{N:Nat}{e:List Sh}{x:Aa}(h:ShOk N (.slc e) x):∃n f,x=.slc e.length n f/\n<=N/\∀i,i<n->De N e (f i):=by
 cases h with
 |slc _ n f hn hl h=>exact⟨n,f,rfl,hn,fun i hi=>⟨hl i hi,fun j s x h1 h2=>h i j s x hi h1 h2⟩⟩
section
variable (P:Program)
def rep{α:Type}(s:List α):Nat->List α
 |0=>[]
 |n+1=>s++rep s n
mutual
def FY:Nat->TypeId->Option (List Sh)
 |0,_=>none
 |n+1,t=>match P.underlying t with
  |some .bool=>some [.bool]
  |some (.int k)=>some [.int k]
  |some .string=>some [.str]
  |some (.slice e)=>match FY n e with
   |some s=>if P.cellsOf e=s.length/\0<s.length then some [.slc s] else none
   |none=>none
  |some (.struct fs)=>FI n (P.cellsOf t) fs.toList 0
  |some (.array m e)=>match FY n e with
   |some s=>if P.cellsOf e=s.length/\P.cellsOf t=m*s.length then some (rep s m) else none
   |none=>none
  |_=>none
def FI:Nat->Nat->List Field->Nat->Option (List Sh)
 |0,_,_,_=>none
 |n+1,c,[],off=>if off=c then some [] else none
 |n+1,c,f :: r,off=>match FY n f.type with
  | some s=>if f.offset=off/\P.cellsOf f.type=s.length then(match FI n c r (off+s.length) with
   |some q=>some (s++q)
   | none=>none) else none
  |none=>none
end
end
theorem Iy{α U:Type}(f:α->Option U):∀(l:List α) (m:List U),l.mapM f=some m->m.length=l.length/\∀(i:Nat) (x:α) (y:U),l[i]?=some x->m[i]?=some y->f x=some y
 |[],m,h=>by simp at h;subst h;exact⟨rfl,fun i x y hx=>by simp at hx⟩
 |a :: l,m,h=>by
  rw[List.mapM_cons]at h;cases ha:f a with
  |none=>rw[ha]at h;cases h
  |some b =>
   rw[ha]at h;cases hl:l.mapM f with
   |none=>rw[hl]at h;cases h
   |some bs =>
    rw[hl]at h;have e:b :: bs=m:=by simpa using h
    subst e;obtain⟨h1,h2⟩:=Iy f l bs hl;refine⟨by simp[h1],fun i x y hx hy=>?_⟩;cases i with
    |zero=>simp at hx hy;subst hx;subst hy;exact ha
    |succ i=>exact h2 i x y (by simpa using hx) (by simpa using hy)
theorem JZ{α U:Type}{f g:α->Option U}:∀{l:List α} {m:List U},l.mapM f=some m->(∀(i:Nat) (x:α) (y:U),l[i]?=some x->m[i]?=some y->f x=some y->g x=some y)->l.mapM g=some m
 |[],m,h,_=>by simpa using h
 |a :: l,m,h,k=>by
  rw[List.mapM_cons]at h |-;cases ha:f a with
  |none=>rw[ha]at h;cases h
  |some b =>
   rw[ha]at h;cases hl:l.mapM f with
   |none=>rw[hl]at h;cases h
   |some bs =>
    rw[hl]at h;have e:b :: bs=m:=by simpa using h
    subst e;rw[k 0 a b rfl rfl ha,JZ hl fun i x y hx hy=>k (i+1) x y (by simpa using hx) (by simpa using hy)];rfl
theorem Qw{n i:Nat}(h:i<n):(List.range n)[i]?=some i:=by simp[h]
section
variable {H:Type}{enc:TypeId×Value->H}{P:Program}{w w':World}
theorem tP{a:Addr}{n:Nat}{cs:List Value}(h:w.cells? 0 a n=some cs):cs.length=n/\∀i v,cs[i]?=some v->w.cell? (a.add i)=some v:=by
 unfold World.cells? at h;rw[Ap (Ej _)]at h;obtain⟨h1,h2⟩:=Iy _ _ _ h;simp only[Uo]at h1;refine⟨h1,fun i v hv=>?_⟩;have hi:i<n:=by have:=(AN.1 hv).1;omega
 exact h2 i i v (Qw hi) hv
theorem VN{a:Addr}{v:Value}(h:w.cell? a=some v):a.spot=none/\a.block<w.heap.size:=by
 unfold World.cell? at h;split at h
 ·rename_i hb;split at h
  ·cases h
  ·rename_i hs;exact⟨by simpa using hs,(Dt.1 hb).1⟩
 ·cases h
mutual
def BN{H:Type}:DataW H->Nat
 |.lit (.string bytes)=>bytes.length+1
 |.lit _=>1
 |.nil=>1
 |.ptr d=>BN d+1
 |.slice elems spare=>DR elems+DR spare+1
 |.agg parts=>DR parts+1
 |.iface _ d=>BN d+1
 |.map entries=>VP entries+1
 |.held _=>1
def DR{H:Type}:List (DataW H)->Nat
 |[]=>0
 |d :: r=>BN d+DR r
def VP{H:Type}:List (Lit×DataW H)->Nat
 |[]=>0
 |x :: r=>tQ x+VP r
def tQ{H:Type}:Lit×DataW H->Nat
 |(.string bytes,d)=>bytes.length+BN d+1
 |(_,d)=>BN d+1
end
theorem tR(d:DataW H):1<=BN d:=by
 cases d with
 |lit l=>cases l<;>simp[BN]
 |_=>simp[BN]
theorem Mr:∀{l:List (DataW H)} {d:DataW H},d∈l->BN d<=DR l
 |a :: l,d,h=>by
  rw[DR];rcases AI.1 h with rfl|h
  ·omega
  ·have:=Mr h;omega
theorem VQ:∀(l:List (DataW H)),l.length<=DR l
 |[]=>AB _
 |a :: l=>by rw[DR,Df];have:=tR a;have:=VQ l;omega
theorem tS{N:Nat}{g:Gh}(hg:∀b,b<w.heap.size->g.fz b){sp:Nat->Bool}{held:Bool}:∀(m fuel:Nat), (∀(t:TypeId) (cs:List Value) (d:DataW H) (ps:List MemPlace) (ss:List Sh),DataW.trod enc P w 0 sp held fuel t cs=some (d,ps)->FY P m t=some ss->(maxLen<=N\/BN d<=N) -> (∀v∈cs,v.oneCell'=true)/\∃xs,RVs g w xs cs/\De N ss xs) /\
  (∀(fs:List Field) (c off:Nat) (cs:List Value) (res:List (DataW H×List MemPlace)) (ss:List Sh),cs.length=c->FI P m c fs off=some ss ->
   fs.mapM (fun f=>DataW.trod enc P w 0 sp held fuel f.type ((cs.drop f.offset).take (P.cellsOf f.type)))=some res->(maxLen<=N\/∀x∈res,BN x.1<=N)->(∀v∈cs.drop off,v.oneCell'=true)/\∃xs,RVs g w xs (cs.drop off)/\De N ss xs):=by
 intro m;induction m with
 |zero=>intro fuel;exact⟨fun t cs d ps ss _ h=>by simp[FY]at h,fun fs c off cs res ss _ h=>by simp[FI]at h⟩
 |succ m ih =>
  intro fuel;constructor
  ·intro t cs d ps ss h hs hN;cases fuel with
   |zero=>simp[DataW.trod]at h
   |succ fuel =>
   obtain⟨ih1,ih2⟩:=ih fuel;unfold DataW.trod at h;unfold FY at hs;cases hu:P.underlying t with
   |none=>rw[hu]at hs;cases hs
   |some de =>
   rw[hu]at h hs;cases de<;>simp only at hs<;>(try (cases hs;done))
   case bool =>
    rcases cs with _|⟨v,_|⟨v',r⟩⟩
    ·cases h
    ·cases v<;>(try (cases h;done))
     case bool b =>cases hs;exact⟨by simp[Value.oneCell'],[.bool b],.cons (.bool b) (.nil g w),.one (.bool b)⟩
    ·cases v<;>cases h
   case int k =>
    rcases cs with _|⟨v,_|⟨v',r⟩⟩
    ·cases h
    ·cases v<;>(try (cases h;done))
     case int k' n =>
      simp only at h;split at h
      ·rename_i hk;obtain⟨rfl,hw⟩:=hk;cases hs;simp only[Lit.wf,AE,BB]at hw;exact⟨by simp[Value.oneCell'],[.int _ n],.cons (.int _ n) (.nil g w),.one (.int _ n hw.1 hw.2)⟩
      ·cases h
    ·cases v<;>cases h
   case string =>
    rcases cs with _|⟨v,_|⟨v',r⟩⟩
    ·cases h
    ·cases v<;>(try (cases h;done))
     case string s =>
      simp only at h;split at h
      ·rename_i hl;cases hs;cases h
       have eZ:s.data.toList.length<=N:=by
        rcases hN with hN|hN
        ·have:s.data.toList.length<=maxLen:=(by simpa using hl);omega
        ·simp only[BN]at hN;omega
       exact⟨by simp[Value.oneCell'],[.str s.data.toList],.cons (.str _ s rfl) (.nil g w),.one (.str _ eZ)⟩
      ·cases h
    ·cases v<;>cases h
   case slice e =>
    rcases cs with _|⟨v,_|⟨v',r⟩⟩
    ·cases h
    ·cases v<;>(try (cases h;done))
     case slice ao len cap =>
      cases ao with
      |none =>
       have cX:len=0/\cap=0:=by
        rcases len with _|len
        ·rcases cap with _|cap;·exact⟨rfl,rfl⟩
         ·cases h
        ·cases h
       obtain⟨rfl,rfl⟩:=cX;split at hs
       ·split at hs;·cases hs;exact⟨by simp[Value.oneCell'],[.slc _ 0 (fun _=>[])],.cons (.slc0 _ _ _ _) (.nil g w),.one (.slc _ 0 _ (Ej _) (fun i hi=>by omega) (fun i j s x hi=>by omega))⟩
        ·cases hs
       ·cases hs
      |some a =>
       simp only at h;split at hs
       ·rename_i s f6;split at hs
        ·rename_i bF;obtain⟨iK,dC⟩:=bF;cases hs;split at h
         ·rename_i hb;obtain⟨_,nW,pT⟩:=hb;refine⟨by simp[Value.oneCell'],?_⟩;simp only[Option.bind_eq_some_iff,Ur]at h;obtain⟨elems,bA,rest,aL,heq⟩:=h;obtain⟨eJ,iL⟩:=Iy _ _ _ bA;simp only[Uo]at eJ;have hd:DataW.slice (elems.map Prod.fst) (rest.map Prod.fst)=d:=(Prod.mk.inj heq).1
          have nX:len<=N:=by
           rcases hN with hN|hN
           ·omega
           ·rw[<-hd,BN]at hN;have:=VQ (elems.map Prod.fst);rw[JC]at this;omega
          have lj:maxLen<=N\/∀y∈elems,BN y.1<=N:=by
           rcases hN with hN|hN
           ·exact .inl hN
           ·refine .inr fun y hy=>?_;rw[<-hd,BN]at hN;have:=Mr (Uz (f:=Prod.fst) hy);omega
          by_cases h0:len=0
          ·subst h0;exact⟨[.slc _ 0 (fun _=>[])],.cons (.slc0 _ _ _ _) (.nil g w),.one (.slc _ 0 _ (Ej _) (fun i hi=>by omega) (fun i j s x hi=>by omega))⟩
          have each:∀i,i<len->∃row:List Value,row.length=s.length/\(∀j v,row[j]?=some v->w.cell? ((a.add (i*P.cellsOf e)).add j)=some v)/\(∀v∈row,v.oneCell'=true)/\∃xs,RVs g w xs row/\De N s xs:=(by intro i hi;have h1:=iL i i _ (Qw hi) (AD (by omega:i<elems.length));obtain⟨row,hr,ht⟩:=Option.bind_eq_some_iff.1 h1;obtain⟨r1,r2⟩:=tP hr;obtain⟨o1,o2⟩:=ih1 e row _ _ s ht f6 (lj.imp id fun h=>h _ (GT _));exact⟨row,by omega,r2,o1,o2⟩);obtain⟨row0,r01,r02,_,_⟩:=each 0 (by omega);have dF:a.spot=none/\a.block<w.heap.size:=by have:=r02 0 _ (AD (by omega:0<row0.length));have:=VN this;simpa [Addr.add] using this
          have rowx:∀i,∃p:List Value×List Aa,i<len->p.1.length=s.length/\(∀j v,p.1[j]?=some v->w.cell? ((a.add (i*P.cellsOf e)).add j)=some v)/\(∀v∈p.1,v.oneCell'=true)/\RVs g w p.2 p.1/\De N s p.2:=by
           intro i;by_cases hi:i<len
           ·obtain⟨row,a1,a2,a3,xs,a4,a5⟩:=each i hi;exact⟨(row,xs),fun _=>⟨a1,a2,a3,a4,a5⟩⟩
           ·exact⟨([],[]),fun h=>absurd h hi⟩
          let F:=fun i=>(rowx i).choose
          have hF:∀i,i<len->_:=fun i=>(rowx i).choose_spec;obtain⟨blk,off,spot⟩:=a;obtain⟨dh,cT⟩:=dF;simp only at dh cT;subst dh
          refine⟨[.slc s.length len (fun i=>(F i).2)],.cons (.slc s.length len _ blk off cap (fun i j=>(F i).1.getD j undef) (hg blk cT) nW (fun i hi=>(hF i hi).2.2.2.2.1) (fun i j hi hj=>?_) (fun i j hi hj=>?_) (fun i j x hi hx=>?_)) (.nil g w),
           .one (.slc s len _ nX (fun i hi=>(hF i hi).2.2.2.2.1) (fun i j s' x hi h1 h2=>(hF i hi).2.2.2.2.2 j s' x h1 h2))⟩
          ·have h1:=(hF i hi).1;have bI:j<(F i).1.length:=(by show j<(rowx i).choose.1.length;omega);have h2:=(hF i hi).2.1 j _ (AD bI);have e1:((⟨blk,off,none⟩:Addr).add (i*P.cellsOf e)).add j=⟨blk,off+i*s.length+j,none⟩:=(by rw[iK];unfold Addr.add;by_cases a1:i*s.length=0<;>by_cases a2:j=0<;>simp[a1,a2,EF]);rw[e1]at h2;rw[h2];simp[List.getD,bI]
          ·have h1:=(hF i hi).1;have bI:j<(F i).1.length:=(by show j<(rowx i).choose.1.length;omega);have e2:(F i).1.getD j undef=(F i).1[j]:=(by simp[List.getD,bI]);rw[e2];exact(hF i hi).2.2.1 _ (GT bI)
          ·have h1:=(hF i hi).1;have h4:=(hF i hi).2.2.2.1;have hj:j<(F i).2.length:=(AN.1 hx).1;have bI:j<(F i).1.length:=(by have:(F i).1.length=(F i).2.length:=h4.1;omega);have e2:(F i).1.getD j undef=(F i).1[j]:=(by simp[List.getD,bI]);have e3:(F i).1[j]?=some (F i).1[j]:=AD bI;exact h4.2 j x _ hx (e3.trans (by rw[e2]))
         ·cases h
        ·cases hs
       ·cases hs
    ·cases v<;>first|(cases h;done)|(rename_i ao len cap;rcases ao with _|ao<;>rcases len with _|len<;>rcases cap with _|cap<;>cases h)
   case struct fs =>
    simp only at h;split at h
    ·rename_i aD;simp only[Ur]at h;obtain⟨res,aT,heq⟩:=h;have hd:DataW.agg (res.map Prod.fst)=d:=(Prod.mk.inj heq).1;have:=ih2 fs.toList (P.cellsOf t) 0 cs res ss aD hs aT (hN.imp id fun hN x hx=>by rw[<-hd,BN]at hN;have:=Mr (Uz (f:=Prod.fst) hx);omega);simpa using this
    ·cases h
   case array n e =>
    simp only at h;split at hs
    ·rename_i s f6;split at hs
     ·rename_i bF;obtain⟨iK,m7⟩:=bF;cases hs;split at h
      ·rename_i aD;simp only[Ur]at h;obtain⟨res,aT,heq⟩:=h;have hd:DataW.agg (res.map Prod.fst)=d:=(Prod.mk.inj heq).1;have lj:maxLen<=N\/∀y∈res,BN y.1<=N:=hN.imp id fun hN x hx=>by rw[<-hd,BN]at hN;have:=Mr (Uz (f:=Prod.fst) hx);omega
       obtain⟨eJ,iL⟩:=Iy _ _ _ aT;simp only[Uo]at eJ
       have go:∀k i,i+k=n->(∀v∈cs.drop (i*s.length),v.oneCell'=true)/\∃xs,RVs g w xs (cs.drop (i*s.length))/\De N (rep s k) xs:=by
        intro k;induction k with
        |zero =>
         intro i hi
         have:cs.drop (i*s.length)=[]:=by
          rw[qH];have:i=n:=by omega
          subst this;omega
         rw[this];exact⟨by simp,[],.nil g w,.nil⟩
        |succ k ihk =>
         intro i hi;obtain⟨t1,xs1,t2,t3⟩:=ihk (i+1) (by omega);have h1:=iL i i _ (Qw (by omega)) (AD (by omega:i<res.length));obtain⟨o1,xs0,o2,o3⟩:=ih1 e _ _ _ s h1 f6 (lj.imp id fun h=>h _ (GT _));have e1:(cs.drop (i*P.cellsOf e)).take (P.cellsOf e)++cs.drop ((i+1)*s.length)=cs.drop (i*s.length):=by rw[iK,Ei,<-Lq];exact P7 _ _
         rw[<-e1];exact⟨fun v hv=>(Cp.1 hv).elim (o1 v) (t1 v),xs0++xs1,o2.append t2,o3.append t3⟩
       have:=go n 0 (by omega);simpa using this
      ·cases h
     ·cases hs
    ·cases hs
  ·intro fs c off cs res ss aD hs aT hN;cases fs with
   |nil =>
    simp only[FI]at hs;split at hs
    ·rename_i ho;cases hs;have:cs.drop off=[]:=by rw[qH];omega
     rw[this];exact⟨by simp,[],.nil g w,.nil⟩
    ·cases hs
   |cons f r =>
    obtain⟨ih1,ih2⟩:=ih fuel;simp only[FI]at hs;split at hs
    ·rename_i s f6;split at hs
     ·rename_i bF;obtain⟨ho,iK⟩:=bF;split at hs
      ·rename_i q hq;cases hs;rw[List.mapM_cons]at aT;cases ha:DataW.trod enc P w 0 sp held fuel f.type ((cs.drop f.offset).take (P.cellsOf f.type)) with
       |none=>rw[ha]at aT;cases aT
       |some y =>
        rw[ha]at aT;cases hl:r.mapM (fun f=>DataW.trod enc P w 0 sp held fuel f.type ((cs.drop f.offset).take (P.cellsOf f.type))) with
        |none=>rw[hl]at aT;cases aT
        |some ys =>
         rw[hl]at aT;have e:y :: ys=res:=by simpa using aT
         subst e;obtain⟨o1,xs0,o2,o3⟩:=ih1 f.type _ y.1 y.2 s ha f6 (hN.imp id fun h=>h y (BL ..));obtain⟨t1,xs1,t2,t3⟩:=ih2 r c (off+s.length) cs ys q aD hq hl (hN.imp id fun h x hx=>h x (Db _ hx));have e1:(cs.drop f.offset).take (P.cellsOf f.type)++cs.drop (off+s.length)=cs.drop off:=by rw[iK,ho,<-Lq];exact P7 _ _
         rw[<-e1];exact⟨fun v hv=>(Cp.1 hv).elim (o1 v) (t1 v),xs0++xs1,o2.append t2,o3.append t3⟩
      ·cases hs
     ·cases hs
    ·cases hs
theorem tU{a:Addr}{n:Nat}(h:0<n):MemPlace.cell a.block a.off∈MemPlace.row a n:=by unfold MemPlace.row;rw[P5];exact⟨0,GN.2 h,by simp⟩
theorem tV(hh:∀b,b<w.heap.size->w'.heap[b]?=w.heap[b]?){a:Addr}{n:Nat}{cs:List Value}(h:w.cells? 0 a n=some cs):w'.cells? 0 a n=some cs:=by
 unfold World.cells? at h |-;rw[Ap (Ej _)]at h |-;refine JZ h fun i x y _ _ hy=>?_;have hb:=(VN hy).2;have e:(a.add x).block=a.block:=by unfold Addr.add;split<;>rfl
 have:=hh _ hb;unfold World.cell? at hy |-;rw[this];exact hy
theorem tW(hh:∀b,b<w.heap.size->w'.heap[b]?=w.heap[b]?){sp:Nat->Bool}{held:Bool}:∀(m fuel:Nat),
  (∀(t:TypeId) (cs:List Value) (d:DataW H) (ps:List MemPlace) (ss:List Sh),DataW.trod enc P w 0 (fun _=>true) held fuel t cs=some (d,ps)->FY P m t=some ss->(∀p∈ps,sp p.block=true) ->
   DataW.trod enc P w' 0 sp held fuel t cs=some (d,ps)) /\
  (∀(fs:List Field) (c off:Nat) (cs:List Value) (res:List (DataW H×List MemPlace)) (ss:List Sh),FI P m c fs off=some ss ->
   fs.mapM (fun f=>DataW.trod enc P w 0 (fun _=>true) held fuel f.type ((cs.drop f.offset).take (P.cellsOf f.type)))=some res->(∀x∈res,∀p∈x.2,sp p.block=true) ->
   fs.mapM (fun f=>DataW.trod enc P w' 0 sp held fuel f.type ((cs.drop f.offset).take (P.cellsOf f.type)))=some res):=by
 intro m;induction m with
 |zero=>intro fuel;exact⟨fun t cs d ps ss _ h=>by simp[FY]at h,fun fs c off cs res ss h=>by simp[FI]at h⟩
 |succ m ih =>
  intro fuel;constructor
  ·intro t cs d ps ss h hs hp;cases fuel with
   |zero=>simp[DataW.trod]at h
   |succ fuel =>
   obtain⟨ih1,ih2⟩:=ih fuel;unfold DataW.trod at h |-;unfold FY at hs;cases hu:P.underlying t with
   |none=>rw[hu]at hs;cases hs
   |some de =>
   rw[hu]at h hs;cases de<;>simp only at hs<;>(try (cases hs;done))
   case bool =>
    rcases cs with _|⟨v,_|⟨v',r⟩⟩
    ·cases h
    ·cases v<;>(try (cases h;done));exact h
    ·cases v<;>cases h
   case int k =>
    rcases cs with _|⟨v,_|⟨v',r⟩⟩
    ·cases h
    ·cases v<;>(try (cases h;done));exact h
    ·cases v<;>cases h
   case string =>
    rcases cs with _|⟨v,_|⟨v',r⟩⟩
    ·cases h
    ·cases v<;>(try (cases h;done));exact h
    ·cases v<;>cases h
   case slice e =>
    rcases cs with _|⟨v,_|⟨v',r⟩⟩
    ·cases h
    ·cases v<;>(try (cases h;done))
     case slice ao len cap =>
      cases ao with
      |none =>
       rcases len with _|len
       ·rcases cap with _|cap;·exact h
        ·cases h
       ·cases h
      |some a =>
       simp only at h |-;split at hs
       ·rename_i s f6;split at hs
        ·rename_i bF;obtain⟨iK,dC⟩:=bF;split at h
         ·rename_i hb;rw[Ap hb];simp only[Option.bind_eq_some_iff,Bw,Ur]at h;obtain⟨elems,bA,rest,aL,heq⟩:=h;obtain⟨eJ,iL⟩:=Iy _ _ _ bA;obtain⟨fo,eK⟩:=Iy _ _ _ aL;simp only[Uo]at eJ fo;simp only[DL]at heq;obtain⟨hd,jo⟩:=heq;have sub:∀x∈elems++rest,∀p∈x.2,sp p.block=true:=fun x hx p gY=>hp p (by rw[<-jo];exact Cp.2 (.inr (List.mem_flatMap.2 ⟨x,hx,gY⟩)));have step:∀(i:Nat) (y:DataW H×List MemPlace),y∈elems++rest->(w.cells? 0 (a.add (i*P.cellsOf e)) (P.cellsOf e)).bind (DataW.trod enc P w 0 (fun _=>true) held fuel e)=some y -> (w'.cells? 0 (a.add (i*P.cellsOf e)) (P.cellsOf e)).bind (DataW.trod enc P w' 0 sp held fuel e)=some y:=by intro i y hy hi;obtain⟨row,h1,h2⟩:=Option.bind_eq_some_iff.1 hi;rw[tV hh h1];exact ih1 e row y.1 y.2 s h2 f6 (sub y hy)
          have dN:(List.range len).mapM (fun i=>(w'.cells? 0 (a.add (i*P.cellsOf e)) (P.cellsOf e)).bind (DataW.trod enc P w' 0 sp held fuel e))=some elems :=
           JZ bA fun i x y hx hy cU=>step x y (Cp.2 (.inl (Dx hy))) cU
          have ed:(if sp a.block=true then(List.range (cap-len)).mapM (fun j=>(w'.cells? 0 (a.add ((len+j)*P.cellsOf e)) (P.cellsOf e)).bind (DataW.trod enc P w' 0 sp held fuel e)) else some [])=some rest:=by
           by_cases dF:sp a.block=true
           ·rw[Ap dF];exact JZ aL fun i x y hx hy cU=>step (len+x) y (Cp.2 (.inr (Dx hy))) cU
           ·rw[Aj dF];by_cases hc:0<elems.length+rest.length
            ·exfalso;have lk:MemPlace.cell a.block a.off∈ps:=(by rw[<-jo];exact Cp.2 (.inl (tU (Nat.mul_pos hc (by omega)))));exact dF (hp _ lk)
            ·have:rest=[]:=J7.1 (by omega);rw[this]
          rw[dN];simp only[Option.bind_some];rw[ed];simp only[Ek,hd,jo]
         ·cases h
        ·cases hs
       ·cases hs
    ·cases v<;>first|(cases h;done)|(rename_i ao len cap;rcases ao with _|ao<;>rcases len with _|len<;>rcases cap with _|cap<;>cases h)
   case struct fs =>
    simp only at h |-;split at h
    ·rename_i aD;rw[Ap aD];simp only[Ur]at h |-;obtain⟨res,aT,heq⟩:=h;refine⟨res,ih2 fs.toList (P.cellsOf t) 0 cs res ss hs aT fun x hx p gY=>hp p ?_,heq⟩;simp only[DL]at heq;rw[<-heq.2];exact List.mem_flatMap.2 ⟨x,hx,gY⟩
    ·cases h
   case array n e =>
    simp only at h |-;split at hs
    ·rename_i s f6;split at hs
     ·split at h;·rename_i aD;rw[Ap aD];simp only[Ur]at h |-;obtain⟨res,aT,heq⟩:=h;simp only[DL]at heq;refine⟨res,JZ aT fun i x y hx hy cU=>ih1 e _ y.1 y.2 s cU f6 fun p gY=>hp p ?_,by simp[heq.1,heq.2]⟩;rw[<-heq.2];exact List.mem_flatMap.2 ⟨y,Dx hy,gY⟩
      ·cases h
     ·cases hs
    ·cases hs
  ·intro fs c off cs res ss hs aT hp;cases fs with
   |nil=>simpa using aT
   |cons f r =>
    obtain⟨ih1,ih2⟩:=ih fuel;simp only[FI]at hs;split at hs
    ·rename_i s f6;split at hs
     ·split at hs
      ·rename_i q hq;rw[List.mapM_cons]at aT |-;cases ha:DataW.trod enc P w 0 (fun _=>true) held fuel f.type ((cs.drop f.offset).take (P.cellsOf f.type)) with
       |none=>rw[ha]at aT;cases aT
       |some y =>
        rw[ha]at aT;cases hl:r.mapM (fun f=>DataW.trod enc P w 0 (fun _=>true) held fuel f.type ((cs.drop f.offset).take (P.cellsOf f.type))) with
        |none=>rw[hl]at aT;cases aT
        |some ys =>
         rw[hl]at aT;have e:y :: ys=res:=by simpa using aT
         subst e;rw[ih1 f.type _ y.1 y.2 s ha f6 (fun p gY=>hp y (BL ..) p gY),ih2 r c (off+s.length) cs ys q hq hl (fun x hx=>hp x (Db _ hx))];rfl
      ·cases hs
     ·cases hs
    ·cases hs
end
open Go.ChangeShapes Go.WideShapes Go.ChangeAt Go.RowKit
def FJ(P:Program)(t:TypeId):Bool:=match P.underlying t with
 |some (.struct _) | some (.array _ _)=>true
 |_=>false
def VS(N:Nat)(P:Program)(m:Nat)(t:TypeId)(x:Aa):Prop:=∃ss,FY P m t=some ss/\((FJ P t=true/\∃xs,x=.agg xs/\De N ss xs)\/(FJ P t=false/\∃s,ss=[s]/\ShOk N s x))
def Ka(N:Nat)(P:Program)(m:Nat):List TypeId->List Aa->Prop
 |[],[]=>True
 |t :: ts,x :: xs=>VS N P m t x/\Ka N P m ts xs
 |_,_=>False
section
variable {H:Type}{enc:TypeId×Value->H}{P:Program}{W W':World}
theorem tX{N:Nat}{g:Gh}(hg:∀b,b<W.heap.size->g.fz b){m:Nat}{r:Reach}{b0:Nat}{t:TypeId}{v:Value}{sp:Nat->Bool}{held:Bool}{d:DataW H}{ps:List MemPlace}(bO:Value.okWide P W r b0 t v)(h:DataW.Trod enc P W 0 sp held t v d ps)(hs:(FY P m t).isSome=true)(hN:maxLen<=N\/BN d<=N) : ∃x,RV g W x v/\VS N P m t x:=by
 obtain⟨fuel,h⟩:=h;obtain⟨ss,gZ⟩:=Option.isSome_iff_exists.1 hs;obtain⟨_,xs,hx,eV⟩:=(tS hg m fuel).1 t _ d ps ss h gZ hN;by_cases ha:FJ P t=true
 ·have:∃cs,v=.agg cs:=by
   unfold FJ at ha;unfold Value.okWide at bO;split at ha<;>rename_i hu<;>first|(rw[hu]at bO;obtain⟨cs,e,_⟩:=bO;exact⟨cs,e⟩)|cases ha
  obtain⟨cs,rfl⟩:=this;exact⟨.agg xs,.agg xs cs (by simpa [Value.cells] using hx.1) (fun i x v h1 h2=>hx.2 i x v h1 (by simpa [Value.cells] using h2)),ss,gZ,.inl ⟨ha,xs,rfl,eV⟩⟩
 ·have kb:FJ P t=false:=by simpa using ha
  have dP:v.cells.toList=[v]:=by
   cases v<;>first|rfl|skip
   case agg cs =>
    exfalso;unfold FJ at kb;unfold Value.okWide at bO;cases hu:P.underlying t with
    |none=>rw[hu]at bO;simp[Cell.okWide,Cell.ok,hu]at bO
    |some de =>rw[hu]at bO kb;cases de<;>simp[Cell.okWide,Cell.ok,hu]at bO kb
  rw[dP]at hx;have hl:=hx.1;simp only[Dh]at hl
  match xs,hl,hx,eV with
  |[x],_,hx,eV =>
   have h1:=eV.1;simp only[Dh]at h1
   match ss,h1,gZ,eV with
   |[s],_,gZ,eV=>exact⟨x,hx.2 0 x v rfl rfl,[s],gZ,.inr ⟨kb,s,rfl,eV.2 0 s x rfl rfl⟩⟩
theorem VT{N:Nat}{g:Gh}(hg:∀b,b<W.heap.size->g.fz b){m:Nat}{r:Reach}{b0:Nat}{sp:Nat->Bool}{held:Bool}:∀{ts:List TypeId} {vs:List Value} {ds:List (DataW H)} {ps:List MemPlace}, (∀(j:Nat) t v,ts[j]?=some t->vs[j]?=some v->Value.okWide P W r b0 t v)->DataW.TrodAll enc P W 0 sp held ts vs ds ps->(∀t∈ts,(FY P m t).isSome=true)->(maxLen<=N\/DR ds<=N)->∃xs,RVs g W xs vs/\Ka N P m ts xs
 |[],vs,ds,ps,_,h,_,_=>by obtain⟨rfl,_,_⟩:=trodAll_nil h;exact⟨[],.nil _ _,trivial⟩
 |t :: ts,vs,ds,ps,hv,h,hs,hN=>by obtain⟨v,vs',d,ds',p,q,rfl,rfl,rfl,h1,h2⟩:=trodAll_cons h;obtain⟨x,hx,ha⟩:=tX hg (hv 0 t v rfl rfl) h1 (hs t (BL ..)) (hN.imp id fun h=>by rw[DR]at h;omega);obtain⟨xs,eW,jp⟩:=VT hg (fun j t v h1 h2=>hv (j+1) t v (by simpa using h1) (by simpa using h2)) h2 (fun t ht=>hs t (Db _ ht)) (hN.imp id fun h=>by rw[DR]at h;omega);exact⟨x :: xs,.cons hx eW,ha,jp⟩
theorem VU(hh:∀b,b<W.heap.size->W'.heap[b]?=W.heap[b]?){m:Nat}{sp:Nat->Bool}{held:Bool}:∀{ts:List TypeId} {vs:List Value} {ds:List (DataW H)} {ps:List MemPlace},
  DataW.TrodAll enc P W 0 (fun _=>true) held ts vs ds ps->(∀t∈ts,(FY P m t).isSome=true)->(∀p∈ps,sp p.block=true)->DataW.TrodAll enc P W' 0 sp held ts vs ds ps
 |[],vs,ds,ps,h,_,_=>by obtain⟨rfl,rfl,rfl⟩:=trodAll_nil h;exact trodAll_mk0
 |t :: ts,vs,ds,ps,h,hs,hp=>by obtain⟨v,vs',d,ds',p,q,rfl,rfl,rfl,⟨fuel,h1⟩,h2⟩:=trodAll_cons h;obtain⟨ss,gZ⟩:=Option.isSome_iff_exists.1 (hs t (BL ..));exact trodAll_cons_mk ⟨fuel,(tW hh m fuel).1 t _ d p ss h1 gZ fun x hx=>hp x (Cp.2 (.inl hx))⟩ (VU hh h2 (fun t ht=>hs t (Db _ ht)) (fun x hx=>hp x (Cp.2 (.inr hx))))
theorem law_contract{N:Nat}{E:Nat->Aa}{f:FuncId}{fn:Func}{s:ChangeSpec}{m:Nat}{tb:TypeId}{laid:List (String×DataW Unit)}{W:World}{base:Nat}{args:Array Value}{ds gs:List (DataW H)}{before:List MemPlace}(f7:∀t∈fn.params.toList,(FY P m t).isSome=true) (aT:fn.resultTypes=#[tb]) (hb:P.underlying tb=some .bool) (gC:s.vars=[])(fA:∀ds:List (DataW H),ds.length=fn.params.toList.length->s.fn H ds={ results:=[.lit (.bool true)],args:=ds })(jq:∀g:Gh,(∀b,b<W.heap.size->g.fz b)->∀i,RV g W (E i) (.pointer (some ⟨i,0,none⟩)))(hN:maxLen<=N\/DR ds<=N)(law:∀xs,Ka N P m fn.params.toList xs->B8 E P f xs (.bool true))(bO:∀(j:Nat) t v,fn.params[j]?=some t->args[j]?=some v->Value.okWide P W .any base t v)(hW:DataW.Whole enc P fn.params.toList s.vars false W args.toList ds gs before) :
  Calls P f args W fun e W'=>∃v,e=.returned v/\s.post enc P fn false true false false W args v W':=by
 have m9:=hW;obtain⟨p,q,hA,hV,rfl,d7,dt⟩:=hW;rw[gC]at hV;obtain⟨rfl,rfl⟩:=trodVars_none hV
 let g:Gh:=⟨fun _=>0,fun _=>0,fun _=>0,fun _=>0,fun _=>0,fun b=>b<W.heap.size⟩
 have hg:∀b,b<W.heap.size->g.fz b:=fun b h=>h;obtain⟨xs,eW,aB⟩:=VT hg (fun j t v h1 h2=>bO j t v (by simpa using h1) (by simpa using h2)) hA f7 hN;have HR0:HR E g h0 W:=⟨fun _=>trivial,fun _=>rfl,(by intro i j hi;cases hi),(by intro i hi;cases hi),fun b hb=>hb,jq g hg⟩;have main:=law xs aB h0 g W args.toList HR0 eW;rw[J1]at main;refine main.mono ?_;rintro e W' ⟨g',h',r,v,⟨rfl,rfl⟩,rfl,bV,_,st⟩;cases bV;have hh:∀b,b<W.heap.size->W'.heap[b]?=W.heap[b]?:=fun b hb=>st.keep b hb (by intro i hi;cases hi);have aD:ds.length=fn.params.toList.length:=(trodAll_length hA).2;refine⟨_,rfl,ds,[],_,[],p,[],m9,?_,?_,?_,?_,fun h=>by cases h⟩
 ·rw[List.append_nil,fA ds aD,aT];exact trodAll_cons_mk (shut_bool hb true) trodAll_mk0
 ·rw[List.append_nil,fA ds aD];exact VU hh hA f7 fun x hx=>by simpa using m9.lt x (Cp.2 (.inl hx))
 ·rw[List.append_nil,fA ds aD,gC];exact rfl
 ·refine⟨st.os,st.output,fun i hi=>?_⟩;rw[hh i hi];cases W.heap[i]? with
  |none=>rfl
  |some o=>cases o<;>first | exact⟨rfl,rfl,rfl,fun _ _=>rfl⟩ | exact .inr ⟨rfl,rfl⟩ | rfl
end
def look:List (Nat×Aa)->Nat->Aa
 |[],_=>.top
 |p :: r,i=>if p.1=i then p.2 else look r i
def tl(m:List (Nat×Aa))(n:Nat):List Aa:=(List.range n).map (look m)
def Gr:List (Nat×Ai)->Nat->Ai
 |[],_=>.gone 0
 |p :: r,i=>if p.1=i then p.2 else Gr r i
def hl(m:List (Nat×Ai)):Ax:=fun i=>Gr m i
theorem CC(m:List (Nat×Aa))(n:Nat):(tl m n).length=n:=by simp[tl]
theorem EK(m:List (Nat×Aa))(n i:Nat):(tl m n)[i]?=if i<n then some (look m i) else none:=by unfold tl;by_cases h:i<n<;>simp[h]
theorem Kb(m:List (Nat×Aa))(n i:Nat):(tl m n)[i]?.getD .top=if i<n then look m i else .top:=by rw[EK];split<;>rfl
theorem Kc(m:List (Nat×Aa))(n i:Nat):(tl m n).getD i .top=if i<n then look m i else .top:=by rw[J3,Kb]
theorem Iz(m:List (Nat×Aa))(n i:Nat)(v:Aa):(tl m n).set i v=tl ((i,v) :: m) n:=by
 apply PF;intro j;rw[JB,CC,EK,EK];by_cases h:i=j
 ·subst h;simp[look]
 ·simp[h,look]
theorem Ms(m:List (Nat×Ai))(i:Nat)(o:Ai):hset (hl m) i o=hl ((i,o) :: m):=by
 funext j;simp only[hset,hl,Gr];by_cases h:j=i
 ·subst h;simp
 ·have h':¬i=j:=fun e=>h e.symm;simp[h,h']
theorem Mt(m:List (Nat×Ai))(i:Nat):hl m i=Gr m i:=rfl
def zipA:Nat->List Aa->List (Nat×Aa)
 |_,[]=>[]
 |i,x :: r=>(i,x) :: zipA (i+1) r
theorem VV:∀(l:List Aa) (k i:Nat),look (zipA k l) i=if k<=i then l.getD (i-k) .top else .top
 |[],k,i=>by simp[zipA,look]
 |x :: r,k,i=>by
  have ih:=VV r (k+1) i;simp only[zipA,look];by_cases h:k=i
  ·subst h;simp
  ·rw[Aj h,ih];by_cases h1:k+1<=i
   ·rw[Ap h1,Ap (by omega)];obtain⟨d,hd⟩:∃d,i-k=d+1:=⟨i-k-1,by omega⟩;rw[hd,show i-(k+1)=d by omega];rfl
   ·rw[Aj h1,Aj (by omega)]
theorem Mu(l:List Aa)(k:Nat):l++List.replicate k .top=tl (zipA 0 l) (l.length+k):=by
 apply PF;intro i;rw[EK,VV];simp only[Ej,Bw,Nat.sub_zero];by_cases h:i<l.length
 ·rw[F0 h,Ap (by omega)];simp[h]
 ·rw[GS (by omega),rl];by_cases h2:i<l.length+k
  ·rw[Ap (by omega),Ap h2];simp[List.getD,JA (Nat.le_of_not_lt h)]
  ·rw[Aj (by omega),Aj h2]
def Us(m:List (Nat×Ai))(r:List (Nat×Ai)):Bool:=m.all fun p=>r.any fun q=>q.1==p.1
theorem VW{m:List (Nat×Ai)}{i:Nat}(h:m.all (fun p=>!(p.1==i))=true):Gr m i=.gone 0:=by
 induction m with
 |nil=>rfl
 |cons p r ih =>simp only[List.all_cons,AE,GR,beq_eq_false_iff_ne,ne_eq]at h;simp only[Gr,Aj h.1];exact ih (by simpa using h.2)
def pick(m:List (Nat×Aa)):List Nat->List (Nat×Aa)
 |[]=>[]
 |i :: r=>(i,look m i) :: pick m r
section
variable {E:Nat->Aa}{P:Program}{ρ:Option Nat}{Q:Exit->Au->Prop}{S:Au}{m m':List (Nat×Aa)}{hm ce:List (Nat×Ai)}{n:Nat}
theorem Pure.ofs{f:FuncId}{fn:Func}{c:Code}{ac:AR}{args:List Aa}{r:Aa}{rs:List ARes}(hf:P.funcs[f]?=some fn)(hb:fn.body=some c)(hr:ED P fn.results.toList rs=true)(hc:A8 P c ac=true)(hm:zipA 0 args=m) (hn:fn.ntmps=n) (aE:args.length<=n) (hw:AW E none P ac (Post E rs (fun v _=>v=r)) ⟨tl m n,hl [],[]⟩):Pure E P f args r :=
 .of hf hb hr hc (n-args.length) (by omega) (by rw[Mu,hm,show args.length+(n-args.length)=n by omega];exact hw)
end
theorem Mv{l:List Aa}:Cm (.agg l)=some l:=rfl
theorem Mw{k:IntKind}{n:Int}:Cm (.int k n)=some [(.int k n)]:=rfl
theorem Mx{b:Bool}:Cm (.bool b)=some [(.bool b)]:=rfl
theorem My{s:List UInt8}:Cm (.str s)=some [(.str s)]:=rfl
theorem Mz :Cm .nils=some [.nils]:=rfl
theorem M0{st n:Nat}{f:Nat->List Aa}:Cm (.slc st n f)=some [(.slc st n f)]:=rfl
theorem M1{i e o n:Nat}:Cm (.vec i e o n)=some [(.vec i e o n)]:=rfl
theorem M2{i e o:Nat}:Cm (.ptr i e o)=some [(.ptr i e o)]:=rfl
theorem M3{i e k o:Nat}:Cm (.eptr i e k o)=some [(.eptr i e k o)]:=rfl
theorem M4{f:Nat->Aa}{l o:Nat}:Cm (.cptr f l o)=some [(.cptr f l o)]:=rfl
theorem M5 :Cm .nilp=some [.nilp]:=rfl
theorem M6{f:FuncId}{nb:Nat}{l:List Aa}:Cm (.fn f nb l)=some [(.fn f nb l)]:=rfl
theorem M7 :Cm .nilfn=some [.nilfn]:=rfl
theorem M8{i e:Nat}:Cm (.mp i e)=some [(.mp i e)]:=rfl
theorem M9 :Cm .nilmp=some [.nilmp]:=rfl
end Go.Am

