/- Part A4: an abstract machine proved sound over the calculus of the guide. No condition. -/
import Derived.Test.YtiaclogojhfmfaaGreatDoorA3
import Derived.ProofKit
import Derived.OpenShut
import Derived.Deep.DeepHandedRow
import Derived.Lib.LaidTab
import Derived.ChangeCalls
set_option linter.unusedSimpArgs false
set_option linter.unusedVariables false
namespace Go.Am
inductive Bb where
 |skip
 |reg (draw:Bool) (ops:List Ay) (preds:List (List Nat))
 |seq (a b:Bb)
 |cond (c:Ad) (a b:Bb)
 |block (id:Nat) (c:Bb)
 |loop (c:Bb)
 |ret
 |exit (id:Nat)
 |rfunc (f:Ad) (ps:List Tmp) (assign body:Bb)
 |scope (c:Bb)
 |label (l:Nat)
def A8(P:Program):Code->Bb->Bool
 |.skip,.skip=>true
 |.region _ ops false,.reg false m _=>yzf P ops ops.toList m
 |.region _ ops true,.reg true m preds=>yzf P ops ops.toList m&&GX ops.toList preds&&GY 0 ops.toList&&Ia m preds&&P.follows .mixedOrders
 |.seq a b,.seq a' b'=>A8 P a a'&&A8 P b b'
 |.cond c a b,.cond c' a' b'=>AB c c'&&A8 P a a'&&A8 P b b'
 |.block id c,.block id' c'=>id==id'&&A8 P c c'
 |.loop c,.loop c'=>A8 P c c'
 |.ret,.ret=>true
 |.exit id,.exit id'=>id==id'
 |.scope c,.scope c'=>A8 P c c'
 |.label l,.label l'=>l==l'
 |.rangeFunc f ps a b,.rfunc f' ps' a' b'=>AB f f'&&ps.toList==ps'&&A8 P a a'&&A8 P b b'
 |_,_=>false
def AW(E:Nat->Aa)(ρ:Option Nat)(P:Program)(c:Bb)(Q:Exit->Av->Prop)(S:Av):Prop:=∀code,A8 P code c=true->AWp E ρ P code Q S
section
variable {E:Nat->Aa}{P:Program}{ρ:Option Nat}{Q:Exit->Av->Prop}{S:Av}
theorem AW.mono{c:Bb}{Q':Exit->Av->Prop}(h:AW E ρ P c Q S)(hq:∀e S',Q e S'->Q' e S'):AW E ρ P c Q' S:=fun code hc=>(h code hc).mono hq
theorem AW.see{c:Bb}{S':Av}(s:See E S S')(h:AW E ρ P c Q S'):AW E ρ P c Q S:=fun code hc=>(h code hc).see s
theorem AW.skip(h:Q .normal S):AW E ρ P .skip Q S:=by
 intro code hc;cases code<;>simp only[A8]at hc<;>first|exact .skip h|(cases hc;done)|skip
 all_goals (split at hc<;>cases hc)
theorem AW.ret(h:Q .ret S):AW E ρ P .ret Q S:=by
 intro code hc;cases code<;>simp only[A8]at hc<;>first|exact .ret h|(cases hc;done)|skip
 all_goals (split at hc<;>cases hc)
theorem AW.exit{id:Nat}(h:Q (.exit id) S):AW E ρ P (.exit id) Q S:=by
 intro code hc;cases code<;>simp only[A8]at hc<;>(try (cases hc;done))
 case exit id'=>simp only[Bt]at hc;subst hc;exact .exit h
 all_goals (split at hc<;>cases hc)
theorem AW.seq{a b:Bb}(h:AW E ρ P a (Dp (AW E ρ P b Q) Q) S):AW E ρ P (.seq a b) Q S:=by
 intro code hc;cases code<;>simp only[A8]at hc<;>(try (cases hc;done))
 case seq x y =>
  simp only[AE]at hc;refine .seq ((h x hc.1).mono ?_);intro e S' q;cases e with
  |normal=>exact q y hc.2
  |_=>exact q
 all_goals (split at hc<;>cases hc)
theorem AW.block{id:Nat}{c:Bb}(h:AW E ρ P c (ablk id Q) S):AW E ρ P (.block id c) Q S:=by
 intro code hc;cases code<;>simp only[A8]at hc<;>(try (cases hc;done))
 case block id' x =>simp only[AE,Bt]at hc;obtain⟨rfl,hc⟩:=hc;exact .block (h x hc)
 all_goals (split at hc<;>cases hc)
theorem AW.scope{c:Bb}(h:AW E ρ P c (T5 Q) S):AW E ρ P (.scope c) Q S:=by
 intro code hc;cases code<;>simp only[A8]at hc<;>(try (cases hc;done))
 case scope x=>exact .scope (h x hc)
 all_goals (split at hc<;>cases hc)
theorem AW.label{l:Nat}(h:Q .normal S):AW E ρ P (.label l) Q S:=by
 intro code hc;cases code<;>simp only[A8]at hc<;>(try (cases hc;done))
 case label x=>exact .label h
 all_goals (split at hc<;>cases hc)
theorem AW.loop{c:Bb}{α:Type}(inv:α->Av)(Z:α->Nat)(I:α->Prop)(x₀:α)(h₀:I x₀)(s₀:See E S (inv x₀))(round:∀x,I x->AW E ρ P c (Dp (fun S'=>∃x',I x'/\Z x'<Z x/\See E S' (inv x')) Q) (inv x)):AW E ρ P (.loop c) Q S:=by
 intro code hc;cases code<;>simp only[A8]at hc<;>(try (cases hc;done))
 case loop x=>exact .loop' inv Z I x₀ h₀ s₀ (fun y hy=>round y hy x hc)
 all_goals (split at hc<;>cases hc)
theorem AWp.cond'{c:Operand}{c':Ad}{x y:Code}{t:Bool}(hk:AB c c'=true)(hc:Ag E S.t c'=.bool t)(ht:t=true->AWp E ρ P x Q S)(hf:t=false->AWp E ρ P y Q S):AWp E ρ P (.cond c x y) Q S:=by intro g a w hs;have rx:=AP hs.hr hs.tm hk;rw[hc]at rx;exact wpIn_cond_split (DH rx) (fun e=>ht e g a w hs) (fun e=>hf e g a w hs)
theorem AW.cond{c:Ad}{a b:Bb}{t:Bool}(hc:Ag E S.t c=.bool t)(ht:t=true->AW E ρ P a Q S)(hf:t=false->AW E ρ P b Q S):AW E ρ P (.cond c a b) Q S:=by
 intro code hk;cases code<;>simp only[A8]at hk<;>(try (cases hk;done))
 case cond c' x y =>simp only[AE]at hk;exact .cond' hk.1.1 hc (fun e=>ht e x hk.1.2) (fun e=>hf e y hk.2)
 all_goals (split at hk<;>cases hk)
theorem AW.reg{ops:List Ay}{pr:List (List Nat)}(h:areg E P ops S (Q .normal)):AW E ρ P (.reg false ops pr) Q S:=by
 intro code hc
 match code,hc with
 |.region id l true,hc=>simp[A8]at hc
 |.region id l false,hc=>exact .region (by simpa [A8] using hc) h
 |.skip,hc=>simp[A8]at hc
 |.seq _ _,hc=>simp[A8]at hc
 |.cond _ _ _,hc=>simp[A8]at hc
 |.block _ _,hc=>simp[A8]at hc
 |.loop _,hc=>simp[A8]at hc
 |.rangeFunc _ _ _ _,hc=>simp[A8]at hc
 |.exit _,hc=>simp[A8]at hc
 |.scope _,hc=>simp[A8]at hc
 |.label _,hc=>simp[A8]at hc
 |.goto _,hc=>simp[A8]at hc
 |.ret,hc=>simp[A8]at hc
 |.refuse _,hc=>simp[A8]at hc
theorem AW.sreg{ops:List Ay}{pr:List (List Nat)}(h:SReg E P ops S (Q .normal)):AW E ρ P (.reg false ops pr) Q S:=by
 intro code hc
 match code,hc with
 |.region id l true,hc=>simp[A8]at hc
 |.region id l false,hc=>exact .sregion (by simpa [A8] using hc) h
 |.skip,hc=>simp[A8]at hc
 |.seq _ _,hc=>simp[A8]at hc
 |.cond _ _ _,hc=>simp[A8]at hc
 |.block _ _,hc=>simp[A8]at hc
 |.loop _,hc=>simp[A8]at hc
 |.rangeFunc _ _ _ _,hc=>simp[A8]at hc
 |.exit _,hc=>simp[A8]at hc
 |.scope _,hc=>simp[A8]at hc
 |.label _,hc=>simp[A8]at hc
 |.goto _,hc=>simp[A8]at hc
 |.ret,hc=>simp[A8]at hc
 |.refuse _,hc=>simp[A8]at hc
theorem AW.draw{ops:List Ay}{pr:List (List Nat)}(h:dreg E P ops S (fun S' tr=>hpOk pr tr=true/\Q .normal S')):AW E ρ P (.reg true ops pr) Q S:=by
 intro code hc
 match code,hc with
 |.region id l false,hc=>simp[A8]at hc
 |.region id l true,hc =>simp only[A8,AE]at hc;exact .drawn hc.1.1.1.1 hc.1.1.1.2 hc.1.1.2 hc.1.2 hc.2 h
 |.skip,hc=>simp[A8]at hc
 |.seq _ _,hc=>simp[A8]at hc
 |.cond _ _ _,hc=>simp[A8]at hc
 |.block _ _,hc=>simp[A8]at hc
 |.loop _,hc=>simp[A8]at hc
 |.rangeFunc _ _ _ _,hc=>simp[A8]at hc
 |.exit _,hc=>simp[A8]at hc
 |.scope _,hc=>simp[A8]at hc
 |.label _,hc=>simp[A8]at hc
 |.goto _,hc=>simp[A8]at hc
 |.ret,hc=>simp[A8]at hc
 |.refuse _,hc=>simp[A8]at hc
theorem AW.drawC{ops:List Ay}{pr:List (List Nat)}(h:GZ E P ops S (fun S' tr=>CV ops pr tr=true/\Q .normal S')):AW E ρ P (.reg true ops pr) Q S:=by
 intro code hc
 match code,hc with
 |.region id l false,hc=>simp[A8]at hc
 |.region id l true,hc =>simp only[A8,AE]at hc;exact .drawnT hc.1.1.1.1 hc.1.1.1.2 hc.1.1.2 hc.1.2 hc.2 (Pj _ _ _ h)
 |.skip,hc=>simp[A8]at hc
 |.seq _ _,hc=>simp[A8]at hc
 |.cond _ _ _,hc=>simp[A8]at hc
 |.block _ _,hc=>simp[A8]at hc
 |.loop _,hc=>simp[A8]at hc
 |.rangeFunc _ _ _ _,hc=>simp[A8]at hc
 |.exit _,hc=>simp[A8]at hc
 |.scope _,hc=>simp[A8]at hc
 |.label _,hc=>simp[A8]at hc
 |.goto _,hc=>simp[A8]at hc
 |.ret,hc=>simp[A8]at hc
 |.refuse _,hc=>simp[A8]at hc
theorem AW.rfunc{f':Ad}{ps:List Tmp}{a b:Bb}{fi:FuncId}{caps:List Aa}(D L:Nat)(iL:D≠L)(hD:(S.h D).plain)(hL:(S.h L).plain)(hf:Ag E S.t f'=.fn fi 0 caps)(he:CD P fi=true)
  (h:∀(ps':Array Tmp) (a' b':Code),ps'.toList=ps->A8 P a' a=true->A8 P b' b=true ->
   ATr E P fi (.yld L ((S.h L).ep+1) :: caps) (hset (hset S.h D (.dfr ((S.h D).ep+1))) L (.loop ((S.h L).ep+1) .ready none S.t ps' a' b' D ((S.h D).ep+1)))
   (fun v h'=>∃st pd,st≠.busy/\h' L=.loop ((S.h L).ep+1) st pd S.t ps' a' b' D ((S.h D).ep+1)/\h' D=.dfr ((S.h D).ep+1)/\(∀X∈S.ds,h' X.1=.dfr X.2) /\
    LU Q pd ⟨S.t,hset h' L (.gone ((S.h L).ep+1)),(D,(S.h D).ep+1) :: S.ds⟩)):AW E none P (.rfunc f' ps a b) Q S:=by
 intro code hc
 match code,hc with
 |.rangeFunc f ps' a' b',hc =>simp only[A8,AE,Bt]at hc;exact .rfunc D L iL hD hL hc.1.1.1 hf he (h ps' a' b' hc.1.1.2 hc.1.2 hc.2)
 |.region id l false,hc=>simp[A8]at hc
 |.region id l true,hc=>simp[A8]at hc
 |.skip,hc=>simp[A8]at hc
 |.seq _ _,hc=>simp[A8]at hc
 |.cond _ _ _,hc=>simp[A8]at hc
 |.block _ _,hc=>simp[A8]at hc
 |.loop _,hc=>simp[A8]at hc
 |.exit _,hc=>simp[A8]at hc
 |.scope _,hc=>simp[A8]at hc
 |.label _,hc=>simp[A8]at hc
 |.goto _,hc=>simp[A8]at hc
 |.ret,hc=>simp[A8]at hc
 |.refuse _,hc=>simp[A8]at hc
theorem ATr.of{f:FuncId}{fn:Func}{c:Code}{ac:Bb}{args:List Aa}{h:Aw}{R:Aa->Aw->Prop}{rs:List ARes}(hf:P.funcs[f]?=some fn)(hb:fn.body=some c)(hr:Eh P fn.results.toList rs=true)(hc:A8 P c ac=true)(n:Nat) (hn:fn.ntmps-args.length=n) (hw:AW E none P ac (Post E rs R) ⟨args++List.replicate n .top,h,[]⟩):ATr E P f args h R :=
 .of_body hf hb hr (by subst hn;exact hw c hc)
end
inductive AF:Aa->Prop where
 |top:AF .top
 |int (k:IntKind) (n:Int):AF (.int k n)
 |bool (b:Bool):AF (.bool b)
 |str (s:List UInt8):AF (.str s)
 |agg (l:List Aa) (h:∀x,x∈l->AF x):AF (.agg l)
 |tup (l:List Aa) (h:∀x,x∈l->AF x):AF (.tup l)
 |nils:AF .nils
 |slc (st n:Nat) (f:Nat->List Aa) (h:∀i x,i<n->x∈f i->AF x):AF (.slc st n f)
 |cptr (f:Nat->Aa) (lim off:Nat) (h:∀j,j<lim->AF (f j)):AF (.cptr f lim off)
 |nilp:AF .nilp
 |fn (f:FuncId) (nb:Nat) (l:List Aa) (h:∀x,x∈l->AF x):AF (.fn f nb l)
 |nilfn:AF .nilfn
 |nilmp:AF .nilmp
 |cnd (c:Bool) (x:Aa) (h:AF x):AF (.cnd c x)
theorem Kf{l:List Aa}:AF (.agg l)↔∀x,x∈l->AF x:=⟨fun h=>by cases h;assumption,.agg l⟩
theorem Kg{l:List Aa}:AF (.tup l)↔∀x,x∈l->AF x:=⟨fun h=>by cases h;assumption,.tup l⟩
theorem LV{st n:Nat}{f:Nat->List Aa}:AF (.slc st n f)↔∀i x,i<n->x∈f i->AF x:=⟨fun h=>by cases h;assumption,.slc st n f⟩
theorem UJ{f:FuncId}{nb:Nat}{l:List Aa}:AF (.fn f nb l)↔∀x,x∈l->AF x:=⟨fun h=>by cases h;assumption,.fn f nb l⟩
theorem RV.reghost{g gx:Gh}{w:World}(hf:∀b,g.fz b->gx.fz b){x:Aa}{v:Value}(h:RV g w x v)(hn:AF x):RV gx w x v:=by
 induction h with
 |top v=>exact .top v
 |int k n=>exact .int k n
 |bool b=>exact .bool b
 |str s b h=>exact .str s b h
 |agg l a hl _ ih=>exact .agg l a hl fun i x v hx hv=>ih i x v hx hv (Kf.1 hn x (CB hx))
 |tup l a hl _ ih=>exact .tup l a hl fun i x v hx hv=>ih i x v hx hv (Kg.1 hn x (CB hx))
 |nils=>exact .nils
 |slc0 st f a cap=>exact .slc0 st f a cap
 |slc st n f b off cap vals hz aT hl hc h1 _ ih =>exact .slc st n f b off cap vals (hf b hz) aT hl hc h1 fun i j x hi hx=>ih i j x hi hx (LV.1 hn i x hi (CB hx))
 |vec=>cases hn
 |ptr=>cases hn
 |eptr=>cases hn
 |cptr f lim off b base vals hz hc _ ih =>
  cases hn with
  |cptr _ _ _ hn=>exact .cptr f lim off b base vals (hf b hz) hc fun j hj=>ih j hj (hn j hj)
 |nilp=>exact .nilp
 |fn f nb caps a hl _ ih=>exact .fn f nb caps a hl fun i x v hx hv=>ih i x v hx hv (UJ.1 hn x (CB hx))
 |nilfn=>exact .nilfn
 |yld=>cases hn
 |mp=>cases hn
 |nilmp=>exact .nilmp
 |cnd c x v _ h0 ih =>
  cases hn with
  |cnd _ _ hn=>exact .cnd c x v (fun e=>ih e hn) h0
def h0:Aw:=fun _=>.gone 0
def Pure(E:Nat->Aa)(P:Program)(f:FuncId)(args:List Aa)(r:Aa):Prop:=ATr E P f args h0 (fun v _=>v=r)
theorem Pure.any{E:Nat->Aa}{P:Program}{f:FuncId}{args:List Aa}{r:Aa}(H:Pure E P f args r)(hE:∀i,AF (E i))(ha:∀x,x∈args->AF x)(hr:AF r)(h:Aw) :
  ATr E P f args h (fun v h'=>v=r/\h'=h):=by
 intro g w vs hh hv
 let g0:Gh:=⟨fun _=>0,fun _=>0,fun _=>0,fun _=>0,fun _=>0,g.fz⟩
 have H0:HR E g0 h0 w:=⟨fun _=>trivial,fun _=>rfl,(by intro i j hi;cases hi),(by intro i hi;cases hi),hh.fzb,fun i=>(hh.glob i).reghost (g:=g) (gx:=g0) (fun _ h=>h) (hE i)⟩;refine(H g0 w vs H0 ⟨hv.1,fun i x v hx hy=>(hv.2 i x v hx hy).reghost (g:=g) (gx:=g0) (fun _ h=>h) (ha x (CB hx))⟩).mono ?_;rintro e w' ⟨g',h',_,v,rfl,rfl,bN,hH,st⟩
 have cO:∀b,g'.fz b->g.fz b\/w.heap.size<=b:=fun b hb=>by
  rcases st.fzn b hb with h1|⟨j,hj,_⟩|h3
  ·exact .inl h1
  ·cases hj
  ·exact .inr h3
 have bI:∀b,b<w.heap.size->w'.heap[b]?=w.heap[b]?:=fun b hb=>st.keep b hb (by intro i hi;cases hi)
 let g2:Gh:=⟨g.blk,g.ep,g.bo,g.st,g.cp,g'.fz⟩
 have aE:GLe g w g2 w':=⟨fun b hb=>⟨(st.le.fz b hb).1,bI b (hh.fzb b hb)⟩,fun _=>AC _,fun _ _=>⟨rfl,rfl,rfl,rfl⟩⟩;refine⟨g2,h,_,v,⟨rfl,rfl⟩,rfl,bN.reghost (g:=g') (gx:=g2) (fun _ h=>h) hr,?_,⟨aE,st.os,st.tape,st.output,st.size,fun b hb _=>bI b hb,fun i ho=>.inl ⟨i,ho,rfl⟩,fun b hb=>?_,st.drawn⟩⟩
 ·refine⟨fun i=>(hh.obj i).mono aE rfl fun ho=>bI _ ((hh.obj i).lt ho),hh.ep,hh.inj,fun i hi hf=>?_,hH.fzb,fun i=>(hh.glob i).mono aE⟩;rcases cO _ hf with h1|h1
  ·exact hh.sep i hi h1
  ·have:g.blk i<w.heap.size:=(hh.obj i).lt hi;have e:g2.blk i=g.blk i:=rfl;omega
 ·rcases cO b hb with h1|h1;·exact .inl h1
  ·exact .inr (.inr h1)
theorem Kh{k:IntKind}{n:Int}:AF (.int k n):=.int k n
theorem Ki{b:Bool}:AF (.bool b):=.bool b
theorem Kj{s:List UInt8}:AF (.str s):=.str s
theorem LW:AF .nils:=.nils
section
variable {E:Nat->Aa}{P:Program}{ρ:Option Nat}
theorem Post.here{rs:List ARes}{R:Aa->Aw->Prop}{S:Av}(aB:Gc S rs)(dj:S.ds=[])(hR:R (GD S rs) S.h):Post E rs R .ret S := ⟨S,.refl S,aB,S.h,fun i=>.refl _,(by rw[dj];intro D hD;cases hD),hR⟩
theorem Post.pure{rs:List ARes}{r:Aa}{S:Av}(aB:Gc S rs)(hR:GD S rs=r):Post E rs (fun v _=>v=r) .ret S := ⟨S,.refl S,aB,fun i=>.gone (S.h i).ep,fun i=>.inl rfl,fun D _=>⟨_,rfl⟩,hR⟩
theorem AW.retp{rs:List ARes}{r:Aa}{S:Av}{Q:Exit->Av->Prop}(hq:Q .ret=Post E rs (fun v _=>v=r) .ret)(aB:Gc S rs)(hR:GD S rs=r):AW E ρ P .ret Q S :=
 .ret (by rw[hq];exact .pure aB hR)
theorem AW.rets{rs:List ARes}{r:Aa}{S S':Av}{Q:Exit->Av->Prop}(hq:Q .ret=Post E rs (fun v _=>v=r) .ret)(s:See E S S')(aB:Gc S' rs)(hR:GD S' rs=r):AW E ρ P .ret Q S :=
 .see s (.retp hq aB hR)
theorem Bf.call{f:FuncId}{args:List Aa}{r:Aa}(H:Bf E P f args r){h:Aw}{K:Aa->Aw->Prop}(k:K r h):ATr E P f args h K := (H h).mono (by rintro _ _ ⟨rfl,rfl⟩;exact k)
theorem Pure.still{f:FuncId}{args:List Aa}{r:Aa}(H:Pure E P f args r)(hE:∀i,AF (E i))(ha:∀x,x∈args->AF x)(hr:AF r):Bf E P f args r:=H.any hE ha hr
theorem Pure.of{f:FuncId}{fn:Func}{c:Code}{ac:Bb}{args:List Aa}{r:Aa}{rs:List ARes}(hf:P.funcs[f]?=some fn)(hb:fn.body=some c)(hr:Eh P fn.results.toList rs=true)(hc:A8 P c ac=true)(n:Nat) (hn:fn.ntmps-args.length=n) (hw:AW E none P ac (Post E rs (fun v _=>v=r)) ⟨args++List.replicate n .top,h0,[]⟩):Pure E P f args r :=
 ATr.of hf hb hr hc n hn hw
end
def fz1(id:Nat)(o:Aj):Aa->Aa
 | .ptr i ep off=>if i=id then(match o with
  |.box ep' cs=>if ep=ep' then .cptr (fun k=>cs.getD k .top) cs.length off else .top
  | _=>.top) else .ptr i ep off
 | .vec i ep lo n=>if i=id then(match o with
  |.vec ep' st m f=>if ep=ep'/\lo+n<=m then .slc st n (fun k=>f (lo+k)) else .top
  | _=>.top) else .vec i ep lo n
 |x=>x
mutual
def fzv(id:Nat)(o:Aj):Aa->Aa
 |.agg l=>.agg (fzl id o l)
 |.tup l=>.tup (fzl id o l)
 |.fn f nb l=>.fn f nb (fzl id o l)
 |.cnd c x=>.cnd c (fzv id o x)
 |x=>fz1 id o x
def fzl(id:Nat)(o:Aj):List Aa->List Aa
 |[]=>[]
 |x :: l=>fzv id o x :: fzl id o l
end
theorem UK(id:Nat)(o:Aj)(x:Aa):FV id o x (fz1 id o x):=by
 unfold fz1;split
 ·split
  ·rename_i e;subst e;split
   ·split;·rename_i e;subst e;exact .box _ _ _ _ rfl fun _ _=>rfl
    ·exact .top _
   ·exact .top _
  ·exact .refl _
 ·split
  ·rename_i e;subst e;split
   ·split;·rename_i e;obtain⟨rfl,e⟩:=e;exact .vec _ _ _ _ _ _ _ rfl e fun _ _=>rfl
    ·exact .top _
   ·exact .top _
  ·exact .refl _
 ·exact .refl _
mutual
theorem UL(id:Nat)(o:Aj):∀x,FV id o x (fzv id o x)
 |.agg l=>.aggl (Ib id o l)
 |.tup l=>.tupl (Ib id o l)
 |.fn f nb l=>.fn _ _ _ _ (Ib id o l).at.1 (Ib id o l).at.2
 |.cnd c x=>.cnd _ _ _ (UL id o x)
 |.top=>.refl _
 |.int _ _=>.refl _
 |.bool _=>.refl _
 |.str _=>.refl _
 |.nils=>.refl _
 |.slc _ _ _=>.refl _
 |.vec i ep lo n=>UK id o (.vec i ep lo n)
 |.ptr i ep off=>UK id o (.ptr i ep off)
 |.eptr _ _ _ _=>.refl _
 |.cptr _ _ _=>.refl _
 |.nilp=>.refl _
 |.nilfn=>.refl _
 |.yld _ _=>.refl _
 |.mp _ _=>.refl _
 |.nilmp=>.refl _
theorem Ib(id:Nat)(o:Aj):∀l,FVl id o l (fzl id o l)
 |[]=>trivial
 |x :: l=>⟨UL id o x,Ib id o l⟩
end
def fzo(id:Nat)(o:Aj):Aj->Aj
 |.box e l=>.box e (fzl id o l)
 |x=>x
section
variable {E:Nat->Aa}{P:Program}{ρ:Option Nat}{Q:Exit->Av->Prop}{S:Av}
theorem See.fz(id:Nat)(aU:(S.h id).owned=true)(cn:(S.h id).plain):See E S ⟨fzl id (S.h id) S.t,hset S.h id (.gone ((S.h id).ep+1)),S.ds⟩ :=
 .freeze (o:=S.h id) rfl aU cn (by simp[hset]) (fun j hj=>by simp[hset,hj];exact .inl rfl) (Ib _ _ _) rfl
theorem AW.fz{c:Bb}(id:Nat)(aU:(S.h id).owned=true)(cn:(S.h id).plain)(h:AW E ρ P c Q ⟨fzl id (S.h id) S.t,hset S.h id (.gone ((S.h id).ep+1)),S.ds⟩):AW E ρ P c Q S:=.see (.fz id aU cn) h
end
inductive AQ(F:List Nat):Aa->Prop where
 |top:AQ F .top
 |int (k:IntKind) (n:Int):AQ F (.int k n)
 |bool (b:Bool):AQ F (.bool b)
 |str (s:List UInt8):AQ F (.str s)
 |agg (l:List Aa) (h:∀x,x∈l->AQ F x):AQ F (.agg l)
 |tup (l:List Aa) (h:∀x,x∈l->AQ F x):AQ F (.tup l)
 |nils:AQ F .nils
 |slc (st n:Nat) (f:Nat->List Aa) (h:∀i x,i<n->x∈f i->AQ F x):AQ F (.slc st n f)
 |vec (id ep lo n:Nat) (h:id∈F):AQ F (.vec id ep lo n)
 |ptr (id ep off:Nat) (h:id∈F):AQ F (.ptr id ep off)
 |eptr (id ep i off:Nat) (h:id∈F):AQ F (.eptr id ep i off)
 |mp (id ep:Nat) (h:id∈F):AQ F (.mp id ep)
 |cptr (f:Nat->Aa) (lim off:Nat) (h:∀j,j<lim->AQ F (f j)):AQ F (.cptr f lim off)
 |nilp:AQ F .nilp
 |fn (f:FuncId) (nb:Nat) (l:List Aa) (h:∀x,x∈l->AQ F x):AQ F (.fn f nb l)
 |nilfn:AQ F .nilfn
 |nilmp:AQ F .nilmp
 |cnd (c:Bool) (x:Aa) (h:AQ F x):AQ F (.cnd c x)
structure GAg(F:List Nat)(g gx:Gh):Prop where
 fz:∀b,g.fz b->gx.fz b
 pl:∀i,i∈F->gx.blk i=g.blk i/\gx.ep i=g.ep i/\gx.bo i=g.bo i/\gx.st i=g.st i/\gx.cp i=g.cp i
theorem GO.ag{g gx:Gh}{id lo n:Nat}{v:Value}(h:gx.blk id=g.blk id/\gx.ep id=g.ep id/\gx.bo id=g.bo id/\gx.st id=g.st id/\gx.cp id=g.cp id)(hv:GO g id lo n v):GO gx id lo n v:=by obtain⟨h1,_,h3,h4,h5⟩:=h;obtain⟨a,cap,e,hc,hh⟩:=hv;exact⟨a,cap,e,hc,by rw[h1,h3,h4,h5];exact hh⟩
theorem RV.ag{F:List Nat}{g gx:Gh}{w:World}(hA:GAg F g gx){x:Aa}{v:Value}(h:RV g w x v)(hn:AQ F x):RV gx w x v:=by
 induction h with
 |top v=>exact .top v
 |int k n=>exact .int k n
 |bool b=>exact .bool b
 |str s b h=>exact .str s b h
 |agg l a hl _ ih=>cases hn with | agg _ hn=>exact .agg l a hl fun i x v hx hv=>ih i x v hx hv (hn x (CB hx))
 |tup l a hl _ ih=>cases hn with | tup _ hn=>exact .tup l a hl fun i x v hx hv=>ih i x v hx hv (hn x (CB hx))
 |nils=>exact .nils
 |slc0 st f a cap=>exact .slc0 st f a cap
 |slc st n f b off cap vals hz aT hl hc h1 _ ih =>cases hn with | slc _ _ _ hn=>exact .slc st n f b off cap vals (hA.fz b hz) aT hl hc h1 fun i j x hi hx=>ih i j x hi hx (hn i x hi (CB hx))
 |vec id ep lo n v h1 he h =>cases hn with | vec _ _ _ _ hm =>have ha:=hA.pl id hm;exact .vec id ep lo n v h1 (by rw[ha.2.1];exact he) fun e=>(h (by rw[<-ha.2.1];exact e)).ag ha
 |ptr id ep off v h1 he h =>cases hn with | ptr _ _ _ hm =>have ha:=hA.pl id hm;exact .ptr id ep off v h1 (by rw[ha.2.1];exact he) fun e=>by rw[ha.1];exact h (by rw[<-ha.2.1];exact e)
 |eptr id ep i off v h1 he h =>cases hn with | eptr _ _ _ _ hm =>have ha:=hA.pl id hm;exact .eptr id ep i off v h1 (by rw[ha.2.1];exact he) fun e=>by rw[ha.1,ha.2.2.1,ha.2.2.2.1];exact h (by rw[<-ha.2.1];exact e)
 |cptr f lim off b base vals hz hc _ ih =>cases hn with | cptr _ _ _ hn=>exact .cptr f lim off b base vals (hA.fz b hz) hc fun j hj=>ih j hj (hn j hj)
 |nilp=>exact .nilp
 |fn f nb caps a hl _ ih=>cases hn with | fn _ _ _ hn=>exact .fn f nb caps a hl fun i x v hx hv=>ih i x v hx hv (hn x (CB hx))
 |nilfn=>exact .nilfn
 |yld=>cases hn
 |mp id ep v h1 he h =>cases hn with | mp _ _ hm =>have ha:=hA.pl id hm;exact .mp id ep v h1 (by rw[ha.2.1];exact he) fun e=>by rw[ha.1];exact h (by rw[<-ha.2.1];exact e)
 |nilmp=>exact .nilmp
 |cnd c x v _ h0 ih=>cases hn with | cnd _ _ hn=>exact .cnd c x v (fun e=>ih e hn) h0
theorem RVs.ag{F:List Nat}{g gx:Gh}{w:World}(hA:GAg F g gx){l:List Aa}{a:List Value}(h:RVs g w l a)(hn:∀x,x∈l->AQ F x):RVs gx w l a := ⟨h.1,fun i x v hx hv=>(h.2 i x v hx hv).ag hA (hn x (CB hx))⟩
def UM(F:List Nat):Aj->Prop
 |.gone _=>True
 |.box _ cs=>∀x,x∈cs->AQ F x
 |.vec _ _ n f=>∀k x,k<n->x∈f k->AQ F x
 |.amap _ es=>∀e,e∈es->AQ F e.1/\AQ F e.2
 |_=>False
theorem OR.ag{F:List Nat}{g gx:Gh}{w:World}(hA:GAg F g gx){i:Nat}(hi:i∈F){o:Aj}(h:OR g w i o)(hn:UM F o):OR gx w i o:=by
 have ha:=hA.pl i hi;cases o with
 |gone e=>trivial
 |box e cs =>obtain⟨arr,ty,hb,hr⟩:=h;exact⟨arr,ty,by rw[ha.1];exact hb,hr.ag hA hn⟩
 |vec e st n f =>
  obtain⟨h1,h2,h3,arr,ty,hb,hf,aV⟩:=h
  exact⟨ha.2.2.2.1.trans h1,h2,by rw[ha.2.2.2.2];exact h3,arr,ty,by rw[ha.1];exact hb,by rw[ha.2.2.1,ha.2.2.2.2];exact hf,
   fun k hk=>⟨(aV k hk).1,fun j x v hx hv=>⟨((aV k hk).2 j x v hx (by rw[<-ha.2.2.1];exact hv)).1,((aV k hk).2 j x v hx (by rw[<-ha.2.2.1];exact hv)).2.ag hA (hn k x hk (CB hx))⟩⟩⟩
 |amap e es =>obtain⟨arr,hb,hs,aV⟩:=h;exact⟨arr,by rw[ha.1];exact hb,hs,fun k x m hx hm=>⟨(aV k x m hx hm).1.ag hA (hn x (CB hx)).1,(aV k x m hx hm).2.1.ag hA (hn x (CB hx)).2,(aV k x m hx hm).2.2⟩⟩
 |_=>cases hn
theorem AF.refs{F:List Nat}{x:Aa}(h:AF x):AQ F x:=by
 induction h with
 |top=>exact .top
 |int k n=>exact .int k n
 |bool b=>exact .bool b
 |str s=>exact .str s
 |agg l _ ih=>exact .agg l ih
 |tup l _ ih=>exact .tup l ih
 |nils=>exact .nils
 |slc st n f _ ih=>exact .slc st n f ih
 |cptr f lim off _ ih=>exact .cptr f lim off ih
 |nilp=>exact .nilp
 |fn f nb l _ ih=>exact .fn f nb l ih
 |nilfn=>exact .nilfn
 |nilmp=>exact .nilmp
 |cnd c x _ ih=>exact .cnd c x ih
theorem ATr.frame{E:Nat->Aa}{P:Program}{f:FuncId}{args:List Aa}{r:Aa}{F:List Nat}{hs:Aw}(hE:∀i,AF (E i))(lu:∀i,i∉F->hs i=.gone 0)(ha:∀x,x∈args->AQ F x)(ho:∀i,i∈F->UM F (hs i))(hr:AF r)(H:ATr E P f args hs (fun v h'=>v=r/\∀i,i∈F->h' i=hs i)):Cz E P f args hs F r:=by
 intro h eW g w vs hh hv
 let g0:Gh:=⟨fun i=>if i∈F then g.blk i else 0,fun i=>if i∈F then g.ep i else 0,fun i=>if i∈F then g.bo i else 0,fun i=>if i∈F then g.st i else 0,fun i=>if i∈F then g.cp i else 0,g.fz⟩
 have hA:GAg F g g0:=⟨fun _ h=>h,fun i hi=>⟨An hi,An hi,An hi,An hi,An hi⟩⟩
 have own:∀i,(hs i).owned=true->i∈F:=fun i hi=>by
  by_cases e:i∈F
  ·exact e
  ·rw[lu i e]at hi;cases hi
 have H0:HR E g0 hs w:=by
  refine⟨fun i=>?_,fun i=>?_,fun i j hi hj e=>?_,fun i hi=>?_,hh.fzb,fun i=>(hh.glob i).ag hA (hE i).refs⟩
  ·by_cases e:i∈F;·have:=hh.obj i;rw[eW i e]at this;exact this.ag hA e (ho i e)
   ·rw[lu i e];trivial
  ·by_cases e:i∈F;·show(if i∈F then g.ep i else 0)=_;rw[An e,hh.ep i,eW i e]
   ·show(if i∈F then g.ep i else 0)=_;rw[Ak e,lu i e];rfl
  ·have h1:=own i hi;have h2:=own j hj;have e':(if i∈F then g.blk i else 0)=(if j∈F then g.blk j else 0):=e;rw[An h1,An h2]at e';exact hh.inj i j (by rw[eW i h1];exact hi) (by rw[eW j h2];exact hj) e'
  ·have h1:=own i hi;show ¬g.fz (if i∈F then g.blk i else 0);rw[An h1];exact hh.sep i (by rw[eW i h1];exact hi)
 refine(H g0 w vs H0 (hv.ag hA ha)).mono ?_;rintro e w' ⟨g',h',_,v,⟨rfl,hF⟩,rfl,bN,hH,st⟩
 have ez:∀i,i∈F->g'.blk i=g.blk i/\g'.ep i=g.ep i/\g'.bo i=g.bo i/\g'.st i=g.st i/\g'.cp i=g.cp i:=fun i hi=>by
  have e1:g'.ep i=g0.ep i:=by rw[hH.ep i,hF i hi,H0.ep i]
  obtain⟨a,b,c,d⟩:=st.le.same i e1;obtain⟨a',b',c',d',e'⟩:=hA.pl i hi;exact⟨a.trans a',e1.trans b',b.trans c',c.trans d',d.trans e'⟩
 have bI:∀b,b<w.heap.size->(∀i,i∈F->(hs i).owned=true->g.blk i≠b)->w'.heap[b]?=w.heap[b]?:=fun b hb hn=>st.keep b hb fun i hi e=>by have h1:=own i hi;have e':(if i∈F then g.blk i else 0)=b:=e;rw[An h1]at e';exact hn i h1 hi e'
 let g2:Gh:=⟨g.blk,g.ep,g.bo,g.st,g.cp,g'.fz⟩
 have lv:GAg F g' g2:=⟨fun _ h=>h,fun i hi=>by obtain⟨a,b,c,d,e⟩:=ez i hi;exact⟨a.symm,b.symm,c.symm,d.symm,e.symm⟩⟩;have aE:GLe g w g2 w':=⟨fun b hb=>st.le.fz b hb,fun _=>AC _,fun _ _=>⟨rfl,rfl,rfl,rfl⟩⟩;refine⟨g2,h,_,v,⟨rfl,rfl⟩,rfl,RV.ag (F:=[]) (g:=g') (gx:=g2) ⟨fun _ h=>h,fun i hi=>by cases hi⟩ bN hr.refs,?_,⟨aE,st.os,st.tape,st.output,st.size,fun b hb hn=>bI b hb fun i hi fc=>hn i (by rw[eW i hi];exact fc),fun i ho=>.inl ⟨i,ho,rfl⟩,fun b hb=>?_,st.drawn⟩⟩
 ·refine⟨fun i=>?_,hh.ep,hh.inj,fun i hi hf=>?_,hH.fzb,fun i=>(hh.glob i).mono aE⟩
  ·by_cases e:i∈F;·have:=hH.obj i;rw[hF i e]at this;rw[eW i e];exact this.ag lv e (ho i e)
   ·refine(hh.obj i).mono aE rfl fun ho=>bI _ ((hh.obj i).lt ho) fun j hj ox ej=>?_;have:=hh.inj j i (by rw[eW j hj];exact ox) ho ej;exact e (this▸hj)
  ·have gN:g'.fz (g.blk i):=hf;rcases st.fzn _ gN with h1|⟨j,hj,ej⟩|h3
   ·exact hh.sep i hi h1
   ·have gV:=own j hj;have ej':(if j∈F then g.blk j else 0)=g.blk i:=ej;rw[An gV]at ej';have dD:=hh.inj j i (by rw[eW j gV];exact hj) hi ej';subst dD;refine hH.sep j (by rw[hF j gV];exact hj) ?_;rw[(ez j gV).1];exact gN
   ·have:g.blk i<w.heap.size:=(hh.obj i).lt hi;omega
 ·rcases st.fzn b hb with h1|⟨j,hj,ej⟩|h3;·exact .inl h1
  ·have gV:=own j hj;have ej':(if j∈F then g.blk j else 0)=b:=ej;rw[An gV]at ej';exact .inr (.inl ⟨j,by rw[eW j gV];exact hj,ej'⟩)
  ·exact .inr (.inr h3)
section
variable {E:Nat->Aa}{P:Program}{ρ:Option Nat}{Q:Exit->Av->Prop}{S S1:Av}
theorem LL.mono{c:Bool}{t:List Aa}{h:Aw}{ds:List (Nat×Nat)}{xs:List Ad}{f:FuncId}{args:List Aa}{K K':Aa->Aw->Prop}(H:LL E P c t h ds xs f args K)(k:∀v h',K v h'->K' v h'):LL E P c t h ds xs f args K':=by
 rcases H with ⟨v,h1,h2⟩|⟨h1,h2⟩
 ·exact .inl ⟨v,h1,k _ _ h2⟩
 ·exact .inr ⟨fun e=>⟨(h1 e).1,(h1 e).2.mono fun v h' hk=>⟨hk.1,k _ _ hk.2⟩⟩,fun e=>k _ _ (h2 e)⟩
theorem BN.imp{id ep:Nat}{args:List Aa}{h:Aw}{K K':Aa->Aw->Prop}(R:BN E P id ep args h K)(hk:∀r h',K r h'->K' r h'):BN E P id ep args h K':=by obtain⟨ts,ps,asg,body,D,eD,h1,h2,h3⟩:=R;refine⟨ts,ps,asg,body,D,eD,h1,h2,fun ρ=>(h3 ρ).mono ?_⟩;rintro e S ⟨he,hid,hb⟩;refine⟨he,hid,hb.mono ?_⟩;intro e' S' hp;cases e'<;>first|exact⟨hp.1,hk _ _ hp.2⟩|exact hp
theorem GV.mono{x:Aa}{h:Aw}{K K':Aa->Aw->Prop}(H:GV x h K)(k:∀v h',K v h'->K' v h'):GV x h K':=by
 unfold GV at H |-;split at H
 ·split at H
  ·split at H;·exact⟨H.1,H.2.1,H.2.2.1,fun i hi hs=>k _ _ (H.2.2.2.1 i hi hs),fun hs=>k _ _ (H.2.2.2.2 hs)⟩
   ·exact H
  ·exact⟨H.1,k _ _ H.2⟩
  ·exact H
 ·exact H
theorem aop.mono{o:Ay}{K K':Av->Prop}(H:aop E P o S K)(k:∀S',K S'->K' S'):aop E P o S K':=by
 unfold aop at H |-;split at H
 ·split at H;·exact H.mono fun v h' hk=>⟨hk.1,k _ hk.2⟩
  ·split at H;·exact⟨H.1,H.2.mono fun v h' hk=>⟨hk.1,k _ hk.2⟩⟩
   ·exact H.imp fun v h' hk=>⟨hk.1,k _ hk.2⟩
   ·exact H
  ·exact H.mono fun v h' hk=>k _ hk
  ·exact⟨H.1,k _ H.2⟩
 ·split at H;·exact H
  ·split at H;·exact H.mono fun v h' hk=>k _ hk
   ·refine⟨fun e=>k _ (H.1 e),fun e=>?_⟩;have H2:=H.2 e;split at H2
    ·exact⟨H2.1,H2.2.mono fun v h' hk=>k _ hk⟩
    ·exact⟨fun e=>⟨(H2.1 e).1,(H2.1 e).2.imp fun v h' hk=>⟨hk.1,k _ hk.2⟩⟩,fun e=>k _ (H2.2 e)⟩
    ·exact H2
   ·exact H
   ·exact⟨H.1,H.2.1,k _ H.2.2⟩
theorem areg.mono:∀{l:List Ay} {S:Av} {K K':Av->Prop},areg E P l S K->(∀S',K S'->K' S')->areg E P l S K'
 |[],S,K,K',H,k=>k _ H
 |o :: r,S,K,K',H,k=>aop.mono (H:aop E P o S (fun S'=>areg E P r S' K)) fun S' h'=>areg.mono h' k
theorem dop.mono{o:Ay}{K K':Aa->List Nat->Option (Nat×Aj)->Prop}(H:dop E P o S K)(k:∀v rd out,K v rd out->K' v rd out):dop E P o S K':=by
 unfold dop at H |-;split at H
 ·split at H;·obtain⟨v,rd,h1,h2⟩:=H;exact⟨v,rd,h1,k _ _ _ h2⟩
  ·split at H;·obtain⟨he,v,rd,h1,h2⟩:=H;exact⟨he,v,rd,h1,k _ _ _ h2⟩
   ·exact H
  ·exact⟨H.1,k _ _ _ H.2⟩
 ·split at H;·exact H
  ·split at H;·obtain⟨v,rd,h1,h2⟩:=H;exact⟨v,rd,h1,k _ _ _ h2⟩
   ·refine⟨fun e=>k _ _ _ (H.1 e),fun e=>?_⟩;have H2:=H.2 e;split at H2
    ·obtain⟨he,v,rd,h1,h2⟩:=H2;exact⟨he,v,rd,h1,k _ _ _ h2⟩
    ·exact H2
   ·exact⟨H.1,H.2.1,k _ _ _ H.2.2⟩
theorem dreg.mono:∀{l:List Ay} {S:Av} {K K':Av->List (List Nat×Option Nat)->Prop},dreg E P l S K->(∀S' tr,K S' tr->K' S' tr)->dreg E P l S K'
 |[],S,K,K',H,k=>k _ _ H
 |o :: r,S,K,K',H,k=>dop.mono (H:dop E P o S _) fun v rd out h'=>dreg.mono h' fun S' tr hk=>k _ _ hk
theorem AW.r1{ops:List Ay}{pr:List (List Nat)}(h:areg E P ops S (fun S'=>S'=S1))(k:Q .normal S1):AW E ρ P (.reg false ops pr) Q S:=.reg (h.mono fun S' e=>e▸k)
theorem AW.sr{ops:List Ay}{pr:List (List Nat)}{b:Bb}(h:areg E P ops S (fun S'=>S'=S1))(k:AW E ρ P b Q S1):AW E ρ P (.seq (.reg false ops pr) b) Q S:=.seq (.r1 h k)
theorem AW.if'{c:Ad}{a b:Bb}(t:Bool)(hc:Ag E S.t c=.bool t)(ht:t=true->AW E ρ P a Q S)(hf:t=false->AW E ρ P b Q S):AW E ρ P (.cond c a b) Q S:=.cond hc ht hf
def qzsg(live:List Nat):Nat->List Aa->List Aa
 |_,[]=>[]
 |i,x :: l=>(bif live.contains i then x else .top) :: qzsg live (i+1) l
end
theorem Aa.one_int{k:IntKind}{n:Int}:Aa.one (.int k n)=true:=rfl
theorem Aa.one_bool{b:Bool}:Aa.one (.bool b)=true:=rfl
theorem Aa.one_str{s:List UInt8}:Aa.one (.str s)=true:=rfl
theorem Aa.one_nils :Aa.one .nils=true:=rfl
theorem Aa.one_slc{st n:Nat}{f:Nat->List Aa}:Aa.one (.slc st n f)=true:=rfl
theorem Aa.one_vec{i e o n:Nat}:Aa.one (.vec i e o n)=true:=rfl
theorem Aa.one_ptr{i e o:Nat}:Aa.one (.ptr i e o)=true:=rfl
theorem Aa.one_eptr{i e k o:Nat}:Aa.one (.eptr i e k o)=true:=rfl
theorem Aa.one_cptr{f:Nat->Aa}{l o:Nat}:Aa.one (.cptr f l o)=true:=rfl
theorem Aa.one_nilp :Aa.one .nilp=true:=rfl
theorem Aa.one_fn{f:FuncId}{nb:Nat}{l:List Aa}:Aa.one (.fn f nb l)=true:=rfl
theorem Aa.one_nilfn :Aa.one .nilfn=true:=rfl
theorem Aa.one_mp{i e:Nat}:Aa.one (.mp i e)=true:=rfl
theorem Aa.one_nilmp :Aa.one .nilmp=true:=rfl
theorem qzkh{k:IntKind}{n:Int}:unv (.int k n)=(.int k n):=rfl
theorem qzkv{k:IntKind}{n:Int}{c:Bool}:unc c (.int k n)=True:=rfl
theorem qzh8{b:Bool}:unv (.bool b)=(.bool b):=rfl
theorem qzh4{b:Bool}{c:Bool}:unc c (.bool b)=True:=rfl
theorem qzkt{s:List UInt8}:unv (.str s)=(.str s):=rfl
theorem qzjr{s:List UInt8}{c:Bool}:unc c (.str s)=True:=rfl
theorem qzii :unv .nils=.nils:=rfl
theorem qzik{c:Bool}:unc c .nils=True:=rfl
theorem qzjn{st n:Nat}{f:Nat->List Aa}:unv (.slc st n f)=(.slc st n f):=rfl
theorem qzkm{st n:Nat}{f:Nat->List Aa}{c:Bool}:unc c (.slc st n f)=True:=rfl
theorem qzjf{i e o n:Nat}:unv (.vec i e o n)=(.vec i e o n):=rfl
theorem qzjw{i e o n:Nat}{c:Bool}:unc c (.vec i e o n)=True:=rfl
theorem qzkl{i e o:Nat}:unv (.ptr i e o)=(.ptr i e o):=rfl
theorem qzje{i e o:Nat}{c:Bool}:unc c (.ptr i e o)=True:=rfl
theorem qzh6{i e k o:Nat}:unv (.eptr i e k o)=(.eptr i e k o):=rfl
theorem qzhx{i e k o:Nat}{c:Bool}:unc c (.eptr i e k o)=True:=rfl
theorem qzin{f:Nat->Aa}{l o:Nat}:unv (.cptr f l o)=(.cptr f l o):=rfl
theorem qzig{f:Nat->Aa}{l o:Nat}{c:Bool}:unc c (.cptr f l o)=True:=rfl
theorem qzh5 :unv .nilp=.nilp:=rfl
theorem qzio{c:Bool}:unc c .nilp=True:=rfl
theorem qzm9{f:FuncId}{nb:Nat}{l:List Aa}:unv (.fn f nb l)=(.fn f nb l):=rfl
theorem qzna{f:FuncId}{nb:Nat}{l:List Aa}{c:Bool}:unc c (.fn f nb l)=True:=rfl
theorem qzgf :unv .nilfn=.nilfn:=rfl
theorem qzgr{c:Bool}:unc c .nilfn=True:=rfl
theorem qzmt{i e:Nat}:unv (.mp i e)=(.mp i e):=rfl
theorem qzmr{i e:Nat}{c:Bool}:unc c (.mp i e)=True:=rfl
theorem qzgn :unv .nilmp=.nilmp:=rfl
theorem qzgz{c:Bool}:unc c .nilmp=True:=rfl
theorem qzj6{l:List Aa}:unv (.agg l)=(.agg l):=rfl
theorem qzj9{l:List Aa}{c:Bool}:unc c (.agg l)=True:=rfl
theorem qzjv{l:List Aa}:unv (.tup l)=(.tup l):=rfl
theorem qzka{l:List Aa}{c:Bool}:unc c (.tup l)=True:=rfl
theorem qzju :unv .top=.top:=rfl
theorem qzki{c:Bool}:unc c .top=True:=rfl
theorem qzkr{d:Bool}{x:Aa}:unv (.cnd d x)=x:=rfl
theorem qzku{c d:Bool}{x:Aa}:unc c (.cnd d x)=(c=true->d=true):=rfl
open Go.ChangeShapes
inductive Sh where
 |int (k:IntKind)
 |bool
 |str
 |slc (e:List Sh)
inductive ShOk(N:Nat):Sh->Aa->Prop where
 |int (k:IntKind) (n:Int) (h1:k.min<=n) (h2:n<=k.max):ShOk N (.int k) (.int k n)
 |bool (b:Bool):ShOk N .bool (.bool b)
 |str (s:List UInt8) (h:s.length<=N):ShOk N .str (.str s)
 |slc (e:List Sh) (n:Nat) (f:Nat->List Aa) (hn:n<=N) (hl:∀i,i<n->(f i).length=e.length) (h:∀(i j:Nat) (s:Sh) (x:Aa),i<n->e[j]?=some s->(f i)[j]?=some x->ShOk N s x):ShOk N (.slc e) (.slc e.length n f)
def CE(N:Nat)(ss:List Sh)(xs:List Aa):Prop:=xs.length=ss.length/\∀(j:Nat) (s:Sh) (x:Aa),ss[j]?=some s->xs[j]?=some x->ShOk N s x
theorem CE.nil{N:Nat}:CE N [] []:=⟨rfl,fun j s x h=>by simp at h⟩
theorem CE.one{N:Nat}{s:Sh}{x:Aa}(h:ShOk N s x):CE N [s] [x]:=by
 refine⟨rfl,fun j s' x' h1 h2=>?_⟩;cases j with
 |zero=>simp at h1 h2;subst h1;subst h2;exact h
 |succ j=>simp at h1
theorem CE.append{N:Nat}{ss ss':List Sh}{xs xs':List Aa}(h:CE N ss xs)(h':CE N ss' xs'):CE N (ss++ss') (xs++xs'):=by
 refine⟨by simp[h.1,h'.1],fun j s x h1 h2=>?_⟩;by_cases hj:j<ss.length
 ·rw[Fj hj]at h1;rw[Fj (by rw[h.1];exact hj)]at h2;exact h.2 j s x h1 h2
 ·rw[GB (by omega)]at h1;rw[GB (by rw[h.1];omega),h.1]at h2;exact h'.2 _ s x h1 h2
theorem CE.cons_inv{N:Nat}{s:Sh}{ss:List Sh}{xs:List Aa}(h:CE N (s :: ss) xs):∃x xs',xs=x :: xs'/\ShOk N s x/\CE N ss xs':=by
 cases xs with
 |nil=>have:=h.1;simp at this
 |cons x xs=>exact⟨x,xs,rfl,h.2 0 s x rfl rfl,by have:=h.1;simpa using this,fun j s' x' h1 h2=>h.2 (j+1) s' x' (by simpa using h1) (by simpa using h2)⟩
theorem CE.nil_inv{N:Nat}{xs:List Aa}(h:CE N [] xs):xs=[]:=Ls.1 h.1
theorem ShOk.int_inv{N:Nat}{k:IntKind}{x:Aa}(h:ShOk N (.int k) x):∃n,x=.int k n/\k.min<=n/\n<=k.max:=by cases h;exact⟨_,rfl,by assumption,by assumption⟩
theorem ShOk.bool_inv{N:Nat}{x:Aa}(h:ShOk N .bool x):∃b,x=.bool b:=by cases h;exact⟨_,rfl⟩
theorem ShOk.str_inv{N:Nat}{x:Aa}(h:ShOk N .str x):∃s,x=.str s/\s.length<=N:=by cases h;exact⟨_,rfl,by assumption⟩
theorem ShOk.slc_inv{N:Nat}{e:List Sh}{x:Aa}(h:ShOk N (.slc e) x):∃n f,x=.slc e.length n f/\n<=N/\∀i,i<n->CE N e (f i):=by
 cases h with
 |slc _ n f hn hl h=>exact⟨n,f,rfl,hn,fun i hi=>⟨hl i hi,fun j s x h1 h2=>h i j s x hi h1 h2⟩⟩
section
variable (P:Program)
def rep{α:Type}(s:List α):Nat->List α
 |0=>[]
 |n+1=>s++rep s n
mutual
def FQ:Nat->TypeId->Option (List Sh)
 |0,_=>none
 |n+1,t=>match P.underlying t with
  |some .bool=>some [.bool]
  |some (.int k)=>some [.int k]
  |some .string=>some [.str]
  |some (.slice e)=>match FQ n e with
   |some s=>if P.cellsOf e=s.length/\0<s.length then some [.slc s] else none
   |none=>none
  |some (.struct fs)=>F3 n (P.cellsOf t) fs.toList 0
  |some (.array m e)=>match FQ n e with
   |some s=>if P.cellsOf e=s.length/\P.cellsOf t=m*s.length then some (rep s m) else none
   |none=>none
  |_=>none
def F3:Nat->Nat->List Field->Nat->Option (List Sh)
 |0,_,_,_=>none
 |n+1,c,[],off=>if off=c then some [] else none
 |n+1,c,f :: r,off=>match FQ n f.type with
  | some s=>if f.offset=off/\P.cellsOf f.type=s.length then(match F3 n c r (off+s.length) with
   |some q=>some (s++q)
   | none=>none) else none
  |none=>none
end
end
theorem Ic{α U:Type}(f:α->Option U):∀(l:List α) (m:List U),l.mapM f=some m->m.length=l.length/\∀(i:Nat) (x:α) (y:U),l[i]?=some x->m[i]?=some y->f x=some y
 |[],m,h=>by simp at h;subst h;exact⟨rfl,fun i x y hx=>by simp at hx⟩
 |a :: l,m,h=>by
  rw[List.mapM_cons]at h;cases ha:f a with
  |none=>rw[ha]at h;cases h
  |some b =>
   rw[ha]at h;cases hl:l.mapM f with
   |none=>rw[hl]at h;cases h
   |some bs =>
    rw[hl]at h;have e:b :: bs=m:=by simpa using h
    subst e;obtain⟨h1,h2⟩:=Ic f l bs hl;refine⟨by simp[h1],fun i x y hx hy=>?_⟩;cases i with
    |zero=>simp at hx hy;subst hx;subst hy;exact ha
    |succ i=>exact h2 i x y (by simpa using hx) (by simpa using hy)
theorem Kk{α U:Type}{f g:α->Option U}:∀{l:List α} {m:List U},l.mapM f=some m->(∀(i:Nat) (x:α) (y:U),l[i]?=some x->m[i]?=some y->f x=some y->g x=some y)->l.mapM g=some m
 |[],m,h,_=>by simpa using h
 |a :: l,m,h,k=>by
  rw[List.mapM_cons]at h |-;cases ha:f a with
  |none=>rw[ha]at h;cases h
  |some b =>
   rw[ha]at h;cases hl:l.mapM f with
   |none=>rw[hl]at h;cases h
   |some bs =>
    rw[hl]at h;have e:b :: bs=m:=by simpa using h
    subst e;rw[k 0 a b rfl rfl ha,Kk hl fun i x y hx hy=>k (i+1) x y (by simpa using hx) (by simpa using hy)];rfl
theorem Pl{n i:Nat}(h:i<n):(List.range n)[i]?=some i:=by simp[h]
section
variable {H:Type}{enc:TypeId×Value->H}{P:Program}{w w':World}
theorem qzu6{a:Addr}{n:Nat}{cs:List Value}(h:w.cells? 0 a n=some cs):cs.length=n/\∀i v,cs[i]?=some v->w.cell? (a.add i)=some v:=by
 unfold World.cells? at h;rw[An (Dj _)]at h;obtain⟨h1,h2⟩:=Ic _ _ _ h;simp only[O4]at h1;refine⟨h1,fun i v hv=>?_⟩;have hi:i<n:=by have:=(AK.1 hv).1;omega
 exact h2 i i v (Pl hi) hv
theorem UN{a:Addr}{v:Value}(h:w.cell? a=some v):a.spot=none/\a.block<w.heap.size:=by
 unfold World.cell? at h;split at h
 ·rename_i hb;split at h
  ·cases h
  ·rename_i hs;exact⟨by simpa using hs,(CQ.1 hb).1⟩
 ·cases h
mutual
def BO{H:Type}:DataW H->Nat
 |.lit (.string bytes)=>bytes.length+1
 |.lit _=>1
 |.nil=>1
 |.ptr d=>BO d+1
 |.slice elems spare=>DJ elems+DJ spare+1
 |.agg parts=>DJ parts+1
 |.iface _ d=>BO d+1
 |.map entries=>UO entries+1
 |.held _=>1
def DJ{H:Type}:List (DataW H)->Nat
 |[]=>0
 |d :: r=>BO d+DJ r
def UO{H:Type}:List (Lit×DataW H)->Nat
 |[]=>0
 |x :: r=>jzmp x+UO r
def jzmp{H:Type}:Lit×DataW H->Nat
 |(.string bytes,d)=>bytes.length+BO d+1
 |(_,d)=>BO d+1
end
theorem jzmq(d:DataW H):1<=BO d:=by
 cases d with
 |lit l=>cases l<;>simp[BO]
 |_=>simp[BO]
theorem LX:∀{l:List (DataW H)} {d:DataW H},d∈l->BO d<=DJ l
 |a :: l,d,h=>by
  rw[DJ];rcases AL.1 h with rfl|h
  ·omega
  ·have:=LX h;omega
theorem UP:∀(l:List (DataW H)),l.length<=DJ l
 |[]=>AC _
 |a :: l=>by rw[DJ,E7];have:=jzmq a;have:=UP l;omega
theorem qzwi{N:Nat}{g:Gh}(hg:∀b,b<w.heap.size->g.fz b){sp:Nat->Bool}{held:Bool}:∀(m fuel:Nat), (∀(t:TypeId) (cs:List Value) (d:DataW H) (ps:List MemPlace) (ss:List Sh),DataW.trod enc P w 0 sp held fuel t cs=some (d,ps)->FQ P m t=some ss->(maxLen<=N\/BO d<=N) -> (∀v∈cs,v.oneCell'=true)/\∃xs,RVs g w xs cs/\CE N ss xs) /\
  (∀(fs:List Field) (c off:Nat) (cs:List Value) (res:List (DataW H×List MemPlace)) (ss:List Sh),cs.length=c->F3 P m c fs off=some ss ->
   fs.mapM (fun f=>DataW.trod enc P w 0 sp held fuel f.type ((cs.drop f.offset).take (P.cellsOf f.type)))=some res->(maxLen<=N\/∀x∈res,BO x.1<=N)->(∀v∈cs.drop off,v.oneCell'=true)/\∃xs,RVs g w xs (cs.drop off)/\CE N ss xs):=by
 intro m;induction m with
 |zero=>intro fuel;exact⟨fun t cs d ps ss _ h=>by simp[FQ]at h,fun fs c off cs res ss _ h=>by simp[F3]at h⟩
 |succ m ih =>
  intro fuel;constructor
  ·intro t cs d ps ss h hs hN;cases fuel with
   |zero=>simp[DataW.trod]at h
   |succ fuel =>
   obtain⟨ih1,ih2⟩:=ih fuel;unfold DataW.trod at h;unfold FQ at hs;cases hu:P.underlying t with
   |none=>rw[hu]at hs;cases hs
   |some de =>
   rw[hu]at h hs;cases de<;>simp only at hs<;>(try (cases hs;done))
   case bool =>
    rcases cs with _|⟨v,_|⟨v',r⟩⟩
    ·cases h
    ·cases v<;>(try (cases h;done))
     case bool b =>cases hs;exact⟨by simp[Value.oneCell'],[.bool b],.cons (.bool b) (.nil g w),.one (.bool b)⟩
    ·cases v<;>cases h
   case int k =>
    rcases cs with _|⟨v,_|⟨v',r⟩⟩
    ·cases h
    ·cases v<;>(try (cases h;done))
     case int k' n =>
      simp only at h;split at h
      ·rename_i hk;obtain⟨rfl,hw⟩:=hk;cases hs;simp only[Lit.wf,AE,Bp]at hw;exact⟨by simp[Value.oneCell'],[.int _ n],.cons (.int _ n) (.nil g w),.one (.int _ n hw.1 hw.2)⟩
      ·cases h
    ·cases v<;>cases h
   case string =>
    rcases cs with _|⟨v,_|⟨v',r⟩⟩
    ·cases h
    ·cases v<;>(try (cases h;done))
     case string s =>
      simp only at h;split at h
      ·rename_i hl;cases hs;cases h
       have eJ:s.data.toList.length<=N:=by
        rcases hN with hN|hN
        ·have:s.data.toList.length<=maxLen:=(by simpa using hl);omega
        ·simp only[BO]at hN;omega
       exact⟨by simp[Value.oneCell'],[.str s.data.toList],.cons (.str _ s rfl) (.nil g w),.one (.str _ eJ)⟩
      ·cases h
    ·cases v<;>cases h
   case slice e =>
    rcases cs with _|⟨v,_|⟨v',r⟩⟩
    ·cases h
    ·cases v<;>(try (cases h;done))
     case slice ao len cap =>
      cases ao with
      |none =>
       have bz:len=0/\cap=0:=by
        rcases len with _|len
        ·rcases cap with _|cap;·exact⟨rfl,rfl⟩
         ·cases h
        ·cases h
       obtain⟨rfl,rfl⟩:=bz;split at hs
       ·split at hs;·cases hs;exact⟨by simp[Value.oneCell'],[.slc _ 0 (fun _=>[])],.cons (.slc0 _ _ _ _) (.nil g w),.one (.slc _ 0 _ (Dj _) (fun i hi=>by omega) (fun i j s x hi=>by omega))⟩
        ·cases hs
       ·cases hs
      |some a =>
       simp only at h;split at hs
       ·rename_i s fx;split at hs
        ·rename_i aS;obtain⟨iM,bn⟩:=aS;cases hs;split at h
         ·rename_i hb;obtain⟨_,oy,gW⟩:=hb;refine⟨by simp[Value.oneCell'],?_⟩;simp only[Option.bind_eq_some_iff,Tj]at h;obtain⟨elems,aV,rest,d9,heq⟩:=h;obtain⟨eK,iN⟩:=Ic _ _ _ aV;simp only[O4]at eK;have hd:DataW.slice (elems.map Prod.fst) (rest.map Prod.fst)=d:=(Prod.mk.inj heq).1
          have kj:len<=N:=by
           rcases hN with hN|hN
           ·omega
           ·rw[<-hd,BO]at hN;have:=UP (elems.map Prod.fst);rw[J8]at this;omega
          have lw:maxLen<=N\/∀y∈elems,BO y.1<=N:=by
           rcases hN with hN|hN
           ·exact .inl hN
           ·refine .inr fun y hy=>?_;rw[<-hd,BO]at hN;have:=LX (JI (f:=Prod.fst) hy);omega
          by_cases h0:len=0
          ·subst h0;exact⟨[.slc _ 0 (fun _=>[])],.cons (.slc0 _ _ _ _) (.nil g w),.one (.slc _ 0 _ (Dj _) (fun i hi=>by omega) (fun i j s x hi=>by omega))⟩
          have each:∀i,i<len->∃row:List Value,row.length=s.length/\(∀j v,row[j]?=some v->w.cell? ((a.add (i*P.cellsOf e)).add j)=some v)/\(∀v∈row,v.oneCell'=true)/\∃xs,RVs g w xs row/\CE N s xs:=(by intro i hi;have h1:=iN i i _ (Pl hi) (AD (by omega:i<elems.length));obtain⟨row,hr,ht⟩:=Option.bind_eq_some_iff.1 h1;obtain⟨r1,r2⟩:=qzu6 hr;obtain⟨o1,o2⟩:=ih1 e row _ _ s ht fx (lw.imp id fun h=>h _ (BH _));exact⟨row,by omega,r2,o1,o2⟩);obtain⟨row0,r01,r02,_,_⟩:=each 0 (by omega);have da:a.spot=none/\a.block<w.heap.size:=by have:=r02 0 _ (AD (by omega:0<row0.length));have:=UN this;simpa [Addr.add] using this
          have rowx:∀i,∃p:List Value×List Aa,i<len->p.1.length=s.length/\(∀j v,p.1[j]?=some v->w.cell? ((a.add (i*P.cellsOf e)).add j)=some v)/\(∀v∈p.1,v.oneCell'=true)/\RVs g w p.2 p.1/\CE N s p.2:=by
           intro i;by_cases hi:i<len
           ·obtain⟨row,a1,a2,a3,xs,a4,a5⟩:=each i hi;exact⟨(row,xs),fun _=>⟨a1,a2,a3,a4,a5⟩⟩
           ·exact⟨([],[]),fun h=>absurd h hi⟩
          let F:=fun i=>(rowx i).choose
          have hF:∀i,i<len->_:=fun i=>(rowx i).choose_spec;obtain⟨blk,off,spot⟩:=a;obtain⟨cR,cC⟩:=da;simp only at cR cC;subst cR
          refine⟨[.slc s.length len (fun i=>(F i).2)],.cons (.slc s.length len _ blk off cap (fun i j=>(F i).1.getD j undef) (hg blk cC) oy (fun i hi=>(hF i hi).2.2.2.2.1) (fun i j hi hj=>?_) (fun i j hi hj=>?_) (fun i j x hi hx=>?_)) (.nil g w),
           .one (.slc s len _ kj (fun i hi=>(hF i hi).2.2.2.2.1) (fun i j s' x hi h1 h2=>(hF i hi).2.2.2.2.2 j s' x h1 h2))⟩
          ·have h1:=(hF i hi).1;have aZ:j<(F i).1.length:=(by show j<(rowx i).choose.1.length;omega);have h2:=(hF i hi).2.1 j _ (AD aZ);have e1:((⟨blk,off,none⟩:Addr).add (i*P.cellsOf e)).add j=⟨blk,off+i*s.length+j,none⟩:=(by rw[iM];unfold Addr.add;by_cases a1:i*s.length=0<;>by_cases a2:j=0<;>simp[a1,a2,Dh]);rw[e1]at h2;rw[h2];simp[List.getD,aZ]
          ·have h1:=(hF i hi).1;have aZ:j<(F i).1.length:=(by show j<(rowx i).choose.1.length;omega);have e2:(F i).1.getD j undef=(F i).1[j]:=(by simp[List.getD,aZ]);rw[e2];exact(hF i hi).2.2.1 _ (BH aZ)
          ·have h1:=(hF i hi).1;have h4:=(hF i hi).2.2.2.1;have hj:j<(F i).2.length:=(AK.1 hx).1;have aZ:j<(F i).1.length:=(by have:(F i).1.length=(F i).2.length:=h4.1;omega);have e2:(F i).1.getD j undef=(F i).1[j]:=(by simp[List.getD,aZ]);have e3:(F i).1[j]?=some (F i).1[j]:=AD aZ;exact h4.2 j x _ hx (e3.trans (by rw[e2]))
         ·cases h
        ·cases hs
       ·cases hs
    ·cases v<;>first|(cases h;done)|(rename_i ao len cap;rcases ao with _|ao<;>rcases len with _|len<;>rcases cap with _|cap<;>cases h)
   case struct fs =>
    simp only at h;split at h
    ·rename_i aD;simp only[Tj]at h;obtain⟨res,aW,heq⟩:=h;have hd:DataW.agg (res.map Prod.fst)=d:=(Prod.mk.inj heq).1;have:=ih2 fs.toList (P.cellsOf t) 0 cs res ss aD hs aW (hN.imp id fun hN x hx=>by rw[<-hd,BO]at hN;have:=LX (JI (f:=Prod.fst) hx);omega);simpa using this
    ·cases h
   case array n e =>
    simp only at h;split at hs
    ·rename_i s fx;split at hs
     ·rename_i aS;obtain⟨iM,ju⟩:=aS;cases hs;split at h
      ·rename_i aD;simp only[Tj]at h;obtain⟨res,aW,heq⟩:=h;have hd:DataW.agg (res.map Prod.fst)=d:=(Prod.mk.inj heq).1;have lw:maxLen<=N\/∀y∈res,BO y.1<=N:=hN.imp id fun hN x hx=>by rw[<-hd,BO]at hN;have:=LX (JI (f:=Prod.fst) hx);omega
       obtain⟨eK,iN⟩:=Ic _ _ _ aW;simp only[O4]at eK
       have go:∀k i,i+k=n->(∀v∈cs.drop (i*s.length),v.oneCell'=true)/\∃xs,RVs g w xs (cs.drop (i*s.length))/\CE N (rep s k) xs:=by
        intro k;induction k with
        |zero =>
         intro i hi
         have:cs.drop (i*s.length)=[]:=by
          rw[Tr];have:i=n:=by omega
          subst this;omega
         rw[this];exact⟨by simp,[],.nil g w,.nil⟩
        |succ k ihk =>
         intro i hi;obtain⟨t1,xs1,t2,t3⟩:=ihk (i+1) (by omega);have h1:=iN i i _ (Pl (by omega)) (AD (by omega:i<res.length));obtain⟨o1,xs0,o2,o3⟩:=ih1 e _ _ _ s h1 fx (lw.imp id fun h=>h _ (BH _));have e1:(cs.drop (i*P.cellsOf e)).take (P.cellsOf e)++cs.drop ((i+1)*s.length)=cs.drop (i*s.length):=by rw[iM,Ee,<-L6];exact Tw _ _
         rw[<-e1];exact⟨fun v hv=>(Bh.1 hv).elim (o1 v) (t1 v),xs0++xs1,o2.append t2,o3.append t3⟩
       have:=go n 0 (by omega);simpa using this
      ·cases h
     ·cases hs
    ·cases hs
  ·intro fs c off cs res ss aD hs aW hN;cases fs with
   |nil =>
    simp only[F3]at hs;split at hs
    ·rename_i ho;cases hs;have:cs.drop off=[]:=by rw[Tr];omega
     rw[this];exact⟨by simp,[],.nil g w,.nil⟩
    ·cases hs
   |cons f r =>
    obtain⟨ih1,ih2⟩:=ih fuel;simp only[F3]at hs;split at hs
    ·rename_i s fx;split at hs
     ·rename_i aS;obtain⟨ho,iM⟩:=aS;split at hs
      ·rename_i q hq;cases hs;rw[List.mapM_cons]at aW;cases ha:DataW.trod enc P w 0 sp held fuel f.type ((cs.drop f.offset).take (P.cellsOf f.type)) with
       |none=>rw[ha]at aW;cases aW
       |some y =>
        rw[ha]at aW;cases hl:r.mapM (fun f=>DataW.trod enc P w 0 sp held fuel f.type ((cs.drop f.offset).take (P.cellsOf f.type))) with
        |none=>rw[hl]at aW;cases aW
        |some ys =>
         rw[hl]at aW;have e:y :: ys=res:=by simpa using aW
         subst e;obtain⟨o1,xs0,o2,o3⟩:=ih1 f.type _ y.1 y.2 s ha fx (hN.imp id fun h=>h y (BI ..));obtain⟨t1,xs1,t2,t3⟩:=ih2 r c (off+s.length) cs ys q aD hq hl (hN.imp id fun h x hx=>h x (CG _ hx));have e1:(cs.drop f.offset).take (P.cellsOf f.type)++cs.drop (off+s.length)=cs.drop off:=by rw[iM,ho,<-L6];exact Tw _ _
         rw[<-e1];exact⟨fun v hv=>(Bh.1 hv).elim (o1 v) (t1 v),xs0++xs1,o2.append t2,o3.append t3⟩
      ·cases hs
     ·cases hs
    ·cases hs
theorem wzdd{a:Addr}{n:Nat}(h:0<n):MemPlace.cell a.block a.off∈MemPlace.row a n:=by unfold MemPlace.row;rw[L7];exact⟨0,GC.2 h,by simp⟩
theorem qztv(hh:∀b,b<w.heap.size->w'.heap[b]?=w.heap[b]?){a:Addr}{n:Nat}{cs:List Value}(h:w.cells? 0 a n=some cs):w'.cells? 0 a n=some cs:=by
 unfold World.cells? at h |-;rw[An (Dj _)]at h |-;refine Kk h fun i x y _ _ hy=>?_;have hb:=(UN hy).2;have e:(a.add x).block=a.block:=by unfold Addr.add;split<;>rfl
 have:=hh _ hb;unfold World.cell? at hy |-;rw[this];exact hy
theorem qzun(hh:∀b,b<w.heap.size->w'.heap[b]?=w.heap[b]?){sp:Nat->Bool}{held:Bool}:∀(m fuel:Nat),
  (∀(t:TypeId) (cs:List Value) (d:DataW H) (ps:List MemPlace) (ss:List Sh),DataW.trod enc P w 0 (fun _=>true) held fuel t cs=some (d,ps)->FQ P m t=some ss->(∀p∈ps,sp p.block=true) ->
   DataW.trod enc P w' 0 sp held fuel t cs=some (d,ps)) /\
  (∀(fs:List Field) (c off:Nat) (cs:List Value) (res:List (DataW H×List MemPlace)) (ss:List Sh),F3 P m c fs off=some ss ->
   fs.mapM (fun f=>DataW.trod enc P w 0 (fun _=>true) held fuel f.type ((cs.drop f.offset).take (P.cellsOf f.type)))=some res->(∀x∈res,∀p∈x.2,sp p.block=true) ->
   fs.mapM (fun f=>DataW.trod enc P w' 0 sp held fuel f.type ((cs.drop f.offset).take (P.cellsOf f.type)))=some res):=by
 intro m;induction m with
 |zero=>intro fuel;exact⟨fun t cs d ps ss _ h=>by simp[FQ]at h,fun fs c off cs res ss h=>by simp[F3]at h⟩
 |succ m ih =>
  intro fuel;constructor
  ·intro t cs d ps ss h hs hp;cases fuel with
   |zero=>simp[DataW.trod]at h
   |succ fuel =>
   obtain⟨ih1,ih2⟩:=ih fuel;unfold DataW.trod at h |-;unfold FQ at hs;cases hu:P.underlying t with
   |none=>rw[hu]at hs;cases hs
   |some de =>
   rw[hu]at h hs;cases de<;>simp only at hs<;>(try (cases hs;done))
   case bool =>
    rcases cs with _|⟨v,_|⟨v',r⟩⟩
    ·cases h
    ·cases v<;>(try (cases h;done));exact h
    ·cases v<;>cases h
   case int k =>
    rcases cs with _|⟨v,_|⟨v',r⟩⟩
    ·cases h
    ·cases v<;>(try (cases h;done));exact h
    ·cases v<;>cases h
   case string =>
    rcases cs with _|⟨v,_|⟨v',r⟩⟩
    ·cases h
    ·cases v<;>(try (cases h;done));exact h
    ·cases v<;>cases h
   case slice e =>
    rcases cs with _|⟨v,_|⟨v',r⟩⟩
    ·cases h
    ·cases v<;>(try (cases h;done))
     case slice ao len cap =>
      cases ao with
      |none =>
       rcases len with _|len
       ·rcases cap with _|cap;·exact h
        ·cases h
       ·cases h
      |some a =>
       simp only at h |-;split at hs
       ·rename_i s fx;split at hs
        ·rename_i aS;obtain⟨iM,bn⟩:=aS;split at h
         ·rename_i hb;rw[An hb];simp only[Option.bind_eq_some_iff,Cn,Tj]at h;obtain⟨elems,aV,rest,d9,heq⟩:=h;obtain⟨eK,iN⟩:=Ic _ _ _ aV;obtain⟨eH,cz⟩:=Ic _ _ _ d9;simp only[O4]at eK eH;simp only[DF]at heq;obtain⟨hd,dR⟩:=heq;have sub:∀x∈elems++rest,∀p∈x.2,sp p.block=true:=fun x hx p gX=>hp p (by rw[<-dR];exact Bh.2 (.inr (List.mem_flatMap.2 ⟨x,hx,gX⟩)));have step:∀(i:Nat) (y:DataW H×List MemPlace),y∈elems++rest->(w.cells? 0 (a.add (i*P.cellsOf e)) (P.cellsOf e)).bind (DataW.trod enc P w 0 (fun _=>true) held fuel e)=some y -> (w'.cells? 0 (a.add (i*P.cellsOf e)) (P.cellsOf e)).bind (DataW.trod enc P w' 0 sp held fuel e)=some y:=by intro i y hy hi;obtain⟨row,h1,h2⟩:=Option.bind_eq_some_iff.1 hi;rw[qztv hh h1];exact ih1 e row y.1 y.2 s h2 fx (sub y hy)
          have dN:(List.range len).mapM (fun i=>(w'.cells? 0 (a.add (i*P.cellsOf e)) (P.cellsOf e)).bind (DataW.trod enc P w' 0 sp held fuel e))=some elems :=
           Kk aV fun i x y hx hy cU=>step x y (Bh.2 (.inl (CB hy))) cU
          have ed:(if sp a.block=true then(List.range (cap-len)).mapM (fun j=>(w'.cells? 0 (a.add ((len+j)*P.cellsOf e)) (P.cellsOf e)).bind (DataW.trod enc P w' 0 sp held fuel e)) else some [])=some rest:=by
           by_cases da:sp a.block=true
           ·rw[An da];exact Kk d9 fun i x y hx hy cU=>step (len+x) y (Bh.2 (.inr (CB hy))) cU
           ·rw[Ak da];by_cases hc:0<elems.length+rest.length
            ·exfalso;have kl:MemPlace.cell a.block a.off∈ps:=(by rw[<-dR];exact Bh.2 (.inl (wzdd (Nat.mul_pos hc (by omega)))));exact da (hp _ kl)
            ·have:rest=[]:=Ls.1 (by omega);rw[this]
          rw[dN];simp only[Option.bind_some];rw[ed];simp only[Do,hd,dR]
         ·cases h
        ·cases hs
       ·cases hs
    ·cases v<;>first|(cases h;done)|(rename_i ao len cap;rcases ao with _|ao<;>rcases len with _|len<;>rcases cap with _|cap<;>cases h)
   case struct fs =>
    simp only at h |-;split at h
    ·rename_i aD;rw[An aD];simp only[Tj]at h |-;obtain⟨res,aW,heq⟩:=h;refine⟨res,ih2 fs.toList (P.cellsOf t) 0 cs res ss hs aW fun x hx p gX=>hp p ?_,heq⟩;simp only[DF]at heq;rw[<-heq.2];exact List.mem_flatMap.2 ⟨x,hx,gX⟩
    ·cases h
   case array n e =>
    simp only at h |-;split at hs
    ·rename_i s fx;split at hs
     ·split at h;·rename_i aD;rw[An aD];simp only[Tj]at h |-;obtain⟨res,aW,heq⟩:=h;simp only[DF]at heq;refine⟨res,Kk aW fun i x y hx hy cU=>ih1 e _ y.1 y.2 s cU fx fun p gX=>hp p ?_,by simp[heq.1,heq.2]⟩;rw[<-heq.2];exact List.mem_flatMap.2 ⟨y,CB hy,gX⟩
      ·cases h
     ·cases hs
    ·cases hs
  ·intro fs c off cs res ss hs aW hp;cases fs with
   |nil=>simpa using aW
   |cons f r =>
    obtain⟨ih1,ih2⟩:=ih fuel;simp only[F3]at hs;split at hs
    ·rename_i s fx;split at hs
     ·split at hs
      ·rename_i q hq;rw[List.mapM_cons]at aW |-;cases ha:DataW.trod enc P w 0 (fun _=>true) held fuel f.type ((cs.drop f.offset).take (P.cellsOf f.type)) with
       |none=>rw[ha]at aW;cases aW
       |some y =>
        rw[ha]at aW;cases hl:r.mapM (fun f=>DataW.trod enc P w 0 (fun _=>true) held fuel f.type ((cs.drop f.offset).take (P.cellsOf f.type))) with
        |none=>rw[hl]at aW;cases aW
        |some ys =>
         rw[hl]at aW;have e:y :: ys=res:=by simpa using aW
         subst e;rw[ih1 f.type _ y.1 y.2 s ha fx (fun p gX=>hp y (BI ..) p gX),ih2 r c (off+s.length) cs ys q hq hl (fun x hx=>hp x (CG _ hx))];rfl
      ·cases hs
     ·cases hs
    ·cases hs
end
open Go.ChangeShapes Go.WideShapes Go.ChangeAt Go.RowKit
def F4(P:Program)(t:TypeId):Bool:=match P.underlying t with
 |some (.struct _) | some (.array _ _)=>true
 |_=>false
def UQ(N:Nat)(P:Program)(m:Nat)(t:TypeId)(x:Aa):Prop:=∃ss,FQ P m t=some ss/\((F4 P t=true/\∃xs,x=.agg xs/\CE N ss xs)\/(F4 P t=false/\∃s,ss=[s]/\ShOk N s x))
def Kl(N:Nat)(P:Program)(m:Nat):List TypeId->List Aa->Prop
 |[],[]=>True
 |t :: ts,x :: xs=>UQ N P m t x/\Kl N P m ts xs
 |_,_=>False
section
variable {H:Type}{enc:TypeId×Value->H}{P:Program}{W W':World}
theorem qz3s{N:Nat}{g:Gh}(hg:∀b,b<W.heap.size->g.fz b){m:Nat}{r:Reach}{b0:Nat}{t:TypeId}{v:Value}{sp:Nat->Bool}{held:Bool}{d:DataW H}{ps:List MemPlace}(bC:Value.okWide P W r b0 t v)(h:DataW.Trod enc P W 0 sp held t v d ps)(hs:(FQ P m t).isSome=true)(hN:maxLen<=N\/BO d<=N) : ∃x,RV g W x v/\UQ N P m t x:=by
 obtain⟨fuel,h⟩:=h;obtain⟨ss,gY⟩:=Option.isSome_iff_exists.1 hs;obtain⟨_,xs,hx,eS⟩:=(qzwi hg m fuel).1 t _ d ps ss h gY hN;by_cases ha:F4 P t=true
 ·have:∃cs,v=.agg cs:=by
   unfold F4 at ha;unfold Value.okWide at bC;split at ha<;>rename_i hu<;>first|(rw[hu]at bC;obtain⟨cs,e,_⟩:=bC;exact⟨cs,e⟩)|cases ha
  obtain⟨cs,rfl⟩:=this;exact⟨.agg xs,.agg xs cs (by simpa [Value.cells] using hx.1) (fun i x v h1 h2=>hx.2 i x v h1 (by simpa [Value.cells] using h2)),ss,gY,.inl ⟨ha,xs,rfl,eS⟩⟩
 ·have km:F4 P t=false:=by simpa using ha
  have fe:v.cells.toList=[v]:=by
   cases v<;>first|rfl|skip
   case agg cs =>
    exfalso;unfold F4 at km;unfold Value.okWide at bC;cases hu:P.underlying t with
    |none=>rw[hu]at bC;simp[Cell.okWide,Cell.ok,hu]at bC
    |some de =>rw[hu]at bC km;cases de<;>simp[Cell.okWide,Cell.ok,hu]at bC km
  rw[fe]at hx;have hl:=hx.1;simp only[DE]at hl
  match xs,hl,hx,eS with
  |[x],_,hx,eS =>
   have h1:=eS.1;simp only[DE]at h1
   match ss,h1,gY,eS with
   |[s],_,gY,eS=>exact⟨x,hx.2 0 x v rfl rfl,[s],gY,.inr ⟨km,s,rfl,eS.2 0 s x rfl rfl⟩⟩
theorem UR{N:Nat}{g:Gh}(hg:∀b,b<W.heap.size->g.fz b){m:Nat}{r:Reach}{b0:Nat}{sp:Nat->Bool}{held:Bool}:∀{ts:List TypeId} {vs:List Value} {ds:List (DataW H)} {ps:List MemPlace}, (∀(j:Nat) t v,ts[j]?=some t->vs[j]?=some v->Value.okWide P W r b0 t v)->DataW.TrodAll enc P W 0 sp held ts vs ds ps->(∀t∈ts,(FQ P m t).isSome=true)->(maxLen<=N\/DJ ds<=N)->∃xs,RVs g W xs vs/\Kl N P m ts xs
 |[],vs,ds,ps,_,h,_,_=>by obtain⟨rfl,_,_⟩:=trodAll_nil h;exact⟨[],.nil _ _,trivial⟩
 |t :: ts,vs,ds,ps,hv,h,hs,hN=>by obtain⟨v,vs',d,ds',p,q,rfl,rfl,rfl,h1,h2⟩:=trodAll_cons h;obtain⟨x,hx,ha⟩:=qz3s hg (hv 0 t v rfl rfl) h1 (hs t (BI ..)) (hN.imp id fun h=>by rw[DJ]at h;omega);obtain⟨xs,eU,g7⟩:=UR hg (fun j t v h1 h2=>hv (j+1) t v (by simpa using h1) (by simpa using h2)) h2 (fun t ht=>hs t (CG _ ht)) (hN.imp id fun h=>by rw[DJ]at h;omega);exact⟨x :: xs,.cons hx eU,ha,g7⟩
theorem US(hh:∀b,b<W.heap.size->W'.heap[b]?=W.heap[b]?){m:Nat}{sp:Nat->Bool}{held:Bool}:∀{ts:List TypeId} {vs:List Value} {ds:List (DataW H)} {ps:List MemPlace},
  DataW.TrodAll enc P W 0 (fun _=>true) held ts vs ds ps->(∀t∈ts,(FQ P m t).isSome=true)->(∀p∈ps,sp p.block=true)->DataW.TrodAll enc P W' 0 sp held ts vs ds ps
 |[],vs,ds,ps,h,_,_=>by obtain⟨rfl,rfl,rfl⟩:=trodAll_nil h;exact trodAll_mk0
 |t :: ts,vs,ds,ps,h,hs,hp=>by obtain⟨v,vs',d,ds',p,q,rfl,rfl,rfl,⟨fuel,h1⟩,h2⟩:=trodAll_cons h;obtain⟨ss,gY⟩:=Option.isSome_iff_exists.1 (hs t (BI ..));exact trodAll_cons_mk ⟨fuel,(qzun hh m fuel).1 t _ d p ss h1 gY fun x hx=>hp x (Bh.2 (.inl hx))⟩ (US hh h2 (fun t ht=>hs t (CG _ ht)) (fun x hx=>hp x (Bh.2 (.inr hx))))
theorem law_contract{N:Nat}{E:Nat->Aa}{f:FuncId}{fn:Func}{s:ChangeSpec}{m:Nat}{tb:TypeId}{laid:List (String×DataW Unit)}{W:World}{base:Nat}{args:Array Value}{ds gs:List (DataW H)}{before:List MemPlace}(fy:∀t∈fn.params.toList,(FQ P m t).isSome=true) (aW:fn.resultTypes=#[tb]) (hb:P.underlying tb=some .bool) (g9:s.vars=[])(f6:∀ds:List (DataW H),ds.length=fn.params.toList.length->s.fn H ds={ results:=[.lit (.bool true)],args:=ds })(jv:∀g:Gh,(∀b,b<W.heap.size->g.fz b)->∀i,RV g W (E i) (.pointer (some ⟨i,0,none⟩)))(hN:maxLen<=N\/DJ ds<=N)(law:∀xs,Kl N P m fn.params.toList xs->Bf E P f xs (.bool true))(bC:∀(j:Nat) t v,fn.params[j]?=some t->args[j]?=some v->Value.okWide P W .any base t v)(hW:DataW.Whole enc P fn.params.toList s.vars false W args.toList ds gs before) :
  Calls P f args W fun e W'=>∃v,e=.returned v/\s.post enc P fn false true false false W args v W':=by
 have mT:=hW;obtain⟨p,q,hA,hV,rfl,cO,cJ⟩:=hW;rw[g9]at hV;obtain⟨rfl,rfl⟩:=trodVars_none hV
 let g:Gh:=⟨fun _=>0,fun _=>0,fun _=>0,fun _=>0,fun _=>0,fun b=>b<W.heap.size⟩
 have hg:∀b,b<W.heap.size->g.fz b:=fun b h=>h;obtain⟨xs,eU,aB⟩:=UR hg (fun j t v h1 h2=>bC j t v (by simpa using h1) (by simpa using h2)) hA fy hN;have HR0:HR E g h0 W:=⟨fun _=>trivial,fun _=>rfl,(by intro i j hi;cases hi),(by intro i hi;cases hi),fun b hb=>hb,jv g hg⟩;have main:=law xs aB h0 g W args.toList HR0 eU;rw[JC]at main;refine main.mono ?_;rintro e W' ⟨g',h',r,v,⟨rfl,rfl⟩,rfl,bN,_,st⟩;cases bN;have hh:∀b,b<W.heap.size->W'.heap[b]?=W.heap[b]?:=fun b hb=>st.keep b hb (by intro i hi;cases hi);have aD:ds.length=fn.params.toList.length:=(trodAll_length hA).2;refine⟨_,rfl,ds,[],_,[],p,[],mT,?_,?_,?_,?_,fun h=>by cases h⟩
 ·rw[List.append_nil,f6 ds aD,aW];exact trodAll_cons_mk (shut_bool hb true) trodAll_mk0
 ·rw[List.append_nil,f6 ds aD];exact US hh hA fy fun x hx=>by simpa using mT.lt x (Bh.2 (.inl hx))
 ·rw[List.append_nil,f6 ds aD,g9];exact rfl
 ·refine⟨st.os,st.output,fun i hi=>?_⟩;rw[hh i hi];cases W.heap[i]? with
  |none=>rfl
  |some o=>cases o<;>first | exact⟨rfl,rfl,rfl,fun _ _=>rfl⟩ | exact .inr ⟨rfl,rfl⟩ | rfl
end
def look:List (Nat×Aa)->Nat->Aa
 |[],_=>.top
 |p :: r,i=>if p.1=i then p.2 else look r i
def tl(m:List (Nat×Aa))(n:Nat):List Aa:=(List.range n).map (look m)
def HD:List (Nat×Aj)->Nat->Aj
 |[],_=>.gone 0
 |p :: r,i=>if p.1=i then p.2 else HD r i
def hl(m:List (Nat×Aj)):Aw:=fun i=>HD m i
theorem CX(m:List (Nat×Aa))(n:Nat):(tl m n).length=n:=by simp[tl]
theorem EB(m:List (Nat×Aa))(n i:Nat):(tl m n)[i]?=if i<n then some (look m i) else none:=by unfold tl;by_cases h:i<n<;>simp[h]
theorem UT(m:List (Nat×Aa))(n i:Nat):(tl m n)[i]?.getD .top=if i<n then look m i else .top:=by rw[EB];split<;>rfl
theorem UU(m:List (Nat×Aa))(n i:Nat):(tl m n).getD i .top=if i<n then look m i else .top:=by rw[JF,UT]
theorem Pm(m:List (Nat×Aa))(n i:Nat)(v:Aa):(tl m n).set i v=tl ((i,v) :: m) n:=by
 apply JE;intro j;rw[J7,CX,EB,EB];by_cases h:i=j
 ·subst h;simp[look]
 ·simp[h,look]
theorem qzih(m:List (Nat×Aj))(i:Nat)(o:Aj):hset (hl m) i o=hl ((i,o) :: m):=by
 funext j;simp only[hset,hl,HD];by_cases h:j=i
 ·subst h;simp
 ·have h':¬i=j:=fun e=>h e.symm;simp[h,h']
theorem qzm4(m:List (Nat×Aj))(i:Nat):hl m i=HD m i:=rfl
def zipA:Nat->List Aa->List (Nat×Aa)
 |_,[]=>[]
 |i,x :: r=>(i,x) :: zipA (i+1) r
theorem UV:∀(l:List Aa) (k i:Nat),look (zipA k l) i=if k<=i then l.getD (i-k) .top else .top
 |[],k,i=>by simp[zipA,look]
 |x :: r,k,i=>by
  have ih:=UV r (k+1) i;simp only[zipA,look];by_cases h:k=i
  ·subst h;simp
  ·rw[Ak h,ih];by_cases h1:k+1<=i
   ·rw[An h1,An (by omega)];obtain⟨d,hd⟩:∃d,i-k=d+1:=⟨i-k-1,by omega⟩;rw[hd,show i-(k+1)=d by omega];rfl
   ·rw[Ak h1,Ak (by omega)]
theorem Pn(l:List Aa)(k:Nat):l++List.replicate k .top=tl (zipA 0 l) (l.length+k):=by
 apply JE;intro i;rw[EB,UV];simp only[Dj,Cn,Nat.sub_zero];by_cases h:i<l.length
 ·rw[Fj h,An (by omega)];simp[h]
 ·rw[GB (by omega),O3];by_cases h2:i<l.length+k
  ·rw[An (by omega),An h2];simp[List.getD,JG (Nat.le_of_not_lt h)]
  ·rw[Ak (by omega),Ak h2]
def Tk(m:List (Nat×Aj))(r:List (Nat×Aj)):Bool:=m.all fun p=>r.any fun q=>q.1==p.1
theorem UW{m:List (Nat×Aj)}{i:Nat}(h:m.all (fun p=>!(p.1==i))=true):HD m i=.gone 0:=by
 induction m with
 |nil=>rfl
 |cons p r ih =>simp only[List.all_cons,AE,FS,beq_eq_false_iff_ne,ne_eq]at h;simp only[HD,Ak h.1];exact ih (by simpa using h.2)
def pick(m:List (Nat×Aa)):List Nat->List (Nat×Aa)
 |[]=>[]
 |i :: r=>(i,look m i) :: pick m r
section
variable {E:Nat->Aa}{P:Program}{ρ:Option Nat}{Q:Exit->Av->Prop}{S:Av}{m m':List (Nat×Aa)}{hm bE:List (Nat×Aj)}{n:Nat}
theorem Pure.ofs{f:FuncId}{fn:Func}{c:Code}{ac:Bb}{args:List Aa}{r:Aa}{rs:List ARes}(hf:P.funcs[f]?=some fn)(hb:fn.body=some c)(hr:Eh P fn.results.toList rs=true)(hc:A8 P c ac=true)(hm:zipA 0 args=m) (hn:fn.ntmps=n) (aE:args.length<=n) (hw:AW E none P ac (Post E rs (fun v _=>v=r)) ⟨tl m n,hl [],[]⟩):Pure E P f args r :=
 .of hf hb hr hc (n-args.length) (by omega) (by rw[Pn,hm,show args.length+(n-args.length)=n by omega];exact hw)
end
theorem qzfa{l:List Aa}:Cv (.agg l)=some l:=rfl
theorem qzeu{k:IntKind}{n:Int}:Cv (.int k n)=some [(.int k n)]:=rfl
theorem qzdp{b:Bool}:Cv (.bool b)=some [(.bool b)]:=rfl
theorem qzey{s:List UInt8}:Cv (.str s)=some [(.str s)]:=rfl
theorem qzd2 :Cv .nils=some [.nils]:=rfl
theorem qze5{st n:Nat}{f:Nat->List Aa}:Cv (.slc st n f)=some [(.slc st n f)]:=rfl
theorem qzfk{i e o n:Nat}:Cv (.vec i e o n)=some [(.vec i e o n)]:=rfl
theorem qze7{i e o:Nat}:Cv (.ptr i e o)=some [(.ptr i e o)]:=rfl
theorem qzdi{i e k o:Nat}:Cv (.eptr i e k o)=some [(.eptr i e k o)]:=rfl
theorem qzdk{f:Nat->Aa}{l o:Nat}:Cv (.cptr f l o)=some [(.cptr f l o)]:=rfl
theorem qzd0 :Cv .nilp=some [.nilp]:=rfl
theorem qzgy{f:FuncId}{nb:Nat}{l:List Aa}:Cv (.fn f nb l)=some [(.fn f nb l)]:=rfl
theorem qzcq :Cv .nilfn=some [.nilfn]:=rfl
theorem qzg5{i e:Nat}:Cv (.mp i e)=some [(.mp i e)]:=rfl
theorem qzc6 :Cv .nilmp=some [.nilmp]:=rfl
end Go.Am

