/- Part A4: an abstract machine proved sound over the calculus of the guide. No condition. -/
import Derived.Test.YtibbibelkkgfpaaGreatDoorA3
import Derived.ProofKit
import Derived.OpenShut
import Derived.Deep.DeepHandedRow
import Derived.Lib.LaidTab
import Derived.ChangeCalls
set_option linter.unusedSimpArgs false
set_option linter.unusedVariables false
namespace Go.Am
variable {c t d held:Bool}{α H:Type}{x y r:Aa}{a:Addr}{ops:List Ak}{pr:List (List Nat)}{f:FuncId}{fn:Func}{args l xs:List Aa}{h h':Aq}{R:Aa->Aq->Prop}{st n nb o i e N st' n' e' B:Nat}{g gx:Gh}{w:World}{v:Value}{E:Nat->Aa}{P:Program}{k:IntKind}{s:List UInt8}{S:Au}{Q:Exit->Au->Prop}{K:Aa->List Nat->Prop}{F:List Nat}{cs:List Value}{m hm hm':List (Nat×Ad)}{f':Nat->List Aa}{m':List (Nat×Aa)}
inductive AO where
 |skip
 |reg (draw:Bool) (ops:List Ak) (preds:List (List Nat))
 |seq (a b:AO)
 |cond (c:Ae) (a b:AO)
 |block (id:Nat) (c:AO)
 |loop (c:AO)
 |ret
 |exit (id:Nat)
 |scope (c:AO)
 |label (l:Nat)
 |any
variable {b ac:AO}
def AH(P:Program):Code->AO->Bool
 |.skip,.skip=>true
 |.region _ ops false,.reg false m _=>HW P ops ops.toList m
 |.region _ ops true,.reg true m preds=>HW P ops ops.toList m&&LE ops.toList preds&&HZ 0 ops.toList&&LF m preds&&P.follows .mixedOrders
 |.seq a b,.seq a' b'=>AH P a a'&&AH P b b'
 |.cond c a b,.cond c' a' b'=>A7 c c'&&AH P a a'&&AH P b b'
 |.block id c,.block id' c'=>id==id'&&AH P c c'
 |.loop c,.loop c'=>AH P c c'
 |.ret,.ret=>true
 |.exit id,.exit id'=>id==id'
 |.scope c,.scope c'=>AH P c c'
 |.label l,.label l'=>l==l'
 |_,.any=>true
 |_,_=>false
def AW(E:Nat->Aa)(ρ:Option Nat)(P:Program)(c:AO)(Q:Exit->Au->Prop)(S:Au):Prop:=∀code,AH P code c=true->AWp E ρ P code Q S
section
variable {ρ:Option Nat}
theorem AW.mono{c:AO}{Q':Exit->Au->Prop}(h:AW E ρ P c Q S)(hq:∀e S',Q e S'->Q' e S'):AW E ρ P c Q' S:=fun code hc=>(h code hc).mono hq
theorem AW.see{c:AO}{S':Au}(s:See E S S')(h:AW E ρ P c Q S'):AW E ρ P c Q S:=fun code hc=>(h code hc).see s
theorem AW.skip(h:Q .normal S):AW E ρ P .skip Q S:=by
 intro code hc;cases code<;>simp only[AH]at hc<;>first|exact .skip h|(cases hc;done)|skip
 all_goals (split at hc<;>cases hc)
theorem AW.ret(h:Q .ret S):AW E ρ P .ret Q S:=by
 intro code hc;cases code<;>simp only[AH]at hc<;>first|exact .ret h|(cases hc;done)|skip
 all_goals (split at hc<;>cases hc)
theorem AW.exit{id:Nat}(h:Q (.exit id) S):AW E ρ P (.exit id) Q S:=by
 intro code hc;cases code<;>simp only[AH]at hc<;>(try (cases hc;done))
 case exit id'=>simp only[Bu]at hc;subst hc;exact .exit h
 all_goals (split at hc<;>cases hc)
theorem AW.seq{a b:AO}(h:AW E ρ P a (Ay (AW E ρ P b Q) Q) S):AW E ρ P (.seq a b) Q S:=by
 intro code hc;cases code<;>simp only[AH]at hc<;>(try (cases hc;done))
 case seq x y =>
  simp only[AI]at hc;refine .seq ((h x hc.1).mono ?_);intro e S' q;cases e with
  |normal=>exact q y hc.2
  |_=>exact q
 all_goals (split at hc<;>cases hc)
theorem AW.block{id:Nat}{c:AO}(h:AW E ρ P c (ablk id Q) S):AW E ρ P (.block id c) Q S:=by
 intro code hc;cases code<;>simp only[AH]at hc<;>(try (cases hc;done))
 case block id' x =>simp only[AI,Bu]at hc;obtain⟨rfl,hc⟩:=hc;exact .block (h x hc)
 all_goals (split at hc<;>cases hc)
theorem AW.scope{c:AO}(h:AW E ρ P c (O1 Q) S):AW E ρ P (.scope c) Q S:=by
 intro code hc;cases code<;>simp only[AH]at hc<;>(try (cases hc;done))
 case scope x=>exact .scope (h x hc)
 all_goals (split at hc<;>cases hc)
theorem AW.label{l:Nat}(h:Q .normal S):AW E ρ P (.label l) Q S:=by
 intro code hc;cases code<;>simp only[AH]at hc<;>(try (cases hc;done))
 case label x=>exact .label h
 all_goals (split at hc<;>cases hc)
theorem AW.loop{c:AO}(inv:α->Au)(Z:α->Nat)(I:α->Prop)(x₀:α)(h₀:I x₀)(s₀:See E S (inv x₀))(round:∀x,I x->AW E ρ P c (Ay (fun S'=>∃x',I x'/\Z x'<Z x/\See E S' (inv x')) Q) (inv x)):AW E ρ P (.loop c) Q S:=by
 intro code hc;cases code<;>simp only[AH]at hc<;>(try (cases hc;done))
 case loop x=>exact .loop' inv Z I x₀ h₀ s₀ (fun y hy=>round y hy x hc)
 all_goals (split at hc<;>cases hc)
theorem AWp.cond'{c:Operand}{c':Ae}{x y:Code}(hk:A7 c c'=true)(hc:Ah E S.t c'=.bool t)(ht:t=true->AWp E ρ P x Q S)(hf:t=false->AWp E ρ P y Q S):AWp E ρ P (.cond c x y) Q S:=by intro g a w hs;have rx:=AY hs.hr hs.tm hk;rw[hc]at rx;exact wpIn_cond_split (Df rx) (fun e=>ht e g a w hs) (fun e=>hf e g a w hs)
theorem AW.cond{c:Ae}{a:AO}(hc:Ah E S.t c=.bool t)(ht:t=true->AW E ρ P a Q S)(hf:t=false->AW E ρ P b Q S):AW E ρ P (.cond c a b) Q S:=by
 intro code hk;cases code<;>simp only[AH]at hk<;>(try (cases hk;done))
 case cond c' x y =>simp only[AI]at hk;exact .cond' hk.1.1 hc (fun e=>ht e x hk.1.2) (fun e=>hf e y hk.2)
 all_goals (split at hk<;>cases hk)
theorem AW.reg(h:areg E P ops S (Q .normal)):AW E ρ P (.reg false ops pr) Q S:=by
 intro code hc
 match code,hc with
 |.region id l true,hc=>simp[AH]at hc
 |.region id l false,hc=>exact .region (by simpa [AH] using hc) h
 |.skip,hc=>simp[AH]at hc
 |.seq _ _,hc=>simp[AH]at hc
 |.cond _ _ _,hc=>simp[AH]at hc
 |.block _ _,hc=>simp[AH]at hc
 |.loop _,hc=>simp[AH]at hc
 |.rangeFunc _ _ _ _,hc=>simp[AH]at hc
 |.exit _,hc=>simp[AH]at hc
 |.scope _,hc=>simp[AH]at hc
 |.label _,hc=>simp[AH]at hc
 |.goto _,hc=>simp[AH]at hc
 |.ret,hc=>simp[AH]at hc
 |.refuse _,hc=>simp[AH]at hc
theorem AW.sreg(h:SReg E P ops S (Q .normal)):AW E ρ P (.reg false ops pr) Q S:=by
 intro code hc
 match code,hc with
 |.region id l true,hc=>simp[AH]at hc
 |.region id l false,hc=>exact .sregion (by simpa [AH] using hc) h
 |.skip,hc=>simp[AH]at hc
 |.seq _ _,hc=>simp[AH]at hc
 |.cond _ _ _,hc=>simp[AH]at hc
 |.block _ _,hc=>simp[AH]at hc
 |.loop _,hc=>simp[AH]at hc
 |.rangeFunc _ _ _ _,hc=>simp[AH]at hc
 |.exit _,hc=>simp[AH]at hc
 |.scope _,hc=>simp[AH]at hc
 |.label _,hc=>simp[AH]at hc
 |.goto _,hc=>simp[AH]at hc
 |.ret,hc=>simp[AH]at hc
 |.refuse _,hc=>simp[AH]at hc
theorem AW.draw(h:dreg E P ops S (fun S' tr=>hpOk pr tr=true/\Q .normal S')):AW E ρ P (.reg true ops pr) Q S:=by
 intro code hc
 match code,hc with
 |.region id l false,hc=>simp[AH]at hc
 |.region id l true,hc =>simp only[AH,AI]at hc;exact .drawn hc.1.1.1.1 hc.1.1.1.2 hc.1.1.2 hc.1.2 hc.2 h
 |.skip,hc=>simp[AH]at hc
 |.seq _ _,hc=>simp[AH]at hc
 |.cond _ _ _,hc=>simp[AH]at hc
 |.block _ _,hc=>simp[AH]at hc
 |.loop _,hc=>simp[AH]at hc
 |.rangeFunc _ _ _ _,hc=>simp[AH]at hc
 |.exit _,hc=>simp[AH]at hc
 |.scope _,hc=>simp[AH]at hc
 |.label _,hc=>simp[AH]at hc
 |.goto _,hc=>simp[AH]at hc
 |.ret,hc=>simp[AH]at hc
 |.refuse _,hc=>simp[AH]at hc
theorem AW.drawC(h:G7 E P ops S (fun S' tr=>Fy ops pr tr=true/\Q .normal S')):AW E ρ P (.reg true ops pr) Q S:=by
 intro code hc
 match code,hc with
 |.region id l false,hc=>simp[AH]at hc
 |.region id l true,hc =>simp only[AH,AI]at hc;exact .drawnT hc.1.1.1.1 hc.1.1.1.2 hc.1.1.2 hc.1.2 hc.2 (U8 _ _ _ h)
 |.skip,hc=>simp[AH]at hc
 |.seq _ _,hc=>simp[AH]at hc
 |.cond _ _ _,hc=>simp[AH]at hc
 |.block _ _,hc=>simp[AH]at hc
 |.loop _,hc=>simp[AH]at hc
 |.rangeFunc _ _ _ _,hc=>simp[AH]at hc
 |.exit _,hc=>simp[AH]at hc
 |.scope _,hc=>simp[AH]at hc
 |.label _,hc=>simp[AH]at hc
 |.goto _,hc=>simp[AH]at hc
 |.ret,hc=>simp[AH]at hc
 |.refuse _,hc=>simp[AH]at hc
theorem ATr.of{c:Code}{rs:List ARes}(hf:P.funcs[f]?=some fn)(hb:fn.body=some c)(hr:D7 P fn.results.toList rs=true)(hc:AH P c ac=true)(n:Nat) (hn:fn.ntmps-args.length=n) (hw:AW E none P ac (Post E rs R) ⟨args++List.replicate n .top,h,[]⟩):ATr E P f args h R :=
 .of_body hf hb hr (by subst hn;exact hw c hc)
end
inductive AE:Aa->Prop where
 |top:AE .top
 |int (k:IntKind) (n:Int):AE (.int k n)
 |bool (b:Bool):AE (.bool b)
 |str (s:List UInt8):AE (.str s)
 |agg (l:List Aa) (h:∀x,x∈l->AE x):AE (.agg l)
 |tup (l:List Aa) (h:∀x,x∈l->AE x):AE (.tup l)
 |nils:AE .nils
 |slc (st n:Nat) (f:Nat->List Aa) (h:∀i x,i<n->x∈f i->AE x):AE (.slc st n f)
 |cptr (f:Nat->Aa) (lim off:Nat) (h:∀j,j<lim->AE (f j)):AE (.cptr f lim off)
 |nilp:AE .nilp
 |fn (f:FuncId) (nb:Nat) (l:List Aa) (h:∀x,x∈l->AE x):AE (.fn f nb l)
 |nilfn:AE .nilfn
 |nilmp:AE .nilmp
 |cnd (c:Bool) (x:Aa) (h:AE x):AE (.cnd c x)
theorem kzi:AE (.agg l)↔∀x,x∈l->AE x:=⟨fun h=>by cases h;assumption,.agg l⟩
theorem kzk:AE (.tup l)↔∀x,x∈l->AE x:=⟨fun h=>by cases h;assumption,.tup l⟩
theorem wzer{f:Nat->List Aa}:AE (.slc st n f)↔∀i x,i<n->x∈f i->AE x:=⟨fun h=>by cases h;assumption,.slc st n f⟩
theorem kz8:AE (.fn f nb l)↔∀x,x∈l->AE x:=⟨fun h=>by cases h;assumption,.fn f nb l⟩
theorem RV.reghost(hf:∀b,g.fz b->gx.fz b)(h:RV g w x v)(hn:AE x):RV gx w x v:=by
 induction h with
 |top v=>exact .top v
 |int k n=>exact .int k n
 |bool b=>exact .bool b
 |str s b h=>exact .str s b h
 |agg l a hl _ ih=>exact .agg l a hl fun i x v hx hv=>ih i x v hx hv (kzi.1 hn x (AG hx))
 |tup l a hl _ ih=>exact .tup l a hl fun i x v hx hv=>ih i x v hx hv (kzk.1 hn x (AG hx))
 |nils=>exact .nils
 |slc0 st f a cap=>exact .slc0 st f a cap
 |slc st n f b off cap vals hz aG hl hc h1 _ ih =>exact .slc st n f b off cap vals (hf b hz) aG hl hc h1 fun i j x hi hx=>ih i j x hi hx (wzer.1 hn i x hi (AG hx))
 |vec=>cases hn
 |ptr=>cases hn
 |eptr=>cases hn
 |cptr f lim off b base vals hz hc _ ih =>
  cases hn with
  |cptr _ _ _ hn=>exact .cptr f lim off b base vals (hf b hz) hc fun j hj=>ih j hj (hn j hj)
 |nilp=>exact .nilp
 |fn f nb caps a hl _ ih=>exact .fn f nb caps a hl fun i x v hx hv=>ih i x v hx hv (kz8.1 hn x (AG hx))
 |nilfn=>exact .nilfn
 |mp=>cases hn
 |nilmp=>exact .nilmp
 |cnd c x v _ h0 ih =>
  cases hn with
  |cnd _ _ hn=>exact .cnd c x v (fun e=>ih e hn) h0
def h0:Aq:=fun _=>.gone 0
def Pure(E:Nat->Aa)(P:Program)(f:FuncId)(args:List Aa)(r:Aa):Prop:=ATr E P f args h0 (fun v _=>v=r)
theorem Pure.any(H:Pure E P f args r)(hE:∀i,AE (E i))(ha:∀x,x∈args->AE x)(hr:AE r)(h:Aq) :
  ATr E P f args h (fun v h'=>v=r/\h'=h):=by
 intro g w vs hh hv
 let g0:Gh:=⟨fun _=>0,fun _=>0,fun _=>0,fun _=>0,fun _=>0,g.fz⟩
 have H0:HR E g0 h0 w:=⟨fun _=>trivial,fun _=>rfl,(by intro i j hi;cases hi),(by intro i hi;cases hi),hh.fzb,fun i=>(hh.glob i).reghost (g:=g) (gx:=g0) (fun _ h=>h) (hE i)⟩;refine(H g0 w vs H0 ⟨hv.1,fun i x v hx hy=>(hv.2 i x v hx hy).reghost (g:=g) (gx:=g0) (fun _ h=>h) (ha x (AG hx))⟩).mono ?_;rintro e w' ⟨g',h',_,v,rfl,rfl,bB,hH,st⟩
 have fh:∀b,g'.fz b->g.fz b\/w.heap.size<=b:=fun b hb=>by
  rcases st.fzn b hb with h1|⟨j,hj,_⟩|h3
  ·exact .inl h1
  ·cases hj
  ·exact .inr h3
 have bH:∀b,b<w.heap.size->w'.heap[b]?=w.heap[b]?:=fun b hb=>st.keep b hb (by intro i hi;cases hi)
 let g2:Gh:=⟨g.blk,g.ep,g.bo,g.st,g.cp,g'.fz⟩
 have aC:GLe g w g2 w':=⟨fun b hb=>⟨(st.le.fz b hb).1,bH b (hh.fzb b hb)⟩,fun _=>AA _,fun _ _=>⟨rfl,rfl,rfl,rfl⟩⟩;refine⟨g2,h,_,v,⟨rfl,rfl⟩,rfl,bB.reghost (g:=g') (gx:=g2) (fun _ h=>h) hr,?_,⟨aC,st.os,st.tape,st.output,st.size,fun b hb _=>bH b hb,fun i ho=>.inl ⟨i,ho,rfl⟩,fun b hb=>?_,st.drawn⟩⟩
 ·refine⟨fun i=>(hh.obj i).mono aC rfl fun ho=>bH _ ((hh.obj i).lt ho),hh.ep,hh.inj,fun i hi hf=>?_,hH.fzb,fun i=>(hh.glob i).mono aC⟩;rcases fh _ hf with h1|h1
  ·exact hh.sep i hi h1
  ·have:g.blk i<w.heap.size:=(hh.obj i).lt hi;have e:g2.blk i=g.blk i:=rfl;omega
 ·rcases fh b hb with h1|h1;·exact .inl h1
  ·exact .inr (.inr h1)
theorem kzh{n:Int}:AE (.int k n):=.int k n
theorem jzu{b:Bool}:AE (.bool b):=.bool b
theorem kzl:AE (.str s):=.str s
section
variable {ρ:Option Nat}
theorem Post.here{rs:List ARes}(aB:HX S rs)(d6:S.ds=[])(hR:R (HY S rs) S.h):Post E rs R .ret S := ⟨S,.refl S,aB,S.h,fun i=>.refl _,(by rw[d6];intro D hD;cases hD),hR⟩
theorem Post.pure{rs:List ARes}(aB:HX S rs)(hR:HY S rs=r):Post E rs (fun v _=>v=r) .ret S := ⟨S,.refl S,aB,fun i=>.gone (S.h i).ep,fun i=>.inl rfl,fun D _=>⟨_,rfl⟩,hR⟩
theorem AW.retp{rs:List ARes}(hq:Q .ret=Post E rs (fun v _=>v=r) .ret)(aB:HX S rs)(hR:HY S rs=r):AW E ρ P .ret Q S :=
 .ret (by rw[hq];exact .pure aB hR)
theorem AW.rets{rs:List ARes}{S':Au}(hq:Q .ret=Post E rs (fun v _=>v=r) .ret)(s:See E S S')(aB:HX S' rs)(hR:HY S' rs=r):AW E ρ P .ret Q S :=
 .see s (.retp hq aB hR)
theorem Bi.pure(v:Aa)(H:AK E P f args v)(k:K v []):Bi E P f args h K:=⟨v,[],H.on h [],k⟩
theorem Co.pure{t:List Aa}{xs:List Ae}(v:Aa)(hu:c=true->BT c t xs)(H:c=true->AK E P f args v)(k:K (.cnd c v) []):Co E P c t xs f args h K:=⟨v,[],fun e=>⟨hu e,(H e).on h []⟩,k⟩
theorem AK.call(H:AK E P f args r){K:Aa->Aq->Prop}(k:K r h):ATr E P f args h K := (H h).mono (by rintro _ _ ⟨rfl,rfl⟩;exact k)
theorem Pure.still(H:Pure E P f args r)(hE:∀i,AE (E i))(ha:∀x,x∈args->AE x)(hr:AE r):AK E P f args r:=H.any hE ha hr
theorem Pure.of{f:FuncId}{fn:Func}{c:Code}{ac:AO}{args:List Aa}{r:Aa}{rs:List ARes}(hf:P.funcs[f]?=some fn)(hb:fn.body=some c)(hr:D7 P fn.results.toList rs=true)(hc:AH P c ac=true)(n:Nat) (hn:fn.ntmps-args.length=n) (hw:AW E none P ac (Post E rs (fun v _=>v=r)) ⟨args++List.replicate n .top,h0,[]⟩):Pure E P f args r :=
 ATr.of hf hb hr hc n hn hw
end
def fz1(id:Nat)(o:Ad):Aa->Aa
 | .ptr i ep off=>if i=id then(match o with
  |.box ep' cs=>if ep=ep' then .cptr (fun k=>cs.getD k .top) cs.length off else .top
  | _=>.top) else .ptr i ep off
 | .vec i ep lo n=>if i=id then(match o with
  |.vec ep' st m f=>if ep=ep'/\lo+n<=m then .slc st n (fun k=>f (lo+k)) else .top
  | _=>.top) else .vec i ep lo n
 |x=>x
mutual
def fzv(id:Nat)(o:Ad):Aa->Aa
 |.agg l=>.agg (fzl id o l)
 |.tup l=>.tup (fzl id o l)
 |.fn f nb l=>.fn f nb (fzl id o l)
 |.cnd c x=>.cnd c (fzv id o x)
 |x=>fz1 id o x
def fzl(id:Nat)(o:Ad):List Aa->List Aa
 |[]=>[]
 |x :: l=>fzv id o x :: fzl id o l
end
theorem U9(id:Nat)(o:Ad)(x:Aa):FV id o x (fz1 id o x):=by
 unfold fz1;split
 ·split
  ·rename_i e;subst e;split
   ·split;·rename_i e;subst e;exact .box _ _ _ _ rfl fun _ _=>rfl
    ·exact .top _
   ·exact .top _
  ·exact .refl _
 ·split
  ·rename_i e;subst e;split
   ·split;·rename_i e;obtain⟨rfl,e⟩:=e;exact .vec _ _ _ _ _ _ _ rfl e fun _ _=>rfl
    ·exact .top _
   ·exact .top _
  ·exact .refl _
 ·exact .refl _
mutual
theorem UA(id:Nat)(o:Ad):∀x,FV id o x (fzv id o x)
 |.agg l=>.aggl (G8 id o l)
 |.tup l=>.tupl (G8 id o l)
 |.fn f nb l=>.fn _ _ _ _ (G8 id o l).at.1 (G8 id o l).at.2
 |.cnd c x=>.cnd _ _ _ (UA id o x)
 |.top=>.refl _
 |.int _ _=>.refl _
 |.bool _=>.refl _
 |.str _=>.refl _
 |.nils=>.refl _
 |.slc _ _ _=>.refl _
 |.vec i ep lo n=>U9 id o (.vec i ep lo n)
 |.ptr i ep off=>U9 id o (.ptr i ep off)
 |.eptr _ _ _ _=>.refl _
 |.cptr _ _ _=>.refl _
 |.nilp=>.refl _
 |.nilfn=>.refl _
 |.mp _ _=>.refl _
 |.nilmp=>.refl _
theorem G8(id:Nat)(o:Ad):∀l,FVl id o l (fzl id o l)
 |[]=>trivial
 |x :: l=>⟨UA id o x,G8 id o l⟩
end
def fzo(id:Nat)(o:Ad):Ad->Ad
 |.box e l=>.box e (fzl id o l)
 |x=>x
section
variable {ρ:Option Nat}
theorem See.fzc(id:Nat)(aU:(S.h id).owned=true)(cj:(S.h id).plain):See E S ⟨fzl id (S.h id) S.t,hset (fun j=>fzo id (S.h id) (S.h j)) id (.gone ((S.h id).ep+1)),S.ds⟩ :=
 .freeze (o:=S.h id) rfl aU cj (by simp[hset]) (fun j hj=>by simp only[hset,hj,CG];cases hh:S.h j<;>simp only[fzo]<;>first|exact .inl rfl|exact .inr (.inl ⟨_,_,_,rfl,rfl,G8 _ _ _⟩)) (G8 _ _ _) rfl
theorem AW.fzc{c:AO}(id:Nat)(aU:(S.h id).owned=true)(cj:(S.h id).plain)(h:AW E ρ P c Q ⟨fzl id (S.h id) S.t,hset (fun j=>fzo id (S.h id) (S.h j)) id (.gone ((S.h id).ep+1)),S.ds⟩):AW E ρ P c Q S:=.see (.fzc id aU cj) h
end
inductive BQ(F:List Nat):Aa->Prop where
 |top:BQ F .top
 |int (k:IntKind) (n:Int):BQ F (.int k n)
 |bool (b:Bool):BQ F (.bool b)
 |str (s:List UInt8):BQ F (.str s)
 |agg (l:List Aa) (h:∀x,x∈l->BQ F x):BQ F (.agg l)
 |tup (l:List Aa) (h:∀x,x∈l->BQ F x):BQ F (.tup l)
 |nils:BQ F .nils
 |slc (st n:Nat) (f:Nat->List Aa) (h:∀i x,i<n->x∈f i->BQ F x):BQ F (.slc st n f)
 |vec (id ep lo n:Nat) (h:id∈F):BQ F (.vec id ep lo n)
 |ptr (id ep off:Nat) (h:id∈F):BQ F (.ptr id ep off)
 |eptr (id ep i off:Nat) (h:id∈F):BQ F (.eptr id ep i off)
 |mp (id ep:Nat) (h:id∈F):BQ F (.mp id ep)
 |cptr (f:Nat->Aa) (lim off:Nat) (h:∀j,j<lim->BQ F (f j)):BQ F (.cptr f lim off)
 |nilp:BQ F .nilp
 |fn (f:FuncId) (nb:Nat) (l:List Aa) (h:∀x,x∈l->BQ F x):BQ F (.fn f nb l)
 |nilfn:BQ F .nilfn
 |nilmp:BQ F .nilmp
 |cnd (c:Bool) (x:Aa) (h:BQ F x):BQ F (.cnd c x)
structure GAg(F:List Nat)(g gx:Gh):Prop where
 fz:∀b,g.fz b->gx.fz b
 pl:∀i,i∈F->gx.blk i=g.blk i/\gx.ep i=g.ep i/\gx.bo i=g.bo i/\gx.st i=g.st i/\gx.cp i=g.cp i
theorem Gw.ag{id lo:Nat}(h:gx.blk id=g.blk id/\gx.ep id=g.ep id/\gx.bo id=g.bo id/\gx.st id=g.st id/\gx.cp id=g.cp id)(hv:Gw g id lo n v):Gw gx id lo n v:=by obtain⟨h1,_,h3,h4,h5⟩:=h;obtain⟨a,cap,e,hc,hh⟩:=hv;exact⟨a,cap,e,hc,by rw[h1,h3,h4,h5];exact hh⟩
theorem RV.ag{F:List Nat}{g gx:Gh}{w:World}(hA:GAg F g gx){x:Aa}{v:Value}(h:RV g w x v)(hn:BQ F x):RV gx w x v:=by
 induction h with
 |top v=>exact .top v
 |int k n=>exact .int k n
 |bool b=>exact .bool b
 |str s b h=>exact .str s b h
 |agg l a hl _ ih=>cases hn with | agg _ hn=>exact .agg l a hl fun i x v hx hv=>ih i x v hx hv (hn x (AG hx))
 |tup l a hl _ ih=>cases hn with | tup _ hn=>exact .tup l a hl fun i x v hx hv=>ih i x v hx hv (hn x (AG hx))
 |nils=>exact .nils
 |slc0 st f a cap=>exact .slc0 st f a cap
 |slc st n f b off cap vals hz aG hl hc h1 _ ih =>cases hn with | slc _ _ _ hn=>exact .slc st n f b off cap vals (hA.fz b hz) aG hl hc h1 fun i j x hi hx=>ih i j x hi hx (hn i x hi (AG hx))
 |vec id ep lo n v h1 he h =>cases hn with | vec _ _ _ _ hm =>have ha:=hA.pl id hm;exact .vec id ep lo n v h1 (by rw[ha.2.1];exact he) fun e=>(h (by rw[<-ha.2.1];exact e)).ag ha
 |ptr id ep off v h1 he h =>cases hn with | ptr _ _ _ hm =>have ha:=hA.pl id hm;exact .ptr id ep off v h1 (by rw[ha.2.1];exact he) fun e=>by rw[ha.1];exact h (by rw[<-ha.2.1];exact e)
 |eptr id ep i off v h1 he h =>cases hn with | eptr _ _ _ _ hm =>have ha:=hA.pl id hm;exact .eptr id ep i off v h1 (by rw[ha.2.1];exact he) fun e=>by rw[ha.1,ha.2.2.1,ha.2.2.2.1];exact h (by rw[<-ha.2.1];exact e)
 |cptr f lim off b base vals hz hc _ ih =>cases hn with | cptr _ _ _ hn=>exact .cptr f lim off b base vals (hA.fz b hz) hc fun j hj=>ih j hj (hn j hj)
 |nilp=>exact .nilp
 |fn f nb caps a hl _ ih=>cases hn with | fn _ _ _ hn=>exact .fn f nb caps a hl fun i x v hx hv=>ih i x v hx hv (hn x (AG hx))
 |nilfn=>exact .nilfn
 |mp id ep v h1 he h =>cases hn with | mp _ _ hm =>have ha:=hA.pl id hm;exact .mp id ep v h1 (by rw[ha.2.1];exact he) fun e=>by rw[ha.1];exact h (by rw[<-ha.2.1];exact e)
 |nilmp=>exact .nilmp
 |cnd c x v _ h0 ih=>cases hn with | cnd _ _ hn=>exact .cnd c x v (fun e=>ih e hn) h0
theorem RVs.ag{F:List Nat}{g gx:Gh}{w:World}(hA:GAg F g gx){l:List Aa}{a:List Value}(h:RVs g w l a)(hn:∀x,x∈l->BQ F x):RVs gx w l a := ⟨h.1,fun i x v hx hv=>(h.2 i x v hx hv).ag hA (hn x (AG hx))⟩
def LH(F:List Nat):Ad->Prop
 |.gone _=>True
 |.box _ cs=>∀x,x∈cs->BQ F x
 |.vec _ _ n f=>∀k x,k<n->x∈f k->BQ F x
 |.amap _ es=>∀e,e∈es->BQ F e.1/\BQ F e.2
 |_=>False
theorem OR.ag{F:List Nat}{g gx:Gh}{w:World}(hA:GAg F g gx){i:Nat}(hi:i∈F){o:Ad}(h:OR g w i o)(hn:LH F o):OR gx w i o:=by
 have ha:=hA.pl i hi;cases o with
 |gone e=>trivial
 |box e cs =>obtain⟨arr,ty,hb,hr⟩:=h;exact⟨arr,ty,by rw[ha.1];exact hb,hr.ag hA hn⟩
 |vec e st n f =>
  obtain⟨h1,h2,h3,arr,ty,hb,hf,aS⟩:=h
  exact⟨ha.2.2.2.1.trans h1,h2,by rw[ha.2.2.2.2];exact h3,arr,ty,by rw[ha.1];exact hb,by rw[ha.2.2.1,ha.2.2.2.2];exact hf,
   fun k hk=>⟨(aS k hk).1,fun j x v hx hv=>⟨((aS k hk).2 j x v hx (by rw[<-ha.2.2.1];exact hv)).1,((aS k hk).2 j x v hx (by rw[<-ha.2.2.1];exact hv)).2.ag hA (hn k x hk (AG hx))⟩⟩⟩
 |amap e es =>obtain⟨arr,hb,hs,aS⟩:=h;exact⟨arr,by rw[ha.1];exact hb,hs,fun k x m hx hm=>⟨(aS k x m hx hm).1.ag hA (hn x (AG hx)).1,(aS k x m hx hm).2.1.ag hA (hn x (AG hx)).2,(aS k x m hx hm).2.2⟩⟩
 |_=>cases hn
theorem AE.refs(h:AE x):BQ F x:=by
 induction h with
 |top=>exact .top
 |int k n=>exact .int k n
 |bool b=>exact .bool b
 |str s=>exact .str s
 |agg l _ ih=>exact .agg l ih
 |tup l _ ih=>exact .tup l ih
 |nils=>exact .nils
 |slc st n f _ ih=>exact .slc st n f ih
 |cptr f lim off _ ih=>exact .cptr f lim off ih
 |nilp=>exact .nilp
 |fn f nb l _ ih=>exact .fn f nb l ih
 |nilfn=>exact .nilfn
 |nilmp=>exact .nilmp
 |cnd c x _ ih=>exact .cnd c x ih
section
variable {ρ:Option Nat}{S1:Au}
theorem EJ.mono{c:Bool}{t:List Aa}{h:Aq}{ds:List (Nat×Nat)}{xs:List Ae}{f:FuncId}{args:List Aa}{K K':Aa->Aq->Prop}(H:EJ E P c t h ds xs f args K)(k:∀v h',K v h'->K' v h'):EJ E P c t h ds xs f args K':=by
 rcases H with ⟨v,h1,h2⟩|⟨h1,h2⟩
 ·exact .inl ⟨v,h1,k _ _ h2⟩
 ·exact .inr ⟨fun e=>⟨(h1 e).1,(h1 e).2.mono fun v h' hk=>⟨hk.1,k _ _ hk.2⟩⟩,fun e=>k _ _ (h2 e)⟩
theorem G4.mono{K K':Aa->Aq->Prop}(H:G4 x h K)(k:∀v h',K v h'->K' v h'):G4 x h K':=by
 unfold G4 at H |-;split at H
 ·split at H
  ·split at H;·exact⟨H.1,H.2.1,H.2.2.1,fun i hi hs=>k _ _ (H.2.2.2.1 i hi hs),fun hs=>k _ _ (H.2.2.2.2 hs)⟩
   ·exact H
  ·exact⟨H.1,k _ _ H.2⟩
  ·exact H
 ·exact H
theorem aop.mono{o:Ak}{K K':Au->Prop}(H:aop E P o S K)(k:∀S',K S'->K' S'):aop E P o S K':=by
 unfold aop at H |-;split at H
 ·split at H;·exact H.mono fun v h' hk=>⟨hk.1,k _ hk.2⟩
  ·split at H;·exact⟨H.1,H.2.mono fun v h' hk=>⟨hk.1,k _ hk.2⟩⟩
   ·exact H
  ·exact H.mono fun v h' hk=>k _ hk
  ·exact⟨H.1,k _ H.2⟩
 ·split at H;·exact H
  ·split at H;·exact H.mono fun v h' hk=>k _ hk
   ·refine⟨fun e=>k _ (H.1 e),fun e=>?_⟩;have H2:=H.2 e;split at H2
    ·exact⟨H2.1,H2.2.mono fun v h' hk=>k _ hk⟩
    ·exact H2
   ·exact H
   ·exact⟨H.1,H.2.1,k _ H.2.2⟩
theorem areg.mono:∀{l:List Ak} {S:Au} {K K':Au->Prop},areg E P l S K->(∀S',K S'->K' S')->areg E P l S K'
 |[],S,K,K',H,k=>k _ H
 |o :: r,S,K,K',H,k=>aop.mono (H:aop E P o S (fun S'=>areg E P r S' K)) fun S' h'=>areg.mono h' k
theorem dop.mono{o:Ak}{K K':Aa->List Nat->Option (Nat×Ad)->Prop}(H:dop E P o S K)(k:∀v rd out,K v rd out->K' v rd out):dop E P o S K':=by
 unfold dop at H |-;split at H
 ·split at H;·obtain⟨v,rd,h1,h2⟩:=H;exact⟨v,rd,h1,k _ _ _ h2⟩
  ·split at H;·obtain⟨he,v,rd,h1,h2⟩:=H;exact⟨he,v,rd,h1,k _ _ _ h2⟩
   ·exact H
  ·exact⟨H.1,k _ _ _ H.2⟩
 ·split at H;·exact H
  ·split at H;·obtain⟨v,rd,h1,h2⟩:=H;exact⟨v,rd,h1,k _ _ _ h2⟩
   ·refine⟨fun e=>k _ _ _ (H.1 e),fun e=>?_⟩;have H2:=H.2 e;split at H2
    ·obtain⟨he,v,rd,h1,h2⟩:=H2;exact⟨he,v,rd,h1,k _ _ _ h2⟩
    ·exact H2
   ·exact⟨H.1,H.2.1,k _ _ _ H.2.2⟩
theorem dreg.mono:∀{l:List Ak} {S:Au} {K K':Au->List (List Nat×Option Nat)->Prop},dreg E P l S K->(∀S' tr,K S' tr->K' S' tr)->dreg E P l S K'
 |[],S,K,K',H,k=>k _ _ H
 |o :: r,S,K,K',H,k=>dop.mono (H:dop E P o S _) fun v rd out h'=>dreg.mono h' fun S' tr hk=>k _ _ hk
theorem AW.r1(h:areg E P ops S (fun S'=>S'=S1))(k:Q .normal S1):AW E ρ P (.reg false ops pr) Q S:=.reg (h.mono fun S' e=>e▸k)
theorem AW.d1(h:dreg E P ops S (fun S' tr=>hpOk pr tr=true/\S'=S1))(k:Q .normal S1):AW E ρ P (.reg true ops pr) Q S:=.draw (h.mono fun S' tr e=>⟨e.1,e.2▸k⟩)
theorem AW.sr(h:areg E P ops S (fun S'=>S'=S1))(k:AW E ρ P b Q S1):AW E ρ P (.seq (.reg false ops pr) b) Q S:=.seq (.r1 h k)
theorem AW.sd(h:dreg E P ops S (fun S' tr=>hpOk pr tr=true/\S'=S1))(k:AW E ρ P b Q S1):AW E ρ P (.seq (.reg true ops pr) b) Q S:=.seq (.d1 h k)
theorem AW.if'{c:Ae}{a:AO}(t:Bool)(hc:Ah E S.t c=.bool t)(ht:t=true->AW E ρ P a Q S)(hf:t=false->AW E ρ P b Q S):AW E ρ P (.cond c a b) Q S:=.cond hc ht hf
def qz2i(live:List Nat):Nat->List Aa->List Aa
 |_,[]=>[]
 |i,x :: l=>(bif live.contains i then x else .top) :: qz2i live (i+1) l
end
theorem Aa.one_int{n:Int}:Aa.one (.int k n)=true:=rfl
theorem Aa.one_bool{b:Bool}:Aa.one (.bool b)=true:=rfl
theorem Aa.one_str:Aa.one (.str s)=true:=rfl
theorem Aa.one_nils :Aa.one .nils=true:=rfl
theorem Aa.one_slc{f:Nat->List Aa}:Aa.one (.slc st n f)=true:=rfl
theorem Aa.one_vec:Aa.one (.vec i e o n)=true:=rfl
theorem Aa.one_ptr:Aa.one (.ptr i e o)=true:=rfl
theorem Aa.one_eptr{k:Nat}:Aa.one (.eptr i e k o)=true:=rfl
theorem Aa.one_cptr{f:Nat->Aa}{l:Nat}:Aa.one (.cptr f l o)=true:=rfl
theorem Aa.one_nilp :Aa.one .nilp=true:=rfl
theorem Aa.one_fn:Aa.one (.fn f nb l)=true:=rfl
theorem Aa.one_nilfn :Aa.one .nilfn=true:=rfl
theorem Aa.one_mp:Aa.one (.mp i e)=true:=rfl
theorem Aa.one_nilmp :Aa.one .nilmp=true:=rfl
theorem yz6{n:Int}:unv (.int k n)=(.int k n):=rfl
theorem qzag{n:Int}:unc c (.int k n)=True:=rfl
theorem vz0{b:Bool}:unv (.bool b)=(.bool b):=rfl
theorem vzz{b:Bool}:unc c (.bool b)=True:=rfl
theorem yzt:unv (.str s)=(.str s):=rfl
theorem yzs:unc c (.str s)=True:=rfl
theorem vzt :unv .nils=.nils:=rfl
theorem vz3:unc c .nils=True:=rfl
theorem qzab{f:Nat->List Aa}:unv (.slc st n f)=(.slc st n f):=rfl
theorem yzv{f:Nat->List Aa}:unc c (.slc st n f)=True:=rfl
theorem yzo:unv (.vec i e o n)=(.vec i e o n):=rfl
theorem yzn:unc c (.vec i e o n)=True:=rfl
theorem yz0:unv (.ptr i e o)=(.ptr i e o):=rfl
theorem qzah:unc c (.ptr i e o)=True:=rfl
theorem vz4{k:Nat}:unv (.eptr i e k o)=(.eptr i e k o):=rfl
theorem vz7{k:Nat}:unc c (.eptr i e k o)=True:=rfl
theorem vzx{f:Nat->Aa}{l:Nat}:unv (.cptr f l o)=(.cptr f l o):=rfl
theorem vzr{f:Nat->Aa}{l:Nat}:unc c (.cptr f l o)=True:=rfl
theorem vzq :unv .nilp=.nilp:=rfl
theorem vz5:unc c .nilp=True:=rfl
theorem qzbb:unv (.fn f nb l)=(.fn f nb l):=rfl
theorem qzbl:unc c (.fn f nb l)=True:=rfl
theorem kzz :unv .nilfn=.nilfn:=rfl
theorem kzx:unc c .nilfn=True:=rfl
theorem qzbg:unv (.mp i e)=(.mp i e):=rfl
theorem qzbd:unc c (.mp i e)=True:=rfl
theorem kzw :unv .nilmp=.nilmp:=rfl
theorem kzv:unc c .nilmp=True:=rfl
theorem yz7:unv (.agg l)=(.agg l):=rfl
theorem yz5:unc c (.agg l)=True:=rfl
theorem yzz:unv (.tup l)=(.tup l):=rfl
theorem yz4:unc c (.tup l)=True:=rfl
theorem qzaf :unv .top=.top:=rfl
theorem qzai:unc c .top=True:=rfl
theorem yzw:unv (.cnd d x)=x:=rfl
theorem yz9:unc c (.cnd d x)=(c=true->d=true):=rfl
open Go.ChangeShapes
inductive Sh where
 |int (k:IntKind)
 |bool
 |str
 |slc (e:List Sh)
variable {ss:List Sh}
inductive ShOk(N:Nat):Sh->Aa->Prop where
 |int (k:IntKind) (n:Int) (h1:k.min<=n) (h2:n<=k.max):ShOk N (.int k) (.int k n)
 |bool (b:Bool):ShOk N .bool (.bool b)
 |str (s:List UInt8) (h:s.length<=N):ShOk N .str (.str s)
 |slc (e:List Sh) (n:Nat) (f:Nat->List Aa) (hn:n<=N) (hl:∀i,i<n->(f i).length=e.length) (h:∀(i j:Nat) (s:Sh) (x:Aa),i<n->e[j]?=some s->(f i)[j]?=some x->ShOk N s x):ShOk N (.slc e) (.slc e.length n f)
def Ch(N:Nat)(ss:List Sh)(xs:List Aa):Prop:=xs.length=ss.length/\∀(j:Nat) (s:Sh) (x:Aa),ss[j]?=some s->xs[j]?=some x->ShOk N s x
theorem Ch.nil:Ch N [] []:=⟨rfl,fun j s x h=>by simp at h⟩
theorem Ch.one{s:Sh}(h:ShOk N s x):Ch N [s] [x]:=by
 refine⟨rfl,fun j s' x' h1 h2=>?_⟩;cases j with
 |zero=>simp at h1 h2;subst h1;subst h2;exact h
 |succ j=>simp at h1
theorem Ch.append{ss':List Sh}{xs':List Aa}(h:Ch N ss xs)(h':Ch N ss' xs'):Ch N (ss++ss') (xs++xs'):=by
 refine⟨by simp[h.1,h'.1],fun j s x h1 h2=>?_⟩;by_cases hj:j<ss.length
 ·rw[E9 hj]at h1;rw[E9 (by rw[h.1];exact hj)]at h2;exact h.2 j s x h1 h2
 ·rw[Ft (by omega)]at h1;rw[Ft (by rw[h.1];omega),h.1]at h2;exact h'.2 _ s x h1 h2
theorem Ch.cons_inv{s:Sh}(h:Ch N (s :: ss) xs):∃x xs',xs=x :: xs'/\ShOk N s x/\Ch N ss xs':=by
 cases xs with
 |nil=>have:=h.1;simp at this
 |cons x xs=>exact⟨x,xs,rfl,h.2 0 s x rfl rfl,by have:=h.1;simpa using this,fun j s' x' h1 h2=>h.2 (j+1) s' x' (by simpa using h1) (by simpa using h2)⟩
theorem Ch.nil_inv(h:Ch N [] xs):xs=[]:=Gbt.1 h.1
theorem ShOk.int_inv(h:ShOk N (.int k) x):∃n,x=.int k n/\k.min<=n/\n<=k.max:=by cases h;exact⟨_,rfl,by assumption,by assumption⟩
theorem ShOk.bool_inv(h:ShOk N .bool x):∃b,x=.bool b:=by cases h;exact⟨_,rfl⟩
theorem ShOk.str_inv(h:ShOk N .str x):∃s,x=.str s/\s.length<=N:=by cases h;exact⟨_,rfl,by assumption⟩
theorem ShOk.slc_inv{e:List Sh}(h:ShOk N (.slc e) x):∃n f,x=.slc e.length n f/\n<=N/\∀i,i<n->Ch N e (f i):=by
 cases h with
 |slc _ n f hn hl h=>exact⟨n,f,rfl,hn,fun i hi=>⟨hl i hi,fun j s x h1 h2=>h i j s x hi h1 h2⟩⟩
section
variable (P:Program)
def rep{α:Type}(s:List α):Nat->List α
 |0=>[]
 |n+1=>s++rep s n
mutual
def BE:Nat->TypeId->Option (List Sh)
 |0,_=>none
 |n+1,t=>match P.underlying t with
  |some .bool=>some [.bool]
  |some (.int k)=>some [.int k]
  |some .string=>some [.str]
  |some (.slice e)=>match BE n e with
   |some s=>if P.cellsOf e=s.length/\0<s.length then some [.slc s] else none
   |none=>none
  |some (.struct fs)=>EL n (P.cellsOf t) fs.toList 0
  |some (.array m e)=>match BE n e with
   |some s=>if P.cellsOf e=s.length/\P.cellsOf t=m*s.length then some (rep s m) else none
   |none=>none
  |_=>none
def EL:Nat->Nat->List Field->Nat->Option (List Sh)
 |0,_,_,_=>none
 |n+1,c,[],off=>if off=c then some [] else none
 |n+1,c,f :: r,off=>match BE n f.type with
  | some s=>if f.offset=off/\P.cellsOf f.type=s.length then(match EL n c r (off+s.length) with
   |some q=>some (s++q)
   | none=>none) else none
  |none=>none
end
end
theorem Ia{α Y:Type}(f:α->Option Y):∀(l:List α) (m:List Y),l.mapM f=some m->m.length=l.length/\∀(i:Nat) (x:α) (y:Y),l[i]?=some x->m[i]?=some y->f x=some y
 |[],m,h=>by simp at h;subst h;exact⟨rfl,fun i x y hx=>by simp at hx⟩
 |a :: l,m,h=>by
  rw[List.mapM_cons]at h;cases ha:f a with
  |none=>rw[ha]at h;cases h
  |some b =>
   rw[ha]at h;cases hl:l.mapM f with
   |none=>rw[hl]at h;cases h
   |some bs =>
    rw[hl]at h;have e:b :: bs=m:=by simpa using h
    subst e;obtain⟨h1,h2⟩:=Ia f l bs hl;refine⟨by simp[h1],fun i x y hx hy=>?_⟩;cases i with
    |zero=>simp at hx hy;subst hx;subst hy;exact ha
    |succ i=>exact h2 i x y (by simpa using hx) (by simpa using hy)
theorem JO{α Y:Type}{f g:α->Option Y}:∀{l:List α} {m:List Y},l.mapM f=some m->(∀(i:Nat) (x:α) (y:Y),l[i]?=some x->m[i]?=some y->f x=some y->g x=some y)->l.mapM g=some m
 |[],m,h,_=>by simpa using h
 |a :: l,m,h,k=>by
  rw[List.mapM_cons]at h |-;cases ha:f a with
  |none=>rw[ha]at h;cases h
  |some b =>
   rw[ha]at h;cases hl:l.mapM f with
   |none=>rw[hl]at h;cases h
   |some bs =>
    rw[hl]at h;have e:b :: bs=m:=by simpa using h
    subst e;rw[k 0 a b rfl rfl ha,JO hl fun i x y hx hy=>k (i+1) x y (by simpa using hx) (by simpa using hy)];rfl
theorem Pb(h:i<n):(List.range n)[i]?=some i:=by simp[h]
section
variable {enc:TypeId×Value->H}{w':World}
theorem qz67(h:w.cells? 0 a n=some cs):cs.length=n/\∀i v,cs[i]?=some v->w.cell? (a.add i)=some v:=by
 unfold World.cells? at h;rw[Aj (BA _)]at h;obtain⟨h1,h2⟩:=Ia _ _ _ h;simp only[Ta]at h1;refine⟨h1,fun i v hv=>?_⟩;have hi:i<n:=by have:=(A8.1 hv).1;omega
 exact h2 i i v (Pb hi) hv
theorem UB(h:w.cell? a=some v):a.spot=none/\a.block<w.heap.size:=by
 unfold World.cell? at h;split at h
 ·rename_i hb;split at h
  ·cases h
  ·rename_i hs;exact⟨by simpa using hs,(Gt.1 hb).1⟩
 ·cases h
mutual
def Bw{H:Type}:DataW H->Nat
 |.lit (.string bytes)=>bytes.length+1
 |.lit _=>1
 |.nil=>1
 |.ptr d=>Bw d+1
 |.slice elems spare=>Dj elems+Dj spare+1
 |.agg parts=>Dj parts+1
 |.iface _ d=>Bw d+1
 |.map entries=>UC entries+1
 |.held _=>1
def Dj{H:Type}:List (DataW H)->Nat
 |[]=>0
 |d :: r=>Bw d+Dj r
def UC{H:Type}:List (Lit×DataW H)->Nat
 |[]=>0
 |x :: r=>wzau x+UC r
def wzau{H:Type}:Lit×DataW H->Nat
 |(.string bytes,d)=>bytes.length+Bw d+1
 |(_,d)=>Bw d+1
end
theorem wze8(d:DataW H):1<=Bw d:=by
 cases d with
 |lit l=>cases l<;>simp[Bw]
 |_=>simp[Bw]
theorem LI:∀{l:List (DataW H)} {d:DataW H},d∈l->Bw d<=Dj l
 |a :: l,d,h=>by
  rw[Dj];rcases AV.1 h with rfl|h
  ·omega
  ·have:=LI h;omega
theorem UD:∀(l:List (DataW H)),l.length<=Dj l
 |[]=>AA _
 |a :: l=>by rw[Dj,Bk];have:=wze8 a;have:=UD l;omega
theorem wzbr(hg:∀b,b<w.heap.size->g.fz b){sp:Nat->Bool}:∀(m fuel:Nat), (∀(t:TypeId) (cs:List Value) (d:DataW H) (ps:List MemPlace) (ss:List Sh),DataW.trod enc P w 0 sp held fuel t cs=some (d,ps)->BE P m t=some ss->(maxLen<=N\/Bw d<=N) -> (∀v∈cs,v.oneCell'=true)/\∃xs,RVs g w xs cs/\Ch N ss xs) /\
  (∀(fs:List Field) (c off:Nat) (cs:List Value) (res:List (DataW H×List MemPlace)) (ss:List Sh),cs.length=c->EL P m c fs off=some ss ->
   fs.mapM (fun f=>DataW.trod enc P w 0 sp held fuel f.type ((cs.drop f.offset).take (P.cellsOf f.type)))=some res->(maxLen<=N\/∀x∈res,Bw x.1<=N)->(∀v∈cs.drop off,v.oneCell'=true)/\∃xs,RVs g w xs (cs.drop off)/\Ch N ss xs):=by
 intro m;induction m with
 |zero=>intro fuel;exact⟨fun t cs d ps ss _ h=>by simp[BE]at h,fun fs c off cs res ss _ h=>by simp[EL]at h⟩
 |succ m ih =>
  intro fuel;constructor
  ·intro t cs d ps ss h hs hN;cases fuel with
   |zero=>simp[DataW.trod]at h
   |succ fuel =>
   obtain⟨ih1,ih2⟩:=ih fuel;unfold DataW.trod at h;unfold BE at hs;cases hu:P.underlying t with
   |none=>rw[hu]at hs;cases hs
   |some de =>
   rw[hu]at h hs;cases de<;>simp only at hs<;>(try (cases hs;done))
   case bool =>
    rcases cs with _|⟨v,_|⟨v',r⟩⟩
    ·cases h
    ·cases v<;>(try (cases h;done))
     case bool b =>cases hs;exact⟨by simp[Value.oneCell'],[.bool b],.cons (.bool b) (.nil g w),.one (.bool b)⟩
    ·cases v<;>cases h
   case int k =>
    rcases cs with _|⟨v,_|⟨v',r⟩⟩
    ·cases h
    ·cases v<;>(try (cases h;done))
     case int k' n =>
      simp only at h;split at h
      ·rename_i hk;obtain⟨rfl,hw⟩:=hk;cases hs;simp only[Lit.wf,AI,CA]at hw;exact⟨by simp[Value.oneCell'],[.int _ n],.cons (.int _ n) (.nil g w),.one (.int _ n hw.1 hw.2)⟩
      ·cases h
    ·cases v<;>cases h
   case string =>
    rcases cs with _|⟨v,_|⟨v',r⟩⟩
    ·cases h
    ·cases v<;>(try (cases h;done))
     case string s =>
      simp only at h;split at h
      ·rename_i hl;cases hs;cases h
       have eU:s.data.toList.length<=N:=by
        rcases hN with hN|hN
        ·have:s.data.toList.length<=maxLen:=(by simpa using hl);omega
        ·simp only[Bw]at hN;omega
       exact⟨by simp[Value.oneCell'],[.str s.data.toList],.cons (.str _ s rfl) (.nil g w),.one (.str _ eU)⟩
      ·cases h
    ·cases v<;>cases h
   case slice e =>
    rcases cs with _|⟨v,_|⟨v',r⟩⟩
    ·cases h
    ·cases v<;>(try (cases h;done))
     case slice ao len cap =>
      cases ao with
      |none =>
       have gF:len=0/\cap=0:=by
        rcases len with _|len
        ·rcases cap with _|cap;·exact⟨rfl,rfl⟩
         ·cases h
        ·cases h
       obtain⟨rfl,rfl⟩:=gF;split at hs
       ·split at hs;·cases hs;exact⟨by simp[Value.oneCell'],[.slc _ 0 (fun _=>[])],.cons (.slc0 _ _ _ _) (.nil g w),.one (.slc _ 0 _ (BA _) (fun i hi=>by omega) (fun i j s x hi=>by omega))⟩
        ·cases hs
       ·cases hs
      |some a =>
       simp only at h;split at hs
       ·rename_i s eV;split at hs
        ·rename_i bp;obtain⟨dH,bt⟩:=bp;cases hs;split at h
         ·rename_i hb;obtain⟨_,nU,hcm⟩:=hb;refine⟨by simp[Value.oneCell'],?_⟩;simp only[Option.bind_eq_some_iff,Tc]at h;obtain⟨elems,aS,rest,bF,heq⟩:=h;obtain⟨d9,i7⟩:=Ia _ _ _ aS;simp only[Ta]at d9;have hd:DataW.slice (elems.map Prod.fst) (rest.map Prod.fst)=d:=(Prod.mk.inj heq).1
          have iA:len<=N:=by
           rcases hN with hN|hN
           ·omega
           ·rw[<-hd,Bw]at hN;have:=UD (elems.map Prod.fst);rw[J5]at this;omega
          have lh:maxLen<=N\/∀y∈elems,Bw y.1<=N:=by
           rcases hN with hN|hN
           ·exact .inl hN
           ·refine .inr fun y hy=>?_;rw[<-hd,Bw]at hN;have:=LI (Ti (f:=Prod.fst) hy);omega
          by_cases h0:len=0
          ·subst h0;exact⟨[.slc _ 0 (fun _=>[])],.cons (.slc0 _ _ _ _) (.nil g w),.one (.slc _ 0 _ (BA _) (fun i hi=>by omega) (fun i j s x hi=>by omega))⟩
          have each:∀i,i<len->∃row:List Value,row.length=s.length/\(∀j v,row[j]?=some v->w.cell? ((a.add (i*P.cellsOf e)).add j)=some v)/\(∀v∈row,v.oneCell'=true)/\∃xs,RVs g w xs row/\Ch N s xs:=(by intro i hi;have h1:=i7 i i _ (Pb hi) (AF (by omega:i<elems.length));obtain⟨row,hr,ht⟩:=Option.bind_eq_some_iff.1 h1;obtain⟨r1,r2⟩:=qz67 hr;obtain⟨o1,o2⟩:=ih1 e row _ _ s ht eV (lh.imp id fun h=>h _ (J4 _));exact⟨row,by omega,r2,o1,o2⟩);obtain⟨row0,r01,r02,_,_⟩:=each 0 (by omega);have dq:a.spot=none/\a.block<w.heap.size:=by have:=r02 0 _ (AF (by omega:0<row0.length));have:=UB this;simpa [Addr.add] using this
          have rowx:∀i,∃p:List Value×List Aa,i<len->p.1.length=s.length/\(∀j v,p.1[j]?=some v->w.cell? ((a.add (i*P.cellsOf e)).add j)=some v)/\(∀v∈p.1,v.oneCell'=true)/\RVs g w p.2 p.1/\Ch N s p.2:=by
           intro i;by_cases hi:i<len
           ·obtain⟨row,a1,a2,a3,xs,a4,a5⟩:=each i hi;exact⟨(row,xs),fun _=>⟨a1,a2,a3,a4,a5⟩⟩
           ·exact⟨([],[]),fun h=>absurd h hi⟩
          let F:=fun i=>(rowx i).choose
          have hF:∀i,i<len->_:=fun i=>(rowx i).choose_spec;obtain⟨blk,off,spot⟩:=a;obtain⟨fE,cM⟩:=dq;simp only at fE cM;subst fE
          refine⟨[.slc s.length len (fun i=>(F i).2)],.cons (.slc s.length len _ blk off cap (fun i j=>(F i).1.getD j undef) (hg blk cM) nU (fun i hi=>(hF i hi).2.2.2.2.1) (fun i j hi hj=>?_) (fun i j hi hj=>?_) (fun i j x hi hx=>?_)) (.nil g w),
           .one (.slc s len _ iA (fun i hi=>(hF i hi).2.2.2.2.1) (fun i j s' x hi h1 h2=>(hF i hi).2.2.2.2.2 j s' x h1 h2))⟩
          ·have h1:=(hF i hi).1;have aX:j<(F i).1.length:=(by show j<(rowx i).choose.1.length;omega);have h2:=(hF i hi).2.1 j _ (AF aX);have e1:((⟨blk,off,none⟩:Addr).add (i*P.cellsOf e)).add j=⟨blk,off+i*s.length+j,none⟩:=(by rw[dH];unfold Addr.add;by_cases a1:i*s.length=0<;>by_cases a2:j=0<;>simp[a1,a2,Fu]);rw[e1]at h2;rw[h2];simp[List.getD,aX]
          ·have h1:=(hF i hi).1;have aX:j<(F i).1.length:=(by show j<(rowx i).choose.1.length;omega);have e2:(F i).1.getD j undef=(F i).1[j]:=(by simp[List.getD,aX]);rw[e2];exact(hF i hi).2.2.1 _ (J4 aX)
          ·have h1:=(hF i hi).1;have h4:=(hF i hi).2.2.2.1;have hj:j<(F i).2.length:=(A8.1 hx).1;have aX:j<(F i).1.length:=(by have:(F i).1.length=(F i).2.length:=h4.1;omega);have e2:(F i).1.getD j undef=(F i).1[j]:=(by simp[List.getD,aX]);have e3:(F i).1[j]?=some (F i).1[j]:=AF aX;exact h4.2 j x _ hx (e3.trans (by rw[e2]))
         ·cases h
        ·cases hs
       ·cases hs
    ·cases v<;>first|(cases h;done)|(rename_i ao len cap;rcases ao with _|ao<;>rcases len with _|len<;>rcases cap with _|cap<;>cases h)
   case struct fs =>
    simp only at h;split at h
    ·rename_i aE;simp only[Tc]at h;obtain⟨res,aV,heq⟩:=h;have hd:DataW.agg (res.map Prod.fst)=d:=(Prod.mk.inj heq).1;have:=ih2 fs.toList (P.cellsOf t) 0 cs res ss aE hs aV (hN.imp id fun hN x hx=>by rw[<-hd,Bw]at hN;have:=LI (Ti (f:=Prod.fst) hx);omega);simpa using this
    ·cases h
   case array n e =>
    simp only at h;split at hs
    ·rename_i s eV;split at hs
     ·rename_i bp;obtain⟨dH,li⟩:=bp;cases hs;split at h
      ·rename_i aE;simp only[Tc]at h;obtain⟨res,aV,heq⟩:=h;have hd:DataW.agg (res.map Prod.fst)=d:=(Prod.mk.inj heq).1;have lh:maxLen<=N\/∀y∈res,Bw y.1<=N:=hN.imp id fun hN x hx=>by rw[<-hd,Bw]at hN;have:=LI (Ti (f:=Prod.fst) hx);omega
       obtain⟨d9,i7⟩:=Ia _ _ _ aV;simp only[Ta]at d9
       have go:∀k i,i+k=n->(∀v∈cs.drop (i*s.length),v.oneCell'=true)/\∃xs,RVs g w xs (cs.drop (i*s.length))/\Ch N (rep s k) xs:=by
        intro k;induction k with
        |zero =>
         intro i hi
         have:cs.drop (i*s.length)=[]:=by
          rw[List.drop_eq_nil_iff];have:i=n:=by omega
          subst this;omega
         rw[this];exact⟨by simp,[],.nil g w,.nil⟩
        |succ k ihk =>
         intro i hi;obtain⟨t1,xs1,t2,t3⟩:=ihk (i+1) (by omega);have h1:=i7 i i _ (Pb (by omega)) (AF (by omega:i<res.length));obtain⟨o1,xs0,o2,o3⟩:=ih1 e _ _ _ s h1 eV (lh.imp id fun h=>h _ (J4 _));have e1:(cs.drop (i*P.cellsOf e)).take (P.cellsOf e)++cs.drop ((i+1)*s.length)=cs.drop (i*s.length):=by rw[dH,BR,<-Oo];exact Tj _ _
         rw[<-e1];exact⟨fun v hv=>(CD.1 hv).elim (o1 v) (t1 v),xs0++xs1,o2.append t2,o3.append t3⟩
       have:=go n 0 (by omega);simpa using this
      ·cases h
     ·cases hs
    ·cases hs
  ·intro fs c off cs res ss aE hs aV hN;cases fs with
   |nil =>
    simp only[EL]at hs;split at hs
    ·rename_i ho;cases hs;have:cs.drop off=[]:=by rw[List.drop_eq_nil_iff];omega
     rw[this];exact⟨by simp,[],.nil g w,.nil⟩
    ·cases hs
   |cons f r =>
    obtain⟨ih1,ih2⟩:=ih fuel;simp only[EL]at hs;split at hs
    ·rename_i s eV;split at hs
     ·rename_i bp;obtain⟨ho,dH⟩:=bp;split at hs
      ·rename_i q hq;cases hs;rw[List.mapM_cons]at aV;cases ha:DataW.trod enc P w 0 sp held fuel f.type ((cs.drop f.offset).take (P.cellsOf f.type)) with
       |none=>rw[ha]at aV;cases aV
       |some y =>
        rw[ha]at aV;cases hl:r.mapM (fun f=>DataW.trod enc P w 0 sp held fuel f.type ((cs.drop f.offset).take (P.cellsOf f.type))) with
        |none=>rw[hl]at aV;cases aV
        |some ys =>
         rw[hl]at aV;have e:y :: ys=res:=by simpa using aV
         subst e;obtain⟨o1,xs0,o2,o3⟩:=ih1 f.type _ y.1 y.2 s ha eV (hN.imp id fun h=>h y (AS ..));obtain⟨t1,xs1,t2,t3⟩:=ih2 r c (off+s.length) cs ys q aE hq hl (hN.imp id fun h x hx=>h x (AR _ hx));have e1:(cs.drop f.offset).take (P.cellsOf f.type)++cs.drop (off+s.length)=cs.drop off:=by rw[dH,ho,<-Oo];exact Tj _ _
         rw[<-e1];exact⟨fun v hv=>(CD.1 hv).elim (o1 v) (t1 v),xs0++xs1,o2.append t2,o3.append t3⟩
      ·cases hs
     ·cases hs
    ·cases hs
theorem wzpr(h:0<n):MemPlace.cell a.block a.off∈MemPlace.row a n:=by unfold MemPlace.row;rw[CE];exact⟨0,Jr.2 h,by simp⟩
theorem qz59(hh:∀b,b<w.heap.size->w'.heap[b]?=w.heap[b]?)(h:w.cells? 0 a n=some cs):w'.cells? 0 a n=some cs:=by
 unfold World.cells? at h |-;rw[Aj (BA _)]at h |-;refine JO h fun i x y _ _ hy=>?_;have hb:=(UB hy).2;have e:(a.add x).block=a.block:=by unfold Addr.add;split<;>rfl
 have:=hh _ hb;unfold World.cell? at hy |-;rw[this];exact hy
theorem qz7j(hh:∀b,b<w.heap.size->w'.heap[b]?=w.heap[b]?){sp:Nat->Bool}:∀(m fuel:Nat),
  (∀(t:TypeId) (cs:List Value) (d:DataW H) (ps:List MemPlace) (ss:List Sh),DataW.trod enc P w 0 (fun _=>true) held fuel t cs=some (d,ps)->BE P m t=some ss->(∀p∈ps,sp p.block=true) ->
   DataW.trod enc P w' 0 sp held fuel t cs=some (d,ps)) /\
  (∀(fs:List Field) (c off:Nat) (cs:List Value) (res:List (DataW H×List MemPlace)) (ss:List Sh),EL P m c fs off=some ss ->
   fs.mapM (fun f=>DataW.trod enc P w 0 (fun _=>true) held fuel f.type ((cs.drop f.offset).take (P.cellsOf f.type)))=some res->(∀x∈res,∀p∈x.2,sp p.block=true) ->
   fs.mapM (fun f=>DataW.trod enc P w' 0 sp held fuel f.type ((cs.drop f.offset).take (P.cellsOf f.type)))=some res):=by
 intro m;induction m with
 |zero=>intro fuel;exact⟨fun t cs d ps ss _ h=>by simp[BE]at h,fun fs c off cs res ss h=>by simp[EL]at h⟩
 |succ m ih =>
  intro fuel;constructor
  ·intro t cs d ps ss h hs hp;cases fuel with
   |zero=>simp[DataW.trod]at h
   |succ fuel =>
   obtain⟨ih1,ih2⟩:=ih fuel;unfold DataW.trod at h |-;unfold BE at hs;cases hu:P.underlying t with
   |none=>rw[hu]at hs;cases hs
   |some de =>
   rw[hu]at h hs;cases de<;>simp only at hs<;>(try (cases hs;done))
   case bool =>
    rcases cs with _|⟨v,_|⟨v',r⟩⟩
    ·cases h
    ·cases v<;>(try (cases h;done));exact h
    ·cases v<;>cases h
   case int k =>
    rcases cs with _|⟨v,_|⟨v',r⟩⟩
    ·cases h
    ·cases v<;>(try (cases h;done));exact h
    ·cases v<;>cases h
   case string =>
    rcases cs with _|⟨v,_|⟨v',r⟩⟩
    ·cases h
    ·cases v<;>(try (cases h;done));exact h
    ·cases v<;>cases h
   case slice e =>
    rcases cs with _|⟨v,_|⟨v',r⟩⟩
    ·cases h
    ·cases v<;>(try (cases h;done))
     case slice ao len cap =>
      cases ao with
      |none =>
       rcases len with _|len
       ·rcases cap with _|cap;·exact h
        ·cases h
       ·cases h
      |some a =>
       simp only at h |-;split at hs
       ·rename_i s eV;split at hs
        ·rename_i bp;obtain⟨dH,bt⟩:=bp;split at h
         ·rename_i hb;rw[Aj hb];simp only[Option.bind_eq_some_iff,AX,Tc]at h;obtain⟨elems,aS,rest,bF,heq⟩:=h;obtain⟨d9,i7⟩:=Ia _ _ _ aS;obtain⟨gi,iB⟩:=Ia _ _ _ bF;simp only[Ta]at d9 gi;simp only[BB]at heq;obtain⟨hd,lj⟩:=heq;have sub:∀x∈elems++rest,∀p∈x.2,sp p.block=true:=fun x hx p gK=>hp p (by rw[<-lj];exact CD.2 (.inr (List.mem_flatMap.2 ⟨x,hx,gK⟩)));have step:∀(i:Nat) (y:DataW H×List MemPlace),y∈elems++rest->(w.cells? 0 (a.add (i*P.cellsOf e)) (P.cellsOf e)).bind (DataW.trod enc P w 0 (fun _=>true) held fuel e)=some y -> (w'.cells? 0 (a.add (i*P.cellsOf e)) (P.cellsOf e)).bind (DataW.trod enc P w' 0 sp held fuel e)=some y:=by intro i y hy hi;obtain⟨row,h1,h2⟩:=Option.bind_eq_some_iff.1 hi;rw[qz59 hh h1];exact ih1 e row y.1 y.2 s h2 eV (sub y hy)
          have dM:(List.range len).mapM (fun i=>(w'.cells? 0 (a.add (i*P.cellsOf e)) (P.cellsOf e)).bind (DataW.trod enc P w' 0 sp held fuel e))=some elems :=
           JO aS fun i x y hx hy bV=>step x y (CD.2 (.inl (AG hy))) bV
          have fo:(if sp a.block=true then(List.range (cap-len)).mapM (fun j=>(w'.cells? 0 (a.add ((len+j)*P.cellsOf e)) (P.cellsOf e)).bind (DataW.trod enc P w' 0 sp held fuel e)) else some [])=some rest:=by
           by_cases dq:sp a.block=true
           ·rw[Aj dq];exact JO bF fun i x y hx hy bV=>step (len+x) y (CD.2 (.inr (AG hy))) bV
           ·rw[Ag dq];by_cases hc:0<elems.length+rest.length
            ·exfalso;have nW:MemPlace.cell a.block a.off∈ps:=(by rw[<-lj];exact CD.2 (.inl (wzpr (Nat.mul_pos hc (by omega)))));exact dq (hp _ nW)
            ·have:rest=[]:=Gbt.1 (by omega);rw[this]
          rw[dM];simp only[Option.bind_some];rw[fo];simp only[DS,hd,lj]
         ·cases h
        ·cases hs
       ·cases hs
    ·cases v<;>first|(cases h;done)|(rename_i ao len cap;rcases ao with _|ao<;>rcases len with _|len<;>rcases cap with _|cap<;>cases h)
   case struct fs =>
    simp only at h |-;split at h
    ·rename_i aE;rw[Aj aE];simp only[Tc]at h |-;obtain⟨res,aV,heq⟩:=h;refine⟨res,ih2 fs.toList (P.cellsOf t) 0 cs res ss hs aV fun x hx p gK=>hp p ?_,heq⟩;simp only[BB]at heq;rw[<-heq.2];exact List.mem_flatMap.2 ⟨x,hx,gK⟩
    ·cases h
   case array n e =>
    simp only at h |-;split at hs
    ·rename_i s eV;split at hs
     ·split at h;·rename_i aE;rw[Aj aE];simp only[Tc]at h |-;obtain⟨res,aV,heq⟩:=h;simp only[BB]at heq;refine⟨res,JO aV fun i x y hx hy bV=>ih1 e _ y.1 y.2 s bV eV fun p gK=>hp p ?_,by simp[heq.1,heq.2]⟩;rw[<-heq.2];exact List.mem_flatMap.2 ⟨y,AG hy,gK⟩
      ·cases h
     ·cases hs
    ·cases hs
  ·intro fs c off cs res ss hs aV hp;cases fs with
   |nil=>simpa using aV
   |cons f r =>
    obtain⟨ih1,ih2⟩:=ih fuel;simp only[EL]at hs;split at hs
    ·rename_i s eV;split at hs
     ·split at hs
      ·rename_i q hq;rw[List.mapM_cons]at aV |-;cases ha:DataW.trod enc P w 0 (fun _=>true) held fuel f.type ((cs.drop f.offset).take (P.cellsOf f.type)) with
       |none=>rw[ha]at aV;cases aV
       |some y =>
        rw[ha]at aV;cases hl:r.mapM (fun f=>DataW.trod enc P w 0 (fun _=>true) held fuel f.type ((cs.drop f.offset).take (P.cellsOf f.type))) with
        |none=>rw[hl]at aV;cases aV
        |some ys =>
         rw[hl]at aV;have e:y :: ys=res:=by simpa using aV
         subst e;rw[ih1 f.type _ y.1 y.2 s ha eV (fun p gK=>hp y (AS ..) p gK),ih2 r c (off+s.length) cs ys q hq hl (fun x hx=>hp x (AR _ hx))];rfl
      ·cases hs
     ·cases hs
    ·cases hs
end
open Go.ChangeShapes Go.WideShapes Go.ChangeAt Go.RowKit
def Fz(P:Program)(t:TypeId):Bool:=match P.underlying t with
 |some (.struct _) | some (.array _ _)=>true
 |_=>false
def UE(N:Nat)(P:Program)(m:Nat)(t:TypeId)(x:Aa):Prop:=∃ss,BE P m t=some ss/\((Fz P t=true/\∃xs,x=.agg xs/\Ch N ss xs)\/(Fz P t=false/\∃s,ss=[s]/\ShOk N s x))
def JP(N:Nat)(P:Program)(m:Nat):List TypeId->List Aa->Prop
 |[],[]=>True
 |t :: ts,x :: xs=>UE N P m t x/\JP N P m ts xs
 |_,_=>False
section
variable {enc:TypeId×Value->H}{W W':World}
theorem wzju(hg:∀b,b<W.heap.size->g.fz b){m:Nat}{r:Reach}{b0:Nat}{t:TypeId}{sp:Nat->Bool}{d:DataW H}{ps:List MemPlace}(bi:Value.okWide P W r b0 t v)(h:DataW.Trod enc P W 0 sp held t v d ps)(hs:(BE P m t).isSome=true)(hN:maxLen<=N\/Bw d<=N) : ∃x,RV g W x v/\UE N P m t x:=by
 obtain⟨fuel,h⟩:=h;obtain⟨ss,gL⟩:=Option.isSome_iff_exists.1 hs;obtain⟨_,xs,hx,dV⟩:=(wzbr hg m fuel).1 t _ d ps ss h gL hN;by_cases ha:Fz P t=true
 ·have:∃cs,v=.agg cs:=by
   unfold Fz at ha;unfold Value.okWide at bi;split at ha<;>rename_i hu<;>first|(rw[hu]at bi;obtain⟨cs,e,_⟩:=bi;exact⟨cs,e⟩)|cases ha
  obtain⟨cs,rfl⟩:=this;exact⟨.agg xs,.agg xs cs (by simpa [Value.cells] using hx.1) (fun i x v h1 h2=>hx.2 i x v h1 (by simpa [Value.cells] using h2)),ss,gL,.inl ⟨ha,xs,rfl,dV⟩⟩
 ·have gN:Fz P t=false:=by simpa using ha
  have eG:v.cells.toList=[v]:=by
   cases v<;>first|rfl|skip
   case agg cs =>
    exfalso;unfold Fz at gN;unfold Value.okWide at bi;cases hu:P.underlying t with
    |none=>rw[hu]at bi;simp[Cell.okWide,Cell.ok,hu]at bi
    |some de =>rw[hu]at bi gN;cases de<;>simp[Cell.okWide,Cell.ok,hu]at bi gN
  rw[eG]at hx;have hl:=hx.1;simp only[Dz]at hl
  match xs,hl,hx,dV with
  |[x],_,hx,dV =>
   have h1:=dV.1;simp only[Dz]at h1
   match ss,h1,gL,dV with
   |[s],_,gL,dV=>exact⟨x,hx.2 0 x v rfl rfl,[s],gL,.inr ⟨gN,s,rfl,dV.2 0 s x rfl rfl⟩⟩
theorem UF{N:Nat}{g:Gh}(hg:∀b,b<W.heap.size->g.fz b){m:Nat}{r:Reach}{b0:Nat}{sp:Nat->Bool}{held:Bool}:∀{ts:List TypeId} {vs:List Value} {ds:List (DataW H)} {ps:List MemPlace}, (∀(j:Nat) t v,ts[j]?=some t->vs[j]?=some v->Value.okWide P W r b0 t v)->DataW.TrodAll enc P W 0 sp held ts vs ds ps->(∀t∈ts,(BE P m t).isSome=true)->(maxLen<=N\/Dj ds<=N)->∃xs,RVs g W xs vs/\JP N P m ts xs
 |[],vs,ds,ps,_,h,_,_=>by obtain⟨rfl,_,_⟩:=trodAll_nil h;exact⟨[],.nil _ _,trivial⟩
 |t :: ts,vs,ds,ps,hv,h,hs,hN=>by obtain⟨v,vs',d,ds',p,q,rfl,rfl,rfl,h1,h2⟩:=trodAll_cons h;obtain⟨x,hx,ha⟩:=wzju hg (hv 0 t v rfl rfl) h1 (hs t (AS ..)) (hN.imp id fun h=>by rw[Dj]at h;omega);obtain⟨xs,c7,nX⟩:=UF hg (fun j t v h1 h2=>hv (j+1) t v (by simpa using h1) (by simpa using h2)) h2 (fun t ht=>hs t (AR _ ht)) (hN.imp id fun h=>by rw[Dj]at h;omega);exact⟨x :: xs,.cons hx c7,ha,nX⟩
theorem UG(hh:∀b,b<W.heap.size->W'.heap[b]?=W.heap[b]?){m:Nat}{sp:Nat->Bool}{held:Bool}:∀{ts:List TypeId} {vs:List Value} {ds:List (DataW H)} {ps:List MemPlace},
  DataW.TrodAll enc P W 0 (fun _=>true) held ts vs ds ps->(∀t∈ts,(BE P m t).isSome=true)->(∀p∈ps,sp p.block=true)->DataW.TrodAll enc P W' 0 sp held ts vs ds ps
 |[],vs,ds,ps,h,_,_=>by obtain⟨rfl,rfl,rfl⟩:=trodAll_nil h;exact trodAll_mk0
 |t :: ts,vs,ds,ps,h,hs,hp=>by obtain⟨v,vs',d,ds',p,q,rfl,rfl,rfl,⟨fuel,h1⟩,h2⟩:=trodAll_cons h;obtain⟨ss,gL⟩:=Option.isSome_iff_exists.1 (hs t (AS ..));exact trodAll_cons_mk ⟨fuel,(qz7j hh m fuel).1 t _ d p ss h1 gL fun x hx=>hp x (CD.2 (.inl hx))⟩ (UG hh h2 (fun t ht=>hs t (AR _ ht)) (fun x hx=>hp x (CD.2 (.inr hx))))
theorem law_contract{s:ChangeSpec}{m:Nat}{tb:TypeId}{laid:List (String×DataW Unit)}{W:World}{base:Nat}{args:Array Value}{ds gs:List (DataW H)}{before:List MemPlace}(eW:∀t∈fn.params.toList,(BE P m t).isSome=true) (aV:fn.resultTypes=#[tb]) (hb:P.underlying tb=some .bool) (gj:s.vars=[])(eX:∀ds:List (DataW H),ds.length=fn.params.toList.length->s.fn H ds={ results:=[.lit (.bool true)],args:=ds })(jm:∀g:Gh,(∀b,b<W.heap.size->g.fz b)->∀i,RV g W (E i) (.pointer (some ⟨i,0,none⟩)))(hN:maxLen<=N\/Dj ds<=N)(law:∀xs,JP N P m fn.params.toList xs->AK E P f xs (.bool true))(bi:∀(j:Nat) t v,fn.params[j]?=some t->args[j]?=some v->Value.okWide P W .any base t v)(hW:DataW.Whole enc P fn.params.toList s.vars false W args.toList ds gs before) :
  Calls P f args W fun e W'=>∃v,e=.returned v/\s.post enc P fn false true false false W args v W':=by
 have m4:=hW;obtain⟨p,q,hA,hV,rfl,fh,dD⟩:=hW;rw[gj]at hV;obtain⟨rfl,rfl⟩:=trodVars_none hV
 let g:Gh:=⟨fun _=>0,fun _=>0,fun _=>0,fun _=>0,fun _=>0,fun b=>b<W.heap.size⟩
 have hg:∀b,b<W.heap.size->g.fz b:=fun b h=>h;obtain⟨xs,c7,aB⟩:=UF hg (fun j t v h1 h2=>bi j t v (by simpa using h1) (by simpa using h2)) hA eW hN;have HR0:HR E g h0 W:=⟨fun _=>trivial,fun _=>rfl,(by intro i j hi;cases hi),(by intro i hi;cases hi),fun b hb=>hb,jm g hg⟩;have main:=law xs aB h0 g W args.toList HR0 c7;rw[J2]at main;refine main.mono ?_;rintro e W' ⟨g',h',r,v,⟨rfl,rfl⟩,rfl,bB,_,st⟩;cases bB;have hh:∀b,b<W.heap.size->W'.heap[b]?=W.heap[b]?:=fun b hb=>st.keep b hb (by intro i hi;cases hi);have aE:ds.length=fn.params.toList.length:=(trodAll_length hA).2;refine⟨_,rfl,ds,[],_,[],p,[],m4,?_,?_,?_,?_,fun h=>by cases h⟩
 ·rw[List.append_nil,eX ds aE,aV];exact trodAll_cons_mk (shut_bool hb true) trodAll_mk0
 ·rw[List.append_nil,eX ds aE];exact UG hh hA eW fun x hx=>by simpa using m4.lt x (CD.2 (.inl hx))
 ·rw[List.append_nil,eX ds aE,gj];exact rfl
 ·refine⟨st.os,st.output,fun i hi=>?_⟩;rw[hh i hi];cases W.heap[i]? with
  |none=>rfl
  |some o=>cases o<;>first | exact⟨rfl,rfl,rfl,fun _ _=>rfl⟩ | exact .inr ⟨rfl,rfl⟩ | rfl
end
def look:List (Nat×Aa)->Nat->Aa
 |[],_=>.top
 |p :: r,i=>if p.1=i then p.2 else look r i
def tl(m:List (Nat×Aa))(n:Nat):List Aa:=(List.range n).map (look m)
def DZ:List (Nat×Ad)->Nat->Ad
 |[],_=>.gone 0
 |p :: r,i=>if p.1=i then p.2 else DZ r i
def hl(m:List (Nat×Ad)):Aq:=fun i=>DZ m i
theorem EM(m:List (Nat×Aa))(n:Nat):(tl m n).length=n:=by simp[tl]
theorem Ea(m:List (Nat×Aa))(n i:Nat):(tl m n)[i]?=if i<n then some (look m i) else none:=by unfold tl;by_cases h:i<n<;>simp[h]
theorem UH(m:List (Nat×Aa))(n i:Nat):(tl m n)[i]?.getD .top=if i<n then look m i else .top:=by rw[Ea];split<;>rfl
theorem yzd(m:List (Nat×Aa))(n i:Nat):(tl m n).getD i .top=if i<n then look m i else .top:=by rw[E7,UH]
theorem UI(m:List (Nat×Aa))(n i:Nat)(v:Aa):(tl m n).set i v=tl ((i,v) :: m) n:=by
 apply Lr;intro j;rw[DP,EM,Ea,Ea];by_cases h:i=j
 ·subst h;simp[look]
 ·simp[h,look]
theorem qzas(m:List (Nat×Ad))(i:Nat)(o:Ad):hset (hl m) i o=hl ((i,o) :: m):=by
 funext j;simp only[hset,hl,DZ];by_cases h:j=i
 ·subst h;simp
 ·have h':¬i=j:=fun e=>h e.symm;simp[h,h']
theorem qzbn(m:List (Nat×Ad))(i:Nat):hl m i=DZ m i:=rfl
def zipA:Nat->List Aa->List (Nat×Aa)
 |_,[]=>[]
 |i,x :: r=>(i,x) :: zipA (i+1) r
theorem UJ:∀(l:List Aa) (k i:Nat),look (zipA k l) i=if k<=i then l.getD (i-k) .top else .top
 |[],k,i=>by simp[zipA,look]
 |x :: r,k,i=>by
  have ih:=UJ r (k+1) i;simp only[zipA,look];by_cases h:k=i
  ·subst h;simp
  ·rw[Ag h,ih];by_cases h1:k+1<=i
   ·rw[Aj h1,Aj (by omega)];obtain⟨d,hd⟩:∃d,i-k=d+1:=⟨i-k-1,by omega⟩;rw[hd,show i-(k+1)=d by omega];rfl
   ·rw[Ag h1,Ag (by omega)]
theorem Ib(l:List Aa)(k:Nat):l++List.replicate k .top=tl (zipA 0 l) (l.length+k):=by
 apply Lr;intro i;rw[Ea,UJ];simp only[BA,AX,Nat.sub_zero];by_cases h:i<l.length
 ·rw[E9 h,Aj (by omega)];simp[h]
 ·rw[Ft (by omega),Gbk];by_cases h2:i<l.length+k
  ·rw[Aj (by omega),Aj h2];simp[List.getD,Ls (Nat.le_of_not_lt h)]
  ·rw[Ag (by omega),Ag h2]
def vsub(x:Aa):Aa->Prop
 |.top=>True
 |.int k b=>x=.int k b
 |.slc st n f=>(x=.nils/\n=0)\/∃f',x=.slc st n f'/\∀k,k<n->f k=f' k
 |y=>y=x
theorem wzqg(h:vsub x y)(hx:RV g w x v):RV g w y v:=by
 cases y with
 |top=>exact .top v
 |int k b=>have h:x=.int k b:=h;rw[<-h];exact hx
 |slc st n f =>
  rcases h with ⟨rfl,rfl⟩|⟨f',rfl,hf⟩
  ·cases hx;exact .slc0 _ _ _ _
  ·exact hx.sub (.inr (.inr ⟨_,_,_,_,rfl,rfl,hf⟩))
 |bool=>have h:_=x:=h;rw[h];exact hx
 |str=>have h:_=x:=h;rw[h];exact hx
 |agg=>have h:_=x:=h;rw[h];exact hx
 |tup=>have h:_=x:=h;rw[h];exact hx
 |nils=>have h:_=x:=h;rw[h];exact hx
 |vec=>have h:_=x:=h;rw[h];exact hx
 |ptr=>have h:_=x:=h;rw[h];exact hx
 |eptr=>have h:_=x:=h;rw[h];exact hx
 |cptr=>have h:_=x:=h;rw[h];exact hx
 |nilp=>have h:_=x:=h;rw[h];exact hx
 |fn=>have h:_=x:=h;rw[h];exact hx
 |nilfn=>have h:_=x:=h;rw[h];exact hx
 |mp=>have h:_=x:=h;rw[h];exact hx
 |nilmp=>have h:_=x:=h;rw[h];exact hx
 |cnd=>have h:_=x:=h;rw[h];exact hx
theorem Gm{f:Nat->List Aa}:vsub (.slc st n f) (.slc st' n' f')↔st=st'/\n=n'/\∀k,k<n'->f' k=f k:=by
 simp only[vsub,Aa.slc.injEq];constructor
 ·rintro(⟨h,_⟩|⟨g,⟨rfl,rfl,rfl⟩,h⟩);·cases h
  ·exact⟨rfl,rfl,h⟩
 ·rintro⟨rfl,rfl,h⟩;exact .inr ⟨f,⟨rfl,rfl,rfl⟩,h⟩
theorem BV:vsub x .top↔True:=Iff.rfl
theorem BG(x:Aa):vsub x x:=by cases x<;>simp[vsub]
def subm(m:List (Nat×Aa)):List (Nat×Aa)->Prop
 |[]=>True
 |p :: r=>vsub (look m p.1) p.2/\subm m r
theorem UK{g:Gh}{w:World}{m:List (Nat×Aa)}:∀{r:List (Nat×Aa)},subm m r->∀i v,RV g w (look m i) v->RV g w (look r i) v
 |[],_,i,v,_=>.top v
 |p :: r,h,i,v,hv=>by
  simp only[look];split
  ·rename_i e;subst e;exact wzqg h.1 hv
  ·exact UK h.2 i v hv
theorem UL{m:List (Nat×Aa)}{a:List Value}(h:subm m m')(hv:RVs g w (tl m n) a):RVs g w (tl m' n) a:=by
 refine⟨by rw[hv.1,EM,EM],fun i x v hx hy=>?_⟩;rw[Ea]at hx;split at hx
 ·rename_i hi;simp only[Ba]at hx;subst hx;exact UK h i v (hv.2 i _ v (by rw[Ea,Aj hi]) hy)
 ·cases hx
def osub(o:Ad):Ad->Prop
 |.gone e=>e=o.ep
 |.box e l=>o=.box e l
 |.vec e st n f=>∃f',o=.vec e st n f'/\∀k,k<n->f k=f' k
 |o'=>o'=o
theorem UM{o o':Ad}(h:osub o o'):OSub o o':=by
 cases o' with
 |gone e=>exact .inl (by have h:e=o.ep:=h;rw[h])
 |box e l=>exact .inr (.inl (Eq.symm (h:o=.box e l)))
 |vec e st n f =>obtain⟨f',rfl,hf⟩:=h;exact .inr (.inr ⟨_,_,_,_,_,rfl,rfl,hf⟩)
 |dfr=>exact .inr (.inl h)
 |amap=>exact .inr (.inl h)
 |miter=>exact .inr (.inl h)
theorem BW{o:Ad}:osub o (.gone e)↔e=o.ep:=Iff.rfl
theorem BX{l':List Aa}:osub (.box e l) (.box e' l')↔e=e'/\l=l':=by simp[osub]
theorem BY{f:Nat->List Aa}:osub (.vec e st n f) (.vec e' st' n' f')↔e=e'/\st=st'/\n=n'/\∀k,k<n'->f' k=f k:=by
 simp only[osub,Ad.vec.injEq];constructor
 ·rintro⟨g,⟨rfl,rfl,rfl,rfl⟩,h⟩;exact⟨rfl,rfl,rfl,h⟩
 ·rintro⟨rfl,rfl,rfl,h⟩;exact⟨f,⟨rfl,rfl,rfl,rfl⟩,h⟩
theorem yza(o:Ad):osub o o:=by cases o<;>simp[osub,Ad.ep]
def subh(m:List (Nat×Ad)):List (Nat×Ad)->Prop
 |[]=>True
 |p :: r=>osub (DZ m p.1) p.2/\subh m r
def Ci(m:List (Nat×Ad))(r:List (Nat×Ad)):Bool:=m.all fun p=>r.any fun q=>q.1==p.1
theorem LJ(h:m.all (fun p=>!(p.1==i))=true):DZ m i=.gone 0:=by
 induction m with
 |nil=>rfl
 |cons p r ih =>simp only[List.all_cons,AI,H5,beq_eq_false_iff_ne,ne_eq]at h;simp only[DZ,Ag h.1];exact ih (by simpa using h.2)
theorem UN{m:List (Nat×Ad)}:∀{r:List (Nat×Ad)},subh m r->∀i,r.any (fun q=>q.1==i)=true->OSub (DZ m i) (DZ r i)
 |[],_,i,h=>by simp at h
 |p :: r,h,i,hi=>by
  simp only[DZ];split
  ·rename_i e;subst e;exact UM h.1
  ·rename_i e;refine UN h.2 i ?_;simpa [e] using hi
theorem wzta{m':List (Nat×Ad)}(h:subh m m')(hk:Ci m m'=true)(i:Nat):OSub (hl m i) (hl m' i):=by
 show OSub (DZ m i) (DZ m' i);by_cases h1:m'.any (fun q=>q.1==i)=true
 ·exact UN h i h1
 ·have h2:m.all (fun p=>!(p.1==i))=true:=by
   rw[Da];intro p hp;unfold Ci at hk;rw[Da]at hk;have:=hk p hp;cases e:(p.1==i)
   ·rfl
   ·exfalso;have e':p.1=i:=(by simpa using e);subst e';exact h1 this
  rw[LJ h2,LJ (by
   rw[Da];intro p hp;cases e:(p.1==i)
   ·rfl
   ·exfalso;exact h1 (List.any_eq_true.2 ⟨p,hp,e⟩))]
  exact .refl _
def pick(m:List (Nat×Aa)):List Nat->List (Nat×Aa)
 |[]=>[]
 |i :: r=>(i,look m i) :: pick m r
theorem UO(m:List (Nat×Aa)):∀l,subm m (pick m l)
 |[]=>trivial
 |i :: r=>⟨BG _,UO m r⟩
def Bx(m:List (Nat×Ad)):List Nat->List (Nat×Ad)
 |[]=>[]
 |i :: r=>(i,DZ m i) :: Bx m r
theorem UP(m:List (Nat×Ad)):∀l,subh m (Bx m l)
 |[]=>trivial
 |i :: r=>⟨yza _,UP m r⟩
section
variable {ρ:Option Nat}{m:List (Nat×Aa)}
theorem See.sp(h1:subm m m')(h2:subh hm hm')(h3:Ci hm hm'=true):See E ⟨tl m n,hl hm,[]⟩ ⟨tl m' n,hl hm',[]⟩:=by refine .trans (S':=⟨tl m' n,hl hm,[]⟩) (fun g a w hs=>⟨g,⟨hs.hr,UL h1 hs.tm,hs.df,hs.dk,hs.dn⟩,.refl _ _ _⟩) ?_;exact .of_sub ⟨.refl _,fun i=>wzta h2 h3 i,rfl,by intro D hD;cases hD⟩
theorem AW.srk(live ids:List Nat)(h:areg E P ops S (fun S'=>S'=⟨tl m n,hl hm,[]⟩))(e1:pick m live=m')(e2:Bx hm ids=hm')(e3:Ci hm hm'=true)(k:AW E ρ P b Q ⟨tl m' n,hl hm',[]⟩):AW E ρ P (.seq (.reg false ops pr) b) Q S:=.sr h (.see (.sp (e1▸UO m live) (e2▸UP hm ids) e3) k)
theorem AW.lp{c:AO}(im:α->List (Nat×Aa))(ih:α->List (Nat×Ad))(Z:α->Nat)(I:α->Prop)(x₀:α)(h₀:I x₀)(s1:subm m (im x₀))(s2:subh hm (ih x₀))(s3:Ci hm (ih x₀)=true)(round:∀x,I x->AW E ρ P c (Ay (fun S'=>∃x',I x'/\Z x'<Z x/\See E S' ⟨tl (im x') n,hl (ih x'),[]⟩) Q) ⟨tl (im x) n,hl (ih x),[]⟩):AW E ρ P (.loop c) Q ⟨tl m n,hl hm,[]⟩ :=
 .loop (fun x=>⟨tl (im x) n,hl (ih x),[]⟩) Z I x₀ h₀ (.sp s1 s2 s3) round
theorem Pure.ofs{c:Code}{rs:List ARes}(hf:P.funcs[f]?=some fn)(hb:fn.body=some c)(hr:D7 P fn.results.toList rs=true)(hc:AH P c ac=true)(hm:zipA 0 args=m) (hn:fn.ntmps=n) (aC:args.length<=n) (hw:AW E none P ac (Post E rs (fun v _=>v=r)) ⟨tl m n,hl [],[]⟩):Pure E P f args r :=
 .of hf hb hr hc (n-args.length) (by omega) (by rw[Ib,hm,show args.length+(n-args.length)=n by omega];exact hw)
end
theorem jz6:Cw (.agg l)=some l:=rfl
theorem jz7{n:Int}:Cw (.int k n)=some [(.int k n)]:=rfl
theorem jzo{b:Bool}:Cw (.bool b)=some [(.bool b)]:=rfl
theorem jz0:Cw (.str s)=some [(.str s)]:=rfl
theorem jzf :Cw .nils=some [.nils]:=rfl
theorem jz2{f:Nat->List Aa}:Cw (.slc st n f)=some [(.slc st n f)]:=rfl
theorem jz4:Cw (.vec i e o n)=some [(.vec i e o n)]:=rfl
theorem jzx:Cw (.ptr i e o)=some [(.ptr i e o)]:=rfl
theorem jzn{k:Nat}:Cw (.eptr i e k o)=some [(.eptr i e k o)]:=rfl
theorem jzm{f:Nat->Aa}{l:Nat}:Cw (.cptr f l o)=some [(.cptr f l o)]:=rfl
theorem jzk :Cw .nilp=some [.nilp]:=rfl
theorem kzy:Cw (.fn f nb l)=some [(.fn f nb l)]:=rfl
theorem wz4 :Cw .nilfn=some [.nilfn]:=rfl
theorem kz1:Cw (.mp i e)=some [(.mp i e)]:=rfl
theorem wz2 :Cw .nilmp=some [.nilmp]:=rfl
theorem ATr.frameW{hs ht:Aq}(hE:∀i,AE (E i))(lk:∀i,i∉F->hs i=.gone 0)(ha:∀x,x∈args->BQ F x)(ho:∀i,i∈F->LH F (hs i))(gO:∀i,i∈F->LH F (ht i))(bK:∀i,i∈F->(ht i).ep=(hs i).ep)(aU:∀i,i∈F->(ht i).owned=(hs i).owned)(hr:AE r)(H:ATr E P f args hs (fun v h'=>v=r/\∀i,i∈F->h' i=ht i)) (h:Aq) (dG:∀i,i∈F->h i=hs i):ATr E P f args h (fun v h'=>v=r/\h'=fun i=>if i∈F then ht i else h i):=by
 intro g w vs hh hv
 let g0:Gh:=⟨fun i=>if i∈F then g.blk i else 0,fun i=>if i∈F then g.ep i else 0,fun i=>if i∈F then g.bo i else 0,fun i=>if i∈F then g.st i else 0,fun i=>if i∈F then g.cp i else 0,g.fz⟩
 have hA:GAg F g g0:=⟨fun _ h=>h,fun i hi=>⟨Aj hi,Aj hi,Aj hi,Aj hi,Aj hi⟩⟩
 have own:∀i,(hs i).owned=true->i∈F:=fun i hi=>by
  by_cases e:i∈F
  ·exact e
  ·rw[lk i e]at hi;cases hi
 have H0:HR E g0 hs w:=by
  refine⟨fun i=>?_,fun i=>?_,fun i j hi hj e=>?_,fun i hi=>?_,hh.fzb,fun i=>(hh.glob i).ag hA (hE i).refs⟩
  ·by_cases e:i∈F;·have:=hh.obj i;rw[dG i e]at this;exact this.ag hA e (ho i e)
   ·rw[lk i e];trivial
  ·by_cases e:i∈F;·show(if i∈F then g.ep i else 0)=_;rw[Aj e,hh.ep i,dG i e]
   ·show(if i∈F then g.ep i else 0)=_;rw[Ag e,lk i e];rfl
  ·have h1:=own i hi;have h2:=own j hj;have e':(if i∈F then g.blk i else 0)=(if j∈F then g.blk j else 0):=e;rw[Aj h1,Aj h2]at e';exact hh.inj i j (by rw[dG i h1];exact hi) (by rw[dG j h2];exact hj) e'
  ·have h1:=own i hi;show ¬g.fz (if i∈F then g.blk i else 0);rw[Aj h1];exact hh.sep i (by rw[dG i h1];exact hi)
 refine(H g0 w vs H0 (hv.ag hA ha)).mono ?_;rintro e w' ⟨g',h',_,v,⟨rfl,hF⟩,rfl,bB,hH,st⟩
 have gl:∀i,i∈F->g'.blk i=g.blk i/\g'.ep i=g.ep i/\g'.bo i=g.bo i/\g'.st i=g.st i/\g'.cp i=g.cp i:=fun i hi=>by
  have e1:g'.ep i=g0.ep i:=by rw[hH.ep i,hF i hi,bK i hi,H0.ep i]
  obtain⟨a,b,c,d⟩:=st.le.same i e1;obtain⟨a',b',c',d',e'⟩:=hA.pl i hi;exact⟨a.trans a',e1.trans b',b.trans c',c.trans d',d.trans e'⟩
 have bH:∀b,b<w.heap.size->(∀i,i∈F->(hs i).owned=true->g.blk i≠b)->w'.heap[b]?=w.heap[b]?:=fun b hb hn=>st.keep b hb fun i hi e=>by have h1:=own i hi;have e':(if i∈F then g.blk i else 0)=b:=e;rw[Aj h1]at e';exact hn i h1 hi e'
 let g2:Gh:=⟨g.blk,g.ep,g.bo,g.st,g.cp,g'.fz⟩
 have nY:GAg F g' g2:=⟨fun _ h=>h,fun i hi=>by obtain⟨a,b,c,d,e⟩:=gl i hi;exact⟨a.symm,b.symm,c.symm,d.symm,e.symm⟩⟩;have aC:GLe g w g2 w':=⟨fun b hb=>st.le.fz b hb,fun _=>AA _,fun _ _=>⟨rfl,rfl,rfl,rfl⟩⟩;refine⟨g2,_,_,v,⟨rfl,rfl⟩,rfl,RV.ag (F:=[]) (g:=g') (gx:=g2) ⟨fun _ h=>h,fun i hi=>by cases hi⟩ bB hr.refs,?_,⟨aC,st.os,st.tape,st.output,st.size,fun b hb hn=>bH b hb fun i hi dj=>hn i (by rw[dG i hi];exact dj),fun i dj=>.inl ⟨i,?_,rfl⟩,fun b hb=>?_,st.drawn⟩⟩
 ·have ow:∀i,(if i∈F then ht i else h i).owned=true->(h i).owned=true:=fun i hi=>by
   by_cases e:i∈F
   ·rw[Aj e]at hi;rw[dG i e,<-aU i e];exact hi
   ·rw[Ag e]at hi;exact hi
  refine⟨fun i=>?_,fun i=>?_,fun i j hi hj=>hh.inj i j (ow i hi) (ow j hj),fun i hi hf=>?_,hH.fzb,fun i=>(hh.glob i).mono aC⟩
  ·by_cases e:i∈F;·have:=hH.obj i;rw[hF i e]at this;show OR g2 w' i (if i∈F then ht i else h i);rw[Aj e];exact this.ag nY e (gO i e)
   ·show OR g2 w' i (if i∈F then ht i else h i);rw[Ag e];refine(hh.obj i).mono aC rfl fun ho=>bH _ ((hh.obj i).lt ho) fun j hj nZ ej=>?_;have:=hh.inj j i (by rw[dG j hj];exact nZ) ho ej;exact e (this▸hj)
  ·show g.ep i=(if i∈F then ht i else h i).ep;by_cases e:i∈F
   ·rw[Aj e,bK i e,<-dG i e];exact hh.ep i
   ·rw[Ag e];exact hh.ep i
  ·have hi:=ow i hi;have ga:g'.fz (g.blk i):=hf;rcases st.fzn _ ga with h1|⟨j,hj,ej⟩|h3
   ·exact hh.sep i hi h1
   ·have gm:=own j hj;have ej':(if j∈F then g.blk j else 0)=g.blk i:=ej;rw[Aj gm]at ej';have iD:=hh.inj j i (by rw[dG j gm];exact hj) hi ej';subst iD;refine hH.sep j (by rw[hF j gm,aU j gm];exact hj) ?_;rw[(gl j gm).1];exact ga
   ·have:g.blk i<w.heap.size:=(hh.obj i).lt hi;omega
 ·by_cases e:i∈F;·rw[Aj e]at dj;rw[dG i e,<-aU i e];exact dj
  ·rw[Ag e]at dj;exact dj
 ·rcases st.fzn b hb with h1|⟨j,hj,ej⟩|h3;·exact .inl h1
  ·have gm:=own j hj;have ej':(if j∈F then g.blk j else 0)=b:=ej;rw[Aj gm]at ej';exact .inr (.inl ⟨j,by rw[dG j gm];exact hj,ej'⟩)
  ·exact .inr (.inr h3)
inductive MV(i e B k:Nat):Aa->Aa->Prop where
 |refl (x:Aa):MV i e B k x x
 |top (x:Aa):MV i e B k x .top
 |vec (lo n:Nat):MV i e B k (.vec i e lo n) (.vec B k lo n)
 |ptr (off:Nat):MV i e B k (.ptr i e off) (.ptr B k off)
 |mp:MV i e B k (.mp i e) (.mp B k)
 |agg (l l':List Aa) (hl:l'.length=l.length) (h:∀(j:Nat) (x y:Aa),l[j]?=some x->l'[j]?=some y->MV i e B k x y):MV i e B k (.agg l) (.agg l')
def MVl(i e B k:Nat):List Aa->List Aa->Prop
 |[],[]=>True
 |x :: l,y :: m=>MV i e B k x y/\MVl i e B k l m
 |_,_=>False
theorem MVl.refl{i e B k:Nat}:∀l,MVl i e B k l l
 |[]=>trivial
 |x :: l=>⟨.refl x,MVl.refl l⟩
theorem MVl.at{i e B k:Nat}:∀{l m:List Aa},MVl i e B k l m->m.length=l.length/\∀(j:Nat) (x y:Aa),l[j]?=some x->m[j]?=some y->MV i e B k x y
 |[],[],_=>⟨rfl,fun i x y hx _=>by simp at hx⟩
 |x :: l,y :: m,h=>by
  obtain⟨h1,h2⟩:=MVl.at h.2;refine⟨by simp[h1],fun i u v hu hv=>?_⟩;cases i with
  |zero=>simp at hu hv;subst hu;subst hv;exact h.1
  |succ i=>exact h2 i u v (by simpa using hu) (by simpa using hv)
 |[],_ :: _,h=>h.elim
 |_ :: _,[],h=>h.elim
def OM(i e B k:Nat)(x x':Ad):Prop:=x'=x\/(∃f l l',x=.box f l/\x'=.box f l'/\MVl i e B k l l')\/(∃f st n c c',x=.vec f st n c/\x'=.vec f st n c'/\∀j,j<n->MVl i e B k (c j) (c' j)) \/ ∃f es es',x=.amap f es/\x'=.amap f es'/\es'.length=es.length/\∀(j:Nat) (a b:Aa×Aa),es[j]?=some a->es'[j]?=some b->MV i e B k a.1 b.1/\MV i e B k a.2 b.2
def Ad.wep(k:Nat):Ad->Ad
 |.box _ cs=>.box k cs
 |.vec _ st n f=>.vec k st n f
 |.amap _ es=>.amap k es
 |o=>o
def Ad.movable:Ad->Prop
 |.box _ _=>True
 |.vec _ _ _ _=>True
 |.amap _ _=>True
 |_=>False
def mvg(g:Gh)(i B:Nat):Gh := ⟨fun j=>if j=B then g.blk i else g.blk j,fun j=>if j=B then g.ep B+1 else if j=i then g.ep i+1 else g.ep j,fun j=>if j=B then g.bo i else g.bo j,fun j=>if j=B then g.st i else g.st j,fun j=>if j=B then g.cp i else g.cp j,g.fz⟩
theorem UQ(g:Gh)(w:World):GLe g w (mvg g i B) w:=by
 refine⟨fun b hb=>⟨hb,rfl⟩,fun j=>?_,fun j hj=>?_⟩
 ·show g.ep j<=if j=B then g.ep B+1 else if j=i then g.ep i+1 else g.ep j;split
  ·rename_i e;subst e;omega
  ·split;·rename_i e;subst e;omega
   ·exact AA _
 ·have hj:(if j=B then g.ep B+1 else if j=i then g.ep i+1 else g.ep j)=g.ep j:=hj;have hB:j≠B:=fun e=>by subst e;rw[Aj rfl]at hj;omega
  exact⟨Ag hB,Ag hB,Ag hB,Ag hB⟩
theorem MV.rv(hf:MV i (g.ep i) B (g.ep B+1) x y):∀{v:Value},RV g w x v->RV (mvg g i B) w y v:=by
 have eB:(mvg g i B).ep B=g.ep B+1:=Aj rfl;have q1:(mvg g i B).blk B=g.blk i:=Aj rfl;have q2:(mvg g i B).bo B=g.bo i:=Aj rfl;have q3:(mvg g i B).st B=g.st i:=Aj rfl;have q4:(mvg g i B).cp B=g.cp i:=Aj rfl;generalize he:g.ep i=e at hf;generalize hk:g.ep B+1=k at hf;induction hf with
 |refl x=>intro v hv;exact hv.mono (UQ g w)
 |top x=>intro v hv;exact .top v
 |vec lo n =>
  intro v hv;cases hv with
  |vec _ _ _ _ _ h1 h2 h3 =>refine .vec _ _ _ _ _ h1 (by rw[eB,hk];exact AA _) fun _=>?_;obtain⟨a,cap,b1,b2,b3⟩:=h3 he.symm;exact⟨a,cap,b1,b2,by rw[q1,q2,q3,q4];exact b3⟩
 |ptr off =>
  intro v hv;cases hv with
  |ptr _ _ _ _ h1 h2 h3=>exact .ptr _ _ _ _ h1 (by rw[eB,hk];exact AA _) fun _=>by rw[q1];exact h3 he.symm
 |mp =>
  intro v hv;cases hv with
  |mp _ _ _ h1 h2 h3=>exact .mp _ _ _ h1 (by rw[eB,hk];exact AA _) fun _=>by rw[q1];exact h3 he.symm
 |agg l l' hl h ih =>
  intro v hv;cases hv with
  |agg _ a hn hr =>
   refine .agg _ _ (by omega) fun j y u hy hu=>?_;have hi:j<l.length:=by rw[<-hl];exact(A8.1 hy).1
   exact ih j _ y (AF hi) hy (hr j _ u (AF hi) hu)
theorem MVl.rvs{m:List Aa}{a:List Value}(hf:MVl i (g.ep i) B (g.ep B+1) l m)(hv:RVs g w l a):RVs (mvg g i B) w m a:=by
 obtain⟨h1,h2⟩:=hf.at;refine⟨by rw[h1];exact hv.1,fun j y u hy hu=>?_⟩;have hi:j<l.length:=by rw[<-h1];exact(A8.1 hy).1
 exact(h2 j _ y (AF hi) hy).rv (hv.2 j _ u (AF hi) hu)
theorem HR.move{o:Ad}(H:HR E g h w)(eY:i≠B)(hid:h i=o)(hm:o.movable)(hB:(h B).owned=false)(hi:h' i=.gone (o.ep+1))(ki:h' B=o.wep ((h B).ep+1))(ho:∀j,j≠i->j≠B->OM i o.ep B ((h B).ep+1) (h j) (h' j)):HR E (mvg g i B) h' w/\Stp g h w (mvg g i B) h' w:=by
 have aC:=UQ g (i:=i) (B:=B) w;have br:g.ep i=o.ep:=by rw[H.ep i,hid]
 have jn:g.ep B=(h B).ep:=H.ep B;have aU:(h i).owned=true:=by rw[hid];cases o<;>first|rfl|exact hm.elim
 rw[<-br,<-jn]at ho
 have own:∀j,(h' j).owned=true->j≠i/\(j≠B->(h j).owned=true):=by
  intro j hj;have aI:j≠i:=fun e=>by rw[e,hi]at hj;cases hj
  refine⟨aI,fun oa=>?_⟩;rcases ho j aI oa with e|⟨e,l,l',e1,e2,_⟩|⟨e,st,n,f,f',e1,e2,_⟩|⟨e,es,es',e1,e2,_⟩
  ·rw[<-e];exact hj
  ·rw[e1];rfl
  ·rw[e1];rfl
  ·rw[e1];rfl
 have blkB:(mvg g i B).blk B=g.blk i:=Aj rfl;have blkN:∀j,j≠B->(mvg g i B).blk j=g.blk j:=fun j hj=>Ag hj;have epN:∀j,j≠i->j≠B->(mvg g i B).ep j=g.ep j:=fun j h1 h2=>by show(if j=B then _ else if j=i then _ else _)=_;rw[Ag h2,Ag h1]
 refine⟨⟨fun j=>?_,fun j=>?_,fun j k hj hk e=>?_,fun j hj=>?_,H.fzb,fun j=>(H.glob j).mono aC⟩,⟨aC,rfl,rfl,rfl,AA _,fun _ _ _=>rfl,fun j hj=>?_,fun b hb=>.inl hb,AA _⟩⟩
 ·by_cases ei:j=i;·rw[ei,hi];trivial
  by_cases eB:j=B
  ·subst eB;rw[ki];have hO:=H.obj i;rw[hid]at hO;cases o with
   |box e cs =>obtain⟨arr,ty,hr,bB⟩:=hO;exact⟨arr,ty,by rw[blkB];exact hr,bB.mono aC⟩
   |vec e st n f =>obtain⟨aL,h0,b7,arr,ty,hr,aY,aS⟩:=hO;have q2:(mvg g i j).bo j=g.bo i:=Aj rfl;have q3:(mvg g i j).st j=g.st i:=Aj rfl;have q4:(mvg g i j).cp j=g.cp i:=Aj rfl;refine⟨q3.trans aL,h0,by rw[q4];exact b7,arr,ty,by rw[blkB];exact hr,by rw[q2,q4];exact aY,fun k hk=>⟨(aS k hk).1,fun l x v hx hv=>?_⟩⟩;rw[q2]at hv;obtain⟨a,b⟩:=(aS k hk).2 l x v hx hv;exact⟨a,b.mono aC⟩
   |amap e es =>obtain⟨arr,hr,aO,aS⟩:=hO;exact⟨arr,by rw[blkB];exact hr,aO,fun k y m hy hm'=>⟨(aS k y m hy hm').1.mono aC,(aS k y m hy hm').2.1.mono aC,(aS k y m hy hm').2.2⟩⟩
   |_=>exact hm.elim
  ·have hO:=H.obj j;have kX:=epN j ei eB;rcases ho j ei eB with e'|⟨e0,l,l',e1,e2,hf⟩|⟨e0,st,n,f,f',e1,e2,hf⟩|⟨e0,es,es',e1,e2,d7,hf⟩
   ·rw[e'];exact hO.mono aC kX (fun _=>rfl)
   ·rw[e2];rw[e1]at hO;obtain⟨arr,ty,hr,bB⟩:=hO;exact⟨arr,ty,by rw[blkN j eB];exact hr,hf.rvs bB⟩
   ·rw[e2];rw[e1]at hO;obtain⟨aL,h0,b7,arr,ty,hr,aY,aS⟩:=hO;have q2:(mvg g i B).bo j=g.bo j:=Ag eB;have q3:(mvg g i B).st j=g.st j:=Ag eB;have q4:(mvg g i B).cp j=g.cp j:=Ag eB;refine⟨q3.trans aL,h0,by rw[q4];exact b7,arr,ty,by rw[blkN j eB];exact hr,by rw[q2,q4];exact aY,fun k hk=>?_⟩;obtain⟨r1,r2⟩:=(hf k hk).at;refine⟨r1.trans (aS k hk).1,fun l y u hy hu=>?_⟩;rw[q2]at hu;have hi:l<(f k).length:=by rw[<-r1];exact(A8.1 hy).1
    obtain⟨p1,p2⟩:=(aS k hk).2 l _ u (AF hi) hu;exact⟨p1,(r2 l _ y (AF hi) hy).rv p2⟩
   ·rw[e2];rw[e1]at hO;obtain⟨arr,hr,aO,aS⟩:=hO;refine⟨arr,by rw[d7,blkN j eB];exact hr,by rw[d7];exact aO,fun k y m hy hm'=>?_⟩;have hi:k<es.length:=by rw[<-d7];exact(A8.1 hy).1
    obtain⟨p1,p2,p3⟩:=aS k _ m (AF hi) hm';obtain⟨r1,r2⟩:=hf k _ y (AF hi) hy;exact⟨r1.rv p1,r2.rv p2,p3⟩
 ·by_cases ei:j=i;·subst ei;rw[hi];show(if j=B then _ else if j=j then g.ep j+1 else _)=o.ep+1;rw[Ag eY,Aj rfl,br]
  by_cases eB:j=B
  ·subst eB;rw[ki];show(if j=j then g.ep j+1 else _)=_;rw[Aj rfl,jn];cases o<;>first|rfl|exact hm.elim
  ·rw[epN j ei eB,H.ep j];rcases ho j ei eB with e'|⟨e0,l,l',e1,e2,hf⟩|⟨e0,st,n,f,f',e1,e2,hf⟩|⟨e0,es,es',e1,e2,_⟩
   ·rw[e']
   ·rw[e1,e2];rfl
   ·rw[e1,e2];rfl
   ·rw[e1,e2];rfl
 ·obtain⟨j1,j2⟩:=own j hj;obtain⟨k1,k2⟩:=own k hk;by_cases jB:j=B
  ·by_cases kB:k=B;·rw[jB,kB]
   ·rw[jB,blkB,blkN k kB]at e;exact absurd (H.inj i k aU (k2 kB) e).symm k1
  ·by_cases kB:k=B;·rw[kB,blkB,blkN j jB]at e;exact absurd (H.inj j i (j2 jB) aU e) j1
   ·rw[blkN j jB,blkN k kB]at e;exact H.inj j k (j2 jB) (k2 kB) e
 ·obtain⟨j1,j2⟩:=own j hj;by_cases jB:j=B
  ·rw[jB,blkB];exact H.sep i aU
  ·rw[blkN j jB];exact H.sep j (j2 jB)
 ·obtain⟨j1,j2⟩:=own j hj;by_cases jB:j=B
  ·exact .inl ⟨i,aU,by rw[jB,blkB]⟩
  ·exact .inl ⟨j,j2 jB,(blkN j jB).symm⟩
theorem See.move{E:Nat->Aa}{S S':Au}{i B:Nat}{o:Ad}(eY:i≠B)(hid:S.h i=o)(hm:o.movable)(hB:(S.h B).owned=false)(hi:S'.h i=.gone (o.ep+1))(ki:S'.h B=o.wep ((S.h B).ep+1))(ho:∀j,j≠i->j≠B->OM i o.ep B ((S.h B).ep+1) (S.h j) (S'.h j)) (ht:MVl i o.ep B ((S.h B).ep+1) S.t S'.t) (d6:S.ds=[]) (gP:S'.ds=[]):See E S S':=by
 intro g a w hs;obtain⟨H',st'⟩:=hs.hr.move eY hid hm hB hi ki ho;have e1:g.ep i=o.ep:=by rw[hs.hr.ep i,hid]
 have e2:g.ep B=(S.h B).ep:=hs.hr.ep B;rw[<-e1,<-e2]at ht;refine⟨mvg g i B,⟨H',ht.rvs hs.tm,by rw[gP,hs.df,d6];rfl,(fun D hD=>by rw[gP]at hD;cases hD),by rw[gP];exact .nil⟩,st'⟩
def lkx:List (Nat×Ad)->Aq->Nat->Ad
 |[],h,i=>h i
 |p :: r,h,i=>if p.1=i then p.2 else lkx r h i
def hx(m:List (Nat×Ad))(h:Aq):Aq:=fun i=>lkx m h i
theorem Dk(m:List (Nat×Ad))(h:Aq)(i:Nat)(o:Ad):hset (hx m h) i o=hx ((i,o) :: m) h:=by
 funext j;simp only[hset,hx,lkx];by_cases e:j=i
 ·subst e;simp
 ·have e':¬i=j:=fun k=>e k.symm;simp[e,e']
theorem Cz(m:List (Nat×Ad))(h:Aq)(i:Nat):hx m h i=lkx m h i:=rfl
theorem LK{b:Nat}(hm:m.all (fun p=>Nat.blt p.1 b)=true)(hi:b<=i):hx m h i=h i:=by
 show lkx m h i=h i;induction m with
 |nil=>rfl
 |cons p r ih =>
  simp only[List.all_cons,AI,Gu]at hm;have:¬p.1=i:=by have:=hm.1;omega
  simp only[lkx,Ag this];exact ih hm.2
def subx(m:List (Nat×Ad))(h:Aq):List (Nat×Ad)->Prop
 |[]=>True
 |p :: r=>osub (lkx m h p.1) p.2/\subx m h r
theorem EN(hm:m.all (fun p=>!(p.1==i))=true):lkx m h i=h i:=by
 induction m with
 |nil=>rfl
 |cons p r ih =>simp only[List.all_cons,AI,H5,beq_eq_false_iff_ne,ne_eq]at hm;simp only[lkx,Ag hm.1];exact ih (by simpa using hm.2)
theorem UR{m:List (Nat×Ad)}{h h':Aq}:∀{r:List (Nat×Ad)},subx m h r->∀i,r.any (fun q=>q.1==i)=true->OSub (lkx m h i) (lkx r h' i)
 |[],_,i,hi=>by simp at hi
 |p :: r,hs,i,hi=>by
  simp only[lkx];split
  ·rename_i e;subst e;exact UM hs.1
  ·rename_i e;refine UR hs.2 i ?_;simpa [e] using hi
theorem wzto{m':List (Nat×Ad)}(hs:subx m h m')(hk:Ci m m'=true)(i:Nat):OSub (hx m h i) (hx m' h i):=by
 show OSub (lkx m h i) (lkx m' h i);by_cases h1:m'.any (fun q=>q.1==i)=true
 ·exact UR hs i h1
 ·have h2:m.all (fun p=>!(p.1==i))=true:=by
   rw[Da];intro p hp;unfold Ci at hk;rw[Da]at hk;have:=hk p hp;cases e:(p.1==i)
   ·rfl
   ·exfalso;have e':p.1=i:=(by simpa using e);subst e';exact h1 this
  rw[EN h2,EN (by
   rw[Da];intro p hp;cases e:(p.1==i)
   ·rfl
   ·exfalso;exact h1 (List.any_eq_true.2 ⟨p,hp,e⟩))]
  exact .refl _
section
variable {ρ:Option Nat}{m:List (Nat×Aa)}
theorem See.spx(h1:subm m m')(h2:subx hm h hm')(h3:Ci hm hm'=true):See E ⟨tl m n,hx hm h,[]⟩ ⟨tl m' n,hx hm' h,[]⟩:=by refine .trans (S':=⟨tl m' n,hx hm h,[]⟩) (fun g a w hs=>⟨g,⟨hs.hr,UL h1 hs.tm,hs.df,hs.dk,hs.dn⟩,.refl _ _ _⟩) ?_;exact .of_sub ⟨.refl _,fun i=>wzto h2 h3 i,rfl,by intro D hD;cases hD⟩
theorem AW.lph{c:AO}(im:α->List (Nat×Aa))(ih:α->List (Nat×Ad))(iH:α->Aq)(Z:α->Nat)(I:α->Prop)(x₀:α)(h₀:I x₀)(s0:iH x₀=h)(s1:subm m (im x₀))(s2:subx hm h (ih x₀))(s3:Ci hm (ih x₀)=true)(round:∀x,I x->AW E ρ P c (Ay (fun S'=>∃x',I x'/\Z x'<Z x/\See E S' ⟨tl (im x') n,hx (ih x') (iH x'),[]⟩) Q) ⟨tl (im x) n,hx (ih x) (iH x),[]⟩):AW E ρ P (.loop c) Q ⟨tl m n,hx hm h,[]⟩ :=
 .loop (fun x=>⟨tl (im x) n,hx (ih x) (iH x),[]⟩) Z I x₀ h₀ (by rw[s0];exact .spx s1 s2 s3) round
end
def mv1(i e B k:Nat):Aa->Aa
 |.vec j f lo n=>if j=i/\f=e then .vec B k lo n else .vec j f lo n
 |.ptr j f off=>if j=i/\f=e then .ptr B k off else .ptr j f off
 |.mp j f=>if j=i/\f=e then .mp B k else .mp j f
 |x=>x
theorem LL(i e B k:Nat)(x:Aa):MV i e B k x (mv1 i e B k x):=by
 cases x with
 |vec j f lo n =>
  show MV i e B k _ (if j=i/\f=e then _ else _);split
  ·rename_i h;rw[h.1,h.2];exact .vec lo n
  ·exact .refl _
 |ptr j f off =>
  show MV i e B k _ (if j=i/\f=e then _ else _);split
  ·rename_i h;rw[h.1,h.2];exact .ptr off
  ·exact .refl _
 |mp j f =>
  show MV i e B k _ (if j=i/\f=e then _ else _);split
  ·rename_i h;rw[h.1,h.2];exact .mp
  ·exact .refl _
 |_=>exact .refl _
theorem Pc(i e B k:Nat):∀l:List Aa,MVl i e B k l (l.map (mv1 i e B k))
 |[]=>trivial
 |x :: l=>⟨LL i e B k x,Pc i e B k l⟩
def mvO(i e B k:Nat):Ad->Ad
 |.box f cs=>.box f (cs.map (mv1 i e B k))
 |.vec f st n c=>.vec f st n (fun j=>(c j).map (mv1 i e B k))
 |.amap f es=>.amap f (es.map fun p=>(mv1 i e B k p.1,mv1 i e B k p.2))
 |o=>o
theorem wzt5(i e B k:Nat)(o:Ad):OM i e B k o (mvO i e B k o):=by
 cases o with
 |box f cs=>exact .inr (.inl ⟨f,cs,_,rfl,rfl,Pc i e B k cs⟩)
 |vec f st n c=>exact .inr (.inr (.inl ⟨f,st,n,c,_,rfl,rfl,fun j _=>Pc i e B k (c j)⟩))
 |amap f es =>refine .inr (.inr (.inr ⟨f,es,_,rfl,rfl,by simp,fun j a b ha hb=>?_⟩));rw[H6,ha]at hb;cases hb;exact⟨LL i e B k a.1,LL i e B k a.2⟩
 |_=>exact .inl rfl
theorem wzud(i e B k:Nat)(m:List (Nat×Aa))(n:Nat):MVl i e B k (tl m n) (tl (m.map fun p=>(p.1,mv1 i e B k p.2)) n):=by
 have key:∀(x:Nat),MV i e B k (look m x) (look (m.map fun p=>(p.1,mv1 i e B k p.2)) x):=fun x=>by
  induction m with
  |nil=>exact .refl _
  |cons p m ih =>
   show MV i e B k (if p.1=x then p.2 else look m x) (if p.1=x then mv1 i e B k p.2 else look _ x);split
   ·exact LL i e B k p.2
   ·exact ih
 unfold tl;generalize List.range n=r;induction r with
 |nil=>trivial
 |cons x r ih=>exact⟨key x,ih⟩
theorem wzqf(i e B k:Nat)(hm:List (Nat×Ad))(h:Aq)(j:Nat):OM i e B k (lkx hm h j) (lkx (hm.map fun p=>(p.1,mvO i e B k p.2)) h j):=by
 induction hm with
 |nil=>exact .inl rfl
 |cons p hm ih =>
  show OM i e B k (if p.1=j then p.2 else lkx hm h j) (if p.1=j then mvO i e B k p.2 else lkx _ h j);split
  ·exact wzt5 i e B k p.2
  ·exact ih
theorem See.mvx{m:List (Nat×Aa)}{o:Ad}(ef:o.movable)(eY:i≠B)(hB:hm.all (fun p=>!(p.1==B))=true)(hh:(h B).owned=false) :
  See E ⟨tl m n,hx ((i,o) :: hm) h,[]⟩ ⟨tl (m.map fun p=>(p.1,mv1 i o.ep B ((h B).ep+1) p.2)) n,hx ((i,.gone (o.ep+1)) :: hm.map fun p=>(p.1,mvO i o.ep B ((h B).ep+1) p.2)) (hset h B (o.wep ((h B).ep+1))),[]⟩:=by
 have eB:Au.h ⟨tl m n,hx ((i,o) :: hm) h,[]⟩ B=h B:=by show(if i=B then o else lkx hm h B)=h B;rw[Ag eY,EN hB]
 have oc:(hm.map fun p=>(p.1,mvO i o.ep B ((h B).ep+1) p.2)).all (fun p=>!(p.1==B))=true:=by rw[List.all_map];exact hB
 have eo:hx ((i,o) :: hm) h i=o:=by show(if i=i then o else lkx hm h i)=o;rw[Aj rfl]
 refine See.move (i:=i) (B:=B) (o:=o) eY eo ef (by rw[eB];exact hh) ?_ ?_ (fun j iE jo=>?_) (by rw[eB];exact wzud ..) rfl rfl
 ·show(if i=i then Ad.gone (o.ep+1) else _)=_;rw[Aj rfl]
 ·show(if i=B then _ else lkx _ (hset h B (o.wep ((h B).ep+1))) B)=_;rw[Ag eY,EN oc,eB];show(if B=B then _ else _)=_;rw[Aj rfl]
 ·rw[eB];show OM i o.ep B ((h B).ep+1) (if i=j then o else lkx hm h j) (if i=j then _ else lkx (hm.map fun p=>(p.1,mvO i o.ep B ((h B).ep+1) p.2)) (hset h B (o.wep ((h B).ep+1))) j);rw[Ag (Ne.symm iE),Ag (Ne.symm iE)]
  have e2:∀l:List (Nat×Ad),lkx l (hset h B (o.wep ((h B).ep+1))) j=lkx l h j:=fun l=>by
   induction l with
   |nil=>show(if j=B then _ else h j)=h j;rw[Ag jo]
   |cons p l ih=>simp only[lkx,ih]
  rw[e2];exact wzqf ..
end Go.Am

