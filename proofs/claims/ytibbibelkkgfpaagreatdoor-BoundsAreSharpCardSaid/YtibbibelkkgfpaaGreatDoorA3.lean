/- Part A3: an abstract machine proved sound over the calculus of the guide. No condition. -/
import Derived.Test.YtibbibelkkgfpaaGreatDoorA1
import Derived.RangeFuncRecord
set_option linter.unusedSimpArgs false
set_option linter.unusedVariables false
namespace Go.Am
variable {α:Type}{P:Program}{ops:Array Oper}{o:Oper}{a:Act}{op:Op}{f:FuncId}{args caps k t t' xs:List Aa}{x' y:Ae}{g:Gh}{w:World}{S S':Au}{K:Au->Prop}{Q:Exit->Au->Prop}{ats:Array TypeId}{x v v':Aa}{nb id i n:Nat}{l:List Ae}{ao:Ak}{m:List Ak}{c:Code}{h h':Aq}{tmps:Array Value}{fn:Func}{R:Nat->List Nat}{E V:Nat->Aa}{out:Option (Nat×Ad)}{ob:Ad}{L L':Nat->Bool}{listed:Array Bool}{preds:List (List Nat)}{O:Nat->Option (Nat×Ad)}
def Ao.quiet:Ao->Bool
 |.mkmap _ | .mupd _ _ _ _ | .mrange _ _ | .mnext _ | .alloc _ _ | .box _ _ | .bslice _ _ _ _ _ | .store _ _ _ | .append _ _ _ _ _ | .s2b _ _ | .mks _ _ _ _ _ | .copy _ _ _ | .clear _ _ | .callf _ _ | .callv _ _=>false
 |_=>true
theorem wzh1(o:Ao)(hq:o.quiet=true)(ar:Ae->Aa)(h:Aq):∀i ob,(o.req ar h).out=some (i,ob)->ob=h i:=by
 by_cases hf:∃s st nn zero ps,o=.fslice s st nn zero ps
 ·obtain⟨s,st,nn,zero,ps,rfl⟩:=hf;intro i ob ho;simp only[Ao.req]at ho;cases hp:D0 ar zero ps<;>simp only[hp,Req.fail]at ho
  ·cases ho
  ·simp only[Ba,BB]at ho;obtain⟨rfl,rfl⟩:=ho;rfl
 have:(o.req ar h).out=none:=by cases o<;>simp only[Ao.quiet]at hq<;>(try (cases hq;done))<;>(try exact absurd ⟨_,_,_,_,_,rfl⟩ hf)<;>simp only[Ao.req,Req.val,Req.when,Req.fail,Lm,Ju,Jv,yzk,D2,D3,EB,HH,Ln]<;>(repeat' split)<;>rfl
 intro i ob ho;rw[this]at ho;cases ho
def Ao.isCall:Ao->Bool
 |.callf _ _ | .callv _ _ | .mnext _=>true
 |_=>false
def CY(P:Program)(f:FuncId):Bool:=match P.funcs[f]? with
 | some fn => fn.body.isSome && fn.name != "runtime.NumGoroutine"
 |none=>false
def EJ(E:Nat->Aa)(P:Program)(c:Bool)(t:List Aa)(h:Aq)(ds:List (Nat×Nat))(xs:List Ae)(f:FuncId)(args:List Aa)(K:Aa->Aq->Prop):Prop := (∃v,(c=true->BT c t xs/\ATr E P f args h (fun v' h'=>v'=v/\h'=h))/\K (.cnd c v) h) \/ ((c=true->BT c t xs/\ATr E P f args h (fun v h'=>(∀D∈ds,h' D.1=.dfr D.2)/\K (.cnd true v) h'))/\(c=false->K (.cnd false .top) h))
def G4(x:Aa)(h:Aq)(K:Aa->Aq->Prop):Prop :=
 match x with
 |.ptr id ep 0=>match h id with
  |.miter ep' (some (M,eM,n)) seen=>match h M with
   |.amap eM' es=>ep=ep'/\eM=eM'/\es.length=n /\
    (∀k,k<n->k∉seen->K (.tup [.bool true,(es.getD k (.top,.top)).1,(es.getD k (.top,.top)).2]) (hset h id (.miter ep' (some (M,eM,n)) (seen++[k])))) /\
    ((∀k,k<n->k∈seen)->K (.tup [.bool false]) h)
   |_=>False
  |.miter ep' none _=>ep=ep'/\K (.tup [.bool false]) h
  |_=>False
 |_=>False
def fnArgs(nb:Nat)(as caps:List α):List α:=caps.take nb++as++caps.drop nb
def aop(E:Nat->Aa)(P:Program)(o:Ak)(S:Au)(K:Au->Prop):Prop :=
 match o.guard with
 |none=>match o.op with
  |.callf f args=>ATr E P f (args.map (Ah E S.t)) S.h (fun v h'=>(∀D∈S.ds,h' D.1=.dfr D.2)/\K ⟨putT S.t o.dst v,h',S.ds⟩)
  |.callv x args=>match Ah E S.t x with
   |.fn f nb caps=>CY P f=true/\ATr E P f (fnArgs nb (args.map (Ah E S.t)) caps) S.h (fun v h'=>(∀D∈S.ds,h' D.1=.dfr D.2)/\K ⟨putT S.t o.dst v,h',S.ds⟩)
   |_=>False
  |.mnext x=>G4 (Ah E S.t x) S.h (fun v h'=>K ⟨putT S.t o.dst v,h',S.ds⟩)
  |op=>(op.req (Ah E S.t) S.h).ok/\K ⟨putT S.t o.dst (op.req (Ah E S.t) S.h).v,putH S.h (op.req (Ah E S.t) S.h).out,S.ds⟩
 |some (tg,want)=>match HC (S.t.getD tg .top) want with
  |none=>False
  |some c=>match o.op with
   |.callf f args=>EJ E P c S.t S.h S.ds args f (args.map (argU E S.t)) (fun v h'=>K ⟨putT S.t o.dst v,h',S.ds⟩)
   | .callv x args=>(c=false->K ⟨putT S.t o.dst (.cnd false .top),S.h,S.ds⟩)/\(c=true->match argU E S.t x with
    |.fn f nb caps=>CY P f=true/\EJ E P c S.t S.h S.ds (x :: args) f (fnArgs nb (args.map (argU E S.t)) caps) (fun v h'=>K ⟨putT S.t o.dst v,h',S.ds⟩)
    | _=>False)
   |.mnext _=>False
   |op=>op.quiet=true/\(c=true->op.unAll E c S.t/\(op.req (argU E S.t) S.h).ok)/\K ⟨putT S.t o.dst (.cnd c (op.req (argU E S.t) S.h).v),S.h,S.ds⟩
def areg(E:Nat->Aa)(P:Program):List Ak->Au->(Au->Prop)->Prop
 |[],S,K=>K S
 |o :: r,S,K=>aop E P o S (fun S'=>areg E P r S' K)
def yzb(P:Program)(o:Op)(a:Ao):Bool :=
 match o,a with
 |.call { callee:=.value (.func f),args,.. },.callf f' args'=>f==f'&&CY P f&&CI args.toList args'
 |.call { callee:=.value x,args,.. },.callv x' args'=>A7 x x'&&CI args.toList args'
 |.next x false,.mnext x'=>A7 x x'
 |o,a=>yzx P o a
def G5(P:Program)(ops:Array Oper)(o:Oper)(a:Ak):Bool :=
 o.dst==a.dst&&(match o.guard,a.guard with
  |none,none=>true
  |some (j,want),some (tg,want')=>want==want'&&((ops[j]?).bind (·.dst))==some tg
  | _,_=>false)&&yzb P o.op a.op
theorem Uk{a:Ak}(h:G5 P ops o a=true):Ak.Ok P ops o a/\yzb P o.op a.op=true:=by
 simp only[G5,AI,Bu]at h;obtain⟨⟨h1,h2⟩,h3⟩:=h;refine⟨⟨h1,?_⟩,h3⟩;cases hg:o.guard with
 |none =>
  cases iu:a.guard with
  |none=>rfl
  |some x=>simp[hg,iu]at h2
 |some x =>
  obtain⟨j,want⟩:=x;cases iu:a.guard with
  |none=>simp[hg,iu]at h2
  |some y =>obtain⟨tg,want'⟩:=y;simp only[hg,iu,AI,Bu]at h2;obtain⟨rfl,h4⟩:=h2;exact⟨j,rfl,h4⟩
theorem Ul{args:List Ae}(h:yzb P op (.callf f args)=true) : ∃as ats,op=.call { callee:=.value (.func f),args:=as,argTypes:=ats }/\CY P f=true/\CI as.toList args=true:=by
 cases op<;>simp only[yzb,yzx]at h<;>(try (cases h;done));rename_i c;obtain⟨callee,as,ats⟩:=c;cases callee with
 |value x =>cases x<;>simp only[yzb,yzx]at h<;>(try (cases h;done));simp only[AI,Bu]at h;obtain⟨⟨rfl,he⟩,ha⟩:=h;exact⟨as,ats,rfl,he,ha⟩
 |invoke r m=>simp only[yzb,yzx]at h;cases h
 |builtin b=>cases b<;>simp only[yzb,yzx]at h<;>cases h
theorem Um{args:List Ae}(h:yzb P op (.callv x' args)=true) : ∃x as ats,op=.call { callee:=.value x,args:=as,argTypes:=ats }/\A7 x x'=true/\CI as.toList args=true:=by
 cases op<;>simp only[yzb,yzx]at h<;>(try (cases h;done));rename_i c;obtain⟨callee,as,ats⟩:=c;cases callee with
 |value x =>cases x<;>simp only[yzb,yzx,AI]at h<;>exact⟨_,as,ats,rfl,h.1,h.2⟩
 |invoke r m=>simp only[yzb,yzx]at h;cases h
 |builtin b=>cases b<;>simp only[yzb,yzx]at h<;>cases h
theorem qz7l(h:yzb P op (.mnext x')=true):∃x,op=.next x false/\A7 x x'=true:=by
 cases op<;>simp only[yzb,yzx]at h<;>(try (cases h;done))
 case next x b =>
  cases b<;>simp only[yzb,yzx]at h
  ·exact⟨x,rfl,h⟩
  ·cases h
theorem OO{a:Ao}(h:yzb P op a=true)(cH:a.isCall=false):yzx P op a=true:=by
 unfold yzb at h;split at h
 ·cases cH
 ·cases cH
 ·cases cH
 ·exact h
section
variable {ρ:Option Nat}
theorem Un(h:CY P f=true)(args:Array Value)(w:World):(callFunc f args).run P w=.ok (.enter f args) w:=by
 unfold CY at h
 cases hf:P.funcs[f]? with
 |none=>simp[hf]at h
 |some fn =>
  simp only[hf,AI,bne_iff_ne,ne_eq]at h
  obtain⟨h1,h2⟩:=h
  have jg : (fn.name == "runtime.NumGoroutine") = false := by simpa using h2
  have h3:fn.body.isNone=false:=by cases hb:fn.body<;>simp[hb]at h1 |-
  simp only[callFunc,Sem.run_bind,run_program,Result.andThen_ok,hf,jg,h3,J3,CG,Sem.run_pure]
theorem LA{vs:List Value}(hs:SR E g S a w)(hd:∀c,o.op≠.defer c)(aP:(execOp a.eval o).run P w=.ok (.enter f vs.toArray) w) (hv:RVs g w args vs)  {y:Aa->Aa} (hy:∀g' w' r v,RV g' w' r v->RV g' w' (y r) v)(h:ATr E P f args S.h (fun v h'=>(∀D∈S.ds,h' D.1=.dfr D.2)/\K ⟨putT S.t o.dst (y v),h',S.ds⟩)) {Q:Exit->Act->World->Prop} :
  o.wpIn (FW ρ) 0 P a w (fun a' w'=>∃g' S',K S'/\SR E g' S' a' w'/\Stp g S.h w g' S'.h w') Q:=by
 refine⟨fun f _=>trivial,?_⟩;rw[Oper.semAt_eq _ _ _ hd,aP];refine⟨fun kV=>absurd kV (qzvj ρ),?_⟩;rw[Tn];refine(h g w vs hs.hr hv).mono ?_;rintro e w' ⟨g',h',r,v,⟨d6,hK⟩,rfl,bB,H',st⟩;refine⟨g',_,hK,⟨H',L7 (hs.tm.mono st.le) o.dst (hy _ _ _ _ bB),?_,d6,hs.dn⟩,st⟩;rw[L8,hs.df];refine H8 fun D hD=>?_;have h1:=hs.hr.ep D.1;have h2:=H'.ep D.1;rw[hs.dk D hD]at h1;rw[d6 D hD]at h2;rw[(st.le.same D.1 (h2.trans h1.symm)).1]
theorem Uo{args:Array Operand}(ho:o.op=.call { callee:=.value (.func f),args,argTypes:=ats })(he:CY P f=true)(a:Act)(w:World) : (execOp a.eval o).run P w=.ok (.enter f (args.toList.map a.eval).toArray) w:=by
 have e:(args.map a.eval)=(args.toList.map a.eval).toArray:=by apply Array.ext';simp
 simp only[execOp,ho,Sem.run_bind,resolve,Act.eval,Deferred.ofValue,Sem.run_pure,Result.andThen_ok,invoke,Array.empty_append,Array.append_empty,e,Un he]
theorem Up{x:Operand}{caps:Array Value}{args:Array Operand}(ho:o.op=.call { callee:=.value x,args,argTypes:=ats })(he:CY P f=true)(a:Act)(w:World)(hx:a.eval x=.func (.func f) (caps.toList.take nb).toArray (caps.toList.drop nb).toArray) : (execOp a.eval o).run P w=.ok (.enter f (fnArgs nb (args.toList.map a.eval) caps.toList).toArray) w:=by
 have e:(caps.toList.take nb).toArray++(args.map a.eval)++(caps.toList.drop nb).toArray=(fnArgs nb (args.toList.map a.eval) caps.toList).toArray:=by apply Array.ext';simp[fnArgs]
 simp only[execOp,ho,Sem.run_bind,resolve,hx,Deferred.ofValue,Sem.run_pure,Result.andThen_ok,invoke,e,Un he]
theorem Uq{v:Value}(h:RV g w (.fn f nb caps) v):∃arr:Array Value,v=.func (.func f) (arr.toList.take nb).toArray (arr.toList.drop nb).toArray/\RVs g w caps arr.toList:=by
 cases h with
 |fn _ _ _ arr hn hr=>exact⟨arr,rfl,by simpa using hn,fun i x v hx hv=>hr i x v hx (by simpa using hv)⟩
theorem RVs.fnArgs{as:List Aa}{l a:List Value}(h:RVs g w as l)(k:RVs g w caps a):RVs g w (fnArgs nb as caps) (fnArgs nb l a) := ((k.take nb).append h).append (k.drop nb)
theorem OP{g:Gh}{a:Act}{w:World}{S:Au}(hs:SR E g S a w){c:Bool}(hc:c=true):∀{l:List Operand} {m:List Ae},CI l m=true->BT c S.t m->RVs g w (m.map (argU E S.t)) (l.map a.eval)
 |[],[],_,_=>.nil g w
 |x :: l,y :: m,h,hu=>by
  simp only[CI,AI]at h
  have h1:RV g w (argU E S.t y) (a.eval x):=by
   have:=AY hs.hr hs.tm h.1;cases y with
   |t n=>exact Dh this hu.1 hc
   |c v=>exact this
   |g i=>exact this
  have h2:BT c S.t m:=by
   cases y with
   |t n=>exact hu.2
   |c v=>exact hu
   |g i=>exact hu
  exact .cons h1 (OP hs hc h.2 h2)
 |[],_ :: _,h,_=>by cases h
 |_ :: _,[],h,_=>by cases h
theorem OQ(bY:G5 P ops o ao=true)(h:aop E P ao S K)(hs:SR E g S a w){Q:Exit->Act->World->Prop} :
    if Region.wanted o (yielded ops a.tmps) then o.wpIn (FW ρ) 0 P a w (fun a' w'=>∃g' S',K S'/\SR E g' S' a' w'/\Stp g S.h w g' S'.h w') Q
    else(∀f,o.about P w a.eval=some f->(FW ρ).fn f)/\(∃g' S',K S'/\SR E g' S' (a.put o.dst undef) w/\Stp g S.h w g' S'.h w):=by
  obtain⟨hk,dc⟩:=Uk bY;have bQ:=hk.dst;unfold aop at h;cases hg:ao.guard with
  |none =>
    simp only[hg]at h;have dX:o.guard=none:=by have:=hk.grd;rw[hg]at this;exact this
    rw[Aj (ON (ops:=ops) dX _)];cases cH:ao.op.isCall with
    |false =>
      have hc:=OO dc cH;have h':(ao.op.req (Ah E S.t) S.h).ok/\K ⟨putT S.t ao.dst (ao.op.req (Ah E S.t) S.h).v,putH S.h (ao.op.req (Ah E S.t) S.h).out,S.ds⟩:=by cases aT:ao.op<;>simp only[aT]at h cH |-<;>first|exact h|(cases cH;done)
      have:=qz5p (E:=E) (ρ:=ρ) (P:=P) (ops:=ops) hc hk hg h'.1 g a w S hs (fun _ _=>rfl) (fun _ _=>rfl) (fun a' w'=>∃g' S',K S'/\SR E g' S' a' w'/\Stp g S.h w g' S'.h w') Q (fun g' a' w' h1 h2=>⟨g',_,by rw[bQ];exact h'.2,h1,h2⟩)
      rwa [Aj (ON (ops:=ops) dX _)]at this
    |true =>
      cases aT:ao.op<;>simp only[aT,Ao.isCall]at cH<;>(try (cases cH;done))
      case callf f args =>simp only[aT]at h dc;obtain⟨as,ats,ho,he,ha⟩:=Ul dc;rw[<-bQ]at h;exact LA hs (fun c hc=>by rw[ho]at hc;cases hc) (Uo ho he a w) (Lz hs.hr (fun x y bV=>AY hs.hr hs.tm bV) ha) (y:=id) (fun _ _ _ _ h=>h) h
      case callv x args =>
        simp only[aT]at h dc;obtain⟨x0,as,ats,ho,hx,ha⟩:=Um dc;rw[<-bQ]at h;have rx:=AY hs.hr hs.tm hx;split at h
        · rename_i f nb caps jh
          rw[jh]at rx;obtain⟨arr,hv,ji⟩:=Uq rx;exact LA hs (fun c hc=>by rw[ho]at hc;cases hc) (Up ho h.1 a w hv) (RVs.fnArgs (Lz hs.hr (fun x y bV=>AY hs.hr hs.tm bV) ha) ji) (y:=id) (fun _ _ _ _ h=>h) h.2
        · exact h.elim
      case mnext x =>
        simp only[aT]at h dc;obtain⟨x0,ho,hx⟩:=qz7l dc;rw[<-bQ]at h;have dD:∀c,o.op≠.defer c:=fun c hc=>by rw[ho]at hc;cases hc
        have over:∀{v:Value},v=.tuple #[.bool false]->(execOp a.eval o).run P w=.ok (.value v) w->K ⟨putT S.t o.dst (.tup [.bool false]),S.h,S.ds⟩->o.wpIn (FW ρ) 0 P a w (fun a' w'=>∃g' S',K S'/\SR E g' S' a' w'/\Stp g S.h w g' S'.h w') Q:=by
          rintro v rfl aP hK;refine L9 (r:=⟨True,[],.tup [.bool false],none⟩) hs dD (Ran.same hs.hr aP (.tup _ _ rfl fun i y u hy hu=>?_)) (fun i ob e=>by cases e) (fun _ _ _ h=>h) (fun g' a' w' h1 h2=>⟨g',_,hK,h1,h2⟩)
          match i with
          |0=>simp at hy hu;subst hy;subst hu;exact .bool _
          |i+1=>simp at hy
        unfold G4 at h;split at h
        · rename_i id ep hX
          split at h
          · rename_i ep' M eM n seen hid
            split at h
            · rename_i eM' es hM
              obtain⟨rfl,rfl,hn,h1,h2⟩:=h;rcases wzhp (P:=P) hs.hr hs.tm ho hx hX hid hM hn with ⟨h3,h4⟩|⟨k,hk,nL,hr⟩
              · exact over rfl h4 (h2 h3)
              · exact L9 hs dD hr (fun i ob e=>by simp only[Ba,BB]at e;obtain⟨rfl,_⟩:=e;rw[hid];trivial) (fun _ _ _ h=>h) (fun g' a' w' q1 q2=>⟨g',_,h1 k hk nL,q1,q2⟩)
            · exact h.elim
          · rename_i ep' seen hid
            obtain⟨rfl,h1⟩:=h;have hO:=hs.hr.obj id;rw[hid]at hO;have rx:=AY hs.hr hs.tm hx;rw[hX]at rx
            have hp:a.eval x0=.pointer (some ⟨g.blk id,0,none⟩):=by
              generalize a.eval x0=v at rx;cases rx with
              |ptr _ _ _ _ _ _ hp=>exact hp (by rw[hs.hr.ep id,hid];rfl)
            have hb:w.heap[g.blk id]?=some (.mapIter none 0 #[] 0):=hO;exact over rfl (by simp[execOp,ho,hp,Instr.next,getObj,Sem.run,hb,Result.andThen]) h1
          · exact h.elim
        · exact h.elim
  |some gd =>
    obtain⟨tg,want⟩:=gd;simp only[hg]at h;cases aZ:HC (S.t.getD tg .top) want with
    |none=>simp only[aZ]at h
    |some c =>
      simp only[aZ]at h
      have c8:Region.wanted o (yielded ops a.tmps)=c:=by
        have dX:=hk.grd;rw[hg]at dX;obtain⟨j,kS,gI⟩:=dX;have h1:=Ug (hs.tm.getD tg) aZ;rw[<-h1]
        have hy:yielded ops a.tmps j=OK (a.tmps.getD tg undef):=by
          simp only[yielded,gI,Option.bind_some];by_cases hl:tg<a.tmps.size
          · have e:a.tmps.getD tg undef=a.tmps[tg]:=by simp[Array.getD,hl]
            rw[Gc hl,e];cases a.tmps[tg]<;>rfl
          · have e:a.tmps.getD tg undef=undef:=by simp[Array.getD,hl]
            rw[Array.getElem?_eq_none (Nat.le_of_not_lt hl),e];rfl
        simp only[Region.wanted,kS,hy]
      have pass:c=false->∀v,K ⟨putT S.t ao.dst (.cnd false v),S.h,S.ds⟩->(∀f,o.about P w a.eval=some f->(FW ρ).fn f)/\(∃g' S',K S'/\SR E g' S' (a.put o.dst undef) w/\Stp g S.h w g' S'.h w):=by intro _ v hK;rw[<-bQ]at hK;exact⟨fun f _=>trivial,g,_,hK,⟨hs.hr,L7 hs.tm o.dst (.cnd _ _ _ (fun e=>by cases e) (fun _=>rfl)),by rw[L8];exact hs.df,hs.dk,hs.dn⟩,.refl _ _ _⟩
      have call:∀(f:FuncId) (vs:List Value) (args:List Aa),(∀cc,o.op≠.defer cc)->(c=true->(execOp a.eval o).run P w=.ok (.enter f vs.toArray) w/\RVs g w args vs) -> ((∃v,(c=true->ATr E P f args S.h (fun v' h'=>v'=v/\h'=S.h))/\K ⟨putT S.t ao.dst (.cnd c v),S.h,S.ds⟩) \/ ((c=true->ATr E P f args S.h (fun v h'=>(∀D∈S.ds,h' D.1=.dfr D.2)/\K ⟨putT S.t ao.dst (.cnd true v),h',S.ds⟩))/\(c=false->K ⟨putT S.t ao.dst (.cnd false .top),S.h,S.ds⟩))) ->
          if Region.wanted o (yielded ops a.tmps) then o.wpIn (FW ρ) 0 P a w (fun a' w'=>∃g' S',K S'/\SR E g' S' a' w'/\Stp g S.h w g' S'.h w') Q
          else(∀f,o.about P w a.eval=some f->(FW ρ).fn f)/\(∃g' S',K S'/\SR E g' S' (a.put o.dst undef) w/\Stp g S.h w g' S'.h w):=by
        intro f vs args dD aP iv;rw[c8];cases c with
        |false =>
          simp only[J3,CG];rcases iv with ⟨v,_,hK⟩|⟨_,hK⟩
          · exact pass rfl v hK
          · exact pass rfl _ (hK rfl)
        |true =>
          simp only[AX];obtain⟨hr,hv⟩:=aP rfl;have cnd:∀g' w' r v,RV g' w' r v->RV g' w' (.cnd true r) v:=fun _ _ _ _ h=>.cnd _ _ _ (fun _=>h) (fun e=>by cases e);rcases iv with ⟨v,hA,hK⟩|⟨hA,_⟩
          · refine LA hs dD hr hv (y:=fun r=>.cnd true r) cnd ((hA rfl).mono ?_)
            rintro r h' ⟨rfl,rfl⟩;exact⟨hs.dk,by rw[bQ];exact hK⟩
          · refine LA hs dD hr hv (y:=fun r=>.cnd true r) cnd ((hA rfl).mono ?_)
            rintro r h' ⟨h1,h2⟩;exact⟨h1,by rw[bQ];exact h2⟩
      cases cH:ao.op.isCall with
      |false =>
        have hc:=OO dc cH;have h':ao.op.quiet=true/\(c=true->ao.op.unAll E c S.t/\(ao.op.req (argU E S.t) S.h).ok)/\K ⟨putT S.t ao.dst (.cnd c (ao.op.req (argU E S.t) S.h).v),S.h,S.ds⟩:=by cases aT:ao.op<;>simp only[aT]at h cH |-<;>first|exact h|(cases cH;done)
        exact qz5e (E:=E) (ρ:=ρ) (P:=P) (ops:=ops) hc hk hg aZ (wzh1 _ h'.1 _ _) h'.2.1 g a w S hs (fun _ _=>rfl) (fun _ _=>rfl) (fun a' w'=>∃g' S',K S'/\SR E g' S' a' w'/\Stp g S.h w g' S'.h w') Q
          (fun g' a' w' h1 h2=>⟨g',_,by rw[bQ];exact h'.2.2,h1,h2⟩) |> fun q=>by
            by_cases hw:Region.wanted o (yielded ops a.tmps)=true
            · rw[Aj hw]at q |-;exact q
            · rw[Ag hw]at q |-
              have iw:c=false:=(by rw[<-c8];simpa using hw);subst iw;exact pass rfl _ h'.2.2
      |true =>
        cases aT:ao.op<;>simp only[aT,Ao.isCall]at cH<;>(try (cases cH;done))
        case mnext x=>simp only[aT]at h
        case callf f args =>
          simp only[aT,EJ]at h dc;obtain⟨as,ats,ho,he,ha⟩:=Ul dc
          have hu:c=true->BT c S.t args:=by
            intro e;rcases h with ⟨_,h1,_⟩|⟨h1,_⟩
            · exact(h1 e).1
            · exact(h1 e).1
          refine call f (as.toList.map a.eval) (args.map (argU E S.t)) (fun cc hc=>by rw[ho]at hc;cases hc) (fun e=>⟨Uo ho he a w,OP hs e ha (hu e)⟩) ?_;rcases h with ⟨v,h1,h2⟩|⟨h1,h2⟩
          · exact .inl ⟨v,fun e=>(h1 e).2,h2⟩
          · exact .inr ⟨fun e=>(h1 e).2,h2⟩
        case callv x args =>
          simp only[aT,EJ]at h dc;have nM:=h.1;by_cases iw:c=false
          · rw[c8,iw]
            simp only[J3,CG];exact pass iw _ (nM iw)
          have h:=h.2 (by simpa using iw);obtain⟨x0,as,ats,ho,hx,ha⟩:=Um dc;split at h
          · rename_i f nb caps jh
            obtain⟨he,h⟩:=h
            have hu:c=true->BT c S.t (x :: args):=by
              intro e;rcases h with ⟨_,h1,_⟩|⟨h1,_⟩
              · exact(h1 e).1
              · exact(h1 e).1
            have aP:c=true->∃arr:Array Value,a.eval x0=.func (.func f) (arr.toList.take nb).toArray (arr.toList.drop nb).toArray/\RVs g w caps arr.toList/\RVs g w (args.map (argU E S.t)) (as.toList.map a.eval):=by
              intro e;have h1:CI (x0 :: as.toList) (x :: args)=true:=by simp[CI,hx,ha]
              have h2:=OP hs e h1 (hu e);have h3:=h2.2 0 (argU E S.t x) (a.eval x0) rfl rfl;rw[jh]at h3;obtain⟨arr,e1,e2⟩:=Uq h3;exact⟨arr,e1,e2,by have:=h2.1;simpa using this,fun i y u hy hu=>h2.2 (i+1) y u (by simpa using hy) (by simpa using hu)⟩
            cases ix:c with
            |true =>
              obtain⟨arr,e1,e2,e3⟩:=aP ix;rw[ix]at h;refine call f (fnArgs nb (as.toList.map a.eval) arr.toList) (fnArgs nb (args.map (argU E S.t)) caps) (fun cc hc=>by rw[ho]at hc;cases hc) (fun e=>⟨Up ho he a w e1,RVs.fnArgs e3 e2⟩) ?_;rw[ix];rcases h with ⟨v,h1,h2⟩|⟨h1,h2⟩
              · exact .inl ⟨v,fun e=>(h1 e).2,h2⟩
              · exact .inr ⟨fun e=>(h1 e).2,h2⟩
            |false =>
              rw[ix]at h;refine call f [] [] (fun cc hc=>by rw[ho]at hc;cases hc) (fun e=>by rw[ix]at e;cases e) ?_;rw[ix];rcases h with ⟨v,h1,h2⟩|⟨h1,h2⟩
              · exact .inl ⟨v,fun e=>(by cases e),h2⟩
              · exact .inr ⟨fun e=>(by cases e),h2⟩
          · exact h.elim
def HW(P:Program)(ops:Array Oper):List Oper->List Ak->Bool
 |[],[]=>true
 |o :: l,a :: m=>G5 P ops o a&&HW P ops l m
 |_,_=>false
theorem Ur{ops:Array Oper}{Q:Exit->Act->World->Prop}:∀{l:List Oper} {m:List Ak} {S:Au} {K:Au->Prop},HW P ops l m=true->areg E P m S K->∀{g:Gh} {a:Act} {w:World},SR E g S a w -> (∀a' w',(∃g' S',K S'/\SR E g' S' a' w'/\Stp g S.h w g' S'.h w')->Q .normal a' w')->wpListIn (FW ρ) 0 P ops Q l a w
 |[],[],S,K,_,h,g,a,w,hs,hq=>hq a w ⟨g,S,h,hs,.refl _ _ _⟩
 |o :: l,ao :: m,S,K,hc,h,g,a,w,hs,hq=>by
  simp only[HW,AI]at hc;refine wpListIn_step fun K' kW=>?_;have h1:=OQ (ρ:=ρ) (Q:=Q) hc.1 h hs;have imp:∀a' w',(∃g' S',areg E P m S' K/\SR E g' S' a' w'/\Stp g S.h w g' S'.h w')->K' a' w':=by rintro a' w' ⟨g',S',h2,aH,st⟩;refine kW a' w' (Ur hc.2 h2 aH ?_);rintro a'' w'' ⟨g'',S'',hk,bb,st'⟩;exact hq a'' w'' ⟨g'',S'',hk,bb,st.trans st'⟩
  split at h1
  ·rename_i hw;rw[Aj hw];exact Oper.wpIn_mono imp h1
  ·rename_i hw;rw[Ag hw];exact⟨h1.1,imp _ _ h1.2⟩
 |[],_ :: _,_,_,h,_,_,_,_,_,_=>by cases h
 |_ :: _,[],_,_,h,_,_,_,_,_,_=>by cases h
def SReg(E:Nat->Aa)(P:Program)(m:List Ak)(S:Au)(K:Au->Prop):Prop := ∀(ρ:Option Nat) (ops:Array Oper) (Q:Exit->Act->World->Prop) (l:List Oper),HW P ops l m=true->∀{g:Gh} {a:Act} {w:World},SR E g S a w -> (∀a' w',(∃g' S',K S'/\SR E g' S' a' w'/\Stp g S.h w g' S'.h w')->Q .normal a' w')->wpListIn (FW ρ) 0 P ops Q l a w
theorem SReg.nil(h:K S):SReg E P [] S K:=by
 intro ρ ops Q l hc g a w hs hq;cases l with
 |nil=>exact hq a w ⟨g,S,h,hs,.refl _ _ _⟩
 |cons o l=>cases hc
theorem SReg.cons(h:aop E P ao S (fun S'=>SReg E P m S' K)):SReg E P (ao :: m) S K:=by
 intro ρ ops Q l hc g a w hs hq;cases l with
 |nil=>cases hc
 |cons o l =>
  simp only[HW,AI]at hc;refine wpListIn_step fun K' kW=>?_;have h1:=OQ (ρ:=ρ) (Q:=Q) hc.1 h hs;have imp:∀a' w',(∃g' S',SReg E P m S' K/\SR E g' S' a' w'/\Stp g S.h w g' S'.h w')->K' a' w':=by rintro a' w' ⟨g',S',h2,aH,st⟩;refine kW a' w' (h2 ρ ops Q l hc.2 aH ?_);rintro a'' w'' ⟨g'',S'',hk,bb,st'⟩;exact hq a'' w'' ⟨g'',S'',hk,bb,st.trans st'⟩
  split at h1
  ·rename_i hw;rw[Aj hw];exact Oper.wpIn_mono imp h1
  ·rename_i hw;rw[Ag hw];exact⟨h1.1,imp _ _ h1.2⟩
theorem AWp.sregion(hc:HW P ops ops.toList m=true)(h:SReg E P m S (Q .normal)):AWp E ρ P (.region id ops false) Q S:=by intro g a w hs;exact wpIn_region_list (h ρ ops _ _ hc hs (fun a' w' ⟨g',S',q,r⟩=>⟨g',S',q,r⟩))
theorem AWp.region(hc:HW P ops ops.toList m=true)(h:areg E P m S (Q .normal)):AWp E ρ P (.region id ops false) Q S:=by intro g a w hs;exact wpIn_region_list (Ur hc h hs (fun a' w' ⟨g',S',q,r⟩=>⟨g',S',q,r⟩))
end
section
variable {ρ:Option Nat}
def See(E:Nat->Aa)(S S':Au):Prop:=∀(g:Gh) (a:Act) (w:World),SR E g S a w->∃g',SR E g' S' a w/\Stp g S.h w g' S'.h w
theorem See.refl(S:Au):See E S S:=fun g a w h=>⟨g,h,.refl _ _ _⟩
theorem See.trans{S S' S'':Au}(h:See E S S')(k:See E S' S''):See E S S'':=fun g a w hs =>
 let ⟨g',h1,s1⟩:=h g a w hs
 let ⟨g'',h2,s2⟩:=k g' a w h1
 ⟨g'',h2,s1.trans s2⟩
theorem See.of_sub(s:Sub S S'):See E S S':=fun g a w hs=>⟨g,hs.sub s,(Stp.refl g S.h w).sub s.h⟩
theorem SReg.see(s:See E S S')(h:SReg E P m S' K):SReg E P m S K:=by intro ρ ops Q l hc g a w hs hq;obtain⟨g1,fE,st1⟩:=s g a w hs;refine h ρ ops Q l hc fE ?_;rintro a' w' ⟨g',S'',q,aH,st⟩;exact hq a' w' ⟨g',S'',q,aH,st1.trans st⟩
theorem AWp.see(s:See E S S')(h:AWp E ρ P c Q S'):AWp E ρ P c Q S:=by intro g a w hs;obtain⟨g',aH,st⟩:=s g a w hs;exact wpIn_mono (h g' a w aH) fun e a' w' ⟨g'',S'',q,bb,st'⟩=>⟨g'',S'',q,bb,st.trans st'⟩
theorem AWp.loop'(inv:α->Au)(Z:α->Nat)(I:α->Prop)(x₀:α)(h₀:I x₀)(s₀:See E S (inv x₀))(round:∀x,I x->AWp E ρ P c (Ay (fun S'=>∃x',I x'/\Z x'<Z x/\See E S' (inv x')) Q) (inv x)):AWp E ρ P (.loop c) Q S:=by
 refine AWp.see s₀ ?_;intro g a w hs;refine qzxb (fun x a' w'=>I x/\∃g',SR E g' (inv x) a' w'/\Stp g (inv x₀).h w g' (inv x).h w') Z x₀ ⟨h₀,g,hs,.refl _ _ _⟩ ?_;rintro x a' w' ⟨hI,g',aH,st⟩;refine wpIn_mono (round x hI g' a' w' aH) ?_;rintro e a'' w'' ⟨g'',S'',q,bb,st'⟩;cases e with
 |normal =>obtain⟨x',fG,hlt,sb⟩:=q;obtain⟨g3,nN,st3⟩:=sb g'' a'' w'' bb;exact⟨x',⟨fG,g3,nN,(st.trans st').trans st3⟩,hlt⟩
 |_=>exact⟨g'',S'',q,bb,st.trans st'⟩
inductive FV(id:Nat)(o:Ad):Aa->Aa->Prop where
 |refl (x:Aa):FV id o x x
 |top (x:Aa):FV id o x .top
 |box (ep off:Nat) (cs:List Aa) (f':Nat->Aa) (ho:o=.box ep cs) (h2:∀k,k<cs.length->f' k=cs.getD k .top):FV id o (.ptr id ep off) (.cptr f' cs.length off)
 |fn (fi:FuncId) (nb:Nat) (l l':List Aa) (hl:l'.length=l.length) (h:∀(i:Nat) (x y:Aa),l[i]?=some x->l'[i]?=some y->FV id o x y):FV id o (.fn fi nb l) (.fn fi nb l')
 |vec (ep st m:Nat) (f:Nat->List Aa) (lo n:Nat) (f':Nat->List Aa) (ho:o=.vec ep st m f) (h1:lo+n<=m) (h2:∀k,k<n->f' k=f (lo+k)):FV id o (.vec id ep lo n) (.slc st n f')
 |agg (l l':List Aa) (hl:l'.length=l.length) (h:∀(i:Nat) (x y:Aa),l[i]?=some x->l'[i]?=some y->FV id o x y):FV id o (.agg l) (.agg l')
 |tup (l l':List Aa) (hl:l'.length=l.length) (h:∀(i:Nat) (x y:Aa),l[i]?=some x->l'[i]?=some y->FV id o x y):FV id o (.tup l) (.tup l')
 |cnd (c:Bool) (x y:Aa) (h:FV id o x y):FV id o (.cnd c x) (.cnd c y)
def FVl(id:Nat)(o:Ad):List Aa->List Aa->Prop
 |[],[]=>True
 |x :: l,y :: k=>FV id o x y/\FVl id o l k
 |_,_=>False
theorem FVl.refl{id:Nat}{o:Ad}:∀l,FVl id o l l
 |[]=>trivial
 |x :: l=>⟨.refl x,FVl.refl l⟩
theorem FVl.at{id:Nat}{o:Ad}:∀{l k:List Aa},FVl id o l k->k.length=l.length/\∀(i:Nat) (x y:Aa),l[i]?=some x->k[i]?=some y->FV id o x y
 |[],[],_=>⟨rfl,fun i x y hx _=>by simp at hx⟩
 |x :: l,y :: k,h=>by
  obtain⟨h1,h2⟩:=FVl.at h.2;refine⟨by simp[h1],fun i u v hu hv=>?_⟩;cases i with
  |zero=>simp at hu hv;subst hu;subst hv;exact h.1
  |succ i=>exact h2 i u v (by simpa using hu) (by simpa using hv)
 |[],_ :: _,h=>h.elim
 |_ :: _,[],h=>h.elim
theorem FV.aggl{o:Ad}{l:List Aa}(h:FVl id o l k):FV id o (.agg l) (.agg k):=.agg l k h.at.1 h.at.2
theorem FV.tupl{o:Ad}{l:List Aa}(h:FVl id o l k):FV id o (.tup l) (.tup k):=.tup l k h.at.1 h.at.2
def OF(id:Nat)(o:Ad)(x x':Ad):Prop:=x'=x\/(∃e l l',x=.box e l/\x'=.box e l'/\FVl id o l l')\/(∃e st n f f',x=.vec e st n f/\x'=.vec e st n f'/\∀k,k<n->FVl id o (f k) (f' k)) \/ ∃e es es',x=.amap e es/\x'=.amap e es'/\es'.length=es.length/\∀(i:Nat) (a b:Aa×Aa),es[i]?=some a->es'[i]?=some b->FV id o a.1 b.1/\FV id o a.2 b.2
def frz(g:Gh)(id:Nat):Gh:=⟨g.blk,fun j=>if j=id then g.ep id+1 else g.ep j,g.bo,g.st,g.cp,fun b=>b=g.blk id\/g.fz b⟩
theorem LB(g:Gh)(id:Nat)(w:World):GLe g w (frz g id) w:=by
 refine⟨fun b hb=>⟨.inr hb,rfl⟩,fun j=>?_,fun j hj=>⟨rfl,rfl,rfl,rfl⟩⟩;show g.ep j<=if j=id then g.ep id+1 else g.ep j;split
 ·rename_i e;subst e;omega
 ·exact AA _
theorem FV.rv{o:Ad}(H:HR E g h w)(hid:h id=o){y:Aa}(hf:FV id o x y):∀{v:Value},RV g w x v->RV (frz g id) w y v:=by
 induction hf with
 |refl x=>intro v hv;exact hv.mono (LB g id w)
 |top x=>intro v hv;exact .top v
 |box ep off cs f' ho h2 =>
  subst ho;intro v hv;have hO:=H.obj id;rw[hid]at hO;obtain⟨arr,ty,hb,hr⟩:=hO;cases hv with
  |ptr _ _ _ _ h1 he hp =>
   rw[hp (by rw[H.ep id,hid];rfl)];have aO:arr.size=cs.length:=by simpa using hr.1
   have:=RV.cptr (g:=frz g id) (w:=w) f' cs.length off (g.blk id) 0 (fun j=>arr.getD j undef) (.inl rfl) (fun j hj=>by have:j<arr.size:=(by omega);simp[World.cell?,hb,this]) (fun j hj=>by rw[h2 j hj];exact(hr.getD j).mono (LB g id w))
   rwa [Bn]at this
 |fn fi nb l l' hl h ih =>
  intro v hv;cases hv with
  |fn _ _ _ a hn hr =>
   refine .fn _ _ _ _ (by omega) fun i y u hy hu=>?_;have hi:i<l.length:=by rw[<-hl];exact(A8.1 hy).1
   exact ih i _ y (AF hi) hy (hr i _ u (AF hi) hu)
 |vec ep st m f lo n f' ho h1 h2 =>
  subst ho;intro v hv;have hO:=H.obj id;rw[hid]at hO;obtain⟨aL,h0,hn,arr,ty,hr,aY,aS⟩:=hO;obtain⟨ad,cap,rfl,aG,hc⟩:=EG H hv (by rw[hid];rfl);rcases EA n with e|e
  ·subst e;exact .slc0 _ _ _ _
  ·rcases hc with cU|⟨rfl,hc⟩;·omega
   ·have cJ:∀i j,i<n->j<st->g.bo id+lo*g.st id+i*st+j<arr.size:=fun i j hi hj=>by
     have:=DX (k:=lo+i) (n:=g.cp id) (st:=st) (j:=j) (by omega) hj;rw[AT]at this;rw[aL];omega
    have aK:∀i j,i<n->j<st->arr[g.bo id+lo*g.st id+i*st+j]?=some (arr.getD (g.bo id+lo*g.st id+i*st+j) undef):=fun i j hi hj=>by have:=cJ i j hi hj;simp[this]
    have jj:∀i j,i<n->j<st->∀x,(f' i)[j]?=some x->(arr.getD (g.bo id+lo*g.st id+i*st+j) undef).oneCell'=true/\RV g w x (arr.getD (g.bo id+lo*g.st id+i*st+j) undef):=fun i j hi hj x hx=>by
     rw[h2 i hi]at hx;refine(aS (lo+i) (by omega)).2 j x _ hx ?_;have e4:g.bo id+(lo+i)*st+j=g.bo id+lo*g.st id+i*st+j:=by rw[aL,AT];omega
     rw[e4];exact aK i j hi hj
    refine .slc st n f' (g.blk id) (g.bo id+lo*g.st id) cap (fun i j=>arr.getD (g.bo id+lo*g.st id+i*st+j) undef) (.inl rfl) aG (fun i hi=>by rw[h2 i hi];exact(aS (lo+i) (by omega)).1) ?_ ?_ ?_
    ·intro i j hi hj;have:=cJ i j hi hj;simp[World.cell?,hr,this]
    ·intro i j hi hj;have hl:(f' i).length=st:=(by rw[h2 i hi];exact(aS (lo+i) (by omega)).1);exact(jj i j hi hj _ (AF (by omega))).1
    ·intro i j x hi hx;have hl:(f' i).length=st:=(by rw[h2 i hi];exact(aS (lo+i) (by omega)).1);have hj:j<st:=(by have:=(A8.1 hx).1;omega);exact(jj i j hi hj x hx).2.mono (LB g id w)
 |agg l l' hl h ih =>
  intro v hv;cases hv with
  |agg _ a hn hr =>
   refine .agg _ _ (by omega) fun i y u hy hu=>?_;have hi:i<l.length:=by rw[<-hl];exact(A8.1 hy).1
   exact ih i _ y (AF hi) hy (hr i _ u (AF hi) hu)
 |tup l l' hl h ih =>
  intro v hv;cases hv with
  |tup _ a hn hr =>
   refine .tup _ _ (by omega) fun i y u hy hu=>?_;have hi:i<l.length:=by rw[<-hl];exact(A8.1 hy).1
   exact ih i _ y (AF hi) hy (hr i _ u (AF hi) hu)
 |cnd c x y _ ih =>
  intro v hv;cases hv with
  |cnd _ _ _ h1 h0=>exact .cnd _ _ _ (fun e=>ih (h1 e)) h0
theorem FVl.rvs{o:Ad}(H:HR E g h w)(hid:h id=o){l:List Aa}{a:List Value}(hf:FVl id o l k)(hv:RVs g w l a):RVs (frz g id) w k a:=by
 obtain⟨h1,h2⟩:=hf.at;refine⟨by rw[h1];exact hv.1,fun i y u hy hu=>?_⟩;have hi:i<l.length:=by rw[<-h1];exact(A8.1 hy).1
 exact(h2 i _ y (AF hi) hy).rv H hid (hv.2 i _ u (AF hi) hu)
theorem HR.freeze{o:Ad}(H:HR E g h w)(hid:h id=o)(aU:o.owned=true)(hi:h' id=.gone (o.ep+1))(ho:∀j,j≠id->OF id o (h j) (h' j)):HR E (frz g id) h' w/\Stp g h w (frz g id) h' w:=by
 have aC:=LB g id w;have br:g.ep id=o.ep:=by rw[H.ep id,hid]
 rw[<-hid]at aU
 have own:∀j,(h' j).owned=true->j≠id/\(h j).owned=true:=by
  intro j hj;have aI:j≠id:=fun e=>by rw[e,hi]at hj;cases hj
  refine⟨aI,?_⟩;rcases ho j aI with e|⟨e,l,l',e1,e2,_⟩|⟨e,st,n,f,f',e1,e2,_⟩|⟨e,es,es',e1,e2,_⟩
  ·rw[<-e];exact hj
  ·rw[e1];rfl
  ·rw[e1];rfl
  ·rw[e1];rfl
 refine⟨⟨fun j=>?_,fun j=>?_,fun j k hj hk e=>H.inj j k (own j hj).2 (own k hk).2 e,fun j hj=>?_,fun b hb=>?_,fun i=>(H.glob i).mono aC⟩,⟨aC,rfl,rfl,rfl,AA _,fun _ _ _=>rfl,fun j hj=>.inl ⟨j,(own j hj).2,rfl⟩,fun b hb=>hb.elim (fun e=>.inr (.inl ⟨id,aU,e.symm⟩)) .inl,AA _⟩⟩
 ·by_cases e:j=id;·rw[e,hi];trivial
  ·have hO:=H.obj j;have kX:(frz g id).ep j=g.ep j:=Ag e;rcases ho j e with e'|⟨e0,l,l',e1,e2,hf⟩|⟨e0,st,n,f,f',e1,e2,hf⟩|⟨e0,es,es',e1,e2,d7,hf⟩
   ·rw[e'];exact hO.mono aC kX (fun _=>rfl)
   ·rw[e2];rw[e1]at hO;obtain⟨arr,ty,hr,bB⟩:=hO;exact⟨arr,ty,hr,hf.rvs H hid bB⟩
   ·rw[e2];rw[e1]at hO;obtain⟨aL,h0,b7,arr,ty,hr,aY,aS⟩:=hO;refine⟨aL,h0,b7,arr,ty,hr,aY,fun k hk=>?_⟩;obtain⟨q1,q2⟩:=(hf k hk).at;refine⟨q1.trans (aS k hk).1,fun i y u hy hu=>?_⟩;have hi:i<(f k).length:=by rw[<-q1];exact(A8.1 hy).1
    obtain⟨p1,p2⟩:=(aS k hk).2 i _ u (AF hi) hu;exact⟨p1,(q2 i _ y (AF hi) hy).rv H hid p2⟩
   ·rw[e2];rw[e1]at hO;obtain⟨arr,hr,aO,aS⟩:=hO;refine⟨arr,by rw[d7];exact hr,by rw[d7];exact aO,fun k y m hy hm=>?_⟩;have hi:k<es.length:=by rw[<-d7];exact(A8.1 hy).1
    obtain⟨p1,p2,p3⟩:=aS k _ m (AF hi) hm;obtain⟨q1,q2⟩:=hf k _ y (AF hi) hy;exact⟨q1.rv H hid p1,q2.rv H hid p2,p3⟩
 ·by_cases e:j=id;·subst e;rw[hi];show(if j=j then g.ep j+1 else g.ep j)=o.ep+1;rw[Aj rfl,br]
  ·show(if j=id then g.ep id+1 else g.ep j)=_;rw[Ag e,H.ep j];rcases ho j e with e'|⟨e0,l,l',e1,e2,hf⟩|⟨e0,st,n,f,f',e1,e2,hf⟩|⟨e0,es,es',e1,e2,_⟩
   ·rw[e']
   ·rw[e1,e2];rfl
   ·rw[e1,e2];rfl
   ·rw[e1,e2];rfl
 ·obtain⟨aI,iy⟩:=own j hj;rintro(e|e)
  ·exact aI (H.inj j id iy aU e)
  ·exact H.sep j iy e
 ·rcases hb with rfl|hb;·exact(H.obj id).lt aU
  ·exact H.fzb b hb
theorem See.freeze{S S':Au}{id:Nat}{o:Ad}(hid:S.h id=o)(aU:o.owned=true)(cj:o.plain)(hi:S'.h id=.gone (o.ep+1))(ho:∀j,j≠id->OF id o (S.h j) (S'.h j))(ht:FVl id o S.t S'.t)(d6:S'.ds=S.ds):See E S S':=by
 intro g a w hs;obtain⟨H',st'⟩:=hs.hr.freeze hid aU hi ho;refine⟨frz g id,⟨H',ht.rvs hs.hr hid hs.tm,by rw[d6];exact hs.df,fun D hD=>?_,by rw[d6];exact hs.dn⟩,st'⟩;rw[d6]at hD;have hd:=hs.dk D hD;have aI:D.1≠id:=fun e=>by rw[e,hid]at hd;rw[hd]at cj;exact cj
 rcases ho D.1 aI with e'|⟨e0,l,l',e1,e2,hf⟩|⟨e0,st,n,f,f',e1,e2,hf⟩|⟨e0,es,es',e1,e2,_⟩
 ·rw[e'];exact hd
 ·rw[e1]at hd;cases hd
 ·rw[e1]at hd;cases hd
 ·rw[e1]at hd;cases hd
inductive ARes where
 |t (n:Tmp)
 |c (n:Tmp) (agg:Bool) (sz:Nat)
def OS(P:Program):ResultVar->ARes->Bool
 |.tmp a,.t b=>a==b
 |.cell a ty,.c b agg sz=>a==b&&D4 P ty==some agg&&(!agg||szOf P ty==some sz)
 |_,_=>false
def D7(P:Program):List ResultVar->List ARes->Bool
 |[],[]=>true
 |r :: l,s :: m=>OS P r s&&D7 P l m
 |_,_=>false
def ARes.ok(S:Au):ARes->Prop
 |.t _=>True
 |.c n agg sz=>(D3 agg sz (S.t.getD n .top) S.h).ok
def ARes.val(S:Au):ARes->Aa
 |.t n=>S.t.getD n .top
 |.c n agg sz=>(D3 agg sz (S.t.getD n .top) S.h).v
def HX(S:Au):List ARes->Prop
 |[]=>True
 |r :: l=>r.ok S/\HX S l
def HY(S:Au):List ARes->Aa
 |[r]=>r.val S
 |l=>.tup (l.map (ARes.val S))
theorem qz63(agg:Bool)(sz:Nat)(x:Aa)(h:Aq):(D3 agg sz x h).out=none:=by
 unfold D3;repeat' split
 all_goals rfl
def JJ(tmps:Array Value):ResultVar->Sem Value
 |.tmp t=>pure (tmps.getD t undef)
 |.cell a t=>do loadVar t (<-asAddr (tmps.getD a undef))
theorem wza5(fn:Func)(tmps:Array Value):results fn tmps=(do let vs <-fn.results.mapM (JJ tmps);pure (if h:vs.size=1 then vs[0] else .tuple vs)):=rfl
theorem wzoy(H:HR E g S.h w)(ht:RVs g w S.t tmps.toList){r:ResultVar}{s:ARes}(hc:OS P r s=true)(aB:s.ok S) :
  ∃v,(JJ tmps r).run P w=.ok v w/\RV g w (s.val S) v:=by
 cases r<;>cases s<;>simp only[OS]at hc<;>(try (cases hc;done))
 ·simp only[Bu]at hc
  subst hc
  exact⟨_,rfl,ht.getD _⟩
 ·rename_i a ty b agg sz
  simp only[AI,Bu,Lq,H5]at hc
  obtain⟨⟨rfl,hq⟩,hs⟩:=hc
  let o : Oper := { dst := none, op := .load ty (.tmp a), type := 0, pos := "", after := #[], guard := none }
  have bc:((Ao.load agg sz (.t a)).req (Ah E S.t) S.h).ok:=aB
  obtain⟨n,v,w',g',aP,hn,hv,_,_,hout⟩:=Ty (E:=E) (P:=P) (o:=o) (a:=⟨tmps,[]⟩) (x:=.tmp a) (x':=.t a) H ht rfl (by simp[A7]) hq (fun e=>hs.resolve_left (by rw[e];simp)) bc
  obtain⟨rfl,rfl⟩:=hout (qz63 _ _ _ _)
  have bz:((Instr.loadAt ty (tmps.getD a undef)).run P w').andThen (fun x w=>.ok (Next.value x) w)=.ok n w':=by
   simpa [execOp,o,Act.eval] using aP
  refine⟨v,?_,hv⟩
  simp only[JJ,Sem.run_bind]
  cases hp:tmps.getD a undef<;>simp only[hp,Instr.loadAt,Instr.sureAddr,Sem.run_bind,run_stuck,Result.andThen_halt]at bz<;>(try (cases bz;done))
  rename_i ad
  cases ad with
  |none=>simp only[Instr.sureAddr,run_stuck,Result.andThen_halt]at bz;cases bz
  |some ad =>
   simp only[Instr.sureAddr,Sem.run_pure,Result.andThen_ok,asAddr]at bz |-
   generalize (loadVar ty ad).run P w'=q at bz |-
   cases q with
   |halt x y=>cases bz
   |ok x y =>
    simp only[Result.andThen_ok,Result.ok.injEq]at bz
    obtain⟨rfl,rfl⟩:=bz
    rcases hn with hn|⟨hn,_⟩
    ·injection hn with hn;subst hn;rfl
    ·cases hn
theorem Us{g:Gh}{w:World}{S:Au}{tmps:Array Value}(H:HR E g S.h w)(ht:RVs g w S.t tmps.toList):∀{l:List ResultVar} {m:List ARes},D7 P l m=true->HX S m -> ∃vs,(l.mapM (JJ tmps)).run P w=.ok vs w/\RVs g w (m.map (ARes.val S)) vs
 |[],[],_,_=>⟨[],by simp,.nil g w⟩
 |r :: l,s :: m,hc,aB=>by simp only[D7,AI]at hc;obtain⟨v,h1,h2⟩:=wzoy H ht hc.1 aB.1;obtain⟨vs,h3,h4⟩:=Us H ht hc.2 aB.2;refine⟨v :: vs,?_,.cons h2 h4⟩;rw[List.mapM_cons,Sem.run_bind,h1];simp only[Result.andThen_ok,Sem.run_bind,h3,Sem.run_pure]
 |[],_ :: _,h,_=>by cases h
 |_ :: _,[],h,_=>by cases h
theorem qz7g{rs:List ARes}(H:HR E g S.h w)(ht:RVs g w S.t tmps.toList)(hc:D7 P fn.results.toList rs=true)(aB:HX S rs) : ∃v,(results fn tmps).run P w=.ok v w/\RV g w (HY S rs) v:=by
 obtain⟨vs,h1,h2⟩:=Us H ht hc aB;have hm:(fn.results.mapM (JJ tmps)).run P w=.ok vs.toArray w:=by rw[Array.mapM_eq_mapM_toList];simp only[Sem.run_map,h1,Result.andThen_ok]
 have hl:=h2.1;simp only[J5]at hl;rw[wza5,Sem.run_bind,hm];simp only[Result.andThen_ok]
 match rs,vs,hl,h2 with
 |[r],[v],_,h2=>exact⟨v,by simp,h2.2 0 _ v rfl rfl⟩
 |[],[],_,h2=>exact⟨.tuple #[],by simp,.tup _ _ rfl (fun i x v hx _=>by simp at hx)⟩
 |r :: s :: l,v :: u :: k,hl,h2 =>refine⟨.tuple (v :: u :: k).toArray,by simp,?_⟩;exact .tup _ _ (by simp at hl |-;omega) (fun i x y hx hy=>h2.2 i x y hx (by simpa using hy))
def Post(E:Nat->Aa)(rs:List ARes)(R:Aa->Aq->Prop):Exit->Au->Prop
 |.normal,S | .ret,S=>∃S',See E S S'/\HX S' rs/\∃h',(∀i,OSub (S'.h i) (h' i))/\(∀D∈S'.ds,∃e,h' D.1=.gone e)/\R (HY S' rs) h'
 |_,_=>False
theorem Ut{fn:Func}{tmps:Array Value}{R:Ending->World->Prop}{g:Gh}:∀(ds:List (Nat×Nat)) (h:Aq) (w:World),HR E g h w->(∀D∈ds,h D.1=.dfr D.2)->(ds.map (·.1)).Nodup -> (∀h' w',HR E g h' w'->Stp g h w g h' w'->(∀i,(∀D∈ds,i≠D.1)->h' i=h i)->(∀D∈ds,h' D.1=.gone D.2)->LeavesIn (FW ρ) 0 P fn tmps R [] .returning w') ->
  LeavesInM (FW ρ) 0 P fn tmps R (ds.map fun D=>{ target:=.collected (g.blk D.1),args:=#[] }) .returning w
 |[],h,w,H,_,_,hk=>hk h w H (.refl _ _ _) (fun _ _=>rfl) (fun D hD=>by cases hD)
 |D :: ds,h,w,H,hd,hn,hk=>by
  have h1:=hd D (AS ..);have hO:=H.obj D.1;rw[h1]at hO;have hO:w.heap[g.blk D.1]?=some (.deferred (some [])):=hO;have aU:(h D.1).owned=true:=by rw[h1];rfl
  have bL:=H.sep D.1 aU;have bK:g.ep D.1=D.2:=by rw[H.ep D.1,h1];rfl
  simp only[Ot,List.nodup_cons]at hn;refine⟨by simp,.inl ⟨g.blk D.1,w.putObj (g.blk D.1) (.deferred none),rfl,run_takeDeferred hO,?_⟩⟩;have aC:GLe g w g (w.putObj (g.blk D.1) (.deferred none)):=⟨fun b hb=>⟨hb,World.putObj_heap_other (fun e=>bL (e▸hb))⟩,fun _=>AA _,fun _ _=>⟨rfl,rfl,rfl,rfl⟩⟩;obtain⟨H',st⟩:=HR.upd (g':=g) (w':=w.putObj (g.blk D.1) (.deferred none)) (i:=D.1) (o':=.gone D.2) H aC (fun _ _=>rfl) bK (fun b _ aI=>World.putObj_heap_other (aI aU)) (by simp) trivial (fun e=>by cases e) (fun e=>by cases e) (fun b hb=>.inl hb) (fun b hb=>by simpa using H.fzb b hb) rfl rfl rfl;have aI:∀D'∈ds,D'.1≠D.1:=fun D' hD' e=>hn.1 (CE.2 ⟨D',hD',e⟩);refine Ut ds _ _ H' (fun D' hD'=>?_) hn.2 (fun h' w' H2 st2 bq eN=>?_)
  ·simp only[hset,Ag (aI D' hD')];exact hd D' (AR _ hD')
  ·refine hk h' w' H2 (st.trans st2) (fun i hi=>?_) (fun D' hD'=>?_);·rw[bq i (fun D' hD'=>hi D' (AR _ hD'))];simp only[hset,Ag (hi D (AS ..))]
   ·rcases AV.1 hD' with rfl|hD';·rw[bq _ (fun D'' kY=>(aI D'' kY).symm)];simp[hset]
    ·exact eN D' hD'
theorem wzhb{agg:Bool}{sz:Nat}(aB:(D3 agg sz x h).ok)(hh:∀i,(∃ep cs,h i=.box ep cs)\/(∃ep st n f,h i=.vec ep st n f)->h' i=h i):D3 agg sz x h'=D3 agg sz x h:=by
 unfold D3 at aB |-;cases x<;>simp only[Req.fail]at aB |-
 case ptr id ep off =>cases hq:h id<;>simp only[hq]at aB<;>first|exact aB.elim|rw[hh id (.inl ⟨_,_,hq⟩),hq]
 case eptr id ep i off =>cases hq:h id<;>simp only[hq]at aB<;>first|exact aB.elim|rw[hh id (.inr ⟨_,_,_,_,hq⟩),hq]
theorem ATr.of_body{R:Aa->Aq->Prop}{rs:List ARes}(hf:P.funcs[f]?=some fn)(hb:fn.body=some c)(hr:D7 P fn.results.toList rs=true)(hw:AWp E none P c (Post E rs R) ⟨args++List.replicate (fn.ntmps-args.length) .top,h,[]⟩):ATr E P f args h R:=by
 intro g w vs H hv;rw[<-Tn (ρ:=none) (n:=0)];refine callsIn_of_wp_marks hf hb trivial ?_;have aE:=hv.1
 have hs:SR E g ⟨args++List.replicate (fn.ntmps-args.length) .top,h,[]⟩ { tmps:=vs.toArray++Array.replicate (fn.ntmps-vs.toArray.size) undef,defers:=[] } w:=by
  refine⟨H,?_,rfl,(fun D hD=>by cases hD),by simp⟩;have e:(vs.toArray++Array.replicate (fn.ntmps-vs.toArray.size) undef).toList=vs++List.replicate (fn.ntmps-args.length) undef:=by simp[aE]
  rw[e];refine hv.append ⟨by simp,fun i x v hx hv=>?_⟩;have:x=.top:=by have:=AG hx;exact List.eq_of_mem_replicate this
  subst this;exact .top _
 refine wpIn_mono (hw g _ w hs) ?_;rintro e a' w' ⟨g',S',q,aH,st⟩
 have key:Post E rs R .ret S'->LeavesInM (FW none) 0 P fn a'.tmps (fun e w'=>∃g' h' r v,R r h'/\e=.returned v/\RV g' w' r v/\HR E g' h' w'/\Stp g h w g' h' w') a'.defers .returning w':=by
  rintro⟨S'',see,aB,h',eQ,eN,hR⟩;obtain⟨g'',bb,st'⟩:=see g' a' w' aH;rw[bb.df];refine Ut S''.ds S''.h w' bb.hr bb.dk bb.dn (fun h3 w3 H3 st3 bq kZ=>?_);have d6:∀i,(∃ep cs,S''.h i=.box ep cs)\/(∃ep st n f,S''.h i=.vec ep st n f)->h3 i=S''.h i:=by intro i hi;refine bq i (fun D hD e=>?_);have:=bb.dk D hD;rw[<-e]at this;rcases hi with ⟨_,_,h⟩|⟨_,_,_,_,h⟩<;>(rw[h]at this;cases this)
  have bi:∀r:ARes,r.ok S''->(r.ok ⟨S''.t,h3,S''.ds⟩/\r.val ⟨S''.t,h3,S''.ds⟩=r.val S''):=by
   intro r hr;cases r with
   |t n=>exact⟨trivial,rfl⟩
   |c n agg sz =>have:=wzhb (h':=h3) hr d6;exact⟨by show(D3 _ _ _ h3).ok;rw[this];exact hr,by show(D3 _ _ _ h3).v=_;rw[this];rfl⟩
  have dh:∀l:List ARes,HX S'' l->HX ⟨S''.t,h3,S''.ds⟩ l/\l.map (ARes.val ⟨S''.t,h3,S''.ds⟩)=l.map (ARes.val S''):=by
   intro l;induction l with
   |nil=>intro _;exact⟨trivial,rfl⟩
   |cons r l ih =>intro h;obtain⟨a1,a2⟩:=bi r h.1;obtain⟨b1,b2⟩:=ih h.2;exact⟨⟨a1,b1⟩,by simp[a2,b2]⟩
  obtain⟨lb,cW⟩:=dh rs aB
  have bB:HY ⟨S''.t,h3,S''.ds⟩ rs=HY S'' rs:=by
   cases rs with
   |nil=>rfl
   |cons r l =>
    cases l with
    |nil=>simpa [HY] using cW
    |cons s l=>simp only[HY,cW]
  obtain⟨v,aP,cw⟩:=qz7g (P:=P) (fn:=fn) (S:=⟨S''.t,h3,S''.ds⟩) H3 (bb.tm.mono st3.le) hr lb;rw[bB]at cw
  have gb:∀i,OSub (h3 i) (h' i):=by
   intro i;by_cases hi:∃D∈S''.ds,i=D.1
   ·obtain⟨D,hD,rfl⟩:=hi;obtain⟨e,he⟩:=eN D hD;rw[kZ D hD,he];have:=eQ D.1;rw[bb.dk D hD,he]at this;rcases this with h1|h1|⟨_,_,_,_,_,h1,_⟩
    ·simp only[Ad.ep,Ad.gone.injEq]at h1;subst h1;exact .refl _
    ·cases h1
    ·cases h1
   ·rw[bq i (fun D hD e=>hi ⟨D,hD,e⟩)];exact eQ i
  exact⟨v,aP,g'',h',_,v,hR,rfl,cw,H3.sub gb,((st.trans st').trans st3).sub gb⟩
 cases e with
 |normal=>exact key q
 |ret=>exact key q
 |exit id=>exact q.elim
 |goto l=>exact q.elim
 |panic c=>exact q.elim
 |outgrown=>exact q.elim
end
def looks(o:Ak):List Tmp:=(match o.guard with | some (g,_)=>[g] | none=>[])++Cn o.op.args
def AK(E:Nat->Aa)(P:Program)(f:FuncId)(args:List Aa)(v:Aa):Prop:=∀h,ATr E P f args h (fun v' h'=>v'=v/\h'=h)
def Di(E:Nat->Aa)(P:Program)(f:FuncId)(args:List Aa)(h:Aq)(rd:List Nat)(v:Aa):Prop := ∀h',(∀j∈rd,h' j=h j)->ATr E P f args h' (fun v' cP=>v'=v/\cP=h')
theorem AK.on(H:AK E P f args v)(h:Aq)(rd:List Nat):Di E P f args h rd v:=fun h' _=>H h'
theorem Di.agree{h1:Aq}{rd:List Nat}(H:Di E P f args h rd v)(hh:∀j∈rd,h1 j=h j):Di E P f args h1 rd v :=
 fun h' e=>H h' fun j hj=>(e j hj).trans (hh j hj)
def VEq(v' v:Aa):Prop:=∀(g:Gh) (w:World) (u:Value),RV g w v' u->RV g w v u
theorem VEq.refl(v:Aa):VEq v v:=fun _ _ _ h=>h
theorem VEq.rv(h:VEq v' v){u:Value}(hr:RV g w v' u):RV g w v u:=h g w u hr
theorem VEq.cnd{c:Bool}{x y:Aa}(h:c=true->VEq x y):VEq (.cnd c x) (.cnd c y):=fun g w u hr=>by
 cases hr with
 |cnd _ _ _ h1 h0=>exact .cnd _ _ _ (fun e=>h e g w u (h1 e)) h0
structure OEq(o' o:Ad):Prop where
 ep:o.ep=o'.ep
 own:o.owned=true->o'.owned=true
 dfr:∀e,o'=.dfr e->o=.dfr e
 rel:∀(g:Gh) (w:World) (i:Nat),OR g w i o'->OR g w i o
 mp:∀e es,o'=.amap e es->o=.amap e es
theorem OEq.refl(o:Ad):OEq o o:=⟨rfl,id,fun _ h=>h,fun _ _ _ h=>h,fun _ _ h=>h⟩
def OutW(h:Aq):Option (Nat×Ad)->Option (Nat×Ad)->Prop
 |none,none=>True
 |some (i,o'),some (j,o)=>i=j/\OEq o' o
 |none,some (j,o)=>OEq (h j) o
 |some (i,o'),none=>o'=h i
theorem OutW.refl{h:Aq}:∀(o:Option (Nat×Ad)),OutW h o o
 |none=>trivial
 |some (i,o)=>⟨rfl,.refl o⟩
theorem OutW.put{a b:Option (Nat×Ad)}(H:OutW h a b)(i:Nat):OEq (putH h a i) (putH h b i):=by
 cases a with
 |none =>
  cases b with
  |none=>exact .refl _
  |some q =>
   obtain⟨j,o⟩:=q;show OEq (h i) (if i=j then o else h i);split
   ·rename_i e;subst e;exact H
   ·exact .refl _
 |some p =>
  obtain⟨k,o'⟩:=p;cases b with
  |none =>
   have H:o'=h k:=H;show OEq (if i=k then o' else h i) (h i);split
   ·rename_i e;subst e;rw[H];exact .refl _
   ·exact .refl _
  |some q =>
   obtain⟨j,o⟩:=q;obtain⟨rfl,H⟩:=H;show OEq (if i=k then o' else h i) (if i=k then o else h i);split
   ·exact H
   ·exact .refl _
theorem HR.oeq(H:HR E g h w)(s:∀i,OEq (h i) (h' i)):HR E g h' w := ⟨fun i=>(s i).rel _ _ _ (H.obj i),fun i=>by rw[H.ep i,(s i).ep],fun i j hi hj e=>H.inj i j ((s i).own hi) ((s j).own hj) e,fun i hi=>H.sep i ((s i).own hi),H.fzb,H.glob⟩
theorem Stp.oeq{g':Gh}{cP:Aq}{w':World}(a:Stp g h w g' h' w')(s:∀i,OEq (h' i) (cP i)):Stp g h w g' cP w' := ⟨a.le,a.os,a.tape,a.output,a.size,a.keep,fun i hi=>a.own i ((s i).own hi),a.fzn,a.drawn⟩
def DFz(E:Nat->Aa)(P:Program)(f:FuncId)(xs:List Aa)(h:Aq)(v:Aa)(rd:List Nat)(out:Option (Nat×Ad)):Prop := ∃i,i∈rd/\(h i).plain/\((out=some (i,.gone ((h i).ep+1))/\(h i).owned=true/\∃ys,FVl i (h i) xs ys/\AK E P f ys v)\/(out=some (i,h i)/\AK E P f xs v)\/∃ob,out=some (i,ob)/\∀h',(∀j∈rd,h' j=h j)->ATr E P f xs h' (fun v' cP=>v'=v/\cP=putH h' (some (i,ob))))
def EK(E:Nat->Aa)(P:Program)(o:Ak)(S:Au)(v:Aa)(rd:List Nat)(out:Option (Nat×Ad)):Prop :=
 match o.guard with
 |none=>∃f args,o.op=.callf f args/\DFz E P f (args.map (Ah E S.t)) S.h v rd out
 | some (tg,want)=>∃c x,HC (S.t.getD tg .top) want=some c/\v=.cnd c x/\(c=false->out=none)/\((∃f args,o.op=.callf f args/\(c=true->BT c S.t args/\DFz E P f (args.map (argU E S.t)) S.h x rd out)) \/
  (o.op.isCall=false/\(c=true->o.op.unAll E c S.t/\(o.op.req (argU E S.t) S.h).ok/\VEq (o.op.req (argU E S.t) S.h).v x/\(∀j∈(o.op.req (argU E S.t) S.h).rd,j∈rd)/\OutW S.h (o.op.req (argU E S.t) S.h).out out/\∀i ob,out=some (i,ob)->i∈rd)))
def Bp(E:Nat->Aa)(P:Program)(o:Ak)(S:Au)(v:Aa)(rd:List Nat)(out:Option (Nat×Ad)):Prop :=
 match o.guard with
 |none=>match o.op with
  |.callf f args=>Di E P f (args.map (Ah E S.t)) S.h rd v/\out=none
  |.callv x args=>(∃f nb caps,Ah E S.t x=.fn f nb caps/\CY P f=true/\Di E P f (fnArgs nb (args.map (Ah E S.t)) caps) S.h rd v)/\out=none
  |op=>(op.req (Ah E S.t) S.h).ok/\VEq (op.req (Ah E S.t) S.h).v v/\(∀j∈(op.req (Ah E S.t) S.h).rd,j∈rd)/\OutW S.h (op.req (Ah E S.t) S.h).out out/\∀i ob,out=some (i,ob)->i∈rd
 |some (tg,want)=>∃c x,HC (S.t.getD tg .top) want=some c/\v=.cnd c x/\out=none/\match o.op with
  |.callf f args=>c=true->BT c S.t args/\Di E P f (args.map (argU E S.t)) S.h rd x
  |.callv y args=>c=true->∃f nb caps,argU E S.t y=.fn f nb caps/\CY P f=true/\BT c S.t (y :: args)/\Di E P f (fnArgs nb (args.map (argU E S.t)) caps) S.h rd x
  |op=>op.quiet=true/\(c=true->op.unAll E c S.t/\(op.req (argU E S.t) S.h).ok/\VEq (op.req (argU E S.t) S.h).v x/\∀j∈(op.req (argU E S.t) S.h).rd,j∈rd)
def B6(E:Nat->Aa)(P:Program)(o:Ak)(S:Au)(v:Aa)(rd:List Nat)(out:Option (Nat×Ad)):Prop:=Bp E P o S v rd out\/EK E P o S v rd out
section
variable {ρ:Option Nat}
theorem Uu{o:Ak}{rd:List Nat}(fq:∀D∈S.ds,S.h D.1=.dfr D.2)(h:Bp E P o S v rd out) :
  aop E P o S (fun S'=>∃v' out',VEq v' v/\OutW S.h out' out/\S'=⟨putT S.t o.dst v',putH S.h out',S.ds⟩):=by
 unfold Bp at h;unfold aop;simp only[EJ];cases hg:o.guard with
 |none =>
  simp only[hg]at h |-;cases aT:o.op<;>simp only[aT]at h |-
  case callf f args =>obtain⟨h1,rfl⟩:=h;refine(h1 S.h (fun _ _=>rfl)).mono ?_;rintro v' h' ⟨rfl,rfl⟩;exact⟨fq,_,none,.refl _,trivial,rfl⟩
  case callv x args =>obtain⟨⟨f,nb,caps,hx,he,h1⟩,rfl⟩:=h;rw[hx];refine⟨he,(h1 S.h (fun _ _=>rfl)).mono ?_⟩;rintro v' h' ⟨rfl,rfl⟩;exact⟨fq,_,none,.refl _,trivial,rfl⟩
  case mnext x=>exact h.1.elim
  all_goals
   obtain⟨h1,hv,_,ho,_⟩:=h;exact⟨h1,_,_,hv,ho,rfl⟩
 |some y =>
  obtain⟨tg,want⟩:=y;simp only[hg]at h |-;obtain⟨c,x,hc,rfl,rfl,h⟩:=h;simp only[hc];cases aT:o.op<;>simp only[aT]at h |-
  case callf f args =>exact .inl ⟨x,fun e=>⟨(h e).1,(h e).2 S.h (fun _ _=>rfl)⟩,_,none,.refl _,trivial,rfl⟩
  case callv y args =>
   refine⟨fun e=>?_,fun e=>?_⟩
   ·subst e;exact⟨_,none,.cnd (fun e=>by cases e),trivial,rfl⟩
   ·obtain⟨f,nb,caps,hx,he,h1,h2⟩:=h e;rw[hx];exact⟨he,.inl ⟨x,fun e=>⟨h1,h2 S.h (fun _ _=>rfl)⟩,_,none,.refl _,trivial,rfl⟩⟩
  case mnext x=>cases h.1
  all_goals
   obtain⟨hq,h1⟩:=h;exact⟨hq,fun e=>⟨(h1 e).1,(h1 e).2.1⟩,_,none,.cnd (fun e=>(h1 e).2.2.1),trivial,rfl⟩
theorem SR.veq(hs:SR E g ⟨t,h,S.ds⟩ a w)(hl:t'.length=t.length)(hv:∀(i:Nat) (x y:Aa),t[i]?=some x->t'[i]?=some y->VEq x y)(ho:∀i,OEq (h i) (h' i)):SR E g ⟨t',h',S.ds⟩ a w:=by
 refine⟨hs.hr.oeq ho,⟨by rw[hl];exact hs.tm.1,fun i y u hy hu=>?_⟩,hs.df,fun D hD=>(ho D.1).dfr _ (hs.dk D hD),hs.dn⟩;have hi:i<t.length:=by rw[<-hl];exact(A8.1 hy).1
 have hx:t[i]?=some t[i]:=AF hi;exact(hv i _ y hx hy).rv (hs.tm.2 i _ u hx hu)
theorem wzjk{d:Option Tmp}(h:VEq v' v):∀(i:Nat) (x y:Aa),(putT t d v')[i]?=some x->(putT t d v)[i]?=some y->VEq x y:=by
 intro i x y hx hy;cases d with
 |none=>simp only[putT]at hx hy;rw[hx]at hy;cases hy;exact .refl _
 |some d =>
  simp only[putT,DP]at hx hy;by_cases e:d=i
  ·simp only[e,AX]at hx hy;split at hx<;>simp_all
  ·simp only[e,CG]at hx hy;rw[hx]at hy;cases hy;exact .refl _
theorem qz7f(t:List Aa)(d:Option Tmp)(v:Aa):(putT t d v).length=t.length:=by cases d<;>simp[putT]
theorem ATr.fz{ys:List Aa}{R:Aa->Aq->Prop}(aU:(h i).owned=true)(hf:FVl i (h i) xs ys)(H:ATr E P f ys (hset h i (.gone ((h i).ep+1))) R):ATr E P f xs h R:=fun g w vs hh hv=>by obtain⟨H',st⟩:=hh.freeze (id:=i) (h':=hset h i (.gone ((h i).ep+1))) rfl aU (by simp[hset]) (fun j hj=>.inl (by simp[hset,hj]));exact(H _ w vs H' (hf.rvs hh rfl hv)).mono fun _ _ ⟨g',h',r,v,q,e,rv,hr,st'⟩=>⟨g',h',r,v,q,e,rv,hr,st.trans st'⟩
theorem DFz.atr{rd:List Nat}(H:DFz E P f xs h v rd out){ds:List (Nat×Nat)}(fq:∀D∈ds,h D.1=.dfr D.2):ATr E P f xs h (fun v' h'=>(∀D∈ds,h' D.1=.dfr D.2)/\v'=v/\h'=putH h out):=by
 obtain⟨i,_,h2,⟨rfl,h1,ys,h3,h4⟩|⟨rfl,h4⟩|⟨ob,rfl,h4⟩⟩:=H
 ·refine ATr.fz h1 h3 ((h4 _).mono ?_);rintro v' h' ⟨rfl,rfl⟩;refine⟨fun D hD=>?_,rfl,rfl⟩;show(if D.1=i then _ else h D.1)=_;rw[Ag (fun e=>by rw[<-e,fq D hD]at h2;exact h2)];exact fq D hD
 ·refine(h4 h).mono ?_;rintro v' h' ⟨rfl,rfl⟩;refine⟨fq,rfl,funext fun j=>?_⟩;show _=if j=i then _ else _;split
  ·rename_i e;rw[e]
  ·rfl
 ·refine(h4 h fun _ _=>rfl).mono ?_;rintro v' h' ⟨rfl,rfl⟩;refine⟨fun D hD=>?_,rfl,rfl⟩;show(if D.1=i then _ else h D.1)=_;rw[Ag (fun e=>by rw[<-e,fq D hD]at h2;exact h2)];exact fq D hD
theorem qzum{rd:List Nat}(bY:G5 P ops o ao=true)(h:B6 E P ao S v rd out)(hs:SR E g S a w){Q:Exit->Act->World->Prop}{K:Act->World->Prop} (hK:∀g' a' w',SR E g' ⟨putT S.t ao.dst v,putH S.h out,S.ds⟩ a' w'->Stp g S.h w g' (putH S.h out) w'->K a' w') :
  if Region.wanted o (yielded ops a.tmps) then o.wpIn (FW ρ) 0 P a w K Q else(∀f,o.about P w a.eval=some f->(FW ρ).fn f)/\K (a.put o.dst undef) w:=by
 have adj:∀{v':Aa} {out':Option (Nat×Ad)},VEq v' v->OutW S.h out' out->∀g' a' w',SR E g' ⟨putT S.t ao.dst v',putH S.h out',S.ds⟩ a' w'->Stp g S.h w g' (putH S.h out') w'->K a' w':=fun hv ho g' a' w' aH st =>
  hK g' a' w' (aH.veq (S:=S) (by simp[qz7f]) (wzjk hv) ho.put) (st.oeq ho.put)
 have run:aop E P ao S (fun S'=>∃v' out',VEq v' v/\OutW S.h out' out/\S'=⟨putT S.t ao.dst v',putH S.h out',S.ds⟩)->if Region.wanted o (yielded ops a.tmps) then o.wpIn (FW ρ) 0 P a w K Q else(∀f,o.about P w a.eval=some f->(FW ρ).fn f)/\K (a.put o.dst undef) w:=by
  intro h0;have h1:=OQ (ρ:=ρ) (Q:=Q) bY h0 hs;have imp:∀a' w',(∃g' S',(∃v' out',VEq v' v/\OutW S.h out' out/\S'=⟨putT S.t ao.dst v',putH S.h out',S.ds⟩)/\SR E g' S' a' w'/\Stp g S.h w g' S'.h w')->K a' w':=by rintro a' w' ⟨g',_,⟨v',out',hv,ho,rfl⟩,aH,st⟩;exact adj hv ho g' a' w' aH st
  split at h1
  ·rename_i hw;rw[Aj hw];exact Oper.wpIn_mono imp h1
  ·rename_i hw;rw[Ag hw];exact⟨h1.1,imp _ _ h1.2⟩
 rcases h with h|h
 ·exact run (Uu hs.dk h)
 ·unfold EK at h;cases hg:ao.guard with
  |none =>simp only[hg]at h;obtain⟨f,args,aT,h⟩:=h;refine run ?_;unfold aop;simp only[hg,aT];refine(h.atr hs.dk).mono ?_;rintro v' h' ⟨h1,rfl,rfl⟩;exact⟨h1,_,out,.refl _,.refl _,rfl⟩
  |some y =>
   obtain⟨tg,want⟩:=y;simp only[hg]at h;obtain⟨c,x,hc,rfl,hn,h⟩:=h;rcases h with ⟨f,args,aT,h⟩|⟨cH,h⟩
   ·refine run ?_;unfold aop;simp only[hg,hc,aT,EJ];refine .inr ⟨fun e=>⟨(h e).1,((h e).2.atr hs.dk).mono ?_⟩,fun e=>?_⟩
    ·rintro v' h' ⟨h1,rfl,rfl⟩;subst e;exact⟨h1,_,out,.refl _,.refl _,rfl⟩
    ·subst e;exact⟨_,none,.cnd (fun e=>by cases e),by rw[hn rfl];trivial,rfl⟩
   ·obtain⟨hk,dc⟩:=Uk bY;have bQ:=hk.dst;refine Uj (E:=E) (ρ:=ρ) (P:=P) (ops:=ops) (OO dc cH) hk hg hc (fun e=>⟨(h e).1,(h e).2.1⟩) g a w S hs (fun _ _=>rfl) (fun _ _=>rfl) K Q (fun g' a' w' h1 h2=>?_);rw[bQ]at h1;cases c with
    |false=>exact adj (out':=none) (.cnd (fun e=>by cases e)) (by rw[hn rfl];trivial) g' a' w' h1 h2
    |true=>exact adj (.cnd fun _=>(h rfl).2.2.1) (h rfl).2.2.2.2.1 g' a' w' h1 h2
theorem OT(h:∀x∈Cn l,t'.getD x .top=t.getD x .top)(hy:y∈l):Ah E t' y=Ah E t y:=by
 cases y with
 |t n=>exact h n (EI hy)
 |c v=>rfl
 |g i=>rfl
theorem JK(h:∀x∈Cn l,t'.getD x .top=t.getD x .top)(hy:y∈l):argU E t' y=argU E t y:=by
 cases y with
 |t n=>simp only[argU,h n (EI hy)]
 |c v=>rfl
 |g i=>rfl
theorem DY{c:Bool}{t t':List Aa}:∀{l:List Ae},(∀x∈Cn l,t'.getD x .top=t.getD x .top)->BT c t l->BT c t' l
 |[],_,h=>h
 |.t n :: r,hx,h=>⟨by rw[hx n (by simp[Cn])];exact h.1,DY (fun x nO=>hx x (by simp[Cn,nO])) h.2⟩
 |.c v :: r,hx,h=>DY (l:=r) hx h
 |.g i :: r,hx,h=>DY (l:=r) hx h
theorem Uv{c:Bool}{o:Ao}(hx:∀x∈Cn o.args,t'.getD x .top=t.getD x .top)(h:o.unAll E c t):o.unAll E c t':=by
 by_cases je:∃x y z,o=.pick x y z
 ·obtain⟨x,y,z,rfl⟩:=je;simp only[Ao.unAll]at h |-;have sub:∀u,u∈[x,y,z]->∀n∈Cn [u],t'.getD n .top=t.getD n .top:=fun u hu n hn=>hx n (EI (by have:=JI hn;simp only[AV,Oy,O0]at this;rw[this];exact hu));refine⟨DY (sub x (by simp)) h.1,?_⟩;rw[JK (l:=[x]) (sub x (by simp)) (by simp)];have h2:=h.2;split at h2
  ·exact⟨DY (sub y (by simp)) h2.1,DY (sub z (by simp)) h2.2⟩
  ·exact h2.elim
 ·cases o<;>first|exact DY hx h|exact absurd ⟨_,_,_,rfl⟩ je
theorem OU{m:List Ae}(h:∀x∈Cn l,t'.getD x .top=t.getD x .top)(hm:∀y∈m,y∈l):m.map (Ah E t')=m.map (Ah E t) :=
 H8 fun y hy=>OT h (hm y hy)
theorem OV{m:List Ae}(h:∀x∈Cn l,t'.getD x .top=t.getD x .top)(hm:∀y∈m,y∈l):m.map (argU E t')=m.map (argU E t) :=
 H8 fun y hy=>JK h (hm y hy)
theorem DFz.agree{rd:List Nat}(H:DFz E P f xs h v rd out)(hh:∀j∈rd,h' j=h j):DFz E P f xs h' v rd out:=by
 obtain⟨i,hi,h2,H⟩:=H;refine⟨i,hi,by rw[hh i hi];exact h2,?_⟩;rcases H with H|H|⟨ob,e,H⟩
 ·exact .inl (by rw[hh i hi];exact H)
 ·exact .inr (.inl (by rw[hh i hi];exact H))
 ·exact .inr (.inr ⟨ob,e,fun k e=>H k fun j hj=>(e j hj).trans (hh j hj)⟩)
theorem OutW.agree{rd:List Nat}(hh:∀j∈rd,h' j=h j):∀{a b:Option (Nat×Ad)},(∀i ob,a=some (i,ob)->i∈rd)->(∀i ob,b=some (i,ob)->i∈rd)->OutW h a b->OutW h' a b
 |none,none,_,_,H=>H
 |some (i,o'),some (j,o),_,_,H=>H
 |none,some (j,o),_,hb,H=>by show OEq (h' j) o;rw[hh j (hb _ _ rfl)];exact H
 |some (i,o'),none,ha,_,H=>by show o'=h' i;rw[hh i (ha _ _ rfl)];exact H
theorem EK.agree{o:Ak}{S S':Au}{v:Aa}{rd:List Nat}{out:Option (Nat×Ad)}(h:EK E P o S v rd out)(ht:∀x∈looks o,S'.t.getD x .top=S.t.getD x .top)(hh:∀j∈rd,S'.h j=S.h j):EK E P o S' v rd out:=by
 have cn:∀x∈Cn o.op.args,S'.t.getD x .top=S.t.getD x .top:=fun x hx=>ht x (List.mem_append_right _ hx);unfold EK at h |-;cases hg:o.guard with
 |none =>simp only[hg]at h |-;obtain⟨f,args,aT,h⟩:=h;rw[aT]at cn;exact⟨f,args,aT,by rw[OU (l:=args) cn (fun y hy=>hy)];exact h.agree hh⟩
 |some y =>
  obtain⟨tg,want⟩:=y;simp only[hg]at h |-;obtain⟨c,x,hc,hv,hn,h⟩:=h;refine⟨c,x,by rw[ht tg (by simp[looks,hg])];exact hc,hv,hn,?_⟩;rcases h with ⟨f,args,aT,h⟩|⟨cH,h⟩
  ·rw[aT]at cn;exact .inl ⟨f,args,aT,fun e=>⟨DY cn (h e).1,by rw[OV (l:=args) cn (fun y hy=>hy)];exact(h e).2.agree hh⟩⟩
  ·refine .inr ⟨cH,fun e=>?_⟩;obtain⟨h0,h1,h2,h3,h4,h5⟩:=h e;rw[JA (ar':=argU E S.t) _ (fun y hy=>JK cn hy),JC _ h1 (fun j hj=>hh j (h3 j hj))];exact⟨Uv cn h0,h1,h2,h3,h4.agree hh (fun i ob e=>h3 _ (HU _ h1 e).2) h5,h5⟩
theorem EK.rd{o:Ak}{rd:List Nat}(h:EK E P o S v rd (some (i,ob))):i∈rd:=by
 have fz:∀{f xs h v},DFz E P f xs h v rd (some (i,ob))->i∈rd:=fun H=>by obtain⟨j,hj,_,⟨e,_⟩|⟨e,_⟩|⟨_,e,_⟩⟩:=H<;>(cases e;exact hj)
 unfold EK at h;cases hg:o.guard with
 |none=>simp only[hg]at h;obtain⟨f,args,_,h⟩:=h;exact fz h
 |some y =>
  obtain⟨tg,want⟩:=y;simp only[hg]at h;obtain⟨c,x,_,_,hn,h⟩:=h;cases c with
  |false=>cases hn rfl
  |true =>
   rcases h with ⟨f,args,_,h⟩|⟨_,h⟩
   ·exact fz (h rfl).2
   ·exact(h rfl).2.2.2.2.2 _ _ rfl
theorem Bp.agree{o:Ak}{S S':Au}{v:Aa}{rd:List Nat}{out:Option (Nat×Ad)}(h:Bp E P o S v rd out)(ht:∀x∈looks o,S'.t.getD x .top=S.t.getD x .top)(hh:∀j∈rd,S'.h j=S.h j):Bp E P o S' v rd out:=by
 have cn:∀x∈Cn o.op.args,S'.t.getD x .top=S.t.getD x .top:=fun x hx=>ht x (List.mem_append_right _ hx);unfold Bp at h |-;cases hg:o.guard with
 |none =>
  simp only[hg]at h |-;cases aT:o.op<;>simp only[aT]at h cn |-
  case callf f args =>rw[OU (l:=args) cn (fun y hy=>hy)];exact⟨h.1.agree hh,h.2⟩
  case callv x args =>rw[OT (l:=x :: args) cn (AS ..),OU (l:=x :: args) cn (fun y hy=>AR _ hy)];obtain⟨⟨f,nb,caps,h1,h2,h3⟩,h4⟩:=h;exact⟨⟨f,nb,caps,h1,h2,h3.agree hh⟩,h4⟩
  all_goals
   obtain⟨h1,h2,h3,h4,h5⟩:=h;rw[JA (ar':=Ah E S.t) _ (fun y hy=>OT cn hy),JC _ h1 (fun j hj=>hh j (h3 j hj))];refine⟨h1,h2,h3,?_,h5⟩;revert h4;generalize ho:(Ao.req _ (Ah E S.t) S.h).out=o';intro h4;cases o' with
   |none =>
    cases out with
    |none=>trivial
    |some q=>show OEq (S'.h q.1) q.2;rw[hh q.1 (h5 q.1 q.2 rfl)];exact h4
   |some p =>
    cases out with
    |none=>show p.2=S'.h p.1;rw[hh p.1 (h3 _ (HU _ h1 ho).2)];exact h4
    |some q=>exact h4
 |some y =>
  obtain⟨tg,want⟩:=y;simp only[hg]at h |-;obtain⟨c,x,hc,hv,ho,h⟩:=h;refine⟨c,x,by rw[ht tg (by simp[looks,hg])];exact hc,hv,ho,?_⟩;cases aT:o.op<;>simp only[aT]at h cn |-
  case callf f args =>intro e;rw[OV (l:=args) cn (fun y hy=>hy)];exact⟨DY cn (h e).1,(h e).2.agree hh⟩
  case callv x args =>intro e;obtain⟨f,nb,caps,h1,h2,h3,h4⟩:=h e;refine⟨f,nb,caps,by rw[JK (l:=x :: args) cn (AS ..)];exact h1,h2,?_⟩;rw[OV (l:=x :: args) cn (fun y hy=>AR _ hy)];exact⟨DY (l:=x :: args) cn h3,h4.agree hh⟩
  all_goals
   refine⟨h.1,fun e=>?_⟩;obtain⟨h0,h1,h2,h3⟩:=h.2 e;rw[JA (ar':=argU E S.t) _ (fun y hy=>JK cn hy),JC _ h1 (fun j hj=>hh j (h3 j hj))];exact⟨Uv cn h0,h1,h2,h3⟩
theorem Bp.rd{o:Ak}{rd:List Nat}(h:Bp E P o S v rd (some (i,ob))):i∈rd:=by
 unfold Bp at h;cases hg:o.guard with
 |none =>
  simp only[hg]at h;cases aT:o.op<;>simp only[aT]at h
  case callf f args=>exact absurd h.2 (by simp)
  case callv x args=>exact absurd h.2 (by simp)
  all_goals
   exact h.2.2.2.2 _ _ rfl
 |some y =>obtain⟨tg,want⟩:=y;simp only[hg]at h;obtain⟨c,x,_,_,ho,_⟩:=h;cases ho
theorem B6.agree{o:Ak}{S S':Au}{v:Aa}{rd:List Nat}{out:Option (Nat×Ad)}(h:B6 E P o S v rd out)(ht:∀x∈looks o,S'.t.getD x .top=S.t.getD x .top)(hh:∀j∈rd,S'.h j=S.h j):B6 E P o S' v rd out:=h.imp (fun h=>h.agree ht hh) (fun h=>h.agree ht hh)
theorem B6.rd{o:Ak}{S:Au}{v:Aa}{rd:List Nat}{i:Nat}{ob:Ad}(h:B6 E P o S v rd (some (i,ob))):i∈rd:=h.elim (fun h=>h.rd) (fun h=>h.rd)
end
def Bq{V:Type}(L:Nat->Bool)(dst:Nat->Option Nat)(val:Nat->V)(x:Nat)(b:V):Nat->V
 |0=>b
 |k+1=>if L k=true/\dst k=some x then val k else Bq L dst val x b k
section
variable {V:Type}{dst:Nat->Option Nat}{val:Nat->V}{x:Nat}{b:V}
theorem Fx:∀(k:Nat),(∀j,j<k->dst j=some x->L j=L' j)->Bq L dst val x b k=Bq L' dst val x b k
 |0,_=>rfl
 |k+1,h=>by
  simp only[Bq];rw[Fx k (fun j hj=>h j (by omega))];by_cases e:dst k=some x
  ·rw[h k (by omega) e]
  ·simp[e]
theorem OW{i:Nat}(hL:∀j,L' j=(L j||j==i))(dY:L i=false):∀(n:Nat),i<n->(dst i=some x->∀j,i<j->j<n->L j=true->dst j≠some x) ->
  Bq L' dst val x b n=if dst i=some x then val i else Bq L dst val x b n
 |0,h,_=>by omega
 |k+1,h,hd=>by
  by_cases e:k=i
  ·subst e
   have h1:Bq L' dst val x b k=Bq L dst val x b k:=Fx k fun j hj _=>by
    rw[hL j];have:(j==k)=false:=by simp;omega
    rw[this,Bool.or_false]
   simp only[Bq,hL k,dY,h1];simp
  ·have hk:i<k:=by omega
   have ek:(k==i)=false:=by simp[e]
   simp only[Bq,hL k,ek,Bool.or_false];rw[OW hL dY k hk (fun hx j h1 h2=>hd hx j h1 (by omega))];by_cases hc:L k=true/\dst k=some x
   ·simp only[hc,and_self,AX];have:dst i≠some x:=fun hx=>hd hx k hk (by omega) hc.1 hc.2;simp[this]
   ·simp only[hc,CG]
theorem Uw(h:∀j,L j=false):Bq L dst val x b n=b:=by
 induction n with
 |zero=>rfl
 |succ k ih=>simp[Bq,h k,ih]
end
def BU(m:List Ak)(k:Nat):Option Tmp:=(m[k]?).bind (·.dst)
def yzl(O:Nat->Option (Nat×Ad))(k:Nat):Option Nat:=(O k).map (·.1)
def G6(O:Nat->Option (Nat×Ad))(k:Nat):Ad:=((O k).map (·.2)).getD (.gone 0)
def stL(m:List Ak)(V:Nat->Aa)(O:Nat->Option (Nat×Ad))(S:Au)(n:Nat)(L:Nat->Bool):Au := ⟨(List.range S.t.length).map (fun x=>Bq L (BU m) V x (S.t.getD x .top) n),fun id=>Bq L (yzl O) (G6 O) id (S.h id) n,S.ds⟩
def JL(S:Au)(d:Option Tmp)(v:Aa)(out:Option (Nat×Ad)):Au:=⟨putT S.t d v,putH S.h out,S.ds⟩
def lx(m:List Ak)(V:Nat->Aa)(O:Nat->Option (Nat×Ad))(S:Au):Nat->Au
 |0=>S
 |k+1=>JL (lx m V O S k) (BU m k) (V k) (O k)
theorem Au.eq(a:S.t=S'.t)(b:S.h=S'.h)(c:S.ds=S'.ds):S=S':=by cases S;cases S';simp only at a b c;subst a;subst b;subst c;rfl
section
theorem wzrj(L:Nat->Bool):(stL m V O S n L).t.length=S.t.length:=by simp[stL]
theorem Uy(L:Nat->Bool)(x:Nat):(stL m V O S n L).t.getD x .top=if x<S.t.length then Bq L (BU m) V x (S.t.getD x .top) n else .top:=by by_cases h:x<S.t.length<;>simp[stL,h]
theorem LC(L:Nat->Bool)(x:Nat):(stL m V O S n L).t[x]?=if x<S.t.length then some (Bq L (BU m) V x (S.t.getD x .top) n) else none:=by by_cases h:x<S.t.length<;>simp[stL,h]
theorem Uz(hL:∀j,L' j=(L j||j==i))(dY:L i=false)(aQ:i<n)(ht:∀x,BU m i=some x->∀j,i<j->j<n->L j=true->BU m j≠some x)(hh:∀x,yzl O i=some x->∀j,i<j->j<n->L j=true->yzl O j≠some x):stL m V O S n L'=JL (stL m V O S n L) (BU m i) (V i) (O i):=by
 have et:(stL m V O S n L').t=putT (stL m V O S n L).t (BU m i) (V i):=by
  refine Lr fun x=>?_;have key:=OW (val:=V) (b:=S.t.getD x .top) hL dY n aQ (fun e=>ht x e);rw[LC];cases hd:BU m i with
  |none =>
   rw[hd]at key;have key':Bq L' (BU m) V x (S.t.getD x .top) n=Bq L (BU m) V x (S.t.getD x .top) n:=by simpa using key
   simp only[putT,LC,key']
  |some d =>
   rw[hd]at key;simp only[putT,DP,LC,wzrj];by_cases e:d=x
   ·subst e;simp only[AX]at key |-;rw[key]
   ·have:¬(some d=some x):=fun h=>e (by injection h);simp only[this,CG]at key;simp only[e,CG,key]
 have eh:(stL m V O S n L').h=putH (stL m V O S n L).h (O i):=by
  funext id;have key:=OW (val:=G6 O) (b:=S.h id) hL dY n aQ (fun e=>hh id e);show Bq L' (yzl O) (G6 O) id (S.h id) n=_;rw[key];cases hO:O i with
  |none=>simp[yzl,hO,putH,stL]
  |some y =>
   obtain⟨d,ob⟩:=y;by_cases e:d=id
   ·subst e;simp[yzl,G6,hO,putH,hset]
   ·have:¬id=d:=fun h=>e h.symm;simp[yzl,G6,hO,putH,hset,stL,e,this]
 exact Au.eq et eh rfl
theorem JM:∀(k:Nat),k<=n->stL m V O S n (fun j=>decide (j<k))=lx m V O S k
 |0,_=>by
  have e0:∀j,(decide (j<0))=false:=fun j=>by simp
  have et:(stL m V O S n (fun j=>decide (j<0))).t=S.t:=by
   refine Lr fun x=>?_;rw[LC,Uw e0];by_cases h:x<S.t.length
   ·simp[h]
   ·rw[Ag h,Ls (by omega)]
  have eh:(stL m V O S n (fun j=>decide (j<0))).h=S.h:=by funext id;exact Uw e0
  exact Au.eq et eh rfl
 |k+1,h=>by
  have hL:∀j,decide (j<k+1)=(decide (j<k)||j==k):=fun j=>by
   by_cases e:j=k
   ·simp[e]
   ·have:decide (j<k+1)=decide (j<k):=(by simp only[decide_eq_decide];omega);simp[e,this]
  rw[Uz (L:=fun j=>decide (j<k)) (i:=k) hL (by simp) (by omega) (fun x _ j h1 _ h3=>by simp at h3;omega) (fun x _ j h1 _ h3=>by simp at h3;omega),JM k (by omega)];rfl
theorem qz93:stL m V O S n (fun _=>true)=lx m V O S n:=by
 rw[<-JM n (AA n)];have et:(stL m V O S n (fun _=>true)).t=(stL m V O S n (fun j=>decide (j<n))).t:=by refine H8 fun x _=>Fx n fun j hj _=>by simp[hj]
 have eh:(stL m V O S n (fun _=>true)).h=(stL m V O S n (fun j=>decide (j<n))).h:=by funext id;exact Fx n fun j hj _=>by simp[hj]
 exact Au.eq et eh rfl
end
structure OX(E:Nat->Aa)(P:Program)(m:List Ak)(preds:List (List Nat))(S:Au)(n:Nat)(V:Nat->Aa)(R:Nat->List Nat)(O:Nat->Option (Nat×Ad))(i j id:Nat):Prop where
 lt:j<i
 no:O j=none
 rd:∀k∈R j,k=id
 ord:∀l,l<n->l≠i->l≠j->yzl O l=some id->l∈preds.getD j []\/j∈preds.getD l []
 step:∀o,m[j]?=some o->∀S':Au,(∀x∈looks o,S'.t.getD x .top=(lx m V O S j).t.getD x .top)->S'.h id=G6 O i->B6 E P o S' (V j) (R j) (O j)
structure LD(E:Nat->Aa)(P:Program)(m:List Ak)(preds:List (List Nat))(S:Au)(n:Nat)(V:Nat->Aa)(R:Nat->List Nat)(O:Nat->Option (Nat×Ad)):Prop where
 len:m.length=n
 lex:∀k o,m[k]?=some o->B6 E P o (lx m V O S k) (V k) (R k) (O k)
 lt:∀i j,j∈preds.getD i []->j<i
 slots:∀i j oi oj d,m[i]?=some oi->m[j]?=some oj->i≠j->j∉preds.getD i []->i∉preds.getD j []->oi.dst=some d->d∉looks oj/\oj.dst≠some d
 heap:∀i j id,i<n->j<n->i≠j->j∉preds.getD i []->i∉preds.getD j []->yzl O i=some id->id∉R j\/OX E P m preds S n V R O i j id
section
variable {ρ:Option Nat}
theorem OY{V:Type}{L:Nat->Bool}{dst:Nat->Option Nat}{val:Nat->V}{x i:Nat}{b:V}(hL:L i=true)(hd:dst i=some x):∀(n:Nat),i<n->(∀l,l<n->i<l->dst l=some x->L l=false)->Bq L dst val x b n=val i
 |0,h,_=>by omega
 |n+1,h,hl=>by
  unfold Bq;by_cases e:n=i
  ·subst e;simp[hL,hd]
  ·have h1:i<n:=by omega
   by_cases kg:dst n=some x
   ·have:=hl n (by omega) h1 kg;simp[this];exact OY hL hd n h1 fun l q1 q2 q3=>hl l (by omega) q2 q3
   ·simp[kg];exact OY hL hd n h1 fun l q1 q2 q3=>hl l (by omega) q2 q3
theorem LD.at(D:LD E P m preds S n V R O)(hc:∀j,L j=true->∀p∈preds.getD j [],L p=true){o:Ak}(hi:m[i]?=some o)(dY:L i=false)(hp:∀p∈preds.getD i [],L p=true) :
  B6 E P o (stL m V O S n L) (V i) (R i) (O i)/\∀L':Nat->Bool,(∀j,L' j=(L j||j==i))->stL m V O S n L'=JL (stL m V O S n L) o.dst (V i) (O i):=by
 have aQ:i<n:=by rw[<-D.len];exact(A8.1 hi).1
 have hd:BU m i=o.dst:=by simp[BU,hi]
 have wit:∀j d,j<n->BU m j=some d->∃oj,m[j]?=some oj/\oj.dst=some d:=fun j d hj h=>by rw[<-D.len]at hj;refine⟨m[j],AF hj,?_⟩;simpa [BU,AF hj] using h
 have same:∀j,j<n->j≠i->(L j=decide (j<i))\/(j∉preds.getD i []/\i∉preds.getD j []):=fun j hj aI=>by
  by_cases h1:j∈preds.getD i []
  ·left;rw[hp j h1];have:=D.lt i j h1;simp[this]
  ·by_cases h2:i∈preds.getD j []
   ·left;have:=D.lt j i h2;cases hL:L j with
    |false=>symm;simp;omega
    |true=>have:=hc j hL i h2;rw[dY]at this;cases this
   ·exact .inr ⟨h1,h2⟩
 have slots:∀x∈looks o,(stL m V O S n L).t.getD x .top=(lx m V O S i).t.getD x .top:=fun x hx=>by
  rw[<-JM (n:=n) i (by omega),Uy,Uy];split
  ·refine Fx n fun j hj dQ=>?_;by_cases e:j=i
   ·subst e;rw[dY];simp
   ·rcases same j hj e with h|⟨h1,h2⟩;·exact h
    ·obtain⟨oj,iy,gI⟩:=wit j x hj dQ;exact absurd hx (D.slots j i oj o x iy hi e h2 h1 gI).1
  ·rfl
 constructor
 ·by_cases gc:∃j id,j<n/\L j=true/\id∈R i/\yzl O j=some id/\OX E P m preds S n V R O j i id
  ·obtain⟨j,id,hj,lc,hid,dQ,sf⟩:=gc;refine sf.step o hi _ slots ?_;refine OY lc dQ n hj fun l hl dZ nP=>?_;by_cases e:l=i
   ·rw[e];exact dY
   ·rcases sf.ord l hl (by omega) e nP with h|h;·have:=D.lt i l h;have:=sf.lt;omega
    ·cases mw:L l with
     |false=>rfl
     |true=>have:=hc l mw i h;rw[dY]at this;cases this
  ·refine(D.lex i o hi).agree slots (fun id hid=>?_);rw[<-JM (n:=n) i (by omega)];refine Fx n fun j hj dQ=>?_;by_cases e:j=i
   ·subst e;rw[dY];simp
   ·rcases same j hj e with h|⟨h1,h2⟩;·exact h
    ·rcases D.heap j i id hj aQ e h2 h1 dQ with h|sf;·exact absurd hid h
     ·have nQ:=sf.lt;cases lc:L j with
      |false=>symm;simp;omega
      |true=>exact absurd ⟨j,id,hj,lc,hid,dQ,sf⟩ gc
 ·intro L' fH;rw[<-hd];refine Uz fH dY aQ (fun x hx j h1 h2 h3 dQ=>?_) (fun x hx j h1 h2 h3 dQ=>?_)
  ·rcases same j h2 (by omega) with h|⟨h4,h5⟩;·rw[h3]at h;simp at h;omega
   ·obtain⟨oj,iy,gI⟩:=wit j x h2 dQ;exact(D.slots i j o oj x hi iy (by omega) h4 h5 (hd▸hx)).2 gI
  ·rcases same j h2 (by omega) with h|⟨h4,h5⟩;·rw[h3]at h;simp at h;omega
   ·have dZ:j<m.length:=(by rw[D.len];exact h2);have h6:=D.lex j _ (AF dZ);rcases D.heap i j x aQ h2 (by omega) h4 h5 hx with bN|sf
    ·cases hO:O j with
     |none=>simp[yzl,hO]at dQ
     |some y =>obtain⟨d,ob⟩:=y;rw[hO]at h6;simp[yzl,hO]at dQ;subst dQ;exact bN h6.rd
    ·simp[yzl,sf.no]at dQ
variable {Q:Exit->Act->World->Prop}
theorem OZ:i∈Region.ready .any ops listed↔∃o,ops[i]?=some o/\listed.getD i true=false/\∀e∈o.after.toList,Region.binds .any e=true->listed.getD e.on false=true:=by
 unfold Region.ready;rw[List.mem_filter,Jr];constructor
 ·rintro⟨h1,h2⟩;rw[AI]at h2;obtain⟨h2,h3⟩:=h2;have ho:ops[i]?=some ops[i]:=by simp[h1]
  rw[ho]at h3;simp only[DS,Ll,Array.all_eq_true_iff_forall_mem,Lq,H5]at h3;refine⟨_,ho,by simpa using h2,fun e he hb=>?_⟩;rcases h3 e (by simpa using he) with h|h
  ·rw[hb]at h;cases h
  ·exact h
 ·rintro⟨o,ho,h2,h3⟩;refine⟨(Gt.1 ho).1,?_⟩;rw[AI,ho];refine⟨by simp[h2],?_⟩;simp only[DS,Ll,Array.all_eq_true_iff_forall_mem,Lq,H5];intro e he;cases hb:Region.binds .any e with
  |false=>exact .inl rfl
  |true=>exact .inr (h3 e (by simpa using he) hb)
theorem Pa(hs:listed.size=n)(hi:i<n):listed.getD i true=listed.getD i false:=by subst hs;simp[Array.getD,hi]
theorem wzhy(D:LD E P m preds S n V R O)(hn:ops.size=n)(gJ:∀(k:Nat) (o:Oper),ops[k]?=some o->∃ao,m[k]?=some ao/\G5 P ops o ao=true)(ge:∀(i:Nat) (o:Oper),ops[i]?=some o->∀e∈o.after.toList,Region.binds .any e=true->e.on<i)(jk:∀(i:Nat) (o:Oper),ops[i]?=some o->∀p∈preds.getD i [],∃e∈o.after.toList,Region.binds .any e=true/\(e.on=p\/p∈preds.getD e.on [])) : ∀(fuel:Nat) (listed:Array Bool),listed.size=n->(∀j,listed.getD j false=true->∀p∈preds.getD j [],listed.getD p false=true) -> (∃l:List Nat,(∀j,j<n->listed.getD j false=false->j∈l)/\l.length<=fuel)->∀(g:Gh) (a:Act) (w:World),SR E g (stL m V O S n (fun j=>listed.getD j false)) a w -> (∀g' a' w',SR E g' (lx m V O S n) a' w'->Stp g (stL m V O S n (fun j=>listed.getD j false)).h w g' (lx m V O S n).h w'->Q .normal a' w')->wpAnyIn (FW ρ) 0 P .any ops Q fuel listed a w:=by
 have fin:∀(listed:Array Bool),listed.size=n->(∀j,j<n->listed.getD j false=true)->stL m V O S n (fun j=>listed.getD j false)=lx m V O S n:=fun listed hs h=>by
  rw[<-qz93];have et:(stL m V O S n (fun j=>listed.getD j false)).t=(stL m V O S n (fun _=>true)).t:=H8 fun x _=>Fx n fun j hj _=>h j hj;have eh:(stL m V O S n (fun j=>listed.getD j false)).h=(stL m V O S n (fun _=>true)).h:=by funext id;exact Fx n fun j hj _=>h j hj
  exact Au.eq et eh rfl
 have allr:∀(listed:Array Bool),listed.size=n->Region.ready .any ops listed=[]->∀j,j<n->listed.getD j false=true:=fun listed hs hr j=>by
  induction j using Nat.strongRecOn with
  |ind j ih =>
   intro hj;cases hl:listed.getD j false with
   |true=>rfl
   |false =>have ld:j<ops.size:=(by omega);have:j∈Region.ready .any ops listed:=OZ.2 ⟨ops[j],by simp[ld],by rw[Pa hs hj];exact hl,fun e he hb=>ih e.on (ge j _ (by simp[ld]) e he hb) (by have:=ge j ops[j] (by simp[ld]) e he hb;omega)⟩;rw[hr]at this;cases this
 intro fuel;induction fuel with
 |zero =>
  intro listed hs hc hf g a w fI hq;obtain⟨l,hl,aE⟩:=hf;have gg:l=[]:=by cases l<;>simp at aE |-
  have all:∀j,j<n->listed.getD j false=true:=fun j hj=>by
   cases h:listed.getD j false with
   |true=>rfl
   |false=>have:=hl j hj h;rw[gg]at this;cases this
  refine⟨?_,hq g a w (by rw[<-fin listed hs all];exact fI) (by rw[fin listed hs all];exact .refl _ _ _)⟩;cases hr:Region.ready .any ops listed with
  |nil=>rfl
  |cons i r =>
   have hi:i∈Region.ready .any ops listed:=by rw[hr];exact AS ..
   obtain⟨o,ho,h2,_⟩:=OZ.1 hi;have aQ:i<n:=by rw[<-hn];exact(Gt.1 ho).1
   rw[Pa hs aQ,all i aQ]at h2;cases h2
 |succ fuel ih =>
  intro listed hs hc hf g a w fI hq;refine⟨fun hr=>?_,fun i hi=>?_⟩
  ·have all:=allr listed hs hr;exact hq g a w (by rw[<-fin listed hs all];exact fI) (by rw[fin listed hs all];exact .refl _ _ _)
  ·obtain⟨o,ho,h2,h3⟩:=OZ.1 hi;have aQ:i<n:=by rw[<-hn];exact(Gt.1 ho).1
   rw[Pa hs aQ]at h2;obtain⟨ao,nR,bY⟩:=gJ i o ho
   have hp:∀p∈preds.getD i [],listed.getD p false=true:=fun p dv=>by
    obtain⟨e,he,hb,h4⟩:=jk i o ho p dv;rcases h4 with rfl|h4
    ·exact h3 e he hb
    ·exact hc e.on (h3 e he hb) p h4
   obtain⟨aL,jl⟩:=D.at (L:=fun j=>listed.getD j false) hc nR h2 hp
   have fH:∀j,(listed.setIfInBounds i true).getD j false=(listed.getD j false||j==i):=fun j=>by
    by_cases e:j=i
    ·subst e;simp[Array.getD,hs,aQ]
    ·have e':¬i=j:=fun h=>e h.symm;by_cases hj:j<listed.size<;>simp[Array.getD,hj,e,e',Array.getElem_setIfInBounds]
   have aM:=jl (fun j=>(listed.setIfInBounds i true).getD j false) fH;unfold wpOpIn;simp only[ho];refine qzum bY aL fI fun g' a' w' aH st=>?_;refine ih _ (by simp[hs]) (fun j hj p dv=>?_) ?_ g' a' w' (by rw[aM];exact aH) (fun g'' a'' w'' bb st''=>hq g'' a'' w'' bb (st.trans (by rw[aM]at st'';exact st'')))
   ·rw[fH]at hj |-;by_cases e:j=i
    ·subst e;rw[hp p dv];rfl
    ·have:listed.getD j false=true:=(by simpa [e] using hj);rw[hc j this p dv];rfl
   ·obtain⟨l,hl,aE⟩:=hf;have iz:=hl i aQ h2;refine⟨l.erase i,fun j hj h=>?_,?_⟩
    ·rw[fH]at h;have aI:j≠i:=fun e=>by subst e;simp at h
     exact(List.mem_erase_of_ne aI).2 (hl j hj (by simpa [aI] using h))
    ·rw[List.length_erase_of_mem iz];omega
end
def LE(ops:List Oper)(preds:List (List Nat)):Bool :=
 preds.length==ops.length&&(List.range ops.length).all fun i=>(preds.getD i []).all fun p=>decide (p<i)&&(match ops[i]? with
  |some o=>o.after.toList.any fun e=>Region.binds .any e&&(e.on==p||(preds.getD e.on []).contains p)
  | none=>false)
def HZ:Nat->List Oper->Bool
 |_,[]=>true
 |i,o :: r=>(o.after.toList.all fun e=>!Region.binds .any e||decide (e.on<i))&&HZ (i+1) r
def LF(m:List Ak)(preds:List (List Nat)):Bool :=
 (List.range m.length).all fun i=>(List.range m.length).all fun j=>i==j||(preds.getD i []).contains j||(preds.getD j []).contains i||(match m[i]?,m[j]? with
  |some x,some y=>(match x.dst with | none=>true | some d=>!(looks y).contains d&&y.dst != some d)
  | _,_=>true)
def hpOk(preds:List (List Nat))(tr:List (List Nat×Option Nat)):Bool :=
 (List.range tr.length).all fun i=>match (tr.getD i ([],none)).2 with
  |none=>true
  |some id=>(List.range tr.length).all fun j=>i==j||(preds.getD i []).contains j||(preds.getD j []).contains i||!(tr.getD j ([],none)).1.contains id
def sfOk(m:List Ak)(i j:Nat):Bool:=false
def Fy(m:List Ak)(preds:List (List Nat))(tr:List (List Nat×Option Nat)):Bool :=
 (List.range tr.length).all fun i=>match (tr.getD i ([],none)).2 with
  |none=>true
  |some id=>(List.range tr.length).all fun j=>i==j||(preds.getD i []).contains j||(preds.getD j []).contains i||!(tr.getD j ([],none)).1.contains id ||
    (decide (j<i)&&sfOk m i j&&(tr.getD j ([],none)).2==none&&(tr.getD j ([],none)).1.all (fun k=>k==id)&&(List.range tr.length).all fun l=>l==i||l==j||(tr.getD l ([],none)).2 != some id ||
     (((preds.getD j []).contains l||(preds.getD l []).contains j)&&!(decide (j<l)&&decide (l<i))))
theorem wzr3{tr:List (List Nat×Option Nat)}(h:hpOk preds tr=true):Fy m preds tr=true:=by
 unfold hpOk at h;unfold Fy;simp only[Da,Jr]at h |-;intro i hi;have:=h i hi;split
 ·rfl
 ·rename_i id hid;rw[hid]at this;simp only[Da,Jr]at this |-;intro j hj;have:=this j hj;rw[this];rfl
def Bi(E:Nat->Aa)(P:Program)(f:FuncId)(args:List Aa)(h:Aq)(K:Aa->List Nat->Prop):Prop:=∃v rd,Di E P f args h rd v/\K v rd
def Co(E:Nat->Aa)(P:Program)(c:Bool)(t:List Aa)(xs:List Ae)(f:FuncId)(args:List Aa)(h:Aq)(K:Aa->List Nat->Prop):Prop:=∃v rd,(c=true->BT c t xs/\Di E P f args h rd v)/\K (.cnd c v) rd
def dop(E:Nat->Aa)(P:Program)(o:Ak)(S:Au)(K:Aa->List Nat->Option (Nat×Ad)->Prop):Prop :=
 match o.guard with
 |none=>match o.op with
  |.callf f args=>Bi E P f (args.map (Ah E S.t)) S.h (fun v rd=>K v rd none)
  |.callv x args=>match Ah E S.t x with
   |.fn f nb caps=>CY P f=true/\Bi E P f (fnArgs nb (args.map (Ah E S.t)) caps) S.h (fun v rd=>K v rd none)
   |_=>False
  |op=>(op.req (Ah E S.t) S.h).ok/\K (op.req (Ah E S.t) S.h).v (op.req (Ah E S.t) S.h).rd (op.req (Ah E S.t) S.h).out
 |some (tg,want)=>match HC (S.t.getD tg .top) want with
  |none=>False
  |some c=>match o.op with
   |.callf f args=>Co E P c S.t args f (args.map (argU E S.t)) S.h (fun v rd=>K v rd none)
   | .callv y args=>(c=false->K (.cnd false .top) [] none)/\(c=true->match argU E S.t y with
    |.fn f nb caps=>CY P f=true/\Co E P c S.t (y :: args) f (fnArgs nb (args.map (argU E S.t)) caps) S.h (fun v rd=>K v rd none)
    | _=>False)
   |op=>op.quiet=true/\(c=true->op.unAll E c S.t/\(op.req (argU E S.t) S.h).ok)/\K (.cnd c (op.req (argU E S.t) S.h).v) (bif c then(op.req (argU E S.t) S.h).rd else []) none
def dreg(E:Nat->Aa)(P:Program):List Ak->Au->(Au->List (List Nat×Option Nat)->Prop)->Prop
 |[],S,K=>K S []
 |o :: r,S,K=>dop E P o S (fun v rd out=>dreg E P r ⟨putT S.t o.dst v,putH S.h out,S.ds⟩ (fun S' tr=>K S' ((rd,out.map (·.1)) :: tr)))
section
variable {ρ:Option Nat}
theorem U4{o:Ak}{K:Aa->List Nat->Option (Nat×Ad)->Prop}(h:dop E P o S K):∃v rd out,B6 E P o S v rd out/\K v rd out:=by
 suffices ∃v rd out,Bp E P o S v rd out/\K v rd out by obtain⟨v,rd,out,h1,h2⟩:=this;exact⟨v,rd,out,.inl h1,h2⟩
 unfold dop at h;simp only[Bi,Co]at h;unfold Bp;cases hg:o.guard with
 |none =>
  simp only[hg]at h |-;cases aT:o.op<;>simp only[aT]at h |-
  case callf f args=>obtain⟨v,rd,h1,h2⟩:=h;exact⟨v,rd,none,⟨h1,rfl⟩,h2⟩
  case callv x args =>
   cases hx:Ah E S.t x<;>simp only[hx]at h
   case fn f nb caps=>obtain⟨he,v,rd,h1,h2⟩:=h;exact⟨v,rd,none,⟨⟨f,nb,caps,rfl,he,h1⟩,rfl⟩,h2⟩
  all_goals exact⟨_,_,_,⟨h.1,.refl _,fun _ hj=>hj,.refl _,fun i ob e=>(HU _ h.1 e).2⟩,h.2⟩
 |some y =>
  obtain⟨tg,want⟩:=y;simp only[hg]at h |-;cases hc:HC (S.t.getD tg .top) want with
  |none=>simp only[hc]at h
  |some c =>
   simp only[hc]at h;cases aT:o.op<;>simp only[aT]at h |-
   case callf f args=>obtain⟨v,rd,h1,h2⟩:=h;exact⟨_,rd,none,⟨c,v,rfl,rfl,rfl,h1⟩,h2⟩
   case callv x args =>
    cases c with
    |false=>exact⟨_,[],none,⟨false,.top,rfl,rfl,rfl,fun e=>by cases e⟩,h.1 rfl⟩
    |true =>
     have h:=h.2 rfl;cases hx:argU E S.t x<;>simp only[hx]at h
     case fn f nb caps=>obtain⟨he,v,rd,h1,h2⟩:=h;exact⟨_,rd,none,⟨true,v,rfl,rfl,rfl,fun _=>⟨f,nb,caps,rfl,he,(h1 trivial).1,(h1 trivial).2⟩⟩,h2⟩
   all_goals exact⟨_,_,none,⟨c,_,rfl,rfl,rfl,h.1,fun e=>⟨(h.2.1 e).1,(h.2.1 e).2,.refl _,by subst e;exact fun _ hj=>hj⟩⟩,h.2.2⟩
theorem JN(o:Ak)(l:List Ak)(V:Nat->Aa)(O:Nat->Option (Nat×Ad))(S:Au):∀k,lx (o :: l) V O S (k+1)=lx l (fun k=>V (k+1)) (fun k=>O (k+1)) (JL S o.dst (V 0) (O 0)) k
 |0=>rfl
 |k+1=>by have ih:=JN o l V O S k;show JL (lx (o :: l) V O S (k+1)) (BU (o :: l) (k+1)) (V (k+1)) (O (k+1))=_;rw[ih];rfl
theorem U5:∀(l:List Ak) (S:Au) (K:Au->List (List Nat×Option Nat)->Prop),dreg E P l S K -> ∃(V:Nat->Aa) (R:Nat->List Nat) (O:Nat->Option (Nat×Ad)),(∀k o,l[k]?=some o->B6 E P o (lx l V O S k) (V k) (R k) (O k))/\K (lx l V O S l.length) ((List.range l.length).map fun k=>(R k,yzl O k))
 |[],S,K,h=>⟨fun _=>.top,fun _=>[],fun _=>none,fun k o h=>by simp at h,h⟩
 |o :: l,S,K,h=>by
  obtain⟨v,rd,out,h1,h2⟩:=U4 h;obtain⟨V,R,O,h3,h4⟩:=U5 l _ _ h2;refine⟨fun k=>match k with | 0=>v | k+1=>V k,fun k=>match k with | 0=>rd | k+1=>R k,fun k=>match k with | 0=>out | k+1=>O k,fun k ok hk=>?_,?_⟩
  ·cases k with
   |zero=>simp at hk;subst hk;exact h1
   |succ k =>rw[JN];exact h3 k ok (by simpa using hk)
  ·rw[Bk,JN,List.range_succ_eq_map,Ot,List.map_map];exact h4
theorem U6{ops:Array Oper}:∀{l:List Oper} {m:List Ak},HW P ops l m=true->m.length=l.length/\∀(k:Nat) (o:Oper),l[k]?=some o->∃ao,m[k]?=some ao/\G5 P ops o ao=true
 |[],[],_=>⟨rfl,fun k o h=>by simp at h⟩
 |o :: l,a :: m,h=>by
  simp only[HW,AI]at h;obtain⟨h1,h2⟩:=U6 h.2;refine⟨by simp[h1],fun k o' hk=>?_⟩;cases k with
  |zero=>simp at hk;subst hk;exact⟨a,rfl,h.1⟩
  |succ k=>exact h2 k o' (by simpa using hk)
 |[],_ :: _,h=>by cases h
 |_ :: _,[],h=>by cases h
theorem U7:∀{l:List Oper} {n:Nat},HZ n l=true->∀(i:Nat) (o:Oper),l[i]?=some o->∀e∈o.after.toList,Region.binds .any e=true->e.on<n+i
 |[],_,_,i,o,h,_,_,_=>by simp at h
 |x :: l,n,h,i,o,ho,e,he,hb=>by
  simp only[HZ,AI,Da,Lq,H5,CA]at h;cases i with
  |zero =>
   simp at ho;subst ho;rcases h.1 e he with h1|h1
   ·rw[hb]at h1;cases h1
   ·exact h1
  |succ i =>have:=U7 h.2 i o (by simpa using ho) e he hb;omega
theorem qz7k{j:Nat}(eS:∀k o,m[k]?=some o->B6 E P o (lx m V O S k) (V k) (R k) (O k))(hs:sfOk m i j=true)(nQ:j<i)(eL:O j=none)(hi:yzl O i=some id) (hrd:∀k∈R j,k=id) (nS:∀l,j<l->l<i->yzl O l≠some id) : ∀o,m[j]?=some o->∀S':Au,(∀x∈looks o,S'.t.getD x .top=(lx m V O S j).t.getD x .top)->S'.h id=G6 O i->B6 E P o S' (V j) (R j) (O j):=by unfold sfOk at hs;cases hs
theorem qz81(eS:∀k o,m[k]?=some o->B6 E P o (lx m V O S k) (V k) (R k) (O k))(kh:Fy m preds ((List.range m.length).map fun k=>(R k,yzl O k))=true):∀i j id,i<m.length->j<m.length->i≠j->j∉preds.getD i []->i∉preds.getD j []->yzl O i=some id->id∉R j\/OX E P m preds S m.length V R O i j id:=by
 simp only[Fy,Da,Jr,J5,Ta]at kh;intro i j id hi hj aI h1 h2 hid;have at':∀l,l<m.length->((List.range m.length).map fun k=>(R k,yzl O k)).getD l ([],none)=(R l,yzl O l):=fun l hl=>by simp[List.getD,hl]
 have:=kh i hi;rw[at' i hi]at this;simp only[hid,Da,Jr]at this;have:=this j hj;rw[at' j hj]at this;have cC:(preds.getD i []).contains j=false:=by simpa using h1
 have jg:(preds.getD j []).contains i=false:=by simpa using h2
 have lg:(i==j)=false:=by simpa using aI
 simp only[cC,jg,lg,Bool.false_or,Lq,AI,CA,Bu,Da,Jr,H5,Bool.not_eq_true]at this;rcases this with h|⟨⟨⟨⟨k1,k2⟩,k3⟩,k4⟩,k5⟩
 ·exact .inl (by simpa using h)
 ·refine .inr ?_;have eL:O j=none:=by cases hO:O j with | none=>rfl | some y=>simp[yzl,hO]at k3
  have ord:∀l,l<m.length->l≠i->l≠j->yzl O l=some id->(l∈preds.getD j []\/j∈preds.getD l [])/\¬(j<l/\l<i):=fun l hl a b c=>by
   have:=k5 l hl;rw[at' l hl]at this;simp only[c]at this;rcases this with ((h|h)|h)|h
   ·exact absurd h a
   ·exact absurd h b
   ·simp at h
   ·refine⟨?_,fun⟨q1,q2⟩=>?_⟩;·simpa [List.contains_iff_mem] using h.1
    ·have:=h.2;simp[q1,q2]at this
  refine⟨k1,eL,fun k hk=>k4 k hk,fun l hl a b c=>(ord l hl a b c).1,?_⟩;exact qz7k eS k2 k1 eL hid (fun k hk=>k4 k hk) fun l a b c=>(ord l (by omega) (by omega) (by omega) c).2 ⟨a,b⟩
theorem AWp.drawnT(hc:HW P ops ops.toList m=true)(hp:LE ops.toList preds=true)(he:HZ 0 ops.toList=true)(eU:LF m preds=true) (hm:P.follows .mixedOrders=true) (h:∃(V:Nat->Aa) (R:Nat->List Nat) (O:Nat->Option (Nat×Ad)),(∀k o,m[k]?=some o->B6 E P o (lx m V O S k) (V k) (R k) (O k))/\Fy m preds ((List.range m.length).map fun k=>(R k,yzl O k))=true/\Q .normal (lx m V O S m.length)):AWp E ρ P (.region id ops true) Q S:=by
 obtain⟨aE,gJ⟩:=U6 hc;obtain⟨V,R,O,eS,kh,hQ⟩:=h;have ee:m.length=ops.size:=by rw[aE];simp
 simp only[LE,AI,Bu,Da,Jr,CA]at hp;obtain⟨cj,hp⟩:=hp
 have my:∀i p,p∈preds.getD i []->i<ops.toList.length:=fun i p h=>by
  rcases CF i ops.toList.length with h1|h1
  ·exact h1
  ·simp[List.getD,Ls (show preds.length<=i by omega)]at h
 simp only[LF,Da,Jr]at eU
 have D:LD E P m preds S m.length V R O:=by
  refine⟨rfl,eS,fun i j hj=>(hp i (my i j hj) j hj).1,?_,?_⟩
  ·intro i j oi oj d hi hj aI h1 h2 hd;have:=eU i (A8.1 hi).1 j (A8.1 hj).1;rw[hi,hj]at this;have cC:j∉preds[i]?.getD []:=by simpa using h1
   have jg:i∉preds[j]?.getD []:=by simpa using h2
   simpa [aI,cC,jg,hd] using this
  ·exact qz81 eS kh
 intro g a w hs;have hw:=hs.hr.heap (w':={ w with drawn:=w.drawn+1 }) rfl rfl rfl rfl;have aH:SR E g S a { w with drawn:=w.drawn+1 }:=⟨hw.1,hs.tm.mono hw.2.le,hs.df,hs.dk,hs.dn⟩;have stp0:Stp g S.h w g S.h { w with drawn:=w.drawn+1 }:=hw.2;refine wpIn_region_any hm ?_
 have e0:stL m V O S m.length (fun j=>(Array.replicate ops.size false).getD j false)=S:=by
  have:(fun j=>(Array.replicate ops.size false).getD j false)=(fun j=>decide (j<0)):=by funext j;by_cases hj:j<ops.size<;>simp[Array.getD,hj]
  rw[this,JM 0 (BA _)];rfl
 refine wzhy (ρ:=ρ) (Q:=fun e a' w'=>∃g' S',Q e S'/\SR E g' S' a' w'/\Stp g S.h w g' S'.h w') D ee.symm (fun k o hk=>gJ k o (by simpa using hk)) (fun i o hi e nT hb=>by have:=U7 he i o (by simpa using hi) e nT hb;omega) (fun i o hi p dv=>?_)
  ops.size (Array.replicate ops.size false) (by simp[ee]) (fun j hj=>?_) ⟨List.range m.length,fun j hj _=>by simpa using hj,by simp[ee]⟩ g a _ (by rw[e0];exact aH) (fun g' a' w' cM st=>⟨g',_,hQ,cM,stp0.trans (by rw[e0]at st;exact st)⟩)
 ·have h1:=(hp i (my i p dv) p dv).2;have aW:ops.toList[i]?=some o:=by simpa using hi
  rw[aW]at h1;simp only[List.any_eq_true,AI,Lq,Bu,List.contains_iff_mem]at h1;obtain⟨e,h2,h3,h4⟩:=h1;exact⟨e,h2,h3,h4⟩
 ·by_cases h1:j<ops.size<;>simp[Array.getD,h1]at hj
theorem AWp.drawn(hc:HW P ops ops.toList m=true)(hp:LE ops.toList preds=true)(he:HZ 0 ops.toList=true)(eU:LF m preds=true) (hm:P.follows .mixedOrders=true) (h:dreg E P m S (fun S' tr=>hpOk preds tr=true/\Q .normal S')):AWp E ρ P (.region id ops true) Q S:=by obtain⟨V,R,O,h1,h2,h3⟩:=U5 m S _ h;exact .drawnT hc hp he eU hm ⟨V,R,O,h1,wzr3 h2,h3⟩
def G7(E:Nat->Aa)(P:Program):List Ak->Au->(Au->List (List Nat×Option Nat)->Prop)->Prop
 |[],S,K=>K S []
 |o :: r,S,K=>∃v rd out,B6 E P o S v rd out/\G7 E P r ⟨putT S.t o.dst v,putH S.h out,S.ds⟩ (fun S' tr=>K S' ((rd,out.map (·.1)) :: tr))
theorem U8:∀(l:List Ak) (S:Au) (K:Au->List (List Nat×Option Nat)->Prop),G7 E P l S K -> ∃(V:Nat->Aa) (R:Nat->List Nat) (O:Nat->Option (Nat×Ad)),(∀k o,l[k]?=some o->B6 E P o (lx l V O S k) (V k) (R k) (O k))/\K (lx l V O S l.length) ((List.range l.length).map fun k=>(R k,yzl O k))
 |[],S,K,h=>⟨fun _=>.top,fun _=>[],fun _=>none,fun k o h=>by simp at h,h⟩
 |o :: l,S,K,h=>by
  obtain⟨v,rd,out,h1,h2⟩:=h;obtain⟨V,R,O,h3,h4⟩:=U8 l _ _ h2;refine⟨fun k=>match k with | 0=>v | k+1=>V k,fun k=>match k with | 0=>rd | k+1=>R k,fun k=>match k with | 0=>out | k+1=>O k,fun k ok hk=>?_,?_⟩
  ·cases k with
   |zero=>simp at hk;subst hk;exact h1
   |succ k =>rw[JN];exact h3 k ok (by simpa using hk)
  ·rw[Bk,JN,List.range_succ_eq_map,Ot,List.map_map];exact h4
end
end Go.Am

