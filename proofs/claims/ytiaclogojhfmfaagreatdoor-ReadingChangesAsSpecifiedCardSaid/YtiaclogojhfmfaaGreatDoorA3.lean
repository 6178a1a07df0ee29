/- Part A3: an abstract machine proved sound over the calculus of the guide. No condition. -/
import Derived.Test.YtiaclogojhfmfaaGreatDoorA2
set_option linter.unusedSimpArgs false
set_option linter.unusedVariables false
namespace Go.Am
def Al.quiet:Al->Bool
 |.mkmap _ | .mupd _ _ _ _ | .mrange _ _ | .mnext _ | .alloc _ _ | .box _ _ | .bslice _ _ _ _ _ | .store _ _ _ | .append _ _ _ _ _ | .s2b _ _ | .mks _ _ _ _ _ | .copy _ _ _ | .clear _ _ | .callf _ _ | .callv _ _=>false
 |_=>true
theorem qzzu(o:Al)(hq:o.quiet=true)(ar:Ad->Aa)(h:Aw):∀i ob,(o.req ar h).out=some (i,ob)->ob=h i:=by
 by_cases hf:∃s st nn zero ps,o=.fslice s st nn zero ps
 ·obtain⟨s,st,nn,zero,ps,rfl⟩:=hf;intro i ob ho;simp only[Al.req]at ho;cases hp:CR ar zero ps<;>simp only[hp,Req.fail]at ho
  ·cases ho
  ·simp only[Bc,DF]at ho;obtain⟨rfl,rfl⟩:=ho;rfl
 have:(o.req ar h).out=none:=by cases o<;>simp only[Al.quiet]at hq<;>(try (cases hq;done))<;>(try exact absurd ⟨_,_,_,_,_,rfl⟩ hf)<;>simp only[Al.req,Req.val,Req.when,Req.fail,Dq,JB,CH,JK,Cj,CP,Fv,HJ,E8]<;>(repeat' split)<;>rfl
 intro i ob ho;rw[this]at ho;cases ho
def Al.isCall:Al->Bool
 |.callf _ _ | .callv _ _ | .mnext _=>true
 |_=>false
def CD(P:Program)(f:FuncId):Bool:=match P.funcs[f]? with
 | some fn => fn.body.isSome && fn.name != "runtime.NumGoroutine"
 |none=>false
def LL(E:Nat->Aa)(P:Program)(c:Bool)(t:List Aa)(h:Aw)(ds:List (Nat×Nat))(xs:List Ad)(f:FuncId)(args:List Aa)(K:Aa->Aw->Prop):Prop := (∃v,(c=true->Ca c t xs/\ATr E P f args h (fun v' h'=>v'=v/\h'=h))/\K (.cnd c v) h) \/ ((c=true->Ca c t xs/\ATr E P f args h (fun v h'=>(∀D∈ds,h' D.1=.dfr D.2)/\K (.cnd true v) h'))/\(c=false->K (.cnd false .top) h))
def gyld(E:Nat->Aa)(P:Program)(c:Bool)(t:List Aa)(h:Aw)(ds:List (Nat×Nat))(xs:List Ad)(id ep:Nat)(args:List Aa)(K:Aa->Aw->Prop):Prop := (c=true->Ca c t xs/\BN E P id ep args h (fun v h'=>(∀D∈ds,h' D.1=.dfr D.2)/\K (.cnd true v) h'))/\(c=false->K (.cnd false (.bool false)) h)
def GV(x:Aa)(h:Aw)(K:Aa->Aw->Prop):Prop :=
 match x with
 |.ptr id ep 0=>match h id with
  |.miter ep' (some (M,eM,n)) seen=>match h M with
   |.amap eM' es=>ep=ep'/\eM=eM'/\es.length=n /\
    (∀k,k<n->k∉seen->K (.tup [.bool true,(es.getD k (.top,.top)).1,(es.getD k (.top,.top)).2]) (hset h id (.miter ep' (some (M,eM,n)) (seen++[k])))) /\
    ((∀k,k<n->k∈seen)->K (.tup [.bool false]) h)
   |_=>False
  |.miter ep' none _=>ep=ep'/\K (.tup [.bool false]) h
  |_=>False
 |_=>False
def fnArgs{α:Type}(nb:Nat)(as caps:List α):List α:=caps.take nb++as++caps.drop nb
def aop(E:Nat->Aa)(P:Program)(o:Ay)(S:Av)(K:Av->Prop):Prop :=
 match o.guard with
 |none=>match o.op with
  |.callf f args=>ATr E P f (args.map (Ag E S.t)) S.h (fun v h'=>(∀D∈S.ds,h' D.1=.dfr D.2)/\K ⟨putT S.t o.dst v,h',S.ds⟩)
  |.callv x args=>match Ag E S.t x with
   |.fn f nb caps=>CD P f=true/\ATr E P f (fnArgs nb (args.map (Ag E S.t)) caps) S.h (fun v h'=>(∀D∈S.ds,h' D.1=.dfr D.2)/\K ⟨putT S.t o.dst v,h',S.ds⟩)
   |.yld id ep=>BN E P id ep (args.map (Ag E S.t)) S.h (fun v h'=>(∀D∈S.ds,h' D.1=.dfr D.2)/\K ⟨putT S.t o.dst v,h',S.ds⟩)
   |_=>False
  |.mnext x=>GV (Ag E S.t x) S.h (fun v h'=>K ⟨putT S.t o.dst v,h',S.ds⟩)
  |op=>(op.req (Ag E S.t) S.h).ok/\K ⟨putT S.t o.dst (op.req (Ag E S.t) S.h).v,putH S.h (op.req (Ag E S.t) S.h).out,S.ds⟩
 |some (tg,want)=>match Co (S.t.getD tg .top) want with
  |none=>False
  |some c=>match o.op with
   |.callf f args=>LL E P c S.t S.h S.ds args f (args.map (argU E S.t)) (fun v h'=>K ⟨putT S.t o.dst v,h',S.ds⟩)
   | .callv x args=>(c=false->K ⟨putT S.t o.dst (.cnd false .top),S.h,S.ds⟩)/\(c=true->match argU E S.t x with
    |.fn f nb caps=>CD P f=true/\LL E P c S.t S.h S.ds (x :: args) f (fnArgs nb (args.map (argU E S.t)) caps) (fun v h'=>K ⟨putT S.t o.dst v,h',S.ds⟩)
    |.yld id ep=>gyld E P c S.t S.h S.ds (x :: args) id ep (args.map (argU E S.t)) (fun v h'=>K ⟨putT S.t o.dst v,h',S.ds⟩)
    | _=>False)
   |.mnext _=>False
   |op=>op.quiet=true/\(c=true->op.unAll E c S.t/\(op.req (argU E S.t) S.h).ok)/\K ⟨putT S.t o.dst (.cnd c (op.req (argU E S.t) S.h).v),S.h,S.ds⟩
def areg(E:Nat->Aa)(P:Program):List Ay->Av->(Av->Prop)->Prop
 |[],S,K=>K S
 |o :: r,S,K=>aop E P o S (fun S'=>areg E P r S' K)
def Gb(P:Program)(o:Op)(a:Al):Bool :=
 match o,a with
 |.call { callee:=.value (.func f),args,.. },.callf f' args'=>f==f'&&CD P f&&yzw args.toList args'
 |.call { callee:=.value x,args,.. },.callv x' args'=>AB x x'&&yzw args.toList args'
 |.next x false,.mnext x'=>AB x x'
 |o,a=>Fm P o a
def F0(P:Program)(ops:Array Oper)(o:Oper)(a:Ay):Bool :=
 o.dst==a.dst&&(match o.guard,a.guard with
  |none,none=>true
  |some (j,want),some (tg,want')=>want==want'&&((ops[j]?).bind (·.dst))==some tg
  | _,_=>false)&&Gb P o.op a.op
theorem Uz{P:Program}{ops:Array Oper}{o:Oper}{a:Ay}(h:F0 P ops o a=true):Ay.Ok P ops o a/\Gb P o.op a.op=true:=by
 simp only[F0,AE,Bt]at h;obtain⟨⟨h1,h2⟩,h3⟩:=h;refine⟨⟨h1,?_⟩,h3⟩;cases hg:o.guard with
 |none =>
  cases kh:a.guard with
  |none=>rfl
  |some x=>simp[hg,kh]at h2
 |some x =>
  obtain⟨j,want⟩:=x;cases kh:a.guard with
  |none=>simp[hg,kh]at h2
  |some y =>obtain⟨tg,want'⟩:=y;simp only[hg,kh,AE,Bt]at h2;obtain⟨rfl,h4⟩:=h2;exact⟨j,rfl,h4⟩
theorem U0{P:Program}{op:Op}{f:FuncId}{args:List Ad}(h:Gb P op (.callf f args)=true) : ∃as ats,op=.call { callee:=.value (.func f),args:=as,argTypes:=ats }/\CD P f=true/\yzw as.toList args=true:=by
 cases op<;>simp only[Gb,Fm]at h<;>(try (cases h;done));rename_i c;obtain⟨callee,as,ats⟩:=c;cases callee with
 |value x =>cases x<;>simp only[Gb,Fm]at h<;>(try (cases h;done));simp only[AE,Bt]at h;obtain⟨⟨rfl,he⟩,ha⟩:=h;exact⟨as,ats,rfl,he,ha⟩
 |invoke r m=>simp only[Gb,Fm]at h;cases h
 |builtin b=>cases b<;>simp only[Gb,Fm]at h<;>cases h
theorem U2{P:Program}{op:Op}{x':Ad}{args:List Ad}(h:Gb P op (.callv x' args)=true) : ∃x as ats,op=.call { callee:=.value x,args:=as,argTypes:=ats }/\AB x x'=true/\yzw as.toList args=true:=by
 cases op<;>simp only[Gb,Fm]at h<;>(try (cases h;done));rename_i c;obtain⟨callee,as,ats⟩:=c;cases callee with
 |value x =>cases x<;>simp only[Gb,Fm,AE]at h<;>exact⟨_,as,ats,rfl,h.1,h.2⟩
 |invoke r m=>simp only[Gb,Fm]at h;cases h
 |builtin b=>cases b<;>simp only[Gb,Fm]at h<;>cases h
theorem qzux{P:Program}{op:Op}{x':Ad}(h:Gb P op (.mnext x')=true):∃x,op=.next x false/\AB x x'=true:=by
 cases op<;>simp only[Gb,Fm]at h<;>(try (cases h;done))
 case next x b =>
  cases b<;>simp only[Gb,Fm]at h
  ·exact⟨x,rfl,h⟩
  ·cases h
theorem OY{P:Program}{op:Op}{a:Al}(h:Gb P op a=true)(du:a.isCall=false):Fm P op a=true:=by
 unfold Gb at h;split at h
 ·cases du
 ·cases du
 ·cases du
 ·exact h
section
variable {E:Nat->Aa}{P:Program}{ρ:Option Nat}
theorem OZ{f:FuncId}(h:CD P f=true)(args:Array Value)(w:World):(callFunc f args).run P w=.ok (.enter f args) w:=by
 unfold CD at h
 cases hf:P.funcs[f]? with
 |none=>simp[hf]at h
 |some fn =>
  simp only[hf,AE,bne_iff_ne,ne_eq]at h
  obtain⟨h1,h2⟩:=h
  have fT : (fn.name == "runtime.NumGoroutine") = false := by simpa using h2
  have h3:fn.body.isNone=false:=by cases hb:fn.body<;>simp[hb]at h1 |-
  simp only[callFunc,Sem.run_bind,run_program,Result.andThen_ok,hf,fT,h3,J6,Dk,Sem.run_pure]
theorem LM{o:Oper}{g:Gh}{a:Act}{w:World}{S:Av}{f:FuncId}{args:List Aa}{vs:List Value}(hs:SR E g S a w)(hd:∀c,o.op≠.defer c)(aG:(execOp a.eval o).run P w=.ok (.enter f vs.toArray) w) (hv:RVs g w args vs) {K:Av->Prop} {y:Aa->Aa} (hy:∀g' w' r v,RV g' w' r v->RV g' w' (y r) v)(h:ATr E P f args S.h (fun v h'=>(∀D∈S.ds,h' D.1=.dfr D.2)/\K ⟨putT S.t o.dst (y v),h',S.ds⟩)) {Q:Exit->Act->World->Prop} :
  o.wpIn (FW ρ) 0 P a w (fun a' w'=>∃g' S',K S'/\SR E g' S' a' w'/\Stp g S.h w g' S'.h w') Q:=by
 refine⟨fun f _=>trivial,?_⟩;rw[Oper.semAt_eq _ _ _ hd,aG];refine⟨fun fm=>absurd fm (O8 ρ),?_⟩;rw[O9];refine(h g w vs hs.hr hv).mono ?_;rintro e w' ⟨g',h',r,v,⟨dj,hK⟩,rfl,bN,H',st⟩;refine⟨g',_,hK,⟨H',JX (hs.tm.mono st.le) o.dst (hy _ _ _ _ bN),?_,dj,hs.dn⟩,st⟩;rw[JY,hs.df];refine H7 fun D hD=>?_;have h1:=hs.hr.ep D.1;have h2:=H'.ep D.1;rw[hs.dk D hD]at h1;rw[dj D hD]at h2;rw[(st.le.same D.1 (h2.trans h1.symm)).1]
theorem U3{o:Oper}{g:Gh}{a:Act}{w:World}{S:Av}{id ep:Nat}{args:List Aa}{vs:List Value}(hs:SR E g S a w)(hd:∀c,o.op≠.defer c)(aG:(execOp a.eval o).run P w=(Instr.yield (g.blk id) vs.toArray).run P w) (hv:RVs g w args vs) {K:Av->Prop} {y:Aa->Aa} (hy:∀g' w' r v,RV g' w' r v->RV g' w' (y r) v)(h:BN E P id ep args S.h (fun v h'=>(∀D∈S.ds,h' D.1=.dfr D.2)/\K ⟨putT S.t o.dst (y v),h',S.ds⟩)) {Q:Exit->Act->World->Prop} :
  o.wpIn (FW ρ) 0 P a w (fun a' w'=>∃g' S',K S'/\SR E g' S' a' w'/\Stp g S.h w g' S'.h w') Q:=by
 obtain⟨f,tmps,asg,body,ja,hr⟩:=qzu7 (ρ:=ρ) h hs.hr hv;refine⟨fun f _=>trivial,?_⟩;rw[Oper.semAt_eq _ _ _ hd,aG,ja];refine⟨fun fm=>absurd fm (O8 ρ),?_⟩;refine RoundIn.mono hr ?_;rintro e w' ⟨g',h',r,v,⟨dj,hK⟩,rfl,bN,H',st⟩;refine⟨g',_,hK,⟨H',JX (hs.tm.mono st.le) o.dst (hy _ _ _ _ bN),?_,dj,hs.dn⟩,st⟩;rw[JY,hs.df];refine H7 fun D hD=>?_;have h1:=hs.hr.ep D.1;have h2:=H'.ep D.1;rw[hs.dk D hD]at h1;rw[dj D hD]at h2;rw[(st.le.same D.1 (h2.trans h1.symm)).1]
theorem U4{o:Oper}{l:Nat}{x:Operand}{args:Array Operand}{ats:Array TypeId}(ho:o.op=.call { callee:=.value x,args,argTypes:=ats })(a:Act)(w:World)(hx:a.eval x=.func (.yield l) #[] #[]) : (execOp a.eval o).run P w=(Instr.yield l (args.toList.map a.eval).toArray).run P w:=by
 have e:(args.map a.eval)=(args.toList.map a.eval).toArray:=by apply Array.ext';simp
 simp only[execOp,ho,Sem.run_bind,resolve,hx,Deferred.ofValue,Sem.run_pure,Result.andThen_ok,invoke,Array.empty_append,e]
theorem U5{g:Gh}{h:Aw}{w:World}{id ep:Nat}{v:Value}(H:HR E g h w)(hid:(h id).ep=ep)(hv:RV g w (.yld id ep) v):v=.func (.yield (g.blk id)) #[] #[]:=by
 cases hv with
 |yld _ _ _ h1 he hp=>exact hp (by rw[H.ep,hid])
theorem BN.ep{id ep:Nat}{args:List Aa}{h:Aw}{K:Aa->Aw->Prop}(R:BN E P id ep args h K):(h id).ep=ep:=by obtain⟨ts,ps,asg,body,D,eD,hid,_⟩:=R;rw[hid];rfl
theorem U6{o:Oper}{f:FuncId}{args:Array Operand}{ats:Array TypeId}(ho:o.op=.call { callee:=.value (.func f),args,argTypes:=ats })(he:CD P f=true)(a:Act)(w:World) : (execOp a.eval o).run P w=.ok (.enter f (args.toList.map a.eval).toArray) w:=by
 have e:(args.map a.eval)=(args.toList.map a.eval).toArray:=by apply Array.ext';simp
 simp only[execOp,ho,Sem.run_bind,resolve,Act.eval,Deferred.ofValue,Sem.run_pure,Result.andThen_ok,invoke,Array.empty_append,Array.append_empty,e,OZ he]
theorem U7{o:Oper}{f:FuncId}{x:Operand}{nb:Nat}{caps:Array Value}{args:Array Operand}{ats:Array TypeId}(ho:o.op=.call { callee:=.value x,args,argTypes:=ats })(he:CD P f=true)(a:Act)(w:World)(hx:a.eval x=.func (.func f) (caps.toList.take nb).toArray (caps.toList.drop nb).toArray) : (execOp a.eval o).run P w=.ok (.enter f (fnArgs nb (args.toList.map a.eval) caps.toList).toArray) w:=by
 have e:(caps.toList.take nb).toArray++(args.map a.eval)++(caps.toList.drop nb).toArray=(fnArgs nb (args.toList.map a.eval) caps.toList).toArray:=by apply Array.ext';simp[fnArgs]
 simp only[execOp,ho,Sem.run_bind,resolve,hx,Deferred.ofValue,Sem.run_pure,Result.andThen_ok,invoke,e,OZ he]
theorem Pa{g:Gh}{w:World}{f:FuncId}{nb:Nat}{caps:List Aa}{v:Value}(h:RV g w (.fn f nb caps) v):∃arr:Array Value,v=.func (.func f) (arr.toList.take nb).toArray (arr.toList.drop nb).toArray/\RVs g w caps arr.toList:=by
 cases h with
 |fn _ _ _ arr hn hr=>exact⟨arr,rfl,by simpa using hn,fun i x v hx hv=>hr i x v hx (by simpa using hv)⟩
theorem wze2{g:Gh}{w:World}{f:FuncId}{caps:List Aa}{v:Value}(h:RV g w (.fn f 0 caps) v):∃arr,v=.func (.func f) #[] arr/\RVs g w caps arr.toList:=by obtain⟨arr,h1,h2⟩:=Pa h;exact⟨arr,by rw[h1];simp,h2⟩
theorem RVs.fnArgs{g:Gh}{w:World}{nb:Nat}{as caps:List Aa}{l a:List Value}(h:RVs g w as l)(k:RVs g w caps a):RVs g w (fnArgs nb as caps) (fnArgs nb l a) := ((k.take nb).append h).append (k.drop nb)
theorem LN{g:Gh}{a:Act}{w:World}{S:Av}(hs:SR E g S a w){c:Bool}(hc:c=true):∀{l:List Operand} {m:List Ad},yzw l m=true->Ca c S.t m->RVs g w (m.map (argU E S.t)) (l.map a.eval)
 |[],[],_,_=>.nil g w
 |x :: l,y :: m,h,hu=>by
  simp only[yzw,AE]at h
  have h1:RV g w (argU E S.t y) (a.eval x):=by
   have:=AP hs.hr hs.tm h.1;cases y with
   |t n=>exact DI this hu.1 hc
   |c v=>exact this
   |g i=>exact this
  have h2:Ca c S.t m:=by
   cases y with
   |t n=>exact hu.2
   |c v=>exact hu
   |g i=>exact hu
  exact .cons h1 (LN hs hc h.2 h2)
 |[],_ :: _,h,_=>by cases h
 |_ :: _,[],h,_=>by cases h
theorem LO{ops:Array Oper}{o:Oper}{ao:Ay}{S:Av}{K:Av->Prop}(eX:F0 P ops o ao=true)(h:aop E P ao S K){g:Gh}{a:Act}{w:World}(hs:SR E g S a w){Q:Exit->Act->World->Prop} :
    if Region.wanted o (yielded ops a.tmps) then o.wpIn (FW ρ) 0 P a w (fun a' w'=>∃g' S',K S'/\SR E g' S' a' w'/\Stp g S.h w g' S'.h w') Q
    else(∀f,o.about P w a.eval=some f->(FW ρ).fn f)/\(∃g' S',K S'/\SR E g' S' (a.put o.dst undef) w/\Stp g S.h w g' S'.h w):=by
  obtain⟨hk,ew⟩:=Uz eX;have cq:=hk.dst;unfold aop at h;cases hg:ao.guard with
  |none =>
    simp only[hg]at h;have fR:o.guard=none:=by have:=hk.grd;rw[hg]at this;exact this
    rw[An (OX (ops:=ops) fR _)];cases du:ao.op.isCall with
    |false =>
      have hc:=OY ew du;have h':(ao.op.req (Ag E S.t) S.h).ok/\K ⟨putT S.t ao.dst (ao.op.req (Ag E S.t) S.h).v,putH S.h (ao.op.req (Ag E S.t) S.h).out,S.ds⟩:=by cases aL:ao.op<;>simp only[aL]at h du |-<;>first|exact h|(cases du;done)
      have:=qztz (E:=E) (ρ:=ρ) (P:=P) (ops:=ops) hc hk hg h'.1 g a w S hs (fun _ _=>rfl) (fun _ _=>rfl) (fun a' w'=>∃g' S',K S'/\SR E g' S' a' w'/\Stp g S.h w g' S'.h w') Q (fun g' a' w' h1 h2=>⟨g',_,by rw[cq];exact h'.2,h1,h2⟩)
      rwa [An (OX (ops:=ops) fR _)]at this
    |true =>
      cases aL:ao.op<;>simp only[aL,Al.isCall]at du<;>(try (cases du;done))
      case callf f args =>simp only[aL]at h ew;obtain⟨as,ats,ho,he,ha⟩:=U0 ew;rw[<-cq]at h;exact LM hs (fun c hc=>by rw[ho]at hc;cases hc) (U6 ho he a w) (JT hs.hr (fun x y cU=>AP hs.hr hs.tm cU) ha) (y:=id) (fun _ _ _ _ h=>h) h
      case callv x args =>
        simp only[aL]at h ew;obtain⟨x0,as,ats,ho,hx,ha⟩:=U2 ew;rw[<-cq]at h;have rx:=AP hs.hr hs.tm hx;split at h
        · rename_i f nb caps jp
          rw[jp]at rx;obtain⟨arr,hv,fo⟩:=Pa rx;exact LM hs (fun c hc=>by rw[ho]at hc;cases hc) (U7 ho h.1 a w hv) (RVs.fnArgs (JT hs.hr (fun x y cU=>AP hs.hr hs.tm cU) ha) fo) (y:=id) (fun _ _ _ _ h=>h) h.2
        · rename_i id ep hy
          rw[hy]at rx;exact U3 hs (fun c hc=>by rw[ho]at hc;cases hc) (U4 ho a w (U5 hs.hr h.ep rx)) (JT hs.hr (fun x y cU=>AP hs.hr hs.tm cU) ha) (y:=_root_.id) (fun _ _ _ _ h=>h) h
        · exact h.elim
      case mnext x =>
        simp only[aL]at h ew;obtain⟨x0,ho,hx⟩:=qzux ew;rw[<-cq]at h;have cJ:∀c,o.op≠.defer c:=fun c hc=>by rw[ho]at hc;cases hc
        have over:∀{v:Value},v=.tuple #[.bool false]->(execOp a.eval o).run P w=.ok (.value v) w->K ⟨putT S.t o.dst (.tup [.bool false]),S.h,S.ds⟩->o.wpIn (FW ρ) 0 P a w (fun a' w'=>∃g' S',K S'/\SR E g' S' a' w'/\Stp g S.h w g' S'.h w') Q:=by
          rintro v rfl aG hK;refine LK (r:=⟨True,[],.tup [.bool false],none⟩) hs cJ (Ran.same hs.hr aG (.tup _ _ rfl fun i y u hy hu=>?_)) (fun i ob e=>by cases e) (fun _ _ _ h=>h) (fun g' a' w' h1 h2=>⟨g',_,hK,h1,h2⟩)
          match i with
          |0=>simp at hy hu;subst hy;subst hu;exact .bool _
          |i+1=>simp at hy
        unfold GV at h;split at h
        · rename_i id ep hX
          split at h
          · rename_i ep' M eM n seen hid
            split at h
            · rename_i eM' es hM
              obtain⟨rfl,rfl,hn,h1,h2⟩:=h;rcases qzye (P:=P) hs.hr hs.tm ho hx hX hid hM hn with ⟨h3,h4⟩|⟨k,hk,iH,hr⟩
              · exact over rfl h4 (h2 h3)
              · exact LK hs cJ hr (fun i ob e=>by simp only[Bc,DF]at e;obtain⟨rfl,_⟩:=e;rw[hid];trivial) (fun _ _ _ h=>h) (fun g' a' w' q1 q2=>⟨g',_,h1 k hk iH,q1,q2⟩)
            · exact h.elim
          · rename_i ep' seen hid
            obtain⟨rfl,h1⟩:=h;have hO:=hs.hr.obj id;rw[hid]at hO;have rx:=AP hs.hr hs.tm hx;rw[hX]at rx
            have hp:a.eval x0=.pointer (some ⟨g.blk id,0,none⟩):=by
              generalize a.eval x0=v at rx;cases rx with
              |ptr _ _ _ _ _ _ hp=>exact hp (by rw[hs.hr.ep id,hid];rfl)
            have hb:w.heap[g.blk id]?=some (.mapIter none 0 #[] 0):=hO;exact over rfl (by simp[execOp,ho,hp,Instr.next,getObj,Sem.run,hb,Result.andThen]) h1
          · exact h.elim
        · exact h.elim
  |some gd =>
    obtain⟨tg,want⟩:=gd;simp only[hg]at h;cases bq:Co (S.t.getD tg .top) want with
    |none=>simp only[bq]at h
    |some c =>
      simp only[bq]at h
      have cM:Region.wanted o (yielded ops a.tmps)=c:=by
        have fR:=hk.grd;rw[hg]at fR;obtain⟨j,kY,gO⟩:=fR;have h1:=Uu (hs.tm.getD tg) bq;rw[<-h1]
        have hy:yielded ops a.tmps j=OU (a.tmps.getD tg undef):=by
          simp only[yielded,gO,Option.bind_some];by_cases hl:tg<a.tmps.size
          · have e:a.tmps.getD tg undef=a.tmps[tg]:=by simp[Array.getD,hl]
            rw[DD hl,e];cases a.tmps[tg]<;>rfl
          · have e:a.tmps.getD tg undef=undef:=by simp[Array.getD,hl]
            rw[Array.getElem?_eq_none (Nat.le_of_not_lt hl),e];rfl
        simp only[Region.wanted,kY,hy]
      have pass:c=false->∀v,K ⟨putT S.t ao.dst (.cnd false v),S.h,S.ds⟩->(∀f,o.about P w a.eval=some f->(FW ρ).fn f)/\(∃g' S',K S'/\SR E g' S' (a.put o.dst undef) w/\Stp g S.h w g' S'.h w):=by intro _ v hK;rw[<-cq]at hK;exact⟨fun f _=>trivial,g,_,hK,⟨hs.hr,JX hs.tm o.dst (.cnd _ _ _ (fun e=>by cases e) (fun _=>rfl)),by rw[JY];exact hs.df,hs.dk,hs.dn⟩,.refl _ _ _⟩
      have call:∀(f:FuncId) (vs:List Value) (args:List Aa),(∀cc,o.op≠.defer cc)->(c=true->(execOp a.eval o).run P w=.ok (.enter f vs.toArray) w/\RVs g w args vs) -> ((∃v,(c=true->ATr E P f args S.h (fun v' h'=>v'=v/\h'=S.h))/\K ⟨putT S.t ao.dst (.cnd c v),S.h,S.ds⟩) \/ ((c=true->ATr E P f args S.h (fun v h'=>(∀D∈S.ds,h' D.1=.dfr D.2)/\K ⟨putT S.t ao.dst (.cnd true v),h',S.ds⟩))/\(c=false->K ⟨putT S.t ao.dst (.cnd false .top),S.h,S.ds⟩))) ->
          if Region.wanted o (yielded ops a.tmps) then o.wpIn (FW ρ) 0 P a w (fun a' w'=>∃g' S',K S'/\SR E g' S' a' w'/\Stp g S.h w g' S'.h w') Q
          else(∀f,o.about P w a.eval=some f->(FW ρ).fn f)/\(∃g' S',K S'/\SR E g' S' (a.put o.dst undef) w/\Stp g S.h w g' S'.h w):=by
        intro f vs args cJ aG ey;rw[cM];cases c with
        |false =>
          simp only[J6,Dk];rcases ey with ⟨v,_,hK⟩|⟨_,hK⟩
          · exact pass rfl v hK
          · exact pass rfl _ (hK rfl)
        |true =>
          simp only[Cn];obtain⟨hr,hv⟩:=aG rfl;have cnd:∀g' w' r v,RV g' w' r v->RV g' w' (.cnd true r) v:=fun _ _ _ _ h=>.cnd _ _ _ (fun _=>h) (fun e=>by cases e);rcases ey with ⟨v,hA,hK⟩|⟨hA,_⟩
          · refine LM hs cJ hr hv (y:=fun r=>.cnd true r) cnd ((hA rfl).mono ?_)
            rintro r h' ⟨rfl,rfl⟩;exact⟨hs.dk,by rw[cq];exact hK⟩
          · refine LM hs cJ hr hv (y:=fun r=>.cnd true r) cnd ((hA rfl).mono ?_)
            rintro r h' ⟨h1,h2⟩;exact⟨h1,by rw[cq];exact h2⟩
      cases du:ao.op.isCall with
      |false =>
        have hc:=OY ew du;have h':ao.op.quiet=true/\(c=true->ao.op.unAll E c S.t/\(ao.op.req (argU E S.t) S.h).ok)/\K ⟨putT S.t ao.dst (.cnd c (ao.op.req (argU E S.t) S.h).v),S.h,S.ds⟩:=by cases aL:ao.op<;>simp only[aL]at h du |-<;>first|exact h|(cases du;done)
        exact qzts (E:=E) (ρ:=ρ) (P:=P) (ops:=ops) hc hk hg bq (qzzu _ h'.1 _ _) h'.2.1 g a w S hs (fun _ _=>rfl) (fun _ _=>rfl) (fun a' w'=>∃g' S',K S'/\SR E g' S' a' w'/\Stp g S.h w g' S'.h w') Q
          (fun g' a' w' h1 h2=>⟨g',_,by rw[cq];exact h'.2.2,h1,h2⟩) |> fun q=>by
            by_cases hw:Region.wanted o (yielded ops a.tmps)=true
            · rw[An hw]at q |-;exact q
            · rw[Ak hw]at q |-
              have iI:c=false:=(by rw[<-cM];simpa using hw);subst iI;exact pass rfl _ h'.2.2
      |true =>
        cases aL:ao.op<;>simp only[aL,Al.isCall]at du<;>(try (cases du;done))
        case mnext x=>simp only[aL]at h
        case callf f args =>
          simp only[aL,LL]at h ew;obtain⟨as,ats,ho,he,ha⟩:=U0 ew
          have hu:c=true->Ca c S.t args:=by
            intro e;rcases h with ⟨_,h1,_⟩|⟨h1,_⟩
            · exact(h1 e).1
            · exact(h1 e).1
          refine call f (as.toList.map a.eval) (args.map (argU E S.t)) (fun cc hc=>by rw[ho]at hc;cases hc) (fun e=>⟨U6 ho he a w,LN hs e ha (hu e)⟩) ?_;rcases h with ⟨v,h1,h2⟩|⟨h1,h2⟩
          · exact .inl ⟨v,fun e=>(h1 e).2,h2⟩
          · exact .inr ⟨fun e=>(h1 e).2,h2⟩
        case callv x args =>
          simp only[aL,LL,gyld]at h ew;have gS:=h.1;by_cases iI:c=false
          · rw[cM,iI]
            simp only[J6,Dk];exact pass iI _ (gS iI)
          have h:=h.2 (by simpa using iI);obtain⟨x0,as,ats,ho,hx,ha⟩:=U2 ew;split at h
          · rename_i f nb caps jp
            obtain⟨he,h⟩:=h
            have hu:c=true->Ca c S.t (x :: args):=by
              intro e;rcases h with ⟨_,h1,_⟩|⟨h1,_⟩
              · exact(h1 e).1
              · exact(h1 e).1
            have aG:c=true->∃arr:Array Value,a.eval x0=.func (.func f) (arr.toList.take nb).toArray (arr.toList.drop nb).toArray/\RVs g w caps arr.toList/\RVs g w (args.map (argU E S.t)) (as.toList.map a.eval):=by
              intro e;have h1:yzw (x0 :: as.toList) (x :: args)=true:=by simp[yzw,hx,ha]
              have h2:=LN hs e h1 (hu e);have h3:=h2.2 0 (argU E S.t x) (a.eval x0) rfl rfl;rw[jp]at h3;obtain⟨arr,e1,e2⟩:=Pa h3;exact⟨arr,e1,e2,by have:=h2.1;simpa using this,fun i y u hy hu=>h2.2 (i+1) y u (by simpa using hy) (by simpa using hu)⟩
            cases eY:c with
            |true =>
              obtain⟨arr,e1,e2,e3⟩:=aG eY;rw[eY]at h;refine call f (fnArgs nb (as.toList.map a.eval) arr.toList) (fnArgs nb (args.map (argU E S.t)) caps) (fun cc hc=>by rw[ho]at hc;cases hc) (fun e=>⟨U7 ho he a w e1,RVs.fnArgs e3 e2⟩) ?_;rw[eY];rcases h with ⟨v,h1,h2⟩|⟨h1,h2⟩
              · exact .inl ⟨v,fun e=>(h1 e).2,h2⟩
              · exact .inr ⟨fun e=>(h1 e).2,h2⟩
            |false =>
              rw[eY]at h;refine call f [] [] (fun cc hc=>by rw[ho]at hc;cases hc) (fun e=>by rw[eY]at e;cases e) ?_;rw[eY];rcases h with ⟨v,h1,h2⟩|⟨h1,h2⟩
              · exact .inl ⟨v,fun e=>(by cases e),h2⟩
              · exact .inr ⟨fun e=>(by cases e),h2⟩
          · rename_i id ep hy
            rw[cM];cases eY:c with
            |true =>
              simp only[Cn];obtain⟨hu,hR⟩:=h.1 eY;have h1:yzw (x0 :: as.toList) (x :: args)=true:=by simp[yzw,hx,ha]
              have h2:=LN hs eY h1 hu;have h3:=h2.2 0 (argU E S.t x) (a.eval x0) rfl rfl;rw[hy]at h3;have h4:RVs g w (args.map (argU E S.t)) (as.toList.map a.eval):=⟨by have:=h2.1;simpa using this,fun i y u hy hu=>h2.2 (i+1) y u (by simpa using hy) (by simpa using hu)⟩;rw[<-cq]at hR;exact U3 hs (fun c hc=>by rw[ho]at hc;cases hc) (U4 ho a w (U5 hs.hr hR.ep h3)) h4 (y:=fun r=>.cnd true r) (fun _ _ _ _ h=>.cnd _ _ _ (fun _=>h) (fun e=>by cases e)) hR
            |false =>simp only[J6,Dk];exact pass eY _ (h.2 eY)
          · exact h.elim
def yzf(P:Program)(ops:Array Oper):List Oper->List Ay->Bool
 |[],[]=>true
 |o :: l,a :: m=>F0 P ops o a&&yzf P ops l m
 |_,_=>false
theorem U8{ops:Array Oper}{Q:Exit->Act->World->Prop}:∀{l:List Oper} {m:List Ay} {S:Av} {K:Av->Prop},yzf P ops l m=true->areg E P m S K->∀{g:Gh} {a:Act} {w:World},SR E g S a w -> (∀a' w',(∃g' S',K S'/\SR E g' S' a' w'/\Stp g S.h w g' S'.h w')->Q .normal a' w')->wpListIn (FW ρ) 0 P ops Q l a w
 |[],[],S,K,_,h,g,a,w,hs,hq=>hq a w ⟨g,S,h,hs,.refl _ _ _⟩
 |o :: l,ao :: m,S,K,hc,h,g,a,w,hs,hq=>by
  simp only[yzf,AE]at hc;refine wpListIn_step fun K' ld=>?_;have h1:=LO (ρ:=ρ) (Q:=Q) hc.1 h hs;have imp:∀a' w',(∃g' S',areg E P m S' K/\SR E g' S' a' w'/\Stp g S.h w g' S'.h w')->K' a' w':=by rintro a' w' ⟨g',S',h2,bj,st⟩;refine ld a' w' (U8 hc.2 h2 bj ?_);rintro a'' w'' ⟨g'',S'',hk,aY,st'⟩;exact hq a'' w'' ⟨g'',S'',hk,aY,st.trans st'⟩
  split at h1
  ·rename_i hw;rw[An hw];exact Oper.wpIn_mono imp h1
  ·rename_i hw;rw[Ak hw];exact⟨h1.1,imp _ _ h1.2⟩
 |[],_ :: _,_,_,h,_,_,_,_,_,_=>by cases h
 |_ :: _,[],_,_,h,_,_,_,_,_,_=>by cases h
def SReg(E:Nat->Aa)(P:Program)(m:List Ay)(S:Av)(K:Av->Prop):Prop := ∀(ρ:Option Nat) (ops:Array Oper) (Q:Exit->Act->World->Prop) (l:List Oper),yzf P ops l m=true->∀{g:Gh} {a:Act} {w:World},SR E g S a w -> (∀a' w',(∃g' S',K S'/\SR E g' S' a' w'/\Stp g S.h w g' S'.h w')->Q .normal a' w')->wpListIn (FW ρ) 0 P ops Q l a w
theorem SReg.nil{S:Av}{K:Av->Prop}(h:K S):SReg E P [] S K:=by
 intro ρ ops Q l hc g a w hs hq;cases l with
 |nil=>exact hq a w ⟨g,S,h,hs,.refl _ _ _⟩
 |cons o l=>cases hc
theorem SReg.cons{ao:Ay}{m:List Ay}{S:Av}{K:Av->Prop}(h:aop E P ao S (fun S'=>SReg E P m S' K)):SReg E P (ao :: m) S K:=by
 intro ρ ops Q l hc g a w hs hq;cases l with
 |nil=>cases hc
 |cons o l =>
  simp only[yzf,AE]at hc;refine wpListIn_step fun K' ld=>?_;have h1:=LO (ρ:=ρ) (Q:=Q) hc.1 h hs;have imp:∀a' w',(∃g' S',SReg E P m S' K/\SR E g' S' a' w'/\Stp g S.h w g' S'.h w')->K' a' w':=by rintro a' w' ⟨g',S',h2,bj,st⟩;refine ld a' w' (h2 ρ ops Q l hc.2 bj ?_);rintro a'' w'' ⟨g'',S'',hk,aY,st'⟩;exact hq a'' w'' ⟨g'',S'',hk,aY,st.trans st'⟩
  split at h1
  ·rename_i hw;rw[An hw];exact Oper.wpIn_mono imp h1
  ·rename_i hw;rw[Ak hw];exact⟨h1.1,imp _ _ h1.2⟩
theorem AWp.sregion{id:Nat}{ops:Array Oper}{m:List Ay}{S:Av}{Q:Exit->Av->Prop}(hc:yzf P ops ops.toList m=true)(h:SReg E P m S (Q .normal)):AWp E ρ P (.region id ops false) Q S:=by intro g a w hs;exact wpIn_region_list (h ρ ops _ _ hc hs (fun a' w' ⟨g',S',q,r⟩=>⟨g',S',q,r⟩))
theorem AWp.region{id:Nat}{ops:Array Oper}{m:List Ay}{S:Av}{Q:Exit->Av->Prop}(hc:yzf P ops ops.toList m=true)(h:areg E P m S (Q .normal)):AWp E ρ P (.region id ops false) Q S:=by intro g a w hs;exact wpIn_region_list (U8 hc h hs (fun a' w' ⟨g',S',q,r⟩=>⟨g',S',q,r⟩))
end
section
variable {E:Nat->Aa}{P:Program}{ρ:Option Nat}
def See(E:Nat->Aa)(S S':Av):Prop:=∀(g:Gh) (a:Act) (w:World),SR E g S a w->∃g',SR E g' S' a w/\Stp g S.h w g' S'.h w
theorem See.refl(S:Av):See E S S:=fun g a w h=>⟨g,h,.refl _ _ _⟩
theorem See.trans{S S' S'':Av}(h:See E S S')(k:See E S' S''):See E S S'':=fun g a w hs =>
 let ⟨g',h1,s1⟩:=h g a w hs
 let ⟨g'',h2,s2⟩:=k g' a w h1
 ⟨g'',h2,s1.trans s2⟩
theorem See.of_sub{S S':Av}(s:Sub S S'):See E S S':=fun g a w hs=>⟨g,hs.sub s,(Stp.refl g S.h w).sub s.h⟩
theorem SReg.see{m:List Ay}{S S':Av}{K:Av->Prop}(s:See E S S')(h:SReg E P m S' K):SReg E P m S K:=by intro ρ ops Q l hc g a w hs hq;obtain⟨g1,cR,st1⟩:=s g a w hs;refine h ρ ops Q l hc cR ?_;rintro a' w' ⟨g',S'',q,bj,st⟩;exact hq a' w' ⟨g',S'',q,bj,st1.trans st⟩
theorem AWp.see{c:Code}{Q:Exit->Av->Prop}{S S':Av}(s:See E S S')(h:AWp E ρ P c Q S'):AWp E ρ P c Q S:=by intro g a w hs;obtain⟨g',bj,st⟩:=s g a w hs;exact wpIn_mono (h g' a w bj) fun e a' w' ⟨g'',S'',q,aY,st'⟩=>⟨g'',S'',q,aY,st.trans st'⟩
theorem AWp.loop'{c:Code}{Q:Exit->Av->Prop}{S:Av}{α:Type}(inv:α->Av)(Z:α->Nat)(I:α->Prop)(x₀:α)(h₀:I x₀)(s₀:See E S (inv x₀))(round:∀x,I x->AWp E ρ P c (Dp (fun S'=>∃x',I x'/\Z x'<Z x/\See E S' (inv x')) Q) (inv x)):AWp E ρ P (.loop c) Q S:=by
 refine AWp.see s₀ ?_;intro g a w hs;refine Zm (fun x a' w'=>I x/\∃g',SR E g' (inv x) a' w'/\Stp g (inv x₀).h w g' (inv x).h w') Z x₀ ⟨h₀,g,hs,.refl _ _ _⟩ ?_;rintro x a' w' ⟨hI,g',bj,st⟩;refine wpIn_mono (round x hI g' a' w' bj) ?_;rintro e a'' w'' ⟨g'',S'',q,aY,st'⟩;cases e with
 |normal =>obtain⟨x',gb,hlt,sb⟩:=q;obtain⟨g3,fS,st3⟩:=sb g'' a'' w'' aY;exact⟨x',⟨gb,g3,fS,(st.trans st').trans st3⟩,hlt⟩
 |_=>exact⟨g'',S'',q,aY,st.trans st'⟩
inductive FV(id:Nat)(o:Aj):Aa->Aa->Prop where
 |refl (x:Aa):FV id o x x
 |top (x:Aa):FV id o x .top
 |box (ep off:Nat) (cs:List Aa) (f':Nat->Aa) (ho:o=.box ep cs) (h2:∀k,k<cs.length->f' k=cs.getD k .top):FV id o (.ptr id ep off) (.cptr f' cs.length off)
 |fn (fi:FuncId) (nb:Nat) (l l':List Aa) (hl:l'.length=l.length) (h:∀(i:Nat) (x y:Aa),l[i]?=some x->l'[i]?=some y->FV id o x y):FV id o (.fn fi nb l) (.fn fi nb l')
 |vec (ep st m:Nat) (f:Nat->List Aa) (lo n:Nat) (f':Nat->List Aa) (ho:o=.vec ep st m f) (h1:lo+n<=m) (h2:∀k,k<n->f' k=f (lo+k)):FV id o (.vec id ep lo n) (.slc st n f')
 |agg (l l':List Aa) (hl:l'.length=l.length) (h:∀(i:Nat) (x y:Aa),l[i]?=some x->l'[i]?=some y->FV id o x y):FV id o (.agg l) (.agg l')
 |tup (l l':List Aa) (hl:l'.length=l.length) (h:∀(i:Nat) (x y:Aa),l[i]?=some x->l'[i]?=some y->FV id o x y):FV id o (.tup l) (.tup l')
 |cnd (c:Bool) (x y:Aa) (h:FV id o x y):FV id o (.cnd c x) (.cnd c y)
def FVl(id:Nat)(o:Aj):List Aa->List Aa->Prop
 |[],[]=>True
 |x :: l,y :: k=>FV id o x y/\FVl id o l k
 |_,_=>False
theorem FVl.at{id:Nat}{o:Aj}:∀{l k:List Aa},FVl id o l k->k.length=l.length/\∀(i:Nat) (x y:Aa),l[i]?=some x->k[i]?=some y->FV id o x y
 |[],[],_=>⟨rfl,fun i x y hx _=>by simp at hx⟩
 |x :: l,y :: k,h=>by
  obtain⟨h1,h2⟩:=FVl.at h.2;refine⟨by simp[h1],fun i u v hu hv=>?_⟩;cases i with
  |zero=>simp at hu hv;subst hu;subst hv;exact h.1
  |succ i=>exact h2 i u v (by simpa using hu) (by simpa using hv)
 |[],_ :: _,h=>h.elim
 |_ :: _,[],h=>h.elim
theorem FV.aggl{id:Nat}{o:Aj}{l k:List Aa}(h:FVl id o l k):FV id o (.agg l) (.agg k):=.agg l k h.at.1 h.at.2
theorem FV.tupl{id:Nat}{o:Aj}{l k:List Aa}(h:FVl id o l k):FV id o (.tup l) (.tup k):=.tup l k h.at.1 h.at.2
def OF(id:Nat)(o:Aj)(x x':Aj):Prop:=x'=x\/(∃e l l',x=.box e l/\x'=.box e l'/\FVl id o l l')\/(∃e st n f f',x=.vec e st n f/\x'=.vec e st n f'/\∀k,k<n->FVl id o (f k) (f' k)) \/ ∃e es es',x=.amap e es/\x'=.amap e es'/\es'.length=es.length/\∀(i:Nat) (a b:Aa×Aa),es[i]?=some a->es'[i]?=some b->FV id o a.1 b.1/\FV id o a.2 b.2
def frz(g:Gh)(id:Nat):Gh:=⟨g.blk,fun j=>if j=id then g.ep id+1 else g.ep j,g.bo,g.st,g.cp,fun b=>b=g.blk id\/g.fz b⟩
theorem LP(g:Gh)(id:Nat)(w:World):GLe g w (frz g id) w:=by
 refine⟨fun b hb=>⟨.inr hb,rfl⟩,fun j=>?_,fun j hj=>⟨rfl,rfl,rfl,rfl⟩⟩;show g.ep j<=if j=id then g.ep id+1 else g.ep j;split
 ·rename_i e;subst e;omega
 ·exact AC _
theorem FV.rv{g:Gh}{h:Aw}{w:World}{id:Nat}{o:Aj}(H:HR E g h w)(hid:h id=o){x y:Aa}(hf:FV id o x y):∀{v:Value},RV g w x v->RV (frz g id) w y v:=by
 induction hf with
 |refl x=>intro v hv;exact hv.mono (LP g id w)
 |top x=>intro v hv;exact .top v
 |box ep off cs f' ho h2 =>
  subst ho;intro v hv;have hO:=H.obj id;rw[hid]at hO;obtain⟨arr,ty,hb,hr⟩:=hO;cases hv with
  |ptr _ _ _ _ h1 he hp =>
   rw[hp (by rw[H.ep id,hid];rfl)];have aI:arr.size=cs.length:=by simpa using hr.1
   have:=RV.cptr (g:=frz g id) (w:=w) f' cs.length off (g.blk id) 0 (fun j=>arr.getD j undef) (.inl rfl) (fun j hj=>by have:j<arr.size:=(by omega);simp[World.cell?,hb,this]) (fun j hj=>by rw[h2 j hj];exact(hr.getD j).mono (LP g id w))
   rwa [Ci]at this
 |fn fi nb l l' hl h ih =>
  intro v hv;cases hv with
  |fn _ _ _ a hn hr =>
   refine .fn _ _ _ _ (by omega) fun i y u hy hu=>?_;have hi:i<l.length:=by rw[<-hl];exact(AK.1 hy).1
   exact ih i _ y (AD hi) hy (hr i _ u (AD hi) hu)
 |vec ep st m f lo n f' ho h1 h2 =>
  subst ho;intro v hv;have hO:=H.obj id;rw[hid]at hO;obtain⟨aH,h0,hn,arr,ty,hr,bt,aV⟩:=hO;obtain⟨ad,cap,rfl,aT,hc⟩:=Fy H hv (by rw[hid];rfl);rcases Fs n with e|e
  ·subst e;exact .slc0 _ _ _ _
  ·rcases hc with c8|⟨rfl,hc⟩;·omega
   ·have cf:∀i j,i<n->j<st->g.bo id+lo*g.st id+i*st+j<arr.size:=fun i j hi hj=>by
     have:=EA (k:=lo+i) (n:=g.cp id) (st:=st) (j:=j) (by omega) hj;rw[Ba]at this;rw[aH];omega
    have aN:∀i j,i<n->j<st->arr[g.bo id+lo*g.st id+i*st+j]?=some (arr.getD (g.bo id+lo*g.st id+i*st+j) undef):=fun i j hi hj=>by have:=cf i j hi hj;simp[this]
    have jq:∀i j,i<n->j<st->∀x,(f' i)[j]?=some x->(arr.getD (g.bo id+lo*g.st id+i*st+j) undef).oneCell'=true/\RV g w x (arr.getD (g.bo id+lo*g.st id+i*st+j) undef):=fun i j hi hj x hx=>by
     rw[h2 i hi]at hx;refine(aV (lo+i) (by omega)).2 j x _ hx ?_;have e4:g.bo id+(lo+i)*st+j=g.bo id+lo*g.st id+i*st+j:=by rw[aH,Ba];omega
     rw[e4];exact aN i j hi hj
    refine .slc st n f' (g.blk id) (g.bo id+lo*g.st id) cap (fun i j=>arr.getD (g.bo id+lo*g.st id+i*st+j) undef) (.inl rfl) aT (fun i hi=>by rw[h2 i hi];exact(aV (lo+i) (by omega)).1) ?_ ?_ ?_
    ·intro i j hi hj;have:=cf i j hi hj;simp[World.cell?,hr,this]
    ·intro i j hi hj;have hl:(f' i).length=st:=(by rw[h2 i hi];exact(aV (lo+i) (by omega)).1);exact(jq i j hi hj _ (AD (by omega))).1
    ·intro i j x hi hx;have hl:(f' i).length=st:=(by rw[h2 i hi];exact(aV (lo+i) (by omega)).1);have hj:j<st:=(by have:=(AK.1 hx).1;omega);exact(jq i j hi hj x hx).2.mono (LP g id w)
 |agg l l' hl h ih =>
  intro v hv;cases hv with
  |agg _ a hn hr =>
   refine .agg _ _ (by omega) fun i y u hy hu=>?_;have hi:i<l.length:=by rw[<-hl];exact(AK.1 hy).1
   exact ih i _ y (AD hi) hy (hr i _ u (AD hi) hu)
 |tup l l' hl h ih =>
  intro v hv;cases hv with
  |tup _ a hn hr =>
   refine .tup _ _ (by omega) fun i y u hy hu=>?_;have hi:i<l.length:=by rw[<-hl];exact(AK.1 hy).1
   exact ih i _ y (AD hi) hy (hr i _ u (AD hi) hu)
 |cnd c x y _ ih =>
  intro v hv;cases hv with
  |cnd _ _ _ h1 h0=>exact .cnd _ _ _ (fun e=>ih (h1 e)) h0
theorem FVl.rvs{g:Gh}{h:Aw}{w:World}{id:Nat}{o:Aj}(H:HR E g h w)(hid:h id=o){l k:List Aa}{a:List Value}(hf:FVl id o l k)(hv:RVs g w l a):RVs (frz g id) w k a:=by
 obtain⟨h1,h2⟩:=hf.at;refine⟨by rw[h1];exact hv.1,fun i y u hy hu=>?_⟩;have hi:i<l.length:=by rw[<-h1];exact(AK.1 hy).1
 exact(h2 i _ y (AD hi) hy).rv H hid (hv.2 i _ u (AD hi) hu)
theorem HR.freeze{g:Gh}{h h':Aw}{w:World}{id:Nat}{o:Aj}(H:HR E g h w)(hid:h id=o)(aU:o.owned=true)(hi:h' id=.gone (o.ep+1))(ho:∀j,j≠id->OF id o (h j) (h' j)):HR E (frz g id) h' w/\Stp g h w (frz g id) h' w:=by
 have aE:=LP g id w;have cw:g.ep id=o.ep:=by rw[H.ep id,hid]
 rw[<-hid]at aU
 have own:∀j,(h' j).owned=true->j≠id/\(h j).owned=true:=by
  intro j hj;have aJ:j≠id:=fun e=>by rw[e,hi]at hj;cases hj
  refine⟨aJ,?_⟩;rcases ho j aJ with e|⟨e,l,l',e1,e2,_⟩|⟨e,st,n,f,f',e1,e2,_⟩|⟨e,es,es',e1,e2,_⟩
  ·rw[<-e];exact hj
  ·rw[e1];rfl
  ·rw[e1];rfl
  ·rw[e1];rfl
 refine⟨⟨fun j=>?_,fun j=>?_,fun j k hj hk e=>H.inj j k (own j hj).2 (own k hk).2 e,fun j hj=>?_,fun b hb=>?_,fun i=>(H.glob i).mono aE⟩,⟨aE,rfl,rfl,rfl,AC _,fun _ _ _=>rfl,fun j hj=>.inl ⟨j,(own j hj).2,rfl⟩,fun b hb=>hb.elim (fun e=>.inr (.inl ⟨id,aU,e.symm⟩)) .inl,AC _⟩⟩
 ·by_cases e:j=id;·rw[e,hi];trivial
  ·have hO:=H.obj j;have og:(frz g id).ep j=g.ep j:=Ak e;rcases ho j e with e'|⟨e0,l,l',e1,e2,hf⟩|⟨e0,st,n,f,f',e1,e2,hf⟩|⟨e0,es,es',e1,e2,gT,hf⟩
   ·rw[e'];exact hO.mono aE og (fun _=>rfl)
   ·rw[e2];rw[e1]at hO;obtain⟨arr,ty,hr,bN⟩:=hO;exact⟨arr,ty,hr,hf.rvs H hid bN⟩
   ·rw[e2];rw[e1]at hO;obtain⟨aH,h0,cX,arr,ty,hr,bt,aV⟩:=hO;refine⟨aH,h0,cX,arr,ty,hr,bt,fun k hk=>?_⟩;obtain⟨q1,q2⟩:=(hf k hk).at;refine⟨q1.trans (aV k hk).1,fun i y u hy hu=>?_⟩;have hi:i<(f k).length:=by rw[<-q1];exact(AK.1 hy).1
    obtain⟨p1,p2⟩:=(aV k hk).2 i _ u (AD hi) hu;exact⟨p1,(q2 i _ y (AD hi) hy).rv H hid p2⟩
   ·rw[e2];rw[e1]at hO;obtain⟨arr,hr,aI,aV⟩:=hO;refine⟨arr,by rw[gT];exact hr,by rw[gT];exact aI,fun k y m hy hm=>?_⟩;have hi:k<es.length:=by rw[<-gT];exact(AK.1 hy).1
    obtain⟨p1,p2,p3⟩:=aV k _ m (AD hi) hm;obtain⟨q1,q2⟩:=hf k _ y (AD hi) hy;exact⟨q1.rv H hid p1,q2.rv H hid p2,p3⟩
 ·by_cases e:j=id;·subst e;rw[hi];show(if j=j then g.ep j+1 else g.ep j)=o.ep+1;rw[An rfl,cw]
  ·show(if j=id then g.ep id+1 else g.ep j)=_;rw[Ak e,H.ep j];rcases ho j e with e'|⟨e0,l,l',e1,e2,hf⟩|⟨e0,st,n,f,f',e1,e2,hf⟩|⟨e0,es,es',e1,e2,_⟩
   ·rw[e']
   ·rw[e1,e2];rfl
   ·rw[e1,e2];rfl
   ·rw[e1,e2];rfl
 ·obtain⟨aJ,iJ⟩:=own j hj;rintro(e|e)
  ·exact aJ (H.inj j id iJ aU e)
  ·exact H.sep j iJ e
 ·rcases hb with rfl|hb;·exact(H.obj id).lt aU
  ·exact H.fzb b hb
theorem See.freeze{S S':Av}{id:Nat}{o:Aj}(hid:S.h id=o)(aU:o.owned=true)(cn:o.plain)(hi:S'.h id=.gone (o.ep+1))(ho:∀j,j≠id->OF id o (S.h j) (S'.h j))(ht:FVl id o S.t S'.t)(dj:S'.ds=S.ds):See E S S':=by
 intro g a w hs;obtain⟨H',st'⟩:=hs.hr.freeze hid aU hi ho;refine⟨frz g id,⟨H',ht.rvs hs.hr hid hs.tm,by rw[dj];exact hs.df,fun D hD=>?_,by rw[dj];exact hs.dn⟩,st'⟩;rw[dj]at hD;have hd:=hs.dk D hD;have aJ:D.1≠id:=fun e=>by rw[e,hid]at hd;rw[hd]at cn;exact cn
 rcases ho D.1 aJ with e'|⟨e0,l,l',e1,e2,hf⟩|⟨e0,st,n,f,f',e1,e2,hf⟩|⟨e0,es,es',e1,e2,_⟩
 ·rw[e'];exact hd
 ·rw[e1]at hd;cases hd
 ·rw[e1]at hd;cases hd
 ·rw[e1]at hd;cases hd
inductive ARes where
 |t (n:Tmp)
 |c (n:Tmp) (agg:Bool) (sz:Nat)
def Pb(P:Program):ResultVar->ARes->Bool
 |.tmp a,.t b=>a==b
 |.cell a ty,.c b agg sz=>a==b&&yzl P ty==some agg&&(!agg||szOf P ty==some sz)
 |_,_=>false
def Eh(P:Program):List ResultVar->List ARes->Bool
 |[],[]=>true
 |r :: l,s :: m=>Pb P r s&&Eh P l m
 |_,_=>false
def ARes.ok(S:Av):ARes->Prop
 |.t _=>True
 |.c n agg sz=>(CP agg sz (S.t.getD n .top) S.h).ok
def ARes.val(S:Av):ARes->Aa
 |.t n=>S.t.getD n .top
 |.c n agg sz=>(CP agg sz (S.t.getD n .top) S.h).v
def Gc(S:Av):List ARes->Prop
 |[]=>True
 |r :: l=>r.ok S/\Gc S l
def GD(S:Av):List ARes->Aa
 |[r]=>r.val S
 |l=>.tup (l.map (ARes.val S))
theorem qzu8(agg:Bool)(sz:Nat)(x:Aa)(h:Aw):(CP agg sz x h).out=none:=by
 unfold CP;repeat' split
 all_goals rfl
def Kb(tmps:Array Value):ResultVar->Sem Value
 |.tmp t=>pure (tmps.getD t undef)
 |.cell a t=>do loadVar t (<-asAddr (tmps.getD a undef))
theorem qzwk(fn:Func)(tmps:Array Value):results fn tmps=(do let vs <-fn.results.mapM (Kb tmps);pure (if h:vs.size=1 then vs[0] else .tuple vs)):=rfl
theorem wzc2{g:Gh}{w:World}{S:Av}{tmps:Array Value}(H:HR E g S.h w)(ht:RVs g w S.t tmps.toList){r:ResultVar}{s:ARes}(hc:Pb P r s=true)(aB:s.ok S) :
  ∃v,(Kb tmps r).run P w=.ok v w/\RV g w (s.val S) v:=by
 cases r<;>cases s<;>simp only[Pb]at hc<;>(try (cases hc;done))
 ·simp only[Bt]at hc
  subst hc
  exact⟨_,rfl,ht.getD _⟩
 ·rename_i a ty b agg sz
  simp only[AE,Bt,Fq,FS]at hc
  obtain⟨⟨rfl,hq⟩,hs⟩:=hc
  let o : Oper := { dst := none, op := .load ty (.tmp a), type := 0, pos := "", after := #[], guard := none }
  have br:((Al.load agg sz (.t a)).req (Ag E S.t) S.h).ok:=aB
  obtain⟨n,v,w',g',aG,hn,hv,_,_,hout⟩:=TG (E:=E) (P:=P) (o:=o) (a:=⟨tmps,[]⟩) (x:=.tmp a) (x':=.t a) H ht rfl (by simp[AB]) hq (fun e=>hs.resolve_left (by rw[e];simp)) br
  obtain⟨rfl,rfl⟩:=hout (qzu8 _ _ _ _)
  have bY:((Instr.loadAt ty (tmps.getD a undef)).run P w').andThen (fun x w=>.ok (Next.value x) w)=.ok n w':=by
   simpa [execOp,o,Act.eval] using aG
  refine⟨v,?_,hv⟩
  simp only[Kb,Sem.run_bind]
  cases hp:tmps.getD a undef<;>simp only[hp,Instr.loadAt,Instr.sureAddr,Sem.run_bind,run_stuck,Result.andThen_halt]at bY<;>(try (cases bY;done))
  rename_i ad
  cases ad with
  |none=>simp only[Instr.sureAddr,run_stuck,Result.andThen_halt]at bY;cases bY
  |some ad =>
   simp only[Instr.sureAddr,Sem.run_pure,Result.andThen_ok,asAddr]at bY |-
   generalize (loadVar ty ad).run P w'=q at bY |-
   cases q with
   |halt x y=>cases bY
   |ok x y =>
    simp only[Result.andThen_ok,Result.ok.injEq]at bY
    obtain⟨rfl,rfl⟩:=bY
    rcases hn with hn|⟨hn,_⟩
    ·injection hn with hn;subst hn;rfl
    ·cases hn
theorem U9{g:Gh}{w:World}{S:Av}{tmps:Array Value}(H:HR E g S.h w)(ht:RVs g w S.t tmps.toList):∀{l:List ResultVar} {m:List ARes},Eh P l m=true->Gc S m -> ∃vs,(l.mapM (Kb tmps)).run P w=.ok vs w/\RVs g w (m.map (ARes.val S)) vs
 |[],[],_,_=>⟨[],by simp,.nil g w⟩
 |r :: l,s :: m,hc,aB=>by simp only[Eh,AE]at hc;obtain⟨v,h1,h2⟩:=wzc2 H ht hc.1 aB.1;obtain⟨vs,h3,h4⟩:=U9 H ht hc.2 aB.2;refine⟨v :: vs,?_,.cons h2 h4⟩;rw[List.mapM_cons,Sem.run_bind,h1];simp only[Result.andThen_ok,Sem.run_bind,h3,Sem.run_pure]
 |[],_ :: _,h,_=>by cases h
 |_ :: _,[],h,_=>by cases h
theorem qzuo{g:Gh}{w:World}{S:Av}{tmps:Array Value}{fn:Func}{rs:List ARes}(H:HR E g S.h w)(ht:RVs g w S.t tmps.toList)(hc:Eh P fn.results.toList rs=true)(aB:Gc S rs) : ∃v,(results fn tmps).run P w=.ok v w/\RV g w (GD S rs) v:=by
 obtain⟨vs,h1,h2⟩:=U9 H ht hc aB;have hm:(fn.results.mapM (Kb tmps)).run P w=.ok vs.toArray w:=by rw[Array.mapM_eq_mapM_toList];simp only[Sem.run_map,h1,Result.andThen_ok]
 have hl:=h2.1;simp only[J8]at hl;rw[qzwk,Sem.run_bind,hm];simp only[Result.andThen_ok]
 match rs,vs,hl,h2 with
 |[r],[v],_,h2=>exact⟨v,by simp,h2.2 0 _ v rfl rfl⟩
 |[],[],_,h2=>exact⟨.tuple #[],by simp,.tup _ _ rfl (fun i x v hx _=>by simp at hx)⟩
 |r :: s :: l,v :: u :: k,hl,h2 =>refine⟨.tuple (v :: u :: k).toArray,by simp,?_⟩;exact .tup _ _ (by simp at hl |-;omega) (fun i x y hx hy=>h2.2 i x y hx (by simpa using hy))
def Post(E:Nat->Aa)(rs:List ARes)(R:Aa->Aw->Prop):Exit->Av->Prop
 |.normal,S | .ret,S=>∃S',See E S S'/\Gc S' rs/\∃h',(∀i,OSub (S'.h i) (h' i))/\(∀D∈S'.ds,∃e,h' D.1=.gone e)/\R (GD S' rs) h'
 |_,_=>False
theorem UA{fn:Func}{tmps:Array Value}{R:Ending->World->Prop}{g:Gh}:∀(ds:List (Nat×Nat)) (h:Aw) (w:World),HR E g h w->(∀D∈ds,h D.1=.dfr D.2)->(ds.map (·.1)).Nodup -> (∀h' w',HR E g h' w'->Stp g h w g h' w'->(∀i,(∀D∈ds,i≠D.1)->h' i=h i)->(∀D∈ds,h' D.1=.gone D.2)->LeavesIn (FW ρ) 0 P fn tmps R [] .returning w') ->
  LeavesInM (FW ρ) 0 P fn tmps R (ds.map fun D=>{ target:=.collected (g.blk D.1),args:=#[] }) .returning w
 |[],h,w,H,_,_,hk=>hk h w H (.refl _ _ _) (fun _ _=>rfl) (fun D hD=>by cases hD)
 |D :: ds,h,w,H,hd,hn,hk=>by
  have h1:=hd D (BI ..);have hO:=H.obj D.1;rw[h1]at hO;have hO:w.heap[g.blk D.1]?=some (.deferred (some [])):=hO;have aU:(h D.1).owned=true:=by rw[h1];rfl
  have cx:=H.sep D.1 aU;have cj:g.ep D.1=D.2:=by rw[H.ep D.1,h1];rfl
  simp only[JH,List.nodup_cons]at hn;refine⟨by simp,.inl ⟨g.blk D.1,w.putObj (g.blk D.1) (.deferred none),rfl,run_takeDeferred hO,?_⟩⟩;have aE:GLe g w g (w.putObj (g.blk D.1) (.deferred none)):=⟨fun b hb=>⟨hb,World.putObj_heap_other (fun e=>cx (e▸hb))⟩,fun _=>AC _,fun _ _=>⟨rfl,rfl,rfl,rfl⟩⟩;obtain⟨H',st⟩:=HR.upd (g':=g) (w':=w.putObj (g.blk D.1) (.deferred none)) (i:=D.1) (o':=.gone D.2) H aE (fun _ _=>rfl) cj (fun b _ aJ=>World.putObj_heap_other (aJ aU)) (by simp) trivial (fun e=>by cases e) (fun e=>by cases e) (fun b hb=>.inl hb) (fun b hb=>by simpa using H.fzb b hb) rfl rfl rfl;have aJ:∀D'∈ds,D'.1≠D.1:=fun D' hD' e=>hn.1 (L7.2 ⟨D',hD',e⟩);refine UA ds _ _ H' (fun D' hD'=>?_) hn.2 (fun h' w' H2 st2 bQ fp=>?_)
  ·simp only[hset,Ak (aJ D' hD')];exact hd D' (CG _ hD')
  ·refine hk h' w' H2 (st.trans st2) (fun i hi=>?_) (fun D' hD'=>?_);·rw[bQ i (fun D' hD'=>hi D' (CG _ hD'))];simp only[hset,Ak (hi D (BI ..))]
   ·rcases AL.1 hD' with rfl|hD';·rw[bQ _ (fun D'' lg=>(aJ D'' lg).symm)];simp[hset]
    ·exact fp D' hD'
theorem qz02{agg:Bool}{sz:Nat}{x:Aa}{h h':Aw}(aB:(CP agg sz x h).ok)(hh:∀i,(∃ep cs,h i=.box ep cs)\/(∃ep st n f,h i=.vec ep st n f)->h' i=h i):CP agg sz x h'=CP agg sz x h:=by
 unfold CP at aB |-;cases x<;>simp only[Req.fail]at aB |-
 case ptr id ep off =>cases hq:h id<;>simp only[hq]at aB<;>first|exact aB.elim|rw[hh id (.inl ⟨_,_,hq⟩),hq]
 case eptr id ep i off =>cases hq:h id<;>simp only[hq]at aB<;>first|exact aB.elim|rw[hh id (.inr ⟨_,_,_,_,hq⟩),hq]
theorem ATr.of_body{f:FuncId}{fn:Func}{c:Code}{args:List Aa}{h:Aw}{R:Aa->Aw->Prop}{rs:List ARes}(hf:P.funcs[f]?=some fn)(hb:fn.body=some c)(hr:Eh P fn.results.toList rs=true)(hw:AWp E none P c (Post E rs R) ⟨args++List.replicate (fn.ntmps-args.length) .top,h,[]⟩):ATr E P f args h R:=by
 intro g w vs H hv;rw[<-O9 (ρ:=none) (n:=0)];refine callsIn_of_wp_marks hf hb trivial ?_;have aD:=hv.1
 have hs:SR E g ⟨args++List.replicate (fn.ntmps-args.length) .top,h,[]⟩ { tmps:=vs.toArray++Array.replicate (fn.ntmps-vs.toArray.size) undef,defers:=[] } w:=by
  refine⟨H,?_,rfl,(fun D hD=>by cases hD),by simp⟩;have e:(vs.toArray++Array.replicate (fn.ntmps-vs.toArray.size) undef).toList=vs++List.replicate (fn.ntmps-args.length) undef:=by simp[aD]
  rw[e];refine hv.append ⟨by simp,fun i x v hx hv=>?_⟩;have:x=.top:=by have:=CB hx;exact List.eq_of_mem_replicate this
  subst this;exact .top _
 refine wpIn_mono (hw g _ w hs) ?_;rintro e a' w' ⟨g',S',q,bj,st⟩
 have key:Post E rs R .ret S'->LeavesInM (FW none) 0 P fn a'.tmps (fun e w'=>∃g' h' r v,R r h'/\e=.returned v/\RV g' w' r v/\HR E g' h' w'/\Stp g h w g' h' w') a'.defers .returning w':=by
  rintro⟨S'',see,aB,h',dB,fp,hR⟩;obtain⟨g'',aY,st'⟩:=see g' a' w' bj;rw[aY.df];refine UA S''.ds S''.h w' aY.hr aY.dk aY.dn (fun h3 w3 H3 st3 bQ lh=>?_);have dj:∀i,(∃ep cs,S''.h i=.box ep cs)\/(∃ep st n f,S''.h i=.vec ep st n f)->h3 i=S''.h i:=by intro i hi;refine bQ i (fun D hD e=>?_);have:=aY.dk D hD;rw[<-e]at this;rcases hi with ⟨_,_,h⟩|⟨_,_,_,_,h⟩<;>(rw[h]at this;cases this)
  have bC:∀r:ARes,r.ok S''->(r.ok ⟨S''.t,h3,S''.ds⟩/\r.val ⟨S''.t,h3,S''.ds⟩=r.val S''):=by
   intro r hr;cases r with
   |t n=>exact⟨trivial,rfl⟩
   |c n agg sz =>have:=qz02 (h':=h3) hr dj;exact⟨by show(CP _ _ _ h3).ok;rw[this];exact hr,by show(CP _ _ _ h3).v=_;rw[this];rfl⟩
  have bp:∀l:List ARes,Gc S'' l->Gc ⟨S''.t,h3,S''.ds⟩ l/\l.map (ARes.val ⟨S''.t,h3,S''.ds⟩)=l.map (ARes.val S''):=by
   intro l;induction l with
   |nil=>intro _;exact⟨trivial,rfl⟩
   |cons r l ih =>intro h;obtain⟨a1,a2⟩:=bC r h.1;obtain⟨b1,b2⟩:=ih h.2;exact⟨⟨a1,b1⟩,by simp[a2,b2]⟩
  obtain⟨li,dA⟩:=bp rs aB
  have bN:GD ⟨S''.t,h3,S''.ds⟩ rs=GD S'' rs:=by
   cases rs with
   |nil=>rfl
   |cons r l =>
    cases l with
    |nil=>simpa [GD] using dA
    |cons s l=>simp only[GD,dA]
  obtain⟨v,aG,dh⟩:=qzuo (P:=P) (fn:=fn) (S:=⟨S''.t,h3,S''.ds⟩) H3 (aY.tm.mono st3.le) hr li;rw[bN]at dh
  have gw:∀i,OSub (h3 i) (h' i):=by
   intro i;by_cases hi:∃D∈S''.ds,i=D.1
   ·obtain⟨D,hD,rfl⟩:=hi;obtain⟨e,he⟩:=fp D hD;rw[lh D hD,he];have:=dB D.1;rw[aY.dk D hD,he]at this;rcases this with h1|h1|⟨_,_,_,_,_,h1,_⟩
    ·simp only[Aj.ep,Aj.gone.injEq]at h1;subst h1;exact .refl _
    ·cases h1
    ·cases h1
   ·rw[bQ i (fun D hD e=>hi ⟨D,hD,e⟩)];exact dB i
  exact⟨v,aG,g'',h',_,v,hR,rfl,dh,H3.sub gw,((st.trans st').trans st3).sub gw⟩
 cases e with
 |normal=>exact key q
 |ret=>exact key q
 |exit id=>exact q.elim
 |goto l=>exact q.elim
 |panic c=>exact q.elim
 |outgrown=>exact q.elim
end
def looks(o:Ay):List Tmp:=(match o.guard with | some (g,_)=>[g] | none=>[])++CI o.op.args
def Bf(E:Nat->Aa)(P:Program)(f:FuncId)(args:List Aa)(v:Aa):Prop:=∀h,ATr E P f args h (fun v' h'=>v'=v/\h'=h)
def Cz(E:Nat->Aa)(P:Program)(f:FuncId)(args:List Aa)(h:Aw)(rd:List Nat)(v:Aa):Prop := ∀h',(∀j∈rd,h' j=h j)->ATr E P f args h' (fun v' cu=>v'=v/\cu=h')
theorem Bf.on{E:Nat->Aa}{P:Program}{f:FuncId}{args:List Aa}{v:Aa}(H:Bf E P f args v)(h:Aw)(rd:List Nat):Cz E P f args h rd v:=fun h' _=>H h'
theorem Cz.agree{E:Nat->Aa}{P:Program}{f:FuncId}{args:List Aa}{h h1:Aw}{rd:List Nat}{v:Aa}(H:Cz E P f args h rd v)(hh:∀j∈rd,h1 j=h j):Cz E P f args h1 rd v :=
 fun h' e=>H h' fun j hj=>(e j hj).trans (hh j hj)
def VEq(v' v:Aa):Prop:=∀(g:Gh) (w:World) (u:Value),RV g w v' u->RV g w v u
theorem VEq.refl(v:Aa):VEq v v:=fun _ _ _ h=>h
theorem VEq.rv{g:Gh}{w:World}{v' v:Aa}(h:VEq v' v){u:Value}(hr:RV g w v' u):RV g w v u:=h g w u hr
theorem VEq.cnd{c:Bool}{x y:Aa}(h:c=true->VEq x y):VEq (.cnd c x) (.cnd c y):=fun g w u hr=>by
 cases hr with
 |cnd _ _ _ h1 h0=>exact .cnd _ _ _ (fun e=>h e g w u (h1 e)) h0
structure OEq(o' o:Aj):Prop where
 ep:o.ep=o'.ep
 own:o.owned=true->o'.owned=true
 dfr:∀e,o'=.dfr e->o=.dfr e
 rel:∀(g:Gh) (w:World) (i:Nat),OR g w i o'->OR g w i o
 mp:∀e es,o'=.amap e es->o=.amap e es
theorem OEq.refl(o:Aj):OEq o o:=⟨rfl,id,fun _ h=>h,fun _ _ _ h=>h,fun _ _ h=>h⟩
def OutW(h:Aw):Option (Nat×Aj)->Option (Nat×Aj)->Prop
 |none,none=>True
 |some (i,o'),some (j,o)=>i=j/\OEq o' o
 |none,some (j,o)=>OEq (h j) o
 |some (i,o'),none=>o'=h i
theorem OutW.refl{h:Aw}:∀(o:Option (Nat×Aj)),OutW h o o
 |none=>trivial
 |some (i,o)=>⟨rfl,.refl o⟩
theorem OutW.put{h:Aw}{a b:Option (Nat×Aj)}(H:OutW h a b)(i:Nat):OEq (putH h a i) (putH h b i):=by
 cases a with
 |none =>
  cases b with
  |none=>exact .refl _
  |some q =>
   obtain⟨j,o⟩:=q;show OEq (h i) (if i=j then o else h i);split
   ·rename_i e;subst e;exact H
   ·exact .refl _
 |some p =>
  obtain⟨k,o'⟩:=p;cases b with
  |none =>
   have H:o'=h k:=H;show OEq (if i=k then o' else h i) (h i);split
   ·rename_i e;subst e;rw[H];exact .refl _
   ·exact .refl _
  |some q =>
   obtain⟨j,o⟩:=q;obtain⟨rfl,H⟩:=H;show OEq (if i=k then o' else h i) (if i=k then o else h i);split
   ·exact H
   ·exact .refl _
theorem HR.oeq{E:Nat->Aa}{g:Gh}{h h':Aw}{w:World}(H:HR E g h w)(s:∀i,OEq (h i) (h' i)):HR E g h' w := ⟨fun i=>(s i).rel _ _ _ (H.obj i),fun i=>by rw[H.ep i,(s i).ep],fun i j hi hj e=>H.inj i j ((s i).own hi) ((s j).own hj) e,fun i hi=>H.sep i ((s i).own hi),H.fzb,H.glob⟩
theorem Stp.oeq{g g':Gh}{h h' cu:Aw}{w w':World}(a:Stp g h w g' h' w')(s:∀i,OEq (h' i) (cu i)):Stp g h w g' cu w' := ⟨a.le,a.os,a.tape,a.output,a.size,a.keep,fun i hi=>a.own i ((s i).own hi),a.fzn,a.drawn⟩
def DFz(E:Nat->Aa)(P:Program)(f:FuncId)(xs:List Aa)(h:Aw)(v:Aa)(rd:List Nat)(out:Option (Nat×Aj)):Prop := ∃i,i∈rd/\(h i).plain/\((out=some (i,.gone ((h i).ep+1))/\(h i).owned=true/\∃ys,FVl i (h i) xs ys/\Bf E P f ys v)\/(out=some (i,h i)/\Bf E P f xs v))
def Dw(E:Nat->Aa)(P:Program)(o:Ay)(S:Av)(v:Aa)(rd:List Nat)(out:Option (Nat×Aj)):Prop :=
 match o.guard with
 |none=>∃f args,o.op=.callf f args/\DFz E P f (args.map (Ag E S.t)) S.h v rd out
 | some (tg,want)=>∃c x,Co (S.t.getD tg .top) want=some c/\v=.cnd c x/\(c=false->out=none)/\((∃f args,o.op=.callf f args/\(c=true->Ca c S.t args/\DFz E P f (args.map (argU E S.t)) S.h x rd out)) \/
  (o.op.isCall=false/\(c=true->o.op.unAll E c S.t/\(o.op.req (argU E S.t) S.h).ok/\VEq (o.op.req (argU E S.t) S.h).v x/\(∀j∈(o.op.req (argU E S.t) S.h).rd,j∈rd)/\OutW S.h (o.op.req (argU E S.t) S.h).out out/\∀i ob,out=some (i,ob)->i∈rd)))
def BG(E:Nat->Aa)(P:Program)(o:Ay)(S:Av)(v:Aa)(rd:List Nat)(out:Option (Nat×Aj)):Prop :=
 match o.guard with
 |none=>match o.op with
  |.callf f args=>Cz E P f (args.map (Ag E S.t)) S.h rd v/\out=none
  |.callv x args=>(∃f nb caps,Ag E S.t x=.fn f nb caps/\CD P f=true/\Cz E P f (fnArgs nb (args.map (Ag E S.t)) caps) S.h rd v)/\out=none
  |op=>(op.req (Ag E S.t) S.h).ok/\VEq (op.req (Ag E S.t) S.h).v v/\(∀j∈(op.req (Ag E S.t) S.h).rd,j∈rd)/\OutW S.h (op.req (Ag E S.t) S.h).out out/\∀i ob,out=some (i,ob)->i∈rd
 |some (tg,want)=>∃c x,Co (S.t.getD tg .top) want=some c/\v=.cnd c x/\out=none/\match o.op with
  |.callf f args=>c=true->Ca c S.t args/\Cz E P f (args.map (argU E S.t)) S.h rd x
  |.callv y args=>c=true->∃f nb caps,argU E S.t y=.fn f nb caps/\CD P f=true/\Ca c S.t (y :: args)/\Cz E P f (fnArgs nb (args.map (argU E S.t)) caps) S.h rd x
  |op=>op.quiet=true/\(c=true->op.unAll E c S.t/\(op.req (argU E S.t) S.h).ok/\VEq (op.req (argU E S.t) S.h).v x/\∀j∈(op.req (argU E S.t) S.h).rd,j∈rd)
def BL(E:Nat->Aa)(P:Program)(o:Ay)(S:Av)(v:Aa)(rd:List Nat)(out:Option (Nat×Aj)):Prop:=BG E P o S v rd out\/Dw E P o S v rd out
section
variable {E:Nat->Aa}{P:Program}{ρ:Option Nat}
theorem UB{o:Ay}{S:Av}{v:Aa}{rd:List Nat}{out:Option (Nat×Aj)}(d5:∀D∈S.ds,S.h D.1=.dfr D.2)(h:BG E P o S v rd out) :
  aop E P o S (fun S'=>∃v' out',VEq v' v/\OutW S.h out' out/\S'=⟨putT S.t o.dst v',putH S.h out',S.ds⟩):=by
 unfold BG at h;unfold aop;simp only[LL,gyld];cases hg:o.guard with
 |none =>
  simp only[hg]at h |-;cases aL:o.op<;>simp only[aL]at h |-
  case callf f args =>obtain⟨h1,rfl⟩:=h;refine(h1 S.h (fun _ _=>rfl)).mono ?_;rintro v' h' ⟨rfl,rfl⟩;exact⟨d5,_,none,.refl _,trivial,rfl⟩
  case callv x args =>obtain⟨⟨f,nb,caps,hx,he,h1⟩,rfl⟩:=h;rw[hx];refine⟨he,(h1 S.h (fun _ _=>rfl)).mono ?_⟩;rintro v' h' ⟨rfl,rfl⟩;exact⟨d5,_,none,.refl _,trivial,rfl⟩
  case mnext x=>exact h.1.elim
  all_goals
   obtain⟨h1,hv,_,ho,_⟩:=h;exact⟨h1,_,_,hv,ho,rfl⟩
 |some y =>
  obtain⟨tg,want⟩:=y;simp only[hg]at h |-;obtain⟨c,x,hc,rfl,rfl,h⟩:=h;simp only[hc];cases aL:o.op<;>simp only[aL]at h |-
  case callf f args =>exact .inl ⟨x,fun e=>⟨(h e).1,(h e).2 S.h (fun _ _=>rfl)⟩,_,none,.refl _,trivial,rfl⟩
  case callv y args =>
   refine⟨fun e=>?_,fun e=>?_⟩
   ·subst e;exact⟨_,none,.cnd (fun e=>by cases e),trivial,rfl⟩
   ·obtain⟨f,nb,caps,hx,he,h1,h2⟩:=h e;rw[hx];exact⟨he,.inl ⟨x,fun e=>⟨h1,h2 S.h (fun _ _=>rfl)⟩,_,none,.refl _,trivial,rfl⟩⟩
  case mnext x=>cases h.1
  all_goals
   obtain⟨hq,h1⟩:=h;exact⟨hq,fun e=>⟨(h1 e).1,(h1 e).2.1⟩,_,none,.cnd (fun e=>(h1 e).2.2.1),trivial,rfl⟩
theorem SR.veq{g:Gh}{S:Av}{t t':List Aa}{h h':Aw}{a:Act}{w:World}(hs:SR E g ⟨t,h,S.ds⟩ a w)(hl:t'.length=t.length)(hv:∀(i:Nat) (x y:Aa),t[i]?=some x->t'[i]?=some y->VEq x y)(ho:∀i,OEq (h i) (h' i)):SR E g ⟨t',h',S.ds⟩ a w:=by
 refine⟨hs.hr.oeq ho,⟨by rw[hl];exact hs.tm.1,fun i y u hy hu=>?_⟩,hs.df,fun D hD=>(ho D.1).dfr _ (hs.dk D hD),hs.dn⟩;have hi:i<t.length:=by rw[<-hl];exact(AK.1 hy).1
 have hx:t[i]?=some t[i]:=AD hi;exact(hv i _ y hx hy).rv (hs.tm.2 i _ u hx hu)
theorem qz25{t:List Aa}{d:Option Tmp}{v' v:Aa}(h:VEq v' v):∀(i:Nat) (x y:Aa),(putT t d v')[i]?=some x->(putT t d v)[i]?=some y->VEq x y:=by
 intro i x y hx hy;cases d with
 |none=>simp only[putT]at hx hy;rw[hx]at hy;cases hy;exact .refl _
 |some d =>
  simp only[putT,J7]at hx hy;by_cases e:d=i
  ·simp only[e,Cn]at hx hy;split at hx<;>simp_all
  ·simp only[e,Dk]at hx hy;rw[hx]at hy;cases hy;exact .refl _
theorem qzu4(t:List Aa)(d:Option Tmp)(v:Aa):(putT t d v).length=t.length:=by cases d<;>simp[putT]
theorem ATr.fz{f:FuncId}{xs ys:List Aa}{h:Aw}{i:Nat}{R:Aa->Aw->Prop}(aU:(h i).owned=true)(hf:FVl i (h i) xs ys)(H:ATr E P f ys (hset h i (.gone ((h i).ep+1))) R):ATr E P f xs h R:=fun g w vs hh hv=>by obtain⟨H',st⟩:=hh.freeze (id:=i) (h':=hset h i (.gone ((h i).ep+1))) rfl aU (by simp[hset]) (fun j hj=>.inl (by simp[hset,hj]));exact(H _ w vs H' (hf.rvs hh rfl hv)).mono fun _ _ ⟨g',h',r,v,q,e,rv,hr,st'⟩=>⟨g',h',r,v,q,e,rv,hr,st.trans st'⟩
theorem DFz.atr{f:FuncId}{xs:List Aa}{h:Aw}{v:Aa}{rd:List Nat}{out:Option (Nat×Aj)}(H:DFz E P f xs h v rd out){ds:List (Nat×Nat)}(d5:∀D∈ds,h D.1=.dfr D.2):ATr E P f xs h (fun v' h'=>(∀D∈ds,h' D.1=.dfr D.2)/\v'=v/\h'=putH h out):=by
 obtain⟨i,_,h2,⟨rfl,h1,ys,h3,h4⟩|⟨rfl,h4⟩⟩:=H
 ·refine ATr.fz h1 h3 ((h4 _).mono ?_);rintro v' h' ⟨rfl,rfl⟩;refine⟨fun D hD=>?_,rfl,rfl⟩;show(if D.1=i then _ else h D.1)=_;rw[Ak (fun e=>by rw[<-e,d5 D hD]at h2;exact h2)];exact d5 D hD
 ·refine(h4 h).mono ?_;rintro v' h' ⟨rfl,rfl⟩;refine⟨d5,rfl,funext fun j=>?_⟩;show _=if j=i then _ else _;split
  ·rename_i e;rw[e]
  ·rfl
theorem Pc{ops:Array Oper}{o:Oper}{ao:Ay}{S:Av}{v:Aa}{rd:List Nat}{out:Option (Nat×Aj)}(eX:F0 P ops o ao=true)(h:BL E P ao S v rd out){g:Gh}{a:Act}{w:World}(hs:SR E g S a w){Q:Exit->Act->World->Prop}{K:Act->World->Prop} (hK:∀g' a' w',SR E g' ⟨putT S.t ao.dst v,putH S.h out,S.ds⟩ a' w'->Stp g S.h w g' (putH S.h out) w'->K a' w') :
  if Region.wanted o (yielded ops a.tmps) then o.wpIn (FW ρ) 0 P a w K Q else(∀f,o.about P w a.eval=some f->(FW ρ).fn f)/\K (a.put o.dst undef) w:=by
 have adj:∀{v':Aa} {out':Option (Nat×Aj)},VEq v' v->OutW S.h out' out->∀g' a' w',SR E g' ⟨putT S.t ao.dst v',putH S.h out',S.ds⟩ a' w'->Stp g S.h w g' (putH S.h out') w'->K a' w':=fun hv ho g' a' w' bj st =>
  hK g' a' w' (bj.veq (S:=S) (by simp[qzu4]) (qz25 hv) ho.put) (st.oeq ho.put)
 have run:aop E P ao S (fun S'=>∃v' out',VEq v' v/\OutW S.h out' out/\S'=⟨putT S.t ao.dst v',putH S.h out',S.ds⟩)->if Region.wanted o (yielded ops a.tmps) then o.wpIn (FW ρ) 0 P a w K Q else(∀f,o.about P w a.eval=some f->(FW ρ).fn f)/\K (a.put o.dst undef) w:=by
  intro h0;have h1:=LO (ρ:=ρ) (Q:=Q) eX h0 hs;have imp:∀a' w',(∃g' S',(∃v' out',VEq v' v/\OutW S.h out' out/\S'=⟨putT S.t ao.dst v',putH S.h out',S.ds⟩)/\SR E g' S' a' w'/\Stp g S.h w g' S'.h w')->K a' w':=by rintro a' w' ⟨g',_,⟨v',out',hv,ho,rfl⟩,bj,st⟩;exact adj hv ho g' a' w' bj st
  split at h1
  ·rename_i hw;rw[An hw];exact Oper.wpIn_mono imp h1
  ·rename_i hw;rw[Ak hw];exact⟨h1.1,imp _ _ h1.2⟩
 rcases h with h|h
 ·exact run (UB hs.dk h)
 ·unfold Dw at h;cases hg:ao.guard with
  |none =>simp only[hg]at h;obtain⟨f,args,aL,h⟩:=h;refine run ?_;unfold aop;simp only[hg,aL];refine(h.atr hs.dk).mono ?_;rintro v' h' ⟨h1,rfl,rfl⟩;exact⟨h1,_,out,.refl _,.refl _,rfl⟩
  |some y =>
   obtain⟨tg,want⟩:=y;simp only[hg]at h;obtain⟨c,x,hc,rfl,hn,h⟩:=h;rcases h with ⟨f,args,aL,h⟩|⟨du,h⟩
   ·refine run ?_;unfold aop;simp only[hg,hc,aL,LL];refine .inr ⟨fun e=>⟨(h e).1,((h e).2.atr hs.dk).mono ?_⟩,fun e=>?_⟩
    ·rintro v' h' ⟨h1,rfl,rfl⟩;subst e;exact⟨h1,_,out,.refl _,.refl _,rfl⟩
    ·subst e;exact⟨_,none,.cnd (fun e=>by cases e),by rw[hn rfl];trivial,rfl⟩
   ·obtain⟨hk,ew⟩:=Uz eX;have cq:=hk.dst;refine Ux (E:=E) (ρ:=ρ) (P:=P) (ops:=ops) (OY ew du) hk hg hc (fun e=>⟨(h e).1,(h e).2.1⟩) g a w S hs (fun _ _=>rfl) (fun _ _=>rfl) K Q (fun g' a' w' h1 h2=>?_);rw[cq]at h1;cases c with
    |false=>exact adj (out':=none) (.cnd (fun e=>by cases e)) (by rw[hn rfl];trivial) g' a' w' h1 h2
    |true=>exact adj (.cnd fun _=>(h rfl).2.2.1) (h rfl).2.2.2.2.1 g' a' w' h1 h2
theorem Pd{t t':List Aa}{l:List Ad}(h:∀x∈CI l,t'.getD x .top=t.getD x .top){y:Ad}(hy:y∈l):Ag E t' y=Ag E t y:=by
 cases y with
 |t n=>exact h n (LJ hy)
 |c v=>rfl
 |g i=>rfl
theorem Kc{t t':List Aa}{l:List Ad}(h:∀x∈CI l,t'.getD x .top=t.getD x .top){y:Ad}(hy:y∈l):argU E t' y=argU E t y:=by
 cases y with
 |t n=>simp only[argU,h n (LJ hy)]
 |c v=>rfl
 |g i=>rfl
theorem Lz{c:Bool}{t t':List Aa}:∀{l:List Ad},(∀x∈CI l,t'.getD x .top=t.getD x .top)->Ca c t l->Ca c t' l
 |[],_,h=>h
 |.t n :: r,hx,h=>⟨by rw[hx n (by simp[CI])];exact h.1,Lz (fun x oh=>hx x (by simp[CI,oh])) h.2⟩
 |.c v :: r,hx,h=>Lz (l:=r) hx h
 |.g i :: r,hx,h=>Lz (l:=r) hx h
theorem UC{c:Bool}{t t':List Aa}{o:Al}(hx:∀x∈CI o.args,t'.getD x .top=t.getD x .top)(h:o.unAll E c t):o.unAll E c t':=by
 by_cases jm:∃x y z,o=.pick x y z
 ·obtain⟨x,y,z,rfl⟩:=jm;simp only[Al.unAll]at h |-;have sub:∀u,u∈[x,y,z]->∀n∈CI [u],t'.getD n .top=t.getD n .top:=fun u hu n hn=>hx n (LJ (by have:=JZ hn;simp only[AL,H8,HB]at this;rw[this];exact hu));refine⟨Lz (sub x (by simp)) h.1,?_⟩;rw[Kc (l:=[x]) (sub x (by simp)) (by simp)];have h2:=h.2;split at h2
  ·exact⟨Lz (sub y (by simp)) h2.1,Lz (sub z (by simp)) h2.2⟩
  ·exact h2.elim
 ·cases o<;>first|exact Lz hx h|exact absurd ⟨_,_,_,rfl⟩ jm
theorem Pe{t t':List Aa}{l m:List Ad}(h:∀x∈CI l,t'.getD x .top=t.getD x .top)(hm:∀y∈m,y∈l):m.map (Ag E t')=m.map (Ag E t) :=
 H7 fun y hy=>Pd h (hm y hy)
theorem Pf{t t':List Aa}{l m:List Ad}(h:∀x∈CI l,t'.getD x .top=t.getD x .top)(hm:∀y∈m,y∈l):m.map (argU E t')=m.map (argU E t) :=
 H7 fun y hy=>Kc h (hm y hy)
theorem DFz.agree{f:FuncId}{xs:List Aa}{h h':Aw}{v:Aa}{rd:List Nat}{out:Option (Nat×Aj)}(H:DFz E P f xs h v rd out)(hh:∀j∈rd,h' j=h j):DFz E P f xs h' v rd out:=by obtain⟨i,hi,H⟩:=H;exact⟨i,hi,by rw[hh i hi];exact H⟩
theorem OutW.agree{h h':Aw}{rd:List Nat}(hh:∀j∈rd,h' j=h j):∀{a b:Option (Nat×Aj)},(∀i ob,a=some (i,ob)->i∈rd)->(∀i ob,b=some (i,ob)->i∈rd)->OutW h a b->OutW h' a b
 |none,none,_,_,H=>H
 |some (i,o'),some (j,o),_,_,H=>H
 |none,some (j,o),_,hb,H=>by show OEq (h' j) o;rw[hh j (hb _ _ rfl)];exact H
 |some (i,o'),none,ha,_,H=>by show o'=h' i;rw[hh i (ha _ _ rfl)];exact H
theorem Dw.agree{o:Ay}{S S':Av}{v:Aa}{rd:List Nat}{out:Option (Nat×Aj)}(h:Dw E P o S v rd out)(ht:∀x∈looks o,S'.t.getD x .top=S.t.getD x .top)(hh:∀j∈rd,S'.h j=S.h j):Dw E P o S' v rd out:=by
 have cY:∀x∈CI o.op.args,S'.t.getD x .top=S.t.getD x .top:=fun x hx=>ht x (List.mem_append_right _ hx);unfold Dw at h |-;cases hg:o.guard with
 |none =>simp only[hg]at h |-;obtain⟨f,args,aL,h⟩:=h;rw[aL]at cY;exact⟨f,args,aL,by rw[Pe (l:=args) cY (fun y hy=>hy)];exact h.agree hh⟩
 |some y =>
  obtain⟨tg,want⟩:=y;simp only[hg]at h |-;obtain⟨c,x,hc,hv,hn,h⟩:=h;refine⟨c,x,by rw[ht tg (by simp[looks,hg])];exact hc,hv,hn,?_⟩;rcases h with ⟨f,args,aL,h⟩|⟨du,h⟩
  ·rw[aL]at cY;exact .inl ⟨f,args,aL,fun e=>⟨Lz cY (h e).1,by rw[Pf (l:=args) cY (fun y hy=>hy)];exact(h e).2.agree hh⟩⟩
  ·refine .inr ⟨du,fun e=>?_⟩;obtain⟨h0,h1,h2,h3,h4,h5⟩:=h e;rw[JP (ar':=argU E S.t) _ (fun y hy=>Kc cY hy),JR _ h1 (fun j hj=>hh j (h3 j hj))];exact⟨UC cY h0,h1,h2,h3,h4.agree hh (fun i ob e=>h3 _ (HV _ h1 e).2) h5,h5⟩
theorem Dw.rd{o:Ay}{S:Av}{v:Aa}{rd:List Nat}{i:Nat}{ob:Aj}(h:Dw E P o S v rd (some (i,ob))):i∈rd:=by
 have fz:∀{f xs h v},DFz E P f xs h v rd (some (i,ob))->i∈rd:=fun H=>by obtain⟨j,hj,_,⟨e,_⟩|⟨e,_⟩⟩:=H<;>(cases e;exact hj)
 unfold Dw at h;cases hg:o.guard with
 |none=>simp only[hg]at h;obtain⟨f,args,_,h⟩:=h;exact fz h
 |some y =>
  obtain⟨tg,want⟩:=y;simp only[hg]at h;obtain⟨c,x,_,_,hn,h⟩:=h;cases c with
  |false=>cases hn rfl
  |true =>
   rcases h with ⟨f,args,_,h⟩|⟨_,h⟩
   ·exact fz (h rfl).2
   ·exact(h rfl).2.2.2.2.2 _ _ rfl
theorem BG.agree{o:Ay}{S S':Av}{v:Aa}{rd:List Nat}{out:Option (Nat×Aj)}(h:BG E P o S v rd out)(ht:∀x∈looks o,S'.t.getD x .top=S.t.getD x .top)(hh:∀j∈rd,S'.h j=S.h j):BG E P o S' v rd out:=by
 have cY:∀x∈CI o.op.args,S'.t.getD x .top=S.t.getD x .top:=fun x hx=>ht x (List.mem_append_right _ hx);unfold BG at h |-;cases hg:o.guard with
 |none =>
  simp only[hg]at h |-;cases aL:o.op<;>simp only[aL]at h cY |-
  case callf f args =>rw[Pe (l:=args) cY (fun y hy=>hy)];exact⟨h.1.agree hh,h.2⟩
  case callv x args =>rw[Pd (l:=x :: args) cY (BI ..),Pe (l:=x :: args) cY (fun y hy=>CG _ hy)];obtain⟨⟨f,nb,caps,h1,h2,h3⟩,h4⟩:=h;exact⟨⟨f,nb,caps,h1,h2,h3.agree hh⟩,h4⟩
  all_goals
   obtain⟨h1,h2,h3,h4,h5⟩:=h;rw[JP (ar':=Ag E S.t) _ (fun y hy=>Pd cY hy),JR _ h1 (fun j hj=>hh j (h3 j hj))];refine⟨h1,h2,h3,?_,h5⟩;revert h4;generalize ho:(Al.req _ (Ag E S.t) S.h).out=o';intro h4;cases o' with
   |none =>
    cases out with
    |none=>trivial
    |some q=>show OEq (S'.h q.1) q.2;rw[hh q.1 (h5 q.1 q.2 rfl)];exact h4
   |some p =>
    cases out with
    |none=>show p.2=S'.h p.1;rw[hh p.1 (h3 _ (HV _ h1 ho).2)];exact h4
    |some q=>exact h4
 |some y =>
  obtain⟨tg,want⟩:=y;simp only[hg]at h |-;obtain⟨c,x,hc,hv,ho,h⟩:=h;refine⟨c,x,by rw[ht tg (by simp[looks,hg])];exact hc,hv,ho,?_⟩;cases aL:o.op<;>simp only[aL]at h cY |-
  case callf f args =>intro e;rw[Pf (l:=args) cY (fun y hy=>hy)];exact⟨Lz cY (h e).1,(h e).2.agree hh⟩
  case callv x args =>intro e;obtain⟨f,nb,caps,h1,h2,h3,h4⟩:=h e;refine⟨f,nb,caps,by rw[Kc (l:=x :: args) cY (BI ..)];exact h1,h2,?_⟩;rw[Pf (l:=x :: args) cY (fun y hy=>CG _ hy)];exact⟨Lz (l:=x :: args) cY h3,h4.agree hh⟩
  all_goals
   refine⟨h.1,fun e=>?_⟩;obtain⟨h0,h1,h2,h3⟩:=h.2 e;rw[JP (ar':=argU E S.t) _ (fun y hy=>Kc cY hy),JR _ h1 (fun j hj=>hh j (h3 j hj))];exact⟨UC cY h0,h1,h2,h3⟩
theorem BG.rd{o:Ay}{S:Av}{v:Aa}{rd:List Nat}{i:Nat}{ob:Aj}(h:BG E P o S v rd (some (i,ob))):i∈rd:=by
 unfold BG at h;cases hg:o.guard with
 |none =>
  simp only[hg]at h;cases aL:o.op<;>simp only[aL]at h
  case callf f args=>exact absurd h.2 (by simp)
  case callv x args=>exact absurd h.2 (by simp)
  all_goals
   exact h.2.2.2.2 _ _ rfl
 |some y =>obtain⟨tg,want⟩:=y;simp only[hg]at h;obtain⟨c,x,_,_,ho,_⟩:=h;cases ho
theorem BL.agree{o:Ay}{S S':Av}{v:Aa}{rd:List Nat}{out:Option (Nat×Aj)}(h:BL E P o S v rd out)(ht:∀x∈looks o,S'.t.getD x .top=S.t.getD x .top)(hh:∀j∈rd,S'.h j=S.h j):BL E P o S' v rd out:=h.imp (fun h=>h.agree ht hh) (fun h=>h.agree ht hh)
theorem BL.rd{o:Ay}{S:Av}{v:Aa}{rd:List Nat}{i:Nat}{ob:Aj}(h:BL E P o S v rd (some (i,ob))):i∈rd:=h.elim (fun h=>h.rd) (fun h=>h.rd)
end
def yzq{V:Type}(L:Nat->Bool)(dst:Nat->Option Nat)(val:Nat->V)(x:Nat)(b:V):Nat->V
 |0=>b
 |k+1=>if L k=true/\dst k=some x then val k else yzq L dst val x b k
section
variable {V:Type}{L L':Nat->Bool}{dst:Nat->Option Nat}{val:Nat->V}{x:Nat}{b:V}
theorem yzr:∀(k:Nat),(∀j,j<k->dst j=some x->L j=L' j)->yzq L dst val x b k=yzq L' dst val x b k
 |0,_=>rfl
 |k+1,h=>by
  simp only[yzq];rw[yzr k (fun j hj=>h j (by omega))];by_cases e:dst k=some x
  ·rw[h k (by omega) e]
  ·simp[e]
theorem Pg{i:Nat}(hL:∀j,L' j=(L j||j==i))(eZ:L i=false):∀(n:Nat),i<n->(dst i=some x->∀j,i<j->j<n->L j=true->dst j≠some x) ->
  yzq L' dst val x b n=if dst i=some x then val i else yzq L dst val x b n
 |0,h,_=>by omega
 |k+1,h,hd=>by
  by_cases e:k=i
  ·subst e
   have h1:yzq L' dst val x b k=yzq L dst val x b k:=yzr k fun j hj _=>by
    rw[hL j];have:(j==k)=false:=by simp;omega
    rw[this,L3]
   simp only[yzq,hL k,eZ,h1];simp
  ·have hk:i<k:=by omega
   have ek:(k==i)=false:=by simp[e]
   simp only[yzq,hL k,ek,L3];rw[Pg hL eZ k hk (fun hx j h1 h2=>hd hx j h1 (by omega))];by_cases hc:L k=true/\dst k=some x
   ·simp only[hc,and_self,Cn];have:dst i≠some x:=fun hx=>hd hx k hk (by omega) hc.1 hc.2;simp[this]
   ·simp only[hc,Dk]
theorem UD{n:Nat}(h:∀j,L j=false):yzq L dst val x b n=b:=by
 induction n with
 |zero=>rfl
 |succ k ih=>simp[yzq,h k,ih]
end
def C0(m:List Ay)(k:Nat):Option Tmp:=(m[k]?).bind (·.dst)
def Bu(O:Nat->Option (Nat×Aj))(k:Nat):Option Nat:=(O k).map (·.1)
def GW(O:Nat->Option (Nat×Aj))(k:Nat):Aj:=((O k).map (·.2)).getD (.gone 0)
def stL(m:List Ay)(V:Nat->Aa)(O:Nat->Option (Nat×Aj))(S:Av)(n:Nat)(L:Nat->Bool):Av := ⟨(List.range S.t.length).map (fun x=>yzq L (C0 m) V x (S.t.getD x .top) n),fun id=>yzq L (Bu O) (GW O) id (S.h id) n,S.ds⟩
def Kd(S:Av)(d:Option Tmp)(v:Aa)(out:Option (Nat×Aj)):Av:=⟨putT S.t d v,putH S.h out,S.ds⟩
def lx(m:List Ay)(V:Nat->Aa)(O:Nat->Option (Nat×Aj))(S:Av):Nat->Av
 |0=>S
 |k+1=>Kd (lx m V O S k) (C0 m k) (V k) (O k)
theorem Av.eq{S S':Av}(a:S.t=S'.t)(b:S.h=S'.h)(c:S.ds=S'.ds):S=S':=by cases S;cases S';simp only at a b c;subst a;subst b;subst c;rfl
section
variable {m:List Ay}{V:Nat->Aa}{O:Nat->Option (Nat×Aj)}{S:Av}{n:Nat}
theorem wzdu(L:Nat->Bool):(stL m V O S n L).t.length=S.t.length:=by simp[stL]
theorem UE(L:Nat->Bool)(x:Nat):(stL m V O S n L).t.getD x .top=if x<S.t.length then yzq L (C0 m) V x (S.t.getD x .top) n else .top:=by by_cases h:x<S.t.length<;>simp[stL,h]
theorem LQ(L:Nat->Bool)(x:Nat):(stL m V O S n L).t[x]?=if x<S.t.length then some (yzq L (C0 m) V x (S.t.getD x .top) n) else none:=by by_cases h:x<S.t.length<;>simp[stL,h]
theorem UF{L L':Nat->Bool}{i:Nat}(hL:∀j,L' j=(L j||j==i))(eZ:L i=false)(aQ:i<n)(ht:∀x,C0 m i=some x->∀j,i<j->j<n->L j=true->C0 m j≠some x)(hh:∀x,Bu O i=some x->∀j,i<j->j<n->L j=true->Bu O j≠some x):stL m V O S n L'=Kd (stL m V O S n L) (C0 m i) (V i) (O i):=by
 have et:(stL m V O S n L').t=putT (stL m V O S n L).t (C0 m i) (V i):=by
  refine JE fun x=>?_;have key:=Pg (val:=V) (b:=S.t.getD x .top) hL eZ n aQ (fun e=>ht x e);rw[LQ];cases hd:C0 m i with
  |none =>
   rw[hd]at key;have key':yzq L' (C0 m) V x (S.t.getD x .top) n=yzq L (C0 m) V x (S.t.getD x .top) n:=by simpa using key
   simp only[putT,LQ,key']
  |some d =>
   rw[hd]at key;simp only[putT,J7,LQ,wzdu];by_cases e:d=x
   ·subst e;simp only[Cn]at key |-;rw[key]
   ·have:¬(some d=some x):=fun h=>e (by injection h);simp only[this,Dk]at key;simp only[e,Dk,key]
 have eh:(stL m V O S n L').h=putH (stL m V O S n L).h (O i):=by
  funext id;have key:=Pg (val:=GW O) (b:=S.h id) hL eZ n aQ (fun e=>hh id e);show yzq L' (Bu O) (GW O) id (S.h id) n=_;rw[key];cases hO:O i with
  |none=>simp[Bu,hO,putH,stL]
  |some y =>
   obtain⟨d,ob⟩:=y;by_cases e:d=id
   ·subst e;simp[Bu,GW,hO,putH,hset]
   ·have:¬id=d:=fun h=>e h.symm;simp[Bu,GW,hO,putH,hset,stL,e,this]
 exact Av.eq et eh rfl
theorem HY:∀(k:Nat),k<=n->stL m V O S n (fun j=>decide (j<k))=lx m V O S k
 |0,_=>by
  have e0:∀j,(decide (j<0))=false:=fun j=>by simp
  have et:(stL m V O S n (fun j=>decide (j<0))).t=S.t:=by
   refine JE fun x=>?_;rw[LQ,UD e0];by_cases h:x<S.t.length
   ·simp[h]
   ·rw[Ak h,JG (by omega)]
  have eh:(stL m V O S n (fun j=>decide (j<0))).h=S.h:=by funext id;exact UD e0
  exact Av.eq et eh rfl
 |k+1,h=>by
  have hL:∀j,decide (j<k+1)=(decide (j<k)||j==k):=fun j=>by
   by_cases e:j=k
   ·simp[e]
   ·have:decide (j<k+1)=decide (j<k):=(by simp only[decide_eq_decide];omega);simp[e,this]
  rw[UF (L:=fun j=>decide (j<k)) (i:=k) hL (by simp) (by omega) (fun x _ j h1 _ h3=>by simp at h3;omega) (fun x _ j h1 _ h3=>by simp at h3;omega),HY k (by omega)];rfl
theorem UG:stL m V O S n (fun _=>true)=lx m V O S n:=by
 rw[<-HY n (AC n)];have et:(stL m V O S n (fun _=>true)).t=(stL m V O S n (fun j=>decide (j<n))).t:=by refine H7 fun x _=>yzr n fun j hj _=>by simp[hj]
 have eh:(stL m V O S n (fun _=>true)).h=(stL m V O S n (fun j=>decide (j<n))).h:=by funext id;exact yzr n fun j hj _=>by simp[hj]
 exact Av.eq et eh rfl
end
structure Ph(E:Nat->Aa)(P:Program)(m:List Ay)(preds:List (List Nat))(S:Av)(n:Nat)(V:Nat->Aa)(R:Nat->List Nat)(O:Nat->Option (Nat×Aj))(i j id:Nat):Prop where
 lt:j<i
 no:O j=none
 rd:∀k∈R j,k=id
 ord:∀l,l<n->l≠i->l≠j->Bu O l=some id->l∈preds.getD j []\/j∈preds.getD l []
 step:∀o,m[j]?=some o->∀S':Av,(∀x∈looks o,S'.t.getD x .top=(lx m V O S j).t.getD x .top)->S'.h id=GW O i->BL E P o S' (V j) (R j) (O j)
structure HZ(E:Nat->Aa)(P:Program)(m:List Ay)(preds:List (List Nat))(S:Av)(n:Nat)(V:Nat->Aa)(R:Nat->List Nat)(O:Nat->Option (Nat×Aj)):Prop where
 len:m.length=n
 lex:∀k o,m[k]?=some o->BL E P o (lx m V O S k) (V k) (R k) (O k)
 lt:∀i j,j∈preds.getD i []->j<i
 slots:∀i j oi oj d,m[i]?=some oi->m[j]?=some oj->i≠j->j∉preds.getD i []->i∉preds.getD j []->oi.dst=some d->d∉looks oj/\oj.dst≠some d
 heap:∀i j id,i<n->j<n->i≠j->j∉preds.getD i []->i∉preds.getD j []->Bu O i=some id->id∉R j\/Ph E P m preds S n V R O i j id
section
variable {E:Nat->Aa}{P:Program}{ρ:Option Nat}{m:List Ay}{preds:List (List Nat)}{S:Av}{n:Nat}{V:Nat->Aa}{R:Nat->List Nat}{O:Nat->Option (Nat×Aj)}
theorem Pi{V:Type}{L:Nat->Bool}{dst:Nat->Option Nat}{val:Nat->V}{x i:Nat}{b:V}(hL:L i=true)(hd:dst i=some x):∀(n:Nat),i<n->(∀l,l<n->i<l->dst l=some x->L l=false)->yzq L dst val x b n=val i
 |0,h,_=>by omega
 |n+1,h,hl=>by
  unfold yzq;by_cases e:n=i
  ·subst e;simp[hL,hd]
  ·have h1:i<n:=by omega
   by_cases ki:dst n=some x
   ·have:=hl n (by omega) h1 ki;simp[this];exact Pi hL hd n h1 fun l q1 q2 q3=>hl l (by omega) q2 q3
   ·simp[ki];exact Pi hL hd n h1 fun l q1 q2 q3=>hl l (by omega) q2 q3
theorem HZ.at(D:HZ E P m preds S n V R O){L:Nat->Bool}(hc:∀j,L j=true->∀p∈preds.getD j [],L p=true){i:Nat}{o:Ay}(hi:m[i]?=some o)(eZ:L i=false)(hp:∀p∈preds.getD i [],L p=true) :
  BL E P o (stL m V O S n L) (V i) (R i) (O i)/\∀L':Nat->Bool,(∀j,L' j=(L j||j==i))->stL m V O S n L'=Kd (stL m V O S n L) o.dst (V i) (O i):=by
 have aQ:i<n:=by rw[<-D.len];exact(AK.1 hi).1
 have hd:C0 m i=o.dst:=by simp[C0,hi]
 have wit:∀j d,j<n->C0 m j=some d->∃oj,m[j]?=some oj/\oj.dst=some d:=fun j d hj h=>by rw[<-D.len]at hj;refine⟨m[j],AD hj,?_⟩;simpa [C0,AD hj] using h
 have same:∀j,j<n->j≠i->(L j=decide (j<i))\/(j∉preds.getD i []/\i∉preds.getD j []):=fun j hj aJ=>by
  by_cases h1:j∈preds.getD i []
  ·left;rw[hp j h1];have:=D.lt i j h1;simp[this]
  ·by_cases h2:i∈preds.getD j []
   ·left;have:=D.lt j i h2;cases hL:L j with
    |false=>symm;simp;omega
    |true=>have:=hc j hL i h2;rw[eZ]at this;cases this
   ·exact .inr ⟨h1,h2⟩
 have slots:∀x∈looks o,(stL m V O S n L).t.getD x .top=(lx m V O S i).t.getD x .top:=fun x hx=>by
  rw[<-HY (n:=n) i (by omega),UE,UE];split
  ·refine yzr n fun j hj eI=>?_;by_cases e:j=i
   ·subst e;rw[eZ];simp
   ·rcases same j hj e with h|⟨h1,h2⟩;·exact h
    ·obtain⟨oj,iJ,gO⟩:=wit j x hj eI;exact absurd hx (D.slots j i oj o x iJ hi e h2 h1 gO).1
  ·rfl
 constructor
 ·by_cases gy:∃j id,j<n/\L j=true/\id∈R i/\Bu O j=some id/\Ph E P m preds S n V R O j i id
  ·obtain⟨j,id,hj,lj,hid,eI,sf⟩:=gy;refine sf.step o hi _ slots ?_;refine Pi lj eI n hj fun l hl mN om=>?_;by_cases e:l=i
   ·rw[e];exact eZ
   ·rcases sf.ord l hl (by omega) e om with h|h;·have:=D.lt i l h;have:=sf.lt;omega
    ·cases ot:L l with
     |false=>rfl
     |true=>have:=hc l ot i h;rw[eZ]at this;cases this
  ·refine(D.lex i o hi).agree slots (fun id hid=>?_);rw[<-HY (n:=n) i (by omega)];refine yzr n fun j hj eI=>?_;by_cases e:j=i
   ·subst e;rw[eZ];simp
   ·rcases same j hj e with h|⟨h1,h2⟩;·exact h
    ·rcases D.heap j i id hj aQ e h2 h1 eI with h|sf;·exact absurd hid h
     ·have ou:=sf.lt;cases lj:L j with
      |false=>symm;simp;omega
      |true=>exact absurd ⟨j,id,hj,lj,hid,eI,sf⟩ gy
 ·intro L' bK;rw[<-hd];refine UF bK eZ aQ (fun x hx j h1 h2 h3 eI=>?_) (fun x hx j h1 h2 h3 eI=>?_)
  ·rcases same j h2 (by omega) with h|⟨h4,h5⟩;·rw[h3]at h;simp at h;omega
   ·obtain⟨oj,iJ,gO⟩:=wit j x h2 eI;exact(D.slots i j o oj x hi iJ (by omega) h4 h5 (hd▸hx)).2 gO
  ·rcases same j h2 (by omega) with h|⟨h4,h5⟩;·rw[h3]at h;simp at h;omega
   ·have mN:j<m.length:=(by rw[D.len];exact h2);have h6:=D.lex j _ (AD mN);rcases D.heap i j x aQ h2 (by omega) h4 h5 hx with iY|sf
    ·cases hO:O j with
     |none=>simp[Bu,hO]at eI
     |some y =>obtain⟨d,ob⟩:=y;rw[hO]at h6;simp[Bu,hO]at eI;subst eI;exact iY h6.rd
    ·simp[Bu,sf.no]at eI
variable {ops:Array Oper}{Q:Exit->Act->World->Prop}
theorem Em{listed:Array Bool}{i:Nat}:i∈Region.ready .any ops listed↔∃o,ops[i]?=some o/\listed.getD i true=false/\∀e∈o.after.toList,Region.binds .any e=true->listed.getD e.on false=true:=by
 unfold Region.ready;rw[List.mem_filter,GC];constructor
 ·rintro⟨h1,h2⟩;rw[AE]at h2;obtain⟨h2,h3⟩:=h2;have ho:ops[i]?=some ops[i]:=by simp[h1]
  rw[ho]at h3;simp only[Do,Lw,Array.all_eq_true_iff_forall_mem,Fq,FS]at h3;refine⟨_,ho,by simpa using h2,fun e he hb=>?_⟩;rcases h3 e (by simpa using he) with h|h
  ·rw[hb]at h;cases h
  ·exact h
 ·rintro⟨o,ho,h2,h3⟩;refine⟨(CQ.1 ho).1,?_⟩;rw[AE,ho];refine⟨by simp[h2],?_⟩;simp only[Do,Lw,Array.all_eq_true_iff_forall_mem,Fq,FS];intro e he;cases hb:Region.binds .any e with
  |false=>exact .inl rfl
  |true=>exact .inr (h3 e (by simpa using he) hb)
theorem En{listed:Array Bool}{n i:Nat}(hs:listed.size=n)(hi:i<n):listed.getD i true=listed.getD i false:=by subst hs;simp[Array.getD,hi]
theorem qzze(D:HZ E P m preds S n V R O)(hn:ops.size=n)(cN:∀(k:Nat) (o:Oper),ops[k]?=some o->∃ao,m[k]?=some ao/\F0 P ops o ao=true)(bi:∀(i:Nat) (o:Oper),ops[i]?=some o->∀e∈o.after.toList,Region.binds .any e=true->e.on<i)(bL:∀(i:Nat) (o:Oper),ops[i]?=some o->∀p∈preds.getD i [],∃e∈o.after.toList,Region.binds .any e=true/\(e.on=p\/p∈preds.getD e.on [])) : ∀(fuel:Nat) (listed:Array Bool),listed.size=n->(∀j,listed.getD j false=true->∀p∈preds.getD j [],listed.getD p false=true) -> (∃l:List Nat,(∀j,j<n->listed.getD j false=false->j∈l)/\l.length<=fuel)->∀(g:Gh) (a:Act) (w:World),SR E g (stL m V O S n (fun j=>listed.getD j false)) a w -> (∀g' a' w',SR E g' (lx m V O S n) a' w'->Stp g (stL m V O S n (fun j=>listed.getD j false)).h w g' (lx m V O S n).h w'->Q .normal a' w')->wpAnyIn (FW ρ) 0 P .any ops Q fuel listed a w:=by
 have fin:∀(listed:Array Bool),listed.size=n->(∀j,j<n->listed.getD j false=true)->stL m V O S n (fun j=>listed.getD j false)=lx m V O S n:=fun listed hs h=>by
  rw[<-UG];have et:(stL m V O S n (fun j=>listed.getD j false)).t=(stL m V O S n (fun _=>true)).t:=H7 fun x _=>yzr n fun j hj _=>h j hj;have eh:(stL m V O S n (fun j=>listed.getD j false)).h=(stL m V O S n (fun _=>true)).h:=by funext id;exact yzr n fun j hj _=>h j hj
  exact Av.eq et eh rfl
 have allr:∀(listed:Array Bool),listed.size=n->Region.ready .any ops listed=[]->∀j,j<n->listed.getD j false=true:=fun listed hs hr j=>by
  induction j using Nat.strongRecOn with
  |ind j ih =>
   intro hj;cases hl:listed.getD j false with
   |true=>rfl
   |false =>have fq:j<ops.size:=(by omega);have:j∈Region.ready .any ops listed:=Em.2 ⟨ops[j],by simp[fq],by rw[En hs hj];exact hl,fun e he hb=>ih e.on (bi j _ (by simp[fq]) e he hb) (by have:=bi j ops[j] (by simp[fq]) e he hb;omega)⟩;rw[hr]at this;cases this
 intro fuel;induction fuel with
 |zero =>
  intro listed hs hc hf g a w cy hq;obtain⟨l,hl,aD⟩:=hf;have gz:l=[]:=by cases l<;>simp at aD |-
  have all:∀j,j<n->listed.getD j false=true:=fun j hj=>by
   cases h:listed.getD j false with
   |true=>rfl
   |false=>have:=hl j hj h;rw[gz]at this;cases this
  refine⟨?_,hq g a w (by rw[<-fin listed hs all];exact cy) (by rw[fin listed hs all];exact .refl _ _ _)⟩;cases hr:Region.ready .any ops listed with
  |nil=>rfl
  |cons i r =>
   have hi:i∈Region.ready .any ops listed:=by rw[hr];exact BI ..
   obtain⟨o,ho,h2,_⟩:=Em.1 hi;have aQ:i<n:=by rw[<-hn];exact(CQ.1 ho).1
   rw[En hs aQ,all i aQ]at h2;cases h2
 |succ fuel ih =>
  intro listed hs hc hf g a w cy hq;refine⟨fun hr=>?_,fun i hi=>?_⟩
  ·have all:=allr listed hs hr;exact hq g a w (by rw[<-fin listed hs all];exact cy) (by rw[fin listed hs all];exact .refl _ _ _)
  ·obtain⟨o,ho,h2,h3⟩:=Em.1 hi;have aQ:i<n:=by rw[<-hn];exact(CQ.1 ho).1
   rw[En hs aQ]at h2;obtain⟨ao,jr,eX⟩:=cN i o ho
   have hp:∀p∈preds.getD i [],listed.getD p false=true:=fun p bG=>by
    obtain⟨e,he,hb,h4⟩:=bL i o ho p bG;rcases h4 with rfl|h4
    ·exact h3 e he hb
    ·exact hc e.on (h3 e he hb) p h4
   obtain⟨aH,fu⟩:=D.at (L:=fun j=>listed.getD j false) hc jr h2 hp
   have bK:∀j,(listed.setIfInBounds i true).getD j false=(listed.getD j false||j==i):=fun j=>by
    by_cases e:j=i
    ·subst e;simp[Array.getD,hs,aQ]
    ·have e':¬i=j:=fun h=>e h.symm;by_cases hj:j<listed.size<;>simp[Array.getD,hj,e,e',Za]
   have aM:=fu (fun j=>(listed.setIfInBounds i true).getD j false) bK;unfold wpOpIn;simp only[ho];refine Pc eX aH cy fun g' a' w' bj st=>?_;refine ih _ (by simp[hs]) (fun j hj p bG=>?_) ?_ g' a' w' (by rw[aM];exact bj) (fun g'' a'' w'' aY st''=>hq g'' a'' w'' aY (st.trans (by rw[aM]at st'';exact st'')))
   ·rw[bK]at hj |-;by_cases e:j=i
    ·subst e;rw[hp p bG];rfl
    ·have:listed.getD j false=true:=(by simpa [e] using hj);rw[hc j this p bG];rfl
   ·obtain⟨l,hl,aD⟩:=hf;have fw:=hl i aQ h2;refine⟨l.erase i,fun j hj h=>?_,?_⟩
    ·rw[bK]at h;have aJ:j≠i:=fun e=>by subst e;simp at h
     exact(List.mem_erase_of_ne aJ).2 (hl j hj (by simpa [aJ] using h))
    ·rw[List.length_erase_of_mem fw];omega
end
def GX(ops:List Oper)(preds:List (List Nat)):Bool :=
 preds.length==ops.length&&(List.range ops.length).all fun i=>(preds.getD i []).all fun p=>decide (p<i)&&(match ops[i]? with
  |some o=>o.after.toList.any fun e=>Region.binds .any e&&(e.on==p||(preds.getD e.on []).contains p)
  | none=>false)
def GY:Nat->List Oper->Bool
 |_,[]=>true
 |i,o :: r=>(o.after.toList.all fun e=>!Region.binds .any e||decide (e.on<i))&&GY (i+1) r
def Ia(m:List Ay)(preds:List (List Nat)):Bool :=
 (List.range m.length).all fun i=>(List.range m.length).all fun j=>i==j||(preds.getD i []).contains j||(preds.getD j []).contains i||(match m[i]?,m[j]? with
  |some x,some y=>(match x.dst with | none=>true | some d=>!(looks y).contains d&&y.dst != some d)
  | _,_=>true)
def hpOk(preds:List (List Nat))(tr:List (List Nat×Option Nat)):Bool :=
 (List.range tr.length).all fun i=>match (tr.getD i ([],none)).2 with
  |none=>true
  |some id=>(List.range tr.length).all fun j=>i==j||(preds.getD i []).contains j||(preds.getD j []).contains i||!(tr.getD j ([],none)).1.contains id
def sfOk(m:List Ay)(i j:Nat):Bool:=false
def CV(m:List Ay)(preds:List (List Nat))(tr:List (List Nat×Option Nat)):Bool :=
 (List.range tr.length).all fun i=>match (tr.getD i ([],none)).2 with
  |none=>true
  |some id=>(List.range tr.length).all fun j=>i==j||(preds.getD i []).contains j||(preds.getD j []).contains i||!(tr.getD j ([],none)).1.contains id ||
    (decide (j<i)&&sfOk m i j&&(tr.getD j ([],none)).2==none&&(tr.getD j ([],none)).1.all (fun k=>k==id)&&(List.range tr.length).all fun l=>l==i||l==j||(tr.getD l ([],none)).2 != some id ||
     (((preds.getD j []).contains l||(preds.getD l []).contains j)&&!(decide (j<l)&&decide (l<i))))
theorem jzh0{m:List Ay}{preds:List (List Nat)}{tr:List (List Nat×Option Nat)}(h:hpOk preds tr=true):CV m preds tr=true:=by
 unfold hpOk at h;unfold CV;simp only[GA,GC]at h |-;intro i hi;have:=h i hi;split
 ·rfl
 ·rename_i id hid;rw[hid]at this;simp only[GA,GC]at this |-;intro j hj;have:=this j hj;rw[this];rfl
def LR(E:Nat->Aa)(P:Program)(f:FuncId)(args:List Aa)(h:Aw)(K:Aa->List Nat->Prop):Prop:=∃v rd,Cz E P f args h rd v/\K v rd
def kzb(E:Nat->Aa)(P:Program)(c:Bool)(t:List Aa)(xs:List Ad)(f:FuncId)(args:List Aa)(h:Aw)(K:Aa->List Nat->Prop):Prop:=∃v rd,(c=true->Ca c t xs/\Cz E P f args h rd v)/\K (.cnd c v) rd
def dop(E:Nat->Aa)(P:Program)(o:Ay)(S:Av)(K:Aa->List Nat->Option (Nat×Aj)->Prop):Prop :=
 match o.guard with
 |none=>match o.op with
  |.callf f args=>LR E P f (args.map (Ag E S.t)) S.h (fun v rd=>K v rd none)
  |.callv x args=>match Ag E S.t x with
   |.fn f nb caps=>CD P f=true/\LR E P f (fnArgs nb (args.map (Ag E S.t)) caps) S.h (fun v rd=>K v rd none)
   |_=>False
  |op=>(op.req (Ag E S.t) S.h).ok/\K (op.req (Ag E S.t) S.h).v (op.req (Ag E S.t) S.h).rd (op.req (Ag E S.t) S.h).out
 |some (tg,want)=>match Co (S.t.getD tg .top) want with
  |none=>False
  |some c=>match o.op with
   |.callf f args=>kzb E P c S.t args f (args.map (argU E S.t)) S.h (fun v rd=>K v rd none)
   | .callv y args=>(c=false->K (.cnd false .top) [] none)/\(c=true->match argU E S.t y with
    |.fn f nb caps=>CD P f=true/\kzb E P c S.t (y :: args) f (fnArgs nb (args.map (argU E S.t)) caps) S.h (fun v rd=>K v rd none)
    | _=>False)
   |op=>op.quiet=true/\(c=true->op.unAll E c S.t/\(op.req (argU E S.t) S.h).ok)/\K (.cnd c (op.req (argU E S.t) S.h).v) (bif c then(op.req (argU E S.t) S.h).rd else []) none
def dreg(E:Nat->Aa)(P:Program):List Ay->Av->(Av->List (List Nat×Option Nat)->Prop)->Prop
 |[],S,K=>K S []
 |o :: r,S,K=>dop E P o S (fun v rd out=>dreg E P r ⟨putT S.t o.dst v,putH S.h out,S.ds⟩ (fun S' tr=>K S' ((rd,out.map (·.1)) :: tr)))
section
variable {E:Nat->Aa}{P:Program}{ρ:Option Nat}
theorem qz3y{o:Ay}{S:Av}{K:Aa->List Nat->Option (Nat×Aj)->Prop}(h:dop E P o S K):∃v rd out,BL E P o S v rd out/\K v rd out:=by
 suffices ∃v rd out,BG E P o S v rd out/\K v rd out by obtain⟨v,rd,out,h1,h2⟩:=this;exact⟨v,rd,out,.inl h1,h2⟩
 unfold dop at h;simp only[LR,kzb]at h;unfold BG;cases hg:o.guard with
 |none =>
  simp only[hg]at h |-;cases aL:o.op<;>simp only[aL]at h |-
  case callf f args=>obtain⟨v,rd,h1,h2⟩:=h;exact⟨v,rd,none,⟨h1,rfl⟩,h2⟩
  case callv x args =>
   cases hx:Ag E S.t x<;>simp only[hx]at h
   case fn f nb caps=>obtain⟨he,v,rd,h1,h2⟩:=h;exact⟨v,rd,none,⟨⟨f,nb,caps,rfl,he,h1⟩,rfl⟩,h2⟩
  all_goals exact⟨_,_,_,⟨h.1,.refl _,fun _ hj=>hj,.refl _,fun i ob e=>(HV _ h.1 e).2⟩,h.2⟩
 |some y =>
  obtain⟨tg,want⟩:=y;simp only[hg]at h |-;cases hc:Co (S.t.getD tg .top) want with
  |none=>simp only[hc]at h
  |some c =>
   simp only[hc]at h;cases aL:o.op<;>simp only[aL]at h |-
   case callf f args=>obtain⟨v,rd,h1,h2⟩:=h;exact⟨_,rd,none,⟨c,v,rfl,rfl,rfl,h1⟩,h2⟩
   case callv x args =>
    cases c with
    |false=>exact⟨_,[],none,⟨false,.top,rfl,rfl,rfl,fun e=>by cases e⟩,h.1 rfl⟩
    |true =>
     have h:=h.2 rfl;cases hx:argU E S.t x<;>simp only[hx]at h
     case fn f nb caps=>obtain⟨he,v,rd,h1,h2⟩:=h;exact⟨_,rd,none,⟨true,v,rfl,rfl,rfl,fun _=>⟨f,nb,caps,rfl,he,(h1 trivial).1,(h1 trivial).2⟩⟩,h2⟩
   all_goals exact⟨_,_,none,⟨c,_,rfl,rfl,rfl,h.1,fun e=>⟨(h.2.1 e).1,(h.2.1 e).2,.refl _,by subst e;exact fun _ hj=>hj⟩⟩,h.2.2⟩
theorem Ke(o:Ay)(l:List Ay)(V:Nat->Aa)(O:Nat->Option (Nat×Aj))(S:Av):∀k,lx (o :: l) V O S (k+1)=lx l (fun k=>V (k+1)) (fun k=>O (k+1)) (Kd S o.dst (V 0) (O 0)) k
 |0=>rfl
 |k+1=>by have ih:=Ke o l V O S k;show Kd (lx (o :: l) V O S (k+1)) (C0 (o :: l) (k+1)) (V (k+1)) (O (k+1))=_;rw[ih];rfl
theorem UH:∀(l:List Ay) (S:Av) (K:Av->List (List Nat×Option Nat)->Prop),dreg E P l S K -> ∃(V:Nat->Aa) (R:Nat->List Nat) (O:Nat->Option (Nat×Aj)),(∀k o,l[k]?=some o->BL E P o (lx l V O S k) (V k) (R k) (O k))/\K (lx l V O S l.length) ((List.range l.length).map fun k=>(R k,Bu O k))
 |[],S,K,h=>⟨fun _=>.top,fun _=>[],fun _=>none,fun k o h=>by simp at h,h⟩
 |o :: l,S,K,h=>by
  obtain⟨v,rd,out,h1,h2⟩:=qz3y h;obtain⟨V,R,O,h3,h4⟩:=UH l _ _ h2;refine⟨fun k=>match k with | 0=>v | k+1=>V k,fun k=>match k with | 0=>rd | k+1=>R k,fun k=>match k with | 0=>out | k+1=>O k,fun k ok hk=>?_,?_⟩
  ·cases k with
   |zero=>simp at hk;subst hk;exact h1
   |succ k =>rw[Ke];exact h3 k ok (by simpa using hk)
  ·rw[E7,Ke,List.range_succ_eq_map,JH,List.map_map];exact h4
theorem LS{ops:Array Oper}:∀{l:List Oper} {m:List Ay},yzf P ops l m=true->m.length=l.length/\∀(k:Nat) (o:Oper),l[k]?=some o->∃ao,m[k]?=some ao/\F0 P ops o ao=true
 |[],[],_=>⟨rfl,fun k o h=>by simp at h⟩
 |o :: l,a :: m,h=>by
  simp only[yzf,AE]at h;obtain⟨h1,h2⟩:=LS h.2;refine⟨by simp[h1],fun k o' hk=>?_⟩;cases k with
  |zero=>simp at hk;subst hk;exact⟨a,rfl,h.1⟩
  |succ k=>exact h2 k o' (by simpa using hk)
 |[],_ :: _,h=>by cases h
 |_ :: _,[],h=>by cases h
theorem LT:∀{l:List Oper} {n:Nat},GY n l=true->∀(i:Nat) (o:Oper),l[i]?=some o->∀e∈o.after.toList,Region.binds .any e=true->e.on<n+i
 |[],_,_,i,o,h,_,_,_=>by simp at h
 |x :: l,n,h,i,o,ho,e,he,hb=>by
  simp only[GY,AE,GA,Fq,FS,Bp]at h;cases i with
  |zero =>
   simp at ho;subst ho;rcases h.1 e he with h1|h1
   ·rw[hb]at h1;cases h1
   ·exact h1
  |succ i =>have:=LT h.2 i o (by simpa using ho) e he hb;omega
theorem jzbm{m:List Ay}{S:Av}{V:Nat->Aa}{R:Nat->List Nat}{O:Nat->Option (Nat×Aj)}{i j id:Nat}(dC:∀k o,m[k]?=some o->BL E P o (lx m V O S k) (V k) (R k) (O k))(hs:sfOk m i j=true)(ou:j<i)(c9:O j=none)(hi:Bu O i=some id) (hrd:∀k∈R j,k=id) (ov:∀l,j<l->l<i->Bu O l≠some id) : ∀o,m[j]?=some o->∀S':Av,(∀x∈looks o,S'.t.getD x .top=(lx m V O S j).t.getD x .top)->S'.h id=GW O i->BL E P o S' (V j) (R j) (O j):=by unfold sfOk at hs;cases hs
theorem UI{m:List Ay}{preds:List (List Nat)}{S:Av}{V:Nat->Aa}{R:Nat->List Nat}{O:Nat->Option (Nat×Aj)}(dC:∀k o,m[k]?=some o->BL E P o (lx m V O S k) (V k) (R k) (O k))(iK:CV m preds ((List.range m.length).map fun k=>(R k,Bu O k))=true):∀i j id,i<m.length->j<m.length->i≠j->j∉preds.getD i []->i∉preds.getD j []->Bu O i=some id->id∉R j\/Ph E P m preds S m.length V R O i j id:=by
 simp only[CV,GA,GC,J8,O4]at iK;intro i j id hi hj aJ h1 h2 hid;have at':∀l,l<m.length->((List.range m.length).map fun k=>(R k,Bu O k)).getD l ([],none)=(R l,Bu O l):=fun l hl=>by simp[List.getD,hl]
 have:=iK i hi;rw[at' i hi]at this;simp only[hid,GA,GC]at this;have:=this j hj;rw[at' j hj]at this;have h1':(preds.getD i []).contains j=false:=by simpa using h1
 have fT:(preds.getD j []).contains i=false:=by simpa using h2
 have lk:(i==j)=false:=by simpa using aJ
 simp only[h1',fT,lk,Bool.false_or,Fq,AE,Bp,Bt,GA,GC,FS,Bool.not_eq_true]at this;rcases this with h|⟨⟨⟨⟨k1,k2⟩,k3⟩,k4⟩,k5⟩
 ·exact .inl (by simpa using h)
 ·refine .inr ?_;have c9:O j=none:=by cases hO:O j with | none=>rfl | some y=>simp[Bu,hO]at k3
  have ord:∀l,l<m.length->l≠i->l≠j->Bu O l=some id->(l∈preds.getD j []\/j∈preds.getD l [])/\¬(j<l/\l<i):=fun l hl a b c=>by
   have:=k5 l hl;rw[at' l hl]at this;simp only[c]at this;rcases this with ((h|h)|h)|h
   ·exact absurd h a
   ·exact absurd h b
   ·simp at h
   ·refine⟨?_,fun⟨q1,q2⟩=>?_⟩;·simpa [Tq] using h.1
    ·have:=h.2;simp[q1,q2]at this
  refine⟨k1,c9,fun k hk=>k4 k hk,fun l hl a b c=>(ord l hl a b c).1,?_⟩;exact jzbm dC k2 k1 c9 hid (fun k hk=>k4 k hk) fun l a b c=>(ord l (by omega) (by omega) (by omega) c).2 ⟨a,b⟩
theorem AWp.drawnT{id:Nat}{ops:Array Oper}{m:List Ay}{preds:List (List Nat)}{S:Av}{Q:Exit->Av->Prop}(hc:yzf P ops ops.toList m=true)(hp:GX ops.toList preds=true)(he:GY 0 ops.toList=true)(eJ:Ia m preds=true) (hm:P.follows .mixedOrders=true) (h:∃(V:Nat->Aa) (R:Nat->List Nat) (O:Nat->Option (Nat×Aj)),(∀k o,m[k]?=some o->BL E P o (lx m V O S k) (V k) (R k) (O k))/\CV m preds ((List.range m.length).map fun k=>(R k,Bu O k))=true/\Q .normal (lx m V O S m.length)):AWp E ρ P (.region id ops true) Q S:=by
 obtain⟨aD,cN⟩:=LS hc;obtain⟨V,R,O,dC,iK,hQ⟩:=h;have dQ:m.length=ops.size:=by rw[aD];simp
 simp only[GX,AE,Bt,GA,GC,Bp]at hp;obtain⟨cn,hp⟩:=hp
 have gU:∀i p,p∈preds.getD i []->i<ops.toList.length:=fun i p h=>by
  rcases BU i ops.toList.length with h1|h1
  ·exact h1
  ·simp[List.getD,JG (show preds.length<=i by omega)]at h
 simp only[Ia,GA,GC]at eJ
 have D:HZ E P m preds S m.length V R O:=by
  refine⟨rfl,dC,fun i j hj=>(hp i (gU i j hj) j hj).1,?_,?_⟩
  ·intro i j oi oj d hi hj aJ h1 h2 hd;have:=eJ i (AK.1 hi).1 j (AK.1 hj).1;rw[hi,hj]at this;have h1':j∉preds[i]?.getD []:=by simpa using h1
   have fT:i∉preds[j]?.getD []:=by simpa using h2
   simpa [aJ,h1',fT,hd] using this
  ·exact UI dC iK
 intro g a w hs;have hw:=hs.hr.heap (w':={ w with drawn:=w.drawn+1 }) rfl rfl rfl rfl;have bj:SR E g S a { w with drawn:=w.drawn+1 }:=⟨hw.1,hs.tm.mono hw.2.le,hs.df,hs.dk,hs.dn⟩;have stp0:Stp g S.h w g S.h { w with drawn:=w.drawn+1 }:=hw.2;refine wpIn_region_any hm ?_
 have e0:stL m V O S m.length (fun j=>(Array.replicate ops.size false).getD j false)=S:=by
  have:(fun j=>(Array.replicate ops.size false).getD j false)=(fun j=>decide (j<0)):=by funext j;by_cases hj:j<ops.size<;>simp[Array.getD,hj]
  rw[this,HY 0 (Dj _)];rfl
 refine qzze (ρ:=ρ) (Q:=fun e a' w'=>∃g' S',Q e S'/\SR E g' S' a' w'/\Stp g S.h w g' S'.h w') D dQ.symm (fun k o hk=>cN k o (by simpa using hk)) (fun i o hi e js hb=>by have:=LT he i o (by simpa using hi) e js hb;omega) (fun i o hi p bG=>?_)
  ops.size (Array.replicate ops.size false) (by simp[dQ]) (fun j hj=>?_) ⟨List.range m.length,fun j hj _=>by simpa using hj,by simp[dQ]⟩ g a _ (by rw[e0];exact bj) (fun g' a' w' cC st=>⟨g',_,hQ,cC,stp0.trans (by rw[e0]at st;exact st)⟩)
 ·have h1:=(hp i (gU i p bG) p bG).2;have bh:ops.toList[i]?=some o:=by simpa using hi
  rw[bh]at h1;simp only[List.any_eq_true,AE,Fq,Bt,Tq]at h1;obtain⟨e,h2,h3,h4⟩:=h1;exact⟨e,h2,h3,h4⟩
 ·by_cases h1:j<ops.size<;>simp[Array.getD,h1]at hj
theorem AWp.drawn{id:Nat}{ops:Array Oper}{m:List Ay}{preds:List (List Nat)}{S:Av}{Q:Exit->Av->Prop}(hc:yzf P ops ops.toList m=true)(hp:GX ops.toList preds=true)(he:GY 0 ops.toList=true)(eJ:Ia m preds=true) (hm:P.follows .mixedOrders=true) (h:dreg E P m S (fun S' tr=>hpOk preds tr=true/\Q .normal S')):AWp E ρ P (.region id ops true) Q S:=by obtain⟨V,R,O,h1,h2,h3⟩:=UH m S _ h;exact .drawnT hc hp he eJ hm ⟨V,R,O,h1,jzh0 h2,h3⟩
def GZ(E:Nat->Aa)(P:Program):List Ay->Av->(Av->List (List Nat×Option Nat)->Prop)->Prop
 |[],S,K=>K S []
 |o :: r,S,K=>∃v rd out,BL E P o S v rd out/\GZ E P r ⟨putT S.t o.dst v,putH S.h out,S.ds⟩ (fun S' tr=>K S' ((rd,out.map (·.1)) :: tr))
theorem Pj:∀(l:List Ay) (S:Av) (K:Av->List (List Nat×Option Nat)->Prop),GZ E P l S K -> ∃(V:Nat->Aa) (R:Nat->List Nat) (O:Nat->Option (Nat×Aj)),(∀k o,l[k]?=some o->BL E P o (lx l V O S k) (V k) (R k) (O k))/\K (lx l V O S l.length) ((List.range l.length).map fun k=>(R k,Bu O k))
 |[],S,K,h=>⟨fun _=>.top,fun _=>[],fun _=>none,fun k o h=>by simp at h,h⟩
 |o :: l,S,K,h=>by
  obtain⟨v,rd,out,h1,h2⟩:=h;obtain⟨V,R,O,h3,h4⟩:=Pj l _ _ h2;refine⟨fun k=>match k with | 0=>v | k+1=>V k,fun k=>match k with | 0=>rd | k+1=>R k,fun k=>match k with | 0=>out | k+1=>O k,fun k ok hk=>?_,?_⟩
  ·cases k with
   |zero=>simp at hk;subst hk;exact h1
   |succ k =>rw[Ke];exact h3 k ok (by simpa using hk)
  ·rw[E7,Ke,List.range_succ_eq_map,JH,List.map_map];exact h4
end
section
variable {E:Nat->Aa}{P:Program}{ρ:Option Nat}
theorem HR.new{g:Gh}{h:Aw}{w:World}{i:Nat}{o:Aj}{ob:Obj}(H:HR E g h w)(cj:o.ep=(h i).ep+1)(cT:∀(g':Gh) (w':World),GLe g w g' w'->g'.ep i=(h i).ep+1->(∀j,j≠i->g'.ep j=g.ep j)->g'.blk i=w.heap.size->w'.heap[w.heap.size]?=some ob->OR g' w' i o) : ∃g',g'.blk i=w.heap.size/\HR E g' (hset h i o) (w.alloc ob)/\Stp g h w g' (hset h i o) (w.alloc ob):=by
 let g':Gh:=⟨fun j=>if j=i then w.heap.size else g.blk j,fun j=>if j=i then(h i).ep+1 else g.ep j,g.bo,g.st,g.cp,g.fz⟩
 have aO:∀b,b<w.heap.size->(w.alloc ob).heap[b]?=w.heap[b]?:=fun b hb=>by show(w.heap.push ob)[b]?=_;rw[Lq,Ak (by omega)]
 have aM:(w.alloc ob).heap[w.heap.size]?=some ob:=World.alloc_heap_new w ob;have aI:(w.alloc ob).heap.size=w.heap.size+1:=by show(w.heap.push ob).size=_;simp
 have aE:GLe g w g' (w.alloc ob):=by
  refine⟨fun b hb=>⟨hb,aO b (H.fzb b hb)⟩,fun j=>?_,fun j hj=>?_⟩
  ·show g.ep j<=if j=i then(h i).ep+1 else g.ep j;split
   ·rename_i e;subst e;rw[H.ep j];omega
   ·exact AC _
  ·have:j≠i:=fun e=>by
    subst e;have aZ:(if j=j then(h j).ep+1 else g.ep j)=g.ep j:=hj;rw[An rfl,H.ep j]at aZ;omega
   exact⟨Ak this,rfl,rfl,rfl⟩
 have eb:g'.blk i=w.heap.size:=An rfl;refine⟨g',eb,HR.upd (g':=g') (w':=w.alloc ob) (i:=i) (o':=o) H aE (fun j hj=>Ak hj) ((An rfl:g'.ep i=_).trans cj.symm) (fun b hb _=>aO b hb) (by rw[aI];omega) (cT g' _ aE (An rfl) (fun j hj=>Ak hj) eb aM) (fun _=>.inr (by rw[eb];exact AC _)) (fun _ hf=>by have:=H.fzb _ (show g.fz (g'.blk i) from hf);rw[eb]at this;omega) (fun b hb=>.inl hb) (fun b hb=>by have:=H.fzb b hb;rw[aI];omega) rfl rfl rfl⟩
def LU(Q:Exit->Av->Prop):Option Code->Av->Prop
 |none,S=>Q .normal S
 |some .ret,S=>Q .ret S
 |some (.exit i),S=>Q (.exit i) S
 |_,_=>False
theorem AWp.rfunc{f:Operand}{f':Ad}{ps:Array Tmp}{a b:Code}{S:Av}{Q:Exit->Av->Prop}{fi:FuncId}{caps:List Aa}(D L:Nat)(iL:D≠L)(hD:(S.h D).plain)(hL:(S.h L).plain)(hk:AB f f'=true)(hf:Ag E S.t f'=.fn fi 0 caps)(he:CD P fi=true)
  (h:ATr E P fi (.yld L ((S.h L).ep+1) :: caps) (hset (hset S.h D (.dfr ((S.h D).ep+1))) L (.loop ((S.h L).ep+1) .ready none S.t ps a b D ((S.h D).ep+1)))
   (fun v h'=>∃st pd,st≠.busy/\h' L=.loop ((S.h L).ep+1) st pd S.t ps a b D ((S.h D).ep+1)/\h' D=.dfr ((S.h D).ep+1)/\(∀X∈S.ds,h' X.1=.dfr X.2) /\
    LU Q pd ⟨S.t,hset h' L (.gone ((S.h L).ep+1)),(D,(S.h D).ep+1) :: S.ds⟩)):AWp E none P (.rangeFunc f ps a b) Q S:=by
 intro g a0 w hs;have cJ:∀X∈S.ds,X.1≠D/\X.1≠L:=fun X hX=>⟨fun e=>by have:=hs.dk X hX;rw[e]at this;rw[this]at hD;exact hD,fun e=>by have:=hs.dk X hX;rw[e]at this;rw[this]at hL;exact hL⟩;have rx:=AP hs.hr hs.tm hk;rw[hf]at rx;obtain⟨arr,hv,fo⟩:=wze2 rx;refine wpIn_rangeFunc fun fn _=>?_;obtain⟨g1,eb1,H1,st1⟩:=hs.hr.new (i:=D) (o:=.dfr ((S.h D).ep+1)) (ob:=.deferred (some [])) rfl (fun g' w' aE dN ed eb hh=>by show w'.heap[g'.blk D]?=_;rw[eb];exact hh);have ll:(hset S.h D (.dfr ((S.h D).ep+1)) L)=S.h L:=by simp[hset,Ne.symm iL]
 have tm1:=hs.tm.mono st1.le;have epD1:g1.ep D=(S.h D).ep+1:=by rw[H1.ep D];simp[hset,Aj.ep]
 obtain⟨g2,eb2,H2,st2⟩:=H1.new (i:=L) (o:=.loop ((S.h L).ep+1) .ready none S.t ps a b D ((S.h D).ep+1)) (ob:=.loop { state:=.ready,pending:=none,fn,tmps:=a0.tmps,params:=ps,assign:=a,body:=b,defers:=w.heap.size }) (by rw[ll];rfl) (fun g' w' aE dN ed eb hh=>by refine⟨by rw[ed D iL,epD1];exact AC _,_,_,_,fun e=>?_,by rw[eb];exact hh,tm1.mono aE⟩;rw[(aE.same D (ed D iL)).1];exact eb1.symm);have lm:(w.alloc (.deferred (some []))).heap.size=w.heap.size+1:=by show(w.heap.push _).size=_;simp
 rw[lm]at eb2;have st12:=st1.trans st2;refine⟨_,_,_,{ target:=.fn (.func fi) arr,args:=#[.func (.yield (w.heap.size+1)) #[] #[]] },((w.alloc (.deferred (some []))).alloc (.loop { state:=.ready,pending:=none,fn,tmps:=a0.tmps,params:=ps,assign:=a,body:=b,defers:=w.heap.size })),fi,#[.func (.yield (w.heap.size+1)) #[] #[]]++arr,((w.alloc (.deferred (some []))).alloc (.loop { state:=.ready,pending:=none,fn,tmps:=a0.tmps,params:=ps,assign:=a,body:=b,defers:=w.heap.size })),run_enterLoop_outer fn a0.tmps ps a b,?_,fun f' _=>trivial,?_,fun fm=>absurd fm (O8 none),?_⟩
 ·simp only[resolve,rangeCall,Sem.run_bind,hv,Deferred.ofValue,Sem.run_pure,Array.empty_append];have em:(#[Operand.const (Value.func (Fn.yield (w.heap.size+1)) #[] #[])]:Array Operand).map a0.eval=#[.func (.yield (w.heap.size+1)) #[] #[]]:=by simp[Act.eval]
  rw[em]
 ·simp only[invoke];exact OZ he _ _
 rw[O9]
 have cK:RVs g2 ((w.alloc (.deferred (some []))).alloc (.loop { state:=.ready,pending:=none,fn,tmps:=a0.tmps,params:=ps,assign:=a,body:=b,defers:=w.heap.size })) (.yld L ((S.h L).ep+1) :: caps) (.func (.yield (w.heap.size+1)) #[] #[] :: arr.toList):=by
  have e2:g2.ep L=(S.h L).ep+1:=by rw[H2.ep L];simp[hset,Aj.ep]
  exact .cons (.yld _ _ _ rfl (by rw[e2];exact AC _) (fun _=>by rw[eb2])) (fo.mono st12.le)
 have hc:=h g2 _ _ H2 cK;have earr:(Value.func (.yield (w.heap.size+1)) #[] #[] :: arr.toList).toArray=#[.func (.yield (w.heap.size+1)) #[] #[]]++arr:=by apply Array.ext';simp
 rw[earr]at hc;refine hc.mono ?_;rintro e w3 ⟨g3,h3,r,v,⟨st,pd,aH,mO,mR,mS,hQ⟩,rfl,bN,H3,st3⟩;obtain⟨r3,ga,q1,q2,q3,q4,q5,_,put3⟩:=H3.loopAt mO;obtain⟨H4,st4⟩:=put3 .exhausted pd;have eb3:g3.blk L=w.heap.size+1:=by rw[<-eb2];exact Ka H2 H3 st3.le (by rw[mO];simp[hset,Aj.ep])
 have er:({ r3 with state:=.exhausted,pending:=pd }:Loop)={ r3 with state:=.exhausted }:=by rw[<-q2]
 rw[er]at H4 st4;rw[eb3]at ga H4 st4;have lq:=run_endLoop (P:=P) ga (by rw[q1];exact aH)
 have dB:∀i,OSub (hset h3 L (.loop ((S.h L).ep+1) .exhausted pd S.t ps a b D ((S.h D).ep+1)) i) (hset h3 L (.gone ((S.h L).ep+1)) i):=fun i=>by
  by_cases e:i=L
  ·subst e;simp only[hset,Cn];exact .inl rfl
  ·simp only[hset,e,Dk];exact .refl _
 have H5:=H4.sub dB;have st5:Stp g S.h w g3 (hset h3 L (.gone ((S.h L).ep+1))) (w3.putObj (w.heap.size+1) (.loop { r3 with state:=.exhausted })):=(st12.trans (st3.trans st4)).sub dB;have ebD:g3.blk D=w.heap.size:=by have:g3.blk D=g1.blk D:=Ka H1 H3 (st2.le.trans st3.le) (by rw[mR];simp[hset,Aj.ep]);rw[this,eb1]
 have lr:SR E g3 ⟨S.t,hset h3 L (.gone ((S.h L).ep+1)),(D,(S.h D).ep+1) :: S.ds⟩ { a0 with defers:=[{ target:=.collected w.heap.size,args:=#[] }]++a0.defers } (w3.putObj (w.heap.size+1) (.loop { r3 with state:=.exhausted })):=by
  refine⟨H5,hs.tm.mono st5.le,?_,?_,?_⟩
  ·rw[<-ebD,hs.df];show _ :: _=_ :: _;congr 1;refine H7 fun X hX=>?_;rw[Ka hs.hr H3 (st12.trans st3).le (by rw[mS X hX,hs.dk X hX])]
  ·intro X hX;rcases AL.1 hX with rfl|hX
   ·show(if D=L then _ else h3 D)=_;rw[Ak iL];exact mR
   ·show(if X.1=L then _ else h3 X.1)=_;rw[Ak (cJ X hX).2];exact mS X hX
  ·show(D :: S.ds.map (·.1)).Nodup;refine List.nodup_cons.2 ⟨fun hm=>?_,hs.dn⟩;obtain⟨X,hX,e⟩:=L7.1 hm;exact(cJ X hX).1 e
 have jt:(Instr.endLoop (w.heap.size+1)).run P w3=.ok pd (w3.putObj (w.heap.size+1) (.loop { r3 with state:=.exhausted })):=by rw[lq];congr 1
 refine⟨pd,_,jt,?_⟩;cases pd with
 |none=>exact⟨g3,_,hQ,lr,st5⟩
 |some c =>
  cases c with
  |ret=>exact wpIn_ret ⟨g3,_,hQ,lr,st5⟩
  |exit i=>exact wpIn_exit ⟨g3,_,hQ,lr,st5⟩
  |_=>exact hQ.elim
end
end Go.Am

