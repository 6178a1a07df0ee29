/- Part A3: an abstract machine proved sound over the calculus of the guide. No condition. -/
import Derived.Test.YtomegmhiddbmbaaGreatDoorA2
set_option linter.unusedSimpArgs false
set_option linter.unusedVariables false
namespace Go.Am
def Al.quiet:Al->Bool
 |.mkmap _ | .mupd _ _ _ _ | .ment _ _ _ _ | .mest _ _ _ | .mrange _ _ | .mnext _ | .alloc _ _ | .box _ _ | .bslice _ _ _ _ _ | .store _ _ _ | .append _ _ _ _ _ | .s2b _ _ | .mks _ _ _ _ _ | .copy _ _ _ | .clear _ _ | .callf _ _ | .callv _ _=>false
 |_=>true
theorem qzzu(o:Al)(hq:o.quiet=true)(ar:Ac->Aa)(h:Ax):∀i ob,(o.req ar h).out=some (i,ob)->ob=h i:=by
 by_cases hf:∃s st nn zero ps,o=.fslice s st nn zero ps
 ·obtain⟨s,st,nn,zero,ps,rfl⟩:=hf;intro i ob ho;simp only[Al.req]at ho;cases hp:CQ ar zero ps<;>simp only[hp,Req.fail]at ho
  ·cases ho
  ·simp only[AZ,De]at ho;obtain⟨rfl,rfl⟩:=ho;rfl
 have:(o.req ar h).out=none:=by cases o<;>simp only[Al.quiet]at hq<;>(try (cases hq;done))<;>(try exact absurd ⟨_,_,_,_,_,rfl⟩ hf)<;>simp only[Al.req,Req.val,Req.when,Req.fail,CS,GY,Cp,F4,Cy,CU,Bu,He,Dl]<;>(repeat' split)<;>rfl
 intro i ob ho;rw[this]at ho;cases ho
def Al.isCall:Al->Bool
 |.callf _ _ | .callv _ _ | .mnext _=>true
 |_=>false
def Ci(P:Program)(f:FuncId):Bool:=match P.funcs[f]? with
 | some fn => fn.body.isSome && fn.name != "runtime.NumGoroutine"
 |none=>false
def NL(E:Nat->Aa)(P:Program)(c:Bool)(t:List Aa)(h:Ax)(ds:List (Nat×Nat))(xs:List Ac)(f:FuncId)(args:List Aa)(K:Aa->Ax->Prop):Prop := (∃v,(c=true->BW c t xs/\ATr E P f args h (fun v' h'=>v'=v/\h'=h))/\K (.cnd c v) h) \/ ((c=true->BW c t xs/\ATr E P f args h (fun v h'=>(∀D∈ds,h' D.1=.dfr D.2)/\K (.cnd true v) h'))/\(c=false->K (.cnd false .top) h))
def gyld(E:Nat->Aa)(P:Program)(c:Bool)(t:List Aa)(h:Ax)(ds:List (Nat×Nat))(xs:List Ac)(id ep:Nat)(args:List Aa)(K:Aa->Ax->Prop):Prop := (c=true->BW c t xs/\BN E P id ep args h (fun v h'=>(∀D∈ds,h' D.1=.dfr D.2)/\K (.cnd true v) h'))/\(c=false->K (.cnd false (.bool false)) h)
def Gl(x:Aa)(h:Ax)(K:Aa->Ax->Prop):Prop :=
 match x with
 |.ptr id ep 0=>match h id with
  |.miter ep' (some (M,eM,n)) seen=>match h M with
   |.amap eM' es=>ep=ep'/\eM=eM'/\es.length=n /\
    (∀k,k<n->k∉seen->K (.tup [.bool true,(es.getD k (.top,.top)).1,(es.getD k (.top,.top)).2]) (hset h id (.miter ep' (some (M,eM,n)) (seen++[k])))) /\
    ((∀k,k<n->k∈seen)->K (.tup [.bool false]) h)
   |_=>False
  |.miter ep' none _=>ep=ep'/\K (.tup [.bool false]) h
  |_=>False
 |_=>False
def fnArgs{U:Type}(nb:Nat)(as caps:List U):List U:=caps.take nb++as++caps.drop nb
def aop(E:Nat->Aa)(P:Program)(o:As)(S:Ay)(K:Ay->Prop):Prop :=
 match o.guard with
 |none=>match o.op with
  |.callf f args=>ATr E P f (args.map (Ae E S.t)) S.h (fun v h'=>(∀D∈S.ds,h' D.1=.dfr D.2)/\K ⟨putT S.t o.dst v,h',S.ds⟩)
  |.callv x args=>match Ae E S.t x with
   |.fn f nb caps=>Ci P f=true/\ATr E P f (fnArgs nb (args.map (Ae E S.t)) caps) S.h (fun v h'=>(∀D∈S.ds,h' D.1=.dfr D.2)/\K ⟨putT S.t o.dst v,h',S.ds⟩)
   |.yld id ep=>BN E P id ep (args.map (Ae E S.t)) S.h (fun v h'=>(∀D∈S.ds,h' D.1=.dfr D.2)/\K ⟨putT S.t o.dst v,h',S.ds⟩)
   |_=>False
  |.mnext x=>Gl (Ae E S.t x) S.h (fun v h'=>K ⟨putT S.t o.dst v,h',S.ds⟩)
  |op=>(op.req (Ae E S.t) S.h).ok/\K ⟨putT S.t o.dst (op.req (Ae E S.t) S.h).v,putH S.h (op.req (Ae E S.t) S.h).out,S.ds⟩
 |some (tg,want)=>match BV (S.t.getD tg .top) want with
  |none=>False
  |some c=>match o.op with
   |.callf f args=>NL E P c S.t S.h S.ds args f (args.map (argU E S.t)) (fun v h'=>K ⟨putT S.t o.dst v,h',S.ds⟩)
   | .callv x args=>(c=false->K ⟨putT S.t o.dst (.cnd false .top),S.h,S.ds⟩)/\(c=true->match argU E S.t x with
    |.fn f nb caps=>Ci P f=true/\NL E P c S.t S.h S.ds (x :: args) f (fnArgs nb (args.map (argU E S.t)) caps) (fun v h'=>K ⟨putT S.t o.dst v,h',S.ds⟩)
    |.yld id ep=>gyld E P c S.t S.h S.ds (x :: args) id ep (args.map (argU E S.t)) (fun v h'=>K ⟨putT S.t o.dst v,h',S.ds⟩)
    | _=>False)
   |.mnext _=>False
   |op=>op.quiet=true/\(c=true->op.unAll E c S.t/\(op.req (argU E S.t) S.h).ok)/\K ⟨putT S.t o.dst (.cnd c (op.req (argU E S.t) S.h).v),S.h,S.ds⟩
def areg(E:Nat->Aa)(P:Program):List As->Ay->(Ay->Prop)->Prop
 |[],S,K=>K S
 |o :: r,S,K=>aop E P o S (fun S'=>areg E P r S' K)
def Gm(P:Program)(o:Op)(a:Al):Bool :=
 match o,a with
 |.call { callee:=.value (.func f),args,.. },.callf f' args'=>f==f'&&Ci P f&&yzw args.toList args'
 |.call { callee:=.value x,args,.. },.callv x' args'=>A8 x x'&&yzw args.toList args'
 |.next x false,.mnext x'=>A8 x x'
 |o,a=>Fw P o a
def Gn(P:Program)(ops:Array Oper)(o:Oper)(a:As):Bool :=
 o.dst==a.dst&&(match o.guard,a.guard with
  |none,none=>true
  |some (j,want),some (tg,want')=>want==want'&&((ops[j]?).bind (·.dst))==some tg
  | _,_=>false)&&Gm P o.op a.op
theorem VW{P:Program}{ops:Array Oper}{o:Oper}{a:As}(h:Gn P ops o a=true):As.Ok P ops o a/\Gm P o.op a.op=true:=by
 simp only[Gn,AE,Br]at h;obtain⟨⟨h1,h2⟩,h3⟩:=h;refine⟨⟨h1,?_⟩,h3⟩;cases hg:o.guard with
 |none =>
  cases gH:a.guard with
  |none=>rfl
  |some x=>simp[hg,gH]at h2
 |some x =>
  obtain⟨j,want⟩:=x;cases gH:a.guard with
  |none=>simp[hg,gH]at h2
  |some y =>obtain⟨tg,want'⟩:=y;simp only[hg,gH,AE,Br]at h2;obtain⟨rfl,h4⟩:=h2;exact⟨j,rfl,h4⟩
theorem VX{P:Program}{op:Op}{f:FuncId}{args:List Ac}(h:Gm P op (.callf f args)=true) : ∃as ats,op=.call { callee:=.value (.func f),args:=as,argTypes:=ats }/\Ci P f=true/\yzw as.toList args=true:=by
 cases op<;>simp only[Gm,Fw]at h<;>(try (cases h;done));rename_i c;obtain⟨callee,as,ats⟩:=c;cases callee with
 |value x =>cases x<;>simp only[Gm,Fw]at h<;>(try (cases h;done));simp only[AE,Br]at h;obtain⟨⟨rfl,he⟩,ha⟩:=h;exact⟨as,ats,rfl,he,ha⟩
 |invoke r m=>simp only[Gm,Fw]at h;cases h
 |builtin b=>cases b<;>simp only[Gm,Fw]at h<;>cases h
theorem VY{P:Program}{op:Op}{x':Ac}{args:List Ac}(h:Gm P op (.callv x' args)=true) : ∃x as ats,op=.call { callee:=.value x,args:=as,argTypes:=ats }/\A8 x x'=true/\yzw as.toList args=true:=by
 cases op<;>simp only[Gm,Fw]at h<;>(try (cases h;done));rename_i c;obtain⟨callee,as,ats⟩:=c;cases callee with
 |value x =>cases x<;>simp only[Gm,Fw,AE]at h<;>exact⟨_,as,ats,rfl,h.1,h.2⟩
 |invoke r m=>simp only[Gm,Fw]at h;cases h
 |builtin b=>cases b<;>simp only[Gm,Fw]at h<;>cases h
theorem qzux{P:Program}{op:Op}{x':Ac}(h:Gm P op (.mnext x')=true):∃x,op=.next x false/\A8 x x'=true:=by
 cases op<;>simp only[Gm,Fw]at h<;>(try (cases h;done))
 case next x b =>
  cases b<;>simp only[Gm,Fw]at h
  ·exact⟨x,rfl,h⟩
  ·cases h
theorem QK{P:Program}{op:Op}{a:Al}(h:Gm P op a=true)(cM:a.isCall=false):Fw P op a=true:=by
 unfold Gm at h;split at h
 ·cases cM
 ·cases cM
 ·cases cM
 ·exact h
section
variable {E:Nat->Aa}{P:Program}{ρ:Option Nat}
theorem NM{f:FuncId}(h:Ci P f=true)(args:Array Value)(w:World):(callFunc f args).run P w=.ok (.enter f args) w:=by
 unfold Ci at h
 cases hf:P.funcs[f]? with
 |none=>simp[hf]at h
 |some fn =>
  simp only[hf,AE,bne_iff_ne,ne_eq]at h
  obtain⟨h1,h2⟩:=h
  have ez : (fn.name == "runtime.NumGoroutine") = false := by simpa using h2
  have h3:fn.body.isNone=false:=by cases hb:fn.body<;>simp[hb]at h1 ⊢
  simp only[callFunc,Sem.run_bind,run_program,Result.andThen_ok,hf,ez,h3,Iq,Df,Sem.run_pure]
theorem NN{o:Oper}{g:Gh}{a:Act}{w:World}{S:Ay}{f:FuncId}{args:List Aa}{vs:List Value}(hs:SR E g S a w)(hd:∀c,o.op≠.defer c)(aO:(execOp a.eval o).run P w=.ok (.enter f vs.toArray) w) (hv:RVs g w args vs) {K:Ay->Prop} {y:Aa->Aa} (hy:∀g' w' r v,RV g' w' r v->RV g' w' (y r) v)(h:ATr E P f args S.h (fun v h'=>(∀D∈S.ds,h' D.1=.dfr D.2)/\K ⟨putT S.t o.dst (y v),h',S.ds⟩)) {Q:Exit->Act->World->Prop} :
  o.wpIn (FW ρ) 0 P a w (fun a' w'=>∃g' S',K S'/\SR E g' S' a' w'/\Stp g S.h w g' S'.h w') Q:=by
 refine⟨fun f _=>trivial,?_⟩;rw[Oper.semAt_eq _ _ _ hd,aO];refine⟨fun e7=>absurd e7 (Q1 ρ),?_⟩;rw[Q2];refine(h g w vs hs.hr hv).mono ?_;rintro e w' ⟨g',h',r,v,⟨cr,hK⟩,rfl,bt,H',st⟩;refine⟨g',_,hK,⟨H',Kk (hs.tm.mono st.le) o.dst (hy _ _ _ _ bt),?_,cr,hs.dn⟩,st⟩;rw[Kl,hs.df];refine Iv fun D hD=>?_;have h1:=hs.hr.ep D.1;have h2:=H'.ep D.1;rw[hs.dk D hD]at h1;rw[cr D hD]at h2;rw[(st.le.same D.1 (h2.trans h1.symm)).1]
theorem VZ{o:Oper}{g:Gh}{a:Act}{w:World}{S:Ay}{id ep:Nat}{args:List Aa}{vs:List Value}(hs:SR E g S a w)(hd:∀c,o.op≠.defer c)(aO:(execOp a.eval o).run P w=(Instr.yield (g.blk id) vs.toArray).run P w) (hv:RVs g w args vs) {K:Ay->Prop} {y:Aa->Aa} (hy:∀g' w' r v,RV g' w' r v->RV g' w' (y r) v)(h:BN E P id ep args S.h (fun v h'=>(∀D∈S.ds,h' D.1=.dfr D.2)/\K ⟨putT S.t o.dst (y v),h',S.ds⟩)) {Q:Exit->Act->World->Prop} :
  o.wpIn (FW ρ) 0 P a w (fun a' w'=>∃g' S',K S'/\SR E g' S' a' w'/\Stp g S.h w g' S'.h w') Q:=by
 obtain⟨f,tmps,asg,body,gZ,hr⟩:=qzu7 (ρ:=ρ) h hs.hr hv;refine⟨fun f _=>trivial,?_⟩;rw[Oper.semAt_eq _ _ _ hd,aO,gZ];refine⟨fun e7=>absurd e7 (Q1 ρ),?_⟩;refine RoundIn.mono hr ?_;rintro e w' ⟨g',h',r,v,⟨cr,hK⟩,rfl,bt,H',st⟩;refine⟨g',_,hK,⟨H',Kk (hs.tm.mono st.le) o.dst (hy _ _ _ _ bt),?_,cr,hs.dn⟩,st⟩;rw[Kl,hs.df];refine Iv fun D hD=>?_;have h1:=hs.hr.ep D.1;have h2:=H'.ep D.1;rw[hs.dk D hD]at h1;rw[cr D hD]at h2;rw[(st.le.same D.1 (h2.trans h1.symm)).1]
theorem Wa{o:Oper}{l:Nat}{x:Operand}{args:Array Operand}{ats:Array TypeId}(ho:o.op=.call { callee:=.value x,args,argTypes:=ats })(a:Act)(w:World)(hx:a.eval x=.func (.yield l) #[] #[]) : (execOp a.eval o).run P w=(Instr.yield l (args.toList.map a.eval).toArray).run P w:=by
 have e:(args.map a.eval)=(args.toList.map a.eval).toArray:=by apply Array.ext';simp
 simp only[execOp,ho,Sem.run_bind,resolve,hx,Deferred.ofValue,Sem.run_pure,Result.andThen_ok,invoke,Array.empty_append,e]
theorem Wb{g:Gh}{h:Ax}{w:World}{id ep:Nat}{v:Value}(H:HR E g h w)(hid:(h id).ep=ep)(hv:RV g w (.yld id ep) v):v=.func (.yield (g.blk id)) #[] #[]:=by
 cases hv with
 |yld _ _ _ h1 he hp=>exact hp (by rw[H.ep,hid])
theorem BN.ep{id ep:Nat}{args:List Aa}{h:Ax}{K:Aa->Ax->Prop}(R:BN E P id ep args h K):(h id).ep=ep:=by obtain⟨ts,ps,asg,body,D,eD,hid,_⟩:=R;rw[hid];rfl
theorem Wd{o:Oper}{f:FuncId}{args:Array Operand}{ats:Array TypeId}(ho:o.op=.call { callee:=.value (.func f),args,argTypes:=ats })(he:Ci P f=true)(a:Act)(w:World) : (execOp a.eval o).run P w=.ok (.enter f (args.toList.map a.eval).toArray) w:=by
 have e:(args.map a.eval)=(args.toList.map a.eval).toArray:=by apply Array.ext';simp
 simp only[execOp,ho,Sem.run_bind,resolve,Act.eval,Deferred.ofValue,Sem.run_pure,Result.andThen_ok,invoke,Array.empty_append,Array.append_empty,e,NM he]
theorem We{o:Oper}{f:FuncId}{x:Operand}{nb:Nat}{caps:Array Value}{args:Array Operand}{ats:Array TypeId}(ho:o.op=.call { callee:=.value x,args,argTypes:=ats })(he:Ci P f=true)(a:Act)(w:World)(hx:a.eval x=.func (.func f) (caps.toList.take nb).toArray (caps.toList.drop nb).toArray) : (execOp a.eval o).run P w=.ok (.enter f (fnArgs nb (args.toList.map a.eval) caps.toList).toArray) w:=by
 have e:(caps.toList.take nb).toArray++(args.map a.eval)++(caps.toList.drop nb).toArray=(fnArgs nb (args.toList.map a.eval) caps.toList).toArray:=by apply Array.ext';simp[fnArgs]
 simp only[execOp,ho,Sem.run_bind,resolve,hx,Deferred.ofValue,Sem.run_pure,Result.andThen_ok,invoke,e,NM he]
theorem QL{g:Gh}{w:World}{f:FuncId}{nb:Nat}{caps:List Aa}{v:Value}(h:RV g w (.fn f nb caps) v):∃arr:Array Value,v=.func (.func f) (arr.toList.take nb).toArray (arr.toList.drop nb).toArray/\RVs g w caps arr.toList:=by
 cases h with
 |fn _ _ _ arr hn hr=>exact⟨arr,rfl,by simpa using hn,fun i x v hx hv=>hr i x v hx (by simpa using hv)⟩
theorem wze2{g:Gh}{w:World}{f:FuncId}{caps:List Aa}{v:Value}(h:RV g w (.fn f 0 caps) v):∃arr,v=.func (.func f) #[] arr/\RVs g w caps arr.toList:=by obtain⟨arr,h1,h2⟩:=QL h;exact⟨arr,by rw[h1];simp,h2⟩
theorem RVs.fnArgs{g:Gh}{w:World}{nb:Nat}{as caps:List Aa}{l a:List Value}(h:RVs g w as l)(k:RVs g w caps a):RVs g w (fnArgs nb as caps) (fnArgs nb l a) := ((k.take nb).append h).append (k.drop nb)
theorem NO{g:Gh}{a:Act}{w:World}{S:Ay}(hs:SR E g S a w){c:Bool}(hc:c=true):∀{l:List Operand} {m:List Ac},yzw l m=true->BW c S.t m->RVs g w (m.map (argU E S.t)) (l.map a.eval)
 |[],[],_,_=>.nil g w
 |x :: l,y :: m,h,hu=>by
  simp only[yzw,AE]at h
  have h1:RV g w (argU E S.t y) (a.eval x):=by
   have:=AP hs.hr hs.tm h.1;cases y with
   |t n=>exact DP this hu.1 hc
   |c v=>exact this
   |g i=>exact this
  have h2:BW c S.t m:=by
   cases y with
   |t n=>exact hu.2
   |c v=>exact hu
   |g i=>exact hu
  exact .cons h1 (NO hs hc h.2 h2)
 |[],_ :: _,h,_=>by cases h
 |_ :: _,[],h,_=>by cases h
theorem NP{ops:Array Oper}{o:Oper}{ao:As}{S:Ay}{K:Ay->Prop}(cl:Gn P ops o ao=true)(h:aop E P ao S K){g:Gh}{a:Act}{w:World}(hs:SR E g S a w){Q:Exit->Act->World->Prop} :
    if Region.wanted o (yielded ops a.tmps) then o.wpIn (FW ρ) 0 P a w (fun a' w'=>∃g' S',K S'/\SR E g' S' a' w'/\Stp g S.h w g' S'.h w') Q
    else(∀f,o.about P w a.eval=some f->(FW ρ).fn f)/\(∃g' S',K S'/\SR E g' S' (a.put o.dst undef) w/\Stp g S.h w g' S'.h w):=by
  obtain⟨hk,cW⟩:=VW cl;have br:=hk.dst;unfold aop at h;cases hg:ao.guard with
  |none =>
    simp only[hg]at h;have fh:o.guard=none:=by have:=hk.grd;rw[hg]at this;exact this
    rw[Aq (QJ (ops:=ops) fh _)];cases cM:ao.op.isCall with
    |false =>
      have hc:=QK cW cM;have h':(ao.op.req (Ae E S.t) S.h).ok/\K ⟨putT S.t ao.dst (ao.op.req (Ae E S.t) S.h).v,putH S.h (ao.op.req (Ae E S.t) S.h).out,S.ds⟩:=by cases aK:ao.op<;>simp only[aK]at h cM ⊢<;>first|exact h|(cases cM;done)
      have:=qztz (E:=E) (ρ:=ρ) (P:=P) (ops:=ops) hc hk hg h'.1 g a w S hs (fun _ _=>rfl) (fun _ _=>rfl) (fun a' w'=>∃g' S',K S'/\SR E g' S' a' w'/\Stp g S.h w g' S'.h w') Q (fun g' a' w' h1 h2=>⟨g',_,by rw[br];exact h'.2,h1,h2⟩)
      rwa [Aq (QJ (ops:=ops) fh _)]at this
    |true =>
      cases aK:ao.op<;>simp only[aK,Al.isCall]at cM<;>(try (cases cM;done))
      case callf f args =>simp only[aK]at h cW;obtain⟨as,ats,ho,he,ha⟩:=VX cW;rw[<-br]at h;exact NN hs (fun c hc=>by rw[ho]at hc;cases hc) (Wd ho he a w) (Kh hs.hr (fun x y bZ=>AP hs.hr hs.tm bZ) ha) (y:=id) (fun _ _ _ _ h=>h) h
      case callv x args =>
        simp only[aK]at h cW;obtain⟨x0,as,ats,ho,hx,ha⟩:=VY cW;rw[<-br]at h;have rx:=AP hs.hr hs.tm hx;split at h
        · rename_i f nb caps iq
          rw[iq]at rx;obtain⟨arr,hv,e8⟩:=QL rx;exact NN hs (fun c hc=>by rw[ho]at hc;cases hc) (We ho h.1 a w hv) (RVs.fnArgs (Kh hs.hr (fun x y bZ=>AP hs.hr hs.tm bZ) ha) e8) (y:=id) (fun _ _ _ _ h=>h) h.2
        · rename_i id ep hy
          rw[hy]at rx;exact VZ hs (fun c hc=>by rw[ho]at hc;cases hc) (Wa ho a w (Wb hs.hr h.ep rx)) (Kh hs.hr (fun x y bZ=>AP hs.hr hs.tm bZ) ha) (y:=_root_.id) (fun _ _ _ _ h=>h) h
        · exact h.elim
      case mnext x =>
        simp only[aK]at h cW;obtain⟨x0,ho,hx⟩:=qzux cW;rw[<-br]at h;have bK:∀c,o.op≠.defer c:=fun c hc=>by rw[ho]at hc;cases hc
        have over:∀{v:Value},v=.tuple #[.bool false]->(execOp a.eval o).run P w=.ok (.value v) w->K ⟨putT S.t o.dst (.tup [.bool false]),S.h,S.ds⟩->o.wpIn (FW ρ) 0 P a w (fun a' w'=>∃g' S',K S'/\SR E g' S' a' w'/\Stp g S.h w g' S'.h w') Q:=by
          rintro v rfl aO hK;refine NK (r:=⟨True,[],.tup [.bool false],none⟩) hs bK (Ran.same hs.hr aO (.tup _ _ rfl fun i y u hy hu=>?_)) (fun i ob e=>by cases e) (fun _ _ _ h=>h) (fun g' a' w' h1 h2=>⟨g',_,hK,h1,h2⟩)
          match i with
          |0=>simp at hy hu;subst hy;subst hu;exact .bool _
          |i+1=>simp at hy
        unfold Gl at h;split at h
        · rename_i id ep hX
          split at h
          · rename_i ep' M eM n seen hid
            split at h
            · rename_i eM' es hM
              obtain⟨rfl,rfl,hn,h1,h2⟩:=h;rcases qzye (P:=P) hs.hr hs.tm ho hx hX hid hM hn with ⟨h3,h4⟩|⟨k,hk,gI,hr⟩
              · exact over rfl h4 (h2 h3)
              · exact NK hs bK hr (fun i ob e=>by simp only[AZ,De]at e;obtain⟨rfl,_⟩:=e;rw[hid];trivial) (fun _ _ _ h=>h) (fun g' a' w' q1 q2=>⟨g',_,h1 k hk gI,q1,q2⟩)
            · exact h.elim
          · rename_i ep' seen hid
            obtain⟨rfl,h1⟩:=h;have hO:=hs.hr.obj id;rw[hid]at hO;have rx:=AP hs.hr hs.tm hx;rw[hX]at rx
            have hp:a.eval x0=.pointer (some ⟨g.blk id,0,none⟩):=by
              generalize a.eval x0=v at rx;cases rx with
              |ptr _ _ _ _ _ _ hp=>exact hp (by rw[hs.hr.ep id,hid];rfl)
            have hb:w.heap[g.blk id]?=some (.mapIter none 0 #[] 0):=hO;exact over rfl (by simp[execOp,ho,hp,Instr.next,getObj,Sem.run,hb,Result.andThen]) h1
          · exact h.elim
        · exact h.elim
  |some gd =>
    obtain⟨tg,want⟩:=gd;simp only[hg]at h;cases aX:BV (S.t.getD tg .top) want with
    |none=>simp only[aX]at h
    |some c =>
      simp only[aX]at h
      have cj:Region.wanted o (yielded ops a.tmps)=c:=by
        have fh:=hk.grd;rw[hg]at fh;obtain⟨j,jP,ge⟩:=fh;have h1:=VQ (hs.tm.getD tg) aX;rw[<-h1]
        have hy:yielded ops a.tmps j=QG (a.tmps.getD tg undef):=by
          simp only[yielded,ge,Option.bind_some];by_cases hl:tg<a.tmps.size
          · have e:a.tmps.getD tg undef=a.tmps[tg]:=by simp[Array.getD,hl]
            rw[E7 hl,e];cases a.tmps[tg]<;>rfl
          · have e:a.tmps.getD tg undef=undef:=by simp[Array.getD,hl]
            rw[Array.getElem?_eq_none (Nat.le_of_not_lt hl),e];rfl
        simp only[Region.wanted,jP,hy]
      have pass:c=false->∀v,K ⟨putT S.t ao.dst (.cnd false v),S.h,S.ds⟩->(∀f,o.about P w a.eval=some f->(FW ρ).fn f)/\(∃g' S',K S'/\SR E g' S' (a.put o.dst undef) w/\Stp g S.h w g' S'.h w):=by intro _ v hK;rw[<-br]at hK;exact⟨fun f _=>trivial,g,_,hK,⟨hs.hr,Kk hs.tm o.dst (.cnd _ _ _ (fun e=>by cases e) (fun _=>rfl)),by rw[Kl];exact hs.df,hs.dk,hs.dn⟩,.refl _ _ _⟩
      have call:∀(f:FuncId) (vs:List Value) (args:List Aa),(∀cc,o.op≠.defer cc)->(c=true->(execOp a.eval o).run P w=.ok (.enter f vs.toArray) w/\RVs g w args vs) -> ((∃v,(c=true->ATr E P f args S.h (fun v' h'=>v'=v/\h'=S.h))/\K ⟨putT S.t ao.dst (.cnd c v),S.h,S.ds⟩) \/ ((c=true->ATr E P f args S.h (fun v h'=>(∀D∈S.ds,h' D.1=.dfr D.2)/\K ⟨putT S.t ao.dst (.cnd true v),h',S.ds⟩))/\(c=false->K ⟨putT S.t ao.dst (.cnd false .top),S.h,S.ds⟩))) ->
          if Region.wanted o (yielded ops a.tmps) then o.wpIn (FW ρ) 0 P a w (fun a' w'=>∃g' S',K S'/\SR E g' S' a' w'/\Stp g S.h w g' S'.h w') Q
          else(∀f,o.about P w a.eval=some f->(FW ρ).fn f)/\(∃g' S',K S'/\SR E g' S' (a.put o.dst undef) w/\Stp g S.h w g' S'.h w):=by
        intro f vs args bK aO fk;rw[cj];cases c with
        |false =>
          simp only[Iq,Df];rcases fk with ⟨v,_,hK⟩|⟨_,hK⟩
          · exact pass rfl v hK
          · exact pass rfl _ (hK rfl)
        |true =>
          simp only[BK];obtain⟨hr,hv⟩:=aO rfl;have cnd:∀g' w' r v,RV g' w' r v->RV g' w' (.cnd true r) v:=fun _ _ _ _ h=>.cnd _ _ _ (fun _=>h) (fun e=>by cases e);rcases fk with ⟨v,hA,hK⟩|⟨hA,_⟩
          · refine NN hs bK hr hv (y:=fun r=>.cnd true r) cnd ((hA rfl).mono ?_)
            rintro r h' ⟨rfl,rfl⟩;exact⟨hs.dk,by rw[br];exact hK⟩
          · refine NN hs bK hr hv (y:=fun r=>.cnd true r) cnd ((hA rfl).mono ?_)
            rintro r h' ⟨h1,h2⟩;exact⟨h1,by rw[br];exact h2⟩
      cases cM:ao.op.isCall with
      |false =>
        have hc:=QK cW cM;have h':ao.op.quiet=true/\(c=true->ao.op.unAll E c S.t/\(ao.op.req (argU E S.t) S.h).ok)/\K ⟨putT S.t ao.dst (.cnd c (ao.op.req (argU E S.t) S.h).v),S.h,S.ds⟩:=by cases aK:ao.op<;>simp only[aK]at h cM ⊢<;>first|exact h|(cases cM;done)
        exact qzts (E:=E) (ρ:=ρ) (P:=P) (ops:=ops) hc hk hg aX (qzzu _ h'.1 _ _) h'.2.1 g a w S hs (fun _ _=>rfl) (fun _ _=>rfl) (fun a' w'=>∃g' S',K S'/\SR E g' S' a' w'/\Stp g S.h w g' S'.h w') Q
          (fun g' a' w' h1 h2=>⟨g',_,by rw[br];exact h'.2.2,h1,h2⟩) |> fun q=>by
            by_cases hw:Region.wanted o (yielded ops a.tmps)=true
            · rw[Aq hw]at q ⊢;exact q
            · rw[Ak hw]at q ⊢
              have gJ:c=false:=(by rw[<-cj];simpa using hw);subst gJ;exact pass rfl _ h'.2.2
      |true =>
        cases aK:ao.op<;>simp only[aK,Al.isCall]at cM<;>(try (cases cM;done))
        case mnext x=>simp only[aK]at h
        case callf f args =>
          simp only[aK,NL]at h cW;obtain⟨as,ats,ho,he,ha⟩:=VX cW
          have hu:c=true->BW c S.t args:=by
            intro e;rcases h with ⟨_,h1,_⟩|⟨h1,_⟩
            · exact(h1 e).1
            · exact(h1 e).1
          refine call f (as.toList.map a.eval) (args.map (argU E S.t)) (fun cc hc=>by rw[ho]at hc;cases hc) (fun e=>⟨Wd ho he a w,NO hs e ha (hu e)⟩) ?_;rcases h with ⟨v,h1,h2⟩|⟨h1,h2⟩
          · exact .inl ⟨v,fun e=>(h1 e).2,h2⟩
          · exact .inr ⟨fun e=>(h1 e).2,h2⟩
        case callv x args =>
          simp only[aK,NL,gyld]at h cW;have jk:=h.1;by_cases gJ:c=false
          · rw[cj,gJ]
            simp only[Iq,Df];exact pass gJ _ (jk gJ)
          have h:=h.2 (by simpa using gJ);obtain⟨x0,as,ats,ho,hx,ha⟩:=VY cW;split at h
          · rename_i f nb caps iq
            obtain⟨he,h⟩:=h
            have hu:c=true->BW c S.t (x :: args):=by
              intro e;rcases h with ⟨_,h1,_⟩|⟨h1,_⟩
              · exact(h1 e).1
              · exact(h1 e).1
            have aO:c=true->∃arr:Array Value,a.eval x0=.func (.func f) (arr.toList.take nb).toArray (arr.toList.drop nb).toArray/\RVs g w caps arr.toList/\RVs g w (args.map (argU E S.t)) (as.toList.map a.eval):=by
              intro e;have h1:yzw (x0 :: as.toList) (x :: args)=true:=by simp[yzw,hx,ha]
              have h2:=NO hs e h1 (hu e);have h3:=h2.2 0 (argU E S.t x) (a.eval x0) rfl rfl;rw[iq]at h3;obtain⟨arr,e1,e2⟩:=QL h3;exact⟨arr,e1,e2,by have:=h2.1;simpa using this,fun i y u hy hu=>h2.2 (i+1) y u (by simpa using hy) (by simpa using hu)⟩
            cases e9:c with
            |true =>
              obtain⟨arr,e1,e2,e3⟩:=aO e9;rw[e9]at h;refine call f (fnArgs nb (as.toList.map a.eval) arr.toList) (fnArgs nb (args.map (argU E S.t)) caps) (fun cc hc=>by rw[ho]at hc;cases hc) (fun e=>⟨We ho he a w e1,RVs.fnArgs e3 e2⟩) ?_;rw[e9];rcases h with ⟨v,h1,h2⟩|⟨h1,h2⟩
              · exact .inl ⟨v,fun e=>(h1 e).2,h2⟩
              · exact .inr ⟨fun e=>(h1 e).2,h2⟩
            |false =>
              rw[e9]at h;refine call f [] [] (fun cc hc=>by rw[ho]at hc;cases hc) (fun e=>by rw[e9]at e;cases e) ?_;rw[e9];rcases h with ⟨v,h1,h2⟩|⟨h1,h2⟩
              · exact .inl ⟨v,fun e=>(by cases e),h2⟩
              · exact .inr ⟨fun e=>(by cases e),h2⟩
          · rename_i id ep hy
            rw[cj];cases e9:c with
            |true =>
              simp only[BK];obtain⟨hu,hR⟩:=h.1 e9;have h1:yzw (x0 :: as.toList) (x :: args)=true:=by simp[yzw,hx,ha]
              have h2:=NO hs e9 h1 hu;have h3:=h2.2 0 (argU E S.t x) (a.eval x0) rfl rfl;rw[hy]at h3;have h4:RVs g w (args.map (argU E S.t)) (as.toList.map a.eval):=⟨by have:=h2.1;simpa using this,fun i y u hy hu=>h2.2 (i+1) y u (by simpa using hy) (by simpa using hu)⟩;rw[<-br]at hR;exact VZ hs (fun c hc=>by rw[ho]at hc;cases hc) (Wa ho a w (Wb hs.hr hR.ep h3)) h4 (y:=fun r=>.cnd true r) (fun _ _ _ _ h=>.cnd _ _ _ (fun _=>h) (fun e=>by cases e)) hR
            |false =>simp only[Iq,Df];exact pass e9 _ (h.2 e9)
          · exact h.elim
def yzf(P:Program)(ops:Array Oper):List Oper->List As->Bool
 |[],[]=>true
 |o :: l,a :: m=>Gn P ops o a&&yzf P ops l m
 |_,_=>false
theorem Wf{ops:Array Oper}{Q:Exit->Act->World->Prop}:∀{l:List Oper} {m:List As} {S:Ay} {K:Ay->Prop},yzf P ops l m=true->areg E P m S K->∀{g:Gh} {a:Act} {w:World},SR E g S a w -> (∀a' w',(∃g' S',K S'/\SR E g' S' a' w'/\Stp g S.h w g' S'.h w')->Q .normal a' w')->wpListIn (FW ρ) 0 P ops Q l a w
 |[],[],S,K,_,h,g,a,w,hs,hq=>hq a w ⟨g,S,h,hs,.refl _ _ _⟩
 |o :: l,ao :: m,S,K,hc,h,g,a,w,hs,hq=>by
  simp only[yzf,AE]at hc;refine wpListIn_step fun K' jS=>?_;have h1:=NP (ρ:=ρ) (Q:=Q) hc.1 h hs;have imp:∀a' w',(∃g' S',areg E P m S' K/\SR E g' S' a' w'/\Stp g S.h w g' S'.h w')->K' a' w':=by rintro a' w' ⟨g',S',h2,bi,st⟩;refine jS a' w' (Wf hc.2 h2 bi ?_);rintro a'' w'' ⟨g'',S'',hk,aZ,st'⟩;exact hq a'' w'' ⟨g'',S'',hk,aZ,st.trans st'⟩
  split at h1
  ·rename_i hw;rw[Aq hw];exact Oper.wpIn_mono imp h1
  ·rename_i hw;rw[Ak hw];exact⟨h1.1,imp _ _ h1.2⟩
 |[],_ :: _,_,_,h,_,_,_,_,_,_=>by cases h
 |_ :: _,[],_,_,h,_,_,_,_,_,_=>by cases h
def SReg(E:Nat->Aa)(P:Program)(m:List As)(S:Ay)(K:Ay->Prop):Prop := ∀(ρ:Option Nat) (ops:Array Oper) (Q:Exit->Act->World->Prop) (l:List Oper),yzf P ops l m=true->∀{g:Gh} {a:Act} {w:World},SR E g S a w -> (∀a' w',(∃g' S',K S'/\SR E g' S' a' w'/\Stp g S.h w g' S'.h w')->Q .normal a' w')->wpListIn (FW ρ) 0 P ops Q l a w
theorem SReg.nil{S:Ay}{K:Ay->Prop}(h:K S):SReg E P [] S K:=by
 intro ρ ops Q l hc g a w hs hq;cases l with
 |nil=>exact hq a w ⟨g,S,h,hs,.refl _ _ _⟩
 |cons o l=>cases hc
theorem SReg.cons{ao:As}{m:List As}{S:Ay}{K:Ay->Prop}(h:aop E P ao S (fun S'=>SReg E P m S' K)):SReg E P (ao :: m) S K:=by
 intro ρ ops Q l hc g a w hs hq;cases l with
 |nil=>cases hc
 |cons o l =>
  simp only[yzf,AE]at hc;refine wpListIn_step fun K' jS=>?_;have h1:=NP (ρ:=ρ) (Q:=Q) hc.1 h hs;have imp:∀a' w',(∃g' S',SReg E P m S' K/\SR E g' S' a' w'/\Stp g S.h w g' S'.h w')->K' a' w':=by rintro a' w' ⟨g',S',h2,bi,st⟩;refine jS a' w' (h2 ρ ops Q l hc.2 bi ?_);rintro a'' w'' ⟨g'',S'',hk,aZ,st'⟩;exact hq a'' w'' ⟨g'',S'',hk,aZ,st.trans st'⟩
  split at h1
  ·rename_i hw;rw[Aq hw];exact Oper.wpIn_mono imp h1
  ·rename_i hw;rw[Ak hw];exact⟨h1.1,imp _ _ h1.2⟩
theorem AWp.sregion{id:Nat}{ops:Array Oper}{m:List As}{S:Ay}{Q:Exit->Ay->Prop}(hc:yzf P ops ops.toList m=true)(h:SReg E P m S (Q .normal)):AWp E ρ P (.region id ops false) Q S:=by intro g a w hs;exact wpIn_region_list (h ρ ops _ _ hc hs (fun a' w' ⟨g',S',q,r⟩=>⟨g',S',q,r⟩))
theorem AWp.region{id:Nat}{ops:Array Oper}{m:List As}{S:Ay}{Q:Exit->Ay->Prop}(hc:yzf P ops ops.toList m=true)(h:areg E P m S (Q .normal)):AWp E ρ P (.region id ops false) Q S:=by intro g a w hs;exact wpIn_region_list (Wf hc h hs (fun a' w' ⟨g',S',q,r⟩=>⟨g',S',q,r⟩))
end
section
variable {E:Nat->Aa}{P:Program}{ρ:Option Nat}
def See(E:Nat->Aa)(S S':Ay):Prop:=∀(g:Gh) (a:Act) (w:World),SR E g S a w->∃g',SR E g' S' a w/\Stp g S.h w g' S'.h w
theorem See.refl(S:Ay):See E S S:=fun g a w h=>⟨g,h,.refl _ _ _⟩
theorem See.trans{S S' S'':Ay}(h:See E S S')(k:See E S' S''):See E S S'':=fun g a w hs =>
 let ⟨g',h1,s1⟩:=h g a w hs
 let ⟨g'',h2,s2⟩:=k g' a w h1
 ⟨g'',h2,s1.trans s2⟩
theorem See.of_sub{S S':Ay}(s:Sub S S'):See E S S':=fun g a w hs=>⟨g,hs.sub s,(Stp.refl g S.h w).sub s.h⟩
theorem SReg.see{m:List As}{S S':Ay}{K:Ay->Prop}(s:See E S S')(h:SReg E P m S' K):SReg E P m S K:=by intro ρ ops Q l hc g a w hs hq;obtain⟨g1,dh,st1⟩:=s g a w hs;refine h ρ ops Q l hc dh ?_;rintro a' w' ⟨g',S'',q,bi,st⟩;exact hq a' w' ⟨g',S'',q,bi,st1.trans st⟩
theorem AWp.see{c:Code}{Q:Exit->Ay->Prop}{S S':Ay}(s:See E S S')(h:AWp E ρ P c Q S'):AWp E ρ P c Q S:=by intro g a w hs;obtain⟨g',bi,st⟩:=s g a w hs;exact wpIn_mono (h g' a w bi) fun e a' w' ⟨g'',S'',q,aZ,st'⟩=>⟨g'',S'',q,aZ,st.trans st'⟩
theorem AWp.loop'{c:Code}{Q:Exit->Ay->Prop}{S:Ay}{U:Type}(inv:U->Ay)(J:U->Nat)(I:U->Prop)(x₀:U)(h₀:I x₀)(s₀:See E S (inv x₀))(round:∀x,I x->AWp E ρ P c (AL (fun S'=>∃x',I x'/\J x'<J x/\See E S' (inv x')) Q) (inv x)):AWp E ρ P (.loop c) Q S:=by
 refine AWp.see s₀ ?_;intro g a w hs;refine qzpq (fun x a' w'=>I x/\∃g',SR E g' (inv x) a' w'/\Stp g (inv x₀).h w g' (inv x).h w') J x₀ ⟨h₀,g,hs,.refl _ _ _⟩ ?_;rintro x a' w' ⟨hI,g',bi,st⟩;refine wpIn_mono (round x hI g' a' w' bi) ?_;rintro e a'' w'' ⟨g'',S'',q,aZ,st'⟩;cases e with
 |normal =>obtain⟨x',fB,hlt,sb⟩:=q;obtain⟨g3,jj,st3⟩:=sb g'' a'' w'' aZ;exact⟨x',⟨fB,g3,jj,(st.trans st').trans st3⟩,hlt⟩
 |_=>exact⟨g'',S'',q,aZ,st.trans st'⟩
inductive FV(id:Nat)(o:Ai):Aa->Aa->Prop where
 |refl (x:Aa):FV id o x x
 |top (x:Aa):FV id o x .top
 |box (ep off:Nat) (cs:List Aa) (f':Nat->Aa) (ho:o=.box ep cs) (h2:∀k,k<cs.length->f' k=cs.getD k .top):FV id o (.ptr id ep off) (.cptr f' cs.length off)
 |fn (fi:FuncId) (nb:Nat) (l l':List Aa) (hl:l'.length=l.length) (h:∀(i:Nat) (x y:Aa),l[i]?=some x->l'[i]?=some y->FV id o x y):FV id o (.fn fi nb l) (.fn fi nb l')
 |vec (ep st m:Nat) (f:Nat->List Aa) (lo n:Nat) (f':Nat->List Aa) (ho:o=.vec ep st m f) (h1:lo+n<=m) (h2:∀k,k<n->f' k=f (lo+k)):FV id o (.vec id ep lo n) (.slc st n f')
 |agg (l l':List Aa) (hl:l'.length=l.length) (h:∀(i:Nat) (x y:Aa),l[i]?=some x->l'[i]?=some y->FV id o x y):FV id o (.agg l) (.agg l')
 |tup (l l':List Aa) (hl:l'.length=l.length) (h:∀(i:Nat) (x y:Aa),l[i]?=some x->l'[i]?=some y->FV id o x y):FV id o (.tup l) (.tup l')
 |cnd (c:Bool) (x y:Aa) (h:FV id o x y):FV id o (.cnd c x) (.cnd c y)
def FVl(id:Nat)(o:Ai):List Aa->List Aa->Prop
 |[],[]=>True
 |x :: l,y :: k=>FV id o x y/\FVl id o l k
 |_,_=>False
theorem FVl.refl{id:Nat}{o:Ai}:∀l,FVl id o l l
 |[]=>trivial
 |x :: l=>⟨.refl x,FVl.refl l⟩
theorem FVl.at{id:Nat}{o:Ai}:∀{l k:List Aa},FVl id o l k->k.length=l.length/\∀(i:Nat) (x y:Aa),l[i]?=some x->k[i]?=some y->FV id o x y
 |[],[],_=>⟨rfl,fun i x y hx _=>by simp at hx⟩
 |x :: l,y :: k,h=>by
  obtain⟨h1,h2⟩:=FVl.at h.2;refine⟨by simp[h1],fun i u v hu hv=>?_⟩;cases i with
  |zero=>simp at hu hv;subst hu;subst hv;exact h.1
  |succ i=>exact h2 i u v (by simpa using hu) (by simpa using hv)
 |[],_ :: _,h=>h.elim
 |_ :: _,[],h=>h.elim
theorem FV.aggl{id:Nat}{o:Ai}{l k:List Aa}(h:FVl id o l k):FV id o (.agg l) (.agg k):=.agg l k h.at.1 h.at.2
theorem FV.tupl{id:Nat}{o:Ai}{l k:List Aa}(h:FVl id o l k):FV id o (.tup l) (.tup k):=.tup l k h.at.1 h.at.2
def OF(id:Nat)(o:Ai)(x x':Ai):Prop:=x'=x\/(∃e l l',x=.box e l/\x'=.box e l'/\FVl id o l l')\/(∃e st n f f',x=.vec e st n f/\x'=.vec e st n f'/\∀k,k<n->FVl id o (f k) (f' k)) \/ ∃e es es',x=.amap e es/\x'=.amap e es'/\es'.length=es.length/\∀(i:Nat) (a b:Aa×Aa),es[i]?=some a->es'[i]?=some b->FV id o a.1 b.1/\FV id o a.2 b.2
def frz(g:Gh)(id:Nat):Gh:=⟨g.blk,fun j=>if j=id then g.ep id+1 else g.ep j,g.bo,g.st,g.cp,fun b=>b=g.blk id\/g.fz b⟩
theorem NQ(g:Gh)(id:Nat)(w:World):GLe g w (frz g id) w:=by
 refine⟨fun b hb=>⟨.inr hb,rfl⟩,fun j=>?_,fun j hj=>⟨rfl,rfl,rfl,rfl⟩⟩;show g.ep j<=if j=id then g.ep id+1 else g.ep j;split
 ·rename_i e;subst e;omega
 ·exact AD _
theorem FV.rv{g:Gh}{h:Ax}{w:World}{id:Nat}{o:Ai}(H:HR E g h w)(hid:h id=o){x y:Aa}(hf:FV id o x y):∀{v:Value},RV g w x v->RV (frz g id) w y v:=by
 induction hf with
 |refl x=>intro v hv;exact hv.mono (NQ g id w)
 |top x=>intro v hv;exact .top v
 |box ep off cs f' ho h2 =>
  subst ho;intro v hv;have hO:=H.obj id;rw[hid]at hO;obtain⟨arr,ty,hb,hr⟩:=hO;cases hv with
  |ptr _ _ _ _ h1 he hp =>
   rw[hp (by rw[H.ep id,hid];rfl)];have aJ:arr.size=cs.length:=by simpa using hr.1
   have:=RV.cptr (g:=frz g id) (w:=w) f' cs.length off (g.blk id) 0 (fun j=>arr.getD j undef) (.inl rfl) (fun j hj=>by have:j<arr.size:=(by omega);simp[World.cell?,hb,this]) (fun j hj=>by rw[h2 j hj];exact(hr.getD j).mono (NQ g id w))
   rwa [Dj]at this
 |fn fi nb l l' hl h ih =>
  intro v hv;cases hv with
  |fn _ _ _ a hn hr =>
   refine .fn _ _ _ _ (by omega) fun i y u hy hu=>?_;have hi:i<l.length:=by rw[<-hl];exact(AU.1 hy).1
   exact ih i _ y (AG hi) hy (hr i _ u (AG hi) hu)
 |vec ep st m f lo n f' ho h1 h2 =>
  subst ho;intro v hv;have hO:=H.obj id;rw[hid]at hO;obtain⟨aH,h0,hn,arr,ty,hr,bn,aT⟩:=hO;obtain⟨ad,cap,rfl,aQ,hc⟩:=FB H hv (by rw[hid];rfl);rcases F0 n with e|e
  ·subst e;exact .slc0 _ _ _ _
  ·rcases hc with c9|⟨rfl,hc⟩;·omega
   ·have bG:∀i j,i<n->j<st->g.bo id+lo*g.st id+i*st+j<arr.size:=fun i j hi hj=>by
     have:=EB (k:=lo+i) (n:=g.cp id) (st:=st) (j:=j) (by omega) hj;rw[Bb]at this;rw[aH];omega
    have aI:∀i j,i<n->j<st->arr[g.bo id+lo*g.st id+i*st+j]?=some (arr.getD (g.bo id+lo*g.st id+i*st+j) undef):=fun i j hi hj=>by have:=bG i j hi hj;simp[this]
    have iu:∀i j,i<n->j<st->∀x,(f' i)[j]?=some x->(arr.getD (g.bo id+lo*g.st id+i*st+j) undef).oneCell'=true/\RV g w x (arr.getD (g.bo id+lo*g.st id+i*st+j) undef):=fun i j hi hj x hx=>by
     rw[h2 i hi]at hx;refine(aT (lo+i) (by omega)).2 j x _ hx ?_;have e4:g.bo id+(lo+i)*st+j=g.bo id+lo*g.st id+i*st+j:=by rw[aH,Bb];omega
     rw[e4];exact aI i j hi hj
    refine .slc st n f' (g.blk id) (g.bo id+lo*g.st id) cap (fun i j=>arr.getD (g.bo id+lo*g.st id+i*st+j) undef) (.inl rfl) aQ (fun i hi=>by rw[h2 i hi];exact(aT (lo+i) (by omega)).1) ?_ ?_ ?_
    ·intro i j hi hj;have:=bG i j hi hj;simp[World.cell?,hr,this]
    ·intro i j hi hj;have hl:(f' i).length=st:=(by rw[h2 i hi];exact(aT (lo+i) (by omega)).1);exact(iu i j hi hj _ (AG (by omega))).1
    ·intro i j x hi hx;have hl:(f' i).length=st:=(by rw[h2 i hi];exact(aT (lo+i) (by omega)).1);have hj:j<st:=(by have:=(AU.1 hx).1;omega);exact(iu i j hi hj x hx).2.mono (NQ g id w)
 |agg l l' hl h ih =>
  intro v hv;cases hv with
  |agg _ a hn hr =>
   refine .agg _ _ (by omega) fun i y u hy hu=>?_;have hi:i<l.length:=by rw[<-hl];exact(AU.1 hy).1
   exact ih i _ y (AG hi) hy (hr i _ u (AG hi) hu)
 |tup l l' hl h ih =>
  intro v hv;cases hv with
  |tup _ a hn hr =>
   refine .tup _ _ (by omega) fun i y u hy hu=>?_;have hi:i<l.length:=by rw[<-hl];exact(AU.1 hy).1
   exact ih i _ y (AG hi) hy (hr i _ u (AG hi) hu)
 |cnd c x y _ ih =>
  intro v hv;cases hv with
  |cnd _ _ _ h1 h0=>exact .cnd _ _ _ (fun e=>ih (h1 e)) h0
theorem FVl.rvs{g:Gh}{h:Ax}{w:World}{id:Nat}{o:Ai}(H:HR E g h w)(hid:h id=o){l k:List Aa}{a:List Value}(hf:FVl id o l k)(hv:RVs g w l a):RVs (frz g id) w k a:=by
 obtain⟨h1,h2⟩:=hf.at;refine⟨by rw[h1];exact hv.1,fun i y u hy hu=>?_⟩;have hi:i<l.length:=by rw[<-h1];exact(AU.1 hy).1
 exact(h2 i _ y (AG hi) hy).rv H hid (hv.2 i _ u (AG hi) hu)
theorem HR.freeze{g:Gh}{h h':Ax}{w:World}{id:Nat}{o:Ai}(H:HR E g h w)(hid:h id=o)(aP:o.owned=true)(hi:h' id=.gone (o.ep+1))(ho:∀j,j≠id->OF id o (h j) (h' j)):HR E (frz g id) h' w/\Stp g h w (frz g id) h' w:=by
 have aD:=NQ g id w;have bR:g.ep id=o.ep:=by rw[H.ep id,hid]
 rw[<-hid]at aP
 have own:∀j,(h' j).owned=true->j≠id/\(h j).owned=true:=by
  intro j hj;have aL:j≠id:=fun e=>by rw[e,hi]at hj;cases hj
  refine⟨aL,?_⟩;rcases ho j aL with e|⟨e,l,l',e1,e2,_⟩|⟨e,st,n,f,f',e1,e2,_⟩|⟨e,es,es',e1,e2,_⟩
  ·rw[<-e];exact hj
  ·rw[e1];rfl
  ·rw[e1];rfl
  ·rw[e1];rfl
 refine⟨⟨fun j=>?_,fun j=>?_,fun j k hj hk e=>H.inj j k (own j hj).2 (own k hk).2 e,fun j hj=>?_,fun b hb=>?_,fun i=>(H.glob i).mono aD⟩,⟨aD,rfl,rfl,rfl,AD _,fun _ _ _=>rfl,fun j hj=>.inl ⟨j,(own j hj).2,rfl⟩,fun b hb=>hb.elim (fun e=>.inr (.inl ⟨id,aP,e.symm⟩)) .inl,AD _⟩⟩
 ·by_cases e:j=id;·rw[e,hi];trivial
  ·have hO:=H.obj j;have mK:(frz g id).ep j=g.ep j:=Ak e;rcases ho j e with e'|⟨e0,l,l',e1,e2,hf⟩|⟨e0,st,n,f,f',e1,e2,hf⟩|⟨e0,es,es',e1,e2,gg,hf⟩
   ·rw[e'];exact hO.mono aD mK (fun _=>rfl)
   ·rw[e2];rw[e1]at hO;obtain⟨arr,ty,hr,bt⟩:=hO;exact⟨arr,ty,hr,hf.rvs H hid bt⟩
   ·rw[e2];rw[e1]at hO;obtain⟨aH,h0,bU,arr,ty,hr,bn,aT⟩:=hO;refine⟨aH,h0,bU,arr,ty,hr,bn,fun k hk=>?_⟩;obtain⟨q1,q2⟩:=(hf k hk).at;refine⟨q1.trans (aT k hk).1,fun i y u hy hu=>?_⟩;have hi:i<(f k).length:=by rw[<-q1];exact(AU.1 hy).1
    obtain⟨p1,p2⟩:=(aT k hk).2 i _ u (AG hi) hu;exact⟨p1,(q2 i _ y (AG hi) hy).rv H hid p2⟩
   ·rw[e2];rw[e1]at hO;obtain⟨arr,hr,aJ,aT⟩:=hO;refine⟨arr,by rw[gg];exact hr,by rw[gg];exact aJ,fun k y m hy hm=>?_⟩;have hi:k<es.length:=by rw[<-gg];exact(AU.1 hy).1
    obtain⟨p1,p2,p3⟩:=aT k _ m (AG hi) hm;obtain⟨q1,q2⟩:=hf k _ y (AG hi) hy;exact⟨q1.rv H hid p1,q2.rv H hid p2,p3⟩
 ·by_cases e:j=id;·subst e;rw[hi];show(if j=j then g.ep j+1 else g.ep j)=o.ep+1;rw[Aq rfl,bR]
  ·show(if j=id then g.ep id+1 else g.ep j)=_;rw[Ak e,H.ep j];rcases ho j e with e'|⟨e0,l,l',e1,e2,hf⟩|⟨e0,st,n,f,f',e1,e2,hf⟩|⟨e0,es,es',e1,e2,_⟩
   ·rw[e']
   ·rw[e1,e2];rfl
   ·rw[e1,e2];rfl
   ·rw[e1,e2];rfl
 ·obtain⟨aL,gK⟩:=own j hj;rintro(e|e)
  ·exact aL (H.inj j id gK aP e)
  ·exact H.sep j gK e
 ·rcases hb with rfl|hb;·exact(H.obj id).lt aP
  ·exact H.fzb b hb
theorem See.freeze{S S':Ay}{id:Nat}{o:Ai}(hid:S.h id=o)(aP:o.owned=true)(bB:o.plain)(hi:S'.h id=.gone (o.ep+1))(ho:∀j,j≠id->OF id o (S.h j) (S'.h j))(ht:FVl id o S.t S'.t)(cr:S'.ds=S.ds):See E S S':=by
 intro g a w hs;obtain⟨H',st'⟩:=hs.hr.freeze hid aP hi ho;refine⟨frz g id,⟨H',ht.rvs hs.hr hid hs.tm,by rw[cr];exact hs.df,fun D hD=>?_,by rw[cr];exact hs.dn⟩,st'⟩;rw[cr]at hD;have hd:=hs.dk D hD;have aL:D.1≠id:=fun e=>by rw[e,hid]at hd;rw[hd]at bB;exact bB
 rcases ho D.1 aL with e'|⟨e0,l,l',e1,e2,hf⟩|⟨e0,st,n,f,f',e1,e2,hf⟩|⟨e0,es,es',e1,e2,_⟩
 ·rw[e'];exact hd
 ·rw[e1]at hd;cases hd
 ·rw[e1]at hd;cases hd
 ·rw[e1]at hd;cases hd
inductive ARes where
 |t (n:Tmp)
 |c (n:Tmp) (agg:Bool) (sz:Nat)
def QM(P:Program):ResultVar->ARes->Bool
 |.tmp a,.t b=>a==b
 |.cell a ty,.c b agg sz=>a==b&&yzl P ty==some agg&&(!agg||szOf P ty==some sz)
 |_,_=>false
def Dm(P:Program):List ResultVar->List ARes->Bool
 |[],[]=>true
 |r :: l,s :: m=>QM P r s&&Dm P l m
 |_,_=>false
def ARes.ok(S:Ay):ARes->Prop
 |.t _=>True
 |.c n agg sz=>(CU agg sz (S.t.getD n .top) S.h).ok
def ARes.val(S:Ay):ARes->Aa
 |.t n=>S.t.getD n .top
 |.c n agg sz=>(CU agg sz (S.t.getD n .top) S.h).v
def FD(S:Ay):List ARes->Prop
 |[]=>True
 |r :: l=>r.ok S/\FD S l
def Gb(S:Ay):List ARes->Aa
 |[r]=>r.val S
 |l=>.tup (l.map (ARes.val S))
theorem qzu8(agg:Bool)(sz:Nat)(x:Aa)(h:Ax):(CU agg sz x h).out=none:=by
 unfold CU;repeat' split
 all_goals rfl
def Kp(tmps:Array Value):ResultVar->Sem Value
 |.tmp t=>pure (tmps.getD t undef)
 |.cell a t=>do loadVar t (<-asAddr (tmps.getD a undef))
theorem qzwk(fn:Func)(tmps:Array Value):results fn tmps=(do let vs <-fn.results.mapM (Kp tmps);pure (if h:vs.size=1 then vs[0] else .tuple vs)):=rfl
theorem wzc2{g:Gh}{w:World}{S:Ay}{tmps:Array Value}(H:HR E g S.h w)(ht:RVs g w S.t tmps.toList){r:ResultVar}{s:ARes}(hc:QM P r s=true)(aB:s.ok S) :
  ∃v,(Kp tmps r).run P w=.ok v w/\RV g w (s.val S) v:=by
 cases r<;>cases s<;>simp only[QM]at hc<;>(try (cases hc;done))
 ·simp only[Br]at hc
  subst hc
  exact⟨_,rfl,ht.getD _⟩
 ·rename_i a ty b agg sz
  simp only[AE,Br,Il,GV]at hc
  obtain⟨⟨rfl,hq⟩,hs⟩:=hc
  let o : Oper := { dst := none, op := .load ty (.tmp a), type := 0, pos := "", after := #[], guard := none }
  have aW:((Al.load agg sz (.t a)).req (Ae E S.t) S.h).ok:=aB
  obtain⟨n,v,w',g',aO,hn,hv,_,_,hout⟩:=Vi (E:=E) (P:=P) (o:=o) (a:=⟨tmps,[]⟩) (x:=.tmp a) (x':=.t a) H ht rfl (by simp[A8]) hq (fun e=>hs.resolve_left (by rw[e];simp)) aW
  obtain⟨rfl,rfl⟩:=hout (qzu8 _ _ _ _)
  have bL:((Instr.loadAt ty (tmps.getD a undef)).run P w').andThen (fun x w=>.ok (Next.value x) w)=.ok n w':=by
   simpa [execOp,o,Act.eval] using aO
  refine⟨v,?_,hv⟩
  simp only[Kp,Sem.run_bind]
  cases hp:tmps.getD a undef<;>simp only[hp,Instr.loadAt,Instr.sureAddr,Sem.run_bind,run_stuck,Result.andThen_halt]at bL<;>(try (cases bL;done))
  rename_i ad
  cases ad with
  |none=>simp only[Instr.sureAddr,run_stuck,Result.andThen_halt]at bL;cases bL
  |some ad =>
   simp only[Instr.sureAddr,Sem.run_pure,Result.andThen_ok,asAddr]at bL ⊢
   generalize (loadVar ty ad).run P w'=q at bL ⊢
   cases q with
   |halt x y=>cases bL
   |ok x y =>
    simp only[Result.andThen_ok,Result.ok.injEq]at bL
    obtain⟨rfl,rfl⟩:=bL
    rcases hn with hn|⟨hn,_⟩
    ·injection hn with hn;subst hn;rfl
    ·cases hn
theorem Wg{g:Gh}{w:World}{S:Ay}{tmps:Array Value}(H:HR E g S.h w)(ht:RVs g w S.t tmps.toList):∀{l:List ResultVar} {m:List ARes},Dm P l m=true->FD S m -> ∃vs,(l.mapM (Kp tmps)).run P w=.ok vs w/\RVs g w (m.map (ARes.val S)) vs
 |[],[],_,_=>⟨[],by simp,.nil g w⟩
 |r :: l,s :: m,hc,aB=>by simp only[Dm,AE]at hc;obtain⟨v,h1,h2⟩:=wzc2 H ht hc.1 aB.1;obtain⟨vs,h3,h4⟩:=Wg H ht hc.2 aB.2;refine⟨v :: vs,?_,.cons h2 h4⟩;rw[List.mapM_cons,Sem.run_bind,h1];simp only[Result.andThen_ok,Sem.run_bind,h3,Sem.run_pure]
 |[],_ :: _,h,_=>by cases h
 |_ :: _,[],h,_=>by cases h
theorem qzuo{g:Gh}{w:World}{S:Ay}{tmps:Array Value}{fn:Func}{rs:List ARes}(H:HR E g S.h w)(ht:RVs g w S.t tmps.toList)(hc:Dm P fn.results.toList rs=true)(aB:FD S rs) : ∃v,(results fn tmps).run P w=.ok v w/\RV g w (Gb S rs) v:=by
 obtain⟨vs,h1,h2⟩:=Wg H ht hc aB;have hm:(fn.results.mapM (Kp tmps)).run P w=.ok vs.toArray w:=by rw[Array.mapM_eq_mapM_toList];simp only[Sem.run_map,h1,Result.andThen_ok]
 have hl:=h2.1;simp only[Fy]at hl;rw[qzwk,Sem.run_bind,hm];simp only[Result.andThen_ok]
 match rs,vs,hl,h2 with
 |[r],[v],_,h2=>exact⟨v,by simp,h2.2 0 _ v rfl rfl⟩
 |[],[],_,h2=>exact⟨.tuple #[],by simp,.tup _ _ rfl (fun i x v hx _=>by simp at hx)⟩
 |r :: s :: l,v :: u :: k,hl,h2 =>refine⟨.tuple (v :: u :: k).toArray,by simp,?_⟩;exact .tup _ _ (by simp at hl ⊢;omega) (fun i x y hx hy=>h2.2 i x y hx (by simpa using hy))
def Post(E:Nat->Aa)(rs:List ARes)(R:Aa->Ax->Prop):Exit->Ay->Prop
 |.normal,S | .ret,S=>∃S',See E S S'/\FD S' rs/\∃h',(∀i,OSub (S'.h i) (h' i))/\(∀D∈S'.ds,∃e,h' D.1=.gone e)/\R (Gb S' rs) h'
 |_,_=>False
theorem Wh{fn:Func}{tmps:Array Value}{R:Ending->World->Prop}{g:Gh}:∀(ds:List (Nat×Nat)) (h:Ax) (w:World),HR E g h w->(∀D∈ds,h D.1=.dfr D.2)->(ds.map (·.1)).Nodup -> (∀h' w',HR E g h' w'->Stp g h w g h' w'->(∀i,(∀D∈ds,i≠D.1)->h' i=h i)->(∀D∈ds,h' D.1=.gone D.2)->LeavesIn (FW ρ) 0 P fn tmps R [] .returning w') ->
  LeavesInM (FW ρ) 0 P fn tmps R (ds.map fun D=>{ target:=.collected (g.blk D.1),args:=#[] }) .returning w
 |[],h,w,H,_,_,hk=>hk h w H (.refl _ _ _) (fun _ _=>rfl) (fun D hD=>by cases hD)
 |D :: ds,h,w,H,hd,hn,hk=>by
  have h1:=hd D (Be ..);have hO:=H.obj D.1;rw[h1]at hO;have hO:w.heap[g.blk D.1]?=some (.deferred (some [])):=hO;have aP:(h D.1).owned=true:=by rw[h1];rfl
  have bS:=H.sep D.1 aP;have bF:g.ep D.1=D.2:=by rw[H.ep D.1,h1];rfl
  simp only[JZ,List.nodup_cons]at hn;refine⟨by simp,.inl ⟨g.blk D.1,w.putObj (g.blk D.1) (.deferred none),rfl,run_takeDeferred hO,?_⟩⟩;have aD:GLe g w g (w.putObj (g.blk D.1) (.deferred none)):=⟨fun b hb=>⟨hb,World.putObj_heap_other (fun e=>bS (e▸hb))⟩,fun _=>AD _,fun _ _=>⟨rfl,rfl,rfl,rfl⟩⟩;obtain⟨H',st⟩:=HR.upd (g':=g) (w':=w.putObj (g.blk D.1) (.deferred none)) (i:=D.1) (o':=.gone D.2) H aD (fun _ _=>rfl) bF (fun b _ aL=>World.putObj_heap_other (aL aP)) (by simp) trivial (fun e=>by cases e) (fun e=>by cases e) (fun b hb=>.inl hb) (fun b hb=>by simpa using H.fzb b hb) rfl rfl rfl;have aL:∀D'∈ds,D'.1≠D.1:=fun D' hD' e=>hn.1 (FX.2 ⟨D',hD',e⟩);refine Wh ds _ _ H' (fun D' hD'=>?_) hn.2 (fun h' w' H2 st2 bC eB=>?_)
  ·simp only[hset,Ak (aL D' hD')];exact hd D' (Bi _ hD')
  ·refine hk h' w' H2 (st.trans st2) (fun i hi=>?_) (fun D' hD'=>?_);·rw[bC i (fun D' hD'=>hi D' (Bi _ hD'))];simp only[hset,Ak (hi D (Be ..))]
   ·rcases AM.1 hD' with rfl|hD';·rw[bC _ (fun D'' jT=>(aL D'' jT).symm)];simp[hset]
    ·exact eB D' hD'
theorem qz02{agg:Bool}{sz:Nat}{x:Aa}{h h':Ax}(aB:(CU agg sz x h).ok)(hh:∀i,(∃ep cs,h i=.box ep cs)\/(∃ep st n f,h i=.vec ep st n f)->h' i=h i):CU agg sz x h'=CU agg sz x h:=by
 unfold CU at aB ⊢;cases x<;>simp only[Req.fail]at aB ⊢
 case ptr id ep off =>cases hq:h id<;>simp only[hq]at aB<;>first|exact aB.elim|rw[hh id (.inl ⟨_,_,hq⟩),hq]
 case eptr id ep i off =>cases hq:h id<;>simp only[hq]at aB<;>first|exact aB.elim|rw[hh id (.inr ⟨_,_,_,_,hq⟩),hq]
theorem ATr.of_body{f:FuncId}{fn:Func}{c:Code}{args:List Aa}{h:Ax}{R:Aa->Ax->Prop}{rs:List ARes}(hf:P.funcs[f]?=some fn)(hb:fn.body=some c)(hr:Dm P fn.results.toList rs=true)(hw:AWp E none P c (Post E rs R) ⟨args++List.replicate (fn.ntmps-args.length) .top,h,[]⟩):ATr E P f args h R:=by
 intro g w vs H hv;rw[<-Q2 (ρ:=none) (n:=0)];refine callsIn_of_wp_marks hf hb trivial ?_;have aF:=hv.1
 have hs:SR E g ⟨args++List.replicate (fn.ntmps-args.length) .top,h,[]⟩ { tmps:=vs.toArray++Array.replicate (fn.ntmps-vs.toArray.size) undef,defers:=[] } w:=by
  refine⟨H,?_,rfl,(fun D hD=>by cases hD),by simp⟩;have e:(vs.toArray++Array.replicate (fn.ntmps-vs.toArray.size) undef).toList=vs++List.replicate (fn.ntmps-args.length) undef:=by simp[aF]
  rw[e];refine hv.append ⟨by simp,fun i x v hx hv=>?_⟩;have:x=.top:=by have:=BH hx;exact List.eq_of_mem_replicate this
  subst this;exact .top _
 refine wpIn_mono (hw g _ w hs) ?_;rintro e a' w' ⟨g',S',q,bi,st⟩
 have key:Post E rs R .ret S'->LeavesInM (FW none) 0 P fn a'.tmps (fun e w'=>∃g' h' r v,R r h'/\e=.returned v/\RV g' w' r v/\HR E g' h' w'/\Stp g h w g' h' w') a'.defers .returning w':=by
  rintro⟨S'',see,aB,h',cx,eB,hR⟩;obtain⟨g'',aZ,st'⟩:=see g' a' w' bi;rw[aZ.df];refine Wh S''.ds S''.h w' aZ.hr aZ.dk aZ.dn (fun h3 w3 H3 st3 bC jU=>?_);have cr:∀i,(∃ep cs,S''.h i=.box ep cs)\/(∃ep st n f,S''.h i=.vec ep st n f)->h3 i=S''.h i:=by intro i hi;refine bC i (fun D hD e=>?_);have:=aZ.dk D hD;rw[<-e]at this;rcases hi with ⟨_,_,h⟩|⟨_,_,_,_,h⟩<;>(rw[h]at this;cases this)
  have bq:∀r:ARes,r.ok S''->(r.ok ⟨S''.t,h3,S''.ds⟩/\r.val ⟨S''.t,h3,S''.ds⟩=r.val S''):=by
   intro r hr;cases r with
   |t n=>exact⟨trivial,rfl⟩
   |c n agg sz =>have:=qz02 (h':=h3) hr cr;exact⟨by show(CU _ _ _ h3).ok;rw[this];exact hr,by show(CU _ _ _ h3).v=_;rw[this];rfl⟩
  have be:∀l:List ARes,FD S'' l->FD ⟨S''.t,h3,S''.ds⟩ l/\l.map (ARes.val ⟨S''.t,h3,S''.ds⟩)=l.map (ARes.val S''):=by
   intro l;induction l with
   |nil=>intro _;exact⟨trivial,rfl⟩
   |cons r l ih =>intro h;obtain⟨a1,a2⟩:=bq r h.1;obtain⟨b1,b2⟩:=ih h.2;exact⟨⟨a1,b1⟩,by simp[a2,b2]⟩
  obtain⟨jV,cT⟩:=be rs aB
  have bt:Gb ⟨S''.t,h3,S''.ds⟩ rs=Gb S'' rs:=by
   cases rs with
   |nil=>rfl
   |cons r l =>
    cases l with
    |nil=>simpa [Gb] using cT
    |cons s l=>simp only[Gb,cT]
  obtain⟨v,aO,co⟩:=qzuo (P:=P) (fn:=fn) (S:=⟨S''.t,h3,S''.ds⟩) H3 (aZ.tm.mono st3.le) hr jV;rw[bt]at co
  have fO:∀i,OSub (h3 i) (h' i):=by
   intro i;by_cases hi:∃D∈S''.ds,i=D.1
   ·obtain⟨D,hD,rfl⟩:=hi;obtain⟨e,he⟩:=eB D hD;rw[jU D hD,he];have:=cx D.1;rw[aZ.dk D hD,he]at this;rcases this with h1|h1|⟨_,_,_,_,_,h1,_⟩
    ·simp only[Ai.ep,Ai.gone.injEq]at h1;subst h1;exact .refl _
    ·cases h1
    ·cases h1
   ·rw[bC i (fun D hD e=>hi ⟨D,hD,e⟩)];exact cx i
  exact⟨v,aO,g'',h',_,v,hR,rfl,co,H3.sub fO,((st.trans st').trans st3).sub fO⟩
 cases e with
 |normal=>exact key q
 |ret=>exact key q
 |exit id=>exact q.elim
 |goto l=>exact q.elim
 |panic c=>exact q.elim
 |outgrown=>exact q.elim
end
def looks(o:As):List Tmp:=(match o.guard with | some (g,_)=>[g] | none=>[])++C8 o.op.args
def AY(E:Nat->Aa)(P:Program)(f:FuncId)(args:List Aa)(v:Aa):Prop:=∀h,ATr E P f args h (fun v' h'=>v'=v/\h'=h)
def C9(E:Nat->Aa)(P:Program)(f:FuncId)(args:List Aa)(h:Ax)(rd:List Nat)(v:Aa):Prop := ∀h',(∀j∈rd,h' j=h j)->ATr E P f args h' (fun v' cH=>v'=v/\cH=h')
theorem AY.on{E:Nat->Aa}{P:Program}{f:FuncId}{args:List Aa}{v:Aa}(H:AY E P f args v)(h:Ax)(rd:List Nat):C9 E P f args h rd v:=fun h' _=>H h'
theorem C9.agree{E:Nat->Aa}{P:Program}{f:FuncId}{args:List Aa}{h h1:Ax}{rd:List Nat}{v:Aa}(H:C9 E P f args h rd v)(hh:∀j∈rd,h1 j=h j):C9 E P f args h1 rd v :=
 fun h' e=>H h' fun j hj=>(e j hj).trans (hh j hj)
def VEq(v' v:Aa):Prop:=∀(g:Gh) (w:World) (u:Value),RV g w v' u->RV g w v u
theorem VEq.refl(v:Aa):VEq v v:=fun _ _ _ h=>h
theorem VEq.rv{g:Gh}{w:World}{v' v:Aa}(h:VEq v' v){u:Value}(hr:RV g w v' u):RV g w v u:=h g w u hr
theorem VEq.cnd{c:Bool}{x y:Aa}(h:c=true->VEq x y):VEq (.cnd c x) (.cnd c y):=fun g w u hr=>by
 cases hr with
 |cnd _ _ _ h1 h0=>exact .cnd _ _ _ (fun e=>h e g w u (h1 e)) h0
structure OEq(o' o:Ai):Prop where
 ep:o.ep=o'.ep
 own:o.owned=true->o'.owned=true
 dfr:∀e,o'=.dfr e->o=.dfr e
 rel:∀(g:Gh) (w:World) (i:Nat),OR g w i o'->OR g w i o
 mp:∀e es,o'=.amap e es->o=.amap e es
theorem OEq.refl(o:Ai):OEq o o:=⟨rfl,id,fun _ h=>h,fun _ _ _ h=>h,fun _ _ h=>h⟩
def OutW(h:Ax):Option (Nat×Ai)->Option (Nat×Ai)->Prop
 |none,none=>True
 |some (i,o'),some (j,o)=>i=j/\OEq o' o
 |none,some (j,o)=>OEq (h j) o
 |some (i,o'),none=>o'=h i
theorem OutW.refl{h:Ax}:∀(o:Option (Nat×Ai)),OutW h o o
 |none=>trivial
 |some (i,o)=>⟨rfl,.refl o⟩
theorem OutW.put{h:Ax}{a b:Option (Nat×Ai)}(H:OutW h a b)(i:Nat):OEq (putH h a i) (putH h b i):=by
 cases a with
 |none =>
  cases b with
  |none=>exact .refl _
  |some q =>
   obtain⟨j,o⟩:=q;show OEq (h i) (if i=j then o else h i);split
   ·rename_i e;subst e;exact H
   ·exact .refl _
 |some p =>
  obtain⟨k,o'⟩:=p;cases b with
  |none =>
   have H:o'=h k:=H;show OEq (if i=k then o' else h i) (h i);split
   ·rename_i e;subst e;rw[H];exact .refl _
   ·exact .refl _
  |some q =>
   obtain⟨j,o⟩:=q;obtain⟨rfl,H⟩:=H;show OEq (if i=k then o' else h i) (if i=k then o else h i);split
   ·exact H
   ·exact .refl _
theorem HR.oeq{E:Nat->Aa}{g:Gh}{h h':Ax}{w:World}(H:HR E g h w)(s:∀i,OEq (h i) (h' i)):HR E g h' w := ⟨fun i=>(s i).rel _ _ _ (H.obj i),fun i=>by rw[H.ep i,(s i).ep],fun i j hi hj e=>H.inj i j ((s i).own hi) ((s j).own hj) e,fun i hi=>H.sep i ((s i).own hi),H.fzb,H.glob⟩
theorem Stp.oeq{g g':Gh}{h h' cH:Ax}{w w':World}(a:Stp g h w g' h' w')(s:∀i,OEq (h' i) (cH i)):Stp g h w g' cH w' := ⟨a.le,a.os,a.tape,a.output,a.size,a.keep,fun i hi=>a.own i ((s i).own hi),a.fzn,a.drawn⟩
def DFz(E:Nat->Aa)(P:Program)(f:FuncId)(xs:List Aa)(h:Ax)(v:Aa)(rd:List Nat)(out:Option (Nat×Ai)):Prop := ∃i,i∈rd/\(h i).plain/\((out=some (i,.gone ((h i).ep+1))/\(h i).owned=true/\∃ys,FVl i (h i) xs ys/\AY E P f ys v)\/(out=some (i,h i)/\AY E P f xs v)\/∃ob,out=some (i,ob)/\∀h',(∀j∈rd,h' j=h j)->ATr E P f xs h' (fun v' cH=>v'=v/\cH=putH h' (some (i,ob))))
def D2(E:Nat->Aa)(P:Program)(o:As)(S:Ay)(v:Aa)(rd:List Nat)(out:Option (Nat×Ai)):Prop :=
 match o.guard with
 |none=>∃f args,o.op=.callf f args/\DFz E P f (args.map (Ae E S.t)) S.h v rd out
 | some (tg,want)=>∃c x,BV (S.t.getD tg .top) want=some c/\v=.cnd c x/\(c=false->out=none)/\((∃f args,o.op=.callf f args/\(c=true->BW c S.t args/\DFz E P f (args.map (argU E S.t)) S.h x rd out)) \/
  (o.op.isCall=false/\(c=true->o.op.unAll E c S.t/\(o.op.req (argU E S.t) S.h).ok/\VEq (o.op.req (argU E S.t) S.h).v x/\(∀j∈(o.op.req (argU E S.t) S.h).rd,j∈rd)/\OutW S.h (o.op.req (argU E S.t) S.h).out out/\∀i ob,out=some (i,ob)->i∈rd)))
def BJ(E:Nat->Aa)(P:Program)(o:As)(S:Ay)(v:Aa)(rd:List Nat)(out:Option (Nat×Ai)):Prop :=
 match o.guard with
 |none=>match o.op with
  |.callf f args=>C9 E P f (args.map (Ae E S.t)) S.h rd v/\out=none
  |.callv x args=>(∃f nb caps,Ae E S.t x=.fn f nb caps/\Ci P f=true/\C9 E P f (fnArgs nb (args.map (Ae E S.t)) caps) S.h rd v)/\out=none
  |op=>(op.req (Ae E S.t) S.h).ok/\VEq (op.req (Ae E S.t) S.h).v v/\(∀j∈(op.req (Ae E S.t) S.h).rd,j∈rd)/\OutW S.h (op.req (Ae E S.t) S.h).out out/\∀i ob,out=some (i,ob)->i∈rd
 |some (tg,want)=>∃c x,BV (S.t.getD tg .top) want=some c/\v=.cnd c x/\out=none/\match o.op with
  |.callf f args=>c=true->BW c S.t args/\C9 E P f (args.map (argU E S.t)) S.h rd x
  |.callv y args=>c=true->∃f nb caps,argU E S.t y=.fn f nb caps/\Ci P f=true/\BW c S.t (y :: args)/\C9 E P f (fnArgs nb (args.map (argU E S.t)) caps) S.h rd x
  |op=>op.quiet=true/\(c=true->op.unAll E c S.t/\(op.req (argU E S.t) S.h).ok/\VEq (op.req (argU E S.t) S.h).v x/\∀j∈(op.req (argU E S.t) S.h).rd,j∈rd)
def BX(E:Nat->Aa)(P:Program)(o:As)(S:Ay)(v:Aa)(rd:List Nat)(out:Option (Nat×Ai)):Prop:=BJ E P o S v rd out\/D2 E P o S v rd out
section
variable {E:Nat->Aa}{P:Program}{ρ:Option Nat}
theorem Wi{o:As}{S:Ay}{v:Aa}{rd:List Nat}{out:Option (Nat×Ai)}(cX:∀D∈S.ds,S.h D.1=.dfr D.2)(h:BJ E P o S v rd out) :
  aop E P o S (fun S'=>∃v' out',VEq v' v/\OutW S.h out' out/\S'=⟨putT S.t o.dst v',putH S.h out',S.ds⟩):=by
 unfold BJ at h;unfold aop;simp only[NL,gyld];cases hg:o.guard with
 |none =>
  simp only[hg]at h ⊢;cases aK:o.op<;>simp only[aK]at h ⊢
  case callf f args =>obtain⟨h1,rfl⟩:=h;refine(h1 S.h (fun _ _=>rfl)).mono ?_;rintro v' h' ⟨rfl,rfl⟩;exact⟨cX,_,none,.refl _,trivial,rfl⟩
  case callv x args =>obtain⟨⟨f,nb,caps,hx,he,h1⟩,rfl⟩:=h;rw[hx];refine⟨he,(h1 S.h (fun _ _=>rfl)).mono ?_⟩;rintro v' h' ⟨rfl,rfl⟩;exact⟨cX,_,none,.refl _,trivial,rfl⟩
  case mnext x=>exact h.1.elim
  all_goals
   obtain⟨h1,hv,_,ho,_⟩:=h;exact⟨h1,_,_,hv,ho,rfl⟩
 |some y =>
  obtain⟨tg,want⟩:=y;simp only[hg]at h ⊢;obtain⟨c,x,hc,rfl,rfl,h⟩:=h;simp only[hc];cases aK:o.op<;>simp only[aK]at h ⊢
  case callf f args =>exact .inl ⟨x,fun e=>⟨(h e).1,(h e).2 S.h (fun _ _=>rfl)⟩,_,none,.refl _,trivial,rfl⟩
  case callv y args =>
   refine⟨fun e=>?_,fun e=>?_⟩
   ·subst e;exact⟨_,none,.cnd (fun e=>by cases e),trivial,rfl⟩
   ·obtain⟨f,nb,caps,hx,he,h1,h2⟩:=h e;rw[hx];exact⟨he,.inl ⟨x,fun e=>⟨h1,h2 S.h (fun _ _=>rfl)⟩,_,none,.refl _,trivial,rfl⟩⟩
  case mnext x=>cases h.1
  all_goals
   obtain⟨hq,h1⟩:=h;exact⟨hq,fun e=>⟨(h1 e).1,(h1 e).2.1⟩,_,none,.cnd (fun e=>(h1 e).2.2.1),trivial,rfl⟩
theorem SR.veq{g:Gh}{S:Ay}{t t':List Aa}{h h':Ax}{a:Act}{w:World}(hs:SR E g ⟨t,h,S.ds⟩ a w)(hl:t'.length=t.length)(hv:∀(i:Nat) (x y:Aa),t[i]?=some x->t'[i]?=some y->VEq x y)(ho:∀i,OEq (h i) (h' i)):SR E g ⟨t',h',S.ds⟩ a w:=by
 refine⟨hs.hr.oeq ho,⟨by rw[hl];exact hs.tm.1,fun i y u hy hu=>?_⟩,hs.df,fun D hD=>(ho D.1).dfr _ (hs.dk D hD),hs.dn⟩;have hi:i<t.length:=by rw[<-hl];exact(AU.1 hy).1
 have hx:t[i]?=some t[i]:=AG hi;exact(hv i _ y hx hy).rv (hs.tm.2 i _ u hx hu)
theorem qz25{t:List Aa}{d:Option Tmp}{v' v:Aa}(h:VEq v' v):∀(i:Nat) (x y:Aa),(putT t d v')[i]?=some x->(putT t d v)[i]?=some y->VEq x y:=by
 intro i x y hx hy;cases d with
 |none=>simp only[putT]at hx hy;rw[hx]at hy;cases hy;exact .refl _
 |some d =>
  simp only[putT,JW]at hx hy;by_cases e:d=i
  ·simp only[e,BK]at hx hy;split at hx<;>simp_all
  ·simp only[e,Df]at hx hy;rw[hx]at hy;cases hy;exact .refl _
theorem qzu4(t:List Aa)(d:Option Tmp)(v:Aa):(putT t d v).length=t.length:=by cases d<;>simp[putT]
theorem ATr.fz{f:FuncId}{xs ys:List Aa}{h:Ax}{i:Nat}{R:Aa->Ax->Prop}(aP:(h i).owned=true)(hf:FVl i (h i) xs ys)(H:ATr E P f ys (hset h i (.gone ((h i).ep+1))) R):ATr E P f xs h R:=fun g w vs hh hv=>by obtain⟨H',st⟩:=hh.freeze (id:=i) (h':=hset h i (.gone ((h i).ep+1))) rfl aP (by simp[hset]) (fun j hj=>.inl (by simp[hset,hj]));exact(H _ w vs H' (hf.rvs hh rfl hv)).mono fun _ _ ⟨g',h',r,v,q,e,rv,hr,st'⟩=>⟨g',h',r,v,q,e,rv,hr,st.trans st'⟩
theorem DFz.atr{f:FuncId}{xs:List Aa}{h:Ax}{v:Aa}{rd:List Nat}{out:Option (Nat×Ai)}(H:DFz E P f xs h v rd out){ds:List (Nat×Nat)}(cX:∀D∈ds,h D.1=.dfr D.2):ATr E P f xs h (fun v' h'=>(∀D∈ds,h' D.1=.dfr D.2)/\v'=v/\h'=putH h out):=by
 obtain⟨i,_,h2,⟨rfl,h1,ys,h3,h4⟩|⟨rfl,h4⟩|⟨ob,rfl,h4⟩⟩:=H
 ·refine ATr.fz h1 h3 ((h4 _).mono ?_);rintro v' h' ⟨rfl,rfl⟩;refine⟨fun D hD=>?_,rfl,rfl⟩;show(if D.1=i then _ else h D.1)=_;rw[Ak (fun e=>by rw[<-e,cX D hD]at h2;exact h2)];exact cX D hD
 ·refine(h4 h).mono ?_;rintro v' h' ⟨rfl,rfl⟩;refine⟨cX,rfl,funext fun j=>?_⟩;show _=if j=i then _ else _;split
  ·rename_i e;rw[e]
  ·rfl
 ·refine(h4 h fun _ _=>rfl).mono ?_;rintro v' h' ⟨rfl,rfl⟩;refine⟨fun D hD=>?_,rfl,rfl⟩;show(if D.1=i then _ else h D.1)=_;rw[Ak (fun e=>by rw[<-e,cX D hD]at h2;exact h2)];exact cX D hD
theorem Wj{ops:Array Oper}{o:Oper}{ao:As}{S:Ay}{v:Aa}{rd:List Nat}{out:Option (Nat×Ai)}(cl:Gn P ops o ao=true)(h:BX E P ao S v rd out){g:Gh}{a:Act}{w:World}(hs:SR E g S a w){Q:Exit->Act->World->Prop}{K:Act->World->Prop} (hK:∀g' a' w',SR E g' ⟨putT S.t ao.dst v,putH S.h out,S.ds⟩ a' w'->Stp g S.h w g' (putH S.h out) w'->K a' w') :
  if Region.wanted o (yielded ops a.tmps) then o.wpIn (FW ρ) 0 P a w K Q else(∀f,o.about P w a.eval=some f->(FW ρ).fn f)/\K (a.put o.dst undef) w:=by
 have adj:∀{v':Aa} {out':Option (Nat×Ai)},VEq v' v->OutW S.h out' out->∀g' a' w',SR E g' ⟨putT S.t ao.dst v',putH S.h out',S.ds⟩ a' w'->Stp g S.h w g' (putH S.h out') w'->K a' w':=fun hv ho g' a' w' bi st =>
  hK g' a' w' (bi.veq (S:=S) (by simp[qzu4]) (qz25 hv) ho.put) (st.oeq ho.put)
 have run:aop E P ao S (fun S'=>∃v' out',VEq v' v/\OutW S.h out' out/\S'=⟨putT S.t ao.dst v',putH S.h out',S.ds⟩)->if Region.wanted o (yielded ops a.tmps) then o.wpIn (FW ρ) 0 P a w K Q else(∀f,o.about P w a.eval=some f->(FW ρ).fn f)/\K (a.put o.dst undef) w:=by
  intro h0;have h1:=NP (ρ:=ρ) (Q:=Q) cl h0 hs;have imp:∀a' w',(∃g' S',(∃v' out',VEq v' v/\OutW S.h out' out/\S'=⟨putT S.t ao.dst v',putH S.h out',S.ds⟩)/\SR E g' S' a' w'/\Stp g S.h w g' S'.h w')->K a' w':=by rintro a' w' ⟨g',_,⟨v',out',hv,ho,rfl⟩,bi,st⟩;exact adj hv ho g' a' w' bi st
  split at h1
  ·rename_i hw;rw[Aq hw];exact Oper.wpIn_mono imp h1
  ·rename_i hw;rw[Ak hw];exact⟨h1.1,imp _ _ h1.2⟩
 rcases h with h|h
 ·exact run (Wi hs.dk h)
 ·unfold D2 at h;cases hg:ao.guard with
  |none =>simp only[hg]at h;obtain⟨f,args,aK,h⟩:=h;refine run ?_;unfold aop;simp only[hg,aK];refine(h.atr hs.dk).mono ?_;rintro v' h' ⟨h1,rfl,rfl⟩;exact⟨h1,_,out,.refl _,.refl _,rfl⟩
  |some y =>
   obtain⟨tg,want⟩:=y;simp only[hg]at h;obtain⟨c,x,hc,rfl,hn,h⟩:=h;rcases h with ⟨f,args,aK,h⟩|⟨cM,h⟩
   ·refine run ?_;unfold aop;simp only[hg,hc,aK,NL];refine .inr ⟨fun e=>⟨(h e).1,((h e).2.atr hs.dk).mono ?_⟩,fun e=>?_⟩
    ·rintro v' h' ⟨h1,rfl,rfl⟩;subst e;exact⟨h1,_,out,.refl _,.refl _,rfl⟩
    ·subst e;exact⟨_,none,.cnd (fun e=>by cases e),by rw[hn rfl];trivial,rfl⟩
   ·obtain⟨hk,cW⟩:=VW cl;have br:=hk.dst;refine VU (E:=E) (ρ:=ρ) (P:=P) (ops:=ops) (QK cW cM) hk hg hc (fun e=>⟨(h e).1,(h e).2.1⟩) g a w S hs (fun _ _=>rfl) (fun _ _=>rfl) K Q (fun g' a' w' h1 h2=>?_);rw[br]at h1;cases c with
    |false=>exact adj (out':=none) (.cnd (fun e=>by cases e)) (by rw[hn rfl];trivial) g' a' w' h1 h2
    |true=>exact adj (.cnd fun _=>(h rfl).2.2.1) (h rfl).2.2.2.2.1 g' a' w' h1 h2
theorem QN{t t':List Aa}{l:List Ac}(h:∀x∈C8 l,t'.getD x .top=t.getD x .top){y:Ac}(hy:y∈l):Ae E t' y=Ae E t y:=by
 cases y with
 |t n=>exact h n (NJ hy)
 |c v=>rfl
 |g i=>rfl
theorem Kq{t t':List Aa}{l:List Ac}(h:∀x∈C8 l,t'.getD x .top=t.getD x .top){y:Ac}(hy:y∈l):argU E t' y=argU E t y:=by
 cases y with
 |t n=>simp only[argU,h n (NJ hy)]
 |c v=>rfl
 |g i=>rfl
theorem N2{c:Bool}{t t':List Aa}:∀{l:List Ac},(∀x∈C8 l,t'.getD x .top=t.getD x .top)->BW c t l->BW c t' l
 |[],_,h=>h
 |.t n :: r,hx,h=>⟨by rw[hx n (by simp[C8])];exact h.1,N2 (fun x mL=>hx x (by simp[C8,mL])) h.2⟩
 |.c v :: r,hx,h=>N2 (l:=r) hx h
 |.g i :: r,hx,h=>N2 (l:=r) hx h
theorem Wl{c:Bool}{t t':List Aa}{o:Al}(hx:∀x∈C8 o.args,t'.getD x .top=t.getD x .top)(h:o.unAll E c t):o.unAll E c t':=by
 by_cases il:∃x y z,o=.pick x y z
 ·obtain⟨x,y,z,rfl⟩:=il;simp only[Al.unAll]at h ⊢;have sub:∀u,u∈[x,y,z]->∀n∈C8 [u],t'.getD n .top=t.getD n .top:=fun u hu n hn=>hx n (NJ (by have:=Km hn;simp only[AM,Qw,Q0]at this;rw[this];exact hu));refine⟨N2 (sub x (by simp)) h.1,?_⟩;rw[Kq (l:=[x]) (sub x (by simp)) (by simp)];have h2:=h.2;split at h2
  ·exact⟨N2 (sub y (by simp)) h2.1,N2 (sub z (by simp)) h2.2⟩
  ·exact h2.elim
 ·cases o<;>first|exact N2 hx h|exact absurd ⟨_,_,_,rfl⟩ il
theorem QO{t t':List Aa}{l m:List Ac}(h:∀x∈C8 l,t'.getD x .top=t.getD x .top)(hm:∀y∈m,y∈l):m.map (Ae E t')=m.map (Ae E t) :=
 Iv fun y hy=>QN h (hm y hy)
theorem QP{t t':List Aa}{l m:List Ac}(h:∀x∈C8 l,t'.getD x .top=t.getD x .top)(hm:∀y∈m,y∈l):m.map (argU E t')=m.map (argU E t) :=
 Iv fun y hy=>Kq h (hm y hy)
theorem DFz.agree{f:FuncId}{xs:List Aa}{h h':Ax}{v:Aa}{rd:List Nat}{out:Option (Nat×Ai)}(H:DFz E P f xs h v rd out)(hh:∀j∈rd,h' j=h j):DFz E P f xs h' v rd out:=by
 obtain⟨i,hi,h2,H⟩:=H;refine⟨i,hi,by rw[hh i hi];exact h2,?_⟩;rcases H with H|H|⟨ob,e,H⟩
 ·exact .inl (by rw[hh i hi];exact H)
 ·exact .inr (.inl (by rw[hh i hi];exact H))
 ·exact .inr (.inr ⟨ob,e,fun k e=>H k fun j hj=>(e j hj).trans (hh j hj)⟩)
theorem OutW.agree{h h':Ax}{rd:List Nat}(hh:∀j∈rd,h' j=h j):∀{a b:Option (Nat×Ai)},(∀i ob,a=some (i,ob)->i∈rd)->(∀i ob,b=some (i,ob)->i∈rd)->OutW h a b->OutW h' a b
 |none,none,_,_,H=>H
 |some (i,o'),some (j,o),_,_,H=>H
 |none,some (j,o),_,hb,H=>by show OEq (h' j) o;rw[hh j (hb _ _ rfl)];exact H
 |some (i,o'),none,ha,_,H=>by show o'=h' i;rw[hh i (ha _ _ rfl)];exact H
theorem D2.agree{o:As}{S S':Ay}{v:Aa}{rd:List Nat}{out:Option (Nat×Ai)}(h:D2 E P o S v rd out)(ht:∀x∈looks o,S'.t.getD x .top=S.t.getD x .top)(hh:∀j∈rd,S'.h j=S.h j):D2 E P o S' v rd out:=by
 have cy:∀x∈C8 o.op.args,S'.t.getD x .top=S.t.getD x .top:=fun x hx=>ht x (List.mem_append_right _ hx);unfold D2 at h ⊢;cases hg:o.guard with
 |none =>simp only[hg]at h ⊢;obtain⟨f,args,aK,h⟩:=h;rw[aK]at cy;exact⟨f,args,aK,by rw[QO (l:=args) cy (fun y hy=>hy)];exact h.agree hh⟩
 |some y =>
  obtain⟨tg,want⟩:=y;simp only[hg]at h ⊢;obtain⟨c,x,hc,hv,hn,h⟩:=h;refine⟨c,x,by rw[ht tg (by simp[looks,hg])];exact hc,hv,hn,?_⟩;rcases h with ⟨f,args,aK,h⟩|⟨cM,h⟩
  ·rw[aK]at cy;exact .inl ⟨f,args,aK,fun e=>⟨N2 cy (h e).1,by rw[QP (l:=args) cy (fun y hy=>hy)];exact(h e).2.agree hh⟩⟩
  ·refine .inr ⟨cM,fun e=>?_⟩;obtain⟨h0,h1,h2,h3,h4,h5⟩:=h e;rw[Kd (ar':=argU E S.t) _ (fun y hy=>Kq cy hy),Kf _ h1 (fun j hj=>hh j (h3 j hj))];exact⟨Wl cy h0,h1,h2,h3,h4.agree hh (fun i ob e=>h3 _ (IF _ h1 e).2) h5,h5⟩
theorem D2.rd{o:As}{S:Ay}{v:Aa}{rd:List Nat}{i:Nat}{ob:Ai}(h:D2 E P o S v rd (some (i,ob))):i∈rd:=by
 have fz:∀{f xs h v},DFz E P f xs h v rd (some (i,ob))->i∈rd:=fun H=>by obtain⟨j,hj,_,⟨e,_⟩|⟨e,_⟩|⟨_,e,_⟩⟩:=H<;>(cases e;exact hj)
 unfold D2 at h;cases hg:o.guard with
 |none=>simp only[hg]at h;obtain⟨f,args,_,h⟩:=h;exact fz h
 |some y =>
  obtain⟨tg,want⟩:=y;simp only[hg]at h;obtain⟨c,x,_,_,hn,h⟩:=h;cases c with
  |false=>cases hn rfl
  |true =>
   rcases h with ⟨f,args,_,h⟩|⟨_,h⟩
   ·exact fz (h rfl).2
   ·exact(h rfl).2.2.2.2.2 _ _ rfl
theorem BJ.agree{o:As}{S S':Ay}{v:Aa}{rd:List Nat}{out:Option (Nat×Ai)}(h:BJ E P o S v rd out)(ht:∀x∈looks o,S'.t.getD x .top=S.t.getD x .top)(hh:∀j∈rd,S'.h j=S.h j):BJ E P o S' v rd out:=by
 have cy:∀x∈C8 o.op.args,S'.t.getD x .top=S.t.getD x .top:=fun x hx=>ht x (List.mem_append_right _ hx);unfold BJ at h ⊢;cases hg:o.guard with
 |none =>
  simp only[hg]at h ⊢;cases aK:o.op<;>simp only[aK]at h cy ⊢
  case callf f args =>rw[QO (l:=args) cy (fun y hy=>hy)];exact⟨h.1.agree hh,h.2⟩
  case callv x args =>rw[QN (l:=x :: args) cy (Be ..),QO (l:=x :: args) cy (fun y hy=>Bi _ hy)];obtain⟨⟨f,nb,caps,h1,h2,h3⟩,h4⟩:=h;exact⟨⟨f,nb,caps,h1,h2,h3.agree hh⟩,h4⟩
  all_goals
   obtain⟨h1,h2,h3,h4,h5⟩:=h;rw[Kd (ar':=Ae E S.t) _ (fun y hy=>QN cy hy),Kf _ h1 (fun j hj=>hh j (h3 j hj))];refine⟨h1,h2,h3,?_,h5⟩;revert h4;generalize ho:(Al.req _ (Ae E S.t) S.h).out=o';intro h4;cases o' with
   |none =>
    cases out with
    |none=>trivial
    |some q=>show OEq (S'.h q.1) q.2;rw[hh q.1 (h5 q.1 q.2 rfl)];exact h4
   |some p =>
    cases out with
    |none=>show p.2=S'.h p.1;rw[hh p.1 (h3 _ (IF _ h1 ho).2)];exact h4
    |some q=>exact h4
 |some y =>
  obtain⟨tg,want⟩:=y;simp only[hg]at h ⊢;obtain⟨c,x,hc,hv,ho,h⟩:=h;refine⟨c,x,by rw[ht tg (by simp[looks,hg])];exact hc,hv,ho,?_⟩;cases aK:o.op<;>simp only[aK]at h cy ⊢
  case callf f args =>intro e;rw[QP (l:=args) cy (fun y hy=>hy)];exact⟨N2 cy (h e).1,(h e).2.agree hh⟩
  case callv x args =>intro e;obtain⟨f,nb,caps,h1,h2,h3,h4⟩:=h e;refine⟨f,nb,caps,by rw[Kq (l:=x :: args) cy (Be ..)];exact h1,h2,?_⟩;rw[QP (l:=x :: args) cy (fun y hy=>Bi _ hy)];exact⟨N2 (l:=x :: args) cy h3,h4.agree hh⟩
  all_goals
   refine⟨h.1,fun e=>?_⟩;obtain⟨h0,h1,h2,h3⟩:=h.2 e;rw[Kd (ar':=argU E S.t) _ (fun y hy=>Kq cy hy),Kf _ h1 (fun j hj=>hh j (h3 j hj))];exact⟨Wl cy h0,h1,h2,h3⟩
theorem BJ.rd{o:As}{S:Ay}{v:Aa}{rd:List Nat}{i:Nat}{ob:Ai}(h:BJ E P o S v rd (some (i,ob))):i∈rd:=by
 unfold BJ at h;cases hg:o.guard with
 |none =>
  simp only[hg]at h;cases aK:o.op<;>simp only[aK]at h
  case callf f args=>exact absurd h.2 (by simp)
  case callv x args=>exact absurd h.2 (by simp)
  all_goals
   exact h.2.2.2.2 _ _ rfl
 |some y =>obtain⟨tg,want⟩:=y;simp only[hg]at h;obtain⟨c,x,_,_,ho,_⟩:=h;cases ho
theorem BX.agree{o:As}{S S':Ay}{v:Aa}{rd:List Nat}{out:Option (Nat×Ai)}(h:BX E P o S v rd out)(ht:∀x∈looks o,S'.t.getD x .top=S.t.getD x .top)(hh:∀j∈rd,S'.h j=S.h j):BX E P o S' v rd out:=h.imp (fun h=>h.agree ht hh) (fun h=>h.agree ht hh)
theorem BX.rd{o:As}{S:Ay}{v:Aa}{rd:List Nat}{i:Nat}{ob:Ai}(h:BX E P o S v rd (some (i,ob))):i∈rd:=h.elim (fun h=>h.rd) (fun h=>h.rd)
end
def yzq{V:Type}(L:Nat->Bool)(dst:Nat->Option Nat)(val:Nat->V)(x:Nat)(b:V):Nat->V
 |0=>b
 |k+1=>if L k=true/\dst k=some x then val k else yzq L dst val x b k
section
variable {V:Type}{L L':Nat->Bool}{dst:Nat->Option Nat}{val:Nat->V}{x:Nat}{b:V}
theorem yzr:∀(k:Nat),(∀j,j<k->dst j=some x->L j=L' j)->yzq L dst val x b k=yzq L' dst val x b k
 |0,_=>rfl
 |k+1,h=>by
  simp only[yzq];rw[yzr k (fun j hj=>h j (by omega))];by_cases e:dst k=some x
  ·rw[h k (by omega) e]
  ·simp[e]
theorem QQ{i:Nat}(hL:∀j,L' j=(L j||j==i))(dU:L i=false):∀(n:Nat),i<n->(dst i=some x->∀j,i<j->j<n->L j=true->dst j≠some x) ->
  yzq L' dst val x b n=if dst i=some x then val i else yzq L dst val x b n
 |0,h,_=>by omega
 |k+1,h,hd=>by
  by_cases e:k=i
  ·subst e
   have h1:yzq L' dst val x b k=yzq L dst val x b k:=yzr k fun j hj _=>by
    rw[hL j];have:(j==k)=false:=by simp;omega
    rw[this,Bool.or_false]
   simp only[yzq,hL k,dU,h1];simp
  ·have hk:i<k:=by omega
   have ek:(k==i)=false:=by simp[e]
   simp only[yzq,hL k,ek,Bool.or_false];rw[QQ hL dU k hk (fun hx j h1 h2=>hd hx j h1 (by omega))];by_cases hc:L k=true/\dst k=some x
   ·simp only[hc,and_self,BK];have:dst i≠some x:=fun hx=>hd hx k hk (by omega) hc.1 hc.2;simp[this]
   ·simp only[hc,Df]
theorem Wm{n:Nat}(h:∀j,L j=false):yzq L dst val x b n=b:=by
 induction n with
 |zero=>rfl
 |succ k ih=>simp[yzq,h k,ih]
end
def BA(m:List As)(k:Nat):Option Tmp:=(m[k]?).bind (·.dst)
def Bf(O:Nat->Option (Nat×Ai))(k:Nat):Option Nat:=(O k).map (·.1)
def FE(O:Nat->Option (Nat×Ai))(k:Nat):Ai:=((O k).map (·.2)).getD (.gone 0)
def stL(m:List As)(V:Nat->Aa)(O:Nat->Option (Nat×Ai))(S:Ay)(n:Nat)(L:Nat->Bool):Ay := ⟨(List.range S.t.length).map (fun x=>yzq L (BA m) V x (S.t.getD x .top) n),fun id=>yzq L (Bf O) (FE O) id (S.h id) n,S.ds⟩
def Kr(S:Ay)(d:Option Tmp)(v:Aa)(out:Option (Nat×Ai)):Ay:=⟨putT S.t d v,putH S.h out,S.ds⟩
def lx(m:List As)(V:Nat->Aa)(O:Nat->Option (Nat×Ai))(S:Ay):Nat->Ay
 |0=>S
 |k+1=>Kr (lx m V O S k) (BA m k) (V k) (O k)
theorem Ay.eq{S S':Ay}(a:S.t=S'.t)(b:S.h=S'.h)(c:S.ds=S'.ds):S=S':=by cases S;cases S';simp only at a b c;subst a;subst b;subst c;rfl
section
variable {m:List As}{V:Nat->Aa}{O:Nat->Option (Nat×Ai)}{S:Ay}{n:Nat}
theorem wzdu(L:Nat->Bool):(stL m V O S n L).t.length=S.t.length:=by simp[stL]
theorem Wn(L:Nat->Bool)(x:Nat):(stL m V O S n L).t.getD x .top=if x<S.t.length then yzq L (BA m) V x (S.t.getD x .top) n else .top:=by by_cases h:x<S.t.length<;>simp[stL,h]
theorem NR(L:Nat->Bool)(x:Nat):(stL m V O S n L).t[x]?=if x<S.t.length then some (yzq L (BA m) V x (S.t.getD x .top) n) else none:=by by_cases h:x<S.t.length<;>simp[stL,h]
theorem Wo{L L':Nat->Bool}{i:Nat}(hL:∀j,L' j=(L j||j==i))(dU:L i=false)(bh:i<n)(ht:∀x,BA m i=some x->∀j,i<j->j<n->L j=true->BA m j≠some x)(hh:∀x,Bf O i=some x->∀j,i<j->j<n->L j=true->Bf O j≠some x):stL m V O S n L'=Kr (stL m V O S n L) (BA m i) (V i) (O i):=by
 have et:(stL m V O S n L').t=putT (stL m V O S n L).t (BA m i) (V i):=by
  refine Qo fun x=>?_;have key:=QQ (val:=V) (b:=S.t.getD x .top) hL dU n bh (fun e=>ht x e);rw[NR];cases hd:BA m i with
  |none =>
   rw[hd]at key;have key':yzq L' (BA m) V x (S.t.getD x .top) n=yzq L (BA m) V x (S.t.getD x .top) n:=by simpa using key
   simp only[putT,NR,key']
  |some d =>
   rw[hd]at key;simp only[putT,JW,NR,wzdu];by_cases e:d=x
   ·subst e;simp only[BK]at key ⊢;rw[key]
   ·have:¬(some d=some x):=fun h=>e (by injection h);simp only[this,Df]at key;simp only[e,Df,key]
 have eh:(stL m V O S n L').h=putH (stL m V O S n L).h (O i):=by
  funext id;have key:=QQ (val:=FE O) (b:=S.h id) hL dU n bh (fun e=>hh id e);show yzq L' (Bf O) (FE O) id (S.h id) n=_;rw[key];cases hO:O i with
  |none=>simp[Bf,hO,putH,stL]
  |some y =>
   obtain⟨d,ob⟩:=y;by_cases e:d=id
   ·subst e;simp[Bf,FE,hO,putH,hset]
   ·have:¬id=d:=fun h=>e h.symm;simp[Bf,FE,hO,putH,hset,stL,e,this]
 exact Ay.eq et eh rfl
theorem IG:∀(k:Nat),k<=n->stL m V O S n (fun j=>decide (j<k))=lx m V O S k
 |0,_=>by
  have e0:∀j,(decide (j<0))=false:=fun j=>by simp
  have et:(stL m V O S n (fun j=>decide (j<0))).t=S.t:=by
   refine Qo fun x=>?_;rw[NR,Wm e0];by_cases h:x<S.t.length
   ·simp[h]
   ·rw[Ak h,JV (by omega)]
  have eh:(stL m V O S n (fun j=>decide (j<0))).h=S.h:=by funext id;exact Wm e0
  exact Ay.eq et eh rfl
 |k+1,h=>by
  have hL:∀j,decide (j<k+1)=(decide (j<k)||j==k):=fun j=>by
   by_cases e:j=k
   ·simp[e]
   ·have:decide (j<k+1)=decide (j<k):=(by simp only[decide_eq_decide];omega);simp[e,this]
  rw[Wo (L:=fun j=>decide (j<k)) (i:=k) hL (by simp) (by omega) (fun x _ j h1 _ h3=>by simp at h3;omega) (fun x _ j h1 _ h3=>by simp at h3;omega),IG k (by omega)];rfl
theorem Wp:stL m V O S n (fun _=>true)=lx m V O S n:=by
 rw[<-IG n (AD n)];have et:(stL m V O S n (fun _=>true)).t=(stL m V O S n (fun j=>decide (j<n))).t:=by refine Iv fun x _=>yzr n fun j hj _=>by simp[hj]
 have eh:(stL m V O S n (fun _=>true)).h=(stL m V O S n (fun j=>decide (j<n))).h:=by funext id;exact yzr n fun j hj _=>by simp[hj]
 exact Ay.eq et eh rfl
end
structure QR(E:Nat->Aa)(P:Program)(m:List As)(preds:List (List Nat))(S:Ay)(n:Nat)(V:Nat->Aa)(R:Nat->List Nat)(O:Nat->Option (Nat×Ai))(i j id:Nat):Prop where
 lt:j<i
 no:O j=none
 rd:∀k∈R j,k=id
 ord:∀l,l<n->l≠i->l≠j->Bf O l=some id->l∈preds.getD j []\/j∈preds.getD l []
 step:∀o,m[j]?=some o->∀S':Ay,(∀x∈looks o,S'.t.getD x .top=(lx m V O S j).t.getD x .top)->S'.h id=FE O i->BX E P o S' (V j) (R j) (O j)
structure IH(E:Nat->Aa)(P:Program)(m:List As)(preds:List (List Nat))(S:Ay)(n:Nat)(V:Nat->Aa)(R:Nat->List Nat)(O:Nat->Option (Nat×Ai)):Prop where
 len:m.length=n
 lex:∀k o,m[k]?=some o->BX E P o (lx m V O S k) (V k) (R k) (O k)
 lt:∀i j,j∈preds.getD i []->j<i
 slots:∀i j oi oj d,m[i]?=some oi->m[j]?=some oj->i≠j->j∉preds.getD i []->i∉preds.getD j []->oi.dst=some d->d∉looks oj/\oj.dst≠some d
 heap:∀i j id,i<n->j<n->i≠j->j∉preds.getD i []->i∉preds.getD j []->Bf O i=some id->id∉R j\/QR E P m preds S n V R O i j id
section
variable {E:Nat->Aa}{P:Program}{ρ:Option Nat}{m:List As}{preds:List (List Nat)}{S:Ay}{n:Nat}{V:Nat->Aa}{R:Nat->List Nat}{O:Nat->Option (Nat×Ai)}
theorem QS{V:Type}{L:Nat->Bool}{dst:Nat->Option Nat}{val:Nat->V}{x i:Nat}{b:V}(hL:L i=true)(hd:dst i=some x):∀(n:Nat),i<n->(∀l,l<n->i<l->dst l=some x->L l=false)->yzq L dst val x b n=val i
 |0,h,_=>by omega
 |n+1,h,hl=>by
  unfold yzq;by_cases e:n=i
  ·subst e;simp[hL,hd]
  ·have h1:i<n:=by omega
   by_cases fm:dst n=some x
   ·have:=hl n (by omega) h1 fm;simp[this];exact QS hL hd n h1 fun l q1 q2 q3=>hl l (by omega) q2 q3
   ·simp[fm];exact QS hL hd n h1 fun l q1 q2 q3=>hl l (by omega) q2 q3
theorem IH.at(D:IH E P m preds S n V R O){L:Nat->Bool}(hc:∀j,L j=true->∀p∈preds.getD j [],L p=true){i:Nat}{o:As}(hi:m[i]?=some o)(dU:L i=false)(hp:∀p∈preds.getD i [],L p=true) :
  BX E P o (stL m V O S n L) (V i) (R i) (O i)/\∀L':Nat->Bool,(∀j,L' j=(L j||j==i))->stL m V O S n L'=Kr (stL m V O S n L) o.dst (V i) (O i):=by
 have bh:i<n:=by rw[<-D.len];exact(AU.1 hi).1
 have hd:BA m i=o.dst:=by simp[BA,hi]
 have wit:∀j d,j<n->BA m j=some d->∃oj,m[j]?=some oj/\oj.dst=some d:=fun j d hj h=>by rw[<-D.len]at hj;refine⟨m[j],AG hj,?_⟩;simpa [BA,AG hj] using h
 have same:∀j,j<n->j≠i->(L j=decide (j<i))\/(j∉preds.getD i []/\i∉preds.getD j []):=fun j hj aL=>by
  by_cases h1:j∈preds.getD i []
  ·left;rw[hp j h1];have:=D.lt i j h1;simp[this]
  ·by_cases h2:i∈preds.getD j []
   ·left;have:=D.lt j i h2;cases hL:L j with
    |false=>symm;simp;omega
    |true=>have:=hc j hL i h2;rw[dU]at this;cases this
   ·exact .inr ⟨h1,h2⟩
 have slots:∀x∈looks o,(stL m V O S n L).t.getD x .top=(lx m V O S i).t.getD x .top:=fun x hx=>by
  rw[<-IG (n:=n) i (by omega),Wn,Wn];split
  ·refine yzr n fun j hj dL=>?_;by_cases e:j=i
   ·subst e;rw[dU];simp
   ·rcases same j hj e with h|⟨h1,h2⟩;·exact h
    ·obtain⟨oj,gK,ge⟩:=wit j x hj dL;exact absurd hx (D.slots j i oj o x gK hi e h2 h1 ge).1
  ·rfl
 constructor
 ·by_cases fP:∃j id,j<n/\L j=true/\id∈R i/\Bf O j=some id/\QR E P m preds S n V R O j i id
  ·obtain⟨j,id,hj,jW,hid,dL,sf⟩:=fP;refine sf.step o hi _ slots ?_;refine QS jW dL n hj fun l hl ic mM=>?_;by_cases e:l=i
   ·rw[e];exact dU
   ·rcases sf.ord l hl (by omega) e mM with h|h;·have:=D.lt i l h;have:=sf.lt;omega
    ·cases mN:L l with
     |false=>rfl
     |true=>have:=hc l mN i h;rw[dU]at this;cases this
  ·refine(D.lex i o hi).agree slots (fun id hid=>?_);rw[<-IG (n:=n) i (by omega)];refine yzr n fun j hj dL=>?_;by_cases e:j=i
   ·subst e;rw[dU];simp
   ·rcases same j hj e with h|⟨h1,h2⟩;·exact h
    ·rcases D.heap j i id hj bh e h2 h1 dL with h|sf;·exact absurd hid h
     ·have gL:=sf.lt;cases jW:L j with
      |false=>symm;simp;omega
      |true=>exact absurd ⟨j,id,hj,jW,hid,dL,sf⟩ fP
 ·intro L' fo;rw[<-hd];refine Wo fo dU bh (fun x hx j h1 h2 h3 dL=>?_) (fun x hx j h1 h2 h3 dL=>?_)
  ·rcases same j h2 (by omega) with h|⟨h4,h5⟩;·rw[h3]at h;simp at h;omega
   ·obtain⟨oj,gK,ge⟩:=wit j x h2 dL;exact(D.slots i j o oj x hi gK (by omega) h4 h5 (hd▸hx)).2 ge
  ·rcases same j h2 (by omega) with h|⟨h4,h5⟩;·rw[h3]at h;simp at h;omega
   ·have ic:j<m.length:=(by rw[D.len];exact h2);have h6:=D.lex j _ (AG ic);rcases D.heap i j x bh h2 (by omega) h4 h5 hx with cP|sf
    ·cases hO:O j with
     |none=>simp[Bf,hO]at dL
     |some y =>obtain⟨d,ob⟩:=y;rw[hO]at h6;simp[Bf,hO]at dL;subst dL;exact cP h6.rd
    ·simp[Bf,sf.no]at dL
variable {ops:Array Oper}{Q:Exit->Act->World->Prop}
theorem Gp{listed:Array Bool}{i:Nat}:i∈Region.ready .any ops listed↔∃o,ops[i]?=some o/\listed.getD i true=false/\∀e∈o.after.toList,Region.binds .any e=true->listed.getD e.on false=true:=by
 unfold Region.ready;rw[List.mem_filter,Fz];constructor
 ·rintro⟨h1,h2⟩;rw[AE]at h2;obtain⟨h2,h3⟩:=h2;have ho:ops[i]?=some ops[i]:=by simp[h1]
  rw[ho]at h3;simp only[Ej,Nz,Array.all_eq_true_iff_forall_mem,Il,GV]at h3;refine⟨_,ho,by simpa using h2,fun e he hb=>?_⟩;rcases h3 e (by simpa using he) with h|h
  ·rw[hb]at h;cases h
  ·exact h
 ·rintro⟨o,ho,h2,h3⟩;refine⟨(Ef.1 ho).1,?_⟩;rw[AE,ho];refine⟨by simp[h2],?_⟩;simp only[Ej,Nz,Array.all_eq_true_iff_forall_mem,Il,GV];intro e he;cases hb:Region.binds .any e with
  |false=>exact .inl rfl
  |true=>exact .inr (h3 e (by simpa using he) hb)
theorem Gq{listed:Array Bool}{n i:Nat}(hs:listed.size=n)(hi:i<n):listed.getD i true=listed.getD i false:=by subst hs;simp[Array.getD,hi]
theorem qzze(D:IH E P m preds S n V R O)(hn:ops.size=n)(d5:∀(k:Nat) (o:Oper),ops[k]?=some o->∃ao,m[k]?=some ao/\Gn P ops o ao=true)(bm:∀(i:Nat) (o:Oper),ops[i]?=some o->∀e∈o.after.toList,Region.binds .any e=true->e.on<i)(bN:∀(i:Nat) (o:Oper),ops[i]?=some o->∀p∈preds.getD i [],∃e∈o.after.toList,Region.binds .any e=true/\(e.on=p\/p∈preds.getD e.on [])) : ∀(fuel:Nat) (listed:Array Bool),listed.size=n->(∀j,listed.getD j false=true->∀p∈preds.getD j [],listed.getD p false=true) -> (∃l:List Nat,(∀j,j<n->listed.getD j false=false->j∈l)/\l.length<=fuel)->∀(g:Gh) (a:Act) (w:World),SR E g (stL m V O S n (fun j=>listed.getD j false)) a w -> (∀g' a' w',SR E g' (lx m V O S n) a' w'->Stp g (stL m V O S n (fun j=>listed.getD j false)).h w g' (lx m V O S n).h w'->Q .normal a' w')->wpAnyIn (FW ρ) 0 P .any ops Q fuel listed a w:=by
 have fin:∀(listed:Array Bool),listed.size=n->(∀j,j<n->listed.getD j false=true)->stL m V O S n (fun j=>listed.getD j false)=lx m V O S n:=fun listed hs h=>by
  rw[<-Wp];have et:(stL m V O S n (fun j=>listed.getD j false)).t=(stL m V O S n (fun _=>true)).t:=Iv fun x _=>yzr n fun j hj _=>h j hj;have eh:(stL m V O S n (fun j=>listed.getD j false)).h=(stL m V O S n (fun _=>true)).h:=by funext id;exact yzr n fun j hj _=>h j hj
  exact Ay.eq et eh rfl
 have allr:∀(listed:Array Bool),listed.size=n->Region.ready .any ops listed=[]->∀j,j<n->listed.getD j false=true:=fun listed hs hr j=>by
  induction j using Nat.strongRecOn with
  |ind j ih =>
   intro hj;cases hl:listed.getD j false with
   |true=>rfl
   |false =>have gh:j<ops.size:=(by omega);have:j∈Region.ready .any ops listed:=Gp.2 ⟨ops[j],by simp[gh],by rw[Gq hs hj];exact hl,fun e he hb=>ih e.on (bm j _ (by simp[gh]) e he hb) (by have:=bm j ops[j] (by simp[gh]) e he hb;omega)⟩;rw[hr]at this;cases this
 intro fuel;induction fuel with
 |zero =>
  intro listed hs hc hf g a w cD hq;obtain⟨l,hl,aF⟩:=hf;have gi:l=[]:=by cases l<;>simp at aF ⊢
  have all:∀j,j<n->listed.getD j false=true:=fun j hj=>by
   cases h:listed.getD j false with
   |true=>rfl
   |false=>have:=hl j hj h;rw[gi]at this;cases this
  refine⟨?_,hq g a w (by rw[<-fin listed hs all];exact cD) (by rw[fin listed hs all];exact .refl _ _ _)⟩;cases hr:Region.ready .any ops listed with
  |nil=>rfl
  |cons i r =>
   have hi:i∈Region.ready .any ops listed:=by rw[hr];exact Be ..
   obtain⟨o,ho,h2,_⟩:=Gp.1 hi;have bh:i<n:=by rw[<-hn];exact(Ef.1 ho).1
   rw[Gq hs bh,all i bh]at h2;cases h2
 |succ fuel ih =>
  intro listed hs hc hf g a w cD hq;refine⟨fun hr=>?_,fun i hi=>?_⟩
  ·have all:=allr listed hs hr;exact hq g a w (by rw[<-fin listed hs all];exact cD) (by rw[fin listed hs all];exact .refl _ _ _)
  ·obtain⟨o,ho,h2,h3⟩:=Gp.1 hi;have bh:i<n:=by rw[<-hn];exact(Ef.1 ho).1
   rw[Gq hs bh]at h2;obtain⟨ao,jX,cl⟩:=d5 i o ho
   have hp:∀p∈preds.getD i [],listed.getD p false=true:=fun p bT=>by
    obtain⟨e,he,hb,h4⟩:=bN i o ho p bT;rcases h4 with rfl|h4
    ·exact h3 e he hb
    ·exact hc e.on (h3 e he hb) p h4
   obtain⟨aH,eC⟩:=D.at (L:=fun j=>listed.getD j false) hc jX h2 hp
   have fo:∀j,(listed.setIfInBounds i true).getD j false=(listed.getD j false||j==i):=fun j=>by
    by_cases e:j=i
    ·subst e;simp[Array.getD,hs,bh]
    ·have e':¬i=j:=fun h=>e h.symm;by_cases hj:j<listed.size<;>simp[Array.getD,hj,e,e',Gaf]
   have aN:=eC (fun j=>(listed.setIfInBounds i true).getD j false) fo;unfold wpOpIn;simp only[ho];refine Wj cl aH cD fun g' a' w' bi st=>?_;refine ih _ (by simp[hs]) (fun j hj p bT=>?_) ?_ g' a' w' (by rw[aN];exact bi) (fun g'' a'' w'' aZ st''=>hq g'' a'' w'' aZ (st.trans (by rw[aN]at st'';exact st'')))
   ·rw[fo]at hj ⊢;by_cases e:j=i
    ·subst e;rw[hp p bT];rfl
    ·have:listed.getD j false=true:=(by simpa [e] using hj);rw[hc j this p bT];rfl
   ·obtain⟨l,hl,aF⟩:=hf;have jl:=hl i bh h2;refine⟨l.erase i,fun j hj h=>?_,?_⟩
    ·rw[fo]at h;have aL:j≠i:=fun e=>by subst e;simp at h
     exact(List.mem_erase_of_ne aL).2 (hl j hj (by simpa [aL] using h))
    ·rw[List.length_erase_of_mem jl];omega
end
def II(ops:List Oper)(preds:List (List Nat)):Bool :=
 preds.length==ops.length&&(List.range ops.length).all fun i=>(preds.getD i []).all fun p=>decide (p<i)&&(match ops[i]? with
  |some o=>o.after.toList.any fun e=>Region.binds .any e&&(e.on==p||(preds.getD e.on []).contains p)
  | none=>false)
def Hl:Nat->List Oper->Bool
 |_,[]=>true
 |i,o :: r=>(o.after.toList.all fun e=>!Region.binds .any e||decide (e.on<i))&&Hl (i+1) r
def IJ(m:List As)(preds:List (List Nat)):Bool :=
 (List.range m.length).all fun i=>(List.range m.length).all fun j=>i==j||(preds.getD i []).contains j||(preds.getD j []).contains i||(match m[i]?,m[j]? with
  |some x,some y=>(match x.dst with | none=>true | some d=>!(looks y).contains d&&y.dst != some d)
  | _,_=>true)
def hpOk(preds:List (List Nat))(tr:List (List Nat×Option Nat)):Bool :=
 (List.range tr.length).all fun i=>match (tr.getD i ([],none)).2 with
  |none=>true
  |some id=>(List.range tr.length).all fun j=>i==j||(preds.getD i []).contains j||(preds.getD j []).contains i||!(tr.getD j ([],none)).1.contains id
def zeq1:Aa->Aa->Bool
 |.int k a,.int k' b=>decide (k=k')&&decide (a=b)
 |.bool a,.bool b=>a==b
 |.str a,.str b=>decide (a=b)
 |_,_=>false
def zeqL:List Aa->List Aa->Bool
 |[],[]=>true
 |x :: l,y :: m=>zeq1 x y&&zeqL l m
 |_,_=>false
def zeq:Aa->Aa->Bool
 |.agg l,.agg m=>zeqL l m
 |x,y=>zeq1 x y
theorem Wq{x y:Aa}(h:zeq1 x y=true):x=y:=by cases x<;>cases y<;>simp[zeq1]at h<;>simp[h]
theorem Wr:∀{l m:List Aa},zeqL l m=true->l=m
 |[],[],_=>rfl
 |x :: l,y :: m,h=>by simp only[zeqL,AE]at h;rw[Wq h.1,Wr h.2]
 |[],_ :: _,h=>by simp[zeqL]at h
 |_ :: _,[],h=>by simp[zeqL]at h
theorem jzh5{x y:Aa}(h:zeq x y=true):x=y:=by
 unfold zeq at h;split at h
 ·rw[Wr h]
 ·exact Wq h
def sfOk(m:List As)(i j:Nat):Bool:=match m[i]?,m[j]? with
 | some ⟨_,.ment _ z (.t x) (.t k),none⟩,some ⟨_,.mlook _ false z' (.t x') (.t k'),none⟩=>zeq z z'&&x==x'&&k==k'&&(List.range i).all fun l=>decide (l<j)||(match m[l]? with
  |some o=>o.dst != some x&&o.dst != some k
  | none=>true)
 |_,_=>false
def Dn(m:List As)(preds:List (List Nat))(tr:List (List Nat×Option Nat)):Bool :=
 (List.range tr.length).all fun i=>match (tr.getD i ([],none)).2 with
  |none=>true
  |some id=>(List.range tr.length).all fun j=>i==j||(preds.getD i []).contains j||(preds.getD j []).contains i||!(tr.getD j ([],none)).1.contains id ||
    (decide (j<i)&&sfOk m i j&&(tr.getD j ([],none)).2==none&&(tr.getD j ([],none)).1.all (fun k=>k==id)&&(List.range tr.length).all fun l=>l==i||l==j||(tr.getD l ([],none)).2 != some id ||
     (((preds.getD j []).contains l||(preds.getD l []).contains j)&&!(decide (j<l)&&decide (l<i))))
theorem jzh0{m:List As}{preds:List (List Nat)}{tr:List (List Nat×Option Nat)}(h:hpOk preds tr=true):Dn m preds tr=true:=by
 unfold hpOk at h;unfold Dn;simp only[Dw,Fz]at h ⊢;intro i hi;have:=h i hi;split
 ·rfl
 ·rename_i id hid;rw[hid]at this;simp only[Dw,Fz]at this ⊢;intro j hj;have:=this j hj;rw[this];rfl
def FF(E:Nat->Aa)(P:Program)(f:FuncId)(args:List Aa)(h:Ax)(K:Aa->List Nat->Prop):Prop:=∃v rd,C9 E P f args h rd v/\K v rd
def kzb(E:Nat->Aa)(P:Program)(c:Bool)(t:List Aa)(xs:List Ac)(f:FuncId)(args:List Aa)(h:Ax)(K:Aa->List Nat->Prop):Prop:=∃v rd,(c=true->BW c t xs/\C9 E P f args h rd v)/\K (.cnd c v) rd
def dop(E:Nat->Aa)(P:Program)(o:As)(S:Ay)(K:Aa->List Nat->Option (Nat×Ai)->Prop):Prop :=
 match o.guard with
 |none=>match o.op with
  |.callf f args=>FF E P f (args.map (Ae E S.t)) S.h (fun v rd=>K v rd none)
  |.callv x args=>match Ae E S.t x with
   |.fn f nb caps=>Ci P f=true/\FF E P f (fnArgs nb (args.map (Ae E S.t)) caps) S.h (fun v rd=>K v rd none)
   |_=>False
  |op=>(op.req (Ae E S.t) S.h).ok/\K (op.req (Ae E S.t) S.h).v (op.req (Ae E S.t) S.h).rd (op.req (Ae E S.t) S.h).out
 |some (tg,want)=>match BV (S.t.getD tg .top) want with
  |none=>False
  |some c=>match o.op with
   |.callf f args=>kzb E P c S.t args f (args.map (argU E S.t)) S.h (fun v rd=>K v rd none)
   | .callv y args=>(c=false->K (.cnd false .top) [] none)/\(c=true->match argU E S.t y with
    |.fn f nb caps=>Ci P f=true/\kzb E P c S.t (y :: args) f (fnArgs nb (args.map (argU E S.t)) caps) S.h (fun v rd=>K v rd none)
    | _=>False)
   |op=>op.quiet=true/\(c=true->op.unAll E c S.t/\(op.req (argU E S.t) S.h).ok)/\K (.cnd c (op.req (argU E S.t) S.h).v) (bif c then(op.req (argU E S.t) S.h).rd else []) none
def dreg(E:Nat->Aa)(P:Program):List As->Ay->(Ay->List (List Nat×Option Nat)->Prop)->Prop
 |[],S,K=>K S []
 |o :: r,S,K=>dop E P o S (fun v rd out=>dreg E P r ⟨putT S.t o.dst v,putH S.h out,S.ds⟩ (fun S' tr=>K S' ((rd,out.map (·.1)) :: tr)))
section
variable {E:Nat->Aa}{P:Program}{ρ:Option Nat}
theorem Wt{o:As}{S:Ay}{K:Aa->List Nat->Option (Nat×Ai)->Prop}(h:dop E P o S K):∃v rd out,BX E P o S v rd out/\K v rd out:=by
 suffices ∃v rd out,BJ E P o S v rd out/\K v rd out by obtain⟨v,rd,out,h1,h2⟩:=this;exact⟨v,rd,out,.inl h1,h2⟩
 unfold dop at h;simp only[FF,kzb]at h;unfold BJ;cases hg:o.guard with
 |none =>
  simp only[hg]at h ⊢;cases aK:o.op<;>simp only[aK]at h ⊢
  case callf f args=>obtain⟨v,rd,h1,h2⟩:=h;exact⟨v,rd,none,⟨h1,rfl⟩,h2⟩
  case callv x args =>
   cases hx:Ae E S.t x<;>simp only[hx]at h
   case fn f nb caps=>obtain⟨he,v,rd,h1,h2⟩:=h;exact⟨v,rd,none,⟨⟨f,nb,caps,rfl,he,h1⟩,rfl⟩,h2⟩
  all_goals exact⟨_,_,_,⟨h.1,.refl _,fun _ hj=>hj,.refl _,fun i ob e=>(IF _ h.1 e).2⟩,h.2⟩
 |some y =>
  obtain⟨tg,want⟩:=y;simp only[hg]at h ⊢;cases hc:BV (S.t.getD tg .top) want with
  |none=>simp only[hc]at h
  |some c =>
   simp only[hc]at h;cases aK:o.op<;>simp only[aK]at h ⊢
   case callf f args=>obtain⟨v,rd,h1,h2⟩:=h;exact⟨_,rd,none,⟨c,v,rfl,rfl,rfl,h1⟩,h2⟩
   case callv x args =>
    cases c with
    |false=>exact⟨_,[],none,⟨false,.top,rfl,rfl,rfl,fun e=>by cases e⟩,h.1 rfl⟩
    |true =>
     have h:=h.2 rfl;cases hx:argU E S.t x<;>simp only[hx]at h
     case fn f nb caps=>obtain⟨he,v,rd,h1,h2⟩:=h;exact⟨_,rd,none,⟨true,v,rfl,rfl,rfl,fun _=>⟨f,nb,caps,rfl,he,(h1 trivial).1,(h1 trivial).2⟩⟩,h2⟩
   all_goals exact⟨_,_,none,⟨c,_,rfl,rfl,rfl,h.1,fun e=>⟨(h.2.1 e).1,(h.2.1 e).2,.refl _,by subst e;exact fun _ hj=>hj⟩⟩,h.2.2⟩
theorem Ks(o:As)(l:List As)(V:Nat->Aa)(O:Nat->Option (Nat×Ai))(S:Ay):∀k,lx (o :: l) V O S (k+1)=lx l (fun k=>V (k+1)) (fun k=>O (k+1)) (Kr S o.dst (V 0) (O 0)) k
 |0=>rfl
 |k+1=>by have ih:=Ks o l V O S k;show Kr (lx (o :: l) V O S (k+1)) (BA (o :: l) (k+1)) (V (k+1)) (O (k+1))=_;rw[ih];rfl
theorem Wu:∀(l:List As) (S:Ay) (K:Ay->List (List Nat×Option Nat)->Prop),dreg E P l S K -> ∃(V:Nat->Aa) (R:Nat->List Nat) (O:Nat->Option (Nat×Ai)),(∀k o,l[k]?=some o->BX E P o (lx l V O S k) (V k) (R k) (O k))/\K (lx l V O S l.length) ((List.range l.length).map fun k=>(R k,Bf O k))
 |[],S,K,h=>⟨fun _=>.top,fun _=>[],fun _=>none,fun k o h=>by simp at h,h⟩
 |o :: l,S,K,h=>by
  obtain⟨v,rd,out,h1,h2⟩:=Wt h;obtain⟨V,R,O,h3,h4⟩:=Wu l _ _ h2;refine⟨fun k=>match k with | 0=>v | k+1=>V k,fun k=>match k with | 0=>rd | k+1=>R k,fun k=>match k with | 0=>out | k+1=>O k,fun k ok hk=>?_,?_⟩
  ·cases k with
   |zero=>simp at hk;subst hk;exact h1
   |succ k =>rw[Ks];exact h3 k ok (by simpa using hk)
  ·rw[DL,Ks,List.range_succ_eq_map,JZ,List.map_map];exact h4
theorem QT{ops:Array Oper}:∀{l:List Oper} {m:List As},yzf P ops l m=true->m.length=l.length/\∀(k:Nat) (o:Oper),l[k]?=some o->∃ao,m[k]?=some ao/\Gn P ops o ao=true
 |[],[],_=>⟨rfl,fun k o h=>by simp at h⟩
 |o :: l,a :: m,h=>by
  simp only[yzf,AE]at h;obtain⟨h1,h2⟩:=QT h.2;refine⟨by simp[h1],fun k o' hk=>?_⟩;cases k with
  |zero=>simp at hk;subst hk;exact⟨a,rfl,h.1⟩
  |succ k=>exact h2 k o' (by simpa using hk)
 |[],_ :: _,h=>by cases h
 |_ :: _,[],h=>by cases h
theorem QU:∀{l:List Oper} {n:Nat},Hl n l=true->∀(i:Nat) (o:Oper),l[i]?=some o->∀e∈o.after.toList,Region.binds .any e=true->e.on<n+i
 |[],_,_,i,o,h,_,_,_=>by simp at h
 |x :: l,n,h,i,o,ho,e,he,hb=>by
  simp only[Hl,AE,Dw,Il,GV,CO]at h;cases i with
  |zero =>
   simp at ho;subst ho;rcases h.1 e he with h1|h1
   ·rw[hb]at h1;cases h1
   ·exact h1
  |succ i =>have:=QU h.2 i o (by simpa using ho) e he hb;omega
theorem Wv{K v:Aa}(hK:BU K K=some true):∀(es:List (Aa×Aa)) (i q:Nat),AH K es i=some (some (q,v))->i<=q/\AH K (es.set (q-i) (K,v)) i=some (some (q,v))
 |[],i,q,h=>by simp[AH]at h
 |e :: es,i,q,h=>by
  simp only[AH]at h;split at h
  ·simp only[AZ,De]at h;obtain⟨rfl,rfl⟩:=h;exact⟨AD _,by simp[AH,hK]⟩
  ·rename_i hk;obtain⟨h1,h2⟩:=Wv hK es (i+1) q h;refine⟨by omega,?_⟩;obtain⟨d,rfl⟩:∃d,q=i+1+d:=⟨q-(i+1),by omega⟩;have e1:i+1+d-i=d+1:=by omega
   have e2:i+1+d-(i+1)=d:=by omega
   rw[e1,List.set_cons_succ];rw[e2]at h2;simp only[AH,hk,h2]
  ·cases h
theorem Ww{K z:Aa}(hK:BU K K=some true):∀(es:List (Aa×Aa)) (i:Nat),AH K es i=some none->AH K (es++[(K,z)]) i=some (some (i+es.length,z))
 |[],i,h=>by simp[AH,hK]
 |e :: es,i,h=>by
  simp only[AH]at h;split at h
  ·cases h
  ·rename_i hk;have:=Ww (z:=z) hK es (i+1) h;simp only[US,AH,hk,this,DL];congr 3;omega
  ·cases h
theorem QV{m:List As}{V:Nat->Aa}{O:Nat->Option (Nat×Ai)}{S:Ay}{j x:Nat}:∀(i:Nat),j<=i->(∀l,j<=l->l<i->BA m l≠some x)->(lx m V O S i).t.getD x .top=(lx m V O S j).t.getD x .top
 |0,h,_=>by obtain rfl:j=0:=Nat.le_zero.1 h;rfl
 |i+1,h,hd=>by
  by_cases e:j=i+1
  ·subst e;rfl
  ·have h1:=QV (m:=m) (V:=V) (O:=O) (S:=S) i (by omega) (fun l q1 q2=>hd l q1 (by omega));rw[<-h1];have h2:=hd i (by omega) (by omega);show(putT (lx m V O S i).t (BA m i) (V i)).getD x .top=_;cases hq:BA m i with
   |none=>rfl
   |some d =>have:d≠x:=fun e=>h2 (by rw[hq,e]);simp[putT,this]
theorem Wx{m:List As}{V:Nat->Aa}{O:Nat->Option (Nat×Ai)}{S:Ay}{j id:Nat}:∀(i:Nat),j<=i->(∀l,j<=l->l<i->Bf O l≠some id)->(lx m V O S i).h id=(lx m V O S j).h id
 |0,h,_=>by obtain rfl:j=0:=Nat.le_zero.1 h;rfl
 |i+1,h,hd=>by
  by_cases e:j=i+1
  ·subst e;rfl
  ·have h1:=Wx (m:=m) (V:=V) (O:=O) (S:=S) i (by omega) (fun l q1 q2=>hd l q1 (by omega));rw[<-h1];have h2:=hd i (by omega) (by omega);show putH (lx m V O S i).h (O i) id=_;cases hq:O i with
   |none=>rfl
   |some p =>have:id≠p.1:=fun e=>h2 (by simp[Bf,hq,e]);simp[putH,hset,this]
theorem jzbm{m:List As}{S:Ay}{V:Nat->Aa}{R:Nat->List Nat}{O:Nat->Option (Nat×Ai)}{i j id:Nat}(cz:∀k o,m[k]?=some o->BX E P o (lx m V O S k) (V k) (R k) (O k))(hs:sfOk m i j=true)(gL:j<i)(bQ:O j=none)(hi:Bf O i=some id) (hrd:∀k∈R j,k=id) (jY:∀l,j<l->l<i->Bf O l≠some id) : ∀o,m[j]?=some o->∀S':Ay,(∀x∈looks o,S'.t.getD x .top=(lx m V O S j).t.getD x .top)->S'.h id=FE O i->BX E P o S' (V j) (R j) (O j):=by
 unfold sfOk at hs;split at hs;rotate_left
 ·cases hs
 rename_i di kd z x k dj kd' z' x' k' mO lw;simp only[AE,Br,Dw,Fz,Il,CO]at hs;obtain⟨⟨⟨hz,rfl⟩,rfl⟩,hd⟩:=hs;obtain rfl:=jzh5 hz;intro o ly S' l7 hid;rw[lw]at ly;cases ly
 have br:∀l,j<=l->l<i->BA m l≠some x/\BA m l≠some k:=fun l h1 h2=>by
  have:=(hd l h2).resolve_left (Nat.not_lt.2 h1);cases hm:m[l]? with
  |none=>simp[BA,hm]
  |some o=>rw[hm]at this;simpa [BA,hm] using this
 have ex:=QV (m:=m) (V:=V) (O:=O) (S:=S) (j:=j) i (FZ gL) fun l h1 h2=>(br l h1 h2).1;have ek:=QV (m:=m) (V:=V) (O:=O) (S:=S) (j:=j) i (FZ gL) fun l h1 h2=>(br l h1 h2).2
 have eh:=Wx (m:=m) (V:=V) (O:=O) (S:=S) (id:=id) (j:=j) i (FZ gL) fun l h1 h2=>by
  by_cases e:l=j
  ·subst e;simp[Bf,bQ]
  ·exact jY l (by omega) h2
 have sx:S'.t.getD x .top=(lx m V O S j).t.getD x .top:=l7 x (by simp[looks,Al.args,C8]);have sk:S'.t.getD k .top=(lx m V O S j).t.getD k .top:=l7 k (by simp[looks,Al.args,C8])
 have jF:(F7 kd z ((lx m V O S i).t.getD x .top) ((lx m V O S i).t.getD k .top) (lx m V O S i).h).ok/\OutW (lx m V O S i).h (F7 kd z ((lx m V O S i).t.getD x .top) ((lx m V O S i).t.getD k .top) (lx m V O S i).h).out (O i):=by
  rcases cz i _ mO with h|h
  ·exact⟨h.1,h.2.2.2.1⟩
  ·obtain⟨f,args,h,_⟩:=h;cases h
 have mP:(Bu kd' false z ((lx m V O S j).t.getD x .top) ((lx m V O S j).t.getD k .top) (lx m V O S j).h).ok/\VEq (Bu kd' false z ((lx m V O S j).t.getD x .top) ((lx m V O S j).t.getD k .top) (lx m V O S j).h).v (V j) /\ (∀q∈(Bu kd' false z ((lx m V O S j).t.getD x .top) ((lx m V O S j).t.getD k .top) (lx m V O S j).h).rd,q∈R j):=by
  rcases cz j _ lw with h|h
  ·exact⟨h.1,h.2.1,h.2.2.1⟩
  ·obtain⟨f,args,h,_⟩:=h;cases h
 obtain⟨q1,q2⟩:=jF;obtain⟨p1,p2,p3⟩:=mP;rw[ex,ek]at q1 q2;generalize hX:(lx m V O S j).t.getD x .top=X at *;generalize hK:(lx m V O S j).t.getD k .top=K at *;unfold F7 at q1 q2;cases X<;>simp only[Req.fail]at q1 q2;rename_i id0 ep;cases hh:(lx m V O S i).h id0<;>simp only[hh]at q1 q2;rename_i ep' es;cases hO:O i with
 |none=>simp[Bf,hO]at hi
 |some y =>
 obtain⟨id1,ob⟩:=y;have e1:id1=id:=by simpa [Bf,hO] using hi
 subst e1;have bY:FE O i=ob:=by simp[FE,hO]
 rw[bY]at hid;rw[hO]at q2
 have main:∀(es':List (Aa×Aa)) (v:Aa) (q:Nat),id0=id1->ob=.amap ep' es'->ep=ep'->K.kkind=kd'->AH K es' 0=some (some (q,v))->VEq v (V j)->BX E P ⟨dj,.mlook kd' false z (.t x) (.t k),none⟩ S' (V j) (R j) (O j):=by
  intro es' v q e0 eb e2 e3 e4 e5;subst e0;subst eb;have er:(Al.mlook kd' false z (.t x) (.t k)).req (Ae E S'.t) S'.h=⟨ep=ep'/\K.kkind=kd',[id0],v,none⟩:=by show Bu kd' false z (S'.t.getD x .top) (S'.t.getD k .top) S'.h=_;rw[sx,sk];unfold Bu Cn;simp only[hid,e4];rfl
  refine .inl ?_;show((Al.mlook kd' false z (.t x) (.t k)).req (Ae E S'.t) S'.h).ok/\VEq ((Al.mlook kd' false z (.t x) (.t k)).req (Ae E S'.t) S'.h).v (V j)/\(∀q∈((Al.mlook kd' false z (.t x) (.t k)).req (Ae E S'.t) S'.h).rd,q∈R j)/\OutW S'.h ((Al.mlook kd' false z (.t x) (.t k)).req (Ae E S'.t) S'.h).out (O j)/\∀i ob,O j=some (i,ob)->i∈R j;rw[er,bQ];refine⟨⟨e2,e3⟩,e5,fun q hq=>?_,trivial,fun i ob h=>by cases h⟩;have hq:q=id0:=by simpa using hq
  subst hq;refine p3 q ?_;have iv:(lx m V O S j).h q=.amap ep' es:=by rw[<-eh];exact hh
  have:(Bu kd' false z (.mp q ep) K (lx m V O S j).h).rd=[q]:=by
   have p1':=p1;unfold Bu Cn at p1' ⊢;simp only[iv]at p1' ⊢;cases hf:AH K es 0 with
   |none=>simp only[hf,Req.fail]at p1'
   |some r=>cases r<;>rfl
  rw[this];simp
 cases hf:AH K es 0 with
 |none=>simp only[hf]at q1
 |some r =>
  cases r with
  |none =>
   simp only[hf]at q1 q2;obtain⟨k1,k2,k3⟩:=q1;obtain⟨rfl,jZ⟩:id0=id1/\OEq _ ob:=q2;have eb:=jZ.mp _ _ rfl;have iv:(lx m V O S j).h id0=.amap ep' es:=by rw[<-eh];exact hh
   have hv:Bu kd' false z (.mp id0 ep) K (lx m V O S j).h=⟨ep=ep'/\K.kkind=kd',[id0],z,none⟩:=by unfold Bu Cn;simp only[iv,hf];rfl
   rw[hv]at p1 p2;exact main _ z _ rfl eb p1.1 p1.2 (Ww k3 es 0 hf) p2
  |some y =>
   obtain⟨p,v⟩:=y;simp only[hf]at q1 q2;obtain⟨k1,k2,k3⟩:=q1;obtain⟨rfl,jZ⟩:id0=id1/\OEq _ ob:=q2;have eb:=jZ.mp _ _ rfl;have iv:(lx m V O S j).h id0=.amap ep' es:=by rw[<-eh];exact hh
   have hv:Bu kd' false z (.mp id0 ep) K (lx m V O S j).h=⟨ep=ep'/\K.kkind=kd',[id0],v,none⟩:=by unfold Bu Cn;simp only[iv,hf];rfl
   rw[hv]at p1 p2;exact main _ v _ rfl eb p1.1 p1.2 (Wv k3 es 0 p hf).2 p2
theorem Wy{m:List As}{preds:List (List Nat)}{S:Ay}{V:Nat->Aa}{R:Nat->List Nat}{O:Nat->Option (Nat×Ai)}(cz:∀k o,m[k]?=some o->BX E P o (lx m V O S k) (V k) (R k) (O k))(gM:Dn m preds ((List.range m.length).map fun k=>(R k,Bf O k))=true):∀i j id,i<m.length->j<m.length->i≠j->j∉preds.getD i []->i∉preds.getD j []->Bf O i=some id->id∉R j\/QR E P m preds S m.length V R O i j id:=by
 simp only[Dn,Dw,Fz,Fy,Qv]at gM;intro i j id hi hj aL h1 h2 hid;have at':∀l,l<m.length->((List.range m.length).map fun k=>(R k,Bf O k)).getD l ([],none)=(R l,Bf O l):=fun l hl=>by simp[List.getD,hl]
 have:=gM i hi;rw[at' i hi]at this;simp only[hid,Dw,Fz]at this;have:=this j hj;rw[at' j hj]at this;have h1':(preds.getD i []).contains j=false:=by simpa using h1
 have ez:(preds.getD j []).contains i=false:=by simpa using h2
 have kb:(i==j)=false:=by simpa using aL
 simp only[h1',ez,kb,Bool.false_or,Il,AE,CO,Br,Dw,Fz,GV,Bool.not_eq_true]at this;rcases this with h|⟨⟨⟨⟨k1,k2⟩,k3⟩,k4⟩,k5⟩
 ·exact .inl (by simpa using h)
 ·refine .inr ?_;have bQ:O j=none:=by cases hO:O j with | none=>rfl | some y=>simp[Bf,hO]at k3
  have ord:∀l,l<m.length->l≠i->l≠j->Bf O l=some id->(l∈preds.getD j []\/j∈preds.getD l [])/\¬(j<l/\l<i):=fun l hl a b c=>by
   have:=k5 l hl;rw[at' l hl]at this;simp only[c]at this;rcases this with ((h|h)|h)|h
   ·exact absurd h a
   ·exact absurd h b
   ·simp at h
   ·refine⟨?_,fun⟨q1,q2⟩=>?_⟩;·simpa [Ga2] using h.1
    ·have:=h.2;simp[q1,q2]at this
  refine⟨k1,bQ,fun k hk=>k4 k hk,fun l hl a b c=>(ord l hl a b c).1,?_⟩;exact jzbm cz k2 k1 bQ hid (fun k hk=>k4 k hk) fun l a b c=>(ord l (by omega) (by omega) (by omega) c).2 ⟨a,b⟩
theorem AWp.drawnT{id:Nat}{ops:Array Oper}{m:List As}{preds:List (List Nat)}{S:Ay}{Q:Exit->Ay->Prop}(hc:yzf P ops ops.toList m=true)(hp:II ops.toList preds=true)(he:Hl 0 ops.toList=true)(d6:IJ m preds=true) (hm:P.follows .mixedOrders=true) (h:∃(V:Nat->Aa) (R:Nat->List Nat) (O:Nat->Option (Nat×Ai)),(∀k o,m[k]?=some o->BX E P o (lx m V O S k) (V k) (R k) (O k))/\Dn m preds ((List.range m.length).map fun k=>(R k,Bf O k))=true/\Q .normal (lx m V O S m.length)):AWp E ρ P (.region id ops true) Q S:=by
 obtain⟨aF,d5⟩:=QT hc;obtain⟨V,R,O,cz,gM,hQ⟩:=h;have d7:m.length=ops.size:=by rw[aF];simp
 simp only[II,AE,Br,Dw,Fz,CO]at hp;obtain⟨bB,hp⟩:=hp
 have iy:∀i p,p∈preds.getD i []->i<ops.toList.length:=fun i p h=>by
  rcases CN i ops.toList.length with h1|h1
  ·exact h1
  ·simp[List.getD,JV (show preds.length<=i by omega)]at h
 simp only[IJ,Dw,Fz]at d6
 have D:IH E P m preds S m.length V R O:=by
  refine⟨rfl,cz,fun i j hj=>(hp i (iy i j hj) j hj).1,?_,?_⟩
  ·intro i j oi oj d hi hj aL h1 h2 hd;have:=d6 i (AU.1 hi).1 j (AU.1 hj).1;rw[hi,hj]at this;have h1':j∉preds[i]?.getD []:=by simpa using h1
   have ez:i∉preds[j]?.getD []:=by simpa using h2
   simpa [aL,h1',ez,hd] using this
  ·exact Wy cz gM
 intro g a w hs;have hw:=hs.hr.heap (w':={ w with drawn:=w.drawn+1 }) rfl rfl rfl rfl;have bi:SR E g S a { w with drawn:=w.drawn+1 }:=⟨hw.1,hs.tm.mono hw.2.le,hs.df,hs.dk,hs.dn⟩;have stp0:Stp g S.h w g S.h { w with drawn:=w.drawn+1 }:=hw.2;refine wpIn_region_any hm ?_
 have e0:stL m V O S m.length (fun j=>(Array.replicate ops.size false).getD j false)=S:=by
  have:(fun j=>(Array.replicate ops.size false).getD j false)=(fun j=>decide (j<0)):=by funext j;by_cases hj:j<ops.size<;>simp[Array.getD,hj]
  rw[this,IG 0 (Fv _)];rfl
 refine qzze (ρ:=ρ) (Q:=fun e a' w'=>∃g' S',Q e S'/\SR E g' S' a' w'/\Stp g S.h w g' S'.h w') D d7.symm (fun k o hk=>d5 k o (by simpa using hk)) (fun i o hi e kc hb=>by have:=QU he i o (by simpa using hi) e kc hb;omega) (fun i o hi p bT=>?_)
  ops.size (Array.replicate ops.size false) (by simp[d7]) (fun j hj=>?_) ⟨List.range m.length,fun j hj _=>by simpa using hj,by simp[d7]⟩ g a _ (by rw[e0];exact bi) (fun g' a' w' cq st=>⟨g',_,hQ,cq,stp0.trans (by rw[e0]at st;exact st)⟩)
 ·have h1:=(hp i (iy i p bT) p bT).2;have bf:ops.toList[i]?=some o:=by simpa using hi
  rw[bf]at h1;simp only[List.any_eq_true,AE,Il,Br,Ga2]at h1;obtain⟨e,h2,h3,h4⟩:=h1;exact⟨e,h2,h3,h4⟩
 ·by_cases h1:j<ops.size<;>simp[Array.getD,h1]at hj
theorem AWp.drawn{id:Nat}{ops:Array Oper}{m:List As}{preds:List (List Nat)}{S:Ay}{Q:Exit->Ay->Prop}(hc:yzf P ops ops.toList m=true)(hp:II ops.toList preds=true)(he:Hl 0 ops.toList=true)(d6:IJ m preds=true) (hm:P.follows .mixedOrders=true) (h:dreg E P m S (fun S' tr=>hpOk preds tr=true/\Q .normal S')):AWp E ρ P (.region id ops true) Q S:=by obtain⟨V,R,O,h1,h2,h3⟩:=Wu m S _ h;exact .drawnT hc hp he d6 hm ⟨V,R,O,h1,jzh0 h2,h3⟩
def EC(E:Nat->Aa)(P:Program):List As->Ay->(Ay->List (List Nat×Option Nat)->Prop)->Prop
 |[],S,K=>K S []
 |o :: r,S,K=>∃v rd out,BX E P o S v rd out/\EC E P r ⟨putT S.t o.dst v,putH S.h out,S.ds⟩ (fun S' tr=>K S' ((rd,out.map (·.1)) :: tr))
theorem QW:∀(l:List As) (S:Ay) (K:Ay->List (List Nat×Option Nat)->Prop),EC E P l S K -> ∃(V:Nat->Aa) (R:Nat->List Nat) (O:Nat->Option (Nat×Ai)),(∀k o,l[k]?=some o->BX E P o (lx l V O S k) (V k) (R k) (O k))/\K (lx l V O S l.length) ((List.range l.length).map fun k=>(R k,Bf O k))
 |[],S,K,h=>⟨fun _=>.top,fun _=>[],fun _=>none,fun k o h=>by simp at h,h⟩
 |o :: l,S,K,h=>by
  obtain⟨v,rd,out,h1,h2⟩:=h;obtain⟨V,R,O,h3,h4⟩:=QW l _ _ h2;refine⟨fun k=>match k with | 0=>v | k+1=>V k,fun k=>match k with | 0=>rd | k+1=>R k,fun k=>match k with | 0=>out | k+1=>O k,fun k ok hk=>?_,?_⟩
  ·cases k with
   |zero=>simp at hk;subst hk;exact h1
   |succ k =>rw[Ks];exact h3 k ok (by simpa using hk)
  ·rw[DL,Ks,List.range_succ_eq_map,JZ,List.map_map];exact h4
end
section
variable {E:Nat->Aa}{P:Program}{ρ:Option Nat}
theorem HR.new{g:Gh}{h:Ax}{w:World}{i:Nat}{o:Ai}{ob:Obj}(H:HR E g h w)(bF:o.ep=(h i).ep+1)(bY:∀(g':Gh) (w':World),GLe g w g' w'->g'.ep i=(h i).ep+1->(∀j,j≠i->g'.ep j=g.ep j)->g'.blk i=w.heap.size->w'.heap[w.heap.size]?=some ob->OR g' w' i o) : ∃g',g'.blk i=w.heap.size/\HR E g' (hset h i o) (w.alloc ob)/\Stp g h w g' (hset h i o) (w.alloc ob):=by
 let g':Gh:=⟨fun j=>if j=i then w.heap.size else g.blk j,fun j=>if j=i then(h i).ep+1 else g.ep j,g.bo,g.st,g.cp,g.fz⟩
 have bg:∀b,b<w.heap.size->(w.alloc ob).heap[b]?=w.heap[b]?:=fun b hb=>by show(w.heap.push ob)[b]?=_;rw[N4,Ak (by omega)]
 have aN:(w.alloc ob).heap[w.heap.size]?=some ob:=World.alloc_heap_new w ob;have aJ:(w.alloc ob).heap.size=w.heap.size+1:=by show(w.heap.push ob).size=_;simp
 have aD:GLe g w g' (w.alloc ob):=by
  refine⟨fun b hb=>⟨hb,bg b (H.fzb b hb)⟩,fun j=>?_,fun j hj=>?_⟩
  ·show g.ep j<=if j=i then(h i).ep+1 else g.ep j;split
   ·rename_i e;subst e;rw[H.ep j];omega
   ·exact AD _
  ·have:j≠i:=fun e=>by
    subst e;have aV:(if j=j then(h j).ep+1 else g.ep j)=g.ep j:=hj;rw[Aq rfl,H.ep j]at aV;omega
   exact⟨Ak this,rfl,rfl,rfl⟩
 have eb:g'.blk i=w.heap.size:=Aq rfl;refine⟨g',eb,HR.upd (g':=g') (w':=w.alloc ob) (i:=i) (o':=o) H aD (fun j hj=>Ak hj) ((Aq rfl:g'.ep i=_).trans bF.symm) (fun b hb _=>bg b hb) (by rw[aJ];omega) (bY g' _ aD (Aq rfl) (fun j hj=>Ak hj) eb aN) (fun _=>.inr (by rw[eb];exact AD _)) (fun _ hf=>by have:=H.fzb _ (show g.fz (g'.blk i) from hf);rw[eb]at this;omega) (fun b hb=>.inl hb) (fun b hb=>by have:=H.fzb b hb;rw[aJ];omega) rfl rfl rfl⟩
def QX(Q:Exit->Ay->Prop):Option Code->Ay->Prop
 |none,S=>Q .normal S
 |some .ret,S=>Q .ret S
 |some (.exit i),S=>Q (.exit i) S
 |_,_=>False
theorem AWp.rfunc{f:Operand}{f':Ac}{ps:Array Tmp}{a b:Code}{S:Ay}{Q:Exit->Ay->Prop}{fi:FuncId}{caps:List Aa}(D L:Nat)(gN:D≠L)(hD:(S.h D).plain)(hL:(S.h L).plain)(hk:A8 f f'=true)(hf:Ae E S.t f'=.fn fi 0 caps)(he:Ci P fi=true)
  (h:ATr E P fi (.yld L ((S.h L).ep+1) :: caps) (hset (hset S.h D (.dfr ((S.h D).ep+1))) L (.loop ((S.h L).ep+1) .ready none S.t ps a b D ((S.h D).ep+1)))
   (fun v h'=>∃st pd,st≠.busy/\h' L=.loop ((S.h L).ep+1) st pd S.t ps a b D ((S.h D).ep+1)/\h' D=.dfr ((S.h D).ep+1)/\(∀X∈S.ds,h' X.1=.dfr X.2) /\
    QX Q pd ⟨S.t,hset h' L (.gone ((S.h L).ep+1)),(D,(S.h D).ep+1) :: S.ds⟩)):AWp E none P (.rangeFunc f ps a b) Q S:=by
 intro g a0 w hs;have bK:∀X∈S.ds,X.1≠D/\X.1≠L:=fun X hX=>⟨fun e=>by have:=hs.dk X hX;rw[e]at this;rw[this]at hD;exact hD,fun e=>by have:=hs.dk X hX;rw[e]at this;rw[this]at hL;exact hL⟩;have rx:=AP hs.hr hs.tm hk;rw[hf]at rx;obtain⟨arr,hv,e8⟩:=wze2 rx;refine wpIn_rangeFunc fun fn _=>?_;obtain⟨g1,eb1,H1,st1⟩:=hs.hr.new (i:=D) (o:=.dfr ((S.h D).ep+1)) (ob:=.deferred (some [])) rfl (fun g' w' aD dx dC eb hh=>by show w'.heap[g'.blk D]?=_;rw[eb];exact hh);have kf:(hset S.h D (.dfr ((S.h D).ep+1)) L)=S.h L:=by simp[hset,Ne.symm gN]
 have tm1:=hs.tm.mono st1.le;have epD1:g1.ep D=(S.h D).ep+1:=by rw[H1.ep D];simp[hset,Ai.ep]
 obtain⟨g2,eb2,H2,st2⟩:=H1.new (i:=L) (o:=.loop ((S.h L).ep+1) .ready none S.t ps a b D ((S.h D).ep+1)) (ob:=.loop { state:=.ready,pending:=none,fn,tmps:=a0.tmps,params:=ps,assign:=a,body:=b,defers:=w.heap.size }) (by rw[kf];rfl) (fun g' w' aD dx dC eb hh=>by refine⟨by rw[dC D gN,epD1];exact AD _,_,_,_,fun e=>?_,by rw[eb];exact hh,tm1.mono aD⟩;rw[(aD.same D (dC D gN)).1];exact eb1.symm);have kg:(w.alloc (.deferred (some []))).heap.size=w.heap.size+1:=by show(w.heap.push _).size=_;simp
 rw[kg]at eb2;have st12:=st1.trans st2;refine⟨_,_,_,{ target:=.fn (.func fi) arr,args:=#[.func (.yield (w.heap.size+1)) #[] #[]] },((w.alloc (.deferred (some []))).alloc (.loop { state:=.ready,pending:=none,fn,tmps:=a0.tmps,params:=ps,assign:=a,body:=b,defers:=w.heap.size })),fi,#[.func (.yield (w.heap.size+1)) #[] #[]]++arr,((w.alloc (.deferred (some []))).alloc (.loop { state:=.ready,pending:=none,fn,tmps:=a0.tmps,params:=ps,assign:=a,body:=b,defers:=w.heap.size })),run_enterLoop_outer fn a0.tmps ps a b,?_,fun f' _=>trivial,?_,fun e7=>absurd e7 (Q1 none),?_⟩
 ·simp only[resolve,rangeCall,Sem.run_bind,hv,Deferred.ofValue,Sem.run_pure,Array.empty_append];have em:(#[Operand.const (Value.func (Fn.yield (w.heap.size+1)) #[] #[])]:Array Operand).map a0.eval=#[.func (.yield (w.heap.size+1)) #[] #[]]:=by simp[Act.eval]
  rw[em]
 ·simp only[invoke];exact NM he _ _
 rw[Q2]
 have bA:RVs g2 ((w.alloc (.deferred (some []))).alloc (.loop { state:=.ready,pending:=none,fn,tmps:=a0.tmps,params:=ps,assign:=a,body:=b,defers:=w.heap.size })) (.yld L ((S.h L).ep+1) :: caps) (.func (.yield (w.heap.size+1)) #[] #[] :: arr.toList):=by
  have e2:g2.ep L=(S.h L).ep+1:=by rw[H2.ep L];simp[hset,Ai.ep]
  exact .cons (.yld _ _ _ rfl (by rw[e2];exact AD _) (fun _=>by rw[eb2])) (e8.mono st12.le)
 have hc:=h g2 _ _ H2 bA;have earr:(Value.func (.yield (w.heap.size+1)) #[] #[] :: arr.toList).toArray=#[.func (.yield (w.heap.size+1)) #[] #[]]++arr:=by apply Array.ext';simp
 rw[earr]at hc;refine hc.mono ?_;rintro e w3 ⟨g3,h3,r,v,⟨st,pd,aH,l8,lA,lB,hQ⟩,rfl,bt,H3,st3⟩;obtain⟨r3,ip,q1,q2,q3,q4,q5,_,put3⟩:=H3.loopAt l8;obtain⟨H4,st4⟩:=put3 .exhausted pd;have eb3:g3.blk L=w.heap.size+1:=by rw[<-eb2];exact Ko H2 H3 st3.le (by rw[l8];simp[hset,Ai.ep])
 have er:({ r3 with state:=.exhausted,pending:=pd }:Loop)={ r3 with state:=.exhausted }:=by rw[<-q2]
 rw[er]at H4 st4;rw[eb3]at ip H4 st4;have kh:=run_endLoop (P:=P) ip (by rw[q1];exact aH)
 have cx:∀i,OSub (hset h3 L (.loop ((S.h L).ep+1) .exhausted pd S.t ps a b D ((S.h D).ep+1)) i) (hset h3 L (.gone ((S.h L).ep+1)) i):=fun i=>by
  by_cases e:i=L
  ·subst e;simp only[hset,BK];exact .inl rfl
  ·simp only[hset,e,Df];exact .refl _
 have H5:=H4.sub cx;have st5:Stp g S.h w g3 (hset h3 L (.gone ((S.h L).ep+1))) (w3.putObj (w.heap.size+1) (.loop { r3 with state:=.exhausted })):=(st12.trans (st3.trans st4)).sub cx;have ebD:g3.blk D=w.heap.size:=by have:g3.blk D=g1.blk D:=Ko H1 H3 (st2.le.trans st3.le) (by rw[lA];simp[hset,Ai.ep]);rw[this,eb1]
 have ki:SR E g3 ⟨S.t,hset h3 L (.gone ((S.h L).ep+1)),(D,(S.h D).ep+1) :: S.ds⟩ { a0 with defers:=[{ target:=.collected w.heap.size,args:=#[] }]++a0.defers } (w3.putObj (w.heap.size+1) (.loop { r3 with state:=.exhausted })):=by
  refine⟨H5,hs.tm.mono st5.le,?_,?_,?_⟩
  ·rw[<-ebD,hs.df];show _ :: _=_ :: _;congr 1;refine Iv fun X hX=>?_;rw[Ko hs.hr H3 (st12.trans st3).le (by rw[lB X hX,hs.dk X hX])]
  ·intro X hX;rcases AM.1 hX with rfl|hX
   ·show(if D=L then _ else h3 D)=_;rw[Ak gN];exact lA
   ·show(if X.1=L then _ else h3 X.1)=_;rw[Ak (bK X hX).2];exact lB X hX
  ·show(D :: S.ds.map (·.1)).Nodup;refine List.nodup_cons.2 ⟨fun hm=>?_,hs.dn⟩;obtain⟨X,hX,e⟩:=FX.1 hm;exact(bK X hX).1 e
 have i7:(Instr.endLoop (w.heap.size+1)).run P w3=.ok pd (w3.putObj (w.heap.size+1) (.loop { r3 with state:=.exhausted })):=by rw[kh];congr 1
 refine⟨pd,_,i7,?_⟩;cases pd with
 |none=>exact⟨g3,_,hQ,ki,st5⟩
 |some c =>
  cases c with
  |ret=>exact wpIn_ret ⟨g3,_,hQ,ki,st5⟩
  |exit i=>exact wpIn_exit ⟨g3,_,hQ,ki,st5⟩
  |_=>exact hQ.elim
end
end Go.Am

