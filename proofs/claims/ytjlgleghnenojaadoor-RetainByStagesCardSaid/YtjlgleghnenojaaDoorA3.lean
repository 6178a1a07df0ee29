/- Part A3: an abstract machine proved sound over the calculus of the guide. No condition. -/
import Derived.Test.YtjlgleghnenojaaDoorA2
set_option linter.unusedSimpArgs false
set_option linter.unusedVariables false
namespace Go.Am
def AOp.quiet:AOp->Bool
 |.mkmap _ | .mupd _ _ _ _ | .mrange _ _ | .mnext _ | .alloc _ _ | .box _ _ | .bslice _ _ _ _ _ | .store _ _ _ | .append _ _ _ _ _ | .s2b _ _ | .mks _ _ _ _ _ | .copy _ _ _ | .clear _ _ | .callf _ _ | .callv _ _=>false
 |_=>true
theorem qzzu(o:AOp)(hq:o.quiet=true)(ar:AArg->AVal)(h:qzl):∀i ob,(o.req ar h).out=some (i,ob)->ob=h i:=by
 by_cases hf:∃s st nn zero ps,o=.fslice s st nn zero ps
 ·obtain⟨s,st,nn,zero,ps,rfl⟩:=hf;intro i ob ho;simp only[AOp.req]at ho;cases hp:jzv ar zero ps<;>simp only[hp,Req.fail]at ho
  ·cases ho
  ·simp only[Gdq,Gdr]at ho;obtain⟨rfl,rfl⟩:=ho;rfl
 have:(o.req ar h).out=none:=by cases o<;>simp only[AOp.quiet]at hq<;>(try (cases hq;done))<;>(try exact absurd ⟨_,_,_,_,_,rfl⟩ hf)<;>simp only[AOp.req,Req.val,Req.when,Req.fail,qzfc,vzl,qzbd,qzg6,jzp,wz9,qzkq,qzgb,qzdu]<;>(repeat' split)<;>rfl
 intro i ob ho;rw[this]at ho;cases ho
def AOp.isCall:AOp->Bool
 |.callf _ _ | .callv _ _ | .mnext _=>true
 |_=>false
def kzz(P:Program)(f:FuncId):Bool:=match P.funcs[f]? with
 | some fn => fn.body.isSome && fn.name != "runtime.NumGoroutine"
 |none=>false
def jzo(E:Nat->AVal)(P:Program)(c:Bool)(t:List AVal)(h:qzl)(ds:List (Nat×Nat))(xs:List AArg)(f:FuncId)(args:List AVal)(K:AVal->qzl->Prop):Prop := (∃v,(c=true->wze c t xs/\ATr E P f args h (fun v' h'=>v'=v/\h'=h))/\K (.cnd c v) h) \/ ((c=true->wze c t xs/\ATr E P f args h (fun v h'=>(∀D∈ds,h' D.1=.dfr D.2)/\K (.cnd true v) h'))/\(c=false->K (.cnd false .top) h))
def gyld(E:Nat->AVal)(P:Program)(c:Bool)(t:List AVal)(h:qzl)(ds:List (Nat×Nat))(xs:List AArg)(id ep:Nat)(args:List AVal)(K:AVal->qzl->Prop):Prop := (c=true->wze c t xs/\qzhp E P id ep args h (fun v h'=>(∀D∈ds,h' D.1=.dfr D.2)/\K (.cnd true v) h'))/\(c=false->K (.cnd false (.bool false)) h)
def qznp(x:AVal)(h:qzl)(K:AVal->qzl->Prop):Prop :=
 match x with
 |.ptr id ep 0=>match h id with
  |.miter ep' (some (M,eM,n)) seen=>match h M with
   |.amap eM' es=>ep=ep'/\eM=eM'/\es.length=n /\
    (∀k,k<n->k∉seen->K (.tup [.bool true,(es.getD k (.top,.top)).1,(es.getD k (.top,.top)).2]) (hset h id (.miter ep' (some (M,eM,n)) (seen++[k])))) /\
    ((∀k,k<n->k∈seen)->K (.tup [.bool false]) h)
   |_=>False
  |.miter ep' none _=>ep=ep'/\K (.tup [.bool false]) h
  |_=>False
 |_=>False
def fnArgs{α:Type}(nb:Nat)(as caps:List α):List α:=caps.take nb++as++caps.drop nb
def aop(E:Nat->AVal)(P:Program)(o:qzc)(S:ASt)(K:ASt->Prop):Prop :=
 match o.guard with
 |none=>match o.op with
  |.callf f args=>ATr E P f (args.map (argv E S.t)) S.h (fun v h'=>(∀D∈S.ds,h' D.1=.dfr D.2)/\K ⟨putT S.t o.dst v,h',S.ds⟩)
  |.callv x args=>match argv E S.t x with
   |.fn f nb caps=>kzz P f=true/\ATr E P f (fnArgs nb (args.map (argv E S.t)) caps) S.h (fun v h'=>(∀D∈S.ds,h' D.1=.dfr D.2)/\K ⟨putT S.t o.dst v,h',S.ds⟩)
   |.yld id ep=>qzhp E P id ep (args.map (argv E S.t)) S.h (fun v h'=>(∀D∈S.ds,h' D.1=.dfr D.2)/\K ⟨putT S.t o.dst v,h',S.ds⟩)
   |_=>False
  |.mnext x=>qznp (argv E S.t x) S.h (fun v h'=>K ⟨putT S.t o.dst v,h',S.ds⟩)
  |op=>(op.req (argv E S.t) S.h).ok/\K ⟨putT S.t o.dst (op.req (argv E S.t) S.h).v,putH S.h (op.req (argv E S.t) S.h).out,S.ds⟩
 |some (tg,want)=>match qzcj (S.t.getD tg .top) want with
  |none=>False
  |some c=>match o.op with
   |.callf f args=>jzo E P c S.t S.h S.ds args f (args.map (argU E S.t)) (fun v h'=>K ⟨putT S.t o.dst v,h',S.ds⟩)
   | .callv x args=>(c=false->K ⟨putT S.t o.dst (.cnd false .top),S.h,S.ds⟩)/\(c=true->match argU E S.t x with
    |.fn f nb caps=>kzz P f=true/\jzo E P c S.t S.h S.ds (x :: args) f (fnArgs nb (args.map (argU E S.t)) caps) (fun v h'=>K ⟨putT S.t o.dst v,h',S.ds⟩)
    |.yld id ep=>gyld E P c S.t S.h S.ds (x :: args) id ep (args.map (argU E S.t)) (fun v h'=>K ⟨putT S.t o.dst v,h',S.ds⟩)
    | _=>False)
   |.mnext _=>False
   |op=>op.quiet=true/\(c=true->op.unAll E c S.t/\(op.req (argU E S.t) S.h).ok)/\K ⟨putT S.t o.dst (.cnd c (op.req (argU E S.t) S.h).v),S.h,S.ds⟩
def areg(E:Nat->AVal)(P:Program):List qzc->ASt->(ASt->Prop)->Prop
 |[],S,K=>K S
 |o :: r,S,K=>aop E P o S (fun S'=>areg E P r S' K)
def wzt(P:Program)(o:Op)(a:AOp):Bool :=
 match o,a with
 |.call { callee:=.value (.func f),args,.. },.callf f' args'=>f==f'&&kzz P f&&yzw args.toList args'
 |.call { callee:=.value x,args,.. },.callv x' args'=>qzm x x'&&yzw args.toList args'
 |.next x false,.mnext x'=>qzm x x'
 |o,a=>jzq P o a
def qzct(P:Program)(ops:Array Oper)(o:Oper)(a:qzc):Bool :=
 o.dst==a.dst&&(match o.guard,a.guard with
  |none,none=>true
  |some (j,want),some (tg,want')=>want==want'&&((ops[j]?).bind (·.dst))==some tg
  | _,_=>false)&&wzt P o.op a.op
theorem qzt9{P:Program}{ops:Array Oper}{o:Oper}{a:qzc}(h:qzct P ops o a=true):qzc.Ok P ops o a/\wzt P o.op a.op=true:=by
 simp only[qzct,Gai,Gds]at h;obtain⟨⟨h1,h2⟩,h3⟩:=h;refine⟨⟨h1,?_⟩,h3⟩;cases hg:o.guard with
 |none =>
  cases hg':a.guard with
  |none=>rfl
  |some x=>simp[hg,hg']at h2
 |some x =>
  obtain⟨j,want⟩:=x;cases hg':a.guard with
  |none=>simp[hg,hg']at h2
  |some y =>obtain⟨tg,want'⟩:=y;simp only[hg,hg',Gai,Gds]at h2;obtain⟨rfl,h4⟩:=h2;exact⟨j,rfl,h4⟩
theorem qzol{P:Program}{op:Op}{f:FuncId}{args:List AArg}(h:wzt P op (.callf f args)=true) : ∃as ats,op=.call { callee:=.value (.func f),args:=as,argTypes:=ats }/\kzz P f=true/\yzw as.toList args=true:=by
 cases op<;>simp only[wzt,jzq]at h<;>(try (cases h;done));rename_i c;obtain⟨callee,as,ats⟩:=c;cases callee with
 |value x =>cases x<;>simp only[wzt,jzq]at h<;>(try (cases h;done));simp only[Gai,Gds]at h;obtain⟨⟨rfl,he⟩,ha⟩:=h;exact⟨as,ats,rfl,he,ha⟩
 |invoke r m=>simp only[wzt,jzq]at h;cases h
 |builtin b=>cases b<;>simp only[wzt,jzq]at h<;>cases h
theorem qzoi{P:Program}{op:Op}{x':AArg}{args:List AArg}(h:wzt P op (.callv x' args)=true) : ∃x as ats,op=.call { callee:=.value x,args:=as,argTypes:=ats }/\qzm x x'=true/\yzw as.toList args=true:=by
 cases op<;>simp only[wzt,jzq]at h<;>(try (cases h;done));rename_i c;obtain⟨callee,as,ats⟩:=c;cases callee with
 |value x =>cases x<;>simp only[wzt,jzq,Gai]at h<;>exact⟨_,as,ats,rfl,h.1,h.2⟩
 |invoke r m=>simp only[wzt,jzq]at h;cases h
 |builtin b=>cases b<;>simp only[wzt,jzq]at h<;>cases h
theorem qzux{P:Program}{op:Op}{x':AArg}(h:wzt P op (.mnext x')=true):∃x,op=.next x false/\qzm x x'=true:=by
 cases op<;>simp only[wzt,jzq]at h<;>(try (cases h;done))
 case next x b =>
  cases b<;>simp only[wzt,jzq]at h
  ·exact⟨x,rfl,h⟩
  ·cases h
theorem qzoe{P:Program}{op:Op}{a:AOp}(h:wzt P op a=true)(hic:a.isCall=false):jzq P op a=true:=by
 unfold wzt at h;split at h
 ·cases hic
 ·cases hic
 ·cases hic
 ·exact h
section
variable {E:Nat->AVal}{P:Program}{U:Option Nat}
theorem qzib{f:FuncId}(h:kzz P f=true)(args:Array Value)(w:World):(callFunc f args).run P w=.ok (.enter f args) w:=by
 unfold kzz at h
 cases hf:P.funcs[f]? with
 |none=>simp[hf]at h
 |some fn =>
  simp only[hf,Gai,bne_iff_ne,ne_eq]at h
  obtain⟨h1,h2⟩:=h
  have h2' : (fn.name == "runtime.NumGoroutine") = false := by simpa using h2
  have h3:fn.body.isNone=false:=by cases hb:fn.body<;>simp[hb]at h1 ⊢
  simp only[callFunc,Sem.run_bind,run_program,Result.andThen_ok,hf,h2',h3,Gan,Gd2,Sem.run_pure]
theorem qzi3{o:Oper}{g:Gh}{a:Act}{w:World}{S:ASt}{f:FuncId}{args:List AVal}{vs:List Value}(hs:SR E g S a w)(hd:∀c,o.op≠.defer c)(hrun:(execOp a.eval o).run P w=.ok (.enter f vs.toArray) w) (hv:RVs g w args vs) {K:ASt->Prop} {y:AVal->AVal} (hy:∀g' w' r v,RV g' w' r v->RV g' w' (y r) v)(h:ATr E P f args S.h (fun v h'=>(∀D∈S.ds,h' D.1=.dfr D.2)/\K ⟨putT S.t o.dst (y v),h',S.ds⟩)) {Q:Exit->Act->World->Prop} :
  o.wpIn (FW U) 0 P a w (fun a' w'=>∃g' S',K S'/\SR E g' S' a' w'/\Stp g S.h w g' S'.h w') Q:=by
 refine⟨fun f _=>trivial,?_⟩;rw[Oper.semAt_eq _ _ _ hd,hrun];refine⟨fun hdep=>absurd hdep (qzor U),?_⟩;rw[qzk2];refine(h g w vs hs.hr hv).mono ?_;rintro e w' ⟨g',h',r,v,⟨hds,hK⟩,rfl,hrv,H',st⟩;refine⟨g',_,hK,⟨H',qzky (hs.tm.mono st.le) o.dst (hy _ _ _ _ hrv),?_,hds,hs.dn⟩,st⟩;rw[qzfl,hs.df];refine Gb0 fun D hD=>?_;have h1:=hs.hr.ep D.1;have h2:=H'.ep D.1;rw[hs.dk D hD]at h1;rw[hds D hD]at h2;rw[(st.le.same D.1 (h2.trans h1.symm)).1]
theorem qzph{o:Oper}{g:Gh}{a:Act}{w:World}{S:ASt}{id ep:Nat}{args:List AVal}{vs:List Value}(hs:SR E g S a w)(hd:∀c,o.op≠.defer c)(hrun:(execOp a.eval o).run P w=(Instr.yield (g.blk id) vs.toArray).run P w) (hv:RVs g w args vs) {K:ASt->Prop} {y:AVal->AVal} (hy:∀g' w' r v,RV g' w' r v->RV g' w' (y r) v)(h:qzhp E P id ep args S.h (fun v h'=>(∀D∈S.ds,h' D.1=.dfr D.2)/\K ⟨putT S.t o.dst (y v),h',S.ds⟩)) {Q:Exit->Act->World->Prop} :
  o.wpIn (FW U) 0 P a w (fun a' w'=>∃g' S',K S'/\SR E g' S' a' w'/\Stp g S.h w g' S'.h w') Q:=by
 obtain⟨f,tmps,asg,body,hy1,hr⟩:=qzu7 (U:=U) h hs.hr hv;refine⟨fun f _=>trivial,?_⟩;rw[Oper.semAt_eq _ _ _ hd,hrun,hy1];refine⟨fun hdep=>absurd hdep (qzor U),?_⟩;refine RoundIn.mono hr ?_;rintro e w' ⟨g',h',r,v,⟨hds,hK⟩,rfl,hrv,H',st⟩;refine⟨g',_,hK,⟨H',qzky (hs.tm.mono st.le) o.dst (hy _ _ _ _ hrv),?_,hds,hs.dn⟩,st⟩;rw[qzfl,hs.df];refine Gb0 fun D hD=>?_;have h1:=hs.hr.ep D.1;have h2:=H'.ep D.1;rw[hs.dk D hD]at h1;rw[hds D hD]at h2;rw[(st.le.same D.1 (h2.trans h1.symm)).1]
theorem qzrj{o:Oper}{l:Nat}{x:Operand}{args:Array Operand}{ats:Array TypeId}(ho:o.op=.call { callee:=.value x,args,argTypes:=ats })(a:Act)(w:World)(hx:a.eval x=.func (.yield l) #[] #[]) : (execOp a.eval o).run P w=(Instr.yield l (args.toList.map a.eval).toArray).run P w:=by
 have e:(args.map a.eval)=(args.toList.map a.eval).toArray:=by apply Array.ext';simp
 simp only[execOp,ho,Sem.run_bind,resolve,hx,Deferred.ofValue,Sem.run_pure,Result.andThen_ok,invoke,Array.empty_append,e]
theorem qz1v{g:Gh}{h:qzl}{w:World}{id ep:Nat}{v:Value}(H:HR E g h w)(hid:(h id).ep=ep)(hv:RV g w (.yld id ep) v):v=.func (.yield (g.blk id)) #[] #[]:=by
 cases hv with
 |yld _ _ _ h1 he hp=>exact hp (by rw[H.ep,hid])
theorem qzhp.ep{id ep:Nat}{args:List AVal}{h:qzl}{K:AVal->qzl->Prop}(R:qzhp E P id ep args h K):(h id).ep=ep:=by obtain⟨ts,ps,asg,body,D,eD,hid,_⟩:=R;rw[hid];rfl
theorem qzq7{o:Oper}{f:FuncId}{args:Array Operand}{ats:Array TypeId}(ho:o.op=.call { callee:=.value (.func f),args,argTypes:=ats })(he:kzz P f=true)(a:Act)(w:World) : (execOp a.eval o).run P w=.ok (.enter f (args.toList.map a.eval).toArray) w:=by
 have e:(args.map a.eval)=(args.toList.map a.eval).toArray:=by apply Array.ext';simp
 simp only[execOp,ho,Sem.run_bind,resolve,Act.eval,Deferred.ofValue,Sem.run_pure,Result.andThen_ok,invoke,Array.empty_append,Array.append_empty,e,qzib he]
theorem qzq4{o:Oper}{f:FuncId}{x:Operand}{nb:Nat}{caps:Array Value}{args:Array Operand}{ats:Array TypeId}(ho:o.op=.call { callee:=.value x,args,argTypes:=ats })(he:kzz P f=true)(a:Act)(w:World)(hx:a.eval x=.func (.func f) (caps.toList.take nb).toArray (caps.toList.drop nb).toArray) : (execOp a.eval o).run P w=.ok (.enter f (fnArgs nb (args.toList.map a.eval) caps.toList).toArray) w:=by
 have e:(caps.toList.take nb).toArray++(args.map a.eval)++(caps.toList.drop nb).toArray=(fnArgs nb (args.toList.map a.eval) caps.toList).toArray:=by apply Array.ext';simp[fnArgs]
 simp only[execOp,ho,Sem.run_bind,resolve,hx,Deferred.ofValue,Sem.run_pure,Result.andThen_ok,invoke,e,qzib he]
theorem qzw9{g:Gh}{w:World}{f:FuncId}{nb:Nat}{caps:List AVal}{v:Value}(h:RV g w (.fn f nb caps) v):∃arr:Array Value,v=.func (.func f) (arr.toList.take nb).toArray (arr.toList.drop nb).toArray/\RVs g w caps arr.toList:=by
 cases h with
 |fn _ _ _ arr hn hr=>exact⟨arr,rfl,by simpa using hn,fun i x v hx hv=>hr i x v hx (by simpa using hv)⟩
theorem wze2{g:Gh}{w:World}{f:FuncId}{caps:List AVal}{v:Value}(h:RV g w (.fn f 0 caps) v):∃arr,v=.func (.func f) #[] arr/\RVs g w caps arr.toList:=by obtain⟨arr,h1,h2⟩:=qzw9 h;exact⟨arr,by rw[h1];simp,h2⟩
theorem RVs.fnArgs{g:Gh}{w:World}{nb:Nat}{as caps:List AVal}{l a:List Value}(h:RVs g w as l)(k:RVs g w caps a):RVs g w (fnArgs nb as caps) (fnArgs nb l a) := ((k.take nb).append h).append (k.drop nb)
theorem qzlp{g:Gh}{a:Act}{w:World}{S:ASt}(hs:SR E g S a w){c:Bool}(hc:c=true):∀{l:List Operand} {m:List AArg},yzw l m=true->wze c S.t m->RVs g w (m.map (argU E S.t)) (l.map a.eval)
 |[],[],_,_=>.nil g w
 |x :: l,y :: m,h,hu=>by
  simp only[yzw,Gai]at h
  have h1:RV g w (argU E S.t y) (a.eval x):=by
   have:=qzp hs.hr hs.tm h.1;cases y with
   |t n=>exact qzb9 this hu.1 hc
   |c v=>exact this
   |g i=>exact this
  have h2:wze c S.t m:=by
   cases y with
   |t n=>exact hu.2
   |c v=>exact hu
   |g i=>exact hu
  exact .cons h1 (qzlp hs hc h.2 h2)
 |[],_ :: _,h,_=>by cases h
 |_ :: _,[],h,_=>by cases h
theorem qzmc{ops:Array Oper}{o:Oper}{ao:qzc}{S:ASt}{K:ASt->Prop}(hck:qzct P ops o ao=true)(h:aop E P ao S K){g:Gh}{a:Act}{w:World}(hs:SR E g S a w){Q:Exit->Act->World->Prop} :
    if Region.wanted o (yielded ops a.tmps) then o.wpIn (FW U) 0 P a w (fun a' w'=>∃g' S',K S'/\SR E g' S' a' w'/\Stp g S.h w g' S'.h w') Q
    else(∀f,o.about P w a.eval=some f->(FW U).fn f)/\(∃g' S',K S'/\SR E g' S' (a.put o.dst undef) w/\Stp g S.h w g' S'.h w):=by
  obtain⟨hk,hcc⟩:=qzt9 hck;have hdst:=hk.dst;unfold aop at h;cases hg:ao.guard with
  |none =>
    simp only[hg]at h;have hgn:o.guard=none:=by have:=hk.grd;rw[hg]at this;exact this
    rw[Gd4 (qzjc (ops:=ops) hgn _)];cases hic:ao.op.isCall with
    |false =>
      have hc:=qzoe hcc hic;have h':(ao.op.req (argv E S.t) S.h).ok/\K ⟨putT S.t ao.dst (ao.op.req (argv E S.t) S.h).v,putH S.h (ao.op.req (argv E S.t) S.h).out,S.ds⟩:=by cases hop:ao.op<;>simp only[hop]at h hic ⊢<;>first|exact h|(cases hic;done)
      have:=qztz (E:=E) (U:=U) (P:=P) (ops:=ops) hc hk hg h'.1 g a w S hs (fun _ _=>rfl) (fun _ _=>rfl) (fun a' w'=>∃g' S',K S'/\SR E g' S' a' w'/\Stp g S.h w g' S'.h w') Q (fun g' a' w' h1 h2=>⟨g',_,by rw[hdst];exact h'.2,h1,h2⟩)
      rwa [Gd4 (qzjc (ops:=ops) hgn _)]at this
    |true =>
      cases hop:ao.op<;>simp only[hop,AOp.isCall]at hic<;>(try (cases hic;done))
      case callf f args =>simp only[hop]at h hcc;obtain⟨as,ats,ho,he,ha⟩:=qzol hcc;rw[<-hdst]at h;exact qzi3 hs (fun c hc=>by rw[ho]at hc;cases hc) (qzq7 ho he a w) (qzjj hs.hr (fun x y hxy=>qzp hs.hr hs.tm hxy) ha) (y:=id) (fun _ _ _ _ h=>h) h
      case callv x args =>
        simp only[hop]at h hcc;obtain⟨x0,as,ats,ho,hx,ha⟩:=qzoi hcc;rw[<-hdst]at h;have rx:=qzp hs.hr hs.tm hx;split at h
        · rename_i f nb caps hfn
          rw[hfn]at rx;obtain⟨arr,hv,hcaps⟩:=qzw9 rx;exact qzi3 hs (fun c hc=>by rw[ho]at hc;cases hc) (qzq4 ho h.1 a w hv) (RVs.fnArgs (qzjj hs.hr (fun x y hxy=>qzp hs.hr hs.tm hxy) ha) hcaps) (y:=id) (fun _ _ _ _ h=>h) h.2
        · rename_i id ep hy
          rw[hy]at rx;exact qzph hs (fun c hc=>by rw[ho]at hc;cases hc) (qzrj ho a w (qz1v hs.hr h.ep rx)) (qzjj hs.hr (fun x y hxy=>qzp hs.hr hs.tm hxy) ha) (y:=_root_.id) (fun _ _ _ _ h=>h) h
        · exact h.elim
      case mnext x =>
        simp only[hop]at h hcc;obtain⟨x0,ho,hx⟩:=qzux hcc;rw[<-hdst]at h;have hnd:∀c,o.op≠.defer c:=fun c hc=>by rw[ho]at hc;cases hc
        have over:∀{v:Value},v=.tuple #[.bool false]->(execOp a.eval o).run P w=.ok (.value v) w->K ⟨putT S.t o.dst (.tup [.bool false]),S.h,S.ds⟩->o.wpIn (FW U) 0 P a w (fun a' w'=>∃g' S',K S'/\SR E g' S' a' w'/\Stp g S.h w g' S'.h w') Q:=by
          rintro v rfl hrun hK;refine qzk0 (r:=⟨True,[],.tup [.bool false],none⟩) hs hnd (Ran.same hs.hr hrun (.tup _ _ rfl fun i y u hy hu=>?_)) (fun i ob e=>by cases e) (fun _ _ _ h=>h) (fun g' a' w' h1 h2=>⟨g',_,hK,h1,h2⟩)
          match i with
          |0=>simp at hy hu;subst hy;subst hu;exact .bool _
          |i+1=>simp at hy
        unfold qznp at h;split at h
        · rename_i id ep hX
          split at h
          · rename_i ep' M eM n seen hid
            split at h
            · rename_i eM' es hM
              obtain⟨rfl,rfl,hn,h1,h2⟩:=h;rcases qzye (P:=P) hs.hr hs.tm ho hx hX hid hM hn with ⟨h3,h4⟩|⟨k,hk,hks,hr⟩
              · exact over rfl h4 (h2 h3)
              · exact qzk0 hs hnd hr (fun i ob e=>by simp only[Gdq,Gdr]at e;obtain⟨rfl,_⟩:=e;rw[hid];trivial) (fun _ _ _ h=>h) (fun g' a' w' q1 q2=>⟨g',_,h1 k hk hks,q1,q2⟩)
            · exact h.elim
          · rename_i ep' seen hid
            obtain⟨rfl,h1⟩:=h;have hO:=hs.hr.obj id;rw[hid]at hO;have rx:=qzp hs.hr hs.tm hx;rw[hX]at rx
            have hp:a.eval x0=.pointer (some ⟨g.blk id,0,none⟩):=by
              generalize a.eval x0=v at rx;cases rx with
              |ptr _ _ _ _ _ _ hp=>exact hp (by rw[hs.hr.ep id,hid];rfl)
            have hb:w.heap[g.blk id]?=some (.mapIter none 0 #[] 0):=hO;exact over rfl (by simp[execOp,ho,hp,Instr.next,getObj,Sem.run,hb,Result.andThen]) h1
          · exact h.elim
        · exact h.elim
  |some gd =>
    obtain⟨tg,want⟩:=gd;simp only[hg]at h;cases hcond:qzcj (S.t.getD tg .top) want with
    |none=>simp only[hcond]at h
    |some c =>
      simp only[hcond]at h
      have hwant:Region.wanted o (yielded ops a.tmps)=c:=by
        have hgn:=hk.grd;rw[hg]at hgn;obtain⟨j,hgj,hdj⟩:=hgn;have h1:=qzp7 (hs.tm.getD tg) hcond;rw[<-h1]
        have hy:yielded ops a.tmps j=qztl (a.tmps.getD tg undef):=by
          simp only[yielded,hdj,Option.bind_some];by_cases hl:tg<a.tmps.size
          · have e:a.tmps.getD tg undef=a.tmps[tg]:=by simp[Array.getD,hl]
            rw[Gab hl,e];cases a.tmps[tg]<;>rfl
          · have e:a.tmps.getD tg undef=undef:=by simp[Array.getD,hl]
            rw[Array.getElem?_eq_none (Nat.le_of_not_lt hl),e];rfl
        simp only[Region.wanted,hgj,hy]
      have pass:c=false->∀v,K ⟨putT S.t ao.dst (.cnd false v),S.h,S.ds⟩->(∀f,o.about P w a.eval=some f->(FW U).fn f)/\(∃g' S',K S'/\SR E g' S' (a.put o.dst undef) w/\Stp g S.h w g' S'.h w):=by intro _ v hK;rw[<-hdst]at hK;exact⟨fun f _=>trivial,g,_,hK,⟨hs.hr,qzky hs.tm o.dst (.cnd _ _ _ (fun e=>by cases e) (fun _=>rfl)),by rw[qzfl];exact hs.df,hs.dk,hs.dn⟩,.refl _ _ _⟩
      have call:∀(f:FuncId) (vs:List Value) (args:List AVal),(∀cc,o.op≠.defer cc)->(c=true->(execOp a.eval o).run P w=.ok (.enter f vs.toArray) w/\RVs g w args vs) -> ((∃v,(c=true->ATr E P f args S.h (fun v' h'=>v'=v/\h'=S.h))/\K ⟨putT S.t ao.dst (.cnd c v),S.h,S.ds⟩) \/ ((c=true->ATr E P f args S.h (fun v h'=>(∀D∈S.ds,h' D.1=.dfr D.2)/\K ⟨putT S.t ao.dst (.cnd true v),h',S.ds⟩))/\(c=false->K ⟨putT S.t ao.dst (.cnd false .top),S.h,S.ds⟩))) ->
          if Region.wanted o (yielded ops a.tmps) then o.wpIn (FW U) 0 P a w (fun a' w'=>∃g' S',K S'/\SR E g' S' a' w'/\Stp g S.h w g' S'.h w') Q
          else(∀f,o.about P w a.eval=some f->(FW U).fn f)/\(∃g' S',K S'/\SR E g' S' (a.put o.dst undef) w/\Stp g S.h w g' S'.h w):=by
        intro f vs args hnd hrun hor;rw[hwant];cases c with
        |false =>
          simp only[Gan,Gd2];rcases hor with ⟨v,_,hK⟩|⟨_,hK⟩
          · exact pass rfl v hK
          · exact pass rfl _ (hK rfl)
        |true =>
          simp only[Gd5];obtain⟨hr,hv⟩:=hrun rfl;have cnd:∀g' w' r v,RV g' w' r v->RV g' w' (.cnd true r) v:=fun _ _ _ _ h=>.cnd _ _ _ (fun _=>h) (fun e=>by cases e);rcases hor with ⟨v,hA,hK⟩|⟨hA,_⟩
          · refine qzi3 hs hnd hr hv (y:=fun r=>.cnd true r) cnd ((hA rfl).mono ?_)
            rintro r h' ⟨rfl,rfl⟩;exact⟨hs.dk,by rw[hdst];exact hK⟩
          · refine qzi3 hs hnd hr hv (y:=fun r=>.cnd true r) cnd ((hA rfl).mono ?_)
            rintro r h' ⟨h1,h2⟩;exact⟨h1,by rw[hdst];exact h2⟩
      cases hic:ao.op.isCall with
      |false =>
        have hc:=qzoe hcc hic;have h':ao.op.quiet=true/\(c=true->ao.op.unAll E c S.t/\(ao.op.req (argU E S.t) S.h).ok)/\K ⟨putT S.t ao.dst (.cnd c (ao.op.req (argU E S.t) S.h).v),S.h,S.ds⟩:=by cases hop:ao.op<;>simp only[hop]at h hic ⊢<;>first|exact h|(cases hic;done)
        exact qzts (E:=E) (U:=U) (P:=P) (ops:=ops) hc hk hg hcond (qzzu _ h'.1 _ _) h'.2.1 g a w S hs (fun _ _=>rfl) (fun _ _=>rfl) (fun a' w'=>∃g' S',K S'/\SR E g' S' a' w'/\Stp g S.h w g' S'.h w') Q
          (fun g' a' w' h1 h2=>⟨g',_,by rw[hdst];exact h'.2.2,h1,h2⟩) |> fun q=>by
            by_cases hw:Region.wanted o (yielded ops a.tmps)=true
            · rw[Gd4 hw]at q ⊢;exact q
            · rw[Gd3 hw]at q ⊢
              have hcf:c=false:=(by rw[<-hwant];simpa using hw);subst hcf;exact pass rfl _ h'.2.2
      |true =>
        cases hop:ao.op<;>simp only[hop,AOp.isCall]at hic<;>(try (cases hic;done))
        case mnext x=>simp only[hop]at h
        case callf f args =>
          simp only[hop,jzo]at h hcc;obtain⟨as,ats,ho,he,ha⟩:=qzol hcc
          have hu:c=true->wze c S.t args:=by
            intro e;rcases h with ⟨_,h1,_⟩|⟨h1,_⟩
            · exact(h1 e).1
            · exact(h1 e).1
          refine call f (as.toList.map a.eval) (args.map (argU E S.t)) (fun cc hc=>by rw[ho]at hc;cases hc) (fun e=>⟨qzq7 ho he a w,qzlp hs e ha (hu e)⟩) ?_;rcases h with ⟨v,h1,h2⟩|⟨h1,h2⟩
          · exact .inl ⟨v,fun e=>(h1 e).2,h2⟩
          · exact .inr ⟨fun e=>(h1 e).2,h2⟩
        case callv x args =>
          simp only[hop,jzo,gyld]at h hcc;have h00:=h.1;by_cases hcf:c=false
          · rw[hwant,hcf]
            simp only[Gan,Gd2];exact pass hcf _ (h00 hcf)
          have h:=h.2 (by simpa using hcf);obtain⟨x0,as,ats,ho,hx,ha⟩:=qzoi hcc;split at h
          · rename_i f nb caps hfn
            obtain⟨he,h⟩:=h
            have hu:c=true->wze c S.t (x :: args):=by
              intro e;rcases h with ⟨_,h1,_⟩|⟨h1,_⟩
              · exact(h1 e).1
              · exact(h1 e).1
            have hrun:c=true->∃arr:Array Value,a.eval x0=.func (.func f) (arr.toList.take nb).toArray (arr.toList.drop nb).toArray/\RVs g w caps arr.toList/\RVs g w (args.map (argU E S.t)) (as.toList.map a.eval):=by
              intro e;have h1:yzw (x0 :: as.toList) (x :: args)=true:=by simp[yzw,hx,ha]
              have h2:=qzlp hs e h1 (hu e);have h3:=h2.2 0 (argU E S.t x) (a.eval x0) rfl rfl;rw[hfn]at h3;obtain⟨arr,e1,e2⟩:=qzw9 h3;exact⟨arr,e1,e2,by have:=h2.1;simpa using this,fun i y u hy hu=>h2.2 (i+1) y u (by simpa using hy) (by simpa using hu)⟩
            cases hcb:c with
            |true =>
              obtain⟨arr,e1,e2,e3⟩:=hrun hcb;rw[hcb]at h;refine call f (fnArgs nb (as.toList.map a.eval) arr.toList) (fnArgs nb (args.map (argU E S.t)) caps) (fun cc hc=>by rw[ho]at hc;cases hc) (fun e=>⟨qzq4 ho he a w e1,RVs.fnArgs e3 e2⟩) ?_;rw[hcb];rcases h with ⟨v,h1,h2⟩|⟨h1,h2⟩
              · exact .inl ⟨v,fun e=>(h1 e).2,h2⟩
              · exact .inr ⟨fun e=>(h1 e).2,h2⟩
            |false =>
              rw[hcb]at h;refine call f [] [] (fun cc hc=>by rw[ho]at hc;cases hc) (fun e=>by rw[hcb]at e;cases e) ?_;rw[hcb];rcases h with ⟨v,h1,h2⟩|⟨h1,h2⟩
              · exact .inl ⟨v,fun e=>(by cases e),h2⟩
              · exact .inr ⟨fun e=>(by cases e),h2⟩
          · rename_i id ep hy
            rw[hwant];cases hcb:c with
            |true =>
              simp only[Gd5];obtain⟨hu,hR⟩:=h.1 hcb;have h1:yzw (x0 :: as.toList) (x :: args)=true:=by simp[yzw,hx,ha]
              have h2:=qzlp hs hcb h1 hu;have h3:=h2.2 0 (argU E S.t x) (a.eval x0) rfl rfl;rw[hy]at h3;have h4:RVs g w (args.map (argU E S.t)) (as.toList.map a.eval):=⟨by have:=h2.1;simpa using this,fun i y u hy hu=>h2.2 (i+1) y u (by simpa using hy) (by simpa using hu)⟩;rw[<-hdst]at hR;exact qzph hs (fun c hc=>by rw[ho]at hc;cases hc) (qzrj ho a w (qz1v hs.hr hR.ep h3)) h4 (y:=fun r=>.cnd true r) (fun _ _ _ _ h=>.cnd _ _ _ (fun _=>h) (fun e=>by cases e)) hR
            |false =>simp only[Gan,Gd2];exact pass hcb _ (h.2 hcb)
          · exact h.elim
def yzf(P:Program)(ops:Array Oper):List Oper->List qzc->Bool
 |[],[]=>true
 |o :: l,a :: m=>qzct P ops o a&&yzf P ops l m
 |_,_=>false
theorem qzpp{ops:Array Oper}{Q:Exit->Act->World->Prop}:∀{l:List Oper} {m:List qzc} {S:ASt} {K:ASt->Prop},yzf P ops l m=true->areg E P m S K->∀{g:Gh} {a:Act} {w:World},SR E g S a w -> (∀a' w',(∃g' S',K S'/\SR E g' S' a' w'/\Stp g S.h w g' S'.h w')->Q .normal a' w')->wpListIn (FW U) 0 P ops Q l a w
 |[],[],S,K,_,h,g,a,w,hs,hq=>hq a w ⟨g,S,h,hs,.refl _ _ _⟩
 |o :: l,ao :: m,S,K,hc,h,g,a,w,hs,hq=>by
  simp only[yzf,Gai]at hc;refine wpListIn_step fun K' hK'=>?_;have h1:=qzmc (U:=U) (Q:=Q) hc.1 h hs;have imp:∀a' w',(∃g' S',areg E P m S' K/\SR E g' S' a' w'/\Stp g S.h w g' S'.h w')->K' a' w':=by rintro a' w' ⟨g',S',h2,hs',st⟩;refine hK' a' w' (qzpp hc.2 h2 hs' ?_);rintro a'' w'' ⟨g'',S'',hk,hs'',st'⟩;exact hq a'' w'' ⟨g'',S'',hk,hs'',st.trans st'⟩
  split at h1
  ·rename_i hw;rw[Gd4 hw];exact Oper.wpIn_mono imp h1
  ·rename_i hw;rw[Gd3 hw];exact⟨h1.1,imp _ _ h1.2⟩
 |[],_ :: _,_,_,h,_,_,_,_,_,_=>by cases h
 |_ :: _,[],_,_,h,_,_,_,_,_,_=>by cases h
def SReg(E:Nat->AVal)(P:Program)(m:List qzc)(S:ASt)(K:ASt->Prop):Prop := ∀(U:Option Nat) (ops:Array Oper) (Q:Exit->Act->World->Prop) (l:List Oper),yzf P ops l m=true->∀{g:Gh} {a:Act} {w:World},SR E g S a w -> (∀a' w',(∃g' S',K S'/\SR E g' S' a' w'/\Stp g S.h w g' S'.h w')->Q .normal a' w')->wpListIn (FW U) 0 P ops Q l a w
theorem SReg.nil{S:ASt}{K:ASt->Prop}(h:K S):SReg E P [] S K:=by
 intro U ops Q l hc g a w hs hq;cases l with
 |nil=>exact hq a w ⟨g,S,h,hs,.refl _ _ _⟩
 |cons o l=>cases hc
theorem SReg.cons{ao:qzc}{m:List qzc}{S:ASt}{K:ASt->Prop}(h:aop E P ao S (fun S'=>SReg E P m S' K)):SReg E P (ao :: m) S K:=by
 intro U ops Q l hc g a w hs hq;cases l with
 |nil=>cases hc
 |cons o l =>
  simp only[yzf,Gai]at hc;refine wpListIn_step fun K' hK'=>?_;have h1:=qzmc (U:=U) (Q:=Q) hc.1 h hs;have imp:∀a' w',(∃g' S',SReg E P m S' K/\SR E g' S' a' w'/\Stp g S.h w g' S'.h w')->K' a' w':=by rintro a' w' ⟨g',S',h2,hs',st⟩;refine hK' a' w' (h2 U ops Q l hc.2 hs' ?_);rintro a'' w'' ⟨g'',S'',hk,hs'',st'⟩;exact hq a'' w'' ⟨g'',S'',hk,hs'',st.trans st'⟩
  split at h1
  ·rename_i hw;rw[Gd4 hw];exact Oper.wpIn_mono imp h1
  ·rename_i hw;rw[Gd3 hw];exact⟨h1.1,imp _ _ h1.2⟩
theorem AWp.sregion{id:Nat}{ops:Array Oper}{m:List qzc}{S:ASt}{Q:Exit->ASt->Prop}(hc:yzf P ops ops.toList m=true)(h:SReg E P m S (Q .normal)):AWp E U P (.region id ops false) Q S:=by intro g a w hs;exact wpIn_region_list (h U ops _ _ hc hs (fun a' w' ⟨g',S',q,r⟩=>⟨g',S',q,r⟩))
theorem AWp.region{id:Nat}{ops:Array Oper}{m:List qzc}{S:ASt}{Q:Exit->ASt->Prop}(hc:yzf P ops ops.toList m=true)(h:areg E P m S (Q .normal)):AWp E U P (.region id ops false) Q S:=by intro g a w hs;exact wpIn_region_list (qzpp hc h hs (fun a' w' ⟨g',S',q,r⟩=>⟨g',S',q,r⟩))
end
section
variable {E:Nat->AVal}{P:Program}{U:Option Nat}
def See(E:Nat->AVal)(S S':ASt):Prop:=∀(g:Gh) (a:Act) (w:World),SR E g S a w->∃g',SR E g' S' a w/\Stp g S.h w g' S'.h w
theorem See.refl(S:ASt):See E S S:=fun g a w h=>⟨g,h,.refl _ _ _⟩
theorem See.trans{S S' S'':ASt}(h:See E S S')(k:See E S' S''):See E S S'':=fun g a w hs =>
 let ⟨g',h1,s1⟩:=h g a w hs
 let ⟨g'',h2,s2⟩:=k g' a w h1
 ⟨g'',h2,s1.trans s2⟩
theorem See.of_sub{S S':ASt}(s:Sub S S'):See E S S':=fun g a w hs=>⟨g,hs.sub s,(Stp.refl g S.h w).sub s.h⟩
theorem SReg.see{m:List qzc}{S S':ASt}{K:ASt->Prop}(s:See E S S')(h:SReg E P m S' K):SReg E P m S K:=by intro U ops Q l hc g a w hs hq;obtain⟨g1,hs1,st1⟩:=s g a w hs;refine h U ops Q l hc hs1 ?_;rintro a' w' ⟨g',S'',q,hs',st⟩;exact hq a' w' ⟨g',S'',q,hs',st1.trans st⟩
theorem AWp.see{c:Code}{Q:Exit->ASt->Prop}{S S':ASt}(s:See E S S')(h:AWp E U P c Q S'):AWp E U P c Q S:=by intro g a w hs;obtain⟨g',hs',st⟩:=s g a w hs;exact wpIn_mono (h g' a w hs') fun e a' w' ⟨g'',S'',q,hs'',st'⟩=>⟨g'',S'',q,hs'',st.trans st'⟩
theorem AWp.loop'{c:Code}{Q:Exit->ASt->Prop}{S:ASt}{α:Type}(inv:α->ASt)(J:α->Nat)(I:α->Prop)(x₀:α)(h₀:I x₀)(s₀:See E S (inv x₀))(round:∀x,I x->AWp E U P c (qzdb (fun S'=>∃x',I x'/\J x'<J x/\See E S' (inv x')) Q) (inv x)):AWp E U P (.loop c) Q S:=by
 refine AWp.see s₀ ?_;intro g a w hs;refine qzpq (fun x a' w'=>I x/\∃g',SR E g' (inv x) a' w'/\Stp g (inv x₀).h w g' (inv x).h w') J x₀ ⟨h₀,g,hs,.refl _ _ _⟩ ?_;rintro x a' w' ⟨hI,g',hs',st⟩;refine wpIn_mono (round x hI g' a' w' hs') ?_;rintro e a'' w'' ⟨g'',S'',q,hs'',st'⟩;cases e with
 |normal =>obtain⟨x',hI',hlt,sb⟩:=q;obtain⟨g3,hs3,st3⟩:=sb g'' a'' w'' hs'';exact⟨x',⟨hI',g3,hs3,(st.trans st').trans st3⟩,hlt⟩
 |_=>exact⟨g'',S'',q,hs'',st.trans st'⟩
inductive FV(id:Nat)(o:AObj):AVal->AVal->Prop where
 |refl (x:AVal):FV id o x x
 |top (x:AVal):FV id o x .top
 |box (ep off:Nat) (cs:List AVal) (f':Nat->AVal) (ho:o=.box ep cs) (h2:∀k,k<cs.length->f' k=cs.getD k .top):FV id o (.ptr id ep off) (.cptr f' cs.length off)
 |fn (fi:FuncId) (nb:Nat) (l l':List AVal) (hl:l'.length=l.length) (h:∀(i:Nat) (x y:AVal),l[i]?=some x->l'[i]?=some y->FV id o x y):FV id o (.fn fi nb l) (.fn fi nb l')
 |vec (ep st m:Nat) (f:Nat->List AVal) (lo n:Nat) (f':Nat->List AVal) (ho:o=.vec ep st m f) (h1:lo+n<=m) (h2:∀k,k<n->f' k=f (lo+k)):FV id o (.vec id ep lo n) (.slc st n f')
 |agg (l l':List AVal) (hl:l'.length=l.length) (h:∀(i:Nat) (x y:AVal),l[i]?=some x->l'[i]?=some y->FV id o x y):FV id o (.agg l) (.agg l')
 |tup (l l':List AVal) (hl:l'.length=l.length) (h:∀(i:Nat) (x y:AVal),l[i]?=some x->l'[i]?=some y->FV id o x y):FV id o (.tup l) (.tup l')
 |cnd (c:Bool) (x y:AVal) (h:FV id o x y):FV id o (.cnd c x) (.cnd c y)
def FVl(id:Nat)(o:AObj):List AVal->List AVal->Prop
 |[],[]=>True
 |x :: l,y :: k=>FV id o x y/\FVl id o l k
 |_,_=>False
theorem FVl.refl{id:Nat}{o:AObj}:∀l,FVl id o l l
 |[]=>trivial
 |x :: l=>⟨.refl x,FVl.refl l⟩
theorem FVl.at{id:Nat}{o:AObj}:∀{l k:List AVal},FVl id o l k->k.length=l.length/\∀(i:Nat) (x y:AVal),l[i]?=some x->k[i]?=some y->FV id o x y
 |[],[],_=>⟨rfl,fun i x y hx _=>by simp at hx⟩
 |x :: l,y :: k,h=>by
  obtain⟨h1,h2⟩:=FVl.at h.2;refine⟨by simp[h1],fun i u v hu hv=>?_⟩;cases i with
  |zero=>simp at hu hv;subst hu;subst hv;exact h.1
  |succ i=>exact h2 i u v (by simpa using hu) (by simpa using hv)
 |[],_ :: _,h=>h.elim
 |_ :: _,[],h=>h.elim
theorem FV.aggl{id:Nat}{o:AObj}{l k:List AVal}(h:FVl id o l k):FV id o (.agg l) (.agg k):=.agg l k h.at.1 h.at.2
theorem FV.tupl{id:Nat}{o:AObj}{l k:List AVal}(h:FVl id o l k):FV id o (.tup l) (.tup k):=.tup l k h.at.1 h.at.2
def OF(id:Nat)(o:AObj)(x x':AObj):Prop:=x'=x\/(∃e l l',x=.box e l/\x'=.box e l'/\FVl id o l l')\/(∃e st n f f',x=.vec e st n f/\x'=.vec e st n f'/\∀k,k<n->FVl id o (f k) (f' k)) \/ ∃e es es',x=.amap e es/\x'=.amap e es'/\es'.length=es.length/\∀(i:Nat) (a b:AVal×AVal),es[i]?=some a->es'[i]?=some b->FV id o a.1 b.1/\FV id o a.2 b.2
def frz(g:Gh)(id:Nat):Gh:=⟨g.blk,fun j=>if j=id then g.ep id+1 else g.ep j,g.bo,g.st,g.cp,fun b=>b=g.blk id\/g.fz b⟩
theorem qzqd(g:Gh)(id:Nat)(w:World):GLe g w (frz g id) w:=by
 refine⟨fun b hb=>⟨.inr hb,rfl⟩,fun j=>?_,fun j hj=>⟨rfl,rfl,rfl,rfl⟩⟩;show g.ep j<=if j=id then g.ep id+1 else g.ep j;split
 ·rename_i e;subst e;omega
 ·exact Gcy _
theorem FV.rv{g:Gh}{h:qzl}{w:World}{id:Nat}{o:AObj}(H:HR E g h w)(hid:h id=o){x y:AVal}(hf:FV id o x y):∀{v:Value},RV g w x v->RV (frz g id) w y v:=by
 induction hf with
 |refl x=>intro v hv;exact hv.mono (qzqd g id w)
 |top x=>intro v hv;exact .top v
 |box ep off cs f' ho h2 =>
  subst ho;intro v hv;have hO:=H.obj id;rw[hid]at hO;obtain⟨arr,ty,hb,hr⟩:=hO;cases hv with
  |ptr _ _ _ _ h1 he hp =>
   rw[hp (by rw[H.ep id,hid];rfl)];have hsz:arr.size=cs.length:=by simpa using hr.1
   have:=RV.cptr (g:=frz g id) (w:=w) f' cs.length off (g.blk id) 0 (fun j=>arr.getD j undef) (.inl rfl) (fun j hj=>by have:j<arr.size:=(by omega);simp[World.cell?,hb,this]) (fun j hj=>by rw[h2 j hj];exact(hr.getD j).mono (qzqd g id w))
   rwa [Gdk]at this
 |fn fi nb l l' hl h ih =>
  intro v hv;cases hv with
  |fn _ _ _ a hn hr =>
   refine .fn _ _ _ _ (by omega) fun i y u hy hu=>?_;have hi:i<l.length:=by rw[<-hl];exact(Gbg.1 hy).1
   exact ih i _ y (Gbe hi) hy (hr i _ u (Gbe hi) hu)
 |vec ep st m f lo n f' ho h1 h2 =>
  subst ho;intro v hv;have hO:=H.obj id;rw[hid]at hO;obtain⟨hst,h0,hn,arr,ty,hr,hfit,hel⟩:=hO;obtain⟨ad,cap,rfl,hcap,hc⟩:=qzew H hv (by rw[hid];rfl);rcases Gct n with e|e
  ·subst e;exact .slc0 _ _ _ _
  ·rcases hc with hc0|⟨rfl,hc⟩;·omega
   ·have hbd:∀i j,i<n->j<st->g.bo id+lo*g.st id+i*st+j<arr.size:=fun i j hi hj=>by
     have:=qzdl (k:=lo+i) (n:=g.cp id) (st:=st) (j:=j) (by omega) hj;rw[Gcm]at this;rw[hst];omega
    have hcell:∀i j,i<n->j<st->arr[g.bo id+lo*g.st id+i*st+j]?=some (arr.getD (g.bo id+lo*g.st id+i*st+j) undef):=fun i j hi hj=>by have:=hbd i j hi hj;simp[this]
    have hel':∀i j,i<n->j<st->∀x,(f' i)[j]?=some x->(arr.getD (g.bo id+lo*g.st id+i*st+j) undef).oneCell'=true/\RV g w x (arr.getD (g.bo id+lo*g.st id+i*st+j) undef):=fun i j hi hj x hx=>by
     rw[h2 i hi]at hx;refine(hel (lo+i) (by omega)).2 j x _ hx ?_;have e4:g.bo id+(lo+i)*st+j=g.bo id+lo*g.st id+i*st+j:=by rw[hst,Gcm];omega
     rw[e4];exact hcell i j hi hj
    refine .slc st n f' (g.blk id) (g.bo id+lo*g.st id) cap (fun i j=>arr.getD (g.bo id+lo*g.st id+i*st+j) undef) (.inl rfl) hcap (fun i hi=>by rw[h2 i hi];exact(hel (lo+i) (by omega)).1) ?_ ?_ ?_
    ·intro i j hi hj;have:=hbd i j hi hj;simp[World.cell?,hr,this]
    ·intro i j hi hj;have hl:(f' i).length=st:=(by rw[h2 i hi];exact(hel (lo+i) (by omega)).1);exact(hel' i j hi hj _ (Gbe (by omega))).1
    ·intro i j x hi hx;have hl:(f' i).length=st:=(by rw[h2 i hi];exact(hel (lo+i) (by omega)).1);have hj:j<st:=(by have:=(Gbg.1 hx).1;omega);exact(hel' i j hi hj x hx).2.mono (qzqd g id w)
 |agg l l' hl h ih =>
  intro v hv;cases hv with
  |agg _ a hn hr =>
   refine .agg _ _ (by omega) fun i y u hy hu=>?_;have hi:i<l.length:=by rw[<-hl];exact(Gbg.1 hy).1
   exact ih i _ y (Gbe hi) hy (hr i _ u (Gbe hi) hu)
 |tup l l' hl h ih =>
  intro v hv;cases hv with
  |tup _ a hn hr =>
   refine .tup _ _ (by omega) fun i y u hy hu=>?_;have hi:i<l.length:=by rw[<-hl];exact(Gbg.1 hy).1
   exact ih i _ y (Gbe hi) hy (hr i _ u (Gbe hi) hu)
 |cnd c x y _ ih =>
  intro v hv;cases hv with
  |cnd _ _ _ h1 h0=>exact .cnd _ _ _ (fun e=>ih (h1 e)) h0
theorem FVl.rvs{g:Gh}{h:qzl}{w:World}{id:Nat}{o:AObj}(H:HR E g h w)(hid:h id=o){l k:List AVal}{a:List Value}(hf:FVl id o l k)(hv:RVs g w l a):RVs (frz g id) w k a:=by
 obtain⟨h1,h2⟩:=hf.at;refine⟨by rw[h1];exact hv.1,fun i y u hy hu=>?_⟩;have hi:i<l.length:=by rw[<-h1];exact(Gbg.1 hy).1
 exact(h2 i _ y (Gbe hi) hy).rv H hid (hv.2 i _ u (Gbe hi) hu)
theorem HR.freeze{g:Gh}{h h':qzl}{w:World}{id:Nat}{o:AObj}(H:HR E g h w)(hid:h id=o)(how:o.owned=true)(hi:h' id=.gone (o.ep+1))(ho:∀j,j≠id->OF id o (h j) (h' j)):HR E (frz g id) h' w/\Stp g h w (frz g id) h' w:=by
 have hle:=qzqd g id w;have hepi:g.ep id=o.ep:=by rw[H.ep id,hid]
 rw[<-hid]at how
 have own:∀j,(h' j).owned=true->j≠id/\(h j).owned=true:=by
  intro j hj;have hne:j≠id:=fun e=>by rw[e,hi]at hj;cases hj
  refine⟨hne,?_⟩;rcases ho j hne with e|⟨e,l,l',e1,e2,_⟩|⟨e,st,n,f,f',e1,e2,_⟩|⟨e,es,es',e1,e2,_⟩
  ·rw[<-e];exact hj
  ·rw[e1];rfl
  ·rw[e1];rfl
  ·rw[e1];rfl
 refine⟨⟨fun j=>?_,fun j=>?_,fun j k hj hk e=>H.inj j k (own j hj).2 (own k hk).2 e,fun j hj=>?_,fun b hb=>?_,fun i=>(H.glob i).mono hle⟩,⟨hle,rfl,rfl,rfl,Gcy _,fun _ _ _=>rfl,fun j hj=>.inl ⟨j,(own j hj).2,rfl⟩,fun b hb=>hb.elim (fun e=>.inr (.inl ⟨id,how,e.symm⟩)) .inl,Gcy _⟩⟩
 ·by_cases e:j=id;·rw[e,hi];trivial
  ·have hO:=H.obj j;have hej:(frz g id).ep j=g.ep j:=Gd3 e;rcases ho j e with e'|⟨e0,l,l',e1,e2,hf⟩|⟨e0,st,n,f,f',e1,e2,hf⟩|⟨e0,es,es',e1,e2,hle',hf⟩
   ·rw[e'];exact hO.mono hle hej (fun _=>rfl)
   ·rw[e2];rw[e1]at hO;obtain⟨arr,ty,hr,hrv⟩:=hO;exact⟨arr,ty,hr,hf.rvs H hid hrv⟩
   ·rw[e2];rw[e1]at hO;obtain⟨hst,h0,hcp,arr,ty,hr,hfit,hel⟩:=hO;refine⟨hst,h0,hcp,arr,ty,hr,hfit,fun k hk=>?_⟩;obtain⟨q1,q2⟩:=(hf k hk).at;refine⟨q1.trans (hel k hk).1,fun i y u hy hu=>?_⟩;have hi:i<(f k).length:=by rw[<-q1];exact(Gbg.1 hy).1
    obtain⟨p1,p2⟩:=(hel k hk).2 i _ u (Gbe hi) hu;exact⟨p1,(q2 i _ y (Gbe hi) hy).rv H hid p2⟩
   ·rw[e2];rw[e1]at hO;obtain⟨arr,hr,hsz,hel⟩:=hO;refine⟨arr,by rw[hle'];exact hr,by rw[hle'];exact hsz,fun k y m hy hm=>?_⟩;have hi:k<es.length:=by rw[<-hle'];exact(Gbg.1 hy).1
    obtain⟨p1,p2,p3⟩:=hel k _ m (Gbe hi) hm;obtain⟨q1,q2⟩:=hf k _ y (Gbe hi) hy;exact⟨q1.rv H hid p1,q2.rv H hid p2,p3⟩
 ·by_cases e:j=id;·subst e;rw[hi];show(if j=j then g.ep j+1 else g.ep j)=o.ep+1;rw[Gd4 rfl,hepi]
  ·show(if j=id then g.ep id+1 else g.ep j)=_;rw[Gd3 e,H.ep j];rcases ho j e with e'|⟨e0,l,l',e1,e2,hf⟩|⟨e0,st,n,f,f',e1,e2,hf⟩|⟨e0,es,es',e1,e2,_⟩
   ·rw[e']
   ·rw[e1,e2];rfl
   ·rw[e1,e2];rfl
   ·rw[e1,e2];rfl
 ·obtain⟨hne,hoj⟩:=own j hj;rintro(e|e)
  ·exact hne (H.inj j id hoj how e)
  ·exact H.sep j hoj e
 ·rcases hb with rfl|hb;·exact(H.obj id).lt how
  ·exact H.fzb b hb
theorem See.freeze{S S':ASt}{id:Nat}{o:AObj}(hid:S.h id=o)(how:o.owned=true)(hpl:o.plain)(hi:S'.h id=.gone (o.ep+1))(ho:∀j,j≠id->OF id o (S.h j) (S'.h j))(ht:FVl id o S.t S'.t)(hds:S'.ds=S.ds):See E S S':=by
 intro g a w hs;obtain⟨H',st'⟩:=hs.hr.freeze hid how hi ho;refine⟨frz g id,⟨H',ht.rvs hs.hr hid hs.tm,by rw[hds];exact hs.df,fun D hD=>?_,by rw[hds];exact hs.dn⟩,st'⟩;rw[hds]at hD;have hd:=hs.dk D hD;have hne:D.1≠id:=fun e=>by rw[e,hid]at hd;rw[hd]at hpl;exact hpl
 rcases ho D.1 hne with e'|⟨e0,l,l',e1,e2,hf⟩|⟨e0,st,n,f,f',e1,e2,hf⟩|⟨e0,es,es',e1,e2,_⟩
 ·rw[e'];exact hd
 ·rw[e1]at hd;cases hd
 ·rw[e1]at hd;cases hd
 ·rw[e1]at hd;cases hd
inductive ARes where
 |t (n:Tmp)
 |c (n:Tmp) (agg:Bool) (sz:Nat)
def qzo2(P:Program):ResultVar->ARes->Bool
 |.tmp a,.t b=>a==b
 |.cell a ty,.c b agg sz=>a==b&&yzl P ty==some agg&&(!agg||szOf P ty==some sz)
 |_,_=>false
def qzi(P:Program):List ResultVar->List ARes->Bool
 |[],[]=>true
 |r :: l,s :: m=>qzo2 P r s&&qzi P l m
 |_,_=>false
def ARes.ok(S:ASt):ARes->Prop
 |.t _=>True
 |.c n agg sz=>(wz9 agg sz (S.t.getD n .top) S.h).ok
def ARes.val(S:ASt):ARes->AVal
 |.t n=>S.t.getD n .top
 |.c n agg sz=>(wz9 agg sz (S.t.getD n .top) S.h).v
def vz1(S:ASt):List ARes->Prop
 |[]=>True
 |r :: l=>r.ok S/\vz1 S l
def vz5(S:ASt):List ARes->AVal
 |[r]=>r.val S
 |l=>.tup (l.map (ARes.val S))
theorem qzu8(agg:Bool)(sz:Nat)(x:AVal)(h:qzl):(wz9 agg sz x h).out=none:=by
 unfold wz9;repeat' split
 all_goals rfl
def qzpg(tmps:Array Value):ResultVar->Sem Value
 |.tmp t=>pure (tmps.getD t undef)
 |.cell a t=>do loadVar t (<-asAddr (tmps.getD a undef))
theorem qzwk(fn:Func)(tmps:Array Value):results fn tmps=(do let vs <-fn.results.mapM (qzpg tmps);pure (if h:vs.size=1 then vs[0] else .tuple vs)):=rfl
theorem wzc2{g:Gh}{w:World}{S:ASt}{tmps:Array Value}(H:HR E g S.h w)(ht:RVs g w S.t tmps.toList){r:ResultVar}{s:ARes}(hc:qzo2 P r s=true)(hok:s.ok S) :
  ∃v,(qzpg tmps r).run P w=.ok v w/\RV g w (s.val S) v:=by
 cases r<;>cases s<;>simp only[qzo2]at hc<;>(try (cases hc;done))
 ·simp only[Gds]at hc
  subst hc
  exact⟨_,rfl,ht.getD _⟩
 ·rename_i a ty b agg sz
  simp only[Gai,Gds,Gas,Gao]at hc
  obtain⟨⟨rfl,hq⟩,hs⟩:=hc
  let o : Oper := { dst := none, op := .load ty (.tmp a), type := 0, pos := "", after := #[], guard := none }
  have hok':((AOp.load agg sz (.t a)).req (argv E S.t) S.h).ok:=hok
  obtain⟨n,v,w',g',hrun,hn,hv,_,_,hout⟩:=qzp6 (E:=E) (P:=P) (o:=o) (a:=⟨tmps,[]⟩) (x:=.tmp a) (x':=.t a) H ht rfl (by simp[qzm]) hq (fun e=>hs.resolve_left (by rw[e];simp)) hok'
  obtain⟨rfl,rfl⟩:=hout (qzu8 _ _ _ _)
  have hrun':((Instr.loadAt ty (tmps.getD a undef)).run P w').andThen (fun x w=>.ok (Next.value x) w)=.ok n w':=by
   simpa [execOp,o,Act.eval] using hrun
  refine⟨v,?_,hv⟩
  simp only[qzpg,Sem.run_bind]
  cases hp:tmps.getD a undef<;>simp only[hp,Instr.loadAt,Instr.sureAddr,Sem.run_bind,run_stuck,Result.andThen_halt]at hrun'<;>(try (cases hrun';done))
  rename_i ad
  cases ad with
  |none=>simp only[Instr.sureAddr,run_stuck,Result.andThen_halt]at hrun';cases hrun'
  |some ad =>
   simp only[Instr.sureAddr,Sem.run_pure,Result.andThen_ok,asAddr]at hrun' ⊢
   generalize (loadVar ty ad).run P w'=q at hrun' ⊢
   cases q with
   |halt x y=>cases hrun'
   |ok x y =>
    simp only[Result.andThen_ok,Result.ok.injEq]at hrun'
    obtain⟨rfl,rfl⟩:=hrun'
    rcases hn with hn|⟨hn,_⟩
    ·injection hn with hn;subst hn;rfl
    ·cases hn
theorem qzuf{g:Gh}{w:World}{S:ASt}{tmps:Array Value}(H:HR E g S.h w)(ht:RVs g w S.t tmps.toList):∀{l:List ResultVar} {m:List ARes},qzi P l m=true->vz1 S m -> ∃vs,(l.mapM (qzpg tmps)).run P w=.ok vs w/\RVs g w (m.map (ARes.val S)) vs
 |[],[],_,_=>⟨[],by simp,.nil g w⟩
 |r :: l,s :: m,hc,hok=>by simp only[qzi,Gai]at hc;obtain⟨v,h1,h2⟩:=wzc2 H ht hc.1 hok.1;obtain⟨vs,h3,h4⟩:=qzuf H ht hc.2 hok.2;refine⟨v :: vs,?_,.cons h2 h4⟩;rw[List.mapM_cons,Sem.run_bind,h1];simp only[Result.andThen_ok,Sem.run_bind,h3,Sem.run_pure]
 |[],_ :: _,h,_=>by cases h
 |_ :: _,[],h,_=>by cases h
theorem qzuo{g:Gh}{w:World}{S:ASt}{tmps:Array Value}{fn:Func}{rs:List ARes}(H:HR E g S.h w)(ht:RVs g w S.t tmps.toList)(hc:qzi P fn.results.toList rs=true)(hok:vz1 S rs) : ∃v,(results fn tmps).run P w=.ok v w/\RV g w (vz5 S rs) v:=by
 obtain⟨vs,h1,h2⟩:=qzuf H ht hc hok;have hm:(fn.results.mapM (qzpg tmps)).run P w=.ok vs.toArray w:=by rw[Array.mapM_eq_mapM_toList];simp only[Sem.run_map,h1,Result.andThen_ok]
 have hl:=h2.1;simp only[Gbu]at hl;rw[qzwk,Sem.run_bind,hm];simp only[Result.andThen_ok]
 match rs,vs,hl,h2 with
 |[r],[v],_,h2=>exact⟨v,by simp,h2.2 0 _ v rfl rfl⟩
 |[],[],_,h2=>exact⟨.tuple #[],by simp,.tup _ _ rfl (fun i x v hx _=>by simp at hx)⟩
 |r :: s :: l,v :: u :: k,hl,h2 =>refine⟨.tuple (v :: u :: k).toArray,by simp,?_⟩;exact .tup _ _ (by simp at hl ⊢;omega) (fun i x y hx hy=>h2.2 i x y hx (by simpa using hy))
def Post(E:Nat->AVal)(rs:List ARes)(R:AVal->qzl->Prop):Exit->ASt->Prop
 |.normal,S | .ret,S=>∃S',See E S S'/\vz1 S' rs/\∃h',(∀i,OSub (S'.h i) (h' i))/\(∀D∈S'.ds,∃e,h' D.1=.gone e)/\R (vz5 S' rs) h'
 |_,_=>False
theorem qznb{fn:Func}{tmps:Array Value}{R:Ending->World->Prop}{g:Gh}:∀(ds:List (Nat×Nat)) (h:qzl) (w:World),HR E g h w->(∀D∈ds,h D.1=.dfr D.2)->(ds.map (·.1)).Nodup -> (∀h' w',HR E g h' w'->Stp g h w g h' w'->(∀i,(∀D∈ds,i≠D.1)->h' i=h i)->(∀D∈ds,h' D.1=.gone D.2)->LeavesIn (FW U) 0 P fn tmps R [] .returning w') ->
  LeavesInM (FW U) 0 P fn tmps R (ds.map fun D=>{ target:=.collected (g.blk D.1),args:=#[] }) .returning w
 |[],h,w,H,_,_,hk=>hk h w H (.refl _ _ _) (fun _ _=>rfl) (fun D hD=>by cases hD)
 |D :: ds,h,w,H,hd,hn,hk=>by
  have h1:=hd D (Gb5 ..);have hO:=H.obj D.1;rw[h1]at hO;have hO:w.heap[g.blk D.1]?=some (.deferred (some [])):=hO;have how:(h D.1).owned=true:=by rw[h1];rfl
  have hsep:=H.sep D.1 how;have hep:g.ep D.1=D.2:=by rw[H.ep D.1,h1];rfl
  simp only[Gb1,List.nodup_cons]at hn;refine⟨by simp,.inl ⟨g.blk D.1,w.putObj (g.blk D.1) (.deferred none),rfl,run_takeDeferred hO,?_⟩⟩;have hle:GLe g w g (w.putObj (g.blk D.1) (.deferred none)):=⟨fun b hb=>⟨hb,World.putObj_heap_other (fun e=>hsep (e▸hb))⟩,fun _=>Gcy _,fun _ _=>⟨rfl,rfl,rfl,rfl⟩⟩;obtain⟨H',st⟩:=HR.upd (g':=g) (w':=w.putObj (g.blk D.1) (.deferred none)) (i:=D.1) (o':=.gone D.2) H hle (fun _ _=>rfl) hep (fun b _ hne=>World.putObj_heap_other (hne how)) (by simp) trivial (fun e=>by cases e) (fun e=>by cases e) (fun b hb=>.inl hb) (fun b hb=>by simpa using H.fzb b hb) rfl rfl rfl;have hne:∀D'∈ds,D'.1≠D.1:=fun D' hD' e=>hn.1 (Gb7.2 ⟨D',hD',e⟩);refine qznb ds _ _ H' (fun D' hD'=>?_) hn.2 (fun h' w' H2 st2 hsame hgone=>?_)
  ·simp only[hset,Gd3 (hne D' hD')];exact hd D' (Gb4 _ hD')
  ·refine hk h' w' H2 (st.trans st2) (fun i hi=>?_) (fun D' hD'=>?_);·rw[hsame i (fun D' hD'=>hi D' (Gb4 _ hD'))];simp only[hset,Gd3 (hi D (Gb5 ..))]
   ·rcases Gb3.1 hD' with rfl|hD';·rw[hsame _ (fun D'' hD''=>(hne D'' hD'').symm)];simp[hset]
    ·exact hgone D' hD'
theorem qz02{agg:Bool}{sz:Nat}{x:AVal}{h h':qzl}(hok:(wz9 agg sz x h).ok)(hh:∀i,(∃ep cs,h i=.box ep cs)\/(∃ep st n f,h i=.vec ep st n f)->h' i=h i):wz9 agg sz x h'=wz9 agg sz x h:=by
 unfold wz9 at hok ⊢;cases x<;>simp only[Req.fail]at hok ⊢
 case ptr id ep off =>cases hq:h id<;>simp only[hq]at hok<;>first|exact hok.elim|rw[hh id (.inl ⟨_,_,hq⟩),hq]
 case eptr id ep i off =>cases hq:h id<;>simp only[hq]at hok<;>first|exact hok.elim|rw[hh id (.inr ⟨_,_,_,_,hq⟩),hq]
theorem ATr.of_body{f:FuncId}{fn:Func}{c:Code}{args:List AVal}{h:qzl}{R:AVal->qzl->Prop}{rs:List ARes}(hf:P.funcs[f]?=some fn)(hb:fn.body=some c)(hr:qzi P fn.results.toList rs=true)(hw:AWp E none P c (Post E rs R) ⟨args++List.replicate (fn.ntmps-args.length) .top,h,[]⟩):ATr E P f args h R:=by
 intro g w vs H hv;rw[<-qzk2 (U:=none) (n:=0)];refine callsIn_of_wp_marks hf hb trivial ?_;have hlen:=hv.1
 have hs:SR E g ⟨args++List.replicate (fn.ntmps-args.length) .top,h,[]⟩ { tmps:=vs.toArray++Array.replicate (fn.ntmps-vs.toArray.size) undef,defers:=[] } w:=by
  refine⟨H,?_,rfl,(fun D hD=>by cases hD),by simp⟩;have e:(vs.toArray++Array.replicate (fn.ntmps-vs.toArray.size) undef).toList=vs++List.replicate (fn.ntmps-args.length) undef:=by simp[hlen]
  rw[e];refine hv.append ⟨by simp,fun i x v hx hv=>?_⟩;have:x=.top:=by have:=Gb9 hx;exact List.eq_of_mem_replicate this
  subst this;exact .top _
 refine wpIn_mono (hw g _ w hs) ?_;rintro e a' w' ⟨g',S',q,hs',st⟩
 have key:Post E rs R .ret S'->LeavesInM (FW none) 0 P fn a'.tmps (fun e w'=>∃g' h' r v,R r h'/\e=.returned v/\RV g' w' r v/\HR E g' h' w'/\Stp g h w g' h' w') a'.defers .returning w':=by
  rintro⟨S'',see,hok,h',hsub,hgone,hR⟩;obtain⟨g'',hs'',st'⟩:=see g' a' w' hs';rw[hs''.df];refine qznb S''.ds S''.h w' hs''.hr hs''.dk hs''.dn (fun h3 w3 H3 st3 hsame hg3=>?_);have hds:∀i,(∃ep cs,S''.h i=.box ep cs)\/(∃ep st n f,S''.h i=.vec ep st n f)->h3 i=S''.h i:=by intro i hi;refine hsame i (fun D hD e=>?_);have:=hs''.dk D hD;rw[<-e]at this;rcases hi with ⟨_,_,h⟩|⟨_,_,_,_,h⟩<;>(rw[h]at this;cases this)
  have hval:∀r:ARes,r.ok S''->(r.ok ⟨S''.t,h3,S''.ds⟩/\r.val ⟨S''.t,h3,S''.ds⟩=r.val S''):=by
   intro r hr;cases r with
   |t n=>exact⟨trivial,rfl⟩
   |c n agg sz =>have:=qz02 (h':=h3) hr hds;exact⟨by show(wz9 _ _ _ h3).ok;rw[this];exact hr,by show(wz9 _ _ _ h3).v=_;rw[this];rfl⟩
  have hall:∀l:List ARes,vz1 S'' l->vz1 ⟨S''.t,h3,S''.ds⟩ l/\l.map (ARes.val ⟨S''.t,h3,S''.ds⟩)=l.map (ARes.val S''):=by
   intro l;induction l with
   |nil=>intro _;exact⟨trivial,rfl⟩
   |cons r l ih =>intro h;obtain⟨a1,a2⟩:=hval r h.1;obtain⟨b1,b2⟩:=ih h.2;exact⟨⟨a1,b1⟩,by simp[a2,b2]⟩
  obtain⟨hok3,hmap⟩:=hall rs hok
  have hrv:vz5 ⟨S''.t,h3,S''.ds⟩ rs=vz5 S'' rs:=by
   cases rs with
   |nil=>rfl
   |cons r l =>
    cases l with
    |nil=>simpa [vz5] using hmap
    |cons s l=>simp only[vz5,hmap]
  obtain⟨v,hrun,hv'⟩:=qzuo (P:=P) (fn:=fn) (S:=⟨S''.t,h3,S''.ds⟩) H3 (hs''.tm.mono st3.le) hr hok3;rw[hrv]at hv'
  have hsub3:∀i,OSub (h3 i) (h' i):=by
   intro i;by_cases hi:∃D∈S''.ds,i=D.1
   ·obtain⟨D,hD,rfl⟩:=hi;obtain⟨e,he⟩:=hgone D hD;rw[hg3 D hD,he];have:=hsub D.1;rw[hs''.dk D hD,he]at this;rcases this with h1|h1|⟨_,_,_,_,_,h1,_⟩
    ·simp only[AObj.ep,AObj.gone.injEq]at h1;subst h1;exact .refl _
    ·cases h1
    ·cases h1
   ·rw[hsame i (fun D hD e=>hi ⟨D,hD,e⟩)];exact hsub i
  exact⟨v,hrun,g'',h',_,v,hR,rfl,hv',H3.sub hsub3,((st.trans st').trans st3).sub hsub3⟩
 cases e with
 |normal=>exact key q
 |ret=>exact key q
 |exit id=>exact q.elim
 |goto l=>exact q.elim
 |panic c=>exact q.elim
 |outgrown=>exact q.elim
end
def looks(o:qzc):List Tmp:=(match o.guard with | some (g,_)=>[g] | none=>[])++wzb o.op.args
def qzq(E:Nat->AVal)(P:Program)(f:FuncId)(args:List AVal)(v:AVal):Prop:=∀h,ATr E P f args h (fun v' h'=>v'=v/\h'=h)
def qzcd(E:Nat->AVal)(P:Program)(f:FuncId)(args:List AVal)(h:qzl)(rd:List Nat)(v:AVal):Prop := ∀h',(∀j∈rd,h' j=h j)->ATr E P f args h' (fun v' h''=>v'=v/\h''=h')
theorem qzq.on{E:Nat->AVal}{P:Program}{f:FuncId}{args:List AVal}{v:AVal}(H:qzq E P f args v)(h:qzl)(rd:List Nat):qzcd E P f args h rd v:=fun h' _=>H h'
theorem qzcd.agree{E:Nat->AVal}{P:Program}{f:FuncId}{args:List AVal}{h h1:qzl}{rd:List Nat}{v:AVal}(H:qzcd E P f args h rd v)(hh:∀j∈rd,h1 j=h j):qzcd E P f args h1 rd v :=
 fun h' e=>H h' fun j hj=>(e j hj).trans (hh j hj)
def VEq(v' v:AVal):Prop:=∀(g:Gh) (w:World) (u:Value),RV g w v' u->RV g w v u
theorem VEq.refl(v:AVal):VEq v v:=fun _ _ _ h=>h
theorem VEq.rv{g:Gh}{w:World}{v' v:AVal}(h:VEq v' v){u:Value}(hr:RV g w v' u):RV g w v u:=h g w u hr
theorem VEq.cnd{c:Bool}{x y:AVal}(h:c=true->VEq x y):VEq (.cnd c x) (.cnd c y):=fun g w u hr=>by
 cases hr with
 |cnd _ _ _ h1 h0=>exact .cnd _ _ _ (fun e=>h e g w u (h1 e)) h0
structure OEq(o' o:AObj):Prop where
 ep:o.ep=o'.ep
 own:o.owned=true->o'.owned=true
 dfr:∀e,o'=.dfr e->o=.dfr e
 rel:∀(g:Gh) (w:World) (i:Nat),OR g w i o'->OR g w i o
 mp:∀e es,o'=.amap e es->o=.amap e es
theorem OEq.refl(o:AObj):OEq o o:=⟨rfl,id,fun _ h=>h,fun _ _ _ h=>h,fun _ _ h=>h⟩
def OutW(h:qzl):Option (Nat×AObj)->Option (Nat×AObj)->Prop
 |none,none=>True
 |some (i,o'),some (j,o)=>i=j/\OEq o' o
 |none,some (j,o)=>OEq (h j) o
 |some (i,o'),none=>o'=h i
theorem OutW.refl{h:qzl}:∀(o:Option (Nat×AObj)),OutW h o o
 |none=>trivial
 |some (i,o)=>⟨rfl,.refl o⟩
theorem OutW.put{h:qzl}{a b:Option (Nat×AObj)}(H:OutW h a b)(i:Nat):OEq (putH h a i) (putH h b i):=by
 cases a with
 |none =>
  cases b with
  |none=>exact .refl _
  |some q =>
   obtain⟨j,o⟩:=q;show OEq (h i) (if i=j then o else h i);split
   ·rename_i e;subst e;exact H
   ·exact .refl _
 |some p =>
  obtain⟨k,o'⟩:=p;cases b with
  |none =>
   have H:o'=h k:=H;show OEq (if i=k then o' else h i) (h i);split
   ·rename_i e;subst e;rw[H];exact .refl _
   ·exact .refl _
  |some q =>
   obtain⟨j,o⟩:=q;obtain⟨rfl,H⟩:=H;show OEq (if i=k then o' else h i) (if i=k then o else h i);split
   ·exact H
   ·exact .refl _
theorem HR.oeq{E:Nat->AVal}{g:Gh}{h h':qzl}{w:World}(H:HR E g h w)(s:∀i,OEq (h i) (h' i)):HR E g h' w := ⟨fun i=>(s i).rel _ _ _ (H.obj i),fun i=>by rw[H.ep i,(s i).ep],fun i j hi hj e=>H.inj i j ((s i).own hi) ((s j).own hj) e,fun i hi=>H.sep i ((s i).own hi),H.fzb,H.glob⟩
theorem Stp.oeq{g g':Gh}{h h' h'':qzl}{w w':World}(a:Stp g h w g' h' w')(s:∀i,OEq (h' i) (h'' i)):Stp g h w g' h'' w' := ⟨a.le,a.os,a.tape,a.output,a.size,a.keep,fun i hi=>a.own i ((s i).own hi),a.fzn,a.drawn⟩
def DFz(E:Nat->AVal)(P:Program)(f:FuncId)(xs:List AVal)(h:qzl)(v:AVal)(rd:List Nat)(out:Option (Nat×AObj)):Prop := ∃i,i∈rd/\(h i).plain/\((out=some (i,.gone ((h i).ep+1))/\(h i).owned=true/\∃ys,FVl i (h i) xs ys/\qzq E P f ys v)\/(out=some (i,h i)/\qzq E P f xs v))
def wzzl(E:Nat->AVal)(P:Program)(o:qzc)(S:ASt)(v:AVal)(rd:List Nat)(out:Option (Nat×AObj)):Prop :=
 match o.guard with
 |none=>∃f args,o.op=.callf f args/\DFz E P f (args.map (argv E S.t)) S.h v rd out
 | some (tg,want)=>∃c x,qzcj (S.t.getD tg .top) want=some c/\v=.cnd c x/\(c=false->out=none)/\((∃f args,o.op=.callf f args/\(c=true->wze c S.t args/\DFz E P f (args.map (argU E S.t)) S.h x rd out)) \/
  (o.op.isCall=false/\(c=true->o.op.unAll E c S.t/\(o.op.req (argU E S.t) S.h).ok/\VEq (o.op.req (argU E S.t) S.h).v x/\(∀j∈(o.op.req (argU E S.t) S.h).rd,j∈rd)/\OutW S.h (o.op.req (argU E S.t) S.h).out out/\∀i ob,out=some (i,ob)->i∈rd)))
def wzzk(E:Nat->AVal)(P:Program)(o:qzc)(S:ASt)(v:AVal)(rd:List Nat)(out:Option (Nat×AObj)):Prop :=
 match o.guard with
 |none=>match o.op with
  |.callf f args=>qzcd E P f (args.map (argv E S.t)) S.h rd v/\out=none
  |.callv x args=>(∃f nb caps,argv E S.t x=.fn f nb caps/\kzz P f=true/\qzcd E P f (fnArgs nb (args.map (argv E S.t)) caps) S.h rd v)/\out=none
  |op=>(op.req (argv E S.t) S.h).ok/\VEq (op.req (argv E S.t) S.h).v v/\(∀j∈(op.req (argv E S.t) S.h).rd,j∈rd)/\OutW S.h (op.req (argv E S.t) S.h).out out/\∀i ob,out=some (i,ob)->i∈rd
 |some (tg,want)=>∃c x,qzcj (S.t.getD tg .top) want=some c/\v=.cnd c x/\out=none/\match o.op with
  |.callf f args=>c=true->wze c S.t args/\qzcd E P f (args.map (argU E S.t)) S.h rd x
  |.callv y args=>c=true->∃f nb caps,argU E S.t y=.fn f nb caps/\kzz P f=true/\wze c S.t (y :: args)/\qzcd E P f (fnArgs nb (args.map (argU E S.t)) caps) S.h rd x
  |op=>op.quiet=true/\(c=true->op.unAll E c S.t/\(op.req (argU E S.t) S.h).ok/\VEq (op.req (argU E S.t) S.h).v x/\∀j∈(op.req (argU E S.t) S.h).rd,j∈rd)
def qzbq(E:Nat->AVal)(P:Program)(o:qzc)(S:ASt)(v:AVal)(rd:List Nat)(out:Option (Nat×AObj)):Prop:=wzzk E P o S v rd out\/wzzl E P o S v rd out
section
variable {E:Nat->AVal}{P:Program}{U:Option Nat}
theorem qz2c{o:qzc}{S:ASt}{v:AVal}{rd:List Nat}{out:Option (Nat×AObj)}(hdk:∀D∈S.ds,S.h D.1=.dfr D.2)(h:wzzk E P o S v rd out) :
  aop E P o S (fun S'=>∃v' out',VEq v' v/\OutW S.h out' out/\S'=⟨putT S.t o.dst v',putH S.h out',S.ds⟩):=by
 unfold wzzk at h;unfold aop;simp only[jzo,gyld];cases hg:o.guard with
 |none =>
  simp only[hg]at h ⊢;cases hop:o.op<;>simp only[hop]at h ⊢
  case callf f args =>obtain⟨h1,rfl⟩:=h;refine(h1 S.h (fun _ _=>rfl)).mono ?_;rintro v' h' ⟨rfl,rfl⟩;exact⟨hdk,_,none,.refl _,trivial,rfl⟩
  case callv x args =>obtain⟨⟨f,nb,caps,hx,he,h1⟩,rfl⟩:=h;rw[hx];refine⟨he,(h1 S.h (fun _ _=>rfl)).mono ?_⟩;rintro v' h' ⟨rfl,rfl⟩;exact⟨hdk,_,none,.refl _,trivial,rfl⟩
  case mnext x=>exact h.1.elim
  all_goals
   obtain⟨h1,hv,_,ho,_⟩:=h;exact⟨h1,_,_,hv,ho,rfl⟩
 |some y =>
  obtain⟨tg,want⟩:=y;simp only[hg]at h ⊢;obtain⟨c,x,hc,rfl,rfl,h⟩:=h;simp only[hc];cases hop:o.op<;>simp only[hop]at h ⊢
  case callf f args =>exact .inl ⟨x,fun e=>⟨(h e).1,(h e).2 S.h (fun _ _=>rfl)⟩,_,none,.refl _,trivial,rfl⟩
  case callv y args =>
   refine⟨fun e=>?_,fun e=>?_⟩
   ·subst e;exact⟨_,none,.cnd (fun e=>by cases e),trivial,rfl⟩
   ·obtain⟨f,nb,caps,hx,he,h1,h2⟩:=h e;rw[hx];exact⟨he,.inl ⟨x,fun e=>⟨h1,h2 S.h (fun _ _=>rfl)⟩,_,none,.refl _,trivial,rfl⟩⟩
  case mnext x=>cases h.1
  all_goals
   obtain⟨hq,h1⟩:=h;exact⟨hq,fun e=>⟨(h1 e).1,(h1 e).2.1⟩,_,none,.cnd (fun e=>(h1 e).2.2.1),trivial,rfl⟩
theorem SR.veq{g:Gh}{S:ASt}{t t':List AVal}{h h':qzl}{a:Act}{w:World}(hs:SR E g ⟨t,h,S.ds⟩ a w)(hl:t'.length=t.length)(hv:∀(i:Nat) (x y:AVal),t[i]?=some x->t'[i]?=some y->VEq x y)(ho:∀i,OEq (h i) (h' i)):SR E g ⟨t',h',S.ds⟩ a w:=by
 refine⟨hs.hr.oeq ho,⟨by rw[hl];exact hs.tm.1,fun i y u hy hu=>?_⟩,hs.df,fun D hD=>(ho D.1).dfr _ (hs.dk D hD),hs.dn⟩;have hi:i<t.length:=by rw[<-hl];exact(Gbg.1 hy).1
 have hx:t[i]?=some t[i]:=Gbe hi;exact(hv i _ y hx hy).rv (hs.tm.2 i _ u hx hu)
theorem qz25{t:List AVal}{d:Option Tmp}{v' v:AVal}(h:VEq v' v):∀(i:Nat) (x y:AVal),(putT t d v')[i]?=some x->(putT t d v)[i]?=some y->VEq x y:=by
 intro i x y hx hy;cases d with
 |none=>simp only[putT]at hx hy;rw[hx]at hy;cases hy;exact .refl _
 |some d =>
  simp only[putT,Gbl]at hx hy;by_cases e:d=i
  ·simp only[e,Gd5]at hx hy;split at hx<;>simp_all
  ·simp only[e,Gd2]at hx hy;rw[hx]at hy;cases hy;exact .refl _
theorem qzu4(t:List AVal)(d:Option Tmp)(v:AVal):(putT t d v).length=t.length:=by cases d<;>simp[putT]
theorem ATr.fz{f:FuncId}{xs ys:List AVal}{h:qzl}{i:Nat}{R:AVal->qzl->Prop}(how:(h i).owned=true)(hf:FVl i (h i) xs ys)(H:ATr E P f ys (hset h i (.gone ((h i).ep+1))) R):ATr E P f xs h R:=fun g w vs hh hv=>by obtain⟨H',st⟩:=hh.freeze (id:=i) (h':=hset h i (.gone ((h i).ep+1))) rfl how (by simp[hset]) (fun j hj=>.inl (by simp[hset,hj]));exact(H _ w vs H' (hf.rvs hh rfl hv)).mono fun _ _ ⟨g',h',r,v,q,e,rv,hr,st'⟩=>⟨g',h',r,v,q,e,rv,hr,st.trans st'⟩
theorem DFz.atr{f:FuncId}{xs:List AVal}{h:qzl}{v:AVal}{rd:List Nat}{out:Option (Nat×AObj)}(H:DFz E P f xs h v rd out){ds:List (Nat×Nat)}(hdk:∀D∈ds,h D.1=.dfr D.2):ATr E P f xs h (fun v' h'=>(∀D∈ds,h' D.1=.dfr D.2)/\v'=v/\h'=putH h out):=by
 obtain⟨i,_,h2,⟨rfl,h1,ys,h3,h4⟩|⟨rfl,h4⟩⟩:=H
 ·refine ATr.fz h1 h3 ((h4 _).mono ?_);rintro v' h' ⟨rfl,rfl⟩;refine⟨fun D hD=>?_,rfl,rfl⟩;show(if D.1=i then _ else h D.1)=_;rw[Gd3 (fun e=>by rw[<-e,hdk D hD]at h2;exact h2)];exact hdk D hD
 ·refine(h4 h).mono ?_;rintro v' h' ⟨rfl,rfl⟩;refine⟨hdk,rfl,funext fun j=>?_⟩;show _=if j=i then _ else _;split
  ·rename_i e;rw[e]
  ·rfl
theorem qzut{ops:Array Oper}{o:Oper}{ao:qzc}{S:ASt}{v:AVal}{rd:List Nat}{out:Option (Nat×AObj)}(hck:qzct P ops o ao=true)(h:qzbq E P ao S v rd out){g:Gh}{a:Act}{w:World}(hs:SR E g S a w){Q:Exit->Act->World->Prop}{K:Act->World->Prop} (hK:∀g' a' w',SR E g' ⟨putT S.t ao.dst v,putH S.h out,S.ds⟩ a' w'->Stp g S.h w g' (putH S.h out) w'->K a' w') :
  if Region.wanted o (yielded ops a.tmps) then o.wpIn (FW U) 0 P a w K Q else(∀f,o.about P w a.eval=some f->(FW U).fn f)/\K (a.put o.dst undef) w:=by
 have adj:∀{v':AVal} {out':Option (Nat×AObj)},VEq v' v->OutW S.h out' out->∀g' a' w',SR E g' ⟨putT S.t ao.dst v',putH S.h out',S.ds⟩ a' w'->Stp g S.h w g' (putH S.h out') w'->K a' w':=fun hv ho g' a' w' hs' st =>
  hK g' a' w' (hs'.veq (S:=S) (by simp[qzu4]) (qz25 hv) ho.put) (st.oeq ho.put)
 have run:aop E P ao S (fun S'=>∃v' out',VEq v' v/\OutW S.h out' out/\S'=⟨putT S.t ao.dst v',putH S.h out',S.ds⟩)->if Region.wanted o (yielded ops a.tmps) then o.wpIn (FW U) 0 P a w K Q else(∀f,o.about P w a.eval=some f->(FW U).fn f)/\K (a.put o.dst undef) w:=by
  intro h0;have h1:=qzmc (U:=U) (Q:=Q) hck h0 hs;have imp:∀a' w',(∃g' S',(∃v' out',VEq v' v/\OutW S.h out' out/\S'=⟨putT S.t ao.dst v',putH S.h out',S.ds⟩)/\SR E g' S' a' w'/\Stp g S.h w g' S'.h w')->K a' w':=by rintro a' w' ⟨g',_,⟨v',out',hv,ho,rfl⟩,hs',st⟩;exact adj hv ho g' a' w' hs' st
  split at h1
  ·rename_i hw;rw[Gd4 hw];exact Oper.wpIn_mono imp h1
  ·rename_i hw;rw[Gd3 hw];exact⟨h1.1,imp _ _ h1.2⟩
 rcases h with h|h
 ·exact run (qz2c hs.dk h)
 ·unfold wzzl at h;cases hg:ao.guard with
  |none =>simp only[hg]at h;obtain⟨f,args,hop,h⟩:=h;refine run ?_;unfold aop;simp only[hg,hop];refine(h.atr hs.dk).mono ?_;rintro v' h' ⟨h1,rfl,rfl⟩;exact⟨h1,_,out,.refl _,.refl _,rfl⟩
  |some y =>
   obtain⟨tg,want⟩:=y;simp only[hg]at h;obtain⟨c,x,hc,rfl,hn,h⟩:=h;rcases h with ⟨f,args,hop,h⟩|⟨hic,h⟩
   ·refine run ?_;unfold aop;simp only[hg,hc,hop,jzo];refine .inr ⟨fun e=>⟨(h e).1,((h e).2.atr hs.dk).mono ?_⟩,fun e=>?_⟩
    ·rintro v' h' ⟨h1,rfl,rfl⟩;subst e;exact⟨h1,_,out,.refl _,.refl _,rfl⟩
    ·subst e;exact⟨_,none,.cnd (fun e=>by cases e),by rw[hn rfl];trivial,rfl⟩
   ·obtain⟨hk,hcc⟩:=qzt9 hck;have hdst:=hk.dst;refine wzzm (E:=E) (U:=U) (P:=P) (ops:=ops) (qzoe hcc hic) hk hg hc (fun e=>⟨(h e).1,(h e).2.1⟩) g a w S hs (fun _ _=>rfl) (fun _ _=>rfl) K Q (fun g' a' w' h1 h2=>?_);rw[hdst]at h1;cases c with
    |false=>exact adj (out':=none) (.cnd (fun e=>by cases e)) (by rw[hn rfl];trivial) g' a' w' h1 h2
    |true=>exact adj (.cnd fun _=>(h rfl).2.2.1) (h rfl).2.2.2.2.1 g' a' w' h1 h2
theorem qzld{t t':List AVal}{l:List AArg}(h:∀x∈wzb l,t'.getD x .top=t.getD x .top){y:AArg}(hy:y∈l):argv E t' y=argv E t y:=by
 cases y with
 |t n=>exact h n (vzx hy)
 |c v=>rfl
 |g i=>rfl
theorem qzhf{t t':List AVal}{l:List AArg}(h:∀x∈wzb l,t'.getD x .top=t.getD x .top){y:AArg}(hy:y∈l):argU E t' y=argU E t y:=by
 cases y with
 |t n=>simp only[argU,h n (vzx hy)]
 |c v=>rfl
 |g i=>rfl
theorem kzq{c:Bool}{t t':List AVal}:∀{l:List AArg},(∀x∈wzb l,t'.getD x .top=t.getD x .top)->wze c t l->wze c t' l
 |[],_,h=>h
 |.t n :: r,hx,h=>⟨by rw[hx n (by simp[wzb])];exact h.1,kzq (fun x hxx=>hx x (by simp[wzb,hxx])) h.2⟩
 |.c v :: r,hx,h=>kzq (l:=r) hx h
 |.g i :: r,hx,h=>kzq (l:=r) hx h
theorem qzup{c:Bool}{t t':List AVal}{o:AOp}(hx:∀x∈wzb o.args,t'.getD x .top=t.getD x .top)(h:o.unAll E c t):o.unAll E c t':=by
 by_cases hpk:∃x y z,o=.pick x y z
 ·obtain⟨x,y,z,rfl⟩:=hpk;simp only[AOp.unAll]at h ⊢;have sub:∀u,u∈[x,y,z]->∀n∈wzb [u],t'.getD n .top=t.getD n .top:=fun u hu n hn=>hx n (vzx (by have:=qzd1 hn;simp only[Gb3,Gce,Gd8]at this;rw[this];exact hu));refine⟨kzq (sub x (by simp)) h.1,?_⟩;rw[qzhf (l:=[x]) (sub x (by simp)) (by simp)];have h2:=h.2;split at h2
  ·exact⟨kzq (sub y (by simp)) h2.1,kzq (sub z (by simp)) h2.2⟩
  ·exact h2.elim
 ·cases o<;>first|exact kzq hx h|exact absurd ⟨_,_,_,rfl⟩ hpk
theorem qzke{t t':List AVal}{l m:List AArg}(h:∀x∈wzb l,t'.getD x .top=t.getD x .top)(hm:∀y∈m,y∈l):m.map (argv E t')=m.map (argv E t) :=
 Gb0 fun y hy=>qzld h (hm y hy)
theorem qzkw{t t':List AVal}{l m:List AArg}(h:∀x∈wzb l,t'.getD x .top=t.getD x .top)(hm:∀y∈m,y∈l):m.map (argU E t')=m.map (argU E t) :=
 Gb0 fun y hy=>qzhf h (hm y hy)
theorem DFz.agree{f:FuncId}{xs:List AVal}{h h':qzl}{v:AVal}{rd:List Nat}{out:Option (Nat×AObj)}(H:DFz E P f xs h v rd out)(hh:∀j∈rd,h' j=h j):DFz E P f xs h' v rd out:=by obtain⟨i,hi,H⟩:=H;exact⟨i,hi,by rw[hh i hi];exact H⟩
theorem OutW.agree{h h':qzl}{rd:List Nat}(hh:∀j∈rd,h' j=h j):∀{a b:Option (Nat×AObj)},(∀i ob,a=some (i,ob)->i∈rd)->(∀i ob,b=some (i,ob)->i∈rd)->OutW h a b->OutW h' a b
 |none,none,_,_,H=>H
 |some (i,o'),some (j,o),_,_,H=>H
 |none,some (j,o),_,hb,H=>by show OEq (h' j) o;rw[hh j (hb _ _ rfl)];exact H
 |some (i,o'),none,ha,_,H=>by show o'=h' i;rw[hh i (ha _ _ rfl)];exact H
theorem wzzl.agree{o:qzc}{S S':ASt}{v:AVal}{rd:List Nat}{out:Option (Nat×AObj)}(h:wzzl E P o S v rd out)(ht:∀x∈looks o,S'.t.getD x .top=S.t.getD x .top)(hh:∀j∈rd,S'.h j=S.h j):wzzl E P o S' v rd out:=by
 have hta:∀x∈wzb o.op.args,S'.t.getD x .top=S.t.getD x .top:=fun x hx=>ht x (List.mem_append_right _ hx);unfold wzzl at h ⊢;cases hg:o.guard with
 |none =>simp only[hg]at h ⊢;obtain⟨f,args,hop,h⟩:=h;rw[hop]at hta;exact⟨f,args,hop,by rw[qzke (l:=args) hta (fun y hy=>hy)];exact h.agree hh⟩
 |some y =>
  obtain⟨tg,want⟩:=y;simp only[hg]at h ⊢;obtain⟨c,x,hc,hv,hn,h⟩:=h;refine⟨c,x,by rw[ht tg (by simp[looks,hg])];exact hc,hv,hn,?_⟩;rcases h with ⟨f,args,hop,h⟩|⟨hic,h⟩
  ·rw[hop]at hta;exact .inl ⟨f,args,hop,fun e=>⟨kzq hta (h e).1,by rw[qzkw (l:=args) hta (fun y hy=>hy)];exact(h e).2.agree hh⟩⟩
  ·refine .inr ⟨hic,fun e=>?_⟩;obtain⟨h0,h1,h2,h3,h4,h5⟩:=h e;rw[qzlg (ar':=argU E S.t) _ (fun y hy=>qzhf hta hy),qzla _ h1 (fun j hj=>hh j (h3 j hj))];exact⟨qzup hta h0,h1,h2,h3,h4.agree hh (fun i ob e=>h3 _ (qznn _ h1 e).2) h5,h5⟩
theorem wzzl.rd{o:qzc}{S:ASt}{v:AVal}{rd:List Nat}{i:Nat}{ob:AObj}(h:wzzl E P o S v rd (some (i,ob))):i∈rd:=by
 have fz:∀{f xs h v},DFz E P f xs h v rd (some (i,ob))->i∈rd:=fun H=>by obtain⟨j,hj,_,⟨e,_⟩|⟨e,_⟩⟩:=H<;>(cases e;exact hj)
 unfold wzzl at h;cases hg:o.guard with
 |none=>simp only[hg]at h;obtain⟨f,args,_,h⟩:=h;exact fz h
 |some y =>
  obtain⟨tg,want⟩:=y;simp only[hg]at h;obtain⟨c,x,_,_,hn,h⟩:=h;cases c with
  |false=>cases hn rfl
  |true =>
   rcases h with ⟨f,args,_,h⟩|⟨_,h⟩
   ·exact fz (h rfl).2
   ·exact(h rfl).2.2.2.2.2 _ _ rfl
theorem wzzk.agree{o:qzc}{S S':ASt}{v:AVal}{rd:List Nat}{out:Option (Nat×AObj)}(h:wzzk E P o S v rd out)(ht:∀x∈looks o,S'.t.getD x .top=S.t.getD x .top)(hh:∀j∈rd,S'.h j=S.h j):wzzk E P o S' v rd out:=by
 have hta:∀x∈wzb o.op.args,S'.t.getD x .top=S.t.getD x .top:=fun x hx=>ht x (List.mem_append_right _ hx);unfold wzzk at h ⊢;cases hg:o.guard with
 |none =>
  simp only[hg]at h ⊢;cases hop:o.op<;>simp only[hop]at h hta ⊢
  case callf f args =>rw[qzke (l:=args) hta (fun y hy=>hy)];exact⟨h.1.agree hh,h.2⟩
  case callv x args =>rw[qzld (l:=x :: args) hta (Gb5 ..),qzke (l:=x :: args) hta (fun y hy=>Gb4 _ hy)];obtain⟨⟨f,nb,caps,h1,h2,h3⟩,h4⟩:=h;exact⟨⟨f,nb,caps,h1,h2,h3.agree hh⟩,h4⟩
  all_goals
   obtain⟨h1,h2,h3,h4,h5⟩:=h;rw[qzlg (ar':=argv E S.t) _ (fun y hy=>qzld hta hy),qzla _ h1 (fun j hj=>hh j (h3 j hj))];refine⟨h1,h2,h3,?_,h5⟩;revert h4;generalize ho:(AOp.req _ (argv E S.t) S.h).out=o';intro h4;cases o' with
   |none =>
    cases out with
    |none=>trivial
    |some q=>show OEq (S'.h q.1) q.2;rw[hh q.1 (h5 q.1 q.2 rfl)];exact h4
   |some p =>
    cases out with
    |none=>show p.2=S'.h p.1;rw[hh p.1 (h3 _ (qznn _ h1 ho).2)];exact h4
    |some q=>exact h4
 |some y =>
  obtain⟨tg,want⟩:=y;simp only[hg]at h ⊢;obtain⟨c,x,hc,hv,ho,h⟩:=h;refine⟨c,x,by rw[ht tg (by simp[looks,hg])];exact hc,hv,ho,?_⟩;cases hop:o.op<;>simp only[hop]at h hta ⊢
  case callf f args =>intro e;rw[qzkw (l:=args) hta (fun y hy=>hy)];exact⟨kzq hta (h e).1,(h e).2.agree hh⟩
  case callv x args =>intro e;obtain⟨f,nb,caps,h1,h2,h3,h4⟩:=h e;refine⟨f,nb,caps,by rw[qzhf (l:=x :: args) hta (Gb5 ..)];exact h1,h2,?_⟩;rw[qzkw (l:=x :: args) hta (fun y hy=>Gb4 _ hy)];exact⟨kzq (l:=x :: args) hta h3,h4.agree hh⟩
  all_goals
   refine⟨h.1,fun e=>?_⟩;obtain⟨h0,h1,h2,h3⟩:=h.2 e;rw[qzlg (ar':=argU E S.t) _ (fun y hy=>qzhf hta hy),qzla _ h1 (fun j hj=>hh j (h3 j hj))];exact⟨qzup hta h0,h1,h2,h3⟩
theorem wzzk.rd{o:qzc}{S:ASt}{v:AVal}{rd:List Nat}{i:Nat}{ob:AObj}(h:wzzk E P o S v rd (some (i,ob))):i∈rd:=by
 unfold wzzk at h;cases hg:o.guard with
 |none =>
  simp only[hg]at h;cases hop:o.op<;>simp only[hop]at h
  case callf f args=>exact absurd h.2 (by simp)
  case callv x args=>exact absurd h.2 (by simp)
  all_goals
   exact h.2.2.2.2 _ _ rfl
 |some y =>obtain⟨tg,want⟩:=y;simp only[hg]at h;obtain⟨c,x,_,_,ho,_⟩:=h;cases ho
theorem qzbq.agree{o:qzc}{S S':ASt}{v:AVal}{rd:List Nat}{out:Option (Nat×AObj)}(h:qzbq E P o S v rd out)(ht:∀x∈looks o,S'.t.getD x .top=S.t.getD x .top)(hh:∀j∈rd,S'.h j=S.h j):qzbq E P o S' v rd out:=h.imp (fun h=>h.agree ht hh) (fun h=>h.agree ht hh)
theorem qzbq.rd{o:qzc}{S:ASt}{v:AVal}{rd:List Nat}{i:Nat}{ob:AObj}(h:qzbq E P o S v rd (some (i,ob))):i∈rd:=h.elim (fun h=>h.rd) (fun h=>h.rd)
end
def yzq{V:Type}(L:Nat->Bool)(dst:Nat->Option Nat)(val:Nat->V)(x:Nat)(b:V):Nat->V
 |0=>b
 |k+1=>if L k=true/\dst k=some x then val k else yzq L dst val x b k
section
variable {V:Type}{L L':Nat->Bool}{dst:Nat->Option Nat}{val:Nat->V}{x:Nat}{b:V}
theorem yzr:∀(k:Nat),(∀j,j<k->dst j=some x->L j=L' j)->yzq L dst val x b k=yzq L' dst val x b k
 |0,_=>rfl
 |k+1,h=>by
  simp only[yzq];rw[yzr k (fun j hj=>h j (by omega))];by_cases e:dst k=some x
  ·rw[h k (by omega) e]
  ·simp[e]
theorem qzip{i:Nat}(hL:∀j,L' j=(L j||j==i))(hni:L i=false):∀(n:Nat),i<n->(dst i=some x->∀j,i<j->j<n->L j=true->dst j≠some x) ->
  yzq L' dst val x b n=if dst i=some x then val i else yzq L dst val x b n
 |0,h,_=>by omega
 |k+1,h,hd=>by
  by_cases e:k=i
  ·subst e
   have h1:yzq L' dst val x b k=yzq L dst val x b k:=yzr k fun j hj _=>by
    rw[hL j];have:(j==k)=false:=by simp;omega
    rw[this,Bool.or_false]
   simp only[yzq,hL k,hni,h1];simp
  ·have hk:i<k:=by omega
   have ek:(k==i)=false:=by simp[e]
   simp only[yzq,hL k,ek,Bool.or_false];rw[qzip hL hni k hk (fun hx j h1 h2=>hd hx j h1 (by omega))];by_cases hc:L k=true/\dst k=some x
   ·simp only[hc,and_self,Gd5];have:dst i≠some x:=fun hx=>hd hx k hk (by omega) hc.1 hc.2;simp[this]
   ·simp only[hc,Gd2]
theorem qzqi{n:Nat}(h:∀j,L j=false):yzq L dst val x b n=b:=by
 induction n with
 |zero=>rfl
 |succ k ih=>simp[yzq,h k,ih]
end
def qza6(m:List qzc)(k:Nat):Option Tmp:=(m[k]?).bind (·.dst)
def qzb0(O:Nat->Option (Nat×AObj))(k:Nat):Option Nat:=(O k).map (·.1)
def qzp9(O:Nat->Option (Nat×AObj))(k:Nat):AObj:=((O k).map (·.2)).getD (.gone 0)
def stL(m:List qzc)(V:Nat->AVal)(O:Nat->Option (Nat×AObj))(S:ASt)(n:Nat)(L:Nat->Bool):ASt := ⟨(List.range S.t.length).map (fun x=>yzq L (qza6 m) V x (S.t.getD x .top) n),fun id=>yzq L (qzb0 O) (qzp9 O) id (S.h id) n,S.ds⟩
def qzpk(S:ASt)(d:Option Tmp)(v:AVal)(out:Option (Nat×AObj)):ASt:=⟨putT S.t d v,putH S.h out,S.ds⟩
def lx(m:List qzc)(V:Nat->AVal)(O:Nat->Option (Nat×AObj))(S:ASt):Nat->ASt
 |0=>S
 |k+1=>qzpk (lx m V O S k) (qza6 m k) (V k) (O k)
theorem ASt.eq{S S':ASt}(a:S.t=S'.t)(b:S.h=S'.h)(c:S.ds=S'.ds):S=S':=by cases S;cases S';simp only at a b c;subst a;subst b;subst c;rfl
section
variable {m:List qzc}{V:Nat->AVal}{O:Nat->Option (Nat×AObj)}{S:ASt}{n:Nat}
theorem wzdu(L:Nat->Bool):(stL m V O S n L).t.length=S.t.length:=by simp[stL]
theorem qzt8(L:Nat->Bool)(x:Nat):(stL m V O S n L).t.getD x .top=if x<S.t.length then yzq L (qza6 m) V x (S.t.getD x .top) n else .top:=by by_cases h:x<S.t.length<;>simp[stL,h]
theorem qzn0(L:Nat->Bool)(x:Nat):(stL m V O S n L).t[x]?=if x<S.t.length then some (yzq L (qza6 m) V x (S.t.getD x .top) n) else none:=by by_cases h:x<S.t.length<;>simp[stL,h]
theorem qztf{L L':Nat->Bool}{i:Nat}(hL:∀j,L' j=(L j||j==i))(hni:L i=false)(hin:i<n)(ht:∀x,qza6 m i=some x->∀j,i<j->j<n->L j=true->qza6 m j≠some x)(hh:∀x,qzb0 O i=some x->∀j,i<j->j<n->L j=true->qzb0 O j≠some x):stL m V O S n L'=qzpk (stL m V O S n L) (qza6 m i) (V i) (O i):=by
 have et:(stL m V O S n L').t=putT (stL m V O S n L).t (qza6 m i) (V i):=by
  refine Ga7 fun x=>?_;have key:=qzip (val:=V) (b:=S.t.getD x .top) hL hni n hin (fun e=>ht x e);rw[qzn0];cases hd:qza6 m i with
  |none =>
   rw[hd]at key;have key':yzq L' (qza6 m) V x (S.t.getD x .top) n=yzq L (qza6 m) V x (S.t.getD x .top) n:=by simpa using key
   simp only[putT,qzn0,key']
  |some d =>
   rw[hd]at key;simp only[putT,Gbl,qzn0,wzdu];by_cases e:d=x
   ·subst e;simp only[Gd5]at key ⊢;rw[key]
   ·have:¬(some d=some x):=fun h=>e (by injection h);simp only[this,Gd2]at key;simp only[e,Gd2,key]
 have eh:(stL m V O S n L').h=putH (stL m V O S n L).h (O i):=by
  funext id;have key:=qzip (val:=qzp9 O) (b:=S.h id) hL hni n hin (fun e=>hh id e);show yzq L' (qzb0 O) (qzp9 O) id (S.h id) n=_;rw[key];cases hO:O i with
  |none=>simp[qzb0,hO,putH,stL]
  |some y =>
   obtain⟨d,ob⟩:=y;by_cases e:d=id
   ·subst e;simp[qzb0,qzp9,hO,putH,hset]
   ·have:¬id=d:=fun h=>e h.symm;simp[qzb0,qzp9,hO,putH,hset,stL,e,this]
 exact ASt.eq et eh rfl
theorem qzkp:∀(k:Nat),k<=n->stL m V O S n (fun j=>decide (j<k))=lx m V O S k
 |0,_=>by
  have e0:∀j,(decide (j<0))=false:=fun j=>by simp
  have et:(stL m V O S n (fun j=>decide (j<0))).t=S.t:=by
   refine Ga7 fun x=>?_;rw[qzn0,qzqi e0];by_cases h:x<S.t.length
   ·simp[h]
   ·rw[Gd3 h,Gbf (by omega)]
  have eh:(stL m V O S n (fun j=>decide (j<0))).h=S.h:=by funext id;exact qzqi e0
  exact ASt.eq et eh rfl
 |k+1,h=>by
  have hL:∀j,decide (j<k+1)=(decide (j<k)||j==k):=fun j=>by
   by_cases e:j=k
   ·simp[e]
   ·have:decide (j<k+1)=decide (j<k):=(by simp only[decide_eq_decide];omega);simp[e,this]
  rw[qztf (L:=fun j=>decide (j<k)) (i:=k) hL (by simp) (by omega) (fun x _ j h1 _ h3=>by simp at h3;omega) (fun x _ j h1 _ h3=>by simp at h3;omega),qzkp k (by omega)];rfl
theorem wzc8:stL m V O S n (fun _=>true)=lx m V O S n:=by
 rw[<-qzkp n (Gcy n)];have et:(stL m V O S n (fun _=>true)).t=(stL m V O S n (fun j=>decide (j<n))).t:=by refine Gb0 fun x _=>yzr n fun j hj _=>by simp[hj]
 have eh:(stL m V O S n (fun _=>true)).h=(stL m V O S n (fun j=>decide (j<n))).h:=by funext id;exact yzr n fun j hj _=>by simp[hj]
 exact ASt.eq et eh rfl
end
structure jzba(E:Nat->AVal)(P:Program)(m:List qzc)(preds:List (List Nat))(S:ASt)(n:Nat)(V:Nat->AVal)(R:Nat->List Nat)(O:Nat->Option (Nat×AObj))(i j id:Nat):Prop where
 lt:j<i
 no:O j=none
 rd:∀k∈R j,k=id
 ord:∀l,l<n->l≠i->l≠j->qzb0 O l=some id->l∈preds.getD j []\/j∈preds.getD l []
 step:∀o,m[j]?=some o->∀S':ASt,(∀x∈looks o,S'.t.getD x .top=(lx m V O S j).t.getD x .top)->S'.h id=qzp9 O i->qzbq E P o S' (V j) (R j) (O j)
structure qzr6(E:Nat->AVal)(P:Program)(m:List qzc)(preds:List (List Nat))(S:ASt)(n:Nat)(V:Nat->AVal)(R:Nat->List Nat)(O:Nat->Option (Nat×AObj)):Prop where
 len:m.length=n
 lex:∀k o,m[k]?=some o->qzbq E P o (lx m V O S k) (V k) (R k) (O k)
 lt:∀i j,j∈preds.getD i []->j<i
 slots:∀i j oi oj d,m[i]?=some oi->m[j]?=some oj->i≠j->j∉preds.getD i []->i∉preds.getD j []->oi.dst=some d->d∉looks oj/\oj.dst≠some d
 heap:∀i j id,i<n->j<n->i≠j->j∉preds.getD i []->i∉preds.getD j []->qzb0 O i=some id->id∉R j\/jzba E P m preds S n V R O i j id
section
variable {E:Nat->AVal}{P:Program}{U:Option Nat}{m:List qzc}{preds:List (List Nat)}{S:ASt}{n:Nat}{V:Nat->AVal}{R:Nat->List Nat}{O:Nat->Option (Nat×AObj)}
theorem wz7c{V:Type}{L:Nat->Bool}{dst:Nat->Option Nat}{val:Nat->V}{x i:Nat}{b:V}(hL:L i=true)(hd:dst i=some x):∀(n:Nat),i<n->(∀l,l<n->i<l->dst l=some x->L l=false)->yzq L dst val x b n=val i
 |0,h,_=>by omega
 |n+1,h,hl=>by
  unfold yzq;by_cases e:n=i
  ·subst e;simp[hL,hd]
  ·have h1:i<n:=by omega
   by_cases hdn:dst n=some x
   ·have:=hl n (by omega) h1 hdn;simp[this];exact wz7c hL hd n h1 fun l q1 q2 q3=>hl l (by omega) q2 q3
   ·simp[hdn];exact wz7c hL hd n h1 fun l q1 q2 q3=>hl l (by omega) q2 q3
theorem qzr6.at(D:qzr6 E P m preds S n V R O){L:Nat->Bool}(hc:∀j,L j=true->∀p∈preds.getD j [],L p=true){i:Nat}{o:qzc}(hi:m[i]?=some o)(hni:L i=false)(hp:∀p∈preds.getD i [],L p=true) :
  qzbq E P o (stL m V O S n L) (V i) (R i) (O i)/\∀L':Nat->Bool,(∀j,L' j=(L j||j==i))->stL m V O S n L'=qzpk (stL m V O S n L) o.dst (V i) (O i):=by
 have hin:i<n:=by rw[<-D.len];exact(Gbg.1 hi).1
 have hd:qza6 m i=o.dst:=by simp[qza6,hi]
 have wit:∀j d,j<n->qza6 m j=some d->∃oj,m[j]?=some oj/\oj.dst=some d:=fun j d hj h=>by rw[<-D.len]at hj;refine⟨m[j],Gbe hj,?_⟩;simpa [qza6,Gbe hj] using h
 have same:∀j,j<n->j≠i->(L j=decide (j<i))\/(j∉preds.getD i []/\i∉preds.getD j []):=fun j hj hne=>by
  by_cases h1:j∈preds.getD i []
  ·left;rw[hp j h1];have:=D.lt i j h1;simp[this]
  ·by_cases h2:i∈preds.getD j []
   ·left;have:=D.lt j i h2;cases hL:L j with
    |false=>symm;simp;omega
    |true=>have:=hc j hL i h2;rw[hni]at this;cases this
   ·exact .inr ⟨h1,h2⟩
 have slots:∀x∈looks o,(stL m V O S n L).t.getD x .top=(lx m V O S i).t.getD x .top:=fun x hx=>by
  rw[<-qzkp (n:=n) i (by omega),qzt8,qzt8];split
  ·refine yzr n fun j hj hjx=>?_;by_cases e:j=i
   ·subst e;rw[hni];simp
   ·rcases same j hj e with h|⟨h1,h2⟩;·exact h
    ·obtain⟨oj,hoj,hdj⟩:=wit j x hj hjx;exact absurd hx (D.slots j i oj o x hoj hi e h2 h1 hdj).1
  ·rfl
 constructor
 ·by_cases hsoft:∃j id,j<n/\L j=true/\id∈R i/\qzb0 O j=some id/\jzba E P m preds S n V R O j i id
  ·obtain⟨j,id,hj,hLj,hid,hjx,sf⟩:=hsoft;refine sf.step o hi _ slots ?_;refine wz7c hLj hjx n hj fun l hl hjl hlx=>?_;by_cases e:l=i
   ·rw[e];exact hni
   ·rcases sf.ord l hl (by omega) e hlx with h|h;·have:=D.lt i l h;have:=sf.lt;omega
    ·cases hLl:L l with
     |false=>rfl
     |true=>have:=hc l hLl i h;rw[hni]at this;cases this
  ·refine(D.lex i o hi).agree slots (fun id hid=>?_);rw[<-qzkp (n:=n) i (by omega)];refine yzr n fun j hj hjx=>?_;by_cases e:j=i
   ·subst e;rw[hni];simp
   ·rcases same j hj e with h|⟨h1,h2⟩;·exact h
    ·rcases D.heap j i id hj hin e h2 h1 hjx with h|sf;·exact absurd hid h
     ·have hji:=sf.lt;cases hLj:L j with
      |false=>symm;simp;omega
      |true=>exact absurd ⟨j,id,hj,hLj,hid,hjx,sf⟩ hsoft
 ·intro L' hL';rw[<-hd];refine qztf hL' hni hin (fun x hx j h1 h2 h3 hjx=>?_) (fun x hx j h1 h2 h3 hjx=>?_)
  ·rcases same j h2 (by omega) with h|⟨h4,h5⟩;·rw[h3]at h;simp at h;omega
   ·obtain⟨oj,hoj,hdj⟩:=wit j x h2 hjx;exact(D.slots i j o oj x hi hoj (by omega) h4 h5 (hd▸hx)).2 hdj
  ·rcases same j h2 (by omega) with h|⟨h4,h5⟩;·rw[h3]at h;simp at h;omega
   ·have hjl:j<m.length:=(by rw[D.len];exact h2);have h6:=D.lex j _ (Gbe hjl);rcases D.heap i j x hin h2 (by omega) h4 h5 hx with hx'|sf
    ·cases hO:O j with
     |none=>simp[qzb0,hO]at hjx
     |some y =>obtain⟨d,ob⟩:=y;rw[hO]at h6;simp[qzb0,hO]at hjx;subst hjx;exact hx' h6.rd
    ·simp[qzb0,sf.no]at hjx
variable {ops:Array Oper}{Q:Exit->Act->World->Prop}
theorem qzmd{listed:Array Bool}{i:Nat}:i∈Region.ready .any ops listed↔∃o,ops[i]?=some o/\listed.getD i true=false/\∀e∈o.after.toList,Region.binds .any e=true->listed.getD e.on false=true:=by
 unfold Region.ready;rw[List.mem_filter,Gcb];constructor
 ·rintro⟨h1,h2⟩;rw[Gai]at h2;obtain⟨h2,h3⟩:=h2;have ho:ops[i]?=some ops[i]:=by simp[h1]
  rw[ho]at h3;simp only[Gdo,Gdm,Array.all_eq_true_iff_forall_mem,Gas,Gao]at h3;refine⟨_,ho,by simpa using h2,fun e he hb=>?_⟩;rcases h3 e (by simpa using he) with h|h
  ·rw[hb]at h;cases h
  ·exact h
 ·rintro⟨o,ho,h2,h3⟩;refine⟨(Gac.1 ho).1,?_⟩;rw[Gai,ho];refine⟨by simp[h2],?_⟩;simp only[Gdo,Gdm,Array.all_eq_true_iff_forall_mem,Gas,Gao];intro e he;cases hb:Region.binds .any e with
  |false=>exact .inl rfl
  |true=>exact .inr (h3 e (by simpa using he) hb)
theorem qzfh{listed:Array Bool}{n i:Nat}(hs:listed.size=n)(hi:i<n):listed.getD i true=listed.getD i false:=by subst hs;simp[Array.getD,hi]
theorem qzze(D:qzr6 E P m preds S n V R O)(hn:ops.size=n)(hops:∀(k:Nat) (o:Oper),ops[k]?=some o->∃ao,m[k]?=some ao/\qzct P ops o ao=true)(hedge:∀(i:Nat) (o:Oper),ops[i]?=some o->∀e∈o.after.toList,Region.binds .any e=true->e.on<i)(hpred:∀(i:Nat) (o:Oper),ops[i]?=some o->∀p∈preds.getD i [],∃e∈o.after.toList,Region.binds .any e=true/\(e.on=p\/p∈preds.getD e.on [])) : ∀(fuel:Nat) (listed:Array Bool),listed.size=n->(∀j,listed.getD j false=true->∀p∈preds.getD j [],listed.getD p false=true) -> (∃l:List Nat,(∀j,j<n->listed.getD j false=false->j∈l)/\l.length<=fuel)->∀(g:Gh) (a:Act) (w:World),SR E g (stL m V O S n (fun j=>listed.getD j false)) a w -> (∀g' a' w',SR E g' (lx m V O S n) a' w'->Stp g (stL m V O S n (fun j=>listed.getD j false)).h w g' (lx m V O S n).h w'->Q .normal a' w')->wpAnyIn (FW U) 0 P .any ops Q fuel listed a w:=by
 have fin:∀(listed:Array Bool),listed.size=n->(∀j,j<n->listed.getD j false=true)->stL m V O S n (fun j=>listed.getD j false)=lx m V O S n:=fun listed hs h=>by
  rw[<-wzc8];have et:(stL m V O S n (fun j=>listed.getD j false)).t=(stL m V O S n (fun _=>true)).t:=Gb0 fun x _=>yzr n fun j hj _=>h j hj;have eh:(stL m V O S n (fun j=>listed.getD j false)).h=(stL m V O S n (fun _=>true)).h:=by funext id;exact yzr n fun j hj _=>h j hj
  exact ASt.eq et eh rfl
 have allr:∀(listed:Array Bool),listed.size=n->Region.ready .any ops listed=[]->∀j,j<n->listed.getD j false=true:=fun listed hs hr j=>by
  induction j using Nat.strongRecOn with
  |ind j ih =>
   intro hj;cases hl:listed.getD j false with
   |true=>rfl
   |false =>have hjs:j<ops.size:=(by omega);have:j∈Region.ready .any ops listed:=qzmd.2 ⟨ops[j],by simp[hjs],by rw[qzfh hs hj];exact hl,fun e he hb=>ih e.on (hedge j _ (by simp[hjs]) e he hb) (by have:=hedge j ops[j] (by simp[hjs]) e he hb;omega)⟩;rw[hr]at this;cases this
 intro fuel;induction fuel with
 |zero =>
  intro listed hs hc hf g a w hsr hq;obtain⟨l,hl,hlen⟩:=hf;have hl0:l=[]:=by cases l<;>simp at hlen ⊢
  have all:∀j,j<n->listed.getD j false=true:=fun j hj=>by
   cases h:listed.getD j false with
   |true=>rfl
   |false=>have:=hl j hj h;rw[hl0]at this;cases this
  refine⟨?_,hq g a w (by rw[<-fin listed hs all];exact hsr) (by rw[fin listed hs all];exact .refl _ _ _)⟩;cases hr:Region.ready .any ops listed with
  |nil=>rfl
  |cons i r =>
   have hi:i∈Region.ready .any ops listed:=by rw[hr];exact Gb5 ..
   obtain⟨o,ho,h2,_⟩:=qzmd.1 hi;have hin:i<n:=by rw[<-hn];exact(Gac.1 ho).1
   rw[qzfh hs hin,all i hin]at h2;cases h2
 |succ fuel ih =>
  intro listed hs hc hf g a w hsr hq;refine⟨fun hr=>?_,fun i hi=>?_⟩
  ·have all:=allr listed hs hr;exact hq g a w (by rw[<-fin listed hs all];exact hsr) (by rw[fin listed hs all];exact .refl _ _ _)
  ·obtain⟨o,ho,h2,h3⟩:=qzmd.1 hi;have hin:i<n:=by rw[<-hn];exact(Gac.1 ho).1
   rw[qzfh hs hin]at h2;obtain⟨ao,hao,hck⟩:=hops i o ho
   have hp:∀p∈preds.getD i [],listed.getD p false=true:=fun p hpp=>by
    obtain⟨e,he,hb,h4⟩:=hpred i o ho p hpp;rcases h4 with rfl|h4
    ·exact h3 e he hb
    ·exact hc e.on (h3 e he hb) p h4
   obtain⟨hst,hpush⟩:=D.at (L:=fun j=>listed.getD j false) hc hao h2 hp
   have hL':∀j,(listed.setIfInBounds i true).getD j false=(listed.getD j false||j==i):=fun j=>by
    by_cases e:j=i
    ·subst e;simp[Array.getD,hs,hin]
    ·have e':¬i=j:=fun h=>e h.symm;by_cases hj:j<listed.size<;>simp[Array.getD,hj,e,e',Gaf]
   have hnew:=hpush (fun j=>(listed.setIfInBounds i true).getD j false) hL';unfold wpOpIn;simp only[ho];refine qzut hck hst hsr fun g' a' w' hs' st=>?_;refine ih _ (by simp[hs]) (fun j hj p hpp=>?_) ?_ g' a' w' (by rw[hnew];exact hs') (fun g'' a'' w'' hs'' st''=>hq g'' a'' w'' hs'' (st.trans (by rw[hnew]at st'';exact st'')))
   ·rw[hL']at hj ⊢;by_cases e:j=i
    ·subst e;rw[hp p hpp];rfl
    ·have:listed.getD j false=true:=(by simpa [e] using hj);rw[hc j this p hpp];rfl
   ·obtain⟨l,hl,hlen⟩:=hf;have hil:=hl i hin h2;refine⟨l.erase i,fun j hj h=>?_,?_⟩
    ·rw[hL']at h;have hne:j≠i:=fun e=>by subst e;simp at h
     exact(List.mem_erase_of_ne hne).2 (hl j hj (by simpa [hne] using h))
    ·rw[List.length_erase_of_mem hil];omega
end
def qzqz(ops:List Oper)(preds:List (List Nat)):Bool :=
 preds.length==ops.length&&(List.range ops.length).all fun i=>(preds.getD i []).all fun p=>decide (p<i)&&(match ops[i]? with
  |some o=>o.after.toList.any fun e=>Region.binds .any e&&(e.on==p||(preds.getD e.on []).contains p)
  | none=>false)
def qzg0:Nat->List Oper->Bool
 |_,[]=>true
 |i,o :: r=>(o.after.toList.all fun e=>!Region.binds .any e||decide (e.on<i))&&qzg0 (i+1) r
def qzqy(m:List qzc)(preds:List (List Nat)):Bool :=
 (List.range m.length).all fun i=>(List.range m.length).all fun j=>i==j||(preds.getD i []).contains j||(preds.getD j []).contains i||(match m[i]?,m[j]? with
  |some x,some y=>(match x.dst with | none=>true | some d=>!(looks y).contains d&&y.dst != some d)
  | _,_=>true)
def hpOk(preds:List (List Nat))(tr:List (List Nat×Option Nat)):Bool :=
 (List.range tr.length).all fun i=>match (tr.getD i ([],none)).2 with
  |none=>true
  |some id=>(List.range tr.length).all fun j=>i==j||(preds.getD i []).contains j||(preds.getD j []).contains i||!(tr.getD j ([],none)).1.contains id
def sfOk(m:List qzc)(i j:Nat):Bool:=false
def wz35(m:List qzc)(preds:List (List Nat))(tr:List (List Nat×Option Nat)):Bool :=
 (List.range tr.length).all fun i=>match (tr.getD i ([],none)).2 with
  |none=>true
  |some id=>(List.range tr.length).all fun j=>i==j||(preds.getD i []).contains j||(preds.getD j []).contains i||!(tr.getD j ([],none)).1.contains id ||
    (decide (j<i)&&sfOk m i j&&(tr.getD j ([],none)).2==none&&(tr.getD j ([],none)).1.all (fun k=>k==id)&&(List.range tr.length).all fun l=>l==i||l==j||(tr.getD l ([],none)).2 != some id ||
     (((preds.getD j []).contains l||(preds.getD l []).contains j)&&!(decide (j<l)&&decide (l<i))))
theorem jzh0{m:List qzc}{preds:List (List Nat)}{tr:List (List Nat×Option Nat)}(h:hpOk preds tr=true):wz35 m preds tr=true:=by
 unfold hpOk at h;unfold wz35;simp only[Ga0,Gcb]at h ⊢;intro i hi;have:=h i hi;split
 ·rfl
 ·rename_i id hid;rw[hid]at this;simp only[Ga0,Gcb]at this ⊢;intro j hj;have:=this j hj;rw[this];rfl
def qznq(E:Nat->AVal)(P:Program)(f:FuncId)(args:List AVal)(h:qzl)(K:AVal->List Nat->Prop):Prop:=∃v rd,qzcd E P f args h rd v/\K v rd
def kzb(E:Nat->AVal)(P:Program)(c:Bool)(t:List AVal)(xs:List AArg)(f:FuncId)(args:List AVal)(h:qzl)(K:AVal->List Nat->Prop):Prop:=∃v rd,(c=true->wze c t xs/\qzcd E P f args h rd v)/\K (.cnd c v) rd
def dop(E:Nat->AVal)(P:Program)(o:qzc)(S:ASt)(K:AVal->List Nat->Option (Nat×AObj)->Prop):Prop :=
 match o.guard with
 |none=>match o.op with
  |.callf f args=>qznq E P f (args.map (argv E S.t)) S.h (fun v rd=>K v rd none)
  |.callv x args=>match argv E S.t x with
   |.fn f nb caps=>kzz P f=true/\qznq E P f (fnArgs nb (args.map (argv E S.t)) caps) S.h (fun v rd=>K v rd none)
   |_=>False
  |op=>(op.req (argv E S.t) S.h).ok/\K (op.req (argv E S.t) S.h).v (op.req (argv E S.t) S.h).rd (op.req (argv E S.t) S.h).out
 |some (tg,want)=>match qzcj (S.t.getD tg .top) want with
  |none=>False
  |some c=>match o.op with
   |.callf f args=>kzb E P c S.t args f (args.map (argU E S.t)) S.h (fun v rd=>K v rd none)
   | .callv y args=>(c=false->K (.cnd false .top) [] none)/\(c=true->match argU E S.t y with
    |.fn f nb caps=>kzz P f=true/\kzb E P c S.t (y :: args) f (fnArgs nb (args.map (argU E S.t)) caps) S.h (fun v rd=>K v rd none)
    | _=>False)
   |op=>op.quiet=true/\(c=true->op.unAll E c S.t/\(op.req (argU E S.t) S.h).ok)/\K (.cnd c (op.req (argU E S.t) S.h).v) (bif c then(op.req (argU E S.t) S.h).rd else []) none
def dreg(E:Nat->AVal)(P:Program):List qzc->ASt->(ASt->List (List Nat×Option Nat)->Prop)->Prop
 |[],S,K=>K S []
 |o :: r,S,K=>dop E P o S (fun v rd out=>dreg E P r ⟨putT S.t o.dst v,putH S.h out,S.ds⟩ (fun S' tr=>K S' ((rd,out.map (·.1)) :: tr)))
section
variable {E:Nat->AVal}{P:Program}{U:Option Nat}
theorem qz3y{o:qzc}{S:ASt}{K:AVal->List Nat->Option (Nat×AObj)->Prop}(h:dop E P o S K):∃v rd out,qzbq E P o S v rd out/\K v rd out:=by
 suffices ∃v rd out,wzzk E P o S v rd out/\K v rd out by obtain⟨v,rd,out,h1,h2⟩:=this;exact⟨v,rd,out,.inl h1,h2⟩
 unfold dop at h;simp only[qznq,kzb]at h;unfold wzzk;cases hg:o.guard with
 |none =>
  simp only[hg]at h ⊢;cases hop:o.op<;>simp only[hop]at h ⊢
  case callf f args=>obtain⟨v,rd,h1,h2⟩:=h;exact⟨v,rd,none,⟨h1,rfl⟩,h2⟩
  case callv x args =>
   cases hx:argv E S.t x<;>simp only[hx]at h
   case fn f nb caps=>obtain⟨he,v,rd,h1,h2⟩:=h;exact⟨v,rd,none,⟨⟨f,nb,caps,rfl,he,h1⟩,rfl⟩,h2⟩
  all_goals exact⟨_,_,_,⟨h.1,.refl _,fun _ hj=>hj,.refl _,fun i ob e=>(qznn _ h.1 e).2⟩,h.2⟩
 |some y =>
  obtain⟨tg,want⟩:=y;simp only[hg]at h ⊢;cases hc:qzcj (S.t.getD tg .top) want with
  |none=>simp only[hc]at h
  |some c =>
   simp only[hc]at h;cases hop:o.op<;>simp only[hop]at h ⊢
   case callf f args=>obtain⟨v,rd,h1,h2⟩:=h;exact⟨_,rd,none,⟨c,v,rfl,rfl,rfl,h1⟩,h2⟩
   case callv x args =>
    cases c with
    |false=>exact⟨_,[],none,⟨false,.top,rfl,rfl,rfl,fun e=>by cases e⟩,h.1 rfl⟩
    |true =>
     have h:=h.2 rfl;cases hx:argU E S.t x<;>simp only[hx]at h
     case fn f nb caps=>obtain⟨he,v,rd,h1,h2⟩:=h;exact⟨_,rd,none,⟨true,v,rfl,rfl,rfl,fun _=>⟨f,nb,caps,rfl,he,(h1 trivial).1,(h1 trivial).2⟩⟩,h2⟩
   all_goals exact⟨_,_,none,⟨c,_,rfl,rfl,rfl,h.1,fun e=>⟨(h.2.1 e).1,(h.2.1 e).2,.refl _,by subst e;exact fun _ hj=>hj⟩⟩,h.2.2⟩
theorem qzqw(o:qzc)(l:List qzc)(V:Nat->AVal)(O:Nat->Option (Nat×AObj))(S:ASt):∀k,lx (o :: l) V O S (k+1)=lx l (fun k=>V (k+1)) (fun k=>O (k+1)) (qzpk S o.dst (V 0) (O 0)) k
 |0=>rfl
 |k+1=>by have ih:=qzqw o l V O S k;show qzpk (lx (o :: l) V O S (k+1)) (qza6 (o :: l) (k+1)) (V (k+1)) (O (k+1))=_;rw[ih];rfl
theorem qzqj:∀(l:List qzc) (S:ASt) (K:ASt->List (List Nat×Option Nat)->Prop),dreg E P l S K -> ∃(V:Nat->AVal) (R:Nat->List Nat) (O:Nat->Option (Nat×AObj)),(∀k o,l[k]?=some o->qzbq E P o (lx l V O S k) (V k) (R k) (O k))/\K (lx l V O S l.length) ((List.range l.length).map fun k=>(R k,qzb0 O k))
 |[],S,K,h=>⟨fun _=>.top,fun _=>[],fun _=>none,fun k o h=>by simp at h,h⟩
 |o :: l,S,K,h=>by
  obtain⟨v,rd,out,h1,h2⟩:=qz3y h;obtain⟨V,R,O,h3,h4⟩:=qzqj l _ _ h2;refine⟨fun k=>match k with | 0=>v | k+1=>V k,fun k=>match k with | 0=>rd | k+1=>R k,fun k=>match k with | 0=>out | k+1=>O k,fun k ok hk=>?_,?_⟩
  ·cases k with
   |zero=>simp at hk;subst hk;exact h1
   |succ k =>rw[qzqw];exact h3 k ok (by simpa using hk)
  ·rw[Gbr,qzqw,List.range_succ_eq_map,Gb1,List.map_map];exact h4
theorem qzok{ops:Array Oper}:∀{l:List Oper} {m:List qzc},yzf P ops l m=true->m.length=l.length/\∀(k:Nat) (o:Oper),l[k]?=some o->∃ao,m[k]?=some ao/\qzct P ops o ao=true
 |[],[],_=>⟨rfl,fun k o h=>by simp at h⟩
 |o :: l,a :: m,h=>by
  simp only[yzf,Gai]at h;obtain⟨h1,h2⟩:=qzok h.2;refine⟨by simp[h1],fun k o' hk=>?_⟩;cases k with
  |zero=>simp at hk;subst hk;exact⟨a,rfl,h.1⟩
  |succ k=>exact h2 k o' (by simpa using hk)
 |[],_ :: _,h=>by cases h
 |_ :: _,[],h=>by cases h
theorem qzuk:∀{l:List Oper} {n:Nat},qzg0 n l=true->∀(i:Nat) (o:Oper),l[i]?=some o->∀e∈o.after.toList,Region.binds .any e=true->e.on<n+i
 |[],_,_,i,o,h,_,_,_=>by simp at h
 |x :: l,n,h,i,o,ho,e,he,hb=>by
  simp only[qzg0,Gai,Ga0,Gas,Gao,Gdz]at h;cases i with
  |zero =>
   simp at ho;subst ho;rcases h.1 e he with h1|h1
   ·rw[hb]at h1;cases h1
   ·exact h1
  |succ i =>have:=qzuk h.2 i o (by simpa using ho) e he hb;omega
theorem jzbm{m:List qzc}{S:ASt}{V:Nat->AVal}{R:Nat->List Nat}{O:Nat->Option (Nat×AObj)}{i j id:Nat}(hlex:∀k o,m[k]?=some o->qzbq E P o (lx m V O S k) (V k) (R k) (O k))(hs:sfOk m i j=true)(hji:j<i)(hno:O j=none)(hi:qzb0 O i=some id) (hrd:∀k∈R j,k=id) (hbet:∀l,j<l->l<i->qzb0 O l≠some id) : ∀o,m[j]?=some o->∀S':ASt,(∀x∈looks o,S'.t.getD x .top=(lx m V O S j).t.getD x .top)->S'.h id=qzp9 O i->qzbq E P o S' (V j) (R j) (O j):=by unfold sfOk at hs;cases hs
theorem jzcd{m:List qzc}{preds:List (List Nat)}{S:ASt}{V:Nat->AVal}{R:Nat->List Nat}{O:Nat->Option (Nat×AObj)}(hlex:∀k o,m[k]?=some o->qzbq E P o (lx m V O S k) (V k) (R k) (O k))(hhp:wz35 m preds ((List.range m.length).map fun k=>(R k,qzb0 O k))=true):∀i j id,i<m.length->j<m.length->i≠j->j∉preds.getD i []->i∉preds.getD j []->qzb0 O i=some id->id∉R j\/jzba E P m preds S m.length V R O i j id:=by
 simp only[wz35,Ga0,Gcb,Gbu,Gbv]at hhp;intro i j id hi hj hne h1 h2 hid;have at':∀l,l<m.length->((List.range m.length).map fun k=>(R k,qzb0 O k)).getD l ([],none)=(R l,qzb0 O l):=fun l hl=>by simp[List.getD,hl]
 have:=hhp i hi;rw[at' i hi]at this;simp only[hid,Ga0,Gcb]at this;have:=this j hj;rw[at' j hj]at this;have h1':(preds.getD i []).contains j=false:=by simpa using h1
 have h2':(preds.getD j []).contains i=false:=by simpa using h2
 have hne':(i==j)=false:=by simpa using hne
 simp only[h1',h2',hne',Bool.false_or,Gas,Gai,Gdz,Gds,Ga0,Gcb,Gao,Bool.not_eq_true]at this;rcases this with h|⟨⟨⟨⟨k1,k2⟩,k3⟩,k4⟩,k5⟩
 ·exact .inl (by simpa using h)
 ·refine .inr ?_;have hno:O j=none:=by cases hO:O j with | none=>rfl | some y=>simp[qzb0,hO]at k3
  have ord:∀l,l<m.length->l≠i->l≠j->qzb0 O l=some id->(l∈preds.getD j []\/j∈preds.getD l [])/\¬(j<l/\l<i):=fun l hl a b c=>by
   have:=k5 l hl;rw[at' l hl]at this;simp only[c]at this;rcases this with ((h|h)|h)|h
   ·exact absurd h a
   ·exact absurd h b
   ·simp at h
   ·refine⟨?_,fun⟨q1,q2⟩=>?_⟩;·simpa [Ga2] using h.1
    ·have:=h.2;simp[q1,q2]at this
  refine⟨k1,hno,fun k hk=>k4 k hk,fun l hl a b c=>(ord l hl a b c).1,?_⟩;exact jzbm hlex k2 k1 hno hid (fun k hk=>k4 k hk) fun l a b c=>(ord l (by omega) (by omega) (by omega) c).2 ⟨a,b⟩
theorem AWp.drawnT{id:Nat}{ops:Array Oper}{m:List qzc}{preds:List (List Nat)}{S:ASt}{Q:Exit->ASt->Prop}(hc:yzf P ops ops.toList m=true)(hp:qzqz ops.toList preds=true)(he:qzg0 0 ops.toList=true)(hsl:qzqy m preds=true) (hm:P.follows .mixedOrders=true) (h:∃(V:Nat->AVal) (R:Nat->List Nat) (O:Nat->Option (Nat×AObj)),(∀k o,m[k]?=some o->qzbq E P o (lx m V O S k) (V k) (R k) (O k))/\wz35 m preds ((List.range m.length).map fun k=>(R k,qzb0 O k))=true/\Q .normal (lx m V O S m.length)):AWp E U P (.region id ops true) Q S:=by
 obtain⟨hlen,hops⟩:=qzok hc;obtain⟨V,R,O,hlex,hhp,hQ⟩:=h;have hml:m.length=ops.size:=by rw[hlen];simp
 simp only[qzqz,Gai,Gds,Ga0,Gcb,Gdz]at hp;obtain⟨hpl,hp⟩:=hp
 have hpi:∀i p,p∈preds.getD i []->i<ops.toList.length:=fun i p h=>by
  rcases Gc3 i ops.toList.length with h1|h1
  ·exact h1
  ·simp[List.getD,Gbf (show preds.length<=i by omega)]at h
 simp only[qzqy,Ga0,Gcb]at hsl
 have D:qzr6 E P m preds S m.length V R O:=by
  refine⟨rfl,hlex,fun i j hj=>(hp i (hpi i j hj) j hj).1,?_,?_⟩
  ·intro i j oi oj d hi hj hne h1 h2 hd;have:=hsl i (Gbg.1 hi).1 j (Gbg.1 hj).1;rw[hi,hj]at this;have h1':j∉preds[i]?.getD []:=by simpa using h1
   have h2':i∉preds[j]?.getD []:=by simpa using h2
   simpa [hne,h1',h2',hd] using this
  ·exact jzcd hlex hhp
 intro g a w hs;have hw:=hs.hr.heap (w':={ w with drawn:=w.drawn+1 }) rfl rfl rfl rfl;have hs':SR E g S a { w with drawn:=w.drawn+1 }:=⟨hw.1,hs.tm.mono hw.2.le,hs.df,hs.dk,hs.dn⟩;have stp0:Stp g S.h w g S.h { w with drawn:=w.drawn+1 }:=hw.2;refine wpIn_region_any hm ?_
 have e0:stL m V O S m.length (fun j=>(Array.replicate ops.size false).getD j false)=S:=by
  have:(fun j=>(Array.replicate ops.size false).getD j false)=(fun j=>decide (j<0)):=by funext j;by_cases hj:j<ops.size<;>simp[Array.getD,hj]
  rw[this,qzkp 0 (Gdl _)];rfl
 refine qzze (U:=U) (Q:=fun e a' w'=>∃g' S',Q e S'/\SR E g' S' a' w'/\Stp g S.h w g' S'.h w') D hml.symm (fun k o hk=>hops k o (by simpa using hk)) (fun i o hi e hee hb=>by have:=qzuk he i o (by simpa using hi) e hee hb;omega) (fun i o hi p hpp=>?_)
  ops.size (Array.replicate ops.size false) (by simp[hml]) (fun j hj=>?_) ⟨List.range m.length,fun j hj _=>by simpa using hj,by simp[hml]⟩ g a _ (by rw[e0];exact hs') (fun g' a' w' hs2 st=>⟨g',_,hQ,hs2,stp0.trans (by rw[e0]at st;exact st)⟩)
 ·have h1:=(hp i (hpi i p hpp) p hpp).2;have hi':ops.toList[i]?=some o:=by simpa using hi
  rw[hi']at h1;simp only[List.any_eq_true,Gai,Gas,Gds,Ga2]at h1;obtain⟨e,h2,h3,h4⟩:=h1;exact⟨e,h2,h3,h4⟩
 ·by_cases h1:j<ops.size<;>simp[Array.getD,h1]at hj
theorem AWp.drawn{id:Nat}{ops:Array Oper}{m:List qzc}{preds:List (List Nat)}{S:ASt}{Q:Exit->ASt->Prop}(hc:yzf P ops ops.toList m=true)(hp:qzqz ops.toList preds=true)(he:qzg0 0 ops.toList=true)(hsl:qzqy m preds=true) (hm:P.follows .mixedOrders=true) (h:dreg E P m S (fun S' tr=>hpOk preds tr=true/\Q .normal S')):AWp E U P (.region id ops true) Q S:=by obtain⟨V,R,O,h1,h2,h3⟩:=qzqj m S _ h;exact .drawnT hc hp he hsl hm ⟨V,R,O,h1,jzh0 h2,h3⟩
def wzo8(E:Nat->AVal)(P:Program):List qzc->ASt->(ASt->List (List Nat×Option Nat)->Prop)->Prop
 |[],S,K=>K S []
 |o :: r,S,K=>∃v rd out,qzbq E P o S v rd out/\wzo8 E P r ⟨putT S.t o.dst v,putH S.h out,S.ds⟩ (fun S' tr=>K S' ((rd,out.map (·.1)) :: tr))
theorem wzna:∀(l:List qzc) (S:ASt) (K:ASt->List (List Nat×Option Nat)->Prop),wzo8 E P l S K -> ∃(V:Nat->AVal) (R:Nat->List Nat) (O:Nat->Option (Nat×AObj)),(∀k o,l[k]?=some o->qzbq E P o (lx l V O S k) (V k) (R k) (O k))/\K (lx l V O S l.length) ((List.range l.length).map fun k=>(R k,qzb0 O k))
 |[],S,K,h=>⟨fun _=>.top,fun _=>[],fun _=>none,fun k o h=>by simp at h,h⟩
 |o :: l,S,K,h=>by
  obtain⟨v,rd,out,h1,h2⟩:=h;obtain⟨V,R,O,h3,h4⟩:=wzna l _ _ h2;refine⟨fun k=>match k with | 0=>v | k+1=>V k,fun k=>match k with | 0=>rd | k+1=>R k,fun k=>match k with | 0=>out | k+1=>O k,fun k ok hk=>?_,?_⟩
  ·cases k with
   |zero=>simp at hk;subst hk;exact h1
   |succ k =>rw[qzqw];exact h3 k ok (by simpa using hk)
  ·rw[Gbr,qzqw,List.range_succ_eq_map,Gb1,List.map_map];exact h4
end
section
variable {E:Nat->AVal}{P:Program}{U:Option Nat}
theorem HR.new{g:Gh}{h:qzl}{w:World}{i:Nat}{o:AObj}{ob:Obj}(H:HR E g h w)(hep:o.ep=(h i).ep+1)(hob:∀(g':Gh) (w':World),GLe g w g' w'->g'.ep i=(h i).ep+1->(∀j,j≠i->g'.ep j=g.ep j)->g'.blk i=w.heap.size->w'.heap[w.heap.size]?=some ob->OR g' w' i o) : ∃g',g'.blk i=w.heap.size/\HR E g' (hset h i o) (w.alloc ob)/\Stp g h w g' (hset h i o) (w.alloc ob):=by
 let g':Gh:=⟨fun j=>if j=i then w.heap.size else g.blk j,fun j=>if j=i then(h i).ep+1 else g.ep j,g.bo,g.st,g.cp,g.fz⟩
 have hold:∀b,b<w.heap.size->(w.alloc ob).heap[b]?=w.heap[b]?:=fun b hb=>by show(w.heap.push ob)[b]?=_;rw[Gae,Gd3 (by omega)]
 have hnew:(w.alloc ob).heap[w.heap.size]?=some ob:=World.alloc_heap_new w ob;have hsz:(w.alloc ob).heap.size=w.heap.size+1:=by show(w.heap.push ob).size=_;simp
 have hle:GLe g w g' (w.alloc ob):=by
  refine⟨fun b hb=>⟨hb,hold b (H.fzb b hb)⟩,fun j=>?_,fun j hj=>?_⟩
  ·show g.ep j<=if j=i then(h i).ep+1 else g.ep j;split
   ·rename_i e;subst e;rw[H.ep j];omega
   ·exact Gcy _
  ·have:j≠i:=fun e=>by
    subst e;have hj':(if j=j then(h j).ep+1 else g.ep j)=g.ep j:=hj;rw[Gd4 rfl,H.ep j]at hj';omega
   exact⟨Gd3 this,rfl,rfl,rfl⟩
 have eb:g'.blk i=w.heap.size:=Gd4 rfl;refine⟨g',eb,HR.upd (g':=g') (w':=w.alloc ob) (i:=i) (o':=o) H hle (fun j hj=>Gd3 hj) ((Gd4 rfl:g'.ep i=_).trans hep.symm) (fun b hb _=>hold b hb) (by rw[hsz];omega) (hob g' _ hle (Gd4 rfl) (fun j hj=>Gd3 hj) eb hnew) (fun _=>.inr (by rw[eb];exact Gcy _)) (fun _ hf=>by have:=H.fzb _ (show g.fz (g'.blk i) from hf);rw[eb]at this;omega) (fun b hb=>.inl hb) (fun b hb=>by have:=H.fzb b hb;rw[hsz];omega) rfl rfl rfl⟩
def wza0(Q:Exit->ASt->Prop):Option Code->ASt->Prop
 |none,S=>Q .normal S
 |some .ret,S=>Q .ret S
 |some (.exit i),S=>Q (.exit i) S
 |_,_=>False
theorem AWp.rfunc{f:Operand}{f':AArg}{ps:Array Tmp}{a b:Code}{S:ASt}{Q:Exit->ASt->Prop}{fi:FuncId}{caps:List AVal}(D L:Nat)(hDL:D≠L)(hD:(S.h D).plain)(hL:(S.h L).plain)(hk:qzm f f'=true)(hf:argv E S.t f'=.fn fi 0 caps)(he:kzz P fi=true)
  (h:ATr E P fi (.yld L ((S.h L).ep+1) :: caps) (hset (hset S.h D (.dfr ((S.h D).ep+1))) L (.loop ((S.h L).ep+1) .ready none S.t ps a b D ((S.h D).ep+1)))
   (fun v h'=>∃st pd,st≠.busy/\h' L=.loop ((S.h L).ep+1) st pd S.t ps a b D ((S.h D).ep+1)/\h' D=.dfr ((S.h D).ep+1)/\(∀X∈S.ds,h' X.1=.dfr X.2) /\
    wza0 Q pd ⟨S.t,hset h' L (.gone ((S.h L).ep+1)),(D,(S.h D).ep+1) :: S.ds⟩)):AWp E none P (.rangeFunc f ps a b) Q S:=by
 intro g a0 w hs;have hnd:∀X∈S.ds,X.1≠D/\X.1≠L:=fun X hX=>⟨fun e=>by have:=hs.dk X hX;rw[e]at this;rw[this]at hD;exact hD,fun e=>by have:=hs.dk X hX;rw[e]at this;rw[this]at hL;exact hL⟩;have rx:=qzp hs.hr hs.tm hk;rw[hf]at rx;obtain⟨arr,hv,hcaps⟩:=wze2 rx;refine wpIn_rangeFunc fun fn _=>?_;obtain⟨g1,eb1,H1,st1⟩:=hs.hr.new (i:=D) (o:=.dfr ((S.h D).ep+1)) (ob:=.deferred (some [])) rfl (fun g' w' hle he1 he2 eb hh=>by show w'.heap[g'.blk D]?=_;rw[eb];exact hh);have hLep:(hset S.h D (.dfr ((S.h D).ep+1)) L)=S.h L:=by simp[hset,Ne.symm hDL]
 have tm1:=hs.tm.mono st1.le;have epD1:g1.ep D=(S.h D).ep+1:=by rw[H1.ep D];simp[hset,AObj.ep]
 obtain⟨g2,eb2,H2,st2⟩:=H1.new (i:=L) (o:=.loop ((S.h L).ep+1) .ready none S.t ps a b D ((S.h D).ep+1)) (ob:=.loop { state:=.ready,pending:=none,fn,tmps:=a0.tmps,params:=ps,assign:=a,body:=b,defers:=w.heap.size }) (by rw[hLep];rfl) (fun g' w' hle he1 he2 eb hh=>by refine⟨by rw[he2 D hDL,epD1];exact Gcy _,_,_,_,fun e=>?_,by rw[eb];exact hh,tm1.mono hle⟩;rw[(hle.same D (he2 D hDL)).1];exact eb1.symm);have hsz1:(w.alloc (.deferred (some []))).heap.size=w.heap.size+1:=by show(w.heap.push _).size=_;simp
 rw[hsz1]at eb2;have st12:=st1.trans st2;refine⟨_,_,_,{ target:=.fn (.func fi) arr,args:=#[.func (.yield (w.heap.size+1)) #[] #[]] },((w.alloc (.deferred (some []))).alloc (.loop { state:=.ready,pending:=none,fn,tmps:=a0.tmps,params:=ps,assign:=a,body:=b,defers:=w.heap.size })),fi,#[.func (.yield (w.heap.size+1)) #[] #[]]++arr,((w.alloc (.deferred (some []))).alloc (.loop { state:=.ready,pending:=none,fn,tmps:=a0.tmps,params:=ps,assign:=a,body:=b,defers:=w.heap.size })),run_enterLoop_outer fn a0.tmps ps a b,?_,fun f' _=>trivial,?_,fun hdep=>absurd hdep (qzor none),?_⟩
 ·simp only[resolve,rangeCall,Sem.run_bind,hv,Deferred.ofValue,Sem.run_pure,Array.empty_append];have em:(#[Operand.const (Value.func (Fn.yield (w.heap.size+1)) #[] #[])]:Array Operand).map a0.eval=#[.func (.yield (w.heap.size+1)) #[] #[]]:=by simp[Act.eval]
  rw[em]
 ·simp only[invoke];exact qzib he _ _
 rw[qzk2]
 have hargs:RVs g2 ((w.alloc (.deferred (some []))).alloc (.loop { state:=.ready,pending:=none,fn,tmps:=a0.tmps,params:=ps,assign:=a,body:=b,defers:=w.heap.size })) (.yld L ((S.h L).ep+1) :: caps) (.func (.yield (w.heap.size+1)) #[] #[] :: arr.toList):=by
  have e2:g2.ep L=(S.h L).ep+1:=by rw[H2.ep L];simp[hset,AObj.ep]
  exact .cons (.yld _ _ _ rfl (by rw[e2];exact Gcy _) (fun _=>by rw[eb2])) (hcaps.mono st12.le)
 have hc:=h g2 _ _ H2 hargs;have earr:(Value.func (.yield (w.heap.size+1)) #[] #[] :: arr.toList).toArray=#[.func (.yield (w.heap.size+1)) #[] #[]]++arr:=by apply Array.ext';simp
 rw[earr]at hc;refine hc.mono ?_;rintro e w3 ⟨g3,h3,r,v,⟨st,pd,hst,hl3,hd3,hX3,hQ⟩,rfl,hrv,H3,st3⟩;obtain⟨r3,hr3,q1,q2,q3,q4,q5,_,put3⟩:=H3.loopAt hl3;obtain⟨H4,st4⟩:=put3 .exhausted pd;have eb3:g3.blk L=w.heap.size+1:=by rw[<-eb2];exact qzm8 H2 H3 st3.le (by rw[hl3];simp[hset,AObj.ep])
 have er:({ r3 with state:=.exhausted,pending:=pd }:Loop)={ r3 with state:=.exhausted }:=by rw[<-q2]
 rw[er]at H4 st4;rw[eb3]at hr3 H4 st4;have hend:=run_endLoop (P:=P) hr3 (by rw[q1];exact hst)
 have hsub:∀i,OSub (hset h3 L (.loop ((S.h L).ep+1) .exhausted pd S.t ps a b D ((S.h D).ep+1)) i) (hset h3 L (.gone ((S.h L).ep+1)) i):=fun i=>by
  by_cases e:i=L
  ·subst e;simp only[hset,Gd5];exact .inl rfl
  ·simp only[hset,e,Gd2];exact .refl _
 have H5:=H4.sub hsub;have st5:Stp g S.h w g3 (hset h3 L (.gone ((S.h L).ep+1))) (w3.putObj (w.heap.size+1) (.loop { r3 with state:=.exhausted })):=(st12.trans (st3.trans st4)).sub hsub;have ebD:g3.blk D=w.heap.size:=by have:g3.blk D=g1.blk D:=qzm8 H1 H3 (st2.le.trans st3.le) (by rw[hd3];simp[hset,AObj.ep]);rw[this,eb1]
 have hs5:SR E g3 ⟨S.t,hset h3 L (.gone ((S.h L).ep+1)),(D,(S.h D).ep+1) :: S.ds⟩ { a0 with defers:=[{ target:=.collected w.heap.size,args:=#[] }]++a0.defers } (w3.putObj (w.heap.size+1) (.loop { r3 with state:=.exhausted })):=by
  refine⟨H5,hs.tm.mono st5.le,?_,?_,?_⟩
  ·rw[<-ebD,hs.df];show _ :: _=_ :: _;congr 1;refine Gb0 fun X hX=>?_;rw[qzm8 hs.hr H3 (st12.trans st3).le (by rw[hX3 X hX,hs.dk X hX])]
  ·intro X hX;rcases Gb3.1 hX with rfl|hX
   ·show(if D=L then _ else h3 D)=_;rw[Gd3 hDL];exact hd3
   ·show(if X.1=L then _ else h3 X.1)=_;rw[Gd3 (hnd X hX).2];exact hX3 X hX
  ·show(D :: S.ds.map (·.1)).Nodup;refine List.nodup_cons.2 ⟨fun hm=>?_,hs.dn⟩;obtain⟨X,hX,e⟩:=Gb7.1 hm;exact(hnd X hX).1 e
 have hend':(Instr.endLoop (w.heap.size+1)).run P w3=.ok pd (w3.putObj (w.heap.size+1) (.loop { r3 with state:=.exhausted })):=by rw[hend];congr 1
 refine⟨pd,_,hend',?_⟩;cases pd with
 |none=>exact⟨g3,_,hQ,hs5,st5⟩
 |some c =>
  cases c with
  |ret=>exact wpIn_ret ⟨g3,_,hQ,hs5,st5⟩
  |exit i=>exact wpIn_exit ⟨g3,_,hQ,hs5,st5⟩
  |_=>exact hQ.elim
end
end Go.Am

