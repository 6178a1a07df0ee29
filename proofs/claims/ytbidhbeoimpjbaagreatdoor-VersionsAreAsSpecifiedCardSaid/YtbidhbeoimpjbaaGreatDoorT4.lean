/- Part T4: a typed interpreter of abstract code, proved sound over the machine. No condition. -/
import Derived.Test.YtbidhbeoimpjbaaGreatDoorT3
import Derived.Test.YtbidhbeoimpjbaaGreatDoorA6
set_option linter.unusedSimpArgs false
set_option linter.unusedVariables false
namespace Go.Am
theorem wztn{O ω:Type}{body:O->Option (O⊕ω)}{N:Nat}{s:O}{o:ω}(h:lpN body (N+1) s=some o):(∃s',body s=some (.inl s')/\lpN body N s'=some o)\/body s=some (.inr o):=by
 unfold lpN at h;split at h
 ·rename_i s' hb;exact .inl ⟨s',hb,h⟩
 ·rename_i o' hb;cases h;exact .inr hb
 ·cases h
section
variable {E:Nat->Aa}{P:Program}
theorem ATr.rw{f:FuncId}{args:List Aa}{h:Ax}{r:Aa}(H:ATr E P f args h (fun v _=>W v r)):ATr E P f args h (fun v _=>v=r) :=
 fun g w vs hh hv=>(H g w vs hh hv).mono fun _ _ ⟨g',h',v,u,q,e,rv,rest⟩=>⟨g',h',r,u,rfl,e,rv.w q,rest⟩
theorem XE{S:Au}{rs:List ARes}{l:List Aa}(h:rs.map (ARes.val S)=l):F7 S rs=match (generalizing:=false) l with | [x]=>x | l=>.tup l:=by
 subst h
 match rs with
 |[]=>rfl
 |[r]=>rfl
 |r :: s :: rs=>rfl
end
section
variable [Tab]
section
variable {ρ:Option Nat}{B:Phi}{T:An}
theorem Z9[TabOk]{c:AR}{α:Type}{J:Option (List OutH)}{inner:(U:Type)->An->(Exit->An->Option U)->Option U}{K:Exit->An->Option α}{r:α}(h:Ty J T inner K=some r)(hI:InvT B T)(hg:T.gs=[])(hρ:T.rf<50->ρ=none)(k:∀{U:Type} {T:An} {K:Exit->An->Option U} {r:U},inner U T K=some r->InvT B T->T.gs=[]->(T.rf<50->ρ=none)->AW TabT.E ρ TabT.P c (FinT K r B T) (em B T)):AW TabT.E ρ TabT.P c (FinT K r B T) (em B T):=by
 cases J with
 |none=>exact k h hI hg hρ
 |some l =>obtain⟨y,h1,h2⟩:=EM (show bd (inner (OutT l) (cl0 T) (injT T l)) (aftT T K l)=some r from h);refine(k (T:=cl0 T) h1 (Pi hI hg) rfl hρ).mono ?_;rintro e S ⟨B1,T1,k1,k2,k3,k4,k5⟩;obtain⟨H,q,q1,_,q2⟩:=HS k1;obtain⟨B',j1,j2,j3⟩:=Pg hI k3 k2 q1;exact⟨B',_,by rw[<-q2 T K];exact h2,j1,j2,rfl,k5.trans j3⟩
theorem E9{T1:An}{ob:List (Nat×OH)}:∀{sl:List (Nat×SH)},chS T T1 ob sl=true->chS (cl0 T) T1 ob sl=true
 |[],_=>rfl
 |(i,.k) :: sl,h=>by have h:Ab (memN i T1.w) false (Ab (kpP T T1 (Ah T.t i)) (chS T T1 ob sl) false)=true:=h;obtain⟨p1,h⟩:=CM h;obtain⟨p2,h⟩:=At h;show Ab (memN i T1.w) false (Ab (kpP (cl0 T) T1 (Ah T.t i)) (chS (cl0 T) T1 ob sl) false)=true;rw[p1,show kpP (cl0 T) T1 (Ah T.t i)=kpP T T1 (Ah T.t i) from rfl,p2,E9 h];rfl
 |(i,.v c) :: sl,h=>E9 (sl:=sl) h
 |(i,.c a) :: sl,h=>by
  simp only[chS]at h |-;split at h
  ·obtain⟨p1,h⟩:=At h;rw[p1,E9 h];rfl
  ·cases h
 |(i,.owk id) :: sl,h=>by
  have h:Ab (memN i T1.w) false (match Ah T1.t i with
   |.v (.own id' st)=>Ab (Bv id ob) (Ab (Nat.beq id' id) (Ab (curW T1 id st) (chS T T1 ob sl) false) false) false
   | _=>false)=true:=h
  obtain⟨p0,h⟩:=CM h
  show Ab (memN i T1.w) false (match Ah T1.t i with
   |.v (.own id' st)=>Ab (Bv id ob) (Ab (Nat.beq id' id) (Ab (curW T1 id st) (chS (cl0 T) T1 ob sl) false) false) false
   | _=>false)=true
  rw[p0]
  show(match Ah T1.t i with
   |.v (.own id' st)=>Ab (Bv id ob) (Ab (Nat.beq id' id) (Ab (curW T1 id st) (chS (cl0 T) T1 ob sl) false) false) false
   | _=>false)=true
  split at h
  ·obtain⟨p1,h⟩:=At h;obtain⟨p2,h⟩:=At h;obtain⟨p3,h⟩:=At h;simp only[p1,p2,p3,E9 h];rfl
  ·cases h
 |(i,.own id) :: sl,h=>by
  simp only[chS]at h |-;split at h
  ·obtain⟨p1,h⟩:=At h;obtain⟨p2,h⟩:=At h;obtain⟨p3,h⟩:=At h;rw[p1,p2,p3,E9 h];rfl
  ·split at h;·obtain⟨p1,h⟩:=At h;rw[p1,E9 h];rfl
   ·obtain⟨p1,h⟩:=At h;rw[p1,E9 h];rfl
   ·cases h
  ·cases h
 |(i,.vec id) :: sl,h=>by
  simp only[chS]at h |-;split at h
  ·obtain⟨p1,h⟩:=At h;obtain⟨p2,h⟩:=At h;obtain⟨p3,h⟩:=At h;rw[p1,p2,p3,E9 h];rfl
  ·cases h
 |(i,.ptr id off) :: sl,h=>by
  simp only[chS]at h |-;split at h
  ·obtain⟨p1,h⟩:=At h;obtain⟨p2,h⟩:=At h;obtain⟨p3,h⟩:=At h;rw[p1,p2,p3,E9 h];rfl
  ·cases h
 |(i,.mp id) :: sl,h=>by
  simp only[chS]at h |-;split at h
  ·obtain⟨p1,h⟩:=At h;obtain⟨p2,h⟩:=At h;rw[p1,p2,E9 h];rfl
  ·cases h
theorem Ds{T1:An}{oA:List (Nat×OH)}:∀{ob:List (Nat×OH)},chO T T1 oA ob=true->chO (cl0 T) T1 oA ob=true
 |(i,.out _ _) :: ob,h=>Ds (ob:=ob) h
 |[],_=>rfl
 |(i,.k) :: ob,h=>by have h:Ab (memN i T1.wo) false (chO T T1 oA ob)=true:=h;obtain⟨p1,h⟩:=CM h;show Ab (memN i T1.wo) false (chO (cl0 T) T1 oA ob)=true;rw[p1,Ds h];rfl
 |(i,.gone) :: ob,h=>Ds (ob:=ob) h
 |(i,.box _) :: ob,h=>Ds (ob:=ob) h
 |(i,.own _) :: ob,h=>Ds (ob:=ob) h
 |(i,.vec _) :: ob,h=>Ds (ob:=ob) h
 |(i,.map _ _) :: ob,h=>Ds (ob:=ob) h
 |(i,.rmp id) :: ob,h=>by
  simp only[chO]at h |-;split at h
  ·obtain⟨p2,h⟩:=At h;obtain⟨p3,h⟩:=At h;rw[p2,p3,Ds h];rfl
  ·cases h
 |(i,.rvec id) :: ob,h=>by
  simp only[chO]at h |-;split at h
  ·obtain⟨p1,h⟩:=At h;obtain⟨p2,h⟩:=At h;obtain⟨p3,h⟩:=At h;rw[p1,p2,p3,Ds h];rfl
  ·cases h
 |(i,.rag _ _ _) :: ob,h=>by
  simp only[chO]at h |-;split at h
  ·obtain⟨p1,h⟩:=At h;obtain⟨p2,h⟩:=At h;obtain⟨p3,h⟩:=At h;obtain⟨p4,h⟩:=At h;rw[p1,p2,p3,p4,Ds h];rfl
  ·cases h
 |(i,.rown id) :: ob,h=>by
  simp only[chO]at h |-;split at h
  ·obtain⟨p1,h⟩:=At h;obtain⟨p2,h⟩:=At h;obtain⟨p3,h⟩:=At h;rw[p1,p2,p3,Ds h];rfl
  ·split at h;·obtain⟨p1,h⟩:=At h;rw[p1,Ds h];rfl
   ·obtain⟨p1,h⟩:=At h;rw[p1,Ds h];rfl
   ·cases h
  ·cases h
theorem ZA{T1:An}{H:OutH}{r:Row H.cts}(h:arrT T T1 H=some r):arrT (cl0 T) T1 H=some r:=by
 unfold arrT at h |-;split at h
 ·rename_i a b ha hb;replace h:=Al h;obtain⟨p1,h⟩:=h;replace h:=Al h;obtain⟨p2,h⟩:=h;simp only[ha,hb,E9 p1,Ds p2,G6];exact h
 ·cases h
theorem wzvn{rs:List ARes}(hI:InvT B T)(hg:T.gs=[]):∃B',InvT B' (frzR rs T)/\Log B T B' (frzR rs T)/\(frzR rs T).gs=[]/\See TabT.E (em B T) (em B' (frzR rs T)):=by obtain⟨B',h1,h2,h3,h4⟩:=HO (DG T false true (rs.map fun r=>match r with | .t n=>.t n | .c n _ _=>.t n)++refI T rs) hI;exact⟨B',h1,h2,h3.trans hg,h4⟩
theorem ZB{H:List Fe}:∀(ys:List Nat) (ops:List Av),(splY H T ys ops).1++(splY H T ys ops).2=ops
 |_,[]=>rfl
 |ys,o :: r=>by
  have ih:=ZB (H:=H) (mvY T ys o) r;show(Ab (Ab (isYs T ys o) true (isW H o)) ([],o :: r) (match splY H T (mvY T ys o) r with | (a,b)=>(o :: a,b))).1++(Ab (Ab (isYs T ys o) true (isW H o)) ([],o :: r) (match splY H T (mvY T ys o) r with | (a,b)=>(o :: a,b))).2=o :: r;cases Ab (isYs T ys o) true (isW H o)
  ·rw[S7];exact F5 (o :: ·) ih
  ·rfl
theorem ZC:∀{ps:List Tmp} {vs:List SV} {T:An},T.gs=[]->(putP T ps vs).gs=[]
 |[],[],T,h=>h
 |[],_ :: _,T,h=>h
 |p :: ps,[],T,h=>h
 |p :: ps,v :: vs,T,h=>ZC (ps:=ps) (vs:=vs) (T:=⟨(p,.v (.s v)) :: T.t,T.h,T.nx,T.n,T.gs,p :: T.w,T.wo,T.b,T.rf⟩) h
theorem jzgq[TabOk]{H:List Fe}{f:Ad}{z:(i:Nat)×SqV i}(hI:InvT B T)(h:sqOf H T f=some z):Ag TabT.E (em B T).t f=.fn z.2.f 0 z.2.caps:=by
 unfold sqOf at h;split at h
 ·rename_i i x hx;cases h;exact((CV hI).a _ _ hx).1
 ·rename_i g caps hx;split at h
  ·rename_i C hC;cases h;rw[((CV hI).a _ _ hx).1];show Aa.fn g 0 (Aq caps)=.fn C.f 0 (Aq caps);rw[Ez hC]
  ·cases h
 ·cases h
theorem kzbc{h:HT}{B:Phi}{T:An}(hI:InvT B T):∃B',InvT B' (fzH h T)/\Log B T B' (fzH h T)/\(fzH h T).gs=T.gs/\See TabT.E (em B T) (em B' (fzH h T)):=by
 cases h with
 |f fz=>exact HO fz hI
 |_=>exact⟨B,hI,.refl _ _,rfl,.refl _⟩
theorem CJ[TabOk]{H:List Fe}{ty:List (Nat×CT)}{rs:List ARes}:∀{c:AR} {α:Type} {h:HT} {T:An} {K:Exit->An->Option α} {r:α} {B:Phi} {ρ:Option Nat},AV H ty rs c α h T K=some r->InvT B T->T.gs=[]->(T.rf<50->ρ=none)->AW TabT.E ρ TabT.P c (FinT K r B T) (em B T)
 |.skip,α,h,T,K,r,B,ρ,hc,hI,hg,hρ=>.skip ⟨B,T,hc,hI,.refl _ _,hg,.refl _⟩
 |.reg false ops pr,α,h,T0,K,r,B0,ρ,hc,da,gJ,hρ=>by have hc:regT H ty ops (fzH h T0) (K .normal)=some r:=hc;obtain⟨B,hI,l0,g0,s0⟩:=kzbc (h:=h) da;refine .see s0 (AW.mono ?_ fun e S q=>FinT.step l0 q);exact .sreg (OZ (ops:=ops) hc hI (.of hI (g0.trans gJ))).sreg
 |.reg true ops pr,α,h,T0,K,r,B0,ρ,hc,da,gJ,hρ=>by
  have hc:(fun T=>match splY H T [] ops with
   |(_,[])=>CU H ty ops none T fun T' tr=>Ab (Dm ops pr tr) (K .normal (endT T')) none
   | (a,b)=>Ab (I0 pr a.length ops.length) (CU H ty a none T fun T' tr=>Ab (Dm a pr tr) (regT H ty b (endT T') (K .normal)) none) none) (frzA T0 (drwF T0 [] ops))=some r:=hc
  obtain⟨B,hI,l0,g0,s0⟩:=HO (drwF T0 [] ops) da;generalize frzA T0 (drwF T0 [] ops)=T at *;have hg:T.gs=[]:=g0.trans gJ;refine .see s0 (AW.mono (Q:=fun e S=>∃B' T',K e T'=some r/\InvT B' T'/\Log B T B' T'/\T'.gs=[]/\See TabT.E S (em B' T')) ?_ ?_);rotate_left
  ·rintro e S ⟨B',T',k1,k2,k3,k4,k5⟩;exact⟨B',T',k1,k2,l0.trans k3,k4,k5⟩
  have hc:(match splY H T [] ops with
   |(_,[])=>CU H ty ops none T fun T' tr=>Ab (Dm ops pr tr) (K .normal (endT T')) none
   | (a,b)=>Ab (I0 pr a.length ops.length) (CU H ty a none T fun T' tr=>Ab (Dm a pr tr) (regT H ty b (endT T') (K .normal)) none) none)=some r:=hc
  split at hc
  ·obtain⟨B',T',tr,k1,k2,k3,k4⟩:=TJ hc hI (fun _ _ _ e=>by cases e);obtain⟨p,k1⟩:=Al k1;obtain⟨e1,e2,e3,e4⟩:=TI k2 ((CW.of hI hg).log k3);exact .drawC (k4 _ ⟨p,B',_,k1,e1,k3.trans e2,e3,e4⟩)
  ·rename_i a b _ hs;obtain⟨hb,hc⟩:=Al hc;obtain⟨B',T',tr,k1,k2,k3,k4⟩:=TJ hc hI (fun _ _ _ e=>by cases e);obtain⟨p,k1⟩:=Al k1;obtain⟨e1,e2,e3,e4⟩:=TI k2 ((CW.of hI hg).log k3);have eo:a++b=ops:=by have:=ZB (T:=T) (H:=H) [] ops;rw[hs]at this;exact this
   rw[<-eo]at hb |-;refine .drawB hb (k4 _ ⟨p,?_⟩);refine .see e4 ((OZ k1 e1 (.of e1 e3)).mono ?_);rintro S ⟨B2,T2,j1,j2,j3,j4,j5⟩;exact⟨B2,T2,j1,j2,(k3.trans e2).trans j3,j4,j5⟩
 |.seq a b,α,h,T,K,r,B,ρ,hc,hI,hg,hρ=>by
  refine .seq ((CJ (c:=a) hc hI hg hρ).mono ?_);rintro e S ⟨B1,T1,k1,k2,k3,k4,k5⟩;cases e with
  |normal=>exact .see k5 ((CJ (c:=b) k1 k2 k4 fun e=>hρ (Up k3.fr.le e)).mono fun e S' q=>q.step k3)
  |_=>exact⟨B1,T1,k1,k2,k3,k4,k5⟩
 |.cond c a b,α,h,T,K,r,B,ρ,hc,hI,hg,hρ=>by
  refine Z9 hc hI hg hρ ?_;intro U T K r hi hI hg hρ;split at hi
  ·rename_i x hx;have hc:Ag TabT.E (em B T).t c=.bool x:=((CV hI).a _ _ hx).1;cases x with
   |false =>have bC:∃h',AV H ty rs b U h' T K=some r:=(by cases c<;>exact⟨_,hi⟩);obtain⟨h',bC⟩:=bC;exact .cond hc (fun e=>by cases e) (fun _=>CJ (c:=b) bC hI hg hρ)
   |true =>have bC:∃h',AV H ty rs a U h' T K=some r:=(by cases c<;>exact⟨_,hi⟩);obtain⟨h',bC⟩:=bC;exact .cond hc (fun _=>CJ (c:=a) bC hI hg hρ) (fun e=>by cases e)
  ·cases hi
 |.ret,α,h,T,K,r,B,ρ,hc,hI,hg,hρ=>by obtain⟨B',h1,h2,h3,h4⟩:=wzvn (rs:=rs) hI hg;exact .ret ⟨B',_,hc,h1,h2,h3,h4⟩
 |.exit i,α,h,T,K,r,B,ρ,hc,hI,hg,hρ=>.exit ⟨B,T,hc,hI,.refl _ _,hg,.refl _⟩
 |.scope c,α,h,T,K,r,B,ρ,hc,hI,hg,hρ=>by
  refine .scope ((CJ (c:=c) hc hI hg hρ).mono ?_);rintro e S ⟨B1,T1,k1,k2,k3,k4,k5⟩;cases e with
  |goto l=>cases k1
  |_=>exact⟨B1,T1,k1,k2,k3,k4,k5⟩
 |.label l,α,h,T,K,r,B,ρ,hc,hI,hg,hρ=>.label ⟨B,T,hc,hI,.refl _ _,hg,.refl _⟩
 |.any,α,h,T,K,r,B,ρ,hc,hI,hg,hρ=>by cases hc
 |.block i c,α,h,T,K,r,B,ρ,hc,hI,hg,hρ=>by
  refine Z9 hc hI hg hρ ?_;intro U T K r hi hI hg hρ;refine .block ((CJ (c:=c) hi hI hg hρ).mono ?_);rintro e S ⟨B1,T1,k1,k2,k3,k4,k5⟩;cases e with
  |exit j =>
   have k1:Ab (Nat.beq j i) (K .normal T1) (K (.exit j) T1)=some r:=k1;show if j=i then _ else _;cases hj:Nat.beq j i<;>rw[hj]at k1
   ·rw[Aj (BG.1 hj)];exact⟨B1,T1,k1,k2,k3,k4,k5⟩
   ·rw[Ap (Ao.1 hj)];exact⟨B1,T1,k1,k2,k3,k4,k5⟩
  |_=>exact⟨B1,T1,k1,k2,k3,k4,k5⟩
 |.loop c,α,.l fz hd J h,T0,K,r,B0,ρ,hc,da,gJ,hρ=>by
  obtain⟨B,hI,jP,hg,cw⟩:=HO fz da;have hg:=hg.trans gJ
  have hc:(fun T=>match arrT T (cl0 T) hd with
   | some r0=>bd (lp (fun r=>AV H ty rs c (Row hd.cts⊕OutT J) h (rebT (cl0 T) hd r) fun e T'=>match e with
    |.normal=>match arrT T T' hd with
     |some r=>some (.inl r)
     |none=>none
    |e=>match injT T J e T' with
     |some r=>some (.inr r)
     | none=>none) r0) (aftT T K J)
   | none=>none) (frzA T0 fz)=some r:=hc
  refine .see cw (AW.mono ?_ fun e S q=>FinT.step jP q);replace hρ:(frzA T0 fz).rf<50->ρ=none:=fun e=>hρ (Up jP.fr.le e);generalize frzA T0 fz=T at *
  have hc:(match arrT T (cl0 T) hd with
   | some r0=>bd (lp (fun r=>AV H ty rs c (Row hd.cts⊕OutT J) h (rebT (cl0 T) hd r) fun e T'=>match e with
    |.normal=>match arrT T T' hd with
     |some r=>some (.inl r)
     |none=>none
    |e=>match injT T J e T' with
     |some r=>some (.inr r)
     | none=>none) r0) (aftT T K J)
   | none=>none)=some r:=hc
  split at hc
  ·rename_i r0 iV;obtain⟨o,h1,h2⟩:=EM hc;rw[Ki]at h1;have mc:=Pi hI hg;obtain⟨B1,j1,j2,j3⟩:=Pg mc (.refl _ _) mc (ZA iV)
   refine .loop (fun x:Nat×Row hd.cts×Phi=>em x.2.2 (rebT (cl0 T) hd x.2.1)) (fun x=>x.1) (fun x=>lpN (fun r=>AV H ty rs c (Row hd.cts⊕OutT J) h (rebT (cl0 T) hd r) fun e T'=>match e with
    |.normal=>match arrT T T' hd with
     |some r=>some (.inl r)
     |none=>none
    |e=>match injT T J e T' with
     |some r=>some (.inr r)
     | none=>none) x.1 x.2.1=some o/\InvT x.2.2 (rebT (cl0 T) hd x.2.1)/\Log B (cl0 T) x.2.2 (rebT (cl0 T) hd x.2.1)) (4611686018427387904,r0,B1) ⟨h1,j1,j2⟩ j3 ?_
   rintro⟨N,q,Bx⟩ ⟨hN,nl,nm⟩;cases N with
   |zero=>cases hN
   |succ N =>
    rcases wztn hN with ⟨s',hb,hN⟩|hb
    ·refine(CJ (c:=c) hb nl rfl hρ).mono ?_;rintro e S ⟨B2,T2,k1,k2,k3,k4,k5⟩;cases e with
     |normal =>
      have k1:(match arrT T T2 hd with | some r=>some (Sum.inl r) | none=>none)=some (.inl s'):=k1;split at k1
      ·rename_i r' eE;cases k1;obtain⟨B3,l1,l2,l3⟩:=Pg mc (nm.trans k3) k2 (ZA eE);exact⟨(N,s',B3),⟨hN,l1,l2⟩,Ci _,k5.trans l3⟩
      ·cases k1
     |_ =>exfalso;revert k1;show(match injT T J _ T2 with | some r=>some (Sum.inr r) | none=>none)=some (.inl s')->False;split<;>(intro k;cases k)
    ·refine(CJ (c:=c) hb nl rfl hρ).mono ?_;rintro e S ⟨B2,T2,k1,k2,k3,k4,k5⟩
     have fin:(match injT T J e T2 with | some r=>some (Sum.inr r) | none=>none)=some (Sum.inr (α:=Row hd.cts) o)->FinT K r B T e S:=by
      intro k1;split at k1
      ·rename_i q1 mA;cases k1;obtain⟨H1,r1,p1,_,p2⟩:=HS mA;obtain⟨B3,l1,l2,l3⟩:=Pg hI (nm.trans k3) k2 p1;exact⟨B3,_,by rw[<-p2 T K];exact h2,l1,l2,rfl,k5.trans l3⟩
      ·cases k1
     cases e with
     |normal =>exfalso;revert k1;show(match arrT T T2 hd with | some r=>some (Sum.inl r) | none=>none)=some (.inr o)->False;split<;>(intro k;cases k)
     |_=>exact fin k1
  ·cases hc
 |.loop c,α,.n,T,K,r,B,ρ,hc,hI,hg,hρ=>by cases hc
 |.loop c,α,.s _ _,T,K,r,B,ρ,hc,hI,hg,hρ=>by cases hc
 |.loop c,α,.c _ _ _,T,K,r,B,ρ,hc,hI,hg,hρ=>by cases hc
 |.loop c,α,.b _ _,T,K,r,B,ρ,hc,hI,hg,hρ=>by cases hc
 |.loop c,α,.r _ _ _ _ _,T,K,r,B,ρ,hc,hI,hg,hρ=>by cases hc
 |.rfunc f ps a b,α,.r fz hd J ha hb,T0,K,r,B0,ρ,hc,da,gJ,hρ=>by
  obtain⟨B,hI,jP,hg,cw⟩:=HO fz da;have hg:=hg.trans gJ;refine .see cw (AW.mono ?_ fun e S q=>FinT.step jP q);replace hρ:(frzA T0 fz).rf<50->ρ=none:=fun e=>hρ (Up jP.fr.le e);unfold AV at hc;generalize frzA T0 fz=T at *;have hc:=hc;simp only[]at hc;split at hc
  ·rename_i z hz;split at hc
   ·rename_i r0 iV;obtain⟨h1,hc⟩:=Al hc;obtain⟨h2,hc⟩:=Al hc;obtain⟨h3,hc⟩:=Al hc;obtain⟨h4,hc⟩:=Al hc;have h2:T.rf<50:=by simpa [GV] using h2
    obtain rfl:=hρ h2;refine jzd8 hI hg (jzgq hI hz) iV (Ao.1 h1) h2 (Ao.1 h3) h4 hc ?_;intro ρ' x r1 o ho B1 i1;have mb:=TQ (ps:=ps) (vs:=rowW (Tab.fa z.1) (cast (Tab.eA z.1).symm x)) (T:=strT (rebT (rnd T) hd r1));have fF:(putP (strT (rebT (rnd T) hd r1)) ps (rowW (Tab.fa z.1) (cast (Tab.eA z.1).symm x))).gs=[]:=ZC rfl;have fo:(putP (strT (rebT (rnd T) hd r1)) ps (rowW (Tab.fa z.1) (cast (Tab.eA z.1).symm x))).rf=T.rf+50:=mb.2.2.2.2.2;refine(CJ (c:=a) ho i1 fF (fun e=>by omega)).mono ?_;rintro e S ⟨B2,T2,k1,k2,k3,k4,k5⟩;cases e with
    |normal =>
     have k1:AV H ty rs b (Row hd.cts⊕OutT J) hb T2 (fun e T'=>match e with
       |.normal=>match arrT (rnd T) (rstT (rndW T hd) T') hd with
        |some r=>some (.inl r)
        |none=>none
       |e=>match injT (rnd T) J e (rstT (rndW T hd) T') with
        |some r=>some (.inr r)
        | none=>none)=some o:=k1
     refine⟨B2,T2,rfl,k2,k3,k4,k5,fun B3 i3=>?_⟩;have eK:50<=T2.rf:=by have:=k3.fr.le;omega
     refine(CJ (c:=b) k1 i3 k4 (fun e=>by omega)).mono ?_;rintro e S2 ⟨B4,T4,j1,j2,j3,j4,j5⟩;refine⟨B4,T4,?_,j2,j3,j4,j5⟩;cases e with
     |normal =>
      have j1:(match arrT (rnd T) (rstT (rndW T hd) T4) hd with | some r=>some (Sum.inl r) | none=>none)=some o:=j1;split at j1
      ·rename_i r' eE;cases j1;exact⟨r',eE,rfl⟩
      ·cases j1
     |_ =>
      revert j1;show(match injT (rnd T) J _ (rstT (rndW T hd) T4) with | some r=>some (Sum.inr r) | none=>none)=some o->_;split
      ·rename_i q hq;intro j1;cases j1;exact⟨q,hq,rfl⟩
      ·intro j1;cases j1
    |_=>cases k1
   ·cases hc
  ·cases hc
 |.rfunc _ _ _ _,α,.n,T,K,r,B,ρ,hc,hI,hg,hρ=>by cases hc
 |.rfunc _ _ _ _,α,.s _ _,T,K,r,B,ρ,hc,hI,hg,hρ=>by cases hc
 |.rfunc _ _ _ _,α,.c _ _ _,T,K,r,B,ρ,hc,hI,hg,hρ=>by cases hc
 |.rfunc _ _ _ _,α,.b _ _,T,K,r,B,ρ,hc,hI,hg,hρ=>by cases hc
 |.rfunc _ _ _ _,α,.l _ _ _ _,T,K,r,B,ρ,hc,hI,hg,hρ=>by cases hc
theorem NY(hI:InvT B T):∀{rs:List ARes} {l:List SV},resS T rs=some l->EJ (em B T) rs/\rs.map (ARes.val (em B T))=Aq l
 |[],l,h=>by cases h;exact⟨trivial,rfl⟩
 |.t n :: rs,l,h=>by
  simp only[resS]at h;split at h
  ·rename_i v r h1 h2;cases h;obtain⟨k1,k2⟩:=NY hI h2;refine⟨⟨trivial,k1⟩,?_⟩;show(em B T).t.getD n .top :: rs.map (ARes.val (em B T))=A0 v :: Aq r;rw[Fs hI,h1,k2];rfl
  ·cases h
 |.c n agg sz :: rs,l,h=>by
  simp only[resS]at h;split at h
  ·rename_i id st r h1 h2;split at h
   ·rename_i st' cs ho;replace h:=Al h;obtain⟨p1,h⟩:=h;replace h:=Al h;obtain⟨p2,h⟩:=h;replace h:=Al h;obtain⟨p3,h⟩:=h;obtain rfl:=Ao.1 p1;have p2:=Ao.1 p2;cases h;obtain⟨k1,k2⟩:=NY hI h2;have e1:(em B T).t.getD n .top=.ptr id (B id st).ep 0:=by rw[Fs hI,h1];rfl
    have e2:(em B T).h id=.box (B id st).ep (Aq cs):=DX ho;have e3:C0 agg sz ((em B T).t.getD n .top) (em B T).h=⟨(B id st).ep=(B id st).ep/\0+sz<=(Aq cs).length/\(agg=false->sz=1),[id],ldv agg sz (Aq cs) 0,none⟩:=(by simp only[C0,e1,e2]);refine⟨⟨?_,k1⟩,?_⟩
    ·show(C0 agg sz ((em B T).t.getD n .top) (em B T).h).ok;rw[e3];exact⟨rfl,by rw[AK];omega,Jo p3⟩
    ·show(C0 agg sz ((em B T).t.getD n .top) (em B T).h).v :: rs.map (ARes.val (em B T))=A0 (ldS agg sz cs 0) :: Aq r;rw[e3,k2,GB]
   ·cases h
  ·cases h
theorem ZD:∀(c:CT) (l:List CT) (r:RowC c.T l),HF c l [] r=G5 c l r
 |c,[],r=>rfl
 |c,d :: l,r=>by show _ :: HF d l [] r.2=_ :: G5 d l r.2;rw[ZD d l];rfl
theorem jzev:∀(l:List CT) (r:Row l),prmS l [] r=rowW l r
 |[],r=>rfl
 |c :: l,r=>ZD c l r
theorem wzvt[TabOk]{H:List Fe}{cs:List CT}{l:List SV}{y:Row cs}(h:DD H cs [] l=some y):W (match Aq l with | [x]=>x | l=>.tup l) (A0 (retT cs y)):=by
 have hw:Ws (Aq l) (Aq (rowW cs y)):=by have:=Fh h;rw[jzev]at this;exact this
 match cs,y,hw with
 |[],y,hw =>
  cases l with
  |nil=>exact .refl _
  |cons x l=>exact hw.elim
 |[c],y,hw =>
  match l,hw with
  |[],hw=>exact hw.elim
  |[x],hw=>exact hw.1
  |x :: x' :: l,hw=>exact hw.2.elim
 |c :: d :: cs,y,hw =>
  match l,hw with
  |[],hw=>exact hw.elim
  |[x],hw=>exact(show Ws [] (Aq (G5 d cs y.2)) from hw.2) |> fun h=>by cases cs<;>exact h.elim
  |x :: x' :: l,hw=>exact I3.2 hw
theorem Pl:∀(l:List SV) (i:Nat),eTm B (zipS i l)=zipA i (Aq l)
 |[],i=>rfl
 |x :: l,i=>by show(i,A0 x) :: eTm B (zipS (i+1) l)=(i,A0 x) :: zipA (i+1) (Aq l);rw[Pl l]
theorem Pm:∀(l:List SV) (i j:Nat),∃v,Ah (zipS i l) j=.v (.s v)
 |[],i,j=>⟨.top,rfl⟩
 |x :: l,i,j=>by
  show ∃v,Ah ((i,.v (.s x)) :: zipS (i+1) l) j=.v (.s v);rw[A9];split
  ·exact⟨x,rfl⟩
  ·exact Pm l (i+1) j
theorem Pn:∀(l:List SV) (i j:Nat),i+l.length<=j->Ah (zipS i l) j=.v (.s .top)
 |[],i,j,_=>rfl
 |x :: l,i,j,h=>by have h:i+(l.length+1)<=j:=h;show Ah ((i,.v (.s x)) :: zipS (i+1) l) j=_;rw[A9,Aj (by simp only;omega)];exact Pn l (i+1) j (by omega)
theorem ZE(c:CT):∀(l:List CT) (p:List Bool) (r:RowC c.T l),(HF c l p r).length=l.length+1
 |[],p,r=>rfl
 |d :: l,p,r=>by show _+1=_;rw[ZE d l p.tail r.2];rfl
theorem G0:∀(l:List CT) (p:List Bool) (r:Row l),(prmS l p r).length=l.length
 |[],p,r=>rfl
 |c :: l,p,r=>ZE c l p r
def BZ:Phi:=⟨fun _ _=>⟨0,0,fun _=>[]⟩,h0,[],⟨0,0,fun _ _=>none,fun _ _ _=>False,fun _ _ _=>False⟩⟩
theorem XD{n:Nat}{a:List CT}{p:List Bool}{x:Row a}(hl:a.length<=n):InvT BZ (iniT n a p x):=by
 have aD:(prmS a p x).length=a.length:=G0 _ _ _;refine⟨fun i=>?_,fun i hi=>?_,fun id st o ho=>(by cases ho),⟨fun id p ho=>(by cases ho),fun i _=>⟨0,rfl⟩,fun i _ _=>⟨0,rfl⟩,fun D hD=>(by cases hD),fun _ _ i _ _=>⟨0,rfl⟩,fun i=>⟨fun _ _ _ _ h=>h,fun _ _ _ _ h=>h,fun _ _ _ _ h=>h.elim⟩,fun _ _ _ _ h=>(by cases h)⟩⟩
 ·obtain⟨v,hv⟩:=Pm (prmS a p x) 0 i;show TOk _ _ (Ah (zipS 0 (prmS a p x)) i);rw[hv];exact⟨trivial,trivial⟩
 ·have hi:n<=i:=hi;exact Pn _ _ _ (by omega)
theorem XF{n:Nat}{a:List CT}{p:List Bool}{x:Row a}(hl:a.length<=n):em BZ (iniT n a p x)=⟨Aq (prmS a p x)++List.replicate (n-a.length) .top,h0,[]⟩:=by have aD:(prmS a p x).length=a.length:=G0 _ _ _;rw[Mu,AK,aD,show a.length+(n-a.length)=n by omega,<-Pl (B:=BZ)];rfl
theorem wzvq[TabOk]{H:List Fe}(hE:∀i,AF (TabT.E i)){ty:List (Nat×CT)}{rs:List ARes}{n:Nat}{ac:AR}{h:HT}{C:Fc}{fn:Func}{c:Code}(hf:TabT.P.funcs[C.f]?=some fn) (hb:fn.body=some c) (hr:ED TabT.P fn.results.toList rs=true) (hc:A8 TabT.P c ac=true) (hn:fn.ntmps=n) (hl:C.a.length<=n) (he:Co TabT.P C.f=true)(ht:∀x,funT H ty rs n ac h C x=C.F x):Az C:=by
 refine⟨he,fun x y hy=>?_⟩;have hT:=ht x;rw[hy]at hT;have aD:(prmS C.a C.p x).length=C.a.length:=G0 _ _ _
 have hw:AW TabT.E none TabT.P ac (Post TabT.E rs (fun v _=>W v (A0 (retT C.r y)))) (em BZ (iniT n C.a C.p x)):=by
  refine(CJ (c:=ac) hT (XD hl) rfl fun _=>rfl).mono ?_;rintro e S ⟨B',T',k1,k2,k3,k4,k5⟩;cases e with
  |ret =>
   have k1:(match resS T' rs with | some l=>DD H C.r [] l | none=>none)=some y:=k1;split at k1
   ·rename_i l hl;obtain⟨q1,q2⟩:=NY k2 hl;refine⟨em B' T',k5,q1,fun i=>.gone ((em B' T').h i).ep,fun i=>.inl rfl,fun D _=>⟨_,rfl⟩,?_⟩;rw[XE q2];exact wzvt k1
   ·cases k1
  |_=>cases k1
 rw[XF hl]at hw;have hp:Pure TabT.E TabT.P C.f (Aq (prmS C.a C.p x)) (A0 (retT C.r y)):=ATr.rw (ATr.of hf hb hr hc (n-C.a.length) (by rw[hn,AK,aD]) hw);exact hp.still hE (DZ _) (Yw _)
def conY(i L e:Nat)(st:List (TabT.FA i)->Option Bool)(HC HX:List (TabT.FA i)->Ax->Prop):Con := ⟨L,e,fun j=>if h:j=i then fun l=>st (h▸l) else fun _=>none,fun j l hh=>∃h:j=i,HC (h▸l) hh,fun j l hh=>∃h:j=i,HX (h▸l) hh⟩
theorem jzgy{i L e:Nat}{st:List (TabT.FA i)->Option Bool}{HC HX:List (TabT.FA i)->Ax->Prop}(C:Csm TabT.E TabT.P (TabT.aA i) st L e HC HX):CsOk (conY i L e st HC HX):=by
 intro j;refine⟨?_,?_,?_⟩
 ·rintro l h h' hh ⟨rfl,k⟩;exact⟨rfl,C.loc l h h' hh k⟩
 ·rintro l h h' hh ⟨rfl,k⟩;exact⟨rfl,C.lox l h h' hh k⟩
 ·rintro l x s h ⟨rfl,k⟩ hs;have hs:(if h:j=j then fun l=>st (h▸l) else fun _=>none) (l++[x])=some s:=hs;rw[dif_pos rfl]at hs;refine(C.round l x s h k hs).mono ?_;rintro v h' ⟨k1,k2,k3,k4⟩;exact⟨k1,fun e=>⟨rfl,k2 e⟩,fun e=>⟨rfl,k3 e⟩,k4⟩
theorem jzgu[TabOk]{H:List Fe}{ty:List (Nat×CT)}{n:Nat}{ac:AR}{h:HT}{C:Sc}{fn:Func}{c:Code}(hf:TabT.P.funcs[C.f]?=some fn) (hb:fn.body=some c) (hr:ED TabT.P fn.results.toList []=true) (hc:A8 TabT.P c ac=true) (hn:fn.ntmps=n) (hl:C.a.length+1<=n) (he:Co TabT.P C.f=true)(ht:∀x st,itrT H ty n ac h C x st=C.G x st):ScOk C:=by
 refine⟨fun x st r hG=>⟨he,fun L ee HC HX csm hh h0 fR=>?_⟩⟩;have hT:=ht x st;rw[hG]at hT;have aD:(prmS C.a C.p x).length=C.a.length:=G0 _ _ _
 let BY:Phi:=⟨fun id _=>⟨(hh id).ep,0,fun _=>[]⟩,hh,[],conY C.i L ee st HC HX⟩
 have l99:∀id p,Ae [(1899,0,TO.out C.i ([]:List (TabT.FA C.i)) false)] id=some p->id=1899/\p=(0,.out C.i [] false):=fun id p e=>by
  rw[AH]at e;split at e
  ·rename_i h;cases e;exact⟨h.symm,rfl⟩
  ·cases e
 have hI:InvT BY (iniY n C.a C.p x C.i st):=by
  refine⟨fun i=>?_,fun i hi=>?_,fun id s o ho=>?_,⟨fun id p ho=>?_,fun i hi=>?_,fun i h1 h2=>?_,fun D hD=>(by cases hD),fun e=>(by cases e),jzgy csm,fun s i l b ho=>?_⟩⟩
  ·show TOk _ _ (Ah ((0,.v (.yl C.i st)) :: zipS 1 (prmS C.a C.p x)) i);rw[A9];split
   ·refine⟨trivial,?_⟩;show(if h:C.i=C.i then fun l=>st (h▸l) else fun _=>none)=st;rw[dif_pos rfl]
   ·obtain⟨v,hv⟩:=Pm (prmS C.a C.p x) 1 i;rw[hv];exact⟨trivial,trivial⟩
  ·have hi:n<=i:=hi;show Ah ((0,.v (.yl C.i st)) :: zipS 1 (prmS C.a C.p x)) i=_;rw[A9,Aj (by simp only;omega)];exact Pn _ _ _ (by omega)
  ·obtain⟨rfl,h2⟩:=l99 _ _ ho;cases h2;exact⟨Nat.zero_lt_one,trivial,trivial⟩
  ·obtain⟨rfl,_⟩:=l99 _ _ ho;show Ab (Nat.ble 1000 1899) (Nat.blt 1899 (1000+900)) false=true;decide
  ·have:=Bg hi;have e0:(iniY n C.a C.p x C.i st).b=1000:=rfl;rw[e0]at this;exact fR i this.1 (by have:=this.2;omega)
  ·have h1:1000+900+2*0<=i:=h1;have h2:i<1000+1000:=h2;exact fR i (by omega) (by omega)
  ·obtain⟨_,h2⟩:=l99 _ _ ho;cases h2;exact⟨rfl,rfl,fun _=>⟨rfl,h0⟩,fun e=>(by cases e)⟩
 have hw:AW TabT.E none TabT.P ac (Post TabT.E [] (fun _ h'=>HC r h'\/HX r h')) (em BY (iniY n C.a C.p x C.i st)):=by
  refine(CJ (c:=ac) hT hI rfl fun _=>rfl).mono ?_;rintro e S ⟨B',T',k1,k2,k3,k4,k5⟩
  have fin:outT.outR C.i T'=some r->∃S',See TabT.E S S'/\EJ S' []/\∃h',(∀i,OSub (S'.h i) (h' i))/\(∀D∈S'.ds,∃e,h' D.1=.gone e)/\(HC r h'\/HX r h'):=by
   intro k1;unfold outT.outR at k1;split at k1
   ·rename_i s0 j l b ho;unfold OA at k1;split at k1
    ·rename_i hj;obtain⟨z1,z2,z3,z4⟩:=k2.fr.yo _ _ _ _ ho;have iu:B'.c=conY C.i L ee st HC HX:=k3.ext.c;have co:∀D∈B'.ds,False:=fun D hD=>by obtain⟨_,d2,d3⟩:=k2.fr.dd D hD;omega
     have bT:∀i,i<1000\/2000<=i->(em B' T').h i=B'.X i:=fun i hi=>by
      rw[em_h];cases hx:Ae T'.h i with
      |none=>rfl
      |some p=>have:=Bg (k2.fr.ro _ _ hx);omega
     refine⟨em B' T',k5,trivial,(em B' T').h,fun i=>.refl _,fun D hD=>(co D hD).elim,?_⟩;rw[iu]at z3 z4
     have key:(∃h:j=C.i,HC (h▸l) B'.X)\/∃h:j=C.i,HX (h▸l) B'.X:=by
      cases b with
      |false=>exact .inl (z3 rfl)
      |true=>exact z4 rfl
     rcases key with ⟨bI,k⟩|⟨bI,k⟩
     ·cases k1;exact .inl (csm.loc _ _ _ bT k)
     ·cases k1;exact .inr (csm.lox _ _ _ bT k)
    ·cases k1
   ·cases k1
  cases e with
  |ret=>exact fin k1
  |normal=>exact fin k1
  |_=>cases k1
 have md:em BY (iniY n C.a C.p x C.i st)=⟨(.yld L ee :: Aq (prmS C.a C.p x))++List.replicate (n-(C.a.length+1)) .top,hh,[]⟩:=by
  rw[Mu,Df,AK,aD,show C.a.length+1+(n-(C.a.length+1))=n by omega];have e1:eTm BY (iniY n C.a C.p x C.i st).t=zipA 0 (.yld L ee :: Aq (prmS C.a C.p x)):=by show(0,Aa.yld L ee) :: eTm BY (zipS 1 (prmS C.a C.p x))=(0,Aa.yld L ee) :: zipA 1 (Aq (prmS C.a C.p x));rw[Pl]
  show Au.mk (tl (eTm BY (iniY n C.a C.p x C.i st).t) n) _ []=_;rw[e1];congr 1;funext i;show hO BY i (Ae [(1899,0,TO.out C.i ([]:List (TabT.FA C.i)) false)] i)=hh i;rw[AH];split
  ·rename_i h;have h:1899=i:=h;subst h;obtain⟨e',lm⟩:=fR 1899 (by omega) (by omega);show Ai.gone (hh 1899).ep=hh 1899;rw[lm];rfl
  ·rfl
 rw[md]at hw;exact ATr.of hf hb hr hc (n-(C.a.length+1)) (by rw[hn,Df,AK,aD]) hw
end
end
def cV1:Value->Aa
 |.int k n=>.int k n
 |.bool a=>.bool a
 |.string s=>.str s.data.toList
 |.slice none _ _=>.nils
 |.pointer none=>.nilp
 |.nilFunc=>.nilfn
 |.map none=>.nilmp
 |_=>.top
def cVs:List Value->List Aa
 |[]=>[]
 |v :: l=>cV1 v :: cVs l
def cV:Value->Aa
 |.agg cs=>.agg (cVs cs.toList)
 |.tuple cs=>.tup (cVs cs.toList)
 |v=>cV1 v
def cG:Operand->Ad
 |.tmp n=>.t n
 |.const v=>.c (cV v)
 |.global i=>.g i
 |.func f=>.c (.fn f 0 [])
def cGs:List Operand->List Ad
 |[]=>[]
 |x :: l=>cG x :: cGs l
def cGo:Option Operand->Option Ad
 |some x=>some (cG x)
 |none=>none
def oN:Option Nat->Nat
 |some n=>n
 |none=>0
section
variable (P:Program)
def cSz(t:TypeId):Nat:=oN (szOf P t)
def cAg(t:TypeId):Bool:=match yzl P t with
 |some b=>b
 |none=>false
def cZ(t:TypeId):List Aa:=match Em P t with
 |some z=>cVs z
 |none=>[]
def cLd(t:TypeId):Nat:=Ab (cAg P t) (cSz P t) 1
def cPl(f:Nat->Option (Nat×Nat)):List (Nat×Operand)->List (Nat×Nat×Ad)
 |[]=>[]
 | (i,x) :: l=>(match f i with
  |some (o,s)=>(o,s,cG x)
  | none=>(0,0,cG x)) :: cPl f l
def TR:BinOp->Bool
 |.neq=>true
 |_=>false
def wzwq(s:Nat)(b:Builtin):List Operand->List TypeId->Ak
 |[x],[t]=>match b with
  |.len=>match P.underlying t with
   |some .string=>.len true (cG x)
   |some (.map _ _)=>.mlen (cG x)
   |_=>.len false (cG x)
  |.clear=>match P.underlying t with
   |some (.slice e)=>.clear (cZ P e) (cG x)
   |_=>.mv (.c .top)
  |_=>.mv (.c .top)
 |[x,y,z],_=>match b with
  |.min=>.min3 (cG x) (cG y) (cG z)
  |_=>.mv (.c .top)
 |[x,y],[t,_]=>match b with
  |.max=>.max (cG x) (cG y)
  |.min=>.min (cG x) (cG y)
  |.append=>match P.underlying t with
   |some (.slice e)=>.append s (cSz P e) (oN (byOf P e)) (cG x) (cG y)
   |_=>.mv (.c .top)
  |.copy=>match P.underlying t with
   |some (.slice e)=>.copy (cSz P e) (cG x) (cG y)
   |_=>.mv (.c .top)
  |_=>.mv (.c .top)
 |_,_=>.mv (.c .top)
def cZv(agg:Bool)(z:List Aa):Aa:=Ab agg (.agg z) (z.getD 0 .top)
def cOp(fz:Bool)(s:Nat):Op->Ak
 |.move x=>.mv (cG x)
 |.assign x=>.mv (cG x)
 |.pick c x y=>.pick (cG c) (cG x) (cG y)
 |.binOp op t x y _=>match P.underlying t with
  | some (.struct _)=>.eqagg (match eqFields P 9 t with
   |some l=>l
   | none=>[]) (TR op) (cG x) (cG y)
  |some (.slice _)=>.isnil (TR op) (cG x)
  |some (.pointer _)=>.isnilp (TR op) (cG x)
  |some .bool=>.bin op true (cG x) (cG y)
  |_=>.bin op false (cG x) (cG y)
 |.unOp op _ x=>match op with
  |.not=>.not (cG x)
  |_=>.neg (cG x)
 |.alloc t=>.alloc s (cZ P t)
 |.box _ x=>.box s (cG x)
 |.load t x=>.load (cAg P t) (cLd P t) (cG x)
 |.store t x y=>.store (cSz P t) (cG x) (cG y)
 |.nilCheck x=>.nilck (cG x)
 |.fieldAddr t x f=>match FD P t f with
  |some (o,_)=>.faddr o (cG x)
  |none=>.mv (.c .top)
 |.indexAddr t x i=>match P.underlying t with
  |some (.slice e)=>.iaddrS (cSz P e) (cG x) (cG i)
  |some (.array n e)=>.iaddrA n (cSz P e) (cG x) (cG i)
  |_=>.mv (.c .top)
 |.field t x f=>match FD P t f with
  |some (o,ft)=>.field (cAg P ft) o (cLd P ft) (cG x)
  |none=>.mv (.c .top)
 |.index t x i=>match P.underlying t with
  |some (.array n e)=>.aidx (cAg P e) n (cSz P e) (cG x) (cG i)
  |_=>.sidx (cG x) (cG i)
 |.extract x i=>.extract i (cG x)
 |.build t ps=>match P.underlying t with
  |some (.struct fs)=>match Hd P fs.toList with
   |some l=>.build (cZ P t) (cPl (fun i=>l[i]?) ps.toList)
   |none=>.mv (.c .top)
  |some (.array _ e)=>.build (cZ P t) (cPl (fun i=>some (i*cSz P e,cSz P e)) ps.toList)
  |_=>.mv (.c .top)
 |.buildSlice t n ps=>match P.underlying t with
  |some (.slice e)=>match Em P e with
   |some z=>Ab fz (.fslice s (cSz P e) n (cVs (In z (n*cSz P e))) (cPl (fun i=>some (i*cSz P e,cSz P e)) ps.toList)) (.bslice s (cSz P e) n (cVs (In z (n*cSz P e))) (cPl (fun i=>some (i*cSz P e,cSz P e)) ps.toList))
   |none=>.mv (.c .top)
  |_=>.mv (.c .top)
 |.convert src dst x=>match P.underlying dst with
  |some (.int k)=>.conv k (cG x)
  |some (.slice _)=>.s2b s (cG x)
  |_=>.b2s (cG x)
 |.makeFunc f first caps=>match f with
  |.func f=>.mkfn f first.size (cGs (first.toList++caps.toList))
  |_=>.mv (.c .top)
 |.makeSlice t x _=>match P.underlying t with
  |some (.slice e)=>.mks s (cSz P e) (oN (byOf P e)) (cZ P e) (cG x)
  |_=>.mv (.c .top)
 |.makeMap _ _=>.mkmap s
 |.lookup t x k cok=>match P.underlying t with
  |some (.map kt et)=>.mlook (oN (D0 P kt)) cok (cZv (cAg P et) (cZ P et)) (cG x) (cG k)
  |_=>.mv (.c .top)
 |.mapUpdate t m k v=>match P.underlying t with
  |some (.map kt _)=>.mupd (oN (D0 P kt)) (cG m) (cG k) (cG v)
  |_=>.mv (.c .top)
 |.insert t m k v=>match P.underlying t with
  |some (.map kt _)=>.mupd (oN (D0 P kt)) (cG m) (cG k) (cG v)
  |_=>.mv (.c .top)
 |.slice t x lo hi _=>match P.underlying t with
  |some (.slice e)=>.slice false (cSz P e) (cG x) (cGo lo) (cGo hi)
  |_=>.slice true 0 (cG x) (cGo lo) (cGo hi)
 |.call c=>match c.callee with
  |.value (.func f)=>.callf f (cGs c.args.toList)
  |.value x=>.callv (cG x) (cGs c.args.toList)
  |.builtin b=>wzwq P s b c.args.toList c.argTypes.toList
  |_=>.mv (.c .top)
 |_=>.mv (.c .top)
def mkS:Ak->Nat
 |.alloc _ _ | .box _ _ | .bslice _ _ _ _ _ | .fslice _ _ _ _ _ | .mks _ _ _ _ _ | .s2b _ _ | .append _ _ _ _ _ | .mkmap _=>1
 |_=>0
def cGd(ops:Array Oper):Option (Nat×Bool)->Option (Nat×Bool)
 |some (j,want)=>match ops[j]? with
  |some q=>match q.dst with
   |some d=>some (d,want)
   |none=>none
  |none=>none
 |none=>none
def cUs:List Ad->List Nat->List Nat
 |[],r=>r
 |.t n :: l,r=>n :: cUs l r
 |_ :: l,r=>cUs l r
def cP2:List (Nat×Operand)->List Operand
 |[]=>[]
 |p :: l=>p.2 :: cP2 l
def cUse:List Oper->List Nat
 |[]=>[]
 |o :: l=>match o.op with
  |.call c=>match c.callee with
   |.value (.func _)=>cUs (cGs c.args.toList) (cUse l)
   |_=>cUse l
  |.build _ ps=>cUs (cGs (cP2 ps.toList)) (cUse l)
  |.buildSlice _ _ ps=>cUs (cGs (cP2 ps.toList)) (cUse l)
  |_=>cUse l
def cUst:List Oper->List Nat
 |[]=>[]
 |o :: l=>match o.op with
  |.store _ _ x=>cUs (cGs [x]) (cUst l)
  |_=>cUst l
def cFz(us:List Nat):Option Tmp->Bool
 |some d=>memN d us
 |none=>false
def kSm:List (Nat×Nat)->Nat->Nat
 |[],s=>s
 |p :: l,s=>Ab (Nat.beq p.1 s) p.2 (kSm l s)
variable (sm:List (Nat×Nat))
def cOps(us:List Nat)(ops:Array Oper)(s:Nat):List Oper->List Av
 |[]=>[]
 |o :: l=>⟨o.dst,cOp P (cFz us o.dst) (kSm sm s) o.op,cGd ops o.guard⟩ :: cOps us ops (s+mkS (cOp P false s o.op)) l
def nOps:List Oper->Nat
 |[]=>0
 |o :: l=>mkS (cOp P false 0 o.op)+nOps l
def insN(i:Nat)(l:List Nat):List Nat:=Ab (memN i l) l (i :: l)
def uniN:List Nat->List Nat->List Nat
 |[],l=>l
 |i :: k,l=>insN i (uniN k l)
def cPr1(acc:List (List Nat)):List Edge->List Nat
 |[]=>[]
 |e :: l=>Ab (Region.binds .any e) (insN e.on (uniN (acc.getD e.on []) (cPr1 acc l))) (cPr1 acc l)
def cPr(acc:List (List Nat)):List Oper->List (List Nat)
 |[]=>acc
 |o :: l=>cPr (acc++[cPr1 acc o.after.toList]) l
def Ef:Code->Nat
 |.region _ ops _=>nOps P ops.toList
 |.seq a b=>Ef a+Ef b
 |.cond _ a b=>Ef a+Ef b
 |.block _ a=>Ef a
 |.loop a=>Ef a
 |.scope a=>Ef a
 |.rangeFunc _ _ a b=>Ef a+Ef b
 |_=>0
def DH:Nat->Code->AR
 |s,.skip=>.skip
 |s,.region _ ops d=>Ab d (.reg true (cOps P sm (cUst ops.toList++cUse ops.toList) ops s ops.toList) (cPr [] ops.toList)) (.reg false (cOps P sm (cUse ops.toList) ops s ops.toList) [])
 |s,.seq a b=>.seq (DH s a) (DH (s+Ef P a) b)
 |s,.cond c a b=>.cond (cG c) (DH s a) (DH (s+Ef P a) b)
 |s,.block i a=>.block i (DH s a)
 |s,.loop a=>.loop (DH s a)
 |s,.exit i=>.exit i
 |s,.scope a=>.scope (DH s a)
 |s,.label l=>.label l
 |s,.rangeFunc f ps a b=>.rfunc (cG f) ps.toList (DH s a) (DH (s+Ef P a) b)
 |s,_=>.ret
def cRs:List ResultVar->List ARes
 |[]=>[]
 |.tmp a :: l=>.t a :: cRs l
 |.cell a t :: l=>.c a (cAg P t) (cLd P t) :: cRs l
def cF(fn:Func):AR:=match fn.body with
 |some c=>DH P sm 0 c
 |none=>.ret
def cFi(fn:Func):AR:=match fn.body with
 |some c=>DH P sm 1000 c
 |none=>.ret
def ckFi(fn:Func)(n:Nat):Bool:=match fn.body with
 |some c=>Ab (A8 P c (DH P sm 1000 c)) (Ab (ED P fn.results.toList []) (Nat.ble n fn.ntmps) false) false
 |none=>false
def ckF(fn:Func)(n:Nat):Bool:=match fn.body with
 |some c=>Ab (A8 P c (DH P sm 0 c)) (Ab (ED P fn.results.toList (cRs P fn.results.toList)) (Nat.ble n fn.ntmps) false) false
 |none=>false
end
theorem B8.cast{E:Nat->Aa}{P:Program}{f f':FuncId}{a a':List Aa}{v v':Aa}(H:B8 E P f a v)(e:(f,a,v)=(f',a',v')):B8 E P f' a' v':=by cases e;exact H
section
variable [Tab]
theorem Az.still{C:Fc}(H:Az C){x:Row C.a}{y:Row C.r}(h:C.F x=some y){f:FuncId}{a:List Aa}{v:Aa}(e:(C.f,Aq (prmS C.a C.p x),A0 (retT C.r y))=(f,a,v)):B8 TabT.E TabT.P f a v:=(H.ok x y h).cast e
theorem RF[TabOk](hE:∀i,AF (TabT.E i))(H:List Fe)(sm:List (Nat×Nat))(ty:List (Nat×CT))(h:HT){C:Fc}{fn:Func}(hf:TabT.P.funcs[C.f]?=some fn)(he:Co TabT.P C.f=true)(hc:ckF TabT.P sm fn C.a.length=true) (ht:∀x,funT H ty (cRs TabT.P fn.results.toList) fn.ntmps (cF TabT.P sm fn) h C x=C.F x):Az C:=by
 unfold ckF at hc;unfold cF at ht;split at hc
 ·rename_i c hb;rw[hb]at ht;obtain⟨h1,hc⟩:=At hc;obtain⟨h2,hc⟩:=At hc;exact wzvq hE hf hb h2 h1 rfl (F9 hc) he ht
 ·cases hc
theorem wJ[TabOk](H:List Fe)(sm:List (Nat×Nat))(ty:List (Nat×CT))(h:HT){C:Sc}{fn:Func}(hf:TabT.P.funcs[C.f]?=some fn)(he:Co TabT.P C.f=true)(hc:ckFi TabT.P sm fn (C.a.length+1)=true) (ht:∀x st,itrT H ty fn.ntmps (cFi TabT.P sm fn) h C x st=C.G x st):ScOk C:=by
 unfold ckFi at hc;unfold cFi at ht;split at hc
 ·rename_i c hb;rw[hb]at ht;obtain⟨h1,hc⟩:=At hc;obtain⟨h2,hc⟩:=At hc;exact jzgu hf hb h2 h1 rfl (F9 hc) he ht
 ·cases hc
end
section
variable [Tab]
def iniW(n:Nat)(c:CT)(l:List c.T)(a:List CT)(p:List Bool)(x:Row a):An:=⟨(0,.v (.own 899 0)) :: zipS 1 (prmS a p x),[(899,0,.own c l)],1,n,[],[],[],0,0⟩
def outW(c:CT)(T:An):Option (List c.T):=Ab (memN 0 T.w) none (match Ah T.t 0,Ae T.h 899 with
 |.v (.own id s),some (s',.own c' m)=>Ab (Nat.beq id 899) (Ab (Nat.beq s s') (By c' c m) none) none
 | _,_=>none)
def resW(c:CT)(e:Exit)(T:An):Option (List c.T):=match e with
 |.ret=>outW c T
 |.normal=>outW c T
 |_=>none
def funW[TabOk](H:List Fe)(ty:List (Nat×CT))(n:Nat)(ac:AR)(h:HT)(C:Wc)(l:List C.c.T)(x:Row C.a):Option (List C.c.T):=AV H ty [] ac _ h (iniW n C.c l C.a C.p x) (resW C.c)
def BW(ep:Nat)(c:CT)(l:List c.T):Phi:=⟨fun i s=>if i=899/\s=0 then⟨ep,l.length,Ay c.cA l⟩ else⟨0,0,fun _=>[]⟩,h0,[],BZ.c⟩
theorem Po{ep:Nat}{c:CT}{l:List c.T}:(BW ep c l) 899 0=⟨ep,l.length,Ay c.cA l⟩:=by show(if 899=899/\0=0 then(⟨ep,l.length,Ay c.cA l⟩:FZ) else⟨0,0,fun _=>[]⟩)=_;exact Ap ⟨rfl,rfl⟩
theorem TS{c:CT}{l:List c.T}{id:Nat}{p:Nat×TO}(e:Ae [(899,0,TO.own c l)] id=some p):id=899/\p=(0,.own c l):=by
 rw[AH]at e;split at e
 ·rename_i h;cases e;exact⟨h.symm,rfl⟩
 ·cases e
theorem kzad{n ep:Nat}{c:CT}{l:List c.T}{a:List CT}{p:List Bool}{x:Row a}(hl:a.length+1<=n):InvT (BW ep c l) (iniW n c l a p x):=by
 have aD:(prmS a p x).length=a.length:=G0 _ _ _;refine⟨fun i=>?_,fun i hi=>?_,fun id st o ho=>?_,⟨fun id p ho=>?_,fun i _=>⟨0,rfl⟩,fun i _ _=>⟨0,rfl⟩,fun D hD=>(by cases hD),fun _ _ i _ _=>⟨0,rfl⟩,fun i=>⟨fun _ _ _ _ h=>h,fun _ _ _ _ h=>h,fun _ _ _ _ h=>h.elim⟩,fun s i l b ho=>?_⟩⟩
 ·show TOk _ _ (Ah ((0,.v (.own 899 0)) :: zipS 1 (prmS a p x)) i);rw[A9];split
  ·exact⟨Nat.zero_lt_one,trivial⟩
  ·obtain⟨v,hv⟩:=Pm (prmS a p x) 1 i;rw[hv];exact⟨trivial,trivial⟩
 ·have hi:n<=i:=hi;show Ah ((0,.v (.own 899 0)) :: zipS 1 (prmS a p x)) i=_;rw[A9,Aj (by simp only;omega)];exact Pn _ _ _ (by omega)
 ·obtain⟨rfl,h2⟩:=TS ho;cases h2;refine⟨Nat.zero_lt_one,?_,trivial⟩;show((BW ep c l) 899 0).n=l.length/\((BW ep c l) 899 0).f=Ay c.cA l;rw[Po];exact⟨rfl,rfl⟩
 ·obtain⟨rfl,_⟩:=TS ho;show Ab (Nat.ble 0 899) (Nat.blt 899 (0+900)) false=true;decide
 ·obtain⟨h1,_⟩:=TS ho;cases h1
theorem kza2{n ep:Nat}{c:CT}{l:List c.T}{a:List CT}{p:List Bool}{x:Row a}(hl:a.length+1<=n) :
  em (BW ep c l) (iniW n c l a p x)=⟨(ownV 899 ep l :: Aq (prmS a p x))++List.replicate (n-(a.length+1)) .top,fun i=>if i=899 then ownO ep c.n c.cA l else .gone 0,[]⟩:=by
 have aD:(prmS a p x).length=a.length:=G0 _ _ _;have e0:eT (BW ep c l) (.v (.own 899 0))=ownV 899 ep l:=by show(match ((BW ep c l) 899 0).n with | 0=>Aa.nils | n+1=>.vec 899 ((BW ep c l) 899 0).ep 0 (n+1))=_;rw[Po];cases l<;>rfl
 rw[Mu,Df,AK,aD,show a.length+1+(n-(a.length+1))=n by omega];have e1:eTm (BW ep c l) (iniW n c l a p x).t=zipA 0 (ownV 899 ep l :: Aq (prmS a p x)):=by show(0,eT (BW ep c l) (.v (.own 899 0))) :: eTm (BW ep c l) (zipS 1 (prmS a p x))=(0,ownV 899 ep l) :: zipA 1 (Aq (prmS a p x));rw[Pl,e0]
 show Au.mk (tl (eTm (BW ep c l) (iniW n c l a p x).t) n) _ []=_;rw[e1];congr 1;funext i;show hO (BW ep c l) i (Ae [(899,0,TO.own c l)] i)=_;rw[AH];by_cases h:i=899
 ·subst h;rw[Ap rfl,Ap rfl];show eO (BW ep c l) ((BW ep c l) 899 0).ep (.own c l)=_;rw[Po];rfl
 ·rw[Aj (fun e=>h e.symm),Aj h];rfl
theorem kza5[TabOk]{H:List Fe}(hE:∀i,AF (TabT.E i)){ty:List (Nat×CT)}{n:Nat}{ac:AR}{h:HT}{C:Wc}{fn:Func}{cd:Code}(hf:TabT.P.funcs[C.f]?=some fn) (hb:fn.body=some cd) (hr:ED TabT.P fn.results.toList []=true) (hc:A8 TabT.P cd ac=true) (hn:fn.ntmps=n) (hl:C.a.length+1<=n) (he:Co TabT.P C.f=true)(ht:∀l x,funW H ty n ac h C l x=C.F l x):WcOk C:=by
  refine⟨he,fun l x r hh id ep hy hid=>?_⟩;have hT:=ht l x;rw[hy]at hT;have aD:(prmS C.a C.p x).length=C.a.length:=G0 _ _ _
  have hA:∀ep,ATr TabT.E TabT.P C.f (ownV 899 ep l :: Aq (prmS C.a C.p x)) (fun i=>if i=899 then ownO ep C.c.n C.c.cA l else .gone 0) (fun v h'=>v=.tup []/\(l=[]\/(h' 899=ownO ep C.c.n C.c.cA r))/\r.length=l.length):=by
   intro ep
   have hw:AW TabT.E none TabT.P ac (Post TabT.E [] (fun v h'=>v=.tup []/\(l=[]\/(h' 899=ownO ep C.c.n C.c.cA r))/\r.length=l.length)) (em (BW ep C.c l) (iniW n C.c l C.a C.p x)):=by
     refine(CJ (c:=ac) hT (kzad hl) rfl fun _=>rfl).mono ?_;rintro e S ⟨B',T',k1,k2,k3,k4,k5⟩
     have fin:outW C.c T'=some r->∃S',See TabT.E S S'/\EJ S' []/\∃h':Ax,(∀i,OSub (S'.h i) (h' i))/\(∀D∈S'.ds,∃e,h' D.1=.gone e)/\(F7 S' []=.tup []/\(l=[]\/(h' 899=ownO ep C.c.n C.c.cA r))/\r.length=l.length):=by
       intro k1
       obtain⟨w0,k1⟩:=YC (show Ab (memN 0 T'.w) none (match Ah T'.t 0,Ae T'.h 899 with
         |.v (.own id s),some (s',.own c' m)=>Ab (Nat.beq id 899) (Ab (Nat.beq s s') (By c' C.c m) none) none
         | _,_=>none)=some r from k1)
       split at k1
       · rename_i id2 s s' c' m q1 q2
         obtain⟨b1,z1⟩:=Al k1;obtain⟨b2,z2⟩:=Al z1;clear k1 z1;obtain rfl:=Ao.1 b1;obtain rfl:=Ao.1 b2;obtain⟨c1,c2,c3,rfl⟩:=Ex z2
         have c4:m=r:=by
           unfold By at z2;split at z2
           · cases z2;rfl
           · cases z2
         subst c4;have hs:=(k3.sl 0 (GH w0)).2;rw[q1]at hs;have hs:eP B' (.own 899 s)=eT (BW ep C.c l) (.v (.own 899 0)):=hs;have hN:(B' 899 s).n=m.length:=(k2.ob _ _ _ q2).2.1.1;have hs:(match (B' 899 s).n with | 0=>Aa.nils | n+1=>.vec 899 (B' 899 s).ep 0 (n+1))=(match ((BW ep C.c l) 899 0).n with | 0=>Aa.nils | n+1=>.vec 899 ((BW ep C.c l) 899 0).ep 0 (n+1)):=hs;rw[Po,hN]at hs
         have key:m.length=l.length/\(l=[]\/(B' 899 s).ep=ep):=by
           cases l with
           |nil=>cases m with
             |nil=>exact⟨rfl,.inl rfl⟩
             |cons y m=>cases hs
           |cons z l=>cases m with
             |nil=>cases hs
             |cons y m =>
               have hs:Aa.vec 899 (B' 899 s).ep 0 (m.length+1)=.vec 899 ep 0 (l.length+1):=hs;injection hs with _ h2 _ h3
               exact⟨h3,.inr h2⟩
         refine⟨em B' T',k5,trivial,fun i=>if i=899 then(em B' T').h 899 else .gone ((em B' T').h i).ep,fun i=>?_,fun D hD=>?_,rfl,?_,key.1⟩
         · by_cases e:i=899
           · subst e;show OSub _ (if 899=899 then(em B' T').h 899 else _);rw[Ap rfl];exact .refl _
           · show OSub _ (if i=899 then _ else Ai.gone ((em B' T').h i).ep);rw[Aj e];exact .inl rfl
         · have:=(k2.fr.dd D hD).2.1
           refine⟨_,Aj (by omega)⟩
         · refine key.2.imp (fun q=>q) fun e=>?_
           show(if 899=899 then(em B' T').h 899 else _)=_;rw[Ap rfl,DX q2,e];rfl
       · cases k1
     cases e with
     |ret=>exact fin k1
     |normal=>exact fin k1
     |_=>cases k1
   rw[kza2 hl]at hw;exact ATr.of hf hb hr hc (n-(C.a.length+1)) (by rw[hn,Df,AK,aD]) hw
  have mf:∀(x:C.c.T) (y:Aa),y∈C.c.cA x->AF y:=fun x y hy=>by rw[<-Ey]at hy;exact DZ _ _ hy
  have bL:∀y,y∈Aq (prmS C.a C.p x)->AF y:=DZ _;cases l with
  |nil =>
    have h1:=(hA 0).mono (R':=fun v _=>v=.tup []/\r.length=0) fun v h' k=>⟨k.1,k.2.2⟩;have e:(fun i:Nat=>if i=899 then ownO 0 C.c.n C.c.cA ([]:List C.c.T) else Ai.gone 0)=h0:=by funext i;show(if i=899 then Ai.gone 0 else Ai.gone 0)=Ai.gone 0;split<;>rfl
    rw[e]at h1;refine(ATr.anyQ h1 hE (fun y hy=>?_) (.tup [] fun y hy=>by cases hy) hh).mono fun v h' k=>⟨k.1,?_,k.2.2⟩
    · rcases AI.1 hy with rfl|hy
      · exact .nils
      · exact bL y hy
    · have hr:r=[]:=J7.1 k.2.2
      subst hr;rw[k.2.1];funext i;show hh i=if i=id then Ai.gone ep else hh i;split
      · rename_i e;rw[e];exact hid
      · rfl
  |cons z l =>exact ATr.ownF hE bL mf ((hA ep).mono fun v h' k=>⟨k.1,k.2.1.resolve_left (fun e=>by cases e),k.2.2⟩) hh hid
theorem IE[TabOk](hE:∀i,AF (TabT.E i))(H:List Fe)(sm:List (Nat×Nat))(ty:List (Nat×CT))(h:HT){C:Wc}{fn:Func}(hf:TabT.P.funcs[C.f]?=some fn)(he:Co TabT.P C.f=true)(hr:ED TabT.P fn.results.toList []=true) (hc:ckF TabT.P sm fn (C.a.length+1)=true) (ht:∀l x,funW H ty fn.ntmps (cF TabT.P sm fn) h C l x=C.F l x):WcOk C:=by
 unfold ckF at hc;unfold cF at ht;split at hc
 ·rename_i c hb;rw[hb]at ht;obtain⟨h1,hc⟩:=At hc;obtain⟨h2,hc⟩:=At hc;exact kza5 hE hf hb hr h1 rfl (F9 hc) he ht
 ·cases hc
end
end Go.Am

