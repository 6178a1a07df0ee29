/- Part T4: a typed interpreter of abstract code, proved sound over the machine. No condition. -/
import Derived.Test.YtomegmhiddbmbaaGreatDoorT3
set_option linter.unusedSimpArgs false
set_option linter.unusedVariables false
namespace Go.Am
theorem wztn{O ω:Type}{body:O->Option (O⊕ω)}{N:Nat}{s:O}{o:ω}(h:lpN body (N+1) s=some o):(∃s',body s=some (.inl s')/\lpN body N s'=some o)\/body s=some (.inr o):=by
 unfold lpN at h;split at h
 ·rename_i s' hb;exact .inl ⟨s',hb,h⟩
 ·rename_i o' hb;cases h;exact .inr hb
 ·cases h
section
variable {E:Nat->Aa}{P:Program}
theorem ATr.rw{f:FuncId}{args:List Aa}{h:Ax}{r:Aa}(H:ATr E P f args h (fun v _=>W v r)):ATr E P f args h (fun v _=>v=r) :=
 fun g w vs hh hv=>(H g w vs hh hv).mono fun _ _ ⟨g',h',v,u,q,e,rv,rest⟩=>⟨g',h',r,u,rfl,e,rv.w q,rest⟩
theorem wzso{S:Ay}{rs:List ARes}{l:List Aa}(h:rs.map (ARes.val S)=l):Gb S rs=match (generalizing:=false) l with | [x]=>x | l=>.tup l:=by
 subst h
 match rs with
 |[]=>rfl
 |[r]=>rfl
 |r :: s :: rs=>rfl
end
section
variable [Tab]
section
variable {ρ:Option Nat}{B:Phi}{T:Ap}
theorem wzqt[TabOk]{c:AX}{U:Type}{J:Option (List OutH)}{inner:(β:Type)->Ap->(Exit->Ap->Option β)->Option β}{K:Exit->Ap->Option U}{r:U}(h:TW J T inner K=some r)(hI:InvT B T)(hg:T.gs=[])(hρ:T.rf<50->ρ=none)(k:∀{β:Type} {T:Ap} {K:Exit->Ap->Option β} {r:β},inner β T K=some r->InvT B T->T.gs=[]->(T.rf<50->ρ=none)->AW TabT.E ρ TabT.P c (FinT K r B T) (em B T)):AW TabT.E ρ TabT.P c (FinT K r B T) (em B T):=by
 cases J with
 |none=>exact k h hI hg hρ
 |some l =>obtain⟨y,h1,h2⟩:=FP (show bd (inner (OutT l) (cl0 T) (injT T l)) (aftT T K l)=some r from h);refine(k (T:=cl0 T) h1 (PQ hI hg) rfl hρ).mono ?_;rintro e S ⟨B1,T1,k1,k2,k3,k4,k5⟩;obtain⟨H,q,q1,_,q2⟩:=Ii k1;obtain⟨B',j1,j2,j3⟩:=PO hI k3 k2 q1;exact⟨B',_,by rw[<-q2 T K];exact h2,j1,j2,rfl,k5.trans j3⟩
theorem E6{T1:Ap}{ob:List (Nat×OH)}:∀{sl:List (Nat×SH)},chS T T1 ob sl=true->chS (cl0 T) T1 ob sl=true
 |[],_=>rfl
 |(i,.k) :: sl,h=>by have h:Ab (memN i T1.w) false (Ab (kpP T T1 (Ah T.t i)) (chS T T1 ob sl) false)=true:=h;obtain⟨p1,h⟩:=CJ h;obtain⟨p2,h⟩:=Aw h;show Ab (memN i T1.w) false (Ab (kpP (cl0 T) T1 (Ah T.t i)) (chS (cl0 T) T1 ob sl) false)=true;rw[p1,show kpP (cl0 T) T1 (Ah T.t i)=kpP T T1 (Ah T.t i) from rfl,p2,E6 h];rfl
 |(i,.v c) :: sl,h=>E6 (sl:=sl) h
 |(i,.c a) :: sl,h=>by
  simp only[chS]at h ⊢;split at h
  ·obtain⟨p1,h⟩:=Aw h;rw[p1,E6 h];rfl
  ·cases h
 |(i,.owk id) :: sl,h=>by
  have h:Ab (memN i T1.w) false (match Ah T1.t i with
   |.v (.own id' st)=>Ab (By id ob) (Ab (Nat.beq id' id) (Ab (curW T1 id st) (chS T T1 ob sl) false) false) false
   | _=>false)=true:=h
  obtain⟨p0,h⟩:=CJ h
  show Ab (memN i T1.w) false (match Ah T1.t i with
   |.v (.own id' st)=>Ab (By id ob) (Ab (Nat.beq id' id) (Ab (curW T1 id st) (chS (cl0 T) T1 ob sl) false) false) false
   | _=>false)=true
  rw[p0]
  show(match Ah T1.t i with
   |.v (.own id' st)=>Ab (By id ob) (Ab (Nat.beq id' id) (Ab (curW T1 id st) (chS (cl0 T) T1 ob sl) false) false) false
   | _=>false)=true
  split at h
  ·obtain⟨p1,h⟩:=Aw h;obtain⟨p2,h⟩:=Aw h;obtain⟨p3,h⟩:=Aw h;simp only[p1,p2,p3,E6 h];rfl
  ·cases h
 |(i,.own id) :: sl,h=>by
  simp only[chS]at h ⊢;split at h
  ·obtain⟨p1,h⟩:=Aw h;obtain⟨p2,h⟩:=Aw h;obtain⟨p3,h⟩:=Aw h;rw[p1,p2,p3,E6 h];rfl
  ·split at h;·obtain⟨p1,h⟩:=Aw h;rw[p1,E6 h];rfl
   ·obtain⟨p1,h⟩:=Aw h;rw[p1,E6 h];rfl
   ·cases h
  ·cases h
 |(i,.vec id) :: sl,h=>by
  simp only[chS]at h ⊢;split at h
  ·obtain⟨p1,h⟩:=Aw h;obtain⟨p2,h⟩:=Aw h;obtain⟨p3,h⟩:=Aw h;rw[p1,p2,p3,E6 h];rfl
  ·cases h
 |(i,.ptr id off) :: sl,h=>by
  simp only[chS]at h ⊢;split at h
  ·obtain⟨p1,h⟩:=Aw h;obtain⟨p2,h⟩:=Aw h;obtain⟨p3,h⟩:=Aw h;rw[p1,p2,p3,E6 h];rfl
  ·cases h
 |(i,.mp id) :: sl,h=>by
  simp only[chS]at h ⊢;split at h
  ·obtain⟨p1,h⟩:=Aw h;obtain⟨p2,h⟩:=Aw h;rw[p1,p2,E6 h];rfl
  ·cases h
theorem Dt{T1:Ap}{oA:List (Nat×OH)}:∀{ob:List (Nat×OH)},chO T T1 oA ob=true->chO (cl0 T) T1 oA ob=true
 |(i,.out _ _) :: ob,h=>Dt (ob:=ob) h
 |[],_=>rfl
 |(i,.k) :: ob,h=>by have h:Ab (memN i T1.wo) false (chO T T1 oA ob)=true:=h;obtain⟨p1,h⟩:=CJ h;show Ab (memN i T1.wo) false (chO (cl0 T) T1 oA ob)=true;rw[p1,Dt h];rfl
 |(i,.gone) :: ob,h=>Dt (ob:=ob) h
 |(i,.box _) :: ob,h=>Dt (ob:=ob) h
 |(i,.own _) :: ob,h=>Dt (ob:=ob) h
 |(i,.vec _) :: ob,h=>Dt (ob:=ob) h
 |(i,.map _ _) :: ob,h=>Dt (ob:=ob) h
 |(i,.rmp id) :: ob,h=>by
  simp only[chO]at h ⊢;split at h
  ·obtain⟨p2,h⟩:=Aw h;obtain⟨p3,h⟩:=Aw h;rw[p2,p3,Dt h];rfl
  ·cases h
 |(i,.rvec id) :: ob,h=>by
  simp only[chO]at h ⊢;split at h
  ·obtain⟨p1,h⟩:=Aw h;obtain⟨p2,h⟩:=Aw h;obtain⟨p3,h⟩:=Aw h;rw[p1,p2,p3,Dt h];rfl
  ·cases h
 |(i,.rag _ _ _) :: ob,h=>by
  simp only[chO]at h ⊢;split at h
  ·obtain⟨p1,h⟩:=Aw h;obtain⟨p2,h⟩:=Aw h;obtain⟨p3,h⟩:=Aw h;obtain⟨p4,h⟩:=Aw h;rw[p1,p2,p3,p4,Dt h];rfl
  ·cases h
 |(i,.rown id) :: ob,h=>by
  simp only[chO]at h ⊢;split at h
  ·obtain⟨p1,h⟩:=Aw h;obtain⟨p2,h⟩:=Aw h;obtain⟨p3,h⟩:=Aw h;rw[p1,p2,p3,Dt h];rfl
  ·split at h;·obtain⟨p1,h⟩:=Aw h;rw[p1,Dt h];rfl
   ·obtain⟨p1,h⟩:=Aw h;rw[p1,Dt h];rfl
   ·cases h
  ·cases h
theorem wzq8{T1:Ap}{H:OutH}{r:Row H.cts}(h:arrT T T1 H=some r):arrT (cl0 T) T1 H=some r:=by
 unfold arrT at h ⊢;split at h
 ·rename_i a b ha hb;replace h:=An h;obtain⟨p1,h⟩:=h;replace h:=An h;obtain⟨p2,h⟩:=h;simp only[ha,hb,E6 p1,Dt p2,GC];exact h
 ·cases h
theorem wzvn{rs:List ARes}(hI:InvT B T)(hg:T.gs=[]):∃B',InvT B' (frzR rs T)/\Log B T B' (frzR rs T)/\(frzR rs T).gs=[]/\See TabT.E (em B T) (em B' (frzR rs T)):=by obtain⟨B',h1,h2,h3,h4⟩:=Ic (DE T false true (rs.map fun r=>match r with | .t n=>.t n | .c n _ _=>.t n)++refI T rs) hI;exact⟨B',h1,h2,h3.trans hg,h4⟩
theorem jzac{H:List Fe}:∀(ys:List Nat) (ops:List As),(splY H T ys ops).1++(splY H T ys ops).2=ops
 |_,[]=>rfl
 |ys,o :: r=>by
  have ih:=jzac (H:=H) (mvY T ys o) r;show(Ab (Ab (isYs T ys o) true (isW H o)) ([],o :: r) (match splY H T (mvY T ys o) r with | (a,b)=>(o :: a,b))).1++(Ab (Ab (isYs T ys o) true (isW H o)) ([],o :: r) (match splY H T (mvY T ys o) r with | (a,b)=>(o :: a,b))).2=o :: r;cases Ab (isYs T ys o) true (isW H o)
  ·rw[SW];exact E9 (o :: ·) ih
  ·rfl
theorem jzce:∀{ps:List Tmp} {vs:List SV} {T:Ap},T.gs=[]->(putP T ps vs).gs=[]
 |[],[],T,h=>h
 |[],_ :: _,T,h=>h
 |p :: ps,[],T,h=>h
 |p :: ps,v :: vs,T,h=>jzce (ps:=ps) (vs:=vs) (T:=⟨(p,.v (.s v)) :: T.t,T.h,T.nx,T.n,T.gs,p :: T.w,T.wo,T.b,T.rf⟩) h
theorem jzgq[TabOk]{H:List Fe}{f:Ac}{z:(i:Nat)×SqV i}(hI:InvT B T)(h:sqOf H T f=some z):Ae TabT.E (em B T).t f=.fn z.2.f 0 z.2.caps:=by
 unfold sqOf at h;split at h
 ·rename_i i x hx;cases h;exact((Da hI).a _ _ hx).1
 ·rename_i g caps hx;split at h
  ·rename_i C hC;cases h;rw[((Da hI).a _ _ hx).1];show Aa.fn g 0 (At caps)=.fn C.f 0 (At caps);rw[Ex hC]
  ·cases h
 ·cases h
theorem kzbc{h:HT}{B:Phi}{T:Ap}(hI:InvT B T):∃B',InvT B' (fzH h T)/\Log B T B' (fzH h T)/\(fzH h T).gs=T.gs/\See TabT.E (em B T) (em B' (fzH h T)):=by
 cases h with
 |f fz=>exact Ic fz hI
 |_=>exact⟨B,hI,.refl _ _,rfl,.refl _⟩
theorem DG[TabOk]{H:List Fe}{ty:List (Nat×CT)}{rs:List ARes}:∀{c:AX} {U:Type} {h:HT} {T:Ap} {K:Exit->Ap->Option U} {r:U} {B:Phi} {ρ:Option Nat},Bz H ty rs c U h T K=some r->InvT B T->T.gs=[]->(T.rf<50->ρ=none)->AW TabT.E ρ TabT.P c (FinT K r B T) (em B T)
 |.skip,U,h,T,K,r,B,ρ,hc,hI,hg,hρ=>.skip ⟨B,T,hc,hI,.refl _ _,hg,.refl _⟩
 |.reg false ops pr,U,h,T0,K,r,B0,ρ,hc,c7,fV,hρ=>by have hc:regT H ty ops (fzH h T0) (K .normal)=some r:=hc;obtain⟨B,hI,l0,g0,s0⟩:=kzbc (h:=h) c7;refine .see s0 (AW.mono ?_ fun e S q=>FinT.step l0 q);exact .sreg (Nm (ops:=ops) hc hI (.of hI (g0.trans fV))).sreg
 |.reg true ops pr,U,h,T0,K,r,B0,ρ,hc,c7,fV,hρ=>by
  have hc:(fun T=>match splY H T [] ops with
   |(_,[])=>CZ H ty ops none T fun T' tr=>Ab (Dn ops pr tr) (K .normal (endT T')) none
   | (a,b)=>Ab (IP pr a.length ops.length) (CZ H ty a none T fun T' tr=>Ab (Dn a pr tr) (regT H ty b (endT T') (K .normal)) none) none) (frzA T0 (drwF T0 [] ops))=some r:=hc
  obtain⟨B,hI,l0,g0,s0⟩:=Ic (drwF T0 [] ops) c7;generalize frzA T0 (drwF T0 [] ops)=T at *;have hg:T.gs=[]:=g0.trans fV;refine .see s0 (AW.mono (Q:=fun e S=>∃B' T',K e T'=some r/\InvT B' T'/\Log B T B' T'/\T'.gs=[]/\See TabT.E S (em B' T')) ?_ ?_);rotate_left
  ·rintro e S ⟨B',T',k1,k2,k3,k4,k5⟩;exact⟨B',T',k1,k2,l0.trans k3,k4,k5⟩
  have hc:(match splY H T [] ops with
   |(_,[])=>CZ H ty ops none T fun T' tr=>Ab (Dn ops pr tr) (K .normal (endT T')) none
   | (a,b)=>Ab (IP pr a.length ops.length) (CZ H ty a none T fun T' tr=>Ab (Dn a pr tr) (regT H ty b (endT T') (K .normal)) none) none)=some r:=hc
  split at hc
  ·obtain⟨B',T',tr,k1,k2,k3,k4⟩:=Ul hc hI (fun _ _ _ e=>by cases e);obtain⟨p,k1⟩:=An k1;obtain⟨e1,e2,e3,e4⟩:=Uj k2 ((CW.of hI hg).log k3);exact .drawC (k4 _ ⟨p,B',_,k1,e1,k3.trans e2,e3,e4⟩)
  ·rename_i a b _ hs;obtain⟨hb,hc⟩:=An hc;obtain⟨B',T',tr,k1,k2,k3,k4⟩:=Ul hc hI (fun _ _ _ e=>by cases e);obtain⟨p,k1⟩:=An k1;obtain⟨e1,e2,e3,e4⟩:=Uj k2 ((CW.of hI hg).log k3);have eo:a++b=ops:=by have:=jzac (T:=T) (H:=H) [] ops;rw[hs]at this;exact this
   rw[<-eo]at hb ⊢;refine .drawB hb (k4 _ ⟨p,?_⟩);refine .see e4 ((Nm k1 e1 (.of e1 e3)).mono ?_);rintro S ⟨B2,T2,j1,j2,j3,j4,j5⟩;exact⟨B2,T2,j1,j2,(k3.trans e2).trans j3,j4,j5⟩
 |.seq a b,U,h,T,K,r,B,ρ,hc,hI,hg,hρ=>by
  refine .seq ((DG (c:=a) hc hI hg hρ).mono ?_);rintro e S ⟨B1,T1,k1,k2,k3,k4,k5⟩;cases e with
  |normal=>exact .see k5 ((DG (c:=b) k1 k2 k4 fun e=>hρ (UK k3.fr.le e)).mono fun e S' q=>q.step k3)
  |_=>exact⟨B1,T1,k1,k2,k3,k4,k5⟩
 |.cond c a b,U,h,T,K,r,B,ρ,hc,hI,hg,hρ=>by
  refine wzqt hc hI hg hρ ?_;intro β T K r hi hI hg hρ;split at hi
  ·rename_i x hx;have hc:Ae TabT.E (em B T).t c=.bool x:=((Da hI).a _ _ hx).1;cases x with
   |false =>have bf:∃h',Bz H ty rs b β h' T K=some r:=(by cases c<;>exact⟨_,hi⟩);obtain⟨h',bf⟩:=bf;exact .cond hc (fun e=>by cases e) (fun _=>DG (c:=b) bf hI hg hρ)
   |true =>have bf:∃h',Bz H ty rs a β h' T K=some r:=(by cases c<;>exact⟨_,hi⟩);obtain⟨h',bf⟩:=bf;exact .cond hc (fun _=>DG (c:=a) bf hI hg hρ) (fun e=>by cases e)
  ·cases hi
 |.ret,U,h,T,K,r,B,ρ,hc,hI,hg,hρ=>by obtain⟨B',h1,h2,h3,h4⟩:=wzvn (rs:=rs) hI hg;exact .ret ⟨B',_,hc,h1,h2,h3,h4⟩
 |.exit i,U,h,T,K,r,B,ρ,hc,hI,hg,hρ=>.exit ⟨B,T,hc,hI,.refl _ _,hg,.refl _⟩
 |.scope c,U,h,T,K,r,B,ρ,hc,hI,hg,hρ=>by
  refine .scope ((DG (c:=c) hc hI hg hρ).mono ?_);rintro e S ⟨B1,T1,k1,k2,k3,k4,k5⟩;cases e with
  |goto l=>cases k1
  |_=>exact⟨B1,T1,k1,k2,k3,k4,k5⟩
 |.label l,U,h,T,K,r,B,ρ,hc,hI,hg,hρ=>.label ⟨B,T,hc,hI,.refl _ _,hg,.refl _⟩
 |.any,U,h,T,K,r,B,ρ,hc,hI,hg,hρ=>by cases hc
 |.block i c,U,h,T,K,r,B,ρ,hc,hI,hg,hρ=>by
  refine wzqt hc hI hg hρ ?_;intro β T K r hi hI hg hρ;refine .block ((DG (c:=c) hi hI hg hρ).mono ?_);rintro e S ⟨B1,T1,k1,k2,k3,k4,k5⟩;cases e with
  |exit j =>
   have k1:Ab (Nat.beq j i) (K .normal T1) (K (.exit j) T1)=some r:=k1;show if j=i then _ else _;cases hj:Nat.beq j i<;>rw[hj]at k1
   ·rw[Ak (BS.1 hj)];exact⟨B1,T1,k1,k2,k3,k4,k5⟩
   ·rw[Aq (Ao.1 hj)];exact⟨B1,T1,k1,k2,k3,k4,k5⟩
  |_=>exact⟨B1,T1,k1,k2,k3,k4,k5⟩
 |.loop c,U,.l fz hd J h,T0,K,r,B0,ρ,hc,c7,fV,hρ=>by
  obtain⟨B,hI,iZ,hg,fj⟩:=Ic fz c7;have hg:=hg.trans fV
  have hc:(fun T=>match arrT T (cl0 T) hd with
   | some r0=>bd (lp (fun r=>Bz H ty rs c (Row hd.cts⊕OutT J) h (rebT (cl0 T) hd r) fun e T'=>match e with
    |.normal=>match arrT T T' hd with
     |some r=>some (.inl r)
     |none=>none
    |e=>match injT T J e T' with
     |some r=>some (.inr r)
     | none=>none) r0) (aftT T K J)
   | none=>none) (frzA T0 fz)=some r:=hc
  refine .see fj (AW.mono ?_ fun e S q=>FinT.step iZ q);replace hρ:(frzA T0 fz).rf<50->ρ=none:=fun e=>hρ (UK iZ.fr.le e);generalize frzA T0 fz=T at *
  have hc:(match arrT T (cl0 T) hd with
   | some r0=>bd (lp (fun r=>Bz H ty rs c (Row hd.cts⊕OutT J) h (rebT (cl0 T) hd r) fun e T'=>match e with
    |.normal=>match arrT T T' hd with
     |some r=>some (.inl r)
     |none=>none
    |e=>match injT T J e T' with
     |some r=>some (.inr r)
     | none=>none) r0) (aftT T K J)
   | none=>none)=some r:=hc
  split at hc
  ·rename_i r0 fq;obtain⟨o,h1,h2⟩:=FP hc;rw[Mf]at h1;have lc:=PQ hI hg;obtain⟨B1,j1,j2,j3⟩:=PO lc (.refl _ _) lc (wzq8 fq)
   refine .loop (fun x:Nat×Row hd.cts×Phi=>em x.2.2 (rebT (cl0 T) hd x.2.1)) (fun x=>x.1) (fun x=>lpN (fun r=>Bz H ty rs c (Row hd.cts⊕OutT J) h (rebT (cl0 T) hd r) fun e T'=>match e with
    |.normal=>match arrT T T' hd with
     |some r=>some (.inl r)
     |none=>none
    |e=>match injT T J e T' with
     |some r=>some (.inr r)
     | none=>none) x.1 x.2.1=some o/\InvT x.2.2 (rebT (cl0 T) hd x.2.1)/\Log B (cl0 T) x.2.2 (rebT (cl0 T) hd x.2.1)) (4611686018427387904,r0,B1) ⟨h1,j1,j2⟩ j3 ?_
   rintro⟨N,q,Bx⟩ ⟨hN,ml,mn⟩;cases N with
   |zero=>cases hN
   |succ N =>
    rcases wztn hN with ⟨s',hb,hN⟩|hb
    ·refine(DG (c:=c) hb ml rfl hρ).mono ?_;rintro e S ⟨B2,T2,k1,k2,k3,k4,k5⟩;cases e with
     |normal =>
      have k1:(match arrT T T2 hd with | some r=>some (Sum.inl r) | none=>none)=some (.inl s'):=k1;split at k1
      ·rename_i r' dH;cases k1;obtain⟨B3,l1,l2,l3⟩:=PO lc (mn.trans k3) k2 (wzq8 dH);exact⟨(N,s',B3),⟨hN,l1,l2⟩,Co _,k5.trans l3⟩
      ·cases k1
     |_ =>exfalso;revert k1;show(match injT T J _ T2 with | some r=>some (Sum.inr r) | none=>none)=some (.inl s')->False;split<;>(intro k;cases k)
    ·refine(DG (c:=c) hb ml rfl hρ).mono ?_;rintro e S ⟨B2,T2,k1,k2,k3,k4,k5⟩
     have fin:(match injT T J e T2 with | some r=>some (Sum.inr r) | none=>none)=some (@Sum.inr (Row hd.cts) _ o)->FinT K r B T e S:=by
      intro k1;split at k1
      ·rename_i q1 lE;cases k1;obtain⟨H1,r1,p1,_,p2⟩:=Ii lE;obtain⟨B3,l1,l2,l3⟩:=PO hI (mn.trans k3) k2 p1;exact⟨B3,_,by rw[<-p2 T K];exact h2,l1,l2,rfl,k5.trans l3⟩
      ·cases k1
     cases e with
     |normal =>exfalso;revert k1;show(match arrT T T2 hd with | some r=>some (Sum.inl r) | none=>none)=some (.inr o)->False;split<;>(intro k;cases k)
     |_=>exact fin k1
  ·cases hc
 |.loop c,U,.n,T,K,r,B,ρ,hc,hI,hg,hρ=>by cases hc
 |.loop c,U,.s _ _,T,K,r,B,ρ,hc,hI,hg,hρ=>by cases hc
 |.loop c,U,.c _ _ _,T,K,r,B,ρ,hc,hI,hg,hρ=>by cases hc
 |.loop c,U,.b _ _,T,K,r,B,ρ,hc,hI,hg,hρ=>by cases hc
 |.loop c,U,.r _ _ _ _ _,T,K,r,B,ρ,hc,hI,hg,hρ=>by cases hc
 |.rfunc f ps a b,U,.r fz hd J ha hb,T0,K,r,B0,ρ,hc,c7,fV,hρ=>by
  obtain⟨B,hI,iZ,hg,fj⟩:=Ic fz c7;have hg:=hg.trans fV;refine .see fj (AW.mono ?_ fun e S q=>FinT.step iZ q);replace hρ:(frzA T0 fz).rf<50->ρ=none:=fun e=>hρ (UK iZ.fr.le e);unfold Bz at hc;generalize frzA T0 fz=T at *;have hc:=hc;simp only[]at hc;split at hc
  ·rename_i z hz;split at hc
   ·rename_i r0 fq;obtain⟨h1,hc⟩:=An hc;obtain⟨h2,hc⟩:=An hc;obtain⟨h3,hc⟩:=An hc;obtain⟨h4,hc⟩:=An hc;have h2:T.rf<50:=by simpa [Hb] using h2
    obtain rfl:=hρ h2;refine jzd8 hI hg (jzgq hI hz) fq (Ao.1 h1) h2 (Ao.1 h3) h4 hc ?_;intro ρ' x r1 o ho B1 i1;have lb:=Ur (ps:=ps) (vs:=rowW (Tab.fa z.1) (cast (Tab.eA z.1).symm x)) (T:=strT (rebT (rnd T) hd r1));have oe:(putP (strT (rebT (rnd T) hd r1)) ps (rowW (Tab.fa z.1) (cast (Tab.eA z.1).symm x))).gs=[]:=jzce rfl;have gG:(putP (strT (rebT (rnd T) hd r1)) ps (rowW (Tab.fa z.1) (cast (Tab.eA z.1).symm x))).rf=T.rf+50:=lb.2.2.2.2.2;refine(DG (c:=a) ho i1 oe (fun e=>by omega)).mono ?_;rintro e S ⟨B2,T2,k1,k2,k3,k4,k5⟩;cases e with
    |normal =>
     have k1:Bz H ty rs b (Row hd.cts⊕OutT J) hb T2 (fun e T'=>match e with
       |.normal=>match arrT (rnd T) (rstT (rndW T hd) T') hd with
        |some r=>some (.inl r)
        |none=>none
       |e=>match injT (rnd T) J e (rstT (rndW T hd) T') with
        |some r=>some (.inr r)
        | none=>none)=some o:=k1
     refine⟨B2,T2,rfl,k2,k3,k4,k5,fun B3 i3=>?_⟩;have eH:50<=T2.rf:=by have:=k3.fr.le;omega
     refine(DG (c:=b) k1 i3 k4 (fun e=>by omega)).mono ?_;rintro e S2 ⟨B4,T4,j1,j2,j3,j4,j5⟩;refine⟨B4,T4,?_,j2,j3,j4,j5⟩;cases e with
     |normal =>
      have j1:(match arrT (rnd T) (rstT (rndW T hd) T4) hd with | some r=>some (Sum.inl r) | none=>none)=some o:=j1;split at j1
      ·rename_i r' dH;cases j1;exact⟨r',dH,rfl⟩
      ·cases j1
     |_ =>
      revert j1;show(match injT (rnd T) J _ (rstT (rndW T hd) T4) with | some r=>some (Sum.inr r) | none=>none)=some o->_;split
      ·rename_i q hq;intro j1;cases j1;exact⟨q,hq,rfl⟩
      ·intro j1;cases j1
    |_=>cases k1
   ·cases hc
  ·cases hc
 |.rfunc _ _ _ _,U,.n,T,K,r,B,ρ,hc,hI,hg,hρ=>by cases hc
 |.rfunc _ _ _ _,U,.s _ _,T,K,r,B,ρ,hc,hI,hg,hρ=>by cases hc
 |.rfunc _ _ _ _,U,.c _ _ _,T,K,r,B,ρ,hc,hI,hg,hρ=>by cases hc
 |.rfunc _ _ _ _,U,.b _ _,T,K,r,B,ρ,hc,hI,hg,hρ=>by cases hc
 |.rfunc _ _ _ _,U,.l _ _ _ _,T,K,r,B,ρ,hc,hI,hg,hρ=>by cases hc
theorem PS(hI:InvT B T):∀{rs:List ARes} {l:List SV},resS T rs=some l->FD (em B T) rs/\rs.map (ARes.val (em B T))=At l
 |[],l,h=>by cases h;exact⟨trivial,rfl⟩
 |.t n :: rs,l,h=>by
  simp only[resS]at h;split at h
  ·rename_i v r h1 h2;cases h;obtain⟨k1,k2⟩:=PS hI h2;refine⟨⟨trivial,k1⟩,?_⟩;show(em B T).t.getD n .top :: rs.map (ARes.val (em B T))=A7 v :: At r;rw[Fo hI,h1,k2];rfl
  ·cases h
 |.c n agg sz :: rs,l,h=>by
  simp only[resS]at h;split at h
  ·rename_i id st r h1 h2;split at h
   ·rename_i st' cs ho;replace h:=An h;obtain⟨p1,h⟩:=h;replace h:=An h;obtain⟨p2,h⟩:=h;replace h:=An h;obtain⟨p3,h⟩:=h;obtain rfl:=Ao.1 p1;have p2:=Ao.1 p2;cases h;obtain⟨k1,k2⟩:=PS hI h2;have e1:(em B T).t.getD n .top=.ptr id (B id st).ep 0:=by rw[Fo hI,h1];rfl
    have e2:(em B T).h id=.box (B id st).ep (At cs):=FO ho;have e3:CU agg sz ((em B T).t.getD n .top) (em B T).h=⟨(B id st).ep=(B id st).ep/\0+sz<=(At cs).length/\(agg=false->sz=1),[id],ldv agg sz (At cs) 0,none⟩:=(by simp only[CU,e1,e2]);refine⟨⟨?_,k1⟩,?_⟩
    ·show(CU agg sz ((em B T).t.getD n .top) (em B T).h).ok;rw[e3];exact⟨rfl,by rw[AT];omega,JH p3⟩
    ·show(CU agg sz ((em B T).t.getD n .top) (em B T).h).v :: rs.map (ARes.val (em B T))=A7 (ldS agg sz cs 0) :: At r;rw[e3,k2,GH]
   ·cases h
  ·cases h
theorem wz9j:∀(c:CT) (l:List CT) (r:RowC c.T l),HK c l [] r=GB c l r
 |c,[],r=>rfl
 |c,d :: l,r=>by show _ :: HK d l [] r.2=_ :: GB d l r.2;rw[wz9j d l];rfl
theorem jzev:∀(l:List CT) (r:Row l),prmS l [] r=rowW l r
 |[],r=>rfl
 |c :: l,r=>wz9j c l r
theorem wzvt[TabOk]{H:List Fe}{cs:List CT}{l:List SV}{y:Row cs}(h:DB H cs [] l=some y):W (match At l with | [x]=>x | l=>.tup l) (A7 (retT cs y)):=by
 have hw:Ws (At l) (At (rowW cs y)):=by have:=Fb h;rw[jzev]at this;exact this
 match cs,y,hw with
 |[],y,hw =>
  cases l with
  |nil=>exact .refl _
  |cons x l=>exact hw.elim
 |[c],y,hw =>
  match l,hw with
  |[],hw=>exact hw.elim
  |[x],hw=>exact hw.1
  |x :: x' :: l,hw=>exact hw.2.elim
 |c :: d :: cs,y,hw =>
  match l,hw with
  |[],hw=>exact hw.elim
  |[x],hw=>exact(show Ws [] (At (GB d cs y.2)) from hw.2) |> fun h=>by cases cs<;>exact h.elim
  |x :: x' :: l,hw=>exact Ht.2 hw
theorem Us:∀(l:List SV) (i:Nat),eTm B (zipS i l)=zipA i (At l)
 |[],i=>rfl
 |x :: l,i=>by show(i,A7 x) :: eTm B (zipS (i+1) l)=(i,A7 x) :: zipA (i+1) (At l);rw[Us l]
theorem Ut:∀(l:List SV) (i j:Nat),∃v,Ah (zipS i l) j=.v (.s v)
 |[],i,j=>⟨.top,rfl⟩
 |x :: l,i,j=>by
  show ∃v,Ah ((i,.v (.s x)) :: zipS (i+1) l) j=.v (.s v);rw[AB];split
  ·exact⟨x,rfl⟩
  ·exact Ut l (i+1) j
theorem Uu:∀(l:List SV) (i j:Nat),i+l.length<=j->Ah (zipS i l) j=.v (.s .top)
 |[],i,j,_=>rfl
 |x :: l,i,j,h=>by have h:i+(l.length+1)<=j:=h;show Ah ((i,.v (.s x)) :: zipS (i+1) l) j=_;rw[AB,Ak (by simp only;omega)];exact Uu l (i+1) j (by omega)
theorem wzp2(c:CT):∀(l:List CT) (p:List Bool) (r:RowC c.T l),(HK c l p r).length=l.length+1
 |[],p,r=>rfl
 |d :: l,p,r=>by show _+1=_;rw[wzp2 d l p.tail r.2];rfl
theorem Nn:∀(l:List CT) (p:List Bool) (r:Row l),(prmS l p r).length=l.length
 |[],p,r=>rfl
 |c :: l,p,r=>wzp2 c l p r
def BZ:Phi:=⟨fun _ _=>⟨0,0,fun _=>[]⟩,h0,[],⟨0,0,fun _ _=>none,fun _ _ _=>False,fun _ _ _=>False⟩⟩
theorem jza5{n:Nat}{a:List CT}{p:List Bool}{x:Row a}(hl:a.length<=n):InvT BZ (iniT n a p x):=by
 have aF:(prmS a p x).length=a.length:=Nn _ _ _;refine⟨fun i=>?_,fun i hi=>?_,fun id st o ho=>(by cases ho),⟨fun id p ho=>(by cases ho),fun i _=>⟨0,rfl⟩,fun i _ _=>⟨0,rfl⟩,fun D hD=>(by cases hD),fun _ _ i _ _=>⟨0,rfl⟩,fun i=>⟨fun _ _ _ _ h=>h,fun _ _ _ _ h=>h,fun _ _ _ _ h=>h.elim⟩,fun _ _ _ _ h=>(by cases h)⟩⟩
 ·obtain⟨v,hv⟩:=Ut (prmS a p x) 0 i;show TOk _ _ (Ah (zipS 0 (prmS a p x)) i);rw[hv];exact⟨trivial,trivial⟩
 ·have hi:n<=i:=hi;exact Uu _ _ _ (by omega)
theorem jzby{n:Nat}{a:List CT}{p:List Bool}{x:Row a}(hl:a.length<=n):em BZ (iniT n a p x)=⟨At (prmS a p x)++List.replicate (n-a.length) .top,h0,[]⟩:=by have aF:(prmS a p x).length=a.length:=Nn _ _ _;rw[Rb,AT,aF,show a.length+(n-a.length)=n by omega,<-Us (B:=BZ)];rfl
theorem wzvq[TabOk]{H:List Fe}(hE:∀i,AC (TabT.E i)){ty:List (Nat×CT)}{rs:List ARes}{n:Nat}{ac:AX}{h:HT}{C:Fc}{fn:Func}{c:Code}(hf:TabT.P.funcs[C.f]?=some fn) (hb:fn.body=some c) (hr:Dm TabT.P fn.results.toList rs=true) (hc:AA TabT.P c ac=true) (hn:fn.ntmps=n) (hl:C.a.length<=n) (he:Ci TabT.P C.f=true)(ht:∀x,funT H ty rs n ac h C x=C.F x):Av C:=by
 refine⟨he,fun x y hy=>?_⟩;have hT:=ht x;rw[hy]at hT;have aF:(prmS C.a C.p x).length=C.a.length:=Nn _ _ _
 have hw:AW TabT.E none TabT.P ac (Post TabT.E rs (fun v _=>W v (A7 (retT C.r y)))) (em BZ (iniT n C.a C.p x)):=by
  refine(DG (c:=ac) hT (jza5 hl) rfl fun _=>rfl).mono ?_;rintro e S ⟨B',T',k1,k2,k3,k4,k5⟩;cases e with
  |ret =>
   have k1:(match resS T' rs with | some l=>DB H C.r [] l | none=>none)=some y:=k1;split at k1
   ·rename_i l hl;obtain⟨q1,q2⟩:=PS k2 hl;refine⟨em B' T',k5,q1,fun i=>.gone ((em B' T').h i).ep,fun i=>.inl rfl,fun D _=>⟨_,rfl⟩,?_⟩;rw[wzso q2];exact wzvt k1
   ·cases k1
  |_=>cases k1
 rw[jzby hl]at hw;have hp:Pure TabT.E TabT.P C.f (At (prmS C.a C.p x)) (A7 (retT C.r y)):=ATr.rw (ATr.of hf hb hr hc (n-C.a.length) (by rw[hn,AT,aF]) hw);exact hp.still hE (ET _) (ZI _)
theorem jzgv[TabOk]{H:List Fe}(hE:∀i,AC (TabT.E i)){ty:List (Nat×CT)}{rs:List ARes}{n:Nat}{ac:AX}{h:HT}{Q:Qc}{fn:Func}{c:Code}(hf:TabT.P.funcs[Q.f]?=some fn) (hb:fn.body=some c) (hr:Dm TabT.P fn.results.toList rs=true) (hc:AA TabT.P c ac=true) (hn:fn.ntmps=n) (hl:Q.a.length<=n) (he:Ci TabT.P Q.f=true)(ht:∀x,funQ H ty rs n ac h Q x=Q.F x):QcOk Q:=by
 refine⟨he,fun x y hy=>?_⟩;have hT:=ht x;rw[hy]at hT;have aF:(prmS Q.a Q.p x).length=Q.a.length:=Nn _ _ _
 have hw:AW TabT.E none TabT.P ac (Post TabT.E rs (fun v _=>W v (.fn Q.S.f 0 (At (prmS Q.S.a Q.S.p y))))) (em BZ (iniT n Q.a Q.p x)):=by
  refine(DG (c:=ac) hT (jza5 hl) rfl fun _=>rfl).mono ?_;rintro e S ⟨B',T',k1,k2,k3,k4,k5⟩;cases e with
  |ret =>
   have k1:(match resS T' rs with | some [.fn f 0 caps]=>Ab (Nat.beq f Q.S.f) (MM Q.S.a Q.S.p caps) none | _=>none)=some y:=k1;split at k1
   ·rename_i f caps hl;obtain⟨p,k1⟩:=An k1;obtain⟨q1,q2⟩:=PS k2 hl;refine⟨em B' T',k5,q1,fun i=>.gone ((em B' T').h i).ep,fun i=>.inl rfl,fun D _=>⟨_,rfl⟩,?_⟩;rw[wzso q2,<-Ao.1 p];have hw:=Th k1;exact .fn _ _ _ _ hw.at.1 hw.at.2
   ·cases k1
  |_=>cases k1
 rw[jzby hl]at hw;have hp:Pure TabT.E TabT.P Q.f (At (prmS Q.a Q.p x)) (.fn Q.S.f 0 (At (prmS Q.S.a Q.S.p y))):=ATr.rw (ATr.of hf hb hr hc (n-Q.a.length) (by rw[hn,AT,aF]) hw);exact hp.still hE (ET _) (.fn _ _ _ (ET _))
def conY(i L e:Nat)(st:List (TabT.FA i)->Option Bool)(HC HX:List (TabT.FA i)->Ax->Prop):Con := ⟨L,e,fun j=>if h:j=i then fun l=>st (h▸l) else fun _=>none,fun j l hh=>∃h:j=i,HC (h▸l) hh,fun j l hh=>∃h:j=i,HX (h▸l) hh⟩
theorem jzgy{i L e:Nat}{st:List (TabT.FA i)->Option Bool}{HC HX:List (TabT.FA i)->Ax->Prop}(C:Csm TabT.E TabT.P (TabT.aA i) st L e HC HX):CsOk (conY i L e st HC HX):=by
 intro j;refine⟨?_,?_,?_⟩
 ·rintro l h h' hh ⟨rfl,k⟩;exact⟨rfl,C.loc l h h' hh k⟩
 ·rintro l h h' hh ⟨rfl,k⟩;exact⟨rfl,C.lox l h h' hh k⟩
 ·rintro l x s h ⟨rfl,k⟩ hs;have hs:(if h:j=j then fun l=>st (h▸l) else fun _=>none) (l++[x])=some s:=hs;rw[dif_pos rfl]at hs;refine(C.round l x s h k hs).mono ?_;rintro v h' ⟨k1,k2,k3,k4⟩;exact⟨k1,fun e=>⟨rfl,k2 e⟩,fun e=>⟨rfl,k3 e⟩,k4⟩
theorem jzgu[TabOk]{H:List Fe}{ty:List (Nat×CT)}{n:Nat}{ac:AX}{h:HT}{C:Sc}{fn:Func}{c:Code}(hf:TabT.P.funcs[C.f]?=some fn) (hb:fn.body=some c) (hr:Dm TabT.P fn.results.toList []=true) (hc:AA TabT.P c ac=true) (hn:fn.ntmps=n) (hl:C.a.length+1<=n) (he:Ci TabT.P C.f=true)(ht:∀x st,itrT H ty n ac h C x st=C.G x st):ScOk C:=by
 refine⟨fun x st r hG=>⟨he,fun L ee HC HX csm hh h0 fu=>?_⟩⟩;have hT:=ht x st;rw[hG]at hT;have aF:(prmS C.a C.p x).length=C.a.length:=Nn _ _ _
 let BY:Phi:=⟨fun id _=>⟨(hh id).ep,0,fun _=>[]⟩,hh,[],conY C.i L ee st HC HX⟩
 have l99:∀id p,Ad [(1899,0,TO.out C.i ([]:List (TabT.FA C.i)) false)] id=some p->id=1899/\p=(0,.out C.i [] false):=fun id p e=>by
  rw[AJ]at e;split at e
  ·rename_i h;cases e;exact⟨h.symm,rfl⟩
  ·cases e
 have hI:InvT BY (iniY n C.a C.p x C.i st):=by
  refine⟨fun i=>?_,fun i hi=>?_,fun id s o ho=>?_,⟨fun id p ho=>?_,fun i hi=>?_,fun i h1 h2=>?_,fun D hD=>(by cases hD),fun e=>(by cases e),jzgy csm,fun s i l b ho=>?_⟩⟩
  ·show TOk _ _ (Ah ((0,.v (.yl C.i st)) :: zipS 1 (prmS C.a C.p x)) i);rw[AB];split
   ·refine⟨trivial,?_⟩;show(if h:C.i=C.i then fun l=>st (h▸l) else fun _=>none)=st;rw[dif_pos rfl]
   ·obtain⟨v,hv⟩:=Ut (prmS C.a C.p x) 1 i;rw[hv];exact⟨trivial,trivial⟩
  ·have hi:n<=i:=hi;show Ah ((0,.v (.yl C.i st)) :: zipS 1 (prmS C.a C.p x)) i=_;rw[AB,Ak (by simp only;omega)];exact Uu _ _ _ (by omega)
  ·obtain⟨rfl,h2⟩:=l99 _ _ ho;cases h2;exact⟨Nat.zero_lt_one,trivial,trivial⟩
  ·obtain⟨rfl,_⟩:=l99 _ _ ho;show Ab (Nat.ble 1000 1899) (Nat.blt 1899 (1000+900)) false=true;decide
  ·have:=Bm hi;have e0:(iniY n C.a C.p x C.i st).b=1000:=rfl;rw[e0]at this;exact fu i this.1 (by have:=this.2;omega)
  ·have h1:1000+900+2*0<=i:=h1;have h2:i<1000+1000:=h2;exact fu i (by omega) (by omega)
  ·obtain⟨_,h2⟩:=l99 _ _ ho;cases h2;exact⟨rfl,rfl,fun _=>⟨rfl,h0⟩,fun e=>(by cases e)⟩
 have hw:AW TabT.E none TabT.P ac (Post TabT.E [] (fun _ h'=>HC r h'\/HX r h')) (em BY (iniY n C.a C.p x C.i st)):=by
  refine(DG (c:=ac) hT hI rfl fun _=>rfl).mono ?_;rintro e S ⟨B',T',k1,k2,k3,k4,k5⟩
  have fin:outT.outR C.i T'=some r->∃S',See TabT.E S S'/\FD S' []/\∃h',(∀i,OSub (S'.h i) (h' i))/\(∀D∈S'.ds,∃e,h' D.1=.gone e)/\(HC r h'\/HX r h'):=by
   intro k1;unfold outT.outR at k1;split at k1
   ·rename_i s0 j l b ho;unfold JF at k1;split at k1
    ·rename_i hj;obtain⟨z1,z2,z3,z4⟩:=k2.fr.yo _ _ _ _ ho;have g8:B'.c=conY C.i L ee st HC HX:=k3.ext.c;have cr:∀D∈B'.ds,False:=fun D hD=>by obtain⟨_,d2,d3⟩:=k2.fr.dd D hD;omega
     have bQ:∀i,i<1000\/2000<=i->(em B' T').h i=B'.X i:=fun i hi=>by
      rw[em_h];cases hx:Ad T'.h i with
      |none=>rfl
      |some p=>have:=Bm (k2.fr.ro _ _ hx);omega
     refine⟨em B' T',k5,trivial,(em B' T').h,fun i=>.refl _,fun D hD=>(cr D hD).elim,?_⟩;rw[g8]at z3 z4
     have key:(∃h:j=C.i,HC (h▸l) B'.X)\/∃h:j=C.i,HX (h▸l) B'.X:=by
      cases b with
      |false=>exact .inl (z3 rfl)
      |true=>exact z4 rfl
     rcases key with ⟨aV,k⟩|⟨aV,k⟩
     ·cases k1;exact .inl (csm.loc _ _ _ bQ k)
     ·cases k1;exact .inr (csm.lox _ _ _ bQ k)
    ·cases k1
   ·cases k1
  cases e with
  |ret=>exact fin k1
  |normal=>exact fin k1
  |_=>cases k1
 have og:em BY (iniY n C.a C.p x C.i st)=⟨(.yld L ee :: At (prmS C.a C.p x))++List.replicate (n-(C.a.length+1)) .top,hh,[]⟩:=by
  rw[Rb,DL,AT,aF,show C.a.length+1+(n-(C.a.length+1))=n by omega];have e1:eTm BY (iniY n C.a C.p x C.i st).t=zipA 0 (.yld L ee :: At (prmS C.a C.p x)):=by show(0,Aa.yld L ee) :: eTm BY (zipS 1 (prmS C.a C.p x))=(0,Aa.yld L ee) :: zipA 1 (At (prmS C.a C.p x));rw[Us]
  show Ay.mk (tl (eTm BY (iniY n C.a C.p x C.i st).t) n) _ []=_;rw[e1];congr 1;funext i;show hO BY i (Ad [(1899,0,TO.out C.i ([]:List (TabT.FA C.i)) false)] i)=hh i;rw[AJ];split
  ·rename_i h;have h:1899=i:=h;subst h;obtain⟨e',kp⟩:=fu 1899 (by omega) (by omega);show Ai.gone (hh 1899).ep=hh 1899;rw[kp];rfl
  ·rfl
 rw[og]at hw;exact ATr.of hf hb hr hc (n-(C.a.length+1)) (by rw[hn,DL,AT,aF]) hw
end
end
def cV1:Value->Aa
 |.int k n=>.int k n
 |.bool a=>.bool a
 |.string s=>.str s.data.toList
 |.slice none _ _=>.nils
 |.pointer none=>.nilp
 |.nilFunc=>.nilfn
 |.map none=>.nilmp
 |_=>.top
def cVs:List Value->List Aa
 |[]=>[]
 |v :: l=>cV1 v :: cVs l
def cV:Value->Aa
 |.agg cs=>.agg (cVs cs.toList)
 |.tuple cs=>.tup (cVs cs.toList)
 |v=>cV1 v
def cG:Operand->Ac
 |.tmp n=>.t n
 |.const v=>.c (cV v)
 |.global i=>.g i
 |.func f=>.c (.fn f 0 [])
def cGs:List Operand->List Ac
 |[]=>[]
 |x :: l=>cG x :: cGs l
def cGo:Option Operand->Option Ac
 |some x=>some (cG x)
 |none=>none
def oN:Option Nat->Nat
 |some n=>n
 |none=>0
section
variable (P:Program)
def cSz(t:TypeId):Nat:=oN (szOf P t)
def cAg(t:TypeId):Bool:=match yzl P t with
 |some b=>b
 |none=>false
def cZ(t:TypeId):List Aa:=match Ek P t with
 |some z=>cVs z
 |none=>[]
def cLd(t:TypeId):Nat:=Ab (cAg P t) (cSz P t) 1
def cPl(f:Nat->Option (Nat×Nat)):List (Nat×Operand)->List (Nat×Nat×Ac)
 |[]=>[]
 | (i,x) :: l=>(match f i with
  |some (o,s)=>(o,s,cG x)
  | none=>(0,0,cG x)) :: cPl f l
def Uv:BinOp->Bool
 |.neq=>true
 |_=>false
def wzwq(s:Nat)(b:Builtin):List Operand->List TypeId->Al
 |[x],[t]=>match b with
  |.len=>match P.underlying t with
   |some .string=>.len true (cG x)
   |some (.map _ _)=>.mlen (cG x)
   |_=>.len false (cG x)
  |.clear=>match P.underlying t with
   |some (.slice e)=>.clear (cZ P e) (cG x)
   |_=>.mv (.c .top)
  |_=>.mv (.c .top)
 |[x,y,z],_=>match b with
  |.min=>.min3 (cG x) (cG y) (cG z)
  |_=>.mv (.c .top)
 |[x,y],[t,_]=>match b with
  |.max=>.max (cG x) (cG y)
  |.min=>.min (cG x) (cG y)
  |.append=>match P.underlying t with
   |some (.slice e)=>.append s (cSz P e) (oN (byOf P e)) (cG x) (cG y)
   |_=>.mv (.c .top)
  |.copy=>match P.underlying t with
   |some (.slice e)=>.copy (cSz P e) (cG x) (cG y)
   |_=>.mv (.c .top)
  |_=>.mv (.c .top)
 |_,_=>.mv (.c .top)
def cZv(agg:Bool)(z:List Aa):Aa:=Ab agg (.agg z) (z.getD 0 .top)
def cOp(fz:Bool)(s:Nat):Op->Al
 |.move x=>.mv (cG x)
 |.assign x=>.mv (cG x)
 |.pick c x y=>.pick (cG c) (cG x) (cG y)
 |.binOp op t x y _=>match P.underlying t with
  | some (.struct _)=>.eqagg (match eqFields P 9 t with
   |some l=>l
   | none=>[]) (Uv op) (cG x) (cG y)
  |some (.slice _)=>.isnil (Uv op) (cG x)
  |some (.pointer _)=>.isnilp (Uv op) (cG x)
  |some .bool=>.bin op true (cG x) (cG y)
  |_=>.bin op false (cG x) (cG y)
 |.unOp op _ x=>match op with
  |.not=>.not (cG x)
  |_=>.neg (cG x)
 |.alloc t=>.alloc s (cZ P t)
 |.box _ x=>.box s (cG x)
 |.load t x=>.load (cAg P t) (cLd P t) (cG x)
 |.store t x y=>.store (cSz P t) (cG x) (cG y)
 |.nilCheck x=>.nilck (cG x)
 |.fieldAddr t x f=>match F8 P t f with
  |some (o,_)=>.faddr o (cG x)
  |none=>.mv (.c .top)
 |.indexAddr t x i=>match P.underlying t with
  |some (.slice e)=>.iaddrS (cSz P e) (cG x) (cG i)
  |some (.array n e)=>.iaddrA n (cSz P e) (cG x) (cG i)
  |_=>.mv (.c .top)
 |.field t x f=>match F8 P t f with
  |some (o,ft)=>.field (cAg P ft) o (cLd P ft) (cG x)
  |none=>.mv (.c .top)
 |.index t x i=>match P.underlying t with
  |some (.array n e)=>.aidx (cAg P e) n (cSz P e) (cG x) (cG i)
  |_=>.sidx (cG x) (cG i)
 |.extract x i=>.extract i (cG x)
 |.build t ps=>match P.underlying t with
  |some (.struct fs)=>match Hf P fs.toList with
   |some l=>.build (cZ P t) (cPl (fun i=>l[i]?) ps.toList)
   |none=>.mv (.c .top)
  |some (.array _ e)=>.build (cZ P t) (cPl (fun i=>some (i*cSz P e,cSz P e)) ps.toList)
  |_=>.mv (.c .top)
 |.buildSlice t n ps=>match P.underlying t with
  |some (.slice e)=>match Ek P e with
   |some z=>Ab fz (.fslice s (cSz P e) n (cVs (I6 z (n*cSz P e))) (cPl (fun i=>some (i*cSz P e,cSz P e)) ps.toList)) (.bslice s (cSz P e) n (cVs (I6 z (n*cSz P e))) (cPl (fun i=>some (i*cSz P e,cSz P e)) ps.toList))
   |none=>.mv (.c .top)
  |_=>.mv (.c .top)
 |.convert src dst x=>match P.underlying dst with
  |some (.int k)=>.conv k (cG x)
  |some (.slice _)=>.s2b s (cG x)
  |_=>.b2s (cG x)
 |.makeFunc f first caps=>match f with
  |.func f=>.mkfn f first.size (cGs (first.toList++caps.toList))
  |_=>.mv (.c .top)
 |.makeSlice t x _=>match P.underlying t with
  |some (.slice e)=>.mks s (cSz P e) (oN (byOf P e)) (cZ P e) (cG x)
  |_=>.mv (.c .top)
 |.makeMap _ _=>.mkmap s
 |.lookup t x k cok=>match P.underlying t with
  |some (.map kt et)=>.mlook (oN (C7 P kt)) cok (cZv (cAg P et) (cZ P et)) (cG x) (cG k)
  |_=>.mv (.c .top)
 |.mapUpdate t m k v=>match P.underlying t with
  |some (.map kt _)=>.mupd (oN (C7 P kt)) (cG m) (cG k) (cG v)
  |_=>.mv (.c .top)
 |.insert t m k v=>match P.underlying t with
  |some (.map kt _)=>.mupd (oN (C7 P kt)) (cG m) (cG k) (cG v)
  |_=>.mv (.c .top)
 |.mapEntry t m k=>match P.underlying t with
  |some (.map kt et)=>.ment (oN (C7 P kt)) (cZv (cAg P et) (cZ P et)) (cG m) (cG k)
  |_=>.mv (.c .top)
 |.entryStore t m st v=>.mest (cG m) (cG st) (cG v)
 |.slice t x lo hi _=>match P.underlying t with
  |some (.slice e)=>.slice false (cSz P e) (cG x) (cGo lo) (cGo hi)
  |_=>.slice true 0 (cG x) (cGo lo) (cGo hi)
 |.call c=>match c.callee with
  |.value (.func f)=>.callf f (cGs c.args.toList)
  |.value x=>.callv (cG x) (cGs c.args.toList)
  |.builtin b=>wzwq P s b c.args.toList c.argTypes.toList
  |_=>.mv (.c .top)
 |_=>.mv (.c .top)
def mkS:Al->Nat
 |.alloc _ _ | .box _ _ | .bslice _ _ _ _ _ | .fslice _ _ _ _ _ | .mks _ _ _ _ _ | .s2b _ _ | .append _ _ _ _ _ | .mkmap _=>1
 |_=>0
def cGd(ops:Array Oper):Option (Nat×Bool)->Option (Nat×Bool)
 |some (j,want)=>match ops[j]? with
  |some q=>match q.dst with
   |some d=>some (d,want)
   |none=>none
  |none=>none
 |none=>none
def cUs:List Ac->List Nat->List Nat
 |[],r=>r
 |.t n :: l,r=>n :: cUs l r
 |_ :: l,r=>cUs l r
def cP2:List (Nat×Operand)->List Operand
 |[]=>[]
 |p :: l=>p.2 :: cP2 l
def cUse:List Oper->List Nat
 |[]=>[]
 |o :: l=>match o.op with
  |.call c=>match c.callee with
   |.value (.func _)=>cUs (cGs c.args.toList) (cUse l)
   |_=>cUse l
  |.build _ ps=>cUs (cGs (cP2 ps.toList)) (cUse l)
  |.buildSlice _ _ ps=>cUs (cGs (cP2 ps.toList)) (cUse l)
  |_=>cUse l
def cUst:List Oper->List Nat
 |[]=>[]
 |o :: l=>match o.op with
  |.store _ _ x=>cUs (cGs [x]) (cUst l)
  |_=>cUst l
def cFz(us:List Nat):Option Tmp->Bool
 |some d=>memN d us
 |none=>false
def kSm:List (Nat×Nat)->Nat->Nat
 |[],s=>s
 |p :: l,s=>Ab (Nat.beq p.1 s) p.2 (kSm l s)
variable (sm:List (Nat×Nat))
def cOps(us:List Nat)(ops:Array Oper)(s:Nat):List Oper->List As
 |[]=>[]
 |o :: l=>⟨o.dst,cOp P (cFz us o.dst) (kSm sm s) o.op,cGd ops o.guard⟩ :: cOps us ops (s+mkS (cOp P false s o.op)) l
def nOps:List Oper->Nat
 |[]=>0
 |o :: l=>mkS (cOp P false 0 o.op)+nOps l
def insN(i:Nat)(l:List Nat):List Nat:=Ab (memN i l) l (i :: l)
def uniN:List Nat->List Nat->List Nat
 |[],l=>l
 |i :: k,l=>insN i (uniN k l)
def cPr1(acc:List (List Nat)):List Edge->List Nat
 |[]=>[]
 |e :: l=>Ab (Region.binds .any e) (insN e.on (uniN (acc.getD e.on []) (cPr1 acc l))) (cPr1 acc l)
def cPr(acc:List (List Nat)):List Oper->List (List Nat)
 |[]=>acc
 |o :: l=>cPr (acc++[cPr1 acc o.after.toList]) l
def Ec:Code->Nat
 |.region _ ops _=>nOps P ops.toList
 |.seq a b=>Ec a+Ec b
 |.cond _ a b=>Ec a+Ec b
 |.block _ a=>Ec a
 |.loop a=>Ec a
 |.scope a=>Ec a
 |.rangeFunc _ _ a b=>Ec a+Ec b
 |_=>0
def DH:Nat->Code->AX
 |s,.skip=>.skip
 |s,.region _ ops d=>Ab d (.reg true (cOps P sm (cUst ops.toList++cUse ops.toList) ops s ops.toList) (cPr [] ops.toList)) (.reg false (cOps P sm (cUse ops.toList) ops s ops.toList) [])
 |s,.seq a b=>.seq (DH s a) (DH (s+Ec P a) b)
 |s,.cond c a b=>.cond (cG c) (DH s a) (DH (s+Ec P a) b)
 |s,.block i a=>.block i (DH s a)
 |s,.loop a=>.loop (DH s a)
 |s,.exit i=>.exit i
 |s,.scope a=>.scope (DH s a)
 |s,.label l=>.label l
 |s,.rangeFunc f ps a b=>.rfunc (cG f) ps.toList (DH s a) (DH (s+Ec P a) b)
 |s,_=>.ret
def cRs:List ResultVar->List ARes
 |[]=>[]
 |.tmp a :: l=>.t a :: cRs l
 |.cell a t :: l=>.c a (cAg P t) (cLd P t) :: cRs l
def cF(fn:Func):AX:=match fn.body with
 |some c=>DH P sm 0 c
 |none=>.ret
def cFi(fn:Func):AX:=match fn.body with
 |some c=>DH P sm 1000 c
 |none=>.ret
def ckFi(fn:Func)(n:Nat):Bool:=match fn.body with
 |some c=>Ab (AA P c (DH P sm 1000 c)) (Ab (Dm P fn.results.toList []) (Nat.ble n fn.ntmps) false) false
 |none=>false
def ckF(fn:Func)(n:Nat):Bool:=match fn.body with
 |some c=>Ab (AA P c (DH P sm 0 c)) (Ab (Dm P fn.results.toList (cRs P fn.results.toList)) (Nat.ble n fn.ntmps) false) false
 |none=>false
end
theorem AY.cast{E:Nat->Aa}{P:Program}{f f':FuncId}{a a':List Aa}{v v':Aa}(H:AY E P f a v)(e:(f,a,v)=(f',a',v')):AY E P f' a' v':=by cases e;exact H
section
variable [Tab]
theorem Av.still{C:Fc}(H:Av C){x:Row C.a}{y:Row C.r}(h:C.F x=some y){f:FuncId}{a:List Aa}{v:Aa}(e:(C.f,At (prmS C.a C.p x),A7 (retT C.r y))=(f,a,v)):AY TabT.E TabT.P f a v:=(H.ok x y h).cast e
theorem Y6[TabOk](hE:∀i,AC (TabT.E i))(H:List Fe)(sm:List (Nat×Nat))(ty:List (Nat×CT))(h:HT){C:Fc}{fn:Func}(hf:TabT.P.funcs[C.f]?=some fn)(he:Ci TabT.P C.f=true)(hc:ckF TabT.P sm fn C.a.length=true) (ht:∀x,funT H ty (cRs TabT.P fn.results.toList) fn.ntmps (cF TabT.P sm fn) h C x=C.F x):Av C:=by
 unfold ckF at hc;unfold cF at ht;split at hc
 ·rename_i c hb;rw[hb]at ht;obtain⟨h1,hc⟩:=Aw hc;obtain⟨h2,hc⟩:=Aw hc;exact wzvq hE hf hb h2 h1 rfl (FY hc) he ht
 ·cases hc
theorem jzee[TabOk](hE:∀i,AC (TabT.E i))(H:List Fe)(sm:List (Nat×Nat))(ty:List (Nat×CT))(h:HT){Q:Qc}{fn:Func}(hf:TabT.P.funcs[Q.f]?=some fn)(he:Ci TabT.P Q.f=true)(hc:ckF TabT.P sm fn Q.a.length=true) (ht:∀x,funQ H ty (cRs TabT.P fn.results.toList) fn.ntmps (cF TabT.P sm fn) h Q x=Q.F x):QcOk Q:=by
 unfold ckF at hc;unfold cF at ht;split at hc
 ·rename_i c hb;rw[hb]at ht;obtain⟨h1,hc⟩:=Aw hc;obtain⟨h2,hc⟩:=Aw hc;exact jzgv hE hf hb h2 h1 rfl (FY hc) he ht
 ·cases hc
theorem jzgn[TabOk](H:List Fe)(sm:List (Nat×Nat))(ty:List (Nat×CT))(h:HT){C:Sc}{fn:Func}(hf:TabT.P.funcs[C.f]?=some fn)(he:Ci TabT.P C.f=true)(hc:ckFi TabT.P sm fn (C.a.length+1)=true) (ht:∀x st,itrT H ty fn.ntmps (cFi TabT.P sm fn) h C x st=C.G x st):ScOk C:=by
 unfold ckFi at hc;unfold cFi at ht;split at hc
 ·rename_i c hb;rw[hb]at ht;obtain⟨h1,hc⟩:=Aw hc;obtain⟨h2,hc⟩:=Aw hc;exact jzgu hf hb h2 h1 rfl (FY hc) he ht
 ·cases hc
end
end Go.Am

