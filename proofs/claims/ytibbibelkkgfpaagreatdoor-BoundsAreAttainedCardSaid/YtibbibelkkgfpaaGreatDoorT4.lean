/- Part T4: a typed interpreter of abstract code, proved sound over the machine. No condition. -/
import Derived.Test.YtibbibelkkgfpaaGreatDoorT3
set_option linter.unusedSimpArgs false
set_option linter.unusedVariables false
namespace Go.Am
theorem wzkw{G ω:Type}{body:G->Option (G⊕ω)}{N:Nat}{s:G}{o:ω}(h:lpN body (N+1) s=some o):(∃s',body s=some (.inl s')/\lpN body N s'=some o)\/body s=some (.inr o):=by
 unfold lpN at h;split at h
 ·rename_i s' hb;exact .inl ⟨s',hb,h⟩
 ·rename_i o' hb;cases h;exact .inr hb
 ·cases h
section
variable {E:Nat->Aa}{P:Program}
theorem ATr.rw{f:FuncId}{args:List Aa}{h:Aq}{r:Aa}(H:ATr E P f args h (fun v _=>W v r)):ATr E P f args h (fun v _=>v=r) :=
 fun g w vs hh hv=>(H g w vs hh hv).mono fun _ _ ⟨g',h',v,u,q,e,rv,rest⟩=>⟨g',h',r,u,rfl,e,rv.w q,rest⟩
theorem wzc8{S:As}{rs:List ARes}{l:List Aa}(h:rs.map (ARes.val S)=l):HU S rs=match (generalizing:=false) l with | [x]=>x | l=>.tup l:=by
 subst h
 match rs with
 |[]=>rfl
 |[r]=>rfl
 |r :: s :: rs=>rfl
end
section
variable [Tab]
section
variable {ρ:Option Nat}{U:Phi}{T:Av}
theorem qz5r[TabOk]{c:AO}{α:Type}{J:Option (List OutH)}{inner:(Y:Type)->Av->(Exit->Av->Option Y)->Option Y}{K:Exit->Av->Option α}{r:α}(h:R9 J T inner K=some r)(hI:InvT U T)(hg:T.gs=[])(hρ:T.rf<50->ρ=none)(k:∀{Y:Type} {T:Av} {K:Exit->Av->Option Y} {r:Y},inner Y T K=some r->InvT U T->T.gs=[]->(T.rf<50->ρ=none)->AW TabT.E ρ TabT.P c (FinT K r U T) (em U T)):AW TabT.E ρ TabT.P c (FinT K r U T) (em U T):=by
 cases J with
 |none=>exact k h hI hg hρ
 |some l =>obtain⟨y,h1,h2⟩:=N3 (show bd (inner (OutT l) (cl0 T) (injT T l)) (aftT T K l)=some r from h);refine(k (T:=cl0 T) h1 (qzts hI hg) rfl hρ).mono ?_;rintro e S ⟨U1,T1,k1,k2,k3,k4,k5⟩;obtain⟨H,q,q1,_,q2⟩:=RU k1;obtain⟨U',j1,j2,j3⟩:=N9 hI k3 k2 q1;exact⟨U',_,by rw[<-q2 T K];exact h2,j1,j2,rfl,k5.trans j3⟩
theorem Ey{T1:Av}{ob:List (Nat×OH)}:∀{sl:List (Nat×SH)},chS T T1 ob sl=true->chS (cl0 T) T1 ob sl=true
 |[],_=>rfl
 |(i,.k) :: sl,h=>by have h:Ac (memN i T1.w) false (Ac (kpP T T1 (Ay T.t i)) (chS T T1 ob sl) false)=true:=h;obtain⟨p1,h⟩:=KQ h;obtain⟨p2,h⟩:=BH h;show Ac (memN i T1.w) false (Ac (kpP (cl0 T) T1 (Ay T.t i)) (chS (cl0 T) T1 ob sl) false)=true;rw[p1,show kpP (cl0 T) T1 (Ay T.t i)=kpP T T1 (Ay T.t i) from rfl,p2,Ey h];rfl
 |(i,.v c) :: sl,h=>Ey (sl:=sl) h
 |(i,.c a) :: sl,h=>by
  simp only[chS]at h |-;split at h
  ·obtain⟨p1,h⟩:=BH h;rw[p1,Ey h];rfl
  ·cases h
 |(i,.own id) :: sl,h=>by
  simp only[chS]at h |-;split at h
  ·obtain⟨p1,h⟩:=BH h;obtain⟨p2,h⟩:=BH h;obtain⟨p3,h⟩:=BH h;rw[p1,p2,p3,Ey h];rfl
  ·split at h;·obtain⟨p1,h⟩:=BH h;rw[p1,Ey h];rfl
   ·obtain⟨p1,h⟩:=BH h;rw[p1,Ey h];rfl
   ·cases h
  ·cases h
 |(i,.vec id) :: sl,h=>by
  simp only[chS]at h |-;split at h
  ·obtain⟨p1,h⟩:=BH h;obtain⟨p2,h⟩:=BH h;obtain⟨p3,h⟩:=BH h;rw[p1,p2,p3,Ey h];rfl
  ·cases h
 |(i,.ptr id off) :: sl,h=>by
  simp only[chS]at h |-;split at h
  ·obtain⟨p1,h⟩:=BH h;obtain⟨p2,h⟩:=BH h;obtain⟨p3,h⟩:=BH h;rw[p1,p2,p3,Ey h];rfl
  ·cases h
 |(i,.mp id) :: sl,h=>by
  simp only[chS]at h |-;split at h
  ·obtain⟨p1,h⟩:=BH h;obtain⟨p2,h⟩:=BH h;rw[p1,p2,Ey h];rfl
  ·cases h
theorem Ht{T1:Av}{oA:List (Nat×OH)}:∀{ob:List (Nat×OH)},chO T T1 oA ob=true->chO (cl0 T) T1 oA ob=true
 |[],_=>rfl
 |(i,.k) :: ob,h=>by have h:Ac (memN i T1.wo) false (chO T T1 oA ob)=true:=h;obtain⟨p1,h⟩:=KQ h;show Ac (memN i T1.wo) false (chO (cl0 T) T1 oA ob)=true;rw[p1,Ht h];rfl
 |(i,.gone) :: ob,h=>Ht (ob:=ob) h
 |(i,.box _) :: ob,h=>Ht (ob:=ob) h
 |(i,.own _) :: ob,h=>Ht (ob:=ob) h
 |(i,.vec _) :: ob,h=>Ht (ob:=ob) h
 |(i,.map _ _) :: ob,h=>Ht (ob:=ob) h
theorem qz8y{T1:Av}{H:OutH}{r:Row H.cts}(h:arrT T T1 H=some r):arrT (cl0 T) T1 H=some r:=by
 unfold arrT at h |-;split at h
 ·rename_i a b ha hb;replace h:=AG h;obtain⟨p1,h⟩:=h;replace h:=AG h;obtain⟨p2,h⟩:=h;simp only[ha,hb,Ey p1,Ht p2,II];exact h
 ·cases h
theorem wzqr{rs:List ARes}(hI:InvT U T)(hg:T.gs=[]):∃U',InvT U' (frzR rs T)/\Log U T U' (frzR rs T)/\(frzR rs T).gs=[]/\See TabT.E (em U T) (em U' (frzR rs T)):=by obtain⟨U',h1,h2,h3,h4⟩:=KP (Fb T false true (rs.map fun r=>match r with | .t n=>.t n | .c n _ _=>.t n)++refI T rs) hI;exact⟨U',h1,h2,h3.trans hg,h4⟩
theorem Fh[TabOk]{H:List Fe}{ty:List (Nat×CT)}{rs:List ARes}:∀{c:AO} {α:Type} {h:HT} {T:Av} {K:Exit->Av->Option α} {r:α} {U:Phi} {ρ:Option Nat},BV H ty rs c α h T K=some r->InvT U T->T.gs=[]->(T.rf<50->ρ=none)->AW TabT.E ρ TabT.P c (FinT K r U T) (em U T)
 |.skip,α,h,T,K,r,U,ρ,hc,hI,hg,hρ=>.skip ⟨U,T,hc,hI,.refl _ _,hg,.refl _⟩
 |.reg false ops pr,α,h,T0,K,r,U0,ρ,hc,cM,gm,hρ=>by have hc:regT H ty ops T0 (K .normal)=some r:=hc;exact .sreg (RP (ops:=ops) hc cM (.of cM gm)).sreg
 |.reg true ops pr,α,h,T0,K,r,U0,ρ,hc,cM,gm,hρ=>by
  have hc:(fun T=>KH H ty ops T fun T' tr=>Ac (Fz ops pr tr) (K .normal (endT T')) none) (frzA T0 (drwF T0 [] ops))=some r:=hc;obtain⟨U,hI,l0,g0,s0⟩:=KP (drwF T0 [] ops) cM;generalize frzA T0 (drwF T0 [] ops)=T at *;have hg:T.gs=[]:=g0.trans gm;refine .see s0 (AW.mono (Q:=fun e S=>∃U' T',K e T'=some r/\InvT U' T'/\Log U T U' T'/\T'.gs=[]/\See TabT.E S (em U' T')) ?_ ?_);rotate_left
  ·rintro e S ⟨U',T',k1,k2,k3,k4,k5⟩;exact⟨U',T',k1,k2,l0.trans k3,k4,k5⟩
  obtain⟨U',T',tr,k1,k2,k3,k4⟩:=qzvq hc hI;obtain⟨p,k1⟩:=AG k1;obtain⟨e1,e2,e3,e4⟩:=qzy9 k2 ((CW.of hI hg).log k3);exact .drawC (k4 _ ⟨p,U',_,k1,e1,k3.trans e2,e3,e4⟩)
 |.seq a b,α,h,T,K,r,U,ρ,hc,hI,hg,hρ=>by
  refine .seq ((Fh (c:=a) hc hI hg hρ).mono ?_);rintro e S ⟨U1,T1,k1,k2,k3,k4,k5⟩;cases e with
  |normal=>exact .see k5 ((Fh (c:=b) k1 k2 k4 fun e=>hρ (SN k3.fr.le e)).mono fun e S' q=>q.step k3)
  |_=>exact⟨U1,T1,k1,k2,k3,k4,k5⟩
 |.cond c a b,α,h,T,K,r,U,ρ,hc,hI,hg,hρ=>by
  refine qz5r hc hI hg hρ ?_;intro Y T K r hi hI hg hρ;split at hi
  ·rename_i x hx;have hc:Ah TabT.E (em U T).t c=.bool x:=((FT hI).a _ _ hx).1;cases x with
   |false =>have aW:∃h',BV H ty rs b Y h' T K=some r:=(by cases c<;>exact⟨_,hi⟩);obtain⟨h',aW⟩:=aW;exact .cond hc (fun e=>by cases e) (fun _=>Fh (c:=b) aW hI hg hρ)
   |true =>have aW:∃h',BV H ty rs a Y h' T K=some r:=(by cases c<;>exact⟨_,hi⟩);obtain⟨h',aW⟩:=aW;exact .cond hc (fun _=>Fh (c:=a) aW hI hg hρ) (fun e=>by cases e)
  ·cases hi
 |.ret,α,h,T,K,r,U,ρ,hc,hI,hg,hρ=>by obtain⟨U',h1,h2,h3,h4⟩:=wzqr (rs:=rs) hI hg;exact .ret ⟨U',_,hc,h1,h2,h3,h4⟩
 |.exit i,α,h,T,K,r,U,ρ,hc,hI,hg,hρ=>.exit ⟨U,T,hc,hI,.refl _ _,hg,.refl _⟩
 |.scope c,α,h,T,K,r,U,ρ,hc,hI,hg,hρ=>by
  refine .scope ((Fh (c:=c) hc hI hg hρ).mono ?_);rintro e S ⟨U1,T1,k1,k2,k3,k4,k5⟩;cases e with
  |goto l=>cases k1
  |_=>exact⟨U1,T1,k1,k2,k3,k4,k5⟩
 |.label l,α,h,T,K,r,U,ρ,hc,hI,hg,hρ=>.label ⟨U,T,hc,hI,.refl _ _,hg,.refl _⟩
 |.any,α,h,T,K,r,U,ρ,hc,hI,hg,hρ=>by cases hc
 |.block i c,α,h,T,K,r,U,ρ,hc,hI,hg,hρ=>by
  refine qz5r hc hI hg hρ ?_;intro Y T K r hi hI hg hρ;refine .block ((Fh (c:=c) hi hI hg hρ).mono ?_);rintro e S ⟨U1,T1,k1,k2,k3,k4,k5⟩;cases e with
  |exit j =>
   have k1:Ac (Nat.beq j i) (K .normal T1) (K (.exit j) T1)=some r:=k1;show if j=i then _ else _;cases hj:Nat.beq j i<;>rw[hj]at k1
   ·rw[Ag (Ep.1 hj)];exact⟨U1,T1,k1,k2,k3,k4,k5⟩
   ·rw[Aj (AL.1 hj)];exact⟨U1,T1,k1,k2,k3,k4,k5⟩
  |_=>exact⟨U1,T1,k1,k2,k3,k4,k5⟩
 |.loop c,α,.l fz hd J h,T0,K,r,U0,ρ,hc,cM,gm,hρ=>by
  obtain⟨U,hI,mR,hg,gX⟩:=KP fz cM;have hg:=hg.trans gm
  have hc:(fun T=>match arrT T (cl0 T) hd with
   | some r0=>bd (lp (fun r=>BV H ty rs c (Row hd.cts⊕OutT J) h (rebT (cl0 T) hd r) fun e T'=>match e with
    |.normal=>match arrT T T' hd with
     |some r=>some (.inl r)
     |none=>none
    |e=>match injT T J e T' with
     |some r=>some (.inr r)
     | none=>none) r0) (aftT T K J)
   | none=>none) (frzA T0 fz)=some r:=hc
  refine .see gX (AW.mono ?_ fun e S q=>FinT.step mR q);replace hρ:(frzA T0 fz).rf<50->ρ=none:=fun e=>hρ (SN mR.fr.le e);generalize frzA T0 fz=T at *
  have hc:(match arrT T (cl0 T) hd with
   | some r0=>bd (lp (fun r=>BV H ty rs c (Row hd.cts⊕OutT J) h (rebT (cl0 T) hd r) fun e T'=>match e with
    |.normal=>match arrT T T' hd with
     |some r=>some (.inl r)
     |none=>none
    |e=>match injT T J e T' with
     |some r=>some (.inr r)
     | none=>none) r0) (aftT T K J)
   | none=>none)=some r:=hc
  split at hc
  ·rename_i r0 fA;obtain⟨o,h1,h2⟩:=N3 hc;rw[JO]at h1;have lX:=qzts hI hg;obtain⟨U1,j1,j2,j3⟩:=N9 lX (.refl _ _) lX (qz8y fA)
   refine .loop (fun x:Nat×Row hd.cts×Phi=>em x.2.2 (rebT (cl0 T) hd x.2.1)) (fun x=>x.1) (fun x=>lpN (fun r=>BV H ty rs c (Row hd.cts⊕OutT J) h (rebT (cl0 T) hd r) fun e T'=>match e with
    |.normal=>match arrT T T' hd with
     |some r=>some (.inl r)
     |none=>none
    |e=>match injT T J e T' with
     |some r=>some (.inr r)
     | none=>none) x.1 x.2.1=some o/\InvT x.2.2 (rebT (cl0 T) hd x.2.1)/\Log U (cl0 T) x.2.2 (rebT (cl0 T) hd x.2.1)) (4611686018427387904,r0,U1) ⟨h1,j1,j2⟩ j3 ?_
   rintro⟨N,q,Ux⟩ ⟨hN,mT,mU⟩;cases N with
   |zero=>cases hN
   |succ N =>
    rcases wzkw hN with ⟨s',hb,hN⟩|hb
    ·refine(Fh (c:=c) hb mT rfl hρ).mono ?_;rintro e S ⟨U2,T2,k1,k2,k3,k4,k5⟩;cases e with
     |normal =>
      have k1:(match arrT T T2 hd with | some r=>some (Sum.inl r) | none=>none)=some (.inl s'):=k1;split at k1
      ·rename_i r' bu;cases k1;obtain⟨U3,l1,l2,l3⟩:=N9 lX (mU.trans k3) k2 (qz8y bu);exact⟨(N,s',U3),⟨hN,l1,l2⟩,CU _,k5.trans l3⟩
      ·cases k1
     |_ =>exfalso;revert k1;show(match injT T J _ T2 with | some r=>some (Sum.inr r) | none=>none)=some (.inl s')->False;split<;>(intro k;cases k)
    ·refine(Fh (c:=c) hb mT rfl hρ).mono ?_;rintro e S ⟨U2,T2,k1,k2,k3,k4,k5⟩
     have fin:(match injT T J e T2 with | some r=>some (Sum.inr r) | none=>none)=some (@Sum.inr (Row hd.cts) _ o)->FinT K r U T e S:=by
      intro k1;split at k1
      ·rename_i q1 oS;cases k1;obtain⟨H1,r1,p1,_,p2⟩:=RU oS;obtain⟨U3,l1,l2,l3⟩:=N9 hI (mU.trans k3) k2 p1;exact⟨U3,_,by rw[<-p2 T K];exact h2,l1,l2,rfl,k5.trans l3⟩
      ·cases k1
     cases e with
     |normal =>exfalso;revert k1;show(match arrT T T2 hd with | some r=>some (Sum.inl r) | none=>none)=some (.inr o)->False;split<;>(intro k;cases k)
     |_=>exact fin k1
  ·cases hc
 |.loop c,α,.n,T,K,r,U,ρ,hc,hI,hg,hρ=>by cases hc
 |.loop c,α,.s _ _,T,K,r,U,ρ,hc,hI,hg,hρ=>by cases hc
 |.loop c,α,.c _ _ _,T,K,r,U,ρ,hc,hI,hg,hρ=>by cases hc
 |.loop c,α,.b _ _,T,K,r,U,ρ,hc,hI,hg,hρ=>by cases hc
theorem RW(hI:InvT U T):∀{rs:List ARes} {l:List SV},resS T rs=some l->HS (em U T) rs/\rs.map (ARes.val (em U T))=Ax l
 |[],l,h=>by cases h;exact⟨trivial,rfl⟩
 |.t n :: rs,l,h=>by
  simp only[resS]at h;split at h
  ·rename_i v r h1 h2;cases h;obtain⟨k1,k2⟩:=RW hI h2;refine⟨⟨trivial,k1⟩,?_⟩;show(em U T).t.getD n .top :: rs.map (ARes.val (em U T))=A0 v :: Ax r;rw[Et hI,h1,k2];rfl
  ·cases h
 |.c n agg sz :: rs,l,h=>by
  simp only[resS]at h;split at h
  ·rename_i id st r h1 h2;split at h
   ·rename_i st' cs ho;replace h:=AG h;obtain⟨p1,h⟩:=h;replace h:=AG h;obtain⟨p2,h⟩:=h;replace h:=AG h;obtain⟨p3,h⟩:=h;obtain rfl:=AL.1 p1;have p2:=AL.1 p2;cases h;obtain⟨k1,k2⟩:=RW hI h2;have e1:(em U T).t.getD n .top=.ptr id (U id st).ep 0:=by rw[Et hI,h1];rfl
    have e2:(em U T).h id=.box (U id st).ep (Ax cs):=Hm ho;have e3:D0 agg sz ((em U T).t.getD n .top) (em U T).h=⟨(U id st).ep=(U id st).ep/\0+sz<=(Ax cs).length/\(agg=false->sz=1),[id],ldv agg sz (Ax cs) 0,none⟩:=(by simp only[D0,e1,e2]);refine⟨⟨?_,k1⟩,?_⟩
    ·show(D0 agg sz ((em U T).t.getD n .top) (em U T).h).ok;rw[e3];exact⟨rfl,by rw[Gp];omega,Nq p3⟩
    ·show(D0 agg sz ((em U T).t.getD n .top) (em U T).h).v :: rs.map (ARes.val (em U T))=A0 (ldS agg sz cs 0) :: Ax r;rw[e3,k2,Nl]
   ·cases h
  ·cases h
theorem qz0w:∀(c:CT) (l:List CT) (r:RowC c.T l),Hd c l [] r=Hc c l r
 |c,[],r=>rfl
 |c,d :: l,r=>by show _ :: Hd d l [] r.2=_ :: Hc d l r.2;rw[qz0w d l];rfl
theorem wzk6:∀(l:List CT) (r:Row l),prmS l [] r=rowW l r
 |[],r=>rfl
 |c :: l,r=>qz0w c l r
theorem wzpg[TabOk]{H:List Fe}{cs:List CT}{l:List SV}{y:Row cs}(h:FN H cs [] l=some y):W (match Ax l with | [x]=>x | l=>.tup l) (A0 (retT cs y)):=by
 have hw:Ws (Ax l) (Ax (rowW cs y)):=by have:=KC h;rw[wzk6]at this;exact this
 match cs,y,hw with
 |[],y,hw =>
  cases l with
  |nil=>exact .refl _
  |cons x l=>exact hw.elim
 |[c],y,hw =>
  match l,hw with
  |[],hw=>exact hw.elim
  |[x],hw=>exact hw.1
  |x :: x' :: l,hw=>exact hw.2.elim
 |c :: d :: cs,y,hw =>
  match l,hw with
  |[],hw=>exact hw.elim
  |[x],hw=>exact(show Ws [] (Ax (Hc d cs y.2)) from hw.2) |> fun h=>by cases cs<;>exact h.elim
  |x :: x' :: l,hw=>exact OK.2 hw
theorem qz4b:∀(l:List SV) (i:Nat),eTm U (zipS i l)=zipA i (Ax l)
 |[],i=>rfl
 |x :: l,i=>by show(i,A0 x) :: eTm U (zipS (i+1) l)=(i,A0 x) :: zipA (i+1) (Ax l);rw[qz4b l]
theorem wznj:∀(l:List SV) (i j:Nat),∃v,Ay (zipS i l) j=.v (.s v)
 |[],i,j=>⟨.top,rfl⟩
 |x :: l,i,j=>by
  show ∃v,Ay ((i,.v (.s x)) :: zipS (i+1) l) j=.v (.s v);rw[Bt];split
  ·exact⟨x,rfl⟩
  ·exact wznj l (i+1) j
theorem wzfx:∀(l:List SV) (i j:Nat),i+l.length<=j->Ay (zipS i l) j=.v (.s .top)
 |[],i,j,_=>rfl
 |x :: l,i,j,h=>by have h:i+(l.length+1)<=j:=h;show Ay ((i,.v (.s x)) :: zipS (i+1) l) j=_;rw[Bt,Ag (by simp only;omega)];exact wzfx l (i+1) j (by omega)
theorem qz1c(c:CT):∀(l:List CT) (p:List Bool) (r:RowC c.T l),(Hd c l p r).length=l.length+1
 |[],p,r=>rfl
 |d :: l,p,r=>by show _+1=_;rw[qz1c d l p.tail r.2];rfl
theorem RY:∀(l:List CT) (p:List Bool) (r:Row l),(prmS l p r).length=l.length
 |[],p,r=>rfl
 |c :: l,p,r=>qz1c c l p r
def UZ:Phi:=⟨fun _ _=>⟨0,0,fun _=>[]⟩,h0,[],()⟩
theorem wzi8{n:Nat}{a:List CT}{p:List Bool}{x:Row a}(hl:a.length<=n):InvT UZ (iniT n a p x):=by
 have aE:(prmS a p x).length=a.length:=RY _ _ _;refine⟨fun i=>?_,fun i hi=>?_,fun id st o ho=>(by cases ho),⟨fun id p ho=>(by cases ho),fun i _=>⟨0,rfl⟩,fun i _ _=>⟨0,rfl⟩,fun D hD=>(by cases hD),fun _ _ i _ _=>⟨0,rfl⟩,trivial,trivial⟩⟩
 ·obtain⟨v,hv⟩:=wznj (prmS a p x) 0 i;show TOk _ _ (Ay (zipS 0 (prmS a p x)) i);rw[hv];exact⟨trivial,trivial⟩
 ·have hi:n<=i:=hi;exact wzfx _ _ _ (by omega)
theorem wzo0{n:Nat}{a:List CT}{p:List Bool}{x:Row a}(hl:a.length<=n):em UZ (iniT n a p x)=⟨Ax (prmS a p x)++List.replicate (n-a.length) .top,h0,[]⟩:=by have aE:(prmS a p x).length=a.length:=RY _ _ _;rw[JJ,Gp,aE,show a.length+(n-a.length)=n by omega,<-qz4b (U:=UZ)];rfl
theorem wzot[TabOk]{H:List Fe}(hE:∀i,AB (TabT.E i)){ty:List (Nat×CT)}{rs:List ARes}{n:Nat}{ac:AO}{h:HT}{C:Fc}{fn:Func}{c:Code}(hf:TabT.P.funcs[C.f]?=some fn) (hb:fn.body=some c) (hr:DT TabT.P fn.results.toList rs=true) (hc:AF TabT.P c ac=true) (hn:fn.ntmps=n) (hl:C.a.length<=n) (he:CQ TabT.P C.f=true)(ht:∀x,funT H ty rs n ac h C x=C.F x):Ap C:=by
 refine⟨he,fun x y hy=>?_⟩;have hT:=ht x;rw[hy]at hT;have aE:(prmS C.a C.p x).length=C.a.length:=RY _ _ _
 have hw:AW TabT.E none TabT.P ac (Post TabT.E rs (fun v _=>W v (A0 (retT C.r y)))) (em UZ (iniT n C.a C.p x)):=by
  refine(Fh (c:=ac) hT (wzi8 hl) rfl fun _=>rfl).mono ?_;rintro e S ⟨U',T',k1,k2,k3,k4,k5⟩;cases e with
  |ret =>
   have k1:(match resS T' rs with | some l=>FN H C.r [] l | none=>none)=some y:=k1;split at k1
   ·rename_i l hl;obtain⟨q1,q2⟩:=RW k2 hl;refine⟨em U' T',k5,q1,fun i=>.gone ((em U' T').h i).ep,fun i=>.inl rfl,fun D _=>⟨_,rfl⟩,?_⟩;rw[wzc8 q2];exact wzpg k1
   ·cases k1
  |_=>cases k1
 rw[wzo0 hl]at hw;have hp:Pure TabT.E TabT.P C.f (Ax (prmS C.a C.p x)) (A0 (retT C.r y)):=ATr.rw (ATr.of hf hb hr hc (n-C.a.length) (by rw[hn,Gp,aE]) hw);exact hp.still hE (He _) (ZK _)
end
end
def cV1:Value->Aa
 |.int k n=>.int k n
 |.bool a=>.bool a
 |.string s=>.str s.data.toList
 |.slice none _ _=>.nils
 |.pointer none=>.nilp
 |.nilFunc=>.nilfn
 |.map none=>.nilmp
 |_=>.top
def cVs:List Value->List Aa
 |[]=>[]
 |v :: l=>cV1 v :: cVs l
def cV:Value->Aa
 |.agg cs=>.agg (cVs cs.toList)
 |.tuple cs=>.tup (cVs cs.toList)
 |v=>cV1 v
def cG:Operand->Ae
 |.tmp n=>.t n
 |.const v=>.c (cV v)
 |.global i=>.g i
 |.func f=>.c (.fn f 0 [])
def cGs:List Operand->List Ae
 |[]=>[]
 |x :: l=>cG x :: cGs l
def cGo:Option Operand->Option Ae
 |some x=>some (cG x)
 |none=>none
def oN:Option Nat->Nat
 |some n=>n
 |none=>0
section
variable (P:Program)
def cSz(t:TypeId):Nat:=oN (szOf P t)
def cAg(t:TypeId):Bool:=match D1 P t with
 |some b=>b
 |none=>false
def cZ(t:TypeId):List Aa:=match D2 P t with
 |some z=>cVs z
 |none=>[]
def cLd(t:TypeId):Nat:=Ac (cAg P t) (cSz P t) 1
def cPl(f:Nat->Option (Nat×Nat)):List (Nat×Operand)->List (Nat×Nat×Ae)
 |[]=>[]
 | (i,x) :: l=>(match f i with
  |some (o,s)=>(o,s,cG x)
  | none=>(0,0,cG x)) :: cPl f l
def wzb4:BinOp->Bool
 |.neq=>true
 |_=>false
def wzu6(s:Nat)(b:Builtin):List Operand->List TypeId->An
 |[x],[t]=>match b with
  |.len=>match P.underlying t with
   |some .string=>.len true (cG x)
   |_=>.len false (cG x)
  |.clear=>match P.underlying t with
   |some (.slice e)=>.clear (cZ P e) (cG x)
   |_=>.mv (.c .top)
  |_=>.mv (.c .top)
 |[x,y],[t,_]=>match b with
  |.max=>.max (cG x) (cG y)
  |.min=>.min (cG x) (cG y)
  |.append=>match P.underlying t with
   |some (.slice e)=>.append s (cSz P e) (oN (byOf P e)) (cG x) (cG y)
   |_=>.mv (.c .top)
  |.copy=>match P.underlying t with
   |some (.slice e)=>.copy (cSz P e) (cG x) (cG y)
   |_=>.mv (.c .top)
  |_=>.mv (.c .top)
 |_,_=>.mv (.c .top)
def cZv(agg:Bool)(z:List Aa):Aa:=Ac agg (.agg z) (z.getD 0 .top)
def cOp(fz:Bool)(s:Nat):Op->An
 |.move x=>.mv (cG x)
 |.assign x=>.mv (cG x)
 |.pick c x y=>.pick (cG c) (cG x) (cG y)
 |.binOp op t x y _=>match P.underlying t with
  | some (.struct _)=>.eqagg (match eqFields P 9 t with
   |some l=>l
   | none=>[]) (wzb4 op) (cG x) (cG y)
  |some (.slice _)=>.isnil (wzb4 op) (cG x)
  |some .bool=>.bin op true (cG x) (cG y)
  |_=>.bin op false (cG x) (cG y)
 |.unOp op _ x=>match op with
  |.not=>.not (cG x)
  |_=>.neg (cG x)
 |.alloc t=>.alloc s (cZ P t)
 |.box _ x=>.box s (cG x)
 |.load t x=>.load (cAg P t) (cLd P t) (cG x)
 |.store t x y=>.store (cSz P t) (cG x) (cG y)
 |.nilCheck x=>.nilck (cG x)
 |.fieldAddr t x f=>match J7 P t f with
  |some (o,_)=>.faddr o (cG x)
  |none=>.mv (.c .top)
 |.indexAddr t x i=>match P.underlying t with
  |some (.slice e)=>.iaddrS (cSz P e) (cG x) (cG i)
  |_=>.mv (.c .top)
 |.index t x i=>.sidx (cG x) (cG i)
 |.extract x i=>.extract i (cG x)
 |.build t ps=>match P.underlying t with
  |some (.struct fs)=>match Gx P fs.toList with
   |some l=>.build (cZ P t) (cPl (fun i=>l[i]?) ps.toList)
   |none=>.mv (.c .top)
  |some (.array _ e)=>.build (cZ P t) (cPl (fun i=>some (i*cSz P e,cSz P e)) ps.toList)
  |_=>.mv (.c .top)
 |.buildSlice t n ps=>match P.underlying t with
  |some (.slice e)=>match D2 P e with
   |some z=>Ac fz (.fslice s (cSz P e) n (cVs (HI z (n*cSz P e))) (cPl (fun i=>some (i*cSz P e,cSz P e)) ps.toList)) (.bslice s (cSz P e) n (cVs (HI z (n*cSz P e))) (cPl (fun i=>some (i*cSz P e,cSz P e)) ps.toList))
   |none=>.mv (.c .top)
  |_=>.mv (.c .top)
 |.convert src dst x=>match P.underlying dst with
  |some (.int k)=>.conv k (cG x)
  |some (.slice _)=>.s2b s (cG x)
  |_=>.b2s (cG x)
 |.makeFunc f first caps=>match f with
  |.func f=>.mkfn f first.size (cGs (first.toList++caps.toList))
  |_=>.mv (.c .top)
 |.makeSlice t x _=>match P.underlying t with
  |some (.slice e)=>.mks s (cSz P e) (oN (byOf P e)) (cZ P e) (cG x)
  |_=>.mv (.c .top)
 |.makeMap _ _=>.mkmap s
 |.lookup t x k cok=>match P.underlying t with
  |some (.map kt et)=>.mlook (oN (CE P kt)) cok (cZv (cAg P et) (cZ P et)) (cG x) (cG k)
  |_=>.mv (.c .top)
 |.mapUpdate t m k v=>match P.underlying t with
  |some (.map kt _)=>.mupd (oN (CE P kt)) (cG m) (cG k) (cG v)
  |_=>.mv (.c .top)
 |.insert t m k v=>match P.underlying t with
  |some (.map kt _)=>.mupd (oN (CE P kt)) (cG m) (cG k) (cG v)
  |_=>.mv (.c .top)
 |.slice t x lo hi _=>match P.underlying t with
  |some (.slice e)=>.slice false (cSz P e) (cG x) (cGo lo) (cGo hi)
  |_=>.slice true 0 (cG x) (cGo lo) (cGo hi)
 |.call c=>match c.callee with
  |.value (.func f)=>.callf f (cGs c.args.toList)
  |.value x=>.callv (cG x) (cGs c.args.toList)
  |.builtin b=>wzu6 P s b c.args.toList c.argTypes.toList
  |_=>.mv (.c .top)
 |_=>.mv (.c .top)
def mkS:An->Nat
 |.alloc _ _ | .box _ _ | .bslice _ _ _ _ _ | .fslice _ _ _ _ _ | .mks _ _ _ _ _ | .s2b _ _ | .append _ _ _ _ _ | .mkmap _=>1
 |_=>0
def cGd(ops:Array Oper):Option (Nat×Bool)->Option (Nat×Bool)
 |some (j,want)=>match ops[j]? with
  |some q=>match q.dst with
   |some d=>some (d,want)
   |none=>none
  |none=>none
 |none=>none
def cUs:List Ae->List Nat->List Nat
 |[],r=>r
 |.t n :: l,r=>n :: cUs l r
 |_ :: l,r=>cUs l r
def cP2:List (Nat×Operand)->List Operand
 |[]=>[]
 |p :: l=>p.2 :: cP2 l
def cUse:List Oper->List Nat
 |[]=>[]
 |o :: l=>match o.op with
  |.call c=>match c.callee with
   |.value (.func _)=>cUs (cGs c.args.toList) (cUse l)
   |_=>cUse l
  |.build _ ps=>cUs (cGs (cP2 ps.toList)) (cUse l)
  |.buildSlice _ _ ps=>cUs (cGs (cP2 ps.toList)) (cUse l)
  |_=>cUse l
def cUst:List Oper->List Nat
 |[]=>[]
 |o :: l=>match o.op with
  |.store _ _ x=>cUs (cGs [x]) (cUst l)
  |_=>cUst l
def cFz(us:List Nat):Option Tmp->Bool
 |some d=>memN d us
 |none=>false
def kSm:List (Nat×Nat)->Nat->Nat
 |[],s=>s
 |p :: l,s=>Ac (Nat.beq p.1 s) p.2 (kSm l s)
variable (sm:List (Nat×Nat))
def cOps(us:List Nat)(ops:Array Oper)(s:Nat):List Oper->List Ak
 |[]=>[]
 |o :: l=>⟨o.dst,cOp P (cFz us o.dst) (kSm sm s) o.op,cGd ops o.guard⟩ :: cOps us ops (s+mkS (cOp P false s o.op)) l
def nOps:List Oper->Nat
 |[]=>0
 |o :: l=>mkS (cOp P false 0 o.op)+nOps l
def insN(i:Nat)(l:List Nat):List Nat:=Ac (memN i l) l (i :: l)
def uniN:List Nat->List Nat->List Nat
 |[],l=>l
 |i :: k,l=>insN i (uniN k l)
def cPr1(acc:List (List Nat)):List Edge->List Nat
 |[]=>[]
 |e :: l=>Ac (Region.binds .any e) (insN e.on (uniN (acc.getD e.on []) (cPr1 acc l))) (cPr1 acc l)
def cPr(acc:List (List Nat)):List Oper->List (List Nat)
 |[]=>acc
 |o :: l=>cPr (acc++[cPr1 acc o.after.toList]) l
def DI:Code->Nat
 |.region _ ops _=>nOps P ops.toList
 |.seq a b=>DI a+DI b
 |.cond _ a b=>DI a+DI b
 |.block _ a=>DI a
 |.loop a=>DI a
 |.scope a=>DI a
 |.rangeFunc _ _ a b=>DI a+DI b
 |_=>0
def Fi:Nat->Code->AO
 |s,.skip=>.skip
 |s,.region _ ops d=>Ac d (.reg true (cOps P sm (cUst ops.toList++cUse ops.toList) ops s ops.toList) (cPr [] ops.toList)) (.reg false (cOps P sm (cUse ops.toList) ops s ops.toList) [])
 |s,.seq a b=>.seq (Fi s a) (Fi (s+DI P a) b)
 |s,.cond c a b=>.cond (cG c) (Fi s a) (Fi (s+DI P a) b)
 |s,.block i a=>.block i (Fi s a)
 |s,.loop a=>.loop (Fi s a)
 |s,.exit i=>.exit i
 |s,.scope a=>.scope (Fi s a)
 |s,.label l=>.label l
 |s,_=>.ret
def cRs:List ResultVar->List ARes
 |[]=>[]
 |.tmp a :: l=>.t a :: cRs l
 |.cell a t :: l=>.c a (cAg P t) (cLd P t) :: cRs l
def cF(fn:Func):AO:=match fn.body with
 |some c=>Fi P sm 0 c
 |none=>.ret
def ckF(fn:Func)(n:Nat):Bool:=match fn.body with
 |some c=>Ac (AF P c (Fi P sm 0 c)) (Ac (DT P fn.results.toList (cRs P fn.results.toList)) (Nat.ble n fn.ntmps) false) false
 |none=>false
end
theorem AK.cast{E:Nat->Aa}{P:Program}{f f':FuncId}{a a':List Aa}{v v':Aa}(H:AK E P f a v)(e:(f,a,v)=(f',a',v')):AK E P f' a' v':=by cases e;exact H
section
variable [Tab]
theorem Ap.still{C:Fc}(H:Ap C){x:Row C.a}{y:Row C.r}(h:C.F x=some y){f:FuncId}{a:List Aa}{v:Aa}(e:(C.f,Ax (prmS C.a C.p x),A0 (retT C.r y))=(f,a,v)):AK TabT.E TabT.P f a v:=(H.ok x y h).cast e
theorem Ys[TabOk](hE:∀i,AB (TabT.E i))(H:List Fe)(sm:List (Nat×Nat))(ty:List (Nat×CT))(h:HT){C:Fc}{fn:Func}(hf:TabT.P.funcs[C.f]?=some fn)(he:CQ TabT.P C.f=true)(hc:ckF TabT.P sm fn C.a.length=true) (ht:∀x,funT H ty (cRs TabT.P fn.results.toList) fn.ntmps (cF TabT.P sm fn) h C x=C.F x):Ap C:=by
 unfold ckF at hc;unfold cF at ht;split at hc
 ·rename_i c hb;rw[hb]at ht;obtain⟨h1,hc⟩:=BH hc;obtain⟨h2,hc⟩:=BH hc;exact wzot hE hf hb h2 h1 rfl (Ll hc) he ht
 ·cases hc
end
end Go.Am

