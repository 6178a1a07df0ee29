/- Part C8: contracts of some functions of this seat. No condition. -/
import Derived.Test.YtbidhbeoimpjbaaGreatDoorC4
import Derived.Test.YtbidhbeoimpjbaaGreatDoorC6
import Derived.Test.YtbidhbeoimpjbaaGreatDoorC7
set_option linter.unusedSimpArgs false
set_option linter.unusedVariables false
set_option maxRecDepth 100000
namespace Go.Am
open Go.Proofs
attribute [local simp] areg aop dreg dop Ak.req Ag argU Ak.args BI Ak.unAll Req.val Req.when putT putH Bb ablk CA Ca Gc Ha BD MB MC MD ME MF MG MH MI MJ MK ML MM MN MO IntKind.bits EJ ARes.ok ARes.val F7 cut Ak.quiet
attribute [local simp] Gn Gp Gq Hm Gl Gm PA Ut Kd Ke
attribute [local simp] Iz Kb Kc Ms Mt look Gr zipA wm wh
attribute [local simp] MP MQ MR MS MT MU Gs Hn I3 MV MW w_fn MX MY MZ Bc I4 DS Kf Ai.ep Ai.plain Ai.owned
attribute [local simp] C0 Cs Mw Mx My Mz M0 M1 M2 M3 M4 M5 M6 M7 M8 M9 Mv AY lay Cr ldv DM Bh EG Di Ge Cn Aa.kind
attribute [local simp] Aa.one_int Aa.one_bool Aa.one_str Aa.one_nils Aa.one_slc Aa.one_vec Aa.one_ptr Aa.one_eptr Aa.one_cptr Aa.one_nilp Aa.one_fn Aa.one_nilfn Aa.one_mp Aa.one_nilmp
attribute [local simp] LG LH LI LJ LK LL LM LN LO LP LQ LR LS LT LU LV LW LX LY LZ Ma Mb Mc Md Me Mf Mg Mh Mi Mj Ml Mm Mn Mo Mp Mq
attribute [local simp] Ic cI cB cS cL Na Nb Nc Nd Nf Ng Nh Ni fzm fzh fzv fzl fz1 Nj Nk Nl Nm Nn List.range_succ Np Nq Nr Ns Nt Dy Ho Nu Nv
attribute [local simp] Nw
attribute [local simp] AJ.cells
attribute [local simp] AC.cells
attribute [local simp] AG.cells
attribute [local simp] Ac.cells
attribute [local simp] CD.cells
attribute [local simp] Aw.cells
attribute [local simp] CE.cells
attribute [local simp] CO.cells
attribute [local simp] AL.cells
attribute [local simp] BJ.cells
attribute [local simp] FK.cells
attribute [local simp] FL.cells
attribute [local simp] CP.cells
attribute [local simp] AZ.cells
attribute [local simp] CQ.cells
attribute [local simp] CF.cells
attribute [local simp] CR.cells
attribute [local simp] BO.cells
attribute [local simp] hset
def qz8h(b:Nat):List Av:=[ ⟨(some 2),.box (b+0) (.t 0),none⟩, ⟨(some 4),.mv (.c (.nils)),none⟩]
def qz6q(b:Nat):List Av:=[ ⟨(some 5),.alloc (b+1) [.nils],none⟩]
def kzhi(b:Nat):List Av:=[ ⟨(some 11),.load false 1 (.t 2),none⟩, ⟨(some 12),.len false (.t 11),none⟩, ⟨(some 13),.mks (b+2) 1 1 [.bool false] (.t 12),none⟩, ⟨(some 6),.alloc (b+3) [.nils],none⟩, ⟨none,.store 1 (.t 6) (.t 13),none⟩]
def kzhh(b:Nat):List Av:=[ ⟨(some 14),.mkfn 69 0 [.t 5,.t 2,.t 6],none⟩, ⟨(some 7),.mv (.t 14),none⟩]
def kzhe(b:Nat):List Av:=[ ⟨(some 15),.mv (.t 1),none⟩, ⟨(some 16),.len false (.t 15),none⟩, ⟨(some 17),.mv (.c (.int .i64 0)),none⟩]
def kzhc(b:Nat):List Av:=[ ⟨(some 18),.bin .lss false (.t 17) (.t 16),none⟩]
def kzhk(b:Nat):List Av:=[ ⟨(some 19),.iaddrS 1 (.t 15) (.t 17),none⟩, ⟨(some 20),.load false 1 (.t 19),none⟩, ⟨(some 9),.mv (.t 20),none⟩]
def kzhf(b:Nat):List Av:=[ ⟨(some 21),.load false 1 (.t 2),none⟩, ⟨(some 22),.len false (.t 21),none⟩, ⟨(some 23),.bin .gtr false (.t 22) (.c (.int .i64 0)),none⟩]
def kzhj(b:Nat):List Av:=[ ⟨(some 24),.mv (.t 7),none⟩, ⟨(some 25),.mv (.t 9),none⟩, ⟨(some 26),.conv .i64 (.t 25),none⟩, ⟨(some 27),.load false 1 (.t 2),none⟩, ⟨(some 28),.len false (.t 27),none⟩, ⟨(some 29),.bin .rem false (.t 26) (.t 28),none⟩, ⟨(some 30),.callv (.t 24) [.t 29],none⟩]
def kzg0(b:Nat):List Av:=[ ⟨(some 31),.bin .add false (.t 17) (.c (.int .i64 1)),none⟩, ⟨(some 17),.mv (.t 31),none⟩]
def kzhs(b:Nat):AR:=.seq (.reg false (kzhc b) []) (.seq (.cond (.t 18) (.skip) (.exit 0)) (.seq (.block 1 (.seq (.reg false (kzhk b) []) (.seq (.reg false (kzhf b) []) (.cond (.t 23) (.reg false (kzhj b) []) (.skip))))) (.reg false (kzg0 b) [])))
def kzg1(b:Nat):List Av:=[ ⟨(some 32),.load false 1 (.t 2),none⟩, ⟨(some 33),.len false (.t 32),none⟩, ⟨(some 34),.mv (.c (.int .i64 0)),none⟩]
def kzg7(b:Nat):List Av:=[ ⟨(some 35),.bin .lss false (.t 34) (.t 33),none⟩]
def kzg2(b:Nat):List Av:=[ ⟨(some 36),.mv (.t 34),none⟩, ⟨(some 10),.mv (.t 36),none⟩]
def kzg8(b:Nat):List Av:=[ ⟨(some 37),.load false 1 (.t 6),none⟩, ⟨(some 38),.mv (.t 10),none⟩, ⟨(some 39),.iaddrS 1 (.t 37) (.t 38),none⟩, ⟨(some 40),.load false 1 (.t 39),none⟩, ⟨(some 41),.not (.t 40),none⟩]
def kzg6(b:Nat):List Av:=[ ⟨(some 42),.mv (.t 7),none⟩, ⟨(some 43),.mv (.t 10),none⟩, ⟨(some 44),.callv (.t 42) [.t 43],none⟩]
def kzgx(b:Nat):List Av:=[ ⟨(some 45),.bin .add false (.t 34) (.c (.int .i64 1)),none⟩, ⟨(some 34),.mv (.t 45),none⟩]
def kzhr(b:Nat):AR:=.seq (.reg false (kzg7 b) []) (.seq (.cond (.t 35) (.skip) (.exit 2)) (.seq (.block 3 (.seq (.reg false (kzg2 b) []) (.seq (.reg false (kzg8 b) []) (.cond (.t 41) (.reg false (kzg6 b) []) (.skip))))) (.reg false (kzgx b) [])))
def kzg3(b:Nat):List Av:=[ ⟨(some 46),.load false 1 (.t 5),none⟩, ⟨(some 4),.mv (.t 46),none⟩]
def c35(b:Nat):AR:=.seq (.reg false (qz8h b) []) (.seq (.reg false (qz6q b) []) (.seq (.reg false (kzhi b) []) (.seq (.reg false (kzhh b) []) (.seq (.seq (.reg false (kzhe b) []) (.block 0 (.loop (kzhs b)))) (.seq (.seq (.reg false (kzg1 b) []) (.block 2 (.loop (kzhr b)))) (.seq (.reg false (kzg3 b) []) (.ret)))))))
def rs35:List ARes:=[.t 4]
theorem ck35:∃c,Tryz.f35.body=some c/\∀b,A8 Tryz.prog c (c35 b)=true:=⟨_,rfl,fun b=>by kernel_rfl⟩
theorem cr35:ED Tryz.prog Tryz.f35.results.toList rs35=true:=by kernel_rfl
def wzcm(b:Nat):List Av:=[ ⟨(some 8),.load false 1 (.t 1),none⟩, ⟨(some 9),.load false 1 (.t 2),none⟩, ⟨(some 10),.mv (.t 0),none⟩, ⟨(some 11),.iaddrS 8 (.t 9) (.t 10),none⟩, ⟨(some 12),.load true 8 (.t 11),none⟩, ⟨(some 13),.callf 12 [.t 8,.t 12],none⟩, ⟨(some 7),.mv (.t 13),none⟩, ⟨(some 14),.extract 0 (.t 7),none⟩, ⟨(some 15),.extract 1 (.t 7),none⟩, ⟨(some 5),.mv (.t 14),none⟩, ⟨(some 6),.mv (.t 15),none⟩]
def kzho:List (List Nat):=[[],[],[],[1,2],[1,2,3],[0,1,2,3,4],[0,1,2,3,4,5],[0,1,2,3,4,5,6],[0,1,2,3,4,5,6],[0,1,2,3,4,5,6,7],[0,1,2,3,4,5,6,7,8,9]]
def qz64(b:Nat):List Av:=[ ⟨(some 16),.mv (.t 6),none⟩, ⟨(some 17),.bin .eql false (.t 16) (.c (.int .i64 0)),none⟩, ⟨(some 18),.mv (.t 17),none⟩, ⟨(some 19),.load false 1 (.t 3),(some (18,true))⟩, ⟨(some 20),.mv (.t 0),(some (18,true))⟩, ⟨(some 21),.iaddrS 1 (.t 19) (.t 20),(some (18,true))⟩, ⟨(some 22),.load false 1 (.t 21),(some (18,true))⟩, ⟨(some 23),.not (.t 22),(some (18,true))⟩, ⟨(some 24),.pick (.t 18) (.t 23) (.c (.bool false)),none⟩]
def qz54(b:Nat):List Av:=[ ⟨(some 25),.mv (.t 5),none⟩, ⟨none,.store 1 (.t 1) (.t 25),none⟩]
def kzgw(b:Nat):List Av:=[ ⟨(some 26),.load false 1 (.t 3),none⟩, ⟨(some 27),.mv (.t 0),none⟩, ⟨(some 28),.iaddrS 1 (.t 26) (.t 27),none⟩, ⟨none,.store 1 (.t 28) (.c (.bool true)),none⟩]
def c69(b:Nat):AR:=.seq (.seq (.reg true (wzcm b) kzho) (.seq (.reg false (qz64 b) []) (.cond (.t 24) (.reg false (qz54 b) []) (.skip)))) (.reg false (kzgw b) [])
def rs69:List ARes:=[]
theorem ck69:∃c,Tryz.f69.body=some c/\∀b,A8 Tryz.prog c (c69 b)=true:=⟨_,rfl,fun b=>by kernel_rfl⟩
theorem cr69:ED Tryz.prog Tryz.f69.results.toList rs69=true:=by kernel_rfl
def FH(l:List Ac)(X:Aa)(d:List Bool):Ax:=fun i =>
 if i=0 then .box 1 [slcV 8 Ac.cells l] else if i=1 then .box 1 [X] else if i=2 then .vec 1 1 d.length (Ay cB d) else if i=3 then .box 1 [.vec 2 1 0 d.length] else .gone 0
theorem kzhg(hA:∀(o:List Ac) (v:Ac) (r:List Ac×Int),Cf o v=some r->B8 EE Tryz.prog 12 [slcV 8 Ac.cells o,.agg (Ac.cells v)] (.tup [slcV 8 Ac.cells r.1,.int .i64 r.2]))(l:List Ac) (s s':List Ac×List Bool) (X:Aa) (hX:W X (slcV 8 Ac.cells s.1)) (k:Int) (h:kzgl l s k=some s') (hn:s.2.length=l.length) (hl:l.length<=1000000) :
  ATr EE Tryz.prog 69 [.int .i64 k,.ptr 1 1 0,.ptr 0 1 0,.ptr 3 1 0] (FH l X s.2) (fun v h'=>v=.tup []/\∃X',W X' (slcV 8 Ac.cells s'.1)/\h'=FH l X' s'.2):=by
 obtain⟨out,d⟩:=s;unfold kzgl at h;cases h1:at? l k with
 |none=>rw[h1]at h;cases h
 |some v =>
 cases h2:Cf out v with
 |none=>rw[h1]at h;simp only[bd]at h;rw[h2]at h;cases h
 |some r =>
 cases h3:at? d k with
 |none=>rw[h1]at h;simp only[bd]at h;rw[h2]at h;simp only at h;rw[h3]at h;cases h
 |some dk =>
 have h:some ((bif decide (r.2=0)&&!dk then r.1 else out),List.set d (Int.toNat k) true)=some s':=by rw[h1]at h;simp only[bd]at h;rw[h2]at h;simp only at h;rw[h3]at h;exact h
 obtain rfl:=BA h
 obtain⟨kn,hk,rfl⟩:∃kn:Nat,l[kn]?=some v/\k=(kn:Int):=by
  unfold at? at h1;by_cases hk:0<=k
  ·rw[Cy hk]at h1;exact⟨k.toNat,h1,by omega⟩
  ·rw[Bz hk]at h1;cases h1
 have jQ:=(AN.1 hk).1;simp only at hn hX;have dR:d[kn]?=some dk:=by unfold at? at h3;rw[Cy (show(0:Int)<=(kn:Int) by omega)]at h3;simpa using h3
 have aP:inr .i64 (kn:Int):=by show _/\_;omega
 have e0:FH l X d 0=.box 1 [slcV 8 Ac.cells l]:=rfl;have e1:FH l X d 1=.box 1 [X]:=rfl;have e2:FH l X d 2=.vec 1 1 d.length (Ay cB d):=rfl;have e3:FH l X d 3=.box 1 [.vec 2 1 0 d.length]:=rfl;obtain⟨c,cC,hc⟩:=ck69;refine ATr.sub (R:=fun v' h'=>v'=.tup []/\∃X',W X' (slcV 8 Ac.cells (bif decide (r.2=0)&&!dk then r.1 else out))/\∀i,OSub (h' i) (FH l X' (List.set d kn true) i)) ?_ ?_;rotate_left
 ·rintro v' h' ⟨rfl,X',w1,w2⟩;exact⟨_,⟨rfl,X',w1,rfl⟩,w2⟩
 refine ATr.of (fn:=Tryz.f69) rfl cC cr69 (hc 0) 25 rfl ?_
 have fin:∀(X':Aa) (H:Ax) (f:Nat->List Aa),H 0=.box 1 [slcV 8 Ac.cells l]->H 1=.box 1 [X']->H 2=.vec 1 1 d.length f->H 3=.box 1 [.vec 2 1 0 d.length]->(∀i,3<i->H i=.gone 0)->(∀j,j<d.length->f j=if j=kn then [.bool true] else Ay cB d j)->∀i,OSub (H i) (FH l X' (List.set d kn true) i):=fun X' H f h0 h1 h2 h3 h4 hf i=>by
  have hl:(List.set d kn true).length=d.length:=HY;by_cases i0:i=0
  ·subst i0;rw[h0];exact .refl _
  by_cases i1:i=1
  ·subst i1;rw[h1];exact .refl _
  by_cases i2:i=2
  ·subst i2;rw[h2];show OSub _ (.vec 1 1 (List.set d kn true).length (Ay cB (List.set d kn true)));rw[hl];refine .inr (.inr ⟨_,_,_,_,_,rfl,rfl,fun j hj=>?_⟩);rw[hf j hj]
   have hx:(List.set d kn true)[j]?=some (if j=kn then true else d[j]):=by
    rw[JB];by_cases e:kn=j
    ·subst e;simp[hj]
    ·rw[Aj e,Aj (fun q:j=kn=>e q.symm)];exact AD hj
   rw[D4 hx];by_cases e:j=kn
   ·simp[e,cB]
   ·rw[Aj e,Aj e,D4 (AD hj)]
  by_cases i3:i=3
  ·subst i3;rw[h3];show OSub _ (.box 1 [.vec 2 1 0 (List.set d kn true).length]);rw[hl];exact .refl _
  ·rw[h4 i (by omega)];show OSub _ (if i=0 then _ else if i=1 then _ else if i=2 then _ else if i=3 then _ else Ai.gone 0);rw[Aj i0,Aj i1,Aj i2,Aj i3];exact .refl _
 refine .seq (.seq (.draw ?_));have aO:Ay Ac.cells l kn=Ac.cells v:=D4 hk;have pi:=hX;simp[wzcm,List.replicate,e0,e1,kzb,aO,-Ac.cells];have bN:([(Ac.cells v)[0]?.getD Aa.top,(Ac.cells v)[1]?.getD Aa.top,(Ac.cells v)[2]?.getD Aa.top,(Ac.cells v)[3]?.getD Aa.top,(Ac.cells v)[4]?.getD Aa.top,(Ac.cells v)[5]?.getD Aa.top,(Ac.cells v)[6]?.getD Aa.top,(Ac.cells v)[7]?.getD Aa.top]:List Aa)=Ac.cells v:=rfl;rw[bN];refine⟨jQ,(hA out v r h2).cd (show Ws [X,.agg (Ac.cells v)] [slcV 8 Ac.cells out,.agg (Ac.cells v)] from⟨pi,.refl _,trivial⟩) ?_⟩;simp[-Ic];refine⟨by kernel_rfl,?_⟩;have qH:Ay cB d kn=[.bool dk]:=by rw[D4 dR];rfl
 have cr:kn<d.length:=by omega
 generalize Aa.cptr _ _ _=z1;generalize iA:Aa.agg _=z2;generalize hS:slcV 8 Ac.cells r.1=S at *;have rj:Cm S=some [S]:=by rw[<-hS,Ic];rfl
 have rl:S.one=true:=by rw[<-hS,Ic];rfl
 have h4:∀(H:Ax),(∀i,3<i->H i=FH l X d i)->∀i,3<i->H i=.gone 0:=fun H hH i hi=>by rw[hH i hi];show(if i=0 then _ else if i=1 then _ else if i=2 then _ else if i=3 then _ else Ai.gone 0)=_;rw[Aj (by omega),Aj (by omega),Aj (by omega),Aj (by omega)]
 by_cases hr:r.2=0
 ·refine .seq (AW.r1 (by simp[qz64,e2,e3,hr,qH,cr];rfl) ?_);cases dk
  ·refine AW.if' true (by simp) (fun _=>?_) (fun e=>by cases e);refine AW.r1 (by simp[qz54,e1,rj,rl];rfl) ?_;simp only[Bb];refine AW.r1 (by simp[kzgw,e1,e2,e3,cr];rfl) ?_;refine Post.norm (.here (by simp[rs69]) rfl ⟨by simp[rs69],S,(by rw[<-Ic,hr];exact hS▸.refl _),fin S _ ?f ?h0 ?h1 ?h2 ?h3 ?h4 ?hf⟩)
   case h2=>simp[e2];(try rfl)
   case h0=>exact rfl
   case h1=>exact rfl
   case h3=>exact rfl
   case h4=>exact h4 _ fun i hi=>by simp[hset,show ¬i=1 by omega,show ¬i=2 by omega]
   case hf=>intro j hj;rw[qH];rfl
  ·refine AW.if' false (by simp) (fun e=>by cases e) (fun _=>AW.skip ?_);simp only[Bb];refine AW.r1 (by simp[kzgw,e1,e2,e3,cr];rfl) ?_;refine Post.norm (.here (by simp[rs69]) rfl ⟨by simp[rs69],X,(by rw[<-Ic,hr];exact pi),fin X _ ?f ?h0 ?h1 ?h2 ?h3 ?h4 ?hf⟩)
   case h2=>simp[e2];(try rfl)
   case h0=>exact rfl
   case h1=>exact rfl
   case h3=>exact rfl
   case h4=>exact h4 _ fun i hi=>by simp[hset,show ¬i=2 by omega]
   case hf=>intro j hj;rw[qH];rfl
 ·refine .seq (AW.r1 (by simp[qz64,hr];rfl) ?_);refine AW.if' false (by simp) (fun e=>by cases e) (fun _=>AW.skip ?_);simp only[Bb];refine AW.r1 (by simp[kzgw,e1,e2,e3,cr];rfl) ?_;refine Post.norm (.here (by simp[rs69]) rfl ⟨by simp[rs69],X,(by rw[<-Ic,Bz hr];exact pi),fin X _ ?f ?h0 ?h1 ?h2 ?h3 ?h4 ?hf⟩)
  case h2=>simp[e2];(try rfl)
  case h0=>exact rfl
  case h1=>exact rfl
  case h3=>exact rfl
  case h4=>exact h4 _ fun i hi=>by simp[hset,show ¬i=2 by omega]
  case hf=>intro j hj;rw[qH];rfl
theorem kzgu{l:List Ac}{s s':List Ac×List Bool}{k:Int}(h:kzgl l s k=some s'):s'.2.length=s.2.length:=by
 unfold kzgl at h;cases h1:at? l k with
 |none=>rw[h1]at h;cases h
 |some v =>
 cases h2:Cf s.1 v with
 |none=>rw[h1]at h;simp only[bd]at h;rw[h2]at h;cases h
 |some r =>
 cases h3:at? s.2 k with
 |none=>rw[h1]at h;simp only[bd]at h;rw[h2]at h;simp only at h;rw[h3]at h;cases h
 |some dk =>
 have h:some ((bif decide (r.2=0)&&!dk then r.1 else s.1),List.set s.2 (Int.toNat k) true)=some s':=by rw[h1]at h;simp only[bd]at h;rw[h2]at h;simp only at h;rw[h3]at h;exact h
 cases h;exact HY
def fn69:Aa:=.fn 69 0 [.ptr 1 1 0,.ptr 0 1 0,.ptr 3 1 0]
def T35a(O:Aa)(m i:Nat):List Aa:=[.top,.top,.ptr 0 1 0,.top,.nils,.ptr 1 1 0,.ptr 3 1 0,fn69,.top,.top,.top,.top,.top,.top,.top,O,.int .i64 m,.int .i64 i]++List.replicate 29 .top
def T35b(n i:Nat):List Aa:=[.top,.top,.ptr 0 1 0,.top,.nils,.ptr 1 1 0,.ptr 3 1 0,fn69]++(List.replicate 25 .top++[.int .i64 n,.int .i64 i]++List.replicate 12 .top)
theorem kzhb(hA:∀(o:List Ac) (v:Ac) (r:List Ac×Int),Cf o v=some r->B8 EE Tryz.prog 12 [slcV 8 Ac.cells o,.agg (Ac.cells v)] (.tup [slcV 8 Ac.cells r.1,.int .i64 r.2]))(l:List Ac) (o:List Int) (r:List Ac) (h:kzgo l o=some r):ATr EE Tryz.prog 35 [slcV 8 Ac.cells l,slcV 1 (cI .u8) o] h0 (fun v _=>W v (slcV 8 Ac.cells r)):=by
 unfold kzgo at h;cases hx:(decide (List.length l<=1000000)&&decide (List.length o<=1000000)) with
 |false=>rw[hx]at h;cases h
 |true =>
 rw[hx]at h;simp only[AE,BB]at hx;obtain⟨hl,ho⟩:=hx;cases h1:kzgp l o ([],List.replicate (List.length l) false) with
 |none=>rw[h1]at h;cases h
 |some s1 =>
 cases h2:kzgn l (List.length l) 0 s1 with
 |none=>rw[h1]at h;have h:bd (kzgn l (List.length l) 0 s1) (fun s=>some s.1)=some r:=h;rw[h2]at h;cases h
 |some s2 =>
 have h:some s2.1=some r:=by rw[h1]at h;have h:bd (kzgn l (List.length l) 0 s1) (fun s=>some s.1)=some r:=h;rw[h2]at h;exact h
 obtain rfl:=BA h;clear h;obtain⟨c,cC,hc⟩:=ck35;refine ATr.of (fn:=Tryz.f35) rfl cC cr35 (hc 0) 45 rfl ?_;generalize hO:slcV 1 (cI .u8) o=O;refine AW.sr (by simp[qz8h,List.replicate,h0];rfl) ?_;refine AW.sr (by simp[qz6q,h0];rfl) ?_;refine AW.sr (by simp[kzhi,h0];exact⟨by omega,rfl⟩) ?_;refine AW.sr (by simp[kzhh];rfl) ?_;have qI:O=.slc 1 o.length (Ay (cI .u8) o):=by rw[<-hO,Ic]
 refine .seq (.seq (AW.r1 (by simp[kzhe,qI];rfl) ?_));have FHr:∀(H:Ax) (X:Aa) (d:List Bool),H=FH l X d->∀i,OSub (H i) (FH l X d i):=fun H X d e i=>by rw[e];exact .refl _
 refine .block (.loop (fun y:Nat×Aa×(List Ac×List Bool)=>(⟨T35a O o.length y.1,FH l y.2.1 y.2.2.2,[]⟩:Au)) (fun y=>o.length-y.1) (fun y=>y.1<=o.length/\W y.2.1 (slcV 8 Ac.cells y.2.2.1)/\y.2.2.2.length=l.length/\kzgp l (o.drop y.1) y.2.2=some s1) (0,.nils,[],List.replicate l.length false) ⟨Ej _,?_,Gbw,h1⟩ (.of_sub ⟨?_,fun i=>?_,rfl,fun D hD=>by cases hD⟩) ?_)
 ·rw[Ic];exact .nil _ _
 ·simp[T35a,fn69,List.replicate,TSub,VSub,qI]
 ·by_cases i2:i=2;·subst i2;show OSub (.vec 1 1 l.length _) (.vec 1 1 (List.replicate l.length false).length (Ay cB (List.replicate l.length false)));rw[Gbw];refine .inr (.inr ⟨_,_,_,_,_,rfl,rfl,fun j hj=>?_⟩);rw[D4 (x:=false) (by rw[Gbk,Ap hj])];rfl
  ·refine kza8 ?_;show _=FH l .nils (List.replicate l.length false) i;unfold FH;rw[Gbw];simp only[hset,h0,Ic];by_cases i3:i=3
   ·subst i3;rfl
   by_cases i1:i=1
   ·subst i1;rfl
   by_cases i0:i=0
   ·subst i0;rfl
   simp[i0,i1,i2,i3]
 rintro⟨i,X,s⟩ ⟨hi,hX,hd,hF⟩;simp only at hi hX hd hF;refine AW.sr (by simp[kzhc,T35a];rfl) ?_;refine .seq (AW.if' (decide ((i:Int)<(o.length:Int))) (by simp) (fun e=>AW.skip ?_) (fun e=>.exit ?_))
 ·have hlt:i<o.length:=by have:=GY e;omega
  have rm:o.drop i=o[i] :: o.drop (i+1):=Li hlt;have aO:Ay (cI .u8) o i=[.int .u8 o[i]]:=by rw[D4 (AD hlt)];rfl
  rw[rm]at hF;generalize o[i]=n at hF aO;have e0:FH l X s.2 0=.box 1 [slcV 8 Ac.cells l]:=rfl;cases hb:As .i64 n with
  |false=>have hF:ck (As .i64 n) (bd (bif decide (0<List.length l) then kzgl l s (n.tmod (List.length l:Int)) else some s) fun s=>kzgp l (o.drop (i+1)) s)=some s1:=hF;rw[hb]at hF;cases hF
  |true =>
  have cR:-9223372036854775808<=n/\n<=9223372036854775807:=by simpa [As] using hb
  have mY:inr .i64 n:=by show _/\_;omega
  have qz:inr .i64 ((i:Int)+1):=by show _/\_;omega
  have hF:bd (bif decide (0<List.length l) then kzgl l s (n.tmod (List.length l:Int)) else some s) (fun s=>kzgp l (o.drop (i+1)) s)=some s1:=by have hF:ck (As .i64 n) (bd (bif decide (0<List.length l) then kzgl l s (n.tmod (List.length l:Int)) else some s) fun s=>kzgp l (o.drop (i+1)) s)=some s1:=hF;rw[hb]at hF;exact hF
  simp only[Bb];refine .seq (.block (AW.sr (by simp[kzhk,qI,hlt,aO];rfl) (AW.sr (by simp[kzhf,e0];rfl) ?_)));by_cases gW:0<l.length
  ·refine AW.if' true (by simp[gW]) (fun _=>?_) (fun e=>by cases e);rw[Cy gW]at hF;cases iW:kzgl l s (n.tmod (List.length l:Int)) with
   |none=>have hF:bd (kzgl l s (n.tmod (List.length l:Int))) (fun s=>kzgp l (o.drop (i+1)) s)=some s1:=hF;rw[iW]at hF;cases hF
   |some s' =>
   have hF:kzgp l (o.drop (i+1)) s'=some s1:=by have hF:bd (kzgl l s (n.tmod (List.length l:Int))) (fun s=>kzgp l (o.drop (i+1)) s)=some s1:=hF;rw[iW]at hF;exact hF
   refine .reg ?_;simp[kzhj,e0,fn69,fnArgs];have dx:=kzgu iW;refine⟨mY,by intro e;rw[e]at gW;simp at gW,by kernel_rfl,(kzhg hA l s s' X hX _ iW hd hl).mono ?_⟩;rintro v h' ⟨rfl,X',w1,rfl⟩;refine AW.r1 (by simp[kzg0];exact⟨qz,rfl⟩) ?_;simp only[Bb];refine⟨i+1,X',s'.1,s'.2,⟨by omega,by rw[<-Ic];exact w1,by omega,hF⟩,by omega,.of_sub ⟨?_,fun i=>.refl _,rfl,fun D hD=>by cases hD⟩⟩;simp[T35a,fn69,List.replicate,TSub,VSub,qI]
  ·refine AW.if' false (by simp;exact J7.1 (by omega)) (fun e=>by cases e) (fun _=>AW.skip ?_);rw[Bz gW]at hF;have hF:kzgp l (o.drop (i+1)) s=some s1:=hF;simp only[Bb,ablk];refine AW.r1 (by simp[kzg0];exact⟨qz,rfl⟩) ?_;simp only[Bb];refine⟨(i+1,X,s),⟨by simp only;omega,hX,hd,hF⟩,by simp only;omega,.of_sub ⟨?_,fun i=>.refl _,rfl,fun D hD=>by cases hD⟩⟩;simp[T35a,fn69,List.replicate,TSub,VSub,qI]
 ·have hlt:¬i<o.length:=by have:=of_decide_eq_false e;omega
  rw[List.drop_eq_nil_of_le (by omega)]at hF;have hF:some s=some s1:=hF;obtain rfl:=BA hF;have e0:FH l X s.2 0=.box 1 [slcV 8 Ac.cells l]:=rfl;simp only[Bb,ablk,Bw];refine .seq (.seq (AW.r1 (by simp[kzg1,e0];rfl) ?_));refine .block (.loop (fun y:Nat×Aa×(List Ac×List Bool)=>(⟨T35b l.length y.1,FH l y.2.1 y.2.2.2,[]⟩:Au)) (fun y=>l.length-y.1) (fun y=>y.1<=l.length/\W y.2.1 (slcV 8 Ac.cells y.2.2.1)/\y.2.2.2.length=l.length/\kzgn l (l.length-y.1) y.1 y.2.2=some s2) (0,X,s) ⟨Ej _,hX,hd,h2⟩ (.of_sub ⟨?_,fun i=>.refl _,rfl,fun D hD=>by cases hD⟩) ?_)
  ·simp[T35b,fn69,List.replicate,TSub,VSub,qI]
  clear hX hd h2 hF h1 e0;rintro⟨k,X,s⟩ ⟨hk,hX,hd,hF⟩;simp only at hk hX hd hF;have e1:FH l X s.2 1=.box 1 [X]:=rfl;have e2:FH l X s.2 2=.vec 1 1 s.2.length (Ay cB s.2):=rfl;have e3:FH l X s.2 3=.box 1 [.vec 2 1 0 s.2.length]:=rfl;refine AW.sr (by simp[kzg7,T35b];rfl) ?_;refine .seq (AW.if' (decide ((k:Int)<(l.length:Int))) (by simp) (fun e=>AW.skip ?_) (fun e=>.exit ?_))
  ·have hlt:k<l.length:=by have:=GY e;omega
   have qz:inr .i64 ((k:Int)+1):=by show _/\_;omega
   have dD:l.length-k=(l.length-(k+1))+1:=by omega
   rw[dD]at hF;have dR:s.2[k]?=some s.2[k]:=AD (by omega);have qH:Ay cB s.2 k=[.bool s.2[k]]:=by rw[D4 dR];rfl
   have cr:k<s.2.length:=by omega
   have hF:bd (bif s.2[k] then some s else kzgl l s (k:Int)) (fun s=>kzgn l (l.length-(k+1)) (k+1) s)=some s2:=by have hF:bd (at? s.2 (k:Int)) (fun d=>bd (bif d then some s else kzgl l s (k:Int)) fun s=>kzgn l (l.length-(k+1)) (k+1) s)=some s2:=hF;have ha:at? s.2 (k:Int)=some s.2[k]:=(by unfold at?;rw[Cy (show(0:Int)<=(k:Int) by omega)];exact dR);rw[ha]at hF;exact hF
   generalize s.2[k]=dk at hF qH;simp only[Bb];refine .seq (.block (AW.sr (by simp[kzg2];rfl) (AW.sr (by simp[kzg8,e2,e3,qH,cr];rfl) ?_)));cases dk
   ·refine AW.if' true (by simp) (fun _=>?_) (fun e=>by cases e);cases iW:kzgl l s (k:Int) with
    |none=>have hF:bd (kzgl l s (k:Int)) (fun s=>kzgn l (l.length-(k+1)) (k+1) s)=some s2:=hF;rw[iW]at hF;cases hF
    |some s' =>
    have hF:kzgn l (l.length-(k+1)) (k+1) s'=some s2:=(by have hF:bd (kzgl l s (k:Int)) (fun s=>kzgn l (l.length-(k+1)) (k+1) s)=some s2:=hF;rw[iW]at hF;exact hF);have dx:=kzgu iW;refine .reg ?_;simp[kzg6,fn69,fnArgs];refine⟨by kernel_rfl,(kzhg hA l s s' X hX _ iW hd hl).mono ?_⟩;rintro v h' ⟨rfl,X',w1,rfl⟩;refine AW.r1 (by simp[kzgx];exact⟨qz,rfl⟩) ?_;simp only[Bb];refine⟨k+1,X',s'.1,s'.2,⟨by omega,by rw[<-Ic];exact w1,by omega,hF⟩,by omega,.of_sub ⟨?_,fun i=>.refl _,rfl,fun D hD=>by cases hD⟩⟩;simp[T35b,fn69,List.replicate,TSub,VSub]
   ·refine AW.if' false (by simp) (fun e=>by cases e) (fun _=>AW.skip ?_);have hF:kzgn l (l.length-(k+1)) (k+1) s=some s2:=hF;simp only[Bb,ablk];refine AW.r1 (by simp[kzgx];exact⟨qz,rfl⟩) ?_;simp only[Bb];refine⟨(k+1,X,s),⟨by simp only;omega,hX,hd,hF⟩,by simp only;omega,.of_sub ⟨?_,fun i=>.refl _,rfl,fun D hD=>by cases hD⟩⟩;simp[T35b,fn69,List.replicate,TSub,VSub]
  ·have hlt:l.length-k=0:=by have:=of_decide_eq_false e;omega
   rw[hlt]at hF;have hF:some s=some s2:=hF;obtain rfl:=BA hF;simp only[Bb,ablk,Bw];refine AW.sr (by simp[kzg3,e1];rfl) ?_;refine .ret (.here (by simp[rs35]) rfl ?_);simp[rs35];exact hX
def k35:Fc:=⟨35,[(.slc (.us 3)),(.slc (.int .u8))],[false,false],[(.slc (.us 3))],fun x=>kzgo x.1 x.2⟩
theorem kzhp(H12:Az k12):Az k35:=by
 refine⟨by kernel_rfl,fun x y e=>?_⟩;have hA:∀(o:List Ac) (v:Ac) (r:List Ac×Int),Cf o v=some r->B8 EE Tryz.prog 12 [slcV 8 Ac.cells o,.agg (Ac.cells v)] (.tup [slcV 8 Ac.cells r.1,.int .i64 r.2]):=fun o v r h=>H12.still (x:=(o,v)) (y:=r) h (by kernel_rfl);have H:Pure EE Tryz.prog 35 [slcV 8 Ac.cells x.1,slcV 1 (cI .u8) x.2] (slcV 8 Ac.cells y):=(kzhb hA x.1 x.2 y e).wv fun v h' q=>⟨_,q,rfl⟩
 have hn:∀z,z∈[slcV 8 Ac.cells x.1,slcV 1 (cI .u8) x.2]->AF z:=fun z hz=>by
  rcases AI.1 hz with rfl|hz
  ·exact GP fun a z hz=>Q5 hz
  ·rcases AI.1 hz with rfl|hz;·exact GP fun a z hz=>Ut z hz
   ·cases hz
 exact(Pure.still H hEE hn (GP fun a z hz=>Q5 hz)).cast (by kernel_rfl)
end Go.Am

