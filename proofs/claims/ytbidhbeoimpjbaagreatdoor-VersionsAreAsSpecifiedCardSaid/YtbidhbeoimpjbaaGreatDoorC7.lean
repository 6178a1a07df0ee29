/- Part C7: contracts of some functions of this seat. No condition. -/
import Derived.Test.YtbidhbeoimpjbaaGreatDoorC1
set_option linter.unusedSimpArgs false
set_option linter.unusedVariables false
set_option maxRecDepth 100000
namespace Go.Am
open Go.Proofs
attribute [local simp] areg aop dreg dop Ak.req Ag argU Ak.args BI Ak.unAll Req.val Req.when putT putH Bb ablk CA Ca Gc Ha BD MB MC MD ME MF MG MH MI MJ MK ML MM MN MO IntKind.bits EJ ARes.ok ARes.val F7 cut Ak.quiet
attribute [local simp] Gn Gp Gq Hm Gl Gm PA Ut Kd Ke
attribute [local simp] Iz Kb Kc Ms Mt look Gr zipA wm wh
attribute [local simp] MP MQ MR MS MT MU Gs Hn I3 MV MW w_fn MX MY MZ Bc I4 DS Kf Ai.ep Ai.plain Ai.owned
attribute [local simp] C0 Cs Mw Mx My Mz M0 M1 M2 M3 M4 M5 M6 M7 M8 M9 Mv AY lay Cr ldv DM Bh EG Di Ge Cn Aa.kind
attribute [local simp] Aa.one_int Aa.one_bool Aa.one_str Aa.one_nils Aa.one_slc Aa.one_vec Aa.one_ptr Aa.one_eptr Aa.one_cptr Aa.one_nilp Aa.one_fn Aa.one_nilfn Aa.one_mp Aa.one_nilmp
attribute [local simp] LG LH LI LJ LK LL LM LN LO LP LQ LR LS LT LU LV LW LX LY LZ Ma Mb Mc Md Me Mf Mg Mh Mi Mj Ml Mm Mn Mo Mp Mq
attribute [local simp] Ic cI cB cS cL Na Nb Nc Nd Nf Ng Nh Ni fzm fzh fzv fzl fz1 Nj Nk Nl Nm Nn List.range_succ Np Nq Nr Ns Nt Dy Ho Nu Nv
attribute [local simp] Nw
attribute [local simp] AJ.cells
attribute [local simp] AC.cells
attribute [local simp] AG.cells
attribute [local simp] Ac.cells
attribute [local simp] CD.cells
attribute [local simp] Aw.cells
attribute [local simp] CE.cells
attribute [local simp] CO.cells
attribute [local simp] AL.cells
attribute [local simp] BJ.cells
attribute [local simp] FK.cells
attribute [local simp] FL.cells
attribute [local simp] CP.cells
attribute [local simp] AZ.cells
attribute [local simp] CQ.cells
attribute [local simp] CF.cells
attribute [local simp] CR.cells
attribute [local simp] BO.cells
attribute [local simp] hset
def L63(a b c:Aa):List Aa:=.top :: .top :: .top :: .top :: .top :: .top :: .top :: a :: .top :: .top :: .top :: .top :: b :: (List.replicate 44 .top++c :: List.replicate 11 .top)
def HK(h:Ax)(e1 e4 e5 e7 n:Nat)(ks:List Int)(seen:List Nat)(e6:Nat):Ax:=fun i =>
 if i=4 then .box (e4+1) [ownV 7 (e7+ks.length) ks] else if i=5 then .miter (e5+1) (some (1,e1,n)) seen else if i=6 then .gone e6 else if i=7 then ownO (e7+ks.length) 1 (cI .i64) ks else h i
theorem uO{α:Type}{e st:Nat}{c:α->List Aa}{l:List α}{a:α}:ownO e st c (l++[a])=.vec e st (l.length+1) (Ay c (l++[a])):=by
 cases l with
 |nil=>rfl
 |cons b l=>show Ai.vec e st (l++[a]).length.succ _=_;simp
theorem uP{α:Type}{e i:Nat}{l:List α}{a:α}:ownV i e (l++[a])=.vec i e 0 (l.length+1):=by
 cases l with
 |nil=>rfl
 |cons b l=>show Aa.vec i e 0 (l++[a]).length.succ=_;simp
theorem WT:∀(n:Nat) (l:List Nat),l.Nodup->(∀x,x∈l->x<n)->l.length<=n
 |0,l,_,h=>by
  cases l with
  |nil=>simp
  |cons x l=>exact absurd (h x (by simp)) (by omega)
 |n+1,l,hd,h=>by
  have h1:=WT n (l.erase n) (hd.erase n) (fun x hx=>by have h2:=(hd.mem_erase_iff).1 hx;have:=h x h2.2;omega);have:=List.length_erase_le (a:=n) (l:=l);by_cases hm:n∈l
  ·rw[List.length_erase_of_mem hm]at h1;omega
  ·rw[List.erase_of_not_mem hm]at h1;omega
theorem uQ{o o':Ai}(h:o=o'):OSub o o':=h▸.refl _
theorem N0{h:Ax}{e1 e4 e5 e7 n:Nat}{ks:List Int}{seen:List Nat}{e6:Nat}{ds:List (Nat×Nat)}(co:∀D∈ds,h D.1=.dfr D.2/\900<=D.1):∀D∈ds,HK h e1 e4 e5 e7 n ks seen e6 D.1=.dfr D.2:=fun D hD=>by obtain⟨a,b⟩:=co D hD;unfold HK;rw[Aj (by omega),Aj (by omega),Aj (by omega),Aj (by omega)];exact a
theorem WU{h H:Ax}{e1 e4 e5 e7 e6' n:Nat}{ks:List Int}{kk:Int}{seen:List Nat}{k:Nat}(kg:∀i,i≠4->i≠5->i≠6->i≠7->H i=h i){V6:Ai}(h6:V6.ep=e6'+1){N E7:Nat}(hN:N=ks.length+1)(hE:E7=e7+(ks.length+1)){f:Nat->List Aa}(hf:∀j,j<N->Ay (cI .i64) (ks++[kk]) j=f j) (i:Nat) :
  OSub (hset (hset (hset (hset H 5 (.miter (e5+1) (some (1,e1,n)) (seen++[k]))) 6 V6) 7 (.vec E7 1 N f)) 4 (.box (e4+1) [.vec 7 E7 0 N]) i) (HK h e1 e4 e5 e7 n (ks++[kk]) (seen++[k]) (e6'+1) i):=by
 subst hN;subst hE;unfold HK hset;by_cases i4:i=4
 ·subst i4;simp only[Bw,uP,BK,Dh];exact .refl _
 ·by_cases i5:i=5;·subst i5;exact .refl _
  ·by_cases i6:i=6;·subst i6;show OSub V6 (.gone (e6'+1));rw[<-h6];exact .inl rfl
   ·by_cases i7:i=7;·subst i7;simp only[Bw,uO,BK,Dh];exact .inr (.inr ⟨_,_,_,_,_,rfl,rfl,hf⟩)
    ·simp only[i4,i5,i6,i7,Cz];rw[kg i i4 i5 i6 i7];exact .refl _
theorem uR{TAIL:AR}{Q:Exit->Au->Prop}(h:Ax)(ds:List (Nat×Nat))(co:∀D∈ds,h D.1=.dfr D.2/\900<=D.1)(e1 e4 e5 e6 e7:Nat)(es:List (Aa×Aa))(ky:Nat->Int)(h1:h 1=.amap e1 es)(h4:h 4=.gone e4)(h5:h 5=.gone e5)(h6:h 6=.gone e6)(h7:h 7=.gone e7)(hm:es.length<=1000000000) (hk:∀k,k<es.length->(es.getD k (.top,.top)).1=.int .i64 (ky k))(fin:∀(ord:List Nat) (e6':Nat),ord.Nodup->(∀x,x∈ord↔x<es.length)->AW EE none Tryz.prog TAIL Q ⟨L63 (.mp 1 e1) (.ptr 4 (e4+1) 0) (.ptr 5 (e5+1) 0),HK h e1 e4 e5 e7 es.length (ord.map ky) ord e6',ds⟩) :
  AW EE none Tryz.prog (.seq (.reg false (QM 0) []) (.seq (.seq (.reg false (QN 0) []) (.block 4 (.loop (WV 0)))) TAIL)) Q ⟨L63 (.mp 1 e1) .top .top,h,ds⟩:=by
 refine AW.sr (by simp[QM,L63,List.replicate,h4];rfl) ?_;refine .seq (.seq (AW.r1 (by simp[QN,JG,hset,h1,h5];rfl) ?_));refine .block (.loop (fun y:List Nat×Nat=>(⟨L63 (.mp 1 e1) (.ptr 4 (e4+1) 0) (.ptr 5 (e5+1) 0),HK h e1 e4 e5 e7 es.length (y.1.map ky) y.1 y.2,ds⟩:Au)) (fun y=>es.length-y.1.length) (fun y=>y.1.Nodup/\∀j,j∈y.1->j<es.length) ([],e6) ⟨.nil,by intro j hj;cases hj⟩ (.of_sub ⟨?_,fun i=>uQ ?_,rfl,N0 co⟩) ?_)
 ·simp[L63,List.replicate,TSub,VSub]
 ·simp only[HK,hset];by_cases i4:i=4
  ·simp[i4]
  ·by_cases i5:i=5;·simp[i5]
   ·by_cases i6:i=6;·simp[i6,h6]
    ·by_cases i7:i=7;·simp[i7,h7]
     ·simp[i4,i5,i6,i7]
 rintro⟨seen,e6'⟩ ⟨dt,hlt⟩;simp only at dt hlt;have k1:HK h e1 e4 e5 e7 es.length (seen.map ky) seen e6' 1=.amap e1 es:=h1;have k4:HK h e1 e4 e5 e7 es.length (seen.map ky) seen e6' 4=.box (e4+1) [ownV 7 (e7+(seen.map ky).length) (seen.map ky)]:=rfl;have k5:HK h e1 e4 e5 e7 es.length (seen.map ky) seen e6' 5=.miter (e5+1) (some (1,e1,es.length)) seen:=rfl;have k6:HK h e1 e4 e5 e7 es.length (seen.map ky) seen e6' 6=.gone e6':=rfl;have k7:HK h e1 e4 e5 e7 es.length (seen.map ky) seen e6' 7=ownO (e7+(seen.map ky).length) 1 (cI .i64) (seen.map ky):=rfl;generalize hH:HK h e1 e4 e5 e7 es.length (seen.map ky) seen e6'=H at *;have kg:∀i,i≠4->i≠5->i≠6->i≠7->H i=h i:=fun i a b c d=>by rw[<-hH];simp[HK,a,b,c,d]
 refine .seq (.reg ?_);simp[WW,L63,List.replicate,Hh,k1,k5];refine⟨fun k eX dr=>?_,fun bJ=>?_⟩
 ·have gF:es[k].fst=.int .i64 (ky k):=by have:=hk k eX;simpa [eX] using this
  refine .seq (AW.if' true rfl (fun _=>AW.skip ?_) (fun e=>by cases e));have ie:(seen++[k]).Nodup:=by rw[List.nodup_append];exact⟨dt,by simp,fun x hx y hy=>by simp at hy;subst hy;intro e;subst e;exact dr hx⟩
  have hlt':∀j,j∈seen++[k]->j<es.length:=by
   intro j hj;rcases Cp.1 hj with h|h
   ·exact hlt j h
   ·simp at h;omega
  have aE:=WT _ _ ie hlt';rw[BK]at aE;simp only[Dh]at aE;refine .block (AW.sr (by simp[WX,Ij,hset,k1];simp[eX,gF];rfl) ?_);have k4':H 4=.box (e4+1) [ownV 7 (e7+seen.length) (seen.map ky)]:=by rw[k4];simp
  have k7':H 7=ownO (e7+seen.length) 1 (cI .i64) (seen.map ky):=by rw[k7];simp
  generalize gb:seen.map ky=ks at *;have ig:ks.length=seen.length:=by rw[<-gb];simp
  cases ks with
  |nil =>
   have cw:seen=[]:=Un (by rw[<-ig];rfl);subst cw;refine AW.r1 (by simp[QO,hset,k4',k6,k7'];rfl) ?_;refine⟨[]++[k],⟨ie,hlt'⟩,by simp;omega,e6'+1,.of_sub ⟨?_,fun i=>?_,rfl,N0 co⟩⟩
   ·simp[L63,List.replicate,TSub,VSub]
   ·exact WU (ks:=[]) (kk:=ky k) (seen:=[]) (k:=k) kg rfl rfl rfl (fun j hj=>by
     obtain rfl:j=0:=by simp at hj;omega
     rfl) i
  |cons q ks =>
   refine AW.r1 (by simp[QO,hset,k4',k6,k7'];exact⟨by simp at ig;omega,rfl⟩) ?_;refine⟨seen++[k],⟨ie,hlt'⟩,by simp;omega,e6'+1,.of_sub ⟨?_,fun i=>?_,rfl,N0 co⟩⟩
   ·simp[L63,List.replicate,TSub,VSub]
   ·rw[show(seen++[k]).map ky=(q :: ks)++[ky k] by rw[List.map_append,gb];rfl];refine WU (ks:=q :: ks) (kk:=ky k) kg rfl (by simp) (by simp at ig;simp;omega) (fun j hj=>?_) i;rw[yzt];by_cases bI:j<ks.length+1
    ·simp[bI]
    ·obtain rfl:j=ks.length+1:=by omega
     simp[Ay,cI]
 ·refine .seq (AW.if' false rfl (fun e=>by cases e) (fun _=>.exit ?_));simp only[Bb,ablk,Bw];have hf:=fin seen e6' dt fun x=>⟨hlt x,bJ x⟩;rw[hH]at hf;refine .see (.of_sub (S':=⟨L63 (.mp 1 e1) (.ptr 4 (e4+1) 0) (.ptr 5 (e5+1) 0),H,ds⟩) ⟨?_,fun i=>.refl _,rfl,?_⟩) hf
  ·simp[L63,List.replicate,TSub,VSub]
  ·rw[<-hH];exact N0 co
end Go.Am

