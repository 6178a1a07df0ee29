/- Part C7: contracts of some functions of this seat. No condition. -/
import Derived.Test.YtbidhbeoimpjbaaGreatDoorC1
set_option linter.unusedSimpArgs false
set_option linter.unusedVariables false
set_option maxRecDepth 100000
namespace Go.Am
open Go.Proofs
attribute [local simp] areg aop dreg dop Ak.req Ag argU Ak.args BL Ak.unAll Req.val Req.when putT putH Bc ablk CA Cf Gf GZ BG MN MO MP MQ MR MS MT MU MV MW MX MY MZ Na IntKind.bits EK ARes.ok ARes.val F5 cut Ak.quiet
attribute [local simp] Gq Gr Gs Hl Gn Gp PS U7 Ko Kp
attribute [local simp] Iy Kl Km M4 M5 look Gt zipA wm wh
attribute [local simp] Nb Nc Nd Nf Ng Nh Gu Gv I0 Ni Nj w_fn Nk Nl Nm Bd I3 DS Kq Ai.ep Ai.plain Ai.owned
attribute [local simp] C0 Cs M8 M9 MA MB MC MD ME MF MG MH MI MJ MK ML M7 AZ lay Cr ldv DM Bj EH Dh Gg Co Aa.kind
attribute [local simp] Aa.one_int Aa.one_bool Aa.one_str Aa.one_nils Aa.one_slc Aa.one_vec Aa.one_ptr Aa.one_eptr Aa.one_cptr Aa.one_nilp Aa.one_fn Aa.one_nilfn Aa.one_mp Aa.one_nilmp
attribute [local simp] LS LT LU LV LW LX LY LZ Ma Mb Mc Md Me Mf Mg Mh Mi Mj Ml Mm Mn Mo Mp Mq Mr Ms Mt Mu Mv Mw Mx My Mz M0 M1 M2
attribute [local simp] Ib cI cB cS cL Nn Np Nq Nr Ns Nt Nu Nv fzm fzh fzv fzl fz1 Nw Nx Ny Nz N0 List.range_succ N2 N3 N4 N5 N6 Dx Hm N7 N8
attribute [local simp] N9
attribute [local simp] AJ.cells
attribute [local simp] AF.cells
attribute [local simp] AH.cells
attribute [local simp] Ac.cells
attribute [local simp] CD.cells
attribute [local simp] Au.cells
attribute [local simp] BC.cells
attribute [local simp] CP.cells
attribute [local simp] AB.cells
attribute [local simp] BM.cells
attribute [local simp] FI.cells
attribute [local simp] FJ.cells
attribute [local simp] Bw.cells
attribute [local simp] Ba.cells
attribute [local simp] CQ.cells
attribute [local simp] CE.cells
attribute [local simp] CR.cells
attribute [local simp] BT.cells
attribute [local simp] hset
def L63(a b c:Aa):List Aa:=.top :: .top :: .top :: .top :: .top :: .top :: .top :: a :: .top :: .top :: .top :: .top :: b :: (List.replicate 44 .top++c :: List.replicate 11 .top)
def HK(h:Ay)(e1 e4 e5 e7 n:Nat)(ks:List Int)(seen:List Nat)(e6:Nat):Ay:=fun i =>
 if i=4 then .box (e4+1) [ownV 7 (e7+ks.length) ks] else if i=5 then .miter (e5+1) (some (1,e1,n)) seen else if i=6 then .gone e6 else if i=7 then ownO (e7+ks.length) 1 (cI .i64) ks else h i
theorem jz90{α:Type}{e st:Nat}{c:α->List Aa}{l:List α}{a:α}:ownO e st c (l++[a])=.vec e st (l.length+1) (Az c (l++[a])):=by
 cases l with
 |nil=>rfl
 |cons b l=>show Ai.vec e st (l++[a]).length.succ _=_;simp
theorem jz9m{α:Type}{e i:Nat}{l:List α}{a:α}:ownV i e (l++[a])=.vec i e 0 (l.length+1):=by
 cases l with
 |nil=>rfl
 |cons b l=>show Aa.vec i e 0 (l++[a]).length.succ=_;simp
theorem Xf:∀(n:Nat) (l:List Nat),l.Nodup->(∀x,x∈l->x<n)->l.length<=n
 |0,l,_,h=>by
  cases l with
  |nil=>simp
  |cons x l=>exact absurd (h x (by simp)) (by omega)
 |n+1,l,hd,h=>by
  have h1:=Xf n (l.erase n) (hd.erase n) (fun x hx=>by have h2:=(hd.mem_erase_iff).1 hx;have:=h x h2.2;omega);have:=List.length_erase_le (a:=n) (l:=l);by_cases hm:n∈l
  ·rw[List.length_erase_of_mem hm]at h1;omega
  ·rw[List.erase_of_not_mem hm]at h1;omega
theorem kza8{o o':Ai}(h:o=o'):OSub o o':=h▸.refl _
theorem NC{h:Ay}{e1 e4 e5 e7 n:Nat}{ks:List Int}{seen:List Nat}{e6:Nat}{ds:List (Nat×Nat)}(ce:∀D∈ds,h D.1=.dfr D.2/\900<=D.1):∀D∈ds,HK h e1 e4 e5 e7 n ks seen e6 D.1=.dfr D.2:=fun D hD=>by obtain⟨a,b⟩:=ce D hD;unfold HK;rw[Aj (by omega),Aj (by omega),Aj (by omega),Aj (by omega)];exact a
theorem Xg{h H:Ay}{e1 e4 e5 e7 e6' n:Nat}{ks:List Int}{kk:Int}{seen:List Nat}{k:Nat}(jT:∀i,i≠4->i≠5->i≠6->i≠7->H i=h i){V6:Ai}(h6:V6.ep=e6'+1){N E7:Nat}(hN:N=ks.length+1)(hE:E7=e7+(ks.length+1)){f:Nat->List Aa}(hf:∀j,j<N->Az (cI .i64) (ks++[kk]) j=f j) (i:Nat) :
  OSub (hset (hset (hset (hset H 5 (.miter (e5+1) (some (1,e1,n)) (seen++[k]))) 6 V6) 7 (.vec E7 1 N f)) 4 (.box (e4+1) [.vec 7 E7 0 N]) i) (HK h e1 e4 e5 e7 n (ks++[kk]) (seen++[k]) (e6'+1) i):=by
 subst hN;subst hE;unfold HK hset;by_cases i4:i=4
 ·subst i4;simp only[Bz,jz9m,BN,Df];exact .refl _
 ·by_cases i5:i=5;·subst i5;exact .refl _
  ·by_cases i6:i=6;·subst i6;show OSub V6 (.gone (e6'+1));rw[<-h6];exact .inl rfl
   ·by_cases i7:i=7;·subst i7;simp only[Bz,jz90,BN,Df];exact .inr (.inr ⟨_,_,_,_,_,rfl,rfl,hf⟩)
    ·simp only[i4,i5,i6,i7,Cz];rw[jT i i4 i5 i6 i7];exact .refl _
theorem jz9y{TAIL:AS}{Q:Exit->Aw->Prop}(h:Ay)(ds:List (Nat×Nat))(ce:∀D∈ds,h D.1=.dfr D.2/\900<=D.1)(e1 e4 e5 e6 e7:Nat)(es:List (Aa×Aa))(ky:Nat->Int)(h1:h 1=.amap e1 es)(h4:h 4=.gone e4)(h5:h 5=.gone e5)(h6:h 6=.gone e6)(h7:h 7=.gone e7)(hm:es.length<=1000000000) (hk:∀k,k<es.length->(es.getD k (.top,.top)).1=.int .i64 (ky k))(fin:∀(ord:List Nat) (e6':Nat),ord.Nodup->(∀x,x∈ord↔x<es.length)->AW EE none Tryz.prog TAIL Q ⟨L63 (.mp 1 e1) (.ptr 4 (e4+1) 0) (.ptr 5 (e5+1) 0),HK h e1 e4 e5 e7 es.length (ord.map ky) ord e6',ds⟩) :
  AW EE none Tryz.prog (.seq (.reg false (Re 0) []) (.seq (.seq (.reg false (Rf 0) []) (.block 4 (.loop (Xh 0)))) TAIL)) Q ⟨L63 (.mp 1 e1) .top .top,h,ds⟩:=by
 refine AW.sr (by simp[Re,L63,List.replicate,h4];rfl) ?_;refine .seq (.seq (AW.r1 (by simp[Rf,JQ,hset,h1,h5];rfl) ?_));refine .block (.loop (fun y:List Nat×Nat=>(⟨L63 (.mp 1 e1) (.ptr 4 (e4+1) 0) (.ptr 5 (e5+1) 0),HK h e1 e4 e5 e7 es.length (y.1.map ky) y.1 y.2,ds⟩:Aw)) (fun y=>es.length-y.1.length) (fun y=>y.1.Nodup/\∀j,j∈y.1->j<es.length) ([],e6) ⟨.nil,by intro j hj;cases hj⟩ (.of_sub ⟨?_,fun i=>kza8 ?_,rfl,NC ce⟩) ?_)
 ·simp[L63,List.replicate,TSub,VSub]
 ·simp only[HK,hset];by_cases i4:i=4
  ·simp[i4]
  ·by_cases i5:i=5;·simp[i5]
   ·by_cases i6:i=6;·simp[i6,h6]
    ·by_cases i7:i=7;·simp[i7,h7]
     ·simp[i4,i5,i6,i7]
 rintro⟨seen,e6'⟩ ⟨dj,hlt⟩;simp only at dj hlt;have k1:HK h e1 e4 e5 e7 es.length (seen.map ky) seen e6' 1=.amap e1 es:=h1;have k4:HK h e1 e4 e5 e7 es.length (seen.map ky) seen e6' 4=.box (e4+1) [ownV 7 (e7+(seen.map ky).length) (seen.map ky)]:=rfl;have k5:HK h e1 e4 e5 e7 es.length (seen.map ky) seen e6' 5=.miter (e5+1) (some (1,e1,es.length)) seen:=rfl;have k6:HK h e1 e4 e5 e7 es.length (seen.map ky) seen e6' 6=.gone e6':=rfl;have k7:HK h e1 e4 e5 e7 es.length (seen.map ky) seen e6' 7=ownO (e7+(seen.map ky).length) 1 (cI .i64) (seen.map ky):=rfl;generalize hH:HK h e1 e4 e5 e7 es.length (seen.map ky) seen e6'=H at *;have jT:∀i,i≠4->i≠5->i≠6->i≠7->H i=h i:=fun i a b c d=>by rw[<-hH];simp[HK,a,b,c,d]
 refine .seq (.reg ?_);simp[Xi,L63,List.replicate,Hg,k1,k5];refine⟨fun k eS cm=>?_,fun bG=>?_⟩
 ·have gy:es[k].fst=.int .i64 (ky k):=by have:=hk k eS;simpa [eS] using this
  refine .seq (AW.if' true rfl (fun _=>AW.skip ?_) (fun e=>by cases e));have gV:(seen++[k]).Nodup:=by rw[List.nodup_append];exact⟨dj,by simp,fun x hx y hy=>by simp at hy;subst hy;intro e;subst e;exact cm hx⟩
  have hlt':∀j,j∈seen++[k]->j<es.length:=by
   intro j hj;rcases Cq.1 hj with h|h
   ·exact hlt j h
   ·simp at h;omega
  have aE:=Xf _ _ gV hlt';rw[BN]at aE;simp only[Df]at aE;refine .block (AW.sr (by simp[Xj,Ii,hset,k1];simp[eS,gy];rfl) ?_);have k4':H 4=.box (e4+1) [ownV 7 (e7+seen.length) (seen.map ky)]:=by rw[k4];simp
  have k7':H 7=ownO (e7+seen.length) 1 (cI .i64) (seen.map ky):=by rw[k7];simp
  generalize fT:seen.map ky=ks at *;have gW:ks.length=seen.length:=by rw[<-fT];simp
  cases ks with
  |nil =>
   have co:seen=[]:=Uy (by rw[<-gW];rfl);subst co;refine AW.r1 (by simp[Rg,hset,k4',k6,k7'];rfl) ?_;refine⟨[]++[k],⟨gV,hlt'⟩,by simp;omega,e6'+1,.of_sub ⟨?_,fun i=>?_,rfl,NC ce⟩⟩
   ·simp[L63,List.replicate,TSub,VSub]
   ·exact Xg (ks:=[]) (kk:=ky k) (seen:=[]) (k:=k) jT rfl rfl rfl (fun j hj=>by
     obtain rfl:j=0:=by simp at hj;omega
     rfl) i
  |cons q ks =>
   refine AW.r1 (by simp[Rg,hset,k4',k6,k7'];exact⟨by simp at gW;omega,rfl⟩) ?_;refine⟨seen++[k],⟨gV,hlt'⟩,by simp;omega,e6'+1,.of_sub ⟨?_,fun i=>?_,rfl,NC ce⟩⟩
   ·simp[L63,List.replicate,TSub,VSub]
   ·rw[show(seen++[k]).map ky=(q :: ks)++[ky k] by rw[List.map_append,fT];rfl];refine Xg (ks:=q :: ks) (kk:=ky k) jT rfl (by simp) (by simp at gW;simp;omega) (fun j hj=>?_) i;rw[yzt];by_cases bF:j<ks.length+1
    ·simp[bF]
    ·obtain rfl:j=ks.length+1:=by omega
     simp[Az,cI]
 ·refine .seq (AW.if' false rfl (fun e=>by cases e) (fun _=>.exit ?_));simp only[Bc,ablk,Bz];have hf:=fin seen e6' dj fun x=>⟨hlt x,bG x⟩;rw[hH]at hf;refine .see (.of_sub (S':=⟨L63 (.mp 1 e1) (.ptr 4 (e4+1) 0) (.ptr 5 (e5+1) 0),H,ds⟩) ⟨?_,fun i=>.refl _,rfl,?_⟩) hf
  ·simp[L63,List.replicate,TSub,VSub]
  ·rw[<-hH];exact NC ce
end Go.Am

