/- Part C2: contracts of some functions of this seat. No condition. -/
import Derived.Test.YtibbibelkkgfpaaGreatDoorC1
set_option linter.unusedSimpArgs false
set_option linter.unusedVariables false
set_option maxRecDepth 100000
namespace Go.Am
open Go.Proofs
attribute [local simp] areg aop dreg dop An.req Ag argU An.args BD An.unAll Req.val Req.when putT putH Ay ablk HS GA yzk G9 F3 vzo vz1 vz8 vzm yz3 yzu kz0 Mf yz8 yzr yzq IntKind.bits Gr ARes.ok ARes.val Gs cut An.quiet
attribute [local simp] UE UF UG UB UC UD O5 UY Va
attribute [local simp] JQ JP yzd Ma Mb look Dz zipA wm wh
attribute [local simp] Mg JS F6 GO Im Mh Mi yzy Fu yzc Th JT Ad.ep Ad.plain Ad.owned
attribute [local simp] CV Lx jz7 jzo jz0 jzf jz2 jz4 jzx jzn jzm jzk kzy wz4 kz1 wz2 jz6 Bz lay CA ldv DT Bj EF Cr yzh B2 Aa.kind
attribute [local simp] Aa.one_int Aa.one_bool Aa.one_str Aa.one_nils Aa.one_slc Aa.one_vec Aa.one_ptr Aa.one_eptr Aa.one_cptr Aa.one_nilp Aa.one_fn Aa.one_nilfn Aa.one_mp Aa.one_nilmp
attribute [local simp] yz6 LQ vz0 vzz yzt yzs vzt vz3 LR yzv yzo yzn yz0 LS vz4 vz7 vzx vzr vzq vz5 LT LU kzz kzx LV LW kzw kzv yz7 yz5 yzz yz4 LX LY yzw yz9
attribute [local simp] HL cI cB cS cL wz3 jzl jzj wzv kzu vzv kzs vz6 fzv fzl fz1 Mj vzw Mk yzp List.range_succ HW Pm jzp jzg

attribute [local simp] AM.cells Ao.cells Af.cells Bq.cells Bc.cells Al.cells Ba.cells Ec.cells GP.cells EA.cells Gt.cells AQ.cells A7.cells GQ.cells ES.cells DQ.cells EB.cells GR.cells GS.cells Dh.cells Gu.cells
attribute [local simp] hset
section
theorem wza0(a:Ao):Bz (Ao.cells a)=true:=rfl
theorem qz6z(a:Ao):List.take 5 (Ao.cells a)=Ao.cells a:=rfl
def k53:Fc:=⟨53,[(.us 6)],[false],[.bool],fun x=>GU x⟩
def k67:Fc:=⟨67,[(.int .i64),(.int .i64),(.int .i64)],[false,false,false],[(.us 1)],fun x=>Iq x.1 x.2.1 x.2.2⟩
def k68:Fc:=⟨68,[(.us 1),(.us 1)],[false,false],[(.us 1),.bool],fun x=>JX x.1 x.2⟩
def k34:Fc:=⟨34,[(.us 6)],[false],[(.slc (.us 1)),(.int .i64)],fun x=>GV x⟩
theorem wzb6{a:AM}{z:Aa}(hz:z∈a.cells):AB z:=by simp[AM.cells]at hz;rcases hz with rfl|rfl<;>exact .int _ _
theorem wzfn{a:Ao}{z:Aa}(hz:z∈a.cells):AB z:=by simp[Ao.cells]at hz;rcases hz with rfl|rfl|rfl|rfl|rfl<;>first|exact .int _ _|exact CI fun a z hz=>wzb6 hz
def HO(hc:List Aa)(o:Ad)(e1 e3 e4:Nat):Aq:=fun i =>
 if i=0 then .box 1 hc else if i=1 then .gone e1 else if i=2 then o else if i=3 then .gone e3 else if i=4 then .gone e4 else .gone 0
theorem Vp{α:Type}(id ep:Nat)(l:List α)(x:α):ownV id ep (l++[x])=.vec id ep 0 (l.length+1):=by cases l<;>simp[ownV]
theorem Vq{α:Type}(ep st:Nat)(c:α->List Aa)(l:List α)(x:α):ownO ep st c (l++[x])=.vec ep st (l.length+1) (Ai c (l++[x])):=by cases l<;>simp[ownO]
def TO7(hc:List Aa)(S O:Aa)(n k:Nat):List Aa:=[.agg hc,.ptr 0 1 0,.nils,.int .i64 0,O,.top,.top,.top,.top,.top,.top,.top,.top,.top,S,.int .i64 n,.int .i64 k]++List.replicate 49 .top
structure Y7 where
 k:Nat
 ep:Nat
 out:List Ao
 e1:Nat
 e3:Nat
 e4:Nat
theorem wzkq{a x:Ao}{m:List Ao}(j:Nat)(hj:j<m.length+1+1):Ai Ao.cells (a :: m++[x]) j=if j<m.length+1 then Ai Ao.cells (a :: m) j else [Ao.cells x][j-(m.length+1)]?.getD []:=by
 by_cases bc:j<m.length+1
 ·rw[Aj bc];unfold Ai;rw[Fw (by simpa using bc)]
 ·obtain rfl:j=m.length+1:=by omega
  rw[Ah bc,Bb (x:=x) (by simp)];simp
theorem wzhe{h:Ba}(e:GU h=some true):h.Stages.length<=40000:=by
 unfold GU at e;cases hd:decide ((h.Stages.length:Int)<=40000)
 ·rw[hd]at e;cases e
 ·have:=BX hd;omega
set_option maxHeartbeats 4000000 in
theorem of70(hR:∀(h:Ba) (r:Bool),GU h=some r->AJ EE Tryz.prog 53 [.agg h.cells] (.bool r))(hH:∀(a b s:Int) (r:Ao),Iq a b s=some r->AJ EE Tryz.prog 67 [.int .i64 a,.int .i64 b,.int .i64 s] (.agg r.cells))(hB:∀(a b:Ao) (r:Ao×Bool),JX a b=some r->AJ EE Tryz.prog 68 [.agg a.cells,.agg b.cells] (.tup [.agg r.1.cells,.bool r.2]))(h:Ba) (r:List Ao×Int) (hF:GV h=some r):ATr EE Tryz.prog 34 [.agg h.cells] h0 (fun v _=>W v (.tup [slcV 5 Ao.cells r.1,.int .i64 r.2])):=by
 unfold GV at hF;cases h1:GU h with
 |none=>rw[h1]at hF;cases hF
 |some rb =>
 have sR:=hR h rb h1;rw[h1]at hF;have hF:ite' (!rb) (some ([],1)) (bd (ofL h.From 0 h.Stages []) fun out=>ite' (decide (2000<(List.length out:Int))) (some ([],2)) (some (out,0)))=some r:=hF;obtain⟨c,hb,hc⟩:=ck34;refine ATr.of (fn:=Tryz.f34) rfl hb cr34 (hc 0) 65 rfl ?_;obtain⟨hf,hs⟩:=h;have eI:Ba.cells ⟨hf,hs⟩=[.int .i64 hf,(Aa.slc 1 hs.length (Ai (cI .i64) hs))]:=rfl;simp only[eI]at sR |-;refine AW.sr (by simp[Vr,List.replicate,h0];rfl) ?_;refine .seq (AW.sr (by simp[Vs];refine sR.call ?_;(try simp);rfl) ?_);refine AW.if' (!rb) (by simp) (fun e'=>?_) (fun e'=>AW.skip ?_)
 ·rw[show(!rb)=true from e']at hF;cases hF;refine AW.sr (by simp[Vt];rfl) ?_;refine .ret ?_;simp only[Ay];refine .here (by simp[rs34]) rfl ?_;simp[rs34]
 rw[show(!rb)=false from e']at hF
 have aE:hs.length<=40000:=by
  have:rb=true:=by simpa using e'
  rw[this]at h1;exact wzhe h1
 have hF:bd (ofL hf 0 hs []) (fun out=>ite' (decide (2000<(List.length out:Int))) (some ([],2)) (some (out,0)))=some r:=hF;cases h3:ofL hf 0 hs [] with
 |none=>rw[h3]at hF;cases hF
 |some fin =>
 rw[h3]at hF;have hF:ite' (decide (2000<(List.length fin:Int))) (some ([],2)) (some (fin,0))=some r:=hF;simp only[Ay];refine AW.sr (by simp[Vu];rfl) ?_;refine .seq (.seq (AW.r1 (by simp[Vv];rfl) ?_));refine .block (.loop (fun y:Y7=>(⟨TO7 [.int .i64 hf,(Aa.slc 1 hs.length (Ai (cI .i64) hs))] (Aa.slc 1 hs.length (Ai (cI .i64) hs)) (ownV 2 y.ep y.out) hs.length y.k,HO [.int .i64 hf,(Aa.slc 1 hs.length (Ai (cI .i64) hs))] (ownO y.ep 5 Ao.cells y.out) y.e1 y.e3 y.e4,[]⟩:As)) (fun y=>hs.length-y.k) (fun y=>y.k<=hs.length/\y.out.length<=y.k/\ofL hf y.k (hs.drop y.k) y.out=some fin) ⟨0,0,[],0,0,0⟩ ⟨BB _,A9 _,h3⟩ (.of_sub ⟨?_,fun i=>?_,rfl,fun D hD=>by cases hD⟩) ?_)
 ·simp[TO7,List.replicate,TSub,VSub,ownV]
 ·refine .of_eq ?_;simp only[HO,hset,h0,ownO];by_cases i0:i=0
  ·subst i0;simp
  by_cases i2:i=2
  ·subst i2;simp
  simp[i0,i2]
 rintro⟨k,ep,out,e1,e3,e4⟩ ⟨hk,ho,bJ⟩;simp only at hk ho bJ |-;have q0:∀o e1 e3 e4,HO [.int .i64 hf,(Aa.slc 1 hs.length (Ai (cI .i64) hs))] o e1 e3 e4 0=.box 1 [.int .i64 hf,(Aa.slc 1 hs.length (Ai (cI .i64) hs))]:=fun _ _ _ _=>rfl;have q1:∀o e1 e3 e4,HO [.int .i64 hf,(Aa.slc 1 hs.length (Ai (cI .i64) hs))] o e1 e3 e4 1=.gone e1:=fun _ _ _ _=>rfl;have q2:∀o e1 e3 e4,HO [.int .i64 hf,(Aa.slc 1 hs.length (Ai (cI .i64) hs))] o e1 e3 e4 2=o:=fun _ _ _ _=>rfl;have q3:∀o e1 e3 e4,HO [.int .i64 hf,(Aa.slc 1 hs.length (Ai (cI .i64) hs))] o e1 e3 e4 3=.gone e3:=fun _ _ _ _=>rfl;have q4:∀o e1 e3 e4,HO [.int .i64 hf,(Aa.slc 1 hs.length (Ai (cI .i64) hs))] o e1 e3 e4 4=.gone e4:=fun _ _ _ _=>rfl;refine AW.sr (by simp[Vw,TO7,List.replicate];rfl) ?_;refine .seq (AW.if' (decide ((k:Int)<(hs.length:Int))) (by simp) (fun e=>AW.skip ?_) (fun e=>.exit ?_))
 ·have hlt:k<hs.length:=by have:=BX e;omega
  have bN:hs[k]?=some hs[k]:=AA hlt;have aK:Ai (cI .i64) hs k=[.int .i64 hs[k]]:=by rw[Bb bN];rfl
  have gq:hs.drop k=hs[k] :: hs.drop (k+1):=Ft hlt;rw[gq]at bJ;generalize hs[k]=s at *;have bJ:ck (Au .i64 (hf+k)&&Au .i64 (hf+k+1)) (bd (Iq (hf+k) (hf+k+1) s) fun x=>bd (JY out x) fun out=>ofL hf (k+1) (hs.drop (k+1)) out)=some fin:=bJ;cases jl:(Au .i64 (hf+(k:Int))&&Au .i64 (hf+(k:Int)+1)) with
  |false=>rw[jl]at bJ;cases bJ
  |true =>
  rw[jl]at bJ;cases hh:Iq (hf+k) (hf+k+1) s with
  |none=>rw[hh]at bJ;cases bJ
  |some x =>
  rw[hh]at bJ;have bJ:bd (JY out x) (fun out=>ofL hf (k+1) (hs.drop (k+1)) out)=some fin:=bJ;cases hp:JY out x with
  |none=>rw[hp]at bJ;cases bJ
  |some out1 =>
  rw[hp]at bJ;have bJ:ofL hf (k+1) (hs.drop (k+1)) out1=some fin:=bJ;have sH:=hH _ _ _ _ hh;simp only[AH]at jl;have g1:inr .i64 (hf+(k:Int)):=by have:=jl.1;simp[Au]at this;exact this
  have g2:inr .i64 (hf+(k:Int)+1):=by have:=jl.2;simp[Au]at this;exact this
  have gH:inr .i64 ((k:Int)+1):=by show _/\_;omega
  simp only[Ay];refine .seq (.block (AW.sr (by simp[Vy,hlt,aK];rfl) ?_));refine .seq (.reg ((?_:areg EE Tryz.prog (Ml 0) _ (fun S'=>See EE S' ⟨TO7 [.int .i64 hf,(Aa.slc 1 hs.length (Ai (cI .i64) hs))] (Aa.slc 1 hs.length (Ai (cI .i64) hs)) (.vec 2 (ep+1) 0 (out.length+1)) hs.length k,HO [.int .i64 hf,(Aa.slc 1 hs.length (Ai (cI .i64) hs))] (.vec (ep+1) 5 (out.length+1) (Ai Ao.cells (out++[x]))) (e1+1) e3 e4,[]⟩)).mono ?_))
  ·cases out with
   |nil =>
    simp[Ml,q0,q1,q2,ownV,ownO];refine⟨g1,g2,sH.call ?_⟩;simp[q0,q1,q2,q3,q4];refine .of_sub ⟨?_,fun i=>?_,rfl,fun D hD=>by cases hD⟩
    ·simp[TO7,List.replicate,TSub,VSub]
    ·simp only[hset];by_cases i2:i=2
     ·subst i2;refine .inr (.inr ⟨ep+1,5,1,_,Ai Ao.cells [x],by simp;rfl,rfl,fun j hj=>?_⟩);obtain rfl:j=0:=by omega
      simp
     by_cases i1:i=1
     ·subst i1;exact .inl (by simp;rfl)
     exact .of_eq (by simp[HO,i1,i2])
   |cons a m =>
    simp[Ml,q0,q1,q2,ownV,ownO];refine⟨g1,g2,sH.call ?_⟩;have fe:(m.length+1+1)*56<=140737488355328:=by simp at ho;omega
    simp[q0,q1,q2,q3,q4];refine⟨fe,.of_sub ⟨?_,fun i=>?_,rfl,fun D hD=>by cases hD⟩⟩
    ·simp[TO7,List.replicate,TSub,VSub]
    ·simp only[hset];by_cases i2:i=2
     ·subst i2;refine .inr (.inr ⟨ep+1,5,m.length+1+1,_,Ai Ao.cells (a :: m++[x]),by simp;rfl,rfl,fun j hj=>?_⟩);exact wzkq j hj
     by_cases i1:i=1
     ·subst i1;exact .inl (by simp;rfl)
     exact .of_eq (by simp[HO,i1,i2])
  rintro S' lm;refine .see lm ?_;refine AW.sr (by simp[Vz,TO7,q2,List.replicate];rfl) ?_;refine AW.sr (by simp[V0];rfl) ?_;rcases List.eq_nil_or_concat out with rfl|⟨m,a,rfl⟩
  ·cases hp;refine AW.if' false (by simp) (fun e=>by cases e) (fun _=>AW.skip ?_);simp only[Ay,ablk];refine AW.r1 (by simp[Mm];exact⟨gH,rfl⟩) ?_;simp only[Ay];refine⟨⟨k+1,ep+1,[x],e1+1,e3,e4⟩,⟨by simp only;omega,by simp,bJ⟩,by simp only;omega,.of_sub ⟨?_,fun i=>.refl _,rfl,fun D hD=>by cases hD⟩⟩;simp[TO7,List.replicate,TSub,VSub,ownV]
  ·rw[List.concat_eq_append]at *;have hp:bd (JX a x) (fun p=>some (bif p.2 then(m++[a]).dropLast++[p.1] else m++[a]++[x]))=some out1:=by unfold JY at hp;rw[List.getLast?_concat]at hp;exact hp
   cases du:JX a x with
   |none=>rw[du]at hp;cases hp
   |some p =>
   rw[du]at hp;have sB:=hB _ _ _ du;have hp:out1=bif p.2 then m++[p.1] else m++[a]++[x]:=by have:=AI hp;rw[List.dropLast_concat]at this;exact this.symm
   have fe:(m++[a]).length=m.length+1:=by simp
   have pm:Ai Ao.cells (m++[a]++[x]) m.length=a.cells:=Bb (by simp);have pn:Ai Ao.cells (m++[a]++[x]) (m.length+1)=x.cells:=Bb (by simp);simp only[fe]at *;refine AW.if' true (by simp;omega) (fun _=>?_) (fun e=>by cases e);have ga:((m.length:Int)+1+1-2)=(m.length:Int):=by omega
   have lq:Ai Ao.cells (m++[a,x]) m.length=a.cells:=Bb (by simp);have lr:Ai Ao.cells (m++[a,x]) (m.length+1)=x.cells:=Bb (by simp);have jm:inr .i64 (m.length:Int):=by show _/\_;omega
   have lu:inr .i64 ((m.length:Int)+1):=by show _/\_;omega
   refine .seq (.draw ?_);simp[V6,q2,Ce,ga,lq,lr,qz6z,-Ao.cells];refine⟨jm,by omega,by omega,lu,by omega,sB.cd (.refl _) ?_⟩;simp[q3,-Ao.cells];refine⟨⟨rfl,wza0 _⟩,by kernel_rfl,?_⟩;refine AW.sr (by simp[V7];rfl) ?_;cases i9:p.2
   ·rw[i9]at hp;have hp:out1=m++[a]++[x]:=hp;subst hp;refine AW.if' false (by simp[i9]) (fun e=>by cases e) (fun _=>AW.skip ?_);simp only[Ay,ablk];refine AW.r1 (by simp[Mm];exact⟨gH,rfl⟩) ?_;simp only[Ay];refine⟨⟨k+1,ep+1,m++[a]++[x],e1+1,e3+1,e4⟩,⟨by simp only;omega,by simp;omega,bJ⟩,by simp only;omega,.of_sub ⟨?_,fun i=>?_,rfl,fun D hD=>by cases hD⟩⟩
    ·rw[Vp];simp[TO7,List.replicate,TSub,VSub]
    ·rw[Vq];simp only[hset];by_cases i3:i=3
     ·subst i3;exact .inl (by simp;rfl)
     exact .of_eq (by simp[HO,i3])
   ·rw[i9]at hp;have hp:out1=m++[p.1]:=hp;subst hp;refine AW.if' true (by simp[i9]) (fun _=>?_) (fun e=>by cases e);refine .draw ?_;simp[V8,q2,q3,q4,ga,-Ao.cells];refine⟨jm,by omega,⟨by omega,by omega⟩,by kernel_rfl,?_⟩;refine AW.r1 (by simp[Mm];exact⟨gH,rfl⟩) ?_;simp only[Ay];refine⟨⟨k+1,ep+2,m++[p.1],e1+1,e3+1,e4+1⟩,⟨by simp only;omega,by simp;omega,bJ⟩,by simp only;omega,.of_sub ⟨?_,fun i=>?_,rfl,fun D hD=>by cases hD⟩⟩
    ·rw[Vp];simp[TO7,List.replicate,TSub,VSub]
    ·rw[Vq];simp only[hset];by_cases i2:i=2
     ·subst i2;refine .inr (.inr ⟨ep+2,5,m.length+1,_,Ai Ao.cells (m++[p.1]),by simp;rfl,rfl,fun j hj=>?_⟩);by_cases bc:j<m.length
      ·rw[Aj bc];unfold Ai;rw[Fw bc,Fw bc]
      ·obtain rfl:j=m.length:=by omega
       rw[Ah bc,Bb (x:=p.1) (by simp)];simp
     by_cases i4:i=4
     ·subst i4;exact .inl (by simp;rfl)
     by_cases i3:i=3
     ·subst i3;exact .inl (by simp;rfl)
     exact .of_eq (by simp[HO,i2,i3,i4])
 ·obtain rfl:k=hs.length:=by have:=of_decide_eq_false e;omega
  rw[List.drop_length]at bJ;have bJ:some out=some fin:=bJ;obtain rfl:=AI bJ;simp only[Ay,ablk,AX]
  have gb:(2000<(out.length:Int)->r=([],2))/\(¬2000<(out.length:Int)->r=(out,0)):=by
   refine⟨fun h=>?_,fun h=>?_⟩
   ·rw[AD h]at hF;cases hF;rfl
   ·rw[AE h]at hF;cases hF;rfl
  cases out with
  |nil =>rw[gb.2 (by simp)];refine .seq (AW.sr (by simp[Pp,TO7,ownV,ownO,List.replicate];rfl) ?_);refine AW.if' false (by simp) (fun e=>by cases e) (fun _=>AW.skip ?_);simp only[Ay];refine AW.sr (by simp[Pq];rfl) ?_;refine .ret (.here (by simp[rs34]) rfl ?_);simp[rs34]
  |cons a m =>
   refine .fzc 2 (by simp[q2,ownO]) (by simp[q2,ownO]) ?_;refine .seq (AW.sr (by simp[Pp,TO7,ownV,ownO,q2,List.replicate];rfl) ?_);refine AW.if' (decide (2000<((a :: m).length:Int))) (by simp) (fun e=>?_) (fun e=>AW.skip ?_)
   ·rw[gb.1 (BX e)];refine AW.sr (by simp[V9];rfl) ?_;refine .ret ?_;simp only[Ay];refine .here (by simp[rs34]) rfl ?_;simp[rs34]
   ·rw[gb.2 (of_decide_eq_false e)];simp only[Ay];refine AW.sr (by simp[Pq];rfl) ?_;refine .ret (.here (by simp[rs34]) rfl ?_);simp[rs34]
theorem VA{w:Ba}{z:Aa}(hz:z∈w.cells):AB z:=by
 simp[Ba.cells]at hz;rcases hz with rfl|rfl
 ·exact .int _ _
 ·exact CI fun a z hz=>O5 z hz
theorem wztl(H96:Ap k53)(H97:Ap k67)(H98:Ap k68):Ap k34:=by
 refine⟨by kernel_rfl,fun x y e=>?_⟩;have H:Pure EE Tryz.prog 34 [.agg x.cells] (.tup [slcV 5 Ao.cells y.1,.int .i64 y.2]):=(of70 (fun w e h=>H96.still (x:=w) (y:=e) h (by kernel_rfl)) (fun a b s r h=>H97.still (x:=(a,b,s)) (y:=r) h (by kernel_rfl)) (fun a b r h=>H98.still (x:=(a,b)) (y:=r) h (by kernel_rfl)) x y e).wv fun v h' q=>⟨_,q,rfl⟩
 exact(Pure.still H hEE (fun z hz=>by
  rw[CR.1 hz];exact .agg _ fun z hz=>VA hz) (.tup _ fun z hz=>by
  rcases Bf.1 hz with rfl|hz
  ·exact CI fun a z hz=>wzfn hz
  ·rw[CR.1 hz];exact .int _ _)).cast (by kernel_rfl)
end
section
def cE(c:List ((Int×Int)×Af)):List (Aa×Aa):=c.map fun p=>(.agg [.int .i64 p.1.1,.int .i64 p.1.2],.agg (Af.cells p.2))
def cget:List ((Int×Int)×Af)->Int->Int->Option Af
 |[],_,_=>none
 |p :: c,k,s=>bif decide (k=p.1.1)&&decide (s=p.1.2) then some p.2 else cget c k s
def cput(c:List ((Int×Int)×Af))(k s:Int)(r:Af):List ((Int×Int)×Af):=match cget c k s with
 |none=>c++[((k,s),r)]
 |some _=>c
theorem VB(k s:Int):∀(c:List ((Int×Int)×Af)) (i:Nat),∃j,Cb (.agg [.int .i64 k,.int .i64 s]) (cE c) i=some (match cget c k s with | none=>none | some r=>some (j,.agg r.cells))
 |[],i=>⟨0,rfl⟩
 |p :: c,i=>by
  have e:DU (.agg [.int .i64 k,.int .i64 s]) (.agg [.int .i64 p.1.1,.int .i64 p.1.2])=some (decide (k=p.1.1)&&decide (s=p.1.2)):=by simp[DU,B2]
  show ∃j,(match DU (.agg [.int .i64 k,.int .i64 s]) (.agg [.int .i64 p.1.1,.int .i64 p.1.2]) with
   |some true=>some (some (i,Aa.agg (Af.cells p.2)))
   |some false=>Cb (.agg [.int .i64 k,.int .i64 s]) (cE c) (i+1)
   | none=>none)=some (match (bif decide (k=p.1.1)&&decide (s=p.1.2) then some p.2 else cget c k s) with | none=>none | some r=>some (j,.agg r.cells))
  rw[e];cases decide (k=p.1.1)&&decide (s=p.1.2)
  ·exact VB k s c (i+1)
  ·exact⟨i,rfl⟩
def CcV(l:List Al)(c:List ((Int×Int)×Af)):Prop:=∀(k:Nat) (s:Int) (r:Af),cget c k s=some r->∃x,l[k]?=some x/\D8 x s=some r
theorem wzi6(c:List ((Int×Int)×Af))(k s a b:Int)(r:Af):cget (c++[((a,b),r)]) k s=(match cget c k s with | some q=>some q | none=>bif decide (k=a)&&decide (s=b) then some r else none):=by
 induction c with
 |nil=>rfl
 |cons p c ih =>
  show(bif decide (k=p.1.1)&&decide (s=p.1.2) then some p.2 else cget (c++[((a,b),r)]) k s)=(match (bif decide (k=p.1.1)&&decide (s=p.1.2) then some p.2 else cget c k s) with | some q=>some q | none=>_);cases decide (k=p.1.1)&&decide (s=p.1.2)
  ·exact ih
  ·rfl
theorem wzqw{l:List Al}{c:List ((Int×Int)×Af)}(h:CcV l c){k:Nat}{s:Int}{x:Al}{r:Af}(hx:l[k]?=some x)(hr:D8 x s=some r):CcV l (cput c k s r):=by
 unfold cput;cases e:cget c k s with
 |some q=>exact h
 |none =>
  intro a b q hq;rw[wzi6]at hq;cases e2:cget c a b with
  |some z=>rw[e2]at hq;cases hq;exact h a b _ e2
  |none =>
   rw[e2]at hq;have hq:(bif decide ((a:Int)=k)&&decide (b=s) then some r else none)=some q:=hq;cases e3:decide ((a:Int)=k)&&decide (b=s) with
   |false=>rw[e3]at hq;cases hq
   |true =>
    rw[e3]at hq;cases hq;simp only[AH,CS]at e3;obtain⟨e3,rfl⟩:=e3;obtain rfl:a=k:=by omega
    exact⟨x,hx,hr⟩
def HV(l:List Al)(e5 e6:Nat)(c:List ((Int×Int)×Af))(q:Af):Aq:=fun i =>
 if i=5 then .amap e5 (cE c) else if i=6 then .box e6 [slcV 7 Al.cells l,.mp 5 e5,.bool q.Neg,.str q.Num,.str q.Den] else .gone 0
set_option maxHeartbeats 4000000 in
theorem of99(hR:∀(x:Al) (s:Int) (r:Af),D8 x s=some r->AJ EE Tryz.prog 132 [.agg x.cells,.int .i64 s] (.agg r.cells)){l:List Al} {k:Nat} {s:Int} {x:Al} (hx:l[k]?=some x) {r:Af} (hr:D8 x s=some r) {c:List ((Int×Int)×Af)} (hc:CcV l c) (e5 e6:Nat) (q:Af) :
  ATr EE Tryz.prog 97 [.ptr 6 e6 0,.int .i64 k,.int .i64 s] (HV l e5 e6 c q) (fun v h'=>v=.agg r.cells/\∀i,i∈[5,6]->h' i=HV l e5 e6 (cput c k s r) q i):=by
 obtain⟨cd,hb,bW⟩:=ck97;have sR:=hR x s r hr;have q5:HV l e5 e6 c q 5=.amap e5 (cE c):=rfl;have q6:HV l e5 e6 c q 6=.box e6 [slcV 7 Al.cells l,.mp 5 e5,.bool q.Neg,.str q.Num,.str q.Den]:=rfl;have q7:HV l e5 e6 c q 7=.gone 0:=rfl;have q8:HV l e5 e6 c q 8=.gone 0:=rfl;have q9:HV l e5 e6 c q 9=.gone 0:=rfl;obtain⟨j,jn⟩:=VB k s c 0;have kg:¬(k:Int)<0:=by omega
 refine ATr.of (fn:=Tryz.f97) rfl hb cr97 (bW 7) 40 rfl ?_;refine AW.sr (by simp[VC,List.replicate,q7];rfl) ?_;refine .seq (AW.sr (by simp[VD];rfl) ?_);refine AW.if' (decide ((k:Int)<0)) (by simp) (fun e=>absurd (BX e) kg) (fun _=>AW.skip ?_);simp only[Ay];refine AW.sr (by simp[VE,q8];rfl) ?_;refine .seq (.draw ?_);cases hg:cget c k s with
 |some r0 =>
  obtain⟨x0,h1,h2⟩:=hc k s r0 hg;obtain rfl:x0=x:=by rw[hx]at h1;exact(AI h1).symm
  obtain rfl:r0=r:=by rw[hr]at h2;exact(AI h2).symm
  rw[hg]at jn;have hp:cput c k s r0=c:=by unfold cput;rw[hg]
  rw[hp];simp[Pr,q5,q6,q7,q8,q9,EG,BM,jn,Aa.kkind,encK];refine⟨by kernel_rfl,?_⟩;refine .seq (AW.sr (by simp[Ps];rfl) ?_);refine AW.if' false (by simp) (fun e=>by cases e) (fun _=>AW.skip ?_);simp only[Ay];refine AW.sr (by simp[Pt];rfl) ?_;refine .ret (.here (by simp[rs97]) rfl ?_);simp[rs97,q5,q6]
 |none =>
  rw[hg]at jn;have hp:cput c k s r=c++[(((k:Int),s),r)]:=by unfold cput;rw[hg]
  rw[hp];have gI:k<l.length:=(AC.1 hx).1;have aK:Ai Al.cells l k=x.cells:=Bb hx;simp[Pr,q5,q6,q7,q8,q9,EG,BM,jn,Aa.kkind,encK];refine⟨by kernel_rfl,?_⟩;refine .seq (AW.sr (by simp[Ps];rfl) ?_);refine AW.if' true (by simp) (fun _=>?_) (fun e=>by cases e);refine AW.sr (by simp[VF,q5,q6,gI,aK];exact sR.call (by simp;rfl)) ?_;refine .draw ?_;simp[VG,q5,q6,Cs,jn,Aa.kkind,encK];refine⟨by kernel_rfl,?_⟩;refine AW.sr (by simp[Pt];rfl) ?_;refine .ret (.here (by simp[rs97]) rfl ?_);simp[rs97,q5,q6,HV,cE]
theorem Pu{E:Nat->Aa}{P:Program}{l2:List Ak}:∀(l1:List Ak) (S:As) (K:As->List (List Nat×Option Nat)->Prop),dreg E P l1 S (fun S' tr=>GL E P l2 S' (fun S'' tr2=>K S'' (tr++tr2)))->GL E P (l1++l2) S K
 |[],S,K,h=>h
 |o :: l1,S,K,h=>by obtain⟨v,rd,out,h1,h2⟩:=U6 h;exact⟨v,rd,out,h1,Pu l1 _ _ h2⟩
theorem qz98{E:Nat->Aa}{P:Program}(l:List Ak)(S:As)(K:As->List (List Nat×Option Nat)->Prop)(h:dreg E P l S (fun S' tr=>K S' (tr++[]))):GL E P l S K:=by
 have:=Pu (l2:=[]) l S K h
 rwa [List.append_nil]at this
theorem wzoh{F:List Nat}{a:Al}{z:Aa}(hz:z∈a.cells):BL F z:=by
 simp[Al.cells]at hz;rcases hz with rfl|rfl|rfl|rfl|rfl|rfl|rfl<;>first|exact .int _ _|exact .bool _|exact .str _|skip
 exact AB.refs (CI fun a z hz=>by simp[Bq.cells]at hz;rcases hz with rfl|rfl|rfl|rfl<;>first|exact .int _ _|exact .bool _|exact .str _)
theorem wzqi{F:List Nat}{a:Af}:BL F (.agg a.cells):=.agg _ fun z hz=>by simp[Af.cells]at hz;rcases hz with rfl|rfl|rfl<;>first|exact .int _ _|exact .bool _|exact .str _
theorem Mn(l:List Al)(e5 e6:Nat)(c:List ((Int×Int)×Af))(q:Af):∀i,i∈[5,6]->LP [5,6] (HV l e5 e6 c q i):=fun i hi=>by
 simp at hi;rcases hi with rfl|rfl
 ·intro e he;obtain⟨p,_,rfl⟩:=CQ.1 he;exact⟨.agg _ fun z hz=>by simp at hz;rcases hz with rfl | rfl<;>exact .int _ _,wzqi⟩
 ·intro z hz;simp at hz;rcases hz with rfl|rfl|rfl|rfl|rfl<;>first|exact .bool _|exact .str _|exact .mp _ _ (by simp)|skip
  exact .slc _ _ _ fun i z hi hz=>by
   by_cases h:i<l.length
   ·rw[Bb (AA h)]at hz;exact wzoh hz
   ·exact absurd hi h
theorem wzvv{l:List Al}{e5 e6:Nat}{c:List ((Int×Int)×Af)}{q:Af}{h:Aq}(h5:h 5=.amap e5 (cE c))(h6:h 6=.box e6 [slcV 7 Al.cells l,.mp 5 e5,.bool q.Neg,.str q.Num,.str q.Den]):∀i,i∈[5,6]->h i=HV l e5 e6 c q i:=fun i hi=>by
 simp only[Bf,Te,Tg]at hi;rcases hi with rfl|rfl
 ·exact h5
 ·exact h6
theorem wzjm(hR:∀(x:Al) (s:Int) (r:Af),D8 x s=some r->AJ EE Tryz.prog 132 [.agg x.cells,.int .i64 s] (.agg r.cells)){l:List Al} {k:Nat} {s:Int} {x:Al} (hx:l[k]?=some x) {r:Af} (hr:D8 x s=some r) {c:List ((Int×Int)×Af)} (hc:CcV l c) (e5 e6:Nat) (q:Af) (h:Aq) (hh:∀i,i∈[5,6]->h i=HV l e5 e6 c q i) :
  ATr EE Tryz.prog 97 [.ptr 6 e6 0,.int .i64 k,.int .i64 s] h (fun v h'=>v=.agg r.cells/\h'=putH h (some (5,.amap e5 (cE (cput c k s r))))):=by
 refine(ATr.frameW (F:=[5,6]) hEE (fun i hi=>?_) (fun z hz=>?_) (Mn l e5 e6 c q) (Mn l e5 e6 (cput c k s r) q) (fun i hi=>?_) (fun i hi=>?_) (.agg _ fun z hz=>?_) (of99 hR hx hr hc e5 e6 q) h hh).mono ?_
 ·simp at hi;simp[HV,hi]
 ·simp at hz;rcases hz with rfl|rfl|rfl
  ·exact .ptr _ _ _ (by simp)
  ·exact .int _ _
  ·exact .int _ _
 ·simp at hi;rcases hi with rfl|rfl<;>rfl
 ·simp at hi;rcases hi with rfl|rfl<;>rfl
 ·simp[Af.cells]at hz;rcases hz with rfl|rfl|rfl<;>simp
 ·rintro v h' ⟨rfl,rfl⟩;refine⟨rfl,funext fun i=>?_⟩;show(if i∈[5,6] then HV l e5 e6 (cput c k s r) q i else h i)=if i=5 then _ else h i;by_cases i5:i=5
  ·subst i5;rfl
  by_cases i6:i=6
  ·subst i6;rw[hh 6 (by simp)];rfl
  ·rw[Ah (by simp[i5,i6]),Ah i5]
def VH:List Ak:=(Ir 7).take 10
def VI:List Ak:=(Ir 7).drop 11
theorem wzwa:Ir 7=VH++(⟨some 18,.callf 97 [.t 15,.t 16,.t 17],none⟩ :: VI):=rfl
set_option maxHeartbeats 4000000 in
theorem wzu9(hR:∀(x:Al) (s:Int) (r:Af),D8 x s=some r->AJ EE Tryz.prog 132 [.agg x.cells,.int .i64 s] (.agg r.cells))(hI:∀(n:Int) (r:Af),Di n=some r->AJ EE Tryz.prog 42 [.int .i64 n] (.agg r.cells))(hM:∀(a b r:Af),C8 a b=some r->AJ EE Tryz.prog 30 [.agg a.cells,.agg b.cells] (.agg r.cells))(hA:∀(a b r:Af),BY a b=some r->AJ EE Tryz.prog 31 [.agg a.cells,.agg b.cells] (.agg r.cells)){l:List Al} {k:Nat} {s:Int} {x:Al} (hx:l[k]?=some x) {r:Af} (hr:D8 x s=some r) {c:List ((Int×Int)×Af)} (hc:CcV l c) {n:Int} {q a b q2:Af}(ea:Di n=some a) (eb:C8 a r=some b) (eq:BY q b=some q2) (e5 e6:Nat) :
  ATr EE Tryz.prog 52 [.ptr 6 e6 0,.int .i64 n,.int .i64 k,.int .i64 s] (HV l e5 e6 c q) (fun v h'=>v=.tup []/\∀i,i∈[5,6]->h' i=HV l e5 e6 (cput c k s r) q2 i):=by
 obtain⟨cd,hb,bW⟩:=ck52;have sI:=hI _ _ ea;have sM:=hM _ _ _ eb;have sA:=hA _ _ _ eq;have q5:HV l e5 e6 c q 5=.amap e5 (cE c):=rfl;have q6:HV l e5 e6 c q 6=.box e6 [slcV 7 Al.cells l,.mp 5 e5,.bool q.Neg,.str q.Num,.str q.Den]:=rfl;refine ATr.of (fn:=Tryz.f52) rfl hb cr52 (bW 7) 19 rfl ?_;refine .drawC ?_;rw[wzwa];refine Pu _ _ _ ?_;simp[VH,Ir,q6,List.replicate];refine Bg.pure _ sI ?_;simp;refine⟨.agg r.cells,[5,6],some (5,.amap e5 (cE (cput c k s r))),.inr ?_,qz98 _ _ _ ?_⟩
 ·refine⟨97,_,rfl,5,by simp,by simp[q5],.inr (.inr ⟨_,rfl,fun h' hh=>?_⟩)⟩;simp;exact wzjm hR hx hr hc e5 e6 q h' fun i hi=>hh i hi
 simp[VI,Ir,q6];refine Bg.pure _ sM ?_;refine Bg.pure _ sA ?_;simp[q6,-Al.cells];refine⟨by kernel_rfl,Post.norm (.here (by simp[rs52]) rfl ?_)⟩;simp[rs52,HV]
theorem wzex(hR:∀(x:Al) (s:Int) (r:Af),D8 x s=some r->AJ EE Tryz.prog 132 [.agg x.cells,.int .i64 s] (.agg r.cells))(hI:∀(n:Int) (r:Af),Di n=some r->AJ EE Tryz.prog 42 [.int .i64 n] (.agg r.cells))(hM:∀(a b r:Af),C8 a b=some r->AJ EE Tryz.prog 30 [.agg a.cells,.agg b.cells] (.agg r.cells))(hA:∀(a b r:Af),BY a b=some r->AJ EE Tryz.prog 31 [.agg a.cells,.agg b.cells] (.agg r.cells)){l:List Al} {k:Nat} {s:Int} {x:Al} (hx:l[k]?=some x) {r:Af} (hr:D8 x s=some r) {c:List ((Int×Int)×Af)} (hc:CcV l c) {n:Int} {q a b q2:Af}(ea:Di n=some a) (eb:C8 a r=some b) (eq:BY q b=some q2) (e5 e6:Nat) (h:Aq) (hh:∀i,i∈[5,6]->h i=HV l e5 e6 c q i) :
  ATr EE Tryz.prog 52 [.ptr 6 e6 0,.int .i64 n,.int .i64 k,.int .i64 s] h (fun v h'=>v=.tup []/\h'=fun i=>if i∈[5,6] then HV l e5 e6 (cput c k s r) q2 i else h i):=by
 refine ATr.frameW (F:=[5,6]) hEE (fun i hi=>?_) (fun z hz=>?_) (Mn l e5 e6 c q) (Mn l e5 e6 (cput c k s r) q2) (fun i hi=>?_) (fun i hi=>?_) (.tup _ fun z hz=>by cases hz) (wzu9 hR hI hM hA hx hr hc ea eb eq e5 e6) h hh
 ·simp at hi;simp[HV,hi]
 ·simp at hz;rcases hz with rfl|rfl|rfl|rfl
  ·exact .ptr _ _ _ (by simp)
  ·exact .int _ _
  ·exact .int _ _
  ·exact .int _ _
 ·simp at hi;rcases hi with rfl|rfl<;>rfl
 ·simp at hi;rcases hi with rfl|rfl<;>rfl
theorem wzsa(l:List Al)(h:Aq)(h5:h 5=.gone 0)(h6:h 6=.gone 0) :
  ATr EE Tryz.prog 51 [slcV 7 Al.cells l] h (fun v h'=>v=.ptr 6 1 0/\h'=fun i=>if i∈[5,6] then HV l 1 1 [] (Af.mk false [] []) i else h i):=by
 obtain⟨cd,hb,bW⟩:=ck51;refine ATr.of (fn:=Tryz.f51) rfl hb cr51 (bW 5) 6 rfl ?_;refine AW.sr (by simp[VJ,List.replicate];rfl) ?_;refine AW.sr (by simp[VK,h5,h6];rfl) ?_;refine .ret (.here (by simp[rs51]) rfl ?_);simp[rs51];funext i;by_cases i5:i=5
 ·subst i5;simp[HV,cE]
 by_cases i6:i=6
 ·subst i6;simp[HV]
 simp[i5,i6]
end
section
def k31:Fc:=⟨31,[(.us 2),(.us 2)],[false,false],[(.us 2)],fun x=>BY x.1 x.2⟩
def k42:Fc:=⟨42,[(.int .i64)],[false],[(.us 2)],fun x=>Di x⟩
def k30:Fc:=⟨30,[(.us 2),(.us 2)],[false,false],[(.us 2)],fun x=>C8 x.1 x.2⟩
def k37:Fc:=⟨37,[(.slc (.us 5))],[false],[(.int .i64)],fun x=>D9 x⟩
def k132:Fc:=⟨132,[(.us 5),(.int .i64)],[false,false],[(.us 2)],fun x=>D8 x.1 x.2⟩
def k21:Fc:=⟨21,[(.us 6),(.slc (.us 5))],[false,false],[(.us 2),(.int .i64)],fun x=>Is x.1 x.2⟩
theorem bd_e{α Y:Type}{a:Option α}{k:α->Option Y}{r:Y}(h:bd a k=some r):∃x,a=some x/\k x=some r:=by
 cases a with
 |none=>cases h
 |some x=>exact⟨x,rfl,h⟩
theorem it_e{α:Type}{e:Int}{a b:Option α}{r:α}(h:ite' (!decide (e=0)) a b=some r):(e≠0->a=some r)/\(e=0->b=some r):=by
 refine⟨fun k=>?_,fun k=>?_⟩
 ·rw[AE k]at h;exact h
 ·rw[AD k]at h;exact h
theorem ck_e{α:Type}{c:Bool}{a:Option α}{r:α}(h:ck c a=some r):c=true/\a=some r:=by
 cases c with
 |false=>cases h
 |true=>exact⟨rfl,h⟩
def mE(l:List (Int×Int)):List (Aa×Aa):=l.map fun p=>(.int .i64 p.1,.int .i64 p.2)
theorem Pv(a:Int):∀(l:List (Int×Int)) (i:Nat),(mget keqI l a=none/\Cb (.int .i64 a) (mE l) i=some none/\∀b,mE (mput keqI l a b)=mE l++[(.int .i64 a,.int .i64 b)]) \/ ∃j x,mget keqI l a=some x/\Cb (.int .i64 a) (mE l) i=some (some (i+j,.int .i64 x))/\∀b,mE (mput keqI l a b)=(mE l).set j (.int .i64 a,.int .i64 b)
 |[],i=>.inl ⟨rfl,rfl,fun _=>rfl⟩
 |p :: l,i=>by
  have e:Cb (.int .i64 a) (mE (p :: l)) i=(match some (decide (a=p.1)) with | some true=>some (some (i,.int .i64 p.2)) | some false=>Cb (.int .i64 a) (mE l) (i+1) | none=>none):=rfl;by_cases h:a=p.1
  ·have hq:keqI a p.1=true:=AD h;refine .inr ⟨0,p.2,?_,by rw[e,AD h];rfl,fun b=>?_⟩
   ·show(match keqI a p.1 with | true=>some p.2 | false=>mget keqI l a)=_;rw[hq]
   ·show mE (match keqI a p.1 with | true=>(a,b) :: l | false=>p :: mput keqI l a b)=_;rw[hq];rfl
  ·have hq:keqI a p.1=false:=AE h;have g:mget keqI (p :: l) a=mget keqI l a:=by show(match keqI a p.1 with | true=>some p.2 | false=>mget keqI l a)=_;rw[hq]
   have q:∀b,mput keqI (p :: l) a b=p :: mput keqI l a b:=fun b=>by show(match keqI a p.1 with | true=>(a,b) :: l | false=>p :: mput keqI l a b)=_;rw[hq]
   rw[e,AE h,g];rcases Pv a l (i+1) with ⟨h1,h2,h3⟩|⟨j,x,h1,h2,h3⟩
   ·exact .inl ⟨h1,h2,fun b=>by rw[q];show _ :: mE _=_;rw[h3];rfl⟩
   ·exact .inr ⟨j+1,x,h1,by show Cb (.int .i64 a) (mE l) (i+1)=_;rw[h2];simp only[AY,BC,and_true];omega,fun b=>by rw[q];show _ :: mE _=_;rw[h3];rfl⟩
theorem wzrp(l:List (Int×Int)){h:Aq}{M e:Nat}{a:Int}(hM:h M=.amap e (mE l)):EG 1 false (.int .i64 0) (.mp M e) (.int .i64 a) h=⟨True,[M],.int .i64 (Option.getD (mget keqI l a) 0),none⟩:=by
 have e1:BM (.mp M e) h=⟨e=e,[M],mE l⟩:=by unfold BM;simp only[hM]
 unfold EG;rw[e1];simp only;rcases Pv a l 0 with ⟨h1,h2,_⟩|⟨j,x,h1,h2,_⟩
 ·rw[h2,h1];simp[Aa.kkind,Aa.kind]
 ·rw[h2,h1];simp[Aa.kkind,Aa.kind]
theorem wzrl(l:List (Int×Int)){h:Aq}{M e:Nat}{a b:Int}(hM:h M=.amap e (mE l)):Cs 1 (.mp M e) (.int .i64 a) (.int .i64 b) h=⟨True,[M],.top,some (M,.amap e (mE (mput keqI l a b)))⟩:=by
 unfold Cs;simp only[hM];rcases Pv a l 0 with ⟨h1,h2,h3⟩|⟨j,x,h1,h2,h3⟩
 ·rw[h2,h3];simp[Aa.kkind,Aa.kind]
 ·rw[h2,h3];simp[Aa.kkind,Aa.kind]
theorem VL{α:Type}{x:α}{b:List α}:∀a:List α,a++x :: b∈insA x (a++b)
 |[]=>by cases b<;>exact AV ..
 |y :: a=>AT _ (CQ.2 ⟨_,VL a,rfl⟩)
theorem VM{α:Type}:∀{l m:List α},m.Perm l->m∈Mo l
 |[],m,h=>by rw[List.perm_nil.1 h];exact AV ..
 |x :: l,m,h=>by obtain⟨a,b,rfl⟩:=List.append_of_mem (h.mem_iff.2 (AV ..));exact List.mem_flatMap.2 ⟨_,VM (List.perm_cons x |>.1 (List.perm_middle.symm.trans h)),VL a⟩
theorem wzrx:∀{a b:Option Af},eqR a b=true->a=b
 |some ⟨a,b,c⟩,some ⟨d,e,f⟩,h=>by simp[eqR]at h;rw[h.1,h.2.1,h.2.2]
 |none,_,h=>by cases h
 |some _,none,h=>by cases h
theorem VN{s:Al}{m:List (Int×Int)}{q r:Af}(h:It s m q=some r){m':List (Int×Int)}(hp:m'.Perm m):BQ s m' q=some r:=by
 unfold It at h;cases e:(Mo m).all (fun m'=>eqR (BQ s m' q) (BQ s m q)) with
 |false=>rw[e]at h;cases h
 |true =>rw[e]at h;rw[wzrx (Dx.1 e m' (VM hp))];exact h
theorem Pw{s:Al}:∀(a b:List (Int×Int)) (q:Af),BQ s (a++b) q=bd (BQ s a q) fun q=>BQ s b q
 |[],b,q=>rfl
 |p :: a,b,q=>by
  show(bd (Di p.2) fun x=>bd (D8 s p.1) fun y=>bd (C8 x y) fun z=>bd (BY q z) fun q=>BQ s (a++b) q)=bd (bd (Di p.2) fun x=>bd (D8 s p.1) fun y=>bd (C8 x y) fun z=>bd (BY q z) fun q=>BQ s a q) _;cases Di p.2 with
  |none=>rfl
  |some x =>
  cases D8 s p.1 with
  |none=>rfl
  |some y =>
  show bd (C8 x y) _=bd (bd (C8 x y) _) _;cases C8 x y with
  |none=>rfl
  |some z =>
  show bd (BY q z) _=bd (bd (BY q z) _) _;cases BY q z with
  |none=>rfl
  |some w=>exact Pw a b w
def CJ(m:List (Int×Int))(z:List Nat):List (Int×Int):=z.map fun k=>m.getD k (0,0)
theorem VP{m:List (Int×Int)}{z:List Nat}(h:z.Perm (List.range m.length)):(CJ m z).Perm m:=by
 have e:(List.range m.length).map (fun k=>m.getD k (0,0))=m:=by apply List.ext_getElem (by simp);intro i h1 h2;simp at h1;simp[h1]
 have:=h.map (fun k=>m.getD k ((0,0):Int×Int))
 rwa [e]at this
theorem wzal{m:List (Int×Int)}{z:List Nat}(hn:z.Nodup)(hl:∀k,k∈z->k<m.length):∃y,(CJ m (z++y)).Perm m:=by
 refine⟨(List.range m.length).filter (fun k=>decide (k∉z)),VP ?_⟩;rw[List.perm_ext_iff_of_nodup ?_ List.nodup_range]
 ·intro a;rw[DO,List.mem_filter,Jz,CS];exact⟨fun h=>h.elim (hl a) (·.1),fun h=>(Decidable.em (a∈z)).imp id fun e=>⟨h,e⟩⟩
 ·rw[List.nodup_append];refine⟨hn,List.nodup_range.filter _,fun x hx y hy e=>?_⟩;subst e;exact BX (List.mem_filter.1 hy).2 hx
theorem wzfw{s:Al}{m:List (Int×Int)}{q0 q1 q:Af}(hA:It s m q0=some q1){z:List Nat}{k:Nat}{p:Int×Int}(hn:(z++[k]).Nodup)(hl:∀j,j∈z++[k]->j<m.length)(hk:m[k]?=some p)(hq:BQ s (CJ m z) q0=some q) : ∃a b c q',Di p.2=some a/\D8 s p.1=some b/\C8 a b=some c/\BY q c=some q'/\BQ s (CJ m (z++[k])) q0=some q':=by
 obtain⟨y,hy⟩:=wzal hn hl;have h:=VN hA hy
 have e1:CJ m (z++[k]++y)=CJ m z++(p :: CJ m y):=by
  have:m.getD k (0,0)=p:=by simp[List.getD,hk]
  unfold CJ;rw[List.map_append,List.map_append,List.append_assoc];show _++(m.getD k (0,0) :: List.map (fun k=>m.getD k (0,0)) y)=_;rw[this]
 have e2:CJ m (z++[k])=CJ m z++[p]:=by
  have:m.getD k (0,0)=p:=by simp[List.getD,hk]
  unfold CJ;rw[List.map_append];show _++[m.getD k (0,0)]=_;rw[this]
 rw[e1,Pw,hq]at h;have h:(bd (Di p.2) fun x=>bd (D8 s p.1) fun y'=>bd (C8 x y') fun z=>bd (BY q z) fun q=>BQ s (CJ m y) q)=some q1:=h;obtain⟨a,ha,h⟩:=bd_e h;obtain⟨b,hb,h⟩:=bd_e h;obtain⟨c,hc,h⟩:=bd_e h;obtain⟨q',mu,h⟩:=bd_e h;refine⟨a,b,c,q',ha,hb,hc,mu,?_⟩;rw[e2,Pw,hq];show(bd (Di p.2) fun x=>bd (D8 s p.1) fun y'=>bd (C8 x y') fun z=>bd (BY q z) fun q=>some q)=some q';rw[ha];show(bd (D8 s p.1) fun y'=>bd (C8 a y') fun z=>bd (BY q z) fun q=>some q)=some q';rw[hb];show(bd (C8 a b) fun z=>bd (BY q z) fun q=>some q)=some q';rw[hc];show(bd (BY q c) fun q=>some q)=some q';rw[mu];rfl
theorem wzhh{h:Ba}{l:List Al}{r:Af×Int}(hF:Is h l=some r):∃e,D9 l=some e/\(e≠0->r=(⟨false,[],[]⟩,e))/\(e=0->∃p,GV h=some p/\(p.2≠0->r=(⟨false,[],[]⟩,1))/\(p.2=0->vaL h l ⟨false,[],[]⟩=some r)):=by unfold Is at hF;obtain⟨e1,h1,hF⟩:=bd_e hF;refine⟨e1,h1,fun k=>(AI ((it_e hF).1 k)).symm,fun k=>?_⟩;obtain⟨p,h2,hF⟩:=bd_e ((it_e hF).2 k);exact⟨p,h2,fun k=>(AI ((it_e hF).1 k)).symm,fun k=>(it_e hF).2 k⟩
theorem wzja{h:Ba}{s:Al}{l:List Al}{q:Af}{r:Af×Int}(hF:vaL h (s :: l) q=some r):inr .i64 (h.From+(h.Stages.length:Int)) /\
  ((decide (s.From<h.From)||decide (h.From+(h.Stages.length:Int)<s.To))=true->r=(⟨false,[],[]⟩,19))/\((decide (s.From<h.From)||decide (h.From+(h.Stages.length:Int)<s.To))=false ->
   inr .i64 (s.From-h.From)/\inr .i64 (s.To-h.From)/\(0<=s.From-h.From/\s.From-h.From<=s.To-h.From/\s.To-h.From<=h.Stages.length) /\
   ∃m q',JZ (sub h.Stages (s.From-h.From) (s.To-h.From)) []=some m/\It s m q=some q'/\vaL h l q'=some r):=by
 have hF:(ck (Au .i64 (h.From+(List.length h.Stages:Int)))<|ite' (bif decide (s.From<h.From) then true else decide (h.From+(List.length h.Stages:Int)<s.To)) (some (Af.mk false [] [],19)) <|
  ck (Au .i64 (s.From-h.From)&&Au .i64 (s.To-h.From)&&Cv h.Stages (s.From-h.From) (s.To-h.From)) <|
  bd (JZ (sub h.Stages (s.From-h.From) (s.To-h.From)) []) fun m=>bd (It s m q) fun r=>vaL h l r)=some r:=hF
 obtain⟨h1,hF⟩:=ck_e hF;have eb:(bif decide (s.From<h.From) then true else decide (h.From+(List.length h.Stages:Int)<s.To))=(decide (s.From<h.From)||decide (h.From+(List.length h.Stages:Int)<s.To)):=by cases decide (s.From<h.From)<;>rfl
 rw[eb]at hF;refine⟨by simp[Au]at h1;exact h1,fun k=>?_,fun k=>?_⟩
 ·rw[k]at hF;exact(AI hF).symm
 ·rw[k]at hF;obtain⟨h2,hF⟩:=ck_e (show ck _ _=some r from hF);obtain⟨m,h3,hF⟩:=bd_e hF;obtain⟨q',h4,hF⟩:=bd_e hF;simp only[AH]at h2;obtain⟨⟨h5,h6⟩,h7⟩:=h2;refine⟨by simp[Au]at h5;exact h5,by simp[Au]at h6;exact h6,by simpa [Cv,and_assoc] using h7,m,q',h3,h4,hF⟩
end
section
section
attribute [local simp] Cf GN BP Cg Ch Ci yza subm subh Cj pick B6
theorem wzb3{a:Al}{z:Aa}(hz:z∈a.cells):AB z:=by
 simp[Al.cells]at hz;rcases hz with rfl|rfl|rfl|rfl|rfl|rfl|rfl<;>first|exact .int _ _|exact .bool _|exact .str _|skip
 exact CI fun a z hz=>by simp[Bq.cells]at hz;rcases hz with rfl|rfl|rfl|rfl<;>first|exact .int _ _|exact .bool _|exact .str _
theorem VQ(m:List (Nat×Ad))(l:List Al)(e5 e6:Nat)(c:List ((Int×Int)×Af))(q:Af):(fun i=>if i∈[5,6] then HV l e5 e6 c q i else hl m i)=hl ((5,.amap e5 (cE c)) :: (6,.box e6 [slcV 7 Al.cells l,.mp 5 e5,.bool q.Neg,.str q.Num,.str q.Den]) :: m):=by
 funext i;by_cases i5:i=5
 ·subst i5;simp[HV]
 by_cases i6:i=6
 ·subst i6;simp[HV]
 have j5:¬5=i:=fun e=>i5 e.symm;have j6:¬6=i:=fun e=>i6 e.symm;simp[i5,i6,j5,j6]
def b39(H L:Aa)(n k:Nat):List (Nat×Aa):=[(1,L),(2,.ptr 0 1 0),(4,.ptr 1 1 0),(5,.int .i64 0),(9,.ptr 6 1 0),(33,L),(34,.int .i64 n),(35,.int .i64 k)]
def h39(hc:List Aa)(o2 o3 o4:Ad)(c:List ((Int×Int)×Af))(l:List Al)(q:Af):List (Nat×Ad):=[(0,.box 1 hc),(1,.box 1 [.bool false,.str [],.str []]),(2,o2),(3,o3),(4,o4),(5,.amap 1 (cE c)),(6,.box 1 [slcV 7 Al.cells l,.mp 5 1,.bool q.Neg,.str q.Num,.str q.Den])]
attribute [local simp] b39 h39
theorem wziq{l:List Al}{e:Int}(h:D9 l=some e):l.length<=1000000\/e=2:=by
 unfold D9 at h;cases hd:decide (400<(l.length:Int)) with
 |true=>rw[hd]at h;exact .inr (AI h).symm
 |false=>have:=of_decide_eq_false hd;exact .inl (by omega)
structure YV where
 k:Nat
 e2:Nat
 e3:Nat
 e4:Nat
 c:List ((Int×Int)×Af)
 q:Af
structure YN where
 j:Nat
 m:List (Int×Int)
structure YS where
 z:List Nat
 c:List ((Int×Int)×Af)
 q:Af
set_option maxHeartbeats 8000000 in
theorem wzuj(hC:∀(l:List Al) (e:Int),D9 l=some e->AJ EE Tryz.prog 37 [slcV 7 Al.cells l] (.int .i64 e))(hO:∀(h:Ba) (p:List Ao×Int),GV h=some p->AJ EE Tryz.prog 34 [.agg h.cells] (.tup [slcV 5 Ao.cells p.1,.int .i64 p.2]))(hR:∀(x:Al) (s:Int) (r:Af),D8 x s=some r->AJ EE Tryz.prog 132 [.agg x.cells,.int .i64 s] (.agg r.cells))(hI:∀(n:Int) (r:Af),Di n=some r->AJ EE Tryz.prog 42 [.int .i64 n] (.agg r.cells))(hM:∀(a b r:Af),C8 a b=some r->AJ EE Tryz.prog 30 [.agg a.cells,.agg b.cells] (.agg r.cells))(hA:∀(a b r:Af),BY a b=some r->AJ EE Tryz.prog 31 [.agg a.cells,.agg b.cells] (.agg r.cells))(h:Ba) (l:List Al) (r:Af×Int) (hF:Is h l=some r):Pure EE Tryz.prog 21 [.agg h.cells,slcV 7 Al.cells l] (.tup [.agg r.1.cells,.int .i64 r.2]):=by
 obtain⟨e1,f1,g1,hF⟩:=wzhh hF;have sC:=hC l e1 f1;obtain⟨hf,hs⟩:=h;have eI:Ba.cells ⟨hf,hs⟩=[.int .i64 hf,(Aa.slc 1 hs.length (Ai (cI .i64) hs))]:=rfl;rw[HL]at sC;rw[HL,eI];obtain⟨c,hb,hc⟩:=ck21;refine Pure.ofs (fn:=Tryz.f21) (n:=98) rfl hb cr21 (hc 0) (by simp;rfl) rfl (by simp) ?_;refine(AW.srk [1,2,4,5] [0,1] (by simp[VS];exact⟨rfl,rfl⟩) (by simp;rfl) (by simp;rfl) rfl ?_);refine .seq (AW.sr (by simp[VT];refine sC.call ?_;(try simp);rfl) ?_);refine AW.sr (by simp[VU];rfl) ?_;refine AW.if' (!decide (e1=0)) (by simp) (fun e=>?_) (fun e=>AW.skip ?_)
 ·rw[g1 (by simpa using e)];refine AW.sr (by simp[VV];rfl) ?_;exact .retp (rs:=rs21) rfl (by simp[rs21]) (by simp[rs21])
 obtain rfl:e1=0:=by simpa using e
 have aE:l.length<=1000000:=(wziq f1).resolve_right (by omega);obtain⟨p,f2,g2,hF⟩:=hF rfl;have sO:=hO _ p f2;rw[eI,HL]at sO;simp only[Ay];refine .seq (AW.sr (by simp[VW];refine sO.call ?_;(try simp);rfl) ?_);refine AW.sr (by simp[VX];rfl) ?_;refine AW.if' (!decide (p.2=0)) (by simp) (fun e=>?_) (fun e=>AW.skip ?_)
 ·rw[g2 (by simpa using e)];refine AW.sr (by simp[VY];rfl) ?_;exact .retp (rs:=rs21) rfl (by simp[rs21]) (by simp[rs21])
 have hF:=hF (by simpa using e);simp only[Ay];refine .seq (.reg ?_);simp[VZ];refine(wzsa l _ (by simp) (by simp)).mono ?_;rintro v h' ⟨rfl,rfl⟩;rw[VQ];simp;refine .seq (.seq (AW.r1 (by simp[Wa];rfl) ?_));refine .block (AW.lp (fun y:YV=>b39 (.agg [.int .i64 hf,(Aa.slc 1 hs.length (Ai (cI .i64) hs))]) (.slc 7 l.length (Ai Al.cells l)) l.length y.k) (fun y=>h39 [.int .i64 hf,(Aa.slc 1 hs.length (Ai (cI .i64) hs))] (.gone y.e2) (.gone y.e3) (.gone y.e4) y.c l y.q) (fun y=>l.length-y.k) (fun y=>y.k<=l.length/\CcV l y.c/\vaL ⟨hf,hs⟩ (l.drop y.k) y.q=some r) ⟨0,0,0,0,[],⟨false,[],[]⟩⟩ ⟨BB _,(fun k s r h=>by cases h),hF⟩ (by simp) (by simp) (by simp) ?_);rintro⟨k,e2,e3,e4,cc,q⟩ ⟨hk,cY,hV⟩;simp only at hk cY hV |-;refine AW.sr (by simp[Wb];rfl) ?_;refine .seq (AW.if' (decide ((k:Int)<(l.length:Int))) (by simp) (fun e=>AW.skip ?_) (fun e=>.exit ?_));rotate_left
 ·obtain rfl:k=l.length:=by have:=of_decide_eq_false e;omega
  rw[List.drop_length]at hV;obtain rfl:=AI (show some (q,(0:Int))=some r from hV);simp only[Ay,ablk,AX];refine AW.sr (by simp[Wd];rfl) ?_;exact .retp (rs:=rs21) rfl (by simp[rs21]) (by simp[rs21])
 have hlt:k<l.length:=by have:=BX e;omega
 have bN:l[k]?=some l[k]:=AA hlt;have aK:Ai Al.cells l k=l[k].cells:=Bb bN;rw[Ft hlt]at hV;generalize l[k]=s at *;obtain⟨v1,v2,v3⟩:=wzja hV;have lv:inr .i64 ((k:Int)+1):=by show _/\_;omega
 simp only at v1 v2 v3;simp only[Ay];refine .seq (.block (AW.sr (by simp[We,hlt,aK];rfl) ?_));refine .seq (AW.sr (by simp[Wf];exact⟨fun _=>v1,rfl⟩) ?_);refine AW.if' (decide (s.From<hf)||decide (hf+(hs.length:Int)<s.To)) (by simp) (fun e=>?_) (fun e=>AW.skip ?_)
 ·rw[v2 e];refine AW.sr (by simp[Wg];rfl) ?_;exact .retp (rs:=rs21) rfl (by simp[rs21]) (by simp[rs21])
 obtain⟨w1,w2,⟨w3,w4,w5⟩,m,q1,lw,jo,hV⟩:=v3 e;simp only[Ay];refine AW.sr (by simp[Wh];rfl) ?_;obtain⟨n0,dH⟩:∃n0:Nat,(s.To-hf-(s.From-hf)).toNat=n0:=⟨_,rfl⟩;have po:n0<=9223372036854775807:=by have:s.To-hf<=9223372036854775807:=w2.2;omega
 have nT:max (s.To-hf-(s.From-hf)) 0=(n0:Int):=by omega
 have ce:(sub hs (s.From-hf) (s.To-hf)).length=n0:=by simp[sub];omega
 have bz:∀j x,(sub hs (s.From-hf) (s.To-hf))[j]?=some x->Ai (cI .i64) hs ((s.From-hf).toNat+j)=[.int .i64 x]:=fun j x hj=>by
  unfold sub at hj;rw[dH,HP]at hj;split at hj
  ·rw[G3]at hj;rw[Bb hj];rfl
  ·cases hj
 generalize sub hs (s.From-hf) (s.To-hf)=part at *;refine .seq (.seq (.reg ?_));simp[Wi];refine⟨w1,w2,⟨by omega,by omega,w5⟩,?_⟩;rw[nT,dH];generalize nU:(fun k=>Ai (cI .i64) hs ((s.From-hf).toNat+k))=CP at *;have bz:∀j x,part[j]?=some x->CP j=[.int .i64 x]:=fun j x hj=>by rw[<-nU];exact bz j x hj
 refine .block (AW.lp (fun y:YN=>b39 (.agg [.int .i64 hf,(Aa.slc 1 hs.length (Ai (cI .i64) hs))]) (.slc 7 l.length (Ai Al.cells l)) l.length k++[(10,.int .i64 k),(12,.mp 3 (e3+1)),(70,.slc 1 n0 CP),(71,.int .i64 n0),(72,.int .i64 y.j)]) (fun y=>h39 [.int .i64 hf,(Aa.slc 1 hs.length (Ai (cI .i64) hs))] (.gone (e2+1)) (.amap (e3+1) (mE y.m)) (.gone e4) cc l q) (fun y=>n0-y.j) (fun y=>y.j<=n0/\JZ (part.drop y.j) y.m=some m) ⟨0,[]⟩ ⟨BB _,lw⟩ (by simp) (by simp[mE]) (by simp) ?_);rintro⟨j,mm⟩ ⟨hj,hN⟩;simp only at hj hN |-;refine AW.sr (by simp[Wj];rfl) ?_;refine .seq (AW.if' (decide ((j:Int)<(n0:Int))) (by simp) (fun e=>AW.skip ?_) (fun e=>.exit ?_))
 ·have hlt:j<n0:=by have:=BX e;omega
  have nW:part[j]?=some part[j]:=AA (by omega);have nX:=bz j _ nW;rw[Ft (show j<part.length by omega)]at hN;generalize part[j]=z at *;obtain⟨bW,hN⟩:=ck_e (show ck _ _=some m from hN);have k1:inr .i64 (Option.getD (mget keqI mm z) 0+1):=by simp[Au]at bW;exact bW
  have aS:inr .i64 ((j:Int)+1):=by show _/\_;omega
  simp only[Ay];refine .seq (.block (AW.sr (by simp[Wl,hlt,nX];rfl) ?_));refine AW.r1 (by simp[Wm,wzrp mm,wzrl mm];exact⟨k1,rfl⟩) ?_;simp only[Ay,ablk];refine AW.r1 (by simp[Wn];exact⟨aS,rfl⟩) ?_;exact⟨⟨j+1,mput keqI mm z (Option.getD (mget keqI mm z) 0+1)⟩,⟨by simp only;omega,hN⟩,by simp only;omega,.sp (by simp) (by simp) (by simp)⟩
 obtain rfl:j=n0:=by have:=of_decide_eq_false e;omega
 rw[<-ce,List.drop_length]at hN;obtain rfl:=AI (show some mm=some m from hN);have kh:(mE mm).length=mm.length:=G4 ..;simp only[Ay,ablk,AX];refine AW.sr (by simp[Wo,J7];rfl) ?_;refine .block (AW.lp (fun y:YS=>b39 (.agg [.int .i64 hf,(Aa.slc 1 hs.length (Ai (cI .i64) hs))]) (.slc 7 l.length (Ai Al.cells l)) l.length k++[(10,.int .i64 k),(82,.ptr 4 (e4+1) 0)]) (fun y=>h39 [.int .i64 hf,(Aa.slc 1 hs.length (Ai (cI .i64) hs))] (.gone (e2+1)) (.amap (e3+1) (mE mm)) (.miter (e4+1) (some (3,e3+1,(mE mm).length)) y.z) y.c l y.q) (fun y=>mm.length-y.z.length) (fun y=>y.z.Nodup/\(∀k,k∈y.z->k<mm.length)/\CcV l y.c/\BQ s (CJ mm y.z) q=some y.q) ⟨[],cc,q⟩ ⟨.nil,(fun k h=>by cases h),cY,rfl⟩ (by simp) (by simp) (by simp) ?_);rintro⟨seen,c3,q3⟩ ⟨d7,eN,gJ,hz⟩;simp only at d7 eN gJ hz |-;refine .seq (.reg ?_);simp[Wp,GG];refine⟨fun i gy ef=>?_,fun dc=>?_⟩
 ·have gy:i<mm.length:=by simpa [kh] using gy
  have jp:mm[i]?=some mm[i]:=AA gy;have nY:(mE mm)[i]?=some (.int .i64 mm[i].1,.int .i64 mm[i].2):=by unfold mE;rw[Gk,jp];rfl
  have ly:∀h:i<(mE mm).length,(mE mm)[i]=(.int .i64 mm[i].1,.int .i64 mm[i].2):=fun h=>(AC.1 nY).2;generalize mm[i]=p at *;have d5:(seen++[i]).Nodup:=by rw[List.nodup_append];exact⟨d7,by simp,fun x hx y hy=>by simp at hy;subst hy;intro e;subst e;exact ef hx⟩
  have hlt':∀j,j∈seen++[i]->j<mm.length:=by
   intro j hj;rcases DO.1 hj with h|h
   ·exact eN j h
   ·simp at h;omega
  have aC:=Vb _ _ d5 hlt';obtain⟨a,b,d,q4,y1,y2,y3,y4,y5⟩:=wzfw jo d5 hlt' jp hz;refine .seq (AW.if' true rfl (fun _=>AW.skip ?_) (fun e=>by cases e));simp only[Ay];refine .block (AW.sr (by simp[Wq,HU,kh,gy,ly];rfl) ?_);refine .reg ?_;simp[Wr];refine(wzex hR hI hM hA bN y2 gJ y1 y3 y4 1 1 _ (wzvv (by simp) (by simp))).mono ?_;rintro v h' ⟨rfl,rfl⟩;rw[VQ];exact⟨⟨seen++[i],cput c3 k p.1 b,q4⟩,⟨d5,hlt',wzqw gJ bN y2,y5⟩,by simp at aC |-;omega,.sp (by simp) (by simp[kh]) (by simp)⟩
 ·refine .seq (AW.if' false rfl (fun e=>by cases e) (fun _=>.exit ?_));have hq:=VN jo (VP (wzq3 d7 fun x=>⟨eN x,fun h=>dc x (by rw[kh];exact h)⟩));rw[hz]at hq;obtain rfl:=AI hq;simp only[Ay,ablk,AX];refine AW.r1 (by simp[Wt];exact⟨lv,rfl⟩) ?_;exact⟨⟨k+1,e2+1,e3+1,e4+1,c3,q3⟩,⟨by simp only;omega,gJ,hV⟩,by simp only;omega,.sp (by simp) (by simp) (by simp)⟩
theorem wzs1(H64:Ap k37)(H70:Ap k34)(H129:Ap k132)(H38:Ap k42)(H40:Ap k30)(H37:Ap k31):Ap k21:=by
 refine⟨by kernel_rfl,fun x y e=>?_⟩;have H:Pure EE Tryz.prog 21 [.agg x.1.cells,slcV 7 Al.cells x.2] (.tup [.agg y.1.cells,.int .i64 y.2]):=wzuj (fun l e h=>H64.still (x:=l) (y:=e) h (by kernel_rfl)) (fun w p h=>H70.still (x:=w) (y:=p) h (by kernel_rfl)) (fun a s r h=>H129.still (x:=(a,s)) (y:=r) h (by kernel_rfl)) (fun n r h=>H38.still (x:=n) (y:=r) h (by kernel_rfl)) (fun a b r h=>H40.still (x:=(a,b)) (y:=r) h (by kernel_rfl)) (fun a b r h=>H37.still (x:=(a,b)) (y:=r) h (by kernel_rfl)) x.1 x.2 y e
 exact(Pure.still H hEE (fun z hz=>by
  rcases Bf.1 hz with rfl|hz
  ·exact .agg _ fun z hz=>VA hz
  ·rw[CR.1 hz];exact CI fun a z hz=>wzb3 hz) (.tup _ fun z hz=>by
  rcases Bf.1 hz with rfl|hz
  ·exact .agg _ fun z hz=>by simp[Af.cells]at hz;rcases hz with rfl|rfl|rfl<;>simp
  ·rw[CR.1 hz];exact .int _ _)).cast (by kernel_rfl)
end
end
end Go.Am

