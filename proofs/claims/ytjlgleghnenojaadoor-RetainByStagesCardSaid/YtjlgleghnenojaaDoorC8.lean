/- Part C8: contracts of some functions of this seat. No condition. -/
import Derived.Test.YtjlgleghnenojaaDoorC3
import Derived.Test.YtjlgleghnenojaaDoorC7
set_option linter.unusedSimpArgs false
set_option linter.unusedVariables false
set_option maxRecDepth 100000
namespace Go.Am
open Go.Proofs
attribute [local simp] areg aop dreg dop AOp.req argv argU AOp.args wze AOp.unAll Req.val Req.when putT putH qzdb ablk qzfc qzbd qzg6 vzl qzcj qzif qzid qzh7 qzh1 qzhy qzko qzhz qzji qzim qzgg qznh qzj2 qzkg qzjx IntKind.bits vz1 ARes.ok ARes.val vz5 cut AOp.quiet
attribute [local simp] qzc0 qzbz qzcz qze2 qzer qzep kzp qz1 qzh2 qzij
attribute [local simp] qzm6 qzj7 qzhq qzih qzm4 look qz8 zipA wm wh
attribute [local simp] qzm7 qzpn qzpz qzmg qzpx qzmf qzpo qzqa qzpi qzqk qzpm w_fn qznc qzjs qzjh qzhs qzj1 qzmh qzmi AObj.ep AObj.plain AObj.owned
attribute [local simp] wz9 qzbw qzeu qzdp qzey qzd2 qze5 qzfk qze7 qzdi qzdk qzd0 qzgy qzcq qzg5 qzc6 qzfa vz6 lay jzv ldv wzu qz5 kz1 qz9 qzgh wzd AVal.kind
attribute [local simp] AVal.one_int AVal.one_bool AVal.one_str AVal.one_nils AVal.one_slc AVal.one_vec AVal.one_ptr AVal.one_eptr AVal.one_cptr AVal.one_nilp AVal.one_fn AVal.one_nilfn AVal.one_mp AVal.one_nilmp
attribute [local simp] qzkh qzkv qzh8 qzh4 qzkt qzjr qzii qzik qzjn qzkm qzjf qzjw qzkl qzje qzh6 qzhx qzin qzig qzh5 qzio qzm9 qzna qzgf qzgr qzmt qzmr qzgn qzgz qzj6 qzj9 qzjv qzka qzju qzki qzkr qzku
attribute [local simp] qzh cI cB cS cL qzc3 qzdh qzdz qzb7 qzg1 qzh0 qzgc qziq fzm fzh fzv fzl fz1 qzjm qzhw qzjp qzjl qzjk List.range_succ qzd5 qze0 qzfg qzco qzdq qzdu qzag qzdw qzd4
attribute [local simp] qzj0
attribute [local simp] wz2c.cells
attribute [local simp] kzhx.cells
attribute [local simp] kzhv.cells
attribute [local simp] kzh0.cells
attribute [local simp] jz50.cells
attribute [local simp] wz2h.cells
attribute [local simp] kzht.cells
attribute [local simp] wz2w.cells
attribute [local simp] wz3g.cells
attribute [local simp] kzhz.cells
attribute [local simp] kzhu.cells
attribute [local simp] hset
def k22:Fc:=⟨22,[(.us 0)],[false],[.bool],fun x=>kziy x⟩
def k23:Fc:=⟨23,[(.int .i64),(.int .i64),(.int .i64)],[false,false,false],[(.us 8)],fun x=>kzia x.1 x.2.1 x.2.2⟩
def k24:Fc:=⟨24,[(.us 8),(.us 8)],[false,false],[(.us 8),.bool],fun x=>kzh9 x.1 x.2⟩
def k7:Fc:=⟨7,[(.us 0)],[false],[(.slc (.us 8)),(.int .i64)],fun x=>kzj8 x⟩
theorem kzli{a:wz2w}{z:AVal}(hz:z∈a.cells):qzt z:=by simp[wz2w.cells]at hz;rcases hz with rfl|rfl<;>exact .int _ _
theorem kzlk{a:wz3g}{z:AVal}(hz:z∈a.cells):qzt z:=by simp[wz3g.cells]at hz;rcases hz with rfl|rfl|rfl|rfl|rfl<;>first|exact .int _ _|exact qzj fun a z hz=>kzli hz
def HO(hc:List AVal)(o:AObj)(e1 e3 e4:Nat):qzl:=fun i =>
 if i=0 then .box 1 hc else if i=1 then .gone e1 else if i=2 then o else if i=3 then .gone e3 else if i=4 then .gone e4 else .gone 0
theorem jz9m{α:Type}(id ep:Nat)(l:List α)(x:α):ownV id ep (l++[x])=.vec id ep 0 (l.length+1):=by cases l<;>simp[ownV]
theorem jz90{α:Type}(ep st:Nat)(c:α->List AVal)(l:List α)(x:α):ownO ep st c (l++[x])=.vec ep st (l.length+1) (qzd c (l++[x])):=by cases l<;>simp[ownO]
def TO7(hc:List AVal)(S O:AVal)(n k:Nat):List AVal:=[.agg hc,.ptr 0 1 0,.nils,.int .i64 0,O,.top,.top,.top,.top,.top,.top,.top,.top,.top,S,.int .i64 n,.int .i64 k]++List.replicate 49 .top
structure Y7 where
 k:Nat
 ep:Nat
 out:List wz3g
 e1:Nat
 e3:Nat
 e4:Nat
theorem kzr9{a x:wz3g}{m:List wz3g}(j:Nat)(hj:j<m.length+1+1):qzd wz3g.cells (a :: m++[x]) j=if j<m.length+1 then qzd wz3g.cells (a :: m) j else [wz3g.cells x][j-(m.length+1)]?.getD []:=by
 by_cases hj':j<m.length+1
 ·rw[Gd4 hj'];unfold qzd;rw[Gba (by simpa using hj')]
 ·obtain rfl:j=m.length+1:=by omega
  rw[Gd3 hj',qzo (x:=x) (by simp)];simp
theorem kzpb{h:wz2c}(e:kziy h=some true):h.Stages.length<=40000:=by
 unfold kziy at e;cases hd:decide ((h.Stages.length:Int)<=40000)
 ·rw[hd]at e;cases e
 ·have:=Gd7 hd;omega
set_option maxHeartbeats 4000000 in
theorem of7(hR:∀(h:wz2c) (r:Bool),kziy h=some r->qzq EE Tryd.prog 22 [.agg h.cells] (.bool r))(hH:∀(a b s:Int) (r:wz3g),kzia a b s=some r->qzq EE Tryd.prog 23 [.int .i64 a,.int .i64 b,.int .i64 s] (.agg r.cells))(hB:∀(a b:wz3g) (r:wz3g×Bool),kzh9 a b=some r->qzq EE Tryd.prog 24 [.agg a.cells,.agg b.cells] (.tup [.agg r.1.cells,.bool r.2]))(h:wz2c) (r:List wz3g×Int) (hF:kzj8 h=some r):ATr EE Tryd.prog 7 [.agg h.cells] h0 (fun v _=>W v (.tup [slcV 5 wz3g.cells r.1,.int .i64 r.2])):=by
 unfold kzj8 at hF;cases h1:kziy h with
 |none=>rw[h1]at hF;cases hF
 |some rb =>
 have sR:=hR h rb h1;rw[h1]at hF;have hF:ite' (!rb) (some ([],1)) (bd (ofL h.From 0 h.Stages []) fun out=>ite' (decide (2000<(List.length out:Int))) (some ([],2)) (some (out,0)))=some r:=hF;obtain⟨c,hb,hc⟩:=ck7;refine ATr.of (fn:=Tryd.f7) rfl hb cr7 (hc 0) 65 rfl ?_;obtain⟨hf,hs⟩:=h;have hce:wz2c.cells ⟨hf,hs⟩=[.int .i64 hf,(AVal.slc 1 hs.length (qzd (cI .i64) hs))]:=rfl;simp only[hce]at sR ⊢;refine AW.sr (by simp[r7_0,List.replicate,h0];rfl) ?_;refine .seq (AW.sr (by simp[r7_1];refine sR.call ?_;(try simp);rfl) ?_);refine AW.if' (!rb) (by simp) (fun e'=>?_) (fun e'=>AW.skip ?_)
 ·rw[show(!rb)=true from e']at hF;cases hF;refine AW.sr (by simp[r7_2];rfl) ?_;refine .ret ?_;simp only[qzdb];refine .here (by simp[rs7]) rfl ?_;simp[rs7]
 rw[show(!rb)=false from e']at hF
 have hlen:hs.length<=40000:=by
  have:rb=true:=by simpa using e'
  rw[this]at h1;exact kzpb h1
 have hF:bd (ofL hf 0 hs []) (fun out=>ite' (decide (2000<(List.length out:Int))) (some ([],2)) (some (out,0)))=some r:=hF;cases h3:ofL hf 0 hs [] with
 |none=>rw[h3]at hF;cases hF
 |some fin =>
 rw[h3]at hF;have hF:ite' (decide (2000<(List.length fin:Int))) (some ([],2)) (some (fin,0))=some r:=hF;simp only[qzdb];refine AW.sr (by simp[r7_3];rfl) ?_;refine .seq (.seq (AW.r1 (by simp[r7_4];rfl) ?_));refine .block (.loop (fun y:Y7=>(⟨TO7 [.int .i64 hf,(AVal.slc 1 hs.length (qzd (cI .i64) hs))] (AVal.slc 1 hs.length (qzd (cI .i64) hs)) (ownV 2 y.ep y.out) hs.length y.k,HO [.int .i64 hf,(AVal.slc 1 hs.length (qzd (cI .i64) hs))] (ownO y.ep 5 wz3g.cells y.out) y.e1 y.e3 y.e4,[]⟩:ASt)) (fun y=>hs.length-y.k) (fun y=>y.k<=hs.length/\y.out.length<=y.k/\ofL hf y.k (hs.drop y.k) y.out=some fin) ⟨0,0,[],0,0,0⟩ ⟨Gdl _,Gcy _,h3⟩ (.of_sub ⟨?_,fun i=>?_,rfl,fun D hD=>by cases hD⟩) ?_)
 ·simp[TO7,List.replicate,TSub,VSub,ownV]
 ·refine .of_eq ?_;simp only[HO,hset,h0,ownO];by_cases i0:i=0
  ·subst i0;simp
  by_cases i2:i=2
  ·subst i2;simp
  simp[i0,i2]
 rintro⟨k,ep,out,e1,e3,e4⟩ ⟨hk,ho,hF2⟩;simp only at hk ho hF2 ⊢;have q0:∀o e1 e3 e4,HO [.int .i64 hf,(AVal.slc 1 hs.length (qzd (cI .i64) hs))] o e1 e3 e4 0=.box 1 [.int .i64 hf,(AVal.slc 1 hs.length (qzd (cI .i64) hs))]:=fun _ _ _ _=>rfl;have q1:∀o e1 e3 e4,HO [.int .i64 hf,(AVal.slc 1 hs.length (qzd (cI .i64) hs))] o e1 e3 e4 1=.gone e1:=fun _ _ _ _=>rfl;have q2:∀o e1 e3 e4,HO [.int .i64 hf,(AVal.slc 1 hs.length (qzd (cI .i64) hs))] o e1 e3 e4 2=o:=fun _ _ _ _=>rfl;have q3:∀o e1 e3 e4,HO [.int .i64 hf,(AVal.slc 1 hs.length (qzd (cI .i64) hs))] o e1 e3 e4 3=.gone e3:=fun _ _ _ _=>rfl;have q4:∀o e1 e3 e4,HO [.int .i64 hf,(AVal.slc 1 hs.length (qzd (cI .i64) hs))] o e1 e3 e4 4=.gone e4:=fun _ _ _ _=>rfl;refine AW.sr (by simp[r7_5,TO7,List.replicate];rfl) ?_;refine .seq (AW.if' (decide ((k:Int)<(hs.length:Int))) (by simp) (fun e=>AW.skip ?_) (fun e=>.exit ?_))
 ·have hlt:k<hs.length:=by have:=Gd7 e;omega
  have hat:hs[k]?=some hs[k]:=Gbe hlt;have hcell:qzd (cI .i64) hs k=[.int .i64 hs[k]]:=by rw[qzo hat];rfl
  have hdr:hs.drop k=hs[k] :: hs.drop (k+1):=Ga4 hlt;rw[hdr]at hF2;generalize hs[k]=s at *;have hF2:ck (inB .i64 (hf+k)&&inB .i64 (hf+k+1)) (bd (kzia (hf+k) (hf+k+1) s) fun x=>bd (kzky out x) fun out=>ofL hf (k+1) (hs.drop (k+1)) out)=some fin:=hF2;cases hbb:(inB .i64 (hf+(k:Int))&&inB .i64 (hf+(k:Int)+1)) with
  |false=>rw[hbb]at hF2;cases hF2
  |true =>
  rw[hbb]at hF2;cases hh:kzia (hf+k) (hf+k+1) s with
  |none=>rw[hh]at hF2;cases hF2
  |some x =>
  rw[hh]at hF2;have hF2:bd (kzky out x) (fun out=>ofL hf (k+1) (hs.drop (k+1)) out)=some fin:=hF2;cases hp:kzky out x with
  |none=>rw[hp]at hF2;cases hF2
  |some out1 =>
  rw[hp]at hF2;have hF2:ofL hf (k+1) (hs.drop (k+1)) out1=some fin:=hF2;have sH:=hH _ _ _ _ hh;simp only[Gai]at hbb;have g1:inr .i64 (hf+(k:Int)):=by have:=hbb.1;simp[inB]at this;exact this
  have g2:inr .i64 (hf+(k:Int)+1):=by have:=hbb.2;simp[inB]at this;exact this
  have hin1:inr .i64 ((k:Int)+1):=by show _/\_;omega
  simp only[qzdb];refine .seq (.block (AW.sr (by simp[r7_6,hlt,hcell];rfl) ?_));refine .seq (.reg ((?_:areg EE Tryd.prog (r7_7 0) _ (fun S'=>See EE S' ⟨TO7 [.int .i64 hf,(AVal.slc 1 hs.length (qzd (cI .i64) hs))] (AVal.slc 1 hs.length (qzd (cI .i64) hs)) (.vec 2 (ep+1) 0 (out.length+1)) hs.length k,HO [.int .i64 hf,(AVal.slc 1 hs.length (qzd (cI .i64) hs))] (.vec (ep+1) 5 (out.length+1) (qzd wz3g.cells (out++[x]))) (e1+1) e3 e4,[]⟩)).mono ?_))
  ·cases out with
   |nil =>
    simp[r7_7,q0,q1,q2,ownV,ownO];refine⟨g1,g2,sH.call ?_⟩;simp[q0,q1,q2,q3,q4];refine .of_sub ⟨?_,fun i=>?_,rfl,fun D hD=>by cases hD⟩
    ·simp[TO7,List.replicate,TSub,VSub]
    ·simp only[hset];by_cases i2:i=2
     ·subst i2;refine .inr (.inr ⟨ep+1,5,1,_,qzd wz3g.cells [x],by simp;rfl,rfl,fun j hj=>?_⟩);obtain rfl:j=0:=by omega
      simp
     by_cases i1:i=1
     ·subst i1;exact .inl (by simp;rfl)
     exact .of_eq (by simp[HO,i1,i2])
   |cons a m =>
    simp[r7_7,q0,q1,q2,ownV,ownO];refine⟨g1,g2,sH.call ?_⟩;have hml:(m.length+1+1)*56<=140737488355328:=by simp at ho;omega
    simp[q0,q1,q2,q3,q4];refine⟨hml,.of_sub ⟨?_,fun i=>?_,rfl,fun D hD=>by cases hD⟩⟩
    ·simp[TO7,List.replicate,TSub,VSub]
    ·simp only[hset];by_cases i2:i=2
     ·subst i2;refine .inr (.inr ⟨ep+1,5,m.length+1+1,_,qzd wz3g.cells (a :: m++[x]),by simp;rfl,rfl,fun j hj=>?_⟩);exact kzr9 j hj
     by_cases i1:i=1
     ·subst i1;exact .inl (by simp;rfl)
     exact .of_eq (by simp[HO,i1,i2])
  rintro S' hsee;refine .see hsee ?_;refine AW.sr (by simp[r7_8,TO7,q2,List.replicate];rfl) ?_;refine AW.sr (by simp[r7_9];rfl) ?_;rcases List.eq_nil_or_concat out with rfl|⟨m,a,rfl⟩
  ·cases hp;refine AW.if' false (by simp) (fun e=>by cases e) (fun _=>AW.skip ?_);simp only[qzdb,ablk];refine AW.r1 (by simp[kzni];exact⟨hin1,rfl⟩) ?_;simp only[qzdb];refine⟨⟨k+1,ep+1,[x],e1+1,e3,e4⟩,⟨by simp only;omega,by simp,hF2⟩,by simp only;omega,.of_sub ⟨?_,fun i=>.refl _,rfl,fun D hD=>by cases hD⟩⟩;simp[TO7,List.replicate,TSub,VSub,ownV]
  ·rw[List.concat_eq_append]at *;have hp:bd (kzh9 a x) (fun p=>some (bif p.2 then(m++[a]).dropLast++[p.1] else m++[a]++[x]))=some out1:=by unfold kzky at hp;rw[List.getLast?_concat]at hp;exact hp
   cases hb2:kzh9 a x with
   |none=>rw[hb2]at hp;cases hp
   |some p =>
   rw[hb2]at hp;have sB:=hB _ _ _ hb2;have hp:out1=bif p.2 then m++[p.1] else m++[a]++[x]:=by have:=Gdp hp;rw[List.dropLast_concat]at this;exact this.symm
   have hml:(m++[a]).length=m.length+1:=by simp
   have hca:qzd wz3g.cells (m++[a]++[x]) m.length=a.cells:=qzo (by simp);have hcx:qzd wz3g.cells (m++[a]++[x]) (m.length+1)=x.cells:=qzo (by simp);simp only[hml]at *;refine AW.if' true (by simp;omega) (fun _=>?_) (fun e=>by cases e);have hix:((m.length:Int)+1+1-2)=(m.length:Int):=by omega
   have hca':qzd wz3g.cells (m++[a,x]) m.length=a.cells:=qzo (by simp);have hcx':qzd wz3g.cells (m++[a,x]) (m.length+1)=x.cells:=qzo (by simp);have hin2:inr .i64 (m.length:Int):=by show _/\_;omega
   have hin3:inr .i64 ((m.length:Int)+1):=by show _/\_;omega
   refine .seq (.draw ?_);simp[kzsr,q2,kzb,hix,hca',hcx',wz8c,-wz3g.cells];refine⟨hin2,by omega,by omega,hin3,by omega,sB.cd (.refl _) ?_⟩;simp[q3,-wz3g.cells];refine⟨⟨rfl,wz6f _⟩,by kernel_rfl,?_⟩;refine AW.sr (by simp[kzsx];rfl) ?_;cases hp2:p.2
   ·rw[hp2]at hp;have hp:out1=m++[a]++[x]:=hp;subst hp;refine AW.if' false (by simp[hp2]) (fun e=>by cases e) (fun _=>AW.skip ?_);simp only[qzdb,ablk];refine AW.r1 (by simp[kzni];exact⟨hin1,rfl⟩) ?_;simp only[qzdb];refine⟨⟨k+1,ep+1,m++[a]++[x],e1+1,e3+1,e4⟩,⟨by simp only;omega,by simp;omega,hF2⟩,by simp only;omega,.of_sub ⟨?_,fun i=>?_,rfl,fun D hD=>by cases hD⟩⟩
    ·rw[jz9m];simp[TO7,List.replicate,TSub,VSub]
    ·rw[jz90];simp only[hset];by_cases i3:i=3
     ·subst i3;exact .inl (by simp;rfl)
     exact .of_eq (by simp[HO,i3])
   ·rw[hp2]at hp;have hp:out1=m++[p.1]:=hp;subst hp;refine AW.if' true (by simp[hp2]) (fun _=>?_) (fun e=>by cases e);refine .draw ?_;simp[kzsu,q2,q3,q4,hix,-wz3g.cells];refine⟨hin2,by omega,⟨by omega,by omega⟩,by kernel_rfl,?_⟩;refine AW.r1 (by simp[kzni];exact⟨hin1,rfl⟩) ?_;simp only[qzdb];refine⟨⟨k+1,ep+2,m++[p.1],e1+1,e3+1,e4+1⟩,⟨by simp only;omega,by simp;omega,hF2⟩,by simp only;omega,.of_sub ⟨?_,fun i=>?_,rfl,fun D hD=>by cases hD⟩⟩
    ·rw[jz9m];simp[TO7,List.replicate,TSub,VSub]
    ·rw[jz90];simp only[hset];by_cases i2:i=2
     ·subst i2;refine .inr (.inr ⟨ep+2,5,m.length+1,_,qzd wz3g.cells (m++[p.1]),by simp;rfl,rfl,fun j hj=>?_⟩);by_cases hj':j<m.length
      ·rw[Gd4 hj'];unfold qzd;rw[Gba hj',Gba hj']
      ·obtain rfl:j=m.length:=by omega
       rw[Gd3 hj',qzo (x:=p.1) (by simp)];simp
     by_cases i4:i=4
     ·subst i4;exact .inl (by simp;rfl)
     by_cases i3:i=3
     ·subst i3;exact .inl (by simp;rfl)
     exact .of_eq (by simp[HO,i2,i3,i4])
 ·obtain rfl:k=hs.length:=by have:=of_decide_eq_false e;omega
  rw[List.drop_length]at hF2;have hF2:some out=some fin:=hF2;obtain rfl:=Gdp hF2;simp only[qzdb,ablk,Gd5]
  have hr0:(2000<(out.length:Int)->r=([],2))/\(¬2000<(out.length:Int)->r=(out,0)):=by
   refine⟨fun h=>?_,fun h=>?_⟩
   ·rw[Gdy h]at hF;cases hF;rfl
   ·rw[Gdw h]at hF;cases hF;rfl
  cases out with
  |nil =>rw[hr0.2 (by simp)];refine .seq (AW.sr (by simp[kzoz,TO7,ownV,ownO,List.replicate];rfl) ?_);refine AW.if' false (by simp) (fun e=>by cases e) (fun _=>AW.skip ?_);simp only[qzdb];refine AW.sr (by simp[kzo6];rfl) ?_;refine .ret (.here (by simp[rs7]) rfl ?_);simp[rs7]
  |cons a m =>
   refine .fzc 2 (by simp[q2,ownO]) (by simp[q2,ownO]) ?_;refine .seq (AW.sr (by simp[kzoz,TO7,ownV,ownO,q2,List.replicate];rfl) ?_);refine AW.if' (decide (2000<((a :: m).length:Int))) (by simp) (fun e=>?_) (fun e=>AW.skip ?_)
   ·rw[hr0.1 (Gd7 e)];refine AW.sr (by simp[kzs7];rfl) ?_;refine .ret ?_;simp only[qzdb];refine .here (by simp[rs7]) rfl ?_;simp[rs7]
   ·rw[hr0.2 (of_decide_eq_false e)];simp only[qzdb];refine AW.sr (by simp[kzo6];rfl) ?_;refine .ret (.here (by simp[rs7]) rfl ?_);simp[rs7]
theorem kzqb{w:wz2c}{z:AVal}(hz:z∈w.cells):qzt z:=by
 simp[wz2c.cells]at hz;rcases hz with rfl|rfl
 ·exact .int _ _
 ·exact qzj fun a z hz=>qz1 z hz
theorem kzv8(H22:FcOk k22)(H23:FcOk k23)(H24:FcOk k24):FcOk k7:=by
 refine⟨by kernel_rfl,fun x y e=>?_⟩;have H:Pure EE Tryd.prog 7 [.agg x.cells] (.tup [slcV 5 wz3g.cells y.1,.int .i64 y.2]):=(of7 (fun w e h=>H22.still (x:=w) (y:=e) h (by kernel_rfl)) (fun a b s r h=>H23.still (x:=(a,b,s)) (y:=r) h (by kernel_rfl)) (fun a b r h=>H24.still (x:=(a,b)) (y:=r) h (by kernel_rfl)) x y e).wv fun v h' q=>⟨_,q,rfl⟩
 exact(Pure.still H hEE (fun z hz=>by
  rw[Gcc.1 hz];exact .agg _ fun z hz=>kzqb hz) (.tup _ fun z hz=>by
  rcases Gb3.1 hz with rfl|hz
  ·exact qzj fun a z hz=>kzlk hz
  ·rw[Gcc.1 hz];exact .int _ _)).cast (by kernel_rfl)
end Go.Am

