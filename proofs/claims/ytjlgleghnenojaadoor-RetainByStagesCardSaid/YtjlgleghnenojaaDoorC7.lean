/- Part C7: contracts of some functions of this seat. No condition. -/
import Derived.Test.YtjlgleghnenojaaDoorC2
import Derived.Test.YtjlgleghnenojaaDoorC6
set_option linter.unusedSimpArgs false
set_option linter.unusedVariables false
set_option maxRecDepth 100000
namespace Go.Am
open Go.Proofs
attribute [local simp] areg aop dreg dop AOp.req argv argU AOp.args wze AOp.unAll Req.val Req.when putT putH qzdb ablk qzfc qzbd qzg6 vzl qzcj qzif qzid qzh7 qzh1 qzhy qzko qzhz qzji qzim qzgg qznh qzj2 qzkg qzjx IntKind.bits vz1 ARes.ok ARes.val vz5 cut AOp.quiet
attribute [local simp] qzc0 qzbz qzcz qze2 qzer qzep kzp qz1 qzh2 qzij
attribute [local simp] qzm6 qzj7 qzhq qzih qzm4 look qz8 zipA wm wh
attribute [local simp] qzm7 qzpn qzpz qzmg qzpx qzmf qzpo qzqa qzpi qzqk qzpm w_fn qznc qzjs qzjh qzhs qzj1 qzmh qzmi AObj.ep AObj.plain AObj.owned
attribute [local simp] wz9 qzbw qzeu qzdp qzey qzd2 qze5 qzfk qze7 qzdi qzdk qzd0 qzgy qzcq qzg5 qzc6 qzfa vz6 lay jzv ldv wzu qz5 kz1 qz9 qzgh wzd AVal.kind
attribute [local simp] AVal.one_int AVal.one_bool AVal.one_str AVal.one_nils AVal.one_slc AVal.one_vec AVal.one_ptr AVal.one_eptr AVal.one_cptr AVal.one_nilp AVal.one_fn AVal.one_nilfn AVal.one_mp AVal.one_nilmp
attribute [local simp] qzkh qzkv qzh8 qzh4 qzkt qzjr qzii qzik qzjn qzkm qzjf qzjw qzkl qzje qzh6 qzhx qzin qzig qzh5 qzio qzm9 qzna qzgf qzgr qzmt qzmr qzgn qzgz qzj6 qzj9 qzjv qzka qzju qzki qzkr qzku
attribute [local simp] qzh cI cB cS cL qzc3 qzdh qzdz qzb7 qzg1 qzh0 qzgc qziq fzm fzh fzv fzl fz1 qzjm qzhw qzjp qzjl qzjk List.range_succ qzd5 qze0 qzfg qzco qzdq qzdu qzag qzdw qzd4
attribute [local simp] qzj0
attribute [local simp] wz2c.cells
attribute [local simp] kzhx.cells
attribute [local simp] kzhv.cells
attribute [local simp] kzh0.cells
attribute [local simp] jz50.cells
attribute [local simp] wz2h.cells
attribute [local simp] kzht.cells
attribute [local simp] wz2w.cells
attribute [local simp] wz3g.cells
attribute [local simp] kzhz.cells
attribute [local simp] kzhu.cells
attribute [local simp] hset
def k18:Fc:=⟨18,[(.us 1),(.slc (.us 2))],[false,false],[(.int .i64)],fun x=>kzig x.1 x.2⟩
def k41:Fc:=⟨41,[(.int .i64)],[false],[.bool],fun x=>kziv x⟩
def k19:Fc:=⟨19,[(.us 1),(.slc (.us 2)),(.int .i64),(.int .i64)],[false,false,false,false],[(.us 10),(.int .i64)],fun x=>kzio x.1 x.2.1 x.2.2.1 x.2.2.2⟩
theorem kztw{w:kzhx}{f:List kzhv}(h:kzig w f=some 0):f.length<=100:=by
 unfold kzig at h;generalize (bif (bif (bif (bif (decide (w.Raw<0)) then true else(decide (w.Hour<w.Raw))) then true else(decide (w.Day<w.Hour))) then true else(decide (w.Month<w.Day))) then true else(decide (14609<w.Month)))=c at h;cases c
 ·cases hd:decide (100<(List.length f:Int));·have:=of_decide_eq_false hd;omega
  ·rw[hd]at h;cases h
 ·cases h
def fk(f:List kzhv)(g:Int)(k:Nat):List kzhv:=(f.take k).filter fun x=>decide (x.Gauge=g)
theorem kztx{f:List kzhv}{g:Int}{k:Nat}{x:kzhv}(h:f[k]?=some x):fk f g (k+1)=if x.Gauge=g then fk f g k++[x] else fk f g k:=by unfold fk;rw[List.take_add_one,h,List.filter_append];by_cases e:x.Gauge=g<;>simp[e]
theorem kzvk(f:List kzhv)(g:Int)(k:Nat):(fk f g k).length<=k:=by unfold fk;have:=List.length_filter_le (fun x:kzhv=>decide (x.Gauge=g)) (f.take k);rw[Gbz]at this;omega
def B21(w:kzhx)(f:List kzhv)(S:AVal)(g today:Int)(k:Nat):ASt :=
 ⟨.agg w.cells :: S :: .int .i64 g :: .int .i64 today :: .ptr 0 1 0 :: .top :: .top :: .top :: .ptr 1 1 0 :: .int .i64 0 :: .top :: .ptr 2 1 0 :: List.replicate 32 .top++[S,.int .i64 f.length,.int .i64 k]++List.replicate 15 .top,
  hset (hset (hset (hset (hset (hset h0 0 (.box 1 w.cells)) 1 (.box 1 [.int .i64 0,.int .i64 0,.int .i64 0,.int .i64 0,.int .i64 0,.nils,.int .i64 0])) 2 (.box 1 [.int .i64 0,.int .i64 w.Raw,.int .i64 w.Hour,.int .i64 w.Day,.int .i64 w.Month,ownV 5 (fk f g k).length (fk f g k),.int .i64 today])) 3 (.gone k)) 4 (.gone (fk f g k).length)) 5 (ownO (fk f g k).length 3 kzhv.cells (fk f g k)),[]⟩
theorem kztr(w:kzhx)(f:List kzhv)(S:AVal)(g today:Int)(k:Nat):B21 w f S g today k =
 ⟨.agg w.cells :: S :: .int .i64 g :: .int .i64 today :: .ptr 0 1 0 :: .top :: .top :: .top :: .ptr 1 1 0 :: .int .i64 0 :: .top :: .ptr 2 1 0 :: List.replicate 32 .top++[S,.int .i64 f.length,.int .i64 k]++List.replicate 15 .top,
  hset (hset (hset (hset (hset (hset h0 0 (.box 1 w.cells)) 1 (.box 1 [.int .i64 0,.int .i64 0,.int .i64 0,.int .i64 0,.int .i64 0,.nils,.int .i64 0])) 2 (.box 1 [.int .i64 0,.int .i64 w.Raw,.int .i64 w.Hour,.int .i64 w.Day,.int .i64 w.Month,ownV 5 (fk f g k).length (fk f g k),.int .i64 today])) 3 (.gone k)) 4 (.gone (fk f g k).length)) 5 (ownO (fk f g k).length 3 kzhv.cells (fk f g k)),[]⟩:=rfl
set_option maxHeartbeats 4000000 in
theorem kzt8(hC:∀(w:kzhx) (f:List kzhv) (e:Int),kzig w f=some e->qzq EE Tryd.prog 18 [.agg w.cells,slcV 3 kzhv.cells f] (.int .i64 e))(hG:∀(n:Int) (r:Bool),kziv n=some r->qzq EE Tryd.prog 41 [.int .i64 n] (.bool r)) (w:kzhx) (f:List kzhv) (g today:Int) (r:kzhu×Int) (h:kzio w f g today=some r) :
  ATr EE Tryd.prog 19 [.agg w.cells,slcV 3 kzhv.cells f,.int .i64 g,.int .i64 today] h0 (fun v _=>W v (.tup [.agg r.1.cells,.int .i64 r.2])):=by
 unfold kzio at h;cases h1:kzig w f with
 |none=>rw[h1]at h;cases h
 |some e =>
 rw[h1]at h;have sC:=hC w f e h1;obtain⟨gb,h2⟩:∃gb,kziv g=some gb:=⟨_,rfl⟩;have sG:=hG g gb h2;rw[h2]at h;have h:ite' (!decide (e=0)) (some (kzhu.mk (kzhz.mk 0 0 0 0 0) [] 0,e)) (ite' (bif (bif !gb then true else decide (today<0)) then true else decide (14609<today)) (some (kzhu.mk (kzhz.mk 0 0 0 0 0) [] 0,3)) (some (kzhu.mk (kzhz.mk 0 w.Raw w.Hour w.Day w.Month) (List.filter (fun x=>decide (x.Gauge=g)) f) today,0)))=some r:=h;generalize hS:slcV 3 kzhv.cells f=S at *;have hS2:S=.slc 3 f.length (qzd kzhv.cells f):=by rw[<-hS,qzh]
 obtain⟨c,hb,hc⟩:=ck19;refine ATr.of (fn:=Tryd.f19) rfl hb cr19 (hc 0) 58 rfl ?_;refine AW.sr (by simp[qz5q,List.replicate,h0];rfl) ?_;refine .seq (AW.sr (by simp[wza7];refine sC.call ?_;(try simp);rfl) ?_);refine AW.sr (by simp[qz4h];rfl) ?_;refine AW.if' (!decide (e=0)) (by simp) (fun e'=>?_) (fun e'=>AW.skip ?_)
 ·rw[show(!decide (e=0))=true from e']at h;cases h;refine AW.sr (by simp[kztl];rfl) ?_;refine .ret ?_;simp only[qzdb];refine .here (by simp[rs19]) rfl ?_;simp[rs19]
 rw[show(!decide (e=0))=false from e']at h;have h:ite' (bif (bif !gb then true else decide (today<0)) then true else decide (14609<today)) (some (kzhu.mk (kzhz.mk 0 0 0 0 0) [] 0,3)) (some (kzhu.mk (kzhz.mk 0 w.Raw w.Hour w.Day w.Month) (List.filter (fun x=>decide (x.Gauge=g)) f) today,0))=some r:=h;have e0:e=0:=by simpa using e'
 subst e0;have hn:=kztw h1;simp only[qzdb];refine .seq (AW.sr (by simp[kzsp];refine sG.call ?_;(try simp);rfl) ?_);refine AW.if' (!gb||decide (today<0)||decide (14609<today)) (by simp) (fun e'=>?_) (fun e'=>AW.skip ?_)
 ·have h:some (kzhu.mk (kzhz.mk 0 0 0 0 0) [] 0,3)=some r:=by
   rw[show(bif (bif !gb then true else decide (today<0)) then true else decide (14609<today))=true by rw[<-e'];cases gb<;>cases decide (today<0)<;>rfl]at h;exact h
  cases h;refine AW.sr (by simp[kztq];rfl) ?_;refine .ret ?_;simp only[qzdb];refine .here (by simp[rs19]) rfl ?_;simp[rs19]
 have h:some (kzhu.mk (kzhz.mk 0 w.Raw w.Hour w.Day w.Month) (List.filter (fun x=>decide (x.Gauge=g)) f) today,(0:Int))=some r:=by rw[show(bif (bif !gb then true else decide (today<0)) then true else decide (14609<today))=false by rw[<-e'];cases gb<;>cases decide (today<0)<;>rfl]at h;exact h
 cases h;simp only[qzdb];refine AW.sr (by simp[kzs4,h0];rfl) ?_;refine .seq (.seq (AW.r1 (by simp[kzs2,hS2];rfl) ?_));refine .block (.loop (B21 w f S g today) (fun k=>f.length-k) (fun k=>k<=f.length) 0 (by omega) (.of_sub ⟨?_,fun i=>?_,rfl,fun D hD=>by cases hD⟩) ?_)
 ·simp[B21,List.replicate,TSub,VSub];exact .inr (.inl hS2)
 ·refine OSub.of_eq ?_;simp only[B21,fk,List.take_zero,List.filter_nil,ownV,ownO,List.length_nil,hset,h0];by_cases h5:i=5
  ·subst h5;simp
  by_cases h4:i=4
  ·subst h4;simp
  by_cases h3:i=3
  ·subst h3;simp
  by_cases h2:i=2
  ·subst h2;simp
  simp[h5,h4,h3,h2]
 intro k hk;have hkl:=kzvk f g k;rw[kztr];refine AW.sr (by simp[kztc,List.replicate];rfl) ?_;refine .seq (AW.if' (decide ((k:Int)<(f.length:Int))) (by simp) (fun e=>AW.skip ?_) (fun e=>.exit ?_))
 ·have hlt:k<f.length:=by have:=Gd7 e;omega
  have hat:f[k]?=some f[k]:=Gbe hlt;have hcell:qzd kzhv.cells f k=kzhv.cells f[k]:=qzo hat;have hstep:=kztx (g:=g) hat;generalize f[k]=x at *;have hin1:inr .i64 ((k:Int)+1):=by show _/\_;omega
  simp only[qzdb];refine .seq (.block (AW.sr (by simp[kztj,hS2,hlt,hcell];rfl) (AW.sr (by simp[kzrr];rfl) ?_)));refine AW.if' (decide (x.Gauge=g)) (by simp) (fun e3=>?_) (fun e3=>AW.skip ?_)
  ·rw[Gd4 (Gd7 e3)]at hstep;have hck:x.cells=[.int .i64 x.Gauge,.int .i64 x.From,.int .i64 x.To]:=rfl;generalize hl:fk f g k=l at *;cases l with
   |nil =>
    refine AW.r1 (by simp[kzn1,ownV,ownO];rfl) ?_;simp only[qzdb,ablk];refine AW.r1 (by simp[kzms];exact⟨hin1,rfl⟩) ?_;simp only[qzdb];refine⟨k+1,by omega,by omega,.of_sub ⟨?_,fun i=>?_,rfl,fun D hD=>by cases hD⟩⟩
    ·simp[B21,List.replicate,TSub,VSub,hS2]
    ·simp only[B21,hstep,hset,List.nil_append,ownV,ownO,Gby,List.length_nil];by_cases h5:i=5
     ·subst h5;refine .inr (.inr ⟨_,_,_,_,qzd kzhv.cells [x],by simp;exact⟨rfl,rfl,rfl,rfl⟩,by simp,fun j hj=>?_⟩);obtain rfl:j=0:=by omega
      simp
     by_cases h4:i=4
     ·subst h4;exact .inl (by simp)
     by_cases h3:i=3
     ·subst h3;exact .inl (by simp)
     by_cases h2:i=2
     ·subst h2;exact .of_eq (by simp)
     exact .of_eq (by simp[h5,h4,h3,h2])
   |cons y l =>
    have hll:l.length+1<=k:=(by simpa using hkl);refine AW.r1 (by simp[kzn1,ownV,ownO];exact⟨by omega,rfl⟩) ?_;simp only[qzdb,ablk];refine AW.r1 (by simp[kzms];exact⟨hin1,rfl⟩) ?_;simp only[qzdb];refine⟨k+1,by omega,by omega,.of_sub ⟨?_,fun i=>?_,rfl,fun D hD=>by cases hD⟩⟩
    ·simp[B21,List.replicate,TSub,VSub,hS2]
    ·simp only[B21,hstep,hset,Ga1,ownV,ownO,Gbr,Gbq,Gby,List.length_nil];by_cases h5:i=5
     ·subst h5;refine .inr (.inr ⟨_,_,_,_,qzd kzhv.cells (y :: (l++[x])),by simp;exact⟨rfl,rfl,rfl,rfl⟩,by simp,fun j hj=>?_⟩);by_cases hj':j<l.length+1
      ·rw[Gd4 hj'];unfold qzd;rw[show y :: (l++[x])=(y :: l)++[x] from rfl,Gba (by simpa using hj')]
      ·obtain rfl:j=l.length+1:=by omega
       rw[Gd3 hj',qzo (x:=x) (by simp)];simp[hck]
     by_cases h4:i=4
     ·subst h4;exact .inl (by simp)
     by_cases h3:i=3
     ·subst h3;exact .inl (by simp)
     by_cases h2:i=2
     ·subst h2;exact .of_eq (by simp)
     exact .of_eq (by simp[h5,h4,h3,h2])
  ·rw[Gd3 (of_decide_eq_false e3)]at hstep;simp only[qzdb,ablk];refine AW.r1 (by simp[kzms];exact⟨hin1,rfl⟩) ?_;simp only[qzdb];refine⟨k+1,by omega,by omega,.of_sub ⟨?_,fun i=>?_,rfl,fun D hD=>by cases hD⟩⟩
   ·simp[B21,List.replicate,TSub,VSub,hS2]
   ·simp only[B21,hstep,hset];by_cases h3:i=3
    ·subst h3;exact .inl (by simp)
    exact OSub.of_eq (by simp[h3])
 ·have hlt:k=f.length:=by have:=of_decide_eq_false e;omega
  subst hlt;have hfk:fk f g f.length=List.filter (fun x=>decide (x.Gauge=g)) f:=by unfold fk;rw[List.take_length]
  simp only[qzdb,ablk,Gd5];rw[<-hfk];generalize fk f g f.length=l at *;cases l with
  |nil =>refine AW.sr (by simp[kznp,ownV,ownO];rfl) ?_;refine .ret (.here (by simp[rs19]) rfl ?_);simp[rs19]
  |cons y l =>refine .fzc 5 (by simp[ownO]) (by simp[ownO]) ?_;refine AW.sr (by simp[kznp,ownV,ownO];rfl) ?_;refine .ret (.here (by simp[rs19]) rfl ?_);simp[rs19]
theorem kzq4{w:kzhx}{z:AVal}(hz:z∈w.cells):qzt z:=by simp[kzhx.cells]at hz;rcases hz with rfl|rfl|rfl|rfl<;>exact .int _ _
theorem kzvm(H18:FcOk k18)(H41:FcOk k41):FcOk k19:=by
 refine⟨by kernel_rfl,fun x y e=>?_⟩;have H:Pure EE Tryd.prog 19 [.agg x.1.cells,slcV 3 kzhv.cells x.2.1,.int .i64 x.2.2.1,.int .i64 x.2.2.2] (.tup [.agg y.1.cells,.int .i64 y.2]):=(kzt8 (fun w f e h=>H18.still (x:=(w,f)) (y:=e) h (by kernel_rfl)) (fun n r h=>H41.still (x:=n) (y:=r) h (by kernel_rfl)) x.1 x.2.1 x.2.2.1 x.2.2.2 y e).wv fun v h' q=>⟨_,q,rfl⟩
 exact(Pure.still H hEE (fun z hz=>by
  rcases Gb3.1 hz with rfl|hz
  ·exact .agg _ fun z hz=>kzq4 hz
  rcases Gb3.1 hz with rfl|hz
  ·exact qzj fun a z hz=>kzm6 hz
  rcases Gb3.1 hz with rfl|hz
  ·exact .int _ _
  ·rw[Gcc.1 hz];exact .int _ _) (.tup _ fun z hz=>by
  rcases Gb3.1 hz with rfl|hz
  ·exact .agg _ fun z hz=>kzlq hz
  ·rw[Gcc.1 hz];exact .int _ _)).cast (by kernel_rfl)
end Go.Am

