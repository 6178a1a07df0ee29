/- Part D3: helpers. No condition. -/
import Derived.Test.YtjlgleghnenojaaDoorD1
set_option linter.unusedSimpArgs false
set_option linter.unusedVariables false
set_option maxRecDepth 100000
namespace Go.Am
open Go.Proofs
attribute [local simp] areg aop dreg dop AOp.req argv argU AOp.args wze AOp.unAll Req.val Req.when putT putH qzdb ablk qzfc qzbd qzg6 vzl qzcj qzif qzid qzh7 qzh1 qzhy qzko qzhz qzji qzim qzgg qznh qzj2 qzkg qzjx IntKind.bits vz1 ARes.ok ARes.val vz5 cut AOp.quiet
attribute [local simp] qzc0 qzbz qzcz qze2 qzer qzep kzp qz1 qzh2 qzij
attribute [local simp] qzm6 qzj7 qzhq qzih qzm4 look qz8 zipA wm wh
attribute [local simp] qzm7 qzpn qzpz qzmg qzpx qzmf qzpo qzqa qzpi qzqk qzpm w_fn qznc qzjs qzjh qzhs qzj1 qzmh qzmi AObj.ep AObj.plain AObj.owned
attribute [local simp] wz9 qzbw qzeu qzdp qzey qzd2 qze5 qzfk qze7 qzdi qzdk qzd0 qzgy qzcq qzg5 qzc6 qzfa vz6 lay jzv ldv wzu qz5 kz1 qz9 qzgh wzd AVal.kind
attribute [local simp] AVal.one_int AVal.one_bool AVal.one_str AVal.one_nils AVal.one_slc AVal.one_vec AVal.one_ptr AVal.one_eptr AVal.one_cptr AVal.one_nilp AVal.one_fn AVal.one_nilfn AVal.one_mp AVal.one_nilmp
attribute [local simp] qzkh qzkv qzh8 qzh4 qzkt qzjr qzii qzik qzjn qzkm qzjf qzjw qzkl qzje qzh6 qzhx qzin qzig qzh5 qzio qzm9 qzna qzgf qzgr qzmt qzmr qzgn qzgz qzj6 qzj9 qzjv qzka qzju qzki qzkr qzku
attribute [local simp] qzh cI cB cS cL qzc3 qzdh qzdz qzb7 qzg1 qzh0 qzgc qziq fzm fzh fzv fzl fz1 qzjm qzhw qzjp qzjl qzjk List.range_succ qzd5 qze0 qzfg qzco qzdq qzdu qzag qzdw qzd4
attribute [local simp] qzj0
attribute [local simp] wz2c.cells
attribute [local simp] kzhx.cells
attribute [local simp] kzhv.cells
attribute [local simp] kzh0.cells
attribute [local simp] jz50.cells
attribute [local simp] wz2h.cells
attribute [local simp] kzht.cells
attribute [local simp] wz2w.cells
attribute [local simp] wz3g.cells
attribute [local simp] kzhz.cells
attribute [local simp] kzhu.cells
attribute [local simp] hset
def k29:Fc:=⟨29,[(.us 8)],[false],[(.int .i64),(.int .i64)],fun x=>kzjb x⟩
def k30:Fc:=⟨30,[(.us 8)],[false],[.bool],fun x=>kzit x⟩
def k12:Fc:=⟨12,[(.slc (.us 8)),(.slc (.us 8))],[false,false],[.bool,(.int .i64)],fun x=>kzjg x.1 x.2⟩
def mE(l:List (Int×Int)):List (AVal×AVal):=l.map fun p=>(.int .i64 p.1,.int .i64 p.2)
theorem kzlt(a:Int):∀(l:List (Int×Int)) (i:Nat),(mget keqI l a=none/\qzb1 (.int .i64 a) (mE l) i=some none/\∀b,mE (mput keqI l a b)=mE l++[(.int .i64 a,.int .i64 b)]) \/ ∃j x,mget keqI l a=some x/\qzb1 (.int .i64 a) (mE l) i=some (some (i+j,.int .i64 x))/\∀b,mE (mput keqI l a b)=(mE l).set j (.int .i64 a,.int .i64 b)
 |[],i=>.inl ⟨rfl,rfl,fun _=>rfl⟩
 |p :: l,i=>by
  have e:qzb1 (.int .i64 a) (mE (p :: l)) i=(match some (decide (a=p.1)) with | some true=>some (some (i,.int .i64 p.2)) | some false=>qzb1 (.int .i64 a) (mE l) (i+1) | none=>none):=rfl;by_cases h:a=p.1
  ·have hq:keqI a p.1=true:=Gdy h;refine .inr ⟨0,p.2,?_,by rw[e,Gdy h];rfl,fun b=>?_⟩
   ·show(match keqI a p.1 with | true=>some p.2 | false=>mget keqI l a)=_;rw[hq]
   ·show mE (match keqI a p.1 with | true=>(a,b) :: l | false=>p :: mput keqI l a b)=_;rw[hq];rfl
  ·have hq:keqI a p.1=false:=Gdw h;have g:mget keqI (p :: l) a=mget keqI l a:=by show(match keqI a p.1 with | true=>some p.2 | false=>mget keqI l a)=_;rw[hq]
   have q:∀b,mput keqI (p :: l) a b=p :: mput keqI l a b:=fun b=>by show(match keqI a p.1 with | true=>(a,b) :: l | false=>p :: mput keqI l a b)=_;rw[hq]
   rw[e,Gdw h,g];rcases kzlt a l (i+1) with ⟨h1,h2,h3⟩|⟨j,x,h1,h2,h3⟩
   ·exact .inl ⟨h1,h2,fun b=>by rw[q];show _ :: mE _=_;rw[h3];rfl⟩
   ·exact .inr ⟨j+1,x,h1,by show qzb1 (.int .i64 a) (mE l) (i+1)=_;rw[h2];simp only[Gdq,Gdr,and_true];omega,fun b=>by rw[q];show _ :: mE _=_;rw[h3];rfl⟩
theorem kzka(l:List (Int×Int)){h:qzl}{M e:Nat}{a:Int}(hM:h M=.amap e (mE l)):qzkq 1 false (.int .i64 0) (.mp M e) (.int .i64 a) h=⟨True,[M],.int .i64 (Option.getD (mget keqI l a) 0),none⟩:=by
 have e1:wz8 (.mp M e) h=⟨e=e,[M],mE l⟩:=by unfold wz8;simp only[hM]
 unfold qzkq;rw[e1];simp only;rcases kzlt a l 0 with ⟨h1,h2,_⟩|⟨j,x,h1,h2,_⟩
 ·rw[h2,h1];simp[AVal.kkind,AVal.kind]
 ·rw[h2,h1];simp[AVal.kkind,AVal.kind]
theorem kzkt(l:List (Int×Int)){h:qzl}{M e:Nat}{a b:Int}(hM:h M=.amap e (mE l)):qzn3 1 (.mp M e) (.int .i64 a) (.int .i64 b) h=⟨True,[M],.top,some (M,.amap e (mE (mput keqI l a b)))⟩:=by
 unfold qzn3;simp only[hM];rcases kzlt a l 0 with ⟨h1,h2,h3⟩|⟨j,x,h1,h2,h3⟩
 ·rw[h2,h3];simp[AVal.kkind,AVal.kind]
 ·rw[h2,h3];simp[AVal.kkind,AVal.kind]
section
attribute [local simp] kznm kzkz kzkx kzko kzk7 kzlr kzme kzmd kzk3 subm subh vz2 pick kzml
theorem ATr.ofs{E:Nat->AVal}{P:Program}{f:FuncId}{fn:Func}{c:Code}{ac:qzk}{args:List AVal}{R:AVal->qzl->Prop}{rs:List ARes}{m:List (Nat×AVal)}{n:Nat}(hf:P.funcs[f]?=some fn)(hb:fn.body=some c)(hr:qzi P fn.results.toList rs=true)(hc:qzg P c ac=true)(hm:zipA 0 args=m) (hn:fn.ntmps=n) (hle:args.length<=n) (hw:AW E none P ac (Post E rs R) ⟨tl m n,hl [],[]⟩):ATr E P f args h0 R :=
 .of hf hb hr hc (n-args.length) (by omega) (by rw[wzct,hm,show args.length+(n-args.length)=n by omega];exact hw)
theorem kzqp{a b:List wz3g}{r:Bool×Int}(hF:kzjg a b=some r):∃e1,kzhy a=some e1/\(e1≠0->r=(false,e1))/\(e1=0->∃e2,kzhy b=some e2/\(e2≠0->r=(false,e2)) /\
  (e2=0->tbs a=true/\tbs b=true/\ite' (bif decide (List.length a=0) then true else decide (List.length b=0)) (some (decide (List.length a=List.length b),0)) (
   bd (at? a 0) fun x=>bd (at? b 0) fun y =>
   bd (at? a ((List.length a:Int)-1)) fun x2=>bd (at? b ((List.length b:Int)-1)) fun y2 =>
   ite' (bif !decide (x.From=y.From) then true else !decide (x2.To=y2.To)) (some (false,0)) <|
   bd (finY a b) fun r=>some (r,0))=some r)):=by
 unfold kzjg at hF;obtain⟨e1,h1,hF⟩:=bd_e hF;refine⟨e1,h1,fun k=>(Gdp ((it_e hF).1 k)).symm,fun k=>?_⟩;obtain⟨e2,h2,hF⟩:=bd_e ((it_e hF).2 k);refine⟨e2,h2,fun k=>(Gdp ((it_e hF).1 k)).symm,fun k=>?_⟩;obtain⟨hc,hF⟩:=ck_e ((it_e hF).2 k);simp only[Gai]at hc;exact⟨hc.1,hc.2,hF⟩
def b12(A B:AVal):List (Nat×AVal):=[(0,A),(1,B),(4,.bool false),(5,.int .i64 0)]
def h12(o1 o2 o3 o4 o5 o6:AObj):List (Nat×AObj):=[(0,.gone 1),(1,o1),(2,o2),(3,o3),(4,o4),(5,o5),(6,o6)]
attribute [local simp] b12 h12
structure YF where
 k:Nat
 e1:Nat
 e2:Nat
 e3:Nat
 e4:Nat
 e5:Nat
 e6:Nat
structure YM where
 k:Nat
 e:Nat
 f:Nat
 m:List (Int×Int)
set_option maxHeartbeats 4000000 in
theorem kzw4(hC:∀(l:List wz3g) (e:Int),kzhy l=some e->qzq EE Tryd.prog 25 [slcV 5 wz3g.cells l] (.int .i64 e))(hB:∀(x:wz3g) (p:Int×Int),kzjb x=some p->qzq EE Tryd.prog 29 [.agg x.cells] (.tup [.int .i64 p.1,.int .i64 p.2]))(hG:∀(x:wz3g),qzq EE Tryd.prog 30 [.agg x.cells] (.bool (decide (x.Table=[]))))(a b:List wz3g) (r:Bool×Int) (hF:kzjg a b=some r):Pure EE Tryd.prog 12 [slcV 5 wz3g.cells a,slcV 5 wz3g.cells b] (.tup [.bool r.1,.int .i64 r.2]):=by
 obtain⟨e1,f1,g1,hF⟩:=kzqp hF;have sA:=hC a e1 f1;rw[qzh]at sA;rw[qzh,qzh];generalize hA:qzd wz3g.cells a=CA at *;generalize hB':qzd wz3g.cells b=CB at *;obtain⟨c,hb,hc⟩:=ck12;refine Pure.ofs (fn:=Tryd.f12) (n:=185) rfl hb cr12 (hc 0) (by simp;rfl) rfl (by simp) ?_;refine(AW.srk [0,1,4,5] [] (by simp[qz4v];exact⟨rfl,rfl⟩) (by simp;rfl) rfl rfl ?_);refine .seq (.seq (AW.r1 (by simp[wzbe];rfl) ?_));refine .block (AW.lp (fun k:Nat=>b12 (.slc 5 a.length CA) (.slc 5 b.length CB)++[(26,.vec 0 1 0 2),(27,.int .i64 2),(28,.int .i64 k)]) (fun k=>[(0,.vec 1 1 2 (fun i=>if i=0 then [.slc 5 a.length CA] else [.slc 5 b.length CB]))]) (fun k=>2-k) (fun k=>k<=2/\(1<=k->e1=0)/\(2<=k->kzhy b=some 0)) 0 ⟨by omega,fun h=>by omega,fun h=>by omega⟩ (by simp) (by simp) (by simp) ?_);rintro k ⟨hk,ha,hb2⟩;refine AW.sr (by simp[qz76];rfl) ?_;refine .seq (AW.if' (decide ((k:Int)<2)) (by simp) (fun e=>AW.skip ?_) (fun e=>.exit ?_))
 ·have hlt:k<2:=by have:=Gd7 e;omega
  obtain⟨Z,e,hZ,hZc,hZe,hZn⟩:∃Z e,(if k=0 then [.slc 5 a.length CA] else [.slc 5 b.length CB])=[Z]/\qzq EE Tryd.prog 25 [Z] (.int .i64 e)/\(e≠0->r=(false,e))/\(e=0->(1<=k+1->e1=0)/\(2<=k+1->kzhy b=some 0)):=by
   match k,hlt with
   |0,_=>exact⟨_,e1,rfl,sA,g1,fun h=>⟨fun _=>h,fun h=>by omega⟩⟩
   |1,_ =>have e0:=ha (by omega);obtain⟨e2,f2,g2,_⟩:=hF e0;have:=hC b e2 f2;rw[qzh,hB']at this;exact⟨_,e2,rfl,this,g2,fun h=>⟨fun _=>e0,fun _=>by rw[f2,h]⟩⟩
  have hin1:inr .i64 ((k:Int)+1):=by show _/\_;omega
  have hkI:(k:Int)<2:=by omega
  simp only[qzdb];refine .seq (.block (AW.sr (by simp[qz7n,hlt,hkI,hZ];rfl) ?_));refine AW.sr (by simp[qz98];refine hZc.call ?_;(try simp);rfl) ?_;refine AW.sr (by simp[qz8z];rfl) ?_;refine AW.if' (!decide (e=0)) (by simp) (fun e'=>?_) (fun e'=>AW.skip ?_)
  ·rw[hZe (by simpa using e')];refine AW.sr (by simp[qz59];rfl) ?_;exact .retp (rs:=rs12) rfl (by simp[rs12]) (by simp[rs12])
  ·simp only[qzdb,ablk];refine AW.r1 (by simp[wza6];exact⟨hin1,rfl⟩) ?_;obtain⟨q1,q2⟩:=hZn (by simpa using e');exact⟨k+1,⟨by omega,q1,q2⟩,by omega,.sp (by simp) (by simp) (by simp)⟩
 obtain rfl:k=2:=by have:=of_decide_eq_false e;omega
 have e10:=ha (by omega);have e20:=hb2 (by omega);subst e10;obtain⟨e2,f2,_,hF⟩:=hF rfl;rw[e20]at f2;cases f2;obtain⟨ta,tb,hF⟩:=hF rfl;have la:=kzkl f1;have lb:=kzkl e20;simp only[qzdb,ablk,Gd5];refine .see (.sp (m':=b12 (.slc 5 a.length CA) (.slc 5 b.length CB)) (hm':=h12 (.gone 0) (.gone 0) (.gone 0) (.gone 0) (.gone 0) (.gone 0)) (by simp) (by simp) (by simp)) ?_;refine .seq (AW.sr (by simp[qz6e];rfl) ?_);refine AW.if' (decide (a.length=0)||decide (b.length=0)) (by simp) (fun e=>?_) (fun e=>AW.skip ?_)
 ·rw[show(bif decide (a.length=0) then true else decide (b.length=0))=true by rw[<-e];cases decide (a.length=0)<;>rfl]at hF;cases hF;refine AW.sr (by simp[qz8o];rfl) ?_;exact .retp (rs:=rs12) rfl (by simp[rs12]) (by simp[rs12];omega)
 rw[show(bif decide (a.length=0) then true else decide (b.length=0))=false by rw[<-e];cases decide (a.length=0)<;>rfl]at hF;have hn:¬a.length=0/\¬b.length=0:=by simpa using e
 obtain⟨x1,q1,hF⟩:=bd_e (show bd (at? a 0) _=some r from hF);obtain⟨y1,q2,hF⟩:=bd_e hF;obtain⟨x2,q3,hF⟩:=bd_e hF;obtain⟨y2,q4,hF⟩:=bd_e hF;obtain⟨_,_,q1⟩:=qzlv q1;obtain⟨_,_,q2⟩:=qzlv q2;obtain⟨_,_,q3⟩:=qzlv q3;obtain⟨_,_,q4⟩:=qzlv q4;obtain⟨na,hna⟩:∃na,a.length=na+1:=⟨a.length-1,by omega⟩;obtain⟨nb,hnb⟩:∃nb,b.length=nb+1:=⟨b.length-1,by omega⟩;rw[hna,show(((na+1:Nat):Int)-1).toNat=na by omega]at q3;rw[hnb,show(((nb+1:Nat):Int)-1).toNat=nb by omega]at q4;have c1:CA 0=x1.cells:=by rw[<-hA];exact qzo q1
 have c2:CB 0=y1.cells:=by rw[<-hB'];exact qzo q2
 have c3:CA na=x2.cells:=by rw[<-hA];exact qzo q3
 have c4:CB nb=y2.cells:=by rw[<-hB'];exact qzo q4
 have hia:inr .i64 ((na:Int)+1-1):=by show _/\_;omega
 have hib:inr .i64 ((nb:Int)+1-1):=by show _/\_;omega
 simp only[qzdb];refine .seq (.seq (.draw ?_));simp[qzz9,hna,hnb,c1,c2,c3,c4];refine⟨fun _=>by show _/\_;omega,fun _=>by omega,fun _=>by show _/\_;omega,fun _=>by omega,by kernel_rfl,?_⟩;refine AW.if' (!decide (x1.From=y1.From)||!decide (x2.To=y2.To)) (by simp) (fun e=>?_) (fun e=>AW.skip ?_)
 ·rw[show(bif !decide (x1.From=y1.From) then true else !decide (x2.To=y2.To))=true by rw[<-e];cases decide (x1.From=y1.From)<;>rfl]at hF;cases hF;refine AW.sr (by simp[qz0c];rfl) ?_;exact .retp (rs:=rs12) rfl (by simp[rs12]) (by simp[rs12])
 rw[show(bif !decide (x1.From=y1.From) then true else !decide (x2.To=y2.To))=false by rw[<-e];cases decide (x1.From=y1.From)<;>rfl]at hF;obtain⟨rr,hY,hF⟩:=bd_e (show bd (finY a b) _=some r from hF);obtain rfl:(rr,(0:Int))=r:=Gdp hF;rw[<-hna,<-hnb];simp only[qzdb];refine .see (.sp (m':=b12 (.slc 5 a.length CA) (.slc 5 b.length CB)) (hm':=h12 (.gone 0) (.gone 0) (.gone 0) (.gone 0) (.gone 0) (.gone 0)) (by simp[hna,hnb]) (by simp) (by simp)) ?_;refine .seq (.seq (AW.r1 (by simp[kzpu];rfl) ?_));refine .block (AW.lp (fun y:YF=>b12 (.slc 5 a.length CA) (.slc 5 b.length CB)++[(77,.slc 5 b.length CB),(78,.int .i64 b.length),(79,.int .i64 y.k)]) (fun y=>h12 (.gone y.e1) (.gone y.e2) (.gone y.e3) (.gone y.e4) (.gone y.e5) (.gone y.e6)) (fun y=>b.length-y.k) (fun y=>y.k<=b.length/\finY a (b.drop y.k)=some rr) ⟨0,0,0,0,0,0,0⟩ ⟨Gdl _,hY⟩ (by simp) (by simp) (by simp) ?_);rintro⟨j,e1,e2,e3,e4,e5,e6⟩ ⟨hj,hY⟩;simp only at hj hY ⊢;refine AW.sr (by simp[kzpg];rfl) ?_;refine .seq (AW.if' (decide ((j:Int)<(b.length:Int))) (by simp) (fun e=>AW.skip ?_) (fun e=>.exit ?_));rotate_left
 ·obtain rfl:j=b.length:=by have:=of_decide_eq_false e;omega
  rw[List.drop_length]at hY;obtain rfl:=Gdp (show some true=some rr from hY);simp only[qzdb,ablk,Gd5];refine AW.sr (by simp[kzqy];rfl) ?_;exact .retp (rs:=rs12) rfl (by simp[rs12]) (by simp[rs12])
 have hlt:j<b.length:=by have:=Gd7 e;omega
 have hat:b[j]?=some b[j]:=Gbe hlt;have hcell:CB j=b[j].cells:=by rw[<-hB'];exact qzo hat
 rw[Ga4 hlt]at hY;have hty:=kzmm tb hat;generalize b[j]=y at *;obtain⟨o,hX,hY⟩:=bd_e (show bd (finX y a (tabM y.Table [])) _=some rr from hY);have hinj:inr .i64 ((j:Int)+1):=by show _/\_;omega
 have hG1:=hG y;have yc:y.cells=[.int .i64 y.From,.int .i64 y.To,.slc 2 y.Table.length (qzd wz2w.cells y.Table),.int .i64 y.Lo,.int .i64 y.Hi]:=by simp
 generalize hT:qzd wz2w.cells y.Table=CT at *;simp only[qzdb];refine .seq (.block (AW.sr (by simp[kzqu,hlt,hcell,yc,-wz3g.cells];rfl) ?_));refine AW.sr (by simp[kzpp];rfl) ?_;refine .seq (.seq (AW.r1 (by simp[kzr1];rfl) ?_));refine .block (AW.lp (fun z:YM=>b12 (.slc 5 a.length CA) (.slc 5 b.length CB)++[(77,.slc 5 b.length CB),(78,.int .i64 b.length),(79,.int .i64 j),(10,.ptr 1 (e1+1) 0),(11,.mp 2 (e2+1)),(85,.slc 2 y.Table.length CT),(86,.int .i64 y.Table.length),(87,.int .i64 z.k)]) (fun z=>h12 (.box (e1+1) [.int .i64 y.From,.int .i64 y.To,.slc 2 y.Table.length CT,.int .i64 y.Lo,.int .i64 y.Hi]) (.amap (e2+1) (mE z.m)) (.gone z.e) (.gone e4) (.gone e5) (.gone e6)) (fun z=>y.Table.length-z.k) (fun z=>z.k<=y.Table.length/\tabM (y.Table.drop z.k) z.m=tabM y.Table []) ⟨0,e3,0,[]⟩ ⟨Gdl _,rfl⟩ (by simp[mE]) (by simp[mE,hT]) (by simp) ?_);rintro⟨k,e3,f3,m⟩ ⟨hk,hM⟩;simp only at hk hM ⊢;refine AW.sr (by simp[kzrf];rfl) ?_;refine .seq (AW.if' (decide ((k:Int)<(y.Table.length:Int))) (by simp) (fun e=>AW.skip ?_) (fun e=>.exit ?_))
 ·have hlt:k<y.Table.length:=by have:=Gd7 e;omega
  have hat:y.Table[k]?=some y.Table[k]:=Gbe hlt;have hcell:CT k=y.Table[k].cells:=by rw[<-hT];exact qzo hat
  rw[Ga4 hlt]at hM;generalize y.Table[k]=z at *;have hin:inr .i64 ((k:Int)+1):=by show _/\_;omega
  simp only[qzdb];refine .seq (.block (AW.sr (by simp[kzpt,hlt,hcell];rfl) ?_));refine AW.r1 (by simp[kzqj,kzkt m];rfl) ?_;simp only[qzdb,ablk];refine AW.r1 (by simp[kzru];exact⟨hin,rfl⟩) ?_;exact⟨⟨k+1,e3+1,0,mput keqI m z.Stage z.Ticks⟩,⟨by simp only;omega,hM⟩,by simp only;omega,.sp (by simp) (by simp) (by simp)⟩
 obtain rfl:k=y.Table.length:=by have:=of_decide_eq_false e;omega
 rw[List.drop_length]at hM;rw[<-hM]at hX;have hX:finX y a m=some o:=hX;simp only[qzdb,ablk,Gd5];have hno:o=none->rr=false:=fun e=>by rw[e]at hY;exact(Gdp hY).symm
 refine .seq (.seq (AW.r1 (by simp[kzq1];rfl) ?_));refine .block (AW.lp (fun z:YM=>b12 (.slc 5 a.length CA) (.slc 5 b.length CB)++[(77,.slc 5 b.length CB),(78,.int .i64 b.length),(79,.int .i64 j),(10,.ptr 1 (e1+1) 0),(11,.mp 2 (e2+1)),(97,.slc 5 a.length CA),(98,.int .i64 a.length),(99,.int .i64 z.k)]) (fun z=>h12 (.box (e1+1) [.int .i64 y.From,.int .i64 y.To,.slc 2 y.Table.length CT,.int .i64 y.Lo,.int .i64 y.Hi]) (.amap (e2+1) (mE z.m)) (.gone e3) (.gone z.e) (.gone z.f) (.gone e6)) (fun z=>a.length-z.k) (fun z=>z.k<=a.length/\finX y (a.drop z.k) z.m=some o) ⟨0,e4,e5,m⟩ ⟨Gdl _,hX⟩ (by simp) (by simp[hT]) (by simp) ?_);rintro⟨i,e4,e5,m⟩ ⟨hi,hX⟩;simp only at hi hX ⊢;refine AW.sr (by simp[kzpl];rfl) ?_;refine .seq (AW.if' (decide ((i:Int)<(a.length:Int))) (by simp) (fun e=>AW.skip ?_) (fun e=>.exit ?_))
 ·have hlt:i<a.length:=by have:=Gd7 e;omega
  have hat:a[i]?=some a[i]:=Gbe hlt;have hcell:CA i=a[i].cells:=by rw[<-hA];exact qzo hat
  rw[Ga4 hlt]at hX;have htx:=kzmm ta hat;generalize a[i]=x at *;have hini:inr .i64 ((i:Int)+1):=by show _/\_;omega
  have xc:x.cells=[.int .i64 x.From,.int .i64 x.To,.slc 2 x.Table.length (qzd wz2w.cells x.Table),.int .i64 x.Lo,.int .i64 x.Hi]:=by simp
  have hG2:=hG x;have hB2:=hB x;generalize hU:qzd wz2w.cells x.Table=CU at *;simp only[qzdb];refine .seq (.block (AW.sr (by simp[kzqa,hlt,hcell,xc,-wz3g.cells];rfl) ?_));refine AW.sd (by simp[kzpc];exact⟨by kernel_rfl,rfl⟩) ?_;refine .seq (AW.sr (by simp[kzqq];rfl) ?_);refine AW.if' (decide (min x.To y.To<=max x.From y.From)) (by simp) (fun e=>.exit ?_) (fun e=>AW.skip ?_)
  ·have hX:finX y (a.drop (i+1)) m=some o:=by
    have hX:ite' (decide (min x.To y.To<=max x.From y.From)) (finX y (a.drop (i+1)) m) _=some o:=hX;rw[e]at hX;exact hX
   simp only[qzdb,ablk,Gd5];refine AW.r1 (by simp[kzls];exact⟨hini,rfl⟩) ?_;exact⟨⟨i+1,e4+1,e5,m⟩,⟨by simp only;omega,hX⟩,by simp only;omega,.sp (by simp) (by simp[hT]) (by simp)⟩
  obtain⟨p,hp,hX⟩:=bd_e (show bd (kzjb x) _=some o from by have hX:ite' (decide (min x.To y.To<=max x.From y.From)) (finX y (a.drop (i+1)) m) _=some o:=hX;rw[e]at hX;exact hX);have hB3:=hB2 p hp;rw[xc]at hB3;rw[yc]at hG1;rw[xc]at hG2;simp only[qzdb];refine AW.sr (by simp[kzq7];refine hB3.call ?_;(try simp);rfl) ?_;refine .block (AW.sr (by simp[kzp2];refine hG1.call ?_;(try simp);rfl) ?_);refine AW.if' (decide (y.Table=[])) (by simp) (fun e=>?_) (fun e=>?_)
  ·rw[e]at hX;refine AW.sr (by simp[kzra];rfl) ?_;refine AW.if' (decide (p.1<y.Lo)||decide (y.Hi<p.2)) (by simp) (fun e'=>?_) (fun e'=>AW.skip ?_)
   ·rw[show(bif decide (p.1<y.Lo) then true else decide (y.Hi<p.2))=true by rw[<-e'];cases decide (p.1<y.Lo)<;>rfl]at hX;rw[hno (Gdp hX).symm];refine AW.sr (by simp[kzqc];rfl) ?_;exact .retp (rs:=rs12) rfl (by simp[rs12]) (by simp[rs12])
   ·rw[show(bif decide (p.1<y.Lo) then true else decide (y.Hi<p.2))=false by rw[<-e'];cases decide (p.1<y.Lo)<;>rfl]at hX;have hX:finX y (a.drop (i+1)) m=some o:=hX;simp only[qzdb,ablk,Gd5];refine AW.r1 (by simp[kzls];exact⟨hini,rfl⟩) ?_;exact⟨⟨i+1,e4+1,e5,m⟩,⟨by simp only;omega,hX⟩,by simp only;omega,.sp (by simp) (by simp) (by simp)⟩
  rw[e]at hX;refine AW.sr (by simp[kzp3];rfl) ?_;refine AW.if' (decide (p.1=p.2)) (by simp) (fun e'=>?_) (fun e'=>?_)
  ·rw[e']at hX;obtain⟨hck,hX⟩:=ck_e (show ck _ _=some o from hX);simp only[Gai]at hck;have k1:inr .i64 (min x.To y.To-max x.From y.From):=by have:=hck.1;simp[inB]at this;exact this
   have k2:inr .i64 (Option.getD (mget keqI m p.1) 0-(min x.To y.To-max x.From y.From)):=by have:=hck.2;simp[inB]at this;exact this
   refine AW.r1 (by simp[kzpo,kzka m,kzkt m];exact⟨k1,k2,rfl⟩) ?_;simp only[qzdb,ablk,Gd5];refine AW.r1 (by simp[kzls];exact⟨hini,rfl⟩) ?_;exact⟨⟨i+1,e4+1,e5,mput keqI m p.1 (Option.getD (mget keqI m p.1) 0-(min x.To y.To-max x.From y.From))⟩,⟨by simp only;omega,hX⟩,by simp only;omega,.sp (by simp) (by simp) (by simp)⟩
  rw[e']at hX;refine .seq (.reg ?_);simp[kzp1];refine hG2.call ?_;try simp
  refine AW.if' (decide (x.Table=[])||!decide (max x.From y.From=x.From)||!decide (min x.To y.To=x.To)) (by simp) (fun e2'=>?_) (fun e2'=>?_)
  ·rw[show(bif (bif decide (x.Table=[]) then true else !decide (max x.From y.From=x.From)) then true else !decide (min x.To y.To=x.To))=true by rw[<-e2'];cases decide (x.Table=[])<;>cases decide (max x.From y.From=x.From)<;>rfl]at hX;rw[hno (Gdp hX).symm];refine AW.sr (by simp[kzr0];rfl) ?_;exact .retp (rs:=rs12) rfl (by simp[rs12]) (by simp[rs12])
  rw[show(bif (bif decide (x.Table=[]) then true else !decide (max x.From y.From=x.From)) then true else !decide (min x.To y.To=x.To))=false by rw[<-e2'];cases decide (x.Table=[])<;>cases decide (max x.From y.From=x.From)<;>rfl]at hX;obtain⟨m2,hS,hX⟩:=bd_e (show bd (subM x.Table m) _=some o from hX);refine .seq (AW.r1 (by simp[kzrq];rfl) ?_);refine .block (AW.lp (fun z:YM=>b12 (.slc 5 a.length CA) (.slc 5 b.length CB)++[(77,.slc 5 b.length CB),(78,.int .i64 b.length),(79,.int .i64 j),(10,.ptr 1 (e1+1) 0),(11,.mp 2 (e2+1)),(97,.slc 5 a.length CA),(98,.int .i64 a.length),(99,.int .i64 i),(122,.slc 2 x.Table.length CU),(123,.int .i64 x.Table.length),(124,.int .i64 z.k)]) (fun z=>h12 (.box (e1+1) [.int .i64 y.From,.int .i64 y.To,.slc 2 y.Table.length CT,.int .i64 y.Lo,.int .i64 y.Hi]) (.amap (e2+1) (mE z.m)) (.gone e3) (.gone (e4+1)) (.gone z.f) (.gone e6)) (fun z=>x.Table.length-z.k) (fun z=>z.k<=x.Table.length/\subM (x.Table.drop z.k) z.m=some m2) ⟨0,0,e5,m⟩ ⟨Gdl _,hS⟩ (by simp) (by simp) (by simp) ?_);rintro⟨k,_,e5,m⟩ ⟨hk,hS⟩;simp only at hk hS ⊢;refine AW.sr (by simp[kzrc];rfl) ?_;refine .seq (AW.if' (decide ((k:Int)<(x.Table.length:Int))) (by simp) (fun e=>AW.skip ?_) (fun e=>.exit ?_))
  ·have hlt:k<x.Table.length:=by have:=Gd7 e;omega
   have hat:x.Table[k]?=some x.Table[k]:=Gbe hlt;have hcell:CU k=x.Table[k].cells:=by rw[<-hU];exact qzo hat
   rw[Ga4 hlt]at hS;generalize x.Table[k]=z at *;obtain⟨hck,hS⟩:=ck_e (show ck _ _=some m2 from hS);have k1:inr .i64 (Option.getD (mget keqI m z.Stage) 0-z.Ticks):=by simp[inB]at hck;exact hck
   have hin:inr .i64 ((k:Int)+1):=by show _/\_;omega
   simp only[qzdb];refine .seq (.block (AW.sr (by simp[kzq5,hlt,hcell];rfl) ?_));refine AW.r1 (by simp[kzqh,kzka m,kzkt m];exact⟨k1,rfl⟩) ?_;simp only[qzdb,ablk];refine AW.r1 (by simp[kzqr];exact⟨hin,rfl⟩) ?_;exact⟨⟨k+1,0,e5+1,mput keqI m z.Stage (Option.getD (mget keqI m z.Stage) 0-z.Ticks)⟩,⟨by simp only;omega,hS⟩,by simp only;omega,.sp (by simp) (by simp) (by simp)⟩
  obtain rfl:k=x.Table.length:=by have:=of_decide_eq_false e;omega
  rw[List.drop_length]at hS;obtain rfl:=Gdp (show some m=some m2 from hS);simp only[qzdb,ablk,Gd5];refine AW.r1 (by simp[kzls];exact⟨hini,rfl⟩) ?_;exact⟨⟨i+1,e4+1,e5,m⟩,⟨by simp only;omega,hX⟩,by simp only;omega,.sp (by simp) (by simp) (by simp)⟩
 obtain rfl:i=a.length:=by have:=of_decide_eq_false e;omega
 rw[List.drop_length]at hX;obtain rfl:=Gdp (show some (some m)=some o from hX);have hY:(bif m.all (fun p=>decide (p.2=0)) then finY a (b.drop (j+1)) else some false)=some rr:=hY;have hme:(mE m).length=m.length:=Gbu ..;simp only[qzdb,ablk,Gd5];refine AW.sr (by simp[kzpd,qzi6];rfl) ?_;refine .block (AW.lp (fun z:List Nat=>b12 (.slc 5 a.length CA) (.slc 5 b.length CB)++[(77,.slc 5 b.length CB),(78,.int .i64 b.length),(79,.int .i64 j),(177,.ptr 6 (e6+1) 0)]) (fun z=>h12 (.gone (e1+1)) (.amap (e2+1) (mE m)) (.gone e3) (.gone e4) (.gone e5) (.miter (e6+1) (some (2,e2+1,(mE m).length)) z)) (fun z=>m.length-z.length) (fun z=>z.Nodup/\(∀k,k∈z->k<m.length)/\∀k p,k∈z->m[k]?=some p->p.2=0) [] ⟨.nil,(fun k h=>by cases h),(fun k p h=>by cases h)⟩ (by simp) (by simp) (by simp) ?_);rintro seen ⟨hnd,hlt2,hz⟩;refine .seq (.reg ?_);simp[kzrb,qznp];refine⟨fun k hk1 hk2=>?_,fun hall=>?_⟩
 ·have hk1:k<m.length:=by simpa [hme] using hk1
  have hat:m[k]?=some m[k]:=Gbe hk1;have hmk:(mE m)[k]?=some (.int .i64 m[k].1,.int .i64 m[k].2):=by unfold mE;rw[Gbh,hat];rfl
  have hmk2:∀h:k<(mE m).length,(mE m)[k]=(.int .i64 m[k].1,.int .i64 m[k].2):=fun h=>(Gbg.1 hmk).2;generalize m[k]=p at *;have hnot:(seen++[k]).Nodup:=by rw[List.nodup_append];exact⟨hnd,by simp,fun x hx y hy=>by simp at hy;subst hy;intro e;subst e;exact hk2 hx⟩
  have hlt':∀j,j∈seen++[k]->j<m.length:=by
   intro j hj;rcases Gb2.1 hj with h|h
   ·exact hlt2 j h
   ·simp at h;omega
  have hle:=wz6u _ _ hnot hlt';refine .seq (AW.if' true rfl (fun _=>AW.skip ?_) (fun e=>by cases e));simp only[qzdb];refine .block (AW.sr (by simp[kzpk,qzgb,hme,hk1,hmk2];rfl) ?_);refine AW.sr (by simp[kzph];rfl) ?_;refine AW.if' (!decide (p.2=0)) (by simp) (fun e=>?_) (fun e=>AW.skip ?_)
  ·have:m.all (fun p=>decide (p.2=0))=false:=by
    cases hh:m.all (fun p=>decide (p.2=0))
    ·rfl
    ·have:=Ga0.1 hh p (Gb9 hat);rw[this]at e;cases e
   rw[this]at hY;obtain rfl:=Gdp (show some false=some rr from hY);refine AW.sr (by simp[kzrx];rfl) ?_;exact .retp (rs:=rs12) rfl (by simp[rs12]) (by simp[rs12])
  ·simp only[qzdb,ablk];refine⟨seen++[k],⟨hnot,hlt',fun q pa pb hq hp'=>?_⟩,by simp at hle ⊢;omega,.sp (by simp) (by simp[hme]) (by simp)⟩;rcases Gb2.1 hq with h|h
   ·exact hz q (pa,pb) h hp'
   ·rw[Gcc]at h;subst h;rw[hat]at hp';cases hp';simpa using e
 ·refine .seq (AW.if' false rfl (fun e=>by cases e) (fun _=>.exit ?_));have:m.all (fun p=>decide (p.2=0))=true:=Ga0.2 fun p hp=>by obtain⟨q,hq⟩:=Gb6.1 hp;exact Gdy (hz q p (hall q (by have:=(Gbg.1 hq).1;omega)) hq)
  rw[this]at hY;have hY:finY a (b.drop (j+1))=some rr:=hY;simp only[qzdb,ablk,Gd5];refine AW.r1 (by simp[kzq0];exact⟨hinj,rfl⟩) ?_;exact⟨⟨j+1,e1+1,e2+1,e3,e4,e5,e6+1⟩,⟨by simp only;omega,hY⟩,by simp only;omega,.sp (by simp) (by simp) (by simp)⟩
theorem kzqi(H30:FcOk k30)(x:wz3g):qzq EE Tryd.prog 30 [.agg x.cells] (.bool (decide (x.Table=[]))):=by
 have e:kzit x=some (decide (x.Table=[])):=by unfold kzit;congr 1;exact decide_eq_decide.2 ⟨fun h=>Gbt.1 (by omega),fun h=>by rw[h];rfl⟩
 exact H30.still (x:=x) (y:=decide (x.Table=[])) e (by kernel_rfl)
theorem kzbl(H25:FcOk k25)(H29:FcOk k29)(H30:FcOk k30):FcOk k12:=by
 refine⟨by kernel_rfl,fun x y e=>?_⟩;have H:Pure EE Tryd.prog 12 [slcV 5 wz3g.cells x.1,slcV 5 wz3g.cells x.2] (.tup [.bool y.1,.int .i64 y.2]):=kzw4 (kzmp H25) (fun w p h=>H29.still (x:=w) (y:=p) h (by kernel_rfl)) (kzqi H30) x.1 x.2 y e
 exact(Pure.still H hEE (fun z hz=>by
  rcases Gb3.1 hz with rfl|hz
  ·exact kziq
  ·rw[Gcc.1 hz];exact kziq) (.tup _ fun z hz=>by
  rcases Gb3.1 hz with rfl|hz
  ·exact .bool _
  ·rw[Gcc.1 hz];exact .int _ _)).cast (by kernel_rfl)
end
end Go.Am

