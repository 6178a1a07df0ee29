/- Part A6: an abstract machine proved sound over the calculus of the guide. No condition. -/
import Derived.Test.YtbidhbeoimpjbaaGreatDoorX1
set_option linter.unusedSimpArgs false
set_option linter.unusedVariables false
namespace Go.Am
theorem MA{α:Type}{ep st:Nat}{c:α->List Aa}:∀{l:List α},(ownO ep st c l).ep=ep
 |[]=>rfl
 |_ :: _=>rfl
theorem ue{α:Type}{ep st:Nat}{c:α->List Aa}{l r:List α}(h:r.length=l.length):(ownO ep st c r).owned=(ownO ep st c l).owned:=by cases l<;>cases r<;>first|rfl|(simp at h)
theorem OR.own{α:Type}{g gx:Gh}{w:World}{id id0 ep st:Nat}{c:α->List Aa}(d7:∀b,g.fz b->gx.fz b)(hc:∀x y,y∈c x->AF y)(h1:gx.blk id0=g.blk id) (h2:gx.bo id0=g.bo id) (h3:gx.st id0=g.st id) (h4:gx.cp id0=g.cp id):∀{l:List α},OR g w id (ownO ep st c l)->OR gx w id0 (ownO ep st c l)
 |[],_=>trivial
 |x :: l,h=>by obtain⟨a1,a2,a3,arr,ty,a4,a5,a6⟩:=h;refine⟨by rw[h3];exact a1,a2,by rw[h4];exact a3,arr,ty,by rw[h1];exact a4,by rw[h2,h4];exact a5,fun k hk=>?_⟩;obtain⟨b1,b2⟩:=a6 k hk;refine⟨b1,fun j y v hy hv=>?_⟩;rw[h2]at hv;obtain⟨c1,c2⟩:=b2 j y v hy hv;refine⟨c1,c2.reghost d7 ?_⟩;have hm:=Dx hy;have e:Ay c (x :: l) k=c ((x :: l)[k]'(by simpa using hk)):=D4 (AD _);rw[e]at hm;exact hc _ _ hm
theorem uf{α:Type}{g gx:Gh}{w:World}{id id0 ep:Nat}{v:Value}(h0:gx.ep id0=g.ep id)(h1:gx.blk id0=g.blk id) (h2:gx.bo id0=g.bo id) (h3:gx.st id0=g.st id) (h4:gx.cp id0=g.cp id):∀{l:List α},RV g w (ownV id ep l) v->RV gx w (ownV id0 ep l) v
 |[],h=>by cases h;exact .nils
 |x :: l,h=>by
  have h:RV g w (.vec id ep 0 (l.length+1)) v:=h;show RV gx w (.vec id0 ep 0 (l.length+1)) v;cases h with
  |vec _ _ _ _ _ a1 a2 a3 =>refine .vec _ _ _ _ _ a1 (by rw[h0];exact a2) fun e=>?_;obtain⟨a,cap,b1,b2,b3⟩:=a3 (by rw[<-h0];exact e);exact⟨a,cap,b1,b2,by rw[h1,h2,h3,h4];exact b3⟩
theorem ATr.ownF{α:Type}{E:Nat->Aa}{P:Program}{f:FuncId}{args:List Aa}{id0 id ep st:Nat}{c:α->List Aa}{l r:List α}(hE:∀i,AF (E i)) (ha:∀x,x∈args->AF x) (hc:∀x y,y∈c x->AF y)(H:ATr E P f (ownV id0 ep l :: args) (fun i=>if i=id0 then ownO ep st c l else .gone 0) (fun v h'=>v=.tup []/\h' id0=ownO ep st c r/\r.length=l.length))(h:Ax) (hid:h id=ownO ep st c l):ATr E P f (ownV id ep l :: args) h (fun v h'=>v=.tup []/\h'=hset h id (ownO ep st c r)/\r.length=l.length):=by
 intro g w vs hh hv
 let hs:Ax:=fun i=>if i=id0 then ownO ep st c l else .gone 0
 let g0:Gh:=⟨fun i=>if i=id0 then g.blk id else 0,fun i=>if i=id0 then g.ep id else 0,fun i=>if i=id0 then g.bo id else 0,fun i=>if i=id0 then g.st id else 0,fun i=>if i=id0 then g.cp id else 0,g.fz⟩
 have bX:g.ep id=ep:=by rw[hh.ep id,hid,MA]
 have q1:g0.blk id0=g.blk id:=Ap rfl;have q2:g0.ep id0=g.ep id:=Ap rfl;have q3:g0.bo id0=g.bo id:=Ap rfl;have q4:g0.st id0=g.st id:=Ap rfl;have q5:g0.cp id0=g.cp id:=Ap rfl
 have own0:∀i,(hs i).owned=true->i=id0:=fun i hi=>by
  by_cases e:i=id0
  ·exact e
  ·have:hs i=.gone 0:=Aj e;rw[this]at hi;cases hi
 have cw:hs id0=ownO ep st c l:=Ap rfl
 have H0:HR E g0 hs w:=by
  refine⟨fun i=>?_,fun i=>?_,fun i j hi hj _=>(own0 i hi).trans (own0 j hj).symm,fun i hi=>?_,hh.fzb,fun i=>(hh.glob i).reghost (g:=g) (gx:=g0) (fun _ h=>h) (hE i)⟩
  ·by_cases e:i=id0;·subst e;rw[cw];have:=hh.obj id;rw[hid]at this;exact this.own (g:=g) (gx:=g0) (fun _ h=>h) hc q1 q3 q4 q5
   ·rw[show hs i=.gone 0 from Aj e];trivial
  ·by_cases e:i=id0;·subst e;rw[cw,MA,q2,bX]
   ·rw[show hs i=.gone 0 from Aj e];exact Aj e
  ·obtain rfl:=own0 i hi;rw[cw]at hi;rw[q1];exact hh.sep id (by rw[hid];exact hi)
 have qD:RVs g0 w (ownV id0 ep l :: args) vs:=by
  refine⟨hv.1,fun i x v hx hy=>?_⟩;cases i with
  |zero =>simp at hx;subst hx;exact uf q2 q1 q3 q4 q5 (hv.2 0 _ v rfl hy)
  |succ i=>exact(hv.2 (i+1) x v hx hy).reghost (g:=g) (gx:=g0) (fun _ h=>h) (ha x (Dx (by simpa using hx)))
 refine(H g0 w vs H0 qD).mono ?_;rintro e w' ⟨g',h',_,v,⟨rfl,hF,hl⟩,rfl,bV,hH,st'⟩;have e1:g'.ep id0=g0.ep id0:=by rw[hH.ep id0,hF,MA,q2,bX]
 obtain⟨k1,k2,k3,k4⟩:=st'.le.same id0 e1;rw[q1]at k1;rw[q3]at k2;rw[q4]at k3;rw[q5]at k4;have ow:(ownO ep st c r).owned=(ownO ep st c l).owned:=ue hl;have cx:∀b,b<w.heap.size->((h id).owned=true->g.blk id≠b)->w'.heap[b]?=w.heap[b]?:=fun b hb hn=>st'.keep b hb fun i hi=>by obtain rfl:=own0 i hi;rw[q1];refine hn ?_;rw[hid,<-cw];exact hi
 let g2:Gh:=⟨g.blk,g.ep,g.bo,g.st,g.cp,g'.fz⟩
 have aE:GLe g w g2 w':=⟨fun b hb=>st'.le.fz b hb,fun _=>AB _,fun _ _=>⟨rfl,rfl,rfl,rfl⟩⟩;have hset_id:hset h id (ownO ep st c r) id=ownO ep st c r:=Ap rfl;have hset_no:∀i,i≠id->hset h id (ownO ep st c r) i=h i:=fun i hi=>Aj hi
 have owh:∀i,(hset h id (ownO ep st c r) i).owned=true->(h i).owned=true:=fun i hi=>by
  by_cases e:i=id
  ·subst e;rw[hset_id,ow]at hi;rw[hid];exact hi
  ·rw[hset_no i e]at hi;exact hi
 have fzc:∀b,g'.fz b->g.fz b\/((h id).owned=true/\g.blk id=b)\/w.heap.size<=b:=fun b hb=>by
  rcases st'.fzn b hb with a|⟨j,hj,ej⟩|a
  ·exact .inl a
  ·obtain rfl:=own0 j hj;rw[q1]at ej;exact .inr (.inl ⟨by rw[hid,<-cw];exact hj,ej⟩)
  ·exact .inr (.inr a)
 refine⟨g2,hset h id (ownO ep st c r),_,v,⟨rfl,rfl,hl⟩,rfl,bV.reghost (g:=g') (gx:=g2) (fun _ h=>h) (.tup [] fun x hx=>by cases hx),?_,⟨aE,st'.os,st'.tape,st'.output,st'.size,fun b hb hn=>cx b hb (hn id),fun i ho=>.inl ⟨i,owh i ho,rfl⟩,fun b hb=>?_,st'.drawn⟩⟩
 ·refine⟨fun i=>?_,fun i=>?_,fun i j hi hj hb=>hh.inj i j (owh i hi) (owh j hj) hb,fun i hi hf=>?_,hH.fzb,fun i=>(hh.glob i).mono aE⟩
  ·by_cases e:i=id;·subst e;rw[hset_id];have:=hH.obj id0;rw[hF]at this;exact this.own (g:=g') (gx:=g2) (fun _ h=>h) hc k1.symm k2.symm k3.symm k4.symm
   ·rw[hset_no i e];exact(hh.obj i).mono aE rfl fun ho=>cx _ ((hh.obj i).lt ho) fun hi eb=>e (hh.inj i id ho hi eb.symm)
  ·by_cases e:i=id;·subst e;rw[hset_id,MA];exact bX
   ·rw[hset_no i e];exact hh.ep i
  ·by_cases e:i=id;·subst e;rw[hset_id]at hi;refine hH.sep id0 (by rw[hF];exact hi) ?_;rw[k1];exact hf
   ·rw[hset_no i e]at hi;rcases fzc _ hf with a|⟨a,b⟩|a
    ·exact hh.sep i hi a
    ·exact e (hh.inj i id hi a b.symm)
    ·have:g.blk i<w.heap.size:=(hh.obj i).lt hi;have:g2.blk i=g.blk i:=rfl;omega
 ·rcases fzc b hb with a|⟨a,q⟩|a;·exact .inl a
  ·exact .inr (.inl ⟨id,a,q⟩)
  ·exact .inr (.inr a)
theorem ATr.anyQ{E:Nat->Aa}{P:Program}{f:FuncId}{args:List Aa}{r:Aa}{Q:Prop}(H:ATr E P f args h0 (fun v _=>v=r/\Q))(hE:∀i,AF (E i))(ha:∀x,x∈args->AF x)(hr:AF r)(h:Ax) :
  ATr E P f args h (fun v h'=>v=r/\h'=h/\Q):=by
 by_cases q:Q
 ·exact(Pure.any (H.mono fun _ _ k=>k.1) hE ha hr h).mono fun _ _ k=>⟨k.1,k.2,q⟩
 ·intro g w vs hh hv
  let g0:Gh:=⟨fun _=>0,fun _=>0,fun _=>0,fun _=>0,fun _=>0,g.fz⟩
  have H0:HR E g0 h0 w:=⟨fun _=>trivial,fun _=>rfl,(by intro i j hi;cases hi),(by intro i hi;cases hi),hh.fzb,fun i=>(hh.glob i).reghost (g:=g) (gx:=g0) (fun _ h=>h) (hE i)⟩;refine(H g0 w vs H0 ⟨hv.1,fun i x v hx hy=>(hv.2 i x v hx hy).reghost (g:=g) (gx:=g0) (fun _ h=>h) (ha x (Dx hx))⟩).mono ?_;rintro e w' ⟨g',h',_,v,⟨_,k⟩,_⟩;exact absurd k q
end Go.Am

