/- Part I2: insertion into a slice. No condition. -/
import Derived.Test.YtiaclogojhfmfaaGreatDoorI1
import Derived.Test.YtiaclogojhfmfaaGreatDoorF2
set_option linter.unusedSimpArgs false
set_option linter.unusedVariables false
namespace Go.Am
open Go.Proofs Go.Shelf Go.RowKit Go.Lib
theorem Gi(w:World)(dT sT ty elem:TypeId)(b o dLen dCap:Nat)(a:Addr)(sLen sCap:Nat)(cs:List Value)(z m:Nat)(hm:m=Nat.min sLen dLen)(hu:Tryz.prog.underlying dT=some (.slice elem)) (hs:(Tryz.prog.info? elem).map (·.size)=some z) (hn:cs.length=m*z)(aX:∀j v,cs[j]?=some v->w.cell? (a.add j)=some v) (hc:∀j,j<cs.length->(w.cell? ⟨b,o+j,none⟩).isSome=true) (hf:∀j,j<cs.length->w.frozen? ⟨b,o+j,none⟩=false) (h1:∀v∈cs,v.oneCell'=true) : (Builtin.copy_ #[dT,sT] ty #[.slice (some ⟨b,o,none⟩) dLen dCap,.slice (some a) sLen sCap]).run Tryz.prog w=.ok (goInt (m:Nat)) (w.setCells b o cs):=by
 have hl:=run_loadCells_list (P:=Tryz.prog) w a cs aX;have aH:=run_storeCells_cells (P:=Tryz.prog) b o cs 0 w (by simpa using hc) (by simpa using hf) h1;subst hm;cases hq:Tryz.prog.info? elem with
 |none=>simp[hq]at hs
 |some i =>
  have hi:i.size=z:=by simpa [hq] using hs
  simp[Builtin.copy_,run_underlying hu,Builtin.lenOf,Builtin.firstCells,sizeOf,typeInfo,hq,hi,<-hn,hl,aH]
set_option maxHeartbeats 4000000 in
set_option maxRecDepth 100000 in
theorem jzr3(b off n c vb voff vc:Nat)(vs:List Value)(w:World)(aP:n+1<=c)(cm:c<=9223372036854775807)(cg:vs.length=1*6) (cX:∀j,j<1*6->(w.cell? ⟨b,off+n*6+j,none⟩).isSome=true) (cY:∀j,j<1*6->w.frozen? ⟨b,off+n*6+j,none⟩=false)(bW:∀j v,vs[j]?=some v->w.cell? ⟨vb,voff+j,none⟩=some v) (bN:∀v∈vs,v.oneCell'=true) :
  Calls Tryz.prog 48 #[.slice (some ⟨b,off,none⟩) n c,.int .i64 n,.slice (some ⟨vb,voff,none⟩) 1 vc] w fun e w' =>
   e=.returned (.slice (some ⟨b,off,none⟩) (n+1) c)/\w'=w.setCells b (off+n*6) vs:=by
 have t22:=Tryz.underlying22;have u22:=run_underlying Tryz.underlying22;have a22:=Tryz.isAgg22;have z22:=Tryz.sizeOf22;have v22:=Tryz.zeroValue22;have t4:=Tryz.underlying4;have u4:=run_underlying Tryz.underlying4;have a4:=Tryz.isAgg4;have z4:=Tryz.sizeOf4;have v4:=Tryz.zeroValue4;have t3:=Tryz.underlying3;have u3:=run_underlying Tryz.underlying3;have a3:=Tryz.isAgg3;have z3:=Tryz.sizeOf3;have v3:=Tryz.zeroValue3;have t25:=Tryz.underlying25;have u25:=run_underlying Tryz.underlying25;have a25:=Tryz.isAgg25;have z25:=Tryz.sizeOf25;have v25:=Tryz.zeroValue25;have mixed:Tryz.prog.follows .mixedOrders=true:=by kernel_rfl
 obtain⟨i0,cw,cK,bh,du⟩:=info_parts (show(Tryz.prog.info? 25).map (fun i=>(i.zero,i.size,i.bytes))=some (some (.agg #[.int .i64 0,.int .i64 0,.int .i64 0,.int .i64 0,.int .i64 0,.int .i64 0]),6,48) by kernel_rfl);have aX:_root_.Go.Src Tryz.prog i0.size 22 (.slice (some ⟨vb,voff,none⟩) 1 vc) 1 vs w:=by rw[bh];exact _root_.Go.Src.ofSlice w Tryz.underlying22 ⟨vb,voff,none⟩ 1 vc vs (by omega) (fun j u hj=>by rw[Addr.add_lit];exact bW j u hj) bN
 have aG:∀ty,(Builtin.append_ #[22,22] ty #[.slice (some ⟨b,off,none⟩) n c,.slice (some ⟨vb,voff,none⟩) 1 vc]).run Tryz.prog w=_:=fun ty =>
  run_append_room_src (w:=w) 22 22 ty 25 i0 Tryz.underlying22 cw b off n c _ 1 vs aX aP (by rw[bh,cg];exact cX) (by rw[bh,cg];exact cY)
 rw[bh]at aG
 go_enter Tryz.func48,Tryz.ntmps48
 go_wp2_with (at_builtin;refine Lib.wpList_append_run _ rfl _ _ _ _ rfl _ _ rfl rfl _ _ (aG _) ?_)
 go_ret
 exact⟨rfl,rfl⟩
set_option maxHeartbeats 4000000 in
set_option maxRecDepth 100000 in
theorem jzr0(base:Option Addr)(n c vb voff vc:Nat)(cs vs:List Value)(w:World)(fB:n<=c)(aP:c<n+1)(dD:(n+1)*48<=140737488355328)(bp:cs.length=n*6) (cg:vs.length=1*6) (bC:base=none->n=0)(aS:∀a,base=some a->∀j v,cs[j]?=some v->w.cell? (a.add j)=some v)(bW:∀j v,vs[j]?=some v->w.cell? ⟨vb,voff+j,none⟩=some v) (bN:∀v∈vs,v.oneCell'=true) :
  Calls Tryz.prog 48 #[.slice base n c,.int .i64 n,.slice (some ⟨vb,voff,none⟩) 1 vc] w fun e w' =>
   e=.returned (.slice (some ⟨w.heap.size,0,none⟩) (n+1) (grownCap w (n+1) c 25)) /\
   w'=w.drew.alloc (.cells ((cs++vs).toArray++Builtin.zeroCells (.agg #[.int .i64 0,.int .i64 0,.int .i64 0,.int .i64 0,.int .i64 0,.int .i64 0]:Value).cells (grownCap w (n+1) c 25-(n+1))) 25):=by
 have t22:=Tryz.underlying22;have u22:=run_underlying Tryz.underlying22;have a22:=Tryz.isAgg22;have z22:=Tryz.sizeOf22;have v22:=Tryz.zeroValue22;have t4:=Tryz.underlying4;have u4:=run_underlying Tryz.underlying4;have a4:=Tryz.isAgg4;have z4:=Tryz.sizeOf4;have v4:=Tryz.zeroValue4;have t3:=Tryz.underlying3;have u3:=run_underlying Tryz.underlying3;have a3:=Tryz.isAgg3;have z3:=Tryz.sizeOf3;have v3:=Tryz.zeroValue3;have t25:=Tryz.underlying25;have u25:=run_underlying Tryz.underlying25;have a25:=Tryz.isAgg25;have z25:=Tryz.sizeOf25;have v25:=Tryz.zeroValue25;have mixed:Tryz.prog.follows .mixedOrders=true:=by kernel_rfl
 obtain⟨i0,cw,cK,bh,du⟩:=info_parts (show(Tryz.prog.info? 25).map (fun i=>(i.zero,i.size,i.bytes))=some (some (.agg #[.int .i64 0,.int .i64 0,.int .i64 0,.int .i64 0,.int .i64 0,.int .i64 0]),6,48) by kernel_rfl);have aX:_root_.Go.Src Tryz.prog i0.size 22 (.slice (some ⟨vb,voff,none⟩) 1 vc) 1 vs w:=by rw[bh];exact _root_.Go.Src.ofSlice w Tryz.underlying22 ⟨vb,voff,none⟩ 1 vc vs (by omega) (fun j u hj=>by rw[Addr.add_lit];exact bW j u hj) bN
 have aO:(Builtin.firstCells i0.size n (.slice base n c)).run Tryz.prog w.drew=.ok cs.toArray w.drew:=by
  rw[bh];cases base with
  |none =>have h0:=bC rfl;subst h0;have bV:cs=[]:=Lf.1 (by omega);rw[bV];exact run_firstCells_none w.drew 6 0 0 c
  |some a=>exact run_firstCells_some w.drew 6 n a n c cs (by omega) (fun j v hj=>aS a rfl j v hj)
 have aG:∀ty,(Builtin.append_ #[22,22] ty #[.slice base n c,.slice (some ⟨vb,voff,none⟩) 1 vc]).run Tryz.prog w=_:=fun ty =>
  run_append_grow_src (w:=w) 22 22 ty 25 i0 _ Tryz.underlying22 cw cK base n c cs aO _ 1 vs aX aP (by omega) (by rw[du];exact growslice_fits aP dD)
 go_enter Tryz.func48,Tryz.ntmps48
 cases base with
 |none =>
  have h0:=bC rfl;subst h0
  go_wp2_with (at_builtin;refine Lib.wpList_append_run _ rfl _ _ _ _ rfl _ _ rfl rfl _ _ (aG _) ?_)
  go_ret
  exact⟨rfl,rfl⟩
 |some a =>
  obtain⟨ab,ao,asp⟩:=a
  go_wp2_with (at_builtin;refine Lib.wpList_append_run _ rfl _ _ _ _ rfl _ _ rfl rfl _ _ (aG _) ?_)
  all_goals (go_ret;exact⟨rfl,rfl⟩)
set_option maxHeartbeats 4000000 in
set_option maxRecDepth 100000 in
theorem jzst(b off n c i vb voff vc:Nat)(cs vs:List Value)(w:World)(hi:i<n)(aP:n+1<=c)(cm:c<=9223372036854775807)(ig:vb≠b)(bp:cs.length=n*6) (cg:vs.length=1*6)(aS:∀j v,cs[j]?=some v->w.cell? ⟨b,off+j,none⟩=some v) (cX:∀j,j<(n+1)*6->(w.cell? ⟨b,off+j,none⟩).isSome=true) (cY:∀j,j<(n+1)*6->w.frozen? ⟨b,off+j,none⟩=false)(bW:∀j v,vs[j]?=some v->w.cell? ⟨vb,voff+j,none⟩=some v) (bO:∀v∈cs,v.oneCell'=true) (bN:∀v∈vs,v.oneCell'=true)(tA tB:TypeId) (kA kB:Nat) (eU:w.shape? vb=some (tA,kA)) (lF:w.shape? b=some (tB,kB)) (lG:kB≠0) (gL:w.frozen? ⟨vb,voff,none⟩=false) (lH:w.frozen? ⟨vb,kA,none⟩=false) :
  Calls Tryz.prog 48 #[.slice (some ⟨b,off,none⟩) n c,.int .i64 i,.slice (some ⟨vb,voff,none⟩) 1 vc] w fun e w' =>
   e=.returned (.slice (some ⟨b,off,none⟩) (n+1) c)/\w'=(w.drew.setCells b (off+(i+1)*6) (cs.drop (i*6))).setCells b (off+i*6) vs:=by
 have t22:=Tryz.underlying22;have u22:=run_underlying Tryz.underlying22;have a22:=Tryz.isAgg22;have z22:=Tryz.sizeOf22;have v22:=Tryz.zeroValue22;have t4:=Tryz.underlying4;have u4:=run_underlying Tryz.underlying4;have a4:=Tryz.isAgg4;have z4:=Tryz.sizeOf4;have v4:=Tryz.zeroValue4;have t3:=Tryz.underlying3;have u3:=run_underlying Tryz.underlying3;have a3:=Tryz.isAgg3;have z3:=Tryz.sizeOf3;have v3:=Tryz.zeroValue3;have t25:=Tryz.underlying25;have u25:=run_underlying Tryz.underlying25;have a25:=Tryz.isAgg25;have z25:=Tryz.sizeOf25;have v25:=Tryz.zeroValue25;have mixed:Tryz.prog.follows .mixedOrders=true:=by kernel_rfl
 obtain⟨i0,cw,cK,bh,du⟩:=info_parts (show(Tryz.prog.info? 25).map (fun i=>(i.zero,i.size,i.bytes))=some (some (.agg #[.int .i64 0,.int .i64 0,.int .i64 0,.int .i64 0,.int .i64 0,.int .i64 0]),6,48) by kernel_rfl);have gy:¬((i:Int)=(n:Int)):=by omega
 have lI:∀lb cb,(callFunc 81 #[.slice (some ⟨vb,voff,none⟩) 1 vc,.slice (some ⟨b,off+(i+1)*6,none⟩) lb cb]).run Tryz.prog w=.ok (.value (.bool false)) w:=fun lb cb=>by
  rw[run_callFunc_extern Tryz.func81 (by kernel_rfl) (by kernel_rfl) (by kernel_rfl) (e:=Extern.SlicesOverlaps.overlaps #[22,22] #[4]) (by kernel_rfl),
   Lib.run_overlaps_apart w 22 4 25 Tryz.underlying22 6 z25 ⟨vb,voff,none⟩ ⟨b,off+(i+1)*6,none⟩ 1 vc lb cb ig tA tB kA kB eU lF lG gL lH]
  rfl
 have dR:(cs.drop (i*6)).length=(n-i)*6:=by rw[CQ,bp];omega
 have aJ:(Tryz.prog.info? 25).map (·.size)=some 6:=by rw[cw];simp[bh]
 have lJ:IntKind.i64.wrap ((i:Int)+(1:Int))=(i:Int)+(1:Int):=by rw[IntKind.wrap_i64];omega
 have dr:(0:Int)<=(i:Int)+(1:Int):=by omega
 have aQ:i<=n:=by omega
 have lK:((i:Int)+(1:Int)).toNat=i+1:=by omega
 have dq:¬(c=i+1):=by omega
 have d9:(i:Int)<=(n:Int)+(1:Int):=by omega
 have oH:¬(c=i):=by omega
 have fC:∀ty dc sc,(Builtin.copy_ #[22,22] ty #[.slice (some ⟨b,off+(i+1)*6,none⟩) (n-i) dc,.slice (some ⟨b,off+i*6,none⟩) (n+1-i) sc]).run Tryz.prog w.drew=.ok (goInt (n-i:Nat)) (w.drew.setCells b (off+(i+1)*6) (cs.drop (i*6))):=fun ty dc sc =>
  Gi w.drew _ _ ty 25 b (off+(i+1)*6) (n-i) dc ⟨b,off+i*6,none⟩ (n+1-i) sc (cs.drop (i*6)) 6 (n-i) (by simp only[Nat.min_def];split<;>omega) Tryz.underlying22 aJ dR (fun j v hj=>by rw[Addr.add_lit,Di];exact aS (i*6+j) v (by rwa [Ec]at hj)) (fun j hj=>by rw[Di];exact cX _ (by omega)) (fun j hj=>by rw[Di];exact cY _ (by omega)) (fun v hv=>bO v (NW hv))
 obtain⟨W1,cx⟩:∃W1,W1=w.drew.setCells b (off+(i+1)*6) (cs.drop (i*6)):=⟨_,rfl⟩;have ii:∀k,k<(n+1)*6->(W1.cell? ⟨b,off+k,none⟩).isSome=true:=fun k hk=>by rw[cx];exact isSome_setCells b _ _ _ (fun j hj=>by rw[Di];exact cX _ (by omega)) _ (cX k hk)
 have ij:∀(W:World),(∀x,W.cell? x=W1.cell? x)->(∀x,W.frozen? x=W1.frozen? x)->∀ty dc,(Builtin.copy_ #[22,22] ty #[.slice (some ⟨b,off+i*6,none⟩) (n+1-i) dc,.slice (some ⟨vb,voff,none⟩) 1 vc]).run Tryz.prog W=.ok (goInt (1:Nat)) (W.setCells b (off+i*6) vs):=fun W dE fD ty dc =>
  Gi W _ _ ty 25 b (off+i*6) (n+1-i) dc ⟨vb,voff,none⟩ 1 vc vs 6 1 (by simp only[Nat.min_def];split<;>omega) Tryz.underlying22 aJ cg (fun j v hj=>by rw[Addr.add_lit,dE,cx,World.cell?_setCells_out b _ _ _ _ (fun h _=>absurd h ig)];exact bW j v hj) (fun j hj=>by rw[dE,Di];exact ii _ (by omega)) (fun j hj=>by rw[fD,cx,World.frozen?_setCells,Di];exact cY _ (by omega)) bN
 rw[<-cx]at fC
 go_enter Tryz.func48,Tryz.ntmps48
 go_wp2_with (simp only[lI])
 go_region_law_o (refine step_copy_runI rfl _ _ 22 22 rfl _ _ (by simp[Act.eval,Act.put]) (by simp[Act.eval,Act.put]) (fC _ _ _) ?_)
 go_wp2_with (at_builtin;refine wpList_copy_runI _ rfl _ _ 22 22 rfl _ _ rfl rfl (ij _ (fun _=>rfl) (fun _=>rfl) _ _) ?_)
 go_ret
 first|exact⟨rfl,rfl⟩|exact⟨rfl,by rw[cx]⟩
set_option maxHeartbeats 4000000 in
set_option maxRecDepth 100000 in
theorem jzs2(b off n c i vb voff vc:Nat)(cs vs:List Value)(w:World)(hi:i<n)(fB:n<=c)(aP:c<n+1)(dD:(n+1)*48<=140737488355328)(bp:cs.length=n*6) (cg:vs.length=1*6)(aS:∀j v,cs[j]?=some v->w.cell? ⟨b,off+j,none⟩=some v)(bW:∀j v,vs[j]?=some v->w.cell? ⟨vb,voff+j,none⟩=some v) (bO:∀v∈cs,v.oneCell'=true) (bN:∀v∈vs,v.oneCell'=true) :
  Calls Tryz.prog 48 #[.slice (some ⟨b,off,none⟩) n c,.int .i64 i,.slice (some ⟨vb,voff,none⟩) 1 vc] w fun e w' =>
   ∃(G:Nat) (ROW:Array Value),n+1<=G/\G<=9223372036854775807/\(n+1)*6<=ROW.size/\ROW.size=G*6/\(∀j,j<i*6->ROW[j]?=cs[j]?)/\e=.returned (.slice (some ⟨w.heap.size,0,none⟩) (n+1) G) /\
   w'=(((w.alloc (.cells ROW 25)).drew.setCells w.heap.size (i*6) vs).drew).setCells w.heap.size ((i+1)*6) (cs.drop (i*6)):=by
 have t22:=Tryz.underlying22;have u22:=run_underlying Tryz.underlying22;have a22:=Tryz.isAgg22;have z22:=Tryz.sizeOf22;have v22:=Tryz.zeroValue22;have t4:=Tryz.underlying4;have u4:=run_underlying Tryz.underlying4;have a4:=Tryz.isAgg4;have z4:=Tryz.sizeOf4;have v4:=Tryz.zeroValue4;have t3:=Tryz.underlying3;have u3:=run_underlying Tryz.underlying3;have a3:=Tryz.isAgg3;have z3:=Tryz.sizeOf3;have v3:=Tryz.zeroValue3;have t25:=Tryz.underlying25;have u25:=run_underlying Tryz.underlying25;have a25:=Tryz.isAgg25;have z25:=Tryz.sizeOf25;have v25:=Tryz.zeroValue25;have mixed:Tryz.prog.follows .mixedOrders=true:=by kernel_rfl
 obtain⟨i0,cw,cK,bh,du⟩:=info_parts (show(Tryz.prog.info? 25).map (fun i=>(i.zero,i.size,i.bytes))=some (some (.agg #[.int .i64 0,.int .i64 0,.int .i64 0,.int .i64 0,.int .i64 0,.int .i64 0]),6,48) by kernel_rfl);have gy:¬((i:Int)=(n:Int)):=by omega
 have oI:(c:Int)<(n:Int)+(1:Int):=by omega
 have aJ:(Tryz.prog.info? 25).map (·.size)=some 6:=by rw[cw];simp[bh]
 have lL:b<w.heap.size:=block_lt_of_cell (aS 0 _ (AD (by omega)));have lM:vb<w.heap.size:=block_lt_of_cell (bW 0 _ (AD (by omega)));have fA:(n:Int)+(1:Int)-(i:Int)=((n+1-i:Nat):Int):=by omega
 have dO:i+(n+1-i)=n+1:=by omega
 have il:(cs.take (i*6)).length=i*6:=by rw[Do];omega
 have aO:(Builtin.firstCells i0.size i (.slice (some ⟨b,off,none⟩) i c)).run Tryz.prog w.drew=.ok (cs.take (i*6)).toArray w.drew:=by
  rw[bh]
  exact run_firstCells_some w.drew 6 i ⟨b,off,none⟩ i c (cs.take (i*6)) (by omega) (fun j v hj=>by
   rw[Addr.add_lit];rw[Fo]at hj;split at hj
   ·exact aS j v hj
   ·cases hj)
 have gf:∀ty,(Builtin.append_ #[22,3] ty #[.slice (some ⟨b,off,none⟩) i c,.int .i64 ((n:Int)+(1:Int)-(i:Int))]).run Tryz.prog w =
   .ok (.slice (some ⟨w.heap.size,0,none⟩) (n+1) (grownCap w (n+1) c 25)) (w.drew.alloc (.cells ((cs.take (i*6)).toArray++Builtin.zeroCells (.agg #[.int .i64 0,.int .i64 0,.int .i64 0,.int .i64 0,.int .i64 0,.int .i64 0]:Value).cells (n+1-i)++Builtin.zeroCells (.agg #[.int .i64 0,.int .i64 0,.int .i64 0,.int .i64 0,.int .i64 0,.int .i64 0]:Value).cells (grownCap w (n+1) c 25-(n+1))) 25)):=fun ty=>by
  have h:=Lib.run_append_grow_zeros (P:=Tryz.prog) w 22 3 ty 25 i0 _ .i64 .i64 Tryz.underlying22 Tryz.underlying3 cw cK (some ⟨b,off,none⟩) i c (cs.take (i*6)) aO (n+1-i) (by omega) (by omega) (by omega) (by omega) (by rw[du];omega) (by rw[du,dO];exact growslice_fits aP dD);rw[dO]at h;rw[fA];exact h
 obtain⟨G,hG⟩:∃G,G=grownCap w (n+1) c 25:=⟨_,rfl⟩;obtain⟨ROW,dv⟩:∃ROW:Array Value,ROW=(cs.take (i*6)).toArray++Builtin.zeroCells (.agg #[.int .i64 0,.int .i64 0,.int .i64 0,.int .i64 0,.int .i64 0,.int .i64 0]:Value).cells (n+1-i)++Builtin.zeroCells (.agg #[.int .i64 0,.int .i64 0,.int .i64 0,.int .i64 0,.int .i64 0,.int .i64 0]:Value).cells (G-(n+1)):=⟨_,rfl⟩;rw[<-hG]at gf;rw[<-dv]at gf;have lN:n+1<=G:=by rw[hG];exact grownCap_ge w _ _ _
 have cM:∀k,(Builtin.zeroCells (.agg #[.int .i64 0,.int .i64 0,.int .i64 0,.int .i64 0,.int .i64 0,.int .i64 0]:Value).cells k).size=k*6:=fun k=>by simp[Builtin.zeroCells,Value.cells]
 have lO:ROW.size=G*6:=by rw[dv,HI,HI,cM,cM,FO,il];omega
 have kv:(n+1)*6<=ROW.size:=by omega
 have lP:∀j,j<i*6->ROW[j]?=cs[j]?:=fun j hj=>by rw[dv,Jt (by rw[HI,FO,il];omega),Jt (by rw[FO,il];omega),GI,Fo,An hj]
 obtain⟨W1,cx⟩:∃W1,W1=w.drew.alloc (.cells ROW 25):=⟨_,rfl⟩;rw[<-cx]at gf;have hN:∀j,j<(n+1)*6->(W1.cell? ⟨w.heap.size,j,none⟩).isSome=true:=fun j hj=>by rw[cx,World.cell?_alloc_at (w:=w.drew) ROW _ w.heap.size j rfl,DE (by omega)];rfl
 have jC:∀j,W1.frozen? ⟨w.heap.size,j,none⟩=false:=fun j=>by rw[cx];exact World.frozen?_alloc_at (w:=w.drew) ROW _ w.heap.size j rfl
 have lQ:∀j v,w.cell? ⟨b,j,none⟩=some v->W1.cell? ⟨b,j,none⟩=some v:=fun j v h=>by rw[cx,World.cell?_alloc_past (w:=w.drew) _ b j lL];exact h
 have lR:∀j v,w.cell? ⟨vb,j,none⟩=some v->W1.cell? ⟨vb,j,none⟩=some v:=fun j v h=>by rw[cx,World.cell?_alloc_past (w:=w.drew) _ vb j lM];exact h
 have im:∀(W:World),(∀x,W.cell? x=W1.cell? x)->(∀x,W.frozen? x=W1.frozen? x)->∀ty dc,(Builtin.copy_ #[22,22] ty #[.slice (some ⟨w.heap.size,i*6,none⟩) (n+1-i) dc,.slice (some ⟨vb,voff,none⟩) 1 vc]).run Tryz.prog W=.ok (goInt (1:Nat)) (W.setCells w.heap.size (i*6) vs):=fun W dE fD ty dc =>
  Gi W _ _ ty 25 w.heap.size (i*6) (n+1-i) dc ⟨vb,voff,none⟩ 1 vc vs 6 1 (by simp only[Nat.min_def];split<;>omega) Tryz.underlying22 aJ cg (fun j v hj=>by rw[Addr.add_lit,dE];exact lR _ v (bW j v hj)) (fun j hj=>by rw[dE];exact hN _ (by omega)) (fun j hj=>by rw[fD];exact jC _) bN
 have io:G<=9223372036854775807:=by have:=grownCap_le_maxLen w (n+1) c 25 (by unfold maxLen;omega);rw[<-hG]at this;unfold maxLen at this;omega
 have oJ:¬(G=i):=by omega
 have lS:¬(G=i+1):=by omega
 have jg:¬(c=i):=by omega
 have lT:b≠w.heap.size:=by omega
 have dR:(cs.drop (i*6)).length=(n-i)*6:=by rw[CQ,bp];omega
 have fE:∀(W:World),(∀x,W.cell? x=(W1.setCells w.heap.size (i*6) vs).cell? x)->(∀x,W.frozen? x=(W1.setCells w.heap.size (i*6) vs).frozen? x)->∀ty dc sc,(Builtin.copy_ #[22,22] ty #[.slice (some ⟨w.heap.size,(i+1)*6,none⟩) (n-i) dc,.slice (some ⟨b,off+i*6,none⟩) (n-i) sc]).run Tryz.prog W=.ok (goInt (n-i:Nat)) (W.setCells w.heap.size ((i+1)*6) (cs.drop (i*6))):=fun W dE fD ty dc sc =>
  Gi W _ _ ty 25 w.heap.size ((i+1)*6) (n-i) dc ⟨b,off+i*6,none⟩ (n-i) sc (cs.drop (i*6)) 6 (n-i) (by simp only[Nat.min_def];split<;>omega) Tryz.underlying22 aJ dR (fun j v hj=>by rw[Addr.add_lit,dE,World.cell?_setCells_out _ _ _ _ _ (fun h _=>absurd h lT),Di];exact lQ _ v (aS (i*6+j) v (by rwa [Ec]at hj))) (fun j hj=>by rw[dE];exact isSome_setCells _ _ _ _ (fun t ht=>hN _ (by omega)) _ (hN _ (by omega))) (fun j hj=>by rw[fD,World.frozen?_setCells];exact jC _) (fun v hv=>bO v (NW hv))
 subst cx;have lU:∀x,((w.alloc (.cells ROW 25)).drew).cell? x=(w.drew.alloc (.cells ROW 25)).cell? x:=fun x=>rfl;have lV:∀x,((w.alloc (.cells ROW 25)).drew).frozen? x=(w.drew.alloc (.cells ROW 25)).frozen? x:=fun x=>rfl;have lW:∀x,(((w.alloc (.cells ROW 25)).drew.setCells w.heap.size (i*6) vs).drew).cell? x=((w.drew.alloc (.cells ROW 25)).setCells w.heap.size (i*6) vs).cell? x:=fun x=>rfl;have lX:∀x,(((w.alloc (.cells ROW 25)).drew.setCells w.heap.size (i*6) vs).drew).frozen? x=((w.drew.alloc (.cells ROW 25)).setCells w.heap.size (i*6) vs).frozen? x:=fun x=>rfl;have lJ:IntKind.i64.wrap ((i:Int)+(1:Int))=(i:Int)+(1:Int):=by rw[IntKind.wrap_i64];omega
 have dr:(0:Int)<=(i:Int)+(1:Int):=by omega
 have aQ:i<=n:=by omega
 have lK:((i:Int)+(1:Int)).toNat=i+1:=by omega
 have d9:(i:Int)<=(n:Int):=by omega
 clear fA dO aO dv hG
 go_enter Tryz.func48,Tryz.ntmps48
 go_wp2_with (first
  |(at_builtin;refine Lib.wpList_append_run _ rfl _ _ _ _ rfl _ _ rfl rfl _ _ (gf _) ?_)
  |(at_builtin;refine wpList_copy_runI _ rfl _ _ 22 22 rfl _ _ rfl rfl (im _ lU lV _ _) ?_)
  | (at_builtin;refine wpList_copy_runI _ rfl _ _ 22 22 rfl _ _ rfl rfl (fE _ (fun _=>rfl) (fun _=>rfl) _ _ _) ?_))
 go_region_law_o (refine step_copy_runI rfl _ _ 22 22 rfl (.slice (some ⟨w.heap.size,(i+1)*6,none⟩) (n-i) (G-(i+1))) (.slice (some ⟨b,off+i*6,none⟩) (n-i) (c-i)) (by simp[Act.eval,Act.put]) (by simp[Act.eval,Act.put]) (fE _ lW lX 3 (G-(i+1)) (c-i)) ?_)
 go_wp2
 go_ret
 exact⟨G,ROW,lN,io,kv,lO,lP,rfl,rfl⟩
theorem jzu7{s0:Nat}{w:World}{base:Option Addr}{n c i vb:Nat}{cs vs:List Value}{tv:TypeId}(bP:s0<=w.heap.size)(hm:Mne 6 s0 w base n c cs)(hi:i<=n)(hn:n<=100000)(hv:w.heap[vb]?=some (.cells vs.toArray tv (0,0)))(cg:vs.length=6)(bN:∀v∈vs,v.oneCell'=true)
  (aI:∀b,base=some ⟨b,0,none⟩->b≠vb):Calls Tryz.prog 48 #[.slice base n c,.int .i64 i,.slice (some ⟨vb,0,none⟩) 1 1] w fun e w' =>
   ∃base' c',e=.returned (.slice base' (n+1) c')/\Mne 6 s0 w' base' (n+1) c' (cs.take (i*6)++vs++cs.drop (i*6))/\Pst s0 w w':=by
 obtain⟨fB,cm,bp,bO,hl⟩:=hm;have ig:=(CP.1 hv).1;have bW:∀(j:Nat) (v:Value),vs[j]?=some v->w.cell? ⟨vb,0+j,none⟩=some v:=fun j v h=>by rw[Ce,(Bo hv j).1,GI];exact h
 have dQ:(cs.take (i*6)++vs++cs.drop (i*6)).length=(n+1)*6:=by rw[Ch,Ch,Do,CQ,bp,cg];omega
 have gg:∀v∈cs.take (i*6)++vs++cs.drop (i*6),v.oneCell'=true:=fun v h=>by
  rcases BJ.1 h with h|h
  ·rcases BJ.1 h with h|h;·exact bO v (List.mem_of_mem_take h)
   ·exact bN v h
  ·exact bO v (NW h)
 have bQ:=VA (i:=i) (z:=6) (cs:=cs) (vs:=vs) (by omega) cg;by_cases aQ:i=n
 ·subst aQ;have lY:cs.drop (i*6)=[]:=Tc.2 (by omega);have jz:cs.take (i*6)=cs:=J6 (by omega);by_cases hr:i+1<=c
  ·rcases hl with ⟨_,_,h0⟩|⟨b,arr,ty,rfl,hb,hh,gB,hc⟩;·omega
   have aI:=aI b rfl;refine(jzr3 b 0 i c vb 0 1 vs w hr cm (by omega) (fun j hj=>by rw[(Bo hh _).1,DE (by omega)];rfl) (fun j hj=>(Bo hh _).2.1) bW bN).mono ?_;rintro e w' ⟨rfl,rfl⟩;obtain⟨arr',e1,e2,e3,e4⟩:=DS vs (0+i*6) w arr hh (by omega);refine⟨_,_,rfl,⟨hr,cm,dQ,gg,.inr ⟨b,arr',ty,rfl,hb,e1,by omega,fun j v hj=>?_⟩⟩,Pst.setCells hb hh (by omega)⟩;rw[bQ]at hj;rw[e3];by_cases c1:j<i*6
   ·rw[An c1]at hj;rw[Aj (by omega)];exact hc j v hj
   ·rw[Aj c1]at hj;by_cases c2:j<(i+1)*6
    ·rw[An c2]at hj;rw[An (by omega),Ce];exact hj
    ·rw[Aj c2]at hj;have:=(AL.1 hj).1;omega
  ·have ip:c<i+1:=by omega
   refine(jzr0 base i c vb 0 1 cs vs w fB ip (by omega) bp (by omega) (fun e=>by
    rcases hl with ⟨_,h,_⟩|⟨b,arr,ty,h,_⟩
    ·exact h
    ·rw[h]at e;cases e) (fun a ha j v hj=>by
    rcases hl with ⟨h,_⟩|⟨b,arr,ty,h,hb,hh,gB,hc⟩
    ·rw[h]at ha;cases ha
    ·rw[h]at ha;cases ha;rw[show(⟨b,0,none⟩:Addr).add j=⟨b,j,none⟩ by rw[Addr.add_lit,Ce],(Bo hh j).1];exact hc j v hj) bW bN).mono ?_
   rintro e w' ⟨rfl,rfl⟩;have hG:=grownCap_ge w (i+1) c 25;have hz:(Builtin.zeroCells (.agg #[.int .i64 0,.int .i64 0,.int .i64 0,.int .i64 0,.int .i64 0,.int .i64 0]:Value).cells (grownCap w (i+1) c 25-(i+1))).size=(grownCap w (i+1) c 25-(i+1))*6:=by simp[Builtin.zeroCells,Value.cells]
   have iq:=grownCap_le_maxLen w (i+1) c 25 (by unfold maxLen;omega);unfold maxLen at iq;refine⟨_,_,rfl,⟨hG,by omega,dQ,gg,.inr ⟨w.heap.size,_,_,rfl,bP,Da w.drew _,?_,fun j v hj=>?_⟩⟩,(Pst.drew w).trans (Pst.alloc (w:=w.drew) bP _)⟩
   ·rw[HI,hz,FO,Ch];omega
   ·rw[lY,jz,List.append_nil]at hj;have:=(AL.1 hj).1;rw[Jt (by rw[FO];exact this),GI];exact hj
 ·have hlt:i<n:=by omega
  rcases hl with ⟨_,h0,_⟩|⟨b,arr,ty,rfl,hb,hh,gB,hc⟩
  ·omega
  have aI:=aI b rfl;have aS:∀(j:Nat) (v:Value),cs[j]?=some v->w.cell? ⟨b,0+j,none⟩=some v:=fun j v h=>by rw[Ce,(Bo hh j).1];exact hc j v h
  by_cases hr:n+1<=c
  ·refine(jzst b 0 n c i vb 0 1 cs vs w hlt hr cm (Ne.symm aI) bp (by omega) aS (fun j hj=>by rw[(Bo hh _).1,DE (by omega)];rfl) (fun j hj=>(Bo hh _).2.1) bW bO bN _ _ _ _ (Bo hv 0).2.2 (Bo hh 0).2.2 (by omega) (Bo hv 0).2.1 (Bo hv _).2.1).mono ?_;rintro e w' ⟨rfl,rfl⟩;have dR:(cs.drop (i*6)).length=(n-i)*6:=by rw[CQ,bp];omega
   obtain⟨arr',e1,e2,e3,e4⟩:=DS (cs.drop (i*6)) (0+(i+1)*6) w.drew arr hh (by omega);obtain⟨arr2,f1,f2,f3,f4⟩:=DS vs (0+i*6) _ arr' e1 (by omega);refine⟨_,_,rfl,⟨hr,cm,dQ,gg,.inr ⟨b,arr2,ty,rfl,hb,f1,by omega,fun j v hj=>?_⟩⟩,((Pst.drew w).trans (Pst.setCells hb hh (by omega))).trans (Pst.setCells hb e1 (by omega))⟩;rw[bQ]at hj;rw[f3,e3];by_cases c1:j<i*6
   ·rw[An c1]at hj;rw[Aj (by omega),Aj (by omega)];exact hc j v hj
   ·rw[Aj c1]at hj;by_cases c2:j<(i+1)*6
    ·rw[An c2]at hj;rw[An (by omega),Ce];exact hj
    ·rw[Aj c2]at hj;have:=(AL.1 hj).1;rw[Aj (by omega),An (by omega),Ec,show i*6+(j-(0+(i+1)*6))=j-6 by omega];exact hj
  ·refine(jzs2 b 0 n c i vb 0 1 cs vs w hlt fB (by omega) (by omega) bp (by omega) aS bW bO bN).mono ?_;rintro e w' ⟨G,ROW,g1,g63,g2,g3,g4,rfl,rfl⟩;have dR:(cs.drop (i*6)).length=(n-i)*6:=by rw[CQ,bp];omega
   have hR:(w.alloc (.cells ROW 25)).drew.heap[w.heap.size]?=some (.cells ROW 25 (0,0)):=Da w _;obtain⟨arr',e1,e2,e3,e4⟩:=DS vs (i*6) (w.alloc (.cells ROW 25)).drew ROW hR (by omega);have e1':(((w.alloc (.cells ROW 25)).drew.setCells w.heap.size (i*6) vs).drew).heap[w.heap.size]?=some (.cells arr' 25 (0,0)):=e1;obtain⟨arr2,f1,f2,f3,f4⟩:=DS (cs.drop (i*6)) ((i+1)*6) _ arr' e1' (by omega);refine⟨_,_,rfl,⟨g1,g63,dQ,gg,.inr ⟨w.heap.size,arr2,_,rfl,bP,f1,by omega,fun j v hj=>?_⟩⟩,((((Pst.alloc bP _).trans (Pst.drew _)).trans (Pst.setCells bP hR (by omega))).trans (Pst.drew _)).trans (Pst.setCells bP e1' (by omega))⟩;rw[bQ]at hj;rw[f3,e3];by_cases c1:j<i*6
   ·rw[An c1]at hj;rw[Aj (by omega),Aj (by omega),g4 j c1];exact hj
   ·rw[Aj c1]at hj;by_cases c2:j<(i+1)*6
    ·rw[An c2]at hj;rw[Aj (by omega),An (by omega)];exact hj
    ·rw[Aj c2]at hj;have:=(AL.1 hj).1;rw[An (by omega),Ec,show i*6+(j-(i+1)*6)=j-6 by omega];exact hj
set_option maxHeartbeats 4000000 in
set_option maxRecDepth 100000 in
theorem jzvb{s0:Nat}{w:World}{base:Option Addr}{n c:Nat}{cs:List Value}(bP:s0<=w.heap.size)(bp:cs.length=n*6)(bC:base=none->n=0)(aS:∀a,base=some a->∀(j:Nat) (v:Value),cs[j]?=some v->w.cell? (a.add j)=some v)(bO:∀v∈cs,v.oneCell'=true) (hn:n<=100000):Calls Tryz.prog 49 #[.slice base n c] w fun e w'=>∃base' c',e=.returned (.slice base' n c')/\Mne 6 s0 w' base' n c' cs/\Pst s0 w w':=by
 have t22:=Tryz.underlying22;have u22:=run_underlying Tryz.underlying22;have a22:=Tryz.isAgg22;have z22:=Tryz.sizeOf22;have v22:=Tryz.zeroValue22;have t4:=Tryz.underlying4;have u4:=run_underlying Tryz.underlying4;have a4:=Tryz.isAgg4;have z4:=Tryz.sizeOf4;have v4:=Tryz.zeroValue4;have t3:=Tryz.underlying3;have u3:=run_underlying Tryz.underlying3;have a3:=Tryz.isAgg3;have z3:=Tryz.sizeOf3;have v3:=Tryz.zeroValue3;have t25:=Tryz.underlying25;have u25:=run_underlying Tryz.underlying25;have a25:=Tryz.isAgg25;have z25:=Tryz.sizeOf25;have v25:=Tryz.zeroValue25;have mixed:Tryz.prog.follows .mixedOrders=true:=by kernel_rfl
 obtain⟨i0,cw,cK,bh,du⟩:=info_parts (show(Tryz.prog.info? 25).map (fun i=>(i.zero,i.size,i.bytes))=some (some (.agg #[.int .i64 0,.int .i64 0,.int .i64 0,.int .i64 0,.int .i64 0,.int .i64 0]),6,48) by kernel_rfl);have e22:=fun w a n c n' c'=>Lib.run_eql_slice_nil (P:=Tryz.prog) w 22 25 a n c n' c' Tryz.underlying22;cases base with
 |none =>
  obtain rfl:=bC rfl
  go_enter Tryz.func49,Tryz.ntmps49
  go_wp2_with (simp only[e22])
  go_ret
  exact⟨none,0,rfl,⟨AC _,by omega,bp,bO,.inl ⟨rfl,rfl,rfl⟩⟩,Pst.refl _ _⟩
 |some a =>
  have aS:=aS a rfl;have aX:∀W:World,(∀j,j<cs.length->W.cell? (a.add j)=w.cell? (a.add j))->_root_.Go.Src Tryz.prog i0.size 22 (.slice (some a) n c) n cs W:=fun W hW=>by rw[bh];exact _root_.Go.Src.ofSlice W Tryz.underlying22 a n c cs bp (fun j u hj=>by rw[hW j (AL.1 hj).1];exact aS j u hj) bO
  obtain⟨ab,ao,asp⟩:=a;by_cases h0:n=0
  ·subst h0;obtain rfl:cs=[]:=Lf.1 (by omega)
   have aG:∀ty,(Builtin.append_ #[22,22] ty #[.slice (some ⟨w.heap.size,0,none⟩) 0 0,.slice (some ⟨ab,ao,asp⟩) 0 c]).run Tryz.prog (w.alloc (.cells #[] 25))=_:=fun ty =>
    run_append_nothing (w.alloc (.cells #[] 25)) 22 22 ty 25 i0 Tryz.underlying22 cw _ 0 0 (AC _) _ (aX _ fun j hj=>by simp at hj)
   go_enter Tryz.func49,Tryz.ntmps49
   go_wp2_with (first
    |simp only[e22]
    | (at_builtin;refine Lib.wpList_append_run _ rfl _ _ _ _ rfl _ _ rfl rfl _ _ (aG _) ?_))
   go_ret
   exact⟨_,_,rfl,⟨AC _,by omega,bp,bO,.inr ⟨w.heap.size,#[],25,rfl,bP,Da w _,rfl,fun j v hj=>by simp at hj⟩⟩,Pst.alloc bP _⟩
  ·have eC:ab<w.heap.size:=by
    have h1:=aS 0 _ (AD (by omega));rw[show(⟨ab,ao,asp⟩:Addr).add 0=⟨ab,ao,asp⟩ by simp[Addr.add]]at h1;exact block_lt_of_cell h1
   have aG:∀ty,(Builtin.append_ #[22,22] ty #[.slice (some ⟨w.heap.size,0,none⟩) 0 0,.slice (some ⟨ab,ao,asp⟩) n c]).run Tryz.prog (w.alloc (.cells #[] 25))=_:=fun ty =>
    run_append_grow_src (w:=w.alloc (.cells #[] 25)) 22 22 ty 25 i0 _ Tryz.underlying22 cw cK (some ⟨w.heap.size,0,none⟩) 0 0 [] (run_firstCells_some _ i0.size 0 _ 0 0 [] (by simp) (fun j v hj=>by simp at hj)) _ n cs (aX _ fun j hj=>by refine World.cell?_alloc_lt _ _ _ ?_;show((⟨ab,ao,asp⟩:Addr).add j).block<_;unfold Addr.add;split<;>exact eC) (by omega) (by omega) (by rw[du];exact growslice_fits (by omega) (by omega))
   go_enter Tryz.func49,Tryz.ntmps49
   go_wp2_with (first
    |simp only[e22]
    | (at_builtin;refine Lib.wpList_append_run _ rfl _ _ _ _ rfl _ _ rfl rfl _ _ (aG _) ?_))
   go_ret
   have hG:=grownCap_ge (w.alloc (.cells #[] 25)) n 0 25;have iq:=grownCap_le_maxLen (w.alloc (.cells #[] 25)) n 0 25 (by unfold maxLen;omega);unfold maxLen at iq;have cN:(w.alloc (.cells #[] 25)).heap.size=w.heap.size+1:=World.size_alloc _ _
   have hh:∀o,((w.alloc (.cells #[] 25)).drew.alloc o).heap[w.heap.size+1]?=some o:=fun o=>by
    have:=Da (w.alloc (.cells #[] 25)).drew o
    rwa [show(w.alloc (.cells #[] 25)).drew.heap.size=w.heap.size+1 from cN]at this
   refine⟨_,_,rfl,⟨hG,by omega,bp,bO,.inr ⟨w.heap.size+1,_,_,rfl,by omega,hh _,?_,fun j v hj=>?_⟩⟩,((Pst.alloc bP _).trans (Pst.drew _)).trans (Pst.alloc (w:=(w.alloc (.cells #[] 25)).drew) (by show s0<=(w.alloc (.cells #[] 25)).heap.size;omega) _)⟩
   ·simp only[HI,FO,Lt,bp];simp[Builtin.zeroCells,Value.cells];omega
   ·have:=(AL.1 hj).1;rw[Jt (by simpa using this)];simpa using hj
set_option maxHeartbeats 4000000 in
set_option maxRecDepth 100000 in
theorem jzr2(b off n c vb voff vc:Nat)(vs:List Value)(w:World)(aP:n+1<=c)(cm:c<=9223372036854775807)(cg:vs.length=1*8) (cX:∀j,j<1*8->(w.cell? ⟨b,off+n*8+j,none⟩).isSome=true) (cY:∀j,j<1*8->w.frozen? ⟨b,off+n*8+j,none⟩=false)(bW:∀j v,vs[j]?=some v->w.cell? ⟨vb,voff+j,none⟩=some v) (bN:∀v∈vs,v.oneCell'=true) :
  Calls Tryz.prog 77 #[.slice (some ⟨b,off,none⟩) n c,.int .i64 n,.slice (some ⟨vb,voff,none⟩) 1 vc] w fun e w' =>
   e=.returned (.slice (some ⟨b,off,none⟩) (n+1) c)/\w'=w.setCells b (off+n*8) vs:=by
 have t47:=Tryz.underlying47;have u47:=run_underlying Tryz.underlying47;have a47:=Tryz.isAgg47;have z47:=Tryz.sizeOf47;have v47:=Tryz.zeroValue47;have t4:=Tryz.underlying4;have u4:=run_underlying Tryz.underlying4;have a4:=Tryz.isAgg4;have z4:=Tryz.sizeOf4;have v4:=Tryz.zeroValue4;have t3:=Tryz.underlying3;have u3:=run_underlying Tryz.underlying3;have a3:=Tryz.isAgg3;have z3:=Tryz.sizeOf3;have v3:=Tryz.zeroValue3;have t70:=Tryz.underlying70;have u70:=run_underlying Tryz.underlying70;have a70:=Tryz.isAgg70;have z70:=Tryz.sizeOf70;have v70:=Tryz.zeroValue70;have mixed:Tryz.prog.follows .mixedOrders=true:=by kernel_rfl
 obtain⟨i0,cw,cK,bh,du⟩:=info_parts (show(Tryz.prog.info? 70).map (fun i=>(i.zero,i.size,i.bytes))=some (some (.agg #[.int .i64 0,.int .i64 0,.int .i64 0,.int .i64 0,.int .i64 0,.int .i64 0,.int .i64 0,.slice none 0 0]),8,80) by kernel_rfl);have aX:_root_.Go.Src Tryz.prog i0.size 47 (.slice (some ⟨vb,voff,none⟩) 1 vc) 1 vs w:=by rw[bh];exact _root_.Go.Src.ofSlice w Tryz.underlying47 ⟨vb,voff,none⟩ 1 vc vs (by omega) (fun j u hj=>by rw[Addr.add_lit];exact bW j u hj) bN
 have aG:∀ty,(Builtin.append_ #[47,47] ty #[.slice (some ⟨b,off,none⟩) n c,.slice (some ⟨vb,voff,none⟩) 1 vc]).run Tryz.prog w=_:=fun ty =>
  run_append_room_src (w:=w) 47 47 ty 70 i0 Tryz.underlying47 cw b off n c _ 1 vs aX aP (by rw[bh,cg];exact cX) (by rw[bh,cg];exact cY)
 rw[bh]at aG
 go_enter Tryz.func77,Tryz.ntmps77
 go_wp2_with (at_builtin;refine Lib.wpList_append_run _ rfl _ _ _ _ rfl _ _ rfl rfl _ _ (aG _) ?_)
 go_ret
 exact⟨rfl,rfl⟩
set_option maxHeartbeats 4000000 in
set_option maxRecDepth 100000 in
theorem jzr1(base:Option Addr)(n c vb voff vc:Nat)(cs vs:List Value)(w:World)(fB:n<=c)(aP:c<n+1)(dD:(n+1)*80<=140737488355328)(bp:cs.length=n*8) (cg:vs.length=1*8) (bC:base=none->n=0)(aS:∀a,base=some a->∀j v,cs[j]?=some v->w.cell? (a.add j)=some v)(bW:∀j v,vs[j]?=some v->w.cell? ⟨vb,voff+j,none⟩=some v) (bN:∀v∈vs,v.oneCell'=true) :
  Calls Tryz.prog 77 #[.slice base n c,.int .i64 n,.slice (some ⟨vb,voff,none⟩) 1 vc] w fun e w' =>
   e=.returned (.slice (some ⟨w.heap.size,0,none⟩) (n+1) (grownCap w (n+1) c 70)) /\
   w'=w.drew.alloc (.cells ((cs++vs).toArray++Builtin.zeroCells (.agg #[.int .i64 0,.int .i64 0,.int .i64 0,.int .i64 0,.int .i64 0,.int .i64 0,.int .i64 0,.slice none 0 0]:Value).cells (grownCap w (n+1) c 70-(n+1))) 70):=by
 have t47:=Tryz.underlying47;have u47:=run_underlying Tryz.underlying47;have a47:=Tryz.isAgg47;have z47:=Tryz.sizeOf47;have v47:=Tryz.zeroValue47;have t4:=Tryz.underlying4;have u4:=run_underlying Tryz.underlying4;have a4:=Tryz.isAgg4;have z4:=Tryz.sizeOf4;have v4:=Tryz.zeroValue4;have t3:=Tryz.underlying3;have u3:=run_underlying Tryz.underlying3;have a3:=Tryz.isAgg3;have z3:=Tryz.sizeOf3;have v3:=Tryz.zeroValue3;have t70:=Tryz.underlying70;have u70:=run_underlying Tryz.underlying70;have a70:=Tryz.isAgg70;have z70:=Tryz.sizeOf70;have v70:=Tryz.zeroValue70;have mixed:Tryz.prog.follows .mixedOrders=true:=by kernel_rfl
 obtain⟨i0,cw,cK,bh,du⟩:=info_parts (show(Tryz.prog.info? 70).map (fun i=>(i.zero,i.size,i.bytes))=some (some (.agg #[.int .i64 0,.int .i64 0,.int .i64 0,.int .i64 0,.int .i64 0,.int .i64 0,.int .i64 0,.slice none 0 0]),8,80) by kernel_rfl);have aX:_root_.Go.Src Tryz.prog i0.size 47 (.slice (some ⟨vb,voff,none⟩) 1 vc) 1 vs w:=by rw[bh];exact _root_.Go.Src.ofSlice w Tryz.underlying47 ⟨vb,voff,none⟩ 1 vc vs (by omega) (fun j u hj=>by rw[Addr.add_lit];exact bW j u hj) bN
 have aO:(Builtin.firstCells i0.size n (.slice base n c)).run Tryz.prog w.drew=.ok cs.toArray w.drew:=by
  rw[bh];cases base with
  |none =>have h0:=bC rfl;subst h0;have bV:cs=[]:=Lf.1 (by omega);rw[bV];exact run_firstCells_none w.drew 8 0 0 c
  |some a=>exact run_firstCells_some w.drew 8 n a n c cs (by omega) (fun j v hj=>aS a rfl j v hj)
 have aG:∀ty,(Builtin.append_ #[47,47] ty #[.slice base n c,.slice (some ⟨vb,voff,none⟩) 1 vc]).run Tryz.prog w=_:=fun ty =>
  run_append_grow_src (w:=w) 47 47 ty 70 i0 _ Tryz.underlying47 cw cK base n c cs aO _ 1 vs aX aP (by omega) (by rw[du];exact growslice_fits aP dD)
 go_enter Tryz.func77,Tryz.ntmps77
 cases base with
 |none =>
  have h0:=bC rfl;subst h0
  go_wp2_with (at_builtin;refine Lib.wpList_append_run _ rfl _ _ _ _ rfl _ _ rfl rfl _ _ (aG _) ?_)
  go_ret
  exact⟨rfl,rfl⟩
 |some a =>
  obtain⟨ab,ao,asp⟩:=a
  go_wp2_with (at_builtin;refine Lib.wpList_append_run _ rfl _ _ _ _ rfl _ _ rfl rfl _ _ (aG _) ?_)
  all_goals (go_ret;exact⟨rfl,rfl⟩)
set_option maxHeartbeats 4000000 in
set_option maxRecDepth 100000 in
theorem jzso(b off n c i vb voff vc:Nat)(cs vs:List Value)(w:World)(hi:i<n)(aP:n+1<=c)(cm:c<=9223372036854775807)(ig:vb≠b)(bp:cs.length=n*8) (cg:vs.length=1*8)(aS:∀j v,cs[j]?=some v->w.cell? ⟨b,off+j,none⟩=some v) (cX:∀j,j<(n+1)*8->(w.cell? ⟨b,off+j,none⟩).isSome=true) (cY:∀j,j<(n+1)*8->w.frozen? ⟨b,off+j,none⟩=false)(bW:∀j v,vs[j]?=some v->w.cell? ⟨vb,voff+j,none⟩=some v) (bO:∀v∈cs,v.oneCell'=true) (bN:∀v∈vs,v.oneCell'=true)(tA tB:TypeId) (kA kB:Nat) (eU:w.shape? vb=some (tA,kA)) (lF:w.shape? b=some (tB,kB)) (lG:kB≠0) (gL:w.frozen? ⟨vb,voff,none⟩=false) (lH:w.frozen? ⟨vb,kA,none⟩=false) :
  Calls Tryz.prog 77 #[.slice (some ⟨b,off,none⟩) n c,.int .i64 i,.slice (some ⟨vb,voff,none⟩) 1 vc] w fun e w' =>
   e=.returned (.slice (some ⟨b,off,none⟩) (n+1) c)/\w'=(w.drew.setCells b (off+(i+1)*8) (cs.drop (i*8))).setCells b (off+i*8) vs:=by
 have t47:=Tryz.underlying47;have u47:=run_underlying Tryz.underlying47;have a47:=Tryz.isAgg47;have z47:=Tryz.sizeOf47;have v47:=Tryz.zeroValue47;have t4:=Tryz.underlying4;have u4:=run_underlying Tryz.underlying4;have a4:=Tryz.isAgg4;have z4:=Tryz.sizeOf4;have v4:=Tryz.zeroValue4;have t3:=Tryz.underlying3;have u3:=run_underlying Tryz.underlying3;have a3:=Tryz.isAgg3;have z3:=Tryz.sizeOf3;have v3:=Tryz.zeroValue3;have t70:=Tryz.underlying70;have u70:=run_underlying Tryz.underlying70;have a70:=Tryz.isAgg70;have z70:=Tryz.sizeOf70;have v70:=Tryz.zeroValue70;have mixed:Tryz.prog.follows .mixedOrders=true:=by kernel_rfl
 obtain⟨i0,cw,cK,bh,du⟩:=info_parts (show(Tryz.prog.info? 70).map (fun i=>(i.zero,i.size,i.bytes))=some (some (.agg #[.int .i64 0,.int .i64 0,.int .i64 0,.int .i64 0,.int .i64 0,.int .i64 0,.int .i64 0,.slice none 0 0]),8,80) by kernel_rfl);have gy:¬((i:Int)=(n:Int)):=by omega
 have lI:∀lb cb,(callFunc 98 #[.slice (some ⟨vb,voff,none⟩) 1 vc,.slice (some ⟨b,off+(i+1)*8,none⟩) lb cb]).run Tryz.prog w=.ok (.value (.bool false)) w:=fun lb cb=>by
  rw[run_callFunc_extern Tryz.func98 (by kernel_rfl) (by kernel_rfl) (by kernel_rfl) (e:=Extern.SlicesOverlaps.overlaps #[47,47] #[4]) (by kernel_rfl),
   Lib.run_overlaps_apart w 47 4 70 Tryz.underlying47 8 z70 ⟨vb,voff,none⟩ ⟨b,off+(i+1)*8,none⟩ 1 vc lb cb ig tA tB kA kB eU lF lG gL lH]
  rfl
 have dR:(cs.drop (i*8)).length=(n-i)*8:=by rw[CQ,bp];omega
 have aJ:(Tryz.prog.info? 70).map (·.size)=some 8:=by rw[cw];simp[bh]
 have lJ:IntKind.i64.wrap ((i:Int)+(1:Int))=(i:Int)+(1:Int):=by rw[IntKind.wrap_i64];omega
 have dr:(0:Int)<=(i:Int)+(1:Int):=by omega
 have aQ:i<=n:=by omega
 have lK:((i:Int)+(1:Int)).toNat=i+1:=by omega
 have dq:¬(c=i+1):=by omega
 have d9:(i:Int)<=(n:Int)+(1:Int):=by omega
 have oH:¬(c=i):=by omega
 have fC:∀ty dc sc,(Builtin.copy_ #[47,47] ty #[.slice (some ⟨b,off+(i+1)*8,none⟩) (n-i) dc,.slice (some ⟨b,off+i*8,none⟩) (n+1-i) sc]).run Tryz.prog w.drew=.ok (goInt (n-i:Nat)) (w.drew.setCells b (off+(i+1)*8) (cs.drop (i*8))):=fun ty dc sc =>
  Gi w.drew _ _ ty 70 b (off+(i+1)*8) (n-i) dc ⟨b,off+i*8,none⟩ (n+1-i) sc (cs.drop (i*8)) 8 (n-i) (by simp only[Nat.min_def];split<;>omega) Tryz.underlying47 aJ dR (fun j v hj=>by rw[Addr.add_lit,Di];exact aS (i*8+j) v (by rwa [Ec]at hj)) (fun j hj=>by rw[Di];exact cX _ (by omega)) (fun j hj=>by rw[Di];exact cY _ (by omega)) (fun v hv=>bO v (NW hv))
 obtain⟨W1,cx⟩:∃W1,W1=w.drew.setCells b (off+(i+1)*8) (cs.drop (i*8)):=⟨_,rfl⟩;have ii:∀k,k<(n+1)*8->(W1.cell? ⟨b,off+k,none⟩).isSome=true:=fun k hk=>by rw[cx];exact isSome_setCells b _ _ _ (fun j hj=>by rw[Di];exact cX _ (by omega)) _ (cX k hk)
 have ij:∀(W:World),(∀x,W.cell? x=W1.cell? x)->(∀x,W.frozen? x=W1.frozen? x)->∀ty dc,(Builtin.copy_ #[47,47] ty #[.slice (some ⟨b,off+i*8,none⟩) (n+1-i) dc,.slice (some ⟨vb,voff,none⟩) 1 vc]).run Tryz.prog W=.ok (goInt (1:Nat)) (W.setCells b (off+i*8) vs):=fun W dE fD ty dc =>
  Gi W _ _ ty 70 b (off+i*8) (n+1-i) dc ⟨vb,voff,none⟩ 1 vc vs 8 1 (by simp only[Nat.min_def];split<;>omega) Tryz.underlying47 aJ cg (fun j v hj=>by rw[Addr.add_lit,dE,cx,World.cell?_setCells_out b _ _ _ _ (fun h _=>absurd h ig)];exact bW j v hj) (fun j hj=>by rw[dE,Di];exact ii _ (by omega)) (fun j hj=>by rw[fD,cx,World.frozen?_setCells,Di];exact cY _ (by omega)) bN
 rw[<-cx]at fC
 go_enter Tryz.func77,Tryz.ntmps77
 go_wp2_with (simp only[lI])
 go_region_law_o (refine step_copy_runI rfl _ _ 47 47 rfl _ _ (by simp[Act.eval,Act.put]) (by simp[Act.eval,Act.put]) (fC _ _ _) ?_)
 go_wp2_with (at_builtin;refine wpList_copy_runI _ rfl _ _ 47 47 rfl _ _ rfl rfl (ij _ (fun _=>rfl) (fun _=>rfl) _ _) ?_)
 go_ret
 first|exact⟨rfl,rfl⟩|exact⟨rfl,by rw[cx]⟩
set_option maxHeartbeats 4000000 in
set_option maxRecDepth 100000 in
theorem jzs8(b off n c i vb voff vc:Nat)(cs vs:List Value)(w:World)(hi:i<n)(fB:n<=c)(aP:c<n+1)(dD:(n+1)*80<=140737488355328)(bp:cs.length=n*8) (cg:vs.length=1*8)(aS:∀j v,cs[j]?=some v->w.cell? ⟨b,off+j,none⟩=some v)(bW:∀j v,vs[j]?=some v->w.cell? ⟨vb,voff+j,none⟩=some v) (bO:∀v∈cs,v.oneCell'=true) (bN:∀v∈vs,v.oneCell'=true) :
  Calls Tryz.prog 77 #[.slice (some ⟨b,off,none⟩) n c,.int .i64 i,.slice (some ⟨vb,voff,none⟩) 1 vc] w fun e w' =>
   ∃(G:Nat) (ROW:Array Value),n+1<=G/\G<=9223372036854775807/\(n+1)*8<=ROW.size/\ROW.size=G*8/\(∀j,j<i*8->ROW[j]?=cs[j]?)/\e=.returned (.slice (some ⟨w.heap.size,0,none⟩) (n+1) G) /\
   w'=(((w.alloc (.cells ROW 70)).drew.setCells w.heap.size (i*8) vs).drew).setCells w.heap.size ((i+1)*8) (cs.drop (i*8)):=by
 have t47:=Tryz.underlying47;have u47:=run_underlying Tryz.underlying47;have a47:=Tryz.isAgg47;have z47:=Tryz.sizeOf47;have v47:=Tryz.zeroValue47;have t4:=Tryz.underlying4;have u4:=run_underlying Tryz.underlying4;have a4:=Tryz.isAgg4;have z4:=Tryz.sizeOf4;have v4:=Tryz.zeroValue4;have t3:=Tryz.underlying3;have u3:=run_underlying Tryz.underlying3;have a3:=Tryz.isAgg3;have z3:=Tryz.sizeOf3;have v3:=Tryz.zeroValue3;have t70:=Tryz.underlying70;have u70:=run_underlying Tryz.underlying70;have a70:=Tryz.isAgg70;have z70:=Tryz.sizeOf70;have v70:=Tryz.zeroValue70;have mixed:Tryz.prog.follows .mixedOrders=true:=by kernel_rfl
 obtain⟨i0,cw,cK,bh,du⟩:=info_parts (show(Tryz.prog.info? 70).map (fun i=>(i.zero,i.size,i.bytes))=some (some (.agg #[.int .i64 0,.int .i64 0,.int .i64 0,.int .i64 0,.int .i64 0,.int .i64 0,.int .i64 0,.slice none 0 0]),8,80) by kernel_rfl);have gy:¬((i:Int)=(n:Int)):=by omega
 have oI:(c:Int)<(n:Int)+(1:Int):=by omega
 have aJ:(Tryz.prog.info? 70).map (·.size)=some 8:=by rw[cw];simp[bh]
 have lL:b<w.heap.size:=block_lt_of_cell (aS 0 _ (AD (by omega)));have lM:vb<w.heap.size:=block_lt_of_cell (bW 0 _ (AD (by omega)));have fA:(n:Int)+(1:Int)-(i:Int)=((n+1-i:Nat):Int):=by omega
 have dO:i+(n+1-i)=n+1:=by omega
 have il:(cs.take (i*8)).length=i*8:=by rw[Do];omega
 have aO:(Builtin.firstCells i0.size i (.slice (some ⟨b,off,none⟩) i c)).run Tryz.prog w.drew=.ok (cs.take (i*8)).toArray w.drew:=by
  rw[bh]
  exact run_firstCells_some w.drew 8 i ⟨b,off,none⟩ i c (cs.take (i*8)) (by omega) (fun j v hj=>by
   rw[Addr.add_lit];rw[Fo]at hj;split at hj
   ·exact aS j v hj
   ·cases hj)
 have gf:∀ty,(Builtin.append_ #[47,3] ty #[.slice (some ⟨b,off,none⟩) i c,.int .i64 ((n:Int)+(1:Int)-(i:Int))]).run Tryz.prog w =
   .ok (.slice (some ⟨w.heap.size,0,none⟩) (n+1) (grownCap w (n+1) c 70)) (w.drew.alloc (.cells ((cs.take (i*8)).toArray++Builtin.zeroCells (.agg #[.int .i64 0,.int .i64 0,.int .i64 0,.int .i64 0,.int .i64 0,.int .i64 0,.int .i64 0,.slice none 0 0]:Value).cells (n+1-i)++Builtin.zeroCells (.agg #[.int .i64 0,.int .i64 0,.int .i64 0,.int .i64 0,.int .i64 0,.int .i64 0,.int .i64 0,.slice none 0 0]:Value).cells (grownCap w (n+1) c 70-(n+1))) 70)):=fun ty=>by
  have h:=Lib.run_append_grow_zeros (P:=Tryz.prog) w 47 3 ty 70 i0 _ .i64 .i64 Tryz.underlying47 Tryz.underlying3 cw cK (some ⟨b,off,none⟩) i c (cs.take (i*8)) aO (n+1-i) (by omega) (by omega) (by omega) (by omega) (by rw[du];omega) (by rw[du,dO];exact growslice_fits aP dD);rw[dO]at h;rw[fA];exact h
 obtain⟨G,hG⟩:∃G,G=grownCap w (n+1) c 70:=⟨_,rfl⟩;obtain⟨ROW,dv⟩:∃ROW:Array Value,ROW=(cs.take (i*8)).toArray++Builtin.zeroCells (.agg #[.int .i64 0,.int .i64 0,.int .i64 0,.int .i64 0,.int .i64 0,.int .i64 0,.int .i64 0,.slice none 0 0]:Value).cells (n+1-i)++Builtin.zeroCells (.agg #[.int .i64 0,.int .i64 0,.int .i64 0,.int .i64 0,.int .i64 0,.int .i64 0,.int .i64 0,.slice none 0 0]:Value).cells (G-(n+1)):=⟨_,rfl⟩;rw[<-hG]at gf;rw[<-dv]at gf;have lN:n+1<=G:=by rw[hG];exact grownCap_ge w _ _ _
 have cM:∀k,(Builtin.zeroCells (.agg #[.int .i64 0,.int .i64 0,.int .i64 0,.int .i64 0,.int .i64 0,.int .i64 0,.int .i64 0,.slice none 0 0]:Value).cells k).size=k*8:=fun k=>by simp[Builtin.zeroCells,Value.cells]
 have lO:ROW.size=G*8:=by rw[dv,HI,HI,cM,cM,FO,il];omega
 have kv:(n+1)*8<=ROW.size:=by omega
 have lP:∀j,j<i*8->ROW[j]?=cs[j]?:=fun j hj=>by rw[dv,Jt (by rw[HI,FO,il];omega),Jt (by rw[FO,il];omega),GI,Fo,An hj]
 obtain⟨W1,cx⟩:∃W1,W1=w.drew.alloc (.cells ROW 70):=⟨_,rfl⟩;rw[<-cx]at gf;have hN:∀j,j<(n+1)*8->(W1.cell? ⟨w.heap.size,j,none⟩).isSome=true:=fun j hj=>by rw[cx,World.cell?_alloc_at (w:=w.drew) ROW _ w.heap.size j rfl,DE (by omega)];rfl
 have jC:∀j,W1.frozen? ⟨w.heap.size,j,none⟩=false:=fun j=>by rw[cx];exact World.frozen?_alloc_at (w:=w.drew) ROW _ w.heap.size j rfl
 have lQ:∀j v,w.cell? ⟨b,j,none⟩=some v->W1.cell? ⟨b,j,none⟩=some v:=fun j v h=>by rw[cx,World.cell?_alloc_past (w:=w.drew) _ b j lL];exact h
 have lR:∀j v,w.cell? ⟨vb,j,none⟩=some v->W1.cell? ⟨vb,j,none⟩=some v:=fun j v h=>by rw[cx,World.cell?_alloc_past (w:=w.drew) _ vb j lM];exact h
 have im:∀(W:World),(∀x,W.cell? x=W1.cell? x)->(∀x,W.frozen? x=W1.frozen? x)->∀ty dc,(Builtin.copy_ #[47,47] ty #[.slice (some ⟨w.heap.size,i*8,none⟩) (n+1-i) dc,.slice (some ⟨vb,voff,none⟩) 1 vc]).run Tryz.prog W=.ok (goInt (1:Nat)) (W.setCells w.heap.size (i*8) vs):=fun W dE fD ty dc =>
  Gi W _ _ ty 70 w.heap.size (i*8) (n+1-i) dc ⟨vb,voff,none⟩ 1 vc vs 8 1 (by simp only[Nat.min_def];split<;>omega) Tryz.underlying47 aJ cg (fun j v hj=>by rw[Addr.add_lit,dE];exact lR _ v (bW j v hj)) (fun j hj=>by rw[dE];exact hN _ (by omega)) (fun j hj=>by rw[fD];exact jC _) bN
 have io:G<=9223372036854775807:=by have:=grownCap_le_maxLen w (n+1) c 70 (by unfold maxLen;omega);rw[<-hG]at this;unfold maxLen at this;omega
 have oJ:¬(G=i):=by omega
 have lS:¬(G=i+1):=by omega
 have jg:¬(c=i):=by omega
 have lT:b≠w.heap.size:=by omega
 have dR:(cs.drop (i*8)).length=(n-i)*8:=by rw[CQ,bp];omega
 have fE:∀(W:World),(∀x,W.cell? x=(W1.setCells w.heap.size (i*8) vs).cell? x)->(∀x,W.frozen? x=(W1.setCells w.heap.size (i*8) vs).frozen? x)->∀ty dc sc,(Builtin.copy_ #[47,47] ty #[.slice (some ⟨w.heap.size,(i+1)*8,none⟩) (n-i) dc,.slice (some ⟨b,off+i*8,none⟩) (n-i) sc]).run Tryz.prog W=.ok (goInt (n-i:Nat)) (W.setCells w.heap.size ((i+1)*8) (cs.drop (i*8))):=fun W dE fD ty dc sc =>
  Gi W _ _ ty 70 w.heap.size ((i+1)*8) (n-i) dc ⟨b,off+i*8,none⟩ (n-i) sc (cs.drop (i*8)) 8 (n-i) (by simp only[Nat.min_def];split<;>omega) Tryz.underlying47 aJ dR (fun j v hj=>by rw[Addr.add_lit,dE,World.cell?_setCells_out _ _ _ _ _ (fun h _=>absurd h lT),Di];exact lQ _ v (aS (i*8+j) v (by rwa [Ec]at hj))) (fun j hj=>by rw[dE];exact isSome_setCells _ _ _ _ (fun t ht=>hN _ (by omega)) _ (hN _ (by omega))) (fun j hj=>by rw[fD,World.frozen?_setCells];exact jC _) (fun v hv=>bO v (NW hv))
 subst cx;have lU:∀x,((w.alloc (.cells ROW 70)).drew).cell? x=(w.drew.alloc (.cells ROW 70)).cell? x:=fun x=>rfl;have lV:∀x,((w.alloc (.cells ROW 70)).drew).frozen? x=(w.drew.alloc (.cells ROW 70)).frozen? x:=fun x=>rfl;have lW:∀x,(((w.alloc (.cells ROW 70)).drew.setCells w.heap.size (i*8) vs).drew).cell? x=((w.drew.alloc (.cells ROW 70)).setCells w.heap.size (i*8) vs).cell? x:=fun x=>rfl;have lX:∀x,(((w.alloc (.cells ROW 70)).drew.setCells w.heap.size (i*8) vs).drew).frozen? x=((w.drew.alloc (.cells ROW 70)).setCells w.heap.size (i*8) vs).frozen? x:=fun x=>rfl;have lJ:IntKind.i64.wrap ((i:Int)+(1:Int))=(i:Int)+(1:Int):=by rw[IntKind.wrap_i64];omega
 have dr:(0:Int)<=(i:Int)+(1:Int):=by omega
 have aQ:i<=n:=by omega
 have lK:((i:Int)+(1:Int)).toNat=i+1:=by omega
 have d9:(i:Int)<=(n:Int):=by omega
 clear fA dO aO dv hG
 go_enter Tryz.func77,Tryz.ntmps77
 go_wp2_with (first
  |(at_builtin;refine Lib.wpList_append_run _ rfl _ _ _ _ rfl _ _ rfl rfl _ _ (gf _) ?_)
  |(at_builtin;refine wpList_copy_runI _ rfl _ _ 47 47 rfl _ _ rfl rfl (im _ lU lV _ _) ?_)
  | (at_builtin;refine wpList_copy_runI _ rfl _ _ 47 47 rfl _ _ rfl rfl (fE _ (fun _=>rfl) (fun _=>rfl) _ _ _) ?_))
 go_region_law_o (refine step_copy_runI rfl _ _ 47 47 rfl (.slice (some ⟨w.heap.size,(i+1)*8,none⟩) (n-i) (G-(i+1))) (.slice (some ⟨b,off+i*8,none⟩) (n-i) (c-i)) (by simp[Act.eval,Act.put]) (by simp[Act.eval,Act.put]) (fE _ lW lX 3 (G-(i+1)) (c-i)) ?_)
 go_wp2
 go_ret
 exact⟨G,ROW,lN,io,kv,lO,lP,rfl,rfl⟩
theorem jzu9{s0:Nat}{w:World}{base:Option Addr}{n c i vb:Nat}{cs vs:List Value}{tv:TypeId}(bP:s0<=w.heap.size)(hm:Mne 8 s0 w base n c cs)(hi:i<=n)(hn:n<=100000)(hv:w.heap[vb]?=some (.cells vs.toArray tv (0,0)))(cg:vs.length=8)(bN:∀v∈vs,v.oneCell'=true)
  (aI:∀b,base=some ⟨b,0,none⟩->b≠vb):Calls Tryz.prog 77 #[.slice base n c,.int .i64 i,.slice (some ⟨vb,0,none⟩) 1 1] w fun e w' =>
   ∃base' c',e=.returned (.slice base' (n+1) c')/\Mne 8 s0 w' base' (n+1) c' (cs.take (i*8)++vs++cs.drop (i*8))/\Pst s0 w w':=by
 obtain⟨fB,cm,bp,bO,hl⟩:=hm;have ig:=(CP.1 hv).1;have bW:∀(j:Nat) (v:Value),vs[j]?=some v->w.cell? ⟨vb,0+j,none⟩=some v:=fun j v h=>by rw[Ce,(Bo hv j).1,GI];exact h
 have dQ:(cs.take (i*8)++vs++cs.drop (i*8)).length=(n+1)*8:=by rw[Ch,Ch,Do,CQ,bp,cg];omega
 have gg:∀v∈cs.take (i*8)++vs++cs.drop (i*8),v.oneCell'=true:=fun v h=>by
  rcases BJ.1 h with h|h
  ·rcases BJ.1 h with h|h;·exact bO v (List.mem_of_mem_take h)
   ·exact bN v h
  ·exact bO v (NW h)
 have bQ:=VA (i:=i) (z:=8) (cs:=cs) (vs:=vs) (by omega) cg;by_cases aQ:i=n
 ·subst aQ;have lY:cs.drop (i*8)=[]:=Tc.2 (by omega);have jz:cs.take (i*8)=cs:=J6 (by omega);by_cases hr:i+1<=c
  ·rcases hl with ⟨_,_,h0⟩|⟨b,arr,ty,rfl,hb,hh,gB,hc⟩;·omega
   have aI:=aI b rfl;refine(jzr2 b 0 i c vb 0 1 vs w hr cm (by omega) (fun j hj=>by rw[(Bo hh _).1,DE (by omega)];rfl) (fun j hj=>(Bo hh _).2.1) bW bN).mono ?_;rintro e w' ⟨rfl,rfl⟩;obtain⟨arr',e1,e2,e3,e4⟩:=DS vs (0+i*8) w arr hh (by omega);refine⟨_,_,rfl,⟨hr,cm,dQ,gg,.inr ⟨b,arr',ty,rfl,hb,e1,by omega,fun j v hj=>?_⟩⟩,Pst.setCells hb hh (by omega)⟩;rw[bQ]at hj;rw[e3];by_cases c1:j<i*8
   ·rw[An c1]at hj;rw[Aj (by omega)];exact hc j v hj
   ·rw[Aj c1]at hj;by_cases c2:j<(i+1)*8
    ·rw[An c2]at hj;rw[An (by omega),Ce];exact hj
    ·rw[Aj c2]at hj;have:=(AL.1 hj).1;omega
  ·have ip:c<i+1:=by omega
   refine(jzr1 base i c vb 0 1 cs vs w fB ip (by omega) bp (by omega) (fun e=>by
    rcases hl with ⟨_,h,_⟩|⟨b,arr,ty,h,_⟩
    ·exact h
    ·rw[h]at e;cases e) (fun a ha j v hj=>by
    rcases hl with ⟨h,_⟩|⟨b,arr,ty,h,hb,hh,gB,hc⟩
    ·rw[h]at ha;cases ha
    ·rw[h]at ha;cases ha;rw[show(⟨b,0,none⟩:Addr).add j=⟨b,j,none⟩ by rw[Addr.add_lit,Ce],(Bo hh j).1];exact hc j v hj) bW bN).mono ?_
   rintro e w' ⟨rfl,rfl⟩;have hG:=grownCap_ge w (i+1) c 70;have hz:(Builtin.zeroCells (.agg #[.int .i64 0,.int .i64 0,.int .i64 0,.int .i64 0,.int .i64 0,.int .i64 0,.int .i64 0,.slice none 0 0]:Value).cells (grownCap w (i+1) c 70-(i+1))).size=(grownCap w (i+1) c 70-(i+1))*8:=by simp[Builtin.zeroCells,Value.cells]
   have iq:=grownCap_le_maxLen w (i+1) c 70 (by unfold maxLen;omega);unfold maxLen at iq;refine⟨_,_,rfl,⟨hG,by omega,dQ,gg,.inr ⟨w.heap.size,_,_,rfl,bP,Da w.drew _,?_,fun j v hj=>?_⟩⟩,(Pst.drew w).trans (Pst.alloc (w:=w.drew) bP _)⟩
   ·rw[HI,hz,FO,Ch];omega
   ·rw[lY,jz,List.append_nil]at hj;have:=(AL.1 hj).1;rw[Jt (by rw[FO];exact this),GI];exact hj
 ·have hlt:i<n:=by omega
  rcases hl with ⟨_,h0,_⟩|⟨b,arr,ty,rfl,hb,hh,gB,hc⟩
  ·omega
  have aI:=aI b rfl;have aS:∀(j:Nat) (v:Value),cs[j]?=some v->w.cell? ⟨b,0+j,none⟩=some v:=fun j v h=>by rw[Ce,(Bo hh j).1];exact hc j v h
  by_cases hr:n+1<=c
  ·refine(jzso b 0 n c i vb 0 1 cs vs w hlt hr cm (Ne.symm aI) bp (by omega) aS (fun j hj=>by rw[(Bo hh _).1,DE (by omega)];rfl) (fun j hj=>(Bo hh _).2.1) bW bO bN _ _ _ _ (Bo hv 0).2.2 (Bo hh 0).2.2 (by omega) (Bo hv 0).2.1 (Bo hv _).2.1).mono ?_;rintro e w' ⟨rfl,rfl⟩;have dR:(cs.drop (i*8)).length=(n-i)*8:=by rw[CQ,bp];omega
   obtain⟨arr',e1,e2,e3,e4⟩:=DS (cs.drop (i*8)) (0+(i+1)*8) w.drew arr hh (by omega);obtain⟨arr2,f1,f2,f3,f4⟩:=DS vs (0+i*8) _ arr' e1 (by omega);refine⟨_,_,rfl,⟨hr,cm,dQ,gg,.inr ⟨b,arr2,ty,rfl,hb,f1,by omega,fun j v hj=>?_⟩⟩,((Pst.drew w).trans (Pst.setCells hb hh (by omega))).trans (Pst.setCells hb e1 (by omega))⟩;rw[bQ]at hj;rw[f3,e3];by_cases c1:j<i*8
   ·rw[An c1]at hj;rw[Aj (by omega),Aj (by omega)];exact hc j v hj
   ·rw[Aj c1]at hj;by_cases c2:j<(i+1)*8
    ·rw[An c2]at hj;rw[An (by omega),Ce];exact hj
    ·rw[Aj c2]at hj;have:=(AL.1 hj).1;rw[Aj (by omega),An (by omega),Ec,show i*8+(j-(0+(i+1)*8))=j-8 by omega];exact hj
  ·refine(jzs8 b 0 n c i vb 0 1 cs vs w hlt fB (by omega) (by omega) bp (by omega) aS bW bO bN).mono ?_;rintro e w' ⟨G,ROW,g1,g63,g2,g3,g4,rfl,rfl⟩;have dR:(cs.drop (i*8)).length=(n-i)*8:=by rw[CQ,bp];omega
   have hR:(w.alloc (.cells ROW 70)).drew.heap[w.heap.size]?=some (.cells ROW 70 (0,0)):=Da w _;obtain⟨arr',e1,e2,e3,e4⟩:=DS vs (i*8) (w.alloc (.cells ROW 70)).drew ROW hR (by omega);have e1':(((w.alloc (.cells ROW 70)).drew.setCells w.heap.size (i*8) vs).drew).heap[w.heap.size]?=some (.cells arr' 70 (0,0)):=e1;obtain⟨arr2,f1,f2,f3,f4⟩:=DS (cs.drop (i*8)) ((i+1)*8) _ arr' e1' (by omega);refine⟨_,_,rfl,⟨g1,g63,dQ,gg,.inr ⟨w.heap.size,arr2,_,rfl,bP,f1,by omega,fun j v hj=>?_⟩⟩,((((Pst.alloc bP _).trans (Pst.drew _)).trans (Pst.setCells bP hR (by omega))).trans (Pst.drew _)).trans (Pst.setCells bP e1' (by omega))⟩;rw[bQ]at hj;rw[f3,e3];by_cases c1:j<i*8
   ·rw[An c1]at hj;rw[Aj (by omega),Aj (by omega),g4 j c1];exact hj
   ·rw[Aj c1]at hj;by_cases c2:j<(i+1)*8
    ·rw[An c2]at hj;rw[Aj (by omega),An (by omega)];exact hj
    ·rw[Aj c2]at hj;have:=(AL.1 hj).1;rw[An (by omega),Ec,show i*8+(j-(i+1)*8)=j-8 by omega];exact hj
set_option maxHeartbeats 4000000 in
set_option maxRecDepth 100000 in
theorem jzu2{s0:Nat}{w:World}{base:Option Addr}{n c:Nat}{cs:List Value}(bP:s0<=w.heap.size)(bp:cs.length=n*8)(bC:base=none->n=0)(aS:∀a,base=some a->∀(j:Nat) (v:Value),cs[j]?=some v->w.cell? (a.add j)=some v)(bO:∀v∈cs,v.oneCell'=true) (hn:n<=100000):Calls Tryz.prog 78 #[.slice base n c] w fun e w'=>∃base' c',e=.returned (.slice base' n c')/\Mne 8 s0 w' base' n c' cs/\Pst s0 w w':=by
 have t47:=Tryz.underlying47;have u47:=run_underlying Tryz.underlying47;have a47:=Tryz.isAgg47;have z47:=Tryz.sizeOf47;have v47:=Tryz.zeroValue47;have t4:=Tryz.underlying4;have u4:=run_underlying Tryz.underlying4;have a4:=Tryz.isAgg4;have z4:=Tryz.sizeOf4;have v4:=Tryz.zeroValue4;have t3:=Tryz.underlying3;have u3:=run_underlying Tryz.underlying3;have a3:=Tryz.isAgg3;have z3:=Tryz.sizeOf3;have v3:=Tryz.zeroValue3;have t70:=Tryz.underlying70;have u70:=run_underlying Tryz.underlying70;have a70:=Tryz.isAgg70;have z70:=Tryz.sizeOf70;have v70:=Tryz.zeroValue70;have mixed:Tryz.prog.follows .mixedOrders=true:=by kernel_rfl
 obtain⟨i0,cw,cK,bh,du⟩:=info_parts (show(Tryz.prog.info? 70).map (fun i=>(i.zero,i.size,i.bytes))=some (some (.agg #[.int .i64 0,.int .i64 0,.int .i64 0,.int .i64 0,.int .i64 0,.int .i64 0,.int .i64 0,.slice none 0 0]),8,80) by kernel_rfl);have e47:=fun w a n c n' c'=>Lib.run_eql_slice_nil (P:=Tryz.prog) w 47 70 a n c n' c' Tryz.underlying47;cases base with
 |none =>
  obtain rfl:=bC rfl
  go_enter Tryz.func78,Tryz.ntmps78
  go_wp2_with (simp only[e47])
  go_ret
  exact⟨none,0,rfl,⟨AC _,by omega,bp,bO,.inl ⟨rfl,rfl,rfl⟩⟩,Pst.refl _ _⟩
 |some a =>
  have aS:=aS a rfl;have aX:∀W:World,(∀j,j<cs.length->W.cell? (a.add j)=w.cell? (a.add j))->_root_.Go.Src Tryz.prog i0.size 47 (.slice (some a) n c) n cs W:=fun W hW=>by rw[bh];exact _root_.Go.Src.ofSlice W Tryz.underlying47 a n c cs bp (fun j u hj=>by rw[hW j (AL.1 hj).1];exact aS j u hj) bO
  obtain⟨ab,ao,asp⟩:=a;by_cases h0:n=0
  ·subst h0;obtain rfl:cs=[]:=Lf.1 (by omega)
   have aG:∀ty,(Builtin.append_ #[47,47] ty #[.slice (some ⟨w.heap.size,0,none⟩) 0 0,.slice (some ⟨ab,ao,asp⟩) 0 c]).run Tryz.prog (w.alloc (.cells #[] 70))=_:=fun ty =>
    run_append_nothing (w.alloc (.cells #[] 70)) 47 47 ty 70 i0 Tryz.underlying47 cw _ 0 0 (AC _) _ (aX _ fun j hj=>by simp at hj)
   go_enter Tryz.func78,Tryz.ntmps78
   go_wp2_with (first
    |simp only[e47]
    | (at_builtin;refine Lib.wpList_append_run _ rfl _ _ _ _ rfl _ _ rfl rfl _ _ (aG _) ?_))
   go_ret
   exact⟨_,_,rfl,⟨AC _,by omega,bp,bO,.inr ⟨w.heap.size,#[],70,rfl,bP,Da w _,rfl,fun j v hj=>by simp at hj⟩⟩,Pst.alloc bP _⟩
  ·have eC:ab<w.heap.size:=by
    have h1:=aS 0 _ (AD (by omega));rw[show(⟨ab,ao,asp⟩:Addr).add 0=⟨ab,ao,asp⟩ by simp[Addr.add]]at h1;exact block_lt_of_cell h1
   have aG:∀ty,(Builtin.append_ #[47,47] ty #[.slice (some ⟨w.heap.size,0,none⟩) 0 0,.slice (some ⟨ab,ao,asp⟩) n c]).run Tryz.prog (w.alloc (.cells #[] 70))=_:=fun ty =>
    run_append_grow_src (w:=w.alloc (.cells #[] 70)) 47 47 ty 70 i0 _ Tryz.underlying47 cw cK (some ⟨w.heap.size,0,none⟩) 0 0 [] (run_firstCells_some _ i0.size 0 _ 0 0 [] (by simp) (fun j v hj=>by simp at hj)) _ n cs (aX _ fun j hj=>by refine World.cell?_alloc_lt _ _ _ ?_;show((⟨ab,ao,asp⟩:Addr).add j).block<_;unfold Addr.add;split<;>exact eC) (by omega) (by omega) (by rw[du];exact growslice_fits (by omega) (by omega))
   go_enter Tryz.func78,Tryz.ntmps78
   go_wp2_with (first
    |simp only[e47]
    | (at_builtin;refine Lib.wpList_append_run _ rfl _ _ _ _ rfl _ _ rfl rfl _ _ (aG _) ?_))
   go_ret
   have hG:=grownCap_ge (w.alloc (.cells #[] 70)) n 0 70;have iq:=grownCap_le_maxLen (w.alloc (.cells #[] 70)) n 0 70 (by unfold maxLen;omega);unfold maxLen at iq;have cN:(w.alloc (.cells #[] 70)).heap.size=w.heap.size+1:=World.size_alloc _ _
   have hh:∀o,((w.alloc (.cells #[] 70)).drew.alloc o).heap[w.heap.size+1]?=some o:=fun o=>by
    have:=Da (w.alloc (.cells #[] 70)).drew o
    rwa [show(w.alloc (.cells #[] 70)).drew.heap.size=w.heap.size+1 from cN]at this
   refine⟨_,_,rfl,⟨hG,by omega,bp,bO,.inr ⟨w.heap.size+1,_,_,rfl,by omega,hh _,?_,fun j v hj=>?_⟩⟩,((Pst.alloc bP _).trans (Pst.drew _)).trans (Pst.alloc (w:=(w.alloc (.cells #[] 70)).drew) (by show s0<=(w.alloc (.cells #[] 70)).heap.size;omega) _)⟩
   ·simp only[HI,FO,Lt,bp];simp[Builtin.zeroCells,Value.cells];omega
   ·have:=(AL.1 hj).1;rw[Jt (by simpa using this)];simpa using hj
set_option maxHeartbeats 4000000 in
set_option maxRecDepth 100000 in
theorem jzve{α:Type}(C:α->List Aa)(gi:∀x,(C x).length=6)(ir:∀g w x vs,RVs g w (C x) vs->∀v∈vs,v.oneCell'=true)(l:List α)(r:α)(k:Nat)(hk:k<=l.length)(hn:l.length<4000)(hC:Bg EE Tryz.prog 21 [slcV 6 C l] (.int .i64 0)) (hR:Bg EE Tryz.prog 19 [.agg (C r)] (.bool true)) (hB:Bg EE Tryz.prog 46 [slcV 6 C l,.agg (C r),.fn 47 0 []] (.tup [.int .i64 k,.bool false])) :
    Pure EE Tryz.prog 13 [slcV 6 C l,.agg (C r)] (.tup [slcV 6 C (l.take k++[r]++l.drop k),.int .i64 0]):=by
  intro g w vs H hv
  obtain⟨v0,v1,rfl⟩:∃v0 v1,vs=[v0,v1]:=by
    have:=hv.1
    match vs,this with
    |[v0,v1],_=>exact⟨v0,v1,rfl⟩
  have gj:RV g w (slcV 6 C l) v0:=hv.2 0 _ _ rfl rfl;have fF:RV g w (.agg (C r)) v1:=hv.2 1 _ _ rfl rfl;obtain⟨base,cap,cs,rfl,dU,bC,aS,bO⟩:=VB (by omega) gi gj
  obtain⟨y1,y2,y3,y4,y5,y6,rfl,jD⟩:∃y1 y2 y3 y4 y5 y6,v1=.agg #[y1,y2,y3,y4,y5,y6]/\RVs g w (C r) [y1,y2,y3,y4,y5,y6]:=by
    cases fF with
    |agg _ a aJ h =>
      obtain⟨la⟩:=a;have aJ:la.length=6:=by have:=gi r;simp only[FO]at aJ;omega
      match la,aJ with
      |[y1,y2,y3,y4,y5,y6],_=>exact⟨y1,y2,y3,y4,y5,y6,rfl,by simpa using gi r |>.symm,fun i x v h1 h2=>h i x v h1 (by simpa using h2)⟩
  have ho:=ir g w r _ jD;have o1:=ho y1 (by simp);have o2:=ho y2 (by simp);have o3:=ho y3 (by simp);have o4:=ho y4 (by simp);have o5:=ho y5 (by simp);have o6:=ho y6 (by simp);have iu:RVs g w [.agg (C r)] [.agg #[y1,y2,y3,y4,y5,y6]]:=.cons fF (.nil g w);have oK:¬((l.length:Int)=4000):=by omega
  have p0:Pst w.heap.size w (w.alloc (.cells #[y1,y2,y3,y4,y5,y6] 25)):=Pst.alloc (AC _) _;have bB:(w.alloc (.cells #[y1,y2,y3,y4,y5,y6] 25)).heap.size=w.heap.size+1:=World.size_alloc _ _;have b0:=Da w (.cells #[y1,y2,y3,y4,y5,y6] 25);have hq:∀w1,Pst (w.heap.size+1) (w.alloc (.cells #[y1,y2,y3,y4,y5,y6] 25)) w1->w1.cell? ⟨w.heap.size,0,none⟩=some y1/\w1.cell? ⟨w.heap.size,1,none⟩=some y2/\w1.cell? ⟨w.heap.size,2,none⟩=some y3/\w1.cell? ⟨w.heap.size,3,none⟩=some y4/\w1.cell? ⟨w.heap.size,4,none⟩=some y5/\w1.cell? ⟨w.heap.size,5,none⟩=some y6:=fun w1 p=>by refine⟨?_,?_,?_,?_,?_,?_⟩<;>(rw[p.cell (by omega),(Bo b0 _).1];rfl)
  have lZ:∀W,Pst w.heap.size w W->_:=fun W p=>Bg.past hB H (vs:=[.slice base l.length cap,.agg #[y1,y2,y3,y4,y5,y6],.func (.func 47) #[] #[]]) (.cons gj (.cons fF (.cons (.fn 47 0 [] #[] rfl (fun i x v h=>by simp at h)) (.nil g w)))) p;have t22:=Tryz.underlying22;have u22:=run_underlying Tryz.underlying22;have a22:=Tryz.isAgg22;have z22:=Tryz.sizeOf22;have v22:=Tryz.zeroValue22;have t4:=Tryz.underlying4;have u4:=run_underlying Tryz.underlying4;have a4:=Tryz.isAgg4;have z4:=Tryz.sizeOf4;have v4:=Tryz.zeroValue4;have t3:=Tryz.underlying3;have u3:=run_underlying Tryz.underlying3;have a3:=Tryz.isAgg3;have z3:=Tryz.sizeOf3;have v3:=Tryz.zeroValue3;have t25:=Tryz.underlying25;have u25:=run_underlying Tryz.underlying25;have a25:=Tryz.isAgg25;have z25:=Tryz.sizeOf25;have v25:=Tryz.zeroValue25;have mixed:Tryz.prog.follows .mixedOrders=true:=by kernel_rfl
  obtain⟨i0,cw,cK,bh,du⟩:=info_parts (show(Tryz.prog.info? 25).map (fun i=>(i.zero,i.size,i.bytes))=some (some (.agg #[.int .i64 0,.int .i64 0,.int .i64 0,.int .i64 0,.int .i64 0,.int .i64 0]),6,48) by kernel_rfl);have t28:=Tryz.underlying28;have u28:=run_underlying Tryz.underlying28;have a28:=Tryz.isAgg28;have z28:=Tryz.sizeOf28;have v28:=Tryz.zeroValue28
  go_enter Tryz.func13,Tryz.ntmps13
  go_wp2_with (first
    |(go_at_call 21;refine(Bg.past hC H (.cons gj (.nil g w)) p0).mono ?_;rintro e w1 ⟨g1,v,rfl,eJ,p1⟩;cases eJ;rw[bB]at p1;have p1':=p0.trans (p1.mono (Cr _));obtain⟨q1,q2,q3,q4,q5,q6⟩:=hq w1 p1)
    |(go_at_call 19;refine(Bg.past hR H iu p1').mono ?_;rintro e w2 ⟨g2,v,rfl,cu,p2⟩;cases cu;have p2:=p1.trans (p2.mono (bB▸p1.size));have p2':=p0.trans (p2.mono (Cr _));obtain⟨q1,q2,q3,q4,q5,q6⟩:=hq w2 p2)
    | (go_at_call 46;refine(lZ _ p2').mono ?_;rintro e w3 ⟨g3,v,rfl,ga,p3⟩;obtain rfl:=VC ga;have p3:=p2.trans (p3.mono (bB▸p2.size));obtain⟨q1,q2,q3,q4,q5,q6⟩:=hq w3 p3))
  have fS:w.heap.size+1<=w3.heap.size:=bB▸p3.size;have pw3:Pst w.heap.size w w3:=p0.trans (p3.mono (Cr _))
  have iv:∀W,Pst (w.heap.size+1) w3 W->∀a,base=some a->∀(j:Nat) (v:Value),cs[j]?=some v->W.cell? (a.add j)=some v:=fun W pW a ha j v hj =>
    (pw3.trans (pW.mono (Cr _))).cellA (aS a ha j v hj)
  have pd:Pst (w.heap.size+1) w3 w3.drew:=Pst.drew _;have pa:∀o,Pst (w.heap.size+1) w3 (w3.alloc o).drew:=fun o=>(Pst.alloc fS o).trans (Pst.drew _);have eU:∀o,(w3.alloc o).heap.size=w3.heap.size+1:=fun o=>World.size_alloc _ _;have iw:=dU.1;have bN:∀v∈[y1,y2,y3,y4,y5,y6],v.oneCell'=true:=ho;have jE:l.length<=100000:=by omega
  go_region_with (first
    | (go_at_call 49
       refine(jzvb (AC _) iw bC (iv _ (by first|exact pd|exact pa _)) bO jE).mono ?_;rintro e w4 ⟨base1,c1,rfl,dy,p4⟩;have dr:=dy.rng;have pm:Pst (w.heap.size+1) w3 w4:=(by first|exact pd|exact pa _:Pst (w.heap.size+1) w3 _).trans (p4.mono (by simp only[World.size_drew,eU];omega));have jF:=Bt fS pm.size;have fG:Mne 6 (w.heap.size+1) w4 base1 l.length c1 cs:=dy.mono (by simp only[World.size_drew,eU];omega);obtain⟨q1,q2,q3,q4,q5,q6⟩:=hq w4 (p3.trans pm))
    | (go_at_call 48
       refine(jzu7 (s0:=w.heap.size+1) (vs:=[y1,y2,y3,y4,y5,y6]) (tv:=25) (by first|exact jF|(rw[World.size_alloc];omega)) (by first|exact fG|exact fG.past (Pst.alloc (AC _) _) (AC _)) hk jE (by first|exact Da _ _|exact(p4.old _ (by simp only[World.size_drew,eU];omega)).trans (Da w3 _)) rfl bN (fun b e=>by have:=dr b e;simp only[World.size_drew,eU]at this;omega)).mono ?_;rintro e w5 ⟨base2,c2,rfl,ma,p5⟩;have p5:Pst (w.heap.size+1) w3 w5:=pm.trans (by first|exact p5|exact(Pst.alloc jF _).trans p5)))
  all_goals
    go_wp2
    go_ret2
    have mb:CRel g w C 6 (l.take k++[r]++l.drop k) (cs.take (k*6)++[y1,y2,y3,y4,y5,y6]++cs.drop (k*6)):=((dU.take hk).app (.one rfl jD)).app (dU.drop k);have da:l.length+1=(l.take k++[r]++l.drop k).length:=(by simp;omega);obtain⟨g',r1,r2,r3⟩:=Mne.give H (pw3.trans (p5.mono (Cr _))) gi (ma.mono (Cr _)) mb da (Nat.succ_pos _)
    exact⟨g',h0,_,_,rfl,rfl,.tup _ _ rfl (fun i x v h1 h2=>by
      match i with
      |0=>cases h1;cases h2;exact r1
      |1=>cases h1;cases h2;exact .int _ _
      | i+2=>simp at h1),r2,r3⟩
set_option maxHeartbeats 4000000 in
set_option maxRecDepth 100000 in
theorem jzuq{α:Type}(C:α->List Aa)(gi:∀x,(C x).length=8)(ir:∀g w x vs,RVs g w (C x) vs->∀v∈vs,v.oneCell'=true)(l:List α)(r:α)(k:Nat)(hk:k<=l.length)(hn:l.length<400)(hC:Bg EE Tryz.prog 60 [slcV 8 C l] (.int .i64 0)) (hR:Bg EE Tryz.prog 73 [.agg (C r)] (.bool true)) (hB:Bg EE Tryz.prog 74 [slcV 8 C l,.agg (C r),.fn 75 0 []] (.tup [.int .i64 k,.bool false])) :
    Pure EE Tryz.prog 42 [slcV 8 C l,.agg (C r)] (.tup [slcV 8 C (l.take k++[r]++l.drop k),.int .i64 0]):=by
  intro g w vs H hv
  obtain⟨v0,v1,rfl⟩:∃v0 v1,vs=[v0,v1]:=by
    have:=hv.1
    match vs,this with
    |[v0,v1],_=>exact⟨v0,v1,rfl⟩
  have gj:RV g w (slcV 8 C l) v0:=hv.2 0 _ _ rfl rfl;have fF:RV g w (.agg (C r)) v1:=hv.2 1 _ _ rfl rfl;obtain⟨base,cap,cs,rfl,dU,bC,aS,bO⟩:=VB (by omega) gi gj
  obtain⟨y1,y2,y3,y4,y5,y6,y7,y8,rfl,jD⟩:∃y1 y2 y3 y4 y5 y6 y7 y8,v1=.agg #[y1,y2,y3,y4,y5,y6,y7,y8]/\RVs g w (C r) [y1,y2,y3,y4,y5,y6,y7,y8]:=by
    cases fF with
    |agg _ a aJ h =>
      obtain⟨la⟩:=a;have aJ:la.length=8:=by have:=gi r;simp only[FO]at aJ;omega
      match la,aJ with
      |[y1,y2,y3,y4,y5,y6,y7,y8],_=>exact⟨y1,y2,y3,y4,y5,y6,y7,y8,rfl,by simpa using gi r |>.symm,fun i x v h1 h2=>h i x v h1 (by simpa using h2)⟩
  have ho:=ir g w r _ jD;have o1:=ho y1 (by simp);have o2:=ho y2 (by simp);have o3:=ho y3 (by simp);have o4:=ho y4 (by simp);have o5:=ho y5 (by simp);have o6:=ho y6 (by simp);have o7:=ho y7 (by simp);have o8:=ho y8 (by simp);have iu:RVs g w [.agg (C r)] [.agg #[y1,y2,y3,y4,y5,y6,y7,y8]]:=.cons fF (.nil g w);have oK:¬((400:Int)<=(l.length:Int)):=by omega
  have p0:Pst w.heap.size w (w.alloc (.cells #[y1,y2,y3,y4,y5,y6,y7,y8] 70)):=Pst.alloc (AC _) _;have bB:(w.alloc (.cells #[y1,y2,y3,y4,y5,y6,y7,y8] 70)).heap.size=w.heap.size+1:=World.size_alloc _ _;have b0:=Da w (.cells #[y1,y2,y3,y4,y5,y6,y7,y8] 70);have hq:∀w1,Pst (w.heap.size+1) (w.alloc (.cells #[y1,y2,y3,y4,y5,y6,y7,y8] 70)) w1->w1.cell? ⟨w.heap.size,0,none⟩=some y1/\w1.cell? ⟨w.heap.size,1,none⟩=some y2/\w1.cell? ⟨w.heap.size,2,none⟩=some y3/\w1.cell? ⟨w.heap.size,3,none⟩=some y4/\w1.cell? ⟨w.heap.size,4,none⟩=some y5/\w1.cell? ⟨w.heap.size,5,none⟩=some y6/\w1.cell? ⟨w.heap.size,6,none⟩=some y7/\w1.cell? ⟨w.heap.size,7,none⟩=some y8:=fun w1 p=>by refine⟨?_,?_,?_,?_,?_,?_,?_,?_⟩<;>(rw[p.cell (by omega),(Bo b0 _).1];rfl)
  have mc:∀W,Pst w.heap.size w W->_:=fun W p=>Bg.past hB H (vs:=[.slice base l.length cap,.agg #[y1,y2,y3,y4,y5,y6,y7,y8],.func (.func 75) #[] #[]]) (.cons gj (.cons fF (.cons (.fn 75 0 [] #[] rfl (fun i x v h=>by simp at h)) (.nil g w)))) p;have t47:=Tryz.underlying47;have u47:=run_underlying Tryz.underlying47;have a47:=Tryz.isAgg47;have z47:=Tryz.sizeOf47;have v47:=Tryz.zeroValue47;have t4:=Tryz.underlying4;have u4:=run_underlying Tryz.underlying4;have a4:=Tryz.isAgg4;have z4:=Tryz.sizeOf4;have v4:=Tryz.zeroValue4;have t3:=Tryz.underlying3;have u3:=run_underlying Tryz.underlying3;have a3:=Tryz.isAgg3;have z3:=Tryz.sizeOf3;have v3:=Tryz.zeroValue3;have t70:=Tryz.underlying70;have u70:=run_underlying Tryz.underlying70;have a70:=Tryz.isAgg70;have z70:=Tryz.sizeOf70;have v70:=Tryz.zeroValue70;have mixed:Tryz.prog.follows .mixedOrders=true:=by kernel_rfl
  obtain⟨i0,cw,cK,bh,du⟩:=info_parts (show(Tryz.prog.info? 70).map (fun i=>(i.zero,i.size,i.bytes))=some (some (.agg #[.int .i64 0,.int .i64 0,.int .i64 0,.int .i64 0,.int .i64 0,.int .i64 0,.int .i64 0,.slice none 0 0]),8,80) by kernel_rfl);have t28:=Tryz.underlying28;have u28:=run_underlying Tryz.underlying28;have a28:=Tryz.isAgg28;have z28:=Tryz.sizeOf28;have v28:=Tryz.zeroValue28
  go_enter Tryz.func42,Tryz.ntmps42
  go_wp2_with (first
    |(go_at_call 60;refine(Bg.past hC H (.cons gj (.nil g w)) p0).mono ?_;rintro e w1 ⟨g1,v,rfl,eJ,p1⟩;cases eJ;rw[bB]at p1;have p1':=p0.trans (p1.mono (Cr _));obtain⟨q1,q2,q3,q4,q5,q6,q7,q8⟩:=hq w1 p1)
    |(go_at_call 73;refine(Bg.past hR H iu p1').mono ?_;rintro e w2 ⟨g2,v,rfl,cu,p2⟩;cases cu;have p2:=p1.trans (p2.mono (bB▸p1.size));have p2':=p0.trans (p2.mono (Cr _));obtain⟨q1,q2,q3,q4,q5,q6,q7,q8⟩:=hq w2 p2)
    | (go_at_call 74;refine(mc _ p2').mono ?_;rintro e w3 ⟨g3,v,rfl,ga,p3⟩;obtain rfl:=VC ga;have p3:=p2.trans (p3.mono (bB▸p2.size));obtain⟨q1,q2,q3,q4,q5,q6,q7,q8⟩:=hq w3 p3))
  have fS:w.heap.size+1<=w3.heap.size:=bB▸p3.size;have pw3:Pst w.heap.size w w3:=p0.trans (p3.mono (Cr _))
  have iv:∀W,Pst (w.heap.size+1) w3 W->∀a,base=some a->∀(j:Nat) (v:Value),cs[j]?=some v->W.cell? (a.add j)=some v:=fun W pW a ha j v hj =>
    (pw3.trans (pW.mono (Cr _))).cellA (aS a ha j v hj)
  have pd:Pst (w.heap.size+1) w3 w3.drew:=Pst.drew _;have pa:∀o,Pst (w.heap.size+1) w3 (w3.alloc o).drew:=fun o=>(Pst.alloc fS o).trans (Pst.drew _);have eU:∀o,(w3.alloc o).heap.size=w3.heap.size+1:=fun o=>World.size_alloc _ _;have iw:=dU.1;have bN:∀v∈[y1,y2,y3,y4,y5,y6,y7,y8],v.oneCell'=true:=ho;have jE:l.length<=100000:=by omega
  go_region_with (first
    | (go_at_call 78
       refine(jzu2 (AC _) iw bC (iv _ (by first|exact pd|exact pa _)) bO jE).mono ?_;rintro e w4 ⟨base1,c1,rfl,dy,p4⟩;have dr:=dy.rng;have pm:Pst (w.heap.size+1) w3 w4:=(by first|exact pd|exact pa _:Pst (w.heap.size+1) w3 _).trans (p4.mono (by simp only[World.size_drew,eU];omega));have jF:=Bt fS pm.size;have fG:Mne 8 (w.heap.size+1) w4 base1 l.length c1 cs:=dy.mono (by simp only[World.size_drew,eU];omega);obtain⟨q1,q2,q3,q4,q5,q6,q7,q8⟩:=hq w4 (p3.trans pm))
    | (go_at_call 77
       refine(jzu9 (s0:=w.heap.size+1) (vs:=[y1,y2,y3,y4,y5,y6,y7,y8]) (tv:=70) (by first|exact jF|(rw[World.size_alloc];omega)) (by first|exact fG|exact fG.past (Pst.alloc (AC _) _) (AC _)) hk jE (by first|exact Da _ _|exact(p4.old _ (by simp only[World.size_drew,eU];omega)).trans (Da w3 _)) rfl bN (fun b e=>by have:=dr b e;simp only[World.size_drew,eU]at this;omega)).mono ?_;rintro e w5 ⟨base2,c2,rfl,ma,p5⟩;have p5:Pst (w.heap.size+1) w3 w5:=pm.trans (by first|exact p5|exact(Pst.alloc jF _).trans p5)))
  all_goals
    go_wp2
    go_ret2
    have mb:CRel g w C 8 (l.take k++[r]++l.drop k) (cs.take (k*8)++[y1,y2,y3,y4,y5,y6,y7,y8]++cs.drop (k*8)):=((dU.take hk).app (.one rfl jD)).app (dU.drop k);have da:l.length+1=(l.take k++[r]++l.drop k).length:=(by simp;omega);obtain⟨g',r1,r2,r3⟩:=Mne.give H (pw3.trans (p5.mono (Cr _))) gi (ma.mono (Cr _)) mb da (Nat.succ_pos _)
    exact⟨g',h0,_,_,rfl,rfl,.tup _ _ rfl (fun i x v h1 h2=>by
      match i with
      |0=>cases h1;cases h2;exact r1
      |1=>cases h1;cases h2;exact .int _ _
      | i+2=>simp at h1),r2,r3⟩
end Go.Am

