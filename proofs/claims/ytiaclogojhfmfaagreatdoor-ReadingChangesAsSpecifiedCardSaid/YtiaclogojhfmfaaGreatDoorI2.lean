/- Part I2: insertion into a slice. No condition. -/
import Derived.Test.YtiaclogojhfmfaaGreatDoorI1
import Derived.Test.YtiaclogojhfmfaaGreatDoorF2
set_option linter.unusedSimpArgs false
set_option linter.unusedVariables false
namespace Go.Am
open Go.Proofs Go.Shelf Go.RowKit Go.Lib
theorem Gj(w:World)(dT sT ty elem:TypeId)(b o dLen dCap:Nat)(a:Addr)(sLen sCap:Nat)(cs:List Value)(z m:Nat)(hm:m=Nat.min sLen dLen)(hu:Tryz.prog.underlying dT=some (.slice elem)) (hs:(Tryz.prog.info? elem).map (·.size)=some z) (hn:cs.length=m*z)(aX:∀j v,cs[j]?=some v->w.cell? (a.add j)=some v) (hc:∀j,j<cs.length->(w.cell? ⟨b,o+j,none⟩).isSome=true) (hf:∀j,j<cs.length->w.frozen? ⟨b,o+j,none⟩=false) (h1:∀v∈cs,v.oneCell'=true) : (Builtin.copy_ #[dT,sT] ty #[.slice (some ⟨b,o,none⟩) dLen dCap,.slice (some a) sLen sCap]).run Tryz.prog w=.ok (goInt (m:Nat)) (w.setCells b o cs):=by
 have hl:=run_loadCells_list (P:=Tryz.prog) w a cs aX;have aH:=run_storeCells_cells (P:=Tryz.prog) b o cs 0 w (by simpa using hc) (by simpa using hf) h1;subst hm;cases hq:Tryz.prog.info? elem with
 |none=>simp[hq]at hs
 |some i =>
  have hi:i.size=z:=by simpa [hq] using hs
  simp[Builtin.copy_,run_underlying hu,Builtin.lenOf,Builtin.firstCells,sizeOf,typeInfo,hq,hi,<-hn,hl,aH]
set_option maxHeartbeats 4000000 in
set_option maxRecDepth 100000 in
theorem jzr3(b off n c vb voff vc:Nat)(vs:List Value)(w:World)(aP:n+1<=c)(cr:c<=9223372036854775807)(co:vs.length=1*6) (da:∀j,j<1*6->(w.cell? ⟨b,off+n*6+j,none⟩).isSome=true) (cO:∀j,j<1*6->w.frozen? ⟨b,off+n*6+j,none⟩=false)(ce:∀j v,vs[j]?=some v->w.cell? ⟨vb,voff+j,none⟩=some v) (bS:∀v∈vs,v.oneCell'=true) :
  Calls Tryz.prog 48 #[.slice (some ⟨b,off,none⟩) n c,.int .i64 n,.slice (some ⟨vb,voff,none⟩) 1 vc] w fun e w' =>
   e=.returned (.slice (some ⟨b,off,none⟩) (n+1) c)/\w'=w.setCells b (off+n*6) vs:=by
 have t22:=Tryz.underlying22;have u22:=run_underlying Tryz.underlying22;have a22:=Tryz.isAgg22;have z22:=Tryz.sizeOf22;have v22:=Tryz.zeroValue22;have t4:=Tryz.underlying4;have u4:=run_underlying Tryz.underlying4;have a4:=Tryz.isAgg4;have z4:=Tryz.sizeOf4;have v4:=Tryz.zeroValue4;have t3:=Tryz.underlying3;have u3:=run_underlying Tryz.underlying3;have a3:=Tryz.isAgg3;have z3:=Tryz.sizeOf3;have v3:=Tryz.zeroValue3;have t25:=Tryz.underlying25;have u25:=run_underlying Tryz.underlying25;have a25:=Tryz.isAgg25;have z25:=Tryz.sizeOf25;have v25:=Tryz.zeroValue25;have mixed:Tryz.prog.follows .mixedOrders=true:=by kernel_rfl
 obtain⟨i0,c6,cP,bm,dv⟩:=info_parts (show(Tryz.prog.info? 25).map (fun i=>(i.zero,i.size,i.bytes))=some (some (.agg #[.int .i64 0,.int .i64 0,.int .i64 0,.int .i64 0,.int .i64 0,.int .i64 0]),6,48) by kernel_rfl);have aX:_root_.Go.Src Tryz.prog i0.size 22 (.slice (some ⟨vb,voff,none⟩) 1 vc) 1 vs w:=by rw[bm];exact _root_.Go.Src.ofSlice w Tryz.underlying22 ⟨vb,voff,none⟩ 1 vc vs (by omega) (fun j u hj=>by rw[Addr.add_lit];exact ce j u hj) bS
 have aG:∀ty,(Builtin.append_ #[22,22] ty #[.slice (some ⟨b,off,none⟩) n c,.slice (some ⟨vb,voff,none⟩) 1 vc]).run Tryz.prog w=_:=fun ty =>
  run_append_room_src (w:=w) 22 22 ty 25 i0 Tryz.underlying22 c6 b off n c _ 1 vs aX aP (by rw[bm,co];exact da) (by rw[bm,co];exact cO)
 rw[bm]at aG
 go_enter Tryz.func48,Tryz.ntmps48
 go_wp2_with (at_builtin;refine Lib.wpList_append_run _ rfl _ _ _ _ rfl _ _ rfl rfl _ _ (aG _) ?_)
 go_ret
 exact⟨rfl,rfl⟩
set_option maxHeartbeats 4000000 in
set_option maxRecDepth 100000 in
theorem jzr0(base:Option Addr)(n c vb voff vc:Nat)(cs vs:List Value)(w:World)(fB:n<=c)(aP:c<n+1)(dG:(n+1)*48<=140737488355328)(bw:cs.length=n*6) (co:vs.length=1*6) (bz:base=none->n=0)(aS:∀a,base=some a->∀j v,cs[j]?=some v->w.cell? (a.add j)=some v)(ce:∀j v,vs[j]?=some v->w.cell? ⟨vb,voff+j,none⟩=some v) (bS:∀v∈vs,v.oneCell'=true) :
  Calls Tryz.prog 48 #[.slice base n c,.int .i64 n,.slice (some ⟨vb,voff,none⟩) 1 vc] w fun e w' =>
   e=.returned (.slice (some ⟨w.heap.size,0,none⟩) (n+1) (grownCap w (n+1) c 25)) /\
   w'=w.drew.alloc (.cells ((cs++vs).toArray++Builtin.zeroCells (.agg #[.int .i64 0,.int .i64 0,.int .i64 0,.int .i64 0,.int .i64 0,.int .i64 0]:Value).cells (grownCap w (n+1) c 25-(n+1))) 25):=by
 have t22:=Tryz.underlying22;have u22:=run_underlying Tryz.underlying22;have a22:=Tryz.isAgg22;have z22:=Tryz.sizeOf22;have v22:=Tryz.zeroValue22;have t4:=Tryz.underlying4;have u4:=run_underlying Tryz.underlying4;have a4:=Tryz.isAgg4;have z4:=Tryz.sizeOf4;have v4:=Tryz.zeroValue4;have t3:=Tryz.underlying3;have u3:=run_underlying Tryz.underlying3;have a3:=Tryz.isAgg3;have z3:=Tryz.sizeOf3;have v3:=Tryz.zeroValue3;have t25:=Tryz.underlying25;have u25:=run_underlying Tryz.underlying25;have a25:=Tryz.isAgg25;have z25:=Tryz.sizeOf25;have v25:=Tryz.zeroValue25;have mixed:Tryz.prog.follows .mixedOrders=true:=by kernel_rfl
 obtain⟨i0,c6,cP,bm,dv⟩:=info_parts (show(Tryz.prog.info? 25).map (fun i=>(i.zero,i.size,i.bytes))=some (some (.agg #[.int .i64 0,.int .i64 0,.int .i64 0,.int .i64 0,.int .i64 0,.int .i64 0]),6,48) by kernel_rfl);have aX:_root_.Go.Src Tryz.prog i0.size 22 (.slice (some ⟨vb,voff,none⟩) 1 vc) 1 vs w:=by rw[bm];exact _root_.Go.Src.ofSlice w Tryz.underlying22 ⟨vb,voff,none⟩ 1 vc vs (by omega) (fun j u hj=>by rw[Addr.add_lit];exact ce j u hj) bS
 have aO:(Builtin.firstCells i0.size n (.slice base n c)).run Tryz.prog w.drew=.ok cs.toArray w.drew:=by
  rw[bm];cases base with
  |none =>have h0:=bz rfl;subst h0;have c8:cs=[]:=Ls.1 (by omega);rw[c8];exact run_firstCells_none w.drew 6 0 0 c
  |some a=>exact run_firstCells_some w.drew 6 n a n c cs (by omega) (fun j v hj=>aS a rfl j v hj)
 have aG:∀ty,(Builtin.append_ #[22,22] ty #[.slice base n c,.slice (some ⟨vb,voff,none⟩) 1 vc]).run Tryz.prog w=_:=fun ty =>
  run_append_grow_src (w:=w) 22 22 ty 25 i0 _ Tryz.underlying22 c6 cP base n c cs aO _ 1 vs aX aP (by omega) (by rw[dv];exact growslice_fits aP dG)
 go_enter Tryz.func48,Tryz.ntmps48
 cases base with
 |none =>
  have h0:=bz rfl;subst h0
  go_wp2_with (at_builtin;refine Lib.wpList_append_run _ rfl _ _ _ _ rfl _ _ rfl rfl _ _ (aG _) ?_)
  go_ret
  exact⟨rfl,rfl⟩
 |some a =>
  obtain⟨ab,ao,asp⟩:=a
  go_wp2_with (at_builtin;refine Lib.wpList_append_run _ rfl _ _ _ _ rfl _ _ rfl rfl _ _ (aG _) ?_)
  all_goals (go_ret;exact⟨rfl,rfl⟩)
set_option maxHeartbeats 4000000 in
set_option maxRecDepth 100000 in
theorem jzst(b off n c i vb voff vc:Nat)(cs vs:List Value)(w:World)(hi:i<n)(aP:n+1<=c)(cr:c<=9223372036854775807)(hZ:vb≠b)(bw:cs.length=n*6) (co:vs.length=1*6)(aS:∀j v,cs[j]?=some v->w.cell? ⟨b,off+j,none⟩=some v) (da:∀j,j<(n+1)*6->(w.cell? ⟨b,off+j,none⟩).isSome=true) (cO:∀j,j<(n+1)*6->w.frozen? ⟨b,off+j,none⟩=false)(ce:∀j v,vs[j]?=some v->w.cell? ⟨vb,voff+j,none⟩=some v) (bT:∀v∈cs,v.oneCell'=true) (bS:∀v∈vs,v.oneCell'=true)(tA tB:TypeId) (kA kB:Nat) (eN:w.shape? vb=some (tA,kA)) (lD:w.shape? b=some (tB,kB)) (lE:kB≠0) (gI:w.frozen? ⟨vb,voff,none⟩=false) (ia:w.frozen? ⟨vb,kA,none⟩=false) :
  Calls Tryz.prog 48 #[.slice (some ⟨b,off,none⟩) n c,.int .i64 i,.slice (some ⟨vb,voff,none⟩) 1 vc] w fun e w' =>
   e=.returned (.slice (some ⟨b,off,none⟩) (n+1) c)/\w'=(w.drew.setCells b (off+(i+1)*6) (cs.drop (i*6))).setCells b (off+i*6) vs:=by
 have t22:=Tryz.underlying22;have u22:=run_underlying Tryz.underlying22;have a22:=Tryz.isAgg22;have z22:=Tryz.sizeOf22;have v22:=Tryz.zeroValue22;have t4:=Tryz.underlying4;have u4:=run_underlying Tryz.underlying4;have a4:=Tryz.isAgg4;have z4:=Tryz.sizeOf4;have v4:=Tryz.zeroValue4;have t3:=Tryz.underlying3;have u3:=run_underlying Tryz.underlying3;have a3:=Tryz.isAgg3;have z3:=Tryz.sizeOf3;have v3:=Tryz.zeroValue3;have t25:=Tryz.underlying25;have u25:=run_underlying Tryz.underlying25;have a25:=Tryz.isAgg25;have z25:=Tryz.sizeOf25;have v25:=Tryz.zeroValue25;have mixed:Tryz.prog.follows .mixedOrders=true:=by kernel_rfl
 obtain⟨i0,c6,cP,bm,dv⟩:=info_parts (show(Tryz.prog.info? 25).map (fun i=>(i.zero,i.size,i.bytes))=some (some (.agg #[.int .i64 0,.int .i64 0,.int .i64 0,.int .i64 0,.int .i64 0,.int .i64 0]),6,48) by kernel_rfl);have fO:¬((i:Int)=(n:Int)):=by omega
 have lF:∀lb cb,(callFunc 81 #[.slice (some ⟨vb,voff,none⟩) 1 vc,.slice (some ⟨b,off+(i+1)*6,none⟩) lb cb]).run Tryz.prog w=.ok (.value (.bool false)) w:=fun lb cb=>by
  rw[run_callFunc_extern Tryz.func81 (by kernel_rfl) (by kernel_rfl) (by kernel_rfl) (e:=Extern.SlicesOverlaps.overlaps #[22,22] #[4]) (by kernel_rfl),
   Lib.run_overlaps_apart w 22 4 25 Tryz.underlying22 6 z25 ⟨vb,voff,none⟩ ⟨b,off+(i+1)*6,none⟩ 1 vc lb cb hZ tA tB kA kB eN lD lE gI ia]
  rfl
 have dV:(cs.drop (i*6)).length=(n-i)*6:=by rw[CO,bw];omega
 have aI:(Tryz.prog.info? 25).map (·.size)=some 6:=by rw[c6];simp[bm]
 have lG:IntKind.i64.wrap ((i:Int)+(1:Int))=(i:Int)+(1:Int):=by rw[IntKind.wrap_i64];omega
 have dt:(0:Int)<=(i:Int)+(1:Int):=by omega
 have aQ:i<=n:=by omega
 have lH:((i:Int)+(1:Int)).toNat=i+1:=by omega
 have dq:¬(c=i+1):=by omega
 have fk:(i:Int)<=(n:Int)+(1:Int):=by omega
 have oH:¬(c=i):=by omega
 have fC:∀ty dc sc,(Builtin.copy_ #[22,22] ty #[.slice (some ⟨b,off+(i+1)*6,none⟩) (n-i) dc,.slice (some ⟨b,off+i*6,none⟩) (n+1-i) sc]).run Tryz.prog w.drew=.ok (goInt (n-i:Nat)) (w.drew.setCells b (off+(i+1)*6) (cs.drop (i*6))):=fun ty dc sc =>
  Gj w.drew _ _ ty 25 b (off+(i+1)*6) (n-i) dc ⟨b,off+i*6,none⟩ (n+1-i) sc (cs.drop (i*6)) 6 (n-i) (by simp only[Nat.min_def];split<;>omega) Tryz.underlying22 aI dV (fun j v hj=>by rw[Addr.add_lit,Dh];exact aS (i*6+j) v (by rwa [Ec]at hj)) (fun j hj=>by rw[Dh];exact da _ (by omega)) (fun j hj=>by rw[Dh];exact cO _ (by omega)) (fun v hv=>bT v (Oq hv))
 obtain⟨W1,c7⟩:∃W1,W1=w.drew.setCells b (off+(i+1)*6) (cs.drop (i*6)):=⟨_,rfl⟩;have ib:∀k,k<(n+1)*6->(W1.cell? ⟨b,off+k,none⟩).isSome=true:=fun k hk=>by rw[c7];exact isSome_setCells b _ _ _ (fun j hj=>by rw[Dh];exact da _ (by omega)) _ (da k hk)
 have ic:∀(W:World),(∀x,W.cell? x=W1.cell? x)->(∀x,W.frozen? x=W1.frozen? x)->∀ty dc,(Builtin.copy_ #[22,22] ty #[.slice (some ⟨b,off+i*6,none⟩) (n+1-i) dc,.slice (some ⟨vb,voff,none⟩) 1 vc]).run Tryz.prog W=.ok (goInt (1:Nat)) (W.setCells b (off+i*6) vs):=fun W dH fD ty dc =>
  Gj W _ _ ty 25 b (off+i*6) (n+1-i) dc ⟨vb,voff,none⟩ 1 vc vs 6 1 (by simp only[Nat.min_def];split<;>omega) Tryz.underlying22 aI co (fun j v hj=>by rw[Addr.add_lit,dH,c7,World.cell?_setCells_out b _ _ _ _ (fun h _=>absurd h hZ)];exact ce j v hj) (fun j hj=>by rw[dH,Dh];exact ib _ (by omega)) (fun j hj=>by rw[fD,c7,World.frozen?_setCells,Dh];exact cO _ (by omega)) bS
 rw[<-c7]at fC
 go_enter Tryz.func48,Tryz.ntmps48
 go_wp2_with (simp only[lF])
 go_region_law_o (refine step_copy_runI rfl _ _ 22 22 rfl _ _ (by simp[Act.eval,Act.put]) (by simp[Act.eval,Act.put]) (fC _ _ _) ?_)
 go_wp2_with (at_builtin;refine wpList_copy_runI _ rfl _ _ 22 22 rfl _ _ rfl rfl (ic _ (fun _=>rfl) (fun _=>rfl) _ _) ?_)
 go_ret
 first|exact⟨rfl,rfl⟩|exact⟨rfl,by rw[c7]⟩
set_option maxHeartbeats 4000000 in
set_option maxRecDepth 100000 in
theorem jzs2(b off n c i vb voff vc:Nat)(cs vs:List Value)(w:World)(hi:i<n)(fB:n<=c)(aP:c<n+1)(dG:(n+1)*48<=140737488355328)(bw:cs.length=n*6) (co:vs.length=1*6)(aS:∀j v,cs[j]?=some v->w.cell? ⟨b,off+j,none⟩=some v)(ce:∀j v,vs[j]?=some v->w.cell? ⟨vb,voff+j,none⟩=some v) (bT:∀v∈cs,v.oneCell'=true) (bS:∀v∈vs,v.oneCell'=true) :
  Calls Tryz.prog 48 #[.slice (some ⟨b,off,none⟩) n c,.int .i64 i,.slice (some ⟨vb,voff,none⟩) 1 vc] w fun e w' =>
   ∃(G:Nat) (ROW:Array Value),n+1<=G/\G<=9223372036854775807/\(n+1)*6<=ROW.size/\ROW.size=G*6/\(∀j,j<i*6->ROW[j]?=cs[j]?)/\e=.returned (.slice (some ⟨w.heap.size,0,none⟩) (n+1) G) /\
   w'=(((w.alloc (.cells ROW 25)).drew.setCells w.heap.size (i*6) vs).drew).setCells w.heap.size ((i+1)*6) (cs.drop (i*6)):=by
 have t22:=Tryz.underlying22;have u22:=run_underlying Tryz.underlying22;have a22:=Tryz.isAgg22;have z22:=Tryz.sizeOf22;have v22:=Tryz.zeroValue22;have t4:=Tryz.underlying4;have u4:=run_underlying Tryz.underlying4;have a4:=Tryz.isAgg4;have z4:=Tryz.sizeOf4;have v4:=Tryz.zeroValue4;have t3:=Tryz.underlying3;have u3:=run_underlying Tryz.underlying3;have a3:=Tryz.isAgg3;have z3:=Tryz.sizeOf3;have v3:=Tryz.zeroValue3;have t25:=Tryz.underlying25;have u25:=run_underlying Tryz.underlying25;have a25:=Tryz.isAgg25;have z25:=Tryz.sizeOf25;have v25:=Tryz.zeroValue25;have mixed:Tryz.prog.follows .mixedOrders=true:=by kernel_rfl
 obtain⟨i0,c6,cP,bm,dv⟩:=info_parts (show(Tryz.prog.info? 25).map (fun i=>(i.zero,i.size,i.bytes))=some (some (.agg #[.int .i64 0,.int .i64 0,.int .i64 0,.int .i64 0,.int .i64 0,.int .i64 0]),6,48) by kernel_rfl);have fO:¬((i:Int)=(n:Int)):=by omega
 have oI:(c:Int)<(n:Int)+(1:Int):=by omega
 have aI:(Tryz.prog.info? 25).map (·.size)=some 6:=by rw[c6];simp[bm]
 have lI:b<w.heap.size:=block_lt_of_cell (aS 0 _ (AD (by omega)));have lJ:vb<w.heap.size:=block_lt_of_cell (ce 0 _ (AD (by omega)));have fA:(n:Int)+(1:Int)-(i:Int)=((n+1-i:Nat):Int):=by omega
 have dE:i+(n+1-i)=n+1:=by omega
 have ie:(cs.take (i*6)).length=i*6:=by rw[Df];omega
 have aO:(Builtin.firstCells i0.size i (.slice (some ⟨b,off,none⟩) i c)).run Tryz.prog w.drew=.ok (cs.take (i*6)).toArray w.drew:=by
  rw[bm]
  exact run_firstCells_some w.drew 6 i ⟨b,off,none⟩ i c (cs.take (i*6)) (by omega) (fun j v hj=>by
   rw[Addr.add_lit];rw[Fl]at hj;split at hj
   ·exact aS j v hj
   ·cases hj)
 have gf:∀ty,(Builtin.append_ #[22,3] ty #[.slice (some ⟨b,off,none⟩) i c,.int .i64 ((n:Int)+(1:Int)-(i:Int))]).run Tryz.prog w =
   .ok (.slice (some ⟨w.heap.size,0,none⟩) (n+1) (grownCap w (n+1) c 25)) (w.drew.alloc (.cells ((cs.take (i*6)).toArray++Builtin.zeroCells (.agg #[.int .i64 0,.int .i64 0,.int .i64 0,.int .i64 0,.int .i64 0,.int .i64 0]:Value).cells (n+1-i)++Builtin.zeroCells (.agg #[.int .i64 0,.int .i64 0,.int .i64 0,.int .i64 0,.int .i64 0,.int .i64 0]:Value).cells (grownCap w (n+1) c 25-(n+1))) 25)):=fun ty=>by
  have h:=Lib.run_append_grow_zeros (P:=Tryz.prog) w 22 3 ty 25 i0 _ .i64 .i64 Tryz.underlying22 Tryz.underlying3 c6 cP (some ⟨b,off,none⟩) i c (cs.take (i*6)) aO (n+1-i) (by omega) (by omega) (by omega) (by omega) (by rw[dv];omega) (by rw[dv,dE];exact growslice_fits aP dG);rw[dE]at h;rw[fA];exact h
 obtain⟨G,hG⟩:∃G,G=grownCap w (n+1) c 25:=⟨_,rfl⟩;obtain⟨ROW,dw⟩:∃ROW:Array Value,ROW=(cs.take (i*6)).toArray++Builtin.zeroCells (.agg #[.int .i64 0,.int .i64 0,.int .i64 0,.int .i64 0,.int .i64 0,.int .i64 0]:Value).cells (n+1-i)++Builtin.zeroCells (.agg #[.int .i64 0,.int .i64 0,.int .i64 0,.int .i64 0,.int .i64 0,.int .i64 0]:Value).cells (G-(n+1)):=⟨_,rfl⟩;rw[<-hG]at gf;rw[<-dw]at gf;have lK:n+1<=G:=by rw[hG];exact grownCap_ge w _ _ _
 have cQ:∀k,(Builtin.zeroCells (.agg #[.int .i64 0,.int .i64 0,.int .i64 0,.int .i64 0,.int .i64 0,.int .i64 0]:Value).cells k).size=k*6:=fun k=>by simp[Builtin.zeroCells,Value.cells]
 have lL:ROW.size=G*6:=by rw[dw,HG,HG,cQ,cQ,FO,ie];omega
 have ks:(n+1)*6<=ROW.size:=by omega
 have lM:∀j,j<i*6->ROW[j]?=cs[j]?:=fun j hj=>by rw[dw,J5 (by rw[HG,FO,ie];omega),J5 (by rw[FO,ie];omega),GI,Fl,An hj]
 obtain⟨W1,c7⟩:∃W1,W1=w.drew.alloc (.cells ROW 25):=⟨_,rfl⟩;rw[<-c7]at gf;have hN:∀j,j<(n+1)*6->(W1.cell? ⟨w.heap.size,j,none⟩).isSome=true:=fun j hj=>by rw[c7,World.cell?_alloc_at (w:=w.drew) ROW _ w.heap.size j rfl,DD (by omega)];rfl
 have jx:∀j,W1.frozen? ⟨w.heap.size,j,none⟩=false:=fun j=>by rw[c7];exact World.frozen?_alloc_at (w:=w.drew) ROW _ w.heap.size j rfl
 have lN:∀j v,w.cell? ⟨b,j,none⟩=some v->W1.cell? ⟨b,j,none⟩=some v:=fun j v h=>by rw[c7,World.cell?_alloc_past (w:=w.drew) _ b j lI];exact h
 have lO:∀j v,w.cell? ⟨vb,j,none⟩=some v->W1.cell? ⟨vb,j,none⟩=some v:=fun j v h=>by rw[c7,World.cell?_alloc_past (w:=w.drew) _ vb j lJ];exact h
 have ig:∀(W:World),(∀x,W.cell? x=W1.cell? x)->(∀x,W.frozen? x=W1.frozen? x)->∀ty dc,(Builtin.copy_ #[22,22] ty #[.slice (some ⟨w.heap.size,i*6,none⟩) (n+1-i) dc,.slice (some ⟨vb,voff,none⟩) 1 vc]).run Tryz.prog W=.ok (goInt (1:Nat)) (W.setCells w.heap.size (i*6) vs):=fun W dH fD ty dc =>
  Gj W _ _ ty 25 w.heap.size (i*6) (n+1-i) dc ⟨vb,voff,none⟩ 1 vc vs 6 1 (by simp only[Nat.min_def];split<;>omega) Tryz.underlying22 aI co (fun j v hj=>by rw[Addr.add_lit,dH];exact lO _ v (ce j v hj)) (fun j hj=>by rw[dH];exact hN _ (by omega)) (fun j hj=>by rw[fD];exact jx _) bS
 have ii:G<=9223372036854775807:=by have:=grownCap_le_maxLen w (n+1) c 25 (by unfold maxLen;omega);rw[<-hG]at this;unfold maxLen at this;omega
 have oJ:¬(G=i):=by omega
 have lP:¬(G=i+1):=by omega
 have kc:¬(c=i):=by omega
 have lQ:b≠w.heap.size:=by omega
 have dV:(cs.drop (i*6)).length=(n-i)*6:=by rw[CO,bw];omega
 have fE:∀(W:World),(∀x,W.cell? x=(W1.setCells w.heap.size (i*6) vs).cell? x)->(∀x,W.frozen? x=(W1.setCells w.heap.size (i*6) vs).frozen? x)->∀ty dc sc,(Builtin.copy_ #[22,22] ty #[.slice (some ⟨w.heap.size,(i+1)*6,none⟩) (n-i) dc,.slice (some ⟨b,off+i*6,none⟩) (n-i) sc]).run Tryz.prog W=.ok (goInt (n-i:Nat)) (W.setCells w.heap.size ((i+1)*6) (cs.drop (i*6))):=fun W dH fD ty dc sc =>
  Gj W _ _ ty 25 w.heap.size ((i+1)*6) (n-i) dc ⟨b,off+i*6,none⟩ (n-i) sc (cs.drop (i*6)) 6 (n-i) (by simp only[Nat.min_def];split<;>omega) Tryz.underlying22 aI dV (fun j v hj=>by rw[Addr.add_lit,dH,World.cell?_setCells_out _ _ _ _ _ (fun h _=>absurd h lQ),Dh];exact lN _ v (aS (i*6+j) v (by rwa [Ec]at hj))) (fun j hj=>by rw[dH];exact isSome_setCells _ _ _ _ (fun t ht=>hN _ (by omega)) _ (hN _ (by omega))) (fun j hj=>by rw[fD,World.frozen?_setCells];exact jx _) (fun v hv=>bT v (Oq hv))
 subst c7;have lR:∀x,((w.alloc (.cells ROW 25)).drew).cell? x=(w.drew.alloc (.cells ROW 25)).cell? x:=fun x=>rfl;have lS:∀x,((w.alloc (.cells ROW 25)).drew).frozen? x=(w.drew.alloc (.cells ROW 25)).frozen? x:=fun x=>rfl;have lT:∀x,(((w.alloc (.cells ROW 25)).drew.setCells w.heap.size (i*6) vs).drew).cell? x=((w.drew.alloc (.cells ROW 25)).setCells w.heap.size (i*6) vs).cell? x:=fun x=>rfl;have lU:∀x,(((w.alloc (.cells ROW 25)).drew.setCells w.heap.size (i*6) vs).drew).frozen? x=((w.drew.alloc (.cells ROW 25)).setCells w.heap.size (i*6) vs).frozen? x:=fun x=>rfl;have lG:IntKind.i64.wrap ((i:Int)+(1:Int))=(i:Int)+(1:Int):=by rw[IntKind.wrap_i64];omega
 have dt:(0:Int)<=(i:Int)+(1:Int):=by omega
 have aQ:i<=n:=by omega
 have lH:((i:Int)+(1:Int)).toNat=i+1:=by omega
 have fk:(i:Int)<=(n:Int):=by omega
 clear fA dE aO dw hG
 go_enter Tryz.func48,Tryz.ntmps48
 go_wp2_with (first
  |(at_builtin;refine Lib.wpList_append_run _ rfl _ _ _ _ rfl _ _ rfl rfl _ _ (gf _) ?_)
  |(at_builtin;refine wpList_copy_runI _ rfl _ _ 22 22 rfl _ _ rfl rfl (ig _ lR lS _ _) ?_)
  | (at_builtin;refine wpList_copy_runI _ rfl _ _ 22 22 rfl _ _ rfl rfl (fE _ (fun _=>rfl) (fun _=>rfl) _ _ _) ?_))
 go_region_law_o (refine step_copy_runI rfl _ _ 22 22 rfl (.slice (some ⟨w.heap.size,(i+1)*6,none⟩) (n-i) (G-(i+1))) (.slice (some ⟨b,off+i*6,none⟩) (n-i) (c-i)) (by simp[Act.eval,Act.put]) (by simp[Act.eval,Act.put]) (fE _ lT lU 3 (G-(i+1)) (c-i)) ?_)
 go_wp2
 go_ret
 exact⟨G,ROW,lK,ii,ks,lL,lM,rfl,rfl⟩
theorem jzu7{s0:Nat}{w:World}{base:Option Addr}{n c i vb:Nat}{cs vs:List Value}{tv:TypeId}(bU:s0<=w.heap.size)(hm:Mne 6 s0 w base n c cs)(hi:i<=n)(hn:n<=100000)(hv:w.heap[vb]?=some (.cells vs.toArray tv (0,0)))(co:vs.length=6)(bS:∀v∈vs,v.oneCell'=true)
  (aJ:∀b,base=some ⟨b,0,none⟩->b≠vb):Calls Tryz.prog 48 #[.slice base n c,.int .i64 i,.slice (some ⟨vb,0,none⟩) 1 1] w fun e w' =>
   ∃base' c',e=.returned (.slice base' (n+1) c')/\Mne 6 s0 w' base' (n+1) c' (cs.take (i*6)++vs++cs.drop (i*6))/\Pst s0 w w':=by
 obtain⟨fB,cr,bw,bT,hl⟩:=hm;have hZ:=(CQ.1 hv).1;have ce:∀(j:Nat) (v:Value),vs[j]?=some v->w.cell? ⟨vb,0+j,none⟩=some v:=fun j v h=>by rw[Ci,(Bm hv j).1,GI];exact h
 have dF:(cs.take (i*6)++vs++cs.drop (i*6)).length=(n+1)*6:=by rw[Ch,Ch,Df,CO,bw,co];omega
 have gg:∀v∈cs.take (i*6)++vs++cs.drop (i*6),v.oneCell'=true:=fun v h=>by
  rcases Bh.1 h with h|h
  ·rcases Bh.1 h with h|h;·exact bT v (List.mem_of_mem_take h)
   ·exact bS v h
  ·exact bT v (Oq h)
 have bO:=VP (i:=i) (z:=6) (cs:=cs) (vs:=vs) (by omega) co;by_cases aQ:i=n
 ·subst aQ;have lV:cs.drop (i*6)=[]:=Tr.2 (by omega);have ju:cs.take (i*6)=cs:=FT (by omega);by_cases hr:i+1<=c
  ·rcases hl with ⟨_,_,h0⟩|⟨b,arr,ty,rfl,hb,hh,g7,hc⟩;·omega
   have aJ:=aJ b rfl;refine(jzr3 b 0 i c vb 0 1 vs w hr cr (by omega) (fun j hj=>by rw[(Bm hh _).1,DD (by omega)];rfl) (fun j hj=>(Bm hh _).2.1) ce bS).mono ?_;rintro e w' ⟨rfl,rfl⟩;obtain⟨arr',e1,e2,e3,e4⟩:=DR vs (0+i*6) w arr hh (by omega);refine⟨_,_,rfl,⟨hr,cr,dF,gg,.inr ⟨b,arr',ty,rfl,hb,e1,by omega,fun j v hj=>?_⟩⟩,Pst.setCells hb hh (by omega)⟩;rw[bO]at hj;rw[e3];by_cases c1:j<i*6
   ·rw[An c1]at hj;rw[Ak (by omega)];exact hc j v hj
   ·rw[Ak c1]at hj;by_cases c2:j<(i+1)*6
    ·rw[An c2]at hj;rw[An (by omega),Ci];exact hj
    ·rw[Ak c2]at hj;have:=(AK.1 hj).1;omega
  ·have ij:c<i+1:=by omega
   refine(jzr0 base i c vb 0 1 cs vs w fB ij (by omega) bw (by omega) (fun e=>by
    rcases hl with ⟨_,h,_⟩|⟨b,arr,ty,h,_⟩
    ·exact h
    ·rw[h]at e;cases e) (fun a ha j v hj=>by
    rcases hl with ⟨h,_⟩|⟨b,arr,ty,h,hb,hh,g7,hc⟩
    ·rw[h]at ha;cases ha
    ·rw[h]at ha;cases ha;rw[show(⟨b,0,none⟩:Addr).add j=⟨b,j,none⟩ by rw[Addr.add_lit,Ci],(Bm hh j).1];exact hc j v hj) ce bS).mono ?_
   rintro e w' ⟨rfl,rfl⟩;have hG:=grownCap_ge w (i+1) c 25;have hz:(Builtin.zeroCells (.agg #[.int .i64 0,.int .i64 0,.int .i64 0,.int .i64 0,.int .i64 0,.int .i64 0]:Value).cells (grownCap w (i+1) c 25-(i+1))).size=(grownCap w (i+1) c 25-(i+1))*6:=by simp[Builtin.zeroCells,Value.cells]
   have il:=grownCap_le_maxLen w (i+1) c 25 (by unfold maxLen;omega);unfold maxLen at il;refine⟨_,_,rfl,⟨hG,by omega,dF,gg,.inr ⟨w.heap.size,_,_,rfl,bU,CZ w.drew _,?_,fun j v hj=>?_⟩⟩,(Pst.drew w).trans (Pst.alloc (w:=w.drew) bU _)⟩
   ·rw[HG,hz,FO,Ch];omega
   ·rw[lV,ju,List.append_nil]at hj;have:=(AK.1 hj).1;rw[J5 (by rw[FO];exact this),GI];exact hj
 ·have hlt:i<n:=by omega
  rcases hl with ⟨_,h0,_⟩|⟨b,arr,ty,rfl,hb,hh,g7,hc⟩
  ·omega
  have aJ:=aJ b rfl;have aS:∀(j:Nat) (v:Value),cs[j]?=some v->w.cell? ⟨b,0+j,none⟩=some v:=fun j v h=>by rw[Ci,(Bm hh j).1];exact hc j v h
  by_cases hr:n+1<=c
  ·refine(jzst b 0 n c i vb 0 1 cs vs w hlt hr cr (Ne.symm aJ) bw (by omega) aS (fun j hj=>by rw[(Bm hh _).1,DD (by omega)];rfl) (fun j hj=>(Bm hh _).2.1) ce bT bS _ _ _ _ (Bm hv 0).2.2 (Bm hh 0).2.2 (by omega) (Bm hv 0).2.1 (Bm hv _).2.1).mono ?_;rintro e w' ⟨rfl,rfl⟩;have dV:(cs.drop (i*6)).length=(n-i)*6:=by rw[CO,bw];omega
   obtain⟨arr',e1,e2,e3,e4⟩:=DR (cs.drop (i*6)) (0+(i+1)*6) w.drew arr hh (by omega);obtain⟨arr2,f1,f2,f3,f4⟩:=DR vs (0+i*6) _ arr' e1 (by omega);refine⟨_,_,rfl,⟨hr,cr,dF,gg,.inr ⟨b,arr2,ty,rfl,hb,f1,by omega,fun j v hj=>?_⟩⟩,((Pst.drew w).trans (Pst.setCells hb hh (by omega))).trans (Pst.setCells hb e1 (by omega))⟩;rw[bO]at hj;rw[f3,e3];by_cases c1:j<i*6
   ·rw[An c1]at hj;rw[Ak (by omega),Ak (by omega)];exact hc j v hj
   ·rw[Ak c1]at hj;by_cases c2:j<(i+1)*6
    ·rw[An c2]at hj;rw[An (by omega),Ci];exact hj
    ·rw[Ak c2]at hj;have:=(AK.1 hj).1;rw[Ak (by omega),An (by omega),Ec,show i*6+(j-(0+(i+1)*6))=j-6 by omega];exact hj
  ·refine(jzs2 b 0 n c i vb 0 1 cs vs w hlt fB (by omega) (by omega) bw (by omega) aS ce bT bS).mono ?_;rintro e w' ⟨G,ROW,g1,g63,g2,g3,g4,rfl,rfl⟩;have dV:(cs.drop (i*6)).length=(n-i)*6:=by rw[CO,bw];omega
   have hR:(w.alloc (.cells ROW 25)).drew.heap[w.heap.size]?=some (.cells ROW 25 (0,0)):=CZ w _;obtain⟨arr',e1,e2,e3,e4⟩:=DR vs (i*6) (w.alloc (.cells ROW 25)).drew ROW hR (by omega);have e1':(((w.alloc (.cells ROW 25)).drew.setCells w.heap.size (i*6) vs).drew).heap[w.heap.size]?=some (.cells arr' 25 (0,0)):=e1;obtain⟨arr2,f1,f2,f3,f4⟩:=DR (cs.drop (i*6)) ((i+1)*6) _ arr' e1' (by omega);refine⟨_,_,rfl,⟨g1,g63,dF,gg,.inr ⟨w.heap.size,arr2,_,rfl,bU,f1,by omega,fun j v hj=>?_⟩⟩,((((Pst.alloc bU _).trans (Pst.drew _)).trans (Pst.setCells bU hR (by omega))).trans (Pst.drew _)).trans (Pst.setCells bU e1' (by omega))⟩;rw[bO]at hj;rw[f3,e3];by_cases c1:j<i*6
   ·rw[An c1]at hj;rw[Ak (by omega),Ak (by omega),g4 j c1];exact hj
   ·rw[Ak c1]at hj;by_cases c2:j<(i+1)*6
    ·rw[An c2]at hj;rw[Ak (by omega),An (by omega)];exact hj
    ·rw[Ak c2]at hj;have:=(AK.1 hj).1;rw[An (by omega),Ec,show i*6+(j-(i+1)*6)=j-6 by omega];exact hj
set_option maxHeartbeats 4000000 in
set_option maxRecDepth 100000 in
theorem jzvb{s0:Nat}{w:World}{base:Option Addr}{n c:Nat}{cs:List Value}(bU:s0<=w.heap.size)(bw:cs.length=n*6)(bz:base=none->n=0)(aS:∀a,base=some a->∀(j:Nat) (v:Value),cs[j]?=some v->w.cell? (a.add j)=some v)(bT:∀v∈cs,v.oneCell'=true) (hn:n<=100000):Calls Tryz.prog 49 #[.slice base n c] w fun e w'=>∃base' c',e=.returned (.slice base' n c')/\Mne 6 s0 w' base' n c' cs/\Pst s0 w w':=by
 have t22:=Tryz.underlying22;have u22:=run_underlying Tryz.underlying22;have a22:=Tryz.isAgg22;have z22:=Tryz.sizeOf22;have v22:=Tryz.zeroValue22;have t4:=Tryz.underlying4;have u4:=run_underlying Tryz.underlying4;have a4:=Tryz.isAgg4;have z4:=Tryz.sizeOf4;have v4:=Tryz.zeroValue4;have t3:=Tryz.underlying3;have u3:=run_underlying Tryz.underlying3;have a3:=Tryz.isAgg3;have z3:=Tryz.sizeOf3;have v3:=Tryz.zeroValue3;have t25:=Tryz.underlying25;have u25:=run_underlying Tryz.underlying25;have a25:=Tryz.isAgg25;have z25:=Tryz.sizeOf25;have v25:=Tryz.zeroValue25;have mixed:Tryz.prog.follows .mixedOrders=true:=by kernel_rfl
 obtain⟨i0,c6,cP,bm,dv⟩:=info_parts (show(Tryz.prog.info? 25).map (fun i=>(i.zero,i.size,i.bytes))=some (some (.agg #[.int .i64 0,.int .i64 0,.int .i64 0,.int .i64 0,.int .i64 0,.int .i64 0]),6,48) by kernel_rfl);have e22:=fun w a n c n' c'=>Lib.run_eql_slice_nil (P:=Tryz.prog) w 22 25 a n c n' c' Tryz.underlying22;cases base with
 |none =>
  obtain rfl:=bz rfl
  go_enter Tryz.func49,Tryz.ntmps49
  go_wp2_with (simp only[e22])
  go_ret
  exact⟨none,0,rfl,⟨AC _,by omega,bw,bT,.inl ⟨rfl,rfl,rfl⟩⟩,Pst.refl _ _⟩
 |some a =>
  have aS:=aS a rfl;have aX:∀W:World,(∀j,j<cs.length->W.cell? (a.add j)=w.cell? (a.add j))->_root_.Go.Src Tryz.prog i0.size 22 (.slice (some a) n c) n cs W:=fun W hW=>by rw[bm];exact _root_.Go.Src.ofSlice W Tryz.underlying22 a n c cs bw (fun j u hj=>by rw[hW j (AK.1 hj).1];exact aS j u hj) bT
  obtain⟨ab,ao,asp⟩:=a;by_cases h0:n=0
  ·subst h0;obtain rfl:cs=[]:=Ls.1 (by omega)
   have aG:∀ty,(Builtin.append_ #[22,22] ty #[.slice (some ⟨w.heap.size,0,none⟩) 0 0,.slice (some ⟨ab,ao,asp⟩) 0 c]).run Tryz.prog (w.alloc (.cells #[] 25))=_:=fun ty =>
    run_append_nothing (w.alloc (.cells #[] 25)) 22 22 ty 25 i0 Tryz.underlying22 c6 _ 0 0 (AC _) _ (aX _ fun j hj=>by simp at hj)
   go_enter Tryz.func49,Tryz.ntmps49
   go_wp2_with (first
    |simp only[e22]
    | (at_builtin;refine Lib.wpList_append_run _ rfl _ _ _ _ rfl _ _ rfl rfl _ _ (aG _) ?_))
   go_ret
   exact⟨_,_,rfl,⟨AC _,by omega,bw,bT,.inr ⟨w.heap.size,#[],25,rfl,bU,CZ w _,rfl,fun j v hj=>by simp at hj⟩⟩,Pst.alloc bU _⟩
  ·have dI:ab<w.heap.size:=by
    have h1:=aS 0 _ (AD (by omega));rw[show(⟨ab,ao,asp⟩:Addr).add 0=⟨ab,ao,asp⟩ by simp[Addr.add]]at h1;exact block_lt_of_cell h1
   have aG:∀ty,(Builtin.append_ #[22,22] ty #[.slice (some ⟨w.heap.size,0,none⟩) 0 0,.slice (some ⟨ab,ao,asp⟩) n c]).run Tryz.prog (w.alloc (.cells #[] 25))=_:=fun ty =>
    run_append_grow_src (w:=w.alloc (.cells #[] 25)) 22 22 ty 25 i0 _ Tryz.underlying22 c6 cP (some ⟨w.heap.size,0,none⟩) 0 0 [] (run_firstCells_some _ i0.size 0 _ 0 0 [] (by simp) (fun j v hj=>by simp at hj)) _ n cs (aX _ fun j hj=>by refine World.cell?_alloc_lt _ _ _ ?_;show((⟨ab,ao,asp⟩:Addr).add j).block<_;unfold Addr.add;split<;>exact dI) (by omega) (by omega) (by rw[dv];exact growslice_fits (by omega) (by omega))
   go_enter Tryz.func49,Tryz.ntmps49
   go_wp2_with (first
    |simp only[e22]
    | (at_builtin;refine Lib.wpList_append_run _ rfl _ _ _ _ rfl _ _ rfl rfl _ _ (aG _) ?_))
   go_ret
   have hG:=grownCap_ge (w.alloc (.cells #[] 25)) n 0 25;have il:=grownCap_le_maxLen (w.alloc (.cells #[] 25)) n 0 25 (by unfold maxLen;omega);unfold maxLen at il;have cR:(w.alloc (.cells #[] 25)).heap.size=w.heap.size+1:=World.size_alloc _ _
   have hh:∀o,((w.alloc (.cells #[] 25)).drew.alloc o).heap[w.heap.size+1]?=some o:=fun o=>by
    have:=CZ (w.alloc (.cells #[] 25)).drew o
    rwa [show(w.alloc (.cells #[] 25)).drew.heap.size=w.heap.size+1 from cR]at this
   refine⟨_,_,rfl,⟨hG,by omega,bw,bT,.inr ⟨w.heap.size+1,_,_,rfl,by omega,hh _,?_,fun j v hj=>?_⟩⟩,((Pst.alloc bU _).trans (Pst.drew _)).trans (Pst.alloc (w:=(w.alloc (.cells #[] 25)).drew) (by show s0<=(w.alloc (.cells #[] 25)).heap.size;omega) _)⟩
   ·simp only[HG,FO,Ot,bw];simp[Builtin.zeroCells,Value.cells];omega
   ·have:=(AK.1 hj).1;rw[J5 (by simpa using this)];simpa using hj
set_option maxHeartbeats 4000000 in
set_option maxRecDepth 100000 in
theorem jzr2(b off n c vb voff vc:Nat)(vs:List Value)(w:World)(aP:n+1<=c)(cr:c<=9223372036854775807)(co:vs.length=1*8) (da:∀j,j<1*8->(w.cell? ⟨b,off+n*8+j,none⟩).isSome=true) (cO:∀j,j<1*8->w.frozen? ⟨b,off+n*8+j,none⟩=false)(ce:∀j v,vs[j]?=some v->w.cell? ⟨vb,voff+j,none⟩=some v) (bS:∀v∈vs,v.oneCell'=true) :
  Calls Tryz.prog 77 #[.slice (some ⟨b,off,none⟩) n c,.int .i64 n,.slice (some ⟨vb,voff,none⟩) 1 vc] w fun e w' =>
   e=.returned (.slice (some ⟨b,off,none⟩) (n+1) c)/\w'=w.setCells b (off+n*8) vs:=by
 have t47:=Tryz.underlying47;have u47:=run_underlying Tryz.underlying47;have a47:=Tryz.isAgg47;have z47:=Tryz.sizeOf47;have v47:=Tryz.zeroValue47;have t4:=Tryz.underlying4;have u4:=run_underlying Tryz.underlying4;have a4:=Tryz.isAgg4;have z4:=Tryz.sizeOf4;have v4:=Tryz.zeroValue4;have t3:=Tryz.underlying3;have u3:=run_underlying Tryz.underlying3;have a3:=Tryz.isAgg3;have z3:=Tryz.sizeOf3;have v3:=Tryz.zeroValue3;have t70:=Tryz.underlying70;have u70:=run_underlying Tryz.underlying70;have a70:=Tryz.isAgg70;have z70:=Tryz.sizeOf70;have v70:=Tryz.zeroValue70;have mixed:Tryz.prog.follows .mixedOrders=true:=by kernel_rfl
 obtain⟨i0,c6,cP,bm,dv⟩:=info_parts (show(Tryz.prog.info? 70).map (fun i=>(i.zero,i.size,i.bytes))=some (some (.agg #[.int .i64 0,.int .i64 0,.int .i64 0,.int .i64 0,.int .i64 0,.int .i64 0,.int .i64 0,.slice none 0 0]),8,80) by kernel_rfl);have aX:_root_.Go.Src Tryz.prog i0.size 47 (.slice (some ⟨vb,voff,none⟩) 1 vc) 1 vs w:=by rw[bm];exact _root_.Go.Src.ofSlice w Tryz.underlying47 ⟨vb,voff,none⟩ 1 vc vs (by omega) (fun j u hj=>by rw[Addr.add_lit];exact ce j u hj) bS
 have aG:∀ty,(Builtin.append_ #[47,47] ty #[.slice (some ⟨b,off,none⟩) n c,.slice (some ⟨vb,voff,none⟩) 1 vc]).run Tryz.prog w=_:=fun ty =>
  run_append_room_src (w:=w) 47 47 ty 70 i0 Tryz.underlying47 c6 b off n c _ 1 vs aX aP (by rw[bm,co];exact da) (by rw[bm,co];exact cO)
 rw[bm]at aG
 go_enter Tryz.func77,Tryz.ntmps77
 go_wp2_with (at_builtin;refine Lib.wpList_append_run _ rfl _ _ _ _ rfl _ _ rfl rfl _ _ (aG _) ?_)
 go_ret
 exact⟨rfl,rfl⟩
set_option maxHeartbeats 4000000 in
set_option maxRecDepth 100000 in
theorem jzr1(base:Option Addr)(n c vb voff vc:Nat)(cs vs:List Value)(w:World)(fB:n<=c)(aP:c<n+1)(dG:(n+1)*80<=140737488355328)(bw:cs.length=n*8) (co:vs.length=1*8) (bz:base=none->n=0)(aS:∀a,base=some a->∀j v,cs[j]?=some v->w.cell? (a.add j)=some v)(ce:∀j v,vs[j]?=some v->w.cell? ⟨vb,voff+j,none⟩=some v) (bS:∀v∈vs,v.oneCell'=true) :
  Calls Tryz.prog 77 #[.slice base n c,.int .i64 n,.slice (some ⟨vb,voff,none⟩) 1 vc] w fun e w' =>
   e=.returned (.slice (some ⟨w.heap.size,0,none⟩) (n+1) (grownCap w (n+1) c 70)) /\
   w'=w.drew.alloc (.cells ((cs++vs).toArray++Builtin.zeroCells (.agg #[.int .i64 0,.int .i64 0,.int .i64 0,.int .i64 0,.int .i64 0,.int .i64 0,.int .i64 0,.slice none 0 0]:Value).cells (grownCap w (n+1) c 70-(n+1))) 70):=by
 have t47:=Tryz.underlying47;have u47:=run_underlying Tryz.underlying47;have a47:=Tryz.isAgg47;have z47:=Tryz.sizeOf47;have v47:=Tryz.zeroValue47;have t4:=Tryz.underlying4;have u4:=run_underlying Tryz.underlying4;have a4:=Tryz.isAgg4;have z4:=Tryz.sizeOf4;have v4:=Tryz.zeroValue4;have t3:=Tryz.underlying3;have u3:=run_underlying Tryz.underlying3;have a3:=Tryz.isAgg3;have z3:=Tryz.sizeOf3;have v3:=Tryz.zeroValue3;have t70:=Tryz.underlying70;have u70:=run_underlying Tryz.underlying70;have a70:=Tryz.isAgg70;have z70:=Tryz.sizeOf70;have v70:=Tryz.zeroValue70;have mixed:Tryz.prog.follows .mixedOrders=true:=by kernel_rfl
 obtain⟨i0,c6,cP,bm,dv⟩:=info_parts (show(Tryz.prog.info? 70).map (fun i=>(i.zero,i.size,i.bytes))=some (some (.agg #[.int .i64 0,.int .i64 0,.int .i64 0,.int .i64 0,.int .i64 0,.int .i64 0,.int .i64 0,.slice none 0 0]),8,80) by kernel_rfl);have aX:_root_.Go.Src Tryz.prog i0.size 47 (.slice (some ⟨vb,voff,none⟩) 1 vc) 1 vs w:=by rw[bm];exact _root_.Go.Src.ofSlice w Tryz.underlying47 ⟨vb,voff,none⟩ 1 vc vs (by omega) (fun j u hj=>by rw[Addr.add_lit];exact ce j u hj) bS
 have aO:(Builtin.firstCells i0.size n (.slice base n c)).run Tryz.prog w.drew=.ok cs.toArray w.drew:=by
  rw[bm];cases base with
  |none =>have h0:=bz rfl;subst h0;have c8:cs=[]:=Ls.1 (by omega);rw[c8];exact run_firstCells_none w.drew 8 0 0 c
  |some a=>exact run_firstCells_some w.drew 8 n a n c cs (by omega) (fun j v hj=>aS a rfl j v hj)
 have aG:∀ty,(Builtin.append_ #[47,47] ty #[.slice base n c,.slice (some ⟨vb,voff,none⟩) 1 vc]).run Tryz.prog w=_:=fun ty =>
  run_append_grow_src (w:=w) 47 47 ty 70 i0 _ Tryz.underlying47 c6 cP base n c cs aO _ 1 vs aX aP (by omega) (by rw[dv];exact growslice_fits aP dG)
 go_enter Tryz.func77,Tryz.ntmps77
 cases base with
 |none =>
  have h0:=bz rfl;subst h0
  go_wp2_with (at_builtin;refine Lib.wpList_append_run _ rfl _ _ _ _ rfl _ _ rfl rfl _ _ (aG _) ?_)
  go_ret
  exact⟨rfl,rfl⟩
 |some a =>
  obtain⟨ab,ao,asp⟩:=a
  go_wp2_with (at_builtin;refine Lib.wpList_append_run _ rfl _ _ _ _ rfl _ _ rfl rfl _ _ (aG _) ?_)
  all_goals (go_ret;exact⟨rfl,rfl⟩)
set_option maxHeartbeats 4000000 in
set_option maxRecDepth 100000 in
theorem jzso(b off n c i vb voff vc:Nat)(cs vs:List Value)(w:World)(hi:i<n)(aP:n+1<=c)(cr:c<=9223372036854775807)(hZ:vb≠b)(bw:cs.length=n*8) (co:vs.length=1*8)(aS:∀j v,cs[j]?=some v->w.cell? ⟨b,off+j,none⟩=some v) (da:∀j,j<(n+1)*8->(w.cell? ⟨b,off+j,none⟩).isSome=true) (cO:∀j,j<(n+1)*8->w.frozen? ⟨b,off+j,none⟩=false)(ce:∀j v,vs[j]?=some v->w.cell? ⟨vb,voff+j,none⟩=some v) (bT:∀v∈cs,v.oneCell'=true) (bS:∀v∈vs,v.oneCell'=true)(tA tB:TypeId) (kA kB:Nat) (eN:w.shape? vb=some (tA,kA)) (lD:w.shape? b=some (tB,kB)) (lE:kB≠0) (gI:w.frozen? ⟨vb,voff,none⟩=false) (ia:w.frozen? ⟨vb,kA,none⟩=false) :
  Calls Tryz.prog 77 #[.slice (some ⟨b,off,none⟩) n c,.int .i64 i,.slice (some ⟨vb,voff,none⟩) 1 vc] w fun e w' =>
   e=.returned (.slice (some ⟨b,off,none⟩) (n+1) c)/\w'=(w.drew.setCells b (off+(i+1)*8) (cs.drop (i*8))).setCells b (off+i*8) vs:=by
 have t47:=Tryz.underlying47;have u47:=run_underlying Tryz.underlying47;have a47:=Tryz.isAgg47;have z47:=Tryz.sizeOf47;have v47:=Tryz.zeroValue47;have t4:=Tryz.underlying4;have u4:=run_underlying Tryz.underlying4;have a4:=Tryz.isAgg4;have z4:=Tryz.sizeOf4;have v4:=Tryz.zeroValue4;have t3:=Tryz.underlying3;have u3:=run_underlying Tryz.underlying3;have a3:=Tryz.isAgg3;have z3:=Tryz.sizeOf3;have v3:=Tryz.zeroValue3;have t70:=Tryz.underlying70;have u70:=run_underlying Tryz.underlying70;have a70:=Tryz.isAgg70;have z70:=Tryz.sizeOf70;have v70:=Tryz.zeroValue70;have mixed:Tryz.prog.follows .mixedOrders=true:=by kernel_rfl
 obtain⟨i0,c6,cP,bm,dv⟩:=info_parts (show(Tryz.prog.info? 70).map (fun i=>(i.zero,i.size,i.bytes))=some (some (.agg #[.int .i64 0,.int .i64 0,.int .i64 0,.int .i64 0,.int .i64 0,.int .i64 0,.int .i64 0,.slice none 0 0]),8,80) by kernel_rfl);have fO:¬((i:Int)=(n:Int)):=by omega
 have lF:∀lb cb,(callFunc 98 #[.slice (some ⟨vb,voff,none⟩) 1 vc,.slice (some ⟨b,off+(i+1)*8,none⟩) lb cb]).run Tryz.prog w=.ok (.value (.bool false)) w:=fun lb cb=>by
  rw[run_callFunc_extern Tryz.func98 (by kernel_rfl) (by kernel_rfl) (by kernel_rfl) (e:=Extern.SlicesOverlaps.overlaps #[47,47] #[4]) (by kernel_rfl),
   Lib.run_overlaps_apart w 47 4 70 Tryz.underlying47 8 z70 ⟨vb,voff,none⟩ ⟨b,off+(i+1)*8,none⟩ 1 vc lb cb hZ tA tB kA kB eN lD lE gI ia]
  rfl
 have dV:(cs.drop (i*8)).length=(n-i)*8:=by rw[CO,bw];omega
 have aI:(Tryz.prog.info? 70).map (·.size)=some 8:=by rw[c6];simp[bm]
 have lG:IntKind.i64.wrap ((i:Int)+(1:Int))=(i:Int)+(1:Int):=by rw[IntKind.wrap_i64];omega
 have dt:(0:Int)<=(i:Int)+(1:Int):=by omega
 have aQ:i<=n:=by omega
 have lH:((i:Int)+(1:Int)).toNat=i+1:=by omega
 have dq:¬(c=i+1):=by omega
 have fk:(i:Int)<=(n:Int)+(1:Int):=by omega
 have oH:¬(c=i):=by omega
 have fC:∀ty dc sc,(Builtin.copy_ #[47,47] ty #[.slice (some ⟨b,off+(i+1)*8,none⟩) (n-i) dc,.slice (some ⟨b,off+i*8,none⟩) (n+1-i) sc]).run Tryz.prog w.drew=.ok (goInt (n-i:Nat)) (w.drew.setCells b (off+(i+1)*8) (cs.drop (i*8))):=fun ty dc sc =>
  Gj w.drew _ _ ty 70 b (off+(i+1)*8) (n-i) dc ⟨b,off+i*8,none⟩ (n+1-i) sc (cs.drop (i*8)) 8 (n-i) (by simp only[Nat.min_def];split<;>omega) Tryz.underlying47 aI dV (fun j v hj=>by rw[Addr.add_lit,Dh];exact aS (i*8+j) v (by rwa [Ec]at hj)) (fun j hj=>by rw[Dh];exact da _ (by omega)) (fun j hj=>by rw[Dh];exact cO _ (by omega)) (fun v hv=>bT v (Oq hv))
 obtain⟨W1,c7⟩:∃W1,W1=w.drew.setCells b (off+(i+1)*8) (cs.drop (i*8)):=⟨_,rfl⟩;have ib:∀k,k<(n+1)*8->(W1.cell? ⟨b,off+k,none⟩).isSome=true:=fun k hk=>by rw[c7];exact isSome_setCells b _ _ _ (fun j hj=>by rw[Dh];exact da _ (by omega)) _ (da k hk)
 have ic:∀(W:World),(∀x,W.cell? x=W1.cell? x)->(∀x,W.frozen? x=W1.frozen? x)->∀ty dc,(Builtin.copy_ #[47,47] ty #[.slice (some ⟨b,off+i*8,none⟩) (n+1-i) dc,.slice (some ⟨vb,voff,none⟩) 1 vc]).run Tryz.prog W=.ok (goInt (1:Nat)) (W.setCells b (off+i*8) vs):=fun W dH fD ty dc =>
  Gj W _ _ ty 70 b (off+i*8) (n+1-i) dc ⟨vb,voff,none⟩ 1 vc vs 8 1 (by simp only[Nat.min_def];split<;>omega) Tryz.underlying47 aI co (fun j v hj=>by rw[Addr.add_lit,dH,c7,World.cell?_setCells_out b _ _ _ _ (fun h _=>absurd h hZ)];exact ce j v hj) (fun j hj=>by rw[dH,Dh];exact ib _ (by omega)) (fun j hj=>by rw[fD,c7,World.frozen?_setCells,Dh];exact cO _ (by omega)) bS
 rw[<-c7]at fC
 go_enter Tryz.func77,Tryz.ntmps77
 go_wp2_with (simp only[lF])
 go_region_law_o (refine step_copy_runI rfl _ _ 47 47 rfl _ _ (by simp[Act.eval,Act.put]) (by simp[Act.eval,Act.put]) (fC _ _ _) ?_)
 go_wp2_with (at_builtin;refine wpList_copy_runI _ rfl _ _ 47 47 rfl _ _ rfl rfl (ic _ (fun _=>rfl) (fun _=>rfl) _ _) ?_)
 go_ret
 first|exact⟨rfl,rfl⟩|exact⟨rfl,by rw[c7]⟩
set_option maxHeartbeats 4000000 in
set_option maxRecDepth 100000 in
theorem jzs8(b off n c i vb voff vc:Nat)(cs vs:List Value)(w:World)(hi:i<n)(fB:n<=c)(aP:c<n+1)(dG:(n+1)*80<=140737488355328)(bw:cs.length=n*8) (co:vs.length=1*8)(aS:∀j v,cs[j]?=some v->w.cell? ⟨b,off+j,none⟩=some v)(ce:∀j v,vs[j]?=some v->w.cell? ⟨vb,voff+j,none⟩=some v) (bT:∀v∈cs,v.oneCell'=true) (bS:∀v∈vs,v.oneCell'=true) :
  Calls Tryz.prog 77 #[.slice (some ⟨b,off,none⟩) n c,.int .i64 i,.slice (some ⟨vb,voff,none⟩) 1 vc] w fun e w' =>
   ∃(G:Nat) (ROW:Array Value),n+1<=G/\G<=9223372036854775807/\(n+1)*8<=ROW.size/\ROW.size=G*8/\(∀j,j<i*8->ROW[j]?=cs[j]?)/\e=.returned (.slice (some ⟨w.heap.size,0,none⟩) (n+1) G) /\
   w'=(((w.alloc (.cells ROW 70)).drew.setCells w.heap.size (i*8) vs).drew).setCells w.heap.size ((i+1)*8) (cs.drop (i*8)):=by
 have t47:=Tryz.underlying47;have u47:=run_underlying Tryz.underlying47;have a47:=Tryz.isAgg47;have z47:=Tryz.sizeOf47;have v47:=Tryz.zeroValue47;have t4:=Tryz.underlying4;have u4:=run_underlying Tryz.underlying4;have a4:=Tryz.isAgg4;have z4:=Tryz.sizeOf4;have v4:=Tryz.zeroValue4;have t3:=Tryz.underlying3;have u3:=run_underlying Tryz.underlying3;have a3:=Tryz.isAgg3;have z3:=Tryz.sizeOf3;have v3:=Tryz.zeroValue3;have t70:=Tryz.underlying70;have u70:=run_underlying Tryz.underlying70;have a70:=Tryz.isAgg70;have z70:=Tryz.sizeOf70;have v70:=Tryz.zeroValue70;have mixed:Tryz.prog.follows .mixedOrders=true:=by kernel_rfl
 obtain⟨i0,c6,cP,bm,dv⟩:=info_parts (show(Tryz.prog.info? 70).map (fun i=>(i.zero,i.size,i.bytes))=some (some (.agg #[.int .i64 0,.int .i64 0,.int .i64 0,.int .i64 0,.int .i64 0,.int .i64 0,.int .i64 0,.slice none 0 0]),8,80) by kernel_rfl);have fO:¬((i:Int)=(n:Int)):=by omega
 have oI:(c:Int)<(n:Int)+(1:Int):=by omega
 have aI:(Tryz.prog.info? 70).map (·.size)=some 8:=by rw[c6];simp[bm]
 have lI:b<w.heap.size:=block_lt_of_cell (aS 0 _ (AD (by omega)));have lJ:vb<w.heap.size:=block_lt_of_cell (ce 0 _ (AD (by omega)));have fA:(n:Int)+(1:Int)-(i:Int)=((n+1-i:Nat):Int):=by omega
 have dE:i+(n+1-i)=n+1:=by omega
 have ie:(cs.take (i*8)).length=i*8:=by rw[Df];omega
 have aO:(Builtin.firstCells i0.size i (.slice (some ⟨b,off,none⟩) i c)).run Tryz.prog w.drew=.ok (cs.take (i*8)).toArray w.drew:=by
  rw[bm]
  exact run_firstCells_some w.drew 8 i ⟨b,off,none⟩ i c (cs.take (i*8)) (by omega) (fun j v hj=>by
   rw[Addr.add_lit];rw[Fl]at hj;split at hj
   ·exact aS j v hj
   ·cases hj)
 have gf:∀ty,(Builtin.append_ #[47,3] ty #[.slice (some ⟨b,off,none⟩) i c,.int .i64 ((n:Int)+(1:Int)-(i:Int))]).run Tryz.prog w =
   .ok (.slice (some ⟨w.heap.size,0,none⟩) (n+1) (grownCap w (n+1) c 70)) (w.drew.alloc (.cells ((cs.take (i*8)).toArray++Builtin.zeroCells (.agg #[.int .i64 0,.int .i64 0,.int .i64 0,.int .i64 0,.int .i64 0,.int .i64 0,.int .i64 0,.slice none 0 0]:Value).cells (n+1-i)++Builtin.zeroCells (.agg #[.int .i64 0,.int .i64 0,.int .i64 0,.int .i64 0,.int .i64 0,.int .i64 0,.int .i64 0,.slice none 0 0]:Value).cells (grownCap w (n+1) c 70-(n+1))) 70)):=fun ty=>by
  have h:=Lib.run_append_grow_zeros (P:=Tryz.prog) w 47 3 ty 70 i0 _ .i64 .i64 Tryz.underlying47 Tryz.underlying3 c6 cP (some ⟨b,off,none⟩) i c (cs.take (i*8)) aO (n+1-i) (by omega) (by omega) (by omega) (by omega) (by rw[dv];omega) (by rw[dv,dE];exact growslice_fits aP dG);rw[dE]at h;rw[fA];exact h
 obtain⟨G,hG⟩:∃G,G=grownCap w (n+1) c 70:=⟨_,rfl⟩;obtain⟨ROW,dw⟩:∃ROW:Array Value,ROW=(cs.take (i*8)).toArray++Builtin.zeroCells (.agg #[.int .i64 0,.int .i64 0,.int .i64 0,.int .i64 0,.int .i64 0,.int .i64 0,.int .i64 0,.slice none 0 0]:Value).cells (n+1-i)++Builtin.zeroCells (.agg #[.int .i64 0,.int .i64 0,.int .i64 0,.int .i64 0,.int .i64 0,.int .i64 0,.int .i64 0,.slice none 0 0]:Value).cells (G-(n+1)):=⟨_,rfl⟩;rw[<-hG]at gf;rw[<-dw]at gf;have lK:n+1<=G:=by rw[hG];exact grownCap_ge w _ _ _
 have cQ:∀k,(Builtin.zeroCells (.agg #[.int .i64 0,.int .i64 0,.int .i64 0,.int .i64 0,.int .i64 0,.int .i64 0,.int .i64 0,.slice none 0 0]:Value).cells k).size=k*8:=fun k=>by simp[Builtin.zeroCells,Value.cells]
 have lL:ROW.size=G*8:=by rw[dw,HG,HG,cQ,cQ,FO,ie];omega
 have ks:(n+1)*8<=ROW.size:=by omega
 have lM:∀j,j<i*8->ROW[j]?=cs[j]?:=fun j hj=>by rw[dw,J5 (by rw[HG,FO,ie];omega),J5 (by rw[FO,ie];omega),GI,Fl,An hj]
 obtain⟨W1,c7⟩:∃W1,W1=w.drew.alloc (.cells ROW 70):=⟨_,rfl⟩;rw[<-c7]at gf;have hN:∀j,j<(n+1)*8->(W1.cell? ⟨w.heap.size,j,none⟩).isSome=true:=fun j hj=>by rw[c7,World.cell?_alloc_at (w:=w.drew) ROW _ w.heap.size j rfl,DD (by omega)];rfl
 have jx:∀j,W1.frozen? ⟨w.heap.size,j,none⟩=false:=fun j=>by rw[c7];exact World.frozen?_alloc_at (w:=w.drew) ROW _ w.heap.size j rfl
 have lN:∀j v,w.cell? ⟨b,j,none⟩=some v->W1.cell? ⟨b,j,none⟩=some v:=fun j v h=>by rw[c7,World.cell?_alloc_past (w:=w.drew) _ b j lI];exact h
 have lO:∀j v,w.cell? ⟨vb,j,none⟩=some v->W1.cell? ⟨vb,j,none⟩=some v:=fun j v h=>by rw[c7,World.cell?_alloc_past (w:=w.drew) _ vb j lJ];exact h
 have ig:∀(W:World),(∀x,W.cell? x=W1.cell? x)->(∀x,W.frozen? x=W1.frozen? x)->∀ty dc,(Builtin.copy_ #[47,47] ty #[.slice (some ⟨w.heap.size,i*8,none⟩) (n+1-i) dc,.slice (some ⟨vb,voff,none⟩) 1 vc]).run Tryz.prog W=.ok (goInt (1:Nat)) (W.setCells w.heap.size (i*8) vs):=fun W dH fD ty dc =>
  Gj W _ _ ty 70 w.heap.size (i*8) (n+1-i) dc ⟨vb,voff,none⟩ 1 vc vs 8 1 (by simp only[Nat.min_def];split<;>omega) Tryz.underlying47 aI co (fun j v hj=>by rw[Addr.add_lit,dH];exact lO _ v (ce j v hj)) (fun j hj=>by rw[dH];exact hN _ (by omega)) (fun j hj=>by rw[fD];exact jx _) bS
 have ii:G<=9223372036854775807:=by have:=grownCap_le_maxLen w (n+1) c 70 (by unfold maxLen;omega);rw[<-hG]at this;unfold maxLen at this;omega
 have oJ:¬(G=i):=by omega
 have lP:¬(G=i+1):=by omega
 have kc:¬(c=i):=by omega
 have lQ:b≠w.heap.size:=by omega
 have dV:(cs.drop (i*8)).length=(n-i)*8:=by rw[CO,bw];omega
 have fE:∀(W:World),(∀x,W.cell? x=(W1.setCells w.heap.size (i*8) vs).cell? x)->(∀x,W.frozen? x=(W1.setCells w.heap.size (i*8) vs).frozen? x)->∀ty dc sc,(Builtin.copy_ #[47,47] ty #[.slice (some ⟨w.heap.size,(i+1)*8,none⟩) (n-i) dc,.slice (some ⟨b,off+i*8,none⟩) (n-i) sc]).run Tryz.prog W=.ok (goInt (n-i:Nat)) (W.setCells w.heap.size ((i+1)*8) (cs.drop (i*8))):=fun W dH fD ty dc sc =>
  Gj W _ _ ty 70 w.heap.size ((i+1)*8) (n-i) dc ⟨b,off+i*8,none⟩ (n-i) sc (cs.drop (i*8)) 8 (n-i) (by simp only[Nat.min_def];split<;>omega) Tryz.underlying47 aI dV (fun j v hj=>by rw[Addr.add_lit,dH,World.cell?_setCells_out _ _ _ _ _ (fun h _=>absurd h lQ),Dh];exact lN _ v (aS (i*8+j) v (by rwa [Ec]at hj))) (fun j hj=>by rw[dH];exact isSome_setCells _ _ _ _ (fun t ht=>hN _ (by omega)) _ (hN _ (by omega))) (fun j hj=>by rw[fD,World.frozen?_setCells];exact jx _) (fun v hv=>bT v (Oq hv))
 subst c7;have lR:∀x,((w.alloc (.cells ROW 70)).drew).cell? x=(w.drew.alloc (.cells ROW 70)).cell? x:=fun x=>rfl;have lS:∀x,((w.alloc (.cells ROW 70)).drew).frozen? x=(w.drew.alloc (.cells ROW 70)).frozen? x:=fun x=>rfl;have lT:∀x,(((w.alloc (.cells ROW 70)).drew.setCells w.heap.size (i*8) vs).drew).cell? x=((w.drew.alloc (.cells ROW 70)).setCells w.heap.size (i*8) vs).cell? x:=fun x=>rfl;have lU:∀x,(((w.alloc (.cells ROW 70)).drew.setCells w.heap.size (i*8) vs).drew).frozen? x=((w.drew.alloc (.cells ROW 70)).setCells w.heap.size (i*8) vs).frozen? x:=fun x=>rfl;have lG:IntKind.i64.wrap ((i:Int)+(1:Int))=(i:Int)+(1:Int):=by rw[IntKind.wrap_i64];omega
 have dt:(0:Int)<=(i:Int)+(1:Int):=by omega
 have aQ:i<=n:=by omega
 have lH:((i:Int)+(1:Int)).toNat=i+1:=by omega
 have fk:(i:Int)<=(n:Int):=by omega
 clear fA dE aO dw hG
 go_enter Tryz.func77,Tryz.ntmps77
 go_wp2_with (first
  |(at_builtin;refine Lib.wpList_append_run _ rfl _ _ _ _ rfl _ _ rfl rfl _ _ (gf _) ?_)
  |(at_builtin;refine wpList_copy_runI _ rfl _ _ 47 47 rfl _ _ rfl rfl (ig _ lR lS _ _) ?_)
  | (at_builtin;refine wpList_copy_runI _ rfl _ _ 47 47 rfl _ _ rfl rfl (fE _ (fun _=>rfl) (fun _=>rfl) _ _ _) ?_))
 go_region_law_o (refine step_copy_runI rfl _ _ 47 47 rfl (.slice (some ⟨w.heap.size,(i+1)*8,none⟩) (n-i) (G-(i+1))) (.slice (some ⟨b,off+i*8,none⟩) (n-i) (c-i)) (by simp[Act.eval,Act.put]) (by simp[Act.eval,Act.put]) (fE _ lT lU 3 (G-(i+1)) (c-i)) ?_)
 go_wp2
 go_ret
 exact⟨G,ROW,lK,ii,ks,lL,lM,rfl,rfl⟩
theorem jzu9{s0:Nat}{w:World}{base:Option Addr}{n c i vb:Nat}{cs vs:List Value}{tv:TypeId}(bU:s0<=w.heap.size)(hm:Mne 8 s0 w base n c cs)(hi:i<=n)(hn:n<=100000)(hv:w.heap[vb]?=some (.cells vs.toArray tv (0,0)))(co:vs.length=8)(bS:∀v∈vs,v.oneCell'=true)
  (aJ:∀b,base=some ⟨b,0,none⟩->b≠vb):Calls Tryz.prog 77 #[.slice base n c,.int .i64 i,.slice (some ⟨vb,0,none⟩) 1 1] w fun e w' =>
   ∃base' c',e=.returned (.slice base' (n+1) c')/\Mne 8 s0 w' base' (n+1) c' (cs.take (i*8)++vs++cs.drop (i*8))/\Pst s0 w w':=by
 obtain⟨fB,cr,bw,bT,hl⟩:=hm;have hZ:=(CQ.1 hv).1;have ce:∀(j:Nat) (v:Value),vs[j]?=some v->w.cell? ⟨vb,0+j,none⟩=some v:=fun j v h=>by rw[Ci,(Bm hv j).1,GI];exact h
 have dF:(cs.take (i*8)++vs++cs.drop (i*8)).length=(n+1)*8:=by rw[Ch,Ch,Df,CO,bw,co];omega
 have gg:∀v∈cs.take (i*8)++vs++cs.drop (i*8),v.oneCell'=true:=fun v h=>by
  rcases Bh.1 h with h|h
  ·rcases Bh.1 h with h|h;·exact bT v (List.mem_of_mem_take h)
   ·exact bS v h
  ·exact bT v (Oq h)
 have bO:=VP (i:=i) (z:=8) (cs:=cs) (vs:=vs) (by omega) co;by_cases aQ:i=n
 ·subst aQ;have lV:cs.drop (i*8)=[]:=Tr.2 (by omega);have ju:cs.take (i*8)=cs:=FT (by omega);by_cases hr:i+1<=c
  ·rcases hl with ⟨_,_,h0⟩|⟨b,arr,ty,rfl,hb,hh,g7,hc⟩;·omega
   have aJ:=aJ b rfl;refine(jzr2 b 0 i c vb 0 1 vs w hr cr (by omega) (fun j hj=>by rw[(Bm hh _).1,DD (by omega)];rfl) (fun j hj=>(Bm hh _).2.1) ce bS).mono ?_;rintro e w' ⟨rfl,rfl⟩;obtain⟨arr',e1,e2,e3,e4⟩:=DR vs (0+i*8) w arr hh (by omega);refine⟨_,_,rfl,⟨hr,cr,dF,gg,.inr ⟨b,arr',ty,rfl,hb,e1,by omega,fun j v hj=>?_⟩⟩,Pst.setCells hb hh (by omega)⟩;rw[bO]at hj;rw[e3];by_cases c1:j<i*8
   ·rw[An c1]at hj;rw[Ak (by omega)];exact hc j v hj
   ·rw[Ak c1]at hj;by_cases c2:j<(i+1)*8
    ·rw[An c2]at hj;rw[An (by omega),Ci];exact hj
    ·rw[Ak c2]at hj;have:=(AK.1 hj).1;omega
  ·have ij:c<i+1:=by omega
   refine(jzr1 base i c vb 0 1 cs vs w fB ij (by omega) bw (by omega) (fun e=>by
    rcases hl with ⟨_,h,_⟩|⟨b,arr,ty,h,_⟩
    ·exact h
    ·rw[h]at e;cases e) (fun a ha j v hj=>by
    rcases hl with ⟨h,_⟩|⟨b,arr,ty,h,hb,hh,g7,hc⟩
    ·rw[h]at ha;cases ha
    ·rw[h]at ha;cases ha;rw[show(⟨b,0,none⟩:Addr).add j=⟨b,j,none⟩ by rw[Addr.add_lit,Ci],(Bm hh j).1];exact hc j v hj) ce bS).mono ?_
   rintro e w' ⟨rfl,rfl⟩;have hG:=grownCap_ge w (i+1) c 70;have hz:(Builtin.zeroCells (.agg #[.int .i64 0,.int .i64 0,.int .i64 0,.int .i64 0,.int .i64 0,.int .i64 0,.int .i64 0,.slice none 0 0]:Value).cells (grownCap w (i+1) c 70-(i+1))).size=(grownCap w (i+1) c 70-(i+1))*8:=by simp[Builtin.zeroCells,Value.cells]
   have il:=grownCap_le_maxLen w (i+1) c 70 (by unfold maxLen;omega);unfold maxLen at il;refine⟨_,_,rfl,⟨hG,by omega,dF,gg,.inr ⟨w.heap.size,_,_,rfl,bU,CZ w.drew _,?_,fun j v hj=>?_⟩⟩,(Pst.drew w).trans (Pst.alloc (w:=w.drew) bU _)⟩
   ·rw[HG,hz,FO,Ch];omega
   ·rw[lV,ju,List.append_nil]at hj;have:=(AK.1 hj).1;rw[J5 (by rw[FO];exact this),GI];exact hj
 ·have hlt:i<n:=by omega
  rcases hl with ⟨_,h0,_⟩|⟨b,arr,ty,rfl,hb,hh,g7,hc⟩
  ·omega
  have aJ:=aJ b rfl;have aS:∀(j:Nat) (v:Value),cs[j]?=some v->w.cell? ⟨b,0+j,none⟩=some v:=fun j v h=>by rw[Ci,(Bm hh j).1];exact hc j v h
  by_cases hr:n+1<=c
  ·refine(jzso b 0 n c i vb 0 1 cs vs w hlt hr cr (Ne.symm aJ) bw (by omega) aS (fun j hj=>by rw[(Bm hh _).1,DD (by omega)];rfl) (fun j hj=>(Bm hh _).2.1) ce bT bS _ _ _ _ (Bm hv 0).2.2 (Bm hh 0).2.2 (by omega) (Bm hv 0).2.1 (Bm hv _).2.1).mono ?_;rintro e w' ⟨rfl,rfl⟩;have dV:(cs.drop (i*8)).length=(n-i)*8:=by rw[CO,bw];omega
   obtain⟨arr',e1,e2,e3,e4⟩:=DR (cs.drop (i*8)) (0+(i+1)*8) w.drew arr hh (by omega);obtain⟨arr2,f1,f2,f3,f4⟩:=DR vs (0+i*8) _ arr' e1 (by omega);refine⟨_,_,rfl,⟨hr,cr,dF,gg,.inr ⟨b,arr2,ty,rfl,hb,f1,by omega,fun j v hj=>?_⟩⟩,((Pst.drew w).trans (Pst.setCells hb hh (by omega))).trans (Pst.setCells hb e1 (by omega))⟩;rw[bO]at hj;rw[f3,e3];by_cases c1:j<i*8
   ·rw[An c1]at hj;rw[Ak (by omega),Ak (by omega)];exact hc j v hj
   ·rw[Ak c1]at hj;by_cases c2:j<(i+1)*8
    ·rw[An c2]at hj;rw[An (by omega),Ci];exact hj
    ·rw[Ak c2]at hj;have:=(AK.1 hj).1;rw[Ak (by omega),An (by omega),Ec,show i*8+(j-(0+(i+1)*8))=j-8 by omega];exact hj
  ·refine(jzs8 b 0 n c i vb 0 1 cs vs w hlt fB (by omega) (by omega) bw (by omega) aS ce bT bS).mono ?_;rintro e w' ⟨G,ROW,g1,g63,g2,g3,g4,rfl,rfl⟩;have dV:(cs.drop (i*8)).length=(n-i)*8:=by rw[CO,bw];omega
   have hR:(w.alloc (.cells ROW 70)).drew.heap[w.heap.size]?=some (.cells ROW 70 (0,0)):=CZ w _;obtain⟨arr',e1,e2,e3,e4⟩:=DR vs (i*8) (w.alloc (.cells ROW 70)).drew ROW hR (by omega);have e1':(((w.alloc (.cells ROW 70)).drew.setCells w.heap.size (i*8) vs).drew).heap[w.heap.size]?=some (.cells arr' 70 (0,0)):=e1;obtain⟨arr2,f1,f2,f3,f4⟩:=DR (cs.drop (i*8)) ((i+1)*8) _ arr' e1' (by omega);refine⟨_,_,rfl,⟨g1,g63,dF,gg,.inr ⟨w.heap.size,arr2,_,rfl,bU,f1,by omega,fun j v hj=>?_⟩⟩,((((Pst.alloc bU _).trans (Pst.drew _)).trans (Pst.setCells bU hR (by omega))).trans (Pst.drew _)).trans (Pst.setCells bU e1' (by omega))⟩;rw[bO]at hj;rw[f3,e3];by_cases c1:j<i*8
   ·rw[An c1]at hj;rw[Ak (by omega),Ak (by omega),g4 j c1];exact hj
   ·rw[Ak c1]at hj;by_cases c2:j<(i+1)*8
    ·rw[An c2]at hj;rw[Ak (by omega),An (by omega)];exact hj
    ·rw[Ak c2]at hj;have:=(AK.1 hj).1;rw[An (by omega),Ec,show i*8+(j-(i+1)*8)=j-8 by omega];exact hj
set_option maxHeartbeats 4000000 in
set_option maxRecDepth 100000 in
theorem jzu2{s0:Nat}{w:World}{base:Option Addr}{n c:Nat}{cs:List Value}(bU:s0<=w.heap.size)(bw:cs.length=n*8)(bz:base=none->n=0)(aS:∀a,base=some a->∀(j:Nat) (v:Value),cs[j]?=some v->w.cell? (a.add j)=some v)(bT:∀v∈cs,v.oneCell'=true) (hn:n<=100000):Calls Tryz.prog 78 #[.slice base n c] w fun e w'=>∃base' c',e=.returned (.slice base' n c')/\Mne 8 s0 w' base' n c' cs/\Pst s0 w w':=by
 have t47:=Tryz.underlying47;have u47:=run_underlying Tryz.underlying47;have a47:=Tryz.isAgg47;have z47:=Tryz.sizeOf47;have v47:=Tryz.zeroValue47;have t4:=Tryz.underlying4;have u4:=run_underlying Tryz.underlying4;have a4:=Tryz.isAgg4;have z4:=Tryz.sizeOf4;have v4:=Tryz.zeroValue4;have t3:=Tryz.underlying3;have u3:=run_underlying Tryz.underlying3;have a3:=Tryz.isAgg3;have z3:=Tryz.sizeOf3;have v3:=Tryz.zeroValue3;have t70:=Tryz.underlying70;have u70:=run_underlying Tryz.underlying70;have a70:=Tryz.isAgg70;have z70:=Tryz.sizeOf70;have v70:=Tryz.zeroValue70;have mixed:Tryz.prog.follows .mixedOrders=true:=by kernel_rfl
 obtain⟨i0,c6,cP,bm,dv⟩:=info_parts (show(Tryz.prog.info? 70).map (fun i=>(i.zero,i.size,i.bytes))=some (some (.agg #[.int .i64 0,.int .i64 0,.int .i64 0,.int .i64 0,.int .i64 0,.int .i64 0,.int .i64 0,.slice none 0 0]),8,80) by kernel_rfl);have e47:=fun w a n c n' c'=>Lib.run_eql_slice_nil (P:=Tryz.prog) w 47 70 a n c n' c' Tryz.underlying47;cases base with
 |none =>
  obtain rfl:=bz rfl
  go_enter Tryz.func78,Tryz.ntmps78
  go_wp2_with (simp only[e47])
  go_ret
  exact⟨none,0,rfl,⟨AC _,by omega,bw,bT,.inl ⟨rfl,rfl,rfl⟩⟩,Pst.refl _ _⟩
 |some a =>
  have aS:=aS a rfl;have aX:∀W:World,(∀j,j<cs.length->W.cell? (a.add j)=w.cell? (a.add j))->_root_.Go.Src Tryz.prog i0.size 47 (.slice (some a) n c) n cs W:=fun W hW=>by rw[bm];exact _root_.Go.Src.ofSlice W Tryz.underlying47 a n c cs bw (fun j u hj=>by rw[hW j (AK.1 hj).1];exact aS j u hj) bT
  obtain⟨ab,ao,asp⟩:=a;by_cases h0:n=0
  ·subst h0;obtain rfl:cs=[]:=Ls.1 (by omega)
   have aG:∀ty,(Builtin.append_ #[47,47] ty #[.slice (some ⟨w.heap.size,0,none⟩) 0 0,.slice (some ⟨ab,ao,asp⟩) 0 c]).run Tryz.prog (w.alloc (.cells #[] 70))=_:=fun ty =>
    run_append_nothing (w.alloc (.cells #[] 70)) 47 47 ty 70 i0 Tryz.underlying47 c6 _ 0 0 (AC _) _ (aX _ fun j hj=>by simp at hj)
   go_enter Tryz.func78,Tryz.ntmps78
   go_wp2_with (first
    |simp only[e47]
    | (at_builtin;refine Lib.wpList_append_run _ rfl _ _ _ _ rfl _ _ rfl rfl _ _ (aG _) ?_))
   go_ret
   exact⟨_,_,rfl,⟨AC _,by omega,bw,bT,.inr ⟨w.heap.size,#[],70,rfl,bU,CZ w _,rfl,fun j v hj=>by simp at hj⟩⟩,Pst.alloc bU _⟩
  ·have dI:ab<w.heap.size:=by
    have h1:=aS 0 _ (AD (by omega));rw[show(⟨ab,ao,asp⟩:Addr).add 0=⟨ab,ao,asp⟩ by simp[Addr.add]]at h1;exact block_lt_of_cell h1
   have aG:∀ty,(Builtin.append_ #[47,47] ty #[.slice (some ⟨w.heap.size,0,none⟩) 0 0,.slice (some ⟨ab,ao,asp⟩) n c]).run Tryz.prog (w.alloc (.cells #[] 70))=_:=fun ty =>
    run_append_grow_src (w:=w.alloc (.cells #[] 70)) 47 47 ty 70 i0 _ Tryz.underlying47 c6 cP (some ⟨w.heap.size,0,none⟩) 0 0 [] (run_firstCells_some _ i0.size 0 _ 0 0 [] (by simp) (fun j v hj=>by simp at hj)) _ n cs (aX _ fun j hj=>by refine World.cell?_alloc_lt _ _ _ ?_;show((⟨ab,ao,asp⟩:Addr).add j).block<_;unfold Addr.add;split<;>exact dI) (by omega) (by omega) (by rw[dv];exact growslice_fits (by omega) (by omega))
   go_enter Tryz.func78,Tryz.ntmps78
   go_wp2_with (first
    |simp only[e47]
    | (at_builtin;refine Lib.wpList_append_run _ rfl _ _ _ _ rfl _ _ rfl rfl _ _ (aG _) ?_))
   go_ret
   have hG:=grownCap_ge (w.alloc (.cells #[] 70)) n 0 70;have il:=grownCap_le_maxLen (w.alloc (.cells #[] 70)) n 0 70 (by unfold maxLen;omega);unfold maxLen at il;have cR:(w.alloc (.cells #[] 70)).heap.size=w.heap.size+1:=World.size_alloc _ _
   have hh:∀o,((w.alloc (.cells #[] 70)).drew.alloc o).heap[w.heap.size+1]?=some o:=fun o=>by
    have:=CZ (w.alloc (.cells #[] 70)).drew o
    rwa [show(w.alloc (.cells #[] 70)).drew.heap.size=w.heap.size+1 from cR]at this
   refine⟨_,_,rfl,⟨hG,by omega,bw,bT,.inr ⟨w.heap.size+1,_,_,rfl,by omega,hh _,?_,fun j v hj=>?_⟩⟩,((Pst.alloc bU _).trans (Pst.drew _)).trans (Pst.alloc (w:=(w.alloc (.cells #[] 70)).drew) (by show s0<=(w.alloc (.cells #[] 70)).heap.size;omega) _)⟩
   ·simp only[HG,FO,Ot,bw];simp[Builtin.zeroCells,Value.cells];omega
   ·have:=(AK.1 hj).1;rw[J5 (by simpa using this)];simpa using hj
set_option maxHeartbeats 4000000 in
set_option maxRecDepth 100000 in
theorem jzve{α:Type}(C:α->List Aa)(gi:∀x,(C x).length=6)(im:∀g w x vs,RVs g w (C x) vs->∀v∈vs,v.oneCell'=true)(l:List α)(r:α)(k:Nat)(hk:k<=l.length)(hn:l.length<4000)(hC:Bf EE Tryz.prog 21 [slcV 6 C l] (.int .i64 0)) (hR:Bf EE Tryz.prog 19 [.agg (C r)] (.bool true)) (hB:Bf EE Tryz.prog 46 [slcV 6 C l,.agg (C r),.fn 47 0 []] (.tup [.int .i64 k,.bool false])) :
    Pure EE Tryz.prog 13 [slcV 6 C l,.agg (C r)] (.tup [slcV 6 C (l.take k++[r]++l.drop k),.int .i64 0]):=by
  intro g w vs H hv
  obtain⟨v0,v1,rfl⟩:∃v0 v1,vs=[v0,v1]:=by
    have:=hv.1
    match vs,this with
    |[v0,v1],_=>exact⟨v0,v1,rfl⟩
  have gj:RV g w (slcV 6 C l) v0:=hv.2 0 _ _ rfl rfl;have fF:RV g w (.agg (C r)) v1:=hv.2 1 _ _ rfl rfl;obtain⟨base,cap,cs,rfl,dW,bz,aS,bT⟩:=VQ (by omega) gi gj
  obtain⟨y1,y2,y3,y4,y5,y6,rfl,jy⟩:∃y1 y2 y3 y4 y5 y6,v1=.agg #[y1,y2,y3,y4,y5,y6]/\RVs g w (C r) [y1,y2,y3,y4,y5,y6]:=by
    cases fF with
    |agg _ a aI h =>
      obtain⟨la⟩:=a;have aI:la.length=6:=by have:=gi r;simp only[FO]at aI;omega
      match la,aI with
      |[y1,y2,y3,y4,y5,y6],_=>exact⟨y1,y2,y3,y4,y5,y6,rfl,by simpa using gi r |>.symm,fun i x v h1 h2=>h i x v h1 (by simpa using h2)⟩
  have ho:=im g w r _ jy;have o1:=ho y1 (by simp);have o2:=ho y2 (by simp);have o3:=ho y3 (by simp);have o4:=ho y4 (by simp);have o5:=ho y5 (by simp);have o6:=ho y6 (by simp);have io:RVs g w [.agg (C r)] [.agg #[y1,y2,y3,y4,y5,y6]]:=.cons fF (.nil g w);have oK:¬((l.length:Int)=4000):=by omega
  have p0:Pst w.heap.size w (w.alloc (.cells #[y1,y2,y3,y4,y5,y6] 25)):=Pst.alloc (AC _) _;have bH:(w.alloc (.cells #[y1,y2,y3,y4,y5,y6] 25)).heap.size=w.heap.size+1:=World.size_alloc _ _;have b0:=CZ w (.cells #[y1,y2,y3,y4,y5,y6] 25);have hq:∀w1,Pst (w.heap.size+1) (w.alloc (.cells #[y1,y2,y3,y4,y5,y6] 25)) w1->w1.cell? ⟨w.heap.size,0,none⟩=some y1/\w1.cell? ⟨w.heap.size,1,none⟩=some y2/\w1.cell? ⟨w.heap.size,2,none⟩=some y3/\w1.cell? ⟨w.heap.size,3,none⟩=some y4/\w1.cell? ⟨w.heap.size,4,none⟩=some y5/\w1.cell? ⟨w.heap.size,5,none⟩=some y6:=fun w1 p=>by refine⟨?_,?_,?_,?_,?_,?_⟩<;>(rw[p.cell (by omega),(Bm b0 _).1];rfl)
  have lW:∀W,Pst w.heap.size w W->_:=fun W p=>Bf.past hB H (vs:=[.slice base l.length cap,.agg #[y1,y2,y3,y4,y5,y6],.func (.func 47) #[] #[]]) (.cons gj (.cons fF (.cons (.fn 47 0 [] #[] rfl (fun i x v h=>by simp at h)) (.nil g w)))) p;have t22:=Tryz.underlying22;have u22:=run_underlying Tryz.underlying22;have a22:=Tryz.isAgg22;have z22:=Tryz.sizeOf22;have v22:=Tryz.zeroValue22;have t4:=Tryz.underlying4;have u4:=run_underlying Tryz.underlying4;have a4:=Tryz.isAgg4;have z4:=Tryz.sizeOf4;have v4:=Tryz.zeroValue4;have t3:=Tryz.underlying3;have u3:=run_underlying Tryz.underlying3;have a3:=Tryz.isAgg3;have z3:=Tryz.sizeOf3;have v3:=Tryz.zeroValue3;have t25:=Tryz.underlying25;have u25:=run_underlying Tryz.underlying25;have a25:=Tryz.isAgg25;have z25:=Tryz.sizeOf25;have v25:=Tryz.zeroValue25;have mixed:Tryz.prog.follows .mixedOrders=true:=by kernel_rfl
  obtain⟨i0,c6,cP,bm,dv⟩:=info_parts (show(Tryz.prog.info? 25).map (fun i=>(i.zero,i.size,i.bytes))=some (some (.agg #[.int .i64 0,.int .i64 0,.int .i64 0,.int .i64 0,.int .i64 0,.int .i64 0]),6,48) by kernel_rfl);have t28:=Tryz.underlying28;have u28:=run_underlying Tryz.underlying28;have a28:=Tryz.isAgg28;have z28:=Tryz.sizeOf28;have v28:=Tryz.zeroValue28
  go_enter Tryz.func13,Tryz.ntmps13
  go_wp2_with (first
    |(go_at_call 21;refine(Bf.past hC H (.cons gj (.nil g w)) p0).mono ?_;rintro e w1 ⟨g1,v,rfl,eH,p1⟩;cases eH;rw[bH]at p1;have p1':=p0.trans (p1.mono (Cu _));obtain⟨q1,q2,q3,q4,q5,q6⟩:=hq w1 p1)
    |(go_at_call 19;refine(Bf.past hR H io p1').mono ?_;rintro e w2 ⟨g2,v,rfl,cz,p2⟩;cases cz;have p2:=p1.trans (p2.mono (bH▸p1.size));have p2':=p0.trans (p2.mono (Cu _));obtain⟨q1,q2,q3,q4,q5,q6⟩:=hq w2 p2)
    | (go_at_call 46;refine(lW _ p2').mono ?_;rintro e w3 ⟨g3,v,rfl,ga,p3⟩;obtain rfl:=VS ga;have p3:=p2.trans (p3.mono (bH▸p2.size));obtain⟨q1,q2,q3,q4,q5,q6⟩:=hq w3 p3))
  have fS:w.heap.size+1<=w3.heap.size:=bH▸p3.size;have pw3:Pst w.heap.size w w3:=p0.trans (p3.mono (Cu _))
  have ip:∀W,Pst (w.heap.size+1) w3 W->∀a,base=some a->∀(j:Nat) (v:Value),cs[j]?=some v->W.cell? (a.add j)=some v:=fun W pW a ha j v hj =>
    (pw3.trans (pW.mono (Cu _))).cellA (aS a ha j v hj)
  have pd:Pst (w.heap.size+1) w3 w3.drew:=Pst.drew _;have pa:∀o,Pst (w.heap.size+1) w3 (w3.alloc o).drew:=fun o=>(Pst.alloc fS o).trans (Pst.drew _);have eN:∀o,(w3.alloc o).heap.size=w3.heap.size+1:=fun o=>World.size_alloc _ _;have iq:=dW.1;have bS:∀v∈[y1,y2,y3,y4,y5,y6],v.oneCell'=true:=ho;have jz:l.length<=100000:=by omega
  go_region_with (first
    | (go_at_call 49
       refine(jzvb (AC _) iq bz (ip _ (by first|exact pd|exact pa _)) bT jz).mono ?_;rintro e w4 ⟨base1,c1,rfl,d6,p4⟩;have dt:=d6.rng;have pm:Pst (w.heap.size+1) w3 w4:=(by first|exact pd|exact pa _:Pst (w.heap.size+1) w3 _).trans (p4.mono (by simp only[World.size_drew,eN];omega));have jA:=Br fS pm.size;have fG:Mne 6 (w.heap.size+1) w4 base1 l.length c1 cs:=d6.mono (by simp only[World.size_drew,eN];omega);obtain⟨q1,q2,q3,q4,q5,q6⟩:=hq w4 (p3.trans pm))
    | (go_at_call 48
       refine(jzu7 (s0:=w.heap.size+1) (vs:=[y1,y2,y3,y4,y5,y6]) (tv:=25) (by first|exact jA|(rw[World.size_alloc];omega)) (by first|exact fG|exact fG.past (Pst.alloc (AC _) _) (AC _)) hk jz (by first|exact CZ _ _|exact(p4.old _ (by simp only[World.size_drew,eN];omega)).trans (CZ w3 _)) rfl bS (fun b e=>by have:=dt b e;simp only[World.size_drew,eN]at this;omega)).mono ?_;rintro e w5 ⟨base2,c2,rfl,lX,p5⟩;have p5:Pst (w.heap.size+1) w3 w5:=pm.trans (by first|exact p5|exact(Pst.alloc jA _).trans p5)))
  all_goals
    go_wp2
    go_ret2
    have lY:CRel g w C 6 (l.take k++[r]++l.drop k) (cs.take (k*6)++[y1,y2,y3,y4,y5,y6]++cs.drop (k*6)):=((dW.take hk).app (.one rfl jy)).app (dW.drop k);have db:l.length+1=(l.take k++[r]++l.drop k).length:=(by simp;omega);obtain⟨g',r1,r2,r3⟩:=Mne.give H (pw3.trans (p5.mono (Cu _))) gi (lX.mono (Cu _)) lY db (Nat.succ_pos _)
    exact⟨g',h0,_,_,rfl,rfl,.tup _ _ rfl (fun i x v h1 h2=>by
      match i with
      |0=>cases h1;cases h2;exact r1
      |1=>cases h1;cases h2;exact .int _ _
      | i+2=>simp at h1),r2,r3⟩
set_option maxHeartbeats 4000000 in
set_option maxRecDepth 100000 in
theorem jzuq{α:Type}(C:α->List Aa)(gi:∀x,(C x).length=8)(im:∀g w x vs,RVs g w (C x) vs->∀v∈vs,v.oneCell'=true)(l:List α)(r:α)(k:Nat)(hk:k<=l.length)(hn:l.length<400)(hC:Bf EE Tryz.prog 60 [slcV 8 C l] (.int .i64 0)) (hR:Bf EE Tryz.prog 73 [.agg (C r)] (.bool true)) (hB:Bf EE Tryz.prog 74 [slcV 8 C l,.agg (C r),.fn 75 0 []] (.tup [.int .i64 k,.bool false])) :
    Pure EE Tryz.prog 42 [slcV 8 C l,.agg (C r)] (.tup [slcV 8 C (l.take k++[r]++l.drop k),.int .i64 0]):=by
  intro g w vs H hv
  obtain⟨v0,v1,rfl⟩:∃v0 v1,vs=[v0,v1]:=by
    have:=hv.1
    match vs,this with
    |[v0,v1],_=>exact⟨v0,v1,rfl⟩
  have gj:RV g w (slcV 8 C l) v0:=hv.2 0 _ _ rfl rfl;have fF:RV g w (.agg (C r)) v1:=hv.2 1 _ _ rfl rfl;obtain⟨base,cap,cs,rfl,dW,bz,aS,bT⟩:=VQ (by omega) gi gj
  obtain⟨y1,y2,y3,y4,y5,y6,y7,y8,rfl,jy⟩:∃y1 y2 y3 y4 y5 y6 y7 y8,v1=.agg #[y1,y2,y3,y4,y5,y6,y7,y8]/\RVs g w (C r) [y1,y2,y3,y4,y5,y6,y7,y8]:=by
    cases fF with
    |agg _ a aI h =>
      obtain⟨la⟩:=a;have aI:la.length=8:=by have:=gi r;simp only[FO]at aI;omega
      match la,aI with
      |[y1,y2,y3,y4,y5,y6,y7,y8],_=>exact⟨y1,y2,y3,y4,y5,y6,y7,y8,rfl,by simpa using gi r |>.symm,fun i x v h1 h2=>h i x v h1 (by simpa using h2)⟩
  have ho:=im g w r _ jy;have o1:=ho y1 (by simp);have o2:=ho y2 (by simp);have o3:=ho y3 (by simp);have o4:=ho y4 (by simp);have o5:=ho y5 (by simp);have o6:=ho y6 (by simp);have o7:=ho y7 (by simp);have o8:=ho y8 (by simp);have io:RVs g w [.agg (C r)] [.agg #[y1,y2,y3,y4,y5,y6,y7,y8]]:=.cons fF (.nil g w);have oK:¬((400:Int)<=(l.length:Int)):=by omega
  have p0:Pst w.heap.size w (w.alloc (.cells #[y1,y2,y3,y4,y5,y6,y7,y8] 70)):=Pst.alloc (AC _) _;have bH:(w.alloc (.cells #[y1,y2,y3,y4,y5,y6,y7,y8] 70)).heap.size=w.heap.size+1:=World.size_alloc _ _;have b0:=CZ w (.cells #[y1,y2,y3,y4,y5,y6,y7,y8] 70);have hq:∀w1,Pst (w.heap.size+1) (w.alloc (.cells #[y1,y2,y3,y4,y5,y6,y7,y8] 70)) w1->w1.cell? ⟨w.heap.size,0,none⟩=some y1/\w1.cell? ⟨w.heap.size,1,none⟩=some y2/\w1.cell? ⟨w.heap.size,2,none⟩=some y3/\w1.cell? ⟨w.heap.size,3,none⟩=some y4/\w1.cell? ⟨w.heap.size,4,none⟩=some y5/\w1.cell? ⟨w.heap.size,5,none⟩=some y6/\w1.cell? ⟨w.heap.size,6,none⟩=some y7/\w1.cell? ⟨w.heap.size,7,none⟩=some y8:=fun w1 p=>by refine⟨?_,?_,?_,?_,?_,?_,?_,?_⟩<;>(rw[p.cell (by omega),(Bm b0 _).1];rfl)
  have lZ:∀W,Pst w.heap.size w W->_:=fun W p=>Bf.past hB H (vs:=[.slice base l.length cap,.agg #[y1,y2,y3,y4,y5,y6,y7,y8],.func (.func 75) #[] #[]]) (.cons gj (.cons fF (.cons (.fn 75 0 [] #[] rfl (fun i x v h=>by simp at h)) (.nil g w)))) p;have t47:=Tryz.underlying47;have u47:=run_underlying Tryz.underlying47;have a47:=Tryz.isAgg47;have z47:=Tryz.sizeOf47;have v47:=Tryz.zeroValue47;have t4:=Tryz.underlying4;have u4:=run_underlying Tryz.underlying4;have a4:=Tryz.isAgg4;have z4:=Tryz.sizeOf4;have v4:=Tryz.zeroValue4;have t3:=Tryz.underlying3;have u3:=run_underlying Tryz.underlying3;have a3:=Tryz.isAgg3;have z3:=Tryz.sizeOf3;have v3:=Tryz.zeroValue3;have t70:=Tryz.underlying70;have u70:=run_underlying Tryz.underlying70;have a70:=Tryz.isAgg70;have z70:=Tryz.sizeOf70;have v70:=Tryz.zeroValue70;have mixed:Tryz.prog.follows .mixedOrders=true:=by kernel_rfl
  obtain⟨i0,c6,cP,bm,dv⟩:=info_parts (show(Tryz.prog.info? 70).map (fun i=>(i.zero,i.size,i.bytes))=some (some (.agg #[.int .i64 0,.int .i64 0,.int .i64 0,.int .i64 0,.int .i64 0,.int .i64 0,.int .i64 0,.slice none 0 0]),8,80) by kernel_rfl);have t28:=Tryz.underlying28;have u28:=run_underlying Tryz.underlying28;have a28:=Tryz.isAgg28;have z28:=Tryz.sizeOf28;have v28:=Tryz.zeroValue28
  go_enter Tryz.func42,Tryz.ntmps42
  go_wp2_with (first
    |(go_at_call 60;refine(Bf.past hC H (.cons gj (.nil g w)) p0).mono ?_;rintro e w1 ⟨g1,v,rfl,eH,p1⟩;cases eH;rw[bH]at p1;have p1':=p0.trans (p1.mono (Cu _));obtain⟨q1,q2,q3,q4,q5,q6,q7,q8⟩:=hq w1 p1)
    |(go_at_call 73;refine(Bf.past hR H io p1').mono ?_;rintro e w2 ⟨g2,v,rfl,cz,p2⟩;cases cz;have p2:=p1.trans (p2.mono (bH▸p1.size));have p2':=p0.trans (p2.mono (Cu _));obtain⟨q1,q2,q3,q4,q5,q6,q7,q8⟩:=hq w2 p2)
    | (go_at_call 74;refine(lZ _ p2').mono ?_;rintro e w3 ⟨g3,v,rfl,ga,p3⟩;obtain rfl:=VS ga;have p3:=p2.trans (p3.mono (bH▸p2.size));obtain⟨q1,q2,q3,q4,q5,q6,q7,q8⟩:=hq w3 p3))
  have fS:w.heap.size+1<=w3.heap.size:=bH▸p3.size;have pw3:Pst w.heap.size w w3:=p0.trans (p3.mono (Cu _))
  have ip:∀W,Pst (w.heap.size+1) w3 W->∀a,base=some a->∀(j:Nat) (v:Value),cs[j]?=some v->W.cell? (a.add j)=some v:=fun W pW a ha j v hj =>
    (pw3.trans (pW.mono (Cu _))).cellA (aS a ha j v hj)
  have pd:Pst (w.heap.size+1) w3 w3.drew:=Pst.drew _;have pa:∀o,Pst (w.heap.size+1) w3 (w3.alloc o).drew:=fun o=>(Pst.alloc fS o).trans (Pst.drew _);have eN:∀o,(w3.alloc o).heap.size=w3.heap.size+1:=fun o=>World.size_alloc _ _;have iq:=dW.1;have bS:∀v∈[y1,y2,y3,y4,y5,y6,y7,y8],v.oneCell'=true:=ho;have jz:l.length<=100000:=by omega
  go_region_with (first
    | (go_at_call 78
       refine(jzu2 (AC _) iq bz (ip _ (by first|exact pd|exact pa _)) bT jz).mono ?_;rintro e w4 ⟨base1,c1,rfl,d6,p4⟩;have dt:=d6.rng;have pm:Pst (w.heap.size+1) w3 w4:=(by first|exact pd|exact pa _:Pst (w.heap.size+1) w3 _).trans (p4.mono (by simp only[World.size_drew,eN];omega));have jA:=Br fS pm.size;have fG:Mne 8 (w.heap.size+1) w4 base1 l.length c1 cs:=d6.mono (by simp only[World.size_drew,eN];omega);obtain⟨q1,q2,q3,q4,q5,q6,q7,q8⟩:=hq w4 (p3.trans pm))
    | (go_at_call 77
       refine(jzu9 (s0:=w.heap.size+1) (vs:=[y1,y2,y3,y4,y5,y6,y7,y8]) (tv:=70) (by first|exact jA|(rw[World.size_alloc];omega)) (by first|exact fG|exact fG.past (Pst.alloc (AC _) _) (AC _)) hk jz (by first|exact CZ _ _|exact(p4.old _ (by simp only[World.size_drew,eN];omega)).trans (CZ w3 _)) rfl bS (fun b e=>by have:=dt b e;simp only[World.size_drew,eN]at this;omega)).mono ?_;rintro e w5 ⟨base2,c2,rfl,lX,p5⟩;have p5:Pst (w.heap.size+1) w3 w5:=pm.trans (by first|exact p5|exact(Pst.alloc jA _).trans p5)))
  all_goals
    go_wp2
    go_ret2
    have lY:CRel g w C 8 (l.take k++[r]++l.drop k) (cs.take (k*8)++[y1,y2,y3,y4,y5,y6,y7,y8]++cs.drop (k*8)):=((dW.take hk).app (.one rfl jy)).app (dW.drop k);have db:l.length+1=(l.take k++[r]++l.drop k).length:=(by simp;omega);obtain⟨g',r1,r2,r3⟩:=Mne.give H (pw3.trans (p5.mono (Cu _))) gi (lX.mono (Cu _)) lY db (Nat.succ_pos _)
    exact⟨g',h0,_,_,rfl,rfl,.tup _ _ rfl (fun i x v h1 h2=>by
      match i with
      |0=>cases h1;cases h2;exact r1
      |1=>cases h1;cases h2;exact .int _ _
      | i+2=>simp at h1),r2,r3⟩
end Go.Am

