/- Part I2: insertion into a slice. No condition. -/
import Derived.Test.YtbidhbeoimpjbaaGreatDoorI1
import Derived.Test.YtbidhbeoimpjbaaGreatDoorF2
set_option linter.unusedSimpArgs false
set_option linter.unusedVariables false
namespace Go.Am
open Go.Proofs Go.Shelf Go.RowKit Go.Lib
theorem NN(w:World)(dT sT ty elem:TypeId)(b o dLen dCap:Nat)(a:Addr)(sLen sCap:Nat)(cs:List Value)(z m:Nat)(hm:m=Nat.min sLen dLen)(hu:Tryz.prog.underlying dT=some (.slice elem)) (hs:(Tryz.prog.info? elem).map (·.size)=some z) (hn:cs.length=m*z)(bH:∀j v,cs[j]?=some v->w.cell? (a.add j)=some v) (hc:∀j,j<cs.length->(w.cell? ⟨b,o+j,none⟩).isSome=true) (hf:∀j,j<cs.length->w.frozen? ⟨b,o+j,none⟩=false) (h1:∀v∈cs,v.oneCell'=true) : (Builtin.copy_ #[dT,sT] ty #[.slice (some ⟨b,o,none⟩) dLen dCap,.slice (some a) sLen sCap]).run Tryz.prog w=.ok (goInt (m:Nat)) (w.setCells b o cs):=by
 have hl:=run_loadCells_list (P:=Tryz.prog) w a cs bH;have aI:=run_storeCells_cells (P:=Tryz.prog) b o cs 0 w (by simpa using hc) (by simpa using hf) h1;subst hm;cases hq:Tryz.prog.info? elem with
 |none=>simp[hq]at hs
 |some i =>
  have hi:i.size=z:=by simpa [hq] using hs
  simp[Builtin.copy_,run_underlying hu,Builtin.lenOf,Builtin.firstCells,sizeOf,typeInfo,hq,hi,<-hn,hl,aI]
set_option maxHeartbeats 4000000 in
set_option maxRecDepth 100000 in
theorem vJ(b off n c vb voff vc:Nat)(vs:List Value)(w:World)(bG:n+1<=c)(eN:c<=9223372036854775807)(dH:vs.length=1*8) (dF:∀j,j<1*8->(w.cell? ⟨b,off+n*8+j,none⟩).isSome=true) (d7:∀j,j<1*8->w.frozen? ⟨b,off+n*8+j,none⟩=false)(dZ:∀j v,vs[j]?=some v->w.cell? ⟨vb,voff+j,none⟩=some v) (dW:∀v∈vs,v.oneCell'=true) :
  Calls Tryz.prog 45 #[.slice (some ⟨b,off,none⟩) n c,.int .i64 n,.slice (some ⟨vb,voff,none⟩) 1 vc] w fun e w' =>
   e=.returned (.slice (some ⟨b,off,none⟩) (n+1) c)/\w'=w.setCells b (off+n*8) vs:=by
 have t22:=Tryz.underlying22;have u22:=run_underlying Tryz.underlying22;have a22:=Tryz.isAgg22;have z22:=Tryz.sizeOf22;have v22:=Tryz.zeroValue22;have t4:=Tryz.underlying4;have u4:=run_underlying Tryz.underlying4;have a4:=Tryz.isAgg4;have z4:=Tryz.sizeOf4;have v4:=Tryz.zeroValue4;have t3:=Tryz.underlying3;have u3:=run_underlying Tryz.underlying3;have a3:=Tryz.isAgg3;have z3:=Tryz.sizeOf3;have v3:=Tryz.zeroValue3;have t27:=Tryz.underlying27;have u27:=run_underlying Tryz.underlying27;have a27:=Tryz.isAgg27;have z27:=Tryz.sizeOf27;have v27:=Tryz.zeroValue27;have mixed:Tryz.prog.follows .mixedOrders=true:=by kernel_rfl
 obtain⟨i0,qv,dL,cj,fE⟩:=info_parts (show(Tryz.prog.info? 27).map (fun i=>(i.zero,i.size,i.bytes))=some (some (.agg #[.int .i64 0,.int .i64 0,.int .i64 0,.int .i64 0,.int .i64 0,.int .i64 0,.int .i64 0,.slice none 0 0]),8,80) by kernel_rfl);have bH:_root_.Go.Src Tryz.prog i0.size 22 (.slice (some ⟨vb,voff,none⟩) 1 vc) 1 vs w:=by rw[cj];exact _root_.Go.Src.ofSlice w Tryz.underlying22 ⟨vb,voff,none⟩ 1 vc vs (by omega) (fun j u hj=>by rw[Addr.add_lit];exact dZ j u hj) dW
 have aG:∀ty,(Builtin.append_ #[22,22] ty #[.slice (some ⟨b,off,none⟩) n c,.slice (some ⟨vb,voff,none⟩) 1 vc]).run Tryz.prog w=_:=fun ty =>
  run_append_room_src (w:=w) 22 22 ty 27 i0 Tryz.underlying22 qv b off n c _ 1 vs bH bG (by rw[cj,dH];exact dF) (by rw[cj,dH];exact d7)
 rw[cj]at aG
 go_enter Tryz.func45,Tryz.ntmps45
 go_wp2_with (at_builtin;refine Lib.wpList_append_run _ rfl _ _ _ _ rfl _ _ rfl rfl _ _ (aG _) ?_)
 go_ret
 exact⟨rfl,rfl⟩
set_option maxHeartbeats 4000000 in
set_option maxRecDepth 100000 in
theorem vK(base:Option Addr)(n c vb voff vc:Nat)(cs vs:List Value)(w:World)(iN:n<=c)(bG:c<n+1)(gj:(n+1)*80<=140737488355328)(jn:cs.length=n*8) (dH:vs.length=1*8) (cX:base=none->n=0)(bF:∀a,base=some a->∀j v,cs[j]?=some v->w.cell? (a.add j)=some v)(dZ:∀j v,vs[j]?=some v->w.cell? ⟨vb,voff+j,none⟩=some v) (dW:∀v∈vs,v.oneCell'=true) :
  Calls Tryz.prog 45 #[.slice base n c,.int .i64 n,.slice (some ⟨vb,voff,none⟩) 1 vc] w fun e w' =>
   e=.returned (.slice (some ⟨w.heap.size,0,none⟩) (n+1) (grownCap w (n+1) c 27)) /\
   w'=w.drew.alloc (.cells ((cs++vs).toArray++Builtin.zeroCells (.agg #[.int .i64 0,.int .i64 0,.int .i64 0,.int .i64 0,.int .i64 0,.int .i64 0,.int .i64 0,.slice none 0 0]:Value).cells (grownCap w (n+1) c 27-(n+1))) 27):=by
 have t22:=Tryz.underlying22;have u22:=run_underlying Tryz.underlying22;have a22:=Tryz.isAgg22;have z22:=Tryz.sizeOf22;have v22:=Tryz.zeroValue22;have t4:=Tryz.underlying4;have u4:=run_underlying Tryz.underlying4;have a4:=Tryz.isAgg4;have z4:=Tryz.sizeOf4;have v4:=Tryz.zeroValue4;have t3:=Tryz.underlying3;have u3:=run_underlying Tryz.underlying3;have a3:=Tryz.isAgg3;have z3:=Tryz.sizeOf3;have v3:=Tryz.zeroValue3;have t27:=Tryz.underlying27;have u27:=run_underlying Tryz.underlying27;have a27:=Tryz.isAgg27;have z27:=Tryz.sizeOf27;have v27:=Tryz.zeroValue27;have mixed:Tryz.prog.follows .mixedOrders=true:=by kernel_rfl
 obtain⟨i0,qv,dL,cj,fE⟩:=info_parts (show(Tryz.prog.info? 27).map (fun i=>(i.zero,i.size,i.bytes))=some (some (.agg #[.int .i64 0,.int .i64 0,.int .i64 0,.int .i64 0,.int .i64 0,.int .i64 0,.int .i64 0,.slice none 0 0]),8,80) by kernel_rfl);have bH:_root_.Go.Src Tryz.prog i0.size 22 (.slice (some ⟨vb,voff,none⟩) 1 vc) 1 vs w:=by rw[cj];exact _root_.Go.Src.ofSlice w Tryz.underlying22 ⟨vb,voff,none⟩ 1 vc vs (by omega) (fun j u hj=>by rw[Addr.add_lit];exact dZ j u hj) dW
 have aU:(Builtin.firstCells i0.size n (.slice base n c)).run Tryz.prog w.drew=.ok cs.toArray w.drew:=by
  rw[cj];cases base with
  |none =>have h0:=cX rfl;subst h0;have cP:cs=[]:=J7.1 (by omega);rw[cP];exact run_firstCells_none w.drew 8 0 0 c
  |some a=>exact run_firstCells_some w.drew 8 n a n c cs (by omega) (fun j v hj=>bF a rfl j v hj)
 have aG:∀ty,(Builtin.append_ #[22,22] ty #[.slice base n c,.slice (some ⟨vb,voff,none⟩) 1 vc]).run Tryz.prog w=_:=fun ty =>
  run_append_grow_src (w:=w) 22 22 ty 27 i0 _ Tryz.underlying22 qv dL base n c cs aU _ 1 vs bH bG (by omega) (by rw[fE];exact growslice_fits bG gj)
 go_enter Tryz.func45,Tryz.ntmps45
 cases base with
 |none =>
  have h0:=cX rfl;subst h0
  go_wp2_with (at_builtin;refine Lib.wpList_append_run _ rfl _ _ _ _ rfl _ _ rfl rfl _ _ (aG _) ?_)
  go_ret
  exact⟨rfl,rfl⟩
 |some a =>
  obtain⟨ab,ao,asp⟩:=a
  go_wp2_with (at_builtin;refine Lib.wpList_append_run _ rfl _ _ _ _ rfl _ _ rfl rfl _ _ (aG _) ?_)
  all_goals (go_ret;exact⟨rfl,rfl⟩)
set_option maxHeartbeats 4000000 in
set_option maxRecDepth 100000 in
theorem vL(b off n c i vb voff vc:Nat)(cs vs:List Value)(w:World)(hi:i<n)(bG:n+1<=c)(eN:c<=9223372036854775807)(lv:vb≠b)(jn:cs.length=n*8) (dH:vs.length=1*8)(bF:∀j v,cs[j]?=some v->w.cell? ⟨b,off+j,none⟩=some v) (dF:∀j,j<(n+1)*8->(w.cell? ⟨b,off+j,none⟩).isSome=true) (d7:∀j,j<(n+1)*8->w.frozen? ⟨b,off+j,none⟩=false)(dZ:∀j v,vs[j]?=some v->w.cell? ⟨vb,voff+j,none⟩=some v) (dX:∀v∈cs,v.oneCell'=true) (dW:∀v∈vs,v.oneCell'=true)(tA tB:TypeId) (kA kB:Nat) (iO:w.shape? vb=some (tA,kA)) (ou:w.shape? b=some (tB,kB)) (ov:kB≠0) (iW:w.frozen? ⟨vb,voff,none⟩=false) (lw:w.frozen? ⟨vb,kA,none⟩=false) :
  Calls Tryz.prog 45 #[.slice (some ⟨b,off,none⟩) n c,.int .i64 i,.slice (some ⟨vb,voff,none⟩) 1 vc] w fun e w' =>
   e=.returned (.slice (some ⟨b,off,none⟩) (n+1) c)/\w'=(w.drew.setCells b (off+(i+1)*8) (cs.drop (i*8))).setCells b (off+i*8) vs:=by
 have t22:=Tryz.underlying22;have u22:=run_underlying Tryz.underlying22;have a22:=Tryz.isAgg22;have z22:=Tryz.sizeOf22;have v22:=Tryz.zeroValue22;have t4:=Tryz.underlying4;have u4:=run_underlying Tryz.underlying4;have a4:=Tryz.isAgg4;have z4:=Tryz.sizeOf4;have v4:=Tryz.zeroValue4;have t3:=Tryz.underlying3;have u3:=run_underlying Tryz.underlying3;have a3:=Tryz.isAgg3;have z3:=Tryz.sizeOf3;have v3:=Tryz.zeroValue3;have t27:=Tryz.underlying27;have u27:=run_underlying Tryz.underlying27;have a27:=Tryz.isAgg27;have z27:=Tryz.sizeOf27;have v27:=Tryz.zeroValue27;have mixed:Tryz.prog.follows .mixedOrders=true:=by kernel_rfl
 obtain⟨i0,qv,dL,cj,fE⟩:=info_parts (show(Tryz.prog.info? 27).map (fun i=>(i.zero,i.size,i.bytes))=some (some (.agg #[.int .i64 0,.int .i64 0,.int .i64 0,.int .i64 0,.int .i64 0,.int .i64 0,.int .i64 0,.slice none 0 0]),8,80) by kernel_rfl);have iA:¬((i:Int)=(n:Int)):=by omega
 have ox:∀lb cb,(callFunc 74 #[.slice (some ⟨vb,voff,none⟩) 1 vc,.slice (some ⟨b,off+(i+1)*8,none⟩) lb cb]).run Tryz.prog w=.ok (.value (.bool false)) w:=fun lb cb=>by
  rw[run_callFunc_extern Tryz.func74 (by kernel_rfl) (by kernel_rfl) (by kernel_rfl) (e:=Extern.SlicesOverlaps.overlaps #[22,22] #[4]) (by kernel_rfl),
   Lib.run_overlaps_apart w 22 4 27 Tryz.underlying22 8 z27 ⟨vb,voff,none⟩ ⟨b,off+(i+1)*8,none⟩ 1 vc lb cb lv tA tB kA kB iO ou ov iW lw]
  rfl
 have gm:(cs.drop (i*8)).length=(n-i)*8:=by rw[EB,jn];omega
 have aJ:(Tryz.prog.info? 27).map (·.size)=some 8:=by rw[qv];simp[cj]
 have oy:IntKind.i64.wrap ((i:Int)+(1:Int))=(i:Int)+(1:Int):=by rw[IntKind.wrap_i64];omega
 have dQ:(0:Int)<=(i:Int)+(1:Int):=by omega
 have aP:i<=n:=by omega
 have oz:((i:Int)+(1:Int)).toNat=i+1:=by omega
 have cR:¬(c=i+1):=by omega
 have kV:(i:Int)<=(n:Int)+(1:Int):=by omega
 have pX:¬(c=i):=by omega
 have jt:∀ty dc sc,(Builtin.copy_ #[22,22] ty #[.slice (some ⟨b,off+(i+1)*8,none⟩) (n-i) dc,.slice (some ⟨b,off+i*8,none⟩) (n+1-i) sc]).run Tryz.prog w.drew=.ok (goInt (n-i:Nat)) (w.drew.setCells b (off+(i+1)*8) (cs.drop (i*8))):=fun ty dc sc =>
  NN w.drew _ _ ty 27 b (off+(i+1)*8) (n-i) dc ⟨b,off+i*8,none⟩ (n+1-i) sc (cs.drop (i*8)) 8 (n-i) (by simp only[Nat.min_def];split<;>omega) Tryz.underlying22 aJ gm (fun j v hj=>by rw[Addr.add_lit,EF];exact bF (i*8+j) v (by rwa [F3]at hj)) (fun j hj=>by rw[EF];exact dF _ (by omega)) (fun j hj=>by rw[EF];exact d7 _ (by omega)) (fun v hv=>dX v (U0 hv))
 obtain⟨W1,fb⟩:∃W1,W1=w.drew.setCells b (off+(i+1)*8) (cs.drop (i*8)):=⟨_,rfl⟩;have ly:∀k,k<(n+1)*8->(W1.cell? ⟨b,off+k,none⟩).isSome=true:=fun k hk=>by rw[fb];exact isSome_setCells b _ _ _ (fun j hj=>by rw[EF];exact dF _ (by omega)) _ (dF k hk)
 have l5:∀(W:World),(∀x,W.cell? x=W1.cell? x)->(∀x,W.frozen? x=W1.frozen? x)->∀ty dc,(Builtin.copy_ #[22,22] ty #[.slice (some ⟨b,off+i*8,none⟩) (n+1-i) dc,.slice (some ⟨vb,voff,none⟩) 1 vc]).run Tryz.prog W=.ok (goInt (1:Nat)) (W.setCells b (off+i*8) vs):=fun W gG ju ty dc =>
  NN W _ _ ty 27 b (off+i*8) (n+1-i) dc ⟨vb,voff,none⟩ 1 vc vs 8 1 (by simp only[Nat.min_def];split<;>omega) Tryz.underlying22 aJ dH (fun j v hj=>by rw[Addr.add_lit,gG,fb,World.cell?_setCells_out b _ _ _ _ (fun h _=>absurd h lv)];exact dZ j v hj) (fun j hj=>by rw[gG,EF];exact ly _ (by omega)) (fun j hj=>by rw[ju,fb,World.frozen?_setCells,EF];exact d7 _ (by omega)) dW
 rw[<-fb]at jt
 go_enter Tryz.func45,Tryz.ntmps45
 go_wp2_with (simp only[ox])
 go_region_law_o (refine step_copy_runI rfl _ _ 22 22 rfl _ _ (by simp[Act.eval,Act.put]) (by simp[Act.eval,Act.put]) (jt _ _ _) ?_)
 go_wp2_with (at_builtin;refine wpList_copy_runI _ rfl _ _ 22 22 rfl _ _ rfl rfl (l5 _ (fun _=>rfl) (fun _=>rfl) _ _) ?_)
 go_ret
 first|exact⟨rfl,rfl⟩|exact⟨rfl,by rw[fb]⟩
set_option maxHeartbeats 4000000 in
set_option maxRecDepth 100000 in
theorem vM(b off n c i vb voff vc:Nat)(cs vs:List Value)(w:World)(hi:i<n)(iN:n<=c)(bG:c<n+1)(gj:(n+1)*80<=140737488355328)(jn:cs.length=n*8) (dH:vs.length=1*8)(bF:∀j v,cs[j]?=some v->w.cell? ⟨b,off+j,none⟩=some v)(dZ:∀j v,vs[j]?=some v->w.cell? ⟨vb,voff+j,none⟩=some v) (dX:∀v∈cs,v.oneCell'=true) (dW:∀v∈vs,v.oneCell'=true) :
  Calls Tryz.prog 45 #[.slice (some ⟨b,off,none⟩) n c,.int .i64 i,.slice (some ⟨vb,voff,none⟩) 1 vc] w fun e w' =>
   ∃(G:Nat) (ROW:Array Value),n+1<=G/\G<=9223372036854775807/\(n+1)*8<=ROW.size/\ROW.size=G*8/\(∀j,j<i*8->ROW[j]?=cs[j]?)/\e=.returned (.slice (some ⟨w.heap.size,0,none⟩) (n+1) G) /\
   w'=(((w.alloc (.cells ROW 27)).drew.setCells w.heap.size (i*8) vs).drew).setCells w.heap.size ((i+1)*8) (cs.drop (i*8)):=by
 have t22:=Tryz.underlying22;have u22:=run_underlying Tryz.underlying22;have a22:=Tryz.isAgg22;have z22:=Tryz.sizeOf22;have v22:=Tryz.zeroValue22;have t4:=Tryz.underlying4;have u4:=run_underlying Tryz.underlying4;have a4:=Tryz.isAgg4;have z4:=Tryz.sizeOf4;have v4:=Tryz.zeroValue4;have t3:=Tryz.underlying3;have u3:=run_underlying Tryz.underlying3;have a3:=Tryz.isAgg3;have z3:=Tryz.sizeOf3;have v3:=Tryz.zeroValue3;have t27:=Tryz.underlying27;have u27:=run_underlying Tryz.underlying27;have a27:=Tryz.isAgg27;have z27:=Tryz.sizeOf27;have v27:=Tryz.zeroValue27;have mixed:Tryz.prog.follows .mixedOrders=true:=by kernel_rfl
 obtain⟨i0,qv,dL,cj,fE⟩:=info_parts (show(Tryz.prog.info? 27).map (fun i=>(i.zero,i.size,i.bytes))=some (some (.agg #[.int .i64 0,.int .i64 0,.int .i64 0,.int .i64 0,.int .i64 0,.int .i64 0,.int .i64 0,.slice none 0 0]),8,80) by kernel_rfl);have iA:¬((i:Int)=(n:Int)):=by omega
 have pY:(c:Int)<(n:Int)+(1:Int):=by omega
 have aJ:(Tryz.prog.info? 27).map (·.size)=some 8:=by rw[qv];simp[cj]
 have o9:b<w.heap.size:=block_lt_of_cell (bF 0 _ (AD (by omega)));have oB:vb<w.heap.size:=block_lt_of_cell (dZ 0 _ (AD (by omega)));have gF:(n:Int)+(1:Int)-(i:Int)=((n+1-i:Nat):Int):=by omega
 have iM:i+(n+1-i)=n+1:=by omega
 have fQ:(cs.take (i*8)).length=i*8:=by rw[Eg];omega
 have aU:(Builtin.firstCells i0.size i (.slice (some ⟨b,off,none⟩) i c)).run Tryz.prog w.drew=.ok (cs.take (i*8)).toArray w.drew:=by
  rw[cj]
  exact run_firstCells_some w.drew 8 i ⟨b,off,none⟩ i c (cs.take (i*8)) (by omega) (fun j v hj=>by
   rw[Addr.add_lit];rw[FX]at hj;split at hj
   ·exact bF j v hj
   ·cases hj)
 have kh:∀ty,(Builtin.append_ #[22,3] ty #[.slice (some ⟨b,off,none⟩) i c,.int .i64 ((n:Int)+(1:Int)-(i:Int))]).run Tryz.prog w =
   .ok (.slice (some ⟨w.heap.size,0,none⟩) (n+1) (grownCap w (n+1) c 27)) (w.drew.alloc (.cells ((cs.take (i*8)).toArray++Builtin.zeroCells (.agg #[.int .i64 0,.int .i64 0,.int .i64 0,.int .i64 0,.int .i64 0,.int .i64 0,.int .i64 0,.slice none 0 0]:Value).cells (n+1-i)++Builtin.zeroCells (.agg #[.int .i64 0,.int .i64 0,.int .i64 0,.int .i64 0,.int .i64 0,.int .i64 0,.int .i64 0,.slice none 0 0]:Value).cells (grownCap w (n+1) c 27-(n+1))) 27)):=fun ty=>by
  have h:=Lib.run_append_grow_zeros (P:=Tryz.prog) w 22 3 ty 27 i0 _ .i64 .i64 Tryz.underlying22 Tryz.underlying3 qv dL (some ⟨b,off,none⟩) i c (cs.take (i*8)) aU (n+1-i) (by omega) (by omega) (by omega) (by omega) (by rw[fE];omega) (by rw[fE,iM];exact growslice_fits bG gj);rw[iM]at h;rw[gF];exact h
 obtain⟨G,hG⟩:∃G,G=grownCap w (n+1) c 27:=⟨_,rfl⟩;obtain⟨ROW,gn⟩:∃ROW:Array Value,ROW=(cs.take (i*8)).toArray++Builtin.zeroCells (.agg #[.int .i64 0,.int .i64 0,.int .i64 0,.int .i64 0,.int .i64 0,.int .i64 0,.int .i64 0,.slice none 0 0]:Value).cells (n+1-i)++Builtin.zeroCells (.agg #[.int .i64 0,.int .i64 0,.int .i64 0,.int .i64 0,.int .i64 0,.int .i64 0,.int .i64 0,.slice none 0 0]:Value).cells (G-(n+1)):=⟨_,rfl⟩;rw[<-hG]at kh;rw[<-gn]at kh;have mD:n+1<=G:=by rw[hG];exact grownCap_ge w _ _ _
 have dq:∀k,(Builtin.zeroCells (.agg #[.int .i64 0,.int .i64 0,.int .i64 0,.int .i64 0,.int .i64 0,.int .i64 0,.int .i64 0,.slice none 0 0]:Value).cells k).size=k*8:=fun k=>by simp[Builtin.zeroCells,Value.cells]
 have oC:ROW.size=G*8:=by rw[gn,Lo,Lo,dq,dq,J8,fQ];omega
 have mE:(n+1)*8<=ROW.size:=by omega
 have oD:∀j,j<i*8->ROW[j]?=cs[j]?:=fun j hj=>by rw[gn,Pz (by rw[Lo,J8,fQ];omega),Pz (by rw[J8,fQ];omega),J5,FX,Ap hj]
 obtain⟨W1,fb⟩:∃W1,W1=w.drew.alloc (.cells ROW 27):=⟨_,rfl⟩;rw[<-fb]at kh;have hN:∀j,j<(n+1)*8->(W1.cell? ⟨w.heap.size,j,none⟩).isSome=true:=fun j hj=>by rw[fb,World.cell?_alloc_at (w:=w.drew) ROW _ w.heap.size j rfl,EA (by omega)];rfl
 have mF:∀j,W1.frozen? ⟨w.heap.size,j,none⟩=false:=fun j=>by rw[fb];exact World.frozen?_alloc_at (w:=w.drew) ROW _ w.heap.size j rfl
 have oE:∀j v,w.cell? ⟨b,j,none⟩=some v->W1.cell? ⟨b,j,none⟩=some v:=fun j v h=>by rw[fb,World.cell?_alloc_past (w:=w.drew) _ b j o9];exact h
 have oF:∀j v,w.cell? ⟨vb,j,none⟩=some v->W1.cell? ⟨vb,j,none⟩=some v:=fun j v h=>by rw[fb,World.cell?_alloc_past (w:=w.drew) _ vb j oB];exact h
 have l9:∀(W:World),(∀x,W.cell? x=W1.cell? x)->(∀x,W.frozen? x=W1.frozen? x)->∀ty dc,(Builtin.copy_ #[22,22] ty #[.slice (some ⟨w.heap.size,i*8,none⟩) (n+1-i) dc,.slice (some ⟨vb,voff,none⟩) 1 vc]).run Tryz.prog W=.ok (goInt (1:Nat)) (W.setCells w.heap.size (i*8) vs):=fun W gG ju ty dc =>
  NN W _ _ ty 27 w.heap.size (i*8) (n+1-i) dc ⟨vb,voff,none⟩ 1 vc vs 8 1 (by simp only[Nat.min_def];split<;>omega) Tryz.underlying22 aJ dH (fun j v hj=>by rw[Addr.add_lit,gG];exact oF _ v (dZ j v hj)) (fun j hj=>by rw[gG];exact hN _ (by omega)) (fun j hj=>by rw[ju];exact mF _) dW
 have lA:G<=9223372036854775807:=by have:=grownCap_le_maxLen w (n+1) c 27 (by unfold maxLen;omega);rw[<-hG]at this;unfold maxLen at this;omega
 have pZ:¬(G=i):=by omega
 have oG:¬(G=i+1):=by omega
 have mj:¬(c=i):=by omega
 have oH:b≠w.heap.size:=by omega
 have gm:(cs.drop (i*8)).length=(n-i)*8:=by rw[EB,jn];omega
 have jv:∀(W:World),(∀x,W.cell? x=(W1.setCells w.heap.size (i*8) vs).cell? x)->(∀x,W.frozen? x=(W1.setCells w.heap.size (i*8) vs).frozen? x)->∀ty dc sc,(Builtin.copy_ #[22,22] ty #[.slice (some ⟨w.heap.size,(i+1)*8,none⟩) (n-i) dc,.slice (some ⟨b,off+i*8,none⟩) (n-i) sc]).run Tryz.prog W=.ok (goInt (n-i:Nat)) (W.setCells w.heap.size ((i+1)*8) (cs.drop (i*8))):=fun W gG ju ty dc sc =>
  NN W _ _ ty 27 w.heap.size ((i+1)*8) (n-i) dc ⟨b,off+i*8,none⟩ (n-i) sc (cs.drop (i*8)) 8 (n-i) (by simp only[Nat.min_def];split<;>omega) Tryz.underlying22 aJ gm (fun j v hj=>by rw[Addr.add_lit,gG,World.cell?_setCells_out _ _ _ _ _ (fun h _=>absurd h oH),EF];exact oE _ v (bF (i*8+j) v (by rwa [F3]at hj))) (fun j hj=>by rw[gG];exact isSome_setCells _ _ _ _ (fun t ht=>hN _ (by omega)) _ (hN _ (by omega))) (fun j hj=>by rw[ju,World.frozen?_setCells];exact mF _) (fun v hv=>dX v (U0 hv))
 subst fb;have oI:∀x,((w.alloc (.cells ROW 27)).drew).cell? x=(w.drew.alloc (.cells ROW 27)).cell? x:=fun x=>rfl;have oJ:∀x,((w.alloc (.cells ROW 27)).drew).frozen? x=(w.drew.alloc (.cells ROW 27)).frozen? x:=fun x=>rfl;have oK:∀x,(((w.alloc (.cells ROW 27)).drew.setCells w.heap.size (i*8) vs).drew).cell? x=((w.drew.alloc (.cells ROW 27)).setCells w.heap.size (i*8) vs).cell? x:=fun x=>rfl;have oL:∀x,(((w.alloc (.cells ROW 27)).drew.setCells w.heap.size (i*8) vs).drew).frozen? x=((w.drew.alloc (.cells ROW 27)).setCells w.heap.size (i*8) vs).frozen? x:=fun x=>rfl;have oy:IntKind.i64.wrap ((i:Int)+(1:Int))=(i:Int)+(1:Int):=by rw[IntKind.wrap_i64];omega
 have dQ:(0:Int)<=(i:Int)+(1:Int):=by omega
 have aP:i<=n:=by omega
 have oz:((i:Int)+(1:Int)).toNat=i+1:=by omega
 have kV:(i:Int)<=(n:Int):=by omega
 clear gF iM aU gn hG
 go_enter Tryz.func45,Tryz.ntmps45
 go_wp2_with (first
  |(at_builtin;refine Lib.wpList_append_run _ rfl _ _ _ _ rfl _ _ rfl rfl _ _ (kh _) ?_)
  |(at_builtin;refine wpList_copy_runI _ rfl _ _ 22 22 rfl _ _ rfl rfl (l9 _ oI oJ _ _) ?_)
  | (at_builtin;refine wpList_copy_runI _ rfl _ _ 22 22 rfl _ _ rfl rfl (jv _ (fun _=>rfl) (fun _=>rfl) _ _ _) ?_))
 go_region_law_o (refine step_copy_runI rfl _ _ 22 22 rfl (.slice (some ⟨w.heap.size,(i+1)*8,none⟩) (n-i) (G-(i+1))) (.slice (some ⟨b,off+i*8,none⟩) (n-i) (c-i)) (by simp[Act.eval,Act.put]) (by simp[Act.eval,Act.put]) (jv _ oK oL 3 (G-(i+1)) (c-i)) ?_)
 go_wp2
 go_ret
 exact⟨G,ROW,mD,lA,mE,oC,oD,rfl,rfl⟩
theorem vN{s0:Nat}{w:World}{base:Option Addr}{n c i vb:Nat}{cs vs:List Value}{tv:TypeId}(cw:s0<=w.heap.size)(hm:Mne 8 s0 w base n c cs)(hi:i<=n)(hn:n<=100000)(hv:w.heap[vb]?=some (.cells vs.toArray tv (0,0)))(dH:vs.length=8)(dW:∀v∈vs,v.oneCell'=true)
  (aH:∀b,base=some ⟨b,0,none⟩->b≠vb):Calls Tryz.prog 45 #[.slice base n c,.int .i64 i,.slice (some ⟨vb,0,none⟩) 1 1] w fun e w' =>
   ∃base' c',e=.returned (.slice base' (n+1) c')/\Mne 8 s0 w' base' (n+1) c' (cs.take (i*8)++vs++cs.drop (i*8))/\Pst s0 w w':=by
 obtain⟨iN,eN,jn,dX,hl⟩:=hm;have lv:=(Dt.1 hv).1;have dZ:∀(j:Nat) (v:Value),vs[j]?=some v->w.cell? ⟨vb,0+j,none⟩=some v:=fun j v h=>by rw[Cx,(D6 hv j).1,J5];exact h
 have gi:(cs.take (i*8)++vs++cs.drop (i*8)).length=(n+1)*8:=by rw[BK,BK,Eg,EB,jn,dH];omega
 have ki:∀v∈cs.take (i*8)++vs++cs.drop (i*8),v.oneCell'=true:=fun v h=>by
  rcases Cp.1 h with h|h
  ·rcases Cp.1 h with h|h;·exact dX v (List.mem_of_mem_take h)
   ·exact dW v h
  ·exact dX v (U0 h)
 have dA:=vG (i:=i) (z:=8) (cs:=cs) (vs:=vs) (by omega) dH;by_cases aP:i=n
 ·subst aP;have oM:cs.drop (i*8)=[]:=qH.2 (by omega);have m7:cs.take (i*8)=cs:=Ia (by omega);by_cases hr:i+1<=c
  ·rcases hl with ⟨_,_,h0⟩|⟨b,arr,ty,rfl,hb,hh,jp,hc⟩;·omega
   have aH:=aH b rfl;refine(vJ b 0 i c vb 0 1 vs w hr eN (by omega) (fun j hj=>by rw[(D6 hh _).1,EA (by omega)];rfl) (fun j hj=>(D6 hh _).2.1) dZ dW).mono ?_;rintro e w' ⟨rfl,rfl⟩;obtain⟨arr',e1,e2,e3,e4⟩:=Hy vs (0+i*8) w arr hh (by omega);refine⟨_,_,rfl,⟨hr,eN,gi,ki,.inr ⟨b,arr',ty,rfl,hb,e1,by omega,fun j v hj=>?_⟩⟩,Pst.setCells hb hh (by omega)⟩;rw[dA]at hj;rw[e3];by_cases c1:j<i*8
   ·rw[Ap c1]at hj;rw[Aj (by omega)];exact hc j v hj
   ·rw[Aj c1]at hj;by_cases c2:j<(i+1)*8
    ·rw[Ap c2]at hj;rw[Ap (by omega),Cx];exact hj
    ·rw[Aj c2]at hj;have:=(AN.1 hj).1;omega
  ·have lB:c<i+1:=by omega
   refine(vK base i c vb 0 1 cs vs w iN lB (by omega) jn (by omega) (fun e=>by
    rcases hl with ⟨_,h,_⟩|⟨b,arr,ty,h,_⟩
    ·exact h
    ·rw[h]at e;cases e) (fun a ha j v hj=>by
    rcases hl with ⟨h,_⟩|⟨b,arr,ty,h,hb,hh,jp,hc⟩
    ·rw[h]at ha;cases ha
    ·rw[h]at ha;cases ha;rw[show(⟨b,0,none⟩:Addr).add j=⟨b,j,none⟩ by rw[Addr.add_lit,Cx],(D6 hh j).1];exact hc j v hj) dZ dW).mono ?_
   rintro e w' ⟨rfl,rfl⟩;have hG:=grownCap_ge w (i+1) c 27;have hz:(Builtin.zeroCells (.agg #[.int .i64 0,.int .i64 0,.int .i64 0,.int .i64 0,.int .i64 0,.int .i64 0,.int .i64 0,.slice none 0 0]:Value).cells (grownCap w (i+1) c 27-(i+1))).size=(grownCap w (i+1) c 27-(i+1))*8:=by simp[Builtin.zeroCells,Value.cells]
   have lC:=grownCap_le_maxLen w (i+1) c 27 (by unfold maxLen;omega);unfold maxLen at lC;refine⟨_,_,rfl,⟨hG,by omega,gi,ki,.inr ⟨w.heap.size,_,_,rfl,cw,Hx w.drew _,?_,fun j v hj=>?_⟩⟩,(Pst.drew w).trans (Pst.alloc (w:=w.drew) cw _)⟩
   ·rw[Lo,hz,J8,BK];omega
   ·rw[oM,m7,List.append_nil]at hj;have:=(AN.1 hj).1;rw[Pz (by rw[J8];exact this),J5];exact hj
 ·have hlt:i<n:=by omega
  rcases hl with ⟨_,h0,_⟩|⟨b,arr,ty,rfl,hb,hh,jp,hc⟩
  ·omega
  have aH:=aH b rfl;have bF:∀(j:Nat) (v:Value),cs[j]?=some v->w.cell? ⟨b,0+j,none⟩=some v:=fun j v h=>by rw[Cx,(D6 hh j).1];exact hc j v h
  by_cases hr:n+1<=c
  ·refine(vL b 0 n c i vb 0 1 cs vs w hlt hr eN (Ne.symm aH) jn (by omega) bF (fun j hj=>by rw[(D6 hh _).1,EA (by omega)];rfl) (fun j hj=>(D6 hh _).2.1) dZ dX dW _ _ _ _ (D6 hv 0).2.2 (D6 hh 0).2.2 (by omega) (D6 hv 0).2.1 (D6 hv _).2.1).mono ?_;rintro e w' ⟨rfl,rfl⟩;have gm:(cs.drop (i*8)).length=(n-i)*8:=by rw[EB,jn];omega
   obtain⟨arr',e1,e2,e3,e4⟩:=Hy (cs.drop (i*8)) (0+(i+1)*8) w.drew arr hh (by omega);obtain⟨arr2,f1,f2,f3,f4⟩:=Hy vs (0+i*8) _ arr' e1 (by omega);refine⟨_,_,rfl,⟨hr,eN,gi,ki,.inr ⟨b,arr2,ty,rfl,hb,f1,by omega,fun j v hj=>?_⟩⟩,((Pst.drew w).trans (Pst.setCells hb hh (by omega))).trans (Pst.setCells hb e1 (by omega))⟩;rw[dA]at hj;rw[f3,e3];by_cases c1:j<i*8
   ·rw[Ap c1]at hj;rw[Aj (by omega),Aj (by omega)];exact hc j v hj
   ·rw[Aj c1]at hj;by_cases c2:j<(i+1)*8
    ·rw[Ap c2]at hj;rw[Ap (by omega),Cx];exact hj
    ·rw[Aj c2]at hj;have:=(AN.1 hj).1;rw[Aj (by omega),Ap (by omega),F3,show i*8+(j-(0+(i+1)*8))=j-8 by omega];exact hj
  ·refine(vM b 0 n c i vb 0 1 cs vs w hlt iN (by omega) (by omega) jn (by omega) bF dZ dX dW).mono ?_;rintro e w' ⟨G,ROW,g1,g63,g2,g3,g4,rfl,rfl⟩;have gm:(cs.drop (i*8)).length=(n-i)*8:=by rw[EB,jn];omega
   have hR:(w.alloc (.cells ROW 27)).drew.heap[w.heap.size]?=some (.cells ROW 27 (0,0)):=Hx w _;obtain⟨arr',e1,e2,e3,e4⟩:=Hy vs (i*8) (w.alloc (.cells ROW 27)).drew ROW hR (by omega);have e1':(((w.alloc (.cells ROW 27)).drew.setCells w.heap.size (i*8) vs).drew).heap[w.heap.size]?=some (.cells arr' 27 (0,0)):=e1;obtain⟨arr2,f1,f2,f3,f4⟩:=Hy (cs.drop (i*8)) ((i+1)*8) _ arr' e1' (by omega);refine⟨_,_,rfl,⟨g1,g63,gi,ki,.inr ⟨w.heap.size,arr2,_,rfl,cw,f1,by omega,fun j v hj=>?_⟩⟩,((((Pst.alloc cw _).trans (Pst.drew _)).trans (Pst.setCells cw hR (by omega))).trans (Pst.drew _)).trans (Pst.setCells cw e1' (by omega))⟩;rw[dA]at hj;rw[f3,e3];by_cases c1:j<i*8
   ·rw[Ap c1]at hj;rw[Aj (by omega),Aj (by omega),g4 j c1];exact hj
   ·rw[Aj c1]at hj;by_cases c2:j<(i+1)*8
    ·rw[Ap c2]at hj;rw[Aj (by omega),Ap (by omega)];exact hj
    ·rw[Aj c2]at hj;have:=(AN.1 hj).1;rw[Ap (by omega),F3,show i*8+(j-(i+1)*8)=j-8 by omega];exact hj
set_option maxHeartbeats 4000000 in
set_option maxRecDepth 100000 in
theorem vO{s0:Nat}{w:World}{base:Option Addr}{n c:Nat}{cs:List Value}(cw:s0<=w.heap.size)(jn:cs.length=n*8)(cX:base=none->n=0)(bF:∀a,base=some a->∀(j:Nat) (v:Value),cs[j]?=some v->w.cell? (a.add j)=some v)(dX:∀v∈cs,v.oneCell'=true) (hn:n<=100000):Calls Tryz.prog 46 #[.slice base n c] w fun e w'=>∃base' c',e=.returned (.slice base' n c')/\Mne 8 s0 w' base' n c' cs/\Pst s0 w w':=by
 have t22:=Tryz.underlying22;have u22:=run_underlying Tryz.underlying22;have a22:=Tryz.isAgg22;have z22:=Tryz.sizeOf22;have v22:=Tryz.zeroValue22;have t4:=Tryz.underlying4;have u4:=run_underlying Tryz.underlying4;have a4:=Tryz.isAgg4;have z4:=Tryz.sizeOf4;have v4:=Tryz.zeroValue4;have t3:=Tryz.underlying3;have u3:=run_underlying Tryz.underlying3;have a3:=Tryz.isAgg3;have z3:=Tryz.sizeOf3;have v3:=Tryz.zeroValue3;have t27:=Tryz.underlying27;have u27:=run_underlying Tryz.underlying27;have a27:=Tryz.isAgg27;have z27:=Tryz.sizeOf27;have v27:=Tryz.zeroValue27;have mixed:Tryz.prog.follows .mixedOrders=true:=by kernel_rfl
 obtain⟨i0,qv,dL,cj,fE⟩:=info_parts (show(Tryz.prog.info? 27).map (fun i=>(i.zero,i.size,i.bytes))=some (some (.agg #[.int .i64 0,.int .i64 0,.int .i64 0,.int .i64 0,.int .i64 0,.int .i64 0,.int .i64 0,.slice none 0 0]),8,80) by kernel_rfl);have e22:=fun w a n c n' c'=>Lib.run_eql_slice_nil (P:=Tryz.prog) w 22 27 a n c n' c' Tryz.underlying22;cases base with
 |none =>
  obtain rfl:=cX rfl
  go_enter Tryz.func46,Tryz.ntmps46
  go_wp2_with (simp only[e22])
  go_ret
  exact⟨none,0,rfl,⟨AB _,by omega,jn,dX,.inl ⟨rfl,rfl,rfl⟩⟩,Pst.refl _ _⟩
 |some a =>
  have bF:=bF a rfl;have bH:∀W:World,(∀j,j<cs.length->W.cell? (a.add j)=w.cell? (a.add j))->_root_.Go.Src Tryz.prog i0.size 22 (.slice (some a) n c) n cs W:=fun W hW=>by rw[cj];exact _root_.Go.Src.ofSlice W Tryz.underlying22 a n c cs jn (fun j u hj=>by rw[hW j (AN.1 hj).1];exact bF j u hj) dX
  obtain⟨ab,ao,asp⟩:=a;by_cases h0:n=0
  ·subst h0;obtain rfl:cs=[]:=J7.1 (by omega)
   have aG:∀ty,(Builtin.append_ #[22,22] ty #[.slice (some ⟨w.heap.size,0,none⟩) 0 0,.slice (some ⟨ab,ao,asp⟩) 0 c]).run Tryz.prog (w.alloc (.cells #[] 27))=_:=fun ty =>
    run_append_nothing (w.alloc (.cells #[] 27)) 22 22 ty 27 i0 Tryz.underlying22 qv _ 0 0 (AB _) _ (bH _ fun j hj=>by simp at hj)
   go_enter Tryz.func46,Tryz.ntmps46
   go_wp2_with (first
    |simp only[e22]
    | (at_builtin;refine Lib.wpList_append_run _ rfl _ _ _ _ rfl _ _ rfl rfl _ _ (aG _) ?_))
   go_ret
   exact⟨_,_,rfl,⟨AB _,by omega,jn,dX,.inr ⟨w.heap.size,#[],27,rfl,cw,Hx w _,rfl,fun j v hj=>by simp at hj⟩⟩,Pst.alloc cw _⟩
  ·have gH:ab<w.heap.size:=by
    have h1:=bF 0 _ (AD (by omega));rw[show(⟨ab,ao,asp⟩:Addr).add 0=⟨ab,ao,asp⟩ by simp[Addr.add]]at h1;exact block_lt_of_cell h1
   have aG:∀ty,(Builtin.append_ #[22,22] ty #[.slice (some ⟨w.heap.size,0,none⟩) 0 0,.slice (some ⟨ab,ao,asp⟩) n c]).run Tryz.prog (w.alloc (.cells #[] 27))=_:=fun ty =>
    run_append_grow_src (w:=w.alloc (.cells #[] 27)) 22 22 ty 27 i0 _ Tryz.underlying22 qv dL (some ⟨w.heap.size,0,none⟩) 0 0 [] (run_firstCells_some _ i0.size 0 _ 0 0 [] (by simp) (fun j v hj=>by simp at hj)) _ n cs (bH _ fun j hj=>by refine World.cell?_alloc_lt _ _ _ ?_;show((⟨ab,ao,asp⟩:Addr).add j).block<_;unfold Addr.add;split<;>exact gH) (by omega) (by omega) (by rw[fE];exact growslice_fits (by omega) (by omega))
   go_enter Tryz.func46,Tryz.ntmps46
   go_wp2_with (first
    |simp only[e22]
    | (at_builtin;refine Lib.wpList_append_run _ rfl _ _ _ _ rfl _ _ rfl rfl _ _ (aG _) ?_))
   go_ret
   have hG:=grownCap_ge (w.alloc (.cells #[] 27)) n 0 27;have lC:=grownCap_le_maxLen (w.alloc (.cells #[] 27)) n 0 27 (by unfold maxLen;omega);unfold maxLen at lC;have dh:(w.alloc (.cells #[] 27)).heap.size=w.heap.size+1:=World.size_alloc _ _
   have hh:∀o,((w.alloc (.cells #[] 27)).drew.alloc o).heap[w.heap.size+1]?=some o:=fun o=>by
    have:=Hx (w.alloc (.cells #[] 27)).drew o
    rwa [show(w.alloc (.cells #[] 27)).drew.heap.size=w.heap.size+1 from dh]at this
   refine⟨_,_,rfl,⟨hG,by omega,jn,dX,.inr ⟨w.heap.size+1,_,_,rfl,by omega,hh _,?_,fun j v hj=>?_⟩⟩,((Pst.alloc cw _).trans (Pst.drew _)).trans (Pst.alloc (w:=(w.alloc (.cells #[] 27)).drew) (by show s0<=(w.alloc (.cells #[] 27)).heap.size;omega) _)⟩
   ·simp only[Lo,J8,U3,jn];simp[Builtin.zeroCells,Value.cells];omega
   ·have:=(AN.1 hj).1;rw[Pz (by simpa using this)];simpa using hj
set_option maxHeartbeats 4000000 in
set_option maxRecDepth 100000 in
theorem uC{α:Type}(C:α->List Aa)(kj:∀x,(C x).length=8)(jw:∀g w x vs,RVs g w (C x) vs->∀v∈vs,v.oneCell'=true)(l:List α)(r:α)(k:Nat)(hk:k<=l.length)(hn:l.length<400)(hC:B8 EE Tryz.prog 24 [slcV 8 C l] (.int .i64 0)) (hR:B8 EE Tryz.prog 22 [.agg (C r)] (.bool true)) (hB:B8 EE Tryz.prog 42 [slcV 8 C l,.agg (C r),.fn 43 0 []] (.tup [.int .i64 k,.bool false])) :
    Pure EE Tryz.prog 12 [slcV 8 C l,.agg (C r)] (.tup [slcV 8 C (l.take k++[r]++l.drop k),.int .i64 0]):=by
  intro g w vs H hv
  obtain⟨v0,v1,rfl⟩:∃v0 v1,vs=[v0,v1]:=by
    have:=hv.1
    match vs,this with
    |[v0,v1],_=>exact⟨v0,v1,rfl⟩
  have qD:RV g w (slcV 8 C l) v0:=hv.2 0 _ _ rfl rfl;have ii:RV g w (.agg (C r)) v1:=hv.2 1 _ _ rfl rfl;obtain⟨base,cap,cs,rfl,ij,cX,bF,dX⟩:=vH (by omega) kj qD
  obtain⟨y1,y2,y3,y4,y5,y6,y7,y8,rfl,mG⟩:∃y1 y2 y3 y4 y5 y6 y7 y8,v1=.agg #[y1,y2,y3,y4,y5,y6,y7,y8]/\RVs g w (C r) [y1,y2,y3,y4,y5,y6,y7,y8]:=by
    cases ii with
    |agg _ a aJ h =>
      obtain⟨la⟩:=a;have aJ:la.length=8:=by have:=kj r;simp only[J8]at aJ;omega
      match la,aJ with
      |[y1,y2,y3,y4,y5,y6,y7,y8],_=>exact⟨y1,y2,y3,y4,y5,y6,y7,y8,rfl,by simpa using kj r |>.symm,fun i x v h1 h2=>h i x v h1 (by simpa using h2)⟩
  have ho:=jw g w r _ mG;have o1:=ho y1 (by simp);have o2:=ho y2 (by simp);have o3:=ho y3 (by simp);have o4:=ho y4 (by simp);have o5:=ho y5 (by simp);have o6:=ho y6 (by simp);have o7:=ho y7 (by simp);have o8:=ho y8 (by simp);have lD:RVs g w [.agg (C r)] [.agg #[y1,y2,y3,y4,y5,y6,y7,y8]]:=.cons ii (.nil g w);have qa:¬((400:Int)<=(l.length:Int)):=by omega
  have p0:Pst w.heap.size w (w.alloc (.cells #[y1,y2,y3,y4,y5,y6,y7,y8] 27)):=Pst.alloc (AB _) _;have c6:(w.alloc (.cells #[y1,y2,y3,y4,y5,y6,y7,y8] 27)).heap.size=w.heap.size+1:=World.size_alloc _ _;have b0:=Hx w (.cells #[y1,y2,y3,y4,y5,y6,y7,y8] 27);have hq:∀w1,Pst (w.heap.size+1) (w.alloc (.cells #[y1,y2,y3,y4,y5,y6,y7,y8] 27)) w1->w1.cell? ⟨w.heap.size,0,none⟩=some y1/\w1.cell? ⟨w.heap.size,1,none⟩=some y2/\w1.cell? ⟨w.heap.size,2,none⟩=some y3/\w1.cell? ⟨w.heap.size,3,none⟩=some y4/\w1.cell? ⟨w.heap.size,4,none⟩=some y5/\w1.cell? ⟨w.heap.size,5,none⟩=some y6/\w1.cell? ⟨w.heap.size,6,none⟩=some y7/\w1.cell? ⟨w.heap.size,7,none⟩=some y8:=fun w1 p=>by refine⟨?_,?_,?_,?_,?_,?_,?_,?_⟩<;>(rw[p.cell (by omega),(D6 b0 _).1];rfl)
  have lE:∀W,Pst w.heap.size w W->_:=fun W p=>B8.past hB H (vs:=[.slice base l.length cap,.agg #[y1,y2,y3,y4,y5,y6,y7,y8],.func (.func 43) #[] #[]]) (.cons qD (.cons ii (.cons (.fn 43 0 [] #[] rfl (fun i x v h=>by simp at h)) (.nil g w)))) p;have t22:=Tryz.underlying22;have u22:=run_underlying Tryz.underlying22;have a22:=Tryz.isAgg22;have z22:=Tryz.sizeOf22;have v22:=Tryz.zeroValue22;have t4:=Tryz.underlying4;have u4:=run_underlying Tryz.underlying4;have a4:=Tryz.isAgg4;have z4:=Tryz.sizeOf4;have v4:=Tryz.zeroValue4;have t3:=Tryz.underlying3;have u3:=run_underlying Tryz.underlying3;have a3:=Tryz.isAgg3;have z3:=Tryz.sizeOf3;have v3:=Tryz.zeroValue3;have t27:=Tryz.underlying27;have u27:=run_underlying Tryz.underlying27;have a27:=Tryz.isAgg27;have z27:=Tryz.sizeOf27;have v27:=Tryz.zeroValue27;have mixed:Tryz.prog.follows .mixedOrders=true:=by kernel_rfl
  obtain⟨i0,qv,dL,cj,fE⟩:=info_parts (show(Tryz.prog.info? 27).map (fun i=>(i.zero,i.size,i.bytes))=some (some (.agg #[.int .i64 0,.int .i64 0,.int .i64 0,.int .i64 0,.int .i64 0,.int .i64 0,.int .i64 0,.slice none 0 0]),8,80) by kernel_rfl);have t28:=Tryz.underlying28;have u28:=run_underlying Tryz.underlying28;have a28:=Tryz.isAgg28;have z28:=Tryz.sizeOf28;have v28:=Tryz.zeroValue28
  go_enter Tryz.func12,Tryz.ntmps12
  go_wp2_with (first
    |(go_at_call 24;refine(B8.past hC H (.cons qD (.nil g w)) p0).mono ?_;rintro e w1 ⟨g1,v,rfl,fo,p1⟩;cases fo;rw[c6]at p1;have p1':=p0.trans (p1.mono (Dd _));obtain⟨q1,q2,q3,q4,q5,q6,q7,q8⟩:=hq w1 p1)
    |(go_at_call 22;refine(B8.past hR H lD p1').mono ?_;rintro e w2 ⟨g2,v,rfl,eK,p2⟩;cases eK;have p2:=p1.trans (p2.mono (c6▸p1.size));have p2':=p0.trans (p2.mono (Dd _));obtain⟨q1,q2,q3,q4,q5,q6,q7,q8⟩:=hq w2 p2)
    | (go_at_call 42;refine(lE _ p2').mono ?_;rintro e w3 ⟨g3,v,rfl,gU,p3⟩;obtain rfl:=vI gU;have p3:=p2.trans (p3.mono (c6▸p2.size));obtain⟨q1,q2,q3,q4,q5,q6,q7,q8⟩:=hq w3 p3))
  have fZ:w.heap.size+1<=w3.heap.size:=c6▸p3.size;have pw3:Pst w.heap.size w w3:=p0.trans (p3.mono (Dd _))
  have lF:∀W,Pst (w.heap.size+1) w3 W->∀a,base=some a->∀(j:Nat) (v:Value),cs[j]?=some v->W.cell? (a.add j)=some v:=fun W pW a ha j v hj =>
    (pw3.trans (pW.mono (Dd _))).cellA (bF a ha j v hj)
  have pd:Pst (w.heap.size+1) w3 w3.drew:=Pst.drew _;have pa:∀o,Pst (w.heap.size+1) w3 (w3.alloc o).drew:=fun o=>(Pst.alloc fZ o).trans (Pst.drew _);have iO:∀o,(w3.alloc o).heap.size=w3.heap.size+1:=fun o=>World.size_alloc _ _;have jx:=ij.1;have dW:∀v∈[y1,y2,y3,y4,y5,y6,y7,y8],v.oneCell'=true:=ho;have mH:l.length<=100000:=by omega
  go_region_with (first
    | (go_at_call 46
       refine(vO (AB _) jx cX (lF _ (by first|exact pd|exact pa _)) dX mH).mono ?_;rintro e w4 ⟨base1,c1,rfl,fH,p4⟩;have dQ:=fH.rng;have pm:Pst (w.heap.size+1) w3 w4:=(by first|exact pd|exact pa _:Pst (w.heap.size+1) w3 _).trans (p4.mono (by simp only[World.size_drew,iO];omega));have mI:=Bo fZ pm.size;have kl:Mne 8 (w.heap.size+1) w4 base1 l.length c1 cs:=fH.mono (by simp only[World.size_drew,iO];omega);obtain⟨q1,q2,q3,q4,q5,q6,q7,q8⟩:=hq w4 (p3.trans pm))
    | (go_at_call 45
       refine(vN (s0:=w.heap.size+1) (vs:=[y1,y2,y3,y4,y5,y6,y7,y8]) (tv:=27) (by first|exact mI|(rw[World.size_alloc];omega)) (by first|exact kl|exact kl.past (Pst.alloc (AB _) _) (AB _)) hk mH (by first|exact Hx _ _|exact(p4.old _ (by simp only[World.size_drew,iO];omega)).trans (Hx w3 _)) rfl dW (fun b e=>by have:=dQ b e;simp only[World.size_drew,iO]at this;omega)).mono ?_;rintro e w5 ⟨base2,c2,rfl,oO,p5⟩;have p5:Pst (w.heap.size+1) w3 w5:=pm.trans (by first|exact p5|exact(Pst.alloc mI _).trans p5)))
  all_goals
    go_wp2
    go_ret2
    have oP:CRel g w C 8 (l.take k++[r]++l.drop k) (cs.take (k*8)++[y1,y2,y3,y4,y5,y6,y7,y8]++cs.drop (k*8)):=((ij.take hk).app (.one rfl mG)).app (ij.drop k);have eF:l.length+1=(l.take k++[r]++l.drop k).length:=(by simp;omega);obtain⟨g',r1,r2,r3⟩:=Mne.give H (pw3.trans (p5.mono (Dd _))) kj (oO.mono (Dd _)) oP eF (Nat.succ_pos _)
    exact⟨g',h0,_,_,rfl,rfl,.tup _ _ rfl (fun i x v h1 h2=>by
      match i with
      |0=>cases h1;cases h2;exact r1
      |1=>cases h1;cases h2;exact .int _ _
      | i+2=>simp at h1),r2,r3⟩
end Go.Am

