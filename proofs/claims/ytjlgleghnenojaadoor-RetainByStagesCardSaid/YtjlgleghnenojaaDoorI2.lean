/- Part I2: insertion into a slice. No condition. -/
import Derived.Test.YtjlgleghnenojaaDoorI1
import Derived.Test.YtjlgleghnenojaaDoorC1
set_option linter.unusedSimpArgs false
set_option linter.unusedVariables false
namespace Go.Am
open Go.Proofs Go.Shelf Go.RowKit Go.Lib
set_option maxHeartbeats 4000000 in
set_option maxRecDepth 100000 in
theorem kzt1(f:Nat->List AVal):Pure EE Tryd.prog 55 [.slc 5 0 f] (.slc 5 0 f):=by
 intro g w vs H hv
 obtain⟨v0,rfl⟩:∃v0,vs=[v0]:=by
  have:=hv.1
  match vs,this with
  |[v0],_=>exact⟨v0,rfl⟩
 have hv0:RV g w (.slc 5 0 f) v0:=hv.2 0 _ _ rfl rfl
 obtain⟨base,c,rfl⟩:∃base c,v0=.slice base 0 c:=by
  cases hv0 with
  |slc0 st f a cap=>exact⟨_,_,rfl⟩
  |slc st n f b off cap vals=>exact⟨_,_,rfl⟩
 have fin:∀w' b' c',Pst w.heap.size w w'->∃g' h',RV g' w' (.slc 5 0 f) (.slice b' 0 c')/\HR EE g' h' w'/\Stp g h0 w g' h' w':=fun w' b' c' p=>by obtain⟨hle,H'⟩:=H.past p;exact⟨g,h0,.slc0 _ _ _ _,H',⟨hle,p.os,p.tape,p.output,p.size,fun x hx _=>p.old x hx,(by intro i hi;cases hi),fun x hx=>.inl hx,p.drawn⟩⟩
 have t38:=Tryd.underlying38;have u38:=run_underlying Tryd.underlying38;have a38:=Tryd.isAgg38;have z38:=Tryd.sizeOf38;have v38:=Tryd.zeroValue38;have t4:=Tryd.underlying4;have u4:=run_underlying Tryd.underlying4;have a4:=Tryd.isAgg4;have z4:=Tryd.sizeOf4;have v4:=Tryd.zeroValue4;have t3:=Tryd.underlying3;have u3:=run_underlying Tryd.underlying3;have a3:=Tryd.isAgg3;have z3:=Tryd.sizeOf3;have v3:=Tryd.zeroValue3;have t72:=Tryd.underlying72;have u72:=run_underlying Tryd.underlying72;have a72:=Tryd.isAgg72;have z72:=Tryd.sizeOf72;have v72:=Tryd.zeroValue72;have mixed:Tryd.prog.follows .mixedOrders=true:=by kernel_rfl
 obtain⟨i0,hi0,hz0,hzs,hzb⟩:=info_parts (show(Tryd.prog.info? 72).map (fun i=>(i.zero,i.size,i.bytes))=some (some (.agg #[.int .i64 0,.int .i64 0,.slice none 0 0,.int .i64 0,.int .i64 0]),5,56) by kernel_rfl);have e38:=fun w a n c n' c'=>Lib.run_eql_slice_nil (P:=Tryd.prog) w 38 72 a n c n' c' Tryd.underlying38;cases base with
 |none =>
  go_enter Tryd.func55,Tryd.ntmps55
  go_wp2_with (simp only[e38])
  go_ret
  obtain⟨g',h',e2,e3,e4⟩:=fin w none 0 (Pst.refl _ _);exact⟨g',h',_,_,rfl,rfl,e2,e3,e4⟩
 |some a =>
  obtain⟨ab,ao,asp⟩:=a;have hsrc:∀W:World,_root_.Go.Src Tryd.prog i0.size 38 (.slice (some ⟨ab,ao,asp⟩) 0 c) 0 [] W:=fun W=>by rw[hzs];exact _root_.Go.Src.ofSlice W Tryd.underlying38 ⟨ab,ao,asp⟩ 0 c [] rfl (fun j u hj=>by simp at hj) (fun v hv=>by simp at hv)
  have hrun:∀ty,(Builtin.append_ #[38,38] ty #[.slice (some ⟨w.heap.size,0,none⟩) 0 0,.slice (some ⟨ab,ao,asp⟩) 0 c]).run Tryd.prog (w.alloc (.cells #[] 72))=_:=fun ty =>
   run_append_nothing (w.alloc (.cells #[] 72)) 38 38 ty 72 i0 Tryd.underlying38 hi0 _ 0 0 (Gcy _) _ (hsrc _)
  go_enter Tryd.func55,Tryd.ntmps55
  go_wp2_with (first
   |simp only[e38]
   | (at_builtin;refine Lib.wpList_append_run _ rfl _ _ _ _ rfl _ _ rfl rfl _ _ (hrun _) ?_))
  go_ret
  obtain⟨g',h',e2,e3,e4⟩:=fin (w.alloc (.cells #[] 72)) (some ⟨w.heap.size,0,none⟩) 0 (Pst.alloc (Gcy _) _);exact⟨g',h',_,_,rfl,rfl,e2,e3,e4⟩
theorem kztt(f:Nat->List AVal):qzq EE Tryd.prog 55 [.slc 5 0 f] (.slc 5 0 f) := (kzt1 f).still hEE (fun z hz=>by rw[Gcc.1 hz];exact .slc _ _ _ fun i x hi=>absurd hi (Gde i)) (.slc _ _ _ fun i x hi=>absurd hi (Gde i))
set_option maxHeartbeats 4000000 in
set_option maxRecDepth 100000 in
theorem kzt7(f:Nat->List AVal):Pure EE Tryd.prog 56 [.slc 2 0 f] (.slc 2 0 f):=by
 intro g w vs H hv
 obtain⟨v0,rfl⟩:∃v0,vs=[v0]:=by
  have:=hv.1
  match vs,this with
  |[v0],_=>exact⟨v0,rfl⟩
 have hv0:RV g w (.slc 2 0 f) v0:=hv.2 0 _ _ rfl rfl
 obtain⟨base,c,rfl⟩:∃base c,v0=.slice base 0 c:=by
  cases hv0 with
  |slc0 st f a cap=>exact⟨_,_,rfl⟩
  |slc st n f b off cap vals=>exact⟨_,_,rfl⟩
 have fin:∀w' b' c',Pst w.heap.size w w'->∃g' h',RV g' w' (.slc 2 0 f) (.slice b' 0 c')/\HR EE g' h' w'/\Stp g h0 w g' h' w':=fun w' b' c' p=>by obtain⟨hle,H'⟩:=H.past p;exact⟨g,h0,.slc0 _ _ _ _,H',⟨hle,p.os,p.tape,p.output,p.size,fun x hx _=>p.old x hx,(by intro i hi;cases hi),fun x hx=>.inl hx,p.drawn⟩⟩
 have t70:=Tryd.underlying70;have u70:=run_underlying Tryd.underlying70;have a70:=Tryd.isAgg70;have z70:=Tryd.sizeOf70;have v70:=Tryd.zeroValue70;have t4:=Tryd.underlying4;have u4:=run_underlying Tryd.underlying4;have a4:=Tryd.isAgg4;have z4:=Tryd.sizeOf4;have v4:=Tryd.zeroValue4;have t3:=Tryd.underlying3;have u3:=run_underlying Tryd.underlying3;have a3:=Tryd.isAgg3;have z3:=Tryd.sizeOf3;have v3:=Tryd.zeroValue3;have t82:=Tryd.underlying82;have u82:=run_underlying Tryd.underlying82;have a82:=Tryd.isAgg82;have z82:=Tryd.sizeOf82;have v82:=Tryd.zeroValue82;have mixed:Tryd.prog.follows .mixedOrders=true:=by kernel_rfl
 obtain⟨i0,hi0,hz0,hzs,hzb⟩:=info_parts (show(Tryd.prog.info? 82).map (fun i=>(i.zero,i.size,i.bytes))=some (some (.agg #[.int .i64 0,.int .i64 0]),2,16) by kernel_rfl);have e70:=fun w a n c n' c'=>Lib.run_eql_slice_nil (P:=Tryd.prog) w 70 82 a n c n' c' Tryd.underlying70;cases base with
 |none =>
  go_enter Tryd.func56,Tryd.ntmps56
  go_wp2_with (simp only[e70])
  go_ret
  obtain⟨g',h',e2,e3,e4⟩:=fin w none 0 (Pst.refl _ _);exact⟨g',h',_,_,rfl,rfl,e2,e3,e4⟩
 |some a =>
  obtain⟨ab,ao,asp⟩:=a;have hsrc:∀W:World,_root_.Go.Src Tryd.prog i0.size 70 (.slice (some ⟨ab,ao,asp⟩) 0 c) 0 [] W:=fun W=>by rw[hzs];exact _root_.Go.Src.ofSlice W Tryd.underlying70 ⟨ab,ao,asp⟩ 0 c [] rfl (fun j u hj=>by simp at hj) (fun v hv=>by simp at hv)
  have hrun:∀ty,(Builtin.append_ #[70,70] ty #[.slice (some ⟨w.heap.size,0,none⟩) 0 0,.slice (some ⟨ab,ao,asp⟩) 0 c]).run Tryd.prog (w.alloc (.cells #[] 82))=_:=fun ty =>
   run_append_nothing (w.alloc (.cells #[] 82)) 70 70 ty 82 i0 Tryd.underlying70 hi0 _ 0 0 (Gcy _) _ (hsrc _)
  go_enter Tryd.func56,Tryd.ntmps56
  go_wp2_with (first
   |simp only[e70]
   | (at_builtin;refine Lib.wpList_append_run _ rfl _ _ _ _ rfl _ _ rfl rfl _ _ (hrun _) ?_))
  go_ret
  obtain⟨g',h',e2,e3,e4⟩:=fin (w.alloc (.cells #[] 82)) (some ⟨w.heap.size,0,none⟩) 0 (Pst.alloc (Gcy _) _);exact⟨g',h',_,_,rfl,rfl,e2,e3,e4⟩
theorem kzt2(f:Nat->List AVal):qzq EE Tryd.prog 56 [.slc 2 0 f] (.slc 2 0 f) := (kzt7 f).still hEE (fun z hz=>by rw[Gcc.1 hz];exact .slc _ _ _ fun i x hi=>absurd hi (Gde i)) (.slc _ _ _ fun i x hi=>absurd hi (Gde i))
end Go.Am

