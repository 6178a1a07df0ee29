/- Part A1: an abstract machine proved sound over the calculus of the guide. No condition. -/
import Derived.WalkKit
import Derived.RangeFuncLeaves
import Derived.OrdersIn
set_option linter.unusedSimpArgs false
set_option linter.unusedVariables false
namespace Go.Am
abbrev J5:=@Array.getElem?_append_left
abbrev DD:=@Array.getElem?_eq_getElem
abbrev CQ:=@Array.getElem?_eq_some_iff
abbrev Oz:=@Array.getElem?_modify
abbrev Lq:=@Array.getElem?_push
abbrev Za:=@Array.getElem_setIfInBounds
abbrev HG:=@Array.size_append
abbrev JC:=@Array.toArray_toList
abbrev AE:=@Bool.and_eq_true
abbrev Fo:=@Bool.cond_false_right
abbrev JD:=@Bool.cond_true_left
abbrev Fp:=@Bool.eq_iff_iff
abbrev L2:=@Bool.false_and
abbrev J6:=@Bool.false_eq_true
abbrev FS:=@Bool.not_eq_true'
abbrev DB:=@Bool.not_false
abbrev Dn:=@Bool.not_true
abbrev Tp:=@Bool.or_eq_false_iff
abbrev Fq:=@Bool.or_eq_true
abbrev L3:=@Bool.or_false
abbrev On:=@Bool.true_and
abbrev Lr:=@Int.fdiv_eq_ediv_of_nonneg
abbrev L5:=@Int.le_refl
abbrev Oo:=@Int.natCast_mul
abbrev Zb:=@Int.tdiv_eq_ediv_of_nonneg
abbrev CN:=@Int.toNat_natCast
abbrev GA:=@List.all_eq_true
abbrev Tg:=@List.cons_append
abbrev Tq:=@List.contains_iff_mem
abbrev L6:=@List.drop_drop
abbrev O0:=@List.drop_eq_getElem_cons
abbrev Tr:=@List.drop_eq_nil_iff
abbrev O1:=@List.eq_nil_of_length_eq_zero
abbrev JE:=@List.ext_getElem?
abbrev Ei:=@List.forall_mem_cons
abbrev JF:=@List.getD_eq_getElem?_getD
abbrev Fj:=@List.getElem?_append_left
abbrev GB:=@List.getElem?_append_right
abbrev Ts:=@List.getElem?_cons_zero
abbrev Ec:=@List.getElem?_drop
abbrev AD:=@List.getElem?_eq_getElem
abbrev JG:=@List.getElem?_eq_none
abbrev AK:=@List.getElem?_eq_some_iff
abbrev GH:=@List.getElem?_map
abbrev Tt:=@List.getElem?_mapIdx
abbrev O2:=@List.getElem?_range
abbrev O3:=@List.getElem?_replicate
abbrev J7:=@List.getElem?_set
abbrev Fl:=@List.getElem?_take
abbrev GI:=@List.getElem?_toArray
abbrev BH:=@List.getElem_mem
abbrev CF:=@List.getElem_of_mem
abbrev Ch:=@List.length_append
abbrev E7:=@List.length_cons
abbrev CO:=@List.length_drop
abbrev Ls:=@List.length_eq_zero_iff
abbrev J8:=@List.length_map
abbrev O4:=@List.length_range
abbrev Tu:=@List.length_replicate
abbrev H6:=@List.length_set
abbrev DE:=@List.length_singleton
abbrev Df:=@List.length_take
abbrev H7:=@List.map_congr_left
abbrev JH:=@List.map_cons
abbrev Bh:=@List.mem_append
abbrev AL:=@List.mem_cons
abbrev CG:=@List.mem_cons_of_mem
abbrev BI:=@List.mem_cons_self
abbrev Tv:=@List.mem_iff_getElem?
abbrev L7:=@List.mem_map
abbrev JI:=@List.mem_map_of_mem
abbrev CB:=@List.mem_of_getElem?
abbrev Oq:=@List.mem_of_mem_drop
abbrev GC:=@List.mem_range
abbrev Bi:=@List.mem_singleton
abbrev Ot:=@List.nil_append
abbrev H8:=@List.not_mem_nil
abbrev J9:=@List.pairwise_cons
abbrev Lt:=@List.pairwise_iff_getElem
abbrev H9:=@List.pairwise_singleton
abbrev FO:=@List.size_toArray
abbrev Tw:=@List.take_append_drop
abbrev FT:=@List.take_of_length_le
abbrev Dh:=@Nat.add_assoc
abbrev Ba:=@Nat.add_mul
abbrev GJ:=@Nat.add_zero
abbrev GL:=@Nat.blt_eq
abbrev HH:=@Nat.div_add_mod
abbrev Tx:=@Nat.div_div_eq_div_mul
abbrev JJ:=@Nat.div_eq_of_lt
abbrev GM:=@Nat.div_lt_iff_lt_mul
abbrev Fs:=@Nat.eq_zero_or_pos
abbrev Lu:=@Nat.gcd_comm
abbrev O5:=@Nat.le_div_iff_mul_le
abbrev HA:=@Nat.le_of_ble_eq_true
abbrev GN:=@Nat.le_of_lt
abbrev AC:=@Nat.le_refl
abbrev Cu:=@Nat.le_succ
abbrev Br:=@Nat.le_trans
abbrev Th:=@Nat.lt_of_le_of_lt
abbrev Ft:=@Nat.lt_of_lt_of_le
abbrev BU:=@Nat.lt_or_ge
abbrev CC:=@Nat.lt_succ_self
abbrev Ed:=@Nat.mod_eq_of_lt
abbrev FU:=@Nat.mod_lt
abbrev Ou:=@Nat.mul_add_div
abbrev O6:=@Nat.mul_add_mod
abbrev Fu:=@Nat.mul_assoc
abbrev Bj:=@Nat.mul_comm
abbrev Ti:=@Nat.mul_le_mul_left
abbrev Bo:=@Nat.mul_le_mul_right
abbrev Lv:=@Nat.mul_left_comm
abbrev Ov:=@Nat.not_lt_zero
abbrev JA:=@Nat.pos_of_ne_zero
abbrev HI:=@Nat.pow_add
abbrev Di:=@Nat.pow_le_pow_right
abbrev E5:=@Nat.pow_succ
abbrev Ee:=@Nat.succ_mul
abbrev Ci:=@Nat.zero_add
abbrev Dj:=@Nat.zero_le
abbrev Lw:=@Option.getD_some
abbrev Tj:=@Option.map_eq_some_iff
abbrev Do:=@Option.map_some
abbrev BJ:=@Option.some.inj
abbrev Bc:=@Option.some.injEq
abbrev DF:=@Prod.mk.injEq
abbrev Bt:=@beq_iff_eq
abbrev Cm:=@cond_false
abbrev BV:=@cond_true
abbrev Ef:=@congrArg
abbrev By:=@decide_eq_false
abbrev O7:=@decide_eq_false_iff_not
abbrev BF:=@decide_eq_true
abbrev Bp:=@decide_eq_true_eq
abbrev FP:=@decide_eq_true_iff
abbrev Dk:=@if_false
abbrev Ak:=@if_neg
abbrev An:=@if_pos
abbrev Cn:=@if_true
abbrev BW:=@not_or
abbrev Ty:=@of_decide_eq_true
abbrev HB:=@or_false
inductive Aa where
 |top
 |int (k:IntKind) (n:Int)
 |bool (b:Bool)
 |str (s:List UInt8)
 |agg (cs:List Aa)
 |tup (vs:List Aa)
 |nils
 |slc (st n:Nat) (f:Nat->List Aa)
 |vec (id ep lo n:Nat)
 |ptr (id ep off:Nat)
 |eptr (id ep i off:Nat)
 |cptr (f:Nat->Aa) (lim off:Nat)
 |nilp
 |fn (f:FuncId) (nb:Nat) (caps:List Aa)
 |nilfn
 |yld (id ep:Nat)
 |mp (id ep:Nat)
 |nilmp
 |cnd (c:Bool) (x:Aa)
structure Gh where
 blk:Nat->Nat
 ep:Nat->Nat
 bo:Nat->Nat
 st:Nat->Nat
 cp:Nat->Nat
 fz:Nat->Prop
def GO(g:Gh)(id lo n:Nat)(v:Value):Prop := ∃(a:Addr) (cap:Nat),v=.slice (some a) n cap/\n<=cap/\(cap=0\/(a=⟨g.blk id,g.bo id+lo*g.st id,none⟩/\lo+cap=g.cp id))
inductive RV(g:Gh)(w:World):Aa->Value->Prop where
 |top (v:Value):RV g w .top v
 |int (k:IntKind) (n:Int):RV g w (.int k n) (.int k n)
 |bool (b:Bool):RV g w (.bool b) (.bool b)
 |str (s:List UInt8) (b:ByteArray) (h:b.data.toList=s):RV g w (.str s) (.string b)
 |agg (l:List Aa) (a:Array Value) (hn:a.size=l.length) (h:∀(i:Nat) (x:Aa) (v:Value),l[i]?=some x->a[i]?=some v->RV g w x v):RV g w (.agg l) (.agg a)
 |tup (l:List Aa) (a:Array Value) (hn:a.size=l.length) (h:∀(i:Nat) (x:Aa) (v:Value),l[i]?=some x->a[i]?=some v->RV g w x v):RV g w (.tup l) (.tuple a)
 |nils:RV g w .nils (.slice none 0 0)
 |slc0 (st:Nat) (f:Nat->List Aa) (a:Option Addr) (cap:Nat):RV g w (.slc st 0 f) (.slice a 0 cap)
 |slc (st n:Nat) (f:Nat->List Aa) (b off cap:Nat) (vals:Nat->Nat->Value) (hz:g.fz b) (aT:n<=cap)
   (hl:∀i,i<n->(f i).length=st)
   (hc:∀i j,i<n->j<st->w.cell? ⟨b,off+i*st+j,none⟩=some (vals i j))
   (h1:∀i j,i<n->j<st->(vals i j).oneCell'=true)
   (hr:∀(i j:Nat) (x:Aa),i<n->(f i)[j]?=some x->RV g w x (vals i j)):RV g w (.slc st n f) (.slice (some ⟨b,off,none⟩) n cap)
 |vec (id ep lo n:Nat) (v:Value) (h1:v.oneCell'=true) (he:ep<=g.ep id) (h:ep=g.ep id->GO g id lo n v):RV g w (.vec id ep lo n) v
 |ptr (id ep off:Nat) (v:Value) (h1:v.oneCell'=true) (he:ep<=g.ep id) (h:ep=g.ep id->v=.pointer (some ⟨g.blk id,off,none⟩)):RV g w (.ptr id ep off) v
 |eptr (id ep i off:Nat) (v:Value) (h1:v.oneCell'=true) (he:ep<=g.ep id) (h:ep=g.ep id->v=.pointer (some ⟨g.blk id,g.bo id+i*g.st id+off,none⟩)):RV g w (.eptr id ep i off) v
 |cptr (f:Nat->Aa) (lim off b base:Nat) (vals:Nat->Value) (hz:g.fz b)
   (hc:∀j,j<lim->w.cell? ⟨b,base+j,none⟩=some (vals j)) (hr:∀j,j<lim->RV g w (f j) (vals j)):RV g w (.cptr f lim off) (.pointer (some ⟨b,base+off,none⟩))
 |nilp:RV g w .nilp (.pointer none)
 |fn (f:FuncId) (nb:Nat) (caps:List Aa) (a:Array Value) (hn:a.size=caps.length) (h:∀(i:Nat) (x:Aa) (v:Value),caps[i]?=some x->a[i]?=some v->RV g w x v):RV g w (.fn f nb caps) (.func (.func f) (a.toList.take nb).toArray (a.toList.drop nb).toArray)
 |nilfn:RV g w .nilfn .nilFunc
 |yld (id ep:Nat) (v:Value) (h1:v.oneCell'=true) (he:ep<=g.ep id) (h:ep=g.ep id->v=.func (.yield (g.blk id)) #[] #[]):RV g w (.yld id ep) v
 |mp (id ep:Nat) (v:Value) (h1:v.oneCell'=true) (he:ep<=g.ep id) (h:ep=g.ep id->v=.map (some (g.blk id))):RV g w (.mp id ep) v
 |nilmp:RV g w .nilmp (.map none)
 |cnd (c:Bool) (x:Aa) (v:Value) (h:c=true->RV g w x v) (h0:c=false->v=undef):RV g w (.cnd c x) v
structure GLe(g:Gh)(w:World)(g':Gh)(w':World):Prop where
 fz:∀b,g.fz b->g'.fz b/\w'.heap[b]?=w.heap[b]?
 ep:∀i,g.ep i<=g'.ep i
 same:∀i,g'.ep i=g.ep i->g'.blk i=g.blk i/\g'.bo i=g.bo i/\g'.st i=g.st i/\g'.cp i=g.cp i
theorem GLe.refl(g:Gh)(w:World):GLe g w g w:=⟨fun _ h=>⟨h,rfl⟩,fun _=>AC _,fun _ _=>⟨rfl,rfl,rfl,rfl⟩⟩
theorem GLe.trans{g g' g'':Gh}{w w' w'':World}(h:GLe g w g' w')(k:GLe g' w' g'' w''):GLe g w g'' w'' where
 fz b hb:=⟨(k.fz b (h.fz b hb).1).1,(k.fz b (h.fz b hb).1).2.trans (h.fz b hb).2⟩
 ep i:=Br (h.ep i) (k.ep i)
 same i he:=by have h1:=h.ep i;have h2:=k.ep i;obtain⟨a,b,c,d⟩:=h.same i (by omega);obtain⟨a',b',c',d'⟩:=k.same i (by omega);exact⟨a'.trans a,b'.trans b,c'.trans c,d'.trans d⟩
theorem Tz{w w':World}{a:Addr}(h:w'.heap[a.block]?=w.heap[a.block]?):w'.cell? a=w.cell? a:=by simp only[World.cell?,h]
theorem RV.mono{g g':Gh}{w w':World}(aE:GLe g w g' w'){a:Aa}{v:Value}(h:RV g w a v):RV g' w' a v:=by
 induction h with
 |top v=>exact .top v
 |int k n=>exact .int k n
 |bool b=>exact .bool b
 |str s b h=>exact .str s b h
 |agg l a hn _ ih=>exact .agg l a hn ih
 |tup l a hn _ ih=>exact .tup l a hn ih
 |nils=>exact .nils
 |slc0 st f a cap=>exact .slc0 st f a cap
 |slc st n f b off cap vals hz aT hl hc h1 _ ih =>exact .slc st n f b off cap vals (aE.fz b hz).1 aT hl (fun i j hi hj=>(Tz (aE.fz b hz).2).trans (hc i j hi hj)) h1 ih
 |vec id ep lo n v hv he h =>refine .vec id ep lo n v hv (Br he (aE.ep id)) fun e=>?_;have h1:=aE.ep id;obtain⟨a,o,b,c⟩:=aE.same id (by omega);obtain⟨ad,cap,h2,h3,h4⟩:=h (by omega);exact⟨ad,cap,h2,h3,by rw[a,o,b,c];exact h4⟩
 |ptr id ep off v hv he h =>refine .ptr id ep off v hv (Br he (aE.ep id)) fun e=>?_;have h1:=aE.ep id;obtain⟨a,o,b,c⟩:=aE.same id (by omega);rw[a];exact h (by omega)
 |eptr id ep i off v hv he h =>refine .eptr id ep i off v hv (Br he (aE.ep id)) fun e=>?_;have h1:=aE.ep id;obtain⟨a,o,b,c⟩:=aE.same id (by omega);rw[a,o,b];exact h (by omega)
 |cptr f lim off b base vals hz hc _ ih =>exact .cptr f lim off b base vals (aE.fz b hz).1 (fun j hj=>(Tz (aE.fz b hz).2).trans (hc j hj)) ih
 |nilp=>exact .nilp
 |fn f nb caps a hn _ ih=>exact .fn f nb caps a hn ih
 |nilfn=>exact .nilfn
 |yld id ep v hv he h =>refine .yld id ep v hv (Br he (aE.ep id)) fun e=>?_;have h1:=aE.ep id;obtain⟨a,o,b,c⟩:=aE.same id (by omega);rw[a];exact h (by omega)
 |mp id ep v hv he h =>refine .mp id ep v hv (Br he (aE.ep id)) fun e=>?_;have h1:=aE.ep id;obtain⟨a,o,b,c⟩:=aE.same id (by omega);rw[a];exact h (by omega)
 |nilmp=>exact .nilmp
 |cnd c x v _ h0 ih=>exact .cnd c x v ih h0
def RVs(g:Gh)(w:World)(l:List Aa)(a:List Value):Prop:=a.length=l.length/\∀(i:Nat) (x:Aa) (v:Value),l[i]?=some x->a[i]?=some v->RV g w x v
theorem RVs.mono{g g':Gh}{w w':World}(aE:GLe g w g' w'){l:List Aa}{a:List Value}(h:RVs g w l a):RVs g' w' l a := ⟨h.1,fun i x v hx hv=>(h.2 i x v hx hv).mono aE⟩
theorem RVs.nil(g:Gh)(w:World):RVs g w [] []:=⟨rfl,fun i x v hx _=>by simp at hx⟩
theorem RVs.cons{g:Gh}{w:World}{x:Aa}{v:Value}{l:List Aa}{a:List Value}(h:RV g w x v)(t:RVs g w l a):RVs g w (x :: l) (v :: a):=by
 refine⟨by simp[t.1],fun i y u hy hu=>?_⟩;cases i with
 |zero=>simp at hy hu;subst hy;subst hu;exact h
 |succ i=>exact t.2 i y u (by simpa using hy) (by simpa using hu)
theorem RVs.append{g:Gh}{w:World}{l l':List Aa}{a a':List Value}(h:RVs g w l a)(t:RVs g w l' a'):RVs g w (l++l') (a++a'):=by
 refine⟨by simp[h.1,t.1],fun i y u hy hu=>?_⟩;by_cases hi:i<l.length
 ·rw[Fj hi]at hy;rw[Fj (by rw[h.1];exact hi)]at hu;exact h.2 i y u hy hu
 ·rw[GB (by omega)]at hy;rw[GB (by rw[h.1];omega),h.1]at hu;exact t.2 _ y u hy hu
theorem RVs.set{g:Gh}{w:World}{l:List Aa}{a:List Value}(h:RVs g w l a)(i:Nat){x:Aa}{v:Value}(hx:RV g w x v):RVs g w (l.set i x) (a.set i v):=by
 refine⟨by simp[h.1],fun j y u hy hu=>?_⟩;rw[J7]at hy hu;by_cases e:i=j
 ·subst e;simp only[Cn]at hy hu;split at hy
  ·split at hu;·simp at hy hu;subst hy;subst hu;exact hx
   ·simp at hu
  ·simp at hy
 ·simp only[e,Dk]at hy hu;exact h.2 j y u hy hu
theorem RVs.getD{g:Gh}{w:World}{l:List Aa}{a:Array Value}(h:RVs g w l a.toList)(i:Nat):RV g w (l.getD i .top) (a.getD i undef):=by
 by_cases hi:i<l.length
 ·have h1:l[i]?=some l[i]:=AD hi;have hs:i<a.toList.length:=by rw[h.1];exact hi
  have h2:a.toList[i]?=some a.toList[i]:=AD hs;have:=h.2 i _ _ h1 h2;have e1:l.getD i .top=l[i]:=by simp[List.getD,h1]
  have e2:a.getD i undef=a.toList[i]:=by
   have:i<a.size:=by simpa using hs
   simp[Array.getD,this]
  rw[e1,e2];exact this
 ·have e1:l.getD i .top=.top:=by simp[List.getD,JG (Nat.le_of_not_lt hi)]
  rw[e1];exact .top _
inductive Aj where
 |gone (ep:Nat)
 |box (ep:Nat) (cs:List Aa)
 |vec (ep st n:Nat) (f:Nat->List Aa)
 |loop (ep:Nat) (state:LoopState) (pending:Option Code) (ts:List Aa) (ps:Array Tmp) (assign body:Code) (D eD:Nat)
 |dfr (ep:Nat)
 |amap (ep:Nat) (es:List (Aa×Aa))
 |miter (ep:Nat) (m:Option (Nat×Nat×Nat)) (seen:List Nat)
def Aj.owned:Aj->Bool
 |.gone _=>false
 |_=>true
def Aj.ep:Aj->Nat
 |.gone e=>e
 |.box e _=>e
 |.vec e _ _ _=>e
 |.loop e _ _ _ _ _ _ _ _=>e
 |.dfr e=>e
 |.amap e _=>e
 |.miter e _ _=>e
abbrev Aw:=Nat->Aj
def hset(h:Aw)(i:Nat)(o:Aj):Aw:=fun j=>if j=i then o else h j
def OR(g:Gh)(w:World)(i:Nat):Aj->Prop
 |.gone _=>True
 |.box _ cs=>∃(arr:Array Value) (ty:TypeId),w.heap[g.blk i]?=some (.cells arr ty (0,0))/\RVs g w cs arr.toList
 |.vec _ st n f=>g.st i=st/\0<st/\n<=g.cp i/\∃(arr:Array Value) (ty:TypeId),w.heap[g.blk i]?=some (.cells arr ty (0,0))/\g.bo i+g.cp i*st<=arr.size /\
   ∀k,k<n->(f k).length=st/\∀(j:Nat) (x:Aa) (v:Value),(f k)[j]?=some x->arr[g.bo i+k*st+j]?=some v->v.oneCell'=true/\RV g w x v
 |.loop _ state pending ts ps assign body D eD=>eD<=g.ep D/\∃(tmps:Array Value) (f:FuncId) (bD:Nat),(eD=g.ep D->bD=g.blk D) /\
   w.heap[g.blk i]?=some (.loop { state,pending,fn:=f,tmps,params:=ps,assign,body,defers:=bD })/\RVs g w ts tmps.toList
 |.dfr _=>w.heap[g.blk i]?=some (.deferred (some []))
 |.amap _ es=>∃(arr:Array MapEntry),w.heap[g.blk i]?=some (.map arr es.length)/\arr.size=es.length /\
   ∀(k:Nat) (e:Aa×Aa) (m:MapEntry),es[k]?=some e->arr[k]?=some m->RV g w e.1 m.key/\RV g w e.2 m.val/\m.born=k
 |.miter _ none _=>w.heap[g.blk i]?=some (.mapIter none 0 #[] 0)
 |.miter _ (some (M,eM,n)) seen=>eM<=g.ep M/\∃(bM:Nat),(eM=g.ep M->bM=g.blk M)/\w.heap[g.blk i]?=some (.mapIter (some bM) n seen.toArray n)
structure HR(E:Nat->Aa)(g:Gh)(h:Aw)(w:World):Prop where
 obj:∀(i:Nat),OR g w i (h i)
 ep:∀(i:Nat),g.ep i=(h i).ep
 inj:∀(i j:Nat),(h i).owned=true->(h j).owned=true->g.blk i=g.blk j->i=j
 sep:∀(i:Nat),(h i).owned=true->¬g.fz (g.blk i)
 fzb:∀b,g.fz b->b<w.heap.size
 glob:∀i,RV g w (E i) (.pointer (some ⟨i,0,none⟩))
theorem OR.lt{g:Gh}{w:World}{i:Nat}{o:Aj}(h:OR g w i o)(ho:o.owned=true):g.blk i<w.heap.size:=by
 cases o with
 |gone ep=>cases ho
 |box ep cs=>obtain⟨arr,ty,hb,_⟩:=h;exact(CQ.1 hb).1
 |vec ep st n f=>obtain⟨_,_,_,arr,ty,hb,_⟩:=h;exact(CQ.1 hb).1
 |loop ep s p ts ps asg body D eD=>obtain⟨_,tmps,f,bD,_,hb,_⟩:=h;exact(CQ.1 hb).1
 |dfr ep=>exact(CQ.1 h).1
 |amap ep es=>obtain⟨arr,hb,_⟩:=h;exact(CQ.1 hb).1
 |miter ep m seen =>
  cases m with
  |none=>exact(CQ.1 h).1
  |some m=>obtain⟨_,bM,_,hb⟩:=h;exact(CQ.1 hb).1
theorem OR.mono{g g':Gh}{w w':World}(aE:GLe g w g' w'){i:Nat}{o:Aj}(h:OR g w i o)(he:g'.ep i=g.ep i)(hb:o.owned=true->w'.heap[g.blk i]?=w.heap[g.blk i]?):OR g' w' i o:=by
 obtain⟨eb,eo,es,ec⟩:=aE.same i he;cases o with
 |gone ep=>trivial
 |box ep cs =>obtain⟨arr,ty,hh,hr⟩:=h;exact⟨arr,ty,by rw[eb,hb rfl];exact hh,hr.mono aE⟩
 |vec ep st n f =>
  obtain⟨e2,e3,e4,arr,ty,hh,hs,hr⟩:=h
  exact⟨es.trans e2,e3,by rw[ec];exact e4,arr,ty,by rw[eb,hb rfl];exact hh,by rw[ec,eo];exact hs,
   fun k hk=>⟨(hr k hk).1,fun j x v hx hv=>⟨((hr k hk).2 j x v hx (by rw[<-eo];exact hv)).1,((hr k hk).2 j x v hx (by rw[<-eo];exact hv)).2.mono aE⟩⟩⟩
 |loop ep s p ts ps asg body D eD =>obtain⟨hD,tmps,f,bD,eD',hh,hr⟩:=h;have h1:=aE.ep D;refine⟨by omega,tmps,f,bD,fun e=>?_,by rw[eb,hb rfl];exact hh,hr.mono aE⟩;rw[eD' (by omega)];exact((aE.same D (by omega)).1).symm
 |dfr ep=>exact(by rw[eb,hb rfl];exact h:w'.heap[g'.blk i]?=some (.deferred (some [])))
 |amap ep es =>obtain⟨arr,hh,hs,hr⟩:=h;exact⟨arr,by rw[eb,hb rfl];exact hh,hs,fun k e m he hm=>⟨(hr k e m he hm).1.mono aE,(hr k e m he hm).2.1.mono aE,(hr k e m he hm).2.2⟩⟩
 |miter ep m seen =>
  cases m with
  |none=>exact(by rw[eb,hb rfl];exact h:w'.heap[g'.blk i]?=some (.mapIter none 0 #[] 0))
  |some m =>obtain⟨M,eM,n⟩:=m;obtain⟨hM,bM,eM',hh⟩:=h;have h1:=aE.ep M;refine⟨by omega,bM,fun e=>?_,by rw[eb,hb rfl];exact hh⟩;rw[eM' (by omega)];exact((aE.same M (by omega)).1).symm
structure Stp(g:Gh)(h:Aw)(w:World)(g':Gh)(h':Aw)(w':World):Prop where
 le:GLe g w g' w'
 os:w'.os=w.os
 tape:w'.tape=w.tape
 output:w'.output=w.output
 size:w.heap.size<=w'.heap.size
 keep:∀b,b<w.heap.size->(∀(i:Nat),(h i).owned=true->g.blk i≠b)->w'.heap[b]?=w.heap[b]?
 own:∀(i:Nat),(h' i).owned=true->(∃(j:Nat),(h j).owned=true/\g.blk j=g'.blk i)\/w.heap.size<=g'.blk i
 fzn:∀b,g'.fz b->g.fz b\/(∃(j:Nat),(h j).owned=true/\g.blk j=b)\/w.heap.size<=b
 drawn:w.drawn<=w'.drawn
theorem Stp.refl(g:Gh)(h:Aw)(w:World):Stp g h w g h w := ⟨.refl g w,rfl,rfl,rfl,AC _,fun _ _ _=>rfl,fun i ho=>.inl ⟨i,ho,rfl⟩,fun _ h=>.inl h,AC _⟩
theorem Stp.trans{g g' g'':Gh}{h h' cu:Aw}{w w' w'':World}(a:Stp g h w g' h' w')(b:Stp g' h' w' g'' cu w''):Stp g h w g'' cu w'' where
 le:=a.le.trans b.le
 os:=b.os.trans a.os
 tape:=b.tape.trans a.tape
 output:=b.output.trans a.output
 drawn:=Br a.drawn b.drawn
 size:=Br a.size b.size
 keep x hx hn:=by
  rw[b.keep x (Ft hx a.size),a.keep x hx hn];intro i ho e;rcases a.own i ho with ⟨j,hj,e'⟩|hlt
  ·exact hn j hj (e'.trans e)
  ·omega
 own i ho:=by
  rcases b.own i ho with ⟨j,hj,e⟩|hlt
  ·rcases a.own j hj with ⟨j',aZ,e'⟩|hlt';·exact .inl ⟨j',aZ,e'.trans e⟩
   ·exact .inr (e▸hlt')
  ·exact .inr (Br a.size hlt)
 fzn x hx:=by
  rcases b.fzn x hx with h1|⟨j,hj,e⟩|h3
  ·exact a.fzn x h1
  ·rcases a.own j hj with ⟨j',aZ,e'⟩|hlt';·exact .inr (.inl ⟨j',aZ,e'.trans e⟩)
   ·exact .inr (.inr (e▸hlt'))
  ·exact .inr (.inr (Br a.size h3))
variable {E:Nat->Aa}
theorem HR.upd{g g':Gh}{h:Aw}{w w':World}{i:Nat}{o':Aj}(H:HR E g h w)(aE:GLe g w g' w')(cj:∀j,j≠i->g'.ep j=g.ep j) (cw:g'.ep i=o'.ep)(bA:∀b,b<w.heap.size->((h i).owned=true->b≠g.blk i)->w'.heap[b]?=w.heap[b]?) (cD:w.heap.size<=w'.heap.size)(fc:OR g' w' i o') (aK:o'.owned=true->((h i).owned=true/\g'.blk i=g.blk i)\/w.heap.size<=g'.blk i)(cx:o'.owned=true->¬g'.fz (g'.blk i)) (cO:∀b,g'.fz b->g.fz b\/(b=g.blk i/\(h i).owned=true)\/w.heap.size<=b) (kE:∀b,g'.fz b->b<w'.heap.size)(gH:w'.os=w.os) (d7:w'.tape=w.tape) (hout:w'.output=w.output) (iX:w.drawn<=w'.drawn:=by exact AC _) :
  HR E g' (hset h i o') w'/\Stp g h w g' (hset h i o') w':=by
 have other:∀(j:Nat),j≠i->(h j).owned=true->g'.blk j=g.blk j/\w'.heap[g.blk j]?=w.heap[g.blk j]?/\g.blk j<w.heap.size:=by intro j hj ho;have hO:=H.obj j;exact⟨(aE.same j (cj j hj)).1,bA _ (hO.lt ho) (fun ow e=>hj (H.inj j i ho ow e)),hO.lt ho⟩
 have at_i:hset h i o' i=o':=by simp[hset]
 have at_j:∀j,j≠i->hset h i o' j=h j:=fun j hj=>by simp[hset,hj]
 refine⟨⟨?_,?_,?_,?_,kE,fun i=>(H.glob i).mono aE⟩,⟨aE,gH,d7,hout,cD,?_,?_,?_,iX⟩⟩
 ·intro j;by_cases e:j=i
  ·subst e;rw[at_i];exact fc
  ·rw[at_j j e];exact(H.obj j).mono aE (cj j e) (fun ho=>(other j e ho).2.1)
 ·intro j;by_cases e:j=i
  ·subst e;rw[at_i];exact cw
  ·rw[at_j j e,cj j e];exact H.ep j
 ·intro j k op oq e;by_cases ej:j=i
  ·by_cases ek:k=i;·rw[ej,ek]
   ·subst ej;rw[at_i]at op;rw[at_j k ek]at oq;obtain⟨hb,_,hlt⟩:=other k ek oq;rw[hb]at e;rcases aK op with ⟨ow,e2⟩|hge
    ·exact(ek (H.inj k j oq ow (by rw[<-e,e2]))).elim
    ·omega
  ·by_cases ek:k=i
   ·subst ek;rw[at_i]at oq;rw[at_j j ej]at op;obtain⟨hb,_,hlt⟩:=other j ej op;rw[hb]at e;rcases aK oq with ⟨ow,e2⟩|hge
    ·exact(ej (H.inj j k op ow (by rw[e,e2]))).elim
    ·omega
   ·rw[at_j j ej]at op;rw[at_j k ek]at oq;rw[(other j ej op).1,(other k ek oq).1]at e;exact H.inj j k op oq e
 ·intro j op;by_cases e:j=i
  ·subst e;rw[at_i]at op;exact cx op
  ·rw[at_j j e]at op;obtain⟨hb,_,hlt⟩:=other j e op;rw[hb];intro hf;rcases cO _ hf with h1|⟨h2,ow⟩|h3
   ·exact H.sep j op h1
   ·exact e (H.inj j i op ow h2)
   ·omega
 ·intro b hb hn;exact bA b hb (fun ow e=>hn i ow e.symm)
 ·intro j op;by_cases e:j=i
  ·subst e;rw[at_i]at op;rcases aK op with ⟨ow,e2⟩|hge
   ·exact .inl ⟨j,ow,e2.symm⟩
   ·exact .inr hge
  ·rw[at_j j e]at op;exact .inl ⟨j,op,(other j e op).1.symm⟩
 ·intro b hb;rcases cO b hb with h1|⟨h2,ow⟩|h3
  ·exact .inl h1
  ·exact .inr (.inl ⟨i,ow,h2.symm⟩)
  ·exact .inr (.inr h3)
theorem HR.heap{g:Gh}{h:Aw}{w w':World}(H:HR E g h w)(he:w'.heap=w.heap)(gH:w'.os=w.os)(d7:w'.tape=w.tape)(hout:w'.output=w.output)(iX:w.drawn<=w'.drawn:=by simp):HR E g h w'/\Stp g h w g h w':=by have aE:GLe g w g w':=⟨fun b hb=>⟨hb,by rw[he]⟩,fun _=>AC _,fun _ _=>⟨rfl,rfl,rfl,rfl⟩⟩;exact⟨⟨fun i=>(H.obj i).mono aE rfl (fun _=>by rw[he]),H.ep,H.inj,H.sep,fun b hb=>by rw[he];exact H.fzb b hb,fun i=>(H.glob i).mono aE⟩,⟨aE,gH,d7,hout,by rw[he];exact AC _,fun b _ _=>by rw[he],fun i ho=>.inl ⟨i,ho,rfl⟩,fun _ h=>.inl h,iX⟩⟩
def OSub(o o':Aj):Prop:=o'=.gone o.ep\/o'=o\/∃ep st n f f',o=.vec ep st n f/\o'=.vec ep st n f'/\∀k,k<n->f' k=f k
theorem OSub.refl(o:Aj):OSub o o:=.inr (.inl rfl)
theorem OSub.owned{o o':Aj}(h:OSub o o')(ho:o'.owned=true):o.owned=true:=by
 rcases h with rfl|rfl|⟨ep,st,n,f,f',rfl,rfl,_⟩
 ·cases ho
 ·exact ho
 ·rfl
theorem HR.sub{g:Gh}{h h':Aw}{w:World}(H:HR E g h w)(s:∀i,OSub (h i) (h' i)):HR E g h' w:=by
 refine⟨fun i=>?_,fun i=>?_,fun i j hi hj e=>H.inj i j ((s i).owned hi) ((s j).owned hj) e,fun i hi=>H.sep i ((s i).owned hi),H.fzb,H.glob⟩
 ·have hO:=H.obj i;rcases s i with e|e|⟨ep,st,n,f,f',e,e',hf⟩
  ·rw[e];trivial
  ·rw[e];exact hO
  ·rw[e'] ;rw[e]at hO;obtain⟨e2,e3,e4,arr,ty,hh,hs,hr⟩:=hO;exact⟨e2,e3,e4,arr,ty,hh,hs,fun k hk=>by rw[hf k hk];exact hr k hk⟩
 ·rw[H.ep i];rcases s i with e|e|⟨ep,st,n,f,f',e,e',hf⟩
  ·rw[e];rfl
  ·rw[e]
  ·rw[e,e'];rfl
theorem Stp.sub{g g':Gh}{h h' cu:Aw}{w w':World}(a:Stp g h w g' h' w')(s:∀i,OSub (h' i) (cu i)):Stp g h w g' cu w' := ⟨a.le,a.os,a.tape,a.output,a.size,a.keep,fun i hi=>a.own i ((s i).owned hi),a.fzn,a.drawn⟩
structure Av where
 t:List Aa
 h:Aw
 ds:List (Nat×Nat)
structure SR(E:Nat->Aa)(g:Gh)(S:Av)(a:Act)(w:World):Prop where
 hr:HR E g S.h w
 tm:RVs g w S.t a.tmps.toList
 df:a.defers=S.ds.map fun D=>{ target:=.collected (g.blk D.1),args:=#[] }
 dk:∀D∈S.ds,S.h D.1=.dfr D.2
 dn:(S.ds.map (·.1)).Nodup
def FW(ρ:Option Nat):Fence:={ Fence.wide with round:=ρ }
theorem Zj(ρ:Option Nat)(f:FuncId):(FW ρ).fn f:=trivial
theorem O8(ρ:Option Nat):¬((FW ρ).depth.isSome=true):=by simp[FW,Fence.wide]
theorem Zk(ρ:Option Nat)(l:Nat):(FW ρ).inRound l=FW (some l):=rfl
theorem O9{ρ:Option Nat}{n:Nat}{P:Program}{f:FuncId}{args:Array Value}{w:World}{R:Ending->World->Prop}:CallsIn (FW ρ) n P f args w R↔Calls P f args w R:=by rw[<-callsIn_wide (n:=n)];exact Iff.rfl
def AWp(E:Nat->Aa)(ρ:Option Nat)(P:Program)(c:Code)(Q:Exit->Av->Prop)(S:Av):Prop :=
 ∀(g:Gh) (a:Act) (w:World),SR E g S a w ->
  c.wpIn (FW ρ) 0 P (fun e a' w'=>∃g' S',Q e S'/\SR E g' S' a' w'/\Stp g S.h w g' S'.h w') a w
def VSub(x x':Aa):Prop:=x'=.top\/x'=x\/∃st n f f',x=.slc st n f/\x'=.slc st n f'/\∀k,k<n->f' k=f k
theorem VSub.refl(x:Aa):VSub x x:=.inr (.inl rfl)
theorem RV.sub{g:Gh}{w:World}{x x':Aa}{v:Value}(h:RV g w x v)(s:VSub x x'):RV g w x' v:=by
 rcases s with rfl|rfl|⟨st,n,f,f',rfl,rfl,hf⟩
 ·exact .top v
 ·exact h
 ·cases h with
  |slc0=>exact .slc0 _ _ _ _
  |slc _ _ _ b off cap vals hz aT hl hc h1 hr =>exact .slc st n f' b off cap vals hz aT (fun i hi=>by rw[hf i hi];exact hl i hi) hc h1 (fun i j x hi hx=>hr i j x hi (by rw[<-hf i hi];exact hx))
def TSub:List Aa->List Aa->Prop
 |[],[]=>True
 |x :: l,x' :: l'=>VSub x x'/\TSub l l'
 |_,_=>False
theorem RVs.sub{g:Gh}{w:World}:∀{l l':List Aa} {a:List Value},RVs g w l a->TSub l l'->RVs g w l' a
 |[],[],_,h,_=>h
 |x :: l,x' :: l',a,h,s=>by
  cases a with
  |nil=>have:=h.1;simp at this
  |cons v a =>have hv:RV g w x v:=h.2 0 x v rfl rfl;have ht:RVs g w l a:=⟨by have:=h.1;simpa using this,fun i y u hy hu=>h.2 (i+1) y u (by simpa using hy) (by simpa using hu)⟩;exact .cons (hv.sub s.1) (RVs.sub ht s.2)
 |[],_ :: _,_,_,s=>s.elim
 |_ :: _,[],_,_,s=>s.elim
structure Sub(S S':Av):Prop where
 t:TSub S.t S'.t
 h:∀i,OSub (S.h i) (S'.h i)
 ds:S'.ds=S.ds
 dk:∀D∈S.ds,S'.h D.1=.dfr D.2
theorem SR.sub{g:Gh}{S S':Av}{a:Act}{w:World}(h:SR E g S a w)(s:Sub S S'):SR E g S' a w := ⟨h.hr.sub s.h,h.tm.sub s.t,by rw[s.ds];exact h.df,by rw[s.ds];exact s.dk,by rw[s.ds];exact h.dn⟩
section rules
variable {ρ:Option Nat}{P:Program}{Q:Exit->Av->Prop}{S:Av}
theorem AWp.mono{c:Code}{Q':Exit->Av->Prop}(h:AWp E ρ P c Q S)(hq:∀e S',Q e S'->Q' e S'):AWp E ρ P c Q' S :=
 fun g a w hs=>wpIn_mono (h g a w hs) fun _ _ _ ⟨g',S',q,r⟩=>⟨g',S',hq _ _ q,r⟩
theorem AWp.skip(h:Q .normal S):AWp E ρ P .skip Q S:=fun g a w hs=>wpIn_skip ⟨g,S,h,hs,.refl _ _ _⟩
theorem AWp.label{l:Nat}(h:Q .normal S):AWp E ρ P (.label l) Q S:=fun g a w hs=>wpIn_label ⟨g,S,h,hs,.refl _ _ _⟩
theorem AWp.exit{id:Nat}(h:Q (.exit id) S):AWp E ρ P (.exit id) Q S:=fun g a w hs=>wpIn_exit ⟨g,S,h,hs,.refl _ _ _⟩
theorem AWp.ret(h:Q .ret S):AWp E ρ P .ret Q S:=fun g a w hs=>wpIn_ret ⟨g,S,h,hs,.refl _ _ _⟩
def Dp(K:Av->Prop)(Q:Exit->Av->Prop):Exit->Av->Prop
 |.normal,S=>K S
 |e,S=>Q e S
theorem AWp.seq{x y:Code}(h:AWp E ρ P x (Dp (AWp E ρ P y Q) Q) S):AWp E ρ P (.seq x y) Q S:=by
 intro g a w hs;refine wpIn_seq (wpIn_mono (h g a w hs) ?_);rintro e a' w' ⟨g',S',q,bj,st⟩;cases e with
 |normal=>exact wpIn_mono (q g' a' w' bj) fun e a'' w'' ⟨g'',S'',q',aY,st'⟩=>⟨g'',S'',q',aY,st.trans st'⟩
 |_=>exact⟨g',S',q,bj,st⟩
def ablk(id:Nat)(Q:Exit->Av->Prop):Exit->Av->Prop
 |.exit id',S=>if id'=id then Q .normal S else Q (.exit id') S
 |e,S=>Q e S
theorem AWp.block{id:Nat}{c:Code}(h:AWp E ρ P c (ablk id Q) S):AWp E ρ P (.block id c) Q S:=by
 intro g a w hs;refine wpIn_block (wpIn_mono (h g a w hs) ?_);rintro e a' w' ⟨g',S',q,bj,st⟩;cases e with
 |exit id' =>
  simp only[Exit.inBlock];simp only[ablk]at q;split
  ·rename_i e;rw[An e]at q;exact⟨g',S',q,bj,st⟩
  ·rename_i e;rw[Ak e]at q;exact⟨g',S',q,bj,st⟩
 |_=>exact⟨g',S',q,bj,st⟩
theorem Zl{F:Fence}{n:Nat}{P:Program}{Q:Exit->Act->World->Prop}{a:Act}{w:World}{c:Code}(h:c.wpIn F n P (fun e a w=>match e with | .goto _=>False | e=>Q e a w) a w):(Code.scope c).wpIn F n P Q a w:=by
 have s1:∀{b:Frame} {k:List Item} {cs:List Frame} {a:Act} {w:World},step P (lone (b.atR a (.code (.scope c) :: k)) cs w)=.next (lone (b.atR a (.code c :: .inScope c :: k)) cs w) :=
  step_lone_go (by simp[stepG,stepG.exec,Frame.atR])
 have s2:∀{b:Frame} {k:List Item} {cs:List Frame} {a:Act} {w:World},step P (lone (b.atR a (.inScope c :: k)) cs w)=.next (lone (b.atR a k) cs w) :=
  step_lone_go (by simp[stepG,stepG.exec,Frame.atR])
 intro b k cs eC hb hr;have h0:(lone (b.atR a (.code (.scope c) :: k)) cs w).fenced P F:=fenced_calm hb hr rfl;obtain⟨e,a₁,w₁,hq,bF⟩:=h b (.inScope c :: k) cs eC hb hr;cases e with
 |normal=>exact⟨.normal,a₁,w₁,hq,.head h0 s1 (StepsIn.trans bF (.one (fenced_calm hb hr rfl) s2))⟩
 |exit id =>
  have hx:exitTo id (.inScope c :: k)=exitTo id k:=by simp[exitTo]
  exact⟨.exit id,a₁,w₁,hq,fun k' hk=>.head h0 s1 (bF.1 k' (by rw[hx];exact hk)),
   fun eE hk=>let ⟨k₁,h1,h2⟩:=bF.2 eE (by rw[hx];exact hk);⟨k₁,h1,.head h0 s1 h2⟩⟩
 |goto l=>exact hq.elim
 |ret=>exact⟨_,a₁,w₁,hq,.of_steps (.one h0 s1) bF⟩
 |panic ch=>exact⟨_,a₁,w₁,hq,.of_steps (.one h0 s1) bF⟩
 |outgrown=>exact⟨_,a₁,w₁,hq,.of_steps (.one h0 s1) bF⟩
def T5(Q:Exit->Av->Prop):Exit->Av->Prop
 |.goto _,_=>False
 |e,S=>Q e S
theorem AWp.scope{c:Code}(h:AWp E ρ P c (T5 Q) S):AWp E ρ P (.scope c) Q S:=by intro g a w hs;refine Zl (wpIn_mono (h g a w hs) ?_);rintro e a' w' ⟨g',S',q,bj,st⟩;cases e<;>first|exact q.elim|exact⟨g',S',q,bj,st⟩
theorem Zm{F:Fence}{n:Nat}{P:Program}{Q:Exit->Act->World->Prop}{a:Act}{w:World}{c:Code}{α:Type}(I:α->Act->World->Prop)(Z:α->Nat)(x₀:α)(h₀:I x₀ a w)(round:∀x a w,I x a w->c.wpIn F n P (Exit.then (fun a' w'=>∃x',I x' a' w'/\Z x'<Z x) Q) a w):(Code.loop c).wpIn F n P Q a w:=by
 intro b k cs eC hb hr
 have key:∀j x a w,Z x=j->I x a w -> ∃e a' w',Q e a' w'/\ArrivesIn (Machine.fenced P F) P (lone (b.atR a (.code c :: .inLoop c :: k)) cs w) b k cs e a' w':=by
  intro j;induction j using Nat.strongRecOn with
  |_ j ih =>
   intro x a w hn hI;obtain⟨e,a₁,w₁,hq,bF⟩:=round x a w hI b (.inLoop c :: k) cs eC hb hr;cases e with
   |normal =>obtain⟨x₁,hI₁,hlt⟩:=hq;obtain⟨e₂,a₂,w₂,hq₂,bF₂⟩:=ih (Z x₁) (hn▸hlt) x₁ a₁ w₁ rfl hI₁;exact⟨e₂,a₂,w₂,hq₂,.of_steps (StepsIn.trans bF (.one (fenced_calm hb hr rfl) stepR_inLoop)) bF₂⟩
   |exit id=>exact⟨_,a₁,w₁,hq,.pass (x:=.inLoop c) rfl (fun _ _=>.inl (by simp)) bF⟩
   |goto l=>exact⟨_,a₁,w₁,hq,.pass (x:=.inLoop c) rfl (fun _ _=>.inl (by simp)) bF⟩
   |ret=>exact⟨_,a₁,w₁,hq,.pass (x:=.inLoop c) rfl (fun _ _=>.inl (by simp)) bF⟩
   |panic ch=>exact⟨_,a₁,w₁,hq,.pass (x:=.inLoop c) rfl (fun _ _=>.inl (by simp)) bF⟩
   |outgrown=>exact⟨_,a₁,w₁,hq,.pass (x:=.inLoop c) rfl (fun _ _=>.inl (by simp)) bF⟩
 obtain⟨e,a',w',hq,bF⟩:=key _ x₀ a w rfl h₀;exact⟨e,a',w',hq,.of_steps (.one (fenced_calm hb hr rfl) stepR_loop) bF⟩
end rules
def ATr(E:Nat->Aa)(P:Program)(f:FuncId)(args:List Aa)(h:Aw)(R:Aa->Aw->Prop):Prop :=
 ∀(g:Gh) (w:World) (vs:List Value),HR E g h w->RVs g w args vs ->
  Calls P f vs.toArray w fun e w'=>∃g' h' r v,R r h'/\e=.returned v/\RV g' w' r v/\HR E g' h' w'/\Stp g h w g' h' w'
theorem ATr.mono{P:Program}{f:FuncId}{args:List Aa}{h:Aw}{R R':Aa->Aw->Prop}(H:ATr E P f args h R)(hr:∀r h',R r h'->R' r h'):ATr E P f args h R' :=
 fun g w vs hh hv=>(H g w vs hh hv).mono fun _ _ ⟨g',h',r,v,q,rest⟩=>⟨g',h',r,v,hr _ _ q,rest⟩
inductive Ad where
 |t (n:Nat)
 |c (v:Aa)
 |g (i:Nat)
inductive Al where
 |mv (x:Ad)
 |pick (c x y:Ad)
 |bin (op:BinOp) (bools:Bool) (x y:Ad)
 |not (x:Ad)
 |neg (x:Ad)
 |alloc (s:Nat) (zero:List Aa)
 |box (s:Nat) (x:Ad)
 |build (zero:List Aa) (parts:List (Nat×Nat×Ad))
 |bslice (s st len:Nat) (zero:List Aa) (parts:List (Nat×Nat×Ad))
 |load (agg:Bool) (sz:Nat) (x:Ad)
 |store (sz:Nat) (x y:Ad)
 |nilck (x:Ad)
 |conv (k:IntKind) (x:Ad)
 |mkfn (f:FuncId) (nb:Nat) (caps:List Ad)
 |s2b (s:Nat) (x:Ad)
 |b2s (x:Ad)
 |mks (s st bytes:Nat) (zero:List Aa) (x:Ad)
 |copy (st:Nat) (x y:Ad)
 |clear (zero:List Aa) (x:Ad)
 |fslice (s st len:Nat) (zero:List Aa) (parts:List (Nat×Nat×Ad))
 |slice (isStr:Bool) (st:Nat) (x:Ad) (lo hi:Option Ad)
 |faddr (off:Nat) (x:Ad)
 |iaddrS (st:Nat) (x i:Ad)
 |iaddrA (len st:Nat) (x i:Ad)
 |field (agg:Bool) (off sz:Nat) (x:Ad)
 |extract (i:Nat) (x:Ad)
 |sidx (x i:Ad)
 |aidx (agg:Bool) (n sz:Nat) (x i:Ad)
 |len (isStr:Bool) (x:Ad)
 |append (s st bytes:Nat) (x y:Ad)
 |eqagg (sh:List Nat) (neg:Bool) (x y:Ad)
 |max (x y:Ad)
 |min (x y:Ad)
 |mkmap (s:Nat)
 |mlook (kd:Nat) (ok:Bool) (zero:Aa) (x k:Ad)
 |mupd (kd:Nat) (x k v:Ad)
 |mlen (x:Ad)
 |mrange (s:Nat) (x:Ad)
 |mentry (x:Ad)
 |mnext (x:Ad)
 |isnil (ng:Bool) (x:Ad)
 |isnilp (ng:Bool) (x:Ad)
 |callf (f:FuncId) (args:List Ad)
 |callv (x:Ad) (args:List Ad)
structure Ay where
 dst:Option Tmp
 op:Al
 guard:Option (Tmp×Bool)
def Aj.plain:Aj->Prop
 |.dfr _=>False
 |.loop _ _ _ _ _ _ _ _ _=>False
 |_=>True
structure Req where
 ok:Prop
 rd:List Nat
 v:Aa
 out:Option (Nat×Aj)
def Req.fail:Req:=⟨False,[],.top,none⟩
def Req.val(v:Aa):Req:=⟨True,[],v,none⟩
def Req.when(p:Prop)(v:Aa):Req:=⟨p,[],v,none⟩
def inr:IntKind->Int->Prop
 |.i8,n=>-128<=n/\n<=127
 |.i16,n=>-32768<=n/\n<=32767
 |.i32,n=>-2147483648<=n/\n<=2147483647
 |.i64,n=>-9223372036854775808<=n/\n<=9223372036854775807
 |_,_=>True
def cut:IntKind->Int->Int
 |.u8,n=>n%256
 |.u16,n=>n%65536
 |.u32,n=>n%4294967296
 |.u64,n=>n%18446744073709551616
 |_,n=>n
theorem GP(k:IntKind)(n:Int)(h:inr k n):k.wrap n=cut k n:=by cases k<;>simp only[inr]at h<;>simp only[IntKind.wrap,IntKind.bits,IntKind.signed,cut]<;>(try simp only[On,L2])<;>(try simp)<;>(try (split<;>omega))
def bitI(op:BinOp)(k:IntKind)(a b:Int):Int :=
 match op with
 |.and=>k.wrap (BitVec.ofInt k.bits a &&& BitVec.ofInt k.bits b).toNat
 |.or=>k.wrap (BitVec.ofInt k.bits a ||| BitVec.ofInt k.bits b).toNat
 |.xor=>k.wrap (BitVec.ofInt k.bits a ^^^ BitVec.ofInt k.bits b).toNat
 |_=>k.wrap (BitVec.ofInt k.bits a &&& ~~~BitVec.ofInt k.bits b).toNat
def JB(op:BinOp)(k:IntKind)(a b:Int):Req :=
 match op with
 |.shl=>.when (0<=b/\inr k (a*2 ^ min b.toNat k.bits)) (.int k (cut k (a*2 ^ min b.toNat k.bits)))
 |.shr=>.when (0<=b) (.int k (a.fdiv (2 ^ min b.toNat k.bits)))
 |_=>.fail
@[simp] def FX:BinOp->Bool
 |.shl | .shr=>true
 |_=>false
def CH(op:BinOp)(k:IntKind)(a b:Int):Req :=
 match op with
 |.add=>.when (inr k (a+b)) (.int k (cut k (a+b)))
 |.sub=>.when (inr k (a-b)) (.int k (cut k (a-b)))
 |.mul=>.when (inr k (a*b)) (.int k (cut k (a*b)))
 |.quo=>.when (b≠0/\inr k (a.tdiv b)) (.int k (cut k (a.tdiv b)))
 |.rem=>.when (b≠0) (.int k (a.tmod b))
 |.and=>.val (.int k (bitI .and k a b))
 |.or=>.val (.int k (bitI .or k a b))
 |.xor=>.val (.int k (bitI .xor k a b))
 |.andNot=>.val (.int k (bitI .andNot k a b))
 |.eql=>.val (.bool (decide (a=b)))
 |.neq=>.val (.bool (!decide (a=b)))
 |.lss=>.val (.bool (decide (a<b)))
 |.leq=>.val (.bool (decide (a<=b)))
 |.gtr=>.val (.bool (decide (b<a)))
 |.geq=>.val (.bool (decide (b<=a)))
 |_=>.fail
def JK(op:BinOp)(a b:List UInt8):Req :=
 match op with
 |.add=>.when (a.length+b.length<=4611686018427387904) (.str (a++b))
 |.eql=>.val (.bool (decide (a=b)))
 |.neq=>.val (.bool (!decide (a=b)))
 |.lss=>.val (.bool (Op.bytesLess a b))
 |.leq=>.val (.bool (Op.bytesLess a b||decide (a=b)))
 |.gtr=>.val (.bool (!(Op.bytesLess a b||decide (a=b))))
 |.geq=>.val (.bool (!Op.bytesLess a b))
 |_=>.fail
def Dq(op:BinOp)(bools:Bool)(x y:Aa):Req :=
 match x,y with
 |.int k a,.int k' b=>if FX op=true then JB op k a b else if k=k' then CH op k a b else .fail
 |.str a,.str b=>JK op a b
 |.bool a,.bool b=>match bools,op with
  |true,.eql=>.val (.bool (a==b))
  |true,.neq=>.val (.bool (!(a==b)))
  |_,_=>.fail
 |_,_=>.fail
def unc(c:Bool):Aa->Prop
 |.cnd d _=>c=true->d=true
 |_=>True
def unv:Aa->Aa
 |.cnd _ x=>x
 |x=>x
def Cj(c:Bool)(x y:Aa):Req :=
 match unv x,unv y with
 |.bool p,.bool q=>.when (unc c x/\unc (!c) y) (.bool (bif c then p else q))
 |.int k p,.int k' q=>if k=k' then .when (unc c x/\unc (!c) y) (.int k (bif c then p else q)) else .when (unc c x/\unc (!c) y) (bif c then .int k p else .int k' q)
 |x',y'=>.when (unc c x/\unc (!c) y) (bif c then x' else y')
def Aa.one:Aa->Bool
 |.top | .agg _ | .tup _ | .cnd _ _=>false
 |_=>true
def Cv:Aa->Option (List Aa)
 |.agg l=>some l
 |.top | .tup _ | .cnd _ _=>none
 |x=>some [x]
def BB:List Aa->Bool
 |[]=>true
 |x :: l=>x.one&&BB l
def lay(l:List Aa)(off:Nat)(p:List Aa):List Aa:=l.take off++p++l.drop (off+p.length)
def CR(arg:Ad->Aa):List Aa->List (Nat×Nat×Ad)->Option (List Aa)
 |l,[]=>some l
 |l,(off,sz,x) :: r=>match Cv (arg x) with
  |none=>none
  |some p=>if p.length=sz/\off+sz<=l.length then CR arg (lay l off p) r else none
def E6(st:Nat):Nat->List Aa->List (List Aa)
 |0,_=>[]
 |n+1,l=>l.take st :: E6 st n (l.drop st)
def ldv(agg:Bool)(sz:Nat)(l:List Aa)(off:Nat):Aa:=if agg then .agg ((l.drop off).take sz) else l.getD off .top
def CP(agg:Bool)(sz:Nat)(x:Aa)(h:Aw):Req :=
 match x with
 |.ptr id ep off=>match h id with
  |.box ep' cs=>⟨ep=ep'/\off+sz<=cs.length/\(agg=false->sz=1),[id],ldv agg sz cs off,none⟩
  |_=>.fail
 |.eptr id ep i off=>match h id with
  |.vec ep' st n f=>⟨ep=ep'/\i<n/\off+sz<=st/\(agg=false->sz=1),[id],ldv agg sz (f i) off,none⟩
  |_=>.fail
 |.cptr f lim off=>.when (off+sz<=lim/\(agg=false->sz=1)) (if agg then .agg ((List.range sz).map fun j=>f (off+j)) else f off)
 |_=>.fail
def Dr(sz:Nat)(x y:Aa)(h:Aw):Req :=
 match Cv y with
 |none=>.fail
 |some p=>match x with
  |.ptr id ep off=>match h id with
   |.box ep' cs=>⟨ep=ep'/\p.length=sz/\BB p=true/\off+sz<=cs.length,[id],.top,some (id,.box ep' (lay cs off p))⟩
   |_=>.fail
  |.eptr id ep i off=>match h id with
   |.vec ep' st n f=>⟨ep=ep'/\i<n/\p.length=sz/\BB p=true/\off+sz<=st,[id],.top,some (id,.vec ep' st n (fun k=>if k=i then lay (f i) off p else f k))⟩
   |_=>.fail
  |_=>.fail
structure Src where
 ok:Prop
 rd:List Nat
 st:Nat
 n:Nat
 f:Nat->List Aa
def Bq(st:Nat)(x:Aa)(h:Aw):Src :=
 match x with
 |.nils=>⟨True,[],st,0,fun _=>[]⟩
 |.slc st' n f=>⟨True,[],st',n,f⟩
 |.vec id ep lo n=>match h id with
  |.vec ep' st' m f=>⟨ep=ep'/\lo+n<=m,[id],st',n,fun k=>f (lo+k)⟩
  |_=>⟨False,[],0,0,fun _=>[]⟩
 |_=>⟨False,[],0,0,fun _=>[]⟩
def Eg(s st bytes:Nat)(x y:Aa)(h:Aw):Req :=
 let src:=Bq st y h
 match x with
 |.nils=>if src.n=0 then⟨src.ok/\src.st=st,src.rd,.nils,none⟩ else⟨(h s).plain/\src.ok/\src.st=st/\0<st/\0<src.n/\src.n*bytes<=140737488355328,s :: src.rd,.vec s ((h s).ep+1) 0 src.n,some (s,.vec ((h s).ep+1) st src.n src.f)⟩
 |.vec id ep lo n=>match h id with
  |.vec ep' st' m f=>⟨src.ok/\src.st=st/\ep=ep'/\st'=st/\lo+n<=m/\(n+src.n)*bytes<=140737488355328,id :: src.rd,.vec id (ep'+1) 0 (n+src.n),
    some (id,.vec (ep'+1) st (n+src.n) (fun k=>if k<n then f (lo+k) else src.f (k-n)))⟩
  |_=>.fail
 |_=>.fail
def Aa.kind:Aa->Nat
 |.bool _=>0
 |.int _ _=>1
 |.str _=>2
 |_=>3
def Cy:List Aa->List Aa->Option Bool
 |[],[]=>some true
 |x :: l,y :: m=>match x,y,Cy l m with
  |.int k a,.int k' b,some e=>if k=k' then some (decide (a=b)&&e) else none
  |.bool a,.bool b,some e=>some ((a==b)&&e)
  |.str a,.str b,some e=>some (decide (a=b)&&e)
  |_,_,_=>none
 |_,_=>none
def JL:Aa->Option Int
 |.int _ n=>some n
 |_=>none
def DC(arg:Ad->Aa)(d:Int):Option Ad->Option Int
 |none=>some d
 |some a=>JL (arg a)
def encK:List Nat->Nat
 |[]=>0
 |k :: l=>k+1+5*encK l
def Aa.kkind:Aa->Nat
 |.agg l=>4+encK (l.map Aa.kind)
 |x=>x.kind
def GQ:Aa->Aa->Option Bool
 |.agg l,.agg m=>Cy l m
 |.int k a,.int k' b=>if k=k' then some (decide (a=b)) else none
 |.bool a,.bool b=>some (a==b)
 |.str a,.str b=>some (decide (a=b))
 |_,_=>none
def BK(k:Aa):List (Aa×Aa)->Nat->Option (Option (Nat×Aa))
 |[],_=>some none
 |e :: es,i=>match GQ k e.1 with
  |some true=>some (some (i,e.2))
  |some false=>BK k es (i+1)
  |none=>none
structure MSrc where
 ok:Prop
 rd:List Nat
 es:List (Aa×Aa)
def Dl(x:Aa)(h:Aw):MSrc :=
 match x with
 |.nilmp=>⟨True,[],[]⟩
 |.mp id ep=>match h id with
  |.amap ep' es=>⟨ep=ep',[id],es⟩
  |_=>⟨False,[],[]⟩
 |_=>⟨False,[],[]⟩
def Fv(kd:Nat)(cok:Bool)(zero:Aa)(x k:Aa)(h:Aw):Req :=
 match BK k (Dl x h).es 0 with
 |some (some (_,v))=>⟨(Dl x h).ok/\k.kkind=kd,(Dl x h).rd,if cok then .tup [v,.bool true] else v,none⟩
 |some none=>⟨(Dl x h).ok/\k.kkind=kd,(Dl x h).rd,if cok then .tup [zero,.bool false] else zero,none⟩
 |none=>.fail
def FY(kd:Nat)(x k v:Aa)(h:Aw):Req :=
 match x with
 |.mp id ep=>match h id with
  |.amap ep' es=>match BK k es 0 with
   |some (some (i,_))=>⟨ep=ep'/\k.kkind=kd,[id],.top,some (id,.amap ep' (es.set i (k,v)))⟩
   |some none=>⟨ep=ep'/\k.kkind=kd,[id],.top,some (id,.amap ep' (es++[(k,v)]))⟩
   |none=>.fail
  |_=>.fail
 |_=>.fail
def JM(s:Nat)(x:Aa)(h:Aw):Req :=
 match x with
 |.nilmp=>⟨(h s).plain,[s],.ptr s ((h s).ep+1) 0,some (s,.miter ((h s).ep+1) none [])⟩
 |.mp id ep=>match h id with
  |.amap ep' es=>⟨ep=ep'/\(h s).plain,[s,id],.ptr s ((h s).ep+1) 0,some (s,.miter ((h s).ep+1) (some (id,ep,es.length)) [])⟩
  |_=>.fail
 |_=>.fail
def HJ(x:Aa)(h:Aw):Req :=
 match x with
 |.ptr id ep 0=>match h id with
  |.miter ep' (some (M,eM,n)) seen=>match h M with
   |.amap eM' es=>⟨ep=ep'/\eM=eM'/\es.length=n/\seen≠[]/\seen.getLastD 0<n,[id,M],.tup [(es.getD (seen.getLastD 0) (.top,.top)).1,(es.getD (seen.getLastD 0) (.top,.top)).2],none⟩
   |_=>.fail
  |_=>.fail
 |_=>.fail
def CS(s:List UInt8)(j:Int):Int:=((s.getD j.toNat 0).toNat:Nat)
def DG:Nat->(Nat->List Aa)->Option (List UInt8)
 |0,_=>some []
 |n+1,f=>match f 0 with
  |[.int .u8 m]=>(DG n fun k=>f (k+1)).map (UInt8.ofNat m.toNat :: ·)
  |_=>none
def E8(x:Aa)(h:Aw):Req :=
 match DG (Bq 1 x h).n (Bq 1 x h).f with
 |some s=>⟨(Bq 1 x h).ok/\(Bq 1 x h).st=1,(Bq 1 x h).rd,.str s,none⟩
 |none=>.fail
def JN(st0:Nat)(x y:Aa)(h:Aw):Req :=
 match x with
 |.vec id ep lo n=>match h id with
  |.vec ep' st m f=>⟨(Bq st y h).ok/\(Bq st y h).st=st/\ep=ep'/\lo+n<=m/\st0=st,id :: (Bq st y h).rd,.int .i64 (min (Bq st y h).n n:Nat),
    some (id,.vec ep' st m (fun k=>if lo<=k/\k<lo+min (Bq st y h).n n then(Bq st y h).f (k-lo) else f k))⟩
  |_=>.fail
 |_=>.fail
def JO(zero:List Aa)(x:Aa)(h:Aw):Req :=
 match x with
 |.vec id ep lo n=>match h id with
  |.vec ep' st m f=>⟨ep=ep'/\lo+n<=m/\zero.length=st/\BB zero=true,[id],.tup [],some (id,.vec ep' st m (fun k=>if lo<=k/\k<lo+n then zero else f k))⟩
  |_=>.fail
 |_=>.fail
def Al.req(o:Al)(arg:Ad->Aa)(h:Aw):Req :=
 match o with
 |.mv x=>.val (arg x)
 |.pick c x y=>match arg c with
  |.bool b=>Cj b (arg x) (arg y)
  |_=>.fail
 |.bin op bools x y=>Dq op bools (arg x) (arg y)
 |.not x=>match arg x with
  |.bool b=>.val (.bool (!b))
  |_=>.fail
 |.neg x=>match arg x with
  |.int k n=>.when (inr k (0-n)) (.int k (cut k (0-n)))
  |_=>.fail
 |.alloc s zero=>⟨(h s).plain,[s],.ptr s ((h s).ep+1) 0,some (s,.box ((h s).ep+1) zero)⟩
 |.box s x=>match Cv (arg x) with
  |some l=>⟨(h s).plain,[s],.ptr s ((h s).ep+1) 0,some (s,.box ((h s).ep+1) l)⟩
  |none=>.fail
 |.build zero parts=>match CR arg zero parts with
  |some l=>.val (.agg l)
  |none=>.fail
 |.bslice s st nn zero parts=>match CR arg zero parts with
  |some l=>⟨(h s).plain/\l.length=nn*st/\0<st/\BB l=true,[s],.vec s ((h s).ep+1) 0 nn,some (s,.vec ((h s).ep+1) st nn (fun i=>(E6 st nn l).getD i []))⟩
  |none=>.fail
 |.load agg sz x=>CP agg sz (arg x) h
 |.store sz x y=>Dr sz (arg x) (arg y) h
 |.nilck x=>match arg x with
  |.cptr f l o=>.val (.cptr f l o)
  |.ptr id ep o=>⟨ep=(h id).ep,[id],.ptr id ep o,none⟩
  |.fn f nb c=>.val (.fn f nb c)
  |_=>.fail
 |.conv k x=>match arg x with
  |.int _ n=>.when (inr k n) (.int k (cut k n))
  |_=>.fail
 |.mkfn f nb caps=>.val (.fn f nb (caps.map arg))
 |.slice isStr st x lo hi =>
  match DC arg 0 lo with
  |none=>.fail
  |some l=>match isStr,arg x with
   |false,.slc st' n f=>match DC arg n hi with
    |some r=>.when (st'=st/\0<=l/\l<=r/\r<=n) (.slc st (r-l).toNat (fun k=>f (l.toNat+k)))
    |none=>.fail
   |false,.vec id ep o n=>match DC arg n hi,h id with
    |some r,.vec ep' st' _ _=>⟨ep=ep'/\st'=st/\0<=l/\l<=r/\r<=n,[id],.vec id ep (o+l.toNat) (r-l).toNat,none⟩
    |_,_=>.fail
   |false,.nils=>match DC arg 0 hi with
    |some r=>.when (l=0/\r=0) .nils
    |none=>.fail
   |true,.str s=>match DC arg s.length hi with
    |some r=>.when (0<=l/\l<=r/\r<=s.length) (.str ((s.drop l.toNat).take (r-l).toNat))
    |none=>.fail
   |_,_=>.fail
 |.faddr off x=>match arg x with
  |.ptr id ep o=>⟨ep=(h id).ep,[id],.ptr id ep (o+off),none⟩
  |.cptr f l o=>.val (.cptr f l (o+off))
  |.eptr id ep i o=>⟨ep=(h id).ep,[id],.eptr id ep i (o+off),none⟩
  |_=>.fail
 |.iaddrS st x i=>match arg x,arg i with
  |.slc st' n f,.int _ j=>.when (st'=st/\0<=j/\j<n) (.cptr (fun c=>(f j.toNat).getD c .top) st 0)
  |.vec id ep lo n,.int _ j=>match h id with
   |.vec ep' st' _ _=>⟨ep=ep'/\st'=st/\0<=j/\j<n,[id],.eptr id ep (lo+j.toNat) 0,none⟩
   |_=>.fail
  |_,_=>.fail
 |.iaddrA nn st x i=>match arg x,arg i with
  |.ptr id ep o,.int _ j=>⟨ep=(h id).ep/\0<=j/\j<nn,[id],.ptr id ep (o+j.toNat*st),none⟩
  |.cptr f l o,.int _ j=>  .when (0<=j/\j<nn) (.cptr f l (o+j.toNat*st))
  |_,_=>.fail
 |.field agg off sz x=>match arg x with
  |.agg l=>.when (off+sz<=l.length/\(agg=false->sz=1)) (ldv agg sz l off)
  |_=>.fail
 |.extract i x=>match arg x with
  |.tup l=>.when (i<l.length) (l.getD i .top)
  |_=>.fail
 |.sidx x i=>match arg x,arg i with
  |.str s,.int _ j=>.when (0<=j/\j<s.length) (.int .u8 (CS s j))
  |_,_=>.fail
 |.aidx agg n sz x i=>match arg x,arg i with
  |.agg l,.int _ j=>.when (0<=j/\j<n/\j.toNat*sz+sz<=l.length/\(agg=false->sz=1)) (ldv agg sz l (j.toNat*sz))
  |_,_=>.fail
 |.isnilp ng x=>match arg x with
  |.nilp=>.val (.bool (!ng))
  |.cptr _ _ _=>.val (.bool ng)
  |_=>.fail
 |.len isStr x=>match isStr,arg x with
  |false,.slc _ n _=>.val (.int .i64 n)
  |false,.vec id ep _ n=>⟨ep=(h id).ep,[id],.int .i64 n,none⟩
  |false,.nils=>.val (.int .i64 0)
  |true,.str s=>.val (.int .i64 s.length)
  |_,_=>.fail
 |.append s st bytes x y=>Eg s st bytes (arg x) (arg y) h
 |.eqagg sh ng x y=>match arg x,arg y with
  |.agg l,.agg m=>match Cy l m with
   |some e=>.when (l.map Aa.kind=sh) (.bool (if ng then !e else e))
   |none=>.fail
  |_,_=>.fail
 |.max x y=>match arg x,arg y with
  |.int k a,.int k' b=>if k=k' then .val (.int k (Max.max a b)) else .fail
  |_,_=>.fail
 |.min x y=>match arg x,arg y with
  |.int k a,.int k' b=>if k=k' then .val (.int k (Min.min a b)) else .fail
  |_,_=>.fail
 |.mkmap s=>⟨(h s).plain,[s],.mp s ((h s).ep+1),some (s,.amap ((h s).ep+1) [])⟩
 |.mlook kd ok zero x k=>Fv kd ok zero (arg x) (arg k) h
 |.mupd kd x k v=>FY kd (arg x) (arg k) (arg v) h
 |.mlen x=>⟨(Dl (arg x) h).ok,(Dl (arg x) h).rd,.int .i64 (Dl (arg x) h).es.length,none⟩
 |.mrange s x=>JM s (arg x) h
 |.mentry x=>HJ (arg x) h
 |.mnext _=>.fail
 |.isnil ng x=>match arg x with
  |.nils=>.val (.bool (!ng))
  |.slc _ n _=>.when (0<n) (.bool ng)
  |.vec id ep _ _=>⟨ep=(h id).ep,[id],.bool ng,none⟩
  |_=>.fail
 |.s2b s x=>match arg x with
  |.str b=>⟨(h s).plain,[s],.slc 1 b.length (fun k=>[.int .u8 (CS b k)]),some (s,.gone ((h s).ep+1))⟩
  |_=>.fail
 |.b2s x=>E8 (arg x) h
 |.mks s st bytes zero x=>match arg x with
  |.int _ n=>⟨(h s).plain/\0<=n/\n*bytes<=140737488355328/\0<st/\zero.length=st/\BB zero=true,[s],.vec s ((h s).ep+1) 0 n.toNat,some (s,.vec ((h s).ep+1) st n.toNat (fun _=>zero))⟩
  |_=>.fail
 |.copy st0 x y=>JN st0 (arg x) (arg y) h
 |.clear zero x=>JO zero (arg x) h
 |.fslice s st nn zero parts=>match CR arg zero parts with
  |some l=>⟨(h s).plain/\l.length=nn*st/\0<st/\BB l=true,[s],.slc st nn (fun i=>(E6 st nn l).getD i []),some (s,h s)⟩
  |none=>.fail
 |.callf _ _=>.fail
 |.callv _ _=>.fail
def Al.args:Al->List Ad
 |.isnil _ x | .isnilp _ x | .mlen x | .mrange _ x | .mentry x | .mnext x=>[x]
 |.mlook _ _ _ x k=>[x,k]
 |.mupd _ x k v=>[x,k,v]
 |.s2b _ x | .b2s x | .mks _ _ _ _ x | .clear _ x | .mv x | .not x | .neg x | .box _ x | .load _ _ x | .nilck x | .conv _ x | .faddr _ x | .field _ _ _ x | .extract _ x | .len _ x=>[x]
 |.pick c x y=>[c,x,y]
 |.bin _ _ x y | .store _ x y | .iaddrS _ x y | .iaddrA _ _ x y | .append _ _ _ x y | .eqagg _ _ x y | .max x y | .min x y | .sidx x y | .aidx _ _ _ x y | .copy _ x y=>[x,y]
 |.alloc _ _ | .mkmap _=>[]
 |.build _ ps | .bslice _ _ _ _ ps | .fslice _ _ _ _ ps=>ps.map fun p=>p.2.2
 |.mkfn _ _ l | .callf _ l=>l
 |.callv x l=>x :: l
 |.slice _ _ x lo hi=>x :: (lo.toList++hi.toList)
theorem L8{ar ar':Ad->Aa}:∀(ps:List (Nat×Nat×Ad)) (l:List Aa),(∀p∈ps,ar p.2.2=ar' p.2.2)->CR ar l ps=CR ar' l ps
 |[],l,_=>rfl
 |(off,sz,x) :: ps,l,h=>by
  simp only[CR,h _ (BI ..)];have ih:=fun l=>L8 ps l (fun p hp=>h p (CG _ hp));cases Cv (ar' x) with
  |none=>rfl
  |some p=>simp only[ih]
theorem JP{ar ar':Ad->Aa}{h:Aw}:∀(o:Al),(∀y∈o.args,ar y=ar' y)->o.req ar h=o.req ar' h:=by
 intro o hh;cases o<;>simp only[Al.args,AL,H8,HB,forall_eq_or_imp,forall_eq,L7,forall_exists_index,and_imp,forall_apply_eq_imp_iff₂]at hh
 case slice isStr st x lo hi =>
  obtain⟨h1,h2⟩:=hh
  have bu:∀d,DC ar d lo=DC ar' d lo:=fun d=>by
   cases lo with
   |none=>rfl
   |some y=>simp only[DC];rw[h2 y (by simp)]
  have bV:∀d,DC ar d hi=DC ar' d hi:=fun d=>by
   cases hi with
   |none=>rfl
   |some y=>simp only[DC];rw[h2 y (by simp)]
  simp only[Al.req,h1,bu,bV]
 case build zero ps=>simp only[Al.req,L8 ps zero (fun p hp=>hh p hp)]
 case bslice s st nn zero ps=>simp only[Al.req,L8 ps zero (fun p hp=>hh p hp)]
 case fslice s st nn zero ps=>simp only[Al.req,L8 ps zero (fun p hp=>hh p hp)]
 case mkfn f l=>simp only[Al.req];rw[H7 hh]
 all_goals first
  |(obtain⟨h1,h2,h3⟩:=hh;simp only[Al.req,h1,h2,h3];done)
  |(obtain⟨h1,h2⟩:=hh;simp only[Al.req,h1,h2];done)
  |(simp only[Al.req,hh];done)
  |rfl
theorem JQ{st:Nat}{y:Aa}{h h':Aw}(hr:∀j∈(Bq st y h).rd,h' j=h j)(aB:(Bq st y h).ok):Bq st y h'=Bq st y h:=by
 unfold Bq at *;cases y<;>simp only at*<;> try rfl
 rename_i id ep lo n;cases hh:h id<;>simp only[hh]at hr aB |-<;>try (exact aB.elim)
 rw[hr id (by simp),hh]
theorem T6{y:Aa}{h h':Aw}(hr:∀j∈(Dl y h).rd,h' j=h j)(aB:(Dl y h).ok):Dl y h'=Dl y h:=by
 unfold Dl at *;cases y<;>simp only at*<;> try rfl
 rename_i id ep;cases hh:h id<;>simp only[hh]at hr aB |-<;>try (exact aB.elim)
 rw[hr id (by simp),hh]
theorem JR{ar:Ad->Aa}{h h':Aw}(o:Al)(aB:(o.req ar h).ok)(hr:∀j∈(o.req ar h).rd,h' j=h j):o.req ar h'=o.req ar h:=by
 cases o<;>(try rfl)
 case alloc s zero=>simp only[Al.req]at hr |-;rw[hr s (by simp)]
 case box s x =>
  simp only[Al.req]at hr |-;cases hp:Cv (ar x) with
  |none=>rfl
  |some l=>simp only[hp]at hr;rw[hr s (by simp)]
 case bslice s st nn zero ps =>
  simp only[Al.req]at hr |-;cases hp:CR ar zero ps with
  |none=>rfl
  |some l=>simp only[hp]at hr;rw[hr s (by simp)]
 case fslice s st nn zero ps =>
  simp only[Al.req]at hr |-;cases hp:CR ar zero ps with
  |none=>rfl
  |some l=>simp only[hp]at hr;rw[hr s (by simp)]
 case load agg sz x =>
  simp only[Al.req,CP]at hr aB |-;cases hx:ar x<;>simp only[hx,Req.fail]at hr aB |-
  case ptr id ep off=>cases hh:h id<;>simp only[hh,Req.fail]at hr aB<;>first|exact aB.elim|(rw[hr id (by simp),hh])
  case eptr id ep i off=>cases hh:h id<;>simp only[hh,Req.fail]at hr aB<;>first|exact aB.elim|(rw[hr id (by simp),hh])
 case store sz x y =>
  simp only[Al.req,Dr]at hr aB |-;cases hp:Cv (ar y)<;>simp only[hp,Req.fail]at hr aB |-;cases hx:ar x<;>simp only[hx,Req.fail]at hr aB |-
  case ptr id ep off=>cases hh:h id<;>simp only[hh,Req.fail]at hr aB<;>first|exact aB.elim|(rw[hr id (by simp),hh])
  case eptr id ep i off=>cases hh:h id<;>simp only[hh,Req.fail]at hr aB<;>first|exact aB.elim|(rw[hr id (by simp),hh])
 case nilck x =>simp only[Al.req]at hr aB |-;cases hx:ar x<;>simp only[hx,Req.fail]at hr aB |-;rw[hr _ (by simp)]
 case slice isStr st x lo hi =>simp only[Al.req]at hr aB |-;cases hl:DC ar 0 lo<;>simp only[hl,Req.fail]at hr aB |-;cases isStr<;>cases hx:ar x<;>simp only[hx,Req.fail]at hr aB |-;rename_i id ep o n;cases hh:DC ar n hi<;>simp only[hh]at hr aB |-;cases bh:h id<;>simp only[bh]at hr aB |-<;>first|exact aB.elim|(rw[hr id (by simp),bh])
 case faddr off x =>simp only[Al.req]at hr aB |-;cases hx:ar x<;>simp only[hx,Req.fail]at hr aB |-<;>rw[hr _ (by simp)]
 case iaddrS st x i =>simp only[Al.req]at hr aB |-;cases hx:ar x<;>cases hi:ar i<;>simp only[hx,hi,Req.fail]at hr aB |-;rename_i id ep lo n k j;cases hh:h id<;>simp only[hh]at hr aB |-<;>first|exact aB.elim|(rw[hr id (by simp),hh])
 case iaddrA nn st x i =>simp only[Al.req]at hr aB |-;cases hx:ar x<;>cases hi:ar i<;>simp only[hx,hi,Req.fail]at hr aB |-;rw[hr _ (by simp)]
 case len isStr x =>simp only[Al.req]at hr aB |-;cases isStr<;>cases hx:ar x<;>simp only[hx,Req.fail]at hr aB |-;rw[hr _ (by simp)]
 case append s st bytes x y =>
  simp only[Al.req,Eg]at hr aB |-;cases hx:ar x<;>simp only[hx,Req.fail]at hr aB |-
  case nils =>
   by_cases hn:(Bq st (ar y) h).n=0
   ·simp only[hn,Cn]at hr aB;rw[JQ hr aB.1];simp only[hn,Cn]
   ·simp only[hn,Dk]at hr aB;rw[JQ (fun j hj=>hr j (by simp[hj])) aB.2.1,hr s (by simp)]
  case vec id ep lo n =>
   cases hh:h id<;>simp only[hh,Req.fail]at hr aB |-<;>try (exact aB.elim)
   rw[JQ (fun j hj=>hr j (by simp[hj])) aB.1,hr id (by simp),hh]
 case isnil ng x =>simp only[Al.req]at hr aB |-;cases hx:ar x<;>simp only[hx,Req.fail]at hr aB |-;rw[hr _ (by simp)]
 case mkmap s=>simp only[Al.req]at hr |-;rw[hr s (by simp)]
 case mlook kd cok zero x k =>
  simp only[Al.req,Fv]at hr aB |-;cases hf:BK (ar k) (Dl (ar x) h).es 0 with
  |none=>simp only[hf,Req.fail]at aB
  |some r =>
   have br:(Dl (ar x) h).ok:=by cases r<;>simp only[hf]at aB<;>exact aB.1
   have eE:∀j∈(Dl (ar x) h).rd,h' j=h j:=by cases r<;>simp only[hf]at hr<;>exact hr
   rw[T6 eE br,hf]
 case mupd kd x k v =>
  simp only[Al.req,FY]at hr aB |-;cases hx:ar x<;>simp only[hx,Req.fail]at hr aB |-;rename_i id ep;cases hh:h id<;>simp only[hh]at hr aB |-<;>try (exact aB.elim)
  rename_i ep' es;cases hf:BK (ar k) es 0 with
  |none=>simp only[hf]at aB
  |some r=>cases r<;>simp only[hf]at hr |-<;>rw[hr id (by simp),hh]<;>simp only[hf]
 case mlen x =>simp only[Al.req]at hr aB |-;rw[T6 hr aB]
 case s2b s x =>simp only[Al.req]at hr |-;cases hx:ar x<;>simp only[hx,Req.fail]at hr |-;rw[hr s (by simp)]
 case mks s st bytes zero x =>simp only[Al.req]at hr |-;cases hx:ar x<;>simp only[hx,Req.fail]at hr |-;rw[hr s (by simp)]
 case b2s x =>
  simp only[Al.req,E8]at hr aB |-;cases hb:DG (Bq 1 (ar x) h).n (Bq 1 (ar x) h).f with
  |none=>simp only[hb,Req.fail]at aB
  |some s=>simp only[hb]at hr aB;rw[JQ hr aB.1];simp only[hb]
 case copy st0 x y =>
  simp only[Al.req,JN]at hr aB |-;cases hx:ar x<;>simp only[hx,Req.fail]at hr aB |-;rename_i id ep lo n;cases hh:h id<;>simp only[hh,Req.fail]at hr aB |-<;>try (exact aB.elim)
  rw[hr id (by simp),hh];simp only;rw[JQ (fun j hj=>hr j (by simp[hj])) aB.1]
 case clear zero x =>
  simp only[Al.req,JO]at hr aB |-;cases hx:ar x<;>simp only[hx,Req.fail]at hr aB |-;rename_i id ep lo n;cases hh:h id<;>simp only[hh,Req.fail]at hr aB |-<;>try (exact aB.elim)
  rw[hr id (by simp),hh]
 case mrange s x =>
  simp only[Al.req,JM]at hr aB |-;cases hx:ar x<;>simp only[hx,Req.fail]at hr aB |-
  case nilmp=>rw[hr s (by simp)]
  case mp id ep =>
   cases hh:h id<;>simp only[hh]at hr aB |-<;>try (exact aB.elim)
   rw[hr id (by simp),hr s (by simp),hh]
 case mentry x =>
  simp only[Al.req,HJ]at hr aB |-;cases hx:ar x<;>simp only[hx,Req.fail]at hr aB |-;rename_i id ep off;cases off with
  |succ n=>rfl
  |zero =>
   cases hh:h id<;>simp only[hh]at hr aB |-<;>try (exact aB.elim)
   rename_i ep' m seen;cases m with
   |none=>exact aB.elim
   |some m =>
    obtain⟨M,eM,n⟩:=m;cases hM:h M<;>simp only[hM]at hr aB |-<;>try (exact aB.elim)
    rw[hr id (by simp),hh];simp only;rw[hr M (by simp),hM]
def L9:Value->Aa->Bool
 |.int k n,.int k' n'=>k==k'&&n==n'
 |.bool a,.bool b=>a==b
 |.string s,.str l=>s.data.toList==l
 |.slice none 0 0,.nils=>true
 |.pointer none,.nilp=>true
 |.nilFunc,.nilfn=>true
 |.map none,.nilmp=>true
 |_,_=>false
def HK:List Value->List Aa->Bool
 |[],[]=>true
 |v :: l,x :: m=>L9 v x&&HK l m
 |_,_=>false
def JS:Value->Aa->Bool
 |.agg cs,.agg l=>HK cs.toList l
 |.tuple cs,.tup l=>HK cs.toList l
 |_,.top=>true
 |v,x=>L9 v x
def AB:Operand->Ad->Bool
 |.tmp n,.t m=>n==m
 |.const v,.c x=>JS v x
 |.global i,.g j=>i==j
 |.func f,.c (.fn f' 0 [])=>f==f'
 |_,_=>false
theorem T7{g:Gh}{w:World}:∀{v:Value} {x:Aa},L9 v x=true->RV g w x v:=by
 intro v x h;unfold L9 at h;split at h
 ·simp only[AE,Bt]at h;obtain⟨rfl,rfl⟩:=h;exact .int _ _
 ·simp only[Bt]at h;subst h;exact .bool _
 ·simp only[Bt]at h;exact .str _ _ h
 ·exact .nils
 ·exact .nilp
 ·exact .nilfn
 ·exact .nilmp
 ·cases h
theorem Lx{g:Gh}{w:World}:∀{l:List Value} {m:List Aa},HK l m=true->RVs g w m l
 |[],[],_=>.nil g w
 |v :: l,x :: m,h=>by simp only[HK,AE]at h;exact .cons (T7 h.1) (Lx h.2)
 |[],_ :: _,h=>by cases h
 |_ :: _,[],h=>by cases h
theorem T8{g:Gh}{w:World}{v:Value}{x:Aa}(h:JS v x=true):RV g w x v:=by
 unfold JS at h;split at h
 ·have:=Lx (g:=g) (w:=w) h;exact .agg _ _ (by simpa using this.1) (fun i y u hy hu=>this.2 i y u hy (by simpa using hu))
 ·have:=Lx (g:=g) (w:=w) h;exact .tup _ _ (by simpa using this.1) (fun i y u hy hu=>this.2 i y u hy (by simpa using hu))
 ·exact .top _
 ·exact T7 h
def Ag(E:Nat->Aa)(t:List Aa):Ad->Aa
 |.t n=>t.getD n .top
 |.c v=>v
 |.g i=>E i
theorem AP{E:Nat->Aa}{g:Gh}{w:World}{h:Aw}{t:List Aa}{a:Act}(H:HR E g h w)(ht:RVs g w t a.tmps.toList){x:Operand}{y:Ad}(hx:AB x y=true):RV g w (Ag E t y) (a.eval x):=by
 unfold AB at hx;split at hx
 ·simp only[Bt]at hx;subst hx;exact ht.getD _
 ·exact T8 hx
 ·simp only[Bt]at hx;subst hx;exact H.glob _
 ·simp only[Bt]at hx;subst hx;exact .fn _ 0 [] #[] rfl (fun i y u hy _=>by simp at hy)
 ·cases hx
def yzw:List Operand->List Ad->Bool
 |[],[]=>true
 |x :: l,y :: m=>AB x y&&yzw l m
 |_,_=>false
def FZ:Option Operand->Option Ad->Bool
 |none,none=>true
 |some x,some y=>AB x y
 |_,_=>false
section checks
variable (P:Program)
def szOf(t:TypeId):Option Nat:=(P.info? t).map (·.size)
def byOf(t:TypeId):Option Nat:=(P.info? t).map (·.bytes)
def yzl(t:TypeId):Option Bool:=(P.underlying t).map fun | .struct _ | .array _ _=>true | _=>false
def Fw(s:TypeId)(f:Nat):Option (Nat×TypeId):=match P.underlying s with
 |some (.struct fs)=>fs[f]?.map fun x=>(x.offset,x.type)
 |_=>none
def T9(t:TypeId):Option TypeId:=match P.underlying t with
 |some (.slice e)=>some e
 |_=>none
def TA(t:TypeId):Option (Nat×TypeId):=match P.underlying t with
 |some (.array n e)=>some (n,e)
 |_=>none
def Ej(t:TypeId):Option (List Value):=match P.info? t with
 |some { zero:=some v,.. }=>some v.cells.toList
 |_=>none
def HL(t:TypeId)(l:List Aa):Bool:=match Ej P t with
 |some vs=>HK vs l
 |none=>false
def HM(place:Nat->Option (Nat×Nat)):List (Nat×Operand)->List (Nat×Nat×Ad)->Bool
 |[],[]=>true
 |(i,x) :: l,(off,sz,y) :: m=>(match place i with | some (o,s)=>o==off&&s==sz | none=>false)&&AB x y&&HM place l m
 |_,_=>false
def GR:List Field->Option (List (Nat×Nat))
 |[]=>some []
 |f :: r=>match szOf P f.type,GR r with
  |some n,some l=>some ((f.offset,n) :: l)
  |_,_=>none
def OA(t:TypeId)(zero:List Aa)(ps:List (Nat×Operand))(parts:List (Nat×Nat×Ad)):Bool :=
 HL P t zero&&match P.underlying t with
  |some (.struct fs)=>(match GR P fs.toList with | some l=>HM (fun i=>l[i]?) ps parts | none=>false)
  |some (.array _ e)=>(match szOf P e with | some st=>HM (fun i=>some (i*st,st)) ps parts | none=>false)
  |_=>false
def HN(z:List Value)(n:Nat):List Value:=(List.range n).map fun i=>z.getD (i%z.length) undef
def HO(t:TypeId)(n st nn:Nat)(zero:List Aa)(ps:List (Nat×Operand))(parts:List (Nat×Nat×Ad)):Bool :=
 n==nn&&decide (nn*st<=16777216)&&match P.underlying t with
  |some (.slice e)=>szOf P e==some st&&(match Ej P e with | some z=>HK (HN z (nn*st)) zero&&decide (0<z.length) | none=>false)&&HM (fun i=>some (i*st,st)) ps parts
  |_=>false
def Ds(rec:TypeId->Option (List Nat)):List Field->Nat->Option (List Nat)
 |[],_=>some []
 | f :: r, n => if f.offset = n ∧ f.name ≠ "_" then (match rec f.type with | some m => if szOf P f.type = some m.length ∧ 0 < m.length then (match Ds rec r (n + m.length) with | some l => some (m ++ l) | none => none) else none | none => none) else none
def eqFields:(fuel:Nat)->TypeId->Option (List Nat)
 |0,_=>none
 |d+1,t=>match P.underlying t with
  |some .bool=>some [0]
  |some (.int _)=>some [1]
  |some .string=>some [2]
  |some (.struct fs)=>if P.stoodInHeld t then none else Ds P (eqFields d) fs.toList 0
  |some (.array n e)=>match eqFields d e with
   |some l=>if szOf P e=some l.length/\0<l.length then some (List.replicate n l).flatten else none
   |none=>none
  |_=>none
def Dt(t:TypeId):Option Nat:=match P.underlying t with
 |some .bool=>some 0
 |some (.int _)=>some 1
 |some .string=>some 2
 |some (.struct _) | some (.array _ _)=>match eqFields P 9 t with
  |some l=>if l.all (fun k=>Nat.blt k 4) then some (4+encK l) else none
  |none=>none
 |_=>none
def LA(t:TypeId)(x:Aa):Bool:=match P.info? t with
 |some { zero:=some v,.. }=>JS v x
 |_=>false
def Fm(P:Program)(o:Op)(a:Al):Bool :=
 match o,a with
 |.move x,.mv y | .assign x,.mv y=>AB x y
 |.pick c x y,.pick c' x' y'=>AB c c'&&AB x x'&&AB y y'
 |.binOp op t x y _,.bin op' bools x' y'=>op==op'&&AB x x'&&AB y y'&&(!bools||(match P.underlying t with | some .bool=>true | _=>false))
 |.unOp .not _ x,.not y=>AB x y
 |.unOp .neg _ x,.neg y=>AB x y
 |.alloc t,.alloc _ zero=>HL P t zero
 |.box _ x,.box _ y=>AB x y
 |.load t x,.load agg sz y=>yzl P t==some agg&&(!agg||szOf P t==some sz)&&AB x y
 |.store t x y,.store sz x' y'=>szOf P t==some sz&&AB x x'&&AB y y'
 |.nilCheck x,.nilck y=>AB x y
 |.fieldAddr s x f,.faddr off y=>(match Fw P s f with | some (o,ft)=>o==off&&(match szOf P ft with | some n=>n != 0 | none=>false) | none=>false)&&AB x y
 |.indexAddr t x i,.iaddrS st x' i'=>(match T9 P t with | some e=>szOf P e==some st | none=>false)&&AB x x'&&AB i i'
 |.indexAddr t x i,.iaddrA n st x' i'=>(match TA P t with | some (m,e)=>m==n&&szOf P e==some st | none=>false)&&AB x x'&&AB i i'
 |.field t x f,.field agg off sz y=>(match Fw P t f with | some (o,ft)=>o==off&&yzl P ft==some agg&&(!agg||szOf P ft==some sz) | none=>false)&&AB x y
 |.extract x i,.extract j y=>i==j&&AB x y
 |.index t x i,.sidx x' i'=>(match P.underlying t with | some .string=>true | _=>false)&&AB x x'&&AB i i'
 |.index t x i,.aidx agg n sz x' i'=>(match P.underlying t with | some (.array m e)=>m==n&&szOf P e==some sz&&yzl P e==some agg | _=>false)&&AB x x'&&AB i i'
 |.build t ps,.build zero parts=>OA P t zero ps.toList parts
 |.buildSlice t n ps,.bslice _ st nn zero parts=>HO P t n st nn zero ps.toList parts
 |.convert src dst x,.conv k y=>(P.underlying src).isSome&&(match P.underlying dst with | some (.int k')=>k==k' | _=>false)&&AB x y
 |.slice t x lo hi none,.slice isStr st x' lo' bh=>(match P.underlying t with | some .string=>isStr | some (.slice e)=>!isStr&&szOf P e==some st | _=>false)&&AB x x'&&FZ lo lo'&&FZ hi bh
 |.call { callee:=.builtin .len,args,argTypes },.len isStr x'=>args.size==1&&argTypes.size==1&&(match args[0]? with | some x=>AB x x' | none=>false)&&(match (argTypes[0]?).bind P.underlying with | some .string=>isStr | some (.slice _)=>!isStr | _=>false)
 | .call { callee:=.builtin .append,args,argTypes },.append _ st bytes x' y'=>(match args.toList,argTypes.toList with
   |[x,y],[tx,ty]=>tx==ty&&AB x x'&&AB y y'&&(match P.underlying tx with | some (.slice e)=>szOf P e==some st&&byOf P e==some bytes&&bytes != 0&&(match Ej P e with | some z=>z.length==st | none=>false) | _=>false)
   | _,_=>false)
 |.call { callee:=.builtin .max,args,.. },.max x' y'=>(match args.toList with | [x,y]=>AB x x'&&AB y y' | _=>false)
 |.call { callee:=.builtin .min,args,.. },.min x' y'=>(match args.toList with | [x,y]=>AB x x'&&AB y y' | _=>false)
 |.binOp .eql t x y _,.eqagg n false x' y'=>!P.eqGuardType P.depth t&&eqFields P 9 t==some n&&(match P.underlying t with | some (.struct _)=>true | _=>false)&&AB x x'&&AB y y'
 |.binOp .neq t x y _,.eqagg n true x' y'=>!P.eqGuardType P.depth t&&eqFields P 9 t==some n&&(match P.underlying t with | some (.struct _)=>true | _=>false)&&AB x x'&&AB y y'
 |.binOp .eql t x (.const (.slice none 0 0)) _,.isnil false x'=>AB x x'&&(match P.underlying t with | some (.slice _)=>true | _=>false)
 |.binOp .neq t x (.const (.slice none 0 0)) _,.isnil true x'=>AB x x'&&(match P.underlying t with | some (.slice _)=>true | _=>false)
 |.binOp .eql t x (.const (.pointer none)) _,.isnilp false x'=>AB x x'&&(match P.underlying t with | some (.pointer _)=>true | _=>false)
 |.binOp .neq t x (.const (.pointer none)) _,.isnilp true x'=>AB x x'&&(match P.underlying t with | some (.pointer _)=>true | _=>false)
 |.makeMap t none,.mkmap _=>(match P.underlying t with | some (.map _ _)=>true | _=>false)
 |.lookup t x k cok,.mlook kd cok' zero x' k'=>cok==cok'&&(match P.underlying t with | some (.map kt et)=>Dt P kt==some kd&&LA P et zero | _=>false)&&AB x x'&&AB k k'
 |.mapUpdate t m k v,.mupd kd m' k' v'=>(match P.underlying t with | some (.map kt _)=>Dt P kt==some kd | _=>false)&&AB m m'&&AB k k'&&AB v v'
 |.insert t m k v,.mupd kd m' k' v'=>(match P.underlying t with | some (.map kt _)=>Dt P kt==some kd | _=>false)&&AB m m'&&AB k k'&&AB v v'
 |.call { callee:=.builtin .len,args,argTypes },.mlen x'=>args.size==1&&argTypes.size==1&&(match args[0]? with | some x=>AB x x' | none=>false)&&(match (argTypes[0]?).bind P.underlying with | some (.map _ _)=>true | _=>false)
 |.range t x,.mrange _ x'=>(match P.underlying t with | some (.map _ _)=>true | _=>false)&&AB x x'
 |.entry x,.mentry x'=>AB x x'
 |.makeFunc (.func f) first caps,.mkfn f' nb caps'=>f==f'&&first.size==nb&&yzw (first.toList++caps.toList) caps'
 |.convert src dst x,.s2b _ x'=>(match P.underlying src,P.underlying dst with | some .string,some (.slice e)=>(match P.underlying e with | some (.int .u8)=>true | _=>false)&&szOf P e==some 1 | _,_=>false)&&AB x x'
 |.convert src dst x,.b2s x'=>(match P.underlying src,P.underlying dst with | some (.slice e),some .string=>(match P.underlying e with | some (.int .u8)=>true | _=>false)&&szOf P e==some 1 | _,_=>false)&&AB x x'
 |.makeSlice t x y,.mks _ st bytes zero x'=>AB x x'&&AB y x'&&(match P.underlying t with | some (.slice e)=>szOf P e==some st&&byOf P e==some bytes&&bytes != 0&&(match Ej P e with | some z=>HK z zero | none=>false) | _=>false)
 | .call { callee:=.builtin .copy,args,argTypes },.copy st0 x' y'=>(match args.toList,argTypes.toList with
   |[x,y],[tx,ty]=>AB x x'&&AB y y'&&(match P.underlying tx with | some (.slice e)=>szOf P e==some st0 | _=>false)
   | _,_=>false)
 | .call { callee:=.builtin .clear,args,argTypes },.clear zero x'=>(match args.toList,argTypes.toList with
   |[x],[tx]=>AB x x'&&(match P.underlying tx with | some (.slice e)=>(match Ej P e with | some z=>HK z zero | none=>false) | _=>false)
   | _,_=>false)
 |.buildSlice t n ps,.fslice _ st nn zero parts=>HO P t n st nn zero ps.toList parts
 |_,_=>false
end checks
def putH(h:Aw)(o:Option (Nat×Aj)):Aw:=match o with
 |some (i,o)=>hset h i o
 |none=>h
def Ran(E:Nat->Aa)(P:Program)(s:Sem Next)(g:Gh)(h:Aw)(w:World)(r:Req):Prop :=
 ∃(n:Next) (v:Value) (w':World) (g':Gh),s.run P w=.ok n w'/\(n=.value v\/(n=.skip/\v=undef))/\RV g' w' r.v v /\
  HR E g' (putH h r.out) w'/\Stp g h w g' (putH h r.out) w'/\(r.out=none->w'=w/\g'=g)
section
variable {E:Nat->Aa}{P:Program}{g:Gh}{h:Aw}{w:World}
theorem Ran.same{s:Sem Next}{v:Value}{rd:List Nat}{x:Aa}{p:Prop}(H:HR E g h w)(hr:s.run P w=.ok (.value v) w)(hv:RV g w x v):Ran E P s g h w ⟨p,rd,x,none⟩ := ⟨_,v,w,g,hr,.inl rfl,hv,H,.refl _ _ _,fun _=>⟨rfl,rfl⟩⟩
theorem Ran.new{s:Sem Next}{rd:List Nat}{x:Aa}{p:Prop}{i:Nat}{o:Aj}{ob:Obj}{v:Value}{bo st cp:Nat}(H:HR E g h w)(hr:∃w0:World,w0.heap=w.heap/\w0.os=w.os/\w0.tape=w.tape/\w0.output=w.output/\w.drawn<=w0.drawn/\s.run P w=.ok (.value v) { w0 with heap:=w0.heap.push ob })(cj:o.ep=(h i).ep+1)(cT:∀(g':Gh) (w':World),GLe g w g' w'->g'.blk i=w.heap.size->g'.bo i=bo->g'.st i=st->g'.cp i=cp->w'.heap[w.heap.size]?=some ob->OR g' w' i o/\(g'.ep i=(h i).ep+1->RV g' w' x v)) :
  Ran E P s g h w ⟨p,rd,x,some (i,o)⟩:=by
 obtain⟨w0,e1,e2,e3,e4,e5,hr⟩:=hr
 let g':Gh:=⟨fun j=>if j=i then w.heap.size else g.blk j,fun j=>if j=i then(h i).ep+1 else g.ep j,fun j=>if j=i then bo else g.bo j,
  fun j=>if j=i then st else g.st j,fun j=>if j=i then cp else g.cp j,g.fz⟩
 let w':World:={ w0 with heap:=w0.heap.push ob }
 have aO:∀b,b<w.heap.size->w'.heap[b]?=w.heap[b]?:=fun b hb=>by show(w0.heap.push ob)[b]?=_;rw[e1,Lq,Ak (by omega)]
 have aM:w'.heap[w.heap.size]?=some ob:=by show(w0.heap.push ob)[w.heap.size]?=_;rw[e1,Lq,An rfl]
 have aE:GLe g w g' w':=by
  refine⟨fun b hb=>⟨hb,aO b (H.fzb b hb)⟩,fun j=>?_,fun j hj=>?_⟩
  ·show g.ep j<=if j=i then(h i).ep+1 else g.ep j;split
   ·rename_i e;subst e;rw[H.ep j];omega
   ·exact AC _
  ·have:j≠i:=fun e=>by
    subst e;have aZ:(if j=j then(h j).ep+1 else g.ep j)=g.ep j:=hj;rw[An rfl,H.ep j]at aZ;omega
   exact⟨Ak this,Ak this,Ak this,Ak this⟩
 obtain⟨hO,hV⟩:=cT g' w' aE (An rfl) (An rfl) (An rfl) (An rfl) aM;have aI:w'.heap.size=w.heap.size+1:=by show(w0.heap.push ob).size=_;rw[e1];simp
 obtain⟨H',S'⟩:=HR.upd (g':=g') (w':=w') (i:=i) (o':=o) H aE (fun j hj=>Ak hj) ((An rfl:g'.ep i=_).trans cj.symm) (fun b hb _=>aO b hb) (by rw[aI];omega) hO (fun _=>.inr (by rw[show g'.blk i=w.heap.size from An rfl];exact AC _)) (fun _ hf=>by have:=H.fzb _ (show g.fz (g'.blk i) from hf);rw[show g'.blk i=w.heap.size from An rfl]at this;omega) (fun b hb=>.inl hb) (fun b hb=>by have:=H.fzb b hb;rw[aI];omega) e2 e3 e4 e5;exact⟨_,v,w',g',hr,.inl rfl,hV (An rfl),H',S',fun e=>by cases e⟩
end
section
variable {E:Nat->Aa}{P:Program}{g:Gh}{h:Aw}{w:World}{t:List Aa}{a:Act}
theorem Ek{k:IntKind}{n:Int}{v:Value}(hv:RV g w (.int k n) v):v=.int k n:=by cases hv;rfl
theorem DH{b:Bool}{v:Value}(hv:RV g w (.bool b) v):v=.bool b:=by cases hv;rfl
theorem Fx{s:List UInt8}{v:Value}(hv:RV g w (.str s) v):∃b:ByteArray,v=.string b/\b.data.toList=s:=by cases hv;exact⟨_,rfl,by assumption⟩
theorem TB(P:Program)(w:World)(op:BinOp)(t:TypeId)(x y:Operand)(k k':IntKind)(a b:Int):(eqGuard op t x y (.int k a) (.int k' b)).run P w=.ok () w:=by unfold eqGuard;cases op<;>rfl
theorem GS(P:Program)(w:World)(op:BinOp)(t:TypeId)(x y:Operand)(a b:ByteArray):(eqGuard op t x y (.string a) (.string b)).run P w=.ok () w:=by unfold eqGuard;cases op<;>rfl
theorem TC(P:Program)(w:World)(op:BinOp)(t:TypeId)(x y:Operand)(a b:Bool):(eqGuard op t x y (.bool a) (.bool b)).run P w=.ok () w:=by unfold eqGuard;cases op<;>rfl
theorem Zn(P:Program)(w:World)(op:BinOp)(t:TypeId)(k:IntKind)(a b:Int)(aB:(CH op k a b).ok) : ∃v,(binOp op t (.int k a) (.int k b)).run P w=.ok v w/\∀g,RV g w (CH op k a b).v v:=by
 cases op<;>simp only[CH,Req.when,Req.val,Req.fail]at aB |-
 case add=>exact⟨_,by simp[binOp,Op.intArith];rfl,fun g=>by rw[GP _ _ aB];exact .int _ _⟩
 case sub=>exact⟨_,by simp[binOp,Op.intArith];rfl,fun g=>by rw[GP _ _ aB];exact .int _ _⟩
 case mul=>exact⟨_,by simp[binOp,Op.intArith];rfl,fun g=>by rw[GP _ _ aB];exact .int _ _⟩
 case quo=>exact⟨_,by simp[binOp,Op.intDiv,aB.1];rfl,fun g=>by rw[GP _ _ aB.2];exact .int _ _⟩
 case rem=>exact⟨_,by simp[binOp,Op.intDiv,aB],fun g=>.int _ _⟩
 case and=>exact⟨_,by simp only[binOp,ne_eq,not_true_eq_false,Dk,Op.intBits];rfl,fun g=>.int _ _⟩
 case or=>exact⟨_,by simp only[binOp,ne_eq,not_true_eq_false,Dk,Op.intBits];rfl,fun g=>.int _ _⟩
 case xor=>exact⟨_,by simp only[binOp,ne_eq,not_true_eq_false,Dk,Op.intBits];rfl,fun g=>.int _ _⟩
 case andNot=>exact⟨_,by simp only[binOp,ne_eq,not_true_eq_false,Dk,Op.intBits];rfl,fun g=>.int _ _⟩
 case eql=>exact⟨_,by simp[binOp,Op.intCmp];rfl,fun g=>by rw[show(a==b)=decide (a=b) from rfl];exact .bool _⟩
 case neq=>exact⟨_,by simp[binOp,Op.intCmp];rfl,fun g=>by rw[show(a != b)=!decide (a=b) from rfl];exact .bool _⟩
 case lss=>exact⟨_,by simp[binOp,Op.intCmp],fun g=>.bool _⟩
 case leq=>exact⟨_,by simp[binOp,Op.intCmp],fun g=>.bool _⟩
 case gtr=>exact⟨_,by simp[binOp,Op.intCmp],fun g=>.bool _⟩
 case geq=>exact⟨_,by simp[binOp,Op.intCmp],fun g=>.bool _⟩
 all_goals exact aB.elim
theorem Zo(P:Program)(w:World)(op:BinOp)(t:TypeId)(k k':IntKind)(a b:Int)(aB:(JB op k a b).ok) : ∃v,(binOp op t (.int k a) (.int k' b)).run P w=.ok v w/\∀g,RV g w (JB op k a b).v v:=by
 cases op<;>simp only[JB,Req.when,Req.fail]at aB |-
 case shl=>exact⟨_,by simp only[binOp,Op.shift,Ak (show ¬b<0 by omega)];rfl,fun g=>by rw[GP _ _ aB.2];exact .int _ _⟩
 case shr=>exact⟨_,by simp only[binOp,Op.shift,Ak (show ¬b<0 by omega)];rfl,fun g=>.int _ _⟩
 all_goals exact aB.elim
theorem bytes_beq(a b:ByteArray):(a.toList==b.toList)=decide (a.data.toList=b.data.toList):=by
 have e:∀x:ByteArray,x.toList=x.data.toList:=fun x=>by have:=ByteArray.toList_eq x;first|exact this|simpa using this
 rw[e,e,Fp];simp
theorem Zp(P:Program)(w:World)(ty:TypeId)(hu:P.underlying ty=some .bool)(p q:Bool):(Op.equal ty (.bool p) (.bool q)).run P w=.ok (p==q) w:=by show(Op.equalIn (9999+1) ty (.bool p) (.bool q)).run P w=_;rw[Op.equalIn,Sem.run_bind,run_underlying hu];rfl
theorem TD(P:Program)(w:World)(ty:TypeId)(hu:P.underlying ty=some .bool)(p q:Bool) : (binOp .eql ty (.bool p) (.bool q)).run P w=.ok (.bool (p==q)) w/\(binOp .neq ty (.bool p) (.bool q)).run P w=.ok (.bool (!(p==q))) w:=by have e1:binOp .eql ty (.bool p) (.bool q)=(do pure (.bool (<-Op.equal ty (.bool p) (.bool q)))):=rfl;have e2:binOp .neq ty (.bool p) (.bool q)=(do pure (.bool (!(<-Op.equal ty (.bool p) (.bool q))))):=rfl;rw[e1,e2];simp[Zp P w ty hu]
theorem TE{o:Oper}{x:Operand}{y:Ad}(H:HR E g h w)(ht:RVs g w t a.tmps.toList)(ho:o.op=.move x\/o.op=.assign x)(hx:AB x y=true):Ran E P (execOp a.eval o) g h w ((Al.mv y).req (Ag E t) h):=by refine Ran.same H (v:=a.eval x) ?_ (AP H ht hx);rcases ho with ho|ho<;>simp[execOp,ho]
theorem Zq{o:Oper}{op:BinOp}{ty yt:TypeId}{x y:Operand}{bools:Bool}{x' y':Ad}(H:HR E g h w)(ht:RVs g w t a.tmps.toList)(ho:o.op=.binOp op ty x y yt)(hx:AB x x'=true)(hy:AB y y'=true)(hb:bools=true->P.underlying ty=some .bool) (aB:((Al.bin op bools x' y').req (Ag E t) h).ok):Ran E P (execOp a.eval o) g h w ((Al.bin op bools x' y').req (Ag E t) h):=by
 have rx:=AP H ht hx;have ry:=AP H ht hy;simp only[Al.req]at aB |-;generalize Ag E t x'=X at *;generalize Ag E t y'=Y at *;unfold Dq at aB |-;split at aB
 ·rename_i k p k' q;by_cases eS:FX op=true
  ·rw[An eS]at aB;simp only[An eS];have e1:=Ek rx;have e2:=Ek ry;obtain⟨v,hr,hv⟩:=Zo P w op ty k k' p q aB;have hrd:(JB op k p q)=⟨(JB op k p q).ok,[],(JB op k p q).v,none⟩:=by cases op<;>rfl
   rw[hrd];refine Ran.same H (v:=v) ?_ (hv g);simp only[execOp,ho,e1,e2,Sem.run_bind,TB,Result.andThen_ok,hr,Sem.run_pure]
  rw[Ak eS]at aB;simp only[Ak eS];split at aB
  ·rename_i e;subst e;simp only[Cn];have e1:=Ek rx;have e2:=Ek ry;obtain⟨v,hr,hv⟩:=Zn P w op ty k p q aB;have hrd:(CH op k p q)=⟨(CH op k p q).ok,[],(CH op k p q).v,none⟩:=by cases op<;>rfl
   rw[hrd];refine Ran.same H (v:=v) ?_ (hv g);simp only[execOp,ho,e1,e2,Sem.run_bind,TB,Result.andThen_ok,hr,Sem.run_pure]
  ·exact aB.elim
 ·rename_i p q;obtain⟨b1,e1,e1'⟩:=Fx rx;obtain⟨b2,e2,e2'⟩:=Fx ry;have hl:∀b:ByteArray,b.size=b.data.toList.length:=fun b=>rfl
  have ix:Op.bytesLess b1.toList b2.toList=Op.bytesLess p q:=by
   have e:∀x:ByteArray,x.toList=x.data.toList:=fun x=>by have:=ByteArray.toList_eq x;first|exact this|simpa using this
   rw[e,e,e1',e2']
  have jY:(b1.toList==b2.toList)=decide (p=q):=by rw[bytes_beq,e1',e2']
  cases op<;>simp only[JK,Req.when,Req.val,Req.fail]at aB |-
  case add =>
   refine Ran.same H (v:=.string (b1++b2)) ?_ (.str _ _ (by rw[<-e1',<-e2'];simp));have:¬(IntKind.i64.max<(b1.size:Int)+(b2.size:Int)):=by have h1:=hl b1;have h2:=hl b2;rw[e1']at h1;rw[e2']at h2;have:IntKind.i64.max=9223372036854775807:=rfl;omega
   have this':¬((b1.size+b2.size:Nat):Int)>IntKind.i64.max:=by omega
   simp only[execOp,ho,e1,e2,Sem.run_bind,GS,Result.andThen_ok,binOp,Op.stringOp,Ak this',Sem.run_pure]
  case eql=>exact Ran.same H (v:=.bool (decide (p=q))) (by simp[execOp,ho,e1,e2,GS,binOp,Op.stringOp,jY]) (.bool _)
  case neq=>exact Ran.same H (v:=.bool (!decide (p=q))) (by simp[execOp,ho,e1,e2,GS,binOp,Op.stringOp,jY]) (.bool _)
  case lss=>exact Ran.same H (v:=.bool (Op.bytesLess p q)) (by simp[execOp,ho,e1,e2,GS,binOp,Op.stringOp,ix]) (.bool _)
  case leq=>exact Ran.same H (v:=.bool (Op.bytesLess p q||decide (p=q))) (by simp[execOp,ho,e1,e2,GS,binOp,Op.stringOp,ix,jY]) (.bool _)
  case gtr=>exact Ran.same H (v:=.bool (!(Op.bytesLess p q||decide (p=q)))) (by simp[execOp,ho,e1,e2,GS,binOp,Op.stringOp,ix,jY]) (.bool _)
  case geq=>exact Ran.same H (v:=.bool (!Op.bytesLess p q)) (by simp[execOp,ho,e1,e2,GS,binOp,Op.stringOp,ix]) (.bool _)
  all_goals exact aB.elim
 ·rename_i p q;have e1:=DH rx;have e2:=DH ry;split at aB
  ·have hu:=hb rfl;refine Ran.same H (v:=.bool (p==q)) ?_ (.bool _);simp[execOp,ho,e1,e2,TC,TD P w ty hu]
  ·have hu:=hb rfl;refine Ran.same H (v:=.bool (!(p==q))) ?_ (.bool _);simp[execOp,ho,e1,e2,TC,TD P w ty hu]
  ·exact aB.elim
 ·exact aB.elim
theorem Zr{o:Oper}{ty:TypeId}{x:Operand}{x':Ad}(H:HR E g h w)(ht:RVs g w t a.tmps.toList)(ho:o.op=.unOp .not ty x)(hx:AB x x'=true)(aB:((Al.not x').req (Ag E t) h).ok):Ran E P (execOp a.eval o) g h w ((Al.not x').req (Ag E t) h):=by have rx:=AP H ht hx;simp only[Al.req]at aB |-;generalize Ag E t x'=X at *;cases X<;>simp only[Req.fail]at aB;rename_i b;exact Ran.same H (v:=.bool (!b)) (by simp[execOp,ho,DH rx,Op.unary]) (.bool _)
theorem Zs{o:Oper}{ty:TypeId}{x:Operand}{x':Ad}(H:HR E g h w)(ht:RVs g w t a.tmps.toList)(ho:o.op=.unOp .neg ty x)(hx:AB x x'=true)(aB:((Al.neg x').req (Ag E t) h).ok):Ran E P (execOp a.eval o) g h w ((Al.neg x').req (Ag E t) h):=by have rx:=AP H ht hx;simp only[Al.req]at aB |-;generalize Ag E t x'=X at *;cases X<;>simp only[Req.fail]at aB;rename_i k n;have br:inr k (0-n):=aB;exact Ran.same H (v:=.int k (k.wrap (0-n))) (by simp[execOp,ho,Ek rx,Op.unary,Op.intArith]) (by rw[GP _ _ br];exact .int _ _)
theorem DI{c:Bool}{x:Aa}{v:Value}(hv:RV g w x v)(hu:unc c x)(hc:c=true):RV g w (unv x) v:=by
 cases x with
 |cnd d y=>cases hv with | cnd _ _ _ h _=>exact h (hu hc)
 |_=>exact hv
theorem Zt{o:Oper}{c x y:Operand}{c' x' y':Ad}(H:HR E g h w)(ht:RVs g w t a.tmps.toList)(ho:o.op=.pick c x y)(hc:AB c c'=true)(hx:AB x x'=true)(hy:AB y y'=true)(aB:((Al.pick c' x' y').req (Ag E t) h).ok):Ran E P (execOp a.eval o) g h w ((Al.pick c' x' y').req (Ag E t) h):=by
 have rc:=AP H ht hc;have rx:=AP H ht hx;have ry:=AP H ht hy;simp only[Al.req]at aB |-;generalize Ag E t c'=C at *;generalize Ag E t x'=X at *;generalize Ag E t y'=Y at *;cases C<;>simp only[Req.fail]at aB;rename_i b;have e:=DH rc;have run:∀v,v=(if b=true then a.eval x else a.eval y)->(execOp a.eval o).run P w=.ok (.value v) w:=by rintro v rfl;simp[execOp,ho,e,asBool]
 show Ran E P _ g h w (Cj b X Y);have aB:(Cj b X Y).ok:=aB;unfold Cj at aB |-;split at aB
 ·rename_i p q hp hq;obtain⟨h1,h2⟩:unc b X/\unc (!b) Y:=aB;refine Ran.same H (run _ rfl) ?_;cases b with
  |true=>have:=DI rx h1 rfl;rw[hp]at this;exact this
  |false=>have:=DI ry h2 rfl;rw[hq]at this;exact this
 ·rename_i k p k' q hp hq;split at aB
  ·rename_i e';subst e';obtain⟨h1,h2⟩:unc b X/\unc (!b) Y:=aB;rw[An rfl];refine Ran.same H (run _ rfl) ?_;cases b with
   |true=>have:=DI rx h1 rfl;rw[hp]at this;exact this
   |false=>have:=DI ry h2 rfl;rw[hq]at this;exact this
  ·rename_i aJ;obtain⟨h1,h2⟩:unc b X/\unc (!b) Y:=aB;rw[Ak aJ];refine Ran.same H (run _ rfl) ?_;cases b with
   |true=>have:=DI rx h1 rfl;rw[hp]at this;exact this
   |false=>have:=DI ry h2 rfl;rw[hq]at this;exact this
 ·obtain⟨h1,h2⟩:unc b X/\unc (!b) Y:=aB;refine Ran.same H (run _ rfl) ?_;cases b with
  |true=>exact DI rx h1 rfl
  |false=>exact DI ry h2 rfl
theorem Zu{o:Oper}{i:Nat}{x:Operand}{x':Ad}(H:HR E g h w)(ht:RVs g w t a.tmps.toList)(ho:o.op=.extract x i)(hx:AB x x'=true)(aB:((Al.extract i x').req (Ag E t) h).ok):Ran E P (execOp a.eval o) g h w ((Al.extract i x').req (Ag E t) h):=by
 have rx:=AP H ht hx;simp only[Al.req]at aB |-;generalize Ag E t x'=X at *;cases X<;>simp only[Req.fail]at aB;rename_i l;have hi:i<l.length:=aB;generalize hv:a.eval x=v at rx;cases rx with
 |tup _ arr hn hr =>
  have bh:i<arr.size:=by omega
  refine Ran.same H (v:=arr[i]) (by simp[execOp,ho,hv,Instr.extract,bh]) ?_;have:=hr i l[i] arr[i] (AD hi) (DD bh);simpa [List.getD,AD hi] using this
theorem JT{ρ:Operand->Value}(H:HR E g h w)(hr:∀x y,AB x y=true->RV g w (Ag E t y) (ρ x)):∀{l:List Operand} {m:List Ad},yzw l m=true->RVs g w (m.map (Ag E t)) (l.map ρ)
 |[],[],_=>.nil g w
 |x :: l,y :: m,h=>by simp only[yzw,AE]at h;exact .cons (hr x y h.1) (JT H hr h.2)
 |[],_ :: _,h=>by cases h
 |_ :: _,[],h=>by cases h
theorem Zv{o:Oper}{f:FuncId}{nb:Nat}{first caps:Array Operand}{caps':List Ad}(H:HR E g h w)(ht:RVs g w t a.tmps.toList)(ho:o.op=.makeFunc (.func f) first caps)(h0:first.size=nb)(hc:yzw (first.toList++caps.toList) caps'=true) :
  Ran E P (execOp a.eval o) g h w ((Al.mkfn f nb caps').req (Ag E t) h):=by
 have hr:=JT (ρ:=a.eval) H (fun x y cU=>AP H ht cU) hc;refine Ran.same H (v:=.func (.func f) (first.map a.eval) (caps.map a.eval)) (by simp[execOp,ho,Instr.makeFunc]) ?_;have:=RV.fn (g:=g) (w:=w) f nb (caps'.map (Ag E t)) ((first.toList++caps.toList).map a.eval).toArray (by have:=hr.1;simpa using this) (fun i x v hx hv=>hr.2 i x v hx (by simpa using hv));have e1:(((first.toList++caps.toList).map a.eval).toArray.toList.take nb).toArray=first.map a.eval:=by apply Array.ext';simp[<-h0]
 have e2:(((first.toList++caps.toList).map a.eval).toArray.toList.drop nb).toArray=caps.map a.eval:=by apply Array.ext';simp[<-h0]
 rw[e1,e2]at this;exact this
end
section
variable {E:Nat->Aa}{P:Program}{g:Gh}{h:Aw}{w:World}{t:List Aa}{a:Act}
theorem El(b o n:Nat):(⟨b,o,none⟩:Addr).add n=⟨b,o+n,none⟩:=by unfold Addr.add;split<;>simp_all
theorem TF{ty:TypeId}{agg:Bool}(hq:yzl P ty=some agg)(w:World):(isAgg ty).run P w=.ok agg w:=by
 unfold yzl at hq;cases hu:P.underlying ty with
 |none=>simp[hu]at hq
 |some d =>simp only[hu,Do,Bc]at hq;unfold isAgg;rw[Sem.run_bind,run_underlying hu w];subst hq;cases d<;>rfl
theorem HP{ty:TypeId}{n:Nat}(hq:szOf P ty=some n)(w:World):(sizeOf ty).run P w=.ok n w:=by
 unfold szOf at hq;cases hi:P.info? ty with
 |none=>simp[hi]at hq
 |some i =>simp only[hi,Do,Bc]at hq;simp[sizeOf,typeInfo,hi,hq]
theorem Zw{ty:TypeId}{agg:Bool}{sz:Nat}(hq:yzl P ty=some agg)(hs:agg=true->szOf P ty=some sz)(h1:agg=false->sz=1)(w:World) (b off:Nat) (vals:List Value) (hl:vals.length=sz) (hc:∀j v,vals[j]?=some v->w.cell? ⟨b,off+j,none⟩=some v) : (Instr.loadAt ty (.pointer (some ⟨b,off,none⟩))).run P w=.ok (if agg then .agg vals.toArray else vals.getD 0 undef) w:=by
 have iy:∀j v,vals[j]?=some v->w.cell? ((⟨b,off,none⟩:Addr).add j)=some v:=fun j v hv=>by rw[El];exact hc j v hv
 have db:=run_loadCells_list (P:=P) w ⟨b,off,none⟩ vals iy;simp only[Instr.loadAt,Instr.sureAddr,loadVar,Sem.run_bind,Sem.run_pure,Result.andThen_ok,TF hq];cases agg with
 |true =>rw[hl]at db;simp[HP (hs rfl),db]
 |false =>
  obtain rfl:=h1 rfl;cases vals with
  |nil=>simp at hl
  |cons v r =>have:=hc 0 v rfl;simp at this;simp[this]
theorem RVs.drop{l:List Aa}{a:List Value}(h:RVs g w l a)(n:Nat):RVs g w (l.drop n) (a.drop n) := ⟨by simp[h.1],fun i x v hx hv=>h.2 (n+i) x v (by simpa using hx) (by simpa using hv)⟩
theorem RVs.take{l:List Aa}{a:List Value}(h:RVs g w l a)(n:Nat):RVs g w (l.take n) (a.take n):=by
 refine⟨by simp[h.1],fun i x v hx hv=>?_⟩;rw[Fl]at hx hv;split at hx
 ·rename_i hi;rw[An hi]at hv;exact h.2 i x v hx hv
 ·cases hx
theorem RVs.at0{l:List Aa}{a:List Value}(h:RVs g w l a)(i:Nat)(hi:i<l.length):RV g w (l.getD i .top) (a.getD i undef):=by
 have h1:l[i]?=some l[i]:=AD hi;have hs:i<a.length:=by rw[h.1];exact hi
 have h2:a[i]?=some a[i]:=AD hs;simpa [List.getD,h1,h2] using h.2 i _ _ h1 h2
theorem RVs.rv_agg{l:List Aa}{a:List Value}(h:RVs g w l a):RV g w (.agg l) (.agg a.toArray) :=
 .agg _ _ (by simpa using h.1) (fun i x v hx hv=>h.2 i x v hx (by simpa using hv))
theorem OB{o:Oper}{ty:TypeId}{x:Operand}{agg:Bool}{sz:Nat}{rd:List Nat}{p:Prop}(H:HR E g h w)(ho:o.op=.load ty x)(hq:yzl P ty=some agg)(hs:agg=true->szOf P ty=some sz)(h1:agg=false->sz=1){b off:Nat} (hx:a.eval x=.pointer (some ⟨b,off,none⟩)) (vals:List Value) (hl:vals.length=sz) (hc:∀j v,vals[j]?=some v->w.cell? ⟨b,off+j,none⟩=some v){y:Aa} (hy:RV g w y (if agg then .agg vals.toArray else vals.getD 0 undef)):Ran E P (execOp a.eval o) g h w ⟨p,rd,y,none⟩:=by refine Ran.same H (v:=if agg then .agg vals.toArray else vals.getD 0 undef) ?_ hy;simp only[execOp,ho,hx,Sem.run_bind,Zw hq hs h1 w b off vals hl hc,Result.andThen_ok,Sem.run_pure]
theorem LB{cs:List Aa}{l:List Value}{agg:Bool}{sz off:Nat}(h:RVs g w cs l)(h1:agg=false->sz=1)(hb:off+sz<=cs.length) :
  RV g w (ldv agg sz cs off) (if agg then .agg ((l.drop off).take sz).toArray else((l.drop off).take sz).getD 0 undef):=by
 cases agg with
 |true=>exact((h.drop off).take sz).rv_agg
 |false =>
  obtain rfl:=h1 rfl;have:=h.at0 off (by omega);have hl:off<l.length:=by rw[h.1];omega
  simp only[ldv,J6,Dk];have e:((l.drop off).take 1).getD 0 undef=l.getD off undef:=by simp[List.getD,Fl,Ec]
  rw[e];exact this
theorem TG{o:Oper}{ty:TypeId}{x:Operand}{agg:Bool}{sz:Nat}{x':Ad}(H:HR E g h w)(ht:RVs g w t a.tmps.toList)(ho:o.op=.load ty x)(hx:AB x x'=true)(hq:yzl P ty=some agg) (hs:agg=true->szOf P ty=some sz) (aB:((Al.load agg sz x').req (Ag E t) h).ok):Ran E P (execOp a.eval o) g h w ((Al.load agg sz x').req (Ag E t) h):=by
 have rx:=AP H ht hx;simp only[Al.req]at aB |-;generalize Ag E t x'=X at *;generalize hv:a.eval x=v at rx;unfold CP at aB |-;cases X<;>simp only[Req.fail]at aB
 case ptr id ep off =>
  have hO:=H.obj id;have hE:=H.ep id;cases hh:h id<;>simp only[hh,Req.fail]at aB hO hE |-
  case box ep' cs =>
   obtain⟨rfl,hb,h1⟩:=aB;obtain⟨arr,ty',hr,bN⟩:=hO;cases rx with
   |ptr _ _ _ _ _ _ hp =>
    rw[hp (by simpa [Aj.ep] using hE.symm)]at hv;have cE:=bN.1;refine OB H ho hq hs h1 hv ((arr.toList.drop off).take sz) (by simp at cE |-;omega) ?_ (LB bN h1 hb);intro j u hu;rw[Fl]at hu;split at hu
    ·rw[Ec]at hu;simp only[World.cell?,hr];simpa using hu
    ·cases hu
  all_goals exact aB.elim
 case eptr id ep i off =>
  have hO:=H.obj id;have hE:=H.ep id;cases hh:h id<;>simp only[hh,Req.fail]at aB hO hE |-
  case vec ep' st n f =>
   obtain⟨rfl,hi,hb,h1⟩:=aB;obtain⟨aH,h0,hn,arr,ty',hr,bt,aV⟩:=hO;obtain⟨i5,aN⟩:=aV i hi;have cm:g.bo id+i*st+st<=arr.size:=by have:(i+1)*st<=g.cp id*st:=Bo _ (by omega);rw[Ee]at this;omega
   cases rx with
   |eptr _ _ _ _ _ _ _ hp =>
    have dh:=hp (by simpa [Aj.ep] using hE.symm);rw[dh,aH]at hv
    have cW:RVs g w (f i) ((arr.toList.drop (g.bo id+i*st)).take st):=by
     refine⟨by simp;omega,fun j y u hy hu=>?_⟩;rw[Fl]at hu;split at hu
     ·rw[Ec]at hu;exact(aN j y u hy (by simpa [Dh] using hu)).2
     ·cases hu
    refine OB H ho hq hs h1 hv ((((arr.toList.drop (g.bo id+i*st)).take st).drop off).take sz) (by simp;omega) ?_ (LB cW h1 (by omega));intro j u hu;rw[Fl]at hu;split at hu
    ·rw[Ec,Fl]at hu;split at hu
     ·rw[Ec]at hu;simp only[World.cell?,hr];simpa [Dh] using hu
     ·cases hu
    ·cases hu
  all_goals exact aB.elim
 case cptr f lim off =>
  obtain⟨hb,h1⟩:=aB;cases rx with
  |cptr _ _ _ b base vals hz hc hr =>
   have db:((List.range sz).map fun j=>vals (off+j)).length=sz:=by simp
   refine OB H ho hq hs h1 hv ((List.range sz).map fun j=>vals (off+j)) db ?_ ?_
   ·intro j u hu;have hj:j<sz:=(by have:=(AK.1 hu).1;simpa using this);simp[GH,O2 hj]at hu;rw[Dh,hc (off+j) (by omega),hu]
   ·cases agg with
    |true =>
     refine RVs.rv_agg ⟨by simp,fun j y u hy hu=>?_⟩;have hj:j<sz:=by have:=(AK.1 hu).1;simpa using this
     simp[GH,O2 hj]at hu hy;rw[<-hy,<-hu];exact hr _ (by omega)
    |false =>obtain rfl:=h1 rfl;simpa using hr off (by omega)
 all_goals exact aB.elim
theorem TH{x:Aa}{v:Value}(h:RV g w x v)(h1:x.one=true):v.oneCell'=true/\v.cells=#[v]:=by
 have key:v.oneCell'=true->v.cells=#[v]:=fun hv=>by cases v<;>first | rfl | cases hv
 have:v.oneCell'=true:=by cases h<;>first|rfl|assumption|cases h1
 exact⟨this,key this⟩
theorem OC{x:Aa}{v:Value}{p:List Aa}(h:RV g w x v)(hp:Cv x=some p):RVs g w p v.cells.toList:=by
 cases x<;>simp only[Cv]at hp
 case agg l =>
  obtain rfl:=BJ hp;cases h with
  |agg _ arr hn hr=>exact⟨by simpa [Value.cells] using hn,fun i x v hx hv=>hr i x v hx (by simpa [Value.cells] using hv)⟩
 all_goals first
  |(cases hp;done)
  |(obtain rfl:=BJ hp;rw[(TH h rfl).2];exact .cons h (.nil g w))
theorem GT:∀{p:List Aa} {l:List Value},RVs g w p l->BB p=true->∀v∈l,v.oneCell'=true
 |[],l,h,_,v,hv=>by have:=h.1;simp at this;subst this;cases hv
 |x :: p,[],h,_,v,hv=>by cases hv
 |x :: p,u :: l,h,h1,v,hv=>by
  simp only[BB,AE]at h1;cases hv with
  |head=>exact(TH (h.2 0 x u rfl rfl) h1.1).1
  |tail _ hv=>exact GT (p:=p) (l:=l) ⟨by have:=h.1;simpa using this,fun i y z hy hz=>h.2 (i+1) y z (by simpa using hy) (by simpa using hz)⟩ h1.2 v hv
theorem HQ{s:Sem Next}{rd:List Nat}{p:Prop}{i:Nat}{o':Aj}{x:Aa}{v:Value}{n:Next}(H:HR E g h w)(aU:(h i).owned=true){arr' arr:Array Value}{ty:TypeId}(hb:w.heap[g.blk i]?=some (.cells arr ty (0,0)))(hr:s.run P w=.ok n (w.setRow (g.blk i) arr')) (hn:n=.value v\/(n=.skip/\v=undef))(cj:o'.ep=(h i).ep) (cT:∀w',GLe g w g w'->w'.heap[g.blk i]?=some (.cells arr' ty (0,0))->OR g w' i o'/\RV g w' x v):Ran E P s g h w ⟨p,rd,x,some (i,o')⟩:=by have cx:=H.sep i aU;have aE:GLe g w g (w.setRow (g.blk i) arr'):=⟨fun b bv=>⟨bv,setRow_other w (g.blk i) b arr' (fun e=>cx (e▸bv))⟩,fun _=>AC _,fun _ _=>⟨rfl,rfl,rfl,rfl⟩⟩;obtain⟨hO,hV⟩:=cT _ aE (setRow_heap w (g.blk i) arr arr' ty (0,0) hb);obtain⟨H',S'⟩:=HR.upd (g':=g) (w':=w.setRow (g.blk i) arr') (i:=i) (o':=o') H aE (fun _ _=>rfl) ((H.ep i).trans cj.symm) (fun b bv aJ=>setRow_other w (g.blk i) b arr' (aJ aU)) (by simp) hO (fun _=>.inl ⟨aU,rfl⟩) (fun _=>cx) (fun b bv=>.inl bv) (fun b bv=>by simpa using H.fzb b bv) rfl rfl rfl;exact⟨n,v,_,g,hr,hn,hV,H',S',fun e=>by cases e⟩
theorem yzx{α:Type}(l p:List α)(off j:Nat)(hb:off+p.length<=l.length):(l.take off++p++l.drop (off+p.length))[j]?=if j<off then l[j]? else if j<off+p.length then p[j-off]? else l[j]?:=by
 by_cases h1:j<off
 ·rw[An h1,List.append_assoc,Fj (by simp;omega),Fl,An h1]
 ·rw[Ak h1];by_cases h2:j<off+p.length
  ·rw[An h2,Fj (by simp;omega),GB (by simp;omega)];congr 1;simp;omega
  ·rw[Ak h2,GB (by simp;omega),Ec];congr 1;simp;omega
theorem RVs.lay{l p:List Aa}{a q:List Value}(h:RVs g w l a)(hp:RVs g w p q)(off:Nat)(hb:off+p.length<=l.length):RVs g w (lay l off p) (a.take off++q++a.drop (off+q.length)):=by
 have e1:=h.1;have e2:=hp.1;refine⟨by simp[Am.lay];omega,fun j x v hx hv=>?_⟩;rw[Am.lay,yzx l p off j hb]at hx;rw[yzx a q off j (by omega),e2]at hv;by_cases h1:j<off
 ·rw[An h1]at hx hv;exact h.2 j x v hx hv
 ·rw[Ak h1]at hx hv;by_cases h2:j<off+p.length
  ·rw[An h2]at hx hv;exact hp.2 _ x v hx hv
  ·rw[Ak h2]at hx hv;exact h.2 j x v hx hv
theorem Zx{o:Oper}{ty:TypeId}{x y:Operand}{sz:Nat}{x' y':Ad}(H:HR E g h w)(ht:RVs g w t a.tmps.toList)(ho:o.op=.store ty x y)(hx:AB x x'=true)(hy:AB y y'=true)(hs:szOf P ty=some sz) (aB:((Al.store sz x' y').req (Ag E t) h).ok):Ran E P (execOp a.eval o) g h w ((Al.store sz x' y').req (Ag E t) h):=by
 have rx:=AP H ht hx;have ry:=AP H ht hy;simp only[Al.req]at aB |-;generalize Ag E t x'=X at *;generalize Ag E t y'=Y at *;generalize hv:a.eval x=v at rx;generalize hu:a.eval y=u at ry;unfold Dr at aB |-;cases hp:Cv Y with
 |none=>simp only[hp,Req.fail]at aB
 |some p =>
  simp only[hp]at aB |-;have aS:=OC ry hp
  have run:∀(b off:Nat) (arr:Array Value) (ty':TypeId),w.heap[b]?=some (.cells arr ty' (0,0))->a.eval x=.pointer (some ⟨b,off,none⟩)->p.length=sz->BB p=true->off+sz<=arr.size -> (execOp a.eval o).run P w=.ok .skip (w.setRow b (arr.toList.take off++u.cells.toList++arr.toList.drop (off+u.cells.toList.length)).toArray):=by
   intro b off arr ty' hb iY hl h1 bt;have aD:u.cells.toList.length=sz:=by rw[aS.1,hl]
   have aH:=run_storeCells_at P b off ty' u.cells.toList 0 arr w hb (by omega) (GT aS h1);simp only[GJ]at aH;have aJ:¬(u.cells.size≠sz):=by simp at aD;omega
   simp only[execOp,ho,iY,hu,Sem.run_bind,Instr.storeAt,Instr.sureAddr,Sem.run_pure,Result.andThen_ok,storeVar,HP hs,Ak aJ,aH]
  cases X<;>simp only[Req.fail]at aB
  case ptr id ep off =>
   have hO:=H.obj id;have hE:=H.ep id;cases hh:h id<;>simp only[hh,Req.fail]at aB hO hE |-
   case box ep' cs =>
    obtain⟨rfl,hl,h1,hb⟩:=aB;obtain⟨arr,ty',hr,bN⟩:=hO;have cE:=bN.1;cases rx with
    |ptr _ _ _ _ _ _ bG =>have dh:=bG (by simpa [Aj.ep] using hE.symm);have aU:(h id).owned=true:=(by rw[hh];rfl);refine HQ H aU hr (run (g.blk id) off arr ty' hr (hv.trans dh) hl h1 (by simp at cE;omega)) (.inr ⟨rfl,rfl⟩) (by rw[hh];rfl) ?_;intro w' aE bv;exact⟨⟨_,ty',bv,(bN.mono aE).lay (aS.mono aE) off (by omega)⟩,.top _⟩
   all_goals exact aB.elim
  case eptr id ep i off =>
   have hO:=H.obj id;have hE:=H.ep id;cases hh:h id<;>simp only[hh,Req.fail]at aB hO hE |-
   case vec ep' st n f =>
    obtain⟨rfl,hi,hl,h1,hb⟩:=aB;obtain⟨aH,h0,hn,arr,ty',hr,bt,aV⟩:=hO;cases rx with
    |eptr _ _ _ _ _ _ _ bG =>
     have dh:=bG (by simpa [Aj.ep] using hE.symm);rw[aH]at dh;have aU:(h id).owned=true:=(by rw[hh];rfl);have cm:∀k,k<n->g.bo id+k*st+st<=g.bo id+g.cp id*st:=fun k hk=>by have:(k+1)*st<=g.cp id*st:=Bo _ (by omega);rw[Ee]at this;omega
     have pL:=cm i hi;have aD:u.cells.toList.length=sz:=(by rw[aS.1,hl]);refine HQ H aU hr (run (g.blk id) (g.bo id+i*st+off) arr ty' hr (hv.trans dh) hl h1 (by omega)) (.inr ⟨rfl,rfl⟩) (by rw[hh];rfl) ?_;intro w' aE bv;refine⟨⟨aH,h0,hn,_,ty',bv,by simp;omega,fun k hk=>?_⟩,.top _⟩;obtain⟨i5,aN⟩:=aV k hk;have fM:=fun j=>yzx arr.toList u.cells.toList (g.bo id+i*st+off) j (by simp;simp at aD;omega);by_cases e:k=i
     ·subst e;simp only[Cn];refine⟨by simp[lay];omega,fun j y z hy hz=>?_⟩;rw[GI,fM]at hz;rw[lay,yzx (f k) p off j (by omega)]at hy;by_cases j1:j<off
      ·rw[An j1]at hy;rw[An (by omega)]at hz;have:=aN j y z hy (by simpa using hz);exact⟨this.1,this.2.mono aE⟩
      ·rw[Ak j1]at hy;rw[Ak (by omega)]at hz;by_cases j2:j<off+p.length
       ·rw[An j2]at hy;rw[An (by omega)]at hz;have e2:g.bo id+k*st+j-(g.bo id+k*st+off)=j-off:=(by omega);rw[e2]at hz;exact⟨GT aS h1 z (CB hz),(aS.2 _ y z hy hz).mono aE⟩
       ·rw[Ak j2]at hy;rw[Ak (by omega)]at hz;have:=aN j y z hy (by simpa using hz);exact⟨this.1,this.2.mono aE⟩
     ·simp only[Ak e];refine⟨i5,fun j y z hy hz=>?_⟩;have hj:j<st:=by rw[<-i5];exact(AK.1 hy).1
      rw[GI,fM]at hz
      have kF:¬(g.bo id+i*st+off<=g.bo id+k*st+j/\g.bo id+k*st+j<g.bo id+i*st+off+u.cells.toList.length):=by
       rintro⟨q1,q2⟩;rcases Nat.lt_or_gt_of_ne e with hlt|hgt
       ·have:(k+1)*st<=i*st:=Bo _ hlt;rw[Ee]at this;omega
       ·have:(i+1)*st<=k*st:=Bo _ hgt;rw[Ee]at this;omega
      by_cases j1:g.bo id+k*st+j<g.bo id+i*st+off
      ·rw[An j1]at hz;have:=aN j y z hy (by simpa using hz);exact⟨this.1,this.2.mono aE⟩
      ·rw[Ak j1,Ak (by omega)]at hz;have:=aN j y z hy (by simpa using hz);exact⟨this.1,this.2.mono aE⟩
   all_goals exact aB.elim
  all_goals exact aB.elim
end
section
variable {E:Nat->Aa}{P:Program}{g:Gh}{h:Aw}{w:World}{t:List Aa}{a:Act}
theorem OD{id ep off:Nat}{v:Value}(H:HR E g h w)(hv:RV g w (.ptr id ep off) v)(he:ep=(h id).ep):v=.pointer (some ⟨g.blk id,off,none⟩):=by
 cases hv with
 |ptr _ _ _ _ _ _ hp=>exact hp (he.trans (H.ep id).symm)
theorem TI{id ep off:Nat}(H:HR E g h w)(he:ep=(h id).ep):RV g w (.ptr id ep off) (.pointer (some ⟨g.blk id,off,none⟩)) :=
 .ptr _ _ _ _ rfl (by rw[he,H.ep id];exact AC _) (fun _=>rfl)
theorem Zy{id ep i off:Nat}{v:Value}(H:HR E g h w)(hv:RV g w (.eptr id ep i off) v)(he:ep=(h id).ep):v=.pointer (some ⟨g.blk id,g.bo id+i*g.st id+off,none⟩):=by
 cases hv with
 |eptr _ _ _ _ _ _ _ hp=>exact hp (he.trans (H.ep id).symm)
theorem TJ{id ep i off:Nat}(H:HR E g h w)(he:ep=(h id).ep):RV g w (.eptr id ep i off) (.pointer (some ⟨g.blk id,g.bo id+i*g.st id+off,none⟩)) :=
 .eptr _ _ _ _ _ rfl (by rw[he,H.ep id];exact AC _) (fun _=>rfl)
theorem Fy{id ep lo n:Nat}{v:Value}(H:HR E g h w)(hv:RV g w (.vec id ep lo n) v)(he:ep=(h id).ep):GO g id lo n v:=by
 cases hv with
 |vec _ _ _ _ _ _ _ hp=>exact hp (he.trans (H.ep id).symm)
theorem Zz{id ep lo n:Nat}{v:Value}(H:HR E g h w)(he:ep=(h id).ep)(hv:GO g id lo n v):RV g w (.vec id ep lo n) v :=
 .vec _ _ _ _ _ (by obtain⟨_,_,rfl,_⟩:=hv;rfl) (by rw[he,H.ep id];exact AC _) (fun _=>hv)
theorem OG{f:Nat->Aa}{lim off d:Nat}{v:Value}(hv:RV g w (.cptr f lim off) v):∃b o,v=.pointer (some ⟨b,o,none⟩)/\RV g w (.cptr f lim (off+d)) (.pointer (some ⟨b,o+d,none⟩)):=by
 cases hv with
 |cptr _ _ _ b base vals hz hc hr =>refine⟨b,base+off,rfl,?_⟩;rw[Dh];exact .cptr f lim (off+d) b base vals hz hc hr
theorem Z0{o:Oper}{x:Operand}{x':Ad}(H:HR E g h w)(ht:RVs g w t a.tmps.toList)(ho:o.op=.nilCheck x)(hx:AB x x'=true)(aB:((Al.nilck x').req (Ag E t) h).ok):Ran E P (execOp a.eval o) g h w ((Al.nilck x').req (Ag E t) h):=by
 have rx:=AP H ht hx;simp only[Al.req]at aB |-;generalize Ag E t x'=X at *;generalize hv:a.eval x=v at rx;cases X<;>simp only[Req.fail]at aB
 case ptr id ep off =>have e:=OD H rx aB;subst e;exact Ran.same H (v:=.pointer (some ⟨g.blk id,off,none⟩)) (by simp[execOp,ho,hv]) rx
 case cptr f l o =>obtain⟨b,o',rfl,_⟩:=OG (d:=0) rx;exact Ran.same H (v:=.pointer (some ⟨b,o',none⟩)) (by simp[execOp,ho,hv]) rx
 case fn f nb c =>
  cases rx with
  |fn _ _ _ arr hn hr=>exact Ran.same H (v:=.func (.func f) (arr.toList.take nb).toArray (arr.toList.drop nb).toArray) (by simp[execOp,ho,hv]) (.fn _ _ _ arr hn hr)
theorem Z1{s:TypeId}{f off:Nat}{ft:TypeId}{n:Nat}(hf:Fw P s f=some (off,ft))(hs:szOf P ft=some n)(h0:n≠0)(w:World)(b o:Nat) : (Instr.fieldAt s (.pointer (some ⟨b,o,none⟩)) f).run P w=.ok (.pointer (some ⟨b,o+off,none⟩)) w:=by
 unfold Fw at hf;split at hf
 ·rename_i fs hu;cases hq:fs[f]? with
  |none=>simp[hq]at hf
  |some fld =>simp only[hq,Do,Bc,DF]at hf;obtain⟨rfl,rfl⟩:=hf;simp only[Instr.fieldAt,Sem.run_bind,run_underlying hu,Result.andThen_ok,hq,Instr.sureAddr,Sem.run_pure,fieldPlace,HP hs,Ak h0,El]
 ·cases hf
theorem Z2{o:Oper}{s:TypeId}{f off:Nat}{ft:TypeId}{n:Nat}{x:Operand}{x':Ad}(H:HR E g h w)(ht:RVs g w t a.tmps.toList)(ho:o.op=.fieldAddr s x f)(hx:AB x x'=true)(hf:Fw P s f=some (off,ft)) (hs:szOf P ft=some n) (h0:n≠0)(aB:((Al.faddr off x').req (Ag E t) h).ok):Ran E P (execOp a.eval o) g h w ((Al.faddr off x').req (Ag E t) h):=by
 have rx:=AP H ht hx;simp only[Al.req]at aB |-;generalize Ag E t x'=X at *;generalize hv:a.eval x=v at rx;have run:∀b o',v=.pointer (some ⟨b,o',none⟩)->(execOp a.eval o).run P w=.ok (.value (.pointer (some ⟨b,o'+off,none⟩))) w:=by rintro b o' rfl;simp only[execOp,ho,hv,Sem.run_bind,Z1 hf hs h0,Result.andThen_ok,Sem.run_pure]
 cases X<;>simp only[Req.fail]at aB
 case ptr id ep o' =>exact Ran.same H (run _ _ (OD H rx aB)) (TI H aB)
 case eptr id ep i o' =>have:=run _ _ (Zy H rx aB);rw[Dh]at this;exact Ran.same H this (TJ H aB)
 case cptr f' l o' =>obtain⟨b,o'',e,hr⟩:=OG (d:=off) rx;exact Ran.same H (run _ _ e) hr
theorem Z3{ty e:TypeId}{st:Nat}(hu:P.underlying ty=some (.slice e))(hs:szOf P e=some st)(w:World)(b o len cap:Nat)(k:IntKind)(i:Int)(h0:0<=i)(h1:i<len) : (Instr.indexAt ty (.slice (some ⟨b,o,none⟩) len cap) (.int k i)).run P w=.ok (.pointer (some ⟨b,o+i.toNat*st,none⟩)) w:=by simp[Instr.indexAt,asIntOf,run_underlying hu,h0,h1,HP hs,El]
theorem Z4{o:Oper}{ty e:TypeId}{st:Nat}{x i:Operand}{x' i':Ad}(H:HR E g h w)(ht:RVs g w t a.tmps.toList)(ho:o.op=.indexAddr ty x i)(hx:AB x x'=true)(hi:AB i i'=true)(hu:P.underlying ty=some (.slice e)) (hs:szOf P e=some st)(aB:((Al.iaddrS st x' i').req (Ag E t) h).ok):Ran E P (execOp a.eval o) g h w ((Al.iaddrS st x' i').req (Ag E t) h):=by
 have rx:=AP H ht hx;have ri:=AP H ht hi;simp only[Al.req]at aB |-;generalize Ag E t x'=X at *;generalize Ag E t i'=I at *;generalize hv:a.eval x=v at rx;generalize hj:a.eval i=u at ri;have run:∀b off n cap k j,v=.slice (some ⟨b,off,none⟩) n cap->u=.int k j->0<=j->j<n->(execOp a.eval o).run P w=.ok (.value (.pointer (some ⟨b,off+j.toNat*st,none⟩))) w:=by rintro b off n cap k j rfl rfl h0 h1;simp only[execOp,ho,hv,hj,Sem.run_bind,Z3 hu hs w b off n cap k j h0 h1,Result.andThen_ok,Sem.run_pure]
 cases X<;>(try simp only[Req.fail]at aB)
 case slc st' n f =>
  cases I<;>simp only[Req.fail]at aB;rename_i k j;obtain⟨rfl,h0,h1⟩:=aB;have ej:=Ek ri;cases rx with
  |slc0=>omega
  |slc _ _ _ b off cap vals hz aT hl hc h1' hr =>
   have kG:j.toNat<n:=by omega
   refine Ran.same H (run b off n cap k j rfl ej h0 h1) ?_;exact .cptr _ st' 0 b (off+j.toNat*st') (fun c=>vals j.toNat c) hz (fun c iy=>hc _ _ kG iy) (fun c iy=>by have aD:=hl j.toNat kG;have:(f j.toNat)[c]?=some (f j.toNat)[c]:=AD (by omega);have h2:=hr j.toNat c _ kG this;simpa [List.getD,this] using h2)
 case vec id ep lo n =>
  cases I<;>simp only[Req.fail]at aB;rename_i k j;have hO:=H.obj id;cases hh:h id<;>simp only[hh,Req.fail]at aB hO |-
  case vec ep' st' m f =>
   obtain⟨rfl,rfl,h0,h1⟩:=aB;have jZ:=Fy H rx (by rw[hh];rfl);obtain⟨ad,cap,e1,aE,aT⟩:=jZ;have ej:=Ek ri;rcases aT with c8|⟨rfl,hc⟩
   ·omega
   ·have r:=run _ _ n cap k j e1 ej h0 h1;rw[hO.1]at r;have e2:g.bo id+lo*st'+j.toNat*st'=g.bo id+(lo+j.toNat)*g.st id+0:=by rw[hO.1,Ba];omega
    rw[e2]at r;exact Ran.same H r (TJ H (by rw[hh];rfl))
  all_goals exact aB.elim
 all_goals (cases I<;>exact aB.elim)
theorem Z5{o:Oper}{ty:TypeId}{x i:Operand}{x' i':Ad}(H:HR E g h w)(ht:RVs g w t a.tmps.toList)(ho:o.op=.index ty x i)(hx:AB x x'=true)(hi:AB i i'=true)(hu:P.underlying ty=some .string)(aB:((Al.sidx x' i').req (Ag E t) h).ok):Ran E P (execOp a.eval o) g h w ((Al.sidx x' i').req (Ag E t) h):=by
 have rx:=AP H ht hx;have ri:=AP H ht hi;simp only[Al.req]at aB |-;generalize Ag E t x'=X at *;generalize Ag E t i'=I at *;generalize hv:a.eval x=v at rx;generalize hj:a.eval i=u at ri;cases X<;>(try simp only[Req.fail]at aB);rename_i s;cases I<;>simp only[Req.fail]at aB;rename_i k j;obtain⟨h0,h1⟩:=aB;obtain⟨b,rfl,hb⟩:=Fx rx;obtain rfl:=Ek ri
 have hlt:j.toNat<b.size:=by
  have:b.size=s.length:=by rw[<-hb];rfl
  omega
 have fW:b[j.toNat]?=some b[j.toNat]:=by simp[hlt]
 have hs:s.getD j.toNat 0=b[j.toNat]:=by subst hb;have:j.toNat<b.data.toList.length:=hlt;rw[JF,AD this];rfl
 refine Ran.same H (v:=.int .u8 (b[j.toNat].toNat:Nat)) ?_ (by show RV g w (.int .u8 (CS s j)) _;rw[CS,hs];exact .int _ _);simp[execOp,ho,hv,hj,Instr.index,asIntOf,run_underlying hu,h0,fW]
theorem Z6{o:Oper}{ty e:TypeId}{nn st:Nat}{x i:Operand}{x' i':Ad}(H:HR E g h w)(ht:RVs g w t a.tmps.toList)(ho:o.op=.indexAddr ty x i)(hx:AB x x'=true)(hi:AB i i'=true)(hu:P.underlying ty=some (.array nn e)) (hs:szOf P e=some st)(aB:((Al.iaddrA nn st x' i').req (Ag E t) h).ok):Ran E P (execOp a.eval o) g h w ((Al.iaddrA nn st x' i').req (Ag E t) h):=by
 have rx:=AP H ht hx;have ri:=AP H ht hi;simp only[Al.req]at aB |-;generalize Ag E t x'=X at *;generalize Ag E t i'=I at *;generalize hv:a.eval x=v at rx;generalize hj:a.eval i=u at ri;have run:∀b off k j,v=.pointer (some ⟨b,off,none⟩)->u=.int k j->0<=j->j<nn->(execOp a.eval o).run P w=.ok (.value (.pointer (some ⟨b,off+j.toNat*st,none⟩))) w:=by rintro b off k j rfl rfl h0 h1;simp[execOp,ho,hv,hj,Instr.indexAt,asIntOf,run_underlying hu,Instr.sureAddr,h0,h1,HP hs,El]
 cases X<;>(try simp only[Req.fail]at aB)
 case ptr id ep o' =>cases I<;>simp only[Req.fail]at aB;rename_i k j;obtain⟨he,h0,h1⟩:=aB;exact Ran.same H (run _ _ k j (OD H rx he) (Ek ri) h0 h1) (TI H he)
 case cptr f l o' =>cases I<;>simp only[Req.fail]at aB;rename_i k j;obtain⟨h0,h1⟩:=aB;obtain⟨b,o'',e',hr⟩:=OG (d:=j.toNat*st) rx;exact Ran.same H (run _ _ k j e' (Ek ri) h0 h1) hr
 all_goals (cases I<;>exact aB.elim)
theorem TK{o:Oper}{s:Nat}{cs:List Aa}{vs:Array Value}{ty:TypeId}{rd:List Nat}{p:Prop}(H:HR E g h w)(aS:RVs g w cs vs.toList)(hr:(execOp a.eval o).run P w=.ok (.value (.pointer (some ⟨w.heap.size,0,none⟩))) { w with heap:=w.heap.push (.cells vs ty (0,0)) }) :
  Ran E P (execOp a.eval o) g h w ⟨p,rd,.ptr s ((h s).ep+1) 0,some (s,.box ((h s).ep+1) cs)⟩:=by
 refine Ran.new (ob:=.cells vs ty (0,0)) (bo:=0) (st:=0) (cp:=0) H ⟨w,rfl,rfl,rfl,rfl,AC _,hr⟩ rfl ?_;intro g' w' aE aK _ _ _ aM;refine⟨⟨vs,ty,by rw[aK];exact aM,aS.mono aE⟩,fun he=>?_⟩;exact .ptr _ _ _ _ rfl (by rw[he];exact AC _) (fun _=>by rw[aK])
theorem Z7{o:Oper}{ty:TypeId}{s:Nat}{zero:List Aa}(H:HR E g h w)(ho:o.op=.alloc ty)(hz:HL P ty zero=true) :
  Ran E P (execOp a.eval o) g h w ((Al.alloc s zero).req (Ag E t) h):=by
 simp only[Al.req];unfold HL Ej at hz;cases hi:P.info? ty with
 |none=>simp[hi]at hz
 |some i =>
  cases bR:i.zero with
  |none=>obtain⟨⟩:=i;simp only at bR;subst bR;simp[hi]at hz
  |some z =>
   have iA:HK z.cells.toList zero=true:=by obtain⟨⟩:=i;simp only at bR;subst bR;simpa [hi] using hz
   refine TK (vs:=z.cells) (ty:=ty) H (Lx iA) ?_;simp[execOp,ho,Instr.alloc,zeroValue,typeInfo,hi,bR,newVar,newRow]
theorem Z8{o:Oper}{ty:TypeId}{s:Nat}{x:Operand}{x':Ad}(H:HR E g h w)(ht:RVs g w t a.tmps.toList)(ho:o.op=.box ty x)(hx:AB x x'=true)(aB:((Al.box s x').req (Ag E t) h).ok):Ran E P (execOp a.eval o) g h w ((Al.box s x').req (Ag E t) h):=by
 have rx:=AP H ht hx;simp only[Al.req]at aB |-;generalize Ag E t x'=X at *;cases hp:Cv X with
 |none=>simp only[hp,Req.fail]at aB
 |some l =>refine TK (vs:=(a.eval x).cells) (ty:=ty) H (OC rx hp) ?_;simp[execOp,ho,Instr.box,newVar,newRow]
end
section
variable {E:Nat->Aa}{P:Program}{g:Gh}{h:Aw}{w:World}{t:List Aa}{a:Act}
theorem Z9{o:Oper}{src dst:TypeId}{k:IntKind}{x:Operand}{x':Ad}(H:HR E g h w)(ht:RVs g w t a.tmps.toList)(ho:o.op=.convert src dst x)(hx:AB x x'=true)(hs:(P.underlying src).isSome=true) (hd:P.underlying dst=some (.int k)) (aB:((Al.conv k x').req (Ag E t) h).ok):Ran E P (execOp a.eval o) g h w ((Al.conv k x').req (Ag E t) h):=by have rx:=AP H ht hx;simp only[Al.req]at aB |-;generalize Ag E t x'=X at *;cases X<;>simp only[Req.fail]at aB;rename_i k' n;have br:inr k n:=aB;obtain⟨d,fd⟩:=Option.isSome_iff_exists.1 hs;exact Ran.same H (v:=.int k (k.wrap n)) (by simp[execOp,ho,Ek rx,convert,run_underlying fd,run_underlying hd,Conv.intToInt]) (by rw[GP _ _ br];exact .int _ _)
theorem ZA{o:Oper}{args:Array Operand}{ats:Array TypeId}{x y:Operand}{x' y':Ad}(H:HR E g h w)(ht:RVs g w t a.tmps.toList)(ho:o.op=.call { callee:=.builtin .max,args,argTypes:=ats })(ha:args.toList=[x,y])(hx:AB x x'=true)(hy:AB y y'=true)(aB:((Al.max x' y').req (Ag E t) h).ok):Ran E P (execOp a.eval o) g h w ((Al.max x' y').req (Ag E t) h):=by
 have rx:=AP H ht hx;have ry:=AP H ht hy;simp only[Al.req]at aB |-;generalize Ag E t x'=X at *;generalize Ag E t y'=Y at *;obtain rfl:args=#[x,y]:=by rw[<-JC (xs:=args),ha]
 cases X<;>(try simp only[Req.fail]at aB)
 case int k p =>
  cases Y<;>(try simp only[Req.fail]at aB)
  case int k' q =>
   by_cases hk:k=k';rotate_left
   ·simp only[Ak hk]at aB
   subst hk;simp only[Cn];refine Ran.same H (v:=.int k (Max.max p q)) ?_ (.int _ _);have e:(if q>p then q else p)=Max.max p q:=by rw[Int.max_def];split<;>split<;>omega
   simp[execOp,ho,resolve,invoke,builtin,Builtin.max_,Builtin.max2,Ek rx,Ek ry];exact e
  all_goals exact aB.elim
 all_goals exact aB.elim
theorem ZB{o:Oper}{args:Array Operand}{ats:Array TypeId}{x y:Operand}{x' y':Ad}(H:HR E g h w)(ht:RVs g w t a.tmps.toList)(ho:o.op=.call { callee:=.builtin .min,args,argTypes:=ats })(ha:args.toList=[x,y])(hx:AB x x'=true)(hy:AB y y'=true)(aB:((Al.min x' y').req (Ag E t) h).ok):Ran E P (execOp a.eval o) g h w ((Al.min x' y').req (Ag E t) h):=by
 have rx:=AP H ht hx;have ry:=AP H ht hy;simp only[Al.req]at aB |-;generalize Ag E t x'=X at *;generalize Ag E t y'=Y at *;obtain rfl:args=#[x,y]:=by rw[<-JC (xs:=args),ha]
 cases X<;>(try simp only[Req.fail]at aB)
 case int k p =>
  cases Y<;>(try simp only[Req.fail]at aB)
  case int k' q =>
   by_cases hk:k=k';rotate_left
   ·simp only[Ak hk]at aB
   subst hk;simp only[Cn];refine Ran.same H (v:=.int k (Min.min p q)) ?_ (.int _ _);have e:(if q<p then q else p)=Min.min p q:=by rw[Int.min_def];split<;>split<;>omega
   simp[execOp,ho,resolve,invoke,builtin,Builtin.min_,Builtin.min2,Ek rx,Ek ry];exact e
  all_goals exact aB.elim
 all_goals exact aB.elim
theorem TL{o:Oper}{args:Array Operand}{ats:Array TypeId}{x:Operand}{x':Ad}{ty:TypeId}{d:TypeDesc}{isStr:Bool}(H:HR E g h w)(ht:RVs g w t a.tmps.toList)(ho:o.op=.call { callee:=.builtin .len,args,argTypes:=ats })(ha:args=#[x])(bO:ats=#[ty])(hu:P.underlying ty=some d) (hd:if isStr then d=.string else ∃e,d=.slice e) (hx:AB x x'=true)(aB:((Al.len isStr x').req (Ag E t) h).ok):Ran E P (execOp a.eval o) g h w ((Al.len isStr x').req (Ag E t) h):=by
 have rx:=AP H ht hx;subst ha;subst bO;simp only[Al.req]at aB |-;generalize Ag E t x'=X at *;generalize hv:a.eval x=v at rx;cases isStr with
 |true =>simp only[Cn]at hd;subst hd;cases X<;>simp only[Req.fail]at aB;rename_i s;obtain⟨b,rfl,hb⟩:=Fx rx;refine Ran.same H (v:=.int .i64 b.size) (by simp[execOp,ho,hv,resolve,invoke,builtin,Builtin.len_,run_underlying hu,goInt]) ?_;rw[show b.size=s.length from by rw[<-hb];rfl];exact .int _ _
 |false =>
  simp only[J6,Dk]at hd;obtain⟨e,rfl⟩:=hd;have run:∀ad n cap,v=.slice ad n cap->(execOp a.eval o).run P w=.ok (.value (.int .i64 n)) w:=by rintro ad n cap rfl;simp[execOp,ho,hv,resolve,invoke,builtin,Builtin.len_,run_underlying hu,goInt]
  cases X<;>simp only[Req.fail]at aB
  case slc st n f =>
   cases rx with
   |slc0 _ _ ad cap=>exact Ran.same H (run ad 0 cap rfl) (.int _ _)
   |slc _ _ _ b off cap=>exact Ran.same H (run _ n cap rfl) (.int _ _)
  case vec id ep lo n =>obtain⟨ad,cap,e1,_⟩:=Fy H rx aB;exact Ran.same H (run _ n cap e1) (.int _ _)
  case nils =>cases rx;exact Ran.same H (run _ 0 0 rfl) (.int _ _)
theorem TM(P:Program)(w:World)(k:IntKind)(i:Int)(y:Nat)(code:BoundsCode)(h0:0<=i)(h1:i<=y):(Instr.sliceBound (.int k i) y code).run P w=.ok i.toNat w:=by simp[Instr.sliceBound,asIntOf,h0,h1]
theorem TN(P:Program)(w:World)(isSlice:Bool)(len cap:Nat)(lo hi:Option Value)(l r:Int)(bu:match lo with | none=>l=0 | some v=>∃k,v=.int k l) (bV:match hi with | none=>r=len | some v=>∃k,v=.int k r) (h0:0<=l) (h1:l<=r) (h2:r<=len) (hc:len<=cap) : (Instr.sliceBounds isSlice len cap lo hi none).run P w=.ok (l.toNat,r.toNat,cap) w:=by
 have hr:∀code,(match hi with | some v=>Instr.sliceBound v cap code | none=>pure len:Sem Nat).run P w=.ok r.toNat w:=by
  intro code;cases hi with
  |none=>simp only at bV;subst bV;simp
  |some v=>obtain⟨k,rfl⟩:=bV;exact TM P w k r cap code (by omega) (by omega)
 have hl:(match lo with | some v=>Instr.sliceBound v r.toNat .sliceB | none=>pure 0:Sem Nat).run P w=.ok l.toNat w:=by
  cases lo with
  |none=>simp only at bu;subst bu;simp
  |some v=>obtain⟨k,rfl⟩:=bu;exact TM P w k l _ _ h0 (by omega)
 unfold Instr.sliceBounds;cases hi with
 |none =>
  have:=hr .sliceAcap;simp only at this;simp at this;simp only[Sem.run_bind,Sem.run_pure,Result.andThen_ok];cases lo with
  |none=>simp only at hl;simp at hl;simp[hl,this]
  |some v=>simp only at hl;subst this;simp[hl]
 |some u =>
  have:=hr (if isSlice then .sliceAcap else .sliceAlen);simp only at this;simp only[Sem.run_bind,Sem.run_pure,Result.andThen_ok,this];cases lo with
  |none=>simp only at hl;simp at hl;simp[hl]
  |some v=>simp only at hl;simp[hl]
theorem ZC{lo:Option Operand}{lo':Option Ad}{l:Int}(H:HR E g h w)(ht:RVs g w t a.tmps.toList)(hx:FZ lo lo'=true)(hl:DC (Ag E t) 0 lo'=some l):match lo.map a.eval with | none=>l=0 | some v=>∃k,v=.int k l:=by
 cases lo<;>cases lo'<;>simp only[FZ]at hx<;>(try (cases hx;done))
 ·simp only[DC,Bc]at hl;exact hl.symm
 ·rename_i x y;have rx:=AP H ht hx;simp only[Do];simp only[DC]at hl;generalize Ag E t y=Y at *;cases Y<;>simp only[JL]at hl<;>(try (cases hl;done));obtain rfl:=BJ hl;exact⟨_,Ek rx⟩
theorem LC{hi:Option Operand}{bh:Option Ad}{r d:Int}(H:HR E g h w)(ht:RVs g w t a.tmps.toList)(hx:FZ hi bh=true)(hl:DC (Ag E t) d bh=some r):match hi.map a.eval with | none=>r=d | some v=>∃k,v=.int k r:=by
 cases hi<;>cases bh<;>simp only[FZ]at hx<;>(try (cases hx;done))
 ·simp only[DC,Bc]at hl;exact hl.symm
 ·rename_i x y;have rx:=AP H ht hx;simp only[Do];simp only[DC]at hl;generalize Ag E t y=Y at *;cases Y<;>simp only[JL]at hl<;>(try (cases hl;done));obtain rfl:=BJ hl;exact⟨_,Ek rx⟩
theorem ZD{ty e:TypeId}{st:Nat}(hu:P.underlying ty=some (.slice e))(hs:szOf P e=some st)(w:World)(ad:Option Addr)(n cap:Nat)(lo hi:Option Value)(l r:Int)(bu:match lo with | none=>l=0 | some v=>∃k,v=.int k l) (bV:match hi with | none=>r=n | some v=>∃k,v=.int k r) (h0:0<=l) (h1:l<=r) (h2:r<=n) (hc:n<=cap) : (Instr.sliceAt ty (.slice ad n cap) lo hi none).run P w=.ok (.slice (if cap=l.toNat then ad else ad.map (·.add (l.toNat*st))) (r.toNat-l.toNat) (cap-l.toNat)) w:=by simp only[Instr.sliceAt,Instr.slice,Sem.run_bind,run_underlying hu,Result.andThen_ok,TN P w true n cap lo hi l r bu bV h0 h1 h2 hc,HP hs,Sem.run_pure]
theorem TP{o:Oper}{ty:TypeId}{x:Operand}{lo hi:Option Operand}{x':Ad}{lo' bh:Option Ad}{isStr:Bool}{st:Nat}{d:TypeDesc}(H:HR E g h w)(ht:RVs g w t a.tmps.toList)(ho:o.op=.slice ty x lo hi none)(hx:AB x x'=true)(bu:FZ lo lo'=true) (bV:FZ hi bh=true) (hu:P.underlying ty=some d) (hd:if isStr then d=.string else ∃e,d=.slice e/\szOf P e=some st)(aB:((Al.slice isStr st x' lo' bh).req (Ag E t) h).ok):Ran E P (execOp a.eval o) g h w ((Al.slice isStr st x' lo' bh).req (Ag E t) h):=by
 have rx:=AP H ht hx;simp only[Al.req]at aB |-;generalize hX:Ag E t x'=X at aB rx |-;generalize hv:a.eval x=v at rx;cases hl:DC (Ag E t) 0 lo' with
 |none=>simp only[hl,Req.fail]at aB
 |some l =>
  simp only[hl]at aB |-;have ol:=ZC (a:=a) H ht bu hl;have run:∀ad n cap r,isStr=false->v=.slice ad n cap->(match hi.map a.eval with | none=>r=(n:Int) | some v=>∃k,v=.int k r)->0<=l->l<=r->r<=n->n<=cap -> (execOp a.eval o).run P w=.ok (.value (.slice (if cap=l.toNat then ad else ad.map (·.add (l.toNat*st))) (r.toNat-l.toNat) (cap-l.toNat))) w:=by rintro ad n cap r rfl rfl or h0 h1 h2 hc;simp only[J6,Dk]at hd;obtain⟨e,rfl,hs⟩:=hd;simp only[execOp,ho,hv,Option.map_none,Sem.run_bind,ZD hu hs w ad n cap _ _ l r ol or h0 h1 h2 hc,Result.andThen_ok,Sem.run_pure]
  cases isStr with
  |true =>
   simp only[Cn]at hd;subst hd;cases X<;>simp only[Req.fail]at aB;rename_i s;cases hr:DC (Ag E t) s.length bh with
   |none=>simp only[hr]at aB
   |some r =>
    simp only[hr]at aB |-;obtain⟨h0,h1,h2⟩:=aB;have or:=LC (a:=a) H ht bV hr;obtain⟨b,rfl,hb⟩:=Fx rx;have aI:b.size=s.length:=by rw[<-hb];rfl
    rw[<-aI]at or;refine Ran.same H (v:=.string (b.extract l.toNat r.toNat)) ?_ (.str _ _ ?_)
    ·simp only[execOp,ho,hv,Option.map_none,Sem.run_bind,Instr.sliceAt,Instr.slice,run_underlying hu,Result.andThen_ok,Option.isSome_none,J6,Dk,Sem.run_pure,
      TN P w false b.size b.size _ _ l r ol or h0 h1 (by omega) (AC _)]
    ·have e1:(b.extract l.toNat r.toNat).data.toList=(b.data.toList.drop l.toNat).take (r.toNat-l.toNat):=by
      simp[List.take_drop,ByteArray.data_extract,Array.toList_extract,List.extract]
     rw[e1,hb];congr 1;omega
  |false =>
   cases X<;>simp only[Req.fail]at aB
   case slc st' n f =>
    cases hr:DC (Ag E t) n bh with
    |none=>simp only[hr]at aB
    |some r =>
     simp only[hr]at aB |-;obtain⟨rfl,h0,h1,h2⟩:=aB;have or:=LC (a:=a) H ht bV hr;have er:r.toNat-l.toNat=(r-l).toNat:=by omega
     cases rx with
     |slc0 _ _ ad cap =>have e0:(r-l).toNat=0:=(by omega);have:=run ad 0 cap r rfl rfl or h0 h1 h2 (Dj _);rw[er,e0]at this;refine Ran.same H this ?_;rw[e0];exact .slc0 _ _ _ _
     |slc _ _ _ b off cap vals hz aT fX hc h1' eE =>
      have:=run _ n cap r rfl rfl or h0 h1 h2 aT;rw[er]at this;refine Ran.same H this ?_;by_cases e0:(r-l).toNat=0
      ·rw[e0];exact .slc0 _ _ _ _
      ·have aJ:¬cap=l.toNat:=(by omega);rw[Ak aJ];simp only[Do,El];refine .slc st' _ _ b (off+l.toNat*st') _ (fun i j=>vals (l.toNat+i) j) hz (by omega) (fun i hi=>fX _ (by omega)) (fun i j hi hj=>?_) (fun i j hi hj=>h1' _ _ (by omega) hj) (fun i j y hi hy=>eE _ _ _ (by omega) hy);rw[show off+l.toNat*st'+i*st'+j=off+(l.toNat+i)*st'+j from by rw[Ba];omega];exact hc _ _ (by omega) hj
   case vec id ep lo0 n =>
    cases hr:DC (Ag E t) n bh with
    |none=>simp only[hr]at aB
    |some r =>
     simp only[hr]at aB |-;have hO:=H.obj id;cases hh:h id<;>simp only[hh]at aB hO |-
     case vec ep' st' m f =>
      obtain⟨rfl,rfl,h0,h1,h2⟩:=aB;have or:=LC (a:=a) H ht bV hr;have er:r.toNat-l.toNat=(r-l).toNat:=by omega
      obtain⟨ad,cap,e1,aE,aT⟩:=Fy H rx (by rw[hh];rfl);have:=run (some ad) n cap r rfl e1 or h0 h1 h2 aE;rw[er]at this;refine Ran.same H this (Zz H (by rw[hh];rfl) ?_);by_cases e0:cap=l.toNat
      ·rw[An e0];exact⟨ad,cap-l.toNat,rfl,by omega,.inl (by omega)⟩
      ·rw[Ak e0];rcases aT with c8|⟨rfl,hc⟩
       ·omega
       ·refine⟨_,cap-l.toNat,rfl,by omega,.inr ⟨?_,by omega⟩⟩;simp only[El];rw[hO.1,Ba,Dh]
     all_goals exact aB.elim
   case nils =>
    cases hr:DC (Ag E t) 0 bh with
    |none=>simp only[hr]at aB
    |some r =>simp only[hr]at aB |-;obtain⟨rfl,rfl⟩:=aB;have or:=LC (a:=a) H ht bV hr;cases rx;have:=run none 0 0 0 rfl rfl or (by omega) (by omega) (by omega) (by omega);simp at this;exact Ran.same H (v:=.slice none 0 0) this .nils
end
end Go.Am

