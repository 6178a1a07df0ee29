/- Part A1: an abstract machine proved sound over the calculus of the guide. No condition. -/
import Derived.WalkKit
import Derived.RangeFuncLeaves
import Derived.OrdersIn
import Derived.MapKept
import Derived.Maps.RangeRun
import Derived.WideKeyRuns
import Derived.Laws.BytesString
import Derived.Laws.IdiomStrings
import Derived.Laws.MakeOwn
import Derived.Laws.CopyRow
import Derived.Lib.SliceRun
set_option linter.unusedSimpArgs false
set_option linter.unusedVariables false
namespace Go.Am
variable {w w':World}{a:Act}{v u:Value}{x y:Operand}{i n id st s bo cp b sz off lo m nn j kd:Nat}{o:Oper}{ρ:Option Nat}{P:Program}{c agg isStr ng want:Bool}{F:Fence}{α:Type}{rd sh:List Nat}{p:Prop}{ob:Obj}{k:IntKind}{ty yt ft e src dst tx kt et:TypeId}{arr:Array Value}{d:TypeDesc}{ats:Array TypeId}{hi:Option Operand}{ps:Array (Nat×Operand)}{fs:Array Field}{vals:Nat->Nat->Value}{zl:List Value}{ops:Array Oper}{tg:Tmp}
abbrev Gaa:=@Array.getElem?_append_left
abbrev Gc:=@Array.getElem?_eq_getElem
abbrev Gt:=@Array.getElem?_eq_some_iff
abbrev Gad:=@Array.getElem?_modify
abbrev Ow:=@Array.getElem?_push
abbrev Gag:=@Array.size_append
abbrev J2:=@Array.toArray_toList
abbrev AI:=@Bool.and_eq_true
abbrev Gam:=@Bool.false_and
abbrev J3:=@Bool.false_eq_true
abbrev H5:=@Bool.not_eq_true'
abbrev E5:=@Bool.not_false
abbrev E6:=@Bool.not_true
abbrev Lq:=@Bool.or_eq_true
abbrev Td:=@Bool.true_and
abbrev Lh:=@Int.fdiv_eq_ediv_of_nonneg
abbrev HE:=@Int.le_refl
abbrev On:=@Int.natCast_mul
abbrev Te:=@Int.tdiv_eq_ediv_of_nonneg
abbrev B4:=@Int.toNat_natCast
abbrev Da:=@List.all_eq_true
abbrev Tf:=@List.cons_append
abbrev Oo:=@List.drop_drop
abbrev Fn:=@List.drop_eq_getElem_cons
abbrev Li:=@List.eq_nil_of_length_eq_zero
abbrev Lr:=@List.ext_getElem?
abbrev DR:=@List.forall_mem_cons
abbrev E7:=@List.getD_eq_getElem?_getD
abbrev E9:=@List.getElem?_append_left
abbrev Ft:=@List.getElem?_append_right
abbrev Gbc:=@List.getElem?_cons_zero
abbrev Ge:=@List.getElem?_drop
abbrev AF:=@List.getElem?_eq_getElem
abbrev Ls:=@List.getElem?_eq_none
abbrev A8:=@List.getElem?_eq_some_iff
abbrev H6:=@List.getElem?_map
abbrev Tg:=@List.getElem?_range
abbrev Gbk:=@List.getElem?_replicate
abbrev DP:=@List.getElem?_set
abbrev HF:=@List.getElem?_take
abbrev Oq:=@List.getElem?_toArray
abbrev J4:=@List.getElem_mem
abbrev Th:=@List.getElem_of_mem
abbrev Db:=@List.length_append
abbrev Bk:=@List.length_cons
abbrev H7:=@List.length_drop
abbrev Gbt:=@List.length_eq_zero_iff
abbrev J5:=@List.length_map
abbrev Ta:=@List.length_range
abbrev Ox:=@List.length_replicate
abbrev J6:=@List.length_set
abbrev Dz:=@List.length_singleton
abbrev Gf:=@List.length_take
abbrev H8:=@List.map_congr_left
abbrev Ot:=@List.map_cons
abbrev CD:=@List.mem_append
abbrev AV:=@List.mem_cons
abbrev AR:=@List.mem_cons_of_mem
abbrev AS:=@List.mem_cons_self
abbrev Cj:=@List.mem_iff_getElem?
abbrev CE:=@List.mem_map
abbrev Ti:=@List.mem_map_of_mem
abbrev AG:=@List.mem_of_getElem?
abbrev Gca:=@List.mem_of_mem_drop
abbrev Jr:=@List.mem_range
abbrev B3:=@List.mem_singleton
abbrev Gcd:=@List.nil_append
abbrev Oy:=@List.not_mem_nil
abbrev Gci:=@List.size_toArray
abbrev Tj:=@List.take_append_drop
abbrev Tb:=@List.take_of_length_le
abbrev Fu:=@Nat.add_assoc
abbrev AT:=@Nat.add_mul
abbrev Gg:=@Nat.add_zero
abbrev Gu:=@Nat.blt_eq
abbrev Js:=@Nat.div_add_mod
abbrev Tk:=@Nat.div_div_eq_div_mul
abbrev Jt:=@Nat.div_eq_of_lt
abbrev H9:=@Nat.div_lt_iff_lt_mul
abbrev EA:=@Nat.eq_zero_or_pos
abbrev Lj:=@Nat.gcd_comm
abbrev Oz:=@Nat.le_div_iff_mul_le
abbrev Lt:=@Nat.le_of_ble_eq_true
abbrev Gv:=@Nat.le_of_lt
abbrev AA:=@Nat.le_refl
abbrev HA:=@Nat.le_succ
abbrev AU:=@Nat.le_trans
abbrev Tl:=@Nat.lt_of_le_of_lt
abbrev Gi:=@Nat.lt_of_lt_of_le
abbrev CF:=@Nat.lt_or_ge
abbrev Dc:=@Nat.lt_succ_self
abbrev C9:=@Nat.mod_eq_of_lt
abbrev Gj:=@Nat.mod_lt
abbrev Lu:=@Nat.mul_add_div
abbrev Ou:=@Nat.mul_add_mod
abbrev E8:=@Nat.mul_assoc
abbrev Bc:=@Nat.mul_comm
abbrev Ov:=@Nat.mul_le_mul_left
abbrev Bd:=@Nat.mul_le_mul_right
abbrev Lk:=@Nat.mul_left_comm
abbrev J7:=@Nat.not_lt_zero
abbrev HB:=@Nat.pos_of_ne_zero
abbrev HG:=@Nat.pow_add
abbrev Cl:=@Nat.pow_le_pow_right
abbrev Dd:=@Nat.pow_succ
abbrev BR:=@Nat.succ_mul
abbrev Bn:=@Nat.zero_add
abbrev BA:=@Nat.zero_le
abbrev Ll:=@Option.getD_some
abbrev Tc:=@Option.map_eq_some_iff
abbrev DS:=@Option.map_some
abbrev AL:=@Option.some.inj
abbrev Ba:=@Option.some.injEq
abbrev BB:=@Prod.mk.injEq
abbrev Bu:=@beq_iff_eq
abbrev BO:=@cond_false
abbrev Cg:=@cond_true
abbrev Gk:=@congrArg
abbrev A9:=@decide_eq_false
abbrev Gdx:=@decide_eq_false_iff_not
abbrev AC:=@decide_eq_true
abbrev CA:=@decide_eq_true_eq
abbrev CG:=@if_false
abbrev Ag:=@if_neg
abbrev Aj:=@if_pos
abbrev AX:=@if_true
abbrev DQ:=@not_or
abbrev BC:=@of_decide_eq_true
abbrev O0:=@or_false
inductive Aa where
 |top
 |int (k:IntKind) (n:Int)
 |bool (b:Bool)
 |str (s:List UInt8)
 |agg (cs:List Aa)
 |tup (vs:List Aa)
 |nils
 |slc (st n:Nat) (f:Nat->List Aa)
 |vec (id ep lo n:Nat)
 |ptr (id ep off:Nat)
 |eptr (id ep i off:Nat)
 |cptr (f:Nat->Aa) (lim off:Nat)
 |nilp
 |fn (f:FuncId) (nb:Nat) (caps:List Aa)
 |nilfn
 |mp (id ep:Nat)
 |nilmp
 |cnd (c:Bool) (x:Aa)
variable {l t cs zero t0:List Aa}{f:Nat->List Aa}{E:Nat->Aa}{X:Aa}{es:List (Aa×Aa)}
structure Gh where
 blk:Nat->Nat
 ep:Nat->Nat
 bo:Nat->Nat
 st:Nat->Nat
 cp:Nat->Nat
 fz:Nat->Prop
variable {g g':Gh}
def Gw(g:Gh)(id lo n:Nat)(v:Value):Prop := ∃(a:Addr) (cap:Nat),v=.slice (some a) n cap/\n<=cap/\(cap=0\/(a=⟨g.blk id,g.bo id+lo*g.st id,none⟩/\lo+cap=g.cp id))
inductive RV(g:Gh)(w:World):Aa->Value->Prop where
 |top (v:Value):RV g w .top v
 |int (k:IntKind) (n:Int):RV g w (.int k n) (.int k n)
 |bool (b:Bool):RV g w (.bool b) (.bool b)
 |str (s:List UInt8) (b:ByteArray) (h:b.data.toList=s):RV g w (.str s) (.string b)
 |agg (l:List Aa) (a:Array Value) (hn:a.size=l.length) (h:∀(i:Nat) (x:Aa) (v:Value),l[i]?=some x->a[i]?=some v->RV g w x v):RV g w (.agg l) (.agg a)
 |tup (l:List Aa) (a:Array Value) (hn:a.size=l.length) (h:∀(i:Nat) (x:Aa) (v:Value),l[i]?=some x->a[i]?=some v->RV g w x v):RV g w (.tup l) (.tuple a)
 |nils:RV g w .nils (.slice none 0 0)
 |slc0 (st:Nat) (f:Nat->List Aa) (a:Option Addr) (cap:Nat):RV g w (.slc st 0 f) (.slice a 0 cap)
 |slc (st n:Nat) (f:Nat->List Aa) (b off cap:Nat) (vals:Nat->Nat->Value) (hz:g.fz b) (aG:n<=cap)
   (hl:∀i,i<n->(f i).length=st)
   (hc:∀i j,i<n->j<st->w.cell? ⟨b,off+i*st+j,none⟩=some (vals i j))
   (h1:∀i j,i<n->j<st->(vals i j).oneCell'=true)
   (hr:∀(i j:Nat) (x:Aa),i<n->(f i)[j]?=some x->RV g w x (vals i j)):RV g w (.slc st n f) (.slice (some ⟨b,off,none⟩) n cap)
 |vec (id ep lo n:Nat) (v:Value) (h1:v.oneCell'=true) (he:ep<=g.ep id) (h:ep=g.ep id->Gw g id lo n v):RV g w (.vec id ep lo n) v
 |ptr (id ep off:Nat) (v:Value) (h1:v.oneCell'=true) (he:ep<=g.ep id) (h:ep=g.ep id->v=.pointer (some ⟨g.blk id,off,none⟩)):RV g w (.ptr id ep off) v
 |eptr (id ep i off:Nat) (v:Value) (h1:v.oneCell'=true) (he:ep<=g.ep id) (h:ep=g.ep id->v=.pointer (some ⟨g.blk id,g.bo id+i*g.st id+off,none⟩)):RV g w (.eptr id ep i off) v
 |cptr (f:Nat->Aa) (lim off b base:Nat) (vals:Nat->Value) (hz:g.fz b)
   (hc:∀j,j<lim->w.cell? ⟨b,base+j,none⟩=some (vals j)) (hr:∀j,j<lim->RV g w (f j) (vals j)):RV g w (.cptr f lim off) (.pointer (some ⟨b,base+off,none⟩))
 |nilp:RV g w .nilp (.pointer none)
 |fn (f:FuncId) (nb:Nat) (caps:List Aa) (a:Array Value) (hn:a.size=caps.length) (h:∀(i:Nat) (x:Aa) (v:Value),caps[i]?=some x->a[i]?=some v->RV g w x v):RV g w (.fn f nb caps) (.func (.func f) (a.toList.take nb).toArray (a.toList.drop nb).toArray)
 |nilfn:RV g w .nilfn .nilFunc
 |mp (id ep:Nat) (v:Value) (h1:v.oneCell'=true) (he:ep<=g.ep id) (h:ep=g.ep id->v=.map (some (g.blk id))):RV g w (.mp id ep) v
 |nilmp:RV g w .nilmp (.map none)
 |cnd (c:Bool) (x:Aa) (v:Value) (h:c=true->RV g w x v) (h0:c=false->v=undef):RV g w (.cnd c x) v
structure GLe(g:Gh)(w:World)(g':Gh)(w':World):Prop where
 fz:∀b,g.fz b->g'.fz b/\w'.heap[b]?=w.heap[b]?
 ep:∀i,g.ep i<=g'.ep i
 same:∀i,g'.ep i=g.ep i->g'.blk i=g.blk i/\g'.bo i=g.bo i/\g'.st i=g.st i/\g'.cp i=g.cp i
theorem GLe.refl(g:Gh)(w:World):GLe g w g w:=⟨fun _ h=>⟨h,rfl⟩,fun _=>AA _,fun _ _=>⟨rfl,rfl,rfl,rfl⟩⟩
theorem GLe.trans{g g' g'':Gh}{w w' w'':World}(h:GLe g w g' w')(k:GLe g' w' g'' w''):GLe g w g'' w'' where
 fz b hb:=⟨(k.fz b (h.fz b hb).1).1,(k.fz b (h.fz b hb).1).2.trans (h.fz b hb).2⟩
 ep i:=AU (h.ep i) (k.ep i)
 same i he:=by have h1:=h.ep i;have h2:=k.ep i;obtain⟨a,b,c,d⟩:=h.same i (by omega);obtain⟨a',b',c',d'⟩:=k.same i (by omega);exact⟨a'.trans a,b'.trans b,c'.trans c,d'.trans d⟩
theorem Tm{a:Addr}(h:w'.heap[a.block]?=w.heap[a.block]?):w'.cell? a=w.cell? a:=by simp only[World.cell?,h]
theorem RV.mono(aC:GLe g w g' w'){a:Aa}(h:RV g w a v):RV g' w' a v:=by
 induction h with
 |top v=>exact .top v
 |int k n=>exact .int k n
 |bool b=>exact .bool b
 |str s b h=>exact .str s b h
 |agg l a hn _ ih=>exact .agg l a hn ih
 |tup l a hn _ ih=>exact .tup l a hn ih
 |nils=>exact .nils
 |slc0 st f a cap=>exact .slc0 st f a cap
 |slc st n f b off cap vals hz aG hl hc h1 _ ih =>exact .slc st n f b off cap vals (aC.fz b hz).1 aG hl (fun i j hi hj=>(Tm (aC.fz b hz).2).trans (hc i j hi hj)) h1 ih
 |vec id ep lo n v hv he h =>refine .vec id ep lo n v hv (AU he (aC.ep id)) fun e=>?_;have h1:=aC.ep id;obtain⟨a,o,b,c⟩:=aC.same id (by omega);obtain⟨ad,cap,h2,h3,h4⟩:=h (by omega);exact⟨ad,cap,h2,h3,by rw[a,o,b,c];exact h4⟩
 |ptr id ep off v hv he h =>refine .ptr id ep off v hv (AU he (aC.ep id)) fun e=>?_;have h1:=aC.ep id;obtain⟨a,o,b,c⟩:=aC.same id (by omega);rw[a];exact h (by omega)
 |eptr id ep i off v hv he h =>refine .eptr id ep i off v hv (AU he (aC.ep id)) fun e=>?_;have h1:=aC.ep id;obtain⟨a,o,b,c⟩:=aC.same id (by omega);rw[a,o,b];exact h (by omega)
 |cptr f lim off b base vals hz hc _ ih =>exact .cptr f lim off b base vals (aC.fz b hz).1 (fun j hj=>(Tm (aC.fz b hz).2).trans (hc j hj)) ih
 |nilp=>exact .nilp
 |fn f nb caps a hn _ ih=>exact .fn f nb caps a hn ih
 |nilfn=>exact .nilfn
 |mp id ep v hv he h =>refine .mp id ep v hv (AU he (aC.ep id)) fun e=>?_;have h1:=aC.ep id;obtain⟨a,o,b,c⟩:=aC.same id (by omega);rw[a];exact h (by omega)
 |nilmp=>exact .nilmp
 |cnd c x v _ h0 ih=>exact .cnd c x v ih h0
def RVs(g:Gh)(w:World)(l:List Aa)(a:List Value):Prop:=a.length=l.length/\∀(i:Nat) (x:Aa) (v:Value),l[i]?=some x->a[i]?=some v->RV g w x v
theorem RVs.mono{g g':Gh}{w w':World}(aC:GLe g w g' w'){l:List Aa}{a:List Value}(h:RVs g w l a):RVs g' w' l a := ⟨h.1,fun i x v hx hv=>(h.2 i x v hx hv).mono aC⟩
theorem RVs.nil(g:Gh)(w:World):RVs g w [] []:=⟨rfl,fun i x v hx _=>by simp at hx⟩
theorem RVs.cons{x:Aa}{a:List Value}(h:RV g w x v)(t:RVs g w l a):RVs g w (x :: l) (v :: a):=by
 refine⟨by simp[t.1],fun i y u hy hu=>?_⟩;cases i with
 |zero=>simp at hy hu;subst hy;subst hu;exact h
 |succ i=>exact t.2 i y u (by simpa using hy) (by simpa using hu)
theorem RVs.append{l':List Aa}{a a':List Value}(h:RVs g w l a)(t:RVs g w l' a'):RVs g w (l++l') (a++a'):=by
 refine⟨by simp[h.1,t.1],fun i y u hy hu=>?_⟩;by_cases hi:i<l.length
 ·rw[E9 hi]at hy;rw[E9 (by rw[h.1];exact hi)]at hu;exact h.2 i y u hy hu
 ·rw[Ft (by omega)]at hy;rw[Ft (by rw[h.1];omega),h.1]at hu;exact t.2 _ y u hy hu
theorem RVs.set{a:List Value}(h:RVs g w l a)(i:Nat){x:Aa}(hx:RV g w x v):RVs g w (l.set i x) (a.set i v):=by
 refine⟨by simp[h.1],fun j y u hy hu=>?_⟩;rw[DP]at hy hu;by_cases e:i=j
 ·subst e;simp only[AX]at hy hu;split at hy
  ·split at hu;·simp at hy hu;subst hy;subst hu;exact hx
   ·simp at hu
  ·simp at hy
 ·simp only[e,CG]at hy hu;exact h.2 j y u hy hu
theorem RVs.getD{g:Gh}{w:World}{l:List Aa}{a:Array Value}(h:RVs g w l a.toList)(i:Nat):RV g w (l.getD i .top) (a.getD i undef):=by
 by_cases hi:i<l.length
 ·have h1:l[i]?=some l[i]:=AF hi;have hs:i<a.toList.length:=by rw[h.1];exact hi
  have h2:a.toList[i]?=some a.toList[i]:=AF hs;have:=h.2 i _ _ h1 h2;have e1:l.getD i .top=l[i]:=by simp[List.getD,h1]
  have e2:a.getD i undef=a.toList[i]:=by
   have:i<a.size:=by simpa using hs
   simp[Array.getD,this]
  rw[e1,e2];exact this
 ·have e1:l.getD i .top=.top:=by simp[List.getD,Ls (Nat.le_of_not_lt hi)]
  rw[e1];exact .top _
inductive Ad where
 |gone (ep:Nat)
 |box (ep:Nat) (cs:List Aa)
 |vec (ep st n:Nat) (f:Nat->List Aa)
 |dfr (ep:Nat)
 |amap (ep:Nat) (es:List (Aa×Aa))
 |miter (ep:Nat) (m:Option (Nat×Nat×Nat)) (seen:List Nat)
variable {o':Ad}
def Ad.owned:Ad->Bool
 |.gone _=>false
 |_=>true
def Ad.ep:Ad->Nat
 |.gone e=>e
 |.box e _=>e
 |.vec e _ _ _=>e
 |.dfr e=>e
 |.amap e _=>e
 |.miter e _ _=>e
abbrev Aq:=Nat->Ad
variable {h h':Aq}
def hset(h:Aq)(i:Nat)(o:Ad):Aq:=fun j=>if j=i then o else h j
def OR(g:Gh)(w:World)(i:Nat):Ad->Prop
 |.gone _=>True
 |.box _ cs=>∃(arr:Array Value) (ty:TypeId),w.heap[g.blk i]?=some (.cells arr ty (0,0))/\RVs g w cs arr.toList
 |.vec _ st n f=>g.st i=st/\0<st/\n<=g.cp i/\∃(arr:Array Value) (ty:TypeId),w.heap[g.blk i]?=some (.cells arr ty (0,0))/\g.bo i+g.cp i*st<=arr.size /\
   ∀k,k<n->(f k).length=st/\∀(j:Nat) (x:Aa) (v:Value),(f k)[j]?=some x->arr[g.bo i+k*st+j]?=some v->v.oneCell'=true/\RV g w x v
 |.dfr _=>w.heap[g.blk i]?=some (.deferred (some []))
 |.amap _ es=>∃(arr:Array MapEntry),w.heap[g.blk i]?=some (.map arr es.length)/\arr.size=es.length /\
   ∀(k:Nat) (e:Aa×Aa) (m:MapEntry),es[k]?=some e->arr[k]?=some m->RV g w e.1 m.key/\RV g w e.2 m.val/\m.born=k
 |.miter _ none _=>w.heap[g.blk i]?=some (.mapIter none 0 #[] 0)
 |.miter _ (some (M,eM,n)) seen=>eM<=g.ep M/\∃(bM:Nat),(eM=g.ep M->bM=g.blk M)/\w.heap[g.blk i]?=some (.mapIter (some bM) n seen.toArray n)
structure HR(E:Nat->Aa)(g:Gh)(h:Aq)(w:World):Prop where
 obj:∀(i:Nat),OR g w i (h i)
 ep:∀(i:Nat),g.ep i=(h i).ep
 inj:∀(i j:Nat),(h i).owned=true->(h j).owned=true->g.blk i=g.blk j->i=j
 sep:∀(i:Nat),(h i).owned=true->¬g.fz (g.blk i)
 fzb:∀b,g.fz b->b<w.heap.size
 glob:∀i,RV g w (E i) (.pointer (some ⟨i,0,none⟩))
theorem OR.lt{o:Ad}(h:OR g w i o)(ho:o.owned=true):g.blk i<w.heap.size:=by
 cases o with
 |gone ep=>cases ho
 |box ep cs=>obtain⟨arr,ty,hb,_⟩:=h;exact(Gt.1 hb).1
 |vec ep st n f=>obtain⟨_,_,_,arr,ty,hb,_⟩:=h;exact(Gt.1 hb).1
 |dfr ep=>exact(Gt.1 h).1
 |amap ep es=>obtain⟨arr,hb,_⟩:=h;exact(Gt.1 hb).1
 |miter ep m seen =>
  cases m with
  |none=>exact(Gt.1 h).1
  |some m=>obtain⟨_,bM,_,hb⟩:=h;exact(Gt.1 hb).1
theorem OR.mono{g g':Gh}{w w':World}(aC:GLe g w g' w'){i:Nat}{o:Ad}(h:OR g w i o)(he:g'.ep i=g.ep i)(hb:o.owned=true->w'.heap[g.blk i]?=w.heap[g.blk i]?):OR g' w' i o:=by
 obtain⟨eb,eo,es,ec⟩:=aC.same i he;cases o with
 |gone ep=>trivial
 |box ep cs =>obtain⟨arr,ty,hh,hr⟩:=h;exact⟨arr,ty,by rw[eb,hb rfl];exact hh,hr.mono aC⟩
 |vec ep st n f =>
  obtain⟨e2,e3,e4,arr,ty,hh,hs,hr⟩:=h
  exact⟨es.trans e2,e3,by rw[ec];exact e4,arr,ty,by rw[eb,hb rfl];exact hh,by rw[ec,eo];exact hs,
   fun k hk=>⟨(hr k hk).1,fun j x v hx hv=>⟨((hr k hk).2 j x v hx (by rw[<-eo];exact hv)).1,((hr k hk).2 j x v hx (by rw[<-eo];exact hv)).2.mono aC⟩⟩⟩
 |dfr ep=>exact(by rw[eb,hb rfl];exact h:w'.heap[g'.blk i]?=some (.deferred (some [])))
 |amap ep es =>obtain⟨arr,hh,hs,hr⟩:=h;exact⟨arr,by rw[eb,hb rfl];exact hh,hs,fun k e m he hm=>⟨(hr k e m he hm).1.mono aC,(hr k e m he hm).2.1.mono aC,(hr k e m he hm).2.2⟩⟩
 |miter ep m seen =>
  cases m with
  |none=>exact(by rw[eb,hb rfl];exact h:w'.heap[g'.blk i]?=some (.mapIter none 0 #[] 0))
  |some m =>obtain⟨M,eM,n⟩:=m;obtain⟨hM,bM,eM',hh⟩:=h;have h1:=aC.ep M;refine⟨by omega,bM,fun e=>?_,by rw[eb,hb rfl];exact hh⟩;rw[eM' (by omega)];exact((aC.same M (by omega)).1).symm
structure Stp(g:Gh)(h:Aq)(w:World)(g':Gh)(h':Aq)(w':World):Prop where
 le:GLe g w g' w'
 os:w'.os=w.os
 tape:w'.tape=w.tape
 output:w'.output=w.output
 size:w.heap.size<=w'.heap.size
 keep:∀b,b<w.heap.size->(∀(i:Nat),(h i).owned=true->g.blk i≠b)->w'.heap[b]?=w.heap[b]?
 own:∀(i:Nat),(h' i).owned=true->(∃(j:Nat),(h j).owned=true/\g.blk j=g'.blk i)\/w.heap.size<=g'.blk i
 fzn:∀b,g'.fz b->g.fz b\/(∃(j:Nat),(h j).owned=true/\g.blk j=b)\/w.heap.size<=b
 drawn:w.drawn<=w'.drawn
theorem Stp.refl(g:Gh)(h:Aq)(w:World):Stp g h w g h w := ⟨.refl g w,rfl,rfl,rfl,AA _,fun _ _ _=>rfl,fun i ho=>.inl ⟨i,ho,rfl⟩,fun _ h=>.inl h,AA _⟩
theorem Stp.trans{g g' g'':Gh}{h h' cP:Aq}{w w' w'':World}(a:Stp g h w g' h' w')(b:Stp g' h' w' g'' cP w''):Stp g h w g'' cP w'' where
 le:=a.le.trans b.le
 os:=b.os.trans a.os
 tape:=b.tape.trans a.tape
 output:=b.output.trans a.output
 drawn:=AU a.drawn b.drawn
 size:=AU a.size b.size
 keep x hx hn:=by
  rw[b.keep x (Gi hx a.size),a.keep x hx hn];intro i ho e;rcases a.own i ho with ⟨j,hj,e'⟩|hlt
  ·exact hn j hj (e'.trans e)
  ·omega
 own i ho:=by
  rcases b.own i ho with ⟨j,hj,e⟩|hlt
  ·rcases a.own j hj with ⟨j',aX,e'⟩|hlt';·exact .inl ⟨j',aX,e'.trans e⟩
   ·exact .inr (e▸hlt')
  ·exact .inr (AU a.size hlt)
 fzn x hx:=by
  rcases b.fzn x hx with h1|⟨j,hj,e⟩|h3
  ·exact a.fzn x h1
  ·rcases a.own j hj with ⟨j',aX,e'⟩|hlt';·exact .inr (.inl ⟨j',aX,e'.trans e⟩)
   ·exact .inr (.inr (e▸hlt'))
  ·exact .inr (.inr (AU a.size h3))
theorem HR.upd(H:HR E g h w)(aC:GLe g w g' w')(bK:∀j,j≠i->g'.ep j=g.ep j) (br:g'.ep i=o'.ep)(bU:∀b,b<w.heap.size->((h i).owned=true->b≠g.blk i)->w'.heap[b]?=w.heap[b]?) (cQ:w.heap.size<=w'.heap.size)(dj:OR g' w' i o') (aN:o'.owned=true->((h i).owned=true/\g'.blk i=g.blk i)\/w.heap.size<=g'.blk i)(bL:o'.owned=true->¬g'.fz (g'.blk i)) (fh:∀b,g'.fz b->g.fz b\/(b=g.blk i/\(h i).owned=true)\/w.heap.size<=b) (kz:∀b,g'.fz b->b<w'.heap.size)(gB:w'.os=w.os) (cR:w'.tape=w.tape) (hout:w'.output=w.output) (gC:w.drawn<=w'.drawn:=by exact AA _) :
  HR E g' (hset h i o') w'/\Stp g h w g' (hset h i o') w':=by
 have other:∀(j:Nat),j≠i->(h j).owned=true->g'.blk j=g.blk j/\w'.heap[g.blk j]?=w.heap[g.blk j]?/\g.blk j<w.heap.size:=by intro j hj ho;have hO:=H.obj j;exact⟨(aC.same j (bK j hj)).1,bU _ (hO.lt ho) (fun ow e=>hj (H.inj j i ho ow e)),hO.lt ho⟩
 have at_i:hset h i o' i=o':=by simp[hset]
 have at_j:∀j,j≠i->hset h i o' j=h j:=fun j hj=>by simp[hset,hj]
 refine⟨⟨?_,?_,?_,?_,kz,fun i=>(H.glob i).mono aC⟩,⟨aC,gB,cR,hout,cQ,?_,?_,?_,gC⟩⟩
 ·intro j;by_cases e:j=i
  ·subst e;rw[at_i];exact dj
  ·rw[at_j j e];exact(H.obj j).mono aC (bK j e) (fun ho=>(other j e ho).2.1)
 ·intro j;by_cases e:j=i
  ·subst e;rw[at_i];exact br
  ·rw[at_j j e,bK j e];exact H.ep j
 ·intro j k op oq e;by_cases ej:j=i
  ·by_cases ek:k=i;·rw[ej,ek]
   ·subst ej;rw[at_i]at op;rw[at_j k ek]at oq;obtain⟨hb,_,hlt⟩:=other k ek oq;rw[hb]at e;rcases aN op with ⟨ow,e2⟩|hge
    ·exact(ek (H.inj k j oq ow (by rw[<-e,e2]))).elim
    ·omega
  ·by_cases ek:k=i
   ·subst ek;rw[at_i]at oq;rw[at_j j ej]at op;obtain⟨hb,_,hlt⟩:=other j ej op;rw[hb]at e;rcases aN oq with ⟨ow,e2⟩|hge
    ·exact(ej (H.inj j k op ow (by rw[e,e2]))).elim
    ·omega
   ·rw[at_j j ej]at op;rw[at_j k ek]at oq;rw[(other j ej op).1,(other k ek oq).1]at e;exact H.inj j k op oq e
 ·intro j op;by_cases e:j=i
  ·subst e;rw[at_i]at op;exact bL op
  ·rw[at_j j e]at op;obtain⟨hb,_,hlt⟩:=other j e op;rw[hb];intro hf;rcases fh _ hf with h1|⟨h2,ow⟩|h3
   ·exact H.sep j op h1
   ·exact e (H.inj j i op ow h2)
   ·omega
 ·intro b hb hn;exact bU b hb (fun ow e=>hn i ow e.symm)
 ·intro j op;by_cases e:j=i
  ·subst e;rw[at_i]at op;rcases aN op with ⟨ow,e2⟩|hge
   ·exact .inl ⟨j,ow,e2.symm⟩
   ·exact .inr hge
  ·rw[at_j j e]at op;exact .inl ⟨j,op,(other j e op).1.symm⟩
 ·intro b hb;rcases fh b hb with h1|⟨h2,ow⟩|h3
  ·exact .inl h1
  ·exact .inr (.inl ⟨i,ow,h2.symm⟩)
  ·exact .inr (.inr h3)
theorem HR.heap(H:HR E g h w)(he:w'.heap=w.heap)(gB:w'.os=w.os)(cR:w'.tape=w.tape)(hout:w'.output=w.output)(gC:w.drawn<=w'.drawn:=by simp):HR E g h w'/\Stp g h w g h w':=by have aC:GLe g w g w':=⟨fun b hb=>⟨hb,by rw[he]⟩,fun _=>AA _,fun _ _=>⟨rfl,rfl,rfl,rfl⟩⟩;exact⟨⟨fun i=>(H.obj i).mono aC rfl (fun _=>by rw[he]),H.ep,H.inj,H.sep,fun b hb=>by rw[he];exact H.fzb b hb,fun i=>(H.glob i).mono aC⟩,⟨aC,gB,cR,hout,by rw[he];exact AA _,fun b _ _=>by rw[he],fun i ho=>.inl ⟨i,ho,rfl⟩,fun _ h=>.inl h,gC⟩⟩
def OSub(o o':Ad):Prop:=o'=.gone o.ep\/o'=o\/∃ep st n f f',o=.vec ep st n f/\o'=.vec ep st n f'/\∀k,k<n->f' k=f k
theorem OSub.refl(o:Ad):OSub o o:=.inr (.inl rfl)
theorem OSub.owned{o:Ad}(h:OSub o o')(ho:o'.owned=true):o.owned=true:=by
 rcases h with rfl|rfl|⟨ep,st,n,f,f',rfl,rfl,_⟩
 ·cases ho
 ·exact ho
 ·rfl
theorem HR.sub(H:HR E g h w)(s:∀i,OSub (h i) (h' i)):HR E g h' w:=by
 refine⟨fun i=>?_,fun i=>?_,fun i j hi hj e=>H.inj i j ((s i).owned hi) ((s j).owned hj) e,fun i hi=>H.sep i ((s i).owned hi),H.fzb,H.glob⟩
 ·have hO:=H.obj i;rcases s i with e|e|⟨ep,st,n,f,f',e,e',hf⟩
  ·rw[e];trivial
  ·rw[e];exact hO
  ·rw[e'] ;rw[e]at hO;obtain⟨e2,e3,e4,arr,ty,hh,hs,hr⟩:=hO;exact⟨e2,e3,e4,arr,ty,hh,hs,fun k hk=>by rw[hf k hk];exact hr k hk⟩
 ·rw[H.ep i];rcases s i with e|e|⟨ep,st,n,f,f',e,e',hf⟩
  ·rw[e];rfl
  ·rw[e]
  ·rw[e,e'];rfl
theorem Stp.sub{cP:Aq}(a:Stp g h w g' h' w')(s:∀i,OSub (h' i) (cP i)):Stp g h w g' cP w' := ⟨a.le,a.os,a.tape,a.output,a.size,a.keep,fun i hi=>a.own i ((s i).owned hi),a.fzn,a.drawn⟩
structure Au where
 t:List Aa
 h:Aq
 ds:List (Nat×Nat)
variable {S:Au}
structure SR(E:Nat->Aa)(g:Gh)(S:Au)(a:Act)(w:World):Prop where
 hr:HR E g S.h w
 tm:RVs g w S.t a.tmps.toList
 df:a.defers=S.ds.map fun D=>{ target:=.collected (g.blk D.1),args:=#[] }
 dk:∀D∈S.ds,S.h D.1=.dfr D.2
 dn:(S.ds.map (·.1)).Nodup
def FW(ρ:Option Nat):Fence:={ Fence.wide with round:=ρ }
theorem qzvj(ρ:Option Nat):¬((FW ρ).depth.isSome=true):=by simp[FW,Fence.wide]
theorem Tn{f:FuncId}{args:Array Value}{R:Ending->World->Prop}:CallsIn (FW ρ) n P f args w R↔Calls P f args w R:=by rw[<-callsIn_wide (n:=n)];exact Iff.rfl
def AWp(E:Nat->Aa)(ρ:Option Nat)(P:Program)(c:Code)(Q:Exit->Au->Prop)(S:Au):Prop :=
 ∀(g:Gh) (a:Act) (w:World),SR E g S a w ->
  c.wpIn (FW ρ) 0 P (fun e a' w'=>∃g' S',Q e S'/\SR E g' S' a' w'/\Stp g S.h w g' S'.h w') a w
def VSub(x x':Aa):Prop:=x'=.top\/x'=x\/∃st n f f',x=.slc st n f/\x'=.slc st n f'/\∀k,k<n->f' k=f k
theorem VSub.refl(x:Aa):VSub x x:=.inr (.inl rfl)
theorem RV.sub{x x':Aa}(h:RV g w x v)(s:VSub x x'):RV g w x' v:=by
 rcases s with rfl|rfl|⟨st,n,f,f',rfl,rfl,hf⟩
 ·exact .top v
 ·exact h
 ·cases h with
  |slc0=>exact .slc0 _ _ _ _
  |slc _ _ _ b off cap vals hz aG hl hc h1 hr =>exact .slc st n f' b off cap vals hz aG (fun i hi=>by rw[hf i hi];exact hl i hi) hc h1 (fun i j x hi hx=>hr i j x hi (by rw[<-hf i hi];exact hx))
def TSub:List Aa->List Aa->Prop
 |[],[]=>True
 |x :: l,x' :: l'=>VSub x x'/\TSub l l'
 |_,_=>False
theorem TSub.refl:∀l,TSub l l
 |[]=>trivial
 |x :: l=>⟨.refl x,TSub.refl l⟩
theorem RVs.sub{g:Gh}{w:World}:∀{l l':List Aa} {a:List Value},RVs g w l a->TSub l l'->RVs g w l' a
 |[],[],_,h,_=>h
 |x :: l,x' :: l',a,h,s=>by
  cases a with
  |nil=>have:=h.1;simp at this
  |cons v a =>have hv:RV g w x v:=h.2 0 x v rfl rfl;have ht:RVs g w l a:=⟨by have:=h.1;simpa using this,fun i y u hy hu=>h.2 (i+1) y u (by simpa using hy) (by simpa using hu)⟩;exact .cons (hv.sub s.1) (RVs.sub ht s.2)
 |[],_ :: _,_,_,s=>s.elim
 |_ :: _,[],_,_,s=>s.elim
structure Sub(S S':Au):Prop where
 t:TSub S.t S'.t
 h:∀i,OSub (S.h i) (S'.h i)
 ds:S'.ds=S.ds
 dk:∀D∈S.ds,S'.h D.1=.dfr D.2
theorem SR.sub{g:Gh}{S S':Au}{a:Act}{w:World}(h:SR E g S a w)(s:Sub S S'):SR E g S' a w := ⟨h.hr.sub s.h,h.tm.sub s.t,by rw[s.ds];exact h.df,by rw[s.ds];exact s.dk,by rw[s.ds];exact h.dn⟩
section rules
variable {Q:Exit->Au->Prop}
theorem AWp.mono{c:Code}{Q':Exit->Au->Prop}(h:AWp E ρ P c Q S)(hq:∀e S',Q e S'->Q' e S'):AWp E ρ P c Q' S :=
 fun g a w hs=>wpIn_mono (h g a w hs) fun _ _ _ ⟨g',S',q,r⟩=>⟨g',S',hq _ _ q,r⟩
theorem AWp.skip(h:Q .normal S):AWp E ρ P .skip Q S:=fun g a w hs=>wpIn_skip ⟨g,S,h,hs,.refl _ _ _⟩
theorem AWp.label{l:Nat}(h:Q .normal S):AWp E ρ P (.label l) Q S:=fun g a w hs=>wpIn_label ⟨g,S,h,hs,.refl _ _ _⟩
theorem AWp.exit(h:Q (.exit id) S):AWp E ρ P (.exit id) Q S:=fun g a w hs=>wpIn_exit ⟨g,S,h,hs,.refl _ _ _⟩
theorem AWp.ret(h:Q .ret S):AWp E ρ P .ret Q S:=fun g a w hs=>wpIn_ret ⟨g,S,h,hs,.refl _ _ _⟩
def Ay(K:Au->Prop)(Q:Exit->Au->Prop):Exit->Au->Prop
 |.normal,S=>K S
 |e,S=>Q e S
theorem AWp.seq{x y:Code}(h:AWp E ρ P x (Ay (AWp E ρ P y Q) Q) S):AWp E ρ P (.seq x y) Q S:=by
 intro g a w hs;refine wpIn_seq (wpIn_mono (h g a w hs) ?_);rintro e a' w' ⟨g',S',q,aH,st⟩;cases e with
 |normal=>exact wpIn_mono (q g' a' w' aH) fun e a'' w'' ⟨g'',S'',q',bb,st'⟩=>⟨g'',S'',q',bb,st.trans st'⟩
 |_=>exact⟨g',S',q,aH,st⟩
def ablk(id:Nat)(Q:Exit->Au->Prop):Exit->Au->Prop
 |.exit id',S=>if id'=id then Q .normal S else Q (.exit id') S
 |e,S=>Q e S
theorem AWp.block{c:Code}(h:AWp E ρ P c (ablk id Q) S):AWp E ρ P (.block id c) Q S:=by
 intro g a w hs;refine wpIn_block (wpIn_mono (h g a w hs) ?_);rintro e a' w' ⟨g',S',q,aH,st⟩;cases e with
 |exit id' =>
  simp only[Exit.inBlock];simp only[ablk]at q;split
  ·rename_i e;rw[Aj e]at q;exact⟨g',S',q,aH,st⟩
  ·rename_i e;rw[Ag e]at q;exact⟨g',S',q,aH,st⟩
 |_=>exact⟨g',S',q,aH,st⟩
theorem wzag{Q:Exit->Act->World->Prop}{c:Code}(h:c.wpIn F n P (fun e a w=>match e with | .goto _=>False | e=>Q e a w) a w):(Code.scope c).wpIn F n P Q a w:=by
 have s1:∀{b:Frame} {k:List Item} {cs:List Frame} {a:Act} {w:World},step P (lone (b.atR a (.code (.scope c) :: k)) cs w)=.next (lone (b.atR a (.code c :: .inScope c :: k)) cs w) :=
  step_lone_go (by simp[stepG,stepG.exec,Frame.atR])
 have s2:∀{b:Frame} {k:List Item} {cs:List Frame} {a:Act} {w:World},step P (lone (b.atR a (.inScope c :: k)) cs w)=.next (lone (b.atR a k) cs w) :=
  step_lone_go (by simp[stepG,stepG.exec,Frame.atR])
 intro b k cs fu hb hr;have h0:(lone (b.atR a (.code (.scope c) :: k)) cs w).fenced P F:=fenced_calm hb hr rfl;obtain⟨e,a₁,w₁,hq,bj⟩:=h b (.inScope c :: k) cs fu hb hr;cases e with
 |normal=>exact⟨.normal,a₁,w₁,hq,.head h0 s1 (StepsIn.trans bj (.one (fenced_calm hb hr rfl) s2))⟩
 |exit id =>
  have hx:exitTo id (.inScope c :: k)=exitTo id k:=by simp[exitTo]
  exact⟨.exit id,a₁,w₁,hq,fun k' hk=>.head h0 s1 (bj.1 k' (by rw[hx];exact hk)),
   fun bu hk=>let ⟨k₁,h1,h2⟩:=bj.2 bu (by rw[hx];exact hk);⟨k₁,h1,.head h0 s1 h2⟩⟩
 |goto l=>exact hq.elim
 |ret=>exact⟨_,a₁,w₁,hq,.of_steps (.one h0 s1) bj⟩
 |panic ch=>exact⟨_,a₁,w₁,hq,.of_steps (.one h0 s1) bj⟩
 |outgrown=>exact⟨_,a₁,w₁,hq,.of_steps (.one h0 s1) bj⟩
def O1(Q:Exit->Au->Prop):Exit->Au->Prop
 |.goto _,_=>False
 |e,S=>Q e S
theorem AWp.scope{c:Code}(h:AWp E ρ P c (O1 Q) S):AWp E ρ P (.scope c) Q S:=by intro g a w hs;refine wzag (wpIn_mono (h g a w hs) ?_);rintro e a' w' ⟨g',S',q,aH,st⟩;cases e<;>first|exact q.elim|exact⟨g',S',q,aH,st⟩
theorem qzxb{Q:Exit->Act->World->Prop}{c:Code}(I:α->Act->World->Prop)(Z:α->Nat)(x₀:α)(h₀:I x₀ a w)(round:∀x a w,I x a w->c.wpIn F n P (Exit.then (fun a' w'=>∃x',I x' a' w'/\Z x'<Z x) Q) a w):(Code.loop c).wpIn F n P Q a w:=by
 intro b k cs fu hb hr
 have key:∀j x a w,Z x=j->I x a w -> ∃e a' w',Q e a' w'/\ArrivesIn (Machine.fenced P F) P (lone (b.atR a (.code c :: .inLoop c :: k)) cs w) b k cs e a' w':=by
  intro j;induction j using Nat.strongRecOn with
  |_ j ih =>
   intro x a w hn hI;obtain⟨e,a₁,w₁,hq,bj⟩:=round x a w hI b (.inLoop c :: k) cs fu hb hr;cases e with
   |normal =>obtain⟨x₁,hI₁,hlt⟩:=hq;obtain⟨e₂,a₂,w₂,hq₂,bj₂⟩:=ih (Z x₁) (hn▸hlt) x₁ a₁ w₁ rfl hI₁;exact⟨e₂,a₂,w₂,hq₂,.of_steps (StepsIn.trans bj (.one (fenced_calm hb hr rfl) stepR_inLoop)) bj₂⟩
   |exit id=>exact⟨_,a₁,w₁,hq,.pass (x:=.inLoop c) rfl (fun _ _=>.inl (by simp)) bj⟩
   |goto l=>exact⟨_,a₁,w₁,hq,.pass (x:=.inLoop c) rfl (fun _ _=>.inl (by simp)) bj⟩
   |ret=>exact⟨_,a₁,w₁,hq,.pass (x:=.inLoop c) rfl (fun _ _=>.inl (by simp)) bj⟩
   |panic ch=>exact⟨_,a₁,w₁,hq,.pass (x:=.inLoop c) rfl (fun _ _=>.inl (by simp)) bj⟩
   |outgrown=>exact⟨_,a₁,w₁,hq,.pass (x:=.inLoop c) rfl (fun _ _=>.inl (by simp)) bj⟩
 obtain⟨e,a',w',hq,bj⟩:=key _ x₀ a w rfl h₀;exact⟨e,a',w',hq,.of_steps (.one (fenced_calm hb hr rfl) stepR_loop) bj⟩
end rules
def ATr(E:Nat->Aa)(P:Program)(f:FuncId)(args:List Aa)(h:Aq)(R:Aa->Aq->Prop):Prop :=
 ∀(g:Gh) (w:World) (vs:List Value),HR E g h w->RVs g w args vs ->
  Calls P f vs.toArray w fun e w'=>∃g' h' r v,R r h'/\e=.returned v/\RV g' w' r v/\HR E g' h' w'/\Stp g h w g' h' w'
theorem ATr.mono{P:Program}{f:FuncId}{args:List Aa}{h:Aq}{R R':Aa->Aq->Prop}(H:ATr E P f args h R)(hr:∀r h',R r h'->R' r h'):ATr E P f args h R' :=
 fun g w vs hh hv=>(H g w vs hh hv).mono fun _ _ ⟨g',h',r,v,q,rest⟩=>⟨g',h',r,v,hr _ _ q,rest⟩
inductive Ae where
 |t (n:Nat)
 |c (v:Aa)
 |g (i:Nat)
variable {x' y' i' k':Ae}{ar:Ae->Aa}{lo' aW:Option Ae}{parts:List (Nat×Nat×Ae)}
inductive Ao where
 |mv (x:Ae)
 |pick (c x y:Ae)
 |bin (op:BinOp) (bools:Bool) (x y:Ae)
 |not (x:Ae)
 |neg (x:Ae)
 |alloc (s:Nat) (zero:List Aa)
 |box (s:Nat) (x:Ae)
 |build (zero:List Aa) (parts:List (Nat×Nat×Ae))
 |bslice (s st len:Nat) (zero:List Aa) (parts:List (Nat×Nat×Ae))
 |load (agg:Bool) (sz:Nat) (x:Ae)
 |store (sz:Nat) (x y:Ae)
 |nilck (x:Ae)
 |conv (k:IntKind) (x:Ae)
 |mkfn (f:FuncId) (nb:Nat) (caps:List Ae)
 |s2b (s:Nat) (x:Ae)
 |b2s (x:Ae)
 |mks (s st bytes:Nat) (zero:List Aa) (x:Ae)
 |copy (st:Nat) (x y:Ae)
 |clear (zero:List Aa) (x:Ae)
 |fslice (s st len:Nat) (zero:List Aa) (parts:List (Nat×Nat×Ae))
 |slice (isStr:Bool) (st:Nat) (x:Ae) (lo hi:Option Ae)
 |faddr (off:Nat) (x:Ae)
 |iaddrS (st:Nat) (x i:Ae)
 |extract (i:Nat) (x:Ae)
 |sidx (x i:Ae)
 |len (isStr:Bool) (x:Ae)
 |append (s st bytes:Nat) (x y:Ae)
 |eqagg (sh:List Nat) (neg:Bool) (x y:Ae)
 |max (x y:Ae)
 |min (x y:Ae)
 |mkmap (s:Nat)
 |mlook (kd:Nat) (ok:Bool) (zero:Aa) (x k:Ae)
 |mupd (kd:Nat) (x k v:Ae)
 |mrange (s:Nat) (x:Ae)
 |mentry (x:Ae)
 |mnext (x:Ae)
 |isnil (ng:Bool) (x:Ae)
 |callf (f:FuncId) (args:List Ae)
 |callv (x:Ae) (args:List Ae)
structure Ak where
 dst:Option Tmp
 op:Ao
 guard:Option (Tmp×Bool)
variable {ao:Ak}
def Ad.plain:Ad->Prop
 |.dfr _=>False
 |_=>True
structure Req where
 ok:Prop
 rd:List Nat
 v:Aa
 out:Option (Nat×Ad)
def Req.fail:Req:=⟨False,[],.top,none⟩
def Req.val(v:Aa):Req:=⟨True,[],v,none⟩
def Req.when(p:Prop)(v:Aa):Req:=⟨p,[],v,none⟩
def inr:IntKind->Int->Prop
 |.i8,n=>-128<=n/\n<=127
 |.i16,n=>-32768<=n/\n<=32767
 |.i32,n=>-2147483648<=n/\n<=2147483647
 |.i64,n=>-9223372036854775808<=n/\n<=9223372036854775807
 |_,_=>True
def cut:IntKind->Int->Int
 |.u8,n=>n%256
 |.u16,n=>n%65536
 |.u32,n=>n%4294967296
 |.u64,n=>n%18446744073709551616
 |_,n=>n
theorem Gx(k:IntKind)(n:Int)(h:inr k n):k.wrap n=cut k n:=by cases k<;>simp only[inr]at h<;>simp only[IntKind.wrap,IntKind.bits,IntKind.signed,cut]<;>(try simp only[Td,Gam])<;>(try simp)<;>(try (split<;>omega))
def bitI(op:BinOp)(k:IntKind)(a b:Int):Int :=
 match op with
 |.and=>k.wrap (BitVec.ofInt k.bits a &&& BitVec.ofInt k.bits b).toNat
 |.or=>k.wrap (BitVec.ofInt k.bits a ||| BitVec.ofInt k.bits b).toNat
 |.xor=>k.wrap (BitVec.ofInt k.bits a ^^^ BitVec.ofInt k.bits b).toNat
 |_=>k.wrap (BitVec.ofInt k.bits a &&& ~~~BitVec.ofInt k.bits b).toNat
def Ju(op:BinOp)(k:IntKind)(a b:Int):Req :=
 match op with
 |.shl=>.when (0<=b/\inr k (a*2 ^ min b.toNat k.bits)) (.int k (cut k (a*2 ^ min b.toNat k.bits)))
 |.shr=>.when (0<=b) (.int k (a.fdiv (2 ^ min b.toNat k.bits)))
 |_=>.fail
@[simp] def Fv:BinOp->Bool
 |.shl | .shr=>true
 |_=>false
def Jv(op:BinOp)(k:IntKind)(a b:Int):Req :=
 match op with
 |.add=>.when (inr k (a+b)) (.int k (cut k (a+b)))
 |.sub=>.when (inr k (a-b)) (.int k (cut k (a-b)))
 |.mul=>.when (inr k (a*b)) (.int k (cut k (a*b)))
 |.quo=>.when (b≠0/\inr k (a.tdiv b)) (.int k (cut k (a.tdiv b)))
 |.rem=>.when (b≠0) (.int k (a.tmod b))
 |.and=>.val (.int k (bitI .and k a b))
 |.or=>.val (.int k (bitI .or k a b))
 |.xor=>.val (.int k (bitI .xor k a b))
 |.andNot=>.val (.int k (bitI .andNot k a b))
 |.eql=>.val (.bool (decide (a=b)))
 |.neq=>.val (.bool (!decide (a=b)))
 |.lss=>.val (.bool (decide (a<b)))
 |.leq=>.val (.bool (decide (a<=b)))
 |.gtr=>.val (.bool (decide (b<a)))
 |.geq=>.val (.bool (decide (b<=a)))
 |_=>.fail
def yzk(op:BinOp)(a b:List UInt8):Req :=
 match op with
 |.add=>.when (a.length+b.length<=4611686018427387904) (.str (a++b))
 |.eql=>.val (.bool (decide (a=b)))
 |.neq=>.val (.bool (!decide (a=b)))
 |.lss=>.val (.bool (Op.bytesLess a b))
 |.leq=>.val (.bool (Op.bytesLess a b||decide (a=b)))
 |.gtr=>.val (.bool (!(Op.bytesLess a b||decide (a=b))))
 |.geq=>.val (.bool (!Op.bytesLess a b))
 |_=>.fail
def Lm(op:BinOp)(bools:Bool)(x y:Aa):Req :=
 match x,y with
 |.int k a,.int k' b=>if Fv op=true then Ju op k a b else if k=k' then Jv op k a b else .fail
 |.str a,.str b=>yzk op a b
 |.bool a,.bool b=>match bools,op with
  |true,.eql=>.val (.bool (a==b))
  |true,.neq=>.val (.bool (!(a==b)))
  |_,_=>.fail
 |_,_=>.fail
def unc(c:Bool):Aa->Prop
 |.cnd d _=>c=true->d=true
 |_=>True
def unv:Aa->Aa
 |.cnd _ x=>x
 |x=>x
def D2(c:Bool)(x y:Aa):Req :=
 match unv x,unv y with
 |.bool p,.bool q=>.when (unc c x/\unc (!c) y) (.bool (bif c then p else q))
 |.int k p,.int k' q=>if k=k' then .when (unc c x/\unc (!c) y) (.int k (bif c then p else q)) else .when (unc c x/\unc (!c) y) (bif c then .int k p else .int k' q)
 |x',y'=>.when (unc c x/\unc (!c) y) (bif c then x' else y')
def Aa.one:Aa->Bool
 |.top | .agg _ | .tup _ | .cnd _ _=>false
 |_=>true
def Cw:Aa->Option (List Aa)
 |.agg l=>some l
 |.top | .tup _ | .cnd _ _=>none
 |x=>some [x]
def BD:List Aa->Bool
 |[]=>true
 |x :: l=>x.one&&BD l
def lay(l:List Aa)(off:Nat)(p:List Aa):List Aa:=l.take off++p++l.drop (off+p.length)
def D0(arg:Ae->Aa):List Aa->List (Nat×Nat×Ae)->Option (List Aa)
 |l,[]=>some l
 |l,(off,sz,x) :: r=>match Cw (arg x) with
  |none=>none
  |some p=>if p.length=sz/\off+sz<=l.length then D0 arg (lay l off p) r else none
def Gl(st:Nat):Nat->List Aa->List (List Aa)
 |0,_=>[]
 |n+1,l=>l.take st :: Gl st n (l.drop st)
def ldv(agg:Bool)(sz:Nat)(l:List Aa)(off:Nat):Aa:=if agg then .agg ((l.drop off).take sz) else l.getD off .top
def D3(agg:Bool)(sz:Nat)(x:Aa)(h:Aq):Req :=
 match x with
 |.ptr id ep off=>match h id with
  |.box ep' cs=>⟨ep=ep'/\off+sz<=cs.length/\(agg=false->sz=1),[id],ldv agg sz cs off,none⟩
  |_=>.fail
 |.eptr id ep i off=>match h id with
  |.vec ep' st n f=>⟨ep=ep'/\i<n/\off+sz<=st/\(agg=false->sz=1),[id],ldv agg sz (f i) off,none⟩
  |_=>.fail
 |.cptr f lim off=>.when (off+sz<=lim/\(agg=false->sz=1)) (if agg then .agg ((List.range sz).map fun j=>f (off+j)) else f off)
 |_=>.fail
def O2(sz:Nat)(x y:Aa)(h:Aq):Req :=
 match Cw y with
 |none=>.fail
 |some p=>match x with
  |.ptr id ep off=>match h id with
   |.box ep' cs=>⟨ep=ep'/\p.length=sz/\BD p=true/\off+sz<=cs.length,[id],.top,some (id,.box ep' (lay cs off p))⟩
   |_=>.fail
  |.eptr id ep i off=>match h id with
   |.vec ep' st n f=>⟨ep=ep'/\i<n/\p.length=sz/\BD p=true/\off+sz<=st,[id],.top,some (id,.vec ep' st n (fun k=>if k=i then lay (f i) off p else f k))⟩
   |_=>.fail
  |_=>.fail
structure Src where
 ok:Prop
 rd:List Nat
 st:Nat
 n:Nat
 f:Nat->List Aa
def Bo(st:Nat)(x:Aa)(h:Aq):Src :=
 match x with
 |.nils=>⟨True,[],st,0,fun _=>[]⟩
 |.slc st' n f=>⟨True,[],st',n,f⟩
 |.vec id ep lo n=>match h id with
  |.vec ep' st' m f=>⟨ep=ep'/\lo+n<=m,[id],st',n,fun k=>f (lo+k)⟩
  |_=>⟨False,[],0,0,fun _=>[]⟩
 |_=>⟨False,[],0,0,fun _=>[]⟩
def Fo(s st bytes:Nat)(x y:Aa)(h:Aq):Req :=
 let src:=Bo st y h
 match x with
 |.nils=>if src.n=0 then⟨src.ok/\src.st=st,src.rd,.nils,none⟩ else⟨(h s).plain/\src.ok/\src.st=st/\0<st/\0<src.n/\src.n*bytes<=140737488355328,s :: src.rd,.vec s ((h s).ep+1) 0 src.n,some (s,.vec ((h s).ep+1) st src.n src.f)⟩
 |.vec id ep lo n=>match h id with
  |.vec ep' st' m f=>⟨src.ok/\src.st=st/\ep=ep'/\st'=st/\lo+n<=m/\(n+src.n)*bytes<=140737488355328,id :: src.rd,.vec id (ep'+1) 0 (n+src.n),
    some (id,.vec (ep'+1) st (n+src.n) (fun k=>if k<n then f (lo+k) else src.f (k-n)))⟩
  |_=>.fail
 |_=>.fail
def Aa.kind:Aa->Nat
 |.bool _=>0
 |.int _ _=>1
 |.str _=>2
 |_=>3
def BP:List Aa->List Aa->Option Bool
 |[],[]=>some true
 |x :: l,y :: m=>match x,y,BP l m with
  |.int k a,.int k' b,some e=>if k=k' then some (decide (a=b)&&e) else none
  |.bool a,.bool b,some e=>some ((a==b)&&e)
  |.str a,.str b,some e=>some (decide (a=b)&&e)
  |_,_,_=>none
 |_,_=>none
def yzh:Aa->Option Int
 |.int _ n=>some n
 |_=>none
def CX(arg:Ae->Aa)(d:Int):Option Ae->Option Int
 |none=>some d
 |some a=>yzh (arg a)
def encK:List Nat->Nat
 |[]=>0
 |k :: l=>k+1+5*encK l
def Aa.kkind:Aa->Nat
 |.agg l=>4+encK (l.map Aa.kind)
 |x=>x.kind
def DT:Aa->Aa->Option Bool
 |.agg l,.agg m=>BP l m
 |.int k a,.int k' b=>if k=k' then some (decide (a=b)) else none
 |.bool a,.bool b=>some (a==b)
 |.str a,.str b=>some (decide (a=b))
 |_,_=>none
def Cm(k:Aa):List (Aa×Aa)->Nat->Option (Option (Nat×Aa))
 |[],_=>some none
 |e :: es,i=>match DT k e.1 with
  |some true=>some (some (i,e.2))
  |some false=>Cm k es (i+1)
  |none=>none
structure MSrc where
 ok:Prop
 rd:List Nat
 es:List (Aa×Aa)
def BS(x:Aa)(h:Aq):MSrc :=
 match x with
 |.nilmp=>⟨True,[],[]⟩
 |.mp id ep=>match h id with
  |.amap ep' es=>⟨ep=ep',[id],es⟩
  |_=>⟨False,[],[]⟩
 |_=>⟨False,[],[]⟩
def EB(kd:Nat)(cok:Bool)(zero:Aa)(x k:Aa)(h:Aq):Req :=
 match Cm k (BS x h).es 0 with
 |some (some (_,v))=>⟨(BS x h).ok/\k.kkind=kd,(BS x h).rd,if cok then .tup [v,.bool true] else v,none⟩
 |some none=>⟨(BS x h).ok/\k.kkind=kd,(BS x h).rd,if cok then .tup [zero,.bool false] else zero,none⟩
 |none=>.fail
def Cx(kd:Nat)(x k v:Aa)(h:Aq):Req :=
 match x with
 |.mp id ep=>match h id with
  |.amap ep' es=>match Cm k es 0 with
   |some (some (i,_))=>⟨ep=ep'/\k.kkind=kd,[id],.top,some (id,.amap ep' (es.set i (k,v)))⟩
   |some none=>⟨ep=ep'/\k.kkind=kd,[id],.top,some (id,.amap ep' (es++[(k,v)]))⟩
   |none=>.fail
  |_=>.fail
 |_=>.fail
def J8(s:Nat)(x:Aa)(h:Aq):Req :=
 match x with
 |.nilmp=>⟨(h s).plain,[s],.ptr s ((h s).ep+1) 0,some (s,.miter ((h s).ep+1) none [])⟩
 |.mp id ep=>match h id with
  |.amap ep' es=>⟨ep=ep'/\(h s).plain,[s,id],.ptr s ((h s).ep+1) 0,some (s,.miter ((h s).ep+1) (some (id,ep,es.length)) [])⟩
  |_=>.fail
 |_=>.fail
def HH(x:Aa)(h:Aq):Req :=
 match x with
 |.ptr id ep 0=>match h id with
  |.miter ep' (some (M,eM,n)) seen=>match h M with
   |.amap eM' es=>⟨ep=ep'/\eM=eM'/\es.length=n/\seen≠[]/\seen.getLastD 0<n,[id,M],.tup [(es.getD (seen.getLastD 0) (.top,.top)).1,(es.getD (seen.getLastD 0) (.top,.top)).2],none⟩
   |_=>.fail
  |_=>.fail
 |_=>.fail
def Cy(s:List UInt8)(j:Int):Int:=((s.getD j.toNat 0).toNat:Nat)
def De:Nat->(Nat->List Aa)->Option (List UInt8)
 |0,_=>some []
 |n+1,f=>match f 0 with
  |[.int .u8 m]=>(De n fun k=>f (k+1)).map (UInt8.ofNat m.toNat :: ·)
  |_=>none
def Ln(x:Aa)(h:Aq):Req :=
 match De (Bo 1 x h).n (Bo 1 x h).f with
 |some s=>⟨(Bo 1 x h).ok/\(Bo 1 x h).st=1,(Bo 1 x h).rd,.str s,none⟩
 |none=>.fail
def J9(st0:Nat)(x y:Aa)(h:Aq):Req :=
 match x with
 |.vec id ep lo n=>match h id with
  |.vec ep' st m f=>⟨(Bo st y h).ok/\(Bo st y h).st=st/\ep=ep'/\lo+n<=m/\st0=st,id :: (Bo st y h).rd,.int .i64 (min (Bo st y h).n n:Nat),
    some (id,.vec ep' st m (fun k=>if lo<=k/\k<lo+min (Bo st y h).n n then(Bo st y h).f (k-lo) else f k))⟩
  |_=>.fail
 |_=>.fail
def HI(zero:List Aa)(x:Aa)(h:Aq):Req :=
 match x with
 |.vec id ep lo n=>match h id with
  |.vec ep' st m f=>⟨ep=ep'/\lo+n<=m/\zero.length=st/\BD zero=true,[id],.tup [],some (id,.vec ep' st m (fun k=>if lo<=k/\k<lo+n then zero else f k))⟩
  |_=>.fail
 |_=>.fail
def Ao.req(o:Ao)(arg:Ae->Aa)(h:Aq):Req :=
 match o with
 |.mv x=>.val (arg x)
 |.pick c x y=>match arg c with
  |.bool b=>D2 b (arg x) (arg y)
  |_=>.fail
 |.bin op bools x y=>Lm op bools (arg x) (arg y)
 |.not x=>match arg x with
  |.bool b=>.val (.bool (!b))
  |_=>.fail
 |.neg x=>match arg x with
  |.int k n=>.when (inr k (0-n)) (.int k (cut k (0-n)))
  |_=>.fail
 |.alloc s zero=>⟨(h s).plain,[s],.ptr s ((h s).ep+1) 0,some (s,.box ((h s).ep+1) zero)⟩
 |.box s x=>match Cw (arg x) with
  |some l=>⟨(h s).plain,[s],.ptr s ((h s).ep+1) 0,some (s,.box ((h s).ep+1) l)⟩
  |none=>.fail
 |.build zero parts=>match D0 arg zero parts with
  |some l=>.val (.agg l)
  |none=>.fail
 |.bslice s st nn zero parts=>match D0 arg zero parts with
  |some l=>⟨(h s).plain/\l.length=nn*st/\0<st/\BD l=true,[s],.vec s ((h s).ep+1) 0 nn,some (s,.vec ((h s).ep+1) st nn (fun i=>(Gl st nn l).getD i []))⟩
  |none=>.fail
 |.load agg sz x=>D3 agg sz (arg x) h
 |.store sz x y=>O2 sz (arg x) (arg y) h
 |.nilck x=>match arg x with
  |.cptr f l o=>.val (.cptr f l o)
  |.ptr id ep o=>⟨ep=(h id).ep,[id],.ptr id ep o,none⟩
  |.fn f nb c=>.val (.fn f nb c)
  |_=>.fail
 |.conv k x=>match arg x with
  |.int _ n=>.when (inr k n) (.int k (cut k n))
  |_=>.fail
 |.mkfn f nb caps=>.val (.fn f nb (caps.map arg))
 |.slice isStr st x lo hi =>
  match CX arg 0 lo with
  |none=>.fail
  |some l=>match isStr,arg x with
   |false,.slc st' n f=>match CX arg n hi with
    |some r=>.when (st'=st/\0<=l/\l<=r/\r<=n) (.slc st (r-l).toNat (fun k=>f (l.toNat+k)))
    |none=>.fail
   |false,.vec id ep o n=>match CX arg n hi,h id with
    |some r,.vec ep' st' _ _=>⟨ep=ep'/\st'=st/\0<=l/\l<=r/\r<=n,[id],.vec id ep (o+l.toNat) (r-l).toNat,none⟩
    |_,_=>.fail
   |false,.nils=>match CX arg 0 hi with
    |some r=>.when (l=0/\r=0) .nils
    |none=>.fail
   |true,.str s=>match CX arg s.length hi with
    |some r=>.when (0<=l/\l<=r/\r<=s.length) (.str ((s.drop l.toNat).take (r-l).toNat))
    |none=>.fail
   |_,_=>.fail
 |.faddr off x=>match arg x with
  |.ptr id ep o=>⟨ep=(h id).ep,[id],.ptr id ep (o+off),none⟩
  |.cptr f l o=>.val (.cptr f l (o+off))
  |.eptr id ep i o=>⟨ep=(h id).ep,[id],.eptr id ep i (o+off),none⟩
  |_=>.fail
 |.iaddrS st x i=>match arg x,arg i with
  |.slc st' n f,.int _ j=>.when (st'=st/\0<=j/\j<n) (.cptr (fun c=>(f j.toNat).getD c .top) st 0)
  |.vec id ep lo n,.int _ j=>match h id with
   |.vec ep' st' _ _=>⟨ep=ep'/\st'=st/\0<=j/\j<n,[id],.eptr id ep (lo+j.toNat) 0,none⟩
   |_=>.fail
  |_,_=>.fail
 |.extract i x=>match arg x with
  |.tup l=>.when (i<l.length) (l.getD i .top)
  |_=>.fail
 |.sidx x i=>match arg x,arg i with
  |.str s,.int _ j=>.when (0<=j/\j<s.length) (.int .u8 (Cy s j))
  |_,_=>.fail
 |.len isStr x=>match isStr,arg x with
  |false,.slc _ n _=>.val (.int .i64 n)
  |false,.vec id ep _ n=>⟨ep=(h id).ep,[id],.int .i64 n,none⟩
  |false,.nils=>.val (.int .i64 0)
  |true,.str s=>.val (.int .i64 s.length)
  |_,_=>.fail
 |.append s st bytes x y=>Fo s st bytes (arg x) (arg y) h
 |.eqagg sh ng x y=>match arg x,arg y with
  |.agg l,.agg m=>match BP l m with
   |some e=>.when (l.map Aa.kind=sh) (.bool (if ng then !e else e))
   |none=>.fail
  |_,_=>.fail
 |.max x y=>match arg x,arg y with
  |.int k a,.int k' b=>if k=k' then .val (.int k (Max.max a b)) else .fail
  |_,_=>.fail
 |.min x y=>match arg x,arg y with
  |.int k a,.int k' b=>if k=k' then .val (.int k (Min.min a b)) else .fail
  |_,_=>.fail
 |.mkmap s=>⟨(h s).plain,[s],.mp s ((h s).ep+1),some (s,.amap ((h s).ep+1) [])⟩
 |.mlook kd ok zero x k=>EB kd ok zero (arg x) (arg k) h
 |.mupd kd x k v=>Cx kd (arg x) (arg k) (arg v) h
 |.mrange s x=>J8 s (arg x) h
 |.mentry x=>HH (arg x) h
 |.mnext _=>.fail
 |.isnil ng x=>match arg x with
  |.nils=>.val (.bool (!ng))
  |.slc _ n _=>.when (0<n) (.bool ng)
  |.vec id ep _ _=>⟨ep=(h id).ep,[id],.bool ng,none⟩
  |_=>.fail
 |.s2b s x=>match arg x with
  |.str b=>⟨(h s).plain,[s],.slc 1 b.length (fun k=>[.int .u8 (Cy b k)]),some (s,.gone ((h s).ep+1))⟩
  |_=>.fail
 |.b2s x=>Ln (arg x) h
 |.mks s st bytes zero x=>match arg x with
  |.int _ n=>⟨(h s).plain/\0<=n/\n*bytes<=140737488355328/\0<st/\zero.length=st/\BD zero=true,[s],.vec s ((h s).ep+1) 0 n.toNat,some (s,.vec ((h s).ep+1) st n.toNat (fun _=>zero))⟩
  |_=>.fail
 |.copy st0 x y=>J9 st0 (arg x) (arg y) h
 |.clear zero x=>HI zero (arg x) h
 |.fslice s st nn zero parts=>match D0 arg zero parts with
  |some l=>⟨(h s).plain/\l.length=nn*st/\0<st/\BD l=true,[s],.slc st nn (fun i=>(Gl st nn l).getD i []),some (s,h s)⟩
  |none=>.fail
 |.callf _ _=>.fail
 |.callv _ _=>.fail
def Ao.args:Ao->List Ae
 |.isnil _ x | .mrange _ x | .mentry x | .mnext x=>[x]
 |.mlook _ _ _ x k=>[x,k]
 |.mupd _ x k v=>[x,k,v]
 |.s2b _ x | .b2s x | .mks _ _ _ _ x | .clear _ x | .mv x | .not x | .neg x | .box _ x | .load _ _ x | .nilck x | .conv _ x | .faddr _ x | .extract _ x | .len _ x=>[x]
 |.pick c x y=>[c,x,y]
 |.bin _ _ x y | .store _ x y | .iaddrS _ x y | .append _ _ _ x y | .eqagg _ _ x y | .max x y | .min x y | .sidx x y | .copy _ x y=>[x,y]
 |.alloc _ _ | .mkmap _=>[]
 |.build _ ps | .bslice _ _ _ _ ps | .fslice _ _ _ _ ps=>ps.map fun p=>p.2.2
 |.mkfn _ _ l | .callf _ l=>l
 |.callv x l=>x :: l
 |.slice _ _ x lo hi=>x :: (lo.toList++hi.toList)
theorem Lv{ar ar':Ae->Aa}:∀(ps:List (Nat×Nat×Ae)) (l:List Aa),(∀p∈ps,ar p.2.2=ar' p.2.2)->D0 ar l ps=D0 ar' l ps
 |[],l,_=>rfl
 |(off,sz,x) :: ps,l,h=>by
  simp only[D0,h _ (AS ..)];have ih:=fun l=>Lv ps l (fun p hp=>h p (AR _ hp));cases Cw (ar' x) with
  |none=>rfl
  |some p=>simp only[ih]
theorem JA{ar':Ae->Aa}:∀(o:Ao),(∀y∈o.args,ar y=ar' y)->o.req ar h=o.req ar' h:=by
 intro o hh;cases o<;>simp only[Ao.args,AV,Oy,O0,forall_eq_or_imp,forall_eq,CE,forall_exists_index,and_imp,forall_apply_eq_imp_iff₂]at hh
 case slice isStr st x lo hi =>
  obtain⟨h1,h2⟩:=hh
  have cT:∀d,CX ar d lo=CX ar' d lo:=fun d=>by
   cases lo with
   |none=>rfl
   |some y=>simp only[CX];rw[h2 y (by simp)]
  have du:∀d,CX ar d hi=CX ar' d hi:=fun d=>by
   cases hi with
   |none=>rfl
   |some y=>simp only[CX];rw[h2 y (by simp)]
  simp only[Ao.req,h1,cT,du]
 case build zero ps=>simp only[Ao.req,Lv ps zero (fun p hp=>hh p hp)]
 case bslice s st nn zero ps=>simp only[Ao.req,Lv ps zero (fun p hp=>hh p hp)]
 case fslice s st nn zero ps=>simp only[Ao.req,Lv ps zero (fun p hp=>hh p hp)]
 case mkfn f l=>simp only[Ao.req];rw[H8 hh]
 all_goals first
  |(obtain⟨h1,h2,h3⟩:=hh;simp only[Ao.req,h1,h2,h3];done)
  |(obtain⟨h1,h2⟩:=hh;simp only[Ao.req,h1,h2];done)
  |(simp only[Ao.req,hh];done)
  |rfl
theorem JB{y:Aa}(hr:∀j∈(Bo st y h).rd,h' j=h j)(aB:(Bo st y h).ok):Bo st y h'=Bo st y h:=by
 unfold Bo at *;cases y<;>simp only at*<;> try rfl
 rename_i id ep lo n;cases hh:h id<;>simp only[hh]at hr aB |-<;>try (exact aB.elim)
 rw[hr id (by simp),hh]
theorem qzuo{y:Aa}(hr:∀j∈(BS y h).rd,h' j=h j)(aB:(BS y h).ok):BS y h'=BS y h:=by
 unfold BS at *;cases y<;>simp only at*<;> try rfl
 rename_i id ep;cases hh:h id<;>simp only[hh]at hr aB |-<;>try (exact aB.elim)
 rw[hr id (by simp),hh]
theorem JC(o:Ao)(aB:(o.req ar h).ok)(hr:∀j∈(o.req ar h).rd,h' j=h j):o.req ar h'=o.req ar h:=by
 cases o<;>(try rfl)
 case alloc s zero=>simp only[Ao.req]at hr |-;rw[hr s (by simp)]
 case box s x =>
  simp only[Ao.req]at hr |-;cases hp:Cw (ar x) with
  |none=>rfl
  |some l=>simp only[hp]at hr;rw[hr s (by simp)]
 case bslice s st nn zero ps =>
  simp only[Ao.req]at hr |-;cases hp:D0 ar zero ps with
  |none=>rfl
  |some l=>simp only[hp]at hr;rw[hr s (by simp)]
 case fslice s st nn zero ps =>
  simp only[Ao.req]at hr |-;cases hp:D0 ar zero ps with
  |none=>rfl
  |some l=>simp only[hp]at hr;rw[hr s (by simp)]
 case load agg sz x =>
  simp only[Ao.req,D3]at hr aB |-;cases hx:ar x<;>simp only[hx,Req.fail]at hr aB |-
  case ptr id ep off=>cases hh:h id<;>simp only[hh,Req.fail]at hr aB<;>first|exact aB.elim|(rw[hr id (by simp),hh])
  case eptr id ep i off=>cases hh:h id<;>simp only[hh,Req.fail]at hr aB<;>first|exact aB.elim|(rw[hr id (by simp),hh])
 case store sz x y =>
  simp only[Ao.req,O2]at hr aB |-;cases hp:Cw (ar y)<;>simp only[hp,Req.fail]at hr aB |-;cases hx:ar x<;>simp only[hx,Req.fail]at hr aB |-
  case ptr id ep off=>cases hh:h id<;>simp only[hh,Req.fail]at hr aB<;>first|exact aB.elim|(rw[hr id (by simp),hh])
  case eptr id ep i off=>cases hh:h id<;>simp only[hh,Req.fail]at hr aB<;>first|exact aB.elim|(rw[hr id (by simp),hh])
 case nilck x =>simp only[Ao.req]at hr aB |-;cases hx:ar x<;>simp only[hx,Req.fail]at hr aB |-;rw[hr _ (by simp)]
 case slice isStr st x lo hi =>simp only[Ao.req]at hr aB |-;cases hl:CX ar 0 lo<;>simp only[hl,Req.fail]at hr aB |-;cases isStr<;>cases hx:ar x<;>simp only[hx,Req.fail]at hr aB |-;rename_i id ep o n;cases hh:CX ar n hi<;>simp only[hh]at hr aB |-;cases aW:h id<;>simp only[aW]at hr aB |-<;>first|exact aB.elim|(rw[hr id (by simp),aW])
 case faddr off x =>simp only[Ao.req]at hr aB |-;cases hx:ar x<;>simp only[hx,Req.fail]at hr aB |-<;>rw[hr _ (by simp)]
 case iaddrS st x i =>simp only[Ao.req]at hr aB |-;cases hx:ar x<;>cases hi:ar i<;>simp only[hx,hi,Req.fail]at hr aB |-;rename_i id ep lo n k j;cases hh:h id<;>simp only[hh]at hr aB |-<;>first|exact aB.elim|(rw[hr id (by simp),hh])
 case len isStr x =>simp only[Ao.req]at hr aB |-;cases isStr<;>cases hx:ar x<;>simp only[hx,Req.fail]at hr aB |-;rw[hr _ (by simp)]
 case append s st bytes x y =>
  simp only[Ao.req,Fo]at hr aB |-;cases hx:ar x<;>simp only[hx,Req.fail]at hr aB |-
  case nils =>
   by_cases hn:(Bo st (ar y) h).n=0
   ·simp only[hn,AX]at hr aB;rw[JB hr aB.1];simp only[hn,AX]
   ·simp only[hn,CG]at hr aB;rw[JB (fun j hj=>hr j (by simp[hj])) aB.2.1,hr s (by simp)]
  case vec id ep lo n =>
   cases hh:h id<;>simp only[hh,Req.fail]at hr aB |-<;>try (exact aB.elim)
   rw[JB (fun j hj=>hr j (by simp[hj])) aB.1,hr id (by simp),hh]
 case isnil ng x =>simp only[Ao.req]at hr aB |-;cases hx:ar x<;>simp only[hx,Req.fail]at hr aB |-;rw[hr _ (by simp)]
 case mkmap s=>simp only[Ao.req]at hr |-;rw[hr s (by simp)]
 case mlook kd cok zero x k =>
  simp only[Ao.req,EB]at hr aB |-;cases hf:Cm (ar k) (BS (ar x) h).es 0 with
  |none=>simp only[hf,Req.fail]at aB
  |some r =>
   have bc:(BS (ar x) h).ok:=by cases r<;>simp only[hf]at aB<;>exact aB.1
   have bu:∀j∈(BS (ar x) h).rd,h' j=h j:=by cases r<;>simp only[hf]at hr<;>exact hr
   rw[qzuo bu bc,hf]
 case mupd kd x k v =>
  simp only[Ao.req,Cx]at hr aB |-;cases hx:ar x<;>simp only[hx,Req.fail]at hr aB |-;rename_i id ep;cases hh:h id<;>simp only[hh]at hr aB |-<;>try (exact aB.elim)
  rename_i ep' es;cases hf:Cm (ar k) es 0 with
  |none=>simp only[hf]at aB
  |some r=>cases r<;>simp only[hf]at hr |-<;>rw[hr id (by simp),hh]<;>simp only[hf]
 case s2b s x =>simp only[Ao.req]at hr |-;cases hx:ar x<;>simp only[hx,Req.fail]at hr |-;rw[hr s (by simp)]
 case mks s st bytes zero x =>simp only[Ao.req]at hr |-;cases hx:ar x<;>simp only[hx,Req.fail]at hr |-;rw[hr s (by simp)]
 case b2s x =>
  simp only[Ao.req,Ln]at hr aB |-;cases hb:De (Bo 1 (ar x) h).n (Bo 1 (ar x) h).f with
  |none=>simp only[hb,Req.fail]at aB
  |some s=>simp only[hb]at hr aB;rw[JB hr aB.1];simp only[hb]
 case copy st0 x y =>
  simp only[Ao.req,J9]at hr aB |-;cases hx:ar x<;>simp only[hx,Req.fail]at hr aB |-;rename_i id ep lo n;cases hh:h id<;>simp only[hh,Req.fail]at hr aB |-<;>try (exact aB.elim)
  rw[hr id (by simp),hh];simp only;rw[JB (fun j hj=>hr j (by simp[hj])) aB.1]
 case clear zero x =>
  simp only[Ao.req,HI]at hr aB |-;cases hx:ar x<;>simp only[hx,Req.fail]at hr aB |-;rename_i id ep lo n;cases hh:h id<;>simp only[hh,Req.fail]at hr aB |-<;>try (exact aB.elim)
  rw[hr id (by simp),hh]
 case mrange s x =>
  simp only[Ao.req,J8]at hr aB |-;cases hx:ar x<;>simp only[hx,Req.fail]at hr aB |-
  case nilmp=>rw[hr s (by simp)]
  case mp id ep =>
   cases hh:h id<;>simp only[hh]at hr aB |-<;>try (exact aB.elim)
   rw[hr id (by simp),hr s (by simp),hh]
 case mentry x =>
  simp only[Ao.req,HH]at hr aB |-;cases hx:ar x<;>simp only[hx,Req.fail]at hr aB |-;rename_i id ep off;cases off with
  |succ n=>rfl
  |zero =>
   cases hh:h id<;>simp only[hh]at hr aB |-<;>try (exact aB.elim)
   rename_i ep' m seen;cases m with
   |none=>exact aB.elim
   |some m =>
    obtain⟨M,eM,n⟩:=m;cases hM:h M<;>simp only[hM]at hr aB |-<;>try (exact aB.elim)
    rw[hr id (by simp),hh];simp only;rw[hr M (by simp),hM]
def Lw:Value->Aa->Bool
 |.int k n,.int k' n'=>k==k'&&n==n'
 |.bool a,.bool b=>a==b
 |.string s,.str l=>s.data.toList==l
 |.slice none 0 0,.nils=>true
 |.pointer none,.nilp=>true
 |.nilFunc,.nilfn=>true
 |.map none,.nilmp=>true
 |_,_=>false
def CH:List Value->List Aa->Bool
 |[],[]=>true
 |v :: l,x :: m=>Lw v x&&CH l m
 |_,_=>false
def JD:Value->Aa->Bool
 |.agg cs,.agg l=>CH cs.toList l
 |.tuple cs,.tup l=>CH cs.toList l
 |_,.top=>true
 |v,x=>Lw v x
def A7:Operand->Ae->Bool
 |.tmp n,.t m=>n==m
 |.const v,.c x=>JD v x
 |.global i,.g j=>i==j
 |.func f,.c (.fn f' 0 [])=>f==f'
 |_,_=>false
theorem Tp:∀{v:Value} {x:Aa},Lw v x=true->RV g w x v:=by
 intro v x h;unfold Lw at h;split at h
 ·simp only[AI,Bu]at h;obtain⟨rfl,rfl⟩:=h;exact .int _ _
 ·simp only[Bu]at h;subst h;exact .bool _
 ·simp only[Bu]at h;exact .str _ _ h
 ·exact .nils
 ·exact .nilp
 ·exact .nilfn
 ·exact .nilmp
 ·cases h
theorem DU{g:Gh}{w:World}:∀{l:List Value} {m:List Aa},CH l m=true->RVs g w m l
 |[],[],_=>.nil g w
 |v :: l,x :: m,h=>by simp only[CH,AI]at h;exact .cons (Tp h.1) (DU h.2)
 |[],_ :: _,h=>by cases h
 |_ :: _,[],h=>by cases h
theorem Tq{x:Aa}(h:JD v x=true):RV g w x v:=by
 unfold JD at h;split at h
 ·have:=DU (g:=g) (w:=w) h;exact .agg _ _ (by simpa using this.1) (fun i y u hy hu=>this.2 i y u hy (by simpa using hu))
 ·have:=DU (g:=g) (w:=w) h;exact .tup _ _ (by simpa using this.1) (fun i y u hy hu=>this.2 i y u hy (by simpa using hu))
 ·exact .top _
 ·exact Tp h
def Ah(E:Nat->Aa)(t:List Aa):Ae->Aa
 |.t n=>t.getD n .top
 |.c v=>v
 |.g i=>E i
theorem AY(H:HR E g h w)(ht:RVs g w t a.tmps.toList){y:Ae}(hx:A7 x y=true):RV g w (Ah E t y) (a.eval x):=by
 unfold A7 at hx;split at hx
 ·simp only[Bu]at hx;subst hx;exact ht.getD _
 ·exact Tq hx
 ·simp only[Bu]at hx;subst hx;exact H.glob _
 ·simp only[Bu]at hx;subst hx;exact .fn _ 0 [] #[] rfl (fun i y u hy _=>by simp at hy)
 ·cases hx
def CI:List Operand->List Ae->Bool
 |[],[]=>true
 |x :: l,y :: m=>A7 x y&&CI l m
 |_,_=>false
def Fw:Option Operand->Option Ae->Bool
 |none,none=>true
 |some x,some y=>A7 x y
 |_,_=>false
section checks
variable (P:Program)
def szOf(t:TypeId):Option Nat:=(P.info? t).map (·.size)
def byOf(t:TypeId):Option Nat:=(P.info? t).map (·.bytes)
def D4(t:TypeId):Option Bool:=(P.underlying t).map fun | .struct _ | .array _ _=>true | _=>false
def JE(s:TypeId)(f:Nat):Option (Nat×TypeId):=match P.underlying s with
 |some (.struct fs)=>fs[f]?.map fun x=>(x.offset,x.type)
 |_=>none
def Tr(t:TypeId):Option TypeId:=match P.underlying t with
 |some (.slice e)=>some e
 |_=>none
def D5(t:TypeId):Option (List Value):=match P.info? t with
 |some { zero:=some v,.. }=>some v.cells.toList
 |_=>none
def HJ(t:TypeId)(l:List Aa):Bool:=match D5 P t with
 |some vs=>CH vs l
 |none=>false
def HK(place:Nat->Option (Nat×Nat)):List (Nat×Operand)->List (Nat×Nat×Ae)->Bool
 |[],[]=>true
 |(i,x) :: l,(off,sz,y) :: m=>(match place i with | some (o,s)=>o==off&&s==sz | none=>false)&&A7 x y&&HK place l m
 |_,_=>false
def Gy:List Field->Option (List (Nat×Nat))
 |[]=>some []
 |f :: r=>match szOf P f.type,Gy r with
  |some n,some l=>some ((f.offset,n) :: l)
  |_,_=>none
def O3(t:TypeId)(zero:List Aa)(ps:List (Nat×Operand))(parts:List (Nat×Nat×Ae)):Bool :=
 HJ P t zero&&match P.underlying t with
  |some (.struct fs)=>(match Gy P fs.toList with | some l=>HK (fun i=>l[i]?) ps parts | none=>false)
  |some (.array _ e)=>(match szOf P e with | some st=>HK (fun i=>some (i*st,st)) ps parts | none=>false)
  |_=>false
def HL(z:List Value)(n:Nat):List Value:=(List.range n).map fun i=>z.getD (i%z.length) undef
def HM(t:TypeId)(n st nn:Nat)(zero:List Aa)(ps:List (Nat×Operand))(parts:List (Nat×Nat×Ae)):Bool :=
 n==nn&&decide (nn*st<=16777216)&&match P.underlying t with
  |some (.slice e)=>szOf P e==some st&&(match D5 P e with | some z=>CH (HL z (nn*st)) zero&&decide (0<z.length) | none=>false)&&HK (fun i=>some (i*st,st)) ps parts
  |_=>false
def CJ(rec:TypeId->Option (List Nat)):List Field->Nat->Option (List Nat)
 |[],_=>some []
 | f :: r, n => if f.offset = n ∧ f.name ≠ "_" then (match rec f.type with | some m => if szOf P f.type = some m.length ∧ 0 < m.length then (match CJ rec r (n + m.length) with | some l => some (m ++ l) | none => none) else none | none => none) else none
def eqFields:(fuel:Nat)->TypeId->Option (List Nat)
 |0,_=>none
 |d+1,t=>match P.underlying t with
  |some .bool=>some [0]
  |some (.int _)=>some [1]
  |some .string=>some [2]
  |some (.struct fs)=>if P.stoodInHeld t then none else CJ P (eqFields d) fs.toList 0
  |some (.array n e)=>match eqFields d e with
   |some l=>if szOf P e=some l.length/\0<l.length then some (List.replicate n l).flatten else none
   |none=>none
  |_=>none
def CK(t:TypeId):Option Nat:=match P.underlying t with
 |some .bool=>some 0
 |some (.int _)=>some 1
 |some .string=>some 2
 |some (.struct _) | some (.array _ _)=>match eqFields P 9 t with
  |some l=>if l.all (fun k=>Nat.blt k 4) then some (4+encK l) else none
  |none=>none
 |_=>none
def Lx(t:TypeId)(x:Aa):Bool:=match P.info? t with
 |some { zero:=some v,.. }=>JD v x
 |_=>false
def yzx(P:Program)(o:Op)(a:Ao):Bool :=
 match o,a with
 |.move x,.mv y | .assign x,.mv y=>A7 x y
 |.pick c x y,.pick c' x' y'=>A7 c c'&&A7 x x'&&A7 y y'
 |.binOp op t x y _,.bin op' bools x' y'=>op==op'&&A7 x x'&&A7 y y'&&(!bools||(match P.underlying t with | some .bool=>true | _=>false))
 |.unOp .not _ x,.not y=>A7 x y
 |.unOp .neg _ x,.neg y=>A7 x y
 |.alloc t,.alloc _ zero=>HJ P t zero
 |.box _ x,.box _ y=>A7 x y
 |.load t x,.load agg sz y=>D4 P t==some agg&&(!agg||szOf P t==some sz)&&A7 x y
 |.store t x y,.store sz x' y'=>szOf P t==some sz&&A7 x x'&&A7 y y'
 |.nilCheck x,.nilck y=>A7 x y
 |.fieldAddr s x f,.faddr off y=>(match JE P s f with | some (o,ft)=>o==off&&(match szOf P ft with | some n=>n != 0 | none=>false) | none=>false)&&A7 x y
 |.indexAddr t x i,.iaddrS st x' i'=>(match Tr P t with | some e=>szOf P e==some st | none=>false)&&A7 x x'&&A7 i i'
 |.extract x i,.extract j y=>i==j&&A7 x y
 |.index t x i,.sidx x' i'=>(match P.underlying t with | some .string=>true | _=>false)&&A7 x x'&&A7 i i'
 |.build t ps,.build zero parts=>O3 P t zero ps.toList parts
 |.buildSlice t n ps,.bslice _ st nn zero parts=>HM P t n st nn zero ps.toList parts
 |.convert src dst x,.conv k y=>(P.underlying src).isSome&&(match P.underlying dst with | some (.int k')=>k==k' | _=>false)&&A7 x y
 |.slice t x lo hi none,.slice isStr st x' lo' aW=>(match P.underlying t with | some .string=>isStr | some (.slice e)=>!isStr&&szOf P e==some st | _=>false)&&A7 x x'&&Fw lo lo'&&Fw hi aW
 |.call { callee:=.builtin .len,args,argTypes },.len isStr x'=>args.size==1&&argTypes.size==1&&(match args[0]? with | some x=>A7 x x' | none=>false)&&(match (argTypes[0]?).bind P.underlying with | some .string=>isStr | some (.slice _)=>!isStr | _=>false)
 | .call { callee:=.builtin .append,args,argTypes },.append _ st bytes x' y'=>(match args.toList,argTypes.toList with
   |[x,y],[tx,ty]=>tx==ty&&A7 x x'&&A7 y y'&&(match P.underlying tx with | some (.slice e)=>szOf P e==some st&&byOf P e==some bytes&&bytes != 0&&(match D5 P e with | some z=>z.length==st | none=>false) | _=>false)
   | _,_=>false)
 |.call { callee:=.builtin .max,args,.. },.max x' y'=>(match args.toList with | [x,y]=>A7 x x'&&A7 y y' | _=>false)
 |.call { callee:=.builtin .min,args,.. },.min x' y'=>(match args.toList with | [x,y]=>A7 x x'&&A7 y y' | _=>false)
 |.binOp .eql t x y _,.eqagg n false x' y'=>!P.eqGuardType P.depth t&&eqFields P 9 t==some n&&(match P.underlying t with | some (.struct _)=>true | _=>false)&&A7 x x'&&A7 y y'
 |.binOp .neq t x y _,.eqagg n true x' y'=>!P.eqGuardType P.depth t&&eqFields P 9 t==some n&&(match P.underlying t with | some (.struct _)=>true | _=>false)&&A7 x x'&&A7 y y'
 |.binOp .eql t x (.const (.slice none 0 0)) _,.isnil false x'=>A7 x x'&&(match P.underlying t with | some (.slice _)=>true | _=>false)
 |.binOp .neq t x (.const (.slice none 0 0)) _,.isnil true x'=>A7 x x'&&(match P.underlying t with | some (.slice _)=>true | _=>false)
 |.makeMap t none,.mkmap _=>(match P.underlying t with | some (.map _ _)=>true | _=>false)
 |.lookup t x k cok,.mlook kd cok' zero x' k'=>cok==cok'&&(match P.underlying t with | some (.map kt et)=>CK P kt==some kd&&Lx P et zero | _=>false)&&A7 x x'&&A7 k k'
 |.mapUpdate t m k v,.mupd kd m' k' v'=>(match P.underlying t with | some (.map kt _)=>CK P kt==some kd | _=>false)&&A7 m m'&&A7 k k'&&A7 v v'
 |.insert t m k v,.mupd kd m' k' v'=>(match P.underlying t with | some (.map kt _)=>CK P kt==some kd | _=>false)&&A7 m m'&&A7 k k'&&A7 v v'
 |.range t x,.mrange _ x'=>(match P.underlying t with | some (.map _ _)=>true | _=>false)&&A7 x x'
 |.entry x,.mentry x'=>A7 x x'
 |.makeFunc (.func f) first caps,.mkfn f' nb caps'=>f==f'&&first.size==nb&&CI (first.toList++caps.toList) caps'
 |.convert src dst x,.s2b _ x'=>(match P.underlying src,P.underlying dst with | some .string,some (.slice e)=>(match P.underlying e with | some (.int .u8)=>true | _=>false)&&szOf P e==some 1 | _,_=>false)&&A7 x x'
 |.convert src dst x,.b2s x'=>(match P.underlying src,P.underlying dst with | some (.slice e),some .string=>(match P.underlying e with | some (.int .u8)=>true | _=>false)&&szOf P e==some 1 | _,_=>false)&&A7 x x'
 |.makeSlice t x y,.mks _ st bytes zero x'=>A7 x x'&&A7 y x'&&(match P.underlying t with | some (.slice e)=>szOf P e==some st&&byOf P e==some bytes&&bytes != 0&&(match D5 P e with | some z=>CH z zero | none=>false) | _=>false)
 | .call { callee:=.builtin .copy,args,argTypes },.copy st0 x' y'=>(match args.toList,argTypes.toList with
   |[x,y],[tx,ty]=>A7 x x'&&A7 y y'&&(match P.underlying tx with | some (.slice e)=>szOf P e==some st0 | _=>false)
   | _,_=>false)
 | .call { callee:=.builtin .clear,args,argTypes },.clear zero x'=>(match args.toList,argTypes.toList with
   |[x],[tx]=>A7 x x'&&(match P.underlying tx with | some (.slice e)=>(match D5 P e with | some z=>CH z zero | none=>false) | _=>false)
   | _,_=>false)
 |.buildSlice t n ps,.fslice _ st nn zero parts=>HM P t n st nn zero ps.toList parts
 |_,_=>false
end checks
def putH(h:Aq)(o:Option (Nat×Ad)):Aq:=match o with
 |some (i,o)=>hset h i o
 |none=>h
def Ran(E:Nat->Aa)(P:Program)(s:Sem Next)(g:Gh)(h:Aq)(w:World)(r:Req):Prop :=
 ∃(n:Next) (v:Value) (w':World) (g':Gh),s.run P w=.ok n w'/\(n=.value v\/(n=.skip/\v=undef))/\RV g' w' r.v v /\
  HR E g' (putH h r.out) w'/\Stp g h w g' (putH h r.out) w'/\(r.out=none->w'=w/\g'=g)
section
theorem Ran.same{s:Sem Next}{x:Aa}(H:HR E g h w)(hr:s.run P w=.ok (.value v) w)(hv:RV g w x v):Ran E P s g h w ⟨p,rd,x,none⟩ := ⟨_,v,w,g,hr,.inl rfl,hv,H,.refl _ _ _,fun _=>⟨rfl,rfl⟩⟩
theorem Ran.new{s:Sem Next}{x:Aa}{o:Ad}(H:HR E g h w)(hr:∃w0:World,w0.heap=w.heap/\w0.os=w.os/\w0.tape=w.tape/\w0.output=w.output/\w.drawn<=w0.drawn/\s.run P w=.ok (.value v) { w0 with heap:=w0.heap.push ob })(bK:o.ep=(h i).ep+1)(dC:∀(g':Gh) (w':World),GLe g w g' w'->g'.blk i=w.heap.size->g'.bo i=bo->g'.st i=st->g'.cp i=cp->w'.heap[w.heap.size]?=some ob->OR g' w' i o/\(g'.ep i=(h i).ep+1->RV g' w' x v)) :
  Ran E P s g h w ⟨p,rd,x,some (i,o)⟩:=by
 obtain⟨w0,e1,e2,e3,e4,e5,hr⟩:=hr
 let g':Gh:=⟨fun j=>if j=i then w.heap.size else g.blk j,fun j=>if j=i then(h i).ep+1 else g.ep j,fun j=>if j=i then bo else g.bo j,
  fun j=>if j=i then st else g.st j,fun j=>if j=i then cp else g.cp j,g.fz⟩
 let w':World:={ w0 with heap:=w0.heap.push ob }
 have be:∀b,b<w.heap.size->w'.heap[b]?=w.heap[b]?:=fun b hb=>by show(w0.heap.push ob)[b]?=_;rw[e1,Ow,Ag (by omega)]
 have aM:w'.heap[w.heap.size]?=some ob:=by show(w0.heap.push ob)[w.heap.size]?=_;rw[e1,Ow,Aj rfl]
 have aC:GLe g w g' w':=by
  refine⟨fun b hb=>⟨hb,be b (H.fzb b hb)⟩,fun j=>?_,fun j hj=>?_⟩
  ·show g.ep j<=if j=i then(h i).ep+1 else g.ep j;split
   ·rename_i e;subst e;rw[H.ep j];omega
   ·exact AA _
  ·have:j≠i:=fun e=>by
    subst e;have aX:(if j=j then(h j).ep+1 else g.ep j)=g.ep j:=hj;rw[Aj rfl,H.ep j]at aX;omega
   exact⟨Ag this,Ag this,Ag this,Ag this⟩
 obtain⟨hO,hV⟩:=dC g' w' aC (Aj rfl) (Aj rfl) (Aj rfl) (Aj rfl) aM;have aO:w'.heap.size=w.heap.size+1:=by show(w0.heap.push ob).size=_;rw[e1];simp
 obtain⟨H',S'⟩:=HR.upd (g':=g') (w':=w') (i:=i) (o':=o) H aC (fun j hj=>Ag hj) ((Aj rfl:g'.ep i=_).trans bK.symm) (fun b hb _=>be b hb) (by rw[aO];omega) hO (fun _=>.inr (by rw[show g'.blk i=w.heap.size from Aj rfl];exact AA _)) (fun _ hf=>by have:=H.fzb _ (show g.fz (g'.blk i) from hf);rw[show g'.blk i=w.heap.size from Aj rfl]at this;omega) (fun b hb=>.inl hb) (fun b hb=>by have:=H.fzb b hb;rw[aO];omega) e2 e3 e4 e5;exact⟨_,v,w',g',hr,.inl rfl,hV (Aj rfl),H',S',fun e=>by cases e⟩
end
section
theorem ED{n:Int}(hv:RV g w (.int k n) v):v=.int k n:=by cases hv;rfl
theorem Df{b:Bool}(hv:RV g w (.bool b) v):v=.bool b:=by cases hv;rfl
theorem EF{s:List UInt8}(hv:RV g w (.str s) v):∃b:ByteArray,v=.string b/\b.data.toList=s:=by cases hv;exact⟨_,rfl,by assumption⟩
theorem Ts(P:Program)(w:World)(op:BinOp)(t:TypeId)(x y:Operand)(k k':IntKind)(a b:Int):(eqGuard op t x y (.int k a) (.int k' b)).run P w=.ok () w:=by unfold eqGuard;cases op<;>rfl
theorem Gz(P:Program)(w:World)(op:BinOp)(t:TypeId)(x y:Operand)(a b:ByteArray):(eqGuard op t x y (.string a) (.string b)).run P w=.ok () w:=by unfold eqGuard;cases op<;>rfl
theorem Tt(P:Program)(w:World)(op:BinOp)(t:TypeId)(x y:Operand)(a b:Bool):(eqGuard op t x y (.bool a) (.bool b)).run P w=.ok () w:=by unfold eqGuard;cases op<;>rfl
theorem wzci(P:Program)(w:World)(op:BinOp)(t:TypeId)(k:IntKind)(a b:Int)(aB:(Jv op k a b).ok) : ∃v,(binOp op t (.int k a) (.int k b)).run P w=.ok v w/\∀g,RV g w (Jv op k a b).v v:=by
 cases op<;>simp only[Jv,Req.when,Req.val,Req.fail]at aB |-
 case add=>exact⟨_,by simp[binOp,Op.intArith];rfl,fun g=>by rw[Gx _ _ aB];exact .int _ _⟩
 case sub=>exact⟨_,by simp[binOp,Op.intArith];rfl,fun g=>by rw[Gx _ _ aB];exact .int _ _⟩
 case mul=>exact⟨_,by simp[binOp,Op.intArith];rfl,fun g=>by rw[Gx _ _ aB];exact .int _ _⟩
 case quo=>exact⟨_,by simp[binOp,Op.intDiv,aB.1];rfl,fun g=>by rw[Gx _ _ aB.2];exact .int _ _⟩
 case rem=>exact⟨_,by simp[binOp,Op.intDiv,aB],fun g=>.int _ _⟩
 case and=>exact⟨_,by simp only[binOp,ne_eq,not_true_eq_false,CG,Op.intBits];rfl,fun g=>.int _ _⟩
 case or=>exact⟨_,by simp only[binOp,ne_eq,not_true_eq_false,CG,Op.intBits];rfl,fun g=>.int _ _⟩
 case xor=>exact⟨_,by simp only[binOp,ne_eq,not_true_eq_false,CG,Op.intBits];rfl,fun g=>.int _ _⟩
 case andNot=>exact⟨_,by simp only[binOp,ne_eq,not_true_eq_false,CG,Op.intBits];rfl,fun g=>.int _ _⟩
 case eql=>exact⟨_,by simp[binOp,Op.intCmp];rfl,fun g=>by rw[show(a==b)=decide (a=b) from rfl];exact .bool _⟩
 case neq=>exact⟨_,by simp[binOp,Op.intCmp];rfl,fun g=>by rw[show(a != b)=!decide (a=b) from rfl];exact .bool _⟩
 case lss=>exact⟨_,by simp[binOp,Op.intCmp],fun g=>.bool _⟩
 case leq=>exact⟨_,by simp[binOp,Op.intCmp],fun g=>.bool _⟩
 case gtr=>exact⟨_,by simp[binOp,Op.intCmp],fun g=>.bool _⟩
 case geq=>exact⟨_,by simp[binOp,Op.intCmp],fun g=>.bool _⟩
 all_goals exact aB.elim
theorem wzh2(P:Program)(w:World)(op:BinOp)(t:TypeId)(k k':IntKind)(a b:Int)(aB:(Ju op k a b).ok) : ∃v,(binOp op t (.int k a) (.int k' b)).run P w=.ok v w/\∀g,RV g w (Ju op k a b).v v:=by
 cases op<;>simp only[Ju,Req.when,Req.fail]at aB |-
 case shl=>exact⟨_,by simp only[binOp,Op.shift,Ag (show ¬b<0 by omega)];rfl,fun g=>by rw[Gx _ _ aB.2];exact .int _ _⟩
 case shr=>exact⟨_,by simp only[binOp,Op.shift,Ag (show ¬b<0 by omega)];rfl,fun g=>.int _ _⟩
 all_goals exact aB.elim
theorem bytes_beq(a b:ByteArray):(a.toList==b.toList)=decide (a.data.toList=b.data.toList):=by
 have e:∀x:ByteArray,x.toList=x.data.toList:=fun x=>by have:=ByteArray.toList_eq x;first|exact this|simpa using this
 rw[e,e,Bool.eq_iff_iff];simp
theorem qzzg(P:Program)(w:World)(ty:TypeId)(hu:P.underlying ty=some .bool)(p q:Bool):(Op.equal ty (.bool p) (.bool q)).run P w=.ok (p==q) w:=by show(Op.equalIn (9999+1) ty (.bool p) (.bool q)).run P w=_;rw[Op.equalIn,Sem.run_bind,run_underlying hu];rfl
theorem Tu(P:Program)(w:World)(ty:TypeId)(hu:P.underlying ty=some .bool)(p q:Bool) : (binOp .eql ty (.bool p) (.bool q)).run P w=.ok (.bool (p==q)) w/\(binOp .neq ty (.bool p) (.bool q)).run P w=.ok (.bool (!(p==q))) w:=by have e1:binOp .eql ty (.bool p) (.bool q)=(do pure (.bool (<-Op.equal ty (.bool p) (.bool q)))):=rfl;have e2:binOp .neq ty (.bool p) (.bool q)=(do pure (.bool (!(<-Op.equal ty (.bool p) (.bool q))))):=rfl;rw[e1,e2];simp[qzzg P w ty hu]
theorem Tv{y:Ae}(H:HR E g h w)(ht:RVs g w t a.tmps.toList)(ho:o.op=.move x\/o.op=.assign x)(hx:A7 x y=true):Ran E P (execOp a.eval o) g h w ((Ao.mv y).req (Ah E t) h):=by refine Ran.same H (v:=a.eval x) ?_ (AY H ht hx);rcases ho with ho|ho<;>simp[execOp,ho]
theorem wzgm{op:BinOp}{bools:Bool}(H:HR E g h w)(ht:RVs g w t a.tmps.toList)(ho:o.op=.binOp op ty x y yt)(hx:A7 x x'=true)(hy:A7 y y'=true)(hb:bools=true->P.underlying ty=some .bool) (aB:((Ao.bin op bools x' y').req (Ah E t) h).ok):Ran E P (execOp a.eval o) g h w ((Ao.bin op bools x' y').req (Ah E t) h):=by
 have rx:=AY H ht hx;have ry:=AY H ht hy;simp only[Ao.req]at aB |-;generalize Ah E t x'=X at *;generalize Ah E t y'=Y at *;unfold Lm at aB |-;split at aB
 ·rename_i k p k' q;by_cases dV:Fv op=true
  ·rw[Aj dV]at aB;simp only[Aj dV];have e1:=ED rx;have e2:=ED ry;obtain⟨v,hr,hv⟩:=wzh2 P w op ty k k' p q aB;have hrd:(Ju op k p q)=⟨(Ju op k p q).ok,[],(Ju op k p q).v,none⟩:=by cases op<;>rfl
   rw[hrd];refine Ran.same H (v:=v) ?_ (hv g);simp only[execOp,ho,e1,e2,Sem.run_bind,Ts,Result.andThen_ok,hr,Sem.run_pure]
  rw[Ag dV]at aB;simp only[Ag dV];split at aB
  ·rename_i e;subst e;simp only[AX];have e1:=ED rx;have e2:=ED ry;obtain⟨v,hr,hv⟩:=wzci P w op ty k p q aB;have hrd:(Jv op k p q)=⟨(Jv op k p q).ok,[],(Jv op k p q).v,none⟩:=by cases op<;>rfl
   rw[hrd];refine Ran.same H (v:=v) ?_ (hv g);simp only[execOp,ho,e1,e2,Sem.run_bind,Ts,Result.andThen_ok,hr,Sem.run_pure]
  ·exact aB.elim
 ·rename_i p q;obtain⟨b1,e1,e1'⟩:=EF rx;obtain⟨b2,e2,e2'⟩:=EF ry;have hl:∀b:ByteArray,b.size=b.data.toList.length:=fun b=>rfl
  have fk:Op.bytesLess b1.toList b2.toList=Op.bytesLess p q:=by
   have e:∀x:ByteArray,x.toList=x.data.toList:=fun x=>by have:=ByteArray.toList_eq x;first|exact this|simpa using this
   rw[e,e,e1',e2']
  have jW:(b1.toList==b2.toList)=decide (p=q):=by rw[bytes_beq,e1',e2']
  cases op<;>simp only[yzk,Req.when,Req.val,Req.fail]at aB |-
  case add =>
   refine Ran.same H (v:=.string (b1++b2)) ?_ (.str _ _ (by rw[<-e1',<-e2'];simp));have:¬(IntKind.i64.max<(b1.size:Int)+(b2.size:Int)):=by have h1:=hl b1;have h2:=hl b2;rw[e1']at h1;rw[e2']at h2;have:IntKind.i64.max=9223372036854775807:=rfl;omega
   have this':¬((b1.size+b2.size:Nat):Int)>IntKind.i64.max:=by omega
   simp only[execOp,ho,e1,e2,Sem.run_bind,Gz,Result.andThen_ok,binOp,Op.stringOp,Ag this',Sem.run_pure]
  case eql=>exact Ran.same H (v:=.bool (decide (p=q))) (by simp[execOp,ho,e1,e2,Gz,binOp,Op.stringOp,jW]) (.bool _)
  case neq=>exact Ran.same H (v:=.bool (!decide (p=q))) (by simp[execOp,ho,e1,e2,Gz,binOp,Op.stringOp,jW]) (.bool _)
  case lss=>exact Ran.same H (v:=.bool (Op.bytesLess p q)) (by simp[execOp,ho,e1,e2,Gz,binOp,Op.stringOp,fk]) (.bool _)
  case leq=>exact Ran.same H (v:=.bool (Op.bytesLess p q||decide (p=q))) (by simp[execOp,ho,e1,e2,Gz,binOp,Op.stringOp,fk,jW]) (.bool _)
  case gtr=>exact Ran.same H (v:=.bool (!(Op.bytesLess p q||decide (p=q)))) (by simp[execOp,ho,e1,e2,Gz,binOp,Op.stringOp,fk,jW]) (.bool _)
  case geq=>exact Ran.same H (v:=.bool (!Op.bytesLess p q)) (by simp[execOp,ho,e1,e2,Gz,binOp,Op.stringOp,fk]) (.bool _)
  all_goals exact aB.elim
 ·rename_i p q;have e1:=Df rx;have e2:=Df ry;split at aB
  ·have hu:=hb rfl;refine Ran.same H (v:=.bool (p==q)) ?_ (.bool _);simp[execOp,ho,e1,e2,Tt,Tu P w ty hu]
  ·have hu:=hb rfl;refine Ran.same H (v:=.bool (!(p==q))) ?_ (.bool _);simp[execOp,ho,e1,e2,Tt,Tu P w ty hu]
  ·exact aB.elim
 ·exact aB.elim
theorem wzdf(H:HR E g h w)(ht:RVs g w t a.tmps.toList)(ho:o.op=.unOp .not ty x)(hx:A7 x x'=true)(aB:((Ao.not x').req (Ah E t) h).ok):Ran E P (execOp a.eval o) g h w ((Ao.not x').req (Ah E t) h):=by have rx:=AY H ht hx;simp only[Ao.req]at aB |-;generalize Ah E t x'=X at *;cases X<;>simp only[Req.fail]at aB;rename_i b;exact Ran.same H (v:=.bool (!b)) (by simp[execOp,ho,Df rx,Op.unary]) (.bool _)
theorem wzc7(H:HR E g h w)(ht:RVs g w t a.tmps.toList)(ho:o.op=.unOp .neg ty x)(hx:A7 x x'=true)(aB:((Ao.neg x').req (Ah E t) h).ok):Ran E P (execOp a.eval o) g h w ((Ao.neg x').req (Ah E t) h):=by have rx:=AY H ht hx;simp only[Ao.req]at aB |-;generalize Ah E t x'=X at *;cases X<;>simp only[Req.fail]at aB;rename_i k n;have bc:inr k (0-n):=aB;exact Ran.same H (v:=.int k (k.wrap (0-n))) (by simp[execOp,ho,ED rx,Op.unary,Op.intArith]) (by rw[Gx _ _ bc];exact .int _ _)
theorem Dh{x:Aa}(hv:RV g w x v)(hu:unc c x)(hc:c=true):RV g w (unv x) v:=by
 cases x with
 |cnd d y=>cases hv with | cnd _ _ _ h _=>exact h (hu hc)
 |_=>exact hv
theorem wzan{c:Operand}{c':Ae}(H:HR E g h w)(ht:RVs g w t a.tmps.toList)(ho:o.op=.pick c x y)(hc:A7 c c'=true)(hx:A7 x x'=true)(hy:A7 y y'=true)(aB:((Ao.pick c' x' y').req (Ah E t) h).ok):Ran E P (execOp a.eval o) g h w ((Ao.pick c' x' y').req (Ah E t) h):=by
 have rc:=AY H ht hc;have rx:=AY H ht hx;have ry:=AY H ht hy;simp only[Ao.req]at aB |-;generalize Ah E t c'=C at *;generalize Ah E t x'=X at *;generalize Ah E t y'=Y at *;cases C<;>simp only[Req.fail]at aB;rename_i b;have e:=Df rc;have run:∀v,v=(if b=true then a.eval x else a.eval y)->(execOp a.eval o).run P w=.ok (.value v) w:=by rintro v rfl;simp[execOp,ho,e,asBool]
 show Ran E P _ g h w (D2 b X Y);have aB:(D2 b X Y).ok:=aB;unfold D2 at aB |-;split at aB
 ·rename_i p q hp hq;obtain⟨h1,h2⟩:unc b X/\unc (!b) Y:=aB;refine Ran.same H (run _ rfl) ?_;cases b with
  |true=>have:=Dh rx h1 rfl;rw[hp]at this;exact this
  |false=>have:=Dh ry h2 rfl;rw[hq]at this;exact this
 ·rename_i k p k' q hp hq;split at aB
  ·rename_i e';subst e';obtain⟨h1,h2⟩:unc b X/\unc (!b) Y:=aB;rw[Aj rfl];refine Ran.same H (run _ rfl) ?_;cases b with
   |true=>have:=Dh rx h1 rfl;rw[hp]at this;exact this
   |false=>have:=Dh ry h2 rfl;rw[hq]at this;exact this
  ·rename_i aI;obtain⟨h1,h2⟩:unc b X/\unc (!b) Y:=aB;rw[Ag aI];refine Ran.same H (run _ rfl) ?_;cases b with
   |true=>have:=Dh rx h1 rfl;rw[hp]at this;exact this
   |false=>have:=Dh ry h2 rfl;rw[hq]at this;exact this
 ·obtain⟨h1,h2⟩:unc b X/\unc (!b) Y:=aB;refine Ran.same H (run _ rfl) ?_;cases b with
  |true=>exact Dh rx h1 rfl
  |false=>exact Dh ry h2 rfl
theorem qz1t(H:HR E g h w)(ht:RVs g w t a.tmps.toList)(ho:o.op=.extract x i)(hx:A7 x x'=true)(aB:((Ao.extract i x').req (Ah E t) h).ok):Ran E P (execOp a.eval o) g h w ((Ao.extract i x').req (Ah E t) h):=by
 have rx:=AY H ht hx;simp only[Ao.req]at aB |-;generalize Ah E t x'=X at *;cases X<;>simp only[Req.fail]at aB;rename_i l;have hi:i<l.length:=aB;generalize hv:a.eval x=v at rx;cases rx with
 |tup _ arr hn hr =>
  have aW:i<arr.size:=by omega
  refine Ran.same H (v:=arr[i]) (by simp[execOp,ho,hv,Instr.extract,aW]) ?_;have:=hr i l[i] arr[i] (AF hi) (Gc aW);simpa [List.getD,AF hi] using this
theorem Lz{ρ:Operand->Value}(H:HR E g h w)(hr:∀x y,A7 x y=true->RV g w (Ah E t y) (ρ x)):∀{l:List Operand} {m:List Ae},CI l m=true->RVs g w (m.map (Ah E t)) (l.map ρ)
 |[],[],_=>.nil g w
 |x :: l,y :: m,h=>by simp only[CI,AI]at h;exact .cons (hr x y h.1) (Lz H hr h.2)
 |[],_ :: _,h=>by cases h
 |_ :: _,[],h=>by cases h
theorem qz99{f:FuncId}{nb:Nat}{first caps:Array Operand}{caps':List Ae}(H:HR E g h w)(ht:RVs g w t a.tmps.toList)(ho:o.op=.makeFunc (.func f) first caps)(h0:first.size=nb)(hc:CI (first.toList++caps.toList) caps'=true) :
  Ran E P (execOp a.eval o) g h w ((Ao.mkfn f nb caps').req (Ah E t) h):=by
 have hr:=Lz (ρ:=a.eval) H (fun x y bV=>AY H ht bV) hc;refine Ran.same H (v:=.func (.func f) (first.map a.eval) (caps.map a.eval)) (by simp[execOp,ho,Instr.makeFunc]) ?_;have:=RV.fn (g:=g) (w:=w) f nb (caps'.map (Ah E t)) ((first.toList++caps.toList).map a.eval).toArray (by have:=hr.1;simpa using this) (fun i x v hx hv=>hr.2 i x v hx (by simpa using hv));have e1:(((first.toList++caps.toList).map a.eval).toArray.toList.take nb).toArray=first.map a.eval:=by apply Array.ext';simp[<-h0]
 have e2:(((first.toList++caps.toList).map a.eval).toArray.toList.drop nb).toArray=caps.map a.eval:=by apply Array.ext';simp[<-h0]
 rw[e1,e2]at this;exact this
end
section
theorem DV(b o n:Nat):(⟨b,o,none⟩:Addr).add n=⟨b,o+n,none⟩:=by unfold Addr.add;split<;>simp_all
theorem Tw(hq:D4 P ty=some agg)(w:World):(isAgg ty).run P w=.ok agg w:=by
 unfold D4 at hq;cases hu:P.underlying ty with
 |none=>simp[hu]at hq
 |some d =>simp only[hu,DS,Ba]at hq;unfold isAgg;rw[Sem.run_bind,run_underlying hu w];subst hq;cases d<;>rfl
theorem D6(hq:szOf P ty=some n)(w:World):(sizeOf ty).run P w=.ok n w:=by
 unfold szOf at hq;cases hi:P.info? ty with
 |none=>simp[hi]at hq
 |some i =>simp only[hi,DS,Ba]at hq;simp[sizeOf,typeInfo,hi,hq]
theorem qzui(hq:D4 P ty=some agg)(hs:agg=true->szOf P ty=some sz)(h1:agg=false->sz=1)(w:World) (b off:Nat) (vals:List Value) (hl:vals.length=sz) (hc:∀j v,vals[j]?=some v->w.cell? ⟨b,off+j,none⟩=some v) : (Instr.loadAt ty (.pointer (some ⟨b,off,none⟩))).run P w=.ok (if agg then .agg vals.toArray else vals.getD 0 undef) w:=by
 have jX:∀j v,vals[j]?=some v->w.cell? ((⟨b,off,none⟩:Addr).add j)=some v:=fun j v hv=>by rw[DV];exact hc j v hv
 have c9:=run_loadCells_list (P:=P) w ⟨b,off,none⟩ vals jX;simp only[Instr.loadAt,Instr.sureAddr,loadVar,Sem.run_bind,Sem.run_pure,Result.andThen_ok,Tw hq];cases agg with
 |true =>rw[hl]at c9;simp[D6 (hs rfl),c9]
 |false =>
  obtain rfl:=h1 rfl;cases vals with
  |nil=>simp at hl
  |cons v r =>have:=hc 0 v rfl;simp at this;simp[this]
theorem RVs.drop{a:List Value}(h:RVs g w l a)(n:Nat):RVs g w (l.drop n) (a.drop n) := ⟨by simp[h.1],fun i x v hx hv=>h.2 (n+i) x v (by simpa using hx) (by simpa using hv)⟩
theorem RVs.take{a:List Value}(h:RVs g w l a)(n:Nat):RVs g w (l.take n) (a.take n):=by
 refine⟨by simp[h.1],fun i x v hx hv=>?_⟩;rw[HF]at hx hv;split at hx
 ·rename_i hi;rw[Aj hi]at hv;exact h.2 i x v hx hv
 ·cases hx
theorem RVs.at0{a:List Value}(h:RVs g w l a)(i:Nat)(hi:i<l.length):RV g w (l.getD i .top) (a.getD i undef):=by
 have h1:l[i]?=some l[i]:=AF hi;have hs:i<a.length:=by rw[h.1];exact hi
 have h2:a[i]?=some a[i]:=AF hs;simpa [List.getD,h1,h2] using h.2 i _ _ h1 h2
theorem RVs.rv_agg{a:List Value}(h:RVs g w l a):RV g w (.agg l) (.agg a.toArray) :=
 .agg _ _ (by simpa using h.1) (fun i x v hx hv=>h.2 i x v hx (by simpa using hv))
theorem O4(H:HR E g h w)(ho:o.op=.load ty x)(hq:D4 P ty=some agg)(hs:agg=true->szOf P ty=some sz)(h1:agg=false->sz=1) (hx:a.eval x=.pointer (some ⟨b,off,none⟩)) (vals:List Value) (hl:vals.length=sz) (hc:∀j v,vals[j]?=some v->w.cell? ⟨b,off+j,none⟩=some v){y:Aa} (hy:RV g w y (if agg then .agg vals.toArray else vals.getD 0 undef)):Ran E P (execOp a.eval o) g h w ⟨p,rd,y,none⟩:=by refine Ran.same H (v:=if agg then .agg vals.toArray else vals.getD 0 undef) ?_ hy;simp only[execOp,ho,hx,Sem.run_bind,qzui hq hs h1 w b off vals hl hc,Result.andThen_ok,Sem.run_pure]
theorem Tx{l:List Value}(h:RVs g w cs l)(h1:agg=false->sz=1)(hb:off+sz<=cs.length) :
  RV g w (ldv agg sz cs off) (if agg then .agg ((l.drop off).take sz).toArray else((l.drop off).take sz).getD 0 undef):=by
 cases agg with
 |true=>exact((h.drop off).take sz).rv_agg
 |false =>
  obtain rfl:=h1 rfl;have:=h.at0 off (by omega);have hl:off<l.length:=by rw[h.1];omega
  simp only[ldv,J3,CG];have e:((l.drop off).take 1).getD 0 undef=l.getD off undef:=by simp[List.getD,HF,Ge]
  rw[e];exact this
theorem Ty(H:HR E g h w)(ht:RVs g w t a.tmps.toList)(ho:o.op=.load ty x)(hx:A7 x x'=true)(hq:D4 P ty=some agg) (hs:agg=true->szOf P ty=some sz) (aB:((Ao.load agg sz x').req (Ah E t) h).ok):Ran E P (execOp a.eval o) g h w ((Ao.load agg sz x').req (Ah E t) h):=by
 have rx:=AY H ht hx;simp only[Ao.req]at aB |-;generalize Ah E t x'=X at *;generalize hv:a.eval x=v at rx;unfold D3 at aB |-;cases X<;>simp only[Req.fail]at aB
 case ptr id ep off =>
  have hO:=H.obj id;have hE:=H.ep id;cases hh:h id<;>simp only[hh,Req.fail]at aB hO hE |-
  case box ep' cs =>
   obtain⟨rfl,hb,h1⟩:=aB;obtain⟨arr,ty',hr,bB⟩:=hO;cases rx with
   |ptr _ _ _ _ _ _ hp =>
    rw[hp (by simpa [Ad.ep] using hE.symm)]at hv;have cu:=bB.1;refine O4 H ho hq hs h1 hv ((arr.toList.drop off).take sz) (by simp at cu |-;omega) ?_ (Tx bB h1 hb);intro j u hu;rw[HF]at hu;split at hu
    ·rw[Ge]at hu;simp only[World.cell?,hr];simpa using hu
    ·cases hu
  all_goals exact aB.elim
 case eptr id ep i off =>
  have hO:=H.obj id;have hE:=H.ep id;cases hh:h id<;>simp only[hh,Req.fail]at aB hO hE |-
  case vec ep' st n f =>
   obtain⟨rfl,hi,hb,h1⟩:=aB;obtain⟨aL,h0,hn,arr,ty',hr,aY,aS⟩:=hO;obtain⟨ig,aK⟩:=aS i hi;have bC:g.bo id+i*st+st<=arr.size:=by have:(i+1)*st<=g.cp id*st:=Bd _ (by omega);rw[BR]at this;omega
   cases rx with
   |eptr _ _ _ _ _ _ _ hp =>
    have cw:=hp (by simpa [Ad.ep] using hE.symm);rw[cw,aL]at hv
    have aF:RVs g w (f i) ((arr.toList.drop (g.bo id+i*st)).take st):=by
     refine⟨by simp;omega,fun j y u hy hu=>?_⟩;rw[HF]at hu;split at hu
     ·rw[Ge]at hu;exact(aK j y u hy (by simpa [Fu] using hu)).2
     ·cases hu
    refine O4 H ho hq hs h1 hv ((((arr.toList.drop (g.bo id+i*st)).take st).drop off).take sz) (by simp;omega) ?_ (Tx aF h1 (by omega));intro j u hu;rw[HF]at hu;split at hu
    ·rw[Ge,HF]at hu;split at hu
     ·rw[Ge]at hu;simp only[World.cell?,hr];simpa [Fu] using hu
     ·cases hu
    ·cases hu
  all_goals exact aB.elim
 case cptr f lim off =>
  obtain⟨hb,h1⟩:=aB;cases rx with
  |cptr _ _ _ b base vals hz hc hr =>
   have c9:((List.range sz).map fun j=>vals (off+j)).length=sz:=by simp
   refine O4 H ho hq hs h1 hv ((List.range sz).map fun j=>vals (off+j)) c9 ?_ ?_
   ·intro j u hu;have hj:j<sz:=(by have:=(A8.1 hu).1;simpa using this);simp[H6,Tg hj]at hu;rw[Fu,hc (off+j) (by omega),hu]
   ·cases agg with
    |true =>
     refine RVs.rv_agg ⟨by simp,fun j y u hy hu=>?_⟩;have hj:j<sz:=by have:=(A8.1 hu).1;simpa using this
     simp[H6,Tg hj]at hu hy;rw[<-hy,<-hu];exact hr _ (by omega)
    |false =>obtain rfl:=h1 rfl;simpa using hr off (by omega)
 all_goals exact aB.elim
theorem Tz{x:Aa}(h:RV g w x v)(h1:x.one=true):v.oneCell'=true/\v.cells=#[v]:=by
 have key:v.oneCell'=true->v.cells=#[v]:=fun hv=>by cases v<;>first | rfl | cases hv
 have:v.oneCell'=true:=by cases h<;>first|rfl|assumption|cases h1
 exact⟨this,key this⟩
theorem O5{x:Aa}{p:List Aa}(h:RV g w x v)(hp:Cw x=some p):RVs g w p v.cells.toList:=by
 cases x<;>simp only[Cw]at hp
 case agg l =>
  obtain rfl:=AL hp;cases h with
  |agg _ arr hn hr=>exact⟨by simpa [Value.cells] using hn,fun i x v hx hv=>hr i x v hx (by simpa [Value.cells] using hv)⟩
 all_goals first
  |(cases hp;done)
  |(obtain rfl:=AL hp;rw[(Tz h rfl).2];exact .cons h (.nil g w))
theorem G0:∀{p:List Aa} {l:List Value},RVs g w p l->BD p=true->∀v∈l,v.oneCell'=true
 |[],l,h,_,v,hv=>by have:=h.1;simp at this;subst this;cases hv
 |x :: p,[],h,_,v,hv=>by cases hv
 |x :: p,u :: l,h,h1,v,hv=>by
  simp only[BD,AI]at h1;cases hv with
  |head=>exact(Tz (h.2 0 x u rfl rfl) h1.1).1
  |tail _ hv=>exact G0 (p:=p) (l:=l) ⟨by have:=h.1;simpa using this,fun i y z hy hz=>h.2 (i+1) y z (by simpa using hy) (by simpa using hz)⟩ h1.2 v hv
theorem HN{s:Sem Next}{x:Aa}{n:Next}(H:HR E g h w)(aU:(h i).owned=true){arr':Array Value}(hb:w.heap[g.blk i]?=some (.cells arr ty (0,0)))(hr:s.run P w=.ok n (w.setRow (g.blk i) arr')) (hn:n=.value v\/(n=.skip/\v=undef))(bK:o'.ep=(h i).ep) (dC:∀w',GLe g w g w'->w'.heap[g.blk i]?=some (.cells arr' ty (0,0))->OR g w' i o'/\RV g w' x v):Ran E P s g h w ⟨p,rd,x,some (i,o')⟩:=by have bL:=H.sep i aU;have aC:GLe g w g (w.setRow (g.blk i) arr'):=⟨fun b bg=>⟨bg,setRow_other w (g.blk i) b arr' (fun e=>bL (e▸bg))⟩,fun _=>AA _,fun _ _=>⟨rfl,rfl,rfl,rfl⟩⟩;obtain⟨hO,hV⟩:=dC _ aC (setRow_heap w (g.blk i) arr arr' ty (0,0) hb);obtain⟨H',S'⟩:=HR.upd (g':=g) (w':=w.setRow (g.blk i) arr') (i:=i) (o':=o') H aC (fun _ _=>rfl) ((H.ep i).trans bK.symm) (fun b bg aI=>setRow_other w (g.blk i) b arr' (aI aU)) (by simp) hO (fun _=>.inl ⟨aU,rfl⟩) (fun _=>bL) (fun b bg=>.inl bg) (fun b bg=>by simpa using H.fzb b bg) rfl rfl rfl;exact⟨n,v,_,g,hr,hn,hV,H',S',fun e=>by cases e⟩
theorem G2(l p:List α)(off j:Nat)(hb:off+p.length<=l.length):(l.take off++p++l.drop (off+p.length))[j]?=if j<off then l[j]? else if j<off+p.length then p[j-off]? else l[j]?:=by
 by_cases h1:j<off
 ·rw[Aj h1,List.append_assoc,E9 (by simp;omega),HF,Aj h1]
 ·rw[Ag h1];by_cases h2:j<off+p.length
  ·rw[Aj h2,E9 (by simp;omega),Ft (by simp;omega)];congr 1;simp;omega
  ·rw[Ag h2,Ft (by simp;omega),Ge];congr 1;simp;omega
theorem RVs.lay{l p:List Aa}{a q:List Value}(h:RVs g w l a)(hp:RVs g w p q)(off:Nat)(hb:off+p.length<=l.length):RVs g w (lay l off p) (a.take off++q++a.drop (off+q.length)):=by
 have e1:=h.1;have e2:=hp.1;refine⟨by simp[Am.lay];omega,fun j x v hx hv=>?_⟩;rw[Am.lay,G2 l p off j hb]at hx;rw[G2 a q off j (by omega),e2]at hv;by_cases h1:j<off
 ·rw[Aj h1]at hx hv;exact h.2 j x v hx hv
 ·rw[Ag h1]at hx hv;by_cases h2:j<off+p.length
  ·rw[Aj h2]at hx hv;exact hp.2 _ x v hx hv
  ·rw[Ag h2]at hx hv;exact h.2 j x v hx hv
theorem qz64(H:HR E g h w)(ht:RVs g w t a.tmps.toList)(ho:o.op=.store ty x y)(hx:A7 x x'=true)(hy:A7 y y'=true)(hs:szOf P ty=some sz) (aB:((Ao.store sz x' y').req (Ah E t) h).ok):Ran E P (execOp a.eval o) g h w ((Ao.store sz x' y').req (Ah E t) h):=by
 have rx:=AY H ht hx;have ry:=AY H ht hy;simp only[Ao.req]at aB |-;generalize Ah E t x'=X at *;generalize Ah E t y'=Y at *;generalize hv:a.eval x=v at rx;generalize hu:a.eval y=u at ry;unfold O2 at aB |-;cases hp:Cw Y with
 |none=>simp only[hp,Req.fail]at aB
 |some p =>
  simp only[hp]at aB |-;have bp:=O5 ry hp
  have run:∀(b off:Nat) (arr:Array Value) (ty':TypeId),w.heap[b]?=some (.cells arr ty' (0,0))->a.eval x=.pointer (some ⟨b,off,none⟩)->p.length=sz->BD p=true->off+sz<=arr.size -> (execOp a.eval o).run P w=.ok .skip (w.setRow b (arr.toList.take off++u.cells.toList++arr.toList.drop (off+u.cells.toList.length)).toArray):=by
   intro b off arr ty' hb bN hl h1 aY;have aE:u.cells.toList.length=sz:=by rw[bp.1,hl]
   have aL:=run_storeCells_at P b off ty' u.cells.toList 0 arr w hb (by omega) (G0 bp h1);simp only[Gg]at aL;have aI:¬(u.cells.size≠sz):=by simp at aE;omega
   simp only[execOp,ho,bN,hu,Sem.run_bind,Instr.storeAt,Instr.sureAddr,Sem.run_pure,Result.andThen_ok,storeVar,D6 hs,Ag aI,aL]
  cases X<;>simp only[Req.fail]at aB
  case ptr id ep off =>
   have hO:=H.obj id;have hE:=H.ep id;cases hh:h id<;>simp only[hh,Req.fail]at aB hO hE |-
   case box ep' cs =>
    obtain⟨rfl,hl,h1,hb⟩:=aB;obtain⟨arr,ty',hr,bB⟩:=hO;have cu:=bB.1;cases rx with
    |ptr _ _ _ _ _ _ dv =>have cw:=dv (by simpa [Ad.ep] using hE.symm);have aU:(h id).owned=true:=(by rw[hh];rfl);refine HN H aU hr (run (g.blk id) off arr ty' hr (hv.trans cw) hl h1 (by simp at cu;omega)) (.inr ⟨rfl,rfl⟩) (by rw[hh];rfl) ?_;intro w' aC bg;exact⟨⟨_,ty',bg,(bB.mono aC).lay (bp.mono aC) off (by omega)⟩,.top _⟩
   all_goals exact aB.elim
  case eptr id ep i off =>
   have hO:=H.obj id;have hE:=H.ep id;cases hh:h id<;>simp only[hh,Req.fail]at aB hO hE |-
   case vec ep' st n f =>
    obtain⟨rfl,hi,hl,h1,hb⟩:=aB;obtain⟨aL,h0,hn,arr,ty',hr,aY,aS⟩:=hO;cases rx with
    |eptr _ _ _ _ _ _ _ dv =>
     have cw:=dv (by simpa [Ad.ep] using hE.symm);rw[aL]at cw;have aU:(h id).owned=true:=(by rw[hh];rfl);have bC:∀k,k<n->g.bo id+k*st+st<=g.bo id+g.cp id*st:=fun k hk=>by have:(k+1)*st<=g.cp id*st:=Bd _ (by omega);rw[BR]at this;omega
     have pE:=bC i hi;have aE:u.cells.toList.length=sz:=(by rw[bp.1,hl]);refine HN H aU hr (run (g.blk id) (g.bo id+i*st+off) arr ty' hr (hv.trans cw) hl h1 (by omega)) (.inr ⟨rfl,rfl⟩) (by rw[hh];rfl) ?_;intro w' aC bg;refine⟨⟨aL,h0,hn,_,ty',bg,by simp;omega,fun k hk=>?_⟩,.top _⟩;obtain⟨ig,aK⟩:=aS k hk;have fw:=fun j=>G2 arr.toList u.cells.toList (g.bo id+i*st+off) j (by simp;simp at aE;omega);by_cases e:k=i
     ·subst e;simp only[AX];refine⟨by simp[lay];omega,fun j y z hy hz=>?_⟩;rw[Oq,fw]at hz;rw[lay,G2 (f k) p off j (by omega)]at hy;by_cases j1:j<off
      ·rw[Aj j1]at hy;rw[Aj (by omega)]at hz;have:=aK j y z hy (by simpa using hz);exact⟨this.1,this.2.mono aC⟩
      ·rw[Ag j1]at hy;rw[Ag (by omega)]at hz;by_cases j2:j<off+p.length
       ·rw[Aj j2]at hy;rw[Aj (by omega)]at hz;have e2:g.bo id+k*st+j-(g.bo id+k*st+off)=j-off:=(by omega);rw[e2]at hz;exact⟨G0 bp h1 z (AG hz),(bp.2 _ y z hy hz).mono aC⟩
       ·rw[Ag j2]at hy;rw[Ag (by omega)]at hz;have:=aK j y z hy (by simpa using hz);exact⟨this.1,this.2.mono aC⟩
     ·simp only[Ag e];refine⟨ig,fun j y z hy hz=>?_⟩;have hj:j<st:=by rw[<-ig];exact(A8.1 hy).1
      rw[Oq,fw]at hz
      have kA:¬(g.bo id+i*st+off<=g.bo id+k*st+j/\g.bo id+k*st+j<g.bo id+i*st+off+u.cells.toList.length):=by
       rintro⟨q1,q2⟩;rcases Nat.lt_or_gt_of_ne e with hlt|hgt
       ·have:(k+1)*st<=i*st:=Bd _ hlt;rw[BR]at this;omega
       ·have:(i+1)*st<=k*st:=Bd _ hgt;rw[BR]at this;omega
      by_cases j1:g.bo id+k*st+j<g.bo id+i*st+off
      ·rw[Aj j1]at hz;have:=aK j y z hy (by simpa using hz);exact⟨this.1,this.2.mono aC⟩
      ·rw[Ag j1,Ag (by omega)]at hz;have:=aK j y z hy (by simpa using hz);exact⟨this.1,this.2.mono aC⟩
   all_goals exact aB.elim
  all_goals exact aB.elim
end
section
theorem T4{ep:Nat}(H:HR E g h w)(hv:RV g w (.ptr id ep off) v)(he:ep=(h id).ep):v=.pointer (some ⟨g.blk id,off,none⟩):=by
 cases hv with
 |ptr _ _ _ _ _ _ hp=>exact hp (he.trans (H.ep id).symm)
theorem wzgd{ep:Nat}(H:HR E g h w)(he:ep=(h id).ep):RV g w (.ptr id ep off) (.pointer (some ⟨g.blk id,off,none⟩)) :=
 .ptr _ _ _ _ rfl (by rw[he,H.ep id];exact AA _) (fun _=>rfl)
theorem wzoc{ep:Nat}(H:HR E g h w)(hv:RV g w (.eptr id ep i off) v)(he:ep=(h id).ep):v=.pointer (some ⟨g.blk id,g.bo id+i*g.st id+off,none⟩):=by
 cases hv with
 |eptr _ _ _ _ _ _ _ hp=>exact hp (he.trans (H.ep id).symm)
theorem T5{ep:Nat}(H:HR E g h w)(he:ep=(h id).ep):RV g w (.eptr id ep i off) (.pointer (some ⟨g.blk id,g.bo id+i*g.st id+off,none⟩)) :=
 .eptr _ _ _ _ _ rfl (by rw[he,H.ep id];exact AA _) (fun _=>rfl)
theorem EG{ep:Nat}(H:HR E g h w)(hv:RV g w (.vec id ep lo n) v)(he:ep=(h id).ep):Gw g id lo n v:=by
 cases hv with
 |vec _ _ _ _ _ _ _ hp=>exact hp (he.trans (H.ep id).symm)
theorem wzsg{ep:Nat}(H:HR E g h w)(he:ep=(h id).ep)(hv:Gw g id lo n v):RV g w (.vec id ep lo n) v :=
 .vec _ _ _ _ _ (by obtain⟨_,_,rfl,_⟩:=hv;rfl) (by rw[he,H.ep id];exact AA _) (fun _=>hv)
theorem T6{f:Nat->Aa}{lim d:Nat}(hv:RV g w (.cptr f lim off) v):∃b o,v=.pointer (some ⟨b,o,none⟩)/\RV g w (.cptr f lim (off+d)) (.pointer (some ⟨b,o+d,none⟩)):=by
 cases hv with
 |cptr _ _ _ b base vals hz hc hr =>refine⟨b,base+off,rfl,?_⟩;rw[Fu];exact .cptr f lim (off+d) b base vals hz hc hr
theorem qz7m(H:HR E g h w)(ht:RVs g w t a.tmps.toList)(ho:o.op=.nilCheck x)(hx:A7 x x'=true)(aB:((Ao.nilck x').req (Ah E t) h).ok):Ran E P (execOp a.eval o) g h w ((Ao.nilck x').req (Ah E t) h):=by
 have rx:=AY H ht hx;simp only[Ao.req]at aB |-;generalize Ah E t x'=X at *;generalize hv:a.eval x=v at rx;cases X<;>simp only[Req.fail]at aB
 case ptr id ep off =>have e:=T4 H rx aB;subst e;exact Ran.same H (v:=.pointer (some ⟨g.blk id,off,none⟩)) (by simp[execOp,ho,hv]) rx
 case cptr f l o =>obtain⟨b,o',rfl,_⟩:=T6 (d:=0) rx;exact Ran.same H (v:=.pointer (some ⟨b,o',none⟩)) (by simp[execOp,ho,hv]) rx
 case fn f nb c =>
  cases rx with
  |fn _ _ _ arr hn hr=>exact Ran.same H (v:=.func (.func f) (arr.toList.take nb).toArray (arr.toList.drop nb).toArray) (by simp[execOp,ho,hv]) (.fn _ _ _ arr hn hr)
theorem qz7n{s:TypeId}{f:Nat}(hf:JE P s f=some (off,ft))(hs:szOf P ft=some n)(h0:n≠0)(w:World)(b o:Nat) : (Instr.fieldAt s (.pointer (some ⟨b,o,none⟩)) f).run P w=.ok (.pointer (some ⟨b,o+off,none⟩)) w:=by
 unfold JE at hf;split at hf
 ·rename_i fs hu;cases hq:fs[f]? with
  |none=>simp[hq]at hf
  |some fld =>simp only[hq,DS,Ba,BB]at hf;obtain⟨rfl,rfl⟩:=hf;simp only[Instr.fieldAt,Sem.run_bind,run_underlying hu,Result.andThen_ok,hq,Instr.sureAddr,Sem.run_pure,fieldPlace,D6 hs,Ag h0,DV]
 ·cases hf
theorem qz66{s:TypeId}{f:Nat}(H:HR E g h w)(ht:RVs g w t a.tmps.toList)(ho:o.op=.fieldAddr s x f)(hx:A7 x x'=true)(hf:JE P s f=some (off,ft)) (hs:szOf P ft=some n) (h0:n≠0)(aB:((Ao.faddr off x').req (Ah E t) h).ok):Ran E P (execOp a.eval o) g h w ((Ao.faddr off x').req (Ah E t) h):=by
 have rx:=AY H ht hx;simp only[Ao.req]at aB |-;generalize Ah E t x'=X at *;generalize hv:a.eval x=v at rx;have run:∀b o',v=.pointer (some ⟨b,o',none⟩)->(execOp a.eval o).run P w=.ok (.value (.pointer (some ⟨b,o'+off,none⟩))) w:=by rintro b o' rfl;simp only[execOp,ho,hv,Sem.run_bind,qz7n hf hs h0,Result.andThen_ok,Sem.run_pure]
 cases X<;>simp only[Req.fail]at aB
 case ptr id ep o' =>exact Ran.same H (run _ _ (T4 H rx aB)) (wzgd H aB)
 case eptr id ep i o' =>have:=run _ _ (wzoc H rx aB);rw[Fu]at this;exact Ran.same H this (T5 H aB)
 case cptr f' l o' =>obtain⟨b,o'',e,hr⟩:=T6 (d:=off) rx;exact Ran.same H (run _ _ e) hr
theorem qz1s(hu:P.underlying ty=some (.slice e))(hs:szOf P e=some st)(w:World)(b o len cap:Nat)(k:IntKind)(i:Int)(h0:0<=i)(h1:i<len) : (Instr.indexAt ty (.slice (some ⟨b,o,none⟩) len cap) (.int k i)).run P w=.ok (.pointer (some ⟨b,o+i.toNat*st,none⟩)) w:=by simp[Instr.indexAt,asIntOf,run_underlying hu,h0,h1,D6 hs,DV]
theorem qz3a{i:Operand}(H:HR E g h w)(ht:RVs g w t a.tmps.toList)(ho:o.op=.indexAddr ty x i)(hx:A7 x x'=true)(hi:A7 i i'=true)(hu:P.underlying ty=some (.slice e)) (hs:szOf P e=some st)(aB:((Ao.iaddrS st x' i').req (Ah E t) h).ok):Ran E P (execOp a.eval o) g h w ((Ao.iaddrS st x' i').req (Ah E t) h):=by
 have rx:=AY H ht hx;have ri:=AY H ht hi;simp only[Ao.req]at aB |-;generalize Ah E t x'=X at *;generalize Ah E t i'=I at *;generalize hv:a.eval x=v at rx;generalize hj:a.eval i=u at ri;have run:∀b off n cap k j,v=.slice (some ⟨b,off,none⟩) n cap->u=.int k j->0<=j->j<n->(execOp a.eval o).run P w=.ok (.value (.pointer (some ⟨b,off+j.toNat*st,none⟩))) w:=by rintro b off n cap k j rfl rfl h0 h1;simp only[execOp,ho,hv,hj,Sem.run_bind,qz1s hu hs w b off n cap k j h0 h1,Result.andThen_ok,Sem.run_pure]
 cases X<;>(try simp only[Req.fail]at aB)
 case slc st' n f =>
  cases I<;>simp only[Req.fail]at aB;rename_i k j;obtain⟨rfl,h0,h1⟩:=aB;have ej:=ED ri;cases rx with
  |slc0=>omega
  |slc _ _ _ b off cap vals hz aG hl hc cC hr =>
   have kC:j.toNat<n:=by omega
   refine Ran.same H (run b off n cap k j rfl ej h0 h1) ?_;exact .cptr _ st' 0 b (off+j.toNat*st') (fun c=>vals j.toNat c) hz (fun c jX=>hc _ _ kC jX) (fun c jX=>by have aE:=hl j.toNat kC;have:(f j.toNat)[c]?=some (f j.toNat)[c]:=AF (by omega);have h2:=hr j.toNat c _ kC this;simpa [List.getD,this] using h2)
 case vec id ep lo n =>
  cases I<;>simp only[Req.fail]at aB;rename_i k j;have hO:=H.obj id;cases hh:h id<;>simp only[hh,Req.fail]at aB hO |-
  case vec ep' st' m f =>
   obtain⟨rfl,rfl,h0,h1⟩:=aB;have jY:=EG H rx (by rw[hh];rfl);obtain⟨ad,cap,e1,aC,aG⟩:=jY;have ej:=ED ri;rcases aG with cU|⟨rfl,hc⟩
   ·omega
   ·have r:=run _ _ n cap k j e1 ej h0 h1;rw[hO.1]at r;have e2:g.bo id+lo*st'+j.toNat*st'=g.bo id+(lo+j.toNat)*g.st id+0:=by rw[hO.1,AT];omega
    rw[e2]at r;exact Ran.same H r (T5 H (by rw[hh];rfl))
  all_goals exact aB.elim
 all_goals (cases I<;>exact aB.elim)
theorem wzb8{i:Operand}(H:HR E g h w)(ht:RVs g w t a.tmps.toList)(ho:o.op=.index ty x i)(hx:A7 x x'=true)(hi:A7 i i'=true)(hu:P.underlying ty=some .string)(aB:((Ao.sidx x' i').req (Ah E t) h).ok):Ran E P (execOp a.eval o) g h w ((Ao.sidx x' i').req (Ah E t) h):=by
 have rx:=AY H ht hx;have ri:=AY H ht hi;simp only[Ao.req]at aB |-;generalize Ah E t x'=X at *;generalize Ah E t i'=I at *;generalize hv:a.eval x=v at rx;generalize hj:a.eval i=u at ri;cases X<;>(try simp only[Req.fail]at aB);rename_i s;cases I<;>simp only[Req.fail]at aB;rename_i k j;obtain⟨h0,h1⟩:=aB;obtain⟨b,rfl,hb⟩:=EF rx;obtain rfl:=ED ri
 have hlt:j.toNat<b.size:=by
  have:b.size=s.length:=by rw[<-hb];rfl
  omega
 have fy:b[j.toNat]?=some b[j.toNat]:=by simp[hlt]
 have hs:s.getD j.toNat 0=b[j.toNat]:=by subst hb;have:j.toNat<b.data.toList.length:=hlt;rw[E7,AF this];rfl
 refine Ran.same H (v:=.int .u8 (b[j.toNat].toNat:Nat)) ?_ (by show RV g w (.int .u8 (Cy s j)) _;rw[Cy,hs];exact .int _ _);simp[execOp,ho,hv,hj,Instr.index,asIntOf,run_underlying hu,h0,fy]
theorem T7{vs:Array Value}(H:HR E g h w)(bp:RVs g w cs vs.toList)(hr:(execOp a.eval o).run P w=.ok (.value (.pointer (some ⟨w.heap.size,0,none⟩))) { w with heap:=w.heap.push (.cells vs ty (0,0)) }) :
  Ran E P (execOp a.eval o) g h w ⟨p,rd,.ptr s ((h s).ep+1) 0,some (s,.box ((h s).ep+1) cs)⟩:=by
 refine Ran.new (ob:=.cells vs ty (0,0)) (bo:=0) (st:=0) (cp:=0) H ⟨w,rfl,rfl,rfl,rfl,AA _,hr⟩ rfl ?_;intro g' w' aC aN _ _ _ aM;refine⟨⟨vs,ty,by rw[aN];exact aM,bp.mono aC⟩,fun he=>?_⟩;exact .ptr _ _ _ _ rfl (by rw[he];exact AA _) (fun _=>by rw[aN])
theorem qz7c(H:HR E g h w)(ho:o.op=.alloc ty)(hz:HJ P ty zero=true) :
  Ran E P (execOp a.eval o) g h w ((Ao.alloc s zero).req (Ah E t) h):=by
 simp only[Ao.req];unfold HJ D5 at hz;cases hi:P.info? ty with
 |none=>simp[hi]at hz
 |some i =>
  cases bm:i.zero with
  |none=>obtain⟨⟩:=i;simp only at bm;subst bm;simp[hi]at hz
  |some z =>
   have ez:CH z.cells.toList zero=true:=by obtain⟨⟩:=i;simp only at bm;subst bm;simpa [hi] using hz
   refine T7 (vs:=z.cells) (ty:=ty) H (DU ez) ?_;simp[execOp,ho,Instr.alloc,zeroValue,typeInfo,hi,bm,newVar,newRow]
theorem wzep(H:HR E g h w)(ht:RVs g w t a.tmps.toList)(ho:o.op=.box ty x)(hx:A7 x x'=true)(aB:((Ao.box s x').req (Ah E t) h).ok):Ran E P (execOp a.eval o) g h w ((Ao.box s x').req (Ah E t) h):=by
 have rx:=AY H ht hx;simp only[Ao.req]at aB |-;generalize Ah E t x'=X at *;cases hp:Cw X with
 |none=>simp only[hp,Req.fail]at aB
 |some l =>refine T7 (vs:=(a.eval x).cells) (ty:=ty) H (O5 rx hp) ?_;simp[execOp,ho,Instr.box,newVar,newRow]
end
section
theorem wzbc(H:HR E g h w)(ht:RVs g w t a.tmps.toList)(ho:o.op=.convert src dst x)(hx:A7 x x'=true)(hs:(P.underlying src).isSome=true) (hd:P.underlying dst=some (.int k)) (aB:((Ao.conv k x').req (Ah E t) h).ok):Ran E P (execOp a.eval o) g h w ((Ao.conv k x').req (Ah E t) h):=by have rx:=AY H ht hx;simp only[Ao.req]at aB |-;generalize Ah E t x'=X at *;cases X<;>simp only[Req.fail]at aB;rename_i k' n;have bc:inr k n:=aB;obtain⟨d,ii⟩:=Option.isSome_iff_exists.1 hs;exact Ran.same H (v:=.int k (k.wrap n)) (by simp[execOp,ho,ED rx,convert,run_underlying ii,run_underlying hd,Conv.intToInt]) (by rw[Gx _ _ bc];exact .int _ _)
theorem wzdc{args:Array Operand}(H:HR E g h w)(ht:RVs g w t a.tmps.toList)(ho:o.op=.call { callee:=.builtin .max,args,argTypes:=ats })(ha:args.toList=[x,y])(hx:A7 x x'=true)(hy:A7 y y'=true)(aB:((Ao.max x' y').req (Ah E t) h).ok):Ran E P (execOp a.eval o) g h w ((Ao.max x' y').req (Ah E t) h):=by
 have rx:=AY H ht hx;have ry:=AY H ht hy;simp only[Ao.req]at aB |-;generalize Ah E t x'=X at *;generalize Ah E t y'=Y at *;obtain rfl:args=#[x,y]:=by rw[<-J2 (xs:=args),ha]
 cases X<;>(try simp only[Req.fail]at aB)
 case int k p =>
  cases Y<;>(try simp only[Req.fail]at aB)
  case int k' q =>
   by_cases hk:k=k';rotate_left
   ·simp only[Ag hk]at aB
   subst hk;simp only[AX];refine Ran.same H (v:=.int k (Max.max p q)) ?_ (.int _ _);have e:(if q>p then q else p)=Max.max p q:=by rw[Int.max_def];split<;>split<;>omega
   simp[execOp,ho,resolve,invoke,builtin,Builtin.max_,Builtin.max2,ED rx,ED ry];exact e
  all_goals exact aB.elim
 all_goals exact aB.elim
theorem wzdn{args:Array Operand}(H:HR E g h w)(ht:RVs g w t a.tmps.toList)(ho:o.op=.call { callee:=.builtin .min,args,argTypes:=ats })(ha:args.toList=[x,y])(hx:A7 x x'=true)(hy:A7 y y'=true)(aB:((Ao.min x' y').req (Ah E t) h).ok):Ran E P (execOp a.eval o) g h w ((Ao.min x' y').req (Ah E t) h):=by
 have rx:=AY H ht hx;have ry:=AY H ht hy;simp only[Ao.req]at aB |-;generalize Ah E t x'=X at *;generalize Ah E t y'=Y at *;obtain rfl:args=#[x,y]:=by rw[<-J2 (xs:=args),ha]
 cases X<;>(try simp only[Req.fail]at aB)
 case int k p =>
  cases Y<;>(try simp only[Req.fail]at aB)
  case int k' q =>
   by_cases hk:k=k';rotate_left
   ·simp only[Ag hk]at aB
   subst hk;simp only[AX];refine Ran.same H (v:=.int k (Min.min p q)) ?_ (.int _ _);have e:(if q<p then q else p)=Min.min p q:=by rw[Int.min_def];split<;>split<;>omega
   simp[execOp,ho,resolve,invoke,builtin,Builtin.min_,Builtin.min2,ED rx,ED ry];exact e
  all_goals exact aB.elim
 all_goals exact aB.elim
theorem T8{args:Array Operand}(H:HR E g h w)(ht:RVs g w t a.tmps.toList)(ho:o.op=.call { callee:=.builtin .len,args,argTypes:=ats })(ha:args=#[x])(bP:ats=#[ty])(hu:P.underlying ty=some d) (hd:if isStr then d=.string else ∃e,d=.slice e) (hx:A7 x x'=true)(aB:((Ao.len isStr x').req (Ah E t) h).ok):Ran E P (execOp a.eval o) g h w ((Ao.len isStr x').req (Ah E t) h):=by
 have rx:=AY H ht hx;subst ha;subst bP;simp only[Ao.req]at aB |-;generalize Ah E t x'=X at *;generalize hv:a.eval x=v at rx;cases isStr with
 |true =>simp only[AX]at hd;subst hd;cases X<;>simp only[Req.fail]at aB;rename_i s;obtain⟨b,rfl,hb⟩:=EF rx;refine Ran.same H (v:=.int .i64 b.size) (by simp[execOp,ho,hv,resolve,invoke,builtin,Builtin.len_,run_underlying hu,goInt]) ?_;rw[show b.size=s.length from by rw[<-hb];rfl];exact .int _ _
 |false =>
  simp only[J3,CG]at hd;obtain⟨e,rfl⟩:=hd;have run:∀ad n cap,v=.slice ad n cap->(execOp a.eval o).run P w=.ok (.value (.int .i64 n)) w:=by rintro ad n cap rfl;simp[execOp,ho,hv,resolve,invoke,builtin,Builtin.len_,run_underlying hu,goInt]
  cases X<;>simp only[Req.fail]at aB
  case slc st n f =>
   cases rx with
   |slc0 _ _ ad cap=>exact Ran.same H (run ad 0 cap rfl) (.int _ _)
   |slc _ _ _ b off cap=>exact Ran.same H (run _ n cap rfl) (.int _ _)
  case vec id ep lo n =>obtain⟨ad,cap,e1,_⟩:=EG H rx aB;exact Ran.same H (run _ n cap e1) (.int _ _)
  case nils =>cases rx;exact Ran.same H (run _ 0 0 rfl) (.int _ _)
theorem T9(P:Program)(w:World)(k:IntKind)(i:Int)(y:Nat)(code:BoundsCode)(h0:0<=i)(h1:i<=y):(Instr.sliceBound (.int k i) y code).run P w=.ok i.toNat w:=by simp[Instr.sliceBound,asIntOf,h0,h1]
theorem TA(P:Program)(w:World)(isSlice:Bool)(len cap:Nat)(lo hi:Option Value)(l r:Int)(cT:match lo with | none=>l=0 | some v=>∃k,v=.int k l) (du:match hi with | none=>r=len | some v=>∃k,v=.int k r) (h0:0<=l) (h1:l<=r) (h2:r<=len) (hc:len<=cap) : (Instr.sliceBounds isSlice len cap lo hi none).run P w=.ok (l.toNat,r.toNat,cap) w:=by
 have hr:∀code,(match hi with | some v=>Instr.sliceBound v cap code | none=>pure len:Sem Nat).run P w=.ok r.toNat w:=by
  intro code;cases hi with
  |none=>simp only at du;subst du;simp
  |some v=>obtain⟨k,rfl⟩:=du;exact T9 P w k r cap code (by omega) (by omega)
 have hl:(match lo with | some v=>Instr.sliceBound v r.toNat .sliceB | none=>pure 0:Sem Nat).run P w=.ok l.toNat w:=by
  cases lo with
  |none=>simp only at cT;subst cT;simp
  |some v=>obtain⟨k,rfl⟩:=cT;exact T9 P w k l _ _ h0 (by omega)
 unfold Instr.sliceBounds;cases hi with
 |none =>
  have:=hr .sliceAcap;simp only at this;simp at this;simp only[Sem.run_bind,Sem.run_pure,Result.andThen_ok];cases lo with
  |none=>simp only at hl;simp at hl;simp[hl,this]
  |some v=>simp only at hl;subst this;simp[hl]
 |some u =>
  have:=hr (if isSlice then .sliceAcap else .sliceAlen);simp only at this;simp only[Sem.run_bind,Sem.run_pure,Result.andThen_ok,this];cases lo with
  |none=>simp only at hl;simp at hl;simp[hl]
  |some v=>simp only at hl;simp[hl]
theorem wzsw{lo:Option Operand}{l:Int}(H:HR E g h w)(ht:RVs g w t a.tmps.toList)(hx:Fw lo lo'=true)(hl:CX (Ah E t) 0 lo'=some l):match lo.map a.eval with | none=>l=0 | some v=>∃k,v=.int k l:=by
 cases lo<;>cases lo'<;>simp only[Fw]at hx<;>(try (cases hx;done))
 ·simp only[CX,Ba]at hl;exact hl.symm
 ·rename_i x y;have rx:=AY H ht hx;simp only[DS];simp only[CX]at hl;generalize Ah E t y=Y at *;cases Y<;>simp only[yzh]at hl<;>(try (cases hl;done));obtain rfl:=AL hl;exact⟨_,ED rx⟩
theorem L0{r d:Int}(H:HR E g h w)(ht:RVs g w t a.tmps.toList)(hx:Fw hi aW=true)(hl:CX (Ah E t) d aW=some r):match hi.map a.eval with | none=>r=d | some v=>∃k,v=.int k r:=by
 cases hi<;>cases aW<;>simp only[Fw]at hx<;>(try (cases hx;done))
 ·simp only[CX,Ba]at hl;exact hl.symm
 ·rename_i x y;have rx:=AY H ht hx;simp only[DS];simp only[CX]at hl;generalize Ah E t y=Y at *;cases Y<;>simp only[yzh]at hl<;>(try (cases hl;done));obtain rfl:=AL hl;exact⟨_,ED rx⟩
theorem qz1q(hu:P.underlying ty=some (.slice e))(hs:szOf P e=some st)(w:World)(ad:Option Addr)(n cap:Nat)(lo hi:Option Value)(l r:Int)(cT:match lo with | none=>l=0 | some v=>∃k,v=.int k l) (du:match hi with | none=>r=n | some v=>∃k,v=.int k r) (h0:0<=l) (h1:l<=r) (h2:r<=n) (hc:n<=cap) : (Instr.sliceAt ty (.slice ad n cap) lo hi none).run P w=.ok (.slice (if cap=l.toNat then ad else ad.map (·.add (l.toNat*st))) (r.toNat-l.toNat) (cap-l.toNat)) w:=by simp only[Instr.sliceAt,Instr.slice,Sem.run_bind,run_underlying hu,Result.andThen_ok,TA P w true n cap lo hi l r cT du h0 h1 h2 hc,D6 hs,Sem.run_pure]
theorem TC{lo:Option Operand}(H:HR E g h w)(ht:RVs g w t a.tmps.toList)(ho:o.op=.slice ty x lo hi none)(hx:A7 x x'=true)(cT:Fw lo lo'=true) (du:Fw hi aW=true) (hu:P.underlying ty=some d) (hd:if isStr then d=.string else ∃e,d=.slice e/\szOf P e=some st)(aB:((Ao.slice isStr st x' lo' aW).req (Ah E t) h).ok):Ran E P (execOp a.eval o) g h w ((Ao.slice isStr st x' lo' aW).req (Ah E t) h):=by
 have rx:=AY H ht hx;simp only[Ao.req]at aB |-;generalize hX:Ah E t x'=X at aB rx |-;generalize hv:a.eval x=v at rx;cases hl:CX (Ah E t) 0 lo' with
 |none=>simp only[hl,Req.fail]at aB
 |some l =>
  simp only[hl]at aB |-;have ol:=wzsw (a:=a) H ht cT hl;have run:∀ad n cap r,isStr=false->v=.slice ad n cap->(match hi.map a.eval with | none=>r=(n:Int) | some v=>∃k,v=.int k r)->0<=l->l<=r->r<=n->n<=cap -> (execOp a.eval o).run P w=.ok (.value (.slice (if cap=l.toNat then ad else ad.map (·.add (l.toNat*st))) (r.toNat-l.toNat) (cap-l.toNat))) w:=by rintro ad n cap r rfl rfl or h0 h1 h2 hc;simp only[J3,CG]at hd;obtain⟨e,rfl,hs⟩:=hd;simp only[execOp,ho,hv,Option.map_none,Sem.run_bind,qz1q hu hs w ad n cap _ _ l r ol or h0 h1 h2 hc,Result.andThen_ok,Sem.run_pure]
  cases isStr with
  |true =>
   simp only[AX]at hd;subst hd;cases X<;>simp only[Req.fail]at aB;rename_i s;cases hr:CX (Ah E t) s.length aW with
   |none=>simp only[hr]at aB
   |some r =>
    simp only[hr]at aB |-;obtain⟨h0,h1,h2⟩:=aB;have or:=L0 (a:=a) H ht du hr;obtain⟨b,rfl,hb⟩:=EF rx;have aO:b.size=s.length:=by rw[<-hb];rfl
    rw[<-aO]at or;refine Ran.same H (v:=.string (b.extract l.toNat r.toNat)) ?_ (.str _ _ ?_)
    ·simp only[execOp,ho,hv,Option.map_none,Sem.run_bind,Instr.sliceAt,Instr.slice,run_underlying hu,Result.andThen_ok,Option.isSome_none,J3,CG,Sem.run_pure,
      TA P w false b.size b.size _ _ l r ol or h0 h1 (by omega) (AA _)]
    ·have e1:(b.extract l.toNat r.toNat).data.toList=(b.data.toList.drop l.toNat).take (r.toNat-l.toNat):=by
      simp[List.take_drop,ByteArray.data_extract,Array.toList_extract,List.extract]
     rw[e1,hb];congr 1;omega
  |false =>
   cases X<;>simp only[Req.fail]at aB
   case slc st' n f =>
    cases hr:CX (Ah E t) n aW with
    |none=>simp only[hr]at aB
    |some r =>
     simp only[hr]at aB |-;obtain⟨rfl,h0,h1,h2⟩:=aB;have or:=L0 (a:=a) H ht du hr;have er:r.toNat-l.toNat=(r-l).toNat:=by omega
     cases rx with
     |slc0 _ _ ad cap =>have e0:(r-l).toNat=0:=(by omega);have:=run ad 0 cap r rfl rfl or h0 h1 h2 (BA _);rw[er,e0]at this;refine Ran.same H this ?_;rw[e0];exact .slc0 _ _ _ _
     |slc _ _ _ b off cap vals hz aG dL hc cC bu =>
      have:=run _ n cap r rfl rfl or h0 h1 h2 aG;rw[er]at this;refine Ran.same H this ?_;by_cases e0:(r-l).toNat=0
      ·rw[e0];exact .slc0 _ _ _ _
      ·have aI:¬cap=l.toNat:=(by omega);rw[Ag aI];simp only[DS,DV];refine .slc st' _ _ b (off+l.toNat*st') _ (fun i j=>vals (l.toNat+i) j) hz (by omega) (fun i hi=>dL _ (by omega)) (fun i j hi hj=>?_) (fun i j hi hj=>cC _ _ (by omega) hj) (fun i j y hi hy=>bu _ _ _ (by omega) hy);rw[show off+l.toNat*st'+i*st'+j=off+(l.toNat+i)*st'+j from by rw[AT];omega];exact hc _ _ (by omega) hj
   case vec id ep lo0 n =>
    cases hr:CX (Ah E t) n aW with
    |none=>simp only[hr]at aB
    |some r =>
     simp only[hr]at aB |-;have hO:=H.obj id;cases hh:h id<;>simp only[hh]at aB hO |-
     case vec ep' st' m f =>
      obtain⟨rfl,rfl,h0,h1,h2⟩:=aB;have or:=L0 (a:=a) H ht du hr;have er:r.toNat-l.toNat=(r-l).toNat:=by omega
      obtain⟨ad,cap,e1,aC,aG⟩:=EG H rx (by rw[hh];rfl);have:=run (some ad) n cap r rfl e1 or h0 h1 h2 aC;rw[er]at this;refine Ran.same H this (wzsg H (by rw[hh];rfl) ?_);by_cases e0:cap=l.toNat
      ·rw[Aj e0];exact⟨ad,cap-l.toNat,rfl,by omega,.inl (by omega)⟩
      ·rw[Ag e0];rcases aG with cU|⟨rfl,hc⟩
       ·omega
       ·refine⟨_,cap-l.toNat,rfl,by omega,.inr ⟨?_,by omega⟩⟩;simp only[DV];rw[hO.1,AT,Fu]
     all_goals exact aB.elim
   case nils =>
    cases hr:CX (Ah E t) 0 aW with
    |none=>simp only[hr]at aB
    |some r =>simp only[hr]at aB |-;obtain⟨rfl,rfl⟩:=aB;have or:=L0 (a:=a) H ht du hr;cases rx;have:=run none 0 0 0 rfl rfl or (by omega) (by omega) (by omega) (by omega);simp at this;exact Ran.same H (v:=.slice none 0 0) this .nils
end
theorem TD(off:Nat):∀(vs:List Value) (k:Nat) (cs:Array Value),off+k+vs.length<=cs.size -> ((vs.zipIdx k).foldl (fun(cs:Array Value) (x:Value×Nat)=>cs.setIfInBounds (off+x.2) x.1) cs).toList=cs.toList.take (off+k)++vs++cs.toList.drop (off+k+vs.length)
 |[],k,cs,h=>by simp
 |v :: vs,k,cs,h=>by
  simp only[Bk]at h;rw[List.zipIdx_cons,List.foldl_cons,TD off vs (k+1) _ (by simp;omega)];simp only[Array.toList_setIfInBounds,Bk];have e1:(cs.toList.set (off+k) v).take (off+(k+1))=cs.toList.take (off+k)++[v]:=by rw[show off+(k+1)=(off+k)+1 from by omega,List.take_succ_eq_append_getElem (by simp;omega)];simp[List.take_set_of_le]
  have e2:(cs.toList.set (off+k) v).drop (off+(k+1)+vs.length)=cs.toList.drop (off+k+(vs.length+1)):=by rw[List.drop_set_of_lt (by omega)];congr 1;omega
  rw[e1,e2];simp
section
theorem L1{place:Nat->Option (Nat×Nat)}{ρ:Operand->Value}{arg:Ae->Aa}(hr:∀x y,A7 x y=true->RV g w (arg y) (ρ x)):∀{ps:List (Nat×Operand)} {parts:List (Nat×Nat×Ae)} {l l':List Aa} {cs:Array Value},
  HK place ps parts=true->RVs g w l cs.toList->D0 arg l parts=some l'->∃cs':Array Value,Instr.fill place cs (ps.map fun x=>(x.1,ρ x.2))=some cs'/\RVs g w l' cs'.toList
 |[],[],l,l',cs,_,bp,hf=>by simp only[D0,Ba]at hf;subst hf;exact⟨cs,rfl,bp⟩
 |(i,x) :: ps,(off,sz,y) :: parts,l,l',cs,hp,bp,hf=>by
  simp only[HK,AI]at hp;obtain⟨⟨cj,bV⟩,bF⟩:=hp;simp only[D0]at hf;cases hq:Cw (arg y) with
  |none=>simp[hq]at hf
  |some p =>
   simp only[hq]at hf;split at hf
   ·rename_i aZ;obtain⟨hl,aY⟩:=aZ;have hv:=O5 (hr x y bV) hq;have iS:(ρ x).cells.toList.length=sz:=by rw[hv.1,hl]
    have pG:(ρ x).cells.size=sz:=(by simpa using iS);have cu:=bp.1;cases dv:place i with
    |none=>simp[dv]at cj
    |some os =>
     obtain⟨o,s⟩:=os;simp only[dv,AI,Bu]at cj;obtain⟨rfl,rfl⟩:=cj;have kD:RVs g w (lay l o p) ((ρ x).cells.zipIdx.foldl (fun(cs:Array Value) (x:Value×Nat)=>cs.setIfInBounds (o+x.2) x.1) cs).toList:=by have e:=TD o (ρ x).cells.toList 0 cs (by simp at cu iS |-;omega);have e':(ρ x).cells.zipIdx.foldl (fun(cs:Array Value) (x:Value×Nat)=>cs.setIfInBounds (o+x.2) x.1) cs=((ρ x).cells.toList.zipIdx 0).foldl (fun(cs:Array Value) (x:Value×Nat)=>cs.setIfInBounds (o+x.2) x.1) cs:=(by rw[<-Array.foldl_toList];simp);rw[e',e];exact bp.lay hv o (by omega)
     obtain⟨cs'',h1,h2⟩:=L1 hr bF kD hf;refine⟨cs'',?_,h2⟩;simp only[Ot,Instr.fill,dv];have hc:¬((ρ x).cells.size≠s\/o+(ρ x).cells.size>cs.size):=by simp at cu;omega
     simp only[ne_eq,gt_iff_lt,Lq,CA]at hc |-;rw[Ag hc];exact h1
   ·cases hf
 |[],_ :: _,_,_,_,hp,_,_=>by cases hp
 |_ :: _,[],_,_,_,hp,_,_=>by cases hp
theorem TE(w:World):∀{fs:List Field} {l:List (Nat×Nat)},Gy P fs=some l->(fs.mapM (fun f=>do pure (f.offset,<-sizeOf f.type):Field->Sem (Nat×Nat))).run P w=.ok l w
 |[],l,h=>by simp only[Gy,Ba]at h;subst h;simp
 |f :: fs,l,h=>by
  simp only[Gy]at h;split at h
  ·rename_i n l' hn dL;obtain rfl:=AL h;have ih:=TE w dL;simp only[List.mapM_cons,Sem.run_bind,D6 hn,Result.andThen_ok,Sem.run_pure,ih]
  ·cases h
theorem wzjw(hz:HJ P ty zero=true)(w:World):∃z,(zeroValue ty).run P w=.ok z w/\CH z.cells.toList zero=true/\D5 P ty=some z.cells.toList:=by
 unfold HJ at hz;cases hc:D5 P ty with
 |none=>simp[hc]at hz
 |some l =>
  simp only[hc]at hz;unfold D5 at hc;cases hi:P.info? ty with
  |none=>simp[hi]at hc
  |some i =>
   obtain⟨⟩:=i;rename_i zz _ _;cases zz with
   |none=>simp[hi]at hc
   |some z =>simp only[hi,Ba]at hc;subst hc;exact⟨z,by simp[zeroValue,typeInfo,hi],hz,rfl⟩
theorem qz7d(H:HR E g h w)(ht:RVs g w t a.tmps.toList)(ho:o.op=.build ty ps)(hb:O3 P ty zero ps.toList parts=true)(aB:((Ao.build zero parts).req (Ah E t) h).ok):Ran E P (execOp a.eval o) g h w ((Ao.build zero parts).req (Ah E t) h):=by
 simp only[Ao.req]at aB |-;cases hf:D0 (Ah E t) zero parts with
 |none=>simp only[hf,Req.fail]at aB
 |some l =>
  unfold O3 at hb;simp only[AI]at hb;obtain⟨hz,hb⟩:=hb;obtain⟨z,fm,dw,_⟩:=wzjw hz w;have cW:(ps.map fun x=>(x.1,a.eval x.2)).toList=ps.toList.map fun x=>(x.1,a.eval x.2):=by simp
  cases hu:P.underlying ty with
  |none=>simp[hu]at hb
  |some d =>
   simp only[hu]at hb;cases d<;>(try (cases hb;done))
   case struct fs =>
    simp only at hb;cases kE:Gy P fs.toList with
    |none=>simp[kE]at hb
    |some pl =>
     simp only[kE]at hb;obtain⟨cs',h1,h2⟩:=L1 (fun x y bV=>AY H ht bV) hb (DU dw) hf;refine Ran.same H (v:=.agg cs') ?_ (.agg _ _ (by simpa using h2.1) (fun i x v hx hv=>h2.2 i x v hx (by simpa using hv)));have n6:(fs.mapM (fun f=>do pure (f.offset,<-sizeOf f.type):Field->Sem (Nat×Nat))).run P w=.ok pl.toArray w:=by rw[Array.mapM_eq_mapM_toList];have e:=TE w kE;simp only[Sem.run_map,e,Result.andThen_ok]
     have cj:(fun i:Nat=>pl.toArray[i]?)=(fun i:Nat=>pl[i]?):=(by funext i;simp);simp only[execOp,ho,Sem.run_bind,Instr.build,fm,Result.andThen_ok,run_underlying hu,n6,cW,cj,h1,Sem.run_pure]
   case array n e =>
    simp only at hb;cases hs:szOf P e with
    |none=>simp[hs]at hb
    |some st =>simp only[hs]at hb;obtain⟨cs',h1,h2⟩:=L1 (fun x y bV=>AY H ht bV) hb (DU dw) hf;refine Ran.same H (v:=.agg cs') ?_ (.agg _ _ (by simpa using h2.1) (fun i x v hx hv=>h2.2 i x v hx (by simpa using hv)));simp only[execOp,ho,Sem.run_bind,Instr.build,fm,Result.andThen_ok,run_underlying hu,D6 hs,cW,h1,Sem.run_pure]
theorem O6{st:Nat}:∀(n:Nat) (l:List Aa) (k:Nat),l.length=n*st->k<n->(Gl st n l).getD k []=(l.drop (k*st)).take st
 |0,l,k,_,hk=>by omega
 |n+1,l,0,hl,_=>by simp[Gl]
 |n+1,l,k+1,hl,hk=>by
  have e:(n+1)*st=n*st+st:=BR n st;have dL:(l.drop st).length=n*st:=by simp;omega
  have:=O6 n (l.drop st) k dL (by omega);simp only[Gl,List.getD_cons_succ,this,Oo];congr 2;have e:(k+1)*st=k*st+st:=BR k st;omega
theorem L2(hb:g'.blk s=b)(h0:g'.bo s=0)(hc:g'.cp s=n)(hm:m<=n):Gw g' s 0 m (.slice (some ⟨b,0,none⟩) m n) := ⟨⟨b,0,none⟩,n,rfl,hm,.inr ⟨by rw[hb,h0];simp,by omega⟩⟩
theorem TF(H:HR E g h w)(ht:RVs g w t a.tmps.toList)(ho:o.op=.buildSlice ty n ps)(hb:HM P ty n st nn zero ps.toList parts=true) (hf:D0 (Ah E t) zero parts=some l) (hl:l.length=nn*st) :
  n=nn/\∃(e:TypeId) (cs':Array Value),RVs g w l cs'.toList/\cs'.size=n*st/\(execOp a.eval o).run P w=.ok (.value (.slice (some ⟨w.heap.size,0,none⟩) n n)) { w with heap:=w.heap.push (.cells cs' e (0,0)) }:=by
  unfold HM at hb;simp only[AI,Bu,CA]at hb;obtain⟨⟨rfl,n9⟩,hb⟩:=hb;refine⟨rfl,?_⟩;have cW:(ps.map fun x=>(x.1,a.eval x.2)).toList=ps.toList.map fun x=>(x.1,a.eval x.2):=by simp
  cases hu:P.underlying ty with
  |none=>simp[hu]at hb
  |some d =>
   simp only[hu]at hb;cases d<;>(try (cases hb;done))
   case slice e =>
    simp only[AI,Bu]at hb;obtain⟨⟨hs,hz⟩,hp⟩:=hb;cases dw:D5 P e with
    |none=>simp[dw]at hz
    |some z0 =>
     simp only[dw,AI,CA]at hz;obtain⟨hz,jZ⟩:=hz
     have aF:∃zc:Array Value,(if n*st=0 then pure #[] else do pure (<-zeroValue e).cells:Sem (Array Value)).run P w=.ok zc w/\RVs g w zero ((Array.range (n*st)).map (zc[·%zc.size]!)).toList:=by
      unfold D5 at dw;cases hi:P.info? e with
      |none=>simp[hi]at dw
      |some i =>
       obtain⟨⟩:=i;rename_i zz _ _;cases zz with
       |none=>simp[hi]at dw
       |some z =>
        simp only[hi,Ba]at dw;subst dw;by_cases e0:n*st=0
        ·refine⟨#[],?_,?_⟩;·rw[Aj e0];simp
         ·rw[e0]at hz |-;simpa [HL] using DU (g:=g) (w:=w) hz
        ·refine⟨z.cells,?_,?_⟩;·rw[Ag e0];simp[zeroValue,typeInfo,hi]
         ·have:=DU (g:=g) (w:=w) hz
          have eq:((Array.range (n*st)).map (z.cells[·%z.cells.size]!)).toList=HL z.cells.toList (n*st):=by
           simp only[HL,Array.toList_map,Array.toList_range,Array.length_toList];apply H8;intro i hi;have dW:0<z.cells.size:=by simpa using jZ
           have hlt:i%z.cells.size<z.cells.size:=Gj _ dW;simp[List.getD,hlt,getElem!_pos]
          rw[eq];exact this
     obtain⟨zc,bv,kF⟩:=aF;obtain⟨cs',ml,fV⟩:=L1 (fun x y bV=>AY H ht bV) hp kF hf;have aE:cs'.size=n*st:=by have:=fV.1;simp at this;omega
     have aP:(execOp a.eval o).run P w=.ok (.value (.slice (some ⟨w.heap.size,0,none⟩) n n)) { w with heap:=w.heap.push (.cells cs' e (0,0)) }:=by
      have fA:¬(n*st>2 ^ 24):=(by omega);by_cases e0:n*st=0
      ·rw[Aj e0]at bv;simp only[Sem.run_pure,Result.ok.injEq,and_true]at bv;subst bv;simp only[execOp,ho,Sem.run_bind,Instr.buildSlice,run_underlying hu,Result.andThen_ok,D6 hs,Ag fA,Aj e0,cW,Sem.run_pure,ml,newRow,run_newObj]
      ·rw[Ag e0]at bv;simp only[Sem.run_bind]at bv;generalize hq:(zeroValue e).run P w=q at bv;cases q with
       |halt x y=>simp at bv
       |ok zv w1 =>simp only[Result.andThen_ok,Sem.run_pure,Result.ok.injEq]at bv;obtain⟨rfl,rfl⟩:=bv;simp only[execOp,ho,Sem.run_bind,Instr.buildSlice,run_underlying hu,Result.andThen_ok,D6 hs,Ag fA,Ag e0,cW,Sem.run_pure,hq,ml,newRow,run_newObj]
     exact⟨e,cs',fV,aE,aP⟩
theorem qz4n(H:HR E g h w)(ht:RVs g w t a.tmps.toList)(ho:o.op=.buildSlice ty n ps)(hb:HM P ty n st nn zero ps.toList parts=true)(aB:((Ao.bslice s st nn zero parts).req (Ah E t) h).ok):Ran E P (execOp a.eval o) g h w ((Ao.bslice s st nn zero parts).req (Ah E t) h):=by
 simp only[Ao.req]at aB |-;cases hf:D0 (Ah E t) zero parts with
 |none=>simp only[hf,Req.fail]at aB
 |some l =>
  simp only[hf]at aB |-;obtain⟨_,hl,aL,h1⟩:=aB;obtain⟨rfl,e,cs',fV,aE,aP⟩:=TF H ht ho hb hf hl;refine Ran.new (ob:=.cells cs' e (0,0)) (bo:=0) (st:=st) (cp:=n) H ⟨w,rfl,rfl,rfl,rfl,AA _,aP⟩ rfl ?_;intro g' w' aC aN cy bw b7 aM;refine⟨⟨bw,aL,by omega,cs',e,by rw[aN];exact aM,by rw[cy,b7,aE];omega,fun k hk=>?_⟩,fun he=>?_⟩
  ·have aS:=O6 n l k hl hk;have ka:k*st+st<=n*st:=by have:(k+1)*st<=n*st:=Bd _ (by omega);rw[BR]at this;exact this
   show((Gl st n l).getD k []).length=st/\∀(j:Nat) (x:Aa) (v:Value),((Gl st n l).getD k [])[j]?=some x->cs'[g'.bo s+k*st+j]?=some v->v.oneCell'=true/\RV g' w' x v;rw[aS];refine⟨by simp;omega,fun j x v hx hv=>?_⟩;rw[HF]at hx;split at hx
   ·rw[Ge]at hx;rw[cy,Bn]at hv;have cw:cs'.toList[k*st+j]?=some v:=by simpa using hv
    exact⟨G0 fV h1 v (AG cw),(fV.2 _ x v hx cw).mono aC⟩
   ·cases hx
  ·refine .vec _ _ _ _ _ rfl (by rw[he];exact AA _) (fun _=>L2 aN cy b7 (AA _))
end
section
theorem HP(hq:D4 P ft=some agg)(hs:agg=true->szOf P ft=some sz)(h1:agg=false->sz=1)(w:World)(cs:Array Value)(off:Nat)(hb:off+sz<=cs.size) : (part ft cs off).run P w=.ok (if agg then .agg ((cs.toList.drop off).take sz).toArray else((cs.toList.drop off).take sz).getD 0 undef) w:=by
 simp only[part,Sem.run_bind,Tw hq,Result.andThen_ok];cases agg with
 |true =>
  have e:cs.extract off (off+sz)=((cs.toList.drop off).take sz).toArray:=by apply Array.ext';simp[Array.toList_extract,List.extract]
  simp[D6 (hs rfl),e]
 |false =>
  obtain rfl:=h1 rfl;have:off<cs.size:=by omega
  simp[this,List.getD]
def DW:Aa->Aa->Option Bool
 |.int k a,.int k' b=>if k=k' then some (decide (a=b)) else none
 |.bool a,.bool b=>some (a==b)
 |.str a,.str b=>some (decide (a=b))
 |_,_=>none
theorem JF(x y:Aa)(l m:List Aa):BP (x :: l) (y :: m)=(match DW x y,BP l m with | some c,some e=>some (c&&e) | _,_=>none):=by cases x<;>cases y<;>simp only[BP,DW]<;>(try (cases BP l m<;>rfl));rename_i k a k' b;cases BP l m<;>by_cases e:k=k'<;>simp[e]
theorem G3:∀{l m:List Aa} {e:Bool},BP l m=some e->l.length=m.length
 |[],[],_,_=>rfl
 |x :: l,y :: m,e,h=>by
  rw[JF]at h;cases hc:DW x y with
  |none=>simp[hc]at h
  |some c =>
   cases he:BP l m with
   |none=>simp[hc,he]at h
   |some e'=>simp[G3 he]
 |[],_ :: _,_,h=>by simp[BP]at h
 |_ :: _,[],_,h=>by simp[BP]at h
theorem O7:∀{l m:List Aa} {e:Bool} (k:Nat),k<=l.length->BP l m=some e->∃e1 e2,BP (l.take k) (m.take k)=some e1/\BP (l.drop k) (m.drop k)=some e2/\e=(e1&&e2)
 |l,m,e,0,_,h=>⟨true,e,by simp[BP],by simpa using h,by simp⟩
 |[],m,e,k+1,hk,h=>by simp at hk
 |x :: l,[],e,k+1,hk,h=>by simp[BP]at h
 |x :: l,y :: m,e,k+1,hk,h=>by
  rw[JF]at h;cases hc:DW x y with
  |none=>simp[hc]at h
  |some c =>
   cases he:BP l m with
   |none=>simp[hc,he]at h
   |some e' =>simp only[hc,he,Ba]at h;subst h;obtain⟨e1,e2,h1,h2,rfl⟩:=O7 k (by simpa using hk) he;exact⟨c&&e1,e2,by simp[JF,hc,h1],by simpa using h2,by simp[Bool.and_assoc]⟩
theorem TG{x y:Aa}(hc:DW x y=some c)(hx:RV g w x u)(hy:RV g w y v) : (∃k a b,u=.int k a/\v=.int k b/\c=decide (a=b))\/(∃a b,u=.bool a/\v=.bool b/\c=(a==b))\/(∃a b:ByteArray,u=.string a/\v=.string b/\c=(a==b)):=by
 cases x<;>cases y<;>simp only[DW]at hc<;>(try (cases hc;done))
 ·split at hc;·rename_i e;subst e;obtain rfl:=AL hc;exact .inl ⟨_,_,_,ED hx,ED hy,rfl⟩
  ·cases hc
 ·obtain rfl:=AL hc;exact .inr (.inl ⟨_,_,Df hx,Df hy,rfl⟩)
 ·obtain rfl:=AL hc;obtain⟨b1,rfl,e1⟩:=EF hx;obtain⟨b2,rfl,e2⟩:=EF hy;refine .inr (.inr ⟨b1,b2,rfl,rfl,?_⟩);rw[<-e1,<-e2,beq_toListBytes,bytes_beq]
theorem TH{t:TypeId}(hu:P.underlying t=some (.struct fs)):P.fieldsOf t=fs:=by simp[Program.fieldsOf,hu]
def CL(agg:Bool)(cs:List Value):Value:=if agg then .agg cs.toArray else cs.getD 0 undef
theorem qz3j{t:TypeId}(h:szOf P t=some n):∃i,P.info? t=some i/\P.cellsOf t=n:=by
 unfold szOf at h;cases hi:P.info? t with
 |none=>simp[hi]at h
 |some i=>simp[hi]at h;exact⟨i,rfl,by simp[Program.cellsOf,hi,h]⟩
theorem TI:∀(d:Nat) (t:TypeId) (sh:List Nat),eqFields P d t=some sh->∃agg,D4 P t=some agg/\(agg=false->sh.length=1) /\ ∀(D:Nat),d<=D->∀(l m:List Aa) (xs ys:List Value) (e:Bool) (w':World),l.map Aa.kind=sh->RVs g w l xs->RVs g w m ys->BP l m=some e -> (Op.equalIn D t (CL agg xs) (CL agg ys)).run P w'=.ok e w':=by
 intro d;induction d with
 |zero=>intro t sh h;simp[eqFields]at h
 |succ d ih =>
  intro t sh h
  have one:∀(k:Nat) (l m:List Aa) (xs ys:List Value) (e:Bool),l.map Aa.kind=[k]->RVs g w l xs->RVs g w m ys->BP l m=some e -> ∃x y u v,CL false xs=u/\CL false ys=v/\DW x y=some e/\RV g w x u/\RV g w y v/\x.kind=k:=by
   intro k l m xs ys e hl hx hy he;have kG:=G3 he;have c9:l.length=1:=by have:=Gk List.length hl;simpa using this
   have fB:=hx.1;have iT:=hy.1;obtain⟨x,rfl⟩:=List.length_eq_one_iff.1 c9;obtain⟨y,rfl⟩:=List.length_eq_one_iff.1 (kG.symm.trans c9);obtain⟨u,rfl⟩:=List.length_eq_one_iff.1 fB;obtain⟨v,rfl⟩:=List.length_eq_one_iff.1 iT;refine⟨x,y,u,v,rfl,rfl,?_,hx.2 0 x u rfl rfl,hy.2 0 y v rfl rfl,by simpa using hl⟩;rw[JF]at he;cases hc:DW x y with
   |none=>simp[hc]at he
   |some c=>simpa [hc,BP] using he
  have kinds:∀{x y:Aa} {u v:Value} {c:Bool} {k:Nat},DW x y=some c->RV g w x u->RV g w y v->x.kind=k -> (k=1->∃q a b,u=.int q a/\v=.int q b/\c=decide (a=b))/\(k=0->∃a b,u=.bool a/\v=.bool b/\c=(a==b))/\(k=2->∃a b:ByteArray,u=.string a/\v=.string b/\c=(a==b)):=by
   intro x y u v c k hc rx ry hk;subst hk;rcases TG hc rx ry with ⟨q,a,b,rfl,rfl,rfl⟩|⟨a,b,rfl,rfl,rfl⟩|⟨a,b,rfl,rfl,rfl⟩
   ·refine⟨fun _=>⟨q,a,b,rfl,rfl,rfl⟩,fun h=>?_,fun h=>?_⟩<;>(cases x<;>simp[Aa.kind]at h<;>cases rx)
   ·refine⟨fun h=>?_,fun _=>⟨a,b,rfl,rfl,rfl⟩,fun h=>?_⟩<;>(cases x<;>simp[Aa.kind]at h<;>cases rx)
   ·refine⟨fun h=>?_,fun h=>?_,fun _=>⟨a,b,rfl,rfl,rfl⟩⟩<;>(cases x<;>simp[Aa.kind]at h<;>cases rx)
  simp only[eqFields]at h;cases hu:P.underlying t with
  |none=>simp[hu]at h
  |some q =>
   simp only[hu]at h;cases q<;>simp only at h<;>(try (cases h;done))
   case bool =>obtain rfl:=AL h;refine⟨false,by simp[D4,hu],fun _=>rfl,fun D hD l m xs ys e w' hl hx hy he=>?_⟩;obtain⟨D,rfl⟩:∃D',D=D'+1:=⟨D-1,by omega⟩;obtain⟨x,y,u,v,e1,e2,hc,rx,ry,hk⟩:=one 0 l m xs ys e hl hx hy he;obtain⟨a,b,rfl,rfl,rfl⟩:=(kinds hc rx ry hk).2.1 rfl;rw[e1,e2];exact run_equalIn_bool' w' D t a b hu
   case int k =>obtain rfl:=AL h;refine⟨false,by simp[D4,hu],fun _=>rfl,fun D hD l m xs ys e w' hl hx hy he=>?_⟩;obtain⟨D,rfl⟩:∃D',D=D'+1:=⟨D-1,by omega⟩;obtain⟨x,y,u,v,e1,e2,hc,rx,ry,hk⟩:=one 1 l m xs ys e hl hx hy he;obtain⟨q,a,b,rfl,rfl,rfl⟩:=(kinds hc rx ry hk).1 rfl;rw[e1,e2,run_equalIn_int w' D t q k a b hu];rfl
   case string =>obtain rfl:=AL h;refine⟨false,by simp[D4,hu],fun _=>rfl,fun D hD l m xs ys e w' hl hx hy he=>?_⟩;obtain⟨D,rfl⟩:∃D',D=D'+1:=⟨D-1,by omega⟩;obtain⟨x,y,u,v,e1,e2,hc,rx,ry,hk⟩:=one 2 l m xs ys e hl hx hy he;obtain⟨a,b,rfl,rfl,rfl⟩:=(kinds hc rx ry hk).2.2 rfl;rw[e1,e2,run_equalIn_string w' D t a b hu,beq_toListBytes]
   case struct fs =>
    split at h
    ·cases h
    ·rename_i aL;refine⟨true,by simp[D4,hu],(fun e=>by cases e),fun D hD l m xs ys e w' hl hx hy he=>?_⟩;obtain⟨D,rfl⟩:∃D',D=D'+1:=⟨D-1,by omega⟩;have ht:P.underlying t=some (.struct (P.fieldsOf t)):=by rw[TH hu];exact hu
     show(Op.equalIn (D+1) t (.agg xs.toArray) (.agg ys.toArray)).run P w'=_;rw[run_equalIn_struct w' D t _ _ ht (by simpa using aL),TH hu]
     have go:∀(fl:List Field) (n:Nat) (sh:List Nat) (l m:List Aa) (e:Bool),CJ P (eqFields P d) fl n=some sh->l.map Aa.kind=sh->RVs g w l (xs.drop n)->RVs g w m (ys.drop n)->BP l m=some e -> (Op.eqFields D xs.toArray ys.toArray fl).run P w'=.ok e w':=by
      intro fl;induction fl with
      |nil =>
       intro n sh l m e h1 h2 h3 h4 h5;simp only[CJ,Ba]at h1;subst h1;have:l=[]:=by simpa using h2
       subst this;have:m=[]:=by have:=G3 h5;simpa using this.symm
       subst this;simp only[BP,Ba]at h5;subst h5;simp[Op.eqFields]
      |cons f fl ihf =>
       intro n sh l m e h1 h2 h3 h4 h5;simp only[CJ]at h1;split at h1
       ·rename_i aZ;obtain⟨eC,fA⟩:=aZ;cases hm:eqFields P d f.type with
        |none=>simp[hm]at h1
        |some sm =>
         simp only[hm]at h1;split at h1
         ·rename_i dx;obtain⟨aO,bt⟩:=dx;cases hg:CJ P (eqFields P d) fl (n+sm.length) with
          |none=>simp[hg]at h1
          |some sl =>
           simp only[hg,Ba]at h1;subst h1;have c9:l.length=sm.length+sl.length:=by have:=Gk List.length h2;simpa using this
           obtain⟨c1,c2,q1,q2,rfl⟩:=O7 sm.length (by omega) h5;obtain⟨agg,bh,cC,aP⟩:=ih f.type sm hm;have kG:=G3 h5;have fB:=h3.1;have iT:=h4.1;simp only[H7]at fB iT;have px:=HP (P:=P) bh (fun _=>aO) cC w' xs.toArray n (by simp;omega);have py:=HP (P:=P) bh (fun _=>aO) cC w' ys.toArray n (by simp;omega);have ij:RVs g w (l.take sm.length) ((xs.drop n).take sm.length):=h3.take _;have kH:RVs g w (m.take sm.length) ((ys.drop n).take sm.length):=h4.take _;have k1:(l.take sm.length).map Aa.kind=sm:=by rw[List.map_take,h2];simp
           have k2:(l.drop sm.length).map Aa.kind=sl:=(by rw[List.map_drop,h2];simp);have dM:=aP D (by omega) _ _ _ _ c1 w' k1 ij kH q1;have kI:RVs g w (l.drop sm.length) (xs.drop (n+sm.length)):=(by have:=h3.drop sm.length;rwa [Oo]at this);have kJ:RVs g w (m.drop sm.length) (ys.drop (n+sm.length)):=(by have:=h4.drop sm.length;rwa [Oo]at this);have fo:=ihf (n+sm.length) sl _ _ c2 hg k2 kI kJ q2;simp only[CL]at dM;simp only[Op.eqFields,Aj fA,Sem.run_bind,eC,px,py,Result.andThen_ok,dM];cases c1 with
           |true=>simpa using fo
           |false=>simp
         ·cases h1
       ·cases h1
     exact go fs.toList 0 sh l m e h hl (by simpa using hx) (by simpa using hy) he
   case array n el =>
    cases hm:eqFields P d el with
    |none=>simp[hm]at h
    |some sm =>
     simp only[hm]at h;split at h
     ·rename_i dx;obtain⟨aO,bt⟩:=dx;obtain rfl:=AL h;obtain⟨agg,bh,cC,aP⟩:=ih el sm hm;refine⟨true,by simp[D4,hu],(fun e=>by cases e),fun D hD l m xs ys e w' hl hx hy he=>?_⟩;obtain⟨D,rfl⟩:∃D',D=D'+1:=⟨D-1,by omega⟩;obtain⟨ti,nA,nB⟩:=qz3j aO;show(Op.equalIn (D+1) t (.agg xs.toArray) (.agg ys.toArray)).run P w'=_;rw[run_equalIn_array w' D _ _ hu nA,nB]
      have go:∀(n k:Nat) (l m:List Aa) (e:Bool),l.map Aa.kind=(List.replicate n sm).flatten->RVs g w l (xs.drop (k*sm.length))->RVs g w m (ys.drop (k*sm.length))->BP l m=some e -> (Op.eqItems D el sm.length xs.toArray ys.toArray (List.range' k n)).run P w'=.ok e w':=by
       intro n;induction n with
       |zero =>
        intro k l m e h2 h3 h4 h5;have:l=[]:=by simpa using h2
        subst this;have:m=[]:=by have:=G3 h5;simpa using this.symm
        subst this;simp only[BP,Ba]at h5;subst h5;simp[Op.eqItems]
       |succ n ihn =>
        intro k l m e h2 h3 h4 h5;rw[List.replicate_succ,List.flatten_cons]at h2;have c9:sm.length<=l.length:=by have:=Gk List.length h2;simp only[J5,Db]at this;omega
        obtain⟨c1,c2,q1,q2,rfl⟩:=O7 sm.length c9 h5;have kG:=G3 h5;have fB:=h3.1;have iT:=h4.1;simp only[H7]at fB iT;have px:=HP (P:=P) bh (fun _=>aO) cC w' xs.toArray (k*sm.length) (by simp;omega);have py:=HP (P:=P) bh (fun _=>aO) cC w' ys.toArray (k*sm.length) (by simp;omega);have ij:RVs g w (l.take sm.length) ((xs.drop (k*sm.length)).take sm.length):=h3.take _;have kH:RVs g w (m.take sm.length) ((ys.drop (k*sm.length)).take sm.length):=h4.take _;have k1:(l.take sm.length).map Aa.kind=sm:=by rw[List.map_take,h2];simp
        have k2:(l.drop sm.length).map Aa.kind=(List.replicate n sm).flatten:=(by rw[List.map_drop,h2];simp);have dM:=aP D (by omega) _ _ _ _ c1 w' k1 ij kH q1;have e2:k*sm.length+sm.length=(k+1)*sm.length:=(by rw[AT,Nat.one_mul]);have kI:RVs g w (l.drop sm.length) (xs.drop ((k+1)*sm.length)):=(by have:=h3.drop sm.length;rwa [Oo,e2]at this);have kJ:RVs g w (m.drop sm.length) (ys.drop ((k+1)*sm.length)):=(by have:=h4.drop sm.length;rwa [Oo,e2]at this);have fo:=ihn (k+1) _ _ c2 k2 kI kJ q2;simp only[CL]at dM;simp only[List.range'_succ,Op.eqItems,Sem.run_bind,px,py,Result.andThen_ok,dM];cases c1 with
        |true=>simpa using fo
        |false=>simp
      rw[List.range_eq_range'];exact go n 0 l m e hl (by simpa using hx) (by simpa using hy) he
     ·cases h
theorem TJ:∀{l m:List Aa} {xs ys:List Value},RVs g w l xs->RVs g w m ys->BP l m=some true->xs=ys
 |[],m,xs,ys,hx,hy,h=>by have:=G3 h;have h1:=hx.1;have h2:=hy.1;have e1:xs=[]:=Li (by simpa using h1);have e2:ys=[]:=Li (by simp at this;omega);rw[e1,e2]
 |x :: l,[],xs,ys,hx,hy,h=>by simp[BP]at h
 |x :: l,y :: m,xs,ys,hx,hy,h=>by
  cases xs with
  |nil=>have:=hx.1;simp at this
  |cons u xs =>
   cases ys with
   |nil=>have:=hy.1;simp at this
   |cons v ys =>
    rw[JF]at h;cases hc:DW x y with
    |none=>simp[hc]at h
    |some c =>
     cases he:BP l m with
     |none=>simp[hc,he]at h
     |some e' =>
      simp only[hc,he,Ba,AI]at h;obtain⟨rfl,rfl⟩:=h;have e1:xs=ys:=TJ (l:=l) (m:=m) (by have:=hx.drop 1;simpa using this) (by have:=hy.drop 1;simpa using this) he
      have e2:u=v:=by
       rcases TG hc (hx.2 0 x u rfl rfl) (hy.2 0 y v rfl rfl) with ⟨k,a,b,rfl,rfl,e⟩|⟨a,b,rfl,rfl,e⟩|⟨a,b,rfl,rfl,e⟩
       ·simp at e;rw[e]
       ·simp at e;rw[e]
       ·rw[beq_toListBytes,bytes_beq]at e;have e:a.data.toList=b.data.toList:=(by simpa using e);have:a=b:=(by obtain⟨⟨a⟩⟩:=a;obtain⟨⟨b⟩⟩:=b;simp at e;rw[e]);rw[this]
      rw[e1,e2]
theorem qzr8:∀(d:Nat) (t:TypeId) (sh:List Nat),eqFields P d t=some sh->∃agg,D4 P t=some agg/\(agg=false->sh.length=1) /\
  ∀(D:Nat),d<=D->∀(xs:List Value) (em:Bool) (w':World),xs.length=sh.length->(Instr.checkKey em D t (CL agg xs)).run P w'=.ok () w':=by
 intro d
 induction d with
 |zero=>intro t sh h;simp[eqFields]at h
 |succ d ih =>
  intro t sh h
  simp only[eqFields]at h
  cases hu:P.underlying t with
  |none=>simp[hu]at h
  |some q =>
   simp only[hu]at h
   cases q<;>simp only at h<;>(try (cases h;done))
   case struct fs =>
    split at h
    ·cases h
    ·rename_i aL
     refine⟨true,by simp[D4,hu],(fun e=>by cases e),fun D hD xs em w' hl=>?_⟩
     obtain⟨D,rfl⟩:∃D',D=D'+1:=⟨D-1,by omega⟩
     show(Instr.checkKey em (D+1) t (.agg xs.toArray)).run P w'=_
     unfold Instr.checkKey
     simp only[Sem.run_bind,run_underlying hu,Result.andThen_ok]
     rw[<-Array.forIn_toList]
     have go:∀(fl:List Field) (n:Nat) (sh:List Nat),CJ P (eqFields P d) fl n=some sh->n+sh.length<=xs.length ->
       (forIn fl PUnit.unit (fun(f:Field) (r:PUnit)=>(do
        if f.name ≠ "_" then do
         Instr.checkKey em D f.type (<-part f.type xs.toArray f.offset)
         pure (ForInStep.yield PUnit.unit)
        else pure (ForInStep.yield PUnit.unit):Sem (ForInStep PUnit)))).run P w'=.ok PUnit.unit w':=by
      intro fl
      induction fl with
      |nil=>intro n sh h1 h2;simp
      |cons f fl ihf =>
       intro n sh h1 h2
       simp only[CJ]at h1
       split at h1
       ·rename_i aZ
        obtain⟨eC,fA⟩:=aZ
        cases hm:eqFields P d f.type with
        |none=>simp[hm]at h1
        |some sm =>
         simp only[hm]at h1
         split at h1
         ·rename_i dx
          obtain⟨aO,bt⟩:=dx
          cases hg:CJ P (eqFields P d) fl (n+sm.length) with
          |none=>simp[hg]at h1
          |some sl =>
           simp only[hg,Ba]at h1
           subst h1
           simp only[Db]at h2
           obtain⟨agg,bh,cC,aP⟩:=ih f.type sm hm
           have px:=HP (P:=P) bh (fun _=>aO) cC w' xs.toArray n (by simp;omega)
           have dM:=aP D (by omega) ((xs.drop n).take sm.length) em w' (by simp;omega)
           have fo:=ihf (n+sm.length) sl hg (by omega)
           simp only[CL]at dM
           simp only[List.forIn_cons,Sem.run_bind,Aj fA,eC,px,Result.andThen_ok,dM,Sem.run_pure]
           exact fo
         ·cases h1
       ·cases h1
     rw[go fs.toList 0 sh h (by omega)];simp
   case array n el =>
    cases hm:eqFields P d el with
    |none=>simp[hm]at h
    |some sm =>
     simp only[hm]at h
     split at h
     ·rename_i dx
      obtain⟨aO,bt⟩:=dx
      obtain rfl:=AL h
      obtain⟨agg,bh,cC,aP⟩:=ih el sm hm
      refine⟨true,by simp[D4,hu],(fun e=>by cases e),fun D hD xs em w' hl=>?_⟩
      obtain⟨D,rfl⟩:∃D',D=D'+1:=⟨D-1,by omega⟩
      show(Instr.checkKey em (D+1) t (.agg xs.toArray)).run P w'=_
      unfold Instr.checkKey
      simp only[Sem.run_bind,run_underlying hu,Result.andThen_ok]
      simp only[Std.Legacy.Range.forIn_eq_forIn_range',Std.Legacy.Range.size,Nat.sub_zero,Nat.add_one_sub_one,Nat.div_one]
      have go:∀(n k:Nat),(k+n)*sm.length<=xs.length ->
        (forIn (List.range' k n) PUnit.unit (fun(i:Nat) (r:PUnit)=>(do
         Instr.checkKey em D el (<-part el xs.toArray (i*(<-sizeOf el)))
         pure (ForInStep.yield PUnit.unit):Sem (ForInStep PUnit)))).run P w'=.ok PUnit.unit w':=by
       intro n
       induction n with
       |zero=>intro k h2;simp
       |succ n ihn =>
        intro k h2
        have e2:k*sm.length+sm.length<=xs.length:=by
         refine AU ?_ h2
         rw[<-BR]
         exact Bd _ (by omega)
        have px:=HP (P:=P) bh (fun _=>aO) cC w' xs.toArray (k*sm.length) (by simp;omega)
        have dM:=aP D (by omega) ((xs.drop (k*sm.length)).take sm.length) em w' (by simp;omega)
        have fo:=ihn (k+1) (by rwa [show k+1+n=k+(n+1) by omega])
        simp only[CL]at dM
        simp only[List.range'_succ,List.forIn_cons,Sem.run_bind,D6 aO,px,Result.andThen_ok,dM,Sem.run_pure]
        exact fo
      have aE:(0+n)*sm.length<=xs.length:=by
       rw[hl,Bn];simp
      rw[go n 0 aE];simp
     ·cases h
   all_goals
    obtain rfl:=AL h
    refine⟨false,by simp[D4,hu],fun _=>rfl,fun D hD xs em w' hl=>?_⟩
    obtain⟨D,rfl⟩:∃D',D=D'+1:=⟨D-1,by omega⟩
    generalize CL false xs=v
    unfold Instr.checkKey
    simp only[Sem.run_bind,run_underlying hu,Result.andThen]
    cases v<;>rfl
theorem TK(H:HR E g h w)(ht:RVs g w t a.tmps.toList)(ho:o.op=.binOp (if ng then .neq else .eql) ty x y yt)(hx:A7 x x'=true)(hy:A7 y y'=true)(hg:P.eqGuardType P.depth ty=false) (hs:eqFields P 9 ty=some sh) (hu:P.underlying ty=some (.struct fs))(aB:((Ao.eqagg sh ng x' y').req (Ah E t) h).ok):Ran E P (execOp a.eval o) g h w ((Ao.eqagg sh ng x' y').req (Ah E t) h):=by
 have rx:=AY H ht hx;have ry:=AY H ht hy;simp only[Ao.req]at aB |-;generalize Ah E t x'=X at *;generalize Ah E t y'=Y at *;generalize fC:a.eval x=u at rx;generalize mn:a.eval y=v at ry;cases X<;>(try simp only[Req.fail]at aB)
 case agg l =>
  cases Y<;>(try simp only[Req.fail]at aB);rename_i m;cases he:BP l m with
  |none=>simp only[he]at aB
  |some e =>
   simp only[he]at aB |-;have aB:l.map Aa.kind=sh:=aB;cases rx with
   |agg _ xs fp fW =>
    cases ry with
    |agg _ ys kK kL =>
     have c7:RVs g w l xs.toList:=⟨by simpa using fp,fun i x v hx hv=>fW i x v hx (by simpa using hv)⟩;have kb:RVs g w m ys.toList:=⟨by simpa using kK,fun i x v hx hv=>kL i x v hx (by simpa using hv)⟩;obtain⟨agg,bh,_,aP⟩:=TI (P:=P) (g:=g) (w:=w) 9 ty sh hs;obtain rfl:agg=true:=(by simp only[D4,hu,DS,Ba]at bh;exact bh.symm);have hq:=aP 10000 (by omega) l m _ _ e w aB c7 kb he;simp only[CL,AX,J2]at hq;cases ng with
     |false =>refine Ran.same H (v:=.bool e) ?_ (.bool _);simp only[J3,CG]at ho;simp only[execOp,ho,fC,mn,Sem.run_bind,run_eqGuard_agg w .eql ty x y xs ys hg,Result.andThen_ok,run_eql_struct,hq,Sem.run_pure]
     |true =>refine Ran.same H (v:=.bool (!e)) ?_ (.bool _);simp only[AX]at ho;simp only[execOp,ho,fC,mn,Sem.run_bind,run_eqGuard_agg w .neq ty x y xs ys hg,Result.andThen_ok,run_neq_struct,hq,Sem.run_pure]
end
section
def B5(st m:Nat)(vals:Nat->Nat->Value):List Value:=(List.range (m*st)).map fun q=>vals (q / st) (q%st)
theorem EH(st m:Nat)(vals:Nat->Nat->Value):(B5 st m vals).length=m*st:=by simp[B5]
theorem HQ{k:Nat}(hk:k<m)(hj:j<st):(B5 st m vals)[k*st+j]?=some (vals k j):=by
 have hb:k*st+j<m*st:=by have:(k+1)*st<=m*st:=Bd _ hk;rw[BR]at this;omega
 have h0:0<st:=by omega
 rw[B5,H6,Tg hb];simp only[DS];rw[Bc k st,Lu h0,Jt hj,Ou,C9 hj,Gg]
theorem HS{q:Nat}(hq:(B5 st m vals)[q]?=some v):∃k j,k<m/\j<st/\q=k*st+j/\v=vals k j:=by
 have hlt:q<m*st:=by have:=(A8.1 hq).1;simpa [B5] using this
 have h0:0<st:=by
  rcases EA st with e|e
  ·rw[e]at hlt;simp at hlt
  ·exact e
 have hk:q / st<m:=by rw[H9 h0];exact hlt
 have hj:q%st<st:=Gj _ h0;refine⟨q / st,q%st,hk,hj,by rw[Bc];exact(Js q st).symm,?_⟩;rw[B5,H6,Tg hlt]at hq;simpa using hq.symm
structure L3(g:Gh)(w:World)(st m:Nat)(f:Nat->List Aa)(v:Value)(vals:Nat->Nat->Value):Prop where
 val:∃ad cap,v=.slice ad m cap/\m<=cap/\(m=0\/∃b off,ad=some ⟨b,off,none⟩/\∀k j,k<m->j<st->w.cell? ⟨b,off+(k*st+j),none⟩=some (vals k j))
 len:∀k,k<m->(f k).length=st
 one:∀k j,k<m->j<st->(vals k j).oneCell'=true
 rv:∀(k j:Nat) (x:Aa),k<m->(f k)[j]?=some x->RV g w x (vals k j)
theorem JG{Y:Aa}(H:HR E g h w)(hv:RV g w Y v)(aB:(Bo st Y h).ok)(aL:(Bo st Y h).st=st):∃vals,L3 g w st (Bo st Y h).n (Bo st Y h).f v vals:=by
 unfold Bo at aB aL |-;cases Y<;>simp only at aB aL<;>(try (exact aB.elim))
 case nils =>cases hv;exact⟨fun _ _=>undef,⟨none,0,rfl,AA _,.inl rfl⟩,fun k hk=>absurd hk (J7 _),fun k j hk=>absurd hk (J7 _),fun k j x hk=>absurd hk (J7 _)⟩
 case slc st' n f =>
  subst aL;cases hv with
  |slc0 _ _ ad cap=>exact⟨fun _ _=>undef,⟨ad,cap,rfl,BA _,.inl rfl⟩,fun k hk=>absurd hk (J7 _),fun k j hk=>absurd hk (J7 _),fun k j x hk=>absurd hk (J7 _)⟩
  |slc _ _ _ b off cap vals hz aG hl hc h1 hr =>exact⟨vals,⟨_,cap,rfl,aG,.inr ⟨b,off,rfl,fun k j hk hj=>by rw[<-Fu];exact hc k j hk hj⟩⟩,hl,h1,hr⟩
 case vec id ep lo n =>
  have hO:=H.obj id;cases hh:h id<;>simp only[hh]at aB aL hO |-<;>(try (exact aB.elim));rename_i ep' st' m f;subst aL;obtain⟨he,aC⟩:=aB;obtain⟨bw,h0,hn,arr,ty,hr,aY,aS⟩:=hO;obtain⟨ad,cap,e1,aG,hc⟩:=EG H hv (by rw[hh];exact he);have bC:∀k j,k<n->j<st'->g.bo id+(lo+k)*st'+j<arr.size:=fun k j hk hj=>by have:(lo+k+1)*st'<=g.cp id*st':=Bd _ (by omega);rw[BR]at this;omega
  refine⟨fun k j=>arr.getD (g.bo id+(lo+k)*st'+j) undef,⟨some ad,cap,e1,aG,?_⟩,fun k hk=>(aS (lo+k) (by omega)).1,fun k j hk hj=>?_,fun k j x hk hx=>?_⟩
  ·rcases EA n with e|e;·exact .inl e
   ·rcases hc with cU|⟨rfl,hc⟩;·omega
    ·refine .inr ⟨_,_,rfl,fun k j hk hj=>?_⟩;have hb:=bC k j hk hj;have e2:g.bo id+lo*g.st id+(k*st'+j)=g.bo id+(lo+k)*st'+j:=(by rw[bw,AT];omega);simp[World.cell?,hr,e2,hb]
  ·have hb:=bC k j hk hj;have aE:=(aS (lo+k) (by omega)).1;have:=(aS (lo+k) (by omega)).2 j _ (arr.getD (g.bo id+(lo+k)*st'+j) undef) (AF (by omega)) (by simp[hb]);exact this.1
  ·have aE:=(aS (lo+k) (by omega)).1;have hj:j<st':=by have:=(A8.1 hx).1;omega
   have hb:=bC k j hk hj;exact((aS (lo+k) (by omega)).2 j x (arr.getD (g.bo id+(lo+k)*st'+j) undef) hx (by simp[hb])).2
theorem L3.news(s:L3 g w st m f v vals)(hm:0<m) : ∃b off cap,v=.slice (some ⟨b,off,none⟩) m cap/\∀q u,(B5 st m vals)[q]?=some u->w.cell? ((⟨b,off,none⟩:Addr).add q)=some u:=by
 obtain⟨ad,cap,e1,_,hc⟩:=s.val;rcases hc with h0|⟨b,off,rfl,aK⟩
 ·omega
 ·refine⟨b,off,cap,e1,fun q u hq=>?_⟩;obtain⟨k,j,hk,hj,rfl,rfl⟩:=HS hq;rw[DV];exact aK k j hk hj
theorem wzro(s:L3 g w st m f v vals):∀u∈B5 st m vals,u.oneCell'=true:=by intro u hu;obtain⟨q,hq⟩:=Cj.1 hu;obtain⟨k,j,hk,hj,rfl,rfl⟩:=HS hq;exact s.one k j hk hj
theorem L4(P:Program)(o:Oper)(ρ:Operand->Value)(x y:Operand)(tx:TypeId)(u v:Value)(r:Value)(w w':World)(ho:o.op=.call { callee:=.builtin .append,args:=#[x,y],argTypes:=#[tx,tx] })(hx:ρ x=u)(hy:ρ y=v)(hr:(Builtin.append_ #[tx,tx] o.type #[u,v]).run P w=.ok r w'):(execOp ρ o).run P w=.ok (.value r) w':=by simp[execOp,ho,resolve,invoke,builtin,hx,hy,hr]
theorem O8{i:TypeInfo}{z:Value}(hi:P.info? e=some i)(hz:i.zero=some z){l:List Value}(hl:D5 P e=some l):l=z.cells.toList:=by obtain⟨⟩:=i;simp only at hz;subst hz;simpa [D5,hi] using hl.symm
theorem L5{bytes:Nat}(hs:szOf P e=some st)(hb:byOf P e=some bytes)(hz:D5 P e=some zl)(dm:zl.length=st) : ∃(i:TypeInfo) (z:Value),P.info? e=some i/\i.zero=some z/\i.size=st/\i.bytes=bytes/\z.cells.size=st:=by
 unfold szOf at hs;unfold byOf at hb;cases hi:P.info? e with
 |none=>simp[hi]at hs
 |some i =>
  simp only[hi,DS,Ba]at hs hb;cases bm:i.zero with
  |none =>obtain⟨⟩:=i;simp only at bm;subst bm;simp[D5,hi]at hz
  |some z =>have:=O8 hi bm hz;refine⟨i,z,rfl,bm,hs,hb,?_⟩;rw[this]at dm;simpa using dm
theorem O9(w:World)(need old:Nat)(e:TypeId):need<=grownCap w need old e:=by simp only[grownCap,Question.cut];omega
theorem L6{ep:Nat}(h0:0<st)(aN:g'.blk s=b)(cy:g'.bo s=bo)(aL:g'.st s=st)(b7:g'.cp s=cp)(hn:n<=cp)(aF:w'.heap[b]?=some (.cells arr ty (0,0))) (aO:bo+cp*st<=arr.size) (hl:∀k,k<n->(f k).length=st)(hc:∀k j,k<n->j<st->∃v,arr[bo+k*st+j]?=some v/\v.oneCell'=true/\∀x,(f k)[j]?=some x->RV g' w' x v):OR g' w' s (.vec ep st n f):=by
 refine⟨aL,h0,by omega,arr,ty,by rw[aN];exact aF,by rw[cy,b7];exact aO,fun k hk=>⟨hl k hk,fun j x v hx hv=>?_⟩⟩;have hj:j<st:=by rw[<-hl k hk];exact(A8.1 hx).1
 obtain⟨u,hu,h1,h2⟩:=hc k j hk hj;rw[cy,hu]at hv;obtain rfl:=AL hv;exact⟨h1,h2 x hx⟩
theorem DX{k:Nat}(hk:k<n)(hj:j<st):k*st+j<n*st:=by have:(k+1)*st<=n*st:=Bd _ hk;rw[BR]at this;omega
theorem qzv7{bytes:Nat}(H:HR E g h w)(ht:RVs g w t a.tmps.toList)(ho:o.op=.call { callee:=.builtin .append,args:=#[x,y],argTypes:=#[tx,tx] })(hy:A7 y y'=true)(hu:P.underlying tx=some (.slice e)) (hs:szOf P e=some st) (hb:byOf P e=some bytes) (hz:D5 P e=some zl) (dm:zl.length=st) (eD:0<bytes) (hx:a.eval x=.slice none 0 0)(aB:(Fo s st bytes .nils (Ah E t y') h).ok):Ran E P (execOp a.eval o) g h w (Fo s st bytes .nils (Ah E t y') h):=by
 have ry:=AY H ht hy;generalize Ah E t y'=Y at *;simp only[Fo]at aB |-;by_cases hn:(Bo st Y h).n=0
 ·simp only[hn,AX]at aB |-;obtain⟨vals,src⟩:=JG H ry aB.1 aB.2;obtain⟨ad,cap,e1,_,_⟩:=src.val;rw[hn]at e1;obtain⟨i,z,hi,bm,aO,ik,dW⟩:=L5 hs hb hz dm;refine Ran.same H (v:=.slice none 0 0) ?_ .nils;cases ad with
  |none=>simp[execOp,ho,hx,e1,resolve,invoke,builtin,Builtin.append_,run_underlying hu,sizeOf,typeInfo,hi,Builtin.lenOf,Builtin.firstCells,Result.andThen]
  |some ad=>simp[execOp,ho,hx,e1,resolve,invoke,builtin,Builtin.append_,run_underlying hu,sizeOf,typeInfo,hi,Builtin.lenOf,Builtin.firstCells,loadCells,loadCellsFrom,Result.andThen]
 simp only[hn,CG]at aB |-;obtain⟨_,h1,h2,h0,hm,bW⟩:=aB;obtain⟨vals,src⟩:=JG H ry h1 h2;obtain⟨b,off,cap,e1,bX⟩:=src.news hm;obtain⟨i,z,hi,bm,aO,ik,dW⟩:=L5 hs hb hz dm;generalize (Bo st Y h).n=m at *;generalize (Bo st Y h).f=f at *;have kM:(m:Int)<=9223372036854775807:=by have:m*1<=m*bytes:=Ov _ eD;omega
 have run:=run_append_nil (P:=P) w tx o.type e i z hu hi bm ⟨b,off,none⟩ m cap (B5 st m vals) (by rw[EH,aO]) bX hm kM (by rw[ik];omega);refine Ran.new (ob:=.cells ((B5 st m vals).toArray++Builtin.zeroCells z.cells (grownCap w m 0 e-m)) e (0,0)) (bo:=0) (st:=st) (cp:=grownCap w m 0 e) H ⟨w.drew,rfl,rfl,rfl,rfl,HA _,L4 P o a.eval x y tx _ _ _ w _ ho hx e1 run⟩ rfl ?_;intro g' w' aC aN cy bw b7 aM;have hge:=O9 w m 0 e;refine⟨L6 h0 aN cy bw b7 hge aM ?_ src.len (fun k j hk hj=>⟨vals k j,?_,src.one k j hk hj,fun x hx=>(src.rv k j x hk hx).mono aC⟩),fun he=>?_⟩
 ·rw[Gag,size_zeroCells,dW];simp only[Gci,EH];have:(grownCap w m 0 e-m)*st+m*st=grownCap w m 0 e*st:=by rw[<-AT];congr 1;omega
  omega
 ·have cJ:=DX hk hj;rw[Bn,Gaa (by simp[EH];exact cJ)];simpa using HQ hk hj
 ·exact .vec _ _ _ _ _ rfl (by rw[he];exact AA _) (fun _=>L2 aN cy b7 hge)
theorem qz1v(ty e tx:TypeId)(i:TypeInfo)(hu:P.underlying tx=some (.slice e))(hi:P.info? e=some i)(b bo n cap:Nat)(cur:Array Value)(te:TypeId)(hg:w.heap[b]?=some (.cells cur te (0,0)))(v:Value) (m:Nat) (news:List Value) (iU:(Builtin.lenOf v).run P w=.ok m w) (bX:(Builtin.firstCells i.size m v).run P w=.ok news.toArray w) (h1:∀u∈news,u.oneCell'=true)(cX:n+m<=cap) (aY:bo+n*i.size+news.length<=cur.size) (pH:∀k,P.underlying tx≠some (.int k)) :
  (Builtin.append_ #[tx,tx] ty #[.slice (some ⟨b,bo,none⟩) n cap,v]).run P w =
   .ok (.slice (some ⟨b,bo,none⟩) (n+m) cap) (w.setRow b (cur.toList.take (bo+n*i.size)++news++cur.toList.drop (bo+n*i.size+news.length)).toArray):=by
 have aL:=run_storeCells_at P b (bo+n*i.size) te news 0 cur w hg (by simpa using aY) h1;simp only[Gg]at aL;simp[Builtin.append_,run_underlying hu,sizeOf,typeInfo,hi,iU,cX,bX,DV,aL]
theorem TL{s:Sem Next}{x:Aa}(H:HR E g h w)(aU:(h i).owned=true)(hr:s.run P w=.ok (.value v) w') (bK:o'.ep=(h i).ep+1) (nC:o'.owned=true)(bq:∀b,b≠g.blk i->w'.heap[b]?=w.heap[b]?) (cQ:w'.heap.size=w.heap.size) (gB:w'.os=w.os) (cR:w'.tape=w.tape) (hout:w'.output=w.output)(dC:∀g':Gh,GLe g w g' w'->g'.blk i=g.blk i->g'.bo i=bo->g'.st i=st->g'.cp i=cp->g'.ep i=(h i).ep+1->OR g' w' i o'/\RV g' w' x v) (gC:w.drawn<=w'.drawn:=by first|exact AA _|exact HA _|simp):Ran E P s g h w ⟨p,rd,x,some (i,o')⟩:=by
 let g':Gh:=⟨g.blk,fun j=>if j=i then(h i).ep+1 else g.ep j,fun j=>if j=i then bo else g.bo j,fun j=>if j=i then st else g.st j,fun j=>if j=i then cp else g.cp j,g.fz⟩
 have bL:=H.sep i aU
 have aC:GLe g w g' w':=by
  refine⟨fun b hb=>⟨hb,bq b (fun e=>bL (e▸hb))⟩,fun j=>?_,fun j hj=>?_⟩
  ·show g.ep j<=if j=i then(h i).ep+1 else g.ep j;split
   ·rename_i e;subst e;rw[H.ep j];omega
   ·exact AA _
  ·have:j≠i:=fun e=>by
    subst e;have aX:(if j=j then(h j).ep+1 else g.ep j)=g.ep j:=hj;rw[Aj rfl,H.ep j]at aX;omega
   exact⟨rfl,Ag this,Ag this,Ag this⟩
 obtain⟨hO,hV⟩:=dC g' aC rfl (Aj rfl) (Aj rfl) (Aj rfl) (Aj rfl);obtain⟨H',S'⟩:=HR.upd (g':=g') (w':=w') (i:=i) (o':=o') H aC (fun j hj=>Ag hj) ((Aj rfl:g'.ep i=_).trans bK.symm) (fun b _ aI=>bq b (aI aU)) (by omega) hO (fun _=>.inl ⟨aU,rfl⟩) (fun _=>bL) (fun b hb=>.inl hb) (fun b hb=>by rw[cQ];exact H.fzb b hb) gB cR hout gC;exact⟨_,v,w',g',hr,.inl rfl,hV,H',S',fun e=>by cases e⟩
theorem qzvr{bytes:Nat}{ep:Nat}(H:HR E g h w)(ht:RVs g w t a.tmps.toList)(ho:o.op=.call { callee:=.builtin .append,args:=#[x,y],argTypes:=#[tx,tx] })(hy:A7 y y'=true)(hu:P.underlying tx=some (.slice e)) (hs:szOf P e=some st) (hb:byOf P e=some bytes) (hz:D5 P e=some zl) (dm:zl.length=st) (eD:0<bytes) (hx:RV g w (.vec id ep lo n) (a.eval x))(aB:(Fo s st bytes (.vec id ep lo n) (Ah E t y') h).ok):Ran E P (execOp a.eval o) g h w (Fo s st bytes (.vec id ep lo n) (Ah E t y') h):=by
 have ry:=AY H ht hy;generalize Ah E t y'=Y at *;simp only[Fo]at aB |-;have hO:=H.obj id;cases hh:h id<;>simp only[hh,Req.fail]at aB hO |-
 case vec ep' st' N f0 =>
  obtain⟨h1,h2,rfl,rfl,nD,bW⟩:=aB;obtain⟨vals,src⟩:=JG H ry h1 h2;obtain⟨i,z,hi,bm,aO,ik,dW⟩:=L5 hs hb hz dm;obtain⟨aL,h0,hn,arr,ty,hr,aY,aS⟩:=hO;have aU:(h id).owned=true:=by rw[hh];rfl
  have br:(h id).ep=ep:=by rw[hh];rfl
  obtain⟨ad,cap,e1,aG,hc⟩:=EG H hx br.symm;generalize (Bo st' Y h).n=m at *;generalize (Bo st' Y h).f=f at *
  have be:∀k j,k<n->j<st'->∃u,arr[g.bo id+(lo+k)*st'+j]?=some u/\u.oneCell'=true/\∀x,(f0 (lo+k))[j]?=some x->RV g w x u:=by
   intro k j hk hj;obtain⟨hl,aK⟩:=aS (lo+k) (by omega);have cJ:=DX (k:=lo+k) (n:=g.cp id) (st:=st') (j:=j) (by omega) hj;have hlt:g.bo id+(lo+k)*st'+j<arr.size:=by omega
   refine⟨arr[g.bo id+(lo+k)*st'+j],Gc hlt,?_⟩;have kc:(f0 (lo+k))[j]?=some (f0 (lo+k))[j]:=AF (by omega);have:=aK j _ _ kc (Gc hlt);refine⟨this.1,fun x hx=>?_⟩;rw[kc]at hx;obtain rfl:=AL hx;exact this.2
  have iV:((n+m:Nat):Int)<=9223372036854775807:=by have:(n+m)*1<=(n+m)*bytes:=Ov _ eD;omega
  have fX:∀k,k<n+m->((fun k=>if k<n then f0 (lo+k) else f (k-n)) k).length=st':=by
   intro k hk;simp only;split
   ·exact(aS (lo+k) (by omega)).1
   ·exact src.len _ (by omega)
  by_cases cX:n+m<=cap
  ·-- it fits
   obtain⟨sad,scap,se,_,_⟩:=src.val;have iU:(Builtin.lenOf (a.eval y)).run P w=.ok m w:=by rw[se];rfl
   rcases hc with cU|⟨rfl,hc⟩
   ·-- no room,and nothing comes
    have dN:n=0:=(by omega);have dP:m=0:=(by omega);subst cU;subst dN;subst dP
    have kN:(Builtin.firstCells i.size 0 (a.eval y)).run P w=.ok #[] w:=by
     rw[se];cases sad with
     |none=>simp[Builtin.firstCells]
     |some q=>simp[Builtin.firstCells,loadCells,loadCellsFrom]
    have run:(Builtin.append_ #[tx,tx] o.type #[.slice (some ad) 0 0,a.eval y]).run P w=.ok (.slice (some ad) 0 0) w:=(by simp[Builtin.append_,run_underlying hu,sizeOf,typeInfo,hi,iU,kN,storeCells]);refine TL (bo:=g.bo id) (st:=st') (cp:=g.cp id) H aU (L4 P o a.eval x y tx _ _ _ w _ ho e1 rfl run) (by rw[br];rfl) rfl (fun b _=>rfl) rfl rfl rfl rfl ?_;intro g' aC aN cy bw b7 bK;refine⟨⟨bw,h0,by omega,arr,ty,by rw[aN];exact hr,by rw[cy,b7];exact aY,fun k hk=>absurd hk (J7 _)⟩,?_⟩;exact .vec _ _ _ _ _ rfl (by rw[bK,br];exact AA _) (fun _=>⟨ad,0,rfl,AA _,.inl rfl⟩)
   ·have kN:(Builtin.firstCells i.size m (a.eval y)).run P w=.ok (B5 st' m vals).toArray w:=by
     rcases EA m with e0|e0
     ·subst e0;rw[se];cases sad with
      |none=>simp[Builtin.firstCells,B5]
      |some q=>simp[Builtin.firstCells,loadCells,loadCellsFrom,B5]
     ·obtain⟨b,off,scap',e2,bX⟩:=src.news e0;rw[e2];exact run_firstCells_some (P:=P) w i.size m ⟨b,off,none⟩ m scap' _ (by rw[EH,aO]) bX
    have fY:g.bo id+lo*g.st id+n*i.size+(B5 st' m vals).length<=arr.size:=(by rw[EH,aL,aO];have:(lo+(n+m))*st'<=g.cp id*st':=Bd _ (by omega);rw[AT,AT]at this;omega);have run:=qz1v (P:=P) (w:=w) o.type e tx i hu hi (g.blk id) (g.bo id+lo*g.st id) n cap arr ty hr (a.eval y) m (B5 st' m vals) iU kN (wzro src) cX fY (by intro k hk;rw[hu]at hk;cases hk);rw[<-e1]at run;have aF:=setRow_heap w (g.blk id) arr (arr.toList.take (g.bo id+lo*g.st id+n*i.size)++B5 st' m vals++arr.toList.drop (g.bo id+lo*g.st id+n*i.size+(B5 st' m vals).length)).toArray ty (0,0) hr;refine TL (bo:=g.bo id+lo*st') (st:=st') (cp:=cap) H aU (L4 P o a.eval x y tx _ _ _ w _ ho rfl rfl run) (by rw[br];rfl) rfl (fun b hb=>setRow_other w (g.blk id) b _ hb) (by simp) rfl rfl rfl ?_;intro g' aC aN cy bw b7 bK;refine⟨L6 h0 aN cy bw b7 cX aF ?_ fX ?_,?_⟩
    ·have e5:=EH st' m vals;have:(lo+cap)*st'=g.cp id*st':=(by rw[hc]);rw[AT]at this;simp only[Gci,Db,Gf,H7,Array.length_toList];omega
    ·intro k j hk hj;have fw:=G2 arr.toList (B5 st' m vals) (g.bo id+lo*g.st id+n*i.size) (g.bo id+lo*st'+k*st'+j) (by simpa using fY);have gD:=aC;rw[aL,aO]at gD;rw[Oq,fw,aL,aO];by_cases cK:k<n
     ·have cJ:=DX cK hj;rw[Aj (by omega)];obtain⟨u,q1,q2,q3⟩:=be k j cK hj;have e4:g.bo id+lo*st'+k*st'+j=g.bo id+(lo+k)*st'+j:=by rw[AT];omega
      refine⟨u,by rw[e4];simpa using q1,q2,fun x hx=>?_⟩;simp only[Aj cK]at hx;exact(q3 x hx).mono gD
     ·have e5:k*st'=n*st'+(k-n)*st':=(by rw[<-AT];congr 1;omega);have cJ:=DX (k:=k-n) (n:=m) (st:=st') (j:=j) (by omega) hj;rw[Ag (by omega),Aj (by rw[EH];omega)];have e6:g.bo id+lo*st'+k*st'+j-(g.bo id+lo*st'+n*st')=(k-n)*st'+j:=(by omega);rw[e6];refine⟨_,HQ (by omega) hj,src.one _ _ (by omega) hj,fun x hx=>?_⟩;simp only[Ag cK]at hx;exact(src.rv _ _ x (by omega) hx).mono gD
    ·exact .vec _ _ _ _ _ rfl (by rw[bK,br];exact AA _) (fun _=>⟨_,cap,rfl,cX,.inr ⟨by rw[aN,cy,bw,aL];simp,by omega⟩⟩)
  ·-- it grows
   have hm:0<m:=by omega
   obtain⟨b,off,scap,e2,bX⟩:=src.news hm
   have iW:∃olds:List Value,olds=B5 st' n (fun k j=>arr.getD (g.bo id+(lo+k)*st'+j) undef)/\∀q u,olds[q]?=some u->w.cell? (ad.add q)=some u:=by
    refine⟨_,rfl,fun q u hq=>?_⟩;obtain⟨k,j,hk,hj,rfl,rfl⟩:=HS hq;rcases hc with cU|⟨rfl,hc⟩
    ·omega
    ·rw[DV];obtain⟨u,q1,_,_⟩:=be k j hk hj;have e4:g.bo id+lo*g.st id+(k*st'+j)=g.bo id+(lo+k)*st'+j:=by rw[aL,AT];omega
     have hlt:=(Gt.1 q1).1;simp[World.cell?,hr,e4,hlt]
   obtain⟨olds,rfl,iX⟩:=iW;have run:=run_append_grow (P:=P) w tx o.type e i z hu hi bm ad n cap _ (by rw[EH,aO]) iX ⟨b,off,none⟩ m scap (B5 st' m vals) (by rw[EH,aO]) bX (by omega) iV (growslice_fits (by omega) (by rw[ik];exact bW));have hge:=O9 w (n+m) cap e;refine Ran.new (bo:=0) (st:=st') (cp:=grownCap w (n+m) cap e) H ⟨w.drew,rfl,rfl,rfl,rfl,HA _,L4 P o a.eval x y tx _ _ _ w _ ho e1 e2 run⟩ (by rw[br];rfl) ?_;intro g' w' aC aN cy bw b7 aM;refine⟨L6 h0 aN cy bw b7 hge aM ?_ fX (fun k j hk hj=>?_),fun he=>?_⟩
   ·rw[Gag,Gag,size_zeroCells,dW];simp only[Gci,EH];have:(grownCap w (n+m) cap e-(n+m))*st'+(n+m)*st'=grownCap w (n+m) cap e*st':=by rw[<-AT];congr 1;omega
    rw[AT]at this;omega
   ·have cJ:=DX (k:=k) (n:=n+m) (st:=st') (j:=j) hk hj;rw[AT]at cJ;rw[Bn,Gaa (by simp[EH];omega)];by_cases cK:k<n
    ·have cD:=DX cK hj;rw[Gaa (by simp[EH];exact cD)];obtain⟨u,q1,q2,q3⟩:=be k j cK hj;refine⟨u,?_,q2,fun x hx=>?_⟩
     ·have:=HQ (vals:=fun k j=>arr.getD (g.bo id+(lo+k)*st'+j) undef) cK hj;have hlt:=(Gt.1 q1).1;have nE:=(Gt.1 q1).2;rw[Oq,this];simp[hlt,nE]
     ·simp only[Aj cK]at hx;exact(q3 x hx).mono aC
    ·have e5:k*st'=n*st'+(k-n)*st':=(by rw[<-AT];congr 1;omega);rw[Array.getElem?_append_right (by simp[EH];omega)];simp only[Gci,EH];have e6:k*st'+j-n*st'=(k-n)*st'+j:=by omega
     rw[e6];refine⟨_,by rw[Oq];exact HQ (by omega) hj,src.one _ _ (by omega) hj,fun x hx=>?_⟩;simp only[Ag cK]at hx;exact(src.rv _ _ x (by omega) hx).mono aC
   ·rw[br]at he;exact .vec _ _ _ _ _ rfl (by rw[he];exact AA _) (fun _=>L2 aN cy b7 hge)
end
section
theorem OA{s:Sem Next}{x:Aa}{n:Next}{w1:World}{ob0:Obj}(H:HR E g h w)(aU:(h i).owned=true)(hd:w1=w\/w1=w.drew) (hb:w.heap[g.blk i]?=some ob0)(hr:s.run P w=.ok n { w1 with heap:=w1.heap.setIfInBounds (g.blk i) ob }) (hn:n=.value v\/(n=.skip/\v=undef))(bK:o'.ep=(h i).ep) (dC:∀w',GLe g w g w'->w'.heap[g.blk i]?=some ob->OR g w' i o'/\RV g w' x v):Ran E P s g h w ⟨p,rd,x,some (i,o')⟩:=by
 have bL:=H.sep i aU;have hh:w1.heap=w.heap:=by rcases hd with rfl|rfl<;>rfl
 have gB:w1.os=w.os:=by rcases hd with rfl|rfl<;>rfl
 have mo:w1.tape=w.tape:=by rcases hd with rfl|rfl<;>rfl
 have hout:w1.output=w.output:=by rcases hd with rfl|rfl<;>rfl
 have hlt:g.blk i<w.heap.size:=(Gt.1 hb).1
 let w':World:={ w1 with heap:=w1.heap.setIfInBounds (g.blk i) ob }
 have iY:∀b,b≠g.blk i->w'.heap[b]?=w.heap[b]?:=fun b bg=>by show(w1.heap.setIfInBounds (g.blk i) ob)[b]?=_;rw[hh];simp[Ne.symm bg]
 have bq:w'.heap[g.blk i]?=some ob:=by show(w1.heap.setIfInBounds (g.blk i) ob)[g.blk i]?=_;rw[hh];simp[hlt]
 have aO:w'.heap.size=w.heap.size:=by show(w1.heap.setIfInBounds (g.blk i) ob).size=_;rw[hh];simp
 have aC:GLe g w g w':=⟨fun b bg=>⟨bg,iY b (fun e=>bL (e▸bg))⟩,fun _=>AA _,fun _ _=>⟨rfl,rfl,rfl,rfl⟩⟩;obtain⟨hO,hV⟩:=dC w' aC bq;obtain⟨H',S'⟩:=HR.upd (g':=g) (w':=w') (i:=i) (o':=o') H aC (fun _ _=>rfl) ((H.ep i).trans bK.symm) (fun b bg aI=>iY b (aI aU)) (by omega) hO (fun _=>.inl ⟨aU,rfl⟩) (fun _=>bL) (fun b bg=>.inl bg) (fun b bg=>by rw[aO];exact H.fzb b bg) gB mo hout (by rcases hd with rfl | rfl;exact AA _;exact HA _);exact⟨n,v,w',g,hr,hn,hV,H',S',fun e=>by cases e⟩
theorem qz7q(H:HR E g h w)(ho:o.op=.makeMap ty none) :
  Ran E P (execOp a.eval o) g h w ((Ao.mkmap s).req (Ah E t) h):=by
 simp only[Ao.req];refine Ran.new (ob:=.map #[] 0) (bo:=0) (st:=0) (cp:=0) (v:=.map (some w.heap.size)) H ⟨w,rfl,rfl,rfl,rfl,AA _,?_⟩ rfl ?_
 ·have e:(Instr.makeMap ty none).run P w=.ok (.map (some w.heap.size)) (w.alloc (.map #[] 0)):=rfl;simp[execOp,ho,e,Result.andThen]
 intro g' w' aC aN _ _ _ aM;refine⟨⟨#[],by rw[aN];exact aM,rfl,fun k e m he=>by simp at he⟩,fun he=>?_⟩;exact .mp _ _ _ rfl (by rw[he];exact AA _) (fun _=>by rw[aN])
def CM:TypeDesc->Option Nat
 |.bool=>some 0
 |.int _=>some 1
 |.string=>some 2
 |_=>none
inductive TM(P:Program)(kt:TypeId)(kd:Nat):Prop where
 |one (d:TypeDesc) (hd:P.underlying kt=some d) (hk:CM d=some kd)
 |row (sh:List Nat) (hw:(match P.underlying kt with | some (.array _ _) | some (.struct _)=>true | _=>false)=true) (hs:eqFields P 9 kt=some sh) (h4:∀k∈sh,k<4) (hk:kd=4+encK sh)
theorem TN:∀{l m:List Nat},(∀k∈l,k<4)->(∀k∈m,k<4)->encK l=encK m->l=m
 |[],[],_,_,_=>rfl
 |[],k :: m,_,_,h=>by simp only[encK]at h;omega
 |k :: l,[],_,_,h=>by simp only[encK]at h;omega
 |k :: l,j :: m,hl,hm,h=>by
  simp only[encK]at h;have h1:=hl k (AS ..);have h2:=hm j (AS ..);have e1:k=j:=by omega
  have e2:l=m:=TN (fun x hx=>hl x (AR _ hx)) (fun x hx=>hm x (AR _ hx)) (by omega);rw[e1,e2]
theorem TP(x:Aa):x.kind<4:=by cases x<;>simp[Aa.kind]
theorem wzjo(l:List Aa):∀k∈l.map Aa.kind,k<4:=fun k h=>by obtain⟨x,_,rfl⟩:=CE.1 h;exact TP x
theorem OB(hk:CK P kt=some kd):TM P kt kd:=by
 unfold CK at hk
 have wide:∀(h:(match P.underlying kt with | some (.array _ _) | some (.struct _)=>true | _=>false)=true),(match eqFields P 9 kt with
  |some l=>if l.all (fun k=>Nat.blt k 4) then some (4+encK l) else none
  | none=>none)=some kd->TM P kt kd:=by
  intro hw h;cases hs:eqFields P 9 kt with
  |none=>simp[hs]at h
  |some sh =>
   simp only[hs]at h;split at h
   ·rename_i ha;exact .row sh hw hs (fun k hk=>by have:=Da.1 ha k hk;simpa [Gu] using this) (AL h).symm
   ·cases h
 cases hu:P.underlying kt with
 |none=>simp[hu]at hk
 |some d =>simp only[hu]at hk;cases d<;>simp only at hk<;>(try (cases hk;done))<;>first|exact .one _ hu hk|exact wide (by rw[hu]) hk
theorem TQ{x:Aa}(h:x.kkind=kd)(hk:kd<4):x.kind=kd:=by cases x<;>simp only[Aa.kkind]at h<;>first|exact h|omega
theorem TR(hd:CM d=some kd):kd<4:=by cases d<;>simp[CM]at hd<;>omega
theorem TS{x y:Aa}(hd:CM d=some kd)(b9:x.kind=kd)(he:DT x y=some c)(hx:RV g w x u)(hy:RV g w y v) :
  Instr.sameNow d u v=some c/\(c=true->u=v):=by
 unfold DT at he;split at he
 ·simp only[Aa.kind]at b9;subst b9;cases d<;>simp[CM]at hd
 ·rename_i k n k' n';obtain rfl:=ED hx;obtain rfl:=ED hy;simp only[Aa.kind]at b9;subst b9;split at he
  ·rename_i e;subst e;obtain rfl:=AL he;cases d<;>simp[CM]at hd;refine⟨by simp[Instr.sameNow];first|done|rfl,fun e=>by simp at e;rw[e]⟩
  ·cases he
 ·obtain rfl:=Df hx;obtain rfl:=Df hy;simp only[Aa.kind]at b9;subst b9;obtain rfl:=AL he;cases d<;>simp[CM]at hd;refine⟨by simp[Instr.sameNow],fun e=>by simp at e;rw[e]⟩
 ·rename_i a b;obtain⟨p,rfl,hp⟩:=EF hx;obtain⟨q,rfl,hq⟩:=EF hy;simp only[Aa.kind]at b9;subst b9;obtain rfl:=AL he;cases d<;>simp[CM]at hd
  have mq:(p==q)=decide (a=b):=by
   by_cases e:a=b
   ·have:p=q:=by
     obtain⟨⟨p⟩⟩:=p;obtain⟨⟨q⟩⟩:=q;simp at hp hq;subst hp;subst hq;rw[e]
    simp[e,(MapKept.bytes_beq p q).2 this]
   ·have:p≠q:=fun e'=>e (by rw[<-hp,<-hq,e'])
    have h2:(p==q)=false:=by
     cases hh:p==q
     ·rfl
     ·exact absurd ((MapKept.bytes_beq p q).1 hh) this
    simp[e,h2]
  refine⟨by simp[Instr.sameNow,mq],fun e=>?_⟩;rw[<-mq]at e;rw[(MapKept.bytes_beq p q).1 e]
 ·cases he
theorem TT{X:Aa}{u:Value}{d:TypeDesc}{kd:Nat}(hd:CM d=some kd)(b9:X.kind=kd)(hx:RV g w X u):∀(es:List (Aa×Aa)) (ms:List MapEntry) (i:Nat) {r:Option (Nat×Aa)},ms.length=es.length -> (∀(k:Nat) (e:Aa×Aa) (m:MapEntry),es[k]?=some e->ms[k]?=some m->RV g w e.1 m.key/\RV g w e.2 m.val)->Cm X es i=some r -> (r=none/\Instr.findNow d u ms i=some none)\/∃j m v,r=some (i+j,v)/\ms[j]?=some m/\m.key=u/\RV g w v m.val/\Instr.findNow d u ms i=some (some (i+j,m.val))
 |[],[],i,r,_,_,hf=>.inl ⟨by simp only[Cm,Ba]at hf;exact hf.symm,rfl⟩
 |e :: es,m :: ms,i,r,hl,hr,hf=>by
  have h0:=hr 0 e m rfl rfl;simp only[Cm]at hf;split at hf
  ·rename_i hk;obtain⟨h1,h2⟩:=TS hd b9 hk hx h0.1;obtain rfl:=AL hf;exact .inr ⟨0,m,e.2,rfl,rfl,(h2 rfl).symm,h0.2,by simp[Instr.findNow,h1]⟩
  ·rename_i hk;obtain⟨h1,_⟩:=TS hd b9 hk hx h0.1;rcases TT hd b9 hx es ms (i+1) (by simpa using hl) (fun k e' m' he hm=>hr (k+1) e' m' (by simpa using he) (by simpa using hm)) hf with ⟨e1,e2⟩ | ⟨j,m',v,e1,e2,e3,e4,e5⟩
   ·exact .inl ⟨e1,by simp[Instr.findNow,h1,e2]⟩
   ·exact .inr ⟨j+1,m',v,by rw[e1];simp;omega,by simpa using e2,e3,e4,by simp[Instr.findNow,h1,e5];omega⟩
  ·cases hf
 |[],_ :: _,_,_,h,_,_=>by simp at h
 |_ :: _,[],_,_,h,_,_=>by simp at h
theorem qz1x{k:Value}(hu:P.underlying kt=some d)(hd:CM d=some kd)(e:Bool)(n:Nat):(Instr.checkKey e (n+1) kt k).run P w=.ok () w:=by unfold Instr.checkKey;simp only[Sem.run_bind,run_underlying hu,Result.andThen];cases d<;>simp[CM]at hd<;>cases k<;>rfl
theorem TU{kt:TypeId}{sh:List Nat}(hs:eqFields P 9 kt=some sh)(hq:D4 P kt=some true){l:List Aa}{u:Value}(hl:l.map Aa.kind=sh)(hx:RV g w (.agg l) u):∀(es:List (Aa×Aa)) (ms:List MapEntry) (i:Nat) {r:Option (Nat×Aa)},ms.length=es.length -> (∀(k:Nat) (e:Aa×Aa) (m:MapEntry),es[k]?=some e->ms[k]?=some m->RV g w e.1 m.key/\RV g w e.2 m.val)->Cm (.agg l) es i=some r -> (r=none/\(Instr.findAsking kt u ms i).run P w=.ok none w)\/∃j m v,r=some (i+j,v)/\ms[j]?=some m/\m.key=u/\RV g w v m.val/\(Instr.findAsking kt u ms i).run P w=.ok (some (i+j,m.val)) w
 |[],[],i,r,_,_,hf=>.inl ⟨by simp only[Cm,Ba]at hf;exact hf.symm,by simp[Instr.findAsking]⟩
 |e :: es,m :: ms,i,r,hn,hr,hf=>by
  have h0:=hr 0 e m rfl rfl
  have key:∀c,DT (.agg l) e.1=some c->(Op.equal kt u m.key).run P w=.ok c w/\(c=true->u=m.key):=by
   intro c hc;obtain⟨e1,e2⟩:=e;cases e1<;>simp only[DT]at hc<;>(try (cases hc;done));rename_i m';obtain⟨h0,_⟩:=h0;simp only at h0;generalize m.key=v at *;cases hx with
   |agg _ xs fp fW =>
    cases h0 with
    |agg _ ys kK kL =>have c7:RVs g w l xs.toList:=⟨by simpa using fp,fun i x v hx hv=>fW i x v hx (by simpa using hv)⟩;have kb:RVs g w m' ys.toList:=⟨by simpa using kK,fun i x v hx hv=>kL i x v hx (by simpa using hv)⟩;obtain⟨agg,bh,_,aP⟩:=TI (P:=P) (g:=g) (w:=w) 9 kt sh hs;obtain rfl:agg=true:=(by rw[hq]at bh;exact(AL bh).symm);have hq:=aP 10000 (by omega) l m' _ _ c w hl c7 kb hc;simp only[CL,AX,J2]at hq;refine⟨by simpa [Op.equal,Op.maxDepth] using hq,fun e=>?_⟩;subst e;have:=TJ c7 kb hc;rw[Array.toList_inj.1 this]
  simp only[Cm]at hf;split at hf
  ·rename_i hk;obtain⟨h1,h2⟩:=key _ hk;obtain rfl:=AL hf;exact .inr ⟨0,m,e.2,rfl,rfl,(h2 rfl).symm,h0.2,by simp[Instr.findAsking,h1,Result.andThen]⟩
  ·rename_i hk;obtain⟨h1,_⟩:=key _ hk;rcases TU hs hq hl hx es ms (i+1) (by simpa using hn) (fun k e' m' he hm=>hr (k+1) e' m' (by simpa using he) (by simpa using hm)) hf with ⟨e1,e2⟩ | ⟨j,m',v,e1,e2,e3,e4,e5⟩
   ·exact .inl ⟨e1,by simp[Instr.findAsking,h1,e2,Result.andThen]⟩
   ·exact .inr ⟨j+1,m',v,by rw[e1];simp;omega,by simpa using e2,e3,e4,by simp[Instr.findAsking,h1,e5,Result.andThen];omega⟩
  ·cases hf
 |[],_ :: _,_,_,h,_,_=>by simp at h
 |_ :: _,[],_,_,h,_,_=>by simp at h
theorem TW{sh:List Nat}(hw:(match P.underlying kt with | some (.array _ _) | some (.struct _)=>true | _=>false)=true):D4 P kt=some true:=by
 cases hu:P.underlying kt with
 |none=>simp[hu]at hw
 |some d=>cases d<;>simp[hu]at hw<;>simp[D4,hu]
theorem OC(h4:∀k∈sh,k<4)(hk:kd=4+encK sh)(hX:X.kkind=kd)(hx:RV g w X u):∃l xs,X=.agg l/\u=.agg xs/\l.map Aa.kind=sh/\RVs g w l xs.toList:=by
 subst hk;have hlt:=TP X;cases X<;>simp only[Aa.kkind]at hX<;>(try (simp only[Aa.kind]at hX hlt;omega));rename_i l;cases hx with
 |agg _ xs fp fW=>exact⟨l,xs,rfl,rfl,TN (wzjo l) h4 (by omega),⟨by simpa using fp,fun i x v hx hv=>fW i x v hx (by simpa using hv)⟩⟩
theorem OD(hk:CK P kt=some kd)(hX:X.kkind=kd)(hx:RV g w X u){ms:List MapEntry}{r:Option (Nat×Aa)}(hn:ms.length=es.length)(hr:∀(k:Nat) (e:Aa×Aa) (m:MapEntry),es[k]?=some e->ms[k]?=some m->RV g w e.1 m.key/\RV g w e.2 m.val) (hf:Cm X es 0=some r) : (r=none/\(Instr.findKey kt u ms).run P w=.ok none w)\/∃j m v,r=some (j,v)/\ms[j]?=some m/\m.key=u/\RV g w v m.val/\(Instr.findKey kt u ms).run P w=.ok (some (j,m.val)) w:=by
 cases OB hk with
 |one d hd hk =>
  rcases TT hk (TQ hX (TR hk)) hx es ms 0 hn hr hf with ⟨e1,e2⟩|⟨j,m,v,e1,e2,e3,e4,e5⟩
  ·exact .inl ⟨e1,MapKept.run_findKey hd e2⟩
  ·exact .inr ⟨j,m,v,by simpa using e1,e2,e3,e4,MapKept.run_findKey hd (by simpa using e5)⟩
 |row sh hw hs h4 hk =>
  obtain⟨l,xs,rfl,rfl,hl,_⟩:=OC h4 hk hX hx;rcases TU hs (TW (sh:=sh) hw) hl hx es ms 0 hn hr hf with ⟨e1,e2⟩|⟨j,m,v,e1,e2,e3,e4,e5⟩
  ·exact .inl ⟨e1,by rw[run_findKey_eq w hw];exact e2⟩
  ·exact .inr ⟨j,m,v,by simpa using e1,e2,e3,e4,by rw[run_findKey_eq w hw];simpa using e5⟩
theorem JH(hk:CK P kt=some kd)(hX:X.kkind=kd)(hx:RV g w X u)(e:Bool):(Instr.checkKey e 10000 kt u).run P w=.ok () w:=by
 cases OB hk with
 |one d hd hk=>exact qz1x hd hk e _
 |row sh hw hs h4 hk =>
  obtain⟨l,xs,rfl,rfl,hl,c7⟩:=OC h4 hk hX hx;obtain⟨agg,bh,_,aP⟩:=qzr8 (P:=P) 9 kt sh hs;obtain rfl:agg=true:=by rw[TW (sh:=sh) hw]at bh;exact(AL bh).symm
  have:=aP 10000 (by omega) xs.toList e w (by have:=c7.1;rw[<-hl,J5];omega);simpa [CL] using this
theorem OG{ep:Nat}(H:HR E g h w)(hv:RV g w (.mp id ep) v)(he:ep=(h id).ep):v=.map (some (g.blk id)):=by
 cases hv with
 |mp _ _ _ _ _ hp=>exact hp (by rw[H.ep id];exact he)
theorem qz97(H:HR E g h w)(hv:RV g w X v)(aB:(BS X h).ok) : (v=.map none/\(BS X h).es=[])\/∃r arr,v=.map (some r)/\w.heap[r]?=some (.map arr (BS X h).es.length)/\arr.size=(BS X h).es.length /\ ∀(k:Nat) (e:Aa×Aa) (m:MapEntry),(BS X h).es[k]?=some e->arr[k]?=some m->RV g w e.1 m.key/\RV g w e.2 m.val/\m.born=k:=by
 cases X<;>simp only[BS]at aB |-<;>(try (exact aB.elim))
 case nilmp=>cases hv;exact .inl ⟨rfl,trivial⟩
 case mp id ep =>cases hh:h id<;>simp only[hh]at aB |-<;>(try (exact aB.elim));rename_i ep' es;have hO:=H.obj id;rw[hh]at hO;obtain⟨arr,h1,h2,h3⟩:=hO;exact .inr ⟨g.blk id,arr,OG H hv (by rw[hh];exact aB),h1,h2,h3⟩
theorem qzx6{zero:Aa}(hz:Lx P et zero=true):∃z,(zeroValue et).run P w=.ok z w/\RV g w zero z:=by
 unfold Lx at hz;cases hi:P.info? et with
 |none=>simp[hi]at hz
 |some i =>
  cases bm:i.zero with
  |none=>obtain⟨⟩:=i;simp only at bm;subst bm;simp[hi]at hz
  |some z =>
   have ez:JD z zero=true:=by obtain⟨⟩:=i;simp only at bm;subst bm;simpa [hi] using hz
   exact⟨z,by simp[zeroValue,typeInfo,hi,bm],Tq ez⟩
theorem OI{x:Aa}{b:Bool}(hx:RV g w x v):RV g w (.tup [x,.bool b]) (.tuple #[v,.bool b]):=by
 refine .tup _ _ rfl fun i y u hy hu=>?_
 match i with
 |0=>simp at hy hu;subst hy;subst hu;exact hx
 |1=>simp at hy hu;subst hy;subst hu;exact .bool _
 |n+2=>simp at hy
theorem qz7o{cok:Bool}{zero:Aa}{k:Operand}(H:HR E g h w)(ht:RVs g w t a.tmps.toList)(ho:o.op=.lookup ty x k cok)(hx:A7 x x'=true)(hk:A7 k k'=true)(hu:P.underlying ty=some (.map kt et)) (b9:CK P kt=some kd) (hz:Lx P et zero=true)(aB:((Ao.mlook kd cok zero x' k').req (Ah E t) h).ok):Ran E P (execOp a.eval o) g h w ((Ao.mlook kd cok zero x' k').req (Ah E t) h):=by
 have rx:=AY H ht hx;have rk:=AY H ht hk;obtain⟨z,dy,gE⟩:=qzx6 (g:=g) (w:=w) hz;simp only[Ao.req,EB]at aB |-;generalize Ah E t x'=X at *;generalize Ah E t k'=K at *;generalize fC:a.eval x=vx at rx;generalize il:a.eval k=vk at rk;cases hf:Cm K (BS X h).es 0 with
 |none=>simp only[hf,Req.fail]at aB
 |some r =>
  have bc:(BS X h).ok/\K.kkind=kd:=by cases r<;>simp only[hf]at aB<;>exact aB
  rcases qz97 H rx bc.1 with ⟨rfl,mr⟩|⟨r',arr,rfl,hb,aO,hr⟩
  ·rw[mr]at hf
   have gF:(Instr.findKey kt vk []).run P w=.ok none w:=by
    rcases OD b9 bc.2 rk (es:=[]) (ms:=[]) rfl (fun k e m he=>by simp at he) hf with ⟨_,h2⟩ | ⟨j,m,v,_,h2,_⟩
    ·exact h2
    ·simp at h2
   simp only[Cm,Ba]at hf;subst hf;simp only[mr];refine Ran.same H (v:=if cok then .tuple #[z,.bool false] else z) ?_ ?_
   ·simp[execOp,ho,fC,il,Instr.lookup,run_underlying hu,JH b9 bc.2 rk,gF,dy,Result.andThen]
   ·cases cok;·exact gE
    ·exact OI gE
  ·rcases OD b9 bc.2 rk (ms:=arr.toList) (by simpa using aO) (fun k e m he hm=>⟨(hr k e m he (by simpa using hm)).1,(hr k e m he (by simpa using hm)).2.1⟩) hf with ⟨rfl,h2⟩ | ⟨j,m,v,rfl,h2,h3,h4,h5⟩
   ·simp only;refine Ran.same H (v:=if cok then .tuple #[z,.bool false] else z) ?_ ?_
    ·simp[execOp,ho,fC,il,Instr.lookup,run_underlying hu,MapKept.run_getObj_map hb,JH b9 bc.2 rk,h2,dy,Result.andThen]
    ·cases cok;·exact gE
     ·exact OI gE
   ·simp only;refine Ran.same H (v:=if cok then .tuple #[m.val,.bool true] else m.val) ?_ ?_
    ·simp[execOp,ho,fC,il,Instr.lookup,run_underlying hu,MapKept.run_getObj_map hb,JH b9 bc.2 rk,h5,Result.andThen]
    ·cases cok;·exact h4
     ·exact OI h4
theorem wzhn{x:Aa}(hk:x.kind<3)(hv:RV g w x v)(n:Nat):Instr.sameBits n v v=true:=by cases hv<;>simp only[Aa.kind]at hk<;>(try omega)<;>(try (simp[Instr.sameBits];done));simp[Instr.sameBits,MapKept.bytes_beq]
theorem qzyo{K:Aa}(hd:CM d=some kd)(hk:K.kind=kd)(hv:RV g w K v)(n:Nat):Instr.sameBits n v v=true:=by
 cases hv<;>simp only[Aa.kind]at hk<;>(try (simp[Instr.sameBits];done))
 case str b _=>simp[Instr.sameBits,MapKept.bytes_beq]
 all_goals (subst hk;cases d<;>simp[CM]at hd)
theorem TX:∀{l:List Aa} {xs:List Value} (n:Nat),(∀x∈l,x.kind<3)->RVs g w l xs->(xs.zip xs).all (fun p=>Instr.sameBits n p.1 p.2)=true
 |[],xs,n,_,hx=>by have:xs=[]:=Li (by simpa using hx.1);rw[this];rfl
 |x :: l,[],n,_,hx=>by have:=hx.1;simp at this
 |x :: l,v :: xs,n,hk,hx=>by simp only[List.zip_cons_cons,List.all_cons,AI];exact⟨wzhn (hk x (AS ..)) (hx.2 0 x v rfl rfl) n,TX n (fun y hy=>hk y (AR _ hy)) (by have:=hx.drop 1;simpa using this)⟩
theorem qz7b:∀(d:Nat) (t:TypeId) (sh:List Nat),eqFields P d t=some sh->∀k∈sh,k<3:=by
 intro d;induction d with
 |zero=>intro t sh h;simp[eqFields]at h
 |succ d ih =>
  intro t sh h;simp only[eqFields]at h;cases hu:P.underlying t with
  |none=>simp[hu]at h
  |some q =>
   simp only[hu]at h;cases q<;>simp only at h<;>(try (cases h;done))
   case struct fs =>
    split at h
    ·cases h
    ·have go:∀(fl:List Field) (n:Nat) (sh:List Nat),CJ P (eqFields P d) fl n=some sh->∀k∈sh,k<3:=by
      intro fl;induction fl with
      |nil=>intro n sh h1 k hk;simp only[CJ,Ba]at h1;subst h1;cases hk
      |cons f fl ihf =>
       intro n sh h1 k hk;simp only[CJ]at h1;split at h1
       ·cases hm:eqFields P d f.type with
        |none=>simp[hm]at h1
        |some sm =>
         simp only[hm]at h1;split at h1
         ·cases hg:CJ P (eqFields P d) fl (n+sm.length) with
          |none=>simp[hg]at h1
          |some sl =>
           simp only[hg,Ba]at h1;subst h1;rcases CD.1 hk with hk|hk
           ·exact ih _ _ hm k hk
           ·exact ihf _ _ hg k hk
         ·cases h1
       ·cases h1
     exact go fs.toList 0 sh h
   case array n el =>
    cases hm:eqFields P d el with
    |none=>simp[hm]at h
    |some sm =>
     simp only[hm]at h;split at h
     ·obtain rfl:=AL h;intro k hk;obtain⟨l,hl,eE⟩:=List.mem_flatten.1 hk;obtain⟨_,rfl⟩:=List.mem_replicate.1 hl;exact ih _ _ hm k eE
     ·cases h
   all_goals
    obtain rfl:=AL h;intro k hk;simp at hk;omega
theorem qz0i(hk:CK P kt=some kd)(hX:X.kkind=kd)(hx:RV g w X u):(Instr.keyThatStays u u).run P w=.ok u w:=by
 have:Instr.sameBits 10000 u u=true:=by
  cases OB hk with
  |one d hd hk=>exact qzyo hk (TQ hX (TR hk)) hx _
  |row sh hw hs h4 hk =>obtain⟨l,xs,rfl,rfl,hl,c7⟩:=OC h4 hk hX hx;simp only[Instr.sameBits,AI];refine⟨by simp,TX _ (fun x hx=>?_) c7⟩;exact qz7b 9 kt sh hs _ (hl▸Ti hx)
 simp[Instr.keyThatStays,this]
theorem TY{k v:Operand}{v':Ae}(H:HR E g h w)(ht:RVs g w t a.tmps.toList)(ho:o.op=.mapUpdate ty x k v\/o.op=.insert ty x k v)(hx:A7 x x'=true)(hk:A7 k k'=true)(hv:A7 v v'=true)(hu:P.underlying ty=some (.map kt et)) (b9:CK P kt=some kd)(aB:((Ao.mupd kd x' k' v').req (Ah E t) h).ok):Ran E P (execOp a.eval o) g h w ((Ao.mupd kd x' k' v').req (Ah E t) h):=by
 have rx:=AY H ht hx;have rk:=AY H ht hk;have rv:=AY H ht hv;simp only[Ao.req,Cx]at aB |-;generalize Ah E t x'=X at *;generalize Ah E t k'=K at *;generalize Ah E t v'=V at *;generalize fC:a.eval x=vx at rx;generalize il:a.eval k=vk at rk;generalize jY:a.eval v=vv at rv;cases X<;>simp only[Req.fail]at aB |-;rename_i id ep;cases hh:h id<;>simp only[hh]at aB |-<;>(try (exact aB.elim));rename_i ep' es;have hO:=H.obj id;rw[hh]at hO;obtain⟨arr,hb,aO,hr⟩:=hO;have aU:(h id).owned=true:=by rw[hh];rfl
 cases hf:Cm K es 0 with
 |none=>simp only[hf]at aB
 |some r =>
  have bc:ep=ep'/\K.kkind=kd:=by cases r<;>simp only[hf]at aB<;>exact aB
  obtain rfl:=OG H rx (by rw[hh];exact bc.1);rcases OD b9 bc.2 rk (ms:=arr.toList) (by simpa using aO) (fun k e m he hm=>⟨(hr k e m he (by simpa using hm)).1,(hr k e m he (by simpa using hm)).2.1⟩) hf with ⟨rfl,h2⟩ | ⟨j,m,v0,rfl,h2,h3,h4,h5⟩
  ·simp only;refine OA (n:=.skip) (v:=undef) (ob:=.map (arr.push { key:=vk,val:=vv,born:=es.length }) (es.length+1)) H aU (.inl rfl) hb ?_ (.inr ⟨rfl,rfl⟩) (by rw[hh];rfl) ?_
   ·rcases ho with ho|ho<;>simp[execOp,ho,fC,il,jY,Instr.mapUpdate,run_underlying hu,MapKept.run_getObj_map hb,JH b9 bc.2 rk,h2,MapKept.run_setObj_map _ hb,Result.andThen]
   ·intro w' aC iZ;refine⟨⟨arr.push { key:=vk,val:=vv,born:=es.length },by rw[iZ];simp,by simp[aO],fun i e m he hm=>?_⟩,.top _⟩;rw[Ow]at hm;rw[List.getElem?_append]at he;by_cases hi:i<es.length
    ·rw[Aj hi]at he;rw[Ag (by omega)]at hm;obtain⟨q1,q2,q3⟩:=hr i e m he hm;exact⟨q1.mono aC,q2.mono aC,q3⟩
    ·rw[Ag hi]at he;have aW:i=es.length:=(by have:=(A8.1 he).1;simp at this;omega);subst aW;rw[Aj aO.symm]at hm;simp at he hm;subst he;subst hm;exact⟨rk.mono aC,rv.mono aC,rfl⟩
  ·simp only;have hj:arr[j]?=some m:=by simpa using h2
   have bH:=qz0i b9 bc.2 rk;refine OA (n:=.skip) (v:=undef) (ob:=.map (arr.modify j fun e=>{ e with key:=vk,val:=vv }) es.length) H aU (.inl rfl) hb ?_ (.inr ⟨rfl,rfl⟩) (by rw[hh];rfl) ?_
   ·rcases ho with ho|ho<;>simp[execOp,ho,fC,il,jY,Instr.mapUpdate,run_underlying hu,MapKept.run_getObj_map hb,JH b9 bc.2 rk,h5,hj,h3,bH,MapKept.run_setObj_map _ hb,Result.andThen]
   ·intro w' aC iZ;refine⟨⟨arr.modify j fun e=>{ e with key:=vk,val:=vv },by rw[iZ];simp,by simp[aO],fun i e m' he hm=>?_⟩,.top _⟩;rw[Gad]at hm;rw[DP]at he;by_cases hi:j=i
    ·subst hi;simp only[AX]at he hm;split at he
     ·simp[hj]at he hm;subst he;subst hm;obtain⟨_,_,q3⟩:=hr j (es[j]'(by assumption)) m (AF _) hj;exact⟨rk.mono aC,rv.mono aC,q3⟩
     ·cases he
    ·rw[Ag hi]at he hm;obtain⟨q1,q2,q3⟩:=hr i e m' he hm;exact⟨q1.mono aC,q2.mono aC,q3⟩
theorem qz2q(H:HR E g h w)(ht:RVs g w t a.tmps.toList)(ho:o.op=.range ty x)(hx:A7 x x'=true)(hu:P.underlying ty=some (.map kt et)) (aB:((Ao.mrange s x').req (Ah E t) h).ok):Ran E P (execOp a.eval o) g h w ((Ao.mrange s x').req (Ah E t) h):=by
 have rx:=AY H ht hx;simp only[Ao.req,J8]at aB |-;generalize Ah E t x'=X at *;generalize hv:a.eval x=v at rx;cases X<;>simp only[Req.fail]at aB |-
 case nilmp =>
  cases rx;refine Ran.new (ob:=.mapIter none 0 #[] 0) (bo:=0) (st:=0) (cp:=0) (v:=.pointer (some ⟨w.heap.size,0,none⟩)) H ⟨w,rfl,rfl,rfl,rfl,AA _,?_⟩ rfl ?_
  ·simp[execOp,ho,hv,Instr.range,run_underlying hu,Result.andThen]
  intro g' w' aC aN _ _ _ aM;exact⟨by show w'.heap[g'.blk s]?=_;rw[aN];exact aM,fun he=>.ptr _ _ _ _ rfl (by rw[he];exact AA _) (fun _=>by rw[aN])⟩
 case mp id ep =>
  cases hh:h id<;>simp only[hh]at aB |-<;>(try (exact aB.elim));rename_i ep' es;have hO:=H.obj id;rw[hh]at hO;obtain⟨arr,hb,aO,hr⟩:=hO;obtain⟨rfl,cj⟩:=aB;have br:g.ep id=ep:=by rw[H.ep id,hh];rfl
  obtain rfl:=OG H rx (by rw[hh];rfl);refine Ran.new (ob:=.mapIter (some (g.blk id)) es.length #[] es.length) (bo:=0) (st:=0) (cp:=0) (v:=.pointer (some ⟨w.heap.size,0,none⟩)) H ⟨w,rfl,rfl,rfl,rfl,AA _,?_⟩ rfl ?_
  ·simp[execOp,ho,hv,Instr.range,run_underlying hu,Result.andThen,MapKept.run_getObj_map hb]
  intro g' w' aC aN _ _ _ aM;have fo:=aC.ep id;refine⟨⟨by omega,g.blk id,fun e=>((aC.same id (by omega)).1).symm,by rw[aN];exact aM⟩,fun he=>.ptr _ _ _ _ rfl (by rw[he];exact AA _) (fun _=>by rw[aN])⟩
theorem qz6b(H:HR E g h w)(ht:RVs g w t a.tmps.toList)(ho:o.op=.entry x)(hx:A7 x x'=true)(aB:((Ao.mentry x').req (Ah E t) h).ok):Ran E P (execOp a.eval o) g h w ((Ao.mentry x').req (Ah E t) h):=by
 have rx:=AY H ht hx;simp only[Ao.req,HH]at aB |-;generalize Ah E t x'=X at *;generalize hv:a.eval x=v at rx;cases X<;>simp only[Req.fail]at aB |-;rename_i id ep off;cases off with
 |succ n=>simp only at aB
 |zero =>
  simp only at aB |-;cases hh:h id<;>simp only[hh]at aB |-<;>(try (exact aB.elim));rename_i ep' mm seen;cases mm with
  |none=>exact aB.elim
  |some mm =>
   obtain⟨M,eM,n⟩:=mm;simp only at aB |-;cases hM:h M<;>simp only[hM]at aB |-<;>(try (exact aB.elim));rename_i eM' es;obtain⟨rfl,rfl,hn,hs,hl⟩:=aB;have hO:=H.obj id;rw[hh]at hO;obtain⟨_,bM,kO,hb⟩:=hO;have ja:=H.obj M;rw[hM]at ja;obtain⟨arr,kP,aO,hr⟩:=ja;have gG:g.ep M=eM:=by rw[H.ep M,hM];rfl
   rw[kO gG.symm]at hb
   have hp:v=.pointer (some ⟨g.blk id,0,none⟩):=by
    cases rx with
    |ptr _ _ _ _ _ _ hp=>exact hp (by rw[H.ep id,hh];rfl)
   subst hp;obtain⟨sn,k,rfl⟩:∃sn k,seen=sn++[k]:=⟨seen.dropLast,seen.getLast hs,(List.dropLast_concat_getLast hs).symm⟩;simp only[List.getLastD_concat]at hl |-;have hk:k<es.length:=by omega
   have jb:k<arr.size:=by omega
   obtain⟨q1,q2,q3⟩:=hr k es[k] arr[k] (AF hk) (Gc jb);have dD:(arr.toList.map (·.born)).Nodup:=by have:arr.toList.map (·.born)=List.range arr.size:=(by refine List.ext_getElem (by simp) fun i h1 h2=>?_;simp at h1 h2 |-;exact(hr i (es[i]'(by omega)) arr[i] (AF _) (Gc _)).2.2);rw[this];exact List.nodup_range
   have he:=run_entry_at (P:=P) w (g.blk id) (g.blk M) n sn.toArray arr es.length arr[k] (by rw[q3,hb,hn];simp) kP (by simp) dD;refine Ran.same H (v:=.tuple #[arr[k].key,arr[k].val]) ?_ ?_
   ·simp[execOp,ho,hv,he,Result.andThen]
   ·refine .tup _ _ rfl fun i y u hy hu=>?_
    match i with
    |0=>simp[hk]at hy hu;subst hy;subst hu;exact q1
    |1=>simp[hk]at hy hu;subst hy;subst hu;exact q2
    |i+2=>simp at hy
theorem wzhp{ep:Nat}{seen:List Nat}{M eM:Nat}(H:HR E g h w)(ht:RVs g w t a.tmps.toList)(ho:o.op=.next x false)(hx:A7 x x'=true)(hX:Ah E t x'=.ptr id ep 0) (hid:h id=.miter ep (some (M,eM,n)) seen) (hM:h M=.amap eM es) (hn:es.length=n) : ((∀k,k<n->k∈seen)/\(execOp a.eval o).run P w=.ok (.value (.tuple #[.bool false])) w) \/ ∃k,k<n/\k∉seen/\Ran E P (execOp a.eval o) g h w ⟨True,[],.tup [.bool true,(es.getD k (.top,.top)).1,(es.getD k (.top,.top)).2],some (id,.miter ep (some (M,eM,n)) (seen++[k]))⟩:=by
 have rx:=AY H ht hx;rw[hX]at rx;generalize hv:a.eval x=v at rx;have hO:=H.obj id;rw[hid]at hO;obtain⟨h0,bM,kO,hb⟩:=hO;have ja:=H.obj M;rw[hM]at ja;obtain⟨arr,kP,aO,hr⟩:=ja;have gG:g.ep M=eM:=by rw[H.ep M,hM];rfl
 have ebM:=kO gG.symm;subst ebM
 have hp:v=.pointer (some ⟨g.blk id,0,none⟩):=by
  cases rx with
  |ptr _ _ _ _ _ _ hp=>exact hp (by rw[H.ep id,hid];rfl)
 subst hp;have dE:∀i (hi:i<arr.size),arr[i].born=i:=fun i hi=>(hr i (es[i]'(by omega)) arr[i] (AF _) (Gc hi)).2.2;rcases run_next_at (P:=P) w o.type (g.blk id) (g.blk M) n n seen.toArray arr es.length hb kP (fun m hm=>by obtain⟨i,hi,rfl⟩:=Th hm;simp at hi |-;rw[dE i hi];omega) (AA _) with ⟨h1,h2⟩ | ⟨e,he,w1,nF,h2⟩
 ·refine .inl ⟨fun k hk=>?_,by simp[execOp,ho,hv,h2,Result.andThen]⟩;by_cases hc:k∈seen
  ·exact hc
  ·have jb:k<arr.size:=by omega
   have:arr[k]∈leftOf arr seen.toArray:=by simp only[leftOf,Array.mem_filter];exact⟨by simp,by simp[dE k jb,hc]⟩
   have:=Array.size_pos_of_mem this;omega
 ·simp only[leftOf,Array.toList_filter,List.mem_filter]at he;obtain⟨hm,kQ⟩:=he;obtain⟨k,hk,rfl⟩:=Th hm;simp at hk kQ;rw[dE k hk]at kQ;refine .inr ⟨k,by omega,kQ,?_⟩;obtain⟨q1,q2,q3⟩:=hr k (es[k]'(by omega)) arr[k] (AF _) (Gc hk);have fZ:k<es.length:=by omega
  refine OA (n:=.value (.tuple #[.bool true,arr[k].key,arr[k].val])) (v:=.tuple #[.bool true,arr[k].key,arr[k].val]) (ob:=.mapIter (some (g.blk M)) n (seen++[k]).toArray n) (w1:=w1) H (by rw[hid];rfl) nF hb ?_ (.inl rfl) (by rw[hid];rfl) ?_
  ·simp only[execOp,ho,hv,Sem.run_bind,h2,Result.andThen];simp[ChangeMaps.setBlock,dE k hk,hn]
  ·intro w' aC iZ;refine⟨⟨h0,g.blk M,fun _=>rfl,iZ⟩,.tup _ _ rfl fun i y u hy hu=>?_⟩
   match i with
   |0=>simp at hy hu;subst hy;subst hu;exact .bool _
   |1=>simp[fZ]at hy hu;subst hy;subst hu;exact q1.mono aC
   |2=>simp[fZ]at hy hu;subst hy;subst hu;exact q2.mono aC
   |i+3=>simp at hy
theorem TZ(H:HR E g h w)(ht:RVs g w t a.tmps.toList)(ho:o.op=.binOp (if ng then .neq else .eql) ty x (.const (.slice none 0 0)) yt)(hx:A7 x x'=true)(hu:P.underlying ty=some (.slice e))(aB:((Ao.isnil ng x').req (Ah E t) h).ok):Ran E P (execOp a.eval o) g h w ((Ao.isnil ng x').req (Ah E t) h):=by
 have rx:=AY H ht hx;simp only[Ao.req]at aB |-;generalize Ah E t x'=X at *;generalize hv:a.eval x=v at rx;have hg:∀(op:BinOp) (ad:Option Addr) (n c:Nat),(eqGuard op ty x (.const (.slice none 0 0)) (.slice ad n c) (.slice none 0 0)).run P w=.ok () w:=fun op ad n c=>by unfold eqGuard;cases op<;>rfl
 have he:∀(ad:Option Addr) (n c:Nat),(Op.equal ty (.slice ad n c) (.slice none 0 0)).run P w=.ok ad.isNone w:=fun ad n c=>by show(Op.equalIn (9999+1) ty (.slice ad n c) (.slice none 0 0)).run P w=_;rw[Op.equalIn,Sem.run_bind,run_underlying hu];cases ad<;>rfl
 have run:∀(ad:Option Addr) (n c:Nat),v=.slice ad n c->(execOp a.eval o).run P w=.ok (.value (.bool (if ng then !ad.isNone else ad.isNone))) w:=by
  rintro ad n c rfl;have cU:a.eval (.const (.slice none 0 0))=.slice none 0 0:=rfl;cases ng with
  |true =>have e1:binOp .neq ty (.slice ad n c) (.slice none 0 0)=(do pure (.bool (!(<-Op.equal ty (.slice ad n c) (.slice none 0 0))))):=rfl;simp[execOp,ho,hv,cU,hg,e1,he,Result.andThen]
  |false =>have e1:binOp .eql ty (.slice ad n c) (.slice none 0 0)=(do pure (.bool (<-Op.equal ty (.slice ad n c) (.slice none 0 0)))):=rfl;simp[execOp,ho,hv,cU,hg,e1,he,Result.andThen]
 cases X<;>simp only[Req.fail]at aB |-
 case nils =>cases rx;refine Ran.same H (run none 0 0 rfl) ?_;cases ng<;>exact .bool _
 case slc st n f =>
  cases rx with
  |slc0 _ _ ad cap=>exact absurd aB (Nat.lt_irrefl 0)
  |slc _ _ _ b off cap =>refine Ran.same H (run (some ⟨b,off,none⟩) n cap rfl) ?_;cases ng<;>exact .bool _
 case vec id ep lo n =>obtain⟨ad,cap,e1,_⟩:=EG H rx aB;refine Ran.same H (run (some ad) n cap e1) ?_;cases ng<;>exact .bool _
end
theorem Ua:∀{n:Nat} {f:Nat->List Aa} {s:List UInt8},De n f=some s->s.length=n/\∀k,k<n->∃m,f k=[.int .u8 m]/\s[k]?=some (UInt8.ofNat m.toNat)
 |0,f,s,h=>by simp only[De,Ba]at h;subst h;exact⟨rfl,fun k hk=>absurd hk (J7 _)⟩
 |n+1,f,s,h=>by
  unfold De at h;split at h
  ·rename_i m hm;cases hb:De n (fun k=>f (k+1)) with
   |none=>simp[hb]at h
   |some s' =>
    simp only[hb,DS,Ba]at h;subst h;obtain⟨h1,h2⟩:=Ua hb;refine⟨by simp[h1],fun k hk=>?_⟩;cases k with
    |zero=>exact⟨m,hm,rfl⟩
    |succ k=>obtain⟨m',a,b⟩:=h2 k (by omega);exact⟨m',a,by simpa using b⟩
  ·cases h
theorem wzat(ns:List Int):∀(b:ByteArray),(ns.foldl (fun r n=>r.push (UInt8.ofNat n.toNat)) b).data.toList=b.data.toList++ns.map fun n=>UInt8.ofNat n.toNat:=by
 induction ns with
 |nil=>intro b;simp
 |cons n ns ih=>intro b;simp only[List.foldl_cons,ih];simp[ByteArray.push]
section
theorem OJ(H:HR E g h w)(ht:RVs g w t a.tmps.toList)(ho:o.op=.convert src dst x)(hx:A7 x x'=true)(hs:P.underlying src=some (.slice e)) (he:P.underlying e=some (.int .u8)) (hd:P.underlying dst=some .string) (aB:((Ao.b2s x').req (Ah E t) h).ok):Ran E P (execOp a.eval o) g h w ((Ao.b2s x').req (Ah E t) h):=by
 have rx:=AY H ht hx;simp only[Ao.req]at aB |-;generalize Ah E t x'=X at *;unfold Ln at aB |-;cases hb:De (Bo 1 X h).n (Bo 1 X h).f with
 |none=>simp only[hb,Req.fail]at aB
 |some s =>
  simp only[hb]at aB |-;obtain⟨vals,sr⟩:=JG H rx aB.1 aB.2;obtain⟨h1,h2⟩:=Ua hb;generalize (Bo 1 X h).n=n at *;generalize (Bo 1 X h).f=f at *;obtain⟨ad,cap,hv,aG,hc⟩:=sr.val;have bi:∀k,k<n->∃m,vals k 0=.int .u8 m/\s[k]?=some (UInt8.ofNat m.toNat):=fun k hk=>by obtain⟨m,e1,e2⟩:=h2 k hk;have:=sr.rv k 0 (.int .u8 m) hk (by rw[e1];rfl);exact⟨m,rv_int' this,e2⟩
  let num:Nat->Int:=fun k=>match vals k 0 with | .int _ m=>m | _=>0
  have jc:∀k,k<n->vals k 0=.int .u8 (num k)/\s[k]?=some (UInt8.ofNat (num k).toNat):=fun k hk=>by
   obtain⟨m,e1,e2⟩:=bi k hk;have:num k=m:=by show(match vals k 0 with | .int _ m=>m | _=>0)=m;rw[e1]
   rw[this];exact⟨e1,e2⟩
  have hS:s=((List.range n).map num).map fun m=>UInt8.ofNat m.toNat:=by
   apply Lr;intro k;by_cases hk:k<n
   ·rw[(jc k hk).2];simp[hk]
   ·rw[Ls (by omega)];simp[Nat.le_of_not_lt hk]
  refine Ran.same H (v:=.string (((List.range n).map num).foldl (fun r n=>r.push (UInt8.ofNat n.toNat)) ByteArray.empty)) ?_ (.str _ _ (by rw[wzat,hS];rfl));simp only[execOp,ho,hv,Sem.run_bind,run_convert_bytes_string w src dst e ad n cap hs he hd];rcases hc with h0|⟨b,off,rfl,aK⟩
  ·subst h0;cases ad with
   |none=>simp[Conv.bytesToString]
   |some ad =>have:=run_bytesToString (P:=P) w ad 0 cap [] (by simp[loadCells,loadCellsFrom]);simp[this,Result.andThen]
  ·have hl:=run_loadCells_list (P:=P) w ⟨b,off,none⟩ (((List.range n).map num).map (Value.int .u8)) (fun j v hj=>by
    rw[DV];by_cases hk:j<n
    ·have e1:=aK j 0 hk (by omega);simp only[List.map_map,H6,Tg hk,DS,Function.comp,Ba]at hj;rw[<-hj,<-(jc j hk).1];simpa using e1
    ·rw[Ls (by simp;omega)]at hj;cases hj)
   simp only[J5,Ta]at hl;have:=run_bytesToString (P:=P) w ⟨b,off,none⟩ n cap _ hl;simp[this,Result.andThen]
where
 rv_int' {g:Gh} {w:World} {k:IntKind} {n:Int} {v:Value} (hv:RV g w (.int k n) v):v=.int k n:=by cases hv;rfl
theorem Ran.newfz{s:Sem Next}{x:Aa}(H:HR E g h w)(hr:∃w0:World,w0.heap=w.heap/\w0.os=w.os/\w0.tape=w.tape/\w0.output=w.output/\w.drawn<=w0.drawn/\s.run P w=.ok (.value v) { w0 with heap:=w0.heap.push ob })(dC:∀(g':Gh) (w':World),GLe g w g' w'->g'.fz w.heap.size->w'.heap[w.heap.size]?=some ob->RV g' w' x v) :
  Ran E P s g h w ⟨p,rd,x,some (i,.gone ((h i).ep+1))⟩:=by
 obtain⟨w0,e1,e2,e3,e4,e5,hr⟩:=hr
 let g':Gh:=⟨g.blk,fun j=>if j=i then(h i).ep+1 else g.ep j,g.bo,g.st,g.cp,fun b=>g.fz b\/b=w.heap.size⟩
 let w':World:={ w0 with heap:=w0.heap.push ob }
 have be:∀b,b<w.heap.size->w'.heap[b]?=w.heap[b]?:=fun b hb=>by show(w0.heap.push ob)[b]?=_;rw[e1,Ow,Ag (by omega)]
 have aM:w'.heap[w.heap.size]?=some ob:=by show(w0.heap.push ob)[w.heap.size]?=_;rw[e1,Ow,Aj rfl]
 have aC:GLe g w g' w':=by
  refine⟨fun b hb=>⟨.inl hb,be b (H.fzb b hb)⟩,fun j=>?_,fun j hj=>⟨rfl,rfl,rfl,rfl⟩⟩;show g.ep j<=if j=i then(h i).ep+1 else g.ep j;split
  ·rename_i e;subst e;rw[H.ep j];omega
  ·exact AA _
 have aO:w'.heap.size=w.heap.size+1:=by show(w0.heap.push ob).size=_;rw[e1];simp
 obtain⟨H',S'⟩:=HR.upd (g':=g') (w':=w') (i:=i) (o':=.gone ((h i).ep+1)) H aC (fun j hj=>Ag hj) (Aj rfl) (fun b hb _=>be b hb) (by rw[aO];omega) trivial (fun e=>by cases e) (fun e=>by cases e)
  (fun b hb=>by
   rcases hb with hb|rfl
   ·exact .inl hb
   ·exact .inr (.inr (AA _)))
  (fun b hb=>by
   rw[aO];rcases hb with hb|rfl
   ·have:=H.fzb b hb;omega
   ·omega) e2 e3 e4 e5
 exact⟨_,v,w',g',hr,.inl rfl,dC g' w' aC (.inr rfl) aM,H',S',fun e=>by cases e⟩
theorem wzho(H:HR E g h w)(ht:RVs g w t a.tmps.toList)(ho:o.op=.convert src dst x)(hx:A7 x x'=true)(hs:P.underlying src=some .string) (hd:P.underlying dst=some (.slice e)) (he:P.underlying e=some (.int .u8)) (aB:((Ao.s2b s x').req (Ah E t) h).ok):Ran E P (execOp a.eval o) g h w ((Ao.s2b s x').req (Ah E t) h):=by
 have rx:=AY H ht hx;simp only[Ao.req]at aB |-;generalize Ah E t x'=X at *;generalize hv:a.eval x=v at rx;cases X<;>simp only[Req.fail]at aB;rename_i bs;cases rx with
 |str _ ba hb =>
  have run:=run_bytes_of_string (P:=P) w src dst e ba hs hd he;have hge:=O9 w ba.size 0 e;have aO:ba.size=bs.length:=by rw[<-hb];rfl
  refine Ran.newfz (ob:=.cells (bytesRow ba (grownCap w ba.size 0 e)) e ((bytesRow ba (grownCap w ba.size 0 e)).size,(bytesRow ba (grownCap w ba.size 0 e)).size+1)) (v:=.slice (some ⟨w.heap.size,0,none⟩) ba.size (grownCap w ba.size 0 e)) H ⟨w.drew,rfl,rfl,rfl,rfl,HA _,by simp only[execOp,ho,hv,Sem.run_bind,run];rfl⟩ ?_;intro g' w' aC fh aM;rw[aO];rw[aO]at hge;refine .slc 1 bs.length _ w.heap.size 0 _ (fun k _=>.int .u8 (Cy bs k)) fh (by omega) (fun _ _=>rfl) (fun i j hi hj=>?_) (fun _ _ _ _=>rfl) (fun i j y hi hy=>?_)
  ·obtain rfl:j=0:=by omega
   have hlt:i<ba.data.size:=by show i<ba.size;omega
   have e1:(bytesRow ba (grownCap w bs.length 0 e))[0+i*1+0]?=some (.int .u8 (Cy bs i)):=by have e2:0+i*1+0=i:=(by omega);rw[e2];unfold bytesRow;rw[Gaa (by simp;exact hlt),Array.getElem?_map,Gc hlt];simp only[DS,Cy,B4,Ba,Value.int.injEq,true_and];rw[E7,<-hb,Array.getElem?_toList,Gc hlt];rfl
   simp only[World.cell?,aM];rw[aO];exact e1
  ·cases j with
   |zero=>simp at hy;subst hy;exact .int _ _
   |succ j=>simp at hy
theorem Ran.beside{s:Sem Next}{x:Aa}(H:HR E g h w)(hr:s.run P w=.ok (.value v) { w with heap:=w.heap.push ob })(dC:∀(g':Gh) (w':World),GLe g w g' w'->g'.fz w.heap.size->w'.heap[w.heap.size]?=some ob->RV g' w' x v) :
  Ran E P s g h w ⟨p,rd,x,some (i,h i)⟩:=by
 let g':Gh:=⟨g.blk,g.ep,g.bo,g.st,g.cp,fun b=>g.fz b\/b=w.heap.size⟩
 let w':World:={ w with heap:=w.heap.push ob }
 have be:∀b,b<w.heap.size->w'.heap[b]?=w.heap[b]?:=fun b hb=>by show(w.heap.push ob)[b]?=_;rw[Ow,Ag (by omega)]
 have aM:w'.heap[w.heap.size]?=some ob:=by show(w.heap.push ob)[w.heap.size]?=_;rw[Ow,Aj rfl]
 have aC:GLe g w g' w':=⟨fun b hb=>⟨.inl hb,be b (H.fzb b hb)⟩,fun _=>AA _,fun _ _=>⟨rfl,rfl,rfl,rfl⟩⟩;have aO:w'.heap.size=w.heap.size+1:=by show(w.heap.push ob).size=_;simp
 have hh:putH h (some (i,h i))=h:=by
  funext j;show hset h i (h i) j=h j;simp only[hset];split
  ·rename_i e;rw[e]
  ·rfl
 have H':HR E g' h w':=by
  refine⟨fun j=>(H.obj j).mono aC rfl fun ho=>be _ ((H.obj j).lt ho),H.ep,H.inj,fun j hj hf=>?_,fun b hb=>?_,fun j=>(H.glob j).mono aC⟩
  ·rcases hf with hf|hf;·exact H.sep j hj hf
   ·have:=(H.obj j).lt hj;have ga:g.blk j=w.heap.size:=hf;omega
  ·rw[aO];rcases hb with hb|rfl
   ·have:=H.fzb b hb;omega
   ·omega
 have S':Stp g h w g' h w':=by
  refine⟨aC,rfl,rfl,rfl,by rw[aO];omega,fun b hb _=>be b hb,fun j ho=>.inl ⟨j,ho,rfl⟩,fun b hb=>?_,AA _⟩;rcases hb with hb|rfl
  ·exact .inl hb
  ·exact .inr (.inr (AA _))
 refine⟨_,v,w',g',hr,.inl rfl,dC g' w' aC (.inr rfl) aM,?_,?_,fun e=>by cases e⟩
 ·show HR E g' (putH h (some (i,h i))) w';rw[hh];exact H'
 ·show Stp g h w g' (putH h (some (i,h i))) w';rw[hh];exact S'
theorem qz6j(H:HR E g h w)(ht:RVs g w t a.tmps.toList)(ho:o.op=.buildSlice ty n ps)(hb:HM P ty n st nn zero ps.toList parts=true)(aB:((Ao.fslice s st nn zero parts).req (Ah E t) h).ok):Ran E P (execOp a.eval o) g h w ((Ao.fslice s st nn zero parts).req (Ah E t) h):=by
 simp only[Ao.req]at aB |-;cases hf:D0 (Ah E t) zero parts with
 |none=>simp only[hf,Req.fail]at aB
 |some l =>
  simp only[hf]at aB |-;obtain⟨_,hl,aL,h1⟩:=aB;obtain⟨rfl,e,cs',fV,aE,aP⟩:=TF H ht ho hb hf hl;refine Ran.beside (ob:=.cells cs' e (0,0)) H aP ?_;intro g' w' aC fh aM;have ka:∀k j,k<n->j<st->k*st+j<n*st:=fun k j hk hj=>by have:(k+1)*st<=n*st:=Bd _ (by omega);rw[BR]at this;omega
  have aS:∀k,k<n->((Gl st n l).getD k [])=(l.drop (k*st)).take st:=fun k hk=>O6 n l k hl hk;refine .slc st n _ w.heap.size 0 n (fun k j=>cs'.getD (k*st+j) undef) fh (AA _) (fun i hi=>?_) (fun i j hi hj=>?_) (fun i j hi hj=>?_) (fun i j y hi hy=>?_)
  ·rw[aS i hi];have:(i+1)*st<=n*st:=Bd _ (by omega);rw[BR]at this;simp;omega
  ·have bg:=ka i j hi hj;simp only[World.cell?,aM];have e1:0+i*st+j=i*st+j:=by omega
   rw[e1];simp[Array.getD,aE,bg]
  ·have bg:=ka i j hi hj;have cw:cs'.toList[i*st+j]?=some (cs'.getD (i*st+j) undef):=by simp[Array.getD,aE,bg]
   exact G0 fV h1 _ (AG cw)
  ·rw[aS i hi,HF]at hy;split at hy
   ·rename_i hj;rw[Ge]at hy;have bg:=ka i j hi hj;have cw:cs'.toList[i*st+j]?=some (cs'.getD (i*st+j) undef):=by simp[Array.getD,aE,bg]
    exact(fV.2 _ y _ hy cw).mono aC
   ·cases hy
theorem wzds{bytes:Nat}(H:HR E g h w)(ht:RVs g w t a.tmps.toList)(ho:o.op=.makeSlice ty x y)(hx:A7 x x'=true)(hy:A7 y x'=true)(hu:P.underlying ty=some (.slice e)) (hs:szOf P e=some st) (hb:byOf P e=some bytes) (eD:0<bytes) (hz:D5 P e=some zl) (dm:CH zl zero=true)(aB:((Ao.mks s st bytes zero x').req (Ah E t) h).ok):Ran E P (execOp a.eval o) g h w ((Ao.mks s st bytes zero x').req (Ah E t) h):=by
 have rx:=AY H ht hx;have ry:=AY H ht hy;simp only[Ao.req]at aB |-;generalize Ah E t x'=X at *;generalize hv:a.eval x=v at rx;generalize cw:a.eval y=v' at ry;cases X<;>simp only[Req.fail]at aB;rename_i k n;obtain rfl:=OJ.rv_int' rx;obtain rfl:=OJ.rv_int' ry;obtain⟨_,h0,bW,aL,io,eG⟩:=aB;have fm:=DU (g:=g) (w:=w) dm;have eH:zl.length=st:=by rw[<-io];exact fm.1
 obtain⟨i,z,hi,bm,aO,ik,dW⟩:=L5 hs hb hz eH;have dw:zl=z.cells.toList:=O8 hi bm hz;have nG:n<=9223372036854775807:=by have:n*1<=n*bytes:=Int.mul_le_mul_of_nonneg_left (by omega) h0;omega
 have run:=run_make (P:=P) w ty e i z hu hi bm k k n n h0 (HE _) (by rw[ik,Int.mul_comm];omega) nG;refine Ran.new (ob:=.cells (madeCells z.cells (n.toNat*i.size)) e (0,0)) (bo:=0) (st:=st) (cp:=n.toNat) H ⟨w,rfl,rfl,rfl,rfl,AA _,by simp only[execOp,ho,hv,cw,Sem.run_bind,run];rfl⟩ rfl ?_;intro g' w' aC aN cy bw b7 aM;refine⟨L6 aL aN cy bw b7 (AA _) aM ?_ (fun _ _=>io) (fun q j hq hj=>?_),fun he=>?_⟩
 ·rw[size_madeCells,aO];omega
 ·have cJ:=DX hq hj;have aX:j<z.cells.size:=by omega
  have e1:(q*st+j)%z.cells.size=j:=by rw[dW,Bc,Ou];exact C9 hj
  have e2:(madeCells z.cells (n.toNat*i.size))[0+q*st+j]?=some z.cells[j]:=by unfold madeCells;rw[Bn,Array.getElem?_map,Array.getElem?_range,Aj (by rw[aO];exact cJ)];simp only[DS,e1,getElem!_pos z.cells j aX]
  have e3:zl[j]?=some z.cells[j]:=by rw[dw,Array.getElem?_toList,Gc aX]
  have jZ:∃y,zero[j]?=some y:=⟨_,AF (by omega)⟩;exact⟨_,e2,G0 fm eG _ (AG e3),fun y hy=>(fm.2 j y _ hy e3).mono aC⟩
 ·exact .vec _ _ _ _ _ rfl (by rw[he];exact AA _) (fun _=>L2 aN cy b7 (AA _))
theorem Ub{ep a0 cnt:Nat}{fn:Nat->List Aa}(aL:g.st id=st)(h0:0<st)(hn:m<=g.cp id)(aC:GLe g w g w')(aY:g.bo id+g.cp id*st<=arr.size) (aS:∀k,k<m->(f k).length=st/\∀(j:Nat) (x:Aa) (v:Value),(f k)[j]?=some x->arr[g.bo id+k*st+j]?=some v->v.oneCell'=true/\RV g w x v)(hc:a0+cnt<=m) (hl:∀k,k<cnt->(fn k).length=st) (h1:∀k j,k<cnt->j<st->(vals k j).oneCell'=true) (hr:∀(k j:Nat) (x:Aa),k<cnt->(fn k)[j]?=some x->RV g w x (vals k j))(hb:w'.heap[g.blk id]?=some (.cells (arr.toList.take (g.bo id+a0*st)++B5 st cnt vals++arr.toList.drop (g.bo id+a0*st+(B5 st cnt vals).length)).toArray ty (0,0))) :
  OR g w' id (.vec ep st m (fun k=>if a0<=k/\k<a0+cnt then fn (k-a0) else f k)):=by
 have gH:∀k,k<m->(k+1)*st<=g.cp id*st:=fun k hk=>Bd _ (by omega);have e0:(a0+cnt)*st<=g.cp id*st:=Bd _ (by omega);rw[AT]at e0;have aE:=EH st cnt vals;have fw:=fun j=>G2 arr.toList (B5 st cnt vals) (g.bo id+a0*st) j (by rw[aE];simp;omega);refine⟨aL,h0,hn,_,ty,hb,by simp;omega,fun k hk=>?_⟩;have eI:=gH k hk;rw[BR]at eI;by_cases aQ:a0<=k/\k<a0+cnt
 ·simp only[Aj aQ];refine⟨hl _ (by omega),fun j x v hx hv=>?_⟩;have hj:j<st:=by rw[<-hl (k-a0) (by omega)];exact(A8.1 hx).1
  have e1:k*st=a0*st+(k-a0)*st:=by rw[<-AT];congr 1;omega
  have cJ:=DX (k:=k-a0) (n:=cnt) (st:=st) (j:=j) (by omega) hj;rw[Oq,fw,Ag (by omega),Aj (by rw[aE];omega)]at hv;have e2:g.bo id+k*st+j-(g.bo id+a0*st)=(k-a0)*st+j:=by omega
  rw[e2,HQ (by omega) hj]at hv;obtain rfl:=AL hv;exact⟨h1 _ _ (by omega) hj,(hr _ _ x (by omega) hx).mono aC⟩
 ·simp only[Ag aQ];obtain⟨ig,aK⟩:=aS k hk;refine⟨ig,fun j x v hx hv=>?_⟩;have hj:j<st:=by rw[<-ig];exact(A8.1 hx).1
  rw[Oq,fw,aE]at hv
  have kA:¬(g.bo id+a0*st<=g.bo id+k*st+j/\g.bo id+k*st+j<g.bo id+a0*st+cnt*st):=by
   rintro⟨q1,q2⟩;rcases CF k a0 with hlt|hge
   ·have:(k+1)*st<=a0*st:=Bd _ hlt;rw[BR]at this;omega
   ·have:(a0+cnt)*st<=k*st:=Bd _ (by omega);rw[AT]at this;omega
  by_cases j1:g.bo id+k*st+j<g.bo id+a0*st
  ·rw[Aj j1]at hv;have:=aK j x v hx (by simpa using hv);exact⟨this.1,this.2.mono aC⟩
  ·rw[Ag j1,Ag (by omega)]at hv;have:=aK j x v hx (by simpa using hv);exact⟨this.1,this.2.mono aC⟩
theorem wzkf{l:List Value}(hl:l.length=n*st)(h:∀k j,k<n->j<st->l[k*st+j]?=some (vals k j)):l=B5 st n vals:=by
 apply Lr;intro q;by_cases hq:q<n*st
 ·have h0:0<st:=by
   rcases EA st with e|e
   ·subst e;omega
   ·exact e
  have e1:q / st<n:=by rw[H9 h0];exact hq
  have e2:q%st<st:=Gj _ h0;have e3:q / st*st+q%st=q:=by rw[Bc];exact Js q st
  have h1:=h _ _ e1 e2;have h2:=HQ (st:=st) (m:=n) (vals:=vals) e1 e2;rw[e3]at h1 h2;rw[h1,h2]
 ·rw[Ls (by omega),Ls (by rw[EH];omega)]
theorem Uc(P:Program)(o:Oper)(ρ:Operand->Value)(x y:Operand)(tx ty:TypeId)(u v r:Value)(w w':World)(ho:o.op=.call { callee:=.builtin .copy,args:=#[x,y],argTypes:=#[tx,ty] })(hx:ρ x=u)(hy:ρ y=v)(hr:(Builtin.copy_ #[tx,ty] o.type #[u,v]).run P w=.ok r w'):(execOp ρ o).run P w=.ok (.value r) w':=by simp[execOp,ho,resolve,invoke,builtin,hx,hy,hr]
theorem Ud(P:Program)(o:Oper)(ρ:Operand->Value)(x:Operand)(tx:TypeId)(u r:Value)(w w':World)(ho:o.op=.call { callee:=.builtin .clear,args:=#[x],argTypes:=#[tx] })(hx:ρ x=u)(hr:(Builtin.clear_ #[tx] o.type #[u]).run P w=.ok r w'):(execOp ρ o).run P w=.ok (.value r) w':=by simp[execOp,ho,resolve,invoke,builtin,hx,hr]
theorem wzbp{st0:Nat}(H:HR E g h w)(ht:RVs g w t a.tmps.toList)(ho:o.op=.call { callee:=.builtin .copy,args:=#[x,y],argTypes:=#[tx,ty] })(hx:A7 x x'=true)(hy:A7 y y'=true)(hu:P.underlying tx=some (.slice e)) (hs:szOf P e=some st0) (aB:((Ao.copy st0 x' y').req (Ah E t) h).ok):Ran E P (execOp a.eval o) g h w ((Ao.copy st0 x' y').req (Ah E t) h):=by
 have rx:=AY H ht hx;have ry:=AY H ht hy;simp only[Ao.req]at aB |-;generalize Ah E t x'=X at *;generalize Ah E t y'=Y at *;unfold J9 at aB |-;cases X<;>simp only[Req.fail]at aB;rename_i id ep lo n;have hO:=H.obj id;cases hh:h id<;>simp only[hh,Req.fail]at aB hO |-
 case vec ep' st m f =>
  obtain⟨h1,h2,rfl,cT,rfl⟩:=aB;obtain⟨aL,h0,hn,arr,ty',hr,aY,aS⟩:=hO;obtain⟨vals,src⟩:=JG H ry h1 h2;generalize (Bo st0 Y h).n=q at *;generalize (Bo st0 Y h).f=f' at *;have aU:(h id).owned=true:=by rw[hh];rfl
  obtain⟨ad,cap,e1,aG,hc⟩:=EG H rx (by rw[hh];rfl);obtain⟨sad,scap,se,mt,bR⟩:=src.val;have aO:(P.info? e).map (·.size)=some st0:=hs
  obtain⟨i,hi,his⟩:∃i,P.info? e=some i/\i.size=st0:=by
   cases hi:P.info? e with
   |none=>simp[hi]at aO
   |some i=>exact⟨i,rfl,by simpa [hi] using aO⟩
  have jd:Nat.min q n=min q n:=rfl
  have bD:(Builtin.firstCells st0 (min q n) (.slice sad q scap)).run P w=.ok (B5 st0 (min q n) vals).toArray w:=by
   rcases bR with e0|⟨b,off,rfl,aK⟩
   ·have:min q n=0:=(by omega);rw[this];cases sad with
    |none=>simp[Builtin.firstCells,B5]
    |some s=>simp[Builtin.firstCells,loadCells,loadCellsFrom,B5]
   ·exact run_firstCells_some (P:=P) w st0 (min q n) ⟨b,off,none⟩ q scap _ (by rw[EH]) (fun j v hj=>by obtain⟨k,j',hk,aX,rfl,rfl⟩:=HS hj;rw[DV];exact aK k j' (by omega) aX)
  by_cases hz:min q n=0
  ·-- nothing is written
   have run:(Builtin.copy_ #[tx,ty] o.type #[.slice (some ad) n cap,.slice sad q scap]).run P w=.ok (goInt 0) w:=by rw[hz]at bD;simp[Builtin.copy_,run_underlying hu,sizeOf,typeInfo,hi,his,Builtin.lenOf,jd,hz,bD,B5,storeCells]
   have eJ:=setRow_self w (g.blk id) arr ty' (0,0) hr;refine HN H aU hr (arr':=arr) (v:=goInt 0) (by rw[eJ];exact Uc P o a.eval x y tx ty _ _ _ w _ ho e1 se run) (.inl rfl) (by rw[hh];rfl) ?_;intro w' aC hb;refine⟨⟨aL,h0,hn,arr,ty',hb,aY,fun k hk=>?_⟩,by rw[hz];exact .int _ _⟩;rw[hz];simp only[Gg,show ¬(lo<=k/\k<lo) by omega,CG];exact⟨(aS k hk).1,fun j x v hx hv=>⟨((aS k hk).2 j x v hx hv).1,((aS k hk).2 j x v hx hv).2.mono aC⟩⟩
  ·rcases hc with cU|⟨rfl,hc⟩;·omega
   ·have e5:(lo+min q n)*st0<=g.cp id*st0:=Bd _ (by omega);rw[AT]at e5;have d5:=run_storeCells_at P (g.blk id) (g.bo id+lo*g.st id) ty' (B5 st0 (min q n) vals) 0 arr w hr (by rw[EH,aL];omega) (fun u hu=>by obtain⟨p,hp⟩:=Cj.1 hu;obtain⟨k,j,hk,hj,rfl,rfl⟩:=HS hp;exact src.one k j (by omega) hj);simp only[Gg]at d5;have run:(Builtin.copy_ #[tx,ty] o.type #[.slice (some ⟨g.blk id,g.bo id+lo*g.st id,none⟩) n cap,.slice sad q scap]).run P w=.ok (goInt (min q n:Nat)) (w.setRow (g.blk id) (arr.toList.take (g.bo id+lo*g.st id)++B5 st0 (min q n) vals++arr.toList.drop (g.bo id+lo*g.st id+(B5 st0 (min q n) vals).length)).toArray):=by simp only[Builtin.copy_,run_underlying hu,sizeOf,typeInfo,hi,his,Builtin.lenOf,jd,bD,Sem.run_bind,Result.andThen_ok,d5];simp[run_underlying hu,hi,his,bD,d5,Result.andThen]
    refine HN H aU hr (v:=goInt (min q n:Nat)) (Uc P o a.eval x y tx ty _ _ _ w _ ho e1 se run) (.inl rfl) (by rw[hh];rfl) ?_;intro w' aC hb;rw[aL]at hb;exact⟨Ub aL h0 hn aC aY aS (by omega) (fun k hk=>src.len k (by omega)) (fun k j hk hj=>src.one k j (by omega) hj) (fun k j x hk hx=>src.rv k j x (by omega) hx) hb,.int _ _⟩
 all_goals exact aB.elim
theorem qz62(H:HR E g h w)(ht:RVs g w t a.tmps.toList)(ho:o.op=.call { callee:=.builtin .clear,args:=#[x],argTypes:=#[tx] })(hx:A7 x x'=true)(hu:P.underlying tx=some (.slice e)) (hz:D5 P e=some zl) (dm:CH zl zero=true) (aB:((Ao.clear zero x').req (Ah E t) h).ok):Ran E P (execOp a.eval o) g h w ((Ao.clear zero x').req (Ah E t) h):=by
 have rx:=AY H ht hx;simp only[Ao.req]at aB |-;generalize Ah E t x'=X at *;unfold HI at aB |-;cases X<;>simp only[Req.fail]at aB;rename_i id ep lo n;have hO:=H.obj id;cases hh:h id<;>simp only[hh,Req.fail]at aB hO |-
 case vec ep' st m f =>
  obtain⟨rfl,cT,io,eG⟩:=aB;obtain⟨aL,h0,hn,arr,ty',hr,aY,aS⟩:=hO;have aU:(h id).owned=true:=by rw[hh];rfl
  obtain⟨ad,cap,e1,aG,hc⟩:=EG H rx (by rw[hh];rfl);have fm:=DU (g:=g) (w:=w) dm;have eH:zl.length=st:=by rw[<-io];exact fm.1
  have rtup:∀w',RV g w' (.tup []) (.tuple #[]):=fun w'=>.tup _ _ rfl fun i x v hx _=>by simp at hx
  by_cases jZ:n=0
  ·subst jZ;have run:(Builtin.clear_ #[tx] o.type #[.slice (some ad) 0 cap]).run P w=.ok (.tuple #[]) w:=by simp[Builtin.clear_,run_underlying hu]
   have eJ:=setRow_self w (g.blk id) arr ty' (0,0) hr;refine HN H aU hr (arr':=arr) (v:=.tuple #[]) (by rw[eJ];exact Ud P o a.eval x tx _ _ w _ ho e1 run) (.inl rfl) (by rw[hh];rfl) ?_;intro w' aC hb;refine⟨⟨aL,h0,hn,arr,ty',hb,aY,fun k hk=>?_⟩,rtup w'⟩;simp only[Gg,show ¬(lo<=k/\k<lo) by omega,CG];exact⟨(aS k hk).1,fun j x v hx hv=>⟨((aS k hk).2 j x v hx hv).1,((aS k hk).2 j x v hx hv).2.mono aC⟩⟩
  ·rcases hc with cU|⟨rfl,hc⟩;·omega
   ·have e5:(lo+n)*st<=g.cp id*st:=Bd _ (by omega);rw[AT]at e5
    obtain⟨i,z,hi,bm⟩:∃(i:TypeInfo) (z:Value),P.info? e=some i/\i.zero=some z:=by
     unfold D5 at hz;cases hi:P.info? e with
     |none=>simp[hi]at hz
     |some i =>
      cases bm:i.zero with
      |none =>obtain⟨⟩:=i;simp only at bm;subst bm;simp[hi]at hz
      |some z=>exact⟨i,z,rfl,bm⟩
    have dw:zl=z.cells.toList:=O8 hi bm hz;have dW:z.cells.size=st:=by rw[<-eH,dw];simp
    have aF:(Builtin.zeroCells z.cells n).toList=B5 st n (fun _ j=>z.cells.getD j undef):=by
     refine wzkf (by simp[size_zeroCells,dW]) fun k j hk hj=>?_;have cJ:=DX hk hj;have e1:(k*st+j)%z.cells.size=j:=by rw[dW,Bc,Ou];exact C9 hj
     have aX:j<z.cells.size:=(by omega);rw[Array.getElem?_toList];unfold Builtin.zeroCells;rw[Array.getElem?_map,Array.getElem?_range,Aj (by rw[dW];exact cJ)];simp only[DS,e1,getElem!_pos z.cells j aX,Array.getD,aX,dif_pos];rfl
    have eK:∀j,j<st->(z.cells.getD j undef).oneCell'=true/\zl[j]?=some (z.cells.getD j undef):=fun j hj=>by have aX:j<z.cells.size:=(by omega);have e2:z.cells.getD j undef=z.cells[j]:=(by simp[Array.getD,aX]);have e3:zl[j]?=some z.cells[j]:=(by rw[dw,Array.getElem?_toList,Gc aX]);rw[e2];exact⟨G0 fm eG _ (AG e3),e3⟩
    have d5:=run_storeCells_at P (g.blk id) (g.bo id+lo*g.st id) ty' (B5 st n (fun _ j=>z.cells.getD j undef)) 0 arr w hr (by rw[EH,aL];omega) (fun u hu=>by obtain⟨p,hp⟩:=Cj.1 hu;obtain⟨k,j,hk,hj,rfl,rfl⟩:=HS hp;exact(eK j hj).1);simp only[Gg]at d5;obtain⟨n',rfl⟩:∃n',n=n'+1:=⟨n-1,by omega⟩;have run:(Builtin.clear_ #[tx] o.type #[.slice (some ⟨g.blk id,g.bo id+lo*g.st id,none⟩) (n'+1) cap]).run P w=.ok (.tuple #[]) (w.setRow (g.blk id) (arr.toList.take (g.bo id+lo*g.st id)++B5 st (n'+1) (fun _ j=>z.cells.getD j undef)++arr.toList.drop (g.bo id+lo*g.st id+(B5 st (n'+1) (fun _ j=>z.cells.getD j undef)).length)).toArray):=(by generalize B5 st (n'+1) (fun _ j=>z.cells.getD j undef)=row at aF d5 |-;simp only[Builtin.clear_,run_underlying hu,Sem.run_bind,Result.andThen_ok,zeroValue,typeInfo];simp[run_underlying hu,hi,bm,aF,d5,zeroValue,typeInfo,Result.andThen]);refine HN H aU hr (v:=.tuple #[]) (Ud P o a.eval x tx _ _ w _ ho e1 run) (.inl rfl) (by rw[hh];rfl) ?_;intro w' aC hb;rw[aL]at hb;exact⟨Ub (fn:=fun _=>zero) aL h0 hn aC aY aS (by omega) (fun k hk=>io) (fun k j hk hj=>(eK j hj).1) (fun k j x hk hx=>by have hj:j<st:=(by rw[<-io];exact(A8.1 hx).1);exact fm.2 j x _ hx (eK j hj).2) hb,rtup w'⟩
 all_goals exact aB.elim
end
section
theorem qz50{bytes:Nat}(H:HR E g h w)(ht:RVs g w t a.tmps.toList)(ho:o.op=.call { callee:=.builtin .append,args:=#[x,y],argTypes:=#[tx,tx] })(hx:A7 x x'=true)(hy:A7 y y'=true)(hu:P.underlying tx=some (.slice e)) (hs:szOf P e=some st) (hb:byOf P e=some bytes) (hz:D5 P e=some zl) (dm:zl.length=st) (eD:0<bytes)(aB:((Ao.append s st bytes x' y').req (Ah E t) h).ok):Ran E P (execOp a.eval o) g h w ((Ao.append s st bytes x' y').req (Ah E t) h):=by
 have rx:=AY H ht hx;simp only[Ao.req]at aB |-;generalize Ah E t x'=X at *;cases X<;>(try (simp only[Fo,Req.fail]at aB;done))
 case nils =>generalize hv:a.eval x=v at rx;cases rx;exact qzv7 H ht ho hy hu hs hb hz dm eD hv aB
 case vec id ep lo n=>exact qzvr H ht ho hy hu hs hb hz dm eD rx aB
theorem Ue{ao:Ao}(H:HR E g h w)(ht:RVs g w t a.tmps.toList)(hc:yzx P o.op ao=true)(aB:(ao.req (Ah E t) h).ok):Ran E P (execOp a.eval o) g h w (ao.req (Ah E t) h):=by
 generalize ho:o.op=op at hc;unfold yzx at hc;split at hc
 ·exact Tv H ht (.inl ho) hc
 ·exact Tv H ht (.inr ho) hc
 ·simp only[AI]at hc;exact wzan H ht ho hc.1.1 hc.1.2 hc.2 aB
 ·rename_i op' ty x y yt op'' bools x' y';simp only[AI,Bu,Lq,H5]at hc;obtain⟨⟨⟨rfl,hx⟩,hy⟩,hb⟩:=hc;refine wzgm H ht ho hx hy (fun e=>?_) aB;rcases hb with hb|hb
  ·rw[e]at hb;cases hb
  ·split at hb
   ·assumption
   ·cases hb
 ·exact wzdf H ht ho hc aB
 ·exact wzc7 H ht ho hc aB
 ·exact qz7c H ho hc
 ·exact wzep H ht ho hc aB
 ·rename_i ty x agg sz y;simp only[AI,Bu,Lq,H5]at hc;obtain⟨⟨h1,h2⟩,hx⟩:=hc;exact Ty H ht ho hx h1 (fun e=>h2.resolve_left (by rw[e];simp)) aB
 ·simp only[AI,Bu]at hc;exact qz64 H ht ho hc.1.2 hc.2 hc.1.1 aB
 ·exact qz7m H ht ho hc aB
 ·rename_i s x f off y;simp only[AI]at hc;obtain⟨h1,hx⟩:=hc;split at h1
  ·rename_i o' ft hf;simp only[AI,Bu]at h1;obtain⟨rfl,h2⟩:=h1;split at h2
   ·rename_i n hn;exact qz66 H ht ho hx hf hn (by simpa using h2) aB
   ·cases h2
  ·cases h1
 ·rename_i ty x i st x' i';simp only[AI]at hc;obtain⟨⟨h1,hx⟩,hi⟩:=hc;split at h1
  ·rename_i e he;simp only[Bu]at h1;unfold Tr at he;split at he
   ·rename_i e' hu;obtain rfl:=AL he;exact qz3a H ht ho hx hi hu h1 aB
   ·cases he
  ·cases h1
 ·simp only[AI,Bu]at hc;obtain⟨rfl,hx⟩:=hc;exact qz1t H ht ho hx aB
 ·rename_i ty x i x' i';simp only[AI]at hc;obtain⟨⟨h1,hx⟩,hi⟩:=hc;split at h1
  ·rename_i hu;exact wzb8 H ht ho hx hi hu aB
  ·cases h1
 ·exact qz7d H ht ho hc aB
 ·exact qz4n H ht ho hc aB
 ·rename_i src dst x k y;simp only[AI]at hc;obtain⟨⟨h1,h2⟩,hx⟩:=hc;split at h2
  ·rename_i k' hd;simp only[Bu]at h2;subst h2;exact wzbc H ht ho hx h1 hd aB
  ·cases h2
 ·rename_i ty x lo hi isStr st x' lo' aW;simp only[AI]at hc;obtain⟨⟨⟨h1,hx⟩,cT⟩,du⟩:=hc;split at h1
  ·rename_i hu;subst h1;exact TC H ht ho hx cT du hu (by simp) aB
  ·rename_i e hu;simp only[AI,Bu,H5]at h1;obtain⟨rfl,h2⟩:=h1;exact TC H ht ho hx cT du hu (by simp;exact h2) aB
  ·cases h1
 ·rename_i args ats isStr x';simp only[AI,Bu]at hc;obtain⟨⟨⟨h1,h2⟩,hx⟩,hu⟩:=hc;obtain⟨x,rfl⟩:=Array.size_eq_one_iff.1 h1;obtain⟨ty,rfl⟩:=Array.size_eq_one_iff.1 h2;simp only[Oq,Gbc,Option.bind_some]at hx hu;split at hu
  ·rename_i hd;subst hu;exact T8 H ht ho rfl rfl hd (by simp) hx aB
  ·rename_i e hd;simp only[H5]at hu;subst hu;exact T8 H ht ho rfl rfl hd (by simp) hx aB
  ·cases hu
 ·rename_i args ats s st bytes x' y';split at hc
  ·rename_i x y tx ty cY kR;simp only[AI,Bu]at hc;obtain⟨⟨⟨rfl,hx⟩,hy⟩,h2⟩:=hc;obtain rfl:args=#[x,y]:=by rw[<-J2 (xs:=args),cY]
   obtain rfl:ats=#[tx,tx]:=by rw[<-J2 (xs:=ats),kR]
   split at h2
   ·rename_i e hu;simp only[AI,Bu,bne_iff_ne]at h2;obtain⟨⟨⟨hs,hb⟩,eD⟩,hz⟩:=h2;split at hz
    ·rename_i zl dm;simp only[Bu]at hz;exact qz50 H ht ho hx hy hu hs hb dm hz (by omega) aB
    ·cases hz
   ·cases h2
  ·cases hc
 ·rename_i args ats st0 x' y';split at hc
  ·rename_i x y cY;simp only[AI]at hc;exact wzdc H ht ho cY hc.1 hc.2 aB
  ·cases hc
 ·rename_i args ats st0 x' y';split at hc
  ·rename_i x y cY;simp only[AI]at hc;exact wzdn H ht ho cY hc.1 hc.2 aB
  ·cases hc
 ·rename_i ty x y yt sh x' y';simp only[AI,Bu,H5]at hc;obtain⟨⟨⟨⟨h1,h2⟩,h3⟩,hx⟩,hy⟩:=hc;split at h3
  ·rename_i fs hu;exact TK (ng:=false) H ht ho hx hy h1 h2 hu aB
  ·cases h3
 ·rename_i ty x y yt sh x' y';simp only[AI,Bu,H5]at hc;obtain⟨⟨⟨⟨h1,h2⟩,h3⟩,hx⟩,hy⟩:=hc;split at h3
  ·rename_i fs hu;exact TK (ng:=true) H ht ho hx hy h1 h2 hu aB
  ·cases h3
 ·rename_i ty x yt x';simp only[AI]at hc;split at hc
  ·rename_i e hu;exact TZ (ng:=false) H ht ho hc.1 hu aB
  ·cases hc.2
 ·rename_i ty x yt x';simp only[AI]at hc;split at hc
  ·rename_i e hu;exact TZ (ng:=true) H ht ho hc.1 hu aB
  ·cases hc.2
 ·exact qz7q H ho
 ·rename_i ty x k cok kd cok' zero x' k';simp only[AI,Bu]at hc;obtain⟨⟨⟨rfl,h1⟩,hx⟩,hk⟩:=hc;split at h1
  ·rename_i kt et hu;simp only[AI,Bu]at h1;exact qz7o H ht ho hx hk hu h1.1 h1.2 aB
  ·cases h1
 ·rename_i ty m k v kd m' k' v';simp only[AI]at hc;obtain⟨⟨⟨h1,hx⟩,hk⟩,hv⟩:=hc;split at h1
  ·rename_i kt et hu;simp only[Bu]at h1;exact TY H ht (.inl ho) hx hk hv hu h1 aB
  ·cases h1
 ·rename_i ty m k v kd m' k' v';simp only[AI]at hc;obtain⟨⟨⟨h1,hx⟩,hk⟩,hv⟩:=hc;split at h1
  ·rename_i kt et hu;simp only[Bu]at h1;exact TY H ht (.inr ho) hx hk hv hu h1 aB
  ·cases h1
 ·rename_i ty x s x';simp only[AI]at hc;obtain⟨h1,hx⟩:=hc;split at h1
  ·rename_i kt et hu;exact qz2q H ht ho hx hu aB
  ·cases h1
 ·exact qz6b H ht ho hc aB
 ·rename_i f first caps f' caps'
  simp only[AI,Bu]at hc;obtain⟨⟨rfl,h0⟩,bp⟩:=hc;exact qz99 H ht ho (by simpa using h0) bp
 ·rename_i src dst x s x';simp only[AI]at hc;obtain⟨h1,hx⟩:=hc;split at h1
  ·rename_i e hs hd;simp only[AI]at h1;obtain⟨h2,h3⟩:=h1;split at h2
   ·rename_i he;exact wzho H ht ho hx hs hd he aB
   ·cases h2
  ·cases h1
 ·rename_i src dst x x';simp only[AI]at hc;obtain⟨h1,hx⟩:=hc;split at h1
  ·rename_i e hs hd;simp only[AI]at h1;obtain⟨h2,h3⟩:=h1;split at h2
   ·rename_i he;exact OJ H ht ho hx hs he hd aB
   ·cases h2
  ·cases h1
 ·rename_i t0 x y s st bytes zero x';simp only[AI]at hc;obtain⟨⟨hx,hy⟩,h1⟩:=hc;split at h1
  ·rename_i e hu;simp only[AI,Bu,bne_iff_ne]at h1;obtain⟨⟨⟨hs,hb⟩,eD⟩,h2⟩:=h1;split at h2
   ·rename_i z hz;exact wzds H ht ho hx hy hu hs hb (by omega) hz h2 aB
   ·cases h2
  ·cases h1
 ·rename_i args ats st0 x' y';split at hc
  ·rename_i x y tx ty ha bP;simp only[AI]at hc;obtain⟨⟨hx,hy⟩,h1⟩:=hc;split at h1
   ·rename_i e hu;have hs:=Bu.1 h1;obtain rfl:args=#[x,y]:=(by rw[<-J2 (xs:=args),ha]);obtain rfl:ats=#[tx,ty]:=(by rw[<-J2 (xs:=ats),bP]);exact wzbp H ht ho hx hy hu hs aB
   ·cases h1
  ·cases hc
 ·rename_i args ats zero x';split at hc
  ·rename_i x tx ha bP;simp only[AI]at hc;obtain⟨hx,h1⟩:=hc;split at h1
   ·rename_i e hu;split at h1
    ·rename_i z hz;obtain rfl:args=#[x]:=by rw[<-J2 (xs:=args),ha]
     obtain rfl:ats=#[tx]:=by rw[<-J2 (xs:=ats),bP]
     exact qz62 H ht ho hx hu hz h1 aB
    ·cases h1
   ·cases h1
  ·cases hc
 ·exact qz6j H ht ho hc aB
 ·cases hc
end
theorem HU{ob:Ad}(o:Ao)(aB:(o.req ar h).ok)(ho:(o.req ar h).out=some (i,ob)):(h i).plain/\i∈(o.req ar h).rd:=by
 cases o<;>simp only[Ao.req]at aB ho |-<;>(try (cases ho;done))
 case alloc s zero =>simp only[Ba,BB]at ho;obtain⟨rfl,_⟩:=ho;exact⟨aB,by simp⟩
 case box s x =>cases hp:Cw (ar x)<;>simp only[hp,Req.fail]at aB ho |-;simp only[Ba,BB]at ho;obtain⟨rfl,_⟩:=ho;exact⟨aB,by simp⟩
 case bslice s st nn zero ps =>cases hp:D0 ar zero ps<;>simp only[hp,Req.fail]at aB ho |-;simp only[Ba,BB]at ho;obtain⟨rfl,_⟩:=ho;exact⟨aB.1,by simp⟩
 case fslice s st nn zero ps =>cases hp:D0 ar zero ps<;>simp only[hp,Req.fail]at aB ho |-;simp only[Ba,BB]at ho;obtain⟨rfl,_⟩:=ho;exact⟨aB.1,by simp⟩
 case store sz x y =>
  unfold O2 at aB ho |-;cases hp:Cw (ar y)<;>simp only[hp,Req.fail]at aB ho |-;cases hx:ar x<;>simp only[hx,Req.fail]at aB ho |-
  case ptr id ep off =>
   cases hh:h id<;>simp only[hh,Req.fail]at aB ho |-
   case box ep' cs =>simp only[Ba,BB]at ho;obtain⟨rfl,_⟩:=ho;exact⟨by rw[hh];trivial,by simp⟩
   all_goals exact aB.elim
  case eptr id ep i' off =>
   cases hh:h id<;>simp only[hh,Req.fail]at aB ho |-
   case vec ep' st n f =>simp only[Ba,BB]at ho;obtain⟨rfl,_⟩:=ho;exact⟨by rw[hh];trivial,by simp⟩
   all_goals exact aB.elim
  all_goals exact aB.elim
 case append s st bytes x y =>
  simp only[Fo]at aB ho |-;cases hx:ar x<;>simp only[hx,Req.fail]at aB ho |-
  case nils =>
   by_cases hn:(Bo st (ar y) h).n=0
   ·simp only[hn,AX]at ho;cases ho
   ·simp only[hn,CG]at aB ho |-;simp only[Ba,BB]at ho;obtain⟨rfl,_⟩:=ho;exact⟨aB.1,by simp⟩
  case vec id ep lo n =>
   cases hh:h id<;>simp only[hh,Req.fail]at aB ho |-
   case vec ep' st' m f =>simp only[Ba,BB]at ho;obtain⟨rfl,_⟩:=ho;exact⟨by rw[hh];trivial,by simp⟩
   all_goals exact aB.elim
  all_goals exact aB.elim
 case s2b s x =>cases hx:ar x<;>simp only[hx,Req.fail]at aB ho |-<;>(try (cases ho;done));simp only[Ba,BB]at ho;obtain⟨rfl,_⟩:=ho;exact⟨aB,by simp⟩
 case mks s st bytes zero x =>cases hx:ar x<;>simp only[hx,Req.fail]at aB ho |-<;>(try (cases ho;done));simp only[Ba,BB]at ho;obtain⟨rfl,_⟩:=ho;exact⟨aB.1,by simp⟩
 case b2s x =>exfalso;revert ho;unfold Ln;split<;>(intro ho;cases ho;done)
 case copy st0 x y =>unfold J9 at aB ho |-;cases hx:ar x<;>simp only[hx,Req.fail]at aB ho |-<;>(try (cases ho;done));rename_i id ep lo n;cases hh:h id<;>simp only[hh,Req.fail]at aB ho |-<;>(try (cases ho;done));simp only[Ba,BB]at ho;obtain⟨rfl,_⟩:=ho;exact⟨by rw[hh];trivial,by simp⟩
 case clear zero x =>unfold HI at aB ho |-;cases hx:ar x<;>simp only[hx,Req.fail]at aB ho |-<;>(try (cases ho;done));rename_i id ep lo n;cases hh:h id<;>simp only[hh,Req.fail]at aB ho |-<;>(try (cases ho;done));simp only[Ba,BB]at ho;obtain⟨rfl,_⟩:=ho;exact⟨by rw[hh];trivial,by simp⟩
 case mkmap s =>simp only[Ba,BB]at ho;obtain⟨rfl,_⟩:=ho;exact⟨aB,by simp⟩
 case mlook kd cok zero x k =>
  exfalso;revert ho;unfold EB;repeat' split
  all_goals (intro ho;cases ho;done)
 case mupd kd x k v =>
  unfold Cx at aB ho |-;cases hx:ar x<;>simp only[hx,Req.fail]at aB ho |-<;>(try (exact aB.elim));rename_i id ep;cases hh:h id<;>simp only[hh,Req.fail]at aB ho |-<;>(try (exact aB.elim));rename_i ep' es;cases hf:Cm (ar k) es 0 with
  |none=>simp only[hf]at aB
  |some r =>cases r<;>simp only[hf,Ba,BB]at ho |-<;>(obtain⟨rfl,_⟩:=ho;exact⟨by rw[hh];trivial,by simp⟩)
 case mrange s x =>
  unfold J8 at aB ho |-;cases hx:ar x<;>simp only[hx,Req.fail]at aB ho |-<;>(try (exact aB.elim))
  case nilmp =>simp only[Ba,BB]at ho;obtain⟨rfl,_⟩:=ho;exact⟨aB,by simp⟩
  case mp id ep =>cases hh:h id<;>simp only[hh,Req.fail]at aB ho |-<;>(try (exact aB.elim));simp only[Ba,BB]at ho;obtain⟨rfl,_⟩:=ho;exact⟨aB.2,by simp⟩
 case mentry x =>
  exfalso;revert ho;unfold HH;repeat' split
  all_goals (intro ho;cases ho;done)
 case bin op bools x y =>
  exfalso;revert ho;unfold Lm;repeat' split
  all_goals first
   |(intro ho;cases ho;done)
   |(rename_i k a _ b _;cases op<;>(intro ho;cases ho;done))
   |(rename_i k a _ b _ _;cases op<;>(intro ho;cases ho;done))
   |(cases op<;>(intro ho;cases ho;done))
 case pick c x y =>
  exfalso;revert ho;unfold D2;repeat' split
  all_goals (intro ho;cases ho;done)
 case load agg sz x =>
  exfalso;revert ho;unfold D3;repeat' split
  all_goals (intro ho;cases ho;done)
 all_goals (exfalso;revert ho;repeat' split)<;>(intro ho;cases ho;done)
theorem Uf{o:Op}{a:Ao}(h:yzx P o a=true):∀c,o≠.defer c:=by rintro c rfl;cases a<;>simp[yzx]at h
def putT(t:List Aa)(d:Option Tmp)(v:Aa):List Aa:=match d with
 |some d=>t.set d v
 |none=>t
theorem L7(ht:RVs g w t a.tmps.toList)(d:Option Tmp){x:Aa}(hv:RV g w x v):RVs g w (putT t d x) (a.put d v).tmps.toList:=by
 cases d with
 |none=>exact ht
 |some d =>simp only[putT,Act.put,Array.toList_setIfInBounds];exact ht.set d hv
theorem L8(a:Act)(d:Option Tmp)(v:Value):(a.put d v).defers=a.defers:=by cases d<;>rfl
def HC:Aa->Bool->Option Bool
 |.bool b,want=>some (if want then b else !b)
 |.cnd c (.bool b),want=>some (c&&if want then b else !b)
 |.cnd false _,_=>some false
 |_,_=>none
def OK:Value->Option Bool
 |.bool b=>some b
 |_=>none
theorem Ug{x:Aa}(hx:RV g w x v)(hg:HC x want=some c):(OK v==some want)=c:=by
 cases x with
 |bool b =>simp only[HC,Ba]at hg;subst hg;rw[Df hx];cases want<;>cases b<;>rfl
 |cnd d y =>
  cases y with
  |bool b =>
   simp only[HC,Ba]at hg;subst hg;cases hx with
   |cnd _ _ _ h1 h0 =>
    cases d with
    |true =>rw[Df (h1 rfl)];cases want<;>cases b<;>rfl
    |false =>rw[h0 rfl];cases want<;>cases b<;>rfl
  |_ =>
   cases d with
   |true=>cases hg
   |false =>
    cases hg;cases hx with
    |cnd _ _ _ h1 h0=>rw[h0 rfl];cases want<;>rfl
 |_=>cases hg
structure Ak.Ok(P:Program)(ops:Array Oper)(o:Oper)(ao:Ak):Prop where
 dst:o.dst=ao.dst
 grd:match ao.guard with | none=>o.guard=none | some (tg,want)=>∃j,o.guard=some (j,want)/\(ops[j]?).bind (·.dst)=some tg
def argU(E:Nat->Aa)(t:List Aa):Ae->Aa
 |.t n=>unv (t.getD n .top)
 |y=>Ah E t y
def Cn:List Ae->List Tmp
 |[]=>[]
 |.t n :: r=>n :: Cn r
 |_ :: r=>Cn r
theorem EI{l:List Ae}(h:Ae.t n∈l):n∈Cn l:=by
 induction l with
 |nil=>cases h
 |cons x r ih =>
  cases h with
  |head=>simp[Cn]
  |tail _ h=>cases x<;>simp[Cn,ih h]
def BT(c:Bool)(t:List Aa):List Ae->Prop
 |[]=>True
 |.t n :: r=>unc c (t.getD n .top)/\BT c t r
 |_ :: r=>BT c t r
def Ao.unAll(E:Nat->Aa)(c:Bool)(t:List Aa):Ao->Prop
 |.pick x y z=>BT c t [x]/\(match argU E t x with | .bool b=>BT (c&&b) t [y]/\BT (c&&!b) t [z] | _=>False)
 |o=>BT c t o.args
theorem qz8g(b:Bool)(X Y:Aa):(D2 b X Y).v=bif b then unv X else unv Y:=by
 unfold D2;split
 ·rename_i p q h1 h2;cases b<;>simp[Req.when,h1,h2]
 ·rename_i k p k' q h1 h2;split
  ·rename_i e;subst e;cases b<;>simp[Req.when,h1,h2]
  ·cases b<;>simp[Req.when,h1,h2]
 ·cases b<;>simp[Req.when]
theorem Uh(b:Bool)(X Y:Aa):(D2 b X Y).out=none:=by unfold D2;split<;>(try split)<;>rfl
theorem wzbw{l:List Ae}(h:BT c t l)(hn:Ae.t n∈l):unc c (t.getD n .top):=by
 induction l with
 |nil=>cases hn
 |cons x r ih =>
  cases hn with
  |head=>exact h.1
  |tail _ hn=>cases x<;>first|exact ih h.2 hn|exact ih h hn
def only(tm:List Nat)(t:List Aa):List Aa:=t.zipIdx.map fun x=>if x.2∈tm then unv x.1 else .top
theorem wzfb(tm:List Nat)(t:List Aa)(n:Nat)(hn:n∈tm):(only tm t).getD n .top=unv (t.getD n .top):=by
 simp only[only,List.getD,H6,List.getElem?_zipIdx];cases h:t[n]? with
 |none=>rfl
 |some x=>simp[hn]
theorem wzjf{a:List Value}(ht:RVs g w t a)(hc:c=true){l:List Ae}(hu:BT c t l)(tm:List Nat)(nH:∀n∈tm,Ae.t n∈l):RVs g w (only tm t) a:=by
 refine⟨by simp[only,ht.1],fun i x v hx hv=>?_⟩;simp only[only,H6,List.getElem?_zipIdx,Option.map_map]at hx;cases h:t[i]? with
 |none=>simp[h]at hx
 |some y =>
  simp only[h,DS,Function.comp,Bn,Ba]at hx;subst hx;split
  ·rename_i hi;have kf:=wzbw hu (nH i hi);have e:t.getD i .top=y:=by simp[List.getD,h]
   rw[e]at kf;exact Dh (ht.2 i y v h hv) kf hc
  ·exact .top v
theorem JI{l:List Ae}(h:n∈Cn l):Ae.t n∈l:=by
 induction l with
 |nil=>cases h
 |cons x r ih =>
  cases x with
  |t m =>
   simp only[Cn,AV]at h;rcases h with rfl|h
   ·simp
   ·exact AR _ (ih h)
  |c v=>exact AR _ (ih h)
  |g i=>exact AR _ (ih h)
def OL(E:Nat->Aa)(ρ:Option Nat)(P:Program)(ops:Array Oper)(o:Oper)(t0:List Aa)(h0:Aq)(tm:List Tmp)(rd:List Nat)(v:Aa)(out:Option (Nat×Ad)):Prop :=
 ∀(g:Gh) (a:Act) (w:World) (S:Au),SR E g S a w->(∀x∈tm,S.t.getD x .top=t0.getD x .top)->(∀j∈rd,S.h j=h0 j) -> ∀(K:Act->World->Prop) (Q:Exit->Act->World->Prop),(∀g' a' w',SR E g' ⟨putT S.t o.dst v,putH S.h out,S.ds⟩ a' w'->Stp g S.h w g' (putH S.h out) w'->K a' w') ->
  if Region.wanted o (yielded ops a.tmps) then o.wpIn (FW ρ) 0 P a w K Q else(∀f,o.about P w a.eval=some f->(FW ρ).fn f)/\K (a.put o.dst undef) w
theorem Ui{g g':Gh}{w w':World}{out:Option (Nat×Ad)}(hs:∀D∈S.ds,S.h D.1=.dfr D.2)(hout:∀i ob,out=some (i,ob)->(S.h i).plain):∀D∈S.ds,putH S.h out D.1=.dfr D.2:=by
 intro D hD;cases out with
 |none=>exact hs D hD
 |some x =>
  obtain⟨i,ob⟩:=x;have hp:=hout i ob rfl;have aI:D.1≠i:=fun e=>by rw[<-e,hs D hD]at hp;exact hp
  simp only[putH,hset,Ag aI];exact hs D hD
theorem L9{r:Req}(hs:SR E g S a w)(hd:∀c,o.op≠.defer c)(hr:Ran E P (execOp a.eval o) g S.h w r)(hout:∀i ob,r.out=some (i,ob)->(S.h i).plain){K:Act->World->Prop} {Q:Exit->Act->World->Prop} {y:Aa} (hy:∀g' w' v,RV g' w' r.v v->RV g' w' y v)(hK:∀g' a' w',SR E g' ⟨putT S.t o.dst y,putH S.h r.out,S.ds⟩ a' w'->Stp g S.h w g' (putH S.h r.out) w'->K a' w'):o.wpIn (FW ρ) 0 P a w K Q:=by
 obtain⟨n,v,w',g',aP,hn,hv,H',st,_⟩:=hr;refine⟨fun f _=>trivial,?_⟩;rw[Oper.semAt_eq _ _ _ hd,aP];have key:K (a.put o.dst v) w':=by refine hK g' _ w' ⟨H',L7 (hs.tm.mono st.le) o.dst (hy _ _ _ hv),?_,Ui (g:=g) (g':=g') (w:=w) (w':=w') hs.dk hout,hs.dn⟩ st;rw[L8,hs.df];refine H8 fun D hD=>?_;have h1:=hs.hr.ep D.1;have h2:=H'.ep D.1;have h3:=Ui (g:=g) (g':=g') (w:=w) (w':=w') hs.dk hout D hD;rw[hs.dk D hD]at h1;rw[h3]at h2;rw[(st.le.same D.1 (h2.trans h1.symm)).1]
 rcases hn with rfl|⟨rfl,rfl⟩
 ·exact key
 ·exact key
theorem ON{ops:Array Oper}(h:o.guard=none)(f:Nat->Option Bool):Region.wanted o f=true:=by simp[Region.wanted,h]
theorem wzd8{l:List Ae}(h:∀x∈Cn l,t.getD x .top=t0.getD x .top):∀y∈l,Ah E t y=Ah E t0 y:=by
 intro y hy;cases y with
 |t n=>exact h n (EI hy)
 |c v=>rfl
 |g i=>rfl
theorem qz5p{h0:Aq}(hc:yzx P o.op ao.op=true)(hk:Ak.Ok P ops o ao)(hg:ao.guard=none)(aB:(ao.op.req (Ah E t0) h0).ok) :
  OL E ρ P ops o t0 h0 (Cn ao.op.args) (ao.op.req (Ah E t0) h0).rd (ao.op.req (Ah E t0) h0).v (ao.op.req (Ah E t0) h0).out:=by
 intro g a w S hs ht hh K Q hK;have dX:o.guard=none:=by have:=hk.grd;rw[hg]at this;exact this
 rw[Aj (ON (ops:=ops) dX _)];have e1:ao.op.req (Ah E S.t) S.h=ao.op.req (Ah E t0) S.h:=JA ao.op (wzd8 ht);have e2:ao.op.req (Ah E t0) S.h=ao.op.req (Ah E t0) h0:=JC ao.op aB hh;have e:=e1.trans e2;have hr:=Ue (E:=E) (P:=P) (t:=S.t) hs.hr hs.tm hc (by rw[e];exact aB);rw[e]at hr;refine L9 hs (Uf hc) hr (fun i ob ho=>?_) (fun _ _ _ h=>h) hK;obtain⟨hp,hm⟩:=HU ao.op aB ho;rw[hh i hm];exact hp
theorem Uj{h0:Aq}(hc:yzx P o.op ao.op=true)(hk:Ak.Ok P ops o ao)(hg:ao.guard=some (tg,want))(aZ:HC (t0.getD tg .top) want=some c) (aB:c=true->ao.op.unAll E c t0/\(ao.op.req (argU E t0) h0).ok) :
  OL E ρ P ops o t0 h0 (tg :: Cn ao.op.args) (ao.op.req (argU E t0) h0).rd (.cnd c (ao.op.req (argU E t0) h0).v) (bif c then(ao.op.req (argU E t0) h0).out else none):=by
 intro g a w S hs ht hh K Q hK;have dX:=hk.grd;rw[hg]at dX;obtain⟨j,kS,gI⟩:=dX
 have c8:Region.wanted o (yielded ops a.tmps)=c:=by
  have h1:=Ug (hs.tm.getD tg) (by rw[ht tg (AS ..)];exact aZ);rw[<-h1]
  have hy:yielded ops a.tmps j=OK (a.tmps.getD tg undef):=by
   simp only[yielded,gI,Option.bind_some];by_cases hl:tg<a.tmps.size
   ·have e:a.tmps.getD tg undef=a.tmps[tg]:=(by simp[Array.getD,hl]);rw[Gc hl,e];cases a.tmps[tg]<;>rfl
   ·have e:a.tmps.getD tg undef=undef:=(by simp[Array.getD,hl]);rw[Array.getElem?_eq_none (Nat.le_of_not_lt hl),e];rfl
  simp only[Region.wanted,kS,hy]
 cases c with
 |false =>rw[c8];simp only[J3,CG];refine⟨fun f _=>trivial,hK g _ w ⟨hs.hr,L7 hs.tm o.dst (.cnd _ _ _ (fun e=>by cases e) (fun _=>rfl)),by rw[L8];exact hs.df,hs.dk,hs.dn⟩ (.refl _ _ _)⟩
 |true =>
  rw[c8];simp only[AX];obtain⟨hu,aB⟩:=aB rfl;have ip:∀x∈Cn ao.op.args,S.t.getD x .top=t0.getD x .top:=fun x hx=>ht x (AR _ hx)
  have agree:∀l:List Ae,(∀x∈Cn l,S.t.getD x .top=t0.getD x .top)->∀d,BT d t0 l->BT d S.t l:=by
   intro l;induction l with
   |nil=>intro _ _ _;trivial
   |cons y r ih =>
    intro hl d hu;cases y with
    |t n=>exact⟨by rw[hl n (by simp[Cn])];exact hu.1,ih (fun x hx=>hl x (by simp[Cn,hx])) d hu.2⟩
    |c v=>exact ih hl d hu
    |g i=>exact ih hl d hu
  have hr:Ran E P (execOp a.eval o) g S.h w (ao.op.req (argU E t0) h0):=by
   by_cases je:∃x y z,ao.op=.pick x y z
   ·obtain⟨x,y,z,aT⟩:=je;rw[aT]at hu hc ip |-;simp only[Ao.unAll]at hu;obtain⟨nI,fD⟩:=hu
    have known:∀(d:Bool) (yy:Ae) (oo:Operand),d=true->(∀n∈Cn [yy],S.t.getD n .top=t0.getD n .top)->BT d t0 [yy]->A7 oo yy=true->RV g w (argU E t0 yy) (a.eval oo):=by
     intro d yy oo hd hl iq dG;have h1:=AY hs.hr hs.tm dG;cases yy with
     |t n =>have e:S.t.getD n .top=t0.getD n .top:=hl n (by simp[Cn]);simp only[Ah]at h1;rw[e]at h1;exact Dh h1 (show unc d (t0.getD n .top) from iq.1) hd
     |c v=>exact h1
     |g i=>exact h1
    have nJ:∃c0 x0 y0,o.op=.pick c0 x0 y0/\A7 c0 x=true/\A7 x0 y=true/\A7 y0 z=true:=by
     generalize o.op=op at hc;cases op<;>simp only[yzx]at hc<;>(try (cases hc;done))
     case pick c0 x0 y0 =>simp only[AI]at hc;exact⟨_,_,_,rfl,hc.1.1,hc.1.2,hc.2⟩
    obtain⟨c0,x0,y0,ho,ir,jf,nK⟩:=nJ;have mu:=known true x c0 rfl (fun n hn=>ip n (by have:=JI hn;exact EI (by simp only[Ao.args,AV,Oy,O0]at this |-;exact .inl this))) nI ir;simp only[Ao.req];split at fD
    ·rename_i b hb;rw[hb]at mu
     (try rw[hb])
     have e:=Df mu;have aP:(execOp a.eval o).run P w=.ok (.value (if b=true then a.eval x0 else a.eval y0)) w:=by simp[execOp,ho,e,asBool]
     have hv:RV g w (D2 b (argU E t0 y) (argU E t0 z)).v (if b=true then a.eval x0 else a.eval y0):=by
      rw[qz8g];have uu:∀yy:Ae,∀vv,unc true (argU E t0 yy)->RV g w (argU E t0 yy) vv->RV g w (unv (argU E t0 yy)) vv:=fun yy vv h1 h2=>Dh h2 h1 rfl;have kT:(D2 b (argU E t0 y) (argU E t0 z)).ok:=by have:=aB;rw[aT]at this;simp only[Ao.req,hb]at this;exact this
      have iq:unc b (argU E t0 y)/\unc (!b) (argU E t0 z):=by
       revert kT;unfold D2;split
       ·exact id
       ·split<;>exact id
       ·exact id
      cases b with
      |true =>exact uu y _ iq.1 (known true y x0 rfl (fun n hn=>ip n (by have:=JI hn;exact EI (by simp only[Ao.args,AV,Oy,O0]at this |-;exact .inr (.inl this)))) (by simpa using fD.1) jf)
      |false =>exact uu z _ iq.2 (known true z y0 rfl (fun n hn=>ip n (by have:=JI hn;exact EI (by simp only[Ao.args,AV,Oy,O0]at this |-;exact .inr (.inr this)))) (by simpa using fD.2) nK)
     exact⟨_,_,w,g,aP,.inl rfl,hv,by rw[Uh];exact hs.hr,by rw[Uh];exact .refl _ _ _,fun _=>⟨rfl,rfl⟩⟩
    ·exact fD.elim
   ·have kU:BT true t0 ao.op.args:=by
     cases aT:ao.op<;>rw[aT]at hu<;>first|exact hu|exact absurd ⟨_,_,_,aT⟩ je
    have kf:BT true S.t ao.op.args:=agree _ ip _ kU;have bB:=wzjf hs.tm rfl kf (Cn ao.op.args) (fun n hn=>JI hn)
    have e0:ao.op.req (Ah E (only (Cn ao.op.args) S.t)) S.h=ao.op.req (argU E t0) S.h:=by
     refine JA ao.op fun y hy=>?_;cases y with
     |t n=>simp only[Ah,argU];rw[wzfb _ _ _ (EI hy),ip n (EI hy)]
     |c v=>rfl
     |g i=>rfl
    have e2:ao.op.req (argU E t0) S.h=ao.op.req (argU E t0) h0:=JC ao.op aB hh;have e:=e0.trans e2;have hr:=Ue (E:=E) (P:=P) hs.hr bB hc (by rw[e];exact aB);rw[e]at hr;exact hr
  exact L9 hs (Uf hc) hr (fun i ob ho=>by obtain⟨hp,hm⟩:=HU ao.op aB ho;rw[hh i hm];exact hp) (fun _ _ _ h=>.cnd _ _ _ (fun _=>h) (fun e=>by cases e)) hK
theorem qz5e{h0:Aq}(hc:yzx P o.op ao.op=true)(hk:Ak.Ok P ops o ao)(hg:ao.guard=some (tg,want))(aZ:HC (t0.getD tg .top) want=some c) (eL:∀i ob,(ao.op.req (argU E t0) h0).out=some (i,ob)->ob=h0 i) (aB:c=true->ao.op.unAll E c t0/\(ao.op.req (argU E t0) h0).ok) :
  OL E ρ P ops o t0 h0 (tg :: Cn ao.op.args) (ao.op.req (argU E t0) h0).rd (.cnd c (ao.op.req (argU E t0) h0).v) none:=by
 intro g a w S hs ht hh K Q hK
 have e3:putH S.h (bif c then(ao.op.req (argU E t0) h0).out else none)=S.h:=by
  cases c with
  |false=>rfl
  |true =>
   show putH S.h (ao.op.req (argU E t0) h0).out=S.h;cases ho:(ao.op.req (argU E t0) h0).out with
   |none=>rfl
   |some q =>
    obtain⟨i,ob⟩:=q;have e1:=eL i ob ho;have e2:=hh i (HU ao.op (aB rfl).2 ho).2;funext j;show hset S.h i ob j=S.h j;simp only[hset];split
    ·rename_i ej;rw[ej,e1,e2]
    ·rfl
 exact Uj hc hk hg aZ aB g a w S hs ht hh K Q (by rw[e3];exact hK)
end Go.Am

