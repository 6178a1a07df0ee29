/- Part A1: an abstract machine proved sound over the calculus of the guide. No condition. -/
import Derived.WalkKit
import Derived.RangeFuncLeaves
import Derived.OrdersIn
set_option linter.unusedSimpArgs false
set_option linter.unusedVariables false
namespace Go.Am
abbrev Gaa:=@Array.getElem?_append_left
abbrev Gc:=@Array.getElem?_eq_getElem
abbrev Gr:=@Array.getElem?_eq_some_iff
abbrev Gad:=@Array.getElem?_modify
abbrev Oa:=@Array.getElem?_push
abbrev Gag:=@Array.size_append
abbrev Jx:=@Array.toArray_toList
abbrev AH:=@Bool.and_eq_true
abbrev Jy:=@Bool.false_eq_true
abbrev Hy:=@Bool.not_eq_true'
abbrev Ft:=@Bool.not_false
abbrev E4:=@Bool.not_true
abbrev Li:=@Bool.or_eq_true
abbrev Gau:=@Bool.true_and
abbrev Lb:=@Int.fdiv_eq_ediv_of_nonneg
abbrev Jj:=@Int.le_refl
abbrev NS:=@Int.natCast_mul
abbrev SI:=@Int.tdiv_eq_ediv_of_nonneg
abbrev B2:=@Int.toNat_natCast
abbrev CS:=@List.all_eq_true
abbrev Ga1:=@List.cons_append
abbrev NT:=@List.drop_drop
abbrev E5:=@List.drop_eq_getElem_cons
abbrev NU:=@List.eq_nil_of_length_eq_zero
abbrev Lj:=@List.ext_getElem?
abbrev DM:=@List.forall_mem_cons
abbrev E6:=@List.getD_eq_getElem?_getD
abbrev Fu:=@List.getElem?_append_left
abbrev Ge:=@List.getElem?_append_right
abbrev Gbc:=@List.getElem?_cons_zero
abbrev Gf:=@List.getElem?_drop
abbrev AC:=@List.getElem?_eq_getElem
abbrev Lk:=@List.getElem?_eq_none
abbrev AE:=@List.getElem?_eq_some_iff
abbrev Hz:=@List.getElem?_map
abbrev SJ:=@List.getElem?_range
abbrev Gbk:=@List.getElem?_replicate
abbrev DK:=@List.getElem?_set
abbrev HC:=@List.getElem?_take
abbrev NV:=@List.getElem?_toArray
abbrev Jk:=@List.getElem_mem
abbrev Gbp:=@List.getElem_of_mem
abbrev Dv:=@List.length_append
abbrev Bl:=@List.length_cons
abbrev H5:=@List.length_drop
abbrev Gbt:=@List.length_eq_zero_iff
abbrev Jz:=@List.length_map
abbrev SE:=@List.length_range
abbrev Ob:=@List.length_replicate
abbrev J0:=@List.length_set
abbrev Dw:=@List.length_singleton
abbrev Gs:=@List.length_take
abbrev H6:=@List.map_congr_left
abbrev NW:=@List.map_cons
abbrev Dx:=@List.mem_append
abbrev AY:=@List.mem_cons
abbrev AQ:=@List.mem_cons_of_mem
abbrev AP:=@List.mem_cons_self
abbrev Dy:=@List.mem_iff_getElem?
abbrev C7:=@List.mem_map
abbrev SK:=@List.mem_map_of_mem
abbrev AI:=@List.mem_of_getElem?
abbrev Gca:=@List.mem_of_mem_drop
abbrev Jl:=@List.mem_range
abbrev BX:=@List.mem_singleton
abbrev Gcd:=@List.nil_append
abbrev Oc:=@List.not_mem_nil
abbrev Gci:=@List.size_toArray
abbrev SL:=@List.take_append_drop
abbrev SF:=@List.take_of_length_le
abbrev Fv:=@Nat.add_assoc
abbrev AT:=@Nat.add_mul
abbrev Gg:=@Nat.add_zero
abbrev Gt:=@Nat.blt_eq
abbrev Jm:=@Nat.div_add_mod
abbrev SM:=@Nat.div_div_eq_div_mul
abbrev Jo:=@Nat.div_eq_of_lt
abbrev H7:=@Nat.div_lt_iff_lt_mul
abbrev E7:=@Nat.eq_zero_or_pos
abbrev Lc:=@Nat.gcd_comm
abbrev Od:=@Nat.le_div_iff_mul_le
abbrev Ll:=@Nat.le_of_ble_eq_true
abbrev Gu:=@Nat.le_of_lt
abbrev A8:=@Nat.le_refl
abbrev H8:=@Nat.le_succ
abbrev AS:=@Nat.le_trans
abbrev SN:=@Nat.lt_of_le_of_lt
abbrev Gi:=@Nat.lt_of_lt_of_le
abbrev C8:=@Nat.lt_or_ge
abbrev CU:=@Nat.lt_succ_self
abbrev C2:=@Nat.mod_eq_of_lt
abbrev Gj:=@Nat.mod_lt
abbrev Lm:=@Nat.mul_add_div
abbrev NX:=@Nat.mul_add_mod
abbrev E3:=@Nat.mul_assoc
abbrev Bb:=@Nat.mul_comm
abbrev NY:=@Nat.mul_le_mul_left
abbrev Bd:=@Nat.mul_le_mul_right
abbrev Ld:=@Nat.mul_left_comm
abbrev NZ:=@Nat.not_lt_zero
abbrev H9:=@Nat.pos_of_ne_zero
abbrev HD:=@Nat.pow_add
abbrev Cr:=@Nat.pow_le_pow_right
abbrev Dr:=@Nat.pow_succ
abbrev BY:=@Nat.succ_mul
abbrev Bq:=@Nat.zero_add
abbrev B3:=@Nat.zero_le
abbrev Le:=@Option.getD_some
abbrev SG:=@Option.map_eq_some_iff
abbrev DN:=@Option.map_some
abbrev AJ:=@Option.some.inj
abbrev Ba:=@Option.some.injEq
abbrev BC:=@Prod.mk.injEq
abbrev Bu:=@beq_iff_eq
abbrev Co:=@cond_false
abbrev BZ:=@cond_true
abbrev Gk:=@congrArg
abbrev AA:=@decide_eq_false
abbrev Gdx:=@decide_eq_false_iff_not
abbrev AD:=@decide_eq_true
abbrev CN:=@decide_eq_true_eq
abbrev C9:=@if_false
abbrev Ag:=@if_neg
abbrev Aj:=@if_pos
abbrev AZ:=@if_true
abbrev DL:=@not_or
abbrev BK:=@of_decide_eq_true
abbrev Oe:=@or_false
inductive Aa where
 |top
 |int (k:IntKind) (n:Int)
 |bool (b:Bool)
 |str (s:List UInt8)
 |agg (cs:List Aa)
 |tup (vs:List Aa)
 |nils
 |slc (st n:Nat) (f:Nat->List Aa)
 |vec (id ep lo n:Nat)
 |ptr (id ep off:Nat)
 |eptr (id ep i off:Nat)
 |cptr (f:Nat->Aa) (lim off:Nat)
 |nilp
 |fn (f:FuncId) (nb:Nat) (caps:List Aa)
 |nilfn
 |mp (id ep:Nat)
 |nilmp
 |cnd (c:Bool) (x:Aa)
structure Gh where
 blk:Nat->Nat
 ep:Nat->Nat
 bo:Nat->Nat
 st:Nat->Nat
 cp:Nat->Nat
 fz:Nat->Prop
def Gv(g:Gh)(id lo n:Nat)(v:Value):Prop := ∃(a:Addr) (cap:Nat),v=.slice (some a) n cap/\n<=cap/\(cap=0\/(a=⟨g.blk id,g.bo id+lo*g.st id,none⟩/\lo+cap=g.cp id))
inductive RV(g:Gh)(w:World):Aa->Value->Prop where
 |top (v:Value):RV g w .top v
 |int (k:IntKind) (n:Int):RV g w (.int k n) (.int k n)
 |bool (b:Bool):RV g w (.bool b) (.bool b)
 |str (s:List UInt8) (b:ByteArray) (h:b.data.toList=s):RV g w (.str s) (.string b)
 |agg (l:List Aa) (a:Array Value) (hn:a.size=l.length) (h:∀(i:Nat) (x:Aa) (v:Value),l[i]?=some x->a[i]?=some v->RV g w x v):RV g w (.agg l) (.agg a)
 |tup (l:List Aa) (a:Array Value) (hn:a.size=l.length) (h:∀(i:Nat) (x:Aa) (v:Value),l[i]?=some x->a[i]?=some v->RV g w x v):RV g w (.tup l) (.tuple a)
 |nils:RV g w .nils (.slice none 0 0)
 |slc0 (st:Nat) (f:Nat->List Aa) (a:Option Addr) (cap:Nat):RV g w (.slc st 0 f) (.slice a 0 cap)
 |slc (st n:Nat) (f:Nat->List Aa) (b off cap:Nat) (vals:Nat->Nat->Value) (hz:g.fz b) (aG:n<=cap)
   (hl:∀i,i<n->(f i).length=st)
   (hc:∀i j,i<n->j<st->w.cell? ⟨b,off+i*st+j,none⟩=some (vals i j))
   (h1:∀i j,i<n->j<st->(vals i j).oneCell'=true)
   (hr:∀(i j:Nat) (x:Aa),i<n->(f i)[j]?=some x->RV g w x (vals i j)):RV g w (.slc st n f) (.slice (some ⟨b,off,none⟩) n cap)
 |vec (id ep lo n:Nat) (v:Value) (h1:v.oneCell'=true) (he:ep<=g.ep id) (h:ep=g.ep id->Gv g id lo n v):RV g w (.vec id ep lo n) v
 |ptr (id ep off:Nat) (v:Value) (h1:v.oneCell'=true) (he:ep<=g.ep id) (h:ep=g.ep id->v=.pointer (some ⟨g.blk id,off,none⟩)):RV g w (.ptr id ep off) v
 |eptr (id ep i off:Nat) (v:Value) (h1:v.oneCell'=true) (he:ep<=g.ep id) (h:ep=g.ep id->v=.pointer (some ⟨g.blk id,g.bo id+i*g.st id+off,none⟩)):RV g w (.eptr id ep i off) v
 |cptr (f:Nat->Aa) (lim off b base:Nat) (vals:Nat->Value) (hz:g.fz b)
   (hc:∀j,j<lim->w.cell? ⟨b,base+j,none⟩=some (vals j)) (hr:∀j,j<lim->RV g w (f j) (vals j)):RV g w (.cptr f lim off) (.pointer (some ⟨b,base+off,none⟩))
 |nilp:RV g w .nilp (.pointer none)
 |fn (f:FuncId) (nb:Nat) (caps:List Aa) (a:Array Value) (hn:a.size=caps.length) (h:∀(i:Nat) (x:Aa) (v:Value),caps[i]?=some x->a[i]?=some v->RV g w x v):RV g w (.fn f nb caps) (.func (.func f) (a.toList.take nb).toArray (a.toList.drop nb).toArray)
 |nilfn:RV g w .nilfn .nilFunc
 |mp (id ep:Nat) (v:Value) (h1:v.oneCell'=true) (he:ep<=g.ep id) (h:ep=g.ep id->v=.map (some (g.blk id))):RV g w (.mp id ep) v
 |nilmp:RV g w .nilmp (.map none)
 |cnd (c:Bool) (x:Aa) (v:Value) (h:c=true->RV g w x v) (h0:c=false->v=undef):RV g w (.cnd c x) v
structure GLe(g:Gh)(w:World)(g':Gh)(w':World):Prop where
 fz:∀b,g.fz b->g'.fz b/\w'.heap[b]?=w.heap[b]?
 ep:∀i,g.ep i<=g'.ep i
 same:∀i,g'.ep i=g.ep i->g'.blk i=g.blk i/\g'.bo i=g.bo i/\g'.st i=g.st i/\g'.cp i=g.cp i
theorem GLe.refl(g:Gh)(w:World):GLe g w g w:=⟨fun _ h=>⟨h,rfl⟩,fun _=>A8 _,fun _ _=>⟨rfl,rfl,rfl,rfl⟩⟩
theorem GLe.trans{g g' g'':Gh}{w w' w'':World}(h:GLe g w g' w')(k:GLe g' w' g'' w''):GLe g w g'' w'' where
 fz b hb:=⟨(k.fz b (h.fz b hb).1).1,(k.fz b (h.fz b hb).1).2.trans (h.fz b hb).2⟩
 ep i:=AS (h.ep i) (k.ep i)
 same i he:=by have h1:=h.ep i;have h2:=k.ep i;obtain⟨a,b,c,d⟩:=h.same i (by omega);obtain⟨a',b',c',d'⟩:=k.same i (by omega);exact⟨a'.trans a,b'.trans b,c'.trans c,d'.trans d⟩
theorem SO{w w':World}{a:Addr}(h:w'.heap[a.block]?=w.heap[a.block]?):w'.cell? a=w.cell? a:=by simp only[World.cell?,h]
theorem RV.mono{g g':Gh}{w w':World}(aC:GLe g w g' w'){a:Aa}{v:Value}(h:RV g w a v):RV g' w' a v:=by
 induction h with
 |top v=>exact .top v
 |int k n=>exact .int k n
 |bool b=>exact .bool b
 |str s b h=>exact .str s b h
 |agg l a hn _ ih=>exact .agg l a hn ih
 |tup l a hn _ ih=>exact .tup l a hn ih
 |nils=>exact .nils
 |slc0 st f a cap=>exact .slc0 st f a cap
 |slc st n f b off cap vals hz aG hl hc h1 _ ih =>exact .slc st n f b off cap vals (aC.fz b hz).1 aG hl (fun i j hi hj=>(SO (aC.fz b hz).2).trans (hc i j hi hj)) h1 ih
 |vec id ep lo n v hv he h =>refine .vec id ep lo n v hv (AS he (aC.ep id)) fun e=>?_;have h1:=aC.ep id;obtain⟨a,o,b,c⟩:=aC.same id (by omega);obtain⟨ad,cap,h2,h3,h4⟩:=h (by omega);exact⟨ad,cap,h2,h3,by rw[a,o,b,c];exact h4⟩
 |ptr id ep off v hv he h =>refine .ptr id ep off v hv (AS he (aC.ep id)) fun e=>?_;have h1:=aC.ep id;obtain⟨a,o,b,c⟩:=aC.same id (by omega);rw[a];exact h (by omega)
 |eptr id ep i off v hv he h =>refine .eptr id ep i off v hv (AS he (aC.ep id)) fun e=>?_;have h1:=aC.ep id;obtain⟨a,o,b,c⟩:=aC.same id (by omega);rw[a,o,b];exact h (by omega)
 |cptr f lim off b base vals hz hc _ ih =>exact .cptr f lim off b base vals (aC.fz b hz).1 (fun j hj=>(SO (aC.fz b hz).2).trans (hc j hj)) ih
 |nilp=>exact .nilp
 |fn f nb caps a hn _ ih=>exact .fn f nb caps a hn ih
 |nilfn=>exact .nilfn
 |mp id ep v hv he h =>refine .mp id ep v hv (AS he (aC.ep id)) fun e=>?_;have h1:=aC.ep id;obtain⟨a,o,b,c⟩:=aC.same id (by omega);rw[a];exact h (by omega)
 |nilmp=>exact .nilmp
 |cnd c x v _ h0 ih=>exact .cnd c x v ih h0
def RVs(g:Gh)(w:World)(l:List Aa)(a:List Value):Prop:=a.length=l.length/\∀(i:Nat) (x:Aa) (v:Value),l[i]?=some x->a[i]?=some v->RV g w x v
theorem RVs.mono{g g':Gh}{w w':World}(aC:GLe g w g' w'){l:List Aa}{a:List Value}(h:RVs g w l a):RVs g' w' l a := ⟨h.1,fun i x v hx hv=>(h.2 i x v hx hv).mono aC⟩
theorem RVs.nil(g:Gh)(w:World):RVs g w [] []:=⟨rfl,fun i x v hx _=>by simp at hx⟩
theorem RVs.cons{g:Gh}{w:World}{x:Aa}{v:Value}{l:List Aa}{a:List Value}(h:RV g w x v)(t:RVs g w l a):RVs g w (x :: l) (v :: a):=by
 refine⟨by simp[t.1],fun i y u hy hu=>?_⟩;cases i with
 |zero=>simp at hy hu;subst hy;subst hu;exact h
 |succ i=>exact t.2 i y u (by simpa using hy) (by simpa using hu)
theorem RVs.append{g:Gh}{w:World}{l l':List Aa}{a a':List Value}(h:RVs g w l a)(t:RVs g w l' a'):RVs g w (l++l') (a++a'):=by
 refine⟨by simp[h.1,t.1],fun i y u hy hu=>?_⟩;by_cases hi:i<l.length
 ·rw[Fu hi]at hy;rw[Fu (by rw[h.1];exact hi)]at hu;exact h.2 i y u hy hu
 ·rw[Ge (by omega)]at hy;rw[Ge (by rw[h.1];omega),h.1]at hu;exact t.2 _ y u hy hu
theorem RVs.set{g:Gh}{w:World}{l:List Aa}{a:List Value}(h:RVs g w l a)(i:Nat){x:Aa}{v:Value}(hx:RV g w x v):RVs g w (l.set i x) (a.set i v):=by
 refine⟨by simp[h.1],fun j y u hy hu=>?_⟩;rw[DK]at hy hu;by_cases e:i=j
 ·subst e;simp only[AZ]at hy hu;split at hy
  ·split at hu;·simp at hy hu;subst hy;subst hu;exact hx
   ·simp at hu
  ·simp at hy
 ·simp only[e,C9]at hy hu;exact h.2 j y u hy hu
theorem RVs.getD{g:Gh}{w:World}{l:List Aa}{a:Array Value}(h:RVs g w l a.toList)(i:Nat):RV g w (l.getD i .top) (a.getD i undef):=by
 by_cases hi:i<l.length
 ·have h1:l[i]?=some l[i]:=AC hi;have hs:i<a.toList.length:=by rw[h.1];exact hi
  have h2:a.toList[i]?=some a.toList[i]:=AC hs;have:=h.2 i _ _ h1 h2;have e1:l.getD i .top=l[i]:=by simp[List.getD,h1]
  have e2:a.getD i undef=a.toList[i]:=by
   have:i<a.size:=by simpa using hs
   simp[Array.getD,this]
  rw[e1,e2];exact this
 ·have e1:l.getD i .top=.top:=by simp[List.getD,Lk (Nat.le_of_not_lt hi)]
  rw[e1];exact .top _
inductive Ad where
 |gone (ep:Nat)
 |box (ep:Nat) (cs:List Aa)
 |vec (ep st n:Nat) (f:Nat->List Aa)
 |dfr (ep:Nat)
 |amap (ep:Nat) (es:List (Aa×Aa))
 |miter (ep:Nat) (m:Option (Nat×Nat×Nat)) (seen:List Nat)
def Ad.owned:Ad->Bool
 |.gone _=>false
 |_=>true
def Ad.ep:Ad->Nat
 |.gone e=>e
 |.box e _=>e
 |.vec e _ _ _=>e
 |.dfr e=>e
 |.amap e _=>e
 |.miter e _ _=>e
abbrev Aq:=Nat->Ad
def hset(h:Aq)(i:Nat)(o:Ad):Aq:=fun j=>if j=i then o else h j
def OR(g:Gh)(w:World)(i:Nat):Ad->Prop
 |.gone _=>True
 |.box _ cs=>∃(arr:Array Value) (ty:TypeId),w.heap[g.blk i]?=some (.cells arr ty (0,0))/\RVs g w cs arr.toList
 |.vec _ st n f=>g.st i=st/\0<st/\n<=g.cp i/\∃(arr:Array Value) (ty:TypeId),w.heap[g.blk i]?=some (.cells arr ty (0,0))/\g.bo i+g.cp i*st<=arr.size /\
   ∀k,k<n->(f k).length=st/\∀(j:Nat) (x:Aa) (v:Value),(f k)[j]?=some x->arr[g.bo i+k*st+j]?=some v->v.oneCell'=true/\RV g w x v
 |.dfr _=>w.heap[g.blk i]?=some (.deferred (some []))
 |.amap _ es=>∃(arr:Array MapEntry),w.heap[g.blk i]?=some (.map arr es.length)/\arr.size=es.length /\
   ∀(k:Nat) (e:Aa×Aa) (m:MapEntry),es[k]?=some e->arr[k]?=some m->RV g w e.1 m.key/\RV g w e.2 m.val/\m.born=k
 |.miter _ none _=>w.heap[g.blk i]?=some (.mapIter none 0 #[] 0)
 |.miter _ (some (M,eM,n)) seen=>eM<=g.ep M/\∃(bM:Nat),(eM=g.ep M->bM=g.blk M)/\w.heap[g.blk i]?=some (.mapIter (some bM) n seen.toArray n)
structure HR(E:Nat->Aa)(g:Gh)(h:Aq)(w:World):Prop where
 obj:∀(i:Nat),OR g w i (h i)
 ep:∀(i:Nat),g.ep i=(h i).ep
 inj:∀(i j:Nat),(h i).owned=true->(h j).owned=true->g.blk i=g.blk j->i=j
 sep:∀(i:Nat),(h i).owned=true->¬g.fz (g.blk i)
 fzb:∀b,g.fz b->b<w.heap.size
 glob:∀i,RV g w (E i) (.pointer (some ⟨i,0,none⟩))
theorem OR.lt{g:Gh}{w:World}{i:Nat}{o:Ad}(h:OR g w i o)(ho:o.owned=true):g.blk i<w.heap.size:=by
 cases o with
 |gone ep=>cases ho
 |box ep cs=>obtain⟨arr,ty,hb,_⟩:=h;exact(Gr.1 hb).1
 |vec ep st n f=>obtain⟨_,_,_,arr,ty,hb,_⟩:=h;exact(Gr.1 hb).1
 |dfr ep=>exact(Gr.1 h).1
 |amap ep es=>obtain⟨arr,hb,_⟩:=h;exact(Gr.1 hb).1
 |miter ep m seen =>
  cases m with
  |none=>exact(Gr.1 h).1
  |some m=>obtain⟨_,bM,_,hb⟩:=h;exact(Gr.1 hb).1
theorem OR.mono{g g':Gh}{w w':World}(aC:GLe g w g' w'){i:Nat}{o:Ad}(h:OR g w i o)(he:g'.ep i=g.ep i)(hb:o.owned=true->w'.heap[g.blk i]?=w.heap[g.blk i]?):OR g' w' i o:=by
 obtain⟨eb,eo,es,ec⟩:=aC.same i he;cases o with
 |gone ep=>trivial
 |box ep cs =>obtain⟨arr,ty,hh,hr⟩:=h;exact⟨arr,ty,by rw[eb,hb rfl];exact hh,hr.mono aC⟩
 |vec ep st n f =>
  obtain⟨e2,e3,e4,arr,ty,hh,hs,hr⟩:=h
  exact⟨es.trans e2,e3,by rw[ec];exact e4,arr,ty,by rw[eb,hb rfl];exact hh,by rw[ec,eo];exact hs,
   fun k hk=>⟨(hr k hk).1,fun j x v hx hv=>⟨((hr k hk).2 j x v hx (by rw[<-eo];exact hv)).1,((hr k hk).2 j x v hx (by rw[<-eo];exact hv)).2.mono aC⟩⟩⟩
 |dfr ep=>exact(by rw[eb,hb rfl];exact h:w'.heap[g'.blk i]?=some (.deferred (some [])))
 |amap ep es =>obtain⟨arr,hh,hs,hr⟩:=h;exact⟨arr,by rw[eb,hb rfl];exact hh,hs,fun k e m he hm=>⟨(hr k e m he hm).1.mono aC,(hr k e m he hm).2.1.mono aC,(hr k e m he hm).2.2⟩⟩
 |miter ep m seen =>
  cases m with
  |none=>exact(by rw[eb,hb rfl];exact h:w'.heap[g'.blk i]?=some (.mapIter none 0 #[] 0))
  |some m =>obtain⟨M,eM,n⟩:=m;obtain⟨hM,bM,eM',hh⟩:=h;have h1:=aC.ep M;refine⟨by omega,bM,fun e=>?_,by rw[eb,hb rfl];exact hh⟩;rw[eM' (by omega)];exact((aC.same M (by omega)).1).symm
structure Stp(g:Gh)(h:Aq)(w:World)(g':Gh)(h':Aq)(w':World):Prop where
 le:GLe g w g' w'
 os:w'.os=w.os
 tape:w'.tape=w.tape
 output:w'.output=w.output
 size:w.heap.size<=w'.heap.size
 keep:∀b,b<w.heap.size->(∀(i:Nat),(h i).owned=true->g.blk i≠b)->w'.heap[b]?=w.heap[b]?
 own:∀(i:Nat),(h' i).owned=true->(∃(j:Nat),(h j).owned=true/\g.blk j=g'.blk i)\/w.heap.size<=g'.blk i
 fzn:∀b,g'.fz b->g.fz b\/(∃(j:Nat),(h j).owned=true/\g.blk j=b)\/w.heap.size<=b
 drawn:w.drawn<=w'.drawn
theorem Stp.refl(g:Gh)(h:Aq)(w:World):Stp g h w g h w := ⟨.refl g w,rfl,rfl,rfl,A8 _,fun _ _ _=>rfl,fun i ho=>.inl ⟨i,ho,rfl⟩,fun _ h=>.inl h,A8 _⟩
theorem Stp.trans{g g' g'':Gh}{h h' cN:Aq}{w w' w'':World}(a:Stp g h w g' h' w')(b:Stp g' h' w' g'' cN w''):Stp g h w g'' cN w'' where
 le:=a.le.trans b.le
 os:=b.os.trans a.os
 tape:=b.tape.trans a.tape
 output:=b.output.trans a.output
 drawn:=AS a.drawn b.drawn
 size:=AS a.size b.size
 keep x hx hn:=by
  rw[b.keep x (Gi hx a.size),a.keep x hx hn];intro i ho e;rcases a.own i ho with ⟨j,hj,e'⟩|hlt
  ·exact hn j hj (e'.trans e)
  ·omega
 own i ho:=by
  rcases b.own i ho with ⟨j,hj,e⟩|hlt
  ·rcases a.own j hj with ⟨j',bc,e'⟩|hlt';·exact .inl ⟨j',bc,e'.trans e⟩
   ·exact .inr (e▸hlt')
  ·exact .inr (AS a.size hlt)
 fzn x hx:=by
  rcases b.fzn x hx with h1|⟨j,hj,e⟩|h3
  ·exact a.fzn x h1
  ·rcases a.own j hj with ⟨j',bc,e'⟩|hlt';·exact .inr (.inl ⟨j',bc,e'.trans e⟩)
   ·exact .inr (.inr (e▸hlt'))
  ·exact .inr (.inr (AS a.size h3))
variable {E:Nat->Aa}
theorem HR.upd{g g':Gh}{h:Aq}{w w':World}{i:Nat}{o':Ad}(H:HR E g h w)(aC:GLe g w g' w')(bJ:∀j,j≠i->g'.ep j=g.ep j) (bq:g'.ep i=o'.ep)(bR:∀b,b<w.heap.size->((h i).owned=true->b≠g.blk i)->w'.heap[b]?=w.heap[b]?) (cO:w.heap.size<=w'.heap.size)(dh:OR g' w' i o') (aN:o'.owned=true->((h i).owned=true/\g'.blk i=g.blk i)\/w.heap.size<=g'.blk i)(bK:o'.owned=true->¬g'.fz (g'.blk i)) (eZ:∀b,g'.fz b->g.fz b\/(b=g.blk i/\(h i).owned=true)\/w.heap.size<=b) (kp:∀b,g'.fz b->b<w'.heap.size)(gu:w'.os=w.os) (cP:w'.tape=w.tape) (hout:w'.output=w.output) (gv:w.drawn<=w'.drawn:=by exact A8 _) :
  HR E g' (hset h i o') w'/\Stp g h w g' (hset h i o') w':=by
 have other:∀(j:Nat),j≠i->(h j).owned=true->g'.blk j=g.blk j/\w'.heap[g.blk j]?=w.heap[g.blk j]?/\g.blk j<w.heap.size:=by intro j hj ho;have hO:=H.obj j;exact⟨(aC.same j (bJ j hj)).1,bR _ (hO.lt ho) (fun ow e=>hj (H.inj j i ho ow e)),hO.lt ho⟩
 have at_i:hset h i o' i=o':=by simp[hset]
 have at_j:∀j,j≠i->hset h i o' j=h j:=fun j hj=>by simp[hset,hj]
 refine⟨⟨?_,?_,?_,?_,kp,fun i=>(H.glob i).mono aC⟩,⟨aC,gu,cP,hout,cO,?_,?_,?_,gv⟩⟩
 ·intro j;by_cases e:j=i
  ·subst e;rw[at_i];exact dh
  ·rw[at_j j e];exact(H.obj j).mono aC (bJ j e) (fun ho=>(other j e ho).2.1)
 ·intro j;by_cases e:j=i
  ·subst e;rw[at_i];exact bq
  ·rw[at_j j e,bJ j e];exact H.ep j
 ·intro j k op oq e;by_cases ej:j=i
  ·by_cases ek:k=i;·rw[ej,ek]
   ·subst ej;rw[at_i]at op;rw[at_j k ek]at oq;obtain⟨hb,_,hlt⟩:=other k ek oq;rw[hb]at e;rcases aN op with ⟨ow,e2⟩|hge
    ·exact(ek (H.inj k j oq ow (by rw[<-e,e2]))).elim
    ·omega
  ·by_cases ek:k=i
   ·subst ek;rw[at_i]at oq;rw[at_j j ej]at op;obtain⟨hb,_,hlt⟩:=other j ej op;rw[hb]at e;rcases aN oq with ⟨ow,e2⟩|hge
    ·exact(ej (H.inj j k op ow (by rw[e,e2]))).elim
    ·omega
   ·rw[at_j j ej]at op;rw[at_j k ek]at oq;rw[(other j ej op).1,(other k ek oq).1]at e;exact H.inj j k op oq e
 ·intro j op;by_cases e:j=i
  ·subst e;rw[at_i]at op;exact bK op
  ·rw[at_j j e]at op;obtain⟨hb,_,hlt⟩:=other j e op;rw[hb];intro hf;rcases eZ _ hf with h1|⟨h2,ow⟩|h3
   ·exact H.sep j op h1
   ·exact e (H.inj j i op ow h2)
   ·omega
 ·intro b hb hn;exact bR b hb (fun ow e=>hn i ow e.symm)
 ·intro j op;by_cases e:j=i
  ·subst e;rw[at_i]at op;rcases aN op with ⟨ow,e2⟩|hge
   ·exact .inl ⟨j,ow,e2.symm⟩
   ·exact .inr hge
  ·rw[at_j j e]at op;exact .inl ⟨j,op,(other j e op).1.symm⟩
 ·intro b hb;rcases eZ b hb with h1|⟨h2,ow⟩|h3
  ·exact .inl h1
  ·exact .inr (.inl ⟨i,ow,h2.symm⟩)
  ·exact .inr (.inr h3)
theorem HR.heap{g:Gh}{h:Aq}{w w':World}(H:HR E g h w)(he:w'.heap=w.heap)(gu:w'.os=w.os)(cP:w'.tape=w.tape)(hout:w'.output=w.output)(gv:w.drawn<=w'.drawn:=by simp):HR E g h w'/\Stp g h w g h w':=by have aC:GLe g w g w':=⟨fun b hb=>⟨hb,by rw[he]⟩,fun _=>A8 _,fun _ _=>⟨rfl,rfl,rfl,rfl⟩⟩;exact⟨⟨fun i=>(H.obj i).mono aC rfl (fun _=>by rw[he]),H.ep,H.inj,H.sep,fun b hb=>by rw[he];exact H.fzb b hb,fun i=>(H.glob i).mono aC⟩,⟨aC,gu,cP,hout,by rw[he];exact A8 _,fun b _ _=>by rw[he],fun i ho=>.inl ⟨i,ho,rfl⟩,fun _ h=>.inl h,gv⟩⟩
def OSub(o o':Ad):Prop:=o'=.gone o.ep\/o'=o\/∃ep st n f f',o=.vec ep st n f/\o'=.vec ep st n f'/\∀k,k<n->f' k=f k
theorem OSub.refl(o:Ad):OSub o o:=.inr (.inl rfl)
theorem OSub.owned{o o':Ad}(h:OSub o o')(ho:o'.owned=true):o.owned=true:=by
 rcases h with rfl|rfl|⟨ep,st,n,f,f',rfl,rfl,_⟩
 ·cases ho
 ·exact ho
 ·rfl
theorem HR.sub{g:Gh}{h h':Aq}{w:World}(H:HR E g h w)(s:∀i,OSub (h i) (h' i)):HR E g h' w:=by
 refine⟨fun i=>?_,fun i=>?_,fun i j hi hj e=>H.inj i j ((s i).owned hi) ((s j).owned hj) e,fun i hi=>H.sep i ((s i).owned hi),H.fzb,H.glob⟩
 ·have hO:=H.obj i;rcases s i with e|e|⟨ep,st,n,f,f',e,e',hf⟩
  ·rw[e];trivial
  ·rw[e];exact hO
  ·rw[e'] ;rw[e]at hO;obtain⟨e2,e3,e4,arr,ty,hh,hs,hr⟩:=hO;exact⟨e2,e3,e4,arr,ty,hh,hs,fun k hk=>by rw[hf k hk];exact hr k hk⟩
 ·rw[H.ep i];rcases s i with e|e|⟨ep,st,n,f,f',e,e',hf⟩
  ·rw[e];rfl
  ·rw[e]
  ·rw[e,e'];rfl
theorem Stp.sub{g g':Gh}{h h' cN:Aq}{w w':World}(a:Stp g h w g' h' w')(s:∀i,OSub (h' i) (cN i)):Stp g h w g' cN w' := ⟨a.le,a.os,a.tape,a.output,a.size,a.keep,fun i hi=>a.own i ((s i).owned hi),a.fzn,a.drawn⟩
structure As where
 t:List Aa
 h:Aq
 ds:List (Nat×Nat)
structure SR(E:Nat->Aa)(g:Gh)(S:As)(a:Act)(w:World):Prop where
 hr:HR E g S.h w
 tm:RVs g w S.t a.tmps.toList
 df:a.defers=S.ds.map fun D=>{ target:=.collected (g.blk D.1),args:=#[] }
 dk:∀D∈S.ds,S.h D.1=.dfr D.2
 dn:(S.ds.map (·.1)).Nodup
def FW(ρ:Option Nat):Fence:={ Fence.wide with round:=ρ }
theorem qzvj(ρ:Option Nat):¬((FW ρ).depth.isSome=true):=by simp[FW,Fence.wide]
theorem SP{ρ:Option Nat}{n:Nat}{P:Program}{f:FuncId}{args:Array Value}{w:World}{R:Ending->World->Prop}:CallsIn (FW ρ) n P f args w R↔Calls P f args w R:=by rw[<-callsIn_wide (n:=n)];exact Iff.rfl
def AWp(E:Nat->Aa)(ρ:Option Nat)(P:Program)(c:Code)(Q:Exit->As->Prop)(S:As):Prop :=
 ∀(g:Gh) (a:Act) (w:World),SR E g S a w ->
  c.wpIn (FW ρ) 0 P (fun e a' w'=>∃g' S',Q e S'/\SR E g' S' a' w'/\Stp g S.h w g' S'.h w') a w
def VSub(x x':Aa):Prop:=x'=.top\/x'=x\/∃st n f f',x=.slc st n f/\x'=.slc st n f'/\∀k,k<n->f' k=f k
theorem VSub.refl(x:Aa):VSub x x:=.inr (.inl rfl)
theorem RV.sub{g:Gh}{w:World}{x x':Aa}{v:Value}(h:RV g w x v)(s:VSub x x'):RV g w x' v:=by
 rcases s with rfl|rfl|⟨st,n,f,f',rfl,rfl,hf⟩
 ·exact .top v
 ·exact h
 ·cases h with
  |slc0=>exact .slc0 _ _ _ _
  |slc _ _ _ b off cap vals hz aG hl hc h1 hr =>exact .slc st n f' b off cap vals hz aG (fun i hi=>by rw[hf i hi];exact hl i hi) hc h1 (fun i j x hi hx=>hr i j x hi (by rw[<-hf i hi];exact hx))
def TSub:List Aa->List Aa->Prop
 |[],[]=>True
 |x :: l,x' :: l'=>VSub x x'/\TSub l l'
 |_,_=>False
theorem TSub.refl:∀l,TSub l l
 |[]=>trivial
 |x :: l=>⟨.refl x,TSub.refl l⟩
theorem RVs.sub{g:Gh}{w:World}:∀{l l':List Aa} {a:List Value},RVs g w l a->TSub l l'->RVs g w l' a
 |[],[],_,h,_=>h
 |x :: l,x' :: l',a,h,s=>by
  cases a with
  |nil=>have:=h.1;simp at this
  |cons v a =>have hv:RV g w x v:=h.2 0 x v rfl rfl;have ht:RVs g w l a:=⟨by have:=h.1;simpa using this,fun i y u hy hu=>h.2 (i+1) y u (by simpa using hy) (by simpa using hu)⟩;exact .cons (hv.sub s.1) (RVs.sub ht s.2)
 |[],_ :: _,_,_,s=>s.elim
 |_ :: _,[],_,_,s=>s.elim
structure Sub(S S':As):Prop where
 t:TSub S.t S'.t
 h:∀i,OSub (S.h i) (S'.h i)
 ds:S'.ds=S.ds
 dk:∀D∈S.ds,S'.h D.1=.dfr D.2
theorem SR.sub{g:Gh}{S S':As}{a:Act}{w:World}(h:SR E g S a w)(s:Sub S S'):SR E g S' a w := ⟨h.hr.sub s.h,h.tm.sub s.t,by rw[s.ds];exact h.df,by rw[s.ds];exact s.dk,by rw[s.ds];exact h.dn⟩
section rules
variable {ρ:Option Nat}{P:Program}{Q:Exit->As->Prop}{S:As}
theorem AWp.mono{c:Code}{Q':Exit->As->Prop}(h:AWp E ρ P c Q S)(hq:∀e S',Q e S'->Q' e S'):AWp E ρ P c Q' S :=
 fun g a w hs=>wpIn_mono (h g a w hs) fun _ _ _ ⟨g',S',q,r⟩=>⟨g',S',hq _ _ q,r⟩
theorem AWp.skip(h:Q .normal S):AWp E ρ P .skip Q S:=fun g a w hs=>wpIn_skip ⟨g,S,h,hs,.refl _ _ _⟩
theorem AWp.label{l:Nat}(h:Q .normal S):AWp E ρ P (.label l) Q S:=fun g a w hs=>wpIn_label ⟨g,S,h,hs,.refl _ _ _⟩
theorem AWp.exit{id:Nat}(h:Q (.exit id) S):AWp E ρ P (.exit id) Q S:=fun g a w hs=>wpIn_exit ⟨g,S,h,hs,.refl _ _ _⟩
theorem AWp.ret(h:Q .ret S):AWp E ρ P .ret Q S:=fun g a w hs=>wpIn_ret ⟨g,S,h,hs,.refl _ _ _⟩
def Az(K:As->Prop)(Q:Exit->As->Prop):Exit->As->Prop
 |.normal,S=>K S
 |e,S=>Q e S
theorem AWp.seq{x y:Code}(h:AWp E ρ P x (Az (AWp E ρ P y Q) Q) S):AWp E ρ P (.seq x y) Q S:=by
 intro g a w hs;refine wpIn_seq (wpIn_mono (h g a w hs) ?_);rintro e a' w' ⟨g',S',q,aI,st⟩;cases e with
 |normal=>exact wpIn_mono (q g' a' w' aI) fun e a'' w'' ⟨g'',S'',q',aZ,st'⟩=>⟨g'',S'',q',aZ,st.trans st'⟩
 |_=>exact⟨g',S',q,aI,st⟩
def ablk(id:Nat)(Q:Exit->As->Prop):Exit->As->Prop
 |.exit id',S=>if id'=id then Q .normal S else Q (.exit id') S
 |e,S=>Q e S
theorem AWp.block{id:Nat}{c:Code}(h:AWp E ρ P c (ablk id Q) S):AWp E ρ P (.block id c) Q S:=by
 intro g a w hs;refine wpIn_block (wpIn_mono (h g a w hs) ?_);rintro e a' w' ⟨g',S',q,aI,st⟩;cases e with
 |exit id' =>
  simp only[Exit.inBlock];simp only[ablk]at q;split
  ·rename_i e;rw[Aj e]at q;exact⟨g',S',q,aI,st⟩
  ·rename_i e;rw[Ag e]at q;exact⟨g',S',q,aI,st⟩
 |_=>exact⟨g',S',q,aI,st⟩
theorem wzag{F:Fence}{n:Nat}{P:Program}{Q:Exit->Act->World->Prop}{a:Act}{w:World}{c:Code}(h:c.wpIn F n P (fun e a w=>match e with | .goto _=>False | e=>Q e a w) a w):(Code.scope c).wpIn F n P Q a w:=by
 have s1:∀{b:Frame} {k:List Item} {cs:List Frame} {a:Act} {w:World},step P (lone (b.atR a (.code (.scope c) :: k)) cs w)=.next (lone (b.atR a (.code c :: .inScope c :: k)) cs w) :=
  step_lone_go (by simp[stepG,stepG.exec,Frame.atR])
 have s2:∀{b:Frame} {k:List Item} {cs:List Frame} {a:Act} {w:World},step P (lone (b.atR a (.inScope c :: k)) cs w)=.next (lone (b.atR a k) cs w) :=
  step_lone_go (by simp[stepG,stepG.exec,Frame.atR])
 intro b k cs fg hb hr;have h0:(lone (b.atR a (.code (.scope c) :: k)) cs w).fenced P F:=fenced_calm hb hr rfl;obtain⟨e,a₁,w₁,hq,bj⟩:=h b (.inScope c :: k) cs fg hb hr;cases e with
 |normal=>exact⟨.normal,a₁,w₁,hq,.head h0 s1 (StepsIn.trans bj (.one (fenced_calm hb hr rfl) s2))⟩
 |exit id =>
  have hx:exitTo id (.inScope c :: k)=exitTo id k:=by simp[exitTo]
  exact⟨.exit id,a₁,w₁,hq,fun k' hk=>.head h0 s1 (bj.1 k' (by rw[hx];exact hk)),
   fun bu hk=>let ⟨k₁,h1,h2⟩:=bj.2 bu (by rw[hx];exact hk);⟨k₁,h1,.head h0 s1 h2⟩⟩
 |goto l=>exact hq.elim
 |ret=>exact⟨_,a₁,w₁,hq,.of_steps (.one h0 s1) bj⟩
 |panic ch=>exact⟨_,a₁,w₁,hq,.of_steps (.one h0 s1) bj⟩
 |outgrown=>exact⟨_,a₁,w₁,hq,.of_steps (.one h0 s1) bj⟩
def Of(Q:Exit->As->Prop):Exit->As->Prop
 |.goto _,_=>False
 |e,S=>Q e S
theorem AWp.scope{c:Code}(h:AWp E ρ P c (Of Q) S):AWp E ρ P (.scope c) Q S:=by intro g a w hs;refine wzag (wpIn_mono (h g a w hs) ?_);rintro e a' w' ⟨g',S',q,aI,st⟩;cases e<;>first|exact q.elim|exact⟨g',S',q,aI,st⟩
theorem qzxb{F:Fence}{n:Nat}{P:Program}{Q:Exit->Act->World->Prop}{a:Act}{w:World}{c:Code}{α:Type}(I:α->Act->World->Prop)(Z:α->Nat)(x₀:α)(h₀:I x₀ a w)(round:∀x a w,I x a w->c.wpIn F n P (Exit.then (fun a' w'=>∃x',I x' a' w'/\Z x'<Z x) Q) a w):(Code.loop c).wpIn F n P Q a w:=by
 intro b k cs fg hb hr
 have key:∀j x a w,Z x=j->I x a w -> ∃e a' w',Q e a' w'/\ArrivesIn (Machine.fenced P F) P (lone (b.atR a (.code c :: .inLoop c :: k)) cs w) b k cs e a' w':=by
  intro j;induction j using Nat.strongRecOn with
  |_ j ih =>
   intro x a w hn hI;obtain⟨e,a₁,w₁,hq,bj⟩:=round x a w hI b (.inLoop c :: k) cs fg hb hr;cases e with
   |normal =>obtain⟨x₁,hI₁,hlt⟩:=hq;obtain⟨e₂,a₂,w₂,hq₂,bj₂⟩:=ih (Z x₁) (hn▸hlt) x₁ a₁ w₁ rfl hI₁;exact⟨e₂,a₂,w₂,hq₂,.of_steps (StepsIn.trans bj (.one (fenced_calm hb hr rfl) stepR_inLoop)) bj₂⟩
   |exit id=>exact⟨_,a₁,w₁,hq,.pass (x:=.inLoop c) rfl (fun _ _=>.inl (by simp)) bj⟩
   |goto l=>exact⟨_,a₁,w₁,hq,.pass (x:=.inLoop c) rfl (fun _ _=>.inl (by simp)) bj⟩
   |ret=>exact⟨_,a₁,w₁,hq,.pass (x:=.inLoop c) rfl (fun _ _=>.inl (by simp)) bj⟩
   |panic ch=>exact⟨_,a₁,w₁,hq,.pass (x:=.inLoop c) rfl (fun _ _=>.inl (by simp)) bj⟩
   |outgrown=>exact⟨_,a₁,w₁,hq,.pass (x:=.inLoop c) rfl (fun _ _=>.inl (by simp)) bj⟩
 obtain⟨e,a',w',hq,bj⟩:=key _ x₀ a w rfl h₀;exact⟨e,a',w',hq,.of_steps (.one (fenced_calm hb hr rfl) stepR_loop) bj⟩
end rules
def ATr(E:Nat->Aa)(P:Program)(f:FuncId)(args:List Aa)(h:Aq)(R:Aa->Aq->Prop):Prop :=
 ∀(g:Gh) (w:World) (vs:List Value),HR E g h w->RVs g w args vs ->
  Calls P f vs.toArray w fun e w'=>∃g' h' r v,R r h'/\e=.returned v/\RV g' w' r v/\HR E g' h' w'/\Stp g h w g' h' w'
theorem ATr.mono{P:Program}{f:FuncId}{args:List Aa}{h:Aq}{R R':Aa->Aq->Prop}(H:ATr E P f args h R)(hr:∀r h',R r h'->R' r h'):ATr E P f args h R' :=
 fun g w vs hh hv=>(H g w vs hh hv).mono fun _ _ ⟨g',h',r,v,q,rest⟩=>⟨g',h',r,v,hr _ _ q,rest⟩
inductive Ae where
 |t (n:Nat)
 |c (v:Aa)
 |g (i:Nat)
inductive An where
 |mv (x:Ae)
 |pick (c x y:Ae)
 |bin (op:BinOp) (bools:Bool) (x y:Ae)
 |not (x:Ae)
 |neg (x:Ae)
 |alloc (s:Nat) (zero:List Aa)
 |box (s:Nat) (x:Ae)
 |build (zero:List Aa) (parts:List (Nat×Nat×Ae))
 |bslice (s st len:Nat) (zero:List Aa) (parts:List (Nat×Nat×Ae))
 |load (agg:Bool) (sz:Nat) (x:Ae)
 |store (sz:Nat) (x y:Ae)
 |nilck (x:Ae)
 |conv (k:IntKind) (x:Ae)
 |mkfn (f:FuncId) (nb:Nat) (caps:List Ae)
 |s2b (s:Nat) (x:Ae)
 |b2s (x:Ae)
 |mks (s st bytes:Nat) (zero:List Aa) (x:Ae)
 |copy (st:Nat) (x y:Ae)
 |clear (zero:List Aa) (x:Ae)
 |fslice (s st len:Nat) (zero:List Aa) (parts:List (Nat×Nat×Ae))
 |slice (isStr:Bool) (st:Nat) (x:Ae) (lo hi:Option Ae)
 |faddr (off:Nat) (x:Ae)
 |iaddrS (st:Nat) (x i:Ae)
 |extract (i:Nat) (x:Ae)
 |sidx (x i:Ae)
 |len (isStr:Bool) (x:Ae)
 |append (s st bytes:Nat) (x y:Ae)
 |eqagg (sh:List Nat) (neg:Bool) (x y:Ae)
 |max (x y:Ae)
 |min (x y:Ae)
 |mkmap (s:Nat)
 |mlook (kd:Nat) (ok:Bool) (zero:Aa) (x k:Ae)
 |mupd (kd:Nat) (x k v:Ae)
 |mrange (s:Nat) (x:Ae)
 |mentry (x:Ae)
 |mnext (x:Ae)
 |isnil (ng:Bool) (x:Ae)
 |callf (f:FuncId) (args:List Ae)
 |callv (x:Ae) (args:List Ae)
structure Ak where
 dst:Option Tmp
 op:An
 guard:Option (Tmp×Bool)
def Ad.plain:Ad->Prop
 |.dfr _=>False
 |_=>True
structure Req where
 ok:Prop
 rd:List Nat
 v:Aa
 out:Option (Nat×Ad)
def Req.fail:Req:=⟨False,[],.top,none⟩
def Req.val(v:Aa):Req:=⟨True,[],v,none⟩
def Req.when(p:Prop)(v:Aa):Req:=⟨p,[],v,none⟩
def inr:IntKind->Int->Prop
 |.i8,n=>-128<=n/\n<=127
 |.i16,n=>-32768<=n/\n<=32767
 |.i32,n=>-2147483648<=n/\n<=2147483647
 |.i64,n=>-9223372036854775808<=n/\n<=9223372036854775807
 |_,_=>True
def cut:IntKind->Int->Int
 |.u8,n=>n%256
 |.u16,n=>n%65536
 |.u32,n=>n%4294967296
 |.u64,n=>n%18446744073709551616
 |_,n=>n
theorem Gw(k:IntKind)(n:Int)(h:inr k n):k.wrap n=cut k n:=by cases k<;>simp only[inr]at h<;>simp only[IntKind.wrap,IntKind.bits,IntKind.signed,cut]<;>(try simp only[Gau,Bool.false_and])<;>(try simp)<;>(try (split<;>omega))
def bitI(op:BinOp)(k:IntKind)(a b:Int):Int :=
 match op with
 |.and=>k.wrap (BitVec.ofInt k.bits a &&& BitVec.ofInt k.bits b).toNat
 |.or=>k.wrap (BitVec.ofInt k.bits a ||| BitVec.ofInt k.bits b).toNat
 |.xor=>k.wrap (BitVec.ofInt k.bits a ^^^ BitVec.ofInt k.bits b).toNat
 |_=>k.wrap (BitVec.ofInt k.bits a &&& ~~~BitVec.ofInt k.bits b).toNat
def Jp(op:BinOp)(k:IntKind)(a b:Int):Req :=
 match op with
 |.shl=>.when (0<=b/\inr k (a*2 ^ min b.toNat k.bits)) (.int k (cut k (a*2 ^ min b.toNat k.bits)))
 |.shr=>.when (0<=b) (.int k (a.fdiv (2 ^ min b.toNat k.bits)))
 |_=>.fail
@[simp] def Fw:BinOp->Bool
 |.shl | .shr=>true
 |_=>false
def Jq(op:BinOp)(k:IntKind)(a b:Int):Req :=
 match op with
 |.add=>.when (inr k (a+b)) (.int k (cut k (a+b)))
 |.sub=>.when (inr k (a-b)) (.int k (cut k (a-b)))
 |.mul=>.when (inr k (a*b)) (.int k (cut k (a*b)))
 |.quo=>.when (b≠0/\inr k (a.tdiv b)) (.int k (cut k (a.tdiv b)))
 |.rem=>.when (b≠0) (.int k (a.tmod b))
 |.and=>.val (.int k (bitI .and k a b))
 |.or=>.val (.int k (bitI .or k a b))
 |.xor=>.val (.int k (bitI .xor k a b))
 |.andNot=>.val (.int k (bitI .andNot k a b))
 |.eql=>.val (.bool (decide (a=b)))
 |.neq=>.val (.bool (!decide (a=b)))
 |.lss=>.val (.bool (decide (a<b)))
 |.leq=>.val (.bool (decide (a<=b)))
 |.gtr=>.val (.bool (decide (b<a)))
 |.geq=>.val (.bool (decide (b<=a)))
 |_=>.fail
def yzk(op:BinOp)(a b:List UInt8):Req :=
 match op with
 |.add=>.when (a.length+b.length<=4611686018427387904) (.str (a++b))
 |.eql=>.val (.bool (decide (a=b)))
 |.neq=>.val (.bool (!decide (a=b)))
 |.lss=>.val (.bool (Op.bytesLess a b))
 |.leq=>.val (.bool (Op.bytesLess a b||decide (a=b)))
 |.gtr=>.val (.bool (!(Op.bytesLess a b||decide (a=b))))
 |.geq=>.val (.bool (!Op.bytesLess a b))
 |_=>.fail
def Lf(op:BinOp)(bools:Bool)(x y:Aa):Req :=
 match x,y with
 |.int k a,.int k' b=>if Fw op=true then Jp op k a b else if k=k' then Jq op k a b else .fail
 |.str a,.str b=>yzk op a b
 |.bool a,.bool b=>match bools,op with
  |true,.eql=>.val (.bool (a==b))
  |true,.neq=>.val (.bool (!(a==b)))
  |_,_=>.fail
 |_,_=>.fail
def unc(c:Bool):Aa->Prop
 |.cnd d _=>c=true->d=true
 |_=>True
def unv:Aa->Aa
 |.cnd _ x=>x
 |x=>x
def Dz(c:Bool)(x y:Aa):Req :=
 match unv x,unv y with
 |.bool p,.bool q=>.when (unc c x/\unc (!c) y) (.bool (bif c then p else q))
 |.int k p,.int k' q=>if k=k' then .when (unc c x/\unc (!c) y) (.int k (bif c then p else q)) else .when (unc c x/\unc (!c) y) (bif c then .int k p else .int k' q)
 |x',y'=>.when (unc c x/\unc (!c) y) (bif c then x' else y')
def Aa.one:Aa->Bool
 |.top | .agg _ | .tup _ | .cnd _ _=>false
 |_=>true
def Cs:Aa->Option (List Aa)
 |.agg l=>some l
 |.top | .tup _ | .cnd _ _=>none
 |x=>some [x]
def BD:List Aa->Bool
 |[]=>true
 |x :: l=>x.one&&BD l
def lay(l:List Aa)(off:Nat)(p:List Aa):List Aa:=l.take off++p++l.drop (off+p.length)
def Ds(arg:Ae->Aa):List Aa->List (Nat×Nat×Ae)->Option (List Aa)
 |l,[]=>some l
 |l,(off,sz,x) :: r=>match Cs (arg x) with
  |none=>none
  |some p=>if p.length=sz/\off+sz<=l.length then Ds arg (lay l off p) r else none
def Gl(st:Nat):Nat->List Aa->List (List Aa)
 |0,_=>[]
 |n+1,l=>l.take st :: Gl st n (l.drop st)
def ldv(agg:Bool)(sz:Nat)(l:List Aa)(off:Nat):Aa:=if agg then .agg ((l.drop off).take sz) else l.getD off .top
def D0(agg:Bool)(sz:Nat)(x:Aa)(h:Aq):Req :=
 match x with
 |.ptr id ep off=>match h id with
  |.box ep' cs=>⟨ep=ep'/\off+sz<=cs.length/\(agg=false->sz=1),[id],ldv agg sz cs off,none⟩
  |_=>.fail
 |.eptr id ep i off=>match h id with
  |.vec ep' st n f=>⟨ep=ep'/\i<n/\off+sz<=st/\(agg=false->sz=1),[id],ldv agg sz (f i) off,none⟩
  |_=>.fail
 |.cptr f lim off=>.when (off+sz<=lim/\(agg=false->sz=1)) (if agg then .agg ((List.range sz).map fun j=>f (off+j)) else f off)
 |_=>.fail
def Og(sz:Nat)(x y:Aa)(h:Aq):Req :=
 match Cs y with
 |none=>.fail
 |some p=>match x with
  |.ptr id ep off=>match h id with
   |.box ep' cs=>⟨ep=ep'/\p.length=sz/\BD p=true/\off+sz<=cs.length,[id],.top,some (id,.box ep' (lay cs off p))⟩
   |_=>.fail
  |.eptr id ep i off=>match h id with
   |.vec ep' st n f=>⟨ep=ep'/\i<n/\p.length=sz/\BD p=true/\off+sz<=st,[id],.top,some (id,.vec ep' st n (fun k=>if k=i then lay (f i) off p else f k))⟩
   |_=>.fail
  |_=>.fail
structure Src where
 ok:Prop
 rd:List Nat
 st:Nat
 n:Nat
 f:Nat->List Aa
def Bk(st:Nat)(x:Aa)(h:Aq):Src :=
 match x with
 |.nils=>⟨True,[],st,0,fun _=>[]⟩
 |.slc st' n f=>⟨True,[],st',n,f⟩
 |.vec id ep lo n=>match h id with
  |.vec ep' st' m f=>⟨ep=ep'/\lo+n<=m,[id],st',n,fun k=>f (lo+k)⟩
  |_=>⟨False,[],0,0,fun _=>[]⟩
 |_=>⟨False,[],0,0,fun _=>[]⟩
def Fp(s st bytes:Nat)(x y:Aa)(h:Aq):Req :=
 let src:=Bk st y h
 match x with
 |.nils=>if src.n=0 then⟨src.ok/\src.st=st,src.rd,.nils,none⟩ else⟨(h s).plain/\src.ok/\src.st=st/\0<st/\0<src.n/\src.n*bytes<=140737488355328,s :: src.rd,.vec s ((h s).ep+1) 0 src.n,some (s,.vec ((h s).ep+1) st src.n src.f)⟩
 |.vec id ep lo n=>match h id with
  |.vec ep' st' m f=>⟨src.ok/\src.st=st/\ep=ep'/\st'=st/\lo+n<=m/\(n+src.n)*bytes<=140737488355328,id :: src.rd,.vec id (ep'+1) 0 (n+src.n),
    some (id,.vec (ep'+1) st (n+src.n) (fun k=>if k<n then f (lo+k) else src.f (k-n)))⟩
  |_=>.fail
 |_=>.fail
def Aa.kind:Aa->Nat
 |.bool _=>0
 |.int _ _=>1
 |.str _=>2
 |_=>3
def BL:List Aa->List Aa->Option Bool
 |[],[]=>some true
 |x :: l,y :: m=>match x,y,BL l m with
  |.int k a,.int k' b,some e=>if k=k' then some (decide (a=b)&&e) else none
  |.bool a,.bool b,some e=>some ((a==b)&&e)
  |.str a,.str b,some e=>some (decide (a=b)&&e)
  |_,_,_=>none
 |_,_=>none
def yzh:Aa->Option Int
 |.int _ n=>some n
 |_=>none
def CO(arg:Ae->Aa)(d:Int):Option Ae->Option Int
 |none=>some d
 |some a=>yzh (arg a)
def encK:List Nat->Nat
 |[]=>0
 |k :: l=>k+1+5*encK l
def Aa.kkind:Aa->Nat
 |.agg l=>4+encK (l.map Aa.kind)
 |x=>x.kind
def DO:Aa->Aa->Option Bool
 |.agg l,.agg m=>BL l m
 |.int k a,.int k' b=>if k=k' then some (decide (a=b)) else none
 |.bool a,.bool b=>some (a==b)
 |.str a,.str b=>some (decide (a=b))
 |_,_=>none
def Cb(k:Aa):List (Aa×Aa)->Nat->Option (Option (Nat×Aa))
 |[],_=>some none
 |e :: es,i=>match DO k e.1 with
  |some true=>some (some (i,e.2))
  |some false=>Cb k es (i+1)
  |none=>none
structure MSrc where
 ok:Prop
 rd:List Nat
 es:List (Aa×Aa)
def BN(x:Aa)(h:Aq):MSrc :=
 match x with
 |.nilmp=>⟨True,[],[]⟩
 |.mp id ep=>match h id with
  |.amap ep' es=>⟨ep=ep',[id],es⟩
  |_=>⟨False,[],[]⟩
 |_=>⟨False,[],[]⟩
def E8(kd:Nat)(cok:Bool)(zero:Aa)(x k:Aa)(h:Aq):Req :=
 match Cb k (BN x h).es 0 with
 |some (some (_,v))=>⟨(BN x h).ok/\k.kkind=kd,(BN x h).rd,if cok then .tup [v,.bool true] else v,none⟩
 |some none=>⟨(BN x h).ok/\k.kkind=kd,(BN x h).rd,if cok then .tup [zero,.bool false] else zero,none⟩
 |none=>.fail
def Ct(kd:Nat)(x k v:Aa)(h:Aq):Req :=
 match x with
 |.mp id ep=>match h id with
  |.amap ep' es=>match Cb k es 0 with
   |some (some (i,_))=>⟨ep=ep'/\k.kkind=kd,[id],.top,some (id,.amap ep' (es.set i (k,v)))⟩
   |some none=>⟨ep=ep'/\k.kkind=kd,[id],.top,some (id,.amap ep' (es++[(k,v)]))⟩
   |none=>.fail
  |_=>.fail
 |_=>.fail
def J1(s:Nat)(x:Aa)(h:Aq):Req :=
 match x with
 |.nilmp=>⟨(h s).plain,[s],.ptr s ((h s).ep+1) 0,some (s,.miter ((h s).ep+1) none [])⟩
 |.mp id ep=>match h id with
  |.amap ep' es=>⟨ep=ep'/\(h s).plain,[s,id],.ptr s ((h s).ep+1) 0,some (s,.miter ((h s).ep+1) (some (id,ep,es.length)) [])⟩
  |_=>.fail
 |_=>.fail
def HE(x:Aa)(h:Aq):Req :=
 match x with
 |.ptr id ep 0=>match h id with
  |.miter ep' (some (M,eM,n)) seen=>match h M with
   |.amap eM' es=>⟨ep=ep'/\eM=eM'/\es.length=n/\seen≠[]/\seen.getLastD 0<n,[id,M],.tup [(es.getD (seen.getLastD 0) (.top,.top)).1,(es.getD (seen.getLastD 0) (.top,.top)).2],none⟩
   |_=>.fail
  |_=>.fail
 |_=>.fail
def Cu(s:List UInt8)(j:Int):Int:=((s.getD j.toNat 0).toNat:Nat)
def CV:Nat->(Nat->List Aa)->Option (List UInt8)
 |0,_=>some []
 |n+1,f=>match f 0 with
  |[.int .u8 m]=>(CV n fun k=>f (k+1)).map (UInt8.ofNat m.toNat :: ·)
  |_=>none
def Lg(x:Aa)(h:Aq):Req :=
 match CV (Bk 1 x h).n (Bk 1 x h).f with
 |some s=>⟨(Bk 1 x h).ok/\(Bk 1 x h).st=1,(Bk 1 x h).rd,.str s,none⟩
 |none=>.fail
def J2(st0:Nat)(x y:Aa)(h:Aq):Req :=
 match x with
 |.vec id ep lo n=>match h id with
  |.vec ep' st m f=>⟨(Bk st y h).ok/\(Bk st y h).st=st/\ep=ep'/\lo+n<=m/\st0=st,id :: (Bk st y h).rd,.int .i64 (min (Bk st y h).n n:Nat),
    some (id,.vec ep' st m (fun k=>if lo<=k/\k<lo+min (Bk st y h).n n then(Bk st y h).f (k-lo) else f k))⟩
  |_=>.fail
 |_=>.fail
def HF(zero:List Aa)(x:Aa)(h:Aq):Req :=
 match x with
 |.vec id ep lo n=>match h id with
  |.vec ep' st m f=>⟨ep=ep'/\lo+n<=m/\zero.length=st/\BD zero=true,[id],.tup [],some (id,.vec ep' st m (fun k=>if lo<=k/\k<lo+n then zero else f k))⟩
  |_=>.fail
 |_=>.fail
def An.req(o:An)(arg:Ae->Aa)(h:Aq):Req :=
 match o with
 |.mv x=>.val (arg x)
 |.pick c x y=>match arg c with
  |.bool b=>Dz b (arg x) (arg y)
  |_=>.fail
 |.bin op bools x y=>Lf op bools (arg x) (arg y)
 |.not x=>match arg x with
  |.bool b=>.val (.bool (!b))
  |_=>.fail
 |.neg x=>match arg x with
  |.int k n=>.when (inr k (0-n)) (.int k (cut k (0-n)))
  |_=>.fail
 |.alloc s zero=>⟨(h s).plain,[s],.ptr s ((h s).ep+1) 0,some (s,.box ((h s).ep+1) zero)⟩
 |.box s x=>match Cs (arg x) with
  |some l=>⟨(h s).plain,[s],.ptr s ((h s).ep+1) 0,some (s,.box ((h s).ep+1) l)⟩
  |none=>.fail
 |.build zero parts=>match Ds arg zero parts with
  |some l=>.val (.agg l)
  |none=>.fail
 |.bslice s st nn zero parts=>match Ds arg zero parts with
  |some l=>⟨(h s).plain/\l.length=nn*st/\0<st/\BD l=true,[s],.vec s ((h s).ep+1) 0 nn,some (s,.vec ((h s).ep+1) st nn (fun i=>(Gl st nn l).getD i []))⟩
  |none=>.fail
 |.load agg sz x=>D0 agg sz (arg x) h
 |.store sz x y=>Og sz (arg x) (arg y) h
 |.nilck x=>match arg x with
  |.cptr f l o=>.val (.cptr f l o)
  |.ptr id ep o=>⟨ep=(h id).ep,[id],.ptr id ep o,none⟩
  |.fn f nb c=>.val (.fn f nb c)
  |_=>.fail
 |.conv k x=>match arg x with
  |.int _ n=>.when (inr k n) (.int k (cut k n))
  |_=>.fail
 |.mkfn f nb caps=>.val (.fn f nb (caps.map arg))
 |.slice isStr st x lo hi =>
  match CO arg 0 lo with
  |none=>.fail
  |some l=>match isStr,arg x with
   |false,.slc st' n f=>match CO arg n hi with
    |some r=>.when (st'=st/\0<=l/\l<=r/\r<=n) (.slc st (r-l).toNat (fun k=>f (l.toNat+k)))
    |none=>.fail
   |false,.vec id ep o n=>match CO arg n hi,h id with
    |some r,.vec ep' st' _ _=>⟨ep=ep'/\st'=st/\0<=l/\l<=r/\r<=n,[id],.vec id ep (o+l.toNat) (r-l).toNat,none⟩
    |_,_=>.fail
   |false,.nils=>match CO arg 0 hi with
    |some r=>.when (l=0/\r=0) .nils
    |none=>.fail
   |true,.str s=>match CO arg s.length hi with
    |some r=>.when (0<=l/\l<=r/\r<=s.length) (.str ((s.drop l.toNat).take (r-l).toNat))
    |none=>.fail
   |_,_=>.fail
 |.faddr off x=>match arg x with
  |.ptr id ep o=>⟨ep=(h id).ep,[id],.ptr id ep (o+off),none⟩
  |.cptr f l o=>.val (.cptr f l (o+off))
  |.eptr id ep i o=>⟨ep=(h id).ep,[id],.eptr id ep i (o+off),none⟩
  |_=>.fail
 |.iaddrS st x i=>match arg x,arg i with
  |.slc st' n f,.int _ j=>.when (st'=st/\0<=j/\j<n) (.cptr (fun c=>(f j.toNat).getD c .top) st 0)
  |.vec id ep lo n,.int _ j=>match h id with
   |.vec ep' st' _ _=>⟨ep=ep'/\st'=st/\0<=j/\j<n,[id],.eptr id ep (lo+j.toNat) 0,none⟩
   |_=>.fail
  |_,_=>.fail
 |.extract i x=>match arg x with
  |.tup l=>.when (i<l.length) (l.getD i .top)
  |_=>.fail
 |.sidx x i=>match arg x,arg i with
  |.str s,.int _ j=>.when (0<=j/\j<s.length) (.int .u8 (Cu s j))
  |_,_=>.fail
 |.len isStr x=>match isStr,arg x with
  |false,.slc _ n _=>.val (.int .i64 n)
  |false,.vec id ep _ n=>⟨ep=(h id).ep,[id],.int .i64 n,none⟩
  |false,.nils=>.val (.int .i64 0)
  |true,.str s=>.val (.int .i64 s.length)
  |_,_=>.fail
 |.append s st bytes x y=>Fp s st bytes (arg x) (arg y) h
 |.eqagg sh ng x y=>match arg x,arg y with
  |.agg l,.agg m=>match BL l m with
   |some e=>.when (l.map Aa.kind=sh) (.bool (if ng then !e else e))
   |none=>.fail
  |_,_=>.fail
 |.max x y=>match arg x,arg y with
  |.int k a,.int k' b=>if k=k' then .val (.int k (Max.max a b)) else .fail
  |_,_=>.fail
 |.min x y=>match arg x,arg y with
  |.int k a,.int k' b=>if k=k' then .val (.int k (Min.min a b)) else .fail
  |_,_=>.fail
 |.mkmap s=>⟨(h s).plain,[s],.mp s ((h s).ep+1),some (s,.amap ((h s).ep+1) [])⟩
 |.mlook kd ok zero x k=>E8 kd ok zero (arg x) (arg k) h
 |.mupd kd x k v=>Ct kd (arg x) (arg k) (arg v) h
 |.mrange s x=>J1 s (arg x) h
 |.mentry x=>HE (arg x) h
 |.mnext _=>.fail
 |.isnil ng x=>match arg x with
  |.nils=>.val (.bool (!ng))
  |.slc _ n _=>.when (0<n) (.bool ng)
  |.vec id ep _ _=>⟨ep=(h id).ep,[id],.bool ng,none⟩
  |_=>.fail
 |.s2b s x=>match arg x with
  |.str b=>⟨(h s).plain,[s],.slc 1 b.length (fun k=>[.int .u8 (Cu b k)]),some (s,.gone ((h s).ep+1))⟩
  |_=>.fail
 |.b2s x=>Lg (arg x) h
 |.mks s st bytes zero x=>match arg x with
  |.int _ n=>⟨(h s).plain/\0<=n/\n*bytes<=140737488355328/\0<st/\zero.length=st/\BD zero=true,[s],.vec s ((h s).ep+1) 0 n.toNat,some (s,.vec ((h s).ep+1) st n.toNat (fun _=>zero))⟩
  |_=>.fail
 |.copy st0 x y=>J2 st0 (arg x) (arg y) h
 |.clear zero x=>HF zero (arg x) h
 |.fslice s st nn zero parts=>match Ds arg zero parts with
  |some l=>⟨(h s).plain/\l.length=nn*st/\0<st/\BD l=true,[s],.slc st nn (fun i=>(Gl st nn l).getD i []),some (s,h s)⟩
  |none=>.fail
 |.callf _ _=>.fail
 |.callv _ _=>.fail
def An.args:An->List Ae
 |.isnil _ x | .mrange _ x | .mentry x | .mnext x=>[x]
 |.mlook _ _ _ x k=>[x,k]
 |.mupd _ x k v=>[x,k,v]
 |.s2b _ x | .b2s x | .mks _ _ _ _ x | .clear _ x | .mv x | .not x | .neg x | .box _ x | .load _ _ x | .nilck x | .conv _ x | .faddr _ x | .extract _ x | .len _ x=>[x]
 |.pick c x y=>[c,x,y]
 |.bin _ _ x y | .store _ x y | .iaddrS _ x y | .append _ _ _ x y | .eqagg _ _ x y | .max x y | .min x y | .sidx x y | .copy _ x y=>[x,y]
 |.alloc _ _ | .mkmap _=>[]
 |.build _ ps | .bslice _ _ _ _ ps | .fslice _ _ _ _ ps=>ps.map fun p=>p.2.2
 |.mkfn _ _ l | .callf _ l=>l
 |.callv x l=>x :: l
 |.slice _ _ x lo hi=>x :: (lo.toList++hi.toList)
theorem Ln{ar ar':Ae->Aa}:∀(ps:List (Nat×Nat×Ae)) (l:List Aa),(∀p∈ps,ar p.2.2=ar' p.2.2)->Ds ar l ps=Ds ar' l ps
 |[],l,_=>rfl
 |(off,sz,x) :: ps,l,h=>by
  simp only[Ds,h _ (AP ..)];have ih:=fun l=>Ln ps l (fun p hp=>h p (AQ _ hp));cases Cs (ar' x) with
  |none=>rfl
  |some p=>simp only[ih]
theorem J3{ar ar':Ae->Aa}{h:Aq}:∀(o:An),(∀y∈o.args,ar y=ar' y)->o.req ar h=o.req ar' h:=by
 intro o hh;cases o<;>simp only[An.args,AY,Oc,Oe,forall_eq_or_imp,forall_eq,C7,forall_exists_index,and_imp,forall_apply_eq_imp_iff₂]at hh
 case slice isStr st x lo hi =>
  obtain⟨h1,h2⟩:=hh
  have cQ:∀d,CO ar d lo=CO ar' d lo:=fun d=>by
   cases lo with
   |none=>rfl
   |some y=>simp only[CO];rw[h2 y (by simp)]
  have du:∀d,CO ar d hi=CO ar' d hi:=fun d=>by
   cases hi with
   |none=>rfl
   |some y=>simp only[CO];rw[h2 y (by simp)]
  simp only[An.req,h1,cQ,du]
 case build zero ps=>simp only[An.req,Ln ps zero (fun p hp=>hh p hp)]
 case bslice s st nn zero ps=>simp only[An.req,Ln ps zero (fun p hp=>hh p hp)]
 case fslice s st nn zero ps=>simp only[An.req,Ln ps zero (fun p hp=>hh p hp)]
 case mkfn f l=>simp only[An.req];rw[H6 hh]
 all_goals first
  |(obtain⟨h1,h2,h3⟩:=hh;simp only[An.req,h1,h2,h3];done)
  |(obtain⟨h1,h2⟩:=hh;simp only[An.req,h1,h2];done)
  |(simp only[An.req,hh];done)
  |rfl
theorem J4{st:Nat}{y:Aa}{h h':Aq}(hr:∀j∈(Bk st y h).rd,h' j=h j)(aB:(Bk st y h).ok):Bk st y h'=Bk st y h:=by
 unfold Bk at *;cases y<;>simp only at*<;> try rfl
 rename_i id ep lo n;cases hh:h id<;>simp only[hh]at hr aB |-<;>try (exact aB.elim)
 rw[hr id (by simp),hh]
theorem qzuo{y:Aa}{h h':Aq}(hr:∀j∈(BN y h).rd,h' j=h j)(aB:(BN y h).ok):BN y h'=BN y h:=by
 unfold BN at *;cases y<;>simp only at*<;> try rfl
 rename_i id ep;cases hh:h id<;>simp only[hh]at hr aB |-<;>try (exact aB.elim)
 rw[hr id (by simp),hh]
theorem J5{ar:Ae->Aa}{h h':Aq}(o:An)(aB:(o.req ar h).ok)(hr:∀j∈(o.req ar h).rd,h' j=h j):o.req ar h'=o.req ar h:=by
 cases o<;>(try rfl)
 case alloc s zero=>simp only[An.req]at hr |-;rw[hr s (by simp)]
 case box s x =>
  simp only[An.req]at hr |-;cases hp:Cs (ar x) with
  |none=>rfl
  |some l=>simp only[hp]at hr;rw[hr s (by simp)]
 case bslice s st nn zero ps =>
  simp only[An.req]at hr |-;cases hp:Ds ar zero ps with
  |none=>rfl
  |some l=>simp only[hp]at hr;rw[hr s (by simp)]
 case fslice s st nn zero ps =>
  simp only[An.req]at hr |-;cases hp:Ds ar zero ps with
  |none=>rfl
  |some l=>simp only[hp]at hr;rw[hr s (by simp)]
 case load agg sz x =>
  simp only[An.req,D0]at hr aB |-;cases hx:ar x<;>simp only[hx,Req.fail]at hr aB |-
  case ptr id ep off=>cases hh:h id<;>simp only[hh,Req.fail]at hr aB<;>first|exact aB.elim|(rw[hr id (by simp),hh])
  case eptr id ep i off=>cases hh:h id<;>simp only[hh,Req.fail]at hr aB<;>first|exact aB.elim|(rw[hr id (by simp),hh])
 case store sz x y =>
  simp only[An.req,Og]at hr aB |-;cases hp:Cs (ar y)<;>simp only[hp,Req.fail]at hr aB |-;cases hx:ar x<;>simp only[hx,Req.fail]at hr aB |-
  case ptr id ep off=>cases hh:h id<;>simp only[hh,Req.fail]at hr aB<;>first|exact aB.elim|(rw[hr id (by simp),hh])
  case eptr id ep i off=>cases hh:h id<;>simp only[hh,Req.fail]at hr aB<;>first|exact aB.elim|(rw[hr id (by simp),hh])
 case nilck x =>simp only[An.req]at hr aB |-;cases hx:ar x<;>simp only[hx,Req.fail]at hr aB |-;rw[hr _ (by simp)]
 case slice isStr st x lo hi =>simp only[An.req]at hr aB |-;cases hl:CO ar 0 lo<;>simp only[hl,Req.fail]at hr aB |-;cases isStr<;>cases hx:ar x<;>simp only[hx,Req.fail]at hr aB |-;rename_i id ep o n;cases hh:CO ar n hi<;>simp only[hh]at hr aB |-;cases aW:h id<;>simp only[aW]at hr aB |-<;>first|exact aB.elim|(rw[hr id (by simp),aW])
 case faddr off x =>simp only[An.req]at hr aB |-;cases hx:ar x<;>simp only[hx,Req.fail]at hr aB |-<;>rw[hr _ (by simp)]
 case iaddrS st x i =>simp only[An.req]at hr aB |-;cases hx:ar x<;>cases hi:ar i<;>simp only[hx,hi,Req.fail]at hr aB |-;rename_i id ep lo n k j;cases hh:h id<;>simp only[hh]at hr aB |-<;>first|exact aB.elim|(rw[hr id (by simp),hh])
 case len isStr x =>simp only[An.req]at hr aB |-;cases isStr<;>cases hx:ar x<;>simp only[hx,Req.fail]at hr aB |-;rw[hr _ (by simp)]
 case append s st bytes x y =>
  simp only[An.req,Fp]at hr aB |-;cases hx:ar x<;>simp only[hx,Req.fail]at hr aB |-
  case nils =>
   by_cases hn:(Bk st (ar y) h).n=0
   ·simp only[hn,AZ]at hr aB;rw[J4 hr aB.1];simp only[hn,AZ]
   ·simp only[hn,C9]at hr aB;rw[J4 (fun j hj=>hr j (by simp[hj])) aB.2.1,hr s (by simp)]
  case vec id ep lo n =>
   cases hh:h id<;>simp only[hh,Req.fail]at hr aB |-<;>try (exact aB.elim)
   rw[J4 (fun j hj=>hr j (by simp[hj])) aB.1,hr id (by simp),hh]
 case isnil ng x =>simp only[An.req]at hr aB |-;cases hx:ar x<;>simp only[hx,Req.fail]at hr aB |-;rw[hr _ (by simp)]
 case mkmap s=>simp only[An.req]at hr |-;rw[hr s (by simp)]
 case mlook kd cok zero x k =>
  simp only[An.req,E8]at hr aB |-;cases hf:Cb (ar k) (BN (ar x) h).es 0 with
  |none=>simp only[hf,Req.fail]at aB
  |some r =>
   have bb:(BN (ar x) h).ok:=by cases r<;>simp only[hf]at aB<;>exact aB.1
   have bu:∀j∈(BN (ar x) h).rd,h' j=h j:=by cases r<;>simp only[hf]at hr<;>exact hr
   rw[qzuo bu bb,hf]
 case mupd kd x k v =>
  simp only[An.req,Ct]at hr aB |-;cases hx:ar x<;>simp only[hx,Req.fail]at hr aB |-;rename_i id ep;cases hh:h id<;>simp only[hh]at hr aB |-<;>try (exact aB.elim)
  rename_i ep' es;cases hf:Cb (ar k) es 0 with
  |none=>simp only[hf]at aB
  |some r=>cases r<;>simp only[hf]at hr |-<;>rw[hr id (by simp),hh]<;>simp only[hf]
 case s2b s x =>simp only[An.req]at hr |-;cases hx:ar x<;>simp only[hx,Req.fail]at hr |-;rw[hr s (by simp)]
 case mks s st bytes zero x =>simp only[An.req]at hr |-;cases hx:ar x<;>simp only[hx,Req.fail]at hr |-;rw[hr s (by simp)]
 case b2s x =>
  simp only[An.req,Lg]at hr aB |-;cases hb:CV (Bk 1 (ar x) h).n (Bk 1 (ar x) h).f with
  |none=>simp only[hb,Req.fail]at aB
  |some s=>simp only[hb]at hr aB;rw[J4 hr aB.1];simp only[hb]
 case copy st0 x y =>
  simp only[An.req,J2]at hr aB |-;cases hx:ar x<;>simp only[hx,Req.fail]at hr aB |-;rename_i id ep lo n;cases hh:h id<;>simp only[hh,Req.fail]at hr aB |-<;>try (exact aB.elim)
  rw[hr id (by simp),hh];simp only;rw[J4 (fun j hj=>hr j (by simp[hj])) aB.1]
 case clear zero x =>
  simp only[An.req,HF]at hr aB |-;cases hx:ar x<;>simp only[hx,Req.fail]at hr aB |-;rename_i id ep lo n;cases hh:h id<;>simp only[hh,Req.fail]at hr aB |-<;>try (exact aB.elim)
  rw[hr id (by simp),hh]
 case mrange s x =>
  simp only[An.req,J1]at hr aB |-;cases hx:ar x<;>simp only[hx,Req.fail]at hr aB |-
  case nilmp=>rw[hr s (by simp)]
  case mp id ep =>
   cases hh:h id<;>simp only[hh]at hr aB |-<;>try (exact aB.elim)
   rw[hr id (by simp),hr s (by simp),hh]
 case mentry x =>
  simp only[An.req,HE]at hr aB |-;cases hx:ar x<;>simp only[hx,Req.fail]at hr aB |-;rename_i id ep off;cases off with
  |succ n=>rfl
  |zero =>
   cases hh:h id<;>simp only[hh]at hr aB |-<;>try (exact aB.elim)
   rename_i ep' m seen;cases m with
   |none=>exact aB.elim
   |some m =>
    obtain⟨M,eM,n⟩:=m;cases hM:h M<;>simp only[hM]at hr aB |-<;>try (exact aB.elim)
    rw[hr id (by simp),hh];simp only;rw[hr M (by simp),hM]
def Lp:Value->Aa->Bool
 |.int k n,.int k' n'=>k==k'&&n==n'
 |.bool a,.bool b=>a==b
 |.string s,.str l=>s.data.toList==l
 |.slice none 0 0,.nils=>true
 |.pointer none,.nilp=>true
 |.nilFunc,.nilfn=>true
 |.map none,.nilmp=>true
 |_,_=>false
def CA:List Value->List Aa->Bool
 |[],[]=>true
 |v :: l,x :: m=>Lp v x&&CA l m
 |_,_=>false
def J6:Value->Aa->Bool
 |.agg cs,.agg l=>CA cs.toList l
 |.tuple cs,.tup l=>CA cs.toList l
 |_,.top=>true
 |v,x=>Lp v x
def A6:Operand->Ae->Bool
 |.tmp n,.t m=>n==m
 |.const v,.c x=>J6 v x
 |.global i,.g j=>i==j
 |.func f,.c (.fn f' 0 [])=>f==f'
 |_,_=>false
theorem SQ{g:Gh}{w:World}:∀{v:Value} {x:Aa},Lp v x=true->RV g w x v:=by
 intro v x h;unfold Lp at h;split at h
 ·simp only[AH,Bu]at h;obtain⟨rfl,rfl⟩:=h;exact .int _ _
 ·simp only[Bu]at h;subst h;exact .bool _
 ·simp only[Bu]at h;exact .str _ _ h
 ·exact .nils
 ·exact .nilp
 ·exact .nilfn
 ·exact .nilmp
 ·cases h
theorem DP{g:Gh}{w:World}:∀{l:List Value} {m:List Aa},CA l m=true->RVs g w m l
 |[],[],_=>.nil g w
 |v :: l,x :: m,h=>by simp only[CA,AH]at h;exact .cons (SQ h.1) (DP h.2)
 |[],_ :: _,h=>by cases h
 |_ :: _,[],h=>by cases h
theorem SS{g:Gh}{w:World}{v:Value}{x:Aa}(h:J6 v x=true):RV g w x v:=by
 unfold J6 at h;split at h
 ·have:=DP (g:=g) (w:=w) h;exact .agg _ _ (by simpa using this.1) (fun i y u hy hu=>this.2 i y u hy (by simpa using hu))
 ·have:=DP (g:=g) (w:=w) h;exact .tup _ _ (by simpa using this.1) (fun i y u hy hu=>this.2 i y u hy (by simpa using hu))
 ·exact .top _
 ·exact SQ h
def Ah(E:Nat->Aa)(t:List Aa):Ae->Aa
 |.t n=>t.getD n .top
 |.c v=>v
 |.g i=>E i
theorem AV{E:Nat->Aa}{g:Gh}{w:World}{h:Aq}{t:List Aa}{a:Act}(H:HR E g h w)(ht:RVs g w t a.tmps.toList){x:Operand}{y:Ae}(hx:A6 x y=true):RV g w (Ah E t y) (a.eval x):=by
 unfold A6 at hx;split at hx
 ·simp only[Bu]at hx;subst hx;exact ht.getD _
 ·exact SS hx
 ·simp only[Bu]at hx;subst hx;exact H.glob _
 ·simp only[Bu]at hx;subst hx;exact .fn _ 0 [] #[] rfl (fun i y u hy _=>by simp at hy)
 ·cases hx
def CC:List Operand->List Ae->Bool
 |[],[]=>true
 |x :: l,y :: m=>A6 x y&&CC l m
 |_,_=>false
def Fx:Option Operand->Option Ae->Bool
 |none,none=>true
 |some x,some y=>A6 x y
 |_,_=>false
section checks
variable (P:Program)
def szOf(t:TypeId):Option Nat:=(P.info? t).map (·.size)
def byOf(t:TypeId):Option Nat:=(P.info? t).map (·.bytes)
def D1(t:TypeId):Option Bool:=(P.underlying t).map fun | .struct _ | .array _ _=>true | _=>false
def J7(s:TypeId)(f:Nat):Option (Nat×TypeId):=match P.underlying s with
 |some (.struct fs)=>fs[f]?.map fun x=>(x.offset,x.type)
 |_=>none
def SU(t:TypeId):Option TypeId:=match P.underlying t with
 |some (.slice e)=>some e
 |_=>none
def D2(t:TypeId):Option (List Value):=match P.info? t with
 |some { zero:=some v,.. }=>some v.cells.toList
 |_=>none
def HG(t:TypeId)(l:List Aa):Bool:=match D2 P t with
 |some vs=>CA vs l
 |none=>false
def HH(place:Nat->Option (Nat×Nat)):List (Nat×Operand)->List (Nat×Nat×Ae)->Bool
 |[],[]=>true
 |(i,x) :: l,(off,sz,y) :: m=>(match place i with | some (o,s)=>o==off&&s==sz | none=>false)&&A6 x y&&HH place l m
 |_,_=>false
def Gx:List Field->Option (List (Nat×Nat))
 |[]=>some []
 |f :: r=>match szOf P f.type,Gx r with
  |some n,some l=>some ((f.offset,n) :: l)
  |_,_=>none
def Oh(t:TypeId)(zero:List Aa)(ps:List (Nat×Operand))(parts:List (Nat×Nat×Ae)):Bool :=
 HG P t zero&&match P.underlying t with
  |some (.struct fs)=>(match Gx P fs.toList with | some l=>HH (fun i=>l[i]?) ps parts | none=>false)
  |some (.array _ e)=>(match szOf P e with | some st=>HH (fun i=>some (i*st,st)) ps parts | none=>false)
  |_=>false
def HI(z:List Value)(n:Nat):List Value:=(List.range n).map fun i=>z.getD (i%z.length) undef
def HJ(t:TypeId)(n st nn:Nat)(zero:List Aa)(ps:List (Nat×Operand))(parts:List (Nat×Nat×Ae)):Bool :=
 n==nn&&decide (nn*st<=16777216)&&match P.underlying t with
  |some (.slice e)=>szOf P e==some st&&(match D2 P e with | some z=>CA (HI z (nn*st)) zero&&decide (0<z.length) | none=>false)&&HH (fun i=>some (i*st,st)) ps parts
  |_=>false
def CD(rec:TypeId->Option (List Nat)):List Field->Nat->Option (List Nat)
 |[],_=>some []
 | f :: r, n => if f.offset = n ∧ f.name ≠ "_" then (match rec f.type with | some m => if szOf P f.type = some m.length ∧ 0 < m.length then (match CD rec r (n + m.length) with | some l => some (m ++ l) | none => none) else none | none => none) else none
def eqFields:(fuel:Nat)->TypeId->Option (List Nat)
 |0,_=>none
 |d+1,t=>match P.underlying t with
  |some .bool=>some [0]
  |some (.int _)=>some [1]
  |some .string=>some [2]
  |some (.struct fs)=>if P.stoodInHeld t then none else CD P (eqFields d) fs.toList 0
  |some (.array n e)=>match eqFields d e with
   |some l=>if szOf P e=some l.length/\0<l.length then some (List.replicate n l).flatten else none
   |none=>none
  |_=>none
def CE(t:TypeId):Option Nat:=match P.underlying t with
 |some .bool=>some 0
 |some (.int _)=>some 1
 |some .string=>some 2
 |some (.struct _) | some (.array _ _)=>match eqFields P 9 t with
  |some l=>if l.all (fun k=>Nat.blt k 4) then some (4+encK l) else none
  |none=>none
 |_=>none
def Lq(t:TypeId)(x:Aa):Bool:=match P.info? t with
 |some { zero:=some v,.. }=>J6 v x
 |_=>false
def yzx(P:Program)(o:Op)(a:An):Bool :=
 match o,a with
 |.move x,.mv y | .assign x,.mv y=>A6 x y
 |.pick c x y,.pick c' x' y'=>A6 c c'&&A6 x x'&&A6 y y'
 |.binOp op t x y _,.bin op' bools x' y'=>op==op'&&A6 x x'&&A6 y y'&&(!bools||(match P.underlying t with | some .bool=>true | _=>false))
 |.unOp .not _ x,.not y=>A6 x y
 |.unOp .neg _ x,.neg y=>A6 x y
 |.alloc t,.alloc _ zero=>HG P t zero
 |.box _ x,.box _ y=>A6 x y
 |.load t x,.load agg sz y=>D1 P t==some agg&&(!agg||szOf P t==some sz)&&A6 x y
 |.store t x y,.store sz x' y'=>szOf P t==some sz&&A6 x x'&&A6 y y'
 |.nilCheck x,.nilck y=>A6 x y
 |.fieldAddr s x f,.faddr off y=>(match J7 P s f with | some (o,ft)=>o==off&&(match szOf P ft with | some n=>n != 0 | none=>false) | none=>false)&&A6 x y
 |.indexAddr t x i,.iaddrS st x' i'=>(match SU P t with | some e=>szOf P e==some st | none=>false)&&A6 x x'&&A6 i i'
 |.extract x i,.extract j y=>i==j&&A6 x y
 |.index t x i,.sidx x' i'=>(match P.underlying t with | some .string=>true | _=>false)&&A6 x x'&&A6 i i'
 |.build t ps,.build zero parts=>Oh P t zero ps.toList parts
 |.buildSlice t n ps,.bslice _ st nn zero parts=>HJ P t n st nn zero ps.toList parts
 |.convert src dst x,.conv k y=>(P.underlying src).isSome&&(match P.underlying dst with | some (.int k')=>k==k' | _=>false)&&A6 x y
 |.slice t x lo hi none,.slice isStr st x' lo' aW=>(match P.underlying t with | some .string=>isStr | some (.slice e)=>!isStr&&szOf P e==some st | _=>false)&&A6 x x'&&Fx lo lo'&&Fx hi aW
 |.call { callee:=.builtin .len,args,argTypes },.len isStr x'=>args.size==1&&argTypes.size==1&&(match args[0]? with | some x=>A6 x x' | none=>false)&&(match (argTypes[0]?).bind P.underlying with | some .string=>isStr | some (.slice _)=>!isStr | _=>false)
 | .call { callee:=.builtin .append,args,argTypes },.append _ st bytes x' y'=>(match args.toList,argTypes.toList with
   |[x,y],[tx,ty]=>tx==ty&&A6 x x'&&A6 y y'&&(match P.underlying tx with | some (.slice e)=>szOf P e==some st&&byOf P e==some bytes&&bytes != 0&&(match D2 P e with | some z=>z.length==st | none=>false) | _=>false)
   | _,_=>false)
 |.call { callee:=.builtin .max,args,.. },.max x' y'=>(match args.toList with | [x,y]=>A6 x x'&&A6 y y' | _=>false)
 |.call { callee:=.builtin .min,args,.. },.min x' y'=>(match args.toList with | [x,y]=>A6 x x'&&A6 y y' | _=>false)
 |.binOp .eql t x y _,.eqagg n false x' y'=>!P.eqGuardType P.depth t&&eqFields P 9 t==some n&&(match P.underlying t with | some (.struct _)=>true | _=>false)&&A6 x x'&&A6 y y'
 |.binOp .neq t x y _,.eqagg n true x' y'=>!P.eqGuardType P.depth t&&eqFields P 9 t==some n&&(match P.underlying t with | some (.struct _)=>true | _=>false)&&A6 x x'&&A6 y y'
 |.binOp .eql t x (.const (.slice none 0 0)) _,.isnil false x'=>A6 x x'&&(match P.underlying t with | some (.slice _)=>true | _=>false)
 |.binOp .neq t x (.const (.slice none 0 0)) _,.isnil true x'=>A6 x x'&&(match P.underlying t with | some (.slice _)=>true | _=>false)
 |.makeMap t none,.mkmap _=>(match P.underlying t with | some (.map _ _)=>true | _=>false)
 |.lookup t x k cok,.mlook kd cok' zero x' k'=>cok==cok'&&(match P.underlying t with | some (.map kt et)=>CE P kt==some kd&&Lq P et zero | _=>false)&&A6 x x'&&A6 k k'
 |.mapUpdate t m k v,.mupd kd m' k' v'=>(match P.underlying t with | some (.map kt _)=>CE P kt==some kd | _=>false)&&A6 m m'&&A6 k k'&&A6 v v'
 |.insert t m k v,.mupd kd m' k' v'=>(match P.underlying t with | some (.map kt _)=>CE P kt==some kd | _=>false)&&A6 m m'&&A6 k k'&&A6 v v'
 |.range t x,.mrange _ x'=>(match P.underlying t with | some (.map _ _)=>true | _=>false)&&A6 x x'
 |.entry x,.mentry x'=>A6 x x'
 |.makeFunc (.func f) first caps,.mkfn f' nb caps'=>f==f'&&first.size==nb&&CC (first.toList++caps.toList) caps'
 |.convert src dst x,.s2b _ x'=>(match P.underlying src,P.underlying dst with | some .string,some (.slice e)=>(match P.underlying e with | some (.int .u8)=>true | _=>false)&&szOf P e==some 1 | _,_=>false)&&A6 x x'
 |.convert src dst x,.b2s x'=>(match P.underlying src,P.underlying dst with | some (.slice e),some .string=>(match P.underlying e with | some (.int .u8)=>true | _=>false)&&szOf P e==some 1 | _,_=>false)&&A6 x x'
 |.makeSlice t x y,.mks _ st bytes zero x'=>A6 x x'&&A6 y x'&&(match P.underlying t with | some (.slice e)=>szOf P e==some st&&byOf P e==some bytes&&bytes != 0&&(match D2 P e with | some z=>CA z zero | none=>false) | _=>false)
 | .call { callee:=.builtin .copy,args,argTypes },.copy st0 x' y'=>(match args.toList,argTypes.toList with
   |[x,y],[tx,ty]=>A6 x x'&&A6 y y'&&(match P.underlying tx with | some (.slice e)=>szOf P e==some st0 | _=>false)
   | _,_=>false)
 | .call { callee:=.builtin .clear,args,argTypes },.clear zero x'=>(match args.toList,argTypes.toList with
   |[x],[tx]=>A6 x x'&&(match P.underlying tx with | some (.slice e)=>(match D2 P e with | some z=>CA z zero | none=>false) | _=>false)
   | _,_=>false)
 |.buildSlice t n ps,.fslice _ st nn zero parts=>HJ P t n st nn zero ps.toList parts
 |_,_=>false
end checks
def putH(h:Aq)(o:Option (Nat×Ad)):Aq:=match o with
 |some (i,o)=>hset h i o
 |none=>h
def Ran(E:Nat->Aa)(P:Program)(s:Sem Next)(g:Gh)(h:Aq)(w:World)(r:Req):Prop :=
 ∃(n:Next) (v:Value) (w':World) (g':Gh),s.run P w=.ok n w'/\(n=.value v\/(n=.skip/\v=undef))/\RV g' w' r.v v /\
  HR E g' (putH h r.out) w'/\Stp g h w g' (putH h r.out) w'/\(r.out=none->w'=w/\g'=g)
section
variable {E:Nat->Aa}{P:Program}{g:Gh}{h:Aq}{w:World}
theorem Ran.same{s:Sem Next}{v:Value}{rd:List Nat}{x:Aa}{p:Prop}(H:HR E g h w)(hr:s.run P w=.ok (.value v) w)(hv:RV g w x v):Ran E P s g h w ⟨p,rd,x,none⟩ := ⟨_,v,w,g,hr,.inl rfl,hv,H,.refl _ _ _,fun _=>⟨rfl,rfl⟩⟩
theorem Ran.new{s:Sem Next}{rd:List Nat}{x:Aa}{p:Prop}{i:Nat}{o:Ad}{ob:Obj}{v:Value}{bo st cp:Nat}(H:HR E g h w)(hr:∃w0:World,w0.heap=w.heap/\w0.os=w.os/\w0.tape=w.tape/\w0.output=w.output/\w.drawn<=w0.drawn/\s.run P w=.ok (.value v) { w0 with heap:=w0.heap.push ob })(bJ:o.ep=(h i).ep+1)(dC:∀(g':Gh) (w':World),GLe g w g' w'->g'.blk i=w.heap.size->g'.bo i=bo->g'.st i=st->g'.cp i=cp->w'.heap[w.heap.size]?=some ob->OR g' w' i o/\(g'.ep i=(h i).ep+1->RV g' w' x v)) :
  Ran E P s g h w ⟨p,rd,x,some (i,o)⟩:=by
 obtain⟨w0,e1,e2,e3,e4,e5,hr⟩:=hr
 let g':Gh:=⟨fun j=>if j=i then w.heap.size else g.blk j,fun j=>if j=i then(h i).ep+1 else g.ep j,fun j=>if j=i then bo else g.bo j,
  fun j=>if j=i then st else g.st j,fun j=>if j=i then cp else g.cp j,g.fz⟩
 let w':World:={ w0 with heap:=w0.heap.push ob }
 have be:∀b,b<w.heap.size->w'.heap[b]?=w.heap[b]?:=fun b hb=>by show(w0.heap.push ob)[b]?=_;rw[e1,Oa,Ag (by omega)]
 have aM:w'.heap[w.heap.size]?=some ob:=by show(w0.heap.push ob)[w.heap.size]?=_;rw[e1,Oa,Aj rfl]
 have aC:GLe g w g' w':=by
  refine⟨fun b hb=>⟨hb,be b (H.fzb b hb)⟩,fun j=>?_,fun j hj=>?_⟩
  ·show g.ep j<=if j=i then(h i).ep+1 else g.ep j;split
   ·rename_i e;subst e;rw[H.ep j];omega
   ·exact A8 _
  ·have:j≠i:=fun e=>by
    subst e;have bc:(if j=j then(h j).ep+1 else g.ep j)=g.ep j:=hj;rw[Aj rfl,H.ep j]at bc;omega
   exact⟨Ag this,Ag this,Ag this,Ag this⟩
 obtain⟨hO,hV⟩:=dC g' w' aC (Aj rfl) (Aj rfl) (Aj rfl) (Aj rfl) aM;have aO:w'.heap.size=w.heap.size+1:=by show(w0.heap.push ob).size=_;rw[e1];simp
 obtain⟨H',S'⟩:=HR.upd (g':=g') (w':=w') (i:=i) (o':=o) H aC (fun j hj=>Ag hj) ((Aj rfl:g'.ep i=_).trans bJ.symm) (fun b hb _=>be b hb) (by rw[aO];omega) hO (fun _=>.inr (by rw[show g'.blk i=w.heap.size from Aj rfl];exact A8 _)) (fun _ hf=>by have:=H.fzb _ (show g.fz (g'.blk i) from hf);rw[show g'.blk i=w.heap.size from Aj rfl]at this;omega) (fun b hb=>.inl hb) (fun b hb=>by have:=H.fzb b hb;rw[aO];omega) e2 e3 e4 e5;exact⟨_,v,w',g',hr,.inl rfl,hV (Aj rfl),H',S',fun e=>by cases e⟩
end
section
variable {E:Nat->Aa}{P:Program}{g:Gh}{h:Aq}{w:World}{t:List Aa}{a:Act}
theorem E9{k:IntKind}{n:Int}{v:Value}(hv:RV g w (.int k n) v):v=.int k n:=by cases hv;rfl
theorem CX{b:Bool}{v:Value}(hv:RV g w (.bool b) v):v=.bool b:=by cases hv;rfl
theorem EA{s:List UInt8}{v:Value}(hv:RV g w (.str s) v):∃b:ByteArray,v=.string b/\b.data.toList=s:=by cases hv;exact⟨_,rfl,by assumption⟩
theorem SW(P:Program)(w:World)(op:BinOp)(t:TypeId)(x y:Operand)(k k':IntKind)(a b:Int):(eqGuard op t x y (.int k a) (.int k' b)).run P w=.ok () w:=by unfold eqGuard;cases op<;>rfl
theorem Gy(P:Program)(w:World)(op:BinOp)(t:TypeId)(x y:Operand)(a b:ByteArray):(eqGuard op t x y (.string a) (.string b)).run P w=.ok () w:=by unfold eqGuard;cases op<;>rfl
theorem SX(P:Program)(w:World)(op:BinOp)(t:TypeId)(x y:Operand)(a b:Bool):(eqGuard op t x y (.bool a) (.bool b)).run P w=.ok () w:=by unfold eqGuard;cases op<;>rfl
theorem wzci(P:Program)(w:World)(op:BinOp)(t:TypeId)(k:IntKind)(a b:Int)(aB:(Jq op k a b).ok) : ∃v,(binOp op t (.int k a) (.int k b)).run P w=.ok v w/\∀g,RV g w (Jq op k a b).v v:=by
 cases op<;>simp only[Jq,Req.when,Req.val,Req.fail]at aB |-
 case add=>exact⟨_,by simp[binOp,Op.intArith];rfl,fun g=>by rw[Gw _ _ aB];exact .int _ _⟩
 case sub=>exact⟨_,by simp[binOp,Op.intArith];rfl,fun g=>by rw[Gw _ _ aB];exact .int _ _⟩
 case mul=>exact⟨_,by simp[binOp,Op.intArith];rfl,fun g=>by rw[Gw _ _ aB];exact .int _ _⟩
 case quo=>exact⟨_,by simp[binOp,Op.intDiv,aB.1];rfl,fun g=>by rw[Gw _ _ aB.2];exact .int _ _⟩
 case rem=>exact⟨_,by simp[binOp,Op.intDiv,aB],fun g=>.int _ _⟩
 case and=>exact⟨_,by simp only[binOp,ne_eq,not_true_eq_false,C9,Op.intBits];rfl,fun g=>.int _ _⟩
 case or=>exact⟨_,by simp only[binOp,ne_eq,not_true_eq_false,C9,Op.intBits];rfl,fun g=>.int _ _⟩
 case xor=>exact⟨_,by simp only[binOp,ne_eq,not_true_eq_false,C9,Op.intBits];rfl,fun g=>.int _ _⟩
 case andNot=>exact⟨_,by simp only[binOp,ne_eq,not_true_eq_false,C9,Op.intBits];rfl,fun g=>.int _ _⟩
 case eql=>exact⟨_,by simp[binOp,Op.intCmp];rfl,fun g=>by rw[show(a==b)=decide (a=b) from rfl];exact .bool _⟩
 case neq=>exact⟨_,by simp[binOp,Op.intCmp];rfl,fun g=>by rw[show(a != b)=!decide (a=b) from rfl];exact .bool _⟩
 case lss=>exact⟨_,by simp[binOp,Op.intCmp],fun g=>.bool _⟩
 case leq=>exact⟨_,by simp[binOp,Op.intCmp],fun g=>.bool _⟩
 case gtr=>exact⟨_,by simp[binOp,Op.intCmp],fun g=>.bool _⟩
 case geq=>exact⟨_,by simp[binOp,Op.intCmp],fun g=>.bool _⟩
 all_goals exact aB.elim
theorem wzh2(P:Program)(w:World)(op:BinOp)(t:TypeId)(k k':IntKind)(a b:Int)(aB:(Jp op k a b).ok) : ∃v,(binOp op t (.int k a) (.int k' b)).run P w=.ok v w/\∀g,RV g w (Jp op k a b).v v:=by
 cases op<;>simp only[Jp,Req.when,Req.fail]at aB |-
 case shl=>exact⟨_,by simp only[binOp,Op.shift,Ag (show ¬b<0 by omega)];rfl,fun g=>by rw[Gw _ _ aB.2];exact .int _ _⟩
 case shr=>exact⟨_,by simp only[binOp,Op.shift,Ag (show ¬b<0 by omega)];rfl,fun g=>.int _ _⟩
 all_goals exact aB.elim
theorem bytes_beq(a b:ByteArray):(a.toList==b.toList)=decide (a.data.toList=b.data.toList):=by
 have e:∀x:ByteArray,x.toList=x.data.toList:=fun x=>by have:=ByteArray.toList_eq x;first|exact this|simpa using this
 rw[e,e,Bool.eq_iff_iff];simp
theorem qzzg(P:Program)(w:World)(ty:TypeId)(hu:P.underlying ty=some .bool)(p q:Bool):(Op.equal ty (.bool p) (.bool q)).run P w=.ok (p==q) w:=by show(Op.equalIn (9999+1) ty (.bool p) (.bool q)).run P w=_;rw[Op.equalIn,Sem.run_bind,run_underlying hu];rfl
theorem SY(P:Program)(w:World)(ty:TypeId)(hu:P.underlying ty=some .bool)(p q:Bool) : (binOp .eql ty (.bool p) (.bool q)).run P w=.ok (.bool (p==q)) w/\(binOp .neq ty (.bool p) (.bool q)).run P w=.ok (.bool (!(p==q))) w:=by have e1:binOp .eql ty (.bool p) (.bool q)=(do pure (.bool (<-Op.equal ty (.bool p) (.bool q)))):=rfl;have e2:binOp .neq ty (.bool p) (.bool q)=(do pure (.bool (!(<-Op.equal ty (.bool p) (.bool q))))):=rfl;rw[e1,e2];simp[qzzg P w ty hu]
theorem SZ{o:Oper}{x:Operand}{y:Ae}(H:HR E g h w)(ht:RVs g w t a.tmps.toList)(ho:o.op=.move x\/o.op=.assign x)(hx:A6 x y=true):Ran E P (execOp a.eval o) g h w ((An.mv y).req (Ah E t) h):=by refine Ran.same H (v:=a.eval x) ?_ (AV H ht hx);rcases ho with ho|ho<;>simp[execOp,ho]
theorem wzgm{o:Oper}{op:BinOp}{ty yt:TypeId}{x y:Operand}{bools:Bool}{x' y':Ae}(H:HR E g h w)(ht:RVs g w t a.tmps.toList)(ho:o.op=.binOp op ty x y yt)(hx:A6 x x'=true)(hy:A6 y y'=true)(hb:bools=true->P.underlying ty=some .bool) (aB:((An.bin op bools x' y').req (Ah E t) h).ok):Ran E P (execOp a.eval o) g h w ((An.bin op bools x' y').req (Ah E t) h):=by
 have rx:=AV H ht hx;have ry:=AV H ht hy;simp only[An.req]at aB |-;generalize Ah E t x'=X at *;generalize Ah E t y'=Y at *;unfold Lf at aB |-;split at aB
 ·rename_i k p k' q;by_cases dR:Fw op=true
  ·rw[Aj dR]at aB;simp only[Aj dR];have e1:=E9 rx;have e2:=E9 ry;obtain⟨v,hr,hv⟩:=wzh2 P w op ty k k' p q aB;have hrd:(Jp op k p q)=⟨(Jp op k p q).ok,[],(Jp op k p q).v,none⟩:=by cases op<;>rfl
   rw[hrd];refine Ran.same H (v:=v) ?_ (hv g);simp only[execOp,ho,e1,e2,Sem.run_bind,SW,Result.andThen_ok,hr,Sem.run_pure]
  rw[Ag dR]at aB;simp only[Ag dR];split at aB
  ·rename_i e;subst e;simp only[AZ];have e1:=E9 rx;have e2:=E9 ry;obtain⟨v,hr,hv⟩:=wzci P w op ty k p q aB;have hrd:(Jq op k p q)=⟨(Jq op k p q).ok,[],(Jq op k p q).v,none⟩:=by cases op<;>rfl
   rw[hrd];refine Ran.same H (v:=v) ?_ (hv g);simp only[execOp,ho,e1,e2,Sem.run_bind,SW,Result.andThen_ok,hr,Sem.run_pure]
  ·exact aB.elim
 ·rename_i p q;obtain⟨b1,e1,e1'⟩:=EA rx;obtain⟨b2,e2,e2'⟩:=EA ry;have hl:∀b:ByteArray,b.size=b.data.toList.length:=fun b=>rfl
  have fb:Op.bytesLess b1.toList b2.toList=Op.bytesLess p q:=by
   have e:∀x:ByteArray,x.toList=x.data.toList:=fun x=>by have:=ByteArray.toList_eq x;first|exact this|simpa using this
   rw[e,e,e1',e2']
  have jP:(b1.toList==b2.toList)=decide (p=q):=by rw[bytes_beq,e1',e2']
  cases op<;>simp only[yzk,Req.when,Req.val,Req.fail]at aB |-
  case add =>
   refine Ran.same H (v:=.string (b1++b2)) ?_ (.str _ _ (by rw[<-e1',<-e2'];simp));have:¬(IntKind.i64.max<(b1.size:Int)+(b2.size:Int)):=by have h1:=hl b1;have h2:=hl b2;rw[e1']at h1;rw[e2']at h2;have:IntKind.i64.max=9223372036854775807:=rfl;omega
   have this':¬((b1.size+b2.size:Nat):Int)>IntKind.i64.max:=by omega
   simp only[execOp,ho,e1,e2,Sem.run_bind,Gy,Result.andThen_ok,binOp,Op.stringOp,Ag this',Sem.run_pure]
  case eql=>exact Ran.same H (v:=.bool (decide (p=q))) (by simp[execOp,ho,e1,e2,Gy,binOp,Op.stringOp,jP]) (.bool _)
  case neq=>exact Ran.same H (v:=.bool (!decide (p=q))) (by simp[execOp,ho,e1,e2,Gy,binOp,Op.stringOp,jP]) (.bool _)
  case lss=>exact Ran.same H (v:=.bool (Op.bytesLess p q)) (by simp[execOp,ho,e1,e2,Gy,binOp,Op.stringOp,fb]) (.bool _)
  case leq=>exact Ran.same H (v:=.bool (Op.bytesLess p q||decide (p=q))) (by simp[execOp,ho,e1,e2,Gy,binOp,Op.stringOp,fb,jP]) (.bool _)
  case gtr=>exact Ran.same H (v:=.bool (!(Op.bytesLess p q||decide (p=q)))) (by simp[execOp,ho,e1,e2,Gy,binOp,Op.stringOp,fb,jP]) (.bool _)
  case geq=>exact Ran.same H (v:=.bool (!Op.bytesLess p q)) (by simp[execOp,ho,e1,e2,Gy,binOp,Op.stringOp,fb]) (.bool _)
  all_goals exact aB.elim
 ·rename_i p q;have e1:=CX rx;have e2:=CX ry;split at aB
  ·have hu:=hb rfl;refine Ran.same H (v:=.bool (p==q)) ?_ (.bool _);simp[execOp,ho,e1,e2,SX,SY P w ty hu]
  ·have hu:=hb rfl;refine Ran.same H (v:=.bool (!(p==q))) ?_ (.bool _);simp[execOp,ho,e1,e2,SX,SY P w ty hu]
  ·exact aB.elim
 ·exact aB.elim
theorem wzdf{o:Oper}{ty:TypeId}{x:Operand}{x':Ae}(H:HR E g h w)(ht:RVs g w t a.tmps.toList)(ho:o.op=.unOp .not ty x)(hx:A6 x x'=true)(aB:((An.not x').req (Ah E t) h).ok):Ran E P (execOp a.eval o) g h w ((An.not x').req (Ah E t) h):=by have rx:=AV H ht hx;simp only[An.req]at aB |-;generalize Ah E t x'=X at *;cases X<;>simp only[Req.fail]at aB;rename_i b;exact Ran.same H (v:=.bool (!b)) (by simp[execOp,ho,CX rx,Op.unary]) (.bool _)
theorem wzc7{o:Oper}{ty:TypeId}{x:Operand}{x':Ae}(H:HR E g h w)(ht:RVs g w t a.tmps.toList)(ho:o.op=.unOp .neg ty x)(hx:A6 x x'=true)(aB:((An.neg x').req (Ah E t) h).ok):Ran E P (execOp a.eval o) g h w ((An.neg x').req (Ah E t) h):=by have rx:=AV H ht hx;simp only[An.req]at aB |-;generalize Ah E t x'=X at *;cases X<;>simp only[Req.fail]at aB;rename_i k n;have bb:inr k (0-n):=aB;exact Ran.same H (v:=.int k (k.wrap (0-n))) (by simp[execOp,ho,E9 rx,Op.unary,Op.intArith]) (by rw[Gw _ _ bb];exact .int _ _)
theorem CY{c:Bool}{x:Aa}{v:Value}(hv:RV g w x v)(hu:unc c x)(hc:c=true):RV g w (unv x) v:=by
 cases x with
 |cnd d y=>cases hv with | cnd _ _ _ h _=>exact h (hu hc)
 |_=>exact hv
theorem wzan{o:Oper}{c x y:Operand}{c' x' y':Ae}(H:HR E g h w)(ht:RVs g w t a.tmps.toList)(ho:o.op=.pick c x y)(hc:A6 c c'=true)(hx:A6 x x'=true)(hy:A6 y y'=true)(aB:((An.pick c' x' y').req (Ah E t) h).ok):Ran E P (execOp a.eval o) g h w ((An.pick c' x' y').req (Ah E t) h):=by
 have rc:=AV H ht hc;have rx:=AV H ht hx;have ry:=AV H ht hy;simp only[An.req]at aB |-;generalize Ah E t c'=C at *;generalize Ah E t x'=X at *;generalize Ah E t y'=Y at *;cases C<;>simp only[Req.fail]at aB;rename_i b;have e:=CX rc;have run:∀v,v=(if b=true then a.eval x else a.eval y)->(execOp a.eval o).run P w=.ok (.value v) w:=by rintro v rfl;simp[execOp,ho,e,asBool]
 show Ran E P _ g h w (Dz b X Y);have aB:(Dz b X Y).ok:=aB;unfold Dz at aB |-;split at aB
 ·rename_i p q hp hq;obtain⟨h1,h2⟩:unc b X/\unc (!b) Y:=aB;refine Ran.same H (run _ rfl) ?_;cases b with
  |true=>have:=CY rx h1 rfl;rw[hp]at this;exact this
  |false=>have:=CY ry h2 rfl;rw[hq]at this;exact this
 ·rename_i k p k' q hp hq;split at aB
  ·rename_i e';subst e';obtain⟨h1,h2⟩:unc b X/\unc (!b) Y:=aB;rw[Aj rfl];refine Ran.same H (run _ rfl) ?_;cases b with
   |true=>have:=CY rx h1 rfl;rw[hp]at this;exact this
   |false=>have:=CY ry h2 rfl;rw[hq]at this;exact this
  ·rename_i aH;obtain⟨h1,h2⟩:unc b X/\unc (!b) Y:=aB;rw[Ag aH];refine Ran.same H (run _ rfl) ?_;cases b with
   |true=>have:=CY rx h1 rfl;rw[hp]at this;exact this
   |false=>have:=CY ry h2 rfl;rw[hq]at this;exact this
 ·obtain⟨h1,h2⟩:unc b X/\unc (!b) Y:=aB;refine Ran.same H (run _ rfl) ?_;cases b with
  |true=>exact CY rx h1 rfl
  |false=>exact CY ry h2 rfl
theorem qz1t{o:Oper}{i:Nat}{x:Operand}{x':Ae}(H:HR E g h w)(ht:RVs g w t a.tmps.toList)(ho:o.op=.extract x i)(hx:A6 x x'=true)(aB:((An.extract i x').req (Ah E t) h).ok):Ran E P (execOp a.eval o) g h w ((An.extract i x').req (Ah E t) h):=by
 have rx:=AV H ht hx;simp only[An.req]at aB |-;generalize Ah E t x'=X at *;cases X<;>simp only[Req.fail]at aB;rename_i l;have hi:i<l.length:=aB;generalize hv:a.eval x=v at rx;cases rx with
 |tup _ arr hn hr =>
  have aW:i<arr.size:=by omega
  refine Ran.same H (v:=arr[i]) (by simp[execOp,ho,hv,Instr.extract,aW]) ?_;have:=hr i l[i] arr[i] (AC hi) (Gc aW);simpa [List.getD,AC hi] using this
theorem Lr{ρ:Operand->Value}(H:HR E g h w)(hr:∀x y,A6 x y=true->RV g w (Ah E t y) (ρ x)):∀{l:List Operand} {m:List Ae},CC l m=true->RVs g w (m.map (Ah E t)) (l.map ρ)
 |[],[],_=>.nil g w
 |x :: l,y :: m,h=>by simp only[CC,AH]at h;exact .cons (hr x y h.1) (Lr H hr h.2)
 |[],_ :: _,h=>by cases h
 |_ :: _,[],h=>by cases h
theorem qz99{o:Oper}{f:FuncId}{nb:Nat}{first caps:Array Operand}{caps':List Ae}(H:HR E g h w)(ht:RVs g w t a.tmps.toList)(ho:o.op=.makeFunc (.func f) first caps)(h0:first.size=nb)(hc:CC (first.toList++caps.toList) caps'=true) :
  Ran E P (execOp a.eval o) g h w ((An.mkfn f nb caps').req (Ah E t) h):=by
 have hr:=Lr (ρ:=a.eval) H (fun x y bS=>AV H ht bS) hc;refine Ran.same H (v:=.func (.func f) (first.map a.eval) (caps.map a.eval)) (by simp[execOp,ho,Instr.makeFunc]) ?_;have:=RV.fn (g:=g) (w:=w) f nb (caps'.map (Ah E t)) ((first.toList++caps.toList).map a.eval).toArray (by have:=hr.1;simpa using this) (fun i x v hx hv=>hr.2 i x v hx (by simpa using hv));have e1:(((first.toList++caps.toList).map a.eval).toArray.toList.take nb).toArray=first.map a.eval:=by apply Array.ext';simp[<-h0]
 have e2:(((first.toList++caps.toList).map a.eval).toArray.toList.drop nb).toArray=caps.map a.eval:=by apply Array.ext';simp[<-h0]
 rw[e1,e2]at this;exact this
end
section
variable {E:Nat->Aa}{P:Program}{g:Gh}{h:Aq}{w:World}{t:List Aa}{a:Act}
theorem DQ(b o n:Nat):(⟨b,o,none⟩:Addr).add n=⟨b,o+n,none⟩:=by unfold Addr.add;split<;>simp_all
theorem Ta{ty:TypeId}{agg:Bool}(hq:D1 P ty=some agg)(w:World):(isAgg ty).run P w=.ok agg w:=by
 unfold D1 at hq;cases hu:P.underlying ty with
 |none=>simp[hu]at hq
 |some d =>simp only[hu,DN,Ba]at hq;unfold isAgg;rw[Sem.run_bind,run_underlying hu w];subst hq;cases d<;>rfl
theorem D3{ty:TypeId}{n:Nat}(hq:szOf P ty=some n)(w:World):(sizeOf ty).run P w=.ok n w:=by
 unfold szOf at hq;cases hi:P.info? ty with
 |none=>simp[hi]at hq
 |some i =>simp only[hi,DN,Ba]at hq;simp[sizeOf,typeInfo,hi,hq]
theorem qzui{ty:TypeId}{agg:Bool}{sz:Nat}(hq:D1 P ty=some agg)(hs:agg=true->szOf P ty=some sz)(h1:agg=false->sz=1)(w:World) (b off:Nat) (vals:List Value) (hl:vals.length=sz) (hc:∀j v,vals[j]?=some v->w.cell? ⟨b,off+j,none⟩=some v) : (Instr.loadAt ty (.pointer (some ⟨b,off,none⟩))).run P w=.ok (if agg then .agg vals.toArray else vals.getD 0 undef) w:=by
 have fL:∀j v,vals[j]?=some v->w.cell? ((⟨b,off,none⟩:Addr).add j)=some v:=fun j v hv=>by rw[DQ];exact hc j v hv
 have c8:=run_loadCells_list (P:=P) w ⟨b,off,none⟩ vals fL;simp only[Instr.loadAt,Instr.sureAddr,loadVar,Sem.run_bind,Sem.run_pure,Result.andThen_ok,Ta hq];cases agg with
 |true =>rw[hl]at c8;simp[D3 (hs rfl),c8]
 |false =>
  obtain rfl:=h1 rfl;cases vals with
  |nil=>simp at hl
  |cons v r =>have:=hc 0 v rfl;simp at this;simp[this]
theorem RVs.drop{l:List Aa}{a:List Value}(h:RVs g w l a)(n:Nat):RVs g w (l.drop n) (a.drop n) := ⟨by simp[h.1],fun i x v hx hv=>h.2 (n+i) x v (by simpa using hx) (by simpa using hv)⟩
theorem RVs.take{l:List Aa}{a:List Value}(h:RVs g w l a)(n:Nat):RVs g w (l.take n) (a.take n):=by
 refine⟨by simp[h.1],fun i x v hx hv=>?_⟩;rw[HC]at hx hv;split at hx
 ·rename_i hi;rw[Aj hi]at hv;exact h.2 i x v hx hv
 ·cases hx
theorem RVs.at0{l:List Aa}{a:List Value}(h:RVs g w l a)(i:Nat)(hi:i<l.length):RV g w (l.getD i .top) (a.getD i undef):=by
 have h1:l[i]?=some l[i]:=AC hi;have hs:i<a.length:=by rw[h.1];exact hi
 have h2:a[i]?=some a[i]:=AC hs;simpa [List.getD,h1,h2] using h.2 i _ _ h1 h2
theorem RVs.rv_agg{l:List Aa}{a:List Value}(h:RVs g w l a):RV g w (.agg l) (.agg a.toArray) :=
 .agg _ _ (by simpa using h.1) (fun i x v hx hv=>h.2 i x v hx (by simpa using hv))
theorem Oi{o:Oper}{ty:TypeId}{x:Operand}{agg:Bool}{sz:Nat}{rd:List Nat}{p:Prop}(H:HR E g h w)(ho:o.op=.load ty x)(hq:D1 P ty=some agg)(hs:agg=true->szOf P ty=some sz)(h1:agg=false->sz=1){b off:Nat} (hx:a.eval x=.pointer (some ⟨b,off,none⟩)) (vals:List Value) (hl:vals.length=sz) (hc:∀j v,vals[j]?=some v->w.cell? ⟨b,off+j,none⟩=some v){y:Aa} (hy:RV g w y (if agg then .agg vals.toArray else vals.getD 0 undef)):Ran E P (execOp a.eval o) g h w ⟨p,rd,y,none⟩:=by refine Ran.same H (v:=if agg then .agg vals.toArray else vals.getD 0 undef) ?_ hy;simp only[execOp,ho,hx,Sem.run_bind,qzui hq hs h1 w b off vals hl hc,Result.andThen_ok,Sem.run_pure]
theorem Tb{cs:List Aa}{l:List Value}{agg:Bool}{sz off:Nat}(h:RVs g w cs l)(h1:agg=false->sz=1)(hb:off+sz<=cs.length) :
  RV g w (ldv agg sz cs off) (if agg then .agg ((l.drop off).take sz).toArray else((l.drop off).take sz).getD 0 undef):=by
 cases agg with
 |true=>exact((h.drop off).take sz).rv_agg
 |false =>
  obtain rfl:=h1 rfl;have:=h.at0 off (by omega);have hl:off<l.length:=by rw[h.1];omega
  simp only[ldv,Jy,C9];have e:((l.drop off).take 1).getD 0 undef=l.getD off undef:=by simp[List.getD,HC,Gf]
  rw[e];exact this
theorem Tc{o:Oper}{ty:TypeId}{x:Operand}{agg:Bool}{sz:Nat}{x':Ae}(H:HR E g h w)(ht:RVs g w t a.tmps.toList)(ho:o.op=.load ty x)(hx:A6 x x'=true)(hq:D1 P ty=some agg) (hs:agg=true->szOf P ty=some sz) (aB:((An.load agg sz x').req (Ah E t) h).ok):Ran E P (execOp a.eval o) g h w ((An.load agg sz x').req (Ah E t) h):=by
 have rx:=AV H ht hx;simp only[An.req]at aB |-;generalize Ah E t x'=X at *;generalize hv:a.eval x=v at rx;unfold D0 at aB |-;cases X<;>simp only[Req.fail]at aB
 case ptr id ep off =>
  have hO:=H.obj id;have hE:=H.ep id;cases hh:h id<;>simp only[hh,Req.fail]at aB hO hE |-
  case box ep' cs =>
   obtain⟨rfl,hb,h1⟩:=aB;obtain⟨arr,ty',hr,bA⟩:=hO;cases rx with
   |ptr _ _ _ _ _ _ hp =>
    rw[hp (by simpa [Ad.ep] using hE.symm)]at hv;have cn:=bA.1;refine Oi H ho hq hs h1 hv ((arr.toList.drop off).take sz) (by simp at cn |-;omega) ?_ (Tb bA h1 hb);intro j u hu;rw[HC]at hu;split at hu
    ·rw[Gf]at hu;simp only[World.cell?,hr];simpa using hu
    ·cases hu
  all_goals exact aB.elim
 case eptr id ep i off =>
  have hO:=H.obj id;have hE:=H.ep id;cases hh:h id<;>simp only[hh,Req.fail]at aB hO hE |-
  case vec ep' st n f =>
   obtain⟨rfl,hi,hb,h1⟩:=aB;obtain⟨aL,h0,hn,arr,ty',hr,aX,aS⟩:=hO;obtain⟨hZ,aK⟩:=aS i hi;have bB:g.bo id+i*st+st<=arr.size:=by have:(i+1)*st<=g.cp id*st:=Bd _ (by omega);rw[BY]at this;omega
   cases rx with
   |eptr _ _ _ _ _ _ _ hp =>
    have cq:=hp (by simpa [Ad.ep] using hE.symm);rw[cq,aL]at hv
    have aF:RVs g w (f i) ((arr.toList.drop (g.bo id+i*st)).take st):=by
     refine⟨by simp;omega,fun j y u hy hu=>?_⟩;rw[HC]at hu;split at hu
     ·rw[Gf]at hu;exact(aK j y u hy (by simpa [Fv] using hu)).2
     ·cases hu
    refine Oi H ho hq hs h1 hv ((((arr.toList.drop (g.bo id+i*st)).take st).drop off).take sz) (by simp;omega) ?_ (Tb aF h1 (by omega));intro j u hu;rw[HC]at hu;split at hu
    ·rw[Gf,HC]at hu;split at hu
     ·rw[Gf]at hu;simp only[World.cell?,hr];simpa [Fv] using hu
     ·cases hu
    ·cases hu
  all_goals exact aB.elim
 case cptr f lim off =>
  obtain⟨hb,h1⟩:=aB;cases rx with
  |cptr _ _ _ b base vals hz hc hr =>
   have c8:((List.range sz).map fun j=>vals (off+j)).length=sz:=by simp
   refine Oi H ho hq hs h1 hv ((List.range sz).map fun j=>vals (off+j)) c8 ?_ ?_
   ·intro j u hu;have hj:j<sz:=(by have:=(AE.1 hu).1;simpa using this);simp[Hz,SJ hj]at hu;rw[Fv,hc (off+j) (by omega),hu]
   ·cases agg with
    |true =>
     refine RVs.rv_agg ⟨by simp,fun j y u hy hu=>?_⟩;have hj:j<sz:=by have:=(AE.1 hu).1;simpa using this
     simp[Hz,SJ hj]at hu hy;rw[<-hy,<-hu];exact hr _ (by omega)
    |false =>obtain rfl:=h1 rfl;simpa using hr off (by omega)
 all_goals exact aB.elim
theorem Td{x:Aa}{v:Value}(h:RV g w x v)(h1:x.one=true):v.oneCell'=true/\v.cells=#[v]:=by
 have key:v.oneCell'=true->v.cells=#[v]:=fun hv=>by cases v<;>first | rfl | cases hv
 have:v.oneCell'=true:=by cases h<;>first|rfl|assumption|cases h1
 exact⟨this,key this⟩
theorem Oj{x:Aa}{v:Value}{p:List Aa}(h:RV g w x v)(hp:Cs x=some p):RVs g w p v.cells.toList:=by
 cases x<;>simp only[Cs]at hp
 case agg l =>
  obtain rfl:=AJ hp;cases h with
  |agg _ arr hn hr=>exact⟨by simpa [Value.cells] using hn,fun i x v hx hv=>hr i x v hx (by simpa [Value.cells] using hv)⟩
 all_goals first
  |(cases hp;done)
  |(obtain rfl:=AJ hp;rw[(Td h rfl).2];exact .cons h (.nil g w))
theorem Gz:∀{p:List Aa} {l:List Value},RVs g w p l->BD p=true->∀v∈l,v.oneCell'=true
 |[],l,h,_,v,hv=>by have:=h.1;simp at this;subst this;cases hv
 |x :: p,[],h,_,v,hv=>by cases hv
 |x :: p,u :: l,h,h1,v,hv=>by
  simp only[BD,AH]at h1;cases hv with
  |head=>exact(Td (h.2 0 x u rfl rfl) h1.1).1
  |tail _ hv=>exact Gz (p:=p) (l:=l) ⟨by have:=h.1;simpa using this,fun i y z hy hz=>h.2 (i+1) y z (by simpa using hy) (by simpa using hz)⟩ h1.2 v hv
theorem HK{s:Sem Next}{rd:List Nat}{p:Prop}{i:Nat}{o':Ad}{x:Aa}{v:Value}{n:Next}(H:HR E g h w)(aU:(h i).owned=true){arr' arr:Array Value}{ty:TypeId}(hb:w.heap[g.blk i]?=some (.cells arr ty (0,0)))(hr:s.run P w=.ok n (w.setRow (g.blk i) arr')) (hn:n=.value v\/(n=.skip/\v=undef))(bJ:o'.ep=(h i).ep) (dC:∀w',GLe g w g w'->w'.heap[g.blk i]?=some (.cells arr' ty (0,0))->OR g w' i o'/\RV g w' x v):Ran E P s g h w ⟨p,rd,x,some (i,o')⟩:=by have bK:=H.sep i aU;have aC:GLe g w g (w.setRow (g.blk i) arr'):=⟨fun b bg=>⟨bg,setRow_other w (g.blk i) b arr' (fun e=>bK (e▸bg))⟩,fun _=>A8 _,fun _ _=>⟨rfl,rfl,rfl,rfl⟩⟩;obtain⟨hO,hV⟩:=dC _ aC (setRow_heap w (g.blk i) arr arr' ty (0,0) hb);obtain⟨H',S'⟩:=HR.upd (g':=g) (w':=w.setRow (g.blk i) arr') (i:=i) (o':=o') H aC (fun _ _=>rfl) ((H.ep i).trans bJ.symm) (fun b bg aH=>setRow_other w (g.blk i) b arr' (aH aU)) (by simp) hO (fun _=>.inl ⟨aU,rfl⟩) (fun _=>bK) (fun b bg=>.inl bg) (fun b bg=>by simpa using H.fzb b bg) rfl rfl rfl;exact⟨n,v,_,g,hr,hn,hV,H',S',fun e=>by cases e⟩
theorem G0{α:Type}(l p:List α)(off j:Nat)(hb:off+p.length<=l.length):(l.take off++p++l.drop (off+p.length))[j]?=if j<off then l[j]? else if j<off+p.length then p[j-off]? else l[j]?:=by
 by_cases h1:j<off
 ·rw[Aj h1,List.append_assoc,Fu (by simp;omega),HC,Aj h1]
 ·rw[Ag h1];by_cases h2:j<off+p.length
  ·rw[Aj h2,Fu (by simp;omega),Ge (by simp;omega)];congr 1;simp;omega
  ·rw[Ag h2,Ge (by simp;omega),Gf];congr 1;simp;omega
theorem RVs.lay{l p:List Aa}{a q:List Value}(h:RVs g w l a)(hp:RVs g w p q)(off:Nat)(hb:off+p.length<=l.length):RVs g w (lay l off p) (a.take off++q++a.drop (off+q.length)):=by
 have e1:=h.1;have e2:=hp.1;refine⟨by simp[Am.lay];omega,fun j x v hx hv=>?_⟩;rw[Am.lay,G0 l p off j hb]at hx;rw[G0 a q off j (by omega),e2]at hv;by_cases h1:j<off
 ·rw[Aj h1]at hx hv;exact h.2 j x v hx hv
 ·rw[Ag h1]at hx hv;by_cases h2:j<off+p.length
  ·rw[Aj h2]at hx hv;exact hp.2 _ x v hx hv
  ·rw[Ag h2]at hx hv;exact h.2 j x v hx hv
theorem qz64{o:Oper}{ty:TypeId}{x y:Operand}{sz:Nat}{x' y':Ae}(H:HR E g h w)(ht:RVs g w t a.tmps.toList)(ho:o.op=.store ty x y)(hx:A6 x x'=true)(hy:A6 y y'=true)(hs:szOf P ty=some sz) (aB:((An.store sz x' y').req (Ah E t) h).ok):Ran E P (execOp a.eval o) g h w ((An.store sz x' y').req (Ah E t) h):=by
 have rx:=AV H ht hx;have ry:=AV H ht hy;simp only[An.req]at aB |-;generalize Ah E t x'=X at *;generalize Ah E t y'=Y at *;generalize hv:a.eval x=v at rx;generalize hu:a.eval y=u at ry;unfold Og at aB |-;cases hp:Cs Y with
 |none=>simp only[hp,Req.fail]at aB
 |some p =>
  simp only[hp]at aB |-;have bn:=Oj ry hp
  have run:∀(b off:Nat) (arr:Array Value) (ty':TypeId),w.heap[b]?=some (.cells arr ty' (0,0))->a.eval x=.pointer (some ⟨b,off,none⟩)->p.length=sz->BD p=true->off+sz<=arr.size -> (execOp a.eval o).run P w=.ok .skip (w.setRow b (arr.toList.take off++u.cells.toList++arr.toList.drop (off+u.cells.toList.length)).toArray):=by
   intro b off arr ty' hb bY hl h1 aX;have aE:u.cells.toList.length=sz:=by rw[bn.1,hl]
   have aL:=run_storeCells_at P b off ty' u.cells.toList 0 arr w hb (by omega) (Gz bn h1);simp only[Gg]at aL;have aH:¬(u.cells.size≠sz):=by simp at aE;omega
   simp only[execOp,ho,bY,hu,Sem.run_bind,Instr.storeAt,Instr.sureAddr,Sem.run_pure,Result.andThen_ok,storeVar,D3 hs,Ag aH,aL]
  cases X<;>simp only[Req.fail]at aB
  case ptr id ep off =>
   have hO:=H.obj id;have hE:=H.ep id;cases hh:h id<;>simp only[hh,Req.fail]at aB hO hE |-
   case box ep' cs =>
    obtain⟨rfl,hl,h1,hb⟩:=aB;obtain⟨arr,ty',hr,bA⟩:=hO;have cn:=bA.1;cases rx with
    |ptr _ _ _ _ _ _ dv =>have cq:=dv (by simpa [Ad.ep] using hE.symm);have aU:(h id).owned=true:=(by rw[hh];rfl);refine HK H aU hr (run (g.blk id) off arr ty' hr (hv.trans cq) hl h1 (by simp at cn;omega)) (.inr ⟨rfl,rfl⟩) (by rw[hh];rfl) ?_;intro w' aC bg;exact⟨⟨_,ty',bg,(bA.mono aC).lay (bn.mono aC) off (by omega)⟩,.top _⟩
   all_goals exact aB.elim
  case eptr id ep i off =>
   have hO:=H.obj id;have hE:=H.ep id;cases hh:h id<;>simp only[hh,Req.fail]at aB hO hE |-
   case vec ep' st n f =>
    obtain⟨rfl,hi,hl,h1,hb⟩:=aB;obtain⟨aL,h0,hn,arr,ty',hr,aX,aS⟩:=hO;cases rx with
    |eptr _ _ _ _ _ _ _ dv =>
     have cq:=dv (by simpa [Ad.ep] using hE.symm);rw[aL]at cq;have aU:(h id).owned=true:=(by rw[hh];rfl);have bB:∀k,k<n->g.bo id+k*st+st<=g.bo id+g.cp id*st:=fun k hk=>by have:(k+1)*st<=g.cp id*st:=Bd _ (by omega);rw[BY]at this;omega
     have pm:=bB i hi;have aE:u.cells.toList.length=sz:=(by rw[bn.1,hl]);refine HK H aU hr (run (g.blk id) (g.bo id+i*st+off) arr ty' hr (hv.trans cq) hl h1 (by omega)) (.inr ⟨rfl,rfl⟩) (by rw[hh];rfl) ?_;intro w' aC bg;refine⟨⟨aL,h0,hn,_,ty',bg,by simp;omega,fun k hk=>?_⟩,.top _⟩;obtain⟨hZ,aK⟩:=aS k hk;have fh:=fun j=>G0 arr.toList u.cells.toList (g.bo id+i*st+off) j (by simp;simp at aE;omega);by_cases e:k=i
     ·subst e;simp only[AZ];refine⟨by simp[lay];omega,fun j y z hy hz=>?_⟩;rw[NV,fh]at hz;rw[lay,G0 (f k) p off j (by omega)]at hy;by_cases j1:j<off
      ·rw[Aj j1]at hy;rw[Aj (by omega)]at hz;have:=aK j y z hy (by simpa using hz);exact⟨this.1,this.2.mono aC⟩
      ·rw[Ag j1]at hy;rw[Ag (by omega)]at hz;by_cases j2:j<off+p.length
       ·rw[Aj j2]at hy;rw[Aj (by omega)]at hz;have e2:g.bo id+k*st+j-(g.bo id+k*st+off)=j-off:=(by omega);rw[e2]at hz;exact⟨Gz bn h1 z (AI hz),(bn.2 _ y z hy hz).mono aC⟩
       ·rw[Ag j2]at hy;rw[Ag (by omega)]at hz;have:=aK j y z hy (by simpa using hz);exact⟨this.1,this.2.mono aC⟩
     ·simp only[Ag e];refine⟨hZ,fun j y z hy hz=>?_⟩;have hj:j<st:=by rw[<-hZ];exact(AE.1 hy).1
      rw[NV,fh]at hz
      have kr:¬(g.bo id+i*st+off<=g.bo id+k*st+j/\g.bo id+k*st+j<g.bo id+i*st+off+u.cells.toList.length):=by
       rintro⟨q1,q2⟩;rcases Nat.lt_or_gt_of_ne e with hlt|hgt
       ·have:(k+1)*st<=i*st:=Bd _ hlt;rw[BY]at this;omega
       ·have:(i+1)*st<=k*st:=Bd _ hgt;rw[BY]at this;omega
      by_cases j1:g.bo id+k*st+j<g.bo id+i*st+off
      ·rw[Aj j1]at hz;have:=aK j y z hy (by simpa using hz);exact⟨this.1,this.2.mono aC⟩
      ·rw[Ag j1,Ag (by omega)]at hz;have:=aK j y z hy (by simpa using hz);exact⟨this.1,this.2.mono aC⟩
   all_goals exact aB.elim
  all_goals exact aB.elim
end
section
variable {E:Nat->Aa}{P:Program}{g:Gh}{h:Aq}{w:World}{t:List Aa}{a:Act}
theorem Te{id ep off:Nat}{v:Value}(H:HR E g h w)(hv:RV g w (.ptr id ep off) v)(he:ep=(h id).ep):v=.pointer (some ⟨g.blk id,off,none⟩):=by
 cases hv with
 |ptr _ _ _ _ _ _ hp=>exact hp (he.trans (H.ep id).symm)
theorem wzgd{id ep off:Nat}(H:HR E g h w)(he:ep=(h id).ep):RV g w (.ptr id ep off) (.pointer (some ⟨g.blk id,off,none⟩)) :=
 .ptr _ _ _ _ rfl (by rw[he,H.ep id];exact A8 _) (fun _=>rfl)
theorem wzoc{id ep i off:Nat}{v:Value}(H:HR E g h w)(hv:RV g w (.eptr id ep i off) v)(he:ep=(h id).ep):v=.pointer (some ⟨g.blk id,g.bo id+i*g.st id+off,none⟩):=by
 cases hv with
 |eptr _ _ _ _ _ _ _ hp=>exact hp (he.trans (H.ep id).symm)
theorem Tf{id ep i off:Nat}(H:HR E g h w)(he:ep=(h id).ep):RV g w (.eptr id ep i off) (.pointer (some ⟨g.blk id,g.bo id+i*g.st id+off,none⟩)) :=
 .eptr _ _ _ _ _ rfl (by rw[he,H.ep id];exact A8 _) (fun _=>rfl)
theorem EB{id ep lo n:Nat}{v:Value}(H:HR E g h w)(hv:RV g w (.vec id ep lo n) v)(he:ep=(h id).ep):Gv g id lo n v:=by
 cases hv with
 |vec _ _ _ _ _ _ _ hp=>exact hp (he.trans (H.ep id).symm)
theorem wzsg{id ep lo n:Nat}{v:Value}(H:HR E g h w)(he:ep=(h id).ep)(hv:Gv g id lo n v):RV g w (.vec id ep lo n) v :=
 .vec _ _ _ _ _ (by obtain⟨_,_,rfl,_⟩:=hv;rfl) (by rw[he,H.ep id];exact A8 _) (fun _=>hv)
theorem Tg{f:Nat->Aa}{lim off d:Nat}{v:Value}(hv:RV g w (.cptr f lim off) v):∃b o,v=.pointer (some ⟨b,o,none⟩)/\RV g w (.cptr f lim (off+d)) (.pointer (some ⟨b,o+d,none⟩)):=by
 cases hv with
 |cptr _ _ _ b base vals hz hc hr =>refine⟨b,base+off,rfl,?_⟩;rw[Fv];exact .cptr f lim (off+d) b base vals hz hc hr
theorem qz7m{o:Oper}{x:Operand}{x':Ae}(H:HR E g h w)(ht:RVs g w t a.tmps.toList)(ho:o.op=.nilCheck x)(hx:A6 x x'=true)(aB:((An.nilck x').req (Ah E t) h).ok):Ran E P (execOp a.eval o) g h w ((An.nilck x').req (Ah E t) h):=by
 have rx:=AV H ht hx;simp only[An.req]at aB |-;generalize Ah E t x'=X at *;generalize hv:a.eval x=v at rx;cases X<;>simp only[Req.fail]at aB
 case ptr id ep off =>have e:=Te H rx aB;subst e;exact Ran.same H (v:=.pointer (some ⟨g.blk id,off,none⟩)) (by simp[execOp,ho,hv]) rx
 case cptr f l o =>obtain⟨b,o',rfl,_⟩:=Tg (d:=0) rx;exact Ran.same H (v:=.pointer (some ⟨b,o',none⟩)) (by simp[execOp,ho,hv]) rx
 case fn f nb c =>
  cases rx with
  |fn _ _ _ arr hn hr=>exact Ran.same H (v:=.func (.func f) (arr.toList.take nb).toArray (arr.toList.drop nb).toArray) (by simp[execOp,ho,hv]) (.fn _ _ _ arr hn hr)
theorem qz7n{s:TypeId}{f off:Nat}{ft:TypeId}{n:Nat}(hf:J7 P s f=some (off,ft))(hs:szOf P ft=some n)(h0:n≠0)(w:World)(b o:Nat) : (Instr.fieldAt s (.pointer (some ⟨b,o,none⟩)) f).run P w=.ok (.pointer (some ⟨b,o+off,none⟩)) w:=by
 unfold J7 at hf;split at hf
 ·rename_i fs hu;cases hq:fs[f]? with
  |none=>simp[hq]at hf
  |some fld =>simp only[hq,DN,Ba,BC]at hf;obtain⟨rfl,rfl⟩:=hf;simp only[Instr.fieldAt,Sem.run_bind,run_underlying hu,Result.andThen_ok,hq,Instr.sureAddr,Sem.run_pure,fieldPlace,D3 hs,Ag h0,DQ]
 ·cases hf
theorem qz66{o:Oper}{s:TypeId}{f off:Nat}{ft:TypeId}{n:Nat}{x:Operand}{x':Ae}(H:HR E g h w)(ht:RVs g w t a.tmps.toList)(ho:o.op=.fieldAddr s x f)(hx:A6 x x'=true)(hf:J7 P s f=some (off,ft)) (hs:szOf P ft=some n) (h0:n≠0)(aB:((An.faddr off x').req (Ah E t) h).ok):Ran E P (execOp a.eval o) g h w ((An.faddr off x').req (Ah E t) h):=by
 have rx:=AV H ht hx;simp only[An.req]at aB |-;generalize Ah E t x'=X at *;generalize hv:a.eval x=v at rx;have run:∀b o',v=.pointer (some ⟨b,o',none⟩)->(execOp a.eval o).run P w=.ok (.value (.pointer (some ⟨b,o'+off,none⟩))) w:=by rintro b o' rfl;simp only[execOp,ho,hv,Sem.run_bind,qz7n hf hs h0,Result.andThen_ok,Sem.run_pure]
 cases X<;>simp only[Req.fail]at aB
 case ptr id ep o' =>exact Ran.same H (run _ _ (Te H rx aB)) (wzgd H aB)
 case eptr id ep i o' =>have:=run _ _ (wzoc H rx aB);rw[Fv]at this;exact Ran.same H this (Tf H aB)
 case cptr f' l o' =>obtain⟨b,o'',e,hr⟩:=Tg (d:=off) rx;exact Ran.same H (run _ _ e) hr
theorem qz1s{ty e:TypeId}{st:Nat}(hu:P.underlying ty=some (.slice e))(hs:szOf P e=some st)(w:World)(b o len cap:Nat)(k:IntKind)(i:Int)(h0:0<=i)(h1:i<len) : (Instr.indexAt ty (.slice (some ⟨b,o,none⟩) len cap) (.int k i)).run P w=.ok (.pointer (some ⟨b,o+i.toNat*st,none⟩)) w:=by simp[Instr.indexAt,asIntOf,run_underlying hu,h0,h1,D3 hs,DQ]
theorem qz3a{o:Oper}{ty e:TypeId}{st:Nat}{x i:Operand}{x' i':Ae}(H:HR E g h w)(ht:RVs g w t a.tmps.toList)(ho:o.op=.indexAddr ty x i)(hx:A6 x x'=true)(hi:A6 i i'=true)(hu:P.underlying ty=some (.slice e)) (hs:szOf P e=some st)(aB:((An.iaddrS st x' i').req (Ah E t) h).ok):Ran E P (execOp a.eval o) g h w ((An.iaddrS st x' i').req (Ah E t) h):=by
 have rx:=AV H ht hx;have ri:=AV H ht hi;simp only[An.req]at aB |-;generalize Ah E t x'=X at *;generalize Ah E t i'=I at *;generalize hv:a.eval x=v at rx;generalize hj:a.eval i=u at ri;have run:∀b off n cap k j,v=.slice (some ⟨b,off,none⟩) n cap->u=.int k j->0<=j->j<n->(execOp a.eval o).run P w=.ok (.value (.pointer (some ⟨b,off+j.toNat*st,none⟩))) w:=by rintro b off n cap k j rfl rfl h0 h1;simp only[execOp,ho,hv,hj,Sem.run_bind,qz1s hu hs w b off n cap k j h0 h1,Result.andThen_ok,Sem.run_pure]
 cases X<;>(try simp only[Req.fail]at aB)
 case slc st' n f =>
  cases I<;>simp only[Req.fail]at aB;rename_i k j;obtain⟨rfl,h0,h1⟩:=aB;have ej:=E9 ri;cases rx with
  |slc0=>omega
  |slc _ _ _ b off cap vals hz aG hl hc c9 hr =>
   have ks:j.toNat<n:=by omega
   refine Ran.same H (run b off n cap k j rfl ej h0 h1) ?_;exact .cptr _ st' 0 b (off+j.toNat*st') (fun c=>vals j.toNat c) hz (fun c fL=>hc _ _ ks fL) (fun c fL=>by have aE:=hl j.toNat ks;have:(f j.toNat)[c]?=some (f j.toNat)[c]:=AC (by omega);have h2:=hr j.toNat c _ ks this;simpa [List.getD,this] using h2)
 case vec id ep lo n =>
  cases I<;>simp only[Req.fail]at aB;rename_i k j;have hO:=H.obj id;cases hh:h id<;>simp only[hh,Req.fail]at aB hO |-
  case vec ep' st' m f =>
   obtain⟨rfl,rfl,h0,h1⟩:=aB;have jQ:=EB H rx (by rw[hh];rfl);obtain⟨ad,cap,e1,aC,aG⟩:=jQ;have ej:=E9 ri;rcases aG with cR|⟨rfl,hc⟩
   ·omega
   ·have r:=run _ _ n cap k j e1 ej h0 h1;rw[hO.1]at r;have e2:g.bo id+lo*st'+j.toNat*st'=g.bo id+(lo+j.toNat)*g.st id+0:=by rw[hO.1,AT];omega
    rw[e2]at r;exact Ran.same H r (Tf H (by rw[hh];rfl))
  all_goals exact aB.elim
 all_goals (cases I<;>exact aB.elim)
theorem wzb8{o:Oper}{ty:TypeId}{x i:Operand}{x' i':Ae}(H:HR E g h w)(ht:RVs g w t a.tmps.toList)(ho:o.op=.index ty x i)(hx:A6 x x'=true)(hi:A6 i i'=true)(hu:P.underlying ty=some .string)(aB:((An.sidx x' i').req (Ah E t) h).ok):Ran E P (execOp a.eval o) g h w ((An.sidx x' i').req (Ah E t) h):=by
 have rx:=AV H ht hx;have ri:=AV H ht hi;simp only[An.req]at aB |-;generalize Ah E t x'=X at *;generalize Ah E t i'=I at *;generalize hv:a.eval x=v at rx;generalize hj:a.eval i=u at ri;cases X<;>(try simp only[Req.fail]at aB);rename_i s;cases I<;>simp only[Req.fail]at aB;rename_i k j;obtain⟨h0,h1⟩:=aB;obtain⟨b,rfl,hb⟩:=EA rx;obtain rfl:=E9 ri
 have hlt:j.toNat<b.size:=by
  have:b.size=s.length:=by rw[<-hb];rfl
  omega
 have fk:b[j.toNat]?=some b[j.toNat]:=by simp[hlt]
 have hs:s.getD j.toNat 0=b[j.toNat]:=by subst hb;have:j.toNat<b.data.toList.length:=hlt;rw[E6,AC this];rfl
 refine Ran.same H (v:=.int .u8 (b[j.toNat].toNat:Nat)) ?_ (by show RV g w (.int .u8 (Cu s j)) _;rw[Cu,hs];exact .int _ _);simp[execOp,ho,hv,hj,Instr.index,asIntOf,run_underlying hu,h0,fk]
theorem Th{o:Oper}{s:Nat}{cs:List Aa}{vs:Array Value}{ty:TypeId}{rd:List Nat}{p:Prop}(H:HR E g h w)(bn:RVs g w cs vs.toList)(hr:(execOp a.eval o).run P w=.ok (.value (.pointer (some ⟨w.heap.size,0,none⟩))) { w with heap:=w.heap.push (.cells vs ty (0,0)) }) :
  Ran E P (execOp a.eval o) g h w ⟨p,rd,.ptr s ((h s).ep+1) 0,some (s,.box ((h s).ep+1) cs)⟩:=by
 refine Ran.new (ob:=.cells vs ty (0,0)) (bo:=0) (st:=0) (cp:=0) H ⟨w,rfl,rfl,rfl,rfl,A8 _,hr⟩ rfl ?_;intro g' w' aC aN _ _ _ aM;refine⟨⟨vs,ty,by rw[aN];exact aM,bn.mono aC⟩,fun he=>?_⟩;exact .ptr _ _ _ _ rfl (by rw[he];exact A8 _) (fun _=>by rw[aN])
theorem qz7c{o:Oper}{ty:TypeId}{s:Nat}{zero:List Aa}(H:HR E g h w)(ho:o.op=.alloc ty)(hz:HG P ty zero=true) :
  Ran E P (execOp a.eval o) g h w ((An.alloc s zero).req (Ah E t) h):=by
 simp only[An.req];unfold HG D2 at hz;cases hi:P.info? ty with
 |none=>simp[hi]at hz
 |some i =>
  cases br:i.zero with
  |none=>obtain⟨⟩:=i;simp only at br;subst br;simp[hi]at hz
  |some z =>
   have fM:CA z.cells.toList zero=true:=by obtain⟨⟩:=i;simp only at br;subst br;simpa [hi] using hz
   refine Th (vs:=z.cells) (ty:=ty) H (DP fM) ?_;simp[execOp,ho,Instr.alloc,zeroValue,typeInfo,hi,br,newVar,newRow]
theorem wzep{o:Oper}{ty:TypeId}{s:Nat}{x:Operand}{x':Ae}(H:HR E g h w)(ht:RVs g w t a.tmps.toList)(ho:o.op=.box ty x)(hx:A6 x x'=true)(aB:((An.box s x').req (Ah E t) h).ok):Ran E P (execOp a.eval o) g h w ((An.box s x').req (Ah E t) h):=by
 have rx:=AV H ht hx;simp only[An.req]at aB |-;generalize Ah E t x'=X at *;cases hp:Cs X with
 |none=>simp only[hp,Req.fail]at aB
 |some l =>refine Th (vs:=(a.eval x).cells) (ty:=ty) H (Oj rx hp) ?_;simp[execOp,ho,Instr.box,newVar,newRow]
end
section
variable {E:Nat->Aa}{P:Program}{g:Gh}{h:Aq}{w:World}{t:List Aa}{a:Act}
theorem wzbc{o:Oper}{src dst:TypeId}{k:IntKind}{x:Operand}{x':Ae}(H:HR E g h w)(ht:RVs g w t a.tmps.toList)(ho:o.op=.convert src dst x)(hx:A6 x x'=true)(hs:(P.underlying src).isSome=true) (hd:P.underlying dst=some (.int k)) (aB:((An.conv k x').req (Ah E t) h).ok):Ran E P (execOp a.eval o) g h w ((An.conv k x').req (Ah E t) h):=by have rx:=AV H ht hx;simp only[An.req]at aB |-;generalize Ah E t x'=X at *;cases X<;>simp only[Req.fail]at aB;rename_i k' n;have bb:inr k n:=aB;obtain⟨d,ia⟩:=Option.isSome_iff_exists.1 hs;exact Ran.same H (v:=.int k (k.wrap n)) (by simp[execOp,ho,E9 rx,convert,run_underlying ia,run_underlying hd,Conv.intToInt]) (by rw[Gw _ _ bb];exact .int _ _)
theorem wzdc{o:Oper}{args:Array Operand}{ats:Array TypeId}{x y:Operand}{x' y':Ae}(H:HR E g h w)(ht:RVs g w t a.tmps.toList)(ho:o.op=.call { callee:=.builtin .max,args,argTypes:=ats })(ha:args.toList=[x,y])(hx:A6 x x'=true)(hy:A6 y y'=true)(aB:((An.max x' y').req (Ah E t) h).ok):Ran E P (execOp a.eval o) g h w ((An.max x' y').req (Ah E t) h):=by
 have rx:=AV H ht hx;have ry:=AV H ht hy;simp only[An.req]at aB |-;generalize Ah E t x'=X at *;generalize Ah E t y'=Y at *;obtain rfl:args=#[x,y]:=by rw[<-Jx (xs:=args),ha]
 cases X<;>(try simp only[Req.fail]at aB)
 case int k p =>
  cases Y<;>(try simp only[Req.fail]at aB)
  case int k' q =>
   by_cases hk:k=k';rotate_left
   ·simp only[Ag hk]at aB
   subst hk;simp only[AZ];refine Ran.same H (v:=.int k (Max.max p q)) ?_ (.int _ _);have e:(if q>p then q else p)=Max.max p q:=by rw[Int.max_def];split<;>split<;>omega
   simp[execOp,ho,resolve,invoke,builtin,Builtin.max_,Builtin.max2,E9 rx,E9 ry];exact e
  all_goals exact aB.elim
 all_goals exact aB.elim
theorem wzdn{o:Oper}{args:Array Operand}{ats:Array TypeId}{x y:Operand}{x' y':Ae}(H:HR E g h w)(ht:RVs g w t a.tmps.toList)(ho:o.op=.call { callee:=.builtin .min,args,argTypes:=ats })(ha:args.toList=[x,y])(hx:A6 x x'=true)(hy:A6 y y'=true)(aB:((An.min x' y').req (Ah E t) h).ok):Ran E P (execOp a.eval o) g h w ((An.min x' y').req (Ah E t) h):=by
 have rx:=AV H ht hx;have ry:=AV H ht hy;simp only[An.req]at aB |-;generalize Ah E t x'=X at *;generalize Ah E t y'=Y at *;obtain rfl:args=#[x,y]:=by rw[<-Jx (xs:=args),ha]
 cases X<;>(try simp only[Req.fail]at aB)
 case int k p =>
  cases Y<;>(try simp only[Req.fail]at aB)
  case int k' q =>
   by_cases hk:k=k';rotate_left
   ·simp only[Ag hk]at aB
   subst hk;simp only[AZ];refine Ran.same H (v:=.int k (Min.min p q)) ?_ (.int _ _);have e:(if q<p then q else p)=Min.min p q:=by rw[Int.min_def];split<;>split<;>omega
   simp[execOp,ho,resolve,invoke,builtin,Builtin.min_,Builtin.min2,E9 rx,E9 ry];exact e
  all_goals exact aB.elim
 all_goals exact aB.elim
theorem Ti{o:Oper}{args:Array Operand}{ats:Array TypeId}{x:Operand}{x':Ae}{ty:TypeId}{d:TypeDesc}{isStr:Bool}(H:HR E g h w)(ht:RVs g w t a.tmps.toList)(ho:o.op=.call { callee:=.builtin .len,args,argTypes:=ats })(ha:args=#[x])(bL:ats=#[ty])(hu:P.underlying ty=some d) (hd:if isStr then d=.string else ∃e,d=.slice e) (hx:A6 x x'=true)(aB:((An.len isStr x').req (Ah E t) h).ok):Ran E P (execOp a.eval o) g h w ((An.len isStr x').req (Ah E t) h):=by
 have rx:=AV H ht hx;subst ha;subst bL;simp only[An.req]at aB |-;generalize Ah E t x'=X at *;generalize hv:a.eval x=v at rx;cases isStr with
 |true =>simp only[AZ]at hd;subst hd;cases X<;>simp only[Req.fail]at aB;rename_i s;obtain⟨b,rfl,hb⟩:=EA rx;refine Ran.same H (v:=.int .i64 b.size) (by simp[execOp,ho,hv,resolve,invoke,builtin,Builtin.len_,run_underlying hu,goInt]) ?_;rw[show b.size=s.length from by rw[<-hb];rfl];exact .int _ _
 |false =>
  simp only[Jy,C9]at hd;obtain⟨e,rfl⟩:=hd;have run:∀ad n cap,v=.slice ad n cap->(execOp a.eval o).run P w=.ok (.value (.int .i64 n)) w:=by rintro ad n cap rfl;simp[execOp,ho,hv,resolve,invoke,builtin,Builtin.len_,run_underlying hu,goInt]
  cases X<;>simp only[Req.fail]at aB
  case slc st n f =>
   cases rx with
   |slc0 _ _ ad cap=>exact Ran.same H (run ad 0 cap rfl) (.int _ _)
   |slc _ _ _ b off cap=>exact Ran.same H (run _ n cap rfl) (.int _ _)
  case vec id ep lo n =>obtain⟨ad,cap,e1,_⟩:=EB H rx aB;exact Ran.same H (run _ n cap e1) (.int _ _)
  case nils =>cases rx;exact Ran.same H (run _ 0 0 rfl) (.int _ _)
theorem Tj(P:Program)(w:World)(k:IntKind)(i:Int)(y:Nat)(code:BoundsCode)(h0:0<=i)(h1:i<=y):(Instr.sliceBound (.int k i) y code).run P w=.ok i.toNat w:=by simp[Instr.sliceBound,asIntOf,h0,h1]
theorem Tk(P:Program)(w:World)(isSlice:Bool)(len cap:Nat)(lo hi:Option Value)(l r:Int)(cQ:match lo with | none=>l=0 | some v=>∃k,v=.int k l) (du:match hi with | none=>r=len | some v=>∃k,v=.int k r) (h0:0<=l) (h1:l<=r) (h2:r<=len) (hc:len<=cap) : (Instr.sliceBounds isSlice len cap lo hi none).run P w=.ok (l.toNat,r.toNat,cap) w:=by
 have hr:∀code,(match hi with | some v=>Instr.sliceBound v cap code | none=>pure len:Sem Nat).run P w=.ok r.toNat w:=by
  intro code;cases hi with
  |none=>simp only at du;subst du;simp
  |some v=>obtain⟨k,rfl⟩:=du;exact Tj P w k r cap code (by omega) (by omega)
 have hl:(match lo with | some v=>Instr.sliceBound v r.toNat .sliceB | none=>pure 0:Sem Nat).run P w=.ok l.toNat w:=by
  cases lo with
  |none=>simp only at cQ;subst cQ;simp
  |some v=>obtain⟨k,rfl⟩:=cQ;exact Tj P w k l _ _ h0 (by omega)
 unfold Instr.sliceBounds;cases hi with
 |none =>
  have:=hr .sliceAcap;simp only at this;simp at this;simp only[Sem.run_bind,Sem.run_pure,Result.andThen_ok];cases lo with
  |none=>simp only at hl;simp at hl;simp[hl,this]
  |some v=>simp only at hl;subst this;simp[hl]
 |some u =>
  have:=hr (if isSlice then .sliceAcap else .sliceAlen);simp only at this;simp only[Sem.run_bind,Sem.run_pure,Result.andThen_ok,this];cases lo with
  |none=>simp only at hl;simp at hl;simp[hl]
  |some v=>simp only at hl;simp[hl]
theorem wzsw{lo:Option Operand}{lo':Option Ae}{l:Int}(H:HR E g h w)(ht:RVs g w t a.tmps.toList)(hx:Fx lo lo'=true)(hl:CO (Ah E t) 0 lo'=some l):match lo.map a.eval with | none=>l=0 | some v=>∃k,v=.int k l:=by
 cases lo<;>cases lo'<;>simp only[Fx]at hx<;>(try (cases hx;done))
 ·simp only[CO,Ba]at hl;exact hl.symm
 ·rename_i x y;have rx:=AV H ht hx;simp only[DN];simp only[CO]at hl;generalize Ah E t y=Y at *;cases Y<;>simp only[yzh]at hl<;>(try (cases hl;done));obtain rfl:=AJ hl;exact⟨_,E9 rx⟩
theorem Ls{hi:Option Operand}{aW:Option Ae}{r d:Int}(H:HR E g h w)(ht:RVs g w t a.tmps.toList)(hx:Fx hi aW=true)(hl:CO (Ah E t) d aW=some r):match hi.map a.eval with | none=>r=d | some v=>∃k,v=.int k r:=by
 cases hi<;>cases aW<;>simp only[Fx]at hx<;>(try (cases hx;done))
 ·simp only[CO,Ba]at hl;exact hl.symm
 ·rename_i x y;have rx:=AV H ht hx;simp only[DN];simp only[CO]at hl;generalize Ah E t y=Y at *;cases Y<;>simp only[yzh]at hl<;>(try (cases hl;done));obtain rfl:=AJ hl;exact⟨_,E9 rx⟩
theorem qz1q{ty e:TypeId}{st:Nat}(hu:P.underlying ty=some (.slice e))(hs:szOf P e=some st)(w:World)(ad:Option Addr)(n cap:Nat)(lo hi:Option Value)(l r:Int)(cQ:match lo with | none=>l=0 | some v=>∃k,v=.int k l) (du:match hi with | none=>r=n | some v=>∃k,v=.int k r) (h0:0<=l) (h1:l<=r) (h2:r<=n) (hc:n<=cap) : (Instr.sliceAt ty (.slice ad n cap) lo hi none).run P w=.ok (.slice (if cap=l.toNat then ad else ad.map (·.add (l.toNat*st))) (r.toNat-l.toNat) (cap-l.toNat)) w:=by simp only[Instr.sliceAt,Instr.slice,Sem.run_bind,run_underlying hu,Result.andThen_ok,Tk P w true n cap lo hi l r cQ du h0 h1 h2 hc,D3 hs,Sem.run_pure]
theorem Tl{o:Oper}{ty:TypeId}{x:Operand}{lo hi:Option Operand}{x':Ae}{lo' aW:Option Ae}{isStr:Bool}{st:Nat}{d:TypeDesc}(H:HR E g h w)(ht:RVs g w t a.tmps.toList)(ho:o.op=.slice ty x lo hi none)(hx:A6 x x'=true)(cQ:Fx lo lo'=true) (du:Fx hi aW=true) (hu:P.underlying ty=some d) (hd:if isStr then d=.string else ∃e,d=.slice e/\szOf P e=some st)(aB:((An.slice isStr st x' lo' aW).req (Ah E t) h).ok):Ran E P (execOp a.eval o) g h w ((An.slice isStr st x' lo' aW).req (Ah E t) h):=by
 have rx:=AV H ht hx;simp only[An.req]at aB |-;generalize hX:Ah E t x'=X at aB rx |-;generalize hv:a.eval x=v at rx;cases hl:CO (Ah E t) 0 lo' with
 |none=>simp only[hl,Req.fail]at aB
 |some l =>
  simp only[hl]at aB |-;have ol:=wzsw (a:=a) H ht cQ hl;have run:∀ad n cap r,isStr=false->v=.slice ad n cap->(match hi.map a.eval with | none=>r=(n:Int) | some v=>∃k,v=.int k r)->0<=l->l<=r->r<=n->n<=cap -> (execOp a.eval o).run P w=.ok (.value (.slice (if cap=l.toNat then ad else ad.map (·.add (l.toNat*st))) (r.toNat-l.toNat) (cap-l.toNat))) w:=by rintro ad n cap r rfl rfl or h0 h1 h2 hc;simp only[Jy,C9]at hd;obtain⟨e,rfl,hs⟩:=hd;simp only[execOp,ho,hv,Option.map_none,Sem.run_bind,qz1q hu hs w ad n cap _ _ l r ol or h0 h1 h2 hc,Result.andThen_ok,Sem.run_pure]
  cases isStr with
  |true =>
   simp only[AZ]at hd;subst hd;cases X<;>simp only[Req.fail]at aB;rename_i s;cases hr:CO (Ah E t) s.length aW with
   |none=>simp only[hr]at aB
   |some r =>
    simp only[hr]at aB |-;obtain⟨h0,h1,h2⟩:=aB;have or:=Ls (a:=a) H ht du hr;obtain⟨b,rfl,hb⟩:=EA rx;have aO:b.size=s.length:=by rw[<-hb];rfl
    rw[<-aO]at or;refine Ran.same H (v:=.string (b.extract l.toNat r.toNat)) ?_ (.str _ _ ?_)
    ·simp only[execOp,ho,hv,Option.map_none,Sem.run_bind,Instr.sliceAt,Instr.slice,run_underlying hu,Result.andThen_ok,Option.isSome_none,Jy,C9,Sem.run_pure,
      Tk P w false b.size b.size _ _ l r ol or h0 h1 (by omega) (A8 _)]
    ·have e1:(b.extract l.toNat r.toNat).data.toList=(b.data.toList.drop l.toNat).take (r.toNat-l.toNat):=by
      simp[List.take_drop,ByteArray.data_extract,Array.toList_extract,List.extract]
     rw[e1,hb];congr 1;omega
  |false =>
   cases X<;>simp only[Req.fail]at aB
   case slc st' n f =>
    cases hr:CO (Ah E t) n aW with
    |none=>simp only[hr]at aB
    |some r =>
     simp only[hr]at aB |-;obtain⟨rfl,h0,h1,h2⟩:=aB;have or:=Ls (a:=a) H ht du hr;have er:r.toNat-l.toNat=(r-l).toNat:=by omega
     cases rx with
     |slc0 _ _ ad cap =>have e0:(r-l).toNat=0:=(by omega);have:=run ad 0 cap r rfl rfl or h0 h1 h2 (B3 _);rw[er,e0]at this;refine Ran.same H this ?_;rw[e0];exact .slc0 _ _ _ _
     |slc _ _ _ b off cap vals hz aG dI hc c9 bu =>
      have:=run _ n cap r rfl rfl or h0 h1 h2 aG;rw[er]at this;refine Ran.same H this ?_;by_cases e0:(r-l).toNat=0
      ·rw[e0];exact .slc0 _ _ _ _
      ·have aH:¬cap=l.toNat:=(by omega);rw[Ag aH];simp only[DN,DQ];refine .slc st' _ _ b (off+l.toNat*st') _ (fun i j=>vals (l.toNat+i) j) hz (by omega) (fun i hi=>dI _ (by omega)) (fun i j hi hj=>?_) (fun i j hi hj=>c9 _ _ (by omega) hj) (fun i j y hi hy=>bu _ _ _ (by omega) hy);rw[show off+l.toNat*st'+i*st'+j=off+(l.toNat+i)*st'+j from by rw[AT];omega];exact hc _ _ (by omega) hj
   case vec id ep lo0 n =>
    cases hr:CO (Ah E t) n aW with
    |none=>simp only[hr]at aB
    |some r =>
     simp only[hr]at aB |-;have hO:=H.obj id;cases hh:h id<;>simp only[hh]at aB hO |-
     case vec ep' st' m f =>
      obtain⟨rfl,rfl,h0,h1,h2⟩:=aB;have or:=Ls (a:=a) H ht du hr;have er:r.toNat-l.toNat=(r-l).toNat:=by omega
      obtain⟨ad,cap,e1,aC,aG⟩:=EB H rx (by rw[hh];rfl);have:=run (some ad) n cap r rfl e1 or h0 h1 h2 aC;rw[er]at this;refine Ran.same H this (wzsg H (by rw[hh];rfl) ?_);by_cases e0:cap=l.toNat
      ·rw[Aj e0];exact⟨ad,cap-l.toNat,rfl,by omega,.inl (by omega)⟩
      ·rw[Ag e0];rcases aG with cR|⟨rfl,hc⟩
       ·omega
       ·refine⟨_,cap-l.toNat,rfl,by omega,.inr ⟨?_,by omega⟩⟩;simp only[DQ];rw[hO.1,AT,Fv]
     all_goals exact aB.elim
   case nils =>
    cases hr:CO (Ah E t) 0 aW with
    |none=>simp only[hr]at aB
    |some r =>simp only[hr]at aB |-;obtain⟨rfl,rfl⟩:=aB;have or:=Ls (a:=a) H ht du hr;cases rx;have:=run none 0 0 0 rfl rfl or (by omega) (by omega) (by omega) (by omega);simp at this;exact Ran.same H (v:=.slice none 0 0) this .nils
end
end Go.Am

