/- Part I1: insertion into a slice. No condition. -/
import Derived.Test.YtjlgleghnenojaaDoorX1
import Derived.Shelf.Spec.SlicesInsertGrow
import Derived.WalkSpells
import Derived.Deep.RegionWith
import Derived.Deep.Upon
set_option linter.unusedSimpArgs false
set_option linter.unusedVariables false
namespace Go.Am
open Go.Proofs Go.Shelf Go.RowKit Go.Lib
structure Pst(s0:Nat)(w w':World):Prop where
 size:w.heap.size<=w'.heap.size
 old:∀b,b<s0->w'.heap[b]?=w.heap[b]?
 os:w'.os=w.os
 tape:w'.tape=w.tape
 output:w'.output=w.output
 drawn:w.drawn<=w'.drawn
theorem Pst.refl(s0:Nat)(w:World):Pst s0 w w:=⟨Gcy _,fun _ _=>rfl,rfl,rfl,rfl,Gcy _⟩
theorem Pst.trans{s0:Nat}{w w1 w2:World}(a:Pst s0 w w1)(b:Pst s0 w1 w2):Pst s0 w w2 := ⟨Gc0 a.size b.size,fun i hi=>(b.old i hi).trans (a.old i hi),b.os.trans a.os,b.tape.trans a.tape,b.output.trans a.output,Gc0 a.drawn b.drawn⟩
theorem Pst.mono{s0 s1:Nat}{w w':World}(h:Pst s0 w w')(hs:s1<=s0):Pst s1 w w':=⟨h.size,fun b hb=>h.old b (by omega),h.os,h.tape,h.output,h.drawn⟩
theorem Pst.drew{s0:Nat}(w:World):Pst s0 w w.drew:=⟨Gcy _,fun _ _=>rfl,rfl,rfl,rfl,Gcz _⟩
theorem Pst.alloc{s0:Nat}{w:World}(h:s0<=w.heap.size)(o:Obj):Pst s0 w (w.alloc o) := ⟨by simp[World.alloc_eq,World.size_alloc],fun b hb=>by show(w.heap.push o)[b]?=_;rw[Gae,Gd3 (by omega)],rfl,rfl,rfl,Gcy _⟩
theorem Pst.cell{s0:Nat}{w w':World}(h:Pst s0 w w'){b j:Nat}(hb:b<s0):w'.cell? ⟨b,j,none⟩=w.cell? ⟨b,j,none⟩:=by unfold World.cell?;rw[h.old b hb]
structure Mne(z s0:Nat)(w:World)(base:Option Addr)(n c:Nat)(cs:List Value):Prop where
 le:n<=c
 top:c<=9223372036854775807
 cl:cs.length=n*z
 one:∀v∈cs,v.oneCell'=true
 lie:(base=none/\n=0/\c=0)\/∃(b:Nat) (arr:Array Value) (ty:TypeId),base=some ⟨b,0,none⟩/\s0<=b/\w.heap[b]?=some (.cells arr ty (0,0))/\arr.size=c*z/\∀(j:Nat) (v:Value),cs[j]?=some v->arr[j]?=some v
theorem Mne.mono{z s0 s1:Nat}{w:World}{base:Option Addr}{n c:Nat}{cs:List Value}(h:Mne z s0 w base n c cs)(hs:s1<=s0):Mne z s1 w base n c cs := ⟨h.le,h.top,h.cl,h.one,h.lie.imp id fun⟨b,arr,ty,e,hb,r⟩=>⟨b,arr,ty,e,Gc0 hs hb,r⟩⟩
theorem Mne.past{z s0 s1:Nat}{w w':World}{base:Option Addr}{n c:Nat}{cs:List Value}(h:Mne z s0 w base n c cs)(p:Pst s1 w w')(hs:w.heap.size<=s1):Mne z s0 w' base n c cs:=by refine⟨h.le,h.top,h.cl,h.one,h.lie.imp id fun⟨b,arr,ty,e,hb,h1,r⟩=>⟨b,arr,ty,e,hb,?_,r⟩⟩;have:=(Gac.1 h1).1;rw[p.old b (by omega),h1]
theorem HR.past{E:Nat->AVal}{g:Gh}{w w':World}(H:HR E g h0 w)(p:Pst w.heap.size w w'):GLe g w g w'/\HR E g h0 w':=by have hl:GLe g w g w':=⟨fun b hb=>⟨hb,p.old b (H.fzb b hb)⟩,fun _=>Gcy _,fun _ _=>⟨rfl,rfl,rfl,rfl⟩⟩;exact⟨hl,⟨fun _=>trivial,H.ep,(by intro i j hi;cases hi),(by intro i hi;cases hi),fun b hb=>Gc2 (H.fzb b hb) p.size,fun i=>(H.glob i).mono hl⟩⟩
theorem qzq.past{E:Nat->AVal}{P:Program}{f:FuncId}{xs:List AVal}{r:AVal}(hs:qzq E P f xs r){g:Gh}{w:World}{vs:List Value}(H:HR E g h0 w)(hv:RVs g w xs vs){W:World}(p:Pst w.heap.size w W) :
  Calls P f vs.toArray W fun e W'=>∃g' v,e=.returned v/\RV g' W' r v/\Pst W.heap.size W W':=by
 obtain⟨hl,HW⟩:=H.past p;refine(hs h0 g W vs HW (hv.mono hl)).mono ?_;rintro e W' ⟨g',h',r',v,⟨rfl,rfl⟩,rfl,hr,_,st⟩;exact⟨g',v,rfl,hr,st.size,fun b hb=>st.keep b hb (by intro i hi;cases hi),st.os,st.tape,st.output,st.drawn⟩
def CRel(g:Gh)(w:World){α:Type}(C:α->List AVal)(z:Nat)(l:List α)(cs:List Value):Prop:=cs.length=l.length*z/\∀i x,l[i]?=some x->RVs g w (C x) ((cs.drop (i*z)).take z)
theorem CRel.mono{g g':Gh}{w w':World}{α:Type}{C:α->List AVal}{z:Nat}{l:List α}{cs:List Value}(h:CRel g w C z l cs)(hl:GLe g w g' w'):CRel g' w' C z l cs:=⟨h.1,fun i x hx=>(h.2 i x hx).mono hl⟩
theorem CRel.app{g:Gh}{w:World}{α:Type}{C:α->List AVal}{z:Nat}{l m:List α}{cs ds:List Value}(h:CRel g w C z l cs)(k:CRel g w C z m ds):CRel g w C z (l++m) (cs++ds):=by
 refine⟨by rw[Gbq,Gbq,h.1,k.1,Gcm],fun i x hx=>?_⟩;by_cases hi:i<l.length
 ·rw[Gba hi]at hx;have:=h.2 i x hx;have hb:(i+1)*z<=l.length*z:=Gdc z hi;rw[Gdj]at hb;rw[List.drop_append_of_le_length (by rw[h.1];omega),List.take_append_of_le_length (by rw[Gbs,h.1];omega)];exact this
 ·rw[Gbb (by omega)]at hx;have:=k.2 _ x hx;have hb:l.length*z<=i*z:=Gdc z (by omega);rw[List.drop_append,List.drop_eq_nil_of_le (by rw[h.1];exact hb),List.nil_append,h.1,<-Nat.sub_mul];exact this
theorem CRel.take{g:Gh}{w:World}{α:Type}{C:α->List AVal}{z:Nat}{l:List α}{cs:List Value}(h:CRel g w C z l cs){k:Nat}(hk:k<=l.length):CRel g w C z (l.take k) (cs.take (k*z)):=by
 have hb:k*z<=l.length*z:=Gdc z hk;refine⟨by rw[Gbz,Gbz,h.1,Nat.min_eq_left hk,Nat.min_eq_left hb],fun i x hx=>?_⟩;rw[Gbm]at hx;split at hx
 ·rename_i hi;have hb2:(i+1)*z<=k*z:=Gdc z hi;rw[Gdj]at hb2;rw[List.drop_take,List.take_take,Nat.min_eq_left (by omega)];exact h.2 i x hx
 ·cases hx
theorem CRel.drop{g:Gh}{w:World}{α:Type}{C:α->List AVal}{z:Nat}{l:List α}{cs:List Value}(h:CRel g w C z l cs)(k:Nat):CRel g w C z (l.drop k) (cs.drop (k*z)):=by refine⟨by rw[Gbs,Gbs,h.1,Nat.sub_mul],fun i x hx=>?_⟩;rw[Gbd]at hx;rw[Ga3,show k*z+i*z=(k+i)*z by rw[Gcm]];exact h.2 _ x hx
theorem CRel.one{g:Gh}{w:World}{α:Type}{C:α->List AVal}{z:Nat}{x:α}{cs:List Value}(hl:cs.length=z)(h:RVs g w (C x) cs):CRel g w C z [x] cs:=by
 refine⟨by simp[hl],fun i y hy=>?_⟩;cases i with
 |zero=>cases hy;rw[Nat.zero_mul,List.drop_zero,List.take_of_length_le (by omega)];exact h
 |succ i=>simp at hy
end Go.Am

