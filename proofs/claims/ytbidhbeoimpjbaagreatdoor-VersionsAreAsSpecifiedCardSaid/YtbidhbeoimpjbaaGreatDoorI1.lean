/- Part I1: insertion into a slice. No condition. -/
import Derived.Test.YtbidhbeoimpjbaaGreatDoorX1
import Derived.Shelf.Spec.SlicesInsertGrow
import Derived.WalkSpells
import Derived.Deep.RegionWith
import Derived.Deep.Upon
set_option linter.unusedSimpArgs false
set_option linter.unusedVariables false
namespace Go.Am
open Go.Proofs Go.Shelf Go.RowKit Go.Lib
structure Pst(s0:Nat)(w w':World):Prop where
 size:w.heap.size<=w'.heap.size
 old:∀b,b<s0->w'.heap[b]?=w.heap[b]?
 os:w'.os=w.os
 tape:w'.tape=w.tape
 output:w'.output=w.output
 drawn:w.drawn<=w'.drawn
theorem Pst.refl(s0:Nat)(w:World):Pst s0 w w:=⟨AB _,fun _ _=>rfl,rfl,rfl,rfl,AB _⟩
theorem Pst.trans{s0:Nat}{w w1 w2:World}(a:Pst s0 w w1)(b:Pst s0 w1 w2):Pst s0 w w2 := ⟨Bo a.size b.size,fun i hi=>(b.old i hi).trans (a.old i hi),b.os.trans a.os,b.tape.trans a.tape,b.output.trans a.output,Bo a.drawn b.drawn⟩
theorem Pst.mono{s0 s1:Nat}{w w':World}(h:Pst s0 w w')(hs:s1<=s0):Pst s1 w w':=⟨h.size,fun b hb=>h.old b (by omega),h.os,h.tape,h.output,h.drawn⟩
theorem Pst.drew{s0:Nat}(w:World):Pst s0 w w.drew:=⟨AB _,fun _ _=>rfl,rfl,rfl,rfl,Dd _⟩
theorem Pst.alloc{s0:Nat}{w:World}(h:s0<=w.heap.size)(o:Obj):Pst s0 w (w.alloc o) := ⟨by simp[World.alloc_eq,World.size_alloc],fun b hb=>by show(w.heap.push o)[b]?=_;rw[Lg,Aj (by omega)],rfl,rfl,rfl,AB _⟩
theorem Hx(w:World)(o:Obj):(w.alloc o).heap[w.heap.size]?=some o:=by show(w.heap.push o)[w.heap.size]?=_;rw[Lg,Ap rfl]
theorem Pst.cell{s0:Nat}{w w':World}(h:Pst s0 w w'){b j:Nat}(hb:b<s0):w'.cell? ⟨b,j,none⟩=w.cell? ⟨b,j,none⟩:=by unfold World.cell?;rw[h.old b hb]
theorem D6{w:World}{b:Nat}{arr:Array Value}{ty:TypeId}(h:w.heap[b]?=some (.cells arr ty (0,0)))(j:Nat):w.cell? ⟨b,j,none⟩=arr[j]?/\w.frozen? ⟨b,j,none⟩=false/\w.shape? b=some (ty,arr.size):=by refine⟨by simp[World.cell?,h],by simp[World.frozen?,h],by simp[World.shape?,h]⟩
theorem vF{w:World}{b:Nat}{arr:Array Value}{ty:TypeId}(h:w.heap[b]?=some (.cells arr ty (0,0)))(o:Nat)(v:Value) : (w.setCell ⟨b,o,none⟩ v).heap[b]?=some (.cells (arr.setIfInBounds o v) ty (0,0))/\∀i,i≠b->(w.setCell ⟨b,o,none⟩ v).heap[i]?=w.heap[i]?:=by
 refine⟨?_,fun i hi=>?_⟩
 ·simp[World.setCell,PD,h]
 ·simp[World.setCell,PD,Ne.symm hi]
theorem Hy{b:Nat}{ty:TypeId}:∀(vs:List Value) (o:Nat) (w:World) (arr:Array Value),w.heap[b]?=some (.cells arr ty (0,0))->o+vs.length<=arr.size -> ∃arr',(w.setCells b o vs).heap[b]?=some (.cells arr' ty (0,0))/\arr'.size=arr.size/\(∀j,arr'[j]?=if o<=j/\j<o+vs.length then vs[j-o]? else arr[j]?)/\(∀i,i≠b->(w.setCells b o vs).heap[i]?=w.heap[i]?) /\ (w.setCells b o vs).heap.size=w.heap.size/\(w.setCells b o vs).os=w.os/\(w.setCells b o vs).tape=w.tape/\(w.setCells b o vs).output=w.output/\(w.setCells b o vs).drawn=w.drawn
 |[],o,w,arr,h,_=>⟨arr,h,rfl,fun j=>by rw[Aj (by simp only[List.length_nil];omega)],fun _ _=>rfl,rfl,rfl,rfl,rfl,rfl⟩
 |v :: r,o,w,arr,h,hb=>by
  rw[Df]at hb;obtain⟨h1,h2⟩:=vF h o v;obtain⟨arr',e1,e2,e3,e4,e5,e6,e7,e8,e9⟩:=Hy r (o+1) (w.setCell ⟨b,o,none⟩ v) _ h1 (by simp;omega);refine⟨arr',e1,by simpa using e2,fun j=>?_,fun i hi=>(e4 i hi).trans (h2 i hi),by rw[World.setCells,e5,World.size_setCell],e6,e7,e8,e9⟩;rw[e3,Array.getElem?_setIfInBounds,Df];by_cases c1:o+1<=j/\j<o+1+r.length
  ·rw[Ap c1,Ap (by omega),show j-o=(j-(o+1))+1 by omega,List.getElem?_cons_succ]
  ·rw[Aj c1];by_cases c2:o=j
   ·subst c2;rw[Ap rfl,Ap (by omega),Ap (by omega),Nat.sub_self,Uy]
   ·rw[Aj c2,Aj (by omega)]
theorem Pst.setCells{s0 b o:Nat}{w:World}{vs:List Value}{arr:Array Value}{ty:TypeId}(hb:s0<=b)(h:w.heap[b]?=some (.cells arr ty (0,0)))(ho:o+vs.length<=arr.size):Pst s0 w (w.setCells b o vs):=by obtain⟨arr',e1,e2,e3,e4,e5,e6,e7,e8,e9⟩:=Hy vs o w arr h ho;exact⟨by omega,fun i hi=>e4 i (by omega),e6,e7,e8,by omega⟩
structure Mne(z s0:Nat)(w:World)(base:Option Addr)(n c:Nat)(cs:List Value):Prop where
 le:n<=c
 top:c<=9223372036854775807
 cl:cs.length=n*z
 one:∀v∈cs,v.oneCell'=true
 lie:(base=none/\n=0/\c=0)\/∃(b:Nat) (arr:Array Value) (ty:TypeId),base=some ⟨b,0,none⟩/\s0<=b/\w.heap[b]?=some (.cells arr ty (0,0))/\arr.size=c*z/\∀(j:Nat) (v:Value),cs[j]?=some v->arr[j]?=some v
theorem Mne.mono{z s0 s1:Nat}{w:World}{base:Option Addr}{n c:Nat}{cs:List Value}(h:Mne z s0 w base n c cs)(hs:s1<=s0):Mne z s1 w base n c cs := ⟨h.le,h.top,h.cl,h.one,h.lie.imp id fun⟨b,arr,ty,e,hb,r⟩=>⟨b,arr,ty,e,Bo hs hb,r⟩⟩
theorem Mne.past{z s0 s1:Nat}{w w':World}{base:Option Addr}{n c:Nat}{cs:List Value}(h:Mne z s0 w base n c cs)(p:Pst s1 w w')(hs:w.heap.size<=s1):Mne z s0 w' base n c cs:=by refine⟨h.le,h.top,h.cl,h.one,h.lie.imp id fun⟨b,arr,ty,e,hb,h1,r⟩=>⟨b,arr,ty,e,hb,?_,r⟩⟩;have:=(Dt.1 h1).1;rw[p.old b (by omega),h1]
theorem Mne.rng{z s0:Nat}{w:World}{base:Option Addr}{n c:Nat}{cs:List Value}(h:Mne z s0 w base n c cs)(b:Nat)(e:base=some ⟨b,0,none⟩):s0<=b/\b<w.heap.size:=by
 rcases h.lie with ⟨h,_⟩|⟨b',arr,ty,h,hb,hh,_⟩
 ·rw[h]at e;cases e
 ·rw[h]at e;cases e;exact⟨hb,(Dt.1 hh).1⟩
theorem vG{i z:Nat}{cs vs:List Value}(hi:i*z<=cs.length)(hv:vs.length=z)(j:Nat):(cs.take (i*z)++vs++cs.drop (i*z))[j]?=if j<i*z then cs[j]? else if j<(i+1)*z then vs[j-i*z]? else cs[j-z]?:=by
 have hm:(i+1)*z=i*z+z:=Ei i z;have ht:(cs.take (i*z)).length=i*z:=by rw[Eg];omega
 by_cases h1:j<i*z
 ·rw[Ap h1,List.append_assoc,F0 (by omega),FX,Ap h1]
 ·rw[Aj h1];by_cases h2:j<(i+1)*z
  ·rw[Ap h2,F0 (by rw[BK];omega),GS (by omega),ht]
  ·rw[Aj h2,GS (by rw[BK];omega),BK,ht,hv,F3];congr 1;omega
theorem HR.past{E:Nat->Aa}{g:Gh}{w w':World}(H:HR E g h0 w)(p:Pst w.heap.size w w'):GLe g w g w'/\HR E g h0 w':=by have hl:GLe g w g w':=⟨fun b hb=>⟨hb,p.old b (H.fzb b hb)⟩,fun _=>AB _,fun _ _=>⟨rfl,rfl,rfl,rfl⟩⟩;exact⟨hl,⟨fun _=>trivial,H.ep,(by intro i j hi;cases hi),(by intro i hi;cases hi),fun b hb=>F4 (H.fzb b hb) p.size,fun i=>(H.glob i).mono hl⟩⟩
theorem B8.past{E:Nat->Aa}{P:Program}{f:FuncId}{xs:List Aa}{r:Aa}(hs:B8 E P f xs r){g:Gh}{w:World}{vs:List Value}(H:HR E g h0 w)(hv:RVs g w xs vs){W:World}(p:Pst w.heap.size w W) :
  Calls P f vs.toArray W fun e W'=>∃g' v,e=.returned v/\RV g' W' r v/\Pst W.heap.size W W':=by
 obtain⟨hl,HW⟩:=H.past p;refine(hs h0 g W vs HW (hv.mono hl)).mono ?_;rintro e W' ⟨g',h',r',v,⟨rfl,rfl⟩,rfl,hr,_,st⟩;exact⟨g',v,rfl,hr,st.size,fun b hb=>st.keep b hb (by intro i hi;cases hi),st.os,st.tape,st.output,st.drawn⟩
def CRel(g:Gh)(w:World){α:Type}(C:α->List Aa)(z:Nat)(l:List α)(cs:List Value):Prop:=cs.length=l.length*z/\∀i x,l[i]?=some x->RVs g w (C x) ((cs.drop (i*z)).take z)
theorem CRel.mono{g g':Gh}{w w':World}{α:Type}{C:α->List Aa}{z:Nat}{l:List α}{cs:List Value}(h:CRel g w C z l cs)(hl:GLe g w g' w'):CRel g' w' C z l cs:=⟨h.1,fun i x hx=>(h.2 i x hx).mono hl⟩
theorem CRel.app{g:Gh}{w:World}{α:Type}{C:α->List Aa}{z:Nat}{l m:List α}{cs ds:List Value}(h:CRel g w C z l cs)(k:CRel g w C z m ds):CRel g w C z (l++m) (cs++ds):=by
 refine⟨by rw[BK,BK,h.1,k.1,AT],fun i x hx=>?_⟩;by_cases hi:i<l.length
 ·rw[F0 hi]at hx;have:=h.2 i x hx;have hb:(i+1)*z<=l.length*z:=Bp z hi;rw[Ei]at hb;rw[List.drop_append_of_le_length (by rw[h.1];omega),List.take_append_of_le_length (by rw[EB,h.1];omega)];exact this
 ·rw[GS (by omega)]at hx;have:=k.2 _ x hx;have hb:l.length*z<=i*z:=Bp z (by omega);rw[List.drop_append,List.drop_eq_nil_of_le (by rw[h.1];exact hb),U3,h.1,<-Nat.sub_mul];exact this
theorem CRel.take{g:Gh}{w:World}{α:Type}{C:α->List Aa}{z:Nat}{l:List α}{cs:List Value}(h:CRel g w C z l cs){k:Nat}(hk:k<=l.length):CRel g w C z (l.take k) (cs.take (k*z)):=by
 have hb:k*z<=l.length*z:=Bp z hk;refine⟨by rw[Eg,Eg,h.1,Nat.min_eq_left hk,Nat.min_eq_left hb],fun i x hx=>?_⟩;rw[FX]at hx;split at hx
 ·rename_i hi;have cR:(i+1)*z<=k*z:=Bp z hi;rw[Ei]at cR;rw[List.drop_take,List.take_take,Nat.min_eq_left (by omega)];exact h.2 i x hx
 ·cases hx
theorem CRel.drop{g:Gh}{w:World}{α:Type}{C:α->List Aa}{z:Nat}{l:List α}{cs:List Value}(h:CRel g w C z l cs)(k:Nat):CRel g w C z (l.drop k) (cs.drop (k*z)):=by refine⟨by rw[EB,EB,h.1,Nat.sub_mul],fun i x hx=>?_⟩;rw[F3]at hx;rw[Lq,show k*z+i*z=(k+i)*z by rw[AT]];exact h.2 _ x hx
theorem CRel.one{g:Gh}{w:World}{α:Type}{C:α->List Aa}{z:Nat}{x:α}{cs:List Value}(hl:cs.length=z)(h:RVs g w (C x) cs):CRel g w C z [x] cs:=by
 refine⟨by simp[hl],fun i y hy=>?_⟩;cases i with
 |zero=>cases hy;rw[Nat.zero_mul,List.drop_zero,Ia (by omega)];exact h
 |succ i=>simp at hy
theorem vH{g:Gh}{w:World}{α:Type}{C:α->List Aa}{z:Nat}(hz:0<z)(hC:∀x,(C x).length=z){l:List α}{v:Value}(h:RV g w (slcV z C l) v):∃base cap cs,v=.slice base l.length cap/\CRel g w C z l cs/\(base=none->l.length=0) /\ (∀a,base=some a->∀(j:Nat) (u:Value),cs[j]?=some u->w.cell? (a.add j)=some u)/\∀u∈cs,u.oneCell'=true:=by
 rw[Ic]at h;generalize hn:l.length=n at h;generalize hf:Ay C l=f at h;cases h with
 |slc0 _ _ a cap =>obtain rfl:=J7.1 hn;exact⟨a,cap,[],rfl,⟨by simp,fun i x hx=>by simp at hx⟩,fun _=>rfl,fun a _ j u hu=>by simp at hu,fun u hu=>by cases hu⟩
 |slc _ _ _ b off cap vals iv aS hl hc h1 hr =>
  subst hn;have aD:((List.range (l.length*z)).map fun t=>vals (t / z) (t%z)).length=l.length*z:=by simp
  have hg:∀t,t<l.length*z->t / z<l.length/\t%z<z/\(t / z)*z+t%z=t:=fun t ht=>⟨(GW hz).2 ht,Ga _ hz,by rw[Bf];exact Ig t z⟩;refine⟨some ⟨b,off,none⟩,cap,(List.range (l.length*z)).map fun t=>vals (t / z) (t%z),rfl,⟨aD,fun i x hx=>?_⟩,(by intro e;cases e),fun a ha j u hu=>?_,fun u hu=>?_⟩
  ·have hi:=(AN.1 hx).1;have hb:(i+1)*z<=l.length*z:=Bp z hi;rw[Ei]at hb;have oh:f i=C x:=by rw[<-hf,D4 hx]
   refine⟨by rw[hC,Eg,EB,aD];omega,fun j y u hy hu=>?_⟩;have hj:j<z:=by rw[<-hC x];exact(AN.1 hy).1
   rw[FX,Ap hj,F3,J4,PH (by omega)]at hu;simp only[Ek,AX]at hu;have e1:(i*z+j) / z=i:=by rw[Bf,P8 hz,JE hj,Ib]
   have e2:(i*z+j)%z=j:=by rw[Bf,PJ,Eh hj]
   rw[e1,e2]at hu;subst hu;exact hr i j y hi (by rw[oh];exact hy)
  ·cases ha;have hj:=(AN.1 hu).1;rw[aD]at hj;obtain⟨g1,g2,g3⟩:=hg j hj;rw[J4,PH hj]at hu;simp only[Ek,AX]at hu;subst hu;have:=hc _ _ g1 g2;rw[EF,g3]at this;rw[Addr.add_lit];exact this
  ·obtain⟨t,ht,rfl⟩:=P5.1 hu;obtain⟨g1,g2,g3⟩:=hg t (GN.1 ht);exact h1 _ _ g1 g2
theorem Pst.cellA{w W:World}(p:Pst w.heap.size w W){a:Addr}{v:Value}(h:w.cell? a=some v):W.cell? a=some v:=by
 unfold World.cell? at h |-;cases e:w.heap[a.block]? with
 |none=>rw[e]at h;cases h
 |some o=>rw[p.old _ (Dt.1 e).1,e];rw[e]at h;exact h
theorem vI{g:Gh}{w:World}{k:IntKind}{n:Int}{b:Bool}{v:Value}(h:RV g w (.tup [.int k n,.bool b]) v):v=.tuple #[.int k n,.bool b]:=by
 cases h with
 |tup _ a hn h =>
  obtain⟨la⟩:=a
  match la,hn with
  |[x,y],_ =>have h0:=h 0 _ x rfl (by simp);have h1:=h 1 _ y rfl (by simp);cases h0;cases h1;rfl
theorem Mne.give{E:Nat->Aa}{g:Gh}{w w':World}{α:Type}{C:α->List Aa}{z n c:Nat}{base:Option Addr}{cs:List Value}{l:List α}(H:HR E g h0 w)(p:Pst w.heap.size w w')(hC:∀x,(C x).length=z)(hM:Mne z w.heap.size w' base n c cs)(hR:CRel g w C z l cs)(hn:n=l.length)(pV:0<n) : ∃g',RV g' w' (slcV z C l) (.slice base n c)/\HR E g' h0 w'/\Stp g h0 w g' h0 w':=by
 obtain⟨iN,_,jn,h1,hl⟩:=hM;rcases hl with ⟨_,h,_⟩|⟨b,arr,ty,rfl,hb,hh,jp,hc⟩
 ·omega
 have om:=(Dt.1 hh).1
 let g':Gh:=⟨g.blk,g.ep,g.bo,g.st,g.cp,fun x=>g.fz x\/x=b⟩
 have aE:GLe g w g' w':=⟨fun x hx=>⟨.inl hx,p.old x (H.fzb x hx)⟩,fun _=>AB _,fun _ _=>⟨rfl,rfl,rfl,rfl⟩⟩;have ot:=hR.mono aE;refine⟨g',?_,⟨fun _=>trivial,H.ep,(by intro i j hi;cases hi),(by intro i hi;cases hi),fun x hx=>hx.elim (fun h=>F4 (H.fzb x h) p.size) (fun h=>by rw[h];exact om),fun i=>(H.glob i).mono aE⟩,?_⟩
 ·rw[Ic,<-hn];refine .slc z n _ b 0 c (fun i j=>cs.getD (i*z+j) undef) (.inr rfl) iN (fun i hi=>?_) (fun i j hi hj=>?_) (fun i j hi hj=>?_) (fun i j x hi hx=>?_)
  ·rw[D4 (AD (by omega))];exact hC _
  ·have cR:(i+1)*z<=n*z:=Bp z hi;rw[Ei]at cR;have hlt:i*z+j<cs.length:=by omega
   rw[Cx,(D6 hh _).1,hc _ _ (AD hlt)];simp[List.getD,hlt]
  ·have cR:(i+1)*z<=n*z:=Bp z hi;rw[Ei]at cR;have hlt:i*z+j<cs.length:=by omega
   have:cs.getD (i*z+j) undef=cs[i*z+j]:=by simp[List.getD,hlt]
   rw[this];exact h1 _ (GT hlt)
  ·have ge:i<l.length:=by omega
   rw[D4 (AD ge)]at hx;have hj:j<z:=by rw[<-hC l[i]];exact(AN.1 hx).1
   have cR:(i+1)*z<=n*z:=Bp z hi;rw[Ei]at cR;have hlt:i*z+j<cs.length:=by omega
   refine(ot.2 i _ (AD ge)).2 j x _ hx ?_;rw[FX,Ap hj,F3];simp[List.getD,hlt]
 ·exact⟨aE,p.os,p.tape,p.output,p.size,fun x hx _=>p.old x hx,(by intro i hi;cases hi),fun x hx=>hx.elim .inl fun h=>.inr (.inr (by rw[h];exact hb)),p.drawn⟩
end Go.Am

