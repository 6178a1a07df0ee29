/- Part A5 of the proof that the last part closes: an abstract machine proved sound over the calculus of the guide. No condition. -/
import Derived.Test.YtpflinpbkifmhaaGreatDoorA4
import Derived.Shelf.SlSortCmp.WholeK
import Derived.Shelf.SlicesE.Reverse
set_option linter.unusedVariables false
set_option linter.unusedSimpArgs false
namespace Go.Am
open Go.Sort Go.Proofs Go.Shelf
def qzw0 (h:qzl):qzl:=fun i=>.gone (h i).ep
theorem HR.gone {E:Nat→AVal} {g:Gh} {h:qzl} {w W:World} (H:HR E g h w) (hle:GLe g w g W) (hs:w.heap.size≤W.heap.size):HR E g (qzw0 h) W :=
 ⟨fun _=>trivial,fun i=>H.ep i,fun i j hi=>(by cases hi),fun i hi=>(by cases hi),fun b hb=>Nat.lt_of_lt_of_le (H.fzb b hb) hs,fun i=>(H.glob i).mono hle⟩
theorem qzq.lays {E:Nat→AVal} {P:Program} {F:FuncId} {args:List AVal} {v:AVal} (hc:qzq E P F args v) {g:Gh} {h:qzl} {W:World} (H:HR E g (qzw0 h) W) {vs:List Value} (hv:RVs g W args vs) :
  Calls P F vs.toArray W fun e w'=>(∃ u g',e=.returned u∧RV g' w' v u)∧∃ q os',w'=grow (W.drewN q) os':=by
 refine (hc (qzw0 h) g W vs H hv).mono ?_
 rintro e w' ⟨g',h',r,u,⟨rfl,rfl⟩,rfl,hr,H',st⟩
 refine ⟨⟨u,g',rfl,hr⟩,w'.drawn - W.drawn,w'.heap.extract W.heap.size w'.heap.size,?_⟩
 have hd:=st.drawn
 have hsz:=st.size
 have hh:w'.heap=W.heap++w'.heap.extract W.heap.size w'.heap.size:=by
  apply Array.ext_getElem?
  intro b
  by_cases hb:b < W.heap.size
  ·rw [st.keep b hb (fun i hi=>by cases hi),Array.getElem?_append_left hb]
  ·rw [Array.getElem?_append_right (Nat.le_of_not_lt hb)]
   by_cases hb2:b < w'.heap.size
   ·rw [Array.getElem?_extract,if_pos (by omega)]
    congr 1
    omega
   ·rw [Array.getElem?_eq_none (Nat.le_of_not_lt hb2),Array.getElem?_eq_none (by simp; omega)]
 have h1:=st.os; have h2:=st.tape; have h3:=st.output
 cases w' with
 | mk hp tp dr os out =>
 cases W with
 | mk hp2 tp2 dr2 os2 out2 =>
 simp only [grow,World.drewN] at *
 subst h1; subst h2; subst h3
 congr 1
 omega
theorem wzfu {α:Type} [Inhabited α] {E:Nat→AVal} {P:Program} {ρ:Ren} (Ly:SlLaysF0.n6 P ρ) (k:Nat) (hk0:0 < k)
  (aE:∀ w,(isAgg (ρ.t 24)).run P w=.ok true w) (zE:∀ w,(Go.sizeOf (ρ.t 24)).run P w=.ok k w)
  (cs:α→List AVal) (enc:α→List Value) (hk:∀ x,(enc x).length=k) (hck:∀ x,(cs x).length=k) (h1:∀ x,∀ v∈enc x,v.oneCell'=true)
  (hrv:∀ g w x l,RVs g w (cs x) l→l=enc x) (hvr:∀ g w x,RVs g w (cs x) (enc x))
  (cf:α→α→Int) (hO:SWO (ltOf cf)) (F:FuncId) (eg:∀ args w,(callFunc F args).run P w=.ok (.enter F args) w)
  (hcmp:∀ x y,qzq E P F [.agg (cs x),.agg (cs y)] (.int .i64 (cf x y)))
  {h:qzl} {id ep n:Nat} {f:Nat→List AVal} {d:Array α} (hid:h id=.vec ep k n f) (hdn:d.size=n) (hn:0 < n) (hn2:n < 4611686018427387904) (hf:∀ j,j < n→f j=cs d[j]!) :
  ATr E P (ρ.f 6) [.vec id ep 0 n,.fn F 0 []] h (fun r h'=>r=.tup []∧∃ d':Array α,PermIn 0 n d d'∧SortedIn (ltOf cf) 0 n d'∧h'=hset h id (.vec ep k n (fun j=>cs d'[j]!))):=by
 intro g w vs H hv
 obtain ⟨v,v2,rfl⟩:∃ v v2,vs=[v,v2]:=by
  have:=hv.1
  match vs,this with
  | [v,v2],_=>exact ⟨v,v2,rfl⟩
 have hrv0:RV g w (.vec id ep 0 n) v:=hv.2 0 _ _ rfl rfl
 have hrv1:RV g w (.fn F 0 []) v2:=hv.2 1 _ _ rfl rfl
 have hep:g.ep id=ep:=by rw [H.ep id,hid]; rfl
 cases hrv1 with
 | fn _ _ _ a hna _ =>
 have ha0:a=#[]:=Array.eq_empty_of_size_eq_zero (by simpa using hna)
 subst ha0
 cases hrv0 with
 | vec _ _ _ _ _ h1' he hV =>
 obtain ⟨ad,cap,rfl,hcap,hor⟩:=hV hep.symm
 have ho:=H.obj id
 rw [hid] at ho
 obtain ⟨hst,_,hncp,arr,ty,hheap,hsize,hcells⟩:=ho
 rcases hor with e0 | ⟨rfl,hcp⟩
 ·omega
 have how:(h id).owned=true:=by rw [hid]; rfl
 have hle2:∀ i c,i < n→c < k→i*k+c < n*k:=fun i c hi hc=>by
  have:=Nat.mul_le_mul_right k (show i+1≤n from hi); rw [Nat.add_mul,Nat.one_mul] at this; omega
 have hnk:n*k≤g.cp id*k:=Nat.mul_le_mul_right k hncp
 have hcell:∀ i c,i < n→c < k→arr[g.bo id+i*k+c]?=some (enc d[i]!)[c]! := by
  intro i c hi hc
  have hlt:∀ c,c < k→g.bo id+i*k+c < arr.size:=fun c hc=>by have:=hle2 i c hi hc; omega
  have hl:RVs g w (cs d[i]!) ((List.range k).map fun c=>arr.getD (g.bo id+i*k+c) undef):=by
   refine ⟨by simp [hck],fun j x v hx hv=>?_⟩
   have hj:j < k:=by have:=(List.getElem?_eq_some_iff.1 hv).1; simpa using this
   have hv':arr[g.bo id+i*k+j]?=some v:=by
    simp only [List.getElem?_map,List.getElem?_range hj,Option.map_some,Option.some.injEq] at hv
    rw [Array.getElem?_eq_getElem (hlt j hj),← hv]
    simp [Array.getD,hlt j hj]
   exact ((hcells i hi).2 j x v (by rw [hf i hi]; exact hx) hv').2
  have e:=hrv g w _ _ hl
  have ec:c < (enc d[i]!).length:=by rw [hk]; exact hc
  rw [Array.getElem?_eq_getElem (hlt c hc),getElem!_pos _ c ec]
  congr 1
  have:(enc d[i]!)[c]?=some (arr.getD (g.bo id+i*k+c) undef):=by rw [← e]; simp [hc]
  rw [List.getElem?_eq_getElem ec] at this
  rw [Option.some.inj this]
  simp [Array.getD,hlt c hc]
 have hoff:(⟨g.blk id,g.bo id+0*g.st id,none⟩:Addr)=⟨g.blk id,g.bo id,none⟩:=by simp
 have hblk:g.blk id < w.heap.size:=(Array.getElem?_eq_some_iff.1 hheap).1
 have hH:HoldsK enc k w (g.blk id) (g.bo id) d:=by
  intro j hj
  have hj':j < n*k:=by simpa [size_flatK,hdn] using hj
  refine ⟨?_,by simp [World.frozen?,hheap]⟩
  simp only [World.cell?,hheap]
  simp only [Option.isSome_none,Bool.false_eq_true,if_false]
  rw [get_flatK _ _ _ _ (by rw [hdn]; exact hj')]
  have h3:j / k < n:=Nat.div_lt_of_lt_mul (by rw [Nat.mul_comm]; exact hj')
  have h4:j%k < k:=Nat.mod_lt _ hk0
  have:=hcell (j / k) (j%k) h3 h4
  rw [Nat.add_assoc,Nat.mul_comm,Nat.div_add_mod] at this
  exact this
 have hcl:CmpLays P F #[] enc k cf (g.blk id) (g.bo id) d.size w:=by
  intro m os dk hdk x y
  have hWs:w.heap.size≤(sortWorldK enc k w (g.blk id) (g.bo id) m dk os).heap.size:=by
   unfold sortWorldK; rw [size_grow]; simp [putRowK,putRow,mapBlock,Sort.ahead]
  have hWo:∀ b,b < w.heap.size→b≠g.blk id→(sortWorldK enc k w (g.blk id) (g.bo id) m dk os).heap[b]?=w.heap[b]?:=by
   intro b hb hne
   unfold sortWorldK
   rw [heap_grow_old _ _ (by simpa [putRowK,putRow,mapBlock,Sort.ahead] using hb)]
   have:g.blk id≠b:=fun e=>hne e.symm
   simp [putRowK,putRow,mapBlock,Sort.ahead,Array.getElem?_modify,this]
  have hle:GLe g w g (sortWorldK enc k w (g.blk id) (g.bo id) m dk os) :=
   ⟨fun b hb=>⟨hb,hWo b (H.fzb b hb) (fun e=>H.sep id how (e▸hb))⟩,fun _=>Nat.le_refl _,fun _ _=>⟨rfl,rfl,rfl,rfl⟩⟩
  have hargs:RVs g (sortWorldK enc k w (g.blk id) (g.bo id) m dk os) [.agg (cs x),.agg (cs y)] [.agg (enc x).toArray,.agg (enc y).toArray] :=
   .cons (.agg _ _ (by simp [hk,hck]) fun i x' v hx hv=>(hvr _ _ x).2 i x' v hx (by simpa using hv))
    (.cons (.agg _ _ (by simp [hk,hck]) fun i x' v hx hv=>(hvr _ _ y).2 i x' v hx (by simpa using hv)) (.nil _ _))
  refine (qzq.lays (hcmp x y) (H.gone hle hWs) hargs).mono ?_
  rintro e w' ⟨⟨u,g',rfl,hu⟩,hq⟩
  cases hu
  exact ⟨rfl,hq⟩
 have main:=AnyQ.slices_SortFunc Ly k aE zE enc hk h1 cf hO F #[] (g.blk id) (g.bo id) cap d w eg hcl hH hblk (by rw [hdn]; exact hn2)
 rw [hdn] at main
 rw [hoff]
 refine main.mono ?_
 rintro e w' ⟨rfl,d',m,os,hp,hs,rfl⟩
 have hdn':d'.size=n:=hp.1.trans hdn
 have hsz:w.heap.size≤(sortWorldK enc k w (g.blk id) (g.bo id) m d' os).heap.size:=by
  unfold sortWorldK; rw [size_grow]; simp [putRowK,putRow,mapBlock,Sort.ahead]
 have hold:∀ b,b < w.heap.size→b≠g.blk id→(sortWorldK enc k w (g.blk id) (g.bo id) m d' os).heap[b]?=w.heap[b]?:=by
  intro b hb hne
  unfold sortWorldK
  rw [heap_grow_old _ _ (by simpa [putRowK,putRow,mapBlock,Sort.ahead] using hb)]
  have:g.blk id≠b:=fun e=>hne e.symm
  simp [putRowK,putRow,mapBlock,Sort.ahead,Array.getElem?_modify,this]
 have hnew:(sortWorldK enc k w (g.blk id) (g.bo id) m d' os).heap[g.blk id]?=some (.cells (putCells _root_.id (g.bo id) (flatK enc k d') arr) ty (0,0)):=by
  unfold sortWorldK
  rw [heap_grow_old _ _ (by simpa [putRowK,putRow,mapBlock,Sort.ahead] using hblk)]
  simp [putRowK,putRow,mapBlock,Sort.ahead,Array.getElem?_modify,hheap,onCells]
 have hle:GLe g w g (sortWorldK enc k w (g.blk id) (g.bo id) m d' os) :=
  ⟨fun b hb=>⟨hb,hold b (H.fzb b hb) (fun e=>H.sep id how (e▸hb))⟩,fun _=>Nat.le_refl _,fun _ _=>⟨rfl,rfl,rfl,rfl⟩⟩
 have hor:OR g (sortWorldK enc k w (g.blk id) (g.bo id) m d' os) id (.vec ep k n (fun j=>cs d'[j]!)):=by
  refine ⟨hst,hk0,hncp,_,ty,hnew,by simpa [putCells] using hsize,fun i hi=>⟨hck _,fun j x v hx hv=>?_⟩⟩
  have hj:j < k:=by have:=(List.getElem?_eq_some_iff.1 hx).1; rwa [hck] at this
  have hij:=hle2 i j hi hj
  have hka:g.bo id+i*k+j < arr.size:=by omega
  have ev:v=(enc d'[i]!)[j]! := by
   simp only [putCells,Array.getElem?_mapIdx,Array.getElem?_eq_getElem hka,Option.map_some,Option.some.injEq] at hv
   rw [if_pos ⟨by omega,by rw [size_flatK,hdn']; omega⟩] at hv
   rw [← hv,show g.bo id+i*k+j - g.bo id=i*k+j by omega]
   show (flatK enc k d')[i*k+j]! = _
   rw [get_flatK _ _ _ _ (by rw [hdn']; exact hij)]
   have e1:(i*k+j) / k=i:=by rw [Nat.mul_comm,Nat.mul_add_div hk0,Nat.div_eq_of_lt hj,Nat.add_zero]
   have e2:(i*k+j)%k=j:=by rw [Nat.mul_comm,Nat.mul_add_mod,Nat.mod_eq_of_lt hj]
   rw [e1,e2]
  have ej:j < (enc d'[i]!).length:=by rw [hk]; exact hj
  have ev2:(enc d'[i]!)[j]?=some v:=by rw [ev,List.getElem?_eq_getElem ej,getElem!_pos _ j ej]
  exact ⟨h1 _ v (List.mem_of_getElem? ev2),(hvr _ _ _).2 j x v hx ev2⟩
 obtain ⟨H',S'⟩:=HR.upd (E:=E) (g':=g) (i:=id) (o':=.vec ep k n (fun j=>cs d'[j]!)) H hle (fun _ _=>rfl) hep
  (fun b hb hn=>hold b hb (hn how)) hsz hor (fun _=>.inl ⟨how,rfl⟩) (fun _=>H.sep id how) (fun b hb=>.inl hb) (fun b hb=>Nat.lt_of_lt_of_le (H.fzb b hb) hsz) rfl rfl rfl (Nat.le_add_right _ _)
 exact ⟨g,_,.tup [],.tuple #[],⟨rfl,d',hp,hs,rfl⟩,rfl,.tup [] #[] rfl (fun i x v hx _=>by simp at hx),H',S'⟩
end Go.Am

set_option linter.unusedVariables false
set_option linter.unusedSimpArgs false
namespace Go.Am
open Go.Sort Go.Proofs Go.Shelf
theorem qz2n {α:Type} [Inhabited α] {E:Nat→AVal} {P:Program} {ρ:Ren} (Ly:SlLaysE.n35 P ρ) (cs:α→AVal) (enc:α→Value) (h1:OneCell enc)
  (hrv:∀ g w x v,RV g w (cs x) v→v=enc x) (hvr:∀ g w x,RV g w (cs x) (enc x))
  {h:qzl} {id ep n:Nat} {f:Nat→List AVal} {l:List α} (hid:h id=.vec ep 1 n f) (hln:l.length=n) (hn:0 < n) (hn2:n≤9223372036854775807) (hf:∀ j,j < n→f j=[cs l.toArray[j]!]) :
  ATr E P (ρ.f 35) [.vec id ep 0 n] h (fun r h'=>r=.tup []∧h'=hset h id (.vec ep 1 n (fun j=>[cs l.reverse.toArray[j]!]))):=by
 intro g w vs H hv
 obtain ⟨v,rfl⟩:∃ v,vs=[v]:=by
  have:=hv.1
  match vs,this with
  | [v],_=>exact ⟨v,rfl⟩
 have hrv0:RV g w (.vec id ep 0 n) v:=hv.2 0 _ _ rfl rfl
 have hep:g.ep id=ep:=by rw [H.ep id,hid]; rfl
 cases hrv0 with
 | vec _ _ _ _ _ h1' he hV =>
 obtain ⟨ad,cap,rfl,hcap,hor⟩:=hV hep.symm
 have ho:=H.obj id
 rw [hid] at ho
 obtain ⟨hst,_,hncp,arr,ty,hheap,hsize,hcells⟩:=ho
 rcases hor with e0 | ⟨rfl,hcp⟩
 ·omega
 have how:(h id).owned=true:=by rw [hid]; rfl
 have hcell:∀ j,j < n→arr[g.bo id+j]?=some (enc l.toArray[j]!):=by
  intro j hj
  have hlt:g.bo id+j < arr.size:=by omega
  have h3:=(hcells j hj).2 0 (cs l.toArray[j]!) arr[g.bo id+j] (by rw [hf j hj]; rfl) (by simp [Array.getElem?_eq_getElem hlt])
  rw [Array.getElem?_eq_getElem hlt,hrv _ _ _ _ h3.2]
 have hoff:(⟨g.blk id,g.bo id+0*g.st id,none⟩:Addr)=⟨g.blk id,g.bo id,none⟩:=by simp
 have hblk:g.blk id < w.heap.size:=(Array.getElem?_eq_some_iff.1 hheap).1
 have hH:Holds enc w (g.blk id) (g.bo id) l.toArray:=by
  intro j hj
  have hj':j < n:=by simpa [hln] using hj
  refine ⟨?_,by simp [World.frozen?,hheap]⟩
  simp only [World.cell?,hheap]
  simp only [Option.isSome_none,Bool.false_eq_true,if_false]
  exact hcell j hj'
 have main:=AnyE.slices_Reverse Ly enc h1 (g.blk id) (g.bo id) cap l w hH (by rw [hln]; exact hn2)
 rw [hln] at main
 rw [hoff]
 refine main.mono ?_
 rintro e w' ⟨rfl,m,rfl⟩
 have hlr:l.reverse.toArray.size=n:=by simp [hln]
 have hsz:w.heap.size≤(putRow enc (Sort.ahead w m) (g.blk id) (g.bo id) l.reverse.toArray).heap.size:=by
  simp [putRow,mapBlock,Sort.ahead]
 have hold:∀ b,b < w.heap.size→b≠g.blk id→(putRow enc (Sort.ahead w m) (g.blk id) (g.bo id) l.reverse.toArray).heap[b]?=w.heap[b]?:=by
  intro b hb hne
  have:g.blk id≠b:=fun e=>hne e.symm
  simp [putRow,mapBlock,Sort.ahead,Array.getElem?_modify,this]
 have hnew:(putRow enc (Sort.ahead w m) (g.blk id) (g.bo id) l.reverse.toArray).heap[g.blk id]?=some (.cells (putCells enc (g.bo id) l.reverse.toArray arr) ty (0,0)):=by
  simp [putRow,mapBlock,Sort.ahead,Array.getElem?_modify,hheap,onCells]
 have hle:GLe g w g (putRow enc (Sort.ahead w m) (g.blk id) (g.bo id) l.reverse.toArray) :=
  ⟨fun b hb=>⟨hb,hold b (H.fzb b hb) (fun e=>H.sep id how (e▸hb))⟩,fun _=>Nat.le_refl _,fun _ _=>⟨rfl,rfl,rfl,rfl⟩⟩
 have hor:OR g (putRow enc (Sort.ahead w m) (g.blk id) (g.bo id) l.reverse.toArray) id (.vec ep 1 n (fun j=>[cs l.reverse.toArray[j]!])):=by
  refine ⟨hst,by omega,hncp,_,ty,hnew,by simpa [putCells] using hsize,fun k hk=>⟨rfl,fun j x v hx hv=>?_⟩⟩
  have hj:j=0:=by
   cases j with
   | zero=>rfl
   | succ j=>simp at hx
  subst hj
  simp only [List.getElem?_cons_zero,Option.some.injEq] at hx
  subst hx
  have hka:g.bo id+k < arr.size:=by omega
  have:v=enc l.reverse.toArray[k]! := by
   simp only [putCells,Array.getElem?_mapIdx,Nat.mul_one,Nat.add_zero,Array.getElem?_eq_getElem hka,Option.map_some,Option.some.injEq] at hv
   rw [if_pos ⟨by omega,by rw [hlr]; omega⟩] at hv
   rw [← hv,show g.bo id+k - g.bo id=k by omega]
  subst this
  exact ⟨h1 _,hvr _ _ _⟩
 obtain ⟨H',S'⟩:=HR.upd (E:=E) (g':=g) (i:=id) (o':=.vec ep 1 n (fun j=>[cs l.reverse.toArray[j]!])) H hle (fun _ _=>rfl) hep
  (fun b hb hn=>hold b hb (hn how)) hsz hor (fun _=>.inl ⟨how,rfl⟩) (fun _=>H.sep id how) (fun b hb=>.inl hb) (fun b hb=>Nat.lt_of_lt_of_le (H.fzb b hb) hsz) rfl rfl rfl (Nat.le_add_right _ _)
 exact ⟨g,_,.tup [],.tuple #[],⟨rfl,rfl⟩,rfl,.tup [] #[] rfl (fun i x v hx _=>by simp at hx),H',S'⟩
theorem wzdy {E:Nat→AVal} {P:Program} {ρ:Ren} (Ly:SlLaysE.n35 P ρ) {h:qzl}:ATr E P (ρ.f 35) [.nils] h (fun r h'=>r=.tup []∧h'=h):=by
 intro g w vs H hv
 obtain ⟨v,rfl⟩:∃ v,vs=[v]:=by
  have:=hv.1
  match vs,this with
  | [v],_=>exact ⟨v,rfl⟩
 have hrv0:RV g w .nils v:=hv.2 0 _ _ rfl rfl
 cases hrv0
 refine (AnyE.slices_Reverse_empty Ly none 0 w).mono ?_
 rintro e w' ⟨rfl,rfl⟩
 exact ⟨g,h,.tup [],.tuple #[],⟨rfl,rfl⟩,rfl,.tup [] #[] rfl (fun i x v hx _=>by simp at hx),H,.refl _ _ _⟩
end Go.Am

