/- Part A2: an abstract machine proved sound over the calculus of the guide. No condition. -/
import Derived.Test.YtjlgleghnenojaaDoorA1
import Derived.MapKept
import Derived.Maps.RangeRun
import Derived.WideKeyRuns
import Derived.Laws.BytesString
import Derived.Laws.IdiomStrings
import Derived.Laws.MakeOwn
import Derived.Laws.CopyRow
import Derived.Lib.SliceRun
import Derived.RangeFuncIn
import Derived.RangeFuncRecord
set_option linter.unusedSimpArgs false
set_option linter.unusedVariables false
namespace Go.Am
theorem qzro(off:Nat):∀(vs:List Value) (k:Nat) (cs:Array Value),off+k+vs.length<=cs.size -> ((vs.zipIdx k).foldl (fun(cs:Array Value) (x:Value×Nat)=>cs.setIfInBounds (off+x.2) x.1) cs).toList=cs.toList.take (off+k)++vs++cs.toList.drop (off+k+vs.length)
 |[],k,cs,h=>by simp
 |v :: vs,k,cs,h=>by
  simp only[Gbr]at h;rw[List.zipIdx_cons,List.foldl_cons,qzro off vs (k+1) _ (by simp;omega)];simp only[Array.toList_setIfInBounds,Gbr];have e1:(cs.toList.set (off+k) v).take (off+(k+1))=cs.toList.take (off+k)++[v]:=by rw[show off+(k+1)=(off+k)+1 from by omega,List.take_succ_eq_append_getElem (by simp;omega)];simp[List.take_set_of_le]
  have e2:(cs.toList.set (off+k) v).drop (off+(k+1)+vs.length)=cs.toList.drop (off+k+(vs.length+1)):=by rw[List.drop_set_of_lt (by omega)];congr 1;omega
  rw[e1,e2];simp
section
variable {E:Nat->AVal}{P:Program}{g:Gh}{h:qzl}{w:World}{t:List AVal}{a:Act}
theorem qzlu{place:Nat->Option (Nat×Nat)}{U:Operand->Value}{arg:AArg->AVal}(hr:∀x y,qzm x y=true->RV g w (arg y) (U x)):∀{ps:List (Nat×Operand)} {parts:List (Nat×Nat×AArg)} {l l':List AVal} {cs:Array Value},
  qzhu place ps parts=true->RVs g w l cs.toList->jzv arg l parts=some l'->∃cs':Array Value,Instr.fill place cs (ps.map fun x=>(x.1,U x.2))=some cs'/\RVs g w l' cs'.toList
 |[],[],l,l',cs,_,hcs,hf=>by simp only[jzv,Gdq]at hf;subst hf;exact⟨cs,rfl,hcs⟩
 |(i,x) :: ps,(off,sz,y) :: parts,l,l',cs,hp,hcs,hf=>by
  simp only[qzhu,Gai]at hp;obtain⟨⟨hpl,hxy⟩,hrest⟩:=hp;simp only[jzv]at hf;cases hq:wzk (arg y) with
  |none=>simp[hq]at hf
  |some p =>
   simp only[hq]at hf;split at hf
   ·rename_i hcond;obtain⟨hl,hfit⟩:=hcond;have hv:=qzmy (hr x y hxy) hq;have hvl:(U x).cells.toList.length=sz:=by rw[hv.1,hl]
    have hvs:(U x).cells.size=sz:=(by simpa using hvl);have hln:=hcs.1;cases hpp:place i with
    |none=>simp[hpp]at hpl
    |some os =>
     obtain⟨o,s⟩:=os;simp only[hpp,Gai,Gds]at hpl;obtain⟨rfl,rfl⟩:=hpl;have hcs':RVs g w (lay l o p) ((U x).cells.zipIdx.foldl (fun(cs:Array Value) (x:Value×Nat)=>cs.setIfInBounds (o+x.2) x.1) cs).toList:=by have e:=qzro o (U x).cells.toList 0 cs (by simp at hln hvl ⊢;omega);have e':(U x).cells.zipIdx.foldl (fun(cs:Array Value) (x:Value×Nat)=>cs.setIfInBounds (o+x.2) x.1) cs=((U x).cells.toList.zipIdx 0).foldl (fun(cs:Array Value) (x:Value×Nat)=>cs.setIfInBounds (o+x.2) x.1) cs:=(by rw[<-Array.foldl_toList];simp);rw[e',e];exact hcs.lay hv o (by omega)
     obtain⟨cs'',h1,h2⟩:=qzlu hr hrest hcs' hf;refine⟨cs'',?_,h2⟩;simp only[Gb1,Instr.fill,hpp];have hc:¬((U x).cells.size≠s\/o+(U x).cells.size>cs.size):=by simp at hln;omega
     simp only[ne_eq,gt_iff_lt,Gas,Gdz]at hc ⊢;rw[Gd3 hc];exact h1
   ·cases hf
 |[],_ :: _,_,_,_,hp,_,_=>by cases hp
 |_ :: _,[],_,_,_,hp,_,_=>by cases hp
theorem qznd(w:World):∀{fs:List Field} {l:List (Nat×Nat)},qzfw P fs=some l->(fs.mapM (fun f=>do pure (f.offset,<-sizeOf f.type):Field->Sem (Nat×Nat))).run P w=.ok l w
 |[],l,h=>by simp only[qzfw,Gdq]at h;subst h;simp
 |f :: fs,l,h=>by
  simp only[qzfw]at h;split at h
  ·rename_i n l' hn hl';obtain rfl:=Gdp h;have ih:=qznd w hl';simp only[List.mapM_cons,Sem.run_bind,kzt hn,Result.andThen_ok,Sem.run_pure,ih]
  ·cases h
theorem qz3h{ty:TypeId}{zero:List AVal}(hz:qzkc P ty zero=true)(w:World):∃z,(zeroValue ty).run P w=.ok z w/\vzm z.cells.toList zero=true/\qz0 P ty=some z.cells.toList:=by
 unfold qzkc at hz;cases hc:qz0 P ty with
 |none=>simp[hc]at hz
 |some l =>
  simp only[hc]at hz;unfold qz0 at hc;cases hi:P.info? ty with
  |none=>simp[hi]at hc
  |some i =>
   obtain⟨⟩:=i;rename_i zz _ _;cases zz with
   |none=>simp[hi]at hc
   |some z =>simp only[hi,Gdq]at hc;subst hc;exact⟨z,by simp[zeroValue,typeInfo,hi],hz,rfl⟩
theorem qzu2{o:Oper}{ty:TypeId}{ps:Array (Nat×Operand)}{zero:List AVal}{parts:List (Nat×Nat×AArg)}(H:HR E g h w)(ht:RVs g w t a.tmps.toList)(ho:o.op=.build ty ps)(hb:qzqm P ty zero ps.toList parts=true)(hok:((AOp.build zero parts).req (argv E t) h).ok):Ran E P (execOp a.eval o) g h w ((AOp.build zero parts).req (argv E t) h):=by
 simp only[AOp.req]at hok ⊢;cases hf:jzv (argv E t) zero parts with
 |none=>simp only[hf,Req.fail]at hok
 |some l =>
  unfold qzqm at hb;simp only[Gai]at hb;obtain⟨hz,hb⟩:=hb;obtain⟨z,hzr,hzc,_⟩:=qz3h hz w;have hmap:(ps.map fun x=>(x.1,a.eval x.2)).toList=ps.toList.map fun x=>(x.1,a.eval x.2):=by simp
  cases hu:P.underlying ty with
  |none=>simp[hu]at hb
  |some d =>
   simp only[hu]at hb;cases d<;>(try (cases hb;done))
   case struct fs =>
    simp only at hb;cases hfa:qzfw P fs.toList with
    |none=>simp[hfa]at hb
    |some pl =>
     simp only[hfa]at hb;obtain⟨cs',h1,h2⟩:=qzlu (fun x y hxy=>qzp H ht hxy) hb (kzk hzc) hf;refine Ran.same H (v:=.agg cs') ?_ (.agg _ _ (by simpa using h2.1) (fun i x v hx hv=>h2.2 i x v hx (by simpa using hv)));have hfs:(fs.mapM (fun f=>do pure (f.offset,<-sizeOf f.type):Field->Sem (Nat×Nat))).run P w=.ok pl.toArray w:=by rw[Array.mapM_eq_mapM_toList];have e:=qznd w hfa;simp only[Sem.run_map,e,Result.andThen_ok]
     have hpl:(fun i:Nat=>pl.toArray[i]?)=(fun i:Nat=>pl[i]?):=(by funext i;simp);simp only[execOp,ho,Sem.run_bind,Instr.build,hzr,Result.andThen_ok,run_underlying hu,hfs,hmap,hpl,h1,Sem.run_pure]
   case array n e =>
    simp only at hb;cases hs:szOf P e with
    |none=>simp[hs]at hb
    |some st =>simp only[hs]at hb;obtain⟨cs',h1,h2⟩:=qzlu (fun x y hxy=>qzp H ht hxy) hb (kzk hzc) hf;refine Ran.same H (v:=.agg cs') ?_ (.agg _ _ (by simpa using h2.1) (fun i x v hx hv=>h2.2 i x v hx (by simpa using hv)));simp only[execOp,ho,Sem.run_bind,Instr.build,hzr,Result.andThen_ok,run_underlying hu,kzt hs,hmap,h1,Sem.run_pure]
theorem qzpc{st:Nat}:∀(n:Nat) (l:List AVal) (k:Nat),l.length=n*st->k<n->(kz1 st n l).getD k []=(l.drop (k*st)).take st
 |0,l,k,_,hk=>by omega
 |n+1,l,0,hl,_=>by simp[kz1]
 |n+1,l,k+1,hl,hk=>by
  have e:(n+1)*st=n*st+st:=Gdj n st;have hl':(l.drop st).length=n*st:=by simp;omega
  have:=qzpc n (l.drop st) k hl' (by omega);simp only[kz1,List.getD_cons_succ,this,Ga3];congr 2;have e:(k+1)*st=k*st+st:=Gdj k st;omega
theorem qzho{g':Gh}{s n b:Nat}(hb:g'.blk s=b)(h0:g'.bo s=0)(hc:g'.cp s=n){m:Nat}(hm:m<=n):qzp0 g' s 0 m (.slice (some ⟨b,0,none⟩) m n) := ⟨⟨b,0,none⟩,n,rfl,hm,.inr ⟨by rw[hb,h0];simp,by omega⟩⟩
theorem qzp8{o:Oper}{ty:TypeId}{n st nn:Nat}{ps:Array (Nat×Operand)}{zero:List AVal}{parts:List (Nat×Nat×AArg)}(H:HR E g h w)(ht:RVs g w t a.tmps.toList)(ho:o.op=.buildSlice ty n ps)(hb:qzf1 P ty n st nn zero ps.toList parts=true){l:List AVal} (hf:jzv (argv E t) zero parts=some l) (hl:l.length=nn*st) :
  n=nn/\∃(e:TypeId) (cs':Array Value),RVs g w l cs'.toList/\cs'.size=n*st/\(execOp a.eval o).run P w=.ok (.value (.slice (some ⟨w.heap.size,0,none⟩) n n)) { w with heap:=w.heap.push (.cells cs' e (0,0)) }:=by
  unfold qzf1 at hb;simp only[Gai,Gds,Gdz]at hb;obtain⟨⟨rfl,hmax⟩,hb⟩:=hb;refine⟨rfl,?_⟩;have hmap:(ps.map fun x=>(x.1,a.eval x.2)).toList=ps.toList.map fun x=>(x.1,a.eval x.2):=by simp
  cases hu:P.underlying ty with
  |none=>simp[hu]at hb
  |some d =>
   simp only[hu]at hb;cases d<;>(try (cases hb;done))
   case slice e =>
    simp only[Gai,Gds]at hb;obtain⟨⟨hs,hz⟩,hp⟩:=hb;cases hzc:qz0 P e with
    |none=>simp[hzc]at hz
    |some z0 =>
     simp only[hzc,Gai,Gdz]at hz;obtain⟨hz,hz0⟩:=hz
     have hrow:∃zc:Array Value,(if n*st=0 then pure #[] else do pure (<-zeroValue e).cells:Sem (Array Value)).run P w=.ok zc w/\RVs g w zero ((Array.range (n*st)).map (zc[·%zc.size]!)).toList:=by
      unfold qz0 at hzc;cases hi:P.info? e with
      |none=>simp[hi]at hzc
      |some i =>
       obtain⟨⟩:=i;rename_i zz _ _;cases zz with
       |none=>simp[hi]at hzc
       |some z =>
        simp only[hi,Gdq]at hzc;subst hzc;by_cases e0:n*st=0
        ·refine⟨#[],?_,?_⟩;·rw[Gd4 e0];simp
         ·rw[e0]at hz ⊢;simpa [qznx] using kzk (g:=g) (w:=w) hz
        ·refine⟨z.cells,?_,?_⟩;·rw[Gd3 e0];simp[zeroValue,typeInfo,hi]
         ·have:=kzk (g:=g) (w:=w) hz
          have eq:((Array.range (n*st)).map (z.cells[·%z.cells.size]!)).toList=qznx z.cells.toList (n*st):=by
           simp only[qznx,Array.toList_map,Array.toList_range,Array.length_toList];apply Gb0;intro i hi;have hzs:0<z.cells.size:=by simpa using hz0
           have hlt:i%z.cells.size<z.cells.size:=Nat.mod_lt _ hzs;simp[List.getD,hlt,getElem!_pos]
          rw[eq];exact this
     obtain⟨zc,hzrun,hzrv⟩:=hrow;obtain⟨cs',hf1,hf2⟩:=qzlu (fun x y hxy=>qzp H ht hxy) hp hzrv hf;have hlen:cs'.size=n*st:=by have:=hf2.1;simp at this;omega
     have hrun:(execOp a.eval o).run P w=.ok (.value (.slice (some ⟨w.heap.size,0,none⟩) n n)) { w with heap:=w.heap.push (.cells cs' e (0,0)) }:=by
      have hnm:¬(n*st>2 ^ 24):=(by omega);by_cases e0:n*st=0
      ·rw[Gd4 e0]at hzrun;simp only[Sem.run_pure,Result.ok.injEq,and_true]at hzrun;subst hzrun;simp only[execOp,ho,Sem.run_bind,Instr.buildSlice,run_underlying hu,Result.andThen_ok,kzt hs,Gd3 hnm,Gd4 e0,hmap,Sem.run_pure,hf1,newRow,run_newObj]
      ·rw[Gd3 e0]at hzrun;simp only[Sem.run_bind]at hzrun;generalize hq:(zeroValue e).run P w=q at hzrun;cases q with
       |halt x y=>simp at hzrun
       |ok zv w1 =>simp only[Result.andThen_ok,Sem.run_pure,Result.ok.injEq]at hzrun;obtain⟨rfl,rfl⟩:=hzrun;simp only[execOp,ho,Sem.run_bind,Instr.buildSlice,run_underlying hu,Result.andThen_ok,kzt hs,Gd3 hnm,Gd3 e0,hmap,Sem.run_pure,hq,hf1,newRow,run_newObj]
     exact⟨e,cs',hf2,hlen,hrun⟩
theorem qzum{o:Oper}{ty:TypeId}{n st nn s:Nat}{ps:Array (Nat×Operand)}{zero:List AVal}{parts:List (Nat×Nat×AArg)}(H:HR E g h w)(ht:RVs g w t a.tmps.toList)(ho:o.op=.buildSlice ty n ps)(hb:qzf1 P ty n st nn zero ps.toList parts=true)(hok:((AOp.bslice s st nn zero parts).req (argv E t) h).ok):Ran E P (execOp a.eval o) g h w ((AOp.bslice s st nn zero parts).req (argv E t) h):=by
 simp only[AOp.req]at hok ⊢;cases hf:jzv (argv E t) zero parts with
 |none=>simp only[hf,Req.fail]at hok
 |some l =>
  simp only[hf]at hok ⊢;obtain⟨_,hl,hst,h1⟩:=hok;obtain⟨rfl,e,cs',hf2,hlen,hrun⟩:=qzp8 H ht ho hb hf hl;refine Ran.new (ob:=.cells cs' e (0,0)) (bo:=0) (st:=st) (cp:=n) H ⟨w,rfl,rfl,rfl,rfl,Gcy _,hrun⟩ rfl ?_;intro g' w' hle hblk hbo hst' hcp hnew;refine⟨⟨hst',hst,by omega,cs',e,by rw[hblk];exact hnew,by rw[hbo,hcp,hlen];omega,fun k hk=>?_⟩,fun he=>?_⟩
  ·have hel:=qzpc n l k hl hk;have hkb:k*st+st<=n*st:=by have:(k+1)*st<=n*st:=Gdc _ (by omega);rw[Gdj]at this;exact this
   show((kz1 st n l).getD k []).length=st/\∀(j:Nat) (x:AVal) (v:Value),((kz1 st n l).getD k [])[j]?=some x->cs'[g'.bo s+k*st+j]?=some v->v.oneCell'=true/\RV g' w' x v;rw[hel];refine⟨by simp;omega,fun j x v hx hv=>?_⟩;rw[Gbm]at hx;split at hx
   ·rw[Gbd]at hx;rw[hbo,Gdk]at hv;have hv':cs'.toList[k*st+j]?=some v:=by simpa using hv
    exact⟨qzcy hf2 h1 v (Gb9 hv'),(hf2.2 _ x v hx hv').mono hle⟩
   ·cases hx
  ·refine .vec _ _ _ _ _ rfl (by rw[he];exact Gcy _) (fun _=>qzho hblk hbo hcp (Gcy _))
end
section
variable {E:Nat->AVal}{P:Program}{g:Gh}{h:qzl}{w:World}{t:List AVal}{a:Act}
theorem qzo1{ft:TypeId}{agg:Bool}{sz:Nat}(hq:yzl P ft=some agg)(hs:agg=true->szOf P ft=some sz)(h1:agg=false->sz=1)(w:World)(cs:Array Value)(off:Nat)(hb:off+sz<=cs.size) : (part ft cs off).run P w=.ok (if agg then .agg ((cs.toList.drop off).take sz).toArray else((cs.toList.drop off).take sz).getD 0 undef) w:=by
 simp only[part,Sem.run_bind,qzq2 hq,Result.andThen_ok];cases agg with
 |true =>
  have e:cs.extract off (off+sz)=((cs.toList.drop off).take sz).toArray:=by apply Array.ext';simp[Array.toList_extract,List.extract]
  simp[kzt (hs rfl),e]
 |false =>
  obtain rfl:=h1 rfl;have:off<cs.size:=by omega
  simp[this,List.getD]
theorem qzuz{o:Oper}{ty ft:TypeId}{f off sz:Nat}{agg:Bool}{x:Operand}{x':AArg}(H:HR E g h w)(ht:RVs g w t a.tmps.toList)(ho:o.op=.field ty x f)(hx:qzm x x'=true)(hf:qzeb P ty f=some (off,ft)) (hq:yzl P ft=some agg) (hs:agg=true->szOf P ft=some sz)(hok:((AOp.field agg off sz x').req (argv E t) h).ok):Ran E P (execOp a.eval o) g h w ((AOp.field agg off sz x').req (argv E t) h):=by
 have rx:=qzp H ht hx;simp only[AOp.req]at hok ⊢;generalize argv E t x'=X at *;cases X<;>simp only[Req.fail]at hok;rename_i l;obtain⟨hb,h1⟩:off+sz<=l.length/\(agg=false->sz=1):=hok;generalize hv:a.eval x=v at rx;cases rx with
 |agg _ arr hn hr =>
  have hrv:RVs g w l arr.toList:=⟨by simpa using hn,fun i x v hx hv=>hr i x v hx (by simpa using hv)⟩;unfold qzeb at hf;split at hf
  ·rename_i fs hu;cases hqf:fs[f]? with
   |none=>simp[hqf]at hf
   |some fld =>simp only[hqf,Gdo,Gdq,Gdr]at hf;obtain⟨rfl,rfl⟩:=hf;refine Ran.same H (v:=if agg then .agg ((arr.toList.drop fld.offset).take sz).toArray else((arr.toList.drop fld.offset).take sz).getD 0 undef) ?_ (qzs5 hrv h1 hb);simp only[execOp,ho,hv,Sem.run_bind,Instr.field,run_underlying hu,Result.andThen_ok,hqf,asAgg,Sem.run_pure,qzo1 hq hs h1 w arr fld.offset (by omega)]
  ·cases hf
theorem jzdb{o:Oper}{ty e:TypeId}{agg:Bool}{n sz:Nat}{x i:Operand}{x' i':AArg}(H:HR E g h w)(ht:RVs g w t a.tmps.toList)(ho:o.op=.index ty x i)(hx:qzm x x'=true)(hi:qzm i i'=true)(hu:P.underlying ty=some (.array n e)) (hq:yzl P e=some agg) (hs:szOf P e=some sz)(hok:((AOp.aidx agg n sz x' i').req (argv E t) h).ok):Ran E P (execOp a.eval o) g h w ((AOp.aidx agg n sz x' i').req (argv E t) h):=by
 have rx:=qzp H ht hx;have ri:=qzp H ht hi;simp only[AOp.req]at hok ⊢;generalize argv E t x'=X at *;generalize argv E t i'=I at *;cases X<;>(try simp only[Req.fail]at hok);rename_i l;cases I<;>simp only[Req.fail]at hok;rename_i k j;obtain⟨h0,h1,hb,h2⟩:0<=j/\j<n/\j.toNat*sz+sz<=l.length/\(agg=false->sz=1):=hok;generalize hv:a.eval x=v at rx;generalize hj:a.eval i=u at ri;obtain rfl:=jzy ri;cases rx with
 |agg _ arr hn hr =>have hrv:RVs g w l arr.toList:=⟨by simpa using hn,fun i x v hx hv=>hr i x v hx (by simpa using hv)⟩;refine Ran.same H (v:=if agg then .agg ((arr.toList.drop (j.toNat*sz)).take sz).toArray else((arr.toList.drop (j.toNat*sz)).take sz).getD 0 undef) ?_ (qzs5 hrv h2 hb);simp only[execOp,ho,hv,hj,Sem.run_bind,Instr.index,asIntOf,run_underlying hu,Result.andThen_ok,Sem.run_pure,Gd4 (And.intro h0 h1),kzt hs,qzo1 hq (fun _=>hs) h2 w arr (j.toNat*sz) (by omega)]
def qzc9:AVal->AVal->Option Bool
 |.int k a,.int k' b=>if k=k' then some (decide (a=b)) else none
 |.bool a,.bool b=>some (a==b)
 |.str a,.str b=>some (decide (a=b))
 |_,_=>none
theorem qze8(x y:AVal)(l m:List AVal):wzd (x :: l) (y :: m)=(match qzc9 x y,wzd l m with | some c,some e=>some (c&&e) | _,_=>none):=by cases x<;>cases y<;>simp only[wzd,qzc9]<;>(try (cases wzd l m<;>rfl));rename_i k a k' b;cases wzd l m<;>by_cases e:k=k'<;>simp[e]
theorem qzf4:∀{l m:List AVal} {e:Bool},wzd l m=some e->l.length=m.length
 |[],[],_,_=>rfl
 |x :: l,y :: m,e,h=>by
  rw[qze8]at h;cases hc:qzc9 x y with
  |none=>simp[hc]at h
  |some c =>
   cases he:wzd l m with
   |none=>simp[hc,he]at h
   |some e'=>simp[qzf4 he]
 |[],_ :: _,_,h=>by simp[wzd]at h
 |_ :: _,[],_,h=>by simp[wzd]at h
theorem qzlz:∀{l m:List AVal} {e:Bool} (k:Nat),k<=l.length->wzd l m=some e->∃e1 e2,wzd (l.take k) (m.take k)=some e1/\wzd (l.drop k) (m.drop k)=some e2/\e=(e1&&e2)
 |l,m,e,0,_,h=>⟨true,e,by simp[wzd],by simpa using h,by simp⟩
 |[],m,e,k+1,hk,h=>by simp at hk
 |x :: l,[],e,k+1,hk,h=>by simp[wzd]at h
 |x :: l,y :: m,e,k+1,hk,h=>by
  rw[qze8]at h;cases hc:qzc9 x y with
  |none=>simp[hc]at h
  |some c =>
   cases he:wzd l m with
   |none=>simp[hc,he]at h
   |some e' =>simp only[hc,he,Gdq]at h;subst h;obtain⟨e1,e2,h1,h2,rfl⟩:=qzlz k (by simpa using hk) he;exact⟨c&&e1,e2,by simp[qze8,hc,h1],by simpa using h2,by simp[Bool.and_assoc]⟩
theorem qzwj{x y:AVal}{u v:Value}{c:Bool}(hc:qzc9 x y=some c)(hx:RV g w x u)(hy:RV g w y v) : (∃k a b,u=.int k a/\v=.int k b/\c=decide (a=b))\/(∃a b,u=.bool a/\v=.bool b/\c=(a==b))\/(∃a b:ByteArray,u=.string a/\v=.string b/\c=(a==b)):=by
 cases x<;>cases y<;>simp only[qzc9]at hc<;>(try (cases hc;done))
 ·split at hc;·rename_i e;subst e;obtain rfl:=Gdp hc;exact .inl ⟨_,_,_,jzy hx,jzy hy,rfl⟩
  ·cases hc
 ·obtain rfl:=Gdp hc;exact .inr (.inl ⟨_,_,qzaj hx,qzaj hy,rfl⟩)
 ·obtain rfl:=Gdp hc;obtain⟨b1,rfl,e1⟩:=qze4 hx;obtain⟨b2,rfl,e2⟩:=qze4 hy;refine .inr (.inr ⟨b1,b2,rfl,rfl,?_⟩);rw[<-e1,<-e2,beq_toListBytes,bytes_beq]
theorem qzoj{t:TypeId}{fs:Array Field}(hu:P.underlying t=some (.struct fs)):P.fieldsOf t=fs:=by simp[Program.fieldsOf,hu]
def qzno(agg:Bool)(cs:List Value):Value:=if agg then .agg cs.toArray else cs.getD 0 undef
theorem jzar{t:TypeId}{n:Nat}(h:szOf P t=some n):∃i,P.info? t=some i/\P.cellsOf t=n:=by
 unfold szOf at h;cases hi:P.info? t with
 |none=>simp[hi]at h
 |some i=>simp[hi]at h;exact⟨i,rfl,by simp[Program.cellsOf,hi,h]⟩
theorem qzn7:∀(d:Nat) (t:TypeId) (sh:List Nat),eqFields P d t=some sh->∃agg,yzl P t=some agg/\(agg=false->sh.length=1) /\ ∀(D:Nat),d<=D->∀(l m:List AVal) (xs ys:List Value) (e:Bool) (w':World),l.map AVal.kind=sh->RVs g w l xs->RVs g w m ys->wzd l m=some e -> (Op.equalIn D t (qzno agg xs) (qzno agg ys)).run P w'=.ok e w':=by
 intro d;induction d with
 |zero=>intro t sh h;simp[eqFields]at h
 |succ d ih =>
  intro t sh h
  have one:∀(k:Nat) (l m:List AVal) (xs ys:List Value) (e:Bool),l.map AVal.kind=[k]->RVs g w l xs->RVs g w m ys->wzd l m=some e -> ∃x y u v,qzno false xs=u/\qzno false ys=v/\qzc9 x y=some e/\RV g w x u/\RV g w y v/\x.kind=k:=by
   intro k l m xs ys e hl hx hy he;have hlm:=qzf4 he;have hll:l.length=1:=by have:=Gdv List.length hl;simpa using this
   have hxl:=hx.1;have hyl:=hy.1;obtain⟨x,rfl⟩:=List.length_eq_one_iff.1 hll;obtain⟨y,rfl⟩:=List.length_eq_one_iff.1 (hlm.symm.trans hll);obtain⟨u,rfl⟩:=List.length_eq_one_iff.1 hxl;obtain⟨v,rfl⟩:=List.length_eq_one_iff.1 hyl;refine⟨x,y,u,v,rfl,rfl,?_,hx.2 0 x u rfl rfl,hy.2 0 y v rfl rfl,by simpa using hl⟩;rw[qze8]at he;cases hc:qzc9 x y with
   |none=>simp[hc]at he
   |some c=>simpa [hc,wzd] using he
  have kinds:∀{x y:AVal} {u v:Value} {c:Bool} {k:Nat},qzc9 x y=some c->RV g w x u->RV g w y v->x.kind=k -> (k=1->∃q a b,u=.int q a/\v=.int q b/\c=decide (a=b))/\(k=0->∃a b,u=.bool a/\v=.bool b/\c=(a==b))/\(k=2->∃a b:ByteArray,u=.string a/\v=.string b/\c=(a==b)):=by
   intro x y u v c k hc rx ry hk;subst hk;rcases qzwj hc rx ry with ⟨q,a,b,rfl,rfl,rfl⟩|⟨a,b,rfl,rfl,rfl⟩|⟨a,b,rfl,rfl,rfl⟩
   ·refine⟨fun _=>⟨q,a,b,rfl,rfl,rfl⟩,fun h=>?_,fun h=>?_⟩<;>(cases x<;>simp[AVal.kind]at h<;>cases rx)
   ·refine⟨fun h=>?_,fun _=>⟨a,b,rfl,rfl,rfl⟩,fun h=>?_⟩<;>(cases x<;>simp[AVal.kind]at h<;>cases rx)
   ·refine⟨fun h=>?_,fun h=>?_,fun _=>⟨a,b,rfl,rfl,rfl⟩⟩<;>(cases x<;>simp[AVal.kind]at h<;>cases rx)
  simp only[eqFields]at h;cases hu:P.underlying t with
  |none=>simp[hu]at h
  |some q =>
   simp only[hu]at h;cases q<;>simp only at h<;>(try (cases h;done))
   case bool =>obtain rfl:=Gdp h;refine⟨false,by simp[yzl,hu],fun _=>rfl,fun D hD l m xs ys e w' hl hx hy he=>?_⟩;obtain⟨D,rfl⟩:∃D',D=D'+1:=⟨D-1,by omega⟩;obtain⟨x,y,u,v,e1,e2,hc,rx,ry,hk⟩:=one 0 l m xs ys e hl hx hy he;obtain⟨a,b,rfl,rfl,rfl⟩:=(kinds hc rx ry hk).2.1 rfl;rw[e1,e2];exact run_equalIn_bool' w' D t a b hu
   case int k =>obtain rfl:=Gdp h;refine⟨false,by simp[yzl,hu],fun _=>rfl,fun D hD l m xs ys e w' hl hx hy he=>?_⟩;obtain⟨D,rfl⟩:∃D',D=D'+1:=⟨D-1,by omega⟩;obtain⟨x,y,u,v,e1,e2,hc,rx,ry,hk⟩:=one 1 l m xs ys e hl hx hy he;obtain⟨q,a,b,rfl,rfl,rfl⟩:=(kinds hc rx ry hk).1 rfl;rw[e1,e2,run_equalIn_int w' D t q k a b hu];rfl
   case string =>obtain rfl:=Gdp h;refine⟨false,by simp[yzl,hu],fun _=>rfl,fun D hD l m xs ys e w' hl hx hy he=>?_⟩;obtain⟨D,rfl⟩:∃D',D=D'+1:=⟨D-1,by omega⟩;obtain⟨x,y,u,v,e1,e2,hc,rx,ry,hk⟩:=one 2 l m xs ys e hl hx hy he;obtain⟨a,b,rfl,rfl,rfl⟩:=(kinds hc rx ry hk).2.2 rfl;rw[e1,e2,run_equalIn_string w' D t a b hu,beq_toListBytes]
   case struct fs =>
    split at h
    ·cases h
    ·rename_i hst;refine⟨true,by simp[yzl,hu],(fun e=>by cases e),fun D hD l m xs ys e w' hl hx hy he=>?_⟩;obtain⟨D,rfl⟩:∃D',D=D'+1:=⟨D-1,by omega⟩;have ht:P.underlying t=some (.struct (P.fieldsOf t)):=by rw[qzoj hu];exact hu
     show(Op.equalIn (D+1) t (.agg xs.toArray) (.agg ys.toArray)).run P w'=_;rw[run_equalIn_struct w' D t _ _ ht (by simpa using hst),qzoj hu]
     have go:∀(fl:List Field) (n:Nat) (sh:List Nat) (l m:List AVal) (e:Bool),qzc7 P (eqFields P d) fl n=some sh->l.map AVal.kind=sh->RVs g w l (xs.drop n)->RVs g w m (ys.drop n)->wzd l m=some e -> (Op.eqFields D xs.toArray ys.toArray fl).run P w'=.ok e w':=by
      intro fl;induction fl with
      |nil =>
       intro n sh l m e h1 h2 h3 h4 h5;simp only[qzc7,Gdq]at h1;subst h1;have:l=[]:=by simpa using h2
       subst this;have:m=[]:=by have:=qzf4 h5;simpa using this.symm
       subst this;simp only[wzd,Gdq]at h5;subst h5;simp[Op.eqFields]
      |cons f fl ihf =>
       intro n sh l m e h1 h2 h3 h4 h5;simp only[qzc7]at h1;split at h1
       ·rename_i hcond;obtain⟨hoff,hnm⟩:=hcond;cases hm:eqFields P d f.type with
        |none=>simp[hm]at h1
        |some sm =>
         simp only[hm]at h1;split at h1
         ·rename_i hsz0;obtain⟨hsz,hpos⟩:=hsz0;cases hg:qzc7 P (eqFields P d) fl (n+sm.length) with
          |none=>simp[hg]at h1
          |some sl =>
           simp only[hg,Gdq]at h1;subst h1;have hll:l.length=sm.length+sl.length:=by have:=Gdv List.length h2;simpa using this
           obtain⟨c1,c2,q1,q2,rfl⟩:=qzlz sm.length (by omega) h5;obtain⟨agg,hagg,h1',hrun⟩:=ih f.type sm hm;have hlm:=qzf4 h5;have hxl:=h3.1;have hyl:=h4.1;simp only[Gbs]at hxl hyl;have px:=qzo1 (P:=P) hagg (fun _=>hsz) h1' w' xs.toArray n (by simp;omega);have py:=qzo1 (P:=P) hagg (fun _=>hsz) h1' w' ys.toArray n (by simp;omega);have hx1:RVs g w (l.take sm.length) ((xs.drop n).take sm.length):=h3.take _;have hy1:RVs g w (m.take sm.length) ((ys.drop n).take sm.length):=h4.take _;have k1:(l.take sm.length).map AVal.kind=sm:=by rw[List.map_take,h2];simp
           have k2:(l.drop sm.length).map AVal.kind=sl:=(by rw[List.map_drop,h2];simp);have he1:=hrun D (by omega) _ _ _ _ c1 w' k1 hx1 hy1 q1;have hx2:RVs g w (l.drop sm.length) (xs.drop (n+sm.length)):=(by have:=h3.drop sm.length;rwa [Ga3]at this);have hy2:RVs g w (m.drop sm.length) (ys.drop (n+sm.length)):=(by have:=h4.drop sm.length;rwa [Ga3]at this);have he2:=ihf (n+sm.length) sl _ _ c2 hg k2 hx2 hy2 q2;simp only[qzno]at he1;simp only[Op.eqFields,Gd4 hnm,Sem.run_bind,hoff,px,py,Result.andThen_ok,he1];cases c1 with
           |true=>simpa using he2
           |false=>simp
         ·cases h1
       ·cases h1
     exact go fs.toList 0 sh l m e h hl (by simpa using hx) (by simpa using hy) he
   case array n el =>
    cases hm:eqFields P d el with
    |none=>simp[hm]at h
    |some sm =>
     simp only[hm]at h;split at h
     ·rename_i hsz0;obtain⟨hsz,hpos⟩:=hsz0;obtain rfl:=Gdp h;obtain⟨agg,hagg,h1',hrun⟩:=ih el sm hm;refine⟨true,by simp[yzl,hu],(fun e=>by cases e),fun D hD l m xs ys e w' hl hx hy he=>?_⟩;obtain⟨D,rfl⟩:∃D',D=D'+1:=⟨D-1,by omega⟩;obtain⟨ti,hti,hci⟩:=jzar hsz;show(Op.equalIn (D+1) t (.agg xs.toArray) (.agg ys.toArray)).run P w'=_;rw[run_equalIn_array w' D _ _ hu hti,hci]
      have go:∀(n k:Nat) (l m:List AVal) (e:Bool),l.map AVal.kind=(List.replicate n sm).flatten->RVs g w l (xs.drop (k*sm.length))->RVs g w m (ys.drop (k*sm.length))->wzd l m=some e -> (Op.eqItems D el sm.length xs.toArray ys.toArray (List.range' k n)).run P w'=.ok e w':=by
       intro n;induction n with
       |zero =>
        intro k l m e h2 h3 h4 h5;have:l=[]:=by simpa using h2
        subst this;have:m=[]:=by have:=qzf4 h5;simpa using this.symm
        subst this;simp only[wzd,Gdq]at h5;subst h5;simp[Op.eqItems]
       |succ n ihn =>
        intro k l m e h2 h3 h4 h5;rw[List.replicate_succ,List.flatten_cons]at h2;have hll:sm.length<=l.length:=by have:=Gdv List.length h2;simp only[Gbu,Gbq]at this;omega
        obtain⟨c1,c2,q1,q2,rfl⟩:=qzlz sm.length hll h5;have hlm:=qzf4 h5;have hxl:=h3.1;have hyl:=h4.1;simp only[Gbs]at hxl hyl;have px:=qzo1 (P:=P) hagg (fun _=>hsz) h1' w' xs.toArray (k*sm.length) (by simp;omega);have py:=qzo1 (P:=P) hagg (fun _=>hsz) h1' w' ys.toArray (k*sm.length) (by simp;omega);have hx1:RVs g w (l.take sm.length) ((xs.drop (k*sm.length)).take sm.length):=h3.take _;have hy1:RVs g w (m.take sm.length) ((ys.drop (k*sm.length)).take sm.length):=h4.take _;have k1:(l.take sm.length).map AVal.kind=sm:=by rw[List.map_take,h2];simp
        have k2:(l.drop sm.length).map AVal.kind=(List.replicate n sm).flatten:=(by rw[List.map_drop,h2];simp);have he1:=hrun D (by omega) _ _ _ _ c1 w' k1 hx1 hy1 q1;have e2:k*sm.length+sm.length=(k+1)*sm.length:=(by rw[Gcm,Nat.one_mul]);have hx2:RVs g w (l.drop sm.length) (xs.drop ((k+1)*sm.length)):=(by have:=h3.drop sm.length;rwa [Ga3,e2]at this);have hy2:RVs g w (m.drop sm.length) (ys.drop ((k+1)*sm.length)):=(by have:=h4.drop sm.length;rwa [Ga3,e2]at this);have he2:=ihn (k+1) _ _ c2 k2 hx2 hy2 q2;simp only[qzno]at he1;simp only[List.range'_succ,Op.eqItems,Sem.run_bind,px,py,Result.andThen_ok,he1];cases c1 with
        |true=>simpa using he2
        |false=>simp
      rw[List.range_eq_range'];exact go n 0 l m e hl (by simpa using hx) (by simpa using hy) he
     ·cases h
theorem wz7q:∀{l m:List AVal} {xs ys:List Value},RVs g w l xs->RVs g w m ys->wzd l m=some true->xs=ys
 |[],m,xs,ys,hx,hy,h=>by have:=qzf4 h;have h1:=hx.1;have h2:=hy.1;have e1:xs=[]:=Ga6 (by simpa using h1);have e2:ys=[]:=Ga6 (by simp at this;omega);rw[e1,e2]
 |x :: l,[],xs,ys,hx,hy,h=>by simp[wzd]at h
 |x :: l,y :: m,xs,ys,hx,hy,h=>by
  cases xs with
  |nil=>have:=hx.1;simp at this
  |cons u xs =>
   cases ys with
   |nil=>have:=hy.1;simp at this
   |cons v ys =>
    rw[qze8]at h;cases hc:qzc9 x y with
    |none=>simp[hc]at h
    |some c =>
     cases he:wzd l m with
     |none=>simp[hc,he]at h
     |some e' =>
      simp only[hc,he,Gdq,Gai]at h;obtain⟨rfl,rfl⟩:=h;have e1:xs=ys:=wz7q (l:=l) (m:=m) (by have:=hx.drop 1;simpa using this) (by have:=hy.drop 1;simpa using this) he
      have e2:u=v:=by
       rcases qzwj hc (hx.2 0 x u rfl rfl) (hy.2 0 y v rfl rfl) with ⟨k,a,b,rfl,rfl,e⟩|⟨a,b,rfl,rfl,e⟩|⟨a,b,rfl,rfl,e⟩
       ·simp at e;rw[e]
       ·simp at e;rw[e]
       ·rw[beq_toListBytes,bytes_beq]at e;have e:a.data.toList=b.data.toList:=(by simpa using e);have:a=b:=(by obtain⟨⟨a⟩⟩:=a;obtain⟨⟨b⟩⟩:=b;simp at e;rw[e]);rw[this]
      rw[e1,e2]
theorem wz7n:∀(d:Nat) (t:TypeId) (sh:List Nat),eqFields P d t=some sh->∃agg,yzl P t=some agg/\(agg=false->sh.length=1) /\
  ∀(D:Nat),d<=D->∀(xs:List Value) (em:Bool) (w':World),xs.length=sh.length->(Instr.checkKey em D t (qzno agg xs)).run P w'=.ok () w':=by
 intro d
 induction d with
 |zero=>intro t sh h;simp[eqFields]at h
 |succ d ih =>
  intro t sh h
  simp only[eqFields]at h
  cases hu:P.underlying t with
  |none=>simp[hu]at h
  |some q =>
   simp only[hu]at h
   cases q<;>simp only at h<;>(try (cases h;done))
   case struct fs =>
    split at h
    ·cases h
    ·rename_i hst
     refine⟨true,by simp[yzl,hu],(fun e=>by cases e),fun D hD xs em w' hl=>?_⟩
     obtain⟨D,rfl⟩:∃D',D=D'+1:=⟨D-1,by omega⟩
     show(Instr.checkKey em (D+1) t (.agg xs.toArray)).run P w'=_
     unfold Instr.checkKey
     simp only[Sem.run_bind,run_underlying hu,Result.andThen_ok]
     rw[<-Array.forIn_toList]
     have go:∀(fl:List Field) (n:Nat) (sh:List Nat),qzc7 P (eqFields P d) fl n=some sh->n+sh.length<=xs.length ->
       (forIn fl PUnit.unit (fun(f:Field) (r:PUnit)=>(do
        if f.name ≠ "_" then do
         Instr.checkKey em D f.type (<-part f.type xs.toArray f.offset)
         pure (ForInStep.yield PUnit.unit)
        else pure (ForInStep.yield PUnit.unit):Sem (ForInStep PUnit)))).run P w'=.ok PUnit.unit w':=by
      intro fl
      induction fl with
      |nil=>intro n sh h1 h2;simp
      |cons f fl ihf =>
       intro n sh h1 h2
       simp only[qzc7]at h1
       split at h1
       ·rename_i hcond
        obtain⟨hoff,hnm⟩:=hcond
        cases hm:eqFields P d f.type with
        |none=>simp[hm]at h1
        |some sm =>
         simp only[hm]at h1
         split at h1
         ·rename_i hsz0
          obtain⟨hsz,hpos⟩:=hsz0
          cases hg:qzc7 P (eqFields P d) fl (n+sm.length) with
          |none=>simp[hg]at h1
          |some sl =>
           simp only[hg,Gdq]at h1
           subst h1
           simp only[Gbq]at h2
           obtain⟨agg,hagg,h1',hrun⟩:=ih f.type sm hm
           have px:=qzo1 (P:=P) hagg (fun _=>hsz) h1' w' xs.toArray n (by simp;omega)
           have he1:=hrun D (by omega) ((xs.drop n).take sm.length) em w' (by simp;omega)
           have he2:=ihf (n+sm.length) sl hg (by omega)
           simp only[qzno]at he1
           simp only[List.forIn_cons,Sem.run_bind,Gd4 hnm,hoff,px,Result.andThen_ok,he1,Sem.run_pure]
           exact he2
         ·cases h1
       ·cases h1
     rw[go fs.toList 0 sh h (by omega)];simp
   case array n el =>
    cases hm:eqFields P d el with
    |none=>simp[hm]at h
    |some sm =>
     simp only[hm]at h
     split at h
     ·rename_i hsz0
      obtain⟨hsz,hpos⟩:=hsz0
      obtain rfl:=Gdp h
      obtain⟨agg,hagg,h1',hrun⟩:=ih el sm hm
      refine⟨true,by simp[yzl,hu],(fun e=>by cases e),fun D hD xs em w' hl=>?_⟩
      obtain⟨D,rfl⟩:∃D',D=D'+1:=⟨D-1,by omega⟩
      show(Instr.checkKey em (D+1) t (.agg xs.toArray)).run P w'=_
      unfold Instr.checkKey
      simp only[Sem.run_bind,run_underlying hu,Result.andThen_ok]
      simp only[Std.Legacy.Range.forIn_eq_forIn_range',Std.Legacy.Range.size,Nat.sub_zero,Nat.add_one_sub_one,Nat.div_one]
      have go:∀(n k:Nat),(k+n)*sm.length<=xs.length ->
        (forIn (List.range' k n) PUnit.unit (fun(i:Nat) (r:PUnit)=>(do
         Instr.checkKey em D el (<-part el xs.toArray (i*(<-sizeOf el)))
         pure (ForInStep.yield PUnit.unit):Sem (ForInStep PUnit)))).run P w'=.ok PUnit.unit w':=by
       intro n
       induction n with
       |zero=>intro k h2;simp
       |succ n ihn =>
        intro k h2
        have e2:k*sm.length+sm.length<=xs.length:=by
         refine Gc0 ?_ h2
         rw[<-Gdj]
         exact Gdc _ (by omega)
        have px:=qzo1 (P:=P) hagg (fun _=>hsz) h1' w' xs.toArray (k*sm.length) (by simp;omega)
        have he1:=hrun D (by omega) ((xs.drop (k*sm.length)).take sm.length) em w' (by simp;omega)
        have he2:=ihn (k+1) (by rwa [show k+1+n=k+(n+1) by omega])
        simp only[qzno]at he1
        simp only[List.range'_succ,List.forIn_cons,Sem.run_bind,kzt hsz,px,Result.andThen_ok,he1,Sem.run_pure]
        exact he2
      have hlen:(0+n)*sm.length<=xs.length:=by
       rw[hl,Gdk];simp
      rw[go n 0 hlen];simp
     ·cases h
   all_goals
    obtain rfl:=Gdp h
    refine⟨false,by simp[yzl,hu],fun _=>rfl,fun D hD xs em w' hl=>?_⟩
    obtain⟨D,rfl⟩:∃D',D=D'+1:=⟨D-1,by omega⟩
    generalize qzno false xs=v
    unfold Instr.checkKey
    simp only[Sem.run_bind,run_underlying hu,Result.andThen]
    cases v<;>rfl
theorem qzoa{o:Oper}{ty yt:TypeId}{ng:Bool}{sh:List Nat}{fs:Array Field}{x y:Operand}{x' y':AArg}(H:HR E g h w)(ht:RVs g w t a.tmps.toList)(ho:o.op=.binOp (if ng then .neq else .eql) ty x y yt)(hx:qzm x x'=true)(hy:qzm y y'=true)(hg:P.eqGuardType P.depth ty=false) (hs:eqFields P 9 ty=some sh) (hu:P.underlying ty=some (.struct fs))(hok:((AOp.eqagg sh ng x' y').req (argv E t) h).ok):Ran E P (execOp a.eval o) g h w ((AOp.eqagg sh ng x' y').req (argv E t) h):=by
 have rx:=qzp H ht hx;have ry:=qzp H ht hy;simp only[AOp.req]at hok ⊢;generalize argv E t x'=X at *;generalize argv E t y'=Y at *;generalize hvx:a.eval x=u at rx;generalize hvy:a.eval y=v at ry;cases X<;>(try simp only[Req.fail]at hok)
 case agg l =>
  cases Y<;>(try simp only[Req.fail]at hok);rename_i m;cases he:wzd l m with
  |none=>simp only[he]at hok
  |some e =>
   simp only[he]at hok ⊢;have hok:l.map AVal.kind=sh:=hok;cases rx with
   |agg _ xs hnx hrx =>
    cases ry with
    |agg _ ys hny hry =>
     have hxs:RVs g w l xs.toList:=⟨by simpa using hnx,fun i x v hx hv=>hrx i x v hx (by simpa using hv)⟩;have hys:RVs g w m ys.toList:=⟨by simpa using hny,fun i x v hx hv=>hry i x v hx (by simpa using hv)⟩;obtain⟨agg,hagg,_,hrun⟩:=qzn7 (P:=P) (g:=g) (w:=w) 9 ty sh hs;obtain rfl:agg=true:=(by simp only[yzl,hu,Gdo,Gdq]at hagg;exact hagg.symm);have hq:=hrun 10000 (by omega) l m _ _ e w hok hxs hys he;simp only[qzno,Gd5,Gah]at hq;cases ng with
     |false =>refine Ran.same H (v:=.bool e) ?_ (.bool _);simp only[Gan,Gd2]at ho;simp only[execOp,ho,hvx,hvy,Sem.run_bind,run_eqGuard_agg w .eql ty x y xs ys hg,Result.andThen_ok,run_eql_struct,hq,Sem.run_pure]
     |true =>refine Ran.same H (v:=.bool (!e)) ?_ (.bool _);simp only[Gd5]at ho;simp only[execOp,ho,hvx,hvy,Sem.run_bind,run_eqGuard_agg w .neq ty x y xs ys hg,Result.andThen_ok,run_neq_struct,hq,Sem.run_pure]
end
section
variable {E:Nat->AVal}{P:Program}{g:Gh}{h:qzl}{w:World}{t:List AVal}{a:Act}
def wzh(st m:Nat)(vals:Nat->Nat->Value):List Value:=(List.range (m*st)).map fun q=>vals (q / st) (q%st)
theorem qz2(st m:Nat)(vals:Nat->Nat->Value):(wzh st m vals).length=m*st:=by simp[wzh]
theorem qzft{st m:Nat}{vals:Nat->Nat->Value}{k j:Nat}(hk:k<m)(hj:j<st):(wzh st m vals)[k*st+j]?=some (vals k j):=by
 have hb:k*st+j<m*st:=by have:(k+1)*st<=m*st:=Gdc _ hk;rw[Gdj]at this;omega
 have h0:0<st:=by omega
 rw[wzh,Gbh,Gbj hb];simp only[Gdo];rw[Gda k st,Nat.mul_add_div h0,Nat.div_eq_of_lt hj,Gc8,Gc5 hj,Gcn]
theorem qzce{st m:Nat}{vals:Nat->Nat->Value}{q:Nat}{v:Value}(hq:(wzh st m vals)[q]?=some v):∃k j,k<m/\j<st/\q=k*st+j/\v=vals k j:=by
 have hlt:q<m*st:=by have:=(Gbg.1 hq).1;simpa [wzh] using this
 have h0:0<st:=by
  rcases Gct st with e|e
  ·rw[e]at hlt;simp at hlt
  ·exact e
 have hk:q / st<m:=by rw[Nat.div_lt_iff_lt_mul h0];exact hlt
 have hj:q%st<st:=Nat.mod_lt _ h0;refine⟨q / st,q%st,hk,hj,by rw[Gda];exact(Nat.div_add_mod q st).symm,?_⟩;rw[wzh,Gbh,Gbj hlt]at hq;simpa using hq.symm
structure qzsj(g:Gh)(w:World)(st m:Nat)(f:Nat->List AVal)(v:Value)(vals:Nat->Nat->Value):Prop where
 val:∃ad cap,v=.slice ad m cap/\m<=cap/\(m=0\/∃b off,ad=some ⟨b,off,none⟩/\∀k j,k<m->j<st->w.cell? ⟨b,off+(k*st+j),none⟩=some (vals k j))
 len:∀k,k<m->(f k).length=st
 one:∀k j,k<m->j<st->(vals k j).oneCell'=true
 rv:∀(k j:Nat) (x:AVal),k<m->(f k)[j]?=some x->RV g w x (vals k j)
theorem qzmq{st:Nat}{Y:AVal}{v:Value}(H:HR E g h w)(hv:RV g w Y v)(hok:(qz5 st Y h).ok)(hst:(qz5 st Y h).st=st):∃vals,qzsj g w st (qz5 st Y h).n (qz5 st Y h).f v vals:=by
 unfold qz5 at hok hst ⊢;cases Y<;>simp only at hok hst<;>(try (exact hok.elim))
 case nils =>cases hv;exact⟨fun _ _=>undef,⟨none,0,rfl,Gcy _,.inl rfl⟩,fun k hk=>absurd hk (Gde _),fun k j hk=>absurd hk (Gde _),fun k j x hk=>absurd hk (Gde _)⟩
 case slc st' n f =>
  subst hst;cases hv with
  |slc0 _ _ ad cap=>exact⟨fun _ _=>undef,⟨ad,cap,rfl,Gdl _,.inl rfl⟩,fun k hk=>absurd hk (Gde _),fun k j hk=>absurd hk (Gde _),fun k j x hk=>absurd hk (Gde _)⟩
  |slc _ _ _ b off cap vals hz hcap hl hc h1 hr =>exact⟨vals,⟨_,cap,rfl,hcap,.inr ⟨b,off,rfl,fun k j hk hj=>by rw[<-Gcl];exact hc k j hk hj⟩⟩,hl,h1,hr⟩
 case vec id ep lo n =>
  have hO:=H.obj id;cases hh:h id<;>simp only[hh]at hok hst hO ⊢<;>(try (exact hok.elim));rename_i ep' st' m f;subst hst;obtain⟨he,hle⟩:=hok;obtain⟨hst',h0,hn,arr,ty,hr,hfit,hel⟩:=hO;obtain⟨ad,cap,e1,hcap,hc⟩:=qzew H hv (by rw[hh];exact he);have hbound:∀k j,k<n->j<st'->g.bo id+(lo+k)*st'+j<arr.size:=fun k j hk hj=>by have:(lo+k+1)*st'<=g.cp id*st':=Gdc _ (by omega);rw[Gdj]at this;omega
  refine⟨fun k j=>arr.getD (g.bo id+(lo+k)*st'+j) undef,⟨some ad,cap,e1,hcap,?_⟩,fun k hk=>(hel (lo+k) (by omega)).1,fun k j hk hj=>?_,fun k j x hk hx=>?_⟩
  ·rcases Gct n with e|e;·exact .inl e
   ·rcases hc with hc0|⟨rfl,hc⟩;·omega
    ·refine .inr ⟨_,_,rfl,fun k j hk hj=>?_⟩;have hb:=hbound k j hk hj;have e2:g.bo id+lo*g.st id+(k*st'+j)=g.bo id+(lo+k)*st'+j:=(by rw[hst',Gcm];omega);simp[World.cell?,hr,e2,hb]
  ·have hb:=hbound k j hk hj;have hlen:=(hel (lo+k) (by omega)).1;have:=(hel (lo+k) (by omega)).2 j _ (arr.getD (g.bo id+(lo+k)*st'+j) undef) (Gbe (by omega)) (by simp[hb]);exact this.1
  ·have hlen:=(hel (lo+k) (by omega)).1;have hj:j<st':=by have:=(Gbg.1 hx).1;omega
   have hb:=hbound k j hk hj;exact((hel (lo+k) (by omega)).2 j x (arr.getD (g.bo id+(lo+k)*st'+j) undef) hx (by simp[hb])).2
theorem qzsj.news{st m:Nat}{f:Nat->List AVal}{v:Value}{vals:Nat->Nat->Value}(s:qzsj g w st m f v vals)(hm:0<m) : ∃b off cap,v=.slice (some ⟨b,off,none⟩) m cap/\∀q u,(wzh st m vals)[q]?=some u->w.cell? ((⟨b,off,none⟩:Addr).add q)=some u:=by
 obtain⟨ad,cap,e1,_,hc⟩:=s.val;rcases hc with h0|⟨b,off,rfl,hcell⟩
 ·omega
 ·refine⟨b,off,cap,e1,fun q u hq=>?_⟩;obtain⟨k,j,hk,hj,rfl,rfl⟩:=qzce hq;rw[qzcn];exact hcell k j hk hj
theorem wzde{st m:Nat}{f:Nat->List AVal}{v:Value}{vals:Nat->Nat->Value}(s:qzsj g w st m f v vals):∀u∈wzh st m vals,u.oneCell'=true:=by intro u hu;obtain⟨q,hq⟩:=Gb6.1 hu;obtain⟨k,j,hk,hj,rfl,rfl⟩:=qzce hq;exact s.one k j hk hj
theorem qzd6(P:Program)(o:Oper)(U:Operand->Value)(x y:Operand)(tx:TypeId)(u v:Value)(r:Value)(w w':World)(ho:o.op=.call { callee:=.builtin .append,args:=#[x,y],argTypes:=#[tx,tx] })(hx:U x=u)(hy:U y=v)(hr:(Builtin.append_ #[tx,tx] o.type #[u,v]).run P w=.ok r w'):(execOp U o).run P w=.ok (.value r) w':=by simp[execOp,ho,resolve,invoke,builtin,hx,hy,hr]
theorem qzlr{e:TypeId}{i:TypeInfo}{z:Value}(hi:P.info? e=some i)(hz:i.zero=some z){l:List Value}(hl:qz0 P e=some l):l=z.cells.toList:=by obtain⟨⟩:=i;simp only at hz;subst hz;simpa [qz0,hi] using hl.symm
theorem qznw{e:TypeId}{st bytes:Nat}(hs:szOf P e=some st)(hb:byOf P e=some bytes){zl:List Value}(hz:qz0 P e=some zl)(hzl:zl.length=st) : ∃(i:TypeInfo) (z:Value),P.info? e=some i/\i.zero=some z/\i.size=st/\i.bytes=bytes/\z.cells.size=st:=by
 unfold szOf at hs;unfold byOf at hb;cases hi:P.info? e with
 |none=>simp[hi]at hs
 |some i =>
  simp only[hi,Gdo,Gdq]at hs hb;cases hzz:i.zero with
  |none =>obtain⟨⟩:=i;simp only at hzz;subst hzz;simp[qz0,hi]at hz
  |some z =>have:=qzlr hi hzz hz;refine⟨i,z,rfl,hzz,hs,hb,?_⟩;rw[this]at hzl;simpa using hzl
theorem qzow(w:World)(need old:Nat)(e:TypeId):need<=grownCap w need old e:=by simp only[grownCap,Question.cut];omega
theorem qzpu{s ep st n:Nat}{f:Nat->List AVal}{g':Gh}{w':World}{arr:Array Value}{ty:TypeId}{b bo cp:Nat}(h0:0<st)(hblk:g'.blk s=b)(hbo:g'.bo s=bo)(hst:g'.st s=st)(hcp:g'.cp s=cp)(hn:n<=cp)(hrow:w'.heap[b]?=some (.cells arr ty (0,0))) (hsz:bo+cp*st<=arr.size) (hl:∀k,k<n->(f k).length=st)(hc:∀k j,k<n->j<st->∃v,arr[bo+k*st+j]?=some v/\v.oneCell'=true/\∀x,(f k)[j]?=some x->RV g' w' x v):OR g' w' s (.vec ep st n f):=by
 refine⟨hst,h0,by omega,arr,ty,by rw[hblk];exact hrow,by rw[hbo,hcp];exact hsz,fun k hk=>⟨hl k hk,fun j x v hx hv=>?_⟩⟩;have hj:j<st:=by rw[<-hl k hk];exact(Gbg.1 hx).1
 obtain⟨u,hu,h1,h2⟩:=hc k j hk hj;rw[hbo,hu]at hv;obtain rfl:=Gdp hv;exact⟨h1,h2 x hx⟩
theorem qzdl{k n st j:Nat}(hk:k<n)(hj:j<st):k*st+j<n*st:=by have:(k+1)*st<=n*st:=Gdc _ hk;rw[Gdj]at this;omega
theorem qzpa{o:Oper}{x y:Operand}{tx e:TypeId}{s st bytes:Nat}{y':AArg}{zl:List Value}(H:HR E g h w)(ht:RVs g w t a.tmps.toList)(ho:o.op=.call { callee:=.builtin .append,args:=#[x,y],argTypes:=#[tx,tx] })(hy:qzm y y'=true)(hu:P.underlying tx=some (.slice e)) (hs:szOf P e=some st) (hb:byOf P e=some bytes) (hz:qz0 P e=some zl) (hzl:zl.length=st) (hb0:0<bytes) (hx:a.eval x=.slice none 0 0)(hok:(wzu s st bytes .nils (argv E t y') h).ok):Ran E P (execOp a.eval o) g h w (wzu s st bytes .nils (argv E t y') h):=by
 have ry:=qzp H ht hy;generalize argv E t y'=Y at *;simp only[wzu]at hok ⊢;by_cases hn:(qz5 st Y h).n=0
 ·simp only[hn,Gd5]at hok ⊢;obtain⟨vals,src⟩:=qzmq H ry hok.1 hok.2;obtain⟨ad,cap,e1,_,_⟩:=src.val;rw[hn]at e1;obtain⟨i,z,hi,hzz,hsz,hbz,hzs⟩:=qznw hs hb hz hzl;refine Ran.same H (v:=.slice none 0 0) ?_ .nils;cases ad with
  |none=>simp[execOp,ho,hx,e1,resolve,invoke,builtin,Builtin.append_,run_underlying hu,sizeOf,typeInfo,hi,Builtin.lenOf,Builtin.firstCells,Result.andThen]
  |some ad=>simp[execOp,ho,hx,e1,resolve,invoke,builtin,Builtin.append_,run_underlying hu,sizeOf,typeInfo,hi,Builtin.lenOf,Builtin.firstCells,loadCells,loadCellsFrom,Result.andThen]
 simp only[hn,Gd2]at hok ⊢;obtain⟨_,h1,h2,h0,hm,hby⟩:=hok;obtain⟨vals,src⟩:=qzmq H ry h1 h2;obtain⟨b,off,cap,e1,hnews⟩:=src.news hm;obtain⟨i,z,hi,hzz,hsz,hbz,hzs⟩:=qznw hs hb hz hzl;generalize (qz5 st Y h).n=m at *;generalize (qz5 st Y h).f=f at *;have hm63:(m:Int)<=9223372036854775807:=by have:m*1<=m*bytes:=Nat.mul_le_mul_left _ hb0;omega
 have run:=run_append_nil (P:=P) w tx o.type e i z hu hi hzz ⟨b,off,none⟩ m cap (wzh st m vals) (by rw[qz2,hsz]) hnews hm hm63 (by rw[hbz];omega);refine Ran.new (ob:=.cells ((wzh st m vals).toArray++Builtin.zeroCells z.cells (grownCap w m 0 e-m)) e (0,0)) (bo:=0) (st:=st) (cp:=grownCap w m 0 e) H ⟨w.drew,rfl,rfl,rfl,rfl,Gcz _,qzd6 P o a.eval x y tx _ _ _ w _ ho hx e1 run⟩ rfl ?_;intro g' w' hle hblk hbo hst' hcp hnew;have hge:=qzow w m 0 e;refine⟨qzpu h0 hblk hbo hst' hcp hge hnew ?_ src.len (fun k j hk hj=>⟨vals k j,?_,src.one k j hk hj,fun x hx=>(src.rv k j x hk hx).mono hle⟩),fun he=>?_⟩
 ·rw[Gag,size_zeroCells,hzs];simp only[Gci,qz2];have:(grownCap w m 0 e-m)*st+m*st=grownCap w m 0 e*st:=by rw[<-Gcm];congr 1;omega
  omega
 ·have hbd:=qzdl hk hj;rw[Gdk,Gaa (by simp[qz2];exact hbd)];simpa using qzft hk hj
 ·exact .vec _ _ _ _ _ rfl (by rw[he];exact Gcy _) (fun _=>qzho hblk hbo hcp hge)
theorem qzr1(ty e tx:TypeId)(i:TypeInfo)(hu:P.underlying tx=some (.slice e))(hi:P.info? e=some i)(b bo n cap:Nat)(cur:Array Value)(te:TypeId)(hg:w.heap[b]?=some (.cells cur te (0,0)))(v:Value) (m:Nat) (news:List Value) (hlv:(Builtin.lenOf v).run P w=.ok m w) (hnews:(Builtin.firstCells i.size m v).run P w=.ok news.toArray w) (h1:∀u∈news,u.oneCell'=true)(hroom:n+m<=cap) (hfit:bo+n*i.size+news.length<=cur.size) (hnt:∀k,P.underlying tx≠some (.int k)) :
  (Builtin.append_ #[tx,tx] ty #[.slice (some ⟨b,bo,none⟩) n cap,v]).run P w =
   .ok (.slice (some ⟨b,bo,none⟩) (n+m) cap) (w.setRow b (cur.toList.take (bo+n*i.size)++news++cur.toList.drop (bo+n*i.size+news.length)).toArray):=by
 have hst:=run_storeCells_at P b (bo+n*i.size) te news 0 cur w hg (by simpa using hfit) h1;simp only[Gcn]at hst;simp[Builtin.append_,run_underlying hu,sizeOf,typeInfo,hi,hlv,hroom,hnews,qzcn,hst]
theorem qztn{s:Sem Next}{rd:List Nat}{p:Prop}{i:Nat}{o':AObj}{x:AVal}{v:Value}{bo st cp:Nat}{w':World}(H:HR E g h w)(how:(h i).owned=true)(hr:s.run P w=.ok (.value v) w') (hep:o'.ep=(h i).ep+1) (how':o'.owned=true)(hsame:∀b,b≠g.blk i->w'.heap[b]?=w.heap[b]?) (hsize:w'.heap.size=w.heap.size) (hos:w'.os=w.os) (htape:w'.tape=w.tape) (hout:w'.output=w.output)(hob:∀g':Gh,GLe g w g' w'->g'.blk i=g.blk i->g'.bo i=bo->g'.st i=st->g'.cp i=cp->g'.ep i=(h i).ep+1->OR g' w' i o'/\RV g' w' x v) (hdr:w.drawn<=w'.drawn:=by first|exact Gcy _|exact Gcz _|simp):Ran E P s g h w ⟨p,rd,x,some (i,o')⟩:=by
 let g':Gh:=⟨g.blk,fun j=>if j=i then(h i).ep+1 else g.ep j,fun j=>if j=i then bo else g.bo j,fun j=>if j=i then st else g.st j,fun j=>if j=i then cp else g.cp j,g.fz⟩
 have hsep:=H.sep i how
 have hle:GLe g w g' w':=by
  refine⟨fun b hb=>⟨hb,hsame b (fun e=>hsep (e▸hb))⟩,fun j=>?_,fun j hj=>?_⟩
  ·show g.ep j<=if j=i then(h i).ep+1 else g.ep j;split
   ·rename_i e;subst e;rw[H.ep j];omega
   ·exact Gcy _
  ·have:j≠i:=fun e=>by
    subst e;have hj':(if j=j then(h j).ep+1 else g.ep j)=g.ep j:=hj;rw[Gd4 rfl,H.ep j]at hj';omega
   exact⟨rfl,Gd3 this,Gd3 this,Gd3 this⟩
 obtain⟨hO,hV⟩:=hob g' hle rfl (Gd4 rfl) (Gd4 rfl) (Gd4 rfl) (Gd4 rfl);obtain⟨H',S'⟩:=HR.upd (g':=g') (w':=w') (i:=i) (o':=o') H hle (fun j hj=>Gd3 hj) ((Gd4 rfl:g'.ep i=_).trans hep.symm) (fun b _ hne=>hsame b (hne how)) (by omega) hO (fun _=>.inl ⟨how,rfl⟩) (fun _=>hsep) (fun b hb=>.inl hb) (fun b hb=>by rw[hsize];exact H.fzb b hb) hos htape hout hdr;exact⟨_,v,w',g',hr,.inl rfl,hV,H',S',fun e=>by cases e⟩
theorem qzo3{o:Oper}{x y:Operand}{tx e:TypeId}{s st bytes:Nat}{y':AArg}{zl:List Value}{id ep lo n:Nat}(H:HR E g h w)(ht:RVs g w t a.tmps.toList)(ho:o.op=.call { callee:=.builtin .append,args:=#[x,y],argTypes:=#[tx,tx] })(hy:qzm y y'=true)(hu:P.underlying tx=some (.slice e)) (hs:szOf P e=some st) (hb:byOf P e=some bytes) (hz:qz0 P e=some zl) (hzl:zl.length=st) (hb0:0<bytes) (hx:RV g w (.vec id ep lo n) (a.eval x))(hok:(wzu s st bytes (.vec id ep lo n) (argv E t y') h).ok):Ran E P (execOp a.eval o) g h w (wzu s st bytes (.vec id ep lo n) (argv E t y') h):=by
 have ry:=qzp H ht hy;generalize argv E t y'=Y at *;simp only[wzu]at hok ⊢;have hO:=H.obj id;cases hh:h id<;>simp only[hh,Req.fail]at hok hO ⊢
 case vec ep' st' N f0 =>
  obtain⟨h1,h2,rfl,rfl,hle0,hby⟩:=hok;obtain⟨vals,src⟩:=qzmq H ry h1 h2;obtain⟨i,z,hi,hzz,hsz,hbz,hzs⟩:=qznw hs hb hz hzl;obtain⟨hst,h0,hn,arr,ty,hr,hfit,hel⟩:=hO;have how:(h id).owned=true:=by rw[hh];rfl
  have hepi:(h id).ep=ep:=by rw[hh];rfl
  obtain⟨ad,cap,e1,hcap,hc⟩:=qzew H hx hepi.symm;generalize (qz5 st' Y h).n=m at *;generalize (qz5 st' Y h).f=f at *
  have hold:∀k j,k<n->j<st'->∃u,arr[g.bo id+(lo+k)*st'+j]?=some u/\u.oneCell'=true/\∀x,(f0 (lo+k))[j]?=some x->RV g w x u:=by
   intro k j hk hj;obtain⟨hl,hcell⟩:=hel (lo+k) (by omega);have hbd:=qzdl (k:=lo+k) (n:=g.cp id) (st:=st') (j:=j) (by omega) hj;have hlt:g.bo id+(lo+k)*st'+j<arr.size:=by omega
   refine⟨arr[g.bo id+(lo+k)*st'+j],Gab hlt,?_⟩;have hx0:(f0 (lo+k))[j]?=some (f0 (lo+k))[j]:=Gbe (by omega);have:=hcell j _ _ hx0 (Gab hlt);refine⟨this.1,fun x hx=>?_⟩;rw[hx0]at hx;obtain rfl:=Gdp hx;exact this.2
  have hnm63:((n+m:Nat):Int)<=9223372036854775807:=by have:(n+m)*1<=(n+m)*bytes:=Nat.mul_le_mul_left _ hb0;omega
  have hlenf:∀k,k<n+m->((fun k=>if k<n then f0 (lo+k) else f (k-n)) k).length=st':=by
   intro k hk;simp only;split
   ·exact(hel (lo+k) (by omega)).1
   ·exact src.len _ (by omega)
  by_cases hroom:n+m<=cap
  ·-- it fits
   obtain⟨sad,scap,se,_,_⟩:=src.val;have hlv:(Builtin.lenOf (a.eval y)).run P w=.ok m w:=by rw[se];rfl
   rcases hc with hc0|⟨rfl,hc⟩
   ·-- no room,and nothing comes
    have hn0:n=0:=(by omega);have hm0:m=0:=(by omega);subst hc0;subst hn0;subst hm0
    have hfc:(Builtin.firstCells i.size 0 (a.eval y)).run P w=.ok #[] w:=by
     rw[se];cases sad with
     |none=>simp[Builtin.firstCells]
     |some q=>simp[Builtin.firstCells,loadCells,loadCellsFrom]
    have run:(Builtin.append_ #[tx,tx] o.type #[.slice (some ad) 0 0,a.eval y]).run P w=.ok (.slice (some ad) 0 0) w:=(by simp[Builtin.append_,run_underlying hu,sizeOf,typeInfo,hi,hlv,hfc,storeCells]);refine qztn (bo:=g.bo id) (st:=st') (cp:=g.cp id) H how (qzd6 P o a.eval x y tx _ _ _ w _ ho e1 rfl run) (by rw[hepi];rfl) rfl (fun b _=>rfl) rfl rfl rfl rfl ?_;intro g' hle hblk hbo hst' hcp hep;refine⟨⟨hst',h0,by omega,arr,ty,by rw[hblk];exact hr,by rw[hbo,hcp];exact hfit,fun k hk=>absurd hk (Gde _)⟩,?_⟩;exact .vec _ _ _ _ _ rfl (by rw[hep,hepi];exact Gcy _) (fun _=>⟨ad,0,rfl,Gcy _,.inl rfl⟩)
   ·have hfc:(Builtin.firstCells i.size m (a.eval y)).run P w=.ok (wzh st' m vals).toArray w:=by
     rcases Gct m with e0|e0
     ·subst e0;rw[se];cases sad with
      |none=>simp[Builtin.firstCells,wzh]
      |some q=>simp[Builtin.firstCells,loadCells,loadCellsFrom,wzh]
     ·obtain⟨b,off,scap',e2,hnews⟩:=src.news e0;rw[e2];exact run_firstCells_some (P:=P) w i.size m ⟨b,off,none⟩ m scap' _ (by rw[qz2,hsz]) hnews
    have hfit2:g.bo id+lo*g.st id+n*i.size+(wzh st' m vals).length<=arr.size:=(by rw[qz2,hst,hsz];have:(lo+(n+m))*st'<=g.cp id*st':=Gdc _ (by omega);rw[Gcm,Gcm]at this;omega);have run:=qzr1 (P:=P) (w:=w) o.type e tx i hu hi (g.blk id) (g.bo id+lo*g.st id) n cap arr ty hr (a.eval y) m (wzh st' m vals) hlv hfc (wzde src) hroom hfit2 (by intro k hk;rw[hu]at hk;cases hk);rw[<-e1]at run;have hrow:=setRow_heap w (g.blk id) arr (arr.toList.take (g.bo id+lo*g.st id+n*i.size)++wzh st' m vals++arr.toList.drop (g.bo id+lo*g.st id+n*i.size+(wzh st' m vals).length)).toArray ty (0,0) hr;refine qztn (bo:=g.bo id+lo*st') (st:=st') (cp:=cap) H how (qzd6 P o a.eval x y tx _ _ _ w _ ho rfl rfl run) (by rw[hepi];rfl) rfl (fun b hb=>setRow_other w (g.blk id) b _ hb) (by simp) rfl rfl rfl ?_;intro g' hle hblk hbo hst' hcp hep;refine⟨qzpu h0 hblk hbo hst' hcp hroom hrow ?_ hlenf ?_,?_⟩
    ·have e5:=qz2 st' m vals;have:(lo+cap)*st'=g.cp id*st':=(by rw[hc]);rw[Gcm]at this;simp only[Gci,Gbq,Gbz,Gbs,Array.length_toList];omega
    ·intro k j hk hj;have hgl:=yzx arr.toList (wzh st' m vals) (g.bo id+lo*g.st id+n*i.size) (g.bo id+lo*st'+k*st'+j) (by simpa using hfit2);have hle2:=hle;rw[hst,hsz]at hle2;rw[Gbn,hgl,hst,hsz];by_cases hkn:k<n
     ·have hbd:=qzdl hkn hj;rw[Gd4 (by omega)];obtain⟨u,q1,q2,q3⟩:=hold k j hkn hj;have e4:g.bo id+lo*st'+k*st'+j=g.bo id+(lo+k)*st'+j:=by rw[Gcm];omega
      refine⟨u,by rw[e4];simpa using q1,q2,fun x hx=>?_⟩;simp only[Gd4 hkn]at hx;exact(q3 x hx).mono hle2
     ·have e5:k*st'=n*st'+(k-n)*st':=(by rw[<-Gcm];congr 1;omega);have hbd:=qzdl (k:=k-n) (n:=m) (st:=st') (j:=j) (by omega) hj;rw[Gd3 (by omega),Gd4 (by rw[qz2];omega)];have e6:g.bo id+lo*st'+k*st'+j-(g.bo id+lo*st'+n*st')=(k-n)*st'+j:=(by omega);rw[e6];refine⟨_,qzft (by omega) hj,src.one _ _ (by omega) hj,fun x hx=>?_⟩;simp only[Gd3 hkn]at hx;exact(src.rv _ _ x (by omega) hx).mono hle2
    ·exact .vec _ _ _ _ _ rfl (by rw[hep,hepi];exact Gcy _) (fun _=>⟨_,cap,rfl,hroom,.inr ⟨by rw[hblk,hbo,hst',hst];simp,by omega⟩⟩)
  ·-- it grows
   have hm:0<m:=by omega
   obtain⟨b,off,scap,e2,hnews⟩:=src.news hm
   have hold2:∃olds:List Value,olds=wzh st' n (fun k j=>arr.getD (g.bo id+(lo+k)*st'+j) undef)/\∀q u,olds[q]?=some u->w.cell? (ad.add q)=some u:=by
    refine⟨_,rfl,fun q u hq=>?_⟩;obtain⟨k,j,hk,hj,rfl,rfl⟩:=qzce hq;rcases hc with hc0|⟨rfl,hc⟩
    ·omega
    ·rw[qzcn];obtain⟨u,q1,_,_⟩:=hold k j hk hj;have e4:g.bo id+lo*g.st id+(k*st'+j)=g.bo id+(lo+k)*st'+j:=by rw[hst,Gcm];omega
     have hlt:=(Gac.1 q1).1;simp[World.cell?,hr,e4,hlt]
   obtain⟨olds,rfl,holds⟩:=hold2;have run:=run_append_grow (P:=P) w tx o.type e i z hu hi hzz ad n cap _ (by rw[qz2,hsz]) holds ⟨b,off,none⟩ m scap (wzh st' m vals) (by rw[qz2,hsz]) hnews (by omega) hnm63 (growslice_fits (by omega) (by rw[hbz];exact hby));have hge:=qzow w (n+m) cap e;refine Ran.new (bo:=0) (st:=st') (cp:=grownCap w (n+m) cap e) H ⟨w.drew,rfl,rfl,rfl,rfl,Gcz _,qzd6 P o a.eval x y tx _ _ _ w _ ho e1 e2 run⟩ (by rw[hepi];rfl) ?_;intro g' w' hle hblk hbo hst' hcp hnew;refine⟨qzpu h0 hblk hbo hst' hcp hge hnew ?_ hlenf (fun k j hk hj=>?_),fun he=>?_⟩
   ·rw[Gag,Gag,size_zeroCells,hzs];simp only[Gci,qz2];have:(grownCap w (n+m) cap e-(n+m))*st'+(n+m)*st'=grownCap w (n+m) cap e*st':=by rw[<-Gcm];congr 1;omega
    rw[Gcm]at this;omega
   ·have hbd:=qzdl (k:=k) (n:=n+m) (st:=st') (j:=j) hk hj;rw[Gcm]at hbd;rw[Gdk,Gaa (by simp[qz2];omega)];by_cases hkn:k<n
    ·have hb2:=qzdl hkn hj;rw[Gaa (by simp[qz2];exact hb2)];obtain⟨u,q1,q2,q3⟩:=hold k j hkn hj;refine⟨u,?_,q2,fun x hx=>?_⟩
     ·have:=qzft (vals:=fun k j=>arr.getD (g.bo id+(lo+k)*st'+j) undef) hkn hj;have hlt:=(Gac.1 q1).1;have hev:=(Gac.1 q1).2;rw[Gbn,this];simp[hlt,hev]
     ·simp only[Gd4 hkn]at hx;exact(q3 x hx).mono hle
    ·have e5:k*st'=n*st'+(k-n)*st':=(by rw[<-Gcm];congr 1;omega);rw[Array.getElem?_append_right (by simp[qz2];omega)];simp only[Gci,qz2];have e6:k*st'+j-n*st'=(k-n)*st'+j:=by omega
     rw[e6];refine⟨_,by rw[Gbn];exact qzft (by omega) hj,src.one _ _ (by omega) hj,fun x hx=>?_⟩;simp only[Gd3 hkn]at hx;exact(src.rv _ _ x (by omega) hx).mono hle
   ·rw[hepi]at he;exact .vec _ _ _ _ _ rfl (by rw[he];exact Gcy _) (fun _=>qzho hblk hbo hcp hge)
end
section
variable {E:Nat->AVal}{P:Program}{g:Gh}{h:qzl}{w:World}{t:List AVal}{a:Act}
theorem qzpb{s:Sem Next}{rd:List Nat}{p:Prop}{i:Nat}{o':AObj}{x:AVal}{v:Value}{n:Next}{w1:World}{ob ob0:Obj}(H:HR E g h w)(how:(h i).owned=true)(hd:w1=w\/w1=w.drew) (hb:w.heap[g.blk i]?=some ob0)(hr:s.run P w=.ok n { w1 with heap:=w1.heap.setIfInBounds (g.blk i) ob }) (hn:n=.value v\/(n=.skip/\v=undef))(hep:o'.ep=(h i).ep) (hob:∀w',GLe g w g w'->w'.heap[g.blk i]?=some ob->OR g w' i o'/\RV g w' x v):Ran E P s g h w ⟨p,rd,x,some (i,o')⟩:=by
 have hsep:=H.sep i how;have hh:w1.heap=w.heap:=by rcases hd with rfl|rfl<;>rfl
 have hos:w1.os=w.os:=by rcases hd with rfl|rfl<;>rfl
 have htp:w1.tape=w.tape:=by rcases hd with rfl|rfl<;>rfl
 have hout:w1.output=w.output:=by rcases hd with rfl|rfl<;>rfl
 have hlt:g.blk i<w.heap.size:=(Gac.1 hb).1
 let w':World:={ w1 with heap:=w1.heap.setIfInBounds (g.blk i) ob }
 have hoth:∀b,b≠g.blk i->w'.heap[b]?=w.heap[b]?:=fun b hb'=>by show(w1.heap.setIfInBounds (g.blk i) ob)[b]?=_;rw[hh];simp[Ne.symm hb']
 have hsame:w'.heap[g.blk i]?=some ob:=by show(w1.heap.setIfInBounds (g.blk i) ob)[g.blk i]?=_;rw[hh];simp[hlt]
 have hsz:w'.heap.size=w.heap.size:=by show(w1.heap.setIfInBounds (g.blk i) ob).size=_;rw[hh];simp
 have hle:GLe g w g w':=⟨fun b hb'=>⟨hb',hoth b (fun e=>hsep (e▸hb'))⟩,fun _=>Gcy _,fun _ _=>⟨rfl,rfl,rfl,rfl⟩⟩;obtain⟨hO,hV⟩:=hob w' hle hsame;obtain⟨H',S'⟩:=HR.upd (g':=g) (w':=w') (i:=i) (o':=o') H hle (fun _ _=>rfl) ((H.ep i).trans hep.symm) (fun b hb' hne=>hoth b (hne how)) (by omega) hO (fun _=>.inl ⟨how,rfl⟩) (fun _=>hsep) (fun b hb'=>.inl hb') (fun b hb'=>by rw[hsz];exact H.fzb b hb') hos htp hout (by rcases hd with rfl | rfl;exact Gcy _;exact Gcz _);exact⟨n,v,w',g,hr,hn,hV,H',S',fun e=>by cases e⟩
theorem qzus{o:Oper}{ty:TypeId}{s:Nat}(H:HR E g h w)(ho:o.op=.makeMap ty none) :
  Ran E P (execOp a.eval o) g h w ((AOp.mkmap s).req (argv E t) h):=by
 simp only[AOp.req];refine Ran.new (ob:=.map #[] 0) (bo:=0) (st:=0) (cp:=0) (v:=.map (some w.heap.size)) H ⟨w,rfl,rfl,rfl,rfl,Gcy _,?_⟩ rfl ?_
 ·have e:(Instr.makeMap ty none).run P w=.ok (.map (some w.heap.size)) (w.alloc (.map #[] 0)):=rfl;simp[execOp,ho,e,Result.andThen]
 intro g' w' hle hblk _ _ _ hnew;refine⟨⟨#[],by rw[hblk];exact hnew,rfl,fun k e m he=>by simp at he⟩,fun he=>?_⟩;exact .mp _ _ _ rfl (by rw[he];exact Gcy _) (fun _=>by rw[hblk])
def qza1:TypeDesc->Option Nat
 |.bool=>some 0
 |.int _=>some 1
 |.string=>some 2
 |_=>none
inductive jzf2(P:Program)(kt:TypeId)(kd:Nat):Prop where
 |one (d:TypeDesc) (hd:P.underlying kt=some d) (hk:qza1 d=some kd)
 |row (sh:List Nat) (hw:(match P.underlying kt with | some (.array _ _) | some (.struct _)=>true | _=>false)=true) (hs:eqFields P 9 kt=some sh) (h4:∀k∈sh,k<4) (hk:kd=4+encK sh)
theorem jzai:∀{l m:List Nat},(∀k∈l,k<4)->(∀k∈m,k<4)->encK l=encK m->l=m
 |[],[],_,_,_=>rfl
 |[],k :: m,_,_,h=>by simp only[encK]at h;omega
 |k :: l,[],_,_,h=>by simp only[encK]at h;omega
 |k :: l,j :: m,hl,hm,h=>by
  simp only[encK]at h;have h1:=hl k (Gb5 ..);have h2:=hm j (Gb5 ..);have e1:k=j:=by omega
  have e2:l=m:=jzai (fun x hx=>hl x (Gb4 _ hx)) (fun x hx=>hm x (Gb4 _ hx)) (by omega);rw[e1,e2]
theorem jzb3(x:AVal):x.kind<4:=by cases x<;>simp[AVal.kind]
theorem jze1(l:List AVal):∀k∈l.map AVal.kind,k<4:=fun k h=>by obtain⟨x,_,rfl⟩:=Gb7.1 h;exact jzb3 x
theorem wz7h{kt:TypeId}{kd:Nat}(hk:qzhr P kt=some kd):jzf2 P kt kd:=by
 unfold qzhr at hk
 have wide:∀(h:(match P.underlying kt with | some (.array _ _) | some (.struct _)=>true | _=>false)=true),(match eqFields P 9 kt with
  |some l=>if l.all (fun k=>Nat.blt k 4) then some (4+encK l) else none
  | none=>none)=some kd->jzf2 P kt kd:=by
  intro hw h;cases hs:eqFields P 9 kt with
  |none=>simp[hs]at h
  |some sh =>
   simp only[hs]at h;split at h
   ·rename_i ha;exact .row sh hw hs (fun k hk=>by have:=Ga0.1 ha k hk;simpa [Gco] using this) (Gdp h).symm
   ·cases h
 cases hu:P.underlying kt with
 |none=>simp[hu]at hk
 |some d =>simp only[hu]at hk;cases d<;>simp only at hk<;>(try (cases hk;done))<;>first|exact .one _ hu hk|exact wide (by rw[hu]) hk
theorem jzab{x:AVal}{kd:Nat}(h:x.kkind=kd)(hk:kd<4):x.kind=kd:=by cases x<;>simp only[AVal.kkind]at h<;>first|exact h|omega
theorem jzcc{d:TypeDesc}{kd:Nat}(hd:qza1 d=some kd):kd<4:=by cases d<;>simp[qza1]at hd<;>omega
theorem qzt4{x y:AVal}{u v:Value}{c:Bool}{d:TypeDesc}{kd:Nat}(hd:qza1 d=some kd)(hkd:x.kind=kd)(he:qzw1 x y=some c)(hx:RV g w x u)(hy:RV g w y v) :
  Instr.sameNow d u v=some c/\(c=true->u=v):=by
 unfold qzw1 at he;split at he
 ·simp only[AVal.kind]at hkd;subst hkd;cases d<;>simp[qza1]at hd
 ·rename_i k n k' n';obtain rfl:=jzy hx;obtain rfl:=jzy hy;simp only[AVal.kind]at hkd;subst hkd;split at he
  ·rename_i e;subst e;obtain rfl:=Gdp he;cases d<;>simp[qza1]at hd;refine⟨by simp[Instr.sameNow];first|done|rfl,fun e=>by simp at e;rw[e]⟩
  ·cases he
 ·obtain rfl:=qzaj hx;obtain rfl:=qzaj hy;simp only[AVal.kind]at hkd;subst hkd;obtain rfl:=Gdp he;cases d<;>simp[qza1]at hd;refine⟨by simp[Instr.sameNow],fun e=>by simp at e;rw[e]⟩
 ·rename_i a b;obtain⟨p,rfl,hp⟩:=qze4 hx;obtain⟨q,rfl,hq⟩:=qze4 hy;simp only[AVal.kind]at hkd;subst hkd;obtain rfl:=Gdp he;cases d<;>simp[qza1]at hd
  have hpq:(p==q)=decide (a=b):=by
   by_cases e:a=b
   ·have:p=q:=by
     obtain⟨⟨p⟩⟩:=p;obtain⟨⟨q⟩⟩:=q;simp at hp hq;subst hp;subst hq;rw[e]
    simp[e,(MapKept.bytes_beq p q).2 this]
   ·have:p≠q:=fun e'=>e (by rw[<-hp,<-hq,e'])
    have h2:(p==q)=false:=by
     cases hh:p==q
     ·rfl
     ·exact absurd ((MapKept.bytes_beq p q).1 hh) this
    simp[e,h2]
  refine⟨by simp[Instr.sameNow,hpq],fun e=>?_⟩;rw[<-hpq]at e;rw[(MapKept.bytes_beq p q).1 e]
 ·cases he
theorem qzm2{X:AVal}{u:Value}{d:TypeDesc}{kd:Nat}(hd:qza1 d=some kd)(hkd:X.kind=kd)(hx:RV g w X u):∀(es:List (AVal×AVal)) (ms:List MapEntry) (i:Nat) {r:Option (Nat×AVal)},ms.length=es.length -> (∀(k:Nat) (e:AVal×AVal) (m:MapEntry),es[k]?=some e->ms[k]?=some m->RV g w e.1 m.key/\RV g w e.2 m.val)->qzb1 X es i=some r -> (r=none/\Instr.findNow d u ms i=some none)\/∃j m v,r=some (i+j,v)/\ms[j]?=some m/\m.key=u/\RV g w v m.val/\Instr.findNow d u ms i=some (some (i+j,m.val))
 |[],[],i,r,_,_,hf=>.inl ⟨by simp only[qzb1,Gdq]at hf;exact hf.symm,rfl⟩
 |e :: es,m :: ms,i,r,hl,hr,hf=>by
  have h0:=hr 0 e m rfl rfl;simp only[qzb1]at hf;split at hf
  ·rename_i hk;obtain⟨h1,h2⟩:=qzt4 hd hkd hk hx h0.1;obtain rfl:=Gdp hf;exact .inr ⟨0,m,e.2,rfl,rfl,(h2 rfl).symm,h0.2,by simp[Instr.findNow,h1]⟩
  ·rename_i hk;obtain⟨h1,_⟩:=qzt4 hd hkd hk hx h0.1;rcases qzm2 hd hkd hx es ms (i+1) (by simpa using hl) (fun k e' m' he hm=>hr (k+1) e' m' (by simpa using he) (by simpa using hm)) hf with ⟨e1,e2⟩ | ⟨j,m',v,e1,e2,e3,e4,e5⟩
   ·exact .inl ⟨e1,by simp[Instr.findNow,h1,e2]⟩
   ·exact .inr ⟨j+1,m',v,by rw[e1];simp;omega,by simpa using e2,e3,e4,by simp[Instr.findNow,h1,e5];omega⟩
  ·cases hf
 |[],_ :: _,_,_,h,_,_=>by simp at h
 |_ :: _,[],_,_,h,_,_=>by simp at h
theorem qzb5{kt:TypeId}{d:TypeDesc}{kd:Nat}{k:Value}(hu:P.underlying kt=some d)(hd:qza1 d=some kd)(e:Bool)(n:Nat):(Instr.checkKey e (n+1) kt k).run P w=.ok () w:=by unfold Instr.checkKey;simp only[Sem.run_bind,run_underlying hu,Result.andThen];cases d<;>simp[qza1]at hd<;>cases k<;>rfl
theorem wz7k{kt:TypeId}{sh:List Nat}(hs:eqFields P 9 kt=some sh)(hq:yzl P kt=some true){l:List AVal}{u:Value}(hl:l.map AVal.kind=sh)(hx:RV g w (.agg l) u):∀(es:List (AVal×AVal)) (ms:List MapEntry) (i:Nat) {r:Option (Nat×AVal)},ms.length=es.length -> (∀(k:Nat) (e:AVal×AVal) (m:MapEntry),es[k]?=some e->ms[k]?=some m->RV g w e.1 m.key/\RV g w e.2 m.val)->qzb1 (.agg l) es i=some r -> (r=none/\(Instr.findAsking kt u ms i).run P w=.ok none w)\/∃j m v,r=some (i+j,v)/\ms[j]?=some m/\m.key=u/\RV g w v m.val/\(Instr.findAsking kt u ms i).run P w=.ok (some (i+j,m.val)) w
 |[],[],i,r,_,_,hf=>.inl ⟨by simp only[qzb1,Gdq]at hf;exact hf.symm,by simp[Instr.findAsking]⟩
 |e :: es,m :: ms,i,r,hn,hr,hf=>by
  have h0:=hr 0 e m rfl rfl
  have key:∀c,qzw1 (.agg l) e.1=some c->(Op.equal kt u m.key).run P w=.ok c w/\(c=true->u=m.key):=by
   intro c hc;obtain⟨e1,e2⟩:=e;cases e1<;>simp only[qzw1]at hc<;>(try (cases hc;done));rename_i m';obtain⟨h0,_⟩:=h0;simp only at h0;generalize m.key=v at *;cases hx with
   |agg _ xs hnx hrx =>
    cases h0 with
    |agg _ ys hny hry =>have hxs:RVs g w l xs.toList:=⟨by simpa using hnx,fun i x v hx hv=>hrx i x v hx (by simpa using hv)⟩;have hys:RVs g w m' ys.toList:=⟨by simpa using hny,fun i x v hx hv=>hry i x v hx (by simpa using hv)⟩;obtain⟨agg,hagg,_,hrun⟩:=qzn7 (P:=P) (g:=g) (w:=w) 9 kt sh hs;obtain rfl:agg=true:=(by rw[hq]at hagg;exact(Gdp hagg).symm);have hq:=hrun 10000 (by omega) l m' _ _ c w hl hxs hys hc;simp only[qzno,Gd5,Gah]at hq;refine⟨by simpa [Op.equal,Op.maxDepth] using hq,fun e=>?_⟩;subst e;have:=wz7q hxs hys hc;rw[Array.toList_inj.1 this]
  simp only[qzb1]at hf;split at hf
  ·rename_i hk;obtain⟨h1,h2⟩:=key _ hk;obtain rfl:=Gdp hf;exact .inr ⟨0,m,e.2,rfl,rfl,(h2 rfl).symm,h0.2,by simp[Instr.findAsking,h1,Result.andThen]⟩
  ·rename_i hk;obtain⟨h1,_⟩:=key _ hk;rcases wz7k hs hq hl hx es ms (i+1) (by simpa using hn) (fun k e' m' he hm=>hr (k+1) e' m' (by simpa using he) (by simpa using hm)) hf with ⟨e1,e2⟩ | ⟨j,m',v,e1,e2,e3,e4,e5⟩
   ·exact .inl ⟨e1,by simp[Instr.findAsking,h1,e2,Result.andThen]⟩
   ·exact .inr ⟨j+1,m',v,by rw[e1];simp;omega,by simpa using e2,e3,e4,by simp[Instr.findAsking,h1,e5,Result.andThen];omega⟩
  ·cases hf
 |[],_ :: _,_,_,h,_,_=>by simp at h
 |_ :: _,[],_,_,h,_,_=>by simp at h
theorem jzcb{kt:TypeId}{sh:List Nat}(hw:(match P.underlying kt with | some (.array _ _) | some (.struct _)=>true | _=>false)=true):yzl P kt=some true:=by
 cases hu:P.underlying kt with
 |none=>simp[hu]at hw
 |some d=>cases d<;>simp[hu]at hw<;>simp[yzl,hu]
theorem jzae{X:AVal}{u:Value}{sh:List Nat}{kd:Nat}(h4:∀k∈sh,k<4)(hk:kd=4+encK sh)(hX:X.kkind=kd)(hx:RV g w X u):∃l xs,X=.agg l/\u=.agg xs/\l.map AVal.kind=sh/\RVs g w l xs.toList:=by
 subst hk;have hlt:=jzb3 X;cases X<;>simp only[AVal.kkind]at hX<;>(try (simp only[AVal.kind]at hX hlt;omega));rename_i l;cases hx with
 |agg _ xs hnx hrx=>exact⟨l,xs,rfl,rfl,jzai (jze1 l) h4 (by omega),⟨by simpa using hnx,fun i x v hx hv=>hrx i x v hx (by simpa using hv)⟩⟩
theorem wz7b{kt:TypeId}{kd:Nat}{X:AVal}{u:Value}(hk:qzhr P kt=some kd)(hX:X.kkind=kd)(hx:RV g w X u){es:List (AVal×AVal)}{ms:List MapEntry}{r:Option (Nat×AVal)}(hn:ms.length=es.length)(hr:∀(k:Nat) (e:AVal×AVal) (m:MapEntry),es[k]?=some e->ms[k]?=some m->RV g w e.1 m.key/\RV g w e.2 m.val) (hf:qzb1 X es 0=some r) : (r=none/\(Instr.findKey kt u ms).run P w=.ok none w)\/∃j m v,r=some (j,v)/\ms[j]?=some m/\m.key=u/\RV g w v m.val/\(Instr.findKey kt u ms).run P w=.ok (some (j,m.val)) w:=by
 cases wz7h hk with
 |one d hd hk =>
  rcases qzm2 hk (jzab hX (jzcc hk)) hx es ms 0 hn hr hf with ⟨e1,e2⟩|⟨j,m,v,e1,e2,e3,e4,e5⟩
  ·exact .inl ⟨e1,MapKept.run_findKey hd e2⟩
  ·exact .inr ⟨j,m,v,by simpa using e1,e2,e3,e4,MapKept.run_findKey hd (by simpa using e5)⟩
 |row sh hw hs h4 hk =>
  obtain⟨l,xs,rfl,rfl,hl,_⟩:=jzae h4 hk hX hx;rcases wz7k hs (jzcb (sh:=sh) hw) hl hx es ms 0 hn hr hf with ⟨e1,e2⟩|⟨j,m,v,e1,e2,e3,e4,e5⟩
  ·exact .inl ⟨e1,by rw[run_findKey_eq w hw];exact e2⟩
  ·exact .inr ⟨j,m,v,by simpa using e1,e2,e3,e4,by rw[run_findKey_eq w hw];simpa using e5⟩
theorem wz4i{kt:TypeId}{kd:Nat}{X:AVal}{u:Value}(hk:qzhr P kt=some kd)(hX:X.kkind=kd)(hx:RV g w X u)(e:Bool):(Instr.checkKey e 10000 kt u).run P w=.ok () w:=by
 cases wz7h hk with
 |one d hd hk=>exact qzb5 hd hk e _
 |row sh hw hs h4 hk =>
  obtain⟨l,xs,rfl,rfl,hl,hxs⟩:=jzae h4 hk hX hx;obtain⟨agg,hagg,_,hrun⟩:=wz7n (P:=P) 9 kt sh hs;obtain rfl:agg=true:=by rw[jzcb (sh:=sh) hw]at hagg;exact(Gdp hagg).symm
  have:=hrun 10000 (by omega) xs.toList e w (by have:=hxs.1;rw[<-hl,Gbu];omega);simpa [qzno] using this
theorem qzxc{id ep:Nat}{v:Value}(H:HR E g h w)(hv:RV g w (.mp id ep) v)(he:ep=(h id).ep):v=.map (some (g.blk id)):=by
 cases hv with
 |mp _ _ _ _ _ hp=>exact hp (by rw[H.ep id];exact he)
theorem qzvz{X:AVal}{v:Value}(H:HR E g h w)(hv:RV g w X v)(hok:(wz8 X h).ok) : (v=.map none/\(wz8 X h).es=[])\/∃r arr,v=.map (some r)/\w.heap[r]?=some (.map arr (wz8 X h).es.length)/\arr.size=(wz8 X h).es.length /\ ∀(k:Nat) (e:AVal×AVal) (m:MapEntry),(wz8 X h).es[k]?=some e->arr[k]?=some m->RV g w e.1 m.key/\RV g w e.2 m.val/\m.born=k:=by
 cases X<;>simp only[wz8]at hok ⊢<;>(try (exact hok.elim))
 case nilmp=>cases hv;exact .inl ⟨rfl,trivial⟩
 case mp id ep =>cases hh:h id<;>simp only[hh]at hok ⊢<;>(try (exact hok.elim));rename_i ep' es;have hO:=H.obj id;rw[hh]at hO;obtain⟨arr,h1,h2,h3⟩:=hO;exact .inr ⟨g.blk id,arr,qzxc H hv (by rw[hh];exact hok),h1,h2,h3⟩
theorem qzwc{et:TypeId}{zero:AVal}(hz:qznj P et zero=true):∃z,(zeroValue et).run P w=.ok z w/\RV g w zero z:=by
 unfold qznj at hz;cases hi:P.info? et with
 |none=>simp[hi]at hz
 |some i =>
  cases hzz:i.zero with
  |none=>obtain⟨⟩:=i;simp only at hzz;subst hzz;simp[hi]at hz
  |some z =>
   have hz':qzkn z zero=true:=by obtain⟨⟩:=i;simp only at hzz;subst hzz;simpa [hi] using hz
   exact⟨z,by simp[zeroValue,typeInfo,hi,hzz],qzp1 hz'⟩
theorem qzqn{x:AVal}{v:Value}{b:Bool}(hx:RV g w x v):RV g w (.tup [x,.bool b]) (.tuple #[v,.bool b]):=by
 refine .tup _ _ rfl fun i y u hy hu=>?_
 match i with
 |0=>simp at hy hu;subst hy;subst hu;exact hx
 |1=>simp at hy hu;subst hy;subst hu;exact .bool _
 |n+2=>simp at hy
theorem qzuw{o:Oper}{ty kt et:TypeId}{kd:Nat}{cok:Bool}{zero:AVal}{x k:Operand}{x' k':AArg}(H:HR E g h w)(ht:RVs g w t a.tmps.toList)(ho:o.op=.lookup ty x k cok)(hx:qzm x x'=true)(hk:qzm k k'=true)(hu:P.underlying ty=some (.map kt et)) (hkd:qzhr P kt=some kd) (hz:qznj P et zero=true)(hok:((AOp.mlook kd cok zero x' k').req (argv E t) h).ok):Ran E P (execOp a.eval o) g h w ((AOp.mlook kd cok zero x' k').req (argv E t) h):=by
 have rx:=qzp H ht hx;have rk:=qzp H ht hk;obtain⟨z,hz1,hz2⟩:=qzwc (g:=g) (w:=w) hz;simp only[AOp.req,qzkq]at hok ⊢;generalize argv E t x'=X at *;generalize argv E t k'=K at *;generalize hvx:a.eval x=vx at rx;generalize hvk:a.eval k=vk at rk;cases hf:qzb1 K (wz8 X h).es 0 with
 |none=>simp only[hf,Req.fail]at hok
 |some r =>
  have hok':(wz8 X h).ok/\K.kkind=kd:=by cases r<;>simp only[hf]at hok<;>exact hok
  rcases qzvz H rx hok'.1 with ⟨rfl,hes⟩|⟨r',arr,rfl,hb,hsz,hr⟩
  ·rw[hes]at hf
   have hnil:(Instr.findKey kt vk []).run P w=.ok none w:=by
    rcases wz7b hkd hok'.2 rk (es:=[]) (ms:=[]) rfl (fun k e m he=>by simp at he) hf with ⟨_,h2⟩ | ⟨j,m,v,_,h2,_⟩
    ·exact h2
    ·simp at h2
   simp only[qzb1,Gdq]at hf;subst hf;simp only[hes];refine Ran.same H (v:=if cok then .tuple #[z,.bool false] else z) ?_ ?_
   ·simp[execOp,ho,hvx,hvk,Instr.lookup,run_underlying hu,wz4i hkd hok'.2 rk,hnil,hz1,Result.andThen]
   ·cases cok;·exact hz2
    ·exact qzqn hz2
  ·rcases wz7b hkd hok'.2 rk (ms:=arr.toList) (by simpa using hsz) (fun k e m he hm=>⟨(hr k e m he (by simpa using hm)).1,(hr k e m he (by simpa using hm)).2.1⟩) hf with ⟨rfl,h2⟩ | ⟨j,m,v,rfl,h2,h3,h4,h5⟩
   ·simp only;refine Ran.same H (v:=if cok then .tuple #[z,.bool false] else z) ?_ ?_
    ·simp[execOp,ho,hvx,hvk,Instr.lookup,run_underlying hu,MapKept.run_getObj_map hb,wz4i hkd hok'.2 rk,h2,hz1,Result.andThen]
    ·cases cok;·exact hz2
     ·exact qzqn hz2
   ·simp only;refine Ran.same H (v:=if cok then .tuple #[m.val,.bool true] else m.val) ?_ ?_
    ·simp[execOp,ho,hvx,hvk,Instr.lookup,run_underlying hu,MapKept.run_getObj_map hb,wz4i hkd hok'.2 rk,h5,Result.andThen]
    ·cases cok;·exact h4
     ·exact qzqn h4
theorem jzdw{x:AVal}{v:Value}(hk:x.kind<3)(hv:RV g w x v)(n:Nat):Instr.sameBits n v v=true:=by cases hv<;>simp only[AVal.kind]at hk<;>(try omega)<;>(try (simp[Instr.sameBits];done));simp[Instr.sameBits,MapKept.bytes_beq]
theorem qzqt{K:AVal}{kd:Nat}{d:TypeDesc}{v:Value}(hd:qza1 d=some kd)(hk:K.kind=kd)(hv:RV g w K v)(n:Nat):Instr.sameBits n v v=true:=by
 cases hv<;>simp only[AVal.kind]at hk<;>(try (simp[Instr.sameBits];done))
 case str b _=>simp[Instr.sameBits,MapKept.bytes_beq]
 all_goals (subst hk;cases d<;>simp[qza1]at hd)
theorem jzaf:∀{l:List AVal} {xs:List Value} (n:Nat),(∀x∈l,x.kind<3)->RVs g w l xs->(xs.zip xs).all (fun p=>Instr.sameBits n p.1 p.2)=true
 |[],xs,n,_,hx=>by have:xs=[]:=Ga6 (by simpa using hx.1);rw[this];rfl
 |x :: l,[],n,_,hx=>by have:=hx.1;simp at this
 |x :: l,v :: xs,n,hk,hx=>by simp only[List.zip_cons_cons,List.all_cons,Gai];exact⟨jzdw (hk x (Gb5 ..)) (hx.2 0 x v rfl rfl) n,jzaf n (fun y hy=>hk y (Gb4 _ hy)) (by have:=hx.drop 1;simpa using this)⟩
theorem jzbh:∀(d:Nat) (t:TypeId) (sh:List Nat),eqFields P d t=some sh->∀k∈sh,k<3:=by
 intro d;induction d with
 |zero=>intro t sh h;simp[eqFields]at h
 |succ d ih =>
  intro t sh h;simp only[eqFields]at h;cases hu:P.underlying t with
  |none=>simp[hu]at h
  |some q =>
   simp only[hu]at h;cases q<;>simp only at h<;>(try (cases h;done))
   case struct fs =>
    split at h
    ·cases h
    ·have go:∀(fl:List Field) (n:Nat) (sh:List Nat),qzc7 P (eqFields P d) fl n=some sh->∀k∈sh,k<3:=by
      intro fl;induction fl with
      |nil=>intro n sh h1 k hk;simp only[qzc7,Gdq]at h1;subst h1;cases hk
      |cons f fl ihf =>
       intro n sh h1 k hk;simp only[qzc7]at h1;split at h1
       ·cases hm:eqFields P d f.type with
        |none=>simp[hm]at h1
        |some sm =>
         simp only[hm]at h1;split at h1
         ·cases hg:qzc7 P (eqFields P d) fl (n+sm.length) with
          |none=>simp[hg]at h1
          |some sl =>
           simp only[hg,Gdq]at h1;subst h1;rcases Gb2.1 hk with hk|hk
           ·exact ih _ _ hm k hk
           ·exact ihf _ _ hg k hk
         ·cases h1
       ·cases h1
     exact go fs.toList 0 sh h
   case array n el =>
    cases hm:eqFields P d el with
    |none=>simp[hm]at h
    |some sm =>
     simp only[hm]at h;split at h
     ·obtain rfl:=Gdp h;intro k hk;obtain⟨l,hl,hk2⟩:=List.mem_flatten.1 hk;obtain⟨_,rfl⟩:=List.mem_replicate.1 hl;exact ih _ _ hm k hk2
     ·cases h
   all_goals
    obtain rfl:=Gdp h;intro k hk;simp at hk;omega
theorem wz9s{kt:TypeId}{kd:Nat}{X:AVal}{u:Value}(hk:qzhr P kt=some kd)(hX:X.kkind=kd)(hx:RV g w X u):(Instr.keyThatStays u u).run P w=.ok u w:=by
 have:Instr.sameBits 10000 u u=true:=by
  cases wz7h hk with
  |one d hd hk=>exact qzqt hk (jzab hX (jzcc hk)) hx _
  |row sh hw hs h4 hk =>obtain⟨l,xs,rfl,rfl,hl,hxs⟩:=jzae h4 hk hX hx;simp only[Instr.sameBits,Gai];refine⟨by simp,jzaf _ (fun x hx=>?_) hxs⟩;exact jzbh 9 kt sh hs _ (hl▸Gb8 hx)
 simp[Instr.keyThatStays,this]
theorem qzwu{o:Oper}{ty kt et:TypeId}{kd:Nat}{x k v:Operand}{x' k' v':AArg}(H:HR E g h w)(ht:RVs g w t a.tmps.toList)(ho:o.op=.mapUpdate ty x k v\/o.op=.insert ty x k v)(hx:qzm x x'=true)(hk:qzm k k'=true)(hv:qzm v v'=true)(hu:P.underlying ty=some (.map kt et)) (hkd:qzhr P kt=some kd)(hok:((AOp.mupd kd x' k' v').req (argv E t) h).ok):Ran E P (execOp a.eval o) g h w ((AOp.mupd kd x' k' v').req (argv E t) h):=by
 have rx:=qzp H ht hx;have rk:=qzp H ht hk;have rv:=qzp H ht hv;simp only[AOp.req,qzn3]at hok ⊢;generalize argv E t x'=X at *;generalize argv E t k'=K at *;generalize argv E t v'=V at *;generalize hvx:a.eval x=vx at rx;generalize hvk:a.eval k=vk at rk;generalize hvv:a.eval v=vv at rv;cases X<;>simp only[Req.fail]at hok ⊢;rename_i id ep;cases hh:h id<;>simp only[hh]at hok ⊢<;>(try (exact hok.elim));rename_i ep' es;have hO:=H.obj id;rw[hh]at hO;obtain⟨arr,hb,hsz,hr⟩:=hO;have how:(h id).owned=true:=by rw[hh];rfl
 cases hf:qzb1 K es 0 with
 |none=>simp only[hf]at hok
 |some r =>
  have hok':ep=ep'/\K.kkind=kd:=by cases r<;>simp only[hf]at hok<;>exact hok
  obtain rfl:=qzxc H rx (by rw[hh];exact hok'.1);rcases wz7b hkd hok'.2 rk (ms:=arr.toList) (by simpa using hsz) (fun k e m he hm=>⟨(hr k e m he (by simpa using hm)).1,(hr k e m he (by simpa using hm)).2.1⟩) hf with ⟨rfl,h2⟩ | ⟨j,m,v0,rfl,h2,h3,h4,h5⟩
  ·simp only;refine qzpb (n:=.skip) (v:=undef) (ob:=.map (arr.push { key:=vk,val:=vv,born:=es.length }) (es.length+1)) H how (.inl rfl) hb ?_ (.inr ⟨rfl,rfl⟩) (by rw[hh];rfl) ?_
   ·rcases ho with ho|ho<;>simp[execOp,ho,hvx,hvk,hvv,Instr.mapUpdate,run_underlying hu,MapKept.run_getObj_map hb,wz4i hkd hok'.2 rk,h2,MapKept.run_setObj_map _ hb,Result.andThen]
   ·intro w' hle hw';refine⟨⟨arr.push { key:=vk,val:=vv,born:=es.length },by rw[hw'];simp,by simp[hsz],fun i e m he hm=>?_⟩,.top _⟩;rw[Gae]at hm;rw[List.getElem?_append]at he;by_cases hi:i<es.length
    ·rw[Gd4 hi]at he;rw[Gd3 (by omega)]at hm;obtain⟨q1,q2,q3⟩:=hr i e m he hm;exact⟨q1.mono hle,q2.mono hle,q3⟩
    ·rw[Gd3 hi]at he;have hi':i=es.length:=(by have:=(Gbg.1 he).1;simp at this;omega);subst hi';rw[Gd4 hsz.symm]at hm;simp at he hm;subst he;subst hm;exact⟨rk.mono hle,rv.mono hle,rfl⟩
  ·simp only;have hj:arr[j]?=some m:=by simpa using h2
   have hkeep:=wz9s hkd hok'.2 rk;refine qzpb (n:=.skip) (v:=undef) (ob:=.map (arr.modify j fun e=>{ e with key:=vk,val:=vv }) es.length) H how (.inl rfl) hb ?_ (.inr ⟨rfl,rfl⟩) (by rw[hh];rfl) ?_
   ·rcases ho with ho|ho<;>simp[execOp,ho,hvx,hvk,hvv,Instr.mapUpdate,run_underlying hu,MapKept.run_getObj_map hb,wz4i hkd hok'.2 rk,h5,hj,h3,hkeep,MapKept.run_setObj_map _ hb,Result.andThen]
   ·intro w' hle hw';refine⟨⟨arr.modify j fun e=>{ e with key:=vk,val:=vv },by rw[hw'];simp,by simp[hsz],fun i e m' he hm=>?_⟩,.top _⟩;rw[Gad]at hm;rw[Gbl]at he;by_cases hi:j=i
    ·subst hi;simp only[Gd5]at he hm;split at he
     ·simp[hj]at he hm;subst he;subst hm;obtain⟨_,_,q3⟩:=hr j (es[j]'(by assumption)) m (Gbe _) hj;exact⟨rk.mono hle,rv.mono hle,q3⟩
     ·cases he
    ·rw[Gd3 hi]at he hm;obtain⟨q1,q2,q3⟩:=hr i e m' he hm;exact⟨q1.mono hle,q2.mono hle,q3⟩
theorem qzwh{o:Oper}{args:Array Operand}{ats:Array TypeId}{x:Operand}{x':AArg}{ty kt et:TypeId}(H:HR E g h w)(ht:RVs g w t a.tmps.toList)(ho:o.op=.call { callee:=.builtin .len,args,argTypes:=ats })(ha:args=#[x])(hat:ats=#[ty])(hu:P.underlying ty=some (.map kt et)) (hx:qzm x x'=true)(hok:((AOp.mlen x').req (argv E t) h).ok):Ran E P (execOp a.eval o) g h w ((AOp.mlen x').req (argv E t) h):=by
 have rx:=qzp H ht hx;subst ha;subst hat;simp only[AOp.req]at hok ⊢;generalize argv E t x'=X at *;generalize hv:a.eval x=v at rx;rcases qzvz H rx hok with ⟨rfl,hes⟩|⟨r',arr,rfl,hb,hsz,hr⟩
 ·rw[hes];exact Ran.same H (v:=.int .i64 0) (by simp[execOp,ho,hv,resolve,invoke,builtin,Builtin.len_,run_underlying hu,goInt]) (.int _ _)
 ·refine Ran.same H (v:=.int .i64 arr.size) (by simp[execOp,ho,hv,resolve,invoke,builtin,Builtin.len_,run_underlying hu,goInt,MapKept.run_getObj_map hb,Result.andThen]) ?_;rw[hsz];exact .int _ _
theorem qztu{o:Oper}{ty kt et:TypeId}{s:Nat}{x:Operand}{x':AArg}(H:HR E g h w)(ht:RVs g w t a.tmps.toList)(ho:o.op=.range ty x)(hx:qzm x x'=true)(hu:P.underlying ty=some (.map kt et)) (hok:((AOp.mrange s x').req (argv E t) h).ok):Ran E P (execOp a.eval o) g h w ((AOp.mrange s x').req (argv E t) h):=by
 have rx:=qzp H ht hx;simp only[AOp.req,qzi6]at hok ⊢;generalize argv E t x'=X at *;generalize hv:a.eval x=v at rx;cases X<;>simp only[Req.fail]at hok ⊢
 case nilmp =>
  cases rx;refine Ran.new (ob:=.mapIter none 0 #[] 0) (bo:=0) (st:=0) (cp:=0) (v:=.pointer (some ⟨w.heap.size,0,none⟩)) H ⟨w,rfl,rfl,rfl,rfl,Gcy _,?_⟩ rfl ?_
  ·simp[execOp,ho,hv,Instr.range,run_underlying hu,Result.andThen]
  intro g' w' hle hblk _ _ _ hnew;exact⟨by show w'.heap[g'.blk s]?=_;rw[hblk];exact hnew,fun he=>.ptr _ _ _ _ rfl (by rw[he];exact Gcy _) (fun _=>by rw[hblk])⟩
 case mp id ep =>
  cases hh:h id<;>simp only[hh]at hok ⊢<;>(try (exact hok.elim));rename_i ep' es;have hO:=H.obj id;rw[hh]at hO;obtain⟨arr,hb,hsz,hr⟩:=hO;obtain⟨rfl,hpl⟩:=hok;have hepi:g.ep id=ep:=by rw[H.ep id,hh];rfl
  obtain rfl:=qzxc H rx (by rw[hh];rfl);refine Ran.new (ob:=.mapIter (some (g.blk id)) es.length #[] es.length) (bo:=0) (st:=0) (cp:=0) (v:=.pointer (some ⟨w.heap.size,0,none⟩)) H ⟨w,rfl,rfl,rfl,rfl,Gcy _,?_⟩ rfl ?_
  ·simp[execOp,ho,hv,Instr.range,run_underlying hu,Result.andThen,MapKept.run_getObj_map hb]
  intro g' w' hle hblk _ _ _ hnew;have he2:=hle.ep id;refine⟨⟨by omega,g.blk id,fun e=>((hle.same id (by omega)).1).symm,by rw[hblk];exact hnew⟩,fun he=>.ptr _ _ _ _ rfl (by rw[he];exact Gcy _) (fun _=>by rw[hblk])⟩
theorem qzss{o:Oper}{x:Operand}{x':AArg}(H:HR E g h w)(ht:RVs g w t a.tmps.toList)(ho:o.op=.entry x)(hx:qzm x x'=true)(hok:((AOp.mentry x').req (argv E t) h).ok):Ran E P (execOp a.eval o) g h w ((AOp.mentry x').req (argv E t) h):=by
 have rx:=qzp H ht hx;simp only[AOp.req,qzgb]at hok ⊢;generalize argv E t x'=X at *;generalize hv:a.eval x=v at rx;cases X<;>simp only[Req.fail]at hok ⊢;rename_i id ep off;cases off with
 |succ n=>simp only at hok
 |zero =>
  simp only at hok ⊢;cases hh:h id<;>simp only[hh]at hok ⊢<;>(try (exact hok.elim));rename_i ep' mm seen;cases mm with
  |none=>exact hok.elim
  |some mm =>
   obtain⟨M,eM,n⟩:=mm;simp only at hok ⊢;cases hM:h M<;>simp only[hM]at hok ⊢<;>(try (exact hok.elim));rename_i eM' es;obtain⟨rfl,rfl,hn,hs,hl⟩:=hok;have hO:=H.obj id;rw[hh]at hO;obtain⟨_,bM,hbM,hb⟩:=hO;have hOM:=H.obj M;rw[hM]at hOM;obtain⟨arr,hbm,hsz,hr⟩:=hOM;have hepM:g.ep M=eM:=by rw[H.ep M,hM];rfl
   rw[hbM hepM.symm]at hb
   have hp:v=.pointer (some ⟨g.blk id,0,none⟩):=by
    cases rx with
    |ptr _ _ _ _ _ _ hp=>exact hp (by rw[H.ep id,hh];rfl)
   subst hp;obtain⟨sn,k,rfl⟩:∃sn k,seen=sn++[k]:=⟨seen.dropLast,seen.getLast hs,(List.dropLast_concat_getLast hs).symm⟩;simp only[List.getLastD_concat]at hl ⊢;have hk:k<es.length:=by omega
   have hka:k<arr.size:=by omega
   obtain⟨q1,q2,q3⟩:=hr k es[k] arr[k] (Gbe hk) (Gab hka);have hnd:(arr.toList.map (·.born)).Nodup:=by have:arr.toList.map (·.born)=List.range arr.size:=(by refine List.ext_getElem (by simp) fun i h1 h2=>?_;simp at h1 h2 ⊢;exact(hr i (es[i]'(by omega)) arr[i] (Gbe _) (Gab _)).2.2);rw[this];exact List.nodup_range
   have he:=run_entry_at (P:=P) w (g.blk id) (g.blk M) n sn.toArray arr es.length arr[k] (by rw[q3,hb,hn];simp) hbm (by simp) hnd;refine Ran.same H (v:=.tuple #[arr[k].key,arr[k].val]) ?_ ?_
   ·simp[execOp,ho,hv,he,Result.andThen]
   ·refine .tup _ _ rfl fun i y u hy hu=>?_
    match i with
    |0=>simp[hk]at hy hu;subst hy;subst hu;exact q1
    |1=>simp[hk]at hy hu;subst hy;subst hu;exact q2
    |i+2=>simp at hy
theorem qzye{o:Oper}{x:Operand}{x':AArg}{id ep:Nat}{seen:List Nat}{M eM n:Nat}{es:List (AVal×AVal)}(H:HR E g h w)(ht:RVs g w t a.tmps.toList)(ho:o.op=.next x false)(hx:qzm x x'=true)(hX:argv E t x'=.ptr id ep 0) (hid:h id=.miter ep (some (M,eM,n)) seen) (hM:h M=.amap eM es) (hn:es.length=n) : ((∀k,k<n->k∈seen)/\(execOp a.eval o).run P w=.ok (.value (.tuple #[.bool false])) w) \/ ∃k,k<n/\k∉seen/\Ran E P (execOp a.eval o) g h w ⟨True,[],.tup [.bool true,(es.getD k (.top,.top)).1,(es.getD k (.top,.top)).2],some (id,.miter ep (some (M,eM,n)) (seen++[k]))⟩:=by
 have rx:=qzp H ht hx;rw[hX]at rx;generalize hv:a.eval x=v at rx;have hO:=H.obj id;rw[hid]at hO;obtain⟨h0,bM,hbM,hb⟩:=hO;have hOM:=H.obj M;rw[hM]at hOM;obtain⟨arr,hbm,hsz,hr⟩:=hOM;have hepM:g.ep M=eM:=by rw[H.ep M,hM];rfl
 have ebM:=hbM hepM.symm;subst ebM
 have hp:v=.pointer (some ⟨g.blk id,0,none⟩):=by
  cases rx with
  |ptr _ _ _ _ _ _ hp=>exact hp (by rw[H.ep id,hid];rfl)
 subst hp;have hborn:∀i (hi:i<arr.size),arr[i].born=i:=fun i hi=>(hr i (es[i]'(by omega)) arr[i] (Gbe _) (Gab hi)).2.2;rcases run_next_at (P:=P) w o.type (g.blk id) (g.blk M) n n seen.toArray arr es.length hb hbm (fun m hm=>by obtain⟨i,hi,rfl⟩:=List.getElem_of_mem hm;simp at hi ⊢;rw[hborn i hi];omega) (Gcy _) with ⟨h1,h2⟩ | ⟨e,he,w1,hal,h2⟩
 ·refine .inl ⟨fun k hk=>?_,by simp[execOp,ho,hv,h2,Result.andThen]⟩;by_cases hc:k∈seen
  ·exact hc
  ·have hka:k<arr.size:=by omega
   have:arr[k]∈leftOf arr seen.toArray:=by simp only[leftOf,Array.mem_filter];exact⟨by simp,by simp[hborn k hka,hc]⟩
   have:=Array.size_pos_of_mem this;omega
 ·simp only[leftOf,Array.toList_filter,List.mem_filter]at he;obtain⟨hm,hns⟩:=he;obtain⟨k,hk,rfl⟩:=List.getElem_of_mem hm;simp at hk hns;rw[hborn k hk]at hns;refine .inr ⟨k,by omega,hns,?_⟩;obtain⟨q1,q2,q3⟩:=hr k (es[k]'(by omega)) arr[k] (Gbe _) (Gab hk);have hke:k<es.length:=by omega
  refine qzpb (n:=.value (.tuple #[.bool true,arr[k].key,arr[k].val])) (v:=.tuple #[.bool true,arr[k].key,arr[k].val]) (ob:=.mapIter (some (g.blk M)) n (seen++[k]).toArray n) (w1:=w1) H (by rw[hid];rfl) hal hb ?_ (.inl rfl) (by rw[hid];rfl) ?_
  ·simp only[execOp,ho,hv,Sem.run_bind,h2,Result.andThen];simp[ChangeMaps.setBlock,hborn k hk,hn]
  ·intro w' hle hw';refine⟨⟨h0,g.blk M,fun _=>rfl,hw'⟩,.tup _ _ rfl fun i y u hy hu=>?_⟩
   match i with
   |0=>simp at hy hu;subst hy;subst hu;exact .bool _
   |1=>simp[hke]at hy hu;subst hy;subst hu;exact q1.mono hle
   |2=>simp[hke]at hy hu;subst hy;subst hu;exact q2.mono hle
   |i+3=>simp at hy
theorem qzoh{o:Oper}{ty e yt:TypeId}{ng:Bool}{x:Operand}{x':AArg}(H:HR E g h w)(ht:RVs g w t a.tmps.toList)(ho:o.op=.binOp (if ng then .neq else .eql) ty x (.const (.slice none 0 0)) yt)(hx:qzm x x'=true)(hu:P.underlying ty=some (.slice e))(hok:((AOp.isnil ng x').req (argv E t) h).ok):Ran E P (execOp a.eval o) g h w ((AOp.isnil ng x').req (argv E t) h):=by
 have rx:=qzp H ht hx;simp only[AOp.req]at hok ⊢;generalize argv E t x'=X at *;generalize hv:a.eval x=v at rx;have hg:∀(op:BinOp) (ad:Option Addr) (n c:Nat),(eqGuard op ty x (.const (.slice none 0 0)) (.slice ad n c) (.slice none 0 0)).run P w=.ok () w:=fun op ad n c=>by unfold eqGuard;cases op<;>rfl
 have he:∀(ad:Option Addr) (n c:Nat),(Op.equal ty (.slice ad n c) (.slice none 0 0)).run P w=.ok ad.isNone w:=fun ad n c=>by show(Op.equalIn (9999+1) ty (.slice ad n c) (.slice none 0 0)).run P w=_;rw[Op.equalIn,Sem.run_bind,run_underlying hu];cases ad<;>rfl
 have run:∀(ad:Option Addr) (n c:Nat),v=.slice ad n c->(execOp a.eval o).run P w=.ok (.value (.bool (if ng then !ad.isNone else ad.isNone))) w:=by
  rintro ad n c rfl;have hc0:a.eval (.const (.slice none 0 0))=.slice none 0 0:=rfl;cases ng with
  |true =>have e1:binOp .neq ty (.slice ad n c) (.slice none 0 0)=(do pure (.bool (!(<-Op.equal ty (.slice ad n c) (.slice none 0 0))))):=rfl;simp[execOp,ho,hv,hc0,hg,e1,he,Result.andThen]
  |false =>have e1:binOp .eql ty (.slice ad n c) (.slice none 0 0)=(do pure (.bool (<-Op.equal ty (.slice ad n c) (.slice none 0 0)))):=rfl;simp[execOp,ho,hv,hc0,hg,e1,he,Result.andThen]
 cases X<;>simp only[Req.fail]at hok ⊢
 case nils =>cases rx;refine Ran.same H (run none 0 0 rfl) ?_;cases ng<;>exact .bool _
 case slc st n f =>
  cases rx with
  |slc0 _ _ ad cap=>exact absurd hok (Nat.lt_irrefl 0)
  |slc _ _ _ b off cap =>refine Ran.same H (run (some ⟨b,off,none⟩) n cap rfl) ?_;cases ng<;>exact .bool _
 case vec id ep lo n =>obtain⟨ad,cap,e1,_⟩:=qzew H rx hok;refine Ran.same H (run (some ad) n cap e1) ?_;cases ng<;>exact .bool _
theorem wz7v{o:Oper}{ty e yt:TypeId}{ng:Bool}{x:Operand}{x':AArg}(H:HR E g h w)(ht:RVs g w t a.tmps.toList)(ho:o.op=.binOp (if ng then .neq else .eql) ty x (.const (.pointer none)) yt)(hx:qzm x x'=true)(hu:P.underlying ty=some (.pointer e))(hok:((AOp.isnilp ng x').req (argv E t) h).ok):Ran E P (execOp a.eval o) g h w ((AOp.isnilp ng x').req (argv E t) h):=by
 have rx:=qzp H ht hx;simp only[AOp.req]at hok ⊢;generalize argv E t x'=X at *;generalize hv:a.eval x=v at rx;have hg:∀(op:BinOp) (ad:Option Addr),(eqGuard op ty x (.const (.pointer none)) (.pointer ad) (.pointer none)).run P w=.ok () w:=fun op ad=>by unfold eqGuard;cases op<;>rfl
 have he:∀(ad:Option Addr),(Op.equal ty (.pointer ad) (.pointer none)).run P w=.ok ad.isNone w:=fun ad=>by show(Op.equalIn (9999+1) ty (.pointer ad) (.pointer none)).run P w=_;rw[Op.equalIn,Sem.run_bind,run_underlying hu];cases ad<;>rfl
 have run:∀(ad:Option Addr),v=.pointer ad->(execOp a.eval o).run P w=.ok (.value (.bool (if ng then !ad.isNone else ad.isNone))) w:=by
  rintro ad rfl;have hc0:a.eval (.const (.pointer none))=.pointer none:=rfl;cases ng with
  |true =>have e1:binOp .neq ty (.pointer ad) (.pointer none)=(do pure (.bool (!(<-Op.equal ty (.pointer ad) (.pointer none))))):=rfl;simp[execOp,ho,hv,hc0,hg,e1,he,Result.andThen]
  |false =>have e1:binOp .eql ty (.pointer ad) (.pointer none)=(do pure (.bool (<-Op.equal ty (.pointer ad) (.pointer none)))):=rfl;simp[execOp,ho,hv,hc0,hg,e1,he,Result.andThen]
 cases X<;>simp only[Req.fail]at hok ⊢
 case nilp =>cases rx;refine Ran.same H (run none rfl) ?_;cases ng<;>exact .bool _
 case cptr f lim off =>
  cases rx with
  |cptr _ _ _ b base =>refine Ran.same H (run (some ⟨b,base+off,none⟩) rfl) ?_;cases ng<;>exact .bool _
end
theorem qzne:∀{n:Nat} {f:Nat->List AVal} {s:List UInt8},qzal n f=some s->s.length=n/\∀k,k<n->∃m,f k=[.int .u8 m]/\s[k]?=some (UInt8.ofNat m.toNat)
 |0,f,s,h=>by simp only[qzal,Gdq]at h;subst h;exact⟨rfl,fun k hk=>absurd hk (Gde _)⟩
 |n+1,f,s,h=>by
  unfold qzal at h;split at h
  ·rename_i m hm;cases hb:qzal n (fun k=>f (k+1)) with
   |none=>simp[hb]at h
   |some s' =>
    simp only[hb,Gdo,Gdq]at h;subst h;obtain⟨h1,h2⟩:=qzne hb;refine⟨by simp[h1],fun k hk=>?_⟩;cases k with
    |zero=>exact⟨m,hm,rfl⟩
    |succ k=>obtain⟨m',a,b⟩:=h2 k (by omega);exact⟨m',a,by simpa using b⟩
  ·cases h
theorem qzxb(ns:List Int):∀(b:ByteArray),(ns.foldl (fun r n=>r.push (UInt8.ofNat n.toNat)) b).data.toList=b.data.toList++ns.map fun n=>UInt8.ofNat n.toNat:=by
 induction ns with
 |nil=>intro b;simp
 |cons n ns ih=>intro b;simp only[List.foldl_cons,ih];simp[ByteArray.push]
section
variable {E:Nat->AVal}{P:Program}{g:Gh}{h:qzl}{w:World}{t:List AVal}{a:Act}
theorem qzmk{o:Oper}{src dst e:TypeId}{x:Operand}{x':AArg}(H:HR E g h w)(ht:RVs g w t a.tmps.toList)(ho:o.op=.convert src dst x)(hx:qzm x x'=true)(hs:P.underlying src=some (.slice e)) (he:P.underlying e=some (.int .u8)) (hd:P.underlying dst=some .string) (hok:((AOp.b2s x').req (argv E t) h).ok):Ran E P (execOp a.eval o) g h w ((AOp.b2s x').req (argv E t) h):=by
 have rx:=qzp H ht hx;simp only[AOp.req]at hok ⊢;generalize argv E t x'=X at *;unfold qzdu at hok ⊢;cases hb:qzal (qz5 1 X h).n (qz5 1 X h).f with
 |none=>simp only[hb,Req.fail]at hok
 |some s =>
  simp only[hb]at hok ⊢;obtain⟨vals,sr⟩:=qzmq H rx hok.1 hok.2;obtain⟨h1,h2⟩:=qzne hb;generalize (qz5 1 X h).n=n at *;generalize (qz5 1 X h).f=f at *;obtain⟨ad,cap,hv,hcap,hc⟩:=sr.val;have hval:∀k,k<n->∃m,vals k 0=.int .u8 m/\s[k]?=some (UInt8.ofNat m.toNat):=fun k hk=>by obtain⟨m,e1,e2⟩:=h2 k hk;have:=sr.rv k 0 (.int .u8 m) hk (by rw[e1];rfl);exact⟨m,rv_int' this,e2⟩
  let num:Nat->Int:=fun k=>match vals k 0 with | .int _ m=>m | _=>0
  have hnum:∀k,k<n->vals k 0=.int .u8 (num k)/\s[k]?=some (UInt8.ofNat (num k).toNat):=fun k hk=>by
   obtain⟨m,e1,e2⟩:=hval k hk;have:num k=m:=by show(match vals k 0 with | .int _ m=>m | _=>0)=m;rw[e1]
   rw[this];exact⟨e1,e2⟩
  have hS:s=((List.range n).map num).map fun m=>UInt8.ofNat m.toNat:=by
   apply Ga7;intro k;by_cases hk:k<n
   ·rw[(hnum k hk).2];simp[hk]
   ·rw[Gbf (by omega)];simp[Nat.le_of_not_lt hk]
  refine Ran.same H (v:=.string (((List.range n).map num).foldl (fun r n=>r.push (UInt8.ofNat n.toNat)) ByteArray.empty)) ?_ (.str _ _ (by rw[qzxb,hS];rfl));simp only[execOp,ho,hv,Sem.run_bind,run_convert_bytes_string w src dst e ad n cap hs he hd];rcases hc with h0|⟨b,off,rfl,hcell⟩
  ·subst h0;cases ad with
   |none=>simp[Conv.bytesToString]
   |some ad =>have:=run_bytesToString (P:=P) w ad 0 cap [] (by simp[loadCells,loadCellsFrom]);simp[this,Result.andThen]
  ·have hl:=run_loadCells_list (P:=P) w ⟨b,off,none⟩ (((List.range n).map num).map (Value.int .u8)) (fun j v hj=>by
    rw[qzcn];by_cases hk:j<n
    ·have e1:=hcell j 0 hk (by omega);simp only[List.map_map,Gbh,Gbj hk,Gdo,Function.comp,Gdq]at hj;rw[<-hj,<-(hnum j hk).1];simpa using e1
    ·rw[Gbf (by simp;omega)]at hj;cases hj)
   simp only[Gbu,Gbv]at hl;have:=run_bytesToString (P:=P) w ⟨b,off,none⟩ n cap _ hl;simp[this,Result.andThen]
where
 rv_int' {g:Gh} {w:World} {k:IntKind} {n:Int} {v:Value} (hv:RV g w (.int k n) v):v=.int k n:=by cases hv;rfl
theorem Ran.newfz{s:Sem Next}{rd:List Nat}{x:AVal}{p:Prop}{i:Nat}{ob:Obj}{v:Value}(H:HR E g h w)(hr:∃w0:World,w0.heap=w.heap/\w0.os=w.os/\w0.tape=w.tape/\w0.output=w.output/\w.drawn<=w0.drawn/\s.run P w=.ok (.value v) { w0 with heap:=w0.heap.push ob })(hob:∀(g':Gh) (w':World),GLe g w g' w'->g'.fz w.heap.size->w'.heap[w.heap.size]?=some ob->RV g' w' x v) :
  Ran E P s g h w ⟨p,rd,x,some (i,.gone ((h i).ep+1))⟩:=by
 obtain⟨w0,e1,e2,e3,e4,e5,hr⟩:=hr
 let g':Gh:=⟨g.blk,fun j=>if j=i then(h i).ep+1 else g.ep j,g.bo,g.st,g.cp,fun b=>g.fz b\/b=w.heap.size⟩
 let w':World:={ w0 with heap:=w0.heap.push ob }
 have hold:∀b,b<w.heap.size->w'.heap[b]?=w.heap[b]?:=fun b hb=>by show(w0.heap.push ob)[b]?=_;rw[e1,Gae,Gd3 (by omega)]
 have hnew:w'.heap[w.heap.size]?=some ob:=by show(w0.heap.push ob)[w.heap.size]?=_;rw[e1,Gae,Gd4 rfl]
 have hle:GLe g w g' w':=by
  refine⟨fun b hb=>⟨.inl hb,hold b (H.fzb b hb)⟩,fun j=>?_,fun j hj=>⟨rfl,rfl,rfl,rfl⟩⟩;show g.ep j<=if j=i then(h i).ep+1 else g.ep j;split
  ·rename_i e;subst e;rw[H.ep j];omega
  ·exact Gcy _
 have hsz:w'.heap.size=w.heap.size+1:=by show(w0.heap.push ob).size=_;rw[e1];simp
 obtain⟨H',S'⟩:=HR.upd (g':=g') (w':=w') (i:=i) (o':=.gone ((h i).ep+1)) H hle (fun j hj=>Gd3 hj) (Gd4 rfl) (fun b hb _=>hold b hb) (by rw[hsz];omega) trivial (fun e=>by cases e) (fun e=>by cases e)
  (fun b hb=>by
   rcases hb with hb|rfl
   ·exact .inl hb
   ·exact .inr (.inr (Gcy _)))
  (fun b hb=>by
   rw[hsz];rcases hb with hb|rfl
   ·have:=H.fzb b hb;omega
   ·omega) e2 e3 e4 e5
 exact⟨_,v,w',g',hr,.inl rfl,hob g' w' hle (.inr rfl) hnew,H',S',fun e=>by cases e⟩
theorem qz1y{o:Oper}{src dst e:TypeId}{s:Nat}{x:Operand}{x':AArg}(H:HR E g h w)(ht:RVs g w t a.tmps.toList)(ho:o.op=.convert src dst x)(hx:qzm x x'=true)(hs:P.underlying src=some .string) (hd:P.underlying dst=some (.slice e)) (he:P.underlying e=some (.int .u8)) (hok:((AOp.s2b s x').req (argv E t) h).ok):Ran E P (execOp a.eval o) g h w ((AOp.s2b s x').req (argv E t) h):=by
 have rx:=qzp H ht hx;simp only[AOp.req]at hok ⊢;generalize argv E t x'=X at *;generalize hv:a.eval x=v at rx;cases X<;>simp only[Req.fail]at hok;rename_i bs;cases rx with
 |str _ ba hb =>
  have run:=run_bytes_of_string (P:=P) w src dst e ba hs hd he;have hge:=qzow w ba.size 0 e;have hsz:ba.size=bs.length:=by rw[<-hb];rfl
  refine Ran.newfz (ob:=.cells (bytesRow ba (grownCap w ba.size 0 e)) e ((bytesRow ba (grownCap w ba.size 0 e)).size,(bytesRow ba (grownCap w ba.size 0 e)).size+1)) (v:=.slice (some ⟨w.heap.size,0,none⟩) ba.size (grownCap w ba.size 0 e)) H ⟨w.drew,rfl,rfl,rfl,rfl,Gcz _,by simp only[execOp,ho,hv,Sem.run_bind,run];rfl⟩ ?_;intro g' w' hle hfz hnew;rw[hsz];rw[hsz]at hge;refine .slc 1 bs.length _ w.heap.size 0 _ (fun k _=>.int .u8 (wzw bs k)) hfz (by omega) (fun _ _=>rfl) (fun i j hi hj=>?_) (fun _ _ _ _=>rfl) (fun i j y hi hy=>?_)
  ·obtain rfl:j=0:=by omega
   have hlt:i<ba.data.size:=by show i<ba.size;omega
   have e1:(bytesRow ba (grownCap w bs.length 0 e))[0+i*1+0]?=some (.int .u8 (wzw bs i)):=by have e2:0+i*1+0=i:=(by omega);rw[e2];unfold bytesRow;rw[Gaa (by simp;exact hlt),Array.getElem?_map,Gab hlt];simp only[Gdo,wzw,Int.toNat_natCast,Gdq,Value.int.injEq,true_and];rw[Ga9,<-hb,Array.getElem?_toList,Gab hlt];rfl
   simp only[World.cell?,hnew];rw[hsz];exact e1
  ·cases j with
   |zero=>simp at hy;subst hy;exact .int _ _
   |succ j=>simp at hy
theorem Ran.beside{s:Sem Next}{rd:List Nat}{x:AVal}{p:Prop}{i:Nat}{ob:Obj}{v:Value}(H:HR E g h w)(hr:s.run P w=.ok (.value v) { w with heap:=w.heap.push ob })(hob:∀(g':Gh) (w':World),GLe g w g' w'->g'.fz w.heap.size->w'.heap[w.heap.size]?=some ob->RV g' w' x v) :
  Ran E P s g h w ⟨p,rd,x,some (i,h i)⟩:=by
 let g':Gh:=⟨g.blk,g.ep,g.bo,g.st,g.cp,fun b=>g.fz b\/b=w.heap.size⟩
 let w':World:={ w with heap:=w.heap.push ob }
 have hold:∀b,b<w.heap.size->w'.heap[b]?=w.heap[b]?:=fun b hb=>by show(w.heap.push ob)[b]?=_;rw[Gae,Gd3 (by omega)]
 have hnew:w'.heap[w.heap.size]?=some ob:=by show(w.heap.push ob)[w.heap.size]?=_;rw[Gae,Gd4 rfl]
 have hle:GLe g w g' w':=⟨fun b hb=>⟨.inl hb,hold b (H.fzb b hb)⟩,fun _=>Gcy _,fun _ _=>⟨rfl,rfl,rfl,rfl⟩⟩;have hsz:w'.heap.size=w.heap.size+1:=by show(w.heap.push ob).size=_;simp
 have hh:putH h (some (i,h i))=h:=by
  funext j;show hset h i (h i) j=h j;simp only[hset];split
  ·rename_i e;rw[e]
  ·rfl
 have H':HR E g' h w':=by
  refine⟨fun j=>(H.obj j).mono hle rfl fun ho=>hold _ ((H.obj j).lt ho),H.ep,H.inj,fun j hj hf=>?_,fun b hb=>?_,fun j=>(H.glob j).mono hle⟩
  ·rcases hf with hf|hf;·exact H.sep j hj hf
   ·have:=(H.obj j).lt hj;have hf':g.blk j=w.heap.size:=hf;omega
  ·rw[hsz];rcases hb with hb|rfl
   ·have:=H.fzb b hb;omega
   ·omega
 have S':Stp g h w g' h w':=by
  refine⟨hle,rfl,rfl,rfl,by rw[hsz];omega,fun b hb _=>hold b hb,fun j ho=>.inl ⟨j,ho,rfl⟩,fun b hb=>?_,Gcy _⟩;rcases hb with hb|rfl
  ·exact .inl hb
  ·exact .inr (.inr (Gcy _))
 refine⟨_,v,w',g',hr,.inl rfl,hob g' w' hle (.inr rfl) hnew,?_,?_,fun e=>by cases e⟩
 ·show HR E g' (putH h (some (i,h i))) w';rw[hh];exact H'
 ·show Stp g h w g' (putH h (some (i,h i))) w';rw[hh];exact S'
theorem qztc{o:Oper}{ty:TypeId}{n st nn s:Nat}{ps:Array (Nat×Operand)}{zero:List AVal}{parts:List (Nat×Nat×AArg)}(H:HR E g h w)(ht:RVs g w t a.tmps.toList)(ho:o.op=.buildSlice ty n ps)(hb:qzf1 P ty n st nn zero ps.toList parts=true)(hok:((AOp.fslice s st nn zero parts).req (argv E t) h).ok):Ran E P (execOp a.eval o) g h w ((AOp.fslice s st nn zero parts).req (argv E t) h):=by
 simp only[AOp.req]at hok ⊢;cases hf:jzv (argv E t) zero parts with
 |none=>simp only[hf,Req.fail]at hok
 |some l =>
  simp only[hf]at hok ⊢;obtain⟨_,hl,hst,h1⟩:=hok;obtain⟨rfl,e,cs',hf2,hlen,hrun⟩:=qzp8 H ht ho hb hf hl;refine Ran.beside (ob:=.cells cs' e (0,0)) H hrun ?_;intro g' w' hle hfz hnew;have hkb:∀k j,k<n->j<st->k*st+j<n*st:=fun k j hk hj=>by have:(k+1)*st<=n*st:=Gdc _ (by omega);rw[Gdj]at this;omega
  have hel:∀k,k<n->((kz1 st n l).getD k [])=(l.drop (k*st)).take st:=fun k hk=>qzpc n l k hl hk;refine .slc st n _ w.heap.size 0 n (fun k j=>cs'.getD (k*st+j) undef) hfz (Gcy _) (fun i hi=>?_) (fun i j hi hj=>?_) (fun i j hi hj=>?_) (fun i j y hi hy=>?_)
  ·rw[hel i hi];have:(i+1)*st<=n*st:=Gdc _ (by omega);rw[Gdj]at this;simp;omega
  ·have hb':=hkb i j hi hj;simp only[World.cell?,hnew];have e1:0+i*st+j=i*st+j:=by omega
   rw[e1];simp[Array.getD,hlen,hb']
  ·have hb':=hkb i j hi hj;have hv':cs'.toList[i*st+j]?=some (cs'.getD (i*st+j) undef):=by simp[Array.getD,hlen,hb']
   exact qzcy hf2 h1 _ (Gb9 hv')
  ·rw[hel i hi,Gbm]at hy;split at hy
   ·rename_i hj;rw[Gbd]at hy;have hb':=hkb i j hi hj;have hv':cs'.toList[i*st+j]?=some (cs'.getD (i*st+j) undef):=by simp[Array.getD,hlen,hb']
    exact(hf2.2 _ y _ hy hv').mono hle
   ·cases hy
theorem qzyh{o:Oper}{ty e:TypeId}{s st bytes:Nat}{zero:List AVal}{zl:List Value}{x y:Operand}{x':AArg}(H:HR E g h w)(ht:RVs g w t a.tmps.toList)(ho:o.op=.makeSlice ty x y)(hx:qzm x x'=true)(hy:qzm y x'=true)(hu:P.underlying ty=some (.slice e)) (hs:szOf P e=some st) (hb:byOf P e=some bytes) (hb0:0<bytes) (hz:qz0 P e=some zl) (hzl:vzm zl zero=true)(hok:((AOp.mks s st bytes zero x').req (argv E t) h).ok):Ran E P (execOp a.eval o) g h w ((AOp.mks s st bytes zero x').req (argv E t) h):=by
 have rx:=qzp H ht hx;have ry:=qzp H ht hy;simp only[AOp.req]at hok ⊢;generalize argv E t x'=X at *;generalize hv:a.eval x=v at rx;generalize hv':a.eval y=v' at ry;cases X<;>simp only[Req.fail]at hok;rename_i k n;obtain rfl:=qzmk.rv_int' rx;obtain rfl:=qzmk.rv_int' ry;obtain⟨_,h0,hby,hst,hlz,hone⟩:=hok;have hzr:=kzk (g:=g) (w:=w) hzl;have hzlen:zl.length=st:=by rw[<-hlz];exact hzr.1
 obtain⟨i,z,hi,hzz,hsz,hbz,hzs⟩:=qznw hs hb hz hzlen;have hzc:zl=z.cells.toList:=qzlr hi hzz hz;have h63:n<=9223372036854775807:=by have:n*1<=n*bytes:=Int.mul_le_mul_of_nonneg_left (by omega) h0;omega
 have run:=run_make (P:=P) w ty e i z hu hi hzz k k n n h0 (Gaw _) (by rw[hbz,Int.mul_comm];omega) h63;refine Ran.new (ob:=.cells (madeCells z.cells (n.toNat*i.size)) e (0,0)) (bo:=0) (st:=st) (cp:=n.toNat) H ⟨w,rfl,rfl,rfl,rfl,Gcy _,by simp only[execOp,ho,hv,hv',Sem.run_bind,run];rfl⟩ rfl ?_;intro g' w' hle hblk hbo hst' hcp hnew;refine⟨qzpu hst hblk hbo hst' hcp (Gcy _) hnew ?_ (fun _ _=>hlz) (fun q j hq hj=>?_),fun he=>?_⟩
 ·rw[size_madeCells,hsz];omega
 ·have hbd:=qzdl hq hj;have hj':j<z.cells.size:=by omega
  have e1:(q*st+j)%z.cells.size=j:=by rw[hzs,Gda,Gc8];exact Gc5 hj
  have e2:(madeCells z.cells (n.toNat*i.size))[0+q*st+j]?=some z.cells[j]:=by unfold madeCells;rw[Gdk,Array.getElem?_map,Array.getElem?_range,Gd4 (by rw[hsz];exact hbd)];simp only[Gdo,e1,getElem!_pos z.cells j hj']
  have e3:zl[j]?=some z.cells[j]:=by rw[hzc,Array.getElem?_toList,Gab hj']
  have hz0:∃y,zero[j]?=some y:=⟨_,Gbe (by omega)⟩;exact⟨_,e2,qzcy hzr hone _ (Gb9 e3),fun y hy=>(hzr.2 j y _ hy e3).mono hle⟩
 ·exact .vec _ _ _ _ _ rfl (by rw[he];exact Gcy _) (fun _=>qzho hblk hbo hcp (Gcy _))
theorem qzxk{id ep st m a0 cnt:Nat}{f fn:Nat->List AVal}{arr:Array Value}{ty:TypeId}{vals:Nat->Nat->Value}{w':World}(hst:g.st id=st)(h0:0<st)(hn:m<=g.cp id)(hle:GLe g w g w')(hfit:g.bo id+g.cp id*st<=arr.size) (hel:∀k,k<m->(f k).length=st/\∀(j:Nat) (x:AVal) (v:Value),(f k)[j]?=some x->arr[g.bo id+k*st+j]?=some v->v.oneCell'=true/\RV g w x v)(hc:a0+cnt<=m) (hl:∀k,k<cnt->(fn k).length=st) (h1:∀k j,k<cnt->j<st->(vals k j).oneCell'=true) (hr:∀(k j:Nat) (x:AVal),k<cnt->(fn k)[j]?=some x->RV g w x (vals k j))(hb:w'.heap[g.blk id]?=some (.cells (arr.toList.take (g.bo id+a0*st)++wzh st cnt vals++arr.toList.drop (g.bo id+a0*st+(wzh st cnt vals).length)).toArray ty (0,0))) :
  OR g w' id (.vec ep st m (fun k=>if a0<=k/\k<a0+cnt then fn (k-a0) else f k)):=by
 have hmul:∀k,k<m->(k+1)*st<=g.cp id*st:=fun k hk=>Gdc _ (by omega);have e0:(a0+cnt)*st<=g.cp id*st:=Gdc _ (by omega);rw[Gcm]at e0;have hlen:=qz2 st cnt vals;have hgl:=fun j=>yzx arr.toList (wzh st cnt vals) (g.bo id+a0*st) j (by rw[hlen];simp;omega);refine⟨hst,h0,hn,_,ty,hb,by simp;omega,fun k hk=>?_⟩;have hk1:=hmul k hk;rw[Gdj]at hk1;by_cases hin:a0<=k/\k<a0+cnt
 ·simp only[Gd4 hin];refine⟨hl _ (by omega),fun j x v hx hv=>?_⟩;have hj:j<st:=by rw[<-hl (k-a0) (by omega)];exact(Gbg.1 hx).1
  have e1:k*st=a0*st+(k-a0)*st:=by rw[<-Gcm];congr 1;omega
  have hbd:=qzdl (k:=k-a0) (n:=cnt) (st:=st) (j:=j) (by omega) hj;rw[Gbn,hgl,Gd3 (by omega),Gd4 (by rw[hlen];omega)]at hv;have e2:g.bo id+k*st+j-(g.bo id+a0*st)=(k-a0)*st+j:=by omega
  rw[e2,qzft (by omega) hj]at hv;obtain rfl:=Gdp hv;exact⟨h1 _ _ (by omega) hj,(hr _ _ x (by omega) hx).mono hle⟩
 ·simp only[Gd3 hin];obtain⟨hfl,hcell⟩:=hel k hk;refine⟨hfl,fun j x v hx hv=>?_⟩;have hj:j<st:=by rw[<-hfl];exact(Gbg.1 hx).1
  rw[Gbn,hgl,hlen]at hv
  have hdis:¬(g.bo id+a0*st<=g.bo id+k*st+j/\g.bo id+k*st+j<g.bo id+a0*st+cnt*st):=by
   rintro⟨q1,q2⟩;rcases Gc3 k a0 with hlt|hge
   ·have:(k+1)*st<=a0*st:=Gdc _ hlt;rw[Gdj]at this;omega
   ·have:(a0+cnt)*st<=k*st:=Gdc _ (by omega);rw[Gcm]at this;omega
  by_cases j1:g.bo id+k*st+j<g.bo id+a0*st
  ·rw[Gd4 j1]at hv;have:=hcell j x v hx (by simpa using hv);exact⟨this.1,this.2.mono hle⟩
  ·rw[Gd3 j1,Gd3 (by omega)]at hv;have:=hcell j x v hx (by simpa using hv);exact⟨this.1,this.2.mono hle⟩
theorem qz3f{st n:Nat}{l:List Value}{vals:Nat->Nat->Value}(hl:l.length=n*st)(h:∀k j,k<n->j<st->l[k*st+j]?=some (vals k j)):l=wzh st n vals:=by
 apply Ga7;intro q;by_cases hq:q<n*st
 ·have h0:0<st:=by
   rcases Gct st with e|e
   ·subst e;omega
   ·exact e
  have e1:q / st<n:=by rw[Nat.div_lt_iff_lt_mul h0];exact hq
  have e2:q%st<st:=Nat.mod_lt _ h0;have e3:q / st*st+q%st=q:=by rw[Gda];exact Nat.div_add_mod q st
  have h1:=h _ _ e1 e2;have h2:=qzft (st:=st) (m:=n) (vals:=vals) e1 e2;rw[e3]at h1 h2;rw[h1,h2]
 ·rw[Gbf (by omega),Gbf (by rw[qz2];omega)]
theorem qzod(P:Program)(o:Oper)(U:Operand->Value)(x y:Operand)(tx ty:TypeId)(u v r:Value)(w w':World)(ho:o.op=.call { callee:=.builtin .copy,args:=#[x,y],argTypes:=#[tx,ty] })(hx:U x=u)(hy:U y=v)(hr:(Builtin.copy_ #[tx,ty] o.type #[u,v]).run P w=.ok r w'):(execOp U o).run P w=.ok (.value r) w':=by simp[execOp,ho,resolve,invoke,builtin,hx,hy,hr]
theorem qzm3(P:Program)(o:Oper)(U:Operand->Value)(x:Operand)(tx:TypeId)(u r:Value)(w w':World)(ho:o.op=.call { callee:=.builtin .clear,args:=#[x],argTypes:=#[tx] })(hx:U x=u)(hr:(Builtin.clear_ #[tx] o.type #[u]).run P w=.ok r w'):(execOp U o).run P w=.ok (.value r) w':=by simp[execOp,ho,resolve,invoke,builtin,hx,hr]
theorem qzwo{o:Oper}{tx ty e:TypeId}{st0:Nat}{x y:Operand}{x' y':AArg}(H:HR E g h w)(ht:RVs g w t a.tmps.toList)(ho:o.op=.call { callee:=.builtin .copy,args:=#[x,y],argTypes:=#[tx,ty] })(hx:qzm x x'=true)(hy:qzm y y'=true)(hu:P.underlying tx=some (.slice e)) (hs:szOf P e=some st0) (hok:((AOp.copy st0 x' y').req (argv E t) h).ok):Ran E P (execOp a.eval o) g h w ((AOp.copy st0 x' y').req (argv E t) h):=by
 have rx:=qzp H ht hx;have ry:=qzp H ht hy;simp only[AOp.req]at hok ⊢;generalize argv E t x'=X at *;generalize argv E t y'=Y at *;unfold qznz at hok ⊢;cases X<;>simp only[Req.fail]at hok;rename_i id ep lo n;have hO:=H.obj id;cases hh:h id<;>simp only[hh,Req.fail]at hok hO ⊢
 case vec ep' st m f =>
  obtain⟨h1,h2,rfl,hlo,rfl⟩:=hok;obtain⟨hst,h0,hn,arr,ty',hr,hfit,hel⟩:=hO;obtain⟨vals,src⟩:=qzmq H ry h1 h2;generalize (qz5 st0 Y h).n=q at *;generalize (qz5 st0 Y h).f=f' at *;have how:(h id).owned=true:=by rw[hh];rfl
  obtain⟨ad,cap,e1,hcap,hc⟩:=qzew H rx (by rw[hh];rfl);obtain⟨sad,scap,se,hscap,hsc⟩:=src.val;have hsz:(P.info? e).map (·.size)=some st0:=hs
  obtain⟨i,hi,his⟩:∃i,P.info? e=some i/\i.size=st0:=by
   cases hi:P.info? e with
   |none=>simp[hi]at hsz
   |some i=>exact⟨i,rfl,by simpa [hi] using hsz⟩
  have hmin:Nat.min q n=min q n:=rfl
  have hcells:(Builtin.firstCells st0 (min q n) (.slice sad q scap)).run P w=.ok (wzh st0 (min q n) vals).toArray w:=by
   rcases hsc with e0|⟨b,off,rfl,hcell⟩
   ·have:min q n=0:=(by omega);rw[this];cases sad with
    |none=>simp[Builtin.firstCells,wzh]
    |some s=>simp[Builtin.firstCells,loadCells,loadCellsFrom,wzh]
   ·exact run_firstCells_some (P:=P) w st0 (min q n) ⟨b,off,none⟩ q scap _ (by rw[qz2]) (fun j v hj=>by obtain⟨k,j',hk,hj',rfl,rfl⟩:=qzce hj;rw[qzcn];exact hcell k j' (by omega) hj')
  by_cases hz:min q n=0
  ·-- nothing is written
   have run:(Builtin.copy_ #[tx,ty] o.type #[.slice (some ad) n cap,.slice sad q scap]).run P w=.ok (goInt 0) w:=by rw[hz]at hcells;simp[Builtin.copy_,run_underlying hu,sizeOf,typeInfo,hi,his,Builtin.lenOf,hmin,hz,hcells,wzh,storeCells]
   have hself:=setRow_self w (g.blk id) arr ty' (0,0) hr;refine qzht H how hr (arr':=arr) (v:=goInt 0) (by rw[hself];exact qzod P o a.eval x y tx ty _ _ _ w _ ho e1 se run) (.inl rfl) (by rw[hh];rfl) ?_;intro w' hle hb;refine⟨⟨hst,h0,hn,arr,ty',hb,hfit,fun k hk=>?_⟩,by rw[hz];exact .int _ _⟩;rw[hz];simp only[Gcn,show ¬(lo<=k/\k<lo) by omega,Gd2];exact⟨(hel k hk).1,fun j x v hx hv=>⟨((hel k hk).2 j x v hx hv).1,((hel k hk).2 j x v hx hv).2.mono hle⟩⟩
  ·rcases hc with hc0|⟨rfl,hc⟩;·omega
   ·have e5:(lo+min q n)*st0<=g.cp id*st0:=Gdc _ (by omega);rw[Gcm]at e5;have hst2:=run_storeCells_at P (g.blk id) (g.bo id+lo*g.st id) ty' (wzh st0 (min q n) vals) 0 arr w hr (by rw[qz2,hst];omega) (fun u hu=>by obtain⟨p,hp⟩:=Gb6.1 hu;obtain⟨k,j,hk,hj,rfl,rfl⟩:=qzce hp;exact src.one k j (by omega) hj);simp only[Gcn]at hst2;have run:(Builtin.copy_ #[tx,ty] o.type #[.slice (some ⟨g.blk id,g.bo id+lo*g.st id,none⟩) n cap,.slice sad q scap]).run P w=.ok (goInt (min q n:Nat)) (w.setRow (g.blk id) (arr.toList.take (g.bo id+lo*g.st id)++wzh st0 (min q n) vals++arr.toList.drop (g.bo id+lo*g.st id+(wzh st0 (min q n) vals).length)).toArray):=by simp only[Builtin.copy_,run_underlying hu,sizeOf,typeInfo,hi,his,Builtin.lenOf,hmin,hcells,Sem.run_bind,Result.andThen_ok,hst2];simp[run_underlying hu,hi,his,hcells,hst2,Result.andThen]
    refine qzht H how hr (v:=goInt (min q n:Nat)) (qzod P o a.eval x y tx ty _ _ _ w _ ho e1 se run) (.inl rfl) (by rw[hh];rfl) ?_;intro w' hle hb;rw[hst]at hb;exact⟨qzxk hst h0 hn hle hfit hel (by omega) (fun k hk=>src.len k (by omega)) (fun k j hk hj=>src.one k j (by omega) hj) (fun k j x hk hx=>src.rv k j x (by omega) hx) hb,.int _ _⟩
 all_goals exact hok.elim
theorem qzu3{o:Oper}{tx e:TypeId}{zero:List AVal}{zl:List Value}{x:Operand}{x':AArg}(H:HR E g h w)(ht:RVs g w t a.tmps.toList)(ho:o.op=.call { callee:=.builtin .clear,args:=#[x],argTypes:=#[tx] })(hx:qzm x x'=true)(hu:P.underlying tx=some (.slice e)) (hz:qz0 P e=some zl) (hzl:vzm zl zero=true) (hok:((AOp.clear zero x').req (argv E t) h).ok):Ran E P (execOp a.eval o) g h w ((AOp.clear zero x').req (argv E t) h):=by
 have rx:=qzp H ht hx;simp only[AOp.req]at hok ⊢;generalize argv E t x'=X at *;unfold qzlh at hok ⊢;cases X<;>simp only[Req.fail]at hok;rename_i id ep lo n;have hO:=H.obj id;cases hh:h id<;>simp only[hh,Req.fail]at hok hO ⊢
 case vec ep' st m f =>
  obtain⟨rfl,hlo,hlz,hone⟩:=hok;obtain⟨hst,h0,hn,arr,ty',hr,hfit,hel⟩:=hO;have how:(h id).owned=true:=by rw[hh];rfl
  obtain⟨ad,cap,e1,hcap,hc⟩:=qzew H rx (by rw[hh];rfl);have hzr:=kzk (g:=g) (w:=w) hzl;have hzlen:zl.length=st:=by rw[<-hlz];exact hzr.1
  have rtup:∀w',RV g w' (.tup []) (.tuple #[]):=fun w'=>.tup _ _ rfl fun i x v hx _=>by simp at hx
  by_cases hz0:n=0
  ·subst hz0;have run:(Builtin.clear_ #[tx] o.type #[.slice (some ad) 0 cap]).run P w=.ok (.tuple #[]) w:=by simp[Builtin.clear_,run_underlying hu]
   have hself:=setRow_self w (g.blk id) arr ty' (0,0) hr;refine qzht H how hr (arr':=arr) (v:=.tuple #[]) (by rw[hself];exact qzm3 P o a.eval x tx _ _ w _ ho e1 run) (.inl rfl) (by rw[hh];rfl) ?_;intro w' hle hb;refine⟨⟨hst,h0,hn,arr,ty',hb,hfit,fun k hk=>?_⟩,rtup w'⟩;simp only[Gcn,show ¬(lo<=k/\k<lo) by omega,Gd2];exact⟨(hel k hk).1,fun j x v hx hv=>⟨((hel k hk).2 j x v hx hv).1,((hel k hk).2 j x v hx hv).2.mono hle⟩⟩
  ·rcases hc with hc0|⟨rfl,hc⟩;·omega
   ·have e5:(lo+n)*st<=g.cp id*st:=Gdc _ (by omega);rw[Gcm]at e5
    obtain⟨i,z,hi,hzz⟩:∃(i:TypeInfo) (z:Value),P.info? e=some i/\i.zero=some z:=by
     unfold qz0 at hz;cases hi:P.info? e with
     |none=>simp[hi]at hz
     |some i =>
      cases hzz:i.zero with
      |none =>obtain⟨⟩:=i;simp only at hzz;subst hzz;simp[hi]at hz
      |some z=>exact⟨i,z,rfl,hzz⟩
    have hzc:zl=z.cells.toList:=qzlr hi hzz hz;have hzs:z.cells.size=st:=by rw[<-hzlen,hzc];simp
    have hrow:(Builtin.zeroCells z.cells n).toList=wzh st n (fun _ j=>z.cells.getD j undef):=by
     refine qz3f (by simp[size_zeroCells,hzs]) fun k j hk hj=>?_;have hbd:=qzdl hk hj;have e1:(k*st+j)%z.cells.size=j:=by rw[hzs,Gda,Gc8];exact Gc5 hj
     have hj':j<z.cells.size:=(by omega);rw[Array.getElem?_toList];unfold Builtin.zeroCells;rw[Array.getElem?_map,Array.getElem?_range,Gd4 (by rw[hzs];exact hbd)];simp only[Gdo,e1,getElem!_pos z.cells j hj',Array.getD,hj',dif_pos];rfl
    have hone':∀j,j<st->(z.cells.getD j undef).oneCell'=true/\zl[j]?=some (z.cells.getD j undef):=fun j hj=>by have hj':j<z.cells.size:=(by omega);have e2:z.cells.getD j undef=z.cells[j]:=(by simp[Array.getD,hj']);have e3:zl[j]?=some z.cells[j]:=(by rw[hzc,Array.getElem?_toList,Gab hj']);rw[e2];exact⟨qzcy hzr hone _ (Gb9 e3),e3⟩
    have hst2:=run_storeCells_at P (g.blk id) (g.bo id+lo*g.st id) ty' (wzh st n (fun _ j=>z.cells.getD j undef)) 0 arr w hr (by rw[qz2,hst];omega) (fun u hu=>by obtain⟨p,hp⟩:=Gb6.1 hu;obtain⟨k,j,hk,hj,rfl,rfl⟩:=qzce hp;exact(hone' j hj).1);simp only[Gcn]at hst2;obtain⟨n',rfl⟩:∃n',n=n'+1:=⟨n-1,by omega⟩;have run:(Builtin.clear_ #[tx] o.type #[.slice (some ⟨g.blk id,g.bo id+lo*g.st id,none⟩) (n'+1) cap]).run P w=.ok (.tuple #[]) (w.setRow (g.blk id) (arr.toList.take (g.bo id+lo*g.st id)++wzh st (n'+1) (fun _ j=>z.cells.getD j undef)++arr.toList.drop (g.bo id+lo*g.st id+(wzh st (n'+1) (fun _ j=>z.cells.getD j undef)).length)).toArray):=(by generalize wzh st (n'+1) (fun _ j=>z.cells.getD j undef)=row at hrow hst2 ⊢;simp only[Builtin.clear_,run_underlying hu,Sem.run_bind,Result.andThen_ok,zeroValue,typeInfo];simp[run_underlying hu,hi,hzz,hrow,hst2,zeroValue,typeInfo,Result.andThen]);refine qzht H how hr (v:=.tuple #[]) (qzm3 P o a.eval x tx _ _ w _ ho e1 run) (.inl rfl) (by rw[hh];rfl) ?_;intro w' hle hb;rw[hst]at hb;exact⟨qzxk (fn:=fun _=>zero) hst h0 hn hle hfit hel (by omega) (fun k hk=>hlz) (fun k j hk hj=>(hone' j hj).1) (fun k j x hk hx=>by have hj:j<st:=(by rw[<-hlz];exact(Gbg.1 hx).1);exact hzr.2 j x _ hx (hone' j hj).2) hb,rtup w'⟩
 all_goals exact hok.elim
end
section
variable {E:Nat->AVal}{P:Program}{g:Gh}{h:qzl}{w:World}{t:List AVal}{a:Act}
theorem qzs4{o:Oper}{x y:Operand}{tx e:TypeId}{s st bytes:Nat}{x' y':AArg}{zl:List Value}(H:HR E g h w)(ht:RVs g w t a.tmps.toList)(ho:o.op=.call { callee:=.builtin .append,args:=#[x,y],argTypes:=#[tx,tx] })(hx:qzm x x'=true)(hy:qzm y y'=true)(hu:P.underlying tx=some (.slice e)) (hs:szOf P e=some st) (hb:byOf P e=some bytes) (hz:qz0 P e=some zl) (hzl:zl.length=st) (hb0:0<bytes)(hok:((AOp.append s st bytes x' y').req (argv E t) h).ok):Ran E P (execOp a.eval o) g h w ((AOp.append s st bytes x' y').req (argv E t) h):=by
 have rx:=qzp H ht hx;simp only[AOp.req]at hok ⊢;generalize argv E t x'=X at *;cases X<;>(try (simp only[wzu,Req.fail]at hok;done))
 case nils =>generalize hv:a.eval x=v at rx;cases rx;exact qzpa H ht ho hy hu hs hb hz hzl hb0 hv hok
 case vec id ep lo n=>exact qzo3 H ht ho hy hu hs hb hz hzl hb0 rx hok
theorem qzly{o:Oper}{ao:AOp}(H:HR E g h w)(ht:RVs g w t a.tmps.toList)(hc:jzq P o.op ao=true)(hok:(ao.req (argv E t) h).ok):Ran E P (execOp a.eval o) g h w (ao.req (argv E t) h):=by
 generalize ho:o.op=op at hc;unfold jzq at hc;split at hc
 ·exact qzsm H ht (.inl ho) hc
 ·exact qzsm H ht (.inr ho) hc
 ·simp only[Gai]at hc;exact qzwq H ht ho hc.1.1 hc.1.2 hc.2 hok
 ·rename_i op' ty x y yt op'' bools x' y';simp only[Gai,Gds,Gas,Gao]at hc;obtain⟨⟨⟨rfl,hx⟩,hy⟩,hb⟩:=hc;refine qzys H ht ho hx hy (fun e=>?_) hok;rcases hb with hb|hb
  ·rw[e]at hb;cases hb
  ·split at hb
   ·assumption
   ·cases hb
 ·exact qzzh H ht ho hc hok
 ·exact qz2q H ht ho hc hok
 ·exact qzva H ho hc
 ·exact qzxh H ht ho hc hok
 ·rename_i ty x agg sz y;simp only[Gai,Gds,Gas,Gao]at hc;obtain⟨⟨h1,h2⟩,hx⟩:=hc;exact qzp6 H ht ho hx h1 (fun e=>h2.resolve_left (by rw[e];simp)) hok
 ·simp only[Gai,Gds]at hc;exact qzu9 H ht ho hc.1.2 hc.2 hc.1.1 hok
 ·exact qzuv H ht ho hc hok
 ·rename_i s x f off y;simp only[Gai]at hc;obtain⟨h1,hx⟩:=hc;split at h1
  ·rename_i o' ft hf;simp only[Gai,Gds]at h1;obtain⟨rfl,h2⟩:=h1;split at h2
   ·rename_i n hn;exact qzur H ht ho hx hf hn (by simpa using h2) hok
   ·cases h2
  ·cases h1
 ·rename_i ty x i st x' i';simp only[Gai]at hc;obtain⟨⟨h1,hx⟩,hi⟩:=hc;split at h1
  ·rename_i e he;simp only[Gds]at h1;unfold qzru at he;split at he
   ·rename_i e' hu;obtain rfl:=Gdp he;exact qzsn H ht ho hx hi hu h1 hok
   ·cases he
  ·cases h1
 ·rename_i ty x i nn st x' i';simp only[Gai]at hc;obtain⟨⟨h1,hx⟩,hi⟩:=hc;split at h1
  ·rename_i m e he;simp only[Gai,Gds]at h1;obtain⟨rfl,hs⟩:=h1;unfold qzrq at he;split at he
   ·rename_i n' e' hu;simp only[Gdq,Gdr]at he;obtain⟨rfl,rfl⟩:=he;exact qzta H ht ho hx hi hu hs hok
   ·cases he
  ·cases h1
 ·rename_i ty x f agg off sz y;simp only[Gai]at hc;obtain⟨h1,hx⟩:=hc;split at h1
  ·rename_i o' ft hf;simp only[Gai,Gds,Gas,Gao]at h1;obtain⟨⟨rfl,h2⟩,h3⟩:=h1;exact qzuz H ht ho hx hf h2 (fun e=>h3.resolve_left (by rw[e];simp)) hok
  ·cases h1
 ·simp only[Gai,Gds]at hc;obtain⟨rfl,hx⟩:=hc;exact qzr2 H ht ho hx hok
 ·rename_i ty x i x' i';simp only[Gai]at hc;obtain⟨⟨h1,hx⟩,hi⟩:=hc;split at h1
  ·rename_i hu;exact qzw6 H ht ho hx hi hu hok
  ·cases h1
 ·rename_i ty x i agg n sz x' i';simp only[Gai]at hc;obtain⟨⟨h1,hx⟩,hi⟩:=hc;split at h1
  ·rename_i m e hu;simp only[Gai,Gds]at h1;obtain⟨⟨rfl,h2⟩,h3⟩:=h1;exact jzdb H ht ho hx hi hu h3 h2 hok
  ·cases h1
 ·exact qzu2 H ht ho hc hok
 ·exact qzum H ht ho hc hok
 ·rename_i src dst x k y;simp only[Gai]at hc;obtain⟨⟨h1,h2⟩,hx⟩:=hc;split at h2
  ·rename_i k' hd;simp only[Gds]at h2;subst h2;exact qzwr H ht ho hx h1 hd hok
  ·cases h2
 ·rename_i ty x lo hi isStr st x' lo' hi';simp only[Gai]at hc;obtain⟨⟨⟨h1,hx⟩,hlo⟩,hhi⟩:=hc;split at h1
  ·rename_i hu;subst h1;exact qzob H ht ho hx hlo hhi hu (by simp) hok
  ·rename_i e hu;simp only[Gai,Gds,Gao]at h1;obtain⟨rfl,h2⟩:=h1;exact qzob H ht ho hx hlo hhi hu (by simp;exact h2) hok
  ·cases h1
 ·rename_i args ats isStr x';simp only[Gai,Gds]at hc;obtain⟨⟨⟨h1,h2⟩,hx⟩,hu⟩:=hc;obtain⟨x,rfl⟩:=Array.size_eq_one_iff.1 h1;obtain⟨ty,rfl⟩:=Array.size_eq_one_iff.1 h2;simp only[Gbn,Gbc,Option.bind_some]at hx hu;split at hu
  ·rename_i hd;subst hu;exact qzrx H ht ho rfl rfl hd (by simp) hx hok
  ·rename_i e hd;simp only[Gao]at hu;subst hu;exact qzrx H ht ho rfl rfl hd (by simp) hx hok
  ·cases hu
 ·rename_i args ats s st bytes x' y';split at hc
  ·rename_i x y tx ty hargs hats;simp only[Gai,Gds]at hc;obtain⟨⟨⟨rfl,hx⟩,hy⟩,h2⟩:=hc;obtain rfl:args=#[x,y]:=by rw[<-Gah (xs:=args),hargs]
   obtain rfl:ats=#[tx,tx]:=by rw[<-Gah (xs:=ats),hats]
   split at h2
   ·rename_i e hu;simp only[Gai,Gds,bne_iff_ne]at h2;obtain⟨⟨⟨hs,hb⟩,hb0⟩,hz⟩:=h2;split at hz
    ·rename_i zl hzl;simp only[Gds]at hz;exact qzs4 H ht ho hx hy hu hs hb hzl hz (by omega) hok
    ·cases hz
   ·cases h2
  ·cases hc
 ·rename_i args ats st0 x' y';split at hc
  ·rename_i x y hargs;simp only[Gai]at hc;exact qzzt H ht ho hargs hc.1 hc.2 hok
  ·cases hc
 ·rename_i args ats st0 x' y';split at hc
  ·rename_i x y hargs;simp only[Gai]at hc;exact qzx8 H ht ho hargs hc.1 hc.2 hok
  ·cases hc
 ·rename_i args ats st0 x' y' z';split at hc
  ·rename_i x y z hargs;simp only[Gai]at hc;exact jz9e H ht ho hargs hc.1.1 hc.1.2 hc.2 hok
  ·cases hc
 ·rename_i ty x y yt sh x' y';simp only[Gai,Gds,Gao]at hc;obtain⟨⟨⟨⟨h1,h2⟩,h3⟩,hx⟩,hy⟩:=hc;split at h3
  ·rename_i fs hu;exact qzoa (ng:=false) H ht ho hx hy h1 h2 hu hok
  ·cases h3
 ·rename_i ty x y yt sh x' y';simp only[Gai,Gds,Gao]at hc;obtain⟨⟨⟨⟨h1,h2⟩,h3⟩,hx⟩,hy⟩:=hc;split at h3
  ·rename_i fs hu;exact qzoa (ng:=true) H ht ho hx hy h1 h2 hu hok
  ·cases h3
 ·rename_i ty x yt x';simp only[Gai]at hc;split at hc
  ·rename_i e hu;exact qzoh (ng:=false) H ht ho hc.1 hu hok
  ·cases hc.2
 ·rename_i ty x yt x';simp only[Gai]at hc;split at hc
  ·rename_i e hu;exact qzoh (ng:=true) H ht ho hc.1 hu hok
  ·cases hc.2
 ·rename_i ty x yt x';simp only[Gai]at hc;split at hc
  ·rename_i e hu;exact wz7v (ng:=false) H ht ho hc.1 hu hok
  ·cases hc.2
 ·rename_i ty x yt x';simp only[Gai]at hc;split at hc
  ·rename_i e hu;exact wz7v (ng:=true) H ht ho hc.1 hu hok
  ·cases hc.2
 ·exact qzus H ho
 ·rename_i ty x k cok kd cok' zero x' k';simp only[Gai,Gds]at hc;obtain⟨⟨⟨rfl,h1⟩,hx⟩,hk⟩:=hc;split at h1
  ·rename_i kt et hu;simp only[Gai,Gds]at h1;exact qzuw H ht ho hx hk hu h1.1 h1.2 hok
  ·cases h1
 ·rename_i ty m k v kd m' k' v';simp only[Gai]at hc;obtain⟨⟨⟨h1,hx⟩,hk⟩,hv⟩:=hc;split at h1
  ·rename_i kt et hu;simp only[Gds]at h1;exact qzwu H ht (.inl ho) hx hk hv hu h1 hok
  ·cases h1
 ·rename_i ty m k v kd m' k' v';simp only[Gai]at hc;obtain⟨⟨⟨h1,hx⟩,hk⟩,hv⟩:=hc;split at h1
  ·rename_i kt et hu;simp only[Gds]at h1;exact qzwu H ht (.inr ho) hx hk hv hu h1 hok
  ·cases h1
 ·rename_i args ats x';simp only[Gai,Gds]at hc;obtain⟨⟨⟨h1,h2⟩,hx⟩,hu⟩:=hc;obtain⟨x,rfl⟩:=Array.size_eq_one_iff.1 h1;obtain⟨ty,rfl⟩:=Array.size_eq_one_iff.1 h2;simp only[Gbn,Gbc,Option.bind_some]at hx hu;split at hu
  ·rename_i kt et hd;exact qzwh H ht ho rfl rfl hd hx hok
  ·cases hu
 ·rename_i ty x s x';simp only[Gai]at hc;obtain⟨h1,hx⟩:=hc;split at h1
  ·rename_i kt et hu;exact qztu H ht ho hx hu hok
  ·cases h1
 ·exact qzss H ht ho hc hok
 ·rename_i f first caps f' caps'
  simp only[Gai,Gds]at hc;obtain⟨⟨rfl,h0⟩,hcs⟩:=hc;exact qzw7 H ht ho (by simpa using h0) hcs
 ·rename_i src dst x s x';simp only[Gai]at hc;obtain⟨h1,hx⟩:=hc;split at h1
  ·rename_i e hs hd;simp only[Gai]at h1;obtain⟨h2,h3⟩:=h1;split at h2
   ·rename_i he;exact qz1y H ht ho hx hs hd he hok
   ·cases h2
  ·cases h1
 ·rename_i src dst x x';simp only[Gai]at hc;obtain⟨h1,hx⟩:=hc;split at h1
  ·rename_i e hs hd;simp only[Gai]at h1;obtain⟨h2,h3⟩:=h1;split at h2
   ·rename_i he;exact qzmk H ht ho hx hs he hd hok
   ·cases h2
  ·cases h1
 ·rename_i t0 x y s st bytes zero x';simp only[Gai]at hc;obtain⟨⟨hx,hy⟩,h1⟩:=hc;split at h1
  ·rename_i e hu;simp only[Gai,Gds,bne_iff_ne]at h1;obtain⟨⟨⟨hs,hb⟩,hb0⟩,h2⟩:=h1;split at h2
   ·rename_i z hz;exact qzyh H ht ho hx hy hu hs hb (by omega) hz h2 hok
   ·cases h2
  ·cases h1
 ·rename_i args ats st0 x' y';split at hc
  ·rename_i x y tx ty ha hat;simp only[Gai]at hc;obtain⟨⟨hx,hy⟩,h1⟩:=hc;split at h1
   ·rename_i e hu;have hs:=Gds.1 h1;obtain rfl:args=#[x,y]:=(by rw[<-Gah (xs:=args),ha]);obtain rfl:ats=#[tx,ty]:=(by rw[<-Gah (xs:=ats),hat]);exact qzwo H ht ho hx hy hu hs hok
   ·cases h1
  ·cases hc
 ·rename_i args ats zero x';split at hc
  ·rename_i x tx ha hat;simp only[Gai]at hc;obtain⟨hx,h1⟩:=hc;split at h1
   ·rename_i e hu;split at h1
    ·rename_i z hz;obtain rfl:args=#[x]:=by rw[<-Gah (xs:=args),ha]
     obtain rfl:ats=#[tx]:=by rw[<-Gah (xs:=ats),hat]
     exact qzu3 H ht ho hx hu hz h1 hok
    ·cases h1
   ·cases h1
  ·cases hc
 ·exact qztc H ht ho hc hok
 ·cases hc
end
theorem qznn{ar:AArg->AVal}{h:qzl}{i:Nat}{ob:AObj}(o:AOp)(hok:(o.req ar h).ok)(ho:(o.req ar h).out=some (i,ob)):(h i).plain/\i∈(o.req ar h).rd:=by
 cases o<;>simp only[AOp.req]at hok ho ⊢<;>(try (cases ho;done))
 case alloc s zero =>simp only[Gdq,Gdr]at ho;obtain⟨rfl,_⟩:=ho;exact⟨hok,by simp⟩
 case box s x =>cases hp:wzk (ar x)<;>simp only[hp,Req.fail]at hok ho ⊢;simp only[Gdq,Gdr]at ho;obtain⟨rfl,_⟩:=ho;exact⟨hok,by simp⟩
 case bslice s st nn zero ps =>cases hp:jzv ar zero ps<;>simp only[hp,Req.fail]at hok ho ⊢;simp only[Gdq,Gdr]at ho;obtain⟨rfl,_⟩:=ho;exact⟨hok.1,by simp⟩
 case fslice s st nn zero ps =>cases hp:jzv ar zero ps<;>simp only[hp,Req.fail]at hok ho ⊢;simp only[Gdq,Gdr]at ho;obtain⟨rfl,_⟩:=ho;exact⟨hok.1,by simp⟩
 case store sz x y =>
  unfold qzbw at hok ho ⊢;cases hp:wzk (ar y)<;>simp only[hp,Req.fail]at hok ho ⊢;cases hx:ar x<;>simp only[hx,Req.fail]at hok ho ⊢
  case ptr id ep off =>
   cases hh:h id<;>simp only[hh,Req.fail]at hok ho ⊢
   case box ep' cs =>simp only[Gdq,Gdr]at ho;obtain⟨rfl,_⟩:=ho;exact⟨by rw[hh];trivial,by simp⟩
   all_goals exact hok.elim
  case eptr id ep i' off =>
   cases hh:h id<;>simp only[hh,Req.fail]at hok ho ⊢
   case vec ep' st n f =>simp only[Gdq,Gdr]at ho;obtain⟨rfl,_⟩:=ho;exact⟨by rw[hh];trivial,by simp⟩
   all_goals exact hok.elim
  all_goals exact hok.elim
 case append s st bytes x y =>
  simp only[wzu]at hok ho ⊢;cases hx:ar x<;>simp only[hx,Req.fail]at hok ho ⊢
  case nils =>
   by_cases hn:(qz5 st (ar y) h).n=0
   ·simp only[hn,Gd5]at ho;cases ho
   ·simp only[hn,Gd2]at hok ho ⊢;simp only[Gdq,Gdr]at ho;obtain⟨rfl,_⟩:=ho;exact⟨hok.1,by simp⟩
  case vec id ep lo n =>
   cases hh:h id<;>simp only[hh,Req.fail]at hok ho ⊢
   case vec ep' st' m f =>simp only[Gdq,Gdr]at ho;obtain⟨rfl,_⟩:=ho;exact⟨by rw[hh];trivial,by simp⟩
   all_goals exact hok.elim
  all_goals exact hok.elim
 case s2b s x =>cases hx:ar x<;>simp only[hx,Req.fail]at hok ho ⊢<;>(try (cases ho;done));simp only[Gdq,Gdr]at ho;obtain⟨rfl,_⟩:=ho;exact⟨hok,by simp⟩
 case mks s st bytes zero x =>cases hx:ar x<;>simp only[hx,Req.fail]at hok ho ⊢<;>(try (cases ho;done));simp only[Gdq,Gdr]at ho;obtain⟨rfl,_⟩:=ho;exact⟨hok.1,by simp⟩
 case b2s x =>exfalso;revert ho;unfold qzdu;split<;>(intro ho;cases ho;done)
 case copy st0 x y =>unfold qznz at hok ho ⊢;cases hx:ar x<;>simp only[hx,Req.fail]at hok ho ⊢<;>(try (cases ho;done));rename_i id ep lo n;cases hh:h id<;>simp only[hh,Req.fail]at hok ho ⊢<;>(try (cases ho;done));simp only[Gdq,Gdr]at ho;obtain⟨rfl,_⟩:=ho;exact⟨by rw[hh];trivial,by simp⟩
 case clear zero x =>unfold qzlh at hok ho ⊢;cases hx:ar x<;>simp only[hx,Req.fail]at hok ho ⊢<;>(try (cases ho;done));rename_i id ep lo n;cases hh:h id<;>simp only[hh,Req.fail]at hok ho ⊢<;>(try (cases ho;done));simp only[Gdq,Gdr]at ho;obtain⟨rfl,_⟩:=ho;exact⟨by rw[hh];trivial,by simp⟩
 case mkmap s =>simp only[Gdq,Gdr]at ho;obtain⟨rfl,_⟩:=ho;exact⟨hok,by simp⟩
 case mlook kd cok zero x k =>
  exfalso;revert ho;unfold qzkq;repeat' split
  all_goals (intro ho;cases ho;done)
 case mupd kd x k v =>
  unfold qzn3 at hok ho ⊢;cases hx:ar x<;>simp only[hx,Req.fail]at hok ho ⊢<;>(try (exact hok.elim));rename_i id ep;cases hh:h id<;>simp only[hh,Req.fail]at hok ho ⊢<;>(try (exact hok.elim));rename_i ep' es;cases hf:qzb1 (ar k) es 0 with
  |none=>simp only[hf]at hok
  |some r =>cases r<;>simp only[hf,Gdq,Gdr]at ho ⊢<;>(obtain⟨rfl,_⟩:=ho;exact⟨by rw[hh];trivial,by simp⟩)
 case mrange s x =>
  unfold qzi6 at hok ho ⊢;cases hx:ar x<;>simp only[hx,Req.fail]at hok ho ⊢<;>(try (exact hok.elim))
  case nilmp =>simp only[Gdq,Gdr]at ho;obtain⟨rfl,_⟩:=ho;exact⟨hok,by simp⟩
  case mp id ep =>cases hh:h id<;>simp only[hh,Req.fail]at hok ho ⊢<;>(try (exact hok.elim));simp only[Gdq,Gdr]at ho;obtain⟨rfl,_⟩:=ho;exact⟨hok.2,by simp⟩
 case mentry x =>
  exfalso;revert ho;unfold qzgb;repeat' split
  all_goals (intro ho;cases ho;done)
 case bin op bools x y =>
  exfalso;revert ho;unfold qzfc;repeat' split
  all_goals first
   |(intro ho;cases ho;done)
   |(rename_i k a _ b _;cases op<;>(intro ho;cases ho;done))
   |(rename_i k a _ b _ _;cases op<;>(intro ho;cases ho;done))
   |(cases op<;>(intro ho;cases ho;done))
 case pick c x y =>
  exfalso;revert ho;unfold jzp;repeat' split
  all_goals (intro ho;cases ho;done)
 case load agg sz x =>
  exfalso;revert ho;unfold wz9;repeat' split
  all_goals (intro ho;cases ho;done)
 all_goals (exfalso;revert ho;repeat' split)<;>(intro ho;cases ho;done)
variable {E:Nat->AVal}{P:Program}{U:Option Nat}
theorem qzl0{o:Op}{a:AOp}(h:jzq P o a=true):∀c,o≠.defer c:=by rintro c rfl;cases a<;>simp[jzq]at h
def putT(t:List AVal)(d:Option Tmp)(v:AVal):List AVal:=match d with
 |some d=>t.set d v
 |none=>t
theorem qzky{g:Gh}{w:World}{t:List AVal}{a:Act}(ht:RVs g w t a.tmps.toList)(d:Option Tmp){x:AVal}{v:Value}(hv:RV g w x v):RVs g w (putT t d x) (a.put d v).tmps.toList:=by
 cases d with
 |none=>exact ht
 |some d =>simp only[putT,Act.put,Array.toList_setIfInBounds];exact ht.set d hv
theorem qzfl(a:Act)(d:Option Tmp)(v:Value):(a.put d v).defers=a.defers:=by cases d<;>rfl
def qzcj:AVal->Bool->Option Bool
 |.bool b,want=>some (if want then b else !b)
 |.cnd c (.bool b),want=>some (c&&if want then b else !b)
 |.cnd false _,_=>some false
 |_,_=>none
def qztl:Value->Option Bool
 |.bool b=>some b
 |_=>none
theorem qzp7{g:Gh}{w:World}{x:AVal}{v:Value}{want c:Bool}(hx:RV g w x v)(hg:qzcj x want=some c):(qztl v==some want)=c:=by
 cases x with
 |bool b =>simp only[qzcj,Gdq]at hg;subst hg;rw[qzaj hx];cases want<;>cases b<;>rfl
 |cnd d y =>
  cases y with
  |bool b =>
   simp only[qzcj,Gdq]at hg;subst hg;cases hx with
   |cnd _ _ _ h1 h0 =>
    cases d with
    |true =>rw[qzaj (h1 rfl)];cases want<;>cases b<;>rfl
    |false =>rw[h0 rfl];cases want<;>cases b<;>rfl
  |_ =>
   cases d with
   |true=>cases hg
   |false =>
    cases hg;cases hx with
    |cnd _ _ _ h1 h0=>rw[h0 rfl];cases want<;>rfl
 |_=>cases hg
structure qzc.Ok(P:Program)(ops:Array Oper)(o:Oper)(ao:qzc):Prop where
 dst:o.dst=ao.dst
 grd:match ao.guard with | none=>o.guard=none | some (tg,want)=>∃j,o.guard=some (j,want)/\(ops[j]?).bind (·.dst)=some tg
def argU(E:Nat->AVal)(t:List AVal):AArg->AVal
 |.t n=>unv (t.getD n .top)
 |y=>argv E t y
def wzb:List AArg->List Tmp
 |[]=>[]
 |.t n :: r=>n :: wzb r
 |_ :: r=>wzb r
theorem vzx{l:List AArg}{n:Nat}(h:AArg.t n∈l):n∈wzb l:=by
 induction l with
 |nil=>cases h
 |cons x r ih =>
  cases h with
  |head=>simp[wzb]
  |tail _ h=>cases x<;>simp[wzb,ih h]
def wze(c:Bool)(t:List AVal):List AArg->Prop
 |[]=>True
 |.t n :: r=>unc c (t.getD n .top)/\wze c t r
 |_ :: r=>wze c t r
def AOp.unAll(E:Nat->AVal)(c:Bool)(t:List AVal):AOp->Prop
 |.pick x y z=>wze c t [x]/\(match argU E t x with | .bool b=>wze (c&&b) t [y]/\wze (c&&!b) t [z] | _=>False)
 |o=>wze c t o.args
theorem wzdm(b:Bool)(X Y:AVal):(jzp b X Y).v=bif b then unv X else unv Y:=by
 unfold jzp;split
 ·rename_i p q h1 h2;cases b<;>simp[Req.when,h1,h2]
 ·rename_i k p k' q h1 h2;split
  ·rename_i e;subst e;cases b<;>simp[Req.when,h1,h2]
  ·cases b<;>simp[Req.when,h1,h2]
 ·cases b<;>simp[Req.when]
theorem qzrf(b:Bool)(X Y:AVal):(jzp b X Y).out=none:=by unfold jzp;split<;>(try split)<;>rfl
theorem qzwb{c:Bool}{t:List AVal}{l:List AArg}(h:wze c t l){n:Nat}(hn:AArg.t n∈l):unc c (t.getD n .top):=by
 induction l with
 |nil=>cases hn
 |cons x r ih =>
  cases hn with
  |head=>exact h.1
  |tail _ hn=>cases x<;>first|exact ih h.2 hn|exact ih h hn
def only(tm:List Nat)(t:List AVal):List AVal:=t.zipIdx.map fun x=>if x.2∈tm then unv x.1 else .top
theorem qzyb(tm:List Nat)(t:List AVal)(n:Nat)(hn:n∈tm):(only tm t).getD n .top=unv (t.getD n .top):=by
 simp only[only,List.getD,Gbh,List.getElem?_zipIdx];cases h:t[n]? with
 |none=>rfl
 |some x=>simp[hn]
theorem qz3a{g:Gh}{w:World}{t:List AVal}{a:List Value}{c:Bool}(ht:RVs g w t a)(hc:c=true){l:List AArg}(hu:wze c t l)(tm:List Nat)(htm:∀n∈tm,AArg.t n∈l):RVs g w (only tm t) a:=by
 refine⟨by simp[only,ht.1],fun i x v hx hv=>?_⟩;simp only[only,Gbh,List.getElem?_zipIdx,Option.map_map]at hx;cases h:t[i]? with
 |none=>simp[h]at hx
 |some y =>
  simp only[h,Gdo,Function.comp,Gdk,Gdq]at hx;subst hx;split
  ·rename_i hi;have hu':=qzwb hu (htm i hi);have e:t.getD i .top=y:=by simp[List.getD,h]
   rw[e]at hu';exact qzb9 (ht.2 i y v h hv) hu' hc
  ·exact .top v
theorem qzd1{l:List AArg}{n:Nat}(h:n∈wzb l):AArg.t n∈l:=by
 induction l with
 |nil=>cases h
 |cons x r ih =>
  cases x with
  |t m =>
   simp only[wzb,Gb3]at h;rcases h with rfl|h
   ·simp
   ·exact Gb4 _ (ih h)
  |c v=>exact Gb4 _ (ih h)
  |g i=>exact Gb4 _ (ih h)
def qz0h(E:Nat->AVal)(U:Option Nat)(P:Program)(ops:Array Oper)(o:Oper)(t0:List AVal)(h0:qzl)(tm:List Tmp)(rd:List Nat)(v:AVal)(out:Option (Nat×AObj)):Prop :=
 ∀(g:Gh) (a:Act) (w:World) (S:ASt),SR E g S a w->(∀x∈tm,S.t.getD x .top=t0.getD x .top)->(∀j∈rd,S.h j=h0 j) -> ∀(K:Act->World->Prop) (Q:Exit->Act->World->Prop),(∀g' a' w',SR E g' ⟨putT S.t o.dst v,putH S.h out,S.ds⟩ a' w'->Stp g S.h w g' (putH S.h out) w'->K a' w') ->
  if Region.wanted o (yielded ops a.tmps) then o.wpIn (FW U) 0 P a w K Q else(∀f,o.about P w a.eval=some f->(FW U).fn f)/\K (a.put o.dst undef) w
theorem qzv9{S:ASt}{g g':Gh}{w w':World}{out:Option (Nat×AObj)}(hs:∀D∈S.ds,S.h D.1=.dfr D.2)(hout:∀i ob,out=some (i,ob)->(S.h i).plain):∀D∈S.ds,putH S.h out D.1=.dfr D.2:=by
 intro D hD;cases out with
 |none=>exact hs D hD
 |some x =>
  obtain⟨i,ob⟩:=x;have hp:=hout i ob rfl;have hne:D.1≠i:=fun e=>by rw[<-e,hs D hD]at hp;exact hp
  simp only[putH,hset,Gd3 hne];exact hs D hD
theorem qzk0{o:Oper}{g:Gh}{a:Act}{w:World}{S:ASt}{r:Req}(hs:SR E g S a w)(hd:∀c,o.op≠.defer c)(hr:Ran E P (execOp a.eval o) g S.h w r)(hout:∀i ob,r.out=some (i,ob)->(S.h i).plain){K:Act->World->Prop} {Q:Exit->Act->World->Prop} {y:AVal} (hy:∀g' w' v,RV g' w' r.v v->RV g' w' y v)(hK:∀g' a' w',SR E g' ⟨putT S.t o.dst y,putH S.h r.out,S.ds⟩ a' w'->Stp g S.h w g' (putH S.h r.out) w'->K a' w'):o.wpIn (FW U) 0 P a w K Q:=by
 obtain⟨n,v,w',g',hrun,hn,hv,H',st,_⟩:=hr;refine⟨fun f _=>trivial,?_⟩;rw[Oper.semAt_eq _ _ _ hd,hrun];have key:K (a.put o.dst v) w':=by refine hK g' _ w' ⟨H',qzky (hs.tm.mono st.le) o.dst (hy _ _ _ hv),?_,qzv9 (g:=g) (g':=g') (w:=w) (w':=w') hs.dk hout,hs.dn⟩ st;rw[qzfl,hs.df];refine Gb0 fun D hD=>?_;have h1:=hs.hr.ep D.1;have h2:=H'.ep D.1;have h3:=qzv9 (g:=g) (g':=g') (w:=w) (w':=w') hs.dk hout D hD;rw[hs.dk D hD]at h1;rw[h3]at h2;rw[(st.le.same D.1 (h2.trans h1.symm)).1]
 rcases hn with rfl|⟨rfl,rfl⟩
 ·exact key
 ·exact key
theorem qzjc{ops:Array Oper}{o:Oper}(h:o.guard=none)(f:Nat->Option Bool):Region.wanted o f=true:=by simp[Region.wanted,h]
theorem qzzq{t t0:List AVal}{l:List AArg}(h:∀x∈wzb l,t.getD x .top=t0.getD x .top):∀y∈l,argv E t y=argv E t0 y:=by
 intro y hy;cases y with
 |t n=>exact h n (vzx hy)
 |c v=>rfl
 |g i=>rfl
theorem qztz{ops:Array Oper}{o:Oper}{ao:qzc}{t0:List AVal}{h0:qzl}(hc:jzq P o.op ao.op=true)(hk:qzc.Ok P ops o ao)(hg:ao.guard=none)(hok:(ao.op.req (argv E t0) h0).ok) :
  qz0h E U P ops o t0 h0 (wzb ao.op.args) (ao.op.req (argv E t0) h0).rd (ao.op.req (argv E t0) h0).v (ao.op.req (argv E t0) h0).out:=by
 intro g a w S hs ht hh K Q hK;have hgn:o.guard=none:=by have:=hk.grd;rw[hg]at this;exact this
 rw[Gd4 (qzjc (ops:=ops) hgn _)];have e1:ao.op.req (argv E S.t) S.h=ao.op.req (argv E t0) S.h:=qzlg ao.op (qzzq ht);have e2:ao.op.req (argv E t0) S.h=ao.op.req (argv E t0) h0:=qzla ao.op hok hh;have e:=e1.trans e2;have hr:=qzly (E:=E) (P:=P) (t:=S.t) hs.hr hs.tm hc (by rw[e];exact hok);rw[e]at hr;refine qzk0 hs (qzl0 hc) hr (fun i ob ho=>?_) (fun _ _ _ h=>h) hK;obtain⟨hp,hm⟩:=qznn ao.op hok ho;rw[hh i hm];exact hp
theorem wzzm{ops:Array Oper}{o:Oper}{ao:qzc}{t0:List AVal}{h0:qzl}{tg:Tmp}{want c:Bool}(hc:jzq P o.op ao.op=true)(hk:qzc.Ok P ops o ao)(hg:ao.guard=some (tg,want))(hcond:qzcj (t0.getD tg .top) want=some c) (hok:c=true->ao.op.unAll E c t0/\(ao.op.req (argU E t0) h0).ok) :
  qz0h E U P ops o t0 h0 (tg :: wzb ao.op.args) (ao.op.req (argU E t0) h0).rd (.cnd c (ao.op.req (argU E t0) h0).v) (bif c then(ao.op.req (argU E t0) h0).out else none):=by
 intro g a w S hs ht hh K Q hK;have hgn:=hk.grd;rw[hg]at hgn;obtain⟨j,hgj,hdj⟩:=hgn
 have hwant:Region.wanted o (yielded ops a.tmps)=c:=by
  have h1:=qzp7 (hs.tm.getD tg) (by rw[ht tg (Gb5 ..)];exact hcond);rw[<-h1]
  have hy:yielded ops a.tmps j=qztl (a.tmps.getD tg undef):=by
   simp only[yielded,hdj,Option.bind_some];by_cases hl:tg<a.tmps.size
   ·have e:a.tmps.getD tg undef=a.tmps[tg]:=(by simp[Array.getD,hl]);rw[Gab hl,e];cases a.tmps[tg]<;>rfl
   ·have e:a.tmps.getD tg undef=undef:=(by simp[Array.getD,hl]);rw[Array.getElem?_eq_none (Nat.le_of_not_lt hl),e];rfl
  simp only[Region.wanted,hgj,hy]
 cases c with
 |false =>rw[hwant];simp only[Gan,Gd2];refine⟨fun f _=>trivial,hK g _ w ⟨hs.hr,qzky hs.tm o.dst (.cnd _ _ _ (fun e=>by cases e) (fun _=>rfl)),by rw[qzfl];exact hs.df,hs.dk,hs.dn⟩ (.refl _ _ _)⟩
 |true =>
  rw[hwant];simp only[Gd5];obtain⟨hu,hok⟩:=hok rfl;have ht':∀x∈wzb ao.op.args,S.t.getD x .top=t0.getD x .top:=fun x hx=>ht x (Gb4 _ hx)
  have agree:∀l:List AArg,(∀x∈wzb l,S.t.getD x .top=t0.getD x .top)->∀d,wze d t0 l->wze d S.t l:=by
   intro l;induction l with
   |nil=>intro _ _ _;trivial
   |cons y r ih =>
    intro hl d hu;cases y with
    |t n=>exact⟨by rw[hl n (by simp[wzb])];exact hu.1,ih (fun x hx=>hl x (by simp[wzb,hx])) d hu.2⟩
    |c v=>exact ih hl d hu
    |g i=>exact ih hl d hu
  have hr:Ran E P (execOp a.eval o) g S.h w (ao.op.req (argU E t0) h0):=by
   by_cases hpk:∃x y z,ao.op=.pick x y z
   ·obtain⟨x,y,z,hop⟩:=hpk;rw[hop]at hu hc ht' ⊢;simp only[AOp.unAll]at hu;obtain⟨hux,hu2⟩:=hu
    have known:∀(d:Bool) (yy:AArg) (oo:Operand),d=true->(∀n∈wzb [yy],S.t.getD n .top=t0.getD n .top)->wze d t0 [yy]->qzm oo yy=true->RV g w (argU E t0 yy) (a.eval oo):=by
     intro d yy oo hd hl hun hag;have h1:=qzp hs.hr hs.tm hag;cases yy with
     |t n =>have e:S.t.getD n .top=t0.getD n .top:=hl n (by simp[wzb]);simp only[argv]at h1;rw[e]at h1;exact qzb9 h1 (show unc d (t0.getD n .top) from hun.1) hd
     |c v=>exact h1
     |g i=>exact h1
    have hpo:∃c0 x0 y0,o.op=.pick c0 x0 y0/\qzm c0 x=true/\qzm x0 y=true/\qzm y0 z=true:=by
     generalize o.op=op at hc;cases op<;>simp only[jzq]at hc<;>(try (cases hc;done))
     case pick c0 x0 y0 =>simp only[Gai]at hc;exact⟨_,_,_,rfl,hc.1.1,hc.1.2,hc.2⟩
    obtain⟨c0,x0,y0,ho,ha1,ha2,ha3⟩:=hpo;have hxv:=known true x c0 rfl (fun n hn=>ht' n (by have:=qzd1 hn;exact vzx (by simp only[AOp.args,Gb3,Gce,Gd8]at this ⊢;exact .inl this))) hux ha1;simp only[AOp.req];split at hu2
    ·rename_i b hb;rw[hb]at hxv ⊢;have e:=qzaj hxv;have hrun:(execOp a.eval o).run P w=.ok (.value (if b=true then a.eval x0 else a.eval y0)) w:=by simp[execOp,ho,e,asBool]
     have hv:RV g w (jzp b (argU E t0 y) (argU E t0 z)).v (if b=true then a.eval x0 else a.eval y0):=by
      rw[wzdm];have uu:∀yy:AArg,∀vv,unc true (argU E t0 yy)->RV g w (argU E t0 yy) vv->RV g w (unv (argU E t0 yy)) vv:=fun yy vv h1 h2=>qzb9 h2 h1 rfl;have hok2:(jzp b (argU E t0 y) (argU E t0 z)).ok:=by have:=hok;rw[hop]at this;simp only[AOp.req,hb]at this;exact this
      have hun:unc b (argU E t0 y)/\unc (!b) (argU E t0 z):=by
       revert hok2;unfold jzp;split
       ·exact id
       ·split<;>exact id
       ·exact id
      cases b with
      |true =>exact uu y _ hun.1 (known true y x0 rfl (fun n hn=>ht' n (by have:=qzd1 hn;exact vzx (by simp only[AOp.args,Gb3,Gce,Gd8]at this ⊢;exact .inr (.inl this)))) (by simpa using hu2.1) ha2)
      |false =>exact uu z _ hun.2 (known true z y0 rfl (fun n hn=>ht' n (by have:=qzd1 hn;exact vzx (by simp only[AOp.args,Gb3,Gce,Gd8]at this ⊢;exact .inr (.inr this)))) (by simpa using hu2.2) ha3)
     exact⟨_,_,w,g,hrun,.inl rfl,hv,by rw[qzrf];exact hs.hr,by rw[qzrf];exact .refl _ _ _,fun _=>⟨rfl,rfl⟩⟩
    ·exact hu2.elim
   ·have hu0:wze true t0 ao.op.args:=by
     cases hop:ao.op<;>rw[hop]at hu<;>first|exact hu|exact absurd ⟨_,_,_,hop⟩ hpk
    have hu':wze true S.t ao.op.args:=agree _ ht' _ hu0;have hrv:=qz3a hs.tm rfl hu' (wzb ao.op.args) (fun n hn=>qzd1 hn)
    have e0:ao.op.req (argv E (only (wzb ao.op.args) S.t)) S.h=ao.op.req (argU E t0) S.h:=by
     refine qzlg ao.op fun y hy=>?_;cases y with
     |t n=>simp only[argv,argU];rw[qzyb _ _ _ (vzx hy),ht' n (vzx hy)]
     |c v=>rfl
     |g i=>rfl
    have e2:ao.op.req (argU E t0) S.h=ao.op.req (argU E t0) h0:=qzla ao.op hok hh;have e:=e0.trans e2;have hr:=qzly (E:=E) (P:=P) hs.hr hrv hc (by rw[e];exact hok);rw[e]at hr;exact hr
  exact qzk0 hs (qzl0 hc) hr (fun i ob ho=>by obtain⟨hp,hm⟩:=qznn ao.op hok ho;rw[hh i hm];exact hp) (fun _ _ _ h=>.cnd _ _ _ (fun _=>h) (fun e=>by cases e)) hK
theorem qzts{ops:Array Oper}{o:Oper}{ao:qzc}{t0:List AVal}{h0:qzl}{tg:Tmp}{want c:Bool}(hc:jzq P o.op ao.op=true)(hk:qzc.Ok P ops o ao)(hg:ao.guard=some (tg,want))(hcond:qzcj (t0.getD tg .top) want=some c) (hno:∀i ob,(ao.op.req (argU E t0) h0).out=some (i,ob)->ob=h0 i) (hok:c=true->ao.op.unAll E c t0/\(ao.op.req (argU E t0) h0).ok) :
  qz0h E U P ops o t0 h0 (tg :: wzb ao.op.args) (ao.op.req (argU E t0) h0).rd (.cnd c (ao.op.req (argU E t0) h0).v) none:=by
 intro g a w S hs ht hh K Q hK
 have e3:putH S.h (bif c then(ao.op.req (argU E t0) h0).out else none)=S.h:=by
  cases c with
  |false=>rfl
  |true =>
   show putH S.h (ao.op.req (argU E t0) h0).out=S.h;cases ho:(ao.op.req (argU E t0) h0).out with
   |none=>rfl
   |some q =>
    obtain⟨i,ob⟩:=q;have e1:=hno i ob ho;have e2:=hh i (qznn ao.op (hok rfl).2 ho).2;funext j;show hset S.h i ob j=S.h j;simp only[hset];split
    ·rename_i ej;rw[ej,e1,e2]
    ·rfl
 exact wzzm hc hk hg hcond hok g a w S hs ht hh K Q (by rw[e3];exact hK)
def qzli(t:List AVal):List Tmp->List AVal->List AVal
 |p :: ps,v :: vs=>qzli (t.set p v) ps vs
 |_,_=>t
section
variable {E:Nat->AVal}{P:Program}{U:Option Nat}
theorem HR.loopAt{g:Gh}{h:qzl}{w:World}{id ep:Nat}{st:LoopState}{pd:Option Code}{ts:List AVal}{ps:Array Tmp}{asg body:Code}{D eD:Nat}(H:HR E g h w)(hid:h id=.loop ep st pd ts ps asg body D eD) :
  ∃r:Loop,w.heap[g.blk id]?=some (.loop r)/\r.state=st/\r.pending=pd/\r.params=ps/\r.assign=asg/\r.body=body/\RVs g w ts r.tmps.toList /\
   ∀st' pd',HR E g (hset h id (.loop ep st' pd' ts ps asg body D eD)) (w.putObj (g.blk id) (.loop { r with state:=st',pending:=pd' })) /\
    Stp g h w g (hset h id (.loop ep st' pd' ts ps asg body D eD)) (w.putObj (g.blk id) (.loop { r with state:=st',pending:=pd' })):=by
 have hO:=H.obj id;rw[hid]at hO;obtain⟨hD,tmps,f,bD,eD',hh,hr⟩:=hO;refine⟨_,hh,rfl,rfl,rfl,rfl,rfl,hr,fun st' pd'=>?_⟩;have how:(h id).owned=true:=by rw[hid];rfl
 have hlt:g.blk id<w.heap.size:=(Gac.1 hh).1;have hle:GLe g w g (w.putObj (g.blk id) (.loop { state:=st',pending:=pd',fn:=f,tmps,params:=ps,assign:=asg,body,defers:=bD })):=by refine⟨fun b hb=>⟨hb,?_⟩,fun _=>Gcy _,fun _ _=>⟨rfl,rfl,rfl,rfl⟩⟩;exact World.putObj_heap_other (fun e=>H.sep id how (e▸hb))
 refine HR.upd (g':=g) H hle (fun _ _=>rfl) (by rw[H.ep id,hid];rfl) (fun b hb hn=>World.putObj_heap_other (hn how)) (by simp) ?_ (fun _=>.inl ⟨how,rfl⟩) (fun _=>H.sep id how) (fun b hb=>.inl hb) (fun b hb=>by simpa using H.fzb b hb) rfl rfl rfl;exact⟨hD,tmps,f,bD,eD',World.putObj_heap_same hlt,hr.mono hle⟩
def wzgj(id ep:Nat)(ts:List AVal)(ps:Array Tmp)(asg body:Code)(D eD:Nat)(K:AVal->qzl->Prop):Exit->ASt->Prop
 |.normal,S=>(∃pd,S.h id=.loop ep .busy pd ts ps asg body D eD)/\K (.bool true) (hset S.h id (.loop ep .ready none ts ps asg body D eD))
 |.ret,S=>(∃pd,S.h id=.loop ep .busy pd ts ps asg body D eD)/\K (.bool false) (hset S.h id (.loop ep .done (some .ret) ts ps asg body D eD))
 |.exit i,S=>(∃pd,S.h id=.loop ep .busy pd ts ps asg body D eD)/\K (.bool false) (hset S.h id (.loop ep .done (some (.exit i)) ts ps asg body D eD))
 |_,_=>False
def qzhp(E:Nat->AVal)(P:Program)(id ep:Nat)(args:List AVal)(h:qzl)(K:AVal->qzl->Prop):Prop := ∃ts ps asg body D eD,h id=.loop ep .ready none ts ps asg body D eD/\args.length=ps.size /\ ∀U,AWp E U P asg (fun e S1=>e=.normal/\S1.h id=.loop ep .ready none ts ps asg body D eD/\AWp E U P body (wzgj id ep ts ps asg body D eD K) ⟨S1.t,hset S1.h id (.loop ep .busy none ts ps asg body D eD),S1.ds⟩) ⟨qzli ts ps.toList args,h,[]⟩
theorem qzry{g:Gh}{w:World}:∀{ps:List Tmp} {args:List AVal} {vs:List Value} {ts:List AVal} {arr:Array Value},RVs g w ts arr.toList->RVs g w args vs->RVs g w (qzli ts ps args) ((ps.zip vs).foldl (fun(tmps:Array Value) (x:Tmp×Value)=>tmps.setIfInBounds x.1 x.2) arr).toList
 |[],args,vs,ts,arr,h,_=>by simpa [qzli] using h
 |p :: ps,[],vs,ts,arr,h,hv=>by
  have:vs=[]:=by have:=hv.1;simpa using this
  subst this;simpa [qzli] using h
 |p :: ps,x :: args,[],ts,arr,h,hv=>by have:=hv.1;simp at this
 |p :: ps,x :: args,v :: vs,ts,arr,h,hv=>by
  have h1:RVs g w (ts.set p x) (arr.setIfInBounds p v).toList:=by rw[Array.toList_setIfInBounds];exact h.set p (hv.2 0 x v rfl rfl)
  have h2:RVs g w args vs:=⟨by have:=hv.1;simpa using this,fun i y u hy hu=>hv.2 (i+1) y u (by simpa using hy) (by simpa using hu)⟩;have:=qzry (ps:=ps) h1 h2;simpa [qzli] using this
theorem qz0l(ps:Array Tmp)(vs:List Value)(arr:Array Value):(ps.zip vs.toArray).foldl (fun(tmps:Array Value) (x:Tmp×Value)=>tmps.setIfInBounds x.1 x.2) arr=(ps.toList.zip vs).foldl (fun(tmps:Array Value) (x:Tmp×Value)=>tmps.setIfInBounds x.1 x.2) arr:=by rw[<-Array.foldl_toList];simp
theorem qzm8{g g':Gh}{h h':qzl}{w w':World}{i:Nat}(H:HR E g h w)(H':HR E g' h' w')(hle:GLe g w g' w')(he:(h' i).ep=(h i).ep):g'.blk i=g.blk i := (hle.same i (by rw[H'.ep,H.ep,he])).1
theorem qzu7{g:Gh}{h:qzl}{w:World}{id ep:Nat}{args:List AVal}{vs:List Value}{K:AVal->qzl->Prop}(R:qzhp E P id ep args h K)(H:HR E g h w)(hv:RVs g w args vs) :
  ∃f tmps asg body,(Instr.yield (g.blk id) vs.toArray).run P w=.ok (.round (g.blk id) f tmps asg body) w /\
   RoundIn (FW U) 0 P (g.blk id) f tmps asg body w (fun e w'=>∃g' h' r v,K r h'/\e=.returned v/\RV g' w' r v/\HR E g' h' w'/\Stp g h w g' h' w'):=by
 obtain⟨ts,ps,asg,body,D,eD,hid,hlen,hA⟩:=R;obtain⟨r,hr,e1,e2,e3,e4,e5,hts,_⟩:=H.loopAt hid;subst e3 e4 e5;have hsz:vs.toArray.size=r.params.size:=by simp[<-hlen,hv.1]
 refine⟨_,_,_,_,run_yield hr hsz,roundIn_of_wpIn (wzf1 U _) ?_⟩;rw[wzgl];have hs0:SR E g ⟨qzli ts r.params.toList args,h,[]⟩ { tmps:=(r.params.zip vs.toArray).foldl (fun tmps (t,a)=>tmps.setIfInBounds t a) r.tmps,defers:=[] } w:=by refine⟨H,?_,rfl,(fun D hD=>by cases hD),List.nodup_nil⟩;have:=qzry (ps:=r.params.toList) hts hv;rw[<-qz0l]at this;exact this
 refine wpIn_mono (hA (some (g.blk id)) g _ w hs0) ?_;rintro e a1 w1 ⟨g1,S1,⟨rfl,hid1,hB⟩,hs1,st1⟩;have hb1:g1.blk id=g.blk id:=qzm8 H hs1.hr st1.le (by rw[hid1,hid]);obtain⟨r1,hr1,f1,f2,f3,f4,f5,hts1,put1⟩:=hs1.hr.loopAt hid1;obtain⟨H2,st2⟩:=put1 .busy none;rw[hb1]at hr1 H2 st2;have hbr:=run_beginRound (P:=P) hr1 f1;have er:({ r1 with state:=.busy,pending:=none }:Loop)={ r1 with state:=.busy }:=by rw[<-f2]
 rw[er]at H2 st2;refine⟨_,hbr,?_⟩
 have hs2:SR E g1 ⟨S1.t,hset S1.h id (.loop ep .busy none ts r.params r.assign r.body D eD),S1.ds⟩ a1 (w1.putObj (g.blk id) (.loop { r1 with state:=.busy })):=by
  refine⟨H2,hs1.tm.mono st2.le,hs1.df,fun D hD=>?_,hs1.dn⟩;have hd:=hs1.dk D hD;have hne:D.1≠id:=fun e=>by rw[e,hid1]at hd;cases hd
  show(if D.1=id then _ else S1.h D.1)=_;rw[Gd3 hne];exact hd
 refine wpIn_mono (hB g1 a1 _ hs2) ?_;rintro e a3 w3 ⟨g3,S3,hq,hs3,st3⟩
 have fin:∀(jump:Option Code) (st':LoopState),(∃pd,S3.h id=.loop ep .busy pd ts r.params r.assign r.body D eD)->(st'=if jump.isNone then .ready else .done)->K (.bool jump.isNone) (hset S3.h id (.loop ep st' jump ts r.params r.assign r.body D eD)) -> ∃v w',(Instr.endRound (g.blk id) jump).run P w3=.ok v w'/\(∃g' h' r' v',K r' h'/\Ending.returned v=.returned v'/\RV g' w' r' v'/\HR E g' h' w'/\Stp g h w g' h' w'):=by
  rintro jump st' ⟨pd,hid3⟩ rfl hK;have hb3:g3.blk id=g.blk id:=by rw[<-hb1];exact qzm8 H2 hs3.hr st3.le (by rw[hid3];simp[hset,AObj.ep])
  obtain⟨r3,hr3,_,_,_,_,_,_,put3⟩:=hs3.hr.loopAt hid3;obtain⟨H4,st4⟩:=put3 (if jump.isNone then .ready else .done) jump;rw[hb3]at hr3 H4 st4;exact⟨_,_,run_endRound jump hr3,g3,_,_,_,hK,rfl,.bool _,H4,st1.trans (st2.trans (st3.trans st4))⟩
 cases e with
 |normal=>exact fin none .ready hq.1 rfl hq.2
 |ret=>exact fin (some .ret) .done hq.1 rfl hq.2
 |exit i=>exact fin (some (.exit i)) .done hq.1 rfl hq.2
 |goto t=>exact hq.elim
 |panic ch=>exact hq.elim
 |outgrown=>exact hq.elim
end
end Go.Am

