/- Part A2: an abstract machine proved sound over the calculus of the guide. No condition. -/
import Derived.Test.YtiaclogojhfmfaaGreatDoorA1
import Derived.MapKept
import Derived.Maps.RangeRun
import Derived.WideKeyRuns
import Derived.Laws.BytesString
import Derived.Laws.IdiomStrings
import Derived.Laws.MakeOwn
import Derived.Laws.CopyRow
import Derived.Lib.SliceRun
import Derived.RangeFuncIn
import Derived.RangeFuncRecord
set_option linter.unusedSimpArgs false
set_option linter.unusedVariables false
namespace Go.Am
theorem TB(off:Nat):∀(vs:List Value) (k:Nat) (cs:Array Value),off+k+vs.length<=cs.size -> ((vs.zipIdx k).foldl (fun(cs:Array Value) (x:Value×Nat)=>cs.setIfInBounds (off+x.2) x.1) cs).toList=cs.toList.take (off+k)++vs++cs.toList.drop (off+k+vs.length)
 |[],k,cs,h=>by simp
 |v :: vs,k,cs,h=>by
  simp only[Ek]at h;rw[List.zipIdx_cons,List.foldl_cons,TB off vs (k+1) _ (by simp;omega)];simp only[Array.toList_setIfInBounds,Ek];have e1:(cs.toList.set (off+k) v).take (off+(k+1))=cs.toList.take (off+k)++[v]:=by rw[show off+(k+1)=(off+k)+1 from by omega,List.take_succ_eq_append_getElem (by simp;omega)];simp[List.take_set_of_le]
  have e2:(cs.toList.set (off+k) v).drop (off+(k+1)+vs.length)=cs.toList.drop (off+k+(vs.length+1)):=by rw[List.drop_set_of_lt (by omega)];congr 1;omega
  rw[e1,e2];simp
section
variable {E:Nat->Aa}{P:Program}{g:Gh}{h:Aw}{w:World}{t:List Aa}{a:Act}
theorem L0{place:Nat->Option (Nat×Nat)}{ρ:Operand->Value}{arg:Ad->Aa}(hr:∀x y,AA x y=true->RV g w (arg y) (ρ x)):∀{ps:List (Nat×Operand)} {parts:List (Nat×Nat×Ad)} {l l':List Aa} {cs:Array Value},
  HP place ps parts=true->RVs g w l cs.toList->CR arg l parts=some l'->∃cs':Array Value,Instr.fill place cs (ps.map fun x=>(x.1,ρ x.2))=some cs'/\RVs g w l' cs'.toList
 |[],[],l,l',cs,_,aS,hf=>by simp only[CR,Bd]at hf;subst hf;exact⟨cs,rfl,aS⟩
 |(i,x) :: ps,(off,sz,y) :: parts,l,l',cs,hp,aS,hf=>by
  simp only[HP,AF]at hp;obtain⟨⟨cf,cR⟩,d6⟩:=hp;simp only[CR]at hf;cases hq:Cs (arg y) with
  |none=>simp[hq]at hf
  |some p =>
   simp only[hq]at hf;split at hf
   ·rename_i be;obtain⟨hl,bm⟩:=be;have hv:=Ov (hr x y cR) hq;have cg:(ρ x).cells.toList.length=sz:=by rw[hv.1,hl]
    have bW:(ρ x).cells.size=sz:=(by simpa using cg);have c8:=aS.1;cases br:place i with
    |none=>simp[br]at cf
    |some os =>
     obtain⟨o,s⟩:=os;simp only[br,AF,Bu]at cf;obtain⟨rfl,rfl⟩:=cf;have kJ:RVs g w (lay l o p) ((ρ x).cells.zipIdx.foldl (fun(cs:Array Value) (x:Value×Nat)=>cs.setIfInBounds (o+x.2) x.1) cs).toList:=by have e:=TB o (ρ x).cells.toList 0 cs (by simp at c8 cg |-;omega);have e':(ρ x).cells.zipIdx.foldl (fun(cs:Array Value) (x:Value×Nat)=>cs.setIfInBounds (o+x.2) x.1) cs=((ρ x).cells.toList.zipIdx 0).foldl (fun(cs:Array Value) (x:Value×Nat)=>cs.setIfInBounds (o+x.2) x.1) cs:=(by rw[<-Array.foldl_toList];simp);rw[e',e];exact aS.lay hv o (by omega)
     obtain⟨cs'',h1,h2⟩:=L0 hr d6 kJ hf;refine⟨cs'',?_,h2⟩;simp only[J4,Instr.fill,br];have hc:¬((ρ x).cells.size≠s\/o+(ρ x).cells.size>cs.size):=by simp at c8;omega
     simp only[ne_eq,gt_iff_lt,FL,BA]at hc |-;rw[Aj hc];exact h1
   ·cases hf
 |[],_ :: _,_,_,_,hp,_,_=>by cases hp
 |_ :: _,[],_,_,_,hp,_,_=>by cases hp
theorem TC(w:World):∀{fs:List Field} {l:List (Nat×Nat)},GR P fs=some l->(fs.mapM (fun f=>do pure (f.offset,<-sizeOf f.type):Field->Sem (Nat×Nat))).run P w=.ok l w
 |[],l,h=>by simp only[GR,Bd]at h;subst h;simp
 |f :: fs,l,h=>by
  simp only[GR]at h;split at h
  ·rename_i n l' hn fX;obtain rfl:=BM h;have ih:=TC w fX;simp only[List.mapM_cons,Sem.run_bind,HU hn,Result.andThen_ok,Sem.run_pure,ih]
  ·cases h
theorem Zo{ty:TypeId}{zero:List Aa}(hz:HO P ty zero=true)(w:World):∃z,(zeroValue ty).run P w=.ok z w/\HN z.cells.toList zero=true/\El P ty=some z.cells.toList:=by
 unfold HO at hz;cases hc:El P ty with
 |none=>simp[hc]at hz
 |some l =>
  simp only[hc]at hz;unfold El at hc;cases hi:P.info? ty with
  |none=>simp[hi]at hc
  |some i =>
   obtain⟨⟩:=i;rename_i zz _ _;cases zz with
   |none=>simp[hi]at hc
   |some z =>simp only[hi,Bd]at hc;subst hc;exact⟨z,by simp[zeroValue,typeInfo,hi],hz,rfl⟩
theorem Zp{o:Oper}{ty:TypeId}{ps:Array (Nat×Operand)}{zero:List Aa}{parts:List (Nat×Nat×Ad)}(H:HR E g h w)(ht:RVs g w t a.tmps.toList)(ho:o.op=.build ty ps)(hb:Ot P ty zero ps.toList parts=true)(aB:((Al.build zero parts).req (Ag E t) h).ok):Ran E P (execOp a.eval o) g h w ((Al.build zero parts).req (Ag E t) h):=by
 simp only[Al.req]at aB |-;cases hf:CR (Ag E t) zero parts with
 |none=>simp only[hf,Req.fail]at aB
 |some l =>
  unfold Ot at hb;simp only[AF]at hb;obtain⟨hz,hb⟩:=hb;obtain⟨z,fO,dH,_⟩:=Zo hz w;have d7:(ps.map fun x=>(x.1,a.eval x.2)).toList=ps.toList.map fun x=>(x.1,a.eval x.2):=by simp
  cases hu:P.underlying ty with
  |none=>simp[hu]at hb
  |some d =>
   simp only[hu]at hb;cases d<;>(try (cases hb;done))
   case struct fs =>
    simp only at hb;cases gL:GR P fs.toList with
    |none=>simp[gL]at hb
    |some pl =>
     simp only[gL]at hb;obtain⟨cs',h1,h2⟩:=L0 (fun x y cR=>AQ H ht cR) hb (Ll dH) hf;refine Ran.same H (v:=.agg cs') ?_ (.agg _ _ (by simpa using h2.1) (fun i x v hx hv=>h2.2 i x v hx (by simpa using hv)));have nJ:(fs.mapM (fun f=>do pure (f.offset,<-sizeOf f.type):Field->Sem (Nat×Nat))).run P w=.ok pl.toArray w:=by rw[Array.mapM_eq_mapM_toList];have e:=TC w gL;simp only[Sem.run_map,e,Result.andThen_ok]
     have cf:(fun i:Nat=>pl.toArray[i]?)=(fun i:Nat=>pl[i]?):=(by funext i;simp);simp only[execOp,ho,Sem.run_bind,Instr.build,fO,Result.andThen_ok,run_underlying hu,nJ,d7,cf,h1,Sem.run_pure]
   case array n e =>
    simp only at hb;cases hs:szOf P e with
    |none=>simp[hs]at hb
    |some st =>simp only[hs]at hb;obtain⟨cs',h1,h2⟩:=L0 (fun x y cR=>AQ H ht cR) hb (Ll dH) hf;refine Ran.same H (v:=.agg cs') ?_ (.agg _ _ (by simpa using h2.1) (fun i x v hx hv=>h2.2 i x v hx (by simpa using hv)));simp only[execOp,ho,Sem.run_bind,Instr.build,fO,Result.andThen_ok,run_underlying hu,HU hs,d7,h1,Sem.run_pure]
theorem Oy{st:Nat}:∀(n:Nat) (l:List Aa) (k:Nat),l.length=n*st->k<n->(E9 st n l).getD k []=(l.drop (k*st)).take st
 |0,l,k,_,hk=>by omega
 |n+1,l,0,hl,_=>by simp[E9]
 |n+1,l,k+1,hl,hk=>by
  have e:(n+1)*st=n*st+st:=Ef n st;have fX:(l.drop st).length=n*st:=by simp;omega
  have:=Oy n (l.drop st) k fX (by omega);simp only[E9,List.getD_cons_succ,this,Lr];congr 2;have e:(k+1)*st=k*st+st:=Ef k st;omega
theorem L1{g':Gh}{s n b:Nat}(hb:g'.blk s=b)(h0:g'.bo s=0)(hc:g'.cp s=n){m:Nat}(hm:m<=n):GO g' s 0 m (.slice (some ⟨b,0,none⟩) m n) := ⟨⟨b,0,none⟩,n,rfl,hm,.inr ⟨by rw[hb,h0];simp,by omega⟩⟩
theorem TD{o:Oper}{ty:TypeId}{n st nn:Nat}{ps:Array (Nat×Operand)}{zero:List Aa}{parts:List (Nat×Nat×Ad)}(H:HR E g h w)(ht:RVs g w t a.tmps.toList)(ho:o.op=.buildSlice ty n ps)(hb:HS P ty n st nn zero ps.toList parts=true){l:List Aa} (hf:CR (Ag E t) zero parts=some l) (hl:l.length=nn*st) :
  n=nn/\∃(e:TypeId) (cs':Array Value),RVs g w l cs'.toList/\cs'.size=n*st/\(execOp a.eval o).run P w=.ok (.value (.slice (some ⟨w.heap.size,0,none⟩) n n)) { w with heap:=w.heap.push (.cells cs' e (0,0)) }:=by
  unfold HS at hb;simp only[AF,Bu,BA]at hb;obtain⟨⟨rfl,nK⟩,hb⟩:=hb;refine⟨rfl,?_⟩;have d7:(ps.map fun x=>(x.1,a.eval x.2)).toList=ps.toList.map fun x=>(x.1,a.eval x.2):=by simp
  cases hu:P.underlying ty with
  |none=>simp[hu]at hb
  |some d =>
   simp only[hu]at hb;cases d<;>(try (cases hb;done))
   case slice e =>
    simp only[AF,Bu]at hb;obtain⟨⟨hs,hz⟩,hp⟩:=hb;cases dH:El P e with
    |none=>simp[dH]at hz
    |some z0 =>
     simp only[dH,AF,BA]at hz;obtain⟨hz,cK⟩:=hz
     have cT:∃zc:Array Value,(if n*st=0 then pure #[] else do pure (<-zeroValue e).cells:Sem (Array Value)).run P w=.ok zc w/\RVs g w zero ((Array.range (n*st)).map (zc[·%zc.size]!)).toList:=by
      unfold El at dH;cases hi:P.info? e with
      |none=>simp[hi]at dH
      |some i =>
       obtain⟨⟩:=i;rename_i zz _ _;cases zz with
       |none=>simp[hi]at dH
       |some z =>
        simp only[hi,Bd]at dH;subst dH;by_cases e0:n*st=0
        ·refine⟨#[],?_,?_⟩;·rw[An e0];simp
         ·rw[e0]at hz |-;simpa [HQ] using Ll (g:=g) (w:=w) hz
        ·refine⟨z.cells,?_,?_⟩;·rw[Aj e0];simp[zeroValue,typeInfo,hi]
         ·have:=Ll (g:=g) (w:=w) hz
          have eq:((Array.range (n*st)).map (z.cells[·%z.cells.size]!)).toList=HQ z.cells.toList (n*st):=by
           simp only[HQ,Array.toList_map,Array.toList_range,Array.length_toList];apply HA;intro i hi;have bh:0<z.cells.size:=by simpa using cK
           have hlt:i%z.cells.size<z.cells.size:=FQ _ bh;simp[List.getD,hlt,getElem!_pos]
          rw[eq];exact this
     obtain⟨zc,bR,kK⟩:=cT;obtain⟨cs',mM,gr⟩:=L0 (fun x y cR=>AQ H ht cR) hp kK hf;have aD:cs'.size=n*st:=by have:=gr.1;simp at this;omega
     have aG:(execOp a.eval o).run P w=.ok (.value (.slice (some ⟨w.heap.size,0,none⟩) n n)) { w with heap:=w.heap.push (.cells cs' e (0,0)) }:=by
      have gt:¬(n*st>2 ^ 24):=(by omega);by_cases e0:n*st=0
      ·rw[An e0]at bR;simp only[Sem.run_pure,Result.ok.injEq,and_true]at bR;subst bR;simp only[execOp,ho,Sem.run_bind,Instr.buildSlice,run_underlying hu,Result.andThen_ok,HU hs,Aj gt,An e0,d7,Sem.run_pure,mM,newRow,run_newObj]
      ·rw[Aj e0]at bR;simp only[Sem.run_bind]at bR;generalize hq:(zeroValue e).run P w=q at bR;cases q with
       |halt x y=>simp at bR
       |ok zv w1 =>simp only[Result.andThen_ok,Sem.run_pure,Result.ok.injEq]at bR;obtain⟨rfl,rfl⟩:=bR;simp only[execOp,ho,Sem.run_bind,Instr.buildSlice,run_underlying hu,Result.andThen_ok,HU hs,Aj gt,Aj e0,d7,Sem.run_pure,hq,mM,newRow,run_newObj]
     exact⟨e,cs',gr,aD,aG⟩
theorem Zq{o:Oper}{ty:TypeId}{n st nn s:Nat}{ps:Array (Nat×Operand)}{zero:List Aa}{parts:List (Nat×Nat×Ad)}(H:HR E g h w)(ht:RVs g w t a.tmps.toList)(ho:o.op=.buildSlice ty n ps)(hb:HS P ty n st nn zero ps.toList parts=true)(aB:((Al.bslice s st nn zero parts).req (Ag E t) h).ok):Ran E P (execOp a.eval o) g h w ((Al.bslice s st nn zero parts).req (Ag E t) h):=by
 simp only[Al.req]at aB |-;cases hf:CR (Ag E t) zero parts with
 |none=>simp only[hf,Req.fail]at aB
 |some l =>
  simp only[hf]at aB |-;obtain⟨_,hl,aH,h1⟩:=aB;obtain⟨rfl,e,cs',gr,aD,aG⟩:=TD H ht ho hb hf hl;refine Ran.new (ob:=.cells cs' e (0,0)) (bo:=0) (st:=st) (cp:=n) H ⟨w,rfl,rfl,rfl,rfl,AC _,aG⟩ rfl ?_;intro g' w' aE aK dh bS cU aM;refine⟨⟨bS,aH,by omega,cs',e,by rw[aK];exact aM,by rw[dh,cU,aD];omega,fun k hk=>?_⟩,fun he=>?_⟩
  ·have aV:=Oy n l k hl hk;have kh:k*st+st<=n*st:=by have:(k+1)*st<=n*st:=Bq _ (by omega);rw[Ef]at this;exact this
   show((E9 st n l).getD k []).length=st/\∀(j:Nat) (x:Aa) (v:Value),((E9 st n l).getD k [])[j]?=some x->cs'[g'.bo s+k*st+j]?=some v->v.oneCell'=true/\RV g' w' x v;rw[aV];refine⟨by simp;omega,fun j x v hx hv=>?_⟩;rw[Fo]at hx;split at hx
   ·rw[Ec]at hx;rw[dh,Ce]at hv;have db:cs'.toList[k*st+j]?=some v:=by simpa using hv
    exact⟨GT gr h1 v (Cq db),(gr.2 _ x v hx db).mono aE⟩
   ·cases hx
  ·refine .vec _ _ _ _ _ rfl (by rw[he];exact AC _) (fun _=>L1 aK dh cU (AC _))
end
section
variable {E:Nat->Aa}{P:Program}{g:Gh}{h:Aw}{w:World}{t:List Aa}{a:Act}
theorem FX{ft:TypeId}{agg:Bool}{sz:Nat}(hq:yzl P ft=some agg)(hs:agg=true->szOf P ft=some sz)(h1:agg=false->sz=1)(w:World)(cs:Array Value)(off:Nat)(hb:off+sz<=cs.size) : (part ft cs off).run P w=.ok (if agg then .agg ((cs.toList.drop off).take sz).toArray else((cs.toList.drop off).take sz).getD 0 undef) w:=by
 simp only[part,Sem.run_bind,Tw hq,Result.andThen_ok];cases agg with
 |true =>
  have e:cs.extract off (off+sz)=((cs.toList.drop off).take sz).toArray:=by apply Array.ext';simp[Array.toList_extract,List.extract]
  simp[HU (hs rfl),e]
 |false =>
  obtain rfl:=h1 rfl;have:off<cs.size:=by omega
  simp[this,List.getD]
theorem Zr{o:Oper}{ty ft:TypeId}{f off sz:Nat}{agg:Bool}{x:Operand}{x':Ad}(H:HR E g h w)(ht:RVs g w t a.tmps.toList)(ho:o.op=.field ty x f)(hx:AA x x'=true)(hf:Fv P ty f=some (off,ft)) (hq:yzl P ft=some agg) (hs:agg=true->szOf P ft=some sz)(aB:((Al.field agg off sz x').req (Ag E t) h).ok):Ran E P (execOp a.eval o) g h w ((Al.field agg off sz x').req (Ag E t) h):=by
 have rx:=AQ H ht hx;simp only[Al.req]at aB |-;generalize Ag E t x'=X at *;cases X<;>simp only[Req.fail]at aB;rename_i l;obtain⟨hb,h1⟩:off+sz<=l.length/\(agg=false->sz=1):=aB;generalize hv:a.eval x=v at rx;cases rx with
 |agg _ arr hn hr =>
  have bI:RVs g w l arr.toList:=⟨by simpa using hn,fun i x v hx hv=>hr i x v hx (by simpa using hv)⟩;unfold Fv at hf;split at hf
  ·rename_i fs hu;cases kL:fs[f]? with
   |none=>simp[kL]at hf
   |some fld =>simp only[kL,Dp,Bd,DG]at hf;obtain⟨rfl,rfl⟩:=hf;refine Ran.same H (v:=if agg then .agg ((arr.toList.drop fld.offset).take sz).toArray else((arr.toList.drop fld.offset).take sz).getD 0 undef) ?_ (Lx bI h1 hb);simp only[execOp,ho,hv,Sem.run_bind,Instr.field,run_underlying hu,Result.andThen_ok,kL,asAgg,Sem.run_pure,FX hq hs h1 w arr fld.offset (by omega)]
  ·cases hf
theorem Zs{o:Oper}{ty e:TypeId}{agg:Bool}{n sz:Nat}{x i:Operand}{x' i':Ad}(H:HR E g h w)(ht:RVs g w t a.tmps.toList)(ho:o.op=.index ty x i)(hx:AA x x'=true)(hi:AA i i'=true)(hu:P.underlying ty=some (.array n e)) (hq:yzl P e=some agg) (hs:szOf P e=some sz)(aB:((Al.aidx agg n sz x' i').req (Ag E t) h).ok):Ran E P (execOp a.eval o) g h w ((Al.aidx agg n sz x' i').req (Ag E t) h):=by
 have rx:=AQ H ht hx;have ri:=AQ H ht hi;simp only[Al.req]at aB |-;generalize Ag E t x'=X at *;generalize Ag E t i'=I at *;cases X<;>(try simp only[Req.fail]at aB);rename_i l;cases I<;>simp only[Req.fail]at aB;rename_i k j;obtain⟨h0,h1,hb,h2⟩:0<=j/\j<n/\j.toNat*sz+sz<=l.length/\(agg=false->sz=1):=aB;generalize hv:a.eval x=v at rx;generalize hj:a.eval i=u at ri;obtain rfl:=Em ri;cases rx with
 |agg _ arr hn hr =>have bI:RVs g w l arr.toList:=⟨by simpa using hn,fun i x v hx hv=>hr i x v hx (by simpa using hv)⟩;refine Ran.same H (v:=if agg then .agg ((arr.toList.drop (j.toNat*sz)).take sz).toArray else((arr.toList.drop (j.toNat*sz)).take sz).getD 0 undef) ?_ (Lx bI h2 hb);simp only[execOp,ho,hv,hj,Sem.run_bind,Instr.index,asIntOf,run_underlying hu,Result.andThen_ok,Sem.run_pure,An (And.intro h0 h1),HU hs,FX hq (fun _=>hs) h2 w arr (j.toNat*sz) (by omega)]
def EB:Aa->Aa->Option Bool
 |.int k a,.int k' b=>if k=k' then some (decide (a=b)) else none
 |.bool a,.bool b=>some (a==b)
 |.str a,.str b=>some (decide (a=b))
 |_,_=>none
theorem JI(x y:Aa)(l m:List Aa):Cw (x :: l) (y :: m)=(match EB x y,Cw l m with | some c,some e=>some (c&&e) | _,_=>none):=by cases x<;>cases y<;>simp only[Cw,EB]<;>(try (cases Cw l m<;>rfl));rename_i k a k' b;cases Cw l m<;>by_cases e:k=k'<;>simp[e]
theorem GU:∀{l m:List Aa} {e:Bool},Cw l m=some e->l.length=m.length
 |[],[],_,_=>rfl
 |x :: l,y :: m,e,h=>by
  rw[JI]at h;cases hc:EB x y with
  |none=>simp[hc]at h
  |some c =>
   cases he:Cw l m with
   |none=>simp[hc,he]at h
   |some e'=>simp[GU he]
 |[],_ :: _,_,h=>by simp[Cw]at h
 |_ :: _,[],_,h=>by simp[Cw]at h
theorem Oz:∀{l m:List Aa} {e:Bool} (k:Nat),k<=l.length->Cw l m=some e->∃e1 e2,Cw (l.take k) (m.take k)=some e1/\Cw (l.drop k) (m.drop k)=some e2/\e=(e1&&e2)
 |l,m,e,0,_,h=>⟨true,e,by simp[Cw],by simpa using h,by simp⟩
 |[],m,e,k+1,hk,h=>by simp at hk
 |x :: l,[],e,k+1,hk,h=>by simp[Cw]at h
 |x :: l,y :: m,e,k+1,hk,h=>by
  rw[JI]at h;cases hc:EB x y with
  |none=>simp[hc]at h
  |some c =>
   cases he:Cw l m with
   |none=>simp[hc,he]at h
   |some e' =>simp only[hc,he,Bd]at h;subst h;obtain⟨e1,e2,h1,h2,rfl⟩:=Oz k (by simpa using hk) he;exact⟨c&&e1,e2,by simp[JI,hc,h1],by simpa using h2,by simp[Bool.and_assoc]⟩
theorem TE{x y:Aa}{u v:Value}{c:Bool}(hc:EB x y=some c)(hx:RV g w x u)(hy:RV g w y v) : (∃k a b,u=.int k a/\v=.int k b/\c=decide (a=b))\/(∃a b,u=.bool a/\v=.bool b/\c=(a==b))\/(∃a b:ByteArray,u=.string a/\v=.string b/\c=(a==b)):=by
 cases x<;>cases y<;>simp only[EB]at hc<;>(try (cases hc;done))
 ·split at hc;·rename_i e;subst e;obtain rfl:=BM hc;exact .inl ⟨_,_,_,Em hx,Em hy,rfl⟩
  ·cases hc
 ·obtain rfl:=BM hc;exact .inr (.inl ⟨_,_,DI hx,DI hy,rfl⟩)
 ·obtain rfl:=BM hc;obtain⟨b1,rfl,e1⟩:=Fw hx;obtain⟨b2,rfl,e2⟩:=Fw hy;refine .inr (.inr ⟨b1,b2,rfl,rfl,?_⟩);rw[<-e1,<-e2,beq_toListBytes,bytes_beq]
theorem TF{t:TypeId}{fs:Array Field}(hu:P.underlying t=some (.struct fs)):P.fieldsOf t=fs:=by simp[Program.fieldsOf,hu]
def Dv(agg:Bool)(cs:List Value):Value:=if agg then .agg cs.toArray else cs.getD 0 undef
theorem Zt{t:TypeId}{n:Nat}(h:szOf P t=some n):∃i,P.info? t=some i/\P.cellsOf t=n:=by
 unfold szOf at h;cases hi:P.info? t with
 |none=>simp[hi]at h
 |some i=>simp[hi]at h;exact⟨i,rfl,by simp[Program.cellsOf,hi,h]⟩
theorem TG:∀(d:Nat) (t:TypeId) (sh:List Nat),eqFields P d t=some sh->∃agg,yzl P t=some agg/\(agg=false->sh.length=1) /\ ∀(D:Nat),d<=D->∀(l m:List Aa) (xs ys:List Value) (e:Bool) (w':World),l.map Aa.kind=sh->RVs g w l xs->RVs g w m ys->Cw l m=some e -> (Op.equalIn D t (Dv agg xs) (Dv agg ys)).run P w'=.ok e w':=by
 intro d;induction d with
 |zero=>intro t sh h;simp[eqFields]at h
 |succ d ih =>
  intro t sh h
  have one:∀(k:Nat) (l m:List Aa) (xs ys:List Value) (e:Bool),l.map Aa.kind=[k]->RVs g w l xs->RVs g w m ys->Cw l m=some e -> ∃x y u v,Dv false xs=u/\Dv false ys=v/\EB x y=some e/\RV g w x u/\RV g w y v/\x.kind=k:=by
   intro k l m xs ys e hl hx hy he;have ki:=GU he;have da:l.length=1:=by have:=Eg List.length hl;simpa using this
   have fY:=hx.1;have je:=hy.1;obtain⟨x,rfl⟩:=List.length_eq_one_iff.1 da;obtain⟨y,rfl⟩:=List.length_eq_one_iff.1 (ki.symm.trans da);obtain⟨u,rfl⟩:=List.length_eq_one_iff.1 fY;obtain⟨v,rfl⟩:=List.length_eq_one_iff.1 je;refine⟨x,y,u,v,rfl,rfl,?_,hx.2 0 x u rfl rfl,hy.2 0 y v rfl rfl,by simpa using hl⟩;rw[JI]at he;cases hc:EB x y with
   |none=>simp[hc]at he
   |some c=>simpa [hc,Cw] using he
  have kinds:∀{x y:Aa} {u v:Value} {c:Bool} {k:Nat},EB x y=some c->RV g w x u->RV g w y v->x.kind=k -> (k=1->∃q a b,u=.int q a/\v=.int q b/\c=decide (a=b))/\(k=0->∃a b,u=.bool a/\v=.bool b/\c=(a==b))/\(k=2->∃a b:ByteArray,u=.string a/\v=.string b/\c=(a==b)):=by
   intro x y u v c k hc rx ry hk;subst hk;rcases TE hc rx ry with ⟨q,a,b,rfl,rfl,rfl⟩|⟨a,b,rfl,rfl,rfl⟩|⟨a,b,rfl,rfl,rfl⟩
   ·refine⟨fun _=>⟨q,a,b,rfl,rfl,rfl⟩,fun h=>?_,fun h=>?_⟩<;>(cases x<;>simp[Aa.kind]at h<;>cases rx)
   ·refine⟨fun h=>?_,fun _=>⟨a,b,rfl,rfl,rfl⟩,fun h=>?_⟩<;>(cases x<;>simp[Aa.kind]at h<;>cases rx)
   ·refine⟨fun h=>?_,fun h=>?_,fun _=>⟨a,b,rfl,rfl,rfl⟩⟩<;>(cases x<;>simp[Aa.kind]at h<;>cases rx)
  simp only[eqFields]at h;cases hu:P.underlying t with
  |none=>simp[hu]at h
  |some q =>
   simp only[hu]at h;cases q<;>simp only at h<;>(try (cases h;done))
   case bool =>obtain rfl:=BM h;refine⟨false,by simp[yzl,hu],fun _=>rfl,fun D hD l m xs ys e w' hl hx hy he=>?_⟩;obtain⟨D,rfl⟩:∃D',D=D'+1:=⟨D-1,by omega⟩;obtain⟨x,y,u,v,e1,e2,hc,rx,ry,hk⟩:=one 0 l m xs ys e hl hx hy he;obtain⟨a,b,rfl,rfl,rfl⟩:=(kinds hc rx ry hk).2.1 rfl;rw[e1,e2];exact run_equalIn_bool' w' D t a b hu
   case int k =>obtain rfl:=BM h;refine⟨false,by simp[yzl,hu],fun _=>rfl,fun D hD l m xs ys e w' hl hx hy he=>?_⟩;obtain⟨D,rfl⟩:∃D',D=D'+1:=⟨D-1,by omega⟩;obtain⟨x,y,u,v,e1,e2,hc,rx,ry,hk⟩:=one 1 l m xs ys e hl hx hy he;obtain⟨q,a,b,rfl,rfl,rfl⟩:=(kinds hc rx ry hk).1 rfl;rw[e1,e2,run_equalIn_int w' D t q k a b hu];rfl
   case string =>obtain rfl:=BM h;refine⟨false,by simp[yzl,hu],fun _=>rfl,fun D hD l m xs ys e w' hl hx hy he=>?_⟩;obtain⟨D,rfl⟩:∃D',D=D'+1:=⟨D-1,by omega⟩;obtain⟨x,y,u,v,e1,e2,hc,rx,ry,hk⟩:=one 2 l m xs ys e hl hx hy he;obtain⟨a,b,rfl,rfl,rfl⟩:=(kinds hc rx ry hk).2.2 rfl;rw[e1,e2,run_equalIn_string w' D t a b hu,beq_toListBytes]
   case struct fs =>
    split at h
    ·cases h
    ·rename_i aH;refine⟨true,by simp[yzl,hu],(fun e=>by cases e),fun D hD l m xs ys e w' hl hx hy he=>?_⟩;obtain⟨D,rfl⟩:∃D',D=D'+1:=⟨D-1,by omega⟩;have ht:P.underlying t=some (.struct (P.fieldsOf t)):=by rw[TF hu];exact hu
     show(Op.equalIn (D+1) t (.agg xs.toArray) (.agg ys.toArray)).run P w'=_;rw[run_equalIn_struct w' D t _ _ ht (by simpa using aH),TF hu]
     have go:∀(fl:List Field) (n:Nat) (sh:List Nat) (l m:List Aa) (e:Bool),Dt P (eqFields P d) fl n=some sh->l.map Aa.kind=sh->RVs g w l (xs.drop n)->RVs g w m (ys.drop n)->Cw l m=some e -> (Op.eqFields D xs.toArray ys.toArray fl).run P w'=.ok e w':=by
      intro fl;induction fl with
      |nil =>
       intro n sh l m e h1 h2 h3 h4 h5;simp only[Dt,Bd]at h1;subst h1;have:l=[]:=by simpa using h2
       subst this;have:m=[]:=by have:=GU h5;simpa using this.symm
       subst this;simp only[Cw,Bd]at h5;subst h5;simp[Op.eqFields]
      |cons f fl ihf =>
       intro n sh l m e h1 h2 h3 h4 h5;simp only[Dt]at h1;split at h1
       ·rename_i be;obtain⟨dI,gt⟩:=be;cases hm:eqFields P d f.type with
        |none=>simp[hm]at h1
        |some sm =>
         simp only[hm]at h1;split at h1
         ·rename_i bB;obtain⟨aJ,bJ⟩:=bB;cases hg:Dt P (eqFields P d) fl (n+sm.length) with
          |none=>simp[hg]at h1
          |some sl =>
           simp only[hg,Bd]at h1;subst h1;have da:l.length=sm.length+sl.length:=by have:=Eg List.length h2;simpa using this
           obtain⟨c1,c2,q1,q2,rfl⟩:=Oz sm.length (by omega) h5;obtain⟨agg,bt,h1',aG⟩:=ih f.type sm hm;have ki:=GU h5;have fY:=h3.1;have je:=h4.1;simp only[CQ]at fY je;have px:=FX (P:=P) bt (fun _=>aJ) h1' w' xs.toArray n (by simp;omega);have py:=FX (P:=P) bt (fun _=>aJ) h1' w' ys.toArray n (by simp;omega);have kM:RVs g w (l.take sm.length) ((xs.drop n).take sm.length):=h3.take _;have jf:RVs g w (m.take sm.length) ((ys.drop n).take sm.length):=h4.take _;have k1:(l.take sm.length).map Aa.kind=sm:=by rw[List.map_take,h2];simp
           have k2:(l.drop sm.length).map Aa.kind=sl:=(by rw[List.map_drop,h2];simp);have dJ:=aG D (by omega) _ _ _ _ c1 w' k1 kM jf q1;have kN:RVs g w (l.drop sm.length) (xs.drop (n+sm.length)):=(by have:=h3.drop sm.length;rwa [Lr]at this);have kO:RVs g w (m.drop sm.length) (ys.drop (n+sm.length)):=(by have:=h4.drop sm.length;rwa [Lr]at this);have dZ:=ihf (n+sm.length) sl _ _ c2 hg k2 kN kO q2;simp only[Dv]at dJ;simp only[Op.eqFields,An gt,Sem.run_bind,dI,px,py,Result.andThen_ok,dJ];cases c1 with
           |true=>simpa using dZ
           |false=>simp
         ·cases h1
       ·cases h1
     exact go fs.toList 0 sh l m e h hl (by simpa using hx) (by simpa using hy) he
   case array n el =>
    cases hm:eqFields P d el with
    |none=>simp[hm]at h
    |some sm =>
     simp only[hm]at h;split at h
     ·rename_i bB;obtain⟨aJ,bJ⟩:=bB;obtain rfl:=BM h;obtain⟨agg,bt,h1',aG⟩:=ih el sm hm;refine⟨true,by simp[yzl,hu],(fun e=>by cases e),fun D hD l m xs ys e w' hl hx hy he=>?_⟩;obtain⟨D,rfl⟩:∃D',D=D'+1:=⟨D-1,by omega⟩;obtain⟨ti,nL,jg⟩:=Zt aJ;show(Op.equalIn (D+1) t (.agg xs.toArray) (.agg ys.toArray)).run P w'=_;rw[run_equalIn_array w' D _ _ hu nL,jg]
      have go:∀(n k:Nat) (l m:List Aa) (e:Bool),l.map Aa.kind=(List.replicate n sm).flatten->RVs g w l (xs.drop (k*sm.length))->RVs g w m (ys.drop (k*sm.length))->Cw l m=some e -> (Op.eqItems D el sm.length xs.toArray ys.toArray (List.range' k n)).run P w'=.ok e w':=by
       intro n;induction n with
       |zero =>
        intro k l m e h2 h3 h4 h5;have:l=[]:=by simpa using h2
        subst this;have:m=[]:=by have:=GU h5;simpa using this.symm
        subst this;simp only[Cw,Bd]at h5;subst h5;simp[Op.eqItems]
       |succ n ihn =>
        intro k l m e h2 h3 h4 h5;rw[List.replicate_succ,List.flatten_cons]at h2;have da:sm.length<=l.length:=by have:=Eg List.length h2;simp only[FN,Ch]at this;omega
        obtain⟨c1,c2,q1,q2,rfl⟩:=Oz sm.length da h5;have ki:=GU h5;have fY:=h3.1;have je:=h4.1;simp only[CQ]at fY je;have px:=FX (P:=P) bt (fun _=>aJ) h1' w' xs.toArray (k*sm.length) (by simp;omega);have py:=FX (P:=P) bt (fun _=>aJ) h1' w' ys.toArray (k*sm.length) (by simp;omega);have kM:RVs g w (l.take sm.length) ((xs.drop (k*sm.length)).take sm.length):=h3.take _;have jf:RVs g w (m.take sm.length) ((ys.drop (k*sm.length)).take sm.length):=h4.take _;have k1:(l.take sm.length).map Aa.kind=sm:=by rw[List.map_take,h2];simp
        have k2:(l.drop sm.length).map Aa.kind=(List.replicate n sm).flatten:=(by rw[List.map_drop,h2];simp);have dJ:=aG D (by omega) _ _ _ _ c1 w' k1 kM jf q1;have e2:k*sm.length+sm.length=(k+1)*sm.length:=(by rw[Ba,Nat.one_mul]);have kN:RVs g w (l.drop sm.length) (xs.drop ((k+1)*sm.length)):=(by have:=h3.drop sm.length;rwa [Lr,e2]at this);have kO:RVs g w (m.drop sm.length) (ys.drop ((k+1)*sm.length)):=(by have:=h4.drop sm.length;rwa [Lr,e2]at this);have dZ:=ihn (k+1) _ _ c2 k2 kN kO q2;simp only[Dv]at dJ;simp only[List.range'_succ,Op.eqItems,Sem.run_bind,px,py,Result.andThen_ok,dJ];cases c1 with
        |true=>simpa using dZ
        |false=>simp
      rw[List.range_eq_range'];exact go n 0 l m e hl (by simpa using hx) (by simpa using hy) he
     ·cases h
theorem TH:∀{l m:List Aa} {xs ys:List Value},RVs g w l xs->RVs g w m ys->Cw l m=some true->xs=ys
 |[],m,xs,ys,hx,hy,h=>by have:=GU h;have h1:=hx.1;have h2:=hy.1;have e1:xs=[]:=Oh (by simpa using h1);have e2:ys=[]:=Oh (by simp at this;omega);rw[e1,e2]
 |x :: l,[],xs,ys,hx,hy,h=>by simp[Cw]at h
 |x :: l,y :: m,xs,ys,hx,hy,h=>by
  cases xs with
  |nil=>have:=hx.1;simp at this
  |cons u xs =>
   cases ys with
   |nil=>have:=hy.1;simp at this
   |cons v ys =>
    rw[JI]at h;cases hc:EB x y with
    |none=>simp[hc]at h
    |some c =>
     cases he:Cw l m with
     |none=>simp[hc,he]at h
     |some e' =>
      simp only[hc,he,Bd,AF]at h;obtain⟨rfl,rfl⟩:=h;have e1:xs=ys:=TH (l:=l) (m:=m) (by have:=hx.drop 1;simpa using this) (by have:=hy.drop 1;simpa using this) he
      have e2:u=v:=by
       rcases TE hc (hx.2 0 x u rfl rfl) (hy.2 0 y v rfl rfl) with ⟨k,a,b,rfl,rfl,e⟩|⟨a,b,rfl,rfl,e⟩|⟨a,b,rfl,rfl,e⟩
       ·simp at e;rw[e]
       ·simp at e;rw[e]
       ·rw[beq_toListBytes,bytes_beq]at e;have e:a.data.toList=b.data.toList:=(by simpa using e);have:a=b:=(by obtain⟨⟨a⟩⟩:=a;obtain⟨⟨b⟩⟩:=b;simp at e;rw[e]);rw[this]
      rw[e1,e2]
theorem Zu:∀(d:Nat) (t:TypeId) (sh:List Nat),eqFields P d t=some sh->∃agg,yzl P t=some agg/\(agg=false->sh.length=1) /\
  ∀(D:Nat),d<=D->∀(xs:List Value) (em:Bool) (w':World),xs.length=sh.length->(Instr.checkKey em D t (Dv agg xs)).run P w'=.ok () w':=by
 intro d
 induction d with
 |zero=>intro t sh h;simp[eqFields]at h
 |succ d ih =>
  intro t sh h
  simp only[eqFields]at h
  cases hu:P.underlying t with
  |none=>simp[hu]at h
  |some q =>
   simp only[hu]at h
   cases q<;>simp only at h<;>(try (cases h;done))
   case struct fs =>
    split at h
    ·cases h
    ·rename_i aH
     refine⟨true,by simp[yzl,hu],(fun e=>by cases e),fun D hD xs em w' hl=>?_⟩
     obtain⟨D,rfl⟩:∃D',D=D'+1:=⟨D-1,by omega⟩
     show(Instr.checkKey em (D+1) t (.agg xs.toArray)).run P w'=_
     unfold Instr.checkKey
     simp only[Sem.run_bind,run_underlying hu,Result.andThen_ok]
     rw[<-Array.forIn_toList]
     have go:∀(fl:List Field) (n:Nat) (sh:List Nat),Dt P (eqFields P d) fl n=some sh->n+sh.length<=xs.length ->
       (forIn fl PUnit.unit (fun(f:Field) (r:PUnit)=>(do
        if f.name ≠ "_" then do
         Instr.checkKey em D f.type (<-part f.type xs.toArray f.offset)
         pure (ForInStep.yield PUnit.unit)
        else pure (ForInStep.yield PUnit.unit):Sem (ForInStep PUnit)))).run P w'=.ok PUnit.unit w':=by
      intro fl
      induction fl with
      |nil=>intro n sh h1 h2;simp
      |cons f fl ihf =>
       intro n sh h1 h2
       simp only[Dt]at h1
       split at h1
       ·rename_i be
        obtain⟨dI,gt⟩:=be
        cases hm:eqFields P d f.type with
        |none=>simp[hm]at h1
        |some sm =>
         simp only[hm]at h1
         split at h1
         ·rename_i bB
          obtain⟨aJ,bJ⟩:=bB
          cases hg:Dt P (eqFields P d) fl (n+sm.length) with
          |none=>simp[hg]at h1
          |some sl =>
           simp only[hg,Bd]at h1
           subst h1
           simp only[Ch]at h2
           obtain⟨agg,bt,h1',aG⟩:=ih f.type sm hm
           have px:=FX (P:=P) bt (fun _=>aJ) h1' w' xs.toArray n (by simp;omega)
           have dJ:=aG D (by omega) ((xs.drop n).take sm.length) em w' (by simp;omega)
           have dZ:=ihf (n+sm.length) sl hg (by omega)
           simp only[Dv]at dJ
           simp only[List.forIn_cons,Sem.run_bind,An gt,dI,px,Result.andThen_ok,dJ,Sem.run_pure]
           exact dZ
         ·cases h1
       ·cases h1
     rw[go fs.toList 0 sh h (by omega)];simp
   case array n el =>
    cases hm:eqFields P d el with
    |none=>simp[hm]at h
    |some sm =>
     simp only[hm]at h
     split at h
     ·rename_i bB
      obtain⟨aJ,bJ⟩:=bB
      obtain rfl:=BM h
      obtain⟨agg,bt,h1',aG⟩:=ih el sm hm
      refine⟨true,by simp[yzl,hu],(fun e=>by cases e),fun D hD xs em w' hl=>?_⟩
      obtain⟨D,rfl⟩:∃D',D=D'+1:=⟨D-1,by omega⟩
      show(Instr.checkKey em (D+1) t (.agg xs.toArray)).run P w'=_
      unfold Instr.checkKey
      simp only[Sem.run_bind,run_underlying hu,Result.andThen_ok]
      simp only[Std.Legacy.Range.forIn_eq_forIn_range',Std.Legacy.Range.size,Nat.sub_zero,Nat.add_one_sub_one,Nat.div_one]
      have go:∀(n k:Nat),(k+n)*sm.length<=xs.length ->
        (forIn (List.range' k n) PUnit.unit (fun(i:Nat) (r:PUnit)=>(do
         Instr.checkKey em D el (<-part el xs.toArray (i*(<-sizeOf el)))
         pure (ForInStep.yield PUnit.unit):Sem (ForInStep PUnit)))).run P w'=.ok PUnit.unit w':=by
       intro n
       induction n with
       |zero=>intro k h2;simp
       |succ n ihn =>
        intro k h2
        have e2:k*sm.length+sm.length<=xs.length:=by
         refine Bt ?_ h2
         rw[<-Ef]
         exact Bq _ (by omega)
        have px:=FX (P:=P) bt (fun _=>aJ) h1' w' xs.toArray (k*sm.length) (by simp;omega)
        have dJ:=aG D (by omega) ((xs.drop (k*sm.length)).take sm.length) em w' (by simp;omega)
        have dZ:=ihn (k+1) (by rwa [show k+1+n=k+(n+1) by omega])
        simp only[Dv]at dJ
        simp only[List.range'_succ,List.forIn_cons,Sem.run_bind,HU aJ,px,Result.andThen_ok,dJ,Sem.run_pure]
        exact dZ
      have aD:(0+n)*sm.length<=xs.length:=by
       rw[hl,Ce];simp
      rw[go n 0 aD];simp
     ·cases h
   all_goals
    obtain rfl:=BM h
    refine⟨false,by simp[yzl,hu],fun _=>rfl,fun D hD xs em w' hl=>?_⟩
    obtain⟨D,rfl⟩:∃D',D=D'+1:=⟨D-1,by omega⟩
    generalize Dv false xs=v
    unfold Instr.checkKey
    simp only[Sem.run_bind,run_underlying hu,Result.andThen]
    cases v<;>rfl
theorem TI{o:Oper}{ty yt:TypeId}{ng:Bool}{sh:List Nat}{fs:Array Field}{x y:Operand}{x' y':Ad}(H:HR E g h w)(ht:RVs g w t a.tmps.toList)(ho:o.op=.binOp (if ng then .neq else .eql) ty x y yt)(hx:AA x x'=true)(hy:AA y y'=true)(hg:P.eqGuardType P.depth ty=false) (hs:eqFields P 9 ty=some sh) (hu:P.underlying ty=some (.struct fs))(aB:((Al.eqagg sh ng x' y').req (Ag E t) h).ok):Ran E P (execOp a.eval o) g h w ((Al.eqagg sh ng x' y').req (Ag E t) h):=by
 have rx:=AQ H ht hx;have ry:=AQ H ht hy;simp only[Al.req]at aB |-;generalize Ag E t x'=X at *;generalize Ag E t y'=Y at *;generalize fZ:a.eval x=u at rx;generalize mN:a.eval y=v at ry;cases X<;>(try simp only[Req.fail]at aB)
 case agg l =>
  cases Y<;>(try simp only[Req.fail]at aB);rename_i m;cases he:Cw l m with
  |none=>simp only[he]at aB
  |some e =>
   simp only[he]at aB |-;have aB:l.map Aa.kind=sh:=aB;cases rx with
   |agg _ xs dK jh =>
    cases ry with
    |agg _ ys gu kP =>
     have eX:RVs g w l xs.toList:=⟨by simpa using dK,fun i x v hx hv=>jh i x v hx (by simpa using hv)⟩;have gM:RVs g w m ys.toList:=⟨by simpa using gu,fun i x v hx hv=>kP i x v hx (by simpa using hv)⟩;obtain⟨agg,bt,_,aG⟩:=TG (P:=P) (g:=g) (w:=w) 9 ty sh hs;obtain rfl:agg=true:=(by simp only[yzl,hu,Dp,Bd]at bt;exact bt.symm);have hq:=aG 10000 (by omega) l m _ _ e w aB eX gM he;simp only[Dv,Ci,Jz]at hq;cases ng with
     |false =>refine Ran.same H (v:=.bool e) ?_ (.bool _);simp only[Ju,Dk]at ho;simp only[execOp,ho,fZ,mN,Sem.run_bind,run_eqGuard_agg w .eql ty x y xs ys hg,Result.andThen_ok,run_eql_struct,hq,Sem.run_pure]
     |true =>refine Ran.same H (v:=.bool (!e)) ?_ (.bool _);simp only[Ci]at ho;simp only[execOp,ho,fZ,mN,Sem.run_bind,run_eqGuard_agg w .neq ty x y xs ys hg,Result.andThen_ok,run_neq_struct,hq,Sem.run_pure]
end
section
variable {E:Nat->Aa}{P:Program}{g:Gh}{h:Aw}{w:World}{t:List Aa}{a:Act}
def BW(st m:Nat)(vals:Nat->Nat->Value):List Value:=(List.range (m*st)).map fun q=>vals (q / st) (q%st)
theorem Fy(st m:Nat)(vals:Nat->Nat->Value):(BW st m vals).length=m*st:=by simp[BW]
theorem HY{st m:Nat}{vals:Nat->Nat->Value}{k j:Nat}(hk:k<m)(hj:j<st):(BW st m vals)[k*st+j]?=some (vals k j):=by
 have hb:k*st+j<m*st:=by have:(k+1)*st<=m*st:=Bq _ hk;rw[Ef]at this;omega
 have h0:0<st:=by omega
 rw[BW,FM,Oi hb];simp only[Dp];rw[Bi k st,NX h0,J7 hj,On,Ee hj,GJ]
theorem HZ{st m:Nat}{vals:Nat->Nat->Value}{q:Nat}{v:Value}(hq:(BW st m vals)[q]?=some v):∃k j,k<m/\j<st/\q=k*st+j/\v=vals k j:=by
 have hlt:q<m*st:=by have:=(AL.1 hq).1;simpa [BW] using this
 have h0:0<st:=by
  rcases Fq st with e|e
  ·rw[e]at hlt;simp at hlt
  ·exact e
 have hk:q / st<m:=by rw[GM h0];exact hlt
 have hj:q%st<st:=FQ _ h0;refine⟨q / st,q%st,hk,hj,by rw[Bi];exact(HK q st).symm,?_⟩;rw[BW,FM,Oi hlt]at hq;simpa using hq.symm
structure L2(g:Gh)(w:World)(st m:Nat)(f:Nat->List Aa)(v:Value)(vals:Nat->Nat->Value):Prop where
 val:∃ad cap,v=.slice ad m cap/\m<=cap/\(m=0\/∃b off,ad=some ⟨b,off,none⟩/\∀k j,k<m->j<st->w.cell? ⟨b,off+(k*st+j),none⟩=some (vals k j))
 len:∀k,k<m->(f k).length=st
 one:∀k j,k<m->j<st->(vals k j).oneCell'=true
 rv:∀(k j:Nat) (x:Aa),k<m->(f k)[j]?=some x->RV g w x (vals k j)
theorem JJ{st:Nat}{Y:Aa}{v:Value}(H:HR E g h w)(hv:RV g w Y v)(aB:(Br st Y h).ok)(aH:(Br st Y h).st=st):∃vals,L2 g w st (Br st Y h).n (Br st Y h).f v vals:=by
 unfold Br at aB aH |-;cases Y<;>simp only at aB aH<;>(try (exact aB.elim))
 case nils =>cases hv;exact⟨fun _ _=>undef,⟨none,0,rfl,AC _,.inl rfl⟩,fun k hk=>absurd hk (NY _),fun k j hk=>absurd hk (NY _),fun k j x hk=>absurd hk (NY _)⟩
 case slc st' n f =>
  subst aH;cases hv with
  |slc0 _ _ ad cap=>exact⟨fun _ _=>undef,⟨ad,cap,rfl,DC _,.inl rfl⟩,fun k hk=>absurd hk (NY _),fun k j hk=>absurd hk (NY _),fun k j x hk=>absurd hk (NY _)⟩
  |slc _ _ _ b off cap vals hz aT hl hc h1 hr =>exact⟨vals,⟨_,cap,rfl,aT,.inr ⟨b,off,rfl,fun k j hk hj=>by rw[<-Di];exact hc k j hk hj⟩⟩,hl,h1,hr⟩
 case vec id ep lo n =>
  have hO:=H.obj id;cases hh:h id<;>simp only[hh]at aB aH hO |-<;>(try (exact aB.elim));rename_i ep' st' m f;subst aH;obtain⟨he,aE⟩:=aB;obtain⟨bS,h0,hn,arr,ty,hr,bm,aV⟩:=hO;obtain⟨ad,cap,e1,aT,hc⟩:=Fx H hv (by rw[hh];exact he);have ce:∀k j,k<n->j<st'->g.bo id+(lo+k)*st'+j<arr.size:=fun k j hk hj=>by have:(lo+k+1)*st'<=g.cp id*st':=Bq _ (by omega);rw[Ef]at this;omega
  refine⟨fun k j=>arr.getD (g.bo id+(lo+k)*st'+j) undef,⟨some ad,cap,e1,aT,?_⟩,fun k hk=>(aV (lo+k) (by omega)).1,fun k j hk hj=>?_,fun k j x hk hx=>?_⟩
  ·rcases Fq n with e|e;·exact .inl e
   ·rcases hc with bV|⟨rfl,hc⟩;·omega
    ·refine .inr ⟨_,_,rfl,fun k j hk hj=>?_⟩;have hb:=ce k j hk hj;have e2:g.bo id+lo*g.st id+(k*st'+j)=g.bo id+(lo+k)*st'+j:=(by rw[bS,Ba];omega);simp[World.cell?,hr,e2,hb]
  ·have hb:=ce k j hk hj;have aD:=(aV (lo+k) (by omega)).1;have:=(aV (lo+k) (by omega)).2 j _ (arr.getD (g.bo id+(lo+k)*st'+j) undef) (AD (by omega)) (by simp[hb]);exact this.1
  ·have aD:=(aV (lo+k) (by omega)).1;have hj:j<st':=by have:=(AL.1 hx).1;omega
   have hb:=ce k j hk hj;exact((aV (lo+k) (by omega)).2 j x (arr.getD (g.bo id+(lo+k)*st'+j) undef) hx (by simp[hb])).2
theorem L2.news{st m:Nat}{f:Nat->List Aa}{v:Value}{vals:Nat->Nat->Value}(s:L2 g w st m f v vals)(hm:0<m) : ∃b off cap,v=.slice (some ⟨b,off,none⟩) m cap/\∀q u,(BW st m vals)[q]?=some u->w.cell? ((⟨b,off,none⟩:Addr).add q)=some u:=by
 obtain⟨ad,cap,e1,_,hc⟩:=s.val;rcases hc with h0|⟨b,off,rfl,aN⟩
 ·omega
 ·refine⟨b,off,cap,e1,fun q u hq=>?_⟩;obtain⟨k,j,hk,hj,rfl,rfl⟩:=HZ hq;rw[En];exact aN k j hk hj
theorem Zv{st m:Nat}{f:Nat->List Aa}{v:Value}{vals:Nat->Nat->Value}(s:L2 g w st m f v vals):∀u∈BW st m vals,u.oneCell'=true:=by intro u hu;obtain⟨q,hq⟩:=Tg.1 hu;obtain⟨k,j,hk,hj,rfl,rfl⟩:=HZ hq;exact s.one k j hk hj
theorem L3(P:Program)(o:Oper)(ρ:Operand->Value)(x y:Operand)(tx:TypeId)(u v:Value)(r:Value)(w w':World)(ho:o.op=.call { callee:=.builtin .append,args:=#[x,y],argTypes:=#[tx,tx] })(hx:ρ x=u)(hy:ρ y=v)(hr:(Builtin.append_ #[tx,tx] o.type #[u,v]).run P w=.ok r w'):(execOp ρ o).run P w=.ok (.value r) w':=by simp[execOp,ho,resolve,invoke,builtin,hx,hy,hr]
theorem O0{e:TypeId}{i:TypeInfo}{z:Value}(hi:P.info? e=some i)(hz:i.zero=some z){l:List Value}(hl:El P e=some l):l=z.cells.toList:=by obtain⟨⟩:=i;simp only at hz;subst hz;simpa [El,hi] using hl.symm
theorem L5{e:TypeId}{st bytes:Nat}(hs:szOf P e=some st)(hb:byOf P e=some bytes){zl:List Value}(hz:El P e=some zl)(cM:zl.length=st) : ∃(i:TypeInfo) (z:Value),P.info? e=some i/\i.zero=some z/\i.size=st/\i.bytes=bytes/\z.cells.size=st:=by
 unfold szOf at hs;unfold byOf at hb;cases hi:P.info? e with
 |none=>simp[hi]at hs
 |some i =>
  simp only[hi,Dp,Bd]at hs hb;cases bL:i.zero with
  |none =>obtain⟨⟩:=i;simp only at bL;subst bL;simp[El,hi]at hz
  |some z =>have:=O0 hi bL hz;refine⟨i,z,rfl,bL,hs,hb,?_⟩;rw[this]at cM;simpa using cM
theorem O1(w:World)(need old:Nat)(e:TypeId):need<=grownCap w need old e:=by simp only[grownCap,Question.cut];omega
theorem L6{s ep st n:Nat}{f:Nat->List Aa}{g':Gh}{w':World}{arr:Array Value}{ty:TypeId}{b bo cp:Nat}(h0:0<st)(aK:g'.blk s=b)(dh:g'.bo s=bo)(aH:g'.st s=st)(cU:g'.cp s=cp)(hn:n<=cp)(cT:w'.heap[b]?=some (.cells arr ty (0,0))) (aJ:bo+cp*st<=arr.size) (hl:∀k,k<n->(f k).length=st)(hc:∀k j,k<n->j<st->∃v,arr[bo+k*st+j]?=some v/\v.oneCell'=true/\∀x,(f k)[j]?=some x->RV g' w' x v):OR g' w' s (.vec ep st n f):=by
 refine⟨aH,h0,by omega,arr,ty,by rw[aK];exact cT,by rw[dh,cU];exact aJ,fun k hk=>⟨hl k hk,fun j x v hx hv=>?_⟩⟩;have hj:j<st:=by rw[<-hl k hk];exact(AL.1 hx).1
 obtain⟨u,hu,h1,h2⟩:=hc k j hk hj;rw[dh,hu]at hv;obtain rfl:=BM hv;exact⟨h1,h2 x hx⟩
theorem EC{k n st j:Nat}(hk:k<n)(hj:j<st):k*st+j<n*st:=by have:(k+1)*st<=n*st:=Bq _ hk;rw[Ef]at this;omega
theorem Zw{o:Oper}{x y:Operand}{tx e:TypeId}{s st bytes:Nat}{y':Ad}{zl:List Value}(H:HR E g h w)(ht:RVs g w t a.tmps.toList)(ho:o.op=.call { callee:=.builtin .append,args:=#[x,y],argTypes:=#[tx,tx] })(hy:AA y y'=true)(hu:P.underlying tx=some (.slice e)) (hs:szOf P e=some st) (hb:byOf P e=some bytes) (hz:El P e=some zl) (cM:zl.length=st) (eY:0<bytes) (hx:a.eval x=.slice none 0 0)(aB:(Eh s st bytes .nils (Ag E t y') h).ok):Ran E P (execOp a.eval o) g h w (Eh s st bytes .nils (Ag E t y') h):=by
 have ry:=AQ H ht hy;generalize Ag E t y'=Y at *;simp only[Eh]at aB |-;by_cases hn:(Br st Y h).n=0
 ·simp only[hn,Ci]at aB |-;obtain⟨vals,src⟩:=JJ H ry aB.1 aB.2;obtain⟨ad,cap,e1,_,_⟩:=src.val;rw[hn]at e1;obtain⟨i,z,hi,bL,aJ,iG,bh⟩:=L5 hs hb hz cM;refine Ran.same H (v:=.slice none 0 0) ?_ .nils;cases ad with
  |none=>simp[execOp,ho,hx,e1,resolve,invoke,builtin,Builtin.append_,run_underlying hu,sizeOf,typeInfo,hi,Builtin.lenOf,Builtin.firstCells,Result.andThen]
  |some ad=>simp[execOp,ho,hx,e1,resolve,invoke,builtin,Builtin.append_,run_underlying hu,sizeOf,typeInfo,hi,Builtin.lenOf,Builtin.firstCells,loadCells,loadCellsFrom,Result.andThen]
 simp only[hn,Dk]at aB |-;obtain⟨_,h1,h2,h0,hm,eH⟩:=aB;obtain⟨vals,src⟩:=JJ H ry h1 h2;obtain⟨b,off,cap,e1,c9⟩:=src.news hm;obtain⟨i,z,hi,bL,aJ,iG,bh⟩:=L5 hs hb hz cM;generalize (Br st Y h).n=m at *;generalize (Br st Y h).f=f at *;have kQ:(m:Int)<=9223372036854775807:=by have:m*1<=m*bytes:=ST _ eY;omega
 have run:=run_append_nil (P:=P) w tx o.type e i z hu hi bL ⟨b,off,none⟩ m cap (BW st m vals) (by rw[Fy,aJ]) c9 hm kQ (by rw[iG];omega);refine Ran.new (ob:=.cells ((BW st m vals).toArray++Builtin.zeroCells z.cells (grownCap w m 0 e-m)) e (0,0)) (bo:=0) (st:=st) (cp:=grownCap w m 0 e) H ⟨w.drew,rfl,rfl,rfl,rfl,Cr _,L3 P o a.eval x y tx _ _ _ w _ ho hx e1 run⟩ rfl ?_;intro g' w' aE aK dh bS cU aM;have hge:=O1 w m 0 e;refine⟨L6 h0 aK dh bS cU hge aM ?_ src.len (fun k j hk hj=>⟨vals k j,?_,src.one k j hk hj,fun x hx=>(src.rv k j x hk hx).mono aE⟩),fun he=>?_⟩
 ·rw[HI,size_zeroCells,bh];simp only[FO,Fy];have:(grownCap w m 0 e-m)*st+m*st=grownCap w m 0 e*st:=by rw[<-Ba];congr 1;omega
  omega
 ·have bX:=EC hk hj;rw[Ce,Jt (by simp[Fy];exact bX)];simpa using HY hk hj
 ·exact .vec _ _ _ _ _ rfl (by rw[he];exact AC _) (fun _=>L1 aK dh cU hge)
theorem Zx(ty e tx:TypeId)(i:TypeInfo)(hu:P.underlying tx=some (.slice e))(hi:P.info? e=some i)(b bo n cap:Nat)(cur:Array Value)(te:TypeId)(hg:w.heap[b]?=some (.cells cur te (0,0)))(v:Value) (m:Nat) (news:List Value) (ji:(Builtin.lenOf v).run P w=.ok m w) (c9:(Builtin.firstCells i.size m v).run P w=.ok news.toArray w) (h1:∀u∈news,u.oneCell'=true)(aP:n+m<=cap) (bm:bo+n*i.size+news.length<=cur.size) (pS:∀k,P.underlying tx≠some (.int k)) :
  (Builtin.append_ #[tx,tx] ty #[.slice (some ⟨b,bo,none⟩) n cap,v]).run P w =
   .ok (.slice (some ⟨b,bo,none⟩) (n+m) cap) (w.setRow b (cur.toList.take (bo+n*i.size)++news++cur.toList.drop (bo+n*i.size+news.length)).toArray):=by
 have aH:=run_storeCells_at P b (bo+n*i.size) te news 0 cur w hg (by simpa using bm) h1;simp only[GJ]at aH;simp[Builtin.append_,run_underlying hu,sizeOf,typeInfo,hi,ji,aP,c9,En,aH]
theorem TJ{s:Sem Next}{rd:List Nat}{p:Prop}{i:Nat}{o':Ak}{x:Aa}{v:Value}{bo st cp:Nat}{w':World}(H:HR E g h w)(aU:(h i).owned=true)(hr:s.run P w=.ok (.value v) w') (bZ:o'.ep=(h i).ep+1) (nM:o'.owned=true)(bK:∀b,b≠g.blk i->w'.heap[b]?=w.heap[b]?) (c7:w'.heap.size=w.heap.size) (gK:w'.os=w.os) (d5:w'.tape=w.tape) (hout:w'.output=w.output)(cO:∀g':Gh,GLe g w g' w'->g'.blk i=g.blk i->g'.bo i=bo->g'.st i=st->g'.cp i=cp->g'.ep i=(h i).ep+1->OR g' w' i o'/\RV g' w' x v) (jc:w.drawn<=w'.drawn:=by first|exact AC _|exact Cr _|simp):Ran E P s g h w ⟨p,rd,x,some (i,o')⟩:=by
 let g':Gh:=⟨g.blk,fun j=>if j=i then(h i).ep+1 else g.ep j,fun j=>if j=i then bo else g.bo j,fun j=>if j=i then st else g.st j,fun j=>if j=i then cp else g.cp j,g.fz⟩
 have cq:=H.sep i aU
 have aE:GLe g w g' w':=by
  refine⟨fun b hb=>⟨hb,bK b (fun e=>cq (e▸hb))⟩,fun j=>?_,fun j hj=>?_⟩
  ·show g.ep j<=if j=i then(h i).ep+1 else g.ep j;split
   ·rename_i e;subst e;rw[H.ep j];omega
   ·exact AC _
  ·have:j≠i:=fun e=>by
    subst e;have aY:(if j=j then(h j).ep+1 else g.ep j)=g.ep j:=hj;rw[An rfl,H.ep j]at aY;omega
   exact⟨rfl,Aj this,Aj this,Aj this⟩
 obtain⟨hO,hV⟩:=cO g' aE rfl (An rfl) (An rfl) (An rfl) (An rfl);obtain⟨H',S'⟩:=HR.upd (g':=g') (w':=w') (i:=i) (o':=o') H aE (fun j hj=>Aj hj) ((An rfl:g'.ep i=_).trans bZ.symm) (fun b _ aI=>bK b (aI aU)) (by omega) hO (fun _=>.inl ⟨aU,rfl⟩) (fun _=>cq) (fun b hb=>.inl hb) (fun b hb=>by rw[c7];exact H.fzb b hb) gK d5 hout jc;exact⟨_,v,w',g',hr,.inl rfl,hV,H',S',fun e=>by cases e⟩
theorem Zy{o:Oper}{x y:Operand}{tx e:TypeId}{s st bytes:Nat}{y':Ad}{zl:List Value}{id ep lo n:Nat}(H:HR E g h w)(ht:RVs g w t a.tmps.toList)(ho:o.op=.call { callee:=.builtin .append,args:=#[x,y],argTypes:=#[tx,tx] })(hy:AA y y'=true)(hu:P.underlying tx=some (.slice e)) (hs:szOf P e=some st) (hb:byOf P e=some bytes) (hz:El P e=some zl) (cM:zl.length=st) (eY:0<bytes) (hx:RV g w (.vec id ep lo n) (a.eval x))(aB:(Eh s st bytes (.vec id ep lo n) (Ag E t y') h).ok):Ran E P (execOp a.eval o) g h w (Eh s st bytes (.vec id ep lo n) (Ag E t y') h):=by
 have ry:=AQ H ht hy;generalize Ag E t y'=Y at *;simp only[Eh]at aB |-;have hO:=H.obj id;cases hh:h id<;>simp only[hh,Req.fail]at aB hO |-
 case vec ep' st' N f0 =>
  obtain⟨h1,h2,rfl,rfl,nN,eH⟩:=aB;obtain⟨vals,src⟩:=JJ H ry h1 h2;obtain⟨i,z,hi,bL,aJ,iG,bh⟩:=L5 hs hb hz cM;obtain⟨aH,h0,hn,arr,ty,hr,bm,aV⟩:=hO;have aU:(h id).owned=true:=by rw[hh];rfl
  have co:(h id).ep=ep:=by rw[hh];rfl
  obtain⟨ad,cap,e1,aT,hc⟩:=Fx H hx co.symm;generalize (Br st' Y h).n=m at *;generalize (Br st' Y h).f=f at *
  have aO:∀k j,k<n->j<st'->∃u,arr[g.bo id+(lo+k)*st'+j]?=some u/\u.oneCell'=true/\∀x,(f0 (lo+k))[j]?=some x->RV g w x u:=by
   intro k j hk hj;obtain⟨hl,aN⟩:=aV (lo+k) (by omega);have bX:=EC (k:=lo+k) (n:=g.cp id) (st:=st') (j:=j) (by omega) hj;have hlt:g.bo id+(lo+k)*st'+j<arr.size:=by omega
   refine⟨arr[g.bo id+(lo+k)*st'+j],DE hlt,?_⟩;have kR:(f0 (lo+k))[j]?=some (f0 (lo+k))[j]:=AD (by omega);have:=aN j _ _ kR (DE hlt);refine⟨this.1,fun x hx=>?_⟩;rw[kR]at hx;obtain rfl:=BM hx;exact this.2
  have jj:((n+m:Nat):Int)<=9223372036854775807:=by have:(n+m)*1<=(n+m)*bytes:=ST _ eY;omega
  have gv:∀k,k<n+m->((fun k=>if k<n then f0 (lo+k) else f (k-n)) k).length=st':=by
   intro k hk;simp only;split
   ·exact(aV (lo+k) (by omega)).1
   ·exact src.len _ (by omega)
  by_cases aP:n+m<=cap
  ·-- it fits
   obtain⟨sad,scap,se,_,_⟩:=src.val;have ji:(Builtin.lenOf (a.eval y)).run P w=.ok m w:=by rw[se];rfl
   rcases hc with bV|⟨rfl,hc⟩
   ·-- no room,and nothing comes
    have nO:n=0:=(by omega);have gN:m=0:=(by omega);subst bV;subst nO;subst gN
    have kT:(Builtin.firstCells i.size 0 (a.eval y)).run P w=.ok #[] w:=by
     rw[se];cases sad with
     |none=>simp[Builtin.firstCells]
     |some q=>simp[Builtin.firstCells,loadCells,loadCellsFrom]
    have run:(Builtin.append_ #[tx,tx] o.type #[.slice (some ad) 0 0,a.eval y]).run P w=.ok (.slice (some ad) 0 0) w:=(by simp[Builtin.append_,run_underlying hu,sizeOf,typeInfo,hi,ji,kT,storeCells]);refine TJ (bo:=g.bo id) (st:=st') (cp:=g.cp id) H aU (L3 P o a.eval x y tx _ _ _ w _ ho e1 rfl run) (by rw[co];rfl) rfl (fun b _=>rfl) rfl rfl rfl rfl ?_;intro g' aE aK dh bS cU bZ;refine⟨⟨bS,h0,by omega,arr,ty,by rw[aK];exact hr,by rw[dh,cU];exact bm,fun k hk=>absurd hk (NY _)⟩,?_⟩;exact .vec _ _ _ _ _ rfl (by rw[bZ,co];exact AC _) (fun _=>⟨ad,0,rfl,AC _,.inl rfl⟩)
   ·have kT:(Builtin.firstCells i.size m (a.eval y)).run P w=.ok (BW st' m vals).toArray w:=by
     rcases Fq m with e0|e0
     ·subst e0;rw[se];cases sad with
      |none=>simp[Builtin.firstCells,BW]
      |some q=>simp[Builtin.firstCells,loadCells,loadCellsFrom,BW]
     ·obtain⟨b,off,scap',e2,c9⟩:=src.news e0;rw[e2];exact run_firstCells_some (P:=P) w i.size m ⟨b,off,none⟩ m scap' _ (by rw[Fy,aJ]) c9
    have gw:g.bo id+lo*g.st id+n*i.size+(BW st' m vals).length<=arr.size:=(by rw[Fy,aH,aJ];have:(lo+(n+m))*st'<=g.cp id*st':=Bq _ (by omega);rw[Ba,Ba]at this;omega);have run:=Zx (P:=P) (w:=w) o.type e tx i hu hi (g.blk id) (g.bo id+lo*g.st id) n cap arr ty hr (a.eval y) m (BW st' m vals) ji kT (Zv src) aP gw (by intro k hk;rw[hu]at hk;cases hk);rw[<-e1]at run;have cT:=setRow_heap w (g.blk id) arr (arr.toList.take (g.bo id+lo*g.st id+n*i.size)++BW st' m vals++arr.toList.drop (g.bo id+lo*g.st id+n*i.size+(BW st' m vals).length)).toArray ty (0,0) hr;refine TJ (bo:=g.bo id+lo*st') (st:=st') (cp:=cap) H aU (L3 P o a.eval x y tx _ _ _ w _ ho rfl rfl run) (by rw[co];rfl) rfl (fun b hb=>setRow_other w (g.blk id) b _ hb) (by simp) rfl rfl rfl ?_;intro g' aE aK dh bS cU bZ;refine⟨L6 h0 aK dh bS cU aP cT ?_ gv ?_,?_⟩
    ·have e5:=Fy st' m vals;have:(lo+cap)*st'=g.cp id*st':=(by rw[hc]);rw[Ba]at this;simp only[FO,Ch,Do,CQ,Array.length_toList];omega
    ·intro k j hk hj;have fN:=yzx arr.toList (BW st' m vals) (g.bo id+lo*g.st id+n*i.size) (g.bo id+lo*st'+k*st'+j) (by simpa using gw);have gO:=aE;rw[aH,aJ]at gO;rw[GI,fN,aH,aJ];by_cases eI:k<n
     ·have bX:=EC eI hj;rw[An (by omega)];obtain⟨u,q1,q2,q3⟩:=aO k j eI hj;have e4:g.bo id+lo*st'+k*st'+j=g.bo id+(lo+k)*st'+j:=by rw[Ba];omega
      refine⟨u,by rw[e4];simpa using q1,q2,fun x hx=>?_⟩;simp only[An eI]at hx;exact(q3 x hx).mono gO
     ·have e5:k*st'=n*st'+(k-n)*st':=(by rw[<-Ba];congr 1;omega);have bX:=EC (k:=k-n) (n:=m) (st:=st') (j:=j) (by omega) hj;rw[Aj (by omega),An (by rw[Fy];omega)];have e6:g.bo id+lo*st'+k*st'+j-(g.bo id+lo*st'+n*st')=(k-n)*st'+j:=(by omega);rw[e6];refine⟨_,HY (by omega) hj,src.one _ _ (by omega) hj,fun x hx=>?_⟩;simp only[Aj eI]at hx;exact(src.rv _ _ x (by omega) hx).mono gO
    ·exact .vec _ _ _ _ _ rfl (by rw[bZ,co];exact AC _) (fun _=>⟨_,cap,rfl,aP,.inr ⟨by rw[aK,dh,bS,aH];simp,by omega⟩⟩)
  ·-- it grows
   have hm:0<m:=by omega
   obtain⟨b,off,scap,e2,c9⟩:=src.news hm
   have jk:∃olds:List Value,olds=BW st' n (fun k j=>arr.getD (g.bo id+(lo+k)*st'+j) undef)/\∀q u,olds[q]?=some u->w.cell? (ad.add q)=some u:=by
    refine⟨_,rfl,fun q u hq=>?_⟩;obtain⟨k,j,hk,hj,rfl,rfl⟩:=HZ hq;rcases hc with bV|⟨rfl,hc⟩
    ·omega
    ·rw[En];obtain⟨u,q1,_,_⟩:=aO k j hk hj;have e4:g.bo id+lo*g.st id+(k*st'+j)=g.bo id+(lo+k)*st'+j:=by rw[aH,Ba];omega
     have hlt:=(CP.1 q1).1;simp[World.cell?,hr,e4,hlt]
   obtain⟨olds,rfl,jl⟩:=jk;have run:=run_append_grow (P:=P) w tx o.type e i z hu hi bL ad n cap _ (by rw[Fy,aJ]) jl ⟨b,off,none⟩ m scap (BW st' m vals) (by rw[Fy,aJ]) c9 (by omega) jj (growslice_fits (by omega) (by rw[iG];exact eH));have hge:=O1 w (n+m) cap e;refine Ran.new (bo:=0) (st:=st') (cp:=grownCap w (n+m) cap e) H ⟨w.drew,rfl,rfl,rfl,rfl,Cr _,L3 P o a.eval x y tx _ _ _ w _ ho e1 e2 run⟩ (by rw[co];rfl) ?_;intro g' w' aE aK dh bS cU aM;refine⟨L6 h0 aK dh bS cU hge aM ?_ gv (fun k j hk hj=>?_),fun he=>?_⟩
   ·rw[HI,HI,size_zeroCells,bh];simp only[FO,Fy];have:(grownCap w (n+m) cap e-(n+m))*st'+(n+m)*st'=grownCap w (n+m) cap e*st':=by rw[<-Ba];congr 1;omega
    rw[Ba]at this;omega
   ·have bX:=EC (k:=k) (n:=n+m) (st:=st') (j:=j) hk hj;rw[Ba]at bX;rw[Ce,Jt (by simp[Fy];omega)];by_cases eI:k<n
    ·have dq:=EC eI hj;rw[Jt (by simp[Fy];exact dq)];obtain⟨u,q1,q2,q3⟩:=aO k j eI hj;refine⟨u,?_,q2,fun x hx=>?_⟩
     ·have:=HY (vals:=fun k j=>arr.getD (g.bo id+(lo+k)*st'+j) undef) eI hj;have hlt:=(CP.1 q1).1;have nR:=(CP.1 q1).2;rw[GI,this];simp[hlt,nR]
     ·simp only[An eI]at hx;exact(q3 x hx).mono aE
    ·have e5:k*st'=n*st'+(k-n)*st':=(by rw[<-Ba];congr 1;omega);rw[Array.getElem?_append_right (by simp[Fy];omega)];simp only[FO,Fy];have e6:k*st'+j-n*st'=(k-n)*st'+j:=by omega
     rw[e6];refine⟨_,by rw[GI];exact HY (by omega) hj,src.one _ _ (by omega) hj,fun x hx=>?_⟩;simp only[Aj eI]at hx;exact(src.rv _ _ x (by omega) hx).mono aE
   ·rw[co]at he;exact .vec _ _ _ _ _ rfl (by rw[he];exact AC _) (fun _=>L1 aK dh cU hge)
end
section
variable {E:Nat->Aa}{P:Program}{g:Gh}{h:Aw}{w:World}{t:List Aa}{a:Act}
theorem O2{s:Sem Next}{rd:List Nat}{p:Prop}{i:Nat}{o':Ak}{x:Aa}{v:Value}{n:Next}{w1:World}{ob ob0:Obj}(H:HR E g h w)(aU:(h i).owned=true)(hd:w1=w\/w1=w.drew) (hb:w.heap[g.blk i]?=some ob0)(hr:s.run P w=.ok n { w1 with heap:=w1.heap.setIfInBounds (g.blk i) ob }) (hn:n=.value v\/(n=.skip/\v=undef))(bZ:o'.ep=(h i).ep) (cO:∀w',GLe g w g w'->w'.heap[g.blk i]?=some ob->OR g w' i o'/\RV g w' x v):Ran E P s g h w ⟨p,rd,x,some (i,o')⟩:=by
 have cq:=H.sep i aU;have hh:w1.heap=w.heap:=by rcases hd with rfl|rfl<;>rfl
 have gK:w1.os=w.os:=by rcases hd with rfl|rfl<;>rfl
 have nS:w1.tape=w.tape:=by rcases hd with rfl|rfl<;>rfl
 have hout:w1.output=w.output:=by rcases hd with rfl|rfl<;>rfl
 have hlt:g.blk i<w.heap.size:=(CP.1 hb).1
 let w':World:={ w1 with heap:=w1.heap.setIfInBounds (g.blk i) ob }
 have jm:∀b,b≠g.blk i->w'.heap[b]?=w.heap[b]?:=fun b bn=>by show(w1.heap.setIfInBounds (g.blk i) ob)[b]?=_;rw[hh];simp[Ne.symm bn]
 have bK:w'.heap[g.blk i]?=some ob:=by show(w1.heap.setIfInBounds (g.blk i) ob)[g.blk i]?=_;rw[hh];simp[hlt]
 have aJ:w'.heap.size=w.heap.size:=by show(w1.heap.setIfInBounds (g.blk i) ob).size=_;rw[hh];simp
 have aE:GLe g w g w':=⟨fun b bn=>⟨bn,jm b (fun e=>cq (e▸bn))⟩,fun _=>AC _,fun _ _=>⟨rfl,rfl,rfl,rfl⟩⟩;obtain⟨hO,hV⟩:=cO w' aE bK;obtain⟨H',S'⟩:=HR.upd (g':=g) (w':=w') (i:=i) (o':=o') H aE (fun _ _=>rfl) ((H.ep i).trans bZ.symm) (fun b bn aI=>jm b (aI aU)) (by omega) hO (fun _=>.inl ⟨aU,rfl⟩) (fun _=>cq) (fun b bn=>.inl bn) (fun b bn=>by rw[aJ];exact H.fzb b bn) gK nS hout (by rcases hd with rfl | rfl;exact AC _;exact Cr _);exact⟨n,v,w',g,hr,hn,hV,H',S',fun e=>by cases e⟩
theorem Zz{o:Oper}{ty:TypeId}{s:Nat}(H:HR E g h w)(ho:o.op=.makeMap ty none) :
  Ran E P (execOp a.eval o) g h w ((Al.mkmap s).req (Ag E t) h):=by
 simp only[Al.req];refine Ran.new (ob:=.map #[] 0) (bo:=0) (st:=0) (cp:=0) (v:=.map (some w.heap.size)) H ⟨w,rfl,rfl,rfl,rfl,AC _,?_⟩ rfl ?_
 ·have e:(Instr.makeMap ty none).run P w=.ok (.map (some w.heap.size)) (w.alloc (.map #[] 0)):=rfl;simp[execOp,ho,e,Result.andThen]
 intro g' w' aE aK _ _ _ aM;refine⟨⟨#[],by rw[aK];exact aM,rfl,fun k e m he=>by simp at he⟩,fun he=>?_⟩;exact .mp _ _ _ rfl (by rw[he];exact AC _) (fun _=>by rw[aK])
def Dw:TypeDesc->Option Nat
 |.bool=>some 0
 |.int _=>some 1
 |.string=>some 2
 |_=>none
inductive TK(P:Program)(kt:TypeId)(kd:Nat):Prop where
 |one (d:TypeDesc) (hd:P.underlying kt=some d) (hk:Dw d=some kd)
 |row (sh:List Nat) (hw:(match P.underlying kt with | some (.array _ _) | some (.struct _)=>true | _=>false)=true) (hs:eqFields P 9 kt=some sh) (h4:∀k∈sh,k<4) (hk:kd=4+encK sh)
theorem TL:∀{l m:List Nat},(∀k∈l,k<4)->(∀k∈m,k<4)->encK l=encK m->l=m
 |[],[],_,_,_=>rfl
 |[],k :: m,_,_,h=>by simp only[encK]at h;omega
 |k :: l,[],_,_,h=>by simp only[encK]at h;omega
 |k :: l,j :: m,hl,hm,h=>by
  simp only[encK]at h;have h1:=hl k (BG ..);have h2:=hm j (BG ..);have e1:k=j:=by omega
  have e2:l=m:=TL (fun x hx=>hl x (Cv _ hx)) (fun x hx=>hm x (Cv _ hx)) (by omega);rw[e1,e2]
theorem TM(x:Aa):x.kind<4:=by cases x<;>simp[Aa.kind]
theorem Z0(l:List Aa):∀k∈l.map Aa.kind,k<4:=fun k h=>by obtain⟨x,_,rfl⟩:=Ls.1 h;exact TM x
theorem O3{kt:TypeId}{kd:Nat}(hk:Du P kt=some kd):TK P kt kd:=by
 unfold Du at hk
 have wide:∀(h:(match P.underlying kt with | some (.array _ _) | some (.struct _)=>true | _=>false)=true),(match eqFields P 9 kt with
  |some l=>if l.all (fun k=>Nat.blt k 4) then some (4+encK l) else none
  | none=>none)=some kd->TK P kt kd:=by
  intro hw h;cases hs:eqFields P 9 kt with
  |none=>simp[hs]at h
  |some sh =>
   simp only[hs]at h;split at h
   ·rename_i ha;exact .row sh hw hs (fun k hk=>by have:=GA.1 ha k hk;simpa [GL] using this) (BM h).symm
   ·cases h
 cases hu:P.underlying kt with
 |none=>simp[hu]at hk
 |some d =>simp only[hu]at hk;cases d<;>simp only at hk<;>(try (cases hk;done))<;>first|exact .one _ hu hk|exact wide (by rw[hu]) hk
theorem TN{x:Aa}{kd:Nat}(h:x.kkind=kd)(hk:kd<4):x.kind=kd:=by cases x<;>simp only[Aa.kkind]at h<;>first|exact h|omega
theorem TP{d:TypeDesc}{kd:Nat}(hd:Dw d=some kd):kd<4:=by cases d<;>simp[Dw]at hd<;>omega
theorem TQ{x y:Aa}{u v:Value}{c:Bool}{d:TypeDesc}{kd:Nat}(hd:Dw d=some kd)(bY:x.kind=kd)(he:GQ x y=some c)(hx:RV g w x u)(hy:RV g w y v) :
  Instr.sameNow d u v=some c/\(c=true->u=v):=by
 unfold GQ at he;split at he
 ·simp only[Aa.kind]at bY;subst bY;cases d<;>simp[Dw]at hd
 ·rename_i k n k' n';obtain rfl:=Em hx;obtain rfl:=Em hy;simp only[Aa.kind]at bY;subst bY;split at he
  ·rename_i e;subst e;obtain rfl:=BM he;cases d<;>simp[Dw]at hd;refine⟨by simp[Instr.sameNow];first|done|rfl,fun e=>by simp at e;rw[e]⟩
  ·cases he
 ·obtain rfl:=DI hx;obtain rfl:=DI hy;simp only[Aa.kind]at bY;subst bY;obtain rfl:=BM he;cases d<;>simp[Dw]at hd;refine⟨by simp[Instr.sameNow],fun e=>by simp at e;rw[e]⟩
 ·rename_i a b;obtain⟨p,rfl,hp⟩:=Fw hx;obtain⟨q,rfl,hq⟩:=Fw hy;simp only[Aa.kind]at bY;subst bY;obtain rfl:=BM he;cases d<;>simp[Dw]at hd
  have mO:(p==q)=decide (a=b):=by
   by_cases e:a=b
   ·have:p=q:=by
     obtain⟨⟨p⟩⟩:=p;obtain⟨⟨q⟩⟩:=q;simp at hp hq;subst hp;subst hq;rw[e]
    simp[e,(MapKept.bytes_beq p q).2 this]
   ·have:p≠q:=fun e'=>e (by rw[<-hp,<-hq,e'])
    have h2:(p==q)=false:=by
     cases hh:p==q
     ·rfl
     ·exact absurd ((MapKept.bytes_beq p q).1 hh) this
    simp[e,h2]
  refine⟨by simp[Instr.sameNow,mO],fun e=>?_⟩;rw[<-mO]at e;rw[(MapKept.bytes_beq p q).1 e]
 ·cases he
theorem TR{X:Aa}{u:Value}{d:TypeDesc}{kd:Nat}(hd:Dw d=some kd)(bY:X.kind=kd)(hx:RV g w X u):∀(es:List (Aa×Aa)) (ms:List MapEntry) (i:Nat) {r:Option (Nat×Aa)},ms.length=es.length -> (∀(k:Nat) (e:Aa×Aa) (m:MapEntry),es[k]?=some e->ms[k]?=some m->RV g w e.1 m.key/\RV g w e.2 m.val)->BN X es i=some r -> (r=none/\Instr.findNow d u ms i=some none)\/∃j m v,r=some (i+j,v)/\ms[j]?=some m/\m.key=u/\RV g w v m.val/\Instr.findNow d u ms i=some (some (i+j,m.val))
 |[],[],i,r,_,_,hf=>.inl ⟨by simp only[BN,Bd]at hf;exact hf.symm,rfl⟩
 |e :: es,m :: ms,i,r,hl,hr,hf=>by
  have h0:=hr 0 e m rfl rfl;simp only[BN]at hf;split at hf
  ·rename_i hk;obtain⟨h1,h2⟩:=TQ hd bY hk hx h0.1;obtain rfl:=BM hf;exact .inr ⟨0,m,e.2,rfl,rfl,(h2 rfl).symm,h0.2,by simp[Instr.findNow,h1]⟩
  ·rename_i hk;obtain⟨h1,_⟩:=TQ hd bY hk hx h0.1;rcases TR hd bY hx es ms (i+1) (by simpa using hl) (fun k e' m' he hm=>hr (k+1) e' m' (by simpa using he) (by simpa using hm)) hf with ⟨e1,e2⟩ | ⟨j,m',v,e1,e2,e3,e4,e5⟩
   ·exact .inl ⟨e1,by simp[Instr.findNow,h1,e2]⟩
   ·exact .inr ⟨j+1,m',v,by rw[e1];simp;omega,by simpa using e2,e3,e4,by simp[Instr.findNow,h1,e5];omega⟩
  ·cases hf
 |[],_ :: _,_,_,h,_,_=>by simp at h
 |_ :: _,[],_,_,h,_,_=>by simp at h
theorem Z1{kt:TypeId}{d:TypeDesc}{kd:Nat}{k:Value}(hu:P.underlying kt=some d)(hd:Dw d=some kd)(e:Bool)(n:Nat):(Instr.checkKey e (n+1) kt k).run P w=.ok () w:=by unfold Instr.checkKey;simp only[Sem.run_bind,run_underlying hu,Result.andThen];cases d<;>simp[Dw]at hd<;>cases k<;>rfl
theorem TS{kt:TypeId}{sh:List Nat}(hs:eqFields P 9 kt=some sh)(hq:yzl P kt=some true){l:List Aa}{u:Value}(hl:l.map Aa.kind=sh)(hx:RV g w (.agg l) u):∀(es:List (Aa×Aa)) (ms:List MapEntry) (i:Nat) {r:Option (Nat×Aa)},ms.length=es.length -> (∀(k:Nat) (e:Aa×Aa) (m:MapEntry),es[k]?=some e->ms[k]?=some m->RV g w e.1 m.key/\RV g w e.2 m.val)->BN (.agg l) es i=some r -> (r=none/\(Instr.findAsking kt u ms i).run P w=.ok none w)\/∃j m v,r=some (i+j,v)/\ms[j]?=some m/\m.key=u/\RV g w v m.val/\(Instr.findAsking kt u ms i).run P w=.ok (some (i+j,m.val)) w
 |[],[],i,r,_,_,hf=>.inl ⟨by simp only[BN,Bd]at hf;exact hf.symm,by simp[Instr.findAsking]⟩
 |e :: es,m :: ms,i,r,hn,hr,hf=>by
  have h0:=hr 0 e m rfl rfl
  have key:∀c,GQ (.agg l) e.1=some c->(Op.equal kt u m.key).run P w=.ok c w/\(c=true->u=m.key):=by
   intro c hc;obtain⟨e1,e2⟩:=e;cases e1<;>simp only[GQ]at hc<;>(try (cases hc;done));rename_i m';obtain⟨h0,_⟩:=h0;simp only at h0;generalize m.key=v at *;cases hx with
   |agg _ xs dK jh =>
    cases h0 with
    |agg _ ys gu kP =>have eX:RVs g w l xs.toList:=⟨by simpa using dK,fun i x v hx hv=>jh i x v hx (by simpa using hv)⟩;have gM:RVs g w m' ys.toList:=⟨by simpa using gu,fun i x v hx hv=>kP i x v hx (by simpa using hv)⟩;obtain⟨agg,bt,_,aG⟩:=TG (P:=P) (g:=g) (w:=w) 9 kt sh hs;obtain rfl:agg=true:=(by rw[hq]at bt;exact(BM bt).symm);have hq:=aG 10000 (by omega) l m' _ _ c w hl eX gM hc;simp only[Dv,Ci,Jz]at hq;refine⟨by simpa [Op.equal,Op.maxDepth] using hq,fun e=>?_⟩;subst e;have:=TH eX gM hc;rw[Array.toList_inj.1 this]
  simp only[BN]at hf;split at hf
  ·rename_i hk;obtain⟨h1,h2⟩:=key _ hk;obtain rfl:=BM hf;exact .inr ⟨0,m,e.2,rfl,rfl,(h2 rfl).symm,h0.2,by simp[Instr.findAsking,h1,Result.andThen]⟩
  ·rename_i hk;obtain⟨h1,_⟩:=key _ hk;rcases TS hs hq hl hx es ms (i+1) (by simpa using hn) (fun k e' m' he hm=>hr (k+1) e' m' (by simpa using he) (by simpa using hm)) hf with ⟨e1,e2⟩ | ⟨j,m',v,e1,e2,e3,e4,e5⟩
   ·exact .inl ⟨e1,by simp[Instr.findAsking,h1,e2,Result.andThen]⟩
   ·exact .inr ⟨j+1,m',v,by rw[e1];simp;omega,by simpa using e2,e3,e4,by simp[Instr.findAsking,h1,e5,Result.andThen];omega⟩
  ·cases hf
 |[],_ :: _,_,_,h,_,_=>by simp at h
 |_ :: _,[],_,_,h,_,_=>by simp at h
theorem TT{kt:TypeId}{sh:List Nat}(hw:(match P.underlying kt with | some (.array _ _) | some (.struct _)=>true | _=>false)=true):yzl P kt=some true:=by
 cases hu:P.underlying kt with
 |none=>simp[hu]at hw
 |some d=>cases d<;>simp[hu]at hw<;>simp[yzl,hu]
theorem O4{X:Aa}{u:Value}{sh:List Nat}{kd:Nat}(h4:∀k∈sh,k<4)(hk:kd=4+encK sh)(hX:X.kkind=kd)(hx:RV g w X u):∃l xs,X=.agg l/\u=.agg xs/\l.map Aa.kind=sh/\RVs g w l xs.toList:=by
 subst hk;have hlt:=TM X;cases X<;>simp only[Aa.kkind]at hX<;>(try (simp only[Aa.kind]at hX hlt;omega));rename_i l;cases hx with
 |agg _ xs dK jh=>exact⟨l,xs,rfl,rfl,TL (Z0 l) h4 (by omega),⟨by simpa using dK,fun i x v hx hv=>jh i x v hx (by simpa using hv)⟩⟩
theorem O5{kt:TypeId}{kd:Nat}{X:Aa}{u:Value}(hk:Du P kt=some kd)(hX:X.kkind=kd)(hx:RV g w X u){es:List (Aa×Aa)}{ms:List MapEntry}{r:Option (Nat×Aa)}(hn:ms.length=es.length)(hr:∀(k:Nat) (e:Aa×Aa) (m:MapEntry),es[k]?=some e->ms[k]?=some m->RV g w e.1 m.key/\RV g w e.2 m.val) (hf:BN X es 0=some r) : (r=none/\(Instr.findKey kt u ms).run P w=.ok none w)\/∃j m v,r=some (j,v)/\ms[j]?=some m/\m.key=u/\RV g w v m.val/\(Instr.findKey kt u ms).run P w=.ok (some (j,m.val)) w:=by
 cases O3 hk with
 |one d hd hk =>
  rcases TR hk (TN hX (TP hk)) hx es ms 0 hn hr hf with ⟨e1,e2⟩|⟨j,m,v,e1,e2,e3,e4,e5⟩
  ·exact .inl ⟨e1,MapKept.run_findKey hd e2⟩
  ·exact .inr ⟨j,m,v,by simpa using e1,e2,e3,e4,MapKept.run_findKey hd (by simpa using e5)⟩
 |row sh hw hs h4 hk =>
  obtain⟨l,xs,rfl,rfl,hl,_⟩:=O4 h4 hk hX hx;rcases TS hs (TT (sh:=sh) hw) hl hx es ms 0 hn hr hf with ⟨e1,e2⟩|⟨j,m,v,e1,e2,e3,e4,e5⟩
  ·exact .inl ⟨e1,by rw[run_findKey_eq w hw];exact e2⟩
  ·exact .inr ⟨j,m,v,by simpa using e1,e2,e3,e4,by rw[run_findKey_eq w hw];simpa using e5⟩
theorem JK{kt:TypeId}{kd:Nat}{X:Aa}{u:Value}(hk:Du P kt=some kd)(hX:X.kkind=kd)(hx:RV g w X u)(e:Bool):(Instr.checkKey e 10000 kt u).run P w=.ok () w:=by
 cases O3 hk with
 |one d hd hk=>exact Z1 hd hk e _
 |row sh hw hs h4 hk =>
  obtain⟨l,xs,rfl,rfl,hl,eX⟩:=O4 h4 hk hX hx;obtain⟨agg,bt,_,aG⟩:=Zu (P:=P) 9 kt sh hs;obtain rfl:agg=true:=by rw[TT (sh:=sh) hw]at bt;exact(BM bt).symm
  have:=aG 10000 (by omega) xs.toList e w (by have:=eX.1;rw[<-hl,FN];omega);simpa [Dv] using this
theorem O6{id ep:Nat}{v:Value}(H:HR E g h w)(hv:RV g w (.mp id ep) v)(he:ep=(h id).ep):v=.map (some (g.blk id)):=by
 cases hv with
 |mp _ _ _ _ _ hp=>exact hp (by rw[H.ep id];exact he)
theorem TU{X:Aa}{v:Value}(H:HR E g h w)(hv:RV g w X v)(aB:(Dl X h).ok) : (v=.map none/\(Dl X h).es=[])\/∃r arr,v=.map (some r)/\w.heap[r]?=some (.map arr (Dl X h).es.length)/\arr.size=(Dl X h).es.length /\ ∀(k:Nat) (e:Aa×Aa) (m:MapEntry),(Dl X h).es[k]?=some e->arr[k]?=some m->RV g w e.1 m.key/\RV g w e.2 m.val/\m.born=k:=by
 cases X<;>simp only[Dl]at aB |-<;>(try (exact aB.elim))
 case nilmp=>cases hv;exact .inl ⟨rfl,trivial⟩
 case mp id ep =>cases hh:h id<;>simp only[hh]at aB |-<;>(try (exact aB.elim));rename_i ep' es;have hO:=H.obj id;rw[hh]at hO;obtain⟨arr,h1,h2,h3⟩:=hO;exact .inr ⟨g.blk id,arr,O6 H hv (by rw[hh];exact aB),h1,h2,h3⟩
theorem Z2{et:TypeId}{zero:Aa}(hz:Lw P et zero=true):∃z,(zeroValue et).run P w=.ok z w/\RV g w zero z:=by
 unfold Lw at hz;cases hi:P.info? et with
 |none=>simp[hi]at hz
 |some i =>
  cases bL:i.zero with
  |none=>obtain⟨⟩:=i;simp only at bL;subst bL;simp[hi]at hz
  |some z =>
   have iF:JG z zero=true:=by obtain⟨⟩:=i;simp only at bL;subst bL;simpa [hi] using hz
   exact⟨z,by simp[zeroValue,typeInfo,hi,bL],Tp iF⟩
theorem O7{x:Aa}{v:Value}{b:Bool}(hx:RV g w x v):RV g w (.tup [x,.bool b]) (.tuple #[v,.bool b]):=by
 refine .tup _ _ rfl fun i y u hy hu=>?_
 match i with
 |0=>simp at hy hu;subst hy;subst hu;exact hx
 |1=>simp at hy hu;subst hy;subst hu;exact .bool _
 |n+2=>simp at hy
theorem Z3{o:Oper}{ty kt et:TypeId}{kd:Nat}{cok:Bool}{zero:Aa}{x k:Operand}{x' k':Ad}(H:HR E g h w)(ht:RVs g w t a.tmps.toList)(ho:o.op=.lookup ty x k cok)(hx:AA x x'=true)(hk:AA k k'=true)(hu:P.underlying ty=some (.map kt et)) (bY:Du P kt=some kd) (hz:Lw P et zero=true)(aB:((Al.mlook kd cok zero x' k').req (Ag E t) h).ok):Ran E P (execOp a.eval o) g h w ((Al.mlook kd cok zero x' k').req (Ag E t) h):=by
 have rx:=AQ H ht hx;have rk:=AQ H ht hk;obtain⟨z,mR,gy⟩:=Z2 (g:=g) (w:=w) hz;simp only[Al.req,Fu]at aB |-;generalize Ag E t x'=X at *;generalize Ag E t k'=K at *;generalize fZ:a.eval x=vx at rx;generalize iH:a.eval k=vk at rk;cases hf:BN K (Dl X h).es 0 with
 |none=>simp only[hf,Req.fail]at aB
 |some r =>
  have bj:(Dl X h).ok/\K.kkind=kd:=by cases r<;>simp only[hf]at aB<;>exact aB
  rcases TU H rx bj.1 with ⟨rfl,ed⟩|⟨r',arr,rfl,hb,aJ,hr⟩
  ·rw[ed]at hf
   have bC:(Instr.findKey kt vk []).run P w=.ok none w:=by
    rcases O5 bY bj.2 rk (es:=[]) (ms:=[]) rfl (fun k e m he=>by simp at he) hf with ⟨_,h2⟩ | ⟨j,m,v,_,h2,_⟩
    ·exact h2
    ·simp at h2
   simp only[BN,Bd]at hf;subst hf;simp only[ed];refine Ran.same H (v:=if cok then .tuple #[z,.bool false] else z) ?_ ?_
   ·simp[execOp,ho,fZ,iH,Instr.lookup,run_underlying hu,JK bY bj.2 rk,bC,mR,Result.andThen]
   ·cases cok;·exact gy
    ·exact O7 gy
  ·rcases O5 bY bj.2 rk (ms:=arr.toList) (by simpa using aJ) (fun k e m he hm=>⟨(hr k e m he (by simpa using hm)).1,(hr k e m he (by simpa using hm)).2.1⟩) hf with ⟨rfl,h2⟩ | ⟨j,m,v,rfl,h2,h3,h4,h5⟩
   ·simp only;refine Ran.same H (v:=if cok then .tuple #[z,.bool false] else z) ?_ ?_
    ·simp[execOp,ho,fZ,iH,Instr.lookup,run_underlying hu,MapKept.run_getObj_map hb,JK bY bj.2 rk,h2,mR,Result.andThen]
    ·cases cok;·exact gy
     ·exact O7 gy
   ·simp only;refine Ran.same H (v:=if cok then .tuple #[m.val,.bool true] else m.val) ?_ ?_
    ·simp[execOp,ho,fZ,iH,Instr.lookup,run_underlying hu,MapKept.run_getObj_map hb,JK bY bj.2 rk,h5,Result.andThen]
    ·cases cok;·exact h4
     ·exact O7 h4
theorem Z4{x:Aa}{v:Value}(hk:x.kind<3)(hv:RV g w x v)(n:Nat):Instr.sameBits n v v=true:=by cases hv<;>simp only[Aa.kind]at hk<;>(try omega)<;>(try (simp[Instr.sameBits];done));simp[Instr.sameBits,MapKept.bytes_beq]
theorem Z5{K:Aa}{kd:Nat}{d:TypeDesc}{v:Value}(hd:Dw d=some kd)(hk:K.kind=kd)(hv:RV g w K v)(n:Nat):Instr.sameBits n v v=true:=by
 cases hv<;>simp only[Aa.kind]at hk<;>(try (simp[Instr.sameBits];done))
 case str b _=>simp[Instr.sameBits,MapKept.bytes_beq]
 all_goals (subst hk;cases d<;>simp[Dw]at hd)
theorem TW:∀{l:List Aa} {xs:List Value} (n:Nat),(∀x∈l,x.kind<3)->RVs g w l xs->(xs.zip xs).all (fun p=>Instr.sameBits n p.1 p.2)=true
 |[],xs,n,_,hx=>by have:xs=[]:=Oh (by simpa using hx.1);rw[this];rfl
 |x :: l,[],n,_,hx=>by have:=hx.1;simp at this
 |x :: l,v :: xs,n,hk,hx=>by simp only[List.zip_cons_cons,List.all_cons,AF];exact⟨Z4 (hk x (BG ..)) (hx.2 0 x v rfl rfl) n,TW n (fun y hy=>hk y (Cv _ hy)) (by have:=hx.drop 1;simpa using this)⟩
theorem Z6:∀(d:Nat) (t:TypeId) (sh:List Nat),eqFields P d t=some sh->∀k∈sh,k<3:=by
 intro d;induction d with
 |zero=>intro t sh h;simp[eqFields]at h
 |succ d ih =>
  intro t sh h;simp only[eqFields]at h;cases hu:P.underlying t with
  |none=>simp[hu]at h
  |some q =>
   simp only[hu]at h;cases q<;>simp only at h<;>(try (cases h;done))
   case struct fs =>
    split at h
    ·cases h
    ·have go:∀(fl:List Field) (n:Nat) (sh:List Nat),Dt P (eqFields P d) fl n=some sh->∀k∈sh,k<3:=by
      intro fl;induction fl with
      |nil=>intro n sh h1 k hk;simp only[Dt,Bd]at h1;subst h1;cases hk
      |cons f fl ihf =>
       intro n sh h1 k hk;simp only[Dt]at h1;split at h1
       ·cases hm:eqFields P d f.type with
        |none=>simp[hm]at h1
        |some sm =>
         simp only[hm]at h1;split at h1
         ·cases hg:Dt P (eqFields P d) fl (n+sm.length) with
          |none=>simp[hg]at h1
          |some sl =>
           simp only[hg,Bd]at h1;subst h1;rcases BJ.1 hk with hk|hk
           ·exact ih _ _ hm k hk
           ·exact ihf _ _ hg k hk
         ·cases h1
       ·cases h1
     exact go fs.toList 0 sh h
   case array n el =>
    cases hm:eqFields P d el with
    |none=>simp[hm]at h
    |some sm =>
     simp only[hm]at h;split at h
     ·obtain rfl:=BM h;intro k hk;obtain⟨l,hl,eu⟩:=List.mem_flatten.1 hk;obtain⟨_,rfl⟩:=List.mem_replicate.1 hl;exact ih _ _ hm k eu
     ·cases h
   all_goals
    obtain rfl:=BM h;intro k hk;simp at hk;omega
theorem Z7{kt:TypeId}{kd:Nat}{X:Aa}{u:Value}(hk:Du P kt=some kd)(hX:X.kkind=kd)(hx:RV g w X u):(Instr.keyThatStays u u).run P w=.ok u w:=by
 have:Instr.sameBits 10000 u u=true:=by
  cases O3 hk with
  |one d hd hk=>exact Z5 hk (TN hX (TP hk)) hx _
  |row sh hw hs h4 hk =>obtain⟨l,xs,rfl,rfl,hl,eX⟩:=O4 h4 hk hX hx;simp only[Instr.sameBits,AF];refine⟨by simp,TW _ (fun x hx=>?_) eX⟩;exact Z6 9 kt sh hs _ (hl▸J5 hx)
 simp[Instr.keyThatStays,this]
theorem TX{o:Oper}{ty kt et:TypeId}{kd:Nat}{x k v:Operand}{x' k' v':Ad}(H:HR E g h w)(ht:RVs g w t a.tmps.toList)(ho:o.op=.mapUpdate ty x k v\/o.op=.insert ty x k v)(hx:AA x x'=true)(hk:AA k k'=true)(hv:AA v v'=true)(hu:P.underlying ty=some (.map kt et)) (bY:Du P kt=some kd)(aB:((Al.mupd kd x' k' v').req (Ag E t) h).ok):Ran E P (execOp a.eval o) g h w ((Al.mupd kd x' k' v').req (Ag E t) h):=by
 have rx:=AQ H ht hx;have rk:=AQ H ht hk;have rv:=AQ H ht hv;simp only[Al.req,FT]at aB |-;generalize Ag E t x'=X at *;generalize Ag E t k'=K at *;generalize Ag E t v'=V at *;generalize fZ:a.eval x=vx at rx;generalize iH:a.eval k=vk at rk;generalize kg:a.eval v=vv at rv;cases X<;>simp only[Req.fail]at aB |-;rename_i id ep;cases hh:h id<;>simp only[hh]at aB |-<;>(try (exact aB.elim));rename_i ep' es;have hO:=H.obj id;rw[hh]at hO;obtain⟨arr,hb,aJ,hr⟩:=hO;have aU:(h id).owned=true:=by rw[hh];rfl
 cases hf:BN K es 0 with
 |none=>simp only[hf]at aB
 |some r =>
  have bj:ep=ep'/\K.kkind=kd:=by cases r<;>simp only[hf]at aB<;>exact aB
  obtain rfl:=O6 H rx (by rw[hh];exact bj.1);rcases O5 bY bj.2 rk (ms:=arr.toList) (by simpa using aJ) (fun k e m he hm=>⟨(hr k e m he (by simpa using hm)).1,(hr k e m he (by simpa using hm)).2.1⟩) hf with ⟨rfl,h2⟩ | ⟨j,m,v0,rfl,h2,h3,h4,h5⟩
  ·simp only;refine O2 (n:=.skip) (v:=undef) (ob:=.map (arr.push { key:=vk,val:=vv,born:=es.length }) (es.length+1)) H aU (.inl rfl) hb ?_ (.inr ⟨rfl,rfl⟩) (by rw[hh];rfl) ?_
   ·rcases ho with ho|ho<;>simp[execOp,ho,fZ,iH,kg,Instr.mapUpdate,run_underlying hu,MapKept.run_getObj_map hb,JK bY bj.2 rk,h2,MapKept.run_setObj_map _ hb,Result.andThen]
   ·intro w' aE jo;refine⟨⟨arr.push { key:=vk,val:=vv,born:=es.length },by rw[jo];simp,by simp[aJ],fun i e m he hm=>?_⟩,.top _⟩;rw[Lc]at hm;rw[List.getElem?_append]at he;by_cases hi:i<es.length
    ·rw[An hi]at he;rw[Aj (by omega)]at hm;obtain⟨q1,q2,q3⟩:=hr i e m he hm;exact⟨q1.mono aE,q2.mono aE,q3⟩
    ·rw[Aj hi]at he;have aZ:i=es.length:=(by have:=(AL.1 he).1;simp at this;omega);subst aZ;rw[An aJ.symm]at hm;simp at he hm;subst he;subst hm;exact⟨rk.mono aE,rv.mono aE,rfl⟩
  ·simp only;have hj:arr[j]?=some m:=by simpa using h2
   have bE:=Z7 bY bj.2 rk;refine O2 (n:=.skip) (v:=undef) (ob:=.map (arr.modify j fun e=>{ e with key:=vk,val:=vv }) es.length) H aU (.inl rfl) hb ?_ (.inr ⟨rfl,rfl⟩) (by rw[hh];rfl) ?_
   ·rcases ho with ho|ho<;>simp[execOp,ho,fZ,iH,kg,Instr.mapUpdate,run_underlying hu,MapKept.run_getObj_map hb,JK bY bj.2 rk,h5,hj,h3,bE,MapKept.run_setObj_map _ hb,Result.andThen]
   ·intro w' aE jo;refine⟨⟨arr.modify j fun e=>{ e with key:=vk,val:=vv },by rw[jo];simp,by simp[aJ],fun i e m' he hm=>?_⟩,.top _⟩;rw[Oe]at hm;rw[Jw]at he;by_cases hi:j=i
    ·subst hi;simp only[Ci]at he hm;split at he
     ·simp[hj]at he hm;subst he;subst hm;obtain⟨_,_,q3⟩:=hr j (es[j]'(by assumption)) m (AD _) hj;exact⟨rk.mono aE,rv.mono aE,q3⟩
     ·cases he
    ·rw[Aj hi]at he hm;obtain⟨q1,q2,q3⟩:=hr i e m' he hm;exact⟨q1.mono aE,q2.mono aE,q3⟩
theorem Z8{o:Oper}{args:Array Operand}{ats:Array TypeId}{x:Operand}{x':Ad}{ty kt et:TypeId}(H:HR E g h w)(ht:RVs g w t a.tmps.toList)(ho:o.op=.call { callee:=.builtin .len,args,argTypes:=ats })(ha:args=#[x])(bQ:ats=#[ty])(hu:P.underlying ty=some (.map kt et)) (hx:AA x x'=true)(aB:((Al.mlen x').req (Ag E t) h).ok):Ran E P (execOp a.eval o) g h w ((Al.mlen x').req (Ag E t) h):=by
 have rx:=AQ H ht hx;subst ha;subst bQ;simp only[Al.req]at aB |-;generalize Ag E t x'=X at *;generalize hv:a.eval x=v at rx;rcases TU H rx aB with ⟨rfl,ed⟩|⟨r',arr,rfl,hb,aJ,hr⟩
 ·rw[ed];exact Ran.same H (v:=.int .i64 0) (by simp[execOp,ho,hv,resolve,invoke,builtin,Builtin.len_,run_underlying hu,goInt]) (.int _ _)
 ·refine Ran.same H (v:=.int .i64 arr.size) (by simp[execOp,ho,hv,resolve,invoke,builtin,Builtin.len_,run_underlying hu,goInt,MapKept.run_getObj_map hb,Result.andThen]) ?_;rw[aJ];exact .int _ _
theorem Z9{o:Oper}{ty kt et:TypeId}{s:Nat}{x:Operand}{x':Ad}(H:HR E g h w)(ht:RVs g w t a.tmps.toList)(ho:o.op=.range ty x)(hx:AA x x'=true)(hu:P.underlying ty=some (.map kt et)) (aB:((Al.mrange s x').req (Ag E t) h).ok):Ran E P (execOp a.eval o) g h w ((Al.mrange s x').req (Ag E t) h):=by
 have rx:=AQ H ht hx;simp only[Al.req,JA]at aB |-;generalize Ag E t x'=X at *;generalize hv:a.eval x=v at rx;cases X<;>simp only[Req.fail]at aB |-
 case nilmp =>
  cases rx;refine Ran.new (ob:=.mapIter none 0 #[] 0) (bo:=0) (st:=0) (cp:=0) (v:=.pointer (some ⟨w.heap.size,0,none⟩)) H ⟨w,rfl,rfl,rfl,rfl,AC _,?_⟩ rfl ?_
  ·simp[execOp,ho,hv,Instr.range,run_underlying hu,Result.andThen]
  intro g' w' aE aK _ _ _ aM;exact⟨by show w'.heap[g'.blk s]?=_;rw[aK];exact aM,fun he=>.ptr _ _ _ _ rfl (by rw[he];exact AC _) (fun _=>by rw[aK])⟩
 case mp id ep =>
  cases hh:h id<;>simp only[hh]at aB |-<;>(try (exact aB.elim));rename_i ep' es;have hO:=H.obj id;rw[hh]at hO;obtain⟨arr,hb,aJ,hr⟩:=hO;obtain⟨rfl,cf⟩:=aB;have co:g.ep id=ep:=by rw[H.ep id,hh];rfl
  obtain rfl:=O6 H rx (by rw[hh];rfl);refine Ran.new (ob:=.mapIter (some (g.blk id)) es.length #[] es.length) (bo:=0) (st:=0) (cp:=0) (v:=.pointer (some ⟨w.heap.size,0,none⟩)) H ⟨w,rfl,rfl,rfl,rfl,AC _,?_⟩ rfl ?_
  ·simp[execOp,ho,hv,Instr.range,run_underlying hu,Result.andThen,MapKept.run_getObj_map hb]
  intro g' w' aE aK _ _ _ aM;have dZ:=aE.ep id;refine⟨⟨by omega,g.blk id,fun e=>((aE.same id (by omega)).1).symm,by rw[aK];exact aM⟩,fun he=>.ptr _ _ _ _ rfl (by rw[he];exact AC _) (fun _=>by rw[aK])⟩
theorem ZA{o:Oper}{x:Operand}{x':Ad}(H:HR E g h w)(ht:RVs g w t a.tmps.toList)(ho:o.op=.entry x)(hx:AA x x'=true)(aB:((Al.mentry x').req (Ag E t) h).ok):Ran E P (execOp a.eval o) g h w ((Al.mentry x').req (Ag E t) h):=by
 have rx:=AQ H ht hx;simp only[Al.req,HM]at aB |-;generalize Ag E t x'=X at *;generalize hv:a.eval x=v at rx;cases X<;>simp only[Req.fail]at aB |-;rename_i id ep off;cases off with
 |succ n=>simp only at aB
 |zero =>
  simp only at aB |-;cases hh:h id<;>simp only[hh]at aB |-<;>(try (exact aB.elim));rename_i ep' mm seen;cases mm with
  |none=>exact aB.elim
  |some mm =>
   obtain⟨M,eM,n⟩:=mm;simp only at aB |-;cases hM:h M<;>simp only[hM]at aB |-<;>(try (exact aB.elim));rename_i eM' es;obtain⟨rfl,rfl,hn,hs,hl⟩:=aB;have hO:=H.obj id;rw[hh]at hO;obtain⟨_,bM,kU,hb⟩:=hO;have jp:=H.obj M;rw[hM]at jp;obtain⟨arr,kV,aJ,hr⟩:=jp;have gR:g.ep M=eM:=by rw[H.ep M,hM];rfl
   rw[kU gR.symm]at hb
   have hp:v=.pointer (some ⟨g.blk id,0,none⟩):=by
    cases rx with
    |ptr _ _ _ _ _ _ hp=>exact hp (by rw[H.ep id,hh];rfl)
   subst hp;obtain⟨sn,k,rfl⟩:∃sn k,seen=sn++[k]:=⟨seen.dropLast,seen.getLast hs,(List.dropLast_concat_getLast hs).symm⟩;simp only[List.getLastD_concat]at hl |-;have hk:k<es.length:=by omega
   have gS:k<arr.size:=by omega
   obtain⟨q1,q2,q3⟩:=hr k es[k] arr[k] (AD hk) (DE gS);have cC:(arr.toList.map (·.born)).Nodup:=by have:arr.toList.map (·.born)=List.range arr.size:=(by refine List.ext_getElem (by simp) fun i h1 h2=>?_;simp at h1 h2 |-;exact(hr i (es[i]'(by omega)) arr[i] (AD _) (DE _)).2.2);rw[this];exact List.nodup_range
   have he:=run_entry_at (P:=P) w (g.blk id) (g.blk M) n sn.toArray arr es.length arr[k] (by rw[q3,hb,hn];simp) kV (by simp) cC;refine Ran.same H (v:=.tuple #[arr[k].key,arr[k].val]) ?_ ?_
   ·simp[execOp,ho,hv,he,Result.andThen]
   ·refine .tup _ _ rfl fun i y u hy hu=>?_
    match i with
    |0=>simp[hk]at hy hu;subst hy;subst hu;exact q1
    |1=>simp[hk]at hy hu;subst hy;subst hu;exact q2
    |i+2=>simp at hy
theorem ZB{o:Oper}{x:Operand}{x':Ad}{id ep:Nat}{seen:List Nat}{M eM n:Nat}{es:List (Aa×Aa)}(H:HR E g h w)(ht:RVs g w t a.tmps.toList)(ho:o.op=.next x false)(hx:AA x x'=true)(hX:Ag E t x'=.ptr id ep 0) (hid:h id=.miter ep (some (M,eM,n)) seen) (hM:h M=.amap eM es) (hn:es.length=n) : ((∀k,k<n->k∈seen)/\(execOp a.eval o).run P w=.ok (.value (.tuple #[.bool false])) w) \/ ∃k,k<n/\k∉seen/\Ran E P (execOp a.eval o) g h w ⟨True,[],.tup [.bool true,(es.getD k (.top,.top)).1,(es.getD k (.top,.top)).2],some (id,.miter ep (some (M,eM,n)) (seen++[k]))⟩:=by
 have rx:=AQ H ht hx;rw[hX]at rx;generalize hv:a.eval x=v at rx;have hO:=H.obj id;rw[hid]at hO;obtain⟨h0,bM,kU,hb⟩:=hO;have jp:=H.obj M;rw[hM]at jp;obtain⟨arr,kV,aJ,hr⟩:=jp;have gR:g.ep M=eM:=by rw[H.ep M,hM];rfl
 have ebM:=kU gR.symm;subst ebM
 have hp:v=.pointer (some ⟨g.blk id,0,none⟩):=by
  cases rx with
  |ptr _ _ _ _ _ _ hp=>exact hp (by rw[H.ep id,hid];rfl)
 subst hp;have ev:∀i (hi:i<arr.size),arr[i].born=i:=fun i hi=>(hr i (es[i]'(by omega)) arr[i] (AD _) (DE hi)).2.2;rcases run_next_at (P:=P) w o.type (g.blk id) (g.blk M) n n seen.toArray arr es.length hb kV (fun m hm=>by obtain⟨i,hi,rfl⟩:=Dh hm;simp at hi |-;rw[ev i hi];omega) (AC _) with ⟨h1,h2⟩ | ⟨e,he,w1,kW,h2⟩
 ·refine .inl ⟨fun k hk=>?_,by simp[execOp,ho,hv,h2,Result.andThen]⟩;by_cases hc:k∈seen
  ·exact hc
  ·have gS:k<arr.size:=by omega
   have:arr[k]∈leftOf arr seen.toArray:=by simp only[leftOf,Array.mem_filter];exact⟨by simp,by simp[ev k gS,hc]⟩
   have:=Array.size_pos_of_mem this;omega
 ·simp only[leftOf,Array.toList_filter,List.mem_filter]at he;obtain⟨hm,kX⟩:=he;obtain⟨k,hk,rfl⟩:=Dh hm;simp at hk kX;rw[ev k hk]at kX;refine .inr ⟨k,by omega,kX,?_⟩;obtain⟨q1,q2,q3⟩:=hr k (es[k]'(by omega)) arr[k] (AD _) (DE hk);have mS:k<es.length:=by omega
  refine O2 (n:=.value (.tuple #[.bool true,arr[k].key,arr[k].val])) (v:=.tuple #[.bool true,arr[k].key,arr[k].val]) (ob:=.mapIter (some (g.blk M)) n (seen++[k]).toArray n) (w1:=w1) H (by rw[hid];rfl) kW hb ?_ (.inl rfl) (by rw[hid];rfl) ?_
  ·simp only[execOp,ho,hv,Sem.run_bind,h2,Result.andThen];simp[ChangeMaps.setBlock,ev k hk,hn]
  ·intro w' aE jo;refine⟨⟨h0,g.blk M,fun _=>rfl,jo⟩,.tup _ _ rfl fun i y u hy hu=>?_⟩
   match i with
   |0=>simp at hy hu;subst hy;subst hu;exact .bool _
   |1=>simp[mS]at hy hu;subst hy;subst hu;exact q1.mono aE
   |2=>simp[mS]at hy hu;subst hy;subst hu;exact q2.mono aE
   |i+3=>simp at hy
theorem TY{o:Oper}{ty e yt:TypeId}{ng:Bool}{x:Operand}{x':Ad}(H:HR E g h w)(ht:RVs g w t a.tmps.toList)(ho:o.op=.binOp (if ng then .neq else .eql) ty x (.const (.slice none 0 0)) yt)(hx:AA x x'=true)(hu:P.underlying ty=some (.slice e))(aB:((Al.isnil ng x').req (Ag E t) h).ok):Ran E P (execOp a.eval o) g h w ((Al.isnil ng x').req (Ag E t) h):=by
 have rx:=AQ H ht hx;simp only[Al.req]at aB |-;generalize Ag E t x'=X at *;generalize hv:a.eval x=v at rx;have hg:∀(op:BinOp) (ad:Option Addr) (n c:Nat),(eqGuard op ty x (.const (.slice none 0 0)) (.slice ad n c) (.slice none 0 0)).run P w=.ok () w:=fun op ad n c=>by unfold eqGuard;cases op<;>rfl
 have he:∀(ad:Option Addr) (n c:Nat),(Op.equal ty (.slice ad n c) (.slice none 0 0)).run P w=.ok ad.isNone w:=fun ad n c=>by show(Op.equalIn (9999+1) ty (.slice ad n c) (.slice none 0 0)).run P w=_;rw[Op.equalIn,Sem.run_bind,run_underlying hu];cases ad<;>rfl
 have run:∀(ad:Option Addr) (n c:Nat),v=.slice ad n c->(execOp a.eval o).run P w=.ok (.value (.bool (if ng then !ad.isNone else ad.isNone))) w:=by
  rintro ad n c rfl;have bV:a.eval (.const (.slice none 0 0))=.slice none 0 0:=rfl;cases ng with
  |true =>have e1:binOp .neq ty (.slice ad n c) (.slice none 0 0)=(do pure (.bool (!(<-Op.equal ty (.slice ad n c) (.slice none 0 0))))):=rfl;simp[execOp,ho,hv,bV,hg,e1,he,Result.andThen]
  |false =>have e1:binOp .eql ty (.slice ad n c) (.slice none 0 0)=(do pure (.bool (<-Op.equal ty (.slice ad n c) (.slice none 0 0)))):=rfl;simp[execOp,ho,hv,bV,hg,e1,he,Result.andThen]
 cases X<;>simp only[Req.fail]at aB |-
 case nils =>cases rx;refine Ran.same H (run none 0 0 rfl) ?_;cases ng<;>exact .bool _
 case slc st n f =>
  cases rx with
  |slc0 _ _ ad cap=>exact absurd aB (Nat.lt_irrefl 0)
  |slc _ _ _ b off cap =>refine Ran.same H (run (some ⟨b,off,none⟩) n cap rfl) ?_;cases ng<;>exact .bool _
 case vec id ep lo n =>obtain⟨ad,cap,e1,_⟩:=Fx H rx aB;refine Ran.same H (run (some ad) n cap e1) ?_;cases ng<;>exact .bool _
theorem TZ{o:Oper}{ty e yt:TypeId}{ng:Bool}{x:Operand}{x':Ad}(H:HR E g h w)(ht:RVs g w t a.tmps.toList)(ho:o.op=.binOp (if ng then .neq else .eql) ty x (.const (.pointer none)) yt)(hx:AA x x'=true)(hu:P.underlying ty=some (.pointer e))(aB:((Al.isnilp ng x').req (Ag E t) h).ok):Ran E P (execOp a.eval o) g h w ((Al.isnilp ng x').req (Ag E t) h):=by
 have rx:=AQ H ht hx;simp only[Al.req]at aB |-;generalize Ag E t x'=X at *;generalize hv:a.eval x=v at rx;have hg:∀(op:BinOp) (ad:Option Addr),(eqGuard op ty x (.const (.pointer none)) (.pointer ad) (.pointer none)).run P w=.ok () w:=fun op ad=>by unfold eqGuard;cases op<;>rfl
 have he:∀(ad:Option Addr),(Op.equal ty (.pointer ad) (.pointer none)).run P w=.ok ad.isNone w:=fun ad=>by show(Op.equalIn (9999+1) ty (.pointer ad) (.pointer none)).run P w=_;rw[Op.equalIn,Sem.run_bind,run_underlying hu];cases ad<;>rfl
 have run:∀(ad:Option Addr),v=.pointer ad->(execOp a.eval o).run P w=.ok (.value (.bool (if ng then !ad.isNone else ad.isNone))) w:=by
  rintro ad rfl;have bV:a.eval (.const (.pointer none))=.pointer none:=rfl;cases ng with
  |true =>have e1:binOp .neq ty (.pointer ad) (.pointer none)=(do pure (.bool (!(<-Op.equal ty (.pointer ad) (.pointer none))))):=rfl;simp[execOp,ho,hv,bV,hg,e1,he,Result.andThen]
  |false =>have e1:binOp .eql ty (.pointer ad) (.pointer none)=(do pure (.bool (<-Op.equal ty (.pointer ad) (.pointer none)))):=rfl;simp[execOp,ho,hv,bV,hg,e1,he,Result.andThen]
 cases X<;>simp only[Req.fail]at aB |-
 case nilp =>cases rx;refine Ran.same H (run none rfl) ?_;cases ng<;>exact .bool _
 case cptr f lim off =>
  cases rx with
  |cptr _ _ _ b base =>refine Ran.same H (run (some ⟨b,base+off,none⟩) rfl) ?_;cases ng<;>exact .bool _
end
theorem Ua:∀{n:Nat} {f:Nat->List Aa} {s:List UInt8},DH n f=some s->s.length=n/\∀k,k<n->∃m,f k=[.int .u8 m]/\s[k]?=some (UInt8.ofNat m.toNat)
 |0,f,s,h=>by simp only[DH,Bd]at h;subst h;exact⟨rfl,fun k hk=>absurd hk (NY _)⟩
 |n+1,f,s,h=>by
  unfold DH at h;split at h
  ·rename_i m hm;cases hb:DH n (fun k=>f (k+1)) with
   |none=>simp[hb]at h
   |some s' =>
    simp only[hb,Dp,Bd]at h;subst h;obtain⟨h1,h2⟩:=Ua hb;refine⟨by simp[h1],fun k hk=>?_⟩;cases k with
    |zero=>exact⟨m,hm,rfl⟩
    |succ k=>obtain⟨m',a,b⟩:=h2 k (by omega);exact⟨m',a,by simpa using b⟩
  ·cases h
theorem ZC(ns:List Int):∀(b:ByteArray),(ns.foldl (fun r n=>r.push (UInt8.ofNat n.toNat)) b).data.toList=b.data.toList++ns.map fun n=>UInt8.ofNat n.toNat:=by
 induction ns with
 |nil=>intro b;simp
 |cons n ns ih=>intro b;simp only[List.foldl_cons,ih];simp[ByteArray.push]
section
variable {E:Nat->Aa}{P:Program}{g:Gh}{h:Aw}{w:World}{t:List Aa}{a:Act}
theorem O8{o:Oper}{src dst e:TypeId}{x:Operand}{x':Ad}(H:HR E g h w)(ht:RVs g w t a.tmps.toList)(ho:o.op=.convert src dst x)(hx:AA x x'=true)(hs:P.underlying src=some (.slice e)) (he:P.underlying e=some (.int .u8)) (hd:P.underlying dst=some .string) (aB:((Al.b2s x').req (Ag E t) h).ok):Ran E P (execOp a.eval o) g h w ((Al.b2s x').req (Ag E t) h):=by
 have rx:=AQ H ht hx;simp only[Al.req]at aB |-;generalize Ag E t x'=X at *;unfold EA at aB |-;cases hb:DH (Br 1 X h).n (Br 1 X h).f with
 |none=>simp only[hb,Req.fail]at aB
 |some s =>
  simp only[hb]at aB |-;obtain⟨vals,sr⟩:=JJ H rx aB.1 aB.2;obtain⟨h1,h2⟩:=Ua hb;generalize (Br 1 X h).n=n at *;generalize (Br 1 X h).f=f at *;obtain⟨ad,cap,hv,aT,hc⟩:=sr.val;have bu:∀k,k<n->∃m,vals k 0=.int .u8 m/\s[k]?=some (UInt8.ofNat m.toNat):=fun k hk=>by obtain⟨m,e1,e2⟩:=h2 k hk;have:=sr.rv k 0 (.int .u8 m) hk (by rw[e1];rfl);exact⟨m,rv_int' this,e2⟩
  let num:Nat->Int:=fun k=>match vals k 0 with | .int _ m=>m | _=>0
  have jq:∀k,k<n->vals k 0=.int .u8 (num k)/\s[k]?=some (UInt8.ofNat (num k).toNat):=fun k hk=>by
   obtain⟨m,e1,e2⟩:=bu k hk;have:num k=m:=by show(match vals k 0 with | .int _ m=>m | _=>0)=m;rw[e1]
   rw[this];exact⟨e1,e2⟩
  have hS:s=((List.range n).map num).map fun m=>UInt8.ofNat m.toNat:=by
   apply J1;intro k;by_cases hk:k<n
   ·rw[(jq k hk).2];simp[hk]
   ·rw[J3 (by omega)];simp[Nat.le_of_not_lt hk]
  refine Ran.same H (v:=.string (((List.range n).map num).foldl (fun r n=>r.push (UInt8.ofNat n.toNat)) ByteArray.empty)) ?_ (.str _ _ (by rw[ZC,hS];rfl));simp only[execOp,ho,hv,Sem.run_bind,run_convert_bytes_string w src dst e ad n cap hs he hd];rcases hc with h0|⟨b,off,rfl,aN⟩
  ·subst h0;cases ad with
   |none=>simp[Conv.bytesToString]
   |some ad =>have:=run_bytesToString (P:=P) w ad 0 cap [] (by simp[loadCells,loadCellsFrom]);simp[this,Result.andThen]
  ·have hl:=run_loadCells_list (P:=P) w ⟨b,off,none⟩ (((List.range n).map num).map (Value.int .u8)) (fun j v hj=>by
    rw[En];by_cases hk:j<n
    ·have e1:=aN j 0 hk (by omega);simp only[List.map_map,FM,Oi hk,Dp,Function.comp,Bd]at hj;rw[<-hj,<-(jq j hk).1];simpa using e1
    ·rw[J3 (by simp;omega)]at hj;cases hj)
   simp only[FN,Ol]at hl;have:=run_bytesToString (P:=P) w ⟨b,off,none⟩ n cap _ hl;simp[this,Result.andThen]
where
 rv_int' {g:Gh} {w:World} {k:IntKind} {n:Int} {v:Value} (hv:RV g w (.int k n) v):v=.int k n:=by cases hv;rfl
theorem Ran.newfz{s:Sem Next}{rd:List Nat}{x:Aa}{p:Prop}{i:Nat}{ob:Obj}{v:Value}(H:HR E g h w)(hr:∃w0:World,w0.heap=w.heap/\w0.os=w.os/\w0.tape=w.tape/\w0.output=w.output/\w.drawn<=w0.drawn/\s.run P w=.ok (.value v) { w0 with heap:=w0.heap.push ob })(cO:∀(g':Gh) (w':World),GLe g w g' w'->g'.fz w.heap.size->w'.heap[w.heap.size]?=some ob->RV g' w' x v) :
  Ran E P s g h w ⟨p,rd,x,some (i,.gone ((h i).ep+1))⟩:=by
 obtain⟨w0,e1,e2,e3,e4,e5,hr⟩:=hr
 let g':Gh:=⟨g.blk,fun j=>if j=i then(h i).ep+1 else g.ep j,g.bo,g.st,g.cp,fun b=>g.fz b\/b=w.heap.size⟩
 let w':World:={ w0 with heap:=w0.heap.push ob }
 have aO:∀b,b<w.heap.size->w'.heap[b]?=w.heap[b]?:=fun b hb=>by show(w0.heap.push ob)[b]?=_;rw[e1,Lc,Aj (by omega)]
 have aM:w'.heap[w.heap.size]?=some ob:=by show(w0.heap.push ob)[w.heap.size]?=_;rw[e1,Lc,An rfl]
 have aE:GLe g w g' w':=by
  refine⟨fun b hb=>⟨.inl hb,aO b (H.fzb b hb)⟩,fun j=>?_,fun j hj=>⟨rfl,rfl,rfl,rfl⟩⟩;show g.ep j<=if j=i then(h i).ep+1 else g.ep j;split
  ·rename_i e;subst e;rw[H.ep j];omega
  ·exact AC _
 have aJ:w'.heap.size=w.heap.size+1:=by show(w0.heap.push ob).size=_;rw[e1];simp
 obtain⟨H',S'⟩:=HR.upd (g':=g') (w':=w') (i:=i) (o':=.gone ((h i).ep+1)) H aE (fun j hj=>Aj hj) (An rfl) (fun b hb _=>aO b hb) (by rw[aJ];omega) trivial (fun e=>by cases e) (fun e=>by cases e)
  (fun b hb=>by
   rcases hb with hb|rfl
   ·exact .inl hb
   ·exact .inr (.inr (AC _)))
  (fun b hb=>by
   rw[aJ];rcases hb with hb|rfl
   ·have:=H.fzb b hb;omega
   ·omega) e2 e3 e4 e5
 exact⟨_,v,w',g',hr,.inl rfl,cO g' w' aE (.inr rfl) aM,H',S',fun e=>by cases e⟩
theorem ZD{o:Oper}{src dst e:TypeId}{s:Nat}{x:Operand}{x':Ad}(H:HR E g h w)(ht:RVs g w t a.tmps.toList)(ho:o.op=.convert src dst x)(hx:AA x x'=true)(hs:P.underlying src=some .string) (hd:P.underlying dst=some (.slice e)) (he:P.underlying e=some (.int .u8)) (aB:((Al.s2b s x').req (Ag E t) h).ok):Ran E P (execOp a.eval o) g h w ((Al.s2b s x').req (Ag E t) h):=by
 have rx:=AQ H ht hx;simp only[Al.req]at aB |-;generalize Ag E t x'=X at *;generalize hv:a.eval x=v at rx;cases X<;>simp only[Req.fail]at aB;rename_i bs;cases rx with
 |str _ ba hb =>
  have run:=run_bytes_of_string (P:=P) w src dst e ba hs hd he;have hge:=O1 w ba.size 0 e;have aJ:ba.size=bs.length:=by rw[<-hb];rfl
  refine Ran.newfz (ob:=.cells (bytesRow ba (grownCap w ba.size 0 e)) e ((bytesRow ba (grownCap w ba.size 0 e)).size,(bytesRow ba (grownCap w ba.size 0 e)).size+1)) (v:=.slice (some ⟨w.heap.size,0,none⟩) ba.size (grownCap w ba.size 0 e)) H ⟨w.drew,rfl,rfl,rfl,rfl,Cr _,by simp only[execOp,ho,hv,Sem.run_bind,run];rfl⟩ ?_;intro g' w' aE cY aM;rw[aJ];rw[aJ]at hge;refine .slc 1 bs.length _ w.heap.size 0 _ (fun k _=>.int .u8 (CS bs k)) cY (by omega) (fun _ _=>rfl) (fun i j hi hj=>?_) (fun _ _ _ _=>rfl) (fun i j y hi hy=>?_)
  ·obtain rfl:j=0:=by omega
   have hlt:i<ba.data.size:=by show i<ba.size;omega
   have e1:(bytesRow ba (grownCap w bs.length 0 e))[0+i*1+0]?=some (.int .u8 (CS bs i)):=by have e2:0+i*1+0=i:=(by omega);rw[e2];unfold bytesRow;rw[Jt (by simp;exact hlt),Array.getElem?_map,DE hlt];simp only[Dp,CS,CN,Bd,Value.int.injEq,true_and];rw[J2,<-hb,Array.getElem?_toList,DE hlt];rfl
   simp only[World.cell?,aM];rw[aJ];exact e1
  ·cases j with
   |zero=>simp at hy;subst hy;exact .int _ _
   |succ j=>simp at hy
theorem Ran.beside{s:Sem Next}{rd:List Nat}{x:Aa}{p:Prop}{i:Nat}{ob:Obj}{v:Value}(H:HR E g h w)(hr:s.run P w=.ok (.value v) { w with heap:=w.heap.push ob })(cO:∀(g':Gh) (w':World),GLe g w g' w'->g'.fz w.heap.size->w'.heap[w.heap.size]?=some ob->RV g' w' x v) :
  Ran E P s g h w ⟨p,rd,x,some (i,h i)⟩:=by
 let g':Gh:=⟨g.blk,g.ep,g.bo,g.st,g.cp,fun b=>g.fz b\/b=w.heap.size⟩
 let w':World:={ w with heap:=w.heap.push ob }
 have aO:∀b,b<w.heap.size->w'.heap[b]?=w.heap[b]?:=fun b hb=>by show(w.heap.push ob)[b]?=_;rw[Lc,Aj (by omega)]
 have aM:w'.heap[w.heap.size]?=some ob:=by show(w.heap.push ob)[w.heap.size]?=_;rw[Lc,An rfl]
 have aE:GLe g w g' w':=⟨fun b hb=>⟨.inl hb,aO b (H.fzb b hb)⟩,fun _=>AC _,fun _ _=>⟨rfl,rfl,rfl,rfl⟩⟩;have aJ:w'.heap.size=w.heap.size+1:=by show(w.heap.push ob).size=_;simp
 have hh:putH h (some (i,h i))=h:=by
  funext j;show hset h i (h i) j=h j;simp only[hset];split
  ·rename_i e;rw[e]
  ·rfl
 have H':HR E g' h w':=by
  refine⟨fun j=>(H.obj j).mono aE rfl fun ho=>aO _ ((H.obj j).lt ho),H.ep,H.inj,fun j hj hf=>?_,fun b hb=>?_,fun j=>(H.glob j).mono aE⟩
  ·rcases hf with hf|hf;·exact H.sep j hj hf
   ·have:=(H.obj j).lt hj;have gT:g.blk j=w.heap.size:=hf;omega
  ·rw[aJ];rcases hb with hb|rfl
   ·have:=H.fzb b hb;omega
   ·omega
 have S':Stp g h w g' h w':=by
  refine⟨aE,rfl,rfl,rfl,by rw[aJ];omega,fun b hb _=>aO b hb,fun j ho=>.inl ⟨j,ho,rfl⟩,fun b hb=>?_,AC _⟩;rcases hb with hb|rfl
  ·exact .inl hb
  ·exact .inr (.inr (AC _))
 refine⟨_,v,w',g',hr,.inl rfl,cO g' w' aE (.inr rfl) aM,?_,?_,fun e=>by cases e⟩
 ·show HR E g' (putH h (some (i,h i))) w';rw[hh];exact H'
 ·show Stp g h w g' (putH h (some (i,h i))) w';rw[hh];exact S'
theorem ZE{o:Oper}{ty:TypeId}{n st nn s:Nat}{ps:Array (Nat×Operand)}{zero:List Aa}{parts:List (Nat×Nat×Ad)}(H:HR E g h w)(ht:RVs g w t a.tmps.toList)(ho:o.op=.buildSlice ty n ps)(hb:HS P ty n st nn zero ps.toList parts=true)(aB:((Al.fslice s st nn zero parts).req (Ag E t) h).ok):Ran E P (execOp a.eval o) g h w ((Al.fslice s st nn zero parts).req (Ag E t) h):=by
 simp only[Al.req]at aB |-;cases hf:CR (Ag E t) zero parts with
 |none=>simp only[hf,Req.fail]at aB
 |some l =>
  simp only[hf]at aB |-;obtain⟨_,hl,aH,h1⟩:=aB;obtain⟨rfl,e,cs',gr,aD,aG⟩:=TD H ht ho hb hf hl;refine Ran.beside (ob:=.cells cs' e (0,0)) H aG ?_;intro g' w' aE cY aM;have kh:∀k j,k<n->j<st->k*st+j<n*st:=fun k j hk hj=>by have:(k+1)*st<=n*st:=Bq _ (by omega);rw[Ef]at this;omega
  have aV:∀k,k<n->((E9 st n l).getD k [])=(l.drop (k*st)).take st:=fun k hk=>Oy n l k hl hk;refine .slc st n _ w.heap.size 0 n (fun k j=>cs'.getD (k*st+j) undef) cY (AC _) (fun i hi=>?_) (fun i j hi hj=>?_) (fun i j hi hj=>?_) (fun i j y hi hy=>?_)
  ·rw[aV i hi];have:(i+1)*st<=n*st:=Bq _ (by omega);rw[Ef]at this;simp;omega
  ·have bn:=kh i j hi hj;simp only[World.cell?,aM];have e1:0+i*st+j=i*st+j:=by omega
   rw[e1];simp[Array.getD,aD,bn]
  ·have bn:=kh i j hi hj;have db:cs'.toList[i*st+j]?=some (cs'.getD (i*st+j) undef):=by simp[Array.getD,aD,bn]
   exact GT gr h1 _ (Cq db)
  ·rw[aV i hi,Fo]at hy;split at hy
   ·rename_i hj;rw[Ec]at hy;have bn:=kh i j hi hj;have db:cs'.toList[i*st+j]?=some (cs'.getD (i*st+j) undef):=by simp[Array.getD,aD,bn]
    exact(gr.2 _ y _ hy db).mono aE
   ·cases hy
theorem ZF{o:Oper}{ty e:TypeId}{s st bytes:Nat}{zero:List Aa}{zl:List Value}{x y:Operand}{x':Ad}(H:HR E g h w)(ht:RVs g w t a.tmps.toList)(ho:o.op=.makeSlice ty x y)(hx:AA x x'=true)(hy:AA y x'=true)(hu:P.underlying ty=some (.slice e)) (hs:szOf P e=some st) (hb:byOf P e=some bytes) (eY:0<bytes) (hz:El P e=some zl) (cM:HN zl zero=true)(aB:((Al.mks s st bytes zero x').req (Ag E t) h).ok):Ran E P (execOp a.eval o) g h w ((Al.mks s st bytes zero x').req (Ag E t) h):=by
 have rx:=AQ H ht hx;have ry:=AQ H ht hy;simp only[Al.req]at aB |-;generalize Ag E t x'=X at *;generalize hv:a.eval x=v at rx;generalize db:a.eval y=v' at ry;cases X<;>simp only[Req.fail]at aB;rename_i k n;obtain rfl:=O8.rv_int' rx;obtain rfl:=O8.rv_int' ry;obtain⟨_,h0,eH,aH,iI,fh⟩:=aB;have fO:=Ll (g:=g) (w:=w) cM;have fj:zl.length=st:=by rw[<-iI];exact fO.1
 obtain⟨i,z,hi,bL,aJ,iG,bh⟩:=L5 hs hb hz fj;have dH:zl=z.cells.toList:=O0 hi bL hz;have nT:n<=9223372036854775807:=by have:n*1<=n*bytes:=Int.mul_le_mul_of_nonneg_left (by omega) h0;omega
 have run:=run_make (P:=P) w ty e i z hu hi bL k k n n h0 (Jv _) (by rw[iG,Int.mul_comm];omega) nT;refine Ran.new (ob:=.cells (madeCells z.cells (n.toNat*i.size)) e (0,0)) (bo:=0) (st:=st) (cp:=n.toNat) H ⟨w,rfl,rfl,rfl,rfl,AC _,by simp only[execOp,ho,hv,db,Sem.run_bind,run];rfl⟩ rfl ?_;intro g' w' aE aK dh bS cU aM;refine⟨L6 aH aK dh bS cU (AC _) aM ?_ (fun _ _=>iI) (fun q j hq hj=>?_),fun he=>?_⟩
 ·rw[size_madeCells,aJ];omega
 ·have bX:=EC hq hj;have aY:j<z.cells.size:=by omega
  have e1:(q*st+j)%z.cells.size=j:=by rw[bh,Bi,On];exact Ee hj
  have e2:(madeCells z.cells (n.toNat*i.size))[0+q*st+j]?=some z.cells[j]:=by unfold madeCells;rw[Ce,Array.getElem?_map,Array.getElem?_range,An (by rw[aJ];exact bX)];simp only[Dp,e1,getElem!_pos z.cells j aY]
  have e3:zl[j]?=some z.cells[j]:=by rw[dH,Array.getElem?_toList,DE aY]
  have cK:∃y,zero[j]?=some y:=⟨_,AD (by omega)⟩;exact⟨_,e2,GT fO fh _ (Cq e3),fun y hy=>(fO.2 j y _ hy e3).mono aE⟩
 ·exact .vec _ _ _ _ _ rfl (by rw[he];exact AC _) (fun _=>L1 aK dh cU (AC _))
theorem Ub{id ep st m a0 cnt:Nat}{f fn:Nat->List Aa}{arr:Array Value}{ty:TypeId}{vals:Nat->Nat->Value}{w':World}(aH:g.st id=st)(h0:0<st)(hn:m<=g.cp id)(aE:GLe g w g w')(bm:g.bo id+g.cp id*st<=arr.size) (aV:∀k,k<m->(f k).length=st/\∀(j:Nat) (x:Aa) (v:Value),(f k)[j]?=some x->arr[g.bo id+k*st+j]?=some v->v.oneCell'=true/\RV g w x v)(hc:a0+cnt<=m) (hl:∀k,k<cnt->(fn k).length=st) (h1:∀k j,k<cnt->j<st->(vals k j).oneCell'=true) (hr:∀(k j:Nat) (x:Aa),k<cnt->(fn k)[j]?=some x->RV g w x (vals k j))(hb:w'.heap[g.blk id]?=some (.cells (arr.toList.take (g.bo id+a0*st)++BW st cnt vals++arr.toList.drop (g.bo id+a0*st+(BW st cnt vals).length)).toArray ty (0,0))) :
  OR g w' id (.vec ep st m (fun k=>if a0<=k/\k<a0+cnt then fn (k-a0) else f k)):=by
 have kY:∀k,k<m->(k+1)*st<=g.cp id*st:=fun k hk=>Bq _ (by omega);have e0:(a0+cnt)*st<=g.cp id*st:=Bq _ (by omega);rw[Ba]at e0;have aD:=Fy st cnt vals;have fN:=fun j=>yzx arr.toList (BW st cnt vals) (g.bo id+a0*st) j (by rw[aD];simp;omega);refine⟨aH,h0,hn,_,ty,hb,by simp;omega,fun k hk=>?_⟩;have di:=kY k hk;rw[Ef]at di;by_cases aQ:a0<=k/\k<a0+cnt
 ·simp only[An aQ];refine⟨hl _ (by omega),fun j x v hx hv=>?_⟩;have hj:j<st:=by rw[<-hl (k-a0) (by omega)];exact(AL.1 hx).1
  have e1:k*st=a0*st+(k-a0)*st:=by rw[<-Ba];congr 1;omega
  have bX:=EC (k:=k-a0) (n:=cnt) (st:=st) (j:=j) (by omega) hj;rw[GI,fN,Aj (by omega),An (by rw[aD];omega)]at hv;have e2:g.bo id+k*st+j-(g.bo id+a0*st)=(k-a0)*st+j:=by omega
  rw[e2,HY (by omega) hj]at hv;obtain rfl:=BM hv;exact⟨h1 _ _ (by omega) hj,(hr _ _ x (by omega) hx).mono aE⟩
 ·simp only[Aj aQ];obtain⟨iE,aN⟩:=aV k hk;refine⟨iE,fun j x v hx hv=>?_⟩;have hj:j<st:=by rw[<-iE];exact(AL.1 hx).1
  rw[GI,fN,aD]at hv
  have kH:¬(g.bo id+a0*st<=g.bo id+k*st+j/\g.bo id+k*st+j<g.bo id+a0*st+cnt*st):=by
   rintro⟨q1,q2⟩;rcases BL k a0 with hlt|hge
   ·have:(k+1)*st<=a0*st:=Bq _ hlt;rw[Ef]at this;omega
   ·have:(a0+cnt)*st<=k*st:=Bq _ (by omega);rw[Ba]at this;omega
  by_cases j1:g.bo id+k*st+j<g.bo id+a0*st
  ·rw[An j1]at hv;have:=aN j x v hx (by simpa using hv);exact⟨this.1,this.2.mono aE⟩
  ·rw[Aj j1,Aj (by omega)]at hv;have:=aN j x v hx (by simpa using hv);exact⟨this.1,this.2.mono aE⟩
theorem ZG{st n:Nat}{l:List Value}{vals:Nat->Nat->Value}(hl:l.length=n*st)(h:∀k j,k<n->j<st->l[k*st+j]?=some (vals k j)):l=BW st n vals:=by
 apply J1;intro q;by_cases hq:q<n*st
 ·have h0:0<st:=by
   rcases Fq st with e|e
   ·subst e;omega
   ·exact e
  have e1:q / st<n:=by rw[GM h0];exact hq
  have e2:q%st<st:=FQ _ h0;have e3:q / st*st+q%st=q:=by rw[Bi];exact HK q st
  have h1:=h _ _ e1 e2;have h2:=HY (st:=st) (m:=n) (vals:=vals) e1 e2;rw[e3]at h1 h2;rw[h1,h2]
 ·rw[J3 (by omega),J3 (by rw[Fy];omega)]
theorem Uc(P:Program)(o:Oper)(ρ:Operand->Value)(x y:Operand)(tx ty:TypeId)(u v r:Value)(w w':World)(ho:o.op=.call { callee:=.builtin .copy,args:=#[x,y],argTypes:=#[tx,ty] })(hx:ρ x=u)(hy:ρ y=v)(hr:(Builtin.copy_ #[tx,ty] o.type #[u,v]).run P w=.ok r w'):(execOp ρ o).run P w=.ok (.value r) w':=by simp[execOp,ho,resolve,invoke,builtin,hx,hy,hr]
theorem Ud(P:Program)(o:Oper)(ρ:Operand->Value)(x:Operand)(tx:TypeId)(u r:Value)(w w':World)(ho:o.op=.call { callee:=.builtin .clear,args:=#[x],argTypes:=#[tx] })(hx:ρ x=u)(hr:(Builtin.clear_ #[tx] o.type #[u]).run P w=.ok r w'):(execOp ρ o).run P w=.ok (.value r) w':=by simp[execOp,ho,resolve,invoke,builtin,hx,hr]
theorem ZH{o:Oper}{tx ty e:TypeId}{st0:Nat}{x y:Operand}{x' y':Ad}(H:HR E g h w)(ht:RVs g w t a.tmps.toList)(ho:o.op=.call { callee:=.builtin .copy,args:=#[x,y],argTypes:=#[tx,ty] })(hx:AA x x'=true)(hy:AA y y'=true)(hu:P.underlying tx=some (.slice e)) (hs:szOf P e=some st0) (aB:((Al.copy st0 x' y').req (Ag E t) h).ok):Ran E P (execOp a.eval o) g h w ((Al.copy st0 x' y').req (Ag E t) h):=by
 have rx:=AQ H ht hx;have ry:=AQ H ht hy;simp only[Al.req]at aB |-;generalize Ag E t x'=X at *;generalize Ag E t y'=Y at *;unfold JB at aB |-;cases X<;>simp only[Req.fail]at aB;rename_i id ep lo n;have hO:=H.obj id;cases hh:h id<;>simp only[hh,Req.fail]at aB hO |-
 case vec ep' st m f =>
  obtain⟨h1,h2,rfl,bz,rfl⟩:=aB;obtain⟨aH,h0,hn,arr,ty',hr,bm,aV⟩:=hO;obtain⟨vals,src⟩:=JJ H ry h1 h2;generalize (Br st0 Y h).n=q at *;generalize (Br st0 Y h).f=f' at *;have aU:(h id).owned=true:=by rw[hh];rfl
  obtain⟨ad,cap,e1,aT,hc⟩:=Fx H rx (by rw[hh];rfl);obtain⟨sad,scap,se,mT,gz⟩:=src.val;have aJ:(P.info? e).map (·.size)=some st0:=hs
  obtain⟨i,hi,kZ⟩:∃i,P.info? e=some i/\i.size=st0:=by
   cases hi:P.info? e with
   |none=>simp[hi]at aJ
   |some i=>exact⟨i,rfl,by simpa [hi] using aJ⟩
  have jr:Nat.min q n=min q n:=rfl
  have bF:(Builtin.firstCells st0 (min q n) (.slice sad q scap)).run P w=.ok (BW st0 (min q n) vals).toArray w:=by
   rcases gz with e0|⟨b,off,rfl,aN⟩
   ·have:min q n=0:=(by omega);rw[this];cases sad with
    |none=>simp[Builtin.firstCells,BW]
    |some s=>simp[Builtin.firstCells,loadCells,loadCellsFrom,BW]
   ·exact run_firstCells_some (P:=P) w st0 (min q n) ⟨b,off,none⟩ q scap _ (by rw[Fy]) (fun j v hj=>by obtain⟨k,j',hk,aY,rfl,rfl⟩:=HZ hj;rw[En];exact aN k j' (by omega) aY)
  by_cases hz:min q n=0
  ·-- nothing is written
   have run:(Builtin.copy_ #[tx,ty] o.type #[.slice (some ad) n cap,.slice sad q scap]).run P w=.ok (goInt 0) w:=by rw[hz]at bF;simp[Builtin.copy_,run_underlying hu,sizeOf,typeInfo,hi,kZ,Builtin.lenOf,jr,hz,bF,BW,storeCells]
   have fk:=setRow_self w (g.blk id) arr ty' (0,0) hr;refine HV H aU hr (arr':=arr) (v:=goInt 0) (by rw[fk];exact Uc P o a.eval x y tx ty _ _ _ w _ ho e1 se run) (.inl rfl) (by rw[hh];rfl) ?_;intro w' aE hb;refine⟨⟨aH,h0,hn,arr,ty',hb,bm,fun k hk=>?_⟩,by rw[hz];exact .int _ _⟩;rw[hz];simp only[GJ,show ¬(lo<=k/\k<lo) by omega,Dk];exact⟨(aV k hk).1,fun j x v hx hv=>⟨((aV k hk).2 j x v hx hv).1,((aV k hk).2 j x v hx hv).2.mono aE⟩⟩
  ·rcases hc with bV|⟨rfl,hc⟩;·omega
   ·have e5:(lo+min q n)*st0<=g.cp id*st0:=Bq _ (by omega);rw[Ba]at e5;have dL:=run_storeCells_at P (g.blk id) (g.bo id+lo*g.st id) ty' (BW st0 (min q n) vals) 0 arr w hr (by rw[Fy,aH];omega) (fun u hu=>by obtain⟨p,hp⟩:=Tg.1 hu;obtain⟨k,j,hk,hj,rfl,rfl⟩:=HZ hp;exact src.one k j (by omega) hj);simp only[GJ]at dL;have run:(Builtin.copy_ #[tx,ty] o.type #[.slice (some ⟨g.blk id,g.bo id+lo*g.st id,none⟩) n cap,.slice sad q scap]).run P w=.ok (goInt (min q n:Nat)) (w.setRow (g.blk id) (arr.toList.take (g.bo id+lo*g.st id)++BW st0 (min q n) vals++arr.toList.drop (g.bo id+lo*g.st id+(BW st0 (min q n) vals).length)).toArray):=by simp only[Builtin.copy_,run_underlying hu,sizeOf,typeInfo,hi,kZ,Builtin.lenOf,jr,bF,Sem.run_bind,Result.andThen_ok,dL];simp[run_underlying hu,hi,kZ,bF,dL,Result.andThen]
    refine HV H aU hr (v:=goInt (min q n:Nat)) (Uc P o a.eval x y tx ty _ _ _ w _ ho e1 se run) (.inl rfl) (by rw[hh];rfl) ?_;intro w' aE hb;rw[aH]at hb;exact⟨Ub aH h0 hn aE bm aV (by omega) (fun k hk=>src.len k (by omega)) (fun k j hk hj=>src.one k j (by omega) hj) (fun k j x hk hx=>src.rv k j x (by omega) hx) hb,.int _ _⟩
 all_goals exact aB.elim
theorem ZI{o:Oper}{tx e:TypeId}{zero:List Aa}{zl:List Value}{x:Operand}{x':Ad}(H:HR E g h w)(ht:RVs g w t a.tmps.toList)(ho:o.op=.call { callee:=.builtin .clear,args:=#[x],argTypes:=#[tx] })(hx:AA x x'=true)(hu:P.underlying tx=some (.slice e)) (hz:El P e=some zl) (cM:HN zl zero=true) (aB:((Al.clear zero x').req (Ag E t) h).ok):Ran E P (execOp a.eval o) g h w ((Al.clear zero x').req (Ag E t) h):=by
 have rx:=AQ H ht hx;simp only[Al.req]at aB |-;generalize Ag E t x'=X at *;unfold JC at aB |-;cases X<;>simp only[Req.fail]at aB;rename_i id ep lo n;have hO:=H.obj id;cases hh:h id<;>simp only[hh,Req.fail]at aB hO |-
 case vec ep' st m f =>
  obtain⟨rfl,bz,iI,fh⟩:=aB;obtain⟨aH,h0,hn,arr,ty',hr,bm,aV⟩:=hO;have aU:(h id).owned=true:=by rw[hh];rfl
  obtain⟨ad,cap,e1,aT,hc⟩:=Fx H rx (by rw[hh];rfl);have fO:=Ll (g:=g) (w:=w) cM;have fj:zl.length=st:=by rw[<-iI];exact fO.1
  have rtup:∀w',RV g w' (.tup []) (.tuple #[]):=fun w'=>.tup _ _ rfl fun i x v hx _=>by simp at hx
  by_cases cK:n=0
  ·subst cK;have run:(Builtin.clear_ #[tx] o.type #[.slice (some ad) 0 cap]).run P w=.ok (.tuple #[]) w:=by simp[Builtin.clear_,run_underlying hu]
   have fk:=setRow_self w (g.blk id) arr ty' (0,0) hr;refine HV H aU hr (arr':=arr) (v:=.tuple #[]) (by rw[fk];exact Ud P o a.eval x tx _ _ w _ ho e1 run) (.inl rfl) (by rw[hh];rfl) ?_;intro w' aE hb;refine⟨⟨aH,h0,hn,arr,ty',hb,bm,fun k hk=>?_⟩,rtup w'⟩;simp only[GJ,show ¬(lo<=k/\k<lo) by omega,Dk];exact⟨(aV k hk).1,fun j x v hx hv=>⟨((aV k hk).2 j x v hx hv).1,((aV k hk).2 j x v hx hv).2.mono aE⟩⟩
  ·rcases hc with bV|⟨rfl,hc⟩;·omega
   ·have e5:(lo+n)*st<=g.cp id*st:=Bq _ (by omega);rw[Ba]at e5
    obtain⟨i,z,hi,bL⟩:∃(i:TypeInfo) (z:Value),P.info? e=some i/\i.zero=some z:=by
     unfold El at hz;cases hi:P.info? e with
     |none=>simp[hi]at hz
     |some i =>
      cases bL:i.zero with
      |none =>obtain⟨⟩:=i;simp only at bL;subst bL;simp[hi]at hz
      |some z=>exact⟨i,z,rfl,bL⟩
    have dH:zl=z.cells.toList:=O0 hi bL hz;have bh:z.cells.size=st:=by rw[<-fj,dH];simp
    have cT:(Builtin.zeroCells z.cells n).toList=BW st n (fun _ j=>z.cells.getD j undef):=by
     refine ZG (by simp[size_zeroCells,bh]) fun k j hk hj=>?_;have bX:=EC hk hj;have e1:(k*st+j)%z.cells.size=j:=by rw[bh,Bi,On];exact Ee hj
     have aY:j<z.cells.size:=(by omega);rw[Array.getElem?_toList];unfold Builtin.zeroCells;rw[Array.getElem?_map,Array.getElem?_range,An (by rw[bh];exact bX)];simp only[Dp,e1,getElem!_pos z.cells j aY,Array.getD,aY,dif_pos];rfl
    have fm:∀j,j<st->(z.cells.getD j undef).oneCell'=true/\zl[j]?=some (z.cells.getD j undef):=fun j hj=>by have aY:j<z.cells.size:=(by omega);have e2:z.cells.getD j undef=z.cells[j]:=(by simp[Array.getD,aY]);have e3:zl[j]?=some z.cells[j]:=(by rw[dH,Array.getElem?_toList,DE aY]);rw[e2];exact⟨GT fO fh _ (Cq e3),e3⟩
    have dL:=run_storeCells_at P (g.blk id) (g.bo id+lo*g.st id) ty' (BW st n (fun _ j=>z.cells.getD j undef)) 0 arr w hr (by rw[Fy,aH];omega) (fun u hu=>by obtain⟨p,hp⟩:=Tg.1 hu;obtain⟨k,j,hk,hj,rfl,rfl⟩:=HZ hp;exact(fm j hj).1);simp only[GJ]at dL;obtain⟨n',rfl⟩:∃n',n=n'+1:=⟨n-1,by omega⟩;have run:(Builtin.clear_ #[tx] o.type #[.slice (some ⟨g.blk id,g.bo id+lo*g.st id,none⟩) (n'+1) cap]).run P w=.ok (.tuple #[]) (w.setRow (g.blk id) (arr.toList.take (g.bo id+lo*g.st id)++BW st (n'+1) (fun _ j=>z.cells.getD j undef)++arr.toList.drop (g.bo id+lo*g.st id+(BW st (n'+1) (fun _ j=>z.cells.getD j undef)).length)).toArray):=(by generalize BW st (n'+1) (fun _ j=>z.cells.getD j undef)=row at cT dL |-;simp only[Builtin.clear_,run_underlying hu,Sem.run_bind,Result.andThen_ok,zeroValue,typeInfo];simp[run_underlying hu,hi,bL,cT,dL,zeroValue,typeInfo,Result.andThen]);refine HV H aU hr (v:=.tuple #[]) (Ud P o a.eval x tx _ _ w _ ho e1 run) (.inl rfl) (by rw[hh];rfl) ?_;intro w' aE hb;rw[aH]at hb;exact⟨Ub (fn:=fun _=>zero) aH h0 hn aE bm aV (by omega) (fun k hk=>iI) (fun k j hk hj=>(fm j hj).1) (fun k j x hk hx=>by have hj:j<st:=(by rw[<-iI];exact(AL.1 hx).1);exact fO.2 j x _ hx (fm j hj).2) hb,rtup w'⟩
 all_goals exact aB.elim
end
section
variable {E:Nat->Aa}{P:Program}{g:Gh}{h:Aw}{w:World}{t:List Aa}{a:Act}
theorem ZJ{o:Oper}{x y:Operand}{tx e:TypeId}{s st bytes:Nat}{x' y':Ad}{zl:List Value}(H:HR E g h w)(ht:RVs g w t a.tmps.toList)(ho:o.op=.call { callee:=.builtin .append,args:=#[x,y],argTypes:=#[tx,tx] })(hx:AA x x'=true)(hy:AA y y'=true)(hu:P.underlying tx=some (.slice e)) (hs:szOf P e=some st) (hb:byOf P e=some bytes) (hz:El P e=some zl) (cM:zl.length=st) (eY:0<bytes)(aB:((Al.append s st bytes x' y').req (Ag E t) h).ok):Ran E P (execOp a.eval o) g h w ((Al.append s st bytes x' y').req (Ag E t) h):=by
 have rx:=AQ H ht hx;simp only[Al.req]at aB |-;generalize Ag E t x'=X at *;cases X<;>(try (simp only[Eh,Req.fail]at aB;done))
 case nils =>generalize hv:a.eval x=v at rx;cases rx;exact Zw H ht ho hy hu hs hb hz cM eY hv aB
 case vec id ep lo n=>exact Zy H ht ho hy hu hs hb hz cM eY rx aB
theorem Ue{o:Oper}{ao:Al}(H:HR E g h w)(ht:RVs g w t a.tmps.toList)(hc:Fp P o.op ao=true)(aB:(ao.req (Ag E t) h).ok):Ran E P (execOp a.eval o) g h w (ao.req (Ag E t) h):=by
 generalize ho:o.op=op at hc;unfold Fp at hc;split at hc
 ·exact Tv H ht (.inl ho) hc
 ·exact Tv H ht (.inr ho) hc
 ·simp only[AF]at hc;exact YT H ht ho hc.1.1 hc.1.2 hc.2 aB
 ·rename_i op' ty x y yt op'' bools x' y';simp only[AF,Bu,FL,FK]at hc;obtain⟨⟨⟨rfl,hx⟩,hy⟩,hb⟩:=hc;refine YQ H ht ho hx hy (fun e=>?_) aB;rcases hb with hb|hb
  ·rw[e]at hb;cases hb
  ·split at hb
   ·assumption
   ·cases hb
 ·exact YR H ht ho hc aB
 ·exact YS H ht ho hc aB
 ·exact Zh H ho hc
 ·exact Zi H ht ho hc aB
 ·rename_i ty x agg sz y;simp only[AF,Bu,FL,FK]at hc;obtain⟨⟨h1,h2⟩,hx⟩:=hc;exact Tx H ht ho hx h1 (fun e=>h2.resolve_left (by rw[e];simp)) aB
 ·simp only[AF,Bu]at hc;exact YX H ht ho hc.1.2 hc.2 hc.1.1 aB
 ·exact Za H ht ho hc aB
 ·rename_i s x f off y;simp only[AF]at hc;obtain⟨h1,hx⟩:=hc;split at h1
  ·rename_i o' ft hf;simp only[AF,Bu]at h1;obtain⟨rfl,h2⟩:=h1;split at h2
   ·rename_i n hn;exact Zc H ht ho hx hf hn (by simpa using h2) aB
   ·cases h2
  ·cases h1
 ·rename_i ty x i st x' i';simp only[AF]at hc;obtain⟨⟨h1,hx⟩,hi⟩:=hc;split at h1
  ·rename_i e he;simp only[Bu]at h1;unfold Tq at he;split at he
   ·rename_i e' hu;obtain rfl:=BM he;exact Ze H ht ho hx hi hu h1 aB
   ·cases he
  ·cases h1
 ·rename_i ty x i nn st x' i';simp only[AF]at hc;obtain⟨⟨h1,hx⟩,hi⟩:=hc;split at h1
  ·rename_i m e he;simp only[AF,Bu]at h1;obtain⟨rfl,hs⟩:=h1;unfold Tr at he;split at he
   ·rename_i n' e' hu;simp only[Bd,DG]at he;obtain⟨rfl,rfl⟩:=he;exact Zg H ht ho hx hi hu hs aB
   ·cases he
  ·cases h1
 ·rename_i ty x f agg off sz y;simp only[AF]at hc;obtain⟨h1,hx⟩:=hc;split at h1
  ·rename_i o' ft hf;simp only[AF,Bu,FL,FK]at h1;obtain⟨⟨rfl,h2⟩,h3⟩:=h1;exact Zr H ht ho hx hf h2 (fun e=>h3.resolve_left (by rw[e];simp)) aB
  ·cases h1
 ·simp only[AF,Bu]at hc;obtain⟨rfl,hx⟩:=hc;exact YU H ht ho hx aB
 ·rename_i ty x i x' i';simp only[AF]at hc;obtain⟨⟨h1,hx⟩,hi⟩:=hc;split at h1
  ·rename_i hu;exact Zf H ht ho hx hi hu aB
  ·cases h1
 ·rename_i ty x i agg n sz x' i';simp only[AF]at hc;obtain⟨⟨h1,hx⟩,hi⟩:=hc;split at h1
  ·rename_i m e hu;simp only[AF,Bu]at h1;obtain⟨⟨rfl,h2⟩,h3⟩:=h1;exact Zs H ht ho hx hi hu h3 h2 aB
  ·cases h1
 ·exact Zp H ht ho hc aB
 ·exact Zq H ht ho hc aB
 ·rename_i src dst x k y;simp only[AF]at hc;obtain⟨⟨h1,h2⟩,hx⟩:=hc;split at h2
  ·rename_i k' hd;simp only[Bu]at h2;subst h2;exact Zj H ht ho hx h1 hd aB
  ·cases h2
 ·rename_i ty x lo hi isStr st x' lo' aZ;simp only[AF]at hc;obtain⟨⟨⟨h1,hx⟩,bz⟩,cn⟩:=hc;split at h1
  ·rename_i hu;subst h1;exact TA H ht ho hx bz cn hu (by simp) aB
  ·rename_i e hu;simp only[AF,Bu,FK]at h1;obtain⟨rfl,h2⟩:=h1;exact TA H ht ho hx bz cn hu (by simp;exact h2) aB
  ·cases h1
 ·rename_i args ats isStr x';simp only[AF,Bu]at hc;obtain⟨⟨⟨h1,h2⟩,hx⟩,hu⟩:=hc;obtain⟨x,rfl⟩:=Array.size_eq_one_iff.1 h1;obtain⟨ty,rfl⟩:=Array.size_eq_one_iff.1 h2;simp only[GI,Td,Option.bind_some]at hx hu;split at hu
  ·rename_i hd;subst hu;exact T7 H ht ho rfl rfl hd (by simp) hx aB
  ·rename_i e hd;simp only[FK]at hu;subst hu;exact T7 H ht ho rfl rfl hd (by simp) hx aB
  ·cases hu
 ·rename_i args ats s st bytes x' y';split at hc
  ·rename_i x y tx ty cD lc;simp only[AF,Bu]at hc;obtain⟨⟨⟨rfl,hx⟩,hy⟩,h2⟩:=hc;obtain rfl:args=#[x,y]:=by rw[<-Jz (xs:=args),cD]
   obtain rfl:ats=#[tx,tx]:=by rw[<-Jz (xs:=ats),lc]
   split at h2
   ·rename_i e hu;simp only[AF,Bu,bne_iff_ne]at h2;obtain⟨⟨⟨hs,hb⟩,eY⟩,hz⟩:=h2;split at hz
    ·rename_i zl cM;simp only[Bu]at hz;exact ZJ H ht ho hx hy hu hs hb cM hz (by omega) aB
    ·cases hz
   ·cases h2
  ·cases hc
 ·rename_i args ats st0 x' y';split at hc
  ·rename_i x y cD;simp only[AF]at hc;exact Zk H ht ho cD hc.1 hc.2 aB
  ·cases hc
 ·rename_i args ats st0 x' y';split at hc
  ·rename_i x y cD;simp only[AF]at hc;exact Zl H ht ho cD hc.1 hc.2 aB
  ·cases hc
 ·rename_i ty x y yt sh x' y';simp only[AF,Bu,FK]at hc;obtain⟨⟨⟨⟨h1,h2⟩,h3⟩,hx⟩,hy⟩:=hc;split at h3
  ·rename_i fs hu;exact TI (ng:=false) H ht ho hx hy h1 h2 hu aB
  ·cases h3
 ·rename_i ty x y yt sh x' y';simp only[AF,Bu,FK]at hc;obtain⟨⟨⟨⟨h1,h2⟩,h3⟩,hx⟩,hy⟩:=hc;split at h3
  ·rename_i fs hu;exact TI (ng:=true) H ht ho hx hy h1 h2 hu aB
  ·cases h3
 ·rename_i ty x yt x';simp only[AF]at hc;split at hc
  ·rename_i e hu;exact TY (ng:=false) H ht ho hc.1 hu aB
  ·cases hc.2
 ·rename_i ty x yt x';simp only[AF]at hc;split at hc
  ·rename_i e hu;exact TY (ng:=true) H ht ho hc.1 hu aB
  ·cases hc.2
 ·rename_i ty x yt x';simp only[AF]at hc;split at hc
  ·rename_i e hu;exact TZ (ng:=false) H ht ho hc.1 hu aB
  ·cases hc.2
 ·rename_i ty x yt x';simp only[AF]at hc;split at hc
  ·rename_i e hu;exact TZ (ng:=true) H ht ho hc.1 hu aB
  ·cases hc.2
 ·exact Zz H ho
 ·rename_i ty x k cok kd cok' zero x' k';simp only[AF,Bu]at hc;obtain⟨⟨⟨rfl,h1⟩,hx⟩,hk⟩:=hc;split at h1
  ·rename_i kt et hu;simp only[AF,Bu]at h1;exact Z3 H ht ho hx hk hu h1.1 h1.2 aB
  ·cases h1
 ·rename_i ty m k v kd m' k' v';simp only[AF]at hc;obtain⟨⟨⟨h1,hx⟩,hk⟩,hv⟩:=hc;split at h1
  ·rename_i kt et hu;simp only[Bu]at h1;exact TX H ht (.inl ho) hx hk hv hu h1 aB
  ·cases h1
 ·rename_i ty m k v kd m' k' v';simp only[AF]at hc;obtain⟨⟨⟨h1,hx⟩,hk⟩,hv⟩:=hc;split at h1
  ·rename_i kt et hu;simp only[Bu]at h1;exact TX H ht (.inr ho) hx hk hv hu h1 aB
  ·cases h1
 ·rename_i args ats x';simp only[AF,Bu]at hc;obtain⟨⟨⟨h1,h2⟩,hx⟩,hu⟩:=hc;obtain⟨x,rfl⟩:=Array.size_eq_one_iff.1 h1;obtain⟨ty,rfl⟩:=Array.size_eq_one_iff.1 h2;simp only[GI,Td,Option.bind_some]at hx hu;split at hu
  ·rename_i kt et hd;exact Z8 H ht ho rfl rfl hd hx aB
  ·cases hu
 ·rename_i ty x s x';simp only[AF]at hc;obtain⟨h1,hx⟩:=hc;split at h1
  ·rename_i kt et hu;exact Z9 H ht ho hx hu aB
  ·cases h1
 ·exact ZA H ht ho hc aB
 ·rename_i f first caps f' caps'
  simp only[AF,Bu]at hc;obtain⟨⟨rfl,h0⟩,aS⟩:=hc;exact YV H ht ho (by simpa using h0) aS
 ·rename_i src dst x s x';simp only[AF]at hc;obtain⟨h1,hx⟩:=hc;split at h1
  ·rename_i e hs hd;simp only[AF]at h1;obtain⟨h2,h3⟩:=h1;split at h2
   ·rename_i he;exact ZD H ht ho hx hs hd he aB
   ·cases h2
  ·cases h1
 ·rename_i src dst x x';simp only[AF]at hc;obtain⟨h1,hx⟩:=hc;split at h1
  ·rename_i e hs hd;simp only[AF]at h1;obtain⟨h2,h3⟩:=h1;split at h2
   ·rename_i he;exact O8 H ht ho hx hs he hd aB
   ·cases h2
  ·cases h1
 ·rename_i t0 x y s st bytes zero x';simp only[AF]at hc;obtain⟨⟨hx,hy⟩,h1⟩:=hc;split at h1
  ·rename_i e hu;simp only[AF,Bu,bne_iff_ne]at h1;obtain⟨⟨⟨hs,hb⟩,eY⟩,h2⟩:=h1;split at h2
   ·rename_i z hz;exact ZF H ht ho hx hy hu hs hb (by omega) hz h2 aB
   ·cases h2
  ·cases h1
 ·rename_i args ats st0 x' y';split at hc
  ·rename_i x y tx ty ha bQ;simp only[AF]at hc;obtain⟨⟨hx,hy⟩,h1⟩:=hc;split at h1
   ·rename_i e hu;have hs:=Bu.1 h1;obtain rfl:args=#[x,y]:=(by rw[<-Jz (xs:=args),ha]);obtain rfl:ats=#[tx,ty]:=(by rw[<-Jz (xs:=ats),bQ]);exact ZH H ht ho hx hy hu hs aB
   ·cases h1
  ·cases hc
 ·rename_i args ats zero x';split at hc
  ·rename_i x tx ha bQ;simp only[AF]at hc;obtain⟨hx,h1⟩:=hc;split at h1
   ·rename_i e hu;split at h1
    ·rename_i z hz;obtain rfl:args=#[x]:=by rw[<-Jz (xs:=args),ha]
     obtain rfl:ats=#[tx]:=by rw[<-Jz (xs:=ats),bQ]
     exact ZI H ht ho hx hu hz h1 aB
    ·cases h1
   ·cases h1
  ·cases hc
 ·exact ZE H ht ho hc aB
 ·cases hc
end
theorem Ia{ar:Ad->Aa}{h:Aw}{i:Nat}{ob:Ak}(o:Al)(aB:(o.req ar h).ok)(ho:(o.req ar h).out=some (i,ob)):(h i).plain/\i∈(o.req ar h).rd:=by
 cases o<;>simp only[Al.req]at aB ho |-<;>(try (cases ho;done))
 case alloc s zero =>simp only[Bd,DG]at ho;obtain⟨rfl,_⟩:=ho;exact⟨aB,by simp⟩
 case box s x =>cases hp:Cs (ar x)<;>simp only[hp,Req.fail]at aB ho |-;simp only[Bd,DG]at ho;obtain⟨rfl,_⟩:=ho;exact⟨aB,by simp⟩
 case bslice s st nn zero ps =>cases hp:CR ar zero ps<;>simp only[hp,Req.fail]at aB ho |-;simp only[Bd,DG]at ho;obtain⟨rfl,_⟩:=ho;exact⟨aB.1,by simp⟩
 case fslice s st nn zero ps =>cases hp:CR ar zero ps<;>simp only[hp,Req.fail]at aB ho |-;simp only[Bd,DG]at ho;obtain⟨rfl,_⟩:=ho;exact⟨aB.1,by simp⟩
 case store sz x y =>
  unfold Ds at aB ho |-;cases hp:Cs (ar y)<;>simp only[hp,Req.fail]at aB ho |-;cases hx:ar x<;>simp only[hx,Req.fail]at aB ho |-
  case ptr id ep off =>
   cases hh:h id<;>simp only[hh,Req.fail]at aB ho |-
   case box ep' cs =>simp only[Bd,DG]at ho;obtain⟨rfl,_⟩:=ho;exact⟨by rw[hh];trivial,by simp⟩
   all_goals exact aB.elim
  case eptr id ep i' off =>
   cases hh:h id<;>simp only[hh,Req.fail]at aB ho |-
   case vec ep' st n f =>simp only[Bd,DG]at ho;obtain⟨rfl,_⟩:=ho;exact⟨by rw[hh];trivial,by simp⟩
   all_goals exact aB.elim
  all_goals exact aB.elim
 case append s st bytes x y =>
  simp only[Eh]at aB ho |-;cases hx:ar x<;>simp only[hx,Req.fail]at aB ho |-
  case nils =>
   by_cases hn:(Br st (ar y) h).n=0
   ·simp only[hn,Ci]at ho;cases ho
   ·simp only[hn,Dk]at aB ho |-;simp only[Bd,DG]at ho;obtain⟨rfl,_⟩:=ho;exact⟨aB.1,by simp⟩
  case vec id ep lo n =>
   cases hh:h id<;>simp only[hh,Req.fail]at aB ho |-
   case vec ep' st' m f =>simp only[Bd,DG]at ho;obtain⟨rfl,_⟩:=ho;exact⟨by rw[hh];trivial,by simp⟩
   all_goals exact aB.elim
  all_goals exact aB.elim
 case s2b s x =>cases hx:ar x<;>simp only[hx,Req.fail]at aB ho |-<;>(try (cases ho;done));simp only[Bd,DG]at ho;obtain⟨rfl,_⟩:=ho;exact⟨aB,by simp⟩
 case mks s st bytes zero x =>cases hx:ar x<;>simp only[hx,Req.fail]at aB ho |-<;>(try (cases ho;done));simp only[Bd,DG]at ho;obtain⟨rfl,_⟩:=ho;exact⟨aB.1,by simp⟩
 case b2s x =>exfalso;revert ho;unfold EA;split<;>(intro ho;cases ho;done)
 case copy st0 x y =>unfold JB at aB ho |-;cases hx:ar x<;>simp only[hx,Req.fail]at aB ho |-<;>(try (cases ho;done));rename_i id ep lo n;cases hh:h id<;>simp only[hh,Req.fail]at aB ho |-<;>(try (cases ho;done));simp only[Bd,DG]at ho;obtain⟨rfl,_⟩:=ho;exact⟨by rw[hh];trivial,by simp⟩
 case clear zero x =>unfold JC at aB ho |-;cases hx:ar x<;>simp only[hx,Req.fail]at aB ho |-<;>(try (cases ho;done));rename_i id ep lo n;cases hh:h id<;>simp only[hh,Req.fail]at aB ho |-<;>(try (cases ho;done));simp only[Bd,DG]at ho;obtain⟨rfl,_⟩:=ho;exact⟨by rw[hh];trivial,by simp⟩
 case mkmap s =>simp only[Bd,DG]at ho;obtain⟨rfl,_⟩:=ho;exact⟨aB,by simp⟩
 case mlook kd cok zero x k =>
  exfalso;revert ho;unfold Fu;repeat' split
  all_goals (intro ho;cases ho;done)
 case mupd kd x k v =>
  unfold FT at aB ho |-;cases hx:ar x<;>simp only[hx,Req.fail]at aB ho |-<;>(try (exact aB.elim));rename_i id ep;cases hh:h id<;>simp only[hh,Req.fail]at aB ho |-<;>(try (exact aB.elim));rename_i ep' es;cases hf:BN (ar k) es 0 with
  |none=>simp only[hf]at aB
  |some r =>cases r<;>simp only[hf,Bd,DG]at ho |-<;>(obtain⟨rfl,_⟩:=ho;exact⟨by rw[hh];trivial,by simp⟩)
 case mrange s x =>
  unfold JA at aB ho |-;cases hx:ar x<;>simp only[hx,Req.fail]at aB ho |-<;>(try (exact aB.elim))
  case nilmp =>simp only[Bd,DG]at ho;obtain⟨rfl,_⟩:=ho;exact⟨aB,by simp⟩
  case mp id ep =>cases hh:h id<;>simp only[hh,Req.fail]at aB ho |-<;>(try (exact aB.elim));simp only[Bd,DG]at ho;obtain⟨rfl,_⟩:=ho;exact⟨aB.2,by simp⟩
 case mentry x =>
  exfalso;revert ho;unfold HM;repeat' split
  all_goals (intro ho;cases ho;done)
 case bin op bools x y =>
  exfalso;revert ho;unfold Dr;repeat' split
  all_goals first
   |(intro ho;cases ho;done)
   |(rename_i k a _ b _;cases op<;>(intro ho;cases ho;done))
   |(rename_i k a _ b _ _;cases op<;>(intro ho;cases ho;done))
   |(cases op<;>(intro ho;cases ho;done))
 case pick c x y =>
  exfalso;revert ho;unfold Cg;repeat' split
  all_goals (intro ho;cases ho;done)
 case load agg sz x =>
  exfalso;revert ho;unfold CO;repeat' split
  all_goals (intro ho;cases ho;done)
 all_goals (exfalso;revert ho;repeat' split)<;>(intro ho;cases ho;done)
variable {E:Nat->Aa}{P:Program}{ρ:Option Nat}
theorem Uf{o:Op}{a:Al}(h:Fp P o a=true):∀c,o≠.defer c:=by rintro c rfl;cases a<;>simp[Fp]at h
def putT(t:List Aa)(d:Option Tmp)(v:Aa):List Aa:=match d with
 |some d=>t.set d v
 |none=>t
theorem JL{g:Gh}{w:World}{t:List Aa}{a:Act}(ht:RVs g w t a.tmps.toList)(d:Option Tmp){x:Aa}{v:Value}(hv:RV g w x v):RVs g w (putT t d x) (a.put d v).tmps.toList:=by
 cases d with
 |none=>exact ht
 |some d =>simp only[putT,Act.put,Array.toList_setIfInBounds];exact ht.set d hv
theorem JM(a:Act)(d:Option Tmp)(v:Value):(a.put d v).defers=a.defers:=by cases d<;>rfl
def Cj:Aa->Bool->Option Bool
 |.bool b,want=>some (if want then b else !b)
 |.cnd c (.bool b),want=>some (c&&if want then b else !b)
 |.cnd false _,_=>some false
 |_,_=>none
def O9:Value->Option Bool
 |.bool b=>some b
 |_=>none
theorem Ug{g:Gh}{w:World}{x:Aa}{v:Value}{want c:Bool}(hx:RV g w x v)(hg:Cj x want=some c):(O9 v==some want)=c:=by
 cases x with
 |bool b =>simp only[Cj,Bd]at hg;subst hg;rw[DI hx];cases want<;>cases b<;>rfl
 |cnd d y =>
  cases y with
  |bool b =>
   simp only[Cj,Bd]at hg;subst hg;cases hx with
   |cnd _ _ _ h1 h0 =>
    cases d with
    |true =>rw[DI (h1 rfl)];cases want<;>cases b<;>rfl
    |false =>rw[h0 rfl];cases want<;>cases b<;>rfl
  |_ =>
   cases d with
   |true=>cases hg
   |false =>
    cases hg;cases hx with
    |cnd _ _ _ h1 h0=>rw[h0 rfl];cases want<;>rfl
 |_=>cases hg
structure Ax.Ok(P:Program)(ops:Array Oper)(o:Oper)(ao:Ax):Prop where
 dst:o.dst=ao.dst
 grd:match ao.guard with | none=>o.guard=none | some (tg,want)=>∃j,o.guard=some (j,want)/\(ops[j]?).bind (·.dst)=some tg
def argU(E:Nat->Aa)(t:List Aa):Ad->Aa
 |.t n=>unv (t.getD n .top)
 |y=>Ag E t y
def CH:List Ad->List Tmp
 |[]=>[]
 |.t n :: r=>n :: CH r
 |_ :: r=>CH r
theorem L7{l:List Ad}{n:Nat}(h:Ad.t n∈l):n∈CH l:=by
 induction l with
 |nil=>cases h
 |cons x r ih =>
  cases h with
  |head=>simp[CH]
  |tail _ h=>cases x<;>simp[CH,ih h]
def BX(c:Bool)(t:List Aa):List Ad->Prop
 |[]=>True
 |.t n :: r=>unc c (t.getD n .top)/\BX c t r
 |_ :: r=>BX c t r
def Al.unAll(E:Nat->Aa)(c:Bool)(t:List Aa):Al->Prop
 |.pick x y z=>BX c t [x]/\(match argU E t x with | .bool b=>BX (c&&b) t [y]/\BX (c&&!b) t [z] | _=>False)
 |o=>BX c t o.args
theorem Uh(b:Bool)(X Y:Aa):(Cg b X Y).v=bif b then unv X else unv Y:=by
 unfold Cg;split
 ·rename_i p q h1 h2;cases b<;>simp[Req.when,h1,h2]
 ·rename_i k p k' q h1 h2;split
  ·rename_i e;subst e;cases b<;>simp[Req.when,h1,h2]
  ·cases b<;>simp[Req.when,h1,h2]
 ·cases b<;>simp[Req.when]
theorem OA(b:Bool)(X Y:Aa):(Cg b X Y).out=none:=by unfold Cg;split<;>(try split)<;>rfl
theorem ZK{c:Bool}{t:List Aa}{l:List Ad}(h:BX c t l){n:Nat}(hn:Ad.t n∈l):unc c (t.getD n .top):=by
 induction l with
 |nil=>cases hn
 |cons x r ih =>
  cases hn with
  |head=>exact h.1
  |tail _ hn=>cases x<;>first|exact ih h.2 hn|exact ih h hn
def only(tm:List Nat)(t:List Aa):List Aa:=t.zipIdx.map fun x=>if x.2∈tm then unv x.1 else .top
theorem ZL(tm:List Nat)(t:List Aa)(n:Nat)(hn:n∈tm):(only tm t).getD n .top=unv (t.getD n .top):=by
 simp only[only,List.getD,FM,List.getElem?_zipIdx];cases h:t[n]? with
 |none=>rfl
 |some x=>simp[hn]
theorem ZM{g:Gh}{w:World}{t:List Aa}{a:List Value}{c:Bool}(ht:RVs g w t a)(hc:c=true){l:List Ad}(hu:BX c t l)(tm:List Nat)(nU:∀n∈tm,Ad.t n∈l):RVs g w (only tm t) a:=by
 refine⟨by simp[only,ht.1],fun i x v hx hv=>?_⟩;simp only[only,FM,List.getElem?_zipIdx,Option.map_map]at hx;cases h:t[i]? with
 |none=>simp[h]at hx
 |some y =>
  simp only[h,Dp,Function.comp,Ce,Bd]at hx;subst hx;split
  ·rename_i hi;have iJ:=ZK hu (nU i hi);have e:t.getD i .top=y:=by simp[List.getD,h]
   rw[e]at iJ;exact DJ (ht.2 i y v h hv) iJ hc
  ·exact .top v
theorem JN{l:List Ad}{n:Nat}(h:n∈CH l):Ad.t n∈l:=by
 induction l with
 |nil=>cases h
 |cons x r ih =>
  cases x with
  |t m =>
   simp only[CH,AM]at h;rcases h with rfl|h
   ·simp
   ·exact Cv _ (ih h)
  |c v=>exact Cv _ (ih h)
  |g i=>exact Cv _ (ih h)
def OB(E:Nat->Aa)(ρ:Option Nat)(P:Program)(ops:Array Oper)(o:Oper)(t0:List Aa)(h0:Aw)(tm:List Tmp)(rd:List Nat)(v:Aa)(out:Option (Nat×Ak)):Prop :=
 ∀(g:Gh) (a:Act) (w:World) (S:Av),SR E g S a w->(∀x∈tm,S.t.getD x .top=t0.getD x .top)->(∀j∈rd,S.h j=h0 j) -> ∀(K:Act->World->Prop) (Q:Exit->Act->World->Prop),(∀g' a' w',SR E g' ⟨putT S.t o.dst v,putH S.h out,S.ds⟩ a' w'->Stp g S.h w g' (putH S.h out) w'->K a' w') ->
  if Region.wanted o (yielded ops a.tmps) then o.wpIn (FW ρ) 0 P a w K Q else(∀f,o.about P w a.eval=some f->(FW ρ).fn f)/\K (a.put o.dst undef) w
theorem Ui{S:Av}{g g':Gh}{w w':World}{out:Option (Nat×Ak)}(hs:∀D∈S.ds,S.h D.1=.dfr D.2)(hout:∀i ob,out=some (i,ob)->(S.h i).plain):∀D∈S.ds,putH S.h out D.1=.dfr D.2:=by
 intro D hD;cases out with
 |none=>exact hs D hD
 |some x =>
  obtain⟨i,ob⟩:=x;have hp:=hout i ob rfl;have aI:D.1≠i:=fun e=>by rw[<-e,hs D hD]at hp;exact hp
  simp only[putH,hset,Aj aI];exact hs D hD
theorem L8{o:Oper}{g:Gh}{a:Act}{w:World}{S:Av}{r:Req}(hs:SR E g S a w)(hd:∀c,o.op≠.defer c)(hr:Ran E P (execOp a.eval o) g S.h w r)(hout:∀i ob,r.out=some (i,ob)->(S.h i).plain){K:Act->World->Prop} {Q:Exit->Act->World->Prop} {y:Aa} (hy:∀g' w' v,RV g' w' r.v v->RV g' w' y v)(hK:∀g' a' w',SR E g' ⟨putT S.t o.dst y,putH S.h r.out,S.ds⟩ a' w'->Stp g S.h w g' (putH S.h r.out) w'->K a' w'):o.wpIn (FW ρ) 0 P a w K Q:=by
 obtain⟨n,v,w',g',aG,hn,hv,H',st,_⟩:=hr;refine⟨fun f _=>trivial,?_⟩;rw[Oper.semAt_eq _ _ _ hd,aG];have key:K (a.put o.dst v) w':=by refine hK g' _ w' ⟨H',JL (hs.tm.mono st.le) o.dst (hy _ _ _ hv),?_,Ui (g:=g) (g':=g') (w:=w) (w':=w') hs.dk hout,hs.dn⟩ st;rw[JM,hs.df];refine HA fun D hD=>?_;have h1:=hs.hr.ep D.1;have h2:=H'.ep D.1;have h3:=Ui (g:=g) (g':=g') (w:=w) (w':=w') hs.dk hout D hD;rw[hs.dk D hD]at h1;rw[h3]at h2;rw[(st.le.same D.1 (h2.trans h1.symm)).1]
 rcases hn with rfl|⟨rfl,rfl⟩
 ·exact key
 ·exact key
theorem OC{ops:Array Oper}{o:Oper}(h:o.guard=none)(f:Nat->Option Bool):Region.wanted o f=true:=by simp[Region.wanted,h]
theorem ZN{t t0:List Aa}{l:List Ad}(h:∀x∈CH l,t.getD x .top=t0.getD x .top):∀y∈l,Ag E t y=Ag E t0 y:=by
 intro y hy;cases y with
 |t n=>exact h n (L7 hy)
 |c v=>rfl
 |g i=>rfl
theorem ZO{ops:Array Oper}{o:Oper}{ao:Ax}{t0:List Aa}{h0:Aw}(hc:Fp P o.op ao.op=true)(hk:Ax.Ok P ops o ao)(hg:ao.guard=none)(aB:(ao.op.req (Ag E t0) h0).ok) :
  OB E ρ P ops o t0 h0 (CH ao.op.args) (ao.op.req (Ag E t0) h0).rd (ao.op.req (Ag E t0) h0).v (ao.op.req (Ag E t0) h0).out:=by
 intro g a w S hs ht hh K Q hK;have fR:o.guard=none:=by have:=hk.grd;rw[hg]at this;exact this
 rw[An (OC (ops:=ops) fR _)];have e1:ao.op.req (Ag E S.t) S.h=ao.op.req (Ag E t0) S.h:=JD ao.op (ZN ht);have e2:ao.op.req (Ag E t0) S.h=ao.op.req (Ag E t0) h0:=JF ao.op aB hh;have e:=e1.trans e2;have hr:=Ue (E:=E) (P:=P) (t:=S.t) hs.hr hs.tm hc (by rw[e];exact aB);rw[e]at hr;refine L8 hs (Uf hc) hr (fun i ob ho=>?_) (fun _ _ _ h=>h) hK;obtain⟨hp,hm⟩:=Ia ao.op aB ho;rw[hh i hm];exact hp
theorem Uj{ops:Array Oper}{o:Oper}{ao:Ax}{t0:List Aa}{h0:Aw}{tg:Tmp}{want c:Bool}(hc:Fp P o.op ao.op=true)(hk:Ax.Ok P ops o ao)(hg:ao.guard=some (tg,want))(be:Cj (t0.getD tg .top) want=some c) (aB:c=true->ao.op.unAll E c t0/\(ao.op.req (argU E t0) h0).ok) :
  OB E ρ P ops o t0 h0 (tg :: CH ao.op.args) (ao.op.req (argU E t0) h0).rd (.cnd c (ao.op.req (argU E t0) h0).v) (bif c then(ao.op.req (argU E t0) h0).out else none):=by
 intro g a w S hs ht hh K Q hK;have fR:=hk.grd;rw[hg]at fR;obtain⟨j,ld,gU⟩:=fR
 have cE:Region.wanted o (yielded ops a.tmps)=c:=by
  have h1:=Ug (hs.tm.getD tg) (by rw[ht tg (BG ..)];exact be);rw[<-h1]
  have hy:yielded ops a.tmps j=O9 (a.tmps.getD tg undef):=by
   simp only[yielded,gU,Option.bind_some];by_cases hl:tg<a.tmps.size
   ·have e:a.tmps.getD tg undef=a.tmps[tg]:=(by simp[Array.getD,hl]);rw[DE hl,e];cases a.tmps[tg]<;>rfl
   ·have e:a.tmps.getD tg undef=undef:=(by simp[Array.getD,hl]);rw[Array.getElem?_eq_none (Nat.le_of_not_lt hl),e];rfl
  simp only[Region.wanted,ld,hy]
 cases c with
 |false =>rw[cE];simp only[Ju,Dk];refine⟨fun f _=>trivial,hK g _ w ⟨hs.hr,JL hs.tm o.dst (.cnd _ _ _ (fun e=>by cases e) (fun _=>rfl)),by rw[JM];exact hs.df,hs.dk,hs.dn⟩ (.refl _ _ _)⟩
 |true =>
  rw[cE];simp only[Ci];obtain⟨hu,aB⟩:=aB rfl;have iK:∀x∈CH ao.op.args,S.t.getD x .top=t0.getD x .top:=fun x hx=>ht x (Cv _ hx)
  have agree:∀l:List Ad,(∀x∈CH l,S.t.getD x .top=t0.getD x .top)->∀d,BX d t0 l->BX d S.t l:=by
   intro l;induction l with
   |nil=>intro _ _ _;trivial
   |cons y r ih =>
    intro hl d hu;cases y with
    |t n=>exact⟨by rw[hl n (by simp[CH])];exact hu.1,ih (fun x hx=>hl x (by simp[CH,hx])) d hu.2⟩
    |c v=>exact ih hl d hu
    |g i=>exact ih hl d hu
  have hr:Ran E P (execOp a.eval o) g S.h w (ao.op.req (argU E t0) h0):=by
   by_cases js:∃x y z,ao.op=.pick x y z
   ·obtain⟨x,y,z,aL⟩:=js;rw[aL]at hu hc iK |-;simp only[Al.unAll]at hu;obtain⟨nW,iL⟩:=hu
    have known:∀(d:Bool) (yy:Ad) (oo:Operand),d=true->(∀n∈CH [yy],S.t.getD n .top=t0.getD n .top)->BX d t0 [yy]->AA oo yy=true->RV g w (argU E t0 yy) (a.eval oo):=by
     intro d yy oo hd hl kj eZ;have h1:=AQ hs.hr hs.tm eZ;cases yy with
     |t n =>have e:S.t.getD n .top=t0.getD n .top:=hl n (by simp[CH]);simp only[Ag]at h1;rw[e]at h1;exact DJ h1 (show unc d (t0.getD n .top) from kj.1) hd
     |c v=>exact h1
     |g i=>exact h1
    have nX:∃c0 x0 y0,o.op=.pick c0 x0 y0/\AA c0 x=true/\AA x0 y=true/\AA y0 z=true:=by
     generalize o.op=op at hc;cases op<;>simp only[Fp]at hc<;>(try (cases hc;done))
     case pick c0 x0 y0 =>simp only[AF]at hc;exact⟨_,_,_,rfl,hc.1.1,hc.1.2,hc.2⟩
    obtain⟨c0,x0,y0,ho,nY,nZ,oa⟩:=nX;have mU:=known true x c0 rfl (fun n hn=>iK n (by have:=JN hn;exact L7 (by simp only[Al.args,AM,HB,HE]at this |-;exact .inl this))) nW nY;simp only[Al.req];split at iL
    ·rename_i b hb;rw[hb]at mU |-;have e:=DI mU;have aG:(execOp a.eval o).run P w=.ok (.value (if b=true then a.eval x0 else a.eval y0)) w:=by simp[execOp,ho,e,asBool]
     have hv:RV g w (Cg b (argU E t0 y) (argU E t0 z)).v (if b=true then a.eval x0 else a.eval y0):=by
      rw[Uh];have uu:∀yy:Ad,∀vv,unc true (argU E t0 yy)->RV g w (argU E t0 yy) vv->RV g w (unv (argU E t0 yy)) vv:=fun yy vv h1 h2=>DJ h2 h1 rfl;have lg:(Cg b (argU E t0 y) (argU E t0 z)).ok:=by have:=aB;rw[aL]at this;simp only[Al.req,hb]at this;exact this
      have kj:unc b (argU E t0 y)/\unc (!b) (argU E t0 z):=by
       revert lg;unfold Cg;split
       ·exact id
       ·split<;>exact id
       ·exact id
      cases b with
      |true =>exact uu y _ kj.1 (known true y x0 rfl (fun n hn=>iK n (by have:=JN hn;exact L7 (by simp only[Al.args,AM,HB,HE]at this |-;exact .inr (.inl this)))) (by simpa using iL.1) nZ)
      |false =>exact uu z _ kj.2 (known true z y0 rfl (fun n hn=>iK n (by have:=JN hn;exact L7 (by simp only[Al.args,AM,HB,HE]at this |-;exact .inr (.inr this)))) (by simpa using iL.2) oa)
     exact⟨_,_,w,g,aG,.inl rfl,hv,by rw[OA];exact hs.hr,by rw[OA];exact .refl _ _ _,fun _=>⟨rfl,rfl⟩⟩
    ·exact iL.elim
   ·have lh:BX true t0 ao.op.args:=by
     cases aL:ao.op<;>rw[aL]at hu<;>first|exact hu|exact absurd ⟨_,_,_,aL⟩ js
    have iJ:BX true S.t ao.op.args:=agree _ iK _ lh;have bI:=ZM hs.tm rfl iJ (CH ao.op.args) (fun n hn=>JN hn)
    have e0:ao.op.req (Ag E (only (CH ao.op.args) S.t)) S.h=ao.op.req (argU E t0) S.h:=by
     refine JD ao.op fun y hy=>?_;cases y with
     |t n=>simp only[Ag,argU];rw[ZL _ _ _ (L7 hy),iK n (L7 hy)]
     |c v=>rfl
     |g i=>rfl
    have e2:ao.op.req (argU E t0) S.h=ao.op.req (argU E t0) h0:=JF ao.op aB hh;have e:=e0.trans e2;have hr:=Ue (E:=E) (P:=P) hs.hr bI hc (by rw[e];exact aB);rw[e]at hr;exact hr
  exact L8 hs (Uf hc) hr (fun i ob ho=>by obtain⟨hp,hm⟩:=Ia ao.op aB ho;rw[hh i hm];exact hp) (fun _ _ _ h=>.cnd _ _ _ (fun _=>h) (fun e=>by cases e)) hK
theorem ZP{ops:Array Oper}{o:Oper}{ao:Ax}{t0:List Aa}{h0:Aw}{tg:Tmp}{want c:Bool}(hc:Fp P o.op ao.op=true)(hk:Ax.Ok P ops o ao)(hg:ao.guard=some (tg,want))(be:Cj (t0.getD tg .top) want=some c) (cy:∀i ob,(ao.op.req (argU E t0) h0).out=some (i,ob)->ob=h0 i) (aB:c=true->ao.op.unAll E c t0/\(ao.op.req (argU E t0) h0).ok) :
  OB E ρ P ops o t0 h0 (tg :: CH ao.op.args) (ao.op.req (argU E t0) h0).rd (.cnd c (ao.op.req (argU E t0) h0).v) none:=by
 intro g a w S hs ht hh K Q hK
 have e3:putH S.h (bif c then(ao.op.req (argU E t0) h0).out else none)=S.h:=by
  cases c with
  |false=>rfl
  |true =>
   show putH S.h (ao.op.req (argU E t0) h0).out=S.h;cases ho:(ao.op.req (argU E t0) h0).out with
   |none=>rfl
   |some q =>
    obtain⟨i,ob⟩:=q;have e1:=cy i ob ho;have e2:=hh i (Ia ao.op (aB rfl).2 ho).2;funext j;show hset S.h i ob j=S.h j;simp only[hset];split
    ·rename_i ej;rw[ej,e1,e2]
    ·rfl
 exact Uj hc hk hg be aB g a w S hs ht hh K Q (by rw[e3];exact hK)
def CU(t:List Aa):List Tmp->List Aa->List Aa
 |p :: ps,v :: vs=>CU (t.set p v) ps vs
 |_,_=>t
section
variable {E:Nat->Aa}{P:Program}{ρ:Option Nat}
theorem HR.loopAt{g:Gh}{h:Aw}{w:World}{id ep:Nat}{st:LoopState}{pd:Option Code}{ts:List Aa}{ps:Array Tmp}{asg body:Code}{D eD:Nat}(H:HR E g h w)(hid:h id=.loop ep st pd ts ps asg body D eD) :
  ∃r:Loop,w.heap[g.blk id]?=some (.loop r)/\r.state=st/\r.pending=pd/\r.params=ps/\r.assign=asg/\r.body=body/\RVs g w ts r.tmps.toList /\
   ∀st' pd',HR E g (hset h id (.loop ep st' pd' ts ps asg body D eD)) (w.putObj (g.blk id) (.loop { r with state:=st',pending:=pd' })) /\
    Stp g h w g (hset h id (.loop ep st' pd' ts ps asg body D eD)) (w.putObj (g.blk id) (.loop { r with state:=st',pending:=pd' })):=by
 have hO:=H.obj id;rw[hid]at hO;obtain⟨hD,tmps,f,bD,eD',hh,hr⟩:=hO;refine⟨_,hh,rfl,rfl,rfl,rfl,rfl,hr,fun st' pd'=>?_⟩;have aU:(h id).owned=true:=by rw[hid];rfl
 have hlt:g.blk id<w.heap.size:=(CP.1 hh).1;have aE:GLe g w g (w.putObj (g.blk id) (.loop { state:=st',pending:=pd',fn:=f,tmps,params:=ps,assign:=asg,body,defers:=bD })):=by refine⟨fun b hb=>⟨hb,?_⟩,fun _=>AC _,fun _ _=>⟨rfl,rfl,rfl,rfl⟩⟩;exact World.putObj_heap_other (fun e=>H.sep id aU (e▸hb))
 refine HR.upd (g':=g) H aE (fun _ _=>rfl) (by rw[H.ep id,hid];rfl) (fun b hb hn=>World.putObj_heap_other (hn aU)) (by simp) ?_ (fun _=>.inl ⟨aU,rfl⟩) (fun _=>H.sep id aU) (fun b hb=>.inl hb) (fun b hb=>by simpa using H.fzb b hb) rfl rfl rfl;exact⟨hD,tmps,f,bD,eD',World.putObj_heap_same hlt,hr.mono aE⟩
def ZQ(id ep:Nat)(ts:List Aa)(ps:Array Tmp)(asg body:Code)(D eD:Nat)(K:Aa->Aw->Prop):Exit->Av->Prop
 |.normal,S=>(∃pd,S.h id=.loop ep .busy pd ts ps asg body D eD)/\K (.bool true) (hset S.h id (.loop ep .ready none ts ps asg body D eD))
 |.ret,S=>(∃pd,S.h id=.loop ep .busy pd ts ps asg body D eD)/\K (.bool false) (hset S.h id (.loop ep .done (some .ret) ts ps asg body D eD))
 |.exit i,S=>(∃pd,S.h id=.loop ep .busy pd ts ps asg body D eD)/\K (.bool false) (hset S.h id (.loop ep .done (some (.exit i)) ts ps asg body D eD))
 |_,_=>False
def BQ(E:Nat->Aa)(P:Program)(id ep:Nat)(args:List Aa)(h:Aw)(K:Aa->Aw->Prop):Prop := ∃ts ps asg body D eD,h id=.loop ep .ready none ts ps asg body D eD/\args.length=ps.size /\ ∀ρ,AWp E ρ P asg (fun e S1=>e=.normal/\S1.h id=.loop ep .ready none ts ps asg body D eD/\AWp E ρ P body (ZQ id ep ts ps asg body D eD K) ⟨S1.t,hset S1.h id (.loop ep .busy none ts ps asg body D eD),S1.ds⟩) ⟨CU ts ps.toList args,h,[]⟩
theorem Uk{g:Gh}{w:World}:∀{ps:List Tmp} {args:List Aa} {vs:List Value} {ts:List Aa} {arr:Array Value},RVs g w ts arr.toList->RVs g w args vs->RVs g w (CU ts ps args) ((ps.zip vs).foldl (fun(tmps:Array Value) (x:Tmp×Value)=>tmps.setIfInBounds x.1 x.2) arr).toList
 |[],args,vs,ts,arr,h,_=>by simpa [CU] using h
 |p :: ps,[],vs,ts,arr,h,hv=>by
  have:vs=[]:=by have:=hv.1;simpa using this
  subst this;simpa [CU] using h
 |p :: ps,x :: args,[],ts,arr,h,hv=>by have:=hv.1;simp at this
 |p :: ps,x :: args,v :: vs,ts,arr,h,hv=>by
  have h1:RVs g w (ts.set p x) (arr.setIfInBounds p v).toList:=by rw[Array.toList_setIfInBounds];exact h.set p (hv.2 0 x v rfl rfl)
  have h2:RVs g w args vs:=⟨by have:=hv.1;simpa using this,fun i y u hy hu=>hv.2 (i+1) y u (by simpa using hy) (by simpa using hu)⟩;have:=Uk (ps:=ps) h1 h2;simpa [CU] using this
theorem ZR(ps:Array Tmp)(vs:List Value)(arr:Array Value):(ps.zip vs.toArray).foldl (fun(tmps:Array Value) (x:Tmp×Value)=>tmps.setIfInBounds x.1 x.2) arr=(ps.toList.zip vs).foldl (fun(tmps:Array Value) (x:Tmp×Value)=>tmps.setIfInBounds x.1 x.2) arr:=by rw[<-Array.foldl_toList];simp
theorem JO{g g':Gh}{h h':Aw}{w w':World}{i:Nat}(H:HR E g h w)(H':HR E g' h' w')(aE:GLe g w g' w')(he:(h' i).ep=(h i).ep):g'.blk i=g.blk i := (aE.same i (by rw[H'.ep,H.ep,he])).1
theorem ZS{g:Gh}{h:Aw}{w:World}{id ep:Nat}{args:List Aa}{vs:List Value}{K:Aa->Aw->Prop}(R:BQ E P id ep args h K)(H:HR E g h w)(hv:RVs g w args vs) :
  ∃f tmps asg body,(Instr.yield (g.blk id) vs.toArray).run P w=.ok (.round (g.blk id) f tmps asg body) w /\
   RoundIn (FW ρ) 0 P (g.blk id) f tmps asg body w (fun e w'=>∃g' h' r v,K r h'/\e=.returned v/\RV g' w' r v/\HR E g' h' w'/\Stp g h w g' h' w'):=by
 obtain⟨ts,ps,asg,body,D,eD,hid,aD,hA⟩:=R;obtain⟨r,hr,e1,e2,e3,e4,e5,oc,_⟩:=H.loopAt hid;subst e3 e4 e5;have aJ:vs.toArray.size=r.params.size:=by simp[<-aD,hv.1]
 refine⟨_,_,_,_,run_yield hr aJ,roundIn_of_wpIn (YJ ρ _) ?_⟩;rw[YK];have bP:SR E g ⟨CU ts r.params.toList args,h,[]⟩ { tmps:=(r.params.zip vs.toArray).foldl (fun tmps (t,a)=>tmps.setIfInBounds t a) r.tmps,defers:=[] } w:=by refine⟨H,?_,rfl,(fun D hD=>by cases hD),List.nodup_nil⟩;have:=Uk (ps:=r.params.toList) oc hv;rw[<-ZR]at this;exact this
 refine wpIn_mono (hA (some (g.blk id)) g _ w bP) ?_;rintro e a1 w1 ⟨g1,S1,⟨rfl,gV,hB⟩,cN,st1⟩;have dr:g1.blk id=g.blk id:=JO H cN.hr st1.le (by rw[gV,hid]);obtain⟨r1,eJ,f1,f2,f3,f4,f5,od,put1⟩:=cN.hr.loopAt gV;obtain⟨H2,st2⟩:=put1 .busy none;rw[dr]at eJ H2 st2;have oe:=run_beginRound (P:=P) eJ f1;have er:({ r1 with state:=.busy,pending:=none }:Loop)={ r1 with state:=.busy }:=by rw[<-f2]
 rw[er]at H2 st2;refine⟨_,oe,?_⟩
 have cz:SR E g1 ⟨S1.t,hset S1.h id (.loop ep .busy none ts r.params r.assign r.body D eD),S1.ds⟩ a1 (w1.putObj (g.blk id) (.loop { r1 with state:=.busy })):=by
  refine⟨H2,cN.tm.mono st2.le,cN.df,fun D hD=>?_,cN.dn⟩;have hd:=cN.dk D hD;have aI:D.1≠id:=fun e=>by rw[e,gV]at hd;cases hd
  show(if D.1=id then _ else S1.h D.1)=_;rw[Aj aI];exact hd
 refine wpIn_mono (hB g1 a1 _ cz) ?_;rintro e a3 w3 ⟨g3,S3,hq,fS,st3⟩
 have fin:∀(jump:Option Code) (st':LoopState),(∃pd,S3.h id=.loop ep .busy pd ts r.params r.assign r.body D eD)->(st'=if jump.isNone then .ready else .done)->K (.bool jump.isNone) (hset S3.h id (.loop ep st' jump ts r.params r.assign r.body D eD)) -> ∃v w',(Instr.endRound (g.blk id) jump).run P w3=.ok v w'/\(∃g' h' r' v',K r' h'/\Ending.returned v=.returned v'/\RV g' w' r' v'/\HR E g' h' w'/\Stp g h w g' h' w'):=by
  rintro jump st' ⟨pd,jt⟩ rfl hK;have d9:g3.blk id=g.blk id:=by rw[<-dr];exact JO H2 fS.hr st3.le (by rw[jt];simp[hset,Ak.ep])
  obtain⟨r3,ga,_,_,_,_,_,_,put3⟩:=fS.hr.loopAt jt;obtain⟨H4,st4⟩:=put3 (if jump.isNone then .ready else .done) jump;rw[d9]at ga H4 st4;exact⟨_,_,run_endRound jump ga,g3,_,_,_,hK,rfl,.bool _,H4,st1.trans (st2.trans (st3.trans st4))⟩
 cases e with
 |normal=>exact fin none .ready hq.1 rfl hq.2
 |ret=>exact fin (some .ret) .done hq.1 rfl hq.2
 |exit i=>exact fin (some (.exit i)) .done hq.1 rfl hq.2
 |goto t=>exact hq.elim
 |panic ch=>exact hq.elim
 |outgrown=>exact hq.elim
end
end Go.Am

