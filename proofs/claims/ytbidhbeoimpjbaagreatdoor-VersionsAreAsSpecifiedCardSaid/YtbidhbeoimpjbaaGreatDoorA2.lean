/- Part A2: an abstract machine proved sound over the calculus of the guide. No condition. -/
import Derived.Test.YtbidhbeoimpjbaaGreatDoorA1
import Derived.MapKept
import Derived.Maps.RangeRun
import Derived.WideKeyRuns
import Derived.Laws.BytesString
import Derived.Laws.IdiomStrings
import Derived.Laws.MakeOwn
import Derived.Laws.CopyRow
import Derived.Lib.SliceRun
import Derived.RangeFuncIn
import Derived.RangeFuncRecord
set_option linter.unusedSimpArgs false
set_option linter.unusedVariables false
namespace Go.Am
theorem UR(off:Nat):∀(vs:List Value) (k:Nat) (cs:Array Value),off+k+vs.length<=cs.size -> ((vs.zipIdx k).foldl (fun(cs:Array Value) (x:Value×Nat)=>cs.setIfInBounds (off+x.2) x.1) cs).toList=cs.toList.take (off+k)++vs++cs.toList.drop (off+k+vs.length)
 |[],k,cs,h=>by simp
 |v :: vs,k,cs,h=>by
  simp only[Df]at h;rw[List.zipIdx_cons,List.foldl_cons,UR off vs (k+1) _ (by simp;omega)];simp only[Array.toList_setIfInBounds,Df];have e1:(cs.toList.set (off+k) v).take (off+(k+1))=cs.toList.take (off+k)++[v]:=by rw[show off+(k+1)=(off+k)+1 from by omega,List.take_succ_eq_append_getElem (by simp;omega)];simp[List.take_set_of_le]
  have e2:(cs.toList.set (off+k) v).drop (off+(k+1)+vs.length)=cs.toList.drop (off+k+(vs.length+1)):=by rw[List.drop_set_of_lt (by omega)];congr 1;omega
  rw[e1,e2];simp
section
variable {E:Nat->Aa}{P:Program}{g:Gh}{h:Ax}{w:World}{t:List Aa}{a:Act}
theorem Lz{place:Nat->Option (Nat×Nat)}{ρ:Operand->Value}{arg:Ad->Aa}(hr:∀x y,A7 x y=true->RV g w (arg y) (ρ x)):∀{ps:List (Nat×Operand)} {parts:List (Nat×Nat×Ad)} {l l':List Aa} {cs:Array Value},
  Im place ps parts=true->RVs g w l cs.toList->Cr arg l parts=some l'->∃cs':Array Value,Instr.fill place cs (ps.map fun x=>(x.1,ρ x.2))=some cs'/\RVs g w l' cs'.toList
 |[],[],l,l',cs,_,bF,hf=>by simp only[Cr,AX]at hf;subst hf;exact⟨cs,rfl,bF⟩
 |(i,x) :: ps,(off,sz,y) :: parts,l,l',cs,hp,bF,hf=>by
  simp only[Im,AE]at hp;obtain⟨⟨cQ,cU⟩,aL⟩:=hp;simp only[Cr]at hf;cases hq:Cm (arg y) with
  |none=>simp[hq]at hf
  |some p =>
   simp only[hq]at hf;split at hf
   ·rename_i bB;obtain⟨hl,aZ⟩:=bB;have hv:=PP (hr x y cU) hq;have dH:(ρ x).cells.toList.length=sz:=by rw[hv.1,hl]
    have dZ:(ρ x).cells.size=sz:=(by simpa using dH);have dx:=bF.1;cases bU:place i with
    |none=>simp[bU]at cQ
    |some os =>
     obtain⟨o,s⟩:=os;simp only[bU,AE,Bq]at cQ;obtain⟨rfl,rfl⟩:=cQ;have kC:RVs g w (lay l o p) ((ρ x).cells.zipIdx.foldl (fun(cs:Array Value) (x:Value×Nat)=>cs.setIfInBounds (o+x.2) x.1) cs).toList:=by have e:=UR o (ρ x).cells.toList 0 cs (by simp at dx dH |-;omega);have e':(ρ x).cells.zipIdx.foldl (fun(cs:Array Value) (x:Value×Nat)=>cs.setIfInBounds (o+x.2) x.1) cs=((ρ x).cells.toList.zipIdx 0).foldl (fun(cs:Array Value) (x:Value×Nat)=>cs.setIfInBounds (o+x.2) x.1) cs:=(by rw[<-Array.foldl_toList];simp);rw[e',e];exact bF.lay hv o (by omega)
     obtain⟨cs'',h1,h2⟩:=Lz hr aL kC hf;refine⟨cs'',?_,h2⟩;simp only[HZ,Instr.fill,bU];have hc:¬((ρ x).cells.size≠s\/o+(ρ x).cells.size>cs.size):=by simp at dx;omega
     simp only[ne_eq,gt_iff_lt,Fz,BB]at hc |-;rw[Aj hc];exact h1
   ·cases hf
 |[],_ :: _,_,_,_,hp,_,_=>by cases hp
 |_ :: _,[],_,_,_,hp,_,_=>by cases hp
theorem US(w:World):∀{fs:List Field} {l:List (Nat×Nat)},Hd P fs=some l->(fs.mapM (fun f=>do pure (f.offset,<-sizeOf f.type):Field->Sem (Nat×Nat))).run P w=.ok l w
 |[],l,h=>by simp only[Hd,AX]at h;subst h;simp
 |f :: fs,l,h=>by
  simp only[Hd]at h;split at h
  ·rename_i n l' hn fU;obtain rfl:=BA h;have ih:=US w fU;simp only[List.mapM_cons,Sem.run_bind,Ip hn,Result.andThen_ok,Sem.run_pure,ih]
  ·cases h
theorem so{ty:TypeId}{zero:List Aa}(hz:Il P ty zero=true)(w:World):∃z,(zeroValue ty).run P w=.ok z w/\Ik z.cells.toList zero=true/\Em P ty=some z.cells.toList:=by
 unfold Il at hz;cases hc:Em P ty with
 |none=>simp[hc]at hz
 |some l =>
  simp only[hc]at hz;unfold Em at hc;cases hi:P.info? ty with
  |none=>simp[hi]at hc
  |some i =>
   obtain⟨⟩:=i;rename_i zz _ _;cases zz with
   |none=>simp[hi]at hc
   |some z =>simp only[hi,AX]at hc;subst hc;exact⟨z,by simp[zeroValue,typeInfo,hi],hz,rfl⟩
theorem su{o:Oper}{ty:TypeId}{ps:Array (Nat×Operand)}{zero:List Aa}{parts:List (Nat×Nat×Ad)}(H:HR E g h w)(ht:RVs g w t a.tmps.toList)(ho:o.op=.build ty ps)(hb:PN P ty zero ps.toList parts=true)(aB:((Ak.build zero parts).req (Ag E t) h).ok):Ran E P (execOp a.eval o) g h w ((Ak.build zero parts).req (Ag E t) h):=by
 simp only[Ak.req]at aB |-;cases hf:Cr (Ag E t) zero parts with
 |none=>simp only[hf,Req.fail]at aB
 |some l =>
  unfold PN at hb;simp only[AE]at hb;obtain⟨hz,hb⟩:=hb;obtain⟨z,fN,dK,_⟩:=so hz w;have dB:(ps.map fun x=>(x.1,a.eval x.2)).toList=ps.toList.map fun x=>(x.1,a.eval x.2):=by simp
  cases hu:P.underlying ty with
  |none=>simp[hu]at hb
  |some d =>
   simp only[hu]at hb;cases d<;>(try (cases hb;done))
   case struct fs =>
    simp only at hb;cases iW:Hd P fs.toList with
    |none=>simp[iW]at hb
    |some pl =>
     simp only[iW]at hb;obtain⟨cs',h1,h2⟩:=Lz (fun x y cU=>AO H ht cU) hb (Ll dK) hf;refine Ran.same H (v:=.agg cs') ?_ (.agg _ _ (by simpa using h2.1) (fun i x v hx hv=>h2.2 i x v hx (by simpa using hv)));have nv:(fs.mapM (fun f=>do pure (f.offset,<-sizeOf f.type):Field->Sem (Nat×Nat))).run P w=.ok pl.toArray w:=by rw[Array.mapM_eq_mapM_toList];have e:=US w iW;simp only[Sem.run_map,e,Result.andThen_ok]
     have cQ:(fun i:Nat=>pl.toArray[i]?)=(fun i:Nat=>pl[i]?):=(by funext i;simp);simp only[execOp,ho,Sem.run_bind,Instr.build,fN,Result.andThen_ok,run_underlying hu,nv,dB,cQ,h1,Sem.run_pure]
   case array n e =>
    simp only at hb;cases hs:szOf P e with
    |none=>simp[hs]at hb
    |some st =>simp only[hs]at hb;obtain⟨cs',h1,h2⟩:=Lz (fun x y cU=>AO H ht cU) hb (Ll dK) hf;refine Ran.same H (v:=.agg cs') ?_ (.agg _ _ (by simpa using h2.1) (fun i x v hx hv=>h2.2 i x v hx (by simpa using hv)));simp only[execOp,ho,Sem.run_bind,Instr.build,fN,Result.andThen_ok,run_underlying hu,Ip hs,dB,h1,Sem.run_pure]
theorem PS{st:Nat}:∀(n:Nat) (l:List Aa) (k:Nat),l.length=n*st->k<n->(EG st n l).getD k []=(l.drop (k*st)).take st
 |0,l,k,_,hk=>by omega
 |n+1,l,0,hl,_=>by simp[EG]
 |n+1,l,k+1,hl,hk=>by
  have e:(n+1)*st=n*st+st:=Ei n st;have fU:(l.drop st).length=n*st:=by simp;omega
  have:=PS n (l.drop st) k fU (by omega);simp only[EG,List.getD_cons_succ,this,Lq];congr 2;have e:(k+1)*st=k*st+st:=Ei k st;omega
theorem L0{g':Gh}{s n b:Nat}(hb:g'.blk s=b)(h0:g'.bo s=0)(hc:g'.cp s=n){m:Nat}(hm:m<=n):Ls g' s 0 m (.slice (some ⟨b,0,none⟩) m n) := ⟨⟨b,0,none⟩,n,rfl,hm,.inr ⟨by rw[hb,h0];simp,by omega⟩⟩
theorem UT{o:Oper}{ty:TypeId}{n st nn:Nat}{ps:Array (Nat×Operand)}{zero:List Aa}{parts:List (Nat×Nat×Ad)}(H:HR E g h w)(ht:RVs g w t a.tmps.toList)(ho:o.op=.buildSlice ty n ps)(hb:Io P ty n st nn zero ps.toList parts=true){l:List Aa} (hf:Cr (Ag E t) zero parts=some l) (hl:l.length=nn*st) :
  n=nn/\∃(e:TypeId) (cs':Array Value),RVs g w l cs'.toList/\cs'.size=n*st/\(execOp a.eval o).run P w=.ok (.value (.slice (some ⟨w.heap.size,0,none⟩) n n)) { w with heap:=w.heap.push (.cells cs' e (0,0)) }:=by
  unfold Io at hb;simp only[AE,Bq,BB]at hb;obtain⟨⟨rfl,nw⟩,hb⟩:=hb;refine⟨rfl,?_⟩;have dB:(ps.map fun x=>(x.1,a.eval x.2)).toList=ps.toList.map fun x=>(x.1,a.eval x.2):=by simp
  cases hu:P.underlying ty with
  |none=>simp[hu]at hb
  |some d =>
   simp only[hu]at hb;cases d<;>(try (cases hb;done))
   case slice e =>
    simp only[AE,Bq]at hb;obtain⟨⟨hs,hz⟩,hp⟩:=hb;cases dK:Em P e with
    |none=>simp[dK]at hz
    |some z0 =>
     simp only[dK,AE,BB]at hz;obtain⟨hz,dL⟩:=hz
     have cW:∃zc:Array Value,(if n*st=0 then pure #[] else do pure (<-zeroValue e).cells:Sem (Array Value)).run P w=.ok zc w/\RVs g w zero ((Array.range (n*st)).map (zc[·%zc.size]!)).toList:=by
      unfold Em at dK;cases hi:P.info? e with
      |none=>simp[hi]at dK
      |some i =>
       obtain⟨⟩:=i;rename_i zz _ _;cases zz with
       |none=>simp[hi]at dK
       |some z =>
        simp only[hi,AX]at dK;subst dK;by_cases e0:n*st=0
        ·refine⟨#[],?_,?_⟩;·rw[Ap e0];simp
         ·rw[e0]at hz |-;simpa [In] using Ll (g:=g) (w:=w) hz
        ·refine⟨z.cells,?_,?_⟩;·rw[Aj e0];simp[zeroValue,typeInfo,hi]
         ·have:=Ll (g:=g) (w:=w) hz
          have eq:((Array.range (n*st)).map (z.cells[·%z.cells.size]!)).toList=In z.cells.toList (n*st):=by
           simp only[In,Array.toList_map,Array.toList_range,Array.length_toList];apply Ie;intro i hi;have cj:0<z.cells.size:=by simpa using dL
           have hlt:i%z.cells.size<z.cells.size:=Ga _ cj;simp[List.getD,hlt,getElem!_pos]
          rw[eq];exact this
     obtain⟨zc,cm,kD⟩:=cW;obtain⟨cs',mi,gv⟩:=Lz (fun x y cU=>AO H ht cU) hp kD hf;have aD:cs'.size=n*st:=by have:=gv.1;simp at this;omega
     have aG:(execOp a.eval o).run P w=.ok (.value (.slice (some ⟨w.heap.size,0,none⟩) n n)) { w with heap:=w.heap.push (.cells cs' e (0,0)) }:=by
      have gw:¬(n*st>2 ^ 24):=(by omega);by_cases e0:n*st=0
      ·rw[Ap e0]at cm;simp only[Sem.run_pure,Result.ok.injEq,and_true]at cm;subst cm;simp only[execOp,ho,Sem.run_bind,Instr.buildSlice,run_underlying hu,Result.andThen_ok,Ip hs,Aj gw,Ap e0,dB,Sem.run_pure,mi,newRow,run_newObj]
      ·rw[Aj e0]at cm;simp only[Sem.run_bind]at cm;generalize hq:(zeroValue e).run P w=q at cm;cases q with
       |halt x y=>simp at cm
       |ok zv w1 =>simp only[Result.andThen_ok,Sem.run_pure,Result.ok.injEq]at cm;obtain⟨rfl,rfl⟩:=cm;simp only[execOp,ho,Sem.run_bind,Instr.buildSlice,run_underlying hu,Result.andThen_ok,Ip hs,Aj gw,Aj e0,dB,Sem.run_pure,hq,mi,newRow,run_newObj]
     exact⟨e,cs',gv,aD,aG⟩
theorem sw{o:Oper}{ty:TypeId}{n st nn s:Nat}{ps:Array (Nat×Operand)}{zero:List Aa}{parts:List (Nat×Nat×Ad)}(H:HR E g h w)(ht:RVs g w t a.tmps.toList)(ho:o.op=.buildSlice ty n ps)(hb:Io P ty n st nn zero ps.toList parts=true)(aB:((Ak.bslice s st nn zero parts).req (Ag E t) h).ok):Ran E P (execOp a.eval o) g h w ((Ak.bslice s st nn zero parts).req (Ag E t) h):=by
 simp only[Ak.req]at aB |-;cases hf:Cr (Ag E t) zero parts with
 |none=>simp only[hf,Req.fail]at aB
 |some l =>
  simp only[hf]at aB |-;obtain⟨_,hl,aI,h1⟩:=aB;obtain⟨rfl,e,cs',gv,aD,aG⟩:=UT H ht ho hb hf hl;refine Ran.new (ob:=.cells cs' e (0,0)) (bo:=0) (st:=st) (cp:=n) H ⟨w,rfl,rfl,rfl,rfl,AB _,aG⟩ rfl ?_;intro g' w' aE aK cH cn c9 aN;refine⟨⟨cn,aI,by omega,cs',e,by rw[aK];exact aN,by rw[cH,c9,aD];omega,fun k hk=>?_⟩,fun he=>?_⟩
  ·have bA:=PS n l k hl hk;have jV:k*st+st<=n*st:=by have:(k+1)*st<=n*st:=Bp _ (by omega);rw[Ei]at this;exact this
   show((EG st n l).getD k []).length=st/\∀(j:Nat) (x:Aa) (v:Value),((EG st n l).getD k [])[j]?=some x->cs'[g'.bo s+k*st+j]?=some v->v.oneCell'=true/\RV g' w' x v;rw[bA];refine⟨by simp;omega,fun j x v hx hv=>?_⟩;rw[FX]at hx;split at hx
   ·rw[F3]at hx;rw[cH,Cx]at hv;have db:cs'.toList[k*st+j]?=some v:=by simpa using hv
    exact⟨Hf gv h1 v (Dx db),(gv.2 _ x v hx db).mono aE⟩
   ·cases hx
  ·refine .vec _ _ _ _ _ rfl (by rw[he];exact AB _) (fun _=>L0 aK cH c9 (AB _))
end
section
variable {E:Nat->Aa}{P:Program}{g:Gh}{h:Ax}{w:World}{t:List Aa}{a:Act}
theorem Gi{ft:TypeId}{agg:Bool}{sz:Nat}(hq:yzl P ft=some agg)(hs:agg=true->szOf P ft=some sz)(h1:agg=false->sz=1)(w:World)(cs:Array Value)(off:Nat)(hb:off+sz<=cs.size) : (part ft cs off).run P w=.ok (if agg then .agg ((cs.toList.drop off).take sz).toArray else((cs.toList.drop off).take sz).getD 0 undef) w:=by
 simp only[part,Sem.run_bind,UH hq,Result.andThen_ok];cases agg with
 |true =>
  have e:cs.extract off (off+sz)=((cs.toList.drop off).take sz).toArray:=by apply Array.ext';simp[Array.toList_extract,List.extract]
  simp[Ip (hs rfl),e]
 |false =>
  obtain rfl:=h1 rfl;have:off<cs.size:=by omega
  simp[this,List.getD]
theorem sx{o:Oper}{ty ft:TypeId}{f off sz:Nat}{agg:Bool}{x:Operand}{x':Ad}(H:HR E g h w)(ht:RVs g w t a.tmps.toList)(ho:o.op=.field ty x f)(hx:A7 x x'=true)(hf:FD P ty f=some (off,ft)) (hq:yzl P ft=some agg) (hs:agg=true->szOf P ft=some sz)(aB:((Ak.field agg off sz x').req (Ag E t) h).ok):Ran E P (execOp a.eval o) g h w ((Ak.field agg off sz x').req (Ag E t) h):=by
 have rx:=AO H ht hx;simp only[Ak.req]at aB |-;generalize Ag E t x'=X at *;cases X<;>simp only[Req.fail]at aB;rename_i l;obtain⟨hb,h1⟩:off+sz<=l.length/\(agg=false->sz=1):=aB;generalize hv:a.eval x=v at rx;cases rx with
 |agg _ arr hn hr =>
  have bV:RVs g w l arr.toList:=⟨by simpa using hn,fun i x v hx hv=>hr i x v hx (by simpa using hv)⟩;unfold FD at hf;split at hf
  ·rename_i fs hu;cases kE:fs[f]? with
   |none=>simp[kE]at hf
   |some fld =>simp only[kE,Ek,AX,DL]at hf;obtain⟨rfl,rfl⟩:=hf;refine Ran.same H (v:=if agg then .agg ((arr.toList.drop fld.offset).take sz).toArray else((arr.toList.drop fld.offset).take sz).getD 0 undef) ?_ (Lw bV h1 hb);simp only[execOp,ho,hv,Sem.run_bind,Instr.field,run_underlying hu,Result.andThen_ok,kE,asAgg,Sem.run_pure,Gi hq hs h1 w arr fld.offset (by omega)]
  ·cases hf
theorem sy{o:Oper}{ty e:TypeId}{agg:Bool}{n sz:Nat}{x i:Operand}{x' i':Ad}(H:HR E g h w)(ht:RVs g w t a.tmps.toList)(ho:o.op=.index ty x i)(hx:A7 x x'=true)(hi:A7 i i'=true)(hu:P.underlying ty=some (.array n e)) (hq:yzl P e=some agg) (hs:szOf P e=some sz)(aB:((Ak.aidx agg n sz x' i').req (Ag E t) h).ok):Ran E P (execOp a.eval o) g h w ((Ak.aidx agg n sz x' i').req (Ag E t) h):=by
 have rx:=AO H ht hx;have ri:=AO H ht hi;simp only[Ak.req]at aB |-;generalize Ag E t x'=X at *;generalize Ag E t i'=I at *;cases X<;>(try simp only[Req.fail]at aB);rename_i l;cases I<;>simp only[Req.fail]at aB;rename_i k j;obtain⟨h0,h1,hb,h2⟩:0<=j/\j<n/\j.toNat*sz+sz<=l.length/\(agg=false->sz=1):=aB;generalize hv:a.eval x=v at rx;generalize hj:a.eval i=u at ri;obtain rfl:=DK ri;cases rx with
 |agg _ arr hn hr =>have bV:RVs g w l arr.toList:=⟨by simpa using hn,fun i x v hx hv=>hr i x v hx (by simpa using hv)⟩;refine Ran.same H (v:=if agg then .agg ((arr.toList.drop (j.toNat*sz)).take sz).toArray else((arr.toList.drop (j.toNat*sz)).take sz).getD 0 undef) ?_ (Lw bV h2 hb);simp only[execOp,ho,hv,hj,Sem.run_bind,Instr.index,asIntOf,run_underlying hu,Result.andThen_ok,Sem.run_pure,Ap (And.intro h0 h1),Ip hs,Gi hq (fun _=>hs) h2 w arr (j.toNat*sz) (by omega)]
def EH:Aa->Aa->Option Bool
 |.int k a,.int k' b=>if k=k' then some (decide (a=b)) else none
 |.bool a,.bool b=>some (a==b)
 |.str a,.str b=>some (decide (a=b))
 |_,_=>none
theorem JN(x y:Aa)(l m:List Aa):Cn (x :: l) (y :: m)=(match EH x y,Cn l m with | some c,some e=>some (c&&e) | _,_=>none):=by cases x<;>cases y<;>simp only[Cn,EH]<;>(try (cases Cn l m<;>rfl));rename_i k a k' b;cases Cn l m<;>by_cases e:k=k'<;>simp[e]
theorem Hg:∀{l m:List Aa} {e:Bool},Cn l m=some e->l.length=m.length
 |[],[],_,_=>rfl
 |x :: l,y :: m,e,h=>by
  rw[JN]at h;cases hc:EH x y with
  |none=>simp[hc]at h
  |some c =>
   cases he:Cn l m with
   |none=>simp[hc,he]at h
   |some e'=>simp[Hg he]
 |[],_ :: _,_,h=>by simp[Cn]at h
 |_ :: _,[],_,h=>by simp[Cn]at h
theorem PT:∀{l m:List Aa} {e:Bool} (k:Nat),k<=l.length->Cn l m=some e->∃e1 e2,Cn (l.take k) (m.take k)=some e1/\Cn (l.drop k) (m.drop k)=some e2/\e=(e1&&e2)
 |l,m,e,0,_,h=>⟨true,e,by simp[Cn],by simpa using h,by simp⟩
 |[],m,e,k+1,hk,h=>by simp at hk
 |x :: l,[],e,k+1,hk,h=>by simp[Cn]at h
 |x :: l,y :: m,e,k+1,hk,h=>by
  rw[JN]at h;cases hc:EH x y with
  |none=>simp[hc]at h
  |some c =>
   cases he:Cn l m with
   |none=>simp[hc,he]at h
   |some e' =>simp only[hc,he,AX]at h;subst h;obtain⟨e1,e2,h1,h2,rfl⟩:=PT k (by simpa using hk) he;exact⟨c&&e1,e2,by simp[JN,hc,h1],by simpa using h2,by simp[Bool.and_assoc]⟩
theorem UU{x y:Aa}{u v:Value}{c:Bool}(hc:EH x y=some c)(hx:RV g w x u)(hy:RV g w y v) : (∃k a b,u=.int k a/\v=.int k b/\c=decide (a=b))\/(∃a b,u=.bool a/\v=.bool b/\c=(a==b))\/(∃a b:ByteArray,u=.string a/\v=.string b/\c=(a==b)):=by
 cases x<;>cases y<;>simp only[EH]at hc<;>(try (cases hc;done))
 ·split at hc;·rename_i e;subst e;obtain rfl:=BA hc;exact .inl ⟨_,_,_,DK hx,DK hy,rfl⟩
  ·cases hc
 ·obtain rfl:=BA hc;exact .inr (.inl ⟨_,_,DO hx,DO hy,rfl⟩)
 ·obtain rfl:=BA hc;obtain⟨b1,rfl,e1⟩:=FE hx;obtain⟨b2,rfl,e2⟩:=FE hy;refine .inr (.inr ⟨b1,b2,rfl,rfl,?_⟩);rw[<-e1,<-e2,beq_toListBytes,bytes_beq]
theorem UV{t:TypeId}{fs:Array Field}(hu:P.underlying t=some (.struct fs)):P.fieldsOf t=fs:=by simp[Program.fieldsOf,hu]
def D1(agg:Bool)(cs:List Value):Value:=if agg then .agg cs.toArray else cs.getD 0 undef
theorem s6{t:TypeId}{n:Nat}(h:szOf P t=some n):∃i,P.info? t=some i/\P.cellsOf t=n:=by
 unfold szOf at h;cases hi:P.info? t with
 |none=>simp[hi]at h
 |some i=>simp[hi]at h;exact⟨i,rfl,by simp[Program.cellsOf,hi,h]⟩
theorem UW:∀(d:Nat) (t:TypeId) (sh:List Nat),eqFields P d t=some sh->∃agg,yzl P t=some agg/\(agg=false->sh.length=1) /\ ∀(D:Nat),d<=D->∀(l m:List Aa) (xs ys:List Value) (e:Bool) (w':World),l.map Aa.kind=sh->RVs g w l xs->RVs g w m ys->Cn l m=some e -> (Op.equalIn D t (D1 agg xs) (D1 agg ys)).run P w'=.ok e w':=by
 intro d;induction d with
 |zero=>intro t sh h;simp[eqFields]at h
 |succ d ih =>
  intro t sh h
  have one:∀(k:Nat) (l m:List Aa) (xs ys:List Value) (e:Bool),l.map Aa.kind=[k]->RVs g w l xs->RVs g w m ys->Cn l m=some e -> ∃x y u v,D1 false xs=u/\D1 false ys=v/\EH x y=some e/\RV g w x u/\RV g w y v/\x.kind=k:=by
   intro k l m xs ys e hl hx hy he;have kF:=Hg he;have eF:l.length=1:=by have:=F5 List.length hl;simpa using this
   have fV:=hx.1;have gN:=hy.1;obtain⟨x,rfl⟩:=List.length_eq_one_iff.1 eF;obtain⟨y,rfl⟩:=List.length_eq_one_iff.1 (kF.symm.trans eF);obtain⟨u,rfl⟩:=List.length_eq_one_iff.1 fV;obtain⟨v,rfl⟩:=List.length_eq_one_iff.1 gN;refine⟨x,y,u,v,rfl,rfl,?_,hx.2 0 x u rfl rfl,hy.2 0 y v rfl rfl,by simpa using hl⟩;rw[JN]at he;cases hc:EH x y with
   |none=>simp[hc]at he
   |some c=>simpa [hc,Cn] using he
  have kinds:∀{x y:Aa} {u v:Value} {c:Bool} {k:Nat},EH x y=some c->RV g w x u->RV g w y v->x.kind=k -> (k=1->∃q a b,u=.int q a/\v=.int q b/\c=decide (a=b))/\(k=0->∃a b,u=.bool a/\v=.bool b/\c=(a==b))/\(k=2->∃a b:ByteArray,u=.string a/\v=.string b/\c=(a==b)):=by
   intro x y u v c k hc rx ry hk;subst hk;rcases UU hc rx ry with ⟨q,a,b,rfl,rfl,rfl⟩|⟨a,b,rfl,rfl,rfl⟩|⟨a,b,rfl,rfl,rfl⟩
   ·refine⟨fun _=>⟨q,a,b,rfl,rfl,rfl⟩,fun h=>?_,fun h=>?_⟩<;>(cases x<;>simp[Aa.kind]at h<;>cases rx)
   ·refine⟨fun h=>?_,fun _=>⟨a,b,rfl,rfl,rfl⟩,fun h=>?_⟩<;>(cases x<;>simp[Aa.kind]at h<;>cases rx)
   ·refine⟨fun h=>?_,fun h=>?_,fun _=>⟨a,b,rfl,rfl,rfl⟩⟩<;>(cases x<;>simp[Aa.kind]at h<;>cases rx)
  simp only[eqFields]at h;cases hu:P.underlying t with
  |none=>simp[hu]at h
  |some q =>
   simp only[hu]at h;cases q<;>simp only at h<;>(try (cases h;done))
   case bool =>obtain rfl:=BA h;refine⟨false,by simp[yzl,hu],fun _=>rfl,fun D hD l m xs ys e w' hl hx hy he=>?_⟩;obtain⟨D,rfl⟩:∃D',D=D'+1:=⟨D-1,by omega⟩;obtain⟨x,y,u,v,e1,e2,hc,rx,ry,hk⟩:=one 0 l m xs ys e hl hx hy he;obtain⟨a,b,rfl,rfl,rfl⟩:=(kinds hc rx ry hk).2.1 rfl;rw[e1,e2];exact run_equalIn_bool' w' D t a b hu
   case int k =>obtain rfl:=BA h;refine⟨false,by simp[yzl,hu],fun _=>rfl,fun D hD l m xs ys e w' hl hx hy he=>?_⟩;obtain⟨D,rfl⟩:∃D',D=D'+1:=⟨D-1,by omega⟩;obtain⟨x,y,u,v,e1,e2,hc,rx,ry,hk⟩:=one 1 l m xs ys e hl hx hy he;obtain⟨q,a,b,rfl,rfl,rfl⟩:=(kinds hc rx ry hk).1 rfl;rw[e1,e2,run_equalIn_int w' D t q k a b hu];rfl
   case string =>obtain rfl:=BA h;refine⟨false,by simp[yzl,hu],fun _=>rfl,fun D hD l m xs ys e w' hl hx hy he=>?_⟩;obtain⟨D,rfl⟩:∃D',D=D'+1:=⟨D-1,by omega⟩;obtain⟨x,y,u,v,e1,e2,hc,rx,ry,hk⟩:=one 2 l m xs ys e hl hx hy he;obtain⟨a,b,rfl,rfl,rfl⟩:=(kinds hc rx ry hk).2.2 rfl;rw[e1,e2,run_equalIn_string w' D t a b hu,beq_toListBytes]
   case struct fs =>
    split at h
    ·cases h
    ·rename_i aI;refine⟨true,by simp[yzl,hu],(fun e=>by cases e),fun D hD l m xs ys e w' hl hx hy he=>?_⟩;obtain⟨D,rfl⟩:∃D',D=D'+1:=⟨D-1,by omega⟩;have ht:P.underlying t=some (.struct (P.fieldsOf t)):=by rw[UV hu];exact hu
     show(Op.equalIn (D+1) t (.agg xs.toArray) (.agg ys.toArray)).run P w'=_;rw[run_equalIn_struct w' D t _ _ ht (by simpa using aI),UV hu]
     have go:∀(fl:List Field) (n:Nat) (sh:List Nat) (l m:List Aa) (e:Bool),Dz P (eqFields P d) fl n=some sh->l.map Aa.kind=sh->RVs g w l (xs.drop n)->RVs g w m (ys.drop n)->Cn l m=some e -> (Op.eqFields D xs.toArray ys.toArray fl).run P w'=.ok e w':=by
      intro fl;induction fl with
      |nil =>
       intro n sh l m e h1 h2 h3 h4 h5;simp only[Dz,AX]at h1;subst h1;have:l=[]:=by simpa using h2
       subst this;have:m=[]:=by have:=Hg h5;simpa using this.symm
       subst this;simp only[Cn,AX]at h5;subst h5;simp[Op.eqFields]
      |cons f fl ihf =>
       intro n sh l m e h1 h2 h3 h4 h5;simp only[Dz]at h1;split at h1
       ·rename_i bB;obtain⟨dM,gw⟩:=bB;cases hm:eqFields P d f.type with
        |none=>simp[hm]at h1
        |some sm =>
         simp only[hm]at h1;split at h1
         ·rename_i c6;obtain⟨aJ,dC⟩:=c6;cases hg:Dz P (eqFields P d) fl (n+sm.length) with
          |none=>simp[hg]at h1
          |some sl =>
           simp only[hg,AX]at h1;subst h1;have eF:l.length=sm.length+sl.length:=by have:=F5 List.length h2;simpa using this
           obtain⟨c1,c2,q1,q2,rfl⟩:=PT sm.length (by omega) h5;obtain⟨agg,bN,dm,aG⟩:=ih f.type sm hm;have kF:=Hg h5;have fV:=h3.1;have gN:=h4.1;simp only[EB]at fV gN;have px:=Gi (P:=P) bN (fun _=>aJ) dm w' xs.toArray n (by simp;omega);have py:=Gi (P:=P) bN (fun _=>aJ) dm w' ys.toArray n (by simp;omega);have kG:RVs g w (l.take sm.length) ((xs.drop n).take sm.length):=h3.take _;have fW:RVs g w (m.take sm.length) ((ys.drop n).take sm.length):=h4.take _;have k1:(l.take sm.length).map Aa.kind=sm:=by rw[List.map_take,h2];simp
           have k2:(l.drop sm.length).map Aa.kind=sl:=(by rw[List.map_drop,h2];simp);have dN:=aG D (by omega) _ _ _ _ c1 w' k1 kG fW q1;have kH:RVs g w (l.drop sm.length) (xs.drop (n+sm.length)):=(by have:=h3.drop sm.length;rwa [Lq]at this);have gO:RVs g w (m.drop sm.length) (ys.drop (n+sm.length)):=(by have:=h4.drop sm.length;rwa [Lq]at this);have ed:=ihf (n+sm.length) sl _ _ c2 hg k2 kH gO q2;simp only[D1]at dN;simp only[Op.eqFields,Ap gw,Sem.run_bind,dM,px,py,Result.andThen_ok,dN];cases c1 with
           |true=>simpa using ed
           |false=>simp
         ·cases h1
       ·cases h1
     exact go fs.toList 0 sh l m e h hl (by simpa using hx) (by simpa using hy) he
   case array n el =>
    cases hm:eqFields P d el with
    |none=>simp[hm]at h
    |some sm =>
     simp only[hm]at h;split at h
     ·rename_i c6;obtain⟨aJ,dC⟩:=c6;obtain rfl:=BA h;obtain⟨agg,bN,dm,aG⟩:=ih el sm hm;refine⟨true,by simp[yzl,hu],(fun e=>by cases e),fun D hD l m xs ys e w' hl hx hy he=>?_⟩;obtain⟨D,rfl⟩:∃D',D=D'+1:=⟨D-1,by omega⟩;obtain⟨ti,nz,mj⟩:=s6 aJ;show(Op.equalIn (D+1) t (.agg xs.toArray) (.agg ys.toArray)).run P w'=_;rw[run_equalIn_array w' D _ _ hu nz,mj]
      have go:∀(n k:Nat) (l m:List Aa) (e:Bool),l.map Aa.kind=(List.replicate n sm).flatten->RVs g w l (xs.drop (k*sm.length))->RVs g w m (ys.drop (k*sm.length))->Cn l m=some e -> (Op.eqItems D el sm.length xs.toArray ys.toArray (List.range' k n)).run P w'=.ok e w':=by
       intro n;induction n with
       |zero =>
        intro k l m e h2 h3 h4 h5;have:l=[]:=by simpa using h2
        subst this;have:m=[]:=by have:=Hg h5;simpa using this.symm
        subst this;simp only[Cn,AX]at h5;subst h5;simp[Op.eqItems]
       |succ n ihn =>
        intro k l m e h2 h3 h4 h5;rw[List.replicate_succ,List.flatten_cons]at h2;have eF:sm.length<=l.length:=by have:=F5 List.length h2;simp only[JC,BK]at this;omega
        obtain⟨c1,c2,q1,q2,rfl⟩:=PT sm.length eF h5;have kF:=Hg h5;have fV:=h3.1;have gN:=h4.1;simp only[EB]at fV gN;have px:=Gi (P:=P) bN (fun _=>aJ) dm w' xs.toArray (k*sm.length) (by simp;omega);have py:=Gi (P:=P) bN (fun _=>aJ) dm w' ys.toArray (k*sm.length) (by simp;omega);have kG:RVs g w (l.take sm.length) ((xs.drop (k*sm.length)).take sm.length):=h3.take _;have fW:RVs g w (m.take sm.length) ((ys.drop (k*sm.length)).take sm.length):=h4.take _;have k1:(l.take sm.length).map Aa.kind=sm:=by rw[List.map_take,h2];simp
        have k2:(l.drop sm.length).map Aa.kind=(List.replicate n sm).flatten:=(by rw[List.map_drop,h2];simp);have dN:=aG D (by omega) _ _ _ _ c1 w' k1 kG fW q1;have e2:k*sm.length+sm.length=(k+1)*sm.length:=(by rw[AT,Nat.one_mul]);have kH:RVs g w (l.drop sm.length) (xs.drop ((k+1)*sm.length)):=(by have:=h3.drop sm.length;rwa [Lq,e2]at this);have gO:RVs g w (m.drop sm.length) (ys.drop ((k+1)*sm.length)):=(by have:=h4.drop sm.length;rwa [Lq,e2]at this);have ed:=ihn (k+1) _ _ c2 k2 kH gO q2;simp only[D1]at dN;simp only[List.range'_succ,Op.eqItems,Sem.run_bind,px,py,Result.andThen_ok,dN];cases c1 with
        |true=>simpa using ed
        |false=>simp
      rw[List.range_eq_range'];exact go n 0 l m e hl (by simpa using hx) (by simpa using hy) he
     ·cases h
theorem UX:∀{l m:List Aa} {xs ys:List Value},RVs g w l xs->RVs g w m ys->Cn l m=some true->xs=ys
 |[],m,xs,ys,hx,hy,h=>by have:=Hg h;have h1:=hx.1;have h2:=hy.1;have e1:xs=[]:=Un (by simpa using h1);have e2:ys=[]:=Un (by simp at this;omega);rw[e1,e2]
 |x :: l,[],xs,ys,hx,hy,h=>by simp[Cn]at h
 |x :: l,y :: m,xs,ys,hx,hy,h=>by
  cases xs with
  |nil=>have:=hx.1;simp at this
  |cons u xs =>
   cases ys with
   |nil=>have:=hy.1;simp at this
   |cons v ys =>
    rw[JN]at h;cases hc:EH x y with
    |none=>simp[hc]at h
    |some c =>
     cases he:Cn l m with
     |none=>simp[hc,he]at h
     |some e' =>
      simp only[hc,he,AX,AE]at h;obtain⟨rfl,rfl⟩:=h;have e1:xs=ys:=UX (l:=l) (m:=m) (by have:=hx.drop 1;simpa using this) (by have:=hy.drop 1;simpa using this) he
      have e2:u=v:=by
       rcases UU hc (hx.2 0 x u rfl rfl) (hy.2 0 y v rfl rfl) with ⟨k,a,b,rfl,rfl,e⟩|⟨a,b,rfl,rfl,e⟩|⟨a,b,rfl,rfl,e⟩
       ·simp at e;rw[e]
       ·simp at e;rw[e]
       ·rw[beq_toListBytes,bytes_beq]at e;have e:a.data.toList=b.data.toList:=(by simpa using e);have:a=b:=(by obtain⟨⟨a⟩⟩:=a;obtain⟨⟨b⟩⟩:=b;simp at e;rw[e]);rw[this]
      rw[e1,e2]
theorem s9:∀(d:Nat) (t:TypeId) (sh:List Nat),eqFields P d t=some sh->∃agg,yzl P t=some agg/\(agg=false->sh.length=1) /\
  ∀(D:Nat),d<=D->∀(xs:List Value) (em:Bool) (w':World),xs.length=sh.length->(Instr.checkKey em D t (D1 agg xs)).run P w'=.ok () w':=by
 intro d
 induction d with
 |zero=>intro t sh h;simp[eqFields]at h
 |succ d ih =>
  intro t sh h
  simp only[eqFields]at h
  cases hu:P.underlying t with
  |none=>simp[hu]at h
  |some q =>
   simp only[hu]at h
   cases q<;>simp only at h<;>(try (cases h;done))
   case struct fs =>
    split at h
    ·cases h
    ·rename_i aI
     refine⟨true,by simp[yzl,hu],(fun e=>by cases e),fun D hD xs em w' hl=>?_⟩
     obtain⟨D,rfl⟩:∃D',D=D'+1:=⟨D-1,by omega⟩
     show(Instr.checkKey em (D+1) t (.agg xs.toArray)).run P w'=_
     unfold Instr.checkKey
     simp only[Sem.run_bind,run_underlying hu,Result.andThen_ok]
     rw[<-Array.forIn_toList]
     have go:∀(fl:List Field) (n:Nat) (sh:List Nat),Dz P (eqFields P d) fl n=some sh->n+sh.length<=xs.length ->
       (forIn fl PUnit.unit (fun(f:Field) (r:PUnit)=>(do
        if f.name ≠ "_" then do
         Instr.checkKey em D f.type (<-part f.type xs.toArray f.offset)
         pure (ForInStep.yield PUnit.unit)
        else pure (ForInStep.yield PUnit.unit):Sem (ForInStep PUnit)))).run P w'=.ok PUnit.unit w':=by
      intro fl
      induction fl with
      |nil=>intro n sh h1 h2;simp
      |cons f fl ihf =>
       intro n sh h1 h2
       simp only[Dz]at h1
       split at h1
       ·rename_i bB
        obtain⟨dM,gw⟩:=bB
        cases hm:eqFields P d f.type with
        |none=>simp[hm]at h1
        |some sm =>
         simp only[hm]at h1
         split at h1
         ·rename_i c6
          obtain⟨aJ,dC⟩:=c6
          cases hg:Dz P (eqFields P d) fl (n+sm.length) with
          |none=>simp[hg]at h1
          |some sl =>
           simp only[hg,AX]at h1
           subst h1
           simp only[BK]at h2
           obtain⟨agg,bN,dm,aG⟩:=ih f.type sm hm
           have px:=Gi (P:=P) bN (fun _=>aJ) dm w' xs.toArray n (by simp;omega)
           have dN:=aG D (by omega) ((xs.drop n).take sm.length) em w' (by simp;omega)
           have ed:=ihf (n+sm.length) sl hg (by omega)
           simp only[D1]at dN
           simp only[List.forIn_cons,Sem.run_bind,Ap gw,dM,px,Result.andThen_ok,dN,Sem.run_pure]
           exact ed
         ·cases h1
       ·cases h1
     rw[go fs.toList 0 sh h (by omega)];simp
   case array n el =>
    cases hm:eqFields P d el with
    |none=>simp[hm]at h
    |some sm =>
     simp only[hm]at h
     split at h
     ·rename_i c6
      obtain⟨aJ,dC⟩:=c6
      obtain rfl:=BA h
      obtain⟨agg,bN,dm,aG⟩:=ih el sm hm
      refine⟨true,by simp[yzl,hu],(fun e=>by cases e),fun D hD xs em w' hl=>?_⟩
      obtain⟨D,rfl⟩:∃D',D=D'+1:=⟨D-1,by omega⟩
      show(Instr.checkKey em (D+1) t (.agg xs.toArray)).run P w'=_
      unfold Instr.checkKey
      simp only[Sem.run_bind,run_underlying hu,Result.andThen_ok]
      simp only[Std.Legacy.Range.forIn_eq_forIn_range',Std.Legacy.Range.size,Nat.sub_zero,Nat.add_one_sub_one,Nat.div_one]
      have go:∀(n k:Nat),(k+n)*sm.length<=xs.length ->
        (forIn (List.range' k n) PUnit.unit (fun(i:Nat) (r:PUnit)=>(do
         Instr.checkKey em D el (<-part el xs.toArray (i*(<-sizeOf el)))
         pure (ForInStep.yield PUnit.unit):Sem (ForInStep PUnit)))).run P w'=.ok PUnit.unit w':=by
       intro n
       induction n with
       |zero=>intro k h2;simp
       |succ n ihn =>
        intro k h2
        have e2:k*sm.length+sm.length<=xs.length:=by
         refine Bo ?_ h2
         rw[<-Ei]
         exact Bp _ (by omega)
        have px:=Gi (P:=P) bN (fun _=>aJ) dm w' xs.toArray (k*sm.length) (by simp;omega)
        have dN:=aG D (by omega) ((xs.drop (k*sm.length)).take sm.length) em w' (by simp;omega)
        have ed:=ihn (k+1) (by rwa [show k+1+n=k+(n+1) by omega])
        simp only[D1]at dN
        simp only[List.range'_succ,List.forIn_cons,Sem.run_bind,Ip aJ,px,Result.andThen_ok,dN,Sem.run_pure]
        exact ed
      have aD:(0+n)*sm.length<=xs.length:=by
       rw[hl,Cx];simp
      rw[go n 0 aD];simp
     ·cases h
   all_goals
    obtain rfl:=BA h
    refine⟨false,by simp[yzl,hu],fun _=>rfl,fun D hD xs em w' hl=>?_⟩
    obtain⟨D,rfl⟩:∃D',D=D'+1:=⟨D-1,by omega⟩
    generalize D1 false xs=v
    unfold Instr.checkKey
    simp only[Sem.run_bind,run_underlying hu,Result.andThen]
    cases v<;>rfl
theorem UY{o:Oper}{ty yt:TypeId}{ng:Bool}{sh:List Nat}{fs:Array Field}{x y:Operand}{x' y':Ad}(H:HR E g h w)(ht:RVs g w t a.tmps.toList)(ho:o.op=.binOp (if ng then .neq else .eql) ty x y yt)(hx:A7 x x'=true)(hy:A7 y y'=true)(hg:P.eqGuardType P.depth ty=false) (hs:eqFields P 9 ty=some sh) (hu:P.underlying ty=some (.struct fs))(aB:((Ak.eqagg sh ng x' y').req (Ag E t) h).ok):Ran E P (execOp a.eval o) g h w ((Ak.eqagg sh ng x' y').req (Ag E t) h):=by
 have rx:=AO H ht hx;have ry:=AO H ht hy;simp only[Ak.req]at aB |-;generalize Ag E t x'=X at *;generalize Ag E t y'=Y at *;generalize fX:a.eval x=u at rx;generalize qR:a.eval y=v at ry;cases X<;>(try simp only[Req.fail]at aB)
 case agg l =>
  cases Y<;>(try simp only[Req.fail]at aB);rename_i m;cases he:Cn l m with
  |none=>simp only[he]at aB
  |some e =>
   simp only[he]at aB |-;have aB:l.map Aa.kind=sh:=aB;cases rx with
   |agg _ xs dO iX =>
    cases ry with
    |agg _ ys iw kI =>
     have eW:RVs g w l xs.toList:=⟨by simpa using dO,fun i x v hx hv=>iX i x v hx (by simpa using hv)⟩;have jW:RVs g w m ys.toList:=⟨by simpa using iw,fun i x v hx hv=>kI i x v hx (by simpa using hv)⟩;obtain⟨agg,bN,_,aG⟩:=UW (P:=P) (g:=g) (w:=w) 9 ty sh hs;obtain rfl:agg=true:=(by simp only[yzl,hu,Ek,AX]at bN;exact bN.symm);have hq:=aG 10000 (by omega) l m _ _ e w aB eW jW he;simp only[D1,Bw,J1]at hq;cases ng with
     |false =>refine Ran.same H (v:=.bool e) ?_ (.bool _);simp only[J2,Cz]at ho;simp only[execOp,ho,fX,qR,Sem.run_bind,run_eqGuard_agg w .eql ty x y xs ys hg,Result.andThen_ok,run_eql_struct,hq,Sem.run_pure]
     |true =>refine Ran.same H (v:=.bool (!e)) ?_ (.bool _);simp only[Bw]at ho;simp only[execOp,ho,fX,qR,Sem.run_bind,run_eqGuard_agg w .neq ty x y xs ys hg,Result.andThen_ok,run_neq_struct,hq,Sem.run_pure]
end
section
variable {E:Nat->Aa}{P:Program}{g:Gh}{h:Ax}{w:World}{t:List Aa}{a:Act}
def Cb(st m:Nat)(vals:Nat->Nat->Value):List Value:=(List.range (m*st)).map fun q=>vals (q / st) (q%st)
theorem FG(st m:Nat)(vals:Nat->Nat->Value):(Cb st m vals).length=m*st:=by simp[Cb]
theorem Ir{st m:Nat}{vals:Nat->Nat->Value}{k j:Nat}(hk:k<m)(hj:j<st):(Cb st m vals)[k*st+j]?=some (vals k j):=by
 have hb:k*st+j<m*st:=by have:(k+1)*st<=m*st:=Bp _ hk;rw[Ei]at this;omega
 have h0:0<st:=by omega
 rw[Cb,J4,PH hb];simp only[Ek];rw[Bf k st,P8 h0,JE hj,PJ,Eh hj,Ib]
theorem Is{st m:Nat}{vals:Nat->Nat->Value}{q:Nat}{v:Value}(hq:(Cb st m vals)[q]?=some v):∃k j,k<m/\j<st/\q=k*st+j/\v=vals k j:=by
 have hlt:q<m*st:=by have:=(AN.1 hq).1;simpa [Cb] using this
 have h0:0<st:=by
  rcases F8 st with e|e
  ·rw[e]at hlt;simp at hlt
  ·exact e
 have hk:q / st<m:=by rw[GW h0];exact hlt
 have hj:q%st<st:=Ga _ h0;refine⟨q / st,q%st,hk,hj,by rw[Bf];exact(Ig q st).symm,?_⟩;rw[Cb,J4,PH hlt]at hq;simpa using hq.symm
structure L1(g:Gh)(w:World)(st m:Nat)(f:Nat->List Aa)(v:Value)(vals:Nat->Nat->Value):Prop where
 val:∃ad cap,v=.slice ad m cap/\m<=cap/\(m=0\/∃b off,ad=some ⟨b,off,none⟩/\∀k j,k<m->j<st->w.cell? ⟨b,off+(k*st+j),none⟩=some (vals k j))
 len:∀k,k<m->(f k).length=st
 one:∀k j,k<m->j<st->(vals k j).oneCell'=true
 rv:∀(k j:Nat) (x:Aa),k<m->(f k)[j]?=some x->RV g w x (vals k j)
theorem JO{st:Nat}{Y:Aa}{v:Value}(H:HR E g h w)(hv:RV g w Y v)(aB:(Bh st Y h).ok)(aI:(Bh st Y h).st=st):∃vals,L1 g w st (Bh st Y h).n (Bh st Y h).f v vals:=by
 unfold Bh at aB aI |-;cases Y<;>simp only at aB aI<;>(try (exact aB.elim))
 case nils =>cases hv;exact⟨fun _ _=>undef,⟨none,0,rfl,AB _,.inl rfl⟩,fun k hk=>absurd hk (P9 _),fun k j hk=>absurd hk (P9 _),fun k j x hk=>absurd hk (P9 _)⟩
 case slc st' n f =>
  subst aI;cases hv with
  |slc0 _ _ ad cap=>exact⟨fun _ _=>undef,⟨ad,cap,rfl,Ej _,.inl rfl⟩,fun k hk=>absurd hk (P9 _),fun k j hk=>absurd hk (P9 _),fun k j x hk=>absurd hk (P9 _)⟩
  |slc _ _ _ b off cap vals hz aS hl hc h1 hr =>exact⟨vals,⟨_,cap,rfl,aS,.inr ⟨b,off,rfl,fun k j hk hj=>by rw[<-EF];exact hc k j hk hj⟩⟩,hl,h1,hr⟩
 case vec id ep lo n =>
  have hO:=H.obj id;cases hh:h id<;>simp only[hh]at aB aI hO |-<;>(try (exact aB.elim));rename_i ep' st' m f;subst aI;obtain⟨he,aE⟩:=aB;obtain⟨cn,h0,hn,arr,ty,hr,aZ,bA⟩:=hO;obtain⟨ad,cap,e1,aS,hc⟩:=FF H hv (by rw[hh];exact he);have cu:∀k j,k<n->j<st'->g.bo id+(lo+k)*st'+j<arr.size:=fun k j hk hj=>by have:(lo+k+1)*st'<=g.cp id*st':=Bp _ (by omega);rw[Ei]at this;omega
  refine⟨fun k j=>arr.getD (g.bo id+(lo+k)*st'+j) undef,⟨some ad,cap,e1,aS,?_⟩,fun k hk=>(bA (lo+k) (by omega)).1,fun k j hk hj=>?_,fun k j x hk hx=>?_⟩
  ·rcases F8 n with e|e;·exact .inl e
   ·rcases hc with cP|⟨rfl,hc⟩;·omega
    ·refine .inr ⟨_,_,rfl,fun k j hk hj=>?_⟩;have hb:=cu k j hk hj;have e2:g.bo id+lo*g.st id+(k*st'+j)=g.bo id+(lo+k)*st'+j:=(by rw[cn,AT];omega);simp[World.cell?,hr,e2,hb]
  ·have hb:=cu k j hk hj;have aD:=(bA (lo+k) (by omega)).1;have:=(bA (lo+k) (by omega)).2 j _ (arr.getD (g.bo id+(lo+k)*st'+j) undef) (AD (by omega)) (by simp[hb]);exact this.1
  ·have aD:=(bA (lo+k) (by omega)).1;have hj:j<st':=by have:=(AN.1 hx).1;omega
   have hb:=cu k j hk hj;exact((bA (lo+k) (by omega)).2 j x (arr.getD (g.bo id+(lo+k)*st'+j) undef) hx (by simp[hb])).2
theorem L1.news{st m:Nat}{f:Nat->List Aa}{v:Value}{vals:Nat->Nat->Value}(s:L1 g w st m f v vals)(hm:0<m) : ∃b off cap,v=.slice (some ⟨b,off,none⟩) m cap/\∀q u,(Cb st m vals)[q]?=some u->w.cell? ((⟨b,off,none⟩:Addr).add q)=some u:=by
 obtain⟨ad,cap,e1,_,hc⟩:=s.val;rcases hc with h0|⟨b,off,rfl,aO⟩
 ·omega
 ·refine⟨b,off,cap,e1,fun q u hq=>?_⟩;obtain⟨k,j,hk,hj,rfl,rfl⟩:=Is hq;rw[En];exact aO k j hk hj
theorem sA{st m:Nat}{f:Nat->List Aa}{v:Value}{vals:Nat->Nat->Value}(s:L1 g w st m f v vals):∀u∈Cb st m vals,u.oneCell'=true:=by intro u hu;obtain⟨q,hq⟩:=qV.1 hu;obtain⟨k,j,hk,hj,rfl,rfl⟩:=Is hq;exact s.one k j hk hj
theorem L2(P:Program)(o:Oper)(ρ:Operand->Value)(x y:Operand)(tx:TypeId)(u v:Value)(r:Value)(w w':World)(ho:o.op=.call { callee:=.builtin .append,args:=#[x,y],argTypes:=#[tx,tx] })(hx:ρ x=u)(hy:ρ y=v)(hr:(Builtin.append_ #[tx,tx] o.type #[u,v]).run P w=.ok r w'):(execOp ρ o).run P w=.ok (.value r) w':=by simp[execOp,ho,resolve,invoke,builtin,hx,hy,hr]
theorem PU{e:TypeId}{i:TypeInfo}{z:Value}(hi:P.info? e=some i)(hz:i.zero=some z){l:List Value}(hl:Em P e=some l):l=z.cells.toList:=by obtain⟨⟩:=i;simp only at hz;subst hz;simpa [Em,hi] using hl.symm
theorem L3{e:TypeId}{st bytes:Nat}(hs:szOf P e=some st)(hb:byOf P e=some bytes){zl:List Value}(hz:Em P e=some zl)(dq:zl.length=st) : ∃(i:TypeInfo) (z:Value),P.info? e=some i/\i.zero=some z/\i.size=st/\i.bytes=bytes/\z.cells.size=st:=by
 unfold szOf at hs;unfold byOf at hb;cases hi:P.info? e with
 |none=>simp[hi]at hs
 |some i =>
  simp only[hi,Ek,AX]at hs hb;cases bY:i.zero with
  |none =>obtain⟨⟩:=i;simp only at bY;subst bY;simp[Em,hi]at hz
  |some z =>have:=PU hi bY hz;refine⟨i,z,rfl,bY,hs,hb,?_⟩;rw[this]at dq;simpa using dq
theorem PW(w:World)(need old:Nat)(e:TypeId):need<=grownCap w need old e:=by simp only[grownCap,Question.cut];omega
theorem JP{s ep st n:Nat}{f:Nat->List Aa}{g':Gh}{w':World}{arr:Array Value}{ty:TypeId}{b bo cp:Nat}(h0:0<st)(aK:g'.blk s=b)(cH:g'.bo s=bo)(aI:g'.st s=st)(c9:g'.cp s=cp)(hn:n<=cp)(cW:w'.heap[b]?=some (.cells arr ty (0,0))) (aJ:bo+cp*st<=arr.size) (hl:∀k,k<n->(f k).length=st)(hc:∀k j,k<n->j<st->∃v,arr[bo+k*st+j]?=some v/\v.oneCell'=true/\∀x,(f k)[j]?=some x->RV g' w' x v):OR g' w' s (.vec ep st n f):=by
 refine⟨aI,h0,by omega,arr,ty,by rw[aK];exact cW,by rw[cH,c9];exact aJ,fun k hk=>⟨hl k hk,fun j x v hx hv=>?_⟩⟩;have hj:j<st:=by rw[<-hl k hk];exact(AN.1 hx).1
 obtain⟨u,hu,h1,h2⟩:=hc k j hk hj;rw[cH,hu]at hv;obtain rfl:=BA hv;exact⟨h1,h2 x hx⟩
theorem EI{k n st j:Nat}(hk:k<n)(hj:j<st):k*st+j<n*st:=by have:(k+1)*st<=n*st:=Bp _ hk;rw[Ei]at this;omega
theorem sB{o:Oper}{x y:Operand}{tx e:TypeId}{s st bytes:Nat}{y':Ad}{zl:List Value}(H:HR E g h w)(ht:RVs g w t a.tmps.toList)(ho:o.op=.call { callee:=.builtin .append,args:=#[x,y],argTypes:=#[tx,tx] })(hy:A7 y y'=true)(hu:P.underlying tx=some (.slice e)) (hs:szOf P e=some st) (hb:byOf P e=some bytes) (hz:Em P e=some zl) (dq:zl.length=st) (fY:0<bytes) (hx:a.eval x=.slice none 0 0)(aB:(DM s st bytes .nils (Ag E t y') h).ok):Ran E P (execOp a.eval o) g h w (DM s st bytes .nils (Ag E t y') h):=by
 have ry:=AO H ht hy;generalize Ag E t y'=Y at *;simp only[DM]at aB |-;by_cases hn:(Bh st Y h).n=0
 ·simp only[hn,Bw]at aB |-;obtain⟨vals,src⟩:=JO H ry aB.1 aB.2;obtain⟨ad,cap,e1,_,_⟩:=src.val;rw[hn]at e1;obtain⟨i,z,hi,bY,aJ,ix,cj⟩:=L3 hs hb hz dq;refine Ran.same H (v:=.slice none 0 0) ?_ .nils;cases ad with
  |none=>simp[execOp,ho,hx,e1,resolve,invoke,builtin,Builtin.append_,run_underlying hu,sizeOf,typeInfo,hi,Builtin.lenOf,Builtin.firstCells,Result.andThen]
  |some ad=>simp[execOp,ho,hx,e1,resolve,invoke,builtin,Builtin.append_,run_underlying hu,sizeOf,typeInfo,hi,Builtin.lenOf,Builtin.firstCells,loadCells,loadCellsFrom,Result.andThen]
 simp only[hn,Cz]at aB |-;obtain⟨_,h1,h2,h0,hm,ei⟩:=aB;obtain⟨vals,src⟩:=JO H ry h1 h2;obtain⟨b,off,cap,e1,cJ⟩:=src.news hm;obtain⟨i,z,hi,bY,aJ,ix,cj⟩:=L3 hs hb hz dq;generalize (Bh st Y h).n=m at *;generalize (Bh st Y h).f=f at *;have kJ:(m:Int)<=9223372036854775807:=by have:m*1<=m*bytes:=Uq _ fY;omega
 have run:=run_append_nil (P:=P) w tx o.type e i z hu hi bY ⟨b,off,none⟩ m cap (Cb st m vals) (by rw[FG,aJ]) cJ hm kJ (by rw[ix];omega);refine Ran.new (ob:=.cells ((Cb st m vals).toArray++Builtin.zeroCells z.cells (grownCap w m 0 e-m)) e (0,0)) (bo:=0) (st:=st) (cp:=grownCap w m 0 e) H ⟨w.drew,rfl,rfl,rfl,rfl,Dd _,L2 P o a.eval x y tx _ _ _ w _ ho hx e1 run⟩ rfl ?_;intro g' w' aE aK cH cn c9 aN;have hge:=PW w m 0 e;refine⟨JP h0 aK cH cn c9 hge aN ?_ src.len (fun k j hk hj=>⟨vals k j,?_,src.one k j hk hj,fun x hx=>(src.rv k j x hk hx).mono aE⟩),fun he=>?_⟩
 ·rw[Lo,size_zeroCells,cj];simp only[J8,FG];have:(grownCap w m 0 e-m)*st+m*st=grownCap w m 0 e*st:=by rw[<-AT];congr 1;omega
  omega
 ·have cC:=EI hk hj;rw[Cx,Pz (by simp[FG];exact cC)];simpa using Ir hk hj
 ·exact .vec _ _ _ _ _ rfl (by rw[he];exact AB _) (fun _=>L0 aK cH c9 hge)
theorem sC(ty e tx:TypeId)(i:TypeInfo)(hu:P.underlying tx=some (.slice e))(hi:P.info? e=some i)(b bo n cap:Nat)(cur:Array Value)(te:TypeId)(hg:w.heap[b]?=some (.cells cur te (0,0)))(v:Value) (m:Nat) (news:List Value) (iY:(Builtin.lenOf v).run P w=.ok m w) (cJ:(Builtin.firstCells i.size m v).run P w=.ok news.toArray w) (h1:∀u∈news,u.oneCell'=true)(bG:n+m<=cap) (aZ:bo+n*i.size+news.length<=cur.size) (pR:∀k,P.underlying tx≠some (.int k)) :
  (Builtin.append_ #[tx,tx] ty #[.slice (some ⟨b,bo,none⟩) n cap,v]).run P w =
   .ok (.slice (some ⟨b,bo,none⟩) (n+m) cap) (w.setRow b (cur.toList.take (bo+n*i.size)++news++cur.toList.drop (bo+n*i.size+news.length)).toArray):=by
 have aI:=run_storeCells_at P b (bo+n*i.size) te news 0 cur w hg (by simpa using aZ) h1;simp only[Ib]at aI;simp[Builtin.append_,run_underlying hu,sizeOf,typeInfo,hi,iY,bG,cJ,En,aI]
theorem UZ{s:Sem Next}{rd:List Nat}{p:Prop}{i:Nat}{o':Ai}{x:Aa}{v:Value}{bo st cp:Nat}{w':World}(H:HR E g h w)(aQ:(h i).owned=true)(hr:s.run P w=.ok (.value v) w') (bX:o'.ep=(h i).ep+1) (n9:o'.owned=true)(bW:∀b,b≠g.blk i->w'.heap[b]?=w.heap[b]?) (cD:w'.heap.size=w.heap.size) (gK:w'.os=w.os) (d9:w'.tape=w.tape) (hout:w'.output=w.output)(cE:∀g':Gh,GLe g w g' w'->g'.blk i=g.blk i->g'.bo i=bo->g'.st i=st->g'.cp i=cp->g'.ep i=(h i).ep+1->OR g' w' i o'/\RV g' w' x v) (fe:w.drawn<=w'.drawn:=by first|exact AB _|exact Dd _|simp):Ran E P s g h w ⟨p,rd,x,some (i,o')⟩:=by
 let g':Gh:=⟨g.blk,fun j=>if j=i then(h i).ep+1 else g.ep j,fun j=>if j=i then bo else g.bo j,fun j=>if j=i then st else g.st j,fun j=>if j=i then cp else g.cp j,g.fz⟩
 have cz:=H.sep i aQ
 have aE:GLe g w g' w':=by
  refine⟨fun b hb=>⟨hb,bW b (fun e=>cz (e▸hb))⟩,fun j=>?_,fun j hj=>?_⟩
  ·show g.ep j<=if j=i then(h i).ep+1 else g.ep j;split
   ·rename_i e;subst e;rw[H.ep j];omega
   ·exact AB _
  ·have:j≠i:=fun e=>by
    subst e;have bI:(if j=j then(h j).ep+1 else g.ep j)=g.ep j:=hj;rw[Ap rfl,H.ep j]at bI;omega
   exact⟨rfl,Aj this,Aj this,Aj this⟩
 obtain⟨hO,hV⟩:=cE g' aE rfl (Ap rfl) (Ap rfl) (Ap rfl) (Ap rfl);obtain⟨H',S'⟩:=HR.upd (g':=g') (w':=w') (i:=i) (o':=o') H aE (fun j hj=>Aj hj) ((Ap rfl:g'.ep i=_).trans bX.symm) (fun b _ aH=>bW b (aH aQ)) (by omega) hO (fun _=>.inl ⟨aQ,rfl⟩) (fun _=>cz) (fun b hb=>.inl hb) (fun b hb=>by rw[cD];exact H.fzb b hb) gK d9 hout fe;exact⟨_,v,w',g',hr,.inl rfl,hV,H',S',fun e=>by cases e⟩
theorem sD{o:Oper}{x y:Operand}{tx e:TypeId}{s st bytes:Nat}{y':Ad}{zl:List Value}{id ep lo n:Nat}(H:HR E g h w)(ht:RVs g w t a.tmps.toList)(ho:o.op=.call { callee:=.builtin .append,args:=#[x,y],argTypes:=#[tx,tx] })(hy:A7 y y'=true)(hu:P.underlying tx=some (.slice e)) (hs:szOf P e=some st) (hb:byOf P e=some bytes) (hz:Em P e=some zl) (dq:zl.length=st) (fY:0<bytes) (hx:RV g w (.vec id ep lo n) (a.eval x))(aB:(DM s st bytes (.vec id ep lo n) (Ag E t y') h).ok):Ran E P (execOp a.eval o) g h w (DM s st bytes (.vec id ep lo n) (Ag E t y') h):=by
 have ry:=AO H ht hy;generalize Ag E t y'=Y at *;simp only[DM]at aB |-;have hO:=H.obj id;cases hh:h id<;>simp only[hh,Req.fail]at aB hO |-
 case vec ep' st' N f0 =>
  obtain⟨h1,h2,rfl,rfl,nA,ei⟩:=aB;obtain⟨vals,src⟩:=JO H ry h1 h2;obtain⟨i,z,hi,bY,aJ,ix,cj⟩:=L3 hs hb hz dq;obtain⟨aI,h0,hn,arr,ty,hr,aZ,bA⟩:=hO;have aQ:(h id).owned=true:=by rw[hh];rfl
  have cy:(h id).ep=ep:=by rw[hh];rfl
  obtain⟨ad,cap,e1,aS,hc⟩:=FF H hx cy.symm;generalize (Bh st' Y h).n=m at *;generalize (Bh st' Y h).f=f at *
  have aU:∀k j,k<n->j<st'->∃u,arr[g.bo id+(lo+k)*st'+j]?=some u/\u.oneCell'=true/\∀x,(f0 (lo+k))[j]?=some x->RV g w x u:=by
   intro k j hk hj;obtain⟨hl,aO⟩:=bA (lo+k) (by omega);have cC:=EI (k:=lo+k) (n:=g.cp id) (st:=st') (j:=j) (by omega) hj;have hlt:g.bo id+(lo+k)*st'+j<arr.size:=by omega
   refine⟨arr[g.bo id+(lo+k)*st'+j],EA hlt,?_⟩;have mn:(f0 (lo+k))[j]?=some (f0 (lo+k))[j]:=AD (by omega);have:=aO j _ _ mn (EA hlt);refine⟨this.1,fun x hx=>?_⟩;rw[mn]at hx;obtain rfl:=BA hx;exact this.2
  have iZ:((n+m:Nat):Int)<=9223372036854775807:=by have:(n+m)*1<=(n+m)*bytes:=Uq _ fY;omega
  have gy:∀k,k<n+m->((fun k=>if k<n then f0 (lo+k) else f (k-n)) k).length=st':=by
   intro k hk;simp only;split
   ·exact(bA (lo+k) (by omega)).1
   ·exact src.len _ (by omega)
  by_cases bG:n+m<=cap
  ·-- it fits
   obtain⟨sad,scap,se,_,_⟩:=src.val;have iY:(Builtin.lenOf (a.eval y)).run P w=.ok m w:=by rw[se];rfl
   rcases hc with cP|⟨rfl,hc⟩
   ·-- no room,and nothing comes
    have nB:n=0:=(by omega);have iy:m=0:=(by omega);subst cP;subst nB;subst iy
    have kK:(Builtin.firstCells i.size 0 (a.eval y)).run P w=.ok #[] w:=by
     rw[se];cases sad with
     |none=>simp[Builtin.firstCells]
     |some q=>simp[Builtin.firstCells,loadCells,loadCellsFrom]
    have run:(Builtin.append_ #[tx,tx] o.type #[.slice (some ad) 0 0,a.eval y]).run P w=.ok (.slice (some ad) 0 0) w:=(by simp[Builtin.append_,run_underlying hu,sizeOf,typeInfo,hi,iY,kK,storeCells]);refine UZ (bo:=g.bo id) (st:=st') (cp:=g.cp id) H aQ (L2 P o a.eval x y tx _ _ _ w _ ho e1 rfl run) (by rw[cy];rfl) rfl (fun b _=>rfl) rfl rfl rfl rfl ?_;intro g' aE aK cH cn c9 bX;refine⟨⟨cn,h0,by omega,arr,ty,by rw[aK];exact hr,by rw[cH,c9];exact aZ,fun k hk=>absurd hk (P9 _)⟩,?_⟩;exact .vec _ _ _ _ _ rfl (by rw[bX,cy];exact AB _) (fun _=>⟨ad,0,rfl,AB _,.inl rfl⟩)
   ·have kK:(Builtin.firstCells i.size m (a.eval y)).run P w=.ok (Cb st' m vals).toArray w:=by
     rcases F8 m with e0|e0
     ·subst e0;rw[se];cases sad with
      |none=>simp[Builtin.firstCells,Cb]
      |some q=>simp[Builtin.firstCells,loadCells,loadCellsFrom,Cb]
     ·obtain⟨b,off,scap',e2,cJ⟩:=src.news e0;rw[e2];exact run_firstCells_some (P:=P) w i.size m ⟨b,off,none⟩ m scap' _ (by rw[FG,aJ]) cJ
    have gz:g.bo id+lo*g.st id+n*i.size+(Cb st' m vals).length<=arr.size:=(by rw[FG,aI,aJ];have:(lo+(n+m))*st'<=g.cp id*st':=Bp _ (by omega);rw[AT,AT]at this;omega);have run:=sC (P:=P) (w:=w) o.type e tx i hu hi (g.blk id) (g.bo id+lo*g.st id) n cap arr ty hr (a.eval y) m (Cb st' m vals) iY kK (sA src) bG gz (by intro k hk;rw[hu]at hk;cases hk);rw[<-e1]at run;have cW:=setRow_heap w (g.blk id) arr (arr.toList.take (g.bo id+lo*g.st id+n*i.size)++Cb st' m vals++arr.toList.drop (g.bo id+lo*g.st id+n*i.size+(Cb st' m vals).length)).toArray ty (0,0) hr;refine UZ (bo:=g.bo id+lo*st') (st:=st') (cp:=cap) H aQ (L2 P o a.eval x y tx _ _ _ w _ ho rfl rfl run) (by rw[cy];rfl) rfl (fun b hb=>setRow_other w (g.blk id) b _ hb) (by simp) rfl rfl rfl ?_;intro g' aE aK cH cn c9 bX;refine⟨JP h0 aK cH cn c9 bG cW ?_ gy ?_,?_⟩
    ·have e5:=FG st' m vals;have:(lo+cap)*st'=g.cp id*st':=(by rw[hc]);rw[AT]at this;simp only[J8,BK,Eg,EB,Array.length_toList];omega
    ·intro k j hk hj;have gu:=yzx arr.toList (Cb st' m vals) (g.bo id+lo*g.st id+n*i.size) (g.bo id+lo*st'+k*st'+j) (by simpa using gz);have gP:=aE;rw[aI,aJ]at gP;rw[J5,gu,aI,aJ];by_cases eG:k<n
     ·have cC:=EI eG hj;rw[Ap (by omega)];obtain⟨u,q1,q2,q3⟩:=aU k j eG hj;have e4:g.bo id+lo*st'+k*st'+j=g.bo id+(lo+k)*st'+j:=by rw[AT];omega
      refine⟨u,by rw[e4];simpa using q1,q2,fun x hx=>?_⟩;simp only[Ap eG]at hx;exact(q3 x hx).mono gP
     ·have e5:k*st'=n*st'+(k-n)*st':=(by rw[<-AT];congr 1;omega);have cC:=EI (k:=k-n) (n:=m) (st:=st') (j:=j) (by omega) hj;rw[Aj (by omega),Ap (by rw[FG];omega)];have e6:g.bo id+lo*st'+k*st'+j-(g.bo id+lo*st'+n*st')=(k-n)*st'+j:=(by omega);rw[e6];refine⟨_,Ir (by omega) hj,src.one _ _ (by omega) hj,fun x hx=>?_⟩;simp only[Aj eG]at hx;exact(src.rv _ _ x (by omega) hx).mono gP
    ·exact .vec _ _ _ _ _ rfl (by rw[bX,cy];exact AB _) (fun _=>⟨_,cap,rfl,bG,.inr ⟨by rw[aK,cH,cn,aI];simp,by omega⟩⟩)
  ·-- it grows
   have hm:0<m:=by omega
   obtain⟨b,off,scap,e2,cJ⟩:=src.news hm
   have ja:∃olds:List Value,olds=Cb st' n (fun k j=>arr.getD (g.bo id+(lo+k)*st'+j) undef)/\∀q u,olds[q]?=some u->w.cell? (ad.add q)=some u:=by
    refine⟨_,rfl,fun q u hq=>?_⟩;obtain⟨k,j,hk,hj,rfl,rfl⟩:=Is hq;rcases hc with cP|⟨rfl,hc⟩
    ·omega
    ·rw[En];obtain⟨u,q1,_,_⟩:=aU k j hk hj;have e4:g.bo id+lo*g.st id+(k*st'+j)=g.bo id+(lo+k)*st'+j:=by rw[aI,AT];omega
     have hlt:=(Dt.1 q1).1;simp[World.cell?,hr,e4,hlt]
   obtain⟨olds,rfl,jb⟩:=ja;have run:=run_append_grow (P:=P) w tx o.type e i z hu hi bY ad n cap _ (by rw[FG,aJ]) jb ⟨b,off,none⟩ m scap (Cb st' m vals) (by rw[FG,aJ]) cJ (by omega) iZ (growslice_fits (by omega) (by rw[ix];exact ei));have hge:=PW w (n+m) cap e;refine Ran.new (bo:=0) (st:=st') (cp:=grownCap w (n+m) cap e) H ⟨w.drew,rfl,rfl,rfl,rfl,Dd _,L2 P o a.eval x y tx _ _ _ w _ ho e1 e2 run⟩ (by rw[cy];rfl) ?_;intro g' w' aE aK cH cn c9 aN;refine⟨JP h0 aK cH cn c9 hge aN ?_ gy (fun k j hk hj=>?_),fun he=>?_⟩
   ·rw[Lo,Lo,size_zeroCells,cj];simp only[J8,FG];have:(grownCap w (n+m) cap e-(n+m))*st'+(n+m)*st'=grownCap w (n+m) cap e*st':=by rw[<-AT];congr 1;omega
    rw[AT]at this;omega
   ·have cC:=EI (k:=k) (n:=n+m) (st:=st') (j:=j) hk hj;rw[AT]at cC;rw[Cx,Pz (by simp[FG];omega)];by_cases eG:k<n
    ·have cR:=EI eG hj;rw[Pz (by simp[FG];exact cR)];obtain⟨u,q1,q2,q3⟩:=aU k j eG hj;refine⟨u,?_,q2,fun x hx=>?_⟩
     ·have:=Ir (vals:=fun k j=>arr.getD (g.bo id+(lo+k)*st'+j) undef) eG hj;have hlt:=(Dt.1 q1).1;have nC:=(Dt.1 q1).2;rw[J5,this];simp[hlt,nC]
     ·simp only[Ap eG]at hx;exact(q3 x hx).mono aE
    ·have e5:k*st'=n*st'+(k-n)*st':=(by rw[<-AT];congr 1;omega);rw[Array.getElem?_append_right (by simp[FG];omega)];simp only[J8,FG];have e6:k*st'+j-n*st'=(k-n)*st'+j:=by omega
     rw[e6];refine⟨_,by rw[J5];exact Ir (by omega) hj,src.one _ _ (by omega) hj,fun x hx=>?_⟩;simp only[Aj eG]at hx;exact(src.rv _ _ x (by omega) hx).mono aE
   ·rw[cy]at he;exact .vec _ _ _ _ _ rfl (by rw[he];exact AB _) (fun _=>L0 aK cH c9 hge)
end
section
variable {E:Nat->Aa}{P:Program}{g:Gh}{h:Ax}{w:World}{t:List Aa}{a:Act}
theorem PX{s:Sem Next}{rd:List Nat}{p:Prop}{i:Nat}{o':Ai}{x:Aa}{v:Value}{n:Next}{w1:World}{ob ob0:Obj}(H:HR E g h w)(aQ:(h i).owned=true)(hd:w1=w\/w1=w.drew) (hb:w.heap[g.blk i]?=some ob0)(hr:s.run P w=.ok n { w1 with heap:=w1.heap.setIfInBounds (g.blk i) ob }) (hn:n=.value v\/(n=.skip/\v=undef))(bX:o'.ep=(h i).ep) (cE:∀w',GLe g w g w'->w'.heap[g.blk i]?=some ob->OR g w' i o'/\RV g w' x v):Ran E P s g h w ⟨p,rd,x,some (i,o')⟩:=by
 have cz:=H.sep i aQ;have hh:w1.heap=w.heap:=by rcases hd with rfl|rfl<;>rfl
 have gK:w1.os=w.os:=by rcases hd with rfl|rfl<;>rfl
 have nD:w1.tape=w.tape:=by rcases hd with rfl|rfl<;>rfl
 have hout:w1.output=w.output:=by rcases hd with rfl|rfl<;>rfl
 have hlt:g.blk i<w.heap.size:=(Dt.1 hb).1
 let w':World:={ w1 with heap:=w1.heap.setIfInBounds (g.blk i) ob }
 have jc:∀b,b≠g.blk i->w'.heap[b]?=w.heap[b]?:=fun b aW=>by show(w1.heap.setIfInBounds (g.blk i) ob)[b]?=_;rw[hh];simp[Ne.symm aW]
 have bW:w'.heap[g.blk i]?=some ob:=by show(w1.heap.setIfInBounds (g.blk i) ob)[g.blk i]?=_;rw[hh];simp[hlt]
 have aJ:w'.heap.size=w.heap.size:=by show(w1.heap.setIfInBounds (g.blk i) ob).size=_;rw[hh];simp
 have aE:GLe g w g w':=⟨fun b aW=>⟨aW,jc b (fun e=>cz (e▸aW))⟩,fun _=>AB _,fun _ _=>⟨rfl,rfl,rfl,rfl⟩⟩;obtain⟨hO,hV⟩:=cE w' aE bW;obtain⟨H',S'⟩:=HR.upd (g':=g) (w':=w') (i:=i) (o':=o') H aE (fun _ _=>rfl) ((H.ep i).trans bX.symm) (fun b aW aH=>jc b (aH aQ)) (by omega) hO (fun _=>.inl ⟨aQ,rfl⟩) (fun _=>cz) (fun b aW=>.inl aW) (fun b aW=>by rw[aJ];exact H.fzb b aW) gK nD hout (by rcases hd with rfl | rfl;exact AB _;exact Dd _);exact⟨n,v,w',g,hr,hn,hV,H',S',fun e=>by cases e⟩
theorem sE{o:Oper}{ty:TypeId}{s:Nat}(H:HR E g h w)(ho:o.op=.makeMap ty none) :
  Ran E P (execOp a.eval o) g h w ((Ak.mkmap s).req (Ag E t) h):=by
 simp only[Ak.req];refine Ran.new (ob:=.map #[] 0) (bo:=0) (st:=0) (cp:=0) (v:=.map (some w.heap.size)) H ⟨w,rfl,rfl,rfl,rfl,AB _,?_⟩ rfl ?_
 ·have e:(Instr.makeMap ty none).run P w=.ok (.map (some w.heap.size)) (w.alloc (.map #[] 0)):=rfl;simp[execOp,ho,e,Result.andThen]
 intro g' w' aE aK _ _ _ aN;refine⟨⟨#[],by rw[aK];exact aN,rfl,fun k e m he=>by simp at he⟩,fun he=>?_⟩;exact .mp _ _ _ rfl (by rw[he];exact AB _) (fun _=>by rw[aK])
def D2:TypeDesc->Option Nat
 |.bool=>some 0
 |.int _=>some 1
 |.string=>some 2
 |_=>none
inductive Va(P:Program)(kt:TypeId)(kd:Nat):Prop where
 |one (d:TypeDesc) (hd:P.underlying kt=some d) (hk:D2 d=some kd)
 |row (sh:List Nat) (hw:(match P.underlying kt with | some (.array _ _) | some (.struct _)=>true | _=>false)=true) (hs:eqFields P 9 kt=some sh) (h4:∀k∈sh,k<4) (hk:kd=4+encK sh)
theorem Vb:∀{l m:List Nat},(∀k∈l,k<4)->(∀k∈m,k<4)->encK l=encK m->l=m
 |[],[],_,_,_=>rfl
 |[],k :: m,_,_,h=>by simp only[encK]at h;omega
 |k :: l,[],_,_,h=>by simp only[encK]at h;omega
 |k :: l,j :: m,hl,hm,h=>by
  simp only[encK]at h;have h1:=hl k (BL ..);have h2:=hm j (BL ..);have e1:k=j:=by omega
  have e2:l=m:=Vb (fun x hx=>hl x (Db _ hx)) (fun x hx=>hm x (Db _ hx)) (by omega);rw[e1,e2]
theorem Vc(x:Aa):x.kind<4:=by cases x<;>simp[Aa.kind]
theorem sF(l:List Aa):∀k∈l.map Aa.kind,k<4:=fun k h=>by obtain⟨x,_,rfl⟩:=P5.1 h;exact Vc x
theorem PY{kt:TypeId}{kd:Nat}(hk:D0 P kt=some kd):Va P kt kd:=by
 unfold D0 at hk
 have wide:∀(h:(match P.underlying kt with | some (.array _ _) | some (.struct _)=>true | _=>false)=true),(match eqFields P 9 kt with
  |some l=>if l.all (fun k=>Nat.blt k 4) then some (4+encK l) else none
  | none=>none)=some kd->Va P kt kd:=by
  intro hw h;cases hs:eqFields P 9 kt with
  |none=>simp[hs]at h
  |some sh =>
   simp only[hs]at h;split at h
   ·rename_i ha;exact .row sh hw hs (fun k hk=>by have:=GM.1 ha k hk;simpa [GV] using this) (BA h).symm
   ·cases h
 cases hu:P.underlying kt with
 |none=>simp[hu]at hk
 |some d =>simp only[hu]at hk;cases d<;>simp only at hk<;>(try (cases hk;done))<;>first|exact .one _ hu hk|exact wide (by rw[hu]) hk
theorem Ve{x:Aa}{kd:Nat}(h:x.kkind=kd)(hk:kd<4):x.kind=kd:=by cases x<;>simp only[Aa.kkind]at h<;>first|exact h|omega
theorem Vf{d:TypeDesc}{kd:Nat}(hd:D2 d=some kd):kd<4:=by cases d<;>simp[D2]at hd<;>omega
theorem Vg{x y:Aa}{u v:Value}{c:Bool}{d:TypeDesc}{kd:Nat}(hd:D2 d=some kd)(cr:x.kind=kd)(he:Hb x y=some c)(hx:RV g w x u)(hy:RV g w y v) :
  Instr.sameNow d u v=some c/\(c=true->u=v):=by
 unfold Hb at he;split at he
 ·simp only[Aa.kind]at cr;subst cr;cases d<;>simp[D2]at hd
 ·rename_i k n k' n';obtain rfl:=DK hx;obtain rfl:=DK hy;simp only[Aa.kind]at cr;subst cr;split at he
  ·rename_i e;subst e;obtain rfl:=BA he;cases d<;>simp[D2]at hd;refine⟨by simp[Instr.sameNow];first|done|rfl,fun e=>by simp at e;rw[e]⟩
  ·cases he
 ·obtain rfl:=DO hx;obtain rfl:=DO hy;simp only[Aa.kind]at cr;subst cr;obtain rfl:=BA he;cases d<;>simp[D2]at hd;refine⟨by simp[Instr.sameNow],fun e=>by simp at e;rw[e]⟩
 ·rename_i a b;obtain⟨p,rfl,hp⟩:=FE hx;obtain⟨q,rfl,hq⟩:=FE hy;simp only[Aa.kind]at cr;subst cr;obtain rfl:=BA he;cases d<;>simp[D2]at hd
  have mo:(p==q)=decide (a=b):=by
   by_cases e:a=b
   ·have:p=q:=by
     obtain⟨⟨p⟩⟩:=p;obtain⟨⟨q⟩⟩:=q;simp at hp hq;subst hp;subst hq;rw[e]
    simp[e,(MapKept.bytes_beq p q).2 this]
   ·have:p≠q:=fun e'=>e (by rw[<-hp,<-hq,e'])
    have h2:(p==q)=false:=by
     cases hh:p==q
     ·rfl
     ·exact absurd ((MapKept.bytes_beq p q).1 hh) this
    simp[e,h2]
  refine⟨by simp[Instr.sameNow,mo],fun e=>?_⟩;rw[<-mo]at e;rw[(MapKept.bytes_beq p q).1 e]
 ·cases he
theorem Vh{X:Aa}{u:Value}{d:TypeDesc}{kd:Nat}(hd:D2 d=some kd)(cr:X.kind=kd)(hx:RV g w X u):∀(es:List (Aa×Aa)) (ms:List MapEntry) (i:Nat) {r:Option (Nat×Aa)},ms.length=es.length -> (∀(k:Nat) (e:Aa×Aa) (m:MapEntry),es[k]?=some e->ms[k]?=some m->RV g w e.1 m.key/\RV g w e.2 m.val)->BC X es i=some r -> (r=none/\Instr.findNow d u ms i=some none)\/∃j m v,r=some (i+j,v)/\ms[j]?=some m/\m.key=u/\RV g w v m.val/\Instr.findNow d u ms i=some (some (i+j,m.val))
 |[],[],i,r,_,_,hf=>.inl ⟨by simp only[BC,AX]at hf;exact hf.symm,rfl⟩
 |e :: es,m :: ms,i,r,hl,hr,hf=>by
  have h0:=hr 0 e m rfl rfl;simp only[BC]at hf;split at hf
  ·rename_i hk;obtain⟨h1,h2⟩:=Vg hd cr hk hx h0.1;obtain rfl:=BA hf;exact .inr ⟨0,m,e.2,rfl,rfl,(h2 rfl).symm,h0.2,by simp[Instr.findNow,h1]⟩
  ·rename_i hk;obtain⟨h1,_⟩:=Vg hd cr hk hx h0.1;rcases Vh hd cr hx es ms (i+1) (by simpa using hl) (fun k e' m' he hm=>hr (k+1) e' m' (by simpa using he) (by simpa using hm)) hf with ⟨e1,e2⟩ | ⟨j,m',v,e1,e2,e3,e4,e5⟩
   ·exact .inl ⟨e1,by simp[Instr.findNow,h1,e2]⟩
   ·exact .inr ⟨j+1,m',v,by rw[e1];simp;omega,by simpa using e2,e3,e4,by simp[Instr.findNow,h1,e5];omega⟩
  ·cases hf
 |[],_ :: _,_,_,h,_,_=>by simp at h
 |_ :: _,[],_,_,h,_,_=>by simp at h
theorem sG{kt:TypeId}{d:TypeDesc}{kd:Nat}{k:Value}(hu:P.underlying kt=some d)(hd:D2 d=some kd)(e:Bool)(n:Nat):(Instr.checkKey e (n+1) kt k).run P w=.ok () w:=by unfold Instr.checkKey;simp only[Sem.run_bind,run_underlying hu,Result.andThen];cases d<;>simp[D2]at hd<;>cases k<;>rfl
theorem Vi{kt:TypeId}{sh:List Nat}(hs:eqFields P 9 kt=some sh)(hq:yzl P kt=some true){l:List Aa}{u:Value}(hl:l.map Aa.kind=sh)(hx:RV g w (.agg l) u):∀(es:List (Aa×Aa)) (ms:List MapEntry) (i:Nat) {r:Option (Nat×Aa)},ms.length=es.length -> (∀(k:Nat) (e:Aa×Aa) (m:MapEntry),es[k]?=some e->ms[k]?=some m->RV g w e.1 m.key/\RV g w e.2 m.val)->BC (.agg l) es i=some r -> (r=none/\(Instr.findAsking kt u ms i).run P w=.ok none w)\/∃j m v,r=some (i+j,v)/\ms[j]?=some m/\m.key=u/\RV g w v m.val/\(Instr.findAsking kt u ms i).run P w=.ok (some (i+j,m.val)) w
 |[],[],i,r,_,_,hf=>.inl ⟨by simp only[BC,AX]at hf;exact hf.symm,by simp[Instr.findAsking]⟩
 |e :: es,m :: ms,i,r,hn,hr,hf=>by
  have h0:=hr 0 e m rfl rfl
  have key:∀c,Hb (.agg l) e.1=some c->(Op.equal kt u m.key).run P w=.ok c w/\(c=true->u=m.key):=by
   intro c hc;obtain⟨e1,e2⟩:=e;cases e1<;>simp only[Hb]at hc<;>(try (cases hc;done));rename_i m';obtain⟨h0,_⟩:=h0;simp only at h0;generalize m.key=v at *;cases hx with
   |agg _ xs dO iX =>
    cases h0 with
    |agg _ ys iw kI =>have eW:RVs g w l xs.toList:=⟨by simpa using dO,fun i x v hx hv=>iX i x v hx (by simpa using hv)⟩;have jW:RVs g w m' ys.toList:=⟨by simpa using iw,fun i x v hx hv=>kI i x v hx (by simpa using hv)⟩;obtain⟨agg,bN,_,aG⟩:=UW (P:=P) (g:=g) (w:=w) 9 kt sh hs;obtain rfl:agg=true:=(by rw[hq]at bN;exact(BA bN).symm);have hq:=aG 10000 (by omega) l m' _ _ c w hl eW jW hc;simp only[D1,Bw,J1]at hq;refine⟨by simpa [Op.equal,Op.maxDepth] using hq,fun e=>?_⟩;subst e;have:=UX eW jW hc;rw[Array.toList_inj.1 this]
  simp only[BC]at hf;split at hf
  ·rename_i hk;obtain⟨h1,h2⟩:=key _ hk;obtain rfl:=BA hf;exact .inr ⟨0,m,e.2,rfl,rfl,(h2 rfl).symm,h0.2,by simp[Instr.findAsking,h1,Result.andThen]⟩
  ·rename_i hk;obtain⟨h1,_⟩:=key _ hk;rcases Vi hs hq hl hx es ms (i+1) (by simpa using hn) (fun k e' m' he hm=>hr (k+1) e' m' (by simpa using he) (by simpa using hm)) hf with ⟨e1,e2⟩ | ⟨j,m',v,e1,e2,e3,e4,e5⟩
   ·exact .inl ⟨e1,by simp[Instr.findAsking,h1,e2,Result.andThen]⟩
   ·exact .inr ⟨j+1,m',v,by rw[e1];simp;omega,by simpa using e2,e3,e4,by simp[Instr.findAsking,h1,e5,Result.andThen];omega⟩
  ·cases hf
 |[],_ :: _,_,_,h,_,_=>by simp at h
 |_ :: _,[],_,_,h,_,_=>by simp at h
theorem Vj{kt:TypeId}{sh:List Nat}(hw:(match P.underlying kt with | some (.array _ _) | some (.struct _)=>true | _=>false)=true):yzl P kt=some true:=by
 cases hu:P.underlying kt with
 |none=>simp[hu]at hw
 |some d=>cases d<;>simp[hu]at hw<;>simp[yzl,hu]
theorem PZ{X:Aa}{u:Value}{sh:List Nat}{kd:Nat}(h4:∀k∈sh,k<4)(hk:kd=4+encK sh)(hX:X.kkind=kd)(hx:RV g w X u):∃l xs,X=.agg l/\u=.agg xs/\l.map Aa.kind=sh/\RVs g w l xs.toList:=by
 subst hk;have hlt:=Vc X;cases X<;>simp only[Aa.kkind]at hX<;>(try (simp only[Aa.kind]at hX hlt;omega));rename_i l;cases hx with
 |agg _ xs dO iX=>exact⟨l,xs,rfl,rfl,Vb (sF l) h4 (by omega),⟨by simpa using dO,fun i x v hx hv=>iX i x v hx (by simpa using hv)⟩⟩
theorem Qa{kt:TypeId}{kd:Nat}{X:Aa}{u:Value}(hk:D0 P kt=some kd)(hX:X.kkind=kd)(hx:RV g w X u){es:List (Aa×Aa)}{ms:List MapEntry}{r:Option (Nat×Aa)}(hn:ms.length=es.length)(hr:∀(k:Nat) (e:Aa×Aa) (m:MapEntry),es[k]?=some e->ms[k]?=some m->RV g w e.1 m.key/\RV g w e.2 m.val) (hf:BC X es 0=some r) : (r=none/\(Instr.findKey kt u ms).run P w=.ok none w)\/∃j m v,r=some (j,v)/\ms[j]?=some m/\m.key=u/\RV g w v m.val/\(Instr.findKey kt u ms).run P w=.ok (some (j,m.val)) w:=by
 cases PY hk with
 |one d hd hk =>
  rcases Vh hk (Ve hX (Vf hk)) hx es ms 0 hn hr hf with ⟨e1,e2⟩|⟨j,m,v,e1,e2,e3,e4,e5⟩
  ·exact .inl ⟨e1,MapKept.run_findKey hd e2⟩
  ·exact .inr ⟨j,m,v,by simpa using e1,e2,e3,e4,MapKept.run_findKey hd (by simpa using e5)⟩
 |row sh hw hs h4 hk =>
  obtain⟨l,xs,rfl,rfl,hl,_⟩:=PZ h4 hk hX hx;rcases Vi hs (Vj (sh:=sh) hw) hl hx es ms 0 hn hr hf with ⟨e1,e2⟩|⟨j,m,v,e1,e2,e3,e4,e5⟩
  ·exact .inl ⟨e1,by rw[run_findKey_eq w hw];exact e2⟩
  ·exact .inr ⟨j,m,v,by simpa using e1,e2,e3,e4,by rw[run_findKey_eq w hw];simpa using e5⟩
theorem JQ{kt:TypeId}{kd:Nat}{X:Aa}{u:Value}(hk:D0 P kt=some kd)(hX:X.kkind=kd)(hx:RV g w X u)(e:Bool):(Instr.checkKey e 10000 kt u).run P w=.ok () w:=by
 cases PY hk with
 |one d hd hk=>exact sG hd hk e _
 |row sh hw hs h4 hk =>
  obtain⟨l,xs,rfl,rfl,hl,eW⟩:=PZ h4 hk hX hx;obtain⟨agg,bN,_,aG⟩:=s9 (P:=P) 9 kt sh hs;obtain rfl:agg=true:=by rw[Vj (sh:=sh) hw]at bN;exact(BA bN).symm
  have:=aG 10000 (by omega) xs.toList e w (by have:=eW.1;rw[<-hl,JC];omega);simpa [D1] using this
theorem Qb{id ep:Nat}{v:Value}(H:HR E g h w)(hv:RV g w (.mp id ep) v)(he:ep=(h id).ep):v=.map (some (g.blk id)):=by
 cases hv with
 |mp _ _ _ _ _ hp=>exact hp (by rw[H.ep id];exact he)
theorem Vk{X:Aa}{v:Value}(H:HR E g h w)(hv:RV g w X v)(aB:(Dv X h).ok) : (v=.map none/\(Dv X h).es=[])\/∃r arr,v=.map (some r)/\w.heap[r]?=some (.map arr (Dv X h).es.length)/\arr.size=(Dv X h).es.length /\ ∀(k:Nat) (e:Aa×Aa) (m:MapEntry),(Dv X h).es[k]?=some e->arr[k]?=some m->RV g w e.1 m.key/\RV g w e.2 m.val/\m.born=k:=by
 cases X<;>simp only[Dv]at aB |-<;>(try (exact aB.elim))
 case nilmp=>cases hv;exact .inl ⟨rfl,trivial⟩
 case mp id ep =>cases hh:h id<;>simp only[hh]at aB |-<;>(try (exact aB.elim));rename_i ep' es;have hO:=H.obj id;rw[hh]at hO;obtain⟨arr,h1,h2,h3⟩:=hO;exact .inr ⟨g.blk id,arr,Qb H hv (by rw[hh];exact aB),h1,h2,h3⟩
theorem sH{et:TypeId}{zero:Aa}(hz:Lv P et zero=true):∃z,(zeroValue et).run P w=.ok z w/\RV g w zero z:=by
 unfold Lv at hz;cases hi:P.info? et with
 |none=>simp[hi]at hz
 |some i =>
  cases bY:i.zero with
  |none=>obtain⟨⟩:=i;simp only at bY;subst bY;simp[hi]at hz
  |some z =>
   have iv:JL z zero=true:=by obtain⟨⟩:=i;simp only at bY;subst bY;simpa [hi] using hz
   exact⟨z,by simp[zeroValue,typeInfo,hi,bY],UA iv⟩
theorem Qd{x:Aa}{v:Value}{b:Bool}(hx:RV g w x v):RV g w (.tup [x,.bool b]) (.tuple #[v,.bool b]):=by
 refine .tup _ _ rfl fun i y u hy hu=>?_
 match i with
 |0=>simp at hy hu;subst hy;subst hu;exact hx
 |1=>simp at hy hu;subst hy;subst hu;exact .bool _
 |n+2=>simp at hy
theorem sI{o:Oper}{ty kt et:TypeId}{kd:Nat}{cok:Bool}{zero:Aa}{x k:Operand}{x' k':Ad}(H:HR E g h w)(ht:RVs g w t a.tmps.toList)(ho:o.op=.lookup ty x k cok)(hx:A7 x x'=true)(hk:A7 k k'=true)(hu:P.underlying ty=some (.map kt et)) (cr:D0 P kt=some kd) (hz:Lv P et zero=true)(aB:((Ak.mlook kd cok zero x' k').req (Ag E t) h).ok):Ran E P (execOp a.eval o) g h w ((Ak.mlook kd cok zero x' k').req (Ag E t) h):=by
 have rx:=AO H ht hx;have rk:=AO H ht hk;obtain⟨z,mq,iA⟩:=sH (g:=g) (w:=w) hz;simp only[Ak.req,FC]at aB |-;generalize Ag E t x'=X at *;generalize Ag E t k'=K at *;generalize fX:a.eval x=vx at rx;generalize iB:a.eval k=vk at rk;cases hf:BC K (Dv X h).es 0 with
 |none=>simp only[hf,Req.fail]at aB
 |some r =>
  have bE:(Dv X h).ok/\K.kkind=kd:=by cases r<;>simp only[hf]at aB<;>exact aB
  rcases Vk H rx bE.1 with ⟨rfl,iC⟩|⟨r',arr,rfl,hb,aJ,hr⟩
  ·rw[iC]at hf
   have cX:(Instr.findKey kt vk []).run P w=.ok none w:=by
    rcases Qa cr bE.2 rk (es:=[]) (ms:=[]) rfl (fun k e m he=>by simp at he) hf with ⟨_,h2⟩ | ⟨j,m,v,_,h2,_⟩
    ·exact h2
    ·simp at h2
   simp only[BC,AX]at hf;subst hf;simp only[iC];refine Ran.same H (v:=if cok then .tuple #[z,.bool false] else z) ?_ ?_
   ·simp[execOp,ho,fX,iB,Instr.lookup,run_underlying hu,JQ cr bE.2 rk,cX,mq,Result.andThen]
   ·cases cok;·exact iA
    ·exact Qd iA
  ·rcases Qa cr bE.2 rk (ms:=arr.toList) (by simpa using aJ) (fun k e m he hm=>⟨(hr k e m he (by simpa using hm)).1,(hr k e m he (by simpa using hm)).2.1⟩) hf with ⟨rfl,h2⟩ | ⟨j,m,v,rfl,h2,h3,h4,h5⟩
   ·simp only;refine Ran.same H (v:=if cok then .tuple #[z,.bool false] else z) ?_ ?_
    ·simp[execOp,ho,fX,iB,Instr.lookup,run_underlying hu,MapKept.run_getObj_map hb,JQ cr bE.2 rk,h2,mq,Result.andThen]
    ·cases cok;·exact iA
     ·exact Qd iA
   ·simp only;refine Ran.same H (v:=if cok then .tuple #[m.val,.bool true] else m.val) ?_ ?_
    ·simp[execOp,ho,fX,iB,Instr.lookup,run_underlying hu,MapKept.run_getObj_map hb,JQ cr bE.2 rk,h5,Result.andThen]
    ·cases cok;·exact h4
     ·exact Qd h4
theorem sJ{x:Aa}{v:Value}(hk:x.kind<3)(hv:RV g w x v)(n:Nat):Instr.sameBits n v v=true:=by cases hv<;>simp only[Aa.kind]at hk<;>(try omega)<;>(try (simp[Instr.sameBits];done));simp[Instr.sameBits,MapKept.bytes_beq]
theorem sK{K:Aa}{kd:Nat}{d:TypeDesc}{v:Value}(hd:D2 d=some kd)(hk:K.kind=kd)(hv:RV g w K v)(n:Nat):Instr.sameBits n v v=true:=by
 cases hv<;>simp only[Aa.kind]at hk<;>(try (simp[Instr.sameBits];done))
 case str b _=>simp[Instr.sameBits,MapKept.bytes_beq]
 all_goals (subst hk;cases d<;>simp[D2]at hd)
theorem Vl:∀{l:List Aa} {xs:List Value} (n:Nat),(∀x∈l,x.kind<3)->RVs g w l xs->(xs.zip xs).all (fun p=>Instr.sameBits n p.1 p.2)=true
 |[],xs,n,_,hx=>by have:xs=[]:=Un (by simpa using hx.1);rw[this];rfl
 |x :: l,[],n,_,hx=>by have:=hx.1;simp at this
 |x :: l,v :: xs,n,hk,hx=>by simp only[List.zip_cons_cons,List.all_cons,AE];exact⟨sJ (hk x (BL ..)) (hx.2 0 x v rfl rfl) n,Vl n (fun y hy=>hk y (Db _ hy)) (by have:=hx.drop 1;simpa using this)⟩
theorem sL:∀(d:Nat) (t:TypeId) (sh:List Nat),eqFields P d t=some sh->∀k∈sh,k<3:=by
 intro d;induction d with
 |zero=>intro t sh h;simp[eqFields]at h
 |succ d ih =>
  intro t sh h;simp only[eqFields]at h;cases hu:P.underlying t with
  |none=>simp[hu]at h
  |some q =>
   simp only[hu]at h;cases q<;>simp only at h<;>(try (cases h;done))
   case struct fs =>
    split at h
    ·cases h
    ·have go:∀(fl:List Field) (n:Nat) (sh:List Nat),Dz P (eqFields P d) fl n=some sh->∀k∈sh,k<3:=by
      intro fl;induction fl with
      |nil=>intro n sh h1 k hk;simp only[Dz,AX]at h1;subst h1;cases hk
      |cons f fl ihf =>
       intro n sh h1 k hk;simp only[Dz]at h1;split at h1
       ·cases hm:eqFields P d f.type with
        |none=>simp[hm]at h1
        |some sm =>
         simp only[hm]at h1;split at h1
         ·cases hg:Dz P (eqFields P d) fl (n+sm.length) with
          |none=>simp[hg]at h1
          |some sl =>
           simp only[hg,AX]at h1;subst h1;rcases Cp.1 hk with hk|hk
           ·exact ih _ _ hm k hk
           ·exact ihf _ _ hg k hk
         ·cases h1
       ·cases h1
     exact go fs.toList 0 sh h
   case array n el =>
    cases hm:eqFields P d el with
    |none=>simp[hm]at h
    |some sm =>
     simp only[hm]at h;split at h
     ·obtain rfl:=BA h;intro k hk;obtain⟨l,hl,dr⟩:=List.mem_flatten.1 hk;obtain⟨_,rfl⟩:=List.mem_replicate.1 hl;exact ih _ _ hm k dr
     ·cases h
   all_goals
    obtain rfl:=BA h;intro k hk;simp at hk;omega
theorem sM{kt:TypeId}{kd:Nat}{X:Aa}{u:Value}(hk:D0 P kt=some kd)(hX:X.kkind=kd)(hx:RV g w X u):(Instr.keyThatStays u u).run P w=.ok u w:=by
 have:Instr.sameBits 10000 u u=true:=by
  cases PY hk with
  |one d hd hk=>exact sK hk (Ve hX (Vf hk)) hx _
  |row sh hw hs h4 hk =>obtain⟨l,xs,rfl,rfl,hl,eW⟩:=PZ h4 hk hX hx;simp only[Instr.sameBits,AE];refine⟨by simp,Vl _ (fun x hx=>?_) eW⟩;exact sL 9 kt sh hs _ (hl▸Uz hx)
 simp[Instr.keyThatStays,this]
theorem Vm{o:Oper}{ty kt et:TypeId}{kd:Nat}{x k v:Operand}{x' k' v':Ad}(H:HR E g h w)(ht:RVs g w t a.tmps.toList)(ho:o.op=.mapUpdate ty x k v\/o.op=.insert ty x k v)(hx:A7 x x'=true)(hk:A7 k k'=true)(hv:A7 v v'=true)(hu:P.underlying ty=some (.map kt et)) (cr:D0 P kt=some kd)(aB:((Ak.mupd kd x' k' v').req (Ag E t) h).ok):Ran E P (execOp a.eval o) g h w ((Ak.mupd kd x' k' v').req (Ag E t) h):=by
 have rx:=AO H ht hx;have rk:=AO H ht hk;have rv:=AO H ht hv;simp only[Ak.req,Gf]at aB |-;generalize Ag E t x'=X at *;generalize Ag E t k'=K at *;generalize Ag E t v'=V at *;generalize fX:a.eval x=vx at rx;generalize iB:a.eval k=vk at rk;generalize gL:a.eval v=vv at rv;cases X<;>simp only[Req.fail]at aB |-;rename_i id ep;cases hh:h id<;>simp only[hh]at aB |-<;>(try (exact aB.elim));rename_i ep' es;have hO:=H.obj id;rw[hh]at hO;obtain⟨arr,hb,aJ,hr⟩:=hO;have aQ:(h id).owned=true:=by rw[hh];rfl
 cases hf:BC K es 0 with
 |none=>simp only[hf]at aB
 |some r =>
  have bE:ep=ep'/\K.kkind=kd:=by cases r<;>simp only[hf]at aB<;>exact aB
  obtain rfl:=Qb H rx (by rw[hh];exact bE.1);rcases Qa cr bE.2 rk (ms:=arr.toList) (by simpa using aJ) (fun k e m he hm=>⟨(hr k e m he (by simpa using hm)).1,(hr k e m he (by simpa using hm)).2.1⟩) hf with ⟨rfl,h2⟩ | ⟨j,m,v0,rfl,h2,h3,h4,h5⟩
  ·simp only;refine PX (n:=.skip) (v:=undef) (ob:=.map (arr.push { key:=vk,val:=vv,born:=es.length }) (es.length+1)) H aQ (.inl rfl) hb ?_ (.inr ⟨rfl,rfl⟩) (by rw[hh];rfl) ?_
   ·rcases ho with ho|ho<;>simp[execOp,ho,fX,iB,gL,Instr.mapUpdate,run_underlying hu,MapKept.run_getObj_map hb,JQ cr bE.2 rk,h2,MapKept.run_setObj_map _ hb,Result.andThen]
   ·intro w' aE jd;refine⟨⟨arr.push { key:=vk,val:=vv,born:=es.length },by rw[jd];simp,by simp[aJ],fun i e m he hm=>?_⟩,.top _⟩;rw[Lg]at hm;rw[List.getElem?_append]at he;by_cases hi:i<es.length
    ·rw[Ap hi]at he;rw[Aj (by omega)]at hm;obtain⟨q1,q2,q3⟩:=hr i e m he hm;exact⟨q1.mono aE,q2.mono aE,q3⟩
    ·rw[Aj hi]at he;have bC:i=es.length:=(by have:=(AN.1 he).1;simp at this;omega);subst bC;rw[Ap aJ.symm]at hm;simp at he hm;subst he;subst hm;exact⟨rk.mono aE,rv.mono aE,rfl⟩
  ·simp only;have hj:arr[j]?=some m:=by simpa using h2
   have cx:=sM cr bE.2 rk;refine PX (n:=.skip) (v:=undef) (ob:=.map (arr.modify j fun e=>{ e with key:=vk,val:=vv }) es.length) H aQ (.inl rfl) hb ?_ (.inr ⟨rfl,rfl⟩) (by rw[hh];rfl) ?_
   ·rcases ho with ho|ho<;>simp[execOp,ho,fX,iB,gL,Instr.mapUpdate,run_underlying hu,MapKept.run_getObj_map hb,JQ cr bE.2 rk,h5,hj,h3,cx,MapKept.run_setObj_map _ hb,Result.andThen]
   ·intro w' aE jd;refine⟨⟨arr.modify j fun e=>{ e with key:=vk,val:=vv },by rw[jd];simp,by simp[aJ],fun i e m' he hm=>?_⟩,.top _⟩;rw[PD]at hm;rw[JB]at he;by_cases hi:j=i
    ·subst hi;simp only[Bw]at he hm;split at he
     ·simp[hj]at he hm;subst he;subst hm;obtain⟨_,_,q3⟩:=hr j (es[j]'(by assumption)) m (AD _) hj;exact⟨rk.mono aE,rv.mono aE,q3⟩
     ·cases he
    ·rw[Aj hi]at he hm;obtain⟨q1,q2,q3⟩:=hr i e m' he hm;exact⟨q1.mono aE,q2.mono aE,q3⟩
theorem sN{o:Oper}{args:Array Operand}{ats:Array TypeId}{x:Operand}{x':Ad}{ty kt et:TypeId}(H:HR E g h w)(ht:RVs g w t a.tmps.toList)(ho:o.op=.call { callee:=.builtin .len,args,argTypes:=ats })(ha:args=#[x])(dA:ats=#[ty])(hu:P.underlying ty=some (.map kt et)) (hx:A7 x x'=true)(aB:((Ak.mlen x').req (Ag E t) h).ok):Ran E P (execOp a.eval o) g h w ((Ak.mlen x').req (Ag E t) h):=by
 have rx:=AO H ht hx;subst ha;subst dA;simp only[Ak.req]at aB |-;generalize Ag E t x'=X at *;generalize hv:a.eval x=v at rx;rcases Vk H rx aB with ⟨rfl,iC⟩|⟨r',arr,rfl,hb,aJ,hr⟩
 ·rw[iC];exact Ran.same H (v:=.int .i64 0) (by simp[execOp,ho,hv,resolve,invoke,builtin,Builtin.len_,run_underlying hu,goInt]) (.int _ _)
 ·refine Ran.same H (v:=.int .i64 arr.size) (by simp[execOp,ho,hv,resolve,invoke,builtin,Builtin.len_,run_underlying hu,goInt,MapKept.run_getObj_map hb,Result.andThen]) ?_;rw[aJ];exact .int _ _
theorem sO{o:Oper}{ty kt et:TypeId}{s:Nat}{x:Operand}{x':Ad}(H:HR E g h w)(ht:RVs g w t a.tmps.toList)(ho:o.op=.range ty x)(hx:A7 x x'=true)(hu:P.underlying ty=some (.map kt et)) (aB:((Ak.mrange s x').req (Ag E t) h).ok):Ran E P (execOp a.eval o) g h w ((Ak.mrange s x').req (Ag E t) h):=by
 have rx:=AO H ht hx;simp only[Ak.req,JG]at aB |-;generalize Ag E t x'=X at *;generalize hv:a.eval x=v at rx;cases X<;>simp only[Req.fail]at aB |-
 case nilmp =>
  cases rx;refine Ran.new (ob:=.mapIter none 0 #[] 0) (bo:=0) (st:=0) (cp:=0) (v:=.pointer (some ⟨w.heap.size,0,none⟩)) H ⟨w,rfl,rfl,rfl,rfl,AB _,?_⟩ rfl ?_
  ·simp[execOp,ho,hv,Instr.range,run_underlying hu,Result.andThen]
  intro g' w' aE aK _ _ _ aN;exact⟨by show w'.heap[g'.blk s]?=_;rw[aK];exact aN,fun he=>.ptr _ _ _ _ rfl (by rw[he];exact AB _) (fun _=>by rw[aK])⟩
 case mp id ep =>
  cases hh:h id<;>simp only[hh]at aB |-<;>(try (exact aB.elim));rename_i ep' es;have hO:=H.obj id;rw[hh]at hO;obtain⟨arr,hb,aJ,hr⟩:=hO;obtain⟨rfl,cQ⟩:=aB;have cy:g.ep id=ep:=by rw[H.ep id,hh];rfl
  obtain rfl:=Qb H rx (by rw[hh];rfl);refine Ran.new (ob:=.mapIter (some (g.blk id)) es.length #[] es.length) (bo:=0) (st:=0) (cp:=0) (v:=.pointer (some ⟨w.heap.size,0,none⟩)) H ⟨w,rfl,rfl,rfl,rfl,AB _,?_⟩ rfl ?_
  ·simp[execOp,ho,hv,Instr.range,run_underlying hu,Result.andThen,MapKept.run_getObj_map hb]
  intro g' w' aE aK _ _ _ aN;have ed:=aE.ep id;refine⟨⟨by omega,g.blk id,fun e=>((aE.same id (by omega)).1).symm,by rw[aK];exact aN⟩,fun he=>.ptr _ _ _ _ rfl (by rw[he];exact AB _) (fun _=>by rw[aK])⟩
theorem sP{o:Oper}{x:Operand}{x':Ad}(H:HR E g h w)(ht:RVs g w t a.tmps.toList)(ho:o.op=.entry x)(hx:A7 x x'=true)(aB:((Ak.mentry x').req (Ag E t) h).ok):Ran E P (execOp a.eval o) g h w ((Ak.mentry x').req (Ag E t) h):=by
 have rx:=AO H ht hx;simp only[Ak.req,Ij]at aB |-;generalize Ag E t x'=X at *;generalize hv:a.eval x=v at rx;cases X<;>simp only[Req.fail]at aB |-;rename_i id ep off;cases off with
 |succ n=>simp only at aB
 |zero =>
  simp only at aB |-;cases hh:h id<;>simp only[hh]at aB |-<;>(try (exact aB.elim));rename_i ep' mm seen;cases mm with
  |none=>exact aB.elim
  |some mm =>
   obtain⟨M,eM,n⟩:=mm;simp only at aB |-;cases hM:h M<;>simp only[hM]at aB |-<;>(try (exact aB.elim));rename_i eM' es;obtain⟨rfl,rfl,hn,hs,hl⟩:=aB;have hO:=H.obj id;rw[hh]at hO;obtain⟨_,bM,kL,hb⟩:=hO;have je:=H.obj M;rw[hM]at je;obtain⟨arr,dI,aJ,hr⟩:=je;have gQ:g.ep M=eM:=by rw[H.ep M,hM];rfl
   rw[kL gQ.symm]at hb
   have hp:v=.pointer (some ⟨g.blk id,0,none⟩):=by
    cases rx with
    |ptr _ _ _ _ _ _ hp=>exact hp (by rw[H.ep id,hh];rfl)
   subst hp;obtain⟨sn,k,rfl⟩:∃sn k,seen=sn++[k]:=⟨seen.dropLast,seen.getLast hs,(List.dropLast_concat_getLast hs).symm⟩;simp only[List.getLastD_concat]at hl |-;have hk:k<es.length:=by omega
   have gR:k<arr.size:=by omega
   obtain⟨q1,q2,q3⟩:=hr k es[k] arr[k] (AD hk) (EA gR);have dt:(arr.toList.map (·.born)).Nodup:=by have:arr.toList.map (·.born)=List.range arr.size:=(by refine List.ext_getElem (by simp) fun i h1 h2=>?_;simp at h1 h2 |-;exact(hr i (es[i]'(by omega)) arr[i] (AD _) (EA _)).2.2);rw[this];exact List.nodup_range
   have he:=run_entry_at (P:=P) w (g.blk id) (g.blk M) n sn.toArray arr es.length arr[k] (by rw[q3,hb,hn];simp) dI (by simp) dt;refine Ran.same H (v:=.tuple #[arr[k].key,arr[k].val]) ?_ ?_
   ·simp[execOp,ho,hv,he,Result.andThen]
   ·refine .tup _ _ rfl fun i y u hy hu=>?_
    match i with
    |0=>simp[hk]at hy hu;subst hy;subst hu;exact q1
    |1=>simp[hk]at hy hu;subst hy;subst hu;exact q2
    |i+2=>simp at hy
theorem sQ{o:Oper}{x:Operand}{x':Ad}{id ep:Nat}{seen:List Nat}{M eM n:Nat}{es:List (Aa×Aa)}(H:HR E g h w)(ht:RVs g w t a.tmps.toList)(ho:o.op=.next x false)(hx:A7 x x'=true)(hX:Ag E t x'=.ptr id ep 0) (hid:h id=.miter ep (some (M,eM,n)) seen) (hM:h M=.amap eM es) (hn:es.length=n) : ((∀k,k<n->k∈seen)/\(execOp a.eval o).run P w=.ok (.value (.tuple #[.bool false])) w) \/ ∃k,k<n/\k∉seen/\Ran E P (execOp a.eval o) g h w ⟨True,[],.tup [.bool true,(es.getD k (.top,.top)).1,(es.getD k (.top,.top)).2],some (id,.miter ep (some (M,eM,n)) (seen++[k]))⟩:=by
 have rx:=AO H ht hx;rw[hX]at rx;generalize hv:a.eval x=v at rx;have hO:=H.obj id;rw[hid]at hO;obtain⟨h0,bM,kL,hb⟩:=hO;have je:=H.obj M;rw[hM]at je;obtain⟨arr,dI,aJ,hr⟩:=je;have gQ:g.ep M=eM:=by rw[H.ep M,hM];rfl
 have ebM:=kL gQ.symm;subst ebM
 have hp:v=.pointer (some ⟨g.blk id,0,none⟩):=by
  cases rx with
  |ptr _ _ _ _ _ _ hp=>exact hp (by rw[H.ep id,hid];rfl)
 subst hp;have eu:∀i (hi:i<arr.size),arr[i].born=i:=fun i hi=>(hr i (es[i]'(by omega)) arr[i] (AD _) (EA hi)).2.2;rcases run_next_at (P:=P) w o.type (g.blk id) (g.blk M) n n seen.toArray arr es.length hb dI (fun m hm=>by obtain⟨i,hi,rfl⟩:=J6 hm;simp at hi |-;rw[eu i hi];omega) (AB _) with ⟨h1,h2⟩ | ⟨e,he,w1,kM,h2⟩
 ·refine .inl ⟨fun k hk=>?_,by simp[execOp,ho,hv,h2,Result.andThen]⟩;by_cases hc:k∈seen
  ·exact hc
  ·have gR:k<arr.size:=by omega
   have:arr[k]∈leftOf arr seen.toArray:=by simp only[leftOf,Array.mem_filter];exact⟨by simp,by simp[eu k gR,hc]⟩
   have:=Array.size_pos_of_mem this;omega
 ·simp only[leftOf,Array.toList_filter,List.mem_filter]at he;obtain⟨hm,kN⟩:=he;obtain⟨k,hk,rfl⟩:=J6 hm;simp at hk kN;rw[eu k hk]at kN;refine .inr ⟨k,by omega,kN,?_⟩;obtain⟨q1,q2,q3⟩:=hr k (es[k]'(by omega)) arr[k] (AD _) (EA hk);have mr:k<es.length:=by omega
  refine PX (n:=.value (.tuple #[.bool true,arr[k].key,arr[k].val])) (v:=.tuple #[.bool true,arr[k].key,arr[k].val]) (ob:=.mapIter (some (g.blk M)) n (seen++[k]).toArray n) (w1:=w1) H (by rw[hid];rfl) kM hb ?_ (.inl rfl) (by rw[hid];rfl) ?_
  ·simp only[execOp,ho,hv,Sem.run_bind,h2,Result.andThen];simp[ChangeMaps.setBlock,eu k hk,hn]
  ·intro w' aE jd;refine⟨⟨h0,g.blk M,fun _=>rfl,jd⟩,.tup _ _ rfl fun i y u hy hu=>?_⟩
   match i with
   |0=>simp at hy hu;subst hy;subst hu;exact .bool _
   |1=>simp[mr]at hy hu;subst hy;subst hu;exact q1.mono aE
   |2=>simp[mr]at hy hu;subst hy;subst hu;exact q2.mono aE
   |i+3=>simp at hy
theorem Vn{o:Oper}{ty e yt:TypeId}{ng:Bool}{x:Operand}{x':Ad}(H:HR E g h w)(ht:RVs g w t a.tmps.toList)(ho:o.op=.binOp (if ng then .neq else .eql) ty x (.const (.slice none 0 0)) yt)(hx:A7 x x'=true)(hu:P.underlying ty=some (.slice e))(aB:((Ak.isnil ng x').req (Ag E t) h).ok):Ran E P (execOp a.eval o) g h w ((Ak.isnil ng x').req (Ag E t) h):=by
 have rx:=AO H ht hx;simp only[Ak.req]at aB |-;generalize Ag E t x'=X at *;generalize hv:a.eval x=v at rx;have hg:∀(op:BinOp) (ad:Option Addr) (n c:Nat),(eqGuard op ty x (.const (.slice none 0 0)) (.slice ad n c) (.slice none 0 0)).run P w=.ok () w:=fun op ad n c=>by unfold eqGuard;cases op<;>rfl
 have he:∀(ad:Option Addr) (n c:Nat),(Op.equal ty (.slice ad n c) (.slice none 0 0)).run P w=.ok ad.isNone w:=fun ad n c=>by show(Op.equalIn (9999+1) ty (.slice ad n c) (.slice none 0 0)).run P w=_;rw[Op.equalIn,Sem.run_bind,run_underlying hu];cases ad<;>rfl
 have run:∀(ad:Option Addr) (n c:Nat),v=.slice ad n c->(execOp a.eval o).run P w=.ok (.value (.bool (if ng then !ad.isNone else ad.isNone))) w:=by
  rintro ad n c rfl;have cP:a.eval (.const (.slice none 0 0))=.slice none 0 0:=rfl;cases ng with
  |true =>have e1:binOp .neq ty (.slice ad n c) (.slice none 0 0)=(do pure (.bool (!(<-Op.equal ty (.slice ad n c) (.slice none 0 0))))):=rfl;simp[execOp,ho,hv,cP,hg,e1,he,Result.andThen]
  |false =>have e1:binOp .eql ty (.slice ad n c) (.slice none 0 0)=(do pure (.bool (<-Op.equal ty (.slice ad n c) (.slice none 0 0)))):=rfl;simp[execOp,ho,hv,cP,hg,e1,he,Result.andThen]
 cases X<;>simp only[Req.fail]at aB |-
 case nils =>cases rx;refine Ran.same H (run none 0 0 rfl) ?_;cases ng<;>exact .bool _
 case slc st n f =>
  cases rx with
  |slc0 _ _ ad cap=>exact absurd aB (Nat.lt_irrefl 0)
  |slc _ _ _ b off cap =>refine Ran.same H (run (some ⟨b,off,none⟩) n cap rfl) ?_;cases ng<;>exact .bool _
 case vec id ep lo n =>obtain⟨ad,cap,e1,_⟩:=FF H rx aB;refine Ran.same H (run (some ad) n cap e1) ?_;cases ng<;>exact .bool _
theorem Vo{o:Oper}{ty e yt:TypeId}{ng:Bool}{x:Operand}{x':Ad}(H:HR E g h w)(ht:RVs g w t a.tmps.toList)(ho:o.op=.binOp (if ng then .neq else .eql) ty x (.const (.pointer none)) yt)(hx:A7 x x'=true)(hu:P.underlying ty=some (.pointer e))(aB:((Ak.isnilp ng x').req (Ag E t) h).ok):Ran E P (execOp a.eval o) g h w ((Ak.isnilp ng x').req (Ag E t) h):=by
 have rx:=AO H ht hx;simp only[Ak.req]at aB |-;generalize Ag E t x'=X at *;generalize hv:a.eval x=v at rx;have hg:∀(op:BinOp) (ad:Option Addr),(eqGuard op ty x (.const (.pointer none)) (.pointer ad) (.pointer none)).run P w=.ok () w:=fun op ad=>by unfold eqGuard;cases op<;>rfl
 have he:∀(ad:Option Addr),(Op.equal ty (.pointer ad) (.pointer none)).run P w=.ok ad.isNone w:=fun ad=>by show(Op.equalIn (9999+1) ty (.pointer ad) (.pointer none)).run P w=_;rw[Op.equalIn,Sem.run_bind,run_underlying hu];cases ad<;>rfl
 have run:∀(ad:Option Addr),v=.pointer ad->(execOp a.eval o).run P w=.ok (.value (.bool (if ng then !ad.isNone else ad.isNone))) w:=by
  rintro ad rfl;have cP:a.eval (.const (.pointer none))=.pointer none:=rfl;cases ng with
  |true =>have e1:binOp .neq ty (.pointer ad) (.pointer none)=(do pure (.bool (!(<-Op.equal ty (.pointer ad) (.pointer none))))):=rfl;simp[execOp,ho,hv,cP,hg,e1,he,Result.andThen]
  |false =>have e1:binOp .eql ty (.pointer ad) (.pointer none)=(do pure (.bool (<-Op.equal ty (.pointer ad) (.pointer none)))):=rfl;simp[execOp,ho,hv,cP,hg,e1,he,Result.andThen]
 cases X<;>simp only[Req.fail]at aB |-
 case nilp =>cases rx;refine Ran.same H (run none rfl) ?_;cases ng<;>exact .bool _
 case cptr f lim off =>
  cases rx with
  |cptr _ _ _ b base =>refine Ran.same H (run (some ⟨b,base+off,none⟩) rfl) ?_;cases ng<;>exact .bool _
end
theorem Vp:∀{n:Nat} {f:Nat->List Aa} {s:List UInt8},DN n f=some s->s.length=n/\∀k,k<n->∃m,f k=[.int .u8 m]/\s[k]?=some (UInt8.ofNat m.toNat)
 |0,f,s,h=>by simp only[DN,AX]at h;subst h;exact⟨rfl,fun k hk=>absurd hk (P9 _)⟩
 |n+1,f,s,h=>by
  unfold DN at h;split at h
  ·rename_i m hm;cases hb:DN n (fun k=>f (k+1)) with
   |none=>simp[hb]at h
   |some s' =>
    simp only[hb,Ek,AX]at h;subst h;obtain⟨h1,h2⟩:=Vp hb;refine⟨by simp[h1],fun k hk=>?_⟩;cases k with
    |zero=>exact⟨m,hm,rfl⟩
    |succ k=>obtain⟨m',a,b⟩:=h2 k (by omega);exact⟨m',a,by simpa using b⟩
  ·cases h
theorem sR(ns:List Int):∀(b:ByteArray),(ns.foldl (fun r n=>r.push (UInt8.ofNat n.toNat)) b).data.toList=b.data.toList++ns.map fun n=>UInt8.ofNat n.toNat:=by
 induction ns with
 |nil=>intro b;simp
 |cons n ns ih=>intro b;simp only[List.foldl_cons,ih];simp[ByteArray.push]
section
variable {E:Nat->Aa}{P:Program}{g:Gh}{h:Ax}{w:World}{t:List Aa}{a:Act}
theorem Qe{o:Oper}{src dst e:TypeId}{x:Operand}{x':Ad}(H:HR E g h w)(ht:RVs g w t a.tmps.toList)(ho:o.op=.convert src dst x)(hx:A7 x x'=true)(hs:P.underlying src=some (.slice e)) (he:P.underlying e=some (.int .u8)) (hd:P.underlying dst=some .string) (aB:((Ak.b2s x').req (Ag E t) h).ok):Ran E P (execOp a.eval o) g h w ((Ak.b2s x').req (Ag E t) h):=by
 have rx:=AO H ht hx;simp only[Ak.req]at aB |-;generalize Ag E t x'=X at *;unfold Dy at aB |-;cases hb:DN (Bh 1 X h).n (Bh 1 X h).f with
 |none=>simp only[hb,Req.fail]at aB
 |some s =>
  simp only[hb]at aB |-;obtain⟨vals,sr⟩:=JO H rx aB.1 aB.2;obtain⟨h1,h2⟩:=Vp hb;generalize (Bh 1 X h).n=n at *;generalize (Bh 1 X h).f=f at *;obtain⟨ad,cap,hv,aS,hc⟩:=sr.val;have bO:∀k,k<n->∃m,vals k 0=.int .u8 m/\s[k]?=some (UInt8.ofNat m.toNat):=fun k hk=>by obtain⟨m,e1,e2⟩:=h2 k hk;have:=sr.rv k 0 (.int .u8 m) hk (by rw[e1];rfl);exact⟨m,rv_int' this,e2⟩
  let num:Nat->Int:=fun k=>match vals k 0 with | .int _ m=>m | _=>0
  have jf:∀k,k<n->vals k 0=.int .u8 (num k)/\s[k]?=some (UInt8.ofNat (num k).toNat):=fun k hk=>by
   obtain⟨m,e1,e2⟩:=bO k hk;have:num k=m:=by show(match vals k 0 with | .int _ m=>m | _=>0)=m;rw[e1]
   rw[this];exact⟨e1,e2⟩
  have hS:s=((List.range n).map num).map fun m=>UInt8.ofNat m.toNat:=by
   apply PF;intro k;by_cases hk:k<n
   ·rw[(jf k hk).2];simp[hk]
   ·rw[JA (by omega)];simp[Nat.le_of_not_lt hk]
  refine Ran.same H (v:=.string (((List.range n).map num).foldl (fun r n=>r.push (UInt8.ofNat n.toNat)) ByteArray.empty)) ?_ (.str _ _ (by rw[sR,hS];rfl));simp only[execOp,ho,hv,Sem.run_bind,run_convert_bytes_string w src dst e ad n cap hs he hd];rcases hc with h0|⟨b,off,rfl,aO⟩
  ·subst h0;cases ad with
   |none=>simp[Conv.bytesToString]
   |some ad =>have:=run_bytesToString (P:=P) w ad 0 cap [] (by simp[loadCells,loadCellsFrom]);simp[this,Result.andThen]
  ·have hl:=run_loadCells_list (P:=P) w ⟨b,off,none⟩ (((List.range n).map num).map (Value.int .u8)) (fun j v hj=>by
    rw[En];by_cases hk:j<n
    ·have e1:=aO j 0 hk (by omega);simp only[List.map_map,J4,PH hk,Ek,Function.comp,AX]at hj;rw[<-hj,<-(jf j hk).1];simpa using e1
    ·rw[JA (by simp;omega)]at hj;cases hj)
   simp only[JC,Uo]at hl;have:=run_bytesToString (P:=P) w ⟨b,off,none⟩ n cap _ hl;simp[this,Result.andThen]
where
 rv_int' {g:Gh} {w:World} {k:IntKind} {n:Int} {v:Value} (hv:RV g w (.int k n) v):v=.int k n:=by cases hv;rfl
theorem Ran.newfz{s:Sem Next}{rd:List Nat}{x:Aa}{p:Prop}{i:Nat}{ob:Obj}{v:Value}(H:HR E g h w)(hr:∃w0:World,w0.heap=w.heap/\w0.os=w.os/\w0.tape=w.tape/\w0.output=w.output/\w.drawn<=w0.drawn/\s.run P w=.ok (.value v) { w0 with heap:=w0.heap.push ob })(cE:∀(g':Gh) (w':World),GLe g w g' w'->g'.fz w.heap.size->w'.heap[w.heap.size]?=some ob->RV g' w' x v) :
  Ran E P s g h w ⟨p,rd,x,some (i,.gone ((h i).ep+1))⟩:=by
 obtain⟨w0,e1,e2,e3,e4,e5,hr⟩:=hr
 let g':Gh:=⟨g.blk,fun j=>if j=i then(h i).ep+1 else g.ep j,g.bo,g.st,g.cp,fun b=>g.fz b\/b=w.heap.size⟩
 let w':World:={ w0 with heap:=w0.heap.push ob }
 have aU:∀b,b<w.heap.size->w'.heap[b]?=w.heap[b]?:=fun b hb=>by show(w0.heap.push ob)[b]?=_;rw[e1,Lg,Aj (by omega)]
 have aN:w'.heap[w.heap.size]?=some ob:=by show(w0.heap.push ob)[w.heap.size]?=_;rw[e1,Lg,Ap rfl]
 have aE:GLe g w g' w':=by
  refine⟨fun b hb=>⟨.inl hb,aU b (H.fzb b hb)⟩,fun j=>?_,fun j hj=>⟨rfl,rfl,rfl,rfl⟩⟩;show g.ep j<=if j=i then(h i).ep+1 else g.ep j;split
  ·rename_i e;subst e;rw[H.ep j];omega
  ·exact AB _
 have aJ:w'.heap.size=w.heap.size+1:=by show(w0.heap.push ob).size=_;rw[e1];simp
 obtain⟨H',S'⟩:=HR.upd (g':=g') (w':=w') (i:=i) (o':=.gone ((h i).ep+1)) H aE (fun j hj=>Aj hj) (Ap rfl) (fun b hb _=>aU b hb) (by rw[aJ];omega) trivial (fun e=>by cases e) (fun e=>by cases e)
  (fun b hb=>by
   rcases hb with hb|rfl
   ·exact .inl hb
   ·exact .inr (.inr (AB _)))
  (fun b hb=>by
   rw[aJ];rcases hb with hb|rfl
   ·have:=H.fzb b hb;omega
   ·omega) e2 e3 e4 e5
 exact⟨_,v,w',g',hr,.inl rfl,cE g' w' aE (.inr rfl) aN,H',S',fun e=>by cases e⟩
theorem sS{o:Oper}{src dst e:TypeId}{s:Nat}{x:Operand}{x':Ad}(H:HR E g h w)(ht:RVs g w t a.tmps.toList)(ho:o.op=.convert src dst x)(hx:A7 x x'=true)(hs:P.underlying src=some .string) (hd:P.underlying dst=some (.slice e)) (he:P.underlying e=some (.int .u8)) (aB:((Ak.s2b s x').req (Ag E t) h).ok):Ran E P (execOp a.eval o) g h w ((Ak.s2b s x').req (Ag E t) h):=by
 have rx:=AO H ht hx;simp only[Ak.req]at aB |-;generalize Ag E t x'=X at *;generalize hv:a.eval x=v at rx;cases X<;>simp only[Req.fail]at aB;rename_i bs;cases rx with
 |str _ ba hb =>
  have run:=run_bytes_of_string (P:=P) w src dst e ba hs hd he;have hge:=PW w ba.size 0 e;have aJ:ba.size=bs.length:=by rw[<-hb];rfl
  refine Ran.newfz (ob:=.cells (bytesRow ba (grownCap w ba.size 0 e)) e ((bytesRow ba (grownCap w ba.size 0 e)).size,(bytesRow ba (grownCap w ba.size 0 e)).size+1)) (v:=.slice (some ⟨w.heap.size,0,none⟩) ba.size (grownCap w ba.size 0 e)) H ⟨w.drew,rfl,rfl,rfl,rfl,Dd _,by simp only[execOp,ho,hv,Sem.run_bind,run];rfl⟩ ?_;intro g' w' aE d7 aN;rw[aJ];rw[aJ]at hge;refine .slc 1 bs.length _ w.heap.size 0 _ (fun k _=>.int .u8 (Dj bs k)) d7 (by omega) (fun _ _=>rfl) (fun i j hi hj=>?_) (fun _ _ _ _=>rfl) (fun i j y hi hy=>?_)
  ·obtain rfl:j=0:=by omega
   have hlt:i<ba.data.size:=by show i<ba.size;omega
   have e1:(bytesRow ba (grownCap w bs.length 0 e))[0+i*1+0]?=some (.int .u8 (Dj bs i)):=by have e2:0+i*1+0=i:=(by omega);rw[e2];unfold bytesRow;rw[Pz (by simp;exact hlt),Array.getElem?_map,EA hlt];simp only[Ek,Dj,DJ,AX,Value.int.injEq,true_and];rw[J3,<-hb,Array.getElem?_toList,EA hlt];rfl
   simp only[World.cell?,aN];rw[aJ];exact e1
  ·cases j with
   |zero=>simp at hy;subst hy;exact .int _ _
   |succ j=>simp at hy
theorem Ran.beside{s:Sem Next}{rd:List Nat}{x:Aa}{p:Prop}{i:Nat}{ob:Obj}{v:Value}(H:HR E g h w)(hr:s.run P w=.ok (.value v) { w with heap:=w.heap.push ob })(cE:∀(g':Gh) (w':World),GLe g w g' w'->g'.fz w.heap.size->w'.heap[w.heap.size]?=some ob->RV g' w' x v) :
  Ran E P s g h w ⟨p,rd,x,some (i,h i)⟩:=by
 let g':Gh:=⟨g.blk,g.ep,g.bo,g.st,g.cp,fun b=>g.fz b\/b=w.heap.size⟩
 let w':World:={ w with heap:=w.heap.push ob }
 have aU:∀b,b<w.heap.size->w'.heap[b]?=w.heap[b]?:=fun b hb=>by show(w.heap.push ob)[b]?=_;rw[Lg,Aj (by omega)]
 have aN:w'.heap[w.heap.size]?=some ob:=by show(w.heap.push ob)[w.heap.size]?=_;rw[Lg,Ap rfl]
 have aE:GLe g w g' w':=⟨fun b hb=>⟨.inl hb,aU b (H.fzb b hb)⟩,fun _=>AB _,fun _ _=>⟨rfl,rfl,rfl,rfl⟩⟩;have aJ:w'.heap.size=w.heap.size+1:=by show(w.heap.push ob).size=_;simp
 have hh:putH h (some (i,h i))=h:=by
  funext j;show hset h i (h i) j=h j;simp only[hset];split
  ·rename_i e;rw[e]
  ·rfl
 have H':HR E g' h w':=by
  refine⟨fun j=>(H.obj j).mono aE rfl fun ho=>aU _ ((H.obj j).lt ho),H.ep,H.inj,fun j hj hf=>?_,fun b hb=>?_,fun j=>(H.glob j).mono aE⟩
  ·rcases hf with hf|hf;·exact H.sep j hj hf
   ·have:=(H.obj j).lt hj;have pS:g.blk j=w.heap.size:=hf;omega
  ·rw[aJ];rcases hb with hb|rfl
   ·have:=H.fzb b hb;omega
   ·omega
 have S':Stp g h w g' h w':=by
  refine⟨aE,rfl,rfl,rfl,by rw[aJ];omega,fun b hb _=>aU b hb,fun j ho=>.inl ⟨j,ho,rfl⟩,fun b hb=>?_,AB _⟩;rcases hb with hb|rfl
  ·exact .inl hb
  ·exact .inr (.inr (AB _))
 refine⟨_,v,w',g',hr,.inl rfl,cE g' w' aE (.inr rfl) aN,?_,?_,fun e=>by cases e⟩
 ·show HR E g' (putH h (some (i,h i))) w';rw[hh];exact H'
 ·show Stp g h w g' (putH h (some (i,h i))) w';rw[hh];exact S'
theorem sU{o:Oper}{ty:TypeId}{n st nn s:Nat}{ps:Array (Nat×Operand)}{zero:List Aa}{parts:List (Nat×Nat×Ad)}(H:HR E g h w)(ht:RVs g w t a.tmps.toList)(ho:o.op=.buildSlice ty n ps)(hb:Io P ty n st nn zero ps.toList parts=true)(aB:((Ak.fslice s st nn zero parts).req (Ag E t) h).ok):Ran E P (execOp a.eval o) g h w ((Ak.fslice s st nn zero parts).req (Ag E t) h):=by
 simp only[Ak.req]at aB |-;cases hf:Cr (Ag E t) zero parts with
 |none=>simp only[hf,Req.fail]at aB
 |some l =>
  simp only[hf]at aB |-;obtain⟨_,hl,aI,h1⟩:=aB;obtain⟨rfl,e,cs',gv,aD,aG⟩:=UT H ht ho hb hf hl;refine Ran.beside (ob:=.cells cs' e (0,0)) H aG ?_;intro g' w' aE d7 aN;have jV:∀k j,k<n->j<st->k*st+j<n*st:=fun k j hk hj=>by have:(k+1)*st<=n*st:=Bp _ (by omega);rw[Ei]at this;omega
  have bA:∀k,k<n->((EG st n l).getD k [])=(l.drop (k*st)).take st:=fun k hk=>PS n l k hl hk;refine .slc st n _ w.heap.size 0 n (fun k j=>cs'.getD (k*st+j) undef) d7 (AB _) (fun i hi=>?_) (fun i j hi hj=>?_) (fun i j hi hj=>?_) (fun i j y hi hy=>?_)
  ·rw[bA i hi];have:(i+1)*st<=n*st:=Bp _ (by omega);rw[Ei]at this;simp;omega
  ·have aW:=jV i j hi hj;simp only[World.cell?,aN];have e1:0+i*st+j=i*st+j:=by omega
   rw[e1];simp[Array.getD,aD,aW]
  ·have aW:=jV i j hi hj;have db:cs'.toList[i*st+j]?=some (cs'.getD (i*st+j) undef):=by simp[Array.getD,aD,aW]
   exact Hf gv h1 _ (Dx db)
  ·rw[bA i hi,FX]at hy;split at hy
   ·rename_i hj;rw[F3]at hy;have aW:=jV i j hi hj;have db:cs'.toList[i*st+j]?=some (cs'.getD (i*st+j) undef):=by simp[Array.getD,aD,aW]
    exact(gv.2 _ y _ hy db).mono aE
   ·cases hy
theorem sV{o:Oper}{ty e:TypeId}{s st bytes:Nat}{zero:List Aa}{zl:List Value}{x y:Operand}{x':Ad}(H:HR E g h w)(ht:RVs g w t a.tmps.toList)(ho:o.op=.makeSlice ty x y)(hx:A7 x x'=true)(hy:A7 y x'=true)(hu:P.underlying ty=some (.slice e)) (hs:szOf P e=some st) (hb:byOf P e=some bytes) (fY:0<bytes) (hz:Em P e=some zl) (dq:Ik zl zero=true)(aB:((Ak.mks s st bytes zero x').req (Ag E t) h).ok):Ran E P (execOp a.eval o) g h w ((Ak.mks s st bytes zero x').req (Ag E t) h):=by
 have rx:=AO H ht hx;have ry:=AO H ht hy;simp only[Ak.req]at aB |-;generalize Ag E t x'=X at *;generalize hv:a.eval x=v at rx;generalize db:a.eval y=v' at ry;cases X<;>simp only[Req.fail]at aB;rename_i k n;obtain rfl:=Qe.rv_int' rx;obtain rfl:=Qe.rv_int' ry;obtain⟨_,h0,ei,aI,iD,dP⟩:=aB;have fN:=Ll (g:=g) (w:=w) dq;have fj:zl.length=st:=by rw[<-iD];exact fN.1
 obtain⟨i,z,hi,bY,aJ,ix,cj⟩:=L3 hs hb hz fj;have dK:zl=z.cells.toList:=PU hi bY hz;have h63:n<=9223372036854775807:=by have:n*1<=n*bytes:=Int.mul_le_mul_of_nonneg_left (by omega) h0;omega
 have run:=run_make (P:=P) w ty e i z hu hi bY k k n n h0 (Lp _) (by rw[ix,Int.mul_comm];omega) h63;refine Ran.new (ob:=.cells (madeCells z.cells (n.toNat*i.size)) e (0,0)) (bo:=0) (st:=st) (cp:=n.toNat) H ⟨w,rfl,rfl,rfl,rfl,AB _,by simp only[execOp,ho,hv,db,Sem.run_bind,run];rfl⟩ rfl ?_;intro g' w' aE aK cH cn c9 aN;refine⟨JP aI aK cH cn c9 (AB _) aN ?_ (fun _ _=>iD) (fun q j hq hj=>?_),fun he=>?_⟩
 ·rw[size_madeCells,aJ];omega
 ·have cC:=EI hq hj;have bI:j<z.cells.size:=by omega
  have e1:(q*st+j)%z.cells.size=j:=by rw[cj,Bf,PJ];exact Eh hj
  have e2:(madeCells z.cells (n.toNat*i.size))[0+q*st+j]?=some z.cells[j]:=by unfold madeCells;rw[Cx,Array.getElem?_map,Array.getElem?_range,Ap (by rw[aJ];exact cC)];simp only[Ek,e1,getElem!_pos z.cells j bI]
  have e3:zl[j]?=some z.cells[j]:=by rw[dK,Array.getElem?_toList,EA bI]
  have dL:∃y,zero[j]?=some y:=⟨_,AD (by omega)⟩;exact⟨_,e2,Hf fN dP _ (Dx e3),fun y hy=>(fN.2 j y _ hy e3).mono aE⟩
 ·exact .vec _ _ _ _ _ rfl (by rw[he];exact AB _) (fun _=>L0 aK cH c9 (AB _))
theorem Vq{id ep st m a0 cnt:Nat}{f fn:Nat->List Aa}{arr:Array Value}{ty:TypeId}{vals:Nat->Nat->Value}{w':World}(aI:g.st id=st)(h0:0<st)(hn:m<=g.cp id)(aE:GLe g w g w')(aZ:g.bo id+g.cp id*st<=arr.size) (bA:∀k,k<m->(f k).length=st/\∀(j:Nat) (x:Aa) (v:Value),(f k)[j]?=some x->arr[g.bo id+k*st+j]?=some v->v.oneCell'=true/\RV g w x v)(hc:a0+cnt<=m) (hl:∀k,k<cnt->(fn k).length=st) (h1:∀k j,k<cnt->j<st->(vals k j).oneCell'=true) (hr:∀(k j:Nat) (x:Aa),k<cnt->(fn k)[j]?=some x->RV g w x (vals k j))(hb:w'.heap[g.blk id]?=some (.cells (arr.toList.take (g.bo id+a0*st)++Cb st cnt vals++arr.toList.drop (g.bo id+a0*st+(Cb st cnt vals).length)).toArray ty (0,0))) :
  OR g w' id (.vec ep st m (fun k=>if a0<=k/\k<a0+cnt then fn (k-a0) else f k)):=by
 have kO:∀k,k<m->(k+1)*st<=g.cp id*st:=fun k hk=>Bp _ (by omega);have e0:(a0+cnt)*st<=g.cp id*st:=Bp _ (by omega);rw[AT]at e0;have aD:=FG st cnt vals;have gu:=fun j=>yzx arr.toList (Cb st cnt vals) (g.bo id+a0*st) j (by rw[aD];simp;omega);refine⟨aI,h0,hn,_,ty,hb,by simp;omega,fun k hk=>?_⟩;have eX:=kO k hk;rw[Ei]at eX;by_cases aP:a0<=k/\k<a0+cnt
 ·simp only[Ap aP];refine⟨hl _ (by omega),fun j x v hx hv=>?_⟩;have hj:j<st:=by rw[<-hl (k-a0) (by omega)];exact(AN.1 hx).1
  have e1:k*st=a0*st+(k-a0)*st:=by rw[<-AT];congr 1;omega
  have cC:=EI (k:=k-a0) (n:=cnt) (st:=st) (j:=j) (by omega) hj;rw[J5,gu,Aj (by omega),Ap (by rw[aD];omega)]at hv;have e2:g.bo id+k*st+j-(g.bo id+a0*st)=(k-a0)*st+j:=by omega
  rw[e2,Ir (by omega) hj]at hv;obtain rfl:=BA hv;exact⟨h1 _ _ (by omega) hj,(hr _ _ x (by omega) hx).mono aE⟩
 ·simp only[Aj aP];obtain⟨fg,aO⟩:=bA k hk;refine⟨fg,fun j x v hx hv=>?_⟩;have hj:j<st:=by rw[<-fg];exact(AN.1 hx).1
  rw[J5,gu,aD]at hv
  have kx:¬(g.bo id+a0*st<=g.bo id+k*st+j/\g.bo id+k*st+j<g.bo id+a0*st+cnt*st):=by
   rintro⟨q1,q2⟩;rcases C9 k a0 with hlt|hge
   ·have:(k+1)*st<=a0*st:=Bp _ hlt;rw[Ei]at this;omega
   ·have:(a0+cnt)*st<=k*st:=Bp _ (by omega);rw[AT]at this;omega
  by_cases j1:g.bo id+k*st+j<g.bo id+a0*st
  ·rw[Ap j1]at hv;have:=aO j x v hx (by simpa using hv);exact⟨this.1,this.2.mono aE⟩
  ·rw[Aj j1,Aj (by omega)]at hv;have:=aO j x v hx (by simpa using hv);exact⟨this.1,this.2.mono aE⟩
theorem sW{st n:Nat}{l:List Value}{vals:Nat->Nat->Value}(hl:l.length=n*st)(h:∀k j,k<n->j<st->l[k*st+j]?=some (vals k j)):l=Cb st n vals:=by
 apply PF;intro q;by_cases hq:q<n*st
 ·have h0:0<st:=by
   rcases F8 st with e|e
   ·subst e;omega
   ·exact e
  have e1:q / st<n:=by rw[GW h0];exact hq
  have e2:q%st<st:=Ga _ h0;have e3:q / st*st+q%st=q:=by rw[Bf];exact Ig q st
  have h1:=h _ _ e1 e2;have h2:=Ir (st:=st) (m:=n) (vals:=vals) e1 e2;rw[e3]at h1 h2;rw[h1,h2]
 ·rw[JA (by omega),JA (by rw[FG];omega)]
theorem Vr(P:Program)(o:Oper)(ρ:Operand->Value)(x y:Operand)(tx ty:TypeId)(u v r:Value)(w w':World)(ho:o.op=.call { callee:=.builtin .copy,args:=#[x,y],argTypes:=#[tx,ty] })(hx:ρ x=u)(hy:ρ y=v)(hr:(Builtin.copy_ #[tx,ty] o.type #[u,v]).run P w=.ok r w'):(execOp ρ o).run P w=.ok (.value r) w':=by simp[execOp,ho,resolve,invoke,builtin,hx,hy,hr]
theorem Vs(P:Program)(o:Oper)(ρ:Operand->Value)(x:Operand)(tx:TypeId)(u r:Value)(w w':World)(ho:o.op=.call { callee:=.builtin .clear,args:=#[x],argTypes:=#[tx] })(hx:ρ x=u)(hr:(Builtin.clear_ #[tx] o.type #[u]).run P w=.ok r w'):(execOp ρ o).run P w=.ok (.value r) w':=by simp[execOp,ho,resolve,invoke,builtin,hx,hr]
theorem sZ{o:Oper}{tx ty e:TypeId}{st0:Nat}{x y:Operand}{x' y':Ad}(H:HR E g h w)(ht:RVs g w t a.tmps.toList)(ho:o.op=.call { callee:=.builtin .copy,args:=#[x,y],argTypes:=#[tx,ty] })(hx:A7 x x'=true)(hy:A7 y y'=true)(hu:P.underlying tx=some (.slice e)) (hs:szOf P e=some st0) (aB:((Ak.copy st0 x' y').req (Ag E t) h).ok):Ran E P (execOp a.eval o) g h w ((Ak.copy st0 x' y').req (Ag E t) h):=by
 have rx:=AO H ht hx;have ry:=AO H ht hy;simp only[Ak.req]at aB |-;generalize Ag E t x'=X at *;generalize Ag E t y'=Y at *;unfold JH at aB |-;cases X<;>simp only[Req.fail]at aB;rename_i id ep lo n;have hO:=H.obj id;cases hh:h id<;>simp only[hh,Req.fail]at aB hO |-
 case vec ep' st m f =>
  obtain⟨h1,h2,rfl,cg,rfl⟩:=aB;obtain⟨aI,h0,hn,arr,ty',hr,aZ,bA⟩:=hO;obtain⟨vals,src⟩:=JO H ry h1 h2;generalize (Bh st0 Y h).n=q at *;generalize (Bh st0 Y h).f=f' at *;have aQ:(h id).owned=true:=by rw[hh];rfl
  obtain⟨ad,cap,e1,aS,hc⟩:=FF H rx (by rw[hh];rfl);obtain⟨sad,scap,se,mu,qx⟩:=src.val;have aJ:(P.info? e).map (·.size)=some st0:=hs
  obtain⟨i,hi,kP⟩:∃i,P.info? e=some i/\i.size=st0:=by
   cases hi:P.info? e with
   |none=>simp[hi]at aJ
   |some i=>exact⟨i,rfl,by simpa [hi] using aJ⟩
  have jg:Nat.min q n=min q n:=rfl
  have bQ:(Builtin.firstCells st0 (min q n) (.slice sad q scap)).run P w=.ok (Cb st0 (min q n) vals).toArray w:=by
   rcases qx with e0|⟨b,off,rfl,aO⟩
   ·have:min q n=0:=(by omega);rw[this];cases sad with
    |none=>simp[Builtin.firstCells,Cb]
    |some s=>simp[Builtin.firstCells,loadCells,loadCellsFrom,Cb]
   ·exact run_firstCells_some (P:=P) w st0 (min q n) ⟨b,off,none⟩ q scap _ (by rw[FG]) (fun j v hj=>by obtain⟨k,j',hk,bI,rfl,rfl⟩:=Is hj;rw[En];exact aO k j' (by omega) bI)
  by_cases hz:min q n=0
  ·-- nothing is written
   have run:(Builtin.copy_ #[tx,ty] o.type #[.slice (some ad) n cap,.slice sad q scap]).run P w=.ok (goInt 0) w:=by rw[hz]at bQ;simp[Builtin.copy_,run_underlying hu,sizeOf,typeInfo,hi,kP,Builtin.lenOf,jg,hz,bQ,Cb,storeCells]
   have fk:=setRow_self w (g.blk id) arr ty' (0,0) hr;refine Iq H aQ hr (arr':=arr) (v:=goInt 0) (by rw[fk];exact Vr P o a.eval x y tx ty _ _ _ w _ ho e1 se run) (.inl rfl) (by rw[hh];rfl) ?_;intro w' aE hb;refine⟨⟨aI,h0,hn,arr,ty',hb,aZ,fun k hk=>?_⟩,by rw[hz];exact .int _ _⟩;rw[hz];simp only[Ib,show ¬(lo<=k/\k<lo) by omega,Cz];exact⟨(bA k hk).1,fun j x v hx hv=>⟨((bA k hk).2 j x v hx hv).1,((bA k hk).2 j x v hx hv).2.mono aE⟩⟩
  ·rcases hc with cP|⟨rfl,hc⟩;·omega
   ·have e5:(lo+min q n)*st0<=g.cp id*st0:=Bp _ (by omega);rw[AT]at e5;have du:=run_storeCells_at P (g.blk id) (g.bo id+lo*g.st id) ty' (Cb st0 (min q n) vals) 0 arr w hr (by rw[FG,aI];omega) (fun u hu=>by obtain⟨p,hp⟩:=qV.1 hu;obtain⟨k,j,hk,hj,rfl,rfl⟩:=Is hp;exact src.one k j (by omega) hj);simp only[Ib]at du;have run:(Builtin.copy_ #[tx,ty] o.type #[.slice (some ⟨g.blk id,g.bo id+lo*g.st id,none⟩) n cap,.slice sad q scap]).run P w=.ok (goInt (min q n:Nat)) (w.setRow (g.blk id) (arr.toList.take (g.bo id+lo*g.st id)++Cb st0 (min q n) vals++arr.toList.drop (g.bo id+lo*g.st id+(Cb st0 (min q n) vals).length)).toArray):=by simp only[Builtin.copy_,run_underlying hu,sizeOf,typeInfo,hi,kP,Builtin.lenOf,jg,bQ,Sem.run_bind,Result.andThen_ok,du];simp[run_underlying hu,hi,kP,bQ,du,Result.andThen]
    refine Iq H aQ hr (v:=goInt (min q n:Nat)) (Vr P o a.eval x y tx ty _ _ _ w _ ho e1 se run) (.inl rfl) (by rw[hh];rfl) ?_;intro w' aE hb;rw[aI]at hb;exact⟨Vq aI h0 hn aE aZ bA (by omega) (fun k hk=>src.len k (by omega)) (fun k j hk hj=>src.one k j (by omega) hj) (fun k j x hk hx=>src.rv k j x (by omega) hx) hb,.int _ _⟩
 all_goals exact aB.elim
theorem s_{o:Oper}{tx e:TypeId}{zero:List Aa}{zl:List Value}{x:Operand}{x':Ad}(H:HR E g h w)(ht:RVs g w t a.tmps.toList)(ho:o.op=.call { callee:=.builtin .clear,args:=#[x],argTypes:=#[tx] })(hx:A7 x x'=true)(hu:P.underlying tx=some (.slice e)) (hz:Em P e=some zl) (dq:Ik zl zero=true) (aB:((Ak.clear zero x').req (Ag E t) h).ok):Ran E P (execOp a.eval o) g h w ((Ak.clear zero x').req (Ag E t) h):=by
 have rx:=AO H ht hx;simp only[Ak.req]at aB |-;generalize Ag E t x'=X at *;unfold Hc at aB |-;cases X<;>simp only[Req.fail]at aB;rename_i id ep lo n;have hO:=H.obj id;cases hh:h id<;>simp only[hh,Req.fail]at aB hO |-
 case vec ep' st m f =>
  obtain⟨rfl,cg,iD,dP⟩:=aB;obtain⟨aI,h0,hn,arr,ty',hr,aZ,bA⟩:=hO;have aQ:(h id).owned=true:=by rw[hh];rfl
  obtain⟨ad,cap,e1,aS,hc⟩:=FF H rx (by rw[hh];rfl);have fN:=Ll (g:=g) (w:=w) dq;have fj:zl.length=st:=by rw[<-iD];exact fN.1
  have rtup:∀w',RV g w' (.tup []) (.tuple #[]):=fun w'=>.tup _ _ rfl fun i x v hx _=>by simp at hx
  by_cases dL:n=0
  ·subst dL;have run:(Builtin.clear_ #[tx] o.type #[.slice (some ad) 0 cap]).run P w=.ok (.tuple #[]) w:=by simp[Builtin.clear_,run_underlying hu]
   have fk:=setRow_self w (g.blk id) arr ty' (0,0) hr;refine Iq H aQ hr (arr':=arr) (v:=.tuple #[]) (by rw[fk];exact Vs P o a.eval x tx _ _ w _ ho e1 run) (.inl rfl) (by rw[hh];rfl) ?_;intro w' aE hb;refine⟨⟨aI,h0,hn,arr,ty',hb,aZ,fun k hk=>?_⟩,rtup w'⟩;simp only[Ib,show ¬(lo<=k/\k<lo) by omega,Cz];exact⟨(bA k hk).1,fun j x v hx hv=>⟨((bA k hk).2 j x v hx hv).1,((bA k hk).2 j x v hx hv).2.mono aE⟩⟩
  ·rcases hc with cP|⟨rfl,hc⟩;·omega
   ·have e5:(lo+n)*st<=g.cp id*st:=Bp _ (by omega);rw[AT]at e5
    obtain⟨i,z,hi,bY⟩:∃(i:TypeInfo) (z:Value),P.info? e=some i/\i.zero=some z:=by
     unfold Em at hz;cases hi:P.info? e with
     |none=>simp[hi]at hz
     |some i =>
      cases bY:i.zero with
      |none =>obtain⟨⟩:=i;simp only at bY;subst bY;simp[hi]at hz
      |some z=>exact⟨i,z,rfl,bY⟩
    have dK:zl=z.cells.toList:=PU hi bY hz;have cj:z.cells.size=st:=by rw[<-fj,dK];simp
    have cW:(Builtin.zeroCells z.cells n).toList=Cb st n (fun _ j=>z.cells.getD j undef):=by
     refine sW (by simp[size_zeroCells,cj]) fun k j hk hj=>?_;have cC:=EI hk hj;have e1:(k*st+j)%z.cells.size=j:=by rw[cj,Bf,PJ];exact Eh hj
     have bI:j<z.cells.size:=(by omega);rw[Array.getElem?_toList];unfold Builtin.zeroCells;rw[Array.getElem?_map,Array.getElem?_range,Ap (by rw[cj];exact cC)];simp only[Ek,e1,getElem!_pos z.cells j bI,Array.getD,bI,dif_pos];rfl
    have fm:∀j,j<st->(z.cells.getD j undef).oneCell'=true/\zl[j]?=some (z.cells.getD j undef):=fun j hj=>by have bI:j<z.cells.size:=(by omega);have e2:z.cells.getD j undef=z.cells[j]:=(by simp[Array.getD,bI]);have e3:zl[j]?=some z.cells[j]:=(by rw[dK,Array.getElem?_toList,EA bI]);rw[e2];exact⟨Hf fN dP _ (Dx e3),e3⟩
    have du:=run_storeCells_at P (g.blk id) (g.bo id+lo*g.st id) ty' (Cb st n (fun _ j=>z.cells.getD j undef)) 0 arr w hr (by rw[FG,aI];omega) (fun u hu=>by obtain⟨p,hp⟩:=qV.1 hu;obtain⟨k,j,hk,hj,rfl,rfl⟩:=Is hp;exact(fm j hj).1);simp only[Ib]at du;obtain⟨n',rfl⟩:∃n',n=n'+1:=⟨n-1,by omega⟩;have run:(Builtin.clear_ #[tx] o.type #[.slice (some ⟨g.blk id,g.bo id+lo*g.st id,none⟩) (n'+1) cap]).run P w=.ok (.tuple #[]) (w.setRow (g.blk id) (arr.toList.take (g.bo id+lo*g.st id)++Cb st (n'+1) (fun _ j=>z.cells.getD j undef)++arr.toList.drop (g.bo id+lo*g.st id+(Cb st (n'+1) (fun _ j=>z.cells.getD j undef)).length)).toArray):=(by generalize Cb st (n'+1) (fun _ j=>z.cells.getD j undef)=row at cW du |-;simp only[Builtin.clear_,run_underlying hu,Sem.run_bind,Result.andThen_ok,zeroValue,typeInfo];simp[run_underlying hu,hi,bY,cW,du,zeroValue,typeInfo,Result.andThen]);refine Iq H aQ hr (v:=.tuple #[]) (Vs P o a.eval x tx _ _ w _ ho e1 run) (.inl rfl) (by rw[hh];rfl) ?_;intro w' aE hb;rw[aI]at hb;exact⟨Vq (fn:=fun _=>zero) aI h0 hn aE aZ bA (by omega) (fun k hk=>iD) (fun k j hk hj=>(fm j hj).1) (fun k j x hk hx=>by have hj:j<st:=(by rw[<-iD];exact(AN.1 hx).1);exact fN.2 j x _ hx (fm j hj).2) hb,rtup w'⟩
 all_goals exact aB.elim
end
section
variable {E:Nat->Aa}{P:Program}{g:Gh}{h:Ax}{w:World}{t:List Aa}{a:Act}
theorem ta{o:Oper}{x y:Operand}{tx e:TypeId}{s st bytes:Nat}{x' y':Ad}{zl:List Value}(H:HR E g h w)(ht:RVs g w t a.tmps.toList)(ho:o.op=.call { callee:=.builtin .append,args:=#[x,y],argTypes:=#[tx,tx] })(hx:A7 x x'=true)(hy:A7 y y'=true)(hu:P.underlying tx=some (.slice e)) (hs:szOf P e=some st) (hb:byOf P e=some bytes) (hz:Em P e=some zl) (dq:zl.length=st) (fY:0<bytes)(aB:((Ak.append s st bytes x' y').req (Ag E t) h).ok):Ran E P (execOp a.eval o) g h w ((Ak.append s st bytes x' y').req (Ag E t) h):=by
 have rx:=AO H ht hx;simp only[Ak.req]at aB |-;generalize Ag E t x'=X at *;cases X<;>(try (simp only[DM,Req.fail]at aB;done))
 case nils =>generalize hv:a.eval x=v at rx;cases rx;exact sB H ht ho hy hu hs hb hz dq fY hv aB
 case vec id ep lo n=>exact sD H ht ho hy hu hs hb hz dq fY rx aB
theorem Vt{o:Oper}{ao:Ak}(H:HR E g h w)(ht:RVs g w t a.tmps.toList)(hc:F6 P o.op ao=true)(aB:(ao.req (Ag E t) h).ok):Ran E P (execOp a.eval o) g h w (ao.req (Ag E t) h):=by
 generalize ho:o.op=op at hc;unfold F6 at hc;split at hc
 ·exact UG H ht (.inl ho) hc
 ·exact UG H ht (.inr ho) hc
 ·simp only[AE]at hc;exact rH H ht ho hc.1.1 hc.1.2 hc.2 aB
 ·rename_i op' ty x y yt op'' bools x' y';simp only[AE,Bq,Fz,GR]at hc;obtain⟨⟨⟨rfl,hx⟩,hy⟩,hb⟩:=hc;refine rE H ht ho hx hy (fun e=>?_) aB;rcases hb with hb|hb
  ·rw[e]at hb;cases hb
  ·split at hb
   ·assumption
   ·cases hb
 ·exact rF H ht ho hc aB
 ·exact rG H ht ho hc aB
 ·exact rW H ho hc
 ·exact rX H ht ho hc aB
 ·rename_i ty x agg sz y;simp only[AE,Bq,Fz,GR]at hc;obtain⟨⟨h1,h2⟩,hx⟩:=hc;exact UI H ht ho hx h1 (fun e=>h2.resolve_left (by rw[e];simp)) aB
 ·simp only[AE,Bq]at hc;exact rL H ht ho hc.1.2 hc.2 hc.1.1 aB
 ·exact rO H ht ho hc aB
 ·rename_i s x f off y;simp only[AE]at hc;obtain⟨h1,hx⟩:=hc;split at h1
  ·rename_i o' ft hf;simp only[AE,Bq]at h1;obtain⟨rfl,h2⟩:=h1;split at h2
   ·rename_i n hn;exact rQ H ht ho hx hf hn (by simpa using h2) aB
   ·cases h2
  ·cases h1
 ·rename_i ty x i st x' i';simp only[AE]at hc;obtain⟨⟨h1,hx⟩,hi⟩:=hc;split at h1
  ·rename_i e he;simp only[Bq]at h1;unfold UB at he;split at he
   ·rename_i e' hu;obtain rfl:=BA he;exact rT H ht ho hx hi hu h1 aB
   ·cases he
  ·cases h1
 ·rename_i ty x i nn st x' i';simp only[AE]at hc;obtain⟨⟨h1,hx⟩,hi⟩:=hc;split at h1
  ·rename_i m e he;simp only[AE,Bq]at h1;obtain⟨rfl,hs⟩:=h1;unfold UC at he;split at he
   ·rename_i n' e' hu;simp only[AX,DL]at he;obtain⟨rfl,rfl⟩:=he;exact rV H ht ho hx hi hu hs aB
   ·cases he
  ·cases h1
 ·rename_i ty x f agg off sz y;simp only[AE]at hc;obtain⟨h1,hx⟩:=hc;split at h1
  ·rename_i o' ft hf;simp only[AE,Bq,Fz,GR]at h1;obtain⟨⟨rfl,h2⟩,h3⟩:=h1;exact sx H ht ho hx hf h2 (fun e=>h3.resolve_left (by rw[e];simp)) aB
  ·cases h1
 ·simp only[AE,Bq]at hc;obtain⟨rfl,hx⟩:=hc;exact rI H ht ho hx aB
 ·rename_i ty x i x' i';simp only[AE]at hc;obtain⟨⟨h1,hx⟩,hi⟩:=hc;split at h1
  ·rename_i hu;exact rU H ht ho hx hi hu aB
  ·cases h1
 ·rename_i ty x i agg n sz x' i';simp only[AE]at hc;obtain⟨⟨h1,hx⟩,hi⟩:=hc;split at h1
  ·rename_i m e hu;simp only[AE,Bq]at h1;obtain⟨⟨rfl,h2⟩,h3⟩:=h1;exact sy H ht ho hx hi hu h3 h2 aB
  ·cases h1
 ·exact su H ht ho hc aB
 ·exact sw H ht ho hc aB
 ·rename_i src dst x k y;simp only[AE]at hc;obtain⟨⟨h1,h2⟩,hx⟩:=hc;split at h2
  ·rename_i k' hd;simp only[Bq]at h2;subst h2;exact rY H ht ho hx h1 hd aB
  ·cases h2
 ·rename_i ty x lo hi isStr st x' lo' bC;simp only[AE]at hc;obtain⟨⟨⟨h1,hx⟩,cg⟩,dj⟩:=hc;split at h1
  ·rename_i hu;subst h1;exact UQ H ht ho hx cg dj hu (by simp) aB
  ·rename_i e hu;simp only[AE,Bq,GR]at h1;obtain⟨rfl,h2⟩:=h1;exact UQ H ht ho hx cg dj hu (by simp;exact h2) aB
  ·cases h1
 ·rename_i args ats isStr x';simp only[AE,Bq]at hc;obtain⟨⟨⟨h1,h2⟩,hx⟩,hu⟩:=hc;obtain⟨x,rfl⟩:=Array.size_eq_one_iff.1 h1;obtain⟨ty,rfl⟩:=Array.size_eq_one_iff.1 h2;simp only[J5,Uy,Option.bind_some]at hx hu;split at hu
  ·rename_i hd;subst hu;exact UN H ht ho rfl rfl hd (by simp) hx aB
  ·rename_i e hd;simp only[GR]at hu;subst hu;exact UN H ht ho rfl rfl hd (by simp) hx aB
  ·cases hu
 ·rename_i args ats s st bytes x' y';split at hc
  ·rename_i x y tx ty bL kQ;simp only[AE,Bq]at hc;obtain⟨⟨⟨rfl,hx⟩,hy⟩,h2⟩:=hc;obtain rfl:args=#[x,y]:=by rw[<-J1 (xs:=args),bL]
   obtain rfl:ats=#[tx,tx]:=by rw[<-J1 (xs:=ats),kQ]
   split at h2
   ·rename_i e hu;simp only[AE,Bq,bne_iff_ne]at h2;obtain⟨⟨⟨hs,hb⟩,fY⟩,hz⟩:=h2;split at hz
    ·rename_i zl dq;simp only[Bq]at hz;exact ta H ht ho hx hy hu hs hb dq hz (by omega) aB
    ·cases hz
   ·cases h2
  ·cases hc
 ·rename_i args ats st0 x' y';split at hc
  ·rename_i x y bL;simp only[AE]at hc;exact rZ H ht ho bL hc.1 hc.2 aB
  ·cases hc
 ·rename_i args ats st0 x' y';split at hc
  ·rename_i x y bL;simp only[AE]at hc;exact r_ H ht ho bL hc.1 hc.2 aB
  ·cases hc
 ·rename_i args ats st0 x' y' z';split at hc
  ·rename_i x y z bL;simp only[AE]at hc;exact si H ht ho bL hc.1.1 hc.1.2 hc.2 aB
  ·cases hc
 ·rename_i ty x y yt sh x' y';simp only[AE,Bq,GR]at hc;obtain⟨⟨⟨⟨h1,h2⟩,h3⟩,hx⟩,hy⟩:=hc;split at h3
  ·rename_i fs hu;exact UY (ng:=false) H ht ho hx hy h1 h2 hu aB
  ·cases h3
 ·rename_i ty x y yt sh x' y';simp only[AE,Bq,GR]at hc;obtain⟨⟨⟨⟨h1,h2⟩,h3⟩,hx⟩,hy⟩:=hc;split at h3
  ·rename_i fs hu;exact UY (ng:=true) H ht ho hx hy h1 h2 hu aB
  ·cases h3
 ·rename_i ty x yt x';simp only[AE]at hc;split at hc
  ·rename_i e hu;exact Vn (ng:=false) H ht ho hc.1 hu aB
  ·cases hc.2
 ·rename_i ty x yt x';simp only[AE]at hc;split at hc
  ·rename_i e hu;exact Vn (ng:=true) H ht ho hc.1 hu aB
  ·cases hc.2
 ·rename_i ty x yt x';simp only[AE]at hc;split at hc
  ·rename_i e hu;exact Vo (ng:=false) H ht ho hc.1 hu aB
  ·cases hc.2
 ·rename_i ty x yt x';simp only[AE]at hc;split at hc
  ·rename_i e hu;exact Vo (ng:=true) H ht ho hc.1 hu aB
  ·cases hc.2
 ·exact sE H ho
 ·rename_i ty x k cok kd cok' zero x' k';simp only[AE,Bq]at hc;obtain⟨⟨⟨rfl,h1⟩,hx⟩,hk⟩:=hc;split at h1
  ·rename_i kt et hu;simp only[AE,Bq]at h1;exact sI H ht ho hx hk hu h1.1 h1.2 aB
  ·cases h1
 ·rename_i ty m k v kd m' k' v';simp only[AE]at hc;obtain⟨⟨⟨h1,hx⟩,hk⟩,hv⟩:=hc;split at h1
  ·rename_i kt et hu;simp only[Bq]at h1;exact Vm H ht (.inl ho) hx hk hv hu h1 aB
  ·cases h1
 ·rename_i ty m k v kd m' k' v';simp only[AE]at hc;obtain⟨⟨⟨h1,hx⟩,hk⟩,hv⟩:=hc;split at h1
  ·rename_i kt et hu;simp only[Bq]at h1;exact Vm H ht (.inr ho) hx hk hv hu h1 aB
  ·cases h1
 ·rename_i args ats x';simp only[AE,Bq]at hc;obtain⟨⟨⟨h1,h2⟩,hx⟩,hu⟩:=hc;obtain⟨x,rfl⟩:=Array.size_eq_one_iff.1 h1;obtain⟨ty,rfl⟩:=Array.size_eq_one_iff.1 h2;simp only[J5,Uy,Option.bind_some]at hx hu;split at hu
  ·rename_i kt et hd;exact sN H ht ho rfl rfl hd hx aB
  ·cases hu
 ·rename_i ty x s x';simp only[AE]at hc;obtain⟨h1,hx⟩:=hc;split at h1
  ·rename_i kt et hu;exact sO H ht ho hx hu aB
  ·cases h1
 ·exact sP H ht ho hc aB
 ·rename_i f first caps f' caps'
  simp only[AE,Bq]at hc;obtain⟨⟨rfl,h0⟩,bF⟩:=hc;exact rJ H ht ho (by simpa using h0) bF
 ·rename_i src dst x s x';simp only[AE]at hc;obtain⟨h1,hx⟩:=hc;split at h1
  ·rename_i e hs hd;simp only[AE]at h1;obtain⟨h2,h3⟩:=h1;split at h2
   ·rename_i he;exact sS H ht ho hx hs hd he aB
   ·cases h2
  ·cases h1
 ·rename_i src dst x x';simp only[AE]at hc;obtain⟨h1,hx⟩:=hc;split at h1
  ·rename_i e hs hd;simp only[AE]at h1;obtain⟨h2,h3⟩:=h1;split at h2
   ·rename_i he;exact Qe H ht ho hx hs he hd aB
   ·cases h2
  ·cases h1
 ·rename_i t0 x y s st bytes zero x';simp only[AE]at hc;obtain⟨⟨hx,hy⟩,h1⟩:=hc;split at h1
  ·rename_i e hu;simp only[AE,Bq,bne_iff_ne]at h1;obtain⟨⟨⟨hs,hb⟩,fY⟩,h2⟩:=h1;split at h2
   ·rename_i z hz;exact sV H ht ho hx hy hu hs hb (by omega) hz h2 aB
   ·cases h2
  ·cases h1
 ·rename_i args ats st0 x' y';split at hc
  ·rename_i x y tx ty ha dA;simp only[AE]at hc;obtain⟨⟨hx,hy⟩,h1⟩:=hc;split at h1
   ·rename_i e hu;have hs:=Bq.1 h1;obtain rfl:args=#[x,y]:=(by rw[<-J1 (xs:=args),ha]);obtain rfl:ats=#[tx,ty]:=(by rw[<-J1 (xs:=ats),dA]);exact sZ H ht ho hx hy hu hs aB
   ·cases h1
  ·cases hc
 ·rename_i args ats zero x';split at hc
  ·rename_i x tx ha dA;simp only[AE]at hc;obtain⟨hx,h1⟩:=hc;split at h1
   ·rename_i e hu;split at h1
    ·rename_i z hz;obtain rfl:args=#[x]:=by rw[<-J1 (xs:=args),ha]
     obtain rfl:ats=#[tx]:=by rw[<-J1 (xs:=ats),dA]
     exact s_ H ht ho hx hu hz h1 aB
    ·cases h1
   ·cases h1
  ·cases hc
 ·exact sU H ht ho hc aB
 ·cases hc
end
theorem It{ar:Ad->Aa}{h:Ax}{i:Nat}{ob:Ai}(o:Ak)(aB:(o.req ar h).ok)(ho:(o.req ar h).out=some (i,ob)):(h i).plain/\i∈(o.req ar h).rd:=by
 cases o<;>simp only[Ak.req]at aB ho |-<;>(try (cases ho;done))
 case alloc s zero =>simp only[AX,DL]at ho;obtain⟨rfl,_⟩:=ho;exact⟨aB,by simp⟩
 case box s x =>cases hp:Cm (ar x)<;>simp only[hp,Req.fail]at aB ho |-;simp only[AX,DL]at ho;obtain⟨rfl,_⟩:=ho;exact⟨aB,by simp⟩
 case bslice s st nn zero ps =>cases hp:Cr ar zero ps<;>simp only[hp,Req.fail]at aB ho |-;simp only[AX,DL]at ho;obtain⟨rfl,_⟩:=ho;exact⟨aB.1,by simp⟩
 case fslice s st nn zero ps =>cases hp:Cr ar zero ps<;>simp only[hp,Req.fail]at aB ho |-;simp only[AX,DL]at ho;obtain⟨rfl,_⟩:=ho;exact⟨aB.1,by simp⟩
 case store sz x y =>
  unfold Cs at aB ho |-;cases hp:Cm (ar y)<;>simp only[hp,Req.fail]at aB ho |-;cases hx:ar x<;>simp only[hx,Req.fail]at aB ho |-
  case ptr id ep off =>
   cases hh:h id<;>simp only[hh,Req.fail]at aB ho |-
   case box ep' cs =>simp only[AX,DL]at ho;obtain⟨rfl,_⟩:=ho;exact⟨by rw[hh];trivial,by simp⟩
   all_goals exact aB.elim
  case eptr id ep i' off =>
   cases hh:h id<;>simp only[hh,Req.fail]at aB ho |-
   case vec ep' st n f =>simp only[AX,DL]at ho;obtain⟨rfl,_⟩:=ho;exact⟨by rw[hh];trivial,by simp⟩
   all_goals exact aB.elim
  all_goals exact aB.elim
 case append s st bytes x y =>
  simp only[DM]at aB ho |-;cases hx:ar x<;>simp only[hx,Req.fail]at aB ho |-
  case nils =>
   by_cases hn:(Bh st (ar y) h).n=0
   ·simp only[hn,Bw]at ho;cases ho
   ·simp only[hn,Cz]at aB ho |-;simp only[AX,DL]at ho;obtain⟨rfl,_⟩:=ho;exact⟨aB.1,by simp⟩
  case vec id ep lo n =>
   cases hh:h id<;>simp only[hh,Req.fail]at aB ho |-
   case vec ep' st' m f =>simp only[AX,DL]at ho;obtain⟨rfl,_⟩:=ho;exact⟨by rw[hh];trivial,by simp⟩
   all_goals exact aB.elim
  all_goals exact aB.elim
 case s2b s x =>cases hx:ar x<;>simp only[hx,Req.fail]at aB ho |-<;>(try (cases ho;done));simp only[AX,DL]at ho;obtain⟨rfl,_⟩:=ho;exact⟨aB,by simp⟩
 case mks s st bytes zero x =>cases hx:ar x<;>simp only[hx,Req.fail]at aB ho |-<;>(try (cases ho;done));simp only[AX,DL]at ho;obtain⟨rfl,_⟩:=ho;exact⟨aB.1,by simp⟩
 case b2s x =>exfalso;revert ho;unfold Dy;split<;>(intro ho;cases ho;done)
 case copy st0 x y =>unfold JH at aB ho |-;cases hx:ar x<;>simp only[hx,Req.fail]at aB ho |-<;>(try (cases ho;done));rename_i id ep lo n;cases hh:h id<;>simp only[hh,Req.fail]at aB ho |-<;>(try (cases ho;done));simp only[AX,DL]at ho;obtain⟨rfl,_⟩:=ho;exact⟨by rw[hh];trivial,by simp⟩
 case clear zero x =>unfold Hc at aB ho |-;cases hx:ar x<;>simp only[hx,Req.fail]at aB ho |-<;>(try (cases ho;done));rename_i id ep lo n;cases hh:h id<;>simp only[hh,Req.fail]at aB ho |-<;>(try (cases ho;done));simp only[AX,DL]at ho;obtain⟨rfl,_⟩:=ho;exact⟨by rw[hh];trivial,by simp⟩
 case mkmap s =>simp only[AX,DL]at ho;obtain⟨rfl,_⟩:=ho;exact⟨aB,by simp⟩
 case mlook kd cok zero x k =>
  exfalso;revert ho;unfold FC;repeat' split
  all_goals (intro ho;cases ho;done)
 case mupd kd x k v =>
  unfold Gf at aB ho |-;cases hx:ar x<;>simp only[hx,Req.fail]at aB ho |-<;>(try (exact aB.elim));rename_i id ep;cases hh:h id<;>simp only[hh,Req.fail]at aB ho |-<;>(try (exact aB.elim));rename_i ep' es;cases hf:BC (ar k) es 0 with
  |none=>simp only[hf]at aB
  |some r =>cases r<;>simp only[hf,AX,DL]at ho |-<;>(obtain⟨rfl,_⟩:=ho;exact⟨by rw[hh];trivial,by simp⟩)
 case mrange s x =>
  unfold JG at aB ho |-;cases hx:ar x<;>simp only[hx,Req.fail]at aB ho |-<;>(try (exact aB.elim))
  case nilmp =>simp only[AX,DL]at ho;obtain⟨rfl,_⟩:=ho;exact⟨aB,by simp⟩
  case mp id ep =>cases hh:h id<;>simp only[hh,Req.fail]at aB ho |-<;>(try (exact aB.elim));simp only[AX,DL]at ho;obtain⟨rfl,_⟩:=ho;exact⟨aB.2,by simp⟩
 case mentry x =>
  exfalso;revert ho;unfold Ij;repeat' split
  all_goals (intro ho;cases ho;done)
 case bin op bools x y =>
  exfalso;revert ho;unfold CA;repeat' split
  all_goals first
   |(intro ho;cases ho;done)
   |(rename_i k a _ b _;cases op<;>(intro ho;cases ho;done))
   |(rename_i k a _ b _ _;cases op<;>(intro ho;cases ho;done))
   |(cases op<;>(intro ho;cases ho;done))
 case pick c x y =>
  exfalso;revert ho;unfold Cl;repeat' split
  all_goals (intro ho;cases ho;done)
 case load agg sz x =>
  exfalso;revert ho;unfold C0;repeat' split
  all_goals (intro ho;cases ho;done)
 all_goals (exfalso;revert ho;repeat' split)<;>(intro ho;cases ho;done)
variable {E:Nat->Aa}{P:Program}{ρ:Option Nat}
theorem Vu{o:Op}{a:Ak}(h:F6 P o a=true):∀c,o≠.defer c:=by rintro c rfl;cases a<;>simp[F6]at h
def putT(t:List Aa)(d:Option Tmp)(v:Aa):List Aa:=match d with
 |some d=>t.set d v
 |none=>t
theorem JR{g:Gh}{w:World}{t:List Aa}{a:Act}(ht:RVs g w t a.tmps.toList)(d:Option Tmp){x:Aa}{v:Value}(hv:RV g w x v):RVs g w (putT t d x) (a.put d v).tmps.toList:=by
 cases d with
 |none=>exact ht
 |some d =>simp only[putT,Act.put,Array.toList_setIfInBounds];exact ht.set d hv
theorem JS(a:Act)(d:Option Tmp)(v:Value):(a.put d v).defers=a.defers:=by cases d<;>rfl
def BD:Aa->Bool->Option Bool
 |.bool b,want=>some (if want then b else !b)
 |.cnd c (.bool b),want=>some (c&&if want then b else !b)
 |.cnd false _,_=>some false
 |_,_=>none
def Qf:Value->Option Bool
 |.bool b=>some b
 |_=>none
theorem Vv{g:Gh}{w:World}{x:Aa}{v:Value}{want c:Bool}(hx:RV g w x v)(hg:BD x want=some c):(Qf v==some want)=c:=by
 cases x with
 |bool b =>simp only[BD,AX]at hg;subst hg;rw[DO hx];cases want<;>cases b<;>rfl
 |cnd d y =>
  cases y with
  |bool b =>
   simp only[BD,AX]at hg;subst hg;cases hx with
   |cnd _ _ _ h1 h0 =>
    cases d with
    |true =>rw[DO (h1 rfl)];cases want<;>cases b<;>rfl
    |false =>rw[h0 rfl];cases want<;>cases b<;>rfl
  |_ =>
   cases d with
   |true=>cases hg
   |false =>
    cases hg;cases hx with
    |cnd _ _ _ h1 h0=>rw[h0 rfl];cases want<;>rfl
 |_=>cases hg
structure Av.Ok(P:Program)(ops:Array Oper)(o:Oper)(ao:Av):Prop where
 dst:o.dst=ao.dst
 grd:match ao.guard with | none=>o.guard=none | some (tg,want)=>∃j,o.guard=some (j,want)/\(ops[j]?).bind (·.dst)=some tg
def argU(E:Nat->Aa)(t:List Aa):Ad->Aa
 |.t n=>unv (t.getD n .top)
 |y=>Ag E t y
def CN:List Ad->List Tmp
 |[]=>[]
 |.t n :: r=>n :: CN r
 |_ :: r=>CN r
theorem L5{l:List Ad}{n:Nat}(h:Ad.t n∈l):n∈CN l:=by
 induction l with
 |nil=>cases h
 |cons x r ih =>
  cases h with
  |head=>simp[CN]
  |tail _ h=>cases x<;>simp[CN,ih h]
def BI(c:Bool)(t:List Aa):List Ad->Prop
 |[]=>True
 |.t n :: r=>unc c (t.getD n .top)/\BI c t r
 |_ :: r=>BI c t r
def Ak.unAll(E:Nat->Aa)(c:Bool)(t:List Aa):Ak->Prop
 |.pick x y z=>BI c t [x]/\(match argU E t x with | .bool b=>BI (c&&b) t [y]/\BI (c&&!b) t [z] | _=>False)
 |o=>BI c t o.args
theorem Vw(b:Bool)(X Y:Aa):(Cl b X Y).v=bif b then unv X else unv Y:=by
 unfold Cl;split
 ·rename_i p q h1 h2;cases b<;>simp[Req.when,h1,h2]
 ·rename_i k p k' q h1 h2;split
  ·rename_i e;subst e;cases b<;>simp[Req.when,h1,h2]
  ·cases b<;>simp[Req.when,h1,h2]
 ·cases b<;>simp[Req.when]
theorem Qg(b:Bool)(X Y:Aa):(Cl b X Y).out=none:=by unfold Cl;split<;>(try split)<;>rfl
theorem tc{c:Bool}{t:List Aa}{l:List Ad}(h:BI c t l){n:Nat}(hn:Ad.t n∈l):unc c (t.getD n .top):=by
 induction l with
 |nil=>cases hn
 |cons x r ih =>
  cases hn with
  |head=>exact h.1
  |tail _ hn=>cases x<;>first|exact ih h.2 hn|exact ih h hn
def only(tm:List Nat)(t:List Aa):List Aa:=t.zipIdx.map fun x=>if x.2∈tm then unv x.1 else .top
theorem td(tm:List Nat)(t:List Aa)(n:Nat)(hn:n∈tm):(only tm t).getD n .top=unv (t.getD n .top):=by
 simp only[only,List.getD,J4,List.getElem?_zipIdx];cases h:t[n]? with
 |none=>rfl
 |some x=>simp[hn]
theorem tf{g:Gh}{w:World}{t:List Aa}{a:List Value}{c:Bool}(ht:RVs g w t a)(hc:c=true){l:List Ad}(hu:BI c t l)(tm:List Nat)(nE:∀n∈tm,Ad.t n∈l):RVs g w (only tm t) a:=by
 refine⟨by simp[only,ht.1],fun i x v hx hv=>?_⟩;simp only[only,J4,List.getElem?_zipIdx,Option.map_map]at hx;cases h:t[i]? with
 |none=>simp[h]at hx
 |some y =>
  simp only[h,Ek,Function.comp,Cx,AX]at hx;subst hx;split
  ·rename_i hi;have iE:=tc hu (nE i hi);have e:t.getD i .top=y:=by simp[List.getD,h]
   rw[e]at iE;exact DP (ht.2 i y v h hv) iE hc
  ·exact .top v
theorem JT{l:List Ad}{n:Nat}(h:n∈CN l):Ad.t n∈l:=by
 induction l with
 |nil=>cases h
 |cons x r ih =>
  cases x with
  |t m =>
   simp only[CN,AI]at h;rcases h with rfl|h
   ·simp
   ·exact Db _ (ih h)
  |c v=>exact Db _ (ih h)
  |g i=>exact Db _ (ih h)
def Qh(E:Nat->Aa)(ρ:Option Nat)(P:Program)(ops:Array Oper)(o:Oper)(t0:List Aa)(h0:Ax)(tm:List Tmp)(rd:List Nat)(v:Aa)(out:Option (Nat×Ai)):Prop :=
 ∀(g:Gh) (a:Act) (w:World) (S:Au),SR E g S a w->(∀x∈tm,S.t.getD x .top=t0.getD x .top)->(∀j∈rd,S.h j=h0 j) -> ∀(K:Act->World->Prop) (Q:Exit->Act->World->Prop),(∀g' a' w',SR E g' ⟨putT S.t o.dst v,putH S.h out,S.ds⟩ a' w'->Stp g S.h w g' (putH S.h out) w'->K a' w') ->
  if Region.wanted o (yielded ops a.tmps) then o.wpIn (FW ρ) 0 P a w K Q else(∀f,o.about P w a.eval=some f->(FW ρ).fn f)/\K (a.put o.dst undef) w
theorem Vx{S:Au}{g g':Gh}{w w':World}{out:Option (Nat×Ai)}(hs:∀D∈S.ds,S.h D.1=.dfr D.2)(hout:∀i ob,out=some (i,ob)->(S.h i).plain):∀D∈S.ds,putH S.h out D.1=.dfr D.2:=by
 intro D hD;cases out with
 |none=>exact hs D hD
 |some x =>
  obtain⟨i,ob⟩:=x;have hp:=hout i ob rfl;have aH:D.1≠i:=fun e=>by rw[<-e,hs D hD]at hp;exact hp
  simp only[putH,hset,Aj aH];exact hs D hD
theorem L6{o:Oper}{g:Gh}{a:Act}{w:World}{S:Au}{r:Req}(hs:SR E g S a w)(hd:∀c,o.op≠.defer c)(hr:Ran E P (execOp a.eval o) g S.h w r)(hout:∀i ob,r.out=some (i,ob)->(S.h i).plain){K:Act->World->Prop} {Q:Exit->Act->World->Prop} {y:Aa} (hy:∀g' w' v,RV g' w' r.v v->RV g' w' y v)(hK:∀g' a' w',SR E g' ⟨putT S.t o.dst y,putH S.h r.out,S.ds⟩ a' w'->Stp g S.h w g' (putH S.h r.out) w'->K a' w'):o.wpIn (FW ρ) 0 P a w K Q:=by
 obtain⟨n,v,w',g',aG,hn,hv,H',st,_⟩:=hr;refine⟨fun f _=>trivial,?_⟩;rw[Oper.semAt_eq _ _ _ hd,aG];have key:K (a.put o.dst v) w':=by refine hK g' _ w' ⟨H',JR (hs.tm.mono st.le) o.dst (hy _ _ _ hv),?_,Vx (g:=g) (g':=g') (w:=w) (w':=w') hs.dk hout,hs.dn⟩ st;rw[JS,hs.df];refine Ie fun D hD=>?_;have h1:=hs.hr.ep D.1;have h2:=H'.ep D.1;have h3:=Vx (g:=g) (g':=g') (w:=w) (w':=w') hs.dk hout D hD;rw[hs.dk D hD]at h1;rw[h3]at h2;rw[(st.le.same D.1 (h2.trans h1.symm)).1]
 rcases hn with rfl|⟨rfl,rfl⟩
 ·exact key
 ·exact key
theorem Qi{ops:Array Oper}{o:Oper}(h:o.guard=none)(f:Nat->Option Bool):Region.wanted o f=true:=by simp[Region.wanted,h]
theorem th{t t0:List Aa}{l:List Ad}(h:∀x∈CN l,t.getD x .top=t0.getD x .top):∀y∈l,Ag E t y=Ag E t0 y:=by
 intro y hy;cases y with
 |t n=>exact h n (L5 hy)
 |c v=>rfl
 |g i=>rfl
theorem tj{ops:Array Oper}{o:Oper}{ao:Av}{t0:List Aa}{h0:Ax}(hc:F6 P o.op ao.op=true)(hk:Av.Ok P ops o ao)(hg:ao.guard=none)(aB:(ao.op.req (Ag E t0) h0).ok) :
  Qh E ρ P ops o t0 h0 (CN ao.op.args) (ao.op.req (Ag E t0) h0).rd (ao.op.req (Ag E t0) h0).v (ao.op.req (Ag E t0) h0).out:=by
 intro g a w S hs ht hh K Q hK;have fO:o.guard=none:=by have:=hk.grd;rw[hg]at this;exact this
 rw[Ap (Qi (ops:=ops) fO _)];have e1:ao.op.req (Ag E S.t) S.h=ao.op.req (Ag E t0) S.h:=JI ao.op (th ht);have e2:ao.op.req (Ag E t0) S.h=ao.op.req (Ag E t0) h0:=JK ao.op aB hh;have e:=e1.trans e2;have hr:=Vt (E:=E) (P:=P) (t:=S.t) hs.hr hs.tm hc (by rw[e];exact aB);rw[e]at hr;refine L6 hs (Vu hc) hr (fun i ob ho=>?_) (fun _ _ _ h=>h) hK;obtain⟨hp,hm⟩:=It ao.op aB ho;rw[hh i hm];exact hp
theorem Vy{ops:Array Oper}{o:Oper}{ao:Av}{t0:List Aa}{h0:Ax}{tg:Tmp}{want c:Bool}(hc:F6 P o.op ao.op=true)(hk:Av.Ok P ops o ao)(hg:ao.guard=some (tg,want))(bB:BD (t0.getD tg .top) want=some c) (aB:c=true->ao.op.unAll E c t0/\(ao.op.req (argU E t0) h0).ok) :
  Qh E ρ P ops o t0 h0 (tg :: CN ao.op.args) (ao.op.req (argU E t0) h0).rd (.cnd c (ao.op.req (argU E t0) h0).v) (bif c then(ao.op.req (argU E t0) h0).out else none):=by
 intro g a w S hs ht hh K Q hK;have fO:=hk.grd;rw[hg]at fO;obtain⟨j,kR,gS⟩:=fO
 have cK:Region.wanted o (yielded ops a.tmps)=c:=by
  have h1:=Vv (hs.tm.getD tg) (by rw[ht tg (BL ..)];exact bB);rw[<-h1]
  have hy:yielded ops a.tmps j=Qf (a.tmps.getD tg undef):=by
   simp only[yielded,gS,Option.bind_some];by_cases hl:tg<a.tmps.size
   ·have e:a.tmps.getD tg undef=a.tmps[tg]:=(by simp[Array.getD,hl]);rw[EA hl,e];cases a.tmps[tg]<;>rfl
   ·have e:a.tmps.getD tg undef=undef:=(by simp[Array.getD,hl]);rw[Array.getElem?_eq_none (Nat.le_of_not_lt hl),e];rfl
  simp only[Region.wanted,kR,hy]
 cases c with
 |false =>rw[cK];simp only[J2,Cz];refine⟨fun f _=>trivial,hK g _ w ⟨hs.hr,JR hs.tm o.dst (.cnd _ _ _ (fun e=>by cases e) (fun _=>rfl)),by rw[JS];exact hs.df,hs.dk,hs.dn⟩ (.refl _ _ _)⟩
 |true =>
  rw[cK];simp only[Bw];obtain⟨hu,aB⟩:=aB rfl;have g9:∀x∈CN ao.op.args,S.t.getD x .top=t0.getD x .top:=fun x hx=>ht x (Db _ hx)
  have agree:∀l:List Ad,(∀x∈CN l,S.t.getD x .top=t0.getD x .top)->∀d,BI d t0 l->BI d S.t l:=by
   intro l;induction l with
   |nil=>intro _ _ _;trivial
   |cons y r ih =>
    intro hl d hu;cases y with
    |t n=>exact⟨by rw[hl n (by simp[CN])];exact hu.1,ih (fun x hx=>hl x (by simp[CN,hx])) d hu.2⟩
    |c v=>exact ih hl d hu
    |g i=>exact ih hl d hu
  have hr:Ran E P (execOp a.eval o) g S.h w (ao.op.req (argU E t0) h0):=by
   by_cases jh:∃x y z,ao.op=.pick x y z
   ·obtain⟨x,y,z,aM⟩:=jh;rw[aM]at hu hc g9 |-;simp only[Ak.unAll]at hu;obtain⟨nF,iF⟩:=hu
    have known:∀(d:Bool) (yy:Ad) (oo:Operand),d=true->(∀n∈CN [yy],S.t.getD n .top=t0.getD n .top)->BI d t0 [yy]->A7 oo yy=true->RV g w (argU E t0 yy) (a.eval oo):=by
     intro d yy oo hd hl jX nG;have h1:=AO hs.hr hs.tm nG;cases yy with
     |t n =>have e:S.t.getD n .top=t0.getD n .top:=hl n (by simp[CN]);simp only[Ag]at h1;rw[e]at h1;exact DP h1 (show unc d (t0.getD n .top) from jX.1) hd
     |c v=>exact h1
     |g i=>exact h1
    have nH:∃c0 x0 y0,o.op=.pick c0 x0 y0/\A7 c0 x=true/\A7 x0 y=true/\A7 y0 z=true:=by
     generalize o.op=op at hc;cases op<;>simp only[F6]at hc<;>(try (cases hc;done))
     case pick c0 x0 y0 =>simp only[AE]at hc;exact⟨_,_,_,rfl,hc.1.1,hc.1.2,hc.2⟩
    obtain⟨c0,x0,y0,ho,nI,nJ,nK⟩:=nH;have mw:=known true x c0 rfl (fun n hn=>g9 n (by have:=JT hn;exact L5 (by simp only[Ak.args,AI,JD,JF]at this |-;exact .inl this))) nF nI;simp only[Ak.req];split at iF
    ·rename_i b hb;rw[hb]at mw |-;have e:=DO mw;have aG:(execOp a.eval o).run P w=.ok (.value (if b=true then a.eval x0 else a.eval y0)) w:=by simp[execOp,ho,e,asBool]
     have hv:RV g w (Cl b (argU E t0 y) (argU E t0 z)).v (if b=true then a.eval x0 else a.eval y0):=by
      rw[Vw];have uu:∀yy:Ad,∀vv,unc true (argU E t0 yy)->RV g w (argU E t0 yy) vv->RV g w (unv (argU E t0 yy)) vv:=fun yy vv h1 h2=>DP h2 h1 rfl;have kT:(Cl b (argU E t0 y) (argU E t0 z)).ok:=by have:=aB;rw[aM]at this;simp only[Ak.req,hb]at this;exact this
      have jX:unc b (argU E t0 y)/\unc (!b) (argU E t0 z):=by
       revert kT;unfold Cl;split
       ·exact id
       ·split<;>exact id
       ·exact id
      cases b with
      |true =>exact uu y _ jX.1 (known true y x0 rfl (fun n hn=>g9 n (by have:=JT hn;exact L5 (by simp only[Ak.args,AI,JD,JF]at this |-;exact .inr (.inl this)))) (by simpa using iF.1) nJ)
      |false =>exact uu z _ jX.2 (known true z y0 rfl (fun n hn=>g9 n (by have:=JT hn;exact L5 (by simp only[Ak.args,AI,JD,JF]at this |-;exact .inr (.inr this)))) (by simpa using iF.2) nK)
     exact⟨_,_,w,g,aG,.inl rfl,hv,by rw[Qg];exact hs.hr,by rw[Qg];exact .refl _ _ _,fun _=>⟨rfl,rfl⟩⟩
    ·exact iF.elim
   ·have kU:BI true t0 ao.op.args:=by
     cases aM:ao.op<;>rw[aM]at hu<;>first|exact hu|exact absurd ⟨_,_,_,aM⟩ jh
    have iE:BI true S.t ao.op.args:=agree _ g9 _ kU;have bV:=tf hs.tm rfl iE (CN ao.op.args) (fun n hn=>JT hn)
    have e0:ao.op.req (Ag E (only (CN ao.op.args) S.t)) S.h=ao.op.req (argU E t0) S.h:=by
     refine JI ao.op fun y hy=>?_;cases y with
     |t n=>simp only[Ag,argU];rw[td _ _ _ (L5 hy),g9 n (L5 hy)]
     |c v=>rfl
     |g i=>rfl
    have e2:ao.op.req (argU E t0) S.h=ao.op.req (argU E t0) h0:=JK ao.op aB hh;have e:=e0.trans e2;have hr:=Vt (E:=E) (P:=P) hs.hr bV hc (by rw[e];exact aB);rw[e]at hr;exact hr
  exact L6 hs (Vu hc) hr (fun i ob ho=>by obtain⟨hp,hm⟩:=It ao.op aB ho;rw[hh i hm];exact hp) (fun _ _ _ h=>.cnd _ _ _ (fun _=>h) (fun e=>by cases e)) hK
theorem tk{ops:Array Oper}{o:Oper}{ao:Av}{t0:List Aa}{h0:Ax}{tg:Tmp}{want c:Bool}(hc:F6 P o.op ao.op=true)(hk:Av.Ok P ops o ao)(hg:ao.guard=some (tg,want))(bB:BD (t0.getD tg .top) want=some c) (bT:∀i ob,(ao.op.req (argU E t0) h0).out=some (i,ob)->ob=h0 i) (aB:c=true->ao.op.unAll E c t0/\(ao.op.req (argU E t0) h0).ok) :
  Qh E ρ P ops o t0 h0 (tg :: CN ao.op.args) (ao.op.req (argU E t0) h0).rd (.cnd c (ao.op.req (argU E t0) h0).v) none:=by
 intro g a w S hs ht hh K Q hK
 have e3:putH S.h (bif c then(ao.op.req (argU E t0) h0).out else none)=S.h:=by
  cases c with
  |false=>rfl
  |true =>
   show putH S.h (ao.op.req (argU E t0) h0).out=S.h;cases ho:(ao.op.req (argU E t0) h0).out with
   |none=>rfl
   |some q =>
    obtain⟨i,ob⟩:=q;have e1:=bT i ob ho;have e2:=hh i (It ao.op (aB rfl).2 ho).2;funext j;show hset S.h i ob j=S.h j;simp only[hset];split
    ·rename_i ej;rw[ej,e1,e2]
    ·rfl
 exact Vy hc hk hg bB aB g a w S hs ht hh K Q (by rw[e3];exact hK)
def DQ(t:List Aa):List Tmp->List Aa->List Aa
 |p :: ps,v :: vs=>DQ (t.set p v) ps vs
 |_,_=>t
section
variable {E:Nat->Aa}{P:Program}{ρ:Option Nat}
theorem HR.loopAt{g:Gh}{h:Ax}{w:World}{id ep:Nat}{st:LoopState}{pd:Option Code}{ts:List Aa}{ps:Array Tmp}{asg body:Code}{D eD:Nat}(H:HR E g h w)(hid:h id=.loop ep st pd ts ps asg body D eD) :
  ∃r:Loop,w.heap[g.blk id]?=some (.loop r)/\r.state=st/\r.pending=pd/\r.params=ps/\r.assign=asg/\r.body=body/\RVs g w ts r.tmps.toList /\
   ∀st' pd',HR E g (hset h id (.loop ep st' pd' ts ps asg body D eD)) (w.putObj (g.blk id) (.loop { r with state:=st',pending:=pd' })) /\
    Stp g h w g (hset h id (.loop ep st' pd' ts ps asg body D eD)) (w.putObj (g.blk id) (.loop { r with state:=st',pending:=pd' })):=by
 have hO:=H.obj id;rw[hid]at hO;obtain⟨hD,tmps,f,bD,eD',hh,hr⟩:=hO;refine⟨_,hh,rfl,rfl,rfl,rfl,rfl,hr,fun st' pd'=>?_⟩;have aQ:(h id).owned=true:=by rw[hid];rfl
 have hlt:g.blk id<w.heap.size:=(Dt.1 hh).1;have aE:GLe g w g (w.putObj (g.blk id) (.loop { state:=st',pending:=pd',fn:=f,tmps,params:=ps,assign:=asg,body,defers:=bD })):=by refine⟨fun b hb=>⟨hb,?_⟩,fun _=>AB _,fun _ _=>⟨rfl,rfl,rfl,rfl⟩⟩;exact World.putObj_heap_other (fun e=>H.sep id aQ (e▸hb))
 refine HR.upd (g':=g) H aE (fun _ _=>rfl) (by rw[H.ep id,hid];rfl) (fun b hb hn=>World.putObj_heap_other (hn aQ)) (by simp) ?_ (fun _=>.inl ⟨aQ,rfl⟩) (fun _=>H.sep id aQ) (fun b hb=>.inl hb) (fun b hb=>by simpa using H.fzb b hb) rfl rfl rfl;exact⟨hD,tmps,f,bD,eD',World.putObj_heap_same hlt,hr.mono aE⟩
def tn(id ep:Nat)(ts:List Aa)(ps:Array Tmp)(asg body:Code)(D eD:Nat)(K:Aa->Ax->Prop):Exit->Au->Prop
 |.normal,S=>(∃pd,S.h id=.loop ep .busy pd ts ps asg body D eD)/\K (.bool true) (hset S.h id (.loop ep .ready none ts ps asg body D eD))
 |.ret,S=>(∃pd,S.h id=.loop ep .busy pd ts ps asg body D eD)/\K (.bool false) (hset S.h id (.loop ep .done (some .ret) ts ps asg body D eD))
 |.exit i,S=>(∃pd,S.h id=.loop ep .busy pd ts ps asg body D eD)/\K (.bool false) (hset S.h id (.loop ep .done (some (.exit i)) ts ps asg body D eD))
 |_,_=>False
def Ce(E:Nat->Aa)(P:Program)(id ep:Nat)(args:List Aa)(h:Ax)(K:Aa->Ax->Prop):Prop := ∃ts ps asg body D eD,h id=.loop ep .ready none ts ps asg body D eD/\args.length=ps.size /\ ∀ρ,AWp E ρ P asg (fun e S1=>e=.normal/\S1.h id=.loop ep .ready none ts ps asg body D eD/\AWp E ρ P body (tn id ep ts ps asg body D eD K) ⟨S1.t,hset S1.h id (.loop ep .busy none ts ps asg body D eD),S1.ds⟩) ⟨DQ ts ps.toList args,h,[]⟩
theorem Vz{g:Gh}{w:World}:∀{ps:List Tmp} {args:List Aa} {vs:List Value} {ts:List Aa} {arr:Array Value},RVs g w ts arr.toList->RVs g w args vs->RVs g w (DQ ts ps args) ((ps.zip vs).foldl (fun(tmps:Array Value) (x:Tmp×Value)=>tmps.setIfInBounds x.1 x.2) arr).toList
 |[],args,vs,ts,arr,h,_=>by simpa [DQ] using h
 |p :: ps,[],vs,ts,arr,h,hv=>by
  have:vs=[]:=by have:=hv.1;simpa using this
  subst this;simpa [DQ] using h
 |p :: ps,x :: args,[],ts,arr,h,hv=>by have:=hv.1;simp at this
 |p :: ps,x :: args,v :: vs,ts,arr,h,hv=>by
  have h1:RVs g w (ts.set p x) (arr.setIfInBounds p v).toList:=by rw[Array.toList_setIfInBounds];exact h.set p (hv.2 0 x v rfl rfl)
  have h2:RVs g w args vs:=⟨by have:=hv.1;simpa using this,fun i y u hy hu=>hv.2 (i+1) y u (by simpa using hy) (by simpa using hu)⟩;have:=Vz (ps:=ps) h1 h2;simpa [DQ] using this
theorem tp(ps:Array Tmp)(vs:List Value)(arr:Array Value):(ps.zip vs.toArray).foldl (fun(tmps:Array Value) (x:Tmp×Value)=>tmps.setIfInBounds x.1 x.2) arr=(ps.toList.zip vs).foldl (fun(tmps:Array Value) (x:Tmp×Value)=>tmps.setIfInBounds x.1 x.2) arr:=by rw[<-Array.foldl_toList];simp
theorem JU{g g':Gh}{h h':Ax}{w w':World}{i:Nat}(H:HR E g h w)(H':HR E g' h' w')(aE:GLe g w g' w')(he:(h' i).ep=(h i).ep):g'.blk i=g.blk i := (aE.same i (by rw[H'.ep,H.ep,he])).1
theorem tq{g:Gh}{h:Ax}{w:World}{id ep:Nat}{args:List Aa}{vs:List Value}{K:Aa->Ax->Prop}(R:Ce E P id ep args h K)(H:HR E g h w)(hv:RVs g w args vs) :
  ∃f tmps asg body,(Instr.yield (g.blk id) vs.toArray).run P w=.ok (.round (g.blk id) f tmps asg body) w /\
   RoundIn (FW ρ) 0 P (g.blk id) f tmps asg body w (fun e w'=>∃g' h' r v,K r h'/\e=.returned v/\RV g' w' r v/\HR E g' h' w'/\Stp g h w g' h' w'):=by
 obtain⟨ts,ps,asg,body,D,eD,hid,aD,hA⟩:=R;obtain⟨r,hr,e1,e2,e3,e4,e5,nL,_⟩:=H.loopAt hid;subst e3 e4 e5;have aJ:vs.toArray.size=r.params.size:=by simp[<-aD,hv.1]
 refine⟨_,_,_,_,run_yield hr aJ,roundIn_of_wpIn (rm ρ _) ?_⟩;rw[rn];have cw:SR E g ⟨DQ ts r.params.toList args,h,[]⟩ { tmps:=(r.params.zip vs.toArray).foldl (fun tmps (t,a)=>tmps.setIfInBounds t a) r.tmps,defers:=[] } w:=by refine⟨H,?_,rfl,(fun D hD=>by cases hD),List.nodup_nil⟩;have:=Vz (ps:=r.params.toList) nL hv;rw[<-tp]at this;exact this
 refine wpIn_mono (hA (some (g.blk id)) g _ w cw) ?_;rintro e a1 w1 ⟨g1,S1,⟨rfl,gT,hB⟩,dh,st1⟩;have dQ:g1.blk id=g.blk id:=JU H dh.hr st1.le (by rw[gT,hid]);obtain⟨r1,fo,f1,f2,f3,f4,f5,nM,put1⟩:=dh.hr.loopAt gT;obtain⟨H2,st2⟩:=put1 .busy none;rw[dQ]at fo H2 st2;have nN:=run_beginRound (P:=P) fo f1;have er:({ r1 with state:=.busy,pending:=none }:Loop)={ r1 with state:=.busy }:=by rw[<-f2]
 rw[er]at H2 st2;refine⟨_,nN,?_⟩
 have cT:SR E g1 ⟨S1.t,hset S1.h id (.loop ep .busy none ts r.params r.assign r.body D eD),S1.ds⟩ a1 (w1.putObj (g.blk id) (.loop { r1 with state:=.busy })):=by
  refine⟨H2,dh.tm.mono st2.le,dh.df,fun D hD=>?_,dh.dn⟩;have hd:=dh.dk D hD;have aH:D.1≠id:=fun e=>by rw[e,gT]at hd;cases hd
  show(if D.1=id then _ else S1.h D.1)=_;rw[Aj aH];exact hd
 refine wpIn_mono (hB g1 a1 _ cT) ?_;rintro e a3 w3 ⟨g3,S3,hq,fZ,st3⟩
 have fin:∀(jump:Option Code) (st':LoopState),(∃pd,S3.h id=.loop ep .busy pd ts r.params r.assign r.body D eD)->(st'=if jump.isNone then .ready else .done)->K (.bool jump.isNone) (hset S3.h id (.loop ep st' jump ts r.params r.assign r.body D eD)) -> ∃v w',(Instr.endRound (g.blk id) jump).run P w3=.ok v w'/\(∃g' h' r' v',K r' h'/\Ending.returned v=.returned v'/\RV g' w' r' v'/\HR E g' h' w'/\Stp g h w g' h' w'):=by
  rintro jump st' ⟨pd,ji⟩ rfl hK;have kV:g3.blk id=g.blk id:=by rw[<-dQ];exact JU H2 fZ.hr st3.le (by rw[ji];simp[hset,Ai.ep])
  obtain⟨r3,gU,_,_,_,_,_,_,put3⟩:=fZ.hr.loopAt ji;obtain⟨H4,st4⟩:=put3 (if jump.isNone then .ready else .done) jump;rw[kV]at gU H4 st4;exact⟨_,_,run_endRound jump gU,g3,_,_,_,hK,rfl,.bool _,H4,st1.trans (st2.trans (st3.trans st4))⟩
 cases e with
 |normal=>exact fin none .ready hq.1 rfl hq.2
 |ret=>exact fin (some .ret) .done hq.1 rfl hq.2
 |exit i=>exact fin (some (.exit i)) .done hq.1 rfl hq.2
 |goto t=>exact hq.elim
 |panic ch=>exact hq.elim
 |outgrown=>exact hq.elim
end
end Go.Am

