/- Part A2: an abstract machine proved sound over the calculus of the guide. No condition. -/
import Derived.Test.YtomegmhiddbmbaaGreatDoorA1
import Derived.MapKept
import Derived.Maps.RangeRun
import Derived.WideKeyRuns
import Derived.Laws.BytesString
import Derived.Laws.IdiomStrings
import Derived.Laws.MakeOwn
import Derived.Laws.CopyRow
import Derived.Lib.SliceRun
import Derived.RangeFuncIn
import Derived.RangeFuncRecord
set_option linter.unusedSimpArgs false
set_option linter.unusedVariables false
namespace Go.Am
theorem Vr(off:Nat):∀(vs:List Value) (k:Nat) (cs:Array Value),off+k+vs.length<=cs.size -> ((vs.zipIdx k).foldl (fun(cs:Array Value) (x:Value×Nat)=>cs.setIfInBounds (off+x.2) x.1) cs).toList=cs.toList.take (off+k)++vs++cs.toList.drop (off+k+vs.length)
 |[],k,cs,h=>by simp
 |v :: vs,k,cs,h=>by
  simp only[DL]at h;rw[List.zipIdx_cons,List.foldl_cons,Vr off vs (k+1) _ (by simp;omega)];simp only[Array.toList_setIfInBounds,DL];have e1:(cs.toList.set (off+k) v).take (off+(k+1))=cs.toList.take (off+k)++[v]:=by rw[show off+(k+1)=(off+k)+1 from by omega,List.take_succ_eq_append_getElem (by simp;omega)];simp[List.take_set_of_le]
  have e2:(cs.toList.set (off+k) v).drop (off+(k+1)+vs.length)=cs.toList.drop (off+k+(vs.length+1)):=by rw[List.drop_set_of_lt (by omega)];congr 1;omega
  rw[e1,e2];simp
section
variable {E:Nat->Aa}{P:Program}{g:Gh}{h:Ax}{w:World}{t:List Aa}{a:Act}
theorem NC{place:Nat->Option (Nat×Nat)}{ρ:Operand->Value}{arg:Ac->Aa}(hr:∀x y,A8 x y=true->RV g w (arg y) (ρ x)):∀{ps:List (Nat×Operand)} {parts:List (Nat×Nat×Ac)} {l l':List Aa} {cs:Array Value},
  I5 place ps parts=true->RVs g w l cs.toList->CQ arg l parts=some l'->∃cs':Array Value,Instr.fill place cs (ps.map fun x=>(x.1,ρ x.2))=some cs'/\RVs g w l' cs'.toList
 |[],[],l,l',cs,_,cb,hf=>by simp only[CQ,AZ]at hf;subst hf;exact⟨cs,rfl,cb⟩
 |(i,x) :: ps,(off,sz,y) :: parts,l,l',cs,hp,cb,hf=>by
  simp only[I5,AE]at hp;obtain⟨⟨bB,bZ⟩,cR⟩:=hp;simp only[CQ]at hf;cases hq:Cz (arg y) with
  |none=>simp[hq]at hf
  |some p =>
   simp only[hq]at hf;split at hf
   ·rename_i aX;obtain⟨hl,bn⟩:=aX;have hv:=Q5 (hr x y bZ) hq;have gX:(ρ x).cells.toList.length=sz:=by rw[hv.1,hl]
    have lj:(ρ x).cells.size=sz:=(by simpa using gX);have c8:=cb.1;cases bT:place i with
    |none=>simp[bT]at bB
    |some os =>
     obtain⟨o,s⟩:=os;simp only[bT,AE,Br]at bB;obtain⟨rfl,rfl⟩:=bB;have jz:RVs g w (lay l o p) ((ρ x).cells.zipIdx.foldl (fun(cs:Array Value) (x:Value×Nat)=>cs.setIfInBounds (o+x.2) x.1) cs).toList:=by have e:=Vr o (ρ x).cells.toList 0 cs (by simp at c8 gX ⊢;omega);have e':(ρ x).cells.zipIdx.foldl (fun(cs:Array Value) (x:Value×Nat)=>cs.setIfInBounds (o+x.2) x.1) cs=((ρ x).cells.toList.zipIdx 0).foldl (fun(cs:Array Value) (x:Value×Nat)=>cs.setIfInBounds (o+x.2) x.1) cs:=(by rw[<-Array.foldl_toList];simp);rw[e',e];exact cb.lay hv o (by omega)
     obtain⟨cs'',h1,h2⟩:=NC hr cR jz hf;refine⟨cs'',?_,h2⟩;simp only[JZ,Instr.fill,bT];have hc:¬((ρ x).cells.size≠s\/o+(ρ x).cells.size>cs.size):=by simp at c8;omega
     simp only[ne_eq,gt_iff_lt,Il,CO]at hc ⊢;rw[Ak hc];exact h1
   ·cases hf
 |[],_ :: _,_,_,_,hp,_,_=>by cases hp
 |_ :: _,[],_,_,_,hp,_,_=>by cases hp
theorem Vs(w:World):∀{fs:List Field} {l:List (Nat×Nat)},Hf P fs=some l->(fs.mapM (fun f=>do pure (f.offset,<-sizeOf f.type):Field->Sem (Nat×Nat))).run P w=.ok l w
 |[],l,h=>by simp only[Hf,AZ]at h;subst h;simp
 |f :: fs,l,h=>by
  simp only[Hf]at h;split at h
  ·rename_i n l' hn fy;obtain rfl:=BI h;have ih:=Vs w fy;simp only[List.mapM_cons,Sem.run_bind,I9 hn,Result.andThen_ok,Sem.run_pure,ih]
  ·cases h
theorem qz3h{ty:TypeId}{zero:List Aa}(hz:I4 P ty zero=true)(w:World):∃z,(zeroValue ty).run P w=.ok z w/\I3 z.cells.toList zero=true/\Ek P ty=some z.cells.toList:=by
 unfold I4 at hz;cases hc:Ek P ty with
 |none=>simp[hc]at hz
 |some l =>
  simp only[hc]at hz;unfold Ek at hc;cases hi:P.info? ty with
  |none=>simp[hi]at hc
  |some i =>
   obtain⟨⟩:=i;rename_i zz _ _;cases zz with
   |none=>simp[hi]at hc
   |some z =>simp only[hi,AZ]at hc;subst hc;exact⟨z,by simp[zeroValue,typeInfo,hi],hz,rfl⟩
theorem qzu2{o:Oper}{ty:TypeId}{ps:Array (Nat×Operand)}{zero:List Aa}{parts:List (Nat×Nat×Ac)}(H:HR E g h w)(ht:RVs g w t a.tmps.toList)(ho:o.op=.build ty ps)(hb:Q3 P ty zero ps.toList parts=true)(aB:((Al.build zero parts).req (Ae E t) h).ok):Ran E P (execOp a.eval o) g h w ((Al.build zero parts).req (Ae E t) h):=by
 simp only[Al.req]at aB ⊢;cases hf:CQ (Ae E t) zero parts with
 |none=>simp only[hf,Req.fail]at aB
 |some l =>
  unfold Q3 at hb;simp only[AE]at hb;obtain⟨hz,hb⟩:=hb;obtain⟨z,fb,du,_⟩:=qz3h hz w;have cT:(ps.map fun x=>(x.1,a.eval x.2)).toList=ps.toList.map fun x=>(x.1,a.eval x.2):=by simp
  cases hu:P.underlying ty with
  |none=>simp[hu]at hb
  |some d =>
   simp only[hu]at hb;cases d<;>(try (cases hb;done))
   case struct fs =>
    simp only at hb;cases j8:Hf P fs.toList with
    |none=>simp[j8]at hb
    |some pl =>
     simp only[j8]at hb;obtain⟨cs',h1,h2⟩:=NC (fun x y bZ=>AP H ht bZ) hb (N0 du) hf;refine Ran.same H (v:=.agg cs') ?_ (.agg _ _ (by simpa using h2.1) (fun i x v hx hv=>h2.2 i x v hx (by simpa using hv)));have mq:(fs.mapM (fun f=>do pure (f.offset,<-sizeOf f.type):Field->Sem (Nat×Nat))).run P w=.ok pl.toArray w:=by rw[Array.mapM_eq_mapM_toList];have e:=Vs w j8;simp only[Sem.run_map,e,Result.andThen_ok]
     have bB:(fun i:Nat=>pl.toArray[i]?)=(fun i:Nat=>pl[i]?):=(by funext i;simp);simp only[execOp,ho,Sem.run_bind,Instr.build,fb,Result.andThen_ok,run_underlying hu,mq,cT,bB,h1,Sem.run_pure]
   case array n e =>
    simp only at hb;cases hs:szOf P e with
    |none=>simp[hs]at hb
    |some st =>simp only[hs]at hb;obtain⟨cs',h1,h2⟩:=NC (fun x y bZ=>AP H ht bZ) hb (N0 du) hf;refine Ran.same H (v:=.agg cs') ?_ (.agg _ _ (by simpa using h2.1) (fun i x v hx hv=>h2.2 i x v hx (by simpa using hv)));simp only[execOp,ho,Sem.run_bind,Instr.build,fb,Result.andThen_ok,run_underlying hu,I9 hs,cT,h1,Sem.run_pure]
theorem Q8{st:Nat}:∀(n:Nat) (l:List Aa) (k:Nat),l.length=n*st->k<n->(EA st n l).getD k []=(l.drop (k*st)).take st
 |0,l,k,_,hk=>by omega
 |n+1,l,0,hl,_=>by simp[EA]
 |n+1,l,k+1,hl,hk=>by
  have e:(n+1)*st=n*st+st:=Ga n st;have fy:(l.drop st).length=n*st:=by simp;omega
  have:=Q8 n (l.drop st) k fy (by omega);simp only[EA,List.getD_cons_succ,this,Qn];congr 2;have e:(k+1)*st=k*st+st:=Ga k st;omega
theorem ND{g':Gh}{s n b:Nat}(hb:g'.blk s=b)(h0:g'.bo s=0)(hc:g'.cp s=n){m:Nat}(hm:m<=n):Hc g' s 0 m (.slice (some ⟨b,0,none⟩) m n) := ⟨⟨b,0,none⟩,n,rfl,hm,.inr ⟨by rw[hb,h0];simp,by omega⟩⟩
theorem Vt{o:Oper}{ty:TypeId}{n st nn:Nat}{ps:Array (Nat×Operand)}{zero:List Aa}{parts:List (Nat×Nat×Ac)}(H:HR E g h w)(ht:RVs g w t a.tmps.toList)(ho:o.op=.buildSlice ty n ps)(hb:I7 P ty n st nn zero ps.toList parts=true){l:List Aa} (hf:CQ (Ae E t) zero parts=some l) (hl:l.length=nn*st) :
  n=nn/\∃(e:TypeId) (cs':Array Value),RVs g w l cs'.toList/\cs'.size=n*st/\(execOp a.eval o).run P w=.ok (.value (.slice (some ⟨w.heap.size,0,none⟩) n n)) { w with heap:=w.heap.push (.cells cs' e (0,0)) }:=by
  unfold I7 at hb;simp only[AE,Br,CO]at hb;obtain⟨⟨rfl,mr⟩,hb⟩:=hb;refine⟨rfl,?_⟩;have cT:(ps.map fun x=>(x.1,a.eval x.2)).toList=ps.toList.map fun x=>(x.1,a.eval x.2):=by simp
  cases hu:P.underlying ty with
  |none=>simp[hu]at hb
  |some d =>
   simp only[hu]at hb;cases d<;>(try (cases hb;done))
   case slice e =>
    simp only[AE,Br]at hb;obtain⟨⟨hs,hz⟩,hp⟩:=hb;cases du:Ek P e with
    |none=>simp[du]at hz
    |some z0 =>
     simp only[du,AE,CO]at hz;obtain⟨hz,jc⟩:=hz
     have cu:∃zc:Array Value,(if n*st=0 then pure #[] else do pure (<-zeroValue e).cells:Sem (Array Value)).run P w=.ok zc w/\RVs g w zero ((Array.range (n*st)).map (zc[·%zc.size]!)).toList:=by
      unfold Ek at du;cases hi:P.info? e with
      |none=>simp[hi]at du
      |some i =>
       obtain⟨⟩:=i;rename_i zz _ _;cases zz with
       |none=>simp[hi]at du
       |some z =>
        simp only[hi,AZ]at du;subst du;by_cases e0:n*st=0
        ·refine⟨#[],?_,?_⟩;·rw[Aq e0];simp
         ·rw[e0]at hz ⊢;simpa [I6] using N0 (g:=g) (w:=w) hz
        ·refine⟨z.cells,?_,?_⟩;·rw[Ak e0];simp[zeroValue,typeInfo,hi]
         ·have:=N0 (g:=g) (w:=w) hz
          have eq:((Array.range (n*st)).map (z.cells[·%z.cells.size]!)).toList=I6 z.cells.toList (n*st):=by
           simp only[I6,Array.toList_map,Array.toList_range,Array.length_toList];apply Iv;intro i hi;have dQ:0<z.cells.size:=by simpa using jc
           have hlt:i%z.cells.size<z.cells.size:=Gg _ dQ;simp[List.getD,hlt,getElem!_pos]
          rw[eq];exact this
     obtain⟨zc,bH,j9⟩:=cu;obtain⟨cs',lk,fJ⟩:=NC (fun x y bZ=>AP H ht bZ) hp j9 hf;have aF:cs'.size=n*st:=by have:=fJ.1;simp at this;omega
     have aO:(execOp a.eval o).run P w=.ok (.value (.slice (some ⟨w.heap.size,0,none⟩) n n)) { w with heap:=w.heap.push (.cells cs' e (0,0)) }:=by
      have fK:¬(n*st>2 ^ 24):=(by omega);by_cases e0:n*st=0
      ·rw[Aq e0]at bH;simp only[Sem.run_pure,Result.ok.injEq,and_true]at bH;subst bH;simp only[execOp,ho,Sem.run_bind,Instr.buildSlice,run_underlying hu,Result.andThen_ok,I9 hs,Ak fK,Aq e0,cT,Sem.run_pure,lk,newRow,run_newObj]
      ·rw[Ak e0]at bH;simp only[Sem.run_bind]at bH;generalize hq:(zeroValue e).run P w=q at bH;cases q with
       |halt x y=>simp at bH
       |ok zv w1 =>simp only[Result.andThen_ok,Sem.run_pure,Result.ok.injEq]at bH;obtain⟨rfl,rfl⟩:=bH;simp only[execOp,ho,Sem.run_bind,Instr.buildSlice,run_underlying hu,Result.andThen_ok,I9 hs,Ak fK,Ak e0,cT,Sem.run_pure,hq,lk,newRow,run_newObj]
     exact⟨e,cs',fJ,aF,aO⟩
theorem qzum{o:Oper}{ty:TypeId}{n st nn s:Nat}{ps:Array (Nat×Operand)}{zero:List Aa}{parts:List (Nat×Nat×Ac)}(H:HR E g h w)(ht:RVs g w t a.tmps.toList)(ho:o.op=.buildSlice ty n ps)(hb:I7 P ty n st nn zero ps.toList parts=true)(aB:((Al.bslice s st nn zero parts).req (Ae E t) h).ok):Ran E P (execOp a.eval o) g h w ((Al.bslice s st nn zero parts).req (Ae E t) h):=by
 simp only[Al.req]at aB ⊢;cases hf:CQ (Ae E t) zero parts with
 |none=>simp only[hf,Req.fail]at aB
 |some l =>
  simp only[hf]at aB ⊢;obtain⟨_,hl,aH,h1⟩:=aB;obtain⟨rfl,e,cs',fJ,aF,aO⟩:=Vt H ht ho hb hf hl;refine Ran.new (ob:=.cells cs' e (0,0)) (bo:=0) (st:=st) (cp:=n) H ⟨w,rfl,rfl,rfl,rfl,AD _,aO⟩ rfl ?_;intro g' w' aD aM cC bI bU aN;refine⟨⟨bI,aH,by omega,cs',e,by rw[aM];exact aN,by rw[cC,bU,aF];omega,fun k hk=>?_⟩,fun he=>?_⟩
  ·have aT:=Q8 n l k hl hk;have jd:k*st+st<=n*st:=by have:(k+1)*st<=n*st:=BD _ (by omega);rw[Ga]at this;exact this
   show((EA st n l).getD k []).length=st/\∀(j:Nat) (x:Aa) (v:Value),((EA st n l).getD k [])[j]?=some x->cs'[g'.bo s+k*st+j]?=some v->v.oneCell'=true/\RV g' w' x v;rw[aT];refine⟨by simp;omega,fun j x v hx hv=>?_⟩;rw[Is]at hx;split at hx
   ·rw[Im]at hx;rw[cC,Dj]at hv;have co:cs'.toList[k*st+j]?=some v:=by simpa using hv
    exact⟨Hh fJ h1 v (BH co),(fJ.2 _ x v hx co).mono aD⟩
   ·cases hx
  ·refine .vec _ _ _ _ _ rfl (by rw[he];exact AD _) (fun _=>ND aM cC bU (AD _))
end
section
variable {E:Nat->Aa}{P:Program}{g:Gh}{h:Ax}{w:World}{t:List Aa}{a:Act}
theorem Gk{ft:TypeId}{agg:Bool}{sz:Nat}(hq:yzl P ft=some agg)(hs:agg=true->szOf P ft=some sz)(h1:agg=false->sz=1)(w:World)(cs:Array Value)(off:Nat)(hb:off+sz<=cs.size) : (part ft cs off).run P w=.ok (if agg then .agg ((cs.toList.drop off).take sz).toArray else((cs.toList.drop off).take sz).getD 0 undef) w:=by
 simp only[part,Sem.run_bind,Vh hq,Result.andThen_ok];cases agg with
 |true =>
  have e:cs.extract off (off+sz)=((cs.toList.drop off).take sz).toArray:=by apply Array.ext';simp[Array.toList_extract,List.extract]
  simp[I9 (hs rfl),e]
 |false =>
  obtain rfl:=h1 rfl;have:off<cs.size:=by omega
  simp[this,List.getD]
theorem qzuz{o:Oper}{ty ft:TypeId}{f off sz:Nat}{agg:Bool}{x:Operand}{x':Ac}(H:HR E g h w)(ht:RVs g w t a.tmps.toList)(ho:o.op=.field ty x f)(hx:A8 x x'=true)(hf:F8 P ty f=some (off,ft)) (hq:yzl P ft=some agg) (hs:agg=true->szOf P ft=some sz)(aB:((Al.field agg off sz x').req (Ae E t) h).ok):Ran E P (execOp a.eval o) g h w ((Al.field agg off sz x').req (Ae E t) h):=by
 have rx:=AP H ht hx;simp only[Al.req]at aB ⊢;generalize Ae E t x'=X at *;cases X<;>simp only[Req.fail]at aB;rename_i l;obtain⟨hb,h1⟩:off+sz<=l.length/\(agg=false->sz=1):=aB;generalize hv:a.eval x=v at rx;cases rx with
 |agg _ arr hn hr =>
  have bt:RVs g w l arr.toList:=⟨by simpa using hn,fun i x v hx hv=>hr i x v hx (by simpa using hv)⟩;unfold F8 at hf;split at hf
  ·rename_i fs hu;cases jA:fs[f]? with
   |none=>simp[jA]at hf
   |some fld =>simp only[jA,Ej,AZ,De]at hf;obtain⟨rfl,rfl⟩:=hf;refine Ran.same H (v:=if agg then .agg ((arr.toList.drop fld.offset).take sz).toArray else((arr.toList.drop fld.offset).take sz).getD 0 undef) ?_ (NA bt h1 hb);simp only[execOp,ho,hv,Sem.run_bind,Instr.field,run_underlying hu,Result.andThen_ok,jA,asAgg,Sem.run_pure,Gk hq hs h1 w arr fld.offset (by omega)]
  ·cases hf
theorem jzdb{o:Oper}{ty e:TypeId}{agg:Bool}{n sz:Nat}{x i:Operand}{x' i':Ac}(H:HR E g h w)(ht:RVs g w t a.tmps.toList)(ho:o.op=.index ty x i)(hx:A8 x x'=true)(hi:A8 i i'=true)(hu:P.underlying ty=some (.array n e)) (hq:yzl P e=some agg) (hs:szOf P e=some sz)(aB:((Al.aidx agg n sz x' i').req (Ae E t) h).ok):Ran E P (execOp a.eval o) g h w ((Al.aidx agg n sz x' i').req (Ae E t) h):=by
 have rx:=AP H ht hx;have ri:=AP H ht hi;simp only[Al.req]at aB ⊢;generalize Ae E t x'=X at *;generalize Ae E t i'=I at *;cases X<;>(try simp only[Req.fail]at aB);rename_i l;cases I<;>simp only[Req.fail]at aB;rename_i k j;obtain⟨h0,h1,hb,h2⟩:0<=j/\j<n/\j.toNat*sz+sz<=l.length/\(agg=false->sz=1):=aB;generalize hv:a.eval x=v at rx;generalize hj:a.eval i=u at ri;obtain rfl:=DK ri;cases rx with
 |agg _ arr hn hr =>have bt:RVs g w l arr.toList:=⟨by simpa using hn,fun i x v hx hv=>hr i x v hx (by simpa using hv)⟩;refine Ran.same H (v:=if agg then .agg ((arr.toList.drop (j.toNat*sz)).take sz).toArray else((arr.toList.drop (j.toNat*sz)).take sz).getD 0 undef) ?_ (NA bt h2 hb);simp only[execOp,ho,hv,hj,Sem.run_bind,Instr.index,asIntOf,run_underlying hu,Result.andThen_ok,Sem.run_pure,Aq (And.intro h0 h1),I9 hs,Gk hq (fun _=>hs) h2 w arr (j.toNat*sz) (by omega)]
def DQ:Aa->Aa->Option Bool
 |.int k a,.int k' b=>if k=k' then some (decide (a=b)) else none
 |.bool a,.bool b=>some (a==b)
 |.str a,.str b=>some (decide (a=b))
 |_,_=>none
theorem IB(x y:Aa)(l m:List Aa):BL (x :: l) (y :: m)=(match DQ x y,BL l m with | some c,some e=>some (c&&e) | _,_=>none):=by cases x<;>cases y<;>simp only[BL,DQ]<;>(try (cases BL l m<;>rfl));rename_i k a k' b;cases BL l m<;>by_cases e:k=k'<;>simp[e]
theorem Hj:∀{l m:List Aa} {e:Bool},BL l m=some e->l.length=m.length
 |[],[],_,_=>rfl
 |x :: l,y :: m,e,h=>by
  rw[IB]at h;cases hc:DQ x y with
  |none=>simp[hc]at h
  |some c =>
   cases he:BL l m with
   |none=>simp[hc,he]at h
   |some e'=>simp[Hj he]
 |[],_ :: _,_,h=>by simp[BL]at h
 |_ :: _,[],_,h=>by simp[BL]at h
theorem Q9:∀{l m:List Aa} {e:Bool} (k:Nat),k<=l.length->BL l m=some e->∃e1 e2,BL (l.take k) (m.take k)=some e1/\BL (l.drop k) (m.drop k)=some e2/\e=(e1&&e2)
 |l,m,e,0,_,h=>⟨true,e,by simp[BL],by simpa using h,by simp⟩
 |[],m,e,k+1,hk,h=>by simp at hk
 |x :: l,[],e,k+1,hk,h=>by simp[BL]at h
 |x :: l,y :: m,e,k+1,hk,h=>by
  rw[IB]at h;cases hc:DQ x y with
  |none=>simp[hc]at h
  |some c =>
   cases he:BL l m with
   |none=>simp[hc,he]at h
   |some e' =>simp only[hc,he,AZ]at h;subst h;obtain⟨e1,e2,h1,h2,rfl⟩:=Q9 k (by simpa using hk) he;exact⟨c&&e1,e2,by simp[IB,hc,h1],by simpa using h2,by simp[Bool.and_assoc]⟩
theorem Vu{x y:Aa}{u v:Value}{c:Bool}(hc:DQ x y=some c)(hx:RV g w x u)(hy:RV g w y v) : (∃k a b,u=.int k a/\v=.int k b/\c=decide (a=b))\/(∃a b,u=.bool a/\v=.bool b/\c=(a==b))\/(∃a b:ByteArray,u=.string a/\v=.string b/\c=(a==b)):=by
 cases x<;>cases y<;>simp only[DQ]at hc<;>(try (cases hc;done))
 ·split at hc;·rename_i e;subst e;obtain rfl:=BI hc;exact .inl ⟨_,_,_,DK hx,DK hy,rfl⟩
  ·cases hc
 ·obtain rfl:=BI hc;exact .inr (.inl ⟨_,_,DO hx,DO hy,rfl⟩)
 ·obtain rfl:=BI hc;obtain⟨b1,rfl,e1⟩:=F9 hx;obtain⟨b2,rfl,e2⟩:=F9 hy;refine .inr (.inr ⟨b1,b2,rfl,rfl,?_⟩);rw[<-e1,<-e2,beq_toListBytes,bytes_beq]
theorem Vv{t:TypeId}{fs:Array Field}(hu:P.underlying t=some (.struct fs)):P.fieldsOf t=fs:=by simp[Program.fieldsOf,hu]
def Dz(agg:Bool)(cs:List Value):Value:=if agg then .agg cs.toArray else cs.getD 0 undef
theorem jzar{t:TypeId}{n:Nat}(h:szOf P t=some n):∃i,P.info? t=some i/\P.cellsOf t=n:=by
 unfold szOf at h;cases hi:P.info? t with
 |none=>simp[hi]at h
 |some i=>simp[hi]at h;exact⟨i,rfl,by simp[Program.cellsOf,hi,h]⟩
theorem Vw:∀(d:Nat) (t:TypeId) (sh:List Nat),eqFields P d t=some sh->∃agg,yzl P t=some agg/\(agg=false->sh.length=1) /\ ∀(D:Nat),d<=D->∀(l m:List Aa) (xs ys:List Value) (e:Bool) (w':World),l.map Aa.kind=sh->RVs g w l xs->RVs g w m ys->BL l m=some e -> (Op.equalIn D t (Dz agg xs) (Dz agg ys)).run P w'=.ok e w':=by
 intro d;induction d with
 |zero=>intro t sh h;simp[eqFields]at h
 |succ d ih =>
  intro t sh h
  have one:∀(k:Nat) (l m:List Aa) (xs ys:List Value) (e:Bool),l.map Aa.kind=[k]->RVs g w l xs->RVs g w m ys->BL l m=some e -> ∃x y u v,Dz false xs=u/\Dz false ys=v/\DQ x y=some e/\RV g w x u/\RV g w y v/\x.kind=k:=by
   intro k l m xs ys e hl hx hy he;have jB:=Hj he;have da:l.length=1:=by have:=E9 List.length hl;simpa using this
   have f8:=hx.1;have gY:=hy.1;obtain⟨x,rfl⟩:=List.length_eq_one_iff.1 da;obtain⟨y,rfl⟩:=List.length_eq_one_iff.1 (jB.symm.trans da);obtain⟨u,rfl⟩:=List.length_eq_one_iff.1 f8;obtain⟨v,rfl⟩:=List.length_eq_one_iff.1 gY;refine⟨x,y,u,v,rfl,rfl,?_,hx.2 0 x u rfl rfl,hy.2 0 y v rfl rfl,by simpa using hl⟩;rw[IB]at he;cases hc:DQ x y with
   |none=>simp[hc]at he
   |some c=>simpa [hc,BL] using he
  have kinds:∀{x y:Aa} {u v:Value} {c:Bool} {k:Nat},DQ x y=some c->RV g w x u->RV g w y v->x.kind=k -> (k=1->∃q a b,u=.int q a/\v=.int q b/\c=decide (a=b))/\(k=0->∃a b,u=.bool a/\v=.bool b/\c=(a==b))/\(k=2->∃a b:ByteArray,u=.string a/\v=.string b/\c=(a==b)):=by
   intro x y u v c k hc rx ry hk;subst hk;rcases Vu hc rx ry with ⟨q,a,b,rfl,rfl,rfl⟩|⟨a,b,rfl,rfl,rfl⟩|⟨a,b,rfl,rfl,rfl⟩
   ·refine⟨fun _=>⟨q,a,b,rfl,rfl,rfl⟩,fun h=>?_,fun h=>?_⟩<;>(cases x<;>simp[Aa.kind]at h<;>cases rx)
   ·refine⟨fun h=>?_,fun _=>⟨a,b,rfl,rfl,rfl⟩,fun h=>?_⟩<;>(cases x<;>simp[Aa.kind]at h<;>cases rx)
   ·refine⟨fun h=>?_,fun h=>?_,fun _=>⟨a,b,rfl,rfl,rfl⟩⟩<;>(cases x<;>simp[Aa.kind]at h<;>cases rx)
  simp only[eqFields]at h;cases hu:P.underlying t with
  |none=>simp[hu]at h
  |some q =>
   simp only[hu]at h;cases q<;>simp only at h<;>(try (cases h;done))
   case bool =>obtain rfl:=BI h;refine⟨false,by simp[yzl,hu],fun _=>rfl,fun D hD l m xs ys e w' hl hx hy he=>?_⟩;obtain⟨D,rfl⟩:∃D',D=D'+1:=⟨D-1,by omega⟩;obtain⟨x,y,u,v,e1,e2,hc,rx,ry,hk⟩:=one 0 l m xs ys e hl hx hy he;obtain⟨a,b,rfl,rfl,rfl⟩:=(kinds hc rx ry hk).2.1 rfl;rw[e1,e2];exact run_equalIn_bool' w' D t a b hu
   case int k =>obtain rfl:=BI h;refine⟨false,by simp[yzl,hu],fun _=>rfl,fun D hD l m xs ys e w' hl hx hy he=>?_⟩;obtain⟨D,rfl⟩:∃D',D=D'+1:=⟨D-1,by omega⟩;obtain⟨x,y,u,v,e1,e2,hc,rx,ry,hk⟩:=one 1 l m xs ys e hl hx hy he;obtain⟨q,a,b,rfl,rfl,rfl⟩:=(kinds hc rx ry hk).1 rfl;rw[e1,e2,run_equalIn_int w' D t q k a b hu];rfl
   case string =>obtain rfl:=BI h;refine⟨false,by simp[yzl,hu],fun _=>rfl,fun D hD l m xs ys e w' hl hx hy he=>?_⟩;obtain⟨D,rfl⟩:∃D',D=D'+1:=⟨D-1,by omega⟩;obtain⟨x,y,u,v,e1,e2,hc,rx,ry,hk⟩:=one 2 l m xs ys e hl hx hy he;obtain⟨a,b,rfl,rfl,rfl⟩:=(kinds hc rx ry hk).2.2 rfl;rw[e1,e2,run_equalIn_string w' D t a b hu,beq_toListBytes]
   case struct fs =>
    split at h
    ·cases h
    ·rename_i aH;refine⟨true,by simp[yzl,hu],(fun e=>by cases e),fun D hD l m xs ys e w' hl hx hy he=>?_⟩;obtain⟨D,rfl⟩:∃D',D=D'+1:=⟨D-1,by omega⟩;have ht:P.underlying t=some (.struct (P.fieldsOf t)):=by rw[Vv hu];exact hu
     show(Op.equalIn (D+1) t (.agg xs.toArray) (.agg ys.toArray)).run P w'=_;rw[run_equalIn_struct w' D t _ _ ht (by simpa using aH),Vv hu]
     have go:∀(fl:List Field) (n:Nat) (sh:List Nat) (l m:List Aa) (e:Bool),Dy P (eqFields P d) fl n=some sh->l.map Aa.kind=sh->RVs g w l (xs.drop n)->RVs g w m (ys.drop n)->BL l m=some e -> (Op.eqFields D xs.toArray ys.toArray fl).run P w'=.ok e w':=by
      intro fl;induction fl with
      |nil =>
       intro n sh l m e h1 h2 h3 h4 h5;simp only[Dy,AZ]at h1;subst h1;have:l=[]:=by simpa using h2
       subst this;have:m=[]:=by have:=Hj h5;simpa using this.symm
       subst this;simp only[BL,AZ]at h5;subst h5;simp[Op.eqFields]
      |cons f fl ihf =>
       intro n sh l m e h1 h2 h3 h4 h5;simp only[Dy]at h1;split at h1
       ·rename_i aX;obtain⟨dv,fK⟩:=aX;cases hm:eqFields P d f.type with
        |none=>simp[hm]at h1
        |some sm =>
         simp only[hm]at h1;split at h1
         ·rename_i dw;obtain⟨aJ,ce⟩:=dw;cases hg:Dy P (eqFields P d) fl (n+sm.length) with
          |none=>simp[hg]at h1
          |some sl =>
           simp only[hg,AZ]at h1;subst h1;have da:l.length=sm.length+sl.length:=by have:=E9 List.length h2;simpa using this
           obtain⟨c1,c2,q1,q2,rfl⟩:=Q9 sm.length (by omega) h5;obtain⟨agg,bp,h1',aO⟩:=ih f.type sm hm;have jB:=Hj h5;have f8:=h3.1;have gY:=h4.1;simp only[Nv]at f8 gY;have px:=Gk (P:=P) bp (fun _=>aJ) h1' w' xs.toArray n (by simp;omega);have py:=Gk (P:=P) bp (fun _=>aJ) h1' w' ys.toArray n (by simp;omega);have jC:RVs g w (l.take sm.length) ((xs.drop n).take sm.length):=h3.take _;have gZ:RVs g w (m.take sm.length) ((ys.drop n).take sm.length):=h4.take _;have k1:(l.take sm.length).map Aa.kind=sm:=by rw[List.map_take,h2];simp
           have k2:(l.drop sm.length).map Aa.kind=sl:=(by rw[List.map_drop,h2];simp);have dx:=aO D (by omega) _ _ _ _ c1 w' k1 jC gZ q1;have jD:RVs g w (l.drop sm.length) (xs.drop (n+sm.length)):=(by have:=h3.drop sm.length;rwa [Qn]at this);have jE:RVs g w (m.drop sm.length) (ys.drop (n+sm.length)):=(by have:=h4.drop sm.length;rwa [Qn]at this);have dC:=ihf (n+sm.length) sl _ _ c2 hg k2 jD jE q2;simp only[Dz]at dx;simp only[Op.eqFields,Aq fK,Sem.run_bind,dv,px,py,Result.andThen_ok,dx];cases c1 with
           |true=>simpa using dC
           |false=>simp
         ·cases h1
       ·cases h1
     exact go fs.toList 0 sh l m e h hl (by simpa using hx) (by simpa using hy) he
   case array n el =>
    cases hm:eqFields P d el with
    |none=>simp[hm]at h
    |some sm =>
     simp only[hm]at h;split at h
     ·rename_i dw;obtain⟨aJ,ce⟩:=dw;obtain rfl:=BI h;obtain⟨agg,bp,h1',aO⟩:=ih el sm hm;refine⟨true,by simp[yzl,hu],(fun e=>by cases e),fun D hD l m xs ys e w' hl hx hy he=>?_⟩;obtain⟨D,rfl⟩:∃D',D=D'+1:=⟨D-1,by omega⟩;obtain⟨ti,jF,mt⟩:=jzar aJ;show(Op.equalIn (D+1) t (.agg xs.toArray) (.agg ys.toArray)).run P w'=_;rw[run_equalIn_array w' D _ _ hu jF,mt]
      have go:∀(n k:Nat) (l m:List Aa) (e:Bool),l.map Aa.kind=(List.replicate n sm).flatten->RVs g w l (xs.drop (k*sm.length))->RVs g w m (ys.drop (k*sm.length))->BL l m=some e -> (Op.eqItems D el sm.length xs.toArray ys.toArray (List.range' k n)).run P w'=.ok e w':=by
       intro n;induction n with
       |zero =>
        intro k l m e h2 h3 h4 h5;have:l=[]:=by simpa using h2
        subst this;have:m=[]:=by have:=Hj h5;simpa using this.symm
        subst this;simp only[BL,AZ]at h5;subst h5;simp[Op.eqItems]
       |succ n ihn =>
        intro k l m e h2 h3 h4 h5;rw[List.replicate_succ,List.flatten_cons]at h2;have da:sm.length<=l.length:=by have:=E9 List.length h2;simp only[Fy,Dx]at this;omega
        obtain⟨c1,c2,q1,q2,rfl⟩:=Q9 sm.length da h5;have jB:=Hj h5;have f8:=h3.1;have gY:=h4.1;simp only[Nv]at f8 gY;have px:=Gk (P:=P) bp (fun _=>aJ) h1' w' xs.toArray (k*sm.length) (by simp;omega);have py:=Gk (P:=P) bp (fun _=>aJ) h1' w' ys.toArray (k*sm.length) (by simp;omega);have jC:RVs g w (l.take sm.length) ((xs.drop (k*sm.length)).take sm.length):=h3.take _;have gZ:RVs g w (m.take sm.length) ((ys.drop (k*sm.length)).take sm.length):=h4.take _;have k1:(l.take sm.length).map Aa.kind=sm:=by rw[List.map_take,h2];simp
        have k2:(l.drop sm.length).map Aa.kind=(List.replicate n sm).flatten:=(by rw[List.map_drop,h2];simp);have dx:=aO D (by omega) _ _ _ _ c1 w' k1 jC gZ q1;have e2:k*sm.length+sm.length=(k+1)*sm.length:=(by rw[Bb,Nat.one_mul]);have jD:RVs g w (l.drop sm.length) (xs.drop ((k+1)*sm.length)):=(by have:=h3.drop sm.length;rwa [Qn,e2]at this);have jE:RVs g w (m.drop sm.length) (ys.drop ((k+1)*sm.length)):=(by have:=h4.drop sm.length;rwa [Qn,e2]at this);have dC:=ihn (k+1) _ _ c2 k2 jD jE q2;simp only[Dz]at dx;simp only[List.range'_succ,Op.eqItems,Sem.run_bind,px,py,Result.andThen_ok,dx];cases c1 with
        |true=>simpa using dC
        |false=>simp
      rw[List.range_eq_range'];exact go n 0 l m e hl (by simpa using hx) (by simpa using hy) he
     ·cases h
theorem Vx:∀{l m:List Aa} {xs ys:List Value},RVs g w l xs->RVs g w m ys->BL l m=some true->xs=ys
 |[],m,xs,ys,hx,hy,h=>by have:=Hj h;have h1:=hx.1;have h2:=hy.1;have e1:xs=[]:=UH (by simpa using h1);have e2:ys=[]:=UH (by simp at this;omega);rw[e1,e2]
 |x :: l,[],xs,ys,hx,hy,h=>by simp[BL]at h
 |x :: l,y :: m,xs,ys,hx,hy,h=>by
  cases xs with
  |nil=>have:=hx.1;simp at this
  |cons u xs =>
   cases ys with
   |nil=>have:=hy.1;simp at this
   |cons v ys =>
    rw[IB]at h;cases hc:DQ x y with
    |none=>simp[hc]at h
    |some c =>
     cases he:BL l m with
     |none=>simp[hc,he]at h
     |some e' =>
      simp only[hc,he,AZ,AE]at h;obtain⟨rfl,rfl⟩:=h;have e1:xs=ys:=Vx (l:=l) (m:=m) (by have:=hx.drop 1;simpa using this) (by have:=hy.drop 1;simpa using this) he
      have e2:u=v:=by
       rcases Vu hc (hx.2 0 x u rfl rfl) (hy.2 0 y v rfl rfl) with ⟨k,a,b,rfl,rfl,e⟩|⟨a,b,rfl,rfl,e⟩|⟨a,b,rfl,rfl,e⟩
       ·simp at e;rw[e]
       ·simp at e;rw[e]
       ·rw[beq_toListBytes,bytes_beq]at e;have e:a.data.toList=b.data.toList:=(by simpa using e);have:a=b:=(by obtain⟨⟨a⟩⟩:=a;obtain⟨⟨b⟩⟩:=b;simp at e;rw[e]);rw[this]
      rw[e1,e2]
theorem wz7n:∀(d:Nat) (t:TypeId) (sh:List Nat),eqFields P d t=some sh->∃agg,yzl P t=some agg/\(agg=false->sh.length=1) /\
  ∀(D:Nat),d<=D->∀(xs:List Value) (em:Bool) (w':World),xs.length=sh.length->(Instr.checkKey em D t (Dz agg xs)).run P w'=.ok () w':=by
 intro d
 induction d with
 |zero=>intro t sh h;simp[eqFields]at h
 |succ d ih =>
  intro t sh h
  simp only[eqFields]at h
  cases hu:P.underlying t with
  |none=>simp[hu]at h
  |some q =>
   simp only[hu]at h
   cases q<;>simp only at h<;>(try (cases h;done))
   case struct fs =>
    split at h
    ·cases h
    ·rename_i aH
     refine⟨true,by simp[yzl,hu],(fun e=>by cases e),fun D hD xs em w' hl=>?_⟩
     obtain⟨D,rfl⟩:∃D',D=D'+1:=⟨D-1,by omega⟩
     show(Instr.checkKey em (D+1) t (.agg xs.toArray)).run P w'=_
     unfold Instr.checkKey
     simp only[Sem.run_bind,run_underlying hu,Result.andThen_ok]
     rw[<-Array.forIn_toList]
     have go:∀(fl:List Field) (n:Nat) (sh:List Nat),Dy P (eqFields P d) fl n=some sh->n+sh.length<=xs.length ->
       (forIn fl PUnit.unit (fun(f:Field) (r:PUnit)=>(do
        if f.name ≠ "_" then do
         Instr.checkKey em D f.type (<-part f.type xs.toArray f.offset)
         pure (ForInStep.yield PUnit.unit)
        else pure (ForInStep.yield PUnit.unit):Sem (ForInStep PUnit)))).run P w'=.ok PUnit.unit w':=by
      intro fl
      induction fl with
      |nil=>intro n sh h1 h2;simp
      |cons f fl ihf =>
       intro n sh h1 h2
       simp only[Dy]at h1
       split at h1
       ·rename_i aX
        obtain⟨dv,fK⟩:=aX
        cases hm:eqFields P d f.type with
        |none=>simp[hm]at h1
        |some sm =>
         simp only[hm]at h1
         split at h1
         ·rename_i dw
          obtain⟨aJ,ce⟩:=dw
          cases hg:Dy P (eqFields P d) fl (n+sm.length) with
          |none=>simp[hg]at h1
          |some sl =>
           simp only[hg,AZ]at h1
           subst h1
           simp only[Dx]at h2
           obtain⟨agg,bp,h1',aO⟩:=ih f.type sm hm
           have px:=Gk (P:=P) bp (fun _=>aJ) h1' w' xs.toArray n (by simp;omega)
           have dx:=aO D (by omega) ((xs.drop n).take sm.length) em w' (by simp;omega)
           have dC:=ihf (n+sm.length) sl hg (by omega)
           simp only[Dz]at dx
           simp only[List.forIn_cons,Sem.run_bind,Aq fK,dv,px,Result.andThen_ok,dx,Sem.run_pure]
           exact dC
         ·cases h1
       ·cases h1
     rw[go fs.toList 0 sh h (by omega)];simp
   case array n el =>
    cases hm:eqFields P d el with
    |none=>simp[hm]at h
    |some sm =>
     simp only[hm]at h
     split at h
     ·rename_i dw
      obtain⟨aJ,ce⟩:=dw
      obtain rfl:=BI h
      obtain⟨agg,bp,h1',aO⟩:=ih el sm hm
      refine⟨true,by simp[yzl,hu],(fun e=>by cases e),fun D hD xs em w' hl=>?_⟩
      obtain⟨D,rfl⟩:∃D',D=D'+1:=⟨D-1,by omega⟩
      show(Instr.checkKey em (D+1) t (.agg xs.toArray)).run P w'=_
      unfold Instr.checkKey
      simp only[Sem.run_bind,run_underlying hu,Result.andThen_ok]
      simp only[Std.Legacy.Range.forIn_eq_forIn_range',Std.Legacy.Range.size,Nat.sub_zero,Nat.add_one_sub_one,Nat.div_one]
      have go:∀(n k:Nat),(k+n)*sm.length<=xs.length ->
        (forIn (List.range' k n) PUnit.unit (fun(i:Nat) (r:PUnit)=>(do
         Instr.checkKey em D el (<-part el xs.toArray (i*(<-sizeOf el)))
         pure (ForInStep.yield PUnit.unit):Sem (ForInStep PUnit)))).run P w'=.ok PUnit.unit w':=by
       intro n
       induction n with
       |zero=>intro k h2;simp
       |succ n ihn =>
        intro k h2
        have e2:k*sm.length+sm.length<=xs.length:=by
         refine Bg ?_ h2
         rw[<-Ga]
         exact BD _ (by omega)
        have px:=Gk (P:=P) bp (fun _=>aJ) h1' w' xs.toArray (k*sm.length) (by simp;omega)
        have dx:=aO D (by omega) ((xs.drop (k*sm.length)).take sm.length) em w' (by simp;omega)
        have dC:=ihn (k+1) (by rwa [show k+1+n=k+(n+1) by omega])
        simp only[Dz]at dx
        simp only[List.range'_succ,List.forIn_cons,Sem.run_bind,I9 aJ,px,Result.andThen_ok,dx,Sem.run_pure]
        exact dC
      have aF:(0+n)*sm.length<=xs.length:=by
       rw[hl,Dj];simp
      rw[go n 0 aF];simp
     ·cases h
   all_goals
    obtain rfl:=BI h
    refine⟨false,by simp[yzl,hu],fun _=>rfl,fun D hD xs em w' hl=>?_⟩
    obtain⟨D,rfl⟩:∃D',D=D'+1:=⟨D-1,by omega⟩
    generalize Dz false xs=v
    unfold Instr.checkKey
    simp only[Sem.run_bind,run_underlying hu,Result.andThen]
    cases v<;>rfl
theorem Vy{o:Oper}{ty yt:TypeId}{ng:Bool}{sh:List Nat}{fs:Array Field}{x y:Operand}{x' y':Ac}(H:HR E g h w)(ht:RVs g w t a.tmps.toList)(ho:o.op=.binOp (if ng then .neq else .eql) ty x y yt)(hx:A8 x x'=true)(hy:A8 y y'=true)(hg:P.eqGuardType P.depth ty=false) (hs:eqFields P 9 ty=some sh) (hu:P.underlying ty=some (.struct fs))(aB:((Al.eqagg sh ng x' y').req (Ae E t) h).ok):Ran E P (execOp a.eval o) g h w ((Al.eqagg sh ng x' y').req (Ae E t) h):=by
 have rx:=AP H ht hx;have ry:=AP H ht hy;simp only[Al.req]at aB ⊢;generalize Ae E t x'=X at *;generalize Ae E t y'=Y at *;generalize dD:a.eval x=u at rx;generalize ll:a.eval y=v at ry;cases X<;>(try simp only[Req.fail]at aB)
 case agg l =>
  cases Y<;>(try simp only[Req.fail]at aB);rename_i m;cases he:BL l m with
  |none=>simp only[he]at aB
  |some e =>
   simp only[he]at aB ⊢;have aB:l.map Aa.kind=sh:=aB;cases rx with
   |agg _ xs dI h9 =>
    cases ry with
    |agg _ ys jG jH =>
     have dR:RVs g w l xs.toList:=⟨by simpa using dI,fun i x v hx hv=>h9 i x v hx (by simpa using hv)⟩;have je:RVs g w m ys.toList:=⟨by simpa using jG,fun i x v hx hv=>jH i x v hx (by simpa using hv)⟩;obtain⟨agg,bp,_,aO⟩:=Vw (P:=P) (g:=g) (w:=w) 9 ty sh hs;obtain rfl:agg=true:=(by simp only[yzl,hu,Ej,AZ]at bp;exact bp.symm);have hq:=aO 10000 (by omega) l m _ _ e w aB dR je he;simp only[Dz,BK,JU]at hq;cases ng with
     |false =>refine Ran.same H (v:=.bool e) ?_ (.bool _);simp only[Iq,Df]at ho;simp only[execOp,ho,dD,ll,Sem.run_bind,run_eqGuard_agg w .eql ty x y xs ys hg,Result.andThen_ok,run_eql_struct,hq,Sem.run_pure]
     |true =>refine Ran.same H (v:=.bool (!e)) ?_ (.bool _);simp only[BK]at ho;simp only[execOp,ho,dD,ll,Sem.run_bind,run_eqGuard_agg w .neq ty x y xs ys hg,Result.andThen_ok,run_neq_struct,hq,Sem.run_pure]
end
section
variable {E:Nat->Aa}{P:Program}{g:Gh}{h:Ax}{w:World}{t:List Aa}{a:Act}
def Ch(st m:Nat)(vals:Nat->Nat->Value):List Value:=(List.range (m*st)).map fun q=>vals (q / st) (q%st)
theorem FC(st m:Nat)(vals:Nat->Nat->Value):(Ch st m vals).length=m*st:=by simp[Ch]
theorem IC{st m:Nat}{vals:Nat->Nat->Value}{k j:Nat}(hk:k<m)(hj:j<st):(Ch st m vals)[k*st+j]?=some (vals k j):=by
 have hb:k*st+j<m*st:=by have:(k+1)*st<=m*st:=BD _ hk;rw[Ga]at this;omega
 have h0:0<st:=by omega
 rw[Ch,Gf,UI hb];simp only[Ej];rw[Bj k st,Qq h0,Ka hj,Qz,DM hj,JX]
theorem ID{st m:Nat}{vals:Nat->Nat->Value}{q:Nat}{v:Value}(hq:(Ch st m vals)[q]?=some v):∃k j,k<m/\j<st/\q=k*st+j/\v=vals k j:=by
 have hlt:q<m*st:=by have:=(AU.1 hq).1;simpa [Ch] using this
 have h0:0<st:=by
  rcases F0 st with e|e
  ·rw[e]at hlt;simp at hlt
  ·exact e
 have hk:q / st<m:=by rw[In h0];exact hlt
 have hj:q%st<st:=Gg _ h0;refine⟨q / st,q%st,hk,hj,by rw[Bj];exact(Ix q st).symm,?_⟩;rw[Ch,Gf,UI hlt]at hq;simpa using hq.symm
structure NE(g:Gh)(w:World)(st m:Nat)(f:Nat->List Aa)(v:Value)(vals:Nat->Nat->Value):Prop where
 val:∃ad cap,v=.slice ad m cap/\m<=cap/\(m=0\/∃b off,ad=some ⟨b,off,none⟩/\∀k j,k<m->j<st->w.cell? ⟨b,off+(k*st+j),none⟩=some (vals k j))
 len:∀k,k<m->(f k).length=st
 one:∀k j,k<m->j<st->(vals k j).oneCell'=true
 rv:∀(k j:Nat) (x:Aa),k<m->(f k)[j]?=some x->RV g w x (vals k j)
theorem Ki{st:Nat}{Y:Aa}{v:Value}(H:HR E g h w)(hv:RV g w Y v)(aB:(Bq st Y h).ok)(aH:(Bq st Y h).st=st):∃vals,NE g w st (Bq st Y h).n (Bq st Y h).f v vals:=by
 unfold Bq at aB aH ⊢;cases Y<;>simp only at aB aH<;>(try (exact aB.elim))
 case nils =>cases hv;exact⟨fun _ _=>undef,⟨none,0,rfl,AD _,.inl rfl⟩,fun k hk=>absurd hk (Qr _),fun k j hk=>absurd hk (Qr _),fun k j x hk=>absurd hk (Qr _)⟩
 case slc st' n f =>
  subst aH;cases hv with
  |slc0 _ _ ad cap=>exact⟨fun _ _=>undef,⟨ad,cap,rfl,Fv _,.inl rfl⟩,fun k hk=>absurd hk (Qr _),fun k j hk=>absurd hk (Qr _),fun k j x hk=>absurd hk (Qr _)⟩
  |slc _ _ _ b off cap vals hz aQ hl hc h1 hr =>exact⟨vals,⟨_,cap,rfl,aQ,.inr ⟨b,off,rfl,fun k j hk hj=>by rw[<-GX];exact hc k j hk hj⟩⟩,hl,h1,hr⟩
 case vec id ep lo n =>
  have hO:=H.obj id;cases hh:h id<;>simp only[hh]at aB aH hO ⊢<;>(try (exact aB.elim));rename_i ep' st' m f;subst aH;obtain⟨he,aD⟩:=aB;obtain⟨bI,h0,hn,arr,ty,hr,bn,aT⟩:=hO;obtain⟨ad,cap,e1,aQ,hc⟩:=FB H hv (by rw[hh];exact he);have bP:∀k j,k<n->j<st'->g.bo id+(lo+k)*st'+j<arr.size:=fun k j hk hj=>by have:(lo+k+1)*st'<=g.cp id*st':=BD _ (by omega);rw[Ga]at this;omega
  refine⟨fun k j=>arr.getD (g.bo id+(lo+k)*st'+j) undef,⟨some ad,cap,e1,aQ,?_⟩,fun k hk=>(aT (lo+k) (by omega)).1,fun k j hk hj=>?_,fun k j x hk hx=>?_⟩
  ·rcases F0 n with e|e;·exact .inl e
   ·rcases hc with c9|⟨rfl,hc⟩;·omega
    ·refine .inr ⟨_,_,rfl,fun k j hk hj=>?_⟩;have hb:=bP k j hk hj;have e2:g.bo id+lo*g.st id+(k*st'+j)=g.bo id+(lo+k)*st'+j:=(by rw[bI,Bb];omega);simp[World.cell?,hr,e2,hb]
  ·have hb:=bP k j hk hj;have aF:=(aT (lo+k) (by omega)).1;have:=(aT (lo+k) (by omega)).2 j _ (arr.getD (g.bo id+(lo+k)*st'+j) undef) (AG (by omega)) (by simp[hb]);exact this.1
  ·have aF:=(aT (lo+k) (by omega)).1;have hj:j<st':=by have:=(AU.1 hx).1;omega
   have hb:=bP k j hk hj;exact((aT (lo+k) (by omega)).2 j x (arr.getD (g.bo id+(lo+k)*st'+j) undef) hx (by simp[hb])).2
theorem NE.news{st m:Nat}{f:Nat->List Aa}{v:Value}{vals:Nat->Nat->Value}(s:NE g w st m f v vals)(hm:0<m) : ∃b off cap,v=.slice (some ⟨b,off,none⟩) m cap/\∀q u,(Ch st m vals)[q]?=some u->w.cell? ((⟨b,off,none⟩:Addr).add q)=some u:=by
 obtain⟨ad,cap,e1,_,hc⟩:=s.val;rcases hc with h0|⟨b,off,rfl,aI⟩
 ·omega
 ·refine⟨b,off,cap,e1,fun q u hq=>?_⟩;obtain⟨k,j,hk,hj,rfl,rfl⟩:=ID hq;rw[El];exact aI k j hk hj
theorem wzde{st m:Nat}{f:Nat->List Aa}{v:Value}{vals:Nat->Nat->Value}(s:NE g w st m f v vals):∀u∈Ch st m vals,u.oneCell'=true:=by intro u hu;obtain⟨q,hq⟩:=Gb6.1 hu;obtain⟨k,j,hk,hj,rfl,rfl⟩:=ID hq;exact s.one k j hk hj
theorem NF(P:Program)(o:Oper)(ρ:Operand->Value)(x y:Operand)(tx:TypeId)(u v:Value)(r:Value)(w w':World)(ho:o.op=.call { callee:=.builtin .append,args:=#[x,y],argTypes:=#[tx,tx] })(hx:ρ x=u)(hy:ρ y=v)(hr:(Builtin.append_ #[tx,tx] o.type #[u,v]).run P w=.ok r w'):(execOp ρ o).run P w=.ok (.value r) w':=by simp[execOp,ho,resolve,invoke,builtin,hx,hy,hr]
theorem QA{e:TypeId}{i:TypeInfo}{z:Value}(hi:P.info? e=some i)(hz:i.zero=some z){l:List Value}(hl:Ek P e=some l):l=z.cells.toList:=by obtain⟨⟩:=i;simp only at hz;subst hz;simpa [Ek,hi] using hl.symm
theorem NG{e:TypeId}{st bytes:Nat}(hs:szOf P e=some st)(hb:byOf P e=some bytes){zl:List Value}(hz:Ek P e=some zl)(db:zl.length=st) : ∃(i:TypeInfo) (z:Value),P.info? e=some i/\i.zero=some z/\i.size=st/\i.bytes=bytes/\z.cells.size=st:=by
 unfold szOf at hs;unfold byOf at hb;cases hi:P.info? e with
 |none=>simp[hi]at hs
 |some i =>
  simp only[hi,Ej,AZ]at hs hb;cases bE:i.zero with
  |none =>obtain⟨⟩:=i;simp only at bE;subst bE;simp[Ek,hi]at hz
  |some z =>have:=QA hi bE hz;refine⟨i,z,rfl,bE,hs,hb,?_⟩;rw[this]at db;simpa using db
theorem QB(w:World)(need old:Nat)(e:TypeId):need<=grownCap w need old e:=by simp only[grownCap,Question.cut];omega
theorem NH{s ep st n:Nat}{f:Nat->List Aa}{g':Gh}{w':World}{arr:Array Value}{ty:TypeId}{b bo cp:Nat}(h0:0<st)(aM:g'.blk s=b)(cC:g'.bo s=bo)(aH:g'.st s=st)(bU:g'.cp s=cp)(hn:n<=cp)(cu:w'.heap[b]?=some (.cells arr ty (0,0))) (aJ:bo+cp*st<=arr.size) (hl:∀k,k<n->(f k).length=st)(hc:∀k j,k<n->j<st->∃v,arr[bo+k*st+j]?=some v/\v.oneCell'=true/\∀x,(f k)[j]?=some x->RV g' w' x v):OR g' w' s (.vec ep st n f):=by
 refine⟨aH,h0,by omega,arr,ty,by rw[aM];exact cu,by rw[cC,bU];exact aJ,fun k hk=>⟨hl k hk,fun j x v hx hv=>?_⟩⟩;have hj:j<st:=by rw[<-hl k hk];exact(AU.1 hx).1
 obtain⟨u,hu,h1,h2⟩:=hc k j hk hj;rw[cC,hu]at hv;obtain rfl:=BI hv;exact⟨h1,h2 x hx⟩
theorem EB{k n st j:Nat}(hk:k<n)(hj:j<st):k*st+j<n*st:=by have:(k+1)*st<=n*st:=BD _ hk;rw[Ga]at this;omega
theorem qzpa{o:Oper}{x y:Operand}{tx e:TypeId}{s st bytes:Nat}{y':Ac}{zl:List Value}(H:HR E g h w)(ht:RVs g w t a.tmps.toList)(ho:o.op=.call { callee:=.builtin .append,args:=#[x,y],argTypes:=#[tx,tx] })(hy:A8 y y'=true)(hu:P.underlying tx=some (.slice e)) (hs:szOf P e=some st) (hb:byOf P e=some bytes) (hz:Ek P e=some zl) (db:zl.length=st) (dT:0<bytes) (hx:a.eval x=.slice none 0 0)(aB:(Ee s st bytes .nils (Ae E t y') h).ok):Ran E P (execOp a.eval o) g h w (Ee s st bytes .nils (Ae E t y') h):=by
 have ry:=AP H ht hy;generalize Ae E t y'=Y at *;simp only[Ee]at aB ⊢;by_cases hn:(Bq st Y h).n=0
 ·simp only[hn,BK]at aB ⊢;obtain⟨vals,src⟩:=Ki H ry aB.1 aB.2;obtain⟨ad,cap,e1,_,_⟩:=src.val;rw[hn]at e1;obtain⟨i,z,hi,bE,aJ,gA,dQ⟩:=NG hs hb hz db;refine Ran.same H (v:=.slice none 0 0) ?_ .nils;cases ad with
  |none=>simp[execOp,ho,hx,e1,resolve,invoke,builtin,Builtin.append_,run_underlying hu,sizeOf,typeInfo,hi,Builtin.lenOf,Builtin.firstCells,Result.andThen]
  |some ad=>simp[execOp,ho,hx,e1,resolve,invoke,builtin,Builtin.append_,run_underlying hu,sizeOf,typeInfo,hi,Builtin.lenOf,Builtin.firstCells,loadCells,loadCellsFrom,Result.andThen]
 simp only[hn,Df]at aB ⊢;obtain⟨_,h1,h2,h0,hm,fc⟩:=aB;obtain⟨vals,src⟩:=Ki H ry h1 h2;obtain⟨b,off,cap,e1,cg⟩:=src.news hm;obtain⟨i,z,hi,bE,aJ,gA,dQ⟩:=NG hs hb hz db;generalize (Bq st Y h).n=m at *;generalize (Bq st Y h).f=f at *;have jI:(m:Int)<=9223372036854775807:=by have:m*1<=m*bytes:=UL _ dT;omega
 have run:=run_append_nil (P:=P) w tx o.type e i z hu hi bE ⟨b,off,none⟩ m cap (Ch st m vals) (by rw[FC,aJ]) cg hm jI (by rw[gA];omega);refine Ran.new (ob:=.cells ((Ch st m vals).toArray++Builtin.zeroCells z.cells (grownCap w m 0 e-m)) e (0,0)) (bo:=0) (st:=st) (cp:=grownCap w m 0 e) H ⟨w.drew,rfl,rfl,rfl,rfl,E8 _,NF P o a.eval x y tx _ _ _ w _ ho hx e1 run⟩ rfl ?_;intro g' w' aD aM cC bI bU aN;have hge:=QB w m 0 e;refine⟨NH h0 aM cC bI bU hge aN ?_ src.len (fun k j hk hj=>⟨vals k j,?_,src.one k j hk hj,fun x hx=>(src.rv k j x hk hx).mono aD⟩),fun he=>?_⟩
 ·rw[Gag,size_zeroCells,dQ];simp only[UT,FC];have:(grownCap w m 0 e-m)*st+m*st=grownCap w m 0 e*st:=by rw[<-Bb];congr 1;omega
  omega
 ·have bG:=EB hk hj;rw[Dj,UQ (by simp[FC];exact bG)];simpa using IC hk hj
 ·exact .vec _ _ _ _ _ rfl (by rw[he];exact AD _) (fun _=>ND aM cC bU hge)
theorem qzr1(ty e tx:TypeId)(i:TypeInfo)(hu:P.underlying tx=some (.slice e))(hi:P.info? e=some i)(b bo n cap:Nat)(cur:Array Value)(te:TypeId)(hg:w.heap[b]?=some (.cells cur te (0,0)))(v:Value) (m:Nat) (news:List Value) (hJ:(Builtin.lenOf v).run P w=.ok m w) (cg:(Builtin.firstCells i.size m v).run P w=.ok news.toArray w) (h1:∀u∈news,u.oneCell'=true)(cU:n+m<=cap) (bn:bo+n*i.size+news.length<=cur.size) (oy:∀k,P.underlying tx≠some (.int k)) :
  (Builtin.append_ #[tx,tx] ty #[.slice (some ⟨b,bo,none⟩) n cap,v]).run P w =
   .ok (.slice (some ⟨b,bo,none⟩) (n+m) cap) (w.setRow b (cur.toList.take (bo+n*i.size)++news++cur.toList.drop (bo+n*i.size+news.length)).toArray):=by
 have aH:=run_storeCells_at P b (bo+n*i.size) te news 0 cur w hg (by simpa using bn) h1;simp only[JX]at aH;simp[Builtin.append_,run_underlying hu,sizeOf,typeInfo,hi,hJ,cU,cg,El,aH]
theorem Vz{s:Sem Next}{rd:List Nat}{p:Prop}{i:Nat}{o':Ai}{x:Aa}{v:Value}{bo st cp:Nat}{w':World}(H:HR E g h w)(aP:(h i).owned=true)(hr:s.run P w=.ok (.value v) w') (bF:o'.ep=(h i).ep+1) (mu:o'.owned=true)(bC:∀b,b≠g.blk i->w'.heap[b]?=w.heap[b]?) (bX:w'.heap.size=w.heap.size) (fX:w'.os=w.os) (cO:w'.tape=w.tape) (hout:w'.output=w.output)(bY:∀g':Gh,GLe g w g' w'->g'.blk i=g.blk i->g'.bo i=bo->g'.st i=st->g'.cp i=cp->g'.ep i=(h i).ep+1->OR g' w' i o'/\RV g' w' x v) (dO:w.drawn<=w'.drawn:=by first|exact AD _|exact E8 _|simp):Ran E P s g h w ⟨p,rd,x,some (i,o')⟩:=by
 let g':Gh:=⟨g.blk,fun j=>if j=i then(h i).ep+1 else g.ep j,fun j=>if j=i then bo else g.bo j,fun j=>if j=i then st else g.st j,fun j=>if j=i then cp else g.cp j,g.fz⟩
 have bS:=H.sep i aP
 have aD:GLe g w g' w':=by
  refine⟨fun b hb=>⟨hb,bC b (fun e=>bS (e▸hb))⟩,fun j=>?_,fun j hj=>?_⟩
  ·show g.ep j<=if j=i then(h i).ep+1 else g.ep j;split
   ·rename_i e;subst e;rw[H.ep j];omega
   ·exact AD _
  ·have:j≠i:=fun e=>by
    subst e;have aV:(if j=j then(h j).ep+1 else g.ep j)=g.ep j:=hj;rw[Aq rfl,H.ep j]at aV;omega
   exact⟨rfl,Ak this,Ak this,Ak this⟩
 obtain⟨hO,hV⟩:=bY g' aD rfl (Aq rfl) (Aq rfl) (Aq rfl) (Aq rfl);obtain⟨H',S'⟩:=HR.upd (g':=g') (w':=w') (i:=i) (o':=o') H aD (fun j hj=>Ak hj) ((Aq rfl:g'.ep i=_).trans bF.symm) (fun b _ aL=>bC b (aL aP)) (by omega) hO (fun _=>.inl ⟨aP,rfl⟩) (fun _=>bS) (fun b hb=>.inl hb) (fun b hb=>by rw[bX];exact H.fzb b hb) fX cO hout dO;exact⟨_,v,w',g',hr,.inl rfl,hV,H',S',fun e=>by cases e⟩
theorem qzo3{o:Oper}{x y:Operand}{tx e:TypeId}{s st bytes:Nat}{y':Ac}{zl:List Value}{id ep lo n:Nat}(H:HR E g h w)(ht:RVs g w t a.tmps.toList)(ho:o.op=.call { callee:=.builtin .append,args:=#[x,y],argTypes:=#[tx,tx] })(hy:A8 y y'=true)(hu:P.underlying tx=some (.slice e)) (hs:szOf P e=some st) (hb:byOf P e=some bytes) (hz:Ek P e=some zl) (db:zl.length=st) (dT:0<bytes) (hx:RV g w (.vec id ep lo n) (a.eval x))(aB:(Ee s st bytes (.vec id ep lo n) (Ae E t y') h).ok):Ran E P (execOp a.eval o) g h w (Ee s st bytes (.vec id ep lo n) (Ae E t y') h):=by
 have ry:=AP H ht hy;generalize Ae E t y'=Y at *;simp only[Ee]at aB ⊢;have hO:=H.obj id;cases hh:h id<;>simp only[hh,Req.fail]at aB hO ⊢
 case vec ep' st' N f0 =>
  obtain⟨h1,h2,rfl,rfl,my,fc⟩:=aB;obtain⟨vals,src⟩:=Ki H ry h1 h2;obtain⟨i,z,hi,bE,aJ,gA,dQ⟩:=NG hs hb hz db;obtain⟨aH,h0,hn,arr,ty,hr,bn,aT⟩:=hO;have aP:(h id).owned=true:=by rw[hh];rfl
  have bR:(h id).ep=ep:=by rw[hh];rfl
  obtain⟨ad,cap,e1,aQ,hc⟩:=FB H hx bR.symm;generalize (Bq st' Y h).n=m at *;generalize (Bq st' Y h).f=f at *
  have bg:∀k j,k<n->j<st'->∃u,arr[g.bo id+(lo+k)*st'+j]?=some u/\u.oneCell'=true/\∀x,(f0 (lo+k))[j]?=some x->RV g w x u:=by
   intro k j hk hj;obtain⟨hl,aI⟩:=aT (lo+k) (by omega);have bG:=EB (k:=lo+k) (n:=g.cp id) (st:=st') (j:=j) (by omega) hj;have hlt:g.bo id+(lo+k)*st'+j<arr.size:=by omega
   refine⟨arr[g.bo id+(lo+k)*st'+j],E7 hlt,?_⟩;have jf:(f0 (lo+k))[j]?=some (f0 (lo+k))[j]:=AG (by omega);have:=aI j _ _ jf (E7 hlt);refine⟨this.1,fun x hx=>?_⟩;rw[jf]at hx;obtain rfl:=BI hx;exact this.2
  have hU:((n+m:Nat):Int)<=9223372036854775807:=by have:(n+m)*1<=(n+m)*bytes:=UL _ dT;omega
  have fL:∀k,k<n+m->((fun k=>if k<n then f0 (lo+k) else f (k-n)) k).length=st':=by
   intro k hk;simp only;split
   ·exact(aT (lo+k) (by omega)).1
   ·exact src.len _ (by omega)
  by_cases cU:n+m<=cap
  ·-- it fits
   obtain⟨sad,scap,se,_,_⟩:=src.val;have hJ:(Builtin.lenOf (a.eval y)).run P w=.ok m w:=by rw[se];rfl
   rcases hc with c9|⟨rfl,hc⟩
   ·-- no room,and nothing comes
    have gB:n=0:=(by omega);have jg:m=0:=(by omega);subst c9;subst gB;subst jg
    have jJ:(Builtin.firstCells i.size 0 (a.eval y)).run P w=.ok #[] w:=by
     rw[se];cases sad with
     |none=>simp[Builtin.firstCells]
     |some q=>simp[Builtin.firstCells,loadCells,loadCellsFrom]
    have run:(Builtin.append_ #[tx,tx] o.type #[.slice (some ad) 0 0,a.eval y]).run P w=.ok (.slice (some ad) 0 0) w:=(by simp[Builtin.append_,run_underlying hu,sizeOf,typeInfo,hi,hJ,jJ,storeCells]);refine Vz (bo:=g.bo id) (st:=st') (cp:=g.cp id) H aP (NF P o a.eval x y tx _ _ _ w _ ho e1 rfl run) (by rw[bR];rfl) rfl (fun b _=>rfl) rfl rfl rfl rfl ?_;intro g' aD aM cC bI bU bF;refine⟨⟨bI,h0,by omega,arr,ty,by rw[aM];exact hr,by rw[cC,bU];exact bn,fun k hk=>absurd hk (Qr _)⟩,?_⟩;exact .vec _ _ _ _ _ rfl (by rw[bF,bR];exact AD _) (fun _=>⟨ad,0,rfl,AD _,.inl rfl⟩)
   ·have jJ:(Builtin.firstCells i.size m (a.eval y)).run P w=.ok (Ch st' m vals).toArray w:=by
     rcases F0 m with e0|e0
     ·subst e0;rw[se];cases sad with
      |none=>simp[Builtin.firstCells,Ch]
      |some q=>simp[Builtin.firstCells,loadCells,loadCellsFrom,Ch]
     ·obtain⟨b,off,scap',e2,cg⟩:=src.news e0;rw[e2];exact run_firstCells_some (P:=P) w i.size m ⟨b,off,none⟩ m scap' _ (by rw[FC,aJ]) cg
    have fM:g.bo id+lo*g.st id+n*i.size+(Ch st' m vals).length<=arr.size:=(by rw[FC,aH,aJ];have:(lo+(n+m))*st'<=g.cp id*st':=BD _ (by omega);rw[Bb,Bb]at this;omega);have run:=qzr1 (P:=P) (w:=w) o.type e tx i hu hi (g.blk id) (g.bo id+lo*g.st id) n cap arr ty hr (a.eval y) m (Ch st' m vals) hJ jJ (wzde src) cU fM (by intro k hk;rw[hu]at hk;cases hk);rw[<-e1]at run;have cu:=setRow_heap w (g.blk id) arr (arr.toList.take (g.bo id+lo*g.st id+n*i.size)++Ch st' m vals++arr.toList.drop (g.bo id+lo*g.st id+n*i.size+(Ch st' m vals).length)).toArray ty (0,0) hr;refine Vz (bo:=g.bo id+lo*st') (st:=st') (cp:=cap) H aP (NF P o a.eval x y tx _ _ _ w _ ho rfl rfl run) (by rw[bR];rfl) rfl (fun b hb=>setRow_other w (g.blk id) b _ hb) (by simp) rfl rfl rfl ?_;intro g' aD aM cC bI bU bF;refine⟨NH h0 aM cC bI bU cU cu ?_ fL ?_,?_⟩
    ·have e5:=FC st' m vals;have:(lo+cap)*st'=g.cp id*st':=(by rw[hc]);rw[Bb]at this;simp only[UT,Dx,Iu,Nv,Array.length_toList];omega
    ·intro k j hk hj;have dt:=yzx arr.toList (Ch st' m vals) (g.bo id+lo*g.st id+n*i.size) (g.bo id+lo*st'+k*st'+j) (by simpa using fM);have dJ:=aD;rw[aH,aJ]at dJ;rw[N6,dt,aH,aJ];by_cases dK:k<n
     ·have bG:=EB dK hj;rw[Aq (by omega)];obtain⟨u,q1,q2,q3⟩:=bg k j dK hj;have e4:g.bo id+lo*st'+k*st'+j=g.bo id+(lo+k)*st'+j:=by rw[Bb];omega
      refine⟨u,by rw[e4];simpa using q1,q2,fun x hx=>?_⟩;simp only[Aq dK]at hx;exact(q3 x hx).mono dJ
     ·have e5:k*st'=n*st'+(k-n)*st':=(by rw[<-Bb];congr 1;omega);have bG:=EB (k:=k-n) (n:=m) (st:=st') (j:=j) (by omega) hj;rw[Ak (by omega),Aq (by rw[FC];omega)];have e6:g.bo id+lo*st'+k*st'+j-(g.bo id+lo*st'+n*st')=(k-n)*st'+j:=(by omega);rw[e6];refine⟨_,IC (by omega) hj,src.one _ _ (by omega) hj,fun x hx=>?_⟩;simp only[Ak dK]at hx;exact(src.rv _ _ x (by omega) hx).mono dJ
    ·exact .vec _ _ _ _ _ rfl (by rw[bF,bR];exact AD _) (fun _=>⟨_,cap,rfl,cU,.inr ⟨by rw[aM,cC,bI,aH];simp,by omega⟩⟩)
  ·-- it grows
   have hm:0<m:=by omega
   obtain⟨b,off,scap,e2,cg⟩:=src.news hm
   have hY:∃olds:List Value,olds=Ch st' n (fun k j=>arr.getD (g.bo id+(lo+k)*st'+j) undef)/\∀q u,olds[q]?=some u->w.cell? (ad.add q)=some u:=by
    refine⟨_,rfl,fun q u hq=>?_⟩;obtain⟨k,j,hk,hj,rfl,rfl⟩:=ID hq;rcases hc with c9|⟨rfl,hc⟩
    ·omega
    ·rw[El];obtain⟨u,q1,_,_⟩:=bg k j hk hj;have e4:g.bo id+lo*g.st id+(k*st'+j)=g.bo id+(lo+k)*st'+j:=by rw[aH,Bb];omega
     have hlt:=(Ef.1 q1).1;simp[World.cell?,hr,e4,hlt]
   obtain⟨olds,rfl,hZ⟩:=hY;have run:=run_append_grow (P:=P) w tx o.type e i z hu hi bE ad n cap _ (by rw[FC,aJ]) hZ ⟨b,off,none⟩ m scap (Ch st' m vals) (by rw[FC,aJ]) cg (by omega) hU (growslice_fits (by omega) (by rw[gA];exact fc));have hge:=QB w (n+m) cap e;refine Ran.new (bo:=0) (st:=st') (cp:=grownCap w (n+m) cap e) H ⟨w.drew,rfl,rfl,rfl,rfl,E8 _,NF P o a.eval x y tx _ _ _ w _ ho e1 e2 run⟩ (by rw[bR];rfl) ?_;intro g' w' aD aM cC bI bU aN;refine⟨NH h0 aM cC bI bU hge aN ?_ fL (fun k j hk hj=>?_),fun he=>?_⟩
   ·rw[Gag,Gag,size_zeroCells,dQ];simp only[UT,FC];have:(grownCap w (n+m) cap e-(n+m))*st'+(n+m)*st'=grownCap w (n+m) cap e*st':=by rw[<-Bb];congr 1;omega
    rw[Bb]at this;omega
   ·have bG:=EB (k:=k) (n:=n+m) (st:=st') (j:=j) hk hj;rw[Bb]at bG;rw[Dj,UQ (by simp[FC];omega)];by_cases dK:k<n
    ·have cw:=EB dK hj;rw[UQ (by simp[FC];exact cw)];obtain⟨u,q1,q2,q3⟩:=bg k j dK hj;refine⟨u,?_,q2,fun x hx=>?_⟩
     ·have:=IC (vals:=fun k j=>arr.getD (g.bo id+(lo+k)*st'+j) undef) dK hj;have hlt:=(Ef.1 q1).1;have mz:=(Ef.1 q1).2;rw[N6,this];simp[hlt,mz]
     ·simp only[Aq dK]at hx;exact(q3 x hx).mono aD
    ·have e5:k*st'=n*st'+(k-n)*st':=(by rw[<-Bb];congr 1;omega);rw[Array.getElem?_append_right (by simp[FC];omega)];simp only[UT,FC];have e6:k*st'+j-n*st'=(k-n)*st'+j:=by omega
     rw[e6];refine⟨_,by rw[N6];exact IC (by omega) hj,src.one _ _ (by omega) hj,fun x hx=>?_⟩;simp only[Ak dK]at hx;exact(src.rv _ _ x (by omega) hx).mono aD
   ·rw[bR]at he;exact .vec _ _ _ _ _ rfl (by rw[he];exact AD _) (fun _=>ND aM cC bU hge)
end
section
variable {E:Nat->Aa}{P:Program}{g:Gh}{h:Ax}{w:World}{t:List Aa}{a:Act}
theorem IE{s:Sem Next}{rd:List Nat}{p:Prop}{i:Nat}{o':Ai}{x:Aa}{v:Value}{n:Next}{w1:World}{ob ob0:Obj}(H:HR E g h w)(aP:(h i).owned=true)(hd:w1=w\/w1=w.drew) (hb:w.heap[g.blk i]?=some ob0)(hr:s.run P w=.ok n { w1 with heap:=w1.heap.setIfInBounds (g.blk i) ob }) (hn:n=.value v\/(n=.skip/\v=undef))(bF:o'.ep=(h i).ep) (bY:∀w',GLe g w g w'->w'.heap[g.blk i]?=some ob->OR g w' i o'/\RV g w' x v):Ran E P s g h w ⟨p,rd,x,some (i,o')⟩:=by
 have bS:=H.sep i aP;have hh:w1.heap=w.heap:=by rcases hd with rfl|rfl<;>rfl
 have fX:w1.os=w.os:=by rcases hd with rfl|rfl<;>rfl
 have m0:w1.tape=w.tape:=by rcases hd with rfl|rfl<;>rfl
 have hout:w1.output=w.output:=by rcases hd with rfl|rfl<;>rfl
 have hlt:g.blk i<w.heap.size:=(Ef.1 hb).1
 let w':World:={ w1 with heap:=w1.heap.setIfInBounds (g.blk i) ob }
 have ib:∀b,b≠g.blk i->w'.heap[b]?=w.heap[b]?:=fun b bk=>by show(w1.heap.setIfInBounds (g.blk i) ob)[b]?=_;rw[hh];simp[Ne.symm bk]
 have bC:w'.heap[g.blk i]?=some ob:=by show(w1.heap.setIfInBounds (g.blk i) ob)[g.blk i]?=_;rw[hh];simp[hlt]
 have aJ:w'.heap.size=w.heap.size:=by show(w1.heap.setIfInBounds (g.blk i) ob).size=_;rw[hh];simp
 have aD:GLe g w g w':=⟨fun b bk=>⟨bk,ib b (fun e=>bS (e▸bk))⟩,fun _=>AD _,fun _ _=>⟨rfl,rfl,rfl,rfl⟩⟩;obtain⟨hO,hV⟩:=bY w' aD bC;obtain⟨H',S'⟩:=HR.upd (g':=g) (w':=w') (i:=i) (o':=o') H aD (fun _ _=>rfl) ((H.ep i).trans bF.symm) (fun b bk aL=>ib b (aL aP)) (by omega) hO (fun _=>.inl ⟨aP,rfl⟩) (fun _=>bS) (fun b bk=>.inl bk) (fun b bk=>by rw[aJ];exact H.fzb b bk) fX m0 hout (by rcases hd with rfl | rfl;exact AD _;exact E8 _);exact⟨n,v,w',g,hr,hn,hV,H',S',fun e=>by cases e⟩
theorem qzus{o:Oper}{ty:TypeId}{s:Nat}(H:HR E g h w)(ho:o.op=.makeMap ty none) :
  Ran E P (execOp a.eval o) g h w ((Al.mkmap s).req (Ae E t) h):=by
 simp only[Al.req];refine Ran.new (ob:=.map #[] 0) (bo:=0) (st:=0) (cp:=0) (v:=.map (some w.heap.size)) H ⟨w,rfl,rfl,rfl,rfl,AD _,?_⟩ rfl ?_
 ·have e:(Instr.makeMap ty none).run P w=.ok (.map (some w.heap.size)) (w.alloc (.map #[] 0)):=rfl;simp[execOp,ho,e,Result.andThen]
 intro g' w' aD aM _ _ _ aN;refine⟨⟨#[],by rw[aM];exact aN,rfl,fun k e m he=>by simp at he⟩,fun he=>?_⟩;exact .mp _ _ _ rfl (by rw[he];exact AD _) (fun _=>by rw[aM])
def D0:TypeDesc->Option Nat
 |.bool=>some 0
 |.int _=>some 1
 |.string=>some 2
 |_=>none
inductive V0(P:Program)(kt:TypeId)(kd:Nat):Prop where
 |one (d:TypeDesc) (hd:P.underlying kt=some d) (hk:D0 d=some kd)
 |row (sh:List Nat) (hw:(match P.underlying kt with | some (.array _ _) | some (.struct _)=>true | _=>false)=true) (hs:eqFields P 9 kt=some sh) (h4:∀k∈sh,k<4) (hk:kd=4+encK sh)
theorem V3:∀{l m:List Nat},(∀k∈l,k<4)->(∀k∈m,k<4)->encK l=encK m->l=m
 |[],[],_,_,_=>rfl
 |[],k :: m,_,_,h=>by simp only[encK]at h;omega
 |k :: l,[],_,_,h=>by simp only[encK]at h;omega
 |k :: l,j :: m,hl,hm,h=>by
  simp only[encK]at h;have h1:=hl k (Be ..);have h2:=hm j (Be ..);have e1:k=j:=by omega
  have e2:l=m:=V3 (fun x hx=>hl x (Bi _ hx)) (fun x hx=>hm x (Bi _ hx)) (by omega);rw[e1,e2]
theorem V4(x:Aa):x.kind<4:=by cases x<;>simp[Aa.kind]
theorem jze1(l:List Aa):∀k∈l.map Aa.kind,k<4:=fun k h=>by obtain⟨x,_,rfl⟩:=FX.1 h;exact V4 x
theorem QC{kt:TypeId}{kd:Nat}(hk:C7 P kt=some kd):V0 P kt kd:=by
 unfold C7 at hk
 have wide:∀(h:(match P.underlying kt with | some (.array _ _) | some (.struct _)=>true | _=>false)=true),(match eqFields P 9 kt with
  |some l=>if l.all (fun k=>Nat.blt k 4) then some (4+encK l) else none
  | none=>none)=some kd->V0 P kt kd:=by
  intro hw h;cases hs:eqFields P 9 kt with
  |none=>simp[hs]at h
  |some sh =>
   simp only[hs]at h;split at h
   ·rename_i ha;exact .row sh hw hs (fun k hk=>by have:=Dw.1 ha k hk;simpa [Hb] using this) (BI h).symm
   ·cases h
 cases hu:P.underlying kt with
 |none=>simp[hu]at hk
 |some d =>simp only[hu]at hk;cases d<;>simp only at hk<;>(try (cases hk;done))<;>first|exact .one _ hu hk|exact wide (by rw[hu]) hk
theorem V5{x:Aa}{kd:Nat}(h:x.kkind=kd)(hk:kd<4):x.kind=kd:=by cases x<;>simp only[Aa.kkind]at h<;>first|exact h|omega
theorem V6{d:TypeDesc}{kd:Nat}(hd:D0 d=some kd):kd<4:=by cases d<;>simp[D0]at hd<;>omega
theorem V7{x y:Aa}{u v:Value}{c:Bool}{d:TypeDesc}{kd:Nat}(hd:D0 d=some kd)(bw:x.kind=kd)(he:BU x y=some c)(hx:RV g w x u)(hy:RV g w y v) :
  Instr.sameNow d u v=some c/\(c=true->u=v):=by
 unfold BU at he;split at he
 ·simp only[Aa.kind]at bw;subst bw;cases d<;>simp[D0]at hd
 ·rename_i k n k' n';obtain rfl:=DK hx;obtain rfl:=DK hy;simp only[Aa.kind]at bw;subst bw;split at he
  ·rename_i e;subst e;obtain rfl:=BI he;cases d<;>simp[D0]at hd;refine⟨by simp[Instr.sameNow];first|done|rfl,fun e=>by simp at e;rw[e]⟩
  ·cases he
 ·obtain rfl:=DO hx;obtain rfl:=DO hy;simp only[Aa.kind]at bw;subst bw;obtain rfl:=BI he;cases d<;>simp[D0]at hd;refine⟨by simp[Instr.sameNow],fun e=>by simp at e;rw[e]⟩
 ·rename_i a b;obtain⟨p,rfl,hp⟩:=F9 hx;obtain⟨q,rfl,hq⟩:=F9 hy;simp only[Aa.kind]at bw;subst bw;obtain rfl:=BI he;cases d<;>simp[D0]at hd
  have lm:(p==q)=decide (a=b):=by
   by_cases e:a=b
   ·have:p=q:=by
     obtain⟨⟨p⟩⟩:=p;obtain⟨⟨q⟩⟩:=q;simp at hp hq;subst hp;subst hq;rw[e]
    simp[e,(MapKept.bytes_beq p q).2 this]
   ·have:p≠q:=fun e'=>e (by rw[<-hp,<-hq,e'])
    have h2:(p==q)=false:=by
     cases hh:p==q
     ·rfl
     ·exact absurd ((MapKept.bytes_beq p q).1 hh) this
    simp[e,h2]
  refine⟨by simp[Instr.sameNow,lm],fun e=>?_⟩;rw[<-lm]at e;rw[(MapKept.bytes_beq p q).1 e]
 ·cases he
theorem V8{X:Aa}{u:Value}{d:TypeDesc}{kd:Nat}(hd:D0 d=some kd)(bw:X.kind=kd)(hx:RV g w X u):∀(es:List (Aa×Aa)) (ms:List MapEntry) (i:Nat) {r:Option (Nat×Aa)},ms.length=es.length -> (∀(k:Nat) (e:Aa×Aa) (m:MapEntry),es[k]?=some e->ms[k]?=some m->RV g w e.1 m.key/\RV g w e.2 m.val)->AH X es i=some r -> (r=none/\Instr.findNow d u ms i=some none)\/∃j m v,r=some (i+j,v)/\ms[j]?=some m/\m.key=u/\RV g w v m.val/\Instr.findNow d u ms i=some (some (i+j,m.val))
 |[],[],i,r,_,_,hf=>.inl ⟨by simp only[AH,AZ]at hf;exact hf.symm,rfl⟩
 |e :: es,m :: ms,i,r,hl,hr,hf=>by
  have h0:=hr 0 e m rfl rfl;simp only[AH]at hf;split at hf
  ·rename_i hk;obtain⟨h1,h2⟩:=V7 hd bw hk hx h0.1;obtain rfl:=BI hf;exact .inr ⟨0,m,e.2,rfl,rfl,(h2 rfl).symm,h0.2,by simp[Instr.findNow,h1]⟩
  ·rename_i hk;obtain⟨h1,_⟩:=V7 hd bw hk hx h0.1;rcases V8 hd bw hx es ms (i+1) (by simpa using hl) (fun k e' m' he hm=>hr (k+1) e' m' (by simpa using he) (by simpa using hm)) hf with ⟨e1,e2⟩ | ⟨j,m',v,e1,e2,e3,e4,e5⟩
   ·exact .inl ⟨e1,by simp[Instr.findNow,h1,e2]⟩
   ·exact .inr ⟨j+1,m',v,by rw[e1];simp;omega,by simpa using e2,e3,e4,by simp[Instr.findNow,h1,e5];omega⟩
  ·cases hf
 |[],_ :: _,_,_,h,_,_=>by simp at h
 |_ :: _,[],_,_,h,_,_=>by simp at h
theorem qzb5{kt:TypeId}{d:TypeDesc}{kd:Nat}{k:Value}(hu:P.underlying kt=some d)(hd:D0 d=some kd)(e:Bool)(n:Nat):(Instr.checkKey e (n+1) kt k).run P w=.ok () w:=by unfold Instr.checkKey;simp only[Sem.run_bind,run_underlying hu,Result.andThen];cases d<;>simp[D0]at hd<;>cases k<;>rfl
theorem V9{kt:TypeId}{sh:List Nat}(hs:eqFields P 9 kt=some sh)(hq:yzl P kt=some true){l:List Aa}{u:Value}(hl:l.map Aa.kind=sh)(hx:RV g w (.agg l) u):∀(es:List (Aa×Aa)) (ms:List MapEntry) (i:Nat) {r:Option (Nat×Aa)},ms.length=es.length -> (∀(k:Nat) (e:Aa×Aa) (m:MapEntry),es[k]?=some e->ms[k]?=some m->RV g w e.1 m.key/\RV g w e.2 m.val)->AH (.agg l) es i=some r -> (r=none/\(Instr.findAsking kt u ms i).run P w=.ok none w)\/∃j m v,r=some (i+j,v)/\ms[j]?=some m/\m.key=u/\RV g w v m.val/\(Instr.findAsking kt u ms i).run P w=.ok (some (i+j,m.val)) w
 |[],[],i,r,_,_,hf=>.inl ⟨by simp only[AH,AZ]at hf;exact hf.symm,by simp[Instr.findAsking]⟩
 |e :: es,m :: ms,i,r,hn,hr,hf=>by
  have h0:=hr 0 e m rfl rfl
  have key:∀c,BU (.agg l) e.1=some c->(Op.equal kt u m.key).run P w=.ok c w/\(c=true->u=m.key):=by
   intro c hc;obtain⟨e1,e2⟩:=e;cases e1<;>simp only[BU]at hc<;>(try (cases hc;done));rename_i m';obtain⟨h0,_⟩:=h0;simp only at h0;generalize m.key=v at *;cases hx with
   |agg _ xs dI h9 =>
    cases h0 with
    |agg _ ys jG jH =>have dR:RVs g w l xs.toList:=⟨by simpa using dI,fun i x v hx hv=>h9 i x v hx (by simpa using hv)⟩;have je:RVs g w m' ys.toList:=⟨by simpa using jG,fun i x v hx hv=>jH i x v hx (by simpa using hv)⟩;obtain⟨agg,bp,_,aO⟩:=Vw (P:=P) (g:=g) (w:=w) 9 kt sh hs;obtain rfl:agg=true:=(by rw[hq]at bp;exact(BI bp).symm);have hq:=aO 10000 (by omega) l m' _ _ c w hl dR je hc;simp only[Dz,BK,JU]at hq;refine⟨by simpa [Op.equal,Op.maxDepth] using hq,fun e=>?_⟩;subst e;have:=Vx dR je hc;rw[Array.toList_inj.1 this]
  simp only[AH]at hf;split at hf
  ·rename_i hk;obtain⟨h1,h2⟩:=key _ hk;obtain rfl:=BI hf;exact .inr ⟨0,m,e.2,rfl,rfl,(h2 rfl).symm,h0.2,by simp[Instr.findAsking,h1,Result.andThen]⟩
  ·rename_i hk;obtain⟨h1,_⟩:=key _ hk;rcases V9 hs hq hl hx es ms (i+1) (by simpa using hn) (fun k e' m' he hm=>hr (k+1) e' m' (by simpa using he) (by simpa using hm)) hf with ⟨e1,e2⟩ | ⟨j,m',v,e1,e2,e3,e4,e5⟩
   ·exact .inl ⟨e1,by simp[Instr.findAsking,h1,e2,Result.andThen]⟩
   ·exact .inr ⟨j+1,m',v,by rw[e1];simp;omega,by simpa using e2,e3,e4,by simp[Instr.findAsking,h1,e5,Result.andThen];omega⟩
  ·cases hf
 |[],_ :: _,_,_,h,_,_=>by simp at h
 |_ :: _,[],_,_,h,_,_=>by simp at h
theorem VA{kt:TypeId}{sh:List Nat}(hw:(match P.underlying kt with | some (.array _ _) | some (.struct _)=>true | _=>false)=true):yzl P kt=some true:=by
 cases hu:P.underlying kt with
 |none=>simp[hu]at hw
 |some d=>cases d<;>simp[hu]at hw<;>simp[yzl,hu]
theorem QD{X:Aa}{u:Value}{sh:List Nat}{kd:Nat}(h4:∀k∈sh,k<4)(hk:kd=4+encK sh)(hX:X.kkind=kd)(hx:RV g w X u):∃l xs,X=.agg l/\u=.agg xs/\l.map Aa.kind=sh/\RVs g w l xs.toList:=by
 subst hk;have hlt:=V4 X;cases X<;>simp only[Aa.kkind]at hX<;>(try (simp only[Aa.kind]at hX hlt;omega));rename_i l;cases hx with
 |agg _ xs dI h9=>exact⟨l,xs,rfl,rfl,V3 (jze1 l) h4 (by omega),⟨by simpa using dI,fun i x v hx hv=>h9 i x v hx (by simpa using hv)⟩⟩
theorem NI{kt:TypeId}{kd:Nat}{X:Aa}{u:Value}(hk:C7 P kt=some kd)(hX:X.kkind=kd)(hx:RV g w X u){es:List (Aa×Aa)}{ms:List MapEntry}{r:Option (Nat×Aa)}(hn:ms.length=es.length)(hr:∀(k:Nat) (e:Aa×Aa) (m:MapEntry),es[k]?=some e->ms[k]?=some m->RV g w e.1 m.key/\RV g w e.2 m.val) (hf:AH X es 0=some r) : (r=none/\(Instr.findKey kt u ms).run P w=.ok none w)\/∃j m v,r=some (j,v)/\ms[j]?=some m/\m.key=u/\RV g w v m.val/\(Instr.findKey kt u ms).run P w=.ok (some (j,m.val)) w:=by
 cases QC hk with
 |one d hd hk =>
  rcases V8 hk (V5 hX (V6 hk)) hx es ms 0 hn hr hf with ⟨e1,e2⟩|⟨j,m,v,e1,e2,e3,e4,e5⟩
  ·exact .inl ⟨e1,MapKept.run_findKey hd e2⟩
  ·exact .inr ⟨j,m,v,by simpa using e1,e2,e3,e4,MapKept.run_findKey hd (by simpa using e5)⟩
 |row sh hw hs h4 hk =>
  obtain⟨l,xs,rfl,rfl,hl,_⟩:=QD h4 hk hX hx;rcases V9 hs (VA (sh:=sh) hw) hl hx es ms 0 hn hr hf with ⟨e1,e2⟩|⟨j,m,v,e1,e2,e3,e4,e5⟩
  ·exact .inl ⟨e1,by rw[run_findKey_eq w hw];exact e2⟩
  ·exact .inr ⟨j,m,v,by simpa using e1,e2,e3,e4,by rw[run_findKey_eq w hw];simpa using e5⟩
theorem Hk{kt:TypeId}{kd:Nat}{X:Aa}{u:Value}(hk:C7 P kt=some kd)(hX:X.kkind=kd)(hx:RV g w X u)(e:Bool):(Instr.checkKey e 10000 kt u).run P w=.ok () w:=by
 cases QC hk with
 |one d hd hk=>exact qzb5 hd hk e _
 |row sh hw hs h4 hk =>
  obtain⟨l,xs,rfl,rfl,hl,dR⟩:=QD h4 hk hX hx;obtain⟨agg,bp,_,aO⟩:=wz7n (P:=P) 9 kt sh hs;obtain rfl:agg=true:=by rw[VA (sh:=sh) hw]at bp;exact(BI bp).symm
  have:=aO 10000 (by omega) xs.toList e w (by have:=dR.1;rw[<-hl,Fy];omega);simpa [Dz] using this
theorem Kj{id ep:Nat}{v:Value}(H:HR E g h w)(hv:RV g w (.mp id ep) v)(he:ep=(h id).ep):v=.map (some (g.blk id)):=by
 cases hv with
 |mp _ _ _ _ _ hp=>exact hp (by rw[H.ep id];exact he)
theorem VB{X:Aa}{v:Value}(H:HR E g h w)(hv:RV g w X v)(aB:(Cn X h).ok) : (v=.map none/\(Cn X h).es=[])\/∃r arr,v=.map (some r)/\w.heap[r]?=some (.map arr (Cn X h).es.length)/\arr.size=(Cn X h).es.length /\ ∀(k:Nat) (e:Aa×Aa) (m:MapEntry),(Cn X h).es[k]?=some e->arr[k]?=some m->RV g w e.1 m.key/\RV g w e.2 m.val/\m.born=k:=by
 cases X<;>simp only[Cn]at aB ⊢<;>(try (exact aB.elim))
 case nilmp=>cases hv;exact .inl ⟨rfl,trivial⟩
 case mp id ep =>cases hh:h id<;>simp only[hh]at aB ⊢<;>(try (exact aB.elim));rename_i ep' es;have hO:=H.obj id;rw[hh]at hO;obtain⟨arr,h1,h2,h3⟩:=hO;exact .inr ⟨g.blk id,arr,Kj H hv (by rw[hh];exact aB),h1,h2,h3⟩
theorem VC{et:TypeId}{zero:Aa}(hz:I8 P et zero=true):∃z,(zeroValue et).run P w=.ok z w/\RV g w zero z:=by
 unfold I8 at hz;cases hi:P.info? et with
 |none=>simp[hi]at hz
 |some i =>
  cases bE:i.zero with
  |none=>obtain⟨⟩:=i;simp only at bE;subst bE;simp[hi]at hz
  |some z =>
   have gW:Kg z zero=true:=by obtain⟨⟩:=i;simp only at bE;subst bE;simpa [hi] using hz
   exact⟨z,by simp[zeroValue,typeInfo,hi,bE],UZ gW⟩
theorem QE{x:Aa}{v:Value}{b:Bool}(hx:RV g w x v):RV g w (.tup [x,.bool b]) (.tuple #[v,.bool b]):=by
 refine .tup _ _ rfl fun i y u hy hu=>?_
 match i with
 |0=>simp at hy hu;subst hy;subst hu;exact hx
 |1=>simp at hy hu;subst hy;subst hu;exact .bool _
 |n+2=>simp at hy
theorem qzuw{o:Oper}{ty kt et:TypeId}{kd:Nat}{cok:Bool}{zero:Aa}{x k:Operand}{x' k':Ac}(H:HR E g h w)(ht:RVs g w t a.tmps.toList)(ho:o.op=.lookup ty x k cok)(hx:A8 x x'=true)(hk:A8 k k'=true)(hu:P.underlying ty=some (.map kt et)) (bw:C7 P kt=some kd) (hz:I8 P et zero=true)(aB:((Al.mlook kd cok zero x' k').req (Ae E t) h).ok):Ran E P (execOp a.eval o) g h w ((Al.mlook kd cok zero x' k').req (Ae E t) h):=by
 have rx:=AP H ht hx;have rk:=AP H ht hk;obtain⟨z,jh,ga⟩:=VC (g:=g) (w:=w) hz;simp only[Al.req,Bu]at aB ⊢;generalize Ae E t x'=X at *;generalize Ae E t k'=K at *;generalize dD:a.eval x=vx at rx;generalize fA:a.eval k=vk at rk;cases hf:AH K (Cn X h).es 0 with
 |none=>simp only[hf,Req.fail]at aB
 |some r =>
  have aW:(Cn X h).ok/\K.kkind=kd:=by cases r<;>simp only[hf]at aB<;>exact aB
  rcases VB H rx aW.1 with ⟨rfl,dE⟩|⟨r',arr,rfl,hb,aJ,hr⟩
  ·rw[dE]at hf
   have gb:(Instr.findKey kt vk []).run P w=.ok none w:=by
    rcases NI bw aW.2 rk (es:=[]) (ms:=[]) rfl (fun k e m he=>by simp at he) hf with ⟨_,h2⟩ | ⟨j,m,v,_,h2,_⟩
    ·exact h2
    ·simp at h2
   simp only[AH,AZ]at hf;subst hf;simp only[dE];refine Ran.same H (v:=if cok then .tuple #[z,.bool false] else z) ?_ ?_
   ·simp[execOp,ho,dD,fA,Instr.lookup,run_underlying hu,Hk bw aW.2 rk,gb,jh,Result.andThen]
   ·cases cok;·exact ga
    ·exact QE ga
  ·rcases NI bw aW.2 rk (ms:=arr.toList) (by simpa using aJ) (fun k e m he hm=>⟨(hr k e m he (by simpa using hm)).1,(hr k e m he (by simpa using hm)).2.1⟩) hf with ⟨rfl,h2⟩ | ⟨j,m,v,rfl,h2,h3,h4,h5⟩
   ·simp only;refine Ran.same H (v:=if cok then .tuple #[z,.bool false] else z) ?_ ?_
    ·simp[execOp,ho,dD,fA,Instr.lookup,run_underlying hu,MapKept.run_getObj_map hb,Hk bw aW.2 rk,h2,jh,Result.andThen]
    ·cases cok;·exact ga
     ·exact QE ga
   ·simp only;refine Ran.same H (v:=if cok then .tuple #[m.val,.bool true] else m.val) ?_ ?_
    ·simp[execOp,ho,dD,fA,Instr.lookup,run_underlying hu,MapKept.run_getObj_map hb,Hk bw aW.2 rk,h5,Result.andThen]
    ·cases cok;·exact h4
     ·exact QE h4
theorem jzdw{x:Aa}{v:Value}(hk:x.kind<3)(hv:RV g w x v)(n:Nat):Instr.sameBits n v v=true:=by cases hv<;>simp only[Aa.kind]at hk<;>(try omega)<;>(try (simp[Instr.sameBits];done));simp[Instr.sameBits,MapKept.bytes_beq]
theorem qzqt{K:Aa}{kd:Nat}{d:TypeDesc}{v:Value}(hd:D0 d=some kd)(hk:K.kind=kd)(hv:RV g w K v)(n:Nat):Instr.sameBits n v v=true:=by
 cases hv<;>simp only[Aa.kind]at hk<;>(try (simp[Instr.sameBits];done))
 case str b _=>simp[Instr.sameBits,MapKept.bytes_beq]
 all_goals (subst hk;cases d<;>simp[D0]at hd)
theorem VD:∀{l:List Aa} {xs:List Value} (n:Nat),(∀x∈l,x.kind<3)->RVs g w l xs->(xs.zip xs).all (fun p=>Instr.sameBits n p.1 p.2)=true
 |[],xs,n,_,hx=>by have:xs=[]:=UH (by simpa using hx.1);rw[this];rfl
 |x :: l,[],n,_,hx=>by have:=hx.1;simp at this
 |x :: l,v :: xs,n,hk,hx=>by simp only[List.zip_cons_cons,List.all_cons,AE];exact⟨jzdw (hk x (Be ..)) (hx.2 0 x v rfl rfl) n,VD n (fun y hy=>hk y (Bi _ hy)) (by have:=hx.drop 1;simpa using this)⟩
theorem jzbh:∀(d:Nat) (t:TypeId) (sh:List Nat),eqFields P d t=some sh->∀k∈sh,k<3:=by
 intro d;induction d with
 |zero=>intro t sh h;simp[eqFields]at h
 |succ d ih =>
  intro t sh h;simp only[eqFields]at h;cases hu:P.underlying t with
  |none=>simp[hu]at h
  |some q =>
   simp only[hu]at h;cases q<;>simp only at h<;>(try (cases h;done))
   case struct fs =>
    split at h
    ·cases h
    ·have go:∀(fl:List Field) (n:Nat) (sh:List Nat),Dy P (eqFields P d) fl n=some sh->∀k∈sh,k<3:=by
      intro fl;induction fl with
      |nil=>intro n sh h1 k hk;simp only[Dy,AZ]at h1;subst h1;cases hk
      |cons f fl ihf =>
       intro n sh h1 k hk;simp only[Dy]at h1;split at h1
       ·cases hm:eqFields P d f.type with
        |none=>simp[hm]at h1
        |some sm =>
         simp only[hm]at h1;split at h1
         ·cases hg:Dy P (eqFields P d) fl (n+sm.length) with
          |none=>simp[hg]at h1
          |some sl =>
           simp only[hg,AZ]at h1;subst h1;rcases DJ.1 hk with hk|hk
           ·exact ih _ _ hm k hk
           ·exact ihf _ _ hg k hk
         ·cases h1
       ·cases h1
     exact go fs.toList 0 sh h
   case array n el =>
    cases hm:eqFields P d el with
    |none=>simp[hm]at h
    |some sm =>
     simp only[hm]at h;split at h
     ·obtain rfl:=BI h;intro k hk;obtain⟨l,hl,fN⟩:=List.mem_flatten.1 hk;obtain⟨_,rfl⟩:=List.mem_replicate.1 hl;exact ih _ _ hm k fN
     ·cases h
   all_goals
    obtain rfl:=BI h;intro k hk;simp at hk;omega
theorem VE{kt:TypeId}{kd:Nat}{X:Aa}{u:Value}(hk:C7 P kt=some kd)(hX:X.kkind=kd)(hx:RV g w X u):(Instr.keyThatStays u u).run P w=.ok u w:=by
 have:Instr.sameBits 10000 u u=true:=by
  cases QC hk with
  |one d hd hk=>exact qzqt hk (V5 hX (V6 hk)) hx _
  |row sh hw hs h4 hk =>obtain⟨l,xs,rfl,rfl,hl,dR⟩:=QD h4 hk hX hx;simp only[Instr.sameBits,AE];refine⟨by simp,VD _ (fun x hx=>?_) dR⟩;exact jzbh 9 kt sh hs _ (hl▸UJ hx)
 simp[Instr.keyThatStays,this]
theorem VF{o:Oper}{ty kt et:TypeId}{kd:Nat}{x k v:Operand}{x' k' v':Ac}(H:HR E g h w)(ht:RVs g w t a.tmps.toList)(ho:o.op=.mapUpdate ty x k v\/o.op=.insert ty x k v)(hx:A8 x x'=true)(hk:A8 k k'=true)(hv:A8 v v'=true)(hu:P.underlying ty=some (.map kt et)) (bw:C7 P kt=some kd)(aB:((Al.mupd kd x' k' v').req (Ae E t) h).ok):Ran E P (execOp a.eval o) g h w ((Al.mupd kd x' k' v').req (Ae E t) h):=by
 have rx:=AP H ht hx;have rk:=AP H ht hk;have rv:=AP H ht hv;simp only[Al.req,F6]at aB ⊢;generalize Ae E t x'=X at *;generalize Ae E t k'=K at *;generalize Ae E t v'=V at *;generalize dD:a.eval x=vx at rx;generalize fA:a.eval k=vk at rk;generalize g9:a.eval v=vv at rv;cases X<;>simp only[Req.fail]at aB ⊢;rename_i id ep;cases hh:h id<;>simp only[hh]at aB ⊢<;>(try (exact aB.elim));rename_i ep' es;have hO:=H.obj id;rw[hh]at hO;obtain⟨arr,hb,aJ,hr⟩:=hO;have aP:(h id).owned=true:=by rw[hh];rfl
 cases hf:AH K es 0 with
 |none=>simp only[hf]at aB
 |some r =>
  have aW:ep=ep'/\K.kkind=kd:=by cases r<;>simp only[hf]at aB<;>exact aB
  obtain rfl:=Kj H rx (by rw[hh];exact aW.1);rcases NI bw aW.2 rk (ms:=arr.toList) (by simpa using aJ) (fun k e m he hm=>⟨(hr k e m he (by simpa using hm)).1,(hr k e m he (by simpa using hm)).2.1⟩) hf with ⟨rfl,h2⟩ | ⟨j,m,v0,rfl,h2,h3,h4,h5⟩
  ·simp only;refine IE (n:=.skip) (v:=undef) (ob:=.map (arr.push { key:=vk,val:=vv,born:=es.length }) (es.length+1)) H aP (.inl rfl) hb ?_ (.inr ⟨rfl,rfl⟩) (by rw[hh];rfl) ?_
   ·rcases ho with ho|ho<;>simp[execOp,ho,dD,fA,g9,Instr.mapUpdate,run_underlying hu,MapKept.run_getObj_map hb,Hk bw aW.2 rk,h2,MapKept.run_setObj_map _ hb,Result.andThen]
   ·intro w' aD dZ;refine⟨⟨arr.push { key:=vk,val:=vv,born:=es.length },by rw[dZ];simp,by simp[aJ],fun i e m he hm=>?_⟩,.top _⟩;rw[N4]at hm;rw[List.getElem?_append]at he;by_cases hi:i<es.length
    ·rw[Aq hi]at he;rw[Ak (by omega)]at hm;obtain⟨q1,q2,q3⟩:=hr i e m he hm;exact⟨q1.mono aD,q2.mono aD,q3⟩
    ·rw[Ak hi]at he;have bf:i=es.length:=(by have:=(AU.1 he).1;simp at this;omega);subst bf;rw[Aq aJ.symm]at hm;simp at he hm;subst he;subst hm;exact⟨rk.mono aD,rv.mono aD,rfl⟩
  ·simp only;have hj:arr[j]?=some m:=by simpa using h2
   have aY:=VE bw aW.2 rk;refine IE (n:=.skip) (v:=undef) (ob:=.map (arr.modify j fun e=>{ e with key:=vk,val:=vv }) es.length) H aP (.inl rfl) hb ?_ (.inr ⟨rfl,rfl⟩) (by rw[hh];rfl) ?_
   ·rcases ho with ho|ho<;>simp[execOp,ho,dD,fA,g9,Instr.mapUpdate,run_underlying hu,MapKept.run_getObj_map hb,Hk bw aW.2 rk,h5,hj,h3,aY,MapKept.run_setObj_map _ hb,Result.andThen]
   ·intro w' aD dZ;refine⟨⟨arr.modify j fun e=>{ e with key:=vk,val:=vv },by rw[dZ];simp,by simp[aJ],fun i e m' he hm=>?_⟩,.top _⟩;rw[Qj]at hm;rw[JW]at he;by_cases hi:j=i
    ·subst hi;simp only[BK]at he hm;split at he
     ·simp[hj]at he hm;subst he;subst hm;obtain⟨_,_,q3⟩:=hr j (es[j]'(by assumption)) m (AG _) hj;exact⟨rk.mono aD,rv.mono aD,q3⟩
     ·cases he
    ·rw[Ak hi]at he hm;obtain⟨q1,q2,q3⟩:=hr i e m' he hm;exact⟨q1.mono aD,q2.mono aD,q3⟩
theorem VG{x:Aa}{v:Value}{n:Int}(hx:RV g w x v):RV g w (.tup [x,.int .i64 n]) (.tuple #[v,.int .i64 n]):=by
 refine .tup _ _ rfl fun i y u hy hu=>?_
 match i with
 |0=>simp at hy hu;subst hy;subst hu;exact hx
 |1=>simp at hy hu;subst hy;subst hu;exact .int _ _
 |n+2=>simp at hy
theorem jzc1{o:Oper}{ty kt et:TypeId}{kd:Nat}{zero:Aa}{x k:Operand}{x' k':Ac}(H:HR E g h w)(ht:RVs g w t a.tmps.toList)(ho:o.op=.mapEntry ty x k)(hx:A8 x x'=true)(hk:A8 k k'=true)(hu:P.underlying ty=some (.map kt et)) (bw:C7 P kt=some kd) (hz:I8 P et zero=true)(aB:((Al.ment kd zero x' k').req (Ae E t) h).ok):Ran E P (execOp a.eval o) g h w ((Al.ment kd zero x' k').req (Ae E t) h):=by
 have rx:=AP H ht hx;have rk:=AP H ht hk;obtain⟨z,jh,ga⟩:=VC (g:=g) (w:=w) hz;simp only[Al.req,F7]at aB ⊢;generalize Ae E t x'=X at *;generalize Ae E t k'=K at *;generalize dD:a.eval x=vx at rx;generalize fA:a.eval k=vk at rk;cases X<;>simp only[Req.fail]at aB ⊢;rename_i id ep;cases hh:h id<;>simp only[hh]at aB ⊢<;>(try (exact aB.elim));rename_i ep' es;have hO:=H.obj id;rw[hh]at hO;obtain⟨arr,hb,aJ,hr⟩:=hO;have aP:(h id).owned=true:=by rw[hh];rfl
 cases hf:AH K es 0 with
 |none=>simp only[hf]at aB
 |some r =>
  have aW:ep=ep'/\K.kkind=kd:=by cases r<;>simp only[hf]at aB<;>exact⟨aB.1,aB.2.1⟩
  obtain rfl:=Kj H rx (by rw[hh];exact aW.1);rcases NI bw aW.2 rk (ms:=arr.toList) (by simpa using aJ) (fun k e m he hm=>⟨(hr k e m he (by simpa using hm)).1,(hr k e m he (by simpa using hm)).2.1⟩) hf with ⟨rfl,h2⟩ | ⟨j,m,v0,rfl,h2,h3,h4,h5⟩
  ·simp only;refine IE (n:=.value (.tuple #[z,goInt es.length])) (v:=.tuple #[z,goInt es.length]) (ob:=.map (arr.push { key:=vk,val:=z,born:=es.length }) (es.length+1)) H aP (.inl rfl) hb ?_ (.inl rfl) (by rw[hh];rfl) ?_
   ·simp[execOp,ho,dD,fA,Instr.mapEntry,run_underlying hu,MapKept.run_getObj_map hb,Hk bw aW.2 rk,h2,jh,MapKept.run_setObj_map _ hb,Result.andThen]
   ·intro w' aD dZ;refine⟨⟨arr.push { key:=vk,val:=z,born:=es.length },by rw[dZ];simp,by simp[aJ],fun i e m he hm=>?_⟩,VG (ga.mono aD)⟩;rw[N4]at hm;rw[List.getElem?_append]at he;by_cases hi:i<es.length
    ·rw[Aq hi]at he;rw[Ak (by omega)]at hm;obtain⟨q1,q2,q3⟩:=hr i e m he hm;exact⟨q1.mono aD,q2.mono aD,q3⟩
    ·rw[Ak hi]at he;have bf:i=es.length:=(by have:=(AU.1 he).1;simp at this;omega);subst bf;rw[Aq aJ.symm]at hm;simp at he hm;subst he;subst hm;exact⟨rk.mono aD,ga.mono aD,rfl⟩
  ·simp only;have hj:arr[j]?=some m:=by simpa using h2
   have aY:=VE bw aW.2 rk;have ic:j<es.length:=by rw[<-aJ];exact(Ef.1 hj).1
   have bJ:m.born=j:=(hr j _ m (AG ic) hj).2.2;refine IE (n:=.value (.tuple #[m.val,goInt j])) (v:=.tuple #[m.val,goInt j]) (ob:=.map (arr.modify j fun e=>{ e with key:=vk }) es.length) H aP (.inl rfl) hb ?_ (.inl rfl) (by rw[hh];rfl) ?_
   ·simp[execOp,ho,dD,fA,Instr.mapEntry,run_underlying hu,MapKept.run_getObj_map hb,Hk bw aW.2 rk,h5,hj,h3,aY,bJ,MapKept.run_setObj_map _ hb,Result.andThen]
   ·intro w' aD dZ;refine⟨⟨arr.modify j fun e=>{ e with key:=vk },by rw[dZ];simp,by simp[aJ],fun i e m' he hm=>?_⟩,VG (h4.mono aD)⟩;rw[Qj]at hm;rw[JW]at he;by_cases hi:j=i
    ·subst hi;simp only[BK,Aq ic]at he hm;simp[hj]at he hm;subst he;subst hm;exact⟨rk.mono aD,h4.mono aD,bJ⟩
    ·rw[Ak hi]at he hm;obtain⟨q1,q2,q3⟩:=hr i e m' he hm;exact⟨q1.mono aD,q2.mono aD,q3⟩
theorem jzgf{arr:Array MapEntry}{n:Nat}(hb:∀(k:Nat) (m:MapEntry),arr[k]?=some m->m.born=k)(hn:n<arr.size):arr.findIdx? (fun e=>(e.born:Int)==(n:Int))=some n:=by
 rw[Array.findIdx?_eq_some_iff_getElem];refine⟨hn,?_,fun j hj=>?_⟩
 ·simp[hb n _ (E7 hn)]
 ·have:=hb j _ (E7 (show j<arr.size by omega));simp[this];omega
theorem jzda{o:Oper}{ty:TypeId}{x st v:Operand}{x' st' v':Ac}(H:HR E g h w)(ht:RVs g w t a.tmps.toList)(ho:o.op=.entryStore ty x st v)(hx:A8 x x'=true)(hs:A8 st st'=true)(hv:A8 v v'=true)(aB:((Al.mest x' st' v').req (Ae E t) h).ok):Ran E P (execOp a.eval o) g h w ((Al.mest x' st' v').req (Ae E t) h):=by
 have rx:=AP H ht hx;have rs:=AP H ht hs;have rv:=AP H ht hv;simp only[Al.req,I1]at aB ⊢;generalize Ae E t x'=X at *;generalize Ae E t st'=T at *;generalize Ae E t v'=V at *;generalize dD:a.eval x=vx at rx;generalize lj:a.eval st=vs at rs;generalize g9:a.eval v=vv at rv;cases X<;>simp only[Req.fail]at aB ⊢;rename_i id ep;cases T<;>simp only at aB ⊢<;>(try (exact aB.elim));rename_i q n;cases hh:h id<;>simp only[hh]at aB ⊢<;>(try (exact aB.elim));rename_i ep' es;have hO:=H.obj id;rw[hh]at hO;obtain⟨arr,hb,aJ,hr⟩:=hO;have aP:(h id).owned=true:=by rw[hh];rfl
 obtain⟨m5,h0,hn⟩:ep=ep'/\0<=n/\n<es.length:=aB;obtain rfl:=Kj H rx (by rw[hh];exact m5);obtain rfl:=DK rs;obtain⟨k,rfl⟩:∃k:Nat,n=k:=⟨n.toNat,by omega⟩;have hk:k<es.length:=by omega
 have fd:k<arr.size:=by omega
 have bJ:∀(i:Nat) (m:MapEntry),arr[i]?=some m->m.born=i:=fun i m hm=>by
  have hi:i<es.length:=by rw[<-aJ];exact(Ef.1 hm).1
  exact(hr i _ m (AG hi) hm).2.2
 have m6:=jzgf bJ fd;simp only[CL];refine IE (n:=.skip) (v:=undef) (ob:=.map (arr.modify k fun e=>{ e with val:=vv }) es.length) H aP (.inl rfl) hb ?_ (.inr ⟨rfl,rfl⟩) (by rw[hh];rfl) ?_
 ·simp[execOp,ho,dD,lj,g9,Instr.entryStore,asInt,asIntOf,MapKept.run_getObj_map hb,m6,MapKept.run_setObj_map _ hb,Result.andThen]
 ·intro w' aD dZ;refine⟨⟨arr.modify k fun e=>{ e with val:=vv },by rw[dZ];simp,by simp[aJ],fun i e m' he hm=>?_⟩,.top _⟩;rw[Qj]at hm;rw[JW]at he;by_cases hi:k=i
  ·subst hi;simp only[BK,Aq hk]at he hm;have jg:=E7 fd;rw[jg]at hm;simp at he hm;subst he;subst hm;obtain⟨q1,_,q3⟩:=hr k _ _ (AG hk) jg;refine⟨?_,rv.mono aD,q3⟩;simp[hk];exact q1.mono aD
  ·rw[Ak hi]at he hm;obtain⟨q1,q2,q3⟩:=hr i e m' he hm;exact⟨q1.mono aD,q2.mono aD,q3⟩
theorem qzwh{o:Oper}{args:Array Operand}{ats:Array TypeId}{x:Operand}{x':Ac}{ty kt et:TypeId}(H:HR E g h w)(ht:RVs g w t a.tmps.toList)(ho:o.op=.call { callee:=.builtin .len,args,argTypes:=ats })(ha:args=#[x])(cQ:ats=#[ty])(hu:P.underlying ty=some (.map kt et)) (hx:A8 x x'=true)(aB:((Al.mlen x').req (Ae E t) h).ok):Ran E P (execOp a.eval o) g h w ((Al.mlen x').req (Ae E t) h):=by
 have rx:=AP H ht hx;subst ha;subst cQ;simp only[Al.req]at aB ⊢;generalize Ae E t x'=X at *;generalize hv:a.eval x=v at rx;rcases VB H rx aB with ⟨rfl,dE⟩|⟨r',arr,rfl,hb,aJ,hr⟩
 ·rw[dE];exact Ran.same H (v:=.int .i64 0) (by simp[execOp,ho,hv,resolve,invoke,builtin,Builtin.len_,run_underlying hu,goInt]) (.int _ _)
 ·refine Ran.same H (v:=.int .i64 arr.size) (by simp[execOp,ho,hv,resolve,invoke,builtin,Builtin.len_,run_underlying hu,goInt,MapKept.run_getObj_map hb,Result.andThen]) ?_;rw[aJ];exact .int _ _
theorem qztu{o:Oper}{ty kt et:TypeId}{s:Nat}{x:Operand}{x':Ac}(H:HR E g h w)(ht:RVs g w t a.tmps.toList)(ho:o.op=.range ty x)(hx:A8 x x'=true)(hu:P.underlying ty=some (.map kt et)) (aB:((Al.mrange s x').req (Ae E t) h).ok):Ran E P (execOp a.eval o) g h w ((Al.mrange s x').req (Ae E t) h):=by
 have rx:=AP H ht hx;simp only[Al.req,I2]at aB ⊢;generalize Ae E t x'=X at *;generalize hv:a.eval x=v at rx;cases X<;>simp only[Req.fail]at aB ⊢
 case nilmp =>
  cases rx;refine Ran.new (ob:=.mapIter none 0 #[] 0) (bo:=0) (st:=0) (cp:=0) (v:=.pointer (some ⟨w.heap.size,0,none⟩)) H ⟨w,rfl,rfl,rfl,rfl,AD _,?_⟩ rfl ?_
  ·simp[execOp,ho,hv,Instr.range,run_underlying hu,Result.andThen]
  intro g' w' aD aM _ _ _ aN;exact⟨by show w'.heap[g'.blk s]?=_;rw[aM];exact aN,fun he=>.ptr _ _ _ _ rfl (by rw[he];exact AD _) (fun _=>by rw[aM])⟩
 case mp id ep =>
  cases hh:h id<;>simp only[hh]at aB ⊢<;>(try (exact aB.elim));rename_i ep' es;have hO:=H.obj id;rw[hh]at hO;obtain⟨arr,hb,aJ,hr⟩:=hO;obtain⟨rfl,bB⟩:=aB;have bR:g.ep id=ep:=by rw[H.ep id,hh];rfl
  obtain rfl:=Kj H rx (by rw[hh];rfl);refine Ran.new (ob:=.mapIter (some (g.blk id)) es.length #[] es.length) (bo:=0) (st:=0) (cp:=0) (v:=.pointer (some ⟨w.heap.size,0,none⟩)) H ⟨w,rfl,rfl,rfl,rfl,AD _,?_⟩ rfl ?_
  ·simp[execOp,ho,hv,Instr.range,run_underlying hu,Result.andThen,MapKept.run_getObj_map hb]
  intro g' w' aD aM _ _ _ aN;have dC:=aD.ep id;refine⟨⟨by omega,g.blk id,fun e=>((aD.same id (by omega)).1).symm,by rw[aM];exact aN⟩,fun he=>.ptr _ _ _ _ rfl (by rw[he];exact AD _) (fun _=>by rw[aM])⟩
theorem qzss{o:Oper}{x:Operand}{x':Ac}(H:HR E g h w)(ht:RVs g w t a.tmps.toList)(ho:o.op=.entry x)(hx:A8 x x'=true)(aB:((Al.mentry x').req (Ae E t) h).ok):Ran E P (execOp a.eval o) g h w ((Al.mentry x').req (Ae E t) h):=by
 have rx:=AP H ht hx;simp only[Al.req,He]at aB ⊢;generalize Ae E t x'=X at *;generalize hv:a.eval x=v at rx;cases X<;>simp only[Req.fail]at aB ⊢;rename_i id ep off;cases off with
 |succ n=>simp only at aB
 |zero =>
  simp only at aB ⊢;cases hh:h id<;>simp only[hh]at aB ⊢<;>(try (exact aB.elim));rename_i ep' mm seen;cases mm with
  |none=>exact aB.elim
  |some mm =>
   obtain⟨M,eM,n⟩:=mm;simp only at aB ⊢;cases hM:h M<;>simp only[hM]at aB ⊢<;>(try (exact aB.elim));rename_i eM' es;obtain⟨rfl,rfl,hn,hs,hl⟩:=aB;have hO:=H.obj id;rw[hh]at hO;obtain⟨_,bM,jK,hb⟩:=hO;have ie:=H.obj M;rw[hM]at ie;obtain⟨arr,jL,aJ,hr⟩:=ie;have gc:g.ep M=eM:=by rw[H.ep M,hM];rfl
   rw[jK gc.symm]at hb
   have hp:v=.pointer (some ⟨g.blk id,0,none⟩):=by
    cases rx with
    |ptr _ _ _ _ _ _ hp=>exact hp (by rw[H.ep id,hh];rfl)
   subst hp;obtain⟨sn,k,rfl⟩:∃sn k,seen=sn++[k]:=⟨seen.dropLast,seen.getLast hs,(List.dropLast_concat_getLast hs).symm⟩;simp only[List.getLastD_concat]at hl ⊢;have hk:k<es.length:=by omega
   have fd:k<arr.size:=by omega
   obtain⟨q1,q2,q3⟩:=hr k es[k] arr[k] (AG hk) (E7 fd);have bK:(arr.toList.map (·.born)).Nodup:=by have:arr.toList.map (·.born)=List.range arr.size:=(by refine List.ext_getElem (by simp) fun i h1 h2=>?_;simp at h1 h2 ⊢;exact(hr i (es[i]'(by omega)) arr[i] (AG _) (E7 _)).2.2);rw[this];exact List.nodup_range
   have he:=run_entry_at (P:=P) w (g.blk id) (g.blk M) n sn.toArray arr es.length arr[k] (by rw[q3,hb,hn];simp) jL (by simp) bK;refine Ran.same H (v:=.tuple #[arr[k].key,arr[k].val]) ?_ ?_
   ·simp[execOp,ho,hv,he,Result.andThen]
   ·refine .tup _ _ rfl fun i y u hy hu=>?_
    match i with
    |0=>simp[hk]at hy hu;subst hy;subst hu;exact q1
    |1=>simp[hk]at hy hu;subst hy;subst hu;exact q2
    |i+2=>simp at hy
theorem qzye{o:Oper}{x:Operand}{x':Ac}{id ep:Nat}{seen:List Nat}{M eM n:Nat}{es:List (Aa×Aa)}(H:HR E g h w)(ht:RVs g w t a.tmps.toList)(ho:o.op=.next x false)(hx:A8 x x'=true)(hX:Ae E t x'=.ptr id ep 0) (hid:h id=.miter ep (some (M,eM,n)) seen) (hM:h M=.amap eM es) (hn:es.length=n) : ((∀k,k<n->k∈seen)/\(execOp a.eval o).run P w=.ok (.value (.tuple #[.bool false])) w) \/ ∃k,k<n/\k∉seen/\Ran E P (execOp a.eval o) g h w ⟨True,[],.tup [.bool true,(es.getD k (.top,.top)).1,(es.getD k (.top,.top)).2],some (id,.miter ep (some (M,eM,n)) (seen++[k]))⟩:=by
 have rx:=AP H ht hx;rw[hX]at rx;generalize hv:a.eval x=v at rx;have hO:=H.obj id;rw[hid]at hO;obtain⟨h0,bM,jK,hb⟩:=hO;have ie:=H.obj M;rw[hM]at ie;obtain⟨arr,jL,aJ,hr⟩:=ie;have gc:g.ep M=eM:=by rw[H.ep M,hM];rfl
 have ebM:=jK gc.symm;subst ebM
 have hp:v=.pointer (some ⟨g.blk id,0,none⟩):=by
  cases rx with
  |ptr _ _ _ _ _ _ hp=>exact hp (by rw[H.ep id,hid];rfl)
 subst hp;have bJ:∀i (hi:i<arr.size),arr[i].born=i:=fun i hi=>(hr i (es[i]'(by omega)) arr[i] (AG _) (E7 hi)).2.2;rcases run_next_at (P:=P) w o.type (g.blk id) (g.blk M) n n seen.toArray arr es.length hb jL (fun m hm=>by obtain⟨i,hi,rfl⟩:=N7 hm;simp at hi ⊢;rw[bJ i hi];omega) (AD _) with ⟨h1,h2⟩ | ⟨e,he,w1,jM,h2⟩
 ·refine .inl ⟨fun k hk=>?_,by simp[execOp,ho,hv,h2,Result.andThen]⟩;by_cases hc:k∈seen
  ·exact hc
  ·have fd:k<arr.size:=by omega
   have:arr[k]∈leftOf arr seen.toArray:=by simp only[leftOf,Array.mem_filter];exact⟨by simp,by simp[bJ k fd,hc]⟩
   have:=Array.size_pos_of_mem this;omega
 ·simp only[leftOf,Array.toList_filter,List.mem_filter]at he;obtain⟨hm,jN⟩:=he;obtain⟨k,hk,rfl⟩:=N7 hm;simp at hk jN;rw[bJ k hk]at jN;refine .inr ⟨k,by omega,jN,?_⟩;obtain⟨q1,q2,q3⟩:=hr k (es[k]'(by omega)) arr[k] (AG _) (E7 hk);have lq:k<es.length:=by omega
  refine IE (n:=.value (.tuple #[.bool true,arr[k].key,arr[k].val])) (v:=.tuple #[.bool true,arr[k].key,arr[k].val]) (ob:=.mapIter (some (g.blk M)) n (seen++[k]).toArray n) (w1:=w1) H (by rw[hid];rfl) jM hb ?_ (.inl rfl) (by rw[hid];rfl) ?_
  ·simp only[execOp,ho,hv,Sem.run_bind,h2,Result.andThen];simp[ChangeMaps.setBlock,bJ k hk,hn]
  ·intro w' aD dZ;refine⟨⟨h0,g.blk M,fun _=>rfl,dZ⟩,.tup _ _ rfl fun i y u hy hu=>?_⟩
   match i with
   |0=>simp at hy hu;subst hy;subst hu;exact .bool _
   |1=>simp[lq]at hy hu;subst hy;subst hu;exact q1.mono aD
   |2=>simp[lq]at hy hu;subst hy;subst hu;exact q2.mono aD
   |i+3=>simp at hy
theorem VH{o:Oper}{ty e yt:TypeId}{ng:Bool}{x:Operand}{x':Ac}(H:HR E g h w)(ht:RVs g w t a.tmps.toList)(ho:o.op=.binOp (if ng then .neq else .eql) ty x (.const (.slice none 0 0)) yt)(hx:A8 x x'=true)(hu:P.underlying ty=some (.slice e))(aB:((Al.isnil ng x').req (Ae E t) h).ok):Ran E P (execOp a.eval o) g h w ((Al.isnil ng x').req (Ae E t) h):=by
 have rx:=AP H ht hx;simp only[Al.req]at aB ⊢;generalize Ae E t x'=X at *;generalize hv:a.eval x=v at rx;have hg:∀(op:BinOp) (ad:Option Addr) (n c:Nat),(eqGuard op ty x (.const (.slice none 0 0)) (.slice ad n c) (.slice none 0 0)).run P w=.ok () w:=fun op ad n c=>by unfold eqGuard;cases op<;>rfl
 have he:∀(ad:Option Addr) (n c:Nat),(Op.equal ty (.slice ad n c) (.slice none 0 0)).run P w=.ok ad.isNone w:=fun ad n c=>by show(Op.equalIn (9999+1) ty (.slice ad n c) (.slice none 0 0)).run P w=_;rw[Op.equalIn,Sem.run_bind,run_underlying hu];cases ad<;>rfl
 have run:∀(ad:Option Addr) (n c:Nat),v=.slice ad n c->(execOp a.eval o).run P w=.ok (.value (.bool (if ng then !ad.isNone else ad.isNone))) w:=by
  rintro ad n c rfl;have c9:a.eval (.const (.slice none 0 0))=.slice none 0 0:=rfl;cases ng with
  |true =>have e1:binOp .neq ty (.slice ad n c) (.slice none 0 0)=(do pure (.bool (!(<-Op.equal ty (.slice ad n c) (.slice none 0 0))))):=rfl;simp[execOp,ho,hv,c9,hg,e1,he,Result.andThen]
  |false =>have e1:binOp .eql ty (.slice ad n c) (.slice none 0 0)=(do pure (.bool (<-Op.equal ty (.slice ad n c) (.slice none 0 0)))):=rfl;simp[execOp,ho,hv,c9,hg,e1,he,Result.andThen]
 cases X<;>simp only[Req.fail]at aB ⊢
 case nils =>cases rx;refine Ran.same H (run none 0 0 rfl) ?_;cases ng<;>exact .bool _
 case slc st n f =>
  cases rx with
  |slc0 _ _ ad cap=>exact absurd aB (Nat.lt_irrefl 0)
  |slc _ _ _ b off cap =>refine Ran.same H (run (some ⟨b,off,none⟩) n cap rfl) ?_;cases ng<;>exact .bool _
 case vec id ep lo n =>obtain⟨ad,cap,e1,_⟩:=FB H rx aB;refine Ran.same H (run (some ad) n cap e1) ?_;cases ng<;>exact .bool _
theorem VI{o:Oper}{ty e yt:TypeId}{ng:Bool}{x:Operand}{x':Ac}(H:HR E g h w)(ht:RVs g w t a.tmps.toList)(ho:o.op=.binOp (if ng then .neq else .eql) ty x (.const (.pointer none)) yt)(hx:A8 x x'=true)(hu:P.underlying ty=some (.pointer e))(aB:((Al.isnilp ng x').req (Ae E t) h).ok):Ran E P (execOp a.eval o) g h w ((Al.isnilp ng x').req (Ae E t) h):=by
 have rx:=AP H ht hx;simp only[Al.req]at aB ⊢;generalize Ae E t x'=X at *;generalize hv:a.eval x=v at rx;have hg:∀(op:BinOp) (ad:Option Addr),(eqGuard op ty x (.const (.pointer none)) (.pointer ad) (.pointer none)).run P w=.ok () w:=fun op ad=>by unfold eqGuard;cases op<;>rfl
 have he:∀(ad:Option Addr),(Op.equal ty (.pointer ad) (.pointer none)).run P w=.ok ad.isNone w:=fun ad=>by show(Op.equalIn (9999+1) ty (.pointer ad) (.pointer none)).run P w=_;rw[Op.equalIn,Sem.run_bind,run_underlying hu];cases ad<;>rfl
 have run:∀(ad:Option Addr),v=.pointer ad->(execOp a.eval o).run P w=.ok (.value (.bool (if ng then !ad.isNone else ad.isNone))) w:=by
  rintro ad rfl;have c9:a.eval (.const (.pointer none))=.pointer none:=rfl;cases ng with
  |true =>have e1:binOp .neq ty (.pointer ad) (.pointer none)=(do pure (.bool (!(<-Op.equal ty (.pointer ad) (.pointer none))))):=rfl;simp[execOp,ho,hv,c9,hg,e1,he,Result.andThen]
  |false =>have e1:binOp .eql ty (.pointer ad) (.pointer none)=(do pure (.bool (<-Op.equal ty (.pointer ad) (.pointer none)))):=rfl;simp[execOp,ho,hv,c9,hg,e1,he,Result.andThen]
 cases X<;>simp only[Req.fail]at aB ⊢
 case nilp =>cases rx;refine Ran.same H (run none rfl) ?_;cases ng<;>exact .bool _
 case cptr f lim off =>
  cases rx with
  |cptr _ _ _ b base =>refine Ran.same H (run (some ⟨b,base+off,none⟩) rfl) ?_;cases ng<;>exact .bool _
end
theorem VJ:∀{n:Nat} {f:Nat->List Aa} {s:List UInt8},DN n f=some s->s.length=n/\∀k,k<n->∃m,f k=[.int .u8 m]/\s[k]?=some (UInt8.ofNat m.toNat)
 |0,f,s,h=>by simp only[DN,AZ]at h;subst h;exact⟨rfl,fun k hk=>absurd hk (Qr _)⟩
 |n+1,f,s,h=>by
  unfold DN at h;split at h
  ·rename_i m hm;cases hb:DN n (fun k=>f (k+1)) with
   |none=>simp[hb]at h
   |some s' =>
    simp only[hb,Ej,AZ]at h;subst h;obtain⟨h1,h2⟩:=VJ hb;refine⟨by simp[h1],fun k hk=>?_⟩;cases k with
    |zero=>exact⟨m,hm,rfl⟩
    |succ k=>obtain⟨m',a,b⟩:=h2 k (by omega);exact⟨m',a,by simpa using b⟩
  ·cases h
theorem qzxb(ns:List Int):∀(b:ByteArray),(ns.foldl (fun r n=>r.push (UInt8.ofNat n.toNat)) b).data.toList=b.data.toList++ns.map fun n=>UInt8.ofNat n.toNat:=by
 induction ns with
 |nil=>intro b;simp
 |cons n ns ih=>intro b;simp only[List.foldl_cons,ih];simp[ByteArray.push]
section
variable {E:Nat->Aa}{P:Program}{g:Gh}{h:Ax}{w:World}{t:List Aa}{a:Act}
theorem QF{o:Oper}{src dst e:TypeId}{x:Operand}{x':Ac}(H:HR E g h w)(ht:RVs g w t a.tmps.toList)(ho:o.op=.convert src dst x)(hx:A8 x x'=true)(hs:P.underlying src=some (.slice e)) (he:P.underlying e=some (.int .u8)) (hd:P.underlying dst=some .string) (aB:((Al.b2s x').req (Ae E t) h).ok):Ran E P (execOp a.eval o) g h w ((Al.b2s x').req (Ae E t) h):=by
 have rx:=AP H ht hx;simp only[Al.req]at aB ⊢;generalize Ae E t x'=X at *;unfold Dl at aB ⊢;cases hb:DN (Bq 1 X h).n (Bq 1 X h).f with
 |none=>simp only[hb,Req.fail]at aB
 |some s =>
  simp only[hb]at aB ⊢;obtain⟨vals,sr⟩:=Ki H rx aB.1 aB.2;obtain⟨h1,h2⟩:=VJ hb;generalize (Bq 1 X h).n=n at *;generalize (Bq 1 X h).f=f at *;obtain⟨ad,cap,hv,aQ,hc⟩:=sr.val;have bq:∀k,k<n->∃m,vals k 0=.int .u8 m/\s[k]?=some (UInt8.ofNat m.toNat):=fun k hk=>by obtain⟨m,e1,e2⟩:=h2 k hk;have:=sr.rv k 0 (.int .u8 m) hk (by rw[e1];rfl);exact⟨m,rv_int' this,e2⟩
  let num:Nat->Int:=fun k=>match vals k 0 with | .int _ m=>m | _=>0
  have ig:∀k,k<n->vals k 0=.int .u8 (num k)/\s[k]?=some (UInt8.ofNat (num k).toNat):=fun k hk=>by
   obtain⟨m,e1,e2⟩:=bq k hk;have:num k=m:=by show(match vals k 0 with | .int _ m=>m | _=>0)=m;rw[e1]
   rw[this];exact⟨e1,e2⟩
  have hS:s=((List.range n).map num).map fun m=>UInt8.ofNat m.toNat:=by
   apply Qo;intro k;by_cases hk:k<n
   ·rw[(ig k hk).2];simp[hk]
   ·rw[JV (by omega)];simp[Nat.le_of_not_lt hk]
  refine Ran.same H (v:=.string (((List.range n).map num).foldl (fun r n=>r.push (UInt8.ofNat n.toNat)) ByteArray.empty)) ?_ (.str _ _ (by rw[qzxb,hS];rfl));simp only[execOp,ho,hv,Sem.run_bind,run_convert_bytes_string w src dst e ad n cap hs he hd];rcases hc with h0|⟨b,off,rfl,aI⟩
  ·subst h0;cases ad with
   |none=>simp[Conv.bytesToString]
   |some ad =>have:=run_bytesToString (P:=P) w ad 0 cap [] (by simp[loadCells,loadCellsFrom]);simp[this,Result.andThen]
  ·have hl:=run_loadCells_list (P:=P) w ⟨b,off,none⟩ (((List.range n).map num).map (Value.int .u8)) (fun j v hj=>by
    rw[El];by_cases hk:j<n
    ·have e1:=aI j 0 hk (by omega);simp only[List.map_map,Gf,UI hk,Ej,Function.comp,AZ]at hj;rw[<-hj,<-(ig j hk).1];simpa using e1
    ·rw[JV (by simp;omega)]at hj;cases hj)
   simp only[Fy,Qv]at hl;have:=run_bytesToString (P:=P) w ⟨b,off,none⟩ n cap _ hl;simp[this,Result.andThen]
where
 rv_int' {g:Gh} {w:World} {k:IntKind} {n:Int} {v:Value} (hv:RV g w (.int k n) v):v=.int k n:=by cases hv;rfl
theorem Ran.newfz{s:Sem Next}{rd:List Nat}{x:Aa}{p:Prop}{i:Nat}{ob:Obj}{v:Value}(H:HR E g h w)(hr:∃w0:World,w0.heap=w.heap/\w0.os=w.os/\w0.tape=w.tape/\w0.output=w.output/\w.drawn<=w0.drawn/\s.run P w=.ok (.value v) { w0 with heap:=w0.heap.push ob })(bY:∀(g':Gh) (w':World),GLe g w g' w'->g'.fz w.heap.size->w'.heap[w.heap.size]?=some ob->RV g' w' x v) :
  Ran E P s g h w ⟨p,rd,x,some (i,.gone ((h i).ep+1))⟩:=by
 obtain⟨w0,e1,e2,e3,e4,e5,hr⟩:=hr
 let g':Gh:=⟨g.blk,fun j=>if j=i then(h i).ep+1 else g.ep j,g.bo,g.st,g.cp,fun b=>g.fz b\/b=w.heap.size⟩
 let w':World:={ w0 with heap:=w0.heap.push ob }
 have bg:∀b,b<w.heap.size->w'.heap[b]?=w.heap[b]?:=fun b hb=>by show(w0.heap.push ob)[b]?=_;rw[e1,N4,Ak (by omega)]
 have aN:w'.heap[w.heap.size]?=some ob:=by show(w0.heap.push ob)[w.heap.size]?=_;rw[e1,N4,Aq rfl]
 have aD:GLe g w g' w':=by
  refine⟨fun b hb=>⟨.inl hb,bg b (H.fzb b hb)⟩,fun j=>?_,fun j hj=>⟨rfl,rfl,rfl,rfl⟩⟩;show g.ep j<=if j=i then(h i).ep+1 else g.ep j;split
  ·rename_i e;subst e;rw[H.ep j];omega
  ·exact AD _
 have aJ:w'.heap.size=w.heap.size+1:=by show(w0.heap.push ob).size=_;rw[e1];simp
 obtain⟨H',S'⟩:=HR.upd (g':=g') (w':=w') (i:=i) (o':=.gone ((h i).ep+1)) H aD (fun j hj=>Ak hj) (Aq rfl) (fun b hb _=>bg b hb) (by rw[aJ];omega) trivial (fun e=>by cases e) (fun e=>by cases e)
  (fun b hb=>by
   rcases hb with hb|rfl
   ·exact .inl hb
   ·exact .inr (.inr (AD _)))
  (fun b hb=>by
   rw[aJ];rcases hb with hb|rfl
   ·have:=H.fzb b hb;omega
   ·omega) e2 e3 e4 e5
 exact⟨_,v,w',g',hr,.inl rfl,bY g' w' aD (.inr rfl) aN,H',S',fun e=>by cases e⟩
theorem qz1y{o:Oper}{src dst e:TypeId}{s:Nat}{x:Operand}{x':Ac}(H:HR E g h w)(ht:RVs g w t a.tmps.toList)(ho:o.op=.convert src dst x)(hx:A8 x x'=true)(hs:P.underlying src=some .string) (hd:P.underlying dst=some (.slice e)) (he:P.underlying e=some (.int .u8)) (aB:((Al.s2b s x').req (Ae E t) h).ok):Ran E P (execOp a.eval o) g h w ((Al.s2b s x').req (Ae E t) h):=by
 have rx:=AP H ht hx;simp only[Al.req]at aB ⊢;generalize Ae E t x'=X at *;generalize hv:a.eval x=v at rx;cases X<;>simp only[Req.fail]at aB;rename_i bs;cases rx with
 |str _ ba hb =>
  have run:=run_bytes_of_string (P:=P) w src dst e ba hs hd he;have hge:=QB w ba.size 0 e;have aJ:ba.size=bs.length:=by rw[<-hb];rfl
  refine Ran.newfz (ob:=.cells (bytesRow ba (grownCap w ba.size 0 e)) e ((bytesRow ba (grownCap w ba.size 0 e)).size,(bytesRow ba (grownCap w ba.size 0 e)).size+1)) (v:=.slice (some ⟨w.heap.size,0,none⟩) ba.size (grownCap w ba.size 0 e)) H ⟨w.drew,rfl,rfl,rfl,rfl,E8 _,by simp only[execOp,ho,hv,Sem.run_bind,run];rfl⟩ ?_;intro g' w' aD eZ aN;rw[aJ];rw[aJ]at hge;refine .slc 1 bs.length _ w.heap.size 0 _ (fun k _=>.int .u8 (BM bs k)) eZ (by omega) (fun _ _=>rfl) (fun i j hi hj=>?_) (fun _ _ _ _=>rfl) (fun i j y hi hy=>?_)
  ·obtain rfl:j=0:=by omega
   have hlt:i<ba.data.size:=by show i<ba.size;omega
   have e1:(bytesRow ba (grownCap w bs.length 0 e))[0+i*1+0]?=some (.int .u8 (BM bs i)):=by have e2:0+i*1+0=i:=(by omega);rw[e2];unfold bytesRow;rw[UQ (by simp;exact hlt),Array.getElem?_map,E7 hlt];simp only[Ej,BM,CL,AZ,Value.int.injEq,true_and];rw[Nu,<-hb,Array.getElem?_toList,E7 hlt];rfl
   simp only[World.cell?,aN];rw[aJ];exact e1
  ·cases j with
   |zero=>simp at hy;subst hy;exact .int _ _
   |succ j=>simp at hy
theorem Ran.beside{s:Sem Next}{rd:List Nat}{x:Aa}{p:Prop}{i:Nat}{ob:Obj}{v:Value}(H:HR E g h w)(hr:s.run P w=.ok (.value v) { w with heap:=w.heap.push ob })(bY:∀(g':Gh) (w':World),GLe g w g' w'->g'.fz w.heap.size->w'.heap[w.heap.size]?=some ob->RV g' w' x v) :
  Ran E P s g h w ⟨p,rd,x,some (i,h i)⟩:=by
 let g':Gh:=⟨g.blk,g.ep,g.bo,g.st,g.cp,fun b=>g.fz b\/b=w.heap.size⟩
 let w':World:={ w with heap:=w.heap.push ob }
 have bg:∀b,b<w.heap.size->w'.heap[b]?=w.heap[b]?:=fun b hb=>by show(w.heap.push ob)[b]?=_;rw[N4,Ak (by omega)]
 have aN:w'.heap[w.heap.size]?=some ob:=by show(w.heap.push ob)[w.heap.size]?=_;rw[N4,Aq rfl]
 have aD:GLe g w g' w':=⟨fun b hb=>⟨.inl hb,bg b (H.fzb b hb)⟩,fun _=>AD _,fun _ _=>⟨rfl,rfl,rfl,rfl⟩⟩;have aJ:w'.heap.size=w.heap.size+1:=by show(w.heap.push ob).size=_;simp
 have hh:putH h (some (i,h i))=h:=by
  funext j;show hset h i (h i) j=h j;simp only[hset];split
  ·rename_i e;rw[e]
  ·rfl
 have H':HR E g' h w':=by
  refine⟨fun j=>(H.obj j).mono aD rfl fun ho=>bg _ ((H.obj j).lt ho),H.ep,H.inj,fun j hj hf=>?_,fun b hb=>?_,fun j=>(H.glob j).mono aD⟩
  ·rcases hf with hf|hf;·exact H.sep j hj hf
   ·have:=(H.obj j).lt hj;have fe:g.blk j=w.heap.size:=hf;omega
  ·rw[aJ];rcases hb with hb|rfl
   ·have:=H.fzb b hb;omega
   ·omega
 have S':Stp g h w g' h w':=by
  refine⟨aD,rfl,rfl,rfl,by rw[aJ];omega,fun b hb _=>bg b hb,fun j ho=>.inl ⟨j,ho,rfl⟩,fun b hb=>?_,AD _⟩;rcases hb with hb|rfl
  ·exact .inl hb
  ·exact .inr (.inr (AD _))
 refine⟨_,v,w',g',hr,.inl rfl,bY g' w' aD (.inr rfl) aN,?_,?_,fun e=>by cases e⟩
 ·show HR E g' (putH h (some (i,h i))) w';rw[hh];exact H'
 ·show Stp g h w g' (putH h (some (i,h i))) w';rw[hh];exact S'
theorem qztc{o:Oper}{ty:TypeId}{n st nn s:Nat}{ps:Array (Nat×Operand)}{zero:List Aa}{parts:List (Nat×Nat×Ac)}(H:HR E g h w)(ht:RVs g w t a.tmps.toList)(ho:o.op=.buildSlice ty n ps)(hb:I7 P ty n st nn zero ps.toList parts=true)(aB:((Al.fslice s st nn zero parts).req (Ae E t) h).ok):Ran E P (execOp a.eval o) g h w ((Al.fslice s st nn zero parts).req (Ae E t) h):=by
 simp only[Al.req]at aB ⊢;cases hf:CQ (Ae E t) zero parts with
 |none=>simp only[hf,Req.fail]at aB
 |some l =>
  simp only[hf]at aB ⊢;obtain⟨_,hl,aH,h1⟩:=aB;obtain⟨rfl,e,cs',fJ,aF,aO⟩:=Vt H ht ho hb hf hl;refine Ran.beside (ob:=.cells cs' e (0,0)) H aO ?_;intro g' w' aD eZ aN;have jd:∀k j,k<n->j<st->k*st+j<n*st:=fun k j hk hj=>by have:(k+1)*st<=n*st:=BD _ (by omega);rw[Ga]at this;omega
  have aT:∀k,k<n->((EA st n l).getD k [])=(l.drop (k*st)).take st:=fun k hk=>Q8 n l k hl hk;refine .slc st n _ w.heap.size 0 n (fun k j=>cs'.getD (k*st+j) undef) eZ (AD _) (fun i hi=>?_) (fun i j hi hj=>?_) (fun i j hi hj=>?_) (fun i j y hi hy=>?_)
  ·rw[aT i hi];have:(i+1)*st<=n*st:=BD _ (by omega);rw[Ga]at this;simp;omega
  ·have bk:=jd i j hi hj;simp only[World.cell?,aN];have e1:0+i*st+j=i*st+j:=by omega
   rw[e1];simp[Array.getD,aF,bk]
  ·have bk:=jd i j hi hj;have co:cs'.toList[i*st+j]?=some (cs'.getD (i*st+j) undef):=by simp[Array.getD,aF,bk]
   exact Hh fJ h1 _ (BH co)
  ·rw[aT i hi,Is]at hy;split at hy
   ·rename_i hj;rw[Im]at hy;have bk:=jd i j hi hj;have co:cs'.toList[i*st+j]?=some (cs'.getD (i*st+j) undef):=by simp[Array.getD,aF,bk]
    exact(fJ.2 _ y _ hy co).mono aD
   ·cases hy
theorem qzyh{o:Oper}{ty e:TypeId}{s st bytes:Nat}{zero:List Aa}{zl:List Value}{x y:Operand}{x':Ac}(H:HR E g h w)(ht:RVs g w t a.tmps.toList)(ho:o.op=.makeSlice ty x y)(hx:A8 x x'=true)(hy:A8 y x'=true)(hu:P.underlying ty=some (.slice e)) (hs:szOf P e=some st) (hb:byOf P e=some bytes) (dT:0<bytes) (hz:Ek P e=some zl) (db:I3 zl zero=true)(aB:((Al.mks s st bytes zero x').req (Ae E t) h).ok):Ran E P (execOp a.eval o) g h w ((Al.mks s st bytes zero x').req (Ae E t) h):=by
 have rx:=AP H ht hx;have ry:=AP H ht hy;simp only[Al.req]at aB ⊢;generalize Ae E t x'=X at *;generalize hv:a.eval x=v at rx;generalize co:a.eval y=v' at ry;cases X<;>simp only[Req.fail]at aB;rename_i k n;obtain rfl:=QF.rv_int' rx;obtain rfl:=QF.rv_int' ry;obtain⟨_,h0,fc,aH,gC,dy⟩:=aB;have fb:=N0 (g:=g) (w:=w) db;have ed:zl.length=st:=by rw[<-gC];exact fb.1
 obtain⟨i,z,hi,bE,aJ,gA,dQ⟩:=NG hs hb hz ed;have du:zl=z.cells.toList:=QA hi bE hz;have m8:n<=9223372036854775807:=by have:n*1<=n*bytes:=Int.mul_le_mul_of_nonneg_left (by omega) h0;omega
 have run:=run_make (P:=P) w ty e i z hu hi bE k k n n h0 (Int.le_refl _) (by rw[gA,Int.mul_comm];omega) m8;refine Ran.new (ob:=.cells (madeCells z.cells (n.toNat*i.size)) e (0,0)) (bo:=0) (st:=st) (cp:=n.toNat) H ⟨w,rfl,rfl,rfl,rfl,AD _,by simp only[execOp,ho,hv,co,Sem.run_bind,run];rfl⟩ rfl ?_;intro g' w' aD aM cC bI bU aN;refine⟨NH aH aM cC bI bU (AD _) aN ?_ (fun _ _=>gC) (fun q j hq hj=>?_),fun he=>?_⟩
 ·rw[size_madeCells,aJ];omega
 ·have bG:=EB hq hj;have aV:j<z.cells.size:=by omega
  have e1:(q*st+j)%z.cells.size=j:=by rw[dQ,Bj,Qz];exact DM hj
  have e2:(madeCells z.cells (n.toNat*i.size))[0+q*st+j]?=some z.cells[j]:=by unfold madeCells;rw[Dj,Array.getElem?_map,Array.getElem?_range,Aq (by rw[aJ];exact bG)];simp only[Ej,e1,getElem!_pos z.cells j aV]
  have e3:zl[j]?=some z.cells[j]:=by rw[du,Array.getElem?_toList,E7 aV]
  have jc:∃y,zero[j]?=some y:=⟨_,AG (by omega)⟩;exact⟨_,e2,Hh fb dy _ (BH e3),fun y hy=>(fb.2 j y _ hy e3).mono aD⟩
 ·exact .vec _ _ _ _ _ rfl (by rw[he];exact AD _) (fun _=>ND aM cC bU (AD _))
theorem VK{id ep st m a0 cnt:Nat}{f fn:Nat->List Aa}{arr:Array Value}{ty:TypeId}{vals:Nat->Nat->Value}{w':World}(aH:g.st id=st)(h0:0<st)(hn:m<=g.cp id)(aD:GLe g w g w')(bn:g.bo id+g.cp id*st<=arr.size) (aT:∀k,k<m->(f k).length=st/\∀(j:Nat) (x:Aa) (v:Value),(f k)[j]?=some x->arr[g.bo id+k*st+j]?=some v->v.oneCell'=true/\RV g w x v)(hc:a0+cnt<=m) (hl:∀k,k<cnt->(fn k).length=st) (h1:∀k j,k<cnt->j<st->(vals k j).oneCell'=true) (hr:∀(k j:Nat) (x:Aa),k<cnt->(fn k)[j]?=some x->RV g w x (vals k j))(hb:w'.heap[g.blk id]?=some (.cells (arr.toList.take (g.bo id+a0*st)++Ch st cnt vals++arr.toList.drop (g.bo id+a0*st+(Ch st cnt vals).length)).toArray ty (0,0))) :
  OR g w' id (.vec ep st m (fun k=>if a0<=k/\k<a0+cnt then fn (k-a0) else f k)):=by
 have ii:∀k,k<m->(k+1)*st<=g.cp id*st:=fun k hk=>BD _ (by omega);have e0:(a0+cnt)*st<=g.cp id*st:=BD _ (by omega);rw[Bb]at e0;have aF:=FC st cnt vals;have dt:=fun j=>yzx arr.toList (Ch st cnt vals) (g.bo id+a0*st) j (by rw[aF];simp;omega);refine⟨aH,h0,hn,_,ty,hb,by simp;omega,fun k hk=>?_⟩;have ei:=ii k hk;rw[Ga]at ei;by_cases bh:a0<=k/\k<a0+cnt
 ·simp only[Aq bh];refine⟨hl _ (by omega),fun j x v hx hv=>?_⟩;have hj:j<st:=by rw[<-hl (k-a0) (by omega)];exact(AU.1 hx).1
  have e1:k*st=a0*st+(k-a0)*st:=by rw[<-Bb];congr 1;omega
  have bG:=EB (k:=k-a0) (n:=cnt) (st:=st) (j:=j) (by omega) hj;rw[N6,dt,Ak (by omega),Aq (by rw[aF];omega)]at hv;have e2:g.bo id+k*st+j-(g.bo id+a0*st)=(k-a0)*st+j:=by omega
  rw[e2,IC (by omega) hj]at hv;obtain rfl:=BI hv;exact⟨h1 _ _ (by omega) hj,(hr _ _ x (by omega) hx).mono aD⟩
 ·simp only[Ak bh];obtain⟨fw,aI⟩:=aT k hk;refine⟨fw,fun j x v hx hv=>?_⟩;have hj:j<st:=by rw[<-fw];exact(AU.1 hx).1
  rw[N6,dt,aF]at hv
  have jx:¬(g.bo id+a0*st<=g.bo id+k*st+j/\g.bo id+k*st+j<g.bo id+a0*st+cnt*st):=by
   rintro⟨q1,q2⟩;rcases CN k a0 with hlt|hge
   ·have:(k+1)*st<=a0*st:=BD _ hlt;rw[Ga]at this;omega
   ·have:(a0+cnt)*st<=k*st:=BD _ (by omega);rw[Bb]at this;omega
  by_cases j1:g.bo id+k*st+j<g.bo id+a0*st
  ·rw[Aq j1]at hv;have:=aI j x v hx (by simpa using hv);exact⟨this.1,this.2.mono aD⟩
  ·rw[Ak j1,Ak (by omega)]at hv;have:=aI j x v hx (by simpa using hv);exact⟨this.1,this.2.mono aD⟩
theorem qz3f{st n:Nat}{l:List Value}{vals:Nat->Nat->Value}(hl:l.length=n*st)(h:∀k j,k<n->j<st->l[k*st+j]?=some (vals k j)):l=Ch st n vals:=by
 apply Qo;intro q;by_cases hq:q<n*st
 ·have h0:0<st:=by
   rcases F0 st with e|e
   ·subst e;omega
   ·exact e
  have e1:q / st<n:=by rw[In h0];exact hq
  have e2:q%st<st:=Gg _ h0;have e3:q / st*st+q%st=q:=by rw[Bj];exact Ix q st
  have h1:=h _ _ e1 e2;have h2:=IC (st:=st) (m:=n) (vals:=vals) e1 e2;rw[e3]at h1 h2;rw[h1,h2]
 ·rw[JV (by omega),JV (by rw[FC];omega)]
theorem VL(P:Program)(o:Oper)(ρ:Operand->Value)(x y:Operand)(tx ty:TypeId)(u v r:Value)(w w':World)(ho:o.op=.call { callee:=.builtin .copy,args:=#[x,y],argTypes:=#[tx,ty] })(hx:ρ x=u)(hy:ρ y=v)(hr:(Builtin.copy_ #[tx,ty] o.type #[u,v]).run P w=.ok r w'):(execOp ρ o).run P w=.ok (.value r) w':=by simp[execOp,ho,resolve,invoke,builtin,hx,hy,hr]
theorem VM(P:Program)(o:Oper)(ρ:Operand->Value)(x:Operand)(tx:TypeId)(u r:Value)(w w':World)(ho:o.op=.call { callee:=.builtin .clear,args:=#[x],argTypes:=#[tx] })(hx:ρ x=u)(hr:(Builtin.clear_ #[tx] o.type #[u]).run P w=.ok r w'):(execOp ρ o).run P w=.ok (.value r) w':=by simp[execOp,ho,resolve,invoke,builtin,hx,hr]
theorem qzwo{o:Oper}{tx ty e:TypeId}{st0:Nat}{x y:Operand}{x' y':Ac}(H:HR E g h w)(ht:RVs g w t a.tmps.toList)(ho:o.op=.call { callee:=.builtin .copy,args:=#[x,y],argTypes:=#[tx,ty] })(hx:A8 x x'=true)(hy:A8 y y'=true)(hu:P.underlying tx=some (.slice e)) (hs:szOf P e=some st0) (aB:((Al.copy st0 x' y').req (Ae E t) h).ok):Ran E P (execOp a.eval o) g h w ((Al.copy st0 x' y').req (Ae E t) h):=by
 have rx:=AP H ht hx;have ry:=AP H ht hy;simp only[Al.req]at aB ⊢;generalize Ae E t x'=X at *;generalize Ae E t y'=Y at *;unfold Kb at aB ⊢;cases X<;>simp only[Req.fail]at aB;rename_i id ep lo n;have hO:=H.obj id;cases hh:h id<;>simp only[hh,Req.fail]at aB hO ⊢
 case vec ep' st m f =>
  obtain⟨h1,h2,rfl,bW,rfl⟩:=aB;obtain⟨aH,h0,hn,arr,ty',hr,bn,aT⟩:=hO;obtain⟨vals,src⟩:=Ki H ry h1 h2;generalize (Bq st0 Y h).n=q at *;generalize (Bq st0 Y h).f=f' at *;have aP:(h id).owned=true:=by rw[hh];rfl
  obtain⟨ad,cap,e1,aQ,hc⟩:=FB H rx (by rw[hh];rfl);obtain⟨sad,scap,se,lr,fg⟩:=src.val;have aJ:(P.info? e).map (·.size)=some st0:=hs
  obtain⟨i,hi,his⟩:∃i,P.info? e=some i/\i.size=st0:=by
   cases hi:P.info? e with
   |none=>simp[hi]at aJ
   |some i=>exact⟨i,rfl,by simpa [hi] using aJ⟩
  have ij:Nat.min q n=min q n:=rfl
  have bz:(Builtin.firstCells st0 (min q n) (.slice sad q scap)).run P w=.ok (Ch st0 (min q n) vals).toArray w:=by
   rcases fg with e0|⟨b,off,rfl,aI⟩
   ·have:min q n=0:=(by omega);rw[this];cases sad with
    |none=>simp[Builtin.firstCells,Ch]
    |some s=>simp[Builtin.firstCells,loadCells,loadCellsFrom,Ch]
   ·exact run_firstCells_some (P:=P) w st0 (min q n) ⟨b,off,none⟩ q scap _ (by rw[FC]) (fun j v hj=>by obtain⟨k,j',hk,aV,rfl,rfl⟩:=ID hj;rw[El];exact aI k j' (by omega) aV)
  by_cases hz:min q n=0
  ·-- nothing is written
   have run:(Builtin.copy_ #[tx,ty] o.type #[.slice (some ad) n cap,.slice sad q scap]).run P w=.ok (goInt 0) w:=by rw[hz]at bz;simp[Builtin.copy_,run_underlying hu,sizeOf,typeInfo,hi,his,Builtin.lenOf,ij,hz,bz,Ch,storeCells]
   have eu:=setRow_self w (g.blk id) arr ty' (0,0) hr;refine IA H aP hr (arr':=arr) (v:=goInt 0) (by rw[eu];exact VL P o a.eval x y tx ty _ _ _ w _ ho e1 se run) (.inl rfl) (by rw[hh];rfl) ?_;intro w' aD hb;refine⟨⟨aH,h0,hn,arr,ty',hb,bn,fun k hk=>?_⟩,by rw[hz];exact .int _ _⟩;rw[hz];simp only[JX,show ¬(lo<=k/\k<lo) by omega,Df];exact⟨(aT k hk).1,fun j x v hx hv=>⟨((aT k hk).2 j x v hx hv).1,((aT k hk).2 j x v hx hv).2.mono aD⟩⟩
  ·rcases hc with c9|⟨rfl,hc⟩;·omega
   ·have e5:(lo+min q n)*st0<=g.cp id*st0:=BD _ (by omega);rw[Bb]at e5;have dz:=run_storeCells_at P (g.blk id) (g.bo id+lo*g.st id) ty' (Ch st0 (min q n) vals) 0 arr w hr (by rw[FC,aH];omega) (fun u hu=>by obtain⟨p,hp⟩:=Gb6.1 hu;obtain⟨k,j,hk,hj,rfl,rfl⟩:=ID hp;exact src.one k j (by omega) hj);simp only[JX]at dz;have run:(Builtin.copy_ #[tx,ty] o.type #[.slice (some ⟨g.blk id,g.bo id+lo*g.st id,none⟩) n cap,.slice sad q scap]).run P w=.ok (goInt (min q n:Nat)) (w.setRow (g.blk id) (arr.toList.take (g.bo id+lo*g.st id)++Ch st0 (min q n) vals++arr.toList.drop (g.bo id+lo*g.st id+(Ch st0 (min q n) vals).length)).toArray):=by simp only[Builtin.copy_,run_underlying hu,sizeOf,typeInfo,hi,his,Builtin.lenOf,ij,bz,Sem.run_bind,Result.andThen_ok,dz];simp[run_underlying hu,hi,his,bz,dz,Result.andThen]
    refine IA H aP hr (v:=goInt (min q n:Nat)) (VL P o a.eval x y tx ty _ _ _ w _ ho e1 se run) (.inl rfl) (by rw[hh];rfl) ?_;intro w' aD hb;rw[aH]at hb;exact⟨VK aH h0 hn aD bn aT (by omega) (fun k hk=>src.len k (by omega)) (fun k j hk hj=>src.one k j (by omega) hj) (fun k j x hk hx=>src.rv k j x (by omega) hx) hb,.int _ _⟩
 all_goals exact aB.elim
theorem qzu3{o:Oper}{tx e:TypeId}{zero:List Aa}{zl:List Value}{x:Operand}{x':Ac}(H:HR E g h w)(ht:RVs g w t a.tmps.toList)(ho:o.op=.call { callee:=.builtin .clear,args:=#[x],argTypes:=#[tx] })(hx:A8 x x'=true)(hu:P.underlying tx=some (.slice e)) (hz:Ek P e=some zl) (db:I3 zl zero=true) (aB:((Al.clear zero x').req (Ae E t) h).ok):Ran E P (execOp a.eval o) g h w ((Al.clear zero x').req (Ae E t) h):=by
 have rx:=AP H ht hx;simp only[Al.req]at aB ⊢;generalize Ae E t x'=X at *;unfold Kc at aB ⊢;cases X<;>simp only[Req.fail]at aB;rename_i id ep lo n;have hO:=H.obj id;cases hh:h id<;>simp only[hh,Req.fail]at aB hO ⊢
 case vec ep' st m f =>
  obtain⟨rfl,bW,gC,dy⟩:=aB;obtain⟨aH,h0,hn,arr,ty',hr,bn,aT⟩:=hO;have aP:(h id).owned=true:=by rw[hh];rfl
  obtain⟨ad,cap,e1,aQ,hc⟩:=FB H rx (by rw[hh];rfl);have fb:=N0 (g:=g) (w:=w) db;have ed:zl.length=st:=by rw[<-gC];exact fb.1
  have rtup:∀w',RV g w' (.tup []) (.tuple #[]):=fun w'=>.tup _ _ rfl fun i x v hx _=>by simp at hx
  by_cases jc:n=0
  ·subst jc;have run:(Builtin.clear_ #[tx] o.type #[.slice (some ad) 0 cap]).run P w=.ok (.tuple #[]) w:=by simp[Builtin.clear_,run_underlying hu]
   have eu:=setRow_self w (g.blk id) arr ty' (0,0) hr;refine IA H aP hr (arr':=arr) (v:=.tuple #[]) (by rw[eu];exact VM P o a.eval x tx _ _ w _ ho e1 run) (.inl rfl) (by rw[hh];rfl) ?_;intro w' aD hb;refine⟨⟨aH,h0,hn,arr,ty',hb,bn,fun k hk=>?_⟩,rtup w'⟩;simp only[JX,show ¬(lo<=k/\k<lo) by omega,Df];exact⟨(aT k hk).1,fun j x v hx hv=>⟨((aT k hk).2 j x v hx hv).1,((aT k hk).2 j x v hx hv).2.mono aD⟩⟩
  ·rcases hc with c9|⟨rfl,hc⟩;·omega
   ·have e5:(lo+n)*st<=g.cp id*st:=BD _ (by omega);rw[Bb]at e5
    obtain⟨i,z,hi,bE⟩:∃(i:TypeInfo) (z:Value),P.info? e=some i/\i.zero=some z:=by
     unfold Ek at hz;cases hi:P.info? e with
     |none=>simp[hi]at hz
     |some i =>
      cases bE:i.zero with
      |none =>obtain⟨⟩:=i;simp only at bE;subst bE;simp[hi]at hz
      |some z=>exact⟨i,z,rfl,bE⟩
    have du:zl=z.cells.toList:=QA hi bE hz;have dQ:z.cells.size=st:=by rw[<-ed,du];simp
    have cu:(Builtin.zeroCells z.cells n).toList=Ch st n (fun _ j=>z.cells.getD j undef):=by
     refine qz3f (by simp[size_zeroCells,dQ]) fun k j hk hj=>?_;have bG:=EB hk hj;have e1:(k*st+j)%z.cells.size=j:=by rw[dQ,Bj,Qz];exact DM hj
     have aV:j<z.cells.size:=(by omega);rw[Array.getElem?_toList];unfold Builtin.zeroCells;rw[Array.getElem?_map,Array.getElem?_range,Aq (by rw[dQ];exact bG)];simp only[Ej,e1,getElem!_pos z.cells j aV,Array.getD,aV,dif_pos];rfl
    have ey:∀j,j<st->(z.cells.getD j undef).oneCell'=true/\zl[j]?=some (z.cells.getD j undef):=fun j hj=>by have aV:j<z.cells.size:=(by omega);have e2:z.cells.getD j undef=z.cells[j]:=(by simp[Array.getD,aV]);have e3:zl[j]?=some z.cells[j]:=(by rw[du,Array.getElem?_toList,E7 aV]);rw[e2];exact⟨Hh fb dy _ (BH e3),e3⟩
    have dz:=run_storeCells_at P (g.blk id) (g.bo id+lo*g.st id) ty' (Ch st n (fun _ j=>z.cells.getD j undef)) 0 arr w hr (by rw[FC,aH];omega) (fun u hu=>by obtain⟨p,hp⟩:=Gb6.1 hu;obtain⟨k,j,hk,hj,rfl,rfl⟩:=ID hp;exact(ey j hj).1);simp only[JX]at dz;obtain⟨n',rfl⟩:∃n',n=n'+1:=⟨n-1,by omega⟩;have run:(Builtin.clear_ #[tx] o.type #[.slice (some ⟨g.blk id,g.bo id+lo*g.st id,none⟩) (n'+1) cap]).run P w=.ok (.tuple #[]) (w.setRow (g.blk id) (arr.toList.take (g.bo id+lo*g.st id)++Ch st (n'+1) (fun _ j=>z.cells.getD j undef)++arr.toList.drop (g.bo id+lo*g.st id+(Ch st (n'+1) (fun _ j=>z.cells.getD j undef)).length)).toArray):=(by generalize Ch st (n'+1) (fun _ j=>z.cells.getD j undef)=row at cu dz ⊢;simp only[Builtin.clear_,run_underlying hu,Sem.run_bind,Result.andThen_ok,zeroValue,typeInfo];simp[run_underlying hu,hi,bE,cu,dz,zeroValue,typeInfo,Result.andThen]);refine IA H aP hr (v:=.tuple #[]) (VM P o a.eval x tx _ _ w _ ho e1 run) (.inl rfl) (by rw[hh];rfl) ?_;intro w' aD hb;rw[aH]at hb;exact⟨VK (fn:=fun _=>zero) aH h0 hn aD bn aT (by omega) (fun k hk=>gC) (fun k j hk hj=>(ey j hj).1) (fun k j x hk hx=>by have hj:j<st:=(by rw[<-gC];exact(AU.1 hx).1);exact fb.2 j x _ hx (ey j hj).2) hb,rtup w'⟩
 all_goals exact aB.elim
end
section
variable {E:Nat->Aa}{P:Program}{g:Gh}{h:Ax}{w:World}{t:List Aa}{a:Act}
theorem qzs4{o:Oper}{x y:Operand}{tx e:TypeId}{s st bytes:Nat}{x' y':Ac}{zl:List Value}(H:HR E g h w)(ht:RVs g w t a.tmps.toList)(ho:o.op=.call { callee:=.builtin .append,args:=#[x,y],argTypes:=#[tx,tx] })(hx:A8 x x'=true)(hy:A8 y y'=true)(hu:P.underlying tx=some (.slice e)) (hs:szOf P e=some st) (hb:byOf P e=some bytes) (hz:Ek P e=some zl) (db:zl.length=st) (dT:0<bytes)(aB:((Al.append s st bytes x' y').req (Ae E t) h).ok):Ran E P (execOp a.eval o) g h w ((Al.append s st bytes x' y').req (Ae E t) h):=by
 have rx:=AP H ht hx;simp only[Al.req]at aB ⊢;generalize Ae E t x'=X at *;cases X<;>(try (simp only[Ee,Req.fail]at aB;done))
 case nils =>generalize hv:a.eval x=v at rx;cases rx;exact qzpa H ht ho hy hu hs hb hz db dT hv aB
 case vec id ep lo n=>exact qzo3 H ht ho hy hu hs hb hz db dT rx aB
theorem VN{o:Oper}{ao:Al}(H:HR E g h w)(ht:RVs g w t a.tmps.toList)(hc:Fw P o.op ao=true)(aB:(ao.req (Ae E t) h).ok):Ran E P (execOp a.eval o) g h w (ao.req (Ae E t) h):=by
 generalize ho:o.op=op at hc;unfold Fw at hc;split at hc
 ·exact Vg H ht (.inl ho) hc
 ·exact Vg H ht (.inr ho) hc
 ·simp only[AE]at hc;exact qzwq H ht ho hc.1.1 hc.1.2 hc.2 aB
 ·rename_i op' ty x y yt op'' bools x' y';simp only[AE,Br,Il,GV]at hc;obtain⟨⟨⟨rfl,hx⟩,hy⟩,hb⟩:=hc;refine qzys H ht ho hx hy (fun e=>?_) aB;rcases hb with hb|hb
  ·rw[e]at hb;cases hb
  ·split at hb
   ·assumption
   ·cases hb
 ·exact qzzh H ht ho hc aB
 ·exact qz2q H ht ho hc aB
 ·exact qzva H ho hc
 ·exact qzxh H ht ho hc aB
 ·rename_i ty x agg sz y;simp only[AE,Br,Il,GV]at hc;obtain⟨⟨h1,h2⟩,hx⟩:=hc;exact Vi H ht ho hx h1 (fun e=>h2.resolve_left (by rw[e];simp)) aB
 ·simp only[AE,Br]at hc;exact qzu9 H ht ho hc.1.2 hc.2 hc.1.1 aB
 ·exact qzuv H ht ho hc aB
 ·rename_i s x f off y;simp only[AE]at hc;obtain⟨h1,hx⟩:=hc;split at h1
  ·rename_i o' ft hf;simp only[AE,Br]at h1;obtain⟨rfl,h2⟩:=h1;split at h2
   ·rename_i n hn;exact qzur H ht ho hx hf hn (by simpa using h2) aB
   ·cases h2
  ·cases h1
 ·rename_i ty x i st x' i';simp only[AE]at hc;obtain⟨⟨h1,hx⟩,hi⟩:=hc;split at h1
  ·rename_i e he;simp only[Br]at h1;unfold Va at he;split at he
   ·rename_i e' hu;obtain rfl:=BI he;exact qzsn H ht ho hx hi hu h1 aB
   ·cases he
  ·cases h1
 ·rename_i ty x i nn st x' i';simp only[AE]at hc;obtain⟨⟨h1,hx⟩,hi⟩:=hc;split at h1
  ·rename_i m e he;simp only[AE,Br]at h1;obtain⟨rfl,hs⟩:=h1;unfold Vb at he;split at he
   ·rename_i n' e' hu;simp only[AZ,De]at he;obtain⟨rfl,rfl⟩:=he;exact qzta H ht ho hx hi hu hs aB
   ·cases he
  ·cases h1
 ·rename_i ty x f agg off sz y;simp only[AE]at hc;obtain⟨h1,hx⟩:=hc;split at h1
  ·rename_i o' ft hf;simp only[AE,Br,Il,GV]at h1;obtain⟨⟨rfl,h2⟩,h3⟩:=h1;exact qzuz H ht ho hx hf h2 (fun e=>h3.resolve_left (by rw[e];simp)) aB
  ·cases h1
 ·simp only[AE,Br]at hc;obtain⟨rfl,hx⟩:=hc;exact qzr2 H ht ho hx aB
 ·rename_i ty x i x' i';simp only[AE]at hc;obtain⟨⟨h1,hx⟩,hi⟩:=hc;split at h1
  ·rename_i hu;exact qzw6 H ht ho hx hi hu aB
  ·cases h1
 ·rename_i ty x i agg n sz x' i';simp only[AE]at hc;obtain⟨⟨h1,hx⟩,hi⟩:=hc;split at h1
  ·rename_i m e hu;simp only[AE,Br]at h1;obtain⟨⟨rfl,h2⟩,h3⟩:=h1;exact jzdb H ht ho hx hi hu h3 h2 aB
  ·cases h1
 ·exact qzu2 H ht ho hc aB
 ·exact qzum H ht ho hc aB
 ·rename_i src dst x k y;simp only[AE]at hc;obtain⟨⟨h1,h2⟩,hx⟩:=hc;split at h2
  ·rename_i k' hd;simp only[Br]at h2;subst h2;exact qzwr H ht ho hx h1 hd aB
  ·cases h2
 ·rename_i ty x lo hi isStr st x' lo' bf;simp only[AE]at hc;obtain⟨⟨⟨h1,hx⟩,bW⟩,cJ⟩:=hc;split at h1
  ·rename_i hu;subst h1;exact Vq H ht ho hx bW cJ hu (by simp) aB
  ·rename_i e hu;simp only[AE,Br,GV]at h1;obtain⟨rfl,h2⟩:=h1;exact Vq H ht ho hx bW cJ hu (by simp;exact h2) aB
  ·cases h1
 ·rename_i args ats isStr x';simp only[AE,Br]at hc;obtain⟨⟨⟨h1,h2⟩,hx⟩,hu⟩:=hc;obtain⟨x,rfl⟩:=Array.size_eq_one_iff.1 h1;obtain⟨ty,rfl⟩:=Array.size_eq_one_iff.1 h2;simp only[N6,Gbc,Option.bind_some]at hx hu;split at hu
  ·rename_i hd;subst hu;exact Vn H ht ho rfl rfl hd (by simp) hx aB
  ·rename_i e hd;simp only[GV]at hu;subst hu;exact Vn H ht ho rfl rfl hd (by simp) hx aB
  ·cases hu
 ·rename_i args ats s st bytes x' y';split at hc
  ·rename_i x y tx ty bA jO;simp only[AE,Br]at hc;obtain⟨⟨⟨rfl,hx⟩,hy⟩,h2⟩:=hc;obtain rfl:args=#[x,y]:=by rw[<-JU (xs:=args),bA]
   obtain rfl:ats=#[tx,tx]:=by rw[<-JU (xs:=ats),jO]
   split at h2
   ·rename_i e hu;simp only[AE,Br,bne_iff_ne]at h2;obtain⟨⟨⟨hs,hb⟩,dT⟩,hz⟩:=h2;split at hz
    ·rename_i zl db;simp only[Br]at hz;exact qzs4 H ht ho hx hy hu hs hb db hz (by omega) aB
    ·cases hz
   ·cases h2
  ·cases hc
 ·rename_i args ats st0 x' y';split at hc
  ·rename_i x y bA;simp only[AE]at hc;exact qzzt H ht ho bA hc.1 hc.2 aB
  ·cases hc
 ·rename_i args ats st0 x' y';split at hc
  ·rename_i x y bA;simp only[AE]at hc;exact qzx8 H ht ho bA hc.1 hc.2 aB
  ·cases hc
 ·rename_i args ats st0 x' y' z';split at hc
  ·rename_i x y z bA;simp only[AE]at hc;exact jz9e H ht ho bA hc.1.1 hc.1.2 hc.2 aB
  ·cases hc
 ·rename_i ty x y yt sh x' y';simp only[AE,Br,GV]at hc;obtain⟨⟨⟨⟨h1,h2⟩,h3⟩,hx⟩,hy⟩:=hc;split at h3
  ·rename_i fs hu;exact Vy (ng:=false) H ht ho hx hy h1 h2 hu aB
  ·cases h3
 ·rename_i ty x y yt sh x' y';simp only[AE,Br,GV]at hc;obtain⟨⟨⟨⟨h1,h2⟩,h3⟩,hx⟩,hy⟩:=hc;split at h3
  ·rename_i fs hu;exact Vy (ng:=true) H ht ho hx hy h1 h2 hu aB
  ·cases h3
 ·rename_i ty x yt x';simp only[AE]at hc;split at hc
  ·rename_i e hu;exact VH (ng:=false) H ht ho hc.1 hu aB
  ·cases hc.2
 ·rename_i ty x yt x';simp only[AE]at hc;split at hc
  ·rename_i e hu;exact VH (ng:=true) H ht ho hc.1 hu aB
  ·cases hc.2
 ·rename_i ty x yt x';simp only[AE]at hc;split at hc
  ·rename_i e hu;exact VI (ng:=false) H ht ho hc.1 hu aB
  ·cases hc.2
 ·rename_i ty x yt x';simp only[AE]at hc;split at hc
  ·rename_i e hu;exact VI (ng:=true) H ht ho hc.1 hu aB
  ·cases hc.2
 ·exact qzus H ho
 ·rename_i ty x k cok kd cok' zero x' k';simp only[AE,Br]at hc;obtain⟨⟨⟨rfl,h1⟩,hx⟩,hk⟩:=hc;split at h1
  ·rename_i kt et hu;simp only[AE,Br]at h1;exact qzuw H ht ho hx hk hu h1.1 h1.2 aB
  ·cases h1
 ·rename_i ty m k v kd m' k' v';simp only[AE]at hc;obtain⟨⟨⟨h1,hx⟩,hk⟩,hv⟩:=hc;split at h1
  ·rename_i kt et hu;simp only[Br]at h1;exact VF H ht (.inl ho) hx hk hv hu h1 aB
  ·cases h1
 ·rename_i ty m k v kd m' k' v';simp only[AE]at hc;obtain⟨⟨⟨h1,hx⟩,hk⟩,hv⟩:=hc;split at h1
  ·rename_i kt et hu;simp only[Br]at h1;exact VF H ht (.inr ho) hx hk hv hu h1 aB
  ·cases h1
 ·rename_i ty m k kd zero m' k';simp only[AE]at hc;obtain⟨⟨h1,hx⟩,hk⟩:=hc;split at h1
  ·rename_i kt et hu;simp only[AE,Br]at h1;exact jzc1 H ht ho hx hk hu h1.1 h1.2 aB
  ·cases h1
 ·rename_i ty m st v m' st' v';simp only[AE]at hc;obtain⟨⟨hx,hs⟩,hv⟩:=hc;exact jzda H ht ho hx hs hv aB
 ·rename_i args ats x';simp only[AE,Br]at hc;obtain⟨⟨⟨h1,h2⟩,hx⟩,hu⟩:=hc;obtain⟨x,rfl⟩:=Array.size_eq_one_iff.1 h1;obtain⟨ty,rfl⟩:=Array.size_eq_one_iff.1 h2;simp only[N6,Gbc,Option.bind_some]at hx hu;split at hu
  ·rename_i kt et hd;exact qzwh H ht ho rfl rfl hd hx aB
  ·cases hu
 ·rename_i ty x s x';simp only[AE]at hc;obtain⟨h1,hx⟩:=hc;split at h1
  ·rename_i kt et hu;exact qztu H ht ho hx hu aB
  ·cases h1
 ·exact qzss H ht ho hc aB
 ·rename_i f first caps f' caps'
  simp only[AE,Br]at hc;obtain⟨⟨rfl,h0⟩,cb⟩:=hc;exact qzw7 H ht ho (by simpa using h0) cb
 ·rename_i src dst x s x';simp only[AE]at hc;obtain⟨h1,hx⟩:=hc;split at h1
  ·rename_i e hs hd;simp only[AE]at h1;obtain⟨h2,h3⟩:=h1;split at h2
   ·rename_i he;exact qz1y H ht ho hx hs hd he aB
   ·cases h2
  ·cases h1
 ·rename_i src dst x x';simp only[AE]at hc;obtain⟨h1,hx⟩:=hc;split at h1
  ·rename_i e hs hd;simp only[AE]at h1;obtain⟨h2,h3⟩:=h1;split at h2
   ·rename_i he;exact QF H ht ho hx hs he hd aB
   ·cases h2
  ·cases h1
 ·rename_i t0 x y s st bytes zero x';simp only[AE]at hc;obtain⟨⟨hx,hy⟩,h1⟩:=hc;split at h1
  ·rename_i e hu;simp only[AE,Br,bne_iff_ne]at h1;obtain⟨⟨⟨hs,hb⟩,dT⟩,h2⟩:=h1;split at h2
   ·rename_i z hz;exact qzyh H ht ho hx hy hu hs hb (by omega) hz h2 aB
   ·cases h2
  ·cases h1
 ·rename_i args ats st0 x' y';split at hc
  ·rename_i x y tx ty ha cQ;simp only[AE]at hc;obtain⟨⟨hx,hy⟩,h1⟩:=hc;split at h1
   ·rename_i e hu;have hs:=Br.1 h1;obtain rfl:args=#[x,y]:=(by rw[<-JU (xs:=args),ha]);obtain rfl:ats=#[tx,ty]:=(by rw[<-JU (xs:=ats),cQ]);exact qzwo H ht ho hx hy hu hs aB
   ·cases h1
  ·cases hc
 ·rename_i args ats zero x';split at hc
  ·rename_i x tx ha cQ;simp only[AE]at hc;obtain⟨hx,h1⟩:=hc;split at h1
   ·rename_i e hu;split at h1
    ·rename_i z hz;obtain rfl:args=#[x]:=by rw[<-JU (xs:=args),ha]
     obtain rfl:ats=#[tx]:=by rw[<-JU (xs:=ats),cQ]
     exact qzu3 H ht ho hx hu hz h1 aB
    ·cases h1
   ·cases h1
  ·cases hc
 ·exact qztc H ht ho hc aB
 ·cases hc
end
theorem IF{ar:Ac->Aa}{h:Ax}{i:Nat}{ob:Ai}(o:Al)(aB:(o.req ar h).ok)(ho:(o.req ar h).out=some (i,ob)):(h i).plain/\i∈(o.req ar h).rd:=by
 cases o<;>simp only[Al.req]at aB ho ⊢<;>(try (cases ho;done))
 case alloc s zero =>simp only[AZ,De]at ho;obtain⟨rfl,_⟩:=ho;exact⟨aB,by simp⟩
 case box s x =>cases hp:Cz (ar x)<;>simp only[hp,Req.fail]at aB ho ⊢;simp only[AZ,De]at ho;obtain⟨rfl,_⟩:=ho;exact⟨aB,by simp⟩
 case bslice s st nn zero ps =>cases hp:CQ ar zero ps<;>simp only[hp,Req.fail]at aB ho ⊢;simp only[AZ,De]at ho;obtain⟨rfl,_⟩:=ho;exact⟨aB.1,by simp⟩
 case fslice s st nn zero ps =>cases hp:CQ ar zero ps<;>simp only[hp,Req.fail]at aB ho ⊢;simp only[AZ,De]at ho;obtain⟨rfl,_⟩:=ho;exact⟨aB.1,by simp⟩
 case store sz x y =>
  unfold C0 at aB ho ⊢;cases hp:Cz (ar y)<;>simp only[hp,Req.fail]at aB ho ⊢;cases hx:ar x<;>simp only[hx,Req.fail]at aB ho ⊢
  case ptr id ep off =>
   cases hh:h id<;>simp only[hh,Req.fail]at aB ho ⊢
   case box ep' cs =>simp only[AZ,De]at ho;obtain⟨rfl,_⟩:=ho;exact⟨by rw[hh];trivial,by simp⟩
   all_goals exact aB.elim
  case eptr id ep i' off =>
   cases hh:h id<;>simp only[hh,Req.fail]at aB ho ⊢
   case vec ep' st n f =>simp only[AZ,De]at ho;obtain⟨rfl,_⟩:=ho;exact⟨by rw[hh];trivial,by simp⟩
   all_goals exact aB.elim
  all_goals exact aB.elim
 case append s st bytes x y =>
  simp only[Ee]at aB ho ⊢;cases hx:ar x<;>simp only[hx,Req.fail]at aB ho ⊢
  case nils =>
   by_cases hn:(Bq st (ar y) h).n=0
   ·simp only[hn,BK]at ho;cases ho
   ·simp only[hn,Df]at aB ho ⊢;simp only[AZ,De]at ho;obtain⟨rfl,_⟩:=ho;exact⟨aB.1,by simp⟩
  case vec id ep lo n =>
   cases hh:h id<;>simp only[hh,Req.fail]at aB ho ⊢
   case vec ep' st' m f =>simp only[AZ,De]at ho;obtain⟨rfl,_⟩:=ho;exact⟨by rw[hh];trivial,by simp⟩
   all_goals exact aB.elim
  all_goals exact aB.elim
 case s2b s x =>cases hx:ar x<;>simp only[hx,Req.fail]at aB ho ⊢<;>(try (cases ho;done));simp only[AZ,De]at ho;obtain⟨rfl,_⟩:=ho;exact⟨aB,by simp⟩
 case mks s st bytes zero x =>cases hx:ar x<;>simp only[hx,Req.fail]at aB ho ⊢<;>(try (cases ho;done));simp only[AZ,De]at ho;obtain⟨rfl,_⟩:=ho;exact⟨aB.1,by simp⟩
 case b2s x =>exfalso;revert ho;unfold Dl;split<;>(intro ho;cases ho;done)
 case copy st0 x y =>unfold Kb at aB ho ⊢;cases hx:ar x<;>simp only[hx,Req.fail]at aB ho ⊢<;>(try (cases ho;done));rename_i id ep lo n;cases hh:h id<;>simp only[hh,Req.fail]at aB ho ⊢<;>(try (cases ho;done));simp only[AZ,De]at ho;obtain⟨rfl,_⟩:=ho;exact⟨by rw[hh];trivial,by simp⟩
 case clear zero x =>unfold Kc at aB ho ⊢;cases hx:ar x<;>simp only[hx,Req.fail]at aB ho ⊢<;>(try (cases ho;done));rename_i id ep lo n;cases hh:h id<;>simp only[hh,Req.fail]at aB ho ⊢<;>(try (cases ho;done));simp only[AZ,De]at ho;obtain⟨rfl,_⟩:=ho;exact⟨by rw[hh];trivial,by simp⟩
 case mkmap s =>simp only[AZ,De]at ho;obtain⟨rfl,_⟩:=ho;exact⟨aB,by simp⟩
 case mlook kd cok zero x k =>
  exfalso;revert ho;unfold Bu;repeat' split
  all_goals (intro ho;cases ho;done)
 case mupd kd x k v =>
  unfold F6 at aB ho ⊢;cases hx:ar x<;>simp only[hx,Req.fail]at aB ho ⊢<;>(try (exact aB.elim));rename_i id ep;cases hh:h id<;>simp only[hh,Req.fail]at aB ho ⊢<;>(try (exact aB.elim));rename_i ep' es;cases hf:AH (ar k) es 0 with
  |none=>simp only[hf]at aB
  |some r =>cases r<;>simp only[hf,AZ,De]at ho ⊢<;>(obtain⟨rfl,_⟩:=ho;exact⟨by rw[hh];trivial,by simp⟩)
 case ment kd zero x k =>
  unfold F7 at aB ho ⊢;cases hx:ar x<;>simp only[hx,Req.fail]at aB ho ⊢<;>(try (exact aB.elim));rename_i id ep;cases hh:h id<;>simp only[hh,Req.fail]at aB ho ⊢<;>(try (exact aB.elim));rename_i ep' es;cases hf:AH (ar k) es 0 with
  |none=>simp only[hf]at aB
  |some r =>cases r<;>simp only[hf,AZ,De]at ho ⊢<;>(obtain⟨rfl,_⟩:=ho;exact⟨by rw[hh];trivial,by simp⟩)
 case mest x st v =>unfold I1 at aB ho ⊢;cases hx:ar x<;>simp only[hx,Req.fail]at aB ho ⊢<;>(try (exact aB.elim));rename_i id ep;cases hs:ar st<;>simp only[hs]at aB ho ⊢<;>(try (exact aB.elim));cases hh:h id<;>simp only[hh]at aB ho ⊢<;>(try (exact aB.elim));simp only[AZ,De]at ho;obtain⟨rfl,_⟩:=ho;exact⟨by rw[hh];trivial,by simp⟩
 case mrange s x =>
  unfold I2 at aB ho ⊢;cases hx:ar x<;>simp only[hx,Req.fail]at aB ho ⊢<;>(try (exact aB.elim))
  case nilmp =>simp only[AZ,De]at ho;obtain⟨rfl,_⟩:=ho;exact⟨aB,by simp⟩
  case mp id ep =>cases hh:h id<;>simp only[hh,Req.fail]at aB ho ⊢<;>(try (exact aB.elim));simp only[AZ,De]at ho;obtain⟨rfl,_⟩:=ho;exact⟨aB.2,by simp⟩
 case mentry x =>
  exfalso;revert ho;unfold He;repeat' split
  all_goals (intro ho;cases ho;done)
 case bin op bools x y =>
  exfalso;revert ho;unfold CS;repeat' split
  all_goals first
   |(intro ho;cases ho;done)
   |(rename_i k a _ b _;cases op<;>(intro ho;cases ho;done))
   |(rename_i k a _ b _ _;cases op<;>(intro ho;cases ho;done))
   |(cases op<;>(intro ho;cases ho;done))
 case pick c x y =>
  exfalso;revert ho;unfold Cy;repeat' split
  all_goals (intro ho;cases ho;done)
 case load agg sz x =>
  exfalso;revert ho;unfold CU;repeat' split
  all_goals (intro ho;cases ho;done)
 all_goals (exfalso;revert ho;repeat' split)<;>(intro ho;cases ho;done)
variable {E:Nat->Aa}{P:Program}{ρ:Option Nat}
theorem VP{o:Op}{a:Al}(h:Fw P o a=true):∀c,o≠.defer c:=by rintro c rfl;cases a<;>simp[Fw]at h
def putT(t:List Aa)(d:Option Tmp)(v:Aa):List Aa:=match d with
 |some d=>t.set d v
 |none=>t
theorem Kk{g:Gh}{w:World}{t:List Aa}{a:Act}(ht:RVs g w t a.tmps.toList)(d:Option Tmp){x:Aa}{v:Value}(hv:RV g w x v):RVs g w (putT t d x) (a.put d v).tmps.toList:=by
 cases d with
 |none=>exact ht
 |some d =>simp only[putT,Act.put,Array.toList_setIfInBounds];exact ht.set d hv
theorem Kl(a:Act)(d:Option Tmp)(v:Value):(a.put d v).defers=a.defers:=by cases d<;>rfl
def BV:Aa->Bool->Option Bool
 |.bool b,want=>some (if want then b else !b)
 |.cnd c (.bool b),want=>some (c&&if want then b else !b)
 |.cnd false _,_=>some false
 |_,_=>none
def QG:Value->Option Bool
 |.bool b=>some b
 |_=>none
theorem VQ{g:Gh}{w:World}{x:Aa}{v:Value}{want c:Bool}(hx:RV g w x v)(hg:BV x want=some c):(QG v==some want)=c:=by
 cases x with
 |bool b =>simp only[BV,AZ]at hg;subst hg;rw[DO hx];cases want<;>cases b<;>rfl
 |cnd d y =>
  cases y with
  |bool b =>
   simp only[BV,AZ]at hg;subst hg;cases hx with
   |cnd _ _ _ h1 h0 =>
    cases d with
    |true =>rw[DO (h1 rfl)];cases want<;>cases b<;>rfl
    |false =>rw[h0 rfl];cases want<;>cases b<;>rfl
  |_ =>
   cases d with
   |true=>cases hg
   |false =>
    cases hg;cases hx with
    |cnd _ _ _ h1 h0=>rw[h0 rfl];cases want<;>rfl
 |_=>cases hg
structure As.Ok(P:Program)(ops:Array Oper)(o:Oper)(ao:As):Prop where
 dst:o.dst=ao.dst
 grd:match ao.guard with | none=>o.guard=none | some (tg,want)=>∃j,o.guard=some (j,want)/\(ops[j]?).bind (·.dst)=some tg
def argU(E:Nat->Aa)(t:List Aa):Ac->Aa
 |.t n=>unv (t.getD n .top)
 |y=>Ae E t y
def C8:List Ac->List Tmp
 |[]=>[]
 |.t n :: r=>n :: C8 r
 |_ :: r=>C8 r
theorem NJ{l:List Ac}{n:Nat}(h:Ac.t n∈l):n∈C8 l:=by
 induction l with
 |nil=>cases h
 |cons x r ih =>
  cases h with
  |head=>simp[C8]
  |tail _ h=>cases x<;>simp[C8,ih h]
def BW(c:Bool)(t:List Aa):List Ac->Prop
 |[]=>True
 |.t n :: r=>unc c (t.getD n .top)/\BW c t r
 |_ :: r=>BW c t r
def Al.unAll(E:Nat->Aa)(c:Bool)(t:List Aa):Al->Prop
 |.pick x y z=>BW c t [x]/\(match argU E t x with | .bool b=>BW (c&&b) t [y]/\BW (c&&!b) t [z] | _=>False)
 |o=>BW c t o.args
theorem VS(b:Bool)(X Y:Aa):(Cy b X Y).v=bif b then unv X else unv Y:=by
 unfold Cy;split
 ·rename_i p q h1 h2;cases b<;>simp[Req.when,h1,h2]
 ·rename_i k p k' q h1 h2;split
  ·rename_i e;subst e;cases b<;>simp[Req.when,h1,h2]
  ·cases b<;>simp[Req.when,h1,h2]
 ·cases b<;>simp[Req.when]
theorem QH(b:Bool)(X Y:Aa):(Cy b X Y).out=none:=by unfold Cy;split<;>(try split)<;>rfl
theorem qzwb{c:Bool}{t:List Aa}{l:List Ac}(h:BW c t l){n:Nat}(hn:Ac.t n∈l):unc c (t.getD n .top):=by
 induction l with
 |nil=>cases hn
 |cons x r ih =>
  cases hn with
  |head=>exact h.1
  |tail _ hn=>cases x<;>first|exact ih h.2 hn|exact ih h hn
def only(tm:List Nat)(t:List Aa):List Aa:=t.zipIdx.map fun x=>if x.2∈tm then unv x.1 else .top
theorem qzyb(tm:List Nat)(t:List Aa)(n:Nat)(hn:n∈tm):(only tm t).getD n .top=unv (t.getD n .top):=by
 simp only[only,List.getD,Gf,List.getElem?_zipIdx];cases h:t[n]? with
 |none=>rfl
 |some x=>simp[hn]
theorem qz3a{g:Gh}{w:World}{t:List Aa}{a:List Value}{c:Bool}(ht:RVs g w t a)(hc:c=true){l:List Ac}(hu:BW c t l)(tm:List Nat)(m9:∀n∈tm,Ac.t n∈l):RVs g w (only tm t) a:=by
 refine⟨by simp[only,ht.1],fun i x v hx hv=>?_⟩;simp only[only,Gf,List.getElem?_zipIdx,Option.map_map]at hx;cases h:t[i]? with
 |none=>simp[h]at hx
 |some y =>
  simp only[h,Ej,Function.comp,Dj,AZ]at hx;subst hx;split
  ·rename_i hi;have gD:=qzwb hu (m9 i hi);have e:t.getD i .top=y:=by simp[List.getD,h]
   rw[e]at gD;exact DP (ht.2 i y v h hv) gD hc
  ·exact .top v
theorem Km{l:List Ac}{n:Nat}(h:n∈C8 l):Ac.t n∈l:=by
 induction l with
 |nil=>cases h
 |cons x r ih =>
  cases x with
  |t m =>
   simp only[C8,AM]at h;rcases h with rfl|h
   ·simp
   ·exact Bi _ (ih h)
  |c v=>exact Bi _ (ih h)
  |g i=>exact Bi _ (ih h)
def QI(E:Nat->Aa)(ρ:Option Nat)(P:Program)(ops:Array Oper)(o:Oper)(t0:List Aa)(h0:Ax)(tm:List Tmp)(rd:List Nat)(v:Aa)(out:Option (Nat×Ai)):Prop :=
 ∀(g:Gh) (a:Act) (w:World) (S:Ay),SR E g S a w->(∀x∈tm,S.t.getD x .top=t0.getD x .top)->(∀j∈rd,S.h j=h0 j) -> ∀(K:Act->World->Prop) (Q:Exit->Act->World->Prop),(∀g' a' w',SR E g' ⟨putT S.t o.dst v,putH S.h out,S.ds⟩ a' w'->Stp g S.h w g' (putH S.h out) w'->K a' w') ->
  if Region.wanted o (yielded ops a.tmps) then o.wpIn (FW ρ) 0 P a w K Q else(∀f,o.about P w a.eval=some f->(FW ρ).fn f)/\K (a.put o.dst undef) w
theorem VT{S:Ay}{g g':Gh}{w w':World}{out:Option (Nat×Ai)}(hs:∀D∈S.ds,S.h D.1=.dfr D.2)(hout:∀i ob,out=some (i,ob)->(S.h i).plain):∀D∈S.ds,putH S.h out D.1=.dfr D.2:=by
 intro D hD;cases out with
 |none=>exact hs D hD
 |some x =>
  obtain⟨i,ob⟩:=x;have hp:=hout i ob rfl;have aL:D.1≠i:=fun e=>by rw[<-e,hs D hD]at hp;exact hp
  simp only[putH,hset,Ak aL];exact hs D hD
theorem NK{o:Oper}{g:Gh}{a:Act}{w:World}{S:Ay}{r:Req}(hs:SR E g S a w)(hd:∀c,o.op≠.defer c)(hr:Ran E P (execOp a.eval o) g S.h w r)(hout:∀i ob,r.out=some (i,ob)->(S.h i).plain){K:Act->World->Prop} {Q:Exit->Act->World->Prop} {y:Aa} (hy:∀g' w' v,RV g' w' r.v v->RV g' w' y v)(hK:∀g' a' w',SR E g' ⟨putT S.t o.dst y,putH S.h r.out,S.ds⟩ a' w'->Stp g S.h w g' (putH S.h r.out) w'->K a' w'):o.wpIn (FW ρ) 0 P a w K Q:=by
 obtain⟨n,v,w',g',aO,hn,hv,H',st,_⟩:=hr;refine⟨fun f _=>trivial,?_⟩;rw[Oper.semAt_eq _ _ _ hd,aO];have key:K (a.put o.dst v) w':=by refine hK g' _ w' ⟨H',Kk (hs.tm.mono st.le) o.dst (hy _ _ _ hv),?_,VT (g:=g) (g':=g') (w:=w) (w':=w') hs.dk hout,hs.dn⟩ st;rw[Kl,hs.df];refine Iv fun D hD=>?_;have h1:=hs.hr.ep D.1;have h2:=H'.ep D.1;have h3:=VT (g:=g) (g':=g') (w:=w) (w':=w') hs.dk hout D hD;rw[hs.dk D hD]at h1;rw[h3]at h2;rw[(st.le.same D.1 (h2.trans h1.symm)).1]
 rcases hn with rfl|⟨rfl,rfl⟩
 ·exact key
 ·exact key
theorem QJ{ops:Array Oper}{o:Oper}(h:o.guard=none)(f:Nat->Option Bool):Region.wanted o f=true:=by simp[Region.wanted,h]
theorem qzzq{t t0:List Aa}{l:List Ac}(h:∀x∈C8 l,t.getD x .top=t0.getD x .top):∀y∈l,Ae E t y=Ae E t0 y:=by
 intro y hy;cases y with
 |t n=>exact h n (NJ hy)
 |c v=>rfl
 |g i=>rfl
theorem qztz{ops:Array Oper}{o:Oper}{ao:As}{t0:List Aa}{h0:Ax}(hc:Fw P o.op ao.op=true)(hk:As.Ok P ops o ao)(hg:ao.guard=none)(aB:(ao.op.req (Ae E t0) h0).ok) :
  QI E ρ P ops o t0 h0 (C8 ao.op.args) (ao.op.req (Ae E t0) h0).rd (ao.op.req (Ae E t0) h0).v (ao.op.req (Ae E t0) h0).out:=by
 intro g a w S hs ht hh K Q hK;have fh:o.guard=none:=by have:=hk.grd;rw[hg]at this;exact this
 rw[Aq (QJ (ops:=ops) fh _)];have e1:ao.op.req (Ae E S.t) S.h=ao.op.req (Ae E t0) S.h:=Kd ao.op (qzzq ht);have e2:ao.op.req (Ae E t0) S.h=ao.op.req (Ae E t0) h0:=Kf ao.op aB hh;have e:=e1.trans e2;have hr:=VN (E:=E) (P:=P) (t:=S.t) hs.hr hs.tm hc (by rw[e];exact aB);rw[e]at hr;refine NK hs (VP hc) hr (fun i ob ho=>?_) (fun _ _ _ h=>h) hK;obtain⟨hp,hm⟩:=IF ao.op aB ho;rw[hh i hm];exact hp
theorem VU{ops:Array Oper}{o:Oper}{ao:As}{t0:List Aa}{h0:Ax}{tg:Tmp}{want c:Bool}(hc:Fw P o.op ao.op=true)(hk:As.Ok P ops o ao)(hg:ao.guard=some (tg,want))(aX:BV (t0.getD tg .top) want=some c) (aB:c=true->ao.op.unAll E c t0/\(ao.op.req (argU E t0) h0).ok) :
  QI E ρ P ops o t0 h0 (tg :: C8 ao.op.args) (ao.op.req (argU E t0) h0).rd (.cnd c (ao.op.req (argU E t0) h0).v) (bif c then(ao.op.req (argU E t0) h0).out else none):=by
 intro g a w S hs ht hh K Q hK;have fh:=hk.grd;rw[hg]at fh;obtain⟨j,jP,ge⟩:=fh
 have cj:Region.wanted o (yielded ops a.tmps)=c:=by
  have h1:=VQ (hs.tm.getD tg) (by rw[ht tg (Be ..)];exact aX);rw[<-h1]
  have hy:yielded ops a.tmps j=QG (a.tmps.getD tg undef):=by
   simp only[yielded,ge,Option.bind_some];by_cases hl:tg<a.tmps.size
   ·have e:a.tmps.getD tg undef=a.tmps[tg]:=(by simp[Array.getD,hl]);rw[E7 hl,e];cases a.tmps[tg]<;>rfl
   ·have e:a.tmps.getD tg undef=undef:=(by simp[Array.getD,hl]);rw[Array.getElem?_eq_none (Nat.le_of_not_lt hl),e];rfl
  simp only[Region.wanted,jP,hy]
 cases c with
 |false =>rw[cj];simp only[Iq,Df];refine⟨fun f _=>trivial,hK g _ w ⟨hs.hr,Kk hs.tm o.dst (.cnd _ _ _ (fun e=>by cases e) (fun _=>rfl)),by rw[Kl];exact hs.df,hs.dk,hs.dn⟩ (.refl _ _ _)⟩
 |true =>
  rw[cj];simp only[BK];obtain⟨hu,aB⟩:=aB rfl;have gE:∀x∈C8 ao.op.args,S.t.getD x .top=t0.getD x .top:=fun x hx=>ht x (Bi _ hx)
  have agree:∀l:List Ac,(∀x∈C8 l,S.t.getD x .top=t0.getD x .top)->∀d,BW d t0 l->BW d S.t l:=by
   intro l;induction l with
   |nil=>intro _ _ _;trivial
   |cons y r ih =>
    intro hl d hu;cases y with
    |t n=>exact⟨by rw[hl n (by simp[C8])];exact hu.1,ih (fun x hx=>hl x (by simp[C8,hx])) d hu.2⟩
    |c v=>exact ih hl d hu
    |g i=>exact ih hl d hu
  have hr:Ran E P (execOp a.eval o) g S.h w (ao.op.req (argU E t0) h0):=by
   by_cases il:∃x y z,ao.op=.pick x y z
   ·obtain⟨x,y,z,aK⟩:=il;rw[aK]at hu hc gE ⊢;simp only[Al.unAll]at hu;obtain⟨mA,gF⟩:=hu
    have known:∀(d:Bool) (yy:Ac) (oo:Operand),d=true->(∀n∈C8 [yy],S.t.getD n .top=t0.getD n .top)->BW d t0 [yy]->A8 oo yy=true->RV g w (argU E t0 yy) (a.eval oo):=by
     intro d yy oo hd hl ji bV;have h1:=AP hs.hr hs.tm bV;cases yy with
     |t n =>have e:S.t.getD n .top=t0.getD n .top:=hl n (by simp[C8]);simp only[Ae]at h1;rw[e]at h1;exact DP h1 (show unc d (t0.getD n .top) from ji.1) hd
     |c v=>exact h1
     |g i=>exact h1
    have mB:∃c0 x0 y0,o.op=.pick c0 x0 y0/\A8 c0 x=true/\A8 x0 y=true/\A8 y0 z=true:=by
     generalize o.op=op at hc;cases op<;>simp only[Fw]at hc<;>(try (cases hc;done))
     case pick c0 x0 y0 =>simp only[AE]at hc;exact⟨_,_,_,rfl,hc.1.1,hc.1.2,hc.2⟩
    obtain⟨c0,x0,y0,ho,mC,mD,mF⟩:=mB;have lu:=known true x c0 rfl (fun n hn=>gE n (by have:=Km hn;exact NJ (by simp only[Al.args,AM,Qw,Q0]at this ⊢;exact .inl this))) mA mC;simp only[Al.req];split at gF
    ·rename_i b hb;rw[hb]at lu ⊢;have e:=DO lu;have aO:(execOp a.eval o).run P w=.ok (.value (if b=true then a.eval x0 else a.eval y0)) w:=by simp[execOp,ho,e,asBool]
     have hv:RV g w (Cy b (argU E t0 y) (argU E t0 z)).v (if b=true then a.eval x0 else a.eval y0):=by
      rw[VS];have uu:∀yy:Ac,∀vv,unc true (argU E t0 yy)->RV g w (argU E t0 yy) vv->RV g w (unv (argU E t0 yy)) vv:=fun yy vv h1 h2=>DP h2 h1 rfl;have jQ:(Cy b (argU E t0 y) (argU E t0 z)).ok:=by have:=aB;rw[aK]at this;simp only[Al.req,hb]at this;exact this
      have ji:unc b (argU E t0 y)/\unc (!b) (argU E t0 z):=by
       revert jQ;unfold Cy;split
       ·exact id
       ·split<;>exact id
       ·exact id
      cases b with
      |true =>exact uu y _ ji.1 (known true y x0 rfl (fun n hn=>gE n (by have:=Km hn;exact NJ (by simp only[Al.args,AM,Qw,Q0]at this ⊢;exact .inr (.inl this)))) (by simpa using gF.1) mD)
      |false =>exact uu z _ ji.2 (known true z y0 rfl (fun n hn=>gE n (by have:=Km hn;exact NJ (by simp only[Al.args,AM,Qw,Q0]at this ⊢;exact .inr (.inr this)))) (by simpa using gF.2) mF)
     exact⟨_,_,w,g,aO,.inl rfl,hv,by rw[QH];exact hs.hr,by rw[QH];exact .refl _ _ _,fun _=>⟨rfl,rfl⟩⟩
    ·exact gF.elim
   ·have jR:BW true t0 ao.op.args:=by
     cases aK:ao.op<;>rw[aK]at hu<;>first|exact hu|exact absurd ⟨_,_,_,aK⟩ il
    have gD:BW true S.t ao.op.args:=agree _ gE _ jR;have bt:=qz3a hs.tm rfl gD (C8 ao.op.args) (fun n hn=>Km hn)
    have e0:ao.op.req (Ae E (only (C8 ao.op.args) S.t)) S.h=ao.op.req (argU E t0) S.h:=by
     refine Kd ao.op fun y hy=>?_;cases y with
     |t n=>simp only[Ae,argU];rw[qzyb _ _ _ (NJ hy),gE n (NJ hy)]
     |c v=>rfl
     |g i=>rfl
    have e2:ao.op.req (argU E t0) S.h=ao.op.req (argU E t0) h0:=Kf ao.op aB hh;have e:=e0.trans e2;have hr:=VN (E:=E) (P:=P) hs.hr bt hc (by rw[e];exact aB);rw[e]at hr;exact hr
  exact NK hs (VP hc) hr (fun i ob ho=>by obtain⟨hp,hm⟩:=IF ao.op aB ho;rw[hh i hm];exact hp) (fun _ _ _ h=>.cnd _ _ _ (fun _=>h) (fun e=>by cases e)) hK
theorem qzts{ops:Array Oper}{o:Oper}{ao:As}{t0:List Aa}{h0:Ax}{tg:Tmp}{want c:Bool}(hc:Fw P o.op ao.op=true)(hk:As.Ok P ops o ao)(hg:ao.guard=some (tg,want))(aX:BV (t0.getD tg .top) want=some c) (bQ:∀i ob,(ao.op.req (argU E t0) h0).out=some (i,ob)->ob=h0 i) (aB:c=true->ao.op.unAll E c t0/\(ao.op.req (argU E t0) h0).ok) :
  QI E ρ P ops o t0 h0 (tg :: C8 ao.op.args) (ao.op.req (argU E t0) h0).rd (.cnd c (ao.op.req (argU E t0) h0).v) none:=by
 intro g a w S hs ht hh K Q hK
 have e3:putH S.h (bif c then(ao.op.req (argU E t0) h0).out else none)=S.h:=by
  cases c with
  |false=>rfl
  |true =>
   show putH S.h (ao.op.req (argU E t0) h0).out=S.h;cases ho:(ao.op.req (argU E t0) h0).out with
   |none=>rfl
   |some q =>
    obtain⟨i,ob⟩:=q;have e1:=bQ i ob ho;have e2:=hh i (IF ao.op (aB rfl).2 ho).2;funext j;show hset S.h i ob j=S.h j;simp only[hset];split
    ·rename_i ej;rw[ej,e1,e2]
    ·rfl
 exact VU hc hk hg aX aB g a w S hs ht hh K Q (by rw[e3];exact hK)
def D1(t:List Aa):List Tmp->List Aa->List Aa
 |p :: ps,v :: vs=>D1 (t.set p v) ps vs
 |_,_=>t
section
variable {E:Nat->Aa}{P:Program}{ρ:Option Nat}
theorem HR.loopAt{g:Gh}{h:Ax}{w:World}{id ep:Nat}{st:LoopState}{pd:Option Code}{ts:List Aa}{ps:Array Tmp}{asg body:Code}{D eD:Nat}(H:HR E g h w)(hid:h id=.loop ep st pd ts ps asg body D eD) :
  ∃r:Loop,w.heap[g.blk id]?=some (.loop r)/\r.state=st/\r.pending=pd/\r.params=ps/\r.assign=asg/\r.body=body/\RVs g w ts r.tmps.toList /\
   ∀st' pd',HR E g (hset h id (.loop ep st' pd' ts ps asg body D eD)) (w.putObj (g.blk id) (.loop { r with state:=st',pending:=pd' })) /\
    Stp g h w g (hset h id (.loop ep st' pd' ts ps asg body D eD)) (w.putObj (g.blk id) (.loop { r with state:=st',pending:=pd' })):=by
 have hO:=H.obj id;rw[hid]at hO;obtain⟨hD,tmps,f,bD,eD',hh,hr⟩:=hO;refine⟨_,hh,rfl,rfl,rfl,rfl,rfl,hr,fun st' pd'=>?_⟩;have aP:(h id).owned=true:=by rw[hid];rfl
 have hlt:g.blk id<w.heap.size:=(Ef.1 hh).1;have aD:GLe g w g (w.putObj (g.blk id) (.loop { state:=st',pending:=pd',fn:=f,tmps,params:=ps,assign:=asg,body,defers:=bD })):=by refine⟨fun b hb=>⟨hb,?_⟩,fun _=>AD _,fun _ _=>⟨rfl,rfl,rfl,rfl⟩⟩;exact World.putObj_heap_other (fun e=>H.sep id aP (e▸hb))
 refine HR.upd (g':=g) H aD (fun _ _=>rfl) (by rw[H.ep id,hid];rfl) (fun b hb hn=>World.putObj_heap_other (hn aP)) (by simp) ?_ (fun _=>.inl ⟨aP,rfl⟩) (fun _=>H.sep id aP) (fun b hb=>.inl hb) (fun b hb=>by simpa using H.fzb b hb) rfl rfl rfl;exact⟨hD,tmps,f,bD,eD',World.putObj_heap_same hlt,hr.mono aD⟩
def wzgj(id ep:Nat)(ts:List Aa)(ps:Array Tmp)(asg body:Code)(D eD:Nat)(K:Aa->Ax->Prop):Exit->Ay->Prop
 |.normal,S=>(∃pd,S.h id=.loop ep .busy pd ts ps asg body D eD)/\K (.bool true) (hset S.h id (.loop ep .ready none ts ps asg body D eD))
 |.ret,S=>(∃pd,S.h id=.loop ep .busy pd ts ps asg body D eD)/\K (.bool false) (hset S.h id (.loop ep .done (some .ret) ts ps asg body D eD))
 |.exit i,S=>(∃pd,S.h id=.loop ep .busy pd ts ps asg body D eD)/\K (.bool false) (hset S.h id (.loop ep .done (some (.exit i)) ts ps asg body D eD))
 |_,_=>False
def BN(E:Nat->Aa)(P:Program)(id ep:Nat)(args:List Aa)(h:Ax)(K:Aa->Ax->Prop):Prop := ∃ts ps asg body D eD,h id=.loop ep .ready none ts ps asg body D eD/\args.length=ps.size /\ ∀ρ,AWp E ρ P asg (fun e S1=>e=.normal/\S1.h id=.loop ep .ready none ts ps asg body D eD/\AWp E ρ P body (wzgj id ep ts ps asg body D eD K) ⟨S1.t,hset S1.h id (.loop ep .busy none ts ps asg body D eD),S1.ds⟩) ⟨D1 ts ps.toList args,h,[]⟩
theorem VV{g:Gh}{w:World}:∀{ps:List Tmp} {args:List Aa} {vs:List Value} {ts:List Aa} {arr:Array Value},RVs g w ts arr.toList->RVs g w args vs->RVs g w (D1 ts ps args) ((ps.zip vs).foldl (fun(tmps:Array Value) (x:Tmp×Value)=>tmps.setIfInBounds x.1 x.2) arr).toList
 |[],args,vs,ts,arr,h,_=>by simpa [D1] using h
 |p :: ps,[],vs,ts,arr,h,hv=>by
  have:vs=[]:=by have:=hv.1;simpa using this
  subst this;simpa [D1] using h
 |p :: ps,x :: args,[],ts,arr,h,hv=>by have:=hv.1;simp at this
 |p :: ps,x :: args,v :: vs,ts,arr,h,hv=>by
  have h1:RVs g w (ts.set p x) (arr.setIfInBounds p v).toList:=by rw[Array.toList_setIfInBounds];exact h.set p (hv.2 0 x v rfl rfl)
  have h2:RVs g w args vs:=⟨by have:=hv.1;simpa using this,fun i y u hy hu=>hv.2 (i+1) y u (by simpa using hy) (by simpa using hu)⟩;have:=VV (ps:=ps) h1 h2;simpa [D1] using this
theorem qz0l(ps:Array Tmp)(vs:List Value)(arr:Array Value):(ps.zip vs.toArray).foldl (fun(tmps:Array Value) (x:Tmp×Value)=>tmps.setIfInBounds x.1 x.2) arr=(ps.toList.zip vs).foldl (fun(tmps:Array Value) (x:Tmp×Value)=>tmps.setIfInBounds x.1 x.2) arr:=by rw[<-Array.foldl_toList];simp
theorem Ko{g g':Gh}{h h':Ax}{w w':World}{i:Nat}(H:HR E g h w)(H':HR E g' h' w')(aD:GLe g w g' w')(he:(h' i).ep=(h i).ep):g'.blk i=g.blk i := (aD.same i (by rw[H'.ep,H.ep,he])).1
theorem qzu7{g:Gh}{h:Ax}{w:World}{id ep:Nat}{args:List Aa}{vs:List Value}{K:Aa->Ax->Prop}(R:BN E P id ep args h K)(H:HR E g h w)(hv:RVs g w args vs) :
  ∃f tmps asg body,(Instr.yield (g.blk id) vs.toArray).run P w=.ok (.round (g.blk id) f tmps asg body) w /\
   RoundIn (FW ρ) 0 P (g.blk id) f tmps asg body w (fun e w'=>∃g' h' r v,K r h'/\e=.returned v/\RV g' w' r v/\HR E g' h' w'/\Stp g h w g' h' w'):=by
 obtain⟨ts,ps,asg,body,D,eD,hid,aF,hA⟩:=R;obtain⟨r,hr,e1,e2,e3,e4,e5,mG,_⟩:=H.loopAt hid;subst e3 e4 e5;have aJ:vs.toArray.size=r.params.size:=by simp[<-aF,hv.1]
 refine⟨_,_,_,_,run_yield hr aJ,roundIn_of_wpIn (wzf1 ρ _) ?_⟩;rw[wzgl];have fj:SR E g ⟨D1 ts r.params.toList args,h,[]⟩ { tmps:=(r.params.zip vs.toArray).foldl (fun tmps (t,a)=>tmps.setIfInBounds t a) r.tmps,defers:=[] } w:=by refine⟨H,?_,rfl,(fun D hD=>by cases hD),List.nodup_nil⟩;have:=VV (ps:=r.params.toList) mG hv;rw[<-qz0l]at this;exact this
 refine wpIn_mono (hA (some (g.blk id)) g _ w fj) ?_;rintro e a1 w1 ⟨g1,S1,⟨rfl,gf,hB⟩,dh,st1⟩;have cK:g1.blk id=g.blk id:=Ko H dh.hr st1.le (by rw[gf,hid]);obtain⟨r1,gG,f1,f2,f3,f4,f5,mH,put1⟩:=dh.hr.loopAt gf;obtain⟨H2,st2⟩:=put1 .busy none;rw[cK]at gG H2 st2;have mI:=run_beginRound (P:=P) gG f1;have er:({ r1 with state:=.busy,pending:=none }:Loop)={ r1 with state:=.busy }:=by rw[<-f2]
 rw[er]at H2 st2;refine⟨_,mI,?_⟩
 have cq:SR E g1 ⟨S1.t,hset S1.h id (.loop ep .busy none ts r.params r.assign r.body D eD),S1.ds⟩ a1 (w1.putObj (g.blk id) (.loop { r1 with state:=.busy })):=by
  refine⟨H2,dh.tm.mono st2.le,dh.df,fun D hD=>?_,dh.dn⟩;have hd:=dh.dk D hD;have aL:D.1≠id:=fun e=>by rw[e,gf]at hd;cases hd
  show(if D.1=id then _ else S1.h D.1)=_;rw[Ak aL];exact hd
 refine wpIn_mono (hB g1 a1 _ cq) ?_;rintro e a3 w3 ⟨g3,S3,hq,jj,st3⟩
 have fin:∀(jump:Option Code) (st':LoopState),(∃pd,S3.h id=.loop ep .busy pd ts r.params r.assign r.body D eD)->(st'=if jump.isNone then .ready else .done)->K (.bool jump.isNone) (hset S3.h id (.loop ep st' jump ts r.params r.assign r.body D eD)) -> ∃v w',(Instr.endRound (g.blk id) jump).run P w3=.ok v w'/\(∃g' h' r' v',K r' h'/\Ending.returned v=.returned v'/\RV g' w' r' v'/\HR E g' h' w'/\Stp g h w g' h' w'):=by
  rintro jump st' ⟨pd,io⟩ rfl hK;have mJ:g3.blk id=g.blk id:=by rw[<-cK];exact Ko H2 jj.hr st3.le (by rw[io];simp[hset,Ai.ep])
  obtain⟨r3,ip,_,_,_,_,_,_,put3⟩:=jj.hr.loopAt io;obtain⟨H4,st4⟩:=put3 (if jump.isNone then .ready else .done) jump;rw[mJ]at ip H4 st4;exact⟨_,_,run_endRound jump ip,g3,_,_,_,hK,rfl,.bool _,H4,st1.trans (st2.trans (st3.trans st4))⟩
 cases e with
 |normal=>exact fin none .ready hq.1 rfl hq.2
 |ret=>exact fin (some .ret) .done hq.1 rfl hq.2
 |exit i=>exact fin (some (.exit i)) .done hq.1 rfl hq.2
 |goto t=>exact hq.elim
 |panic ch=>exact hq.elim
 |outgrown=>exact hq.elim
end
end Go.Am

