/- Part A2: an abstract machine proved sound over the calculus of the guide. No condition. -/
import Derived.Test.YtibbibelkkgfpaaGreatDoorA1
import Derived.MapKept
import Derived.Maps.RangeRun
import Derived.WideKeyRuns
import Derived.Laws.BytesString
import Derived.Laws.IdiomStrings
import Derived.Laws.MakeOwn
import Derived.Laws.CopyRow
import Derived.Lib.SliceRun
set_option linter.unusedSimpArgs false
set_option linter.unusedVariables false
namespace Go.Am
theorem Tm(off:Nat):∀(vs:List Value) (k:Nat) (cs:Array Value),off+k+vs.length<=cs.size -> ((vs.zipIdx k).foldl (fun(cs:Array Value) (x:Value×Nat)=>cs.setIfInBounds (off+x.2) x.1) cs).toList=cs.toList.take (off+k)++vs++cs.toList.drop (off+k+vs.length)
 |[],k,cs,h=>by simp
 |v :: vs,k,cs,h=>by
  simp only[Bl]at h;rw[List.zipIdx_cons,List.foldl_cons,Tm off vs (k+1) _ (by simp;omega)];simp only[Array.toList_setIfInBounds,Bl];have e1:(cs.toList.set (off+k) v).take (off+(k+1))=cs.toList.take (off+k)++[v]:=by rw[show off+(k+1)=(off+k)+1 from by omega,List.take_succ_eq_append_getElem (by simp;omega)];simp[List.take_set_of_le]
  have e2:(cs.toList.set (off+k) v).drop (off+(k+1)+vs.length)=cs.toList.drop (off+k+(vs.length+1)):=by rw[List.drop_set_of_lt (by omega)];congr 1;omega
  rw[e1,e2];simp
section
variable {E:Nat->Aa}{P:Program}{g:Gh}{h:Aq}{w:World}{t:List Aa}{a:Act}
theorem Lt{place:Nat->Option (Nat×Nat)}{ρ:Operand->Value}{arg:Ae->Aa}(hr:∀x y,A6 x y=true->RV g w (arg y) (ρ x)):∀{ps:List (Nat×Operand)} {parts:List (Nat×Nat×Ae)} {l l':List Aa} {cs:Array Value},
  HH place ps parts=true->RVs g w l cs.toList->Ds arg l parts=some l'->∃cs':Array Value,Instr.fill place cs (ps.map fun x=>(x.1,ρ x.2))=some cs'/\RVs g w l' cs'.toList
 |[],[],l,l',cs,_,bn,hf=>by simp only[Ds,Ba]at hf;subst hf;exact⟨cs,rfl,bn⟩
 |(i,x) :: ps,(off,sz,y) :: parts,l,l',cs,hp,bn,hf=>by
  simp only[HH,AH]at hp;obtain⟨⟨bZ,bS⟩,bD⟩:=hp;simp only[Ds]at hf;cases hq:Cs (arg y) with
  |none=>simp[hq]at hf
  |some p =>
   simp only[hq]at hf;split at hf
   ·rename_i aY;obtain⟨hl,aX⟩:=aY;have hv:=Oj (hr x y bS) hq;have iL:(ρ x).cells.toList.length=sz:=by rw[hv.1,hl]
    have pn:(ρ x).cells.size=sz:=(by simpa using iL);have cn:=bn.1;cases dv:place i with
    |none=>simp[dv]at bZ
    |some os =>
     obtain⟨o,s⟩:=os;simp only[dv,AH,Bu]at bZ;obtain⟨rfl,rfl⟩:=bZ;have kv:RVs g w (lay l o p) ((ρ x).cells.zipIdx.foldl (fun(cs:Array Value) (x:Value×Nat)=>cs.setIfInBounds (o+x.2) x.1) cs).toList:=by have e:=Tm o (ρ x).cells.toList 0 cs (by simp at cn iL |-;omega);have e':(ρ x).cells.zipIdx.foldl (fun(cs:Array Value) (x:Value×Nat)=>cs.setIfInBounds (o+x.2) x.1) cs=((ρ x).cells.toList.zipIdx 0).foldl (fun(cs:Array Value) (x:Value×Nat)=>cs.setIfInBounds (o+x.2) x.1) cs:=(by rw[<-Array.foldl_toList];simp);rw[e',e];exact bn.lay hv o (by omega)
     obtain⟨cs'',h1,h2⟩:=Lt hr bD kv hf;refine⟨cs'',?_,h2⟩;simp only[NW,Instr.fill,dv];have hc:¬((ρ x).cells.size≠s\/o+(ρ x).cells.size>cs.size):=by simp at cn;omega
     simp only[ne_eq,gt_iff_lt,Li,CN]at hc |-;rw[Ag hc];exact h1
   ·cases hf
 |[],_ :: _,_,_,_,hp,_,_=>by cases hp
 |_ :: _,[],_,_,_,hp,_,_=>by cases hp
theorem Tn(w:World):∀{fs:List Field} {l:List (Nat×Nat)},Gx P fs=some l->(fs.mapM (fun f=>do pure (f.offset,<-sizeOf f.type):Field->Sem (Nat×Nat))).run P w=.ok l w
 |[],l,h=>by simp only[Gx,Ba]at h;subst h;simp
 |f :: fs,l,h=>by
  simp only[Gx]at h;split at h
  ·rename_i n l' hn dI;obtain rfl:=AJ h;have ih:=Tn w dI;simp only[List.mapM_cons,Sem.run_bind,D3 hn,Result.andThen_ok,Sem.run_pure,ih]
  ·cases h
theorem wzjw{ty:TypeId}{zero:List Aa}(hz:HG P ty zero=true)(w:World):∃z,(zeroValue ty).run P w=.ok z w/\CA z.cells.toList zero=true/\D2 P ty=some z.cells.toList:=by
 unfold HG at hz;cases hc:D2 P ty with
 |none=>simp[hc]at hz
 |some l =>
  simp only[hc]at hz;unfold D2 at hc;cases hi:P.info? ty with
  |none=>simp[hi]at hc
  |some i =>
   obtain⟨⟩:=i;rename_i zz _ _;cases zz with
   |none=>simp[hi]at hc
   |some z =>simp only[hi,Ba]at hc;subst hc;exact⟨z,by simp[zeroValue,typeInfo,hi],hz,rfl⟩
theorem qz7d{o:Oper}{ty:TypeId}{ps:Array (Nat×Operand)}{zero:List Aa}{parts:List (Nat×Nat×Ae)}(H:HR E g h w)(ht:RVs g w t a.tmps.toList)(ho:o.op=.build ty ps)(hb:Oh P ty zero ps.toList parts=true)(aB:((An.build zero parts).req (Ah E t) h).ok):Ran E P (execOp a.eval o) g h w ((An.build zero parts).req (Ah E t) h):=by
 simp only[An.req]at aB |-;cases hf:Ds (Ah E t) zero parts with
 |none=>simp only[hf,Req.fail]at aB
 |some l =>
  unfold Oh at hb;simp only[AH]at hb;obtain⟨hz,hb⟩:=hb;obtain⟨z,fc,dw,_⟩:=wzjw hz w;have cT:(ps.map fun x=>(x.1,a.eval x.2)).toList=ps.toList.map fun x=>(x.1,a.eval x.2):=by simp
  cases hu:P.underlying ty with
  |none=>simp[hu]at hb
  |some d =>
   simp only[hu]at hb;cases d<;>(try (cases hb;done))
   case struct fs =>
    simp only at hb;cases kw:Gx P fs.toList with
    |none=>simp[kw]at hb
    |some pl =>
     simp only[kw]at hb;obtain⟨cs',h1,h2⟩:=Lt (fun x y bS=>AV H ht bS) hb (DP dw) hf;refine Ran.same H (v:=.agg cs') ?_ (.agg _ _ (by simpa using h2.1) (fun i x v hx hv=>h2.2 i x v hx (by simpa using hv)));have ni:(fs.mapM (fun f=>do pure (f.offset,<-sizeOf f.type):Field->Sem (Nat×Nat))).run P w=.ok pl.toArray w:=by rw[Array.mapM_eq_mapM_toList];have e:=Tn w kw;simp only[Sem.run_map,e,Result.andThen_ok]
     have bZ:(fun i:Nat=>pl.toArray[i]?)=(fun i:Nat=>pl[i]?):=(by funext i;simp);simp only[execOp,ho,Sem.run_bind,Instr.build,fc,Result.andThen_ok,run_underlying hu,ni,cT,bZ,h1,Sem.run_pure]
   case array n e =>
    simp only at hb;cases hs:szOf P e with
    |none=>simp[hs]at hb
    |some st =>simp only[hs]at hb;obtain⟨cs',h1,h2⟩:=Lt (fun x y bS=>AV H ht bS) hb (DP dw) hf;refine Ran.same H (v:=.agg cs') ?_ (.agg _ _ (by simpa using h2.1) (fun i x v hx hv=>h2.2 i x v hx (by simpa using hv)));simp only[execOp,ho,Sem.run_bind,Instr.build,fc,Result.andThen_ok,run_underlying hu,D3 hs,cT,h1,Sem.run_pure]
theorem Ol{st:Nat}:∀(n:Nat) (l:List Aa) (k:Nat),l.length=n*st->k<n->(Gl st n l).getD k []=(l.drop (k*st)).take st
 |0,l,k,_,hk=>by omega
 |n+1,l,0,hl,_=>by simp[Gl]
 |n+1,l,k+1,hl,hk=>by
  have e:(n+1)*st=n*st+st:=BY n st;have dI:(l.drop st).length=n*st:=by simp;omega
  have:=Ol n (l.drop st) k dI (by omega);simp only[Gl,List.getD_cons_succ,this,NT];congr 2;have e:(k+1)*st=k*st+st:=BY k st;omega
theorem Lu{g':Gh}{s n b:Nat}(hb:g'.blk s=b)(h0:g'.bo s=0)(hc:g'.cp s=n){m:Nat}(hm:m<=n):Gv g' s 0 m (.slice (some ⟨b,0,none⟩) m n) := ⟨⟨b,0,none⟩,n,rfl,hm,.inr ⟨by rw[hb,h0];simp,by omega⟩⟩
theorem Tp{o:Oper}{ty:TypeId}{n st nn:Nat}{ps:Array (Nat×Operand)}{zero:List Aa}{parts:List (Nat×Nat×Ae)}(H:HR E g h w)(ht:RVs g w t a.tmps.toList)(ho:o.op=.buildSlice ty n ps)(hb:HJ P ty n st nn zero ps.toList parts=true){l:List Aa} (hf:Ds (Ah E t) zero parts=some l) (hl:l.length=nn*st) :
  n=nn/\∃(e:TypeId) (cs':Array Value),RVs g w l cs'.toList/\cs'.size=n*st/\(execOp a.eval o).run P w=.ok (.value (.slice (some ⟨w.heap.size,0,none⟩) n n)) { w with heap:=w.heap.push (.cells cs' e (0,0)) }:=by
  unfold HJ at hb;simp only[AH,Bu,CN]at hb;obtain⟨⟨rfl,nj⟩,hb⟩:=hb;refine⟨rfl,?_⟩;have cT:(ps.map fun x=>(x.1,a.eval x.2)).toList=ps.toList.map fun x=>(x.1,a.eval x.2):=by simp
  cases hu:P.underlying ty with
  |none=>simp[hu]at hb
  |some d =>
   simp only[hu]at hb;cases d<;>(try (cases hb;done))
   case slice e =>
    simp only[AH,Bu]at hb;obtain⟨⟨hs,hz⟩,hp⟩:=hb;cases dw:D2 P e with
    |none=>simp[dw]at hz
    |some z0 =>
     simp only[dw,AH,CN]at hz;obtain⟨hz,jR⟩:=hz
     have aF:∃zc:Array Value,(if n*st=0 then pure #[] else do pure (<-zeroValue e).cells:Sem (Array Value)).run P w=.ok zc w/\RVs g w zero ((Array.range (n*st)).map (zc[·%zc.size]!)).toList:=by
      unfold D2 at dw;cases hi:P.info? e with
      |none=>simp[hi]at dw
      |some i =>
       obtain⟨⟩:=i;rename_i zz _ _;cases zz with
       |none=>simp[hi]at dw
       |some z =>
        simp only[hi,Ba]at dw;subst dw;by_cases e0:n*st=0
        ·refine⟨#[],?_,?_⟩;·rw[Aj e0];simp
         ·rw[e0]at hz |-;simpa [HI] using DP (g:=g) (w:=w) hz
        ·refine⟨z.cells,?_,?_⟩;·rw[Ag e0];simp[zeroValue,typeInfo,hi]
         ·have:=DP (g:=g) (w:=w) hz
          have eq:((Array.range (n*st)).map (z.cells[·%z.cells.size]!)).toList=HI z.cells.toList (n*st):=by
           simp only[HI,Array.toList_map,Array.toList_range,Array.length_toList];apply H6;intro i hi;have dT:0<z.cells.size:=by simpa using jR
           have hlt:i%z.cells.size<z.cells.size:=Gj _ dT;simp[List.getD,hlt,getElem!_pos]
          rw[eq];exact this
     obtain⟨zc,bv,kx⟩:=aF;obtain⟨cs',me,fN⟩:=Lt (fun x y bS=>AV H ht bS) hp kx hf;have aE:cs'.size=n*st:=by have:=fN.1;simp at this;omega
     have aP:(execOp a.eval o).run P w=.ok (.value (.slice (some ⟨w.heap.size,0,none⟩) n n)) { w with heap:=w.heap.push (.cells cs' e (0,0)) }:=by
      have fm:¬(n*st>2 ^ 24):=(by omega);by_cases e0:n*st=0
      ·rw[Aj e0]at bv;simp only[Sem.run_pure,Result.ok.injEq,and_true]at bv;subst bv;simp only[execOp,ho,Sem.run_bind,Instr.buildSlice,run_underlying hu,Result.andThen_ok,D3 hs,Ag fm,Aj e0,cT,Sem.run_pure,me,newRow,run_newObj]
      ·rw[Ag e0]at bv;simp only[Sem.run_bind]at bv;generalize hq:(zeroValue e).run P w=q at bv;cases q with
       |halt x y=>simp at bv
       |ok zv w1 =>simp only[Result.andThen_ok,Sem.run_pure,Result.ok.injEq]at bv;obtain⟨rfl,rfl⟩:=bv;simp only[execOp,ho,Sem.run_bind,Instr.buildSlice,run_underlying hu,Result.andThen_ok,D3 hs,Ag fm,Ag e0,cT,Sem.run_pure,hq,me,newRow,run_newObj]
     exact⟨e,cs',fN,aE,aP⟩
theorem qz4n{o:Oper}{ty:TypeId}{n st nn s:Nat}{ps:Array (Nat×Operand)}{zero:List Aa}{parts:List (Nat×Nat×Ae)}(H:HR E g h w)(ht:RVs g w t a.tmps.toList)(ho:o.op=.buildSlice ty n ps)(hb:HJ P ty n st nn zero ps.toList parts=true)(aB:((An.bslice s st nn zero parts).req (Ah E t) h).ok):Ran E P (execOp a.eval o) g h w ((An.bslice s st nn zero parts).req (Ah E t) h):=by
 simp only[An.req]at aB |-;cases hf:Ds (Ah E t) zero parts with
 |none=>simp only[hf,Req.fail]at aB
 |some l =>
  simp only[hf]at aB |-;obtain⟨_,hl,aL,h1⟩:=aB;obtain⟨rfl,e,cs',fN,aE,aP⟩:=Tp H ht ho hb hf hl;refine Ran.new (ob:=.cells cs' e (0,0)) (bo:=0) (st:=st) (cp:=n) H ⟨w,rfl,rfl,rfl,rfl,A8 _,aP⟩ rfl ?_;intro g' w' aC aN cu bw b5 aM;refine⟨⟨bw,aL,by omega,cs',e,by rw[aN];exact aM,by rw[cu,b5,aE];omega,fun k hk=>?_⟩,fun he=>?_⟩
  ·have aS:=Ol n l k hl hk;have jS:k*st+st<=n*st:=by have:(k+1)*st<=n*st:=Bd _ (by omega);rw[BY]at this;exact this
   show((Gl st n l).getD k []).length=st/\∀(j:Nat) (x:Aa) (v:Value),((Gl st n l).getD k [])[j]?=some x->cs'[g'.bo s+k*st+j]?=some v->v.oneCell'=true/\RV g' w' x v;rw[aS];refine⟨by simp;omega,fun j x v hx hv=>?_⟩;rw[HC]at hx;split at hx
   ·rw[Gf]at hx;rw[cu,Bq]at hv;have cq:cs'.toList[k*st+j]?=some v:=by simpa using hv
    exact⟨Gz fN h1 v (AI cq),(fN.2 _ x v hx cq).mono aC⟩
   ·cases hx
  ·refine .vec _ _ _ _ _ rfl (by rw[he];exact A8 _) (fun _=>Lu aN cu b5 (A8 _))
end
section
variable {E:Nat->Aa}{P:Program}{g:Gh}{h:Aq}{w:World}{t:List Aa}{a:Act}
theorem HL{ft:TypeId}{agg:Bool}{sz:Nat}(hq:D1 P ft=some agg)(hs:agg=true->szOf P ft=some sz)(h1:agg=false->sz=1)(w:World)(cs:Array Value)(off:Nat)(hb:off+sz<=cs.size) : (part ft cs off).run P w=.ok (if agg then .agg ((cs.toList.drop off).take sz).toArray else((cs.toList.drop off).take sz).getD 0 undef) w:=by
 simp only[part,Sem.run_bind,Ta hq,Result.andThen_ok];cases agg with
 |true =>
  have e:cs.extract off (off+sz)=((cs.toList.drop off).take sz).toArray:=by apply Array.ext';simp[Array.toList_extract,List.extract]
  simp[D3 (hs rfl),e]
 |false =>
  obtain rfl:=h1 rfl;have:off<cs.size:=by omega
  simp[this,List.getD]
def DR:Aa->Aa->Option Bool
 |.int k a,.int k' b=>if k=k' then some (decide (a=b)) else none
 |.bool a,.bool b=>some (a==b)
 |.str a,.str b=>some (decide (a=b))
 |_,_=>none
theorem J8(x y:Aa)(l m:List Aa):BL (x :: l) (y :: m)=(match DR x y,BL l m with | some c,some e=>some (c&&e) | _,_=>none):=by cases x<;>cases y<;>simp only[BL,DR]<;>(try (cases BL l m<;>rfl));rename_i k a k' b;cases BL l m<;>by_cases e:k=k'<;>simp[e]
theorem G3:∀{l m:List Aa} {e:Bool},BL l m=some e->l.length=m.length
 |[],[],_,_=>rfl
 |x :: l,y :: m,e,h=>by
  rw[J8]at h;cases hc:DR x y with
  |none=>simp[hc]at h
  |some c =>
   cases he:BL l m with
   |none=>simp[hc,he]at h
   |some e'=>simp[G3 he]
 |[],_ :: _,_,h=>by simp[BL]at h
 |_ :: _,[],_,h=>by simp[BL]at h
theorem Om:∀{l m:List Aa} {e:Bool} (k:Nat),k<=l.length->BL l m=some e->∃e1 e2,BL (l.take k) (m.take k)=some e1/\BL (l.drop k) (m.drop k)=some e2/\e=(e1&&e2)
 |l,m,e,0,_,h=>⟨true,e,by simp[BL],by simpa using h,by simp⟩
 |[],m,e,k+1,hk,h=>by simp at hk
 |x :: l,[],e,k+1,hk,h=>by simp[BL]at h
 |x :: l,y :: m,e,k+1,hk,h=>by
  rw[J8]at h;cases hc:DR x y with
  |none=>simp[hc]at h
  |some c =>
   cases he:BL l m with
   |none=>simp[hc,he]at h
   |some e' =>simp only[hc,he,Ba]at h;subst h;obtain⟨e1,e2,h1,h2,rfl⟩:=Om k (by simpa using hk) he;exact⟨c&&e1,e2,by simp[J8,hc,h1],by simpa using h2,by simp[Bool.and_assoc]⟩
theorem Tq{x y:Aa}{u v:Value}{c:Bool}(hc:DR x y=some c)(hx:RV g w x u)(hy:RV g w y v) : (∃k a b,u=.int k a/\v=.int k b/\c=decide (a=b))\/(∃a b,u=.bool a/\v=.bool b/\c=(a==b))\/(∃a b:ByteArray,u=.string a/\v=.string b/\c=(a==b)):=by
 cases x<;>cases y<;>simp only[DR]at hc<;>(try (cases hc;done))
 ·split at hc;·rename_i e;subst e;obtain rfl:=AJ hc;exact .inl ⟨_,_,_,E9 hx,E9 hy,rfl⟩
  ·cases hc
 ·obtain rfl:=AJ hc;exact .inr (.inl ⟨_,_,CX hx,CX hy,rfl⟩)
 ·obtain rfl:=AJ hc;obtain⟨b1,rfl,e1⟩:=EA hx;obtain⟨b2,rfl,e2⟩:=EA hy;refine .inr (.inr ⟨b1,b2,rfl,rfl,?_⟩);rw[<-e1,<-e2,beq_toListBytes,bytes_beq]
theorem Tr{t:TypeId}{fs:Array Field}(hu:P.underlying t=some (.struct fs)):P.fieldsOf t=fs:=by simp[Program.fieldsOf,hu]
def CF(agg:Bool)(cs:List Value):Value:=if agg then .agg cs.toArray else cs.getD 0 undef
theorem qz3j{t:TypeId}{n:Nat}(h:szOf P t=some n):∃i,P.info? t=some i/\P.cellsOf t=n:=by
 unfold szOf at h;cases hi:P.info? t with
 |none=>simp[hi]at h
 |some i=>simp[hi]at h;exact⟨i,rfl,by simp[Program.cellsOf,hi,h]⟩
theorem Ts:∀(d:Nat) (t:TypeId) (sh:List Nat),eqFields P d t=some sh->∃agg,D1 P t=some agg/\(agg=false->sh.length=1) /\ ∀(D:Nat),d<=D->∀(l m:List Aa) (xs ys:List Value) (e:Bool) (w':World),l.map Aa.kind=sh->RVs g w l xs->RVs g w m ys->BL l m=some e -> (Op.equalIn D t (CF agg xs) (CF agg ys)).run P w'=.ok e w':=by
 intro d;induction d with
 |zero=>intro t sh h;simp[eqFields]at h
 |succ d ih =>
  intro t sh h
  have one:∀(k:Nat) (l m:List Aa) (xs ys:List Value) (e:Bool),l.map Aa.kind=[k]->RVs g w l xs->RVs g w m ys->BL l m=some e -> ∃x y u v,CF false xs=u/\CF false ys=v/\DR x y=some e/\RV g w x u/\RV g w y v/\x.kind=k:=by
   intro k l m xs ys e hl hx hy he;have ky:=G3 he;have c8:l.length=1:=by have:=Gk List.length hl;simpa using this
   have fo:=hx.1;have iM:=hy.1;obtain⟨x,rfl⟩:=List.length_eq_one_iff.1 c8;obtain⟨y,rfl⟩:=List.length_eq_one_iff.1 (ky.symm.trans c8);obtain⟨u,rfl⟩:=List.length_eq_one_iff.1 fo;obtain⟨v,rfl⟩:=List.length_eq_one_iff.1 iM;refine⟨x,y,u,v,rfl,rfl,?_,hx.2 0 x u rfl rfl,hy.2 0 y v rfl rfl,by simpa using hl⟩;rw[J8]at he;cases hc:DR x y with
   |none=>simp[hc]at he
   |some c=>simpa [hc,BL] using he
  have kinds:∀{x y:Aa} {u v:Value} {c:Bool} {k:Nat},DR x y=some c->RV g w x u->RV g w y v->x.kind=k -> (k=1->∃q a b,u=.int q a/\v=.int q b/\c=decide (a=b))/\(k=0->∃a b,u=.bool a/\v=.bool b/\c=(a==b))/\(k=2->∃a b:ByteArray,u=.string a/\v=.string b/\c=(a==b)):=by
   intro x y u v c k hc rx ry hk;subst hk;rcases Tq hc rx ry with ⟨q,a,b,rfl,rfl,rfl⟩|⟨a,b,rfl,rfl,rfl⟩|⟨a,b,rfl,rfl,rfl⟩
   ·refine⟨fun _=>⟨q,a,b,rfl,rfl,rfl⟩,fun h=>?_,fun h=>?_⟩<;>(cases x<;>simp[Aa.kind]at h<;>cases rx)
   ·refine⟨fun h=>?_,fun _=>⟨a,b,rfl,rfl,rfl⟩,fun h=>?_⟩<;>(cases x<;>simp[Aa.kind]at h<;>cases rx)
   ·refine⟨fun h=>?_,fun h=>?_,fun _=>⟨a,b,rfl,rfl,rfl⟩⟩<;>(cases x<;>simp[Aa.kind]at h<;>cases rx)
  simp only[eqFields]at h;cases hu:P.underlying t with
  |none=>simp[hu]at h
  |some q =>
   simp only[hu]at h;cases q<;>simp only at h<;>(try (cases h;done))
   case bool =>obtain rfl:=AJ h;refine⟨false,by simp[D1,hu],fun _=>rfl,fun D hD l m xs ys e w' hl hx hy he=>?_⟩;obtain⟨D,rfl⟩:∃D',D=D'+1:=⟨D-1,by omega⟩;obtain⟨x,y,u,v,e1,e2,hc,rx,ry,hk⟩:=one 0 l m xs ys e hl hx hy he;obtain⟨a,b,rfl,rfl,rfl⟩:=(kinds hc rx ry hk).2.1 rfl;rw[e1,e2];exact run_equalIn_bool' w' D t a b hu
   case int k =>obtain rfl:=AJ h;refine⟨false,by simp[D1,hu],fun _=>rfl,fun D hD l m xs ys e w' hl hx hy he=>?_⟩;obtain⟨D,rfl⟩:∃D',D=D'+1:=⟨D-1,by omega⟩;obtain⟨x,y,u,v,e1,e2,hc,rx,ry,hk⟩:=one 1 l m xs ys e hl hx hy he;obtain⟨q,a,b,rfl,rfl,rfl⟩:=(kinds hc rx ry hk).1 rfl;rw[e1,e2,run_equalIn_int w' D t q k a b hu];rfl
   case string =>obtain rfl:=AJ h;refine⟨false,by simp[D1,hu],fun _=>rfl,fun D hD l m xs ys e w' hl hx hy he=>?_⟩;obtain⟨D,rfl⟩:∃D',D=D'+1:=⟨D-1,by omega⟩;obtain⟨x,y,u,v,e1,e2,hc,rx,ry,hk⟩:=one 2 l m xs ys e hl hx hy he;obtain⟨a,b,rfl,rfl,rfl⟩:=(kinds hc rx ry hk).2.2 rfl;rw[e1,e2,run_equalIn_string w' D t a b hu,beq_toListBytes]
   case struct fs =>
    split at h
    ·cases h
    ·rename_i aL;refine⟨true,by simp[D1,hu],(fun e=>by cases e),fun D hD l m xs ys e w' hl hx hy he=>?_⟩;obtain⟨D,rfl⟩:∃D',D=D'+1:=⟨D-1,by omega⟩;have ht:P.underlying t=some (.struct (P.fieldsOf t)):=by rw[Tr hu];exact hu
     show(Op.equalIn (D+1) t (.agg xs.toArray) (.agg ys.toArray)).run P w'=_;rw[run_equalIn_struct w' D t _ _ ht (by simpa using aL),Tr hu]
     have go:∀(fl:List Field) (n:Nat) (sh:List Nat) (l m:List Aa) (e:Bool),CD P (eqFields P d) fl n=some sh->l.map Aa.kind=sh->RVs g w l (xs.drop n)->RVs g w m (ys.drop n)->BL l m=some e -> (Op.eqFields D xs.toArray ys.toArray fl).run P w'=.ok e w':=by
      intro fl;induction fl with
      |nil =>
       intro n sh l m e h1 h2 h3 h4 h5;simp only[CD,Ba]at h1;subst h1;have:l=[]:=by simpa using h2
       subst this;have:m=[]:=by have:=G3 h5;simpa using this.symm
       subst this;simp only[BL,Ba]at h5;subst h5;simp[Op.eqFields]
      |cons f fl ihf =>
       intro n sh l m e h1 h2 h3 h4 h5;simp only[CD]at h1;split at h1
       ·rename_i aY;obtain⟨ef,fm⟩:=aY;cases hm:eqFields P d f.type with
        |none=>simp[hm]at h1
        |some sm =>
         simp only[hm]at h1;split at h1
         ·rename_i dx;obtain⟨aO,bt⟩:=dx;cases hg:CD P (eqFields P d) fl (n+sm.length) with
          |none=>simp[hg]at h1
          |some sl =>
           simp only[hg,Ba]at h1;subst h1;have c8:l.length=sm.length+sl.length:=by have:=Gk List.length h2;simpa using this
           obtain⟨c1,c2,q1,q2,rfl⟩:=Om sm.length (by omega) h5;obtain⟨agg,bh,c9,aP⟩:=ih f.type sm hm;have ky:=G3 h5;have fo:=h3.1;have iM:=h4.1;simp only[H5]at fo iM;have px:=HL (P:=P) bh (fun _=>aO) c9 w' xs.toArray n (by simp;omega);have py:=HL (P:=P) bh (fun _=>aO) c9 w' ys.toArray n (by simp;omega);have ib:RVs g w (l.take sm.length) ((xs.drop n).take sm.length):=h3.take _;have kz:RVs g w (m.take sm.length) ((ys.drop n).take sm.length):=h4.take _;have k1:(l.take sm.length).map Aa.kind=sm:=by rw[List.map_take,h2];simp
           have k2:(l.drop sm.length).map Aa.kind=sl:=(by rw[List.map_drop,h2];simp);have dJ:=aP D (by omega) _ _ _ _ c1 w' k1 ib kz q1;have kA:RVs g w (l.drop sm.length) (xs.drop (n+sm.length)):=(by have:=h3.drop sm.length;rwa [NT]at this);have kC:RVs g w (m.drop sm.length) (ys.drop (n+sm.length)):=(by have:=h4.drop sm.length;rwa [NT]at this);have fd:=ihf (n+sm.length) sl _ _ c2 hg k2 kA kC q2;simp only[CF]at dJ;simp only[Op.eqFields,Aj fm,Sem.run_bind,ef,px,py,Result.andThen_ok,dJ];cases c1 with
           |true=>simpa using fd
           |false=>simp
         ·cases h1
       ·cases h1
     exact go fs.toList 0 sh l m e h hl (by simpa using hx) (by simpa using hy) he
   case array n el =>
    cases hm:eqFields P d el with
    |none=>simp[hm]at h
    |some sm =>
     simp only[hm]at h;split at h
     ·rename_i dx;obtain⟨aO,bt⟩:=dx;obtain rfl:=AJ h;obtain⟨agg,bh,c9,aP⟩:=ih el sm hm;refine⟨true,by simp[D1,hu],(fun e=>by cases e),fun D hD l m xs ys e w' hl hx hy he=>?_⟩;obtain⟨D,rfl⟩:∃D',D=D'+1:=⟨D-1,by omega⟩;obtain⟨ti,nk,nl⟩:=qz3j aO;show(Op.equalIn (D+1) t (.agg xs.toArray) (.agg ys.toArray)).run P w'=_;rw[run_equalIn_array w' D _ _ hu nk,nl]
      have go:∀(n k:Nat) (l m:List Aa) (e:Bool),l.map Aa.kind=(List.replicate n sm).flatten->RVs g w l (xs.drop (k*sm.length))->RVs g w m (ys.drop (k*sm.length))->BL l m=some e -> (Op.eqItems D el sm.length xs.toArray ys.toArray (List.range' k n)).run P w'=.ok e w':=by
       intro n;induction n with
       |zero =>
        intro k l m e h2 h3 h4 h5;have:l=[]:=by simpa using h2
        subst this;have:m=[]:=by have:=G3 h5;simpa using this.symm
        subst this;simp only[BL,Ba]at h5;subst h5;simp[Op.eqItems]
       |succ n ihn =>
        intro k l m e h2 h3 h4 h5;rw[List.replicate_succ,List.flatten_cons]at h2;have c8:sm.length<=l.length:=by have:=Gk List.length h2;simp only[Jz,Dv]at this;omega
        obtain⟨c1,c2,q1,q2,rfl⟩:=Om sm.length c8 h5;have ky:=G3 h5;have fo:=h3.1;have iM:=h4.1;simp only[H5]at fo iM;have px:=HL (P:=P) bh (fun _=>aO) c9 w' xs.toArray (k*sm.length) (by simp;omega);have py:=HL (P:=P) bh (fun _=>aO) c9 w' ys.toArray (k*sm.length) (by simp;omega);have ib:RVs g w (l.take sm.length) ((xs.drop (k*sm.length)).take sm.length):=h3.take _;have kz:RVs g w (m.take sm.length) ((ys.drop (k*sm.length)).take sm.length):=h4.take _;have k1:(l.take sm.length).map Aa.kind=sm:=by rw[List.map_take,h2];simp
        have k2:(l.drop sm.length).map Aa.kind=(List.replicate n sm).flatten:=(by rw[List.map_drop,h2];simp);have dJ:=aP D (by omega) _ _ _ _ c1 w' k1 ib kz q1;have e2:k*sm.length+sm.length=(k+1)*sm.length:=(by rw[AT,Nat.one_mul]);have kA:RVs g w (l.drop sm.length) (xs.drop ((k+1)*sm.length)):=(by have:=h3.drop sm.length;rwa [NT,e2]at this);have kC:RVs g w (m.drop sm.length) (ys.drop ((k+1)*sm.length)):=(by have:=h4.drop sm.length;rwa [NT,e2]at this);have fd:=ihn (k+1) _ _ c2 k2 kA kC q2;simp only[CF]at dJ;simp only[List.range'_succ,Op.eqItems,Sem.run_bind,px,py,Result.andThen_ok,dJ];cases c1 with
        |true=>simpa using fd
        |false=>simp
      rw[List.range_eq_range'];exact go n 0 l m e hl (by simpa using hx) (by simpa using hy) he
     ·cases h
theorem Tt:∀{l m:List Aa} {xs ys:List Value},RVs g w l xs->RVs g w m ys->BL l m=some true->xs=ys
 |[],m,xs,ys,hx,hy,h=>by have:=G3 h;have h1:=hx.1;have h2:=hy.1;have e1:xs=[]:=NU (by simpa using h1);have e2:ys=[]:=NU (by simp at this;omega);rw[e1,e2]
 |x :: l,[],xs,ys,hx,hy,h=>by simp[BL]at h
 |x :: l,y :: m,xs,ys,hx,hy,h=>by
  cases xs with
  |nil=>have:=hx.1;simp at this
  |cons u xs =>
   cases ys with
   |nil=>have:=hy.1;simp at this
   |cons v ys =>
    rw[J8]at h;cases hc:DR x y with
    |none=>simp[hc]at h
    |some c =>
     cases he:BL l m with
     |none=>simp[hc,he]at h
     |some e' =>
      simp only[hc,he,Ba,AH]at h;obtain⟨rfl,rfl⟩:=h;have e1:xs=ys:=Tt (l:=l) (m:=m) (by have:=hx.drop 1;simpa using this) (by have:=hy.drop 1;simpa using this) he
      have e2:u=v:=by
       rcases Tq hc (hx.2 0 x u rfl rfl) (hy.2 0 y v rfl rfl) with ⟨k,a,b,rfl,rfl,e⟩|⟨a,b,rfl,rfl,e⟩|⟨a,b,rfl,rfl,e⟩
       ·simp at e;rw[e]
       ·simp at e;rw[e]
       ·rw[beq_toListBytes,bytes_beq]at e;have e:a.data.toList=b.data.toList:=(by simpa using e);have:a=b:=(by obtain⟨⟨a⟩⟩:=a;obtain⟨⟨b⟩⟩:=b;simp at e;rw[e]);rw[this]
      rw[e1,e2]
theorem qzr8:∀(d:Nat) (t:TypeId) (sh:List Nat),eqFields P d t=some sh->∃agg,D1 P t=some agg/\(agg=false->sh.length=1) /\
  ∀(D:Nat),d<=D->∀(xs:List Value) (em:Bool) (w':World),xs.length=sh.length->(Instr.checkKey em D t (CF agg xs)).run P w'=.ok () w':=by
 intro d
 induction d with
 |zero=>intro t sh h;simp[eqFields]at h
 |succ d ih =>
  intro t sh h
  simp only[eqFields]at h
  cases hu:P.underlying t with
  |none=>simp[hu]at h
  |some q =>
   simp only[hu]at h
   cases q<;>simp only at h<;>(try (cases h;done))
   case struct fs =>
    split at h
    ·cases h
    ·rename_i aL
     refine⟨true,by simp[D1,hu],(fun e=>by cases e),fun D hD xs em w' hl=>?_⟩
     obtain⟨D,rfl⟩:∃D',D=D'+1:=⟨D-1,by omega⟩
     show(Instr.checkKey em (D+1) t (.agg xs.toArray)).run P w'=_
     unfold Instr.checkKey
     simp only[Sem.run_bind,run_underlying hu,Result.andThen_ok]
     rw[<-Array.forIn_toList]
     have go:∀(fl:List Field) (n:Nat) (sh:List Nat),CD P (eqFields P d) fl n=some sh->n+sh.length<=xs.length ->
       (forIn fl PUnit.unit (fun(f:Field) (r:PUnit)=>(do
        if f.name ≠ "_" then do
         Instr.checkKey em D f.type (<-part f.type xs.toArray f.offset)
         pure (ForInStep.yield PUnit.unit)
        else pure (ForInStep.yield PUnit.unit):Sem (ForInStep PUnit)))).run P w'=.ok PUnit.unit w':=by
      intro fl
      induction fl with
      |nil=>intro n sh h1 h2;simp
      |cons f fl ihf =>
       intro n sh h1 h2
       simp only[CD]at h1
       split at h1
       ·rename_i aY
        obtain⟨ef,fm⟩:=aY
        cases hm:eqFields P d f.type with
        |none=>simp[hm]at h1
        |some sm =>
         simp only[hm]at h1
         split at h1
         ·rename_i dx
          obtain⟨aO,bt⟩:=dx
          cases hg:CD P (eqFields P d) fl (n+sm.length) with
          |none=>simp[hg]at h1
          |some sl =>
           simp only[hg,Ba]at h1
           subst h1
           simp only[Dv]at h2
           obtain⟨agg,bh,c9,aP⟩:=ih f.type sm hm
           have px:=HL (P:=P) bh (fun _=>aO) c9 w' xs.toArray n (by simp;omega)
           have dJ:=aP D (by omega) ((xs.drop n).take sm.length) em w' (by simp;omega)
           have fd:=ihf (n+sm.length) sl hg (by omega)
           simp only[CF]at dJ
           simp only[List.forIn_cons,Sem.run_bind,Aj fm,ef,px,Result.andThen_ok,dJ,Sem.run_pure]
           exact fd
         ·cases h1
       ·cases h1
     rw[go fs.toList 0 sh h (by omega)];simp
   case array n el =>
    cases hm:eqFields P d el with
    |none=>simp[hm]at h
    |some sm =>
     simp only[hm]at h
     split at h
     ·rename_i dx
      obtain⟨aO,bt⟩:=dx
      obtain rfl:=AJ h
      obtain⟨agg,bh,c9,aP⟩:=ih el sm hm
      refine⟨true,by simp[D1,hu],(fun e=>by cases e),fun D hD xs em w' hl=>?_⟩
      obtain⟨D,rfl⟩:∃D',D=D'+1:=⟨D-1,by omega⟩
      show(Instr.checkKey em (D+1) t (.agg xs.toArray)).run P w'=_
      unfold Instr.checkKey
      simp only[Sem.run_bind,run_underlying hu,Result.andThen_ok]
      simp only[Std.Legacy.Range.forIn_eq_forIn_range',Std.Legacy.Range.size,Nat.sub_zero,Nat.add_one_sub_one,Nat.div_one]
      have go:∀(n k:Nat),(k+n)*sm.length<=xs.length ->
        (forIn (List.range' k n) PUnit.unit (fun(i:Nat) (r:PUnit)=>(do
         Instr.checkKey em D el (<-part el xs.toArray (i*(<-sizeOf el)))
         pure (ForInStep.yield PUnit.unit):Sem (ForInStep PUnit)))).run P w'=.ok PUnit.unit w':=by
       intro n
       induction n with
       |zero=>intro k h2;simp
       |succ n ihn =>
        intro k h2
        have e2:k*sm.length+sm.length<=xs.length:=by
         refine AS ?_ h2
         rw[<-BY]
         exact Bd _ (by omega)
        have px:=HL (P:=P) bh (fun _=>aO) c9 w' xs.toArray (k*sm.length) (by simp;omega)
        have dJ:=aP D (by omega) ((xs.drop (k*sm.length)).take sm.length) em w' (by simp;omega)
        have fd:=ihn (k+1) (by rwa [show k+1+n=k+(n+1) by omega])
        simp only[CF]at dJ
        simp only[List.range'_succ,List.forIn_cons,Sem.run_bind,D3 aO,px,Result.andThen_ok,dJ,Sem.run_pure]
        exact fd
      have aE:(0+n)*sm.length<=xs.length:=by
       rw[hl,Bq];simp
      rw[go n 0 aE];simp
     ·cases h
   all_goals
    obtain rfl:=AJ h
    refine⟨false,by simp[D1,hu],fun _=>rfl,fun D hD xs em w' hl=>?_⟩
    obtain⟨D,rfl⟩:∃D',D=D'+1:=⟨D-1,by omega⟩
    generalize CF false xs=v
    unfold Instr.checkKey
    simp only[Sem.run_bind,run_underlying hu,Result.andThen]
    cases v<;>rfl
theorem Tu{o:Oper}{ty yt:TypeId}{ng:Bool}{sh:List Nat}{fs:Array Field}{x y:Operand}{x' y':Ae}(H:HR E g h w)(ht:RVs g w t a.tmps.toList)(ho:o.op=.binOp (if ng then .neq else .eql) ty x y yt)(hx:A6 x x'=true)(hy:A6 y y'=true)(hg:P.eqGuardType P.depth ty=false) (hs:eqFields P 9 ty=some sh) (hu:P.underlying ty=some (.struct fs))(aB:((An.eqagg sh ng x' y').req (Ah E t) h).ok):Ran E P (execOp a.eval o) g h w ((An.eqagg sh ng x' y').req (Ah E t) h):=by
 have rx:=AV H ht hx;have ry:=AV H ht hy;simp only[An.req]at aB |-;generalize Ah E t x'=X at *;generalize Ah E t y'=Y at *;generalize fp:a.eval x=u at rx;generalize mf:a.eval y=v at ry;cases X<;>(try simp only[Req.fail]at aB)
 case agg l =>
  cases Y<;>(try simp only[Req.fail]at aB);rename_i m;cases he:BL l m with
  |none=>simp only[he]at aB
  |some e =>
   simp only[he]at aB |-;have aB:l.map Aa.kind=sh:=aB;cases rx with
   |agg _ xs fe fP =>
    cases ry with
    |agg _ ys kD kE =>
     have cw:RVs g w l xs.toList:=⟨by simpa using fe,fun i x v hx hv=>fP i x v hx (by simpa using hv)⟩;have jT:RVs g w m ys.toList:=⟨by simpa using kD,fun i x v hx hv=>kE i x v hx (by simpa using hv)⟩;obtain⟨agg,bh,_,aP⟩:=Ts (P:=P) (g:=g) (w:=w) 9 ty sh hs;obtain rfl:agg=true:=(by simp only[D1,hu,DN,Ba]at bh;exact bh.symm);have hq:=aP 10000 (by omega) l m _ _ e w aB cw jT he;simp only[CF,AZ,Jx]at hq;cases ng with
     |false =>refine Ran.same H (v:=.bool e) ?_ (.bool _);simp only[Jy,C9]at ho;simp only[execOp,ho,fp,mf,Sem.run_bind,run_eqGuard_agg w .eql ty x y xs ys hg,Result.andThen_ok,run_eql_struct,hq,Sem.run_pure]
     |true =>refine Ran.same H (v:=.bool (!e)) ?_ (.bool _);simp only[AZ]at ho;simp only[execOp,ho,fp,mf,Sem.run_bind,run_eqGuard_agg w .neq ty x y xs ys hg,Result.andThen_ok,run_neq_struct,hq,Sem.run_pure]
end
section
variable {E:Nat->Aa}{P:Program}{g:Gh}{h:Aq}{w:World}{t:List Aa}{a:Act}
def B4(st m:Nat)(vals:Nat->Nat->Value):List Value:=(List.range (m*st)).map fun q=>vals (q / st) (q%st)
theorem ED(st m:Nat)(vals:Nat->Nat->Value):(B4 st m vals).length=m*st:=by simp[B4]
theorem HM{st m:Nat}{vals:Nat->Nat->Value}{k j:Nat}(hk:k<m)(hj:j<st):(B4 st m vals)[k*st+j]?=some (vals k j):=by
 have hb:k*st+j<m*st:=by have:(k+1)*st<=m*st:=Bd _ hk;rw[BY]at this;omega
 have h0:0<st:=by omega
 rw[B4,Hz,SJ hb];simp only[DN];rw[Bb k st,Lm h0,Jo hj,NX,C2 hj,Gg]
theorem HN{st m:Nat}{vals:Nat->Nat->Value}{q:Nat}{v:Value}(hq:(B4 st m vals)[q]?=some v):∃k j,k<m/\j<st/\q=k*st+j/\v=vals k j:=by
 have hlt:q<m*st:=by have:=(AE.1 hq).1;simpa [B4] using this
 have h0:0<st:=by
  rcases E7 st with e|e
  ·rw[e]at hlt;simp at hlt
  ·exact e
 have hk:q / st<m:=by rw[H7 h0];exact hlt
 have hj:q%st<st:=Gj _ h0;refine⟨q / st,q%st,hk,hj,by rw[Bb];exact(Jm q st).symm,?_⟩;rw[B4,Hz,SJ hlt]at hq;simpa using hq.symm
structure Lv(g:Gh)(w:World)(st m:Nat)(f:Nat->List Aa)(v:Value)(vals:Nat->Nat->Value):Prop where
 val:∃ad cap,v=.slice ad m cap/\m<=cap/\(m=0\/∃b off,ad=some ⟨b,off,none⟩/\∀k j,k<m->j<st->w.cell? ⟨b,off+(k*st+j),none⟩=some (vals k j))
 len:∀k,k<m->(f k).length=st
 one:∀k j,k<m->j<st->(vals k j).oneCell'=true
 rv:∀(k j:Nat) (x:Aa),k<m->(f k)[j]?=some x->RV g w x (vals k j)
theorem J9{st:Nat}{Y:Aa}{v:Value}(H:HR E g h w)(hv:RV g w Y v)(aB:(Bk st Y h).ok)(aL:(Bk st Y h).st=st):∃vals,Lv g w st (Bk st Y h).n (Bk st Y h).f v vals:=by
 unfold Bk at aB aL |-;cases Y<;>simp only at aB aL<;>(try (exact aB.elim))
 case nils =>cases hv;exact⟨fun _ _=>undef,⟨none,0,rfl,A8 _,.inl rfl⟩,fun k hk=>absurd hk (NZ _),fun k j hk=>absurd hk (NZ _),fun k j x hk=>absurd hk (NZ _)⟩
 case slc st' n f =>
  subst aL;cases hv with
  |slc0 _ _ ad cap=>exact⟨fun _ _=>undef,⟨ad,cap,rfl,B3 _,.inl rfl⟩,fun k hk=>absurd hk (NZ _),fun k j hk=>absurd hk (NZ _),fun k j x hk=>absurd hk (NZ _)⟩
  |slc _ _ _ b off cap vals hz aG hl hc h1 hr =>exact⟨vals,⟨_,cap,rfl,aG,.inr ⟨b,off,rfl,fun k j hk hj=>by rw[<-Fv];exact hc k j hk hj⟩⟩,hl,h1,hr⟩
 case vec id ep lo n =>
  have hO:=H.obj id;cases hh:h id<;>simp only[hh]at aB aL hO |-<;>(try (exact aB.elim));rename_i ep' st' m f;subst aL;obtain⟨he,aC⟩:=aB;obtain⟨bw,h0,hn,arr,ty,hr,aX,aS⟩:=hO;obtain⟨ad,cap,e1,aG,hc⟩:=EB H hv (by rw[hh];exact he);have bB:∀k j,k<n->j<st'->g.bo id+(lo+k)*st'+j<arr.size:=fun k j hk hj=>by have:(lo+k+1)*st'<=g.cp id*st':=Bd _ (by omega);rw[BY]at this;omega
  refine⟨fun k j=>arr.getD (g.bo id+(lo+k)*st'+j) undef,⟨some ad,cap,e1,aG,?_⟩,fun k hk=>(aS (lo+k) (by omega)).1,fun k j hk hj=>?_,fun k j x hk hx=>?_⟩
  ·rcases E7 n with e|e;·exact .inl e
   ·rcases hc with cR|⟨rfl,hc⟩;·omega
    ·refine .inr ⟨_,_,rfl,fun k j hk hj=>?_⟩;have hb:=bB k j hk hj;have e2:g.bo id+lo*g.st id+(k*st'+j)=g.bo id+(lo+k)*st'+j:=(by rw[bw,AT];omega);simp[World.cell?,hr,e2,hb]
  ·have hb:=bB k j hk hj;have aE:=(aS (lo+k) (by omega)).1;have:=(aS (lo+k) (by omega)).2 j _ (arr.getD (g.bo id+(lo+k)*st'+j) undef) (AC (by omega)) (by simp[hb]);exact this.1
  ·have aE:=(aS (lo+k) (by omega)).1;have hj:j<st':=by have:=(AE.1 hx).1;omega
   have hb:=bB k j hk hj;exact((aS (lo+k) (by omega)).2 j x (arr.getD (g.bo id+(lo+k)*st'+j) undef) hx (by simp[hb])).2
theorem Lv.news{st m:Nat}{f:Nat->List Aa}{v:Value}{vals:Nat->Nat->Value}(s:Lv g w st m f v vals)(hm:0<m) : ∃b off cap,v=.slice (some ⟨b,off,none⟩) m cap/\∀q u,(B4 st m vals)[q]?=some u->w.cell? ((⟨b,off,none⟩:Addr).add q)=some u:=by
 obtain⟨ad,cap,e1,_,hc⟩:=s.val;rcases hc with h0|⟨b,off,rfl,aK⟩
 ·omega
 ·refine⟨b,off,cap,e1,fun q u hq=>?_⟩;obtain⟨k,j,hk,hj,rfl,rfl⟩:=HN hq;rw[DQ];exact aK k j hk hj
theorem wzro{st m:Nat}{f:Nat->List Aa}{v:Value}{vals:Nat->Nat->Value}(s:Lv g w st m f v vals):∀u∈B4 st m vals,u.oneCell'=true:=by intro u hu;obtain⟨q,hq⟩:=Dy.1 hu;obtain⟨k,j,hk,hj,rfl,rfl⟩:=HN hq;exact s.one k j hk hj
theorem Lw(P:Program)(o:Oper)(ρ:Operand->Value)(x y:Operand)(tx:TypeId)(u v:Value)(r:Value)(w w':World)(ho:o.op=.call { callee:=.builtin .append,args:=#[x,y],argTypes:=#[tx,tx] })(hx:ρ x=u)(hy:ρ y=v)(hr:(Builtin.append_ #[tx,tx] o.type #[u,v]).run P w=.ok r w'):(execOp ρ o).run P w=.ok (.value r) w':=by simp[execOp,ho,resolve,invoke,builtin,hx,hy,hr]
theorem On{e:TypeId}{i:TypeInfo}{z:Value}(hi:P.info? e=some i)(hz:i.zero=some z){l:List Value}(hl:D2 P e=some l):l=z.cells.toList:=by obtain⟨⟩:=i;simp only at hz;subst hz;simpa [D2,hi] using hl.symm
theorem Lx{e:TypeId}{st bytes:Nat}(hs:szOf P e=some st)(hb:byOf P e=some bytes){zl:List Value}(hz:D2 P e=some zl)(di:zl.length=st) : ∃(i:TypeInfo) (z:Value),P.info? e=some i/\i.zero=some z/\i.size=st/\i.bytes=bytes/\z.cells.size=st:=by
 unfold szOf at hs;unfold byOf at hb;cases hi:P.info? e with
 |none=>simp[hi]at hs
 |some i =>
  simp only[hi,DN,Ba]at hs hb;cases br:i.zero with
  |none =>obtain⟨⟩:=i;simp only at br;subst br;simp[D2,hi]at hz
  |some z =>have:=On hi br hz;refine⟨i,z,rfl,br,hs,hb,?_⟩;rw[this]at di;simpa using di
theorem Oo(w:World)(need old:Nat)(e:TypeId):need<=grownCap w need old e:=by simp only[grownCap,Question.cut];omega
theorem Lz{s ep st n:Nat}{f:Nat->List Aa}{g':Gh}{w':World}{arr:Array Value}{ty:TypeId}{b bo cp:Nat}(h0:0<st)(aN:g'.blk s=b)(cu:g'.bo s=bo)(aL:g'.st s=st)(b5:g'.cp s=cp)(hn:n<=cp)(aF:w'.heap[b]?=some (.cells arr ty (0,0))) (aO:bo+cp*st<=arr.size) (hl:∀k,k<n->(f k).length=st)(hc:∀k j,k<n->j<st->∃v,arr[bo+k*st+j]?=some v/\v.oneCell'=true/\∀x,(f k)[j]?=some x->RV g' w' x v):OR g' w' s (.vec ep st n f):=by
 refine⟨aL,h0,by omega,arr,ty,by rw[aN];exact aF,by rw[cu,b5];exact aO,fun k hk=>⟨hl k hk,fun j x v hx hv=>?_⟩⟩;have hj:j<st:=by rw[<-hl k hk];exact(AE.1 hx).1
 obtain⟨u,hu,h1,h2⟩:=hc k j hk hj;rw[cu,hu]at hv;obtain rfl:=AJ hv;exact⟨h1,h2 x hx⟩
theorem DS{k n st j:Nat}(hk:k<n)(hj:j<st):k*st+j<n*st:=by have:(k+1)*st<=n*st:=Bd _ hk;rw[BY]at this;omega
theorem qzv7{o:Oper}{x y:Operand}{tx e:TypeId}{s st bytes:Nat}{y':Ae}{zl:List Value}(H:HR E g h w)(ht:RVs g w t a.tmps.toList)(ho:o.op=.call { callee:=.builtin .append,args:=#[x,y],argTypes:=#[tx,tx] })(hy:A6 y y'=true)(hu:P.underlying tx=some (.slice e)) (hs:szOf P e=some st) (hb:byOf P e=some bytes) (hz:D2 P e=some zl) (di:zl.length=st) (eu:0<bytes) (hx:a.eval x=.slice none 0 0)(aB:(Fp s st bytes .nils (Ah E t y') h).ok):Ran E P (execOp a.eval o) g h w (Fp s st bytes .nils (Ah E t y') h):=by
 have ry:=AV H ht hy;generalize Ah E t y'=Y at *;simp only[Fp]at aB |-;by_cases hn:(Bk st Y h).n=0
 ·simp only[hn,AZ]at aB |-;obtain⟨vals,src⟩:=J9 H ry aB.1 aB.2;obtain⟨ad,cap,e1,_,_⟩:=src.val;rw[hn]at e1;obtain⟨i,z,hi,br,aO,ic,dT⟩:=Lx hs hb hz di;refine Ran.same H (v:=.slice none 0 0) ?_ .nils;cases ad with
  |none=>simp[execOp,ho,hx,e1,resolve,invoke,builtin,Builtin.append_,run_underlying hu,sizeOf,typeInfo,hi,Builtin.lenOf,Builtin.firstCells,Result.andThen]
  |some ad=>simp[execOp,ho,hx,e1,resolve,invoke,builtin,Builtin.append_,run_underlying hu,sizeOf,typeInfo,hi,Builtin.lenOf,Builtin.firstCells,loadCells,loadCellsFrom,Result.andThen]
 simp only[hn,C9]at aB |-;obtain⟨_,h1,h2,h0,hm,bT⟩:=aB;obtain⟨vals,src⟩:=J9 H ry h1 h2;obtain⟨b,off,cap,e1,bU⟩:=src.news hm;obtain⟨i,z,hi,br,aO,ic,dT⟩:=Lx hs hb hz di;generalize (Bk st Y h).n=m at *;generalize (Bk st Y h).f=f at *;have kF:(m:Int)<=9223372036854775807:=by have:m*1<=m*bytes:=NY _ eu;omega
 have run:=run_append_nil (P:=P) w tx o.type e i z hu hi br ⟨b,off,none⟩ m cap (B4 st m vals) (by rw[ED,aO]) bU hm kF (by rw[ic];omega);refine Ran.new (ob:=.cells ((B4 st m vals).toArray++Builtin.zeroCells z.cells (grownCap w m 0 e-m)) e (0,0)) (bo:=0) (st:=st) (cp:=grownCap w m 0 e) H ⟨w.drew,rfl,rfl,rfl,rfl,H8 _,Lw P o a.eval x y tx _ _ _ w _ ho hx e1 run⟩ rfl ?_;intro g' w' aC aN cu bw b5 aM;have hge:=Oo w m 0 e;refine⟨Lz h0 aN cu bw b5 hge aM ?_ src.len (fun k j hk hj=>⟨vals k j,?_,src.one k j hk hj,fun x hx=>(src.rv k j x hk hx).mono aC⟩),fun he=>?_⟩
 ·rw[Gag,size_zeroCells,dT];simp only[Gci,ED];have:(grownCap w m 0 e-m)*st+m*st=grownCap w m 0 e*st:=by rw[<-AT];congr 1;omega
  omega
 ·have cD:=DS hk hj;rw[Bq,Gaa (by simp[ED];exact cD)];simpa using HM hk hj
 ·exact .vec _ _ _ _ _ rfl (by rw[he];exact A8 _) (fun _=>Lu aN cu b5 hge)
theorem qz1v(ty e tx:TypeId)(i:TypeInfo)(hu:P.underlying tx=some (.slice e))(hi:P.info? e=some i)(b bo n cap:Nat)(cur:Array Value)(te:TypeId)(hg:w.heap[b]?=some (.cells cur te (0,0)))(v:Value) (m:Nat) (news:List Value) (iN:(Builtin.lenOf v).run P w=.ok m w) (bU:(Builtin.firstCells i.size m v).run P w=.ok news.toArray w) (h1:∀u∈news,u.oneCell'=true)(cU:n+m<=cap) (aX:bo+n*i.size+news.length<=cur.size) (po:∀k,P.underlying tx≠some (.int k)) :
  (Builtin.append_ #[tx,tx] ty #[.slice (some ⟨b,bo,none⟩) n cap,v]).run P w =
   .ok (.slice (some ⟨b,bo,none⟩) (n+m) cap) (w.setRow b (cur.toList.take (bo+n*i.size)++news++cur.toList.drop (bo+n*i.size+news.length)).toArray):=by
 have aL:=run_storeCells_at P b (bo+n*i.size) te news 0 cur w hg (by simpa using aX) h1;simp only[Gg]at aL;simp[Builtin.append_,run_underlying hu,sizeOf,typeInfo,hi,iN,cU,bU,DQ,aL]
theorem Tv{s:Sem Next}{rd:List Nat}{p:Prop}{i:Nat}{o':Ad}{x:Aa}{v:Value}{bo st cp:Nat}{w':World}(H:HR E g h w)(aU:(h i).owned=true)(hr:s.run P w=.ok (.value v) w') (bJ:o'.ep=(h i).ep+1) (nm:o'.owned=true)(bp:∀b,b≠g.blk i->w'.heap[b]?=w.heap[b]?) (cO:w'.heap.size=w.heap.size) (gu:w'.os=w.os) (cP:w'.tape=w.tape) (hout:w'.output=w.output)(dC:∀g':Gh,GLe g w g' w'->g'.blk i=g.blk i->g'.bo i=bo->g'.st i=st->g'.cp i=cp->g'.ep i=(h i).ep+1->OR g' w' i o'/\RV g' w' x v) (gv:w.drawn<=w'.drawn:=by first|exact A8 _|exact H8 _|simp):Ran E P s g h w ⟨p,rd,x,some (i,o')⟩:=by
 let g':Gh:=⟨g.blk,fun j=>if j=i then(h i).ep+1 else g.ep j,fun j=>if j=i then bo else g.bo j,fun j=>if j=i then st else g.st j,fun j=>if j=i then cp else g.cp j,g.fz⟩
 have bK:=H.sep i aU
 have aC:GLe g w g' w':=by
  refine⟨fun b hb=>⟨hb,bp b (fun e=>bK (e▸hb))⟩,fun j=>?_,fun j hj=>?_⟩
  ·show g.ep j<=if j=i then(h i).ep+1 else g.ep j;split
   ·rename_i e;subst e;rw[H.ep j];omega
   ·exact A8 _
  ·have:j≠i:=fun e=>by
    subst e;have bc:(if j=j then(h j).ep+1 else g.ep j)=g.ep j:=hj;rw[Aj rfl,H.ep j]at bc;omega
   exact⟨rfl,Ag this,Ag this,Ag this⟩
 obtain⟨hO,hV⟩:=dC g' aC rfl (Aj rfl) (Aj rfl) (Aj rfl) (Aj rfl);obtain⟨H',S'⟩:=HR.upd (g':=g') (w':=w') (i:=i) (o':=o') H aC (fun j hj=>Ag hj) ((Aj rfl:g'.ep i=_).trans bJ.symm) (fun b _ aH=>bp b (aH aU)) (by omega) hO (fun _=>.inl ⟨aU,rfl⟩) (fun _=>bK) (fun b hb=>.inl hb) (fun b hb=>by rw[cO];exact H.fzb b hb) gu cP hout gv;exact⟨_,v,w',g',hr,.inl rfl,hV,H',S',fun e=>by cases e⟩
theorem qzvr{o:Oper}{x y:Operand}{tx e:TypeId}{s st bytes:Nat}{y':Ae}{zl:List Value}{id ep lo n:Nat}(H:HR E g h w)(ht:RVs g w t a.tmps.toList)(ho:o.op=.call { callee:=.builtin .append,args:=#[x,y],argTypes:=#[tx,tx] })(hy:A6 y y'=true)(hu:P.underlying tx=some (.slice e)) (hs:szOf P e=some st) (hb:byOf P e=some bytes) (hz:D2 P e=some zl) (di:zl.length=st) (eu:0<bytes) (hx:RV g w (.vec id ep lo n) (a.eval x))(aB:(Fp s st bytes (.vec id ep lo n) (Ah E t y') h).ok):Ran E P (execOp a.eval o) g h w (Fp s st bytes (.vec id ep lo n) (Ah E t y') h):=by
 have ry:=AV H ht hy;generalize Ah E t y'=Y at *;simp only[Fp]at aB |-;have hO:=H.obj id;cases hh:h id<;>simp only[hh,Req.fail]at aB hO |-
 case vec ep' st' N f0 =>
  obtain⟨h1,h2,rfl,rfl,np,bT⟩:=aB;obtain⟨vals,src⟩:=J9 H ry h1 h2;obtain⟨i,z,hi,br,aO,ic,dT⟩:=Lx hs hb hz di;obtain⟨aL,h0,hn,arr,ty,hr,aX,aS⟩:=hO;have aU:(h id).owned=true:=by rw[hh];rfl
  have bq:(h id).ep=ep:=by rw[hh];rfl
  obtain⟨ad,cap,e1,aG,hc⟩:=EB H hx bq.symm;generalize (Bk st' Y h).n=m at *;generalize (Bk st' Y h).f=f at *
  have be:∀k j,k<n->j<st'->∃u,arr[g.bo id+(lo+k)*st'+j]?=some u/\u.oneCell'=true/\∀x,(f0 (lo+k))[j]?=some x->RV g w x u:=by
   intro k j hk hj;obtain⟨hl,aK⟩:=aS (lo+k) (by omega);have cD:=DS (k:=lo+k) (n:=g.cp id) (st:=st') (j:=j) (by omega) hj;have hlt:g.bo id+(lo+k)*st'+j<arr.size:=by omega
   refine⟨arr[g.bo id+(lo+k)*st'+j],Gc hlt,?_⟩;have jU:(f0 (lo+k))[j]?=some (f0 (lo+k))[j]:=AC (by omega);have:=aK j _ _ jU (Gc hlt);refine⟨this.1,fun x hx=>?_⟩;rw[jU]at hx;obtain rfl:=AJ hx;exact this.2
  have iO:((n+m:Nat):Int)<=9223372036854775807:=by have:(n+m)*1<=(n+m)*bytes:=NY _ eu;omega
  have fQ:∀k,k<n+m->((fun k=>if k<n then f0 (lo+k) else f (k-n)) k).length=st':=by
   intro k hk;simp only;split
   ·exact(aS (lo+k) (by omega)).1
   ·exact src.len _ (by omega)
  by_cases cU:n+m<=cap
  ·-- it fits
   obtain⟨sad,scap,se,_,_⟩:=src.val;have iN:(Builtin.lenOf (a.eval y)).run P w=.ok m w:=by rw[se];rfl
   rcases hc with cR|⟨rfl,hc⟩
   ·-- no room,and nothing comes
    have dK:n=0:=(by omega);have dL:m=0:=(by omega);subst cR;subst dK;subst dL
    have kG:(Builtin.firstCells i.size 0 (a.eval y)).run P w=.ok #[] w:=by
     rw[se];cases sad with
     |none=>simp[Builtin.firstCells]
     |some q=>simp[Builtin.firstCells,loadCells,loadCellsFrom]
    have run:(Builtin.append_ #[tx,tx] o.type #[.slice (some ad) 0 0,a.eval y]).run P w=.ok (.slice (some ad) 0 0) w:=(by simp[Builtin.append_,run_underlying hu,sizeOf,typeInfo,hi,iN,kG,storeCells]);refine Tv (bo:=g.bo id) (st:=st') (cp:=g.cp id) H aU (Lw P o a.eval x y tx _ _ _ w _ ho e1 rfl run) (by rw[bq];rfl) rfl (fun b _=>rfl) rfl rfl rfl rfl ?_;intro g' aC aN cu bw b5 bJ;refine⟨⟨bw,h0,by omega,arr,ty,by rw[aN];exact hr,by rw[cu,b5];exact aX,fun k hk=>absurd hk (NZ _)⟩,?_⟩;exact .vec _ _ _ _ _ rfl (by rw[bJ,bq];exact A8 _) (fun _=>⟨ad,0,rfl,A8 _,.inl rfl⟩)
   ·have kG:(Builtin.firstCells i.size m (a.eval y)).run P w=.ok (B4 st' m vals).toArray w:=by
     rcases E7 m with e0|e0
     ·subst e0;rw[se];cases sad with
      |none=>simp[Builtin.firstCells,B4]
      |some q=>simp[Builtin.firstCells,loadCells,loadCellsFrom,B4]
     ·obtain⟨b,off,scap',e2,bU⟩:=src.news e0;rw[e2];exact run_firstCells_some (P:=P) w i.size m ⟨b,off,none⟩ m scap' _ (by rw[ED,aO]) bU
    have fR:g.bo id+lo*g.st id+n*i.size+(B4 st' m vals).length<=arr.size:=(by rw[ED,aL,aO];have:(lo+(n+m))*st'<=g.cp id*st':=Bd _ (by omega);rw[AT,AT]at this;omega);have run:=qz1v (P:=P) (w:=w) o.type e tx i hu hi (g.blk id) (g.bo id+lo*g.st id) n cap arr ty hr (a.eval y) m (B4 st' m vals) iN kG (wzro src) cU fR (by intro k hk;rw[hu]at hk;cases hk);rw[<-e1]at run;have aF:=setRow_heap w (g.blk id) arr (arr.toList.take (g.bo id+lo*g.st id+n*i.size)++B4 st' m vals++arr.toList.drop (g.bo id+lo*g.st id+n*i.size+(B4 st' m vals).length)).toArray ty (0,0) hr;refine Tv (bo:=g.bo id+lo*st') (st:=st') (cp:=cap) H aU (Lw P o a.eval x y tx _ _ _ w _ ho rfl rfl run) (by rw[bq];rfl) rfl (fun b hb=>setRow_other w (g.blk id) b _ hb) (by simp) rfl rfl rfl ?_;intro g' aC aN cu bw b5 bJ;refine⟨Lz h0 aN cu bw b5 cU aF ?_ fQ ?_,?_⟩
    ·have e5:=ED st' m vals;have:(lo+cap)*st'=g.cp id*st':=(by rw[hc]);rw[AT]at this;simp only[Gci,Dv,Gs,H5,Array.length_toList];omega
    ·intro k j hk hj;have fh:=G0 arr.toList (B4 st' m vals) (g.bo id+lo*g.st id+n*i.size) (g.bo id+lo*st'+k*st'+j) (by simpa using fR);have gw:=aC;rw[aL,aO]at gw;rw[NV,fh,aL,aO];by_cases cH:k<n
     ·have cD:=DS cH hj;rw[Aj (by omega)];obtain⟨u,q1,q2,q3⟩:=be k j cH hj;have e4:g.bo id+lo*st'+k*st'+j=g.bo id+(lo+k)*st'+j:=by rw[AT];omega
      refine⟨u,by rw[e4];simpa using q1,q2,fun x hx=>?_⟩;simp only[Aj cH]at hx;exact(q3 x hx).mono gw
     ·have e5:k*st'=n*st'+(k-n)*st':=(by rw[<-AT];congr 1;omega);have cD:=DS (k:=k-n) (n:=m) (st:=st') (j:=j) (by omega) hj;rw[Ag (by omega),Aj (by rw[ED];omega)];have e6:g.bo id+lo*st'+k*st'+j-(g.bo id+lo*st'+n*st')=(k-n)*st'+j:=(by omega);rw[e6];refine⟨_,HM (by omega) hj,src.one _ _ (by omega) hj,fun x hx=>?_⟩;simp only[Ag cH]at hx;exact(src.rv _ _ x (by omega) hx).mono gw
    ·exact .vec _ _ _ _ _ rfl (by rw[bJ,bq];exact A8 _) (fun _=>⟨_,cap,rfl,cU,.inr ⟨by rw[aN,cu,bw,aL];simp,by omega⟩⟩)
  ·-- it grows
   have hm:0<m:=by omega
   obtain⟨b,off,scap,e2,bU⟩:=src.news hm
   have iP:∃olds:List Value,olds=B4 st' n (fun k j=>arr.getD (g.bo id+(lo+k)*st'+j) undef)/\∀q u,olds[q]?=some u->w.cell? (ad.add q)=some u:=by
    refine⟨_,rfl,fun q u hq=>?_⟩;obtain⟨k,j,hk,hj,rfl,rfl⟩:=HN hq;rcases hc with cR|⟨rfl,hc⟩
    ·omega
    ·rw[DQ];obtain⟨u,q1,_,_⟩:=be k j hk hj;have e4:g.bo id+lo*g.st id+(k*st'+j)=g.bo id+(lo+k)*st'+j:=by rw[aL,AT];omega
     have hlt:=(Gr.1 q1).1;simp[World.cell?,hr,e4,hlt]
   obtain⟨olds,rfl,iQ⟩:=iP;have run:=run_append_grow (P:=P) w tx o.type e i z hu hi br ad n cap _ (by rw[ED,aO]) iQ ⟨b,off,none⟩ m scap (B4 st' m vals) (by rw[ED,aO]) bU (by omega) iO (growslice_fits (by omega) (by rw[ic];exact bT));have hge:=Oo w (n+m) cap e;refine Ran.new (bo:=0) (st:=st') (cp:=grownCap w (n+m) cap e) H ⟨w.drew,rfl,rfl,rfl,rfl,H8 _,Lw P o a.eval x y tx _ _ _ w _ ho e1 e2 run⟩ (by rw[bq];rfl) ?_;intro g' w' aC aN cu bw b5 aM;refine⟨Lz h0 aN cu bw b5 hge aM ?_ fQ (fun k j hk hj=>?_),fun he=>?_⟩
   ·rw[Gag,Gag,size_zeroCells,dT];simp only[Gci,ED];have:(grownCap w (n+m) cap e-(n+m))*st'+(n+m)*st'=grownCap w (n+m) cap e*st':=by rw[<-AT];congr 1;omega
    rw[AT]at this;omega
   ·have cD:=DS (k:=k) (n:=n+m) (st:=st') (j:=j) hk hj;rw[AT]at cD;rw[Bq,Gaa (by simp[ED];omega)];by_cases cH:k<n
    ·have dy:=DS cH hj;rw[Gaa (by simp[ED];exact dy)];obtain⟨u,q1,q2,q3⟩:=be k j cH hj;refine⟨u,?_,q2,fun x hx=>?_⟩
     ·have:=HM (vals:=fun k j=>arr.getD (g.bo id+(lo+k)*st'+j) undef) cH hj;have hlt:=(Gr.1 q1).1;have nq:=(Gr.1 q1).2;rw[NV,this];simp[hlt,nq]
     ·simp only[Aj cH]at hx;exact(q3 x hx).mono aC
    ·have e5:k*st'=n*st'+(k-n)*st':=(by rw[<-AT];congr 1;omega);rw[Array.getElem?_append_right (by simp[ED];omega)];simp only[Gci,ED];have e6:k*st'+j-n*st'=(k-n)*st'+j:=by omega
     rw[e6];refine⟨_,by rw[NV];exact HM (by omega) hj,src.one _ _ (by omega) hj,fun x hx=>?_⟩;simp only[Ag cH]at hx;exact(src.rv _ _ x (by omega) hx).mono aC
   ·rw[bq]at he;exact .vec _ _ _ _ _ rfl (by rw[he];exact A8 _) (fun _=>Lu aN cu b5 hge)
end
section
variable {E:Nat->Aa}{P:Program}{g:Gh}{h:Aq}{w:World}{t:List Aa}{a:Act}
theorem Oq{s:Sem Next}{rd:List Nat}{p:Prop}{i:Nat}{o':Ad}{x:Aa}{v:Value}{n:Next}{w1:World}{ob ob0:Obj}(H:HR E g h w)(aU:(h i).owned=true)(hd:w1=w\/w1=w.drew) (hb:w.heap[g.blk i]?=some ob0)(hr:s.run P w=.ok n { w1 with heap:=w1.heap.setIfInBounds (g.blk i) ob }) (hn:n=.value v\/(n=.skip/\v=undef))(bJ:o'.ep=(h i).ep) (dC:∀w',GLe g w g w'->w'.heap[g.blk i]?=some ob->OR g w' i o'/\RV g w' x v):Ran E P s g h w ⟨p,rd,x,some (i,o')⟩:=by
 have bK:=H.sep i aU;have hh:w1.heap=w.heap:=by rcases hd with rfl|rfl<;>rfl
 have gu:w1.os=w.os:=by rcases hd with rfl|rfl<;>rfl
 have mg:w1.tape=w.tape:=by rcases hd with rfl|rfl<;>rfl
 have hout:w1.output=w.output:=by rcases hd with rfl|rfl<;>rfl
 have hlt:g.blk i<w.heap.size:=(Gr.1 hb).1
 let w':World:={ w1 with heap:=w1.heap.setIfInBounds (g.blk i) ob }
 have iR:∀b,b≠g.blk i->w'.heap[b]?=w.heap[b]?:=fun b bg=>by show(w1.heap.setIfInBounds (g.blk i) ob)[b]?=_;rw[hh];simp[Ne.symm bg]
 have bp:w'.heap[g.blk i]?=some ob:=by show(w1.heap.setIfInBounds (g.blk i) ob)[g.blk i]?=_;rw[hh];simp[hlt]
 have aO:w'.heap.size=w.heap.size:=by show(w1.heap.setIfInBounds (g.blk i) ob).size=_;rw[hh];simp
 have aC:GLe g w g w':=⟨fun b bg=>⟨bg,iR b (fun e=>bK (e▸bg))⟩,fun _=>A8 _,fun _ _=>⟨rfl,rfl,rfl,rfl⟩⟩;obtain⟨hO,hV⟩:=dC w' aC bp;obtain⟨H',S'⟩:=HR.upd (g':=g) (w':=w') (i:=i) (o':=o') H aC (fun _ _=>rfl) ((H.ep i).trans bJ.symm) (fun b bg aH=>iR b (aH aU)) (by omega) hO (fun _=>.inl ⟨aU,rfl⟩) (fun _=>bK) (fun b bg=>.inl bg) (fun b bg=>by rw[aO];exact H.fzb b bg) gu mg hout (by rcases hd with rfl | rfl;exact A8 _;exact H8 _);exact⟨n,v,w',g,hr,hn,hV,H',S',fun e=>by cases e⟩
theorem qz7q{o:Oper}{ty:TypeId}{s:Nat}(H:HR E g h w)(ho:o.op=.makeMap ty none) :
  Ran E P (execOp a.eval o) g h w ((An.mkmap s).req (Ah E t) h):=by
 simp only[An.req];refine Ran.new (ob:=.map #[] 0) (bo:=0) (st:=0) (cp:=0) (v:=.map (some w.heap.size)) H ⟨w,rfl,rfl,rfl,rfl,A8 _,?_⟩ rfl ?_
 ·have e:(Instr.makeMap ty none).run P w=.ok (.map (some w.heap.size)) (w.alloc (.map #[] 0)):=rfl;simp[execOp,ho,e,Result.andThen]
 intro g' w' aC aN _ _ _ aM;refine⟨⟨#[],by rw[aN];exact aM,rfl,fun k e m he=>by simp at he⟩,fun he=>?_⟩;exact .mp _ _ _ rfl (by rw[he];exact A8 _) (fun _=>by rw[aN])
def CG:TypeDesc->Option Nat
 |.bool=>some 0
 |.int _=>some 1
 |.string=>some 2
 |_=>none
inductive Tw(P:Program)(kt:TypeId)(kd:Nat):Prop where
 |one (d:TypeDesc) (hd:P.underlying kt=some d) (hk:CG d=some kd)
 |row (sh:List Nat) (hw:(match P.underlying kt with | some (.array _ _) | some (.struct _)=>true | _=>false)=true) (hs:eqFields P 9 kt=some sh) (h4:∀k∈sh,k<4) (hk:kd=4+encK sh)
theorem Tx:∀{l m:List Nat},(∀k∈l,k<4)->(∀k∈m,k<4)->encK l=encK m->l=m
 |[],[],_,_,_=>rfl
 |[],k :: m,_,_,h=>by simp only[encK]at h;omega
 |k :: l,[],_,_,h=>by simp only[encK]at h;omega
 |k :: l,j :: m,hl,hm,h=>by
  simp only[encK]at h;have h1:=hl k (AP ..);have h2:=hm j (AP ..);have e1:k=j:=by omega
  have e2:l=m:=Tx (fun x hx=>hl x (AQ _ hx)) (fun x hx=>hm x (AQ _ hx)) (by omega);rw[e1,e2]
theorem Ty(x:Aa):x.kind<4:=by cases x<;>simp[Aa.kind]
theorem wzjo(l:List Aa):∀k∈l.map Aa.kind,k<4:=fun k h=>by obtain⟨x,_,rfl⟩:=C7.1 h;exact Ty x
theorem Ot{kt:TypeId}{kd:Nat}(hk:CE P kt=some kd):Tw P kt kd:=by
 unfold CE at hk
 have wide:∀(h:(match P.underlying kt with | some (.array _ _) | some (.struct _)=>true | _=>false)=true),(match eqFields P 9 kt with
  |some l=>if l.all (fun k=>Nat.blt k 4) then some (4+encK l) else none
  | none=>none)=some kd->Tw P kt kd:=by
  intro hw h;cases hs:eqFields P 9 kt with
  |none=>simp[hs]at h
  |some sh =>
   simp only[hs]at h;split at h
   ·rename_i ha;exact .row sh hw hs (fun k hk=>by have:=CS.1 ha k hk;simpa [Gt] using this) (AJ h).symm
   ·cases h
 cases hu:P.underlying kt with
 |none=>simp[hu]at hk
 |some d =>simp only[hu]at hk;cases d<;>simp only at hk<;>(try (cases hk;done))<;>first|exact .one _ hu hk|exact wide (by rw[hu]) hk
theorem Tz{x:Aa}{kd:Nat}(h:x.kkind=kd)(hk:kd<4):x.kind=kd:=by cases x<;>simp only[Aa.kkind]at h<;>first|exact h|omega
theorem T5{d:TypeDesc}{kd:Nat}(hd:CG d=some kd):kd<4:=by cases d<;>simp[CG]at hd<;>omega
theorem T6{x y:Aa}{u v:Value}{c:Bool}{d:TypeDesc}{kd:Nat}(hd:CG d=some kd)(b7:x.kind=kd)(he:DO x y=some c)(hx:RV g w x u)(hy:RV g w y v) :
  Instr.sameNow d u v=some c/\(c=true->u=v):=by
 unfold DO at he;split at he
 ·simp only[Aa.kind]at b7;subst b7;cases d<;>simp[CG]at hd
 ·rename_i k n k' n';obtain rfl:=E9 hx;obtain rfl:=E9 hy;simp only[Aa.kind]at b7;subst b7;split at he
  ·rename_i e;subst e;obtain rfl:=AJ he;cases d<;>simp[CG]at hd;refine⟨by simp[Instr.sameNow];first|done|rfl,fun e=>by simp at e;rw[e]⟩
  ·cases he
 ·obtain rfl:=CX hx;obtain rfl:=CX hy;simp only[Aa.kind]at b7;subst b7;obtain rfl:=AJ he;cases d<;>simp[CG]at hd;refine⟨by simp[Instr.sameNow],fun e=>by simp at e;rw[e]⟩
 ·rename_i a b;obtain⟨p,rfl,hp⟩:=EA hx;obtain⟨q,rfl,hq⟩:=EA hy;simp only[Aa.kind]at b7;subst b7;obtain rfl:=AJ he;cases d<;>simp[CG]at hd
  have jV:(p==q)=decide (a=b):=by
   by_cases e:a=b
   ·have:p=q:=by
     obtain⟨⟨p⟩⟩:=p;obtain⟨⟨q⟩⟩:=q;simp at hp hq;subst hp;subst hq;rw[e]
    simp[e,(MapKept.bytes_beq p q).2 this]
   ·have:p≠q:=fun e'=>e (by rw[<-hp,<-hq,e'])
    have h2:(p==q)=false:=by
     cases hh:p==q
     ·rfl
     ·exact absurd ((MapKept.bytes_beq p q).1 hh) this
    simp[e,h2]
  refine⟨by simp[Instr.sameNow,jV],fun e=>?_⟩;rw[<-jV]at e;rw[(MapKept.bytes_beq p q).1 e]
 ·cases he
theorem T7{X:Aa}{u:Value}{d:TypeDesc}{kd:Nat}(hd:CG d=some kd)(b7:X.kind=kd)(hx:RV g w X u):∀(es:List (Aa×Aa)) (ms:List MapEntry) (i:Nat) {r:Option (Nat×Aa)},ms.length=es.length -> (∀(k:Nat) (e:Aa×Aa) (m:MapEntry),es[k]?=some e->ms[k]?=some m->RV g w e.1 m.key/\RV g w e.2 m.val)->Cb X es i=some r -> (r=none/\Instr.findNow d u ms i=some none)\/∃j m v,r=some (i+j,v)/\ms[j]?=some m/\m.key=u/\RV g w v m.val/\Instr.findNow d u ms i=some (some (i+j,m.val))
 |[],[],i,r,_,_,hf=>.inl ⟨by simp only[Cb,Ba]at hf;exact hf.symm,rfl⟩
 |e :: es,m :: ms,i,r,hl,hr,hf=>by
  have h0:=hr 0 e m rfl rfl;simp only[Cb]at hf;split at hf
  ·rename_i hk;obtain⟨h1,h2⟩:=T6 hd b7 hk hx h0.1;obtain rfl:=AJ hf;exact .inr ⟨0,m,e.2,rfl,rfl,(h2 rfl).symm,h0.2,by simp[Instr.findNow,h1]⟩
  ·rename_i hk;obtain⟨h1,_⟩:=T6 hd b7 hk hx h0.1;rcases T7 hd b7 hx es ms (i+1) (by simpa using hl) (fun k e' m' he hm=>hr (k+1) e' m' (by simpa using he) (by simpa using hm)) hf with ⟨e1,e2⟩ | ⟨j,m',v,e1,e2,e3,e4,e5⟩
   ·exact .inl ⟨e1,by simp[Instr.findNow,h1,e2]⟩
   ·exact .inr ⟨j+1,m',v,by rw[e1];simp;omega,by simpa using e2,e3,e4,by simp[Instr.findNow,h1,e5];omega⟩
  ·cases hf
 |[],_ :: _,_,_,h,_,_=>by simp at h
 |_ :: _,[],_,_,h,_,_=>by simp at h
theorem qz1x{kt:TypeId}{d:TypeDesc}{kd:Nat}{k:Value}(hu:P.underlying kt=some d)(hd:CG d=some kd)(e:Bool)(n:Nat):(Instr.checkKey e (n+1) kt k).run P w=.ok () w:=by unfold Instr.checkKey;simp only[Sem.run_bind,run_underlying hu,Result.andThen];cases d<;>simp[CG]at hd<;>cases k<;>rfl
theorem T8{kt:TypeId}{sh:List Nat}(hs:eqFields P 9 kt=some sh)(hq:D1 P kt=some true){l:List Aa}{u:Value}(hl:l.map Aa.kind=sh)(hx:RV g w (.agg l) u):∀(es:List (Aa×Aa)) (ms:List MapEntry) (i:Nat) {r:Option (Nat×Aa)},ms.length=es.length -> (∀(k:Nat) (e:Aa×Aa) (m:MapEntry),es[k]?=some e->ms[k]?=some m->RV g w e.1 m.key/\RV g w e.2 m.val)->Cb (.agg l) es i=some r -> (r=none/\(Instr.findAsking kt u ms i).run P w=.ok none w)\/∃j m v,r=some (i+j,v)/\ms[j]?=some m/\m.key=u/\RV g w v m.val/\(Instr.findAsking kt u ms i).run P w=.ok (some (i+j,m.val)) w
 |[],[],i,r,_,_,hf=>.inl ⟨by simp only[Cb,Ba]at hf;exact hf.symm,by simp[Instr.findAsking]⟩
 |e :: es,m :: ms,i,r,hn,hr,hf=>by
  have h0:=hr 0 e m rfl rfl
  have key:∀c,DO (.agg l) e.1=some c->(Op.equal kt u m.key).run P w=.ok c w/\(c=true->u=m.key):=by
   intro c hc;obtain⟨e1,e2⟩:=e;cases e1<;>simp only[DO]at hc<;>(try (cases hc;done));rename_i m';obtain⟨h0,_⟩:=h0;simp only at h0;generalize m.key=v at *;cases hx with
   |agg _ xs fe fP =>
    cases h0 with
    |agg _ ys kD kE =>have cw:RVs g w l xs.toList:=⟨by simpa using fe,fun i x v hx hv=>fP i x v hx (by simpa using hv)⟩;have jT:RVs g w m' ys.toList:=⟨by simpa using kD,fun i x v hx hv=>kE i x v hx (by simpa using hv)⟩;obtain⟨agg,bh,_,aP⟩:=Ts (P:=P) (g:=g) (w:=w) 9 kt sh hs;obtain rfl:agg=true:=(by rw[hq]at bh;exact(AJ bh).symm);have hq:=aP 10000 (by omega) l m' _ _ c w hl cw jT hc;simp only[CF,AZ,Jx]at hq;refine⟨by simpa [Op.equal,Op.maxDepth] using hq,fun e=>?_⟩;subst e;have:=Tt cw jT hc;rw[Array.toList_inj.1 this]
  simp only[Cb]at hf;split at hf
  ·rename_i hk;obtain⟨h1,h2⟩:=key _ hk;obtain rfl:=AJ hf;exact .inr ⟨0,m,e.2,rfl,rfl,(h2 rfl).symm,h0.2,by simp[Instr.findAsking,h1,Result.andThen]⟩
  ·rename_i hk;obtain⟨h1,_⟩:=key _ hk;rcases T8 hs hq hl hx es ms (i+1) (by simpa using hn) (fun k e' m' he hm=>hr (k+1) e' m' (by simpa using he) (by simpa using hm)) hf with ⟨e1,e2⟩ | ⟨j,m',v,e1,e2,e3,e4,e5⟩
   ·exact .inl ⟨e1,by simp[Instr.findAsking,h1,e2,Result.andThen]⟩
   ·exact .inr ⟨j+1,m',v,by rw[e1];simp;omega,by simpa using e2,e3,e4,by simp[Instr.findAsking,h1,e5,Result.andThen];omega⟩
  ·cases hf
 |[],_ :: _,_,_,h,_,_=>by simp at h
 |_ :: _,[],_,_,h,_,_=>by simp at h
theorem T9{kt:TypeId}{sh:List Nat}(hw:(match P.underlying kt with | some (.array _ _) | some (.struct _)=>true | _=>false)=true):D1 P kt=some true:=by
 cases hu:P.underlying kt with
 |none=>simp[hu]at hw
 |some d=>cases d<;>simp[hu]at hw<;>simp[D1,hu]
theorem Ou{X:Aa}{u:Value}{sh:List Nat}{kd:Nat}(h4:∀k∈sh,k<4)(hk:kd=4+encK sh)(hX:X.kkind=kd)(hx:RV g w X u):∃l xs,X=.agg l/\u=.agg xs/\l.map Aa.kind=sh/\RVs g w l xs.toList:=by
 subst hk;have hlt:=Ty X;cases X<;>simp only[Aa.kkind]at hX<;>(try (simp only[Aa.kind]at hX hlt;omega));rename_i l;cases hx with
 |agg _ xs fe fP=>exact⟨l,xs,rfl,rfl,Tx (wzjo l) h4 (by omega),⟨by simpa using fe,fun i x v hx hv=>fP i x v hx (by simpa using hv)⟩⟩
theorem Ov{kt:TypeId}{kd:Nat}{X:Aa}{u:Value}(hk:CE P kt=some kd)(hX:X.kkind=kd)(hx:RV g w X u){es:List (Aa×Aa)}{ms:List MapEntry}{r:Option (Nat×Aa)}(hn:ms.length=es.length)(hr:∀(k:Nat) (e:Aa×Aa) (m:MapEntry),es[k]?=some e->ms[k]?=some m->RV g w e.1 m.key/\RV g w e.2 m.val) (hf:Cb X es 0=some r) : (r=none/\(Instr.findKey kt u ms).run P w=.ok none w)\/∃j m v,r=some (j,v)/\ms[j]?=some m/\m.key=u/\RV g w v m.val/\(Instr.findKey kt u ms).run P w=.ok (some (j,m.val)) w:=by
 cases Ot hk with
 |one d hd hk =>
  rcases T7 hk (Tz hX (T5 hk)) hx es ms 0 hn hr hf with ⟨e1,e2⟩|⟨j,m,v,e1,e2,e3,e4,e5⟩
  ·exact .inl ⟨e1,MapKept.run_findKey hd e2⟩
  ·exact .inr ⟨j,m,v,by simpa using e1,e2,e3,e4,MapKept.run_findKey hd (by simpa using e5)⟩
 |row sh hw hs h4 hk =>
  obtain⟨l,xs,rfl,rfl,hl,_⟩:=Ou h4 hk hX hx;rcases T8 hs (T9 (sh:=sh) hw) hl hx es ms 0 hn hr hf with ⟨e1,e2⟩|⟨j,m,v,e1,e2,e3,e4,e5⟩
  ·exact .inl ⟨e1,by rw[run_findKey_eq w hw];exact e2⟩
  ·exact .inr ⟨j,m,v,by simpa using e1,e2,e3,e4,by rw[run_findKey_eq w hw];simpa using e5⟩
theorem JA{kt:TypeId}{kd:Nat}{X:Aa}{u:Value}(hk:CE P kt=some kd)(hX:X.kkind=kd)(hx:RV g w X u)(e:Bool):(Instr.checkKey e 10000 kt u).run P w=.ok () w:=by
 cases Ot hk with
 |one d hd hk=>exact qz1x hd hk e _
 |row sh hw hs h4 hk =>
  obtain⟨l,xs,rfl,rfl,hl,cw⟩:=Ou h4 hk hX hx;obtain⟨agg,bh,_,aP⟩:=qzr8 (P:=P) 9 kt sh hs;obtain rfl:agg=true:=by rw[T9 (sh:=sh) hw]at bh;exact(AJ bh).symm
  have:=aP 10000 (by omega) xs.toList e w (by have:=cw.1;rw[<-hl,Jz];omega);simpa [CF] using this
theorem Ow{id ep:Nat}{v:Value}(H:HR E g h w)(hv:RV g w (.mp id ep) v)(he:ep=(h id).ep):v=.map (some (g.blk id)):=by
 cases hv with
 |mp _ _ _ _ _ hp=>exact hp (by rw[H.ep id];exact he)
theorem qz97{X:Aa}{v:Value}(H:HR E g h w)(hv:RV g w X v)(aB:(BN X h).ok) : (v=.map none/\(BN X h).es=[])\/∃r arr,v=.map (some r)/\w.heap[r]?=some (.map arr (BN X h).es.length)/\arr.size=(BN X h).es.length /\ ∀(k:Nat) (e:Aa×Aa) (m:MapEntry),(BN X h).es[k]?=some e->arr[k]?=some m->RV g w e.1 m.key/\RV g w e.2 m.val/\m.born=k:=by
 cases X<;>simp only[BN]at aB |-<;>(try (exact aB.elim))
 case nilmp=>cases hv;exact .inl ⟨rfl,trivial⟩
 case mp id ep =>cases hh:h id<;>simp only[hh]at aB |-<;>(try (exact aB.elim));rename_i ep' es;have hO:=H.obj id;rw[hh]at hO;obtain⟨arr,h1,h2,h3⟩:=hO;exact .inr ⟨g.blk id,arr,Ow H hv (by rw[hh];exact aB),h1,h2,h3⟩
theorem qzx6{et:TypeId}{zero:Aa}(hz:Lq P et zero=true):∃z,(zeroValue et).run P w=.ok z w/\RV g w zero z:=by
 unfold Lq at hz;cases hi:P.info? et with
 |none=>simp[hi]at hz
 |some i =>
  cases br:i.zero with
  |none=>obtain⟨⟩:=i;simp only at br;subst br;simp[hi]at hz
  |some z =>
   have fM:J6 z zero=true:=by obtain⟨⟩:=i;simp only at br;subst br;simpa [hi] using hz
   exact⟨z,by simp[zeroValue,typeInfo,hi,br],SS fM⟩
theorem Ox{x:Aa}{v:Value}{b:Bool}(hx:RV g w x v):RV g w (.tup [x,.bool b]) (.tuple #[v,.bool b]):=by
 refine .tup _ _ rfl fun i y u hy hu=>?_
 match i with
 |0=>simp at hy hu;subst hy;subst hu;exact hx
 |1=>simp at hy hu;subst hy;subst hu;exact .bool _
 |n+2=>simp at hy
theorem qz7o{o:Oper}{ty kt et:TypeId}{kd:Nat}{cok:Bool}{zero:Aa}{x k:Operand}{x' k':Ae}(H:HR E g h w)(ht:RVs g w t a.tmps.toList)(ho:o.op=.lookup ty x k cok)(hx:A6 x x'=true)(hk:A6 k k'=true)(hu:P.underlying ty=some (.map kt et)) (b7:CE P kt=some kd) (hz:Lq P et zero=true)(aB:((An.mlook kd cok zero x' k').req (Ah E t) h).ok):Ran E P (execOp a.eval o) g h w ((An.mlook kd cok zero x' k').req (Ah E t) h):=by
 have rx:=AV H ht hx;have rk:=AV H ht hk;obtain⟨z,dj,gy⟩:=qzx6 (g:=g) (w:=w) hz;simp only[An.req,E8]at aB |-;generalize Ah E t x'=X at *;generalize Ah E t k'=K at *;generalize fp:a.eval x=vx at rx;generalize ie:a.eval k=vk at rk;cases hf:Cb K (BN X h).es 0 with
 |none=>simp only[hf,Req.fail]at aB
 |some r =>
  have bb:(BN X h).ok/\K.kkind=kd:=by cases r<;>simp only[hf]at aB<;>exact aB
  rcases qz97 H rx bb.1 with ⟨rfl,mh⟩|⟨r',arr,rfl,hb,aO,hr⟩
  ·rw[mh]at hf
   have gz:(Instr.findKey kt vk []).run P w=.ok none w:=by
    rcases Ov b7 bb.2 rk (es:=[]) (ms:=[]) rfl (fun k e m he=>by simp at he) hf with ⟨_,h2⟩ | ⟨j,m,v,_,h2,_⟩
    ·exact h2
    ·simp at h2
   simp only[Cb,Ba]at hf;subst hf;simp only[mh];refine Ran.same H (v:=if cok then .tuple #[z,.bool false] else z) ?_ ?_
   ·simp[execOp,ho,fp,ie,Instr.lookup,run_underlying hu,JA b7 bb.2 rk,gz,dj,Result.andThen]
   ·cases cok;·exact gy
    ·exact Ox gy
  ·rcases Ov b7 bb.2 rk (ms:=arr.toList) (by simpa using aO) (fun k e m he hm=>⟨(hr k e m he (by simpa using hm)).1,(hr k e m he (by simpa using hm)).2.1⟩) hf with ⟨rfl,h2⟩ | ⟨j,m,v,rfl,h2,h3,h4,h5⟩
   ·simp only;refine Ran.same H (v:=if cok then .tuple #[z,.bool false] else z) ?_ ?_
    ·simp[execOp,ho,fp,ie,Instr.lookup,run_underlying hu,MapKept.run_getObj_map hb,JA b7 bb.2 rk,h2,dj,Result.andThen]
    ·cases cok;·exact gy
     ·exact Ox gy
   ·simp only;refine Ran.same H (v:=if cok then .tuple #[m.val,.bool true] else m.val) ?_ ?_
    ·simp[execOp,ho,fp,ie,Instr.lookup,run_underlying hu,MapKept.run_getObj_map hb,JA b7 bb.2 rk,h5,Result.andThen]
    ·cases cok;·exact h4
     ·exact Ox h4
theorem wzhn{x:Aa}{v:Value}(hk:x.kind<3)(hv:RV g w x v)(n:Nat):Instr.sameBits n v v=true:=by cases hv<;>simp only[Aa.kind]at hk<;>(try omega)<;>(try (simp[Instr.sameBits];done));simp[Instr.sameBits,MapKept.bytes_beq]
theorem qzyo{K:Aa}{kd:Nat}{d:TypeDesc}{v:Value}(hd:CG d=some kd)(hk:K.kind=kd)(hv:RV g w K v)(n:Nat):Instr.sameBits n v v=true:=by
 cases hv<;>simp only[Aa.kind]at hk<;>(try (simp[Instr.sameBits];done))
 case str b _=>simp[Instr.sameBits,MapKept.bytes_beq]
 all_goals (subst hk;cases d<;>simp[CG]at hd)
theorem TA:∀{l:List Aa} {xs:List Value} (n:Nat),(∀x∈l,x.kind<3)->RVs g w l xs->(xs.zip xs).all (fun p=>Instr.sameBits n p.1 p.2)=true
 |[],xs,n,_,hx=>by have:xs=[]:=NU (by simpa using hx.1);rw[this];rfl
 |x :: l,[],n,_,hx=>by have:=hx.1;simp at this
 |x :: l,v :: xs,n,hk,hx=>by simp only[List.zip_cons_cons,List.all_cons,AH];exact⟨wzhn (hk x (AP ..)) (hx.2 0 x v rfl rfl) n,TA n (fun y hy=>hk y (AQ _ hy)) (by have:=hx.drop 1;simpa using this)⟩
theorem qz7b:∀(d:Nat) (t:TypeId) (sh:List Nat),eqFields P d t=some sh->∀k∈sh,k<3:=by
 intro d;induction d with
 |zero=>intro t sh h;simp[eqFields]at h
 |succ d ih =>
  intro t sh h;simp only[eqFields]at h;cases hu:P.underlying t with
  |none=>simp[hu]at h
  |some q =>
   simp only[hu]at h;cases q<;>simp only at h<;>(try (cases h;done))
   case struct fs =>
    split at h
    ·cases h
    ·have go:∀(fl:List Field) (n:Nat) (sh:List Nat),CD P (eqFields P d) fl n=some sh->∀k∈sh,k<3:=by
      intro fl;induction fl with
      |nil=>intro n sh h1 k hk;simp only[CD,Ba]at h1;subst h1;cases hk
      |cons f fl ihf =>
       intro n sh h1 k hk;simp only[CD]at h1;split at h1
       ·cases hm:eqFields P d f.type with
        |none=>simp[hm]at h1
        |some sm =>
         simp only[hm]at h1;split at h1
         ·cases hg:CD P (eqFields P d) fl (n+sm.length) with
          |none=>simp[hg]at h1
          |some sl =>
           simp only[hg,Ba]at h1;subst h1;rcases Dx.1 hk with hk|hk
           ·exact ih _ _ hm k hk
           ·exact ihf _ _ hg k hk
         ·cases h1
       ·cases h1
     exact go fs.toList 0 sh h
   case array n el =>
    cases hm:eqFields P d el with
    |none=>simp[hm]at h
    |some sm =>
     simp only[hm]at h;split at h
     ·obtain rfl:=AJ h;intro k hk;obtain⟨l,hl,ew⟩:=List.mem_flatten.1 hk;obtain⟨_,rfl⟩:=List.mem_replicate.1 hl;exact ih _ _ hm k ew
     ·cases h
   all_goals
    obtain rfl:=AJ h;intro k hk;simp at hk;omega
theorem qz0i{kt:TypeId}{kd:Nat}{X:Aa}{u:Value}(hk:CE P kt=some kd)(hX:X.kkind=kd)(hx:RV g w X u):(Instr.keyThatStays u u).run P w=.ok u w:=by
 have:Instr.sameBits 10000 u u=true:=by
  cases Ot hk with
  |one d hd hk=>exact qzyo hk (Tz hX (T5 hk)) hx _
  |row sh hw hs h4 hk =>obtain⟨l,xs,rfl,rfl,hl,cw⟩:=Ou h4 hk hX hx;simp only[Instr.sameBits,AH];refine⟨by simp,TA _ (fun x hx=>?_) cw⟩;exact qz7b 9 kt sh hs _ (hl▸SK hx)
 simp[Instr.keyThatStays,this]
theorem TC{o:Oper}{ty kt et:TypeId}{kd:Nat}{x k v:Operand}{x' k' v':Ae}(H:HR E g h w)(ht:RVs g w t a.tmps.toList)(ho:o.op=.mapUpdate ty x k v\/o.op=.insert ty x k v)(hx:A6 x x'=true)(hk:A6 k k'=true)(hv:A6 v v'=true)(hu:P.underlying ty=some (.map kt et)) (b7:CE P kt=some kd)(aB:((An.mupd kd x' k' v').req (Ah E t) h).ok):Ran E P (execOp a.eval o) g h w ((An.mupd kd x' k' v').req (Ah E t) h):=by
 have rx:=AV H ht hx;have rk:=AV H ht hk;have rv:=AV H ht hv;simp only[An.req,Ct]at aB |-;generalize Ah E t x'=X at *;generalize Ah E t k'=K at *;generalize Ah E t v'=V at *;generalize fp:a.eval x=vx at rx;generalize ie:a.eval k=vk at rk;generalize jQ:a.eval v=vv at rv;cases X<;>simp only[Req.fail]at aB |-;rename_i id ep;cases hh:h id<;>simp only[hh]at aB |-<;>(try (exact aB.elim));rename_i ep' es;have hO:=H.obj id;rw[hh]at hO;obtain⟨arr,hb,aO,hr⟩:=hO;have aU:(h id).owned=true:=by rw[hh];rfl
 cases hf:Cb K es 0 with
 |none=>simp only[hf]at aB
 |some r =>
  have bb:ep=ep'/\K.kkind=kd:=by cases r<;>simp only[hf]at aB<;>exact aB
  obtain rfl:=Ow H rx (by rw[hh];exact bb.1);rcases Ov b7 bb.2 rk (ms:=arr.toList) (by simpa using aO) (fun k e m he hm=>⟨(hr k e m he (by simpa using hm)).1,(hr k e m he (by simpa using hm)).2.1⟩) hf with ⟨rfl,h2⟩ | ⟨j,m,v0,rfl,h2,h3,h4,h5⟩
  ·simp only;refine Oq (n:=.skip) (v:=undef) (ob:=.map (arr.push { key:=vk,val:=vv,born:=es.length }) (es.length+1)) H aU (.inl rfl) hb ?_ (.inr ⟨rfl,rfl⟩) (by rw[hh];rfl) ?_
   ·rcases ho with ho|ho<;>simp[execOp,ho,fp,ie,jQ,Instr.mapUpdate,run_underlying hu,MapKept.run_getObj_map hb,JA b7 bb.2 rk,h2,MapKept.run_setObj_map _ hb,Result.andThen]
   ·intro w' aC iS;refine⟨⟨arr.push { key:=vk,val:=vv,born:=es.length },by rw[iS];simp,by simp[aO],fun i e m he hm=>?_⟩,.top _⟩;rw[Oa]at hm;rw[List.getElem?_append]at he;by_cases hi:i<es.length
    ·rw[Aj hi]at he;rw[Ag (by omega)]at hm;obtain⟨q1,q2,q3⟩:=hr i e m he hm;exact⟨q1.mono aC,q2.mono aC,q3⟩
    ·rw[Ag hi]at he;have aW:i=es.length:=(by have:=(AE.1 he).1;simp at this;omega);subst aW;rw[Aj aO.symm]at hm;simp at he hm;subst he;subst hm;exact⟨rk.mono aC,rv.mono aC,rfl⟩
  ·simp only;have hj:arr[j]?=some m:=by simpa using h2
   have bF:=qz0i b7 bb.2 rk;refine Oq (n:=.skip) (v:=undef) (ob:=.map (arr.modify j fun e=>{ e with key:=vk,val:=vv }) es.length) H aU (.inl rfl) hb ?_ (.inr ⟨rfl,rfl⟩) (by rw[hh];rfl) ?_
   ·rcases ho with ho|ho<;>simp[execOp,ho,fp,ie,jQ,Instr.mapUpdate,run_underlying hu,MapKept.run_getObj_map hb,JA b7 bb.2 rk,h5,hj,h3,bF,MapKept.run_setObj_map _ hb,Result.andThen]
   ·intro w' aC iS;refine⟨⟨arr.modify j fun e=>{ e with key:=vk,val:=vv },by rw[iS];simp,by simp[aO],fun i e m' he hm=>?_⟩,.top _⟩;rw[Gad]at hm;rw[DK]at he;by_cases hi:j=i
    ·subst hi;simp only[AZ]at he hm;split at he
     ·simp[hj]at he hm;subst he;subst hm;obtain⟨_,_,q3⟩:=hr j (es[j]'(by assumption)) m (AC _) hj;exact⟨rk.mono aC,rv.mono aC,q3⟩
     ·cases he
    ·rw[Ag hi]at he hm;obtain⟨q1,q2,q3⟩:=hr i e m' he hm;exact⟨q1.mono aC,q2.mono aC,q3⟩
theorem qz2q{o:Oper}{ty kt et:TypeId}{s:Nat}{x:Operand}{x':Ae}(H:HR E g h w)(ht:RVs g w t a.tmps.toList)(ho:o.op=.range ty x)(hx:A6 x x'=true)(hu:P.underlying ty=some (.map kt et)) (aB:((An.mrange s x').req (Ah E t) h).ok):Ran E P (execOp a.eval o) g h w ((An.mrange s x').req (Ah E t) h):=by
 have rx:=AV H ht hx;simp only[An.req,J1]at aB |-;generalize Ah E t x'=X at *;generalize hv:a.eval x=v at rx;cases X<;>simp only[Req.fail]at aB |-
 case nilmp =>
  cases rx;refine Ran.new (ob:=.mapIter none 0 #[] 0) (bo:=0) (st:=0) (cp:=0) (v:=.pointer (some ⟨w.heap.size,0,none⟩)) H ⟨w,rfl,rfl,rfl,rfl,A8 _,?_⟩ rfl ?_
  ·simp[execOp,ho,hv,Instr.range,run_underlying hu,Result.andThen]
  intro g' w' aC aN _ _ _ aM;exact⟨by show w'.heap[g'.blk s]?=_;rw[aN];exact aM,fun he=>.ptr _ _ _ _ rfl (by rw[he];exact A8 _) (fun _=>by rw[aN])⟩
 case mp id ep =>
  cases hh:h id<;>simp only[hh]at aB |-<;>(try (exact aB.elim));rename_i ep' es;have hO:=H.obj id;rw[hh]at hO;obtain⟨arr,hb,aO,hr⟩:=hO;obtain⟨rfl,bZ⟩:=aB;have bq:g.ep id=ep:=by rw[H.ep id,hh];rfl
  obtain rfl:=Ow H rx (by rw[hh];rfl);refine Ran.new (ob:=.mapIter (some (g.blk id)) es.length #[] es.length) (bo:=0) (st:=0) (cp:=0) (v:=.pointer (some ⟨w.heap.size,0,none⟩)) H ⟨w,rfl,rfl,rfl,rfl,A8 _,?_⟩ rfl ?_
  ·simp[execOp,ho,hv,Instr.range,run_underlying hu,Result.andThen,MapKept.run_getObj_map hb]
  intro g' w' aC aN _ _ _ aM;have fd:=aC.ep id;refine⟨⟨by omega,g.blk id,fun e=>((aC.same id (by omega)).1).symm,by rw[aN];exact aM⟩,fun he=>.ptr _ _ _ _ rfl (by rw[he];exact A8 _) (fun _=>by rw[aN])⟩
theorem qz6b{o:Oper}{x:Operand}{x':Ae}(H:HR E g h w)(ht:RVs g w t a.tmps.toList)(ho:o.op=.entry x)(hx:A6 x x'=true)(aB:((An.mentry x').req (Ah E t) h).ok):Ran E P (execOp a.eval o) g h w ((An.mentry x').req (Ah E t) h):=by
 have rx:=AV H ht hx;simp only[An.req,HE]at aB |-;generalize Ah E t x'=X at *;generalize hv:a.eval x=v at rx;cases X<;>simp only[Req.fail]at aB |-;rename_i id ep off;cases off with
 |succ n=>simp only at aB
 |zero =>
  simp only at aB |-;cases hh:h id<;>simp only[hh]at aB |-<;>(try (exact aB.elim));rename_i ep' mm seen;cases mm with
  |none=>exact aB.elim
  |some mm =>
   obtain⟨M,eM,n⟩:=mm;simp only at aB |-;cases hM:h M<;>simp only[hM]at aB |-<;>(try (exact aB.elim));rename_i eM' es;obtain⟨rfl,rfl,hn,hs,hl⟩:=aB;have hO:=H.obj id;rw[hh]at hO;obtain⟨_,bM,kH,hb⟩:=hO;have iT:=H.obj M;rw[hM]at iT;obtain⟨arr,kI,aO,hr⟩:=iT;have g8:g.ep M=eM:=by rw[H.ep M,hM];rfl
   rw[kH g8.symm]at hb
   have hp:v=.pointer (some ⟨g.blk id,0,none⟩):=by
    cases rx with
    |ptr _ _ _ _ _ _ hp=>exact hp (by rw[H.ep id,hh];rfl)
   subst hp;obtain⟨sn,k,rfl⟩:∃sn k,seen=sn++[k]:=⟨seen.dropLast,seen.getLast hs,(List.dropLast_concat_getLast hs).symm⟩;simp only[List.getLastD_concat]at hl |-;have hk:k<es.length:=by omega
   have iU:k<arr.size:=by omega
   obtain⟨q1,q2,q3⟩:=hr k es[k] arr[k] (AC hk) (Gc iU);have dD:(arr.toList.map (·.born)).Nodup:=by have:arr.toList.map (·.born)=List.range arr.size:=(by refine List.ext_getElem (by simp) fun i h1 h2=>?_;simp at h1 h2 |-;exact(hr i (es[i]'(by omega)) arr[i] (AC _) (Gc _)).2.2);rw[this];exact List.nodup_range
   have he:=run_entry_at (P:=P) w (g.blk id) (g.blk M) n sn.toArray arr es.length arr[k] (by rw[q3,hb,hn];simp) kI (by simp) dD;refine Ran.same H (v:=.tuple #[arr[k].key,arr[k].val]) ?_ ?_
   ·simp[execOp,ho,hv,he,Result.andThen]
   ·refine .tup _ _ rfl fun i y u hy hu=>?_
    match i with
    |0=>simp[hk]at hy hu;subst hy;subst hu;exact q1
    |1=>simp[hk]at hy hu;subst hy;subst hu;exact q2
    |i+2=>simp at hy
theorem wzhp{o:Oper}{x:Operand}{x':Ae}{id ep:Nat}{seen:List Nat}{M eM n:Nat}{es:List (Aa×Aa)}(H:HR E g h w)(ht:RVs g w t a.tmps.toList)(ho:o.op=.next x false)(hx:A6 x x'=true)(hX:Ah E t x'=.ptr id ep 0) (hid:h id=.miter ep (some (M,eM,n)) seen) (hM:h M=.amap eM es) (hn:es.length=n) : ((∀k,k<n->k∈seen)/\(execOp a.eval o).run P w=.ok (.value (.tuple #[.bool false])) w) \/ ∃k,k<n/\k∉seen/\Ran E P (execOp a.eval o) g h w ⟨True,[],.tup [.bool true,(es.getD k (.top,.top)).1,(es.getD k (.top,.top)).2],some (id,.miter ep (some (M,eM,n)) (seen++[k]))⟩:=by
 have rx:=AV H ht hx;rw[hX]at rx;generalize hv:a.eval x=v at rx;have hO:=H.obj id;rw[hid]at hO;obtain⟨h0,bM,kH,hb⟩:=hO;have iT:=H.obj M;rw[hM]at iT;obtain⟨arr,kI,aO,hr⟩:=iT;have g8:g.ep M=eM:=by rw[H.ep M,hM];rfl
 have ebM:=kH g8.symm;subst ebM
 have hp:v=.pointer (some ⟨g.blk id,0,none⟩):=by
  cases rx with
  |ptr _ _ _ _ _ _ hp=>exact hp (by rw[H.ep id,hid];rfl)
 subst hp;have dE:∀i (hi:i<arr.size),arr[i].born=i:=fun i hi=>(hr i (es[i]'(by omega)) arr[i] (AC _) (Gc hi)).2.2;rcases run_next_at (P:=P) w o.type (g.blk id) (g.blk M) n n seen.toArray arr es.length hb kI (fun m hm=>by obtain⟨i,hi,rfl⟩:=Gbp hm;simp at hi |-;rw[dE i hi];omega) (A8 _) with ⟨h1,h2⟩ | ⟨e,he,w1,nt,h2⟩
 ·refine .inl ⟨fun k hk=>?_,by simp[execOp,ho,hv,h2,Result.andThen]⟩;by_cases hc:k∈seen
  ·exact hc
  ·have iU:k<arr.size:=by omega
   have:arr[k]∈leftOf arr seen.toArray:=by simp only[leftOf,Array.mem_filter];exact⟨by simp,by simp[dE k iU,hc]⟩
   have:=Array.size_pos_of_mem this;omega
 ·simp only[leftOf,Array.toList_filter,List.mem_filter]at he;obtain⟨hm,kJ⟩:=he;obtain⟨k,hk,rfl⟩:=Gbp hm;simp at hk kJ;rw[dE k hk]at kJ;refine .inr ⟨k,by omega,kJ,?_⟩;obtain⟨q1,q2,q3⟩:=hr k (es[k]'(by omega)) arr[k] (AC _) (Gc hk);have fS:k<es.length:=by omega
  refine Oq (n:=.value (.tuple #[.bool true,arr[k].key,arr[k].val])) (v:=.tuple #[.bool true,arr[k].key,arr[k].val]) (ob:=.mapIter (some (g.blk M)) n (seen++[k]).toArray n) (w1:=w1) H (by rw[hid];rfl) nt hb ?_ (.inl rfl) (by rw[hid];rfl) ?_
  ·simp only[execOp,ho,hv,Sem.run_bind,h2,Result.andThen];simp[ChangeMaps.setBlock,dE k hk,hn]
  ·intro w' aC iS;refine⟨⟨h0,g.blk M,fun _=>rfl,iS⟩,.tup _ _ rfl fun i y u hy hu=>?_⟩
   match i with
   |0=>simp at hy hu;subst hy;subst hu;exact .bool _
   |1=>simp[fS]at hy hu;subst hy;subst hu;exact q1.mono aC
   |2=>simp[fS]at hy hu;subst hy;subst hu;exact q2.mono aC
   |i+3=>simp at hy
theorem TD{o:Oper}{ty e yt:TypeId}{ng:Bool}{x:Operand}{x':Ae}(H:HR E g h w)(ht:RVs g w t a.tmps.toList)(ho:o.op=.binOp (if ng then .neq else .eql) ty x (.const (.slice none 0 0)) yt)(hx:A6 x x'=true)(hu:P.underlying ty=some (.slice e))(aB:((An.isnil ng x').req (Ah E t) h).ok):Ran E P (execOp a.eval o) g h w ((An.isnil ng x').req (Ah E t) h):=by
 have rx:=AV H ht hx;simp only[An.req]at aB |-;generalize Ah E t x'=X at *;generalize hv:a.eval x=v at rx;have hg:∀(op:BinOp) (ad:Option Addr) (n c:Nat),(eqGuard op ty x (.const (.slice none 0 0)) (.slice ad n c) (.slice none 0 0)).run P w=.ok () w:=fun op ad n c=>by unfold eqGuard;cases op<;>rfl
 have he:∀(ad:Option Addr) (n c:Nat),(Op.equal ty (.slice ad n c) (.slice none 0 0)).run P w=.ok ad.isNone w:=fun ad n c=>by show(Op.equalIn (9999+1) ty (.slice ad n c) (.slice none 0 0)).run P w=_;rw[Op.equalIn,Sem.run_bind,run_underlying hu];cases ad<;>rfl
 have run:∀(ad:Option Addr) (n c:Nat),v=.slice ad n c->(execOp a.eval o).run P w=.ok (.value (.bool (if ng then !ad.isNone else ad.isNone))) w:=by
  rintro ad n c rfl;have cR:a.eval (.const (.slice none 0 0))=.slice none 0 0:=rfl;cases ng with
  |true =>have e1:binOp .neq ty (.slice ad n c) (.slice none 0 0)=(do pure (.bool (!(<-Op.equal ty (.slice ad n c) (.slice none 0 0))))):=rfl;simp[execOp,ho,hv,cR,hg,e1,he,Result.andThen]
  |false =>have e1:binOp .eql ty (.slice ad n c) (.slice none 0 0)=(do pure (.bool (<-Op.equal ty (.slice ad n c) (.slice none 0 0)))):=rfl;simp[execOp,ho,hv,cR,hg,e1,he,Result.andThen]
 cases X<;>simp only[Req.fail]at aB |-
 case nils =>cases rx;refine Ran.same H (run none 0 0 rfl) ?_;cases ng<;>exact .bool _
 case slc st n f =>
  cases rx with
  |slc0 _ _ ad cap=>exact absurd aB (Nat.lt_irrefl 0)
  |slc _ _ _ b off cap =>refine Ran.same H (run (some ⟨b,off,none⟩) n cap rfl) ?_;cases ng<;>exact .bool _
 case vec id ep lo n =>obtain⟨ad,cap,e1,_⟩:=EB H rx aB;refine Ran.same H (run (some ad) n cap e1) ?_;cases ng<;>exact .bool _
end
theorem TE:∀{n:Nat} {f:Nat->List Aa} {s:List UInt8},CV n f=some s->s.length=n/\∀k,k<n->∃m,f k=[.int .u8 m]/\s[k]?=some (UInt8.ofNat m.toNat)
 |0,f,s,h=>by simp only[CV,Ba]at h;subst h;exact⟨rfl,fun k hk=>absurd hk (NZ _)⟩
 |n+1,f,s,h=>by
  unfold CV at h;split at h
  ·rename_i m hm;cases hb:CV n (fun k=>f (k+1)) with
   |none=>simp[hb]at h
   |some s' =>
    simp only[hb,DN,Ba]at h;subst h;obtain⟨h1,h2⟩:=TE hb;refine⟨by simp[h1],fun k hk=>?_⟩;cases k with
    |zero=>exact⟨m,hm,rfl⟩
    |succ k=>obtain⟨m',a,b⟩:=h2 k (by omega);exact⟨m',a,by simpa using b⟩
  ·cases h
theorem wzat(ns:List Int):∀(b:ByteArray),(ns.foldl (fun r n=>r.push (UInt8.ofNat n.toNat)) b).data.toList=b.data.toList++ns.map fun n=>UInt8.ofNat n.toNat:=by
 induction ns with
 |nil=>intro b;simp
 |cons n ns ih=>intro b;simp only[List.foldl_cons,ih];simp[ByteArray.push]
section
variable {E:Nat->Aa}{P:Program}{g:Gh}{h:Aq}{w:World}{t:List Aa}{a:Act}
theorem Oy{o:Oper}{src dst e:TypeId}{x:Operand}{x':Ae}(H:HR E g h w)(ht:RVs g w t a.tmps.toList)(ho:o.op=.convert src dst x)(hx:A6 x x'=true)(hs:P.underlying src=some (.slice e)) (he:P.underlying e=some (.int .u8)) (hd:P.underlying dst=some .string) (aB:((An.b2s x').req (Ah E t) h).ok):Ran E P (execOp a.eval o) g h w ((An.b2s x').req (Ah E t) h):=by
 have rx:=AV H ht hx;simp only[An.req]at aB |-;generalize Ah E t x'=X at *;unfold Lg at aB |-;cases hb:CV (Bk 1 X h).n (Bk 1 X h).f with
 |none=>simp only[hb,Req.fail]at aB
 |some s =>
  simp only[hb]at aB |-;obtain⟨vals,sr⟩:=J9 H rx aB.1 aB.2;obtain⟨h1,h2⟩:=TE hb;generalize (Bk 1 X h).n=n at *;generalize (Bk 1 X h).f=f at *;obtain⟨ad,cap,hv,aG,hc⟩:=sr.val;have bi:∀k,k<n->∃m,vals k 0=.int .u8 m/\s[k]?=some (UInt8.ofNat m.toNat):=fun k hk=>by obtain⟨m,e1,e2⟩:=h2 k hk;have:=sr.rv k 0 (.int .u8 m) hk (by rw[e1];rfl);exact⟨m,rv_int' this,e2⟩
  let num:Nat->Int:=fun k=>match vals k 0 with | .int _ m=>m | _=>0
  have iV:∀k,k<n->vals k 0=.int .u8 (num k)/\s[k]?=some (UInt8.ofNat (num k).toNat):=fun k hk=>by
   obtain⟨m,e1,e2⟩:=bi k hk;have:num k=m:=by show(match vals k 0 with | .int _ m=>m | _=>0)=m;rw[e1]
   rw[this];exact⟨e1,e2⟩
  have hS:s=((List.range n).map num).map fun m=>UInt8.ofNat m.toNat:=by
   apply Lj;intro k;by_cases hk:k<n
   ·rw[(iV k hk).2];simp[hk]
   ·rw[Lk (by omega)];simp[Nat.le_of_not_lt hk]
  refine Ran.same H (v:=.string (((List.range n).map num).foldl (fun r n=>r.push (UInt8.ofNat n.toNat)) ByteArray.empty)) ?_ (.str _ _ (by rw[wzat,hS];rfl));simp only[execOp,ho,hv,Sem.run_bind,run_convert_bytes_string w src dst e ad n cap hs he hd];rcases hc with h0|⟨b,off,rfl,aK⟩
  ·subst h0;cases ad with
   |none=>simp[Conv.bytesToString]
   |some ad =>have:=run_bytesToString (P:=P) w ad 0 cap [] (by simp[loadCells,loadCellsFrom]);simp[this,Result.andThen]
  ·have hl:=run_loadCells_list (P:=P) w ⟨b,off,none⟩ (((List.range n).map num).map (Value.int .u8)) (fun j v hj=>by
    rw[DQ];by_cases hk:j<n
    ·have e1:=aK j 0 hk (by omega);simp only[List.map_map,Hz,SJ hk,DN,Function.comp,Ba]at hj;rw[<-hj,<-(iV j hk).1];simpa using e1
    ·rw[Lk (by simp;omega)]at hj;cases hj)
   simp only[Jz,SE]at hl;have:=run_bytesToString (P:=P) w ⟨b,off,none⟩ n cap _ hl;simp[this,Result.andThen]
where
 rv_int' {g:Gh} {w:World} {k:IntKind} {n:Int} {v:Value} (hv:RV g w (.int k n) v):v=.int k n:=by cases hv;rfl
theorem Ran.newfz{s:Sem Next}{rd:List Nat}{x:Aa}{p:Prop}{i:Nat}{ob:Obj}{v:Value}(H:HR E g h w)(hr:∃w0:World,w0.heap=w.heap/\w0.os=w.os/\w0.tape=w.tape/\w0.output=w.output/\w.drawn<=w0.drawn/\s.run P w=.ok (.value v) { w0 with heap:=w0.heap.push ob })(dC:∀(g':Gh) (w':World),GLe g w g' w'->g'.fz w.heap.size->w'.heap[w.heap.size]?=some ob->RV g' w' x v) :
  Ran E P s g h w ⟨p,rd,x,some (i,.gone ((h i).ep+1))⟩:=by
 obtain⟨w0,e1,e2,e3,e4,e5,hr⟩:=hr
 let g':Gh:=⟨g.blk,fun j=>if j=i then(h i).ep+1 else g.ep j,g.bo,g.st,g.cp,fun b=>g.fz b\/b=w.heap.size⟩
 let w':World:={ w0 with heap:=w0.heap.push ob }
 have be:∀b,b<w.heap.size->w'.heap[b]?=w.heap[b]?:=fun b hb=>by show(w0.heap.push ob)[b]?=_;rw[e1,Oa,Ag (by omega)]
 have aM:w'.heap[w.heap.size]?=some ob:=by show(w0.heap.push ob)[w.heap.size]?=_;rw[e1,Oa,Aj rfl]
 have aC:GLe g w g' w':=by
  refine⟨fun b hb=>⟨.inl hb,be b (H.fzb b hb)⟩,fun j=>?_,fun j hj=>⟨rfl,rfl,rfl,rfl⟩⟩;show g.ep j<=if j=i then(h i).ep+1 else g.ep j;split
  ·rename_i e;subst e;rw[H.ep j];omega
  ·exact A8 _
 have aO:w'.heap.size=w.heap.size+1:=by show(w0.heap.push ob).size=_;rw[e1];simp
 obtain⟨H',S'⟩:=HR.upd (g':=g') (w':=w') (i:=i) (o':=.gone ((h i).ep+1)) H aC (fun j hj=>Ag hj) (Aj rfl) (fun b hb _=>be b hb) (by rw[aO];omega) trivial (fun e=>by cases e) (fun e=>by cases e)
  (fun b hb=>by
   rcases hb with hb|rfl
   ·exact .inl hb
   ·exact .inr (.inr (A8 _)))
  (fun b hb=>by
   rw[aO];rcases hb with hb|rfl
   ·have:=H.fzb b hb;omega
   ·omega) e2 e3 e4 e5
 exact⟨_,v,w',g',hr,.inl rfl,dC g' w' aC (.inr rfl) aM,H',S',fun e=>by cases e⟩
theorem wzho{o:Oper}{src dst e:TypeId}{s:Nat}{x:Operand}{x':Ae}(H:HR E g h w)(ht:RVs g w t a.tmps.toList)(ho:o.op=.convert src dst x)(hx:A6 x x'=true)(hs:P.underlying src=some .string) (hd:P.underlying dst=some (.slice e)) (he:P.underlying e=some (.int .u8)) (aB:((An.s2b s x').req (Ah E t) h).ok):Ran E P (execOp a.eval o) g h w ((An.s2b s x').req (Ah E t) h):=by
 have rx:=AV H ht hx;simp only[An.req]at aB |-;generalize Ah E t x'=X at *;generalize hv:a.eval x=v at rx;cases X<;>simp only[Req.fail]at aB;rename_i bs;cases rx with
 |str _ ba hb =>
  have run:=run_bytes_of_string (P:=P) w src dst e ba hs hd he;have hge:=Oo w ba.size 0 e;have aO:ba.size=bs.length:=by rw[<-hb];rfl
  refine Ran.newfz (ob:=.cells (bytesRow ba (grownCap w ba.size 0 e)) e ((bytesRow ba (grownCap w ba.size 0 e)).size,(bytesRow ba (grownCap w ba.size 0 e)).size+1)) (v:=.slice (some ⟨w.heap.size,0,none⟩) ba.size (grownCap w ba.size 0 e)) H ⟨w.drew,rfl,rfl,rfl,rfl,H8 _,by simp only[execOp,ho,hv,Sem.run_bind,run];rfl⟩ ?_;intro g' w' aC eZ aM;rw[aO];rw[aO]at hge;refine .slc 1 bs.length _ w.heap.size 0 _ (fun k _=>.int .u8 (Cu bs k)) eZ (by omega) (fun _ _=>rfl) (fun i j hi hj=>?_) (fun _ _ _ _=>rfl) (fun i j y hi hy=>?_)
  ·obtain rfl:j=0:=by omega
   have hlt:i<ba.data.size:=by show i<ba.size;omega
   have e1:(bytesRow ba (grownCap w bs.length 0 e))[0+i*1+0]?=some (.int .u8 (Cu bs i)):=by have e2:0+i*1+0=i:=(by omega);rw[e2];unfold bytesRow;rw[Gaa (by simp;exact hlt),Array.getElem?_map,Gc hlt];simp only[DN,Cu,B2,Ba,Value.int.injEq,true_and];rw[E6,<-hb,Array.getElem?_toList,Gc hlt];rfl
   simp only[World.cell?,aM];rw[aO];exact e1
  ·cases j with
   |zero=>simp at hy;subst hy;exact .int _ _
   |succ j=>simp at hy
theorem Ran.beside{s:Sem Next}{rd:List Nat}{x:Aa}{p:Prop}{i:Nat}{ob:Obj}{v:Value}(H:HR E g h w)(hr:s.run P w=.ok (.value v) { w with heap:=w.heap.push ob })(dC:∀(g':Gh) (w':World),GLe g w g' w'->g'.fz w.heap.size->w'.heap[w.heap.size]?=some ob->RV g' w' x v) :
  Ran E P s g h w ⟨p,rd,x,some (i,h i)⟩:=by
 let g':Gh:=⟨g.blk,g.ep,g.bo,g.st,g.cp,fun b=>g.fz b\/b=w.heap.size⟩
 let w':World:={ w with heap:=w.heap.push ob }
 have be:∀b,b<w.heap.size->w'.heap[b]?=w.heap[b]?:=fun b hb=>by show(w.heap.push ob)[b]?=_;rw[Oa,Ag (by omega)]
 have aM:w'.heap[w.heap.size]?=some ob:=by show(w.heap.push ob)[w.heap.size]?=_;rw[Oa,Aj rfl]
 have aC:GLe g w g' w':=⟨fun b hb=>⟨.inl hb,be b (H.fzb b hb)⟩,fun _=>A8 _,fun _ _=>⟨rfl,rfl,rfl,rfl⟩⟩;have aO:w'.heap.size=w.heap.size+1:=by show(w.heap.push ob).size=_;simp
 have hh:putH h (some (i,h i))=h:=by
  funext j;show hset h i (h i) j=h j;simp only[hset];split
  ·rename_i e;rw[e]
  ·rfl
 have H':HR E g' h w':=by
  refine⟨fun j=>(H.obj j).mono aC rfl fun ho=>be _ ((H.obj j).lt ho),H.ep,H.inj,fun j hj hf=>?_,fun b hb=>?_,fun j=>(H.glob j).mono aC⟩
  ·rcases hf with hf|hf;·exact H.sep j hj hf
   ·have:=(H.obj j).lt hj;have fU:g.blk j=w.heap.size:=hf;omega
  ·rw[aO];rcases hb with hb|rfl
   ·have:=H.fzb b hb;omega
   ·omega
 have S':Stp g h w g' h w':=by
  refine⟨aC,rfl,rfl,rfl,by rw[aO];omega,fun b hb _=>be b hb,fun j ho=>.inl ⟨j,ho,rfl⟩,fun b hb=>?_,A8 _⟩;rcases hb with hb|rfl
  ·exact .inl hb
  ·exact .inr (.inr (A8 _))
 refine⟨_,v,w',g',hr,.inl rfl,dC g' w' aC (.inr rfl) aM,?_,?_,fun e=>by cases e⟩
 ·show HR E g' (putH h (some (i,h i))) w';rw[hh];exact H'
 ·show Stp g h w g' (putH h (some (i,h i))) w';rw[hh];exact S'
theorem qz6j{o:Oper}{ty:TypeId}{n st nn s:Nat}{ps:Array (Nat×Operand)}{zero:List Aa}{parts:List (Nat×Nat×Ae)}(H:HR E g h w)(ht:RVs g w t a.tmps.toList)(ho:o.op=.buildSlice ty n ps)(hb:HJ P ty n st nn zero ps.toList parts=true)(aB:((An.fslice s st nn zero parts).req (Ah E t) h).ok):Ran E P (execOp a.eval o) g h w ((An.fslice s st nn zero parts).req (Ah E t) h):=by
 simp only[An.req]at aB |-;cases hf:Ds (Ah E t) zero parts with
 |none=>simp only[hf,Req.fail]at aB
 |some l =>
  simp only[hf]at aB |-;obtain⟨_,hl,aL,h1⟩:=aB;obtain⟨rfl,e,cs',fN,aE,aP⟩:=Tp H ht ho hb hf hl;refine Ran.beside (ob:=.cells cs' e (0,0)) H aP ?_;intro g' w' aC eZ aM;have jS:∀k j,k<n->j<st->k*st+j<n*st:=fun k j hk hj=>by have:(k+1)*st<=n*st:=Bd _ (by omega);rw[BY]at this;omega
  have aS:∀k,k<n->((Gl st n l).getD k [])=(l.drop (k*st)).take st:=fun k hk=>Ol n l k hl hk;refine .slc st n _ w.heap.size 0 n (fun k j=>cs'.getD (k*st+j) undef) eZ (A8 _) (fun i hi=>?_) (fun i j hi hj=>?_) (fun i j hi hj=>?_) (fun i j y hi hy=>?_)
  ·rw[aS i hi];have:(i+1)*st<=n*st:=Bd _ (by omega);rw[BY]at this;simp;omega
  ·have bg:=jS i j hi hj;simp only[World.cell?,aM];have e1:0+i*st+j=i*st+j:=by omega
   rw[e1];simp[Array.getD,aE,bg]
  ·have bg:=jS i j hi hj;have cq:cs'.toList[i*st+j]?=some (cs'.getD (i*st+j) undef):=by simp[Array.getD,aE,bg]
   exact Gz fN h1 _ (AI cq)
  ·rw[aS i hi,HC]at hy;split at hy
   ·rename_i hj;rw[Gf]at hy;have bg:=jS i j hi hj;have cq:cs'.toList[i*st+j]?=some (cs'.getD (i*st+j) undef):=by simp[Array.getD,aE,bg]
    exact(fN.2 _ y _ hy cq).mono aC
   ·cases hy
theorem wzds{o:Oper}{ty e:TypeId}{s st bytes:Nat}{zero:List Aa}{zl:List Value}{x y:Operand}{x':Ae}(H:HR E g h w)(ht:RVs g w t a.tmps.toList)(ho:o.op=.makeSlice ty x y)(hx:A6 x x'=true)(hy:A6 y x'=true)(hu:P.underlying ty=some (.slice e)) (hs:szOf P e=some st) (hb:byOf P e=some bytes) (eu:0<bytes) (hz:D2 P e=some zl) (di:CA zl zero=true)(aB:((An.mks s st bytes zero x').req (Ah E t) h).ok):Ran E P (execOp a.eval o) g h w ((An.mks s st bytes zero x').req (Ah E t) h):=by
 have rx:=AV H ht hx;have ry:=AV H ht hy;simp only[An.req]at aB |-;generalize Ah E t x'=X at *;generalize hv:a.eval x=v at rx;generalize cq:a.eval y=v' at ry;cases X<;>simp only[Req.fail]at aB;rename_i k n;obtain rfl:=Oy.rv_int' rx;obtain rfl:=Oy.rv_int' ry;obtain⟨_,h0,bT,aL,ig,ey⟩:=aB;have fc:=DP (g:=g) (w:=w) di;have ez:zl.length=st:=by rw[<-ig];exact fc.1
 obtain⟨i,z,hi,br,aO,ic,dT⟩:=Lx hs hb hz ez;have dw:zl=z.cells.toList:=On hi br hz;have nu:n<=9223372036854775807:=by have:n*1<=n*bytes:=Int.mul_le_mul_of_nonneg_left (by omega) h0;omega
 have run:=run_make (P:=P) w ty e i z hu hi br k k n n h0 (Jj _) (by rw[ic,Int.mul_comm];omega) nu;refine Ran.new (ob:=.cells (madeCells z.cells (n.toNat*i.size)) e (0,0)) (bo:=0) (st:=st) (cp:=n.toNat) H ⟨w,rfl,rfl,rfl,rfl,A8 _,by simp only[execOp,ho,hv,cq,Sem.run_bind,run];rfl⟩ rfl ?_;intro g' w' aC aN cu bw b5 aM;refine⟨Lz aL aN cu bw b5 (A8 _) aM ?_ (fun _ _=>ig) (fun q j hq hj=>?_),fun he=>?_⟩
 ·rw[size_madeCells,aO];omega
 ·have cD:=DS hq hj;have bc:j<z.cells.size:=by omega
  have e1:(q*st+j)%z.cells.size=j:=by rw[dT,Bb,NX];exact C2 hj
  have e2:(madeCells z.cells (n.toNat*i.size))[0+q*st+j]?=some z.cells[j]:=by unfold madeCells;rw[Bq,Array.getElem?_map,Array.getElem?_range,Aj (by rw[aO];exact cD)];simp only[DN,e1,getElem!_pos z.cells j bc]
  have e3:zl[j]?=some z.cells[j]:=by rw[dw,Array.getElem?_toList,Gc bc]
  have jR:∃y,zero[j]?=some y:=⟨_,AC (by omega)⟩;exact⟨_,e2,Gz fc ey _ (AI e3),fun y hy=>(fc.2 j y _ hy e3).mono aC⟩
 ·exact .vec _ _ _ _ _ rfl (by rw[he];exact A8 _) (fun _=>Lu aN cu b5 (A8 _))
theorem TF{id ep st m a0 cnt:Nat}{f fn:Nat->List Aa}{arr:Array Value}{ty:TypeId}{vals:Nat->Nat->Value}{w':World}(aL:g.st id=st)(h0:0<st)(hn:m<=g.cp id)(aC:GLe g w g w')(aX:g.bo id+g.cp id*st<=arr.size) (aS:∀k,k<m->(f k).length=st/\∀(j:Nat) (x:Aa) (v:Value),(f k)[j]?=some x->arr[g.bo id+k*st+j]?=some v->v.oneCell'=true/\RV g w x v)(hc:a0+cnt<=m) (hl:∀k,k<cnt->(fn k).length=st) (h1:∀k j,k<cnt->j<st->(vals k j).oneCell'=true) (hr:∀(k j:Nat) (x:Aa),k<cnt->(fn k)[j]?=some x->RV g w x (vals k j))(hb:w'.heap[g.blk id]?=some (.cells (arr.toList.take (g.bo id+a0*st)++B4 st cnt vals++arr.toList.drop (g.bo id+a0*st+(B4 st cnt vals).length)).toArray ty (0,0))) :
  OR g w' id (.vec ep st m (fun k=>if a0<=k/\k<a0+cnt then fn (k-a0) else f k)):=by
 have g9:∀k,k<m->(k+1)*st<=g.cp id*st:=fun k hk=>Bd _ (by omega);have e0:(a0+cnt)*st<=g.cp id*st:=Bd _ (by omega);rw[AT]at e0;have aE:=ED st cnt vals;have fh:=fun j=>G0 arr.toList (B4 st cnt vals) (g.bo id+a0*st) j (by rw[aE];simp;omega);refine⟨aL,h0,hn,_,ty,hb,by simp;omega,fun k hk=>?_⟩;have gA:=g9 k hk;rw[BY]at gA;by_cases aQ:a0<=k/\k<a0+cnt
 ·simp only[Aj aQ];refine⟨hl _ (by omega),fun j x v hx hv=>?_⟩;have hj:j<st:=by rw[<-hl (k-a0) (by omega)];exact(AE.1 hx).1
  have e1:k*st=a0*st+(k-a0)*st:=by rw[<-AT];congr 1;omega
  have cD:=DS (k:=k-a0) (n:=cnt) (st:=st) (j:=j) (by omega) hj;rw[NV,fh,Ag (by omega),Aj (by rw[aE];omega)]at hv;have e2:g.bo id+k*st+j-(g.bo id+a0*st)=(k-a0)*st+j:=by omega
  rw[e2,HM (by omega) hj]at hv;obtain rfl:=AJ hv;exact⟨h1 _ _ (by omega) hj,(hr _ _ x (by omega) hx).mono aC⟩
 ·simp only[Ag aQ];obtain⟨hZ,aK⟩:=aS k hk;refine⟨hZ,fun j x v hx hv=>?_⟩;have hj:j<st:=by rw[<-hZ];exact(AE.1 hx).1
  rw[NV,fh,aE]at hv
  have kr:¬(g.bo id+a0*st<=g.bo id+k*st+j/\g.bo id+k*st+j<g.bo id+a0*st+cnt*st):=by
   rintro⟨q1,q2⟩;rcases C8 k a0 with hlt|hge
   ·have:(k+1)*st<=a0*st:=Bd _ hlt;rw[BY]at this;omega
   ·have:(a0+cnt)*st<=k*st:=Bd _ (by omega);rw[AT]at this;omega
  by_cases j1:g.bo id+k*st+j<g.bo id+a0*st
  ·rw[Aj j1]at hv;have:=aK j x v hx (by simpa using hv);exact⟨this.1,this.2.mono aC⟩
  ·rw[Ag j1,Ag (by omega)]at hv;have:=aK j x v hx (by simpa using hv);exact⟨this.1,this.2.mono aC⟩
theorem wzkf{st n:Nat}{l:List Value}{vals:Nat->Nat->Value}(hl:l.length=n*st)(h:∀k j,k<n->j<st->l[k*st+j]?=some (vals k j)):l=B4 st n vals:=by
 apply Lj;intro q;by_cases hq:q<n*st
 ·have h0:0<st:=by
   rcases E7 st with e|e
   ·subst e;omega
   ·exact e
  have e1:q / st<n:=by rw[H7 h0];exact hq
  have e2:q%st<st:=Gj _ h0;have e3:q / st*st+q%st=q:=by rw[Bb];exact Jm q st
  have h1:=h _ _ e1 e2;have h2:=HM (st:=st) (m:=n) (vals:=vals) e1 e2;rw[e3]at h1 h2;rw[h1,h2]
 ·rw[Lk (by omega),Lk (by rw[ED];omega)]
theorem TG(P:Program)(o:Oper)(ρ:Operand->Value)(x y:Operand)(tx ty:TypeId)(u v r:Value)(w w':World)(ho:o.op=.call { callee:=.builtin .copy,args:=#[x,y],argTypes:=#[tx,ty] })(hx:ρ x=u)(hy:ρ y=v)(hr:(Builtin.copy_ #[tx,ty] o.type #[u,v]).run P w=.ok r w'):(execOp ρ o).run P w=.ok (.value r) w':=by simp[execOp,ho,resolve,invoke,builtin,hx,hy,hr]
theorem TH(P:Program)(o:Oper)(ρ:Operand->Value)(x:Operand)(tx:TypeId)(u r:Value)(w w':World)(ho:o.op=.call { callee:=.builtin .clear,args:=#[x],argTypes:=#[tx] })(hx:ρ x=u)(hr:(Builtin.clear_ #[tx] o.type #[u]).run P w=.ok r w'):(execOp ρ o).run P w=.ok (.value r) w':=by simp[execOp,ho,resolve,invoke,builtin,hx,hr]
theorem wzbp{o:Oper}{tx ty e:TypeId}{st0:Nat}{x y:Operand}{x' y':Ae}(H:HR E g h w)(ht:RVs g w t a.tmps.toList)(ho:o.op=.call { callee:=.builtin .copy,args:=#[x,y],argTypes:=#[tx,ty] })(hx:A6 x x'=true)(hy:A6 y y'=true)(hu:P.underlying tx=some (.slice e)) (hs:szOf P e=some st0) (aB:((An.copy st0 x' y').req (Ah E t) h).ok):Ran E P (execOp a.eval o) g h w ((An.copy st0 x' y').req (Ah E t) h):=by
 have rx:=AV H ht hx;have ry:=AV H ht hy;simp only[An.req]at aB |-;generalize Ah E t x'=X at *;generalize Ah E t y'=Y at *;unfold J2 at aB |-;cases X<;>simp only[Req.fail]at aB;rename_i id ep lo n;have hO:=H.obj id;cases hh:h id<;>simp only[hh,Req.fail]at aB hO |-
 case vec ep' st m f =>
  obtain⟨h1,h2,rfl,cQ,rfl⟩:=aB;obtain⟨aL,h0,hn,arr,ty',hr,aX,aS⟩:=hO;obtain⟨vals,src⟩:=J9 H ry h1 h2;generalize (Bk st0 Y h).n=q at *;generalize (Bk st0 Y h).f=f' at *;have aU:(h id).owned=true:=by rw[hh];rfl
  obtain⟨ad,cap,e1,aG,hc⟩:=EB H rx (by rw[hh];rfl);obtain⟨sad,scap,se,mi,cy⟩:=src.val;have aO:(P.info? e).map (·.size)=some st0:=hs
  obtain⟨i,hi,his⟩:∃i,P.info? e=some i/\i.size=st0:=by
   cases hi:P.info? e with
   |none=>simp[hi]at aO
   |some i=>exact⟨i,rfl,by simpa [hi] using aO⟩
  have iW:Nat.min q n=min q n:=rfl
  have bC:(Builtin.firstCells st0 (min q n) (.slice sad q scap)).run P w=.ok (B4 st0 (min q n) vals).toArray w:=by
   rcases cy with e0|⟨b,off,rfl,aK⟩
   ·have:min q n=0:=(by omega);rw[this];cases sad with
    |none=>simp[Builtin.firstCells,B4]
    |some s=>simp[Builtin.firstCells,loadCells,loadCellsFrom,B4]
   ·exact run_firstCells_some (P:=P) w st0 (min q n) ⟨b,off,none⟩ q scap _ (by rw[ED]) (fun j v hj=>by obtain⟨k,j',hk,bc,rfl,rfl⟩:=HN hj;rw[DQ];exact aK k j' (by omega) bc)
  by_cases hz:min q n=0
  ·-- nothing is written
   have run:(Builtin.copy_ #[tx,ty] o.type #[.slice (some ad) n cap,.slice sad q scap]).run P w=.ok (goInt 0) w:=by rw[hz]at bC;simp[Builtin.copy_,run_underlying hu,sizeOf,typeInfo,hi,his,Builtin.lenOf,iW,hz,bC,B4,storeCells]
   have eC:=setRow_self w (g.blk id) arr ty' (0,0) hr;refine HK H aU hr (arr':=arr) (v:=goInt 0) (by rw[eC];exact TG P o a.eval x y tx ty _ _ _ w _ ho e1 se run) (.inl rfl) (by rw[hh];rfl) ?_;intro w' aC hb;refine⟨⟨aL,h0,hn,arr,ty',hb,aX,fun k hk=>?_⟩,by rw[hz];exact .int _ _⟩;rw[hz];simp only[Gg,show ¬(lo<=k/\k<lo) by omega,C9];exact⟨(aS k hk).1,fun j x v hx hv=>⟨((aS k hk).2 j x v hx hv).1,((aS k hk).2 j x v hx hv).2.mono aC⟩⟩
  ·rcases hc with cR|⟨rfl,hc⟩;·omega
   ·have e5:(lo+min q n)*st0<=g.cp id*st0:=Bd _ (by omega);rw[AT]at e5;have d5:=run_storeCells_at P (g.blk id) (g.bo id+lo*g.st id) ty' (B4 st0 (min q n) vals) 0 arr w hr (by rw[ED,aL];omega) (fun u hu=>by obtain⟨p,hp⟩:=Dy.1 hu;obtain⟨k,j,hk,hj,rfl,rfl⟩:=HN hp;exact src.one k j (by omega) hj);simp only[Gg]at d5;have run:(Builtin.copy_ #[tx,ty] o.type #[.slice (some ⟨g.blk id,g.bo id+lo*g.st id,none⟩) n cap,.slice sad q scap]).run P w=.ok (goInt (min q n:Nat)) (w.setRow (g.blk id) (arr.toList.take (g.bo id+lo*g.st id)++B4 st0 (min q n) vals++arr.toList.drop (g.bo id+lo*g.st id+(B4 st0 (min q n) vals).length)).toArray):=by simp only[Builtin.copy_,run_underlying hu,sizeOf,typeInfo,hi,his,Builtin.lenOf,iW,bC,Sem.run_bind,Result.andThen_ok,d5];simp[run_underlying hu,hi,his,bC,d5,Result.andThen]
    refine HK H aU hr (v:=goInt (min q n:Nat)) (TG P o a.eval x y tx ty _ _ _ w _ ho e1 se run) (.inl rfl) (by rw[hh];rfl) ?_;intro w' aC hb;rw[aL]at hb;exact⟨TF aL h0 hn aC aX aS (by omega) (fun k hk=>src.len k (by omega)) (fun k j hk hj=>src.one k j (by omega) hj) (fun k j x hk hx=>src.rv k j x (by omega) hx) hb,.int _ _⟩
 all_goals exact aB.elim
theorem qz62{o:Oper}{tx e:TypeId}{zero:List Aa}{zl:List Value}{x:Operand}{x':Ae}(H:HR E g h w)(ht:RVs g w t a.tmps.toList)(ho:o.op=.call { callee:=.builtin .clear,args:=#[x],argTypes:=#[tx] })(hx:A6 x x'=true)(hu:P.underlying tx=some (.slice e)) (hz:D2 P e=some zl) (di:CA zl zero=true) (aB:((An.clear zero x').req (Ah E t) h).ok):Ran E P (execOp a.eval o) g h w ((An.clear zero x').req (Ah E t) h):=by
 have rx:=AV H ht hx;simp only[An.req]at aB |-;generalize Ah E t x'=X at *;unfold HF at aB |-;cases X<;>simp only[Req.fail]at aB;rename_i id ep lo n;have hO:=H.obj id;cases hh:h id<;>simp only[hh,Req.fail]at aB hO |-
 case vec ep' st m f =>
  obtain⟨rfl,cQ,ig,ey⟩:=aB;obtain⟨aL,h0,hn,arr,ty',hr,aX,aS⟩:=hO;have aU:(h id).owned=true:=by rw[hh];rfl
  obtain⟨ad,cap,e1,aG,hc⟩:=EB H rx (by rw[hh];rfl);have fc:=DP (g:=g) (w:=w) di;have ez:zl.length=st:=by rw[<-ig];exact fc.1
  have rtup:∀w',RV g w' (.tup []) (.tuple #[]):=fun w'=>.tup _ _ rfl fun i x v hx _=>by simp at hx
  by_cases jR:n=0
  ·subst jR;have run:(Builtin.clear_ #[tx] o.type #[.slice (some ad) 0 cap]).run P w=.ok (.tuple #[]) w:=by simp[Builtin.clear_,run_underlying hu]
   have eC:=setRow_self w (g.blk id) arr ty' (0,0) hr;refine HK H aU hr (arr':=arr) (v:=.tuple #[]) (by rw[eC];exact TH P o a.eval x tx _ _ w _ ho e1 run) (.inl rfl) (by rw[hh];rfl) ?_;intro w' aC hb;refine⟨⟨aL,h0,hn,arr,ty',hb,aX,fun k hk=>?_⟩,rtup w'⟩;simp only[Gg,show ¬(lo<=k/\k<lo) by omega,C9];exact⟨(aS k hk).1,fun j x v hx hv=>⟨((aS k hk).2 j x v hx hv).1,((aS k hk).2 j x v hx hv).2.mono aC⟩⟩
  ·rcases hc with cR|⟨rfl,hc⟩;·omega
   ·have e5:(lo+n)*st<=g.cp id*st:=Bd _ (by omega);rw[AT]at e5
    obtain⟨i,z,hi,br⟩:∃(i:TypeInfo) (z:Value),P.info? e=some i/\i.zero=some z:=by
     unfold D2 at hz;cases hi:P.info? e with
     |none=>simp[hi]at hz
     |some i =>
      cases br:i.zero with
      |none =>obtain⟨⟩:=i;simp only at br;subst br;simp[hi]at hz
      |some z=>exact⟨i,z,rfl,br⟩
    have dw:zl=z.cells.toList:=On hi br hz;have dT:z.cells.size=st:=by rw[<-ez,dw];simp
    have aF:(Builtin.zeroCells z.cells n).toList=B4 st n (fun _ j=>z.cells.getD j undef):=by
     refine wzkf (by simp[size_zeroCells,dT]) fun k j hk hj=>?_;have cD:=DS hk hj;have e1:(k*st+j)%z.cells.size=j:=by rw[dT,Bb,NX];exact C2 hj
     have bc:j<z.cells.size:=(by omega);rw[Array.getElem?_toList];unfold Builtin.zeroCells;rw[Array.getElem?_map,Array.getElem?_range,Aj (by rw[dT];exact cD)];simp only[DN,e1,getElem!_pos z.cells j bc,Array.getD,bc,dif_pos];rfl
    have eD:∀j,j<st->(z.cells.getD j undef).oneCell'=true/\zl[j]?=some (z.cells.getD j undef):=fun j hj=>by have bc:j<z.cells.size:=(by omega);have e2:z.cells.getD j undef=z.cells[j]:=(by simp[Array.getD,bc]);have e3:zl[j]?=some z.cells[j]:=(by rw[dw,Array.getElem?_toList,Gc bc]);rw[e2];exact⟨Gz fc ey _ (AI e3),e3⟩
    have d5:=run_storeCells_at P (g.blk id) (g.bo id+lo*g.st id) ty' (B4 st n (fun _ j=>z.cells.getD j undef)) 0 arr w hr (by rw[ED,aL];omega) (fun u hu=>by obtain⟨p,hp⟩:=Dy.1 hu;obtain⟨k,j,hk,hj,rfl,rfl⟩:=HN hp;exact(eD j hj).1);simp only[Gg]at d5;obtain⟨n',rfl⟩:∃n',n=n'+1:=⟨n-1,by omega⟩;have run:(Builtin.clear_ #[tx] o.type #[.slice (some ⟨g.blk id,g.bo id+lo*g.st id,none⟩) (n'+1) cap]).run P w=.ok (.tuple #[]) (w.setRow (g.blk id) (arr.toList.take (g.bo id+lo*g.st id)++B4 st (n'+1) (fun _ j=>z.cells.getD j undef)++arr.toList.drop (g.bo id+lo*g.st id+(B4 st (n'+1) (fun _ j=>z.cells.getD j undef)).length)).toArray):=(by generalize B4 st (n'+1) (fun _ j=>z.cells.getD j undef)=row at aF d5 |-;simp only[Builtin.clear_,run_underlying hu,Sem.run_bind,Result.andThen_ok,zeroValue,typeInfo];simp[run_underlying hu,hi,br,aF,d5,zeroValue,typeInfo,Result.andThen]);refine HK H aU hr (v:=.tuple #[]) (TH P o a.eval x tx _ _ w _ ho e1 run) (.inl rfl) (by rw[hh];rfl) ?_;intro w' aC hb;rw[aL]at hb;exact⟨TF (fn:=fun _=>zero) aL h0 hn aC aX aS (by omega) (fun k hk=>ig) (fun k j hk hj=>(eD j hj).1) (fun k j x hk hx=>by have hj:j<st:=(by rw[<-ig];exact(AE.1 hx).1);exact fc.2 j x _ hx (eD j hj).2) hb,rtup w'⟩
 all_goals exact aB.elim
end
section
variable {E:Nat->Aa}{P:Program}{g:Gh}{h:Aq}{w:World}{t:List Aa}{a:Act}
theorem qz50{o:Oper}{x y:Operand}{tx e:TypeId}{s st bytes:Nat}{x' y':Ae}{zl:List Value}(H:HR E g h w)(ht:RVs g w t a.tmps.toList)(ho:o.op=.call { callee:=.builtin .append,args:=#[x,y],argTypes:=#[tx,tx] })(hx:A6 x x'=true)(hy:A6 y y'=true)(hu:P.underlying tx=some (.slice e)) (hs:szOf P e=some st) (hb:byOf P e=some bytes) (hz:D2 P e=some zl) (di:zl.length=st) (eu:0<bytes)(aB:((An.append s st bytes x' y').req (Ah E t) h).ok):Ran E P (execOp a.eval o) g h w ((An.append s st bytes x' y').req (Ah E t) h):=by
 have rx:=AV H ht hx;simp only[An.req]at aB |-;generalize Ah E t x'=X at *;cases X<;>(try (simp only[Fp,Req.fail]at aB;done))
 case nils =>generalize hv:a.eval x=v at rx;cases rx;exact qzv7 H ht ho hy hu hs hb hz di eu hv aB
 case vec id ep lo n=>exact qzvr H ht ho hy hu hs hb hz di eu rx aB
theorem TI{o:Oper}{ao:An}(H:HR E g h w)(ht:RVs g w t a.tmps.toList)(hc:yzx P o.op ao=true)(aB:(ao.req (Ah E t) h).ok):Ran E P (execOp a.eval o) g h w (ao.req (Ah E t) h):=by
 generalize ho:o.op=op at hc;unfold yzx at hc;split at hc
 ·exact SZ H ht (.inl ho) hc
 ·exact SZ H ht (.inr ho) hc
 ·simp only[AH]at hc;exact wzan H ht ho hc.1.1 hc.1.2 hc.2 aB
 ·rename_i op' ty x y yt op'' bools x' y';simp only[AH,Bu,Li,Hy]at hc;obtain⟨⟨⟨rfl,hx⟩,hy⟩,hb⟩:=hc;refine wzgm H ht ho hx hy (fun e=>?_) aB;rcases hb with hb|hb
  ·rw[e]at hb;cases hb
  ·split at hb
   ·assumption
   ·cases hb
 ·exact wzdf H ht ho hc aB
 ·exact wzc7 H ht ho hc aB
 ·exact qz7c H ho hc
 ·exact wzep H ht ho hc aB
 ·rename_i ty x agg sz y;simp only[AH,Bu,Li,Hy]at hc;obtain⟨⟨h1,h2⟩,hx⟩:=hc;exact Tc H ht ho hx h1 (fun e=>h2.resolve_left (by rw[e];simp)) aB
 ·simp only[AH,Bu]at hc;exact qz64 H ht ho hc.1.2 hc.2 hc.1.1 aB
 ·exact qz7m H ht ho hc aB
 ·rename_i s x f off y;simp only[AH]at hc;obtain⟨h1,hx⟩:=hc;split at h1
  ·rename_i o' ft hf;simp only[AH,Bu]at h1;obtain⟨rfl,h2⟩:=h1;split at h2
   ·rename_i n hn;exact qz66 H ht ho hx hf hn (by simpa using h2) aB
   ·cases h2
  ·cases h1
 ·rename_i ty x i st x' i';simp only[AH]at hc;obtain⟨⟨h1,hx⟩,hi⟩:=hc;split at h1
  ·rename_i e he;simp only[Bu]at h1;unfold SU at he;split at he
   ·rename_i e' hu;obtain rfl:=AJ he;exact qz3a H ht ho hx hi hu h1 aB
   ·cases he
  ·cases h1
 ·simp only[AH,Bu]at hc;obtain⟨rfl,hx⟩:=hc;exact qz1t H ht ho hx aB
 ·rename_i ty x i x' i';simp only[AH]at hc;obtain⟨⟨h1,hx⟩,hi⟩:=hc;split at h1
  ·rename_i hu;exact wzb8 H ht ho hx hi hu aB
  ·cases h1
 ·exact qz7d H ht ho hc aB
 ·exact qz4n H ht ho hc aB
 ·rename_i src dst x k y;simp only[AH]at hc;obtain⟨⟨h1,h2⟩,hx⟩:=hc;split at h2
  ·rename_i k' hd;simp only[Bu]at h2;subst h2;exact wzbc H ht ho hx h1 hd aB
  ·cases h2
 ·rename_i ty x lo hi isStr st x' lo' aW;simp only[AH]at hc;obtain⟨⟨⟨h1,hx⟩,cQ⟩,du⟩:=hc;split at h1
  ·rename_i hu;subst h1;exact Tl H ht ho hx cQ du hu (by simp) aB
  ·rename_i e hu;simp only[AH,Bu,Hy]at h1;obtain⟨rfl,h2⟩:=h1;exact Tl H ht ho hx cQ du hu (by simp;exact h2) aB
  ·cases h1
 ·rename_i args ats isStr x';simp only[AH,Bu]at hc;obtain⟨⟨⟨h1,h2⟩,hx⟩,hu⟩:=hc;obtain⟨x,rfl⟩:=Array.size_eq_one_iff.1 h1;obtain⟨ty,rfl⟩:=Array.size_eq_one_iff.1 h2;simp only[NV,Gbc,Option.bind_some]at hx hu;split at hu
  ·rename_i hd;subst hu;exact Ti H ht ho rfl rfl hd (by simp) hx aB
  ·rename_i e hd;simp only[Hy]at hu;subst hu;exact Ti H ht ho rfl rfl hd (by simp) hx aB
  ·cases hu
 ·rename_i args ats s st bytes x' y';split at hc
  ·rename_i x y tx ty cW kK;simp only[AH,Bu]at hc;obtain⟨⟨⟨rfl,hx⟩,hy⟩,h2⟩:=hc;obtain rfl:args=#[x,y]:=by rw[<-Jx (xs:=args),cW]
   obtain rfl:ats=#[tx,tx]:=by rw[<-Jx (xs:=ats),kK]
   split at h2
   ·rename_i e hu;simp only[AH,Bu,bne_iff_ne]at h2;obtain⟨⟨⟨hs,hb⟩,eu⟩,hz⟩:=h2;split at hz
    ·rename_i zl di;simp only[Bu]at hz;exact qz50 H ht ho hx hy hu hs hb di hz (by omega) aB
    ·cases hz
   ·cases h2
  ·cases hc
 ·rename_i args ats st0 x' y';split at hc
  ·rename_i x y cW;simp only[AH]at hc;exact wzdc H ht ho cW hc.1 hc.2 aB
  ·cases hc
 ·rename_i args ats st0 x' y';split at hc
  ·rename_i x y cW;simp only[AH]at hc;exact wzdn H ht ho cW hc.1 hc.2 aB
  ·cases hc
 ·rename_i ty x y yt sh x' y';simp only[AH,Bu,Hy]at hc;obtain⟨⟨⟨⟨h1,h2⟩,h3⟩,hx⟩,hy⟩:=hc;split at h3
  ·rename_i fs hu;exact Tu (ng:=false) H ht ho hx hy h1 h2 hu aB
  ·cases h3
 ·rename_i ty x y yt sh x' y';simp only[AH,Bu,Hy]at hc;obtain⟨⟨⟨⟨h1,h2⟩,h3⟩,hx⟩,hy⟩:=hc;split at h3
  ·rename_i fs hu;exact Tu (ng:=true) H ht ho hx hy h1 h2 hu aB
  ·cases h3
 ·rename_i ty x yt x';simp only[AH]at hc;split at hc
  ·rename_i e hu;exact TD (ng:=false) H ht ho hc.1 hu aB
  ·cases hc.2
 ·rename_i ty x yt x';simp only[AH]at hc;split at hc
  ·rename_i e hu;exact TD (ng:=true) H ht ho hc.1 hu aB
  ·cases hc.2
 ·exact qz7q H ho
 ·rename_i ty x k cok kd cok' zero x' k';simp only[AH,Bu]at hc;obtain⟨⟨⟨rfl,h1⟩,hx⟩,hk⟩:=hc;split at h1
  ·rename_i kt et hu;simp only[AH,Bu]at h1;exact qz7o H ht ho hx hk hu h1.1 h1.2 aB
  ·cases h1
 ·rename_i ty m k v kd m' k' v';simp only[AH]at hc;obtain⟨⟨⟨h1,hx⟩,hk⟩,hv⟩:=hc;split at h1
  ·rename_i kt et hu;simp only[Bu]at h1;exact TC H ht (.inl ho) hx hk hv hu h1 aB
  ·cases h1
 ·rename_i ty m k v kd m' k' v';simp only[AH]at hc;obtain⟨⟨⟨h1,hx⟩,hk⟩,hv⟩:=hc;split at h1
  ·rename_i kt et hu;simp only[Bu]at h1;exact TC H ht (.inr ho) hx hk hv hu h1 aB
  ·cases h1
 ·rename_i ty x s x';simp only[AH]at hc;obtain⟨h1,hx⟩:=hc;split at h1
  ·rename_i kt et hu;exact qz2q H ht ho hx hu aB
  ·cases h1
 ·exact qz6b H ht ho hc aB
 ·rename_i f first caps f' caps'
  simp only[AH,Bu]at hc;obtain⟨⟨rfl,h0⟩,bn⟩:=hc;exact qz99 H ht ho (by simpa using h0) bn
 ·rename_i src dst x s x';simp only[AH]at hc;obtain⟨h1,hx⟩:=hc;split at h1
  ·rename_i e hs hd;simp only[AH]at h1;obtain⟨h2,h3⟩:=h1;split at h2
   ·rename_i he;exact wzho H ht ho hx hs hd he aB
   ·cases h2
  ·cases h1
 ·rename_i src dst x x';simp only[AH]at hc;obtain⟨h1,hx⟩:=hc;split at h1
  ·rename_i e hs hd;simp only[AH]at h1;obtain⟨h2,h3⟩:=h1;split at h2
   ·rename_i he;exact Oy H ht ho hx hs he hd aB
   ·cases h2
  ·cases h1
 ·rename_i t0 x y s st bytes zero x';simp only[AH]at hc;obtain⟨⟨hx,hy⟩,h1⟩:=hc;split at h1
  ·rename_i e hu;simp only[AH,Bu,bne_iff_ne]at h1;obtain⟨⟨⟨hs,hb⟩,eu⟩,h2⟩:=h1;split at h2
   ·rename_i z hz;exact wzds H ht ho hx hy hu hs hb (by omega) hz h2 aB
   ·cases h2
  ·cases h1
 ·rename_i args ats st0 x' y';split at hc
  ·rename_i x y tx ty ha bL;simp only[AH]at hc;obtain⟨⟨hx,hy⟩,h1⟩:=hc;split at h1
   ·rename_i e hu;have hs:=Bu.1 h1;obtain rfl:args=#[x,y]:=(by rw[<-Jx (xs:=args),ha]);obtain rfl:ats=#[tx,ty]:=(by rw[<-Jx (xs:=ats),bL]);exact wzbp H ht ho hx hy hu hs aB
   ·cases h1
  ·cases hc
 ·rename_i args ats zero x';split at hc
  ·rename_i x tx ha bL;simp only[AH]at hc;obtain⟨hx,h1⟩:=hc;split at h1
   ·rename_i e hu;split at h1
    ·rename_i z hz;obtain rfl:args=#[x]:=by rw[<-Jx (xs:=args),ha]
     obtain rfl:ats=#[tx]:=by rw[<-Jx (xs:=ats),bL]
     exact qz62 H ht ho hx hu hz h1 aB
    ·cases h1
   ·cases h1
  ·cases hc
 ·exact qz6j H ht ho hc aB
 ·cases hc
end
theorem HP{ar:Ae->Aa}{h:Aq}{i:Nat}{ob:Ad}(o:An)(aB:(o.req ar h).ok)(ho:(o.req ar h).out=some (i,ob)):(h i).plain/\i∈(o.req ar h).rd:=by
 cases o<;>simp only[An.req]at aB ho |-<;>(try (cases ho;done))
 case alloc s zero =>simp only[Ba,BC]at ho;obtain⟨rfl,_⟩:=ho;exact⟨aB,by simp⟩
 case box s x =>cases hp:Cs (ar x)<;>simp only[hp,Req.fail]at aB ho |-;simp only[Ba,BC]at ho;obtain⟨rfl,_⟩:=ho;exact⟨aB,by simp⟩
 case bslice s st nn zero ps =>cases hp:Ds ar zero ps<;>simp only[hp,Req.fail]at aB ho |-;simp only[Ba,BC]at ho;obtain⟨rfl,_⟩:=ho;exact⟨aB.1,by simp⟩
 case fslice s st nn zero ps =>cases hp:Ds ar zero ps<;>simp only[hp,Req.fail]at aB ho |-;simp only[Ba,BC]at ho;obtain⟨rfl,_⟩:=ho;exact⟨aB.1,by simp⟩
 case store sz x y =>
  unfold Og at aB ho |-;cases hp:Cs (ar y)<;>simp only[hp,Req.fail]at aB ho |-;cases hx:ar x<;>simp only[hx,Req.fail]at aB ho |-
  case ptr id ep off =>
   cases hh:h id<;>simp only[hh,Req.fail]at aB ho |-
   case box ep' cs =>simp only[Ba,BC]at ho;obtain⟨rfl,_⟩:=ho;exact⟨by rw[hh];trivial,by simp⟩
   all_goals exact aB.elim
  case eptr id ep i' off =>
   cases hh:h id<;>simp only[hh,Req.fail]at aB ho |-
   case vec ep' st n f =>simp only[Ba,BC]at ho;obtain⟨rfl,_⟩:=ho;exact⟨by rw[hh];trivial,by simp⟩
   all_goals exact aB.elim
  all_goals exact aB.elim
 case append s st bytes x y =>
  simp only[Fp]at aB ho |-;cases hx:ar x<;>simp only[hx,Req.fail]at aB ho |-
  case nils =>
   by_cases hn:(Bk st (ar y) h).n=0
   ·simp only[hn,AZ]at ho;cases ho
   ·simp only[hn,C9]at aB ho |-;simp only[Ba,BC]at ho;obtain⟨rfl,_⟩:=ho;exact⟨aB.1,by simp⟩
  case vec id ep lo n =>
   cases hh:h id<;>simp only[hh,Req.fail]at aB ho |-
   case vec ep' st' m f =>simp only[Ba,BC]at ho;obtain⟨rfl,_⟩:=ho;exact⟨by rw[hh];trivial,by simp⟩
   all_goals exact aB.elim
  all_goals exact aB.elim
 case s2b s x =>cases hx:ar x<;>simp only[hx,Req.fail]at aB ho |-<;>(try (cases ho;done));simp only[Ba,BC]at ho;obtain⟨rfl,_⟩:=ho;exact⟨aB,by simp⟩
 case mks s st bytes zero x =>cases hx:ar x<;>simp only[hx,Req.fail]at aB ho |-<;>(try (cases ho;done));simp only[Ba,BC]at ho;obtain⟨rfl,_⟩:=ho;exact⟨aB.1,by simp⟩
 case b2s x =>exfalso;revert ho;unfold Lg;split<;>(intro ho;cases ho;done)
 case copy st0 x y =>unfold J2 at aB ho |-;cases hx:ar x<;>simp only[hx,Req.fail]at aB ho |-<;>(try (cases ho;done));rename_i id ep lo n;cases hh:h id<;>simp only[hh,Req.fail]at aB ho |-<;>(try (cases ho;done));simp only[Ba,BC]at ho;obtain⟨rfl,_⟩:=ho;exact⟨by rw[hh];trivial,by simp⟩
 case clear zero x =>unfold HF at aB ho |-;cases hx:ar x<;>simp only[hx,Req.fail]at aB ho |-<;>(try (cases ho;done));rename_i id ep lo n;cases hh:h id<;>simp only[hh,Req.fail]at aB ho |-<;>(try (cases ho;done));simp only[Ba,BC]at ho;obtain⟨rfl,_⟩:=ho;exact⟨by rw[hh];trivial,by simp⟩
 case mkmap s =>simp only[Ba,BC]at ho;obtain⟨rfl,_⟩:=ho;exact⟨aB,by simp⟩
 case mlook kd cok zero x k =>
  exfalso;revert ho;unfold E8;repeat' split
  all_goals (intro ho;cases ho;done)
 case mupd kd x k v =>
  unfold Ct at aB ho |-;cases hx:ar x<;>simp only[hx,Req.fail]at aB ho |-<;>(try (exact aB.elim));rename_i id ep;cases hh:h id<;>simp only[hh,Req.fail]at aB ho |-<;>(try (exact aB.elim));rename_i ep' es;cases hf:Cb (ar k) es 0 with
  |none=>simp only[hf]at aB
  |some r =>cases r<;>simp only[hf,Ba,BC]at ho |-<;>(obtain⟨rfl,_⟩:=ho;exact⟨by rw[hh];trivial,by simp⟩)
 case mrange s x =>
  unfold J1 at aB ho |-;cases hx:ar x<;>simp only[hx,Req.fail]at aB ho |-<;>(try (exact aB.elim))
  case nilmp =>simp only[Ba,BC]at ho;obtain⟨rfl,_⟩:=ho;exact⟨aB,by simp⟩
  case mp id ep =>cases hh:h id<;>simp only[hh,Req.fail]at aB ho |-<;>(try (exact aB.elim));simp only[Ba,BC]at ho;obtain⟨rfl,_⟩:=ho;exact⟨aB.2,by simp⟩
 case mentry x =>
  exfalso;revert ho;unfold HE;repeat' split
  all_goals (intro ho;cases ho;done)
 case bin op bools x y =>
  exfalso;revert ho;unfold Lf;repeat' split
  all_goals first
   |(intro ho;cases ho;done)
   |(rename_i k a _ b _;cases op<;>(intro ho;cases ho;done))
   |(rename_i k a _ b _ _;cases op<;>(intro ho;cases ho;done))
   |(cases op<;>(intro ho;cases ho;done))
 case pick c x y =>
  exfalso;revert ho;unfold Dz;repeat' split
  all_goals (intro ho;cases ho;done)
 case load agg sz x =>
  exfalso;revert ho;unfold D0;repeat' split
  all_goals (intro ho;cases ho;done)
 all_goals (exfalso;revert ho;repeat' split)<;>(intro ho;cases ho;done)
variable {E:Nat->Aa}{P:Program}{ρ:Option Nat}
theorem TJ{o:Op}{a:An}(h:yzx P o a=true):∀c,o≠.defer c:=by rintro c rfl;cases a<;>simp[yzx]at h
def putT(t:List Aa)(d:Option Tmp)(v:Aa):List Aa:=match d with
 |some d=>t.set d v
 |none=>t
theorem L0{g:Gh}{w:World}{t:List Aa}{a:Act}(ht:RVs g w t a.tmps.toList)(d:Option Tmp){x:Aa}{v:Value}(hv:RV g w x v):RVs g w (putT t d x) (a.put d v).tmps.toList:=by
 cases d with
 |none=>exact ht
 |some d =>simp only[putT,Act.put,Array.toList_setIfInBounds];exact ht.set d hv
theorem L1(a:Act)(d:Option Tmp)(v:Value):(a.put d v).defers=a.defers:=by cases d<;>rfl
def HA:Aa->Bool->Option Bool
 |.bool b,want=>some (if want then b else !b)
 |.cnd c (.bool b),want=>some (c&&if want then b else !b)
 |.cnd false _,_=>some false
 |_,_=>none
def Oz:Value->Option Bool
 |.bool b=>some b
 |_=>none
theorem TK{g:Gh}{w:World}{x:Aa}{v:Value}{want c:Bool}(hx:RV g w x v)(hg:HA x want=some c):(Oz v==some want)=c:=by
 cases x with
 |bool b =>simp only[HA,Ba]at hg;subst hg;rw[CX hx];cases want<;>cases b<;>rfl
 |cnd d y =>
  cases y with
  |bool b =>
   simp only[HA,Ba]at hg;subst hg;cases hx with
   |cnd _ _ _ h1 h0 =>
    cases d with
    |true =>rw[CX (h1 rfl)];cases want<;>cases b<;>rfl
    |false =>rw[h0 rfl];cases want<;>cases b<;>rfl
  |_ =>
   cases d with
   |true=>cases hg
   |false =>
    cases hg;cases hx with
    |cnd _ _ _ h1 h0=>rw[h0 rfl];cases want<;>rfl
 |_=>cases hg
structure Ak.Ok(P:Program)(ops:Array Oper)(o:Oper)(ao:Ak):Prop where
 dst:o.dst=ao.dst
 grd:match ao.guard with | none=>o.guard=none | some (tg,want)=>∃j,o.guard=some (j,want)/\(ops[j]?).bind (·.dst)=some tg
def argU(E:Nat->Aa)(t:List Aa):Ae->Aa
 |.t n=>unv (t.getD n .top)
 |y=>Ah E t y
def Cd:List Ae->List Tmp
 |[]=>[]
 |.t n :: r=>n :: Cd r
 |_ :: r=>Cd r
theorem EF{l:List Ae}{n:Nat}(h:Ae.t n∈l):n∈Cd l:=by
 induction l with
 |nil=>cases h
 |cons x r ih =>
  cases h with
  |head=>simp[Cd]
  |tail _ h=>cases x<;>simp[Cd,ih h]
def BO(c:Bool)(t:List Aa):List Ae->Prop
 |[]=>True
 |.t n :: r=>unc c (t.getD n .top)/\BO c t r
 |_ :: r=>BO c t r
def An.unAll(E:Nat->Aa)(c:Bool)(t:List Aa):An->Prop
 |.pick x y z=>BO c t [x]/\(match argU E t x with | .bool b=>BO (c&&b) t [y]/\BO (c&&!b) t [z] | _=>False)
 |o=>BO c t o.args
theorem qz8g(b:Bool)(X Y:Aa):(Dz b X Y).v=bif b then unv X else unv Y:=by
 unfold Dz;split
 ·rename_i p q h1 h2;cases b<;>simp[Req.when,h1,h2]
 ·rename_i k p k' q h1 h2;split
  ·rename_i e;subst e;cases b<;>simp[Req.when,h1,h2]
  ·cases b<;>simp[Req.when,h1,h2]
 ·cases b<;>simp[Req.when]
theorem TL(b:Bool)(X Y:Aa):(Dz b X Y).out=none:=by unfold Dz;split<;>(try split)<;>rfl
theorem wzbw{c:Bool}{t:List Aa}{l:List Ae}(h:BO c t l){n:Nat}(hn:Ae.t n∈l):unc c (t.getD n .top):=by
 induction l with
 |nil=>cases hn
 |cons x r ih =>
  cases hn with
  |head=>exact h.1
  |tail _ hn=>cases x<;>first|exact ih h.2 hn|exact ih h hn
def only(tm:List Nat)(t:List Aa):List Aa:=t.zipIdx.map fun x=>if x.2∈tm then unv x.1 else .top
theorem wzfb(tm:List Nat)(t:List Aa)(n:Nat)(hn:n∈tm):(only tm t).getD n .top=unv (t.getD n .top):=by
 simp only[only,List.getD,Hz,List.getElem?_zipIdx];cases h:t[n]? with
 |none=>rfl
 |some x=>simp[hn]
theorem wzjf{g:Gh}{w:World}{t:List Aa}{a:List Value}{c:Bool}(ht:RVs g w t a)(hc:c=true){l:List Ae}(hu:BO c t l)(tm:List Nat)(nv:∀n∈tm,Ae.t n∈l):RVs g w (only tm t) a:=by
 refine⟨by simp[only,ht.1],fun i x v hx hv=>?_⟩;simp only[only,Hz,List.getElem?_zipIdx,Option.map_map]at hx;cases h:t[i]? with
 |none=>simp[h]at hx
 |some y =>
  simp only[h,DN,Function.comp,Bq,Ba]at hx;subst hx;split
  ·rename_i hi;have jW:=wzbw hu (nv i hi);have e:t.getD i .top=y:=by simp[List.getD,h]
   rw[e]at jW;exact CY (ht.2 i y v h hv) jW hc
  ·exact .top v
theorem JB{l:List Ae}{n:Nat}(h:n∈Cd l):Ae.t n∈l:=by
 induction l with
 |nil=>cases h
 |cons x r ih =>
  cases x with
  |t m =>
   simp only[Cd,AY]at h;rcases h with rfl|h
   ·simp
   ·exact AQ _ (ih h)
  |c v=>exact AQ _ (ih h)
  |g i=>exact AQ _ (ih h)
def O0(E:Nat->Aa)(ρ:Option Nat)(P:Program)(ops:Array Oper)(o:Oper)(t0:List Aa)(h0:Aq)(tm:List Tmp)(rd:List Nat)(v:Aa)(out:Option (Nat×Ad)):Prop :=
 ∀(g:Gh) (a:Act) (w:World) (S:As),SR E g S a w->(∀x∈tm,S.t.getD x .top=t0.getD x .top)->(∀j∈rd,S.h j=h0 j) -> ∀(K:Act->World->Prop) (Q:Exit->Act->World->Prop),(∀g' a' w',SR E g' ⟨putT S.t o.dst v,putH S.h out,S.ds⟩ a' w'->Stp g S.h w g' (putH S.h out) w'->K a' w') ->
  if Region.wanted o (yielded ops a.tmps) then o.wpIn (FW ρ) 0 P a w K Q else(∀f,o.about P w a.eval=some f->(FW ρ).fn f)/\K (a.put o.dst undef) w
theorem TM{S:As}{g g':Gh}{w w':World}{out:Option (Nat×Ad)}(hs:∀D∈S.ds,S.h D.1=.dfr D.2)(hout:∀i ob,out=some (i,ob)->(S.h i).plain):∀D∈S.ds,putH S.h out D.1=.dfr D.2:=by
 intro D hD;cases out with
 |none=>exact hs D hD
 |some x =>
  obtain⟨i,ob⟩:=x;have hp:=hout i ob rfl;have aH:D.1≠i:=fun e=>by rw[<-e,hs D hD]at hp;exact hp
  simp only[putH,hset,Ag aH];exact hs D hD
theorem L2{o:Oper}{g:Gh}{a:Act}{w:World}{S:As}{r:Req}(hs:SR E g S a w)(hd:∀c,o.op≠.defer c)(hr:Ran E P (execOp a.eval o) g S.h w r)(hout:∀i ob,r.out=some (i,ob)->(S.h i).plain){K:Act->World->Prop} {Q:Exit->Act->World->Prop} {y:Aa} (hy:∀g' w' v,RV g' w' r.v v->RV g' w' y v)(hK:∀g' a' w',SR E g' ⟨putT S.t o.dst y,putH S.h r.out,S.ds⟩ a' w'->Stp g S.h w g' (putH S.h r.out) w'->K a' w'):o.wpIn (FW ρ) 0 P a w K Q:=by
 obtain⟨n,v,w',g',aP,hn,hv,H',st,_⟩:=hr;refine⟨fun f _=>trivial,?_⟩;rw[Oper.semAt_eq _ _ _ hd,aP];have key:K (a.put o.dst v) w':=by refine hK g' _ w' ⟨H',L0 (hs.tm.mono st.le) o.dst (hy _ _ _ hv),?_,TM (g:=g) (g':=g') (w:=w) (w':=w') hs.dk hout,hs.dn⟩ st;rw[L1,hs.df];refine H6 fun D hD=>?_;have h1:=hs.hr.ep D.1;have h2:=H'.ep D.1;have h3:=TM (g:=g) (g':=g') (w:=w) (w':=w') hs.dk hout D hD;rw[hs.dk D hD]at h1;rw[h3]at h2;rw[(st.le.same D.1 (h2.trans h1.symm)).1]
 rcases hn with rfl|⟨rfl,rfl⟩
 ·exact key
 ·exact key
theorem O1{ops:Array Oper}{o:Oper}(h:o.guard=none)(f:Nat->Option Bool):Region.wanted o f=true:=by simp[Region.wanted,h]
theorem wzd8{t t0:List Aa}{l:List Ae}(h:∀x∈Cd l,t.getD x .top=t0.getD x .top):∀y∈l,Ah E t y=Ah E t0 y:=by
 intro y hy;cases y with
 |t n=>exact h n (EF hy)
 |c v=>rfl
 |g i=>rfl
theorem qz5p{ops:Array Oper}{o:Oper}{ao:Ak}{t0:List Aa}{h0:Aq}(hc:yzx P o.op ao.op=true)(hk:Ak.Ok P ops o ao)(hg:ao.guard=none)(aB:(ao.op.req (Ah E t0) h0).ok) :
  O0 E ρ P ops o t0 h0 (Cd ao.op.args) (ao.op.req (Ah E t0) h0).rd (ao.op.req (Ah E t0) h0).v (ao.op.req (Ah E t0) h0).out:=by
 intro g a w S hs ht hh K Q hK;have dU:o.guard=none:=by have:=hk.grd;rw[hg]at this;exact this
 rw[Aj (O1 (ops:=ops) dU _)];have e1:ao.op.req (Ah E S.t) S.h=ao.op.req (Ah E t0) S.h:=J3 ao.op (wzd8 ht);have e2:ao.op.req (Ah E t0) S.h=ao.op.req (Ah E t0) h0:=J5 ao.op aB hh;have e:=e1.trans e2;have hr:=TI (E:=E) (P:=P) (t:=S.t) hs.hr hs.tm hc (by rw[e];exact aB);rw[e]at hr;refine L2 hs (TJ hc) hr (fun i ob ho=>?_) (fun _ _ _ h=>h) hK;obtain⟨hp,hm⟩:=HP ao.op aB ho;rw[hh i hm];exact hp
theorem TN{ops:Array Oper}{o:Oper}{ao:Ak}{t0:List Aa}{h0:Aq}{tg:Tmp}{want c:Bool}(hc:yzx P o.op ao.op=true)(hk:Ak.Ok P ops o ao)(hg:ao.guard=some (tg,want))(aY:HA (t0.getD tg .top) want=some c) (aB:c=true->ao.op.unAll E c t0/\(ao.op.req (argU E t0) h0).ok) :
  O0 E ρ P ops o t0 h0 (tg :: Cd ao.op.args) (ao.op.req (argU E t0) h0).rd (.cnd c (ao.op.req (argU E t0) h0).v) (bif c then(ao.op.req (argU E t0) h0).out else none):=by
 intro g a w S hs ht hh K Q hK;have dU:=hk.grd;rw[hg]at dU;obtain⟨j,kL,gB⟩:=dU
 have c7:Region.wanted o (yielded ops a.tmps)=c:=by
  have h1:=TK (hs.tm.getD tg) (by rw[ht tg (AP ..)];exact aY);rw[<-h1]
  have hy:yielded ops a.tmps j=Oz (a.tmps.getD tg undef):=by
   simp only[yielded,gB,Option.bind_some];by_cases hl:tg<a.tmps.size
   ·have e:a.tmps.getD tg undef=a.tmps[tg]:=(by simp[Array.getD,hl]);rw[Gc hl,e];cases a.tmps[tg]<;>rfl
   ·have e:a.tmps.getD tg undef=undef:=(by simp[Array.getD,hl]);rw[Array.getElem?_eq_none (Nat.le_of_not_lt hl),e];rfl
  simp only[Region.wanted,kL,hy]
 cases c with
 |false =>rw[c7];simp only[Jy,C9];refine⟨fun f _=>trivial,hK g _ w ⟨hs.hr,L0 hs.tm o.dst (.cnd _ _ _ (fun e=>by cases e) (fun _=>rfl)),by rw[L1];exact hs.df,hs.dk,hs.dn⟩ (.refl _ _ _)⟩
 |true =>
  rw[c7];simp only[AZ];obtain⟨hu,aB⟩:=aB rfl;have ii:∀x∈Cd ao.op.args,S.t.getD x .top=t0.getD x .top:=fun x hx=>ht x (AQ _ hx)
  have agree:∀l:List Ae,(∀x∈Cd l,S.t.getD x .top=t0.getD x .top)->∀d,BO d t0 l->BO d S.t l:=by
   intro l;induction l with
   |nil=>intro _ _ _;trivial
   |cons y r ih =>
    intro hl d hu;cases y with
    |t n=>exact⟨by rw[hl n (by simp[Cd])];exact hu.1,ih (fun x hx=>hl x (by simp[Cd,hx])) d hu.2⟩
    |c v=>exact ih hl d hu
    |g i=>exact ih hl d hu
  have hr:Ran E P (execOp a.eval o) g S.h w (ao.op.req (argU E t0) h0):=by
   by_cases iX:∃x y z,ao.op=.pick x y z
   ·obtain⟨x,y,z,aT⟩:=iX;rw[aT]at hu hc ii |-;simp only[An.unAll]at hu;obtain⟨nw,ij⟩:=hu
    have known:∀(d:Bool) (yy:Ae) (oo:Operand),d=true->(∀n∈Cd [yy],S.t.getD n .top=t0.getD n .top)->BO d t0 [yy]->A6 oo yy=true->RV g w (argU E t0 yy) (a.eval oo):=by
     intro d yy oo hd hl ik dm;have h1:=AV hs.hr hs.tm dm;cases yy with
     |t n =>have e:S.t.getD n .top=t0.getD n .top:=hl n (by simp[Cd]);simp only[Ah]at h1;rw[e]at h1;exact CY h1 (show unc d (t0.getD n .top) from ik.1) hd
     |c v=>exact h1
     |g i=>exact h1
    have n5:∃c0 x0 y0,o.op=.pick c0 x0 y0/\A6 c0 x=true/\A6 x0 y=true/\A6 y0 z=true:=by
     generalize o.op=op at hc;cases op<;>simp only[yzx]at hc<;>(try (cases hc;done))
     case pick c0 x0 y0 =>simp only[AH]at hc;exact⟨_,_,_,rfl,hc.1.1,hc.1.2,hc.2⟩
    obtain⟨c0,x0,y0,ho,il,iY,n6⟩:=n5;have mj:=known true x c0 rfl (fun n hn=>ii n (by have:=JB hn;exact EF (by simp only[An.args,AY,Oc,Oe]at this |-;exact .inl this))) nw il;simp only[An.req];split at ij
    ·rename_i b hb;rw[hb]at mj |-;have e:=CX mj;have aP:(execOp a.eval o).run P w=.ok (.value (if b=true then a.eval x0 else a.eval y0)) w:=by simp[execOp,ho,e,asBool]
     have hv:RV g w (Dz b (argU E t0 y) (argU E t0 z)).v (if b=true then a.eval x0 else a.eval y0):=by
      rw[qz8g];have uu:∀yy:Ae,∀vv,unc true (argU E t0 yy)->RV g w (argU E t0 yy) vv->RV g w (unv (argU E t0 yy)) vv:=fun yy vv h1 h2=>CY h2 h1 rfl;have kM:(Dz b (argU E t0 y) (argU E t0 z)).ok:=by have:=aB;rw[aT]at this;simp only[An.req,hb]at this;exact this
      have ik:unc b (argU E t0 y)/\unc (!b) (argU E t0 z):=by
       revert kM;unfold Dz;split
       ·exact id
       ·split<;>exact id
       ·exact id
      cases b with
      |true =>exact uu y _ ik.1 (known true y x0 rfl (fun n hn=>ii n (by have:=JB hn;exact EF (by simp only[An.args,AY,Oc,Oe]at this |-;exact .inr (.inl this)))) (by simpa using ij.1) iY)
      |false =>exact uu z _ ik.2 (known true z y0 rfl (fun n hn=>ii n (by have:=JB hn;exact EF (by simp only[An.args,AY,Oc,Oe]at this |-;exact .inr (.inr this)))) (by simpa using ij.2) n6)
     exact⟨_,_,w,g,aP,.inl rfl,hv,by rw[TL];exact hs.hr,by rw[TL];exact .refl _ _ _,fun _=>⟨rfl,rfl⟩⟩
    ·exact ij.elim
   ·have kN:BO true t0 ao.op.args:=by
     cases aT:ao.op<;>rw[aT]at hu<;>first|exact hu|exact absurd ⟨_,_,_,aT⟩ iX
    have jW:BO true S.t ao.op.args:=agree _ ii _ kN;have bA:=wzjf hs.tm rfl jW (Cd ao.op.args) (fun n hn=>JB hn)
    have e0:ao.op.req (Ah E (only (Cd ao.op.args) S.t)) S.h=ao.op.req (argU E t0) S.h:=by
     refine J3 ao.op fun y hy=>?_;cases y with
     |t n=>simp only[Ah,argU];rw[wzfb _ _ _ (EF hy),ii n (EF hy)]
     |c v=>rfl
     |g i=>rfl
    have e2:ao.op.req (argU E t0) S.h=ao.op.req (argU E t0) h0:=J5 ao.op aB hh;have e:=e0.trans e2;have hr:=TI (E:=E) (P:=P) hs.hr bA hc (by rw[e];exact aB);rw[e]at hr;exact hr
  exact L2 hs (TJ hc) hr (fun i ob ho=>by obtain⟨hp,hm⟩:=HP ao.op aB ho;rw[hh i hm];exact hp) (fun _ _ _ h=>.cnd _ _ _ (fun _=>h) (fun e=>by cases e)) hK
theorem qz5e{ops:Array Oper}{o:Oper}{ao:Ak}{t0:List Aa}{h0:Aq}{tg:Tmp}{want c:Bool}(hc:yzx P o.op ao.op=true)(hk:Ak.Ok P ops o ao)(hg:ao.guard=some (tg,want))(aY:HA (t0.getD tg .top) want=some c) (iZ:∀i ob,(ao.op.req (argU E t0) h0).out=some (i,ob)->ob=h0 i) (aB:c=true->ao.op.unAll E c t0/\(ao.op.req (argU E t0) h0).ok) :
  O0 E ρ P ops o t0 h0 (tg :: Cd ao.op.args) (ao.op.req (argU E t0) h0).rd (.cnd c (ao.op.req (argU E t0) h0).v) none:=by
 intro g a w S hs ht hh K Q hK
 have e3:putH S.h (bif c then(ao.op.req (argU E t0) h0).out else none)=S.h:=by
  cases c with
  |false=>rfl
  |true =>
   show putH S.h (ao.op.req (argU E t0) h0).out=S.h;cases ho:(ao.op.req (argU E t0) h0).out with
   |none=>rfl
   |some q =>
    obtain⟨i,ob⟩:=q;have e1:=iZ i ob ho;have e2:=hh i (HP ao.op (aB rfl).2 ho).2;funext j;show hset S.h i ob j=S.h j;simp only[hset];split
    ·rename_i ej;rw[ej,e1,e2]
    ·rfl
 exact TN hc hk hg aY aB g a w S hs ht hh K Q (by rw[e3];exact hK)
end Go.Am

