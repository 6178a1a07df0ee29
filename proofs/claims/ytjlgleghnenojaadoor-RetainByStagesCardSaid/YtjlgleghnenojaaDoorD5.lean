/- Part D5: helpers. No condition. -/
import Derived.Test.YtjlgleghnenojaaDoorD4
import Derived.Test.YtjlgleghnenojaaDoorD2
set_option linter.unusedSimpArgs false
set_option linter.unusedVariables false
set_option maxRecDepth 100000
namespace Go.Am
open Go.Proofs
attribute [local simp] areg aop dreg dop AOp.req argv argU AOp.args wze AOp.unAll Req.val Req.when putT putH qzdb ablk qzfc qzbd qzg6 vzl qzcj qzif qzid qzh7 qzh1 qzhy qzko qzhz qzji qzim qzgg qznh qzj2 qzkg qzjx IntKind.bits vz1 ARes.ok ARes.val vz5 cut AOp.quiet
attribute [local simp] qzc0 qzbz qzcz qze2 qzer qzep kzp qz1 qzh2 qzij
attribute [local simp] qzm6 qzj7 qzhq qzih qzm4 look qz8 zipA wm wh
attribute [local simp] qzm7 qzpn qzpz qzmg qzpx qzmf qzpo qzqa qzpi qzqk qzpm w_fn qznc qzjs qzjh qzhs qzj1 qzmh qzmi AObj.ep AObj.plain AObj.owned
attribute [local simp] wz9 qzbw qzeu qzdp qzey qzd2 qze5 qzfk qze7 qzdi qzdk qzd0 qzgy qzcq qzg5 qzc6 qzfa vz6 lay jzv ldv wzu qz5 kz1 qz9 qzgh wzd AVal.kind
attribute [local simp] AVal.one_int AVal.one_bool AVal.one_str AVal.one_nils AVal.one_slc AVal.one_vec AVal.one_ptr AVal.one_eptr AVal.one_cptr AVal.one_nilp AVal.one_fn AVal.one_nilfn AVal.one_mp AVal.one_nilmp
attribute [local simp] qzkh qzkv qzh8 qzh4 qzkt qzjr qzii qzik qzjn qzkm qzjf qzjw qzkl qzje qzh6 qzhx qzin qzig qzh5 qzio qzm9 qzna qzgf qzgr qzmt qzmr qzgn qzgz qzj6 qzj9 qzjv qzka qzju qzki qzkr qzku
attribute [local simp] qzh cI cB cS cL qzc3 qzdh qzdz qzb7 qzg1 qzh0 qzgc qziq fzm fzh fzv fzl fz1 qzjm qzhw qzjp qzjl qzjk List.range_succ qzd5 qze0 qzfg qzco qzdq qzdu qzag qzdw qzd4
attribute [local simp] qzj0
attribute [local simp] wz2c.cells
attribute [local simp] kzhx.cells
attribute [local simp] kzhv.cells
attribute [local simp] kzh0.cells
attribute [local simp] jz50.cells
attribute [local simp] wz2h.cells
attribute [local simp] kzht.cells
attribute [local simp] wz2w.cells
attribute [local simp] wz3g.cells
attribute [local simp] kzhz.cells
attribute [local simp] kzhu.cells
attribute [local simp] hset
def lkx:List (Nat×AObj)->qzl->Nat->AObj
 |[],h,i=>h i
 |p :: r,h,i=>if p.1=i then p.2 else lkx r h i
def hx(m:List (Nat×AObj))(h:qzl):qzl:=fun i=>lkx m h i
theorem kzk8(m:List (Nat×AObj))(h:qzl)(i:Nat)(o:AObj):hset (hx m h) i o=hx ((i,o) :: m) h:=by
 funext j;simp only[hset,hx,lkx];by_cases e:j=i
 ·subst e;simp
 ·have e':¬i=j:=fun k=>e k.symm;simp[e,e']
theorem kzvh(m:List (Nat×AObj))(h:qzl)(i:Nat):hx m h i=lkx m h i:=rfl
theorem kznf{m:List (Nat×AObj)}{h:qzl}{b i:Nat}(hm:m.all (fun p=>Nat.blt p.1 b)=true)(hi:b<=i):hx m h i=h i:=by
 show lkx m h i=h i;induction m with
 |nil=>rfl
 |cons p r ih =>
  simp only[List.all_cons,Gai,Gco]at hm;have:¬p.1=i:=by have:=hm.1;omega
  simp only[lkx,Gd3 this];exact ih hm.2
def subx(m:List (Nat×AObj))(h:qzl):List (Nat×AObj)->Prop
 |[]=>True
 |p :: r=>osub (lkx m h p.1) p.2/\subx m h r
theorem kzn6{m:List (Nat×AObj)}{h:qzl}{i:Nat}(hm:m.all (fun p=>!(p.1==i))=true):lkx m h i=h i:=by
 induction m with
 |nil=>rfl
 |cons p r ih =>simp only[List.all_cons,Gai,Gao,beq_eq_false_iff_ne,ne_eq]at hm;simp only[lkx,Gd3 hm.1];exact ih (by simpa using hm.2)
theorem kzm9{m:List (Nat×AObj)}{h h':qzl}:∀{r:List (Nat×AObj)},subx m h r->∀i,r.any (fun q=>q.1==i)=true->OSub (lkx m h i) (lkx r h' i)
 |[],_,i,hi=>by simp at hi
 |p :: r,hs,i,hi=>by
  simp only[lkx];split
  ·rename_i e;subst e;exact wzd5 hs.1
  ·rename_i e;refine kzm9 hs.2 i ?_;simpa [e] using hi
theorem kzux{m m':List (Nat×AObj)}{h:qzl}(hs:subx m h m')(hk:vz2 m m'=true)(i:Nat):OSub (hx m h i) (hx m' h i):=by
 show OSub (lkx m h i) (lkx m' h i);by_cases h1:m'.any (fun q=>q.1==i)=true
 ·exact kzm9 hs i h1
 ·have h2:m.all (fun p=>!(p.1==i))=true:=by
   rw[Ga0];intro p hp;unfold vz2 at hk;rw[Ga0]at hk;have:=hk p hp;cases e:(p.1==i)
   ·rfl
   ·exfalso;have e':p.1=i:=(by simpa using e);subst e';exact h1 this
  rw[kzn6 h2,kzn6 (by
   rw[Ga0];intro p hp;cases e:(p.1==i)
   ·rfl
   ·exfalso;exact h1 (List.any_eq_true.2 ⟨p,hp,e⟩))]
  exact .refl _
section
variable {E:Nat->AVal}{P:Program}{U:Option Nat}{Q:Exit->ASt->Prop}{m m':List (Nat×AVal)}{hm hm':List (Nat×AObj)}{h:qzl}{n:Nat}
theorem See.spx(h1:subm m m')(h2:subx hm h hm')(h3:vz2 hm hm'=true):See E ⟨tl m n,hx hm h,[]⟩ ⟨tl m' n,hx hm' h,[]⟩:=by refine .trans (S':=⟨tl m' n,hx hm h,[]⟩) (fun g a w hs=>⟨g,⟨hs.hr,wzef h1 hs.tm,hs.df,hs.dk,hs.dn⟩,.refl _ _ _⟩) ?_;exact .of_sub ⟨.refl _,fun i=>kzux h2 h3 i,rfl,by intro D hD;cases hD⟩
theorem AW.lpx{c:qzk}{α:Type}(im:α->List (Nat×AVal))(ih:α->List (Nat×AObj))(J:α->Nat)(I:α->Prop)(x₀:α)(h₀:I x₀)(s1:subm m (im x₀))(s2:subx hm h (ih x₀))(s3:vz2 hm (ih x₀)=true)(round:∀x,I x->AW E U P c (qzdb (fun S'=>∃x',I x'/\J x'<J x/\See E S' ⟨tl (im x') n,hx (ih x') h,[]⟩) Q) ⟨tl (im x) n,hx (ih x) h,[]⟩):AW E U P (.loop c) Q ⟨tl m n,hx hm h,[]⟩ :=
 .loop (fun x=>⟨tl (im x) n,hx (ih x) h,[]⟩) J I x₀ h₀ (.spx s1 s2 s3) round
end
section
attribute [local simp] kznm kzkz kzkx kzko kzk7 kzlr kzme kzmd kzk3 subm subh vz2 pick kzml
attribute [local simp] lkx kzk8 kzvh subx
def k16:Fc:=⟨16,[(.slc (.us 8))],[false],[(.slc (.us 8)),(.int .i64)],fun x=>kzii x⟩
def k34:Fc:=⟨34,[(.us 8)],[false],[.bool],fun x=>kzjo x⟩
structure HC16(Ls:List (List wz3g))(o:List wz3g⊕Unit)(ts:List AVal)(ps:Array Tmp)(asg body:Code)(pre:List (List wz3g))(h:qzl):Prop where
 h0:h 0=.box 1 [.nils]
 h1:h 1=.box 1 [.int .i64 0]
 out:∃ep out,h 2=.box 1 [ownV 6 ep out]/\h 6=ownO ep 5 wz3g.cells out/\out.length<=3*pre.length/\smL (Ls.drop pre.length) out=some o
 pl:∀i,i∈[3,4,5,7,9,10,11,12,13,14,15,17]->(h i).plain
 hD:h 900=.dfr 1
 hL:h 901=.loop 1 .ready none ts ps asg body 900 1
structure X16(o:List wz3g⊕Unit)(ts:List AVal)(ps:Array Tmp)(asg body:Code)(h:qzl):Prop where
 h0:h 0=.box 1 [.nils]
 h1:h 1=.box 1 [.int .i64 29]
 ho:o=.inr ()
 hD:h 900=.dfr 1
 hL:h 901=.loop 1 .done (some .ret) ts ps asg body 900 1
theorem HC16.loc{Ls:List (List wz3g)}{o:List wz3g⊕Unit}{ts:List AVal}{ps:Array Tmp}{asg body:Code}(l:List (List wz3g))(h h':qzl)(e:∀i,i<902->h' i=h i)(H:HC16 Ls o ts ps asg body l h):HC16 Ls o ts ps asg body l h':=by obtain⟨ep,out,a,b,c⟩:=H.out;refine⟨(e 0 (by omega)).trans H.h0,(e 1 (by omega)).trans H.h1,⟨ep,out,(e 2 (by omega)).trans a,(e 6 (by omega)).trans b,c⟩,fun i hi=>?_,(e 900 (by omega)).trans H.hD,(e 901 (by omega)).trans H.hL⟩;rw[e i (by simp at hi;omega)];exact H.pl i hi
def m16(o2 o6 o3 o4 o5 o7 o9 o10 o11 o12 o13 o14 o15 o17 L:AObj):List (Nat×AObj):=[(2,o2),(6,o6),(3,o3),(4,o4),(5,o5),(7,o7),(9,o9),(10,o10),(11,o11),(12,o12),(13,o13),(14,o14),(15,o15),(17,o17),(0,.box 1 [.nils]),(1,.box 1 [.int .i64 0]),(900,.dfr 1),(901,L)]
attribute [local simp] m16
def b16:List (Nat×AVal):=[(2,.ptr 0 1 0),(3,.ptr 1 1 0),(5,.ptr 2 1 0)]
attribute [local simp] b16
def ts16:List AVal:=tl (b16++[(25,.fn 51 0 [.ptr 2000 1 0])]) 162
theorem kzop(x:wz3g):(fun i:Nat=>([[AVal.int .i64 x.From,.int .i64 x.To,.slc 2 x.Table.length (qzd wz2w.cells x.Table),.int .i64 x.Lo,.int .i64 x.Hi]][i]?).getD [])=qzd wz3g.cells [x]:=funext fun i=>by cases i<;>rfl
theorem kzl5(l:List wz3g)(x:wz3g){n:Nat}(hn:n=l.length):(fun k:Nat=>if k<n then qzd wz3g.cells l k else([[AVal.int .i64 x.From,.int .i64 x.To,.slc 2 x.Table.length (qzd wz2w.cells x.Table),.int .i64 x.Lo,.int .i64 x.Hi]][k-n]?).getD [])=qzd wz3g.cells (l++[x]):=funext fun k=>by
 subst hn;rw[yzt];split
 ·rfl
 ·cases k-l.length<;>rfl
theorem kzwi{m:List (Nat×AVal)}{n:Nat}{hm:List (Nat×AObj)}{h:qzl}(e14 e12:Nat)(A B:Int)(tab:List wz2w):∃e',See EE ⟨tl m n,hx ((14,ownO e14 2 wz2w.cells tab) :: (12,.box e12 [.int .i64 A,.int .i64 B,ownV 14 e14 tab,.int .i64 0,.int .i64 0]) :: hm) h,[]⟩ ⟨tl m n,hx ((14,.gone e') :: (12,.box e12 [.int .i64 A,.int .i64 B,.slc 2 tab.length (qzd wz2w.cells tab),.int .i64 0,.int .i64 0]) :: hm) h,[]⟩:=by
 cases tab with
 |nil =>
  refine⟨e14,.pw (.refl _) (fun i=>?_) (fun D hD=>by cases hD)⟩;simp only[hx,lkx,ownO,ownV];by_cases h14:14=i
  ·rw[Gd4 h14,Gd4 h14];exact qzhs.2 trivial
  ·rw[Gd3 h14,Gd3 h14];by_cases h12:12=i
   ·rw[Gd4 h12,Gd4 h12];exact qzmh.2 ⟨rfl,.refl _,.refl _,.nil _ _,.refl _,.refl _,trivial⟩
   ·rw[Gd3 h12,Gd3 h12];exact qzhs.2 trivial
 |cons t tab =>
  refine⟨e14+1,.freeze (id:=14) (o:=.vec e14 2 (tab.length+1) (qzd wz2w.cells (t :: tab))) ?_ rfl trivial ?_ (fun j hj=>?_) (FVl.refl _) rfl⟩
  ·rfl
  ·rfl
  ·have hj':¬14=j:=fun e=>hj e.symm;simp only[hx,lkx,ownO,ownV,Gd3 hj'];by_cases h12:12=j
   ·rw[Gd4 h12,Gd4 h12];exact .inr (.inl ⟨_,_,_,rfl,rfl,.refl _,.refl _,.vec _ _ _ _ 0 _ _ rfl (by simp) (fun k _=>by rw[Gdk]),.refl _,.refl _,trivial⟩)
   ·rw[Gd3 h12,Gd3 h12];exact .inl rfl
theorem kzn9(a:Int)(l:List Int):(jzov a l).length=l.length+1:=by rw[(jzqe a l).length_eq];rfl
theorem kzm4:∀l:List Int,(jzpf l).length=l.length
 |[]=>rfl
 |a :: l=>by show(jzov a (jzpf l)).length=_;rw[kzn9,kzm4 l];rfl
theorem kzo4{m:List (Int×Int)}{ks:List Int}(h:jzoa m=some ks):ks.length<=1000000000:=by obtain⟨h1,h2⟩:=ck_e (show ck _ _=some ks from h);obtain rfl:=Gdp h2;rw[kzm4,Gbu];exact Gd7 h1
def tabf(m:List (Int×Int))(l:List Int):List wz2w:=(l.filter fun s=>decide (0<Option.getD (mget keqI m s) 0)).map fun s=>wz2w.mk s (Option.getD (mget keqI m s) 0)
theorem kzsf(m:List (Int×Int))(l:List Int):(tabf m l).length<=l.length:=by unfold tabf;rw[Gbu];exact List.length_filter_le _ _
theorem kzqt{m:List (Int×Int)}{ks:List Int}{j:Nat}{s:Int}(h:ks[j]?=some s):tabf m (ks.take (j+1))=if 0<Option.getD (mget keqI m s) 0 then tabf m (ks.take j)++[wz2w.mk s (Option.getD (mget keqI m s) 0)] else tabf m (ks.take j):=by unfold tabf;rw[List.take_add_one,h,List.filter_append,List.map_append];by_cases e:0<Option.getD (mget keqI m s) 0<;>simp[e]
theorem kzsj(a b:Int):(fun i:Nat=>([[AVal.int .i64 a,.int .i64 b]][i]?).getD [])=qzd wz2w.cells [⟨a,b⟩]:=funext fun i=>by cases i<;>rfl
theorem kzsk(l:List wz2w)(a b:Int){n:Nat}(hn:n=l.length):(fun k:Nat=>if k<n then qzd wz2w.cells l k else([[AVal.int .i64 a,.int .i64 b]][k-n]?).getD [])=qzd wz2w.cells (l++[⟨a,b⟩]):=funext fun k=>by
 subst hn;rw[yzt];split
 ·rfl
 ·cases k-l.length<;>rfl
structure YT where
 k:Nat
 e13:Nat
 e14:Nat
set_option maxHeartbeats 8000000 in
theorem kzvs(hG:∀(x:wz3g),qzq EE Tryd.prog 30 [.agg x.cells] (.bool (decide (x.Table=[]))))(hR:∀(x:wz3g),qzq EE Tryd.prog 34 [.agg x.cells] (.bool (decide (x.Table.length=1))))(hH:∀(a b s:Int) (r:wz3g),kzia a b s=some r->qzq EE Tryd.prog 23 [.int .i64 a,.int .i64 b,.int .i64 s] (.agg r.cells))(H67:qzq EE Tryd.prog 67 [.int .u64 0] (.int .i64 0)) (Ls:List (List wz3g)) (hLs0:∀p∈Ls,p.length<=2000/\tbs p=true) (hLn:Ls.length<=2000) (o:List wz3g⊕Unit) (ps:Array Tmp) (asg body:Code) (hps:ps.toList=[26]) (hasg:qzg Tryd.prog asg (.reg false (wza4 0) [])=true) (hbody:qzg Tryd.prog body (wzbl 0)=true) :
  kzte Ls 902 901 1 (HC16 Ls o ts16 ps asg body) (X16 o ts16 ps asg body):=by
 refine⟨HC16.loc,fun pre p rest h f hLs hp hf H=>?_⟩;have hL:=H.hL;have hD:=H.hD;refine⟨ts16,ps,asg,body,900,1,hL,by rw[<-Array.length_toList,hps];rfl,fun U=>?_⟩;rw[hps];refine(AW.reg (U:=U) (pr:=[]) ?_:AW EE U Tryd.prog (.reg false (wza4 0) []) _ _) asg hasg;simp[wza4,ts16,qzli];refine⟨hL,?_⟩;obtain⟨ep,out,h2,h6,hol,hF⟩:=H.out;obtain⟨hp1,htp⟩:=hLs0 p (by rw[hLs];simp);have hpr:pre.length<=2000:=by rw[hLs]at hLn;simp at hLn;omega
 have hpn:0<p.length:=List.length_pos_iff.2 hp;obtain⟨np,hnp⟩:∃np,p.length=np+1:=⟨p.length-1,by omega⟩;rw[hLs,List.drop_left]at hF;obtain⟨q,hq,hF⟩:=bd_e (show bd (kzle out p) _=some o from hF);unfold kzle at hq;obtain⟨x,hx0,hq⟩:=bd_e hq;obtain⟨y,hy0,hq⟩:=bd_e hq;obtain⟨_,_,hx0⟩:=qzlv hx0;obtain⟨_,_,hy0⟩:=qzlv hy0;rw[hnp,show(((np+1:Nat):Int)-1).toNat=np by omega]at hy0;have cx:f 0=x.cells:=by rw[hf 0 hpn];exact qzo hx0
 have cy:f np=y.cells:=by rw[hf np (by omega)];exact qzo hy0
 refine(?_:AW EE U Tryd.prog (wzbl 0) _ _) body hbody;change AW EE U Tryd.prog (wzbl 0) _ ⟨_,hset (hx [] h) 901 _,[]⟩;rw[kzk8];have h0:=H.h0;have h1:=H.h1;obtain⟨e3,g3⟩:∃e,e=(h 3).ep:=⟨_,rfl⟩;obtain⟨e4,g4⟩:∃e,e=(h 4).ep:=⟨_,rfl⟩;obtain⟨e5,g5⟩:∃e,e=(h 5).ep:=⟨_,rfl⟩;obtain⟨e7,g7⟩:∃e,e=(h 7).ep:=⟨_,rfl⟩;obtain⟨e9,g9⟩:∃e,e=(h 9).ep:=⟨_,rfl⟩;obtain⟨e10,g10⟩:∃e,e=(h 10).ep:=⟨_,rfl⟩;obtain⟨e11,g11⟩:∃e,e=(h 11).ep:=⟨_,rfl⟩;obtain⟨e12,g12⟩:∃e,e=(h 12).ep:=⟨_,rfl⟩;obtain⟨e13,g13⟩:∃e,e=(h 13).ep:=⟨_,rfl⟩;obtain⟨e14,g14⟩:∃e,e=(h 14).ep:=⟨_,rfl⟩;obtain⟨e15,g15⟩:∃e,e=(h 15).ep:=⟨_,rfl⟩;obtain⟨e17,g17⟩:∃e,e=(h 17).ep:=⟨_,rfl⟩;generalize hBL:AObj.loop 1 .busy none _ ps asg body 900 1=BL;refine .see (.spx (m':=b16++[(6,.slc 5 p.length f)]) (hm':=m16 (.box 1 [ownV 6 ep out]) (ownO ep 5 wz3g.cells out) (.gone e3) (.gone e4) (.gone e5) (.gone e7) (.gone e9) (.gone e10) (.gone e11) (.gone e12) (.gone e13) (.gone e14) (.gone e15) (.gone e17) BL) (by simp) ?_ (by simp)) ?_
 ·simp[h0,h1,h2,h6,hD,g3,g4,g5,g7,g9,g10,g11,g12,g13,g14,g15,g17,-AObj.ep]
 have hinp:inr .i64 (np:Int):=by show _/\_;omega
 have hG0:=hG x;have hRx:=hR x;have hRy:=hR y;simp only[wz3g.cells,qzh]at hG0 hRx hRy;refine .block (AW.sd (by simp[qz53,hnp,cx,cy];exact⟨hinp,by omega,by kernel_rfl,rfl⟩) ?_);refine .seq (AW.sr (by simp[qz9h];refine hG0.call ?_;(try simp);rfl) ?_);refine AW.if' (decide (x.Table=[])) (by simp) (fun e=>?_) (fun e=>AW.skip ?_)
 ·rw[e]at hq;obtain rfl:.inl (out++[x])=q:=Gdp hq;have hF:smL rest (out++[x])=some o:=hF;have ho2:(out++[x]).length<=3*(pre++[p]).length:=by simp;omega
  have hF2:smL (Ls.drop (pre++[p]).length) (out++[x])=some o:=by rw[hLs,show pre++p :: rest=(pre++[p])++rest by simp,List.drop_left];exact hF
  cases out with
  |nil =>
   refine AW.sr (by simp[qz5h];rfl) ?_;refine .exit ?_;simp only[qzdb,ablk,Gd5];refine⟨⟨none,by simp[<-hBL]⟩,.inl ⟨rfl,⟨by simp,by simp,⟨ep+1,[x],by simp,?_,ho2,hF2⟩,by simp,by simp,by simp⟩,fun i hi=>?_⟩⟩
   ·simp[kzop]
   ·rw[kzk8];exact kznf (b:=902) (by simp) hi
  |cons a m =>
   have hby:(m.length+1+1)*56<=140737488355328:=by simp at hol;omega
   refine AW.sr (by simp[qz5h];exact⟨hby,rfl⟩) ?_;refine .exit ?_;simp only[qzdb,ablk,Gd5];refine⟨⟨none,by simp[<-hBL]⟩,.inl ⟨rfl,⟨by simp,by simp,⟨ep+1,a :: m++[x],by simp,?_,ho2,hF2⟩,by simp,by simp,by simp⟩,fun i hi=>?_⟩⟩
   ·simp;exact kzl5 (a :: m) x rfl
   ·rw[kzk8];exact kznf (b:=902) (by simp) hi
 rw[e]at hq
 have hq:ite' (!(decide (x.Table.length=1)&&decide (y.Table.length=1))) (some (.inr ())) (bd (at? x.Table 0) fun a=>bd (at? y.Table 0) fun b =>
  ck (inB .i64 (x.From+1))<|bd (kzia x.From (x.From+1) a.Stage) fun h =>
  bd (kzmo p []) fun m=>bd (decM m a.Stage) fun m=>bd (decM m b.Stage) fun m =>
  ck (inB .i64 (y.To-1))<|bd (jzoa m) fun ks =>
  bd (bif decide (x.From+1<y.To) then bd (kzia (y.To-1) y.To b.Stage) fun z=>some [z] else some []) fun z =>
  some (.inl (out++[h]++(bif decide (x.From+1<y.To-1) then [wz3g.mk (x.From+1) (y.To-1) ((ks.filter fun s=>decide (0<Option.getD (mget keqI m s) 0)).map fun s=>wz2w.mk s (Option.getD (mget keqI m s) 0)) 0 0] else [])++z)))=some q:=hq
 simp only[qzdb];refine .seq (AW.mono (Q:=fun ex S=>(ex=.normal/\x.Table.length=1/\y.Table.length=1/\See EE S ⟨tl (b16++[(6,.slc 5 p.length f),(7,.ptr 3 (e3+1) 0),(8,.ptr 4 (e4+1) 0)]) 162,hx (m16 (.box 1 [ownV 6 ep out]) (ownO ep 5 wz3g.cells out) (.box (e3+1) [.int .i64 x.From,.int .i64 x.To,.slc 2 x.Table.length (qzd wz2w.cells x.Table),.int .i64 x.Lo,.int .i64 x.Hi]) (.box (e4+1) [.int .i64 y.From,.int .i64 y.To,.slc 2 y.Table.length (qzd wz2w.cells y.Table),.int .i64 y.Lo,.int .i64 y.Hi]) (.gone e5) (.gone e7) (.gone e9) (.gone e10) (.gone e11) (.gone e12) (.gone e13) (.gone e14) (.gone e15) (.gone e17) BL) h,[]⟩)\/(ex=.ret/\wzgj 901 1 ts16 ps asg body 900 1 (fun v h'=>(v=.bool true/\HC16 Ls o ts16 ps asg body (pre++[p]) h'/\∀i,902<=i->h' i=h i)\/(v=.bool false/\X16 o ts16 ps asg body h')) .ret S)) ?_ ?_)
 ·have fret:(!(decide (x.Table.length=1)&&decide (y.Table.length=1)))=true->o=.inr ():=fun e=>by
   rw[e]at hq;obtain rfl:=Gdp hq;exact(Gdp hF).symm
  by_cases h1x:x.Table.length=1
  ·rw[Gdy h1x]at hRx;refine .seq (.reg ?_);simp[qzy7];refine hRx.call ?_;simp;refine .inr ⟨fun _=>⟨by simp,hRy.call ?_⟩,fun e=>by cases e⟩;simp;refine AW.if' (!decide (y.Table.length=1)) (by simp) (fun e'=>?_) (fun e'=>AW.skip (.inl ⟨rfl,h1x,by simpa using e',.spx (by simp[hnp]) (by simp) (by simp)⟩));have ho:o=.inr ():=fret (by have:decide (y.Table.length=1)=false:=(by simpa using e');rw[this,Bool.and_false];rfl);refine AW.sr (by simp[qzx6];rfl) ?_;refine .ret (.inr ⟨rfl,⟨none,by simp[<-hBL,ts16]⟩,.inr ⟨rfl,by simp,by simp,ho,by simp,by simp[ts16]⟩⟩)
  ·rw[Gdw h1x]at hRx;refine .seq (.reg ?_);simp[qzy7];refine hRx.call ?_;simp;refine .inr ⟨(fun e=>by cases e),fun _=>?_⟩;simp[Req.fail];refine AW.if' true (by simp) (fun e'=>?_) (fun e'=>by cases e');refine AW.sr (by simp[qzx6];rfl) ?_;refine .ret (.inr ⟨rfl,⟨none,by simp[<-hBL,ts16]⟩,.inr ⟨rfl,by simp,by simp,fret (by rw[Gdw h1x];rfl),by simp,by simp[ts16]⟩⟩)
 rintro ex S (⟨rfl,h1x,h1y,hsee⟩|⟨rfl,hrp⟩);rotate_left
 ·exact hrp
 simp only[qzdb];refine .see hsee ?_;rw[Gdy h1x,Gdy h1y]at hq;obtain⟨a,ha,hq⟩:=bd_e (show bd (at? x.Table 0) _=some q from hq);obtain⟨b,hb,hq⟩:=bd_e hq;obtain⟨hck1,hq⟩:=ck_e hq;obtain⟨hd,hhd,hq⟩:=bd_e hq;obtain⟨m1,hm1,hq⟩:=bd_e hq;obtain⟨m2,hm2,hq⟩:=bd_e hq;obtain⟨m3,hm3,hq⟩:=bd_e hq;obtain⟨hck2,hq⟩:=ck_e hq;obtain⟨ks,hks,hq⟩:=bd_e hq;obtain⟨zl,hzl,hq⟩:=bd_e hq;obtain⟨_,_,ha⟩:=qzlv ha;obtain⟨_,_,hb⟩:=qzlv hb;have ca:qzd wz2w.cells x.Table 0=a.cells:=qzo ha;have cb:qzd wz2w.cells y.Table 0=b.cells:=qzo hb;have hk1:inr .i64 (x.From+1):=by simp[inB]at hck1;exact hck1
 have hk2:inr .i64 (y.To-1):=by simp[inB]at hck2;exact hck2
 refine AW.sd (by simp[qzza,h1x,h1y,ca,cb];exact⟨by kernel_rfl,rfl⟩) ?_;refine .seq (AW.mono (Q:=fun ex S=>ex=.normal/\See EE S ⟨tl (b16++[(6,.slc 5 p.length f),(7,.ptr 3 (e3+1) 0),(8,.ptr 4 (e4+1) 0),(9,.int .i64 a.Stage),(10,.int .i64 b.Stage)]) 162,hx (m16 (.box 1 [.vec 6 (ep+1) 0 (out.length+1)]) (.vec (ep+1) 5 (out.length+1) (qzd wz3g.cells (out++[hd]))) (.box (e3+1) [.int .i64 x.From,.int .i64 x.To,.slc 2 x.Table.length (qzd wz2w.cells x.Table),.int .i64 x.Lo,.int .i64 x.Hi]) (.box (e4+1) [.int .i64 y.From,.int .i64 y.To,.slc 2 y.Table.length (qzd wz2w.cells y.Table),.int .i64 y.Lo,.int .i64 y.Hi]) (.gone e5) (.gone (e7+1)) (.gone e9) (.gone e10) (.gone e11) (.gone e12) (.gone e13) (.gone e14) (.gone e15) (.gone e17) BL) h,[]⟩) ?_ ?_)
 ·have hH1:=hH _ _ _ _ hhd;cases out with
  |nil =>refine .draw ?_;simp[qzxx];refine⟨hk1,hH1.cd (.refl _) ?_⟩;simp;refine⟨by kernel_rfl,.spx (by simp) ?_ (by simp)⟩;simp[kzop,h1x,h1y]
  |cons z zs =>
   have hby:(zs.length+1+1)*56<=140737488355328:=by simp at hol;omega
   refine .draw ?_;simp[qzxx];refine⟨hk1,hH1.cd (.refl _) ?_⟩;simp;refine⟨hby,by kernel_rfl,.spx (by simp) ?_ (by simp)⟩;simp[h1x,h1y];exact fun k _=>(congrFun (kzl5 (z :: zs) hd rfl) k).symm
 rintro ex S ⟨rfl,hsee⟩;simp only[qzdb];refine .see hsee ?_;refine AW.sr (by simp[qzz5];rfl) ?_;refine .seq (.seq (AW.r1 (by simp[kzrz];rfl) ?_));have hpl2:p.length<4611686018427387904:=by omega
 refine .block (AW.lpx (fun z:YM=>b16++[(6,.slc 5 p.length f),(7,.ptr 3 (e3+1) 0),(8,.ptr 4 (e4+1) 0),(9,.int .i64 a.Stage),(10,.int .i64 b.Stage),(11,.mp 9 (e9+1)),(71,.slc 5 p.length f),(72,.int .i64 p.length),(73,.int .i64 z.k)]) (fun z=>m16 (.box 1 [.vec 6 (ep+1) 0 (out.length+1)]) (.vec (ep+1) 5 (out.length+1) (qzd wz3g.cells (out++[hd]))) (.box (e3+1) [.int .i64 x.From,.int .i64 x.To,.slc 2 x.Table.length (qzd wz2w.cells x.Table),.int .i64 x.Lo,.int .i64 x.Hi]) (.box (e4+1) [.int .i64 y.From,.int .i64 y.To,.slc 2 y.Table.length (qzd wz2w.cells y.Table),.int .i64 y.Lo,.int .i64 y.Hi]) (.gone e5) (.gone (e7+1)) (.amap (e9+1) (mE z.m)) (.gone z.e) (.gone z.f) (.gone e12) (.gone e13) (.gone e14) (.gone e15) (.gone e17) BL) (fun z=>p.length-z.k) (fun z=>z.k<=p.length/\kzmo (p.drop z.k) z.m=some m1) ⟨0,e10,e11,[]⟩ ⟨Gdl _,hm1⟩ (by simp) (by simp[mE]) (by simp) ?_)
 ·rintro⟨k,e10,e11,m⟩ ⟨hk,hM⟩;simp only at hk hM ⊢;refine AW.sr (by simp[kzrs];rfl) ?_;refine .seq (AW.if' (decide ((k:Int)<(p.length:Int))) (by simp) (fun e=>AW.skip ?_) (fun e=>.exit ?_))
  ·have hlt:k<p.length:=by have:=Gd7 e;omega
   have hat:p[k]?=some p[k]:=Gbe hlt;have hcell:f k=p[k].cells:=by rw[hf k hlt];exact qzo hat
   have htz:=kzmm htp hat;rw[Ga4 hlt]at hM;generalize p[k]=z at *;obtain⟨m',hz,hM⟩:=bd_e (show bd (addM z.Table m) _=some m1 from hM);have hin:inr .i64 ((k:Int)+1):=by show _/\_;omega
   simp only[qzdb];refine .seq (.block (AW.sr (by simp[kzpa,hlt,hcell];rfl) ?_));refine AW.sr (by simp[kzqe];rfl) ?_;refine .block (AW.lpx (fun w:YM=>b16++[(6,.slc 5 p.length f),(7,.ptr 3 (e3+1) 0),(8,.ptr 4 (e4+1) 0),(9,.int .i64 a.Stage),(10,.int .i64 b.Stage),(11,.mp 9 (e9+1)),(71,.slc 5 p.length f),(72,.int .i64 p.length),(73,.int .i64 k),(78,.slc 2 z.Table.length (qzd wz2w.cells z.Table)),(79,.int .i64 z.Table.length),(80,.int .i64 w.k)]) (fun w=>m16 (.box 1 [.vec 6 (ep+1) 0 (out.length+1)]) (.vec (ep+1) 5 (out.length+1) (qzd wz3g.cells (out++[hd]))) (.box (e3+1) [.int .i64 x.From,.int .i64 x.To,.slc 2 x.Table.length (qzd wz2w.cells x.Table),.int .i64 x.Lo,.int .i64 x.Hi]) (.box (e4+1) [.int .i64 y.From,.int .i64 y.To,.slc 2 y.Table.length (qzd wz2w.cells y.Table),.int .i64 y.Lo,.int .i64 y.Hi]) (.gone e5) (.gone (e7+1)) (.amap (e9+1) (mE w.m)) (.gone (e10+1)) (.gone w.f) (.gone e12) (.gone e13) (.gone e14) (.gone e15) (.gone e17) BL) (fun w=>z.Table.length-w.k) (fun w=>w.k<=z.Table.length/\addM (z.Table.drop w.k) w.m=some m') ⟨0,0,e11,m⟩ ⟨Gdl _,hz⟩ (by simp) (by simp) (by simp) ?_);rintro⟨j,_,e11,m⟩ ⟨hj,hA⟩;simp only at hj hA ⊢;refine AW.sr (by simp[kzp8];rfl) ?_;refine .seq (AW.if' (decide ((j:Int)<(z.Table.length:Int))) (by simp) (fun e=>AW.skip ?_) (fun e=>.exit ?_))
   ·have hltj:j<z.Table.length:=(by have:=Gd7 e;omega);have hatj:z.Table[j]?=some z.Table[j]:=Gbe hltj;have hcj:qzd wz2w.cells z.Table j=z.Table[j].cells:=qzo hatj;rw[Ga4 hltj]at hA;generalize z.Table[j]=t at *;obtain⟨hck,hA⟩:=ck_e (show ck _ _=some m' from hA);have k1:inr .i64 (Option.getD (mget keqI m t.Stage) 0+t.Ticks):=(by simp[inB]at hck;exact hck);have hinj:inr .i64 ((j:Int)+1):=(by show _/\_;omega);simp only[qzdb];refine .seq (.block (AW.sr (by simp[kzq3,hltj,hcj];rfl) ?_));refine AW.r1 (by simp[kzqk,kzka m,kzkt m];exact⟨k1,rfl⟩) ?_;simp only[qzdb,ablk];refine AW.r1 (by simp[kzrh];exact⟨hinj,rfl⟩) ?_;exact⟨⟨j+1,0,e11+1,mput keqI m t.Stage (Option.getD (mget keqI m t.Stage) 0+t.Ticks)⟩,⟨by simp only;omega,hA⟩,by simp only;omega,.spx (by simp) (by simp) (by simp)⟩
   obtain rfl:j=z.Table.length:=by have:=of_decide_eq_false e;omega
   rw[List.drop_length]at hA;obtain rfl:=Gdp (show some m=some m' from hA);simp only[qzdb,ablk,Gd5];refine AW.r1 (by simp[kzrl];exact⟨hin,rfl⟩) ?_;exact⟨⟨k+1,e10+1,e11,m⟩,⟨by simp only;omega,hM⟩,by simp only;omega,.spx (by simp) (by simp) (by simp)⟩
  obtain rfl:k=p.length:=by have:=of_decide_eq_false e;omega
  rw[List.drop_length]at hM;obtain rfl:=Gdp (show some m=some m1 from hM);simp only[qzdb,ablk,Gd5];obtain⟨hck3,hm2⟩:=ck_e hm2;obtain rfl:=Gdp hm2;obtain⟨hck4,hm3⟩:=ck_e hm3;obtain rfl:=Gdp hm3;have hk3:inr .i64 (Option.getD (mget keqI m a.Stage) 0-1):=by simp[inB]at hck3;exact hck3
  have hk4:inr .i64 (Option.getD (mget keqI (mput keqI m a.Stage (Option.getD (mget keqI m a.Stage) 0-1)) b.Stage) 0-1):=by simp[inB]at hck4;exact hck4
  refine AW.sr (by simp[kzri,kzka m,kzkt m];exact⟨hk3,rfl⟩) ?_;generalize mput keqI m a.Stage (Option.getD (mget keqI m a.Stage) 0-1)=m2 at *;refine AW.sr (by simp[kzr5,kzka m2,kzkt m2];exact⟨hk4,rfl⟩) ?_;generalize mput keqI m2 b.Stage (Option.getD (mget keqI m2 b.Stage) 0-1)=m3 at *;refine AW.sr (by simp[kzqg];exact⟨hk1,hk2,rfl⟩) ?_;have hkl:=kzo4 hks;refine .seq (.seq (.reg ?_));simp[kzpx];refine(kzuo 9 (e9+1)).call ?_;try simp
  refine(kzv6 H67 m3 ks _ 9 (e9+1) hks (by simp[mE]) _ (fun _ _=>rfl)).mono ?_;rintro v h' ⟨rfl,rfl⟩;simp;refine .block (AW.lpx (fun z:YT=>b16++[(7,.ptr 3 (e3+1) 0),(8,.ptr 4 (e4+1) 0),(10,.int .i64 b.Stage),(11,.mp 9 (e9+1)),(16,.ptr 12 (e12+1) 0),(110,.slc 1 ks.length (qzd (cI .i64) ks)),(111,.int .i64 ks.length),(112,.int .i64 z.k)]) (fun z=>m16 (.box 1 [.vec 6 (ep+1) 0 (out.length+1)]) (.vec (ep+1) 5 (out.length+1) (qzd wz3g.cells (out++[hd]))) (.box (e3+1) [.int .i64 x.From,.int .i64 x.To,.slc 2 x.Table.length (qzd wz2w.cells x.Table),.int .i64 x.Lo,.int .i64 x.Hi]) (.box (e4+1) [.int .i64 y.From,.int .i64 y.To,.slc 2 y.Table.length (qzd wz2w.cells y.Table),.int .i64 y.Lo,.int .i64 y.Hi]) (.gone e5) (.gone (e7+1)) (.amap (e9+1) (mE m3)) (.gone e10) (.gone e11) (.box (e12+1) [.int .i64 (x.From+1),.int .i64 (y.To-1),ownV 14 z.e14 (tabf m3 (ks.take z.k)),.int .i64 0,.int .i64 0]) (.gone z.e13) (ownO z.e14 2 wz2w.cells (tabf m3 (ks.take z.k))) (.gone e15) (.gone e17) BL) (fun z=>ks.length-z.k) (fun z=>z.k<=ks.length) ⟨0,e13,e14⟩ (Gdl _) (by simp) (by simp[tabf]) (by simp) ?_);rintro⟨j,e13,e14⟩ hj;simp only at hj ⊢;refine AW.sr (by simp[kzqx];rfl) ?_;refine .seq (AW.if' (decide ((j:Int)<(ks.length:Int))) (by simp) (fun e=>AW.skip ?_) (fun e=>.exit ?_))
  ·have hlt:j<ks.length:=by have:=Gd7 e;omega
   have hat:ks[j]?=some ks[j]:=Gbe hlt;have hcell:qzd (cI .i64) ks j=[.int .i64 ks[j]]:=by rw[qzo hat];rfl
   have hst:=kzqt (m:=m3) hat;have htl:=kzsf m3 (ks.take j);rw[Gbz]at htl;generalize ks[j]=s at *;have hin:inr .i64 ((j:Int)+1):=by show _/\_;omega
   simp only[qzdb];refine .seq (.block (AW.sr (by simp[kzpm,hlt,hcell];rfl) ?_));refine AW.sr (by simp[kzrt,kzka m3];rfl) ?_;refine AW.if' (decide (0<Option.getD (mget keqI m3 s) 0)) (by simp) (fun e'=>?_) (fun e'=>AW.skip ?_)
   ·rw[Gd4 (Gd7 e')]at hst;generalize tabf m3 (ks.take j)=tab at *;cases tab with
    |nil =>refine AW.r1 (by simp[kzn0,kzka m3];rfl) ?_;simp only[qzdb,ablk];refine AW.r1 (by simp[kzmj];exact⟨hin,rfl⟩) ?_;refine⟨⟨j+1,e13+1,e14+1⟩,by simp only;omega,by simp only;omega,.spx (by simp) ?_ (by simp)⟩;simp[hst,kzsj]
    |cons t tab =>have hby:(tab.length+1+1)*16<=140737488355328:=(by simp at htl;omega);refine AW.r1 (by simp[kzn0,kzka m3];exact⟨hby,rfl⟩) ?_;simp only[qzdb,ablk];refine AW.r1 (by simp[kzmj];exact⟨hin,rfl⟩) ?_;refine⟨⟨j+1,e13+1,e14+1⟩,by simp only;omega,by simp only;omega,.spx (by simp) ?_ (by simp)⟩;simp[hst];exact fun k _=>(congrFun (kzsk (t :: tab) s _ rfl) k).symm
   ·rw[Gd3 (of_decide_eq_false e')]at hst;simp only[qzdb,ablk];refine AW.r1 (by simp[kzmj];exact⟨hin,rfl⟩) ?_;refine⟨⟨j+1,e13,e14⟩,by simp only;omega,by simp only;omega,.spx (by simp) ?_ (by simp)⟩;simp[hst]
  obtain rfl:j=ks.length:=by have:=of_decide_eq_false e;omega
  rw[List.take_length];generalize hT:tabf m3 ks=tab at *;simp only[qzdb,ablk,Gd5];obtain⟨e14,s14⟩:=kzwi (m:=b16++[(7,.ptr 3 (e3+1) 0),(8,.ptr 4 (e4+1) 0),(10,.int .i64 b.Stage),(11,.mp 9 (e9+1)),(16,.ptr 12 (e12+1) 0)]) (n:=162) (hm:=[(2,.box 1 [.vec 6 (ep+1) 0 (out.length+1)]),(6,.vec (ep+1) 5 (out.length+1) (qzd wz3g.cells (out++[hd]))),(3,.box (e3+1) [.int .i64 x.From,.int .i64 x.To,.slc 2 x.Table.length (qzd wz2w.cells x.Table),.int .i64 x.Lo,.int .i64 x.Hi]),(4,.box (e4+1) [.int .i64 y.From,.int .i64 y.To,.slc 2 y.Table.length (qzd wz2w.cells y.Table),.int .i64 y.Lo,.int .i64 y.Hi]),(5,.gone e5),(7,.gone (e7+1)),(9,.gone (e9+1)),(10,.gone e10),(11,.gone e11),(13,.gone e13),(15,.gone e15),(17,.gone e17),(0,.box 1 [.nils]),(1,.box 1 [.int .i64 0]),(900,.dfr 1),(901,BL)]) (h:=h) e14 (e12+1) (x.From+1) (y.To-1) tab;refine .see (.trans (.spx ?_ ?_ ?_) s14) ?_
  ·simp
  ·simp
  ·simp
  have hq:some (Sum.inl (out++[hd]++(bif decide (x.From+1<y.To-1) then [wz3g.mk (x.From+1) (y.To-1) tab 0 0] else [])++zl))=some q:=by rw[<-hT];exact hq
  obtain⟨mid,hmid⟩:∃mid,(bif decide (x.From+1<y.To-1) then [wz3g.mk (x.From+1) (y.To-1) tab 0 0] else [])=mid:=⟨_,rfl⟩;rw[hmid]at hq;obtain rfl:=Gdp hq;have hF:smL rest (out++[hd]++mid++zl)=some o:=hF;have hml:mid.length<=1:=by rw[<-hmid];cases decide (x.From+1<y.To-1)<;>simp
  refine .seq (AW.mono (Q:=fun ex S=>ex=.normal/\∃ep2 f15,See EE S ⟨tl (b16++[(7,.ptr 3 (e3+1) 0),(8,.ptr 4 (e4+1) 0),(10,.int .i64 b.Stage)]) 162,hx (m16 (.box 1 [.vec 6 ep2 0 (out++[hd]++mid).length]) (.vec ep2 5 (out++[hd]++mid).length (qzd wz3g.cells (out++[hd]++mid))) (.box (e3+1) [.int .i64 x.From,.int .i64 x.To,.slc 2 x.Table.length (qzd wz2w.cells x.Table),.int .i64 x.Lo,.int .i64 x.Hi]) (.box (e4+1) [.int .i64 y.From,.int .i64 y.To,.slc 2 y.Table.length (qzd wz2w.cells y.Table),.int .i64 y.Lo,.int .i64 y.Hi]) (.gone e5) (.gone (e7+1)) (.gone (e9+1)) (.gone e10) (.gone e11) (.gone (e12+1)) (.gone e13) (.gone e14) (.gone f15) (.gone e17) BL) h,[]⟩) ?_ ?_)
  ·refine AW.sr (by simp[kzqs];rfl) ?_;refine AW.if' (decide (x.From+1<y.To-1)) (by simp) (fun e'=>?_) (fun e'=>AW.skip ?_)
   ·rw[e']at hmid;obtain rfl:=hmid;have hby:(out.length+1+1)*56<=140737488355328:=by omega
    refine AW.r1 (by simp[kzq2];exact⟨hby,rfl⟩) ?_;refine⟨rfl,ep+1+1,e15+1,.spx (by simp) ?_ (by simp)⟩;simp;exact fun k _=>(by have:=congrFun (kzl5 (n:=out.length+1) (out++[hd]) ⟨x.From+1,y.To-1,tab,0,0⟩ (by simp)) k;simpa using this.symm)
   ·rw[e']at hmid;obtain rfl:=hmid;refine⟨rfl,ep+1,e15,.spx (by simp) ?_ (by simp)⟩;simp
  rintro ex S ⟨rfl,ep2,f15,hsee⟩;simp only[qzdb];refine .see hsee ?_;have hol2:(out++[hd]++mid).length<=out.length+2:=by simp;omega
  have ho2:(out++[hd]++mid++zl).length<=3*(pre++[p]).length:=by
   have:zl.length<=1:=by
    cases hh:decide (x.From+1<y.To)<;>rw[hh]at hzl
    ·cases hzl;simp
    ·obtain⟨z,_,hz⟩:=bd_e (show bd _ _=some zl from hzl);cases hz;simp
   simp at hol2 ⊢;omega
  have hF2:smL (Ls.drop (pre++[p]).length) (out++[hd]++mid++zl)=some o:=by rw[hLs,show pre++p :: rest=(pre++[p])++rest by simp,List.drop_left];exact hF
  have hall:0<(out++[hd]++mid).length:=by simp;omega
  generalize out++[hd]++mid=out2 at *;refine AW.sr (by simp[kzr3];exact⟨hk1,rfl⟩) ?_;refine AW.if' (decide (x.From+1<y.To)) (by simp) (fun e'=>?_) (fun e'=>AW.skip ?_)
  ·rw[e']at hzl;obtain⟨z,hz,hzl⟩:=bd_e (show bd _ _=some zl from hzl);obtain rfl:=Gdp hzl;have hH2:=hH _ _ _ _ hz;have hby:(out2.length+1)*56<=140737488355328:=by omega
   refine .draw ?_;simp[kzqn];refine⟨hk2,hH2.cd (.refl _) ?_⟩;simp;refine⟨hby,by kernel_rfl,⟨none,by simp[<-hBL]⟩,.inl ⟨rfl,?_,fun i hi=>?_⟩⟩
   ·refine⟨by simp,by simp,⟨ep2+1,out2++[z],by simp[kzln],?_,ho2,hF2⟩,by simp,by simp,by simp⟩;rw[kzlm];simp;exact kzl5 out2 z rfl
   ·rw[kzk8];exact kznf (b:=902) (by simp) hi
  ·rw[e']at hzl;obtain rfl:=Gdp (show some []=some zl from hzl);rw[List.append_nil]at ho2 hF2;simp only[ablk];refine⟨⟨none,by simp[<-hBL]⟩,.inl ⟨rfl,⟨by simp,by simp,⟨ep2,out2,?_,?_,ho2,hF2⟩,by simp,by simp,by simp⟩,fun i hi=>?_⟩⟩
   ·cases out2 with
    |nil=>simp at hall
    |cons a m=>simp[ownV]
   ·cases out2 with
    |nil=>simp at hall
    |cons a m=>simp[ownO]
   ·rw[kzk8];exact kznf (b:=902) (by simp) hi
end
end Go.Am

