/- Part C1: contracts of some functions of this seat. No condition. -/
import Derived.Test.YtibbibelkkgfpaaGreatDoorG1
import Derived.Test.YtibbibelkkgfpaaGreatDoorH1
set_option maxHeartbeats 16000000
set_option linter.unusedSimpArgs false
set_option linter.unusedVariables false
set_option maxRecDepth 100000
namespace Go.Am
open Go.Proofs
variable {E f:Nat->Aa}{P:Program}{args caps cs:List Aa}{h H h':Aq}{R:Aa->Aq->Prop}{n S w k s e5 e6 e M p i K t k0 k1 k2 e3 e4 N j e23 e29 e27 e26 e24 e30 e31 e32 id e25 e28 e8 e7 e9 e10 e11 e12 e13 nn cx sI e14 e15:Nat}{o o1 o2 o24 o25 o26 o27 o28 o29 o30 o31 o32 o23 o12 o13 o14 o15 o9 o10 o11:Ad}{a F c' at0 tk:Int}{z fnv Vc Vx clv A B C D L C4 C5 A47 A48 A59 A60 A61 A119 A120 A121 A126 A127 A128:Aa}{α:Type}{x y:List (List Int)}{m m1:List (Int×List Int)}{c:List ((Int×Int)×Af)}{r:Al}{q q2 q1:Af}{b:AO}{m':List (Nat×Aa)}{ρ:Option Nat}{Q:Exit->Au->Prop}{hm rest:List (Nat×Ad)}{g g0:Nat->List Aa}{cl:List AB}{co:List (List Af)}{er ev lo:Nat->Nat}{mv:List (List (Int×Af))}{d d':List Af}{fr fr' left row out out1:List Int}{rate:Int->Int->Option Af}{spans:List An}{hd:AM}{turned:Bool}{v:α}
attribute [local simp] areg aop dreg dop Ao.req Ah argU Ao.args BT Ao.unAll Req.val Req.when putT putH Ay ablk Lm Jv yzk Ju HC vzo vz1 vz8 vzm yz3 yzu kz0 qzbj yz8 yzr yzq IntKind.bits HX ARes.ok ARes.val HY cut Ao.quiet
attribute [local simp] kzh jzu kzl kzi kzk kz8 US kz9 vza
attribute [local simp] UI UH yzd qzas qzbn look DZ zipA wm wh
attribute [local simp] qzbm UT JQ Pd Pe qzbf qzaa yzy G9 yzc vze UU Ad.ep Ad.plain Ad.owned
attribute [local simp] D3 O2 jz7 jzo jz0 jzf jz2 jz4 jzx jzn jzm jzk kzy wz4 kz1 wz2 jz6 BD lay D0 ldv Fo Bo Gl CX yzh BP Aa.kind
attribute [local simp] Aa.one_int Aa.one_bool Aa.one_str Aa.one_nils Aa.one_slc Aa.one_vec Aa.one_ptr Aa.one_eptr Aa.one_cptr Aa.one_nilp Aa.one_fn Aa.one_nilfn Aa.one_mp Aa.one_nilmp
attribute [local simp] yz6 qzag vz0 vzz yzt yzs vzt vz3 qzab yzv yzo yzn yz0 qzah vz4 vz7 vzx vzr vzq vz5 qzbb qzbl kzz kzx qzbg qzbd kzw kzv yz7 yz5 yzz yz4 qzaf qzai yzw yz9
attribute [local simp] Gn cI cB cS cL wz3 jzl jzj wzv kzu vzv kzs vz6 fzv fzl fz1 qzac vzw qzae yzp List.range_succ Ln wzq jzp jzg

attribute [local simp] AM.cells Al.cells Af.cells Bz.cells Bh.cells An.cells AD.cells Ic.cells Jw.cells Ie.cells Ig.cells AZ.cells AB.cells Jx.cells Gp.cells EO.cells F0.cells Jy.cells Jz.cells Fp.cells Ih.cells
section
def v140:Cc:=⟨140,.int .u32,[],[],fun l _=>F3 l⟩
def w143:Wc:=⟨143,.int .u8,[],[],fun l _=>Ii l⟩
theorem hEE:∀i,AE (EE i):=fun _=>.top
theorem ATr.wv{f:FuncId}{R':Aa->Aq->Prop}(H:ATr E P f args h R)(hr:∀v h',R v h'->∃v',W v v'/\R' v' h'):ATr E P f args h R' :=
 fun g w vs hh hv=>(H g w vs hh hv).mono fun _ _ ⟨g',h',r,v,q,e,rv,rest⟩=>by obtain⟨v',w1,q'⟩:=hr r h' q;exact⟨g',h',v',v,q',e,RV.w w1 rv,rest⟩
theorem UV:∀(n:Nat) (l:List Nat),l.Nodup->(∀x,x∈l->x<n)->l.length<=n
 |0,l,_,h=>by
  cases l with
  |nil=>simp
  |cons x l=>exact absurd (h x (by simp)) (by omega)
 |n+1,l,hd,h=>by
  have h1:=UV n (l.erase n) (hd.erase n) (fun x hx=>by have h2:=(hd.mem_erase_iff).1 hx;have:=h x h2.2;omega);have:=List.length_erase_le (a:=n) (l:=l);by_cases hm:n∈l
  ·rw[List.length_erase_of_mem hm]at h1;omega
  ·rw[List.erase_of_not_mem hm]at h1;omega
theorem wzq3{ord:List Nat}(dD:ord.Nodup)(h:∀x,x∈ord↔x<n):ord.Perm (List.range n):=by rw[List.perm_ext_iff_of_nodup dD List.nodup_range];intro a;rw[h,Jr]
theorem wzp1(l r:List Int)(X:Aa)(h:Aq)(s:Nat)(hF:F3 l=some r)(hp:(h s).plain)(hs:X=slcV 1 (cI .u32) l\/∃id ep lo m,id≠s/\X=.vec id ep lo (List.length l)/\h id=.vec ep 1 (List.length m) (Ai (cI .u32) m)/\lo+List.length l<=List.length m/\∀k,k<List.length l->Ai (cI .u32) m (lo+k)=Ai (cI .u32) l k) :
  ATr EE Tryz.prog 140 [X] h fun v h'=>∃ep,v=.vec s ep 0 (List.length r)/\0<List.length r/\h'=hset h s (.vec ep 1 (List.length r) (Ai (cI .u32) r)):=by
 have hh:r=l/\0<List.length l/\List.length l*4<=140737488355328:=by
  unfold F3 at hF;cases hx:(decide (0<List.length l)&&decide (List.length l*4<=140737488355328))
  ·rw[hx]at hF;cases hF
  ·rw[hx]at hF;simp only[AI,CA]at hx;cases hF;exact⟨rfl,hx⟩
 obtain⟨rfl,hn,bW⟩:=hh;obtain⟨c,hb,hc⟩:=wzub;refine ATr.sub (R:=fun v h'=>∃ep f',v=.vec s ep 0 (List.length r)/\h'=hset h s (.vec ep 1 (List.length r) f')/\∀k,k<List.length r->f' k=Ai (cI .u32) r k) ?_ ?_;rotate_left
 ·rintro v h' ⟨ep,f',rfl,rfl,hf⟩;refine⟨_,⟨ep,rfl,hn,rfl⟩,fun i=>?_⟩;simp only[hset];split
  ·exact .inr (.inr ⟨_,_,_,_,_,rfl,rfl,fun k hk=>(hf k hk).symm⟩)
  ·exact .refl _
 refine ATr.of (fn:=Tryz.f140) rfl hb wzus (hc s) 7 rfl ?_;refine AW.sr (by simp[UW,List.replicate];rfl) ?_;rcases hs with rfl|⟨id,ep,lo,m,aI,rfl,hid,cT,hf⟩
 ·rw[Gn];refine .seq ?_;refine AW.sr (by simp[Pf,hn];rfl) ?_;refine AW.if' false (by simp) (fun e=>by cases e) (fun _=>AW.skip ?_);refine AW.sr (by simp[Pg,-Ad.plain,-Ad.ep,hset,hp,Bo,D0,BD,Gl,Fo,bW];first|rfl|exact⟨rfl,rfl⟩|exact⟨hp,rfl,rfl⟩) ?_;refine .ret (Post.here (by simp[JR]) rfl ⟨(h s).ep+2,Ai (cI .u32) r,by simp[JR],?_,fun k hk=>rfl⟩);funext j;simp only[hset];by_cases hj:j=s<;>simp[hj]
 ·refine .seq ?_;refine AW.sr (by simp[Pf,hid];rfl) ?_;refine AW.if' false (by simp) (fun e=>by cases e) (fun _=>AW.skip ?_);refine AW.sr (by simp[Pg,-Ad.plain,-Ad.ep,hset,hp,Bo,D0,BD,Gl,Fo,bW,hid,aI,cT];first|rfl|exact⟨rfl,rfl⟩|exact⟨hp,rfl,rfl⟩) ?_;refine .ret (Post.here (by simp[JR]) rfl ⟨(h s).ep+2,fun k=>Ai (cI .u32) m (lo+k),by simp[JR],?_,hf⟩);funext j;simp only[hset];by_cases hj:j=s<;>simp[hj]
theorem wzpa:CcOk v140:=⟨by kernel_rfl,fun l x r X h s a b c=>wzp1 l r X h s a b c⟩
theorem wzuw(l r:List Int)(h:Aq)(id ep:Nat)(hF:Ii l=some r)(hid:h id=ownO ep 1 (cI .u8) l) :
  ATr EE Tryz.prog 143 [ownV id ep l] h fun v h'=>v=.tup []/\h'=hset h id (ownO ep 1 (cI .u8) r)/\List.length r=List.length l:=by
 unfold Ii at hF;cases hx:decide (List.length l<=4611686018427387904)
 ·rw[hx]at hF;cases hF
 rw[hx]at hF;obtain rfl:r=l.reverse:=(AL hF).symm;simp only[CA]at hx;have main:=wzpn (E:=EE) Tryz.laysE35 (fun n=>.int .u8 n) (Value.int .u8) (fun _=>rfl) (fun g w x v hv=>by cases hv;rfl) (fun g w x=>.int _ _) (H:=h) (id:=id) (ep:=ep) (l:=l) hid (by omega);exact main.mono fun v h' ⟨a,b⟩=>⟨a,b,by simp⟩
theorem wzqa:WcOk w143:=⟨by kernel_rfl,fun l x r h id ep a b=>wzuw l r h id ep a b⟩
def k104:Fc:=⟨104,[.str],[false],[(.slc (.int .u32))],fun x=>Gq x⟩
def k103:Fc:=⟨103,[(.slc (.int .u32)),(.slc (.int .u32))],[false,false],[(.slc (.int .u32)),(.slc (.int .u32))],fun x=>EP x.1 x.2⟩
def k105:Fc:=⟨105,[(.slc (.int .u32))],[false],[.str],fun x=>Ij x⟩
theorem UX:CY Tryz.prog 102=true:=by kernel_rfl
theorem wzos(bW:∀x y r,EP x y=some r->AK EE Tryz.prog 103 [slcV 1 (cI .u32) x,slcV 1 (cI .u32) y] (.tup [slcV 1 (cI .u32) r.1,slcV 1 (cI .u32) r.2])):∀(n:Nat) (x y r:List Int),lpN Ik n (x,y)=some r->∀h:Aq,h 0=.box 1 [.fn 102 0 [.ptr 0 1 0]] ->
  ATr EE Tryz.prog 102 [slcV 1 (cI .u32) x,slcV 1 (cI .u32) y,.ptr 0 1 0] h (fun v h'=>v=slcV 1 (cI .u32) r/\h'=h):=by
 intro n;induction n with
 |zero=>intro x y r hr;cases hr
 |succ n ih =>
  intro x y r hr h h0;rw[lpN]at hr;obtain⟨c,cJ,hc⟩:=wzwx;refine ATr.of (fn:=Tryz.f102) rfl cJ wzuo (hc 0) 19 rfl ?_;refine .seq (.reg ?_);simp[UY];refine .seq (.seq (.reg ?_));simp[Va];refine .cond (t:=decide ((List.length y:Int)=0)) (by simp) (fun e=>?_) (fun e=>?_)
  ·have e':(Ik (x,y))=some (.inr x):=by simp only[Ik,e,ite']
   rw[e']at hr;cases hr;refine .seq (.reg ?_);simp[Vb];refine .ret ?_;simp only[Ay,ablk];refine .here ?_ rfl ⟨?_,?_⟩
   ·simp[JS]
   ·simp[JS]
   ·simp
  ·have e':(Ik (x,y))=bd (EP x y) fun r=>some (.inl (y,r.2)):=by simp only[Ik,e,ite']
   rw[e']at hr;cases hq:EP x y with
   |none=>rw[hq]at hr;cases hr
   |some q =>
   rw[hq]at hr;have hr:lpN Ik n (y,q.2)=some r:=hr;refine .skip ?_;refine .seq (.reg ?_);simp[Ve];refine(bW x y q hq).ca (by simp) ?_;simp;refine .seq (.reg ?_);simp[Vf,h0];refine⟨UX,?_⟩;try simp[fnArgs]
   refine((ih y q.2 r hr h h0).w (by simp)).mono ?_;rintro v h' ⟨rfl,rfl⟩;refine .ret ?_;try simp only[Ay,ablk]
   refine .here ?_ rfl ⟨?_,?_⟩
   ·simp[JS]
   ·simp[JS]
   ·simp
theorem qz6a(bW:∀x y r,EP x y=some r->AK EE Tryz.prog 103 [slcV 1 (cI .u32) x,slcV 1 (cI .u32) y] (.tup [slcV 1 (cI .u32) r.1,slcV 1 (cI .u32) r.2]))(gR:∀x r,Gq x=some r->AK EE Tryz.prog 104 [.str x] (slcV 1 (cI .u32) r))(oe:∀x r,Ij x=some r->AK EE Tryz.prog 105 [slcV 1 (cI .u32) x] (.str r))(a0:List UInt8)(b1:List UInt8)  (r:List UInt8)(h:GA a0 b1=some r):AK EE Tryz.prog 61 [.str a0,.str b1] (.str r):=by
 refine Pure.still ?_ hEE (by simp) (by simp);obtain⟨c,hb,hc⟩:=ck61;replace h:=Ok.of h;unfold GA at h;obtain⟨x,hx,h⟩:=h.ex;obtain⟨y,hy,h⟩:=h.ex;obtain⟨q,hq,h⟩:=h.ex
 have ht:Ij q=some r:=by
  cases hx:Ij q with
  |none=>rw[hx]at h;exact h.no
  |some v=>rw[hx]at h;exact Gk some h.some
 rw[Il]at hq;refine Pure.ofs (fn:=Tryz.f61) (n:=14) rfl hb cr61 (hc 0) rfl rfl (by simp) ?_;refine AW.rS [(0,.str a0),(1,.str b1)] [] ?_ ?_
 ·simp[Vg];exact .mk (by simp) (by simp) rfl
 refine AW.rS [(0,.str a0),(1,.str b1),(5,.ptr 0 1 0)] [(0,.box 1 [.nilfn])] ?_ ?_
 ·simp[Vh];exact .mk (by simp) (by simp) rfl
 refine AW.rS [(0,.str a0),(1,.str b1),(5,.ptr 0 1 0)] [(0,.box 1 [.fn 102 0 [.ptr 0 1 0]])] ?_ ?_
 ·simp[Vi];exact .mk (by simp) (by simp) rfl
 refine AW.dS [(4,.str r)] [(0,.gone 1)] ?_ ?_
 ·simp[Vj];refine(gR a0 x hx).cd (by simp) ?_
  (try simp)
  refine(gR b1 y hy).cd (by simp) ?_
  (try simp)
  refine⟨UX,?_⟩;simp[fnArgs];refine⟨slcV 1 (cI .u32) q,[0],fun h' e=>((wzos bW _ x y q hq h' ?_).w (by simp)).mono ?_,?_⟩
  ·rw[e 0 (by simp)];simp[hl,DZ]
  ·rintro v h' ⟨rfl,rfl⟩;exact⟨rfl,rfl⟩
  simp;refine(oe q r ht).cd (by simp) ?_
  (try simp)
  (repeat' apply And.intro)<;>first|kernel_rfl|exact .mk (by simp) (by simp) rfl
 exact AW.rt (rs:=rs61) [(4,.str r)] [(0,.gone 1)] (by simp) (by simp) rfl rfl (by simp[rs61]) (by simp[rs61])
def k61:Fc:=⟨61,[.str,.str],[false,false],[.str],fun x=>GA x.1 x.2⟩
theorem wzrw(H1:Ap k103)(H2:Ap k104)(H3:Ap k105):Ap k61 := ⟨by kernel_rfl,fun x y e=>qz6a (fun a b r h=>H1.ok (a,b) r h) (fun a r h=>H2.ok a r h) (fun a r h=>H3.ok a r h) x.1 x.2 y e⟩
theorem OSub.of_eq{o':Ad}(h:o'=o):OSub o o':=.inr (.inl h)
theorem Post.norm{rs:List ARes}{S:Au}(h:Post E rs R .ret S):Post E rs R .normal S:=h
end
section
attribute [local simp] hset
theorem wza0(a:Al):BD (Al.cells a)=true:=rfl
theorem qz6z(a:Al):List.take 5 (Al.cells a)=Al.cells a:=rfl
def k53:Fc:=⟨53,[(.us 6)],[false],[.bool],fun x=>EQ x⟩
def k67:Fc:=⟨67,[(.int .i64),(.int .i64),(.int .i64)],[false,false,false],[(.us 1)],fun x=>Eb x.1 x.2.1 x.2.2⟩
def k68:Fc:=⟨68,[(.us 1),(.us 1)],[false,false],[(.us 1),.bool],fun x=>GB x.1 x.2⟩
def k34:Fc:=⟨34,[(.us 6)],[false],[(.slc (.us 1)),(.int .i64)],fun x=>F4 x⟩
theorem wzb6{a:AM}(hz:z∈a.cells):AE z:=by simp[AM.cells]at hz;rcases hz with rfl|rfl<;>exact .int _ _
theorem Vk{a:Al}(hz:z∈a.cells):AE z:=by simp[Al.cells]at hz;rcases hz with rfl|rfl|rfl|rfl|rfl<;>first|exact .int _ _|exact C0 fun a z hz=>wzb6 hz
def HO(hc:List Aa)(o:Ad)(e1 e3 e4:Nat):Aq:=fun i =>
 if i=0 then .box 1 hc else if i=1 then .gone e1 else if i=2 then o else if i=3 then .gone e3 else if i=4 then .gone e4 else .gone 0
theorem Vl(id ep:Nat)(l:List α)(x:α):ownV id ep (l++[x])=.vec id ep 0 (l.length+1):=by cases l<;>simp[ownV]
theorem Vm(ep st:Nat)(c:α->List Aa)(l:List α)(x:α):ownO ep st c (l++[x])=.vec ep st (l.length+1) (Ai c (l++[x])):=by cases l<;>simp[ownO]
def TO7(hc:List Aa)(S O:Aa)(n k:Nat):List Aa:=[.agg hc,.ptr 0 1 0,.nils,.int .i64 0,O,.top,.top,.top,.top,.top,.top,.top,.top,.top,S,.int .i64 n,.int .i64 k]++List.replicate 49 .top
structure Y7 where
 k:Nat
 ep:Nat
 out:List Al
 e1:Nat
 e3:Nat
 e4:Nat
theorem wzkq{a x:Al}{m:List Al}(j:Nat)(hj:j<m.length+1+1):Ai Al.cells (a :: m++[x]) j=if j<m.length+1 then Ai Al.cells (a :: m) j else [Al.cells x][j-(m.length+1)]?.getD []:=by
 by_cases aX:j<m.length+1
 ·rw[Aj aX];unfold Ai;rw[E9 (by simpa using aX)]
 ·obtain rfl:j=m.length+1:=by omega
  rw[Ag aX,Bb (x:=x) (by simp)];simp
theorem wzhe{h:AD}(e:EQ h=some true):h.Stages.length<=40000:=by
 unfold EQ at e;cases hd:decide ((h.Stages.length:Int)<=40000)
 ·rw[hd]at e;cases e
 ·have:=BC hd;omega
theorem of70(hR:∀(h:AD) (r:Bool),EQ h=some r->AK EE Tryz.prog 53 [.agg h.cells] (.bool r))(hH:∀(a b s:Int) (r:Al),Eb a b s=some r->AK EE Tryz.prog 67 [.int .i64 a,.int .i64 b,.int .i64 s] (.agg r.cells))(hB:∀(a b:Al) (r:Al×Bool),GB a b=some r->AK EE Tryz.prog 68 [.agg a.cells,.agg b.cells] (.tup [.agg r.1.cells,.bool r.2]))(h:AD) (r:List Al×Int) (hF:F4 h=some r):ATr EE Tryz.prog 34 [.agg h.cells] h0 (fun v _=>W v (.tup [slcV 5 Al.cells r.1,.int .i64 r.2])):=by
 unfold F4 at hF;cases h1:EQ h with
 |none=>rw[h1]at hF;cases hF
 |some rb =>
 have sR:=hR h rb h1;rw[h1]at hF;have hF:ite' (!rb) (some ([],1)) (bd (ofL h.From 0 h.Stages []) fun out=>ite' (decide (2000<(List.length out:Int))) (some ([],2)) (some (out,0)))=some r:=hF;obtain⟨c,hb,hc⟩:=ck34;refine ATr.of (fn:=Tryz.f34) rfl hb cr34 (hc 0) 65 rfl ?_;obtain⟨hf,hs⟩:=h;have dH:AD.cells ⟨hf,hs⟩=[.int .i64 hf,(Aa.slc 1 hs.length (Ai (cI .i64) hs))]:=rfl;simp only[dH]at sR |-;refine AW.sr (by simp[Vn,List.replicate,h0];rfl) ?_;refine .seq (AW.sr (by simp[Vo];refine sR.call ?_;(try simp);rfl) ?_);refine AW.if' (!rb) (by simp) (fun e'=>?_) (fun e'=>AW.skip ?_)
 ·rw[show(!rb)=true from e']at hF;cases hF;refine AW.sr (by simp[Vp];rfl) ?_;refine .ret ?_;simp only[Ay];refine .here (by simp[rs34]) rfl ?_;simp[rs34]
 rw[show(!rb)=false from e']at hF
 have aE:hs.length<=40000:=by
  have:rb=true:=by simpa using e'
  rw[this]at h1;exact wzhe h1
 have hF:bd (ofL hf 0 hs []) (fun out=>ite' (decide (2000<(List.length out:Int))) (some ([],2)) (some (out,0)))=some r:=hF;cases h3:ofL hf 0 hs [] with
 |none=>rw[h3]at hF;cases hF
 |some fin =>
 rw[h3]at hF;have hF:ite' (decide (2000<(List.length fin:Int))) (some ([],2)) (some (fin,0))=some r:=hF;simp only[Ay];refine AW.sr (by simp[Vq];rfl) ?_;refine .seq (.seq (AW.r1 (by simp[Vr];rfl) ?_));refine .block (.loop (fun y:Y7=>(⟨TO7 [.int .i64 hf,(Aa.slc 1 hs.length (Ai (cI .i64) hs))] (Aa.slc 1 hs.length (Ai (cI .i64) hs)) (ownV 2 y.ep y.out) hs.length y.k,HO [.int .i64 hf,(Aa.slc 1 hs.length (Ai (cI .i64) hs))] (ownO y.ep 5 Al.cells y.out) y.e1 y.e3 y.e4,[]⟩:Au)) (fun y=>hs.length-y.k) (fun y=>y.k<=hs.length/\y.out.length<=y.k/\ofL hf y.k (hs.drop y.k) y.out=some fin) ⟨0,0,[],0,0,0⟩ ⟨BA _,AA _,h3⟩ (.of_sub ⟨?_,fun i=>?_,rfl,fun D hD=>by cases hD⟩) ?_)
 ·simp[TO7,List.replicate,TSub,VSub,ownV]
 ·refine .of_eq ?_;simp only[HO,hset,h0,ownO];by_cases i0:i=0
  ·subst i0;simp
  by_cases i2:i=2
  ·subst i2;simp
  simp[i0,i2]
 rintro⟨k,ep,out,e1,e3,e4⟩ ⟨hk,ho,bJ⟩;simp only at hk ho bJ |-;have q0:∀o e1 e3 e4,HO [.int .i64 hf,(Aa.slc 1 hs.length (Ai (cI .i64) hs))] o e1 e3 e4 0=.box 1 [.int .i64 hf,(Aa.slc 1 hs.length (Ai (cI .i64) hs))]:=fun _ _ _ _=>rfl;have q1:∀o e1 e3 e4,HO [.int .i64 hf,(Aa.slc 1 hs.length (Ai (cI .i64) hs))] o e1 e3 e4 1=.gone e1:=fun _ _ _ _=>rfl;have q2:∀o e1 e3 e4,HO [.int .i64 hf,(Aa.slc 1 hs.length (Ai (cI .i64) hs))] o e1 e3 e4 2=o:=fun _ _ _ _=>rfl;have q3:∀o e1 e3 e4,HO [.int .i64 hf,(Aa.slc 1 hs.length (Ai (cI .i64) hs))] o e1 e3 e4 3=.gone e3:=fun _ _ _ _=>rfl;have q4:∀o e1 e3 e4,HO [.int .i64 hf,(Aa.slc 1 hs.length (Ai (cI .i64) hs))] o e1 e3 e4 4=.gone e4:=fun _ _ _ _=>rfl;refine AW.sr (by simp[Vs,TO7,List.replicate];rfl) ?_;refine .seq (AW.if' (decide ((k:Int)<(hs.length:Int))) (by simp) (fun e=>AW.skip ?_) (fun e=>.exit ?_))
 ·have hlt:k<hs.length:=by have:=BC e;omega
  have bP:hs[k]?=some hs[k]:=AF hlt;have aK:Ai (cI .i64) hs k=[.int .i64 hs[k]]:=by rw[Bb bP];rfl
  have gC:hs.drop k=hs[k] :: hs.drop (k+1):=Fn hlt;rw[gC]at bJ;generalize hs[k]=s at *;have bJ:ck (As .i64 (hf+k)&&As .i64 (hf+k+1)) (bd (Eb (hf+k) (hf+k+1) s) fun x=>bd (GC out x) fun out=>ofL hf (k+1) (hs.drop (k+1)) out)=some fin:=bJ;cases jp:(As .i64 (hf+(k:Int))&&As .i64 (hf+(k:Int)+1)) with
  |false=>rw[jp]at bJ;cases bJ
  |true =>
  rw[jp]at bJ;cases hh:Eb (hf+k) (hf+k+1) s with
  |none=>rw[hh]at bJ;cases bJ
  |some x =>
  rw[hh]at bJ;have bJ:bd (GC out x) (fun out=>ofL hf (k+1) (hs.drop (k+1)) out)=some fin:=bJ;cases hp:GC out x with
  |none=>rw[hp]at bJ;cases bJ
  |some out1 =>
  rw[hp]at bJ;have bJ:ofL hf (k+1) (hs.drop (k+1)) out1=some fin:=bJ;have sH:=hH _ _ _ _ hh;simp only[AI]at jp;have g1:inr .i64 (hf+(k:Int)):=by have:=jp.1;simp[As]at this;exact this
  have g2:inr .i64 (hf+(k:Int)+1):=by have:=jp.2;simp[As]at this;exact this
  have gT:inr .i64 ((k:Int)+1):=by show _/\_;omega
  simp only[Ay];refine .seq (.block (AW.sr (by simp[Vt,hlt,aK];rfl) ?_));refine .seq (.reg ((?_:areg EE Tryz.prog (LM 0) _ (fun S'=>See EE S' ⟨TO7 [.int .i64 hf,(Aa.slc 1 hs.length (Ai (cI .i64) hs))] (Aa.slc 1 hs.length (Ai (cI .i64) hs)) (.vec 2 (ep+1) 0 (out.length+1)) hs.length k,HO [.int .i64 hf,(Aa.slc 1 hs.length (Ai (cI .i64) hs))] (.vec (ep+1) 5 (out.length+1) (Ai Al.cells (out++[x]))) (e1+1) e3 e4,[]⟩)).mono ?_))
  ·cases out with
   |nil =>
    simp[LM,q0,q1,q2,ownV,ownO];refine⟨g1,g2,sH.call ?_⟩;simp[q0,q1,q2,q3,q4];refine .of_sub ⟨?_,fun i=>?_,rfl,fun D hD=>by cases hD⟩
    ·simp[TO7,List.replicate,TSub,VSub]
    ·simp only[hset];by_cases i2:i=2
     ·subst i2;refine .inr (.inr ⟨ep+1,5,1,_,Ai Al.cells [x],by simp;rfl,rfl,fun j hj=>?_⟩);obtain rfl:j=0:=by omega
      simp
     by_cases i1:i=1
     ·subst i1;exact .inl (by simp;rfl)
     exact .of_eq (by simp[HO,i1,i2])
   |cons a m =>
    simp[LM,q0,q1,q2,ownV,ownO];refine⟨g1,g2,sH.call ?_⟩;have ee:(m.length+1+1)*56<=140737488355328:=by simp at ho;omega
    simp[q0,q1,q2,q3,q4];refine⟨ee,.of_sub ⟨?_,fun i=>?_,rfl,fun D hD=>by cases hD⟩⟩
    ·simp[TO7,List.replicate,TSub,VSub]
    ·simp only[hset];by_cases i2:i=2
     ·subst i2;refine .inr (.inr ⟨ep+1,5,m.length+1+1,_,Ai Al.cells (a :: m++[x]),by simp;rfl,rfl,fun j hj=>?_⟩);exact wzkq j hj
     by_cases i1:i=1
     ·subst i1;exact .inl (by simp;rfl)
     exact .of_eq (by simp[HO,i1,i2])
  rintro S' lr;refine .see lr ?_;refine AW.sr (by simp[Vu,TO7,q2,List.replicate];rfl) ?_;refine AW.sr (by simp[Vv];rfl) ?_;rcases List.eq_nil_or_concat out with rfl|⟨m,a,rfl⟩
  ·cases hp;refine AW.if' false (by simp) (fun e=>by cases e) (fun _=>AW.skip ?_);simp only[Ay,ablk];refine AW.r1 (by simp[LN];exact⟨gT,rfl⟩) ?_;simp only[Ay];refine⟨⟨k+1,ep+1,[x],e1+1,e3,e4⟩,⟨by simp only;omega,by simp,bJ⟩,by simp only;omega,.of_sub ⟨?_,fun i=>.refl _,rfl,fun D hD=>by cases hD⟩⟩;simp[TO7,List.replicate,TSub,VSub,ownV]
  ·rw[List.concat_eq_append]at *;have hp:bd (GB a x) (fun p=>some (bif p.2 then(m++[a]).dropLast++[p.1] else m++[a]++[x]))=some out1:=by unfold GC at hp;rw[List.getLast?_concat]at hp;exact hp
   cases cD:GB a x with
   |none=>rw[cD]at hp;cases hp
   |some p =>
   rw[cD]at hp;have sB:=hB _ _ _ cD;have hp:out1=bif p.2 then m++[p.1] else m++[a]++[x]:=by have:=AL hp;rw[List.dropLast_concat]at this;exact this.symm
   have ee:(m++[a]).length=m.length+1:=by simp
   have pI:Ai Al.cells (m++[a]++[x]) m.length=a.cells:=Bb (by simp);have pJ:Ai Al.cells (m++[a]++[x]) (m.length+1)=x.cells:=Bb (by simp);simp only[ee]at *;refine AW.if' true (by simp;omega) (fun _=>?_) (fun e=>by cases e);have gn:((m.length:Int)+1+1-2)=(m.length:Int):=by omega
   have lu:Ai Al.cells (m++[a,x]) m.length=a.cells:=Bb (by simp);have lv:Ai Al.cells (m++[a,x]) (m.length+1)=x.cells:=Bb (by simp);have jq:inr .i64 (m.length:Int):=by show _/\_;omega
   have lw:inr .i64 ((m.length:Int)+1):=by show _/\_;omega
   refine .seq (.draw ?_);simp[Vw,q2,Co,gn,lu,lv,qz6z,-Al.cells];refine⟨jq,by omega,by omega,lw,by omega,sB.cd (.refl _) ?_⟩;simp[q3,-Al.cells];refine⟨⟨rfl,wza0 _⟩,by kernel_rfl,?_⟩;refine AW.sr (by simp[Vy];rfl) ?_;cases gp:p.2
   ·rw[gp]at hp;have hp:out1=m++[a]++[x]:=hp;subst hp;refine AW.if' false (by simp[gp]) (fun e=>by cases e) (fun _=>AW.skip ?_);simp only[Ay,ablk];refine AW.r1 (by simp[LN];exact⟨gT,rfl⟩) ?_;simp only[Ay];refine⟨⟨k+1,ep+1,m++[a]++[x],e1+1,e3+1,e4⟩,⟨by simp only;omega,by simp;omega,bJ⟩,by simp only;omega,.of_sub ⟨?_,fun i=>?_,rfl,fun D hD=>by cases hD⟩⟩
    ·rw[Vl];simp[TO7,List.replicate,TSub,VSub]
    ·rw[Vm];simp only[hset];by_cases i3:i=3
     ·subst i3;exact .inl (by simp;rfl)
     exact .of_eq (by simp[HO,i3])
   ·rw[gp]at hp;have hp:out1=m++[p.1]:=hp;subst hp;refine AW.if' true (by simp[gp]) (fun _=>?_) (fun e=>by cases e);refine .draw ?_;simp[Vz,q2,q3,q4,gn,-Al.cells];refine⟨jq,by omega,⟨by omega,by omega⟩,by kernel_rfl,?_⟩;refine AW.r1 (by simp[LN];exact⟨gT,rfl⟩) ?_;simp only[Ay];refine⟨⟨k+1,ep+2,m++[p.1],e1+1,e3+1,e4+1⟩,⟨by simp only;omega,by simp;omega,bJ⟩,by simp only;omega,.of_sub ⟨?_,fun i=>?_,rfl,fun D hD=>by cases hD⟩⟩
    ·rw[Vl];simp[TO7,List.replicate,TSub,VSub]
    ·rw[Vm];simp only[hset];by_cases i2:i=2
     ·subst i2;refine .inr (.inr ⟨ep+2,5,m.length+1,_,Ai Al.cells (m++[p.1]),by simp;rfl,rfl,fun j hj=>?_⟩);by_cases aX:j<m.length
      ·rw[Aj aX];unfold Ai;rw[E9 aX,E9 aX]
      ·obtain rfl:j=m.length:=by omega
       rw[Ag aX,Bb (x:=p.1) (by simp)];simp
     by_cases i4:i=4
     ·subst i4;exact .inl (by simp;rfl)
     by_cases i3:i=3
     ·subst i3;exact .inl (by simp;rfl)
     exact .of_eq (by simp[HO,i2,i3,i4])
 ·obtain rfl:k=hs.length:=by have:=of_decide_eq_false e;omega
  rw[List.drop_length]at bJ;have bJ:some out=some fin:=bJ;obtain rfl:=AL bJ;simp only[Ay,ablk,AX]
  have gq:(2000<(out.length:Int)->r=([],2))/\(¬2000<(out.length:Int)->r=(out,0)):=by
   refine⟨fun h=>?_,fun h=>?_⟩
   ·rw[AC h]at hF;cases hF;rfl
   ·rw[A9 h]at hF;cases hF;rfl
  cases out with
  |nil =>rw[gq.2 (by simp)];refine .seq (AW.sr (by simp[Ph,TO7,ownV,ownO,List.replicate];rfl) ?_);refine AW.if' false (by simp) (fun e=>by cases e) (fun _=>AW.skip ?_);simp only[Ay];refine AW.sr (by simp[Pi];rfl) ?_;refine .ret (.here (by simp[rs34]) rfl ?_);simp[rs34]
  |cons a m =>
   refine .fzc 2 (by simp[q2,ownO]) (by simp[q2,ownO]) ?_;refine .seq (AW.sr (by simp[Ph,TO7,ownV,ownO,q2,List.replicate];rfl) ?_);refine AW.if' (decide (2000<((a :: m).length:Int))) (by simp) (fun e=>?_) (fun e=>AW.skip ?_)
   ·rw[gq.1 (BC e)];refine AW.sr (by simp[V0];rfl) ?_;refine .ret ?_;simp only[Ay];refine .here (by simp[rs34]) rfl ?_;simp[rs34]
   ·rw[gq.2 (of_decide_eq_false e)];simp only[Ay];refine AW.sr (by simp[Pi];rfl) ?_;refine .ret (.here (by simp[rs34]) rfl ?_);simp[rs34]
theorem LO{w:AD}(hz:z∈w.cells):AE z:=by
 simp[AD.cells]at hz;rcases hz with rfl|rfl
 ·exact .int _ _
 ·exact C0 fun a z hz=>US z hz
theorem wztl(H96:Ap k53)(H97:Ap k67)(H98:Ap k68):Ap k34:=by
 refine⟨by kernel_rfl,fun x y e=>?_⟩;have H:Pure EE Tryz.prog 34 [.agg x.cells] (.tup [slcV 5 Al.cells y.1,.int .i64 y.2]):=(of70 (fun w e h=>H96.still (x:=w) (y:=e) h (by kernel_rfl)) (fun a b s r h=>H97.still (x:=(a,b,s)) (y:=r) h (by kernel_rfl)) (fun a b r h=>H98.still (x:=(a,b)) (y:=r) h (by kernel_rfl)) x y e).wv fun v h' q=>⟨_,q,rfl⟩
 exact(Pure.still H hEE (fun z hz=>by
  rw[B3.1 hz];exact .agg _ fun z hz=>LO hz) (.tup _ fun z hz=>by
  rcases AV.1 hz with rfl|hz
  ·exact C0 fun a z hz=>Vk hz
  ·rw[B3.1 hz];exact .int _ _)).cast (by kernel_rfl)
end
section
attribute [local simp] hset
def cE(c:List ((Int×Int)×Af)):List (Aa×Aa):=c.map fun p=>(.agg [.int .i64 p.1.1,.int .i64 p.1.2],.agg (Af.cells p.2))
def cget:List ((Int×Int)×Af)->Int->Int->Option Af
 |[],_,_=>none
 |p :: c,k,s=>bif decide (k=p.1.1)&&decide (s=p.1.2) then some p.2 else cget c k s
def cput(c:List ((Int×Int)×Af))(k s:Int)(r:Af):List ((Int×Int)×Af):=match cget c k s with
 |none=>c++[((k,s),r)]
 |some _=>c
theorem V2(k s:Int):∀(c:List ((Int×Int)×Af)) (i:Nat),∃j,Cm (.agg [.int .i64 k,.int .i64 s]) (cE c) i=some (match cget c k s with | none=>none | some r=>some (j,.agg r.cells))
 |[],i=>⟨0,rfl⟩
 |p :: c,i=>by
  have e:DT (.agg [.int .i64 k,.int .i64 s]) (.agg [.int .i64 p.1.1,.int .i64 p.1.2])=some (decide (k=p.1.1)&&decide (s=p.1.2)):=by simp[DT,BP]
  show ∃j,(match DT (.agg [.int .i64 k,.int .i64 s]) (.agg [.int .i64 p.1.1,.int .i64 p.1.2]) with
   |some true=>some (some (i,Aa.agg (Af.cells p.2)))
   |some false=>Cm (.agg [.int .i64 k,.int .i64 s]) (cE c) (i+1)
   | none=>none)=some (match (bif decide (k=p.1.1)&&decide (s=p.1.2) then some p.2 else cget c k s) with | none=>none | some r=>some (j,.agg r.cells))
  rw[e];cases decide (k=p.1.1)&&decide (s=p.1.2)
  ·exact V2 k s c (i+1)
  ·exact⟨i,rfl⟩
def CcV(l:List An)(c:List ((Int×Int)×Af)):Prop:=∀(k:Nat) (s:Int) (r:Af),cget c k s=some r->∃x,l[k]?=some x/\D1 x s=some r
theorem wzi6(c:List ((Int×Int)×Af))(k s a b:Int)(r:Af):cget (c++[((a,b),r)]) k s=(match cget c k s with | some q=>some q | none=>bif decide (k=a)&&decide (s=b) then some r else none):=by
 induction c with
 |nil=>rfl
 |cons p c ih =>
  show(bif decide (k=p.1.1)&&decide (s=p.1.2) then some p.2 else cget (c++[((a,b),r)]) k s)=(match (bif decide (k=p.1.1)&&decide (s=p.1.2) then some p.2 else cget c k s) with | some q=>some q | none=>_);cases decide (k=p.1.1)&&decide (s=p.1.2)
  ·exact ih
  ·rfl
theorem wzqw{l:List An}(h:CcV l c){s:Int}{x:An}{r:Af}(hx:l[k]?=some x)(hr:D1 x s=some r):CcV l (cput c k s r):=by
 unfold cput;cases e:cget c k s with
 |some q=>exact h
 |none =>
  intro a b q hq;rw[wzi6]at hq;cases e2:cget c a b with
  |some z=>rw[e2]at hq;cases hq;exact h a b _ e2
  |none =>
   rw[e2]at hq;have hq:(bif decide ((a:Int)=k)&&decide (b=s) then some r else none)=some q:=hq;cases e3:decide ((a:Int)=k)&&decide (b=s) with
   |false=>rw[e3]at hq;cases hq
   |true =>
    rw[e3]at hq;cases hq;simp only[AI,CA]at e3;obtain⟨e3,rfl⟩:=e3;obtain rfl:a=k:=by omega
    exact⟨x,hx,hr⟩
def HV(l:List An)(e5 e6:Nat)(c:List ((Int×Int)×Af))(q:Af):Aq:=fun i =>
 if i=5 then .amap e5 (cE c) else if i=6 then .box e6 [slcV 7 An.cells l,.mp 5 e5,.bool q.Neg,.str q.Num,.str q.Den] else .gone 0
theorem of99(hR:∀(x:An) (s:Int) (r:Af),D1 x s=some r->AK EE Tryz.prog 132 [.agg x.cells,.int .i64 s] (.agg r.cells)){l:List An}  {s:Int} {x:An} (hx:l[k]?=some x) {r:Af} (hr:D1 x s=some r)  (hc:CcV l c) (e5 e6:Nat) (q:Af) :
  ATr EE Tryz.prog 97 [.ptr 6 e6 0,.int .i64 k,.int .i64 s] (HV l e5 e6 c q) (fun v h'=>v=.agg r.cells/\∀i,i∈[5,6]->h' i=HV l e5 e6 (cput c k s r) q i):=by
 obtain⟨cd,hb,bY⟩:=ck97;have sR:=hR x s r hr;have q5:HV l e5 e6 c q 5=.amap e5 (cE c):=rfl;have q6:HV l e5 e6 c q 6=.box e6 [slcV 7 An.cells l,.mp 5 e5,.bool q.Neg,.str q.Num,.str q.Den]:=rfl;have q7:HV l e5 e6 c q 7=.gone 0:=rfl;have q8:HV l e5 e6 c q 8=.gone 0:=rfl;have q9:HV l e5 e6 c q 9=.gone 0:=rfl;obtain⟨j,jr⟩:=V2 k s c 0;have iF:¬(k:Int)<0:=by omega
 refine ATr.of (fn:=Tryz.f97) rfl hb cr97 (bY 7) 40 rfl ?_;refine AW.sr (by simp[V3,List.replicate,q7];rfl) ?_;refine .seq (AW.sr (by simp[V5];rfl) ?_);refine AW.if' (decide ((k:Int)<0)) (by simp) (fun e=>absurd (BC e) iF) (fun _=>AW.skip ?_);simp only[Ay];refine AW.sr (by simp[V6,q8];rfl) ?_;refine .seq (.draw ?_);cases hg:cget c k s with
 |some r0 =>
  obtain⟨x0,h1,h2⟩:=hc k s r0 hg;obtain rfl:x0=x:=by rw[hx]at h1;exact(AL h1).symm
  obtain rfl:r0=r:=by rw[hr]at h2;exact(AL h2).symm
  rw[hg]at jr;have hp:cput c k s r0=c:=by unfold cput;rw[hg]
  rw[hp];simp[Pj,q5,q6,q7,q8,q9,EB,BS,jr,Aa.kkind,encK];refine⟨by kernel_rfl,?_⟩;refine .seq (AW.sr (by simp[Pl];rfl) ?_);refine AW.if' false (by simp) (fun e=>by cases e) (fun _=>AW.skip ?_);simp only[Ay];refine AW.sr (by simp[Pm];rfl) ?_;refine .ret (.here (by simp[rs97]) rfl ?_);simp[rs97,q5,q6]
 |none =>
  rw[hg]at jr;have hp:cput c k s r=c++[(((k:Int),s),r)]:=by unfold cput;rw[hg]
  rw[hp];have fK:k<l.length:=(A8.1 hx).1;have aK:Ai An.cells l k=x.cells:=Bb hx;simp[Pj,q5,q6,q7,q8,q9,EB,BS,jr,Aa.kkind,encK];refine⟨by kernel_rfl,?_⟩;refine .seq (AW.sr (by simp[Pl];rfl) ?_);refine AW.if' true (by simp) (fun _=>?_) (fun e=>by cases e);refine AW.sr (by simp[V7,q5,q6,fK,aK];exact sR.call (by simp;rfl)) ?_;refine .draw ?_;simp[V8,q5,q6,Cx,jr,Aa.kkind,encK];refine⟨by kernel_rfl,?_⟩;refine AW.sr (by simp[Pm];rfl) ?_;refine .ret (.here (by simp[rs97]) rfl ?_);simp[rs97,q5,q6,HV,cE]
theorem LP{E:Nat->Aa}{P:Program}{l2:List Ak}:∀(l1:List Ak) (S:Au) (K:Au->List (List Nat×Option Nat)->Prop),dreg E P l1 S (fun S' tr=>G7 E P l2 S' (fun S'' tr2=>K S'' (tr++tr2)))->G7 E P (l1++l2) S K
 |[],S,K,h=>h
 |o :: l1,S,K,h=>by obtain⟨v,rd,out,h1,h2⟩:=U4 h;exact⟨v,rd,out,h1,LP l1 _ _ h2⟩
theorem V9(l:List Ak)(S:Au)(K:Au->List (List Nat×Option Nat)->Prop)(h:dreg E P l S (fun S' tr=>K S' (tr++[]))):G7 E P l S K:=by
 have:=LP (l2:=[]) l S K h
 rwa [List.append_nil]at this
theorem wzoh{F:List Nat}{a:An}(hz:z∈a.cells):BQ F z:=by
 simp[An.cells]at hz;rcases hz with rfl|rfl|rfl|rfl|rfl|rfl|rfl<;>first|exact .int _ _|exact .bool _|exact .str _|skip
 exact AE.refs (C0 fun a z hz=>by simp[Bz.cells]at hz;rcases hz with rfl|rfl|rfl|rfl<;>first|exact .int _ _|exact .bool _|exact .str _)
theorem wzqi{F:List Nat}{a:Af}:BQ F (.agg a.cells):=.agg _ fun z hz=>by simp[Af.cells]at hz;rcases hz with rfl|rfl|rfl<;>first|exact .int _ _|exact .bool _|exact .str _
theorem LQ(l:List An)(e5 e6:Nat)(c:List ((Int×Int)×Af))(q:Af):∀i,i∈[5,6]->LH [5,6] (HV l e5 e6 c q i):=fun i hi=>by
 simp at hi;rcases hi with rfl|rfl
 ·intro e he;obtain⟨p,_,rfl⟩:=CE.1 he;exact⟨.agg _ fun z hz=>by simp at hz;rcases hz with rfl | rfl<;>exact .int _ _,wzqi⟩
 ·intro z hz;simp at hz;rcases hz with rfl|rfl|rfl|rfl|rfl<;>first|exact .bool _|exact .str _|exact .mp _ _ (by simp)|skip
  exact .slc _ _ _ fun i z hi hz=>by
   by_cases h:i<l.length
   ·rw[Bb (AF h)]at hz;exact wzoh hz
   ·exact absurd hi h
theorem wzvv{l:List An}(h5:h 5=.amap e5 (cE c))(h6:h 6=.box e6 [slcV 7 An.cells l,.mp 5 e5,.bool q.Neg,.str q.Num,.str q.Den]):∀i,i∈[5,6]->h i=HV l e5 e6 c q i:=fun i hi=>by
 simp only[AV,Oy,O0]at hi;rcases hi with rfl|rfl
 ·exact h5
 ·exact h6
theorem wzjm(hR:∀(x:An) (s:Int) (r:Af),D1 x s=some r->AK EE Tryz.prog 132 [.agg x.cells,.int .i64 s] (.agg r.cells)){l:List An}  {s:Int} {x:An} (hx:l[k]?=some x) {r:Af} (hr:D1 x s=some r)  (hc:CcV l c) (e5 e6:Nat) (q:Af) (h:Aq) (hh:∀i,i∈[5,6]->h i=HV l e5 e6 c q i) :
  ATr EE Tryz.prog 97 [.ptr 6 e6 0,.int .i64 k,.int .i64 s] h (fun v h'=>v=.agg r.cells/\h'=putH h (some (5,.amap e5 (cE (cput c k s r))))):=by
 refine(ATr.frameW (F:=[5,6]) hEE (fun i hi=>?_) (fun z hz=>?_) (LQ l e5 e6 c q) (LQ l e5 e6 (cput c k s r) q) (fun i hi=>?_) (fun i hi=>?_) (.agg _ fun z hz=>?_) (of99 hR hx hr hc e5 e6 q) h hh).mono ?_
 ·simp at hi;simp[HV,hi]
 ·simp at hz;rcases hz with rfl|rfl|rfl
  ·exact .ptr _ _ _ (by simp)
  ·exact .int _ _
  ·exact .int _ _
 ·simp at hi;rcases hi with rfl|rfl<;>rfl
 ·simp at hi;rcases hi with rfl|rfl<;>rfl
 ·simp[Af.cells]at hz;rcases hz with rfl|rfl|rfl<;>simp
 ·rintro v h' ⟨rfl,rfl⟩;refine⟨rfl,funext fun i=>?_⟩;show(if i∈[5,6] then HV l e5 e6 (cput c k s r) q i else h i)=if i=5 then _ else h i;by_cases i5:i=5
  ·subst i5;rfl
  by_cases i6:i=6
  ·subst i6;rw[hh 6 (by simp)];rfl
  ·rw[Ag (by simp[i5,i6]),Ag i5]
def VA:List Ak:=(Im 7).take 10
def VB:List Ak:=(Im 7).drop 11
theorem wzwa:Im 7=VA++(⟨some 18,.callf 97 [.t 15,.t 16,.t 17],none⟩ :: VB):=rfl
theorem wzu9(hR:∀(x:An) (s:Int) (r:Af),D1 x s=some r->AK EE Tryz.prog 132 [.agg x.cells,.int .i64 s] (.agg r.cells))(hI:∀(n:Int) (r:Af),Ec n=some r->AK EE Tryz.prog 42 [.int .i64 n] (.agg r.cells))(hM:∀(a b r:Af),Dl a b=some r->AK EE Tryz.prog 30 [.agg a.cells,.agg b.cells] (.agg r.cells))(hA:∀(a b r:Af),Ct a b=some r->AK EE Tryz.prog 31 [.agg a.cells,.agg b.cells] (.agg r.cells)){l:List An}  {s:Int} {x:An} (hx:l[k]?=some x) {r:Af} (hr:D1 x s=some r)  (hc:CcV l c) {n:Int} {a b:Af}(ea:Ec n=some a) (eb:Dl a r=some b) (eq:Ct q b=some q2) (e5 e6:Nat) :
  ATr EE Tryz.prog 52 [.ptr 6 e6 0,.int .i64 n,.int .i64 k,.int .i64 s] (HV l e5 e6 c q) (fun v h'=>v=.tup []/\∀i,i∈[5,6]->h' i=HV l e5 e6 (cput c k s r) q2 i):=by
 obtain⟨cd,hb,bY⟩:=ck52;have sI:=hI _ _ ea;have sM:=hM _ _ _ eb;have sA:=hA _ _ _ eq;have q5:HV l e5 e6 c q 5=.amap e5 (cE c):=rfl;have q6:HV l e5 e6 c q 6=.box e6 [slcV 7 An.cells l,.mp 5 e5,.bool q.Neg,.str q.Num,.str q.Den]:=rfl;refine ATr.of (fn:=Tryz.f52) rfl hb cr52 (bY 7) 19 rfl ?_;refine .drawC ?_;rw[wzwa];refine LP _ _ _ ?_;simp[VA,Im,q6,List.replicate];refine Bi.pure _ sI ?_;simp;refine⟨.agg r.cells,[5,6],some (5,.amap e5 (cE (cput c k s r))),.inr ?_,V9 _ _ _ ?_⟩
 ·refine⟨97,_,rfl,5,by simp,by simp[q5],.inr (.inr ⟨_,rfl,fun h' hh=>?_⟩)⟩;simp;exact wzjm hR hx hr hc e5 e6 q h' fun i hi=>hh i hi
 simp[VB,Im,q6];refine Bi.pure _ sM ?_;refine Bi.pure _ sA ?_;simp[q6,-An.cells];refine⟨by kernel_rfl,Post.norm (.here (by simp[rs52]) rfl ?_)⟩;simp[rs52,HV]
theorem wzex(hR:∀(x:An) (s:Int) (r:Af),D1 x s=some r->AK EE Tryz.prog 132 [.agg x.cells,.int .i64 s] (.agg r.cells))(hI:∀(n:Int) (r:Af),Ec n=some r->AK EE Tryz.prog 42 [.int .i64 n] (.agg r.cells))(hM:∀(a b r:Af),Dl a b=some r->AK EE Tryz.prog 30 [.agg a.cells,.agg b.cells] (.agg r.cells))(hA:∀(a b r:Af),Ct a b=some r->AK EE Tryz.prog 31 [.agg a.cells,.agg b.cells] (.agg r.cells)){l:List An}  {s:Int} {x:An} (hx:l[k]?=some x) {r:Af} (hr:D1 x s=some r)  (hc:CcV l c) {n:Int} {a b:Af}(ea:Ec n=some a) (eb:Dl a r=some b) (eq:Ct q b=some q2) (e5 e6:Nat) (h:Aq) (hh:∀i,i∈[5,6]->h i=HV l e5 e6 c q i) :
  ATr EE Tryz.prog 52 [.ptr 6 e6 0,.int .i64 n,.int .i64 k,.int .i64 s] h (fun v h'=>v=.tup []/\h'=fun i=>if i∈[5,6] then HV l e5 e6 (cput c k s r) q2 i else h i):=by
 refine ATr.frameW (F:=[5,6]) hEE (fun i hi=>?_) (fun z hz=>?_) (LQ l e5 e6 c q) (LQ l e5 e6 (cput c k s r) q2) (fun i hi=>?_) (fun i hi=>?_) (.tup _ fun z hz=>by cases hz) (wzu9 hR hI hM hA hx hr hc ea eb eq e5 e6) h hh
 ·simp at hi;simp[HV,hi]
 ·simp at hz;rcases hz with rfl|rfl|rfl|rfl
  ·exact .ptr _ _ _ (by simp)
  ·exact .int _ _
  ·exact .int _ _
  ·exact .int _ _
 ·simp at hi;rcases hi with rfl|rfl<;>rfl
 ·simp at hi;rcases hi with rfl|rfl<;>rfl
theorem wzsa(l:List An)(h:Aq)(h5:h 5=.gone 0)(h6:h 6=.gone 0) :
  ATr EE Tryz.prog 51 [slcV 7 An.cells l] h (fun v h'=>v=.ptr 6 1 0/\h'=fun i=>if i∈[5,6] then HV l 1 1 [] (Af.mk false [] []) i else h i):=by
 obtain⟨cd,hb,bY⟩:=ck51;refine ATr.of (fn:=Tryz.f51) rfl hb cr51 (bY 5) 6 rfl ?_;refine AW.sr (by simp[VC,List.replicate];rfl) ?_;refine AW.sr (by simp[VD,h5,h6];rfl) ?_;refine .ret (.here (by simp[rs51]) rfl ?_);simp[rs51];funext i;by_cases i5:i=5
 ·subst i5;simp[HV,cE]
 by_cases i6:i=6
 ·subst i6;simp[HV]
 simp[i5,i6]
end
section
attribute [local simp] hset
def k31:Fc:=⟨31,[(.us 2),(.us 2)],[false,false],[(.us 2)],fun x=>Ct x.1 x.2⟩
def k42:Fc:=⟨42,[(.int .i64)],[false],[(.us 2)],fun x=>Ec x⟩
def k30:Fc:=⟨30,[(.us 2),(.us 2)],[false,false],[(.us 2)],fun x=>Dl x.1 x.2⟩
def k37:Fc:=⟨37,[(.slc (.us 5))],[false],[(.int .i64)],fun x=>ER x⟩
def k132:Fc:=⟨132,[(.us 5),(.int .i64)],[false,false],[(.us 2)],fun x=>D1 x.1 x.2⟩
def k21:Fc:=⟨21,[(.us 6),(.slc (.us 5))],[false,false],[(.us 2),(.int .i64)],fun x=>GD x.1 x.2⟩
theorem bd_e{Y:Type}{a:Option α}{k:α->Option Y}{r:Y}(h:bd a k=some r):∃x,a=some x/\k x=some r:=by
 cases a with
 |none=>cases h
 |some x=>exact⟨x,rfl,h⟩
theorem it_e{e:Int}{a b:Option α}{r:α}(h:ite' (!decide (e=0)) a b=some r):(e≠0->a=some r)/\(e=0->b=some r):=by
 refine⟨fun k=>?_,fun k=>?_⟩
 ·rw[A9 k]at h;exact h
 ·rw[AC k]at h;exact h
theorem ck_e{c:Bool}{a:Option α}{r:α}(h:ck c a=some r):c=true/\a=some r:=by
 cases c with
 |false=>cases h
 |true=>exact⟨rfl,h⟩
def mE(l:List (Int×Int)):List (Aa×Aa):=l.map fun p=>(.int .i64 p.1,.int .i64 p.2)
theorem Pn(a:Int):∀(l:List (Int×Int)) (i:Nat),(mget keqI l a=none/\Cm (.int .i64 a) (mE l) i=some none/\∀b,mE (mput keqI l a b)=mE l++[(.int .i64 a,.int .i64 b)]) \/ ∃j x,mget keqI l a=some x/\Cm (.int .i64 a) (mE l) i=some (some (i+j,.int .i64 x))/\∀b,mE (mput keqI l a b)=(mE l).set j (.int .i64 a,.int .i64 b)
 |[],i=>.inl ⟨rfl,rfl,fun _=>rfl⟩
 |p :: l,i=>by
  have e:Cm (.int .i64 a) (mE (p :: l)) i=(match some (decide (a=p.1)) with | some true=>some (some (i,.int .i64 p.2)) | some false=>Cm (.int .i64 a) (mE l) (i+1) | none=>none):=rfl;by_cases h:a=p.1
  ·have hq:keqI a p.1=true:=AC h;refine .inr ⟨0,p.2,?_,by rw[e,AC h];rfl,fun b=>?_⟩
   ·show(match keqI a p.1 with | true=>some p.2 | false=>mget keqI l a)=_;rw[hq]
   ·show mE (match keqI a p.1 with | true=>(a,b) :: l | false=>p :: mput keqI l a b)=_;rw[hq];rfl
  ·have hq:keqI a p.1=false:=A9 h;have g:mget keqI (p :: l) a=mget keqI l a:=by show(match keqI a p.1 with | true=>some p.2 | false=>mget keqI l a)=_;rw[hq]
   have q:∀b,mput keqI (p :: l) a b=p :: mput keqI l a b:=fun b=>by show(match keqI a p.1 with | true=>(a,b) :: l | false=>p :: mput keqI l a b)=_;rw[hq]
   rw[e,A9 h,g];rcases Pn a l (i+1) with ⟨h1,h2,h3⟩|⟨j,x,h1,h2,h3⟩
   ·exact .inl ⟨h1,h2,fun b=>by rw[q];show _ :: mE _=_;rw[h3];rfl⟩
   ·exact .inr ⟨j+1,x,h1,by show Cm (.int .i64 a) (mE l) (i+1)=_;rw[h2];simp only[Ba,BB,and_true];omega,fun b=>by rw[q];show _ :: mE _=_;rw[h3];rfl⟩
theorem wzrp(l:List (Int×Int))(hM:h M=.amap e (mE l)):EB 1 false (.int .i64 0) (.mp M e) (.int .i64 a) h=⟨True,[M],.int .i64 (Option.getD (mget keqI l a) 0),none⟩:=by
 have e1:BS (.mp M e) h=⟨e=e,[M],mE l⟩:=by unfold BS;simp only[hM]
 unfold EB;rw[e1];simp only;rcases Pn a l 0 with ⟨h1,h2,_⟩|⟨j,x,h1,h2,_⟩
 ·rw[h2,h1];simp[Aa.kkind,Aa.kind]
 ·rw[h2,h1];simp[Aa.kkind,Aa.kind]
theorem wzrl(l:List (Int×Int)){b:Int}(hM:h M=.amap e (mE l)):Cx 1 (.mp M e) (.int .i64 a) (.int .i64 b) h=⟨True,[M],.top,some (M,.amap e (mE (mput keqI l a b)))⟩:=by
 unfold Cx;simp only[hM];rcases Pn a l 0 with ⟨h1,h2,h3⟩|⟨j,x,h1,h2,h3⟩
 ·rw[h2,h3];simp[Aa.kkind,Aa.kind]
 ·rw[h2,h3];simp[Aa.kkind,Aa.kind]
theorem VE{α:Type}{x:α}{b:List α}:∀a:List α,a++x :: b∈insA x (a++b)
 |[]=>by cases b<;>exact AS ..
 |y :: a=>AR _ (CE.2 ⟨_,VE a,rfl⟩)
theorem VF{α:Type}:∀{l m:List α},m.Perm l->m∈JT l
 |[],m,h=>by rw[List.perm_nil.1 h];exact AS ..
 |x :: l,m,h=>by obtain⟨a,b,rfl⟩:=List.append_of_mem (h.mem_iff.2 (AS ..));exact List.mem_flatMap.2 ⟨_,VF (List.perm_cons x |>.1 (List.perm_middle.symm.trans h)),VE a⟩
theorem wzrx:∀{a b:Option Af},eqR a b=true->a=b
 |some ⟨a,b,c⟩,some ⟨d,e,f⟩,h=>by simp[eqR]at h;rw[h.1,h.2.1,h.2.2]
 |none,_,h=>by cases h
 |some _,none,h=>by cases h
theorem VG{s:An}{m:List (Int×Int)}{r:Af}(h:F5 s m q=some r){m':List (Int×Int)}(hp:m'.Perm m):B7 s m' q=some r:=by
 unfold F5 at h;cases e:(JT m).all (fun m'=>eqR (B7 s m' q) (B7 s m q)) with
 |false=>rw[e]at h;cases h
 |true =>rw[e]at h;rw[wzrx (Da.1 e m' (VF hp))];exact h
theorem Po{s:An}:∀(a b:List (Int×Int)) (q:Af),B7 s (a++b) q=bd (B7 s a q) fun q=>B7 s b q
 |[],b,q=>rfl
 |p :: a,b,q=>by
  show(bd (Ec p.2) fun x=>bd (D1 s p.1) fun y=>bd (Dl x y) fun z=>bd (Ct q z) fun q=>B7 s (a++b) q)=bd (bd (Ec p.2) fun x=>bd (D1 s p.1) fun y=>bd (Dl x y) fun z=>bd (Ct q z) fun q=>B7 s a q) _;cases Ec p.2 with
  |none=>rfl
  |some x =>
  cases D1 s p.1 with
  |none=>rfl
  |some y =>
  show bd (Dl x y) _=bd (bd (Dl x y) _) _;cases Dl x y with
  |none=>rfl
  |some z =>
  show bd (Ct q z) _=bd (bd (Ct q z) _) _;cases Ct q z with
  |none=>rfl
  |some w=>exact Po a b w
def CN(m:List (Int×Int))(z:List Nat):List (Int×Int):=z.map fun k=>m.getD k (0,0)
theorem VH{m:List (Int×Int)}{z:List Nat}(h:z.Perm (List.range m.length)):(CN m z).Perm m:=by
 have e:(List.range m.length).map (fun k=>m.getD k (0,0))=m:=by apply List.ext_getElem (by simp);intro i h1 h2;simp at h1;simp[h1]
 have:=h.map (fun k=>m.getD k ((0,0):Int×Int))
 rwa [e]at this
theorem wzal{m:List (Int×Int)}{z:List Nat}(hn:z.Nodup)(hl:∀k,k∈z->k<m.length):∃y,(CN m (z++y)).Perm m:=by
 refine⟨(List.range m.length).filter (fun k=>decide (k∉z)),VH ?_⟩;rw[List.perm_ext_iff_of_nodup ?_ List.nodup_range]
 ·intro a;rw[CD,List.mem_filter,Jr,CA];exact⟨fun h=>h.elim (hl a) (·.1),fun h=>(Decidable.em (a∈z)).imp id fun e=>⟨h,e⟩⟩
 ·rw[List.nodup_append];refine⟨hn,List.nodup_range.filter _,fun x hx y hy e=>?_⟩;subst e;exact BC (List.mem_filter.1 hy).2 hx
theorem wzfw{s:An}{m:List (Int×Int)}{q0:Af}(hA:F5 s m q0=some q1){z:List Nat}{p:Int×Int}(hn:(z++[k]).Nodup)(hl:∀j,j∈z++[k]->j<m.length)(hk:m[k]?=some p)(hq:B7 s (CN m z) q0=some q) : ∃a b c q',Ec p.2=some a/\D1 s p.1=some b/\Dl a b=some c/\Ct q c=some q'/\B7 s (CN m (z++[k])) q0=some q':=by
 obtain⟨y,hy⟩:=wzal hn hl;have h:=VG hA hy
 have e1:CN m (z++[k]++y)=CN m z++(p :: CN m y):=by
  have:m.getD k (0,0)=p:=by simp[List.getD,hk]
  unfold CN;rw[List.map_append,List.map_append,List.append_assoc];show _++(m.getD k (0,0) :: List.map (fun k=>m.getD k (0,0)) y)=_;rw[this]
 have e2:CN m (z++[k])=CN m z++[p]:=by
  have:m.getD k (0,0)=p:=by simp[List.getD,hk]
  unfold CN;rw[List.map_append];show _++[m.getD k (0,0)]=_;rw[this]
 rw[e1,Po,hq]at h;have h:(bd (Ec p.2) fun x=>bd (D1 s p.1) fun y'=>bd (Dl x y') fun z=>bd (Ct q z) fun q=>B7 s (CN m y) q)=some q1:=h;obtain⟨a,ha,h⟩:=bd_e h;obtain⟨b,hb,h⟩:=bd_e h;obtain⟨c,hc,h⟩:=bd_e h;obtain⟨q',m5,h⟩:=bd_e h;refine⟨a,b,c,q',ha,hb,hc,m5,?_⟩;rw[e2,Po,hq];show(bd (Ec p.2) fun x=>bd (D1 s p.1) fun y'=>bd (Dl x y') fun z=>bd (Ct q z) fun q=>some q)=some q';rw[ha];show(bd (D1 s p.1) fun y'=>bd (Dl a y') fun z=>bd (Ct q z) fun q=>some q)=some q';rw[hb];show(bd (Dl a b) fun z=>bd (Ct q z) fun q=>some q)=some q';rw[hc];show(bd (Ct q c) fun q=>some q)=some q';rw[m5];rfl
theorem wzhh{h:AD}{l:List An}{r:Af×Int}(hF:GD h l=some r):∃e,ER l=some e/\(e≠0->r=(⟨false,[],[]⟩,e))/\(e=0->∃p,F4 h=some p/\(p.2≠0->r=(⟨false,[],[]⟩,1))/\(p.2=0->vaL h l ⟨false,[],[]⟩=some r)):=by unfold GD at hF;obtain⟨e1,h1,hF⟩:=bd_e hF;refine⟨e1,h1,fun k=>(AL ((it_e hF).1 k)).symm,fun k=>?_⟩;obtain⟨p,h2,hF⟩:=bd_e ((it_e hF).2 k);exact⟨p,h2,fun k=>(AL ((it_e hF).1 k)).symm,fun k=>(it_e hF).2 k⟩
theorem wzja{h:AD}{s:An}{l:List An}{r:Af×Int}(hF:vaL h (s :: l) q=some r):inr .i64 (h.From+(h.Stages.length:Int)) /\
  ((decide (s.From<h.From)||decide (h.From+(h.Stages.length:Int)<s.To))=true->r=(⟨false,[],[]⟩,19))/\((decide (s.From<h.From)||decide (h.From+(h.Stages.length:Int)<s.To))=false ->
   inr .i64 (s.From-h.From)/\inr .i64 (s.To-h.From)/\(0<=s.From-h.From/\s.From-h.From<=s.To-h.From/\s.To-h.From<=h.Stages.length) /\
   ∃m q',F6 (sub h.Stages (s.From-h.From) (s.To-h.From)) []=some m/\F5 s m q=some q'/\vaL h l q'=some r):=by
 have hF:(ck (As .i64 (h.From+(List.length h.Stages:Int)))<|ite' (bif decide (s.From<h.From) then true else decide (h.From+(List.length h.Stages:Int)<s.To)) (some (Af.mk false [] [],19)) <|
  ck (As .i64 (s.From-h.From)&&As .i64 (s.To-h.From)&&CC h.Stages (s.From-h.From) (s.To-h.From)) <|
  bd (F6 (sub h.Stages (s.From-h.From) (s.To-h.From)) []) fun m=>bd (F5 s m q) fun r=>vaL h l r)=some r:=hF
 obtain⟨h1,hF⟩:=ck_e hF;have eb:(bif decide (s.From<h.From) then true else decide (h.From+(List.length h.Stages:Int)<s.To))=(decide (s.From<h.From)||decide (h.From+(List.length h.Stages:Int)<s.To)):=by cases decide (s.From<h.From)<;>rfl
 rw[eb]at hF;refine⟨by simp[As]at h1;exact h1,fun k=>?_,fun k=>?_⟩
 ·rw[k]at hF;exact(AL hF).symm
 ·rw[k]at hF;obtain⟨h2,hF⟩:=ck_e (show ck _ _=some r from hF);obtain⟨m,h3,hF⟩:=bd_e hF;obtain⟨q',h4,hF⟩:=bd_e hF;simp only[AI]at h2;obtain⟨⟨h5,h6⟩,h7⟩:=h2;refine⟨by simp[As]at h5;exact h5,by simp[As]at h6;exact h6,by simpa [CC,and_assoc] using h7,m,q',h3,h4,hF⟩
end
section
attribute [local simp] hset
section
attribute [local simp] BV Gm BG BW BX BY yza subm subh Ci pick Bx
theorem wzb3{a:An}(hz:z∈a.cells):AE z:=by
 simp[An.cells]at hz;rcases hz with rfl|rfl|rfl|rfl|rfl|rfl|rfl<;>first|exact .int _ _|exact .bool _|exact .str _|skip
 exact C0 fun a z hz=>by simp[Bz.cells]at hz;rcases hz with rfl|rfl|rfl|rfl<;>first|exact .int _ _|exact .bool _|exact .str _
theorem VI(m:List (Nat×Ad))(l:List An)(e5 e6:Nat)(c:List ((Int×Int)×Af))(q:Af):(fun i=>if i∈[5,6] then HV l e5 e6 c q i else hl m i)=hl ((5,.amap e5 (cE c)) :: (6,.box e6 [slcV 7 An.cells l,.mp 5 e5,.bool q.Neg,.str q.Num,.str q.Den]) :: m):=by
 funext i;by_cases i5:i=5
 ·subst i5;simp[HV]
 by_cases i6:i=6
 ·subst i6;simp[HV]
 have j5:¬5=i:=fun e=>i5 e.symm;have j6:¬6=i:=fun e=>i6 e.symm;simp[i5,i6,j5,j6]
def b39(H L:Aa)(n k:Nat):List (Nat×Aa):=[(1,L),(2,.ptr 0 1 0),(4,.ptr 1 1 0),(5,.int .i64 0),(9,.ptr 6 1 0),(33,L),(34,.int .i64 n),(35,.int .i64 k)]
def h39(hc:List Aa)(o2 o3 o4:Ad)(c:List ((Int×Int)×Af))(l:List An)(q:Af):List (Nat×Ad):=[(0,.box 1 hc),(1,.box 1 [.bool false,.str [],.str []]),(2,o2),(3,o3),(4,o4),(5,.amap 1 (cE c)),(6,.box 1 [slcV 7 An.cells l,.mp 5 1,.bool q.Neg,.str q.Num,.str q.Den])]
attribute [local simp] b39 h39
theorem wziq{l:List An}{e:Int}(h:ER l=some e):l.length<=1000000\/e=2:=by
 unfold ER at h;cases hd:decide (400<(l.length:Int)) with
 |true=>rw[hd]at h;exact .inr (AL h).symm
 |false=>have:=of_decide_eq_false hd;exact .inl (by omega)
structure YV where
 k:Nat
 e2:Nat
 e3:Nat
 e4:Nat
 c:List ((Int×Int)×Af)
 q:Af
structure YN where
 j:Nat
 m:List (Int×Int)
structure YS where
 z:List Nat
 c:List ((Int×Int)×Af)
 q:Af
theorem wzuj(hC:∀(l:List An) (e:Int),ER l=some e->AK EE Tryz.prog 37 [slcV 7 An.cells l] (.int .i64 e))(hO:∀(h:AD) (p:List Al×Int),F4 h=some p->AK EE Tryz.prog 34 [.agg h.cells] (.tup [slcV 5 Al.cells p.1,.int .i64 p.2]))(hR:∀(x:An) (s:Int) (r:Af),D1 x s=some r->AK EE Tryz.prog 132 [.agg x.cells,.int .i64 s] (.agg r.cells))(hI:∀(n:Int) (r:Af),Ec n=some r->AK EE Tryz.prog 42 [.int .i64 n] (.agg r.cells))(hM:∀(a b r:Af),Dl a b=some r->AK EE Tryz.prog 30 [.agg a.cells,.agg b.cells] (.agg r.cells))(hA:∀(a b r:Af),Ct a b=some r->AK EE Tryz.prog 31 [.agg a.cells,.agg b.cells] (.agg r.cells))(h:AD) (l:List An) (r:Af×Int) (hF:GD h l=some r):Pure EE Tryz.prog 21 [.agg h.cells,slcV 7 An.cells l] (.tup [.agg r.1.cells,.int .i64 r.2]):=by
 obtain⟨e1,f1,g1,hF⟩:=wzhh hF;have sC:=hC l e1 f1;obtain⟨hf,hs⟩:=h;have dH:AD.cells ⟨hf,hs⟩=[.int .i64 hf,(Aa.slc 1 hs.length (Ai (cI .i64) hs))]:=rfl;rw[Gn]at sC;rw[Gn,dH];obtain⟨c,hb,hc⟩:=ck21;refine Pure.ofs (fn:=Tryz.f21) (n:=98) rfl hb cr21 (hc 0) (by simp;rfl) rfl (by simp) ?_;refine(AW.srk [1,2,4,5] [0,1] (by simp[VJ];exact⟨rfl,rfl⟩) (by simp;rfl) (by simp;rfl) rfl ?_);refine .seq (AW.sr (by simp[VK];refine sC.call ?_;(try simp);rfl) ?_);refine AW.sr (by simp[VL];rfl) ?_;refine AW.if' (!decide (e1=0)) (by simp) (fun e=>?_) (fun e=>AW.skip ?_)
 ·rw[g1 (by simpa using e)];refine AW.sr (by simp[VM];rfl) ?_;exact .retp (rs:=rs21) rfl (by simp[rs21]) (by simp[rs21])
 obtain rfl:e1=0:=by simpa using e
 have aE:l.length<=1000000:=(wziq f1).resolve_right (by omega);obtain⟨p,f2,g2,hF⟩:=hF rfl;have sO:=hO _ p f2;rw[dH,Gn]at sO;simp only[Ay];refine .seq (AW.sr (by simp[VN];refine sO.call ?_;(try simp);rfl) ?_);refine AW.sr (by simp[VP];rfl) ?_;refine AW.if' (!decide (p.2=0)) (by simp) (fun e=>?_) (fun e=>AW.skip ?_)
 ·rw[g2 (by simpa using e)];refine AW.sr (by simp[VQ];rfl) ?_;exact .retp (rs:=rs21) rfl (by simp[rs21]) (by simp[rs21])
 have hF:=hF (by simpa using e);simp only[Ay];refine .seq (.reg ?_);simp[VS];refine(wzsa l _ (by simp) (by simp)).mono ?_;rintro v h' ⟨rfl,rfl⟩;rw[VI];simp;refine .seq (.seq (AW.r1 (by simp[VT];rfl) ?_));refine .block (AW.lp (fun y:YV=>b39 (.agg [.int .i64 hf,(Aa.slc 1 hs.length (Ai (cI .i64) hs))]) (.slc 7 l.length (Ai An.cells l)) l.length y.k) (fun y=>h39 [.int .i64 hf,(Aa.slc 1 hs.length (Ai (cI .i64) hs))] (.gone y.e2) (.gone y.e3) (.gone y.e4) y.c l y.q) (fun y=>l.length-y.k) (fun y=>y.k<=l.length/\CcV l y.c/\vaL ⟨hf,hs⟩ (l.drop y.k) y.q=some r) ⟨0,0,0,0,[],⟨false,[],[]⟩⟩ ⟨BA _,(fun k s r h=>by cases h),hF⟩ (by simp) (by simp) (by simp) ?_);rintro⟨k,e2,e3,e4,cc,q⟩ ⟨hk,dc,hV⟩;simp only at hk dc hV |-;refine AW.sr (by simp[VU];rfl) ?_;refine .seq (AW.if' (decide ((k:Int)<(l.length:Int))) (by simp) (fun e=>AW.skip ?_) (fun e=>.exit ?_));rotate_left
 ·obtain rfl:k=l.length:=by have:=of_decide_eq_false e;omega
  rw[List.drop_length]at hV;obtain rfl:=AL (show some (q,(0:Int))=some r from hV);simp only[Ay,ablk,AX];refine AW.sr (by simp[VV];rfl) ?_;exact .retp (rs:=rs21) rfl (by simp[rs21]) (by simp[rs21])
 have hlt:k<l.length:=by have:=BC e;omega
 have bP:l[k]?=some l[k]:=AF hlt;have aK:Ai An.cells l k=l[k].cells:=Bb bP;rw[Fn hlt]at hV;generalize l[k]=s at *;obtain⟨v1,v2,v3⟩:=wzja hV;have ly:inr .i64 ((k:Int)+1):=by show _/\_;omega
 simp only at v1 v2 v3;simp only[Ay];refine .seq (.block (AW.sr (by simp[VW,hlt,aK];rfl) ?_));refine .seq (AW.sr (by simp[VX];exact⟨fun _=>v1,rfl⟩) ?_);refine AW.if' (decide (s.From<hf)||decide (hf+(hs.length:Int)<s.To)) (by simp) (fun e=>?_) (fun e=>AW.skip ?_)
 ·rw[v2 e];refine AW.sr (by simp[VY];rfl) ?_;exact .retp (rs:=rs21) rfl (by simp[rs21]) (by simp[rs21])
 obtain⟨w1,w2,⟨w3,w4,w5⟩,m,q1,lz,js,hV⟩:=v3 e;simp only[Ay];refine AW.sr (by simp[VZ];rfl) ?_;obtain⟨n0,dN⟩:∃n0:Nat,(s.To-hf-(s.From-hf)).toNat=n0:=⟨_,rfl⟩;have pK:n0<=9223372036854775807:=by have:s.To-hf<=9223372036854775807:=w2.2;omega
 have og:max (s.To-hf-(s.From-hf)) 0=(n0:Int):=by omega
 have cj:(sub hs (s.From-hf) (s.To-hf)).length=n0:=by simp[sub];omega
 have b7:∀j x,(sub hs (s.From-hf) (s.To-hf))[j]?=some x->Ai (cI .i64) hs ((s.From-hf).toNat+j)=[.int .i64 x]:=fun j x hj=>by
  unfold sub at hj;rw[dN,HF]at hj;split at hj
  ·rw[Ge]at hj;rw[Bb hj];rfl
  ·cases hj
 generalize sub hs (s.From-hf) (s.To-hf)=part at *;refine .seq (.seq (.reg ?_));simp[Wa];refine⟨w1,w2,⟨by omega,by omega,w5⟩,?_⟩;rw[og,dN];generalize oh:(fun k=>Ai (cI .i64) hs ((s.From-hf).toNat+k))=CP at *;have b7:∀j x,part[j]?=some x->CP j=[.int .i64 x]:=fun j x hj=>by rw[<-oh];exact b7 j x hj
 refine .block (AW.lp (fun y:YN=>b39 (.agg [.int .i64 hf,(Aa.slc 1 hs.length (Ai (cI .i64) hs))]) (.slc 7 l.length (Ai An.cells l)) l.length k++[(10,.int .i64 k),(12,.mp 3 (e3+1)),(70,.slc 1 n0 CP),(71,.int .i64 n0),(72,.int .i64 y.j)]) (fun y=>h39 [.int .i64 hf,(Aa.slc 1 hs.length (Ai (cI .i64) hs))] (.gone (e2+1)) (.amap (e3+1) (mE y.m)) (.gone e4) cc l q) (fun y=>n0-y.j) (fun y=>y.j<=n0/\F6 (part.drop y.j) y.m=some m) ⟨0,[]⟩ ⟨BA _,lz⟩ (by simp) (by simp[mE]) (by simp) ?_);rintro⟨j,mm⟩ ⟨hj,hN⟩;simp only at hj hN |-;refine AW.sr (by simp[Wb];rfl) ?_;refine .seq (AW.if' (decide ((j:Int)<(n0:Int))) (by simp) (fun e=>AW.skip ?_) (fun e=>.exit ?_))
 ·have hlt:j<n0:=by have:=BC e;omega
  have om:part[j]?=some part[j]:=AF (by omega);have ot:=b7 j _ om;rw[Fn (show j<part.length by omega)]at hN;generalize part[j]=z at *;obtain⟨bY,hN⟩:=ck_e (show ck _ _=some m from hN);have k1:inr .i64 (Option.getD (mget keqI mm z) 0+1):=by simp[As]at bY;exact bY
  have aQ:inr .i64 ((j:Int)+1):=by show _/\_;omega
  simp only[Ay];refine .seq (.block (AW.sr (by simp[Wd,hlt,ot];rfl) ?_));refine AW.r1 (by simp[We,wzrp mm,wzrl mm];exact⟨k1,rfl⟩) ?_;simp only[Ay,ablk];refine AW.r1 (by simp[Wf];exact⟨aQ,rfl⟩) ?_;exact⟨⟨j+1,mput keqI mm z (Option.getD (mget keqI mm z) 0+1)⟩,⟨by simp only;omega,hN⟩,by simp only;omega,.sp (by simp) (by simp) (by simp)⟩
 obtain rfl:j=n0:=by have:=of_decide_eq_false e;omega
 rw[<-cj,List.drop_length]at hN;obtain rfl:=AL (show some mm=some m from hN);have kj:(mE mm).length=mm.length:=J5 ..;simp only[Ay,ablk,AX];refine AW.sr (by simp[Wg,J8];rfl) ?_;refine .block (AW.lp (fun y:YS=>b39 (.agg [.int .i64 hf,(Aa.slc 1 hs.length (Ai (cI .i64) hs))]) (.slc 7 l.length (Ai An.cells l)) l.length k++[(10,.int .i64 k),(82,.ptr 4 (e4+1) 0)]) (fun y=>h39 [.int .i64 hf,(Aa.slc 1 hs.length (Ai (cI .i64) hs))] (.gone (e2+1)) (.amap (e3+1) (mE mm)) (.miter (e4+1) (some (3,e3+1,(mE mm).length)) y.z) y.c l y.q) (fun y=>mm.length-y.z.length) (fun y=>y.z.Nodup/\(∀k,k∈y.z->k<mm.length)/\CcV l y.c/\B7 s (CN mm y.z) q=some y.q) ⟨[],cc,q⟩ ⟨.nil,(fun k h=>by cases h),dc,rfl⟩ (by simp) (by simp) (by simp) ?_);rintro⟨seen,c3,q3⟩ ⟨dD,eZ,gU,hz⟩;simp only at dD eZ gU hz |-;refine .seq (.reg ?_);simp[Wh,G4];refine⟨fun i eI eE=>?_,fun dh=>?_⟩
 ·have eI:i<mm.length:=by simpa [kj] using eI
  have jt:mm[i]?=some mm[i]:=AF eI;have ov:(mE mm)[i]?=some (.int .i64 mm[i].1,.int .i64 mm[i].2):=by unfold mE;rw[H6,jt];rfl
  have l6:∀h:i<(mE mm).length,(mE mm)[i]=(.int .i64 mm[i].1,.int .i64 mm[i].2):=fun h=>(A8.1 ov).2;generalize mm[i]=p at *;have dA:(seen++[i]).Nodup:=by rw[List.nodup_append];exact⟨dD,by simp,fun x hx y hy=>by simp at hy;subst hy;intro e;subst e;exact eE hx⟩
  have hlt':∀j,j∈seen++[i]->j<mm.length:=by
   intro j hj;rcases CD.1 hj with h|h
   ·exact eZ j h
   ·simp at h;omega
  have aC:=UV _ _ dA hlt';obtain⟨a,b,d,q4,y1,y2,y3,y4,y5⟩:=wzfw js dA hlt' jt hz;refine .seq (AW.if' true rfl (fun _=>AW.skip ?_) (fun e=>by cases e));simp only[Ay];refine .block (AW.sr (by simp[Wi,HH,kj,eI,l6];rfl) ?_);refine .reg ?_;simp[Wj];refine(wzex hR hI hM hA bP y2 gU y1 y3 y4 1 1 _ (wzvv (by simp) (by simp))).mono ?_;rintro v h' ⟨rfl,rfl⟩;rw[VI];exact⟨⟨seen++[i],cput c3 k p.1 b,q4⟩,⟨dA,hlt',wzqw gU bP y2,y5⟩,by simp at aC |-;omega,.sp (by simp) (by simp[kj]) (by simp)⟩
 ·refine .seq (AW.if' false rfl (fun e=>by cases e) (fun _=>.exit ?_));have hq:=VG js (VH (wzq3 dD fun x=>⟨eZ x,fun h=>dh x (by rw[kj];exact h)⟩));rw[hz]at hq;obtain rfl:=AL hq;simp only[Ay,ablk,AX];refine AW.r1 (by simp[Wl];exact⟨ly,rfl⟩) ?_;exact⟨⟨k+1,e2+1,e3+1,e4+1,c3,q3⟩,⟨by simp only;omega,gU,hV⟩,by simp only;omega,.sp (by simp) (by simp) (by simp)⟩
theorem wzs1(H64:Ap k37)(H70:Ap k34)(H129:Ap k132)(H38:Ap k42)(H40:Ap k30)(H37:Ap k31):Ap k21:=by
 refine⟨by kernel_rfl,fun x y e=>?_⟩;have H:Pure EE Tryz.prog 21 [.agg x.1.cells,slcV 7 An.cells x.2] (.tup [.agg y.1.cells,.int .i64 y.2]):=wzuj (fun l e h=>H64.still (x:=l) (y:=e) h (by kernel_rfl)) (fun w p h=>H70.still (x:=w) (y:=p) h (by kernel_rfl)) (fun a s r h=>H129.still (x:=(a,s)) (y:=r) h (by kernel_rfl)) (fun n r h=>H38.still (x:=n) (y:=r) h (by kernel_rfl)) (fun a b r h=>H40.still (x:=(a,b)) (y:=r) h (by kernel_rfl)) (fun a b r h=>H37.still (x:=(a,b)) (y:=r) h (by kernel_rfl)) x.1 x.2 y e
 exact(Pure.still H hEE (fun z hz=>by
  rcases AV.1 hz with rfl|hz
  ·exact .agg _ fun z hz=>LO hz
  ·rw[B3.1 hz];exact C0 fun a z hz=>wzb3 hz) (.tup _ fun z hz=>by
  rcases AV.1 hz with rfl|hz
  ·exact .agg _ fun z hz=>by simp[Af.cells]at hz;rcases hz with rfl|rfl|rfl<;>simp
  ·rw[B3.1 hz];exact .int _ _)).cast (by kernel_rfl)
end
end
section
theorem Br{c:Bool}{a b:Option α}{r:α}(h:ite' c a b=some r):(c=true->a=some r)/\(c=false->b=some r):=by
 cases c with
 |false=>exact⟨(fun k=>by cases k),fun _=>h⟩
 |true=>exact⟨fun _=>h,(fun k=>by cases k)⟩
theorem C2{l:List α}{r:α}(h:at? l (k:Int)=some r):k<l.length/\l[k]?=some r:=by obtain⟨h1,h2,h3⟩:=In h;exact⟨by omega,by simpa using h3⟩
theorem AW.exs{m:List (Nat×Aa)}{hm':List (Nat×Ad)}(q:Q (.exit i) ⟨tl m' n,hx hm' h,[]⟩)(h1:subm m m')(h2:subx hm h hm')(h3:Ci hm hm'=true):AW E ρ P (.exit i) Q ⟨tl m n,hx hm h,[]⟩:=.see (.spx h1 h2 h3) (.exit q)
theorem AW.ath{K:Au->Prop}{c:AO}{S:Au}(h:∀K',K'=K->AW E ρ P c (Ay K' Q) S):AW E ρ P c (Ay K Q) S:=h K rfl
def rwx(s:Nat):Nat:=100+2*s
theorem C3(h:k<100):(k=rwx s)=False:=eq_false (by unfold rwx;omega)
theorem C6(h:k<100):(rwx s=k)=False:=eq_false (by unfold rwx;omega)
theorem LR:(rwx s=rwx t)=(s=t):=propext ⟨fun h=>by unfold rwx at h;omega,fun h=>h▸rfl⟩
def iC(i:Int):List Aa:=[.int .i64 i]
def rowO(e:Nat)(l:List Int):Ad:=.vec e 1 l.length (Ai iC l)
def RX(er:Nat->Nat)(x:List (List Int))(h:Aq):Prop:=∀s r,x[s]?=some r->h (rwx s)=rowO (er s) r
def coC(r:List Af):List Aa:=[.slc 3 r.length (Ai Af.cells r)]
def mvC(m:Int×Af):List Aa:=[.int .i64 m.1,.bool m.2.Neg,.str m.2.Num,.str m.2.Den]
theorem Ed{c:α->List Aa}{l:List α}{b:Nat}{g:List Aa}(hb:b<l.length)(hg:g=c v):(fun k:Nat=>if k=b then g else Ai c l k)=Ai c (l.set b v):=funext fun k=>by
 subst hg;unfold Ai;rw[DP];by_cases e:k=b
 ·subst e;rw[Aj rfl,Aj rfl,Aj hb]
 ·rw[Ag e,Ag (fun h=>e h.symm)]
structure TkV(f:Nat->Aa)(cl:List AB)(co:List (List Af))(er:Nat->Nat)(n S:Nat):Prop where
 f5:f 5=.slc 2 n (Ai AB.cells cl)
 f6:f 6=.slc 1 S (Ai coC co)
 f7:f 7=.slc 1 S (fun s=>[.vec (rwx s) (er s) 0 n])
def bI(f:Nat->Aa)(n k0 k1 k2:Nat):List (Nat×Aa):=[(0,.cptr f 8 0),(2,.int .i64 n),(3,.vec 40 k0 0 n),(4,.vec 41 k1 0 n),(5,.vec 42 k2 0 n)]
def mI(g:Nat->List Aa)(n k0:Nat)(o1 o2 o3 o4 o5:Ad):List (Nat×Ad):=[(40,.vec k0 1 n g),(41,o1),(42,o2),(43,o3),(44,o4),(45,o5)]
theorem Pp{m:List (Nat×Ad)}(hi:Nat.blt i 100=true):hset (hx m h) i o=hx ((i,o) :: m) h:=Dk m h i o
structure YI where
 j:Nat
 m:Int×Af
 e:Nat
section
attribute [local simp] BV Gm BG BW BX BY yza subm subh Ci pick Bx
attribute [local simp] lkx Dk Cz subx bI mI C3 C6
theorem im_s(hS:∀(a b r:Af),Dm a b=some r->AK EE Tryz.prog 111 [.agg a.cells,.agg b.cells] (.agg r.cells))(hC:∀(a b:Af) (r:Int),Fq a b=some r->AK EE Tryz.prog 23 [.agg a.cells,.agg b.cells] (.int .i64 r))     (hT:TkV f cl co er n S)  (bS:x.length=S) (gV:co.length=S) (cN:∀c∈co,c.length=n) (bA:∀c∈x,c.length=n) (hX:RX er x h) {a b:Nat} (ha:a<n) (hb:b<n)   (hg:g a=[.vec 43 e3 0 n]) {l:List (Int×Af)} (hl:l.length=n) {m0 m1:Int×Af} (iG:l[b]?=some m0)(hF:forN (imS co x a b) S 0 m0=some m1) (eu:S<=1000000)   (k:∀e4',Q .normal ⟨tl (bI f n k0 k1 k2++[(6,.int .i64 a),(7,.int .i64 b),(32,.int .i64 n),(33,.int .i64 a),(41,.int .i64 n),(42,.int .i64 b)]) 289,hx (mI g n k0 o1 o2 (.vec e3 4 n (Ai mvC (l.set b m1))) (.gone e4') (.gone e5)) h,[]⟩) :
  AW EE none Tryz.prog (.block 6 (.loop (Wm 40))) Q ⟨tl (bI f n k0 k1 k2++[(6,.int .i64 a),(7,.int .i64 b),(32,.int .i64 n),(33,.int .i64 a),(41,.int .i64 n),(42,.int .i64 b),(56,.int .i64 S),(57,.int .i64 0)]) 289,hx (mI g n k0 o1 o2 (.vec e3 4 n (Ai mvC l)) (.gone e4) (.gone e5)) h,[]⟩:=by
 refine .block (AW.lph (fun y:YI=>bI f n k0 k1 k2++[(6,.int .i64 a),(7,.int .i64 b),(32,.int .i64 n),(33,.int .i64 a),(41,.int .i64 n),(42,.int .i64 b),(56,.int .i64 S),(57,.int .i64 y.j)]) (fun y=>mI g n k0 o1 o2 (.vec e3 4 n (Ai mvC (l.set b y.m))) (.gone y.e) (.gone e5)) (fun _=>h) (fun y=>S-y.j) (fun y=>y.j<=S/\forN (imS co x a b) (S-y.j) y.j y.m=some m1) ⟨0,m0,e4⟩ ⟨BA _,by simpa using hF⟩ rfl (by simp) ?_ (by simp) ?_)
 ·have:l.set b m0=l:=by
   obtain⟨h1,h2⟩:=A8.1 iG;rw[<-h2];exact List.set_getElem_self h1
  simp[this]
 rintro⟨j,m,e⟩ ⟨hj,hF⟩;refine AW.ath fun P hP=>?_;simp only at hj hF |-;refine AW.sr (by simp[Wn];rfl) ?_;refine .seq (AW.if' (decide ((j:Int)<(S:Int))) (by simp) (fun et=>AW.skip ?_) (fun et=>?_));rotate_left
 ·obtain rfl:j=S:=by have:=of_decide_eq_false et;omega
  rw[Nat.sub_self]at hF;obtain rfl:=AL (show some m=some m1 from hF);exact .exs (by simp only[Ay,ablk,AX];exact k e) (by simp) (by simp) (by simp)
 have hlt:j<S:=by have:=BC et;omega
 rw[show S-j=(S-(j+1))+1 by omega]at hF;obtain⟨m',hm',hF⟩:=bd_e (show bd (imS co x a b m j) _=some m1 from hF);unfold imS at hm';obtain⟨cs,q1,hm'⟩:=bd_e hm';obtain⟨cb,q2,hm'⟩:=bd_e hm';obtain⟨ca,q3,hm'⟩:=bd_e hm';obtain⟨d,q4,hm'⟩:=bd_e hm';obtain⟨xs,q5,hm'⟩:=bd_e hm';obtain⟨xa,q6,hm'⟩:=bd_e hm';obtain⟨_,q1⟩:=C2 q1;obtain⟨_,q2⟩:=C2 q2;obtain⟨_,q3⟩:=C2 q3;obtain⟨_,q5⟩:=C2 q5;obtain⟨_,q6⟩:=C2 q6;have c1:Ai coC co j=coC cs:=Bb q1;have c2:Ai Af.cells cs b=cb.cells:=Bb q2;have c3:Ai Af.cells cs a=ca.cells:=Bb q3;have bp:cs.length=n:=cN _ (AG q1);have c7:xs.length=n:=bA _ (AG q5);have ey:h (rwx j)=.vec (er j) 1 n (Ai iC xs):=(hX j xs q5).trans (by unfold rowO;rw[c7]);have c5:Ai iC xs a=iC xa:=Bb q6;have c6:Ai mvC (l.set b m) b=mvC m:=Bb (by simp[hl,hb]);have aQ:inr .i64 ((j:Int)+1):=by show _/\_;omega
 have sS:=hS _ _ _ q4;simp only[Ay];refine .seq (.block (AW.sr (by simp[Wo];rfl) ?_));refine AW.sd (by simp[Wp,hT.f6,hlt,c1,coC,bp,ha,hb,c2,c3];refine Bi.pure _ sS ?_;simp;exact⟨by kernel_rfl,rfl⟩) ?_
 have nxt:∀(m':Int×Af) (e':Nat),forN (imS co x a b) (S-(j+1)) (j+1) m'=some m1 ->
   AW EE none Tryz.prog (.reg false (LS 40) []) (Ay P (ablk 6 Q))
   ⟨tl (bI f n k0 k1 k2++[(6,.int .i64 a),(7,.int .i64 b),(32,.int .i64 n),(33,.int .i64 a),(41,.int .i64 n),(42,.int .i64 b),(56,.int .i64 S),(57,.int .i64 j)]) 289,hx (mI g n k0 o1 o2 (.vec e3 4 n (Ai mvC (l.set b m'))) (.gone e') (.gone e5)) h,[]⟩:=fun m' e' h1=>by
  refine AW.r1 (by simp[LS];exact⟨aQ,rfl⟩) ?_;rw[hP];exact⟨⟨j+1,m',e'⟩,⟨by show j+1<=S;omega,h1⟩,by show S-(j+1)<S-j;omega,.spx (by simp) (by simp) (by simp)⟩
 have upd:m'=((j:Int),d)->AW EE none Tryz.prog (.reg true (Pq 40) Wq) (ablk 7 (Ay (AW EE none Tryz.prog (.reg false (LS 40) []) (Ay P (ablk 6 Q))) (Ay P (ablk 6 Q)))) ⟨tl (bI f n k0 k1 k2++[(6,.int .i64 a),(7,.int .i64 b),(8,.int .i64 j),(9,.ptr 44 (e+1) 0),(32,.int .i64 n),(33,.int .i64 a),(41,.int .i64 n),(42,.int .i64 b),(56,.int .i64 S),(57,.int .i64 j)]) 289,hx (mI g n k0 o1 o2 (.vec e3 4 n (Ai mvC (l.set b m))) (.box (e+1) [.bool d.Neg,.str d.Num,.str d.Den]) (.gone e5)) h,[]⟩:=fun hm=>by
  subst hm;have f1:(fun k:Nat=>if k=b then [Aa.int .i64 j,.bool d.Neg,.str d.Num,.str d.Den] else Ai mvC (l.set b m) k)=Ai mvC (l.set b ((j:Int),d)):=by exact(Ed (c:=mvC) (v:=((j:Int),d)) (by simp;omega) rfl).trans (by rw[List.set_set])
  refine AW.d1 (by simp[Pq,ha,hb,hg,c6,mvC,f1];exact⟨by kernel_rfl,rfl⟩) ?_;simp only[Ay,ablk];exact .see (.spx (by simp) (by simp) (by simp)) (nxt _ (e+1) hF)
 by_cases iI:0<xa
 ·rw[AC iI]at hm';by_cases dP:m.1<0
  ·rw[AC dP]at hm';obtain rfl:=AL (show some ((j:Int),d)=some m' from hm');refine AW.sd (by simp[LT,hT.f7,hlt,ha,hb,ey,c5,iC,iI,hg,c6,mvC,dP];refine Co.pure .top (by simp) (fun h=>by cases h) ?_;simp;exact⟨by kernel_rfl,rfl⟩) ?_;refine AW.if' true (by simp) (fun _=>?_) (fun h=>by cases h);exact .see (.spx (by simp) (by simp) (by simp)) (upd rfl)
  ·rw[A9 dP]at hm';obtain⟨q,q7,hm'⟩:=bd_e (show bd (Fq d m.2) _=some m' from hm');have sC:=hC _ _ _ q7;refine AW.sd (by simp[LT,hT.f7,hlt,ha,hb,ey,c5,iC,iI,hg,c6,mvC,dP];refine Co.pure _ (by simp) (fun _=>sC) ?_;simp;exact⟨by kernel_rfl,rfl⟩) ?_;refine AW.if' (decide (q<0)) (by simp) (fun et=>?_) (fun et=>AW.skip ?_)
   ·rw[et]at hm';obtain rfl:=AL (show some ((j:Int),d)=some m' from hm');exact .see (.spx (by simp) (by simp) (by simp)) (upd rfl)
   ·rw[et]at hm';obtain rfl:=AL (show some m=some m' from hm');simp only[Ay,ablk];exact .see (.spx (by simp) (by simp) (by simp)) (nxt _ (e+1) hF)
 ·rw[A9 iI]at hm';obtain rfl:=AL (show some m=some m' from hm');refine AW.sd (by simp[LT,hT.f7,hlt,ha,ey,c5,iC,iI,hg,hb,c6,mvC];refine Co.pure .top (by simp) (fun h=>by cases h) ?_;simp;exact⟨by kernel_rfl,rfl⟩) ?_;refine AW.if' false (by simp) (fun h=>by cases h) (fun _=>AW.skip ?_);simp only[Ay,ablk];exact .see (.spx (by simp) (by simp) (by simp)) (nxt _ (e+1) hF)
def zM:Int×Af:=(0,⟨false,[],[]⟩)
structure YB where
 j:Nat
 l:List (Int×Af)
 e:Nat
theorem im_b(hS:∀(a b r:Af),Dm a b=some r->AK EE Tryz.prog 111 [.agg a.cells,.agg b.cells] (.agg r.cells))(hC:∀(a b:Af) (r:Int),Fq a b=some r->AK EE Tryz.prog 23 [.agg a.cells,.agg b.cells] (.int .i64 r))     (hT:TkV f cl co er n S)  (bS:x.length=S) (gV:co.length=S) (cN:∀c∈co,c.length=n) (bA:∀c∈x,c.length=n) (hX:RX er x h) {a:Nat} (ha:a<n)   (hg:g a=[.vec 43 e3 0 n]) {r:List (Int×Af)}(hF:Io co x n a=some r) (eu:S<=1000000) (bT:n<=1000000)   (k:∀e4',r.length=n->Q .normal ⟨tl (bI f n k0 k1 k2++[(6,.int .i64 a),(32,.int .i64 n),(33,.int .i64 a)]) 289,hx (mI g n k0 o1 o2 (.vec e3 4 n (Ai mvC r)) (.gone e4') (.gone e5)) h,[]⟩) :
  AW EE none Tryz.prog (.block 4 (.loop (Wr 40))) Q ⟨tl (bI f n k0 k1 k2++[(6,.int .i64 a),(32,.int .i64 n),(33,.int .i64 a),(41,.int .i64 n),(42,.int .i64 0)]) 289,hx (mI g n k0 o1 o2 (.vec e3 4 n (Ai mvC (List.replicate n zM))) (.gone e4) (.gone e5)) h,[]⟩:=by
 refine .block (AW.lph (fun y:YB=>bI f n k0 k1 k2++[(6,.int .i64 a),(32,.int .i64 n),(33,.int .i64 a),(41,.int .i64 n),(42,.int .i64 y.j)]) (fun y=>mI g n k0 o1 o2 (.vec e3 4 n (Ai mvC (y.l++List.replicate (n-y.j) zM))) (.gone y.e) (.gone e5)) (fun _=>h) (fun y=>n-y.j) (fun y=>y.j<=n/\y.l.length=y.j/\forN (fun l b=>bd (imM co x a b) fun m=>some (l++[m])) (n-y.j) y.j y.l=some r) ⟨0,[],e4⟩ ⟨BA _,rfl,hF⟩ rfl (by simp) (by simp) (by simp) ?_);rintro⟨j,l,e⟩ ⟨hj,hl,hF⟩;simp only at hj hl hF |-;refine AW.sr (by simp[Wt];rfl) ?_;refine .seq (AW.if' (decide ((j:Int)<(n:Int))) (by simp) (fun et=>AW.skip ?_) (fun et=>?_));rotate_left
 ·obtain rfl:j=n:=by have:=of_decide_eq_false et;omega
  rw[Nat.sub_self]at hF;obtain rfl:=AL (show some l=some r from hF);exact .exs (by simp only[Ay,ablk,AX];exact k e hl) (by simp) (by simp) (by simp)
 have hlt:j<n:=by have:=BC et;omega
 rw[show n-j=(n-(j+1))+1 by omega]at hF |-;obtain⟨l',dL,hF⟩:=bd_e (show bd (bd (imM co x a j) fun m=>some (l++[m])) _=some r from hF);obtain⟨m,hm,dL⟩:=bd_e dL;obtain rfl:=AL dL;have aQ:inr .i64 ((j:Int)+1):=by show _/\_;omega
 have c0:Ai mvC (l++List.replicate (n-(j+1)+1) zM) j=[.int .i64 0,.bool false,.str [],.str []]:=Bb (c:=mvC) (x:=zM) (by rw[Ft (by omega),hl];simp);have s1:(l++List.replicate (n-(j+1)+1) zM).set j (-1,⟨false,[],[]⟩)=l++(-1,⟨false,[],[]⟩) :: List.replicate (n-(j+1)) zM:=by rw[List.set_append_right _ _ (by omega),hl,Nat.sub_self,List.replicate_succ];rfl
 have s2:(l++(-1,⟨false,[],[]⟩) :: List.replicate (n-(j+1)) zM).set j m=(l++[m])++List.replicate (n-(j+1)) zM:=by rw[List.set_append_right _ _ (by omega),hl,Nat.sub_self,List.append_assoc];rfl
 have f1:(fun k:Nat=>if k=j then [Aa.int .i64 (-1),.bool false,.str [],.str []] else Ai mvC (l++List.replicate (n-(j+1)+1) zM) k)=Ai mvC (l++(-1,⟨false,[],[]⟩) :: List.replicate (n-(j+1)) zM):=by rw[<-s1];exact Ed (v:=((-1:Int),(⟨false,[],[]⟩:Af))) (by simp;omega) rfl
 simp only[Ay];refine .seq (.block (AW.sr (by simp[Wu];rfl) ?_));refine AW.sr (by simp[Wv,ha,hg,hlt,c0,f1];rfl) ?_;refine AW.sr (by simp[Ww,hT.f7];rfl) ?_;refine .see (.spx (m':=bI f n k0 k1 k2++[(6,.int .i64 a),(7,.int .i64 j),(32,.int .i64 n),(33,.int .i64 a),(41,.int .i64 n),(42,.int .i64 j),(56,.int .i64 S),(57,.int .i64 0)]) (hm':=mI g n k0 o1 o2 (.vec e3 4 n (Ai mvC (l++(-1,⟨false,[],[]⟩) :: List.replicate (n-(j+1)) zM))) (.gone e) (.gone e5)) (by simp) (by simp) (by simp)) ?_;refine im_s hS hC hT bS gV cN bA hX ha hlt hg (by simp;omega) (m0:=(-1,⟨false,[],[]⟩)) (by rw[Ft (by omega),hl];simp) (by unfold imM at hm;rw[bS]at hm;exact hm) eu fun e4'=>?_;rw[s2];refine AW.r1 (by simp[Wx];exact⟨aQ,rfl⟩) ?_;exact⟨⟨j+1,l++[m],e4'⟩,⟨by show j+1<=n;omega,by simp[hl],hF⟩,by show n-(j+1)<n-(j+1)+1;omega,.spx (by simp) (by simp) (by simp)⟩
theorem F7{c:α->List Aa}(hk:k<n):Ai c (List.replicate n v) k=c v:=Bb (by simp[hk])
def MVg(n:Nat)(mv:List (List (Int×Af)))(g:Nat->List Aa):Prop:=∀a r,mv[a]?=some r->r.length=n/\g a=[.slc 4 n (Ai mvC r)]
theorem wzt6{m:List (Nat×Aa)}{U:Nat->List Aa}{o4 o5:Ad}(hj:g j=[.vec 43 e 0 n]):See EE ⟨tl m N,hx (mI g n k0 o1 o2 (.vec e 4 n U) o4 o5) h,[]⟩ ⟨tl m N,hx (mI (fun i=>if i=j then [.slc 4 n U] else g i) n k0 o1 o2 (.gone (e+1)) o4 o5) h,[]⟩:=by
 refine .freeze (id:=43) (o:=.vec e 4 n U) (by simp) rfl trivial (by simp[Ad.ep]) (fun i hi=>?_) (FVl.refl _) rfl;have aW:¬43=i:=fun k=>hi k.symm;by_cases i40:i=40
 ·subst i40;refine .inr (.inr (.inl ⟨k0,1,n,g,fun i=>if i=j then [.slc 4 n U] else g i,by simp,by simp,fun k hk=>?_⟩));show FVl 43 _ (g k) (if k=j then _ else g k);split
  ·rename_i e;subst e;rw[hj];exact⟨.vec e 4 n U 0 n U rfl (by simp) (fun k _=>by rw[Bn]),trivial⟩
  ·exact FVl.refl _
 ·have i40':¬40=i:=fun k=>i40 k.symm;refine .inl ?_;simp[aW,i40']
structure YA where
 j:Nat
 L:List (List (Int×Af))
 g:Nat->List Aa
 e3:Nat
 e4:Nat
theorem im_a(hS:∀(a b r:Af),Dm a b=some r->AK EE Tryz.prog 111 [.agg a.cells,.agg b.cells] (.agg r.cells))(hC:∀(a b:Af) (r:Int),Fq a b=some r->AK EE Tryz.prog 23 [.agg a.cells,.agg b.cells] (.int .i64 r))     (hT:TkV f cl co er n S)  (bS:x.length=S) (gV:co.length=S) (cN:∀c∈co,c.length=n) (bA:∀c∈x,c.length=n) (hX:RX er x h)   (hF:imMv co x n=some mv) (eu:S<=1000000) (bT:n<=1000000)   (fL:∀k,k<n->(g k).tail=[]) (k:∀g' e3' e4',mv.length=n->MVg n mv g'->(∀k,k<n->(g' k).tail=[])->Q .normal ⟨tl (bI f n k0 k1 k2) 289,hx (mI g' n k0 o1 o2 (.gone e3') (.gone e4') (.gone e5)) h,[]⟩) :
  AW EE none Tryz.prog (.block 2 (.loop (Wy 40))) Q ⟨tl (bI f n k0 k1 k2++[(32,.int .i64 n),(33,.int .i64 0)]) 289,hx (mI g n k0 o1 o2 (.gone e3) (.gone e4) (.gone e5)) h,[]⟩:=by
 refine .block (AW.lph (fun y:YA=>bI f n k0 k1 k2++[(32,.int .i64 n),(33,.int .i64 y.j)]) (fun y=>mI y.g n k0 o1 o2 (.gone y.e3) (.gone y.e4) (.gone e5)) (fun _=>h) (fun y=>n-y.j) (fun y=>y.j<=n/\y.L.length=y.j/\MVg n y.L y.g/\(∀k,k<n->(y.g k).tail=[])/\forN (fun l a=>bd (Io co x n a) fun r=>some (l++[r])) (n-y.j) y.j y.L=some mv) ⟨0,[],g,e3,e4⟩ ⟨BA _,rfl,(fun a r h=>by simp at h),fL,hF⟩ rfl (by simp) (by simp) (by simp) ?_);rintro⟨j,L,g,e3,e4⟩ ⟨hj,hL,hM,fL,hF⟩;simp only at hj hL hM fL hF |-;refine AW.sr (by simp[Wz];rfl) ?_;refine .seq (AW.if' (decide ((j:Int)<(n:Int))) (by simp) (fun et=>AW.skip ?_) (fun et=>?_));rotate_left
 ·obtain rfl:j=n:=by have:=of_decide_eq_false et;omega
  rw[Nat.sub_self]at hF;obtain rfl:=AL (show some L=some mv from hF);exact .exs (by simp only[Ay,ablk,AX];exact k g e3 e4 hL hM fL) (by simp) (by simp) (by simp)
 have hlt:j<n:=by have:=BC et;omega
 rw[show n-j=(n-(j+1))+1 by omega]at hF;obtain⟨L',fH,hF⟩:=bd_e (show bd (bd (Io co x n j) fun m=>some (L++[m])) _=some mv from hF);obtain⟨r,hr,fH⟩:=bd_e fH;obtain rfl:=AL fH;have aQ:inr .i64 ((j:Int)+1):=by show _/\_;omega
 have bW:(n:Int)*48<=140737488355328:=by omega
 simp only[Ay];refine .seq (.block (AW.sr (by simp[W0];rfl) ?_));refine AW.sr (by simp[W1,hlt,bW,fL j hlt];rfl) ?_;refine AW.sr (by simp[W2];rfl) ?_;refine .see (.spx (m':=bI f n k0 k1 k2++[(6,.int .i64 j),(32,.int .i64 n),(33,.int .i64 j),(41,.int .i64 n),(42,.int .i64 0)]) (hm':=mI (fun k=>if k=j then [.vec 43 (e3+1) 0 n] else g k) n k0 o1 o2 (.vec (e3+1) 4 n (Ai mvC (List.replicate n zM))) (.gone e4) (.gone e5)) (by simp) ?_ (by simp)) ?_
 ·simp;intro k hk;exact F7 hk
 refine im_b hS hC hT bS gV cN bA hX hlt (by simp) hr eu bT fun e4' fM=>?_;refine .see (wzt6 (j:=j) (by simp)) ?_;refine AW.r1 (by simp[W3];exact⟨aQ,rfl⟩) ?_;refine⟨⟨j+1,L++[r],fun k=>if k=j then [.slc 4 n (Ai mvC r)] else g k,e3+1+1,e4'⟩,⟨by show j+1<=n;omega,by simp[hL],fun a q hq=>?_,fun k hk=>?_,hF⟩,by show n-(j+1)<n-j;omega,.spx (by simp) ?_ (by simp)⟩;rotate_left
 ·show(if k=j then _ else g k).tail=[];split
  ·rfl
  ·exact fL k hk
 ·simp;intro k hk;split
  ·rfl
  ·rfl
 rw[List.getElem?_append]at hq;split at hq
 ·rename_i hlt';obtain⟨p1,p2⟩:=hM a q hq;exact⟨p1,by show(if a=j then _ else g a)=_;rw[Ag (by omega)];exact p2⟩
 ·rename_i hge;have:a-L.length=0:=by obtain⟨h1,_⟩:=A8.1 hq;simp at h1;omega
  rw[this]at hq;obtain rfl:=AL hq;exact⟨fM,by show(if a=j then _ else g a)=_;rw[Aj (by omega)]⟩
end
end
section
def dO(k n:Nat)(d:List Af):Ad:=.vec k 3 n (Ai Af.cells d)
def fO(k n:Nat)(d:List Int):Ad:=.vec k 1 n (Ai iC d)
structure YE where
 j:Nat
 d:List Af
 f:List Int
 c:Int
 e:Nat
section
attribute [local simp] BV Gm BG BW BX BY yza subm subh Ci pick Bx
attribute [local simp] lkx Dk Cz subx bI mI C3 C6 dO fO
theorem be_b(hA:∀(a b r:Af),Ct a b=some r->AK EE Tryz.prog 31 [.agg a.cells,.agg b.cells] (.agg r.cells))(hC:∀(a b:Af) (r:Int),Fq a b=some r->AK EE Tryz.prog 23 [.agg a.cells,.agg b.cells] (.int .i64 r))    (hM:MVg n mv g) {a:Nat} (ha:a<n) {P p:Int}   {c:Int} (hd:d.length=n) (hf:fr.length=n) (bT:n<=1000000)(hF:forN (imE mv a) n 0 (d,fr,c)=some (d',fr',c'))  (k:∀e5',d'.length=n->fr'.length=n->Q .normal ⟨tl (bI f n k0 k1 k2++[(10,.int .i64 c'),(130,.int .i64 P),(131,.int .i64 p),(133,.int .i64 n),(134,.int .i64 a)]) 289,hx (mI g n k0 (dO k1 n d') (fO k2 n fr') (.gone e3) (.gone e4) (.gone e5')) h,[]⟩) :
  AW EE none Tryz.prog (.block 12 (.loop (W4 40))) Q ⟨tl (bI f n k0 k1 k2++[(10,.int .i64 c),(11,.int .i64 a),(130,.int .i64 P),(131,.int .i64 p),(133,.int .i64 n),(134,.int .i64 a),(137,.int .i64 n),(138,.int .i64 0)]) 289,hx (mI g n k0 (dO k1 n d) (fO k2 n fr) (.gone e3) (.gone e4) (.gone e5)) h,[]⟩:=by
 refine .block (AW.lph (fun y:YE=>bI f n k0 k1 k2++[(10,.int .i64 y.c),(11,.int .i64 a),(130,.int .i64 P),(131,.int .i64 p),(133,.int .i64 n),(134,.int .i64 a),(137,.int .i64 n),(138,.int .i64 y.j)]) (fun y=>mI g n k0 (dO k1 n y.d) (fO k2 n y.f) (.gone e3) (.gone e4) (.gone y.e)) (fun _=>h) (fun y=>n-y.j) (fun y=>y.j<=n/\y.d.length=n/\y.f.length=n/\forN (imE mv a) (n-y.j) y.j (y.d,y.f,y.c)=some (d',fr',c')) ⟨0,d,fr,c,e5⟩ ⟨BA _,hd,hf,by simpa using hF⟩ rfl (by simp) (by simp) (by simp) ?_);rintro⟨j,d,fr,c,e⟩ ⟨hj,hd,hf,hF⟩;refine AW.ath fun P' hP=>?_;simp only at hj hd hf hF |-;refine AW.sr (by simp[W5];rfl) ?_;refine .seq (AW.if' (decide ((j:Int)<(n:Int))) (by simp) (fun et=>AW.skip ?_) (fun et=>?_));rotate_left
 ·obtain rfl:j=n:=by have:=of_decide_eq_false et;omega
  rw[Nat.sub_self]at hF;obtain h3:=AL (show some (d,fr,c)=some (d',fr',c') from hF);simp only[BB]at h3;obtain⟨rfl,rfl,rfl⟩:=h3;exact .exs (by simp only[Ay,ablk,AX];exact k e hd hf) (by simp) (by simp) (by simp)
 have hlt:j<n:=by have:=BC et;omega
 rw[show n-j=(n-(j+1))+1 by omega]at hF;obtain⟨s',aH,hF⟩:=bd_e (show bd (imE mv a (d,fr,c) j) _=some (d',fr',c') from hF);unfold imE at aH;obtain⟨row,q1,aH⟩:=bd_e aH;obtain⟨m,q2,aH⟩:=bd_e aH;obtain⟨_,q1⟩:=C2 q1;obtain⟨_,q2⟩:=C2 q2;obtain⟨_,ju⟩:=hM a row q1;have cm:Ai mvC row j=mvC m:=Bb q2;have aQ:inr .i64 ((j:Int)+1):=by show _/\_;omega
 simp only[Ay];refine .seq (.block (AW.sr (by simp[W6];rfl) ?_));refine AW.sr (by simp[W7,ha,hlt,ju,cm,mvC];rfl) ?_
 have nxt:∀(d2:List Af) (fr2:List Int) (c2:Int) (e':Nat),d2.length=n->fr2.length=n->forN (imE mv a) (n-(j+1)) (j+1) (d2,fr2,c2)=some (d',fr',c') ->
   AW EE none Tryz.prog (.reg false (Pr 40) []) (Ay P' (ablk 12 Q))
   ⟨tl (bI f n k0 k1 k2++[(10,.int .i64 c2),(11,.int .i64 a),(130,.int .i64 P),(131,.int .i64 p),(133,.int .i64 n),(134,.int .i64 a),(137,.int .i64 n),(138,.int .i64 j)]) 289,hx (mI g n k0 (dO k1 n d2) (fO k2 n fr2) (.gone e3) (.gone e4) (.gone e')) h,[]⟩:=fun d2 fr2 c2 e' h1 h2 h3=>by
  refine AW.r1 (by simp[Pr];exact⟨aQ,rfl⟩) ?_;rw[hP];exact⟨⟨j+1,d2,fr2,c2,e'⟩,⟨by show j+1<=n;omega,h1,h2,h3⟩,by show n-(j+1)<n-j;omega,.spx (by simp) (by simp) (by simp)⟩
 obtain⟨da0,l7⟩:∃v,d[a]?=some v:=⟨_,AF (by omega)⟩;obtain⟨db0,l8⟩:∃v,d[j]?=some v:=⟨_,AF (by omega)⟩;have ca0:Ai Af.cells d a=da0.cells:=Bb l7;have cb0:Ai Af.cells d j=db0.cells:=Bb l8;by_cases bn:a=j
 ·subst bn;rw[AC rfl]at aH;obtain rfl:=AL (show some (d,fr,c)=some s' from aH);refine AW.sd (by simp[LU,ha,hlt,ca0,cb0];refine Co.pure .top (by simp) (fun h=>by cases h) ?_;simp[ha,hlt,ca0,cb0];refine Co.pure .top (by simp) (fun h=>by cases h) ?_;simp;exact⟨by kernel_rfl,rfl⟩) ?_;refine AW.if' false (by simp) (fun h=>by cases h) (fun _=>AW.skip ?_);simp only[Ay,ablk];exact .see (.spx (by simp) (by simp) (by simp)) (nxt d fr c (e+1) hd hf hF)
 have fN:¬(a:Int)=(j:Int):=fun e=>bn (by omega);rw[A9 fN]at aH;by_cases dP:0<=m.1;rotate_left
 ·rw[A9 dP]at aH;obtain rfl:=AL (show some (d,fr,c)=some s' from aH);refine AW.sd (by simp[LU,fN,dP,ha,hlt,ca0,cb0];refine Co.pure .top (by simp) (fun h=>by cases h) ?_;simp[ha,hlt,ca0,cb0];refine Co.pure .top (by simp) (fun h=>by cases h) ?_;simp;exact⟨by kernel_rfl,rfl⟩) ?_;refine AW.if' false (by simp) (fun h=>by cases h) (fun _=>AW.skip ?_);simp only[Ay,ablk];exact .see (.spx (by simp) (by simp) (by simp)) (nxt d fr c (e+1) hd hf hF)
 rw[AC dP]at aH;obtain⟨da,q3,aH⟩:=bd_e (show bd (at? d (a:Int)) _=some s' from aH);obtain⟨ed,q4,aH⟩:=bd_e aH;obtain⟨db,q5,aH⟩:=bd_e aH;obtain⟨q,q6,aH⟩:=bd_e aH;obtain⟨_,q3⟩:=C2 q3;obtain⟨_,q5⟩:=C2 q5;have ca:Ai Af.cells d a=da.cells:=Bb q3;have cb:Ai Af.cells d j=db.cells:=Bb q5;have sA:=hA _ _ _ q4;have sC:=hC _ _ _ q6;refine AW.sd (by simp[LU,fN,dP,ha,hlt,ca,cb];refine Co.pure _ (by simp) (fun _=>sA) ?_;simp[ha,hlt,ca,cb];refine Co.pure _ (by simp) (fun _=>sC) ?_;simp;exact⟨by kernel_rfl,rfl⟩) ?_;refine AW.if' (decide (q<0)) (by simp[fN]) (fun et=>?_) (fun et=>AW.skip ?_);rotate_left
 ·rw[et]at aH;obtain rfl:=AL (show some (d,fr,c)=some s' from aH);simp only[Ay,ablk];exact .see (.spx (by simp) (by simp) (by simp)) (nxt d fr c (e+1) hd hf hF)
 rw[et]at aH;obtain rfl:=AL (show some (d.set j ed,fr.set j (a:Int),(j:Int))=some s' from aH);obtain⟨fj,ox⟩:∃v,fr[j]?=some v:=⟨_,AF (by omega)⟩;have cf:Ai iC fr j=iC fj:=Bb ox;have f1:(fun k:Nat=>if k=j then ed.cells else Ai Af.cells d k)=Ai Af.cells (d.set j ed):=Ed (by omega) rfl;have f2:(fun k:Nat=>if k=j then [Aa.int .i64 a] else Ai iC fr k)=Ai iC (fr.set j (a:Int)):=Ed (by omega) rfl;simp only[Af.cells]at f1;refine AW.d1 (by simp[W8,ha,hlt,ca,cb,cf,iC];refine Bi.pure _ sA ?_;simp[ha,hlt,ca,cb,cf,iC,f1,f2];exact⟨by kernel_rfl,rfl⟩) ?_;simp only[Ay,ablk];refine .see (.spx (by simp) (by simp) (by simp)) (nxt (d.set j ed) (fr.set j (a:Int)) j (e+1) (by simp[hd]) (by simp[hf]) hF)
structure YF where
 j:Nat
 d:List Af
 f:List Int
 c:Int
 e:Nat
theorem be_a(hA:∀(a b r:Af),Ct a b=some r->AK EE Tryz.prog 31 [.agg a.cells,.agg b.cells] (.agg r.cells))(hC:∀(a b:Af) (r:Int),Fq a b=some r->AK EE Tryz.prog 23 [.agg a.cells,.agg b.cells] (.int .i64 r))    (hM:MVg n mv g) {P p:Int}    (hd:d.length=n) (hf:fr.length=n) (bT:n<=1000000)(hF:JU mv n d fr=some (d',fr',c'))  (k:∀e5',d'.length=n->fr'.length=n->Q .normal ⟨tl (bI f n k0 k1 k2++[(10,.int .i64 c'),(130,.int .i64 P),(131,.int .i64 p)]) 289,hx (mI g n k0 (dO k1 n d') (fO k2 n fr') (.gone e3) (.gone e4) (.gone e5')) h,[]⟩) :
  AW EE none Tryz.prog (.block 10 (.loop (W9 40))) Q ⟨tl (bI f n k0 k1 k2++[(10,.int .i64 (-1)),(130,.int .i64 P),(131,.int .i64 p),(133,.int .i64 n),(134,.int .i64 0)]) 289,hx (mI g n k0 (dO k1 n d) (fO k2 n fr) (.gone e3) (.gone e4) (.gone e5)) h,[]⟩:=by
 refine .block (AW.lph (fun y:YF=>bI f n k0 k1 k2++[(10,.int .i64 y.c),(130,.int .i64 P),(131,.int .i64 p),(133,.int .i64 n),(134,.int .i64 y.j)]) (fun y=>mI g n k0 (dO k1 n y.d) (fO k2 n y.f) (.gone e3) (.gone e4) (.gone y.e)) (fun _=>h) (fun y=>n-y.j) (fun y=>y.j<=n/\y.d.length=n/\y.f.length=n/\forN (fun s a=>forN (imE mv a) n 0 s) (n-y.j) y.j (y.d,y.f,y.c)=some (d',fr',c')) ⟨0,d,fr,-1,e5⟩ ⟨BA _,hd,hf,by simpa [JU] using hF⟩ rfl (by simp) (by simp) (by simp) ?_);rintro⟨j,d,fr,c,e⟩ ⟨hj,hd,hf,hF⟩;simp only at hj hd hf hF |-;refine AW.sr (by simp[WA];rfl) ?_;refine .seq (AW.if' (decide ((j:Int)<(n:Int))) (by simp) (fun et=>AW.skip ?_) (fun et=>?_));rotate_left
 ·obtain rfl:j=n:=by have:=of_decide_eq_false et;omega
  rw[Nat.sub_self]at hF;obtain h3:=AL (show some (d,fr,c)=some (d',fr',c') from hF);simp only[BB]at h3;obtain⟨rfl,rfl,rfl⟩:=h3;exact .exs (by simp only[Ay,ablk,AX];exact k e hd hf) (by simp) (by simp) (by simp)
 have hlt:j<n:=by have:=BC et;omega
 rw[show n-j=(n-(j+1))+1 by omega]at hF;obtain⟨⟨d2,f2,c2⟩,aH,hF⟩:=bd_e (show bd (forN (imE mv j) n 0 (d,fr,c)) _=some (d',fr',c') from hF);have aQ:inr .i64 ((j:Int)+1):=by show _/\_;omega
 simp only[Ay];refine .seq (.block (AW.sr (by simp[WB];rfl) ?_));refine AW.sr (by simp[WC];rfl) ?_;refine .see (.spx (m':=bI f n k0 k1 k2++[(10,.int .i64 c),(11,.int .i64 j),(130,.int .i64 P),(131,.int .i64 p),(133,.int .i64 n),(134,.int .i64 j),(137,.int .i64 n),(138,.int .i64 0)]) (hm':=mI g n k0 (dO k1 n d) (fO k2 n fr) (.gone e3) (.gone e4) (.gone e)) (by simp) (by simp) (by simp)) ?_;refine be_b hA hC hM hlt hd hf bT aH fun e5' h1 h2=>?_;refine AW.r1 (by simp[WD];exact⟨aQ,rfl⟩) ?_;exact⟨⟨j+1,d2,f2,c2,e5'⟩,⟨by show j+1<=n;omega,h1,h2,hF⟩,by show n-(j+1)<n-j;omega,.spx (by simp) (by simp) (by simp)⟩
theorem be_p(hA:∀(a b r:Af),Ct a b=some r->AK EE Tryz.prog 31 [.agg a.cells,.agg b.cells] (.agg r.cells))(hC:∀(a b:Af) (r:Int),Fq a b=some r->AK EE Tryz.prog 23 [.agg a.cells,.agg b.cells] (.int .i64 r))    (hM:MVg n mv g)  (hK:K<=1000001)   {c:Int} (hd:d.length=n) (hf:fr.length=n) (bT:n<=1000000) {o:Option (List Int×Int)}(hF:imPs mv n K d fr c=some o)  (k0x:o=none->∀d' fr' e5',Q (.exit 0) ⟨tl (bI f n k0 k1 k2) 289,hx (mI g n k0 (dO k1 n d') (fO k2 n fr') (.gone e3) (.gone e4) (.gone e5')) h,[]⟩)(k:∀d' fr' c' e5',o=some (fr',c')->d'.length=n->fr'.length=n->Q .normal ⟨tl (bI f n k0 k1 k2++[(10,.int .i64 c')]) 289,hx (mI g n k0 (dO k1 n d') (fO k2 n fr') (.gone e3) (.gone e4) (.gone e5')) h,[]⟩) :
  AW EE none Tryz.prog (.block 8 (.loop (WE 40))) Q ⟨tl (bI f n k0 k1 k2++[(10,.int .i64 c),(130,.int .i64 K),(131,.int .i64 0)]) 289,hx (mI g n k0 (dO k1 n d) (fO k2 n fr) (.gone e3) (.gone e4) (.gone e5)) h,[]⟩:=by
 refine .block (AW.lph (fun y:YF=>bI f n k0 k1 k2++[(10,.int .i64 y.c),(130,.int .i64 K),(131,.int .i64 y.j)]) (fun y=>mI g n k0 (dO k1 n y.d) (fO k2 n y.f) (.gone e3) (.gone e4) (.gone y.e)) (fun _=>h) (fun y=>K-y.j) (fun y=>y.j<=K/\y.d.length=n/\y.f.length=n/\imPs mv n (K-y.j) y.d y.f y.c=some o) ⟨0,d,fr,c,e5⟩ ⟨BA _,hd,hf,by simpa using hF⟩ rfl (by simp) (by simp) (by simp) ?_);rintro⟨j,d,fr,c,e⟩ ⟨hj,hd,hf,hF⟩;simp only at hj hd hf hF |-;refine AW.sr (by simp[WF];rfl) ?_;refine .seq (AW.if' (decide ((j:Int)<(K:Int))) (by simp) (fun et=>AW.skip ?_) (fun et=>?_));rotate_left
 ·obtain rfl:j=K:=by have:=of_decide_eq_false et;omega
  rw[Nat.sub_self]at hF;obtain rfl:=AL (show some (some (fr,c))=some o from hF);exact .exs (by simp only[Ay,ablk,AX];exact k d fr c e rfl hd hf) (by simp) (by simp) (by simp)
 have hlt:j<K:=by have:=BC et;omega
 rw[show K-j=(K-(j+1))+1 by omega]at hF;obtain⟨⟨d2,f2,c2⟩,aH,hF⟩:=bd_e (show bd (JU mv n d fr) _=some o from hF);obtain⟨t1,t2⟩:=Br hF;have aQ:inr .i64 ((j:Int)+1):=by show _/\_;omega
 simp only[Ay];refine .seq (.block (AW.sr (by simp[WG];rfl) ?_));refine .seq (AW.sr (by simp[WH];rfl) ?_);refine .see (.spx (m':=bI f n k0 k1 k2++[(10,.int .i64 (-1)),(130,.int .i64 K),(131,.int .i64 j),(133,.int .i64 n),(134,.int .i64 0)]) (hm':=mI g n k0 (dO k1 n d) (fO k2 n fr) (.gone e3) (.gone e4) (.gone e)) (by simp) (by simp) (by simp)) ?_;refine be_a hA hC hM hd hf bT aH fun e5' h1 h2=>?_;simp only[Ay];refine AW.sr (by simp[WI];rfl) ?_;refine AW.if' (decide (c2<0)) (by simp) (fun et=>?_) (fun et=>AW.skip ?_)
 ·obtain rfl:=AL (t1 et);exact .exs (by simp only[Ay,ablk];exact k0x rfl d2 f2 e5') (by simp) (by simp) (by simp)
 ·simp only[Ay,ablk];refine AW.r1 (by simp[WJ];exact⟨aQ,rfl⟩) ?_;exact⟨⟨j+1,d2,f2,c2,e5'⟩,⟨by show j+1<=K;omega,h1,h2,t2 et⟩,by show K-(j+1)<K-j;omega,.spx (by simp) (by simp) (by simp)⟩
end
end
section
theorem JV{σ ω:Type}{body:σ->Option (σ⊕ω)}{s:σ}{r:ω}(h:lpN body n s=some r):∃k,n=k+1/\((∃s',body s=some (.inl s')/\lpN body k s'=some r)\/body s=some (.inr r)):=by
 cases n with
 |zero=>cases h
 |succ k =>
  refine⟨k,rfl,?_⟩;unfold lpN at h;split at h
  ·rename_i s' e;exact .inl ⟨s',e,h⟩
  ·rename_i o e;cases h;exact .inr e
  ·cases h
theorem at_n{l:List α}{k:Int}{r:α}(h:at? l k=some r):∃u:Nat,k=(u:Int)/\u<l.length/\l[u]?=some r:=by obtain⟨h1,h2,h3⟩:=In h;exact⟨k.toNat,by omega,by omega,h3⟩
structure YC where
 j:Nat
 a:Int
structure YM where
 N:Nat
 b:Int
 u:Bool
 m:Int
structure YP where
 N:Nat
 b:Int
 u:Bool
 x:List (List Int)
 h:Aq
section
attribute [local simp] BV Gm BG BW BX BY yza subm subh Ci pick Bx
attribute [local simp] lkx Dk Cz subx bI mI C3 C6 dO fO
theorem wzw1{c:Int}(hf:fr.length=n)(bT:n<=1000000)(hF:forN (fun(at0:Int) (_:Nat)=>at? fr at0) n 0 c=some c')  (k:Q .normal ⟨tl (bI f n k0 k1 k2++[(14,.int .i64 c')]) 289,hx (mI g n k0 o1 (fO k2 n fr) (.gone e3) (.gone e4) (.gone e5)) h,[]⟩) :
  AW EE none Tryz.prog (.block 14 (.loop (WK 40))) Q ⟨tl (bI f n k0 k1 k2++[(14,.int .i64 c),(192,.int .i64 n),(193,.int .i64 0)]) 289,hx (mI g n k0 o1 (fO k2 n fr) (.gone e3) (.gone e4) (.gone e5)) h,[]⟩:=by
 refine .block (AW.lph (fun y:YC=>bI f n k0 k1 k2++[(14,.int .i64 y.a),(192,.int .i64 n),(193,.int .i64 y.j)]) (fun y=>mI g n k0 o1 (fO k2 n fr) (.gone e3) (.gone e4) (.gone e5)) (fun _=>h) (fun y=>n-y.j) (fun y=>y.j<=n/\forN (fun(at0:Int) (_:Nat)=>at? fr at0) (n-y.j) y.j y.a=some c') ⟨0,c⟩ ⟨BA _,by simpa using hF⟩ rfl (by simp) (by simp) (by simp) ?_);rintro⟨j,a⟩ ⟨hj,hF⟩;simp only at hj hF |-;refine AW.sr (by simp[WL];rfl) ?_;refine .seq (AW.if' (decide ((j:Int)<(n:Int))) (by simp) (fun et=>AW.skip ?_) (fun et=>?_));rotate_left
 ·obtain rfl:j=n:=by have:=of_decide_eq_false et;omega
  rw[Nat.sub_self]at hF;obtain rfl:=AL (show some a=some c' from hF);exact .exs (by simp only[Ay,ablk,AX];exact k) (by simp) (by simp) (by simp)
 have hlt:j<n:=by have:=BC et;omega
 rw[show n-j=(n-(j+1))+1 by omega]at hF;obtain⟨a2,jf,bJ⟩:=bd_e (show bd (at? fr a) _=some c' from hF);obtain⟨u,rfl,hu,q⟩:=at_n jf;rw[hf]at hu;have cf:Ai iC fr u=iC a2:=Bb q;have aQ:inr .i64 ((j:Int)+1):=by show _/\_;omega
 simp only[Ay];refine .seq (.block (AW.r1 (by simp[WM,hu,cf,iC];rfl) ?_));simp only[Ay,ablk];refine AW.r1 (by simp[WN];exact⟨aQ,rfl⟩) ?_;exact⟨⟨j+1,a2⟩,⟨by show j+1<=n;omega,bJ⟩,by show n-(j+1)<n-j;omega,.spx (by simp) (by simp) (by simp)⟩
theorem WP{b:Int}{p:Int×Int}(h:imG mv fr b=some p):∃(ub ua:Nat) (row:List (Int×Af)) (m:Int×Af),b=ub/\p=((ua:Int),m.1)/\ub<fr.length/\ua<mv.length/\fr[ub]?=some (ua:Int)/\mv[ua]?=some row/\row[ub]?=some m:=by unfold imG at h;obtain⟨a,h1,h⟩:=bd_e h;obtain⟨row,h2,h⟩:=bd_e h;obtain⟨m,h3,h⟩:=bd_e h;obtain rfl:=AL h;obtain⟨ub,rfl,a1,a2⟩:=at_n h1;obtain⟨ua,rfl,b1,b2⟩:=at_n h2;obtain⟨_,c2⟩:=C2 h3;exact⟨ub,ua,row,m,rfl,rfl,a1,b1,a2,b2,c2⟩
theorem wzof(hT:TkV f cl co er n S)(bS:x.length=S)(bA:∀c∈x,c.length=n) (hX:RX er x h)     (hM:MVg n mv g) (iJ:mv.length=n)  (hf:fr.length=n) {r:Int}(hF:lp (Ee mv x fr at0) (at0,false,1402560)=some r) (k:Q .normal ⟨tl (bI f n k0 k1 k2++[(14,.int .i64 at0),(15,.int .i64 r)]) 289,hx (mI g n k0 o1 (fO k2 n fr) (.gone e3) (.gone e4) (.gone e5)) h,[]⟩) :
  AW EE none Tryz.prog (.block 16 (.loop (WQ 40))) Q ⟨tl (bI f n k0 k1 k2++[(14,.int .i64 at0),(15,.int .i64 1402560),(16,.int .i64 at0),(17,.bool false)]) 289,hx (mI g n k0 o1 (fO k2 n fr) (.gone e3) (.gone e4) (.gone e5)) h,[]⟩:=by
 unfold lp at hF;generalize 4611686018427387904=N0 at hF;refine .block (AW.lph (fun y:YM=>bI f n k0 k1 k2++[(14,.int .i64 at0),(15,.int .i64 y.m),(16,.int .i64 y.b),(17,.bool y.u)]) (fun y=>mI g n k0 o1 (fO k2 n fr) (.gone e3) (.gone e4) (.gone e5)) (fun _=>h) (fun y=>y.N) (fun y=>lpN (Ee mv x fr at0) y.N (y.b,y.u,y.m)=some r) ⟨N0,at0,false,1402560⟩ hF rfl (by simp) (by simp) (by simp) ?_);rintro⟨N,b,u,m⟩ hF;simp only at hF |-;obtain⟨N',hN,hL⟩:=JV hF;clear hF;subst hN;have hF:=hL;clear hL;obtain⟨cnd,hc⟩:∃cnd,cnd=(bif !u then true else !decide (b=at0)):=⟨_,rfl⟩;refine .seq (?_:AW EE none Tryz.prog (.seq (.reg false (JW 40) []) (.cond (.t 207) (.skip) (.exit 16))) _ _)
 have fb:∀Q',AW EE none Tryz.prog (.cond (.t 207) (.skip) (.exit 16)) Q' ⟨tl (bI f n k0 k1 k2++[(14,.int .i64 at0),(15,.int .i64 m),(16,.int .i64 b),(17,.bool u),(207,.bool cnd)]) 289,hx (mI g n k0 o1 (fO k2 n fr) (.gone e3) (.gone e4) (.gone e5)) h,[]⟩ ->
   AW EE none Tryz.prog (.seq (.reg false (JW 40) []) (.cond (.t 207) (.skip) (.exit 16))) Q' ⟨tl (bI f n k0 k1 k2++[(14,.int .i64 at0),(15,.int .i64 m),(16,.int .i64 b),(17,.bool u)]) 289,hx (mI g n k0 o1 (fO k2 n fr) (.gone e3) (.gone e4) (.gone e5)) h,[]⟩:=fun Q' hQ=>by
  cases u
  ·refine AW.sr (by simp[JW];rfl) ?_;exact .see (.spx (by simp[hc]) (by simp) (by simp)) hQ
  ·refine AW.sr (by simp[JW];rfl) ?_;exact .see (.spx (by simp[hc]) (by simp) (by simp)) hQ
 refine fb _ ?_;refine AW.if' cnd (by simp) (fun e=>AW.skip ?_) (fun e=>?_);rotate_left
 ·rcases hF with ⟨s',aH,hF⟩|hF;·have:=(Br (show ite' (bif !u then true else !decide (b=at0)) _ _=_ from aH)).2 (hc▸e);cases this
  ·have:=(Br (show ite' (bif !u then true else !decide (b=at0)) _ _=_ from hF)).2 (hc▸e);cases this;exact .exs (by simp only[Ay,ablk,AX];exact k) (by simp) (by simp) (by simp)
 obtain⟨s',aH,hF⟩:∃s',Ee mv x fr at0 (b,u,m)=some (.inl s')/\lpN (Ee mv x fr at0) N' s'=some r:=by
  rcases hF with h|hF
  ·exact h
  ·exfalso;have:=(Br (show ite' (bif !u then true else !decide (b=at0)) _ _=_ from hF)).1 (hc▸e);obtain⟨_,_,this⟩:=bd_e this;obtain⟨_,_,this⟩:=bd_e this;obtain⟨_,_,this⟩:=bd_e this;cases this
 have aH:=(Br (show ite' (bif !u then true else !decide (b=at0)) _ _=_ from aH)).1 (hc▸e);obtain⟨p,q1,aH⟩:=bd_e aH;obtain⟨xs,q2,aH⟩:=bd_e aH;obtain⟨xa,q3,aH⟩:=bd_e aH;cases aH;obtain⟨ub,ua,row,mm,rfl,rfl,z1,z2,z3,z4,z5⟩:=WP q1;obtain⟨us,l9,z6,z7⟩:=at_n q2;obtain⟨_,z8⟩:=C2 q3;rw[hf]at z1;rw[iJ]at z2;rw[bS]at z6;obtain⟨_,ju⟩:=hM ua row z4;have cf:Ai iC fr ub=iC (ua:Int):=Bb z3;have cm:Ai mvC row ub=mvC mm:=Bb z5;have c7:xs.length=n:=bA _ (AG z7);have ey:h (rwx us)=.vec (er us) 1 n (Ai iC xs):=(hX us xs z7).trans (by unfold rowO;rw[c7]);have cx:Ai iC xs ua=iC xa:=Bb z8;have gW:mm.1=(us:Int):=l9;simp only[Ay];refine .seq (.block (AW.d1 (by simp[WR,hT.f7,z1,z2,z6,cf,iC,ju,cm,mvC,gW,ey,cx];exact⟨by kernel_rfl,rfl⟩) ?_));simp only[Ay,ablk];refine AW.r1 (by simp[WS,z1,cf,iC];rfl) ?_;exact⟨⟨N',(ua:Int),true,min m xa⟩,hF,by show N'<N'+1;omega,.spx (by simp) (by simp) (by simp)⟩
end
theorem wzu8{m:List (Nat×Ad)}(hm:m.all (fun p=>Nat.blt p.1 100)=true):hset (hx m h) (rwx s) o=hx m (hset h (rwx s) o):=by
 funext j;by_cases e:j=rwx s
 ·subst e;have h1:hx m (hset h (rwx s) o) (rwx s)=hset h (rwx s) o (rwx s):=LK hm (by unfold rwx;omega);rw[h1];simp[hset]
 ·show(if j=rwx s then o else lkx m h j)=lkx m (hset h (rwx s) o) j;rw[Ag e];clear hm;induction m with
  |nil=>show h j=(if j=rwx s then o else h j);rw[Ag e]
  |cons p m ih=>simp only[lkx,ih]
theorem Dn:hset h i o i=o:=Aj rfl
theorem BH(e:j≠i):hset h i o j=h j:=Ag e
section
attribute [local simp] BV Gm BG BW BX BY yza subm subh Ci pick Bx
attribute [local simp] lkx Pp Cz subx bI mI C3 C6 dO fO
attribute [local simp] wzu8
attribute [local simp] Dn
theorem wzry(hT:TkV f cl co er n S)(bS:x.length=S)(bA:∀c∈x,c.length=n) (hX:RX er x h)     (hM:MVg n mv g) (iJ:mv.length=n)  (hf:fr.length=n) {most:Int} (hF:lp (Ef mv fr at0 most) (at0,false,x)=some y) (k:∀h',y.length=S->(∀c∈y,c.length=n)->RX er y h'->(∀i,(∀s,i≠rwx s)->h' i=h i)->Q .normal ⟨tl (bI f n k0 k1 k2) 289,hx (mI g n k0 o1 (fO k2 n fr) (.gone e3) (.gone e4) (.gone e5)) h',[]⟩) :
  AW EE none Tryz.prog (.block 18 (.loop (WT 40))) Q ⟨tl (bI f n k0 k1 k2++[(14,.int .i64 at0),(15,.int .i64 most),(18,.int .i64 at0),(19,.bool false)]) 289,hx (mI g n k0 o1 (fO k2 n fr) (.gone e3) (.gone e4) (.gone e5)) h,[]⟩:=by
 unfold lp at hF;generalize 4611686018427387904=N0 at hF;refine .block (AW.lph (fun z:YP=>bI f n k0 k1 k2++[(14,.int .i64 at0),(15,.int .i64 most),(18,.int .i64 z.b),(19,.bool z.u)]) (fun z=>mI g n k0 o1 (fO k2 n fr) (.gone e3) (.gone e4) (.gone e5)) (fun z=>z.h) (fun z=>z.N) (fun z=>z.x.length=S/\(∀c∈z.x,c.length=n)/\RX er z.x z.h/\(∀i,(∀s,i≠rwx s)->z.h i=h i)/\lpN (Ef mv fr at0 most) z.N (z.b,z.u,z.x)=some y) ⟨N0,at0,false,x,h⟩ ⟨bS,bA,hX,fun _ _=>rfl,hF⟩ rfl (by simp) (by simp) (by simp) ?_);rintro⟨N,b,u,x,h2⟩ ⟨bS,bA,hX,dr,hF⟩;simp only at bS bA hX dr hF |-;obtain⟨N',hN,hL⟩:=JV hF;clear hF;subst hN;have hF:=hL;clear hL;obtain⟨cnd,hc⟩:∃cnd,cnd=(bif !u then true else !decide (b=at0)):=⟨_,rfl⟩;refine .seq (?_:AW EE none Tryz.prog (.seq (.reg false (JX 40) []) (.cond (.t 244) (.skip) (.exit 18))) _ _)
 have fb:∀Q',AW EE none Tryz.prog (.cond (.t 244) (.skip) (.exit 18)) Q' ⟨tl (bI f n k0 k1 k2++[(14,.int .i64 at0),(15,.int .i64 most),(18,.int .i64 b),(19,.bool u),(244,.bool cnd)]) 289,hx (mI g n k0 o1 (fO k2 n fr) (.gone e3) (.gone e4) (.gone e5)) h2,[]⟩ ->
   AW EE none Tryz.prog (.seq (.reg false (JX 40) []) (.cond (.t 244) (.skip) (.exit 18))) Q' ⟨tl (bI f n k0 k1 k2++[(14,.int .i64 at0),(15,.int .i64 most),(18,.int .i64 b),(19,.bool u)]) 289,hx (mI g n k0 o1 (fO k2 n fr) (.gone e3) (.gone e4) (.gone e5)) h2,[]⟩:=fun Q' hQ=>by
  cases u
  ·refine AW.sr (by simp[JX];rfl) ?_;exact .see (.spx (by simp[hc]) (by simp) (by simp)) hQ
  ·refine AW.sr (by simp[JX];rfl) ?_;exact .see (.spx (by simp[hc]) (by simp) (by simp)) hQ
 refine fb _ ?_;refine AW.if' cnd (by simp) (fun e=>AW.skip ?_) (fun e=>?_);rotate_left
 ·rcases hF with ⟨s',aH,hF⟩|hF;·have:=(Br (show ite' (bif !u then true else !decide (b=at0)) _ _=_ from aH)).2 (hc▸e);cases this
  ·have:=(Br (show ite' (bif !u then true else !decide (b=at0)) _ _=_ from hF)).2 (hc▸e);cases this;exact .exs (by simp only[Ay,ablk,AX];exact k h2 bS bA hX dr) (by simp) (by simp) (by simp)
 obtain⟨s',aH,hF⟩:∃s',Ef mv fr at0 most (b,u,x)=some (.inl s')/\lpN (Ef mv fr at0 most) N' s'=some y:=by
  rcases hF with h|hF
  ·exact h
  ·exfalso;have:=(Br (show ite' (bif !u then true else !decide (b=at0)) _ _=_ from hF)).1 (hc▸e);obtain⟨_,_,this⟩:=bd_e this;obtain⟨_,_,this⟩:=bd_e this;obtain⟨_,_,this⟩:=bd_e this;obtain⟨_,this⟩:=ck_e this;obtain⟨_,_,this⟩:=bd_e this;obtain⟨_,this⟩:=ck_e this;cases this
 have aH:=(Br (show ite' (bif !u then true else !decide (b=at0)) _ _=_ from aH)).1 (hc▸e);obtain⟨p,q1,aH⟩:=bd_e aH;obtain⟨xs,q2,aH⟩:=bd_e aH;obtain⟨xa,q3,aH⟩:=bd_e aH;obtain⟨i1,aH⟩:=ck_e aH;obtain⟨xb,q4,aH⟩:=bd_e aH;obtain⟨i2,aH⟩:=ck_e aH;cases aH;obtain⟨ub,ua,row,mm,rfl,rfl,z1,z2,z3,z4,z5⟩:=WP q1;obtain⟨us,l9,z6,z7⟩:=at_n q2;obtain⟨_,z8⟩:=C2 q3;obtain⟨_,z9⟩:=C2 q4;rw[hf]at z1;rw[iJ]at z2;rw[bS]at z6;obtain⟨_,ju⟩:=hM ua row z4;have cf:Ai iC fr ub=iC (ua:Int):=Bb z3;have cm:Ai mvC row ub=mvC mm:=Bb z5;have c7:xs.length=n:=bA _ (AG z7);have ey:h2 (rwx us)=.vec (er us) 1 n (Ai iC xs):=(hX us xs z7).trans (by unfold rowO;rw[c7]);have cx:Ai iC xs ua=iC xa:=Bb z8;simp only[B4]at z9 hF;have cx2:Ai iC (xs.set ua (xa-most)) ub=iC xb:=Bb z9;have gW:mm.1=(us:Int):=l9;rw[show mm.1.toNat=us by omega]at hF;have f1:(fun k:Nat=>if k=ua then [Aa.int .i64 (xa-most)] else Ai iC xs k)=Ai iC (xs.set ua (xa-most)):=Ed (by omega) rfl;have f2:(fun k:Nat=>if k=ub then [Aa.int .i64 (xb+most)] else Ai iC (xs.set ua (xa-most)) k)=Ai iC ((xs.set ua (xa-most)).set ub (xb+most)):=Ed (by simp;omega) rfl;have j1:inr .i64 (xa-most):=by simp[As]at i1;exact i1
 have j2:inr .i64 (xb+most):=by simp[As]at i2;exact i2
 simp only[Ay];refine .seq (.block (AW.sr (by simp[WU,z1,z2,cf,iC,ju,cm,mvC,gW];rfl) ?_));refine AW.sd (by simp[WV,hT.f7,z1,z2,z6,cf,iC,ey,cx,j1,f1];exact⟨by kernel_rfl,rfl⟩) ?_;refine AW.r1 (by simp[WW,hT.f7,z1,z2,z6,iC,cx2,j2,f2];rfl) ?_;simp only[Ay,ablk];refine AW.r1 (by simp[WX,z1,cf,iC];rfl) ?_;refine⟨⟨N',(ua:Int),true,x.set us ((xs.set ua (xa-most)).set ub (xb+most)),hset (hset h2 (rwx us) (.vec (er us) 1 n (Ai iC (xs.set ua (xa-most))))) (rwx us) (.vec (er us) 1 n (Ai iC ((xs.set ua (xa-most)).set ub (xb+most))))⟩,⟨by simp[bS],fun c hc=>?_,fun s r hr=>?_,fun i hi=>?_,hF⟩,by show N'<N'+1;omega,.spx (by simp) (by simp) (by simp)⟩
 ·rcases List.mem_or_eq_of_mem_set hc with h|rfl;·exact bA _ h
  ·simp[c7]
 ·rw[DP]at hr;by_cases es:us=s
  ·subst es;rw[Aj rfl,Aj (by omega)]at hr;obtain rfl:=AL hr;simp[rowO,Dn,c7]
  ·rw[Ag es]at hr;show hset (hset h2 (rwx us) _) (rwx us) _ (rwx s)=_;rw[BH (fun e=>es (by rw[LR]at e;exact e.symm)),BH (fun e=>es (by rw[LR]at e;exact e.symm))];exact hX s r hr
 ·show hset (hset h2 (rwx us) _) (rwx us) _ i=_;rw[BH (hi us),BH (hi us)];exact dr i hi
end
end
section
structure YR where
 N:Nat
 x:List (List Int)
 f:List Int
 d:List Af
 g:Nat->List Aa
 h:Aq
 e3:Nat
 e4:Nat
 e5:Nat
section
attribute [local simp] BV Gm BG BW BX BY yza subm subh Ci pick Bx
attribute [local simp] lkx Dk Cz subx bI mI C3 C6 dO fO
def zR:Af:=⟨false,[],[]⟩
theorem wzg2(hS:∀(a b r:Af),Dm a b=some r->AK EE Tryz.prog 111 [.agg a.cells,.agg b.cells] (.agg r.cells))(hA:∀(a b r:Af),Ct a b=some r->AK EE Tryz.prog 31 [.agg a.cells,.agg b.cells] (.agg r.cells))(hC:∀(a b:Af) (r:Int),Fq a b=some r->AK EE Tryz.prog 23 [.agg a.cells,.agg b.cells] (.int .i64 r))     (hT:TkV f cl co er n S)  (bS:x.length=S) (gV:co.length=S) (cN:∀c∈co,c.length=n) (bA:∀c∈x,c.length=n) (hX:RX er x H) (hg:∀i,40<=i->i<46->∃e,H i=.gone e) (eu:S<=1000000) (bT:n<=1000000)  (hF:F8 co x n=some y) :
  ATr EE Tryz.prog 95 [.cptr f 8 0] H (fun v h'=>v=.tup []/\y.length=S/\(∀c∈y,c.length=n)/\RX er y h'/\(∀i,40<=i->i<46->∃e,h' i=.gone e)/\∀i,(i<40\/46<=i)->(∀s,i≠rwx s)->h' i=H i):=by
 obtain⟨cd,hb,bY⟩:=ck95;obtain⟨e0,g0⟩:=hg 40 (by omega) (by omega);obtain⟨e1,g1⟩:=hg 41 (by omega) (by omega);obtain⟨e2,g2⟩:=hg 42 (by omega) (by omega);obtain⟨e3,g3⟩:=hg 43 (by omega) (by omega);obtain⟨e4,g4⟩:=hg 44 (by omega) (by omega);obtain⟨e5,g5⟩:=hg 45 (by omega) (by omega);refine ATr.of (fn:=Tryz.f95) rfl hb cr95 (bY 40) 288 rfl ?_;rw[show([Aa.cptr f 8 0]++List.replicate 288 .top)=tl [(0,.cptr f 8 0)] 289 from Ib [_] 288];change AW EE none _ _ _ ⟨_,hx [] H,[]⟩;refine .see (.spx (m':=[(0,.cptr f 8 0)]) (hm':=[(40,.gone e0),(41,.gone e1),(42,.gone e2),(43,.gone e3),(44,.gone e4),(45,.gone e5)]) (by simp) (by simp[g0,g1,g2,g3,g4,g5]) (by simp)) ?_;have lA:(n:Int)*24<=140737488355328:=by omega
 have lB:(n:Int)*40<=140737488355328:=by omega
 have lC:(n:Int)*8<=140737488355328:=by omega
 refine .scope (AW.sr (by simp[WY,hT.f5];rfl) ?_);refine AW.sr (by simp[WZ,lA];rfl) ?_;refine AW.sd (by simp[Xa,lB,lC];exact⟨by kernel_rfl,rfl⟩) ?_;refine .seq (.label ?_);simp only[Ay];unfold F8 lpB at hF;generalize bigF=N0 at hF;refine .block (AW.lph (fun z:YR=>bI f n (e0+1) (e1+1) (e2+1)) (fun z=>mI z.g n (e0+1) (dO (e1+1) n z.d) (fO (e2+1) n z.f) (.gone z.e3) (.gone z.e4) (.gone z.e5)) (fun z=>z.h) (fun z=>z.N) (fun z=>z.x.length=S/\(∀c∈z.x,c.length=n)/\RX er z.x z.h/\(∀i,(∀s,i≠rwx s)->z.h i=H i)/\z.f.length=n/\z.d.length=n/\(∀k,k<n->(z.g k).tail=[])/\lpN (GE co n) z.N (z.x,z.f)=some y) ⟨N0,x,List.replicate n 0,List.replicate n zR,fun _=>[.nils],H,e3,e4,e5⟩ ⟨bS,bA,hX,fun _ _=>rfl,by simp,by simp,fun _ _=>rfl,hF⟩ rfl (by simp) ?_ (by simp) ?_)
 ·simp;exact⟨fun k hk=>(F7 hk),fun k hk=>(F7 hk)⟩
 rintro⟨N,x,fr,d,g,h,e3,e4,e5⟩ ⟨bS,bA,hX,dr,hf,hd,fL,hF⟩;simp only at bS bA hX dr hf hd fL hF |-;obtain⟨N',hN,hL⟩:=JV hF;clear hF;subst hN;have hF:=hL;clear hL
 obtain⟨mv,p1,cJ⟩:∃mv,imMv co x n=some mv/\∃o,imPs mv n (n+1) (List.replicate n (Af.mk false [] [])) fr (-1)=some o:=by
  rcases hF with ⟨s',h1,_⟩|h1
  ·obtain⟨mv,q1,h1⟩:=bd_e (show bd (imMv co x n) _=_ from h1);obtain⟨o,q2,h1⟩:=bd_e h1;exact⟨mv,q1,o,q2⟩
  ·obtain⟨mv,q1,h1⟩:=bd_e (show bd (imMv co x n) _=_ from h1);obtain⟨o,q2,h1⟩:=bd_e h1;exact⟨mv,q1,o,q2⟩
 obtain⟨o,p2⟩:=cJ
 have gX:GE co n (x,fr)=(match (generalizing:=false) o with
  |none=>some (.inr x)
  |some (f,c)=>bd (forN (fun(at0:Int) (_:Nat)=>at? f at0) n 0 c) fun at0 =>
   bd (lp (Ee mv x f at0) (at0,false,1402560)) fun most=>bd (lp (Ef mv f at0 most) (at0,false,x)) fun x=>some (.inl (x,f))):=by
  show bd (imMv co x n) _=_;rw[p1];show bd (imPs mv n (n+1) _ fr (-1)) _=_;rw[p2];rfl
 rw[gX]at hF;refine .block (.seq (.seq (AW.r1 (by simp[Xb];rfl) ?_)));refine .see (.spx (m':=bI f n (e0+1) (e1+1) (e2+1)++[(32,.int .i64 n),(33,.int .i64 0)]) (hm':=mI g n (e0+1) (dO (e1+1) n d) (fO (e2+1) n fr) (.gone e3) (.gone e4) (.gone e5)) (by simp) (by simp) (by simp)) ?_;refine im_a hS hC hT bS gV cN bA hX p1 eu bT fL fun g' e3' e4' iJ hM lD=>?_;simp only[Ay];refine AW.sr (by simp[Xc,HI];rfl) ?_;refine AW.sr (by simp[Xd];rfl) ?_;refine .seq (.seq (AW.r1 (by simp[Xe];exact⟨(by show _/\_;omega),rfl⟩) ?_));refine .see (.spx (m':=bI f n (e0+1) (e1+1) (e2+1)++[(10,.int .i64 (-1)),(130,.int .i64 ((n+1:Nat):Int)),(131,.int .i64 0)]) (hm':=mI g' n (e0+1) (dO (e1+1) n (List.replicate n zR)) (fO (e2+1) n fr) (.gone e3') (.gone e4') (.gone e5)) (by simp) ?_ (by simp)) ?_
 ·simp;intro k hk;rw[F7 hk];simp[hk,zR]
 refine be_p hA hC hM (by omega) (by simp) hf bT p2 (fun ho d' fr' e5'=>?_) (fun d' fr' c' e5' ho ii ga=>?_)
 ·subst ho;rcases hF with ⟨s',h1,_⟩|h1
  ·cases h1
  have hq:=Sum.inr.inj (AL h1);subst hq;simp only[Ay,ablk];rw[Ag (by omega)];simp only[AX,O1];generalize hm:mI g' n (e0+1) (dO (e1+1) n d') (fO (e2+1) n fr') (.gone e3') (.gone e4') (.gone e5')=M;have cK:∀i,¬(40<=i/\i<46)->hx M h i=h i:=fun i hi=>by subst hm;refine EN ?_;simp;omega
  show Post EE rs95 _ .normal _;refine⟨_,.refl _,by simp[rs95],fun i=>if 40<=i/\i<46 then .gone (hx M h i).ep else h i,fun i=>?_,(fun D hD=>by cases hD),?_⟩
  ·show OSub (hx M h i) _;by_cases hi:40<=i/\i<46
   ·simp only[Aj hi];exact .inl rfl
   ·simp only[Ag hi];rw[cK i hi];exact .refl _
  ·refine⟨by simp[rs95],bS,bA,fun s r hr=>?_,fun i h1 h2=>⟨_,Aj ⟨h1,h2⟩⟩,fun i hi hs=>?_⟩;·simp only[Ag (show ¬(40<=rwx s/\rwx s<46) by unfold rwx;omega)];exact hX s r hr
   ·simp only[Ag (show ¬(40<=i/\i<46) by omega)];exact dr i hs
 subst ho;simp only at hF
 obtain⟨at0,q1,hF⟩:∃at0,forN (fun(at0:Int) (_:Nat)=>at? fr' at0) n 0 c'=some at0/\∃most,lp (Ee mv x fr' at0) (at0,false,1402560)=some most/\∃x2,lp (Ef mv fr' at0 most) (at0,false,x)=some x2/\lpN (GE co n) N' (x2,fr')=some y:=by
  rcases hF with ⟨s',h1,h2⟩|h1
  ·obtain⟨at0,q1,h1⟩:=bd_e h1;obtain⟨most,q2,h1⟩:=bd_e h1;obtain⟨x2,q3,h1⟩:=bd_e h1;cases h1;exact⟨at0,q1,most,q2,x2,q3,h2⟩
  ·obtain⟨at0,q1,h1⟩:=bd_e h1;obtain⟨most,q2,h1⟩:=bd_e h1;obtain⟨x2,q3,h1⟩:=bd_e h1;cases h1
 obtain⟨most,q2,x2,q3,hF⟩:=hF;simp only[Ay];refine AW.sr (by simp[Xf];rfl) ?_;refine .seq (.seq (AW.r1 (by simp[Xg];rfl) ?_));refine .see (.spx (m':=bI f n (e0+1) (e1+1) (e2+1)++[(14,.int .i64 c'),(192,.int .i64 n),(193,.int .i64 0)]) (hm':=mI g' n (e0+1) (dO (e1+1) n d') (fO (e2+1) n fr') (.gone e3') (.gone e4') (.gone e5')) (by simp) (by simp) (by simp)) ?_;refine wzw1 ga bT q1 ?_;simp only[Ay];refine AW.sr (by simp[Xh];rfl) ?_;refine .seq (.seq (AW.r1 (by simp[Xi];rfl) ?_));refine .see (.spx (m':=bI f n (e0+1) (e1+1) (e2+1)++[(14,.int .i64 at0),(15,.int .i64 1402560),(16,.int .i64 at0),(17,.bool false)]) (hm':=mI g' n (e0+1) (dO (e1+1) n d') (fO (e2+1) n fr') (.gone e3') (.gone e4') (.gone e5')) (by simp) (by simp) (by simp)) ?_;refine wzof hT bS bA hX hM iJ ga q2 ?_;simp only[Ay];refine AW.sr (by simp[Xj];rfl) ?_;refine .see (.spx (m':=bI f n (e0+1) (e1+1) (e2+1)++[(14,.int .i64 at0),(15,.int .i64 most),(18,.int .i64 at0),(19,.bool false)]) (hm':=mI g' n (e0+1) (dO (e1+1) n d') (fO (e2+1) n fr') (.gone e3') (.gone e4') (.gone e5')) (by simp) (by simp) (by simp)) ?_;refine wzry hT bS bA hX hM iJ ga q3 fun h' l1 l2 l3 l4=>?_;simp only[Ay,ablk];exact⟨⟨N',x2,fr',d',g',h',e3',e4',e5'⟩,⟨l1,l2,l3,fun i hi=>(l4 i hi).trans (dr i hi),ga,ii,lD,hF⟩,by show N'<N'+1;omega,.spx (by simp) (by simp) (by simp)⟩
end
end
section
def bG(fnv:Aa)(p q w n:Nat):List (Nat×Aa):=[(2,fnv),(3,.ptr 20 p 0),(7,.ptr 21 q 0),(8,.vec 22 w 0 n)]
def mG(rc:List Aa)(p q w n:Nat)(clv Vc Vx:Aa)(left:List Int)(o23 o24 o25 o26 o27 o28 o29 o30 o31 o32:Ad):List (Nat×Ad) := [(20,.box p rc),(21,.box q (rc++[clv,Vc,Vx])),(22,.vec w 1 n (Ai iC left)),(23,o23),(24,o24),(25,o25),(26,o26),(27,o27),(28,o28),(29,o29),(30,o30),(31,o31),(32,o32)]
def rcO(r:Al):List Aa:=[.int .i64 r.From,.int .i64 r.To,.slc 2 r.Table.length (Ai AM.cells r.Table),.int .i64 r.Lo,.int .i64 r.Hi]
def clO(cl:List AB):Aa:=.slc 2 cl.length (Ai AB.cells cl)
structure Y0 where
 j:Nat
 l:List Int
 e:Nat
structure Y2 where
 j:Nat
 r:List Af
 g:Nat->List Aa
 a:Nat
 b:Nat
 c:Nat
structure Y3 where
 N:Nat
 n:Int
 a:Int
 l:List Int
 r:List Int
section
attribute [local simp] BV Gm BG BW BX BY yza subm subh Ci pick Bx
attribute [local simp] lkx Dk Cz subx bG mG rcO clO C3 C6
theorem wzor{l:List α}{z:α}(hl:l.length=j):(l++List.replicate (n+1) z).set j v=(l++[v])++List.replicate n z:=by rw[List.set_append_right _ _ (by omega),hl,Nat.sub_self,List.append_assoc];rfl
theorem bg_0{q:Nat}(hn:cl.length=n)(bT:n<=1000000)(k:∀e',Q .normal ⟨tl (bG fnv p q w n) 151,hx (mG (rcO r) p q w n (clO cl) Vc Vx (cl.map (·.Ticks)) (.gone e') o24 o25 o26 o27 o28 o29 o30 o31 o32) h,[]⟩) :
  AW EE none Tryz.prog (.block 0 (.loop (Xk 20))) Q ⟨tl (bG fnv p q w n++[(33,clO cl),(34,.int .i64 n),(35,.int .i64 0)]) 151,hx (mG (rcO r) p q w n (clO cl) Vc Vx (List.replicate n 0) (.gone e23) o24 o25 o26 o27 o28 o29 o30 o31 o32) h,[]⟩:=by
 refine .block (AW.lph (fun y:Y0=>bG fnv p q w n++[(33,clO cl),(34,.int .i64 n),(35,.int .i64 y.j)]) (fun y=>mG (rcO r) p q w n (clO cl) Vc Vx (y.l++List.replicate (n-y.j) 0) (.gone y.e) o24 o25 o26 o27 o28 o29 o30 o31 o32) (fun _=>h) (fun y=>n-y.j) (fun y=>y.j<=n/\y.l=(cl.take y.j).map (·.Ticks)) ⟨0,[],e23⟩ ⟨BA _,rfl⟩ rfl (by simp) (by simp) (by simp) ?_);rintro⟨j,l,e⟩ ⟨hj,hl⟩;simp only at hj hl |-;refine AW.sr (by simp[Xl];rfl) ?_;refine .seq (AW.if' (decide ((j:Int)<(n:Int))) (by simp) (fun et=>AW.skip ?_) (fun et=>?_));rotate_left
 ·obtain rfl:j=n:=by have:=of_decide_eq_false et;omega
  obtain rfl:l=cl.map (·.Ticks):=by rw[hl,<-hn,List.take_length]
  exact .exs (by simp only[Ay,ablk,AX];exact k e) (by simp) (by simp) (by simp)
 have hlt:j<n:=by have:=BC et;omega
 obtain⟨c,hc⟩:∃c,cl[j]?=some c:=⟨_,AF (by omega)⟩;have cc:Ai AB.cells cl j=c.cells:=Bb hc;have c9:l.length=j:=by rw[hl];simp;omega
 obtain⟨m,hm⟩:∃m,n-j=m+1:=⟨n-(j+1),by omega⟩;have hm':n-(j+1)=m:=by omega
 have c0:Ai iC (l++List.replicate (m+1) 0) j=[.int .i64 0]:=Bb (c:=iC) (x:=0) (by rw[Ft (by omega),c9];simp);have f1:(fun k:Nat=>if k=j then [Aa.int .i64 c.Ticks] else Ai iC (l++List.replicate (m+1) 0) k)=Ai iC ((l++[c.Ticks])++List.replicate m 0):=by rw[<-wzor c9];exact Ed (c:=iC) (v:=c.Ticks) (by simp;omega) rfl
 have aQ:inr .i64 ((j:Int)+1):=by show _/\_;omega
 rw[hm];simp only[Ay];refine .seq (.block (AW.sr (by simp[Xm,hn,hlt,cc];rfl) ?_));refine AW.r1 (by simp[Xn,hlt,c0,f1];rfl) ?_;simp only[Ay,ablk];refine AW.r1 (by simp[Xo];exact⟨aQ,rfl⟩) ?_;refine⟨⟨j+1,l++[c.Ticks],e+1⟩,⟨by show j+1<=n;omega,?_⟩,by show n-(j+1)<m+1;omega,.spx (by simp[hn]) (by simp[hm',hn]) (by simp)⟩;show l++[c.Ticks]=(cl.take (j+1)).map (·.Ticks);rw[List.take_add_one,hc,List.map_append,hl];rfl
theorem bg_3{q:Nat}(hg:g s=[.vec 27 e27 0 n]){left1 row1:List Int}{at1 T:Int}(hl:left.length=n)(hr:row.length=n)(hF:lp GF (T,at0,left,row)=some (at1,left1,row1))    (k:left1.length=n->row1.length=n->Q .normal ⟨tl (bG fnv p q w n++[(11,.int .i64 at1),(12,.int .i64 s),(47,A),(48,B),(49,C)]) 151,hx (mG (rcO r) p q w n clv Vc (.vec 29 e29 0 (s+1)) left1 o23 o24 o25 o26 (.vec e27 1 n (Ai iC row1)) o28 (.vec e29 1 (s+1) g) o30 o31 o32) h,[]⟩) :
  AW EE none Tryz.prog (.block 6 (.loop (Xp 20))) Q ⟨tl (bG fnv p q w n++[(11,.int .i64 at0),(12,.int .i64 s),(16,.int .i64 T),(47,A),(48,B),(49,C)]) 151,hx (mG (rcO r) p q w n clv Vc (.vec 29 e29 0 (s+1)) left o23 o24 o25 o26 (.vec e27 1 n (Ai iC row)) o28 (.vec e29 1 (s+1) g) o30 o31 o32) h,[]⟩:=by
 unfold lp at hF;generalize 4611686018427387904=N0 at hF;refine .block (AW.lph (fun y:Y3=>bG fnv p q w n++[(11,.int .i64 y.a),(12,.int .i64 s),(16,.int .i64 y.n),(47,A),(48,B),(49,C)]) (fun y=>mG (rcO r) p q w n clv Vc (.vec 29 e29 0 (s+1)) y.l o23 o24 o25 o26 (.vec e27 1 n (Ai iC y.r)) o28 (.vec e29 1 (s+1) g) o30 o31 o32) (fun _=>h) (fun y=>y.N) (fun y=>y.l.length=n/\y.r.length=n/\lpN GF y.N (y.n,y.a,y.l,y.r)=some (at1,left1,row1)) ⟨N0,T,at0,left,row⟩ ⟨hl,hr,hF⟩ rfl (by simp) (by simp) (by simp) ?_);rintro⟨N,T,a,left,row⟩ ⟨hl,hr,hF⟩;refine AW.ath fun P hP=>?_;simp only at hl hr hF |-;obtain⟨N',hN,hL⟩:=JV hF;clear hF;subst hN;refine .seq (AW.sr (by simp[Xq];rfl) ?_);refine AW.if' (decide (0<T)) (by simp) (fun et=>AW.skip ?_) (fun et=>?_);rotate_left
 ·rcases hL with ⟨s',h1,_⟩|h1;·have:=(Br (show ite' (decide (0<T)) _ _=_ from h1)).2 et;cases this
  ·have:=(Br (show ite' (decide (0<T)) _ _=_ from h1)).2 et;cases this;exact .exs (by simp only[Ay,ablk,AX];exact k hl hr) (by simp) (by simp) (by simp)
 obtain⟨s',h1,hF⟩:∃s',GF (T,a,left,row)=some (.inl s')/\lpN GF N' s'=some (at1,left1,row1):=by
  rcases hL with h|h1
  ·exact h
  ·exfalso;have:=(Br (show ite' (decide (0<T)) _ _=_ from h1)).1 et;obtain⟨_,_,this⟩:=bd_e this;rename_i la _;cases lE:decide (la=0) with
   |true =>have:=(Br this).1 lE;obtain⟨_,this⟩:=ck_e this;cases this
   |false =>have:=(Br this).2 lE;obtain⟨_,_,this⟩:=bd_e this;obtain⟨_,this⟩:=ck_e this;cases this
 clear hL;have h1:=(Br (show ite' (decide (0<T)) _ _=_ from h1)).1 et;obtain⟨la,q1,h1⟩:=bd_e h1;obtain⟨u,hu,z1,z2⟩:=at_n q1;subst hu;rw[hl]at z1;have cl0:Ai iC left u=iC la:=Bb z2;have ath:∀(K':Exit->Au->Prop) (S':Au),P S'->Ay P K' .normal S':=fun _ _ h=>h;simp only[Ay];refine .block (.seq (.seq (AW.r1 (by simp[Xr,z1,cl0,iC];rfl) ?_)));refine AW.if' (decide (la=0)) (by simp) (fun e0=>?_) (fun e0=>AW.skip ?_)
 ·have h1:=(Br h1).1 e0;obtain⟨i1,h1⟩:=ck_e h1;cases h1;have j1:inr .i64 ((u:Int)+1):=by simp[As]at i1;exact i1
  refine AW.sr (by simp[Xs];exact⟨j1,rfl⟩) ?_;refine .exit ?_;simp only[Ay,ablk,AX];rw[hP];exact⟨⟨N',T,(u:Int)+1,left,row⟩,⟨hl,hr,hF⟩,by show N'<N'+1;omega,.spx (by simp) (by simp) (by simp)⟩
 have h1:=(Br h1).2 e0;obtain⟨xa,q2,h1⟩:=bd_e h1;obtain⟨i1,h1⟩:=ck_e h1;cases h1;obtain⟨_,z3⟩:=C2 q2;have cr:Ai iC row u=iC xa:=Bb z3;simp only[AI]at i1;have j1:inr .i64 (xa+min T la):=by have:=i1.1.1;simp[As]at this;exact this
 have j2:inr .i64 (la-min T la):=by have:=i1.1.2;simp[As]at this;exact this
 have j3:inr .i64 (T-min T la):=by have:=i1.2;simp[As]at this;exact this
 have f1:(fun k:Nat=>if k=u then [Aa.int .i64 (xa+min T la)] else Ai iC row k)=Ai iC (row.set u (xa+min T la)):=Ed (c:=iC) (by omega) rfl;have f2:(fun k:Nat=>if k=u then [Aa.int .i64 (la-min T la)] else Ai iC left k)=Ai iC (left.set u (la-min T la)):=Ed (c:=iC) (by omega) rfl;simp only[B4]at hF;simp only[Ay];refine AW.sr (by simp[Xt,z1,cl0,iC];rfl) ?_;refine AW.sr (by simp[Xu,z1,hg,cr,iC,j1,f1];exact⟨by omega,rfl⟩) ?_;refine AW.sr (by simp[Xv,z1,cl0,iC,j2,f2];rfl) ?_;refine AW.r1 (by simp[Xw];exact⟨j3,rfl⟩) ?_;simp only[Ay,ablk];rw[hP];exact⟨⟨N',T-min T la,(u:Int),left.set u (la-min T la),row.set u (xa+min T la)⟩,⟨by simp[hl],by simp[hr],hF⟩,by show N'<N'+1;omega,.spx (by simp) (by simp) (by simp)⟩
theorem Xx(a:Af):(fun i:Nat=>([[Aa.bool a.Neg,.str a.Num,.str a.Den]][i]?).getD [])=Ai Af.cells [a]:=funext fun i=>by cases i<;>rfl
theorem wzre(l:List Af)(a:Af)(hn:n=l.length):(fun k:Nat=>if k<n then Ai Af.cells l k else([[Aa.bool a.Neg,.str a.Num,.str a.Den]][k-n]?).getD [])=Ai Af.cells (l++[a]):=funext fun k=>by
 subst hn;rw[LV];split
 ·rfl
 ·cases k-l.length<;>rfl
theorem wzr8{m:List (Nat×Aa)}{q:Nat}{rc:List Aa}{a:Af}{row:List Af}(pL:rc++[clv,Vc,Vx]=rc++[clv,Vc,Vx]) :
  See EE ⟨tl m N,hx (mG rc p q w n clv Vc Vx left o23 o24 o25 (.vec e26 1 (s+1) (fun k=>if k=s then [.vec 32 e 0 (row.length+1)] else g0 k)) o27 o28 o29 o30 o31 (.vec e 3 (row.length+1) (Ai Af.cells (a :: row)))) h,[]⟩
  ⟨tl m N,hx (mG rc p q w n clv Vc Vx left o23 o24 o25 (.vec e26 1 (s+1) (fun k=>if k=s then coC (a :: row) else g0 k)) o27 o28 o29 o30 o31 (.gone (e+1))) h,[]⟩:=by
 refine .freeze (id:=32) (o:=.vec e 3 (row.length+1) (Ai Af.cells (a :: row))) (by simp) rfl trivial (by simp[Ad.ep]) (fun i hi=>?_) (FVl.refl _) rfl;have aW:¬32=i:=fun k=>hi k.symm;by_cases i26:i=26
 ·subst i26;refine .inr (.inr (.inl ⟨e26,1,s+1,_,_,by simp;rfl,by simp;rfl,fun k hk=>?_⟩));show FVl 32 _ (if k=s then _ else g0 k) (if k=s then _ else g0 k);split
  ·exact⟨.vec e 3 (row.length+1) _ 0 (row.length+1) _ rfl (by simp) (fun k _=>by rw[Bn]),trivial⟩
  ·exact FVl.refl _
 ·have i26':¬26=i:=fun k=>i26 k.symm;refine .inl ?_;simp[aW,i26']
theorem bg_2(hE:CY Tryz.prog 91=true)(hR:∀(k s:Int) (a:Af),rate k s=some a->AK EE Tryz.prog 91 (fnArgs 0 [.int .i64 k,.int .i64 s] caps) (.agg a.cells)){q:Nat}   (hn:cl.length=n) (dN:0<n) (bT:n<=1000000) {st:Int} {row:List Af} (hF:GG rate st cl=some row)        
  (k:row.length=n->∀e30' e31' e32',Q .normal ⟨tl (bG (.fn 91 0 caps) p q w n++[(11,D),(12,.int .i64 s),(13,.ptr 24 e24 0),(47,A),(48,B),(49,C)]) 151,
   hx (mG (rcO r) p q w n (clO cl) (.vec 26 e26 0 (s+1)) Vx left o23 (.box e24 [.int .i64 st,.int .i64 tk]) o25 (.vec e26 1 (s+1) (fun k=>if k=s then coC row else g0 k)) o27 o28 o29 (.gone e30') (.gone e31') (.gone e32')) h,[]⟩) :
  AW EE none Tryz.prog (.block 4 (.loop (Xy 20))) Q ⟨tl (bG (.fn 91 0 caps) p q w n++[(11,D),(12,.int .i64 s),(13,.ptr 24 e24 0),(47,A),(48,B),(49,C),(81,clO cl),(82,.int .i64 n),(83,.int .i64 0)]) 151,
   hx (mG (rcO r) p q w n (clO cl) (.vec 26 e26 0 (s+1)) Vx left o23 (.box e24 [.int .i64 st,.int .i64 tk]) o25 (.vec e26 1 (s+1) (fun k=>if k=s then [.nils] else g0 k)) o27 o28 o29 (.gone e30) (.gone e31) (.gone e32)) h,[]⟩:=by
 refine .block (AW.lph (fun y:Y2=>bG (.fn 91 0 caps) p q w n++[(11,D),(12,.int .i64 s),(13,.ptr 24 e24 0),(47,A),(48,B),(49,C),(81,clO cl),(82,.int .i64 n),(83,.int .i64 y.j)]) (fun y=>mG (rcO r) p q w n (clO cl) (.vec 26 e26 0 (s+1)) Vx left o23 (.box e24 [.int .i64 st,.int .i64 tk]) o25 (.vec e26 1 (s+1) (fun k=>if k=s then [ownV 32 y.c y.r] else g0 k)) o27 o28 o29 (.gone y.a) (.gone y.b) (ownO y.c 3 Af.cells y.r)) (fun _=>h) (fun y=>n-y.j) (fun y=>y.j<=n/\y.r.length=y.j/\∃z,GG rate st (cl.drop y.j)=some z/\y.r++z=row) ⟨0,[],fun _=>[],e30,e31,e32⟩ ⟨BA _,rfl,row,hF,rfl⟩ rfl (by simp) (by simp) (by simp) ?_);rintro⟨j,rw0,_,e30,e31,e32⟩ ⟨hj,hl,z,hz,aF⟩;simp only at hj hl hz aF |-;refine AW.sr (by simp[Xz];rfl) ?_;refine .seq (AW.if' (decide ((j:Int)<(n:Int))) (by simp) (fun et=>AW.skip ?_) (fun et=>?_));rotate_left
 ·obtain rfl:j=n:=by have:=of_decide_eq_false et;omega
  rw[<-hn,List.drop_length]at hz;obtain rfl:=AL (show some []=some z from hz);rw[List.append_nil]at aF;subst aF;cases rw0 with
  |nil=>simp at hl;omega
  |cons a t =>refine .see (.spx (m':=bG (.fn 91 0 caps) p q w j++[(11,D),(12,.int .i64 s),(13,.ptr 24 e24 0),(47,A),(48,B),(49,C)]) (hm':=mG (rcO r) p q w j (clO cl) (.vec 26 e26 0 (s+1)) Vx left o23 (.box e24 [.int .i64 st,.int .i64 tk]) o25 (.vec e26 1 (s+1) (fun k=>if k=s then [.vec 32 e32 0 (t.length+1)] else g0 k)) o27 o28 o29 (.gone e30) (.gone e31) (.vec e32 3 (t.length+1) (Ai Af.cells (a :: t)))) (by simp) (by simp) (by simp)) ?_;refine .see (wzr8 rfl) (.exit ?_);simp only[Ay,ablk,AX];exact k hl e30 e31 (e32+1)
 have hlt:j<n:=by have:=BC et;omega
 obtain⟨c,hc⟩:∃c,cl[j]?=some c:=⟨_,AF (by omega)⟩;have cc:Ai AB.cells cl j=c.cells:=Bb hc;rw[Fn (by omega),show cl[j]'(by omega)=c from(A8.1 hc).2]at hz;obtain⟨a,ha,hz⟩:=bd_e (show bd (rate c.Span st) _=some z from hz);obtain⟨z',ez,hz⟩:=bd_e hz;obtain rfl:=AL hz;have sR:=hR _ _ _ ha;have aQ:inr .i64 ((j:Int)+1):=by show _/\_;omega
 simp only[Ay];refine .seq (.block (AW.sr (by simp[X0,hn,hlt,cc];rfl) ?_));cases rw0 with
 |nil =>refine AW.d1 (by simp[Ps,Xx];refine⟨by omega,hE,Bi.pure _ sR ?_⟩;simp[Xx];exact⟨by omega,by kernel_rfl,rfl⟩) ?_;simp only[Ay,ablk];refine AW.r1 (by simp[Pt];exact⟨aQ,rfl⟩) ?_;refine⟨⟨j+1,[a],fun _=>[],e30+1,e31+1,e32+1⟩,⟨by show j+1<=n;omega,by show 1=j+1;simp at hl;omega,z',ez,by rw[<-aF];rfl⟩,by show n-(j+1)<n-j;omega,.spx (by simp[hn]) ?_ (by simp)⟩;simp[hn];intro k _;split<;>rfl
 |cons b t =>
  have bW:(t.length+1+1)*40<=140737488355328:=by simp at hl;omega
  refine AW.d1 (by simp[Ps];refine⟨by omega,hE,Bi.pure _ sR ?_⟩;simp;exact⟨bW,by omega,by kernel_rfl,rfl⟩) ?_;simp only[Ay,ablk];refine AW.r1 (by simp[Pt];exact⟨aQ,rfl⟩) ?_;refine⟨⟨j+1,b :: t++[a],fun _=>[],e30+1,e31+1,e32+1⟩,⟨by show j+1<=n;omega,by simp at hl |-;omega,z',ez,by rw[<-aF,List.append_assoc];rfl⟩,by show n-(j+1)<n-j;omega,.spx (by simp[hn]) ?_ (by simp)⟩;simp[hn];refine⟨fun k _=>by split<;>rfl,fun k _=>?_⟩;exact(congrFun (wzre (b :: t) a (n:=t.length+1) rfl) k).symm
end
end
section
def oV(id e:Nat):Nat->Aa
 |0=>.nils
 |s+1=>.vec id e 0 (s+1)
def oO(e:Nat)(g:Nat->List Aa):Nat->Ad
 |0=>.gone e
 |s+1=>.vec e 1 (s+1) g
def xG(er:Nat->Nat)(n:Nat)(k:Nat):List Aa:=[.vec (rwx k) (er k) 0 n]
structure Y1 where
 s:Nat
 co:List (List Af)
 x:List (List Int)
 a:Int
 l:List Int
 er:Nat->Nat
 h:Aq
 e24:Nat
 e25:Nat
 e26:Nat
 e27:Nat
 e28:Nat
 e29:Nat
 e30:Nat
 e31:Nat
 e32:Nat
structure RXs(er:Nat->Nat)(x:List (List Int))(H h:Aq):Prop where
 rw:RX er x h
 fr:∀s,x.length<=s->∃e,h (rwx s)=.gone e
 ke:∀i,(∀s,i≠rwx s)->h i=H i
section
attribute [local simp] BV Gm BG BW BX BY yza subm subh Ci pick Bx
attribute [local simp] lkx Dk Cz subx bG mG rcO clO C3 C6
theorem oV_z:oV id e 0=.nils:=rfl
theorem oV_s:oV id e (s+1)=.vec id e 0 (s+1):=rfl
theorem oO_z:oO e g 0=.gone e:=rfl
theorem oO_s{e s:Nat}{g:Nat->List Aa}:oO e g (s+1)=.vec e 1 (s+1) g:=rfl
attribute [local simp] oV_z oV_s oO_z oO_s
theorem X2{v:List Aa}{m:Nat}(hk:k<m+1):(if k=m then v else g k)=if k<m then g k else([v][k-m]?).getD []:=by
 by_cases e:k=m
 ·subst e;simp
 ·rw[Ag e,Aj (by omega)]
theorem wzvc{q:Nat}(dN:0<n)(bT:n<=1000000)(hs:s<=1000000)(hn:cl.length=n){g26 g29:Nat->List Aa}{E:Aa}(k:AW EE none Tryz.prog b Q ⟨tl (bG fnv p q w n++[(11,D),(12,.int .i64 s),(13,E),(47,A),(48,B),(49,C)]) 151,hx (mG (rcO r) p q w n (clO cl) (.vec 26 (e26+1) 0 (s+1)) (.vec 29 (e29+1) 0 (s+1)) left o23 o24 (.gone (e25+1)) (.vec (e26+1) 1 (s+1) (fun k=>if k=s then [.nils] else g26 k)) (.vec (e27+1) 1 n (Ai iC (List.replicate n 0))) (.gone (e28+1)) (.vec (e29+1) 1 (s+1) (fun k=>if k=s then [.vec 27 (e27+1) 0 n] else g29 k)) o30 o31 o32) h,[]⟩) :
  AW EE none Tryz.prog (.seq (.reg true (LW 20) X3) b) Q ⟨tl (bG fnv p q w n++[(11,D),(12,.int .i64 s),(13,E),(47,A),(48,B),(49,C)]) 151,hx (mG (rcO r) p q w n (clO cl) (oV 26 e26 s) (oV 29 e29 s) left o23 o24 (.gone e25) (oO e26 g26 s) (.gone e27) (.gone e28) (oO e29 g29 s) o30 o31 o32) h,[]⟩:=by
 have bW:(n:Int)*8<=140737488355328:=by omega
 cases s with
 |zero =>refine AW.sd (by simp[LW,hn,bW];exact⟨by kernel_rfl,rfl⟩) ?_;refine .see (.spx (by simp) ?_ (by simp)) k;simp;exact⟨hn.symm,fun k hk=>F7 hk⟩
 |succ s =>
  have cD:(s+1+1)*24<=140737488355328:=by omega
  refine AW.sd (by simp[LW,hn,bW,cD];exact⟨by kernel_rfl,rfl⟩) ?_;refine .see (.spx (by simp) ?_ (by simp)) k;simp;exact⟨hn.symm,fun k hk=>X2 hk,fun k hk=>F7 hk,fun k hk=>X2 hk⟩
attribute [local simp] mv1 mvO Ad.wep
theorem X4{c:α->List Aa}{B:Nat}(hc:∀x,(c x).map (mv1 i e B K)=c x)(l:List α)(k:Nat):(Ai c l k).map (mv1 i e B K)=Ai c l k:=by
 unfold Ai;split
 ·exact hc _
 ·rfl
theorem wztp{m:List (Nat×Ad)}(hm:m.all (fun p=>Nat.blt p.1 100)=true):m.all (fun p=>!(p.1==rwx s))=true:=by
 rw[Da]at hm |-;intro p hp;have:=hm p hp;simp only[Gu]at this;have h2:p.1≠rwx s:=by unfold rwx;omega
 simpa using h2
theorem bg_1(hE:CY Tryz.prog 91=true)(hR:∀(k s:Int) (a:Af),rate k s=some a->AK EE Tryz.prog 91 (fnArgs 0 [.int .i64 k,.int .i64 s] caps) (.agg a.cells)){q:Nat}   (hn:cl.length=n) (dN:0<n) (bT:n<=1000000)    (c9:left.length=n) (hS:r.Table.length<=1000000)(hF:bgL rate cl r.Table 0 left [] []=some (co,x))   (hH:∀s,∃e,H (rwx s)=.gone e) 
  (k:∀er h left' e24 e25 e26 e27 e28 e29 e30 e31 e32,co.length=r.Table.length->x.length=r.Table.length->(∀c∈co,c.length=n)->(∀c∈x,c.length=n)->RXs er x H h->Q .normal ⟨tl [(3,.ptr 20 p 0),(7,.ptr 21 q 0)] 151,
   hx (mG (rcO r) p q w n (clO cl) (oV 26 e26 r.Table.length) (oV 29 e29 r.Table.length) left' (.gone e23) (.gone e24) (.gone e25) (oO e26 (Ai coC co) r.Table.length) (.gone e27) (.gone e28) (oO e29 (xG er n) r.Table.length) (.gone e30) (.gone e31) (.gone e32)) h,[]⟩) :
  AW EE none Tryz.prog (.block 2 (.loop (X5 20))) Q ⟨tl (bG (.fn 91 0 caps) p q w n++[(11,.int .i64 0),(47,.slc 2 r.Table.length (Ai AM.cells r.Table)),(48,.int .i64 r.Table.length),(49,.int .i64 0)]) 151,
   hx (mG (rcO r) p q w n (clO cl) .nils .nils left (.gone e23) (.gone e24) (.gone e25) (.gone e26) (.gone e27) (.gone e28) (.gone e29) (.gone e30) (.gone e31) (.gone e32)) H,[]⟩:=by
 generalize m6:r.Table.length=S at *;refine .block (AW.lph (fun y:Y1=>bG (.fn 91 0 caps) p q w n++[(11,.int .i64 y.a),(47,.slc 2 S (Ai AM.cells r.Table)),(48,.int .i64 S),(49,.int .i64 y.s)]) (fun y=>mG (rcO r) p q w n (clO cl) (oV 26 y.e26 y.s) (oV 29 y.e29 y.s) y.l (.gone e23) (.gone y.e24) (.gone y.e25) (oO y.e26 (Ai coC y.co) y.s) (.gone y.e27) (.gone y.e28) (oO y.e29 (xG y.er n) y.s) (.gone y.e30) (.gone y.e31) (.gone y.e32)) (fun y=>y.h) (fun y=>S-y.s) (fun y=>y.s<=S/\y.co.length=y.s/\y.x.length=y.s/\(∀c∈y.co,c.length=n)/\(∀c∈y.x,c.length=n)/\y.l.length=n/\RXs y.er y.x H y.h/\bgL rate cl (r.Table.drop y.s) y.a y.l y.co y.x=some (co,x)) ⟨0,[],[],0,left,fun _=>0,H,e24,e25,e26,e27,e28,e29,e30,e31,e32⟩ ⟨BA _,rfl,rfl,(fun c hc=>by cases hc),(fun c hc=>by cases hc),c9,⟨(fun s r h=>by simp at h),fun s _=>hH s,fun _ _=>rfl⟩,hF⟩ rfl (by simp) (by simp) (by simp) ?_);rintro⟨s,co',x',at0,left,er,h,e24,e25,e26,e27,e28,e29,e30,e31,e32⟩ ⟨hs,gr,bN,cN,bA,c9,hX,hF⟩;refine AW.ath fun P hP=>?_;simp only at hs gr bN cN bA c9 hX hF |-;refine AW.sr (by simp[X6];rfl) ?_;refine .seq (AW.if' (decide ((s:Int)<(S:Int))) (by simp) (fun et=>AW.skip ?_) (fun et=>?_));rotate_left
 ·obtain rfl:s=S:=by have:=of_decide_eq_false et;omega
  rw[<-m6,List.drop_length]at hF;obtain h2:=AL (show some (co',x')=some (co,x) from hF);simp only[BB]at h2;obtain⟨rfl,rfl⟩:=h2;exact .exs (by simp only[Ay,ablk,AX];exact k er h left e24 e25 e26 e27 e28 e29 e30 e31 e32 gr bN cN bA hX) (by simp) (by simp[m6]) (by simp)
 have hlt:s<S:=by have:=BC et;omega
 obtain⟨hd,m8⟩:∃c,r.Table[s]?=some c:=⟨_,AF (by omega)⟩;have chd:Ai AM.cells r.Table s=hd.cells:=Bb m8;rw[Fn (by omega),show r.Table[s]'(by omega)=hd from(A8.1 m8).2]at hF;obtain⟨row,aF,hF⟩:=bd_e (show bd (GG rate hd.Stage cl) _=some (co,x) from hF);obtain⟨⟨at1,left1,row1⟩,gt,hF⟩:=bd_e hF;rw[hn]at gt;have aQ:inr .i64 ((s:Int)+1):=by show _/\_;omega
 simp only[Ay];refine .seq (.block (AW.sr (by simp[X7,hlt,chd];rfl) ?_));refine .see (.spx (m':=bG (.fn 91 0 caps) p q w n++[(11,.int .i64 at0),(12,.int .i64 s),(13,.ptr 24 (e24+1) 0),(47,.slc 2 S (Ai AM.cells r.Table)),(48,.int .i64 S),(49,.int .i64 s)]) (hm':=mG (rcO r) p q w n (clO cl) (oV 26 e26 s) (oV 29 e29 s) left (.gone e23) (.box (e24+1) [.int .i64 hd.Stage,.int .i64 hd.Ticks]) (.gone e25) (oO e26 (Ai coC co') s) (.gone e27) (.gone e28) (oO e29 (xG er n) s) (.gone e30) (.gone e31) (.gone e32)) (by simp) (by simp) (by simp)) ?_;refine wzvc dN bT (by omega) hn ?_;refine .seq (.seq (AW.r1 (by simp[X8];rfl) ?_));refine .see (.spx (m':=bG (.fn 91 0 caps) p q w n++[(11,.int .i64 at0),(12,.int .i64 s),(13,.ptr 24 (e24+1) 0),(47,.slc 2 S (Ai AM.cells r.Table)),(48,.int .i64 S),(49,.int .i64 s),(81,clO cl),(82,.int .i64 n),(83,.int .i64 0)]) (hm':=mG (rcO r) p q w n (clO cl) (.vec 26 (e26+1) 0 (s+1)) (.vec 29 (e29+1) 0 (s+1)) left (.gone e23) (.box (e24+1) [.int .i64 hd.Stage,.int .i64 hd.Ticks]) (.gone (e25+1)) (.vec (e26+1) 1 (s+1) (fun k=>if k=s then [.nils] else Ai coC co' k)) (.vec (e27+1) 1 n (Ai iC (List.replicate n 0))) (.gone (e28+1)) (.vec (e29+1) 1 (s+1) (fun k=>if k=s then [.vec 27 (e27+1) 0 n] else xG er n k)) (.gone e30) (.gone e31) (.gone e32)) (by simp[hn]) (by simp) (by simp)) ?_;refine bg_2 hE hR hn dN bT aF fun fM e30' e31' e32'=>?_;simp only[Ay];refine AW.sr (by simp[X9];rfl) ?_;refine .see (.spx (m':=bG (.fn 91 0 caps) p q w n++[(11,.int .i64 at0),(12,.int .i64 s),(16,.int .i64 hd.Ticks),(47,.slc 2 S (Ai AM.cells r.Table)),(48,.int .i64 S),(49,.int .i64 s)]) (hm':=mG (rcO r) p q w n (clO cl) (.vec 26 (e26+1) 0 (s+1)) (.vec 29 (e29+1) 0 (s+1)) left (.gone e23) (.gone (e24+1)) (.gone (e25+1)) (.vec (e26+1) 1 (s+1) (fun k=>if k=s then coC row else Ai coC co' k)) (.vec (e27+1) 1 n (Ai iC (List.replicate n 0))) (.gone (e28+1)) (.vec (e29+1) 1 (s+1) (fun k=>if k=s then [.vec 27 (e27+1) 0 n] else xG er n k)) (.gone e30') (.gone e31') (.gone e32')) (by simp) (by simp) (by simp)) ?_;refine bg_3 (by simp) c9 (by simp) gt fun d9 gi=>?_;simp only[ablk,Ay];obtain⟨K0,iK⟩:=hX.fr s (by omega);refine .see (.spx (m':=bG (.fn 91 0 caps) p q w n++[(11,.int .i64 at1),(47,.slc 2 S (Ai AM.cells r.Table)),(48,.int .i64 S),(49,.int .i64 s)]) (hm':=(27,.vec (e27+1) 1 n (Ai iC row1)) :: [(20,.box p (rcO r)),(21,.box q (rcO r++[clO cl,.vec 26 (e26+1) 0 (s+1),.vec 29 (e29+1) 0 (s+1)])),(22,.vec w 1 n (Ai iC left1)),(23,.gone e23),(24,.gone (e24+1)),(25,.gone (e25+1)),(26,.vec (e26+1) 1 (s+1) (fun k=>if k=s then coC row else Ai coC co' k)),(28,.gone (e28+1)),(29,.vec (e29+1) 1 (s+1) (fun k=>if k=s then [.vec 27 (e27+1) 0 n] else xG er n k)),(30,.gone e30'),(31,.gone e31'),(32,.gone e32')]) (by simp) (by simp) (by simp)) ?_;refine .see (See.mvx (B:=rwx s) trivial (by unfold rwx;omega) (wztp (by simp)) (by rw[iK];rfl)) ?_;rw[iK];refine .see (.spx (m':=bG (.fn 91 0 caps) p q w n++[(11,.int .i64 at1),(47,.slc 2 S (Ai AM.cells r.Table)),(48,.int .i64 S),(49,.int .i64 s)]) (hm':=mG (rcO r) p q w n (clO cl) (oV 26 (e26+1) (s+1)) (oV 29 (e29+1) (s+1)) left1 (.gone e23) (.gone (e24+1)) (.gone (e25+1)) (oO (e26+1) (Ai coC (co'++[row])) (s+1)) (.gone (e27+2)) (.gone (e28+1)) (oO (e29+1) (xG (fun i=>if i=s then K0+1 else er i) n) (s+1)) (.gone e30') (.gone e31') (.gone e32')) (by simp) ?_ (by simp)) ?_
 ·simp;refine⟨fun k _=>(X4 (fun _=>rfl) _ _).symm,fun k hk=>?_,fun k hk=>?_⟩
  ·by_cases e:k=s;·subst e;rw[Aj rfl,LV,Ag (by omega),gr,Nat.sub_self];rfl
   ·rw[Ag e,LV,Aj (by omega)];exact(X4 (fun _=>rfl) _ _).symm
  ·by_cases e:k=s;·subst e;simp[xG]
   ·simp[xG,e]
 refine AW.r1 (by simp[XA];exact⟨aQ,rfl⟩) ?_;rw[hP];refine⟨⟨s+1,co'++[row],x'++[row1],at1,left1,fun i=>if i=s then K0+1 else er i,hset h (rwx s) (.vec (K0+1) 1 n (Ai iC row1)),e24+1,e25+1,e26+1,e27+2,e28+1,e29+1,e30',e31',e32'⟩,⟨by show s+1<=S;omega,by simp[gr],by simp[bN],fun c hc=>?_,fun c hc=>?_,d9,⟨fun s' r' bu=>?_,fun s' aH=>?_,fun i hi=>?_⟩,hF⟩,by show S-(s+1)<S-s;omega,.spx (by simp) (by simp) (by simp)⟩
 ·rcases CD.1 hc with h|h;·exact cN c h
  ·rw[B3.1 h];exact fM
 ·rcases CD.1 hc with h|h;·exact bA c h
  ·rw[B3.1 h];exact gi
 ·have bu:(x'++[row1])[s']?=some r':=bu;show hset h (rwx s) _ (rwx s')=rowO (if s'=s then K0+1 else er s') r';rw[List.getElem?_append]at bu;split at bu
  ·rename_i hlt';rw[BH (fun e=>by rw[LR]at e;omega),Ag (by omega)];exact hX.rw s' r' bu
  ·have h0:s'-x'.length=0:=by
    obtain⟨h1,_⟩:=A8.1 bu;simp at h1;omega
   rw[h0]at bu;obtain rfl:=AL bu;obtain rfl:s'=s:=by omega
   rw[Dn,Aj rfl];unfold rowO;rw[gi]
 ·have aH:(x'++[row1]).length<=s':=aH;simp at aH;obtain⟨e,he⟩:=hX.fr s' (by omega);exact⟨e,by show hset h (rwx s) _ (rwx s')=_;rw[BH (fun e=>by rw[LR]at e;omega)];exact he⟩
 ·show hset h (rwx s) _ i=H i;rw[BH (hi s)];exact hX.ke i hi
end
end
section
section
attribute [local simp] BV Gm BG BW BX BY yza subm subh Ci pick Bx
attribute [local simp] lkx Dk Cz subx bG mG rcO clO C3 C6 oV_z oV_s oO_z oO_s
theorem fz_a{m:List (Nat×Aa)}{q:Nat}{cs':List Aa}(hid:21≠id)(hc:FVl id (.vec e 1 S g) cs cs') :
  See EE ⟨tl m N,hx ((21,.box q cs) :: (id,.vec e 1 S g) :: rest) h,[]⟩ ⟨tl m N,hx ((21,.box q cs') :: (id,.gone (e+1)) :: rest) h,[]⟩:=by
 refine .freeze (id:=id) (o:=.vec e 1 S g) (by simp[hid]) rfl trivial (by simp[hid,Ad.ep]) (fun i hi=>?_) (FVl.refl _) rfl;have aW:¬id=i:=fun k=>hi k.symm;by_cases i21:21=i
 ·subst i21;exact .inr (.inl ⟨q,cs,cs',by simp,by simp,hc⟩)
 ·exact .inl (by simp[aW,i21])
theorem XB{m:List (Nat×Aa)}(h:∀k,FV id o (look m k) (look m' k)):FVl id o (tl m n) (tl m' n):=by
 unfold tl;generalize List.range n=r;induction r with
 |nil=>trivial
 |cons x r ih=>exact⟨h x,ih⟩
theorem fz_b{q:Nat} :
  See EE ⟨tl [(k,.ptr 21 q 0)] N,hx ((21,.box q cs) :: rest) h,[]⟩ ⟨tl [(k,.cptr (fun j=>cs.getD j .top) cs.length 0)] N,hx ((21,.gone (q+1)) :: rest) h,[]⟩:=by
 refine .freeze (id:=21) (o:=.box q cs) (by simp) rfl trivial (by simp[Ad.ep]) (fun i hi=>.inl (by have aW:¬21=i:=fun k=>hi k.symm;simp[aW])) (XB fun j=>?_) rfl;simp only[look];split
 ·exact .box q 0 cs _ rfl (fun k _=>rfl)
 ·exact .refl _
theorem wzp4(hE:CY Tryz.prog 91=true)(hR:∀(k s:Int) (a:Af),rate k s=some a->AK EE Tryz.prog 91 (fnArgs 0 [.int .i64 k,.int .i64 s] caps) (.agg a.cells))(hCl:∀(r:Al) (l:List An) (c:List AB),Ip r l=some c->AK EE Tryz.prog 44 [.agg r.cells,slcV 7 An.cells l] (slcV 2 AB.cells c))     (hF:F9 r spans rate=some (cl,co,x)) (kl:0<r.Table.length) (hH:∀s,∃e,H (rwx s)=.gone e) (hg:∀i,20<=i->i<33->∃e,H i=.gone e) :
  ATr EE Tryz.prog 94 [.agg r.cells,slcV 7 An.cells spans,.fn 91 0 caps] H (fun v h'=>∃f er,v=.cptr f 8 0/\TkV f cl co er cl.length r.Table.length/\co.length=r.Table.length/\x.length=r.Table.length/\(∀c∈co,c.length=cl.length)/\(∀c∈x,c.length=cl.length)/\RX er x h' /\ (∀s,r.Table.length<=s->∃e,h' (rwx s)=.gone e)/\(∀i,20<=i->i<33->∃e,h' i=.gone e)/\∀i,(i<20\/33<=i)->(∀s,i≠rwx s)->h' i=H i):=by
 obtain⟨cd,hb,bY⟩:=ck94;unfold F9 at hF;obtain⟨cl',cq,hF⟩:=bd_e hF;obtain⟨hc,hF⟩:=ck_e hF;obtain⟨⟨co',x'⟩,fk,hF⟩:=bd_e hF;obtain h3:=AL hF;simp only[BB]at h3;obtain⟨rfl,rfl,rfl⟩:=h3;simp only[AI,CA]at hc;obtain⟨⟨dN,bT⟩,eu⟩:=hc;have sC:=hCl _ _ _ cq;obtain⟨e20,g20⟩:=hg 20 (by omega) (by omega);obtain⟨e21,g21⟩:=hg 21 (by omega) (by omega);obtain⟨e22,g22⟩:=hg 22 (by omega) (by omega);obtain⟨e23,g23⟩:=hg 23 (by omega) (by omega);obtain⟨e24,g24⟩:=hg 24 (by omega) (by omega);obtain⟨e25,g25⟩:=hg 25 (by omega) (by omega);obtain⟨e26,g26⟩:=hg 26 (by omega) (by omega);obtain⟨e27,g27⟩:=hg 27 (by omega) (by omega);obtain⟨e28,g28⟩:=hg 28 (by omega) (by omega);obtain⟨e29,g29⟩:=hg 29 (by omega) (by omega);obtain⟨e30,g30⟩:=hg 30 (by omega) (by omega);obtain⟨e31,g31⟩:=hg 31 (by omega) (by omega);obtain⟨e32,g32⟩:=hg 32 (by omega) (by omega);refine ATr.of (fn:=Tryz.f94) rfl hb cr94 (bY 20) 148 rfl ?_;have erc:r.cells=rcO r:=rfl;rw[Gn,Gn,erc]at sC;rw[Gn,erc];rw[show([Aa.agg (rcO r),.slc 7 spans.length (Ai An.cells spans),.fn 91 0 caps]++List.replicate 148 .top)=tl [(0,.agg (rcO r)),(1,.slc 7 spans.length (Ai An.cells spans)),(2,.fn 91 0 caps)] 151 from Ib [_,_,_] 148];change AW EE none _ _ _ ⟨_,hx [] H,[]⟩;refine .see (.spx (m':=[(0,.agg (rcO r)),(1,.slc 7 spans.length (Ai An.cells spans)),(2,.fn 91 0 caps)]) (hm':=[(20,.gone e20),(21,.gone e21),(22,.gone e22),(23,.gone e23),(24,.gone e24),(25,.gone e25),(26,.gone e26),(27,.gone e27),(28,.gone e28),(29,.gone e29),(30,.gone e30),(31,.gone e31),(32,.gone e32)]) (by simp) (by simp[g20,g21,g22,g23,g24,g25,g26,g27,g28,g29,g30,g31,g32]) (by simp)) ?_;refine AW.sr (by simp[XC];rfl) ?_;refine AW.sd (by simp[XD];refine Bi.pure _ sC ?_;simp;exact⟨by kernel_rfl,rfl⟩) ?_;have lC:(cl'.length:Int)*8<=140737488355328:=by omega
 refine AW.sr (by simp[XE,lC];rfl) ?_;refine .seq (.seq (AW.r1 (by simp[XF];rfl) ?_));refine .see (.spx (m':=bG (.fn 91 0 caps) (e20+1) (e21+1) (e22+1) cl'.length++[(33,clO cl'),(34,.int .i64 cl'.length),(35,.int .i64 0)]) (hm':=mG (rcO r) (e20+1) (e21+1) (e22+1) cl'.length (clO cl') .nils .nils (List.replicate cl'.length 0) (.gone e23) (.gone e24) (.gone e25) (.gone e26) (.gone e27) (.gone e28) (.gone e29) (.gone e30) (.gone e31) (.gone e32)) (by simp) ?_ (by simp)) ?_
 ·simp;exact fun k hk=>F7 hk
 refine bg_0 rfl bT fun e23'=>?_;simp only[Ay];refine AW.sr (by simp[XG];rfl) ?_;refine .seq (.seq (AW.r1 (by simp[XH];rfl) ?_));refine .see (.spx (m':=bG (.fn 91 0 caps) (e20+1) (e21+1) (e22+1) cl'.length++[(11,.int .i64 0),(47,.slc 2 r.Table.length (Ai AM.cells r.Table)),(48,.int .i64 r.Table.length),(49,.int .i64 0)]) (hm':=mG (rcO r) (e20+1) (e21+1) (e22+1) cl'.length (clO cl') .nils .nils (cl'.map (·.Ticks)) (.gone e23') (.gone e24) (.gone e25) (.gone e26) (.gone e27) (.gone e28) (.gone e29) (.gone e30) (.gone e31) (.gone e32)) (by simp) (by simp) (by simp)) ?_;refine bg_1 hE hR rfl dN bT (by simp) eu fk hH fun er h left' f24 f25 f26 f27 f28 f29 f30 f31 f32 d1 d2 d3 d4 hX=>?_;simp only[Ay];obtain⟨S,hS⟩:∃S,r.Table.length=S+1:=⟨r.Table.length-1,by omega⟩;rw[hS]at d1 d2 |-;refine .see (.spx (m':=[(7,.ptr 21 (e21+1) 0)]) (hm':=(21,.box (e21+1) (rcO r++[clO cl',.vec 26 f26 0 (S+1),.vec 29 f29 0 (S+1)])) :: (26,.vec f26 1 (S+1) (Ai coC co')) :: [(29,.vec f29 1 (S+1) (xG er cl'.length)),(20,.gone (e20+1)),(22,.gone (e22+1)),(23,.gone e23'),(24,.gone f24),(25,.gone f25),(27,.gone f27),(28,.gone f28),(30,.gone f30),(31,.gone f31),(32,.gone f32)]) (by simp) (by simp) (by simp)) ?_;refine .see (fz_a (cs':=rcO r++[clO cl',.slc 1 (S+1) (Ai coC co'),.vec 29 f29 0 (S+1)]) (by omega) ⟨.refl _,.refl _,.refl _,.refl _,.refl _,.refl _,.vec f26 1 (S+1) _ 0 (S+1) _ rfl (by omega) (fun k _=>by rw[Bn]),.refl _,trivial⟩) ?_;refine .see (.spx (m':=[(7,.ptr 21 (e21+1) 0)]) (hm':=(21,.box (e21+1) (rcO r++[clO cl',.slc 1 (S+1) (Ai coC co'),.vec 29 f29 0 (S+1)])) :: (29,.vec f29 1 (S+1) (xG er cl'.length)) :: [(26,.gone (f26+1)),(20,.gone (e20+1)),(22,.gone (e22+1)),(23,.gone e23'),(24,.gone f24),(25,.gone f25),(27,.gone f27),(28,.gone f28),(30,.gone f30),(31,.gone f31),(32,.gone f32)]) (by simp) (by simp) (by simp)) ?_;refine .see (fz_a (cs':=rcO r++[clO cl',.slc 1 (S+1) (Ai coC co'),.slc 1 (S+1) (xG er cl'.length)]) (by omega) ⟨.refl _,.refl _,.refl _,.refl _,.refl _,.refl _,.refl _,.vec f29 1 (S+1) _ 0 (S+1) _ rfl (by omega) (fun k _=>by rw[Bn]),trivial⟩) ?_;refine .see fz_b ?_;refine AW.sr (by simp[XI];rfl) ?_;refine .ret ?_;generalize hm:(21,Ad.gone (e21+1+1)) :: (29,Ad.gone (f29+1)) :: [(26,Ad.gone (f26+1)),(20,Ad.gone (e20+1)),(22,.gone (e22+1)),(23,.gone e23'),(24,.gone f24),(25,.gone f25),(27,.gone f27),(28,.gone f28),(30,.gone f30),(31,.gone f31),(32,.gone f32)]=M;have cK:∀i,¬(20<=i/\i<33)->hx M h i=h i:=fun i hi=>by subst hm;refine EN ?_;simp;omega
 refine⟨_,.refl _,by simp[rs94],fun i=>if 20<=i/\i<33 then .gone (hx M h i).ep else h i,fun i=>?_,(fun D hD=>by cases hD),?_⟩
 ·show OSub (hx M h i) _;by_cases hi:20<=i/\i<33
  ·simp only[Aj hi];exact .inl rfl
  ·simp only[Ag hi];rw[cK i hi];exact .refl _
 ·have fW:∀s,¬(20<=rwx s/\rwx s<33):=fun s=>by unfold rwx;omega
  refine⟨fun j=>(rcO r++[clO cl',.slc 1 (S+1) (Ai coC co'),.slc 1 (S+1) (xG er cl'.length)]).getD j .top,er,by simp[rs94],⟨rfl,rfl,rfl⟩,d1,d2,d3,d4,fun s r hr=>?_,fun s hs=>?_,fun i h1 h2=>⟨_,Aj ⟨h1,h2⟩⟩,fun i hi hs=>?_⟩
  ·simp only[Ag (fW s)];exact hX.rw s r hr
  ·simp only[Ag (fW s)];exact hX.fr s (by omega)
  ·simp only[Ag (show ¬(20<=i/\i<33) by omega)];exact hX.ke i hs
end
end
section
def sx(j:Nat):Nat:=2*j+101
theorem Iq(h:k<100):(k=sx s)=False:=eq_false (by unfold sx;omega)
theorem Eg:(sx s=sx t)=(s=t):=propext ⟨fun h=>by unfold sx at h;omega,fun h=>h▸rfl⟩
theorem LX:(rwx s=sx t)=False:=eq_false (by unfold sx rwx;omega)
def vS(ev lo:Nat->Nat)(j:Nat)(l:List Int):Aa:=.vec (sx j) (ev j) (lo j) l.length
def mSl(ev lo:Nat->Nat):Nat->List (Int×List Int)->List (Aa×Aa)
 |_,[]=>[]
 |j,p :: m=>(.int .i64 p.1,vS ev lo j p.2) :: mSl ev lo (j+1) m
def MX(ev lo:Nat->Nat)(m:List (Int×List Int))(h:Aq):Prop:=∀j k l,m[j]?=some (k,l)->∃N g,h (sx j)=.vec (ev j) 1 N g/\lo j+l.length<=N/\∀i x,l[i]?=some x->g (lo j+i)=[.int .i64 x]
def upN(f:Nat->Nat)(j v:Nat):Nat->Nat:=fun i=>if i=j then v else f i
theorem JY(ev lo:Nat->Nat):∀(m:List (Int×List Int)) (j0 i:Nat),(mSl ev lo j0 m)[i]?=m[i]?.map fun p=>(.int .i64 p.1,vS ev lo (j0+i) p.2)
 |[],j0,i=>rfl
 |p :: m,j0,0=>rfl
 |p :: m,j0,i+1=>by show(mSl ev lo (j0+1) m)[i]?=_;rw[JY ev lo m (j0+1) i];simp only[List.getElem?_cons_succ];rw[show j0+1+i=j0+(i+1) by omega]
theorem Pu(ev lo:Nat->Nat):∀(m:List (Int×List Int)) (j0:Nat),(mSl ev lo j0 m).length=m.length
 |[],_=>rfl
 |p :: m,j0=>by show(mSl ev lo (j0+1) m).length+1=_;rw[Pu ev lo m];rfl
theorem Pv{k:Int}{l:List Int}{E L:Nat}(hj:j<m.length)(hn:l.length=n):(mSl ev lo 0 m).set j (.int .i64 k,.vec (sx j) E L n)=mSl (upN ev j E) (upN lo j L) 0 (m.set j (k,l)):=by
 apply Lr;intro i;rw[JY,DP,DP,Pu,JY];by_cases e:j=i
 ·subst e;rw[Aj rfl,Aj hj,Aj rfl,Aj hj];simp[vS,upN,hn]
 ·rw[Ag e,Ag e];have e':¬i=j:=fun h=>e h.symm;simp[vS,upN,e']
theorem XJ{k:Int}{l:List Int}{E L:Nat}(hn:l.length=n):mSl ev lo 0 m++[(.int .i64 k,.vec (sx m.length) E L n)]=mSl (upN ev m.length E) (upN lo m.length L) 0 (m++[(k,l)]):=by
 apply Lr;intro i;rw[JY,List.getElem?_append,List.getElem?_append,Pu,JY];split
 ·rename_i h;have e':¬i=m.length:=by omega
  simp[vS,upN,e']
 ·rename_i h;by_cases e:i=m.length
  ·subst e;simp[vS,upN,hn]
  ·have:∃q,i-m.length=q+1:=⟨i-m.length-1,by omega⟩;obtain⟨q,hq⟩:=this;simp[hq]
theorem LY(ev lo:Nat->Nat)(a:Int):∀(m:List (Int×List Int)) (j0 i:Nat),(mget keqI m a=none/\Cm (.int .i64 a) (mSl ev lo j0 m) i=some none/\∀b,mput keqI m a b=m++[(a,b)]) \/ ∃j l,m[j]?=some (a,l)/\mget keqI m a=some l/\Cm (.int .i64 a) (mSl ev lo j0 m) i=some (some (i+j,vS ev lo (j0+j) l))/\∀b,mput keqI m a b=m.set j (a,b)
 |[],j0,i=>.inl ⟨rfl,rfl,fun _=>rfl⟩
 |p :: m,j0,i=>by
  have e:Cm (.int .i64 a) (mSl ev lo j0 (p :: m)) i=(match some (decide (a=p.1)) with | some true=>some (some (i,vS ev lo j0 p.2)) | some false=>Cm (.int .i64 a) (mSl ev lo (j0+1) m) (i+1) | none=>none):=rfl;by_cases h:a=p.1
  ·have hq:keqI a p.1=true:=AC h;refine .inr ⟨0,p.2,by rw[h];rfl,?_,by rw[e,AC h];rfl,fun b=>?_⟩
   ·show(match keqI a p.1 with | true=>some p.2 | false=>mget keqI m a)=_;rw[hq]
   ·show(match keqI a p.1 with | true=>(a,b) :: m | false=>p :: mput keqI m a b)=_;rw[hq];rfl
  ·have hq:keqI a p.1=false:=A9 h;have g:mget keqI (p :: m) a=mget keqI m a:=by show(match keqI a p.1 with | true=>some p.2 | false=>mget keqI m a)=_;rw[hq]
   have q:∀b,mput keqI (p :: m) a b=p :: mput keqI m a b:=fun b=>by show(match keqI a p.1 with | true=>(a,b) :: m | false=>p :: mput keqI m a b)=_;rw[hq]
   rw[e,A9 h,g];rcases LY ev lo a m (j0+1) (i+1) with ⟨h1,h2,h3⟩|⟨j,l,h0,h1,h2,h3⟩
   ·exact .inl ⟨h1,h2,fun b=>by rw[q,h3];rfl⟩
   ·refine .inr ⟨j+1,l,h0,h1,?_,fun b=>by rw[q,h3];rfl⟩;show Cm (.int .i64 a) (mSl ev lo (j0+1) m) (i+1)=_;rw[h2,show i+1+j=i+(j+1) by omega,show j0+1+j=j0+(j+1) by omega]
def mN(q:Af)(F:Int)(e6 n:Nat)(out:List Int)(e7:Nat)(rc:List Aa)(o8 o9 o10 o11 o12 o13 o14 o15:Ad):List (Nat×Ad) := [(0,.gone 2),(1,.gone 2),(2,.box 1 [.bool false,.str [],.str []]),(3,.box 1 [.int .i64 0,.nils]),(4,.box 1 [.bool q.Neg,.str q.Num,.str q.Den]),(5,.box 1 [.int .i64 F,.vec 6 e6 0 n]),(6,.vec e6 1 n (Ai iC out)),(7,.box e7 rc),(8,o8),(9,o9),(10,o10),(11,o11),(12,o12),(13,o13),(14,o14),(15,o15)]
structure GH(h:Aq):Prop where
 lo:∀i,16<=i->i<100->∃e,h i=.gone e
theorem GH.set(H:GH h):GH (hset h (sx s) o):=⟨fun i h1 h2=>by rw[BH (by unfold sx;omega)];exact H.lo i h1 h2⟩
theorem XK{m:List (Nat×Ad)}(hm:m.all (fun p=>Nat.blt p.1 100)=true):hset (hx m h) (sx s) o=hx m (hset h (sx s) o):=by
 funext j;by_cases e:j=sx s
 ·subst e;have h1:hx m (hset h (sx s) o) (sx s)=hset h (sx s) o (sx s):=LK hm (by unfold sx;omega);rw[h1];simp[hset]
 ·show(if j=sx s then o else lkx m h j)=lkx m (hset h (sx s) o) j;rw[Ag e];clear hm;induction m with
  |nil=>show h j=(if j=sx s then o else h j);rw[Ag e]
  |cons p m ih=>simp only[lkx,ih]
theorem XL{m:List (Nat×Ad)}(hm:m.all (fun p=>Nat.blt p.1 100)=true):m.all (fun p=>!(p.1==sx s))=true:=by
 rw[Da]at hm |-;intro p hp;have:=hm p hp;simp only[Gu]at this;have h2:p.1≠sx s:=by unfold sx;omega
 simpa using h2
structure MH(ev lo:Nat->Nat)(m:List (Int×List Int))(h:Aq):Prop where
 mx:MX ev lo m h
 fr:∀j,m.length<=j->∃e,h (sx j)=.gone e
theorem MH.old(H:MH ev (fun _=>0) m h){s:Int}{l:List Int}(hj:m[j]?=some (a,l))(hg:∀i x,(l++[s])[i]?=some x->g i=[.int .i64 x]) :
  MH (upN ev j (ev j+1)) (fun _=>0) (m.set j (a,l++[s])) (hset h (sx j) (.vec (ev j+1) 1 (l.length+1) g)):=by
 obtain⟨dZ,_⟩:=A8.1 hj;refine⟨fun i k l' h1=>?_,fun i hi=>?_⟩
 ·rw[DP]at h1;by_cases e:j=i
  ·subst e;rw[Aj rfl,Aj dZ]at h1;simp only[Ba,BB]at h1;obtain⟨rfl,rfl⟩:=h1;refine⟨l.length+1,g,by rw[Dn];simp[upN],by simp,fun i x hx=>?_⟩;rw[Bn];exact hg i x hx
  ·rw[Ag e]at h1;obtain⟨N,g',h2,h3⟩:=H.mx i k l' h1;have e':¬i=j:=fun h=>e h.symm;exact⟨N,g',by rw[BH (fun h=>e' (by rw[Eg]at h;exact h)),h2];simp[upN,e'],h3⟩
 ·rw[J6]at hi;obtain⟨e,he⟩:=H.fr i hi;exact⟨e,by rw[BH (fun h=>by rw[Eg]at h;omega)];exact he⟩
theorem MH.new(H:MH ev (fun _=>0) m h){s:Int} :
  MH (upN ev m.length K) (fun _=>0) (m++[(a,[s])]) (hset h (sx m.length) (.vec K 1 1 (Ai iC [s]))):=by
 refine⟨fun i k l' h1=>?_,fun i hi=>?_⟩
 ·rw[List.getElem?_append]at h1;split at h1
  ·rename_i hlt;obtain⟨N,g',h2,h3⟩:=H.mx i k l' h1;have e':¬i=m.length:=by omega
   exact⟨N,g',by rw[BH (fun h=>e' (by rw[Eg]at h;exact h)),h2];simp[upN,e'],h3⟩
  ·have h0:i-m.length=0:=by
    obtain⟨h2,_⟩:=A8.1 h1;simp at h2;omega
   rw[h0]at h1;simp only[Gbc,Ba,BB]at h1;obtain⟨rfl,rfl⟩:=h1;obtain rfl:i=m.length:=by rename_i hge;omega
   refine⟨1,_,by rw[Dn];simp[upN];rfl,by simp,fun i x hx=>?_⟩;rw[Bn];exact Bb hx
 ·simp at hi;obtain⟨e,he⟩:=H.fr i (by omega);exact⟨e,by rw[BH (fun h=>by rw[Eg]at h;omega)];exact he⟩
end
section
def glen(m:List (Int×List Int))(k:Int):Nat:=(Option.getD (mget keqI m k) []).length
def capM(m:List (Int×List Int)):Prop:=∀k,glen m k<=1000000000
def leM(m m':List (Int×List Int)):Prop:=∀k,glen m k<=glen m' k
theorem leM.refl(m:List (Int×List Int)):leM m m:=fun _=>AA _
theorem leM.trans{a b c:List (Int×List Int)}(h:leM a b)(h':leM b c):leM a c:=fun k=>AU (h k) (h' k)
theorem capM.le{a b:List (Int×List Int)}(h:leM a b)(h':capM b):capM a:=fun k=>AU (h k) (h' k)
theorem capM.l(h:capM m){k:Int}{l:List Int}(e:mget keqI m k=some l):l.length<=1000000000:=by have:=h k;unfold glen at this;rw[e]at this;exact this
theorem XM(a:Int)(b:List Int)(k:Int):∀m:List (Int×List Int),mget keqI (mput keqI m a b) k=if k=a then some b else mget keqI m k
 |[]=>by
  show(match keqI k a with | true=>some b | false=>none)=_;by_cases h:k=a
  ·rw[show keqI k a=true from AC h,Aj h]
  ·rw[show keqI k a=false from A9 h,Ag h];rfl
 |p :: m=>by
  show mget keqI (match keqI a p.1 with | true=>(a,b) :: m | false=>p :: mput keqI m a b) k=if k=a then some b else(match keqI k p.1 with | true=>some p.2 | false=>mget keqI m k);by_cases h:a=p.1
  ·rw[show keqI a p.1=true from AC h];show(match keqI k a with | true=>some b | false=>mget keqI m k)=_;by_cases h2:k=a
   ·rw[show keqI k a=true from AC h2,Aj h2]
   ·rw[show keqI k a=false from A9 h2,Ag h2,show keqI k p.1=false from A9 (by omega)]
  ·rw[show keqI a p.1=false from A9 h];show(match keqI k p.1 with | true=>some p.2 | false=>mget keqI (mput keqI m a b) k)=_;rw[XM a b k m];by_cases h2:k=p.1
   ·simp only[show keqI k p.1=true from AC h2,Ag (show ¬k=a by omega)]
   ·rw[show keqI k p.1=false from A9 h2]
theorem XN(m:List (Int×List Int))(a s k:Int):glen (Bs m a s) k=if k=a then glen m a+1 else glen m k:=by
 unfold glen Bs;rw[XM];by_cases h:k=a
 ·rw[Aj h,Aj h];simp
 ·rw[Ag h,Ag h]
theorem leM.put(m:List (Int×List Int))(a s:Int):leM m (Bs m a s):=fun k=>by
 rw[XN];split
 ·rename_i h;subst h;omega
 ·omega
theorem GI{a s:Int}:∀{N j:Nat} {m m1:List (Int×List Int)},forN (fun m (_:Nat)=>some (Bs m a s)) N j m=some m1->leM m m1/\glen m1 a=glen m a+N
 |0,j,m,m1,h=>by cases h;exact⟨.refl _,rfl⟩
 |N+1,j,m,m1,h=>by obtain⟨h1,h2⟩:=GI (show forN (fun m (_:Nat)=>some (Bs m a s)) N (j+1) (Bs m a s)=some m1 from h);refine⟨(leM.put m a s).trans h1,?_⟩;rw[h2,XN,Aj rfl];omega
theorem XO{rate:Int->Int->Option Af}{r:Al}:∀{cl:List AB} {m m1:List (Int×List Int)} {q q1:Af},Eh rate r cl m q=some (m1,q1)->leM m m1
 |[],m,m1,q,q1,h=>by cases h;exact .refl _
 |c :: l,m,m1,q,q1,h=>by obtain⟨a,_,h⟩:=bd_e (show bd (rate c.Span r.Hi) _=some (m1,q1) from h);obtain⟨b,_,h⟩:=bd_e h;obtain⟨e,_,h⟩:=bd_e h;obtain⟨m2,h1,h⟩:=bd_e h;obtain⟨i,_,h⟩:=bd_e h;obtain⟨g,_,h⟩:=bd_e h;obtain⟨p,_,h⟩:=bd_e h;obtain⟨q2,_,h⟩:=bd_e h;exact(GI h1).1.trans (XO h)
theorem Pw{hd:AM}:∀{cl:List AB} {co:List Af} {x:List Int} {m m1:List (Int×List Int)} {q q1:Af},D8 hd cl co x m q=some (m1,q1)->leM m m1
 |cl,co,[],m,m1,q,q1,h=>by
  have:some (m,q)=some (m1,q1):=by cases cl<;>cases co<;>exact h
  cases this;exact .refl _
 |[],_,n :: x,m,m1,q,q1,h=>by cases h
 |c :: cl,[],n :: x,m,m1,q,q1,h=>by cases h
 |c :: cl,g :: co,n :: x,m,m1,q,q1,h=>by obtain⟨m2,h1,h⟩:=bd_e (show bd (forN _ n.toNat 0 m) _=some (m1,q1) from h);obtain⟨i,_,h⟩:=bd_e h;obtain⟨p,_,h⟩:=bd_e h;obtain⟨q2,_,h⟩:=bd_e h;exact(GI h1).1.trans (Pw h)
theorem XP{cl:List AB}:∀{T:List AM} {co:List (List Af)} {x:List (List Int)} {m m1:List (Int×List Int)} {q q1:Af},D9 cl T co x m q=some (m1,q1)->leM m m1
 |T,co,[],m,m1,q,q1,h=>by
  have:some (m,q)=some (m1,q1):=by cases T<;>cases co<;>exact h
  cases this;exact .refl _
 |[],_,n :: x,m,m1,q,q1,h=>by cases h
 |c :: cl,[],n :: x,m,m1,q,q1,h=>by cases h
 |hd :: T,co :: cs,n :: x,m,m1,q,q1,h=>by obtain⟨⟨m2,q2⟩,h1,h⟩:=bd_e (show bd (D8 hd cl co n m q) _=some (m1,q1) from h);exact(Pw h1).trans (XP h)
def bE(C4 C5 fnv:Aa)(e7 e8:Nat)(L A47 A48:Aa):List (Nat×Aa):=[(4,C4),(5,C5),(6,.ptr 2 1 0),(7,.ptr 3 1 0),(8,fnv),(9,.ptr 4 1 0),(10,.ptr 5 1 0),(12,.ptr 7 e7 0),(13,.mp 8 e8),(46,L),(47,A47),(48,A48)]
section
attribute [local simp] BV Gm BG BW BX BY yza subm subh Ci pick Bx
attribute [local simp] lkx Pp Cz subx bE mN rcO C3 C6 Iq Eg mv1 mvO Ad.wep Dn
attribute [local simp] XK
theorem XQ{m:List (Nat×Aa)}{B K0:Nat}{l:List (Aa×Aa)}{k:Aa}(pM:i≠8)(eY:i≠B)(m9:8≠B)(hB:rest.all (fun p=>!(p.1==B))=true)(hh:h B=.gone K0) :
  See EE ⟨tl m N,hx ((i,.vec e 1 1 g) :: (8,.amap e8 (l++[(k,.vec i e 0 1)])) :: rest) h,[]⟩ ⟨tl m N,hx ((i,.gone (e+1)) :: (8,.amap e8 (l++[(k,.vec B (K0+1) 0 1)])) :: rest) (hset h B (.vec (K0+1) 1 1 g)),[]⟩:=by
 have e2:∀(l:List (Nat×Ad)) (j:Nat),j≠B->lkx l (hset h B (.vec (K0+1) 1 1 g)) j=lkx l h j:=fun l j hj=>by
  induction l with
  |nil=>exact BH hj
  |cons p l ih=>simp only[lkx,ih]
 have eB:(⟨tl m N,hx ((i,.vec e 1 1 g) :: (8,.amap e8 (l++[(k,.vec i e 0 1)])) :: rest) h,[]⟩:Au).h B=.gone K0:=by show lkx _ h B=_;simp only[lkx,Ag eY,Ag m9,EN hB,hh]
 refine See.move (i:=i) (B:=B) (o:=.vec e 1 1 g) eY ?_ trivial (by rw[eB];rfl) ?_ ?_ (fun j iE jo=>?_) (MVl.refl _) rfl rfl
 ·show lkx _ h i=_;simp[lkx]
 ·show lkx _ _ i=_;simp[lkx]
 ·rw[eB];show lkx _ _ B=_;simp only[lkx,Ag eY,Ag m9,EN hB];exact Dn
 ·rw[eB];show OM i e B (K0+1) (lkx _ h j) (lkx _ _ j);have jv:¬i=j:=fun k=>iE k.symm;by_cases h8:8=j
  ·subst h8;simp only[lkx,Ag jv,AX];refine .inr (.inr (.inr ⟨e8,_,_,rfl,rfl,by simp,fun q a b ha hb=>?_⟩));rw[List.getElem?_append]at ha hb;split at ha
   ·rename_i hq;rw[Aj hq]at hb;rw[ha]at hb;cases hb;exact⟨.refl _,.refl _⟩
   ·rename_i hq;rw[Ag hq]at hb;have hz:q-l.length=0:=by obtain⟨h2,_⟩:=A8.1 ha;simp at h2;omega
    rw[hz]at ha hb;cases ha;cases hb;exact⟨.refl _,.vec _ _⟩
  ·simp only[lkx,Ag jv,Ag h8];rw[e2 rest j jo];exact .inl rfl
theorem LZ(j:Nat):upN (fun _=>0) j 0=fun _=>0:=funext fun i=>by unfold upN;split<;>rfl
theorem XR{l:List Int}{s:Int}:(l++[s]).length=l.length+1:=by simp
theorem wzv3{A84 A85:Aa}{k s:Int}(hM:MH ev (fun _=>0) m h)(hG:GH h)(aG:∀l,mget keqI m k=some l->l.length<=1000000000)  
  (cont:∀ev' h' e10' e11',MH ev' (fun _=>0) (Bs m k s) h'->GH h'->(∀t,h' (rwx t)=h (rwx t))->AW EE none Tryz.prog b Q ⟨tl (bE C4 C5 fnv e7 e8 L A47 A48++[(15,.ptr 9 e9 0),(16,.int .i64 s),(59,A59),(60,A60),(61,A61),(84,A84),(85,A85)]) 231,
   hx (mN q F e6 n out e7 (rcO r) (.amap e8 (mSl ev' (fun _=>0) 0 (Bs m k s))) (.box e9 [.int .i64 k,.int .i64 tk]) (.gone e10') (.gone e11') o12 o13 o14 o15) h',[]⟩) :
  AW EE none Tryz.prog (.seq (.block 5 (.reg true (Ma 0) XS)) b) Q ⟨tl (bE C4 C5 fnv e7 e8 L A47 A48++[(15,.ptr 9 e9 0),(16,.int .i64 s),(59,A59),(60,A60),(61,A61),(84,A84),(85,A85)]) 231,
   hx (mN q F e6 n out e7 (rcO r) (.amap e8 (mSl ev (fun _=>0) 0 m)) (.box e9 [.int .i64 k,.int .i64 tk]) (.gone e10) (.gone e11) o12 o13 o14 o15) h,[]⟩:=by
 rcases LY ev (fun _=>0) k m 0 0 with ⟨h1,h2,h3⟩ | ⟨j,l,h0,h1,h2,h3⟩
 ·have bZ:Bs m k s=m++[(k,[s])]:=by
   unfold Bs;rw[h3,h1];rfl
  refine .seq (.block (AW.d1 (by simp[Ma,EB,BS,Cx,Aa.kkind,h2];exact⟨by kernel_rfl,rfl⟩) ?_));simp only[Ay,ablk];obtain⟨K0,iK⟩:=hM.fr m.length (AA _);refine .see (.spx (m':=bE C4 C5 fnv e7 e8 L A47 A48++[(15,.ptr 9 e9 0),(16,.int .i64 s),(59,A59),(60,A60),(61,A61),(84,A84),(85,A85)]) (hm':=(11,.vec (e11+1) 1 1 (Ai iC [s])) :: (8,.amap e8 (mSl ev (fun _=>0) 0 m++[(.int .i64 k,.vec 11 (e11+1) 0 1)])) :: [(0,.gone 2),(1,.gone 2),(2,.box 1 [.bool false,.str [],.str []]),(3,.box 1 [.int .i64 0,.nils]),(4,.box 1 [.bool q.Neg,.str q.Num,.str q.Den]),(5,.box 1 [.int .i64 F,.vec 6 e6 0 n]),(6,.vec e6 1 n (Ai iC out)),(7,.box e7 (rcO r)),(9,.box e9 [.int .i64 k,.int .i64 tk]),(10,.gone (e10+1)),(12,o12),(13,o13),(14,o14),(15,o15)]) (by simp) ?_ (by simp)) ?_
  ·simp;rfl
  refine .see (XQ (B:=sx m.length) (by omega) (by unfold sx;omega) (by unfold sx;omega) (XL (by simp)) iK) ?_;rw[XJ (l:=[s]) (n:=1) rfl,LZ,<-bZ];refine .see (.spx (m':=bE C4 C5 fnv e7 e8 L A47 A48++[(15,.ptr 9 e9 0),(16,.int .i64 s),(59,A59),(60,A60),(61,A61),(84,A84),(85,A85)]) (hm':=mN q F e6 n out e7 (rcO r) (.amap e8 (mSl (upN ev m.length (K0+1)) (fun _=>0) 0 (Bs m k s))) (.box e9 [.int .i64 k,.int .i64 tk]) (.gone (e10+1)) (.gone (e11+2)) o12 o13 o14 o15) (by simp) (by simp) (by simp)) ?_;exact cont _ _ _ _ (by rw[bZ];exact hM.new) hG.set (fun t=>BH (fun e=>by rw[LX]at e;exact e))
 ·have hl:=aG l h1;simp only[Bn]at h2;have bZ:Bs m k s=m.set j (k,l++[s]):=by unfold Bs;rw[h3,h1];rfl
  obtain⟨N,g,z1,z2,z3⟩:=hM.mx j k l h0;simp only[Bn]at z2 z3;have bW:(l.length+1)*8<=140737488355328:=by omega
  obtain⟨dZ,_⟩:=A8.1 h0
  have km:∀i x,(l++[s])[i]?=some x->(fun k:Nat=>if k<l.length then g k else([[Aa.int .i64 s]][k-l.length]?).getD []) i=[.int .i64 x]:=fun i x hx=>by
   rw[List.getElem?_append]at hx;simp only;split at hx
   ·rename_i hi;rw[Aj hi];exact z3 i x hx
   ·rename_i hi;rw[Ag hi];have h0:i-l.length=0:=by obtain⟨h2,_⟩:=A8.1 hx;simp at h2;omega
    rw[h0]at hx |-;cases hx;rfl
  refine .seq (.block (AW.d1 (by simp[Ma,EB,BS,Cx,Aa.kkind,h2,vS,z1,z2,bW];exact⟨by kernel_rfl,rfl⟩) ?_));simp only[Ay,ablk];refine .see (.spx (m':=bE C4 C5 fnv e7 e8 L A47 A48++[(15,.ptr 9 e9 0),(16,.int .i64 s),(59,A59),(60,A60),(61,A61),(84,A84),(85,A85)]) (hm':=mN q F e6 n out e7 (rcO r) (.amap e8 (mSl (upN ev j (ev j+1)) (fun _=>0) 0 (Bs m k s))) (.box e9 [.int .i64 k,.int .i64 tk]) (.gone (e10+1)) (.gone e11) o12 o13 o14 o15) (by simp) ?_ (by simp)) ?_
  ·simp;rw[Pv (l:=l++[s]) dZ XR,LZ,<-bZ];exact yza _
  exact cont _ _ _ _ (by rw[bZ];exact hM.old h0 km) hG.set (fun t=>BH (fun e=>by rw[LX]at e;exact e))
structure YG where
 j:Nat
 m:List (Int×List Int)
 ev:Nat->Nat
 h:Aq
 a:Nat
 b:Nat
theorem wzvx{k s:Int}(hM:MH ev (fun _=>0) m h)(hG:GH h)(hF:forN (fun m (_:Nat)=>some (Bs m k s)) tk.toNat 0 m=some m1) (aG:capM m1) 
  (cont:∀ev' h' e10' e11',MH ev' (fun _=>0) m1 h'->GH h'->(∀t,h' (rwx t)=h (rwx t))->Q .normal ⟨tl (bE C4 C5 fnv e7 e8 L A47 A48++[(15,.ptr 9 e9 0),(16,.int .i64 s),(59,A59),(60,A60),(61,A61)]) 231,
   hx (mN q F e6 n out e7 (rcO r) (.amap e8 (mSl ev' (fun _=>0) 0 m1)) (.box e9 [.int .i64 k,.int .i64 tk]) (.gone e10') (.gone e11') o12 o13 o14 o15) h',[]⟩) :
  AW EE none Tryz.prog (.block 4 (.loop (Px 0))) Q ⟨tl (bE C4 C5 fnv e7 e8 L A47 A48++[(15,.ptr 9 e9 0),(16,.int .i64 s),(59,A59),(60,A60),(61,A61),(84,.int .i64 tk),(85,.int .i64 0)]) 231,
   hx (mN q F e6 n out e7 (rcO r) (.amap e8 (mSl ev (fun _=>0) 0 m)) (.box e9 [.int .i64 k,.int .i64 tk]) (.gone e10) (.gone e11) o12 o13 o14 o15) h,[]⟩:=by
 have hN:tk.toNat<=1000000000:=by have:=(GI hF).2;have:=aG k;omega
 refine .block (AW.lph (fun y:YG=>bE C4 C5 fnv e7 e8 L A47 A48++[(15,.ptr 9 e9 0),(16,.int .i64 s),(59,A59),(60,A60),(61,A61),(84,.int .i64 tk),(85,.int .i64 y.j)]) (fun y=>mN q F e6 n out e7 (rcO r) (.amap e8 (mSl y.ev (fun _=>0) 0 y.m)) (.box e9 [.int .i64 k,.int .i64 tk]) (.gone y.a) (.gone y.b) o12 o13 o14 o15) (fun y=>y.h) (fun y=>tk.toNat-y.j) (fun y=>y.j<=tk.toNat/\MH y.ev (fun _=>0) y.m y.h/\GH y.h/\(∀t,y.h (rwx t)=h (rwx t))/\forN (fun m (_:Nat)=>some (Bs m k s)) (tk.toNat-y.j) y.j y.m=some m1) ⟨0,m,ev,h,e10,e11⟩ ⟨BA _,hM,hG,fun _=>rfl,hF⟩ rfl (by simp) (by simp) (by simp) ?_);rintro⟨j,m,ev,h2,a,b⟩ ⟨hj,hM,hG,hr,hF⟩;simp only at hj hM hG hr hF |-;refine AW.sr (by simp[XT];rfl) ?_;refine .seq (AW.if' (decide ((j:Int)<tk)) (by simp) (fun et=>AW.skip ?_) (fun et=>?_));rotate_left
 ·obtain rfl:j=tk.toNat:=by have:=of_decide_eq_false et;omega
  rw[Nat.sub_self]at hF;obtain rfl:=AL (show some m=some m1 from hF);exact .exs (by simp only[Ay,ablk,AX];exact cont ev h2 a b hM hG hr) (by simp) (by simp) (by simp)
 have hlt:j<tk.toNat:=by have:=BC et;omega
 rw[show tk.toNat-j=(tk.toNat-(j+1))+1 by omega]at hF;have hF:forN (fun m (_:Nat)=>some (Bs m k s)) (tk.toNat-(j+1)) (j+1) (Bs m k s)=some m1:=hF;have aQ:inr .i64 ((j:Int)+1):=by show _/\_;omega
 have hc:capM m:=aG.le ((leM.put m k s).trans (GI hF).1);simp only[Ay];refine .see (.spx (m':=bE C4 C5 fnv e7 e8 L A47 A48++[(15,.ptr 9 e9 0),(16,.int .i64 s),(59,A59),(60,A60),(61,A61),(84,.int .i64 tk),(85,.int .i64 j)]) (hm':=mN q F e6 n out e7 (rcO r) (.amap e8 (mSl ev (fun _=>0) 0 m)) (.box e9 [.int .i64 k,.int .i64 tk]) (.gone a) (.gone b) o12 o13 o14 o15) (by simp) (by simp) (by simp)) ?_;refine wzv3 hM hG (fun l e=>hc.l e) fun ev' h' a' b' dR dT bu=>?_;refine AW.r1 (by simp[XU];exact⟨aQ,rfl⟩) ?_;exact⟨⟨j+1,Bs m k s,ev',h',a',b'⟩,⟨by show j+1<=_;omega,dR,dT,fun t=>(bu t).trans (hr t),hF⟩,by show tk.toNat-(j+1)<tk.toNat-j;omega,.spx (by simp) (by simp) (by simp)⟩
end
end
section
structure YH where
 j:Nat
 m:List (Int×List Int)
 q:Af
 ev:Nat->Nat
 h:Aq
 c:Nat
 a:Nat
 b:Nat
structure Ir(caps:List Aa)(rate:Int->Int->Option Af):Prop where
 hE:CY Tryz.prog 91=true
 hR:∀(k s:Int) (a:Af),rate k s=some a->AK EE Tryz.prog 91 (fnArgs 0 [.int .i64 k,.int .i64 s] caps) (.agg a.cells)
 hI:∀(n:Int) (r:Af),Ec n=some r->AK EE Tryz.prog 42 [.int .i64 n] (.agg r.cells)
 hM:∀(a b r:Af),Dl a b=some r->AK EE Tryz.prog 30 [.agg a.cells,.agg b.cells] (.agg r.cells)
 hA:∀(a b r:Af),Ct a b=some r->AK EE Tryz.prog 31 [.agg a.cells,.agg b.cells] (.agg r.cells)
 hS:∀(a b r:Af),Dm a b=some r->AK EE Tryz.prog 111 [.agg a.cells,.agg b.cells] (.agg r.cells)
 hC:∀(a b:Af) (r:Int),Fq a b=some r->AK EE Tryz.prog 23 [.agg a.cells,.agg b.cells] (.int .i64 r)
 hCl:∀(r:Al) (l:List An) (c:List AB),Ip r l=some c->AK EE Tryz.prog 44 [.agg r.cells,slcV 7 An.cells l] (slcV 2 AB.cells c)
section
attribute [local simp] BV Gm BG BW BX BY yza subm subh Ci pick Bx
attribute [local simp] lkx Dk Cz subx bE mN rcO clO C3 C6 Iq Eg Dn
theorem wzw0(EC:Ir caps rate)(cq:cl.length<=1000000)(hM:MH ev (fun _=>0) m h)(hG:GH h)(hF:Eh rate r cl m q=some (m1,q1)) (aG:capM m1) 
  (cont:∀ev' h' e9' e10' e11',MH ev' (fun _=>0) m1 h'->GH h'->(∀t,h' (rwx t)=h (rwx t))->Q .normal ⟨tl (bE C4 C5 (.fn 91 0 caps) e7 e8 L A47 A48) 231,
   hx (mN q1 F e6 n out e7 (rcO r) (.amap e8 (mSl ev' (fun _=>0) 0 m1)) (.gone e9') (.gone e10') (.gone e11') o12 o13 o14 o15) h',[]⟩) :
  AW EE none Tryz.prog (.block 2 (.loop (XV 0))) Q ⟨tl (bE C4 C5 (.fn 91 0 caps) e7 e8 L A47 A48++[(59,clO cl),(60,.int .i64 cl.length),(61,.int .i64 0)]) 231,
   hx (mN q F e6 n out e7 (rcO r) (.amap e8 (mSl ev (fun _=>0) 0 m)) (.gone e9) (.gone e10) (.gone e11) o12 o13 o14 o15) h,[]⟩:=by
 refine .block (AW.lph (fun y:YH=>bE C4 C5 (.fn 91 0 caps) e7 e8 L A47 A48++[(59,clO cl),(60,.int .i64 cl.length),(61,.int .i64 y.j)]) (fun y=>mN y.q F e6 n out e7 (rcO r) (.amap e8 (mSl y.ev (fun _=>0) 0 y.m)) (.gone y.c) (.gone y.a) (.gone y.b) o12 o13 o14 o15) (fun y=>y.h) (fun y=>cl.length-y.j) (fun y=>y.j<=cl.length/\MH y.ev (fun _=>0) y.m y.h/\GH y.h/\(∀t,y.h (rwx t)=h (rwx t))/\Eh rate r (cl.drop y.j) y.m y.q=some (m1,q1)) ⟨0,m,q,ev,h,e9,e10,e11⟩ ⟨BA _,hM,hG,fun _=>rfl,hF⟩ rfl (by simp) (by simp) (by simp) ?_);rintro⟨j,m,q,ev,h2,e9,a,b⟩ ⟨hj,hM,hG,hr,hF⟩;refine AW.ath fun P hP=>?_;simp only at hj hM hG hr hF |-;refine AW.sr (by simp[XW];rfl) ?_;refine .seq (AW.if' (decide ((j:Int)<(cl.length:Int))) (by simp) (fun et=>AW.skip ?_) (fun et=>?_));rotate_left
 ·obtain rfl:j=cl.length:=by have:=of_decide_eq_false et;omega
  rw[List.drop_length]at hF;obtain h3:=AL (show some (m,q)=some (m1,q1) from hF);simp only[BB]at h3;obtain⟨rfl,rfl⟩:=h3;exact .exs (by simp only[Ay,ablk,AX];exact cont ev h2 e9 a b hM hG hr) (by simp) (by simp) (by simp)
 have hlt:j<cl.length:=by have:=BC et;omega
 obtain⟨c,hc⟩:∃c,cl[j]?=some c:=⟨_,AF hlt⟩;have cc:Ai AB.cells cl j=c.cells:=Bb hc;rw[Fn hlt,show cl[j]=c from(A8.1 hc).2]at hF;obtain⟨ra,p1,hF⟩:=bd_e (show bd (rate c.Span r.Hi) _=some (m1,q1) from hF);obtain⟨rb,p2,hF⟩:=bd_e hF;obtain⟨e,p3,hF⟩:=bd_e hF;obtain⟨m2,p4,hF⟩:=bd_e hF;obtain⟨i,p5,hF⟩:=bd_e hF;obtain⟨g,p6,hF⟩:=bd_e hF;obtain⟨p,p7,hF⟩:=bd_e hF;obtain⟨q2,p8,hF⟩:=bd_e hF;have s1:=EC.hR _ _ _ p1;have s2:=EC.hR _ _ _ p2;have s3:=EC.hC _ _ _ p3;have s5:=EC.hI _ _ p5;have s6:=EC.hR _ _ _ p6;have s7:=EC.hM _ _ _ p7;have s8:=EC.hA _ _ _ p8;have hE:=EC.hE;have dt:capM m2:=aG.le (XO hF);have aQ:inr .i64 ((j:Int)+1):=by show _/\_;omega
 simp only[Ay];refine .seq (.block (AW.sr (by simp[XX,hlt,cc];rfl) ?_));refine AW.sr (by simp[XY];rfl) ?_;generalize gu:(bif decide (e<0) then r.Hi else r.Lo)=best at p4 p6 s6
 have step:AW EE none Tryz.prog (.seq (.seq (.reg false (Py 0) []) (.block 4 (.loop (Px 0)))) (.reg true (Pz 0) XZ)) (ablk 3 (Ay (AW EE none Tryz.prog (.reg false (P0 0) []) (Ay P (ablk 2 Q))) (Ay P (ablk 2 Q)))) ⟨tl (bE C4 C5 (.fn 91 0 caps) e7 e8 L A47 A48++[(15,.ptr 9 (e9+1) 0),(16,.int .i64 best),(59,clO cl),(60,.int .i64 cl.length),(61,.int .i64 j)]) 231,
   hx (mN q F e6 n out e7 (rcO r) (.amap e8 (mSl ev (fun _=>0) 0 m)) (.box (e9+1) [.int .i64 c.Span,.int .i64 c.Ticks]) (.gone a) (.gone b) o12 o13 o14 o15) h2,[]⟩:=by
  refine .seq (.seq (AW.r1 (by simp[Py];rfl) ?_));refine .see (.spx (m':=bE C4 C5 (.fn 91 0 caps) e7 e8 L A47 A48++[(15,.ptr 9 (e9+1) 0),(16,.int .i64 best),(59,clO cl),(60,.int .i64 cl.length),(61,.int .i64 j),(84,.int .i64 c.Ticks),(85,.int .i64 0)]) (hm':=mN q F e6 n out e7 (rcO r) (.amap e8 (mSl ev (fun _=>0) 0 m)) (.box (e9+1) [.int .i64 c.Span,.int .i64 c.Ticks]) (.gone a) (.gone b) o12 o13 o14 o15) (by simp) (by simp) (by simp)) ?_;refine wzvx hM hG p4 dt fun ev' h' a' b' dR dT bu=>?_;simp only[Ay];refine AW.d1 (by simp[Pz];refine Bi.pure _ s5 ?_;simp;refine⟨hE,Bi.pure _ s6 ?_⟩;simp;refine Bi.pure _ s7 ?_;refine Bi.pure _ s8 ?_;simp;exact⟨by kernel_rfl,rfl⟩) ?_;simp only[ablk,Ay];refine AW.r1 (by simp[P0];exact⟨aQ,rfl⟩) ?_;rw[hP];exact⟨⟨j+1,m2,q2,ev',h',e9+1,a',b'⟩,⟨by show j+1<=_;omega,dR,dT,fun t=>(bu t).trans (hr t),hF⟩,by show cl.length-(j+1)<cl.length-j;omega,.spx (by simp) (by simp) (by simp)⟩
 refine .seq (AW.sd (by simp[Ya];refine⟨hE,Bi.pure _ s1 ?_⟩;simp;refine⟨hE,Bi.pure _ s2 ?_⟩;simp;refine Bi.pure _ s3 ?_;simp;exact⟨by kernel_rfl,rfl⟩) ?_);refine AW.if' (decide (e<0)) (by simp) (fun et=>?_) (fun et=>AW.skip ?_)
 ·refine AW.r1 (by simp[Yb];rfl) ?_;simp only[Ay];have hb:r.Hi=best:=by rw[<-gu,et];rfl
  exact .see (.spx (by simp[hb]) (by simp) (by simp)) step
 ·simp only[Ay];have hb:r.Lo=best:=by rw[<-gu,et];rfl
  exact .see (.spx (by simp[hb]) (by simp) (by simp)) step
end
end
section
structure YK where
 j:Nat
 m:List (Int×List Int)
 ev:Nat->Nat
 h:Aq
 a:Nat
 b:Nat
structure YL where
 j:Nat
 m:List (Int×List Int)
 q:Af
 ev:Nat->Nat
 h:Aq
 a:Nat
 b:Nat
section
attribute [local simp] BV Gm BG BW BX BY yza subm subh Ci pick Bx
attribute [local simp] lkx Pp Cz subx bE mN rcO clO C3 C6 Iq Eg Dn
attribute [local simp] XK
theorem wzu7{A21 A133 A134:Aa}(hT:TkV f cl co er nn S){c:AB}(hc:cl[cx]?=some c)(cq:cx<nn)(hh:r.Table[sI]?=some hd)(iL:sI<r.Table.length){k s:Int}(hk:k=c.Span)(hs:s=hd.Stage)(hM:MH ev (fun _=>0) m h)(hG:GH h)(aG:∀l,mget keqI m k=some l->l.length<=1000000000)  
  (cont:∀ev' h' e10' e11',MH ev' (fun _=>0) (Bs m k s) h'->GH h'->(∀t,h' (rwx t)=h (rwx t))->AW EE none Tryz.prog b Q ⟨tl (bE C4 C5 fnv e7 e8 L A47 A48++[(17,.cptr f 8 0),(18,.int .i64 sI),(20,.int .i64 cx),(21,A21),(119,A119),(120,A120),(121,A121),(126,A126),(127,A127),(128,A128),(133,A133),(134,A134)]) 231,
   hx (mN q F e6 n out e7 (rcO r) (.amap e8 (mSl ev' (fun _=>0) 0 (Bs m k s))) o9 o10 o11 (.gone e10') (.gone e11') o14 o15) h',[]⟩) :
  AW EE none Tryz.prog (.seq (.block 11 (.reg true (Mb 0) Yc)) b) Q ⟨tl (bE C4 C5 fnv e7 e8 L A47 A48++[(17,.cptr f 8 0),(18,.int .i64 sI),(20,.int .i64 cx),(21,A21),(119,A119),(120,A120),(121,A121),(126,A126),(127,A127),(128,A128),(133,A133),(134,A134)]) 231,
   hx (mN q F e6 n out e7 (rcO r) (.amap e8 (mSl ev (fun _=>0) 0 m)) o9 o10 o11 (.gone e12) (.gone e13) o14 o15) h,[]⟩:=by
 have cc:Ai AB.cells cl cx=c.cells:=Bb hc;have chd:Ai AM.cells r.Table sI=hd.cells:=Bb hh;subst hk;subst hs;rcases LY ev (fun _=>0) c.Span m 0 0 with ⟨h1,h2,h3⟩ | ⟨j,l,h0,h1,h2,h3⟩
 ·have bZ:Bs m c.Span hd.Stage=m++[(c.Span,[hd.Stage])]:=by
   unfold Bs;rw[h3,h1];rfl
  refine .seq (.block (AW.d1 (by simp[Mb,hT.f5,cq,cc,chd,iL,EB,BS,Cx,Aa.kkind,h2];exact⟨by kernel_rfl,rfl⟩) ?_));simp only[Ay,ablk];obtain⟨K0,iK⟩:=hM.fr m.length (AA _);refine .see (.spx (m':=bE C4 C5 fnv e7 e8 L A47 A48++[(17,.cptr f 8 0),(18,.int .i64 sI),(20,.int .i64 cx),(21,A21),(119,A119),(120,A120),(121,A121),(126,A126),(127,A127),(128,A128),(133,A133),(134,A134)]) (hm':=(13,.vec (e13+1) 1 1 (Ai iC [hd.Stage])) :: (8,.amap e8 (mSl ev (fun _=>0) 0 m++[(.int .i64 c.Span,.vec 13 (e13+1) 0 1)])) :: [(0,.gone 2),(1,.gone 2),(2,.box 1 [.bool false,.str [],.str []]),(3,.box 1 [.int .i64 0,.nils]),(4,.box 1 [.bool q.Neg,.str q.Num,.str q.Den]),(5,.box 1 [.int .i64 F,.vec 6 e6 0 n]),(6,.vec e6 1 n (Ai iC out)),(7,.box e7 (rcO r)),(9,o9),(10,o10),(11,o11),(12,.gone (e12+1)),(14,o14),(15,o15)]) (by simp) ?_ (by simp)) ?_
  ·simp;rfl
  refine .see (XQ (B:=sx m.length) (by omega) (by unfold sx;omega) (by unfold sx;omega) (XL (by simp)) iK) ?_;rw[XJ (l:=[hd.Stage]) (n:=1) rfl,LZ,<-bZ];refine .see (.spx (m':=bE C4 C5 fnv e7 e8 L A47 A48++[(17,.cptr f 8 0),(18,.int .i64 sI),(20,.int .i64 cx),(21,A21),(119,A119),(120,A120),(121,A121),(126,A126),(127,A127),(128,A128),(133,A133),(134,A134)]) (hm':=mN q F e6 n out e7 (rcO r) (.amap e8 (mSl (upN ev m.length (K0+1)) (fun _=>0) 0 (Bs m c.Span hd.Stage))) o9 o10 o11 (.gone (e12+1)) (.gone (e13+2)) o14 o15) (by simp) (by simp) (by simp)) ?_;exact cont _ _ _ _ (by rw[bZ];exact hM.new) hG.set (fun t=>BH (fun e=>by rw[LX]at e;exact e))
 ·have hl:=aG l h1;simp only[Bn]at h2;have bZ:Bs m c.Span hd.Stage=m.set j (c.Span,l++[hd.Stage]):=by unfold Bs;rw[h3,h1];rfl
  obtain⟨N,g,z1,z2,z3⟩:=hM.mx j c.Span l h0;simp only[Bn]at z2 z3;have bW:(l.length+1)*8<=140737488355328:=by omega
  obtain⟨dZ,_⟩:=A8.1 h0
  have km:∀i x,(l++[hd.Stage])[i]?=some x->(fun k:Nat=>if k<l.length then g k else([[Aa.int .i64 hd.Stage]][k-l.length]?).getD []) i=[.int .i64 x]:=fun i x hx=>by
   rw[List.getElem?_append]at hx;simp only;split at hx
   ·rename_i hi;rw[Aj hi];exact z3 i x hx
   ·rename_i hi;rw[Ag hi];have h0:i-l.length=0:=by obtain⟨h2,_⟩:=A8.1 hx;simp at h2;omega
    rw[h0]at hx |-;cases hx;rfl
  refine .seq (.block (AW.d1 (by simp[Mb,hT.f5,cq,cc,chd,iL,EB,BS,Cx,Aa.kkind,h2,vS,z1,z2,bW];exact⟨by kernel_rfl,rfl⟩) ?_));simp only[Ay,ablk];refine .see (.spx (m':=bE C4 C5 fnv e7 e8 L A47 A48++[(17,.cptr f 8 0),(18,.int .i64 sI),(20,.int .i64 cx),(21,A21),(119,A119),(120,A120),(121,A121),(126,A126),(127,A127),(128,A128),(133,A133),(134,A134)]) (hm':=mN q F e6 n out e7 (rcO r) (.amap e8 (mSl (upN ev j (ev j+1)) (fun _=>0) 0 (Bs m c.Span hd.Stage))) o9 o10 o11 (.gone (e12+1)) (.gone e13) o14 o15) (by simp) ?_ (by simp)) ?_
  ·simp;rw[Pv (l:=l++[hd.Stage]) dZ XR,LZ,<-bZ];exact yza _
  exact cont _ _ _ _ (by rw[bZ];exact hM.old h0 km) hG.set (fun t=>BH (fun e=>by rw[LX]at e;exact e))
theorem en_5(hT:TkV f cl co er nn S) {c:AB} (hc:cl[cx]?=some c) (cq:cx<nn)  (hh:r.Table[sI]?=some hd) (iL:sI<r.Table.length)     (hM:MH ev (fun _=>0) m h) (hG:GH h)(hF:forN (fun m (_:Nat)=>some (Bs m c.Span hd.Stage)) tk.toNat 0 m=some m1) (aG:capM m1) 
  (cont:∀ev' h' e10' e11',MH ev' (fun _=>0) m1 h'->GH h'->(∀t,h' (rwx t)=h (rwx t))->Q .normal ⟨tl (bE C4 C5 fnv e7 e8 L A47 A48++[(17,.cptr f 8 0),(18,.int .i64 sI),(20,.int .i64 cx),(21,.int .i64 tk),(119,A119),(120,A120),(121,A121),(126,A126),(127,A127),(128,A128)]) 231,
   hx (mN q F e6 n out e7 (rcO r) (.amap e8 (mSl ev' (fun _=>0) 0 m1)) o9 o10 o11 (.gone e10') (.gone e11') o14 o15) h',[]⟩) :
  AW EE none Tryz.prog (.block 10 (.loop (Yd 0))) Q ⟨tl (bE C4 C5 fnv e7 e8 L A47 A48++[(17,.cptr f 8 0),(18,.int .i64 sI),(20,.int .i64 cx),(21,.int .i64 tk),(119,A119),(120,A120),(121,A121),(126,A126),(127,A127),(128,A128),(133,.int .i64 tk),(134,.int .i64 0)]) 231,
   hx (mN q F e6 n out e7 (rcO r) (.amap e8 (mSl ev (fun _=>0) 0 m)) o9 o10 o11 (.gone e12) (.gone e13) o14 o15) h,[]⟩:=by
 have hN:tk.toNat<=1000000000:=by have:=(GI hF).2;have:=aG c.Span;omega
 refine .block (AW.lph (fun y:YK=>bE C4 C5 fnv e7 e8 L A47 A48++[(17,.cptr f 8 0),(18,.int .i64 sI),(20,.int .i64 cx),(21,.int .i64 tk),(119,A119),(120,A120),(121,A121),(126,A126),(127,A127),(128,A128),(133,.int .i64 tk),(134,.int .i64 y.j)]) (fun y=>mN q F e6 n out e7 (rcO r) (.amap e8 (mSl y.ev (fun _=>0) 0 y.m)) o9 o10 o11 (.gone y.a) (.gone y.b) o14 o15) (fun y=>y.h) (fun y=>tk.toNat-y.j) (fun y=>y.j<=tk.toNat/\MH y.ev (fun _=>0) y.m y.h/\GH y.h/\(∀t,y.h (rwx t)=h (rwx t))/\forN (fun m (_:Nat)=>some (Bs m c.Span hd.Stage)) (tk.toNat-y.j) y.j y.m=some m1) ⟨0,m,ev,h,e12,e13⟩ ⟨BA _,hM,hG,fun _=>rfl,hF⟩ rfl (by simp) (by simp) (by simp) ?_);rintro⟨j,m,ev,h2,a,b⟩ ⟨hj,hM,hG,hr,hF⟩;simp only at hj hM hG hr hF |-;refine AW.sr (by simp[Ye];rfl) ?_;refine .seq (AW.if' (decide ((j:Int)<tk)) (by simp) (fun et=>AW.skip ?_) (fun et=>?_));rotate_left
 ·obtain rfl:j=tk.toNat:=by have:=of_decide_eq_false et;omega
  rw[Nat.sub_self]at hF;obtain rfl:=AL (show some m=some m1 from hF);exact .exs (by simp only[Ay,ablk,AX];exact cont ev h2 a b hM hG hr) (by simp) (by simp) (by simp)
 have hlt:j<tk.toNat:=by have:=BC et;omega
 rw[show tk.toNat-j=(tk.toNat-(j+1))+1 by omega]at hF;have hF:forN (fun m (_:Nat)=>some (Bs m c.Span hd.Stage)) (tk.toNat-(j+1)) (j+1) (Bs m c.Span hd.Stage)=some m1:=hF;have aQ:inr .i64 ((j:Int)+1):=by show _/\_;omega
 have dt:capM m:=aG.le ((leM.put m c.Span hd.Stage).trans (GI hF).1);simp only[Ay];refine .see (.spx (m':=bE C4 C5 fnv e7 e8 L A47 A48++[(17,.cptr f 8 0),(18,.int .i64 sI),(20,.int .i64 cx),(21,.int .i64 tk),(119,A119),(120,A120),(121,A121),(126,A126),(127,A127),(128,A128),(133,.int .i64 tk),(134,.int .i64 j)]) (hm':=mN q F e6 n out e7 (rcO r) (.amap e8 (mSl ev (fun _=>0) 0 m)) o9 o10 o11 (.gone a) (.gone b) o14 o15) (by simp) (by simp) (by simp)) ?_;refine wzu7 hT hc cq hh iL rfl rfl hM hG (fun l e=>dt.l e) fun ev' h' a' b' dR dT bu=>?_;refine AW.r1 (by simp[Yf];exact⟨aQ,rfl⟩) ?_;exact⟨⟨j+1,Bs m c.Span hd.Stage,ev',h',a',b'⟩,⟨by show j+1<=_;omega,dR,dT,fun t=>(bu t).trans (hr t),hF⟩,by show tk.toNat-(j+1)<tk.toNat-j;omega,.spx (by simp) (by simp) (by simp)⟩
theorem en_4(EC:Ir caps rate)(hT:TkV f cl co er nn S)(cq:cl.length=nn)(bT:nn<=1000000)  (hh:r.Table[sI]?=some hd) (iL:sI<r.Table.length) (gY:sI<S) {cs:List Af} (bp:co[sI]?=some cs) (cN:cs.length=nn)  (jw:row.length=nn)    (kn:h (rwx sI)=rowO (er sI) row) (hM:MH ev (fun _=>0) m h) (hG:GH h)(hF:D8 hd cl cs row m q=some (m1,q1)) (aG:capM m1) 
  (cont:∀ev' h' e10' e11',MH ev' (fun _=>0) m1 h'->GH h'->(∀t,h' (rwx t)=h (rwx t))->Q .normal ⟨tl (bE C4 C5 fnv e7 e8 L A47 A48++[(17,.cptr f 8 0),(119,A119),(120,A120),(121,A121)]) 231,
   hx (mN q1 F e6 n out e7 (rcO r) (.amap e8 (mSl ev' (fun _=>0) 0 m1)) o9 o10 o11 (.gone e10') (.gone e11') o14 o15) h',[]⟩) :
  AW EE none Tryz.prog (.block 8 (.loop (Yg 0))) Q ⟨tl (bE C4 C5 fnv e7 e8 L A47 A48++[(17,.cptr f 8 0),(18,.int .i64 sI),(119,A119),(120,A120),(121,A121),(126,.vec (rwx sI) (er sI) 0 nn),(127,.int .i64 nn),(128,.int .i64 0)]) 231,
   hx (mN q F e6 n out e7 (rcO r) (.amap e8 (mSl ev (fun _=>0) 0 m)) o9 o10 o11 (.gone e12) (.gone e13) o14 o15) h,[]⟩:=by
 refine .block (AW.lph (fun y:YL=>bE C4 C5 fnv e7 e8 L A47 A48++[(17,.cptr f 8 0),(18,.int .i64 sI),(119,A119),(120,A120),(121,A121),(126,.vec (rwx sI) (er sI) 0 nn),(127,.int .i64 nn),(128,.int .i64 y.j)]) (fun y=>mN y.q F e6 n out e7 (rcO r) (.amap e8 (mSl y.ev (fun _=>0) 0 y.m)) o9 o10 o11 (.gone y.a) (.gone y.b) o14 o15) (fun y=>y.h) (fun y=>nn-y.j) (fun y=>y.j<=nn/\MH y.ev (fun _=>0) y.m y.h/\GH y.h/\(∀t,y.h (rwx t)=h (rwx t))/\D8 hd (cl.drop y.j) (cs.drop y.j) (row.drop y.j) y.m y.q=some (m1,q1)) ⟨0,m,q,ev,h,e12,e13⟩ ⟨BA _,hM,hG,fun _=>rfl,hF⟩ rfl (by simp) (by simp) (by simp) ?_);rintro⟨j,m,q,ev,h2,a,b⟩ ⟨hj,hM,hG,hr,hF⟩;refine AW.ath fun P hP=>?_;simp only at hj hM hG hr hF |-;refine AW.sr (by simp[Yh];rfl) ?_;refine .seq (AW.if' (decide ((j:Int)<(nn:Int))) (by simp) (fun et=>AW.skip ?_) (fun et=>?_));rotate_left
 ·obtain rfl:j=nn:=by have:=of_decide_eq_false et;omega
  rw[show row.drop j=[] by rw[<-jw,List.drop_length],show cl.drop j=[] by rw[<-cq,List.drop_length]]at hF;obtain h3:=AL (show some (m,q)=some (m1,q1) from hF);simp only[BB]at h3;obtain⟨rfl,rfl⟩:=h3;exact .exs (by simp only[Ay,ablk,AX];exact cont ev h2 a b hM hG hr) (by simp) (by simp) (by simp)
 have hlt:j<nn:=by have:=BC et;omega
 obtain⟨c,hc⟩:∃c,cl[j]?=some c:=⟨_,AF (by omega)⟩;obtain⟨g,hg⟩:∃c,cs[j]?=some c:=⟨_,AF (by omega)⟩;obtain⟨tk,gv⟩:∃c,row[j]?=some c:=⟨_,AF (by omega)⟩;have cg:Ai Af.cells cs j=g.cells:=Bb hg;have ct:Ai iC row j=iC tk:=Bb gv;have cco:Ai coC co sI=coC cs:=Bb bp;rw[Fn (by omega),show cl[j]'(by omega)=c from(A8.1 hc).2,Fn (l:=cs) (by omega),show cs[j]'(by omega)=g from(A8.1 hg).2,Fn (l:=row) (by omega),show row[j]'(by omega)=tk from(A8.1 gv).2]at hF;obtain⟨m2,p4,hF⟩:=bd_e (show bd (forN (fun m (_:Nat)=>some (Bs m c.Span hd.Stage)) tk.toNat 0 m) _=some (m1,q1) from hF);obtain⟨i,p5,hF⟩:=bd_e hF;obtain⟨p,p7,hF⟩:=bd_e hF;obtain⟨q2,p8,hF⟩:=bd_e hF;have s5:=EC.hI _ _ p5;have s7:=EC.hM _ _ _ p7;have s8:=EC.hA _ _ _ p8;have aF:h2 (rwx sI)=.vec (er sI) 1 nn (Ai iC row):=by rw[hr,kn];unfold rowO;rw[jw]
 have dt:capM m2:=aG.le (Pw hF);have aQ:inr .i64 ((j:Int)+1):=by show _/\_;omega
 simp only[Ay];refine .seq (.block (AW.sr (by simp[Yi,aF,hlt,ct,iC];rfl) ?_));refine .seq (.seq (AW.r1 (by simp[Yj];rfl) ?_));refine .see (.spx (m':=bE C4 C5 fnv e7 e8 L A47 A48++[(17,.cptr f 8 0),(18,.int .i64 sI),(20,.int .i64 j),(21,.int .i64 tk),(119,A119),(120,A120),(121,A121),(126,.vec (rwx sI) (er sI) 0 nn),(127,.int .i64 nn),(128,.int .i64 j),(133,.int .i64 tk),(134,.int .i64 0)]) (hm':=mN q F e6 n out e7 (rcO r) (.amap e8 (mSl ev (fun _=>0) 0 m)) o9 o10 o11 (.gone a) (.gone b) o14 o15) (by simp) (by simp) (by simp)) ?_;refine en_5 hT hc hlt hh iL hM hG p4 dt fun ev' h' a' b' dR dT bu=>?_;simp only[Ay];refine AW.d1 (by simp[Yk,hT.f6,gY,bp,cco,coC,cN,hlt,cg];refine Bi.pure _ s5 ?_;simp[hT.f6,gY,cco,coC,cN,hlt,cg];refine Bi.pure _ s7 ?_;refine Bi.pure _ s8 ?_;simp;exact⟨by kernel_rfl,rfl⟩) ?_;simp only[ablk,Ay];refine AW.r1 (by simp[Yl];exact⟨aQ,rfl⟩) ?_;rw[hP];exact⟨⟨j+1,m2,q2,ev',h',a',b'⟩,⟨by show j+1<=_;omega,dR,dT,fun t=>(bu t).trans (hr t),hF⟩,by show nn-(j+1)<nn-j;omega,.spx (by simp) (by simp) (by simp)⟩
theorem en_3(EC:Ir caps rate)(hT:TkV f cl co er nn S)(cq:cl.length=nn)(bT:nn<=1000000)(hS:r.Table.length=S)(eu:S<=1000000)(gV:co.length=S) (cN:∀c∈co,c.length=nn)  (bS:x.length=S) (bA:∀c∈x,c.length=nn)    (hX:RX er x h) (hM:MH ev (fun _=>0) m h) (hG:GH h)(hF:D9 cl r.Table co x m q=some (m1,q1)) (aG:capM m1) 
  (cont:∀ev' h' e10' e11',MH ev' (fun _=>0) m1 h'->GH h'->(∀t,h' (rwx t)=h (rwx t))->Q .normal ⟨tl (bE C4 C5 fnv e7 e8 L A47 A48) 231,
   hx (mN q1 F e6 n out e7 (rcO r) (.amap e8 (mSl ev' (fun _=>0) 0 m1)) o9 o10 o11 (.gone e10') (.gone e11') o14 o15) h',[]⟩) :
  AW EE none Tryz.prog (.block 6 (.loop (Ym 0))) Q ⟨tl (bE C4 C5 fnv e7 e8 L A47 A48++[(17,.cptr f 8 0),(119,.slc 1 S (xG er nn)),(120,.int .i64 S),(121,.int .i64 0)]) 231,
   hx (mN q F e6 n out e7 (rcO r) (.amap e8 (mSl ev (fun _=>0) 0 m)) o9 o10 o11 (.gone e12) (.gone e13) o14 o15) h,[]⟩:=by
 refine .block (AW.lph (fun y:YL=>bE C4 C5 fnv e7 e8 L A47 A48++[(17,.cptr f 8 0),(119,.slc 1 S (xG er nn)),(120,.int .i64 S),(121,.int .i64 y.j)]) (fun y=>mN y.q F e6 n out e7 (rcO r) (.amap e8 (mSl y.ev (fun _=>0) 0 y.m)) o9 o10 o11 (.gone y.a) (.gone y.b) o14 o15) (fun y=>y.h) (fun y=>S-y.j) (fun y=>y.j<=S/\MH y.ev (fun _=>0) y.m y.h/\GH y.h/\(∀t,y.h (rwx t)=h (rwx t))/\D9 cl (r.Table.drop y.j) (co.drop y.j) (x.drop y.j) y.m y.q=some (m1,q1)) ⟨0,m,q,ev,h,e12,e13⟩ ⟨BA _,hM,hG,fun _=>rfl,hF⟩ rfl (by simp) (by simp) (by simp) ?_);rintro⟨j,m,q,ev,h2,a,b⟩ ⟨hj,hM,hG,hr,hF⟩;refine AW.ath fun P hP=>?_;simp only at hj hM hG hr hF |-;refine AW.sr (by simp[Yn];rfl) ?_;refine .seq (AW.if' (decide ((j:Int)<(S:Int))) (by simp) (fun et=>AW.skip ?_) (fun et=>?_));rotate_left
 ·obtain rfl:j=S:=by have:=of_decide_eq_false et;omega
  rw[show x.drop j=[] by rw[<-bS,List.drop_length],show r.Table.drop j=[] by rw[<-hS,List.drop_length]]at hF;obtain h3:=AL (show some (m,q)=some (m1,q1) from hF);simp only[BB]at h3;obtain⟨rfl,rfl⟩:=h3;exact .exs (by simp only[Ay,ablk,AX];exact cont ev h2 a b hM hG hr) (by simp) (by simp) (by simp)
 have hlt:j<S:=by have:=BC et;omega
 obtain⟨hd,hh⟩:∃c,r.Table[j]?=some c:=⟨_,AF (by omega)⟩;obtain⟨cs,bp⟩:∃c,co[j]?=some c:=⟨_,AF (by omega)⟩;obtain⟨row,aF⟩:∃c,x[j]?=some c:=⟨_,AF (by omega)⟩;rw[Fn (by omega),show r.Table[j]'(by omega)=hd from(A8.1 hh).2,Fn (l:=co) (by omega),show co[j]'(by omega)=cs from(A8.1 bp).2,Fn (l:=x) (by omega),show x[j]'(by omega)=row from(A8.1 aF).2]at hF;obtain⟨⟨m2,q2⟩,p1,hF⟩:=bd_e (show bd (D8 hd cl cs row m q) _=some (m1,q1) from hF);have lF:cs.length=nn:=cN _ (AG bp);have jw:row.length=nn:=bA _ (AG aF);have kn:h2 (rwx j)=rowO (er j) row:=by rw[hr];exact hX j row aF
 have lG:h2 (rwx j)=.vec (er j) 1 nn (Ai iC row):=by rw[kn];unfold rowO;rw[jw]
 have dt:capM m2:=aG.le (XP hF);have aQ:inr .i64 ((j:Int)+1):=by show _/\_;omega
 simp only[Ay];refine .seq (.block (AW.sr (by simp[Yo,hlt,xG];rfl) ?_));refine .seq (AW.r1 (by simp[Yp,lG];rfl) ?_);refine .see (.spx (m':=bE C4 C5 fnv e7 e8 L A47 A48++[(17,.cptr f 8 0),(18,.int .i64 j),(119,.slc 1 S (xG er nn)),(120,.int .i64 S),(121,.int .i64 j),(126,.vec (rwx j) (er j) 0 nn),(127,.int .i64 nn),(128,.int .i64 0)]) (hm':=mN q F e6 n out e7 (rcO r) (.amap e8 (mSl ev (fun _=>0) 0 m)) o9 o10 o11 (.gone a) (.gone b) o14 o15) (by simp) (by simp) (by simp)) ?_;refine en_4 EC hT cq bT hh (by omega) hlt bp lF jw kn hM hG p1 dt fun ev' h' a' b' dR dT bu=>?_;simp only[ablk,Ay];refine AW.r1 (by simp[Yq];exact⟨aQ,rfl⟩) ?_;rw[hP];exact⟨⟨j+1,m2,q2,ev',h',a',b'⟩,⟨by show j+1<=_;omega,dR,dT,fun t=>(bu t).trans (hr t),hF⟩,by show S-(j+1)<S-j;omega,.spx (by simp) (by simp) (by simp)⟩
end
end
section
def CB(v:Aa):Aa:=.cptr (fun k=>[v].getD k .top) 1 0
structure YT where
 N:Nat
 t:Int
 m:List (Int×List Int)
 out:List Int
 lo:Nat->Nat
 a:Nat
 b:Nat
section
attribute [local simp] BV Gm BG BW BX BY yza subm subh Ci pick Bx
attribute [local simp] lkx Dk Cz subx bE mN rcO clO C3 C6 Iq Eg Dn CB
theorem fz_1{v:Aa}{m:List (Nat×Aa)} :
  See EE ⟨tl ((s,.ptr id e 0) :: m) N,hx ((id,.box e [v]) :: rest) h,[]⟩ ⟨tl ((s,CB v) :: m) N,hx ((id,.gone (e+1)) :: rest) h,[]⟩:=by
 refine .freeze (id:=id) (o:=.box e [v]) (by simp) rfl trivial (by simp[Ad.ep]) (fun i hi=>.inl (by have aW:¬id=i:=fun k=>hi k.symm;simp[aW])) (XB fun j=>?_) rfl;simp only[look];split
 ·exact .box e 0 [v] _ rfl (fun k _=>rfl)
 ·exact .refl _
theorem MX.tail(H:MX ev lo m h){s:Int}{l:List Int}(hj:m[j]?=some (a,s :: l)):MX ev (upN lo j (lo j+1)) (m.set j (a,l)) h:=by
 obtain⟨dZ,_⟩:=A8.1 hj;intro i k l' h1;rw[DP]at h1;by_cases e:j=i
 ·subst e;rw[Aj rfl,Aj dZ]at h1;simp only[Ba,BB]at h1;obtain⟨rfl,rfl⟩:=h1;obtain⟨N,g,z1,z2,z3⟩:=H j a (s :: l) hj;refine⟨N,g,z1,by simp[upN]at z2 |-;omega,fun i x hx=>?_⟩;have:=z3 (i+1) x (by simpa using hx);simp only[upN,AX];rw[show lo j+1+i=lo j+(i+1) by omega];exact this
 ·rw[Ag e]at h1;obtain⟨N,g,z1,z2,z3⟩:=H i k l' h1;have e':¬i=j:=fun h=>e h.symm;exact⟨N,g,z1,by simpa [upN,e'] using z2,by simpa [upN,e'] using z3⟩
theorem wzjx(f:Nat->Nat)(j:Nat):upN f j (f j)=f:=funext fun i=>by unfold upN;split<;>simp[*]
theorem en_6(gZ:∀(t k:Int),J0 (spans.length:Int) (fun a0=>FB a0 spans t)=some k->AK EE Tryz.prog 81 [.int .i64 spans.length,.fn 96 0 [CB (slcV 7 An.cells spans),CB (.int .i64 t)]] (.int .i64 k))       (ho:out.length=n)       (hM:MX ev (fun _=>0) m h) {t0:Int}(hF:lp (ES spans F r.To) (t0,m,out)=some out1) 
  (cont:∀lo m' e14' e15',out1.length=n->Q .normal ⟨tl (bE (CB (slcV 7 An.cells spans)) C5 fnv e7 e8 L A47 A48) 231,
   hx (mN q F e6 n out1 e7 (rcO r) (.amap e8 (mSl ev lo 0 m')) o9 o10 o11 o12 o13 (.gone e14') (.gone e15')) h,[]⟩) :
  AW EE none Tryz.prog (.block 12 (.loop (P1 0))) Q ⟨tl (bE (CB (slcV 7 An.cells spans)) C5 fnv e7 e8 L A47 A48++[(22,CB (.int .i64 t0))]) 231,
   hx (mN q F e6 n out e7 (rcO r) (.amap e8 (mSl ev (fun _=>0) 0 m)) o9 o10 o11 o12 o13 (.gone e14) (.gone e15)) h,[]⟩:=by
 unfold lp at hF;generalize 4611686018427387904=N0 at hF;refine .block (AW.lph (fun y:YT=>bE (CB (slcV 7 An.cells spans)) C5 fnv e7 e8 L A47 A48++[(22,CB (.int .i64 y.t))]) (fun y=>mN q F e6 n y.out e7 (rcO r) (.amap e8 (mSl ev y.lo 0 y.m)) o9 o10 o11 o12 o13 (.gone y.a) (.gone y.b)) (fun _=>h) (fun y=>y.N) (fun y=>y.out.length=n/\MX ev y.lo y.m h/\lpN (ES spans F r.To) y.N (y.t,y.m,y.out)=some out1) ⟨N0,t0,m,out,fun _=>0,e14,e15⟩ ⟨ho,hM,hF⟩ rfl (by simp) (by simp) (by simp) ?_);rintro⟨N,t,m,out,lo,e14,e15⟩ ⟨ho,hM,hF⟩;refine AW.ath fun P hP=>?_;simp only at ho hM hF |-;obtain⟨N',hN,hL⟩:=JV hF;clear hF;subst hN;refine .seq (.seq (AW.r1 (by simp[Yr];rfl) ?_));refine AW.if' (decide (t<r.To)) (by simp) (fun et=>AW.skip ?_) (fun et=>?_);rotate_left
 ·rcases hL with ⟨s',h1,_⟩|h1;·have:=(Br (show ite' (decide (t<r.To)) _ _=_ from h1)).2 et;cases this
  ·have:=(Br (show ite' (decide (t<r.To)) _ _=_ from h1)).2 et;cases this;exact .exs (by simp only[Ay,ablk,AX];exact cont lo m e14 e15 ho) (by simp) (by simp) (by simp)
 obtain⟨s',h1,hF⟩:∃s',ES spans F r.To (t,m,out)=some (.inl s')/\lpN (ES spans F r.To) N' s'=some out1:=by
  rcases hL with h|h1
  ·exact h
  ·exfalso;have:=(Br (show ite' (decide (t<r.To)) _ _=_ from h1)).1 et;obtain⟨_,_,this⟩:=bd_e this;obtain⟨l,_,this⟩:=bd_e this;cases l with
   |nil=>cases this
   |cons s l =>obtain⟨_,this⟩:=ck_e this;cases this
 clear hL;have h1:=(Br (show ite' (decide (t<r.To)) _ _=_ from h1)).1 et;obtain⟨kk,bP,h1⟩:=bd_e h1;obtain⟨l,fy,h1⟩:=bd_e h1;cases l with
 |nil=>cases h1
 |cons s l =>
 obtain⟨i1,h1⟩:=ck_e h1;cases h1;simp only[AI,CA]at i1;obtain⟨⟨i1,i2,i3⟩,i4⟩:=i1;have j1:inr .i64 (t-F):=by simp[As]at i1;exact i1
 have j4:inr .i64 (t+1):=by simp[As]at i4;exact i4
 obtain⟨u,hu⟩:∃u:Nat,t-F=u:=⟨(t-F).toNat,by omega⟩;have iq:u<n:=by omega
 have j1':inr .i64 (u:Int):=hu▸j1;rw[show(t-F).toNat=u by omega]at hF;rcases LY ev lo kk m 0 0 with ⟨w1,_,_⟩|⟨j,l',w0,w1,w2,w3⟩
 ·rw[fy]at w1;cases w1
 rw[fy]at w1;obtain rfl:=AL w1;simp only[Bn]at w2;obtain⟨Nn,g,z1,z2,z3⟩:=hM j kk (s :: l) w0;obtain⟨dZ,_⟩:=A8.1 w0;have gw:g (lo j)=[.int .i64 s]:=by have:=z3 0 s rfl;rwa [Gg]at this
 have iA:lo j<Nn:=by simp at z2;omega
 have oy:lo j+(l.length+1)<=Nn:=by simpa using z2
 rw[w3]at hF;unfold enAt at bP;obtain⟨k,hk,bP⟩:=bd_e bP;obtain⟨x,ij,bP⟩:=bd_e bP;have di:=AL bP;have sS:=gZ t k hk;have f1:(fun k:Nat=>if k=u then [Aa.int .i64 s] else Ai iC out k)=Ai iC (out.set u s):=Ed (c:=iC) (by omega) rfl;obtain⟨ou,oz⟩:∃v,out[u]?=some v:=⟨_,AF (by omega)⟩;have co:Ai iC out u=[.int .i64 ou]:=Bb (c:=iC) oz;have hset:(mSl ev lo 0 m).set j (.int .i64 kk,.vec (sx j) (ev j) (lo j+1) l.length)=mSl ev (upN lo j (lo j+1)) 0 (m.set j (kk,l)):=by have:=Pv (ev:=ev) (lo:=lo) (k:=kk) (l:=l) (E:=ev j) (L:=lo j+1) (n:=l.length) dZ rfl;rw[wzjx]at this;exact this
 have step:AW EE none Tryz.prog (.seq (.reg true (P2 0) Ys) (.reg false (P3 0) [])) (ablk 13 (Ay (AW EE none Tryz.prog (.seq (.seq (.reg false (P4 0) []) (.reg false (P5 0) [])) (.reg false (P6 0) [])) (Ay P (ablk 12 Q))) (Ay P (ablk 12 Q)))) ⟨tl (bE (CB (slcV 7 An.cells spans)) C5 fnv e7 e8 L A47 A48++[(22,CB (.int .i64 t)),(23,.int .i64 kk)]) 231,hx (mN q F e6 n out e7 (rcO r) (.amap e8 (mSl ev lo 0 m)) o9 o10 o11 o12 o13 (.gone e14) (.gone e15)) h,[]⟩:=by refine AW.sd (by simp[P2,EB,BS,Aa.kkind,w2,vS,z1,iA,gw,hu,iq,co,j1',f1];exact⟨by kernel_rfl,rfl⟩) ?_;refine AW.r1 (by simp[P3,EB,BS,Cx,Aa.kkind,w2,vS,z1,iA,hset];exact⟨by omega,rfl⟩) ?_;simp only[Ay,ablk];refine .seq (.seq (AW.r1 (by simp[P4];rfl) ?_));refine AW.r1 (by simp[P5];rfl) ?_;simp only[Ay];refine AW.r1 (by simp[P6];exact⟨j4,rfl⟩) ?_;simp only[Ay];rw[hP];refine⟨⟨N',t+1,m.set j (kk,l),out.set u s,upN lo j (lo j+1),e14,e15+1+1⟩,⟨by simp[ho],hM.tail w0,hF⟩,by show N'<N'+1;omega,?_⟩;refine .trans (.spx (m':=(22,.ptr 15 (e15+1) 0) :: bE (CB (slcV 7 An.cells spans)) C5 fnv e7 e8 L A47 A48) (hm':=(15,.box (e15+1) [.int .i64 (t+1)]) :: [(0,.gone 2),(1,.gone 2),(2,.box 1 [.bool false,.str [],.str []]),(3,.box 1 [.int .i64 0,.nils]),(4,.box 1 [.bool q.Neg,.str q.Num,.str q.Den]),(5,.box 1 [.int .i64 F,.vec 6 e6 0 n]),(6,.vec e6 1 n (Ai iC (out.set u s))),(7,.box e7 (rcO r)),(8,.amap e8 (mSl ev (upN lo j (lo j+1)) 0 (m.set j (kk,l)))),(9,o9),(10,o10),(11,o11),(12,o12),(13,o13),(14,.gone e14)]) (by simp) (by simp) (by simp)) (.trans fz_1 (.spx (by simp) (by simp) (by simp)))
 refine .seq (.block (AW.sr (by simp[Yt];refine sS.call ?_;(try simp);rfl) ?_));refine .seq ?_;by_cases fK:k=(spans.length:Int)
 ·rw[AC fK]at di;have di:kk = -1:=di.symm;subst di;refine AW.sd (by simp[P7,fK];exact⟨by kernel_rfl,rfl⟩) ?_;refine AW.if' true (by simp) (fun _=>?_) (fun h=>by cases h);refine AW.r1 (by simp[P8];rfl) ?_;simp only[Ay];exact .see (.spx (by simp) (by simp) (by simp)) step
 ·rw[A9 fK]at di ij;obtain⟨ku,o6,lH,o7⟩:=at_n (show at? spans k=some x from ij);subst o6;have cxk:Ai An.cells spans ku=x.cells:=Bb o7;refine AW.sd (by simp[P7,fK,lH,cxk];exact⟨by kernel_rfl,rfl⟩) ?_;refine AW.if' (decide (t<x.From)) (by simp) (fun e=>?_) (fun e=>AW.skip ?_)
  ·rw[e]at di;have di:kk = -1:=di.symm;subst di;refine AW.r1 (by simp[P8];rfl) ?_;simp only[Ay];exact .see (.spx (by simp) (by simp) (by simp)) step
  ·rw[e]at di;have di:kk=(ku:Int):=di.symm;subst di;simp only[Ay];exact .see (.spx (by simp) (by simp) (by simp)) step
end
end
section
theorem wzi7{k:Int}{l:List Int}(h:mget keqI m k=some l):∃k',(k',l)∈m:=by
 induction m with
 |nil=>cases h
 |cons p m ih =>
  have h:(match keqI k p.1 with | true=>some p.2 | false=>mget keqI m k)=some l:=h;cases hq:keqI k p.1 with
  |true=>rw[hq]at h;cases h;exact⟨p.1,AS ..⟩
  |false=>rw[hq]at h;obtain⟨k',hk⟩:=ih h;exact⟨k',AR _ hk⟩
theorem wzke(h:(m.all fun e=>decide ((List.length e.2:Int)<=1000000000))=true):capM m:=fun k=>by
 unfold glen;cases e:mget keqI m k with
 |none=>simp
 |some l =>obtain⟨k',hk⟩:=wzi7 e;have h2:(l.length:Int)<=1000000000:=BC (Da.1 h _ hk);simp only[Ll];omega
theorem wztm(hh:∀i,hm.any (fun p=>p.1==i)=true->h' i=hx hm h i):hx hm h'=h':=funext fun i=>by
 by_cases e:hm.any (fun p=>p.1==i)=true
 ·have e2:∀l:List (Nat×Ad),l.any (fun p=>p.1==i)=true->lkx l h' i=lkx l h i:=fun l hl=>by
   induction l with
   |nil=>simp at hl
   |cons p l ih =>
    simp only[lkx];split
    ·rfl
    ·rename_i aI;exact ih (by simpa [aI] using hl)
  rw[hh i e];exact e2 hm e
 ·refine EN (Da.2 fun p hp=>?_);cases e3:(p.1==i)
  ·rfl
  ·exfalso;exact e (List.any_eq_true.2 ⟨p,hp,e3⟩)
theorem See.hxm{t:List Aa}(hh:∀i,OSub (h i) (h' i)):See EE ⟨t,hx hm h,[]⟩ ⟨t,hx hm h',[]⟩:=by
 refine .of_sub ⟨.refl _,fun i=>?_,rfl,by intro D hD;cases hD⟩;show OSub (lkx hm h i) (lkx hm h' i);induction hm with
 |nil=>exact hh i
 |cons p hm ih =>
  simp only[lkx];split
  ·exact .refl _
  ·exact ih
def forH(h:Aq):Aq:=fun i=>if i<100 then h i else .gone (h i).ep
theorem wzkv(h:Aq)(i:Nat):OSub (h i) (forH h i):=by
 unfold forH;split
 ·exact .refl _
 ·exact .inl rfl
def mO(q:Af)(F:Int)(n:Nat)(out:List Int)(e6 e7 e8 e9 e10 e11 e12 e13 e14 e15:Nat):List (Nat×Ad) := [(0,.gone 2),(1,.gone 2),(2,.box 1 [.bool false,.str [],.str []]),(3,.box 1 [.int .i64 0,.nils]),(4,.box 1 [.bool q.Neg,.str q.Num,.str q.Den]),(5,.box 1 [.int .i64 F,.vec 6 e6 0 n]),(6,.vec e6 1 n (Ai iC out)),(7,.gone e7),(8,.gone e8),(9,.gone e9),(10,.gone e10),(11,.gone e11),(12,.gone e12),(13,.gone e13),(14,.gone e14),(15,.gone e15)]
def bO(C4 C5 fnv:Aa)(L A47:Aa):List (Nat×Aa):=[(4,C4),(5,C5),(6,.ptr 2 1 0),(7,.ptr 3 1 0),(8,fnv),(9,.ptr 4 1 0),(10,.ptr 5 1 0),(46,L),(47,A47)]
structure FH(h:Aq):Prop where
 gh:GH h
 rf:∀s,∃e,h (rwx s)=.gone e
 sf:∀s,∃e,h (sx s)=.gone e
theorem FH.for(H:GH h):FH (forH h):=by
 refine⟨⟨fun i h1 h2=>?_⟩,fun s=>⟨(h (rwx s)).ep,?_⟩,fun s=>⟨(h (sx s)).ep,?_⟩⟩
 ·obtain⟨e,he⟩:=H.lo i h1 h2;exact⟨e,by show(if i<100 then _ else _)=_;rw[Aj h2];exact he⟩
 ·show(if rwx s<100 then _ else _)=_;rw[Ag (by unfold rwx;omega)]
 ·show(if sx s<100 then _ else _)=_;rw[Ag (by unfold sx;omega)]
structure YZ where
 i:Nat
 q:Af
 out:List Int
 h:Aq
 e7:Nat
 e8:Nat
 e9:Nat
 e10:Nat
 e11:Nat
 e12:Nat
 e13:Nat
 e14:Nat
 e15:Nat
section
attribute [local simp] BV Gm BG BW BX BY yza subm subh Ci pick Bx
attribute [local simp] lkx Dk Cz subx bE mN rcO clO C3 C6 Iq Eg Dn CB mO bO
theorem wzoj(gZ:∀(t k:Int),J0 (spans.length:Int) (fun a0=>FB a0 spans t)=some k->AK EE Tryz.prog 81 [.int .i64 spans.length,.fn 96 0 [CB (slcV 7 An.cells spans),CB (.int .i64 t)]] (.int .i64 k))  (EC:Ir caps rate)  {l:List Al} (hl:l.length<=1000000000)     (ho:out.length=n)   (hH:FH h)(hF:ET spans rate F l q out=some (q1,out1)) (cont:∀h' e7 e8 e9 e10 e11 e12 e13 e14 e15,out1.length=n->Q .normal ⟨tl [(5,C5),(6,.ptr 2 1 0),(7,.ptr 3 1 0),(9,.ptr 4 1 0),(10,.ptr 5 1 0)] 231,hx (mO q1 F n out1 e6 e7 e8 e9 e10 e11 e12 e13 e14 e15) h',[]⟩) :
  AW EE none Tryz.prog (.block 0 (.loop (Yu 0))) Q ⟨tl (bO (CB (slcV 7 An.cells spans)) C5 (.fn 91 0 caps) (.slc 5 l.length (Ai Al.cells l)) (.int .i64 l.length)++[(48,.int .i64 0)]) 231,hx (mO q F n out e6 e7 e8 e9 e10 e11 e12 e13 e14 e15) h,[]⟩:=by
 refine .block (AW.lph (fun y:YZ=>bO (CB (slcV 7 An.cells spans)) C5 (.fn 91 0 caps) (.slc 5 l.length (Ai Al.cells l)) (.int .i64 l.length)++[(48,.int .i64 y.i)]) (fun y=>mO y.q F n y.out e6 y.e7 y.e8 y.e9 y.e10 y.e11 y.e12 y.e13 y.e14 y.e15) (fun y=>y.h) (fun y=>l.length-y.i) (fun y=>y.i<=l.length/\y.out.length=n/\FH y.h/\ET spans rate F (l.drop y.i) y.q y.out=some (q1,out1)) ⟨0,q,out,h,e7,e8,e9,e10,e11,e12,e13,e14,e15⟩ ⟨BA _,ho,hH,hF⟩ rfl (by simp) (by simp) (by simp) ?_);rintro⟨i,q,out,h,e7,e8,e9,e10,e11,e12,e13,e14,e15⟩ ⟨hi,ho,hH,hF⟩;refine AW.ath fun P hP=>?_;simp only at hi ho hH hF |-;refine AW.sr (by simp[P9];rfl) ?_;refine .seq (AW.if' (decide ((i:Int)<(l.length:Int))) (by simp) (fun et=>AW.skip ?_) (fun et=>?_));rotate_left
 ·obtain rfl:i=l.length:=by have:=of_decide_eq_false et;omega
  rw[List.drop_length]at hF;obtain h3:=AL (show some (q,out)=some (q1,out1) from hF);simp only[BB]at h3;obtain⟨rfl,rfl⟩:=h3;exact .exs (by simp only[Ay,ablk,AX];exact cont h e7 e8 e9 e10 e11 e12 e13 e14 e15 ho) (by simp) (by simp) (by simp)
 have hlt:i<l.length:=by have:=BC et;omega
 obtain⟨r,hr⟩:∃c,l[i]?=some c:=⟨_,AF hlt⟩;have cr:Ai Al.cells l i=rcO r:=Bb hr;rw[Fn hlt,show l[i]=r from(A8.1 hr).2]at hF;obtain⟨⟨m1,q2⟩,hb,hF⟩:=bd_e (show bd (ite' (decide ((List.length r.Table:Int)=0)) _ _) _=some (q1,out1) from hF);obtain⟨aG,hF⟩:=ck_e hF;obtain⟨out2,jx,hF⟩:=bd_e hF;have aG:=wzke aG;have aQ:inr .i64 ((i:Int)+1):=by show _/\_;omega
 have oB:Al.cells r=rcO r:=rfl;simp only[Ay];refine .seq (.block (AW.sr (by simp[Yv,hlt,cr];rfl) ?_));refine AW.sr (by simp[Yw];rfl) ?_
 have step:∀(ev:Nat->Nat) (h':Aq) (f9 f10 f11 f12 f13:Nat),MH ev (fun _=>0) m1 h'->GH h' ->
   AW EE none Tryz.prog (.seq (.reg false (PA 0) []) (.block 12 (.loop (P1 0)))) (ablk 1 (Ay (AW EE none Tryz.prog (.reg false (PB 0) []) (Ay P (ablk 0 Q))) (Ay P (ablk 0 Q))))
   ⟨tl (bE (CB (slcV 7 An.cells spans)) C5 (.fn 91 0 caps) (e7+1) (e8+1) (.slc 5 l.length (Ai Al.cells l)) (.int .i64 l.length) (.int .i64 i)) 231,hx (mN q2 F e6 n out (e7+1) (rcO r) (.amap (e8+1) (mSl ev (fun _=>0) 0 m1)) (.gone f9) (.gone f10) (.gone f11) (.gone f12) (.gone f13) (.gone e14) (.gone e15)) h',[]⟩:=fun ev h' f9 f10 f11 f12 f13 hM hG=>by
  refine AW.sr (by simp[PA];rfl) ?_;refine .see (.spx (m':=(22,.ptr 14 (e14+1) 0) :: bE (CB (slcV 7 An.cells spans)) C5 (.fn 91 0 caps) (e7+1) (e8+1) (.slc 5 l.length (Ai Al.cells l)) (.int .i64 l.length) (.int .i64 i)) (hm':=(14,.box (e14+1) [.int .i64 r.From]) :: [(0,.gone 2),(1,.gone 2),(2,.box 1 [.bool false,.str [],.str []]),(3,.box 1 [.int .i64 0,.nils]),(4,.box 1 [.bool q2.Neg,.str q2.Num,.str q2.Den]),(5,.box 1 [.int .i64 F,.vec 6 e6 0 n]),(6,.vec e6 1 n (Ai iC out)),(7,.box (e7+1) (rcO r)),(8,.amap (e8+1) (mSl ev (fun _=>0) 0 m1)),(9,.gone f9),(10,.gone f10),(11,.gone f11),(12,.gone f12),(13,.gone f13),(15,.gone e15)]) (by simp) (by simp) (by simp)) ?_;refine .see fz_1 ?_;refine .see (.spx (m':=bE (CB (slcV 7 An.cells spans)) C5 (.fn 91 0 caps) (e7+1) (e8+1) (.slc 5 l.length (Ai Al.cells l)) (.int .i64 l.length) (.int .i64 i)++[(22,CB (.int .i64 r.From))]) (hm':=mN q2 F e6 n out (e7+1) (rcO r) (.amap (e8+1) (mSl ev (fun _=>0) 0 m1)) (.gone f9) (.gone f10) (.gone f11) (.gone f12) (.gone f13) (.gone (e14+2)) (.gone e15)) (by simp) (by simp) (by simp)) ?_;refine en_6 gZ ho hM.mx jx fun lo m' g14 g15 gO=>?_;simp only[ablk,Ay];refine AW.r1 (by simp[PB];exact⟨aQ,rfl⟩) ?_;rw[hP];exact⟨⟨i+1,q2,out2,forH h',e7+1,e8+1,f9,f10,f11,f12,f13,g14,g15⟩,⟨by show i+1<=_;omega,gO,.for hG,hF⟩,by show l.length-(i+1)<l.length-i;omega,.trans (.spx (by simp) (by simp) (by simp)) (.hxm (wzkv h'))⟩
 refine .seq ?_;by_cases ht:r.Table.length=0
 ·rw[AC (by omega)]at hb;obtain⟨cl,cq,hb⟩:=bd_e (show bd (Ip r spans) _=some (m1,q2) from hb);obtain⟨bY,hb⟩:=ck_e hb;have lI:cl.length<=1000000:=BC bY;have sC:=EC.hCl _ _ _ cq;rw[Gn,Gn,oB]at sC;refine AW.sr (by simp[PC];rfl) ?_;refine AW.if' (decide ((r.Table.length:Int)=0)) (by simp) (fun _=>?_) (fun e=>by exfalso;have:=of_decide_eq_false e;omega);refine AW.sr (by simp[Yx];refine sC.call ?_;(try simp);rfl) ?_;refine .see (.spx (m':=bE (CB (slcV 7 An.cells spans)) C5 (.fn 91 0 caps) (e7+1) (e8+1) (.slc 5 l.length (Ai Al.cells l)) (.int .i64 l.length) (.int .i64 i)++[(59,clO cl),(60,.int .i64 cl.length),(61,.int .i64 0)]) (hm':=mN q F e6 n out (e7+1) (rcO r) (.amap (e8+1) (mSl (fun _=>0) (fun _=>0) 0 [])) (.gone e9) (.gone e10) (.gone e11) (.gone e12) (.gone e13) (.gone e14) (.gone e15)) (by simp) (by simp[mSl]) (by simp)) ?_;refine wzw0 EC lI ⟨(fun j k l h=>by simp at h),fun j _=>hH.sf j⟩ hH.gh hb aG fun ev' h' f9 f10 f11 dR dT _=>?_;simp only[Ay];exact step ev' h' f9 f10 f11 e12 e13 dR dT
 ·rw[A9 (by omega)]at hb;obtain⟨⟨cl,co,x⟩,fP,hb⟩:=bd_e (show bd (F9 r spans rate) _=some (m1,q2) from hb);obtain⟨y,mA,hb⟩:=bd_e hb;simp only at mA hb;have kl:0<r.Table.length:=by omega
  obtain⟨jy,eu⟩:cl.length<=1000000/\r.Table.length<=1000000:=by unfold F9 at fP;obtain⟨cl',_,fP⟩:=bd_e fP;obtain⟨hc,fP⟩:=ck_e fP;obtain⟨_,_,fP⟩:=bd_e fP;cases fP;simp only[AI,CA]at hc;exact⟨hc.1.2,hc.2⟩
  refine AW.sr (by simp[PC];rfl) ?_;refine AW.if' (decide ((r.Table.length:Int)=0)) (by simp) (fun e=>by exfalso;have:=BC e;omega) (fun _=>?_);refine .see (.spx (m':=bE (CB (slcV 7 An.cells spans)) C5 (.fn 91 0 caps) (e7+1) (e8+1) (.slc 5 l.length (Ai Al.cells l)) (.int .i64 l.length) (.int .i64 i)) (hm':=mN q F e6 n out (e7+1) (rcO r) (.amap (e8+1) []) (.gone e9) (.gone e10) (.gone e11) (.gone e12) (.gone e13) (.gone e14) (.gone e15)) (by simp) (by simp) (by simp)) ?_;have lJ:∀h0 s,hx (mN q F e6 n out (e7+1) (rcO r) (.amap (e8+1) []) (.gone e9) (.gone e10) (.gone e11) (.gone e12) (.gone e13) (.gone e14) (.gone e15)) h0 (rwx s)=h0 (rwx s):=fun h0 s=>LK (b:=100) (by simp) (by unfold rwx;omega);have fQ:∀h0 i,16<=i->hx (mN q F e6 n out (e7+1) (rcO r) (.amap (e8+1) []) (.gone e9) (.gone e10) (.gone e11) (.gone e12) (.gone e13) (.gone e14) (.gone e15)) h0 i=h0 i:=fun h0 i hi=>LK (b:=16) (by simp) hi;have jz:∀h0 h',(∀i,i<16->h' i=hx (mN q F e6 n out (e7+1) (rcO r) (.amap (e8+1) []) (.gone e9) (.gone e10) (.gone e11) (.gone e12) (.gone e13) (.gone e14) (.gone e15)) h0 i)->hx (mN q F e6 n out (e7+1) (rcO r) (.amap (e8+1) []) (.gone e9) (.gone e10) (.gone e11) (.gone e12) (.gone e13) (.gone e14) (.gone e15)) h'=h':=fun h0 h' hh=>wztm fun i hi=>hh i (by simp at hi;omega);have dI:=wzp4 EC.hE EC.hR EC.hCl fP kl (H:=hx (mN q F e6 n out (e7+1) (rcO r) (.amap (e8+1) []) (.gone e9) (.gone e10) (.gone e11) (.gone e12) (.gone e13) (.gone e14) (.gone e15)) h) (fun s=>by rw[lJ];exact hH.rf s) (fun i h1 h2=>by rw[fQ _ i (by omega)];exact hH.gh.lo i (by omega) (by omega));refine .seq (.reg ?_);simp[Yy];refine(show ATr EE Tryz.prog 94 _ _ _ from dI).mono ?_;rintro v h' ⟨f,er,rfl,hT,d1,d2,d3,d4,hX,dr,dX,fZ⟩;have ir:=jz h h' (fun i hi=>fZ i (.inl (by omega)) (fun s=>by unfold rwx;omega));rw[<-ir];refine .see (.spx (m':=bE (CB (slcV 7 An.cells spans)) C5 (.fn 91 0 caps) (e7+1) (e8+1) (.slc 5 l.length (Ai Al.cells l)) (.int .i64 l.length) (.int .i64 i)++[(17,.cptr f 8 0)]) (hm':=mN q F e6 n out (e7+1) (rcO r) (.amap (e8+1) []) (.gone e9) (.gone e10) (.gone e11) (.gone e12) (.gone e13) (.gone e14) (.gone e15)) (by simp) (by simp) (by simp)) ?_;have oC:=wzg2 EC.hS EC.hA EC.hC hT d2 d1 d3 d4 (H:=hx (mN q F e6 n out (e7+1) (rcO r) (.amap (e8+1) []) (.gone e9) (.gone e10) (.gone e11) (.gone e12) (.gone e13) (.gone e14) (.gone e15)) h') (by rw[ir];exact hX) (fun i h1 h2=>by rw[ir,fZ i (.inr (by omega)) (fun s=>by unfold rwx;omega),fQ _ i (by omega)];exact hH.gh.lo i (by omega) (by omega)) eu jy mA;refine .seq (.reg ?_);simp[Yz];refine(show ATr EE Tryz.prog 95 _ _ _ from oC).mono ?_;rintro v h2 ⟨rfl,l1,l2,l3,l4,l5⟩;rw[ir]at l5;have jf:=jz h h2 (fun i hi=>(l5 i (.inl (by omega)) (fun s=>by unfold rwx;omega)).trans (fZ i (.inl (by omega)) (fun s=>by unfold rwx;omega)));rw[<-jf];refine .see (.spx (m':=bE (CB (slcV 7 An.cells spans)) C5 (.fn 91 0 caps) (e7+1) (e8+1) (.slc 5 l.length (Ai Al.cells l)) (.int .i64 l.length) (.int .i64 i)++[(17,.cptr f 8 0)]) (hm':=mN q F e6 n out (e7+1) (rcO r) (.amap (e8+1) []) (.gone e9) (.gone e10) (.gone e11) (.gone e12) (.gone e13) (.gone e14) (.gone e15)) (by simp) (by simp) (by simp)) ?_;refine .seq (AW.r1 (by simp[Y4,hT.f7];rfl) ?_);refine .see (.spx (m':=bE (CB (slcV 7 An.cells spans)) C5 (.fn 91 0 caps) (e7+1) (e8+1) (.slc 5 l.length (Ai Al.cells l)) (.int .i64 l.length) (.int .i64 i)++[(17,.cptr f 8 0),(119,.slc 1 r.Table.length (xG er cl.length)),(120,.int .i64 r.Table.length),(121,.int .i64 0)]) (hm':=mN q F e6 n out (e7+1) (rcO r) (.amap (e8+1) (mSl (fun _=>0) (fun _=>0) 0 [])) (.gone e9) (.gone e10) (.gone e11) (.gone e12) (.gone e13) (.gone e14) (.gone e15)) (by simp[xG]) (by simp[mSl]) (by simp)) ?_;refine en_3 EC hT rfl jy rfl eu d1 d3 l1 l2 l3 ⟨(fun j k l h=>by simp at h),fun j _=>?_⟩ ⟨fun i h1 h2=>?_⟩ hb aG fun ev' h3 f12 f13 dR dT _=>?_
  ·have fE:∀s,sx j≠rwx s:=fun s e=>by unfold sx rwx at e;omega
   rw[l5 _ (.inr (by unfold sx;omega)) fE,fZ _ (.inr (by unfold sx;omega)) fE,fQ _ _ (by unfold sx;omega)];exact hH.sf j
  ·have gi:∀s,i≠rwx s:=fun s=>by unfold rwx;omega
   by_cases hz:40<=i/\i<46
   ·exact l4 i hz.1 hz.2
   ·rw[l5 i (by omega) gi];by_cases hw:20<=i/\i<33
    ·exact dX i hw.1 hw.2
    ·rw[fZ i (by omega) gi,fQ _ i h1];exact hH.gh.lo i h1 h2
  simp only[Ay];exact step ev' h3 e9 e10 e11 f12 f13 dR dT
end
end
section
section
attribute [local simp] BV Gm BG BW BX BY yza subm subh Ci pick Bx
attribute [local simp] lkx Dk Cz subx bE mN rcO clO C3 C6 Iq Eg Dn CB mO bO
theorem fz_h{m:List (Nat×Aa)}{q:Nat} :
  See EE ⟨tl m N,hx ((5,.box q [.int .i64 F,.vec 6 e 0 n]) :: (6,.vec e 1 n g) :: rest) h,[]⟩ ⟨tl m N,hx ((5,.box q [.int .i64 F,.slc 1 n g]) :: (6,.gone (e+1)) :: rest) h,[]⟩:=by
 refine .freeze (id:=6) (o:=.vec e 1 n g) (by simp) rfl trivial (by simp[Ad.ep]) (fun i hi=>?_) (FVl.refl _) rfl;have aW:¬6=i:=fun k=>hi k.symm;by_cases i5:5=i
 ·subst i5;exact .inr (.inl ⟨q,[.int .i64 F,.vec 6 e 0 n],[.int .i64 F,.slc 1 n g],by simp,by simp,.refl _,.vec e 1 n g 0 n g rfl (by simp) (fun k _=>by rw[Bn]),trivial⟩)
 ·exact .inl (by simp[aW,i5])
theorem Y5(ko:∀(a r:Af),EU a=some r->AK EE Tryz.prog 93 [.agg a.cells] (.agg r.cells))(hq:ite' turned (EU q1) (some q1)=some q){V:Aa}(oD:V.one=true)(pN:unv V=V/\∀c,unc c V=True){st:List Int}(hV:W V (slcV 1 (cI .i64) st)) :
  AW EE none Tryz.prog (.seq (.seq (.reg false (PD 0) []) (.cond (.t 226) (.reg false (PE 0) []) (.skip))) (.seq (.reg true (Mc 0) PF) (.ret))) (Post EE rs50 (fun v _=>W v (.tup [.agg q.cells,.agg (AD.cells ⟨F,st⟩)]))) ⟨tl [(5,CB (.bool turned)),(6,.ptr 2 1 0),(7,.ptr 3 1 0),(9,.ptr 4 1 0),(10,.ptr 5 1 0)] 231,hx ((2,.box 1 [.bool false,.str [],.str []]) :: (3,.box 1 [.int .i64 0,.nils]) :: (4,.box 1 [.bool q1.Neg,.str q1.Num,.str q1.Den]) :: (5,.box 1 [.int .i64 F,V]) :: rest) h,[]⟩:=by
 have fin:∀(m:List (Nat×Aa)) (hm:List (Nat×Ad)),look m 6=.ptr 2 1 0->look m 7=.ptr 3 1 0->look m 9=.ptr 4 1 0->look m 10=.ptr 5 1 0->lkx hm h 2=.box 1 [.bool false,.str [],.str []]->lkx hm h 3=.box 1 [.int .i64 0,.nils]->lkx hm h 4=.box 1 [.bool q.Neg,.str q.Num,.str q.Den]->lkx hm h 5=.box 1 [.int .i64 F,V] ->
   AW EE none Tryz.prog (.seq (.reg true (Mc 0) PF) (.ret)) (Post EE rs50 (fun v _=>W v (.tup [.agg q.cells,.agg (AD.cells ⟨F,st⟩)]))) ⟨tl m 231,hx hm h,[]⟩:=fun m hm a1 a2 a3 a4 b1 b2 b3 b4=>by
  refine AW.sd (by simp[Mc,a1,a2,a3,a4,b1,b2,b3,b4,oD];exact⟨by kernel_rfl,rfl⟩) ?_;refine .ret (.here (by simp[rs50,a1,a2]) rfl ?_);simp[rs50,a1,a2];exact hV
 refine .seq (.seq (AW.r1 (by simp[PD];rfl) ?_));refine AW.if' turned (by simp) (fun et=>?_) (fun et=>AW.skip ?_)
 ·rw[et]at hq;have s9:=ko _ _ hq;refine AW.r1 (by simp[PE];refine s9.call ?_;simp;rfl) ?_;simp only[Ay];exact fin _ _ (by simp) (by simp) (by simp) (by simp) (by simp) (by simp) (by simp) (by simp)
 ·rw[et]at hq;obtain rfl:=AL (show some q1=some q from hq);simp only[Ay];exact fin _ _ (by simp) (by simp) (by simp) (by simp) (by simp) (by simp) (by simp) (by simp)
theorem wzwh(gZ:∀(t k:Int),J0 (spans.length:Int) (fun a0=>FB a0 spans t)=some k->AK EE Tryz.prog 81 [.int .i64 spans.length,.fn 96 0 [CB (slcV 7 An.cells spans),CB (.int .i64 t)]] (.int .i64 k)) (EC:Ir [CB (slcV 7 An.cells spans),CB (.bool turned)] (fun s t=>GJ s t spans turned)) (ko:∀(a r:Af),EU a=some r->AK EE Tryz.prog 93 [.agg a.cells] (.agg r.cells)) {l:List Al} {y:Af×AD} (hF:GL l spans turned=some y) :
  ATr EE Tryz.prog 50 [slcV 5 Al.cells l,slcV 7 An.cells spans,.bool turned] h0 (fun v _=>W v (.tup [.agg y.1.cells,.agg y.2.cells])):=by
 obtain⟨cd,hb,bY⟩:=ck50;unfold GL at hF;obtain⟨a,ha,hF⟩:=bd_e hF;obtain⟨z,hz,hF⟩:=bd_e hF;obtain⟨hc,hF⟩:=ck_e hF;obtain⟨⟨q1,out1⟩,j8,hF⟩:=bd_e hF;obtain⟨q,hq,hF⟩:=bd_e hF;obtain rfl:=AL hF;simp only at hq;refine ATr.of (fn:=Tryz.f50) rfl hb cr50 (bY 0) 228 rfl ?_;rw[show([slcV 5 Al.cells l,slcV 7 An.cells spans,.bool turned]++List.replicate 228 .top)=tl [(0,slcV 5 Al.cells l),(1,slcV 7 An.cells spans),(2,.bool turned)] 231 from Ib [_,_,_] 228];change AW EE none _ _ _ ⟨_,hx [] h0,[]⟩;refine .see (.spx (m':=[(0,slcV 5 Al.cells l),(1,slcV 7 An.cells spans),(2,.bool turned)]) (hm':=[(0,.gone 0),(1,.gone 0),(2,.gone 0),(3,.gone 0),(4,.gone 0),(5,.gone 0),(6,.gone 0),(7,.gone 0),(8,.gone 0),(9,.gone 0),(10,.gone 0),(11,.gone 0),(12,.gone 0),(13,.gone 0),(14,.gone 0),(15,.gone 0)]) (by simp) (by simp[h0]) (by simp)) ?_;refine AW.sr (by simp[Y6];rfl) ?_;refine .see (.spx (m':=(4,.ptr 0 1 0) :: [(0,slcV 5 Al.cells l),(5,.ptr 1 1 0),(6,.ptr 2 1 0),(7,.ptr 3 1 0)]) (hm':=(0,.box 1 [slcV 7 An.cells spans]) :: [(1,.box 1 [.bool turned]),(2,.box 1 [.bool false,.str [],.str []]),(3,.box 1 [.int .i64 0,.nils]),(4,.gone 0),(5,.gone 0),(6,.gone 0),(7,.gone 0),(8,.gone 0),(9,.gone 0),(10,.gone 0),(11,.gone 0),(12,.gone 0),(13,.gone 0),(14,.gone 0),(15,.gone 0)]) (by simp) (by simp) (by simp)) ?_;refine .see fz_1 ?_;refine .see (.spx (m':=(5,.ptr 1 1 0) :: [(0,slcV 5 Al.cells l),(4,CB (slcV 7 An.cells spans)),(6,.ptr 2 1 0),(7,.ptr 3 1 0)]) (hm':=(1,.box 1 [.bool turned]) :: [(0,.gone 2),(2,.box 1 [.bool false,.str [],.str []]),(3,.box 1 [.int .i64 0,.nils]),(4,.gone 0),(5,.gone 0),(6,.gone 0),(7,.gone 0),(8,.gone 0),(9,.gone 0),(10,.gone 0),(11,.gone 0),(12,.gone 0),(13,.gone 0),(14,.gone 0),(15,.gone 0)]) (by simp) (by simp) (by simp)) ?_;refine .see fz_1 ?_;refine AW.sr (by simp[Y8];rfl) ?_;refine AW.sr (by simp[Y9];rfl) ?_;refine AW.sr (by simp[YD];rfl) ?_;refine .seq (AW.sr (by simp[YJ];rfl) ?_);cases l with
 |nil =>have h3:=AL (show some (Af.mk false [] [],([]:List Int))=some (q1,out1) from j8);simp only[BB]at h3;obtain⟨rfl,rfl⟩:=h3;refine AW.if' false (by simp) (fun e=>by cases e) (fun _=>AW.skip ?_);simp only[Ay];refine .seq (.seq (AW.r1 (by simp[PG];rfl) ?_));refine .block (AW.lph (α:=Unit) (fun _=>[(5,CB (.bool turned)),(6,.ptr 2 1 0),(7,.ptr 3 1 0),(9,.ptr 4 1 0),(10,.ptr 5 1 0),(47,.int .i64 0),(48,.int .i64 0)]) (fun _=>(2,.box 1 [.bool false,.str [],.str []]) :: (3,.box 1 [.int .i64 0,.nils]) :: (4,.box 1 [.bool false,.str [],.str []]) :: (5,.box 1 [.int .i64 0,.nils]) :: [(0,.gone 2),(1,.gone 2),(6,.gone 0),(7,.gone 0),(8,.gone 0),(9,.gone 0),(10,.gone 0),(11,.gone 0),(12,.gone 0),(13,.gone 0),(14,.gone 0),(15,.gone 0)]) (fun _=>h0) (fun _=>0) (fun _=>True) () trivial rfl (by simp) (by simp) (by simp) (fun _ _=>?_));refine AW.sr (by simp[P9];rfl) ?_;refine .seq (AW.if' false (by simp) (fun e=>by cases e) (fun _=>?_));refine .exs (by simp only[Ay,ablk,AX];exact Y5 ko (V:=.nils) (F:=0) (st:=[]) (rest:=[(0,.gone 2),(1,.gone 2),(6,.gone 0),(7,.gone 0),(8,.gone 0),(9,.gone 0),(10,.gone 0),(11,.gone 0),(12,.gone 0),(13,.gone 0),(14,.gone 0),(15,.gone 0)]) hq rfl ⟨rfl,fun _=>rfl⟩ (UT.2 rfl)) (by simp) (by simp) (by simp)
 |cons r0 l =>
  have aE:decide (0<((r0 :: l).length:Int))=true:=AC (by simp only[Bk];omega);rw[aE]at ha hz hc j8;simp only[E6,Bool.false_or,AI,CA]at hc;obtain⟨cu,⟨⟨kp,dt⟩,gU⟩⟩:=hc;obtain⟨_,_,ha⟩:=In (show at? (r0 :: l) 0=some a from ha);obtain⟨z0,z1,hz⟩:=In (show at? (r0 :: l) ((List.length (r0 :: l):Int)-1)=some z from hz);obtain rfl:r0=a:=by simpa using ha
  have dy:(r0 :: l)[l.length]?=some z:=by
   have:(((r0 :: l).length:Int)-1).toNat=l.length:=by simp
   rw[this]at hz;exact hz
  have ca:Ai Al.cells (r0 :: l) 0=rcO r0:=rfl;have cz:Ai Al.cells (r0 :: l) l.length=rcO z:=Bb dy;have j1:inr .i64 (z.To-r0.From):=by simp[As]at kp;exact kp
  obtain⟨n,hn⟩:∃n:Nat,z.To-r0.From=n:=⟨(z.To-r0.From).toNat,by omega⟩;have j1':inr .i64 (n:Int):=hn▸j1;have bW:(n:Int)*8<=140737488355328:=by omega
  have iA:inr .i64 (l.length:Int):=by show _/\_;simp only[Bk]at cu;omega
  have j8:ET spans (fun s t=>GJ s t spans turned) r0.From (r0 :: l) (Af.mk false [] []) (List.replicate n 0)=some (q1,out1):=by rw[show n=(z.To-r0.From).toNat by omega];exact j8
  refine AW.if' true (by simp) (fun _=>?_) (fun e=>by cases e);refine AW.d1 (by simp[YO,ca,cz,iA,hn,j1',bW];exact⟨by omega,by kernel_rfl,rfl⟩) ?_;simp only[Ay];refine .seq (.seq (AW.r1 (by simp[PG];rfl) ?_));refine .see (.spx (m':=bO (CB (slcV 7 An.cells spans)) (CB (.bool turned)) (.fn 91 0 [CB (slcV 7 An.cells spans),CB (.bool turned)]) (.slc 5 (r0 :: l).length (Ai Al.cells (r0 :: l))) (.int .i64 ((r0 :: l).length:Int))++[(48,.int .i64 0)]) (hm':=mO (Af.mk false [] []) r0.From n (List.replicate n 0) 1 0 0 0 0 0 0 0 0 0) (by simp) ?_ (by simp)) ?_
  ·simp;exact fun k hk=>F7 hk
  refine wzoj gZ EC (l:=r0 :: l) (by simp only[Bk]at cu |-;omega) (by simp) ⟨⟨fun i _ _=>⟨0,rfl⟩⟩,fun s=>⟨0,rfl⟩,fun s=>⟨0,rfl⟩⟩ j8 fun h' f7 f8 f9 f10 f11 f12 f13 f14 f15 ho=>?_;simp only[Ay];refine .see (.spx (m':=[(5,CB (.bool turned)),(6,.ptr 2 1 0),(7,.ptr 3 1 0),(9,.ptr 4 1 0),(10,.ptr 5 1 0)]) (hm':=(5,.box 1 [.int .i64 r0.From,.vec 6 1 0 n]) :: (6,.vec 1 1 n (Ai iC out1)) :: [(0,.gone 2),(1,.gone 2),(2,.box 1 [.bool false,.str [],.str []]),(3,.box 1 [.int .i64 0,.nils]),(4,.box 1 [.bool q1.Neg,.str q1.Num,.str q1.Den]),(7,.gone f7),(8,.gone f8),(9,.gone f9),(10,.gone f10),(11,.gone f11),(12,.gone f12),(13,.gone f13),(14,.gone f14),(15,.gone f15)]) (by simp) (by simp) (by simp)) ?_;refine .see fz_h ?_;refine .see (.spx (m':=[(5,CB (.bool turned)),(6,.ptr 2 1 0),(7,.ptr 3 1 0),(9,.ptr 4 1 0),(10,.ptr 5 1 0)]) (hm':=(2,.box 1 [.bool false,.str [],.str []]) :: (3,.box 1 [.int .i64 0,.nils]) :: (4,.box 1 [.bool q1.Neg,.str q1.Num,.str q1.Den]) :: (5,.box 1 [.int .i64 r0.From,.slc 1 n (Ai iC out1)]) :: [(0,.gone 2),(1,.gone 2),(6,.gone 2),(7,.gone f7),(8,.gone f8),(9,.gone f9),(10,.gone f10),(11,.gone f11),(12,.gone f12),(13,.gone f13),(14,.gone f14),(15,.gone f15)]) (by simp) (by simp) (by simp)) ?_;have eF:(bif decide (0<((r0 :: l).length:Int)) then r0.From else 0)=r0.From:=by rw[aE];rfl
  rw[eF];exact Y5 ko hq rfl ⟨rfl,fun _=>rfl⟩ (by rw[<-ho];exact .refl _)
end
end
section
def k91:Fc:=⟨91,[(.int .i64),(.int .i64),(.slc (.us 5)),.bool],[false,false,true,true],[(.us 2)],fun x=>GJ x.1 x.2.1 x.2.2.1 x.2.2.2⟩
def k81:Fc:=⟨81,[(.int .i64),(.fn 1)],[false,false],[(.int .i64)],fun x=>J0 x.1 x.2.g⟩
def k96:Fc:=⟨96,[(.int .i64),(.slc (.us 5)),(.int .i64)],[false,true,true],[.bool],fun x=>FB x.1 x.2.1 x.2.2⟩
def k111:Fc:=⟨111,[(.us 2),(.us 2)],[false,false],[(.us 2)],fun x=>Dm x.1 x.2⟩
def k23:Fc:=⟨23,[(.us 2),(.us 2)],[false,false],[(.int .i64)],fun x=>Fq x.1 x.2⟩
def k44:Fc:=⟨44,[(.us 1),(.slc (.us 5))],[false,false],[(.slc (.us 12))],fun x=>Ip x.1 x.2⟩
def k93:Fc:=⟨93,[(.us 2)],[false],[(.us 2)],fun x=>EU x⟩
def k50:Fc:=⟨50,[(.slc (.us 1)),(.slc (.us 5)),.bool],[false,false,false],[(.us 2),(.us 6)],fun x=>GL x.1 x.2.1 x.2.2⟩
theorem qz45{l:List Al}:AE (slcV 5 Al.cells l):=by
 refine C0 fun a z hz=>?_;simp[Al.cells]at hz;rcases hz with rfl|rfl|rfl|rfl|rfl
 ·exact .int _ _
 ·exact .int _ _
 ·refine C0 fun a z hz=>?_;simp[AM.cells]at hz;rcases hz with rfl|rfl<;>exact .int _ _
 ·exact .int _ _
 ·exact .int _ _
theorem qz1p{l:List An}:AE (slcV 7 An.cells l):=by
 refine C0 fun a z hz=>?_;simp[An.cells]at hz;rcases hz with rfl|rfl|rfl|rfl|rfl|rfl|rfl<;>first|exact .int _ _|exact .bool _|exact .str _|skip
 exact C0 fun a z hz=>by simp[Bz.cells]at hz;rcases hz with rfl|rfl|rfl|rfl<;>first|exact .int _ _|exact .bool _|exact .str _
theorem wztu(H91:Ap k91)(H81:Ap k81)(H96:Ap k96)(H42:Ap k42)(H30:Ap k30)(H31:Ap k31)(H111:Ap k111)(H23:Ap k23)(H44:Ap k44)(H93:Ap k93):Ap k50:=by
 refine⟨by kernel_rfl,fun x y e=>?_⟩;obtain⟨l,spans,turned⟩:=x
 have EC:Ir [CB (slcV 7 An.cells spans),CB (.bool turned)] (fun s t=>GJ s t spans turned):={
  hE:=H91.en
  hR:=fun k s a h=>H91.still (x:=(k,s,spans,turned)) (y:=a) h (by kernel_rfl)
  hI:=fun n r h=>H42.still (x:=n) (y:=r) h (by kernel_rfl)
  hM:=fun a b r h=>H30.still (x:=(a,b)) (y:=r) h (by kernel_rfl)
  hA:=fun a b r h=>H31.still (x:=(a,b)) (y:=r) h (by kernel_rfl)
  hS:=fun a b r h=>H111.still (x:=(a,b)) (y:=r) h (by kernel_rfl)
  hC:=fun a b r h=>H23.still (x:=(a,b)) (y:=r) h (by kernel_rfl)
  hCl:=fun r l c h=>H44.still (x:=(r,l)) (y:=c) h (by kernel_rfl) }
 have gZ:∀(t k:Int),J0 (spans.length:Int) (fun a0=>FB a0 spans t)=some k->AK EE Tryz.prog 81 [.int .i64 spans.length,.fn 96 0 [CB (slcV 7 An.cells spans),CB (.int .i64 t)]] (.int .i64 k):=fun t k h =>
  H81.still (x:=((spans.length:Int),YQ ⟨k96,H96⟩ 1 0 [.cptr [.slc (.us 5) spans] 0,.cptr [.int .i64 t] 0] rfl)) (y:=k) h (by kernel_rfl)
 have H:Pure EE Tryz.prog 50 [slcV 5 Al.cells l,slcV 7 An.cells spans,.bool turned] (.tup [.agg y.1.cells,.agg y.2.cells]) := (wzwh gZ EC (fun a r h=>H93.still (x:=a) (y:=r) h (by kernel_rfl)) e).wv fun v h' q=>⟨_,q,rfl⟩;refine(Pure.still H hEE (fun z hz=>?_) ?_).cast (by kernel_rfl)
 ·simp at hz;rcases hz with rfl|rfl|rfl
  ·exact qz45
  ·exact qz1p
  ·exact .bool _
 ·refine .tup _ fun z hz=>?_;simp at hz;rcases hz with rfl|rfl
  ·exact .agg _ fun z hz=>by simp[Af.cells]at hz;rcases hz with rfl|rfl|rfl<;>first|exact .bool _|exact .str _
  ·exact .agg _ fun z hz=>by
    simp[AD.cells]at hz;rcases hz with rfl|rfl
    ·exact .int _ _
    ·exact C0 fun a z hz=>by simp[cI]at hz;subst hz;exact .int _ _
end
section
def YU(b:Nat):List Ak:=[ ⟨(some 4),.box (b+0) (.t 1),none⟩, ⟨(some 6),.mv (.c (.nils)),none⟩]
def Md(b:Nat):List Ak:=[ ⟨(some 10),.mv (.t 0),none⟩, ⟨(some 11),.len false (.t 10),none⟩, ⟨(some 12),.bin .eql false (.t 11) (.c (.int .i64 0)),none⟩, ⟨(some 13),.mv (.t 12),none⟩, ⟨(some 14),.faddr 0 (.t 4),(some (13,false))⟩, ⟨(some 15),.load false 1 (.t 14),(some (13,false))⟩, ⟨(some 16),.faddr 1 (.t 4),(some (13,false))⟩, ⟨(some 17),.load false 1 (.t 16),(some (13,false))⟩, ⟨(some 18),.len false (.t 17),(some (13,false))⟩, ⟨(some 19),.bin .add false (.t 15) (.t 18),(some (13,false))⟩, ⟨(some 20),.mv (.t 0),(some (13,false))⟩, ⟨(some 21),.mv (.t 0),(some (13,false))⟩, ⟨(some 22),.len false (.t 21),(some (13,false))⟩, ⟨(some 23),.bin .sub false (.t 22) (.c (.int .i64 1)),(some (13,false))⟩, ⟨(some 24),.iaddrS 5 (.t 20) (.t 23),(some (13,false))⟩, ⟨(some 25),.faddr 1 (.t 24),(some (13,false))⟩, ⟨(some 26),.load false 1 (.t 25),(some (13,false))⟩, ⟨(some 27),.bin .geq false (.t 19) (.t 26),(some (13,false))⟩, ⟨(some 28),.pick (.t 13) (.c (.bool true)) (.t 27),none⟩]
def YW:List (List Nat):=[[],[0],[0,1],[0,1,2],[0,1,2,3],[0,1,2,3,4],[0,1,2,3],[0,1,2,3,6],[0,1,2,3,6,7],[0,1,2,3,4,5,6,7,8],[0,1,2,3],[0,1,2,3],[0,1,2,3,11],[0,1,2,3,11,12],[0,1,2,3,10,11,12,13],[0,1,2,3,10,11,12,13,14],[0,1,2,3,10,11,12,13,14,15],[0,1,2,3,4,5,6,7,8,9,10,11,12,13,14,15,16],[0,1,2,3,4,5,6,7,8,9,10,11,12,13,14,15,16,17]]
def YX(b:Nat):List Ak:=[ ⟨(some 29),.mv (.t 0),none⟩, ⟨(some 30),.load true 2 (.t 4),none⟩, ⟨(some 31),.callf 100 [.t 29,.t 30],none⟩, ⟨(some 7),.mv (.t 31),none⟩]
def YY(b:Nat):List Ak:=[ ⟨(some 32),.mv (.t 7),none⟩]
def Za(b:Nat):List Ak:=[ ⟨(some 33),.load true 2 (.t 4),none⟩, ⟨(some 34),.bslice (b+1) 2 1 [.int .i64 0,.nils] [(0,2,.t 33)],none⟩, ⟨(some 6),.mv (.t 34),none⟩]
def Zb(b:Nat):List Ak:=[ ⟨(some 6),.mv (.c (.nils)),none⟩]
def Zc(b:Nat):List Ak:=[ ⟨(some 8),.mv (.c (.nils)),none⟩]
def Zd(b:Nat):List Ak:=[ ⟨(some 9),.mv (.c (.int .i64 0)),none⟩]
def Ze(b:Nat):List Ak:=[ ⟨(some 35),.mv (.t 9),none⟩, ⟨(some 36),.mv (.t 2),none⟩, ⟨(some 37),.bin .lss false (.t 35) (.t 36),none⟩]
def FC(b:Nat):List Ak:=[ ⟨(some 40),.mv (.t 8),none⟩, ⟨(some 41),.mv (.t 0),none⟩, ⟨(some 42),.faddr 0 (.t 4),none⟩, ⟨(some 43),.load false 1 (.t 42),none⟩, ⟨(some 44),.bslice (b+2) 1 0 [] [],none⟩, ⟨(some 45),.faddr 1 (.t 4),none⟩, ⟨(some 46),.load false 1 (.t 45),none⟩, ⟨(some 47),.append (b+3) 1 8 (.t 44) (.t 46),none⟩, ⟨(some 48),.mv (.t 9),none⟩, ⟨(some 49),.bslice (b+4) 1 1 [.int .i64 0] [(0,1,.t 48)],none⟩, ⟨(some 50),.append (b+5) 1 8 (.t 47) (.t 49),none⟩, ⟨(some 51),.build [.int .i64 0,.nils] [(0,1,.t 43),(1,1,.t 50)],none⟩, ⟨(some 52),.mv (.t 2),none⟩, ⟨(some 53),.callf 58 [.t 41,.t 51,.t 52],none⟩, ⟨(some 54),.append (b+6) 2 32 (.t 40) (.t 53),none⟩, ⟨(some 8),.mv (.t 54),none⟩]
def wz21:List (List Nat):=[[],[],[],[2],[],[],[5],[4,5,6],[],[8],[4,5,6,7,8,9],[2,3,4,5,6,7,8,9,10],[],[1,2,3,4,5,6,7,8,9,10,11,12],[0,1,2,3,4,5,6,7,8,9,10,11,12,13],[0,1,2,3,4,5,6,7,8,9,10,11,12,13,14]]
def Me(b:Nat):List Ak:=[ ⟨(some 38),.mv (.t 9),none⟩, ⟨(some 39),.bin .add false (.t 38) (.c (.int .i64 1)),none⟩, ⟨(some 9),.mv (.t 39),none⟩]
def wz26(b:Nat):AO:=.seq (.seq (.reg false (Ze b) []) (.cond (.t 37) (.skip) (.exit 0))) (.seq (.block 1 (.reg true (FC b) wz21)) (.reg false (Me b) []))
def PH(b:Nat):List Ak:=[ ⟨(some 55),.mv (.t 8),none⟩, ⟨(some 6),.mv (.t 55),none⟩]
def c58(b:Nat):AO:=.seq (.reg false (YU b) []) (.seq (.seq (.reg true (Md b) YW) (.cond (.t 28) (.seq (.reg false (YX b) []) (.seq (.seq (.reg false (YY b) []) (.cond (.t 32) (.seq (.reg false (Za b) []) (.ret)) (.skip))) (.seq (.reg false (Zb b) []) (.ret)))) (.skip))) (.seq (.reg false (Zc b) []) (.seq (.seq (.reg false (Zd b) []) (.block 0 (.loop (wz26 b)))) (.seq (.reg false (PH b) []) (.ret)))))
def rs58:List ARes:=[.t 6]
theorem ck58:∃c,Tryz.f58.body=some c/\∀b,AH Tryz.prog c (c58 b)=true:=⟨_,rfl,fun b=>by kernel_rfl⟩
theorem cr58:D7 Tryz.prog Tryz.f58.results.toList rs58=true:=by kernel_rfl
end
section
def k100:Fc:=⟨100,[(.slc (.us 1)),(.us 6)],[false,false],[.bool],fun x=>Ei x.1 x.2⟩
def k58:Fc:=⟨58,[(.slc (.us 1)),(.us 6),(.int .i64)],[false,false,false],[(.slc (.us 6))],fun x=>PI x.1 x.2.1 x.2.2⟩
section
attribute [local simp] BV Gm BG BW BX BY yza subm subh Ci pick Bx
theorem ATr.ofs{f:FuncId}{fn:Func}{c:Code}{ac:AO}{rs:List ARes}{m:List (Nat×Aa)}(hf:P.funcs[f]?=some fn)(hb:fn.body=some c)(hr:D7 P fn.results.toList rs=true)(hc:AH P c ac=true)(hm:zipA 0 args=m) (hn:fn.ntmps=n) (aC:args.length<=n) (hw:AW E none P ac (Post E rs R) ⟨tl m n,hl [],[]⟩):ATr E P f args h0 R :=
 .of hf hb hr hc (n-args.length) (by omega) (by rw[Ib,hm,show args.length+(n-args.length)=n by omega];exact hw)
structure YFo where
 N:Nat
 k:Int
 e2:Nat
 e4:Nat
 e6:Nat
 out:List AD
theorem Zf{id:Nat}{o:Ad}{f g:Nat->Aa}(h:∀i,FV id o (f i) (g i)):∀l:List Nat,FVl id o (l.map f) (l.map g)
 |[]=>trivial
 |x :: l=>⟨h x,Zf h l⟩
theorem Zg{st:Nat}{f:Nat->List Aa}:See EE ⟨tl [(k,.vec id e 0 n)] N,hl ((id,.vec e st n f) :: rest),[]⟩ ⟨tl [(k,.slc st n f)] N,hl ((id,.gone (e+1)) :: rest),[]⟩:=by
 refine .freeze (id:=id) (o:=.vec e st n f) (by simp) rfl trivial (by simp[Ad.ep]) (fun i hi=>.inl ?_) (Zf (fun i=>?_) _) rfl
 ·have aW:¬id=i:=fun k=>hi k.symm;simp[aW]
 ·by_cases h:k=i;·simp[h];exact .vec e st n f 0 n f rfl (by simp) (fun k _=>by rw[Bn])
  ·simp[h];exact .refl _
theorem wz2m{rec:AD->Option (List AD)}{h:AD}{n k:Int}{out r:List AD}(hF:lpN (folL rec h n) (N+1) (k,out)=some r) : (k<n->∃r',rec ⟨h.From,h.Stages++[k]⟩=some r'/\out.length+r'.length<=1000000000/\inr .i64 (k+1)/\lpN (folL rec h n) N (k+1,out++r')=some r)/\(¬k<n->out=r):=by
 unfold lpN at hF;refine⟨fun hk=>?_,fun hk=>?_⟩
 ·have e0:folL rec h n (k,out)=bd (rec ⟨h.From,h.Stages++[k]⟩) fun r=>ck (decide (List.length out+List.length r<=1000000000)&&As .i64 (k+1))<|some (.inl (k+1,out++r)):=by
   unfold folL;simp only[AC hk];rfl
  cases hr:rec ⟨h.From,h.Stages++[k]⟩ with
  |none =>rw[hr]at e0;rw[show folL rec h n (k,out)=none from e0]at hF;cases hF
  |some r' =>
   rw[hr]at e0;have e0:folL rec h n (k,out)=ck (decide (List.length out+List.length r'<=1000000000)&&As .i64 (k+1)) (some (.inl (k+1,out++r'))):=e0;cases hc:(decide (List.length out+List.length r'<=1000000000)&&As .i64 (k+1)) with
   |false =>rw[hc]at e0;rw[show folL rec h n (k,out)=none from e0]at hF;cases hF
   |true =>rw[hc]at e0;rw[show folL rec h n (k,out)=some (.inl (k+1,out++r')) from e0]at hF;simp only[AI,CA]at hc;exact⟨r',rfl,hc.1,by have:=hc.2;simp[As]at this;exact this,hF⟩
 ·have e0:folL rec h n (k,out)=some (.inr out):=by
   unfold folL;simp only[A9 hk];rfl
  rw[e0]at hF;exact AL hF
theorem wz2j{m:Nat}{l:List Al}{h:AD}{n:Int}{r:List AD}(hF:BI (m+1) l h n=some r) :
  l.length<=1000000000/\h.Stages.length<=1000000000/\inr .i64 (h.From+(h.Stages.length:Int))/\∃z:Al,(l.length≠0->l[l.length-1]?=some z) /\ (((bif decide ((l.length:Int)=0) then true else decide (z.To<=h.From+(h.Stages.length:Int)))=true->∃b,Ei l h=some b/\r=bif b then [h] else []) /\ ((bif decide ((l.length:Int)=0) then true else decide (z.To<=h.From+(h.Stages.length:Int)))=false->lp (folL (fun h=>BI m l h n) h n) (0,[])=some r)):=by
 unfold BI at hF;cases hc:(decide (l.length<=1000000000)&&decide (h.Stages.length<=1000000000)&&As .i64 (h.From+(h.Stages.length:Int))) with
 |false=>rw[hc]at hF;cases hF
 |true =>
  rw[hc]at hF;simp only[AI,CA]at hc;obtain⟨⟨h1,h2⟩,h3⟩:=hc;have h3:inr .i64 (h.From+(h.Stages.length:Int)):=by simp[As]at h3;exact h3
  refine⟨h1,h2,h3,?_⟩;have hF:bd (gd (!decide ((l.length:Int)=0)) (at? l ((l.length:Int)-1))) (fun z=>ite' (bif decide ((l.length:Int)=0) then true else decide (z.To<=h.From+(h.Stages.length:Int))) (bd (Ei l h) fun b=>some (bif b then [h] else [])) (lp (folL (fun h=>BI m l h n) h n) (0,[])))=some r:=hF;cases hz:gd (!decide ((l.length:Int)=0)) (at? l ((l.length:Int)-1)) with
  |none=>rw[hz]at hF;cases hF
  |some z =>
   rw[hz]at hF;have hF:ite' (bif decide ((l.length:Int)=0) then true else decide (z.To<=h.From+(h.Stages.length:Int))) (bd (Ei l h) fun b=>some (bif b then [h] else [])) (lp (folL (fun h=>BI m l h n) h n) (0,[]))=some r:=hF;refine⟨z,fun hn=>?_,fun hu=>?_,fun hu=>?_⟩
   ·rw[A9 (show ¬(l.length:Int)=0 by omega)]at hz;obtain⟨a,b,c⟩:=In (show at? l ((l.length:Int)-1)=some z from hz)
    rwa [show((l.length:Int)-1).toNat=l.length-1 by omega]at c
   ·rw[hu]at hF;have hF:bd (Ei l h) (fun b=>some (bif b then [h] else []))=some r:=hF;cases hA:Ei l h with
    |none=>rw[hA]at hF;cases hF
    |some b=>rw[hA]at hF;cases hF;exact⟨b,rfl,rfl⟩
   ·rw[hu]at hF;exact hF
def Zh:List Ak:=(FC 0).take 13
def Mf:List Ak:=(FC 0).drop 14
theorem wz27:FC 0=Zh++(⟨some 53,.callf 58 [.t 41,.t 51,.t 52],none⟩ :: Mf):=rfl
theorem wz3a{m:Nat}(hA:∀(l:List Al) (h:AD) (b:Bool),Ei l h=some b->AK EE Tryz.prog 100 [slcV 5 Al.cells l,.agg h.cells] (.bool b))(ih:∀(l:List Al) (h:AD) (n:Int) (r:List AD),BI m l h n=some r->AK EE Tryz.prog 58 [slcV 5 Al.cells l,.agg h.cells,.int .i64 n] (slcV 2 AD.cells r))(l:List Al) (h:AD) (n:Int) (r:List AD) (hF:BI (m+1) l h n=some r) :
  ATr EE Tryz.prog 58 [slcV 5 Al.cells l,.agg h.cells,.int .i64 n] h0 (fun v _=>W v (slcV 2 AD.cells r)):=by
 obtain⟨g1,g2,g3,z,hz,mB,fD⟩:=wz2j hF;obtain⟨hf,hs⟩:=h;have dH:AD.cells ⟨hf,hs⟩=[.int .i64 hf,(Aa.slc 1 hs.length (Ai (cI .i64) hs))]:=rfl;simp only at g2 g3 mB fD;rw[dH];have oE:slcV 5 Al.cells l=.slc 5 l.length (Ai Al.cells l):=Gn ..;generalize hL:slcV 5 Al.cells l=L at *;obtain⟨c,hb,hc⟩:=ck58;refine ATr.ofs (fn:=Tryz.f58) (n:=56) rfl hb cr58 (hc 0) (by simp;rfl) rfl (by simp) ?_;refine AW.sr (by simp[YU];rfl) ?_
 have fb:dreg EE Tryz.prog (Md 0) ⟨tl [(6,.nils),(4,.ptr 0 1 0),(0,L),(1,.agg [.int .i64 hf,.slc 1 hs.length (Ai (cI .i64) hs)]),(2,.int .i64 n)] 56,hl [(0,.box 1 [.int .i64 hf,.slc 1 hs.length (Ai (cI .i64) hs)])],[]⟩ (fun S' tr=>hpOk YW tr=true/\See EE S' ⟨tl [(0,L),(2,.int .i64 n),(4,.ptr 0 1 0),(28,.bool (bif decide ((l.length:Int)=0) then true else decide (z.To<=hf+(hs.length:Int))))] 56,hl [(0,.box 1 [.int .i64 hf,.slc 1 hs.length (Ai (cI .i64) hs)])],[]⟩):=by
  subst oE;by_cases gg:l.length=0
  ·simp[Md,gg];exact⟨by kernel_rfl,.sp (by simp) (by simp) (by simp)⟩
  ·obtain⟨k0,iF⟩:∃k0,l.length=k0+1:=⟨l.length-1,by omega⟩;have bm:=hz gg;rw[show l.length-1=k0 by omega]at bm;have oF:Ai Al.cells l k0=z.cells:=Bb bm;have i1:inr .i64 (k0:Int):=by show _/\_;omega
   have i2:((k0:Int)+1=0)=False:=eq_false (by omega);rw[iF];simp[Md,oF,i1,i2,g3];exact⟨by omega,by kernel_rfl,.sp (by simp) (by simp) (by simp)⟩
 refine .seq (.seq (.draw (fb.mono fun S' tr q=>⟨q.1,.see q.2 ?_⟩)));refine AW.if' (bif decide ((l.length:Int)=0) then true else decide (z.To<=hf+(hs.length:Int))) (by simp) (fun e=>?_) (fun e=>AW.skip ?_)
 ·obtain⟨b,dI,hr⟩:=mB e;have sA:=hA l ⟨hf,hs⟩ b dI;rw[dH,hL]at sA;refine AW.sr (by simp[YX];refine sA.call ?_;(try simp);rfl) ?_;refine .seq (AW.sr (by simp[YY];rfl) ?_);refine AW.if' b (by simp) (fun e'=>?_) (fun e'=>AW.skip ?_)
  ·rw[e']at hr;subst hr;refine AW.sr (by simp[Za];rfl) ?_;refine .see (.sp (m':=[(6,.vec 1 1 0 1)]) (hm':=[(1,.vec 1 2 1 (Ai AD.cells [⟨hf,hs⟩])),(0,.gone 1)]) (by simp) (by simp) (by simp)) ?_;refine .see Zg ?_;refine .ret ?_;simp only[Ay];refine .here (by simp[rs58]) rfl ?_;simp[rs58,Gn]
  ·rw[e']at hr;subst hr;simp only[Ay];refine AW.sr (by simp[Zb];rfl) ?_;refine .ret ?_;simp only[Ay];refine .here (by simp[rs58]) rfl ?_;simp[rs58]
 have mC:=fD (by simpa using e);rw[Il]at mC;simp only[Ay];refine AW.sr (by simp[Zc];rfl) ?_;refine .seq (.seq (AW.r1 (by simp[Zd];rfl) ?_));refine .block (AW.lp (fun y:YFo=>[(0,L),(2,.int .i64 n),(4,.ptr 0 1 0),(8,ownV 6 y.e6 y.out),(9,.int .i64 y.k)]) (fun y=>[(0,.box 1 [.int .i64 hf,.slc 1 hs.length (Ai (cI .i64) hs)]),(2,.gone y.e2),(4,.gone y.e4),(6,ownO y.e6 2 AD.cells y.out)]) (fun y=>y.N) (fun y=>lpN (folL (fun h=>BI m l h n) ⟨hf,hs⟩ n) y.N (y.k,y.out)=some r) ⟨4611686018427387904,0,0,0,0,[]⟩ mC (by simp[ownV]) (by simp[ownO]) (by simp) ?_);rintro⟨N,k,e2,e4,e6,out⟩ hI;simp only at hI |-
 obtain⟨N,rfl⟩:∃N',N=N'+1:=by
  cases N with
  |zero=>cases hI
  |succ N=>exact⟨N,rfl⟩
 obtain⟨i1,i2⟩:=wz2m hI;refine .seq (AW.sr (by simp[Ze];rfl) ?_);refine AW.if' (decide (k<n)) (by simp) (fun e=>AW.skip ?_) (fun e=>.exit ?_)
 ·obtain⟨r',hr,dI,eI,hN⟩:=i1 (BC e);have sF:=ih _ _ _ _ hr;rw[hL]at sF;simp only[Ay];refine .seq (.block (.drawC ?_));rw[wz27];refine LP _ _ _ ?_;simp[Zh,FC];refine⟨by omega,by omega,slcV 2 AD.cells r',[2],some (2,.gone (e2+1+1+1+1)),.inr ?_,V9 _ _ _ ?_⟩
  ·refine⟨58,_,rfl,2,by simp,by simp,.inl ⟨by simp[Ad.ep],by simp,[L,.agg [.int .i64 hf,.slc 1 (hs.length+1) (Ai (cI .i64) (hs++[k]))],.int .i64 n],?_,?_⟩⟩
   ·simp;refine⟨.refl _,.aggl ⟨.refl _,.vec _ _ _ _ _ _ _ rfl (by omega) (fun j hj=>?_),trivial⟩,.refl _,trivial⟩;rw[Bn];by_cases aX:j<hs.length
    ·simp only[aX,AX];unfold Ai;rw[E9 aX]
    ·obtain rfl:j=hs.length:=by omega
     simp;rw[Bb (x:=k) (by simp)];rfl
   ·have e9:slcV 1 (cI .i64) (hs++[k])=.slc 1 (hs.length+1) (Ai (cI .i64) (hs++[k])):=(by rw[Gn];simp);have sF:=sF;rw[show(AD.cells ⟨hf,hs++[k]⟩)=[.int .i64 hf,slcV 1 (cI .i64) (hs++[k])] from rfl,e9]at sF;exact sF
  rw[Gn];cases out with
  |nil =>
   cases r' with
   |nil =>simp[Mf,FC,ownV,ownO];refine⟨by kernel_rfl,?_⟩;refine AW.r1 (by simp[Me];exact⟨eI,rfl⟩) ?_;simp only[Ay];exact⟨⟨N,k+1,e2+1+1+1+1,e4+1,e6,[]⟩,hN,by show N<N+1;omega,.sp (by simp[ownV]) (by simp[ownO]) (by simp)⟩
   |cons a r' =>have cD:(r'.length+1)*32<=140737488355328:=(by simp only[Bk,List.length_nil]at dI;omega);simp[Mf,FC,ownV,ownO];refine⟨cD,by kernel_rfl,?_⟩;refine AW.r1 (by simp[Me];exact⟨eI,rfl⟩) ?_;simp only[Ay];exact⟨⟨N,k+1,e2+1+1+1+1,e4+1,e6+1,a :: r'⟩,hN,by show N<N+1;omega,.sp (by simp[ownV]) (by simp[ownO]) (by simp)⟩
  |cons a m =>
   have cD:(m.length+1+r'.length)*32<=140737488355328:=by simp only[Bk]at dI;omega
   simp[Mf,FC,ownV,ownO];refine⟨cD,by kernel_rfl,?_⟩;refine AW.r1 (by simp[Me];exact⟨eI,rfl⟩) ?_;simp only[Ay];have mD:m.length+1+r'.length=m.length+r'.length+1:=by omega
   refine⟨⟨N,k+1,e2+1+1+1+1,e4+1,e6+1,a :: m++r'⟩,hN,by show N<N+1;omega,.sp (by simp[ownV,mD]) (by
    simp[ownO,mD];intro j hj;by_cases aX:j<m.length+1
    ·rw[Aj aX];unfold Ai;rw[<-Tf,E9 (by simpa using aX)]
    ·rw[Ag aX];unfold Ai;rw[<-Tf,Ft (by simpa using aX)];rfl) (by simp)⟩
 ·obtain rfl:=i2 (of_decide_eq_false e);simp only[Ay,ablk,AX];cases out with
  |nil =>refine AW.sr (by simp[PH,ownV];rfl) ?_;refine .ret (.here (by simp[rs58]) rfl ?_);simp[rs58]
  |cons a m =>refine AW.sr (by simp[PH,ownV];rfl) ?_;refine .see (.sp (m':=[(6,.vec 6 e6 0 (m.length+1))]) (hm':=[(6,.vec e6 2 (m.length+1) (Ai AD.cells (a :: m))),(0,.gone 1),(2,.gone e2),(4,.gone e4)]) (by simp) (by simp[ownO]) (by simp)) ?_;refine .see Zg ?_;refine .ret (.here (by simp[rs58]) rfl ?_);simp[rs58,Gn]
end
theorem Zi(H100:Ap k100):∀(m:Nat) (l:List Al) (h:AD) (n:Int) (r:List AD),BI m l h n=some r->AK EE Tryz.prog 58 [slcV 5 Al.cells l,.agg h.cells,.int .i64 n] (slcV 2 AD.cells r)
 |0,l,h,n,r,e=>by cases e
 |m+1,l,h,n,r,e=>by
  have H:Pure EE Tryz.prog 58 [slcV 5 Al.cells l,.agg h.cells,.int .i64 n] (slcV 2 AD.cells r):=(wz3a (fun l h b e=>H100.still (x:=(l,h)) (y:=b) e (by kernel_rfl)) (Zi H100 m) l h n r e).wv fun v h' q=>⟨_,q,rfl⟩;refine Pure.still H hEE (fun z hz=>?_) (C0 fun a z hz=>LO hz);rcases AV.1 hz with rfl|hz
  ·exact C0 fun a z hz=>Vk hz
  rcases AV.1 hz with rfl|hz
  ·exact .agg _ fun z hz=>LO hz
  ·rw[B3.1 hz];exact .int _ _
theorem wz23(H100:Ap k100):Ap k58:=⟨by kernel_rfl,fun x y e=>(Zi H100 64 x.1 x.2.1 x.2.2 y e).cast (by kernel_rfl)⟩
end
end Go.Am

