/- Part T2 of the proof that the last part closes: a typed interpreter of abstract code, proved sound over the machine. No condition. -/
import Derived.Test.YtpflinpbkifmhaaGreatDoorT1
set_option linter.unusedVariables false
set_option linter.unusedSimpArgs false
namespace Go.Am
theorem OEq.of_wo {o' o:AObj} (h:WO o' o) (hn:∀ e,o≠.gone e):OEq o' o:=by
 refine ⟨h.ep,fun ho=>h.owned ho,fun e he=>?_,fun g w i hO=>h.or hO⟩
 subst he
 cases o with
 | gone e=>exact absurd rfl (hn e)
 | box e l=>obtain ⟨l0,h,_⟩:=h; cases h
 | vec e st n f=>obtain ⟨f0,h,_⟩:=h; cases h
 | _=>exact h
theorem OEq.vec {e st n n':Nat} {f f':Nat→List AVal} (hn:n=n') (h:∀ k,k < n→Ws (f k) (f' k)):OEq (.vec e st n f) (.vec e st n' f'):=by
 subst hn
 exact .of_wo (qzmi.2 ⟨rfl,rfl,rfl,h⟩) (fun e h=>by cases h)
theorem wzq5 {α:Type}:∀ {n:Nat} {l:List α},wzrs n l=true→l.length≤n
 | _,[],_=>Nat.zero_le _
 | 0,_ :: _,h=>by cases h
 | n+1,_ :: l,h=>by have:=wzq5 (n:=n) (l:=l) h; simp only [List.length_cons]; omega
theorem wzr3 {l p:List AVal} {off:Nat} (h:vz6 (lay l off p)=true):vz6 p=true:=by
 unfold lay at h
 rw [wzkv,wzkv] at h
 simp only [Bool.and_eq_true] at h
 exact h.1.2
theorem wzp3 {α:Type} {c:α→List AVal} {m l:List α} (k:Nat):Ws (if k < m.length then qzd c m (0+k) else qzd c l (k - m.length)) (qzd c (m++l) k):=by
 rw [yzt,Nat.zero_add]; exact .refl _
theorem wzsz {α:Type} {c:α→List AVal} {m new:List α} {i n:Nat} {src:Nat→List AVal} (hi:i+n≤m.length) (hl:new.length=n) (h:∀ k,k < n→Ws (src k) (qzd c new k)) (k:Nat):Ws (if i≤k∧k < i+n then src (k - i) else qzd c m k) (qzd c (qzy m i new) k):=by
 rw [qzf6 (by omega),hl]
 by_cases hk:i≤k∧k < i+n
 ·rw [if_pos hk,if_pos hk]; exact h _ (by omega)
 ·rw [if_neg hk,if_neg hk]; exact .refl _
section
variable [Tab]
def ghoR (G:Gho) (ep:Nat):TO→Gho
 | .vec c l=>⟨ep,l.length,qzd c.cA l⟩
 | .own c l=>⟨ep,l.length,qzd c.cA l⟩
 | _=>⟨ep,G.n,G.f⟩
theorem wzpp {G:Gho} {e:Nat} {o:TO}:(ghoR G e o).ep=e:=by cases o<;>rfl
theorem wzrj {G:Gho} {e:Nat} {o:TO}:OkO (ghoR G e o) o:=by cases o<;>simp [ghoR,OkO]
structure Hp (φ:Phi) (T:TSt) (ar:AArg→AVal) (hh:qzl):Prop extends Ar φ T none ar hh where
 pl:∀ i,(hh i).plain
structure VO' (φ:Phi) (T:TSt) (ar:AArg→AVal) (hh:qzl) (o:AOp) (p:PV) (id:Nat) (ob:TO) (re:Bool) (rd:List Nat) (ep:Nat) (G:Gho):Prop where
 st:StP (T.nx+1) p
 ok:(o.req ar hh).ok
 v:VEq (o.req ar hh).v (eP (upd φ id T.nx (ghoR G ep ob)) p)
 okp:OkP (upd φ id T.nx (ghoR G ep ob)) p
 hrd:∀ j∈(o.req ar hh).rd,j∈rd
 hout:OutW hh (o.req ar hh).out (some (id,eO ep ob))
 hid:id∈rd
 re:re=true→∃ st o0,wzip T.h id=some (st,o0)∧(φ id st).ep=ep∧(φ id st).n=(ghoR G ep ob).n
def VO {α:Type} (φ:Phi) (T:TSt) (ar:AArg→AVal) (hh:qzl) (o:AOp) (K:PV→Nat→TO→Bool→List Nat→Option α) (r:α):Prop :=
 ∃ p id ob re rd ep G,K p id ob re rd=some r∧VO' φ T ar hh o p id ob re rd ep G
section
variable {α:Type} {φ:Phi} {ty:List (Nat×CT)} {T:TSt} {ar:AArg→AVal} {hh:qzl} {K:PV→Nat→TO→Bool→List Nat→Option α} {r:α}
theorem wzto [TabOk] (hA:Hp φ T ar hh) {s:Nat} {zero:List AVal} (h:wzpk ty T s zero K=some r):VO φ T ar hh (.alloc s zero) K r:=by
 unfold wzpk at h
 split at h
 ·rename_i z hz
  refine ⟨_,_,_,_,_,(hh s).ep+1,⟨0,0,fun _=>[]⟩,h,⟨Nat.lt_succ_self _,hA.pl s,?_,trivial,fun j hj=>hj,⟨rfl,?_⟩,List.mem_singleton.2 rfl,fun e=>by cases e⟩⟩
  ·show VEq (.ptr s ((hh s).ep+1) 0) (.ptr s (upd φ s T.nx _ s T.nx).ep 0)
   rw [wzjf]; exact .refl _
  ·show OEq (.box ((hh s).ep+1) zero) (.box ((hh s).ep+1) (emL z))
   rw [wzk3 hz]; exact .refl _
 ·cases h
theorem wzv6 [TabOk] (hA:Hp φ T ar hh) {s:Nat} {x:AArg} (h:wzsc ty T s x K=some r):VO φ T ar hh (.box s x) K r:=by
 unfold wzsc at h
 split at h
 ·rename_i v h1
  have e1:ar x=emS v:=(hA.a _ _ h1).1
  split at h
  ·rename_i l hl
   have hreq:(AOp.box s x).req ar hh=⟨(hh s).plain,[s],.ptr s ((hh s).ep+1) 0,some (s,.box ((hh s).ep+1) (emL l))⟩:=by
    simp only [AOp.req,e1,wzmj hl]
   refine ⟨_,_,_,_,_,(hh s).ep+1,⟨0,0,fun _=>[]⟩,h,⟨Nat.lt_succ_self _,by rw [hreq]; exact hA.pl s,?_,trivial,by rw [hreq]; exact fun j hj=>hj,by rw [hreq]; exact ⟨rfl,.refl _⟩,List.mem_singleton.2 rfl,fun e=>by cases e⟩⟩
   rw [hreq]
   show VEq (.ptr s ((hh s).ep+1) 0) (.ptr s (upd φ s T.nx _ s T.nx).ep 0)
   rw [wzjf]; exact .refl _
  ·cases h
 ·cases h
theorem wzss [TabOk] (hA:Hp φ T ar hh) {s st nn:Nat} {zero:List AVal} {ps:List (Nat×Nat×AArg)} (h:wzob ty T s st nn zero ps K=some r):VO φ T ar hh (.bslice s st nn zero ps) K r:=by
 unfold wzob at h
 split at h
 ·rename_i z hz
  split at h
  ·rename_i l hl
   have hf:=wzmi hA.toAr hl
   rw [wzk3 hz] at hf
   replace h:=wziq h
   obtain ⟨h1,h⟩:=h
   replace h:=wziq h
   obtain ⟨h2,h⟩:=h
   replace h:=wziq h
   obtain ⟨h3,h⟩:=h
   have h1:=wzir.1 h1
   have h2:=wzir.1 h2
   have h3:0 < st:=by simpa [Nat.blt_eq] using h3
   split at h
   ·rename_i m hm
    obtain ⟨c1,c2,c3⟩:=wznk hm h1
    have hreq:(AOp.bslice s st nn zero ps).req ar hh=⟨(hh s).plain∧(emL l).length=nn*st∧0 < st∧vz6 (emL l)=true,[s],.vec s ((hh s).ep+1) 0 nn,some (s,.vec ((hh s).ep+1) st nn (fun i=>(kz1 st nn (emL l)).getD i []))⟩:=by
     simp only [AOp.req,hf]
    refine ⟨_,_,_,_,_,(hh s).ep+1,⟨0,0,fun _=>[]⟩,h,⟨Nat.lt_succ_self _,by rw [hreq]; exact ⟨hA.pl s,by rw [wziw,h1],h3,c2⟩,?_,trivial,by rw [hreq]; exact fun j hj=>hj,?_,List.mem_singleton.2 rfl,fun e=>by cases e⟩⟩
    ·rw [hreq]
     show VEq (.vec s ((hh s).ep+1) 0 nn) (.vec s (upd φ s T.nx _ s T.nx).ep 0 (upd φ s T.nx _ s T.nx).n)
     rw [wzjf]
     show VEq _ (.vec s ((hh s).ep+1) 0 m.length)
     rw [c1]; exact .refl _
    ·rw [hreq]
     refine ⟨rfl,?_⟩
     show OEq _ (.vec ((hh s).ep+1) (wzi5 s ty).n m.length (qzd (wzi5 s ty).cA m))
     rw [h2]
     exact .vec c1.symm c3
   ·cases h
  ·cases h
 ·cases h
theorem wzv8 [TabOk] (hA:Hp φ T ar hh) {s st bytes:Nat} {zero:List AVal} {x:AArg} (h:wzr9 ty T s st bytes zero x K=some r):VO φ T ar hh (.mks s st bytes zero x) K r:=by
 unfold wzr9 at h
 split at h
 ·rename_i z k n hz h1
  have e1:ar x=.int k n:=(hA.a _ _ h1).1
  replace h:=wziq h
  obtain ⟨h2,h⟩:=h
  replace h:=wziq h
  obtain ⟨h3,h⟩:=h
  have h2:=wzir.1 h2
  have h3:0 < st:=by simpa [Nat.blt_eq] using h3
  split at h
  ·rename_i e he
   have hk:=wzj4 (G:=none) h
   obtain ⟨k1,k2⟩:=qztk (hk.2 trivial)
   obtain ⟨p1,p2⟩:=wzke he
   rw [wzk3 hz] at p1 p2
   have hlen:zero.length=st:=by rw [p1.at.1,wznh,h2]
   have hreq:(AOp.mks s st bytes zero x).req ar hh=⟨(hh s).plain∧0≤n∧n*bytes≤140737488355328∧0 < st∧zero.length=st∧vz6 zero=true,[s],.vec s ((hh s).ep+1) 0 n.toNat,some (s,.vec ((hh s).ep+1) st n.toNat (fun _=>zero))⟩:=by
    simp only [AOp.req,e1]
   refine ⟨_,_,_,_,_,(hh s).ep+1,⟨0,0,fun _=>[]⟩,hk.1,⟨Nat.lt_succ_self _,by rw [hreq]; exact ⟨hA.pl s,k1,k2,h3,hlen,p2⟩,?_,trivial,by rw [hreq]; exact fun j hj=>hj,?_,List.mem_singleton.2 rfl,fun e=>by cases e⟩⟩
   ·rw [hreq]
    show VEq (.vec s ((hh s).ep+1) 0 n.toNat) (.vec s (upd φ s T.nx _ s T.nx).ep 0 (upd φ s T.nx _ s T.nx).n)
    rw [wzjf]
    show VEq _ (.vec s ((hh s).ep+1) 0 (List.replicate n.toNat e).length)
    rw [List.length_replicate]; exact .refl _
   ·rw [hreq]
    refine ⟨rfl,?_⟩
    show OEq _ (.vec ((hh s).ep+1) (wzi5 s ty).n (List.replicate n.toNat e).length (qzd (wzi5 s ty).cA (List.replicate n.toNat e)))
    rw [h2]
    exact .vec (by rw [List.length_replicate]) fun k hk=>by rw [kzl hk]; exact p1
  ·cases h
 ·cases h
theorem wzwh [TabOk] (hA:Hp φ T ar hh) {s:Nat} {x:AArg} (h:wzsa ty T s x K=some r):VO φ T ar hh (.s2b s x) K r:=by
 unfold wzsa at h
 split at h
 ·rename_i b h1
  have e1:ar x=.str b:=(hA.a _ _ h1).1
  have hreq:(AOp.s2b s x).req ar hh=⟨(hh s).plain,[s],.slc 1 b.length (fun k=>[.int .u8 (wzw b k)]),some (s,.gone ((hh s).ep+1))⟩:=by
   simp only [AOp.req,e1]
  refine ⟨_,_,_,_,_,(hh s).ep+1,⟨0,0,fun _=>[]⟩,h,⟨trivial,by rw [hreq]; exact hA.pl s,?_,trivial,by rw [hreq]; exact fun j hj=>hj,by rw [hreq]; exact ⟨rfl,.refl _⟩,List.mem_singleton.2 rfl,fun e=>by cases e⟩⟩
  rw [hreq]
  refine .of_w (qzpo.2 ⟨rfl,(qzcs b).symm,wzvm rfl fun k _=>rfl⟩)
 ·cases h
theorem wzwf [TabOk] {c:CT} {l:List c.T} {i:Nat} {e:c.T} {row:List AVal} (hi:i < l.length) (h:Ws row (c.cA e)) (k:Nat):Ws (if k=i then row else qzd c.cA l k) (qzd c.cA (l.set i e) k):=by
 rw [qzdm hi]
 split
 ·exact h
 ·exact .refl _
theorem wztz [TabOk] (hA:Hp φ T ar hh) {sz:Nat} {x y:AArg} (h:wzp0 ty T sz x y K=some r):VO φ T ar hh (.store sz x y) K r:=by
 unfold wzp0 at h
 split at h
 ·rename_i id st off v h1 h2
  have e1:ar x=.ptr id (φ id st).ep off:=(hA.a _ _ h1).1
  have e2:ar y=emS v:=(hA.a _ _ h2).1
  split at h
  ·rename_i st' cs p ho hp
   replace h:=wziq h
   obtain ⟨q1,h⟩:=h
   replace h:=wziq h
   obtain ⟨q2,h⟩:=h
   replace h:=wziq h
   obtain ⟨q3,h⟩:=h
   replace h:=wziq h
   obtain ⟨q4,h⟩:=h
   obtain rfl:=wzir.1 q1
   have q2:=wzir.1 q2
   have q3:=Nat.le_of_ble_eq_true q3
   have e3:=hA.toAr.box ho
   have hreq:(AOp.store sz x y).req ar hh=⟨(φ id st).ep=(φ id st).ep∧(emL p).length=sz∧vz6 (emL p)=true∧off+sz≤(emL cs).length,[id],.top,some (id,.box (φ id st).ep (lay (emL cs) off (emL p)))⟩:=by
    simp only [AOp.req,qzbw,e1,e2,wzmj hp,e3]
   refine ⟨_,_,_,_,_,(φ id st).ep,φ id st,h,⟨trivial,by rw [hreq]; exact ⟨rfl,by rw [wziw,q2],wzrp q4,by rw [wziw]; exact q3⟩,by rw [hreq]; exact .refl _,trivial,by rw [hreq]; exact fun j hj=>hj,?_,List.mem_singleton.2 rfl,fun _=>⟨st,_,ho,rfl,rfl⟩⟩⟩
   rw [hreq]
   refine ⟨rfl,?_⟩
   show OEq _ (.box (φ id st).ep (emL (layS cs off p)))
   rw [wzpn]; exact .refl _
  ·cases h
 ·rename_i id st j off c y0 v h1 h2
  have e1:ar x=.eptr id (φ id st).ep j.toNat off:=(hA.a _ _ h1).1
  have e2:ar y=emS v:=(hA.a _ _ h2).1
  split at h
  ·rename_i st' c' l p ho hp
   replace h:=wziq h
   obtain ⟨q1,h⟩:=h
   replace h:=wziq h
   obtain ⟨q2,h⟩:=h
   replace h:=wziq h
   obtain ⟨q3,h⟩:=h
   obtain rfl:=wzir.1 q1
   have q2:=wzir.1 q2
   have q3:=Nat.le_of_ble_eq_true q3
   obtain ⟨e3,e4,e5⟩:=hA.toAr.vec ho
   obtain ⟨k1,k2,k3⟩:=(hA.a _ _ h1).2.2 trivial
   rw [e4] at k2
   rw [e5] at k3
   have hn:=wzrf k2 k3
   split at h
   ·rename_i e he
    obtain ⟨p1,p2⟩:=wzke he
    rw [wzpn,wzk1] at p1 p2
    have hreq:(AOp.store sz x y).req ar hh=⟨(φ id st).ep=(φ id st).ep∧j.toNat < l.length∧(emL p).length=sz∧vz6 (emL p)=true∧off+sz≤c'.n,[id],.top,some (id,.vec (φ id st).ep c'.n l.length (fun k=>if k=j.toNat then lay (qzd c'.cA l j.toNat) off (emL p) else qzd c'.cA l k))⟩:=by
     simp only [AOp.req,qzbw,e1,e2,wzmj hp,e3]
    refine ⟨_,_,_,_,_,(φ id st).ep,φ id st,h,⟨trivial,by rw [hreq]; exact ⟨rfl,k2,by rw [wziw,q2],wzr3 p2,by rw [← hn]; exact q3⟩,by rw [hreq]; exact .refl _,trivial,by rw [hreq]; exact fun j hj=>hj,?_,List.mem_singleton.2 rfl,fun _=>⟨st,_,ho,rfl,?_⟩⟩⟩
    ·rw [hreq]
     refine ⟨rfl,?_⟩
     show OEq _ (.vec (φ id st).ep c'.n (l.set j.toNat e).length (qzd c'.cA (l.set j.toNat e)))
     rw [k3]
     exact .vec (by rw [List.length_set]) fun k hk=>wzwf k2 p1 k
    ·show (φ id st).n=(l.set j.toNat e).length
     rw [e4,List.length_set]
   ·cases h
  ·cases h
 ·cases h
theorem wznz (hA:Hp φ T ar hh) {y:AArg} {q:PV} {c:CT} {l:List c.T} {rd:List Nat} (hq:argP T none y=some q) (h:srcS T c q=some (l,rd)) (st:Nat):∃ ok:Prop,ok∧qz5 st (ar y) hh=⟨ok,rd,c.n,l.length,qzd c.cA l⟩:=by
 have e:=(hA.a _ _ hq).1
 unfold srcS at h
 split at h
 ·rename_i c' l'
  split at h
  ·rename_i l2 h2
   cases h
   obtain ⟨a,b,d,rfl⟩:=wzof h2
   have e:ar y=.slc c'.n l'.length (qzd c'.cA l'):=e
   refine ⟨True,trivial,?_⟩
   rw [e,← b,← d]; rfl
  ·cases h
 ·rename_i id vst
  have e:ar y=.vec id (φ id vst).ep 0 (φ id vst).n:=e
  split at h
  ·rename_i st' c' l' ho
   replace h:=wziq h
   obtain ⟨hb,h⟩:=h
   obtain rfl:=wzir.1 hb
   split at h
   ·rename_i l2 h2
    cases h
    obtain ⟨a,b,d,rfl⟩:=wzof h2
    obtain ⟨e3,e4,e5⟩:=hA.toAr.vec ho
    refine ⟨(φ id vst).ep=(φ id vst).ep∧0+(φ id vst).n≤l'.length,⟨rfl,by rw [e4]; omega⟩,?_⟩
    rw [e]
    simp only [qz5,e3,e4,Nat.zero_add,← b,← d]
   ·cases h
  ·cases h
 ·cases h
theorem wzs9 [TabOk] (hA:Hp φ T ar hh) {s st bytes:Nat} {x y:AArg} (h:wzoa ty T s st bytes x y K=some r):VO φ T ar hh (.append s st bytes x y) K r:=by
 unfold wzoa at h
 split at h
 ·rename_i q h1 h2
  have e1:ar x=.nils:=(hA.a _ _ h1).1
  split at h
  ·rename_i a l rd hs
   replace h:=wziq h
   obtain ⟨q1,h⟩:=h
   replace h:=wziq h
   obtain ⟨q2,h⟩:=h
   replace h:=wziq h
   obtain ⟨q3,h⟩:=h
   replace h:=wziq h
   obtain ⟨q4,h⟩:=h
   have q1:=wzir.1 q1
   have q2:0 < st:=by simpa [Nat.blt_eq] using q2
   have q3:=wzq5 q3
   have q4:=Nat.le_of_ble_eq_true q4
   obtain ⟨ok,hok,hsrc⟩:=wznz hA h2 hs st
   have hreq:(AOp.append s st bytes x y).req ar hh=⟨(hh s).plain∧ok∧(wzi5 s ty).n=st∧0 < st∧0 < (a :: l).length∧(a :: l).length*bytes≤140737488355328,s :: rd,.vec s ((hh s).ep+1) 0 (a :: l).length,some (s,.vec ((hh s).ep+1) st (a :: l).length (qzd (wzi5 s ty).cA (a :: l)))⟩:=by
    simp only [AOp.req,wzu,e1,hsrc]
    rw [if_neg (by simp)]
   have hb:(a :: l).length*bytes≤140737488355328:=by
    have:(a :: l).length*bytes≤65*1000000:=Nat.mul_le_mul (by simp only [List.length_cons]; omega) q4
    omega
   refine ⟨_,_,_,_,_,(hh s).ep+1,⟨0,0,fun _=>[]⟩,h,⟨Nat.lt_succ_self _,by rw [hreq]; exact ⟨hA.pl s,hok,q1,q2,by simp,hb⟩,?_,trivial,by rw [hreq]; exact fun j hj=>hj,?_,List.mem_cons_self ..,fun e=>by cases e⟩⟩
   ·rw [hreq]
    show VEq _ (match (upd φ s T.nx _ s T.nx).n with | 0=>.nils | n+1=>.vec s (upd φ s T.nx _ s T.nx).ep 0 (n+1))
    rw [wzjf]
    exact .refl _
   ·rw [hreq]
    refine ⟨rfl,?_⟩
    show OEq _ (.vec ((hh s).ep+1) (wzi5 s ty).n (l.length+1) (qzd (wzi5 s ty).cA (a :: l)))
    rw [q1]
    exact .refl _
  ·cases h
 ·rename_i id vst q h1 h2
  have e1:=(hA.a _ _ h1).1
  split at h
  ·rename_i st' c m ho
   have e2:=(hA.h _ _ _ ho).1
   have e3:=(hA.h _ _ _ ho).2
   split at h
   ·rename_i l rd hs
    replace h:=wziq h
    obtain ⟨q1,h⟩:=h
    replace h:=wziq h
    obtain ⟨q2,h⟩:=h
    replace h:=wziq h
    obtain ⟨q3,h⟩:=h
    replace h:=wziq h
    obtain ⟨q4,h⟩:=h
    obtain rfl:=wzir.1 q1
    obtain rfl:=wzir.1 q2
    have q3:=wzir.1 q3
    have q4:0 < st:=by simpa [Nat.blt_eq] using q4
    have h:kond (memN id rd) none (ck (decide (List.length (m++l)*bytes≤140737488355328)) (K (.own id T.nx) id (.own c (m++l)) false (id :: rd)))=some r:=h
    have hmem:memN id rd=false:=by
     cases hm:memN id rd
     ·rfl
     ·rw [hm] at h; cases h
    rw [hmem] at h
    have hk:=wzj4 (G:=none) h
    have hb:(m++l).length*bytes≤140737488355328:=by simpa using hk.2 trivial
    obtain ⟨ok,hok,hsrc⟩:=wznz hA h2 hs st
    have e1:ar x=match (φ id vst).n with | 0=>.nils | n+1=>.vec id (φ id vst).ep 0 (n+1):=e1
    rw [e3.1] at e1
    have hep:=hA.toAr.ep ho
    cases m with
    | nil =>
     have e1:ar x=.nils:=e1
     have e2:hh id=.gone (φ id vst).ep:=e2
     cases l with
     | nil =>
      have hreq:(AOp.append id st bytes x y).req ar hh=⟨ok∧c.n=st,rd,.nils,none⟩:=by
       simp only [AOp.req,wzu,e1,hsrc]; rfl
      refine ⟨_,_,_,_,_,(φ id vst).ep,⟨0,0,fun _=>[]⟩,hk.1,⟨Nat.lt_succ_self _,by rw [hreq]; exact ⟨hok,q3⟩,?_,trivial,by rw [hreq]; exact fun j hj=>List.mem_cons_of_mem _ hj,?_,List.mem_cons_self ..,fun e=>by cases e⟩⟩
      ·rw [hreq]
       show VEq _ (match (upd φ id T.nx _ id T.nx).n with | 0=>.nils | n+1=>.vec id (upd φ id T.nx _ id T.nx).ep 0 (n+1))
       rw [wzjf]
       exact .refl _
      ·rw [hreq]
       show OEq (hh id) (.gone (φ id vst).ep)
       rw [e2]; exact .refl _
     | cons a l =>
      have hreq:(AOp.append id st bytes x y).req ar hh=⟨(hh id).plain∧ok∧c.n=st∧0 < st∧0 < (a :: l).length∧(a :: l).length*bytes≤140737488355328,id :: rd,.vec id ((hh id).ep+1) 0 (a :: l).length,some (id,.vec ((hh id).ep+1) st (a :: l).length (qzd c.cA (a :: l)))⟩:=by
       simp only [AOp.req,wzu,e1,hsrc]
       rw [if_neg (by simp)]
      refine ⟨_,_,_,_,_,(hh id).ep+1,⟨0,0,fun _=>[]⟩,hk.1,⟨Nat.lt_succ_self _,by rw [hreq]; exact ⟨hA.pl id,hok,q3,q4,by simp,hb⟩,?_,trivial,by rw [hreq]; exact fun j hj=>hj,?_,List.mem_cons_self ..,fun e=>by cases e⟩⟩
      ·rw [hreq]
       show VEq _ (match (upd φ id T.nx _ id T.nx).n with | 0=>.nils | n+1=>.vec id (upd φ id T.nx _ id T.nx).ep 0 (n+1))
       rw [wzjf]
       exact .refl _
      ·rw [hreq]
       refine ⟨rfl,?_⟩
       show OEq _ (.vec ((hh id).ep+1) c.n (l.length+1) (qzd c.cA (a :: l)))
       rw [q3]
       exact .refl _
    | cons z m =>
     have e1:ar x=.vec id (φ id vst).ep 0 (m.length+1):=e1
     have e2:hh id=.vec (φ id vst).ep c.n (m.length+1) (qzd c.cA (z :: m)):=e2
     have hreq:(AOp.append id st bytes x y).req ar hh=⟨ok∧c.n=st∧(φ id vst).ep=(φ id vst).ep∧c.n=st∧0+(m.length+1)≤m.length+1∧((m.length+1)+l.length)*bytes≤140737488355328,id :: rd,.vec id ((φ id vst).ep+1) 0 ((m.length+1)+l.length),some (id,.vec ((φ id vst).ep+1) st ((m.length+1)+l.length) (fun k=>if k < m.length+1 then qzd c.cA (z :: m) (0+k) else qzd c.cA l (k - (m.length+1))))⟩:=by
      simp only [AOp.req,wzu,e1,hsrc,e2]
     have hlen:(m.length+1)+l.length=(m++l).length+1:=by simp only [List.length_append]; omega
     refine ⟨_,_,_,_,_,(φ id vst).ep+1,⟨0,0,fun _=>[]⟩,hk.1,⟨Nat.lt_succ_self _,by rw [hreq]; exact ⟨hok,q3,rfl,q3,by omega,by rw [hlen]; simpa using hb⟩,?_,trivial,by rw [hreq]; exact fun j hj=>hj,?_,List.mem_cons_self ..,fun e=>by cases e⟩⟩
     ·rw [hreq]
      show VEq _ (match (upd φ id T.nx _ id T.nx).n with | 0=>.nils | n+1=>.vec id (upd φ id T.nx _ id T.nx).ep 0 (n+1))
      rw [wzjf]
      show VEq (.vec id ((φ id vst).ep+1) 0 ((m.length+1)+l.length)) (.vec id ((φ id vst).ep+1) 0 ((m++l).length+1))
      rw [hlen]
      exact .refl _
     ·rw [hreq]
      refine ⟨rfl,?_⟩
      show OEq _ (.vec ((φ id vst).ep+1) c.n ((m++l).length+1) (qzd c.cA (z :: m++l)))
      rw [q3]
      exact .vec hlen fun k _=>wzp3 (m:=z :: m) k
   ·cases h
  ·cases h
 ·rename_i id vst q h1 h2
  have e1:ar x=.vec id (φ id vst).ep 0 (φ id vst).n:=(hA.a _ _ h1).1
  split at h
  ·rename_i st' c m ho
   split at h
   ·rename_i l rd hs
    replace h:=wziq h
    obtain ⟨q1,h⟩:=h
    replace h:=wziq h
    obtain ⟨q3,h⟩:=h
    replace h:=wziq h
    obtain ⟨q4,h⟩:=h
    obtain rfl:=wzir.1 q1
    have q3:=wzir.1 q3
    have q4:0 < st:=by simpa [Nat.blt_eq] using q4
    have hk:=wzj4 (G:=none) h
    have hb:(m++l).length*bytes≤140737488355328:=by simpa using hk.2 trivial
    obtain ⟨ok,hok,hsrc⟩:=wznz hA h2 hs st
    obtain ⟨e2,e3,e4⟩:=hA.toAr.vec ho
    rw [e3] at e1
    have hreq:(AOp.append s st bytes x y).req ar hh=⟨ok∧c.n=st∧(φ id vst).ep=(φ id vst).ep∧c.n=st∧0+m.length≤m.length∧(m.length+l.length)*bytes≤140737488355328,id :: rd,.vec id ((φ id vst).ep+1) 0 (m.length+l.length),some (id,.vec ((φ id vst).ep+1) st (m.length+l.length) (fun k=>if k < m.length then qzd c.cA m (0+k) else qzd c.cA l (k - m.length)))⟩:=by
     simp only [AOp.req,wzu,e1,hsrc,e2]
    have hlen:m.length+l.length=(m++l).length:=by simp only [List.length_append]
    refine ⟨_,_,_,_,_,(φ id vst).ep+1,⟨0,0,fun _=>[]⟩,hk.1,⟨Nat.lt_succ_self _,by rw [hreq]; exact ⟨hok,q3,rfl,q3,by omega,by rw [hlen]; exact hb⟩,?_,trivial,by rw [hreq]; exact fun j hj=>hj,?_,List.mem_cons_self ..,fun e=>by cases e⟩⟩
    ·rw [hreq]
     show VEq _ (.vec id (upd φ id T.nx _ id T.nx).ep 0 (upd φ id T.nx _ id T.nx).n)
     rw [wzjf]
     show VEq (.vec id ((φ id vst).ep+1) 0 (m.length+l.length)) (.vec id ((φ id vst).ep+1) 0 (m++l).length)
     rw [hlen]
     exact .refl _
    ·rw [hreq]
     refine ⟨rfl,?_⟩
     show OEq _ (.vec ((φ id vst).ep+1) c.n (m++l).length (qzd c.cA (m++l)))
     rw [q3]
     exact .vec hlen fun k _=>wzp3 k
   ·cases h
  ·cases h
 ·cases h
theorem wzu2 [TabOk] (hA:Hp φ T ar hh) {st0:Nat} {x y:AArg} (h:wzqs ty T st0 x y K=some r):VO φ T ar hh (.copy st0 x y) K r:=by
 unfold wzqs at h
 split at h
 ·rename_i id vst lo hi q h1 h2
  have e1:ar x=.vec id (φ id vst).ep lo.toNat (hi - lo).toNat:=(hA.a _ _ h1).1
  split at h
  ·rename_i st' c m ho
   split at h
   ·rename_i l rd hs
    replace h:=wziq h
    obtain ⟨q1,h⟩:=h
    replace h:=wziq h
    obtain ⟨q2,h⟩:=h
    obtain rfl:=wzir.1 q1
    have q2:=wzir.1 q2
    have h:kond (memN id rd) none (ck (kzy m lo hi) (K (.s (.int .i64 (min (List.length l) (Int.toNat (hi - lo)):Int))) id (.vec c (qzy m (Int.toNat lo) (List.take (Int.toNat (hi - lo)) l))) true (id :: rd)))=some r:=h
    have hmem:memN id rd=false:=by
     cases hm:memN id rd
     ·rfl
     ·rw [hm] at h; cases h
    rw [hmem] at h
    have hk:=wzj4 (G:=none) h
    obtain ⟨k1,k2,k3⟩:=vz4 (hk.2 trivial)
    obtain ⟨ok,hok,hsrc⟩:=wznz hA h2 hs c.n
    obtain ⟨e2,e3,e4⟩:=hA.toAr.vec ho
    have hreq:(AOp.copy st0 x y).req ar hh=⟨ok∧c.n=c.n∧(φ id vst).ep=(φ id vst).ep∧lo.toNat+(hi - lo).toNat≤m.length∧st0=c.n,id :: rd,.int .i64 (min l.length (hi - lo).toNat:Nat),some (id,.vec (φ id vst).ep c.n m.length (fun k=>if lo.toNat≤k∧k < lo.toNat+min l.length (hi - lo).toNat then qzd c.cA l (k - lo.toNat) else qzd c.cA m k))⟩:=by
     simp only [AOp.req,qznz,e1,e2,hsrc]
    have hl:(List.take (hi - lo).toNat l).length=min l.length (hi - lo).toNat:=by rw [List.length_take,Nat.min_comm]
    have hp:(qzy m lo.toNat (List.take (hi - lo).toNat l)).length=m.length:=qzc1 (by rw [hl]; omega)
    refine ⟨_,_,_,_,_,(φ id vst).ep,φ id vst,hk.1,⟨trivial,by rw [hreq]; exact ⟨hok,rfl,rfl,by omega,q2.symm⟩,?_,trivial,by rw [hreq]; exact fun j hj=>hj,?_,List.mem_cons_self ..,fun _=>⟨vst,_,ho,rfl,?_⟩⟩⟩
    ·rw [hreq]
     show VEq (.int .i64 ((min l.length (hi - lo).toNat:Nat):Int)) (.int .i64 (min (l.length:Int) ((hi - lo).toNat:Int)))
     rw [show ((min l.length (hi - lo).toNat:Nat):Int)=min (l.length:Int) ((hi - lo).toNat:Int) by omega]
     exact .refl _
    ·rw [hreq]
     refine ⟨rfl,?_⟩
     show OEq _ (.vec (φ id vst).ep c.n (qzy m lo.toNat (List.take (hi - lo).toNat l)).length (qzd c.cA (qzy m lo.toNat (List.take (hi - lo).toNat l))))
     refine .vec hp.symm fun k _=>wzsz (n:=min l.length (hi - lo).toNat) (by omega) hl (fun k hk=>?_) k
     rw [qzfj (by omega)]; exact .refl _
    ·show (φ id vst).n=(qzy m lo.toNat (List.take (hi - lo).toNat l)).length
     rw [hp,e3]
   ·cases h
  ·cases h
 ·cases h
theorem wztf [TabOk] (hA:Hp φ T ar hh) {zero:List AVal} {x:AArg} (h:wzpr ty T zero x K=some r):VO φ T ar hh (.clear zero x) K r:=by
 unfold wzpr at h
 split at h
 ·rename_i z id vst lo hi hz h1
  have e1:ar x=.vec id (φ id vst).ep lo.toNat (hi - lo).toNat:=(hA.a _ _ h1).1
  split at h
  ·rename_i st' c m ho
   split at h
   ·rename_i e he
    obtain ⟨p1,p2⟩:=wzke he
    rw [wzk3 hz] at p1 p2
    replace h:=wziq h
    obtain ⟨q1,h⟩:=h
    obtain rfl:=wzir.1 q1
    have hk:=wzj4 (G:=none) h
    obtain ⟨k1,k2,k3⟩:=vz4 (hk.2 trivial)
    obtain ⟨e2,e3,e4⟩:=hA.toAr.vec ho
    have hreq:(AOp.clear zero x).req ar hh=⟨(φ id vst).ep=(φ id vst).ep∧lo.toNat+(hi - lo).toNat≤m.length∧zero.length=c.n∧vz6 zero=true,[id],.tup [],some (id,.vec (φ id vst).ep c.n m.length (fun k=>if lo.toNat≤k∧k < lo.toNat+(hi - lo).toNat then zero else qzd c.cA m k))⟩:=by
     simp only [AOp.req,qzlh,e1,e2]
    have hl:(List.replicate (hi - lo).toNat e).length=(hi - lo).toNat:=List.length_replicate
    have hp:(qzy m lo.toNat (List.replicate (hi - lo).toNat e)).length=m.length:=qzc1 (by rw [hl]; omega)
    refine ⟨_,_,_,_,_,(φ id vst).ep,φ id vst,hk.1,⟨trivial,by rw [hreq]; exact ⟨rfl,by omega,by rw [p1.at.1,wznh],p2⟩,by rw [hreq]; exact .refl _,trivial,by rw [hreq]; exact fun j hj=>hj,?_,List.mem_singleton.2 rfl,fun _=>⟨vst,_,ho,rfl,?_⟩⟩⟩
    ·rw [hreq]
     refine ⟨rfl,?_⟩
     show OEq _ (.vec (φ id vst).ep c.n (qzy m lo.toNat (List.replicate (hi - lo).toNat e)).length (qzd c.cA (qzy m lo.toNat (List.replicate (hi - lo).toNat e))))
     refine .vec hp.symm fun k _=>wzsz (n:=(hi - lo).toNat) (src:=fun _=>zero) (by omega) hl (fun k hk=>?_) k
     rw [kzl hk]; exact p1
    ·show (φ id vst).n=(qzy m lo.toNat (List.replicate (hi - lo).toNat e)).length
     rw [hp,e3]
   ·cases h
  ·cases h
 ·cases h
theorem wzwc [TabOk] (hA:Hp φ T ar hh) {o:AOp} (h:opO ty T o K=some r):VO φ T ar hh o K r:=by
 cases o<;>simp only [opO] at h<;>first
  | (cases h; done)
  | exact wzto hA h | exact wzv6 hA h | exact wzss hA h | exact wzv8 hA h | exact wzwh hA h | exact wztz hA h | exact wzs9 hA h | exact wzu2 hA h | exact wztf hA h
end
end
end Go.Am

set_option linter.unusedVariables false
set_option linter.unusedSimpArgs false
namespace Go.Am
theorem wzwg {m m':List (Nat×AVal)} {n:Nat} (h:∀ i,i < n→look m i=look m' i):tl m n=tl m' n:=by
 unfold tl
 exact List.map_congr_left fun i hi=>h i (List.mem_range.1 hi)
theorem Ws.getD:∀ {l l':List AVal},Ws l l'→∀ j,W (l.getD j .top) (l'.getD j .top)
 | [],[],_,j=>.refl _
 | x :: l,y :: l',h,0=>h.1
 | x :: l,y :: l',h,j+1=>Ws.getD (l:=l) (l':=l') h.2 j
 | [],_ :: _,h,_=>h.elim
 | _ :: _,[],h,_=>h.elim
theorem Ws.append {l l' m m':List AVal} (h:Ws l l') (k:Ws m m'):Ws (l++m) (l'++m'):=by
 match l,l',h with
 | [],[],_=>exact k
 | x :: l,y :: l',h=>exact ⟨h.1,Ws.append h.2 k⟩
section
variable {E:Nat→AVal} {P:Program}
theorem wzq9 {a b:Bool}:eqB a b=true↔a=b:=by cases a<;>cases b<;>decide
theorem wzu0 {c d:Bool} {x:AVal} (h:unc c x):unc (c&&d) x:=by
 cases x<;>simp only [unc] at h ⊢
 intro e
 simp only [Bool.and_eq_true] at e
 exact h e.1
theorem wzr8 {c:Bool} {t:List AVal} {a:AArg} (h:∀ n,a=.t n→unc c (t.getD n .top)):wze c t [a]:=by
 cases a with
 | t n=>exact ⟨h n rfl,trivial⟩
 | c v=>exact trivial
 | g i=>exact trivial
theorem wzom {o:qzc} {S:ASt} {v:AVal} {rd:List Nat} {out:Option (Nat×AObj)} (hg:o.guard=none) (hc:o.op.isCall=false) (h1:(o.op.req (argv E S.t) S.h).ok) (h2:VEq (o.op.req (argv E S.t) S.h).v v) (h3:∀ j∈(o.op.req (argv E S.t) S.h).rd,j∈rd)
  (h4:OutW S.h (o.op.req (argv E S.t) S.h).out out) (h5:∀ i ob,out=some (i,ob)→i∈rd):wzzk E P o S v rd out:=by
 unfold wzzk
 rw [hg]
 cases hop:o.op<;>rw [hop] at hc h1 h2 h3 h4<;>first
  | (cases hc; done)
  | exact ⟨h1,h2,h3,h4,h5⟩
theorem wzr2 {o:qzc} {S:ASt} {tg:Nat} {want c:Bool} {x:AVal} {rd:List Nat} (hg:o.guard=some (tg,want)) (hc:o.op.isCall=false) (h0:qzcj (S.t.getD tg .top) want=some c) (hq:o.op.quiet=true)
  (h:c=true→o.op.unAll E c S.t∧(o.op.req (argU E S.t) S.h).ok∧VEq (o.op.req (argU E S.t) S.h).v x∧∀ j∈(o.op.req (argU E S.t) S.h).rd,j∈rd):wzzk E P o S (.cnd c x) rd none:=by
 unfold wzzk
 rw [hg]
 refine ⟨c,x,h0,rfl,rfl,?_⟩
 cases hop:o.op<;>rw [hop] at hc hq h<;>first
  | (cases hc; done)
  | exact ⟨hq,h⟩
theorem wzrr {o:AOp} (h:wzm2 o=true):o.isCall=false:=by cases o<;>first | rfl | cases h
end
section
variable [Tab]
structure Log (φ:Phi) (T:TSt) (φ':Phi) (T':TSt):Prop where
 n:T'.n=T.n
 nx:T.nx≤T'.nx
 ext:Ext T.nx φ φ'
 sl:∀ i,i∉T'.w→i∉T.w∧eT φ' (wzin T'.t i)=eT φ (wzin T.t i)
 ob:∀ i,i∉T'.wo→i∉T.wo∧hO φ' i (wzip T'.h i)=hO φ i (wzip T.h i)
theorem Log.refl (φ:Phi) (T:TSt):Log φ T φ T:=⟨rfl,Nat.le_refl _,.refl _ _,fun i h=>⟨h,rfl⟩,fun i h=>⟨h,rfl⟩⟩
theorem Log.trans {φ φ' φ'':Phi} {T T' T'':TSt} (h:Log φ T φ' T') (k:Log φ' T' φ'' T''):Log φ T φ'' T'' :=
 ⟨k.n.trans h.n,Nat.le_trans h.nx k.nx,h.ext.trans k.ext h.nx,fun i hi=>⟨(h.sl i (k.sl i hi).1).1,(k.sl i hi).2.trans (h.sl i (k.sl i hi).1).2⟩,fun i hi=>⟨(h.ob i (k.ob i hi).1).1,(k.ob i hi).2.trans (h.ob i (k.ob i hi).1).2⟩⟩
theorem wzmm {φ φ':Phi} {nx:Nat} (h:Ext nx φ φ') {x:PV} (hx:StP nx x):eP φ' x=eP φ x:=by
 cases x<;>simp only [StP] at hx<;>simp only [eP]<;>(try rw [h _ _ hx])
theorem wzms {φ φ':Phi} {nx:Nat} (h:Ext nx φ φ') {x:PV} (hx:StP nx x) (k:OkP φ x):OkP φ' x:=by
 cases x<;>simp only [StP] at hx<;>simp only [OkP] at k ⊢
 rw [h _ _ hx]; exact k
theorem wzls {n m:Nat} (h:n≤m) {x:PV} (hx:StP n x):StP m x:=by
 cases x<;>simp only [StP] at hx ⊢<;>omega
def TV.pv:TV→PV
 | .v x=>x
 | .cnd _ _ _ x=>x
theorem wznf {φ:Phi} {T:TSt} {x:TV} (h:TOk φ T x):StP T.nx x.pv:=by
 cases x<;>exact h.1
theorem wzml {φ φ':Phi} {nx:Nat} (h:Ext nx φ φ') {x:TV} (hx:StP nx x.pv):eT φ' x=eT φ x:=by
 cases x with
 | v x=>exact wzmm h hx
 | cnd a b c x=>show AVal.cnd c (eP φ' x)=.cnd c (eP φ x); rw [wzmm h (x:=x) hx]
theorem wzs5 {φ φ':Phi} {nx id:Nat} (h:Ext nx φ φ'):∀ {x:Option (Nat×TO)},(∀ st o,x=some (st,o)→st < nx)→hO φ' id x=hO φ id x
 | none,_=>rfl
 | some (st,o),hx=>by show eO (φ' id st).ep o=eO (φ id st).ep o; rw [h _ _ (hx st o rfl)]
theorem wzpj {φ φ':Phi} {nx id st:Nat} (h:Ext nx φ φ') (hs:st < nx) {o:TO} (k:OkO (φ id st) o):OkO (φ' id st) o:=by rw [h _ _ hs]; exact k
theorem wzsg [TabOk] {c:CT} {b:Bool} {v:SV} {x:c.T} (h:ofP c b v=some x):W (emS v) (emS (prmC c b x)):=by
 unfold ofP at h
 split at h
 ·exact wzo2 h
 ·rename_i l
  obtain ⟨h1,_⟩:=wzke h
  show W (.cptr (fun k=>(emL l).getD k .top) l.length 0) (.cptr (fun k=>(emL (wzj2 c x)).getD k .top) (wzj2 c x).length 0)
  have e:l.length=(wzj2 c x).length:=by rw [wzm1,← wznh c x,← h1.at.1,wziw]
  rw [e,wzk1]
  exact .cptr _ _ _ _ fun j _=>h1.getD j
 ·cases h
theorem wzoz [TabOk]:∀ (c:CT) (l:List CT) (p:List Bool) (v:List SV) (r:RowC c.T l),wzns c l p v=some r→Ws (emL v) (emL (wzp7 c l p r))
 | c,[],p,v,r,h=>by
  obtain ⟨u,rfl,h⟩:=wzkd (f:=ofP c (p.headD false)) h
  exact ⟨wzsg h,trivial⟩
 | c,d :: l,p,v,r,h=>by
  obtain ⟨y,q,rfl,h1,h2⟩:=wzmf (f:=ofP c (p.headD false)) (g:=wzns d l p.tail) h
  exact ⟨wzsg h1,wzoz d l p.tail q r.2 h2⟩
theorem wzse [TabOk] {l:List CT} {p:List Bool} {v:List SV} {r:Row l} (h:wzox l p v=some r):Ws (emL v) (emL (prmS l p r)):=by
 cases l with
 | nil=>rw [wzmz h]; exact trivial
 | cons c l=>exact wzoz c l p v r h
theorem wzr1 (nb:Nat) (ags caps:List SV):emL (fnArgs nb ags caps)=fnArgs nb (emL ags) (emL caps):=by
 unfold fnArgs; rw [wzl1,wzl1,wzm4,wzm5]
structure FcOk (E:Nat→AVal) (P:Program) (C:Fc):Prop where
 en:kzz P C.f=true
 ok:∀ x y,C.F x=some y→qzq E P C.f (emL (prmS C.a C.p x)) (emS (retT C.r y))
theorem wzqh:∀ {H:List Fc} {f:FuncId} {C:Fc},wzno f H=some C→C∈H∧C.f=f
 | [],f,C,h=>by cases h
 | D :: H,f,C,h=>by
  have h:kond (Nat.beq D.f f) (some D) (wzno f H)=some C:=h
  cases hb:Nat.beq D.f f
  ·rw [hb] at h
   obtain ⟨h1,h2⟩:=wzqh h
   exact ⟨List.mem_cons_of_mem _ h1,h2⟩
  ·rw [hb] at h
   cases h
   exact ⟨List.mem_cons_self ..,wzir.1 hb⟩
theorem FcOk.call [TabOk] {E:Nat→AVal} {P:Program} {H:List Fc} (hH:∀ C∈H,FcOk E P C) {f:FuncId} {C:Fc} (hf:wzno f H=some C) {vs:List SV} {r:Row C.a} (hr:wzox C.a C.p vs=some r) {y:Row C.r} (hy:C.F r=some y) (h:qzl):kzz P f=true∧qzcd E P f (emL vs) h [] (emS (retT C.r y)):=by
 obtain ⟨h1,rfl⟩:=wzqh hf
 exact ⟨(hH C h1).en,(((hH C h1).ok r y hy).w (wzse hr)).on h []⟩
section
variable {E:Nat→AVal} {P:Program} {φ:Phi} {T:TSt}
theorem wzln (hI:InvT φ T) (n:Nat):(em φ T).t.getD n .top=eT φ (wzin T.t n):=em_t hI n
theorem wzlf {tg tg':Nat} {want want' g g':Bool} {x y:PV} {n:Nat} (hl:wzin T.t n=.cnd tg want g x) (h:argP T (some (tg',want',g')) (.t n)=some y):tg=tg'∧want=want'∧x=y:=by
 simp only [argP,hl] at h
 cases h1:Nat.beq tg tg'<;>rw [h1] at h
 ·cases h
 ·cases h2:eqB want want'<;>rw [h2] at h
  ·cases h
  ·cases h
   exact ⟨wzir.1 h1,wzq9.1 h2,rfl⟩
theorem wzmv (hI:InvT φ T):Ar φ T none (argv E (em φ T).t) (em φ T).h:=by
 refine ⟨fun a x h=>?_,fun id st o h=>⟨wzpa h,(hI.ob _ _ _ h).2⟩⟩
 cases a with
 | t n =>
  have e:argv E (em φ T).t (.t n)=eT φ (wzin T.t n):=wzln hI n
  have hs:=hI.sl n
  cases hl:wzin T.t n with
  | v y =>
   simp only [argP,hl] at h
   cases h
   rw [hl] at e hs
   exact ⟨e,hs.1,fun _=>hs.2⟩
  | cnd a b c y=>simp only [argP,hl] at h; cases h
 | c v =>
  simp only [argP] at h
  split at h
  ·rename_i w hw
   cases h
   exact ⟨(wzoj hw).symm,trivial,fun _=>trivial⟩
  ·cases h
 | g i=>cases h
theorem wzrm (hI:InvT φ T) {tg:Nat} {want b:Bool} (hb:gdT want (wzin T.t tg)=some b):Ar φ T (some (tg,want,b)) (argU E (em φ T).t) (em φ T).h:=by
 refine ⟨fun a x h=>?_,fun id st o h=>⟨wzpa h,(hI.ob _ _ _ h).2⟩⟩
 cases a with
 | t n =>
  have e:argU E (em φ T).t (.t n)=unv (eT φ (wzin T.t n)):=by show unv ((em φ T).t.getD n .top)=_; rw [wzln hI n]
  have hs:=hI.sl n
  cases hl:wzin T.t n with
  | v y =>
   simp only [argP,hl] at h
   cases h
   rw [hl] at e hs
   exact ⟨e.trans (wzm7 _),hs.1,fun _=>hs.2⟩
  | cnd a b' c y =>
   obtain ⟨rfl,rfl,rfl⟩:=wzlf hl h
   rw [hl] at e hs
   obtain ⟨k1,k2,k3,k4⟩:=hs
   rw [hb] at k4
   cases k4
   exact ⟨e,k1,fun ha=>k2 ha⟩
 | c v =>
  simp only [argP] at h
  split at h
  ·rename_i w hw
   cases h
   exact ⟨(wzoj hw).symm,trivial,fun _=>trivial⟩
  ·cases h
 | g i=>cases h
theorem wztg {want g:Bool} {x:TV} (h:gdT want x=some g) {b:Bool} (hx:∃ c,(c=true→eT φ x=.bool b)∧eT φ x=.bool b):g=kond want b (!b):=by
 obtain ⟨_,_,hx⟩:=hx
 cases x with
 | v y =>
  cases y with
  | s v=>cases v with
   | bool b'=>cases hx; cases h; rfl
   | _=>cases h
  | _=>cases h
 | cnd a c d y=>cases hx
theorem wzvo (hI:InvT φ T):Pk φ T (argv E (em φ T).t):=by
 intro a n w b x h hb
 have hb:(em φ T).t.getD n .top=.bool b:=hb
 rw [wzln hI] at hb
 cases a with
 | t m =>
  have e:argv E (em φ T).t (.t m)=eT φ (wzin T.t m):=wzln hI m
  have hs:=hI.sl m
  cases hl:wzin T.t m with
  | v y =>
   simp only [argP,hl] at h
   cases h
   rw [e,hl]
   exact ⟨wzm7 _,wzni _ _⟩
  | cnd a b' c y =>
   obtain ⟨rfl,rfl,rfl⟩:=wzlf hl h
   rw [e,hl]
   rw [hl] at hs
   obtain ⟨k1,k2,k3,k4⟩:=hs
   have:=wztg (φ:=φ) k4 (b:=b) ⟨true,fun _=>hb,hb⟩
   exact ⟨rfl,fun e=>this.trans e⟩
 | c v =>
  simp only [argP] at h
  split at h
  ·rename_i w hw
   cases h
   have:argv E (em φ T).t (.c v)=emS w:=(wzoj hw).symm
   rw [this]
   exact ⟨wzph _,wzpm _ _⟩
  ·cases h
 | g i=>cases h
theorem wzvf (hI:InvT φ T):Pk φ T (argU E (em φ T).t):=by
 intro a n w b x h hb
 cases a with
 | t m =>
  have e:argU E (em φ T).t (.t m)=unv (eT φ (wzin T.t m)):=by show unv ((em φ T).t.getD m .top)=_; rw [wzln hI m]
  have key:argU E (em φ T).t (.t m)=eP φ x:=by
   cases hl:wzin T.t m with
   | v y =>
    simp only [argP,hl] at h
    cases h
    rw [e,hl]
    exact wzm7 _
   | cnd a b' c y =>
    obtain ⟨rfl,rfl,rfl⟩:=wzlf hl h
    rw [e,hl]; rfl
  rw [key]
  exact ⟨wzm7 _,wzni _ _⟩
 | c v =>
  simp only [argP] at h
  split at h
  ·rename_i w hw
   cases h
   have:argU E (em φ T).t (.c v)=emS w:=(wzoj hw).symm
   rw [this]
   exact ⟨wzph _,wzpm _ _⟩
  ·cases h
 | g i=>cases h
theorem wzq7 (hI:InvT φ T) {tg n:Nat} {want b:Bool} {x:PV} (hb:gdT want (wzin T.t tg)=some b) (h:argP T (some (tg,want,b)) (.t n)=some x):unc b ((em φ T).t.getD n .top):=by
 rw [wzln hI]
 have hs:=hI.sl n
 cases hl:wzin T.t n with
 | v y=>exact wzni _ _
 | cnd a b' c y =>
  obtain ⟨rfl,rfl,rfl⟩:=wzlf hl h
  rw [hl] at hs
  obtain ⟨k1,k2,k3,k4⟩:=hs
  rw [hb] at k4
  cases k4
  exact fun e=>e
theorem wzpl (hI:InvT φ T) {tg:Nat} {want b:Bool} (hb:gdT want (wzin T.t tg)=some b):∀ {l:List AArg},allA T (some (tg,want,b)) l=true→wze b (em φ T).t l
 | [],_=>trivial
 | a :: l,h=>by
  simp only [allA] at h
  split at h
  ·rename_i x hx
   have ih:=wzpl hI hb h
   cases a with
   | t n=>exact ⟨wzq7 hI hb hx,ih⟩
   | c v=>exact ih
   | g i=>exact ih
  ·cases h
theorem wzo3 (hI:InvT φ T) {tg n:Nat} {want g w b:Bool} {a:AArg} {x:PV} (hg:gdT want (wzin T.t tg)=some g) (hb:argP T (some (tg,want,g)) (.t n)=some (.s (.bool b))) (h:wznp T (some (tg,want,g)) n w a=some x):wze (g&&kond w b (!b)) (em φ T).t [a]:=by
 refine wzr8 fun m e=>?_
 subst e
 have h:(match argP T (some (tg,want,g)) (.t m) with | some p=>some p | none=>argP T (some (n,w,w)) (.t m))=some x:=h
 split at h
 ·rename_i p hp
  exact wzu0 (wzq7 hI hg hp)
 ·rw [wzln hI]
  have hs:=hI.sl m
  cases hl:wzin T.t m with
  | v y=>exact wzni _ _
  | cnd a b' c y =>
   obtain ⟨rfl,rfl,rfl⟩:=wzlf hl h
   rw [hl] at hs
   obtain ⟨k1,k2,k3,k4⟩:=hs
   have hc:g=true→c=kond b' b (!b):=by
    intro e
    have hn:=hI.sl a
    revert hb k4
    cases hln:wzin T.t a with
    | v y =>
     intro hb k4
     simp only [argP,hln] at hb
     cases hb
     cases k4
     rfl
    | cnd a2 b2 c2 y2 =>
     intro hb k4
     obtain ⟨rfl,rfl,rfl⟩:=wzlf hln hb
     rw [hln] at hn
     obtain ⟨q1,q2,q3,q4⟩:=hn
     rw [hg] at q4
     cases q4
     have k4:some (g&&kond b' b (!b))=some c:=k4
     cases k4
     rw [e,Bool.true_and]
   intro e
   simp only [Bool.and_eq_true] at e
   rw [hc e.1]; exact e.2
theorem wztp (hI:InvT φ T) {α:Type} {H:List Fc} {ty:List (Nat×CT)} {K:PV→List Nat→Option α} {r:α} {tg:Nat} {want g:Bool} {o:AOp} (hg:gdT want (wzin T.t tg)=some g) (hall:allO T (some (tg,want,g)) o=true) (h:opV H ty T (some (tg,want,g)) o K=some r):o.unAll E g (em φ T).t:=by
  cases o<;>first
    | exact wzpl hI hg hall
    | (rename_i c x y
       replace h:wzm8 H T (some (tg,want,g)) c x y K=some r:=h
       unfold wzm8 at h
       split at h
       · rename_i n
         split at h
         · rename_i b hb
           have e0:argU E (em φ T).t (.t n)=.bool b:=((wzrm (E:=E) hI hg).a _ _ hb).1
           show wze g (em φ T).t [.t n]∧(match argU E (em φ T).t (.t n) with | .bool b=>wze (g&&b) (em φ T).t [x]∧wze (g&&!b) (em φ T).t [y] | _=>False)
           rw [e0]
           refine ⟨wzpl hI hg hall,?_⟩
           split at h
           · rename_i p q hp hq
             exact ⟨wzo3 (w:=true) hI hg hb hp,wzo3 (w:=false) hI hg hb hq⟩
           · rename_i k p k' q hp hq
             exact ⟨wzo3 (w:=true) hI hg hb hp,wzo3 (w:=false) hI hg hb hq⟩
           · cases h
         · cases h
       · cases h)
def GK (T T':TSt):Prop:=∀ g,memN g T.gs=true→memN g T'.gs=true∧∀ w,gdT w (wzin T'.t g)=gdT w (wzin T.t g)
structure Step (E:Nat→AVal) (P:Program) (φ:Phi) (T:TSt) (o:qzc) (φ':Phi) (T':TSt) (rd:List Nat) (out:Option Nat):Prop where
 inv:InvT φ' T'
 log:Log φ T φ' T'
 gk:GK T T'
 ex:∃ v ob,wzzk E P o (em φ T) v rd ob∧out=ob.map (·.1)∧em φ' T'=⟨putT (em φ T).t o.dst v,putH (em φ T).h ob,[]⟩
theorem wzwk {T:TSt} {d:Nat} (h:wzo6 T (some d)=true):d < T.n∧memN d T.gs=false:=by
 have h:kond (Nat.blt d T.n) (!memN d T.gs) false=true:=h
 cases h1:Nat.blt d T.n<;>rw [h1] at h
 ·cases h
 ·exact ⟨by simpa [Nat.blt_eq] using h1,by rw [wzzt] at h; simpa using h⟩
theorem wzm9 {d:Option Tmp} {x:TV}:em φ (putS T d x)=⟨putT (em φ T).t d (eT φ x),(em φ T).h,[]⟩:=by
 cases d with
 | none=>rfl
 | some d =>
  show ASt.mk (tl ((d,eT φ x) :: eTm φ T.t) T.n) (hl (eHm φ T.h)) []=⟨(tl (eTm φ T.t) T.n).set d (eT φ x),hl (eHm φ T.h),[]⟩
  rw [qzm6]
theorem wzq2 {φ:Phi} {T T':TSt} {x:TV} (h:TOk φ T x) (hn:T.nx≤T'.nx) (hg:∀ g,memN g T.gs=true→memN g T'.gs=true∧wzin T'.t g=wzin T.t g):TOk φ T' x:=by
 cases x with
 | v x=>exact ⟨wzls hn h.1,h.2⟩
 | cnd a b c x =>
  obtain ⟨k1,k2,k3,k4⟩:=h
  exact ⟨wzls hn k1,k2,(hg _ k3).1,by rw [(hg _ k3).2]; exact k4⟩
theorem wzlb (hI:InvT φ T) {d:Option Tmp} {x:TV} (hd:wzo6 T d=true) (hx:TOk φ T x):InvT φ (putS T d x):=by
 cases d with
 | none=>exact hI
 | some d =>
  obtain ⟨h1,h2⟩:=wzwk hd
  have hm:∀ y,TOk φ T y→TOk φ (putS T (some d) x) y:=fun y hy=>wzq2 hy (Nat.le_refl _) fun g hg=>⟨hg,by
   show wzin ((d,x) :: T.t) g=_
   rw [wzis,if_neg (fun e=>by simp only at e; subst e; rw [hg] at h2; cases h2)]⟩
  refine ⟨fun i=>?_,fun i hi=>?_,hI.ob⟩
  ·show TOk φ _ (wzin ((d,x) :: T.t) i)
   rw [wzis]
   split
   ·exact hm _ hx
   ·exact hm _ (hI.sl i)
  ·show wzin ((d,x) :: T.t) i=_
   have hi:T.n≤i:=hi
   rw [wzis,if_neg (by simp only; omega)]
   exact hI.hi i hi
theorem wzmt {d:Option Tmp} {x:TV}:Log φ T φ (putS T d x):=by
 cases d with
 | none=>exact .refl _ _
 | some d =>
  refine ⟨rfl,Nat.le_refl _,.refl _ _,fun i hi=>?_,fun i hi=>⟨hi,rfl⟩⟩
  have hi:i∉d :: T.w:=hi
  simp only [List.mem_cons,not_or] at hi
  refine ⟨hi.2,?_⟩
  show eT φ (wzin ((d,x) :: T.t) i)=_
  rw [wzis,if_neg (fun e=>hi.1 e.symm)]
theorem wzoc (hI:InvT φ T) (tg:Nat):InvT φ (addG T tg):=by
 refine ⟨fun i=>wzq2 (hI.sl i) (Nat.le_refl _) fun g hg=>⟨?_,rfl⟩,hI.hi,hI.ob⟩
 show memN g (tg :: T.gs)=true
 exact wzl9.2 (List.mem_cons_of_mem _ (wzl9.1 hg))
theorem wzt4 (tg:Nat):Log φ T φ (addG T tg):=⟨rfl,Nat.le_refl _,.refl _ _,fun i hi=>⟨hi,rfl⟩,fun i hi=>⟨hi,rfl⟩⟩
theorem wzta (hI:InvT φ T) {tg:Nat} {want b:Bool} (hb:gdT want (wzin T.t tg)=some b):qzcj ((em φ T).t.getD tg .top) want=some b:=by
 rw [wzln hI]
 revert hb
 cases wzin T.t tg with
 | v y =>
  cases y with
  | s v=>cases v with
   | bool b'=>intro h; cases h; cases want<;>rfl
   | _=>intro h; cases h
  | _=>intro h; cases h
 | cnd a c d y =>
  cases y with
  | s v=>cases v with
   | bool b'=>intro h; cases h; cases want<;>rfl
   | _=>intro h; cases h
  | _=>intro h; cases h
theorem wzm0 {id st nx:Nat}:∀ {l:List (Nat×TV)} {i:Nat},wzin (wzmy id st nx l) i=(match wzin l i with | .v x=>.v (wzl0 id st nx x) | y=>y)
 | [],i=>rfl
 | (j,.v x) :: l,i=>by
  show wzin ((j,.v (wzl0 id st nx x)) :: wzmy id st nx l) i=_
  rw [wzis,wzis]
  split
  ·rfl
  ·exact wzm0
 | (j,.cnd a b c x) :: l,i=>by
  show wzin ((j,.cnd a b c x) :: wzmy id st nx l) i=_
  rw [wzis,wzis]
  split
  ·rfl
  ·exact wzm0
theorem wzti {id st nx:Nat} {w:Bool} {x:PV}:gdT w (.v (wzl0 id st nx x))=gdT w (.v x):=by
 cases x with
 | ptr i s off=>show gdT w (.v (kond (Nat.beq i id) (kond (Nat.beq s st) _ _) _))=_; cases Nat.beq i id<;>cases Nat.beq s st<;>rfl
 | vec i s=>show gdT w (.v (kond (Nat.beq i id) (kond (Nat.beq s st) _ _) _))=_; cases Nat.beq i id<;>cases Nat.beq s st<;>rfl
 | vs i s lo hi=>show gdT w (.v (kond (Nat.beq i id) (kond (Nat.beq s st) _ _) _))=_; cases Nat.beq i id<;>cases Nat.beq s st<;>rfl
 | _=>rfl
theorem wzvi {id st:Nat} {G:Gho} {x:PV} (hx:StP T.nx x) (h1:(φ id st).ep=G.ep) (h2:(φ id st).n=G.n):eP (upd φ id T.nx G) (wzl0 id st T.nx x)=eP φ x∧StP (T.nx+1) (wzl0 id st T.nx x)∧(OkP φ x→OkP (upd φ id T.nx G) (wzl0 id st T.nx x)):=by
 have hext:Ext T.nx φ (upd φ id T.nx G):=wzpy
 have same:eP (upd φ id T.nx G) x=eP φ x∧StP (T.nx+1) x∧(OkP φ x→OkP (upd φ id T.nx G) x):=⟨wzmm hext hx,wzls (Nat.le_succ _) hx,wzms hext hx⟩
 cases x with
 | ptr i s off =>
  show eP _ (kond (Nat.beq i id) (kond (Nat.beq s st) (.ptr i T.nx off) (.ptr i s off)) (.ptr i s off))=_∧StP _ (kond (Nat.beq i id) (kond (Nat.beq s st) (.ptr i T.nx off) (.ptr i s off)) (.ptr i s off))∧(_→OkP _ (kond (Nat.beq i id) (kond (Nat.beq s st) (.ptr i T.nx off) (.ptr i s off)) (.ptr i s off)))
  cases h:Nat.beq i id
  ·exact same
  ·cases k:Nat.beq s st
   ·exact same
   ·obtain rfl:=wzir.1 h
    obtain rfl:=wzir.1 k
    refine ⟨?_,Nat.lt_succ_self _,fun _=>trivial⟩
    show AVal.ptr i (upd φ i T.nx G i T.nx).ep off=.ptr i (φ i s).ep off
    rw [wzjf,h1]
 | vec i s =>
  show eP _ (kond (Nat.beq i id) (kond (Nat.beq s st) (.vec i T.nx) (.vec i s)) (.vec i s))=_∧StP _ (kond (Nat.beq i id) (kond (Nat.beq s st) (.vec i T.nx) (.vec i s)) (.vec i s))∧(_→OkP _ (kond (Nat.beq i id) (kond (Nat.beq s st) (.vec i T.nx) (.vec i s)) (.vec i s)))
  cases h:Nat.beq i id
  ·exact same
  ·cases k:Nat.beq s st
   ·exact same
   ·obtain rfl:=wzir.1 h
    obtain rfl:=wzir.1 k
    refine ⟨?_,Nat.lt_succ_self _,fun _=>trivial⟩
    show AVal.vec i (upd φ i T.nx G i T.nx).ep 0 (upd φ i T.nx G i T.nx).n=.vec i (φ i s).ep 0 (φ i s).n
    rw [wzjf,h1,h2]
 | vs i s lo hi =>
  show eP _ (kond (Nat.beq i id) (kond (Nat.beq s st) (.vs i T.nx lo hi) (.vs i s lo hi)) (.vs i s lo hi))=_∧StP _ (kond (Nat.beq i id) (kond (Nat.beq s st) (.vs i T.nx lo hi) (.vs i s lo hi)) (.vs i s lo hi))∧(_→OkP _ (kond (Nat.beq i id) (kond (Nat.beq s st) (.vs i T.nx lo hi) (.vs i s lo hi)) (.vs i s lo hi)))
  cases h:Nat.beq i id
  ·exact same
  ·cases k:Nat.beq s st
   ·exact same
   ·obtain rfl:=wzir.1 h
    obtain rfl:=wzir.1 k
    refine ⟨?_,Nat.lt_succ_self _,fun _=>trivial⟩
    show AVal.vec i (upd φ i T.nx G i T.nx).ep lo.toNat (hi - lo).toNat=.vec i (φ i s).ep lo.toNat (hi - lo).toNat
    rw [wzjf,h1]
 | s v=>exact same
 | eptr i s j off c x=>exact same
 | own i s=>exact same
def rs (T:TSt) (id:Nat) (re:Bool) (x:TV):TV:=kond re (match wzip T.h id with
 | some (st,_)=>(match x with | .v x=>.v (wzl0 id st T.nx x) | y=>y)
 | none=>x) x
def rsK (φ φ':Phi):TV→TV→Prop
 | .v y,z=>∃ y',z=.v y'∧(OkP φ y→OkP φ' y')
 | .cnd a b c y,z=>z=.cnd a b c y
theorem wzk8 {id:Nat} {o:TO} {re:Bool} {i:Nat}:wzin (putO T id o re).t i=rs T id re (wzin T.t i):=by
 show wzin (kond re (match wzip T.h id with | some (st,_)=>wzmy id st T.nx T.t | none=>T.t) T.t) i=_
 unfold rs
 cases re
 ·rfl
 ·simp only [wzzt]
  cases wzip T.h id with
  | none=>rfl
  | some q=>exact wzm0
theorem wzu3 (hI:InvT φ T) {id:Nat} {ob:TO} {re:Bool} {G:Gho} (hok:OkO G ob) (hre:re=true→∃ st o0,wzip T.h id=some (st,o0)∧(φ id st).ep=G.ep∧(φ id st).n=G.n) :
  InvT (upd φ id T.nx G) (putO T id ob re)∧Log φ T (upd φ id T.nx G) (putO T id ob re)∧em (upd φ id T.nx G) (putO T id ob re)=⟨(em φ T).t,putH (em φ T).h (some (id,eO G.ep ob)),[]⟩:=by
 have hext:Ext T.nx φ (upd φ id T.nx G):=wzpy
 have key:∀ x,TOk φ T x→eT (upd φ id T.nx G) (rs T id re x)=eT φ x∧StP (T.nx+1) (rs T id re x).pv∧(∀ w,gdT w (rs T id re x)=gdT w x) ∧
   rsK φ (upd φ id T.nx G) x (rs T id re x):=by
  intro x hx
  have plain:rs T id re x=x→eT (upd φ id T.nx G) (rs T id re x)=eT φ x∧StP (T.nx+1) (rs T id re x).pv∧(∀ w,gdT w (rs T id re x)=gdT w x) ∧
   rsK φ (upd φ id T.nx G) x (rs T id re x):=by
   intro e
   rw [e]
   refine ⟨wzml hext (wznf hx),wzls (Nat.le_succ _) (wznf hx),fun _=>rfl,?_⟩
   cases x with
   | v y=>exact ⟨y,rfl,wzms hext hx.1⟩
   | cnd a b c y=>rfl
  cases re with
  | false=>exact plain rfl
  | true =>
   obtain ⟨st,o0,h0,h1,h2⟩:=hre rfl
   cases x with
   | cnd a b c y=>exact plain (by unfold rs; rw [h0]; rfl)
   | v y =>
    have e:rs T id true (.v y)=.v (wzl0 id st T.nx y):=by unfold rs; rw [h0]; rfl
    obtain ⟨k1,k2,k3⟩:=wzvi (φ:=φ) (T:=T) (id:=id) (st:=st) (G:=G) hx.1 h1 h2
    rw [e]
    exact ⟨k1,k2,fun w=>wzti,_,rfl,k3⟩
 have obj:∀ i,hO (upd φ id T.nx G) i (wzip ((id,T.nx,ob) :: T.h) i)=if i=id then eO G.ep ob else hO φ i (wzip T.h i):=by
  intro i
  rw [wziu]
  by_cases h:i=id
  ·subst h
   rw [if_pos rfl,if_pos rfl]
   show eO (upd φ i T.nx G i T.nx).ep ob=_
   rw [wzjf]
  ·rw [if_neg (fun e=>h e.symm),if_neg h]
   exact wzs5 hext fun st o ho=>(hI.ob _ _ _ ho).1
 refine ⟨⟨fun i=>?_,fun i hi=>?_,fun i st o ho=>?_⟩,⟨rfl,Nat.le_succ _,hext,fun i hi=>?_,fun i hi=>?_⟩,?_⟩
 ·rw [wzk8]
  obtain ⟨k1,k2,k3,k4⟩:=key _ (hI.sl i)
  have hx:=hI.sl i
  revert k2 k4 hx
  cases wzin T.t i with
  | v y =>
   intro k2 ⟨y',e,k⟩ hx
   rw [e] at k2 ⊢
   exact ⟨k2,k hx.2⟩
  | cnd a b c y =>
   intro k2 e hx
   have e:rs T id re (.cnd a b c y)=.cnd a b c y:=e
   rw [e]
   obtain ⟨q1,q2,q3,q4⟩:=hx
   refine ⟨wzls (Nat.le_succ _) q1,fun e=>wzms hext q1 (q2 e),q3,?_⟩
   rw [wzk8,(key _ (hI.sl a)).2.2.1 b,q4]
 ·rw [wzk8,hI.hi i hi]
  unfold rs
  cases re
  ·rfl
  ·simp only [wzzt]
   cases wzip T.h id<;>rfl
 ·have ho:wzip ((id,T.nx,ob) :: T.h) i=some (st,o):=ho
  rw [wziu] at ho
  by_cases h:id=i
  ·subst h
   rw [if_pos rfl] at ho
   cases ho
   exact ⟨Nat.lt_succ_self _,by rw [wzjf]; exact hok⟩
  ·rw [if_neg h] at ho
   obtain ⟨q1,q2⟩:=hI.ob _ _ _ ho
   exact ⟨Nat.lt_succ_of_lt q1,wzpj hext q1 q2⟩
 ·exact ⟨hi,by rw [wzk8]; exact (key _ (hI.sl i)).1⟩
 ·have hi:i∉id :: T.wo:=hi
  simp only [List.mem_cons,not_or] at hi
  refine ⟨hi.2,?_⟩
  show hO _ i (wzip ((id,T.nx,ob) :: T.h) i)=_
  rw [obj,if_neg hi.1]
 ·show ASt.mk (tl (eTm _ (putO T id ob re).t) T.n) (hl (eHm _ ((id,T.nx,ob) :: T.h))) []=⟨tl (eTm φ T.t) T.n,hset (hl (eHm φ T.h)) id (eO G.ep ob),[]⟩
  congr 1
  ·refine wzwg fun i _=>?_
   rw [wzjk,wzjk,wzk8]
   exact (key _ (hI.sl i)).1
  ·funext i
   show qz8 (eHm _ ((id,T.nx,ob) :: T.h)) i=if i=id then eO G.ep ob else qz8 (eHm φ T.h) i
   rw [wzji,wzji,obj]
theorem wzqu {α:Type} {H:List Fc} {ty:List (Nat×CT)} {T:TSt} {G:Gd} {o:AOp} {K:PV→List Nat→Option α} {r:α} (h:opV H ty T G o K=some r):o.isCall=false∨(∃ f ags,o=.callf f ags∧wzn0 H T G f ags K=some r)∨(∃ x ags,o=.callv x ags∧wznr H T G x ags K=some r):=by
 cases o<;>first
  | exact .inl rfl
  | (cases h; done)
  | exact .inr (.inl ⟨_,_,rfl,h⟩)
  | exact .inr (.inr ⟨_,_,rfl,h⟩)
theorem wzqy [TabOk] {α:Type} {H:List Fc} (hH:∀ C∈H,FcOk E P C) {G:Gd} {ar:AArg→AVal} {hh:qzl} (hA:Ar φ T G ar hh) {f:FuncId} {ags:List AArg} {K:PV→List Nat→Option α} {r:α} (h:wzn0 H T G f ags K=some r) :
  ∃ v,K (.s v) []=some r∧(act G→qzcd E P f (ags.map ar) hh [] (emS v)):=by
 unfold wzn0 at h
 split at h
 ·rename_i C vs h1 h2
  split at h
  ·rename_i x hx
   replace h:=wzpc h
   obtain ⟨y,h,hy⟩:=h
   exact ⟨_,h,fun ha=>by rw [wzm3 hA h2]; exact (FcOk.call hH h1 hx (hy ha) hh).2⟩
  ·cases h
 ·cases h
theorem wzq6 [TabOk] {α:Type} {H:List Fc} (hH:∀ C∈H,FcOk E P C) {G:Gd} {ar:AArg→AVal} {hh:qzl} (hA:Ar φ T G ar hh) {x:AArg} {ags:List AArg} {K:PV→List Nat→Option α} {r:α} (h:wznr H T G x ags K=some r) :
  ∃ v,K (.s v) []=some r∧(act G→∃ f nb caps,ar x=.fn f nb caps∧kzz P f=true∧qzcd E P f (fnArgs nb (ags.map ar) caps) hh [] (emS v)):=by
 unfold wznr at h
 split at h
 ·rename_i f nb caps vs h1 h2
  split at h
  ·rename_i C h3
   split at h
   ·rename_i y hy
    replace h:=wzpc h
    obtain ⟨z,h,hz⟩:=h
    refine ⟨_,h,fun ha=>⟨f,nb,emL caps,(hA.a _ _ h1).1,?_⟩⟩
    rw [wzm3 hA h2,← wzr1]
    exact FcOk.call hH h3 hy (hz ha) hh
   ·cases h
  ·cases h
 ·cases h
theorem GK.refl (T:TSt):GK T T:=fun g h=>⟨h,fun _=>rfl⟩
theorem GK.trans {T T' T'':TSt} (h:GK T T') (k:GK T' T''):GK T T'':=fun g hg=>⟨(k g (h g hg).1).1,fun w=>((k g (h g hg).1).2 w).trans ((h g hg).2 w)⟩
theorem wzzv {d:Option Tmp} {x:TV} (hd:wzo6 T d=true):GK T (putS T d x):=fun g hg=>by
 cases d with
 | none=>exact ⟨hg,fun _=>rfl⟩
 | some d =>
  refine ⟨hg,fun w=>?_⟩
  show gdT w (wzin ((d,x) :: T.t) g)=_
  rw [wzis,if_neg]
  intro e
  have:=(wzwk hd).2
  have e:d=g:=e
  rw [e,hg] at this; cases this
theorem wzzx {id:Nat} {ob:TO} {re:Bool}:GK T (putO T id ob re):=fun g hg=>⟨hg,fun w=>by
 rw [wzk8]
 unfold rs
 cases re
 ·rfl
 ·rw [wzzt]
  cases wzip T.h id with
  | none=>rfl
  | some q =>
   cases wzin T.t g with
   | v x=>exact wzti
   | cnd a b c y=>rfl⟩
theorem wzz3 (tg:Nat):GK T (addG T tg):=fun g hg=>⟨wzl9.2 (List.mem_cons_of_mem _ (wzl9.1 hg)),fun _=>rfl⟩
theorem wzws (hI:InvT φ T):Hp φ T (argv E (em φ T).t) (em φ T).h:=⟨wzmv hI,fun i=>wzn9 i⟩
theorem wzq3 [TabOk] {α:Type} {H:List Fc} (hH:∀ C∈H,FcOk E P C) {ty:List (Nat×CT)} {o:qzc} {K:TSt→List Nat→Option Nat→Option α} {r:α} (hI:InvT φ T) (h:wznx H ty T o K=some r) :
  ∃ φ' T' rd out,K T' rd out=some r∧Step E P φ T o φ' T' rd out:=by
 unfold wznx at h
 split at h
 ·rename_i hg
  replace h:=wziq h
  obtain ⟨hd,h⟩:=h
  cases ho:wzm2 o.op with
  | true =>
   rw [ho] at h
   obtain ⟨p,id,ob,re,rd,ep,G,hK,V⟩:=wzwc (wzws (E:=E) hI) h
   obtain ⟨i1,l1,e1⟩:=wzu3 hI (G:=ghoR G ep ob) wzrj (re:=re) (id:=id) (ob:=ob) fun hr=>by
    obtain ⟨st,o0,q1,q2,q3⟩:=V.re hr
    exact ⟨st,o0,q1,by rw [wzpp]; exact q2,q3⟩
   have hd':wzo6 (putO T id ob re) o.dst=true:=hd
   refine ⟨_,_,_,_,hK,wzlb i1 hd' ⟨V.st,V.okp⟩,l1.trans wzmt,wzzx.trans (wzzv hd'),eP (upd φ id T.nx (ghoR G ep ob)) p,some (id,eO ep ob),?_,rfl,?_⟩
   ·exact wzom hg (wzrr ho) V.ok V.v V.hrd V.hout fun i ob e=>by cases e; exact V.hid
   ·rw [wzm9,e1,wzpp]; rfl
  | false =>
   rw [ho] at h
   rcases wzqu h with hc | ⟨f,ags,hop,hc⟩ | ⟨x,ags,hop,hc⟩
   ·obtain ⟨p,rd,hK,hs,hq,k⟩:=wzsj (wzmv (E:=E) hI) (wzvo hI) (fun i=>wzn9 i) hc h
    obtain ⟨k1,k2,k3,k4,k5⟩:=k trivial
    refine ⟨_,_,_,_,hK,wzlb hI hd ⟨hs,k1⟩,wzmt,wzzv hd,eP φ p,none,?_,rfl,wzm9⟩
    exact wzom hg hc k2 k3 k4 k5 fun i ob e=>by cases e
   ·obtain ⟨v,hK,k⟩:=wzqy hH (wzmv (E:=E) hI) hc
    refine ⟨_,_,_,_,hK,wzlb hI hd ⟨trivial,trivial⟩,wzmt,wzzv hd,emS v,none,?_,rfl,wzm9⟩
    unfold wzzk
    rw [hg,hop]
    exact ⟨k trivial,rfl⟩
   ·obtain ⟨v,hK,k⟩:=wzq6 hH (wzmv (E:=E) hI) hc
    refine ⟨_,_,_,_,hK,wzlb hI hd ⟨trivial,trivial⟩,wzmt,wzzv hd,emS v,none,?_,rfl,wzm9⟩
    unfold wzzk
    rw [hg,hop]
    exact ⟨k trivial,rfl⟩
 ·rename_i tg want hg
  split at h
  ·rename_i g hb
   replace h:=wziq h
   obtain ⟨hd,h⟩:=h
   have h:kond (wzm2 o.op) none (kond (allO T (some (tg,want,g)) o.op)
    (opV H ty T (some (tg,want,g)) o.op fun v rd=>K (putS (addG T tg) o.dst (.cnd tg want g v)) rd none) none)=some r:=h
   have ho:wzm2 o.op=false:=by
    cases ho:wzm2 o.op
    ·rfl
    ·rw [ho] at h; cases h
   rw [ho] at h
   replace h:=wziq h
   obtain ⟨hall,h⟩:=h
   have hu:=wztp (E:=E) hI hb hall h
   have ha:=wzrm (E:=E) hI hb (want:=want)
   have h0:=wzta hI hb (want:=want)
   have tok:∀ p,StP T.nx p→(g=true→OkP φ p)→TOk φ (addG T tg) (.cnd tg want g p):=fun p h1 h2=>⟨h1,h2,wzl9.2 (List.mem_cons_self ..),hb⟩
   have e1:∀ p,em φ (putS (addG T tg) o.dst (.cnd tg want g p))=⟨putT (em φ T).t o.dst (.cnd g (eP φ p)),putH (em φ T).h none,[]⟩:=fun p=>wzm9 (T:=addG T tg)
   have l1:∀ p,Log φ T φ (putS (addG T tg) o.dst (.cnd tg want g p)):=fun p=>(wzt4 tg).trans wzmt
   rcases wzqu h with hc | ⟨f,ags,hop,hc⟩ | ⟨x,ags,hop,hc⟩
   ·obtain ⟨p,rd,hK,hs,hq,k⟩:=wzsj ha (wzvf hI) (fun i=>wzn9 i) hc h
    refine ⟨_,_,_,_,hK,wzlb (wzoc hI tg) hd (tok p hs fun e=>(k e).1),l1 p,(wzz3 tg).trans (wzzv hd),_,none,?_,rfl,e1 p⟩
    refine wzr2 hg hc h0 hq fun e=>?_
    obtain ⟨k1,k2,k3,k4,k5⟩:=k e
    exact ⟨hu,k2,k3,k4⟩
   ·obtain ⟨v,hK,k⟩:=wzqy hH ha hc
    refine ⟨_,_,_,_,hK,wzlb (wzoc hI tg) hd (tok _ trivial fun e=>trivial),l1 _,(wzz3 tg).trans (wzzv hd),_,none,?_,rfl,e1 _⟩
    rw [hop] at hu
    unfold wzzk
    rw [hg,hop]
    exact ⟨_,_,h0,rfl,rfl,fun e=>⟨hu,k e⟩⟩
   ·obtain ⟨v,hK,k⟩:=wzq6 hH ha hc
    refine ⟨_,_,_,_,hK,wzlb (wzoc hI tg) hd (tok _ trivial fun e=>trivial),l1 _,(wzz3 tg).trans (wzzv hd),_,none,?_,rfl,e1 _⟩
    rw [hop] at hu
    unfold wzzk
    rw [hg,hop]
    refine ⟨_,_,h0,rfl,rfl,fun e=>?_⟩
    obtain ⟨f,nb,caps,q1,q2,q3⟩:=k e
    exact ⟨f,nb,caps,q1,q2,hu,q3⟩
  ·cases h
end
end
end Go.Am

set_option linter.unusedVariables false
set_option linter.unusedSimpArgs false
namespace Go.Am
theorem W.trans:∀ {x y:AVal},W x y→∀ {z:AVal},W y z→W x z:=by
 intro x y h
 induction h with
 | top x=>intro z k; cases k with
  | top=>exact .top _
  | refl=>exact .top _
 | refl x=>intro z k; exact k
 | nil st f=>intro z k; cases k with
  | top=>exact .top _
  | refl=>exact .nil _ _
  | slc=>exact .nil _ _
 | agg l l' hn h ih=>intro z k; cases k with
  | top=>exact .top _
  | refl=>exact .agg _ _ hn h
  | agg _ l'' hn' h' =>
   refine .agg _ _ (hn.trans hn') fun i a b ha hb=>?_
   have hi:i < l'.length:=by rw [← hn]; exact (List.getElem?_eq_some_iff.1 ha).1
   exact ih i a _ ha (List.getElem?_eq_getElem hi) (h' i _ b (List.getElem?_eq_getElem hi) hb)
 | tup l l' hn h ih=>intro z k; cases k with
  | top=>exact .top _
  | refl=>exact .tup _ _ hn h
  | tup _ l'' hn' h' =>
   refine .tup _ _ (hn.trans hn') fun i a b ha hb=>?_
   have hi:i < l'.length:=by rw [← hn]; exact (List.getElem?_eq_some_iff.1 ha).1
   exact ih i a _ ha (List.getElem?_eq_getElem hi) (h' i _ b (List.getElem?_eq_getElem hi) hb)
 | slc st n f f' hn h ih=>intro z k; cases k with
  | top=>exact .top _
  | refl=>exact .slc _ _ _ _ hn h
  | slc _ _ _ f'' hn' h' =>
   refine .slc _ _ _ _ (fun k hk=>(hn k hk).trans (hn' k hk)) fun k i a b hk ha hb=>?_
   have hi:i < (f' k).length:=by rw [← hn k hk]; exact (List.getElem?_eq_some_iff.1 ha).1
   exact ih k i a _ hk ha (List.getElem?_eq_getElem hi) (h' k i _ b hk (List.getElem?_eq_getElem hi) hb)
 | cptr f f' n off h ih=>intro z k; cases k with
  | top=>exact .top _
  | refl=>exact .cptr _ _ _ _ h
  | cptr _ f'' _ _ h'=>exact .cptr _ _ _ _ fun j hj=>ih j hj (h' j hj)
theorem Ws.trans {l m k:List AVal} (h:Ws l m) (h':Ws m k):Ws l k:=by
 refine .of (h.at.1.trans h'.at.1) fun i a b ha hb=>?_
 have hi:i < m.length:=by rw [← h.at.1]; exact (List.getElem?_eq_some_iff.1 ha).1
 exact (h.at.2 i a _ ha (List.getElem?_eq_getElem hi)).trans (h'.at.2 i _ b (List.getElem?_eq_getElem hi) hb)
theorem FVl.map {id:Nat} {o:AObj} {α:Type} {f g:α→AVal}:∀ {l:List α},(∀ i,i∈l→FV id o (f i) (g i))→FVl id o (l.map f) (l.map g)
 | [],_=>trivial
 | x :: l,h=>⟨h x (List.mem_cons_self ..),FVl.map fun i hi=>h i (List.mem_cons_of_mem _ hi)⟩
section
variable {E:Nat→AVal} {P:Program} {ρ:Option Nat}
theorem See.pw {t t':List AVal} {h h':qzl} (ht:Ws t t') (hh:∀ i,WO (h i) (h' i)):See E ⟨t,h,[]⟩ ⟨t',h',[]⟩:=by
 intro g a w hs
 have hH:=hs.hr.wk hh
 exact ⟨g,⟨hH,ht.rvs hs.tm,hs.df,(by intro D hD; cases hD),hs.dn⟩,⟨.refl _ _,rfl,rfl,rfl,Nat.le_refl _,fun _ _ _=>rfl,fun i ho=>.inl ⟨i,(hh i).owned ho,rfl⟩,fun _ h=>.inl h,Nat.le_refl _⟩⟩
theorem See.veq {t t':List AVal} {h h':qzl} {ds:List (Nat×Nat)} (hl:t'.length=t.length) (hv:∀ (i:Nat) (x y:AVal),t[i]?=some x→t'[i]?=some y→VEq x y) (ho:∀ i,OEq (h i) (h' i)):See E ⟨t,h,ds⟩ ⟨t',h',ds⟩ :=
 fun g a w hs=>⟨g,SR.veq (S:=⟨t,h,ds⟩) hs hl hv ho,(Stp.refl g h w).oeq ho⟩
theorem wzrh {t:List AVal} {d:Option Tmp} {v v':AVal} (h:VEq v v'):(putT t d v').length=(putT t d v).length∧∀ (i:Nat) (x y:AVal),(putT t d v)[i]?=some x→(putT t d v')[i]?=some y→VEq x y:=by
 cases d with
 | none=>exact ⟨rfl,fun i x y hx hy=>by rw [show putT t none v=t from rfl] at hx; rw [show putT t none v'=t from rfl,hx] at hy; cases hy; exact .refl _⟩
 | some d =>
  refine ⟨by show (t.set d v').length=(t.set d v).length; simp,fun i x y hx hy=>?_⟩
  have hx:(t.set d v)[i]?=some x:=hx
  have hy:(t.set d v')[i]?=some y:=hy
  rw [List.getElem?_set] at hx hy
  split at hx
  ·rename_i e
   rw [if_pos e] at hy
   split at hx
   ·rename_i e2
    rw [if_pos e2] at hy
    cases hx; cases hy; exact h
   ·cases hx
  ·rename_i e
   rw [if_neg e,hx] at hy
   cases hy
   exact .refl _
end
theorem wz0d {b:Bool} {X Y:AVal} (h:unc b X∧unc (!b) Y):(jzp b X Y).ok∧(jzp b X Y).rd=[]:=by
 unfold jzp
 split
 ·exact ⟨h,rfl⟩
 ·split<;>exact ⟨h,rfl⟩
 ·exact ⟨h,rfl⟩
section
variable [Tab]
section
variable {E:Nat→AVal} {P:Program} {ρ:Option Nat} {φ:Phi} {T:TSt}
theorem wzuf {φ':Phi} {T':TSt} (hn:T'.n=T.n) (ht:∀ i,W (eT φ (wzin T.t i)) (eT φ' (wzin T'.t i))) (hh:∀ i,WO (hO φ i (wzip T.h i)) (hO φ' i (wzip T'.h i))):See E (em φ T) (em φ' T'):=by
 refine .pw (t:=tl (eTm φ T.t) T.n) (t':=tl (eTm φ' T'.t) T'.n) ?_ fun i=>?_
 ·rw [hn]
  refine .of (by rw [qzgt,qzgt]) fun i x y hx hy=>?_
  rw [qzem] at hx hy
  split at hx
  ·rename_i hi
   rw [if_pos hi] at hy
   cases hx; cases hy
   rw [wzjk,wzjk]; exact ht i
  ·cases hx
 ·show WO (qz8 (eHm φ T.h) i) (qz8 (eHm φ' T'.h) i)
  rw [wzji,wzji]; exact hh i
theorem wzju {id st:Nat} {o:TO}:∀ {l:List (Nat×TV)} {i:Nat},wzin (frzT id st o l) i=(match wzin l i with | .v x=>.v (frzP id st o x) | y=>y)
 | [],i=>rfl
 | (j,.v x) :: l,i=>by
  show wzin ((j,.v (frzP id st o x)) :: frzT id st o l) i=_
  rw [wzis,wzis]
  split
  ·rfl
  ·exact wzju
 | (j,.cnd a b c x) :: l,i=>by
  show wzin ((j,.cnd a b c x) :: frzT id st o l) i=_
  rw [wzis,wzis]
  split
  ·rfl
  ·exact wzju
theorem wzvu {id st:Nat} {o:TO} {x:PV} (h:wzo0 id st x=false):frzP id st o x=x:=by
 cases x with
 | ptr i s off =>
  have h:kond (Nat.beq i id) (Nat.beq s st) false=false:=h
  show kond (Nat.beq i id) (kond (Nat.beq s st) _ _) _=_
  cases h1:Nat.beq i id
  ·rfl
  ·rw [h1] at h; have h:Nat.beq s st=false:=h; rw [h]; rfl
 | vec i s =>
  have h:kond (Nat.beq i id) (Nat.beq s st) false=false:=h
  show kond (Nat.beq i id) (kond (Nat.beq s st) _ _) _=_
  cases h1:Nat.beq i id
  ·rfl
  ·rw [h1] at h; have h:Nat.beq s st=false:=h; rw [h]; rfl
 | own i s =>
  have h:kond (Nat.beq i id) (Nat.beq s st) false=false:=h
  show kond (Nat.beq i id) (kond (Nat.beq s st) _ _) _=_
  cases h1:Nat.beq i id
  ·rfl
  ·rw [h1] at h; have h:Nat.beq s st=false:=h; rw [h]; rfl
 | s v=>rfl
 | eptr i s j off c x=>rfl
 | vs i s lo hi=>rfl
theorem wznq {id st i:Nat}:∀ {l:List (Nat×TV)} {w:List Nat},i∉frzW id st l w→i∉w∧∀ x,wzin l i=.v x→wzo0 id st x=false
 | [],w,h=>⟨h,fun x hx=>by cases hx; rfl⟩
 | (j,.v y) :: l,w,h=>by
  have h:i∉kond (wzo0 id st y) (j :: frzW id st l w) (frzW id st l w):=h
  cases hr:wzo0 id st y<;>rw [hr] at h
  ·obtain ⟨h1,h2⟩:=wznq h
   refine ⟨h1,fun x hx=>?_⟩
   rw [wzis] at hx
   split at hx
   ·cases hx; exact hr
   ·exact h2 x hx
  ·have h:i∉j :: frzW id st l w:=h
   simp only [List.mem_cons,not_or] at h
   obtain ⟨h1,h2⟩:=wznq h.2
   refine ⟨h1,fun x hx=>?_⟩
   rw [wzis,if_neg (fun e=>h.1 e.symm)] at hx
   exact h2 x hx
 | (j,.cnd a b c y) :: l,w,h=>by
  have h:i∉frzW id st l w:=h
  obtain ⟨h1,h2⟩:=wznq h
  refine ⟨h1,fun x hx=>?_⟩
  rw [wzis] at hx
  split at hx
  ·cases hx
  ·exact h2 x hx
theorem wzpi {φ':Phi} {id st nx:Nat} {o:TO} {x:PV} (hext:Ext nx φ φ') (hx:StP nx x) (hO:OkO (φ id st) o) :
  StP (nx+1) (frzP id st o x)∧(OkP φ x→OkP φ' (frzP id st o x))∧((∃ c,o=.own c [])→W (eP φ x) (eP φ' (frzP id st o x)))∧((∀ c,o≠.own c [])→FV id (eO (φ id st).ep o) (eP φ x) (eP φ' (frzP id st o x))):=by
 have same:StP (nx+1) x∧(OkP φ x→OkP φ' x)∧((∃ c,o=.own c [])→W (eP φ x) (eP φ' x))∧((∀ c,o≠.own c [])→FV id (eO (φ id st).ep o) (eP φ x) (eP φ' x)):=by
  refine ⟨wzls (Nat.le_succ _) hx,wzms hext hx,fun _=>?_,fun _=>?_⟩
  ·rw [wzmm hext hx]; exact .refl _
  ·rw [wzmm hext hx]; exact .refl _
 cases x with
 | ptr i s off =>
  have e:frzP id st o (.ptr i s off)=kond (Nat.beq i id) (kond (Nat.beq s st) (match (generalizing:=false) o with | .box cs=>.s (.cptr cs off) | _=>.ptr i s off) (.ptr i s off)) (.ptr i s off):=rfl
  rw [e]
  cases h1:Nat.beq i id
  ·exact same
  ·cases h2:Nat.beq s st
   ·exact same
   ·obtain rfl:=wzir.1 h1
    obtain rfl:=wzir.1 h2
    cases o with
    | box cs =>
     refine ⟨trivial,fun _=>trivial,fun ⟨c,e⟩=>(by cases e),fun _=>?_⟩
     have:=FV.box (id:=i) (o:=eO (φ i s).ep (.box cs)) (φ i s).ep off (emL cs) (fun k=>(emL cs).getD k .top) rfl (fun _ _=>rfl)
     rw [wziw] at this
     exact this
    | gone=>exact same
    | vec c l=>exact same
    | own c l=>exact same
 | vec i s =>
  have e:frzP id st o (.vec i s)=kond (Nat.beq i id) (kond (Nat.beq s st) (match (generalizing:=false) o with | .vec c l=>.s (.slc c l) | _=>.vec i s) (.vec i s)) (.vec i s):=rfl
  rw [e]
  cases h1:Nat.beq i id
  ·exact same
  ·cases h2:Nat.beq s st
   ·exact same
   ·obtain rfl:=wzir.1 h1
    obtain rfl:=wzir.1 h2
    cases o with
    | vec c l =>
     refine ⟨trivial,fun _=>trivial,fun ⟨c,e⟩=>(by cases e),fun _=>?_⟩
     show FV i _ (.vec i (φ i s).ep 0 (φ i s).n) (.slc c.n l.length (qzd c.cA l))
     have hO:(φ i s).n=l.length∧(φ i s).f=qzd c.cA l:=hO
     rw [hO.1]
     exact .vec _ _ l.length (qzd c.cA l) 0 l.length _ rfl (by omega) fun k _=>by rw [Nat.zero_add]
    | gone=>exact same
    | box cs=>exact same
    | own c l=>exact same
 | own i s =>
  have e:frzP id st o (.own i s)=kond (Nat.beq i id) (kond (Nat.beq s st) (match (generalizing:=false) o with | .own c l=>.s (.slc c l) | _=>.own i s) (.own i s)) (.own i s):=rfl
  rw [e]
  cases h1:Nat.beq i id
  ·exact same
  ·cases h2:Nat.beq s st
   ·exact same
   ·obtain rfl:=wzir.1 h1
    obtain rfl:=wzir.1 h2
    cases o with
    | own c l =>
     have hO:(φ i s).n=l.length∧(φ i s).f=qzd c.cA l:=hO
     have e1:eP φ (.own i s)=match l.length with | 0=>.nils | n+1=>.vec i (φ i s).ep 0 (n+1):=by
      show (match (φ i s).n with | 0=>AVal.nils | n+1=>.vec i (φ i s).ep 0 (n+1))=_
      rw [hO.1]
     rw [e1]
     refine ⟨trivial,fun _=>trivial,fun ⟨c',e⟩=>?_,fun hne=>?_⟩
     ·cases e
      exact .nil _ _
     ·cases l with
      | nil=>exact absurd rfl (hne c)
      | cons y l =>
       show FV i (.vec (φ i s).ep c.n (l.length+1) (qzd c.cA (y :: l))) (.vec i (φ i s).ep 0 (l.length+1)) (.slc c.n (l.length+1) (qzd c.cA (y :: l)))
       exact .vec _ _ (l.length+1) (qzd c.cA (y :: l)) 0 (l.length+1) _ rfl (by omega) fun k _=>by rw [Nat.zero_add]
    | gone=>exact same
    | box cs=>exact same
    | vec c l=>exact same
 | s v=>exact same
 | eptr i s j off c x=>exact same
 | vs i s lo hi=>exact same
theorem wzvp {id st:Nat} {o:TO} {w:Bool} {x:TV}:gdT w (match x with | .v x=>.v (frzP id st o x) | y=>y)=gdT w x:=by
 cases x with
 | cnd a b c y=>rfl
 | v x =>
  cases x with
  | ptr i s off=>show gdT w (.v (kond (Nat.beq i id) (kond (Nat.beq s st) _ _) _))=_; cases Nat.beq i id<;>cases Nat.beq s st<;>cases o<;>rfl
  | vec i s=>show gdT w (.v (kond (Nat.beq i id) (kond (Nat.beq s st) _ _) _))=_; cases Nat.beq i id<;>cases Nat.beq s st<;>cases o<;>rfl
  | own i s=>show gdT w (.v (kond (Nat.beq i id) (kond (Nat.beq s st) _ _) _))=_; cases Nat.beq i id<;>cases Nat.beq s st<;>cases o<;>rfl
  | _=>rfl
theorem wzu6 (hI:InvT φ T) (id:Nat):∃ φ',InvT φ' (frz1 T id)∧Log φ T φ' (frz1 T id)∧(frz1 T id).gs=T.gs∧See E (em φ T) (em φ' (frz1 T id)):=by
 have none':frz1 T id=T→∃ φ',InvT φ' (frz1 T id)∧Log φ T φ' (frz1 T id)∧(frz1 T id).gs=T.gs∧See E (em φ T) (em φ' (frz1 T id)):=fun e=>by
  rw [e]; exact ⟨φ,hI,.refl _ _,rfl,.refl _⟩
 have main:∀ st o,wzip T.h id=some (st,o)→o≠.gone→frz1 T id=⟨frzT id st o T.t,(id,T.nx,.gone) :: T.h,T.nx+1,T.n,T.gs,frzW id st T.t T.w,id :: T.wo⟩→∃ φ',InvT φ' (frz1 T id)∧Log φ T φ' (frz1 T id)∧(frz1 T id).gs=T.gs∧See E (em φ T) (em φ' (frz1 T id)):=by
  intro st o ho hne e
  rw [e]
  obtain ⟨hst,hok⟩:=hI.ob _ _ _ ho
  have hext:Ext T.nx φ (upd φ id T.nx ⟨(φ id st).ep+1,0,fun _=>[]⟩):=wzpy
  have obj:∀ i,hO (upd φ id T.nx ⟨(φ id st).ep+1,0,fun _=>[]⟩) i (wzip ((id,T.nx,TO.gone) :: T.h) i)=if i=id then .gone ((φ id st).ep+1) else hO φ i (wzip T.h i):=by
   intro i
   rw [wziu]
   by_cases h:i=id
   ·subst h
    rw [if_pos rfl,if_pos rfl]
    show AObj.gone (upd φ i T.nx _ i T.nx).ep=_
    rw [wzjf]
   ·rw [if_neg (fun e=>h e.symm),if_neg h]
    exact wzs5 hext fun st o ho=>(hI.ob _ _ _ ho).1
  refine ⟨upd φ id T.nx ⟨(φ id st).ep+1,0,fun _=>[]⟩,⟨fun i=>?_,fun i hi=>?_,fun i s o' ho'=>?_⟩,⟨rfl,Nat.le_succ _,hext,fun i hi=>?_,fun i hi=>?_⟩,rfl,?_⟩
  ·show TOk _ _ (wzin (frzT id st o T.t) i)
   rw [wzju]
   have hx:=hI.sl i
   revert hx
   cases wzin T.t i with
   | v x =>
    intro hx
    obtain ⟨k1,k2,k3,k4⟩:=wzpi (id:=id) (st:=st) (o:=o) hext hx.1 hok
    exact ⟨k1,k2 hx.2⟩
   | cnd a b c y =>
    intro hx
    obtain ⟨q1,q2,q3,q4⟩:=hx
    refine ⟨wzls (Nat.le_succ _) q1,fun e=>wzms hext q1 (q2 e),q3,?_⟩
    show gdT b (wzin (frzT id st o T.t) a)=_
    rw [wzju,← q4]
    exact wzvp
  ·show wzin (frzT id st o T.t) i=_
   rw [wzju,hI.hi i hi]; rfl
  ·have ho':wzip ((id,T.nx,TO.gone) :: T.h) i=some (s,o'):=ho'
   rw [wziu] at ho'
   by_cases h:id=i
   ·rw [if_pos h] at ho'
    cases ho'
    exact ⟨Nat.lt_succ_self _,trivial⟩
   ·rw [if_neg h] at ho'
    obtain ⟨q1,q2⟩:=hI.ob _ _ _ ho'
    exact ⟨Nat.lt_succ_of_lt q1,wzpj hext q1 q2⟩
  ·obtain ⟨h1,h2⟩:=wznq (l:=T.t) (w:=T.w) hi
   refine ⟨h1,?_⟩
   show eT _ (wzin (frzT id st o T.t) i)=_
   rw [wzju]
   have hx:=hI.sl i
   revert hx h2
   cases wzin T.t i with
   | v x =>
    intro h2 hx
    show eP _ (frzP id st o x)=eP φ x
    rw [wzvu (h2 x rfl)]
    exact wzmm hext hx.1
   | cnd a b c y=>intro _ hx; exact wzml hext (x:=.cnd a b c y) hx.1
  ·have hi:i∉id :: T.wo:=hi
   simp only [List.mem_cons,not_or] at hi
   refine ⟨hi.2,?_⟩
   show hO _ i (wzip ((id,T.nx,TO.gone) :: T.h) i)=_
   rw [obj,if_neg hi.1]
  ·by_cases hc:∃ c,o=.own c []
   ·have hg:qz8 (eHm φ T.h) id=.gone (φ id st).ep:=by
     rw [wzji,ho]
     obtain ⟨c,rfl⟩:=hc
     rfl
    refine (See.bump (m:=eTm φ T.t) (n:=T.n) id (φ id st).ep hg).trans (.pw (t:=tl (eTm φ T.t) T.n) (t':=tl (eTm _ (frzT id st o T.t)) T.n) ?_ fun i=>?_)
    ·refine .of (by rw [qzgt,qzgt]) fun i x y hx hy=>?_
     rw [qzem] at hx hy
     split at hx
     ·rename_i hi
      rw [if_pos hi] at hy
      cases hx; cases hy
      rw [wzjk,wzjk,wzju]
      have hx:=hI.sl i
      revert hx
      cases wzin T.t i with
      | v x=>intro hx; exact (wzpi (id:=id) (st:=st) (o:=o) hext hx.1 hok).2.2.1 hc
      | cnd a b c y=>intro hx; rw [wzml hext (x:=.cnd a b c y) hx.1]; exact .refl _
     ·cases hx
    ·show WO (qz8 ((id,.gone ((φ id st).ep+1)) :: eHm φ T.h) i) (qz8 (eHm _ ((id,T.nx,TO.gone) :: T.h)) i)
     rw [wzji,obj]
     show WO (if id=i then _ else qz8 (eHm φ T.h) i) _
     rw [wzji]
     by_cases h:i=id
     ·rw [if_pos h,if_pos h.symm]; exact qzhs.2 trivial
     ·rw [if_neg h,if_neg (fun e=>h e.symm)]; exact qzhs.2 trivial
   ·have hc:∀ c,o≠.own c []:=fun c e=>hc ⟨c,e⟩
    refine See.freeze (id:=id) (o:=eO (φ id st).ep o) (wzpa ho) ?_ wzqr ?_ (fun j hj=>.inl ?_) ?_ rfl
    ·cases o with
     | gone=>exact absurd rfl hne
     | box cs=>rfl
     | vec c l=>rfl
     | own c l=>cases l with
      | nil=>exact absurd rfl (hc c)
      | cons y l=>rfl
    ·rw [em_h,wzqd]
     show hO _ id (wzip ((id,T.nx,TO.gone) :: T.h) id)=_
     rw [obj,if_pos rfl]
    ·rw [em_h,em_h]
     show hO _ j (wzip ((id,T.nx,TO.gone) :: T.h) j)=_
     rw [obj,if_neg hj]
    ·refine FVl.map (l:=List.range T.n) fun i _=>?_
     show FV id _ (look (eTm φ T.t) i) (look (eTm _ (frzT id st o T.t)) i)
     rw [wzjk,wzjk,wzju]
     have hx:=hI.sl i
     revert hx
     cases wzin T.t i with
     | v x=>intro hx; exact (wzpi (id:=id) (st:=st) (o:=o) hext hx.1 hok).2.2.2 hc
     | cnd a b c y=>intro hx; rw [wzml hext (x:=.cnd a b c y) hx.1]; exact .refl _
 cases ho:wzip T.h id with
 | none=>exact none' (by unfold frz1; rw [ho])
 | some p =>
  obtain ⟨st,o⟩:=p
  cases o with
  | gone=>exact none' (by unfold frz1; rw [ho])
  | box cs=>exact main st _ ho (by intro e; cases e) (by unfold frz1; rw [ho])
  | vec c l=>exact main st _ ho (by intro e; cases e) (by unfold frz1; rw [ho])
  | own c l=>exact main st _ ho (by intro e; cases e) (by unfold frz1; rw [ho])
theorem wzny:∀ (l:List Nat) {φ:Phi} {T:TSt},InvT φ T→∃ φ',InvT φ' (frzA T l)∧Log φ T φ' (frzA T l)∧(frzA T l).gs=T.gs∧See E (em φ T) (em φ' (frzA T l))
 | [],φ,T,hI=>⟨φ,hI,.refl _ _,rfl,.refl _⟩
 | id :: l,φ,T,hI=>by
  obtain ⟨φ1,h1,h2,h3,h4⟩:=wzu6 (E:=E) hI id
  obtain ⟨φ2,k1,k2,k3,k4⟩:=wzny l h1
  exact ⟨φ2,k1,h2.trans k2,k3.trans h3,h4.trans k4⟩
def CW (T:TSt):Prop:=∀ i a b c x,wzin T.t i=.cnd a b c x→i∈T.w
theorem wzwi {x:PV} {g:Bool} {y:AVal}:eP φ x≠.cnd g y:=by
 cases x with
 | s v=>cases v<;>(intro h; cases h)
 | own id st =>
  show (match (φ id st).n with | 0=>AVal.nils | n+1=>.vec id (φ id st).ep 0 (n+1))≠_
  cases (φ id st).n<;>(intro h; cases h)
 | _=>intro h; cases h
theorem CW.log {φ':Phi} {T':TSt} (h:CW T) (L:Log φ T φ' T'):CW T':=by
 intro i a b c x hx
 apply Classical.byContradiction
 intro hi
 obtain ⟨h1,h2⟩:=L.sl i hi
 rw [hx] at h2
 cases hy:wzin T.t i with
 | v y=>rw [hy] at h2; exact wzwi h2.symm
 | cnd a b c y=>exact h1 (h i _ _ _ _ hy)
theorem CW.of (hI:InvT φ T) (hg:T.gs=[]):CW T:=by
 intro i a b c x hx
 have:=hI.sl i
 rw [hx] at this
 obtain ⟨_,_,h,_⟩:=this
 rw [hg] at h
 cases h
theorem wzki:∀ {l:List (Nat×TV)} {i:Nat},wzin (wzk4 l) i=(match wzin l i with | .v x=>.v x | _=>.v (.s .top))
 | [],i=>rfl
 | (j,.v x) :: l,i=>by
  show wzin ((j,.v x) :: wzk4 l) i=_
  rw [wzis,wzis]
  split
  ·rfl
  ·exact wzki
 | (j,.cnd a b c x) :: l,i=>by
  show wzin ((j,.v (.s .top)) :: wzk4 l) i=_
  rw [wzis,wzis]
  split
  ·rfl
  ·exact wzki
theorem wzri (hI:InvT φ T) (hC:CW T):InvT φ (endT T)∧Log φ T φ (endT T)∧(endT T).gs=[]∧See E (em φ T) (em φ (endT T)):=by
 cases hg:T.gs with
 | nil =>
  have e:endT T=T:=by unfold endT; rw [hg]
  rw [e]; exact ⟨hI,.refl _ _,hg,.refl _⟩
 | cons a l =>
  have e:endT T=⟨wzk4 T.t,T.h,T.nx,T.n,[],T.w,T.wo⟩:=by unfold endT; rw [hg]
  rw [e]
  refine ⟨⟨fun i=>?_,fun i hi=>?_,hI.ob⟩,⟨rfl,Nat.le_refl _,.refl _ _,fun i hi=>⟨hi,?_⟩,fun i hi=>⟨hi,rfl⟩⟩,rfl,wzuf rfl (fun i=>?_) fun i=>qzhs.2 trivial⟩
  ·show TOk _ _ (wzin (wzk4 T.t) i)
   rw [wzki]
   have hx:=hI.sl i
   revert hx
   cases wzin T.t i with
   | v x=>exact fun hx=>hx
   | cnd a b c y=>exact fun _=>⟨trivial,trivial⟩
  ·show wzin (wzk4 T.t) i=_
   rw [wzki,hI.hi i hi]
  ·show eT φ (wzin (wzk4 T.t) i)=_
   rw [wzki]
   cases hx:wzin T.t i with
   | v x=>rfl
   | cnd a b c y=>exact absurd (hC i _ _ _ _ hx) hi
  ·show W _ (eT φ (wzin (wzk4 T.t) i))
   rw [wzki]
   cases wzin T.t i with
   | v x=>exact .refl _
   | cnd a b c y=>exact .top _
theorem wzrc [TabOk] {α:Type} {H:List Fc} (hH:∀ C∈H,FcOk E P C) {ty:List (Nat×CT)}:∀ {ops:List qzc} {φ:Phi} {T:TSt} {K:TSt→Option α} {r:α},regT H ty ops T K=some r→InvT φ T→CW T →
  ∃ φ' T',K T'=some r∧InvT φ' T'∧Log φ T φ' T'∧T'.gs=[]∧∀ K':ASt→Prop,(∀ S',See E S' (em φ' T')→K' S')→SReg E P ops (em φ T) K'
 | [],φ,T,K,r,h,hI,hC=>by
  obtain ⟨h1,h2,h3,h4⟩:=wzri (E:=E) hI hC
  exact ⟨φ,endT T,h,h1,h2,h3,fun K' k=>.nil (k _ h4)⟩
 | o :: ops,φ,T,K,r,h,hI,hC=>by
  have h:wznx H ty (frzA T (wzr4 T o.op)) o (fun T' _ _=>regT H ty ops T' K)=some r:=h
  obtain ⟨φ1,i1,l1,g1,s1⟩:=wzny (E:=E) (wzr4 T o.op) hI
  obtain ⟨φ2,T2,rd,out,hk,hS⟩:=wzq3 hH i1 h
  obtain ⟨v,ob,d1,d2,d3⟩:=hS.ex
  obtain ⟨φ3,T3,k1,k2,k3,k4,k5⟩:=wzrc hH hk hS.inv ((hC.log l1).log hS.log)
  refine ⟨φ3,T3,k1,k2,(l1.trans hS.log).trans k3,k4,fun K' kk=>.see s1 (.cons ((qz2c (by intro D hD; cases hD) d1).mono ?_))⟩
  rintro S' ⟨v',out',e1,e2,rfl⟩
  have:=k5 K' kk
  rw [d3] at this
  exact .see (.veq (wzrh e1).1 (wzrh e1).2 e2.put) this
theorem wzzp {nx:Nat} {ar:AArg→AVal} (hA:∀ a x,argP T none a=some x→ar a=eP φ x∧StP nx x) {φ':Phi} {id st:Nat} {ob:TO} (hext:Ext nx φ φ') (hok:OkO (φ id st) ob):∀ {l:List AArg} {vs:List SV},wzzo T id st ob l=some vs →
  ((∃ c,ob=.own c [])→Ws (l.map ar) (emL vs))∧((∀ c,ob≠.own c [])→FVl id (eO (φ id st).ep ob) (l.map ar) (emL vs))
 | [],vs,h=>by cases h; exact ⟨fun _=>trivial,fun _=>trivial⟩
 | a :: l,vs,h=>by
  simp only [wzzo] at h
  split at h
  ·rename_i x r h1 h2
   obtain ⟨e1,e2⟩:=hA _ _ h1
   obtain ⟨i1,i2⟩:=wzzp hA hext hok h2
   obtain ⟨_,_,p3,p4⟩:=wzpi (id:=id) (st:=st) (o:=ob) hext e2 hok
   split at h
   ·rename_i v hv
    cases h
    rw [hv] at p3 p4
    rw [← e1] at p3 p4
    exact ⟨fun hc=>⟨p3 hc,i1 hc⟩,fun hc=>⟨p4 hc,i2 hc⟩⟩
   ·cases h
  ·cases h
def wzzz (E:Nat→AVal) (P:Program) {α:Type} (φ:Phi) (T:TSt) (o:qzc) (K:TSt→List Nat→Option Nat→Option α) (r:α):Prop :=
 ∃ φ' T' rd out,K T' rd out=some r∧InvT φ' T'∧Log φ T φ' T'∧GK T T'∧∃ v ob,qzbq E P o (em φ T) v rd ob∧out=ob.map (·.1)∧em φ' T'=⟨putT (em φ T).t o.dst v,putH (em φ T).h ob,[]⟩
theorem wzz7 [TabOk] {α:Type} {H:List Fc} (hH:∀ C∈H,FcOk E P C) {T0:TSt} {ar:AArg→AVal} (hI:InvT φ T) (e1:T0.h=T.h) (e2:T0.nx=T.nx) (hA:Ar φ T0 none ar (em φ T).h) {f:FuncId} {ags:List AArg} {id:Nat} {K:PV→Option α} {r:α} (h:wzz4 H T0 f ags id K=some r) :
  ∃ (v:SV) (e:Nat),K (.s v)=some r∧DFz E P f (ags.map ar) (em φ T).h (emS v) [id] (some (id,.gone e)):=by
 unfold wzz4 at h
 rw [e1] at h
 split at h
 ·rename_i st ob C h1 h2
  split at h
  ·rename_i vs h3
   split at h
   ·rename_i x h4
    obtain ⟨hs,h⟩:=wziq h
    obtain ⟨y,hy,hK⟩:∃ y,C.F x=some y∧K (.s (retT C.r y))=some r:=by
     cases hx:C.F x with
     | none=>rw [hx] at h; cases h
     | some y=>rw [hx] at h; exact ⟨y,rfl,h⟩
    obtain ⟨q1,q2⟩:=wzqh h2
    have ct:qzq E P f (emL vs) (emS (retT C.r y)):=q2▸((hH C q1).ok x y hy).w (wzse h4)
    obtain ⟨hst,hok⟩:=hI.ob _ _ _ h1
    have hh:(em φ T).h id=eO (φ id st).ep ob:=wzpa h1
    obtain ⟨a1,a2⟩:=wzzp (T:=T0) (ar:=ar) (φ:=φ) (fun a x hx=>⟨(hA.a a x hx).1,e2▸(hA.a a x hx).2.1⟩) (φ':=φ) (nx:=T.nx) (.refl _ _) hok h3
    by_cases hc:∃ c,ob=.own c []
    ·obtain ⟨c,rfl⟩:=hc
     exact ⟨_,(φ id st).ep,hK,id,List.mem_cons_self ..,by rw [hh]; exact wzqr,.inr ⟨by rw [hh]; rfl,ct.w (a1 ⟨c,rfl⟩)⟩⟩
    ·have hc:∀ c,ob≠.own c []:=fun c e=>hc ⟨c,e⟩
     refine ⟨_,(φ id st).ep+1,hK,id,List.mem_cons_self ..,by rw [hh]; exact wzqr,.inl ⟨by rw [hh,wzqd],?_,_,?_,ct⟩⟩
     ·rw [hh]
      cases ob with
      | vec c l=>rfl
      | own c l=>cases l with
       | nil=>exact absurd rfl (hc c)
       | cons y l=>rfl
      | _=>cases hs
     ·rw [hh]; exact a2 hc
   ·cases h
  ·cases h
 ·cases h
theorem wzz9 (hI:InvT φ T) {id e:Nat} {d:Option Tmp} {x:TV} (hd:wzo6 T d=true) (hx:∀ φ',Ext T.nx φ φ'→TOk φ' (putO T id .gone false) x) :
  ∃ φ',InvT φ' (putS (putO T id .gone false) d x)∧Log φ T φ' (putS (putO T id .gone false) d x)∧GK T (putS (putO T id .gone false) d x)∧em φ' (putS (putO T id .gone false) d x)=⟨putT (em φ T).t d (eT φ' x),putH (em φ T).h (some (id,.gone e)),[]⟩:=by
 obtain ⟨i1,l1,e1⟩:=wzu3 hI (G:=⟨e,0,fun _=>[]⟩) (ob:=.gone) trivial (re:=false) (id:=id) (fun hr=>by cases hr)
 exact ⟨_,wzlb i1 hd (hx _ wzpy),l1.trans wzmt,wzzx.trans (wzzv (T:=putO T id .gone false) hd),by rw [wzm9,e1]; rfl⟩
theorem wzz0 [TabOk] {α:Type} {H:List Fc} (hH:∀ C∈H,FcOk E P C) {ty:List (Nat×CT)} {o:qzc} {K:TSt→List Nat→Option Nat→Option α} {r:α} (hI:InvT φ T) (h:wznx H ty T o K=some r):wzzz E P φ T o K r:=by
 obtain ⟨φ',T',rd,out,k,S⟩:=wzq3 hH hI h
 obtain ⟨v,ob,d1,d2,d3⟩:=S.ex
 exact ⟨φ',T',rd,out,k,S.inv,S.log,S.gk,v,ob,.inl d1,d2,d3⟩
theorem wzzn [TabOk] {α:Type} {H:List Fc} (hH:∀ C∈H,FcOk E P C) {ty:List (Nat×CT)} {o:qzc} {K:TSt→List Nat→Option Nat→Option α} {r:α} (hI:InvT φ T) (h:wzzw H ty T o K=some r):wzzz E P φ T o K r:=by
 unfold wzzw at h
 split at h
 ·rename_i f ags hg hop
  split at h
  ·exact wzz0 hH hI h
  ·rename_i id _ _
   obtain ⟨hd,h⟩:=wziq h
   obtain ⟨v,e,hK,hz⟩:=wzz7 hH hI rfl rfl (wzmv (E:=E) hI) h
   obtain ⟨φ',i1,l1,g1,e1⟩:=wzz9 hI (id:=id) (e:=e) (x:=.v (.s v)) hd fun φ' _=>⟨trivial,trivial⟩
   refine ⟨φ',_,_,_,hK,i1,l1,g1,emS v,_,.inr ?_,rfl,e1⟩
   unfold wzzl
   rw [hg]
   exact ⟨f,ags,hop,hz⟩
 ·exact wzz0 hH hI h
theorem wz0c {T:TSt} {n:Nat} {x:PV} (h:argP T none (.t n)=some x):wzin T.t n=.v x:=by
 cases hl:wzin T.t n with
 | v y=>simp only [argP,hl] at h; cases h; rfl
 | cnd a b c y=>simp only [argP,hl] at h; cases h
theorem wzzy {tg:Nat} {want:Bool}:∀ {l:List (Nat×TV)} {i:Nat},wzin (unG tg want l) i=(match wzin l i with
  | .cnd a b g x=>kond (Nat.beq a tg) (kond (eqB b want) (.v x) (.cnd a b g x)) (.cnd a b g x)
  | y=>y)
 | [],i=>rfl
 | (j,.v y) :: l,i=>by
  show wzin ((j,.v y) :: unG tg want l) i=_
  rw [wzis,wzis]
  split
  ·rfl
  ·exact wzzy
 | (j,.cnd a b g y) :: l,i=>by
  show wzin ((j,kond (Nat.beq a tg) (kond (eqB b want) (.v y) (.cnd a b g y)) (.cnd a b g y)) :: unG tg want l) i=_
  rw [wzis,wzis]
  split
  ·rfl
  ·exact wzzy
theorem wz0g (hI:InvT φ T) {tg:Nat} {want:Bool} (hb:gdT want (wzin T.t tg)=some true):Ar φ (unT T tg want) none (argU E (em φ T).t) (em φ T).h:=by
 refine ⟨fun a x h=>?_,fun id st o h=>⟨wzpa h,(hI.ob _ _ _ h).2⟩⟩
 cases a with
 | t n =>
  have e:argU E (em φ T).t (.t n)=unv (eT φ (wzin T.t n)):=by
   show unv ((em φ T).t.getD n .top)=_
   rw [em_t hI]
  have hs:=hI.sl n
  have h':wzin (unG tg want T.t) n=.v x:=wz0c h
  clear h
  rw [wzzy] at h'
  cases hl:wzin T.t n with
  | v y =>
   rw [hl] at h' e hs
   cases h'
   exact ⟨by rw [e]; exact wzm7 _,hs.1,fun _=>hs.2⟩
  | cnd a b c y =>
   rw [hl] at h' e hs
   dsimp only at h'
   cases h1:Nat.beq a tg<;>rw [h1] at h'
   ·cases h'
   ·cases h2:eqB b want<;>rw [h2] at h'
    ·cases h'
    ·obtain rfl:=wzir.1 h1
     obtain rfl:=wzq9.1 h2
     cases h'
     obtain ⟨q1,q2,_,q4⟩:=hs
     rw [hb] at q4
     cases q4
     exact ⟨e,q1,fun _=>q2 rfl⟩
 | c v =>
  simp only [argP] at h
  split at h
  ·rename_i w hw
   cases h
   exact ⟨(wzoj hw).symm,trivial,fun _=>trivial⟩
  ·cases h
 | g i=>cases h
theorem wzz1 (hI:InvT φ T) {tg:Nat} {want:Bool} (hb:gdT want (wzin T.t tg)=some true):∀ {l:List AArg},allA (unT T tg want) none l=true→wze true (em φ T).t l
 | [],_=>trivial
 | .c v :: l,h=>by
  simp only [allA] at h
  split at h
  ·exact wzz1 hI hb (l:=l) h
  ·cases h
 | .g i :: l,h=>by simp only [allA,argP] at h; cases h
 | .t n :: l,h=>by
  simp only [allA] at h
  split at h
  ·rename_i p hp
   refine ⟨?_,wzz1 hI hb h⟩
   rw [em_t hI]
   have hs:=hI.sl n
   have hp:wzin (unG tg want T.t) n=.v p:=wz0c hp
   rw [wzzy] at hp
   cases hl:wzin T.t n with
   | v y=>exact wzni _ _
   | cnd a b c y =>
    rw [hl] at hp hs
    dsimp only at hp
    cases h1:Nat.beq a tg<;>rw [h1] at hp
    ·cases hp
    ·cases h2:eqB b want<;>rw [h2] at hp
     ·cases hp
     ·obtain rfl:=wzir.1 h1
      obtain rfl:=wzq9.1 h2
      obtain ⟨_,_,_,q4⟩:=hs
      rw [hb] at q4
      cases q4
      exact fun _=>rfl
  ·cases h
theorem wz16 [TabOk] {α:Type} {H:List Fc} (hH:∀ C∈H,FcOk E P C) {ty:List (Nat×CT)} {o:qzc} {tg:Nat} {want:Bool} {K:TSt→List Nat→Option Nat→Option α} {r:α} (hI:InvT φ T) (hg:o.guard=some (tg,want)) (hb:gdT want (wzin T.t tg)=some true) (hm:memN tg T.gs=true)
  (h:wz0a H ty T o tg want K=some r):wzzz E P φ T o K r:=by
 unfold wz0a at h
 obtain ⟨hd,h⟩:=wziq h
 have h0:=wzta hI hb
 have tok:∀ {φ':Phi} {T':TSt} {p:PV},GK T T'→StP T'.nx p→OkP φ' p→TOk φ' T' (.cnd tg want true p):=fun g h1 h2=>⟨h1,fun _=>h2,(g tg hm).1,by rw [(g tg hm).2]; exact hb⟩
 split at h
 ·rename_i f ags hop
  split at h
  ·exact wzz0 hH hI h
  ·rename_i id _ _
   obtain ⟨hall,h⟩:=wziq h
   obtain ⟨v,e,hK,hz⟩:=wzz7 hH hI (T0:=unT T tg want) rfl rfl (wz0g (E:=E) hI hb) h
   obtain ⟨φ',i1,l1,g1,e1⟩:=wzz9 hI (id:=id) (e:=e) (x:=.cnd tg want true (.s v)) hd fun φ' _=>tok wzzx trivial trivial
   refine ⟨φ',_,_,_,hK,i1,l1,g1,.cnd true (emS v),_,.inr ?_,rfl,e1⟩
   unfold wzzl
   rw [hg]
   exact ⟨true,emS v,h0,rfl,(fun e=>by cases e),.inl ⟨f,ags,hop,fun _=>⟨wzz1 hI hb hall,hz⟩⟩⟩
 ·rename_i hno
  cases ho:wzm2 o.op with
  | false=>rw [ho] at h; exact wzz0 hH hI h
  | true =>
   rw [ho] at h
   obtain ⟨hall,h⟩:=wziq h
   have hp:Hp φ (unT T tg want) (argU E (em φ T).t) (em φ T).h:=⟨wz0g hI hb,fun i=>wzn9 i⟩
   obtain ⟨p,id,ob,re,rd,ep,G,hK,V⟩:=wzwc hp h
   obtain ⟨i1,l1,e1⟩:=wzu3 hI (G:=ghoR G ep ob) wzrj (re:=re) (id:=id) (ob:=ob) fun hr=>by
    obtain ⟨st,o0,q1,q2,q3⟩:=V.re hr
    exact ⟨st,o0,q1,by rw [wzpp]; exact q2,q3⟩
   have hd':wzo6 (putO T id ob re) o.dst=true:=hd
   refine ⟨_,_,_,_,hK,wzlb i1 hd' (tok wzzx V.st V.okp),l1.trans wzmt,wzzx.trans (wzzv hd'),.cnd true (eP (upd φ id T.nx (ghoR G ep ob)) p),some (id,eO ep ob),.inr ?_,rfl,?_⟩
   ·unfold wzzl
    rw [hg]
    refine ⟨true,_,h0,rfl,(fun e=>by cases e),.inr ⟨wzrr ho,fun _=>⟨?_,V.ok,V.v,V.hrd,V.hout,fun i ob e=>by cases e; exact V.hid⟩⟩⟩
    have hu:=wzz1 hI hb hall
    revert ho hu
    cases o.op<;>first | exact fun _ hu=>hu | exact fun ho _=>by cases ho
   ·rw [wzm9,e1,wzpp]; rfl
theorem wz17 {α:Type} {o:qzc} {tg:Nat} {want:Bool} {K:TSt→List Nat→Option Nat→Option α} {r:α} (hI:InvT φ T) (hg:o.guard=some (tg,want)) (hb:gdT want (wzin T.t tg)=some false) (hm:memN tg T.gs=true)
  (h:wzz2 T o tg want K=some r):wzzz E P φ T o K r:=by
 unfold wzz2 at h
 obtain ⟨hd,h⟩:=wziq h
 obtain ⟨hv,hK⟩:=wziq h
 have h0:=wzta hI hb
 refine ⟨φ,_,_,_,hK,wzlb hI hd ⟨trivial,(fun e=>by cases e),hm,hb⟩,wzmt,wzzv hd,.cnd false .top,none,.inr ?_,rfl,wzm9⟩
 unfold wzzl
 rw [hg]
 refine ⟨false,.top,h0,rfl,fun _=>rfl,?_⟩
 cases hop:o.op<;>rw [hop] at hv<;>first
  | exact .inl ⟨_,_,rfl,fun e=>by cases e⟩
  | exact .inr ⟨rfl,fun e=>by cases e⟩
  | cases hv
theorem wz0e {α:Type} {o:qzc} {n:Nat} {want:Bool} {x y:AArg} {K:TSt→List Nat→Option Nat→Option α} {r:α} (hI:InvT φ T) (hg:o.guard=none) (hop:o.op=.pick (.t n) x y) (hb:gdT want (wzin T.t n)=some false)
  (h:wzz5 T o n (kond want y x) K=some r):wzzz E P φ T o K r:=by
 unfold wzz5 at h
 split at h
 ·rename_i b p h1 h2
  obtain ⟨hd,hK⟩:=wziq h
  have hA:=wzmv (E:=E) hI
  obtain ⟨a1,a2,a3⟩:=hA.a _ _ h2
  have hc:argv E (em φ T).t (.t n)=.bool b:=(hA.a (.t n) (.s (.bool b)) (by simp only [argP,h1])).1
  rw [h1] at hb
  have hb:b=!want:=by
   have:some (kond want b (!b))=some false:=hb
   cases want<;>cases b<;>first | rfl | (cases this; done)
  subst hb
  refine ⟨φ,_,_,_,hK,wzlb hI hd ⟨a2,a3 trivial⟩,wzmt,wzzv hd,eP φ p,none,.inl ?_,rfl,wzm9⟩
  have hq:unc (!want) (argv E (em φ T).t x)∧unc (!!want) (argv E (em φ T).t y):=by
   cases want
   ·exact ⟨by rw [show argv E (em φ T).t x=eP φ p from a1]; exact wzni _ _,by cases argv E (em φ T).t y<;>first | trivial | (intro e; cases e)⟩
   ·exact ⟨by cases argv E (em φ T).t x<;>first | trivial | (intro e; cases e),by rw [show argv E (em φ T).t y=eP φ p from a1]; exact wzni _ _⟩
  obtain ⟨o1,o2⟩:=wz0d hq
  have e:o.op.req (argv E (em φ T).t) (em φ T).h=jzp (!want) (argv E (em φ T).t x) (argv E (em φ T).t y):=by
   rw [hop]
   simp only [AOp.req,hc]
  refine wzom hg (by rw [hop]; rfl) (by rw [e]; exact o1) ?_ (by rw [e,o2]; intro j hj; cases hj) (by rw [e,qzrf]; trivial) (fun i ob e=>by cases e)
  rw [e,wzdm]
  cases want
  ·show VEq (unv (argv E (em φ T).t x)) _; rw [show argv E (em φ T).t x=eP φ p from a1,wzm7]; exact .refl _
  ·show VEq (unv (argv E (em φ T).t y)) _; rw [show argv E (em φ T).t y=eP φ p from a1,wzm7]; exact .refl _
 ·cases h
def KnOk (T:TSt) (kn:Kn):Prop:=∀ tg want b,kn=some (tg,want,b)→gdT want (wzin T.t tg)=some b∧memN tg T.gs=true
theorem KnOk.gk {T T':TSt} {kn:Kn} (h:KnOk T kn) (g:GK T T'):KnOk T' kn:=fun tg want b e=>by
 obtain ⟨h1,h2⟩:=h tg want b e
 exact ⟨by rw [(g tg h2).2]; exact h1,(g tg h2).1⟩
theorem wz2a [TabOk] {α:Type} {H:List Fc} (hH:∀ C∈H,FcOk E P C) {ty:List (Nat×CT)} {kn:Kn} {o:qzc} {K:TSt→List Nat→Option Nat→Option α} {r:α} (hI:InvT φ T) (hk:KnOk T kn) (h:wz18 H ty kn T o K=some r):wzzz E P φ T o K r:=by
 unfold wz18 at h
 split at h
 ·exact wzzn hH hI h
 ·rename_i tg want b
  obtain ⟨k1,k2⟩:=hk tg want b rfl
  split at h
  ·rename_i tg' want' hg
   cases h1:Nat.beq tg' tg<;>rw [h1] at h
   ·exact wzzn hH hI h
   ·cases h2:eqB want' want<;>rw [h2] at h
    ·exact wzzn hH hI h
    ·obtain rfl:=wzir.1 h1
     obtain rfl:=wzq9.1 h2
     cases b
     ·exact wz17 hI hg k1 k2 h
     ·exact wz16 hH hI hg k1 k2 h
  ·rename_i hg
   cases b
   ·replace h:(match o.op with
     | .pick (.t n) x y=>kond (Nat.beq n tg) (wzz5 T o tg (kond want y x) K) (wzzw H ty T o K)
     | _=>wzzw H ty T o K)=some r:=h
    split at h
    ·rename_i n x y hop
     cases h1:Nat.beq n tg<;>rw [h1] at h
     ·exact wzzn hH hI h
     ·obtain rfl:=wzir.1 h1
      exact wz0e hI hg hop k1 h
    ·exact wzzn hH hI h
   ·exact wzzn hH hI h
theorem wzqx [TabOk] {α:Type} {H:List Fc} (hH:∀ C∈H,FcOk E P C) {ty:List (Nat×CT)}:∀ {ops:List qzc} {kn:Kn} {φ:Phi} {T:TSt} {K:TSt→List (List Nat×Option Nat)→Option α} {r:α},wzqa H ty ops kn T K=some r→InvT φ T→KnOk T kn →
  ∃ φ' T' tr,K T' tr=some r∧InvT φ' T'∧Log φ T φ' T'∧∀ K':ASt→List (List Nat×Option Nat)→Prop,K' (em φ' T') tr→wzo8 E P ops (em φ T) K'
 | [],kn,φ,T,K,r,h,hI,_=>⟨φ,T,[],h,hI,.refl _ _,fun K' k=>k⟩
 | o :: ops,kn,φ,T,K,r,h,hI,hk=>by
  have go:∀ {kn':Kn} {T0:TSt},Log φ T φ T0→em φ T0=em φ T→KnOk T0 kn'→wzzz E P φ T0 o (fun T' rd out=>wzqa H ty ops kn' T' fun T'' tr=>K T'' ((rd,out) :: tr)) r →
    ∃ φ' T' tr,K T' tr=some r∧InvT φ' T'∧Log φ T φ' T'∧∀ K':ASt→List (List Nat×Option Nat)→Prop,K' (em φ' T') tr→wzo8 E P (o :: ops) (em φ T) K':=by
   intro kn' T0 l0 e0 hk' hS
   obtain ⟨φ2,T2,rd,out,hK,s1,s2,g2,v,ob,d1,d2,d3⟩:=hS
   obtain ⟨φ3,T3,tr,k1,k2,k3,k4⟩:=wzqx hH hK s1 (hk'.gk g2)
   refine ⟨φ3,T3,(rd,out) :: tr,k1,k2,(l0.trans s2).trans k3,fun K' kk=>?_⟩
   rw [← e0]
   refine ⟨v,rd,ob,d1,?_⟩
   have:=k4 (fun S' tr=>K' S' ((rd,ob.map (·.1)) :: tr)) (by rw [← d2]; exact kk)
   rw [d3] at this
   exact this
  unfold wzqa at h
  split at h
  ·rename_i tg want hg
   cases hs:wz19 T tg want o.op<;>rw [hs] at h
   ·exact go (.refl _ _) rfl hk (wzzn hH hI h)
   ·replace h:(match gdT want (wzin T.t tg) with
     | some g=>ite' g (wz0a H ty (addG T tg) o tg want fun T' rd out=>wzqa H ty ops (some (tg,want,true)) T' fun T'' tr=>K T'' ((rd,out) :: tr))
       (wzz2 (addG T tg) o tg want fun T' rd out=>wzqa H ty ops (some (tg,want,false)) T' fun T'' tr=>K T'' ((rd,out) :: tr))
     | none=>none)=some r:=h
    split at h
    ·rename_i g hb
     have hb':gdT want (wzin (addG T tg).t tg)=some g:=hb
     have hm:memN tg (addG T tg).gs=true:=wzl9.2 (List.mem_cons_self ..)
     have hkn:KnOk (addG T tg) (some (tg,want,g)):=fun a b c e=>by cases e; exact ⟨hb',hm⟩
     cases g
     ·exact go (wzt4 tg) rfl hkn (wz17 (wzoc hI tg) hg hb' hm h)
     ·exact go (wzt4 tg) rfl hkn (wz16 hH (wzoc hI tg) hg hb' hm h)
    ·cases h
  ·exact go (.refl _ _) rfl hk (wz2a hH hI hk h)
end
end
end Go.Am

