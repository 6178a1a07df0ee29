/- Part T3 of the proof that the last part closes: a typed interpreter of abstract code, proved sound over the machine. No condition. -/
import Derived.Test.YtpflinpbkifmhaaGreatDoorT2
set_option linter.unusedVariables false
set_option linter.unusedSimpArgs false
namespace Go.Am
theorem wzit {β:Type} {p:Nat×β} {l:List (Nat×β)} {i:Nat}:hasK i (p :: l)=if p.1=i then true else hasK i l:=by
 show kond (Nat.beq p.1 i) _ _=_
 cases h:Nat.beq p.1 i
 ·rw [if_neg (wzmb.1 h)]; rfl
 ·rw [if_pos (wzir.1 h)]; rfl
theorem wzn1 {i:Nat} {l:List Nat} (h:memN i l=false):i∉l:=fun e=>by rw [wzl9.2 e] at h; cases h
theorem wzo9 {c x:Bool} (h:kond c false x=true):c=false∧x=true:=by cases c<;>first | exact ⟨rfl,h⟩ | cases h
theorem wzix {c x:Bool} (h:kond c x false=true):c=true∧x=true:=by cases c<;>first | exact ⟨rfl,h⟩ | cases h
theorem wzs6 {n i:Nat} (hn:n≤i):∀ {sl:List (Nat×SH)},ltK n sl=true→hasK i sl=false
 | [],_=>rfl
 | p :: l,h=>by
  have h:kond (Nat.blt p.1 n) (ltK n l) false=true:=h
  obtain ⟨h1,h2⟩:=wzix h
  have h1:p.1 < n:=by simpa [Nat.blt_eq] using h1
  rw [wzit,if_neg (by omega)]
  exact wzs6 hn h2
section
variable [Tab]
def Rv (x y:SV):Prop:=W (emS x) (emS y)∧∀ c m,x=.slc c m→y=x
def Rvs:List SV→List SV→Prop
 | [],[]=>True
 | x :: l,y :: m=>Rv x y∧Rvs l m
 | _,_=>False
theorem Rvs.split:∀ {a b v:List SV},Rvs (a++b) v→∃ a' b',v=a'++b'∧Rvs a a'∧Rvs b b'∧a'.length=a.length
 | [],b,v,h=>⟨[],v,rfl,trivial,h,rfl⟩
 | x :: a,b,[],h=>h.elim
 | x :: a,b,y :: v,h=>by
  obtain ⟨a',b',e,h1,h2,h3⟩:=Rvs.split (a:=a) h.2
  exact ⟨y :: a',b',by rw [e]; rfl,⟨h.1,h1⟩,h2,by simp [h3]⟩
theorem wzsm [TabOk] {c:CT} {v:SV} {x:c.T} (h:ofW c v=some x):Rv v (wT c x):=by
 refine ⟨wzo2 h,fun c' m e=>?_⟩
 subst e
 cases c with
 | us i=>have h:(none:Option (TabT.T i))=some x:=h; cases h
 | int k=>have h:(none:Option Int)=some x:=h; cases h
 | bool=>have h:(none:Option Bool)=some x:=h; cases h
 | str=>have h:(none:Option (List UInt8))=some x:=h; cases h
 | slc c =>
  have h:wzmw c' c m=some x:=h
  unfold wzmw at h
  split at h
  ·rename_i e _; subst e; cases h; rfl
  ·cases h
theorem wzot [TabOk]:∀ (c:CT) (l:List CT) (v:List SV) (r:RowC c.T l),wzl3 c l v=some r→Rvs v (wzov c l r)
 | c,[],v,r,h=>by obtain ⟨u,rfl,h⟩:=wzkd (f:=ofW c) h; exact ⟨wzsm h,trivial⟩
 | c,d :: l,v,r,h=>by
  obtain ⟨y,q,rfl,h1,h2⟩:=wzmf (f:=ofW c) (g:=wzl3 d l) h
  exact ⟨wzsm h1,wzot d l q r.2 h2⟩
theorem wzsn [TabOk] {l:List CT} {v:List SV} {r:Row l} (h:wzmq l v=some r):Rvs v (rowW l r):=by
 cases l with
 | nil=>rw [wzmz h]; exact trivial
 | cons c l=>exact wzot c l v r h
theorem wzwm {x y:SV} {l m:List SV} (h:W (emS x) (emS y)) (hx:x.cells=some l) (hy:y.cells=some m):Ws (emL l) (emL m):=by
 cases x<;>simp only [SV.cells] at hx<;>cases hx<;>cases y<;>simp only [SV.cells] at hy<;>cases hy<;>first
  | exact ⟨h,trivial⟩
  | exact qzqa.1 h
  | (exfalso; simp only [emS,slcV] at h; cases h; done)
theorem wztj (c:CT) (x:c.T):(wT c x).cells=some (wzj2 c x):=by cases c<;>rfl
theorem wzvd {v:SV} {a:AVal} (h:eqA1 v a=true):emS v=a:=by
  cases v<;>cases a<;>simp only [eqA1] at h<;>first
    | (cases h; done)
    | rfl
    | (rename_i k n k' m
       by_cases e:k=k'
       · rw [if_pos e] at h; subst e; rw [of_decide_eq_true h]; rfl
       · rw [if_neg e] at h; cases h)
    | (rename_i a b; rw [wzq9.1 h]; rfl)
    | (rename_i a b; rw [of_decide_eq_true h]; rfl)
section
variable {E:Nat→AVal} {P:Program} {φ0 φ1:Phi} {T0 T1:TSt} {ob:List (Nat×OH)}
inductive Sl1 (T0 T1:TSt) (ob:List (Nat×OH)) (i:Nat):TV→Prop where
 | k (h:i∉T1.w) (k:kpP T0 T1 (wzin T0.t i)=true):Sl1 T0 T1 ob i (wzin T0.t i)
 | v (x0 x:SV) (h:wzin T1.t i=.v (.s x0)) (w:W (emS x0) (emS x)):Sl1 T0 T1 ob i (.v (.s x))
 | own (id st:Nat) (h:wzin T1.t i=.v (.own id st)) (k:curW T1 id st=true) (o:wzmg id ob=true):Sl1 T0 T1 ob i (.v (.own id T0.nx))
 | own0 (id:Nat) (h:wzin T1.t i=.v (.s .nil)) (k:∀ st o,wzip T1.h id=some (st,o)→o=.gone) (o:wzmg id ob=true):Sl1 T0 T1 ob i (.v (.own id T0.nx))
 | vec (id st:Nat) (h:wzin T1.t i=.v (.vec id st)) (k:curO T1 id st=true) (o:wzo4 id ob=true):Sl1 T0 T1 ob i (.v (.vec id T0.nx))
 | ptr (id st off:Nat) (h:wzin T1.t i=.v (.ptr id st off)) (k:curO T1 id st=true):Sl1 T0 T1 ob i (.v (.ptr id T0.nx off))
theorem wzj1 {i j:Nat} {s:SH} {sl:List (Nat×SH)} {y:TV} {L:List (Nat×TV)} (h1:j=i→Sl1 T0 T1 ob i y) (h2:(hasK i sl=false∧wzin L i=.v (.s .top))∨Sl1 T0 T1 ob i (wzin L i)) :
  (hasK i ((j,s) :: sl)=false∧wzin ((j,y) :: L) i=.v (.s .top))∨Sl1 T0 T1 ob i (wzin ((j,y) :: L) i):=by
 rw [wzit,wzis]
 by_cases h:j=i
 ·rw [if_pos h,if_pos h]; exact .inr (h1 h)
 ·rw [if_neg h,if_neg h]; exact h2
theorem wzk6 {i:Nat} {rest:List SV}:∀ {sl:List (Nat×SH)} {a a':List SV},svS T1 sl=some a→chS T0 T1 ob sl=true→Rvs a a' →
  (hasK i sl=false∧wzin (rbS T0 sl (a'++rest)) i=.v (.s .top))∨Sl1 T0 T1 ob i (wzin (rbS T0 sl (a'++rest)) i)
 | [],a,a',_,_,_=>.inl ⟨rfl,rfl⟩
 | (j,.k) :: sl,a,a',h1,h2,h3=>by
  have h2:kond (memN j T1.w) false (kond (kpP T0 T1 (wzin T0.t j)) (chS T0 T1 ob sl) false)=true:=h2
  obtain ⟨p1,h2⟩:=wzo9 h2
  obtain ⟨p2,h2⟩:=wzix h2
  exact wzj1 (s:=.k) (fun e=>by subst e; exact .k (wzn1 p1) p2) (wzk6 (sl:=sl) h1 h2 h3)
 | (j,.v c) :: sl,a,a',h1,h2,h3=>by
  simp only [svS] at h1
  split at h1
  ·rename_i v r q1 q2
   cases h1
   cases a' with
   | nil=>exact h3.elim
   | cons y a'=>exact wzj1 (s:=.v c) (fun e=>by subst e; exact .v v y q1 h3.1.1) (wzk6 (sl:=sl) q2 h2 h3.2)
  ·cases h1
 | (j,.c b) :: sl,a,a',h1,h2,h3=>by
  simp only [chS] at h2
  split at h2
  ·rename_i v q1
   obtain ⟨p1,h2⟩:=wzix h2
   have p1:=wzvd p1
   have ih:=wzk6 (i:=i) (rest:=rest) (sl:=sl) h1 h2 h3
   show (_∧wzin ((match ofA1 b with | some x=>(j,.v (.s x)) | none=>(j,.v (.s .top))) :: rbS T0 sl (a'++rest)) i=_)∨Sl1 T0 T1 ob i (wzin ((match ofA1 b with | some x=>(j,.v (.s x)) | none=>(j,.v (.s .top))) :: rbS T0 sl (a'++rest)) i)
   cases hb:ofA1 b with
   | none=>exact wzj1 (s:=.c b) (fun e=>by subst e; exact .v v .top q1 (.top _)) ih
   | some x=>exact wzj1 (s:=.c b) (fun e=>by subst e; exact .v v x q1 (by rw [p1,wzp1 hb]; exact .refl _)) ih
  ·cases h2
 | (j,.own id) :: sl,a,a',h1,h2,h3=>by
  simp only [chS] at h2
  split at h2
  ·rename_i id' st q1
   obtain ⟨p1,h2⟩:=wzix h2
   obtain ⟨p2,h2⟩:=wzix h2
   obtain ⟨p3,h2⟩:=wzix h2
   have p2:=wzir.1 p2
   exact wzj1 (s:=.own id) (fun e=>by subst e; exact .own id st (by rw [q1,p2]) p3 p1) (wzk6 (sl:=sl) h1 h2 h3)
  ·rename_i q1
   split at h2
   ·rename_i st ho
    obtain ⟨p1,h2⟩:=wzix h2
    exact wzj1 (s:=.own id) (fun e=>by subst e; exact .own0 id q1 (fun st o e=>by rw [ho] at e; cases e; rfl) p1) (wzk6 (sl:=sl) h1 h2 h3)
   ·rename_i ho
    obtain ⟨p1,h2⟩:=wzix h2
    exact wzj1 (s:=.own id) (fun e=>by subst e; exact .own0 id q1 (fun st o e=>by rw [ho] at e; cases e) p1) (wzk6 (sl:=sl) h1 h2 h3)
   ·cases h2
  ·cases h2
 | (j,.vec id) :: sl,a,a',h1,h2,h3=>by
  simp only [chS] at h2
  split at h2
  ·rename_i id' st q1
   obtain ⟨p1,h2⟩:=wzix h2
   obtain ⟨p2,h2⟩:=wzix h2
   obtain ⟨p3,h2⟩:=wzix h2
   have p2:=wzir.1 p2
   exact wzj1 (s:=.vec id) (fun e=>by subst e; exact .vec id st (by rw [q1,p2]) p3 p1) (wzk6 (sl:=sl) h1 h2 h3)
  ·cases h2
 | (j,.ptr id off) :: sl,a,a',h1,h2,h3=>by
  simp only [chS] at h2
  split at h2
  ·rename_i id' st off' q1
   obtain ⟨p1,h2⟩:=wzix h2
   obtain ⟨p2,h2⟩:=wzix h2
   obtain ⟨p3,h2⟩:=wzix h2
   have p1:=wzir.1 p1
   have p2:=wzir.1 p2
   exact wzj1 (s:=.ptr id off) (fun e=>by subst e; exact .ptr id st off (by rw [q1,p1,p2]) p3) (wzk6 (sl:=sl) h1 h2 h3)
  ·cases h2
inductive Ob1 (T0 T1:TSt) (id:Nat):Option (Nat×TO)→Prop where
 | k0 (h:id∉T1.wo) (p:Nat×TO) (e:wzip T0.h id=some p):Ob1 T0 T1 id (some p)
 | k1 (h:id∉T1.wo) (e:wzip T0.h id=none):Ob1 T0 T1 id (some (T0.nx,.gone))
 | gone:Ob1 T0 T1 id (some (T0.nx,.gone))
 | box (st:Nat) (cs cs':List SV) (h:wzip T1.h id=some (st,.box cs)) (w:Ws (emL cs) (emL cs')):Ob1 T0 T1 id (some (T0.nx,.box cs'))
 | own (st:Nat) (c:CT) (m:List c.T) (h:wzip T1.h id=some (st,.own c m)):Ob1 T0 T1 id (some (T0.nx,.own c m))
 | own0 (c:CT) (h:∀ st o,wzip T1.h id=some (st,o)→o=.gone):Ob1 T0 T1 id (some (T0.nx,.own c []))
 | vec (st:Nat) (c:CT) (m:List c.T) (h:wzip T1.h id=some (st,.vec c m)):Ob1 T0 T1 id (some (T0.nx,.vec c m))
theorem wztt {i j:Nat} {s:OH} {ob:List (Nat×OH)} {y:Nat×TO} {L:List (Nat×Nat×TO)} (h1:j=i→Ob1 T0 T1 i (some y)) (h2:(hasK i ob=false∧wzip L i=none)∨Ob1 T0 T1 i (wzip L i)) :
  (hasK i ((j,s) :: ob)=false∧wzip ((j,y) :: L) i=none)∨Ob1 T0 T1 i (wzip ((j,y) :: L) i):=by
 rw [wzit,wziu]
 by_cases h:j=i
 ·rw [if_pos h,if_pos h]; exact .inr (h1 h)
 ·rw [if_neg h,if_neg h]; exact h2
theorem wzs1 [TabOk] {i:Nat}:∀ {ob:List (Nat×OH)} {b b':List SV},svO T1 ob=some b→chO T0 T1 ob=true→Rvs b b' →
  ((hasK i ob=false∧wzip (rbO T0 ob b') i=none)∨Ob1 T0 T1 i (wzip (rbO T0 ob b') i))∧(wzmg i ob=true→∃ c m,wzip (rbO T0 ob b') i=some (T0.nx,.own c m))∧(wzo4 i ob=true→∃ c m,wzip (rbO T0 ob b') i=some (T0.nx,.vec c m))
 | [],b,b',_,_,_=>⟨.inl ⟨rfl,rfl⟩,(fun h=>by cases h),fun h=>by cases h⟩
 | (j,s) :: ob,b,b',h1,h2,h3=>by
  have key:∃ y b2 b2',rbO T0 ((j,s) :: ob) b'=(j,y) :: rbO T0 ob b2'∧svO T1 ob=some b2∧Rvs b2 b2'∧chO T0 T1 ob=true∧(j=i→Ob1 T0 T1 i (some y))∧((∃ c,s=.own c)→∃ c m,y=(T0.nx,.own c m))∧((∃ c,s=.vec c)→∃ c m,y=(T0.nx,.vec c m)):=by
   cases s with
   | k =>
    have h2:kond (memN j T1.wo) false (chO T0 T1 ob)=true:=h2
    obtain ⟨p1,h2⟩:=wzo9 h2
    have e0:rbO T0 ((j,.k) :: ob) b'=(match wzip T0.h j with | some p=>(j,p) :: rbO T0 ob b' | none=>(j,T0.nx,.gone) :: rbO T0 ob b'):=rfl
    cases ho:wzip T0.h j with
    | none =>
     rw [ho] at e0
     exact ⟨_,_,_,e0,h1,h3,h2,fun e=>(by subst e; exact .k1 (wzn1 p1) ho),fun ⟨c,e⟩=>(by cases e),fun ⟨c,e⟩=>(by cases e)⟩
    | some p =>
     rw [ho] at e0
     exact ⟨_,_,_,e0,h1,h3,h2,fun e=>(by subst e; exact .k0 (wzn1 p1) p ho),fun ⟨c,e⟩=>(by cases e),fun ⟨c,e⟩=>(by cases e)⟩
   | gone=>exact ⟨_,_,_,rfl,h1,h3,h2,fun e=>.gone,fun ⟨c,e⟩=>(by cases e),fun ⟨c,e⟩=>(by cases e)⟩
   | box c =>
    simp only [svO] at h1
    split at h1
    ·rename_i st cs r q1 q2
     split at h1
     ·rename_i x q3
      cases h1
      cases b' with
      | nil=>exact h3.elim
      | cons y b' =>
       have e0:rbO T0 ((j,.box c) :: ob) (y :: b')=(match y.cells with | some cs=>(j,T0.nx,.box cs) | none=>(j,T0.nx,.gone)) :: rbO T0 ob b':=rfl
       cases hy:y.cells with
       | none =>
        rw [hy] at e0
        exact ⟨_,_,_,e0,q2,h3.2,h2,fun e=>.gone,fun ⟨c,e⟩=>(by cases e),fun ⟨c,e⟩=>(by cases e)⟩
       | some cs' =>
        rw [hy] at e0
        refine ⟨_,_,_,e0,q2,h3.2,h2,fun e=>?_,fun ⟨c,e⟩=>(by cases e),fun ⟨c,e⟩=>(by cases e)⟩
        subst e
        refine .box st cs cs' q1 ((wzke q3).1.trans ?_)
        rw [← wzk1]
        exact wzwm h3.1.1 (wztj c x) hy
     ·cases h1
    ·cases h1
   | own c =>
    simp only [svO] at h1
    split at h1
    ·rename_i st c' m r q1 q2
     cases h1
     cases b' with
     | nil=>exact h3.elim
     | cons y b' =>
      have hy:=h3.1.2 c' m rfl
      subst hy
      exact ⟨(T0.nx,.own c' m),_,_,rfl,q2,h3.2,h2,fun e=>(by subst e; exact .own st c' m q1),fun _=>⟨c',m,rfl⟩,fun ⟨c,e⟩=>(by cases e)⟩
    ·rename_i st r q1 q2
     cases h1
     cases b' with
     | nil=>exact h3.elim
     | cons y b' =>
      have hy:=h3.1.2 c [] rfl
      subst hy
      exact ⟨(T0.nx,.own c []),_,_,rfl,q2,h3.2,h2,fun e=>(by subst e; exact .own0 c (fun st o e=>by rw [q1] at e; cases e; rfl)),fun _=>⟨c,[],rfl⟩,fun ⟨c,e⟩=>(by cases e)⟩
    ·rename_i r q1 q2
     cases h1
     cases b' with
     | nil=>exact h3.elim
     | cons y b' =>
      have hy:=h3.1.2 c [] rfl
      subst hy
      exact ⟨(T0.nx,.own c []),_,_,rfl,q2,h3.2,h2,fun e=>(by subst e; exact .own0 c (fun st o e=>by rw [q1] at e; cases e)),fun _=>⟨c,[],rfl⟩,fun ⟨c,e⟩=>(by cases e)⟩
    ·cases h1
   | vec c =>
    simp only [svO] at h1
    split at h1
    ·rename_i st c' m r q1 q2
     cases h1
     cases b' with
     | nil=>exact h3.elim
     | cons y b' =>
      have hy:=h3.1.2 c' m rfl
      subst hy
      exact ⟨(T0.nx,.vec c' m),_,_,rfl,q2,h3.2,h2,fun e=>(by subst e; exact .vec st c' m q1),fun ⟨c,e⟩=>(by cases e),fun _=>⟨c',m,rfl⟩⟩
    ·cases h1
  obtain ⟨y,b2,b2',k1,k2,k3,k4,k5,k6,k7⟩:=key
  obtain ⟨r1,r2,r3⟩:=wzs1 (i:=i) k2 k4 k3
  rw [k1]
  refine ⟨wztt k5 r1,fun h=>?_,fun h=>?_⟩
  ·have h:kond (Nat.beq j i) (match (generalizing:=false) s with | .own _=>true | _=>false) (wzmg i ob)=true:=h
   rw [wziu]
   cases hj:Nat.beq j i
   ·rw [hj] at h
    rw [if_neg (wzmb.1 hj)]
    exact r2 h
   ·rw [hj] at h
    rw [if_pos (wzir.1 hj)]
    obtain ⟨c,m,e⟩:=k6 (by cases s<;>first | exact ⟨_,rfl⟩ | cases h)
    exact ⟨c,m,by rw [e]⟩
  ·have h:kond (Nat.beq j i) (match (generalizing:=false) s with | .vec _=>true | _=>false) (wzo4 i ob)=true:=h
   rw [wziu]
   cases hj:Nat.beq j i
   ·rw [hj] at h
    rw [if_neg (wzmb.1 hj)]
    exact r3 h
   ·rw [hj] at h
    rw [if_pos (wzir.1 hj)]
    obtain ⟨c,m,e⟩:=k7 (by cases s<;>first | exact ⟨_,rfl⟩ | cases h)
    exact ⟨c,m,by rw [e]⟩
theorem wzn7 {l:List (Nat×OH)}:∀ {h:List (Nat×Nat×TO)} {i:Nat},wzoq l h=true→hasK i l=false→wzip h i=none
 | [],i,_,_=>rfl
 | p :: r,i,h,k=>by
  have h:kond (hasK p.1 l) (wzoq l r) false=true:=h
  obtain ⟨h1,h2⟩:=wzix h
  rw [wziu,if_neg (fun e=>by rw [e,k] at h1; cases h1)]
  exact wzn7 h2 k
theorem wzk5 {i:Nat}:∀ {sl:List (Nat×SH)} {v:List SV},hasK i sl=false→wzin (rbS T0 sl v) i=.v (.s .top)
 | [],v,_=>rfl
 | (j,s) :: sl,v,h=>by
  rw [wzit] at h
  have hj:j≠i:=fun e=>by rw [if_pos e] at h; cases h
  rw [if_neg hj] at h
  cases s with
  | k=>show wzin ((j,_) :: rbS T0 sl v) i=_; rw [wzis,if_neg hj]; exact wzk5 h
  | v c =>
   cases v with
   | nil=>exact wzk5 (sl:=sl) (v:=[]) h
   | cons x v=>show wzin ((j,_) :: rbS T0 sl v) i=_; rw [wzis,if_neg hj]; exact wzk5 h
  | c a =>
   show wzin ((match ofA1 a with | some x=>(j,.v (.s x)) | none=>(j,.v (.s .top))) :: rbS T0 sl v) i=_
   cases ofA1 a<;>(show wzin ((j,_) :: rbS T0 sl v) i=_; rw [wzis,if_neg hj]; exact wzk5 h)
  | own id=>show wzin ((j,_) :: rbS T0 sl v) i=_; rw [wzis,if_neg hj]; exact wzk5 h
  | vec id=>show wzin ((j,_) :: rbS T0 sl v) i=_; rw [wzis,if_neg hj]; exact wzk5 h
  | ptr id off=>show wzin ((j,_) :: rbS T0 sl v) i=_; rw [wzis,if_neg hj]; exact wzk5 h
theorem wzk2 {i:Nat} {w:List Nat}:∀ {sl:List (Nat×SH)} {v:List SV},i∉setW sl w→i∉w∧(hasK i sl=true→wzin (rbS T0 sl v) i=wzin T0.t i)
 | [],v,h=>⟨h,fun e=>by cases e⟩
 | (j,.k) :: sl,v,h=>by
  obtain ⟨h1,h2⟩:=wzk2 (sl:=sl) (v:=v) h
  refine ⟨h1,fun e=>?_⟩
  show wzin ((j,wzin T0.t j) :: rbS T0 sl v) i=_
  rw [wzis]
  rw [wzit] at e
  by_cases hj:j=i
  ·subst hj; rw [if_pos rfl]
  ·rw [if_neg hj] at e ⊢; exact h2 e
 | (j,.v c) :: sl,v,h=>by
  have h:i∉j :: setW sl w:=h
  simp only [List.mem_cons,not_or] at h
  cases v with
  | nil =>
   obtain ⟨h1,h2⟩:=wzk2 (sl:=sl) (v:=[]) h.2
   refine ⟨h1,fun e=>?_⟩
   rw [wzit,if_neg (fun e=>h.1 e.symm)] at e
   exact h2 e
  | cons x v =>
   obtain ⟨h1,h2⟩:=wzk2 (sl:=sl) (v:=v) h.2
   refine ⟨h1,fun e=>?_⟩
   rw [wzit,if_neg (fun e=>h.1 e.symm)] at e
   show wzin ((j,_) :: rbS T0 sl v) i=_
   rw [wzis,if_neg (fun e=>h.1 e.symm)]
   exact h2 e
 | (j,.c a) :: sl,v,h=>by
  have h:i∉j :: setW sl w:=h
  simp only [List.mem_cons,not_or] at h
  obtain ⟨h1,h2⟩:=wzk2 (sl:=sl) (v:=v) h.2
  refine ⟨h1,fun e=>?_⟩
  rw [wzit,if_neg (fun e=>h.1 e.symm)] at e
  show wzin ((match ofA1 a with | some x=>(j,.v (.s x)) | none=>(j,.v (.s .top))) :: rbS T0 sl v) i=_
  cases ofA1 a<;>(show wzin ((j,_) :: rbS T0 sl v) i=_; rw [wzis,if_neg (fun e=>h.1 e.symm)]; exact h2 e)
 | (j,.own id) :: sl,v,h=>by
  have h:i∉j :: setW sl w:=h
  simp only [List.mem_cons,not_or] at h
  obtain ⟨h1,h2⟩:=wzk2 (sl:=sl) (v:=v) h.2
  refine ⟨h1,fun e=>?_⟩
  rw [wzit,if_neg (fun e=>h.1 e.symm)] at e
  show wzin ((j,_) :: rbS T0 sl v) i=_
  rw [wzis,if_neg (fun e=>h.1 e.symm)]; exact h2 e
 | (j,.vec id) :: sl,v,h=>by
  have h:i∉j :: setW sl w:=h
  simp only [List.mem_cons,not_or] at h
  obtain ⟨h1,h2⟩:=wzk2 (sl:=sl) (v:=v) h.2
  refine ⟨h1,fun e=>?_⟩
  rw [wzit,if_neg (fun e=>h.1 e.symm)] at e
  show wzin ((j,_) :: rbS T0 sl v) i=_
  rw [wzis,if_neg (fun e=>h.1 e.symm)]; exact h2 e
 | (j,.ptr id off) :: sl,v,h=>by
  have h:i∉j :: setW sl w:=h
  simp only [List.mem_cons,not_or] at h
  obtain ⟨h1,h2⟩:=wzk2 (sl:=sl) (v:=v) h.2
  refine ⟨h1,fun e=>?_⟩
  rw [wzit,if_neg (fun e=>h.1 e.symm)] at e
  show wzin ((j,_) :: rbS T0 sl v) i=_
  rw [wzis,if_neg (fun e=>h.1 e.symm)]; exact h2 e
theorem wzog {i:Nat} {sl:List (Nat×SH)}:∀ {t:List (Nat×TV)} {w:List Nat},i∉wzme sl t w→i∉w∧(hasK i sl=false→wzin t i=.v (.s .top))
 | [],w,h=>⟨h,fun _=>rfl⟩
 | p :: l,w,h=>by
  have h:i∉kond (hasK p.1 sl) (wzme sl l w) (p.1 :: wzme sl l w):=h
  cases hp:hasK p.1 sl<;>rw [hp] at h
  ·have h:i∉p.1 :: wzme sl l w:=h
   simp only [List.mem_cons,not_or] at h
   obtain ⟨h1,h2⟩:=wzog h.2
   exact ⟨h1,fun e=>by rw [wzis,if_neg (fun e=>h.1 e.symm)]; exact h2 e⟩
  ·obtain ⟨h1,h2⟩:=wzog (t:=l) h
   exact ⟨h1,fun e=>by rw [wzis,if_neg (fun e'=>by rw [e',e] at hp; cases hp)]; exact h2 e⟩
theorem wzja {i:Nat} {w:List Nat}:∀ {ob:List (Nat×OH)} {v:List SV},i∉wzkb ob w→i∉w∧(hasK i ob=true→wzip (rbO T0 ob v) i=match wzip T0.h i with | some p=>some p | none=>some (T0.nx,.gone))
 | [],v,h=>⟨h,fun e=>by cases e⟩
 | (j,.k) :: ob,v,h=>by
  obtain ⟨h1,h2⟩:=wzja (ob:=ob) (v:=v) h
  refine ⟨h1,fun e=>?_⟩
  rw [wzit] at e
  have e0:rbO T0 ((j,.k) :: ob) v=(match wzip T0.h j with | some p=>(j,p) :: rbO T0 ob v | none=>(j,T0.nx,.gone) :: rbO T0 ob v):=rfl
  rw [e0]
  by_cases hj:j=i
  ·subst hj
   cases wzip T0.h j<;>simp only [wziu,if_true]
  ·rw [if_neg hj] at e
   have:=h2 e
   cases wzip T0.h j<;>(simp only [wziu]; rw [if_neg hj]; exact this)
 | (j,.gone) :: ob,v,h=>by
  have h:i∉j :: wzkb ob w:=h
  simp only [List.mem_cons,not_or] at h
  obtain ⟨h1,h2⟩:=wzja (ob:=ob) (v:=v) h.2
  refine ⟨h1,fun e=>?_⟩
  rw [wzit,if_neg (fun e=>h.1 e.symm)] at e
  show wzip ((j,_) :: rbO T0 ob v) i=_
  rw [wziu,if_neg (fun e=>h.1 e.symm)]; exact h2 e
 | (j,.box c) :: ob,v,h=>by
  have h:i∉j :: wzkb ob w:=h
  simp only [List.mem_cons,not_or] at h
  refine ⟨(wzja (ob:=ob) (v:=v) h.2).1,fun e=>?_⟩
  rw [wzit,if_neg (fun e=>h.1 e.symm)] at e
  cases v with
  | nil=>show wzip ((j,_) :: rbO T0 ob []) i=_; rw [wziu,if_neg (fun e=>h.1 e.symm)]; exact (wzja (ob:=ob) (v:=[]) h.2).2 e
  | cons x v =>
   show wzip ((match x.cells with | some cs=>(j,T0.nx,.box cs) | none=>(j,T0.nx,.gone)) :: rbO T0 ob v) i=_
   cases x.cells<;>(simp only [wziu]; rw [if_neg (fun e=>h.1 e.symm)]; exact (wzja (ob:=ob) (v:=v) h.2).2 e)
 | (j,.own c) :: ob,v,h=>by
  have h:i∉j :: wzkb ob w:=h
  simp only [List.mem_cons,not_or] at h
  refine ⟨(wzja (ob:=ob) (v:=v) h.2).1,fun e=>?_⟩
  rw [wzit,if_neg (fun e=>h.1 e.symm)] at e
  cases v with
  | nil=>show wzip ((j,_) :: rbO T0 ob []) i=_; rw [wziu,if_neg (fun e=>h.1 e.symm)]; exact (wzja (ob:=ob) (v:=[]) h.2).2 e
  | cons x v=>cases x<;>(show wzip ((j,_) :: rbO T0 ob v) i=_; rw [wziu,if_neg (fun e=>h.1 e.symm)]; exact (wzja (ob:=ob) (v:=v) h.2).2 e)
 | (j,.vec c) :: ob,v,h=>by
  have h:i∉j :: wzkb ob w:=h
  simp only [List.mem_cons,not_or] at h
  refine ⟨(wzja (ob:=ob) (v:=v) h.2).1,fun e=>?_⟩
  rw [wzit,if_neg (fun e=>h.1 e.symm)] at e
  cases v with
  | nil=>show wzip ((j,_) :: rbO T0 ob []) i=_; rw [wziu,if_neg (fun e=>h.1 e.symm)]; exact (wzja (ob:=ob) (v:=[]) h.2).2 e
  | cons x v=>cases x<;>(show wzip ((j,_) :: rbO T0 ob v) i=_; rw [wziu,if_neg (fun e=>h.1 e.symm)]; exact (wzja (ob:=ob) (v:=v) h.2).2 e)
theorem wzsx {i:Nat}:∀ {ob:List (Nat×OH)} {v:List SV},hasK i ob=false→wzip (rbO T0 ob v) i=none
 | [],v,_=>rfl
 | (j,s) :: ob,v,h=>by
  rw [wzit] at h
  have hj:j≠i:=fun e=>by rw [if_pos e] at h; cases h
  rw [if_neg hj] at h
  have c:∀ (y:Nat×TO) v,wzip ((j,y) :: rbO T0 ob v) i=none:=fun y v=>by rw [wziu,if_neg hj]; exact wzsx h
  cases s with
  | k =>
   show wzip (match wzip T0.h j with | some p=>(j,p) :: rbO T0 ob v | none=>(j,T0.nx,.gone) :: rbO T0 ob v) i=_
   cases wzip T0.h j<;>exact c _ _
  | gone=>exact c _ _
  | box d =>
   cases v with
   | nil=>exact c _ _
   | cons x v =>
    show wzip ((match x.cells with | some cs=>(j,T0.nx,.box cs) | none=>(j,T0.nx,.gone)) :: rbO T0 ob v) i=_
    cases x.cells<;>exact c _ _
  | own d=>cases v with
   | nil=>exact c _ _
   | cons x v=>cases x<;>exact c _ _
  | vec d=>cases v with
   | nil=>exact c _ _
   | cons x v=>cases x<;>exact c _ _
theorem wzl2 {i:Nat} {w:List Nat}:∀ {ob:List (Nat×OH)},i∉wzkb ob w→hasK i ob=true→chO T0 T1 ob=true→i∉T1.wo
 | [],_,h,_=>by cases h
 | (j,.k) :: ob,h1,h2,h3=>by
  have h3:kond (memN j T1.wo) false (chO T0 T1 ob)=true:=h3
  obtain ⟨p,h3⟩:=wzo9 h3
  rw [wzit] at h2
  by_cases hj:j=i
  ·subst hj; exact wzn1 p
  ·rw [if_neg hj] at h2; exact wzl2 (ob:=ob) h1 h2 h3
 | (j,.gone) :: ob,h1,h2,h3=>by
  have h1:i∉j :: wzkb ob w:=h1
  simp only [List.mem_cons,not_or] at h1
  rw [wzit,if_neg (fun e=>h1.1 e.symm)] at h2
  exact wzl2 (ob:=ob) h1.2 h2 h3
 | (j,.box _) :: ob,h1,h2,h3=>by
  have h1:i∉j :: wzkb ob w:=h1
  simp only [List.mem_cons,not_or] at h1
  rw [wzit,if_neg (fun e=>h1.1 e.symm)] at h2
  exact wzl2 (ob:=ob) h1.2 h2 h3
 | (j,.own _) :: ob,h1,h2,h3=>by
  have h1:i∉j :: wzkb ob w:=h1
  simp only [List.mem_cons,not_or] at h1
  rw [wzit,if_neg (fun e=>h1.1 e.symm)] at h2
  exact wzl2 (ob:=ob) h1.2 h2 h3
 | (j,.vec _) :: ob,h1,h2,h3=>by
  have h1:i∉j :: wzkb ob w:=h1
  simp only [List.mem_cons,not_or] at h1
  rw [wzit,if_neg (fun e=>h1.1 e.symm)] at h2
  exact wzl2 (ob:=ob) h1.2 h2 h3
theorem wzla:∀ {sl:List (Nat×SH)} {a:List SV},svS T1 sl=some a→a.length=nV sl
 | [],a,h=>by cases h; rfl
 | (j,.v c) :: sl,a,h=>by
  simp only [svS] at h
  split at h
  ·rename_i v r q1 q2
   cases h
   show r.length+1=nV sl+1
   rw [wzla q2]
  ·cases h
 | (j,.k) :: sl,a,h=>wzla (sl:=sl) h
 | (j,.c _) :: sl,a,h=>wzla (sl:=sl) h
 | (j,.own _) :: sl,a,h=>wzla (sl:=sl) h
 | (j,.vec _) :: sl,a,h=>wzla (sl:=sl) h
 | (j,.ptr _ _) :: sl,a,h=>wzla (sl:=sl) h
def phJ (φ0:Phi) (nx:Nat) (hh:qzl) (h:List (Nat×Nat×TO)):Phi:=fun id s=>if s=nx then ghoR ⟨0,0,fun _=>[]⟩ (hh id).ep (match wzip h id with | some (_,o)=>o | none=>.gone) else φ0 id s
theorem wzve {nx:Nat} {hh:qzl} {h:List (Nat×Nat×TO)}:Ext nx φ0 (phJ φ0 nx hh h):=fun id s hs=>by unfold phJ; rw [if_neg (by omega)]
theorem wzlq {nx id:Nat} {hh:qzl} {h:List (Nat×Nat×TO)}:(phJ φ0 nx hh h id nx).ep=(hh id).ep:=by unfold phJ; rw [if_pos rfl,wzpp]
theorem wzo7 {nx id st:Nat} {hh:qzl} {h:List (Nat×Nat×TO)} {o:TO} (e:wzip h id=some (st,o)):phJ φ0 nx hh h id nx=ghoR ⟨0,0,fun _=>[]⟩ (hh id).ep o:=by unfold phJ; rw [if_pos rfl,e]
theorem wzrq {T:TSt} {id st:Nat} (h:curO T id st=true):∃ o,wzip T.h id=some (st,o):=by
 unfold curO at h
 split at h
 ·rename_i st' o e; rw [e,wzir.1 h]; exact ⟨o,rfl⟩
 ·cases h
theorem wzvj {T:TSt} {id st:Nat} (h:curW T id st=true):∃ c l,wzip T.h id=some (st,.own c l):=by
 unfold curW at h
 split at h
 ·rename_i st' c l e; rw [e,wzir.1 h]; exact ⟨c,l,rfl⟩
 ·cases h
theorem wzv1 {T:TSt} {x:TV} (h:kpP T0 T x=true) (hs:StP T0.nx x.pv) {φ:Phi} {T':TSt} (hn:T0.nx≤T'.nx):TOk φ T' x:=by
 cases x with
 | v x =>
  refine ⟨wzls hn hs,?_⟩
  cases x<;>first | exact trivial | cases h
 | cnd a b c x=>cases h
theorem wzp9 [TabOk] (hI0:InvT φ0 T0) (hL:Log φ0 (cl0 T0) φ1 T1) (hI1:InvT φ1 T1) {H:OutH} {r:Row H.cts} (hA:arrT T0 T1 H=some r) :
  ∃ φ',InvT φ' (rebT T0 H r)∧Log φ0 T0 φ' (rebT T0 H r)∧See E (em φ1 T1) (em φ' (rebT T0 H r)):=by
 unfold arrT at hA
 split at hA
 ·rename_i a b ha hb
  replace hA:=wziq hA
  obtain ⟨hc1,hA⟩:=hA
  replace hA:=wziq hA
  obtain ⟨hc2,hA⟩:=hA
  replace hA:=wziq hA
  obtain ⟨hc3,hA⟩:=hA
  replace hA:=wziq hA
  obtain ⟨hc4,hA⟩:=hA
  replace hA:=wziq hA
  obtain ⟨hc5,hA⟩:=hA
  obtain ⟨a',b',hv,ra,rb,hl⟩:=(wzsn hA).split
  have hdrop:(rowW H.cts r).drop (nV H.sl)=b':=by rw [hv,← wzla ha,← hl]; simp
  have eT0:(rebT T0 H r).t=rbS T0 H.sl (a'++b'):=by rw [← hv]; rfl
  have eH0:(rebT T0 H r).h=rbO T0 H.ob b':=by rw [← hdrop]; rfl
  have sl1:=fun i=>wzk6 (i:=i) (rest:=b') ha hc1 ra
  have ob1:=fun i=>wzs1 (i:=i) hb hc2 rb
  have hsl:∀ i,i∉T1.w→eT φ1 (wzin T1.t i)=eT φ0 (wzin T0.t i):=fun i hi=>(hL.sl i hi).2
  have hob:∀ i,i∉T1.wo→hO φ1 i (wzip T1.h i)=hO φ0 i (wzip T0.h i):=fun i hi=>(hL.ob i hi).2
  have hnx:T0.nx≤(rebT T0 H r).nx:=Nat.le_succ _
  have hext:Ext T0.nx φ0 (phJ φ0 T0.nx (em φ1 T1).h (rbO T0 H.ob b')):=wzve
  have st0:∀ i st o,wzip T0.h i=some (st,o)→st < T0.nx:=fun i st o h=>(hI0.ob _ _ _ h).1
  have tok:∀ i y,Sl1 T0 T1 H.ob i y→TOk (phJ φ0 T0.nx (em φ1 T1).h (rbO T0 H.ob b')) (rebT T0 H r) y:=by
   intro i y h
   cases h with
   | k h k=>exact wzv1 k (wznf (hI0.sl i)) hnx
   | v=>exact ⟨trivial,trivial⟩
   | own=>exact ⟨Nat.lt_succ_self _,trivial⟩
   | own0=>exact ⟨Nat.lt_succ_self _,trivial⟩
   | vec=>exact ⟨Nat.lt_succ_self _,trivial⟩
   | ptr=>exact ⟨Nat.lt_succ_self _,trivial⟩
  have epO:∀ i st o,wzip T1.h i=some (st,o)→((em φ1 T1).h i).ep=(φ1 i st).ep:=fun i st o h=>by rw [wzpa h,wzqd]
  have objW:∀ i,WO (hO φ1 i (wzip T1.h i)) (hO (phJ φ0 T0.nx (em φ1 T1).h (rbO T0 H.ob b')) i (wzip (rbO T0 H.ob b') i)):=by
   intro i
   rcases (ob1 i).1 with ⟨h1,h2⟩ | h
   ·rw [h2,wzn7 hc3 h1]; exact qzhs.2 trivial
   ·have hg:WO (hO φ1 i (wzip T1.h i)) (hO (phJ φ0 T0.nx (em φ1 T1).h (rbO T0 H.ob b')) i (some (T0.nx,.gone))):=by
     show WO _ (AObj.gone (phJ φ0 T0.nx (em φ1 T1).h (rbO T0 H.ob b') i T0.nx).ep)
     rw [wzlq,qzj1,em_h]
    generalize wzip (rbO T0 H.ob b') i=p0 at h ⊢
    cases h with
    | k0 h p e =>
     rw [hob i h,e]
     obtain ⟨st,o⟩:=p
     show WO (eO (φ0 i st).ep o) (eO (phJ φ0 T0.nx (em φ1 T1).h (rbO T0 H.ob b') i st).ep o)
     rw [hext i st (st0 _ _ _ e)]
     exact qzhs.2 trivial
    | k1 h e=>exact hg
    | gone=>exact hg
    | box st cs cs' h w =>
     rw [h]
     show WO (.box (φ1 i st).ep (emL cs)) (.box (phJ φ0 T0.nx (em φ1 T1).h (rbO T0 H.ob b') i T0.nx).ep (emL cs'))
     rw [wzlq,epO _ _ _ h]
     exact qzmh.2 ⟨rfl,w⟩
    | own st c m h =>
     rw [h]
     show WO (eO (φ1 i st).ep (.own c m)) (eO (phJ φ0 T0.nx (em φ1 T1).h (rbO T0 H.ob b') i T0.nx).ep (.own c m))
     rw [wzlq,epO _ _ _ h]
     exact qzhs.2 trivial
    | own0 c h=>exact hg
    | vec st c m h =>
     rw [h]
     show WO (eO (φ1 i st).ep (.vec c m)) (eO (phJ φ0 T0.nx (em φ1 T1).h (rbO T0 H.ob b') i T0.nx).ep (.vec c m))
     rw [wzlq,epO _ _ _ h]
     exact qzhs.2 trivial
  refine ⟨phJ φ0 T0.nx (em φ1 T1).h (rbO T0 H.ob b'),⟨fun i=>?_,fun i hi=>?_,fun i st o ho=>?_⟩,⟨rfl,hnx,hext,fun i hi=>?_,fun i hi=>?_⟩,wzuf hL.n.symm (fun i=>?_) fun i=>?_⟩
  ·rw [eT0]
   rcases sl1 i with ⟨h1,h2⟩ | h
   ·rw [h2]; exact ⟨trivial,trivial⟩
   ·exact tok i _ h
  ·rw [eT0]
   exact wzk5 (wzs6 hi hc5)
  ·rw [eH0] at ho
   have key:st=T0.nx→st < (rebT T0 H r).nx∧OkO (phJ φ0 T0.nx (em φ1 T1).h (rbO T0 H.ob b') i st) o:=fun e=>by
    subst e
    exact ⟨Nat.lt_succ_self _,by rw [wzo7 ho]; exact wzrj⟩
   rcases (ob1 i).1 with ⟨h1,h2⟩ | h
   ·rw [h2] at ho; cases ho
   ·rw [ho] at h
    generalize hp:some (st,o)=p at h
    cases h with
    | k0 h p e =>
     cases hp
     have h1:=st0 _ _ _ e
     exact ⟨Nat.lt_of_lt_of_le h1 hnx,wzpj hext h1 (hI0.ob _ _ _ e).2⟩
    | k1 h e=>cases hp; exact key rfl
    | gone=>cases hp; exact key rfl
    | box st cs cs' h w=>cases hp; exact key rfl
    | own st c m h=>cases hp; exact key rfl
    | own0 c h=>cases hp; exact key rfl
    | vec st c m h=>cases hp; exact key rfl
  ·have hi:i∉setW H.sl (wzme H.sl T0.t T0.w):=hi
   obtain ⟨h1,h2⟩:=wzk2 (T0:=T0) (v:=a'++b') hi
   obtain ⟨h3,h4⟩:=wzog h1
   refine ⟨h3,?_⟩
   rw [eT0]
   cases hk:hasK i H.sl
   ·rw [wzk5 hk,h4 hk]; rfl
   ·rw [h2 hk]
    exact wzml hext (wznf (hI0.sl i))
  ·have hi:i∉wzkb H.ob T0.wo:=hi
   obtain ⟨h1,h2⟩:=wzja (T0:=T0) (v:=b') hi
   refine ⟨h1,?_⟩
   rw [eH0]
   cases hk:hasK i H.ob
   ·rw [wzsx hk,wzn7 hc4 hk]; rfl
   ·rw [h2 hk]
    cases ho:wzip T0.h i with
    | some p =>
     obtain ⟨st,o⟩:=p
     show eO _ o=eO _ o
     rw [hext i st (st0 _ _ _ ho)]
    | none =>
     show AObj.gone (phJ φ0 T0.nx (em φ1 T1).h (rbO T0 H.ob b') i T0.nx).ep=.gone 0
     rw [wzlq,em_h]
     have:=wzl2 (T0:=T0) (T1:=T1) hi hk hc2
     rw [hob i this,ho]; rfl
  ·rw [eT0]
   rcases sl1 i with ⟨h1,h2⟩ | h
   ·rw [h2]; exact .top _
   ·generalize wzin (rbS T0 H.sl (a'++b')) i=y at h
    cases h with
    | k h k=>rw [hsl i h,wzml hext (wznf (hI0.sl i))]; exact .refl _
    | v x0 x h w=>rw [h]; exact w
    | own id st h k o =>
     obtain ⟨c,l,ho⟩:=wzvj k
     obtain ⟨c',m,hr⟩:=(ob1 id).2.1 o
     rw [h]
     show W (match (φ1 id st).n with | 0=>AVal.nils | n+1=>.vec id (φ1 id st).ep 0 (n+1)) (match (phJ φ0 T0.nx (em φ1 T1).h (rbO T0 H.ob b') id T0.nx).n with | 0=>.nils | n+1=>.vec id (phJ φ0 T0.nx (em φ1 T1).h (rbO T0 H.ob b') id T0.nx).ep 0 (n+1))
     have hn:(φ1 id st).n=l.length:=(hI1.ob _ _ _ ho).2.1
     have hm:(phJ φ0 T0.nx (em φ1 T1).h (rbO T0 H.ob b') id T0.nx).n=l.length:=by
      rw [wzo7 hr]
      show m.length=l.length
      rcases (ob1 id).1 with ⟨_,q⟩ | h
      ·rw [q] at hr; cases hr
      ·rw [hr] at h
       generalize hp:some (T0.nx,TO.own c' m)=p at h
       cases h with
       | k0 h p e=>cases hp; exact absurd (st0 _ _ _ e) (Nat.lt_irrefl _)
       | k1 h e=>cases hp
       | gone=>cases hp
       | box st cs cs' h w=>cases hp
       | own st c m h=>cases hp; rw [ho] at h; cases h; rfl
       | own0 c h=>cases h _ _ ho
       | vec st c m h=>cases hp
     rw [hn,hm,wzlq,epO _ _ _ ho]
     exact .refl _
    | own0 id h k o =>
     obtain ⟨c',m,hr⟩:=(ob1 id).2.1 o
     rw [h]
     show W AVal.nils (match (phJ φ0 T0.nx (em φ1 T1).h (rbO T0 H.ob b') id T0.nx).n with | 0=>.nils | n+1=>.vec id (phJ φ0 T0.nx (em φ1 T1).h (rbO T0 H.ob b') id T0.nx).ep 0 (n+1))
     have hm:(phJ φ0 T0.nx (em φ1 T1).h (rbO T0 H.ob b') id T0.nx).n=0:=by
      rw [wzo7 hr]
      show m.length=0
      rcases (ob1 id).1 with ⟨_,q⟩ | h
      ·rw [q] at hr; cases hr
      ·rw [hr] at h
       generalize hp:some (T0.nx,TO.own c' m)=p at h
       cases h with
       | k0 h p e=>cases hp; exact absurd (st0 _ _ _ e) (Nat.lt_irrefl _)
       | k1 h e=>cases hp
       | gone=>cases hp
       | box st cs cs' h w=>cases hp
       | own st c m h=>cases k _ _ h
       | own0 c h=>cases hp; rfl
       | vec st c m h=>cases hp
     rw [hm]
     exact .refl _
    | vec id st h k o =>
     obtain ⟨o1,ho⟩:=wzrq k
     obtain ⟨c',m,hr⟩:=(ob1 id).2.2 o
     rw [h]
     show W (.vec id (φ1 id st).ep 0 (φ1 id st).n) (.vec id (phJ φ0 T0.nx (em φ1 T1).h (rbO T0 H.ob b') id T0.nx).ep 0 (phJ φ0 T0.nx (em φ1 T1).h (rbO T0 H.ob b') id T0.nx).n)
     have hm:(phJ φ0 T0.nx (em φ1 T1).h (rbO T0 H.ob b') id T0.nx).n=(φ1 id st).n:=by
      rw [wzo7 hr]
      show m.length=_
      rcases (ob1 id).1 with ⟨_,q⟩ | h
      ·rw [q] at hr; cases hr
      ·rw [hr] at h
       generalize hp:some (T0.nx,TO.vec c' m)=p at h
       cases h with
       | k0 h p e=>cases hp; exact absurd (st0 _ _ _ e) (Nat.lt_irrefl _)
       | k1 h e=>cases hp
       | gone=>cases hp
       | box st cs cs' h w=>cases hp
       | own st c m h=>cases hp
       | own0 c h=>cases hp
       | vec st c m h=>cases hp; rw [ho] at h; cases h; exact (hI1.ob _ _ _ ho).2.1.symm
     rw [hm,wzlq,epO _ _ _ ho]
     exact .refl _
    | ptr id st off h k =>
     obtain ⟨o1,ho⟩:=wzrq k
     rw [h]
     show W (.ptr id (φ1 id st).ep off) (.ptr id (phJ φ0 T0.nx (em φ1 T1).h (rbO T0 H.ob b') id T0.nx).ep off)
     rw [wzlq,epO _ _ _ ho]
     exact .refl _
  ·rw [eH0]; exact objW i
 ·cases hA
end
end
end Go.Am

set_option linter.unusedVariables false
set_option linter.unusedSimpArgs false
namespace Go.Am
theorem wzre {α β:Type} {x:Option α} {f:α→Option β} {r:β} (h:bd x f=some r):∃ y,x=some y∧f y=some r:=by
 cases x with
 | none=>cases h
 | some y=>exact ⟨y,rfl,h⟩
theorem wztn {σ ω:Type} {body:σ→Option (σ⊕ω)} {N:Nat} {s:σ} {o:ω} (h:lpN body (N+1) s=some o):(∃ s',body s=some (.inl s')∧lpN body N s'=some o)∨body s=some (.inr o):=by
 unfold lpN at h
 split at h
 ·rename_i s' hb; exact .inl ⟨s',hb,h⟩
 ·rename_i o' hb; cases h; exact .inr hb
 ·cases h
section
variable {E:Nat→AVal} {P:Program}
theorem ATr.rw {f:FuncId} {args:List AVal} {h:qzl} {r:AVal} (H:ATr E P f args h (fun v _=>W v r)):ATr E P f args h (fun v _=>v=r) :=
 fun g w vs hh hv=>(H g w vs hh hv).mono fun _ _ ⟨g',h',v,u,q,e,rv,rest⟩=>⟨g',h',r,u,rfl,e,rv.w q,rest⟩
theorem wzso {S:ASt} {rs:List ARes} {l:List AVal} (h:rs.map (ARes.val S)=l):vz5 S rs=match (generalizing:=false) l with | [x]=>x | l=>.tup l:=by
 subst h
 match rs with
 | []=>rfl
 | [r]=>rfl
 | r :: s :: rs=>rfl
end
section
variable [Tab]
section
variable {E:Nat→AVal} {P:Program} {ρ:Option Nat} {φ:Phi} {T:TSt}
def FinT (E:Nat→AVal) {α:Type} (K:Exit→TSt→Option α) (r:α) (φ:Phi) (T:TSt) (e:Exit) (S:ASt):Prop :=
 ∃ φ' T',K e T'=some r∧InvT φ' T'∧Log φ T φ' T'∧T'.gs=[]∧See E S (em φ' T')
theorem FinT.step {α:Type} {K:Exit→TSt→Option α} {r:α} {φ1:Phi} {T1:TSt} {e:Exit} {S:ASt} (L:Log φ T φ1 T1) (h:FinT E K r φ1 T1 e S):FinT E K r φ T e S:=by
 obtain ⟨φ',T',k1,k2,k3,k4,k5⟩:=h
 exact ⟨φ',T',k1,k2,L.trans k3,k4,k5⟩
theorem wzro (hI:InvT φ T) (hg:T.gs=[]):InvT φ (cl0 T):=by
 refine ⟨fun i=>?_,hI.hi,hI.ob⟩
 have hx:=hI.sl i
 show TOk φ (cl0 T) (wzin T.t i)
 revert hx
 cases wzin T.t i with
 | v x=>exact fun h=>h
 | cnd a b c x =>
  rintro ⟨_,_,h,_⟩
  rw [hg] at h; cases h
theorem wzps {T1:TSt}:∀ {l:List OutH} {e:Exit} {y:OutT l} {α:Type} {K:Exit→TSt→Option α},injT T l e T1=some y→∃ H r,arrT T T1 H=some r∧aftT T K l y=K e (rebT T H r)
 | [],e,y,α,K,h=>by cases h
 | [H],e,y,α,K,h=>by
  obtain ⟨h1,h2⟩:=wziq (show kond (isE H.e e) (arrT T T1 H) none=some y from h)
  refine ⟨H,y,h2,?_⟩
  show K H.e.ex (rebT T H y)=_
  rw [isE_ex h1]
 | H :: H' :: l,e,y,α,K,h=>by
  have h:kond (isE H.e e) (match arrT T T1 H with | some r=>some (.inl r) | none=>none) (match injT T (H' :: l) e T1 with | some r=>some (.inr r) | none=>none)=some y:=h
  cases he:isE H.e e
  ·rw [he] at h
   have h:(match injT T (H' :: l) e T1 with | some r=>some (Sum.inr r) | none=>none)=some y:=h
   split at h
   ·rename_i r hr
    cases h
    obtain ⟨H1,r1,k1,k2⟩:=wzps (l:=H' :: l) (K:=K) hr
    exact ⟨H1,r1,k1,k2⟩
   ·cases h
  ·rw [he] at h
   have h:(match arrT T T1 H with | some r=>some (Sum.inl r) | none=>none)=some y:=h
   split at h
   ·rename_i r hr
    cases h
    refine ⟨H,r,hr,?_⟩
    show K H.e.ex (rebT T H r)=_
    rw [isE_ex he]
   ·cases h
where
 isE_ex {o:OE} {e:Exit} (h:isE o e=true):o.ex=e:=by
  cases o<;>cases e<;>first
   | rfl
   | (cases h; done)
   | (rename_i i j; rw [show i=j from wzir.1 h]; rfl)
theorem wzqt [TabOk] {c:qzk} {α:Type} {J:Option (List OutH)} {inner:(β:Type)→TSt→(Exit→TSt→Option β)→Option β} {K:Exit→TSt→Option α} {r:α} (h:wzr0 J T inner K=some r) (hI:InvT φ T) (hg:T.gs=[])
  (k:∀ {β:Type} {T:TSt} {K:Exit→TSt→Option β} {r:β},inner β T K=some r→InvT φ T→T.gs=[]→AW E ρ P c (FinT E K r φ T) (em φ T)):AW E ρ P c (FinT E K r φ T) (em φ T):=by
 cases J with
 | none=>exact k h hI hg
 | some l =>
  obtain ⟨y,h1,h2⟩:=wzre (show bd (inner (OutT l) (cl0 T) (injT T l)) (aftT T K l)=some r from h)
  refine (k (T:=cl0 T) h1 (wzro hI hg) rfl).mono ?_
  rintro e S ⟨φ1,T1,k1,k2,k3,k4,k5⟩
  obtain ⟨H,q,q1,q2⟩:=wzps (K:=K) k1
  obtain ⟨φ',j1,j2,j3⟩:=wzp9 (E:=E) hI k3 k2 q1
  exact ⟨φ',_,by rw [← q2]; exact h2,j1,j2,rfl,k5.trans j3⟩
theorem wzk7 {T1:TSt} {ob:List (Nat×OH)}:∀ {sl:List (Nat×SH)},chS T T1 ob sl=true→chS (cl0 T) T1 ob sl=true
 | [],_=>rfl
 | (i,.k) :: sl,h=>by
  have h:kond (memN i T1.w) false (kond (kpP T T1 (wzin T.t i)) (chS T T1 ob sl) false)=true:=h
  obtain ⟨p1,h⟩:=wzo9 h
  obtain ⟨p2,h⟩:=wzix h
  show kond (memN i T1.w) false (kond (kpP (cl0 T) T1 (wzin T.t i)) (chS (cl0 T) T1 ob sl) false)=true
  rw [p1,show kpP (cl0 T) T1 (wzin T.t i)=kpP T T1 (wzin T.t i) from rfl,p2,wzk7 h]; rfl
 | (i,.v c) :: sl,h=>wzk7 (sl:=sl) h
 | (i,.c a) :: sl,h=>by
  simp only [chS] at h ⊢
  split at h
  ·obtain ⟨p1,h⟩:=wzix h
   rw [p1,wzk7 h]; rfl
  ·cases h
 | (i,.own id) :: sl,h=>by
  simp only [chS] at h ⊢
  split at h
  ·obtain ⟨p1,h⟩:=wzix h
   obtain ⟨p2,h⟩:=wzix h
   obtain ⟨p3,h⟩:=wzix h
   rw [p1,p2,p3,wzk7 h]; rfl
  ·split at h
   ·obtain ⟨p1,h⟩:=wzix h
    rw [p1,wzk7 h]; rfl
   ·obtain ⟨p1,h⟩:=wzix h
    rw [p1,wzk7 h]; rfl
   ·cases h
  ·cases h
 | (i,.vec id) :: sl,h=>by
  simp only [chS] at h ⊢
  split at h
  ·obtain ⟨p1,h⟩:=wzix h
   obtain ⟨p2,h⟩:=wzix h
   obtain ⟨p3,h⟩:=wzix h
   rw [p1,p2,p3,wzk7 h]; rfl
  ·cases h
 | (i,.ptr id off) :: sl,h=>by
  simp only [chS] at h ⊢
  split at h
  ·obtain ⟨p1,h⟩:=wzix h
   obtain ⟨p2,h⟩:=wzix h
   obtain ⟨p3,h⟩:=wzix h
   rw [p1,p2,p3,wzk7 h]; rfl
  ·cases h
theorem wzmk {T1:TSt}:∀ {ob:List (Nat×OH)},chO T T1 ob=true→chO (cl0 T) T1 ob=true
 | [],_=>rfl
 | (i,.k) :: ob,h=>by
  have h:kond (memN i T1.wo) false (chO T T1 ob)=true:=h
  obtain ⟨p1,h⟩:=wzo9 h
  show kond (memN i T1.wo) false (chO (cl0 T) T1 ob)=true
  rw [p1,wzmk h]; rfl
 | (i,.gone) :: ob,h=>wzmk (ob:=ob) h
 | (i,.box _) :: ob,h=>wzmk (ob:=ob) h
 | (i,.own _) :: ob,h=>wzmk (ob:=ob) h
 | (i,.vec _) :: ob,h=>wzmk (ob:=ob) h
theorem wzq8 {T1:TSt} {H:OutH} {r:Row H.cts} (h:arrT T T1 H=some r):arrT (cl0 T) T1 H=some r:=by
 unfold arrT at h ⊢
 split at h
 ·rename_i a b ha hb
  replace h:=wziq h
  obtain ⟨p1,h⟩:=h
  replace h:=wziq h
  obtain ⟨p2,h⟩:=h
  simp only [ha,hb,wzk7 p1,wzmk p2,wzzt]
  exact h
 ·cases h
theorem wzvn {rs:List ARes} (hI:InvT φ T) (hg:T.gs=[]):∃ φ',InvT φ' (frzR rs T)∧Log φ T φ' (frzR rs T)∧(frzR rs T).gs=[]∧See E (em φ T) (em φ' (frzR rs T)):=by
 obtain ⟨φ',h1,h2,h3,h4⟩:=wzny (E:=E) (wzmh T false true (rs.map fun r=>match r with | .t n=>.t n | .c n _ _=>.t n)) hI
 exact ⟨φ',h1,h2,h3.trans hg,h4⟩
theorem wzjw [TabOk] {H:List Fc} (hH:∀ C∈H,FcOk E P C) {ty:List (Nat×CT)} {rs:List ARes}:∀ {c:qzk} {α:Type} {h:HT} {T:TSt} {K:Exit→TSt→Option α} {r:α} {φ:Phi},wzjp H ty rs c α h T K=some r→InvT φ T→T.gs=[]→AW E ρ P c (FinT E K r φ T) (em φ T)
 | .skip,α,h,T,K,r,φ,hc,hI,hg=>.skip ⟨φ,T,hc,hI,.refl _ _,hg,.refl _⟩
 | .reg false ops pr,α,h,T,K,r,φ,hc,hI,hg=>by
  obtain ⟨φ',T',k1,k2,k3,k4,k5⟩:=wzrc hH (ops:=ops) hc hI (.of hI hg)
  exact .sreg (k5 _ fun S' s=>⟨φ',T',k1,k2,k3,k4,s⟩)
 | .reg true ops pr,α,h,T,K,r,φ,hc,hI,hg=>by
  have hc:wzqa H ty ops none T (fun T' tr=>kond (hpOk pr tr) (K .normal (endT T')) none)=some r:=hc
  obtain ⟨φ',T',tr,k1,k2,k3,k4⟩:=wzqx hH hc hI (fun _ _ _ e=>by cases e)
  obtain ⟨p,k1⟩:=wziq k1
  obtain ⟨e1,e2,e3,e4⟩:=wzri (E:=E) k2 ((CW.of hI hg).log k3)
  exact .drawC (k4 _ ⟨p,φ',_,k1,e1,k3.trans e2,e3,e4⟩)
 | .seq a b,α,h,T,K,r,φ,hc,hI,hg=>by
  refine .seq ((wzjw hH (c:=a) hc hI hg).mono ?_)
  rintro e S ⟨φ1,T1,k1,k2,k3,k4,k5⟩
  cases e with
  | normal=>exact .see k5 ((wzjw hH (c:=b) k1 k2 k4).mono fun e S' q=>q.step k3)
  | _=>exact ⟨φ1,T1,k1,k2,k3,k4,k5⟩
 | .cond c a b,α,h,T,K,r,φ,hc,hI,hg=>by
  refine wzqt hc hI hg ?_
  intro β T K r hi hI hg
  split at hi
  ·rename_i x hx
   have hc:argv E (em φ T).t c=.bool x:=((wzmv hI).a _ _ hx).1
   cases x with
   | false =>
    have hi':∃ h',wzjp H ty rs b β h' T K=some r:=by cases c<;>exact ⟨_,hi⟩
    obtain ⟨h',hi'⟩:=hi'
    exact .cond hc (fun e=>by cases e) (fun _=>wzjw hH (c:=b) hi' hI hg)
   | true =>
    have hi':∃ h',wzjp H ty rs a β h' T K=some r:=by cases c<;>exact ⟨_,hi⟩
    obtain ⟨h',hi'⟩:=hi'
    exact .cond hc (fun _=>wzjw hH (c:=a) hi' hI hg) (fun e=>by cases e)
  ·cases hi
 | .ret,α,h,T,K,r,φ,hc,hI,hg=>by
  obtain ⟨φ',h1,h2,h3,h4⟩:=wzvn (E:=E) (rs:=rs) hI hg
  exact .ret ⟨φ',_,hc,h1,h2,h3,h4⟩
 | .exit i,α,h,T,K,r,φ,hc,hI,hg=>.exit ⟨φ,T,hc,hI,.refl _ _,hg,.refl _⟩
 | .scope c,α,h,T,K,r,φ,hc,hI,hg=>by
  refine .scope ((wzjw hH (c:=c) hc hI hg).mono ?_)
  rintro e S ⟨φ1,T1,k1,k2,k3,k4,k5⟩
  cases e with
  | goto l=>cases k1
  | _=>exact ⟨φ1,T1,k1,k2,k3,k4,k5⟩
 | .label l,α,h,T,K,r,φ,hc,hI,hg=>.label ⟨φ,T,hc,hI,.refl _ _,hg,.refl _⟩
 | .block i c,α,h,T,K,r,φ,hc,hI,hg=>by
  refine wzqt hc hI hg ?_
  intro β T K r hi hI hg
  refine .block ((wzjw hH (c:=c) hi hI hg).mono ?_)
  rintro e S ⟨φ1,T1,k1,k2,k3,k4,k5⟩
  cases e with
  | exit j =>
   have k1:kond (Nat.beq j i) (K .normal T1) (K (.exit j) T1)=some r:=k1
   show if j=i then _ else _
   cases hj:Nat.beq j i<;>rw [hj] at k1
   ·rw [if_neg (wzmb.1 hj)]; exact ⟨φ1,T1,k1,k2,k3,k4,k5⟩
   ·rw [if_pos (wzir.1 hj)]; exact ⟨φ1,T1,k1,k2,k3,k4,k5⟩
  | _=>exact ⟨φ1,T1,k1,k2,k3,k4,k5⟩
 | .loop c,α,.l fz hd J h,T0,K,r,φ0,hc,hI0,hg0=>by
  obtain ⟨φ,hI,hL0,hg,hs0⟩:=wzny (E:=E) fz hI0
  have hg:=hg.trans hg0
  have hc:(fun T=>match arrT T (cl0 T) hd with
   | some r0=>bd (lp (fun r=>wzjp H ty rs c (Row hd.cts⊕OutT J) h (rebT (cl0 T) hd r) fun e T'=>match e with
    | .normal=>match arrT T T' hd with
     | some r=>some (.inl r)
     | none=>none
    | e=>match injT T J e T' with
     | some r=>some (.inr r)
     | none=>none) r0) (aftT T K J)
   | none=>none) (frzA T0 fz)=some r:=hc
  refine .see hs0 (AW.mono ?_ fun e S q=>FinT.step hL0 q)
  generalize frzA T0 fz=T at *
  have hc:(match arrT T (cl0 T) hd with
   | some r0=>bd (lp (fun r=>wzjp H ty rs c (Row hd.cts⊕OutT J) h (rebT (cl0 T) hd r) fun e T'=>match e with
    | .normal=>match arrT T T' hd with
     | some r=>some (.inl r)
     | none=>none
    | e=>match injT T J e T' with
     | some r=>some (.inr r)
     | none=>none) r0) (aftT T K J)
   | none=>none)=some r:=hc
  split at hc
  ·rename_i r0 hr0
   obtain ⟨o,h1,h2⟩:=wzre hc
   rw [qztg] at h1
   have hIc:=wzro hI hg
   obtain ⟨φ1,j1,j2,j3⟩:=wzp9 (E:=E) hIc (.refl _ _) hIc (wzq8 hr0)
   refine .loop (fun x:Nat×Row hd.cts×Phi=>em x.2.2 (rebT (cl0 T) hd x.2.1)) (fun x=>x.1) (fun x=>lpN (fun r=>wzjp H ty rs c (Row hd.cts⊕OutT J) h (rebT (cl0 T) hd r) fun e T'=>match e with
    | .normal=>match arrT T T' hd with
     | some r=>some (.inl r)
     | none=>none
    | e=>match injT T J e T' with
     | some r=>some (.inr r)
     | none=>none) x.1 x.2.1=some o∧InvT x.2.2 (rebT (cl0 T) hd x.2.1)∧Log φ (cl0 T) x.2.2 (rebT (cl0 T) hd x.2.1)) (4611686018427387904,r0,φ1) ⟨h1,j1,j2⟩ j3 ?_
   rintro ⟨N,q,φx⟩ ⟨hN,hIx,hLx⟩
   cases N with
   | zero=>cases hN
   | succ N =>
    rcases wztn hN with ⟨s',hb,hN⟩ | hb
    ·refine (wzjw hH (c:=c) hb hIx rfl).mono ?_
     rintro e S ⟨φ2,T2,k1,k2,k3,k4,k5⟩
     cases e with
     | normal =>
      have k1:(match arrT T T2 hd with | some r=>some (Sum.inl r) | none=>none)=some (.inl s'):=k1
      split at k1
      ·rename_i r' hr'
       cases k1
       obtain ⟨φ3,l1,l2,l3⟩:=wzp9 (E:=E) hIc (hLx.trans k3) k2 (wzq8 hr')
       exact ⟨(N,s',φ3),⟨hN,l1,l2⟩,Nat.lt_succ_self _,k5.trans l3⟩
      ·cases k1
     | _ =>
      exfalso
      revert k1
      show (match injT T J _ T2 with | some r=>some (Sum.inr r) | none=>none)=some (.inl s')→False
      split<;>(intro k; cases k)
    ·refine (wzjw hH (c:=c) hb hIx rfl).mono ?_
     rintro e S ⟨φ2,T2,k1,k2,k3,k4,k5⟩
     have fin:(match injT T J e T2 with | some r=>some (Sum.inr r) | none=>none)=some (Sum.inr (α:=Row hd.cts) o)→FinT E K r φ T e S:=by
      intro k1
      split at k1
      ·rename_i q1 hq1
       cases k1
       obtain ⟨H1,r1,p1,p2⟩:=wzps (K:=K) hq1
       obtain ⟨φ3,l1,l2,l3⟩:=wzp9 (E:=E) hI (hLx.trans k3) k2 p1
       exact ⟨φ3,_,by rw [← p2]; exact h2,l1,l2,rfl,k5.trans l3⟩
      ·cases k1
     cases e with
     | normal =>
      exfalso
      revert k1
      show (match arrT T T2 hd with | some r=>some (Sum.inl r) | none=>none)=some (.inr o)→False
      split<;>(intro k; cases k)
     | _=>exact fin k1
  ·cases hc
 | .loop c,α,.n,T,K,r,φ,hc,hI,hg=>by cases hc
 | .loop c,α,.s _ _,T,K,r,φ,hc,hI,hg=>by cases hc
 | .loop c,α,.c _ _ _,T,K,r,φ,hc,hI,hg=>by cases hc
 | .loop c,α,.b _ _,T,K,r,φ,hc,hI,hg=>by cases hc
 | .rfunc _ _ _ _,α,h,T,K,r,φ,hc,hI,hg=>by cases hc
theorem wzpe (hI:InvT φ T):∀ {rs:List ARes} {l:List SV},resS T rs=some l→vz1 (em φ T) rs∧rs.map (ARes.val (em φ T))=emL l
 | [],l,h=>by cases h; exact ⟨trivial,rfl⟩
 | .t n :: rs,l,h=>by
  simp only [resS] at h
  split at h
  ·rename_i v r h1 h2
   cases h
   obtain ⟨k1,k2⟩:=wzpe hI h2
   refine ⟨⟨trivial,k1⟩,?_⟩
   show (em φ T).t.getD n .top :: rs.map (ARes.val (em φ T))=emS v :: emL r
   rw [wzln hI,h1,k2]; rfl
  ·cases h
 | .c n agg sz :: rs,l,h=>by
  simp only [resS] at h
  split at h
  ·rename_i id st r h1 h2
   split at h
   ·rename_i st' cs ho
    replace h:=wziq h
    obtain ⟨p1,h⟩:=h
    replace h:=wziq h
    obtain ⟨p2,h⟩:=h
    replace h:=wziq h
    obtain ⟨p3,h⟩:=h
    obtain rfl:=wzir.1 p1
    have p2:=wzir.1 p2
    cases h
    obtain ⟨k1,k2⟩:=wzpe hI h2
    have e1:(em φ T).t.getD n .top=.ptr id (φ id st).ep 0:=by rw [wzln hI,h1]; rfl
    have e2:(em φ T).h id=.box (φ id st).ep (emL cs):=wzpa ho
    have e3:wz9 agg sz ((em φ T).t.getD n .top) (em φ T).h=⟨(φ id st).ep=(φ id st).ep∧0+sz≤(emL cs).length∧(agg=false→sz=1),[id],ldv agg sz (emL cs) 0,none⟩:=by
     simp only [wz9,e1,e2]
    refine ⟨⟨?_,k1⟩,?_⟩
    ·show (wz9 agg sz ((em φ T).t.getD n .top) (em φ T).h).ok
     rw [e3]
     exact ⟨rfl,by rw [wziw]; omega,wznl p3⟩
    ·show (wz9 agg sz ((em φ T).t.getD n .top) (em φ T).h).v :: rs.map (ARes.val (em φ T))=emS (ldS agg sz cs 0) :: emL r
     rw [e3,k2,wznm]
   ·cases h
  ·cases h
theorem wzvt [TabOk] {cs:List CT} {l:List SV} {y:Row cs} (h:wzmq cs l=some y):W (match emL l with | [x]=>x | l=>.tup l) (emS (retT cs y)):=by
 have hw:=wzsl h
 match cs,y,hw with
 | [],y,hw =>
  cases l with
  | nil=>exact .refl _
  | cons x l=>exact hw.elim
 | [c],y,hw =>
  match l,hw with
  | [],hw=>exact hw.elim
  | [x],hw=>exact hw.1
  | x :: x' :: l,hw=>exact hw.2.elim
 | c :: d :: cs,y,hw =>
  match l,hw with
  | [],hw=>exact hw.elim
  | [x],hw=>exact (show Ws [] (emL (wzov d cs y.2)) from hw.2) |> fun h=>by cases cs<;>exact h.elim
  | x :: x' :: l,hw=>exact qzpi.2 hw
theorem wzqi:∀ (l:List SV) (i:Nat),eTm φ (zipS i l)=zipA i (emL l)
 | [],i=>rfl
 | x :: l,i=>by
  show (i,emS x) :: eTm φ (zipS (i+1) l)=(i,emS x) :: zipA (i+1) (emL l)
  rw [wzqi l]
theorem wzur:∀ (l:List SV) (i j:Nat),∃ v,wzin (zipS i l) j=.v (.s v)
 | [],i,j=>⟨.top,rfl⟩
 | x :: l,i,j=>by
  show ∃ v,wzin ((i,.v (.s x)) :: zipS (i+1) l) j=.v (.s v)
  rw [wzis]
  split
  ·exact ⟨x,rfl⟩
  ·exact wzur l (i+1) j
theorem wzs8:∀ (l:List SV) (i j:Nat),i+l.length≤j→wzin (zipS i l) j=.v (.s .top)
 | [],i,j,_=>rfl
 | x :: l,i,j,h=>by
  have h:i+(l.length+1)≤j:=h
  show wzin ((i,.v (.s x)) :: zipS (i+1) l) j=_
  rw [wzis,if_neg (by simp only; omega)]
  exact wzs8 l (i+1) j (by omega)
theorem wzp2 (c:CT):∀ (l:List CT) (p:List Bool) (r:RowC c.T l),(wzp7 c l p r).length=l.length+1
 | [],p,r=>rfl
 | d :: l,p,r=>by show _+1=_; rw [wzp2 d l p.tail r.2]; rfl
theorem wzt6:∀ (l:List CT) (p:List Bool) (r:Row l),(prmS l p r).length=l.length
 | [],p,r=>rfl
 | c :: l,p,r=>wzp2 c l p r
theorem wzvq [TabOk] {H:List Fc} (hH:∀ C∈H,FcOk E P C) (hE:∀ i,qzt (E i)) {ty:List (Nat×CT)} {rs:List ARes} {n:Nat} {ac:qzk} {h:HT} {C:Fc} {fn:Func} {c:Code}
  (hf:P.funcs[C.f]?=some fn) (hb:fn.body=some c) (hr:qzi P fn.results.toList rs=true) (hc:qzg P c ac=true) (hn:fn.ntmps=n) (hl:C.a.length≤n) (he:kzz P C.f=true)
  (ht:∀ x,funT H ty rs n ac h C x=C.F x):FcOk E P C:=by
 refine ⟨he,fun x y hy=>?_⟩
 have hT:=ht x
 rw [hy] at hT
 have hlen:(prmS C.a C.p x).length=C.a.length:=wzt6 _ _ _
 have hI:InvT (fun _ _=>⟨0,0,fun _=>[]⟩) (iniT n C.a C.p x):=by
  refine ⟨fun i=>?_,fun i hi=>?_,fun id st o ho=>by cases ho⟩
  ·obtain ⟨v,hv⟩:=wzur (prmS C.a C.p x) 0 i
   show TOk _ _ (wzin (zipS 0 (prmS C.a C.p x)) i)
   rw [hv]; exact ⟨trivial,trivial⟩
  ·have hi:n≤i:=hi
   exact wzs8 _ _ _ (by omega)
 have hw:AW E none P ac (Post E rs (fun v _=>W v (emS (retT C.r y)))) (em (fun _ _=>⟨0,0,fun _=>[]⟩) (iniT n C.a C.p x)):=by
  refine (wzjw hH (c:=ac) hT hI rfl).mono ?_
  rintro e S ⟨φ',T',k1,k2,k3,k4,k5⟩
  cases e with
  | ret =>
   have k1:(match resS T' rs with | some l=>wzmq C.r l | none=>none)=some y:=k1
   split at k1
   ·rename_i l hl
    obtain ⟨q1,q2⟩:=wzpe k2 hl
    refine ⟨em φ' T',k5,q1,fun i=>.gone ((em φ' T').h i).ep,fun i=>.inl rfl,(by intro D hD; cases hD),?_⟩
    rw [wzso q2]
    exact wzvt k1
   ·cases k1
  | _=>cases k1
 have hem:em (fun _ _=>⟨0,0,fun _=>[]⟩) (iniT n C.a C.p x)=⟨emL (prmS C.a C.p x)++List.replicate (n - C.a.length) .top,h0,[]⟩:=by
  rw [wzct,wziw,hlen,show C.a.length+(n - C.a.length)=n by omega,← wzqi (φ:=fun _ _=>⟨0,0,fun _=>[]⟩)]
  rfl
 rw [hem] at hw
 have hp:Pure E P C.f (emL (prmS C.a C.p x)) (emS (retT C.r y)):=ATr.rw (ATr.of hf hb hr hc (n - C.a.length) (by rw [hn,wziw,hlen]) hw)
 exact hp.still hE (wzl4 _) (wzrl _)
end
end
end Go.Am

set_option linter.unusedVariables false
set_option linter.unusedSimpArgs false
namespace Go.Am
def cV1:Value→AVal
 | .int k n=>.int k n
 | .bool a=>.bool a
 | .string s=>.str s.data.toList
 | .slice none _ _=>.nils
 | .pointer none=>.nilp
 | .nilFunc=>.nilfn
 | .map none=>.nilmp
 | _=>.top
def cVs:List Value→List AVal
 | []=>[]
 | v :: l=>cV1 v :: cVs l
def cV:Value→AVal
 | .agg cs=>.agg (cVs cs.toList)
 | .tuple cs=>.tup (cVs cs.toList)
 | v=>cV1 v
def cG:Operand→AArg
 | .tmp n=>.t n
 | .const v=>.c (cV v)
 | .global i=>.g i
 | .func f=>.c (.fn f 0 [])
def cGs:List Operand→List AArg
 | []=>[]
 | x :: l=>cG x :: cGs l
def cGo:Option Operand→Option AArg
 | some x=>some (cG x)
 | none=>none
def oN:Option Nat→Nat
 | some n=>n
 | none=>0
section
variable (P:Program)
def cSz (t:TypeId):Nat:=oN (szOf P t)
def cAg (t:TypeId):Bool:=match yzl P t with
 | some b=>b
 | none=>false
def cZ (t:TypeId):List AVal:=match qz0 P t with
 | some z=>cVs z
 | none=>[]
def cLd (t:TypeId):Nat:=kond (cAg P t) (cSz P t) 1
def cPl (f:Nat→Option (Nat×Nat)):List (Nat×Operand)→List (Nat×Nat×AArg)
 | []=>[]
 | (i,x) :: l=>(match f i with
  | some (o,s)=>(o,s,cG x)
  | none=>(0,0,cG x)) :: cPl f l
def wzun:BinOp→Bool
 | .neq=>true
 | _=>false
def wzwq (s:Nat) (b:Builtin):List Operand→List TypeId→AOp
 | [x],[t]=>match b with
  | .len=>match P.underlying t with
   | some .string=>.len true (cG x)
   | _=>.len false (cG x)
  | .clear=>match P.underlying t with
   | some (.slice e)=>.clear (cZ P e) (cG x)
   | _=>.mv (.c .top)
  | _=>.mv (.c .top)
 | [x,y],[t,_]=>match b with
  | .max=>.max (cG x) (cG y)
  | .min=>.min (cG x) (cG y)
  | .append=>match P.underlying t with
   | some (.slice e)=>.append s (cSz P e) (oN (byOf P e)) (cG x) (cG y)
   | _=>.mv (.c .top)
  | .copy=>match P.underlying t with
   | some (.slice e)=>.copy (cSz P e) (cG x) (cG y)
   | _=>.mv (.c .top)
  | _=>.mv (.c .top)
 | _,_=>.mv (.c .top)
def cOp (fz:Bool) (s:Nat):Op→AOp
 | .move x=>.mv (cG x)
 | .assign x=>.mv (cG x)
 | .pick c x y=>.pick (cG c) (cG x) (cG y)
 | .binOp op t x y _=>match P.underlying t with
  | some (.struct _)=>.eqagg (match eqFields P 9 t with
   | some l=>l
   | none=>[]) (wzun op) (cG x) (cG y)
  | some (.slice _)=>.isnil (wzun op) (cG x)
  | some .bool=>.bin op true (cG x) (cG y)
  | _=>.bin op false (cG x) (cG y)
 | .unOp op _ x=>match op with
  | .not=>.not (cG x)
  | _=>.neg (cG x)
 | .alloc t=>.alloc s (cZ P t)
 | .box _ x=>.box s (cG x)
 | .load t x=>.load (cAg P t) (cLd P t) (cG x)
 | .store t x y=>.store (cSz P t) (cG x) (cG y)
 | .nilCheck x=>.nilck (cG x)
 | .fieldAddr t x f=>match qzeb P t f with
  | some (o,_)=>.faddr o (cG x)
  | none=>.mv (.c .top)
 | .indexAddr t x i=>match P.underlying t with
  | some (.slice e)=>.iaddrS (cSz P e) (cG x) (cG i)
  | some (.array n e)=>.iaddrA n (cSz P e) (cG x) (cG i)
  | _=>.mv (.c .top)
 | .field t x f=>match qzeb P t f with
  | some (o,ft)=>.field (cAg P ft) o (cLd P ft) (cG x)
  | none=>.mv (.c .top)
 | .index _ x i=>.sidx (cG x) (cG i)
 | .extract x i=>.extract i (cG x)
 | .build t ps=>match P.underlying t with
  | some (.struct fs)=>match qzfw P fs.toList with
   | some l=>.build (cZ P t) (cPl (fun i=>l[i]?) ps.toList)
   | none=>.mv (.c .top)
  | some (.array _ e)=>.build (cZ P t) (cPl (fun i=>some (i*cSz P e,cSz P e)) ps.toList)
  | _=>.mv (.c .top)
 | .buildSlice t n ps=>match P.underlying t with
  | some (.slice e)=>match qz0 P e with
   | some z=>kond fz (.fslice s (cSz P e) n (cVs (qznx z (n*cSz P e))) (cPl (fun i=>some (i*cSz P e,cSz P e)) ps.toList)) (.bslice s (cSz P e) n (cVs (qznx z (n*cSz P e))) (cPl (fun i=>some (i*cSz P e,cSz P e)) ps.toList))
   | none=>.mv (.c .top)
  | _=>.mv (.c .top)
 | .convert src dst x=>match P.underlying dst with
  | some (.int k)=>.conv k (cG x)
  | some (.slice _)=>.s2b s (cG x)
  | _=>.b2s (cG x)
 | .makeFunc f first caps=>match f with
  | .func f=>.mkfn f first.size (cGs (first.toList++caps.toList))
  | _=>.mv (.c .top)
 | .makeSlice t x _=>match P.underlying t with
  | some (.slice e)=>.mks s (cSz P e) (oN (byOf P e)) (cZ P e) (cG x)
  | _=>.mv (.c .top)
 | .slice t x lo hi _=>match P.underlying t with
  | some (.slice e)=>.slice false (cSz P e) (cG x) (cGo lo) (cGo hi)
  | _=>.slice true 0 (cG x) (cGo lo) (cGo hi)
 | .call c=>match c.callee with
  | .value (.func f)=>.callf f (cGs c.args.toList)
  | .value x=>.callv (cG x) (cGs c.args.toList)
  | .builtin b=>wzwq P s b c.args.toList c.argTypes.toList
  | _=>.mv (.c .top)
 | _=>.mv (.c .top)
def mkS:AOp→Nat
 | .alloc _ _ | .box _ _ | .bslice _ _ _ _ _ | .fslice _ _ _ _ _ | .mks _ _ _ _ _ | .s2b _ _ | .append _ _ _ _ _=>1
 | _=>0
def cGd (ops:Array Oper):Option (Nat×Bool)→Option (Nat×Bool)
 | some (j,want)=>match ops[j]? with
  | some q=>match q.dst with
   | some d=>some (d,want)
   | none=>none
  | none=>none
 | none=>none
def cUs:List AArg→List Nat→List Nat
 | [],r=>r
 | .t n :: l,r=>n :: cUs l r
 | _ :: l,r=>cUs l r
def cUse:List Oper→List Nat
 | []=>[]
 | o :: l=>match o.op with
  | .call c=>match c.callee with
   | .value (.func _)=>cUs (cGs c.args.toList) (cUse l)
   | _=>cUse l
  | _=>cUse l
def cFz (us:List Nat):Option Tmp→Bool
 | some d=>memN d us
 | none=>false
def kSm:List (Nat×Nat)→Nat→Nat
 | [],s=>s
 | p :: l,s=>kond (Nat.beq p.1 s) p.2 (kSm l s)
variable (sm:List (Nat×Nat))
def cOps (us:List Nat) (ops:Array Oper) (s:Nat):List Oper→List qzc
 | []=>[]
 | o :: l=>⟨o.dst,cOp P (cFz us o.dst) (kSm sm s) o.op,cGd ops o.guard⟩ :: cOps us ops (s+mkS (cOp P false s o.op)) l
def nOps:List Oper→Nat
 | []=>0
 | o :: l=>mkS (cOp P false 0 o.op)+nOps l
def insN (i:Nat) (l:List Nat):List Nat:=kond (memN i l) l (i :: l)
def uniN:List Nat→List Nat→List Nat
 | [],l=>l
 | i :: k,l=>insN i (uniN k l)
def cPr1 (acc:List (List Nat)):List Edge→List Nat
 | []=>[]
 | e :: l=>kond (Region.binds .any e) (insN e.on (uniN (acc.getD e.on []) (cPr1 acc l))) (cPr1 acc l)
def cPr (acc:List (List Nat)):List Oper→List (List Nat)
 | []=>acc
 | o :: l=>cPr (acc++[cPr1 acc o.after.toList]) l
def wzlx:Code→Nat
 | .region _ ops _=>nOps P ops.toList
 | .seq a b=>wzlx a+wzlx b
 | .cond _ a b=>wzlx a+wzlx b
 | .block _ a=>wzlx a
 | .loop a=>wzlx a
 | .scope a=>wzlx a
 | _=>0
def wzlz:Nat→Code→qzk
 | s,.skip=>.skip
 | s,.region _ ops d=>kond d (.reg true (cOps P sm (cUse ops.toList) ops s ops.toList) (cPr [] ops.toList)) (.reg false (cOps P sm [] ops s ops.toList) [])
 | s,.seq a b=>.seq (wzlz s a) (wzlz (s+wzlx P a) b)
 | s,.cond c a b=>.cond (cG c) (wzlz s a) (wzlz (s+wzlx P a) b)
 | s,.block i a=>.block i (wzlz s a)
 | s,.loop a=>.loop (wzlz s a)
 | s,.exit i=>.exit i
 | s,.scope a=>.scope (wzlz s a)
 | s,.label l=>.label l
 | s,_=>.ret
def cRs:List ResultVar→List ARes
 | []=>[]
 | .tmp a :: l=>.t a :: cRs l
 | .cell a t :: l=>.c a (cAg P t) (cLd P t) :: cRs l
def cF (fn:Func):qzk:=match fn.body with
 | some c=>wzlz P sm 0 c
 | none=>.ret
def ckF (fn:Func) (n:Nat):Bool:=match fn.body with
 | some c=>kond (qzg P c (wzlz P sm 0 c)) (kond (qzi P fn.results.toList (cRs P fn.results.toList)) (Nat.ble n fn.ntmps) false) false
 | none=>false
end
theorem qzq.cast {E:Nat→AVal} {P:Program} {f f':FuncId} {a a':List AVal} {v v':AVal} (H:qzq E P f a v) (e:(f,a,v)=(f',a',v')):qzq E P f' a' v':=by cases e; exact H
section
variable [Tab]
def wzou (E:Nat→AVal) (P:Program):List Fc→Prop
 | []=>True
 | C :: l=>FcOk E P C∧wzou E P l
theorem wzou.all {E:Nat→AVal} {P:Program}:∀ {l:List Fc},wzou E P l→∀ C∈l,FcOk E P C
 | C :: l,h,D,hD=>by
  cases hD with
  | head=>exact h.1
  | tail _ hD=>exact wzou.all h.2 D hD
theorem FcOk.still {E:Nat→AVal} {P:Program} {C:Fc} (H:FcOk E P C) {x:Row C.a} {y:Row C.r} (h:C.F x=some y) {f:FuncId} {a:List AVal} {v:AVal} (e:(C.f,emL (prmS C.a C.p x),emS (retT C.r y))=(f,a,v)):qzq E P f a v:=(H.ok x y h).cast e
theorem wzio [TabOk] {E:Nat→AVal} {P:Program} (hE:∀ i,qzt (E i)) {H:List Fc} (hH:wzou E P H) (sm:List (Nat×Nat)) (ty:List (Nat×CT)) (h:HT) {C:Fc} {fn:Func} (hf:P.funcs[C.f]?=some fn) (he:kzz P C.f=true)
  (hc:ckF P sm fn C.a.length=true) (ht:∀ x,funT H ty (cRs P fn.results.toList) fn.ntmps (cF P sm fn) h C x=C.F x):FcOk E P C:=by
 unfold ckF at hc
 unfold cF at ht
 split at hc
 ·rename_i c hb
  rw [hb] at ht
  obtain ⟨h1,hc⟩:=wzix hc
  obtain ⟨h2,hc⟩:=wzix hc
  exact wzvq hH.all hE hf hb h2 h1 rfl (Nat.le_of_ble_eq_true hc) he ht
 ·cases hc
end
end Go.Am

