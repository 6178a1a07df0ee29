/- Part E1 of the proof that the last part closes: an evaluator of closed calls proved sound over the abstract machine. No condition. -/
import Derived.Test.YtjmchgpbejldlaaDoorA4
set_option linter.unusedVariables false
set_option linter.unusedSimpArgs false
namespace Go.Am
inductive Tr (α : Type) where
  | e
  | n (l : Tr α) (v : Option α) (r : Tr α)
def Tr.get {α : Type} : Tr α → Nat → Option α
  | .e, _ => none
  | .n l v r, i => bif Nat.beq i 0 then v else bif Nat.beq (Nat.mod i 2) 1 then l.get (Nat.div i 2) else r.get (Nat.div i 2)
def Tr.set {α : Type} : Nat → Tr α → Nat → Option α → Tr α
  | 0, t, _, _ => t
  | d + 1, .e, i, x => bif Nat.beq i 0 then .n .e x .e else bif Nat.beq (Nat.mod i 2) 1 then .n (Tr.set d .e (Nat.div i 2) x) none .e else .n .e none (Tr.set d .e (Nat.div i 2) x)
  | d + 1, .n l v r, i, x => bif Nat.beq i 0 then .n l x r else bif Nat.beq (Nat.mod i 2) 1 then .n (Tr.set d l (Nat.div i 2) x) v r else .n l v (Tr.set d r (Nat.div i 2) x)
def Tr.setK {α β : Type} : Nat → Tr α → Nat → Option α → (Tr α → β) → β
  | 0, t, _, _, k => k t
  | d + 1, .e, i, x, k => bif Nat.beq i 0 then k (.n .e x .e) else bif Nat.beq (Nat.mod i 2) 1 then Tr.setK d .e (Nat.div i 2) x (fun l => k (.n l none .e)) else Tr.setK d .e (Nat.div i 2) x (fun r => k (.n .e none r))
  | d + 1, .n l v r, i, x, k => bif Nat.beq i 0 then k (.n l x r) else bif Nat.beq (Nat.mod i 2) 1 then Tr.setK d l (Nat.div i 2) x (fun l => k (.n l v r)) else Tr.setK d r (Nat.div i 2) x (fun r => k (.n l v r))
theorem Tr.setK_eq {α β : Type} : ∀ (d : Nat) (t : Tr α) (i : Nat) (x : Option α) (k : Tr α → β), Tr.setK d t i x k = k (Tr.set d t i x)
  | 0, t, i, x, k => by cases t <;> rfl
  | d + 1, .e, i, x, k => by simp only [Tr.setK, Tr.set, Tr.setK_eq d]; cases Nat.beq i 0 <;> cases Nat.beq (Nat.mod i 2) 1 <;> rfl
  | d + 1, .n l v r, i, x, k => by simp only [Tr.setK, Tr.set, Tr.setK_eq d]; cases Nat.beq i 0 <;> cases Nat.beq (Nat.mod i 2) 1 <;> rfl
theorem Tr.get_n {α : Type} (l : Tr α) (v : Option α) (r : Tr α) (i : Nat) : (Tr.n l v r).get i = if i = 0 then v else if i % 2 = 1 then l.get (i / 2) else r.get (i / 2) := by
  have hm : ∀ a b : Nat, Nat.mod a b = a % b := fun _ _ => rfl
  have hdv : ∀ a b : Nat, Nat.div a b = a / b := fun _ _ => rfl
  simp only [Tr.get, cond_eq_ite, Nat.beq_eq, hm, hdv]
theorem Tr.set_n {α : Type} (d : Nat) (l : Tr α) (v : Option α) (r : Tr α) (i : Nat) (x : Option α) : Tr.set (d + 1) (Tr.n l v r) i x = if i = 0 then .n l x r else if i % 2 = 1 then .n (Tr.set d l (i / 2) x) v r else .n l v (Tr.set d r (i / 2) x) := by
  have hm : ∀ a b : Nat, Nat.mod a b = a % b := fun _ _ => rfl
  have hdv : ∀ a b : Nat, Nat.div a b = a / b := fun _ _ => rfl
  simp only [Tr.set, cond_eq_ite, Nat.beq_eq, hm, hdv]
theorem Tr.set_e {α : Type} (d : Nat) (i : Nat) (x : Option α) : Tr.set (d + 1) Tr.e i x = Tr.set (d + 1) (Tr.n .e none .e) i x := by
  simp only [Tr.set]
theorem Tr.get_e {α : Type} (i : Nat) : (Tr.e : Tr α).get i = (Tr.n .e none .e : Tr α).get i := by
  rw [Tr.get_n]; simp [Tr.get]
theorem Tr.get_set {α : Type} : ∀ (d : Nat) (t : Tr α) (i : Nat) (x : Option α) (j : Nat), i < 2 ^ d → (Tr.set (d + 1) t i x).get j = if j = i then x else t.get j := by
  intro d
  induction d with
  | zero =>
    intro t i x j h
    obtain rfl : i = 0 := by simpa using h
    have key : ∀ l v r, (Tr.set (0 + 1) (Tr.n l v r) 0 x).get j = if j = 0 then x else (Tr.n l v r).get j := by
      intro l v r
      rw [Tr.set_n, if_pos rfl, Tr.get_n, Tr.get_n]
      by_cases hj : j = 0 <;> simp [hj]
    cases t with
    | e => rw [Tr.set_e, Tr.get_e]; exact key _ _ _
    | n l v r => exact key l v r
  | succ d ih =>
    intro t i x j h
    have hp : 2 ^ (d + 1) = 2 * 2 ^ d := by rw [Nat.pow_succ]; omega
    have key : ∀ l v r, (Tr.set (d + 1 + 1) (Tr.n l v r) i x).get j = if j = i then x else (Tr.n l v r).get j := by
      intro l v r
      rw [Tr.set_n]
      by_cases hi : i = 0
      · subst hi
        rw [if_pos rfl, Tr.get_n, Tr.get_n]
        by_cases hj : j = 0 <;> simp [hj]
      · rw [if_neg hi]
        have ih' := fun t => ih t (i / 2) x (j / 2) (by omega)
        by_cases h1 : i % 2 = 1
        · rw [if_pos h1, Tr.get_n, Tr.get_n, ih']
          by_cases hj : j = 0
          · rw [if_pos hj, if_neg (by omega), if_pos hj]
          · rw [if_neg hj]
            by_cases hj1 : j % 2 = 1
            · rw [if_pos hj1]
              by_cases e : j / 2 = i / 2
              · rw [if_pos e, if_pos (by omega)]
              · rw [if_neg e, if_neg (by omega), if_neg hj, if_pos hj1]
            · rw [if_neg hj1, if_neg (by omega), if_neg hj, if_neg hj1]
        · rw [if_neg h1, Tr.get_n, Tr.get_n, ih']
          by_cases hj : j = 0
          · rw [if_pos hj, if_neg (by omega), if_pos hj]
          · rw [if_neg hj]
            by_cases hj1 : j % 2 = 1
            · rw [if_pos hj1, if_neg (by omega), if_neg hj, if_pos hj1]
            · rw [if_neg hj1]
              by_cases e : j / 2 = i / 2
              · rw [if_pos e, if_pos (by omega)]
              · rw [if_neg e, if_neg (by omega), if_neg hj, if_neg hj1]
    cases t with
    | e => rw [Tr.set_e, Tr.get_e]; exact key _ _ _
    | n l v r => exact key l v r
inductive CV where
  | top
  | int (k : IntKind) (n : Int)
  | bool (b : Bool)
  | str (s : List UInt8)
  | agg (cs : List CV)
  | tup (vs : List CV)
  | nils
  | slc (st : Nat) (els : List (List CV))
  | vec (id ep lo n : Nat)
  | ptr (id ep off : Nat)
  | eptr (id ep i off : Nat)
  | cptr (cs : List CV) (off : Nat)
  | nilp
  | fn (f : FuncId) (caps : List CV)
  | nilfn
  | yld (id ep : Nat)
  | mp (id ep : Nat)
  | nilmp
  | cnd (c : Bool) (x : CV)
inductive CRel : CV → AVal → Prop where
  | top : CRel .top .top
  | int (k : IntKind) (n : Int) : CRel (.int k n) (.int k n)
  | bool (b : Bool) : CRel (.bool b) (.bool b)
  | str (s : List UInt8) : CRel (.str s) (.str s)
  | agg (cs : List CV) (l : List AVal) (hl : cs.length = l.length) (h : ∀ (i : Nat) (c : CV) (x : AVal), cs[i]? = some c → l[i]? = some x → CRel c x) : CRel (.agg cs) (.agg l)
  | tup (cs : List CV) (l : List AVal) (hl : cs.length = l.length) (h : ∀ (i : Nat) (c : CV) (x : AVal), cs[i]? = some c → l[i]? = some x → CRel c x) : CRel (.tup cs) (.tup l)
  | nils : CRel .nils .nils
  | slc (st n : Nat) (els : List (List CV)) (f : Nat → List AVal) (hn : els.length = n) (hl : ∀ (i : Nat) (row : List CV), els[i]? = some row → row.length = (f i).length)
      (h : ∀ (i j : Nat) (row : List CV) (c : CV) (x : AVal), els[i]? = some row → row[j]? = some c → (f i)[j]? = some x → CRel c x) : CRel (.slc st els) (.slc st n f)
  | vec (id ep lo n : Nat) : CRel (.vec id ep lo n) (.vec id ep lo n)
  | ptr (id ep off : Nat) : CRel (.ptr id ep off) (.ptr id ep off)
  | eptr (id ep i off : Nat) : CRel (.eptr id ep i off) (.eptr id ep i off)
  | cptr (cs : List CV) (off lim : Nat) (f : Nat → AVal) (hn : cs.length = lim) (h : ∀ (i : Nat) (c : CV), cs[i]? = some c → CRel c (f i)) : CRel (.cptr cs off) (.cptr f lim off)
  | nilp : CRel .nilp .nilp
  | fn (f : FuncId) (cs : List CV) (l : List AVal) (hl : cs.length = l.length) (h : ∀ (i : Nat) (c : CV) (x : AVal), cs[i]? = some c → l[i]? = some x → CRel c x) : CRel (.fn f cs) (.fn f l)
  | nilfn : CRel .nilfn .nilfn
  | yld (id ep : Nat) : CRel (.yld id ep) (.yld id ep)
  | mp (id ep : Nat) : CRel (.mp id ep) (.mp id ep)
  | nilmp : CRel .nilmp .nilmp
  | cnd (c : Bool) (x : CV) (y : AVal) (h : c = true → CRel x y) : CRel (.cnd c x) (.cnd c y)
def CRs (cs : List CV) (l : List AVal) : Prop := cs.length = l.length ∧ ∀ (i : Nat) (c : CV) (x : AVal), cs[i]? = some c → l[i]? = some x → CRel c x
theorem CRs.nil : CRs [] [] := ⟨rfl, fun i c x h _ => by simp at h⟩
theorem CRs.cons {c : CV} {x : AVal} {cs : List CV} {l : List AVal} (h : CRel c x) (t : CRs cs l) : CRs (c :: cs) (x :: l) := by
  refine ⟨by simp [t.1], fun i d y hd hy => ?_⟩
  cases i with
  | zero => simp at hd hy; subst hd; subst hy; exact h
  | succ i => exact t.2 i d y (by simpa using hd) (by simpa using hy)
theorem CRs.uncons {c : CV} {cs : List CV} {l : List AVal} (h : CRs (c :: cs) l) : ∃ x l', l = x :: l' ∧ CRel c x ∧ CRs cs l' := by
  cases l with
  | nil => have := h.1; simp at this
  | cons x l => exact ⟨x, l, rfl, h.2 0 c x rfl rfl, by have := h.1; simpa using this, fun i d y hd hy => h.2 (i + 1) d y (by simpa using hd) (by simpa using hy)⟩
theorem CRs.unnil {l : List AVal} (h : CRs [] l) : l = [] := by have := h.1; simpa using this.symm
theorem CRs.append {cs cs' : List CV} {l l' : List AVal} (h : CRs cs l) (t : CRs cs' l') : CRs (cs ++ cs') (l ++ l') := by
  refine ⟨by simp [h.1, t.1], fun i y u hy hu => ?_⟩
  by_cases hi : i < cs.length
  · rw [List.getElem?_append_left hi] at hy
    rw [List.getElem?_append_left (by rw [← h.1]; exact hi)] at hu
    exact h.2 i y u hy hu
  · rw [List.getElem?_append_right (by omega)] at hy
    rw [List.getElem?_append_right (by rw [← h.1]; omega), ← h.1] at hu
    exact t.2 _ y u hy hu
theorem CRs.drop {cs : List CV} {l : List AVal} (h : CRs cs l) (n : Nat) : CRs (cs.drop n) (l.drop n) :=
  ⟨by simp [h.1], fun i c x hc hx => h.2 (n + i) c x (by simpa using hc) (by simpa using hx)⟩
theorem CRs.take {cs : List CV} {l : List AVal} (h : CRs cs l) (n : Nat) : CRs (cs.take n) (l.take n) := by
  refine ⟨by simp [h.1], fun i c x hc hx => ?_⟩
  rw [List.getElem?_take] at hc hx
  split at hc
  · rename_i hi; rw [if_pos hi] at hx; exact h.2 i c x hc hx
  · cases hc
theorem CRs.get {cs : List CV} {l : List AVal} (h : CRs cs l) {i : Nat} {c : CV} (hc : cs[i]? = some c) : ∃ x, l[i]? = some x ∧ CRel c x := by
  have hi : i < l.length := by rw [← h.1]; exact (List.getElem?_eq_some_iff.1 hc).1
  exact ⟨l[i], List.getElem?_eq_getElem hi, h.2 i c _ hc (List.getElem?_eq_getElem hi)⟩
theorem CRs.getD {cs : List CV} {l : List AVal} (h : CRs cs l) {i : Nat} {c : CV} (hc : cs[i]? = some c) : CRel c (l.getD i .top) := by
  obtain ⟨x, hx, hr⟩ := h.get hc
  simp [List.getD, hx]; exact hr
theorem CRs.set {cs : List CV} {l : List AVal} (h : CRs cs l) (i : Nat) {c : CV} {x : AVal} (hx : CRel c x) : CRs (cs.set i c) (l.set i x) := by
  refine ⟨by simp [h.1], fun j y u hy hu => ?_⟩
  rw [List.getElem?_set] at hy hu
  by_cases e : i = j
  · subst e
    simp only [if_true] at hy hu
    split at hy
    · split at hu
      · simp at hy hu; subst hy; subst hu; exact hx
      · simp at hu
    · simp at hy
  · simp only [e, if_false] at hy hu
    exact h.2 j y u hy hu
theorem CRs.cells {cs : List CV} {l : List AVal} (h : CRs cs l) (off : Nat) {p : List CV} {q : List AVal} (hp : CRs p q) : CRs (cs.take off ++ p ++ cs.drop (off + p.length)) (lay l off q) := by
  unfold lay
  rw [hp.1]
  exact ((h.take off).append hp).append (h.drop _)
theorem CRel.aggs {cs : List CV} {l : List AVal} (h : CRs cs l) : CRel (.agg cs) (.agg l) := .agg _ _ h.1 h.2
theorem CRel.tups {cs : List CV} {l : List AVal} (h : CRs cs l) : CRel (.tup cs) (.tup l) := .tup _ _ h.1 h.2
theorem CRel.fns {f : FuncId} {cs : List CV} {l : List AVal} (h : CRs cs l) : CRel (.fn f cs) (.fn f l) := .fn _ _ _ h.1 h.2
inductive CO where
  | gone (ep : Nat)
  | box (ep : Nat) (cs : List CV)
  | vec (ep st : Nat) (els : List (List CV))
  | loop (ep : Nat) (state : LoopState) (pend : Nat) (ts : Tr CV) (nt : Nat) (ps : List Tmp) (assign body : ACode) (D eD : Nat)
  | dfr (ep : Nat)
  | amap (ep : Nat) (es : List (CV × CV))
def TRel (t : Tr CV) (n : Nat) (l : List AVal) : Prop := l.length = n ∧ (∀ i, i < n → CRel ((t.get i).getD .top) (l.getD i .top)) ∧ ∀ i, n ≤ i → t.get i = none
def RRel (els : List (List CV)) (n : Nat) (f : Nat → List AVal) : Prop := els.length = n ∧ ∀ (i : Nat) (row : List CV), els[i]? = some row → CRs row (f i)
structure LG where
  ts : List AVal
  ps : Array Tmp
  asg : Code
  body : Code
structure Env where
  P : Program
  G : Nat → Option LG
def pendOf : Nat → Option Code
  | 0 => none
  | 1 => some .ret
  | n + 2 => some (.exit n)
def CORel (V : Env) (i : Nat) : CO → AObj → Prop
  | .gone e, o => o = .gone e
  | .box e cs, o => ∃ l, o = .box e l ∧ CRs cs l
  | .vec e st els, o => ∃ f, o = .vec e st els.length f ∧ RRel els els.length f
  | .loop e s pe ts nt ps a b D eD, o => ∃ g, V.G i = some g ∧ o = .loop e s (pendOf pe) g.ts g.ps g.asg g.body D eD ∧ TRel ts nt g.ts ∧ g.ps.toList = ps ∧ checkCode V.P g.asg a = true ∧ checkCode V.P g.body b = true
  | .dfr e, o => o = .dfr e
  | .amap e es, o => ∃ l, o = .amap e l ∧ es.length = l.length ∧ ∀ (i : Nat) (c : CV × CV) (x : AVal × AVal), es[i]? = some c → l[i]? = some x → CRel c.1 x.1 ∧ CRel c.2 x.2
def HRel (V : Env) (H : Tr CO) (h : AHeap) : Prop := ∀ i, CORel V i ((H.get i).getD (.gone 0)) (h i)
def forceN {β : Type} (n : Nat) (k : Nat → β) : β := match n with
  | 0 => k 0
  | m + 1 => k (Nat.succ m)
theorem forceN_eq {β : Type} (n : Nat) (k : Nat → β) : forceN n k = k n := by cases n <;> rfl
def forceI {β : Type} (n : Int) (k : Int → β) : β := match n with
  | .ofNat m => forceN m fun m => k (.ofNat m)
  | .negSucc m => forceN m fun m => k (.negSucc m)
theorem forceI_eq {β : Type} (n : Int) (k : Int → β) : forceI n k = k n := by cases n <;> simp only [forceI, forceN_eq]
def forceS {α β : Type} (l : List α) (k : List α → β) : β := match l with
  | [] => k []
  | x :: r => forceS r fun r => k (x :: r)
theorem forceS_eq {α β : Type} : ∀ (l : List α) (k : List α → β), forceS l k = k l
  | [], _ => rfl
  | x :: r, k => by simp only [forceS, forceS_eq r]
def force1 {β : Type} (v : CV) (k : CV → β) : β := match v with
  | .int kd n => forceI n fun n => k (.int kd n)
  | .bool true => k (.bool true)
  | .bool false => k (.bool false)
  | .vec a b c d => forceN a fun a => forceN b fun b => forceN c fun c => forceN d fun d => k (.vec a b c d)
  | .ptr a b c => forceN a fun a => forceN b fun b => forceN c fun c => k (.ptr a b c)
  | .eptr a b c d => forceN a fun a => forceN b fun b => forceN c fun c => forceN d fun d => k (.eptr a b c d)
  | .cptr cs o => forceN o fun o => k (.cptr cs o)
  | .str s => forceS s fun s => k (.str s)
  | .slc st els => forceN st fun st => forceS els fun els => k (.slc st els)
  | v => k v
theorem force1_eq {β : Type} (v : CV) (k : CV → β) : force1 v k = k v := by
  cases v <;> simp only [force1, forceI_eq, forceN_eq, forceS_eq]
  rename_i b; cases b <;> rfl
def forceL {β : Type} (l : List CV) (k : List CV → β) : β := match l with
  | [] => k []
  | x :: r => force1 x fun x => forceL r fun r => k (x :: r)
theorem forceL_eq {β : Type} : ∀ (l : List CV) (k : List CV → β), forceL l k = k l
  | [], _ => rfl
  | x :: r, k => by simp only [forceL, force1_eq, forceL_eq r]
def forceR {β : Type} (l : List (List CV)) (k : List (List CV) → β) : β := match l with
  | [] => k []
  | x :: r => forceL x fun x => forceR r fun r => k (x :: r)
theorem forceR_eq {β : Type} : ∀ (l : List (List CV)) (k : List (List CV) → β), forceR l k = k l
  | [], _ => rfl
  | x :: r, k => by simp only [forceR, forceL_eq, forceR_eq r]
def forceV {β : Type} (v : CV) (k : CV → β) : β := match v with
  | .agg cs => forceL cs fun cs => k (.agg cs)
  | .tup cs => forceL cs fun cs => k (.tup cs)
  | .fn f cs => forceL cs fun cs => k (.fn f cs)
  | .slc st els => forceN st fun st => forceS els fun els => k (.slc st els)
  | .cnd c x => force1 x fun x => k (.cnd c x)
  | v => force1 v k
theorem forceV_eq {β : Type} (v : CV) (k : CV → β) : forceV v k = k v := by
  cases v <;> simp only [forceV, forceL_eq, force1_eq, forceS_eq, forceN_eq]
def forceO {β : Type} (o : CO) (k : CO → β) : β := match o with
  | .box e cs => forceN e fun e => forceL cs fun cs => k (.box e cs)
  | .vec e st els => forceN e fun e => forceN st fun st => forceR els fun els => k (.vec e st els)
  | .amap e es => forceN e fun e => forceS es fun es => k (.amap e es)
  | .gone e => forceN e fun e => k (.gone e)
  | o => k o
theorem forceO_eq {β : Type} (o : CO) (k : CO → β) : forceO o k = k o := by
  cases o <;> simp only [forceO, forceL_eq, forceR_eq, forceS_eq, forceN_eq]
end Go.Am
set_option linter.unusedVariables false
set_option linter.unusedSimpArgs false
namespace Go.Am
def ofA1 : AVal → Option CV
  | .top => some .top
  | .int k n => some (.int k n)
  | .bool b => some (.bool b)
  | .str s => some (.str s)
  | .nils => some .nils
  | .nilp => some .nilp
  | .nilfn => some .nilfn
  | .nilmp => some .nilmp
  | .fn f [] => some (.fn f [])
  | _ => none
def ofAs : List AVal → Option (List CV)
  | [] => some []
  | x :: r => match ofA1 x with
    | some c => match ofAs r with
      | some l => some (c :: l)
      | none => none
    | none => none
def ofA : AVal → Option CV
  | .agg l => match ofAs l with | some l => some (.agg l) | none => none
  | .tup l => match ofAs l with | some l => some (.tup l) | none => none
  | x => ofA1 x
theorem ofA1_rel {x : AVal} {c : CV} (h : ofA1 x = some c) : CRel c x := by
  unfold ofA1 at h
  split at h <;> first | (cases h; constructor; done) | (cases h; exact .fn _ [] [] rfl (fun i c x h _ => by simp at h)) | (cases h; done)
theorem ofAs_rel : ∀ {l : List AVal} {cs : List CV}, ofAs l = some cs → CRs cs l
  | [], cs, h => by simp only [ofAs, Option.some.injEq] at h; subst h; exact .nil
  | x :: r, cs, h => by
    simp only [ofAs] at h
    split at h
    · rename_i c hc
      split at h
      · rename_i l hl
        simp only [Option.some.injEq] at h; subst h
        exact .cons (ofA1_rel hc) (ofAs_rel hl)
      · cases h
    · cases h
theorem ofA_rel {x : AVal} {c : CV} (h : ofA x = some c) : CRel c x := by
  unfold ofA at h
  split at h
  · split at h
    · rename_i hl; cases h; exact .aggs (ofAs_rel hl)
    · cases h
  · split at h
    · rename_i hl; cases h; exact .tups (ofAs_rel hl)
    · cases h
  · exact ofA1_rel h
def carg (CE : Nat → Option CV) (t : Tr CV) : AArg → Option CV
  | .t n => t.get n
  | .c v => ofA v
  | .g i => CE i
def CERel (CE : Nat → Option CV) (E : Nat → AVal) : Prop := ∀ i c, CE i = some c → CRel c (E i)
theorem carg_rel {CE : Nat → Option CV} {E : Nat → AVal} (hE : CERel CE E) {t : Tr CV} {n : Nat} {l : List AVal} (ht : TRel t n l) {y : AArg} {c : CV} (h : carg CE t y = some c) : CRel c (argv E l y) := by
  cases y with
  | t m =>
    simp only [carg] at h
    have hm : m < n := by
      rcases Nat.lt_or_ge m n with h1 | h1
      · exact h1
      · rw [ht.2.2 m h1] at h; cases h
    have := ht.2.1 m hm
    rw [h] at this
    exact this
  | c v => exact ofA_rel h
  | g i => exact hE i c h
def unc1 : CV → Option CV
  | .cnd true v => some v
  | .cnd false _ => none
  | v => some v
theorem unc1_rel {c d : CV} {x : AVal} (h : CRel c x) (hd : unc1 c = some d) : CRel d (unv x) ∧ unc true x := by
  cases h with
  | cnd b p q hp =>
    cases b with
    | true => simp only [unc1, Option.some.injEq] at hd; subst hd; exact ⟨hp rfl, fun _ => rfl⟩
    | false => simp [unc1] at hd
  | _ => simp only [unc1, Option.some.injEq] at hd; subst hd; exact ⟨by constructor <;> assumption, trivial⟩
def inrB : IntKind → Int → Bool
  | .i8, n => decide (-128 ≤ n) && decide (n ≤ 127)
  | .i16, n => decide (-32768 ≤ n) && decide (n ≤ 32767)
  | .i32, n => decide (-2147483648 ≤ n) && decide (n ≤ 2147483647)
  | .i64, n => decide (-9223372036854775808 ≤ n) && decide (n ≤ 9223372036854775807)
  | _, _ => true
theorem inrB_ok {k : IntKind} {n : Int} (h : inrB k n = true) : inr k n := by
  cases k <;> simp only [inrB, Bool.and_eq_true, decide_eq_true_eq] at h <;> simp only [inr] <;> exact h
def cInt (op : BinOp) (k : IntKind) (a b : Int) : Option CV :=
  match op with
  | .add => if inrB k (a + b) then some (.int k (cut k (a + b))) else none
  | .sub => if inrB k (a - b) then some (.int k (cut k (a - b))) else none
  | .mul => if inrB k (a * b) then some (.int k (cut k (a * b))) else none
  | .quo => if decide (b ≠ 0) && inrB k (a.tdiv b) then some (.int k (cut k (a.tdiv b))) else none
  | .rem => if decide (b ≠ 0) then some (.int k (a.tmod b)) else none
  | .eql => some (.bool (decide (a = b)))
  | .neq => some (.bool (!decide (a = b)))
  | .lss => some (.bool (decide (a < b)))
  | .leq => some (.bool (decide (a ≤ b)))
  | .gtr => some (.bool (decide (b < a)))
  | .geq => some (.bool (decide (b ≤ a)))
  | _ => none
theorem cInt_rel {op : BinOp} {k : IntKind} {a b : Int} {c : CV} (h : cInt op k a b = some c) : (reqInt op k a b).ok ∧ CRel c (reqInt op k a b).v ∧ (reqInt op k a b).rd = [] ∧ (reqInt op k a b).out = none := by
  cases op <;> simp only [cInt] at h <;> simp only [reqInt, Req.when, Req.val]
  case add => split at h; · rename_i hr; cases h; exact ⟨inrB_ok hr, .int _ _, by trivial, by trivial⟩
              · cases h
  case sub => split at h; · rename_i hr; cases h; exact ⟨inrB_ok hr, .int _ _, by trivial, by trivial⟩
              · cases h
  case mul => split at h; · rename_i hr; cases h; exact ⟨inrB_ok hr, .int _ _, by trivial, by trivial⟩
              · cases h
  case quo =>
    split at h
    · rename_i hr; cases h
      simp only [Bool.and_eq_true, decide_eq_true_eq] at hr
      exact ⟨⟨hr.1, inrB_ok hr.2⟩, .int _ _, by trivial, by trivial⟩
    · cases h
  case rem =>
    split at h
    · rename_i hr; cases h
      simp only [decide_eq_true_eq] at hr
      exact ⟨hr, .int _ _, by trivial, by trivial⟩
    · cases h
  all_goals first | (cases h; exact ⟨trivial, .bool _, by trivial, by trivial⟩) | (cases h; done)
def cStr (op : BinOp) (a b : List UInt8) : Option CV :=
  match op with
  | .add => if a.length + b.length ≤ 4611686018427387904 then some (.str (a ++ b)) else none
  | .eql => some (.bool (decide (a = b)))
  | .neq => some (.bool (!decide (a = b)))
  | .lss => some (.bool (Op.bytesLess a b))
  | .leq => some (.bool (Op.bytesLess a b || decide (a = b)))
  | .gtr => some (.bool (!(Op.bytesLess a b || decide (a = b))))
  | .geq => some (.bool (!Op.bytesLess a b))
  | _ => none
theorem cStr_rel {op : BinOp} {a b : List UInt8} {c : CV} (h : cStr op a b = some c) : (reqStr op a b).ok ∧ CRel c (reqStr op a b).v ∧ (reqStr op a b).rd = [] ∧ (reqStr op a b).out = none := by
  cases op <;> simp only [cStr] at h <;> simp only [reqStr, Req.when, Req.val]
  case add => split at h; · rename_i hr; cases h; exact ⟨hr, .str _, by trivial, by trivial⟩
              · cases h
  all_goals first | (cases h; exact ⟨trivial, .bool _, by trivial, by trivial⟩) | (cases h; done)
def cBin (op : BinOp) (bools : Bool) (x y : CV) : Option CV :=
  match x, y with
  | .int k a, .int k' b => if k = k' then cInt op k a b else none
  | .str a, .str b => cStr op a b
  | .bool a, .bool b => match bools, op with
    | true, .eql => some (.bool (a == b))
    | true, .neq => some (.bool (!(a == b)))
    | _, _ => none
  | _, _ => none
theorem cBin_rel {op : BinOp} {bools : Bool} {x y c : CV} {X Y : AVal} (hx : CRel x X) (hy : CRel y Y) (h : cBin op bools x y = some c) : (reqBin op bools X Y).ok ∧ CRel c (reqBin op bools X Y).v ∧ (reqBin op bools X Y).rd = [] ∧ (reqBin op bools X Y).out = none := by
  unfold cBin at h
  split at h
  · cases hx; cases hy
    split at h
    · rename_i e; subst e
      simp only [reqBin, if_true]
      exact cInt_rel h
    · cases h
  · cases hx; cases hy
    exact cStr_rel h
  · cases hx; cases hy
    split at h <;> first | (cases h; exact ⟨trivial, .bool _, rfl, rfl⟩) | (cases h; done)
  · cases h
def CV.one : CV → Bool
  | .top | .agg _ | .tup _ | .cnd _ _ => false
  | _ => true
def ccells : CV → Option (List CV)
  | .agg l => some l
  | .top | .tup _ | .cnd _ _ => none
  | x => some [x]
def callOne : List CV → Bool
  | [] => true
  | x :: l => x.one && callOne l
theorem CRel.one {c : CV} {x : AVal} (h : CRel c x) : x.one = c.one := by cases h <;> rfl
theorem ccells_rel {c : CV} {x : AVal} {p : List CV} (h : CRel c x) (hp : ccells c = some p) : ∃ q, acells x = some q ∧ CRs p q := by
  cases h <;> simp only [ccells, Option.some.injEq] at hp <;> (try (cases hp; done)) <;> subst hp <;>
    first
    | (refine ⟨_, rfl, ?_⟩; exact .cons (by constructor <;> assumption) .nil)
    | exact ⟨_, rfl, by assumption, by assumption⟩
theorem callOne_rel : ∀ {p : List CV} {q : List AVal}, CRs p q → allOne q = callOne p
  | [], q, h => by rw [h.unnil]; rfl
  | c :: p, q, h => by
    obtain ⟨x, q', rfl, hx, hq⟩ := h.uncons
    simp only [allOne, callOne, hx.one, callOne_rel hq]
def clay (l : List CV) (off : Nat) (p : List CV) : List CV := l.take off ++ p ++ l.drop (off + p.length)
theorem clay_rel {l p : List CV} {l' q : List AVal} (h : CRs l l') (hp : CRs p q) (off : Nat) : CRs (clay l off p) (lay l' off q) := h.cells off hp
def cfills (arg : AArg → Option CV) : List CV → List (Nat × Nat × AArg) → Option (List CV)
  | l, [] => some l
  | l, (off, sz, x) :: r => match arg x with
    | none => none
    | some v => match ccells v with
      | none => none
      | some p => if Nat.beq p.length sz && Nat.ble (off + sz) l.length then cfills arg (clay l off p) r else none
def ArgRel (arg : AArg → Option CV) (ar : AArg → AVal) (l : List AArg) : Prop := ∀ y ∈ l, ∀ c, arg y = some c → CRel c (ar y)
theorem cfills_rel {arg : AArg → Option CV} {ar : AArg → AVal} : ∀ {ps : List (Nat × Nat × AArg)} {l r : List CV} {l' : List AVal}, ArgRel arg ar (ps.map fun p => p.2.2) → CRs l l' → cfills arg l ps = some r → ∃ r', fills ar l' ps = some r' ∧ CRs r r'
  | [], l, r, l', ha, hl, h => by simp only [cfills, Option.some.injEq] at h; subst h; exact ⟨l', rfl, hl⟩
  | (off, sz, x) :: ps, l, r, l', ha, hl, h => by
    simp only [cfills] at h
    split at h
    · cases h
    · rename_i v hv
      split at h
      · cases h
      · rename_i p hp
        split at h
        · rename_i hc
          simp only [Bool.and_eq_true, Nat.beq_eq, Nat.ble_eq] at hc
          obtain ⟨q, hq, hr⟩ := ccells_rel (ha x (by simp) v hv) hp
          obtain ⟨r', h1, h2⟩ := cfills_rel (fun y hy => ha y (by simp at hy ⊢; exact .inr hy)) (clay_rel hl hr off) h
          refine ⟨r', ?_, h2⟩
          simp only [fills, hq]
          rw [if_pos ⟨by rw [← hr.1]; exact hc.1, by rw [← hl.1]; exact hc.2⟩]
          exact h1
        · cases h
def celems (st : Nat) : Nat → List CV → List (List CV)
  | 0, _ => []
  | n + 1, l => l.take st :: celems st n (l.drop st)
theorem celems_len (st : Nat) : ∀ (n : Nat) (l : List CV), (celems st n l).length = n
  | 0, _ => rfl
  | n + 1, l => by simp [celems, celems_len st n]
theorem celems_rel (st : Nat) : ∀ (n : Nat) {l : List CV} {l' : List AVal}, CRs l l' → ∀ (i : Nat) (row : List CV), (celems st n l)[i]? = some row → CRs row ((elemsOf st n l').getD i [])
  | 0, l, l', h, i, row, hr => by simp [celems] at hr
  | n + 1, l, l', h, i, row, hr => by
    simp only [celems, elemsOf] at hr ⊢
    cases i with
    | zero => simp at hr ⊢; subst hr; exact h.take st
    | succ i =>
      simp only [List.getElem?_cons_succ] at hr
      have := celems_rel st n (h.drop st) i row hr
      simpa [List.getD] using this
def cldv (agg : Bool) (sz : Nat) (l : List CV) (off : Nat) : Option CV := match agg with
  | true => if Nat.ble (off + sz) l.length then some (.agg ((l.drop off).take sz)) else none
  | false => if Nat.beq sz 1 then l[off]? else none
theorem cldv_rel {agg : Bool} {sz off : Nat} {l : List CV} {l' : List AVal} {c : CV} (h : CRs l l') (hc : cldv agg sz l off = some c) : off + sz ≤ l'.length ∧ (agg = false → sz = 1) ∧ CRel c (ldv agg sz l' off) := by
  cases agg with
  | true =>
    simp only [cldv] at hc
    split at hc
    · rename_i hb
      rw [Nat.ble_eq] at hb
      cases hc
      exact ⟨by rw [← h.1]; exact hb, (fun e => by cases e), CRel.aggs ((h.drop off).take sz)⟩
    · cases hc
  | false =>
    simp only [cldv] at hc
    split at hc
    · rename_i hb
      rw [Nat.beq_eq] at hb
      subst hb
      have := (List.getElem?_eq_some_iff.1 hc).1
      exact ⟨by rw [← h.1]; omega, fun _ => rfl, h.getD hc⟩
    · cases hc
def cobj (H : Tr CO) (i : Nat) : CO := match H.get i with | some o => o | none => .gone 0
theorem cobj_rel {P : Env} {H : Tr CO} {h : AHeap} (hr : HRel P H h) (i : Nat) : CORel P i (cobj H i) (h i) := by
  have := hr i
  unfold cobj
  cases hg : H.get i <;> rw [hg] at this <;> exact this
def CO.free : CO → Option Nat
  | .gone e => some e
  | _ => none
theorem free_rel {P : Env} {i : Nat} {o : CO} {x : AObj} {e : Nat} (h : CORel P i o x) (he : o.free = some e) : x.plain ∧ x.ep = e := by
  cases o <;> simp only [CO.free, Option.some.injEq] at he <;> (try (cases he; done))
  subst he
  obtain rfl := h
  exact ⟨trivial, rfl⟩
def cload (agg : Bool) (sz : Nat) (x : CV) (H : Tr CO) : Option (CV × List Nat) :=
  match x with
  | .ptr id ep off => match cobj H id with
    | .box ep' cs => if Nat.beq ep ep' then (match cldv agg sz cs off with | some v => some (v, [id]) | none => none) else none
    | _ => none
  | .eptr id ep i off => match cobj H id with
    | .vec ep' st els => if Nat.beq ep ep' then (match els[i]? with
      | some row => if Nat.beq row.length st then (match cldv agg sz row off with | some v => some (v, [id]) | none => none) else none
      | none => none) else none
    | _ => none
  | .cptr cs off => match cldv agg sz cs off with
    | some v => some (v, [])
    | none => none
  | _ => none
theorem cload_rel {P : Env} {agg : Bool} {sz : Nat} {x : CV} {X : AVal} {H : Tr CO} {h : AHeap} {c : CV} {rd : List Nat} (hx : CRel x X) (hh : HRel P H h) (hc : cload agg sz x H = some (c, rd)) :
    (reqLoad agg sz X h).ok ∧ CRel c (reqLoad agg sz X h).v ∧ (reqLoad agg sz X h).rd = rd ∧ (reqLoad agg sz X h).out = none := by
  unfold cload at hc
  split at hc
  · cases hx
    rename_i id ep off
    have ho := cobj_rel hh id
    split at hc
    · rename_i ep' cs hb
      rw [hb] at ho
      obtain ⟨l, hl, hr⟩ := ho
      split at hc
      · rename_i he
        rw [Nat.beq_eq] at he
        split at hc
        · rename_i v hv
          cases hc
          obtain ⟨h1, h2, h3⟩ := cldv_rel hr hv
          simp only [reqLoad, hl]
          exact ⟨⟨he, h1, h2⟩, h3, by trivial, by trivial⟩
        · cases hc
      · cases hc
    · cases hc
  · cases hx
    rename_i id ep i off
    have ho := cobj_rel hh id
    split at hc
    · rename_i ep' st els hb
      rw [hb] at ho
      obtain ⟨f, hl, hr⟩ := ho
      split at hc
      · rename_i he
        rw [Nat.beq_eq] at he
        split at hc
        · rename_i row hrow
          split at hc
          · rename_i hlen
            rw [Nat.beq_eq] at hlen
            split at hc
            · rename_i v hv
              cases hc
              have hi := (List.getElem?_eq_some_iff.1 hrow).1
              have hrr := hr.2 i row hrow
              obtain ⟨h1, h2, h3⟩ := cldv_rel hrr hv
              simp only [reqLoad, hl]
              exact ⟨⟨he, hi, by rw [← hlen, hrr.1]; exact h1, h2⟩, h3, by trivial, by trivial⟩
            · cases hc
          · cases hc
        · cases hc
      · cases hc
    · cases hc
  · cases hx
    rename_i cs off lim f hn hf
    split at hc
    · rename_i v hv
      cases hc
      simp only [reqLoad, Req.when]
      cases agg with
      | true =>
        simp only [cldv] at hv
        split at hv
        · rename_i hb
          rw [Nat.ble_eq] at hb
          cases hv
          refine ⟨⟨by omega, fun e => by cases e⟩, .aggs ⟨by simp; omega, fun i c y hc hy => ?_⟩, by trivial, by trivial⟩
          simp only [List.getElem?_take, List.getElem?_drop] at hc
          split at hc
          · rename_i hi
            simp [List.getElem?_range hi] at hy
            subst hy
            exact hf _ _ hc
          · cases hc
        · cases hv
      | false =>
        simp only [cldv] at hv
        split at hv
        · rename_i hb
          rw [Nat.beq_eq] at hb
          subst hb
          have hi := (List.getElem?_eq_some_iff.1 hv).1
          exact ⟨⟨by omega, fun _ => rfl⟩, hf _ _ hv, by trivial, by trivial⟩
        · cases hv
    · cases hc
  · cases hc
def cstore (sz : Nat) (x y : CV) (H : Tr CO) : Option (List Nat × Nat × CO) :=
  match ccells y with
  | none => none
  | some p => match x with
    | .ptr id ep off => match cobj H id with
      | .box ep' cs => if Nat.beq ep ep' && Nat.beq p.length sz && callOne p && Nat.ble (off + sz) cs.length then some ([id], id, .box ep' (clay cs off p)) else none
      | _ => none
    | .eptr id ep i off => match cobj H id with
      | .vec ep' st els => match els[i]? with
        | some row => if Nat.beq ep ep' && Nat.beq p.length sz && callOne p && Nat.beq row.length st && Nat.ble (off + sz) st then some ([id], id, .vec ep' st (els.set i (clay row off p))) else none
        | none => none
      | _ => none
    | _ => none
theorem cstore_rel {P : Env} {sz : Nat} {x y : CV} {X Y : AVal} {H : Tr CO} {h : AHeap} {rd : List Nat} {id : Nat} {o : CO} (hx : CRel x X) (hy : CRel y Y) (hh : HRel P H h) (hc : cstore sz x y H = some (rd, id, o)) :
    (reqStore sz X Y h).ok ∧ (reqStore sz X Y h).v = .top ∧ (reqStore sz X Y h).rd = rd ∧ ∃ o', (reqStore sz X Y h).out = some (id, o') ∧ CORel P id o o' := by
  unfold cstore at hc
  split at hc
  · cases hc
  · rename_i p hp
    obtain ⟨q, hq, hr⟩ := ccells_rel hy hp
    split at hc
    · cases hx
      rename_i id' ep off
      have ho := cobj_rel hh id'
      split at hc
      · rename_i ep' cs hb
        rw [hb] at ho
        obtain ⟨l, hl, hrl⟩ := ho
        split at hc
        · rename_i hcond
          simp only [Bool.and_eq_true, Nat.beq_eq, Nat.ble_eq] at hcond
          obtain ⟨⟨⟨c1, c2⟩, c3⟩, c4⟩ := hcond
          simp only [Option.some.injEq, Prod.mk.injEq] at hc
          obtain ⟨rfl, rfl, rfl⟩ := hc
          simp only [reqStore, hq, hl]
          exact ⟨⟨c1, by rw [← hr.1]; exact c2, by rw [callOne_rel hr]; exact c3, by rw [← hrl.1]; exact c4⟩, by trivial, by trivial, _, rfl, _, rfl, clay_rel hrl hr off⟩
        · cases hc
      · cases hc
    · cases hx
      rename_i id' ep i off
      have ho := cobj_rel hh id'
      split at hc
      · rename_i ep' st els hb
        rw [hb] at ho
        obtain ⟨f, hl, hrl⟩ := ho
        split at hc
        · rename_i row hrow
          split at hc
          · rename_i hcond
            simp only [Bool.and_eq_true, Nat.beq_eq, Nat.ble_eq] at hcond
            obtain ⟨⟨⟨⟨c1, c2⟩, c3⟩, c4⟩, c5⟩ := hcond
            simp only [Option.some.injEq, Prod.mk.injEq] at hc
            obtain ⟨rfl, rfl, rfl⟩ := hc
            have hi := (List.getElem?_eq_some_iff.1 hrow).1
            simp only [reqStore, hq, hl]
            refine ⟨⟨c1, hi, by rw [← hr.1]; exact c2, by rw [callOne_rel hr]; exact c3, c5⟩, by trivial, by trivial, _, rfl, _, by simp; rfl, by simp, fun k r hk => ?_⟩
            rw [List.getElem?_set] at hk
            by_cases e : i = k
            · subst e
              rw [if_pos rfl, if_pos hi] at hk
              cases hk
              rw [if_pos rfl]
              exact clay_rel (hrl.2 i row hrow) hr off
            · rw [if_neg e] at hk
              rw [if_neg (Ne.symm e)]
              exact hrl.2 k r hk
          · cases hc
        · cases hc
      · cases hc
    · cases hc
end Go.Am
set_option linter.unusedVariables false
set_option linter.unusedSimpArgs false
namespace Go.Am
def AOp.resite (s : Nat) : AOp → AOp
  | .alloc _ z => .alloc s z
  | .box _ x => .box s x
  | .bslice _ a b c d => .bslice s a b c d
  | .append _ a b x y => .append s a b x y
  | .mkmap _ => .mkmap s
  | .mrange _ x => .mrange s x
  | o => o
theorem resite_args (s : Nat) (o : AOp) : (o.resite s).args = o.args := by cases o <;> rfl
theorem resite_check {P : Program} {p : Op} (s : Nat) {o : AOp} (h : checkOp P p o = true) : checkOp P p (o.resite s) = true := by
  cases o <;> (try exact h) <;> (simp only [AOp.resite]; unfold checkOp at h; split at h <;> first | (cases h; done) | exact h | (rename_i e; cases e; done) | (rename_i e; cases e; exact h))
structure COut where
  v : CV
  rd : List Nat
  out : Option (Nat × CO)
abbrev OutRel (P : Env) (out : Option (Nat × CO)) (out' : Option (Nat × AObj)) : Prop := match out with
  | none => out' = none
  | some (i, o) => ∃ o', out' = some (i, o') ∧ CORel P i o o'
def COut.Rel (P : Env) (r : COut) (q : Req) : Prop :=
  q.ok ∧ CRel r.v q.v ∧ q.rd = r.rd ∧ OutRel P r.out q.out
def csrc (st : Nat) (x : CV) (H : Tr CO) : Option (List Nat × List (List CV)) :=
  match x with
  | .nils => some ([], [])
  | .slc st' els => if Nat.beq st' st then some ([], els) else none
  | .vec id ep lo n => match cobj H id with
    | .vec ep' st' els => if Nat.beq ep ep' && Nat.beq st' st && Nat.ble (lo + n) els.length then some ([id], (els.drop lo).take n) else none
    | _ => none
  | _ => none
theorem csrc_rel {P : Env} {st : Nat} {x : CV} {X : AVal} {H : Tr CO} {h : AHeap} {rd : List Nat} {els : List (List CV)} (hx : CRel x X) (hh : HRel P H h) (hc : csrc st x H = some (rd, els)) :
    (srcOf st X h).ok ∧ (srcOf st X h).st = st ∧ (srcOf st X h).rd = rd ∧ (srcOf st X h).n = els.length ∧ RRel els els.length (srcOf st X h).f := by
  unfold csrc at hc
  split at hc
  · cases hx; cases hc; exact ⟨trivial, rfl, rfl, rfl, rfl, fun i row h => by simp at h⟩
  · cases hx
    rename_i st' els' n f hn hl hf
    split at hc
    · rename_i hs
      rw [Nat.beq_eq] at hs
      cases hc
      exact ⟨trivial, hs, rfl, hn.symm, rfl, fun i row hr => ⟨hl i row hr, fun j c x hc hx => hf i j row c x hr hc hx⟩⟩
    · cases hc
  · cases hx
    rename_i id ep lo n
    have ho := cobj_rel hh id
    split at hc
    · rename_i ep' st' els' hb
      rw [hb] at ho
      obtain ⟨f, hl, hr⟩ := ho
      split at hc
      · rename_i hcond
        simp only [Bool.and_eq_true, Nat.beq_eq, Nat.ble_eq] at hcond
        obtain ⟨⟨c1, c2⟩, c3⟩ := hcond
        cases hc
        simp only [srcOf, hl]
        refine ⟨⟨c1, c3⟩, c2, by trivial, by simp; omega, rfl, fun i row hi => ?_⟩
        rw [List.getElem?_take] at hi
        split at hi
        · rw [List.getElem?_drop] at hi
          exact hr.2 _ row hi
        · cases hi
      · cases hc
    · cases hc
  · cases hc
def cappend (s st bytes : Nat) (x y : CV) (H : Tr CO) : Option COut :=
  match csrc st y H with
  | none => none
  | some (rd, els) => match x with
    | .nils => match els with
      | [] => some ⟨.nils, rd, none⟩
      | _ :: _ => match (cobj H s).free with
        | some e => if Nat.blt 0 st && Nat.ble (els.length * bytes) 140737488355328 then some ⟨.vec s (e + 1) 0 els.length, s :: rd, some (s, .vec (e + 1) st els)⟩ else none
        | none => none
    | .vec id ep lo n => match cobj H id with
      | .vec ep' st' els' => if Nat.beq ep ep' && Nat.beq st' st && Nat.ble (lo + n) els'.length && Nat.ble ((n + els.length) * bytes) 140737488355328
        then some ⟨.vec id (ep' + 1) 0 (n + els.length), id :: rd, some (id, .vec (ep' + 1) st ((els'.drop lo).take n ++ els))⟩ else none
      | _ => none
    | _ => none
theorem cappend_rel {P : Env} {s st bytes : Nat} {x y : CV} {X Y : AVal} {H : Tr CO} {h : AHeap} {r : COut} (hx : CRel x X) (hy : CRel y Y) (hh : HRel P H h) (hc : cappend s st bytes x y H = some r) :
    r.Rel P (reqAppend s st bytes X Y h) := by
  unfold cappend at hc
  split at hc
  · cases hc
  · rename_i rd els hsrc
    obtain ⟨h1, h2, h3, h4, h5⟩ := csrc_rel hy hh hsrc
    split at hc
    · cases hx
      split at hc
      · cases hc
        simp only [COut.Rel, reqAppend, h4, List.length_nil, if_true]
        exact ⟨⟨h1, h2⟩, .nils, h3, by trivial⟩
      · rename_i row els'
        split at hc
        · rename_i e hfr
          obtain ⟨hp, he⟩ := free_rel (cobj_rel hh s) hfr
          split at hc
          · rename_i hcond
            simp only [Bool.and_eq_true, Nat.blt_eq, Nat.ble_eq] at hcond
            cases hc
            simp only [COut.Rel, reqAppend, h4, List.length_cons, Nat.add_one_ne_zero, if_false, he]
            refine ⟨⟨hp, h1, h2, hcond.1, Nat.succ_pos _, hcond.2⟩, .vec _ _ _ _, by rw [h3], _, rfl, _, rfl, h5⟩
          · cases hc
        · cases hc
    · cases hx
      rename_i id ep lo n
      have ho := cobj_rel hh id
      split at hc
      · rename_i ep' st' els' hb
        rw [hb] at ho
        obtain ⟨f, hl, hr⟩ := ho
        split at hc
        · rename_i hcond
          simp only [Bool.and_eq_true, Nat.beq_eq, Nat.ble_eq] at hcond
          obtain ⟨⟨⟨c1, c2⟩, c3⟩, c4⟩ := hcond
          cases hc
          simp only [COut.Rel, reqAppend, hl, h4]
          have hlen : ((els'.drop lo).take n ++ els).length = n + els.length := by simp; omega
          refine ⟨⟨h1, h2, c1, c2, c3, c4⟩, .vec _ _ _ _, by rw [h3], _, rfl, _, by rw [hlen], ?_⟩
          refine ⟨rfl, fun i row hi => ?_⟩
          show CRs row (if i < n then f (lo + i) else (srcOf st Y h).f (i - n))
          rw [List.getElem?_append] at hi
          have hl1 : ((els'.drop lo).take n).length = n := by simp; omega
          rw [hl1] at hi
          by_cases hin : i < n
          · rw [if_pos hin] at hi ⊢
            rw [List.getElem?_take, if_pos hin, List.getElem?_drop] at hi
            exact hr.2 _ row hi
          · rw [if_neg hin] at hi ⊢
            exact h5.2 _ row hi
        · cases hc
      · cases hc
    · cases hc
def ceqCells : List CV → List CV → Option Bool
  | [], [] => some true
  | x :: l, y :: m => match x, y, ceqCells l m with
    | .int k a, .int k' b, some e => if k = k' then some (decide (a = b) && e) else none
    | .bool a, .bool b, some e => some ((a == b) && e)
    | .str a, .str b, some e => some (decide (a = b) && e)
    | _, _, _ => none
  | _, _ => none
theorem ceqCells_rel : ∀ {l m : List CV} {l' m' : List AVal} {e : Bool}, CRs l l' → CRs m m' → ceqCells l m = some e → eqCells l' m' = some e
  | [], [], l', m', e, hl, hm, h => by rw [hl.unnil, hm.unnil]; exact h
  | x :: l, y :: m, l', m', e, hl, hm, h => by
    obtain ⟨X, l', rfl, hx, hl2⟩ := hl.uncons
    obtain ⟨Y, m', rfl, hy, hm2⟩ := hm.uncons
    clear hl hm
    simp only [ceqCells] at h
    split at h
    · rename_i e' he
      cases hx; cases hy
      have e2 := ceqCells_rel hl2 hm2 (by assumption); simp only [eqCells, e2]; exact h
    · rename_i e' he
      cases hx; cases hy
      have e2 := ceqCells_rel hl2 hm2 (by assumption); simp only [eqCells, e2]; exact h
    · rename_i e' he
      cases hx; cases hy
      have e2 := ceqCells_rel hl2 hm2 (by assumption); simp only [eqCells, e2]; exact h
    · cases h
  | [], _ :: _, _, _, _, _, _, h => by simp [ceqCells] at h
  | _ :: _, [], _, _, _, _, _, h => by simp [ceqCells] at h
def CV.kind : CV → Nat
  | .bool _ => 0
  | .int _ _ => 1
  | .str _ => 2
  | _ => 3
theorem CRel.kind {c : CV} {x : AVal} (h : CRel c x) : x.kind = c.kind := by cases h <;> rfl
theorem CRs.kinds : ∀ {l : List CV} {l' : List AVal}, CRs l l' → l'.map AVal.kind = l.map CV.kind
  | [], l', h => by rw [h.unnil]; rfl
  | x :: l, l', h => by
    obtain ⟨X, l', rfl, hx, hl⟩ := h.uncons
    simp [hx.kind, hl.kinds]
def beqN : List Nat → List Nat → Bool
  | [], [] => true
  | a :: l, b :: m => Nat.beq a b && beqN l m
  | _, _ => false
theorem beqN_eq : ∀ {l m : List Nat}, beqN l m = true → l = m
  | [], [], _ => rfl
  | a :: l, b :: m, h => by
    simp only [beqN, Bool.and_eq_true, Nat.beq_eq] at h
    rw [h.1, beqN_eq h.2]
  | [], _ :: _, h => by cases h
  | _ :: _, [], h => by cases h
def ckeyEq : CV → CV → Option Bool
  | .int k a, .int k' b => if k = k' then some (decide (a = b)) else none
  | .bool a, .bool b => some (a == b)
  | .str a, .str b => some (decide (a = b))
  | _, _ => none
def cmFind (k : CV) : List (CV × CV) → Nat → Option (Option (Nat × CV))
  | [], _ => some none
  | e :: es, i => match ckeyEq k e.1 with
    | some true => some (some (i, e.2))
    | some false => cmFind k es (i + 1)
    | none => none
def ERel (es : List (CV × CV)) (l : List (AVal × AVal)) : Prop := es.length = l.length ∧ ∀ (i : Nat) (c : CV × CV) (x : AVal × AVal), es[i]? = some c → l[i]? = some x → CRel c.1 x.1 ∧ CRel c.2 x.2
theorem ckeyEq_rel {c d : CV} {x y : AVal} {b : Bool} (hc : CRel c x) (hd : CRel d y) (h : ckeyEq c d = some b) : keyEq x y = some b := by
  unfold ckeyEq at h
  split at h
  · cases hc; cases hd; exact h
  · cases hc; cases hd; exact h
  · cases hc; cases hd; exact h
  · cases h
theorem cmFind_rel {k : CV} {K : AVal} (hk : CRel k K) : ∀ {es : List (CV × CV)} {l : List (AVal × AVal)} {i : Nat} {r : Option (Nat × CV)}, ERel es l → cmFind k es i = some r →
    (r = none ∧ amFind K l i = some none) ∨ ∃ j v v', r = some (j, v) ∧ amFind K l i = some (some (j, v')) ∧ CRel v v'
  | [], l, i, r, h, hf => by
    have : l = [] := by have := h.1; simpa using this.symm
    subst this
    simp only [cmFind, Option.some.injEq] at hf
    exact .inl ⟨hf.symm, rfl⟩
  | e :: es, l, i, r, h, hf => by
    cases l with
    | nil => have := h.1; simp at this
    | cons x l =>
      have h0 := h.2 0 e x rfl rfl
      have ht : ERel es l := ⟨by have := h.1; simpa using this, fun j c y hc hy => h.2 (j + 1) c y (by simpa using hc) (by simpa using hy)⟩
      simp only [cmFind] at hf
      split at hf
      · rename_i hk'
        cases hf
        exact .inr ⟨i, _, x.2, rfl, by simp [amFind, ckeyEq_rel hk h0.1 hk'], h0.2⟩
      · rename_i hk'
        rcases cmFind_rel hk ht hf with ⟨h1, h2⟩ | ⟨j, v, v', h1, h2, h3⟩
        · exact .inl ⟨h1, by simp [amFind, ckeyEq_rel hk h0.1 hk', h2]⟩
        · exact .inr ⟨j, v, v', h1, by simp [amFind, ckeyEq_rel hk h0.1 hk', h2], h3⟩
      · cases hf
def cmsrc (x : CV) (H : Tr CO) : Option (List Nat × List (CV × CV)) :=
  match x with
  | .nilmp => some ([], [])
  | .mp id ep => match cobj H id with
    | .amap ep' es => if Nat.beq ep ep' then some ([id], es) else none
    | _ => none
  | _ => none
theorem cmsrc_rel {P : Env} {x : CV} {X : AVal} {H : Tr CO} {h : AHeap} {rd : List Nat} {es : List (CV × CV)} (hx : CRel x X) (hh : HRel P H h) (hc : cmsrc x H = some (rd, es)) :
    (msrcOf X h).ok ∧ (msrcOf X h).rd = rd ∧ ERel es (msrcOf X h).es := by
  unfold cmsrc at hc
  split at hc
  · cases hx; cases hc; exact ⟨trivial, rfl, rfl, fun i c x h => by simp at h⟩
  · cases hx
    rename_i id ep
    have ho := cobj_rel hh id
    split at hc
    · rename_i ep' es' hb
      rw [hb] at ho
      obtain ⟨l, hl, hr⟩ := ho
      split at hc
      · rename_i he
        rw [Nat.beq_eq] at he
        cases hc
        simp only [msrcOf, hl]
        exact ⟨he, by trivial, hr⟩
      · cases hc
    · cases hc
  · cases hc
theorem ERel.set {es : List (CV × CV)} {l : List (AVal × AVal)} (h : ERel es l) (i : Nat) {k v : CV} {K V : AVal} (hk : CRel k K) (hv : CRel v V) : ERel (es.set i (k, v)) (l.set i (K, V)) := by
  refine ⟨by simp [h.1], fun j y u hy hu => ?_⟩
  rw [List.getElem?_set] at hy hu
  by_cases e : i = j
  · subst e
    simp only [if_true] at hy hu
    split at hy
    · split at hu
      · simp at hy hu; subst hy; subst hu; exact ⟨hk, hv⟩
      · simp at hu
    · simp at hy
  · simp only [e, if_false] at hy hu
    exact h.2 j y u hy hu
theorem ERel.snoc {es : List (CV × CV)} {l : List (AVal × AVal)} (h : ERel es l) {k v : CV} {K V : AVal} (hk : CRel k K) (hv : CRel v V) : ERel (es ++ [(k, v)]) (l ++ [(K, V)]) := by
  refine ⟨by simp [h.1], fun i y u hy hu => ?_⟩
  rw [List.getElem?_append] at hy hu
  rw [← h.1] at hu
  split at hy
  · rename_i hi
    rw [if_pos hi] at hu
    exact h.2 i y u hy hu
  · rename_i hi
    rw [if_neg hi] at hu
    cases hq : i - es.length with
    | zero => rw [hq] at hy hu; simp at hy hu; subst hy; subst hu; exact ⟨hk, hv⟩
    | succ n => rw [hq] at hy; simp at hy
theorem CRel.pair {x : CV} {X : AVal} (h : CRel x X) (b : Bool) : CRel (.tup [x, .bool b]) (.tup [X, .bool b]) := .tups (.cons h (.cons (.bool b) .nil))
def cmupd (kd : Nat) (x k v : CV) (H : Tr CO) : Option COut :=
  match x with
  | .mp id ep => match cobj H id with
    | .amap ep' es => if Nat.beq ep ep' && Nat.beq k.kind kd then (match cmFind k es 0 with
      | some (some (i, _)) => some ⟨.top, [id], some (id, .amap ep' (es.set i (k, v)))⟩
      | some none => some ⟨.top, [id], some (id, .amap ep' (es ++ [(k, v)]))⟩
      | none => none) else none
    | _ => none
  | _ => none
theorem cmupd_rel {P : Env} {kd : Nat} {x k v : CV} {X K V : AVal} {H : Tr CO} {h : AHeap} {r : COut} (hx : CRel x X) (hk : CRel k K) (hv : CRel v V) (hh : HRel P H h) (hc : cmupd kd x k v H = some r) :
    r.Rel P (reqMupd kd X K V h) := by
  unfold cmupd at hc
  split at hc
  · cases hx
    rename_i id ep
    have ho := cobj_rel hh id
    split at hc
    · rename_i ep' es hb
      rw [hb] at ho
      obtain ⟨l, hl, hr⟩ := ho
      split at hc
      · rename_i hcond
        simp only [Bool.and_eq_true, Nat.beq_eq] at hcond
        obtain ⟨c1, c2⟩ := hcond
        split at hc
        · rename_i i v0 hf
          cases hc
          rcases cmFind_rel hk hr hf with ⟨h1, _⟩ | ⟨j, v1, v', h1, h2, h3⟩
          · cases h1
          · cases h1
            simp only [COut.Rel, reqMupd, hl, h2]
            exact ⟨⟨c1, by rw [hk.kind]; exact c2⟩, .top, by trivial, _, rfl, _, rfl, (ERel.set hr i hk hv)⟩
        · rename_i hf
          cases hc
          rcases cmFind_rel hk hr hf with ⟨_, h2⟩ | ⟨j, v1, v', h1, h2, h3⟩
          · simp only [COut.Rel, reqMupd, hl, h2]
            exact ⟨⟨c1, by rw [hk.kind]; exact c2⟩, .top, by trivial, _, rfl, _, rfl, (ERel.snoc hr hk hv)⟩
          · cases h1
        · cases hc
      · cases hc
    · cases hc
  · cases hc
def cintOf (x : CV) : Option Int := match x with
  | .int _ n => some n
  | _ => none
def cbound (arg : AArg → Option CV) (d : Int) : Option AArg → Option Int
  | none => some d
  | some a => match arg a with
    | some (.int _ n) => some n
    | _ => none
theorem cbound_rel {arg : AArg → Option CV} {ar : AArg → AVal} {d l : Int} {x : Option AArg} (ha : ArgRel arg ar x.toList) (h : cbound arg d x = some l) : boundOf ar d x = some l := by
  cases x with
  | none => exact h
  | some y =>
    simp only [cbound] at h
    split at h
    · rename_i k n hy
      have := ha y (by simp) _ hy
      simp only [boundOf]
      generalize ar y = Y at this ⊢
      cases this
      exact h
    · cases h
def cslice (isStr : Bool) (st : Nat) (x : CV) (l : Int) (hi : Int → Option Int) (H : Tr CO) : Option COut :=
  match isStr, x with
  | false, .slc st' els => match hi els.length with
    | some r => if Nat.beq st' st && decide (0 ≤ l) && decide (l ≤ r) && decide (r ≤ els.length) then some ⟨.slc st ((els.drop l.toNat).take (r - l).toNat), [], none⟩ else none
    | none => none
  | false, .vec id ep o n => match hi n with
    | some r => match cobj H id with
      | .vec ep' st' _ => if Nat.beq ep ep' && Nat.beq st' st && decide (0 ≤ l) && decide (l ≤ r) && decide (r ≤ n) then some ⟨.vec id ep (o + l.toNat) (r - l).toNat, [id], none⟩ else none
      | _ => none
    | none => none
  | false, .nils => match hi 0 with
    | some r => if decide (l = 0) && decide (r = 0) then some ⟨.nils, [], none⟩ else none
    | none => none
  | true, .str s => match hi s.length with
    | some r => if decide (0 ≤ l) && decide (l ≤ r) && decide (r ≤ s.length) then some ⟨.str ((s.drop l.toNat).take (r - l).toNat), [], none⟩ else none
    | none => none
  | _, _ => none
def cnilck (x : CV) (H : Tr CO) : Option COut :=
  match x with
  | .cptr cs o => some ⟨.cptr cs o, [], none⟩
  | .ptr id ep o => match cobj H id with
    | .box ep' _ => if Nat.beq ep ep' then some ⟨.ptr id ep o, [id], none⟩ else none
    | _ => none
  | .fn f c => some ⟨.fn f c, [], none⟩
  | _ => none
def cfaddr (off : Nat) (x : CV) (H : Tr CO) : Option COut :=
  match x with
  | .ptr id ep o => match cobj H id with
    | .box ep' _ => if Nat.beq ep ep' then some ⟨.ptr id ep (o + off), [id], none⟩ else none
    | _ => none
  | .cptr cs o => some ⟨.cptr cs (o + off), [], none⟩
  | .eptr id ep i o => match cobj H id with
    | .vec ep' _ _ => if Nat.beq ep ep' then some ⟨.eptr id ep i (o + off), [id], none⟩ else none
    | _ => none
  | _ => none
def ciaddrS (st : Nat) (x i : CV) (H : Tr CO) : Option COut :=
  match x, i with
  | .slc st' els, .int _ j => if Nat.beq st' st && decide (0 ≤ j) then (match els[j.toNat]? with
    | some row => if Nat.beq row.length st then some ⟨.cptr row 0, [], none⟩ else none
    | none => none) else none
  | .vec id ep lo n, .int _ j => match cobj H id with
    | .vec ep' st' _ => if Nat.beq ep ep' && Nat.beq st' st && decide (0 ≤ j) && decide (j < n) then some ⟨.eptr id ep (lo + j.toNat) 0, [id], none⟩ else none
    | _ => none
  | _, _ => none
def ciaddrA (nn st : Nat) (x i : CV) (H : Tr CO) : Option COut :=
  match x, i with
  | .ptr id ep o, .int _ j => match cobj H id with
    | .box ep' _ => if Nat.beq ep ep' && decide (0 ≤ j) && decide (j < nn) then some ⟨.ptr id ep (o + j.toNat * st), [id], none⟩ else none
    | _ => none
  | .cptr cs o, .int _ j => if decide (0 ≤ j) && decide (j < nn) then some ⟨.cptr cs (o + j.toNat * st), [], none⟩ else none
  | _, _ => none
def clen (isStr : Bool) (x : CV) (H : Tr CO) : Option COut :=
  match isStr, x with
  | false, .slc _ els => some ⟨.int .i64 els.length, [], none⟩
  | false, .vec id ep _ n => match cobj H id with
    | .vec ep' _ _ => if Nat.beq ep ep' then some ⟨.int .i64 n, [id], none⟩ else none
    | _ => none
  | false, .nils => some ⟨.int .i64 0, [], none⟩
  | true, .str s => some ⟨.int .i64 s.length, [], none⟩
  | _, _ => none
def clook (kd : Nat) (cok : Bool) (zero k : CV) (m : List Nat × List (CV × CV)) : Option COut :=
  if Nat.beq k.kind kd then (match cmFind k m.2 0 with
    | some (some (_, v)) => some ⟨if cok then .tup [v, .bool true] else v, m.1, none⟩
    | some none => some ⟨if cok then .tup [zero, .bool false] else zero, m.1, none⟩
    | none => none) else none
def cargs (arg : AArg → Option CV) : List AArg → Option (List CV)
  | [] => some []
  | x :: r => match arg x with
    | some c => match cargs arg r with
      | some l => some (c :: l)
      | none => none
    | none => none
theorem cargs_rel {arg : AArg → Option CV} {ar : AArg → AVal} : ∀ {l : List AArg} {cs : List CV}, ArgRel arg ar l → cargs arg l = some cs → CRs cs (l.map ar)
  | [], cs, _, h => by simp only [cargs, Option.some.injEq] at h; subst h; exact .nil
  | x :: r, cs, ha, h => by
    simp only [cargs] at h
    split at h
    · rename_i c hc
      split at h
      · rename_i l hl
        cases h
        exact .cons (ha x (by simp) c hc) (cargs_rel (fun y hy => ha y (by simp [hy])) hl)
      · cases h
    · cases h
def cop (arg : AArg → Option CV) (H : Tr CO) (s : Nat) (o : AOp) : Option COut :=
  match o with
  | .mv x => match arg x with | some v => some ⟨v, [], none⟩ | none => none
  | .pick c x y => match arg c with
    | some (.bool true) => match arg x with
      | some v => match unc1 v with | some v => some ⟨v, [], none⟩ | none => none
      | none => none
    | some (.bool false) => match arg y with
      | some v => match unc1 v with | some v => some ⟨v, [], none⟩ | none => none
      | none => none
    | _ => none
  | .bin op bools x y => match arg x, arg y with
    | some a, some b => match cBin op bools a b with | some v => some ⟨v, [], none⟩ | none => none
    | _, _ => none
  | .not x => match arg x with | some (.bool b) => some ⟨.bool (!b), [], none⟩ | _ => none
  | .neg x => match arg x with | some (.int k n) => if inrB k (0 - n) then some ⟨.int k (cut k (0 - n)), [], none⟩ else none | _ => none
  | .alloc _ zero => match ofAs zero, (cobj H s).free with
    | some l, some e => some ⟨.ptr s (e + 1) 0, [s], some (s, .box (e + 1) l)⟩
    | _, _ => none
  | .box _ x => match arg x, (cobj H s).free with
    | some v, some e => match ccells v with
      | some l => some ⟨.ptr s (e + 1) 0, [s], some (s, .box (e + 1) l)⟩
      | none => none
    | _, _ => none
  | .build zero parts => match ofAs zero with
    | some z => match cfills arg z parts with | some l => some ⟨.agg l, [], none⟩ | none => none
    | none => none
  | .bslice _ st nn zero parts => match ofAs zero, (cobj H s).free with
    | some z, some e => match cfills arg z parts with
      | some l => if Nat.beq l.length (nn * st) && Nat.blt 0 st && callOne l then some ⟨.vec s (e + 1) 0 nn, [s], some (s, .vec (e + 1) st (celems st nn l))⟩ else none
      | none => none
    | _, _ => none
  | .load agg sz x => match arg x with
    | some v => match cload agg sz v H with | some (c, rd) => some ⟨c, rd, none⟩ | none => none
    | none => none
  | .store sz x y => match arg x, arg y with
    | some a, some b => match cstore sz a b H with | some (rd, i, o) => some ⟨.top, rd, some (i, o)⟩ | none => none
    | _, _ => none
  | .nilck x => match arg x with | some v => cnilck v H | none => none
  | .conv k x => match arg x with | some (.int _ n) => if inrB k n then some ⟨.int k (cut k n), [], none⟩ else none | _ => none
  | .mkfn f caps => match cargs arg caps with | some l => some ⟨.fn f l, [], none⟩ | none => none
  | .slice isStr st x lo hi => match arg x, cbound arg 0 lo with
    | some v, some l => cslice isStr st v l (fun d => cbound arg d hi) H
    | _, _ => none
  | .faddr off x => match arg x with | some v => cfaddr off v H | none => none
  | .iaddrS st x i => match arg x, arg i with | some a, some b => ciaddrS st a b H | _, _ => none
  | .iaddrA nn st x i => match arg x, arg i with | some a, some b => ciaddrA nn st a b H | _, _ => none
  | .field agg off sz x => match arg x with
    | some (.agg l) => match cldv agg sz l off with | some v => some ⟨v, [], none⟩ | none => none
    | _ => none
  | .extract i x => match arg x with
    | some (.tup l) => match l[i]? with | some v => some ⟨v, [], none⟩ | none => none
    | _ => none
  | .len isStr x => match arg x with | some v => clen isStr v H | none => none
  | .append _ st bytes x y => match arg x, arg y with | some a, some b => cappend s st bytes a b H | _, _ => none
  | .eqagg sh ng x y => match arg x, arg y with
    | some (.agg l), some (.agg m) => match ceqCells l m with
      | some e => if beqN (l.map CV.kind) sh then some ⟨.bool (if ng then !e else e), [], none⟩ else none
      | none => none
    | _, _ => none
  | .max x y => match arg x, arg y with | some (.int .i64 a), some (.int .i64 b) => some ⟨.int .i64 (Max.max a b), [], none⟩ | _, _ => none
  | .min x y => match arg x, arg y with | some (.int .i64 a), some (.int .i64 b) => some ⟨.int .i64 (Min.min a b), [], none⟩ | _, _ => none
  | .mkmap _ => match (cobj H s).free with | some e => some ⟨.mp s (e + 1), [s], some (s, .amap (e + 1) [])⟩ | none => none
  | .mlook kd ok zero x k => match ofA zero, arg x, arg k with
    | some z, some a, some b => match cmsrc a H with | some m => clook kd ok z b m | none => none
    | _, _, _ => none
  | .mupd kd x k v => match arg x, arg k, arg v with | some a, some b, some c => cmupd kd a b c H | _, _, _ => none
  | .mlen x => match arg x with
    | some a => match cmsrc a H with | some m => some ⟨.int .i64 m.2.length, m.1, none⟩ | none => none
    | none => none
  | .isnil ng x => match arg x with
    | some .nils => some ⟨.bool (!ng), [], none⟩
    | some (.slc _ els) => match els with | [] => none | _ :: _ => some ⟨.bool ng, [], none⟩
    | some (.vec id ep _ _) => match cobj H id with
      | .vec ep' _ _ => if Nat.beq ep ep' then some ⟨.bool ng, [id], none⟩ else none
      | _ => none
    | _ => none
  | .mrange _ _ => none
  | .mentry _ => none
  | .mnext _ => none
  | .callf _ _ => none
  | .callv _ _ => none
theorem COut.Rel.val {P : Env} {c : CV} {x : AVal} (h : CRel c x) : COut.Rel P ⟨c, [], none⟩ (.val x) := ⟨trivial, h, rfl, rfl⟩
theorem COut.Rel.when {P : Env} {c : CV} {x : AVal} {p : Prop} (hp : p) (h : CRel c x) : COut.Rel P ⟨c, [], none⟩ (.when p x) := ⟨hp, h, rfl, rfl⟩
theorem pickB_rel {P : Env} {b : Bool} {X Y : AVal} {c : CV} (h : CRel c (bif b then unv X else unv Y)) (hx : unc b X) (hy : unc (!b) Y) : COut.Rel P ⟨c, [], none⟩ (pickB b X Y) := by
  refine ⟨?_, by rw [pickB_v]; exact h, ?_, by rw [pickB_out]⟩
  · unfold pickB; split <;> (try split) <;> exact ⟨hx, hy⟩
  · unfold pickB; split <;> (try split) <;> rfl
theorem unc_false (x : AVal) : unc false x := by cases x <;> simp [unc]
theorem cnilck_rel {P : Env} {x : CV} {X : AVal} {H : Tr CO} {h : AHeap} {r : COut} {ar : AArg → AVal} {y : AArg} (hX : ar y = X) (hx : CRel x X) (hh : HRel P H h) (hc : cnilck x H = some r) : r.Rel P ((AOp.nilck y).req ar h) := by
  simp only [AOp.req, hX]
  unfold cnilck at hc
  split at hc
  · cases hx; cases hc; exact .val (by constructor <;> assumption)
  · cases hx
    rename_i id ep o
    have ho := cobj_rel hh id
    split at hc
    · rename_i ep' cs hb
      rw [hb] at ho
      obtain ⟨l, hl, hr⟩ := ho
      split at hc
      · rename_i he
        rw [Nat.beq_eq] at he
        cases hc
        simp only [COut.Rel, hl, AObj.ep]
        exact ⟨he, .ptr _ _ _, by trivial, by trivial⟩
      · cases hc
    · cases hc
  · cases hx; cases hc; exact .val (by constructor <;> assumption)
  · cases hc
theorem cfaddr_rel {P : Env} {off : Nat} {x : CV} {X : AVal} {H : Tr CO} {h : AHeap} {r : COut} {ar : AArg → AVal} {y : AArg} (hX : ar y = X) (hx : CRel x X) (hh : HRel P H h) (hc : cfaddr off x H = some r) : r.Rel P ((AOp.faddr off y).req ar h) := by
  simp only [AOp.req, hX]
  unfold cfaddr at hc
  split at hc
  · cases hx
    rename_i id ep o
    have ho := cobj_rel hh id
    split at hc
    · rename_i ep' cs hb
      rw [hb] at ho
      obtain ⟨l, hl, hr⟩ := ho
      split at hc
      · rename_i he
        rw [Nat.beq_eq] at he
        cases hc
        simp only [COut.Rel, hl, AObj.ep]
        exact ⟨he, .ptr _ _ _, by trivial, by trivial⟩
      · cases hc
    · cases hc
  · cases hx; cases hc; exact .val (by constructor <;> assumption)
  · cases hx
    rename_i id ep i o
    have ho := cobj_rel hh id
    split at hc
    · rename_i ep' st els hb
      rw [hb] at ho
      obtain ⟨f, hl, hr⟩ := ho
      split at hc
      · rename_i he
        rw [Nat.beq_eq] at he
        cases hc
        simp only [COut.Rel, hl, AObj.ep]
        exact ⟨he, .eptr _ _ _ _, by trivial, by trivial⟩
      · cases hc
    · cases hc
  · cases hc
theorem ciaddrS_rel {P : Env} {st : Nat} {x i : CV} {H : Tr CO} {h : AHeap} {r : COut} {ar : AArg → AVal} {y z : AArg} (hx : CRel x (ar y)) (hi : CRel i (ar z)) (hh : HRel P H h) (hc : ciaddrS st x i H = some r) : r.Rel P ((AOp.iaddrS st y z).req ar h) := by
  simp only [AOp.req]
  generalize ar y = X at *
  generalize ar z = I at *
  unfold ciaddrS at hc
  split at hc
  · cases hx; cases hi
    rename_i st' els k j n f hn hl hf
    split at hc
    · rename_i hcond
      simp only [Bool.and_eq_true, Nat.beq_eq, decide_eq_true_eq] at hcond
      split at hc
      · rename_i row hrow
        split at hc
        · rename_i hlen
          rw [Nat.beq_eq] at hlen
          cases hc
          have hj := (List.getElem?_eq_some_iff.1 hrow).1
          refine .when ⟨hcond.1, hcond.2, by omega⟩ (.cptr _ _ _ _ hlen fun i c hc => ?_)
          exact CRs.getD ⟨hl _ row hrow, fun j' c x hc hx => hf _ j' row c x hrow hc hx⟩ hc
        · cases hc
      · cases hc
    · cases hc
  · cases hx; cases hi
    rename_i id ep lo n k j
    have ho := cobj_rel hh id
    split at hc
    · rename_i ep' st' els hb
      rw [hb] at ho
      obtain ⟨f, hl, hr⟩ := ho
      split at hc
      · rename_i hcond
        simp only [Bool.and_eq_true, Nat.beq_eq, decide_eq_true_eq] at hcond
        obtain ⟨⟨⟨c1, c2⟩, c3⟩, c4⟩ := hcond
        cases hc
        simp only [COut.Rel, hl]
        exact ⟨⟨c1, c2, c3, c4⟩, .eptr _ _ _ _, by trivial, by trivial⟩
      · cases hc
    · cases hc
  · cases hc
theorem ciaddrA_rel {P : Env} {nn st : Nat} {x i : CV} {H : Tr CO} {h : AHeap} {r : COut} {ar : AArg → AVal} {y z : AArg} (hx : CRel x (ar y)) (hi : CRel i (ar z)) (hh : HRel P H h) (hc : ciaddrA nn st x i H = some r) : r.Rel P ((AOp.iaddrA nn st y z).req ar h) := by
  simp only [AOp.req]
  generalize ar y = X at *
  generalize ar z = I at *
  unfold ciaddrA at hc
  split at hc
  · cases hx; cases hi
    rename_i id ep o k j
    have ho := cobj_rel hh id
    split at hc
    · rename_i ep' cs hb
      rw [hb] at ho
      obtain ⟨l, hl, hr⟩ := ho
      split at hc
      · rename_i hcond
        simp only [Bool.and_eq_true, Nat.beq_eq, decide_eq_true_eq] at hcond
        obtain ⟨⟨c1, c2⟩, c3⟩ := hcond
        cases hc
        simp only [COut.Rel, hl, AObj.ep]
        exact ⟨⟨c1, c2, c3⟩, .ptr _ _ _, by trivial, by trivial⟩
      · cases hc
    · cases hc
  · cases hx; cases hi
    rename_i cs o k j lim f hn hf
    split at hc
    · rename_i hcond
      simp only [Bool.and_eq_true, decide_eq_true_eq] at hcond
      cases hc
      exact .when hcond (.cptr _ _ _ _ hn hf)
    · cases hc
  · cases hc
theorem clen_rel {P : Env} {isStr : Bool} {x : CV} {H : Tr CO} {h : AHeap} {r : COut} {ar : AArg → AVal} {y : AArg} (hx : CRel x (ar y)) (hh : HRel P H h) (hc : clen isStr x H = some r) : r.Rel P ((AOp.len isStr y).req ar h) := by
  simp only [AOp.req]
  generalize ar y = X at *
  unfold clen at hc
  split at hc
  · cases hx; cases hc
    rename_i hn _ _
    rw [hn]
    exact .val (.int _ _)
  · cases hx
    rename_i id ep lo n
    have ho := cobj_rel hh id
    split at hc
    · rename_i ep' st els hb
      rw [hb] at ho
      obtain ⟨f, hl, hr⟩ := ho
      split at hc
      · rename_i he
        rw [Nat.beq_eq] at he
        cases hc
        simp only [COut.Rel, hl, AObj.ep]
        exact ⟨he, .int _ _, by trivial, by trivial⟩
      · cases hc
    · cases hc
  · cases hx; cases hc; exact .val (.int _ _)
  · cases hx; cases hc; exact .val (.int _ _)
  · cases hc
theorem cslice_rel {P : Env} {isStr : Bool} {st : Nat} {x : CV} {l : Int} {H : Tr CO} {h : AHeap} {r : COut} {arg : AArg → Option CV} {ar : AArg → AVal} {y : AArg} {lo hi : Option AArg} (hx : CRel x (ar y)) (hlo : boundOf ar 0 lo = some l)
    (hhi : ArgRel arg ar hi.toList) (hh : HRel P H h) (hc : cslice isStr st x l (fun d => cbound arg d hi) H = some r) : r.Rel P ((AOp.slice isStr st y lo hi).req ar h) := by
  simp only [AOp.req, hlo]
  generalize ar y = X at *
  unfold cslice at hc
  split at hc
  · cases hx
    rename_i st' els n f hn hl hf
    split at hc
    · rename_i r' hr'
      have hb := cbound_rel hhi hr'
      split at hc
      · rename_i hcond
        simp only [Bool.and_eq_true, Nat.beq_eq, decide_eq_true_eq] at hcond
        obtain ⟨⟨⟨c1, c2⟩, c3⟩, c4⟩ := hcond
        cases hc
        rw [hn] at hb
        simp only [hb]
        refine .when ⟨c1, c2, c3, by omega⟩ (.slc _ _ _ _ (by simp; omega) (fun i row hi => ?_) (fun i j row c x hi hj hxx => ?_))
        · rw [List.getElem?_take] at hi
          split at hi
          · rw [List.getElem?_drop] at hi; exact hl _ _ hi
          · cases hi
        · rw [List.getElem?_take] at hi
          split at hi
          · rw [List.getElem?_drop] at hi; exact hf _ j row c x hi hj hxx
          · cases hi
      · cases hc
    · cases hc
  · cases hx
    rename_i id ep o n
    split at hc
    · rename_i r' hr'
      have hb := cbound_rel hhi hr'
      have ho := cobj_rel hh id
      split at hc
      · rename_i ep' st' els hbb
        rw [hbb] at ho
        obtain ⟨f, hl, hr⟩ := ho
        split at hc
        · rename_i hcond
          simp only [Bool.and_eq_true, Nat.beq_eq, decide_eq_true_eq] at hcond
          obtain ⟨⟨⟨⟨c1, c2⟩, c3⟩, c4⟩, c5⟩ := hcond
          cases hc
          simp only [hb, hl, COut.Rel]
          exact ⟨⟨c1, c2, c3, c4, c5⟩, .vec _ _ _ _, by trivial, by trivial⟩
        · cases hc
      · cases hc
    · cases hc
  · cases hx
    split at hc
    · rename_i r' hr'
      have hb := cbound_rel hhi hr'
      split at hc
      · rename_i hcond
        simp only [Bool.and_eq_true, decide_eq_true_eq] at hcond
        cases hc
        simp only [hb]
        exact .when hcond .nils
      · cases hc
    · cases hc
  · cases hx
    split at hc
    · rename_i r' hr'
      have hb := cbound_rel hhi hr'
      split at hc
      · rename_i hcond
        simp only [Bool.and_eq_true, decide_eq_true_eq] at hcond
        cases hc
        simp only [hb]
        exact .when ⟨hcond.1.1, hcond.1.2, hcond.2⟩ (.str _)
      · cases hc
    · cases hc
  · cases hc
theorem clook_rel {P : Env} {kd : Nat} {cok : Bool} {zero : CV} {x k : CV} {Z X K : AVal} {H : Tr CO} {h : AHeap} {r : COut} {m : List Nat × List (CV × CV)} (hz : CRel zero Z) (hx : CRel x X) (hk : CRel k K) (hh : HRel P H h) (hm : cmsrc x H = some m) (hc : clook kd cok zero k m = some r) :
    r.Rel P (reqLook kd cok Z X K h) := by
  obtain ⟨h1, h2, h3⟩ := cmsrc_rel hx hh hm
  unfold clook at hc
  split at hc
  · rename_i hcond
    rw [Nat.beq_eq] at hcond
    split at hc
    · rename_i i v hf
      cases hc
      rcases cmFind_rel hk h3 hf with ⟨e, _⟩ | ⟨j, v1, v', e1, e2, e3⟩
      · cases e
      · cases e1
        simp only [COut.Rel, reqLook, e2]
        refine ⟨⟨h1, by rw [hk.kind]; exact hcond⟩, ?_, h2, by trivial⟩
        cases cok
        · exact e3
        · exact e3.pair true
    · rename_i hf
      cases hc
      rcases cmFind_rel hk h3 hf with ⟨_, e2⟩ | ⟨j, v1, v', e1, e2, e3⟩
      · simp only [COut.Rel, reqLook, e2]
        refine ⟨⟨h1, by rw [hk.kind]; exact hcond⟩, ?_, h2, by trivial⟩
        cases cok
        · exact hz
        · exact hz.pair false
      · cases e1
    · cases hc
  · cases hc
theorem cop_rel {P : Env} {arg : AArg → Option CV} {ar : AArg → AVal} {H : Tr CO} {h : AHeap} {s : Nat} {o : AOp} {r : COut} (ha : ArgRel arg ar o.args) (hh : HRel P H h) (hc : cop arg H s o = some r) :
    r.Rel P ((o.resite s).req ar h) := by
  cases o <;> simp only [cop] at hc <;> simp only [AOp.args] at ha <;> simp only [AOp.resite]
  case mv x =>
    split at hc
    · rename_i v hv; cases hc; exact .val (ha x (by simp) v hv)
    · cases hc
  case pick c x y =>
    split at hc
    · rename_i hcv
      have h1 := ha c (by simp) _ hcv
      split at hc
      · rename_i v hv
        split at hc
        · rename_i v' hv'
          cases hc
          obtain ⟨q1, q2⟩ := unc1_rel (ha x (by simp) v hv) hv'
          simp only [AOp.req]
          cases hq : ar c <;> rw [hq] at h1 <;> cases h1
          exact pickB_rel q1 q2 (unc_false _)
        · cases hc
      · cases hc
    · rename_i hcv
      have h1 := ha c (by simp) _ hcv
      split at hc
      · rename_i v hv
        split at hc
        · rename_i v' hv'
          cases hc
          obtain ⟨q1, q2⟩ := unc1_rel (ha y (by simp) v hv) hv'
          simp only [AOp.req]
          cases hq : ar c <;> rw [hq] at h1 <;> cases h1
          exact pickB_rel q1 (unc_false _) q2
        · cases hc
      · cases hc
    · cases hc
  case bin op bools x y =>
    split at hc
    · rename_i a b hav hbv
      split at hc
      · rename_i v hv
        cases hc
        obtain ⟨q1, q2, q3, q4⟩ := cBin_rel (ha x (by simp) a hav) (ha y (by simp) b hbv) hv
        exact ⟨q1, q2, q3, q4⟩
      · cases hc
    · cases hc
  case not x =>
    split at hc
    · rename_i b hv
      cases hc
      have h1 := ha x (by simp) _ hv
      simp only [AOp.req]
      cases hq : ar x <;> rw [hq] at h1 <;> cases h1
      exact .val (.bool _)
    · cases hc
  case neg x =>
    split at hc
    · rename_i k n hv
      split at hc
      · rename_i hr
        cases hc
        have h1 := ha x (by simp) _ hv
        simp only [AOp.req]
        cases hq : ar x <;> rw [hq] at h1 <;> cases h1
        exact .when (inrB_ok hr) (.int _ _)
      · cases hc
    · cases hc
  case alloc s' zero =>
    split at hc
    · rename_i l e hl he
      cases hc
      obtain ⟨hp, hep⟩ := free_rel (cobj_rel hh s) he
      simp only [AOp.req, COut.Rel, hep]
      exact ⟨hp, .ptr _ _ _, by trivial, _, rfl, _, rfl, ofAs_rel hl⟩
    · cases hc
  case box s' x =>
    split at hc
    · rename_i v e hv he
      split at hc
      · rename_i l hl
        cases hc
        obtain ⟨hp, hep⟩ := free_rel (cobj_rel hh s) he
        obtain ⟨q, hq, hr⟩ := ccells_rel (ha x (by simp) v hv) hl
        simp only [AOp.req, COut.Rel, hep, hq]
        exact ⟨hp, .ptr _ _ _, by trivial, _, rfl, _, rfl, hr⟩
      · cases hc
    · cases hc
  case build zero parts =>
    split at hc
    · rename_i z hz
      split at hc
      · rename_i l hl
        cases hc
        obtain ⟨r', h1, h2⟩ := cfills_rel ha (ofAs_rel hz) hl
        simp only [AOp.req, h1]
        exact .val (.aggs h2)
      · cases hc
    · cases hc
  case bslice s' st nn zero parts =>
    split at hc
    · rename_i z e hz he
      split at hc
      · rename_i l hl
        split at hc
        · rename_i hcond
          simp only [Bool.and_eq_true, Nat.beq_eq, Nat.blt_eq] at hcond
          obtain ⟨⟨c1, c2⟩, c3⟩ := hcond
          cases hc
          obtain ⟨hp, hep⟩ := free_rel (cobj_rel hh s) he
          obtain ⟨r', h1, h2⟩ := cfills_rel ha (ofAs_rel hz) hl
          simp only [AOp.req, h1, COut.Rel, hep]
          refine ⟨⟨hp, by rw [← h2.1]; exact c1, c2, by rw [callOne_rel h2]; exact c3⟩, .vec _ _ _ _, by trivial, _, rfl, _, by rw [celems_len], ?_⟩
          exact ⟨rfl, fun i row hi => celems_rel st nn h2 i row hi⟩
        · cases hc
      · cases hc
    · cases hc
  case load agg sz x =>
    split at hc
    · rename_i v hv
      split at hc
      · rename_i c rd hl
        cases hc
        obtain ⟨q1, q2, q3, q4⟩ := cload_rel (ha x (by simp) v hv) hh hl
        exact ⟨q1, q2, q3, q4⟩
      · cases hc
    · cases hc
  case store sz x y =>
    split at hc
    · rename_i a b hav hbv
      split at hc
      · rename_i rd i ob hl
        cases hc
        obtain ⟨q1, q2, q3, q4⟩ := cstore_rel (ha x (by simp) a hav) (ha y (by simp) b hbv) hh hl
        exact ⟨q1, by rw [AOp.req, q2]; exact .top, q3, q4⟩
      · cases hc
    · cases hc
  case nilck x =>
    split at hc
    · rename_i v hv; exact cnilck_rel rfl (ha x (by simp) v hv) hh hc
    · cases hc
  case conv k x =>
    split at hc
    · rename_i k' n hv
      split at hc
      · rename_i hr
        cases hc
        have h1 := ha x (by simp) _ hv
        simp only [AOp.req]
        cases hq : ar x <;> rw [hq] at h1 <;> cases h1
        exact .when (inrB_ok hr) (.int _ _)
      · cases hc
    · cases hc
  case mkfn f caps =>
    split at hc
    · rename_i l hl; cases hc; exact .val (.fns (cargs_rel ha hl))
    · cases hc
  case slice isStr st x lo hi =>
    split at hc
    · rename_i v l hv hl
      exact cslice_rel (ha x (by simp) v hv) (cbound_rel (fun y hy => ha y (by simp at hy ⊢; exact .inr (.inl hy))) hl) (fun y hy => ha y (by simp at hy ⊢; exact .inr (.inr hy))) hh hc
    · cases hc
  case faddr off x =>
    split at hc
    · rename_i v hv; exact cfaddr_rel rfl (ha x (by simp) v hv) hh hc
    · cases hc
  case iaddrS st x i =>
    split at hc
    · rename_i a b hav hbv; exact ciaddrS_rel (ha x (by simp) a hav) (ha i (by simp) b hbv) hh hc
    · cases hc
  case iaddrA nn st x i =>
    split at hc
    · rename_i a b hav hbv; exact ciaddrA_rel (ha x (by simp) a hav) (ha i (by simp) b hbv) hh hc
    · cases hc
  case field agg off sz x =>
    split at hc
    · rename_i l hv
      split at hc
      · rename_i v hl
        cases hc
        have h1 := ha x (by simp) _ hv
        simp only [AOp.req]
        cases hq : ar x <;> rw [hq] at h1 <;> cases h1
        obtain ⟨q1, q2, q3⟩ := cldv_rel ⟨by assumption, by assumption⟩ hl
        exact .when ⟨q1, q2⟩ q3
      · cases hc
    · cases hc
  case extract i x =>
    split at hc
    · rename_i l hv
      split at hc
      · rename_i v hl
        cases hc
        have h1 := ha x (by simp) _ hv
        simp only [AOp.req]
        cases hq : ar x <;> rw [hq] at h1 <;> cases h1
        have hcr : CRs l _ := ⟨by assumption, by assumption⟩
        exact .when (by rw [← hcr.1]; exact (List.getElem?_eq_some_iff.1 hl).1) (hcr.getD hl)
      · cases hc
    · cases hc
  case len isStr x =>
    split at hc
    · rename_i v hv; exact clen_rel (ha x (by simp) v hv) hh hc
    · cases hc
  case append s' st bytes x y =>
    split at hc
    · rename_i a b hav hbv; exact cappend_rel (ha x (by simp) a hav) (ha y (by simp) b hbv) hh hc
    · cases hc
  case eqagg sh ng x y =>
    split at hc
    · rename_i l m hav hbv
      split at hc
      · rename_i e he
        split at hc
        · rename_i hk
          cases hc
          have h1 := ha x (by simp) _ hav
          have h2 := ha y (by simp) _ hbv
          simp only [AOp.req]
          cases hq : ar x <;> rw [hq] at h1 <;> cases h1
          cases hq2 : ar y <;> rw [hq2] at h2 <;> cases h2
          have hc1 : CRs l _ := ⟨by assumption, by assumption⟩
          have hc2 : CRs m _ := ⟨by assumption, by assumption⟩
          simp only [ceqCells_rel hc1 hc2 he]
          exact .when (by rw [hc1.kinds]; exact beqN_eq hk) (.bool _)
        · cases hc
      · cases hc
    · cases hc
  case max x y =>
    split at hc
    · rename_i a b hav hbv
      cases hc
      have h1 := ha x (by simp) _ hav
      have h2 := ha y (by simp) _ hbv
      simp only [AOp.req]
      cases hq : ar x <;> rw [hq] at h1 <;> cases h1
      cases hq2 : ar y <;> rw [hq2] at h2 <;> cases h2
      exact .val (.int _ _)
    · cases hc
  case min x y =>
    split at hc
    · rename_i a b hav hbv
      cases hc
      have h1 := ha x (by simp) _ hav
      have h2 := ha y (by simp) _ hbv
      simp only [AOp.req]
      cases hq : ar x <;> rw [hq] at h1 <;> cases h1
      cases hq2 : ar y <;> rw [hq2] at h2 <;> cases h2
      exact .val (.int _ _)
    · cases hc
  case mkmap s' =>
    split at hc
    · rename_i e he
      cases hc
      obtain ⟨hp, hep⟩ := free_rel (cobj_rel hh s) he
      simp only [AOp.req, COut.Rel, hep]
      exact ⟨hp, .mp _ _, by trivial, _, rfl, _, rfl, rfl, fun i c x h => by simp at h⟩
    · cases hc
  case mlook kd ok zero x k =>
    split at hc
    · rename_i z a b hz hav hbv
      split at hc
      · rename_i m hm; exact clook_rel (ofA_rel hz) (ha x (by simp) a hav) (ha k (by simp) b hbv) hh hm hc
      · cases hc
    · cases hc
  case mupd kd x k v =>
    split at hc
    · rename_i a b c hav hbv hcv
      exact cmupd_rel (ha x (by simp) a hav) (ha k (by simp) b hbv) (ha v (by simp) c hcv) hh hc
    · cases hc
  case isnil ng x =>
    split at hc
    · rename_i hv
      have h1 := ha x (by simp) _ hv
      cases hc
      simp only [AOp.req]
      cases hq : ar x <;> rw [hq] at h1 <;> cases h1
      exact .val (.bool _)
    · rename_i st els hv
      have h1 := ha x (by simp) _ hv
      split at hc
      · cases hc
      · cases hc
        simp only [AOp.req]
        cases hq : ar x <;> rw [hq] at h1 <;> cases h1
        rename_i hn _ _
        exact .when (by simp at hn; omega) (.bool _)
    · rename_i id ep lo n hv
      have h1 := ha x (by simp) _ hv
      have ho := cobj_rel hh id
      split at hc
      · rename_i ep' st els hb
        rw [hb] at ho
        obtain ⟨f, hl, hr⟩ := ho
        split at hc
        · rename_i he
          rw [Nat.beq_eq] at he
          cases hc
          simp only [AOp.req]
          cases hq : ar x <;> rw [hq] at h1 <;> cases h1
          simp only [COut.Rel, hl, AObj.ep]
          exact ⟨he, .bool _, by trivial, by trivial⟩
        · cases hc
      · cases hc
    · cases hc
  case mlen x =>
    split at hc
    · rename_i a hav
      split at hc
      · rename_i m hm
        cases hc
        obtain ⟨q1, q2, q3⟩ := cmsrc_rel (ha x (by simp) a hav) hh hm
        simp only [AOp.req, COut.Rel]
        exact ⟨q1, by rw [q3.1]; exact .int _ _, q2, by trivial⟩
      · cases hc
    · cases hc
  all_goals cases hc
end Go.Am
set_option linter.unusedVariables false
set_option linter.unusedSimpArgs false
namespace Go.Am
mutual
def CV.toA : CV → AVal
  | .top => .top
  | .int k n => .int k n
  | .bool b => .bool b
  | .str s => .str s
  | .agg cs => .agg (CV.toAs cs)
  | .tup cs => .tup (CV.toAs cs)
  | .nils => .nils
  | .slc st els => .slc st els.length (fun i => (CV.toAss els).getD i [])
  | .vec id ep lo n => .vec id ep lo n
  | .ptr id ep off => .ptr id ep off
  | .eptr id ep i off => .eptr id ep i off
  | .cptr cs off => .cptr (fun i => (CV.toAs cs).getD i .top) cs.length off
  | .nilp => .nilp
  | .fn f cs => .fn f (CV.toAs cs)
  | .nilfn => .nilfn
  | .yld id ep => .yld id ep
  | .mp id ep => .mp id ep
  | .nilmp => .nilmp
  | .cnd c x => .cnd c (CV.toA x)
def CV.toAs : List CV → List AVal
  | [] => []
  | x :: r => CV.toA x :: CV.toAs r
def CV.toAss : List (List CV) → List (List AVal)
  | [] => []
  | x :: r => CV.toAs x :: CV.toAss r
end
theorem toAs_eq : ∀ l : List CV, CV.toAs l = l.map CV.toA
  | [] => by simp [CV.toAs]
  | x :: r => by simp [CV.toAs, toAs_eq r]
theorem toAss_eq : ∀ l : List (List CV), CV.toAss l = l.map CV.toAs
  | [] => by simp [CV.toAss]
  | x :: r => by simp [CV.toAss, toAss_eq r]
mutual
def CV.plain : CV → Bool
  | .agg cs | .tup cs | .fn _ cs => CV.plains cs
  | .slc _ els => CV.plainss els
  | .cptr cs _ => CV.plains cs
  | .cnd _ _ => false
  | .vec _ _ _ _ | .ptr _ _ _ | .eptr _ _ _ _ | .yld _ _ | .mp _ _ => false
  | _ => true
def CV.plains : List CV → Bool
  | [] => true
  | x :: r => x.plain && CV.plains r
def CV.plainss : List (List CV) → Bool
  | [] => true
  | x :: r => CV.plains x && CV.plainss r
end
theorem plains_mem : ∀ {l : List CV} {c : CV}, CV.plains l = true → c ∈ l → c.plain = true
  | x :: r, c, h, hc => by
    simp only [CV.plains, Bool.and_eq_true] at h
    cases hc with
    | head => exact h.1
    | tail _ hc => exact plains_mem h.2 hc
theorem plainss_mem : ∀ {l : List (List CV)} {c : List CV}, CV.plainss l = true → c ∈ l → CV.plains c = true
  | x :: r, c, h, hc => by
    simp only [CV.plainss, Bool.and_eq_true] at h
    cases hc with
    | head => exact h.1
    | tail _ hc => exact plainss_mem h.2 hc
theorem CRel.nr {c : CV} {x : AVal} (h : CRel c x) : c.plain = true → NoRef x := by
  have rows : ∀ {cs : List CV} {l : List AVal}, cs.length = l.length → (∀ (i : Nat) (c : CV) (x : AVal), cs[i]? = some c → l[i]? = some x → c.plain = true → NoRef x) → CV.plains cs = true → ∀ x, x ∈ l → NoRef x := by
    intro cs l hl h hp x hx
    obtain ⟨i, hi, rfl⟩ := List.getElem_of_mem hx
    have hic : i < cs.length := by omega
    exact h i cs[i] l[i] (List.getElem?_eq_getElem hic) (List.getElem?_eq_getElem hi) (plains_mem hp (List.getElem_mem hic))
  induction h with
  | top => intro _; exact .top
  | int k n => intro _; exact .int k n
  | bool b => intro _; exact .bool b
  | str s => intro _; exact .str s
  | agg cs l hl _ ih => intro hp; exact .agg l (rows hl ih (by simpa [CV.plain] using hp))
  | tup cs l hl _ ih => intro hp; exact .tup l (rows hl ih (by simpa [CV.plain] using hp))
  | nils => intro _; exact .nils
  | slc st n els f hn hl _ ih =>
    intro hp
    refine .slc st n f fun i x hi hx => ?_
    have hie : i < els.length := by omega
    exact rows (hl i els[i] (List.getElem?_eq_getElem hie)) (fun j c y hc hy => ih i j els[i] c y (List.getElem?_eq_getElem hie) hc hy) (plainss_mem (by simpa [CV.plain] using hp) (List.getElem_mem hie)) x hx
  | vec => intro hp; simp [CV.plain] at hp
  | ptr => intro hp; simp [CV.plain] at hp
  | eptr => intro hp; simp [CV.plain] at hp
  | cptr cs off lim f hn _ ih =>
    intro hp
    refine .cptr f lim off fun j hj => ?_
    have hjc : j < cs.length := by omega
    exact ih j cs[j] (List.getElem?_eq_getElem hjc) (plains_mem (by simpa [CV.plain] using hp) (List.getElem_mem hjc))
  | nilp => intro _; exact .nilp
  | fn f cs l hl _ ih => intro hp; exact .fn f l (rows hl ih (by simpa [CV.plain] using hp))
  | nilfn => intro _; exact .nilfn
  | yld => intro hp; simp [CV.plain] at hp
  | mp => intro hp; simp [CV.plain] at hp
  | nilmp => intro _; exact .nilmp
  | cnd c x y _ _ => intro hp; simp [CV.plain] at hp
theorem CRel.self : ∀ (n : Nat) (c : CV), SizeOf.sizeOf c < n → CRel c c.toA
  | 0, c, h => by omega
  | n + 1, c, h => by
    have rows : ∀ cs : List CV, (∀ x ∈ cs, SizeOf.sizeOf x < n) → CRs cs (CV.toAs cs) := by
      intro cs hcs
      refine ⟨by simp [toAs_eq], fun i c x hc hx => ?_⟩
      rw [toAs_eq, List.getElem?_map, hc] at hx
      simp at hx; subst hx
      exact CRel.self n c (hcs c (List.mem_of_getElem? hc))
    cases c <;> simp only [CV.toA] <;> (try (constructor; done))
    case agg cs => exact .aggs (rows cs fun x hx => by have := List.sizeOf_lt_of_mem hx; simp at h; omega)
    case tup cs => exact .tups (rows cs fun x hx => by have := List.sizeOf_lt_of_mem hx; simp at h; omega)
    case fn f cs => exact .fns (rows cs fun x hx => by have := List.sizeOf_lt_of_mem hx; simp at h; omega)
    case slc st els =>
      have key : ∀ i row, els[i]? = some row → CRs row ((CV.toAss els).getD i []) := fun i row hr => by
        have e : (CV.toAss els).getD i [] = CV.toAs row := by simp [toAss_eq, List.getD, hr]
        rw [e]
        refine rows row fun x hx => ?_
        have h1 := List.sizeOf_lt_of_mem (List.mem_of_getElem? hr)
        have h2 := List.sizeOf_lt_of_mem hx
        simp at h; omega
      exact .slc _ _ _ _ rfl (fun i row hr => (key i row hr).1) (fun i j row c x hr hc hx => (key i row hr).2 j c x hc hx)
    case cptr cs off =>
      have := rows cs fun x hx => by have := List.sizeOf_lt_of_mem hx; simp at h; omega
      exact .cptr _ _ _ _ rfl fun i c hc => this.getD hc
    case cnd c x => exact .cnd _ _ _ fun _ => CRel.self n x (by simp at h; omega)
theorem toA_nr {c : CV} (h : c.plain = true) : NoRef c.toA := (CRel.self _ c (Nat.lt_succ_self _)).nr h
def omap (f : CV → Option CV) : List CV → Option (List CV)
  | [] => some []
  | x :: r => match f x with
    | some y => match omap f r with
      | some l => some (y :: l)
      | none => none
    | none => none
def omaps (f : CV → Option CV) : List (List CV) → Option (List (List CV))
  | [] => some []
  | x :: r => match omap f x with
    | some y => match omaps f r with
      | some l => some (y :: l)
      | none => none
    | none => none
theorem omap_at {f : CV → Option CV} : ∀ {l m : List CV}, omap f l = some m → m.length = l.length ∧ ∀ (i : Nat) (c d : CV), l[i]? = some c → m[i]? = some d → f c = some d
  | [], m, h => by simp only [omap, Option.some.injEq] at h; subst h; exact ⟨rfl, fun i c d h => by simp at h⟩
  | x :: r, m, h => by
    simp only [omap] at h
    split at h
    · rename_i y hy
      split at h
      · rename_i l hl
        cases h
        obtain ⟨h1, h2⟩ := omap_at hl
        refine ⟨by simp [h1], fun i c d hc hd => ?_⟩
        cases i with
        | zero => simp at hc hd; subst hc; subst hd; exact hy
        | succ i => exact h2 i c d (by simpa using hc) (by simpa using hd)
      · cases h
    · cases h
theorem omaps_at {f : CV → Option CV} : ∀ {l m : List (List CV)}, omaps f l = some m → m.length = l.length ∧ ∀ (i : Nat) (c d : List CV), l[i]? = some c → m[i]? = some d → omap f c = some d
  | [], m, h => by simp only [omaps, Option.some.injEq] at h; subst h; exact ⟨rfl, fun i c d h => by simp at h⟩
  | x :: r, m, h => by
    simp only [omaps] at h
    split at h
    · rename_i y hy
      split at h
      · rename_i l hl
        cases h
        obtain ⟨h1, h2⟩ := omaps_at hl
        refine ⟨by simp [h1], fun i c d hc hd => ?_⟩
        cases i with
        | zero => simp at hc hd; subst hc; subst hd; exact hy
        | succ i => exact h2 i c d (by simpa using hc) (by simpa using hd)
      · cases h
    · cases h
def memN (i : Nat) : List Nat → Bool
  | [] => false
  | j :: r => Nat.beq i j || memN i r
theorem memN_iff {i : Nat} : ∀ {l : List Nat}, memN i l = true ↔ i ∈ l
  | [] => by simp [memN]
  | j :: r => by simp [memN, memN_iff (l := r)]
def cfz (F : List Nat) : Nat → Tr CO → CV → Option CV
  | 0, _, _ => none
  | n + 1, H, v => match v with
    | .agg cs => match omap (cfz F n H) cs with | some l => some (.agg l) | none => none
    | .tup cs => match omap (cfz F n H) cs with | some l => some (.tup l) | none => none
    | .fn f cs => match omap (cfz F n H) cs with | some l => some (.fn f l) | none => none
    | .slc st els => match omaps (cfz F n H) els with | some l => some (.slc st l) | none => none
    | .cptr cs off => match omap (cfz F n H) cs with | some l => some (.cptr l off) | none => none
    | .vec id ep lo k => match cobj H id with
      | .vec ep' st els => if Nat.beq ep ep' && Nat.ble (lo + k) els.length && (els.all fun r => Nat.beq r.length st) && !memN id F then (match omaps (cfz F n H) ((els.drop lo).take k) with | some l => some (.slc st l) | none => none) else none
      | _ => none
    | .ptr id ep off => match cobj H id with
      | .box ep' cs => if Nat.beq ep ep' && !memN id F then (match omap (cfz F n H) cs with | some l => some (.cptr l off) | none => none) else none
      | _ => none
    | .yld _ _ | .mp _ _ | .cnd _ _ | .eptr _ _ _ _ => none
    | v => some v
def frzOut (F : List Nat) (g : Gh) (h : AHeap) : Gh := ⟨g.blk, fun i => if i ∈ F then g.ep i else g.ep i + 1, g.bo, g.st, g.cp, fun b => g.fz b ∨ ∃ i, i ∉ F ∧ (h i).owned = true ∧ g.blk i = b⟩
section
variable {E : Nat → AVal} {P : Program} {F : List Nat} {g : Gh} {h : AHeap} {w : World}
theorem frzOut_ep {i : Nat} : (frzOut F g h).ep i = if i ∈ F then g.ep i else g.ep i + 1 := rfl
theorem frzOut_le : GLe g w (frzOut F g h) w :=
  ⟨fun b hb => ⟨.inl hb, rfl⟩, fun i => by rw [frzOut_ep]; split <;> omega, fun i hi => ⟨rfl, rfl, rfl, rfl⟩⟩
theorem HR.frzOut (H : HR E g h w) {hs : AHeap} (hse : ∀ i, i ∈ F → (hs i).ep = (h i).ep ∧ ((hs i).owned = true → (h i).owned = true)) (hso : ∀ i, i ∈ F → OR g w i (h i) → OR g w i (hs i)) :
    HR E (frzOut F g h) (fun i => if i ∈ F then hs i else .gone (g.ep i + 1)) w ∧ Stp g h w (frzOut F g h) (fun i => if i ∈ F then hs i else .gone (g.ep i + 1)) w := by
  have own : ∀ i, (if i ∈ F then hs i else AObj.gone (g.ep i + 1)).owned = true → i ∈ F ∧ (h i).owned = true := fun i hi => by
    by_cases e : i ∈ F
    · rw [if_pos e] at hi; exact ⟨e, (hse i e).2 hi⟩
    · rw [if_neg e] at hi; cases hi
  refine ⟨⟨fun i => ?_, fun i => ?_, fun i j hi hj e => H.inj i j (own i hi).2 (own j hj).2 e, fun i hi hf => ?_, fun b hb => ?_, fun i => (H.glob i).mono frzOut_le⟩, ⟨frzOut_le, rfl, rfl, rfl, Nat.le_refl _, fun _ _ _ => rfl, fun i hi => .inl ⟨i, (own i hi).2, rfl⟩, fun b hb => ?_⟩⟩
  · by_cases e : i ∈ F
    · simp only [e, if_true]
      exact (hso i e (H.obj i)).mono frzOut_le (by rw [frzOut_ep, if_pos e]) (fun _ => rfl)
    · simp only [e, if_false]; trivial
  · rw [frzOut_ep]
    by_cases e : i ∈ F
    · simp only [e, if_true]; rw [(hse i e).1, H.ep i]
    · simp only [e, if_false]; rfl
  · obtain ⟨h1, h2⟩ := own i hi
    rcases hf with hf | ⟨j, hj, hjo, ej⟩
    · exact H.sep i h2 hf
    · have := H.inj j i hjo h2 ej
      subst this
      exact hj h1
  · rcases hb with hb | ⟨i, _, hi, rfl⟩
    · exact H.fzb b hb
    · exact (H.obj i).lt hi
  · rcases hb with hb | ⟨i, _, hi, rfl⟩
    · exact .inl hb
    · exact .inr (.inl ⟨i, hi, rfl⟩)
theorem rv_fz {V : Env} {C : Tr CO} (H : HR E g h w) (hh : HRel V C h) : ∀ (n : Nat) {v c : CV} {x : AVal} {u : Value}, cfz F n C v = some c → CRel v x → RV g w x u → RV (frzOut F g h) w c.toA u := by
  intro n
  induction n with
  | zero => intro v c x u hc; simp [cfz] at hc
  | succ n ih =>
    intro v c x u hc hx hu
    have rows : ∀ {cs l : List CV} {q : List AVal} {a : Array Value}, omap (cfz F n C) cs = some l → CRs cs q → a.size = q.length → (∀ (i : Nat) (x : AVal) (v : Value), q[i]? = some x → a[i]? = some v → RV g w x v) →
        a.size = (CV.toAs l).length ∧ ∀ (i : Nat) (x : AVal) (v : Value), (CV.toAs l)[i]? = some x → a[i]? = some v → RV (frzOut F g h) w x v := by
      intro cs l q a hm hq hn hr
      obtain ⟨h1, h2⟩ := omap_at hm
      refine ⟨by rw [toAs_eq, List.length_map, h1, hn, hq.1], fun i x v hx hv => ?_⟩
      rw [toAs_eq, List.getElem?_map] at hx
      cases hl : l[i]? with
      | none => rw [hl] at hx; cases hx
      | some d =>
        rw [hl] at hx
        simp at hx; subst hx
        have hi : i < cs.length := by rw [← h1]; exact (List.getElem?_eq_some_iff.1 hl).1
        have hc' : cs[i]? = some cs[i] := List.getElem?_eq_getElem hi
        obtain ⟨y, hy, hry⟩ := hq.get hc'
        exact ih (h2 i _ d hc' hl) hry (hr i y v hy hv)
    cases hx with
    | top => simp only [cfz, Option.some.injEq] at hc; subst hc; exact .top _
    | int k m => simp only [cfz, Option.some.injEq] at hc; subst hc; rw [rv_int hu]; exact .int _ _
    | bool b => simp only [cfz, Option.some.injEq] at hc; subst hc; rw [rv_bool hu]; exact .bool _
    | str s => simp only [cfz, Option.some.injEq] at hc; subst hc; cases hu; exact .str _ _ (by assumption)
    | nils => simp only [cfz, Option.some.injEq] at hc; subst hc; cases hu; exact .nils
    | nilp => simp only [cfz, Option.some.injEq] at hc; subst hc; cases hu; exact .nilp
    | nilfn => simp only [cfz, Option.some.injEq] at hc; subst hc; cases hu; exact .nilfn
    | nilmp => simp only [cfz, Option.some.injEq] at hc; subst hc; cases hu; exact .nilmp
    | yld => simp [cfz] at hc
    | mp => simp [cfz] at hc
    | eptr => simp [cfz] at hc
    | cnd => simp [cfz] at hc
    | agg cs l hl hr =>
      simp only [cfz] at hc
      split at hc
      · rename_i m hm
        cases hc
        cases hu with
        | agg _ a hn hv =>
          obtain ⟨q1, q2⟩ := rows hm ⟨hl, hr⟩ hn hv
          exact .agg _ _ q1 q2
      · cases hc
    | tup cs l hl hr =>
      simp only [cfz] at hc
      split at hc
      · rename_i m hm
        cases hc
        cases hu with
        | tup _ a hn hv =>
          obtain ⟨q1, q2⟩ := rows hm ⟨hl, hr⟩ hn hv
          exact .tup _ _ q1 q2
      · cases hc
    | fn f cs l hl hr =>
      simp only [cfz] at hc
      split at hc
      · rename_i m hm
        cases hc
        cases hu with
        | fn _ _ a hn hv =>
          obtain ⟨q1, q2⟩ := rows hm ⟨hl, hr⟩ hn hv
          exact .fn _ _ _ q1 q2
      · cases hc
    | slc st k els f hn hl hr =>
      simp only [cfz] at hc
      split at hc
      · rename_i m hm
        cases hc
        obtain ⟨m1, m2⟩ := omaps_at hm
        simp only [CV.toA]
        cases hu with
        | slc0 _ _ ad cap =>
          have : m.length = 0 := by omega
          rw [this]
          exact .slc0 _ _ _ _
        | slc _ _ _ b off cap vals hz hcap hl' hcell h1 hrv =>
          have key : ∀ i, i < k → ∃ row, els[i]? = some row ∧ omap (cfz F n C) row = some ((m[i]?).getD []) ∧ (CV.toAss m).getD i [] = CV.toAs ((m[i]?).getD []) := fun i hi => by
            have hie : i < els.length := by omega
            have him : i < m.length := by omega
            refine ⟨els[i], List.getElem?_eq_getElem hie, ?_, ?_⟩
            · rw [List.getElem?_eq_getElem him]; exact m2 i _ _ (List.getElem?_eq_getElem hie) (List.getElem?_eq_getElem him)
            · simp [toAss_eq, List.getD, him]
          have e : m.length = k := by omega
          rw [e]
          refine .slc st k _ b off cap vals (.inl hz) hcap (fun i hi => ?_) hcell h1 (fun i j x hi hxx => ?_)
          · obtain ⟨row, hrow, hom, ht⟩ := key i hi
            rw [ht, toAs_eq, List.length_map, (omap_at hom).1, hl i row hrow, hl' i hi]
          · obtain ⟨row, hrow, hom, ht⟩ := key i hi
            rw [ht, toAs_eq, List.getElem?_map] at hxx
            cases hmm : ((m[i]?).getD [])[j]? with
            | none => rw [hmm] at hxx; cases hxx
            | some d =>
              rw [hmm] at hxx; simp at hxx; subst hxx
              have hj : j < row.length := by rw [← (omap_at hom).1]; exact (List.getElem?_eq_some_iff.1 hmm).1
              have hrj : row[j]? = some row[j] := List.getElem?_eq_getElem hj
              have hfj : j < (f i).length := by rw [← hl i row hrow]; exact hj
              exact ih ((omap_at hom).2 j _ d hrj hmm) (hr i j row _ _ hrow hrj (List.getElem?_eq_getElem hfj)) (hrv i j _ hi (List.getElem?_eq_getElem hfj))
      · cases hc
    | cptr cs off lim f hn hr =>
      simp only [cfz] at hc
      split at hc
      · rename_i m hm
        cases hc
        obtain ⟨m1, m2⟩ := omap_at hm
        simp only [CV.toA]
        cases hu with
        | cptr _ _ _ b base vals hz hcell hrv =>
          refine .cptr _ _ _ b base vals (.inl hz) (fun j hj => hcell j (by omega)) (fun j hj => ?_)
          have hjc : j < cs.length := by omega
          have e : (CV.toAs m).getD j .top = m[j].toA := by simp [toAs_eq, List.getD, hj]
          rw [e]
          exact ih (m2 j cs[j] m[j] (List.getElem?_eq_getElem hjc) (List.getElem?_eq_getElem hj)) (hr j _ (List.getElem?_eq_getElem hjc)) (hrv j (by omega))
      · cases hc
    | vec id ep lo k =>
      simp only [cfz] at hc
      have ho := cobj_rel hh id
      split at hc
      · rename_i ep' st els hb
        rw [hb] at ho
        obtain ⟨f, hl, hr⟩ := ho
        split at hc
        · rename_i hcond
          simp only [Bool.and_eq_true, Nat.beq_eq, Nat.ble_eq, List.all_eq_true, Bool.not_eq_true'] at hcond
          obtain ⟨⟨⟨c1, c2⟩, c3⟩, c4⟩ := hcond
          have c4 : id ∉ F := fun e => by rw [memN_iff.2 e] at c4; cases c4
          split at hc
          · rename_i m hm
            cases hc
            obtain ⟨m1, m2⟩ := omaps_at hm
            have hO := H.obj id
            rw [hl] at hO
            obtain ⟨hst, h0, hcp, arr, ty, hblk, hfit, hel⟩ := hO
            obtain ⟨ad, cap, rfl, hcap, hcc⟩ := vec_at H hu (by rw [hl]; exact c1)
            have e : m.length = k := by rw [m1]; simp; omega
            simp only [CV.toA, e]
            rcases Nat.eq_zero_or_pos k with e0 | e0
            · subst e0; exact .slc0 _ _ _ _
            · rcases hcc with hc0 | ⟨rfl, hc2⟩
              · omega
              · have hbd : ∀ i j, i < k → j < st → g.bo id + lo * g.st id + i * st + j < arr.size := fun i j hi hj => by
                  have := mul_bd (k := lo + i) (n := g.cp id) (st := st) (j := j) (by omega) hj
                  rw [Nat.add_mul] at this
                  rw [hst]; omega
                have key : ∀ i, i < k → ∃ row, els[lo + i]? = some row ∧ row.length = st ∧ CRs row (f (lo + i)) ∧ omap (cfz F n C) row = some ((m[i]?).getD []) ∧ (CV.toAss m).getD i [] = CV.toAs ((m[i]?).getD []) := fun i hi => by
                  have hie : lo + i < els.length := by omega
                  have him : i < m.length := by omega
                  have hw : ((els.drop lo).take k)[i]? = some els[lo + i] := by
                    rw [List.getElem?_take, if_pos hi, List.getElem?_drop]; exact List.getElem?_eq_getElem hie
                  refine ⟨els[lo + i], List.getElem?_eq_getElem hie, c3 _ (List.getElem_mem hie), hr.2 _ _ (List.getElem?_eq_getElem hie), ?_, ?_⟩
                  · rw [List.getElem?_eq_getElem him]; exact m2 i _ _ hw (List.getElem?_eq_getElem him)
                  · simp [toAss_eq, List.getD, him]
                refine .slc st k _ (g.blk id) (g.bo id + lo * g.st id) cap (fun i j => arr.getD (g.bo id + lo * g.st id + i * st + j) undef) (.inr ⟨id, c4, by rw [hl]; rfl, rfl⟩) hcap (fun i hi => ?_) (fun i j hi hj => ?_) (fun i j hi hj => ?_) (fun i j x hi hxx => ?_)
                · obtain ⟨row, hrow, hlen, hcr, hom, ht⟩ := key i hi
                  rw [ht, toAs_eq, List.length_map, (omap_at hom).1, hlen]
                · have := hbd i j hi hj
                  simp [World.cell?, hblk, this]
                · obtain ⟨row, hrow, hlen, hcr, hom, ht⟩ := key i hi
                  have hfj : j < (f (lo + i)).length := by rw [← hcr.1, hlen]; exact hj
                  have := hbd i j hi hj
                  refine ((hel (lo + i) (by omega)).2 j _ _ (List.getElem?_eq_getElem hfj) ?_).1
                  have e4 : g.bo id + (lo + i) * st + j = g.bo id + lo * g.st id + i * st + j := by rw [hst, Nat.add_mul]; omega
                  rw [e4]; simp [this]
                · obtain ⟨row, hrow, hlen, hcr, hom, ht⟩ := key i hi
                  rw [ht, toAs_eq, List.getElem?_map] at hxx
                  cases hmm : ((m[i]?).getD [])[j]? with
                  | none => rw [hmm] at hxx; cases hxx
                  | some d =>
                    rw [hmm] at hxx; simp at hxx; subst hxx
                    have hj : j < row.length := by rw [← (omap_at hom).1]; exact (List.getElem?_eq_some_iff.1 hmm).1
                    have hrj : row[j]? = some row[j] := List.getElem?_eq_getElem hj
                    obtain ⟨y, hy, hry⟩ := hcr.get hrj
                    have hjs : j < st := by omega
                    have := hbd i j hi hjs
                    refine ih ((omap_at hom).2 j _ d hrj hmm) hry ((hel (lo + i) (by omega)).2 j _ _ hy ?_).2
                    have e4 : g.bo id + (lo + i) * st + j = g.bo id + lo * g.st id + i * st + j := by rw [hst, Nat.add_mul]; omega
                    rw [e4]; simp [this]
          · cases hc
        · cases hc
      · cases hc
    | ptr id ep off =>
      simp only [cfz] at hc
      have ho := cobj_rel hh id
      split at hc
      · rename_i ep' cs hb
        rw [hb] at ho
        obtain ⟨l, hl, hr⟩ := ho
        split at hc
        · rename_i he
          simp only [Bool.and_eq_true, Nat.beq_eq, Bool.not_eq_true'] at he
          obtain ⟨he, c4⟩ := he
          have c4 : id ∉ F := fun e => by rw [memN_iff.2 e] at c4; cases c4
          split at hc
          · rename_i m hm
            cases hc
            obtain ⟨m1, m2⟩ := omap_at hm
            have hO := H.obj id
            rw [hl] at hO
            obtain ⟨arr, ty, hblk, hrv⟩ := hO
            obtain rfl := ptr_at H hu (by rw [hl]; exact he)
            have hsz : arr.size = l.length := by simpa using hrv.1
            have hcl : cs.length = l.length := hr.1
            have := RV.cptr (g := frzOut F g h) (w := w) (fun i => (CV.toAs m).getD i .top) m.length off (g.blk id) 0 (fun j => arr.getD j undef) (.inr ⟨id, c4, by rw [hl]; rfl, rfl⟩) (fun j hj => by
                have : j < arr.size := by omega
                simp [World.cell?, hblk, this]) (fun j hj => by
                have hjc : j < cs.length := by omega
                have e : (CV.toAs m).getD j .top = m[j].toA := by simp [toAs_eq, List.getD, hj]
                rw [e]
                exact ih (m2 j cs[j] m[j] (List.getElem?_eq_getElem hjc) (List.getElem?_eq_getElem hj)) (hr.getD (List.getElem?_eq_getElem hjc)) (hrv.getD j))
            rwa [Nat.zero_add] at this
          · cases hc
        · cases hc
      · cases hc
theorem rv_same {c : CV} {x : AVal} (hx : CRel c x) : ∀ {y : AVal} {v : Value}, CRel c y → RV g w x v → RV g w y v := by
  have rows : ∀ {cs : List CV} {l m : List AVal} {a : Array Value}, (∀ (i : Nat) (c : CV) (x : AVal), cs[i]? = some c → l[i]? = some x → ∀ {y : AVal} {v : Value}, CRel c y → RV g w x v → RV g w y v) → cs.length = l.length → CRs cs m → a.size = l.length →
      (∀ (i : Nat) (x : AVal) (v : Value), l[i]? = some x → a[i]? = some v → RV g w x v) → a.size = m.length ∧ ∀ (i : Nat) (x : AVal) (v : Value), m[i]? = some x → a[i]? = some v → RV g w x v := by
    intro cs l m a ih hl hm hn hr
    refine ⟨by rw [hn, ← hl, hm.1], fun i y v hy hv => ?_⟩
    have hi : i < cs.length := by rw [hm.1]; exact (List.getElem?_eq_some_iff.1 hy).1
    have hli : i < l.length := by omega
    exact ih i cs[i] l[i] (List.getElem?_eq_getElem hi) (List.getElem?_eq_getElem hli) (hm.2 i _ y (List.getElem?_eq_getElem hi) hy) (hr i _ v (List.getElem?_eq_getElem hli) hv)
  induction hx with
  | agg cs l hl _ ih =>
    intro y v hy hv
    cases hy with
    | agg _ m hm hr =>
      cases hv with
      | agg _ a hn ha => obtain ⟨q1, q2⟩ := rows ih hl ⟨hm, hr⟩ hn ha; exact .agg _ _ q1 q2
  | tup cs l hl _ ih =>
    intro y v hy hv
    cases hy with
    | tup _ m hm hr =>
      cases hv with
      | tup _ a hn ha => obtain ⟨q1, q2⟩ := rows ih hl ⟨hm, hr⟩ hn ha; exact .tup _ _ q1 q2
  | fn f cs l hl _ ih =>
    intro y v hy hv
    cases hy with
    | fn _ _ m hm hr =>
      cases hv with
      | fn _ _ a hn ha => obtain ⟨q1, q2⟩ := rows ih hl ⟨hm, hr⟩ hn ha; exact .fn _ _ _ q1 q2
  | slc st n els f hn hl _ ih =>
    intro y v hy hv
    cases hy with
    | slc _ n' _ f' hn' hl' hr' =>
      obtain rfl : n = n' := by omega
      cases hv with
      | slc0 _ _ ad cap => exact .slc0 _ _ _ _
      | slc _ _ _ b off cap vals hz hcap hll hc h1 hr =>
        have len : ∀ i, i < n → (f' i).length = (f i).length := fun i hi => by
          have hie : i < els.length := by omega
          rw [← hl' i _ (List.getElem?_eq_getElem hie), hl i _ (List.getElem?_eq_getElem hie)]
        refine .slc st n f' b off cap vals hz hcap (fun i hi => by rw [len i hi]; exact hll i hi) hc h1 fun i j x hi hx => ?_
        have hie : i < els.length := by omega
        have hj : j < (f' i).length := (List.getElem?_eq_some_iff.1 hx).1
        have hj2 : j < (f i).length := by rw [← len i hi]; exact hj
        have hje : j < els[i].length := by rw [hl' i _ (List.getElem?_eq_getElem hie)]; exact hj
        exact ih i j els[i] els[i][j] _ (List.getElem?_eq_getElem hie) (List.getElem?_eq_getElem hje) (List.getElem?_eq_getElem hj2) (hr' i j _ _ x (List.getElem?_eq_getElem hie) (List.getElem?_eq_getElem hje) hx) (hr i j _ hi (List.getElem?_eq_getElem hj2))
  | cptr cs off lim f hn _ ih =>
    intro y v hy hv
    cases hy with
    | cptr _ _ lim' f' hn' hr' =>
      obtain rfl : lim = lim' := by omega
      cases hv with
      | cptr _ _ _ b base vals hz hc hr =>
        refine .cptr f' lim off b base vals hz hc fun j hj => ?_
        have hje : j < cs.length := by omega
        exact ih j cs[j] (List.getElem?_eq_getElem hje) (hr' j _ (List.getElem?_eq_getElem hje)) (hr j hj)
  | cnd c x z _ ih =>
    intro y v hy hv
    cases hy with
    | cnd _ _ y' hy' =>
      cases hv with
      | cnd _ _ _ h1 h0 => exact .cnd c y' v (fun e => ih e (hy' e) (h1 e)) h0
  | _ => intro y v hy hv; cases hy; exact hv
theorem or_same {V : Env} {i : Nat} {c : CO} {o o' : AObj} (ho : CORel V i c o) (ho' : CORel V i c o') (hl : ∀ e s pe ts nt ps a b D eD, c ≠ .loop e s pe ts nt ps a b D eD) (h : OR g w i o) : OR g w i o' := by
  cases c with
  | gone e => obtain rfl := ho; obtain rfl := ho'; exact h
  | dfr e => obtain rfl := ho; obtain rfl := ho'; exact h
  | loop e s pe ts nt ps a b D eD => exact absurd rfl (hl e s pe ts nt ps a b D eD)
  | box e cs =>
    obtain ⟨l, rfl, hr⟩ := ho
    obtain ⟨m, rfl, hm⟩ := ho'
    obtain ⟨arr, ty, hb, hv⟩ := h
    refine ⟨arr, ty, hb, by rw [hv.1, ← hr.1, hm.1], fun j y v hy hvv => ?_⟩
    have hj : j < cs.length := by rw [hm.1]; exact (List.getElem?_eq_some_iff.1 hy).1
    have hjl : j < l.length := by rw [← hr.1]; exact hj
    exact rv_same (hr.2 j cs[j] l[j] (List.getElem?_eq_getElem hj) (List.getElem?_eq_getElem hjl)) (hm.2 j _ y (List.getElem?_eq_getElem hj) hy) (hv.2 j _ v (List.getElem?_eq_getElem hjl) hvv)
  | vec e st els =>
    obtain ⟨f, rfl, hr⟩ := ho
    obtain ⟨f', rfl, hr'⟩ := ho'
    obtain ⟨h1, h2, h3, arr, ty, hb, hf, hel⟩ := h
    refine ⟨h1, h2, h3, arr, ty, hb, hf, fun k hk => ?_⟩
    have q := hr.2 k els[k] (List.getElem?_eq_getElem hk)
    have q' := hr'.2 k els[k] (List.getElem?_eq_getElem hk)
    refine ⟨by rw [← q'.1, q.1]; exact (hel k hk).1, fun j y v hy hv => ?_⟩
    have hj : j < els[k].length := by rw [q'.1]; exact (List.getElem?_eq_some_iff.1 hy).1
    have hjl : j < (f k).length := by rw [← q.1]; exact hj
    obtain ⟨p1, p2⟩ := (hel k hk).2 j _ v (List.getElem?_eq_getElem hjl) hv
    exact ⟨p1, rv_same (q.2 j _ _ (List.getElem?_eq_getElem hj) (List.getElem?_eq_getElem hjl)) (q'.2 j _ y (List.getElem?_eq_getElem hj) hy) p2⟩
  | amap e es =>
    obtain ⟨l, rfl, hl1, hr⟩ := ho
    obtain ⟨m, rfl, hm1, hm⟩ := ho'
    obtain ⟨arr, hb, hs, hel⟩ := h
    have elen : m.length = l.length := by omega
    refine ⟨arr, by rw [elen]; exact hb, by rw [elen]; exact hs, fun k y mm hy hmm => ?_⟩
    have hk : k < es.length := by rw [hm1]; exact (List.getElem?_eq_some_iff.1 hy).1
    have hkl : k < l.length := by omega
    obtain ⟨p1, p2, p3⟩ := hel k l[k] mm (List.getElem?_eq_getElem hkl) hmm
    obtain ⟨a1, a2⟩ := hr k es[k] l[k] (List.getElem?_eq_getElem hk) (List.getElem?_eq_getElem hkl)
    obtain ⟨b1, b2⟩ := hm k es[k] y (List.getElem?_eq_getElem hk) hy
    exact ⟨rv_same a1 b1 p1, rv_same a2 b2 p2, p3⟩
theorem ATr.frozen {V : Env} {f : FuncId} {args : List AVal} {n : Nat} {v c : CV} {C C0 : Tr CO} (hc : cfz F n C v = some c) (h0 : HRel V C0 h) (hsame : ∀ i, i ∈ F → cobj C i = cobj C0 i ∧ ∀ e s pe ts nt ps a b D eD, cobj C i ≠ .loop e s pe ts nt ps a b D eD)
    (H : ATr E P f args h (fun r h' => CRel v r ∧ HRel V C h')) : ATr E P f args h (fun r h' => r = c.toA ∧ ∀ i, i ∈ F → h' i = h i) := by
  intro g w vs hh hv
  refine (H g w vs hh hv).mono ?_
  rintro e w' ⟨g', h', r, u, ⟨hr, hH⟩, rfl, hru, hh', st⟩
  have rel : ∀ i, i ∈ F → CORel V i (cobj C i) (h' i) ∧ CORel V i (cobj C i) (h i) := fun i hi => ⟨cobj_rel hH i, by rw [(hsame i hi).1]; exact cobj_rel h0 i⟩
  have epow : ∀ {c : CO} {i : Nat} {o o' : AObj}, CORel V i c o → CORel V i c o' → o'.ep = o.ep ∧ (o'.owned = true → o.owned = true) := by
    intro c i o o' h1 h2
    cases c with
    | gone e => obtain rfl := h1; obtain rfl := h2; exact ⟨rfl, id⟩
    | dfr e => obtain rfl := h1; obtain rfl := h2; exact ⟨rfl, id⟩
    | loop _ _ _ _ _ _ _ _ _ _ => obtain ⟨g1, _, rfl, _⟩ := h1; obtain ⟨g2, _, rfl, _⟩ := h2; exact ⟨rfl, id⟩
    | box _ _ => obtain ⟨l, rfl, _⟩ := h1; obtain ⟨m, rfl, _⟩ := h2; exact ⟨rfl, id⟩
    | vec _ _ _ => obtain ⟨l, rfl, _⟩ := h1; obtain ⟨m, rfl, _⟩ := h2; exact ⟨rfl, id⟩
    | amap _ _ => obtain ⟨l, rfl, _⟩ := h1; obtain ⟨m, rfl, _⟩ := h2; exact ⟨rfl, id⟩
  obtain ⟨q1, q2⟩ := hh'.frzOut (F := F) (hs := h) (fun i hi => epow (rel i hi).1 (rel i hi).2) (fun i hi ho => or_same (rel i hi).1 (rel i hi).2 (hsame i hi).2 ho)
  exact ⟨Am.frzOut F g' h', _, c.toA, u, ⟨rfl, fun i hi => if_pos hi⟩, rfl, rv_fz hh' hH n hc hr hru, q1, st.trans q2⟩
end
end Go.Am
set_option linter.unusedVariables false
set_option linter.unusedSimpArgs false
namespace Go.Am
def beqB : List UInt8 → List UInt8 → Bool
  | [], [] => true
  | a :: l, b :: m => Nat.beq a.toNat b.toNat && beqB l m
  | _, _ => false
theorem beqB_eq : ∀ {l m : List UInt8}, beqB l m = true → l = m
  | [], [], _ => rfl
  | a :: l, b :: m, h => by
    simp only [beqB, Bool.and_eq_true, Nat.beq_eq] at h
    rw [UInt8.toNat_inj.1 h.1, beqB_eq h.2]
  | [], _ :: _, h => by cases h
  | _ :: _, [], h => by cases h
mutual
def CV.beq : CV → CV → Bool
  | .top, .top => true
  | .int k a, .int k' b => decide (k = k') && decide (a = b)
  | .bool a, .bool b => a == b
  | .str a, .str b => beqB a b
  | .agg l, .agg m => CV.beqs l m
  | .tup l, .tup m => CV.beqs l m
  | .nils, .nils => true
  | .slc st l, .slc st' m => Nat.beq st st' && CV.beqss l m
  | .vec a b c d, .vec a' b' c' d' => Nat.beq a a' && Nat.beq b b' && Nat.beq c c' && Nat.beq d d'
  | .ptr a b c, .ptr a' b' c' => Nat.beq a a' && Nat.beq b b' && Nat.beq c c'
  | .eptr a b c d, .eptr a' b' c' d' => Nat.beq a a' && Nat.beq b b' && Nat.beq c c' && Nat.beq d d'
  | .cptr l o, .cptr m o' => CV.beqs l m && Nat.beq o o'
  | .nilp, .nilp => true
  | .fn f l, .fn f' m => Nat.beq f f' && CV.beqs l m
  | .nilfn, .nilfn => true
  | .mp a b, .mp a' b' => Nat.beq a a' && Nat.beq b b'
  | .nilmp, .nilmp => true
  | _, _ => false
def CV.beqs : List CV → List CV → Bool
  | [], [] => true
  | x :: l, y :: m => CV.beq x y && CV.beqs l m
  | _, _ => false
def CV.beqss : List (List CV) → List (List CV) → Bool
  | [], [] => true
  | x :: l, y :: m => CV.beqs x y && CV.beqss l m
  | _, _ => false
end
mutual
theorem CV.beq_eq : ∀ (c d : CV), CV.beq c d = true → c = d
  | .top, d, h => by cases d <;> simp [CV.beq] at h; rfl
  | .int k n, d, h => by cases d <;> simp [CV.beq] at h; obtain ⟨rfl, rfl⟩ := h; rfl
  | .bool b, d, h => by cases d <;> simp [CV.beq] at h; subst h; rfl
  | .str s, d, h => by cases d <;> simp [CV.beq] at h; rw [beqB_eq h]
  | .agg l, d, h => by cases d <;> simp [CV.beq] at h; rw [CV.beqs_eq l _ h]
  | .tup l, d, h => by cases d <;> simp [CV.beq] at h; rw [CV.beqs_eq l _ h]
  | .nils, d, h => by cases d <;> simp [CV.beq] at h; rfl
  | .slc st l, d, h => by cases d <;> simp [CV.beq] at h; obtain ⟨rfl, h⟩ := h; rw [CV.beqss_eq l _ h]
  | .vec a b c e, d, h => by cases d <;> simp [CV.beq] at h; obtain ⟨⟨⟨rfl, rfl⟩, rfl⟩, rfl⟩ := h; rfl
  | .ptr a b c, d, h => by cases d <;> simp [CV.beq] at h; obtain ⟨⟨rfl, rfl⟩, rfl⟩ := h; rfl
  | .eptr a b c e, d, h => by cases d <;> simp [CV.beq] at h; obtain ⟨⟨⟨rfl, rfl⟩, rfl⟩, rfl⟩ := h; rfl
  | .cptr l o, d, h => by cases d <;> simp [CV.beq] at h; obtain ⟨h, rfl⟩ := h; rw [CV.beqs_eq l _ h]
  | .nilp, d, h => by cases d <;> simp [CV.beq] at h; rfl
  | .fn f l, d, h => by cases d <;> simp [CV.beq] at h; obtain ⟨rfl, h⟩ := h; rw [CV.beqs_eq l _ h]
  | .nilfn, d, h => by cases d <;> simp [CV.beq] at h; rfl
  | .yld a b, d, h => by cases d <;> simp [CV.beq] at h
  | .mp a b, d, h => by cases d <;> simp [CV.beq] at h; obtain ⟨rfl, rfl⟩ := h; rfl
  | .nilmp, d, h => by cases d <;> simp [CV.beq] at h; rfl
  | .cnd c x, d, h => by cases d <;> simp [CV.beq] at h
theorem CV.beqs_eq : ∀ (l m : List CV), CV.beqs l m = true → l = m
  | [], m, h => by cases m <;> simp [CV.beqs] at h; rfl
  | x :: l, m, h => by
    cases m with
    | nil => simp [CV.beqs] at h
    | cons y m => simp only [CV.beqs, Bool.and_eq_true] at h; rw [CV.beq_eq x y h.1, CV.beqs_eq l m h.2]
theorem CV.beqss_eq : ∀ (l m : List (List CV)), CV.beqss l m = true → l = m
  | [], m, h => by cases m <;> simp [CV.beqss] at h; rfl
  | x :: l, m, h => by
    cases m with
    | nil => simp [CV.beqss] at h
    | cons y m => simp only [CV.beqss, Bool.and_eq_true] at h; rw [CV.beqs_eq x y h.1, CV.beqss_eq l m h.2]
end
def beqE : List (CV × CV) → List (CV × CV) → Bool
  | [], [] => true
  | x :: l, y :: m => CV.beq x.1 y.1 && CV.beq x.2 y.2 && beqE l m
  | _, _ => false
theorem beqE_eq : ∀ {l m : List (CV × CV)}, beqE l m = true → l = m
  | [], [], _ => rfl
  | (a, b) :: l, (c, d) :: m, h => by
    simp only [beqE, Bool.and_eq_true] at h
    rw [CV.beq_eq a c h.1.1, CV.beq_eq b d h.1.2, beqE_eq h.2]
  | [], _ :: _, h => by cases h
  | _ :: _, [], h => by cases h
def CO.beq : CO → CO → Bool
  | .gone a, .gone b => Nat.beq a b
  | .box a l, .box b m => Nat.beq a b && CV.beqs l m
  | .vec a st l, .vec b st' m => Nat.beq a b && Nat.beq st st' && CV.beqss l m
  | .amap a l, .amap b m => Nat.beq a b && beqE l m
  | _, _ => false
theorem CO.beq_eq {a b : CO} (h : CO.beq a b = true) : a = b ∧ ∀ e s pe ts nt ps x y D eD, a ≠ .loop e s pe ts nt ps x y D eD := by
  cases a <;> cases b <;> simp [CO.beq] at h
  · exact ⟨by rw [h], fun _ _ _ _ _ _ _ _ _ _ e => by cases e⟩
  · obtain ⟨rfl, h⟩ := h; exact ⟨by rw [CV.beqs_eq _ _ h], fun _ _ _ _ _ _ _ _ _ _ e => by cases e⟩
  · obtain ⟨⟨rfl, rfl⟩, h⟩ := h; exact ⟨by rw [CV.beqss_eq _ _ h], fun _ _ _ _ _ _ _ _ _ _ e => by cases e⟩
  · obtain ⟨rfl, h⟩ := h; exact ⟨by rw [beqE_eq h], fun _ _ _ _ _ _ _ _ _ _ e => by cases e⟩
mutual
def CV.inF (F : List Nat) : CV → Bool
  | .agg cs | .tup cs | .fn _ cs => CV.inFs F cs
  | .slc _ els => CV.inFss F els
  | .cptr cs _ => CV.inFs F cs
  | .vec id _ _ _ | .ptr id _ _ | .eptr id _ _ _ | .mp id _ => memN id F
  | .cnd _ _ | .yld _ _ => false
  | _ => true
def CV.inFs (F : List Nat) : List CV → Bool
  | [] => true
  | x :: r => CV.inF F x && CV.inFs F r
def CV.inFss (F : List Nat) : List (List CV) → Bool
  | [] => true
  | x :: r => CV.inFs F x && CV.inFss F r
end
theorem inFs_mem {F : List Nat} : ∀ {l : List CV} {c : CV}, CV.inFs F l = true → c ∈ l → CV.inF F c = true
  | x :: r, c, h, hc => by
    simp only [CV.inFs, Bool.and_eq_true] at h
    cases hc with
    | head => exact h.1
    | tail _ hc => exact inFs_mem h.2 hc
theorem inFss_mem {F : List Nat} : ∀ {l : List (List CV)} {c : List CV}, CV.inFss F l = true → c ∈ l → CV.inFs F c = true
  | x :: r, c, h, hc => by
    simp only [CV.inFss, Bool.and_eq_true] at h
    cases hc with
    | head => exact h.1
    | tail _ hc => exact inFss_mem h.2 hc
theorem CRel.refs {F : List Nat} {c : CV} {x : AVal} (h : CRel c x) : CV.inF F c = true → RefsIn F x := by
  have rows : ∀ {cs : List CV} {l : List AVal}, cs.length = l.length → (∀ (i : Nat) (c : CV) (x : AVal), cs[i]? = some c → l[i]? = some x → CV.inF F c = true → RefsIn F x) → CV.inFs F cs = true → ∀ x, x ∈ l → RefsIn F x := by
    intro cs l hl h hp x hx
    obtain ⟨i, hi, rfl⟩ := List.getElem_of_mem hx
    have hic : i < cs.length := by omega
    exact h i cs[i] l[i] (List.getElem?_eq_getElem hic) (List.getElem?_eq_getElem hi) (inFs_mem hp (List.getElem_mem hic))
  induction h with
  | top => intro _; exact .top
  | int k n => intro _; exact .int k n
  | bool b => intro _; exact .bool b
  | str s => intro _; exact .str s
  | agg cs l hl _ ih => intro hp; exact .agg l (rows hl ih (by simpa [CV.inF] using hp))
  | tup cs l hl _ ih => intro hp; exact .tup l (rows hl ih (by simpa [CV.inF] using hp))
  | nils => intro _; exact .nils
  | slc st n els f hn hl _ ih =>
    intro hp
    refine .slc st n f fun i x hi hx => ?_
    have hie : i < els.length := by omega
    exact rows (hl i els[i] (List.getElem?_eq_getElem hie)) (fun j c y hc hy => ih i j els[i] c y (List.getElem?_eq_getElem hie) hc hy) (inFss_mem (by simpa [CV.inF] using hp) (List.getElem_mem hie)) x hx
  | vec id ep lo n => intro hp; exact .vec _ _ _ _ (memN_iff.1 (by simpa [CV.inF] using hp))
  | ptr id ep off => intro hp; exact .ptr _ _ _ (memN_iff.1 (by simpa [CV.inF] using hp))
  | eptr id ep i off => intro hp; exact .eptr _ _ _ _ (memN_iff.1 (by simpa [CV.inF] using hp))
  | cptr cs off lim f hn _ ih =>
    intro hp
    refine .cptr f lim off fun j hj => ?_
    have hjc : j < cs.length := by omega
    exact ih j cs[j] (List.getElem?_eq_getElem hjc) (inFs_mem (by simpa [CV.inF] using hp) (List.getElem_mem hjc))
  | nilp => intro _; exact .nilp
  | fn f cs l hl _ ih => intro hp; exact .fn f l (rows hl ih (by simpa [CV.inF] using hp))
  | nilfn => intro _; exact .nilfn
  | yld => intro hp; simp [CV.inF] at hp
  | mp id ep => intro hp; exact .mp _ _ (memN_iff.1 (by simpa [CV.inF] using hp))
  | nilmp => intro _; exact .nilmp
  | cnd c x y _ _ => intro hp; simp [CV.inF] at hp
theorem CRs.refs {F : List Nat} {cs : List CV} {l : List AVal} (h : CRs cs l) (hp : CV.inFs F cs = true) : ∀ x, x ∈ l → RefsIn F x := by
  intro x hx
  obtain ⟨i, hi, rfl⟩ := List.getElem_of_mem hx
  have hic : i < cs.length := by rw [h.1]; exact hi
  exact (h.2 i cs[i] l[i] (List.getElem?_eq_getElem hic) (List.getElem?_eq_getElem hi)).refs (inFs_mem hp (List.getElem_mem hic))
def inFe (F : List Nat) : List (CV × CV) → Bool
  | [] => true
  | x :: r => CV.inF F x.1 && CV.inF F x.2 && inFe F r
theorem inFe_mem {F : List Nat} : ∀ {l : List (CV × CV)} {c : CV × CV}, inFe F l = true → c ∈ l → CV.inF F c.1 = true ∧ CV.inF F c.2 = true
  | x :: r, c, h, hc => by
    simp only [inFe, Bool.and_eq_true] at h
    cases hc with
    | head => exact h.1
    | tail _ hc => exact inFe_mem h.2 hc
def CO.inF (F : List Nat) : CO → Bool
  | .gone _ => true
  | .box _ cs => CV.inFs F cs
  | .vec _ _ els => CV.inFss F els
  | .amap _ es => inFe F es
  | _ => false
theorem CORel.refs {V : Env} {F : List Nat} {i : Nat} {c : CO} {o : AObj} (h : CORel V i c o) (hp : CO.inF F c = true) : ORefs F o := by
  cases c with
  | gone e => obtain rfl := h; trivial
  | box e cs => obtain ⟨l, rfl, hr⟩ := h; exact hr.refs hp
  | vec e st els =>
    obtain ⟨f, rfl, hr⟩ := h
    intro k x hk hx
    exact (hr.2 k els[k] (List.getElem?_eq_getElem hk)).refs (inFss_mem hp (List.getElem_mem hk)) x hx
  | amap e es =>
    obtain ⟨l, rfl, hl, hr⟩ := h
    intro x hx
    obtain ⟨i, hi, rfl⟩ := List.getElem_of_mem hx
    have hie : i < es.length := by omega
    obtain ⟨q1, q2⟩ := hr i es[i] l[i] (List.getElem?_eq_getElem hie) (List.getElem?_eq_getElem hi)
    obtain ⟨p1, p2⟩ := inFe_mem hp (List.getElem_mem hie)
    exact ⟨q1.refs p1, q2.refs p2⟩
  | _ => cases hp
mutual
def CV.ids : CV → List Nat
  | .agg cs | .tup cs | .fn _ cs => CV.idss cs
  | .vec id _ _ _ | .ptr id _ _ | .eptr id _ _ _ | .mp id _ => [id]
  | _ => []
def CV.idss : List CV → List Nat
  | [] => []
  | x :: r => CV.ids x ++ CV.idss r
end
def idsss : List (List CV) → List Nat
  | [] => []
  | x :: r => CV.idss x ++ idsss r
def idse : List (CV × CV) → List Nat
  | [] => []
  | x :: r => CV.ids x.1 ++ CV.ids x.2 ++ idse r
def CO.ids : CO → List Nat
  | .box _ cs => CV.idss cs
  | .vec _ _ els => idsss els
  | .amap _ es => idse es
  | _ => []
def creach {β : Type} : Nat → Tr CO → List Nat → List Nat → (List Nat → Option β) → Option β
  | _, _, [], F, k => k F
  | 0, _, _ :: _, _, _ => none
  | n + 1, H, i :: l, F, k => bif memN i F then creach n H l F k else creach n H ((cobj H i).ids ++ l) (i :: F) k
def csub {β : Type} (H : Tr CO) : List Nat → Tr CO → (Tr CO → Option β) → Option β
  | [], T, k => k T
  | i :: r, T, k => bif Nat.blt i 2147483648 then Tr.setK 32 T i (some (cobj H i)) fun T => csub H r T k else none
theorem csub_rel {β : Type} {H : Tr CO} : ∀ {F : List Nat} {T : Tr CO} {k : Tr CO → Option β} {r : β}, csub H F T k = some r →
    ∃ T', k T' = some r ∧ ∀ i, cobj T' i = if i ∈ F then cobj H i else cobj T i
  | [], T, k, r, h => ⟨T, h, fun i => by simp⟩
  | j :: F, T, k, r, h => by
    simp only [csub] at h
    cases hc : Nat.blt j 2147483648 with
    | false => rw [hc] at h; cases h
    | true =>
      rw [hc] at h
      rw [Nat.blt_eq] at hc
      simp only [cond_true, Tr.setK_eq] at h
      obtain ⟨T', h1, h2⟩ := csub_rel h
      refine ⟨T', h1, fun i => ?_⟩
      rw [h2 i]
      by_cases e : i ∈ F
      · rw [if_pos e, if_pos (List.mem_cons_of_mem _ e)]
      · rw [if_neg e]
        unfold cobj
        rw [Tr.get_set 31 T j _ i (by simpa using hc)]
        by_cases e1 : i = j
        · subst e1
          rw [if_pos rfl, if_pos (List.mem_cons_self ..)]
        · rw [if_neg e1, if_neg (by simp [e, e1])]
def allF (p : Nat → Bool) : List Nat → Bool
  | [] => true
  | i :: r => p i && allF p r
theorem allF_mem {p : Nat → Bool} : ∀ {l : List Nat} {i : Nat}, allF p l = true → i ∈ l → p i = true
  | j :: r, i, h, hi => by
    simp only [allF, Bool.and_eq_true] at h
    cases hi with
    | head => exact h.1
    | tail _ hi => exact allF_mem h.2 hi
theorem HRel.of_cobj {V : Env} {H : Tr CO} {h : AHeap} (hh : ∀ i, CORel V i (cobj H i) (h i)) : HRel V H h := by
  intro i
  have := hh i
  unfold cobj at this
  cases hg : H.get i <;> rw [hg] at this <;> exact this
end Go.Am
