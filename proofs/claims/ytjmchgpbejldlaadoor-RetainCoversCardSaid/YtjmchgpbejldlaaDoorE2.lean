/- Part E2 of the proof that the last part closes: an evaluator of closed calls proved sound over the abstract machine. No condition. -/
import Derived.Test.YtjmchgpbejldlaaDoorE1
set_option linter.unusedVariables false
set_option linter.unusedSimpArgs false
namespace Go.Am
structure Ent where
  code : ACode
  rs : List ARes
  nt : Nat
structure CS where
  t : Tr CV
  nt : Nat
  h : Tr CO
  nx : Nat
  ds : List (Nat × Nat)
def CSRel (V : Env) (C : CS) (S : ASt) : Prop := TRel C.t C.nt S.t ∧ HRel V C.h S.h ∧ S.ds = C.ds
theorem TRel.put {t : Tr CV} {n : Nat} {l : List AVal} (h : TRel t n l) {d : Nat} (hd : d < n) (hd2 : d < 2 ^ 31) {c : CV} {x : AVal} (hx : CRel c x) : TRel (Tr.set 32 t d (some c)) n (l.set d x) := by
  obtain ⟨h1, h2, h3⟩ := h
  refine ⟨by simp [h1], fun i hi => ?_, fun i hi => ?_⟩
  · rw [Tr.get_set 31 t d (some c) i hd2]
    by_cases e : i = d
    · subst e
      rw [if_pos rfl]
      simp [List.getD, h1, hi]
      exact hx
    · rw [if_neg e]
      have := h2 i hi
      simp only [List.getD, List.getElem?_set, if_neg (Ne.symm e)]
      exact this
  · rw [Tr.get_set 31 t d (some c) i hd2, if_neg (by omega)]
    exact h3 i hi
theorem HRel.put {V : Env} {H : Tr CO} {h : AHeap} (hh : HRel V H h) {i : Nat} (hi : i < 2 ^ 31) {o : CO} {o' : AObj} (ho : CORel V i o o') : HRel V (Tr.set 32 H i (some o)) (hset h i o') := by
  intro j
  rw [Tr.get_set 31 H i (some o) j hi]
  unfold hset
  by_cases e : j = i
  · subst e; rw [if_pos rfl, if_pos rfl]; exact ho
  · rw [if_neg e, if_neg e]; exact hh j
section
variable {β : Type}
def cput (C : CS) (d : Option Tmp) (v : CV) (k : CS → Option β) : Option β := match d with
  | none => k C
  | some d => bif Nat.blt d C.nt && Nat.blt d 2147483648 then forceV v fun v => Tr.setK 32 C.t d (some v) fun t => k ⟨t, C.nt, C.h, C.nx, C.ds⟩ else none
def cputO (C : CS) (out : Option (Nat × CO)) (k : CS → Option β) : Option β := match out with
  | none => k C
  | some (i, o) => bif Nat.blt i 2147483648 then forceO o fun o => Tr.setK 32 C.h i (some o) fun h => bif Nat.beq i C.nx then k ⟨C.t, C.nt, h, Nat.succ i, C.ds⟩ else k ⟨C.t, C.nt, h, C.nx, C.ds⟩ else none
theorem cput_rel {C : CS} {d : Option Tmp} {v : CV} {k : CS → Option β} {r : β} (h : cput C d v k = some r) :
    ∃ C', k C' = some r ∧ C'.h = C.h ∧ C'.nx = C.nx ∧ ∀ {V : Env} {S : ASt} {x : AVal}, CSRel V C S → CRel v x → CSRel V C' ⟨putT S.t d x, S.h, S.ds⟩ := by
  cases d with
  | none => exact ⟨C, h, rfl, rfl, fun hs _ => hs⟩
  | some d =>
    simp only [cput] at h
    cases hc : Nat.blt d C.nt && Nat.blt d 2147483648 with
    | false => rw [hc] at h; cases h
    | true =>
      rw [hc] at h
      simp only [cond_true, forceV_eq, Tr.setK_eq] at h
      simp only [Bool.and_eq_true, Nat.blt_eq] at hc
      exact ⟨_, h, rfl, rfl, fun hs hx => ⟨hs.1.put hc.1 (by simpa using hc.2) hx, hs.2.1, hs.2.2⟩⟩
theorem cputO_rel {C : CS} {out : Option (Nat × CO)} {k : CS → Option β} {r : β} (h : cputO C out k = some r) :
    ∃ C', k C' = some r ∧ C'.t = C.t ∧ C'.nt = C.nt ∧ C'.ds = C.ds ∧ ∀ {V : Env} {hh : AHeap} {out' : Option (Nat × AObj)}, HRel V C.h hh → OutRel V out out' → HRel V C'.h (putH hh out') := by
  cases out with
  | none => exact ⟨C, h, rfl, rfl, rfl, fun hs ho => by have ho : _ = none := ho; subst ho; exact hs⟩
  | some x =>
    obtain ⟨i, o⟩ := x
    simp only [cputO] at h
    cases hc : Nat.blt i 2147483648 with
    | false => rw [hc] at h; cases h
    | true =>
      rw [hc] at h
      simp only [cond_true, forceO_eq, Tr.setK_eq] at h
      rw [Nat.blt_eq] at hc
      have key : ∀ {V : Env} {hh : AHeap} {out' : Option (Nat × AObj)}, HRel V C.h hh → (∃ o', out' = some (i, o') ∧ CORel V i o o') → HRel V (Tr.set 32 C.h i (some o)) (putH hh out') := by
        rintro V hh out' hs ⟨o', rfl, ho⟩
        exact hs.put (by simpa using hc) ho
      cases hb : Nat.beq i C.nx with
      | true => rw [hb] at h; exact ⟨_, h, rfl, rfl, rfl, key⟩
      | false => rw [hb] at h; exact ⟨_, h, rfl, rfl, rfl, key⟩
end
def cargU (CE : Nat → Option CV) (t : Tr CV) : AArg → Option CV
  | .t n => match t.get n with
    | some v => unc1 v
    | none => none
  | y => carg CE t y
theorem cargU_rel {CE : Nat → Option CV} {E : Nat → AVal} (hE : CERel CE E) {t : Tr CV} {n : Nat} {l : List AVal} (ht : TRel t n l) {y : AArg} {c : CV} (h : cargU CE t y = some c) : CRel c (argU E l y) ∧ uncAll true l [y] := by
  cases y with
  | t m =>
    simp only [cargU] at h
    split at h
    · rename_i v hv
      have h1 := carg_rel hE ht (y := .t m) (c := v) hv
      obtain ⟨q1, q2⟩ := unc1_rel h1 h
      exact ⟨q1, q2, trivial⟩
    · cases h
  | c v => exact ⟨carg_rel hE ht (y := .c v) h, trivial⟩
  | g i => exact ⟨carg_rel hE ht (y := .g i) h, trivial⟩
def isS {α : Type} : Option α → Bool
  | some _ => true
  | none => false
theorem isS_some {α : Type} {x : Option α} (h : isS x = true) : ∃ y, x = some y := by cases x <;> simp [isS] at h; exact ⟨_, rfl⟩
def allS (f : AArg → Option CV) : List AArg → Bool
  | [] => true
  | x :: r => isS (f x) && allS f r
theorem allS_unc {CE : Nat → Option CV} {E : Nat → AVal} (hE : CERel CE E) {t : Tr CV} {n : Nat} {l : List AVal} (ht : TRel t n l) : ∀ {ys : List AArg}, allS (cargU CE t) ys = true → uncAll true l ys
  | [], _ => trivial
  | y :: ys, h => by
    simp only [allS, Bool.and_eq_true] at h
    obtain ⟨c, hc⟩ := isS_some h.1
    have h1 := (cargU_rel hE ht hc).2
    have h2 := allS_unc hE ht h.2
    cases y with
    | t m => exact ⟨h1.1, h2⟩
    | c v => exact h2
    | g i => exact h2
def cunAll (f : AArg → Option CV) (o : AOp) : Bool := match o with
  | .pick x y z => match f x with
    | some (.bool true) => isS (f y)
    | some (.bool false) => isS (f z)
    | _ => false
  | o => allS f o.args
theorem uncAll_false (t : List AVal) : ∀ l : List AArg, uncAll false t l
  | [] => trivial
  | .t n :: r => ⟨unc_false _, uncAll_false t r⟩
  | .c v :: r => uncAll_false t r
  | .g i :: r => uncAll_false t r
theorem cunAll_rel {CE : Nat → Option CV} {E : Nat → AVal} (hE : CERel CE E) {t : Tr CV} {n : Nat} {l : List AVal} (ht : TRel t n l) {o : AOp} (h : cunAll (cargU CE t) o = true) : o.unAll E true l := by
  by_cases hp : ∃ x y z, o = .pick x y z
  · obtain ⟨x, y, z, rfl⟩ := hp
    simp only [cunAll] at h
    split at h
    · rename_i hx
      obtain ⟨h1, h2⟩ := cargU_rel hE ht hx
      obtain ⟨c, hc⟩ := isS_some h
      refine ⟨h2, ?_⟩
      cases hq : argU E l x <;> rw [hq] at h1 <;> cases h1
      exact ⟨(cargU_rel hE ht hc).2, uncAll_false _ _⟩
    · rename_i hx
      obtain ⟨h1, h2⟩ := cargU_rel hE ht hx
      obtain ⟨c, hc⟩ := isS_some h
      refine ⟨h2, ?_⟩
      cases hq : argU E l x <;> rw [hq] at h1 <;> cases h1
      exact ⟨uncAll_false _ _, (cargU_rel hE ht hc).2⟩
    · cases h
  · have : allS (cargU CE t) o.args = true := by
      cases o <;> first | exact h | exact absurd ⟨_, _, _, rfl⟩ hp
    have := allS_unc hE ht this
    cases o <;> first | exact this | exact absurd ⟨_, _, _, rfl⟩ hp
theorem resite_unAll (E : Nat → AVal) (c : Bool) (t : List AVal) (s : Nat) (o : AOp) : (o.resite s).unAll E c t ↔ o.unAll E c t := by cases o <;> exact Iff.rfl
theorem resite_quiet (s : Nat) (o : AOp) : (o.resite s).quiet = o.quiet := by cases o <;> rfl
theorem resite_isCall (s : Nat) (o : AOp) : (o.resite s).isCall = o.isCall := by cases o <;> rfl
def dsOk (ds : List (Nat × Nat)) (H : Tr CO) : Bool := match ds with
  | [] => true
  | D :: r => (match cobj H D.1 with | .dfr e => Nat.beq e D.2 | _ => false) && dsOk r H
theorem dsOk_rel {V : Env} {H : Tr CO} {h : AHeap} (hh : HRel V H h) : ∀ {ds : List (Nat × Nat)}, dsOk ds H = true → ∀ D ∈ ds, h D.1 = .dfr D.2
  | D :: r, hd, X, hX => by
    simp only [dsOk, Bool.and_eq_true] at hd
    cases hX with
    | head =>
      have h1 := hd.1
      have ho := cobj_rel hh D.1
      split at h1
      · rename_i e he
        rw [he] at ho
        rw [Nat.beq_eq] at h1
        subst h1
        exact ho
      · cases h1
    | tail _ hX => exact dsOk_rel hh hd.2 X hX
abbrev CCall := FuncId → List CV → CS → Option (CV × Tr CO × Nat)
abbrev CYld := Nat → Nat → List CV → CS → Option (CV × Tr CO × Nat)
def cback (C : CS) (r : Option (CV × Tr CO × Nat)) (dst : Option Tmp) (wrap : CV → CV) : Option CS := match r with
  | some (v, h, nx) => bif dsOk C.ds h then cput ⟨C.t, C.nt, h, nx, C.ds⟩ dst (wrap v) some else none
  | none => none
def cdo (call : CCall) (yld : CYld) (arg : AArg → Option CV) (op : AOp) (dst : Option Tmp) (wrap : CV → CV) (C : CS) : Option CS :=
  match op with
  | .callf f args => match cargs arg args with
    | some vs => cback C (call f vs C) dst wrap
    | none => none
  | .callv x args => match arg x, cargs arg args with
    | some (.fn f caps), some vs => cback C (call f (vs ++ caps) C) dst wrap
    | some (.yld id ep), some vs => cback C (yld id ep vs C) dst wrap
    | _, _ => none
  | op => match cop arg C.h C.nx op with
    | some r => cputO C r.out fun C => cput C dst (wrap r.v) some
    | none => none
def cgcond : Option CV → Bool → Option Bool
  | some (.bool true), want => some (if want then true else false)
  | some (.bool false), want => some (if want then false else true)
  | some (.cnd true (.bool true)), want => some (if want then true else false)
  | some (.cnd true (.bool false)), want => some (if want then false else true)
  | some (.cnd false _), _ => some false
  | _, _ => none
def gT (f : AArg → Option CV) (op : AOp) : Bool := match op with
  | .callf _ args => allS f args
  | .callv x args => allS f (x :: args)
  | op => op.quiet && cunAll f op
def gF (op : AOp) : Bool := match op with
  | .callf _ _ | .callv _ _ => true
  | op => op.quiet
theorem gT_op {f : AArg → Option CV} {op : AOp} (hic : op.isCall = false) (h : gT f op = true) : op.quiet = true ∧ cunAll f op = true := by
  have : (op.quiet && cunAll f op) = true := by
    cases op <;> first | exact h | (simp [AOp.isCall] at hic; done)
  simpa using this
theorem gF_op {op : AOp} (hic : op.isCall = false) (h : gF op = true) : op.quiet = true := by
  cases op <;> first | exact h | (simp [AOp.isCall] at hic; done)
def cstep (CE : Nat → Option CV) (call : CCall) (yld : CYld) (o : AOper) (C : CS) : Option CS :=
  match o.guard with
  | none => cdo call yld (carg CE C.t) o.op o.dst (fun v => v) C
  | some (tg, want) => match cgcond (C.t.get tg) want with
    | some true => bif gT (cargU CE C.t) o.op then cdo call yld (cargU CE C.t) o.op o.dst (fun v => .cnd true v) C else none
    | some false => bif gF o.op then cput C o.dst (.cnd false .top) some else none
    | none => none
def cfv1 (id : Nat) (o : CO) : CV → CV
  | .ptr i ep off => bif Nat.beq i id then (match o with
    | .box ep' cs => bif Nat.beq ep ep' then .cptr cs off else .top
    | _ => .top) else .ptr i ep off
  | .vec i ep lo n => bif Nat.beq i id then (match o with
    | .vec ep' st els => bif Nat.beq ep ep' && Nat.ble (lo + n) els.length then .slc st ((els.drop lo).take n) else .top
    | _ => .top) else .vec i ep lo n
  | x => x
mutual
def cfv (id : Nat) (o : CO) : CV → CV
  | .agg l => .agg (cfvl id o l)
  | .tup l => .tup (cfvl id o l)
  | .fn f l => .fn f (cfvl id o l)
  | .cnd c x => .cnd c (cfv id o x)
  | x => cfv1 id o x
def cfvl (id : Nat) (o : CO) : List CV → List CV
  | [] => []
  | x :: l => cfv id o x :: cfvl id o l
end
def cfvr (id : Nat) (o : CO) : List (List CV) → List (List CV)
  | [] => []
  | x :: l => cfvl id o x :: cfvr id o l
def cfve (id : Nat) (o : CO) : List (CV × CV) → List (CV × CV)
  | [] => []
  | x :: l => (cfv id o x.1, cfv id o x.2) :: cfve id o l
def cfvO (id : Nat) (o : CO) : CO → CO
  | .box e l => .box e (cfvl id o l)
  | .vec e st els => .vec e st (cfvr id o els)
  | .amap e es => .amap e (cfve id o es)
  | x => x
def fzo2 (id : Nat) (o : AObj) : AObj → AObj
  | .box e l => .box e (fzl id o l)
  | .vec e st n f => .vec e st n (fun k => fzl id o (f k))
  | .amap e es => .amap e (es.map fun p => (fzv id o p.1, fzv id o p.2))
  | x => x
theorem cfv1_rel {V : Env} {id : Nat} {co : CO} {ao : AObj} (ho : CORel V id co ao) {c : CV} {x : AVal} (h : CRel c x) (h1 : cfv id co c = cfv1 id co c) (h2 : fzv id ao x = fz1 id ao x) : CRel (cfv1 id co c) (fz1 id ao x) := by
  cases h with
  | ptr i ep off =>
    simp only [cfv1, fz1, cond_eq_ite, Nat.beq_eq]
    by_cases e : i = id
    · rw [if_pos e, if_pos e]
      cases co with
      | box ep' cs =>
        obtain ⟨l, rfl, hr⟩ := ho
        simp only
        by_cases e2 : ep = ep'
        · rw [if_pos e2, if_pos e2]
          exact .cptr _ _ _ _ hr.1 fun i c hc => hr.getD hc
        · rw [if_neg e2, if_neg e2]; exact .top
      | gone _ => obtain rfl := ho; exact .top
      | vec _ _ _ => obtain ⟨f, rfl, _⟩ := ho; exact .top
      | loop _ _ _ _ _ _ _ _ _ _ => obtain ⟨g, _, rfl, _⟩ := ho; exact .top
      | dfr _ => obtain rfl := ho; exact .top
      | amap _ _ => obtain ⟨l, rfl, _⟩ := ho; exact .top
    · rw [if_neg e, if_neg e]; exact .ptr _ _ _
  | vec i ep lo n =>
    simp only [cfv1, fz1, cond_eq_ite, Nat.beq_eq]
    by_cases e : i = id
    · rw [if_pos e, if_pos e]
      cases co with
      | vec ep' st els =>
        obtain ⟨f, rfl, hr⟩ := ho
        simp only [Bool.and_eq_true, Nat.beq_eq, Nat.ble_eq]
        by_cases e2 : ep = ep' ∧ lo + n ≤ els.length
        · rw [if_pos e2, if_pos e2]
          have hrow : ∀ i row, ((els.drop lo).take n)[i]? = some row → CRs row (f (lo + i)) := fun i row hi => by
            rw [List.getElem?_take] at hi
            split at hi
            · rw [List.getElem?_drop] at hi; exact hr.2 _ row hi
            · cases hi
          exact .slc _ _ _ _ (by simp; omega) (fun i row hi => (hrow i row hi).1) (fun i j row c x hi hc hx => (hrow i row hi).2 j c x hc hx)
        · rw [if_neg e2, if_neg e2]; exact .top
      | gone _ => obtain rfl := ho; exact .top
      | box _ _ => obtain ⟨f, rfl, _⟩ := ho; exact .top
      | loop _ _ _ _ _ _ _ _ _ _ => obtain ⟨g, _, rfl, _⟩ := ho; exact .top
      | dfr _ => obtain rfl := ho; exact .top
      | amap _ _ => obtain ⟨l, rfl, _⟩ := ho; exact .top
    · rw [if_neg e, if_neg e]; exact .vec _ _ _ _
  | agg => simp [cfv1, fz1]; constructor <;> assumption
  | tup => simp [cfv1, fz1]; constructor <;> assumption
  | fn => simp [cfv1, fz1]; constructor <;> assumption
  | cnd => simp [cfv1, fz1]; constructor; assumption
  | slc => simp [cfv1, fz1]; constructor <;> assumption
  | cptr => simp [cfv1, fz1]; constructor <;> assumption
  | _ => simp [cfv1, fz1]; constructor
theorem cfvl_eq (id : Nat) (o : CO) : ∀ l, cfvl id o l = l.map (cfv id o)
  | [] => by simp [cfvl]
  | x :: l => by simp [cfvl, cfvl_eq id o l]
theorem fzl_eq (id : Nat) (o : AObj) : ∀ l, fzl id o l = l.map (fzv id o)
  | [] => by simp [fzl]
  | x :: l => by simp [fzl, fzl_eq id o l]
theorem cfv_rel {V : Env} {id : Nat} {co : CO} {ao : AObj} (ho : CORel V id co ao) {c : CV} {x : AVal} (h : CRel c x) : CRel (cfv id co c) (fzv id ao x) := by
  have rows : ∀ {cs : List CV} {l : List AVal}, cs.length = l.length → (∀ (i : Nat) (c : CV) (x : AVal), cs[i]? = some c → l[i]? = some x → CRel (cfv id co c) (fzv id ao x)) → CRs (cfvl id co cs) (fzl id ao l) := by
    intro cs l hl h
    rw [cfvl_eq, fzl_eq]
    refine ⟨by simp [hl], fun i c x hc hx => ?_⟩
    rw [List.getElem?_map] at hc hx
    cases h1 : cs[i]? with
    | none => rw [h1] at hc; cases hc
    | some c0 =>
      cases h2 : l[i]? with
      | none => rw [h2] at hx; cases hx
      | some x0 =>
        rw [h1] at hc; rw [h2] at hx
        simp at hc hx; subst hc; subst hx
        exact h i c0 x0 h1 h2
  induction h with
  | agg cs l hl _ ih => simp only [cfv, fzv]; exact .aggs (rows hl ih)
  | tup cs l hl _ ih => simp only [cfv, fzv]; exact .tups (rows hl ih)
  | fn f cs l hl _ ih => simp only [cfv, fzv]; exact .fns (rows hl ih)
  | cnd c x y h ih => simp only [cfv, fzv]; exact .cnd _ _ _ ih
  | ptr i ep off => exact cfv1_rel ho (.ptr i ep off) rfl rfl
  | vec i ep lo n => exact cfv1_rel ho (.vec i ep lo n) rfl rfl
  | slc st n els f hn hl h _ => exact .slc st n els f hn hl h
  | cptr cs off lim f hn h _ => exact .cptr cs off lim f hn h
  | _ => constructor
theorem cfvl_rel {V : Env} {id : Nat} {co : CO} {ao : AObj} (ho : CORel V id co ao) {cs : List CV} {l : List AVal} (h : CRs cs l) : CRs (cfvl id co cs) (fzl id ao l) := by
  rw [cfvl_eq, fzl_eq]
  refine ⟨by simp [h.1], fun i c x hc hx => ?_⟩
  rw [List.getElem?_map] at hc hx
  cases h1 : cs[i]? with
  | none => rw [h1] at hc; cases hc
  | some c0 =>
    cases h2 : l[i]? with
    | none => rw [h2] at hx; cases hx
    | some x0 =>
      rw [h1] at hc; rw [h2] at hx
      simp at hc hx; subst hc; subst hx
      exact cfv_rel ho (h.2 i c0 x0 h1 h2)
theorem cfvr_eq (id : Nat) (o : CO) : ∀ l, cfvr id o l = l.map (cfvl id o)
  | [] => by simp [cfvr]
  | x :: l => by simp [cfvr, cfvr_eq id o l]
theorem cfve_eq (id : Nat) (o : CO) : ∀ l, cfve id o l = l.map (fun p => (cfv id o p.1, cfv id o p.2))
  | [] => by simp [cfve]
  | x :: l => by simp [cfve, cfve_eq id o l]
theorem cfvO_rel {V : Env} {id : Nat} {co : CO} {ao : AObj} (ho : CORel V id co ao) {j : Nat} {c : CO} {a : AObj} (h : CORel V j c a) : CORel V j (cfvO id co c) (fzo2 id ao a) := by
  cases c with
  | gone e => obtain rfl := h; rfl
  | dfr e => obtain rfl := h; rfl
  | loop _ _ _ _ _ _ _ _ _ _ => obtain ⟨g, q1, rfl, q2⟩ := h; exact ⟨g, q1, rfl, q2⟩
  | box e cs => obtain ⟨l, rfl, hr⟩ := h; exact ⟨_, rfl, cfvl_rel ho hr⟩
  | vec e st els =>
    obtain ⟨f, rfl, hr⟩ := h
    refine ⟨_, by simp only [fzo2, cfvr_eq, List.length_map]; rfl, rfl, fun i row hi => ?_⟩
    rw [cfvr_eq, List.getElem?_map] at hi
    cases h1 : els[i]? with
    | none => rw [h1] at hi; cases hi
    | some r0 =>
      rw [h1] at hi
      simp at hi; subst hi
      exact cfvl_rel ho (hr.2 i r0 h1)
  | amap e es =>
    obtain ⟨l, rfl, hl, hr⟩ := h
    refine ⟨_, rfl, by rw [cfve_eq]; simp [hl], fun i c x hc hx => ?_⟩
    rw [cfve_eq, List.getElem?_map] at hc
    rw [List.getElem?_map] at hx
    cases h1 : es[i]? with
    | none => rw [h1] at hc; cases hc
    | some c0 =>
      cases h2 : l[i]? with
      | none => rw [h2] at hx; cases hx
      | some x0 =>
        rw [h1] at hc; rw [h2] at hx
        simp at hc hx; subst hc; subst hx
        obtain ⟨q1, q2⟩ := hr i c0 x0 h1 h2
        exact ⟨cfv_rel ho q1, cfv_rel ho q2⟩
def optK {α β : Type} (f : α → (α → β) → β) (v : Option α) (k : Option α → β) : β := match v with
  | some v => f v fun v => k (some v)
  | none => k none
theorem optK_eq {α β : Type} {f : α → (α → β) → β} {g : α → α} (hf : ∀ v (k : α → β), f v k = k (g v)) (v : Option α) (k : Option α → β) : optK f v k = k (v.map g) := by
  cases v with
  | none => rfl
  | some v => exact hf v _
def Tr.mapK {α β : Type} (f : α → (α → β) → β) : Tr α → (Tr α → β) → β
  | .e, k => k .e
  | .n l v r, k => l.mapK f fun l => r.mapK f fun r => optK f v fun v => k (.n l v r)
theorem Tr.mapK_eq {α β : Type} {f : α → (α → β) → β} {g : α → α} (hf : ∀ v (k : α → β), f v k = k (g v)) : ∀ (t : Tr α), ∃ t' : Tr α, (∀ k : Tr α → β, t.mapK f k = k t') ∧ ∀ i, t'.get i = (t.get i).map g
  | .e => ⟨.e, fun _ => rfl, fun i => rfl⟩
  | .n l v r => by
    obtain ⟨l', h1, h2⟩ := Tr.mapK_eq hf l
    obtain ⟨r', h3, h4⟩ := Tr.mapK_eq hf r
    refine ⟨.n l' (v.map g) r', fun k => ?_, fun i => ?_⟩
    · simp only [Tr.mapK]
      rw [h1, h3, optK_eq hf]
    · rw [Tr.get_n, Tr.get_n]
      by_cases e : i = 0
      · simp [e]
      · by_cases e1 : i % 2 = 1
        · simp [e, e1, h2]
        · simp [e, e1, h4]
def cfz1 {β : Type} (id : Nat) (C : CS) (k : CS → Option β) : Option β :=
  match cobj C.h id with
  | .vec e st els => bif Nat.blt id 2147483648 then
      Tr.mapK (fun v k => forceV (cfv id (.vec e st els) v) k) C.t fun t => Tr.mapK (fun v k => forceO (cfvO id (.vec e st els) v) k) C.h fun h => Tr.setK 32 h id (some (.gone (e + 1))) fun h => k ⟨t, C.nt, h, C.nx, C.ds⟩ else none
  | _ => none
theorem cfz1_rel {β : Type} {id : Nat} {C : CS} {k : CS → Option β} {r : β} (h : cfz1 id C k = some r) :
    ∃ C', k C' = some r ∧ ∀ {E : Nat → AVal} {V : Env} {S : ASt}, CSRel V C S → ∃ S', See E S S' ∧ CSRel V C' S' := by
  unfold cfz1 at h
  split at h
  · rename_i e st els hob
    cases hc : Nat.blt id 2147483648 with
    | false => rw [hc] at h; cases h
    | true =>
      rw [hc] at h
      simp only [cond_true] at h
      rw [Nat.blt_eq] at hc
      obtain ⟨t', h1, h2⟩ := Tr.mapK_eq (g := cfv id (.vec e st els)) (fun v (k : CV → Option β) => forceV_eq _ k) C.t
      rw [h1] at h
      obtain ⟨H', h3, h4⟩ := Tr.mapK_eq (g := cfvO id (.vec e st els)) (fun v (k : CO → Option β) => forceO_eq _ k) C.h
      rw [h3, Tr.setK_eq] at h
      refine ⟨_, h, fun {E V S} hs => ?_⟩
      have ho := cobj_rel hs.2.1 id
      rw [hob] at ho
      obtain ⟨f, hl, hr⟩ := ho
      have hoo : CORel V id (.vec e st els) (S.h id) := ⟨f, hl, hr⟩
      refine ⟨⟨fzl id (S.h id) S.t, hset (fun j => fzo2 id (S.h id) (S.h j)) id (.gone (e + 1)), S.ds⟩, ?_, ?_, ?_, hs.2.2⟩
      · refine .freeze (id := id) (o := S.h id) rfl (by rw [hl]; rfl) (by rw [hl]; trivial) (by rw [hl]; simp [hset, AObj.ep]) (fun j hj => ?_) (fzl_ok _ _ _) rfl
        simp only [hset, hj, if_false]
        cases hh : S.h j <;> simp only [fzo2] <;> first
          | exact .inl rfl
          | exact .inr (.inl ⟨_, _, _, rfl, rfl, fzl_ok _ _ _⟩)
          | exact .inr (.inr (.inl ⟨_, _, _, _, _, rfl, rfl, fun k _ => fzl_ok _ _ _⟩))
          | skip
        rename_i e0 es
        refine .inr (.inr (.inr ⟨_, _, _, rfl, rfl, by simp, fun i a b ha hb => ?_⟩))
        rw [List.getElem?_map, ha] at hb
        simp at hb; subst hb
        exact ⟨fzv_ok _ _ _, fzv_ok _ _ _⟩
      · obtain ⟨q1, q2, q3⟩ := hs.1
        refine ⟨by rw [fzl_eq]; simp [q1], fun i hi => ?_, fun i hi => by rw [h2, q3 i hi]; rfl⟩
        rw [h2]
        have hi : i < C.nt := hi
        have hl2 : i < S.t.length := by omega
        have e1 : (fzl id (S.h id) S.t).getD i .top = fzv id (S.h id) (S.t.getD i .top) := by simp [fzl_eq, List.getD, hl2]
        rw [e1]
        have := cfv_rel hoo (q2 i hi)
        cases hg : C.t.get i with
        | none => rw [hg] at this; exact this
        | some c => rw [hg] at this; exact this
      · refine HRel.put (V := V) (H := H') (h := fun j => fzo2 id (S.h id) (S.h j)) (fun j => ?_) (by simpa using hc) rfl
        rw [h4]
        have := cfvO_rel hoo (hs.2.1 j)
        cases hg : C.h.get j with
        | none => rw [hg] at this; exact this
        | some c => rw [hg] at this; exact this
  · cases h
def vrefs : List CV → List Nat
  | [] => []
  | .vec id _ _ _ :: r => id :: vrefs r
  | _ :: r => vrefs r
def vrefss : List (List CV) → List Nat
  | [] => []
  | x :: r => vrefs x ++ vrefss r
def vrefv : CV → List Nat
  | .agg l => vrefs l
  | .vec id _ _ _ => [id]
  | _ => []
def cfzs {β : Type} : Nat → List Nat → CS → (CS → Option β) → Option β
  | _, [], C, k => k C
  | 0, _ :: _, _, _ => none
  | n + 1, id :: r, C, k => match cobj C.h id with
    | .vec _ _ els => match vrefss els with
      | [] => cfz1 id C fun C => cfzs n r C k
      | _ :: _ => cfzs n (vrefss els ++ id :: r) C k
    | .gone _ => cfzs n r C k
    | _ => none
theorem cfzs_rel {β : Type} : ∀ {n : Nat} {l : List Nat} {C : CS} {k : CS → Option β} {r : β}, cfzs n l C k = some r →
    ∃ C', k C' = some r ∧ ∀ {E : Nat → AVal} {V : Env} {S : ASt}, CSRel V C S → ∃ S', See E S S' ∧ CSRel V C' S' := by
  intro n
  induction n with
  | zero =>
    intro l C k r h
    cases l with
    | nil => exact ⟨C, by simpa [cfzs] using h, fun {E V S} hs => ⟨S, .refl _, hs⟩⟩
    | cons x l => simp [cfzs] at h
  | succ n ih =>
    intro l C k r h
    cases l with
    | nil => exact ⟨C, by simpa [cfzs] using h, fun {E V S} hs => ⟨S, .refl _, hs⟩⟩
    | cons id l =>
      simp only [cfzs] at h
      split at h
      · split at h
        · obtain ⟨C1, h1, h2⟩ := cfz1_rel h
          obtain ⟨C2, h3, h4⟩ := ih h1
          refine ⟨C2, h3, fun {E V S} hs => ?_⟩
          obtain ⟨S1, s1, r1⟩ := h2 (E := E) hs
          obtain ⟨S2, s2, r2⟩ := h4 (E := E) r1
          exact ⟨S2, s1.trans s2, r2⟩
        · exact ih h
      · exact ih h
      · cases h
def arefs (CE : Nat → Option CV) (t : Tr CV) : List AArg → List Nat
  | [] => []
  | x :: r => match carg CE t x with
    | some v => vrefv v ++ arefs CE t r
    | none => arefs CE t r
def cpre {β : Type} (CE : Nat → Option CV) (o : AOper) (C : CS) (k : CS → Option β) : Option β := match o.guard with
  | some _ => k C
  | none => match o.op with
    | .append _ _ _ _ y => match carg CE C.t y with
      | some (.vec id _ _ _) => match cobj C.h id with
        | .vec _ _ els => cfzs 100 (vrefss els) C k
        | _ => k C
      | _ => k C
    | .store _ x y => match carg CE C.t x with
      | some (.eptr _ _ _ _) => match carg CE C.t y with
        | some v => cfzs 100 (vrefv v) C k
        | none => k C
      | _ => k C
    | .mupd _ _ _ y => match carg CE C.t y with
      | some v => cfzs 100 (vrefv v) C k
      | none => k C
    | .callf f args => match CE (f + 1000000) with
      | some _ => cfzs 100 (arefs CE C.t args) C k
      | none => k C
    | _ => k C
theorem cpre_rel {β : Type} {CE : Nat → Option CV} {o : AOper} {C : CS} {k : CS → Option β} {r : β} (h : cpre CE o C k = some r) :
    ∃ C', k C' = some r ∧ ∀ {E : Nat → AVal} {V : Env} {S : ASt}, CSRel V C S → ∃ S', See E S S' ∧ CSRel V C' S' := by
  have stay : k C = some r → ∃ C', k C' = some r ∧ ∀ {E : Nat → AVal} {V : Env} {S : ASt}, CSRel V C S → ∃ S', See E S S' ∧ CSRel V C' S' := fun h => ⟨C, h, fun {E V S} hs => ⟨S, .refl _, hs⟩⟩
  unfold cpre at h
  split at h
  · exact stay h
  · split at h
    · split at h
      · split at h
        · exact cfzs_rel h
        · exact stay h
      · exact stay h
    · split at h
      · split at h
        · exact cfzs_rel h
        · exact stay h
      · exact stay h
    · split at h
      · exact cfzs_rel h
      · exact stay h
    · split at h
      · exact cfzs_rel h
      · exact stay h
    · exact stay h
def creg (CE : Nat → Option CV) (call : CCall) (yld : CYld) : List AOper → CS → Option CS
  | [], C => some C
  | o :: r, C => cpre CE o C fun C => match cstep CE call yld o C with
    | some C' => creg CE call yld r C'
    | none => none
def CallOk (E : Nat → AVal) (P : Program) (call : CCall) : Prop := ∀ f vs C v h' nx', call f vs C = some (v, h', nx') → enterOk P f = true ∧
  ∀ (V : Env), V.P = P → ∀ args h, CRs vs args → HRel V C.h h → ATr E P f args h (fun r h2 => CRel v r ∧ HRel V h' h2)
def YldOk (E : Nat → AVal) (P : Program) (yld : CYld) : Prop := ∀ id ep vs C v h' nx', yld id ep vs C = some (v, h', nx') →
  ∀ (V : Env), V.P = P → ∀ args h, CRs vs args → HRel V C.h h → Round E P id ep args h (fun r h2 => CRel v r ∧ HRel V h' h2)
def ROper (o o' : AOper) : Prop := o'.dst = o.dst ∧ o'.guard = o.guard ∧ ∃ s, o'.op = o.op.resite s
inductive RList : List AOper → List AOper → Prop where
  | nil : RList [] []
  | cons {o o' : AOper} {l l' : List AOper} (h : ROper o o') (t : RList l l') : RList (o :: l) (o' :: l')
theorem checkCall_resite {P : Program} {p : Op} (s : Nat) {a : AOp} (h : checkCall P p a = true) : checkCall P p (a.resite s) = true := by
  cases hic : a.isCall with
  | true => cases a <;> simp [AOp.isCall] at hic <;> exact h
  | false =>
    have h1 := resite_check s (checkCall_o h hic)
    unfold checkCall
    have h2 := resite_isCall s a
    rw [hic] at h2
    split
    · rename_i e; rw [e] at h2; cases h2
    · rename_i e; rw [e] at h2; cases h2
    · rename_i e; rw [e] at h2; cases h2
    · exact h1
theorem checkOps_resite {P : Program} {ops : Array Oper} : ∀ {l : List Oper} {m m' : List AOper}, RList m m' → checkOps P ops l m = true → checkOps P ops l m' = true
  | [], _, _, .nil, h => h
  | [], _, _, .cons _ _, h => by cases h
  | o :: l, _, _, .nil, h => by cases h
  | o :: l, _, _, .cons hr t, h => by
    simp only [checkOps, Bool.and_eq_true] at h ⊢
    refine ⟨?_, checkOps_resite t h.2⟩
    obtain ⟨h1, h2, s, h3⟩ := hr
    have h0 := h.1
    unfold checkOper at h0 ⊢
    rw [h1, h2, h3]
    simp only [Bool.and_eq_true] at h0 ⊢
    exact ⟨h0.1, checkCall_resite s h0.2⟩
section
variable {E : Nat → AVal} {P : Program} {CE : Nat → Option CV} {call : CCall} {yld : CYld}
theorem cback_rel {C C' : CS} {r : Option (CV × Tr CO × Nat)} {dst : Option Tmp} {wrap : CV → CV} (h : cback C r dst wrap = some C') :
    ∃ v h2 nx, r = some (v, h2, nx) ∧ ∀ {V : Env} {S : ASt} {hh : AHeap} {x : AVal}, CSRel V C S → HRel V h2 hh → CRel (wrap v) x → (∀ D ∈ S.ds, hh D.1 = .dfr D.2) ∧ CSRel V C' ⟨putT S.t dst x, hh, S.ds⟩ := by
  unfold cback at h
  split at h
  · rename_i v h2 nx
    cases hd : dsOk C.ds h2 with
    | false => rw [hd] at h; cases h
    | true =>
      rw [hd] at h
      simp only [cond_true] at h
      obtain ⟨C2, e, _, _, h3⟩ := cput_rel h
      cases e
      refine ⟨v, h2, nx, rfl, fun {V S hh x} hs hH hx => ⟨by rw [hs.2.2]; exact dsOk_rel hH hd, ?_⟩⟩
      exact h3 (S := ⟨S.t, hh, S.ds⟩) ⟨hs.1, hH, hs.2.2⟩ hx
  · cases h
theorem cgcond_rel {t : Tr CV} {n : Nat} {l : List AVal} (ht : TRel t n l) {tg : Nat} {want c : Bool} (h : cgcond (t.get tg) want = some c) : gcond (l.getD tg .top) want = some c := by
  cases hv : t.get tg with
  | none => rw [hv] at h; cases h
  | some v =>
    rw [hv] at h
    have h1 := carg_rel (CE := fun _ => none) (E := fun _ => .top) (fun i c h => by cases h) ht (y := .t tg) (c := v) hv
    simp only [argv] at h1
    generalize l.getD tg .top = x at h1 ⊢
    cases h1 <;> (try (cases h; done))
    case bool b => cases b <;> cases want <;> exact h
    case cnd d v' y hy =>
      cases d with
      | true =>
        have hy := hy rfl
        cases hy <;> (try (cases h; done))
        rename_i b
        cases b <;> cases want <;> exact h
      | false =>
        simp only [cgcond] at h
        cases h
        cases y <;> rfl
end
end Go.Am
set_option linter.unusedVariables false
set_option linter.unusedSimpArgs false
namespace Go.Am
section
variable {E : Nat → AVal} {P : Program} {CE : Nat → Option CV} {call : CCall} {yld : CYld}
theorem aop_plain {o : AOper} {S : ASt} {K : ASt → Prop} (hg : o.guard = none) (hic : o.op.isCall = false)
    (h : (o.op.req (argv E S.t) S.h).ok ∧ K ⟨putT S.t o.dst (o.op.req (argv E S.t) S.h).v, putH S.h (o.op.req (argv E S.t) S.h).out, S.ds⟩) : aop E P o S K := by
  unfold aop
  rw [hg]
  cases hop : o.op <;> rw [hop] at hic h <;> first | exact h | (simp [AOp.isCall] at hic; done)
theorem aop_guard {o : AOper} {S : ASt} {K : ASt → Prop} {tg : Tmp} {want c : Bool} (hg : o.guard = some (tg, want)) (hc : gcond (S.t.getD tg .top) want = some c) (hic : o.op.isCall = false)
    (h : (o.op.req (argU E S.t) S.h).out = none ∧ (c = true → o.op.unAll E c S.t ∧ (o.op.req (argU E S.t) S.h).ok) ∧ K ⟨putT S.t o.dst (.cnd c (o.op.req (argU E S.t) S.h).v), S.h, S.ds⟩) : aop E P o S K := by
  unfold aop
  rw [hg]
  simp only [hc]
  cases hop : o.op <;> rw [hop] at hic h <;> first | exact h | (simp [AOp.isCall] at hic; done)
theorem quiet_isCall {o : AOp} (h : o.quiet = true) : o.isCall = false := by cases o <;> simp [AOp.quiet] at h <;> rfl
theorem cop_isCall {arg : AArg → Option CV} {H : Tr CO} {s : Nat} {o : AOp} {r : COut} (h : cop arg H s o = some r) : o.isCall = false := by
  cases o <;> first | rfl | (simp [cop] at h; done)
theorem cdo_plain {arg : AArg → Option CV} {op : AOp} {dst : Option Tmp} {wrap : CV → CV} {C C' : CS} (hic : op.isCall = false) (h : cdo call yld arg op dst wrap C = some C') :
    ∃ r, cop arg C.h C.nx op = some r ∧ cputO C r.out (fun C => cput C dst (wrap r.v) some) = some C' := by
  have h' : (match cop arg C.h C.nx op with | some r => cputO C r.out (fun C => cput C dst (wrap r.v) some) | none => none) = some C' := by
    cases op <;> first | exact h | (simp [AOp.isCall] at hic; done)
  split at h'
  · rename_i r hr; exact ⟨r, hr, h'⟩
  · cases h'
theorem cstep_rel (hE : CERel CE E) (hcall : CallOk E P call) (hyld : YldOk E P yld) {o : AOper} {C C' : CS} (h : cstep CE call yld o C = some C') :
    ∃ o', ROper o o' ∧ ∀ (V : Env) (S : ASt) (K : ASt → Prop), V.P = P → CSRel V C S → (∀ S', CSRel V C' S' → K S') → aop E P o' S K := by
  refine ⟨⟨o.dst, o.op.resite C.nx, o.guard⟩, ⟨rfl, rfl, C.nx, rfl⟩, fun V S K hV hs hK => ?_⟩
  unfold cstep at h
  have hargs : ∀ l : List AArg, ArgRel (carg CE C.t) (argv E S.t) l := fun l y _ c hc => carg_rel hE hs.1 hc
  have hargU : ∀ l : List AArg, ArgRel (cargU CE C.t) (argU E S.t) l := fun l y _ c hc => (cargU_rel hE hs.1 hc).1
  cases hg : o.guard with
  | none =>
    simp only [hg] at h
    cases hic : o.op.isCall with
    | false =>
      obtain ⟨r, hr, hp⟩ := cdo_plain hic h
      have hrel := cop_rel (hargs _) hs.2.1 hr
      obtain ⟨C1, h1, t1, n1, d1, g1⟩ := cputO_rel hp
      obtain ⟨C2, e, _, _, g2⟩ := cput_rel h1
      cases e
      obtain ⟨q1, q2, q3, q4⟩ := hrel
      refine aop_plain rfl (by rw [resite_isCall]; exact hic) ⟨q1, hK _ ?_⟩
      exact g2 (S := ⟨S.t, _, S.ds⟩) ⟨by rw [t1, n1]; exact hs.1, g1 hs.2.1 q4, by rw [d1]; exact hs.2.2⟩ q2
    | true =>
      cases hop : o.op <;> rw [hop] at hic h <;> simp only [AOp.isCall] at hic <;> (try (cases hic; done))
      case mnext x => simp [cdo, cop] at h
      case callf f args =>
        simp only [cdo] at h
        split at h
        · rename_i vs hvs
          obtain ⟨v, h2, nx, hc, hb⟩ := cback_rel h
          obtain ⟨_, hA⟩ := hcall _ _ _ _ _ _ hc
          unfold aop
          simp only [hg, AOp.resite]
          refine (hA V hV _ _ (cargs_rel (hargs _) hvs) hs.2.1).mono ?_
          rintro r hh ⟨hr, hH⟩
          obtain ⟨b1, b2⟩ := hb hs hH hr
          exact ⟨b1, hK _ b2⟩
        · cases h
      case callv x args =>
        simp only [cdo] at h
        split at h
        · rename_i f caps vs hx hvs
          have hxr := hargs [x] x (by simp) _ hx
          obtain ⟨v, h2, nx, hc, hb⟩ := cback_rel h
          obtain ⟨he, hA⟩ := hcall _ _ _ _ _ _ hc
          unfold aop
          simp only [hg, AOp.resite]
          cases hq : argv E S.t x <;> rw [hq] at hxr <;> cases hxr
          refine ⟨he, (hA V hV _ _ ((cargs_rel (hargs _) hvs).append ⟨by assumption, by assumption⟩) hs.2.1).mono ?_⟩
          rintro r hh ⟨hr, hH⟩
          obtain ⟨b1, b2⟩ := hb hs hH hr
          exact ⟨b1, hK _ b2⟩
        · rename_i id ep vs hx hvs
          have hxr := hargs [x] x (by simp) _ hx
          obtain ⟨v, h2, nx, hc, hb⟩ := cback_rel h
          have hA := hyld _ _ _ _ _ _ _ hc
          unfold aop
          simp only [hg, AOp.resite]
          cases hq : argv E S.t x <;> rw [hq] at hxr <;> cases hxr
          have hR := hA V hV _ _ (cargs_rel (hargs _) hvs) hs.2.1
          obtain ⟨ts, ps, asg, body, D, eD, r1, r2, r3⟩ := hR
          refine ⟨ts, ps, asg, body, D, eD, r1, r2, fun ρ => (r3 ρ).mono ?_⟩
          rintro e S1 ⟨e1, e2, e3⟩
          refine ⟨e1, e2, e3.mono ?_⟩
          intro e' S2 hp
          have hk : ∀ (v' : AVal) hh, (CRel v v' ∧ HRel V h2 hh) → ((∀ D ∈ S.ds, hh D.1 = .dfr D.2) ∧ K ⟨putT S.t o.dst v', hh, S.ds⟩) := by
            rintro v' hh ⟨hr, hH⟩
            obtain ⟨b1, b2⟩ := hb hs hH hr
            exact ⟨b1, hK _ b2⟩
          cases e' <;> first | exact ⟨hp.1, hk _ _ hp.2⟩ | exact hp
        · cases h
  | some gd =>
    obtain ⟨tg, want⟩ := gd
    simp only [hg] at h
    split at h
    · -- the guard holds
      rename_i hgc
      have hcond := cgcond_rel hs.1 hgc
      cases hb : gT (cargU CE C.t) o.op with
      | false => rw [hb] at h; cases h
      | true =>
        rw [hb] at h
        simp only [cond_true] at h
        cases hic : o.op.isCall with
        | false =>
          have hb' := gT_op hic hb
          obtain ⟨r, hr, hp⟩ := cdo_plain hic h
          have hrel := cop_rel (hargU _) hs.2.1 hr
          obtain ⟨C1, h1, t1, n1, d1, g1⟩ := cputO_rel hp
          obtain ⟨C2, e, _, _, g2⟩ := cput_rel h1
          cases e
          obtain ⟨q1, q2, q3, q4⟩ := hrel
          have hout := quiet_out (o.op.resite C.nx) (by rw [resite_quiet]; exact hb'.1) (argU E S.t) S.h
          refine aop_guard rfl hcond (by rw [resite_isCall]; exact hic) ⟨hout, fun _ => ⟨(resite_unAll E true S.t C.nx o.op).2 (cunAll_rel hE hs.1 hb'.2), q1⟩, hK _ ?_⟩
          have g1' := g1 hs.2.1 q4
          rw [hout] at g1'
          exact g2 (S := ⟨S.t, S.h, S.ds⟩) ⟨by rw [t1, n1]; exact hs.1, g1', by rw [d1]; exact hs.2.2⟩ (.cnd true _ _ fun _ => q2)
        | true =>
          cases hop : o.op <;> rw [hop] at hic h hb <;> simp only [AOp.isCall] at hic <;> (try (cases hic; done))
          case mnext x => simp [cdo, cop] at h
          case callf f args =>
            simp only [cdo] at h
            split at h
            · rename_i vs hvs
              obtain ⟨v, h2, nx, hc, hbk⟩ := cback_rel h
              obtain ⟨_, hA⟩ := hcall _ _ _ _ _ _ hc
              unfold aop
              simp only [hg, AOp.resite, hcond, gcall]
              refine .inr ⟨fun _ => ⟨allS_unc hE hs.1 hb, (hA V hV _ _ (cargs_rel (hargU _) hvs) hs.2.1).mono ?_⟩, fun e => by cases e⟩
              rintro r hh ⟨hr, hH⟩
              obtain ⟨b1, b2⟩ := hbk hs hH (.cnd true _ r fun _ => hr)
              exact ⟨b1, hK _ b2⟩
            · cases h
          case callv x args =>
            simp only [cdo] at h
            split at h
            · rename_i f caps vs hx hvs
              have hxr := hargU [x] x (by simp) _ hx
              obtain ⟨v, h2, nx, hc, hbk⟩ := cback_rel h
              obtain ⟨he, hA⟩ := hcall _ _ _ _ _ _ hc
              unfold aop
              simp only [hg, AOp.resite, hcond, gcall]
              refine ⟨fun e => (by cases e), fun _ => ?_⟩
              cases hq : argU E S.t x <;> rw [hq] at hxr <;> cases hxr
              refine ⟨he, .inr ⟨fun _ => ⟨allS_unc hE hs.1 hb, (hA V hV _ _ ((cargs_rel (hargU _) hvs).append ⟨by assumption, by assumption⟩) hs.2.1).mono ?_⟩, fun e => by cases e⟩⟩
              rintro r hh ⟨hr, hH⟩
              obtain ⟨b1, b2⟩ := hbk hs hH (.cnd true _ r fun _ => hr)
              exact ⟨b1, hK _ b2⟩
            · rename_i id ep vs hx hvs
              have hxr := hargU [x] x (by simp) _ hx
              obtain ⟨v, h2, nx, hc, hbk⟩ := cback_rel h
              have hA := hyld _ _ _ _ _ _ _ hc
              unfold aop
              simp only [hg, AOp.resite, hcond, gyld]
              refine ⟨fun e => (by cases e), fun _ => ?_⟩
              cases hq : argU E S.t x <;> rw [hq] at hxr <;> cases hxr
              refine ⟨fun _ => ⟨allS_unc hE hs.1 hb, ?_⟩, fun e => by cases e⟩
              have hR := hA V hV _ _ (cargs_rel (hargU _) hvs) hs.2.1
              obtain ⟨ts, ps, asg, body, D, eD, r1, r2, r3⟩ := hR
              refine ⟨ts, ps, asg, body, D, eD, r1, r2, fun ρ => (r3 ρ).mono ?_⟩
              rintro e S1 ⟨e1, e2, e3⟩
              refine ⟨e1, e2, e3.mono ?_⟩
              intro e' S2 hp
              have hk : ∀ (v' : AVal) hh, (CRel v v' ∧ HRel V h2 hh) → ((∀ D ∈ S.ds, hh D.1 = .dfr D.2) ∧ K ⟨putT S.t o.dst (.cnd true v'), hh, S.ds⟩) := by
                rintro v' hh ⟨hr, hH⟩
                obtain ⟨b1, b2⟩ := hbk hs hH (.cnd true _ v' fun _ => hr)
                exact ⟨b1, hK _ b2⟩
              cases e' <;> first | exact ⟨hp.1, hk _ _ hp.2⟩ | exact hp
            · cases h
    · -- it does not
      rename_i hgc
      have hcond := cgcond_rel hs.1 hgc
      cases hb : gF o.op with
      | false => rw [hb] at h; cases h
      | true =>
        rw [hb] at h
        simp only [cond_true] at h
        obtain ⟨C2, e, _, _, g2⟩ := cput_rel h
        cases e
        cases hic : o.op.isCall with
        | false =>
          have hq := gF_op hic hb
          refine aop_guard rfl hcond (by rw [resite_isCall]; exact hic) ⟨quiet_out _ (by rw [resite_quiet]; exact hq) _ _, fun e => (by cases e), hK _ ?_⟩
          exact g2 hs (.cnd false _ _ fun e => by cases e)
        | true =>
          cases hop : o.op <;> rw [hop] at hic hb <;> simp only [AOp.isCall, gF, AOp.quiet] at hic hb <;> (try (cases hic; done)) <;> (try (cases hb; done))
          case callf f args =>
            unfold aop
            simp only [hg, AOp.resite, hcond, gcall]
            exact .inr ⟨fun e => (by cases e), fun _ => hK _ (g2 hs (.cnd false _ _ fun e => by cases e))⟩
          case callv x args =>
            unfold aop
            simp only [hg, AOp.resite, hcond]
            exact ⟨fun _ => hK _ (g2 hs (.cnd false _ _ fun e => by cases e)), fun e => (by cases e)⟩
    · cases h
theorem creg_rel (hE : CERel CE E) (hcall : CallOk E P call) (hyld : YldOk E P yld) : ∀ {l : List AOper} {C C' : CS}, creg CE call yld l C = some C' →
    ∃ l', RList l l' ∧ ∀ (V : Env) (S : ASt) (K : ASt → Prop), V.P = P → CSRel V C S → (∀ S', CSRel V C' S' → K S') → SReg E P l' S K
  | [], C, C', h => by
    simp only [creg, Option.some.injEq] at h
    subst h
    exact ⟨[], .nil, fun V S K hV hs hK => .nil (hK S hs)⟩
  | o :: r, C, C', h => by
    simp only [creg] at h
    obtain ⟨C0, h, hsee⟩ := cpre_rel h
    split at h
    · rename_i C1 h1
      obtain ⟨o', ho, hA⟩ := cstep_rel hE hcall hyld h1
      obtain ⟨r', hr, hB⟩ := creg_rel hE hcall hyld h
      refine ⟨o' :: r', .cons ho hr, fun V S K hV hs hK => ?_⟩
      obtain ⟨S0, s0, hs0⟩ := hsee (E := E) hs
      exact .see s0 (.cons (hA V S0 _ hV hs0 fun S' hs' => hB V S' K hV hs' hK))
    · cases h
abbrev PCall := FuncId → List CV → CS → Option (CV × List Nat)
def PCallOk (E : Nat → AVal) (P : Program) (pc : PCall) : Prop := ∀ f vs C c F, pc f vs C = some (c, F) → enterOk P f = true ∧
  ∀ (V : Env), V.P = P → ∀ args h, CRs vs args → HRel V C.h h → StillOn E P f args h F c.toA
def cdone (C : CS) (r : Option (CV × List Nat)) (dst : Option Tmp) (wrap : CV → CV) : Option (CS × List Nat × Option Nat) := match r with
  | some (v, F) => match cput C dst (wrap v) some with
    | some C' => some (C', F, none)
    | none => none
  | none => none
def cddo (pc : PCall) (arg : AArg → Option CV) (op : AOp) (dst : Option Tmp) (wrap : CV → CV) (C : CS) : Option (CS × List Nat × Option Nat) :=
  match op with
  | .callf f args => match cargs arg args with
    | some vs => cdone C (pc f vs C) dst wrap
    | none => none
  | .callv x args => match arg x, cargs arg args with
    | some (.fn f caps), some vs => cdone C (pc f (vs ++ caps) C) dst wrap
    | _, _ => none
  | op => match cop arg C.h C.nx op with
    | some r => match cputO C r.out fun C => cput C dst (wrap r.v) some with
      | some C' => some (C', r.rd, match r.out with | some (i, _) => some i | none => none)
      | none => none
    | none => none
def cdstep (CE : Nat → Option CV) (pc : PCall) (o : AOper) (C : CS) : Option (CS × List Nat × Option Nat) :=
  match o.guard with
  | none => cddo pc (carg CE C.t) o.op o.dst (fun v => v) C
  | some (tg, want) => match cgcond (C.t.get tg) want with
    | some true => bif gT (cargU CE C.t) o.op then cddo pc (cargU CE C.t) o.op o.dst (fun v => .cnd true v) C else none
    | some false => bif gF o.op then (match cput C o.dst (.cnd false .top) some with | some C' => some (C', [], none) | none => none) else none
    | none => none
def cdreg (CE : Nat → Option CV) (pc : PCall) : List AOper → CS → Option (CS × List (List Nat × Option Nat))
  | [], C => some (C, [])
  | o :: r, C => match cdstep CE pc o C with
    | some (C1, rd, out) => match cdreg CE pc r C1 with
      | some (C', tr) => some (C', (rd, out) :: tr)
      | none => none
    | none => none
theorem dop_plain {o : AOper} {S : ASt} {K : AVal → List Nat → Option (Nat × AObj) → Prop} (hg : o.guard = none) (hic : o.op.isCall = false)
    (h : (o.op.req (argv E S.t) S.h).ok ∧ K (o.op.req (argv E S.t) S.h).v (o.op.req (argv E S.t) S.h).rd (o.op.req (argv E S.t) S.h).out) : dop E P o S K := by
  unfold dop
  rw [hg]
  cases hop : o.op <;> rw [hop] at hic h <;> first | exact h | (simp [AOp.isCall] at hic; done)
theorem dop_guard {o : AOper} {S : ASt} {K : AVal → List Nat → Option (Nat × AObj) → Prop} {tg : Tmp} {want c : Bool} (hg : o.guard = some (tg, want)) (hc : gcond (S.t.getD tg .top) want = some c) (hic : o.op.isCall = false)
    (h : o.op.quiet = true ∧ (c = true → o.op.unAll E c S.t ∧ (o.op.req (argU E S.t) S.h).ok) ∧ K (.cnd c (o.op.req (argU E S.t) S.h).v) (bif c then (o.op.req (argU E S.t) S.h).rd else []) none) : dop E P o S K := by
  unfold dop
  rw [hg]
  simp only [hc]
  cases hop : o.op <;> rw [hop] at hic h <;> first | exact h | (simp [AOp.isCall] at hic; done)
theorem cddo_plain {pc : PCall} {arg : AArg → Option CV} {op : AOp} {dst : Option Tmp} {wrap : CV → CV} {C C' : CS} {rd : List Nat} {out : Option Nat} (hic : op.isCall = false) (h : cddo pc arg op dst wrap C = some (C', rd, out)) :
    ∃ r, cop arg C.h C.nx op = some r ∧ cputO C r.out (fun C => cput C dst (wrap r.v) some) = some C' ∧ rd = r.rd ∧ out = (match r.out with | some (i, _) => some i | none => none) := by
  have h' : (match cop arg C.h C.nx op with
    | some r => match cputO C r.out fun C => cput C dst (wrap r.v) some with
      | some C' => some (C', r.rd, match r.out with | some (i, _) => some i | none => none)
      | none => none
    | none => none) = some (C', rd, out) := by
    cases op <;> first | exact h | (simp [AOp.isCall] at hic; done)
  split at h'
  · rename_i r hr
    split at h'
    · rename_i C1 h1
      simp only [Option.some.injEq, Prod.mk.injEq] at h'
      obtain ⟨rfl, rfl, rfl⟩ := h'
      exact ⟨r, hr, h1, rfl, rfl⟩
    · cases h'
  · cases h'
theorem cdone_rel {C C' : CS} {r : Option (CV × List Nat)} {dst : Option Tmp} {wrap : CV → CV} {rd : List Nat} {out : Option Nat} (h : cdone C r dst wrap = some (C', rd, out)) :
    ∃ v, r = some (v, rd) ∧ out = none ∧ ∀ {V : Env} {S : ASt} {x : AVal}, CSRel V C S → CRel (wrap v) x → CSRel V C' ⟨putT S.t dst x, S.h, S.ds⟩ := by
  unfold cdone at h
  split at h
  · rename_i v F
    split at h
    · rename_i C1 h1
      simp only [Option.some.injEq, Prod.mk.injEq] at h
      obtain ⟨rfl, rfl, rfl⟩ := h
      obtain ⟨C2, e, _, _, g2⟩ := cput_rel h1
      cases e
      exact ⟨v, rfl, rfl, fun hs hx => g2 hs hx⟩
    · cases h
  · cases h
theorem cdstep_rel {pc : PCall} (hE : CERel CE E) (hpc : PCallOk E P pc) {o : AOper} {C C' : CS} {rd : List Nat} {out : Option Nat} (h : cdstep CE pc o C = some (C', rd, out)) :
    ∃ o', ROper o o' ∧ ∀ (V : Env) (S : ASt) (K : AVal → List Nat → Option (Nat × AObj) → Prop), V.P = P → CSRel V C S →
      (∀ v out', out = out'.map (·.1) → CSRel V C' ⟨putT S.t o'.dst v, putH S.h out', S.ds⟩ → K v rd out') → dop E P o' S K := by
  refine ⟨⟨o.dst, o.op.resite C.nx, o.guard⟩, ⟨rfl, rfl, C.nx, rfl⟩, fun V S K hV hs hK => ?_⟩
  unfold cdstep at h
  have hargs : ∀ l : List AArg, ArgRel (carg CE C.t) (argv E S.t) l := fun l y _ c hc => carg_rel hE hs.1 hc
  have hargU : ∀ l : List AArg, ArgRel (cargU CE C.t) (argU E S.t) l := fun l y _ c hc => (cargU_rel hE hs.1 hc).1
  have selfr : ∀ c : CV, CRel c c.toA := fun c => CRel.self _ c (Nat.lt_succ_self _)
  cases hg : o.guard with
  | none =>
    simp only [hg] at h
    cases hic : o.op.isCall with
    | false =>
      obtain ⟨r, hr, hp, rfl, hout⟩ := cddo_plain hic h
      have hrel := cop_rel (hargs _) hs.2.1 hr
      obtain ⟨C1, h1, t1, n1, d1, g1⟩ := cputO_rel hp
      obtain ⟨C2, e, _, _, g2⟩ := cput_rel h1
      cases e
      obtain ⟨q1, q2, q3, q4⟩ := hrel
      refine dop_plain rfl (by rw [resite_isCall]; exact hic) ⟨q1, ?_⟩
      simp only
      rw [q3]
      refine hK _ _ ?_ ?_
      · rw [hout]
        cases hro : r.out with
        | none => rw [hro] at q4; have q4 : _ = none := q4; rw [q4]; rfl
        | some x => obtain ⟨i, ob⟩ := x; rw [hro] at q4; obtain ⟨o', e1, _⟩ := q4; rw [e1]; rfl
      · exact g2 (S := ⟨S.t, _, S.ds⟩) ⟨by rw [t1, n1]; exact hs.1, g1 hs.2.1 q4, by rw [d1]; exact hs.2.2⟩ q2
    | true =>
      cases hop : o.op <;> rw [hop] at hic h <;> simp only [AOp.isCall] at hic <;> (try (cases hic; done))
      case mnext x => simp [cddo, cop] at h
      case callf f args =>
        simp only [cddo] at h
        split at h
        · rename_i vs hvs
          obtain ⟨v, hc, rfl, hb⟩ := cdone_rel h
          obtain ⟨_, hA⟩ := hpc _ _ _ _ _ hc
          unfold dop
          simp only [hg, AOp.resite, dcall]
          exact ⟨_, rd, hA V hV _ _ (cargs_rel (hargs _) hvs) hs.2.1, hK _ none rfl (hb hs (selfr v))⟩
        · cases h
      case callv x args =>
        simp only [cddo] at h
        split at h
        · rename_i f caps vs hx hvs
          have hxr := hargs [x] x (by simp) _ hx
          obtain ⟨v, hc, rfl, hb⟩ := cdone_rel h
          obtain ⟨he, hA⟩ := hpc _ _ _ _ _ hc
          unfold dop
          simp only [hg, AOp.resite, dcall]
          cases hq : argv E S.t x <;> rw [hq] at hxr <;> cases hxr
          exact ⟨he, _, rd, hA V hV _ _ ((cargs_rel (hargs _) hvs).append ⟨by assumption, by assumption⟩) hs.2.1, hK _ none rfl (hb hs (selfr v))⟩
        · cases h
  | some gd =>
    obtain ⟨tg, want⟩ := gd
    simp only [hg] at h
    split at h
    · rename_i hgc
      have hcond := cgcond_rel hs.1 hgc
      cases hb : gT (cargU CE C.t) o.op with
      | false => rw [hb] at h; cases h
      | true =>
        rw [hb] at h
        simp only [cond_true] at h
        cases hic : o.op.isCall with
        | false =>
          have hb' := gT_op hic hb
          obtain ⟨r, hr, hp, rfl, hout⟩ := cddo_plain hic h
          have hrel := cop_rel (hargU _) hs.2.1 hr
          obtain ⟨C1, h1, t1, n1, d1, g1⟩ := cputO_rel hp
          obtain ⟨C2, e, _, _, g2⟩ := cput_rel h1
          cases e
          obtain ⟨q1, q2, q3, q4⟩ := hrel
          have hno := quiet_out (o.op.resite C.nx) (by rw [resite_quiet]; exact hb'.1) (argU E S.t) S.h
          refine dop_guard rfl hcond (by rw [resite_isCall]; exact hic) ⟨by rw [resite_quiet]; exact hb'.1, fun _ => ⟨(resite_unAll E true S.t C.nx o.op).2 (cunAll_rel hE hs.1 hb'.2), q1⟩, ?_⟩
          have g1' := g1 hs.2.1 q4
          rw [hno] at g1'
          have hro : r.out = none := by
            cases hro : r.out with
            | none => rfl
            | some x => obtain ⟨i, ob⟩ := x; rw [hro] at q4; obtain ⟨o', e1, _⟩ := q4; rw [hno] at e1; cases e1
          simp only [cond_true]
          rw [q3]
          refine hK _ none (by rw [hout, hro]; rfl) ?_
          exact g2 (S := ⟨S.t, S.h, S.ds⟩) ⟨by rw [t1, n1]; exact hs.1, g1', by rw [d1]; exact hs.2.2⟩ (.cnd true _ _ fun _ => q2)
        | true =>
          cases hop : o.op <;> rw [hop] at hic h hb <;> simp only [AOp.isCall] at hic <;> (try (cases hic; done))
          case mnext x => simp [cddo, cop] at h
          case callf f args =>
            simp only [cddo] at h
            split at h
            · rename_i vs hvs
              obtain ⟨v, hc, rfl, hbk⟩ := cdone_rel h
              obtain ⟨_, hA⟩ := hpc _ _ _ _ _ hc
              unfold dop
              simp only [hg, AOp.resite, hcond, dgcall]
              exact ⟨_, rd, fun _ => ⟨allS_unc hE hs.1 hb, hA V hV _ _ (cargs_rel (hargU _) hvs) hs.2.1⟩, hK _ none rfl (hbk hs (.cnd true _ _ fun _ => selfr v))⟩
            · cases h
          case callv x args =>
            simp only [cddo] at h
            split at h
            · rename_i f caps vs hx hvs
              have hxr := hargU [x] x (by simp) _ hx
              obtain ⟨v, hc, rfl, hbk⟩ := cdone_rel h
              obtain ⟨he, hA⟩ := hpc _ _ _ _ _ hc
              unfold dop
              simp only [hg, AOp.resite, hcond, dgcall]
              refine ⟨fun e => (by cases e), fun _ => ?_⟩
              cases hq : argU E S.t x <;> rw [hq] at hxr <;> cases hxr
              exact ⟨he, _, rd, fun _ => ⟨allS_unc hE hs.1 hb, hA V hV _ _ ((cargs_rel (hargU _) hvs).append ⟨by assumption, by assumption⟩) hs.2.1⟩, hK _ none rfl (hbk hs (.cnd true _ _ fun _ => selfr v))⟩
            · cases h
    · rename_i hgc
      have hcond := cgcond_rel hs.1 hgc
      cases hb : gF o.op with
      | false => rw [hb] at h; cases h
      | true =>
        rw [hb] at h
        simp only [cond_true] at h
        split at h
        · rename_i C1 h1
          simp only [Option.some.injEq, Prod.mk.injEq] at h
          obtain ⟨rfl, rfl, rfl⟩ := h
          obtain ⟨C2, e, _, _, g2⟩ := cput_rel h1
          cases e
          cases hic : o.op.isCall with
          | false =>
            have hq := gF_op hic hb
            refine dop_guard rfl hcond (by rw [resite_isCall]; exact hic) ⟨by rw [resite_quiet]; exact hq, fun e => (by cases e), ?_⟩
            exact hK _ none rfl (g2 hs (.cnd false _ _ fun e => by cases e))
          | true =>
            cases hop : o.op <;> rw [hop] at hic hb <;> simp only [AOp.isCall, gF, AOp.quiet] at hic hb <;> (try (cases hic; done)) <;> (try (cases hb; done))
            case callf f args =>
              unfold dop
              simp only [hg, AOp.resite, hcond, dgcall]
              exact ⟨.top, [], fun e => (by cases e), hK _ none rfl (g2 hs (.cnd false _ _ fun e => by cases e))⟩
            case callv x args =>
              unfold dop
              simp only [hg, AOp.resite, hcond]
              exact ⟨fun _ => hK _ none rfl (g2 hs (.cnd false _ _ fun e => by cases e)), fun e => (by cases e)⟩
        · cases h
    · cases h
theorem cdreg_rel {pc : PCall} (hE : CERel CE E) (hpc : PCallOk E P pc) : ∀ {l : List AOper} {C C' : CS} {tr : List (List Nat × Option Nat)}, cdreg CE pc l C = some (C', tr) →
    ∃ l', RList l l' ∧ ∀ (V : Env) (S : ASt) (K : ASt → List (List Nat × Option Nat) → Prop), V.P = P → CSRel V C S → (∀ S', CSRel V C' S' → K S' tr) → dreg E P l' S K
  | [], C, C', tr, h => by
    simp only [cdreg, Option.some.injEq, Prod.mk.injEq] at h
    obtain ⟨rfl, rfl⟩ := h
    exact ⟨[], .nil, fun V S K hV hs hK => hK S hs⟩
  | o :: r, C, C', tr, h => by
    simp only [cdreg] at h
    split at h
    · rename_i C1 rd out h1
      split at h
      · rename_i C2 tr2 h2
        simp only [Option.some.injEq, Prod.mk.injEq] at h
        obtain ⟨rfl, rfl⟩ := h
        obtain ⟨o', ho, hA⟩ := cdstep_rel hE hpc h1
        obtain ⟨r', hr, hB⟩ := cdreg_rel hE hpc h2
        refine ⟨o' :: r', .cons ho hr, fun V S K hV hs hK => hA V S _ hV hs fun v out' he hs' => hB V _ _ hV hs' fun S' hs2 => ?_⟩
        rw [← he]
        exact hK S' hs2
      · cases h
    · cases h
end
end Go.Am
set_option linter.unusedVariables false
set_option linter.unusedSimpArgs false
namespace Go.Am
abbrev CEx := Bool → ACode → CS → Option (Exit × CS)
abbrev CHook := FuncId → List CV → Tr CO → Option CV
def cinit {β : Type} : List CV → Nat → Tr CV → (Tr CV → β) → β
  | [], _, t, k => k t
  | x :: r, i, t, k => Tr.setK 32 t i (some x) fun t => cinit r (Nat.succ i) t k
def cres (C : CS) : ARes → Option CV
  | .t n => C.t.get n
  | .c n agg sz => match C.t.get n with
    | some v => match cload agg sz v C.h with | some (c, _) => some c | none => none
    | none => none
def cresl (C : CS) : List ARes → Option (List CV)
  | [] => some []
  | r :: l => match cres C r with
    | some c => match cresl C l with
      | some m => some (c :: m)
      | none => none
    | none => none
def cret (C : CS) : List ARes → Option CV
  | [r] => cres C r
  | l => match cresl C l with | some m => some (.tup m) | none => none
def cdrop {β : Type} : List (Nat × Nat) → Tr CO → (Tr CO → β) → β
  | [], h, k => k h
  | D :: r, h, k => Tr.setK 32 h D.1 (some (.gone D.2)) fun h => cdrop r h k
def allLt : List (Nat × Nat) → Bool
  | [] => true
  | D :: r => Nat.blt D.1 2147483648 && allLt r
def cend (rs : List ARes) (C : CS) : Option (CV × Tr CO × Nat) := match cret C rs with
  | some v => bif dsOk C.ds C.h && allLt C.ds then cdrop C.ds C.h fun h => some (v, h, C.nx) else none
  | none => none
def ccall (ex : CEx) (T : Tr Ent) (hook : CHook) : CCall := fun f vs C =>
  match hook f vs C.h with
  | some v => match T.get f with
    | some _ => some (v, C.h, C.nx)
    | none => none
  | none => match T.get f with
    | some e => bif Nat.blt e.nt 2147483648 && Nat.ble vs.length e.nt then cinit vs 0 .e (fun t => match ex true e.code ⟨t, e.nt, C.h, C.nx, []⟩ with
        | some (.ret, C') => cend e.rs C'
        | some (.normal, C') => cend e.rs C'
        | _ => none) else none
    | none => none
def cpure (cc : CCall) : PCall := fun f vs C => creach 1000 C.h (CV.idss vs) [] fun F =>
  bif CV.inFs F vs && allF (fun i => CO.inF F (cobj C.h i)) F then csub C.h F .e fun T => (match cc f vs ⟨.e, 0, T, C.nx, []⟩ with
    | some (v, h, _) => bif allF (fun i => CO.beq (cobj h i) (cobj C.h i)) F then (match cfz F 1000 h v with
      | some c => bif c.plain then some (c, F) else none
      | none => none) else none
    | none => none) else none
def csetPs {β : Type} (nt : Nat) : Tr CV → List Tmp → List CV → (Tr CV → Option β) → Option β
  | t, p :: ps, v :: vs, k => bif Nat.blt p nt && Nat.blt p 2147483648 then Tr.setK 32 t p (some v) fun t => csetPs nt t ps vs k else none
  | t, _, _, k => k t
def isLoop (st : Bool) (o : CO) (ep D eD : Nat) : Bool := match o with
  | .loop ep' s pe _ _ _ _ _ D' eD' => (match s with | .ready => st && Nat.beq pe 0 | .busy => !st | _ => false) && Nat.beq ep ep' && Nat.beq D D' && Nat.beq eD eD'
  | _ => false
def cyld (ex : CEx) : CYld := fun id ep vs C => match cobj C.h id with
  | .loop ep' .ready pe ts nt ps a b D eD =>
    bif Nat.beq ep ep' && Nat.beq pe 0 && Nat.beq ps.length vs.length && Nat.blt id 2147483648 then
      csetPs nt ts ps vs fun t => match ex false a ⟨t, nt, C.h, C.nx, []⟩ with
        | some (.normal, C1) => bif isLoop true (cobj C1.h id) ep D eD then Tr.setK 32 C1.h id (some (.loop ep .busy 0 ts nt ps a b D eD)) fun h => (match ex false b ⟨C1.t, C1.nt, h, C1.nx, C1.ds⟩ with
          | some (e, C3) => bif isLoop false (cobj C3.h id) ep D eD then (match e with
            | .normal => Tr.setK 32 C3.h id (some (.loop ep .ready 0 ts nt ps a b D eD)) fun h => some (.bool true, h, C3.nx)
            | .ret => Tr.setK 32 C3.h id (some (.loop ep .done 1 ts nt ps a b D eD)) fun h => some (.bool false, h, C3.nx)
            | .exit i => Tr.setK 32 C3.h id (some (.loop ep .done (i + 2) ts nt ps a b D eD)) fun h => some (.bool false, h, C3.nx)
            | _ => none) else none
          | none => none) else none
        | _ => none
    else none
  | _ => none
def notBusy : LoopState → Bool
  | .busy => false
  | _ => true
def exitOf : Nat → Exit
  | 0 => .normal
  | 1 => .ret
  | n + 2 => .exit n
def crange (CE : Nat → Option CV) (call : CCall) (f : AArg) (ps : List Tmp) (a b : ACode) (C : CS) : Option (Exit × CS) := match carg CE C.t f with
  | some (.fn fi caps) => match (cobj C.h C.nx).free, (cobj C.h (Nat.succ C.nx)).free with
    | some eD, some eL => bif Nat.blt (Nat.succ C.nx) 2147483648 then
      Tr.setK 32 C.h C.nx (some (.dfr (eD + 1))) fun h => Tr.setK 32 h (Nat.succ C.nx) (some (.loop (eL + 1) .ready 0 C.t C.nt ps a b C.nx (eD + 1))) fun h =>
        match call fi (.yld (Nat.succ C.nx) (eL + 1) :: caps) ⟨C.t, C.nt, h, Nat.succ (Nat.succ C.nx), C.ds⟩ with
        | some (_, h2, nx2) => match cobj h2 (Nat.succ C.nx) with
          | .loop e' st pe _ _ _ _ _ D' eD' => bif notBusy st && Nat.beq e' (eL + 1) && Nat.beq D' C.nx && Nat.beq eD' (eD + 1) && dsOk ((C.nx, eD + 1) :: C.ds) h2 then
            Tr.setK 32 h2 (Nat.succ C.nx) (some (.gone (eL + 1))) fun h3 => some (exitOf pe, ⟨C.t, C.nt, h3, nx2, (C.nx, eD + 1) :: C.ds⟩) else none
          | _ => none
        | none => none
      else none
    | _, _ => none
  | _ => none
def cex (CE : Nat → Option CV) (T : Tr Ent) (hook : CHook) : Nat → CEx
  | 0, _, _, _ => none
  | n + 1, top, c, C => match c with
    | .skip => some (.normal, C)
    | .ret => some (.ret, C)
    | .exit i => some (.exit i, C)
    | .seq a b => match cex CE T hook n top a C with
      | some (.normal, C') => cex CE T hook n top b C'
      | r => r
    | .cond x a b => match carg CE C.t x with
      | some (.bool true) => cex CE T hook n top a C
      | some (.bool false) => cex CE T hook n top b C
      | _ => none
    | .block i a => match cex CE T hook n top a C with
      | some (.exit j, C') => bif Nat.beq j i then some (.normal, C') else some (.exit j, C')
      | r => r
    | .loop a => match cex CE T hook n top a C with
      | some (.normal, C') => cex CE T hook n top (.loop a) C'
      | r => r
    | .reg false ops _ => match creg CE (ccall (cex CE T hook n) T hook) (cyld (cex CE T hook n)) ops C with
      | some C' => some (.normal, C')
      | none => none
    | .reg true ops pr => match cdreg CE (cpure (ccall (cex CE T hook n) T hook)) ops C with
      | some (C', tr) => bif hpOk pr tr then some (.normal, C') else none
      | none => none
    | .rfunc f ps a b => bif top then crange CE (ccall (cex CE T hook n) T hook) f ps a b C else none
theorem RList.length {l l' : List AOper} (h : RList l l') : l'.length = l.length := by
  induction h with
  | nil => rfl
  | cons _ _ ih => simp [ih]
theorem RList.at {l l' : List AOper} (h : RList l l') : ∀ i : Nat, (l[i]? = none ∧ l'[i]? = none) ∨ ∃ o o', l[i]? = some o ∧ l'[i]? = some o' ∧ ROper o o' := by
  induction h with
  | nil => intro i; exact .inl ⟨by simp, by simp⟩
  | cons h _ ih =>
    intro i
    cases i with
    | zero => exact .inr ⟨_, _, rfl, rfl, h⟩
    | succ i => simpa using ih i
theorem ROper.looks {o o' : AOper} (h : ROper o o') : looks o' = looks o := by
  obtain ⟨h1, h2, s, h3⟩ := h
  unfold Am.looks
  rw [h2, h3, resite_args]
theorem slots_resite {l l' : List AOper} (h : RList l l') {pr : List (List Nat)} (hs : slotsOk l pr = true) : slotsOk l' pr = true := by
  unfold slotsOk at hs ⊢
  rw [h.length]
  simp only [List.all_eq_true] at hs ⊢
  intro i hi j hj
  have := hs i hi j hj
  rcases h.at i with ⟨e1, e2⟩ | ⟨o, o', e1, e2, hr⟩ <;> rcases h.at j with ⟨f1, f2⟩ | ⟨p, p', f1, f2, hr2⟩ <;> rw [e1, f1] at this <;> rw [e2, f2] <;> (try exact this)
  simp only at this ⊢
  rw [hr.1, hr2.1, hr2.looks]
  exact this
theorem cinit_get {β : Type} : ∀ (vs : List CV) (i : Nat) (t : Tr CV) (k : Tr CV → β), i + vs.length ≤ 2 ^ 31 → ∃ t', cinit vs i t k = k t' ∧ ∀ j, t'.get j = if i ≤ j ∧ j < i + vs.length then vs[j - i]? else t.get j
  | [], i, t, k, _ => ⟨t, rfl, fun j => by rw [if_neg (by simp only [List.length_nil]; omega)]⟩
  | x :: r, i, t, k, h => by
    simp only [List.length_cons] at h
    obtain ⟨t', h1, h2⟩ := cinit_get r (i + 1) (Tr.set 32 t i (some x)) k (by omega)
    refine ⟨t', by simp only [cinit, Tr.setK_eq]; exact h1, fun j => ?_⟩
    rw [h2 j, Tr.get_set 31 t i (some x) j (by omega)]
    simp only [List.length_cons]
    by_cases e : j = i
    · subst e
      rw [if_neg (by omega), if_pos rfl, if_pos (by omega)]
      simp
    · rw [if_neg e]
      by_cases hj : i + 1 ≤ j ∧ j < i + 1 + r.length
      · rw [if_pos hj, if_pos (by omega), show j - i = (j - (i + 1)) + 1 by omega, List.getElem?_cons_succ]
      · rw [if_neg hj, if_neg (by omega)]
structure TabOk (P : Program) (T : Tr Ent) : Prop where
  ok : ∀ f e, T.get f = some e → enterOk P f = true ∧ ∃ fn c, P.funcs[f]? = some fn ∧ fn.body = some c ∧ checkCode P c e.code = true ∧ checkRess P fn.results.toList e.rs = true ∧ fn.ntmps = e.nt
def HookOk (E : Nat → AVal) (P : Program) (hook : CHook) : Prop := ∀ f vs H v, hook f vs H = some v →
  ∀ (V : Env), V.P = P → ∀ args h, CRs vs args → HRel V H h → ATr E P f args h (fun r h2 => CRel v r ∧ HRel V H h2)
section
variable {E : Nat → AVal} {P : Program} {CE : Nat → Option CV} {T : Tr Ent} {hook : CHook}
def ExOk (E : Nat → AVal) (P : Program) (ex : CEx) : Prop := ∀ top c C e C', ex top c C = some (e, C') → (∃ i, e = .exit i) ∨ e = .normal ∨ e = .ret →
  ∀ (V : Env) (S : ASt) (ρ : Option Nat), V.P = P → (top = true → ρ = none) → CSRel V C S → AW E ρ P c (fun e' S' => e' = e ∧ CSRel V C' S') S
theorem cres_rel {V : Env} {C : CS} {S : ASt} {r : ARes} {c : CV} (hs : CSRel V C S) (h : cres C r = some c) : r.ok S ∧ CRel c (r.val S) := by
  have slot : ∀ {n : Nat} {v : CV}, C.t.get n = some v → CRel v (S.t.getD n .top) := fun {n v} hv => carg_rel (CE := fun _ => none) (E := fun _ => .top) (fun i c h => by cases h) hs.1 (y := .t n) hv
  cases r with
  | t n => exact ⟨trivial, slot h⟩
  | c n agg sz =>
    simp only [cres] at h
    split at h
    · rename_i v hv
      split at h
      · rename_i c' rd hl
        cases h
        obtain ⟨q1, q2, _, _⟩ := cload_rel (slot hv) hs.2.1 hl
        exact ⟨q1, q2⟩
      · cases h
    · cases h
theorem cresl_rel {V : Env} {C : CS} {S : ASt} (hs : CSRel V C S) : ∀ {l : List ARes} {m : List CV}, cresl C l = some m → ressOk S l ∧ CRs m (l.map (ARes.val S))
  | [], m, h => by simp only [cresl, Option.some.injEq] at h; subst h; exact ⟨trivial, .nil⟩
  | r :: l, m, h => by
    simp only [cresl] at h
    split at h
    · rename_i c hc
      split at h
      · rename_i m' hm
        cases h
        obtain ⟨q1, q2⟩ := cres_rel hs hc
        obtain ⟨q3, q4⟩ := cresl_rel hs hm
        exact ⟨⟨q1, q3⟩, .cons q2 q4⟩
      · cases h
    · cases h
theorem cret_rel {V : Env} {C : CS} {S : ASt} (hs : CSRel V C S) {l : List ARes} {v : CV} (h : cret C l = some v) : ressOk S l ∧ CRel v (retVal S l) := by
  unfold cret at h
  split at h
  · obtain ⟨q1, q2⟩ := cres_rel hs h
    exact ⟨⟨q1, trivial⟩, q2⟩
  · rename_i hne
    split at h
    · rename_i m hm
      cases h
      obtain ⟨q1, q2⟩ := cresl_rel hs hm
      refine ⟨q1, ?_⟩
      unfold retVal
      split
      · rename_i r; exact absurd rfl (hne r)
      · exact .tups q2
    · cases h
theorem cdrop_rel {V : Env} {β : Type} : ∀ {ds : List (Nat × Nat)} {H : Tr CO} {h : AHeap} {k : Tr CO → Option β} {r : β}, allLt ds = true → HRel V H h → cdrop ds H k = some r →
    ∃ H', k H' = some r ∧ HRel V H' (fun i => match ds.reverse.find? (fun D => D.1 == i) with | some D => .gone D.2 | none => h i)
  | [], H, h, k, r, _, hh, hc => ⟨H, hc, hh⟩
  | D :: ds, H, h, k, r, hl, hh, hc => by
    simp only [allLt, Bool.and_eq_true, Nat.blt_eq] at hl
    simp only [cdrop, Tr.setK_eq] at hc
    obtain ⟨H', h1, h2⟩ := cdrop_rel hl.2 (hh.put (i := D.1) (by simpa using hl.1) (o := .gone D.2) (o' := .gone D.2) rfl) hc
    refine ⟨H', h1, ?_⟩
    have e : (fun i => match (D :: ds).reverse.find? (fun D => D.1 == i) with | some D => AObj.gone D.2 | none => h i) = (fun i => match ds.reverse.find? (fun D => D.1 == i) with | some D => .gone D.2 | none => hset h D.1 (.gone D.2) i) := by
      funext i
      rw [List.reverse_cons, List.find?_append]
      cases hf : ds.reverse.find? (fun D => D.1 == i) with
      | some D' => simp
      | none =>
        simp only [Option.none_or, List.find?_cons, List.find?_nil, hset]
        by_cases e : i = D.1
        · subst e; simp
        · have : (D.1 == i) = false := by simp [Ne.symm e]
          rw [this]; simp [e]
    rw [e]
    exact h2
theorem ccall_ok (hE : CERel CE E) (hT : TabOk P T) (hH : HookOk E P hook) {ex : CEx} (hex : ExOk E P ex) : CallOk E P (ccall ex T hook) := by
  intro f vs C v h' nx' h
  unfold ccall at h
  split at h
  · rename_i v0 hv
    split at h
    · rename_i e he
      cases h
      exact ⟨(hT.ok f e he).1, fun V hV args hh ha hHr => hH f vs C.h _ hv V hV args hh ha hHr⟩
    · cases h
  · split at h
    · rename_i e he
      obtain ⟨hent, fn, c, hf, hb, hck, hcr, hnt⟩ := hT.ok f e he
      refine ⟨hent, fun V hV args hh ha hHr => ?_⟩
      cases hc : Nat.blt e.nt 2147483648 && Nat.ble vs.length e.nt with
      | false => rw [hc] at h; cases h
      | true =>
        rw [hc] at h
        simp only [Bool.and_eq_true, Nat.blt_eq, Nat.ble_eq] at hc
        obtain ⟨t', ht1, ht2⟩ := cinit_get vs 0 .e (fun t => match ex true e.code ⟨t, e.nt, C.h, C.nx, []⟩ with
          | some (.ret, C') => cend e.rs C'
          | some (.normal, C') => cend e.rs C'
          | _ => none) (by omega)
        simp only [cond_true] at h
        rw [ht1] at h
        have hlen : vs.length = args.length := ha.1
        have hs0 : CSRel V ⟨t', e.nt, C.h, C.nx, []⟩ ⟨args ++ List.replicate (e.nt - args.length) .top, hh, []⟩ := by
          refine ⟨⟨by simp; omega, fun i hi => ?_, fun i hi => ?_⟩, hHr, rfl⟩
          · rw [ht2 i]
            by_cases hi2 : i < vs.length
            · rw [if_pos (by omega)]
              obtain ⟨x, hx, hr⟩ := ha.get (List.getElem?_eq_getElem hi2)
              have : (args ++ List.replicate (e.nt - args.length) AVal.top).getD i .top = x := by
                simp only [List.getD, List.getElem?_append_left (show i < args.length by omega), hx]; rfl
              rw [this, Nat.sub_zero, List.getElem?_eq_getElem hi2]
              exact hr
            · rw [if_neg (by omega)]
              have : (args ++ List.replicate (e.nt - args.length) AVal.top).getD i .top = .top := by
                rw [List.getD, List.getElem?_append_right (by omega), List.getElem?_replicate]; split <;> rfl
              rw [this]
              exact .top
          · have hi : e.nt ≤ i := hi
            rw [ht2 i, if_neg (by omega)]; rfl
        have fin : ∀ e0 C', ex true e.code ⟨t', e.nt, C.h, C.nx, []⟩ = some (e0, C') → (e0 = .ret ∨ e0 = .normal) → cend e.rs C' = some (v, h', nx') → ATr E P f args hh (fun r h2 => CRel v r ∧ HRel V h' h2) := by
          intro e0 C' hx he0 hce
          refine ATr.of hf hb hcr hck (e.nt - args.length) (by rw [hnt]) ?_
          refine (hex true e.code _ _ _ hx (by rcases he0 with rfl | rfl <;> simp) V _ none hV (fun _ => rfl) hs0).mono ?_
          rintro e' S' ⟨rfl, hs'⟩
          unfold cend at hce
          split at hce
          · rename_i v1 hv1
            cases hd : dsOk C'.ds C'.h && allLt C'.ds with
            | false => rw [hd] at hce; cases hce
            | true =>
              rw [hd] at hce
              simp only [cond_true] at hce
              simp only [Bool.and_eq_true] at hd
              obtain ⟨H', k1, k2⟩ := cdrop_rel hd.2 hs'.2.1 hce
              cases k1
              obtain ⟨q1, q2⟩ := cret_rel hs' hv1
              have hdf := dsOk_rel hs'.2.1 hd.1
              have hp : Post E e.rs (fun r h2 => CRel v r ∧ HRel V h' h2) .ret S' := by
                refine ⟨S', .refl _, q1, _, fun i => ?_, fun D hD => ?_, q2, k2⟩
                · try dsimp only
                  split
                  · rename_i D hfD
                    have hm := List.mem_of_find?_eq_some hfD
                    have hi := List.find?_some hfD
                    simp at hi hm
                    have := hdf D hm
                    rw [hi] at this
                    exact .inl (by rw [this]; rfl)
                  · exact .refl _
                · rw [hs'.2.2] at hD
                  try dsimp only
                  split
                  · exact ⟨_, rfl⟩
                  · rename_i hfD
                    rw [List.find?_eq_none] at hfD
                    have := hfD D (by simpa using hD)
                    simp at this
              rcases he0 with rfl | rfl
              · exact hp
              · exact hp
          · cases hce
        split at h
        · rename_i C' hx; exact fin _ C' hx (.inl rfl) h
        · rename_i C' hx; exact fin _ C' hx (.inr rfl) h
        · cases h
    · cases h
theorem creach_rel {β : Type} {H : Tr CO} : ∀ {n : Nat} {l F : List Nat} {k : List Nat → Option β} {r : β}, creach n H l F k = some r → ∃ F, k F = some r := by
  intro n
  induction n with
  | zero =>
    intro l F k r h
    cases l with
    | nil => exact ⟨F, by simpa [creach] using h⟩
    | cons x l => simp [creach] at h
  | succ n ih =>
    intro l F k r h
    cases l with
    | nil => exact ⟨F, by simpa [creach] using h⟩
    | cons x l =>
      simp only [creach] at h
      cases hm : memN x F <;> rw [hm] at h <;> exact ih h
theorem cpure_ok (hN : ∀ i, NoRef (E i)) {cc : CCall} (hcc : CallOk E P cc) : PCallOk E P (cpure cc) := by
  intro f vs C c F h
  unfold cpure at h
  obtain ⟨F', h⟩ := creach_rel h
  cases hp : CV.inFs F' vs && allF (fun i => CO.inF F' (cobj C.h i)) F' with
  | false => rw [hp] at h; cases h
  | true =>
    rw [hp] at h
    simp only [cond_true] at h
    simp only [Bool.and_eq_true] at hp
    obtain ⟨T, h, hT⟩ := csub_rel h
    split at h
    · rename_i v h' nx hc
      cases hb : allF (fun i => CO.beq (cobj h' i) (cobj C.h i)) F' with
      | false => rw [hb] at h; cases h
      | true =>
        rw [hb] at h
        simp only [cond_true] at h
        split at h
        · rename_i c' hz
          cases hpl : c'.plain with
          | false => rw [hpl] at h; cases h
          | true =>
            rw [hpl] at h
            simp only [cond_true, Option.some.injEq, Prod.mk.injEq] at h
            obtain ⟨rfl, rfl⟩ := h
            obtain ⟨he, hA⟩ := hcc _ _ _ _ _ _ hc
            refine ⟨he, fun V hV args h ha hH => ?_⟩
            let hs : AHeap := fun i => if i ∈ F' then h i else .gone 0
            have hsr : HRel V T hs := HRel.of_cobj fun i => by
              rw [hT i]
              by_cases e : i ∈ F'
              · simp only [hs, e, if_true]; exact cobj_rel hH i
              · simp only [hs, e, if_false]; rfl
            have hsF : ∀ i, i ∈ F' → hs i = h i := fun i hi => if_pos hi
            have key := (hA V hV args hs ha hsr).frozen (F := F') hz hsr (fun i hi => by
              obtain ⟨q1, q2⟩ := CO.beq_eq (allF_mem hb hi)
              exact ⟨by rw [q1, hT i, if_pos hi], q2⟩)
            refine (ATr.frame (F := F') hN (fun i hi => if_neg hi) (ha.refs hp.1) (fun i hi => ?_) (toA_nr hpl) key).agree fun i hi => (hsF i hi).symm
            show ORefs F' (if i ∈ F' then h i else .gone 0)
            rw [if_pos hi]
            exact (cobj_rel hH i).refs (allF_mem hp.2 hi)
        · cases h
    · cases h
theorem csetPs_rel {β : Type} {nt : Nat} : ∀ {ps : List Tmp} {vs : List CV} {t : Tr CV} {l args : List AVal} {k : Tr CV → Option β} {r : β}, TRel t nt l → CRs vs args → csetPs nt t ps vs k = some r → ∃ t', k t' = some r ∧ TRel t' nt (setPs l ps args)
  | [], vs, t, l, args, k, r, ht, ha, h => ⟨t, by simpa [csetPs] using h, by simpa [setPs] using ht⟩
  | p :: ps, [], t, l, args, k, r, ht, ha, h => by
    have := ha.unnil
    subst this
    exact ⟨t, by simpa [csetPs] using h, by simpa [setPs] using ht⟩
  | p :: ps, v :: vs, t, l, args, k, r, ht, ha, h => by
    obtain ⟨x, args', rfl, hx, ha'⟩ := ha.uncons
    simp only [csetPs] at h
    cases hc : Nat.blt p nt && Nat.blt p 2147483648 with
    | false => rw [hc] at h; cases h
    | true =>
      rw [hc] at h
      simp only [cond_true, Tr.setK_eq] at h
      simp only [Bool.and_eq_true, Nat.blt_eq] at hc
      show ∃ t', k t' = some r ∧ TRel t' nt (setPs (l.set p x) ps args')
      exact csetPs_rel (ht.put hc.1 (by simpa using hc.2) hx) ha' h
theorem isLoop_rel {V : Env} {i : Nat} {st : Bool} {o : CO} {x : AObj} {ep D eD : Nat} {g : LG} (hG : V.G i = some g) (ho : CORel V i o x) (h : isLoop st o ep D eD = true) :
    ∃ pd, x = .loop ep (if st then .ready else .busy) pd g.ts g.ps g.asg g.body D eD ∧ (st = true → pd = none) := by
  unfold isLoop at h
  split at h
  · rename_i ep' s pe ts nt ps a b D' eD'
    simp only [Bool.and_eq_true, Nat.beq_eq] at h
    obtain ⟨⟨⟨h1, rfl⟩, rfl⟩, rfl⟩ := h
    obtain ⟨g', hg', rfl, _⟩ := ho
    rw [hG] at hg'
    cases hg'
    split at h1
    · simp only [Bool.and_eq_true, Nat.beq_eq] at h1
      obtain ⟨rfl, rfl⟩ := h1
      exact ⟨_, rfl, fun _ => rfl⟩
    · cases st <;> simp at h1
      exact ⟨_, rfl, fun e => by cases e⟩
    · cases h1
  · cases h
theorem cyld_ok {ex : CEx} (hex : ExOk E P ex) : YldOk E P (cyld ex) := by
  intro id ep vs C v h' nx' h V hV args hh ha hHr
  unfold cyld at h
  split at h
  · rename_i ep' pe ts nt ps a b D eD hob
    have ho := cobj_rel hHr id
    rw [hob] at ho
    cases hc : Nat.beq ep ep' && Nat.beq pe 0 && Nat.beq ps.length vs.length && Nat.blt id 2147483648 with
    | false => rw [hc] at h; cases h
    | true =>
      rw [hc] at h
      simp only [cond_true] at h
      simp only [Bool.and_eq_true, Nat.beq_eq, Nat.blt_eq] at hc
      obtain ⟨⟨⟨rfl, rfl⟩, hpl⟩, hid⟩ := hc
      have hid' : id < 2 ^ 31 := by simpa using hid
      obtain ⟨g, hG, hloop, hts, hps, hca, hcb⟩ := ho
      obtain ⟨t', hk, ht'⟩ := csetPs_rel hts ha h
      have mk : ∀ (s : LoopState) (pe : Nat), CORel V id (.loop ep s pe ts nt ps a b D eD) (.loop ep s (pendOf pe) g.ts g.ps g.asg g.body D eD) := fun s pe => ⟨g, hG, rfl, hts, hps, hca, hcb⟩
      refine ⟨g.ts, g.ps, g.asg, g.body, D, eD, hloop, by rw [← ha.1, ← hpl, ← hps]; simp, fun ρ => ?_⟩
      split at hk
      · rename_i C1 h1
        have w1 := hex false a _ _ _ h1 (by simp) V ⟨setPs g.ts g.ps.toList args, hh, []⟩ ρ hV (fun e => by cases e) ⟨by rw [hps]; exact ht', hHr, rfl⟩
        rw [← hV] at w1 ⊢
        refine (w1 g.asg hca).mono ?_
        rintro e S1 ⟨rfl, hs1⟩
        cases hl1 : isLoop true (cobj C1.h id) ep D eD with
        | false => rw [hl1] at hk; cases hk
        | true =>
          rw [hl1] at hk
          simp only [cond_true, Tr.setK_eq] at hk
          obtain ⟨pd, e1, e2⟩ := isLoop_rel hG (cobj_rel hs1.2.1 id) hl1
          obtain rfl := e2 rfl
          refine ⟨rfl, e1, ?_⟩
          split at hk
          · rename_i e3 C3 h3
            cases hl3 : isLoop false (cobj C3.h id) ep D eD with
            | false => rw [hl3] at hk; cases hk
            | true =>
              rw [hl3] at hk
              simp only [cond_true] at hk
              have hs2 : CSRel V ⟨C1.t, C1.nt, Tr.set 32 C1.h id (some (.loop ep .busy 0 ts nt ps a b D eD)), C1.nx, C1.ds⟩ ⟨S1.t, hset S1.h id (.loop ep .busy none g.ts g.ps g.asg g.body D eD), S1.ds⟩ := ⟨hs1.1, hs1.2.1.put hid' (mk .busy 0), hs1.2.2⟩
              have w2 := fun hq => hex false b _ _ _ h3 hq V _ ρ hV (fun e => by cases e) hs2
              cases e3 with
              | normal =>
                simp only [Tr.setK_eq] at hk
                cases hk
                have w3 := w2 (by simp)
                rw [← hV] at w3
                refine (w3 g.body hcb).mono ?_
                rintro e S3 ⟨rfl, hs3⟩
                obtain ⟨pd3, e3, _⟩ := isLoop_rel hG (cobj_rel hs3.2.1 id) hl3
                exact ⟨⟨pd3, e3⟩, .bool true, hs3.2.1.put hid' (mk .ready 0)⟩
              | ret =>
                simp only [Tr.setK_eq] at hk
                cases hk
                have w3 := w2 (by simp)
                rw [← hV] at w3
                refine (w3 g.body hcb).mono ?_
                rintro e S3 ⟨rfl, hs3⟩
                obtain ⟨pd3, e3, _⟩ := isLoop_rel hG (cobj_rel hs3.2.1 id) hl3
                exact ⟨⟨pd3, e3⟩, .bool false, hs3.2.1.put hid' (mk .done 1)⟩
              | exit i =>
                simp only [Tr.setK_eq] at hk
                cases hk
                have w3 := w2 (by simp)
                rw [← hV] at w3
                refine (w3 g.body hcb).mono ?_
                rintro e S3 ⟨rfl, hs3⟩
                obtain ⟨pd3, e3, _⟩ := isLoop_rel hG (cobj_rel hs3.2.1 id) hl3
                exact ⟨⟨pd3, e3⟩, .bool false, hs3.2.1.put hid' (mk .done (i + 2))⟩
              | goto l => cases hk
              | panic ch => cases hk
              | outgrown => cases hk
          · cases hk
      · cases hk
  · cases h
theorem HRel.swap {V V' : Env} {H : Tr CO} {h : AHeap} (hh : HRel V H h) (hP : V'.P = V.P) {L : Nat} (hG : ∀ i, i ≠ L → V'.G i = V.G i) (hL : ∀ o, CORel V L ((H.get L).getD (.gone 0)) o → CORel V' L ((H.get L).getD (.gone 0)) o) : HRel V' H h := by
  intro i
  by_cases e : i = L
  · subst e; exact hL _ (hh i)
  · have := hh i
    cases ho : (H.get i).getD (.gone 0) <;> rw [ho] at this <;> first | exact this | skip
    obtain ⟨g, h1, h2⟩ := this
    exact ⟨g, by rw [hG i e]; exact h1, by rw [hP]; exact h2⟩
theorem crange_rel (hE : CERel CE E) {call : CCall} (hcall : CallOk E P call) {f : AArg} {ps : List Tmp} {a b : ACode} {C C' : CS} {e : Exit} (h : crange CE call f ps a b C = some (e, C')) {V : Env} {S : ASt} (hV : V.P = P) (hs : CSRel V C S) :
    AW E none P (.rfunc f ps a b) (fun e' S' => e' = e ∧ CSRel V C' S') S := by
  unfold crange at h
  split at h
  · rename_i fi caps hf
    have hfr := carg_rel hE hs.1 hf
    split at h
    · rename_i eD eL hD hL
      cases hc : Nat.blt (Nat.succ C.nx) 2147483648 with
      | false => rw [hc] at h; cases h
      | true =>
        rw [hc] at h
        simp only [cond_true, Tr.setK_eq] at h
        rw [Nat.blt_eq] at hc
        have hd1 : C.nx < 2 ^ 31 := by omega
        have hd2 : C.nx + 1 < 2 ^ 31 := by omega
        split at h
        · rename_i v0 h2 nx2 hcl
          obtain ⟨pD, epD⟩ := free_rel (cobj_rel hs.2.1 C.nx) hD
          obtain ⟨pL, epL⟩ := free_rel (cobj_rel hs.2.1 (C.nx + 1)) hL
          split at h
          · rename_i e' st pe ts2 nt2 ps2 a2 b2 D' eD' hob
            cases hcond : notBusy st && Nat.beq e' (eL + 1) && Nat.beq D' C.nx && Nat.beq eD' (eD + 1) && dsOk ((C.nx, eD + 1) :: C.ds) h2 with
            | false => rw [hcond] at h; cases h
            | true =>
              rw [hcond] at h
              simp only [cond_true, Tr.setK_eq, Option.some.injEq, Prod.mk.injEq] at h
              obtain ⟨rfl, rfl⟩ := h
              simp only [Bool.and_eq_true, Nat.beq_eq] at hcond
              obtain ⟨⟨⟨⟨c1, rfl⟩, rfl⟩, rfl⟩, c5⟩ := hcond
              cases hq : argv E S.t f <;> rw [hq] at hfr <;> cases hfr
              rename_i l hl hlr
              obtain ⟨hent, hA⟩ := hcall _ _ _ _ _ _ hcl
              refine AW.rfunc C.nx (C.nx + 1) (by omega) pD pL hq hent fun ps' a' b' hps' ha' hb' => ?_
              rw [epD, epL]
              let g : LG := ⟨S.t, ps', a', b'⟩
              let V' : Env := ⟨P, fun i => if i = C.nx + 1 then some g else V.G i⟩
              have hGL : V'.G (C.nx + 1) = some g := if_pos rfl
              have mkL : CORel V' (C.nx + 1) (.loop (eL + 1) .ready 0 C.t C.nt ps a b C.nx (eD + 1)) (.loop (eL + 1) .ready none S.t ps' a' b' C.nx (eD + 1)) := ⟨g, hGL, rfl, hs.1, hps', ha', hb'⟩
              have hV1 : HRel V' C.h S.h := hs.2.1.swap (V' := V') hV.symm (L := C.nx + 1) (fun i hi => if_neg hi) (fun o ho => by
                have : (C.h.get (C.nx + 1)).getD (.gone 0) = .gone eL := by
                  have h1 : cobj C.h (C.nx + 1) = (C.h.get (C.nx + 1)).getD (.gone 0) := by unfold cobj; cases C.h.get (C.nx + 1) <;> rfl
                  rw [← h1]
                  cases hob2 : cobj C.h (C.nx + 1) <;> rw [hob2] at hL <;> simp [CO.free] at hL
                  rw [hL]
                rw [this] at ho ⊢
                exact ho)
              have hH1 : HRel V' (Tr.set 32 (Tr.set 32 C.h C.nx (some (.dfr (eD + 1)))) (C.nx + 1) (some (.loop (eL + 1) .ready 0 C.t C.nt ps a b C.nx (eD + 1)))) (hset (hset S.h C.nx (.dfr (eD + 1))) (C.nx + 1) (.loop (eL + 1) .ready none S.t ps' a' b' C.nx (eD + 1))) :=
                (hV1.put hd1 (o := .dfr (eD + 1)) (o' := .dfr (eD + 1)) rfl).put hd2 mkL
              refine (hA V' rfl _ _ (.cons (.yld _ _) ⟨hl, hlr⟩) hH1).mono ?_
              rintro v h' ⟨hv, hH2⟩
              have ho := cobj_rel hH2 (C.nx + 1)
              rw [hob] at ho
              obtain ⟨g', hg', ho', _⟩ := ho
              rw [hGL] at hg'
              cases hg'
              have hds := dsOk_rel hH2 c5
              refine ⟨st, pendOf pe, (fun e => by subst e; cases c1), ho', hds _ (List.mem_cons_self ..), fun X hX => hds X (by rw [hs.2.2] at hX; exact List.mem_cons_of_mem _ hX), ?_⟩
              have hback : HRel V (Tr.set 32 h2 (C.nx + 1) (some (.gone (eL + 1)))) (hset h' (C.nx + 1) (.gone (eL + 1))) := by
                have h3 : HRel V' (Tr.set 32 h2 (C.nx + 1) (some (.gone (eL + 1)))) (hset h' (C.nx + 1) (.gone (eL + 1))) := hH2.put hd2 (o := .gone (eL + 1)) (o' := .gone (eL + 1)) rfl
                refine h3.swap (V' := V) hV (L := C.nx + 1) (fun i hi => (if_neg hi).symm) fun o ho => ?_
                rw [Tr.get_set 31 h2 _ _ _ hd2, if_pos rfl] at ho ⊢
                exact ho
              have fin : CSRel V ⟨C.t, C.nt, Tr.set 32 h2 (C.nx + 1) (some (.gone (eL + 1))), nx2, (C.nx, eD + 1) :: C.ds⟩ ⟨S.t, hset h' (C.nx + 1) (.gone (eL + 1)), (C.nx, eD + 1) :: S.ds⟩ := ⟨hs.1, hback, by rw [hs.2.2]⟩
              match pe with
              | 0 => exact ⟨rfl, fin⟩
              | 1 => exact ⟨rfl, fin⟩
              | n + 2 => exact ⟨rfl, fin⟩
          · cases h
        · cases h
    · cases h
  · cases h
theorem cex_ok (hE : CERel CE E) (hN : ∀ i, NoRef (E i)) (hT : TabOk P T) (hH : HookOk E P hook) : ∀ n, ExOk E P (cex CE T hook n)
  | 0 => fun top c C e C' h => by simp [cex] at h
  | n + 1 => by
    have ih := cex_ok hE hN hT hH n
    intro top c C e C' h he V S ρ hV hρ hs
    cases c with
    | skip => simp only [cex, Option.some.injEq, Prod.mk.injEq] at h; obtain ⟨rfl, rfl⟩ := h; exact .skip ⟨rfl, hs⟩
    | ret => simp only [cex, Option.some.injEq, Prod.mk.injEq] at h; obtain ⟨rfl, rfl⟩ := h; exact .ret ⟨rfl, hs⟩
    | exit i => simp only [cex, Option.some.injEq, Prod.mk.injEq] at h; obtain ⟨rfl, rfl⟩ := h; exact .exit ⟨rfl, hs⟩
    | seq a b =>
      simp only [cex] at h
      split at h
      · rename_i C1 h1
        refine .seq ((ih top a _ _ _ h1 (by simp) V S ρ hV hρ hs).mono ?_)
        rintro e' S' ⟨rfl, hs'⟩
        exact ih top b _ _ _ h he V S' ρ hV hρ hs'
      · rename_i hne
        refine .seq ((ih top a _ _ _ h he V S ρ hV hρ hs).mono ?_)
        rintro e' S' ⟨rfl, hs'⟩
        cases e' with
        | normal => exact absurd h (hne _)
        | _ => exact ⟨rfl, hs'⟩
    | cond x a b =>
      simp only [cex] at h
      split at h
      · rename_i hx
        have hxr := carg_rel hE hs.1 hx
        refine .cond (t := true) (by cases hq : argv E S.t x <;> rw [hq] at hxr <;> cases hxr; rfl) (fun _ => ih top a _ _ _ h he V S ρ hV hρ hs) (fun e => by cases e)
      · rename_i hx
        have hxr := carg_rel hE hs.1 hx
        refine .cond (t := false) (by cases hq : argv E S.t x <;> rw [hq] at hxr <;> cases hxr; rfl) (fun e => by cases e) (fun _ => ih top b _ _ _ h he V S ρ hV hρ hs)
      · cases h
    | block i a =>
      simp only [cex] at h
      split at h
      · rename_i j C1 h1
        refine .block ((ih top a _ _ _ h1 (by simp) V S ρ hV hρ hs).mono ?_)
        rintro e' S' ⟨rfl, hs'⟩
        simp only [ablk]
        cases hb : Nat.beq j i with
        | true =>
          rw [hb] at h
          simp only [cond_true, Option.some.injEq, Prod.mk.injEq] at h
          obtain ⟨rfl, rfl⟩ := h
          rw [Nat.beq_eq] at hb
          rw [if_pos hb]
          exact ⟨rfl, hs'⟩
        | false =>
          rw [hb] at h
          simp only [cond_false, Option.some.injEq, Prod.mk.injEq] at h
          obtain ⟨rfl, rfl⟩ := h
          have : j ≠ i := fun e => by rw [e] at hb; simp at hb
          rw [if_neg this]
          exact ⟨rfl, hs'⟩
      · rename_i hne
        refine .block ((ih top a _ _ _ h he V S ρ hV hρ hs).mono ?_)
        rintro e' S' ⟨rfl, hs'⟩
        cases e' with
        | exit j => exact absurd h (hne _ _)
        | _ => exact ⟨rfl, hs'⟩
    | loop a =>
      have key : ∀ m, m ≤ n + 1 → ∀ C0 S0, cex CE T hook m top (.loop a) C0 = some (e, C') → CSRel V C0 S0 → AW E ρ P (.loop a) (fun e' S' => e' = e ∧ CSRel V C' S') S0 := by
        intro m hm C0 S0 hx hs0
        refine AW.loop (α := Nat × CS × ASt) (fun x => x.2.2) (fun x => x.1) (fun x => x.1 ≤ n + 1 ∧ CSRel V x.2.1 x.2.2 ∧ cex CE T hook x.1 top (.loop a) x.2.1 = some (e, C')) (m, C0, S0) ⟨hm, hs0, hx⟩ (.refl _) ?_
        rintro ⟨k, C1, S1⟩ ⟨hk, hs1, hx1⟩
        cases k with
        | zero => simp [cex] at hx1
        | succ k =>
          simp only [cex] at hx1
          have ihk : ExOk E P (cex CE T hook k) := by
            rcases Nat.lt_or_ge k n with h1 | h1
            · exact cex_ok hE hN hT hH k
            · have : k = n := by simp only at hk; omega
              subst this; exact ih
          split at hx1
          · rename_i C2 h2
            refine (ihk top a _ _ _ h2 (by simp) V S1 ρ hV hρ hs1).mono ?_
            rintro e' S' ⟨rfl, hs'⟩
            exact ⟨(k, C2, S'), ⟨by simp only at hk; simp only; omega, hs', hx1⟩, Nat.lt_succ_self k, .refl _⟩
          · rename_i hne
            refine (ihk top a _ _ _ hx1 he V S1 ρ hV hρ hs1).mono ?_
            rintro e' S' ⟨rfl, hs'⟩
            cases e' with
            | normal => exact absurd hx1 (hne _)
            | _ => exact ⟨rfl, hs'⟩
      exact key (n + 1) (Nat.le_refl _) C S h hs
    | reg draw ops pr =>
      have hcc : CallOk E P (ccall (cex CE T hook n) T hook) := ccall_ok hE hT hH ih
      cases draw with
      | false =>
        simp only [cex] at h
        split at h
        · rename_i C1 h1
          simp only [Option.some.injEq, Prod.mk.injEq] at h
          obtain ⟨rfl, rfl⟩ := h
          obtain ⟨l', hr, hA⟩ := creg_rel hE hcc (cyld_ok ih) h1
          intro code hc
          have hw : AW E ρ P (.reg false l' pr) (fun e' S' => e' = .normal ∧ CSRel V C1 S') S := .sreg (hA V S _ hV hs fun S' hs' => ⟨rfl, hs'⟩)
          refine hw code ?_
          match code, hc with
          | .region id l false, hc => exact checkOps_resite hr (by simpa [checkCode] using hc)
          | .region id l true, hc => simp [checkCode] at hc
          | .skip, hc => simp [checkCode] at hc
          | .seq _ _, hc => simp [checkCode] at hc
          | .cond _ _ _, hc => simp [checkCode] at hc
          | .block _ _, hc => simp [checkCode] at hc
          | .loop _, hc => simp [checkCode] at hc
          | .rangeFunc _ _ _ _, hc => simp [checkCode] at hc
          | .exit _, hc => simp [checkCode] at hc
          | .scope _, hc => simp [checkCode] at hc
          | .label _, hc => simp [checkCode] at hc
          | .goto _, hc => simp [checkCode] at hc
          | .ret, hc => simp [checkCode] at hc
          | .refuse _, hc => simp [checkCode] at hc
        · cases h
      | true =>
        simp only [cex] at h
        split at h
        · rename_i C1 tr h1
          cases hh : hpOk pr tr with
          | false => rw [hh] at h; cases h
          | true =>
            rw [hh] at h
            simp only [cond_true, Option.some.injEq, Prod.mk.injEq] at h
            obtain ⟨rfl, rfl⟩ := h
            obtain ⟨l', hr, hA⟩ := cdreg_rel hE (cpure_ok hN hcc) h1
            intro code hc
            have hw : AW E ρ P (.reg true l' pr) (fun e' S' => e' = .normal ∧ CSRel V C1 S') S := .draw (hA V S _ hV hs fun S' hs' => ⟨hh, rfl, hs'⟩)
            refine hw code ?_
            match code, hc with
            | .region id l true, hc =>
              simp only [checkCode, Bool.and_eq_true] at hc ⊢
              exact ⟨⟨⟨⟨checkOps_resite hr hc.1.1.1.1, hc.1.1.1.2⟩, hc.1.1.2⟩, slots_resite hr hc.1.2⟩, hc.2⟩
            | .region id l false, hc => simp [checkCode] at hc
            | .skip, hc => simp [checkCode] at hc
            | .seq _ _, hc => simp [checkCode] at hc
            | .cond _ _ _, hc => simp [checkCode] at hc
            | .block _ _, hc => simp [checkCode] at hc
            | .loop _, hc => simp [checkCode] at hc
            | .rangeFunc _ _ _ _, hc => simp [checkCode] at hc
            | .exit _, hc => simp [checkCode] at hc
            | .scope _, hc => simp [checkCode] at hc
            | .label _, hc => simp [checkCode] at hc
            | .goto _, hc => simp [checkCode] at hc
            | .ret, hc => simp [checkCode] at hc
            | .refuse _, hc => simp [checkCode] at hc
        · cases h
    | rfunc f ps a b =>
      simp only [cex] at h
      cases top with
      | false => cases h
      | true =>
        obtain rfl := hρ rfl
        exact crange_rel hE (ccall_ok hE hT hH ih) h hV hs
theorem eval_still (hE : CERel CE E) (hN : ∀ i, NoRef (E i)) (hT : TabOk P T) (hH : HookOk E P hook) (n : Nat) {f : FuncId} {vs : List CV} {c : CV} (h : cpure (ccall (cex CE T hook n) T hook) f vs ⟨.e, 0, .e, 1, []⟩ = some (c, [])) :
    ∀ args, CRs vs args → Still E P f args c.toA := fun args ha h' =>
  (cpure_ok hN (ccall_ok hE hT hH (cex_ok hE hN hT hH n)) f vs _ c [] h).2 ⟨P, fun _ => none⟩ rfl args h0 ha (fun i => rfl) h' (fun j hj => by cases hj)
end
end Go.Am
set_option linter.unusedVariables false
set_option linter.unusedSimpArgs false
namespace Go.Am
def mkTab {β : Type} : List (Nat × Ent) → Tr Ent → (Tr Ent → β) → β
  | [], t, k => k t
  | x :: r, t, k => Tr.setK 32 t x.1 (some x.2) fun t => mkTab r t k
def tabLt : List (Nat × Ent) → Bool
  | [] => true
  | x :: r => Nat.blt x.1 2147483648 && tabLt r
theorem mkTab_eq {β : Type} : ∀ (l : List (Nat × Ent)) (t : Tr Ent) (k : Tr Ent → β), tabLt l = true → ∃ t', mkTab l t k = k t' ∧ ∀ i e, t'.get i = some e → (i, e) ∈ l ∨ t.get i = some e
  | [], t, k, _ => ⟨t, rfl, fun i e h => .inr h⟩
  | x :: r, t, k, h => by
    simp only [tabLt, Bool.and_eq_true, Nat.blt_eq] at h
    obtain ⟨t', h1, h2⟩ := mkTab_eq r (Tr.set 32 t x.1 (some x.2)) k h.2
    refine ⟨t', by simp only [mkTab, Tr.setK_eq]; exact h1, fun i e he => ?_⟩
    rcases h2 i e he with h3 | h3
    · exact .inl (List.mem_cons_of_mem _ h3)
    · rw [Tr.get_set 31 t x.1 _ i (by simpa using h.1)] at h3
      by_cases e1 : i = x.1
      · rw [if_pos e1] at h3
        cases h3
        subst e1
        exact .inl (List.mem_cons_self ..)
      · rw [if_neg e1] at h3
        exact .inr h3
def EntOk (P : Program) (x : Nat × Ent) : Prop := enterOk P x.1 = true ∧ ∃ fn c, P.funcs[x.1]? = some fn ∧ fn.body = some c ∧ checkCode P c x.2.code = true ∧ checkRess P fn.results.toList x.2.rs = true ∧ fn.ntmps = x.2.nt
def evalF (CE : Nat → Option CV) (hook : CHook) (n : Nat) (l : List (Nat × Ent)) (f : FuncId) (vs : List CV) : Option (CV × List Nat) :=
  mkTab l .e fun T => cpure (ccall (cex CE T hook n) T hook) f vs ⟨.e, 0, .e, 1, []⟩
theorem evalF_still {E : Nat → AVal} {P : Program} {CE : Nat → Option CV} {hook : CHook} {l : List (Nat × Ent)} (hE : CERel CE E) (hN : ∀ i, NoRef (E i)) (hl : ∀ x ∈ l, EntOk P x) (hlt : tabLt l = true) (hH : HookOk E P hook) (n : Nat) {f : FuncId} {vs : List CV} {c : CV}
    (h : evalF CE hook n l f vs = some (c, [])) : ∀ args, CRs vs args → Still E P f args c.toA := by
  obtain ⟨T, h1, h2⟩ := mkTab_eq l .e (fun T => cpure (ccall (cex CE T hook n) T hook) f vs ⟨.e, 0, .e, 1, []⟩) hlt
  unfold evalF at h
  rw [h1] at h
  refine eval_still hE hN ⟨fun f e he => ?_⟩ hH n h
  rcases h2 f e he with h3 | h3
  · exact hl _ h3
  · cases h3
def noHook : CHook := fun _ _ _ => none
theorem noHook_ok {E : Nat → AVal} {P : Program} : HookOk E P noHook := fun f vs H v h => by cases h
end Go.Am
