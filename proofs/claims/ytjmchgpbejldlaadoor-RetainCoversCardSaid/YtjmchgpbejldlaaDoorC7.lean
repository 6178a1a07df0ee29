/- Part C7 of the proof that the last part closes: contracts of functions and plain lemmas. No condition. -/
import Derived.Test.YtjmchgpbejldlaaDoorC6
import Derived.Test.YtjmchgpbejldlaaDoorC3
import Derived.Test.YtjmchgpbejldlaaDoorC4
set_option linter.unusedVariables false
set_option linter.unusedSimpArgs false
namespace Go.Am
structure Sys (M : Int) (D R : Int → Bn) : Prop where
  lo : ∀ t, 0 ≤ t → t < M → 0 ≤ (D t).a ∧ (D t).a ≤ t ∧ t < (D t).b ∧ (D t).b ≤ M
  blk : ∀ t, 0 ≤ t → t < M → (D t).l ≠ 0 → R t = D t
  raw : ∀ t, 0 ≤ t → t < M → (D t).l = 0 → R t = ⟨0, t, t + 1⟩
  same : ∀ t t', 0 ≤ t → t < M → (D t).a ≤ t' → t' < (D t).b → D t' = D t
def pend (rF rT : Int) : List Bn := if rF < rT then [⟨0, rF, rT⟩] else []
theorem getD_last (l : List Bn) (x : Bn) : (l ++ [x]).getD ((l ++ [x]).length - 1) ⟨0, 0, 0⟩ = x := by simp
theorem rpush_snoc (t : Int) (d z : Bn) (l : List Bn) : rpush t d (l ++ [z]) = if d.l = z.l ∧ d.a = z.a ∧ d.b = z.b then l ++ [z] else if d.l = 0 ∧ z.l = 0 then l ++ [⟨z.l, z.a, t + 1⟩] else l ++ [z] ++ [d] := by
  unfold rpush
  rw [if_neg (by simp)]
  simp only [getD_last, List.dropLast_concat]
theorem rpush_nil (t : Int) (d : Bn) : rpush t d [] = [d] := by simp [rpush]
theorem rdues_succ (R : Int → Bn) (a : Int) (k : Nat) : rdues R a (k + 1) = rpush (a + k) (R (a + k)) (rdues R a k) := rfl
theorem rnews_succ (O R : Int → Bn) (a : Int) (k : Nat) : rnews O R a (k + 1) = npush (O (a + k)) (R (a + k)) (rnews O R a k) := rfl
def DoneAt (t : Int) (done : List Bn) : Prop := done = [] ∨ ∃ l z, done = l ++ [z] ∧ z.l ≠ 0 ∧ z.b ≤ t
theorem rawrun {M : Int} {D R : Int → Bn} (H : Sys M D R) {a t rF rT : Int} {k : Nat} {done : List Bn} (ha : 0 ≤ a) (ht : t = a + k) (htM : t < M) (hd : (D t).l = 0) (hdone : DoneAt t done) (hk : rdues R a k = done ++ pend rF rT)
    (h1 : rF < rT → rT = t) (h2 : ¬ rF < rT → rF = t) : ∀ j : Nat, t + (j + 1) ≤ (D t).b → rdues R a (k + (j + 1)) = done ++ [⟨0, rF, t + (j + 1)⟩]
  | 0, hj => by
    have hR : R (a + k) = ⟨0, t, t + 1⟩ := by rw [← ht]; exact H.raw t (by omega) htM hd
    show rdues R a (k + 1) = _
    rw [rdues_succ, hk, hR, ← ht]
    by_cases h : rF < rT
    · rw [pend, if_pos h, rpush_snoc, if_neg (by simp; omega), if_pos ⟨rfl, rfl⟩]; simp
    · rw [pend, if_neg h, List.append_nil]
      rcases hdone with rfl | ⟨l, z, rfl, hz, hb⟩
      · rw [rpush_nil, h2 h]; simp
      · rw [rpush_snoc, if_neg (by simp; omega), if_neg (fun e => hz e.2), h2 h]; simp
  | j + 1, hj => by
    have ih := rawrun H ha ht htM hd hdone hk h1 h2 j (by omega)
    have hs : D (t + (j + 1)) = D t := H.same t _ (by omega) htM (by have := H.lo t (by omega) htM; omega) (by omega)
    have hb := (H.lo t (by omega) htM)
    have hR : R (a + ((k + (j + 1) : Nat) : Int)) = ⟨0, t + (j + 1), t + (j + 1) + 1⟩ := by
      have : a + ((k + (j + 1) : Nat) : Int) = t + (j + 1) := by omega
      rw [this]; exact H.raw _ (by omega) (by omega) (by rw [hs]; exact hd)
    show rdues R a (k + (j + 1) + 1) = _
    rw [rdues_succ, ih, hR, rpush_snoc, if_neg (by simp; omega), if_pos ⟨rfl, rfl⟩]
    congr 2
    refine Bn.ext rfl rfl ?_
    show a + ((k + (j + 1) : Nat) : Int) + 1 = t + (((j + 1 : Nat) : Int) + 1)
    omega
theorem blkrun {M : Int} {D R : Int → Bn} (H : Sys M D R) {a t rF rT : Int} {k : Nat} {done : List Bn} (ha : 0 ≤ a) (ht : t = a + k) (htM : t < M) (hd : (D t).l ≠ 0) (hdone : DoneAt t done) (hk : rdues R a k = done ++ pend rF rT) :
    ∀ j : Nat, t + (j + 1) ≤ (D t).b → rdues R a (k + (j + 1)) = done ++ pend rF rT ++ [D t]
  | 0, hj => by
    have hR : R (a + k) = D t := by rw [← ht]; exact H.blk t (by omega) htM hd
    show rdues R a (k + 1) = _
    rw [rdues_succ, hk, hR, ← ht]
    have hb := H.lo t (by omega) htM
    by_cases h : rF < rT
    · rw [pend, if_pos h, rpush_snoc, if_neg (fun e => hd e.1), if_neg (fun e => hd e.1)]
    · rw [pend, if_neg h, List.append_nil]
      rcases hdone with rfl | ⟨l, z, rfl, hz, hbz⟩
      · rw [rpush_nil]; simp
      · rw [rpush_snoc, if_neg (by omega), if_neg (fun e => hd e.1)]
  | j + 1, hj => by
    have ih := blkrun H ha ht htM hd hdone hk j (by omega)
    have hs : D (t + (j + 1)) = D t := H.same t _ (by omega) htM (by have := H.lo t (by omega) htM; omega) (by omega)
    have hb := H.lo t (by omega) htM
    have hR : R (a + ((k + (j + 1) : Nat) : Int)) = D t := by
      have : a + ((k + (j + 1) : Nat) : Int) = t + (j + 1) := by omega
      rw [this, H.blk _ (by omega) (by omega) (by rw [hs]; exact hd), hs]
    show rdues R a (k + (j + 1) + 1) = _
    rw [rdues_succ, ih, hR, rpush_snoc, if_pos ⟨rfl, rfl, rfl⟩]
theorem bsq_main {M : Int} {D R : Int → Bn} (H : Sys M D R) {a b : Int} (ha : 0 ≤ a) (hab : a ≤ b) (hbM : b ≤ M) : ∀ (K : Nat) (t rF rT : Int) (k : Nat) (done : List Bn), a ≤ t → (b - t).toNat < K →
    (t < b → (k : Int) = t - a ∧ DoneAt t done ∧ (rF < rT → rT = t) ∧ (¬ rF < rT → rF = t)) → (¬ t < b → (k : Int) = b - a) → rdues R a k = done ++ pend rF rT → done ++ bsq D b K t rF rT = rdues R a (b - a).toNat
  | 0, t, rF, rT, k, done, hat, hK, _, _, _ => by omega
  | K + 1, t, rF, rT, k, done, hat, hK, hlt, hge, hk => by
    unfold bsq
    by_cases ht : t < b
    · rw [if_pos ht]
      obtain ⟨hkt, hdone, h1, h2⟩ := hlt ht
      have hb := H.lo t (by omega) (by omega)
      by_cases hd : (D t).l = 0
      · rw [if_pos hd]
        by_cases hB : (D t).b ≤ b
        · have hr := rawrun H ha (by omega) (by omega) hd hdone hk h1 h2 ((D t).b - t - 1).toNat (by omega)
          have hrF : rF ≤ t := by rcases Int.lt_or_le rF rT with h | h; have := h1 h; omega; have := h2 (by omega); omega
          refine bsq_main H ha hab hbM K (D t).b rF (min (D t).b b) (k + (((D t).b - t - 1).toNat + 1)) done (by omega) (by omega) (fun _ => ⟨by omega, ?_, fun _ => by omega, fun h => by omega⟩) (fun _ => by omega) ?_
          · rcases hdone with h | ⟨l, z, h, hz, hzb⟩
            · exact .inl h
            · exact .inr ⟨l, z, h, hz, by omega⟩
          · rw [hr, pend, if_pos (by omega)]
            congr 3
            omega
        · have hr := rawrun H ha (by omega) (by omega) hd hdone hk h1 h2 (b - t - 1).toNat (by omega)
          have hrF : rF ≤ t := by rcases Int.lt_or_le rF rT with h | h; have := h1 h; omega; have := h2 (by omega); omega
          refine bsq_main H ha hab hbM K (D t).b rF (min (D t).b b) (k + ((b - t - 1).toNat + 1)) done (by omega) (by omega) (fun h => by omega) (fun _ => by omega) ?_
          rw [hr, pend, if_pos (by omega)]
          congr 3
          omega
      · rw [if_neg hd]
        have e : done ++ ((if rF < rT then [(⟨0, rF, rT⟩ : Bn)] else []) ++ D t :: bsq D b K (D t).b (D t).b (D t).b) = (done ++ pend rF rT ++ [D t]) ++ bsq D b K (D t).b (D t).b (D t).b := by simp [pend]
        rw [e]
        have e0 : pend (D t).b (D t).b = [] := by simp [pend]
        by_cases hB : (D t).b ≤ b
        · have hr := blkrun H ha (by omega) (by omega) hd hdone hk ((D t).b - t - 1).toNat (by omega)
          refine bsq_main H ha hab hbM K (D t).b (D t).b (D t).b (k + (((D t).b - t - 1).toNat + 1)) _ (by omega) (by omega) (fun _ => ⟨by omega, .inr ⟨_, _, rfl, hd, by omega⟩, fun h => by omega, fun _ => rfl⟩) (fun _ => by omega) ?_
          rw [hr, e0, List.append_nil]
        · have hr := blkrun H ha (by omega) (by omega) hd hdone hk (b - t - 1).toNat (by omega)
          refine bsq_main H ha hab hbM K (D t).b (D t).b (D t).b (k + ((b - t - 1).toNat + 1)) _ (by omega) (by omega) (fun h => by omega) (fun _ => by omega) ?_
          rw [hr, e0, List.append_nil]
    · rw [if_neg ht]
      have := hge ht
      have hkk : k = (b - a).toNat := by omega
      rw [← hkk, hk, pend]
theorem bsq_rdues {M : Int} {D R : Int → Bn} (H : Sys M D R) {a b : Int} (ha : 0 ≤ a) (hab : a ≤ b) (hbM : b ≤ M) : bsq D b ((b - a).toNat + 1) a a a = rdues R a (b - a).toNat := by
  have := bsq_main H ha hab hbM ((b - a).toNat + 1) a a a 0 [] (by omega) (by omega) (fun _ => ⟨by simp, .inl rfl, fun h => by omega, fun _ => rfl⟩) (fun h => by simp; omega) (by simp [rdues, pend])
  simpa using this
theorem npush_nil (o d : Bn) : npush o d [] = if d.l = 0 then [] else if o.l = d.l ∧ o.a = d.a ∧ o.b = d.b then [] else [d] := by
  simp [npush]
theorem npush_snoc (o d z : Bn) (l : List Bn) : npush o d (l ++ [z]) = if d.l = 0 then l ++ [z] else if d.l = z.l ∧ d.a = z.a ∧ d.b = z.b then l ++ [z] else if o.l = d.l ∧ o.a = d.a ∧ o.b = d.b then l ++ [z] else l ++ [z] ++ [d] := by
  unfold npush
  simp only [getD_last]
  congr 1
  simp
theorem newraw {M : Int} {D R O : Int → Bn} (H : Sys M D R) {a t : Int} {k : Nat} (ha : 0 ≤ a) (ht : t = a + k) (htM : t < M) (hd : (D t).l = 0) : ∀ j : Nat, t + j ≤ (D t).b → rnews O R a (k + j) = rnews O R a k
  | 0, _ => rfl
  | j + 1, hj => by
    have ih := newraw (O := O) H ha ht htM hd j (by omega)
    have hb := H.lo t (by omega) htM
    have hs : D (t + j) = D t := H.same t _ (by omega) htM (by omega) (by omega)
    have hR : R (a + ((k + j : Nat) : Int)) = ⟨0, t + j, t + j + 1⟩ := by
      have : a + ((k + j : Nat) : Int) = t + j := by omega
      rw [this]; exact H.raw _ (by omega) (by omega) (by rw [hs]; exact hd)
    show rnews O R a (k + j + 1) = _
    rw [rnews_succ, hR, npush, if_pos rfl, ih]
def EndAt (t : Int) (res : List Bn) : Prop := res = [] ∨ ∃ l z, res = l ++ [z] ∧ z.b ≤ t
theorem isNew_old {M : Int} {D R D' R' : Int → Bn} (H : Sys M D R) (H' : Sys M D' R') {t t' : Int} (h0 : 0 ≤ t) (htM : t < M) (hd : (D t).l ≠ 0) (h1 : (D t).a ≤ t') (h2 : t' < (D t).b) :
    isNew D' (D t) = !decide ((R' t').l = (D t).l ∧ (R' t').a = (D t).a ∧ (R' t').b = (D t).b) := by
  have hb := H.lo t h0 htM
  have key : D' (D t).a = D t ↔ R' t' = D t := by
    constructor
    · intro e
      have hs := H'.same (D t).a t' (by omega) (by omega) (by rw [e]; exact h1) (by rw [e]; exact h2)
      rw [H'.blk t' (by omega) (by omega) (by rw [hs, e]; exact hd), hs, e]
    · intro e
      have hl : (D' t').l ≠ 0 := by
        intro h
        rw [H'.raw t' (by omega) (by omega) h] at e
        rw [← e] at hd
        exact hd rfl
      have e' : D' t' = D t := by rw [← H'.blk t' (by omega) (by omega) hl, e]
      have hs := H'.same t' (D t).a (by omega) (by omega) (by rw [e']; omega) (by rw [e']; omega)
      rw [hs, e']
  unfold isNew
  rw [show decide ((D t).l = 0) = false by simpa using hd]
  simp only [Bool.not_false, Bool.true_and]
  congr 1
  have k1 : D' (D t).a = D t ↔ (D' (D t).a).l = (D t).l ∧ (D' (D t).a).a = (D t).a ∧ (D' (D t).a).b = (D t).b := ⟨fun e => by rw [e]; exact ⟨rfl, rfl, rfl⟩, fun e => Bn.ext e.1 e.2.1 e.2.2⟩
  have k2 : R' t' = D t ↔ (R' t').l = (D t).l ∧ (R' t').a = (D t).a ∧ (R' t').b = (D t).b := ⟨fun e => by rw [e]; exact ⟨rfl, rfl, rfl⟩, fun e => Bn.ext e.1 e.2.1 e.2.2⟩
  rw [← Bool.decide_and, ← Bool.decide_and]
  exact decide_eq_decide.2 (k1.symm.trans (key.trans k2))
theorem newblk {M : Int} {D R D' R' : Int → Bn} (H : Sys M D R) (H' : Sys M D' R') {a t : Int} {k : Nat} (ha : 0 ≤ a) (ht : t = a + k) (htM : t < M) (hd : (D t).l ≠ 0) (hend : EndAt t (rnews R' R a k)) :
    ∀ j : Nat, t + (j + 1) ≤ (D t).b → rnews R' R a (k + (j + 1)) = rnews R' R a k ++ (if isNew D' (D t) then [D t] else [])
  | 0, hj => by
    have hb := H.lo t (by omega) htM
    have hR : R (a + k) = D t := by rw [← ht]; exact H.blk t (by omega) htM hd
    have hi := isNew_old H H' (t := t) (t' := t) (by omega) htM hd (by omega) (by omega)
    show rnews R' R a (k + 1) = _
    rw [rnews_succ, hR, ← ht, hi]
    rcases hend with e | ⟨l, z, e, hz⟩
    · rw [e, npush_nil, if_neg hd]
      split <;> rename_i h <;> simp [h]
    · rw [e, npush_snoc, if_neg hd, if_neg (by omega)]
      split <;> rename_i h <;> simp [h]
  | j + 1, hj => by
    have ih := newblk H H' ha ht htM hd hend j (by omega)
    have hb := H.lo t (by omega) htM
    have hs : D (t + (j + 1)) = D t := H.same t _ (by omega) htM (by omega) (by omega)
    have et : a + ((k + (j + 1) : Nat) : Int) = t + (j + 1) := by omega
    have hR : R (a + ((k + (j + 1) : Nat) : Int)) = D t := by
      rw [et, H.blk _ (by omega) (by omega) (by rw [hs]; exact hd), hs]
    have hi := isNew_old H H' (t := t) (t' := t + (j + 1)) (by omega) htM hd (by omega) (by omega)
    show rnews R' R a (k + (j + 1) + 1) = _
    rw [rnews_succ, ih, hR, et]
    cases hn : isNew D' (D t)
    · rw [hn] at hi
      have hi' : (R' (t + (j + 1))).l = (D t).l ∧ (R' (t + (j + 1))).a = (D t).a ∧ (R' (t + (j + 1))).b = (D t).b := by simpa using hi.symm
      simp only [Bool.false_eq_true, if_false, List.append_nil]
      rcases hend with e | ⟨l, z, e, hz⟩
      · rw [e, npush_nil, if_neg hd, if_pos hi']
      · rw [e, npush_snoc, if_neg hd, if_neg (by omega), if_pos hi']
    · simp only [if_true]
      rw [npush_snoc, if_neg hd, if_pos ⟨rfl, rfl, rfl⟩]
theorem nwl_pend (o : Int → Bn) (rF rT : Int) : nwl o (if rF < rT then [(⟨0, rF, rT⟩ : Bn)] else []) = [] := by
  split <;> simp [nwl, isNew]
theorem nwl_main {M : Int} {D R D' R' : Int → Bn} (H : Sys M D R) (H' : Sys M D' R') {a b : Int} (ha : 0 ≤ a) (hab : a ≤ b) (hbM : b ≤ M) : ∀ (K : Nat) (t rF rT : Int) (k : Nat), a ≤ t → (b - t).toNat < K →
    (t < b → (k : Int) = t - a ∧ EndAt t (rnews R' R a k)) → (¬ t < b → (k : Int) = b - a) → rnews R' R a k ++ nwl D' (bsq D b K t rF rT) = rnews R' R a (b - a).toNat
  | 0, t, rF, rT, k, hat, hK, _, _ => by omega
  | K + 1, t, rF, rT, k, hat, hK, hlt, hge => by
    unfold bsq
    by_cases ht : t < b
    · rw [if_pos ht]
      obtain ⟨hkt, hend⟩ := hlt ht
      have hb := H.lo t (by omega) (by omega)
      by_cases hd : (D t).l = 0
      · rw [if_pos hd]
        by_cases hB : (D t).b ≤ b
        · have hr := newraw (O := R') H ha (k := k) (by omega) (by omega) hd ((D t).b - t).toNat (by omega)
          rw [← hr]
          refine nwl_main H H' ha hab hbM K (D t).b rF _ (k + ((D t).b - t).toNat) (by omega) (by omega) (fun _ => ⟨by omega, ?_⟩) (fun _ => by omega)
          rw [hr]
          rcases hend with e | ⟨l, z, e, hz⟩
          · exact .inl e
          · exact .inr ⟨l, z, e, by omega⟩
        · have hr := newraw (O := R') H ha (k := k) (by omega) (by omega) hd (b - t).toNat (by omega)
          rw [← hr]
          exact nwl_main H H' ha hab hbM K (D t).b rF _ (k + (b - t).toNat) (by omega) (by omega) (fun h => by omega) (fun _ => by omega)
      · rw [if_neg hd]
        have e : nwl D' ((if rF < rT then [(⟨0, rF, rT⟩ : Bn)] else []) ++ D t :: bsq D b K (D t).b (D t).b (D t).b) = (if isNew D' (D t) then [D t] else []) ++ nwl D' (bsq D b K (D t).b (D t).b (D t).b) := by
          have := nwl_pend D' rF rT
          unfold nwl at this ⊢
          rw [List.filter_append, this, List.nil_append, List.filter_cons]
          split <;> rfl
        rw [e, ← List.append_assoc]
        by_cases hB : (D t).b ≤ b
        · have hr := newblk H H' ha (by omega) (by omega) hd hend ((D t).b - t - 1).toNat (by omega)
          rw [← hr]
          refine nwl_main H H' ha hab hbM K (D t).b _ _ (k + (((D t).b - t - 1).toNat + 1)) (by omega) (by omega) (fun _ => ⟨by omega, ?_⟩) (fun _ => by omega)
          rw [hr]
          split
          · exact .inr ⟨_, _, rfl, by omega⟩
          · rw [List.append_nil]
            rcases hend with e | ⟨l, z, e, hz⟩
            · exact .inl e
            · exact .inr ⟨l, z, e, by omega⟩
        · have hr := newblk H H' ha (by omega) (by omega) hd hend (b - t - 1).toNat (by omega)
          rw [← hr]
          exact nwl_main H H' ha hab hbM K (D t).b _ _ (k + ((b - t - 1).toNat + 1)) (by omega) (by omega) (fun h => by omega) (fun _ => by omega)
    · rw [if_neg ht]
      have := hge ht
      have hkk : k = (b - a).toNat := by omega
      rw [nwl_pend, List.append_nil, hkk]
theorem nwl_rnews {M : Int} {D R D' R' : Int → Bn} (H : Sys M D R) (H' : Sys M D' R') {a b : Int} (ha : 0 ≤ a) (hab : a ≤ b) (hbM : b ≤ M) : nwl D' (bsq D b ((b - a).toNat + 1) a a a) = rnews R' R a (b - a).toNat := by
  have := nwl_main H H' ha hab hbM ((b - a).toNat + 1) a a a 0 (by omega) (by omega) (fun _ => ⟨by simp, .inl rfl⟩) (fun h => by simp; omega)
  simpa [rnews] using this
end Go.Am
set_option linter.unusedVariables false
set_option linter.unusedSimpArgs false
namespace Go.Am
theorem sameDay (l : Int) (hl : l = 1 ∨ l = 2) {t t' : Int} (ht : 0 ≤ t) (ht' : 0 ≤ t') (ha : bF l t ≤ t') (hb : t' < bT l t) : t'.tdiv 96 = t.tdiv 96 ∧ (l = 1 → t' - t'.tmod 4 = t - t.tmod 4) ∧ t' - t'.tmod 96 = t - t.tmod 96 := by
  rw [Int.tdiv_eq_ediv_of_nonneg ht, Int.tdiv_eq_ediv_of_nonneg ht', Int.tmod_eq_emod_of_nonneg ht, Int.tmod_eq_emod_of_nonneg ht', Int.tmod_eq_emod_of_nonneg ht, Int.tmod_eq_emod_of_nonneg ht']
  unfold bF arF at ha
  unfold bT arT at hb
  rw [Int.tmod_eq_emod_of_nonneg ht, Int.tmod_eq_emod_of_nonneg ht, Int.tmod_eq_emod_of_nonneg ht] at ha hb
  rcases hl with rfl | rfl
  · simp only [show ¬ ((1 : Int) = 0) by omega, if_false, if_true] at ha hb
    refine ⟨by omega, fun _ => by omega, by omega⟩
  · simp only [show ¬ ((2 : Int) = 0) by omega, show ¬ ((2 : Int) = 1) by omega, if_false, if_true] at ha hb
    refine ⟨by omega, fun h => by omega, by omega⟩
theorem bF_nn {l t : Int} (ht : 0 ≤ t) (ht2 : t < 1402560) : 0 ≤ bF l t := (bF_bd l t ht ht2).1
theorem nest {l l' t t' : Int} (h1 : 1 ≤ l) (h2 : l ≤ l') (h3 : l' ≤ 4) (ht : 0 ≤ t) (ht2 : t < 1402560) (ha : bF l t ≤ t') (hb : t' < bT l t) : bF l' t' = bF l' t ∧ bT l' t' = bT l' t := by
  have ht' : 0 ≤ t' := by have := bF_nn (l := l) ht ht2; omega
  have dd := tday t ht ht2
  have D := dayAt _ dd.1 dd.2
  by_cases hl : l = 1 ∨ l = 2
  · obtain ⟨e1, e2, e3⟩ := sameDay l hl ht ht' ha hb
    have cases : l' = 1 ∨ l' = 2 ∨ l' = 3 ∨ l' = 4 := by omega
    rcases cases with rfl | rfl | rfl | rfl
    · have e2 := e2 (by omega)
      unfold bF bT arF arT
      simp only [show ¬ ((1 : Int) = 0) by omega, if_false, if_true]
      omega
    · unfold bF bT arF arT
      simp only [show ¬ ((2 : Int) = 0) by omega, show ¬ ((2 : Int) = 1) by omega, if_false, if_true]
      omega
    · rw [bF_day _ _ (.inl rfl), bF_day _ _ (.inl rfl), bT_day _ _ (.inl rfl), bT_day _ _ (.inl rfl), e1]; exact ⟨rfl, rfl⟩
    · rw [bF_day _ _ (.inr rfl), bF_day _ _ (.inr rfl), bT_day _ _ (.inr rfl), bT_day _ _ (.inr rfl), e1]; exact ⟨rfl, rfl⟩
  · have hl : l = 3 ∨ l = 4 := by omega
    rw [bF_day _ _ hl] at ha
    rw [bT_day _ _ hl] at hb
    have q := Int.tdiv_eq_ediv_of_nonneg ht' (b := 96)
    obtain ⟨j0, j1, m', D', hm⟩ := D.inside hl dd.2 (j := t'.tdiv 96) (by omega) (by omega)
    obtain ⟨e1, e2⟩ := D'.eq j0 j1
    rcases hl with rfl | rfl
    · have hm := hm rfl
      subst hm
      have hl' : l' = 3 ∨ l' = 4 := by omega
      rw [bF_day _ _ hl', bF_day _ _ hl', bT_day _ _ hl', bT_day _ _ hl', e1, e2]; exact ⟨rfl, rfl⟩
    · obtain rfl : l' = 4 := by omega
      rw [bF_day _ _ (.inr rfl), bF_day _ _ (.inr rfl), bT_day _ _ (.inr rfl), bT_day _ _ (.inr rfl)]
      simp only [fd, ed, if_true, e1]; exact ⟨trivial, trivial⟩
theorem anyI_list (l : List Fz) (z : Fz) (P : Fz → Bool) : anyI (fun i => P (l.getD i z)) l.length = l.any P := by
  unfold anyI
  rw [Bool.eq_iff_iff, List.any_eq_true, List.any_eq_true]
  constructor
  · rintro ⟨i, hi, hp⟩
    rw [List.mem_range] at hi
    refine ⟨l[i], List.getElem_mem hi, ?_⟩
    simpa [hi] using hp
  · rintro ⟨x, hx, hp⟩
    obtain ⟨i, hi, rfl⟩ := List.getElem_of_mem hx
    exact ⟨i, List.mem_range.2 hi, by simpa [hi] using hp⟩
theorem fl_any (q : Nat → Fz) (g a b : Int) : ∀ n, (fl q g n).any (fun x => x.hits a b) = anyI (fun i => rhit g a b (q i)) n
  | 0 => rfl
  | n + 1 => by
    have ih := fl_any q g a b n
    unfold anyI at ih ⊢
    rw [List.range_succ, List.any_append, ← ih]
    simp only [fl]
    split
    · rename_i h
      rw [List.any_append]
      simp [rhit, Fz.hits, h]
    · rename_i h
      simp [rhit, h]
theorem may_rmay (w : Lw) (q : Nat → Fz) (n : Nat) (g today l a b : Int) : may w (qf q n g) (nf q n g) today l a b = rmay w q n g today l a b := by
  unfold may rmay qf nf
  rw [anyI_list (fl q g n) Fz.zero (fun x => x.hits a b), fl_any, Bool.and_comm]
theorem begin_fst (w : Lw) (q : Nat → Fz) (n : Nat) (g today : Int) : beginE w q n g today = fst25 w q n g today := rfl
section
variable (w : Lw) (q : Nat → Fz) (n : Nat) (today : Int)
theorem dfind_iv (t : Int) : ∀ L : Nat, L < 4 → ∃ l : Int, 1 ≤ l ∧ l ≤ (L : Int) + 1 ∧ (dfind w q n today t (L + 1)).a = bF l t ∧ (dfind w q n today t (L + 1)).b = bT l t
  | 0, _ => by
    unfold dfind
    split
    · exact ⟨1, by omega, by omega, by simp, by simp⟩
    · rw [if_pos rfl]; exact ⟨1, by omega, by omega, rfl, rfl⟩
  | L + 1, h => by
    unfold dfind
    split
    · exact ⟨(L + 1 : Nat) + 1, by omega, by omega, rfl, rfl⟩
    · rw [if_neg (by omega)]
      obtain ⟨l, h1, h2, h3, h4⟩ := dfind_iv t L (by omega)
      exact ⟨l, h1, by omega, h3, h4⟩
theorem dfind_same {t t' : Int} (ht : 0 ≤ t) (ht2 : t < 1402560) : ∀ L : Nat, L < 4 → (dfind w q n today t (L + 1)).a ≤ t' → t' < (dfind w q n today t (L + 1)).b → dfind w q n today t' (L + 1) = dfind w q n today t (L + 1)
  | 0, _, ha, hb => by
    have hh : bF 1 t ≤ t' ∧ t' < bT 1 t := by
      unfold dfind at ha hb
      split at ha
      · rename_i hm; rw [if_pos hm] at hb; exact ⟨by simpa using ha, by simpa using hb⟩
      · rename_i hm; rw [if_neg hm, if_pos rfl] at hb; rw [if_pos rfl] at ha; exact ⟨ha, hb⟩
    obtain ⟨e1, e2⟩ := nest (l := 1) (l' := 1) (by omega) (by omega) (by omega) ht ht2 hh.1 hh.2
    unfold dfind
    simp [e1, e2]
  | L + 1, hL, ha, hb => by
    by_cases hm : may w q n today ((L + 1 : Nat) + 1) (bF ((L + 1 : Nat) + 1) t) (bT ((L + 1 : Nat) + 1) t) = true
    · have e : dfind w q n today t (L + 1 + 1) = ⟨(L + 1 : Nat) + 1, bF ((L + 1 : Nat) + 1) t, bT ((L + 1 : Nat) + 1) t⟩ := by rw [dfind, if_pos hm]
      rw [e] at ha hb ⊢
      obtain ⟨e1, e2⟩ := nest (l := (L + 1 : Nat) + 1) (l' := (L + 1 : Nat) + 1) (by omega) (by omega) (by omega) ht ht2 ha hb
      rw [dfind, e1, e2, if_pos hm]
    · have e : dfind w q n today t (L + 1 + 1) = dfind w q n today t (L + 1) := by rw [dfind, if_neg hm, if_neg (by omega)]
      rw [e] at ha hb ⊢
      have ih := dfind_same ht ht2 L (by omega) ha hb
      obtain ⟨l, h1, h2, h3, h4⟩ := dfind_iv w q n today t L (by omega)
      obtain ⟨e1, e2⟩ := nest (l := l) (l' := (L + 1 : Nat) + 1) h1 (by omega) (by omega) ht ht2 (by rw [← h3]; exact ha) (by rw [← h4]; exact hb)
      rw [dfind, e1, e2, if_neg hm, if_neg (by omega), ih]
end
theorem dfind_rdl (w : Lw) (q : Nat → Fz) (n : Nat) (g today t : Int) : ∀ L : Nat, ((dfind w (qf q n g) (nf q n g) today t (L + 1)).l ≠ 0 → rdl w q n g today t (L + 1) = dfind w (qf q n g) (nf q n g) today t (L + 1)) ∧
    ((dfind w (qf q n g) (nf q n g) today t (L + 1)).l = 0 → rdl w q n g today t (L + 1) = ⟨0, t, t + 1⟩)
  | 0 => by
    unfold dfind
    rw [may_rmay]
    simp only [rdl]
    split
    · exact ⟨fun _ => rfl, fun h => by simp at h⟩
    · simp
  | L + 1 => by
    have ih := dfind_rdl w q n g today t L
    rw [dfind, may_rmay, rdl]
    split
    · refine ⟨fun _ => rfl, fun h => ?_⟩
      have : ((L + 1 : Nat) : Int) + 1 = 0 := h
      omega
    · rw [if_neg (by omega)]; exact ih
theorem sys_due (w : Lw) (q : Nat → Fz) (n : Nat) (g today : Int) : Sys 1402560 (due w (qf q n g) (nf q n g) today) (fun t => rdl w q n g today t 4) := by
  refine ⟨fun t h0 h1 => ?_, fun t h0 h1 h => ?_, fun t h0 h1 h => ?_, fun t t' h0 h1 ha hb => ?_⟩
  · obtain ⟨l, a1, a2, a3, a4⟩ := dfind_iv w (qf q n g) (nf q n g) today t 3 (by omega)
    have a3 : (dfind w (qf q n g) (nf q n g) today t 4).a = bF l t := a3
    have a4 : (dfind w (qf q n g) (nf q n g) today t 4).b = bT l t := a4
    have b1 := bF_bd l t h0 h1
    have b2 := bT_bd l t (by omega) (by omega) h0 h1
    have b3 := bT_gt l t (by omega) (by omega) h0 h1
    unfold due
    omega
  · exact (dfind_rdl w q n g today t 3).1 h
  · exact (dfind_rdl w q n g today t 3).2 h
  · exact dfind_same w (qf q n g) (nf q n g) today h0 h1 3 (by omega) ha hb
theorem law_lvl (w : Lw) (q : Nat → Fz) (n : Nat) (g tick today : Int) : lvl w q n g tick today = rlvl w q n g tick today := by
  unfold lvl rlvl
  rw [begin_fst]
  split
  · rfl
  · split
    · rfl
    · rename_i h
      have H := sys_due w q n g today
      have h0 : 0 ≤ tick := by omega
      have h1 : tick < 1402560 := by omega
      by_cases hd : (due w (qf q n g) (nf q n g) today tick).l = 0
      · have := H.raw tick h0 h1 hd
        rw [this, hd]
      · have := H.blk tick h0 h1 hd
        rw [this]
theorem ival_spec {a b : Int} (h : ival a b = true) : 0 ≤ a ∧ a ≤ b ∧ b ≤ 1402560 := by
  simp [ival] at h; omega
theorem law_due (w : Lw) (q : Nat → Fz) (n : Nat) (g a b today : Int) : dueL w q n g a b today = rdueL w q n g a b today := by
  unfold dueL rdueL
  rw [begin_fst]
  split
  · rfl
  · split
    · rfl
    · rename_i h
      obtain ⟨h0, h1, h2⟩ := ival_spec (by simpa using h)
      rw [bsq_rdues (sys_due w q n g today) h0 h1 h2]
theorem dueL_err {w : Lw} {q : Nat → Fz} {n : Nat} {g a b today : Int} (h : (rdueL w q n g a b today).2 ≠ 0) : (rdueL w q n g a b today).1 = [] := by
  unfold rdueL at h ⊢
  split
  · rfl
  · rename_i h1
    rw [if_neg h1] at h
    split
    · rfl
    · rename_i h2
      rw [if_neg h2] at h
      simp only at h ⊢
      split
      · rfl
      · rename_i h3; rw [if_neg h3] at h; exact absurd rfl h
theorem fst_lim {w : Lw} {q : Nat → Fz} {n : Nat} {g before today : Int} (h : fst25 w q n g before = 2) : fst25 w q n g today = 2 := by
  rcases fst25_range w q n g before with e | ⟨_, e⟩
  · have hc : chk w q n = 2 := by rw [← e]; exact h
    unfold fst25; rw [if_pos (by rw [hc]; decide), hc]
  · rw [e] at h; cases h
theorem law_new (w : Lw) (q : Nat → Fz) (n : Nat) (g a b before today : Int) : newL w q n g a b before today = rnewL w q n g a b before today := by
  unfold rnewL
  by_cases hb : fst25 w q n g before = 0
  · by_cases hi : ival a b = true
    · have hr : (rdueL w q n g a b before).2 = 0 ∨ (rdueL w q n g a b before).2 = 2 := by
        unfold rdueL
        rw [if_neg (by rw [hb]; decide), if_neg (by rw [hi]; decide)]
        simp only
        split
        · exact .inr rfl
        · exact .inl rfl
      rw [if_neg (by rcases hr with e | e <;> rw [e] <;> decide)]
      unfold newL
      rw [begin_fst, begin_fst, if_neg (by rw [hb]; decide)]
      split
      · rfl
      · rw [if_neg (by rw [hi]; decide)]
        obtain ⟨h0, h1, h2⟩ := ival_spec hi
        rw [nwl_rnews (sys_due w q n g today) (sys_due w q n g before) h0 h1 h2]
    · have hi : ival a b = false := by simpa using hi
      have hr : rdueL w q n g a b before = ([], 3) := by
        unfold rdueL
        rw [if_neg (by rw [hb]; decide), if_pos hi]
      rw [hr, if_pos (by decide)]
      unfold newL
      rw [begin_fst, begin_fst, if_neg (by rw [hb]; decide)]
      split
      · rename_i h
        rcases fst25_range w q n g today with e | ⟨_, e⟩
        · exfalso
          rcases fst25_range w q n g before with e' | ⟨e', e''⟩
          · exact h (by rw [e, ← e', hb])
          · rw [e''] at hb; cases hb
        · rw [e]
      · first | rfl | rw [if_pos hi]
  · have hr : rdueL w q n g a b before = ([], fst25 w q n g before) := by
      unfold rdueL; rw [if_pos hb]
    rw [hr]
    unfold newL
    rw [begin_fst, begin_fst, if_pos hb]
    by_cases h2 : fst25 w q n g before = 2
    · rw [if_neg (by simp [h2]), fst_lim (today := today) h2, if_pos (by decide), h2]
    · rw [if_pos ⟨hb, h2⟩]
end Go.Am
set_option linter.unusedVariables false
set_option linter.unusedSimpArgs false
namespace Go.Am
def Chain (D : Int → Bn) (a b : Int) : Int → Bool → List Bn → Prop
  | s, _, [] => b ≤ s
  | s, r, x :: L => s < b ∧ (a < s → x.a = s) ∧ x.a ≤ s ∧ s < x.b ∧ (x.l ≠ 0 → D s = x) ∧ (x.l = 0 → r = false ∧ x.a = s ∧ x.b ≤ b ∧ ∀ t, s ≤ t → t < x.b → (D t).l = 0) ∧ Chain D a b x.b (decide (x.l = 0)) L
theorem next_at {M : Int} {D R : Int → Bn} (H : Sys M D R) {t : Int} (h0 : 0 ≤ t) (h1 : t < M) (h2 : (D t).b < M) : (D (D t).b).a = (D t).b := by
  have b1 := H.lo t h0 h1
  have b2 := H.lo (D t).b (by omega) h2
  rcases Int.lt_or_le (D (D t).b).a (D t).b with h | h
  · have e1 := H.same t ((D t).b - 1) h0 h1 (by omega) (by omega)
    have e2 := H.same (D t).b ((D t).b - 1) (by omega) h2 (by omega) (by omega)
    rw [e1] at e2
    have := congrArg Bn.b e2
    omega
  · omega
theorem bsq_chain {M : Int} {D R : Int → Bn} (H : Sys M D R) {a b : Int} (ha : 0 ≤ a) (hbM : b ≤ M) : ∀ (K : Nat) (t rF rT : Int), a ≤ t → (b - t).toNat < K → (a < t → t < b → (D t).a = t) →
    ((¬ rF < rT → t < b → rF = t) → (¬ rF < rT → Chain D a b t false (bsq D b K t rF rT))) ∧
    (rF < rT → a ≤ rF → rT = min t b → (∀ u, rF ≤ u → u < rT → (D u).l = 0) → Chain D a b rF false (bsq D b K t rF rT))
  | 0, t, rF, rT, _, hK, _ => by omega
  | K + 1, t, rF, rT, hat, hK, hst => by
    by_cases ht : t < b
    · have bd := H.lo t (by omega) (by omega)
      have hnext : a < (D t).b → (D t).b < b → (D (D t).b).a = (D t).b := fun _ h => next_at H (by omega) (by omega) (by omega)
      have blk : ∀ r, (D t).l ≠ 0 → Chain D a b t r (D t :: bsq D b K (D t).b (D t).b (D t).b) := by
        intro r hd
        refine ⟨ht, fun h => hst h ht, bd.2.1, bd.2.2.1, fun _ => rfl, fun h => absurd h hd, ?_⟩
        rw [show decide ((D t).l = 0) = false by simpa using hd]
        exact (bsq_chain H ha hbM K (D t).b (D t).b (D t).b (by omega) (by omega) hnext).1 (fun _ _ => rfl) (by omega)
      by_cases hd : (D t).l = 0
      · have rawt : ∀ u, t ≤ u → u < (D t).b → (D u).l = 0 := fun u h1 h2 => by rw [H.same t u (by omega) (by omega) (by omega) h2]; exact hd
        constructor
        · intro h1 h2
          have hrF := h1 h2 ht
          rw [bsq, if_pos ht, if_pos hd, hrF]
          exact (bsq_chain H ha hbM K (D t).b t (min (D t).b b) (by omega) (by omega) hnext).2 (by omega) hat rfl (fun u a1 a2 => rawt u a1 (by omega))
        · intro h1 h2 h3 h4
          rw [bsq, if_pos ht, if_pos hd]
          exact (bsq_chain H ha hbM K (D t).b rF (min (D t).b b) (by omega) (by omega) hnext).2 (by omega) h2 rfl (fun u a1 a2 => by
            by_cases hu : u < t
            · exact h4 u a1 (by omega)
            · exact rawt u (by omega) (by omega))
      · constructor
        · intro h1 h2
          rw [bsq, if_pos ht, if_neg hd, if_neg h2, List.nil_append]
          exact blk false hd
        · intro h1 h2 h3 h4
          have e : rT = t := by omega
          subst e
          rw [bsq, if_pos ht, if_neg hd, if_pos h1]
          refine ⟨by omega, fun _ => rfl, Int.le_refl _, h1, fun h => absurd rfl h, fun _ => ⟨rfl, rfl, by simp only; omega, h4⟩, ?_⟩
          exact blk _ hd
    · constructor
      · intro h1 h2
        rw [bsq, if_neg ht, if_neg h2]
        show b ≤ t; omega
      · intro h1 h2 h3 h4
        rw [bsq, if_neg ht, if_pos h1]
        refine ⟨by omega, fun _ => rfl, Int.le_refl _, h1, fun h => absurd rfl h, fun _ => ⟨rfl, rfl, by simp only; omega, h4⟩, ?_⟩
        show b ≤ rT; omega
theorem chain_all {M : Int} {D R : Int → Bn} (H : Sys M D R) {a b : Int} (ha : 0 ≤ a) (hbM : b ≤ M) : Chain D a b a false (bsq D b ((b - a).toNat + 1) a a a) :=
  (bsq_chain H ha hbM ((b - a).toNat + 1) a a a (Int.le_refl _) (by omega) (fun h => by omega)).1 (fun _ _ => rfl) (by omega)
structure BinAt (D : Int → Bn) (a b : Int) (x : Bn) (s : Int) : Prop where
  lo : a ≤ s
  hi : s < b
  xa : x.a ≤ s
  xb : s < x.b
  blk : x.l ≠ 0 → D s = x
  raw : x.l = 0 → x.a = s ∧ x.b ≤ b ∧ ∀ t, s ≤ t → t < x.b → (D t).l = 0
theorem chain_get {D : Int → Bn} {a b : Int} : ∀ {L : List Bn} {s : Int} {r : Bool}, a ≤ s → Chain D a b s r L → ∀ k x, L[k]? = some x → ∃ u, BinAt D a b x u ∧ (k = 0 → u = s ∧ (x.l = 0 → r = false) ∧ (a < s → x.a = s)) ∧ (∀ j, k = j + 1 → ∃ y, L[j]? = some y ∧ y.b = u ∧ x.a = u ∧ ¬ (x.l = 0 ∧ y.l = 0))
  | [], s, r, _, _, k, x, h => by simp at h
  | z :: L, s, r, hs, hc, k, x, h => by
    obtain ⟨c1, c2, c3, c4, c5, c6, c7⟩ := hc
    cases k with
    | zero =>
      simp at h; subst h
      exact ⟨s, ⟨hs, c1, c3, c4, c5, fun h => (c6 h).2⟩, fun _ => ⟨rfl, fun h => (c6 h).1, c2⟩, fun j hj => by omega⟩
    | succ k =>
      have h : L[k]? = some x := by simpa using h
      obtain ⟨u, hu, h0, h1⟩ := chain_get (by omega) c7 k x h
      refine ⟨u, hu, fun e => by omega, fun j hj => ?_⟩
      obtain rfl : k = j := by omega
      cases k with
      | zero =>
        obtain ⟨e1, e2, e3⟩ := h0 rfl
        refine ⟨z, by simp, e1.symm, by rw [e1]; exact e3 (by omega), fun hh => ?_⟩
        have := e2 hh.1
        simp [hh.2] at this
      | succ k =>
        obtain ⟨y, h2, h3⟩ := h1 k rfl
        exact ⟨y, by simpa using h2, h3⟩
theorem chain_last {D : Int → Bn} {a b : Int} : ∀ {L : List Bn} {s : Int} {r : Bool}, Chain D a b s r L → ∀ x, L[L.length - 1]? = some x → b ≤ x.b
  | [], s, r, _, x, h => by simp at h
  | [z], s, r, hc, x, h => by simp at h; subst h; exact hc.2.2.2.2.2.2
  | z :: y :: L, s, r, hc, x, h => by
    refine chain_last (L := y :: L) hc.2.2.2.2.2.2 x ?_
    simpa using h
theorem chain_nil {D : Int → Bn} {a b : Int} (hab : a ≤ b) {L : List Bn} {r : Bool} (hc : Chain D a b a r L) : L.length = 0 ↔ a = b := by
  cases L with
  | nil => have : b ≤ a := hc; simp; omega
  | cons x L => have := hc.1; simp; omega
theorem chain_tick {D : Int → Bn} {a b : Int} : ∀ {L : List Bn} {s : Int} {r : Bool} (t : Int), Chain D a b s r L → s ≤ t → t < b → ∃ (k : Nat) (x : Bn), L[k]? = some x ∧ x.a ≤ t ∧ t < x.b
  | [], s, r, t, hc, h1, h2 => by have : b ≤ s := hc; omega
  | x :: L, s, r, t, hc, h1, h2 => by
    obtain ⟨c1, c2, c3, c4, c5, c6, c7⟩ := hc
    by_cases h : t < x.b
    · exact ⟨0, x, by simp, by omega, h⟩
    · obtain ⟨k, y, h3, h4⟩ := chain_tick t c7 (by omega) h2
      exact ⟨k + 1, y, by simpa using h3, h4⟩
theorem binAt_tick {M : Int} {D R : Int → Bn} (H : Sys M D R) {a b : Int} (ha : 0 ≤ a) (hbM : b ≤ M) {x : Bn} {s t : Int} (B : BinAt D a b x s) (h1 : x.a ≤ t) (h2 : t < x.b) : (D t).l = x.l ∧ (x.l ≠ 0 → D t = x) := by
  have c1 := B.lo
  have c2 := B.hi
  by_cases hx : x.l = 0
  · obtain ⟨r1, r2, r3⟩ := B.raw hx
    exact ⟨by rw [hx]; exact r3 t (by omega) h2, fun h => absurd hx h⟩
  · have e := B.blk hx
    have := H.same s t (by omega) (by omega) (by rw [e]; exact h1) (by rw [e]; exact h2)
    rw [this, e]
    exact ⟨rfl, fun _ => rfl⟩
theorem chain_mono {D : Int → Bn} {a b : Int} {L : List Bn} {r : Bool} (hc : Chain D a b a r L) : ∀ {k i : Nat} {y z : Bn}, i < k → L[i]? = some z → L[k]? = some y → z.b ≤ y.a
  | 0, i, y, z, h, _, _ => by omega
  | k + 1, i, y, z, h, hz, hy => by
    obtain ⟨u, hu, _, h1⟩ := chain_get (Int.le_refl _) hc (k + 1) y hy
    obtain ⟨y0, h2, h3, h4, _⟩ := h1 k rfl
    by_cases e : i = k
    · subst e
      rw [hz] at h2
      obtain rfl := Option.some.inj h2
      omega
    · have := chain_mono hc (by omega) hz h2
      obtain ⟨v, hv, _, _⟩ := chain_get (Int.le_refl _) hc k y0 h2
      have := hv.xa
      have := hv.xb
      omega
structure Later (M : Int) (D D' : Int → Bn) : Prop where
  inc : ∀ t, 0 ≤ t → t < M → (D t).l ≠ 0 → (D' t).l ≠ 0 ∧ (D t).l ≤ (D' t).l ∧ (D' t).a ≤ (D t).a ∧ (D t).b ≤ (D' t).b
theorem inside_at {M : Int} {D R D' R' : Int → Bn} (H : Sys M D R) (H' : Sys M D' R') (hL : Later M D D') {a b : Int} (ha : 0 ≤ a) (hbM : b ≤ M) {L : List Bn} (hc : Chain D' a b a false L) {x : Bn} {s : Int} (B : BinAt D a b x s) :
    ∃ (j : Nat) (y : Bn), L[j]? = some y ∧ x.a < y.b ∧ (x.l ≠ 0 → (∀ (i : Nat) (z : Bn), i < j → L[i]? = some z → z.b ≤ x.a) ∧ y.a ≤ x.a ∧ x.b ≤ y.b ∧ x.l ≤ y.l) := by
  obtain ⟨j, y, hj, y1, y2⟩ := chain_tick s hc B.lo B.hi
  obtain ⟨u, Bu, _, hprev⟩ := chain_get (Int.le_refl _) hc j y hj
  have c1 := B.lo
  have c2 := B.hi
  have c3 := B.xa
  refine ⟨j, y, hj, by omega, fun hx => ?_⟩
  have e := B.blk hx
  obtain ⟨l0, l1, l2, l3⟩ := hL.inc s (by omega) (by omega) (by rw [e]; exact hx)
  rw [e] at l1 l2 l3
  have ht := binAt_tick H' ha hbM Bu y1 y2
  have hy : y.l ≠ 0 := by rw [← ht.1]; exact l0
  have e' := ht.2 hy
  rw [e'] at l1 l2 l3
  exact ⟨fun i z hi hz => by have := chain_mono hc hi hz hj; omega, l2, l3, l1⟩
theorem may_mono {w : Lw} {q : Nat → Fz} {n : Nat} {d d' l a b : Int} (h : d ≤ d') (hm : may w q n d l a b = true) : may w q n d' l a b = true := by
  unfold may at hm ⊢
  simp only [Bool.and_eq_true, decide_eq_true_eq] at hm ⊢
  exact ⟨by omega, hm.2⟩
theorem nest_in {l l' t : Int} (h1 : 1 ≤ l) (h2 : l ≤ l') (h3 : l' ≤ 4) (ht : 0 ≤ t) (ht2 : t < 1402560) : bF l' t ≤ bF l t ∧ bT l t ≤ bT l' t := by
  have b1 := bF_bd l t ht ht2
  have b2 := bT_gt l t (by omega) (by omega) ht ht2
  have b3 := bT_bd l t (by omega) (by omega) ht ht2
  obtain ⟨e1, e2⟩ := nest (l := l) (l' := l') (t := t) (t' := bF l t) h1 h2 h3 ht ht2 (Int.le_refl _) (by omega)
  obtain ⟨e3, e4⟩ := nest (l := l) (l' := l') (t := t) (t' := bT l t - 1) h1 h2 h3 ht ht2 (by omega) (by omega)
  have c1 := bF_bd l' (bF l t) (by omega) (by omega)
  have c2 := bT_gt l' (bT l t - 1) (by omega) (by omega) (by omega) (by omega)
  omega
section
variable (w : Lw) (q : Nat → Fz) (n : Nat)
theorem dfind_blk {d t : Int} : ∀ L : Nat, L < 4 → (dfind w q n d t (L + 1)).l ≠ 0 → ∃ l : Int, 1 ≤ l ∧ l ≤ (L : Int) + 1 ∧ dfind w q n d t (L + 1) = ⟨l, bF l t, bT l t⟩ ∧ may w q n d l (bF l t) (bT l t) = true
  | 0, _, h => by
    unfold dfind at h ⊢
    split
    · rename_i hm; exact ⟨((0 : Nat) : Int) + 1, by omega, by omega, rfl, hm⟩
    · rename_i hm; rw [if_neg hm, if_pos rfl] at h; exact absurd rfl h
  | L + 1, hL, h => by
    unfold dfind at h ⊢
    split
    · rename_i hm; exact ⟨((L + 1 : Nat) : Int) + 1, by omega, by omega, rfl, hm⟩
    · rename_i hm
      rw [if_neg hm, if_neg (by omega)] at h
      rw [if_neg (by omega)]
      obtain ⟨l, h1, h2, h3⟩ := dfind_blk L (by omega) h
      exact ⟨l, h1, by omega, h3⟩
theorem dfind_later {d d' t : Int} (hd : d ≤ d') (ht : 0 ≤ t) (ht2 : t < 1402560) : ∀ L : Nat, L < 4 → (dfind w q n d t (L + 1)).l ≠ 0 →
    (dfind w q n d' t (L + 1)).l ≠ 0 ∧ (dfind w q n d t (L + 1)).l ≤ (dfind w q n d' t (L + 1)).l ∧ (dfind w q n d' t (L + 1)).a ≤ (dfind w q n d t (L + 1)).a ∧ (dfind w q n d t (L + 1)).b ≤ (dfind w q n d' t (L + 1)).b
  | L, hL, h => by
    obtain ⟨l, h1, h2, h3, h4⟩ := dfind_blk w q n L hL h
    rw [h3]
    simp only
    clear h h3
    induction L with
    | zero =>
      obtain rfl : l = 1 := by omega
      have := may_mono hd h4
      unfold dfind
      rw [if_pos (by simpa using this)]
      simp
    | succ L ih =>
      unfold dfind
      split
      · have := nest_in (l := l) (l' := ((L + 1 : Nat) : Int) + 1) h1 h2 (by omega) ht ht2
        exact ⟨by simp only; omega, by simp only; omega, this.1, this.2⟩
      · rename_i hm
        rw [if_neg (by omega)]
        by_cases e : l = ((L + 1 : Nat) : Int) + 1
        · exfalso; subst e; exact hm (may_mono hd h4)
        · exact ih (by omega) (by omega)
end
theorem later_due (w : Lw) (q : Nat → Fz) (n : Nat) {d d' : Int} (hd : d ≤ d') : Later 1402560 (due w q n d) (due w q n d') :=
  ⟨fun t h0 h1 h => dfind_later w q n hd h0 h1 3 (by omega) h⟩
theorem frozen_raw {w : Lw} {q : Nat → Fz} {n : Nat} {g d t : Int} (h0 : 0 ≤ t) (h1 : t < 1402560) {k : Nat} (hk : k < n) (e1 : (q k).g = g) (e2 : (q k).a ≤ t) (e3 : t < (q k).b) : (due w (qf q n g) (nf q n g) d t).l = 0 := by
  by_cases h : (due w (qf q n g) (nf q n g) d t).l = 0
  · exact h
  exfalso
  obtain ⟨l, l1, l2, l3, l4⟩ := dfind_blk w (qf q n g) (nf q n g) 3 (by omega) h
  rw [may_rmay] at l4
  have b1 := bF_bd l t h0 h1
  have b2 := bT_gt l t (by omega) (by omega) h0 h1
  have hh : rhit g (bF l t) (bT l t) (q k) = true := by
    unfold rhit
    simp only [Bool.and_eq_true, decide_eq_true_eq]
    exact ⟨⟨e1, by omega⟩, by omega⟩
  have : anyI (fun i => rhit g (bF l t) (bT l t) (q i)) n = true := anyI_hit hk hh
  unfold rmay at l4
  rw [this] at l4
  cases l4
theorem lvl_ok {w : Lw} {q : Nat → Fz} {n : Nat} {g t d : Int} (h : beginE w q n g d = 0) (h0 : 0 ≤ t) (h1 : t < 1402560) : lvl w q n g t d = ((due w (qf q n g) (nf q n g) d t).l, 0) := by
  unfold lvl
  rw [if_neg (by rw [h]; decide), if_neg (by omega)]
theorem dueL_ok {w : Lw} {q : Nat → Fz} {n : Nat} {g a b d : Int} (h : (dueL w q n g a b d).2 = 0) : beginE w q n g d = 0 ∧ (0 ≤ a ∧ a ≤ b ∧ b ≤ 1402560) ∧ (dueL w q n g a b d).1 = bsq (due w (qf q n g) (nf q n g) d) b ((b - a).toNat + 1) a a a := by
  unfold dueL at h ⊢
  split at h
  · rename_i h1; exact absurd h h1
  · rename_i h1
    have h1 : beginE w q n g d = 0 := Classical.not_not.1 h1
    split at h
    · cases h
    · rename_i h2
      have h2' : ival a b = true := by simpa using h2
      simp only at h
      split at h
      · cases h
      · rename_i h3
        rw [if_neg (by rw [h1]; decide), if_neg h2]
        simp only
        rw [if_neg h3]
        exact ⟨h1, ival_spec h2', rfl⟩
theorem rdues_small (due : Int → Bn) (a : Int) (k : Nat) (h : k ≤ 500) : ¬ 4000 < (rdues due a k).length := by
  have := rdues_len due a k; omega
theorem dueL_errs (w : Lw) (q : Nat → Fz) (n : Nat) (g a b d d' : Int) (hs : tks a b 500 = true) : (dueL w q n g a b d).2 = (dueL w q n g a b d').2 ∨ (dueL w q n g a b d).2 = 3 ∨ (dueL w q n g a b d').2 = 3 := by
  rw [law_due, law_due]
  unfold rdueL
  rcases fst25_range w q n g d with e | ⟨e, e'⟩ <;> rcases fst25_range w q n g d' with f | ⟨f, f'⟩
  · rw [e, f]
    by_cases hc : chk w q n = 0
    · rw [hc]
      by_cases hi : ival a b = false
      · simp [hi]
      · have hi' : ival a b = true := by simpa using hi
        obtain ⟨i0, i1, i2⟩ := ival_spec hi'
        have hk : (b - a).toNat ≤ 500 := by simp [tks] at hs; omega
        simp only [hi', rdues_small _ a _ hk]
        simp
    · simp [hc]
  · rw [f']; exact .inr (.inr (by simp))
  · rw [e']; exact .inr (.inl (by simp))
  · rw [e']; exact .inr (.inl (by simp))
end Go.Am
