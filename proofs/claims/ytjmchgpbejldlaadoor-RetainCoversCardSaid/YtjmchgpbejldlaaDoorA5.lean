/- Part A5 of the proof that the last part closes: an abstract machine proved sound over the calculus of the guide. No condition. -/
import Derived.Test.YtjmchgpbejldlaaDoorA4
import Derived.Shelf.Sort.Plain
set_option linter.unusedVariables false
set_option linter.unusedSimpArgs false
namespace Go.Am
open Go.Sort Go.Proofs
def msort (l : List Int) : List Int := l.mergeSort fun x y => decide (x ≤ y)
def firstN (n : Nat) (a : Nat → Int) : List Int := (List.range n).map a
theorem firstN_length (n : Nat) (a : Nat → Int) : (firstN n a).length = n := by simp [firstN]
theorem firstN_get (n : Nat) (a : Nat → Int) (j : Nat) (hj : j < n) : (firstN n a)[j]? = some (a j) := by simp [firstN, hj]
theorem sort_ints {E : Nat → AVal} {P : Program} {ρ : Go.Shelf.Ren} (Ly : Lays.n189 P ρ) {h : AHeap} {id ep n : Nat} {f : Nat → List AVal} {a : Nat → Int} (hid : h id = .vec ep 1 n f) (hn : 0 < n) (hn2 : n < 4611686018427387904) (hf : ∀ k, k < n → f k = [.int .i64 (a k)]) :
    ATr E P (ρ.f 189) [.vec id ep 0 n] h (fun r h' => r = .tup [] ∧ h' = hset h id (.vec ep 1 n (fun k => [.int .i64 ((msort (firstN n a)).getD k 0)]))) := by
  intro g w vs H hv
  obtain ⟨v, rfl⟩ : ∃ v, vs = [v] := by
    have := hv.1
    match vs, this with
    | [v], _ => exact ⟨v, rfl⟩
  have hrv : RV g w (.vec id ep 0 n) v := hv.2 0 _ _ rfl rfl
  have hep : g.ep id = ep := by rw [H.ep id, hid]; rfl
  cases hrv with
  | vec _ _ _ _ _ h1 he hV =>
  obtain ⟨ad, cap, rfl, hcap, hor⟩ := hV hep.symm
  have ho := H.obj id
  rw [hid] at ho
  obtain ⟨hst, _, hncp, arr, ty, hheap, hsize, hcells⟩ := ho
  rcases hor with e0 | ⟨rfl, hcp⟩
  · omega
  have hlen : (firstN n a).length = n := firstN_length n a
  have how : (h id).owned = true := by rw [hid]; rfl
  have hcell : ∀ j, j < n → arr[g.bo id + j]? = some (.int .i64 (a j)) := by
    intro j hj
    have hlt : g.bo id + j < arr.size := by omega
    have h3 := (hcells j hj).2 0 (.int .i64 (a j)) arr[g.bo id + j] (by rw [hf j hj]; rfl) (by simp [Array.getElem?_eq_getElem hlt])
    rw [Array.getElem?_eq_getElem hlt, rv_int h3.2]
  have hoff : (⟨g.blk id, g.bo id + 0 * g.st id, none⟩ : Addr) = ⟨g.blk id, g.bo id, none⟩ := by simp
  have hblk : g.blk id < w.heap.size := (Array.getElem?_eq_some_iff.1 hheap).1
  have hH : Holds (Value.int .i64) w (g.blk id) (g.bo id) (firstN n a).toArray := by
    intro j hj
    have hj' : j < n := by simpa [hlen] using hj
    refine ⟨?_, by simp [World.frozen?, hheap]⟩
    simp only [World.cell?, hheap]
    simp only [Option.isSome_none, Bool.false_eq_true, if_false]
    rw [hcell j hj']
    have hja : j < (firstN n a).toArray.size := by simpa [hlen] using hj'
    rw [getElem!_pos (firstN n a).toArray j hja]
    simp [firstN]
  have main := Any.slices_Sort_int Ly (g.blk id) (g.bo id) cap (firstN n a) w hH hblk (by rw [hlen]; exact hn2)
  rw [hlen] at main
  rw [hoff]
  refine main.mono ?_
  rintro e w' ⟨rfl, m, os, rfl⟩
  have hml : (msort (firstN n a)).length = n := by unfold msort; rw [List.length_mergeSort, hlen]
  have hsz : w.heap.size ≤ (grow (putRow (Value.int .i64) (Sort.ahead w m) (g.blk id) (g.bo id) (msort (firstN n a)).toArray) os).heap.size := by
    rw [size_grow]; simp [putRow, mapBlock, Sort.ahead]
  have hold : ∀ b, b < w.heap.size → b ≠ g.blk id → (grow (putRow (Value.int .i64) (Sort.ahead w m) (g.blk id) (g.bo id) (msort (firstN n a)).toArray) os).heap[b]? = w.heap[b]? := by
    intro b hb hne
    rw [heap_grow_old _ _ (by simpa [putRow, mapBlock, Sort.ahead] using hb)]
    have : g.blk id ≠ b := fun e => hne e.symm
    simp [putRow, mapBlock, Sort.ahead, Array.getElem?_modify, this]
  have hnew : (grow (putRow (Value.int .i64) (Sort.ahead w m) (g.blk id) (g.bo id) (msort (firstN n a)).toArray) os).heap[g.blk id]? = some (.cells (putCells (Value.int .i64) (g.bo id) (msort (firstN n a)).toArray arr) ty (0, 0)) := by
    rw [heap_grow_old _ _ (by simpa [putRow, mapBlock, Sort.ahead] using hblk)]
    simp [putRow, mapBlock, Sort.ahead, Array.getElem?_modify, hheap, onCells]
  have hle : GLe g w g (grow (putRow (Value.int .i64) (Sort.ahead w m) (g.blk id) (g.bo id) (msort (firstN n a)).toArray) os) :=
    ⟨fun b hb => ⟨hb, hold b (H.fzb b hb) (fun e => H.sep id how (e ▸ hb))⟩, fun _ => Nat.le_refl _, fun _ _ => ⟨rfl, rfl, rfl, rfl⟩⟩
  have hor : OR g (grow (putRow (Value.int .i64) (Sort.ahead w m) (g.blk id) (g.bo id) (msort (firstN n a)).toArray) os) id (.vec ep 1 n (fun k => [.int .i64 ((msort (firstN n a)).getD k 0)])) := by
    refine ⟨hst, by omega, hncp, _, ty, hnew, by simpa [putCells] using hsize, fun k hk => ⟨rfl, fun j x v hx hv => ?_⟩⟩
    have hj : j = 0 := by
      cases j with
      | zero => rfl
      | succ j => simp at hx
    subst hj
    simp only [List.getElem?_cons_zero, Option.some.injEq] at hx
    subst hx
    have hka : g.bo id + k < arr.size := by omega
    have : v = .int .i64 ((msort (firstN n a)).getD k 0) := by
      simp only [putCells, Array.getElem?_mapIdx, Nat.mul_one, Nat.add_zero, Array.getElem?_eq_getElem hka, Option.map_some, Option.some.injEq] at hv
      rw [if_pos ⟨by omega, by simp [hml]; omega⟩] at hv
      rw [← hv]
      have hk' : k < (msort (firstN n a)).length := by omega
      have e1 : g.bo id + k - g.bo id = k := by omega
      rw [e1]
      have hja : k < (msort (firstN n a)).toArray.size := by simpa using hk'
      rw [getElem!_pos (msort (firstN n a)).toArray k hja]
      simp [List.getD, List.getElem?_eq_getElem hk']
    subst this
    exact ⟨rfl, .int _ _⟩
  obtain ⟨H', S'⟩ := HR.upd (E := E) (g' := g) (i := id) (o' := .vec ep 1 n (fun k => [.int .i64 ((msort (firstN n a)).getD k 0)])) H hle (fun _ _ => rfl) hep
    (fun b hb hn => hold b hb (hn how)) hsz hor (fun _ => .inl ⟨how, rfl⟩) (fun _ => H.sep id how) (fun b hb => .inl hb) (fun b hb => Nat.lt_of_lt_of_le (H.fzb b hb) hsz) rfl rfl rfl
  exact ⟨g, _, .tup [], .tuple #[], ⟨rfl, rfl⟩, rfl, .tup [] #[] rfl (fun i x v hx _ => by simp at hx), H', S'⟩
end Go.Am
