/- What a call of layers 2 and 3 keeps of memory: the boxes of its own structs, the rows of words that it reads or was given; no program's code is named. -/
import Derived.Test.YtmbmbmkmjbpcpaaRowkK
import Derived.Test.YtmbmbmkmjbpcpaaPAx0K
namespace Go.Proofs.Ytmbmbmkmjbpcpaa.PA
open Go Go.Proofs.Ytmbmbmkmjbpcpaa.Nums Go.RowKit Go.Proofs.YtmbmbmkmjbpcpaaW.PrintWords Go.Proofs.YtmbmbmkmjbpcpaaW.PrintLast Go.Proofs.YtmbmbmkmjbpcpaaW.PrintMore
set_option linter.unusedVariables false
/-- the blocks that no box's store may touch: what was there ahead of the call, rows of words -/
structure Keeps (w0 w w' : World) : Prop where
  size : w.heap.size ≤ w'.heap.size
  blk : ∀ k o, w.heap[k]? = some o → (k < w0.heap.size ∨ ∃ cells, o = .cells cells 68 (0, 0)) → w'.heap[k]? = some o
theorem Keeps.refl (w0 w : World) : Keeps w0 w w := ⟨Nat.le_refl _, fun _ _ h _ => h⟩
theorem Keeps.trans {w0 a b c : World} (h : Keeps w0 a b) (k : Keeps w0 b c) : Keeps w0 a c :=
  ⟨Nat.le_trans h.size k.size, fun i o h1 h2 => k.blk i o (h.blk i o h1 h2) h2⟩
theorem Keeps.of_below {w0 w w' : World} (h : Below w.heap.size w w') : Keeps w0 w w' :=
  ⟨h.size, fun k o h1 _ => (h.block k (blk_lt h1)).trans h1⟩
theorem Keeps.set {w0 w : World} {g : Nat} {cs : Array Value} {t : TypeId} (hb : w.heap[g]? = some (.cells cs t (0, 0))) (hg : w0.heap.size ≤ g) (ht : t ≠ 68) (j : Nat) (u : Value) : Keeps w0 w (w.setCell ⟨g, j, none⟩ u) :=
  ⟨by simp [World.setCell], fun k o h1 h2 => by
    have hne : k ≠ g := by
      rintro rfl
      rcases h2 with h2 | ⟨cells, rfl⟩
      · omega
      · rw [hb] at h1; injection h1 with h1; injection h1 with h1 h3; exact ht h3
    rw [Below.heap_setCell _ _ _ _ hne]; exact h1⟩
/-- a slice of words that reads as l -/
def Rd (w : World) (v : Value) (l : List Int) : Prop := ∃ A c, v = .slice A l.length c ∧ l.length ≤ c ∧ Kd.C (Kd.int .u32) w A l.length l
/-- it does so whatever the call's own boxes come to hold -/
def RdI (w0 w : World) (v : Value) (l : List Int) : Prop := ∀ w', Keeps w0 w w' → Rd w' v l
/-- a row of the call's own -/
def OwI (w0 w : World) (v : Value) (l : List Int) : Prop := ∀ w', Keeps w0 w w' → Kd.R (Kd.int .u32) 68 w' w0.heap.size (fun _ => True) v l
theorem RdI.keep {w0 w w' : World} {v : Value} {l : List Int} (h : RdI w0 w v l) (k : Keeps w0 w w') : RdI w0 w' v l := fun w2 k2 => h w2 (k.trans k2)
theorem OwI.keep {w0 w w' : World} {v : Value} {l : List Int} (h : OwI w0 w v l) (k : Keeps w0 w w') : OwI w0 w' v l := fun w2 k2 => h w2 (k.trans k2)
theorem RdI.now {w0 w : World} {v : Value} {l : List Int} (h : RdI w0 w v l) : Rd w v l := h w (Keeps.refl _ _)
theorem OwI.now {w0 w : World} {v : Value} {l : List Int} (h : OwI w0 w v l) : Kd.R (Kd.int .u32) 68 w w0.heap.size (fun _ => True) v l := h w (Keeps.refl _ _)
theorem Rd.of_row {w : World} {base : Nat} {ok : Nat → Prop} {v : Value} {l : List Int} (h : Kd.R (Kd.int .u32) 68 w base ok v l) : Rd w v l := by
  obtain ⟨A, c, e, h1, h2⟩ := Kd.R_reads h
  exact ⟨A, c, e, h1, h2⟩
theorem OwI.rd {w0 w : World} {v : Value} {l : List Int} (h : OwI w0 w v l) : RdI w0 w v l := fun w' k => Rd.of_row (h w' k)
theorem Rd.below {w w' : World} {v : Value} {l : List Int} (h : Rd w v l) (hb : Below w.heap.size w w') : Rd w' v l := by
  obtain ⟨A, c, e, h1, h2⟩ := h
  exact ⟨A, c, e, h1, Kd.C_below h2 hb⟩
theorem Rd.came {w0 : World} {v : Value} {l : List Int} (h : Rd w0 v l) : RdI w0 w0 v l := by
  intro w' k
  obtain ⟨A, c, e, h1, h2⟩ := h
  refine ⟨A, c, e, h1, Kd.C_of_reads (d := (0 : Int)) (h1 := fun _ => rfl) ?_⟩
  obtain ⟨h3, h4, h5⟩ := Kd.reads_of_C (d := (0 : Int)) h2
  refine ⟨h3, h4, fun h => ?_⟩
  obtain ⟨ad, e2, h6⟩ := h5 h
  refine ⟨ad, e2, fun j hj => ?_⟩
  have h7 := h6 j hj
  have hlt := World.block_lt_of_cell? w0 (ad.add j) h7
  have hk : w'.heap[(ad.add j).block]? = w0.heap[(ad.add j).block]? := by
    rw [Array.getElem?_eq_getElem hlt]
    exact k.blk _ _ (Array.getElem?_eq_getElem hlt) (.inl hlt)
  rw [← h7]
  unfold World.cell?
  rw [hk]
theorem OwI.of_row {w0 w w1 : World} {v : Value} {l : List Int} (h : Kd.R (Kd.int .u32) 68 w1 w.heap.size (fun _ => True) v l) (hw : w0.heap.size ≤ w.heap.size) : OwI w0 w1 v l := by
  intro w' k
  refine Kd.R_mono (Kd.R_step (Kd.R_bound (Kd.R_lower h hw)) fun i hi hlt => ?_) (fun _ _ => trivial)
  obtain ⟨-, -, -, q, hq, cells, hc⟩ := hi
  have hq' : q = 68 := by
    rcases List.mem_cons.mp hq with e | e
    · exact e
    · cases e
  subst hq'
  rw [hc]
  exact k.blk _ _ hc (.inr ⟨cells, rfl⟩)
/-- the call's own boxes -/
structure St (w0 w : World) (bx : List (Nat × TypeId × Array Value)) : Prop where
  below : Below w0.heap.size w0 w
  box : ∀ p, p ∈ bx → w0.heap.size ≤ p.1 ∧ p.2.1 ≠ 68 ∧ w.heap[p.1]? = some (.cells p.2.2 p.2.1 (0, 0))
theorem St.start (w : World) : St w w [] := ⟨Below.refl _ _, fun p h => by cases h⟩
theorem St.alloc {w0 w : World} {bx : List (Nat × TypeId × Array Value)} (h : St w0 w bx) (t : TypeId) (ht : t ≠ 68) (cs : Array Value) : St w0 (w.alloc (.cells cs t (0, 0))) (bx ++ [(w.heap.size, t, cs)]) := by
  refine ⟨h.below.alloc h.below.size _, fun p hp => ?_⟩
  rcases List.mem_append.mp hp with hp | hp
  · obtain ⟨h1, h2, h3⟩ := h.box p hp
    have := blk_lt h3
    exact ⟨h1, h2, by rw [← h3]; exact (below_alloc (Below.refl _ _) _).block _ this⟩
  · have := List.mem_singleton.mp hp
    subst this
    exact ⟨h.below.size, ht, blk_new w _⟩
theorem St.call {w0 w w' : World} {bx : List (Nat × TypeId × Array Value)} (h : St w0 w bx) (hb : Below w.heap.size w w') : St w0 w' bx :=
  ⟨below_then h.below h.below.size hb, fun p hp => by
    obtain ⟨h1, h2, h3⟩ := h.box p hp
    exact ⟨h1, h2, (hb.block _ (blk_lt h3)).trans h3⟩⟩
theorem St.drewN {w0 w : World} {bx : List (Nat × TypeId × Array Value)} (h : St w0 w bx) (n : Nat) : St w0 (w.drewN n) bx := h.call (pw_below_drewN (Below.refl _ _) n)
theorem St.drew {w0 w : World} {bx : List (Nat × TypeId × Array Value)} (h : St w0 w bx) : St w0 w.drew bx := h.call (below_drew (Below.refl _ _))
theorem St.cell {w0 w : World} {bx : List (Nat × TypeId × Array Value)} (h : St w0 w bx) (p : Nat × TypeId × Array Value) (hp : p ∈ bx) (j : Nat) : w.cell? ⟨p.1, j, none⟩ = p.2.2[j]? := blk_cell (h.box p hp).2.2 j
theorem St.frozen {w0 w : World} {bx : List (Nat × TypeId × Array Value)} (h : St w0 w bx) (p : Nat × TypeId × Array Value) (hp : p ∈ bx) (j : Nat) : w.frozen? ⟨p.1, j, none⟩ = false := blk_frozen (h.box p hp).2.2 j
theorem St.box2 {w0 w : World} {bx : List (Nat × TypeId × Array Value)} (h : St w0 w bx) {g : Nat} {t : TypeId} {x y : Value} (hp : (g, t, #[x, y]) ∈ bx) :
    w.cell? ⟨g, 0, none⟩ = some x ∧ w.cell? ⟨g, 1, none⟩ = some y ∧ w.frozen? ⟨g, 0, none⟩ = false ∧ w.frozen? ⟨g, 1, none⟩ = false :=
  ⟨h.cell _ hp 0, h.cell _ hp 1, h.frozen _ hp 0, h.frozen _ hp 1⟩
theorem St.set {w0 w : World} {bx : List (Nat × TypeId × Array Value)} (h : St w0 w bx) (i : Nat) (p : Nat × TypeId × Array Value) (hp : bx[i]? = some p) (hne : ∀ j q, j ≠ i → bx[j]? = some q → q.1 ≠ p.1) (j : Nat) (u : Value) :
    St w0 (w.setCell ⟨p.1, j, none⟩ u) (bx.set i (p.1, p.2.1, p.2.2.setIfInBounds j u)) := by
  have hm : p ∈ bx := List.mem_of_getElem? hp
  obtain ⟨b1, b2, b3⟩ := h.box p hm
  refine ⟨below_set h.below b1, fun q hq => ?_⟩
  obtain ⟨n, hn⟩ := List.getElem?_of_mem hq
  by_cases e : n = i
  · subst e
    rw [List.getElem?_set_self (by have := (List.getElem?_eq_some_iff.mp hp).1; exact this)] at hn
    injection hn with hn
    subst hn
    exact ⟨b1, b2, blk_set b3 j u⟩
  · rw [List.getElem?_set_ne (Ne.symm e)] at hn
    obtain ⟨c1, c2, c3⟩ := h.box q (List.mem_of_getElem? hn)
    exact ⟨c1, c2, blk_far c3 (hne n q e hn) u⟩
theorem St.keeps {w0 w : World} {bx : List (Nat × TypeId × Array Value)} (h : St w0 w bx) (p : Nat × TypeId × Array Value) (hp : p ∈ bx) (j : Nat) (u : Value) : Keeps w0 w (w.setCell ⟨p.1, j, none⟩ u) := Keeps.set (h.box p hp).2.2 (h.box p hp).1 (h.box p hp).2.1 j u
end Go.Proofs.Ytmbmbmkmjbpcpaa.PA

