/- What a call of layers 2 and 3 keeps of memory: the boxes of its own structs, the rows of words that it reads or was given; no program's code is named. -/
import Derived.Test.YtmbmbmkmjbpcpaaRowkK
import Derived.Test.YtmbmbmkmjbpcpaaPAx0K
import Derived.Laws.CopyOwn
import Derived.Test.YtmbmbmkmjbpcpaaNatR1K
import Derived.Test.YtmbmbmkmjbpcpaaNatRootK
import Derived.Test.YtmbmbmkmjbpcpaaNatTextK
import Derived.Test.YtmbmbmkmjbpcpaaPAx1K
import Derived.Test.YtmbmbmkmjbpcpaaPAx13K
import Derived.Test.YtmbmbmkmjbpcpaaPAx14K
import Derived.Test.YtmbmbmkmjbpcpaaPAx15K
import Derived.Test.YtmbmbmkmjbpcpaaPAx16K
import Derived.Test.YtmbmbmkmjbpcpaaPAx17K
import Derived.Test.YtmbmbmkmjbpcpaaPAx2K
import Derived.Test.YtmbmbmkmjbpcpaaPAx3K
import Derived.Test.YtmbmbmkmjbpcpaaPAx4K
import Derived.Test.YtmbmbmkmjbpcpaaPAx5K
import Derived.Test.YtmbmbmkmjbpcpaaPAx6K
import Derived.Test.YtmbmbmkmjbpcpaaPAx8K
import Derived.Test.YtmbmbmkmjbpcpaaPAx9K
namespace Go.Proofs.Ytmbmbmkmjbpcpaa.PA
open Go Go.Proofs.Ytmbmbmkmjbpcpaa.Nums Go.RowKit Go.Proofs.YtmbmbmkmjbpcpaaW.PrintWords Go.Proofs.YtmbmbmkmjbpcpaaW.PrintLast Go.Proofs.YtmbmbmkmjbpcpaaW.PrintMore
set_option linter.unusedVariables false
/-- the blocks that no box's store may touch: what was there ahead of the call, rows of words -/
structure Keeps (w0 w w' : World) : Prop where
  size : w.heap.size ≤ w'.heap.size
  blk : ∀ k o, w.heap[k]? = some o → (k < w0.heap.size ∨ ∃ cells, o = .cells cells 68 (0, 0)) → w'.heap[k]? = some o
theorem Keeps.refl (w0 w : World) : Keeps w0 w w := ⟨Nat.le_refl _, fun _ _ h _ => h⟩
theorem Keeps.trans {w0 a b c : World} (h : Keeps w0 a b) (k : Keeps w0 b c) : Keeps w0 a c :=
  ⟨Nat.le_trans h.size k.size, fun i o h1 h2 => k.blk i o (h.blk i o h1 h2) h2⟩
theorem Keeps.of_below {w0 w w' : World} (h : Below w.heap.size w w') : Keeps w0 w w' :=
  ⟨h.size, fun k o h1 _ => (h.block k (blk_lt h1)).trans h1⟩
theorem Keeps.set {w0 w : World} {g : Nat} {cs : Array Value} {t : TypeId} (hb : w.heap[g]? = some (.cells cs t (0, 0))) (hg : w0.heap.size ≤ g) (ht : t ≠ 68) (j : Nat) (u : Value) : Keeps w0 w (w.setCell ⟨g, j, none⟩ u) :=
  ⟨by simp [World.setCell], fun k o h1 h2 => by
    have hne : k ≠ g := by
      rintro rfl
      rcases h2 with h2 | ⟨cells, rfl⟩
      · omega
      · rw [hb] at h1; injection h1 with h1; injection h1 with h1 h3; exact ht h3
    rw [Below.heap_setCell _ _ _ _ hne]; exact h1⟩
/-- a slice of words that reads as l -/
def Rd (w : World) (v : Value) (l : List Int) : Prop := ∃ A c, v = .slice A l.length c ∧ l.length ≤ c ∧ Kd.C (Kd.int .u32) w A l.length l
/-- it does so whatever the call's own boxes come to hold -/
def RdI (w0 w : World) (v : Value) (l : List Int) : Prop := ∀ w', Keeps w0 w w' → Rd w' v l
/-- a row of the call's own -/
def OwI (w0 w : World) (v : Value) (l : List Int) : Prop := ∀ w', Keeps w0 w w' → Kd.R (Kd.int .u32) 68 w' w0.heap.size (fun _ => True) v l
theorem RdI.keep {w0 w w' : World} {v : Value} {l : List Int} (h : RdI w0 w v l) (k : Keeps w0 w w') : RdI w0 w' v l := fun w2 k2 => h w2 (k.trans k2)
theorem OwI.keep {w0 w w' : World} {v : Value} {l : List Int} (h : OwI w0 w v l) (k : Keeps w0 w w') : OwI w0 w' v l := fun w2 k2 => h w2 (k.trans k2)
theorem RdI.now {w0 w : World} {v : Value} {l : List Int} (h : RdI w0 w v l) : Rd w v l := h w (Keeps.refl _ _)
theorem OwI.now {w0 w : World} {v : Value} {l : List Int} (h : OwI w0 w v l) : Kd.R (Kd.int .u32) 68 w w0.heap.size (fun _ => True) v l := h w (Keeps.refl _ _)
theorem Rd.of_row {w : World} {base : Nat} {ok : Nat → Prop} {v : Value} {l : List Int} (h : Kd.R (Kd.int .u32) 68 w base ok v l) : Rd w v l := by
  obtain ⟨A, c, e, h1, h2⟩ := Kd.R_reads h
  exact ⟨A, c, e, h1, h2⟩
theorem OwI.rd {w0 w : World} {v : Value} {l : List Int} (h : OwI w0 w v l) : RdI w0 w v l := fun w' k => Rd.of_row (h w' k)
theorem Rd.below {w w' : World} {v : Value} {l : List Int} (h : Rd w v l) (hb : Below w.heap.size w w') : Rd w' v l := by
  obtain ⟨A, c, e, h1, h2⟩ := h
  exact ⟨A, c, e, h1, Kd.C_below h2 hb⟩
theorem Rd.came {w0 : World} {v : Value} {l : List Int} (h : Rd w0 v l) : RdI w0 w0 v l := by
  intro w' k
  obtain ⟨A, c, e, h1, h2⟩ := h
  refine ⟨A, c, e, h1, Kd.C_of_reads (d := (0 : Int)) (h1 := fun _ => rfl) ?_⟩
  obtain ⟨h3, h4, h5⟩ := Kd.reads_of_C (d := (0 : Int)) h2
  refine ⟨h3, h4, fun h => ?_⟩
  obtain ⟨ad, e2, h6⟩ := h5 h
  refine ⟨ad, e2, fun j hj => ?_⟩
  have h7 := h6 j hj
  have hlt := World.block_lt_of_cell? w0 (ad.add j) h7
  have hk : w'.heap[(ad.add j).block]? = w0.heap[(ad.add j).block]? := by
    rw [Array.getElem?_eq_getElem hlt]
    exact k.blk _ _ (Array.getElem?_eq_getElem hlt) (.inl hlt)
  rw [← h7]
  unfold World.cell?
  rw [hk]
theorem OwI.of_row {w0 w w1 : World} {v : Value} {l : List Int} (h : Kd.R (Kd.int .u32) 68 w1 w.heap.size (fun _ => True) v l) (hw : w0.heap.size ≤ w.heap.size) : OwI w0 w1 v l := by
  intro w' k
  refine Kd.R_mono (Kd.R_step (Kd.R_bound (Kd.R_lower h hw)) fun i hi hlt => ?_) (fun _ _ => trivial)
  obtain ⟨-, -, -, q, hq, cells, hc⟩ := hi
  have hq' : q = 68 := by
    rcases List.mem_cons.mp hq with e | e
    · exact e
    · cases e
  subst hq'
  rw [hc]
  exact k.blk _ _ hc (.inr ⟨cells, rfl⟩)
/-- the call's own boxes -/
structure St (w0 w : World) (bx : List (Nat × TypeId × Array Value)) : Prop where
  below : Below w0.heap.size w0 w
  box : ∀ p, p ∈ bx → w0.heap.size ≤ p.1 ∧ p.2.1 ≠ 68 ∧ w.heap[p.1]? = some (.cells p.2.2 p.2.1 (0, 0))
theorem St.start (w : World) : St w w [] := ⟨Below.refl _ _, fun p h => by cases h⟩
theorem St.alloc {w0 w : World} {bx : List (Nat × TypeId × Array Value)} (h : St w0 w bx) (t : TypeId) (ht : t ≠ 68) (cs : Array Value) : St w0 (w.alloc (.cells cs t (0, 0))) (bx ++ [(w.heap.size, t, cs)]) := by
  refine ⟨h.below.alloc h.below.size _, fun p hp => ?_⟩
  rcases List.mem_append.mp hp with hp | hp
  · obtain ⟨h1, h2, h3⟩ := h.box p hp
    have := blk_lt h3
    exact ⟨h1, h2, by rw [← h3]; exact (below_alloc (Below.refl _ _) _).block _ this⟩
  · have := List.mem_singleton.mp hp
    subst this
    exact ⟨h.below.size, ht, blk_new w _⟩
theorem St.call {w0 w w' : World} {bx : List (Nat × TypeId × Array Value)} (h : St w0 w bx) (hb : Below w.heap.size w w') : St w0 w' bx :=
  ⟨below_then h.below h.below.size hb, fun p hp => by
    obtain ⟨h1, h2, h3⟩ := h.box p hp
    exact ⟨h1, h2, (hb.block _ (blk_lt h3)).trans h3⟩⟩
theorem St.drewN {w0 w : World} {bx : List (Nat × TypeId × Array Value)} (h : St w0 w bx) (n : Nat) : St w0 (w.drewN n) bx := h.call (pw_below_drewN (Below.refl _ _) n)
theorem St.drew {w0 w : World} {bx : List (Nat × TypeId × Array Value)} (h : St w0 w bx) : St w0 w.drew bx := h.call (below_drew (Below.refl _ _))
theorem St.cell {w0 w : World} {bx : List (Nat × TypeId × Array Value)} (h : St w0 w bx) (p : Nat × TypeId × Array Value) (hp : p ∈ bx) (j : Nat) : w.cell? ⟨p.1, j, none⟩ = p.2.2[j]? := blk_cell (h.box p hp).2.2 j
theorem St.frozen {w0 w : World} {bx : List (Nat × TypeId × Array Value)} (h : St w0 w bx) (p : Nat × TypeId × Array Value) (hp : p ∈ bx) (j : Nat) : w.frozen? ⟨p.1, j, none⟩ = false := blk_frozen (h.box p hp).2.2 j
theorem St.box2 {w0 w : World} {bx : List (Nat × TypeId × Array Value)} (h : St w0 w bx) {g : Nat} {t : TypeId} {x y : Value} (hp : (g, t, #[x, y]) ∈ bx) :
    w.cell? ⟨g, 0, none⟩ = some x ∧ w.cell? ⟨g, 1, none⟩ = some y ∧ w.frozen? ⟨g, 0, none⟩ = false ∧ w.frozen? ⟨g, 1, none⟩ = false :=
  ⟨h.cell _ hp 0, h.cell _ hp 1, h.frozen _ hp 0, h.frozen _ hp 1⟩
theorem St.set {w0 w : World} {bx : List (Nat × TypeId × Array Value)} (h : St w0 w bx) (i : Nat) (p : Nat × TypeId × Array Value) (hp : bx[i]? = some p) (hne : ∀ j q, j ≠ i → bx[j]? = some q → q.1 ≠ p.1) (j : Nat) (u : Value) :
    St w0 (w.setCell ⟨p.1, j, none⟩ u) (bx.set i (p.1, p.2.1, p.2.2.setIfInBounds j u)) := by
  have hm : p ∈ bx := List.mem_of_getElem? hp
  obtain ⟨b1, b2, b3⟩ := h.box p hm
  refine ⟨below_set h.below b1, fun q hq => ?_⟩
  obtain ⟨n, hn⟩ := List.getElem?_of_mem hq
  by_cases e : n = i
  · subst e
    rw [List.getElem?_set_self (by have := (List.getElem?_eq_some_iff.mp hp).1; exact this)] at hn
    injection hn with hn
    subst hn
    exact ⟨b1, b2, blk_set b3 j u⟩
  · rw [List.getElem?_set_ne (Ne.symm e)] at hn
    obtain ⟨c1, c2, c3⟩ := h.box q (List.mem_of_getElem? hn)
    exact ⟨c1, c2, blk_far c3 (hne n q e hn) u⟩
theorem St.keeps {w0 w : World} {bx : List (Nat × TypeId × Array Value)} (h : St w0 w bx) (p : Nat × TypeId × Array Value) (hp : p ∈ bx) (j : Nat) (u : Value) : Keeps w0 w (w.setCell ⟨p.1, j, none⟩ u) := Keeps.set (h.box p hp).2.2 (h.box p hp).1 (h.box p hp).2.1 j u
end Go.Proofs.Ytmbmbmkmjbpcpaa.PA


/- The contract of zint.made: a number in its one form, its limbs copied. -/
namespace Go.Proofs.Ytmbmbmkmjbpcpaa.PA
open Go Go.Proofs.Ytmbmbmkmjbpcpaa.Nums Go.RowKit Go.Proofs.YtmbmbmkmjbpcpaaW.PrintWords Go.Proofs.YtmbmbmkmjbpcpaaW.PrintLast Go.Proofs.YtmbmbmkmjbpcpaaW.PrintMore
set_option linter.unusedVariables false
set_option linter.unusedSimpArgs false
/-- the sign of a number in its one form -/
def sg (neg : Bool) (v : Int) : Bool := neg && decide (v ≠ 0)
theorem made_dec {n m : Nat} (hm : m = n + 1) (hn : n ≤ 70368744177664) : wrap64 ((m : Int) - 1) = (n : Int) ∧ IntKind.i64.wrap ((m : Int) - 1) = (n : Int) := by
  have h : wrap64 ((m : Int) - 1) = (n : Int) := by rw [w64 (by omega) (by omega)]; omega
  exact ⟨h, (i64_w _).trans h⟩
theorem made_less {l : List Int} {n : Nat} (hn : n < l.length) (hz : l.getD n 0 = 0) (h : trim (l.take (n + 1)) = trim l) : trim (l.take n) = trim l := by
  rw [take_succ' l n hn, hz, trim_snoc_zero] at h; exact h
theorem made_stop {l : List Int} {n : Nat} (hn : n < l.length) (hz : ¬ l.getD n 0 = 0) (h : trim (l.take (n + 1)) = trim l) : l.take (n + 1) = trim l := by
  rw [take_succ' l n hn, trim_snoc_ne _ hz] at h; rw [take_succ' l n hn]; exact h
theorem Below.of_grown {w w1 : World} (h : w.grownBy w1 none) : Below w.heap.size w w1 := ⟨h.os, h.tape, h.output, h.size, fun k hk => h.block k hk (by simp)⟩
/-- a row of the call's own, opened -/
theorem own_open {w : World} {base g n c : Nat} {ok : Nat → Prop} {zs : List Int} (h : Kd.R (Kd.int .u32) 68 w base ok (.slice (some ⟨g, 0, none⟩) n c) zs) :
    ∃ cur, w.heap[g]? = some (.cells cur 68 (0, 0)) ∧ n ≤ c ∧ c ≤ maxLen ∧ cur.size = c ∧ n = zs.length ∧ base ≤ g := by
  have hn := (Kd.R_reads' h).1
  subst hn
  obtain ⟨h1, h2⟩ := Kd.own_of_R h
  rcases h2 with ⟨h2, -⟩ | ⟨g', cap, cur, e, hb, hc, hle, hm, hs, ht⟩
  · cases h2
  · injection e with e1 e2 e3
    injection e1 with e1
    injection e1 with e1
    subst e1
    subst e3
    exact ⟨cur, hc, hle, hm, by omega, rfl, hb⟩
theorem info1_68 : (Try.prog.info? 68).map (·.size) = some 1 := by
  obtain ⟨i, hi, h⟩ := Option.map_eq_some_iff.1 info68
  rw [hi]
  simp only [Prod.mk.injEq] at h
  simp [h.2.1]
theorem nums_one (k : IntKind) (xs : List Int) : ∀ v ∈ nums k xs, v.oneCell' = true := by
  intro v hv
  obtain ⟨x, -, rfl⟩ := List.mem_map.mp hv
  rfl
theorem made_src {w : World} {ad : Addr} {l : List Int} {m : Nat} (h : Kd.C (Kd.int .u32) w (some ad) l.length l) (hm : m ≤ l.length) : ∀ j v, (nums .u32 (l.take m))[j]? = some v → w.cell? (ad.add j) = some v := by
  intro j v hj
  obtain ⟨-, -, h5⟩ := Kd.reads_of_C (d := (0 : Int)) h
  simp only [nums, List.getElem?_map, Option.map_eq_some_iff] at hj
  obtain ⟨x, hx, rfl⟩ := hj
  have hlt := (List.getElem?_eq_some_iff.mp hx).1
  rw [List.length_take] at hlt
  obtain ⟨ad2, e, h6⟩ := h5 (by omega)
  injection e with e
  subst e
  rw [h6 j (by omega)]
  rw [List.getElem?_take_of_lt (by omega)] at hx
  simp [List.getD, hx]
theorem made_copied {w : World} {base g n c : Nat} {ok : Nat → Prop} {zs xs : List Int} (h : Kd.R (Kd.int .u32) 68 w base ok (.slice (some ⟨g, 0, none⟩) n c) zs) (hx : xs.length = n) {cur : Array Value} (hc : w.heap[g]? = some (.cells cur 68 (0, 0))) :
    Kd.R (Kd.int .u32) 68 (w.setRow g (cur.toList.take 0 ++ (nums .u32 xs ++ cur.toList.drop (0 + (nums .u32 xs).length))).toArray) base ok (.slice (some ⟨g, 0, none⟩) n c) xs := by
  obtain ⟨cur2, hc2, h1, h2, h3, -, h4⟩ := own_open h
  rw [hc] at hc2
  injection hc2 with hc2
  injection hc2 with hc2
  subst hc2
  subst hx
  have hl : (nums .u32 xs).length = xs.length := nums_length _ _
  refine Kd.R_of_own ⟨by simp [encs], .inr ⟨g, c, _, rfl, h4, setRow_heap w g cur _ _ _ hc, h1, h2, ?_, ?_⟩⟩ (fun k hk => h.1 k hk)
  · simp [hl]; omega
  · simp [hl, encs, nums]
theorem made_box {w0 w : World} {T : TypeId} {cs : Array Value} {a g : Nat} (h : St w0 w [(a, T, cs)]) (hg : a < g) (cs2 : Array Value) : St w0 (w.setRow g cs2) [(a, T, cs)] := by
  obtain ⟨h1, h2, h3⟩ := h.box _ (List.mem_singleton.mpr rfl)
  refine ⟨below_setRow h.below (by have : w0.heap.size ≤ a := h1; omega) cs2, fun p hp => ?_⟩
  have := List.mem_singleton.mp hp
  subst this
  exact ⟨h1, h2, (setRow_other w g a cs2 (by omega)).trans h3⟩
theorem made_apart {w0 w : World} {T : TypeId} {cs cur : Array Value} {g : Nat} (h : St w0 w [(w0.heap.size, T, cs)]) (hg : w0.heap.size ≤ g) (hc : w.heap[g]? = some (.cells cur 68 (0, 0))) : w0.heap.size < g := by
  obtain ⟨-, h2, h1⟩ := h.box _ (List.mem_singleton.mpr rfl)
  rcases Nat.lt_or_eq_of_le hg with h | h
  · exact h
  · have h1 : w.heap[w0.heap.size]? = some (.cells cs T (0, 0)) := h1
    rw [h, hc] at h1
    injection h1 with h3
    injection h3 with h3 h4
    exact absurd h4.symm h2
theorem made_far {w : World} {base g n c B : Nat} {xs : List Int} (h : Kd.R (Kd.int .u32) 68 w base (fun k => some k = (Value.slice (some ⟨g, 0, none⟩) n c).ownBlock) (.slice (some ⟨g, 0, none⟩) n c) xs) (hg : B < g) (u1 u2 : Value) :
    Kd.R (Kd.int .u32) 68 ((w.setCell ⟨B, 0, none⟩ u1).setCell ⟨B, 1, none⟩ u2) base (fun k => some k = (Value.slice (some ⟨g, 0, none⟩) n c).ownBlock) (.slice (some ⟨g, 0, none⟩) n c) xs := by
  have hne : ∀ k, some k = (Value.slice (some ⟨g, 0, none⟩) n c).ownBlock → k ≠ B := by
    intro k hk
    injection hk with hk
    have hk : k = g := hk
    omega
  exact Kd.R_far (p := ⟨B, 1, none⟩) (Kd.R_far (p := ⟨B, 0, none⟩) h hne u1) hne u2
set_option maxHeartbeats 8000000 in
set_option maxRecDepth 100000 in
theorem zint_made.sem (neg : Bool) (v : Value) (l : List Int) (w : World) (hv : Rd w v l) (ol : Ok l) (hl : l.length ≤ 70368744177664) :
    Calls Try.prog 69 #[.bool neg, v] w fun e w' => ∃ v', e = .returned (.agg #[.bool (sg neg (val l)), v']) ∧ Kd.R (Kd.int .u32) 68 w' w.heap.size (fun _ => True) v' (lm (val l)) ∧ Below w.heap.size w w' := by
  obtain ⟨A, c, rfl, hc, hC⟩ := hv
  have C := Aside0.mk hC
  have OL := Aside0.mk ol
  have HL := Aside0.mk hl
  clear hC ol hl
  go_enter Try.func69, Try.ntmps69
  go_wp2
  go_loopw [5] (fun v5 wr => ∃ n : Nat, v5 = .int .i64 n ∧ Aside0 (n ≤ l.length ∧ trim (l.take n) = trim l) ∧ Aside0 (St w wr [(w.heap.size, 25, #[.bool false, .slice none 0 0])]) ∧ Aside0 (Kd.C (Kd.int .u32) wr A l.length l)) (fun v5 _ => (intOf v5).toNat)
  case atStart => exact ⟨l.length, rfl, ⟨Nat.le_refl _, by rw [List.take_of_length_le (Nat.le_refl _)]⟩, ⟨(St.start w).alloc _ (by decide) _⟩, ⟨Kd.C_alloc C.out _⟩⟩
  case round =>
    clear C
    obtain ⟨n, rfl, N, S, C⟩ := hrel
    rcases n with _ | n
    · obtain ⟨c0, c1, f0, f1⟩ := S.out.box2 (List.mem_singleton.mpr rfl)
      go_wp2
      have S2 := ((S.out.set 0 _ rfl (fun j q hj hq => by simp [hj] at hq) 0 (.bool false)).set 0 _ rfl (fun j q hj hq => by simp [hj] at hq) 1 (.slice none 0 0))
      refine bodyPost_ret (results_cell_row rfl _ _ w.heap.size 25 #[.bool false, .slice none 0 0] (0, 0) _ rfl (S2.box _ (List.mem_singleton.mpr rfl)).2.2 Try.underlying25 rfl (by kernel_rfl)) rfl ?_
      have hz : val l = 0 := by rw [← trim_val, ← N.out.2, List.take_zero, trim_val, val_nil]
      rw [hz, lm_zero]
      exact ⟨.slice none 0 0, by simp [sg], Kd.R_nil _ _ _ _ _, S2.below⟩
    · obtain ⟨m, hm⟩ : ∃ m, m = n + 1 := ⟨_, rfl⟩
      rw [← hm] at N ⊢
      obtain ⟨d1, d2⟩ := made_dec (n := n) (m := m) hm (by have := N.out.1; have := HL.out; omega)
      have t1 : (0 ≤ (n : Int)) = True := eq_true (by omega)
      have t2 : ((n : Int) < (l.length : Int)) = True := eq_true (by have := N.out.1; omega)
      have t3 : (0 < m) = True := eq_true (by omega)
      have t4 : ((m : Int) == 0) = false := beq_eq_false_iff_ne.mpr (by omega)
      obtain ⟨ad, rfl, hx⟩ := Kd.at_int C.out (n : Int) (by omega) (by have := N.out.1; omega)
      rw [rd_getD, Int.toNat_natCast] at hx
      have M := Aside0.mk hm
      clear hm
      obtain ⟨x, hxd⟩ : ∃ x, x = l.getD n 0 := ⟨_, rfl⟩
      rw [← hxd] at hx
      have X := Aside0.mk hxd
      clear hxd
      by_cases hz : x = 0
      · have z1 : (x == 0) = true := beq_iff_eq.mpr hz
        have Z := Aside0.mk hz
        clear hz
        go_wp2
        go_roundw
        case rel => exact ⟨n, rfl, ⟨by have := N.out.1; have := M.out; omega, made_less (by have := N.out.1; have := M.out; omega) (by rw [← X.out]; exact Z.out) (by rw [← M.out]; exact N.out.2)⟩, S, C⟩
        case measure => have := M.out; simp [intOf]; omega
      · have z1 : (x == 0) = false := beq_eq_false_iff_ne.mpr hz
        have TR := Aside0.mk (made_stop (l := l) (n := n) (by have := N.out.1; have := M.out; omega) (by rw [← X.out]; exact hz) (by rw [← M.out]; exact N.out.2))
        clear hz
        have LT := Aside0.mk (show (l.take m).length = m by rw [List.length_take]; have := N.out.1; omega)
        have ML := Aside0.mk (show (m : Int).toNat * 4 ≤ 281474976710656 by have := HL.out; have := N.out.1; rw [Int.toNat_natCast]; omega)
        go_wp2_with (first
          | ((with_reducible refine gate_dst (N := 25) rfl ?_); refine Kd.R_make (Kd.int .u32) w.heap.size 68 rfl (N := 25) rfl 23 _ _ rfl (m : Int) rfl rfl Try.underlying23 (.int .u32 0) 4 info68 rfl (by decide) (by omega) 0 (ok := fun _ => True) (okp := fun _ => True) rfl (fun _ hk => hk) trivial (Int.natCast_nonneg _) ML.out S.out.below S.out.below.size ?_; intro v10 u9 ho6 hb hg_ hnew_; rw [Int.toNat_natCast] at ho6; have n0_ := Aside0.mk (S.out.call (Below.of_grown hg_)); have RQ := Aside0.mk ho6; have n1_ := Aside0.mk (Kd.C_below C.out (Below.of_grown hg_)); clear S C hx; have S := n0_; have C := n1_; clear n0_ n1_ hb hg_ hnew_ ho6; obtain ⟨g, cap, e10, -, -, -⟩ := Kd.R_form RQ.out (by rw [List.length_replicate]; have := M.out; omega); rw [List.length_replicate] at e10; subst e10; obtain ⟨cur, hcur, hmc, hcx, hcs, -, hgb⟩ := own_open RQ.out; have HS := Aside0.mk (made_src (m := m) C.out N.out.1); have HC := Aside0.mk hcur; have HF := Aside0.mk (show 0 + (nums .u32 (l.take m)).length ≤ cur.size by simp [nums]; omega); have HN := Aside0.mk (show (nums .u32 (l.take m)).length = Nat.min l.length m by simp [nums]; exact Nat.min_comm _ _); have HG := Aside0.mk (made_apart S.out hgb hcur); clear hcur hmc hcx hcs hgb)
          | ((with_reducible refine gate_builtin (b := .copy) (xs := #[.tmp 26, .tmp 27]) rfl ?_); refine wpList_copy_own rfl (.tmp 26) (.tmp 27) 23 23 rfl 68 Try.underlying23 info1_68 g 0 m cap ad l.length c rfl rfl cur 68 HC.out (nums .u32 (l.take m)) HN.out HS.out HF.out (nums_one _ _) ?_; have n0_ := Aside0.mk (made_copied RQ.out LT.out HC.out); have n1_ := Aside0.mk (made_box S.out HG.out (cur.toList.take 0 ++ (nums .u32 (l.take m) ++ cur.toList.drop (0 + (nums .u32 (l.take m)).length))).toArray); clear S C RQ HC HS HF HN; have RQ := n0_; have S := n1_; clear n0_ n1_; generalize World.setRow _ _ _ = w2 at RQ S ⊢; obtain ⟨c0, c1, f0, f1⟩ := St.box2 S.out (g := w.heap.size) (t := 25) (x := .bool false) (y := .slice none 0 0) (List.mem_singleton.mpr rfl)))
        have S2 := ((S.out.set 0 _ rfl (fun j q hj hq => by simp [hj] at hq) 0 (.bool neg)).set 0 _ rfl (fun j q hj hq => by simp [hj] at hq) 1 (.slice (some ⟨g, 0, none⟩) m cap))
        refine bodyPost_ret (results_cell_row rfl _ _ w.heap.size 25 #[.bool neg, .slice (some ⟨g, 0, none⟩) m cap] (0, 0) _ rfl (S2.box _ (List.mem_singleton.mpr rfl)).2.2 Try.underlying25 rfl (by kernel_rfl)) rfl ?_
        have e : l.take m = lm (val l) := by rw [M.out, TR.out, trim_lm OL.out]
        have hz : val l ≠ 0 := by
          intro h0
          have h1 := LT.out
          rw [e, h0, lm_zero] at h1
          have := M.out
          simp at h1; omega
        have RF := Aside0.mk (made_far (Kd.R_tight rfl RQ.out) HG.out)
        rw [e] at RF
        refine ⟨.slice (some ⟨g, 0, none⟩) m cap, by simp [sg, hz], Kd.R_mono (RF.out _ _) (fun _ _ => trivial), S2.below⟩
end Go.Proofs.Ytmbmbmkmjbpcpaa.PA


/- The contracts of layer 1's functions, of the program and of the reference, as numbers: for magnitudes of at most 10000000 words. -/
namespace Go.Proofs.Ytmbmbmkmjbpcpaa.PA
open Go Go.Proofs.Ytmbmbmkmjbpcpaa.Nums Go.RowKit Go.Proofs.YtmbmbmkmjbpcpaaW.PrintWords Go.Proofs.YtmbmbmkmjbpcpaaW.PrintLast Go.Proofs.YtmbmbmkmjbpcpaaW.PrintMore
set_option linter.unusedVariables false
/-- a slice of words that stands for the number x -/
def MagV (w : World) (v : Value) (x : Int) : Prop := ∃ l, Rd w v l ∧ Ok l ∧ l.length ≤ 10000000 ∧ val l = x
def MagI (w0 w : World) (v : Value) (x : Int) : Prop := ∃ l, RdI w0 w v l ∧ Ok l ∧ l.length ≤ 10000000 ∧ val l = x
/-- a call's end: the number x in a row of its own -/
def ResM (w : World) (x : Int) (e : Ending) (w' : World) : Prop := ∃ v, e = .returned v ∧ Kd.R (Kd.int .u32) 68 w' w.heap.size (fun _ => True) v (lm x) ∧ Below w.heap.size w w'
theorem MagI.now {w0 w : World} {v : Value} {x : Int} (h : MagI w0 w v x) : MagV w v x := by
  obtain ⟨l, h1, h2⟩ := h
  exact ⟨l, h1.now, h2⟩
theorem MagI.keep {w0 w w' : World} {v : Value} {x : Int} (h : MagI w0 w v x) (k : Keeps w0 w w') : MagI w0 w' v x := by
  obtain ⟨l, h1, h2⟩ := h
  exact ⟨l, h1.keep k, h2⟩
theorem MagV.came {w : World} {v : Value} {x : Int} (h : MagV w v x) : MagI w w v x := by
  obtain ⟨l, h1, h2⟩ := h
  exact ⟨l, h1.came, h2⟩
theorem MagV.nonneg {w : World} {v : Value} {x : Int} (h : MagV w v x) : 0 ≤ x := by
  obtain ⟨l, -, h2, -, rfl⟩ := h
  exact val_nonneg h2
theorem MagV.of_row {w w' : World} {v : Value} {x : Int} (h : Kd.R (Kd.int .u32) 68 w' w.heap.size (fun _ => True) v (lm x)) (hx : 0 ≤ x) (hl : (lm x).length ≤ 10000000) : MagV w' v x := ⟨lm x, Rd.of_row h, lm_ok x, hl, lm_val hx⟩
theorem MagV.below {w w' : World} {v : Value} {x : Int} (h : MagV w v x) (hb : Below w.heap.size w w') : MagV w' v x := by
  obtain ⟨l, h1, h2⟩ := h
  exact ⟨l, h1.below hb, h2⟩
theorem Rd.nil (w : World) : Rd w (.slice none 0 0) [] := ⟨none, 0, rfl, Nat.le_refl _, Kd.C_nil _ _⟩
theorem MagV.nil (w : World) : MagV w (.slice none 0 0) 0 := ⟨[], Rd.nil w, ok_nil, by simp, val_nil⟩
theorem nat_Add.sem {w : World} {v1 v2 : Value} {x y : Int} (m1 : MagV w v1 x) (m2 : MagV w v2 y) : Calls Try.prog 70 #[v1, v2] w (ResM w (x + y)) := by
  obtain ⟨l1, ⟨A1, c1, rfl, h1, g1⟩, o1, b1, rfl⟩ := m1
  obtain ⟨l2, ⟨A2, c2, rfl, h2, g2⟩, o2, b2, rfl⟩ := m2
  obtain ⟨k, e⟩ := (add_f l1 l2 o1 o2 (by omega) (by omega)).rounds
  exact (nat_Add.calls k (fun k_ => k_ < w.heap.size) A1 c1 l1 (fun k_ => k_ < w.heap.size) A2 c2 l2 _ w (Kd.V_mk h1 (Kd.C_F (Kd.heap_int .u32) g1)) (Kd.V_mk h2 (Kd.C_F (Kd.heap_int .u32) g2)) e).mono fun e w' ⟨v, he, hr, hb⟩ => ⟨v, he, Kd.R_mono hr (fun _ _ => trivial), hb⟩
theorem nat_Mul.sem {w : World} {v1 v2 : Value} {x y : Int} (m1 : MagV w v1 x) (m2 : MagV w v2 y) : Calls Try.prog 77 #[v1, v2] w (ResM w (x * y)) := by
  obtain ⟨l1, ⟨A1, c1, rfl, h1, g1⟩, o1, b1, rfl⟩ := m1
  obtain ⟨l2, ⟨A2, c2, rfl, h2, g2⟩, o2, b2, rfl⟩ := m2
  obtain ⟨k, e⟩ := (mul_f l1 l2 o1 o2 (by omega)).rounds
  exact (nat_Mul.calls k A1 c1 l1 A2 c2 l2 _ w g1 h1 g2 h2 e).mono fun e w' ⟨v, he, hr, hb⟩ => ⟨v, he, Kd.R_mono hr (fun _ _ => trivial), hb⟩
theorem nat_Gcd.sem {w : World} {v1 v2 : Value} {x y : Int} (m1 : MagV w v1 x) (m2 : MagV w v2 y) : Calls Try.prog 93 #[v1, v2] w (ResM w (gcdI x y)) := by
  obtain ⟨l1, ⟨A1, c1, rfl, h1, g1⟩, o1, b1, rfl⟩ := m1
  obtain ⟨l2, ⟨A2, c2, rfl, h2, g2⟩, o2, b2, rfl⟩ := m2
  obtain ⟨k, e⟩ := (gcd_f l1 l2 o1 o2 (by omega) (by omega)).rounds
  exact (nat_Gcd.calls k A1 c1 l1 A2 c2 l2 _ w g1 h1 g2 h2 e).mono fun e w' ⟨v, he, hr, hb⟩ => ⟨v, he, Kd.R_mono hr (fun _ _ => trivial), hb⟩
theorem trammelref01_Add.sem {w : World} {v1 v2 : Value} {x y : Int} (m1 : MagV w v1 x) (m2 : MagV w v2 y) : Calls Try.prog 74 #[v1, v2] w (ResM w (x + y)) := by
  obtain ⟨l1, ⟨A1, c1, rfl, h1, g1⟩, o1, b1, rfl⟩ := m1
  obtain ⟨l2, ⟨A2, c2, rfl, h2, g2⟩, o2, b2, rfl⟩ := m2
  obtain ⟨k, e⟩ := (radd_f l1 l2 o1 o2 (by omega) (by omega)).rounds
  exact (trammelref01_Add.calls k A1 c1 l1 A2 c2 l2 _ w g1 h1 g2 h2 e).mono fun e w' ⟨v, he, hr, hb⟩ => ⟨v, he, Kd.R_mono hr (fun _ _ => trivial), hb⟩
theorem nat_Cmp.sem {w : World} {v1 v2 : Value} {x y : Int} (m1 : MagV w v1 x) (m2 : MagV w v2 y) : Calls Try.prog 71 #[v1, v2] w fun e w' => e = .returned (.int .i64 (cmp x y)) ∧ Below w.heap.size w w' := by
  obtain ⟨l1, ⟨A1, c1, rfl, h1, g1⟩, o1, b1, rfl⟩ := m1
  obtain ⟨l2, ⟨A2, c2, rfl, h2, g2⟩, o2, b2, rfl⟩ := m2
  obtain ⟨k, e⟩ := (cmp_f l1 l2 o1 o2 (by omega) (by omega)).rounds
  exact (nat_Cmp.calls k A1 c1 l1 A2 c2 l2 _ w g1 h1 g2 h2 e).mono fun e w' ⟨he, hb⟩ => ⟨he, hb⟩
theorem trammelref01_Cmp.sem {w : World} {v1 v2 : Value} {x y : Int} (m1 : MagV w v1 x) (m2 : MagV w v2 y) : Calls Try.prog 75 #[v1, v2] w fun e w' => e = .returned (.int .i64 (cmp x y)) ∧ Below w.heap.size w w' := by
  obtain ⟨l1, ⟨A1, c1, rfl, h1, g1⟩, o1, b1, rfl⟩ := m1
  obtain ⟨l2, ⟨A2, c2, rfl, h2, g2⟩, o2, b2, rfl⟩ := m2
  obtain ⟨k, e⟩ := (rcmp_f l1 l2 o1 o2 (by omega) (by omega)).rounds
  exact (trammelref01_Cmp.calls k A1 c1 l1 A2 c2 l2 _ w g1 h1 g2 h2 e).mono fun e w' ⟨he, hb⟩ => ⟨he, hb.below⟩
theorem nat_Sub.sem {w : World} {v1 v2 : Value} {x y : Int} (m1 : MagV w v1 x) (m2 : MagV w v2 y) (hxy : y ≤ x) : Calls Try.prog 72 #[v1, v2] w fun e w' => ∃ v, e = .returned (.tuple #[v, .int .i64 0]) ∧ Kd.R (Kd.int .u32) 68 w' w.heap.size (fun _ => True) v (lm (x - y)) ∧ Below w.heap.size w w' := by
  obtain ⟨l1, ⟨A1, c1, rfl, h1, g1⟩, o1, b1, rfl⟩ := m1
  obtain ⟨l2, ⟨A2, c2, rfl, h2, g2⟩, o2, b2, rfl⟩ := m2
  obtain ⟨k, e⟩ := (sub_f l1 l2 o1 o2 (by omega) (by omega)).rounds
  rw [if_neg (by omega)] at e
  exact nat_Sub.calls k A1 c1 l1 A2 c2 l2 _ _ w g1 h1 g2 h2 e
theorem trammelref01_Sub.sem {w : World} {v1 v2 : Value} {x y : Int} (m1 : MagV w v1 x) (m2 : MagV w v2 y) (hxy : y ≤ x) : Calls Try.prog 76 #[v1, v2] w fun e w' => ∃ v, e = .returned (.tuple #[v, .int .i64 0]) ∧ Kd.R (Kd.int .u32) 68 w' w.heap.size (fun _ => True) v (lm (x - y)) ∧ Below w.heap.size w w' := by
  obtain ⟨l1, ⟨A1, c1, rfl, h1, g1⟩, o1, b1, rfl⟩ := m1
  obtain ⟨l2, ⟨A2, c2, rfl, h2, g2⟩, o2, b2, rfl⟩ := m2
  obtain ⟨k, e⟩ := (rsub_f l1 l2 o1 o2 (by omega) (by omega)).rounds
  rw [if_neg (by omega)] at e
  exact trammelref01_Sub.calls k A1 c1 l1 A2 c2 l2 _ _ w g1 h1 g2 h2 e
theorem nat_Bits.sem {w : World} {v1 : Value} {x : Int} (m1 : MagV w v1 x) : Calls Try.prog 81 #[v1] w fun e w' => e = .returned (.int .i64 ((bl x.toNat : Nat) : Int)) ∧ Below w.heap.size w w' := by
  obtain ⟨l1, ⟨A1, c1, rfl, h1, g1⟩, o1, b1, rfl⟩ := m1
  obtain ⟨k, e⟩ := (bits_f l1 o1 (by omega)).rounds
  exact (nat_Bits.calls k A1 c1 l1 _ w g1 h1 e).mono fun e w' ⟨he, hb⟩ => ⟨he, hb⟩
theorem nat_Div.sem {w : World} {v1 v2 : Value} {x y : Int} (m1 : MagV w v1 x) (m2 : MagV w v2 y) : Calls Try.prog 89 #[v1, v2] w fun e w' => ∃ v u, e = .returned (.tuple #[v, u, .int .i64 (if y = 0 then 11 else 0)]) ∧ Kd.R (Kd.int .u32) 68 w' w.heap.size (fun _ => True) v (lm (if y = 0 then 0 else x / y)) ∧ Kd.R (Kd.int .u32) 68 w' w.heap.size (fun _ => True) u (lm (if y = 0 then 0 else x % y)) ∧ Below w.heap.size w w' := by
  obtain ⟨l1, ⟨A1, c1, rfl, h1, g1⟩, o1, b1, rfl⟩ := m1
  obtain ⟨l2, ⟨A2, c2, rfl, h2, g2⟩, o2, b2, rfl⟩ := m2
  obtain ⟨k, e⟩ := (div_f l1 l2 o1 o2 (by omega) (by omega)).rounds
  have er : divR l1 l2 = (lm (if val l2 = 0 then 0 else val l1 / val l2), lm (if val l2 = 0 then 0 else val l1 % val l2), if val l2 = 0 then 11 else 0) := by
    unfold divR
    split <;> simp [lm_zero]
  rw [er] at e
  exact (nat_Div.calls k A1 c1 l1 A2 c2 l2 _ _ _ w g1 h1 g2 h2 e).mono fun e w' ⟨v, u, he, hr, hs, hb⟩ => ⟨v, u, he, Kd.R_mono hr (fun _ _ => trivial), Kd.R_mono hs (fun _ _ => trivial), hb⟩
theorem nat_Text.sem {w : World} {v1 : Value} {x : Int} (m1 : MagV w v1 x) : Calls Try.prog 82 #[v1] w fun e w' => e = .returned (.string (textOf x)) ∧ Below w.heap.size w w' := by
  obtain ⟨l1, ⟨A1, c1, rfl, h1, g1⟩, o1, b1, rfl⟩ := m1
  obtain ⟨k, e⟩ := (text_f l1 o1 (by omega)).rounds
  exact nat_Text.calls k A1 c1 l1 _ w g1 h1 e
theorem trammelref01_Norm.sem {w : World} {v1 : Value} {x : Int} (m1 : MagV w v1 x) : Calls Try.prog 80 #[v1] w (ResM w x) := by
  obtain ⟨l1, ⟨A1, c1, rfl, h1, g1⟩, o1, b1, rfl⟩ := m1
  obtain ⟨k, e⟩ := (rnorm_f l1 (by omega)).rounds
  rw [trim_lm o1] at e
  exact trammelref01_Norm.calls k A1 c1 l1 _ w g1 h1 e
end Go.Proofs.Ytmbmbmkmjbpcpaa.PA


/- Whole numbers with a sign in memory, and how a call hands one back; no program's code is named but zint.made's. -/
namespace Go.Proofs.Ytmbmbmkmjbpcpaa.PA
open Go Go.Proofs.Ytmbmbmkmjbpcpaa.Nums Go.RowKit Go.Proofs.YtmbmbmkmjbpcpaaW.PrintWords Go.Proofs.YtmbmbmkmjbpcpaaW.PrintLast Go.Proofs.YtmbmbmkmjbpcpaaW.PrintMore
set_option linter.unusedVariables false
/-- the sign and the limbs of the number z, whatever noughts stand at the end -/
def zof (b : Bool) (x : Int) : Int := if b then -x else x
/-- the limbs of z in its one form -/
def mg (z : Int) : List Int := lm (z.natAbs : Nat)
/-- a call's end: the number z in its one form, its limbs the call's own -/
def ResI (w : World) (z : Int) (e : Ending) (w' : World) : Prop := ∃ v, e = .returned (.agg #[.bool (decide (z < 0)), v]) ∧ Kd.R (Kd.int .u32) 68 w' w.heap.size (fun _ => True) v (mg z) ∧ Below w.heap.size w w'
theorem zof_abs {b : Bool} {x : Int} (h : 0 ≤ x) : ((zof b x).natAbs : Int) = x := by unfold zof; cases b <;> simp <;> omega
theorem zof_neg {b : Bool} {x : Int} (h : 0 ≤ x) : decide (zof b x < 0) = sg b x := by
  cases b with
  | false => show decide (x < 0) = (false && _); rw [Bool.false_and]; exact decide_eq_false (by omega)
  | true => show decide (-x < 0) = (true && decide (x ≠ 0)); rw [Bool.true_and]; exact decide_eq_decide.mpr (by omega)
theorem zof_self (z : Int) : zof (decide (z < 0)) (z.natAbs : Int) = z := by
  unfold zof
  by_cases h : z < 0
  · simp [h]; omega
  · simp [h]; omega
theorem zint_made.res {w : World} {b : Bool} {v : Value} {x : Int} (m : MagV w v x) : Calls Try.prog 69 #[.bool b, v] w (ResI w (zof b x)) := by
  obtain ⟨l, h, o, hl, rfl⟩ := m
  have hv := val_nonneg o
  exact (zint_made.sem b v l w h o (by omega)).mono fun e w' ⟨v', he, hr, hb⟩ => ⟨v', by rw [zof_neg hv]; exact he, by unfold mg; rw [zof_abs hv]; exact hr, hb⟩
end Go.Proofs.Ytmbmbmkmjbpcpaa.PA

