/- A region that draws its order, by what holds behind each operation whatever came ahead of it; no program's code is named. -/
import Derived.Orders
import Derived.Test.YtmbmbmkmjbpcpaaZNK
import Derived.Test.YtmbmbmkmjbpcpaaPAx0K
import Derived.OrdersHeld
namespace Go.Proofs.Ytmbmbmkmjbpcpaa.PA
open Go Go.Proofs.Ytmbmbmkmjbpcpaa.Nums Go.RowKit Go.Proofs.YtmbmbmkmjbpcpaaW.PrintWords Go.Proofs.YtmbmbmkmjbpcpaaW.PrintLast Go.Proofs.YtmbmbmkmjbpcpaaW.PrintMore
set_option linter.unusedVariables false
section
variable {P : Program} {ops : Array Oper} {Q : Exit → Act → World → Prop}
/-- operation i is listed -/
def Ls (l : Array Bool) (i : Nat) : Prop := l.getD i false = true
theorem Ls.old {l : Array Bool} {i j : Nat} (h : Ls (l.setIfInBounds i true) j) (hne : i ≠ j) : Ls l j := by
  unfold Ls at *
  rw [Go.getD_set_ne false hne] at h
  exact h
/-- how many are not listed -/
def unl (l : Array Bool) : Nat := (l.toList.filter (fun b => !b)).length
theorem unl_set {l : Array Bool} {i : Nat} (h : l.getD i true = false) : unl (l.setIfInBounds i true) + 1 = unl l := by
  have hi : i < l.size := by
    rcases Nat.lt_or_ge i l.size with h1 | h1
    · exact h1
    · simp [Array.getElem?_eq_none h1] at h
  have hv : l.toList[i]? = some false := by
    rw [Array.getElem?_toList]
    rw [Array.getElem?_eq_getElem hi]
    simp [hi] at h
    rw [h]
  unfold unl
  rw [Array.toList_setIfInBounds]
  generalize l.toList = L at hv
  induction L generalizing i with
  | nil => simp at hv
  | cons b L ih =>
    cases i with
    | zero =>
      simp at hv
      subst hv
      simp
    | succ i =>
      have hv2 : L[i]? = some false := by simpa using hv
      have key : ∀ (L : List Bool) (i : Nat), L[i]? = some false → ((L.set i true).filter (fun b => !b)).length + 1 = (L.filter (fun b => !b)).length := by
        intro L
        induction L with
        | nil => intro i h; simp at h
        | cons c L ih2 =>
          intro i h
          cases i with
          | zero => simp at h; subst h; simp
          | succ i =>
            have := ih2 i (by simpa using h)
            cases c <;> simp <;> omega
      have := key (b :: L) (i + 1) (by simpa using hv)
      exact this
theorem wpAny_inv (Inv : Array Bool → Act → World → Prop)
    (hstep : ∀ l a w, Inv l a w → ∀ i ∈ Region.ready .any ops l, wpOp P ops Q i (fun a' w' => Inv (l.setIfInBounds i true) a' w') a w)
    (hfin : ∀ l a w, Region.ready .any ops l = [] → Inv l a w → Q .normal a w) :
    ∀ fuel l a w, unl l ≤ fuel → Inv l a w → wpAny P .any ops Q fuel l a w := by
  intro fuel
  induction fuel with
  | zero =>
    intro l a w hu h
    have hr : Region.ready .any ops l = [] := by
      cases hr : Region.ready .any ops l with
      | nil => rfl
      | cons i r =>
        have hi : i ∈ Region.ready .any ops l := by rw [hr]; exact List.mem_cons_self
        have := unl_set (mem_ready.1 hi).1
        omega
    exact ⟨hr, hfin l a w hr h⟩
  | succ fuel ih =>
    intro l a w hu h
    refine ⟨fun hr => hfin l a w hr h, fun i hi => ?_⟩
    have h1 := unl_set (mem_ready.1 hi).1
    exact wpOp_mono (fun a' w' h' => ih _ a' w' (by omega) h') (hstep l a w h i hi)
theorem unl_start (n : Nat) : unl (Array.replicate n false) ≤ n := by
  unfold unl
  rw [Array.toList_replicate]
  have := List.length_filter_le (fun b => !b) (List.replicate n false)
  rw [List.length_replicate] at this
  exact this
theorem op_plain {i : Nat} {o : Oper} (ho : ops[i]? = some o) {K : Act → World → Prop} {a : Act} {w : World} (hg : o.guard = none) (h : o.wp P a w K Q) : wpOp P ops Q i K a w := by
  unfold Go.wpOp
  rw [ho]
  simp only [Region.wanted, hg, if_true]
  exact .inl h
theorem op_call {o : Oper} {K : Act → World → Prop} {a : Act} {w : World} {f : FuncId} {fn : Func} {xs : Array Operand} {ts : Array TypeId} (hop : o.op = .call { callee := .value (.func f), args := xs, argTypes := ts }) (hf : P.funcs[f]? = some fn) (hname : (fn.name == "runtime.NumGoroutine") = false) (hb : fn.body.isSome = true)
    (args : Array Value) (hargs : xs.map a.eval = args) (h : Calls P f args w fun e w' => ∃ v, e = .returned v ∧ K (a.put o.dst v) w') : o.wp P a w K Q := by
  have he := enters_ hf hname hb args w
  have hrun : (execOp a.eval o).run P w = .ok (.enter f args) w := by
    unfold execOp
    simp [hop, resolve, Deferred.ofValue, invoke, Act.eval, hargs, he]
  unfold Oper.wp
  rw [hrun, Oper.upon_enter]
  refine h.mono fun e w'' hh => ?_
  obtain ⟨v, rfl, hk⟩ := hh
  exact hk
end
/-- one of the call's own boxes -/
def Bx (w0 w : World) (g : Nat) (t : TypeId) (cs : Array Value) : Prop := w0.heap.size ≤ g ∧ t ≠ 68 ∧ w.heap[g]? = some (.cells cs t (0, 0))
theorem Bx.lt {w0 w : World} {g : Nat} {t : TypeId} {cs : Array Value} (h : Bx w0 w g t cs) : g < w.heap.size := blk_lt h.2.2
theorem Bx.below {w0 w w1 : World} {g : Nat} {t : TypeId} {cs : Array Value} (h : Bx w0 w g t cs) (hb : Below w.heap.size w w1) : Bx w0 w1 g t cs := ⟨h.1, h.2.1, (hb.block _ h.lt).trans h.2.2⟩
theorem Bx.far {w0 w : World} {g g2 : Nat} {t : TypeId} {cs : Array Value} (h : Bx w0 w g t cs) (hne : g ≠ g2) (j : Nat) (u : Value) : Bx w0 (w.setCell ⟨g2, j, none⟩ u) g t cs := ⟨h.1, h.2.1, blk_far h.2.2 hne u⟩
theorem Bx.set {w0 w : World} {g : Nat} {t : TypeId} {cs : Array Value} (h : Bx w0 w g t cs) (j : Nat) (u : Value) : Bx w0 (w.setCell ⟨g, j, none⟩ u) g t (cs.setIfInBounds j u) := ⟨h.1, h.2.1, blk_set h.2.2 j u⟩
theorem Bx.keeps {w0 w : World} {g : Nat} {t : TypeId} {cs : Array Value} (h : Bx w0 w g t cs) (j : Nat) (u : Value) : Keeps w0 w (w.setCell ⟨g, j, none⟩ u) := Keeps.set h.2.2 h.1 h.2.1 j u
theorem Bx.belowSet {w0 w : World} {g : Nat} {t : TypeId} {cs : Array Value} (h : Bx w0 w g t cs) (hb : Below w0.heap.size w0 w) (j : Nat) (u : Value) : Below w0.heap.size w0 (w.setCell ⟨g, j, none⟩ u) := below_set hb h.1
theorem Bx.two {w0 w : World} {g : Nat} {t : TypeId} {x y : Value} (h : Bx w0 w g t #[x, y]) : w.cell? ⟨g, 0, none⟩ = some x ∧ w.cell? ⟨g, 1, none⟩ = some y ∧ w.frozen? ⟨g, 0, none⟩ = false ∧ w.frozen? ⟨g, 1, none⟩ = false :=
  ⟨blk_cell h.2.2 0, blk_cell h.2.2 1, blk_frozen h.2.2 0, blk_frozen h.2.2 1⟩
theorem Bx.new {w0 w : World} (hb : Below w0.heap.size w0 w) (t : TypeId) (ht : t ≠ 68) (cs : Array Value) : Bx w0 (w.alloc (.cells cs t (0, 0))) w.heap.size t cs := ⟨hb.size, ht, blk_new w _⟩
/-- a whole number's struct is stored -/
def set2 (w : World) (g : Nat) (x y : Value) : World := (w.setCell ⟨g, 0, none⟩ x).setCell ⟨g, 1, none⟩ y
theorem Bx.put {w0 w : World} {g : Nat} {t : TypeId} {x y : Value} (h : Bx w0 w g t #[x, y]) (x2 y2 : Value) : Bx w0 (set2 w g x2 y2) g t #[x2, y2] := (h.set 0 x2).set 1 y2
theorem Bx.apart {w0 w : World} {g g2 : Nat} {t : TypeId} {cs : Array Value} (h : Bx w0 w g t cs) (hne : g ≠ g2) (x2 y2 : Value) : Bx w0 (set2 w g2 x2 y2) g t cs := (h.far hne 0 x2).far hne 1 y2
theorem Bx.keeps2 {w0 w : World} {g : Nat} {t : TypeId} {cs : Array Value} (h : Bx w0 w g t cs) (x2 y2 : Value) : Keeps w0 w (set2 w g x2 y2) := (h.keeps 0 x2).trans ((h.set 0 x2).keeps 1 y2)
theorem Bx.below2 {w0 w : World} {g : Nat} {t : TypeId} {cs : Array Value} (h : Bx w0 w g t cs) (hb : Below w0.heap.size w0 w) (x2 y2 : Value) : Below w0.heap.size w0 (set2 w g x2 y2) := (h.set 0 x2).belowSet (h.belowSet hb 0 x2) 1 y2
section
variable {P : Program} {ops : Array Oper} {Q : Exit → Act → World → Prop}
theorem ready_lt {md : Region.Mode} {l : Array Bool} {i : Nat} (h : i ∈ Region.ready md ops l) : i < ops.size := by
  unfold Region.ready at h
  have := (List.mem_filter.1 h).1
  exact List.mem_range.1 this
end
/-- what a call of layers 2 and 3 holds: magnitudes that it reads, its own boxes -/
structure Zs (w0 w : World) (ms : List (Value × Int)) (bs : List (Nat × TypeId × Array Value)) : Prop where
  below : Below w0.heap.size w0 w
  mag : ∀ p, p ∈ ms → MagI w0 w p.1 p.2
  box : ∀ p, p ∈ bs → Bx w0 w p.1 p.2.1 p.2.2
  apart : ∀ (i j : Nat) (p q : Nat × TypeId × Array Value), i ≠ j → bs[i]? = some p → bs[j]? = some q → q.1 ≠ p.1
theorem Zs.start (w : World) : Zs w w [] [] := ⟨Below.refl _ _, fun p h => (by cases h), fun p h => (by cases h), fun i j p q _ h _ => by simp at h⟩
section
variable {w0 w w' : World} {ms : List (Value × Int)} {bs : List (Nat × TypeId × Array Value)}
theorem Zs.came (h : Zs w0 w ms bs) {v : Value} {x : Int} (m : MagI w0 w v x) : Zs w0 w ((v, x) :: ms) bs :=
  ⟨h.below, fun p hp => (List.mem_cons.mp hp).elim (fun e => e ▸ m) (fun e => h.mag p e), h.box, h.apart⟩
theorem Zs.step (h : Zs w0 w ms bs) (hb : Below w.heap.size w w') : Zs w0 w' ms bs :=
  ⟨below_then h.below h.below.size hb, fun p hp => (h.mag p hp).keep (Keeps.of_below hb), fun p hp => (h.box p hp).below hb, h.apart⟩
theorem Zs.drew (h : Zs w0 w ms bs) : Zs w0 w.drew ms bs := h.step (below_drew (Below.refl _ _))
theorem Zs.get (h : Zs w0 w ms bs) (i : Nat) {v : Value} {x : Int} (e : ms[i]? = some (v, x)) : MagI w0 w v x := h.mag (v, x) (List.mem_of_getElem? e)
theorem Zs.bx (h : Zs w0 w ms bs) (i : Nat) {g : Nat} {t : TypeId} {cs : Array Value} (e : bs[i]? = some (g, t, cs)) : Bx w0 w g t cs := h.box (g, t, cs) (List.mem_of_getElem? e)
theorem Zs.alloc (h : Zs w0 w ms bs) (t : TypeId) (ht : t ≠ 68) (cs : Array Value) : Zs w0 (w.alloc (.cells cs t (0, 0))) ms ((w.heap.size, t, cs) :: bs) := by
  have h2 := h.step (below_alloc (Below.refl w.heap.size w) (.cells cs t (0, 0)))
  refine ⟨h2.below, h2.mag, fun p hp => ?_, fun i j p q hne hi hj => ?_⟩
  · rcases List.mem_cons.mp hp with e | e
    · rw [e]; exact Bx.new h.below t ht cs
    · exact h2.box p e
  · cases i with
    | zero =>
      cases j with
      | zero => exact absurd rfl hne
      | succ j =>
        simp at hi hj
        subst hi
        have := (h.bx j (g := q.1) (t := q.2.1) (cs := q.2.2) hj).lt
        exact Nat.ne_of_lt this
    | succ i =>
      cases j with
      | zero =>
        simp at hi hj
        subst hj
        have := (h.bx i (g := p.1) (t := p.2.1) (cs := p.2.2) hi).lt
        exact (Nat.ne_of_lt this).symm
      | succ j => exact h.apart i j p q (by omega) (by simpa using hi) (by simpa using hj)
theorem Zs.put (h : Zs w0 w ms bs) (i : Nat) {g : Nat} {t : TypeId} {x y : Value} (e : bs[i]? = some (g, t, #[x, y])) (x2 y2 : Value) :
    Zs w0 (set2 w g x2 y2) ms (bs.set i (g, t, #[x2, y2])) := by
  have hb := h.bx i e
  have hget : ∀ (n : Nat) (q : Nat × TypeId × Array Value), (bs.set i (g, t, #[x2, y2]))[n]? = some q → ∃ r : Nat × TypeId × Array Value, bs[n]? = some r ∧ r.1 = q.1 := by
    intro n q hn
    by_cases e2 : i = n
    · subst e2
      rw [List.getElem?_set_self (List.getElem?_eq_some_iff.mp e).1] at hn
      injection hn with hn
      subst hn
      exact ⟨_, e, rfl⟩
    · rw [List.getElem?_set_ne e2] at hn
      exact ⟨q, hn, rfl⟩
  refine ⟨hb.below2 h.below x2 y2, fun p hp => (h.mag p hp).keep (hb.keeps2 x2 y2), fun q hq => ?_, fun n m p q hne hn hm => ?_⟩
  · obtain ⟨n, hn⟩ := List.getElem?_of_mem hq
    by_cases e2 : n = i
    · subst e2
      rw [List.getElem?_set_self (List.getElem?_eq_some_iff.mp e).1] at hn
      injection hn with hn
      subst hn
      exact hb.put x2 y2
    · rw [List.getElem?_set_ne (Ne.symm e2)] at hn
      exact (h.box q (List.mem_of_getElem? hn)).apart (h.apart i n _ q (Ne.symm e2) e hn) x2 y2
  · obtain ⟨r1, h1, e1⟩ := hget n p hn
    obtain ⟨r2, h2, e2⟩ := hget m q hm
    rw [← e1, ← e2]
    exact h.apart n m r1 r2 hne h1 h2
end
end Go.Proofs.Ytmbmbmkmjbpcpaa.PA


/- A region that draws its order and ends in operations that wait for all the others: its first part in whatever order, then the rest as it stands; no program's code is named. -/
namespace Go.Proofs.Ytmbmbmkmjbpcpaa.PA
open Go
set_option linter.unusedVariables false
/-- what operation i waits for -/
def waits (ops : List Oper) (i : Nat) : List Nat :=
  match ops[i]? with
  | none => []
  | some o => (o.after.toList.filter (fun e => Region.binds .any e)).map (·.on)
def clo (ops : List Oper) : Nat → List Nat → List Nat
  | 0, s => s
  | j + 1, s => clo ops j (if s.contains j then s ++ (waits ops j).filter (fun x => !s.contains x) else s)
/-- operation i waits for all ahead of it -/
def forced (ops : List Oper) (i : Nat) : Bool := (List.range i).all fun j => (clo ops i (waits ops i)).contains j
def early (n : Nat) (o : Oper) : Bool :=
  (match o.guard with
  | none => true
  | some (j, _) => decide (j < n))
/-- from N on each waits for all ahead of it; edges go back -/
def tailOk (ops : List Oper) (N : Nat) : Bool :=
  ((List.range ops.length).all fun i => ((waits ops i).all fun j => decide (j < i)) && (decide (i < N) || forced ops i)) && (ops.take N).all (early N)
section
variable {P : Program} {Q : Exit → Act → World → Prop}
/-- what is left behind the first part -/
def Tl (P : Program) (ops : Array Oper) (Q : Exit → Act → World → Prop) (tail : List Oper) : Exit → Act → World → Prop := fun e a w =>
  match e with
  | .normal => wpList P ops Q tail a w
  | .exit i => Q (.exit i) a w
  | .goto i => Q (.goto i) a w
  | .ret => Q .ret a w
  | .panic c => Q (.panic c) a w
  | .outgrown => Q .outgrown a w
theorem Tl.mk {ops : Array Oper} {tail : List Oper} {a : Act} {w : World} (h : wpList P ops Q tail a w) : Tl P ops Q tail .normal a w := h
/-- what is listed was free to come -/
def Down (ops : List Oper) (l : Array Bool) : Prop := ∀ j, Ls l j → ∀ x, x ∈ waits ops j → Ls l x
theorem clo_ls {ops : List Oper} {l : Array Bool} (hd : Down ops l) : ∀ (n : Nat) (s : List Nat), (∀ x, x ∈ s → Ls l x) → ∀ x, x ∈ clo ops n s → Ls l x := by
  intro n
  induction n with
  | zero => exact fun s h => h
  | succ n ih =>
    intro s h
    refine ih _ ?_
    intro x hx
    by_cases hc : s.contains n = true
    · rw [if_pos hc] at hx
      rcases List.mem_append.mp hx with hx | hx
      · exact h x hx
      · exact hd n (h n (by simpa using hc)) x (List.mem_filter.mp hx).1
    · rw [if_neg hc] at hx
      exact h x hx
theorem waits_ready {ops : List Oper} {l : Array Bool} {i : Nat} (h : i ∈ Region.ready .any ops.toArray l) : ∀ x, x ∈ waits ops i → Ls l x := by
  obtain ⟨-, o, ho, h2⟩ := mem_ready.1 h
  have ho2 : ops[i]? = some o := by simpa using ho
  intro x hx
  unfold waits at hx
  rw [ho2] at hx
  obtain ⟨e, he, rfl⟩ := List.mem_map.mp hx
  have he2 := List.mem_filter.mp he
  exact h2 e (by simpa using he2.1) he2.2
theorem forced_ls {ops : List Oper} {l : Array Bool} {i : Nat} (hd : Down ops l) (hf : forced ops i = true) (h : i ∈ Region.ready .any ops.toArray l) : ∀ j, j < i → Ls l j := by
  intro j hj
  have h1 := List.all_eq_true.mp hf j (List.mem_range.mpr hj)
  exact clo_ls hd i _ (waits_ready h) j (by simpa using h1)
theorem Down.set {ops : List Oper} {l : Array Bool} {i : Nat} (hd : Down ops l) (h : i ∈ Region.ready .any ops.toArray l) : Down ops (l.setIfInBounds i true) := by
  intro j hj x hx
  have keep : ∀ x, Ls l x → Ls (l.setIfInBounds i true) x := by
    intro x h
    by_cases e : i = x
    · subst e
      unfold Ls at *
      have hi : i < l.size := by
        rcases Nat.lt_or_ge i l.size with h1 | h1
        · exact h1
        · simp [Array.getElem?_eq_none h1] at h
      simp [hi]
    · unfold Ls at *
      rw [Go.getD_set_ne false e]
      exact h
  by_cases e : i = j
  · subst e
    exact keep x (waits_ready h x hx)
  · exact keep x (hd j (Ls.old hj e) x hx)
theorem wp_tl {o : Oper} {ops : Array Oper} {tail : List Oper} {K : Act → World → Prop} {a : Act} {w : World} (h : o.wp P a w K (Tl P ops Q tail)) : o.wp P a w K Q := by
  unfold Oper.wp at *
  generalize (execOp a.eval o).run P w = r at *
  cases r with
  | ok n w' => cases n <;> exact h
  | halt x w' => cases x <;> exact h
theorem wpOp_tl {pre tail : List Oper} {i : Nat} {K : Act → World → Prop} {a : Act} {w : World} (hi : i < pre.length) (hg : pre.all (early pre.length) = true) (h : wpOp P pre.toArray (Tl P (pre ++ tail).toArray Q tail) i K a w) : wpOp P (pre ++ tail).toArray Q i K a w := by
  have e1 : pre.toArray[i]? = some pre[i] := by simp [hi]
  have e2 : (pre ++ tail).toArray[i]? = some pre[i] := by simp [List.getElem?_append_left hi, hi]
  unfold Go.wpOp at *
  rw [e1] at h
  rw [e2]
  simp only at h ⊢
  have hy : Region.wanted pre[i] (yielded (pre ++ tail).toArray a.tmps) = Region.wanted pre[i] (yielded pre.toArray a.tmps) := by
    have h1 := List.all_eq_true.mp hg pre[i] (List.getElem_mem hi)
    unfold early at h1
    unfold Region.wanted
    cases hgu : pre[i].guard with
    | none => rfl
    | some p =>
      obtain ⟨j, b⟩ := p
      rw [hgu] at h1
      have hj : j < pre.length := by simpa using h1
      simp only [yielded]
      have e3 : (pre ++ tail).toArray[j]? = pre.toArray[j]? := by simp [List.getElem?_append_left hj]
      rw [e3]
  rw [hy]
  split
  · rename_i hw
    rw [if_pos hw] at h
    rcases h with h | ⟨h1, h2⟩
    · exact .inl (wp_tl h)
    · exact .inr ⟨h1, h2⟩
  · rename_i hw
    rw [if_neg hw] at h
    exact h
theorem none_ready2 {ops : List Oper} {l : Array Bool} (h : Region.ready .any ops.toArray l = []) (hacy : ∀ i, i < ops.length → ∀ j, j ∈ waits ops i → j < i) (hl : l.size = ops.length) : ∀ i, i < ops.length → Ls l i := by
  intro i
  induction i using Nat.strongRecOn with
  | ind i ih =>
    intro hi
    cases hb : l.getD i true with
    | true =>
      have : i < l.size := by omega
      unfold Ls
      simp [this] at hb ⊢
      exact hb
    | false =>
      have ho : ops.toArray[i]? = some ops[i] := by simp [hi]
      have hm : i ∈ Region.ready .any ops.toArray l := by
        refine mem_ready.2 ⟨hb, ops[i], ho, fun e he hbi => ?_⟩
        have hx : e.on ∈ waits ops i := by
          unfold waits
          rw [show ops[i]? = some ops[i] by simp [hi]]
          exact List.mem_map.mpr ⟨e, List.mem_filter.mpr ⟨by simpa using he, hbi⟩, rfl⟩
        have hlt := hacy i hi _ hx
        exact ih _ hlt (by omega)
      rw [h] at hm
      cases hm
theorem wpAny_tail {pre tail : List Oper} (hok : tailOk (pre ++ tail) pre.length = true) {a : Act} {w : World}
    (h : wpAny P .any pre.toArray (Tl P (pre ++ tail).toArray Q tail) pre.length (Array.replicate pre.length false) a w) :
    wpAny P .any (pre ++ tail).toArray Q (pre ++ tail).length (Array.replicate (pre ++ tail).length false) a w := by
  unfold tailOk at hok
  rw [Bool.and_eq_true] at hok
  obtain ⟨hok, hg⟩ := hok
  rw [List.take_left] at hg
  have hacy : ∀ i, i < (pre ++ tail).length → ∀ j, j ∈ waits (pre ++ tail) i → j < i := by
    intro i hi j hj
    have h1 := List.all_eq_true.mp hok i (List.mem_range.mpr hi)
    rw [Bool.and_eq_true] at h1
    simpa using List.all_eq_true.mp h1.1 j hj
  have hfo : ∀ i, pre.length ≤ i → i < (pre ++ tail).length → forced (pre ++ tail) i = true := by
    intro i hN hi
    have h1 := List.all_eq_true.mp hok i (List.mem_range.mpr hi)
    rw [Bool.and_eq_true, Bool.or_eq_true] at h1
    rcases h1.2 with h2 | h2
    · exact absurd (of_decide_eq_true h2) (by omega)
    · exact h2
  have hlen : (pre ++ tail).length = pre.length + tail.length := List.length_append
  let R (k : Nat) : Act → World → Prop := wpOps P (pre ++ tail).toArray Q (List.range' k ((pre ++ tail).length - k))
  have hR : ∀ a w, wpList P (pre ++ tail).toArray Q tail a w → R pre.length a w := by
    intro a w h
    have e : wpOps P (pre ++ tail).toArray Q (List.range' pre.length tail.length) = wpList P (pre ++ tail).toArray Q tail :=
      wpOps_eq_wpList tail pre.length (fun j => by simp [List.getElem?_append_right])
    show wpOps P (pre ++ tail).toArray Q (List.range' pre.length ((pre ++ tail).length - pre.length)) a w
    rw [hlen, Nat.add_sub_cancel_left, e]
    exact h
  let Inv : Array Bool → Act → World → Prop := fun l a w => l.size = (pre ++ tail).length ∧ Down (pre ++ tail) l ∧
    ((∃ fuel l', l'.size = pre.length ∧ (∀ j, j < pre.length → l'[j]? = l[j]?) ∧ (∀ j, pre.length ≤ j → ¬ Ls l j) ∧ wpAny P .any pre.toArray (Tl P (pre ++ tail).toArray Q tail) fuel l' a w) ∨
    (∃ k, pre.length ≤ k ∧ k ≤ (pre ++ tail).length ∧ (∀ j, Ls l j ↔ j < k) ∧ R k a w))
  have stepB : ∀ (l : Array Bool) (a : Act) (w : World) (k : Nat) (i : Nat), l.size = (pre ++ tail).length → Down (pre ++ tail) l → pre.length ≤ k → k ≤ (pre ++ tail).length → (∀ j, Ls l j ↔ j < k) → R k a w →
      i ∈ Region.ready .any (pre ++ tail).toArray l → wpOp P (pre ++ tail).toArray Q i (fun a' w' => Inv (l.setIfInBounds i true) a' w') a w := by
    intro l a w k i hs hd hk1 hk2 hk h hi
    have hun := (mem_ready.1 hi).1
    have hil : i < l.size := by
      rcases Nat.lt_or_ge i l.size with h1 | h1
      · exact h1
      · simp [Array.getElem?_eq_none h1] at hun
    have hnl : ¬ Ls l i := by
      intro h1
      unfold Ls at h1
      simp [hil] at h1 hun
      rw [h1] at hun
      cases hun
    have hki : k ≤ i := by
      rcases Nat.lt_or_ge i k with h1 | h1
      · exact absurd ((hk i).2 h1) hnl
      · exact h1
    have hik : i = k := by
      rcases Nat.lt_or_ge k i with h1 | h1
      · have := forced_ls hd (hfo i (by omega) (by omega)) hi k h1
        exact absurd ((hk k).1 this) (by omega)
      · omega
    subst hik
    have e : (pre ++ tail).length - i = ((pre ++ tail).length - (i + 1)) + 1 := by omega
    have h2 : wpOps P (pre ++ tail).toArray Q (List.range' i ((pre ++ tail).length - i)) a w := h
    rw [e, List.range'_succ, wpOps_cons] at h2
    refine wpOp_mono (fun a' w' h' => ⟨by simpa using hs, hd.set hi, .inr ⟨i + 1, by omega, by omega, fun j => ?_, h'⟩⟩) h2
    constructor
    · intro hj
      by_cases e : i = j
      · omega
      · have := (hk j).1 (Ls.old hj e)
        omega
    · intro hj
      by_cases e : i = j
      · subst e
        unfold Ls
        simp [hil]
      · unfold Ls
        rw [Go.getD_set_ne false e]
        exact (hk j).2 (by omega)
  refine wpAny_inv Inv ?_ ?_ _ _ _ _ (by simpa using unl_start (pre ++ tail).length) ?_
  · rintro l a w ⟨hs, hd, h⟩ i hi
    rcases h with ⟨fuel, l', hs', he, hn, h⟩ | ⟨k, hk1, hk2, hk, h⟩
    · by_cases hip : i < pre.length
      · have hr : i ∈ Region.ready .any pre.toArray l' := by
          obtain ⟨hun, o, ho, hall⟩ := mem_ready.1 hi
          have e1 : pre.toArray[i]? = some o := by
            have : (pre ++ tail)[i]? = some o := by simpa using ho
            rw [List.getElem?_append_left hip] at this
            simpa using this
          have gd : ∀ (j : Nat) (d : Bool), j < pre.length → l'.getD j d = l.getD j d := by
            intro j d hj
            rw [Array.getD_eq_getD_getElem?, Array.getD_eq_getD_getElem?, he j hj]
          refine mem_ready.2 ⟨by rw [gd i true hip]; exact hun, o, e1, fun e hee hb => ?_⟩
          have h1 := hall e hee hb
          have h2 : e.on < pre.length := by
            rcases Nat.lt_or_ge e.on pre.length with h2 | h2
            · exact h2
            · exact absurd h1 (hn _ h2)
          rw [gd e.on false h2]
          exact h1
        cases fuel with
        | zero =>
          rw [h.1] at hr
          cases hr
        | succ fuel =>
          have h1 := wpOp_tl hip hg (h.2 i hr)
          refine wpOp_mono (fun a' w' h' => ⟨by simpa using hs, hd.set hi, .inl ⟨fuel, l'.setIfInBounds i true, by simpa using hs', fun j hj => ?_, fun j hj hl => ?_, h'⟩⟩) h1
          · by_cases e : i = j
            · subst e
              have h2 : i < l.size := by rw [hs, hlen]; omega
              simp [hs', hj, h2]
            · rw [Array.getElem?_setIfInBounds_ne e, Array.getElem?_setIfInBounds_ne e]
              exact he j hj
          · exact hn j hj (Ls.old hl (by omega))
      · have hi2 : i < (pre ++ tail).length := by simpa using ready_lt hi
        have hall := forced_ls hd (hfo i (by omega) hi2) hi
        have hr0 : Region.ready .any pre.toArray l' = [] := by
          cases hr : Region.ready .any pre.toArray l' with
          | nil => rfl
          | cons j r =>
            have hj : j ∈ Region.ready .any pre.toArray l' := by rw [hr]; exact List.mem_cons_self
            have hj1 : j < pre.length := by simpa using ready_lt hj
            have h1 := hall j (by omega)
            have h2 := (mem_ready.1 hj).1
            unfold Ls at h1
            rw [Array.getD_eq_getD_getElem?, ← he j hj1] at h1
            have h3 : j < l'.size := by omega
            simp [h3] at h1 h2
            rw [h1] at h2
            cases h2
        have hq : wpList P (pre ++ tail).toArray Q tail a w := by
          cases fuel with
          | zero => exact h.2
          | succ fuel => exact h.1 hr0
        refine stepB l a w pre.length i hs hd (Nat.le_refl _) (by omega) (fun j => ⟨fun hj => ?_, fun hj => hall j (by omega)⟩) (hR a w hq) hi
        rcases Nat.lt_or_ge j pre.length with h2 | h2
        · exact h2
        · exact absurd hj (hn j h2)
    · exact stepB l a w k i hs hd hk1 hk2 hk h hi
  · rintro l a w hr ⟨hs, hd, h⟩
    have hall := none_ready2 hr hacy hs
    rcases h with ⟨fuel, l', hs', he, hn, h⟩ | ⟨k, hk1, hk2, hk, h⟩
    · have ht : tail = [] := by
        cases tail with
        | nil => rfl
        | cons o t => exact absurd (hall pre.length (by simp)) (hn pre.length (Nat.le_refl _))
      have hr0 : Region.ready .any pre.toArray l' = [] := by
        cases hr1 : Region.ready .any pre.toArray l' with
        | nil => rfl
        | cons j r =>
          have hj : j ∈ Region.ready .any pre.toArray l' := by rw [hr1]; exact List.mem_cons_self
          have hj1 : j < pre.length := by simpa using ready_lt hj
          have h1 := hall j (by omega)
          have h2 := (mem_ready.1 hj).1
          unfold Ls at h1
          rw [Array.getD_eq_getD_getElem?, ← he j hj1] at h1
          have h3 : j < l'.size := by omega
          simp [h3] at h1 h2
          rw [h1] at h2
          cases h2
      have hq : wpList P (pre ++ tail).toArray Q tail a w := by
        cases fuel with
        | zero => exact h.2
        | succ fuel => exact h.1 hr0
      have hq2 := hR a w hq
      have e0 : (pre ++ tail).length - pre.length = 0 := by rw [hlen, ht]; simp
      have hq3 : wpOps P (pre ++ tail).toArray Q (List.range' pre.length ((pre ++ tail).length - pre.length)) a w := hq2
      rw [e0] at hq3
      exact hq3
    · have e0 : k = (pre ++ tail).length := by
        rcases Nat.lt_or_ge k (pre ++ tail).length with h1 | h1
        · exact absurd ((hk k).1 (hall k h1)) (by omega)
        · omega
      have h2 : wpOps P (pre ++ tail).toArray Q (List.range' k ((pre ++ tail).length - k)) a w := h
      rw [e0, Nat.sub_self] at h2
      exact h2
  · refine ⟨by simp, fun j hj => ?_, .inl ⟨pre.length, Array.replicate pre.length false, by simp, fun j hj => ?_, fun j _ hj => ?_, h⟩⟩
    · exfalso
      unfold Ls at hj
      rw [Array.getD_eq_getD_getElem?, Array.getElem?_replicate] at hj
      split at hj <;> simp at hj
    · rw [Array.getElem?_replicate, Array.getElem?_replicate, if_pos hj, if_pos (by omega)]
    · unfold Ls at hj
      rw [Array.getD_eq_getD_getElem?, Array.getElem?_replicate] at hj
      split at hj <;> simp at hj
end
end Go.Proofs.Ytmbmbmkmjbpcpaa.PA


/- A region whose operations come up in whatever order, each by what it waits for: what an operation hands on is told by a kind of value; no program's code is named. -/
namespace Go.Proofs.Ytmbmbmkmjbpcpaa.PA
open Go Go.Proofs.Ytmbmbmkmjbpcpaa.Nums Go.RowKit Go.Proofs.YtmbmbmkmjbpcpaaW.PrintWords Go.Proofs.YtmbmbmkmjbpcpaaW.PrintLast Go.Proofs.YtmbmbmkmjbpcpaaW.PrintMore
set_option linter.unusedVariables false
/-- values with what holds of them, whatever the call's own boxes come to hold -/
def Has (w0 W : World) (ts : List (Value × (World → Value → Prop))) : Prop := ∀ p, p ∈ ts → ∀ w', Keeps w0 W w' → p.2 w' p.1
theorem Has.keep {w0 W W' : World} {ts : List (Value × (World → Value → Prop))} (h : Has w0 W ts) (k : Keeps w0 W W') : Has w0 W' ts := fun p hp w' k' => h p hp w' (k.trans k')
theorem Has.append {w0 W : World} {ts ts' : List (Value × (World → Value → Prop))} (h : Has w0 W ts) (h' : Has w0 W ts') : Has w0 W (ts ++ ts') := fun p hp => (List.mem_append.mp hp).elim (h p) (h' p)
theorem Has.nil (w0 W : World) : Has w0 W [] := fun p hp => (by cases hp)
/-- what a call holds: typed values, its own boxes -/
structure Zt (w0 w : World) (ts : List (Value × (World → Value → Prop))) (bs : List (Nat × TypeId × Array Value)) : Prop where
  below : Below w0.heap.size w0 w
  typ : Has w0 w ts
  box : ∀ p, p ∈ bs → Bx w0 w p.1 p.2.1 p.2.2
  apart : ∀ (i j : Nat) (p q : Nat × TypeId × Array Value), i ≠ j → bs[i]? = some p → bs[j]? = some q → q.1 ≠ p.1
theorem Zt.start (w : World) {ts : List (Value × (World → Value → Prop))} (h : Has w w ts) : Zt w w ts [] := ⟨Below.refl _ _, h, fun p h => (by cases h), fun i j p q _ h _ => by simp at h⟩
section
variable {w0 w w' : World} {ts : List (Value × (World → Value → Prop))} {bs : List (Nat × TypeId × Array Value)}
theorem Zt.more (h : Zt w0 w ts bs) {ts' : List (Value × (World → Value → Prop))} (m : Has w0 w ts') : Zt w0 w (ts' ++ ts) bs := ⟨h.below, m.append h.typ, h.box, h.apart⟩
theorem Zt.step (h : Zt w0 w ts bs) (hb : Below w.heap.size w w') : Zt w0 w' ts bs :=
  ⟨below_then h.below h.below.size hb, h.typ.keep (Keeps.of_below hb), fun p hp => (h.box p hp).below hb, h.apart⟩
theorem Zt.drew (h : Zt w0 w ts bs) : Zt w0 w.drew ts bs := h.step (below_drew (Below.refl _ _))
theorem Zt.get (h : Zt w0 w ts bs) (i : Nat) {v : Value} {T : World → Value → Prop} (e : ts[i]? = some (v, T)) : T w v := h.typ (v, T) (List.mem_of_getElem? e) w (Keeps.refl _ _)
theorem Zt.has (h : Zt w0 w ts bs) (i : Nat) {v : Value} {T : World → Value → Prop} (e : ts[i]? = some (v, T)) : ∀ w', Keeps w0 w w' → T w' v := h.typ (v, T) (List.mem_of_getElem? e)
theorem Zt.bx (h : Zt w0 w ts bs) (i : Nat) {g : Nat} {t : TypeId} {cs : Array Value} (e : bs[i]? = some (g, t, cs)) : Bx w0 w g t cs := h.box (g, t, cs) (List.mem_of_getElem? e)
theorem Zt.push (h : Zt w0 w ts bs) {g : Nat} {t : TypeId} {cs : Array Value} (b : Bx w0 w g t cs) (ha : ∀ p, p ∈ bs → p.1 ≠ g) : Zt w0 w ts ((g, t, cs) :: bs) := by
  refine ⟨h.below, h.typ, fun p hp => ?_, fun i j p q hne hi hj => ?_⟩
  · rcases List.mem_cons.mp hp with e | e
    · rw [e]; exact b
    · exact h.box p e
  · cases i with
    | zero =>
      cases j with
      | zero => exact absurd rfl hne
      | succ j =>
        simp at hi hj
        subst hi
        exact ha q (List.mem_of_getElem? hj)
    | succ i =>
      cases j with
      | zero =>
        simp at hi hj
        subst hj
        exact (ha p (List.mem_of_getElem? hi)).symm
      | succ j => exact h.apart i j p q (by omega) (by simpa using hi) (by simpa using hj)
theorem Zt.alloc (h : Zt w0 w ts bs) (t : TypeId) (ht : t ≠ 68) (cs : Array Value) : Zt w0 (w.alloc (.cells cs t (0, 0))) ts ((w.heap.size, t, cs) :: bs) :=
  (h.step (below_alloc (Below.refl w.heap.size w) (.cells cs t (0, 0)))).push (Bx.new h.below t ht cs) fun p hp => Nat.ne_of_lt (h.box p hp).lt
theorem Zt.put (h : Zt w0 w ts bs) (i : Nat) {g : Nat} {t : TypeId} {x y : Value} (e : bs[i]? = some (g, t, #[x, y])) (x2 y2 : Value) :
    Zt w0 (set2 w g x2 y2) ts (bs.set i (g, t, #[x2, y2])) := by
  have hb := h.bx i e
  have hget : ∀ (n : Nat) (q : Nat × TypeId × Array Value), (bs.set i (g, t, #[x2, y2]))[n]? = some q → ∃ r : Nat × TypeId × Array Value, bs[n]? = some r ∧ r.1 = q.1 := by
    intro n q hn
    by_cases e2 : i = n
    · subst e2
      rw [List.getElem?_set_self (List.getElem?_eq_some_iff.mp e).1] at hn
      injection hn with hn
      subst hn
      exact ⟨_, e, rfl⟩
    · rw [List.getElem?_set_ne e2] at hn
      exact ⟨q, hn, rfl⟩
  refine ⟨hb.below2 h.below x2 y2, h.typ.keep (hb.keeps2 x2 y2), fun q hq => ?_, fun n m p q hne hn hm => ?_⟩
  · obtain ⟨n, hn⟩ := List.getElem?_of_mem hq
    by_cases e2 : n = i
    · subst e2
      rw [List.getElem?_set_self (List.getElem?_eq_some_iff.mp e).1] at hn
      injection hn with hn
      subst hn
      exact hb.put x2 y2
    · rw [List.getElem?_set_ne (Ne.symm e2)] at hn
      exact (h.box q (List.mem_of_getElem? hn)).apart (h.apart i n _ q (Ne.symm e2) e hn) x2 y2
  · obtain ⟨r1, h1, e1⟩ := hget n p hn
    obtain ⟨r2, h2, e2⟩ := hget m q hm
    rw [← e1, ← e2]
    exact h.apart n m r1 r2 hne h1 h2
end
/-- the block that a value points at -/
def blkV : Value → Option Nat
  | .pointer (some a) => some a.block
  | .slice (some a) _ _ => some a.block
  | _ => none
/-- a kind of value that an operation hands on -/
inductive Sp : Type 1 where
  | val (α : Type) (f : α → Value) (T : α → List (Value × (World → Value → Prop)))
  | boxv (one : Bool) (f : Nat → Value) (hf : ∀ g, blkV (f g) = some g) (t : TypeId) (cs : Array Value)
@[reducible] def Sp.box (t : TypeId) (cs : Array Value) : Sp := .boxv false (fun g => .pointer (some ⟨g, 0, none⟩)) (fun _ => rfl) t cs
def Sp.is (v : Value) : Sp := .val Unit (fun _ => v) (fun _ => [])
def Sp.isBox : Sp → Bool
  | .val .. => false
  | .boxv .. => true
/-- v is of the kind, at W -/
def Sp.Ok (w0 : World) (bs : List (Nat × TypeId × Array Value)) (W : World) (v : Value) : Sp → Prop
  | .val α f T => ∃ x, v = f x ∧ Has w0 W (T x)
  | .boxv _ f _ t cs => ∃ g, v = f g ∧ Bx w0 W g t cs ∧ ∀ p, p ∈ bs → p.1 ≠ g
/-- what an operation at W has to show of its value v at W' -/
def Sp.New (w0 W W' : World) (v : Value) : Sp → Prop
  | .val α f T => ∃ x, v = f x ∧ Has w0 W' (T x)
  | .boxv _ f _ t cs => v = f W.heap.size ∧ t ≠ 68 ∧ W'.heap[W.heap.size]? = some (.cells cs t (0, 0))
theorem Sp.Ok.step {w0 W W' : World} {bs : List (Nat × TypeId × Array Value)} {v : Value} {s : Sp} (h : s.Ok w0 bs W v) (hb : Below W.heap.size W W') : s.Ok w0 bs W' v := by
  cases s with
  | val α f T =>
    obtain ⟨x, e, h⟩ := h
    exact ⟨x, e, h.keep (Keeps.of_below hb)⟩
  | boxv one f hf t cs =>
    obtain ⟨g, e, h, h2⟩ := h
    exact ⟨g, e, h.below hb, h2⟩
theorem Sp.New.ok {w0 W W' : World} {ts : List (Value × (World → Value → Prop))} {bs : List (Nat × TypeId × Array Value)} {v : Value} {s : Sp} (Z : Zt w0 W ts bs) (h : s.New w0 W W' v) : s.Ok w0 bs W' v := by
  cases s with
  | val α f T => exact h
  | boxv one f hf t cs =>
    obtain ⟨e, h1, h2⟩ := h
    exact ⟨_, e, ⟨Z.below.size, h1, h2⟩, fun p hp => Nat.ne_of_lt (Z.box p hp).lt⟩
theorem Sp.New.far {w0 W W' : World} {bs : List (Nat × TypeId × Array Value)} {v u : Value} {s s2 : Sp} (h : s.New w0 W W' v) (k : s2.Ok w0 bs W u) (hb : s.isBox = true) (hb2 : s2.isBox = true) : blkV u ≠ blkV v := by
  cases s with
  | val => cases hb
  | boxv one f hf t cs =>
    cases s2 with
    | val => cases hb2
    | boxv one2 f2 hf2 t2 cs2 =>
      obtain ⟨rfl, -, -⟩ := h
      obtain ⟨g, rfl, h2, -⟩ := k
      rw [hf, hf2]
      intro e
      injection e with e
      have := h2.lt
      omega
section
variable {P : Program} {Q : Exit → Act → World → Prop}
/-- the slot that operation i writes -/
def slot (pre : List Oper) (i : Nat) : Option Tmp := (pre[i]?).bind (·.dst)
def whoFrom (i : Nat) (d : Tmp) : List Oper → Option Nat
  | [] => none
  | o :: r => if o.dst == some d then some i else whoFrom (i + 1) d r
/-- the operation that writes slot d -/
def who (pre : List Oper) (d : Tmp) : Option Nat := whoFrom 0 d pre
/-- what operation o looks at -/
def eyes (pre : List Oper) (o : Oper) : List Tmp :=
  (match o.guard with
  | some (j, _) => (slot pre j).toList
  | none => []) ++ o.op.operands.toList.filterMap (fun
  | .tmp t => some t
  | _ => none)
def dagOne (pre : List Oper) (n i : Nat) : Bool :=
  match pre[i]? with
    | none => false
    | some o => ((match o.dst with
        | none => false
        | some d => decide (who pre d = some i) && decide (d < n)) && (waits pre i).all fun j => decide (j < i)) && (eyes pre o).all fun d => match who pre d with
          | none => true
          | some j => decide (j ∈ clo pre i (waits pre i))
def dagOk (pre : List Oper) (n : Nat) : Bool := (List.range pre.length).all (dagOne pre n)
/-- an operation's step, its operands' kinds ahead of it -/
def StepE (P : Program) (w0 : World) (pre : List Oper) (sps : List Sp) (a0 a : Act) (i : Nat) (o : Oper) (sp : Sp) : List Tmp → List (Value × (World → Value → Prop)) → List (Nat × TypeId × Array Value) → Prop
  | [], ts, bs => ∀ (W : World) (Q' : Exit → Act → World → Prop), Zt w0 W ts bs → wpOp P pre.toArray Q' i (fun a' W' => ∃ v, a' = a.put o.dst v ∧ Below W.heap.size W W' ∧ sp.New w0 W W' v) a W
  | d :: r, ts, bs => match (who pre d).bind (sps[·]?) with
    | none => a.tmps[d]? = a0.tmps[d]? → StepE P w0 pre sps a0 a i o sp r ts bs
    | some (.val α f T) => ∀ x : α, a.tmps[d]? = some (f x) → StepE P w0 pre sps a0 a i o sp r (T x ++ ts) bs
    | some (.boxv false f _ t cs) => ∀ g : Nat, a.tmps[d]? = some (f g) → StepE P w0 pre sps a0 a i o sp r ts bs
    | some (.boxv true f _ t cs) => r = [] ∧ ∀ g : Nat, a.tmps[d]? = some (f g) → ∀ (W : World) (Q' : Exit → Act → World → Prop), Zt w0 W ts ((g, t, cs) :: bs) → wpOp P pre.toArray Q' i (fun a' W' => ∃ v, a' = a.put o.dst v ∧ Below W.heap.size W W' ∧ sp.New w0 W W' v) a W
/-- all steps -/
def StepsE (P : Program) (w0 : World) (pre : List Oper) (sps : List Sp) (a0 : Act) (ts : List (Value × (World → Value → Prop))) (bs : List (Nat × TypeId × Array Value)) : Nat → List Oper → List Sp → Prop
  | _, [], _ => True
  | i, o :: r, s :: sr => (∀ a : Act, StepE P w0 pre sps a0 a i o s (eyes pre o) ts bs) ∧ StepsE P w0 pre sps a0 ts bs (i + 1) r sr
  | _, _ :: _, [] => False
/-- what is left behind all of them -/
def Fin (P : Program) (ops : Array Oper) (Q : Exit → Act → World → Prop) (w0 : World) (tail : List Oper) : List Oper → List Sp → List (Value × (World → Value → Prop)) → List (Nat × TypeId × Array Value) → Act → Prop
  | o :: r, .val α f T :: sr, ts, bs, a => ∀ x : α, Fin P ops Q w0 tail r sr (T x ++ ts) bs (a.put o.dst (f x))
  | o :: r, .boxv _ f _ t cs :: sr, ts, bs, a => ∀ g : Nat, Fin P ops Q w0 tail r sr ts ((g, t, cs) :: bs) (a.put o.dst (f g))
  | _, _, ts, bs, a => ∀ W : World, Zt w0 W ts bs → wpList P ops Q tail a W
theorem whoFrom_some {d : Tmp} : ∀ {r : List Oper} {i j : Nat}, whoFrom i d r = some j → ∃ k o, j = i + k ∧ r[k]? = some o ∧ o.dst = some d := by
  intro r
  induction r with
  | nil => intro i j h; cases h
  | cons o r ih =>
    intro i j h
    unfold whoFrom at h
    split at h
    · rename_i hd
      injection h with h
      exact ⟨0, o, by omega, rfl, by simpa using hd⟩
    · obtain ⟨k, o2, e, h2, h3⟩ := ih h
      exact ⟨k + 1, o2, by omega, by simpa using h2, h3⟩
theorem who_some {pre : List Oper} {d : Tmp} {j : Nat} (h : who pre d = some j) : ∃ o, pre[j]? = some o ∧ o.dst = some d := by
  obtain ⟨k, o, e, h1, h2⟩ := whoFrom_some h
  rw [Nat.zero_add] at e
  subst e
  exact ⟨o, h1, h2⟩
theorem dag_one {pre : List Oper} {n i : Nat} {o : Oper} (h : dagOk pre n = true) (ho : pre[i]? = some o) :
    (∃ d, o.dst = some d ∧ who pre d = some i ∧ d < n) ∧ (∀ j, j ∈ waits pre i → j < i) ∧ ∀ d, d ∈ eyes pre o → ∀ j, who pre d = some j → j ∈ clo pre i (waits pre i) := by
  have hi : i < pre.length := (List.getElem?_eq_some_iff.mp ho).1
  have h1 := List.all_eq_true.mp h i (List.mem_range.mpr hi)
  unfold dagOne at h1
  rw [ho] at h1
  simp only [Bool.and_eq_true] at h1
  obtain ⟨⟨h2, h3⟩, h4⟩ := h1
  refine ⟨?_, fun j hj => by simpa using List.all_eq_true.mp h3 j hj, fun d hd j hj => ?_⟩
  · cases hd : o.dst with
    | none => rw [hd] at h2; cases h2
    | some d =>
      rw [hd] at h2
      simp only [Bool.and_eq_true, decide_eq_true_eq] at h2
      exact ⟨d, rfl, h2.1, h2.2⟩
  · have h5 := List.all_eq_true.mp h4 d hd
    rw [hj] at h5
    simpa using h5
theorem StepsE.one {w0 : World} {pre : List Oper} {sps : List Sp} {a0 : Act} {ts : List (Value × (World → Value → Prop))} {bs : List (Nat × TypeId × Array Value)} : ∀ {r : List Oper} {sr : List Sp} {k : Nat}, StepsE P w0 pre sps a0 ts bs k r sr → ∀ {i : Nat} {o : Oper}, r[i]? = some o → ∃ s, sr[i]? = some s ∧ ∀ a : Act, StepE P w0 pre sps a0 a (k + i) o s (eyes pre o) ts bs := by
  intro r
  induction r with
  | nil => intro sr k h i o ho; simp at ho
  | cons o r ih =>
    intro sr k h i o2 ho
    cases sr with
    | nil => exact absurd h (by unfold StepsE; exact id)
    | cons s sr =>
      obtain ⟨h1, h2⟩ := h
      cases i with
      | zero =>
        simp at ho
        subst ho
        exact ⟨s, rfl, h1⟩
      | succ i =>
        obtain ⟨s2, e, h3⟩ := ih h2 (i := i) (by simpa using ho)
        exact ⟨s2, by simpa using e, by rw [show k + (i + 1) = k + 1 + i by omega]; exact h3⟩
theorem StepE.run {w0 W : World} {pre : List Oper} {sps : List Sp} {a0 a : Act} {i : Nat} {o : Oper} {sp : Sp} {bs : List (Nat × TypeId × Array Value)} {Q' : Exit → Act → World → Prop} :
    ∀ (r : List Tmp) (ts : List (Value × (World → Value → Prop))), StepE P w0 pre sps a0 a i o sp r ts bs → Zt w0 W ts bs →
      (∀ d, d ∈ r → who pre d = none → a.tmps[d]? = a0.tmps[d]?) →
      (∀ d, d ∈ r → ∀ j, who pre d = some j → ∃ s v, sps[j]? = some s ∧ a.tmps[d]? = some v ∧ s.Ok w0 bs W v) →
      wpOp P pre.toArray Q' i (fun a' W' => ∃ v, a' = a.put o.dst v ∧ Below W.heap.size W W' ∧ sp.New w0 W W' v) a W := by
  intro r
  induction r with
  | nil => intro ts h Z _ _; exact h W Q' Z
  | cons d r ih =>
    intro ts h Z h0 h1
    unfold StepE at h
    cases hw : who pre d with
    | none =>
      rw [hw] at h
      exact ih ts (h (h0 d List.mem_cons_self hw)) Z (fun d hd => h0 d (List.mem_cons_of_mem _ hd)) (fun d hd => h1 d (List.mem_cons_of_mem _ hd))
    | some j =>
      obtain ⟨s, v, e1, e2, e3⟩ := h1 d List.mem_cons_self j hw
      rw [hw] at h
      simp only [Option.bind_some, e1] at h
      cases s with
      | val α f T =>
        obtain ⟨x, rfl, hx⟩ := e3
        exact ih _ (h x e2) (Z.more hx) (fun d hd => h0 d (List.mem_cons_of_mem _ hd)) (fun d hd => h1 d (List.mem_cons_of_mem _ hd))
      | boxv one f hf t cs =>
        obtain ⟨g, rfl, hx, hgx⟩ := e3
        cases one with
        | true =>
          obtain ⟨hr0, hq⟩ := h
          exact hq g e2 W Q' (Z.push hx hgx)
        | false =>
        exact ih _ (h g e2) Z (fun d hd => h0 d (List.mem_cons_of_mem _ hd)) (fun d hd => h1 d (List.mem_cons_of_mem _ hd))
theorem Act.same {a b : Act} (h1 : a.defers = b.defers) (h2 : ∀ d : Nat, a.tmps[d]? = b.tmps[d]?) : a = b := by
  cases a
  cases b
  simp only at h1 h2
  congr 1
  exact Array.ext_getElem? h2
theorem put_at {a : Act} {d : Tmp} {v : Value} (h : d < a.tmps.size) : (a.put (some d) v).tmps[d]? = some v := by
  simp [Act.put, h]
theorem put_off {a : Act} {d e : Tmp} {v : Value} (h : d ≠ e) : (a.put (some d) v).tmps[e]? = a.tmps[e]? := by
  simp [Act.put, Array.getElem?_setIfInBounds_ne h]
theorem Fin.run {ops : Array Oper} {w0 W : World} {tail : List Oper} {a' : Act} : ∀ (r : List Oper) (sr : List Sp) (ts : List (Value × (World → Value → Prop))) (bs : List (Nat × TypeId × Array Value)) (a : Act), r.length = sr.length → Fin P ops Q w0 tail r sr ts bs a → Zt w0 W ts bs →
    (∀ (i : Nat) (o : Oper) (s : Sp), r[i]? = some o → sr[i]? = some s → ∃ d v, o.dst = some d ∧ a'.tmps[d]? = some v ∧ s.Ok w0 bs W v) →
    (∀ (i j : Nat) (oi oj : Oper) (si sj : Sp) (di dj : Tmp) (vi vj : Value), i ≠ j → r[i]? = some oi → r[j]? = some oj → sr[i]? = some si → sr[j]? = some sj → oi.dst = some di → oj.dst = some dj → a'.tmps[di]? = some vi → a'.tmps[dj]? = some vj → si.isBox = true → sj.isBox = true → blkV vi ≠ blkV vj) →
    a.defers = a'.defers → a.tmps.size = a'.tmps.size → (∀ d : Nat, (∀ (i : Nat) (o : Oper), r[i]? = some o → o.dst ≠ some d) → a.tmps[d]? = a'.tmps[d]?) → wpList P ops Q tail a' W := by
  intro r
  induction r with
  | nil =>
    intro sr ts bs a hl h Z _ _ hd hs hag
    have e : a = a' := Act.same hd fun d => hag d (fun i o h => by simp at h)
    subst e
    unfold Fin at h
    exact h W Z
  | cons o r ih =>
    intro sr ts bs a hl h Z hok hpw hd hs hag
    cases sr with
    | nil => simp at hl
    | cons s sr =>
      obtain ⟨d, v, e1, e2, e3⟩ := hok 0 o s rfl rfl
      have hlt : d < a.tmps.size := by
        rw [hs]
        exact (Array.getElem?_eq_some_iff.mp e2).1
      have agree : ∀ d' : Nat, (∀ (i : Nat) (o : Oper), r[i]? = some o → o.dst ≠ some d') → (a.put o.dst v).tmps[d']? = a'.tmps[d']? := by
        intro d' hd'
        rw [e1]
        by_cases e : d = d'
        · subst e
          rw [put_at hlt, e2]
        · rw [put_off e]
          refine hag d' fun i o2 h2 => ?_
          cases i with
          | zero =>
            simp at h2
            subst h2
            rw [e1]
            intro h3
            injection h3 with h3
            exact e h3
          | succ i => exact hd' i o2 (by simpa using h2)
      have hd2 : (a.put o.dst v).defers = a'.defers := by rw [e1]; exact hd
      have hs2 : (a.put o.dst v).tmps.size = a'.tmps.size := by rw [e1]; simpa [Act.put] using hs
      have hpw2 : ∀ (i j : Nat) (oi oj : Oper) (si sj : Sp) (di dj : Tmp) (vi vj : Value), i ≠ j → r[i]? = some oi → r[j]? = some oj → sr[i]? = some si → sr[j]? = some sj → oi.dst = some di → oj.dst = some dj → a'.tmps[di]? = some vi → a'.tmps[dj]? = some vj → si.isBox = true → sj.isBox = true → blkV vi ≠ blkV vj :=
        fun i j oi oj si sj di dj vi vj hne h1 h2 h3 h4 => hpw (i + 1) (j + 1) oi oj si sj di dj vi vj (by omega) (by simpa using h1) (by simpa using h2) (by simpa using h3) (by simpa using h4)
      cases s with
      | val α f T =>
        obtain ⟨x, rfl, hx⟩ := e3
        unfold Fin at h
        refine ih sr _ bs _ (by simpa using hl) (h x) (Z.more hx) (fun i o2 s2 h1 h2 => ?_) hpw2 hd2 hs2 agree
        exact hok (i + 1) o2 s2 (by simpa using h1) (by simpa using h2)
      | boxv one f hf t cs =>
        obtain ⟨g, rfl, hx, hg⟩ := e3
        unfold Fin at h
        refine ih sr ts _ _ (by simpa using hl) (h g) (Z.push hx hg) (fun i o2 s2 h1 h2 => ?_) hpw2 hd2 hs2 agree
        obtain ⟨d2, v2, f1, f2, f3⟩ := hok (i + 1) o2 s2 (by simpa using h1) (by simpa using h2)
        refine ⟨d2, v2, f1, f2, ?_⟩
        cases s2 with
        | val => exact f3
        | boxv one2 f2' hf2 t2 cs2 =>
          obtain ⟨g2, rfl, k1, k2⟩ := f3
          refine ⟨g2, rfl, k1, fun p hp => ?_⟩
          rcases List.mem_cons.mp hp with e | e
          · rw [e]
            have := hpw 0 (i + 1) o o2 _ _ d d2 _ _ (by omega) rfl (by simpa using h1) rfl (by simpa using h2) e1 f1 e2 f2 rfl rfl
            intro h
            exact this (by rw [hf, hf2]; simp at h; rw [h])
          · exact k2 p e
theorem wp_dag {pre tail : List Oper} {sps : List Sp} {id : Nat} {w0 w : World} {a : Act} {ts : List (Value × (World → Value → Prop))} {bs : List (Nat × TypeId × Array Value)} (Z : Zt w0 w ts bs) (hm : P.follows .mixedOrders = true)
    (n : Nat) (hn : a.tmps.size = n) (hok : tailOk (pre ++ tail) pre.length = true) (hd : dagOk pre n = true) (hl : pre.length = sps.length)
    (hs : StepsE P w0 pre sps a ts bs 0 pre sps) (hf : Fin P (pre ++ tail).toArray Q w0 tail pre sps ts bs a) : (Code.region id (pre ++ tail).toArray true).wp P Q a w := by
  subst hn
  refine wp_region_any hm ?_
  have e : (pre ++ tail).toArray.size = (pre ++ tail).length := by simp
  rw [e]
  refine wpAny_tail hok ?_
  let Inv : Array Bool → Act → World → Prop := fun l a' W => l.size = pre.length ∧ Down pre l ∧ Zt w0 W ts bs ∧ a'.defers = a.defers ∧ a'.tmps.size = a.tmps.size ∧
    (∀ d, who pre d = none → a'.tmps[d]? = a.tmps[d]?) ∧
    (∀ (i : Nat) (o : Oper) (s : Sp) (d : Tmp), Ls l i → pre[i]? = some o → o.dst = some d → sps[i]? = some s → ∃ v, a'.tmps[d]? = some v ∧ s.Ok w0 bs W v) ∧
    (∀ (i j : Nat) (oi oj : Oper) (si sj : Sp) (di dj : Tmp) (vi vj : Value), i ≠ j → Ls l i → Ls l j → pre[i]? = some oi → pre[j]? = some oj → sps[i]? = some si → sps[j]? = some sj → oi.dst = some di → oj.dst = some dj → a'.tmps[di]? = some vi → a'.tmps[dj]? = some vj → si.isBox = true → sj.isBox = true → blkV vi ≠ blkV vj)
  have lset : ∀ (l : Array Bool) (i j : Nat), Ls (l.setIfInBounds i true) j → i = j ∨ Ls l j := by
    intro l i j h
    by_cases e : i = j
    · exact .inl e
    · exact .inr (Ls.old h e)
  refine wpAny_inv (ops := pre.toArray) Inv ?_ ?_ _ _ _ _ (by simpa using unl_start pre.length) ?_
  · rintro l a' W ⟨i1, i2, i3, i4, i5, i6, i7, i8⟩ i hi
    have hil : i < pre.length := by simpa using ready_lt hi
    have ho : pre[i]? = some pre[i] := by simp [hil]
    generalize pre[i] = o at ho
    obtain ⟨⟨d, hd1, hd2, hd3⟩, hacy, heyes⟩ := dag_one hd ho
    obtain ⟨s, hs1, hs2⟩ := hs.one ho
    rw [Nat.zero_add] at hs2
    have lsd : ∀ j, j ∈ clo pre i (waits pre i) → Ls l j := clo_ls i2 i _ (waits_ready hi)
    have hst := (hs2 a').run (W := W) (Q' := Tl P (pre ++ tail).toArray Q tail) (eyes pre o) ts i3 (fun d _ h => i6 d h) (fun d hd j hj => by
      obtain ⟨oj, h1, h2⟩ := who_some hj
      have hjl : j < sps.length := by rw [← hl]; exact (List.getElem?_eq_some_iff.mp h1).1
      obtain ⟨v, h3, h4⟩ := i7 j oj sps[j] d (lsd j (heyes d hd j hj)) h1 h2 (by simp [hjl])
      exact ⟨_, v, by simp [hjl], h3, h4⟩)
    refine wpOp_mono ?_ hst
    rintro a2 W2 ⟨v, rfl, hb, hnew⟩
    rw [hd1]
    have off : ∀ (j : Nat) (oj : Oper) (dj : Tmp), pre[j]? = some oj → oj.dst = some dj → i ≠ j → d ≠ dj := by
      intro j oj dj h1 h2 hne e
      subst e
      obtain ⟨⟨d', e1, e2, -⟩, -⟩ := dag_one hd h1
      rw [h2] at e1
      injection e1 with e1
      subst e1
      rw [hd2] at e2
      injection e2 with e2
      exact hne e2
    refine ⟨by simpa using i1, i2.set hi, i3.step hb, i4, by simpa [Act.put] using i5, fun d' h' => ?_, fun j oj sj dj h1 h2 h3 h4 => ?_, ?_⟩
    · rw [put_off (by rintro rfl; rw [hd2] at h'; cases h')]
      exact i6 d' h'
    · rcases lset l i j h1 with rfl | h1
      · rw [ho] at h2
        injection h2 with h2
        subst h2
        rw [hd1] at h3
        injection h3 with h3
        subst h3
        rw [hs1] at h4
        injection h4 with h4
        subst h4
        exact ⟨v, put_at (by rw [i5]; exact hd3), hnew.ok i3⟩
      · by_cases e : i = j
        · subst e
          rw [ho] at h2
          injection h2 with h2
          subst h2
          rw [hd1] at h3
          injection h3 with h3
          subst h3
          rw [hs1] at h4
          injection h4 with h4
          subst h4
          exact ⟨v, put_at (by rw [i5]; exact hd3), hnew.ok i3⟩
        · obtain ⟨u, k1, k2⟩ := i7 j oj sj dj h1 h2 h3 h4
          exact ⟨u, by rw [put_off (off j oj dj h2 h3 e)]; exact k1, k2.step hb⟩
    · have one : ∀ (j : Nat) (oj : Oper) (sj : Sp) (dj : Tmp) (vj vi : Value), i ≠ j → Ls l j → pre[j]? = some oj → sps[j]? = some sj → oj.dst = some dj → (a'.put (some d) v).tmps[d]? = some vi → (a'.put (some d) v).tmps[dj]? = some vj → s.isBox = true → sj.isBox = true → blkV vj ≠ blkV vi := by
        intro j oj sj dj vj vi hne h1 h2 h3 h4 h5 h6 h7 h8
        rw [put_off (off j oj dj h2 h4 hne)] at h6
        rw [put_at (by rw [i5]; exact hd3)] at h5
        injection h5 with h5
        subst h5
        obtain ⟨u, k1, k2⟩ := i7 j oj sj dj h1 h2 h4 h3
        rw [h6] at k1
        injection k1 with k1
        subst k1
        exact hnew.far k2 h7 h8
      intro p q op oq sp sq dp dq vp vq hne hp hq h1 h2 h3 h4 h5 h6 h7 h8 h9 h10
      by_cases ep : i = p
      · subst ep
        rw [ho] at h1
        injection h1 with h1
        subst h1
        rw [hd1] at h5
        injection h5 with h5
        subst h5
        rw [hs1] at h3
        injection h3 with h3
        subst h3
        exact (one q oq sq dq vq vp hne (Ls.old hq hne) h2 h4 h6 h7 h8 h9 h10).symm
      · by_cases eq : i = q
        · subst eq
          rw [ho] at h2
          injection h2 with h2
          subst h2
          rw [hd1] at h6
          injection h6 with h6
          subst h6
          rw [hs1] at h4
          injection h4 with h4
          subst h4
          exact one p op sp dp vp vq ep (Ls.old hp ep) h1 h3 h5 h8 h7 h10 h9
        · rw [put_off (off p op dp h1 h5 ep)] at h7
          rw [put_off (off q oq dq h2 h6 eq)] at h8
          exact i8 p q op oq sp sq dp dq vp vq hne (Ls.old hp ep) (Ls.old hq eq) h1 h2 h3 h4 h5 h6 h7 h8 h9 h10
  · rintro l a' W hr ⟨i1, i2, i3, i4, i5, i6, i7, i8⟩
    have hall := none_ready2 hr (fun i hi j hj => (dag_one hd (o := pre[i]) (by simp [hi])).2.1 j hj) i1
    refine Tl.mk (Fin.run pre sps ts bs a hl hf i3 (fun i o s h1 h2 => ?_) (fun i j oi oj si sj di dj vi vj hne h1 h2 h3 h4 => ?_) i4.symm i5.symm fun d hd' => ?_)
    · obtain ⟨⟨d, hd1, hd2, hd3⟩, -⟩ := dag_one hd h1
      obtain ⟨v, h3, h4⟩ := i7 i o s d (hall i (List.getElem?_eq_some_iff.mp h1).1) h1 hd1 h2
      exact ⟨d, v, hd1, h3, h4⟩
    · exact i8 i j oi oj si sj di dj vi vj hne (hall i (List.getElem?_eq_some_iff.mp h1).1) (hall j (List.getElem?_eq_some_iff.mp h2).1) h1 h2 h3 h4
    · refine (i6 d ?_).symm
      cases hw : who pre d with
      | none => rfl
      | some j =>
        obtain ⟨o, h1, h2⟩ := who_some hw
        exact absurd h2 (hd' j o h1)
  · have nol : ∀ i, ¬ Ls (Array.replicate pre.length false) i := by
      intro i h
      unfold Ls at h
      rw [Array.getD_eq_getD_getElem?, Array.getElem?_replicate] at h
      split at h <;> simp at h
    exact ⟨by simp, fun j hj => absurd hj (nol j), Z.drew, rfl, rfl, fun _ _ => rfl, fun i o s d h => absurd h (nol i), fun i j oi oj si sj di dj vi vj _ h => absurd h (nol i)⟩
end
end Go.Proofs.Ytmbmbmkmjbpcpaa.PA

