/- What the law on memory wants: rows of numbers, the round of spoiling; no program's code is named but spoil's. -/
import Derived.Outline
import Derived.Test.YtmbmbmkmjbpcpaaZMem3K
import Derived.Test.YtmbmbmkmjbpcpaaPAx0K
namespace Go.Proofs.Ytmbmbmkmjbpcpaa.PA
open Go Go.Proofs.Ytmbmbmkmjbpcpaa.Nums Go.RowKit Go.Proofs.YtmbmbmkmjbpcpaaW.PrintWords Go.Proofs.YtmbmbmkmjbpcpaaW.PrintLast Go.Proofs.YtmbmbmkmjbpcpaaW.PrintMore
set_option linter.unusedVariables false
set_option linter.unusedSimpArgs false
/-- a box or a row of numbers, as it lies -/
def tyG (g : Nat) (cs : Array Value) : World → Value → Prop := fun w _ => w.heap[g]? = some (.cells cs 25 (0, 0))
theorem tyG.has {w : World} {g : Nat} {cs : Array Value} (v : Value) (h : w.heap[g]? = some (.cells cs 25 (0, 0))) : Has w w [(v, tyG g cs)] :=
  has_one fun w' k => k.blk g _ h (.inl (blk_lt h))
theorem info_int : (Try.prog.info? 25).map (fun i => (i.zero, i.size, i.bytes)) = some (some (.agg #[.bool false, .slice none 0 0]), 2, 32) := by kernel_rfl
section
variable {w0 w W : World} {ts : List (Value × (World → Value → Prop))} {bs : List (Nat × TypeId × Array Value)} {a : Act} {o : Oper} {ops : Array Oper} {pre r : List Oper} {i : Nat} {Q : Exit → Act → World → Prop} {p q : Operand}
theorem run_load2H {g : Nat} {x y : Value} (ho : o.op = .load 25 p) (he : a.eval p = .pointer (some ⟨g, 0, none⟩)) (h : W.heap[g]? = some (.cells #[x, y] 25 (0, 0))) : (execOp a.eval o).run Try.prog W = .ok (.value (.agg #[x, y])) W := by
  have c0 : W.cell? ⟨g, 0, none⟩ = some x := blk_cell h 0
  have c1 : W.cell? ⟨g, 1, none⟩ = some y := blk_cell h 1
  unfold execOp
  simp only [ho, he]
  go_simp
theorem run_lenI {A : Option Addr} {n c : Nat} (ho : o.op = .call { callee := .builtin .len, args := #[p], argTypes := #[22] }) (he : a.eval p = .slice A n c) : (execOp a.eval o).run Try.prog W = .ok (.value (.int .i64 n)) W := by
  unfold execOp
  simp only [ho, resolve, List.map_toArray, List.map_cons, List.map_nil, he]
  go_simp
theorem run_indexI {g n c k : Nat} (ho : o.op = .indexAddr 22 p q) (he : a.eval p = .slice (some ⟨g, 0, none⟩) n c) (he2 : a.eval q = .int .i64 (k : Int)) (hk : k < n) : (execOp a.eval o).run Try.prog W = .ok (.value (.pointer (some ⟨g, 2 * k, none⟩))) W := by
  obtain ⟨i0, hi0, hq⟩ := Option.map_eq_some_iff.mp info_int
  simp only [Prod.mk.injEq] at hq
  obtain ⟨-, hsz, -⟩ := hq
  have e1 : (0 : Int) ≤ (k : Int) := by omega
  have e2 : (k : Int) < (n : Int) := by omega
  unfold execOp
  simp only [ho, he, he2]
  go_simp
theorem run_loadI {g k : Nat} {x y : Value} {cs : Array Value} (ho : o.op = .load 25 p) (he : a.eval p = .pointer (some ⟨g, 2 * k, none⟩)) (h : W.heap[g]? = some (.cells cs 25 (0, 0))) (hx : cs[2 * k]? = some x) (hy : cs[2 * k + 1]? = some y) : (execOp a.eval o).run Try.prog W = .ok (.value (.agg #[x, y])) W := by
  have c0 : W.cell? ⟨g, 2 * k, none⟩ = some x := (blk_cell h (2 * k)).trans hx
  have c1 : W.cell? ⟨g, 2 * k + 1, none⟩ = some y := (blk_cell h (2 * k + 1)).trans hy
  unfold execOp
  simp only [ho, he]
  go_simp
theorem run_rowI1 {b : Bool} {A : Option Addr} {n c : Nat} (ho : o.op = .buildSlice 22 1 #[(0, p)]) (he : a.eval p = .agg #[.bool b, .slice A n c]) : (execOp a.eval o).run Try.prog W = .ok (.value (.slice (some ⟨W.heap.size, 0, none⟩) 1 1)) (W.alloc (.cells #[.bool b, .slice A n c] 25 (0, 0))) := by
  unfold execOp
  simp only [ho, List.map_toArray, List.map_cons, List.map_nil, he]
  first | (go_simp; done) | (go_simp; rfl)
theorem run_rowI2 {b b' : Bool} {A A' : Option Addr} {n c n' c' : Nat} (ho : o.op = .buildSlice 22 2 #[(0, p), (1, q)]) (he : a.eval p = .agg #[.bool b, .slice A n c]) (he2 : a.eval q = .agg #[.bool b', .slice A' n' c']) : (execOp a.eval o).run Try.prog W = .ok (.value (.slice (some ⟨W.heap.size, 0, none⟩) 2 2)) (W.alloc (.cells #[.bool b, .slice A n c, .bool b', .slice A' n' c'] 25 (0, 0))) := by
  unfold execOp
  simp only [ho, List.map_toArray, List.map_cons, List.map_nil, he, he2]
  first | (go_simp; done) | (go_simp; rfl)
theorem run_rowI8 {p0 p1 p2 p3 p4 p5 p6 p7 : Operand} {b0 b1 b2 b3 b4 b5 b6 b7 : Bool} {s0 s1 s2 s3 s4 s5 s6 s7 : Sl} (ho : o.op = .buildSlice 22 8 #[(0, p0), (1, p1), (2, p2), (3, p3), (4, p4), (5, p5), (6, p6), (7, p7)]) (h0 : a.eval p0 = .agg #[.bool b0, s0.v]) (h1 : a.eval p1 = .agg #[.bool b1, s1.v]) (h2 : a.eval p2 = .agg #[.bool b2, s2.v]) (h3 : a.eval p3 = .agg #[.bool b3, s3.v]) (h4 : a.eval p4 = .agg #[.bool b4, s4.v]) (h5 : a.eval p5 = .agg #[.bool b5, s5.v]) (h6 : a.eval p6 = .agg #[.bool b6, s6.v]) (h7 : a.eval p7 = .agg #[.bool b7, s7.v]) :
    (execOp a.eval o).run Try.prog W = .ok (.value (.slice (some ⟨W.heap.size, 0, none⟩) 8 8)) (W.alloc (.cells #[.bool b0, s0.v, .bool b1, s1.v, .bool b2, s2.v, .bool b3, s3.v, .bool b4, s4.v, .bool b5, s5.v, .bool b6, s6.v, .bool b7, s7.v] 25 (0, 0))) := by
  unfold execOp
  simp only [ho, List.map_toArray, List.map_cons, List.map_nil, h0, h1, h2, h3, h4, h5, h6, h7]
  first | (go_simp; done) | (go_simp; rfl)
theorem step_rowv {b : Bool} {A : Option Addr} {n c : Nat} (hw : ∀ K, o.wp Try.prog a W K Q → wpOp Try.prog pre.toArray Q i K a W) (ho : o.op = .buildSlice 22 1 #[(0, p)]) (he : a.eval p = .agg #[.bool b, .slice A n c]) : wpOp Try.prog pre.toArray Q i (fun a' W' => ∃ u, a' = a.put o.dst u ∧ Below W.heap.size W W' ∧ (Sp.boxv true (fun g => .slice (some ⟨g, 0, none⟩) 1 1) (fun _ => rfl) 25 #[.bool b, .slice A n c]).New w0 W W' u) a W :=
  hw _ (wp_run (run_rowI1 ho he) ⟨_, rfl, below_alloc (Below.refl _ _) _, rfl, by decide, blk_new W _⟩)
theorem seq_rowI2 (Z : Zt w0 W ts bs) {b b' : Bool} {A A' : Option Addr} {n c n' c' : Nat} (hg : o.guard = none) (ho : o.op = .buildSlice 22 2 #[(0, p), (1, q)]) (he : a.eval p = .agg #[.bool b, .slice A n c]) (he2 : a.eval q = .agg #[.bool b', .slice A' n' c']) (hk : ∀ g W', Zt w0 W' ts ((g, 25, #[.bool b, .slice A n c, .bool b', .slice A' n' c']) :: bs) → wpList Try.prog ops Q r (a.put o.dst (.slice (some ⟨g, 0, none⟩) 2 2)) W') : wpList Try.prog ops Q (o :: r) a W :=
  list_op hg (wp_run (run_rowI2 ho he he2) (hk _ _ (Z.alloc 25 (by decide) _)))
theorem seq_rowI8 (Z : Zt w0 W ts bs) {p0 p1 p2 p3 p4 p5 p6 p7 : Operand} {b0 b1 b2 b3 b4 b5 b6 b7 : Bool} {s0 s1 s2 s3 s4 s5 s6 s7 : Sl} (hg : o.guard = none) (ho : o.op = .buildSlice 22 8 #[(0, p0), (1, p1), (2, p2), (3, p3), (4, p4), (5, p5), (6, p6), (7, p7)]) (h0 : a.eval p0 = .agg #[.bool b0, s0.v]) (h1 : a.eval p1 = .agg #[.bool b1, s1.v]) (h2 : a.eval p2 = .agg #[.bool b2, s2.v]) (h3 : a.eval p3 = .agg #[.bool b3, s3.v]) (h4 : a.eval p4 = .agg #[.bool b4, s4.v]) (h5 : a.eval p5 = .agg #[.bool b5, s5.v]) (h6 : a.eval p6 = .agg #[.bool b6, s6.v]) (h7 : a.eval p7 = .agg #[.bool b7, s7.v])
    (hk : ∀ g W', Zt w0 W' ts ((g, 25, #[.bool b0, s0.v, .bool b1, s1.v, .bool b2, s2.v, .bool b3, s3.v, .bool b4, s4.v, .bool b5, s5.v, .bool b6, s6.v, .bool b7, s7.v]) :: bs) → wpList Try.prog ops Q r (a.put o.dst (.slice (some ⟨g, 0, none⟩) 8 8)) W') : wpList Try.prog ops Q (o :: r) a W :=
  list_op hg (wp_run (run_rowI8 ho h0 h1 h2 h3 h4 h5 h6 h7) (hk _ _ (Z.alloc 25 (by decide) _)))
/-- two numbers are put behind eight: a new row -/
theorem seq_app10 (Z : Zt w0 W ts bs) (k j : Nat) {gl g2 : Nat} {cs ds : Array Value} (e : bs[k]? = some (gl, 25, cs)) (e2 : bs[j]? = some (g2, 25, ds)) (hcs : cs.size = 16) (hds : ds.size = 4) (hg : o.guard = none) (ho : o.op = .call { callee := .builtin .append, args := #[p, q], argTypes := #[22, 22] }) (he : a.eval p = .slice (some ⟨gl, 0, none⟩) 8 8) (he2 : a.eval q = .slice (some ⟨g2, 0, none⟩) 2 2)
    (hk : ∀ g cap zs W', Zt w0 W' ts ((g, 25, (cs.toList ++ ds.toList).toArray ++ zs) :: bs) → wpList Try.prog ops Q r (a.put o.dst (.slice (some ⟨g, 0, none⟩) 10 cap)) W') : wpList Try.prog ops Q (o :: r) a W := by
  obtain ⟨i0, hi, hq⟩ := Option.map_eq_some_iff.mp info_int
  simp only [Prod.mk.injEq] at hq
  obtain ⟨hz, hs, hy⟩ := hq
  have hB := (Z.bx k e).2.2
  have hB2 := (Z.bx j e2).2.2
  have cells : ∀ {g : Nat} {xs : Array Value}, W.heap[g]? = some (.cells xs 25 (0, 0)) → ∀ (n : Nat) (v : Value), xs.toList[n]? = some v → W.cell? ((⟨g, 0, none⟩ : Addr).add n) = some v := by
    intro g xs h n v hv
    have ha : (⟨g, 0, none⟩ : Addr).add n = ⟨g, n, none⟩ := by
      simp [Addr.add]
      try omega
    rw [ha]
    exact (blk_cell h n).trans (by simpa using hv)
  have hrun := run_append_grow (P := Try.prog) W 22 o.type 25 i0 (.agg #[.bool false, .slice none 0 0]) Try.underlying22 hi hz ⟨gl, 0, none⟩ 8 8 cs.toList (by rw [hs]; simp [hcs]) (cells hB) ⟨g2, 0, none⟩ 2 2 ds.toList (by rw [hs]; simp [hds]) (cells hB2) (by omega) (by omega) (growslice_fits (by omega) (by rw [hy]; omega))
  have hex : (execOp a.eval o).run Try.prog W = .ok (.value (.slice (some ⟨W.heap.size, 0, none⟩) (8 + 2) (grownCap W (8 + 2) 8 25))) (W.drew.alloc (.cells (cs.toList.toArray ++ ds.toList.toArray ++ Builtin.zeroCells (Value.cells (.agg #[.bool false, .slice none 0 0])) (grownCap W (8 + 2) 8 25 - (8 + 2))) 25 (0, 0))) := by
    unfold execOp
    simp [ho, resolve, invoke, builtin, he, he2, hrun, Result.andThen]
  have hcat : cs.toList.toArray ++ ds.toList.toArray = (cs.toList ++ ds.toList).toArray := by simp
  rw [hcat] at hex
  refine list_op hg (wp_run hex ?_)
  exact hk _ _ _ _ (Z.drew.alloc 25 (by decide) _)
end
/-- ten numbers of one's own lie in a row -/
structure Li (w W : World) (gn : Nat) (cs : Array Value) : Prop where
  bel : Below w.heap.size w W
  box : W.heap[gn]? = some (.cells cs 25 (0, 0))
  rows : ∀ k, k < 10 → ∃ (b : Bool) (A : Option Addr) (n c : Nat), cs[2 * k]? = some (.bool b) ∧ cs[2 * k + 1]? = some (.slice A n c) ∧ ∃ l : List Int, Kd.R (Kd.int .u32) 68 W w.heap.size (fun _ => True) (.slice A n c) l ∧ l.length ≤ 10000000
theorem Li.next {w W W' : World} {gn : Nat} {cs : Array Value} {v : Value} {l : List Int} (h : Li w W gn cs) (hb : Below w.heap.size W W') (hs : Sp8 W W' v.ownBlock) (hv : Kd.R (Kd.int .u32) 68 W w.heap.size (fun _ => True) v l) : Li w W' gn cs := by
  refine ⟨h.bel.trans hb, (hs.far gn (blk_lt h.box) ?_).trans h.box, fun k hk => ?_⟩
  · intro e
    obtain ⟨cells, hc⟩ := Kd.R_typed hv gn e.symm
    have := h.box
    rw [hc] at this
    injection this with this
    injection this with h1 h2 h3
    exact absurd h2 (by decide)
  · obtain ⟨b, A, n, c, e1, e2, l2, hr, hl⟩ := h.rows k hk
    obtain ⟨l', hr', hl'⟩ := row_spoil hr hs
    exact ⟨b, A, n, c, e1, e2, l', hr', by omega⟩
theorem app_get {A zs : Array Value} {i : Nat} {v : Value} (h : A[i]? = some v) : (A ++ zs)[i]? = some v := by
  have hi : i < A.size := (Array.getElem?_eq_some_iff.mp h).1
  rw [Array.getElem?_append_left hi]
  exact h
theorem ret_more {w0 w W : World} {P : Program} {fn : Func} {v : Value} {a : Act} (hB : Below w0.heap.size w0 w) (h : bodyPost P fn (RetV w v) .ret a W) : bodyPost P fn (RetV w0 v) .ret a W := by
  obtain ⟨hd, u, hr, he, hb⟩ := h
  exact ⟨hd, u, hr, he, hB.trans (hb.mono hB.size)⟩
end Go.Proofs.Ytmbmbmkmjbpcpaa.PA

