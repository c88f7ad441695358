/- spoil's state, and its steps; no program's code is named. -/
import Derived.Outline
import Derived.StillTail
import Derived.Test.YtmbmbmkmjbpcpaaZMem0K
import Derived.Test.YtmbmbmkmjbpcpaaPAx0K
namespace Go.Proofs.Ytmbmbmkmjbpcpaa.PA
open Go Go.Proofs.Ytmbmbmkmjbpcpaa.Nums Go.RowKit Go.Proofs.YtmbmbmkmjbpcpaaW.PrintWords Go.Proofs.YtmbmbmkmjbpcpaaW.PrintLast Go.Proofs.YtmbmbmkmjbpcpaaW.PrintMore
set_option linter.unusedVariables false
set_option linter.unusedSimpArgs false
/-- W is w but for v's block and what is new; a box of the call's own holds b and u; u's own row is of at most m words -/
structure Spo (w W : World) (base : Nat) (v : Value) (g1 : Nat) (b : Bool) (u u1 : Value) (m : Nat) : Prop where
  bx : Bx w W g1 25 #[.bool b, u]
  bel : Below base w W
  sp : Sp8 w W v.ownBlock
  row : ∃ l : List Int, Kd.R (Kd.int .u32) 68 W base (fun _ => True) u1 l ∧ l.length ≤ m
  blk : u1.ownBlock = v.ownBlock ∨ ∃ k, u1.ownBlock = some k ∧ w.heap.size ≤ k
  vb : base ≤ w.heap.size ∧ ∀ k, v.ownBlock = some k → k < w.heap.size ∧ ∃ cells, w.heap[k]? = some (.cells cells 68 (0, 0))
section
variable {w W : World} {base g1 m : Nat} {v u u1 : Value} {b : Bool} {ops : Array Oper} {o oA oB : Oper} {r : List Oper} {Q : Exit → Act → World → Prop} {a : Act} {p q s t : Operand}
theorem Spo.drew (Z : Spo w W base v g1 b u u1 m) : Spo w W.drew base v g1 b u u1 m :=
  ⟨Z.bx, ⟨Z.bel.os, Z.bel.tape, Z.bel.output, Z.bel.size, Z.bel.block⟩, ⟨Z.sp.size, Z.sp.far, Z.sp.near⟩, by obtain ⟨l, h, hl⟩ := Z.row; exact ⟨l, Kd.R_drew h, hl⟩, Z.blk, Z.vb⟩
theorem Sp8.alloc (w : World) (o : Obj) (b : Option Nat) : Sp8 w (w.alloc o) b :=
  ⟨by simp, fun k hk _ => Below.heap_alloc w o k hk, fun g cur _ hg => ⟨cur, (Below.heap_alloc w o g (blk_lt hg)).trans hg, rfl, fun _ => .inl rfl⟩⟩
theorem seq_boxS {A : Option Addr} {n c : Nat} (hv : ∃ l : List Int, Kd.R (Kd.int .u32) 68 w base (fun _ => True) (.slice A n c) l ∧ l.length ≤ m) (hb : base ≤ w.heap.size) (hg : o.guard = none) (ho : o.op = .box 25 p) (he : a.eval p = .agg #[.bool b, .slice A n c])
    (hk : ∀ g W', Spo w W' base (.slice A n c) g b (.slice A n c) (.slice A n c) m → wpList Try.prog ops Q r (a.put o.dst (.pointer (some ⟨g, 0, none⟩))) W') : wpList Try.prog ops Q (o :: r) a w := by
  refine list_op hg (wp_run (run_box2 ho he) (hk _ _ ?_))
  obtain ⟨l, hr, hl⟩ := hv
  have hbel := below_alloc (Below.refl w.heap.size w) (.cells #[.bool b, .slice A n c] 25 (0, 0))
  refine ⟨⟨Nat.le_refl _, by decide, blk_new w _⟩, hbel.mono hb, Sp8.alloc _ _ _, ⟨l, Kd.R_below hr hbel, hl⟩, .inl rfl, hb, fun k hk => ⟨Kd.R_lt hr k hk, Kd.R_typed hr k hk⟩⟩
theorem Spo.cell {A : Option Addr} {n c i : Nat} (Z : Spo w W base v g1 b u (.slice A n c) m) (hi : i < n) : ∃ g x, A = some ⟨g, 0, none⟩ ∧ W.cell? ((⟨g, 0, none⟩ : Addr).add i) = some (.int .u32 x) ∧ W.frozen? ((⟨g, 0, none⟩ : Addr).add i) = false ∧ ∃ cells, W.heap[g]? = some (.cells cells 68 (0, 0)) := by
  obtain ⟨l, hr, hl⟩ := Z.row
  obtain ⟨hn, -⟩ := Kd.R_reads' hr
  obtain ⟨g, cap, e, -, -, cells, hc⟩ := Kd.R_form hr (by omega)
  injection e with e1 e2 e3
  subst e1 e2 e3
  have h := Kd.R_celln 0 hr (i : Int) (by omega) (by omega)
  rw [Int.toNat_natCast] at h
  have ha : (⟨g, 0, none⟩ : Addr).add i = ⟨g, i, none⟩ := by
    simp [Addr.add]
    try omega
  rw [← ha] at h
  exact ⟨g, _, rfl, h.1, h.2, cells, hc⟩
theorem Spo.put {g n c i : Nat} {x : Int} (Z : Spo w W base (.slice (some ⟨g, 0, none⟩) n c) g1 b u (.slice (some ⟨g, 0, none⟩) n c) m) (hi : i < n) : Spo w (W.setCell ((⟨g, 0, none⟩ : Addr).add i) (.int .u32 x)) base (.slice (some ⟨g, 0, none⟩) n c) g1 b u (.slice (some ⟨g, 0, none⟩) n c) m := by
  have ha : (⟨g, 0, none⟩ : Addr).add i = ⟨g, i, none⟩ := by
    simp [Addr.add]
    try omega
  rw [ha]
  obtain ⟨l, hr, hl⟩ := Z.row
  obtain ⟨hn, -⟩ := Kd.R_reads' hr
  obtain ⟨g', cap, e, hbg, -, cells, hc⟩ := Kd.R_form hr (by omega)
  injection e with e1 e2 e3
  injection e1 with e1
  injection e1 with e1
  subst e1
  have hp := Kd.R_putg hr (i : Int) x
  rw [Int.toNat_natCast] at hp
  have hs : Sp8 W (W.setCell ⟨g, i, none⟩ (.int .u32 x)) (some g) := Sp8.put hc
  have hne : g1 ≠ g := by
    rintro rfl
    have := Z.bx.2.2
    rw [hc] at this
    injection this with this
    injection this with h1 h2 h3
    exact Z.bx.2.1 h2.symm
  refine ⟨Z.bx.far hne _ _, Z.bel.trans (own_below (v := .slice (some ⟨g, 0, none⟩) n c) (Nat.le_trans Z.vb.1 Z.sp.size) hp.2 (fun k hk => by injection hk with hk; subst hk; exact hbg)), Z.sp.trans hs, ⟨_, hp.1, by rw [List.length_set]; exact hl⟩, .inl rfl, Z.vb⟩
theorem run_storeU {ad : Addr} {x y : Int} (ho : o.op = .store 68 p q) (he : a.eval p = .pointer (some ad)) (hv : a.eval q = .int .u32 y) (hc : W.cell? ad = some (.int .u32 x)) (hf : W.frozen? ad = false) : (execOp a.eval o).run Try.prog W = .ok .skip (W.setCell ad (.int .u32 y)) := by
  unfold execOp
  simp only [ho, he, hv]
  go_simp
theorem run_convIU {x : Int} (ho : o.op = .convert 3 68 p) (he : a.eval p = .int .i64 x) : (execOp a.eval o).run Try.prog W = .ok (.value (.int .u32 (IntKind.u32.wrap x))) W := by
  unfold execOp
  simp only [ho, he]
  go_simp
theorem run_rowU1 {x : Int} (ho : o.op = .buildSlice 23 1 #[(0, p)]) (he : a.eval p = .int .u32 x) : (execOp a.eval o).run Try.prog W = .ok (.value (.slice (some ⟨W.heap.size, 0, none⟩) 1 1)) (W.alloc (.cells #[.int .u32 x] 68 (0, 0))) := by
  unfold execOp
  simp only [ho, List.map_toArray, List.map_cons, List.map_nil, he]
  first | (go_simp; done) | (go_simp; rfl)
theorem stl_is {v : Value} (hg : o.guard = none) (h : (execOp a.eval o).run Try.prog W = .ok (.value v) W) {K : Act → Prop} (hk : wpStill Try.prog ops W K r (a.put o.dst v)) : wpStill Try.prog ops W K (o :: r) a := by
  refine wpStill_step fun K' hK => ?_
  simp only [Region.wanted, hg, if_true]
  unfold Oper.still
  rw [h, Oper.stillUpon_value]
  exact hK _ hk
/-- a word is put behind the row that the box holds -/
theorem seq_appS (Z : Spo w W base v g1 b u u m) {x : Int} (hgB : oB.guard = none) (hgA : oA.guard = none) (hoB : oB.op = .buildSlice 23 1 #[(0, p)]) (he : a.eval p = .int .u32 x) (hm : m ≤ 20000000)
    (hoA : oA.op = .call { callee := .builtin .append, args := #[s, t], argTypes := #[23, 23] }) (hs : (a.put oB.dst (.slice (some ⟨W.heap.size, 0, none⟩) 1 1)).eval s = u) (ht : (a.put oB.dst (.slice (some ⟨W.heap.size, 0, none⟩) 1 1)).eval t = .slice (some ⟨W.heap.size, 0, none⟩) 1 1)
    (hk : ∀ (h : Nat) (u1 : Sl) W', Spo w W' base v g1 b u u1.v (m + 1) → wpList Try.prog ops Q r ((a.put oB.dst (.slice (some ⟨h, 0, none⟩) 1 1)).put oA.dst u1.v) W') : wpList Try.prog ops Q (oB :: oA :: r) a W := by
  refine list_op hgB (wp_run (run_rowU1 hoB he) ?_)
  obtain ⟨l, hr, hl⟩ := Z.row
  have hbel := below_alloc (Below.refl W.heap.size W) (.cells #[.int .u32 x] 68 (0, 0))
  have hbW : base ≤ W.heap.size := Nat.le_trans Z.vb.1 Z.sp.size
  have hbW1 : base ≤ (W.alloc (.cells #[.int .u32 x] 68 (0, 0))).heap.size := Nat.le_trans hbW hbel.size
  have hr1 := Kd.R_below hr hbel
  have hcell : (W.alloc (.cells #[.int .u32 x] 68 (0, 0))).cell? ⟨W.heap.size, 0, none⟩ = some (.int .u32 x) := blk_cell (blk_new W _) 0
  obtain ⟨u1, W2, hrun, hr2, hsp, hb2, hat⟩ := run_appU (ty := oA.type) hr1 (by omega) hbW1 hcell
  obtain ⟨A1, c1, rfl⟩ := Kd.R_slice hr2
  have hlenU : (l ++ [x]).length ≤ m + 1 := by simp; omega
  generalize hN : (l ++ [x]).length = N at *
  have hex : (execOp (a.put oB.dst (.slice (some ⟨W.heap.size, 0, none⟩) 1 1)).eval oA).run Try.prog (W.alloc (.cells #[.int .u32 x] 68 (0, 0))) = .ok (.value (.slice A1 N c1)) W2 := by
    unfold execOp
    simp [hoA, resolve, invoke, builtin, hs, ht, hrun, Result.andThen]
  refine list_op hgA (wp_run hex ?_)
  refine hk W.heap.size ⟨A1, N, c1⟩ W2 ?_
  have hu : ∀ k, u.ownBlock = some k → k < W.heap.size ∧ ∃ cells, W.heap[k]? = some (.cells cells 68 (0, 0)) := fun k hk => ⟨Kd.R_lt hr k hk, Kd.R_typed hr k hk⟩
  have hne : some g1 ≠ u.ownBlock := by
    intro e
    obtain ⟨-, cells, hc⟩ := hu g1 e.symm
    have := Z.bx.2.2
    rw [hc] at this
    injection this with this
    injection this with h1 h2 h3
    exact Z.bx.2.1 h2.symm
  have hg1 := Z.bx.lt
  refine ⟨⟨Z.bx.1, Z.bx.2.1, (hsp.far g1 (by simp; omega) hne).trans ((Below.heap_alloc _ _ _ hg1).trans Z.bx.2.2)⟩, (Z.bel.trans (hbel.mono hbW)).trans hb2, ?_, ⟨_, hr2, by rw [hN]; exact hlenU⟩, ?_, Z.vb⟩
  · have h0 : Sp8 w (W.alloc (.cells #[.int .u32 x] 68 (0, 0))) v.ownBlock := Z.sp.trans (Sp8.alloc _ _ _)
    rcases Z.blk with e | ⟨k, e, hk⟩
    · rw [e] at hsp
      exact h0.trans hsp
    · exact h0.more hsp (fun g hg => by rw [e] at hg; injection hg with hg; omega)
  · rcases hat with e | ⟨k, e, hk⟩
    · rw [show (Sl.v ⟨A1, N, c1⟩) = .slice A1 N c1 from rfl, e]
      exact Z.blk
    · refine .inr ⟨k, e, ?_⟩
      have h1 := Z.sp.size
      have h2 := hbel.size
      omega
/-- the new row is laid into the box -/
theorem seq_storeS {A : Option Addr} {n c : Nat} (Z : Spo w W base v g1 b u (.slice A n c) m) (hg : o.guard = none) (ho : o.op = .store 23 p q) (he : a.eval p = .pointer (some ⟨g1, 1, none⟩)) (hv : a.eval q = .slice A n c)
    (hk : ∀ W', Spo w W' base v g1 b (.slice A n c) (.slice A n c) m → wpList Try.prog ops Q r (a.put o.dst undef) W') : wpList Try.prog ops Q (o :: r) a W := by
  obtain ⟨c0, c1, f0, f1⟩ := Z.bx.two
  have hrun : (execOp a.eval o).run Try.prog W = .ok .skip (W.setCell ⟨g1, 1, none⟩ (.slice A n c)) := by
    unfold execOp
    simp only [ho, he, hv]
    go_simp
  refine list_op hg (wp_mute hrun (hk _ ?_))
  obtain ⟨l, hr, hl⟩ := Z.row
  have hne : ∀ k, k < W.heap.size → (∃ cells, W.heap[k]? = some (.cells cells 68 (0, 0))) → k ≠ g1 := by
    rintro k _ ⟨cells, hc⟩ rfl
    have := Z.bx.2.2
    rw [hc] at this
    injection this with this
    injection this with h1 h2 h3
    exact Z.bx.2.1 h2.symm
  have hsz : (W.setCell ⟨g1, 1, none⟩ (.slice A n c)).heap.size = W.heap.size := by simp [World.setCell]
  refine ⟨Z.bx.set 1 (.slice A n c), ?_, ?_, ⟨l, Kd.R_mono (Kd.R_move (Kd.R_bound hr) (fun k hk => ?_)) (fun _ _ => trivial), hl⟩, Z.blk, Z.vb⟩
  · have h1 := Z.bx.1
    have h2 := Z.vb.1
    exact ⟨Z.bel.os, Z.bel.tape, Z.bel.output, by rw [hsz]; exact Z.bel.size, fun k hk => (Below.heap_setCell _ _ _ _ (show k ≠ g1 by omega)).trans (Z.bel.block k hk)⟩
  · refine Z.sp.more (b2 := some g1) ⟨by rw [hsz]; exact Nat.le_refl _, fun k _ hk => Below.heap_setCell _ _ _ _ (fun e => hk (by rw [e])), fun g cur e2 h2 => ?_⟩ (fun g hg => by injection hg with hg; subst hg; exact Z.bx.1)
    injection e2 with e2
    subst e2
    have := Z.bx.2.2
    rw [h2] at this
    injection this with this
    injection this with h3 h4 h5
    exact absurd h4.symm Z.bx.2.1
  · obtain ⟨-, -, hlt, q, hq, cells, hc⟩ := hk
    have hq : q = 68 := by simpa [Kd.int, Kd.scalar] using hq
    subst hq
    exact Below.heap_setCell _ _ _ _ (hne k hlt ⟨cells, hc⟩)
end
end Go.Proofs.Ytmbmbmkmjbpcpaa.PA

