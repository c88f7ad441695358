/- The laws' own helpers: a number with limbs of its own; the same number; and a loop by a state. -/
import Derived.Outline
import Derived.LoopN
import Derived.Test.YtndopanohhdfgaaZCK
import Derived.Test.YtndopanohhdfgaaZBK
import Derived.Test.YtndopanohhdfgaaPAx0K
import Derived.WalkKit
import Derived.ProofKit
import Derived.OpenShut
import Derived.ChangeSlices
import Derived.Test.YtndopanohhdfgaaRows
import Derived.ChangeSame
import Derived.RowKit
namespace Go.Proofs.Ytndopanohhdfgaa.PA
open Go Go.Proofs.Ytndopanohhdfgaa.Nums Go.RowKit Go.Proofs.YtndopanohhdfgaaW.PrintWords Go.Proofs.YtndopanohhdfgaaW.PrintLast Go.Proofs.YtndopanohhdfgaaW.PrintMore
set_option linter.unusedVariables false
set_option linter.unusedSimpArgs false
/-- a loop by a state and how far it still has to go -/
theorem wp_loop_s {P : Program} {Q : Exit → Act → World → Prop} {a : Act} {w : World} {c : Code} {α : Type} (S : α → Act → World → Prop) (m : α → Nat) (x0 : α) (h0 : S x0 a w)
    (round : ∀ x a w, S x a w → c.wp P (Exit.then (fun a' w' => ∃ y, m y < m x ∧ S y a' w') Q) a w) : (Code.loop c).wp P Q a w := by
  have key : ∀ n x a w, m x < n → S x a w → Code.rounds P c Q n a w := by
    intro n
    induction n with
    | zero => intro x a w h; omega
    | succ n ih =>
      intro x a w hm hS
      refine wp_mono (round x a w hS) ?_
      intro e a' w' h
      cases e with
      | normal =>
        obtain ⟨y, hy, hS'⟩ := h
        exact ih y a' w' (by omega) hS'
      | _ => exact h
  exact wp_loop_rounds (m x0 + 1) (key _ x0 a w (by omega) h0)
/-- a slice of words that reads as l -/
def tyR (l : List Int) : World → Value → Prop := fun w v => Rd w v l
theorem Rd.has {w : World} {v : Value} {l : List Int} (h : Rd w v l) : Has w w [(v, tyR l)] := has_one fun w' k => h.came w' k
theorem Rd.num {w : World} {b : Bool} {v : Value} {l : List Int} (h : Rd w v l) (ho : Ok l) (hl : l.length ≤ 10000000) : NumV w b v (zof b (val l)) := ⟨val l, ⟨l, h, ho, hl, rfl⟩, rfl⟩
section
variable {w0 w W : World} {ts : List (Value × (World → Value → Prop))} {bs : List (Nat × TypeId × Array Value)} {P : Program} {f : FuncId} {args : Array Value} {b : Bool} {l : List Int} {a : Act} {fn : Func} {p g : Nat} {v : Value}
theorem Zt.rd (Z : Zt w0 w ts bs) (i : Nat) (e : ts[i]? = some (v, tyR l)) : Rd w v l := Z.get i e
theorem Zt.rdO (Z : Zt w0 w ts bs) (i : Nat) (e : ts[i]? = some (v, tyO w0 l)) : Rd w v l := Rd.of_row (Z.row i e)
end
theorem has_cons {w0 W : World} {v : Value} {T : World → Value → Prop} {ts : List (Value × (World → Value → Prop))} (h : ∀ w', Keeps w0 W w' → T w' v) (k : Has w0 W ts) : Has w0 W ((v, T) :: ts) := (has_one h).append k
theorem Zt.retype {w0 W : World} {ts ts' : List (Value × (World → Value → Prop))} {bs : List (Nat × TypeId × Array Value)} (Z : Zt w0 W ts bs) (h : Has w0 W ts') : Zt w0 W ts' bs := ⟨Z.below, h, Z.box, Z.apart⟩
theorem Rd.cell {w : World} {ad : Addr} {n c i : Nat} {l : List Int} (h : Rd w (.slice (some ad) n c) l) (hi : i < l.length) : w.cell? (ad.add i) = some (.int .u32 (l.getD i 0)) := by
  obtain ⟨A, c', e, h1, h2⟩ := h
  injection e with e1 e2 e3
  subst e1
  obtain ⟨-, -, h5⟩ := Kd.reads_of_C (d := (0 : Int)) h2
  obtain ⟨ad2, e, h6⟩ := h5 (by omega)
  injection e with e
  subst e
  exact h6 i hi
theorem Rd.nonnil {w : World} {A : Option Addr} {n c i : Nat} {l : List Int} (h : Rd w (.slice A n c) l) (hi : i < l.length) : ∃ ad, A = some ad := by
  obtain ⟨A', c', e, h1, h2⟩ := h
  injection e with e1 e2 e3
  subst e1
  obtain ⟨-, -, h5⟩ := Kd.reads_of_C (d := (0 : Int)) h2
  obtain ⟨ad2, e, h6⟩ := h5 (by omega)
  exact ⟨ad2, e⟩
section
variable {a : Act} {o : Oper} {W : World} {p q : Operand}
theorem run_index {ad : Addr} {n c i : Nat} (ho : o.op = .indexAddr 22 p q) (he : a.eval p = .slice (some ad) n c) (he2 : a.eval q = .int .i64 i) (hi : i < n) : (execOp a.eval o).run Try.prog W = .ok (.value (.pointer (some (ad.add i)))) W := by
  obtain ⟨i0, hi0, -, hsz, -⟩ := info_parts info68
  have e1 : (0 : Int) ≤ (i : Int) := by omega
  have e2 : (i : Int) < (n : Int) := by omega
  unfold execOp
  simp only [ho, he, he2]
  go_simp
theorem run_loadU {ad : Addr} {x : Int} (ho : o.op = .load 68 p) (he : a.eval p = .pointer (some ad)) (hc : W.cell? ad = some (.int .u32 x)) : (execOp a.eval o).run Try.prog W = .ok (.value (.int .u32 x)) W := by
  unfold execOp
  simp only [ho, he]
  go_simp
theorem run_neqU {x y : Int} (ho : o.op = .binOp .neq 68 p q 68) (he : a.eval p = .int .u32 x) (he2 : a.eval q = .int .u32 y) : (execOp a.eval o).run Try.prog W = .ok (.value (.bool (decide (x ≠ y)))) W := by
  unfold execOp
  simp only [ho, he, he2]
  go_simp
  try (first | rfl | (by_cases h : x = y <;> simp [h]))
end
end Go.Proofs.Ytndopanohhdfgaa.PA


/- Two numbers are the same, limb by limb. -/
namespace Go.Proofs.Ytndopanohhdfgaa.PA
open Go Go.Proofs.Ytndopanohhdfgaa.Nums Go.RowKit Go.Proofs.YtndopanohhdfgaaW.PrintWords Go.Proofs.YtndopanohhdfgaaW.PrintLast Go.Proofs.YtndopanohhdfgaaW.PrintMore
set_option linter.unusedVariables false
set_option linter.unusedSimpArgs false
theorem eq_yes {b1 b2 : Bool} {l1 l2 : List Int} {i : Nat} (h1 : (b1 != b2) = false) (h2 : decide ((l1.length : Int) ≠ (l2.length : Int)) = false) (h3 : decide ((i : Int) < (l1.length : Int)) = false) (hI : i ≤ l1.length ∧ ∀ j, j < i → l1.getD j 0 = l2.getD j 0) : Value.bool true = .bool (decide (b1 = b2 ∧ l1 = l2)) := by
  have h2' := of_decide_eq_false h2
  have h3' := of_decide_eq_false h3
  have hb : b1 = b2 := by simpa using h1
  have hl : l1 = l2 := by
    refine List.ext_getElem (by omega) fun j hj hj2 => ?_
    have := hI.2 j (by omega)
    simpa [List.getD, hj, hj2] using this
  simp [hb, hl]
theorem eq_no1 {b1 b2 : Bool} {l1 l2 : List Int} (h1 : (b1 != b2) = true) : Value.bool false = .bool (decide (b1 = b2 ∧ l1 = l2)) := by
  have : ¬ b1 = b2 := by simpa using h1
  simp [this]
theorem eq_no2 {b1 b2 : Bool} {l1 l2 : List Int} (h2 : decide ((l1.length : Int) ≠ (l2.length : Int)) = true) : Value.bool false = .bool (decide (b1 = b2 ∧ l1 = l2)) := by
  have h := of_decide_eq_true h2
  have : ¬ l1 = l2 := by rintro rfl; exact h rfl
  simp [this]
theorem eq_no3 {b1 b2 : Bool} {l1 l2 : List Int} {i : Nat} (h2 : decide (l1.getD i 0 ≠ l2.getD i 0) = true) : Value.bool false = .bool (decide (b1 = b2 ∧ l1 = l2)) := by
  have h := of_decide_eq_true h2
  have : ¬ l1 = l2 := by rintro rfl; exact h rfl
  simp [this]
theorem eq_more {l1 l2 : List Int} {i : Nat} (h : ∀ j, j < i → l1.getD j 0 = l2.getD j 0) (h2 : decide (l1.getD i 0 ≠ l2.getD i 0) = false) : ∀ j, j < i + 1 → l1.getD j 0 = l2.getD j 0 := by
  intro j hj
  rcases Nat.lt_or_ge j i with hji | hji
  · exact h j hji
  · have : j = i := by omega
    subst this
    have := of_decide_eq_false h2
    exact Classical.not_not.mp this
theorem run_inc {a : Act} {o : Oper} {W : World} {p : Operand} {i : Nat} (ho : o.op = .binOp .add 3 p (.const (.int .i64 1)) 3) (he : a.eval p = .int .i64 i) (hi : i < 4611686018427387904) : (execOp a.eval o).run Try.prog W = .ok (.value (.int .i64 ((i + 1 : Nat) : Int))) W := by
  have h := run_add (W := W) ho he (show a.eval (.const (.int .i64 1)) = .int .i64 1 from rfl)
  rw [w64 (by omega) (by omega)] at h
  exact h
end Go.Proofs.Ytndopanohhdfgaa.PA


/- What the bound of an Upto statement gives: the lengths of slices and texts that come in; no further condition. (Its first lemmas began as the given UptoLemmas.lean.) -/
namespace Go.Proofs.Ytndopanohhdfgaa.bulks
open Go.ChangeShapes Go.WideShapes Go.ChangeAt Go.RowKit
theorem one_le {H : Type} (d : DataW H) : 1 ≤ Rows.uptoBulk d := by
  cases d with
  | lit l => cases l <;> simp [Rows.uptoBulk]
  | nil => simp [Rows.uptoBulk]
  | ptr d => simp [Rows.uptoBulk]
  | slice elems spare => simp [Rows.uptoBulk]
  | agg parts => simp [Rows.uptoBulk]
  | iface t d => simp [Rows.uptoBulk]
  | map entries => simp [Rows.uptoBulk]
  | held h => simp [Rows.uptoBulk]
theorem part_le {H : Type} {d : DataW H} {l : List (DataW H)} (h : d ∈ l) : Rows.uptoBulk d ≤ Rows.uptoBulkAll l := by
  induction l with
  | nil => cases h
  | cons x r ih =>
    simp only [Rows.uptoBulkAll]
    cases List.mem_cons.1 h with
    | inl e => subst e; omega
    | inr e => have := ih e; omega
theorem length_le {H : Type} (l : List (DataW H)) : l.length ≤ Rows.uptoBulkAll l := by
  induction l with
  | nil => simp [Rows.uptoBulkAll]
  | cons x r ih => have := one_le x; simp only [Rows.uptoBulkAll, List.length_cons]; omega
theorem slice_le {H : Type} (elems spare : List (DataW H)) : elems.length + spare.length + 1 ≤ Rows.uptoBulk (.slice elems spare) := by
  have h1 := length_le elems
  have h2 := length_le spare
  simp only [Rows.uptoBulk]
  omega
theorem bound {H : Type} {l : List (DataW H)} (hk : Rows.uptoSmall H l = true) : Rows.uptoBulkAll l ≤ 1048576 := of_decide_eq_true hk
def IsRow (k : IntKind) (w : World) (a : Option Addr) (len cap : Nat) (zs : List Int) : Prop :=
  (a = none ∧ len = 0 ∧ cap = 0 ∧ zs = []) ∨
  ∃ x, a = some x ∧ len ≤ cap ∧ cap ≤ maxLen ∧ zs.length = cap ∧ (∀ i, i < zs.length → w.cell? (x.add i) = some (.int k (zs.getD i 0))) ∧ ∀ n ∈ zs, (Lit.int k n).wf = true
end Go.Proofs.Ytndopanohhdfgaa.bulks


/- What a row gives of an argument that is a whole number: its sign, its limbs, their bound; no further condition. -/
namespace Go.Proofs.Ytndopanohhdfgaa.bulks
open Go.ChangeShapes Go.WideShapes Go.ChangeAt Go.RowKit
theorem num_small {H : Type} {d : DataW H} {ds : List (DataW H)} {len : Nat} (hk : Rows.uptoSmall H ds = true) (hd : d ∈ ds) (h : len ≤ Rows.uptoBulk d) : len ≤ 1048576 := by
  have h1 := part_le hd
  have h2 := bound hk
  omega
end Go.Proofs.Ytndopanohhdfgaa.bulks
namespace Go.Proofs.Ytndopanohhdfgaa.PA
open Go Go.Proofs.Ytndopanohhdfgaa.Nums Go.RowKit Go.Proofs.YtndopanohhdfgaaW.PrintWords Go.Proofs.YtndopanohhdfgaaW.PrintLast Go.Proofs.YtndopanohhdfgaaW.PrintMore
theorem row_rd {w : World} {a : Option Addr} {len cap : Nat} {z : List Int} (h : bulks.IsRow .u32 w a len cap z) (hb : len ≤ 1048576) : ∃ l, Rd w (.slice a len cap) l ∧ Ok l ∧ l.length ≤ 1048576 := by
  obtain ⟨l, rfl, hr, hm, hw, hc⟩ := ReadsInt.ofRowC h
  exact ⟨l, ⟨a, cap, rfl, hc, C_ints hr⟩, ok_of hw, hb⟩
/-- an argument's number -/
theorem arg_num {b : Bool} {l : List Int} (ho : Ok l) (hl : l.length ≤ 1048576) : ∃ z, (∀ (W : World) (v : Value), Rd W v l → NumV W b v z) ∧ Bd 33554432 z ∧ z = zof b (val l) := by
  refine ⟨zof b (val l), fun W v h => h.num ho (by omega), ?_, rfl⟩
  have h1 := bl_len ho hl
  have h2 := bl_lt (val l).toNat
  have h3 := val_nonneg ho
  refine Bd.zof ?_
  have h4 : Bd (bl (val l).toNat) (val l) := by
    unfold Bd
    rw [show (val l).natAbs = (val l).toNat by omega]
    exact h2
  exact h4.mono h1
theorem seq_callw {w0 W : World} {ts : List (Value × (World → Value → Prop))} {bs : List (Nat × TypeId × Array Value)} {a : Act} {o : Oper} {ops : Array Oper} {r : List Oper} {Q : Exit → Act → World → Prop} {P : Program} (Z : Zt w0 W ts bs) {f : FuncId} {fn : Func} {xs : Array Operand} {tys : Array TypeId} {α : Type} {F : α → Value} {T : α → List (Value × (World → Value → Prop))} (hw : o.wp P a W (wpList P ops Q r) Q → wpList P ops Q (o :: r) a W) (hop : o.op = .call { callee := .value (.func f), args := xs, argTypes := tys }) (hf : P.funcs[f]? = some fn) (hname : (fn.name == "runtime.NumGoroutine") = false) (hb : fn.body.isSome = true)
    {args : Array Value} (hargs : xs.map a.eval = args) (h : Calls P f args W fun e W' => ∃ v, e = .returned v ∧ Below W.heap.size W W' ∧ (Sp.val α F T).New w0 W W' v)
    (hk : ∀ x W', Zt w0 W' (T x ++ ts) bs → wpList P ops Q r (a.put o.dst (F x)) W') : wpList P ops Q (o :: r) a W :=
  hw (wp_enter hop hf hname hb hargs h fun e W' ⟨v, he, hb, x, hx, hT⟩ => ⟨v, he, by rw [hx]; exact hk x W' ((Z.step hb).more hT)⟩)
end Go.Proofs.Ytndopanohhdfgaa.PA


/- What a row gives of an argument that is a rational: two numbers; no further condition. -/
namespace Go.Proofs.Ytndopanohhdfgaa.bulks
open Go.ChangeShapes Go.WideShapes Go.ChangeAt Go.RowKit
theorem num_cells {H : Type} {enc : TypeId × Value → H} {P : Program} {W : World} {held : Bool} {t e : TypeId} {f0 f1 : Field} {x y : Value} {n : Nat} {q : DataW H × List MemPlace}
    (hu : P.underlying t = some (.struct #[f0, f1])) (h0 : f0.offset = 0) (h1 : f1.offset = 1) (c0 : P.cellsOf f0.type = 1) (c1 : P.cellsOf f1.type = 1)
    (u0 : P.underlying f0.type = some .bool) (u1 : P.underlying f1.type = some (.slice e)) (he : P.underlying e = some (.int .u32)) (hc : P.cellsOf e = 1)
    (hf : DataW.trod enc P W 0 (fun _ => true) held n t [x, y] = some q) :
    ∃ (b : Bool) (a : Option Addr) (len cap : Nat) (zs : List Int), x = .bool b ∧ y = .slice a len cap ∧ IsRow .u32 W a len cap zs ∧ len ≤ Rows.uptoBulk q.1 := by
  obtain ⟨y0, y1, n, hx, hl, hp0, hp1⟩ := trod_struct2 hu hf
  have e0 : ([x, y].drop f0.offset).take (P.cellsOf f0.type) = [x] := by rw [h0, c0]; rfl
  have e1 : ([x, y].drop f1.offset).take (P.cellsOf f1.type) = [y] := by rw [h1, c1]; rfl
  rw [e0] at hp0
  rw [e1] at hp1
  obtain ⟨b, hb, -⟩ := DataW.trod_bool u0 hp0
  injection hb with hb
  subst hb
  subst hx
  have hle : Rows.uptoBulk y1.1 ≤ Rows.uptoBulk (.agg [y0.1, y1.1]) := by
    simp [Rows.uptoBulk, Rows.uptoBulkAll]
    omega
  rcases open_ints u1 he hc hp1 with ⟨hcs, _⟩ | ⟨ad, len, cap, zs, hcs, _, hl2, hm, hz, hx2, hcell, hwz⟩
  · injection hcs with hcs
    subst hcs
    exact ⟨b, none, 0, 0, [], rfl, rfl, .inl ⟨rfl, rfl, rfl, rfl⟩, Nat.zero_le _⟩
  · injection hcs with hcs
    subst hcs
    refine ⟨b, some ad, len, cap, zs, rfl, rfl, .inr ⟨ad, rfl, hl2, hm, by simpa using hz, hcell, hwz⟩, Nat.le_trans ?_ hle⟩
    rw [hx2]
    have h3 := slice_le (H := H) (lits .u32 (zs.take len)) (lits .u32 (zs.drop len))
    have h4 : (lits (H := H) .u32 (zs.take len)).length + (lits (H := H) .u32 (zs.drop len)).length = zs.length := by
      simp [lits]
      omega
    have h5 : len ≤ zs.length := by
      have : zs.length = cap := by simpa using hz
      omega
    show len ≤ Rows.uptoBulk (.slice (lits .u32 (zs.take len)) (lits .u32 (zs.drop len)))
    omega
theorem open_rat {H : Type} {enc : TypeId × Value → H} {P : Program} {W : World} {r : Reach} {bs : Nat} {held : Bool} {T e : TypeId} {F0 F1 f0 f1 : Field} {v : Value} {d : DataW H} {ps : List MemPlace}
    (hU : P.underlying T = some (.struct #[F0, F1])) (H0 : F0.offset = 0) (H1 : F1.offset = 2) (HT : F1.type = F0.type) (C0 : P.cellsOf F0.type = 2) (CT : P.cellsOf T = 4)
    (hu : P.underlying F0.type = some (.struct #[f0, f1])) (h0 : f0.offset = 0) (h1 : f1.offset = 1) (c0 : P.cellsOf f0.type = 1) (c1 : P.cellsOf f1.type = 1)
    (u0 : P.underlying f0.type = some .bool) (u1 : P.underlying f1.type = some (.slice e)) (he : P.underlying e = some (.int .u32)) (hc : P.cellsOf e = 1)
    (hval : Value.okWide P W r bs T v) (h : DataW.Trod enc P W 0 (fun _ => true) held T v d ps) :
    ∃ (b : Bool) (a : Option Addr) (len cap : Nat) (zs : List Int) (b' : Bool) (a' : Option Addr) (len' cap' : Nat) (zs' : List Int), v = .agg #[.bool b, .slice a len cap, .bool b', .slice a' len' cap'] ∧ IsRow .u32 W a len cap zs ∧ len ≤ Rows.uptoBulk d ∧ IsRow .u32 W a' len' cap' zs' ∧ len' ≤ Rows.uptoBulk d := by
  obtain ⟨cs, rfl, hs⟩ := okWide_struct hU hval
  obtain ⟨fuel, hf⟩ := h
  obtain ⟨y0, y1, n, hx, hl, hp0, hp1⟩ := trod_struct2 hU hf
  rw [CT] at hs
  obtain ⟨x, y, z, u, rfl⟩ : ∃ x y z u, cs = #[x, y, z, u] := by
    obtain ⟨l⟩ := cs
    match l, hs with
    | [x, y, z, u], _ => exact ⟨x, y, z, u, rfl⟩
  have e0 : ((Value.cells (.agg #[x, y, z, u])).toList.drop F0.offset).take (P.cellsOf F0.type) = [x, y] := by rw [H0, C0]; rfl
  have e1 : ((Value.cells (.agg #[x, y, z, u])).toList.drop F1.offset).take (P.cellsOf F1.type) = [z, u] := by rw [H1, HT, C0]; rfl
  rw [e0] at hp0
  rw [e1, HT] at hp1
  obtain ⟨hd, -⟩ := Prod.mk.inj hx
  subst hd
  have hle0 : Rows.uptoBulk y0.1 ≤ Rows.uptoBulk (.agg [y0.1, y1.1]) := by
    simp [Rows.uptoBulk, Rows.uptoBulkAll]
    omega
  have hle1 : Rows.uptoBulk y1.1 ≤ Rows.uptoBulk (.agg [y0.1, y1.1]) := by
    simp [Rows.uptoBulk, Rows.uptoBulkAll]
    omega
  obtain ⟨b, a, len, cap, zs, rfl, rfl, hr, hb⟩ := num_cells hu h0 h1 c0 c1 u0 u1 he hc hp0
  obtain ⟨b', a', len', cap', zs', rfl, rfl, hr', hb'⟩ := num_cells hu h0 h1 c0 c1 u0 u1 he hc hp1
  exact ⟨b, a, len, cap, zs, b', a', len', cap', zs', rfl, hr, Nat.le_trans hb hle0, hr', Nat.le_trans hb' hle1⟩
end Go.Proofs.Ytndopanohhdfgaa.bulks

