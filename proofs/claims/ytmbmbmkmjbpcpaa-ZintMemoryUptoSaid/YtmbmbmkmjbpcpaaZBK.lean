/- What one operation does to what a call holds: boxes, loads, stores, calls; no program's code is named. -/
import Derived.Outline
import Derived.Test.YtmbmbmkmjbpcpaaZAK
import Derived.Test.YtmbmbmkmjbpcpaaZNK
import Derived.Test.YtmbmbmkmjbpcpaaPAx0K
namespace Go.Proofs.Ytmbmbmkmjbpcpaa.PA
open Go Go.Proofs.Ytmbmbmkmjbpcpaa.Nums Go.RowKit Go.Proofs.YtmbmbmkmjbpcpaaW.PrintWords Go.Proofs.YtmbmbmkmjbpcpaaW.PrintLast Go.Proofs.YtmbmbmkmjbpcpaaW.PrintMore
set_option linter.unusedVariables false
theorem ev {a : Act} {d : Tmp} {v : Value} (h : a.tmps[d]? = some v) : a.eval (.tmp d) = v := by
  show a.tmps.getD d undef = v
  rw [Array.getD_eq_getD_getElem?, h]
  rfl
section
variable {a : Act} {o : Oper} {w0 W : World} {p q : Operand}
theorem run_move {P : Program} {v : Value} (ho : o.op = .move p) (he : a.eval p = v) : (execOp a.eval o).run P W = .ok (.value v) W := by
  unfold execOp
  simp [ho, he]
theorem run_assign {P : Program} {v : Value} (ho : o.op = .assign p) (he : a.eval p = v) : (execOp a.eval o).run P W = .ok (.value v) W := by
  unfold execOp
  simp [ho, he]
theorem run_pick {P : Program} {b : Bool} {x y : Operand} {v : Value} (ho : o.op = .pick p x y) (he : a.eval p = .bool b) (h1 : (if b then a.eval x else a.eval y) = v) : (execOp a.eval o).run P W = .ok (.value v) W := by
  unfold execOp
  subst h1
  cases b <;> simp [ho, he, asBool]
theorem run_pickT {P : Program} {x y : Operand} {v : Value} (ho : o.op = .pick p x y) (he : a.eval p = .bool true) (h1 : a.eval x = v) : (execOp a.eval o).run P W = .ok (.value v) W := run_pick ho he (by simp [h1])
theorem run_pickF {P : Program} {x y : Operand} {v : Value} (ho : o.op = .pick p x y) (he : a.eval p = .bool false) (h1 : a.eval y = v) : (execOp a.eval o).run P W = .ok (.value v) W := run_pick ho he (by simp [h1])
theorem run_len {A : Option Addr} {n c : Nat} (ho : o.op = .call { callee := .builtin .len, args := #[p], argTypes := #[23] }) (he : a.eval p = .slice A n c) : (execOp a.eval o).run Try.prog W = .ok (.value (.int .i64 n)) W := by
  unfold execOp
  simp only [ho, resolve, List.map_toArray, List.map_cons, List.map_nil, he]
  go_simp
theorem run_load2 {g : Nat} {x y : Value} (ho : o.op = .load 25 p) (he : a.eval p = .pointer (some ⟨g, 0, none⟩)) (hb : Bx w0 W g 25 #[x, y]) : (execOp a.eval o).run Try.prog W = .ok (.value (.agg #[x, y])) W := by
  obtain ⟨c0, c1, f0, f1⟩ := hb.two
  unfold execOp
  simp only [ho, he]
  go_simp
theorem run_loadN {g : Nat} {x y : Value} (ho : o.op = .load 4 p) (he : a.eval p = .pointer (some ⟨g, 0, none⟩)) (hb : Bx w0 W g 25 #[x, y]) : (execOp a.eval o).run Try.prog W = .ok (.value x) W := by
  obtain ⟨c0, c1, f0, f1⟩ := hb.two
  unfold execOp
  simp only [ho, he]
  go_simp
theorem run_loadM {g : Nat} {x y : Value} (ho : o.op = .load 23 p) (he : a.eval p = .pointer (some ⟨g, 1, none⟩)) (hb : Bx w0 W g 25 #[x, y]) : (execOp a.eval o).run Try.prog W = .ok (.value y) W := by
  obtain ⟨c0, c1, f0, f1⟩ := hb.two
  unfold execOp
  simp only [ho, he]
  go_simp
theorem run_field0 {g : Nat} (ho : o.op = .fieldAddr 25 p 0) (he : a.eval p = .pointer (some ⟨g, 0, none⟩)) : (execOp a.eval o).run Try.prog W = .ok (.value (.pointer (some ⟨g, 0, none⟩))) W := by
  unfold execOp
  simp only [ho, he]
  go_simp
theorem run_field1 {g : Nat} (ho : o.op = .fieldAddr 25 p 1) (he : a.eval p = .pointer (some ⟨g, 0, none⟩)) : (execOp a.eval o).run Try.prog W = .ok (.value (.pointer (some ⟨g, 1, none⟩))) W := by
  unfold execOp
  simp only [ho, he]
  go_simp
theorem run_alloc2 (ho : o.op = .alloc 25) : (execOp a.eval o).run Try.prog W = .ok (.value (.pointer (some ⟨W.heap.size, 0, none⟩))) (W.alloc (.cells #[.bool false, .slice none 0 0] 25 (0, 0))) := by
  unfold execOp
  simp only [ho]
  go_simp
theorem run_box2 {b : Bool} {A : Option Addr} {n c : Nat} (ho : o.op = .box 25 p) (he : a.eval p = .agg #[.bool b, .slice A n c]) : (execOp a.eval o).run Try.prog W = .ok (.value (.pointer (some ⟨W.heap.size, 0, none⟩))) (W.alloc (.cells #[.bool b, .slice A n c] 25 (0, 0))) := by
  unfold execOp
  simp only [ho, he]
  go_simp
theorem run_store2 {g : Nat} {x y : Value} {b : Bool} {A : Option Addr} {n c : Nat} (ho : o.op = .store 25 p q) (he : a.eval p = .pointer (some ⟨g, 0, none⟩)) (hv : a.eval q = .agg #[.bool b, .slice A n c]) (hb : Bx w0 W g 25 #[x, y]) : (execOp a.eval o).run Try.prog W = .ok .skip (set2 W g (.bool b) (.slice A n c)) := by
  obtain ⟨c0, c1, f0, f1⟩ := hb.two
  have d1 : ∀ u, (W.setCell ⟨g, 0, none⟩ u).cell? ⟨g, 1, none⟩ = some y := fun u => blk_cell (hb.set 0 u).2.2 1
  have d2 : ∀ u, (W.setCell ⟨g, 0, none⟩ u).frozen? ⟨g, 1, none⟩ = false := fun u => blk_frozen (hb.set 0 u).2.2 1
  unfold execOp
  simp only [ho, he, hv]
  go_simp
  rfl
theorem run_build0 (ho : o.op = .build 25 #[]) : (execOp a.eval o).run Try.prog W = .ok (.value (.agg #[.bool false, .slice none 0 0])) W := by
  unfold execOp
  simp only [ho]
  go_simp
theorem run_build1 {A : Option Addr} {n c : Nat} (ho : o.op = .build 25 #[(1, p)]) (he : a.eval p = .slice A n c) : (execOp a.eval o).run Try.prog W = .ok (.value (.agg #[.bool false, .slice A n c])) W := by
  unfold execOp
  simp only [ho, List.map_toArray, List.map_cons, List.map_nil, he]
  go_simp
theorem run_build2 {b : Bool} {A : Option Addr} {n c : Nat} (ho : o.op = .build 25 #[(0, p), (1, q)]) (he : a.eval p = .bool b) (he2 : a.eval q = .slice A n c) : (execOp a.eval o).run Try.prog W = .ok (.value (.agg #[.bool b, .slice A n c])) W := by
  unfold execOp
  simp only [ho, List.map_toArray, List.map_cons, List.map_nil, he, he2]
  go_simp
theorem run_not {P : Program} {b : Bool} {t : TypeId} (ho : o.op = .unOp .not t p) (he : a.eval p = .bool b) : (execOp a.eval o).run P W = .ok (.value (.bool (!b))) W := by
  unfold execOp
  simp only [ho, he]
  go_simp
theorem run_eqlB {x y : Bool} {t : TypeId} (ho : o.op = .binOp .eql 4 p q t) (he : a.eval p = .bool x) (he2 : a.eval q = .bool y) : (execOp a.eval o).run Try.prog W = .ok (.value (.bool (x == y))) W := by
  unfold execOp
  simp only [ho, he, he2]
  cases x <;> cases y <;> go_simp
theorem run_neqB {x y : Bool} {t : TypeId} (ho : o.op = .binOp .neq 4 p q t) (he : a.eval p = .bool x) (he2 : a.eval q = .bool y) : (execOp a.eval o).run Try.prog W = .ok (.value (.bool (x != y))) W := by
  unfold execOp
  simp only [ho, he, he2]
  cases x <;> cases y <;> go_simp
theorem run_eql {x y : Int} (ho : o.op = .binOp .eql 3 p q 3) (he : a.eval p = .int .i64 x) (he2 : a.eval q = .int .i64 y) : (execOp a.eval o).run Try.prog W = .ok (.value (.bool (decide (x = y)))) W := by
  unfold execOp
  simp only [ho, he, he2]
  go_simp
  try (first | rfl | (by_cases h : x = y <;> simp [h]))
theorem run_neq {x y : Int} (ho : o.op = .binOp .neq 3 p q 3) (he : a.eval p = .int .i64 x) (he2 : a.eval q = .int .i64 y) : (execOp a.eval o).run Try.prog W = .ok (.value (.bool (decide (x ≠ y)))) W := by
  unfold execOp
  simp only [ho, he, he2]
  go_simp
  try (first | rfl | (by_cases h : x = y <;> simp [h]))
theorem run_neqE {x y : Int} (ho : o.op = .binOp .neq 38 p q 38) (he : a.eval p = .int .i64 x) (he2 : a.eval q = .int .i64 y) : (execOp a.eval o).run Try.prog W = .ok (.value (.bool (decide (x ≠ y)))) W := by
  unfold execOp
  simp only [ho, he, he2]
  go_simp
  try (first | rfl | (by_cases h : x = y <;> simp [h]))
theorem run_lss {x y : Int} (ho : o.op = .binOp .lss 3 p q 3) (he : a.eval p = .int .i64 x) (he2 : a.eval q = .int .i64 y) : (execOp a.eval o).run Try.prog W = .ok (.value (.bool (decide (x < y)))) W := by
  unfold execOp
  simp only [ho, he, he2]
  go_simp
  try (first | rfl | (by_cases h : x = y <;> simp [h]))
theorem run_gtr {x y : Int} (ho : o.op = .binOp .gtr 3 p q 3) (he : a.eval p = .int .i64 x) (he2 : a.eval q = .int .i64 y) : (execOp a.eval o).run Try.prog W = .ok (.value (.bool (decide (y < x)))) W := by
  unfold execOp
  simp only [ho, he, he2]
  go_simp
  try (first | rfl | (by_cases h : x = y <;> simp [h]))
theorem run_geq {x y : Int} (ho : o.op = .binOp .geq 3 p q 3) (he : a.eval p = .int .i64 x) (he2 : a.eval q = .int .i64 y) : (execOp a.eval o).run Try.prog W = .ok (.value (.bool (decide (y ≤ x)))) W := by
  unfold execOp
  simp only [ho, he, he2]
  go_simp
  try (first | rfl | (by_cases h : x = y <;> simp [h]))
theorem run_add {x y : Int} (ho : o.op = .binOp .add 3 p q 3) (he : a.eval p = .int .i64 x) (he2 : a.eval q = .int .i64 y) : (execOp a.eval o).run Try.prog W = .ok (.value (.int .i64 (wrap64 (x + y)))) W := by
  unfold execOp
  simp only [ho, he, he2]
  go_simp
  exact i64_w _
theorem run_neg {x : Int} (ho : o.op = .unOp .neg 3 p) (he : a.eval p = .int .i64 x) : (execOp a.eval o).run Try.prog W = .ok (.value (.int .i64 (wrap64 (-x)))) W := by
  unfold execOp
  simp only [ho, he]
  go_simp
  exact i64_w _
theorem run_extract {P : Program} {l : Array Value} {i : Nat} {v : Value} (ho : o.op = .extract p i) (he : a.eval p = .tuple l) (hl : l[i]? = some v) : (execOp a.eval o).run P W = .ok (.value v) W := by
  unfold execOp
  simp only [ho, he]
  simp [Instr.extract, hl]
theorem wp_run {P : Program} {v : Value} {W' : World} {K : Act → World → Prop} {Q : Exit → Act → World → Prop} (h : (execOp a.eval o).run P W = .ok (.value v) W') (hk : K (a.put o.dst v) W') : o.wp P a W K Q := by
  unfold Oper.wp
  rw [h]
  exact hk
theorem wp_mute {P : Program} {W' : World} {K : Act → World → Prop} {Q : Exit → Act → World → Prop} (h : (execOp a.eval o).run P W = .ok .skip W') (hk : K (a.put o.dst undef) W') : o.wp P a W K Q := by
  unfold Oper.wp
  rw [h]
  exact hk
theorem wp_enter {P : Program} {f : FuncId} {fn : Func} {xs : Array Operand} {ts : Array TypeId} {K : Act → World → Prop} {Q : Exit → Act → World → Prop} (ho : o.op = .call { callee := .value (.func f), args := xs, argTypes := ts }) (hf : P.funcs[f]? = some fn) (hname : (fn.name == "runtime.NumGoroutine") = false) (hb : fn.body.isSome = true)
    {args : Array Value} (hargs : xs.map a.eval = args) {R : Ending → World → Prop} (h : Calls P f args W R) (hk : ∀ e W', R e W' → ∃ v, e = .returned v ∧ K (a.put o.dst v) W') : o.wp P a W K Q :=
  op_call ho hf hname hb args hargs (h.mono hk)
end
section
variable {a : Act} {pre : List Oper} {i : Nat} {o : Oper} {w0 W : World} {P : Program} {Q : Exit → Act → World → Prop}
/-- one step of a region, in whatever order -/
theorem step_is {v : Value} (hw : ∀ K, o.wp P a W K Q → wpOp P pre.toArray Q i K a W) (h : (execOp a.eval o).run P W = .ok (.value v) W) : wpOp P pre.toArray Q i (fun a' W' => ∃ u, a' = a.put o.dst u ∧ Below W.heap.size W W' ∧ (Sp.is v).New w0 W W' u) a W :=
  hw _ (wp_run h ⟨v, rfl, Below.refl _ _, (), rfl, Has.nil _ _⟩)
theorem step_val {α : Type} {f : α → Value} {T : α → List (Value × (World → Value → Prop))} (x : α) (hw : ∀ K, o.wp P a W K Q → wpOp P pre.toArray Q i K a W) (h : (execOp a.eval o).run P W = .ok (.value (f x)) W) (hT : Has w0 W (T x)) : wpOp P pre.toArray Q i (fun a' W' => ∃ u, a' = a.put o.dst u ∧ Below W.heap.size W W' ∧ (Sp.val α f T).New w0 W W' u) a W :=
  hw _ (wp_run h ⟨f x, rfl, Below.refl _ _, x, rfl, hT⟩)
theorem step_box {t : TypeId} {cs : Array Value} (hw : ∀ K, o.wp P a W K Q → wpOp P pre.toArray Q i K a W) (ht : t ≠ 68) (h : (execOp a.eval o).run P W = .ok (.value (.pointer (some ⟨W.heap.size, 0, none⟩))) (W.alloc (.cells cs t (0, 0)))) : wpOp P pre.toArray Q i (fun a' W' => ∃ u, a' = a.put o.dst u ∧ Below W.heap.size W W' ∧ (Sp.box t cs).New w0 W W' u) a W :=
  hw _ (wp_run h ⟨_, rfl, below_alloc (Below.refl _ _) _, rfl, ht, blk_new W _⟩)
theorem step_call {f : FuncId} {fn : Func} {xs : Array Operand} {tys : Array TypeId} {sp : Sp} (hw : ∀ K, o.wp P a W K Q → wpOp P pre.toArray Q i K a W) (hop : o.op = .call { callee := .value (.func f), args := xs, argTypes := tys }) (hf : P.funcs[f]? = some fn) (hname : (fn.name == "runtime.NumGoroutine") = false) (hb : fn.body.isSome = true)
    {args : Array Value} (hargs : xs.map a.eval = args) (h : Calls P f args W fun e W' => ∃ v, e = .returned v ∧ Below W.heap.size W W' ∧ sp.New w0 W W' v) : wpOp P pre.toArray Q i (fun a' W' => ∃ u, a' = a.put o.dst u ∧ Below W.heap.size W W' ∧ sp.New w0 W W' u) a W :=
  hw _ (wp_enter hop hf hname hb hargs h fun e W' ⟨v, he, hb, hn⟩ => ⟨v, he, v, rfl, hb, hn⟩)
theorem wanted_of {ops : Array Oper} {j d : Nat} {b b' : Bool} (hg : o.guard = some (j, b)) (hs : (ops[j]?).bind (·.dst) = some d) (he : a.tmps[d]? = some (.bool b')) : Region.wanted o (yielded ops a.tmps) = (b' == b) := by
  unfold Region.wanted yielded
  rw [hg]
  simp only
  rw [hs]
  simp only [Option.bind_some, he]
  cases b <;> cases b' <;> rfl
theorem op_want {ops : Array Oper} {K : Act → World → Prop} {j d : Nat} {b : Bool} (ho : ops[i]? = some o) (hg : o.guard = some (j, b)) (hs : (ops[j]?).bind (·.dst) = some d) (he : a.tmps[d]? = some (.bool b)) (h : o.wp P a W K Q) : wpOp P ops Q i K a W := by
  unfold Go.wpOp
  rw [ho]
  simp only [wanted_of hg hs he, beq_self_eq_true, if_true]
  exact .inl h
theorem op_unwant {ops : Array Oper} {K : Act → World → Prop} {j d : Nat} {b b' : Bool} (ho : ops[i]? = some o) (hg : o.guard = some (j, b)) (hs : (ops[j]?).bind (·.dst) = some d) (he : a.tmps[d]? = some (.bool b')) (hne : b' ≠ b) (h : K (a.put o.dst undef) W) : wpOp P ops Q i K a W := by
  unfold Go.wpOp
  rw [ho]
  have e : (b' == b) = false := by cases b <;> cases b' <;> simp_all
  simp only [wanted_of hg hs he, e]
  exact h
theorem step_un {j d : Nat} {b b' : Bool} (ho : pre.toArray[i]? = some o) (hg : o.guard = some (j, b)) (hs : (pre.toArray[j]?).bind (·.dst) = some d) (he : a.tmps[d]? = some (.bool b')) (hne : b' ≠ b) : wpOp P pre.toArray Q i (fun a' W' => ∃ u, a' = a.put o.dst u ∧ Below W.heap.size W W' ∧ (Sp.is undef).New w0 W W' u) a W :=
  op_unwant ho hg hs he hne ⟨undef, rfl, Below.refl _ _, (), rfl, Has.nil _ _⟩
/-- one step of a list of operations as it stands -/
theorem list_op {ops : Array Oper} {r : List Oper} (hg : o.guard = none) (h : o.wp P a W (wpList P ops Q r) Q) : wpList P ops Q (o :: r) a W := by
  unfold wpList
  simp only [Region.wanted, hg, if_true]
  exact .inl h
theorem list_want {ops : Array Oper} {r : List Oper} {j d : Nat} {b : Bool} (hg : o.guard = some (j, b)) (hs : (ops[j]?).bind (·.dst) = some d) (he : a.tmps[d]? = some (.bool b)) (h : o.wp P a W (wpList P ops Q r) Q) : wpList P ops Q (o :: r) a W := by
  unfold wpList
  simp only [wanted_of hg hs he, beq_self_eq_true, if_true]
  exact .inl h
theorem list_unwant {ops : Array Oper} {r : List Oper} {j d : Nat} {b b' : Bool} (hg : o.guard = some (j, b)) (hs : (ops[j]?).bind (·.dst) = some d) (he : a.tmps[d]? = some (.bool b')) (hne : b' ≠ b) (h : wpList P ops Q r (a.put o.dst undef) W) : wpList P ops Q (o :: r) a W := by
  unfold wpList
  have e : (b' == b) = false := by cases b <;> cases b' <;> simp_all
  simp only [wanted_of hg hs he, e]
  exact h
theorem args1 {p : Operand} {v : Value} (h : a.eval p = v) : (#[p] : Array Operand).map a.eval = #[v] := by simp [h]
theorem args2 {p q : Operand} {v u : Value} (h : a.eval p = v) (k : a.eval q = u) : (#[p, q] : Array Operand).map a.eval = #[v, u] := by simp [h, k]
end
end Go.Proofs.Ytmbmbmkmjbpcpaa.PA


/- Whole numbers as kinds of values; how a call begins, takes a step and ends; no program's code is named but zint.made's. -/
namespace Go.Proofs.Ytmbmbmkmjbpcpaa.PA
open Go Go.Proofs.Ytmbmbmkmjbpcpaa.Nums Go.RowKit Go.Proofs.YtmbmbmkmjbpcpaaW.PrintWords Go.Proofs.YtmbmbmkmjbpcpaaW.PrintLast Go.Proofs.YtmbmbmkmjbpcpaaW.PrintMore
set_option linter.unusedVariables false
/-- a sign and limbs that stand for z, whatever noughts stand at the end -/
def NumV (w : World) (b : Bool) (v : Value) (z : Int) : Prop := ∃ x, MagV w v x ∧ z = zof b x
def tyN (b : Bool) (z : Int) : World → Value → Prop := fun w v => NumV w b v z
def tyO (w0 : World) (l : List Int) : World → Value → Prop := fun w v => Kd.R (Kd.int .u32) 68 w w0.heap.size (fun _ => True) v l
def tyM (x : Int) : World → Value → Prop := fun w v => MagV w v x
/-- z's limbs are not too many -/
def Fit (z : Int) : Prop := (mg z).length ≤ 10000000
abbrev Sl := Option Addr × Nat × Nat
abbrev Sl.v (x : Sl) : Value := .slice x.1 x.2.1 x.2.2
def spI (w0 : World) (z : Int) : Sp := .val Sl (fun x => .agg #[.bool (decide (z < 0)), x.v]) (fun x => [(x.v, tyO w0 (mg z))])
def spM (w0 : World) (x : Int) : Sp := .val Sl (fun s => s.v) (fun s => [(s.v, tyO w0 (lm x))])
theorem NumV.form {w : World} {b : Bool} {v : Value} {z : Int} (h : NumV w b v z) : ∃ A n c, v = .slice A n c := by
  obtain ⟨x, ⟨l, ⟨A, c, e, -⟩, -⟩, -⟩ := h
  exact ⟨A, _, c, e⟩
theorem NumV.mag {w : World} {b : Bool} {v : Value} {z : Int} (h : NumV w b v z) : MagV w v (z.natAbs : Nat) := by
  obtain ⟨x, m, rfl⟩ := h
  rw [zof_abs m.nonneg]
  exact m
theorem NumV.fit {w : World} {b : Bool} {v : Value} {z : Int} (h : NumV w b v z) : Fit z := by
  obtain ⟨x, ⟨l, -, hl, hb, rfl⟩, rfl⟩ := h
  have hv := val_nonneg hl
  unfold Fit mg
  rw [zof_abs hv, ← trim_lm hl]
  exact Nat.le_trans (trim_len l) hb
theorem NumV.has {w : World} {b : Bool} {v : Value} {z : Int} (h : NumV w b v z) : Has w w [(v, tyN b z)] := by
  intro p hp w' k
  rw [List.mem_singleton.mp hp]
  obtain ⟨x, m, e⟩ := h
  exact ⟨x, (m.came.keep k).now, e⟩
theorem MagV.has {w : World} {v : Value} {x : Int} (m : MagV w v x) : Has w w [(v, tyM x)] := by
  intro p hp w' k
  rw [List.mem_singleton.mp hp]
  exact (m.came.keep k).now
section
variable {w0 w w' : World} {ts : List (Value × (World → Value → Prop))} {bs : List (Nat × TypeId × Array Value)} {b : Bool} {v : Value} {z x : Int}
theorem Zt.num (Z : Zt w0 w ts bs) (i : Nat) (e : ts[i]? = some (v, tyN b z)) : NumV w b v z := Z.get i e
theorem Zt.magv (Z : Zt w0 w ts bs) (i : Nat) (e : ts[i]? = some (v, tyM x)) : MagV w v x := Z.get i e
theorem Zt.row (Z : Zt w0 w ts bs) (i : Nat) {l : List Int} (e : ts[i]? = some (v, tyO w0 l)) : Kd.R (Kd.int .u32) 68 w w0.heap.size (fun _ => True) v l := Z.get i e
theorem Zt.ownM (Z : Zt w0 w ts bs) (i : Nat) (e : ts[i]? = some (v, tyO w0 (lm x))) (hx : 0 ≤ x) (hl : (lm x).length ≤ 10000000) : MagV w v x := ⟨lm x, Rd.of_row (Z.row i e), lm_ok x, hl, lm_val hx⟩
theorem Zt.own (Z : Zt w0 w ts bs) (i : Nat) (e : ts[i]? = some (v, tyO w0 (mg z))) (hz : Fit z) : NumV w (decide (z < 0)) v z :=
  ⟨(z.natAbs : Nat), Z.ownM (x := (z.natAbs : Nat)) i e (by omega) hz, (zof_self z).symm⟩
theorem Zt.begin1 (n : NumV w b v z) : Zt w w [(v, tyN b z)] [] := Zt.start w n.has
theorem Zt.begin2 {b2 : Bool} {v2 : Value} {z2 : Int} (n : NumV w b v z) (n2 : NumV w b2 v2 z2) : Zt w w [(v, tyN b z), (v2, tyN b2 z2)] [] := Zt.start w (n.has.append n2.has)
theorem has_row {w1 : World} {l : List Int} (h : Kd.R (Kd.int .u32) 68 w' w1.heap.size (fun _ => True) v l) (hw : w0.heap.size ≤ w1.heap.size) : Has w0 w' [(v, tyO w0 l)] := by
  intro p hp w2 k
  rw [List.mem_singleton.mp hp]
  exact OwI.of_row h hw w2 k
variable {P : Program} {f : FuncId} {args : Array Value}
theorem Zt.callI (Z : Zt w0 w ts bs) (h : Calls P f args w (ResI w z)) : Calls P f args w fun e W' => ∃ v, e = .returned v ∧ Below w.heap.size w W' ∧ (spI w0 z).New w0 w W' v :=
  h.mono fun _ _ ⟨v, he, hr, hb⟩ => by
    have ho := has_row hr Z.below.size
    obtain ⟨A, c, rfl, -, -⟩ := Rd.of_row hr
    exact ⟨_, he, hb, ⟨A, _, c⟩, rfl, ho⟩
theorem Zt.callM (Z : Zt w0 w ts bs) (h : Calls P f args w (ResM w x)) : Calls P f args w fun e W' => ∃ v, e = .returned v ∧ Below w.heap.size w W' ∧ (spM w0 x).New w0 w W' v :=
  h.mono fun _ _ ⟨v, he, hr, hb⟩ => by
    have ho := has_row hr Z.below.size
    obtain ⟨A, c, rfl, -, -⟩ := Rd.of_row hr
    exact ⟨_, he, hb, ⟨A, _, c⟩, rfl, ho⟩
theorem Zt.callV (Z : Zt w0 w ts bs) {u : Value} (h : Calls P f args w fun e w' => e = .returned u ∧ Below w.heap.size w w') : Calls P f args w fun e W' => ∃ v, e = .returned v ∧ Below w.heap.size w W' ∧ (Sp.is u).New w0 w W' v :=
  h.mono fun _ _ ⟨he, hb⟩ => ⟨_, he, hb, (), rfl, Has.nil _ _⟩
end
section
variable {w0 W : World} {ts : List (Value × (World → Value → Prop))} {bs : List (Nat × TypeId × Array Value)} {a : Act} {o : Oper} {ops : Array Oper} {r : List Oper} {Q : Exit → Act → World → Prop} {p q : Operand}
theorem seq_is {P : Program} {v : Value} (hg : o.guard = none) (h : (execOp a.eval o).run P W = .ok (.value v) W) (hk : wpList P ops Q r (a.put o.dst v) W) : wpList P ops Q (o :: r) a W := list_op hg (wp_run h hk)
theorem seq_alloc (Z : Zt w0 W ts bs) (hg : o.guard = none) (ho : o.op = .alloc 25) (hk : ∀ g W', Zt w0 W' ts ((g, 25, #[.bool false, .slice none 0 0]) :: bs) → wpList Try.prog ops Q r (a.put o.dst (.pointer (some ⟨g, 0, none⟩))) W') : wpList Try.prog ops Q (o :: r) a W :=
  list_op hg (wp_run (run_alloc2 ho) (hk _ _ (Z.alloc 25 (by decide) _)))
theorem seq_box (Z : Zt w0 W ts bs) {b : Bool} {A : Option Addr} {n c : Nat} (hg : o.guard = none) (ho : o.op = .box 25 p) (he : a.eval p = .agg #[.bool b, .slice A n c]) (hk : ∀ g W', Zt w0 W' ts ((g, 25, #[.bool b, .slice A n c]) :: bs) → wpList Try.prog ops Q r (a.put o.dst (.pointer (some ⟨g, 0, none⟩))) W') : wpList Try.prog ops Q (o :: r) a W :=
  list_op hg (wp_run (run_box2 ho he) (hk _ _ (Z.alloc 25 (by decide) _)))
theorem seq_store (Z : Zt w0 W ts bs) (i : Nat) {g : Nat} {x y : Value} (e : bs[i]? = some (g, 25, #[x, y])) {b : Bool} {A : Option Addr} {n c : Nat} (hg : o.guard = none) (ho : o.op = .store 25 p q) (he : a.eval p = .pointer (some ⟨g, 0, none⟩)) (hv : a.eval q = .agg #[.bool b, .slice A n c])
    (hk : ∀ W', Zt w0 W' ts (bs.set i (g, 25, #[.bool b, .slice A n c])) → wpList Try.prog ops Q r (a.put o.dst undef) W') : wpList Try.prog ops Q (o :: r) a W :=
  list_op hg (wp_mute (run_store2 ho he hv (Z.bx i e)) (hk _ (Z.put i e _ _)))
theorem seq_call {P : Program} (Z : Zt w0 W ts bs) {f : FuncId} {fn : Func} {xs : Array Operand} {tys : Array TypeId} {α : Type} {F : α → Value} {T : α → List (Value × (World → Value → Prop))} (hg : o.guard = none) (hop : o.op = .call { callee := .value (.func f), args := xs, argTypes := tys }) (hf : P.funcs[f]? = some fn) (hname : (fn.name == "runtime.NumGoroutine") = false) (hb : fn.body.isSome = true)
    {args : Array Value} (hargs : xs.map a.eval = args) (h : Calls P f args W fun e W' => ∃ v, e = .returned v ∧ Below W.heap.size W W' ∧ (Sp.val α F T).New w0 W W' v)
    (hk : ∀ x W', Zt w0 W' (T x ++ ts) bs → wpList P ops Q r (a.put o.dst (F x)) W') : wpList P ops Q (o :: r) a W :=
  list_op hg (wp_enter hop hf hname hb hargs h fun e W' ⟨v, he, hb, x, hx, hT⟩ => ⟨v, he, by rw [hx]; exact hk x W' ((Z.step hb).more hT)⟩)
theorem Zt.ends (Z : Zt w0 W ts bs) (i j : Nat) {fn : Func} {p : Tmp} {g : Nat} {z : Int} {v : Value} (h : fn.results = #[.cell p 25]) (hd : a.defers = []) (hp : a.tmps.getD p undef = .pointer (some ⟨g, 0, none⟩))
    (e : bs[i]? = some (g, 25, #[.bool (decide (z < 0)), v])) (O : ts[j]? = some (v, tyO w0 (mg z))) : bodyPost Try.prog fn (ResI w0 z) .ret a W :=
  bodyPost_ret (results_cell_row h _ _ g 25 _ (0, 0) _ hp (Z.bx i e).2.2 Try.underlying25 rfl (by kernel_rfl)) hd ⟨v, rfl, Z.row j O, Z.below⟩
end
theorem has_one {w0 W : World} {v : Value} {T : World → Value → Prop} (h : ∀ w', Keeps w0 W w' → T w' v) : Has w0 W [(v, T)] := fun p hp w' k => by
  rw [List.mem_singleton.mp hp]
  exact h w' k
theorem has_two {w0 W : World} {v v2 : Value} {T T2 : World → Value → Prop} (h : ∀ w', Keeps w0 W w' → T w' v) (h2 : ∀ w', Keeps w0 W w' → T2 w' v2) : Has w0 W [(v, T), (v2, T2)] := (has_one h).append (has_one h2)
theorem NumV.of_mag {w : World} {b : Bool} {v : Value} {x : Int} (m : MagV w v x) : NumV w b v (zof b x) := ⟨x, m, rfl⟩
theorem NumV.nil (w : World) : NumV w false (.slice none 0 0) 0 := ⟨0, MagV.nil w, rfl⟩
/-- not too many limbs -/
def Fm (x : Int) : Prop := (lm x).length ≤ 10000000
/-- fewer than k bits -/
def Bd (k : Nat) (z : Int) : Prop := z.natAbs < 2 ^ k
def spMi (w0 : World) (x : Int) (u : Value) : Sp := .val Sl (fun s => .tuple #[s.v, u]) (fun s => [(s.v, tyO w0 (lm x))])
def spMMi (w0 : World) (x y : Int) (u : Value) : Sp := .val (Sl × Sl) (fun s => .tuple #[s.1.v, s.2.v, u]) (fun s => [(s.1.v, tyO w0 (lm x)), (s.2.v, tyO w0 (lm y))])
abbrev ag (z : Int) (v : Value) : Value := .agg #[.bool (decide (z < 0)), v]
def spIi (w0 : World) (z : Int) (u : Value) : Sp := .val Sl (fun s => .tuple #[ag z s.v, u]) (fun s => [(s.v, tyO w0 (mg z))])
def spIIi (w0 : World) (z y : Int) (u : Value) : Sp := .val (Sl × Sl) (fun s => .tuple #[ag z s.1.v, ag y s.2.v, u]) (fun s => [(s.1.v, tyO w0 (mg z)), (s.2.v, tyO w0 (mg y))])
def ResMi (w : World) (x : Int) (u : Value) (e : Ending) (w' : World) : Prop := ∃ v, e = .returned (.tuple #[v, u]) ∧ Kd.R (Kd.int .u32) 68 w' w.heap.size (fun _ => True) v (lm x) ∧ Below w.heap.size w w'
def ResMMi (w : World) (x y : Int) (u : Value) (e : Ending) (w' : World) : Prop := ∃ v v2, e = .returned (.tuple #[v, v2, u]) ∧ Kd.R (Kd.int .u32) 68 w' w.heap.size (fun _ => True) v (lm x) ∧ Kd.R (Kd.int .u32) 68 w' w.heap.size (fun _ => True) v2 (lm y) ∧ Below w.heap.size w w'
def ResIi (w : World) (z : Int) (u : Value) (e : Ending) (w' : World) : Prop := ∃ v, e = .returned (.tuple #[ag z v, u]) ∧ Kd.R (Kd.int .u32) 68 w' w.heap.size (fun _ => True) v (mg z) ∧ Below w.heap.size w w'
def ResIIi (w : World) (z y : Int) (u : Value) (e : Ending) (w' : World) : Prop := ∃ v v2, e = .returned (.tuple #[ag z v, ag y v2, u]) ∧ Kd.R (Kd.int .u32) 68 w' w.heap.size (fun _ => True) v (mg z) ∧ Kd.R (Kd.int .u32) 68 w' w.heap.size (fun _ => True) v2 (mg y) ∧ Below w.heap.size w w'
section
variable {w0 w : World} {ts : List (Value × (World → Value → Prop))} {bs : List (Nat × TypeId × Array Value)} {P : Program} {f : FuncId} {args : Array Value} {x y z : Int} {u : Value}
theorem Zt.callMi (Z : Zt w0 w ts bs) (h : Calls P f args w (ResMi w x u)) : Calls P f args w fun e W' => ∃ v, e = .returned v ∧ Below w.heap.size w W' ∧ (spMi w0 x u).New w0 w W' v :=
  h.mono fun _ _ ⟨v, he, hr, hb⟩ => by
    have ho := has_row hr Z.below.size
    obtain ⟨A, c, rfl, -, -⟩ := Rd.of_row hr
    exact ⟨_, he, hb, ⟨A, _, c⟩, rfl, ho⟩
theorem Zt.callMMi (Z : Zt w0 w ts bs) (h : Calls P f args w (ResMMi w x y u)) : Calls P f args w fun e W' => ∃ v, e = .returned v ∧ Below w.heap.size w W' ∧ (spMMi w0 x y u).New w0 w W' v :=
  h.mono fun _ _ ⟨v, v2, he, hr, hr2, hb⟩ => by
    have ho := (has_row hr Z.below.size).append (has_row hr2 Z.below.size)
    obtain ⟨A, c, rfl, -, -⟩ := Rd.of_row hr
    obtain ⟨A2, c2, rfl, -, -⟩ := Rd.of_row hr2
    exact ⟨_, he, hb, ⟨⟨A, _, c⟩, ⟨A2, _, c2⟩⟩, rfl, ho⟩
theorem Zt.callIi (Z : Zt w0 w ts bs) (h : Calls P f args w (ResIi w z u)) : Calls P f args w fun e W' => ∃ v, e = .returned v ∧ Below w.heap.size w W' ∧ (spIi w0 z u).New w0 w W' v :=
  h.mono fun _ _ ⟨v, he, hr, hb⟩ => by
    have ho := has_row hr Z.below.size
    obtain ⟨A, c, rfl, -, -⟩ := Rd.of_row hr
    exact ⟨_, he, hb, ⟨A, _, c⟩, rfl, ho⟩
theorem Zt.callIIi (Z : Zt w0 w ts bs) (h : Calls P f args w (ResIIi w z y u)) : Calls P f args w fun e W' => ∃ v, e = .returned v ∧ Below w.heap.size w W' ∧ (spIIi w0 z y u).New w0 w W' v :=
  h.mono fun _ _ ⟨v, v2, he, hr, hr2, hb⟩ => by
    have ho := (has_row hr Z.below.size).append (has_row hr2 Z.below.size)
    obtain ⟨A, c, rfl, -, -⟩ := Rd.of_row hr
    obtain ⟨A2, c2, rfl, -, -⟩ := Rd.of_row hr2
    exact ⟨_, he, hb, ⟨⟨A, _, c⟩, ⟨A2, _, c2⟩⟩, rfl, ho⟩
end
section
variable {w0 W : World} {ts : List (Value × (World → Value → Prop))} {bs : List (Nat × TypeId × Array Value)} {a : Act} {fn : Func} {p q r : Tmp} {g g2 g3 : Nat} {z y x : Int} {v v2 v3 u : Value}
theorem Zt.ends1 (Z : Zt w0 W ts bs) (i j : Nat) (h : fn.results = #[.cell p 25]) (hd : a.defers = []) (hp : a.tmps.getD p undef = .pointer (some ⟨g, 0, none⟩))
    (e : bs[i]? = some (g, 25, #[.bool (decide (z < 0)), v])) (O : ts[j]? = some (v, tyO w0 (mg z))) (hz : z = y) : bodyPost Try.prog fn (ResI w0 y) .ret a W := by
  subst hz
  exact Z.ends i j h hd hp e O
theorem mg_zero : mg 0 = [] := lm_zero
theorem row_nil (w0 w : World) : Kd.R (Kd.int .u32) 68 w w0.heap.size (fun _ => True) (.slice none 0 0) (mg 0) := by
  rw [mg_zero]
  exact Kd.R_nil _ _ _ _ _
theorem has_nil (w0 w : World) : Has w0 w [(.slice none 0 0, tyO w0 (mg 0))] := has_one fun w' _ => row_nil w0 w'
theorem Zt.nought (Z : Zt w0 W ts bs) : Zt w0 W ((.slice none 0 0, tyO w0 (mg 0)) :: ts) bs := Z.more (has_nil w0 W)
theorem Zt.endsIi {d : Tmp} {z' y' x' : Int} {u' : Value} (Z : Zt w0 W ts bs) (ip jp : Nat) (h : fn.results = #[.cell p 25, .tmp d]) (hd : a.defers = []) (hp : a.tmps.getD p undef = .pointer (some ⟨g, 0, none⟩)) (hd2 : a.tmps.getD d undef = u) (ep : bs[ip]? = some (g, 25, #[.bool (decide (z < 0)), v])) (Op : ts[jp]? = some (v, tyO w0 (mg z))) (hzp : z = z') (hu : u = u') : bodyPost Try.prog fn (ResIi w0 z' u') .ret a W := by
  subst hzp
  subst hu
  refine bodyPost_ret (v := .tuple #[ag z v, u]) ?_ hd ⟨v, rfl, Z.row jp Op, Z.below⟩
  obtain ⟨c0p, c1p, -, -⟩ := (Z.bx ip ep).two
  have hp' : a.tmps[p]?.getD undef = .pointer (some ⟨g, 0, none⟩) := by simpa using hp
  have hd2' : a.tmps[d]?.getD undef = u := by simpa using hd2
  unfold results
  rw [h]
  go_simp
theorem Zt.endsIIi {d : Tmp} {z' y' x' : Int} {u' : Value} (Z : Zt w0 W ts bs) (ip jp iq jq : Nat) (h : fn.results = #[.cell p 25, .cell q 25, .tmp d]) (hd : a.defers = []) (hp : a.tmps.getD p undef = .pointer (some ⟨g, 0, none⟩)) (hq : a.tmps.getD q undef = .pointer (some ⟨g2, 0, none⟩)) (hd2 : a.tmps.getD d undef = u) (ep : bs[ip]? = some (g, 25, #[.bool (decide (z < 0)), v])) (Op : ts[jp]? = some (v, tyO w0 (mg z))) (eq : bs[iq]? = some (g2, 25, #[.bool (decide (y < 0)), v2])) (Oq : ts[jq]? = some (v2, tyO w0 (mg y))) (hzp : z = z') (hzq : y = y') (hu : u = u') : bodyPost Try.prog fn (ResIIi w0 z' y' u') .ret a W := by
  subst hzp
  subst hzq
  subst hu
  refine bodyPost_ret (v := .tuple #[ag z v, ag y v2, u]) ?_ hd ⟨v, v2, rfl, Z.row jp Op, Z.row jq Oq, Z.below⟩
  obtain ⟨c0p, c1p, -, -⟩ := (Z.bx ip ep).two
  have hp' : a.tmps[p]?.getD undef = .pointer (some ⟨g, 0, none⟩) := by simpa using hp
  obtain ⟨c0q, c1q, -, -⟩ := (Z.bx iq eq).two
  have hq' : a.tmps[q]?.getD undef = .pointer (some ⟨g2, 0, none⟩) := by simpa using hq
  have hd2' : a.tmps[d]?.getD undef = u := by simpa using hd2
  unfold results
  rw [h]
  go_simp
theorem Zt.ends1b (Z : Zt w0 W ts bs) (i j : Nat) {c : Bool} {l : List Int} (h : fn.results = #[.cell p 25]) (hd : a.defers = []) (hp : a.tmps.getD p undef = .pointer (some ⟨g, 0, none⟩))
    (e : bs[i]? = some (g, 25, #[.bool c, v])) (O : ts[j]? = some (v, tyO w0 l)) (hc : c = decide (y < 0)) (hl : l = mg y) : bodyPost Try.prog fn (ResI w0 y) .ret a W := by
  subst hc
  subst hl
  exact Z.ends i j h hd hp e O
/-- a call's end: a value, memory as it was -/
def RetV (w : World) (v : Value) (e : Ending) (w' : World) : Prop := e = .returned v ∧ Below w.heap.size w w'
theorem Zt.endsV {P : Program} (Z : Zt w0 W ts bs) (h : fn.results = #[.tmp p]) (hd : a.defers = []) (hp : a.tmps.getD p undef = u) (hu : u = v) : bodyPost P fn (RetV w0 v) .ret a W := by
  refine bodyPost_ret (v := a.tmps.getD p undef) ?_ hd ⟨by rw [hp, hu], Z.below⟩
  have hp' : a.tmps[p]?.getD undef = v := by rw [← hu, ← hp]; simp
  clear hp hu
  unfold results
  rw [h]
  go_simp
  try exact hp'
end
end Go.Proofs.Ytmbmbmkmjbpcpaa.PA


/- Bounds, and laws of signs: plain. -/
namespace Go.Proofs.Ytmbmbmkmjbpcpaa.PA
open Go Go.Proofs.Ytmbmbmkmjbpcpaa.Nums Go.RowKit Go.Proofs.YtmbmbmkmjbpcpaaW.PrintWords Go.Proofs.YtmbmbmkmjbpcpaaW.PrintLast Go.Proofs.YtmbmbmkmjbpcpaaW.PrintMore
set_option linter.unusedVariables false
theorem nn_mul (a b : Nat) : (0 : Int) ≤ (a : Int) * (b : Int) := Int.mul_nonneg (by omega) (by omega)
theorem NumV.at {w : World} {b : Bool} {v : Value} {z : Int} (h : NumV w b v z) : z = zof b ((z.natAbs : Nat)) := by
  obtain ⟨x, m, rfl⟩ := h
  rw [zof_abs m.nonneg]
theorem neg_law {w : World} {b : Bool} {v : Value} {z : Int} (h : NumV w b v z) : zof (!b) ((z.natAbs : Nat)) = -z := by
  have := h.at
  unfold zof at *
  cases b <;> simp at * <;> omega
theorem form_law {w : World} {b : Bool} {v : Value} {z : Int} (h : NumV w b v z) : zof b ((z.natAbs : Nat)) = z := h.at.symm
theorem mul_law {w : World} {b b2 : Bool} {v v2 : Value} {z z2 : Int} (h : NumV w b v z) (h2 : NumV w b2 v2 z2) : zof (b != b2) ((z.natAbs : Nat) * (z2.natAbs : Nat)) = z * z2 := by
  have e := h.at
  have e2 := h2.at
  generalize z.natAbs = x at *
  generalize z2.natAbs = y at *
  subst e
  subst e2
  unfold zof
  cases b <;> cases b2 <;> simp [Int.neg_mul, Int.mul_neg]
theorem gcdI_nn (x y : Int) : 0 ≤ gcdI x y := by
  unfold gcdI
  omega
/-- the sign and the limbs' number, as they stand -/
theorem NumV.cases {w : World} {b : Bool} {v : Value} {z : Int} (h : NumV w b v z) : (b = false ∧ z = (z.natAbs : Nat)) ∨ (b = true ∧ z = -((z.natAbs : Nat) : Int)) := by
  have := h.at
  cases b
  · exact .inl ⟨rfl, this⟩
  · exact .inr ⟨rfl, this⟩
theorem bl_abs {z : Int} : ((bl ((z.natAbs : Nat) : Int).toNat : Nat) : Int) = 0 ↔ z = 0 := by
  rw [show ((z.natAbs : Nat) : Int).toNat = z.natAbs by omega]
  constructor
  · intro h
    have : bl z.natAbs = 0 := by omega
    have := bl_eq_zero.mp this
    omega
  · intro h
    subst h
    have : bl (Int.natAbs 0) = 0 := bl_zero
    omega
theorem zc_le {x y : Int} (h : decide (cmp x y < 0) = true) : x ≤ y := by
  have := of_decide_eq_true h
  unfold cmp at this
  split at this
  · omega
  · split at this <;> omega
theorem zc_ge {x y : Int} (h : decide (cmp x y < 0) = false) : y ≤ x := by
  have := of_decide_eq_false h
  unfold cmp at this
  split at this
  · omega
  · omega
theorem zc_ge' {x y : Int} (h : decide (0 ≤ cmp x y) = true) : y ≤ x := by
  have := of_decide_eq_true h
  unfold cmp at this
  split at this
  · omega
  · omega
theorem zc_le' {x y : Int} (h : decide (0 ≤ cmp x y) = false) : x ≤ y := by
  have := of_decide_eq_false h
  unfold cmp at this
  split at this
  · omega
  · split at this <;> omega
theorem add_same {w : World} {b b2 : Bool} {v v2 : Value} {z z2 : Int} (h : NumV w b v z) (h2 : NumV w b2 v2 z2) (e : (b == b2) = true) : zof b ((z.natAbs : Nat) + (z2.natAbs : Nat)) = z + z2 := by
  rcases h.cases with ⟨rfl, e1⟩ | ⟨rfl, e1⟩ <;> rcases h2.cases with ⟨rfl, e2⟩ | ⟨rfl, e2⟩ <;> simp at e <;> unfold zof <;> simp <;> omega
theorem add_diff {w : World} {b b2 : Bool} {v v2 : Value} {z z2 : Int} (h : NumV w b v z) (h2 : NumV w b2 v2 z2) (e : (b == b2) = false) : zof b ((z.natAbs : Nat) - (z2.natAbs : Nat)) = z + z2 := by
  rcases h.cases with ⟨rfl, e1⟩ | ⟨rfl, e1⟩ <;> rcases h2.cases with ⟨rfl, e2⟩ | ⟨rfl, e2⟩ <;> simp at e <;> unfold zof <;> simp <;> omega
theorem add_swap {w : World} {b b2 : Bool} {v v2 : Value} {z z2 : Int} (h : NumV w b v z) (h2 : NumV w b2 v2 z2) (e : (b == b2) = false) : zof b2 ((z2.natAbs : Nat) - (z.natAbs : Nat)) = z + z2 := by
  rcases h.cases with ⟨rfl, e1⟩ | ⟨rfl, e1⟩ <;> rcases h2.cases with ⟨rfl, e2⟩ | ⟨rfl, e2⟩ <;> simp at e <;> unfold zof <;> simp <;> omega
theorem sgn0 {z : Int} (h : z = 0) : Value.int .i64 0 = .int .i64 z.sign := by subst h; rfl
theorem sgnN {z : Int} (h : z < 0) : Value.int .i64 (-1) = .int .i64 z.sign := by rw [Int.sign_eq_neg_one_of_neg h]
theorem sgnP {z : Int} (h : 0 < z) : Value.int .i64 1 = .int .i64 z.sign := by rw [Int.sign_eq_one_of_pos h]
theorem NumV.negOf {w : World} {b : Bool} {v : Value} {z : Int} (h : NumV w b v z) (hz : ¬ z = 0) (e : b = true) : z < 0 := by
  rcases h.cases with ⟨rfl, e1⟩ | ⟨rfl, e1⟩
  · cases e
  · omega
theorem NumV.posOf {w : World} {b : Bool} {v : Value} {z : Int} (h : NumV w b v z) (hz : ¬ z = 0) (e : b = false) : 0 < z := by
  rcases h.cases with ⟨rfl, e1⟩ | ⟨rfl, e1⟩
  · omega
  · cases e
end Go.Proofs.Ytmbmbmkmjbpcpaa.PA


/- How many bits a number has: plain. -/
namespace Go.Proofs.Ytmbmbmkmjbpcpaa.PA
open Go Go.Proofs.Ytmbmbmkmjbpcpaa.Nums Go.RowKit Go.Proofs.YtmbmbmkmjbpcpaaW.PrintWords Go.Proofs.YtmbmbmkmjbpcpaaW.PrintLast Go.Proofs.YtmbmbmkmjbpcpaaW.PrintMore
set_option linter.unusedVariables false
theorem two_mono {k l : Nat} (h : k ≤ l) : (2 : Nat) ^ k ≤ 2 ^ l := Nat.pow_le_pow_right (by omega) h
theorem Bd.mono {k l : Nat} {z : Int} (h : Bd k z) (hl : k ≤ l) : Bd l z := Nat.lt_of_lt_of_le h (two_mono hl)
theorem Bd.neg {k : Nat} {z : Int} (h : Bd k z) : Bd k (-z) := by unfold Bd at *; rw [Int.natAbs_neg]; exact h
theorem Bd.abs {k : Nat} {z : Int} (h : Bd k z) : Bd k ((z.natAbs : Nat) : Int) := by unfold Bd at *; rw [Int.natAbs_natCast]; exact h
theorem Bd.zof {k : Nat} {b : Bool} {z : Int} (h : Bd k z) : Bd k (zof b z) := by
  unfold PA.zof
  cases b
  · exact h
  · exact h.neg
theorem Bd.add {k l : Nat} {y z : Int} (h : Bd k y) (h2 : Bd l z) : Bd (max k l + 1) (y + z) := by
  have h1 := h.mono (Nat.le_max_left k l)
  have h3 := h2.mono (Nat.le_max_right k l)
  unfold Bd at *
  rw [Nat.pow_succ]
  have := Int.natAbs_add_le y z
  omega
theorem Bd.sub {k l : Nat} {y z : Int} (h : Bd k y) (h2 : Bd l z) : Bd (max k l + 1) (y - z) := by
  rw [Int.sub_eq_add_neg]
  exact h.add h2.neg
theorem Bd.mul {k l : Nat} {y z : Int} (h : Bd k y) (h2 : Bd l z) : Bd (k + l) (y * z) := by
  unfold Bd at *
  rw [Int.natAbs_mul, Nat.pow_add]
  rcases Nat.eq_zero_or_pos z.natAbs with h0 | h0
  · rw [h0, Nat.mul_zero]
    exact Nat.mul_pos (Nat.pow_pos (by omega)) (Nat.pow_pos (by omega))
  · exact Nat.lt_of_lt_of_le (Nat.mul_lt_mul_of_pos_right h h0) (Nat.mul_le_mul_left _ (Nat.le_of_lt h2))
theorem Bd.gcd {k l : Nat} {y z : Int} (h : Bd k y) (h2 : Bd l z) : Bd (max k l) (gcdI y z) := by
  have h1 := h.mono (Nat.le_max_left k l)
  have h3 := h2.mono (Nat.le_max_right k l)
  unfold Bd at *
  unfold gcdI
  rw [Int.natAbs_natCast]
  rcases Nat.eq_zero_or_pos y.toNat with h0 | h0
  · rw [h0, Nat.gcd_zero_left]
    omega
  · have := Nat.le_of_dvd h0 (Nat.gcd_dvd_left y.toNat z.toNat)
    omega
theorem Bd.div {k l : Nat} {y z : Int} (h : Bd k y) (h2 : Bd l z) : Bd (k + 1) (y / z) := by
  unfold Bd at *
  rw [Nat.pow_succ]
  have : (y / z).natAbs ≤ y.natAbs + 1 := by
    rcases Int.lt_trichotomy z 0 with hz | hz | hz
    · rw [show y / z = -(y / (-z)) by rw [Int.ediv_neg, Int.neg_neg], Int.natAbs_neg]
      have h0 : 0 < -z := by omega
      have e := Int.emod_add_mul_ediv y (-z)
      have e1 := Int.emod_nonneg y (show -z ≠ 0 by omega)
      have e2 := Int.emod_lt_of_pos y h0
      generalize y / (-z) = q at *
      generalize y % (-z) = r at *
      generalize -z = d at *
      rcases Int.lt_or_le q 0 with hq | hq
      · have : d * (q + 1) ≤ 1 * (q + 1) := by
          have := Int.mul_le_mul_of_nonpos_right (a := d) (b := (1:Int)) (c := q + 1) (by omega) (by omega)
          omega
        rw [Int.mul_add, Int.mul_one] at this
        omega
      · have : 1 * q ≤ d * q := Int.mul_le_mul_of_nonneg_right (by omega) hq
        omega
    · subst hz
      rw [Int.ediv_zero]
      simp
    · have e := Int.emod_add_mul_ediv y z
      have e1 := Int.emod_nonneg y (show z ≠ 0 by omega)
      have e2 := Int.emod_lt_of_pos y hz
      generalize y / z = q at *
      generalize y % z = r at *
      rcases Int.lt_or_le q 0 with hq | hq
      · have : z * (q + 1) ≤ 1 * (q + 1) := by
          have := Int.mul_le_mul_of_nonpos_right (a := z) (b := (1:Int)) (c := q + 1) (by omega) (by omega)
          omega
        rw [Int.mul_add, Int.mul_one] at this
        omega
      · have : 1 * q ≤ z * q := Int.mul_le_mul_of_nonneg_right (by omega) hq
        omega
  have := Nat.pow_pos (a := 2) (n := k) (by omega)
  omega
theorem Bd.lit {k : Nat} {z : Int} (h : z.natAbs < 2 ^ k) : Bd k z := h
theorem Bd.fm {k : Nat} {z : Int} (h : Bd k z) (hk : k ≤ 320000000) : Fm z := by
  unfold Fm
  rcases Int.lt_or_le z 0 with h0 | h0
  · rw [show lm z = lm 0 by unfold lm; rw [show z.toNat = (0 : Int).toNat by omega], lm_zero]
    simp
  · refine lm_bl_len h0 ?_
    have h1 : bl z.natAbs ≤ k := bl_le h
    rw [show z.toNat = z.natAbs by omega]
    omega
end Go.Proofs.Ytmbmbmkmjbpcpaa.PA

