/- A row of one or two rationals as an argument; answers that are a rational and an error; no program's code is named. -/
import Derived.Outline
import Derived.LoopN
import Derived.Test.YtndopanohhdfgaaZPK
import Derived.Test.YtndopanohhdfgaaPAx0K
namespace Go.Proofs.Ytndopanohhdfgaa.PA
open Go Go.Proofs.Ytndopanohhdfgaa.Nums Go.RowKit Go.Proofs.YtndopanohhdfgaaW.PrintWords Go.Proofs.YtndopanohhdfgaaW.PrintLast Go.Proofs.YtndopanohhdfgaaW.PrintMore
set_option linter.unusedVariables false
set_option linter.unusedSimpArgs false
/-- a row of rationals, as it lies -/
def tyH (g : Nat) (cs : Array Value) : World → Value → Prop := fun w _ => w.heap[g]? = some (.cells cs 29 (0, 0))
theorem tyH.has {w : World} {g : Nat} {cs : Array Value} (v : Value) (h : w.heap[g]? = some (.cells cs 29 (0, 0))) : Has w w [(v, tyH g cs)] :=
  has_one fun w' k => k.blk g _ h (.inl (blk_lt h))
def okE1 (d : Int) : Int := if 0 < d then 0 else 30
def okE2 (d e : Int) : Int := if 0 < d ∧ 0 < e then 0 else 30
theorem okE1_t {d : Int} (h : 0 < d) : decide ((okE1 d) ≠ 0) = false := by unfold okE1; rw [if_pos h]; rfl
theorem okE1_f {d : Int} (h : ¬ 0 < d) : decide ((okE1 d) ≠ 0) = true := by unfold okE1; rw [if_neg h]; rfl
theorem okE2_t {d e : Int} (h : 0 < d ∧ 0 < e) : decide ((okE2 d e) ≠ 0) = false := by unfold okE2; rw [if_pos h]; rfl
theorem okE1_30 {d : Int} (h : ¬ 0 < d) : okE1 d = 30 := by unfold okE1; rw [if_neg h]
theorem okE2_30 {d e : Int} (h : ¬ (0 < d ∧ 0 < e)) : okE2 d e = 30 := by unfold okE2; rw [if_neg h]
theorem okE1_0 {d : Int} (h : 0 < d) : okE1 d = 0 := by unfold okE1; rw [if_pos h]
theorem okE2_0 {d e : Int} (h : 0 < d ∧ 0 < e) : okE2 d e = 0 := by unfold okE2; rw [if_pos h]
theorem sign_le {z : Int} (h : decide (z.sign ≤ 0) = true) : ¬ 0 < z := by
  have h := of_decide_eq_true h
  intro h1
  rw [Int.sign_eq_one_of_pos h1] at h
  omega
theorem sign_gt {z : Int} (h : decide (z.sign ≤ 0) = false) : 0 < z := by
  have h := of_decide_eq_false h
  rcases Int.lt_trichotomy 0 z with h1 | h1 | h1
  · exact h1
  · subst h1; exact absurd (by decide) h
  · rw [Int.sign_eq_neg_one_of_neg h1] at h; exact absurd (by decide) h
section
variable {a : Act} {o : Oper} {W w0 : World} {p q : Operand}
theorem run_addc {x y z : Int} (h : wrap64 (x + y) = z) (ho : o.op = .binOp .add 3 p q 3) (he : a.eval p = .int .i64 x) (he2 : a.eval q = .int .i64 y) : (execOp a.eval o).run Try.prog W = .ok (.value (.int .i64 z)) W := by
  subst h
  exact run_add ho he he2
theorem run_func2 {n : FuncId} {u v : Value} (ho : o.op = .makeFunc (.func n) #[] #[p, q]) (he : a.eval p = u) (he2 : a.eval q = v) : (execOp a.eval o).run Try.prog W = .ok (.value (.func (.func n) #[] #[u, v])) W := by
  unfold execOp
  simp only [ho, List.map_toArray, List.map_cons, List.map_nil, he, he2]
  first | rfl | (go_simp; done) | (go_simp; rfl)
theorem op_calld {K : Act → World → Prop} {Q : Exit → Act → World → Prop} {P : Program} {w : World} {f : FuncId} {fn : Func} {t : Tmp} {caps : Array Value} (hop : o.op = .call { callee := .value (.tmp t), args := #[], argTypes := #[] }) (hv : a.eval (.tmp t) = .func (.func f) #[] caps) (hf : P.funcs[f]? = some fn) (hname : (fn.name == "runtime.NumGoroutine") = false) (hb : fn.body.isSome = true)
    (h : Calls P f caps w fun e w' => ∃ v, e = .returned v ∧ K (a.put o.dst v) w') : o.wp P a w K Q := by
  have he := enters_ hf hname hb caps w
  have hrun : (execOp a.eval o).run P w = .ok (.enter f caps) w := by
    unfold execOp
    simp only [hop, resolve, hv]
    simp [Deferred.ofValue, invoke, he]
  unfold Oper.wp
  rw [hrun, Oper.upon_enter]
  refine h.mono fun e w'' hh => ?_
  obtain ⟨v, rfl, hk⟩ := hh
  exact hk
theorem run_lenR {A : Option Addr} {n c : Nat} (ho : o.op = .call { callee := .builtin .len, args := #[p], argTypes := #[76] }) (he : a.eval p = .slice A n c) : (execOp a.eval o).run Try.prog W = .ok (.value (.int .i64 n)) W := by
  unfold execOp
  simp only [ho, resolve, List.map_toArray, List.map_cons, List.map_nil, he]
  go_simp
theorem run_indexR0 {g n c : Nat} (ho : o.op = .indexAddr 76 p q) (he : a.eval p = .slice (some ⟨g, 0, none⟩) (n + 1) c) (he2 : a.eval q = .int .i64 0) : (execOp a.eval o).run Try.prog W = .ok (.value (.pointer (some ⟨g, 0, none⟩))) W := by
  have e2 : (0 : Int) < ((n + 1 : Nat) : Int) := by omega
  unfold execOp
  simp only [ho, he, he2]
  go_simp
theorem run_indexR1 {g n c : Nat} (ho : o.op = .indexAddr 76 p q) (he : a.eval p = .slice (some ⟨g, 0, none⟩) (n + 2) c) (he2 : a.eval q = .int .i64 1) : (execOp a.eval o).run Try.prog W = .ok (.value (.pointer (some ⟨g, 4, none⟩))) W := by
  have e2 : (1 : Int) < ((n + 2 : Nat) : Int) := by omega
  unfold execOp
  simp only [ho, he, he2]
  go_simp
  try (intro h; exact absurd h (by omega))
theorem run_load4at {g k : Nat} {x y z u : Value} (ho : o.op = .load 29 p) (he : a.eval p = .pointer (some ⟨g, k, none⟩)) (c0 : W.cell? ⟨g, k, none⟩ = some x) (c1 : W.cell? ⟨g, k + 1, none⟩ = some y) (c2 : W.cell? ⟨g, k + 2, none⟩ = some z) (c3 : W.cell? ⟨g, k + 3, none⟩ = some u) : (execOp a.eval o).run Try.prog W = .ok (.value (.agg #[x, y, z, u])) W := by
  unfold execOp
  simp only [ho, he]
  go_simp
theorem run_loadR0 {g : Nat} {x y z u : Value} {r : List Value} (ho : o.op = .load 29 p) (he : a.eval p = .pointer (some ⟨g, 0, none⟩)) (h : W.heap[g]? = some (.cells ⟨x :: y :: z :: u :: r⟩ 29 (0, 0))) : (execOp a.eval o).run Try.prog W = .ok (.value (.agg #[x, y, z, u])) W :=
  run_load4at ho he (blk_cell h 0) (blk_cell h 1) (blk_cell h 2) (blk_cell h 3)
theorem run_loadR1 {g : Nat} {x y z u x' y' z' u' : Value} {r : List Value} (ho : o.op = .load 29 p) (he : a.eval p = .pointer (some ⟨g, 4, none⟩)) (h : W.heap[g]? = some (.cells ⟨x' :: y' :: z' :: u' :: x :: y :: z :: u :: r⟩ 29 (0, 0))) : (execOp a.eval o).run Try.prog W = .ok (.value (.agg #[x, y, z, u])) W :=
  run_load4at ho he (blk_cell h 4) (blk_cell h 5) (blk_cell h 6) (blk_cell h 7)
theorem run_rowR1 {b c : Bool} {A B : Option Addr} {n m i j : Nat} (ho : o.op = .buildSlice 76 1 #[(0, p)]) (he : a.eval p = .agg #[.bool b, .slice A n i, .bool c, .slice B m j]) : (execOp a.eval o).run Try.prog W = .ok (.value (.slice (some ⟨W.heap.size, 0, none⟩) 1 1)) (W.alloc (.cells #[.bool b, .slice A n i, .bool c, .slice B m j] 29 (0, 0))) := by
  unfold execOp
  simp only [ho, List.map_toArray, List.map_cons, List.map_nil, he]
  first | (go_simp; done) | (go_simp; rfl)
theorem run_rowR2 {b c : Bool} {A B : Option Addr} {n m i j : Nat} {b' c' : Bool} {A' B' : Option Addr} {n' m' i' j' : Nat} (ho : o.op = .buildSlice 76 2 #[(0, p), (1, q)]) (he : a.eval p = .agg #[.bool b, .slice A n i, .bool c, .slice B m j]) (he2 : a.eval q = .agg #[.bool b', .slice A' n' i', .bool c', .slice B' m' j']) : (execOp a.eval o).run Try.prog W = .ok (.value (.slice (some ⟨W.heap.size, 0, none⟩) 2 2)) (W.alloc (.cells #[.bool b, .slice A n i, .bool c, .slice B m j, .bool b', .slice A' n' i', .bool c', .slice B' m' j'] 29 (0, 0))) := by
  unfold execOp
  simp only [ho, List.map_toArray, List.map_cons, List.map_nil, he, he2]
  first | (go_simp; done) | (go_simp; rfl)
end
section
variable {w0 w W : World} {ts : List (Value × (World → Value → Prop))} {bs : List (Nat × TypeId × Array Value)} {a : Act} {o : Oper} {ops : Array Oper} {r : List Oper} {Q : Exit → Act → World → Prop} {p q : Operand}
theorem seq_rowR1 (Z : Zt w0 W ts bs) {b c : Bool} {A B : Option Addr} {n m i j : Nat} (hg : o.guard = none) (ho : o.op = .buildSlice 76 1 #[(0, p)]) (he : a.eval p = .agg #[.bool b, .slice A n i, .bool c, .slice B m j]) (hk : ∀ g W', Zt w0 W' ts ((g, 29, #[.bool b, .slice A n i, .bool c, .slice B m j]) :: bs) → wpList Try.prog ops Q r (a.put o.dst (.slice (some ⟨g, 0, none⟩) 1 1)) W') : wpList Try.prog ops Q (o :: r) a W :=
  list_op hg (wp_run (run_rowR1 ho he) (hk _ _ (Z.alloc 29 (by decide) _)))
theorem seq_rowR2 (Z : Zt w0 W ts bs) {b c : Bool} {A B : Option Addr} {n m i j : Nat} {b' c' : Bool} {A' B' : Option Addr} {n' m' i' j' : Nat} (hg : o.guard = none) (ho : o.op = .buildSlice 76 2 #[(0, p), (1, q)]) (he : a.eval p = .agg #[.bool b, .slice A n i, .bool c, .slice B m j]) (he2 : a.eval q = .agg #[.bool b', .slice A' n' i', .bool c', .slice B' m' j']) (hk : ∀ g W', Zt w0 W' ts ((g, 29, #[.bool b, .slice A n i, .bool c, .slice B m j, .bool b', .slice A' n' i', .bool c', .slice B' m' j']) :: bs) → wpList Try.prog ops Q r (a.put o.dst (.slice (some ⟨g, 0, none⟩) 2 2)) W') : wpList Try.prog ops Q (o :: r) a W :=
  list_op hg (wp_run (run_rowR2 ho he he2) (hk _ _ (Z.alloc 29 (by decide) _)))
theorem seq_dyn {P : Program} (Z : Zt w0 W ts bs) {f : FuncId} {fn : Func} {t : Tmp} {caps : Array Value} {α : Type} {F : α → Value} {T : α → List (Value × (World → Value → Prop))} (hg : o.guard = none) (hop : o.op = .call { callee := .value (.tmp t), args := #[], argTypes := #[] }) (hv : a.eval (.tmp t) = .func (.func f) #[] caps)
    (hf : P.funcs[f]? = some fn ∧ (fn.name == "runtime.NumGoroutine") = false ∧ fn.body.isSome = true) (h : Calls P f caps W fun e W' => ∃ v, e = .returned v ∧ Below W.heap.size W W' ∧ (Sp.val α F T).New w0 W W' v)
    (hk : ∀ x W', Zt w0 W' (T x ++ ts) bs → wpList P ops Q r (a.put o.dst (F x)) W') : wpList P ops Q (o :: r) a W :=
  list_op hg (op_calld hop hv hf.1 hf.2.1 hf.2.2 (h.mono fun e W' ⟨v, he, hb, x, hx, hT⟩ => ⟨v, he, by rw [hx]; exact hk x W' ((Z.step hb).more hT)⟩))
def spQi (w0 : World) (z y : Int) (u : Value) : Sp := .val (Sl × Sl) (fun s => .tuple #[.agg #[.bool (decide (z < 0)), s.1.v, .bool (decide (y < 0)), s.2.v], u]) (fun s => [(s.1.v, tyO w0 (mg z)), (s.2.v, tyO w0 (mg y))])
theorem Zt.callQi {P : Program} {f : FuncId} {args : Array Value} {z y : Int} {u : Value} (Z : Zt w0 w ts bs) (h : Calls P f args w (ResQi w z y u)) : Calls P f args w fun e W' => ∃ v, e = .returned v ∧ Below w.heap.size w W' ∧ (spQi w0 z y u).New w0 w W' v :=
  h.mono fun _ _ ⟨v, v2, he, hr, hr2, hb⟩ => by
    have ho := (has_row hr Z.below.size).append (has_row hr2 Z.below.size)
    obtain ⟨A, c, rfl, -, -⟩ := Rd.of_row hr
    obtain ⟨A2, c2, rfl, -, -⟩ := Rd.of_row hr2
    exact ⟨_, he, hb, ⟨⟨A, _, c⟩, ⟨A2, _, c2⟩⟩, rfl, ho⟩
end
theorem Zt.endsV2 {w0 W : World} {ts : List (Value × (World → Value → Prop))} {bs : List (Nat × TypeId × Array Value)} {a : Act} {fn : Func} {p q : Tmp} {u v t : Value} {P : Program} (Z : Zt w0 W ts bs) (h : fn.results = #[.tmp p, .tmp q]) (hd : a.defers = []) (hp : a.tmps.getD p undef = u) (hq : a.tmps.getD q undef = v) (hu : .tuple #[u, v] = t) : bodyPost P fn (RetV w0 t) .ret a W := by
  refine bodyPost_ret (v := .tuple #[a.tmps.getD p undef, a.tmps.getD q undef]) ?_ hd ⟨by rw [hp, hq, hu], Z.below⟩
  clear hp hq hu
  unfold results
  rw [h]
  go_simp
end Go.Proofs.Ytndopanohhdfgaa.PA


/- Boxes of rationals that another call's frame holds; a number stored into a rational; no program's code is named. -/
namespace Go.Proofs.Ytndopanohhdfgaa.PA
open Go Go.Proofs.Ytndopanohhdfgaa.Nums Go.RowKit Go.Proofs.YtndopanohhdfgaaW.PrintWords Go.Proofs.YtndopanohhdfgaaW.PrintLast Go.Proofs.YtndopanohhdfgaaW.PrintMore
set_option linter.unusedVariables false
set_option linter.unusedSimpArgs false
section
variable {a : Act} {o : Oper} {W w0 : World} {p q : Operand}
theorem run_castR {P : Program} {v v' : Bool} (h : (execOp a.eval o).run P W = .ok (.value (.bool v)) W) (e : v = v') : (execOp a.eval o).run P W = .ok (.value (.bool v')) W := e ▸ h
theorem run_loadNumH {g : Nat} {x y z u : Value} (ho : o.op = .load 24 p) (he : a.eval p = .pointer (some ⟨g, 0, none⟩)) (h : W.heap[g]? = some (.cells #[x, y, z, u] 29 (0, 0))) : (execOp a.eval o).run Try.prog W = .ok (.value (.agg #[x, y])) W := by
  have c0 : W.cell? ⟨g, 0, none⟩ = some x := blk_cell h 0
  have c1 : W.cell? ⟨g, 1, none⟩ = some y := blk_cell h 1
  unfold execOp
  simp only [ho, he]
  go_simp
theorem run_loadDenH {g : Nat} {x y z u : Value} (ho : o.op = .load 24 p) (he : a.eval p = .pointer (some ⟨g, 2, none⟩)) (h : W.heap[g]? = some (.cells #[x, y, z, u] 29 (0, 0))) : (execOp a.eval o).run Try.prog W = .ok (.value (.agg #[z, u])) W := by
  have c0 : W.cell? ⟨g, 2, none⟩ = some z := blk_cell h 2
  have c1 : W.cell? ⟨g, 3, none⟩ = some u := blk_cell h 3
  unfold execOp
  simp only [ho, he]
  go_simp
theorem run_storeNum {g : Nat} {x y z u : Value} {b : Bool} {A : Option Addr} {n i : Nat} (ho : o.op = .store 24 p q) (he : a.eval p = .pointer (some ⟨g, 0, none⟩)) (hv : a.eval q = .agg #[.bool b, .slice A n i]) (hb : Bx w0 W g 29 #[x, y, z, u]) : (execOp a.eval o).run Try.prog W = .ok .skip (set2 W g (.bool b) (.slice A n i)) := by
  obtain ⟨⟨c0, c1, c2, c3⟩, f0, f1, f2, f3⟩ := hb.four
  have d1 : ∀ u', (W.setCell ⟨g, 0, none⟩ u').cell? ⟨g, 1, none⟩ = some y := fun u' => blk_cell (hb.set 0 u').2.2 1
  have e1 : ∀ u', (W.setCell ⟨g, 0, none⟩ u').frozen? ⟨g, 1, none⟩ = false := fun u' => blk_frozen (hb.set 0 u').2.2 1
  unfold execOp
  simp only [ho, he, hv]
  go_simp
  rfl
end
section
variable {w0 w W : World} {ts : List (Value × (World → Value → Prop))} {bs : List (Nat × TypeId × Array Value)} {a : Act} {o : Oper} {ops : Array Oper} {r : List Oper} {Q : Exit → Act → World → Prop} {p q : Operand}
theorem Zt.putN (h : Zt w0 w ts bs) (i : Nat) {g : Nat} {t : TypeId} {x y z u : Value} (e : bs[i]? = some (g, t, #[x, y, z, u])) (x2 y2 : Value) :
    Zt w0 (set2 w g x2 y2) ts (bs.set i (g, t, #[x2, y2, z, u])) := by
  have hb := h.bx i e
  have hget : ∀ (n : Nat) (q : Nat × TypeId × Array Value), (bs.set i (g, t, #[x2, y2, z, u]))[n]? = some q → ∃ r : Nat × TypeId × Array Value, bs[n]? = some r ∧ r.1 = q.1 := by
    intro n q hn
    by_cases e2 : i = n
    · subst e2
      rw [List.getElem?_set_self (List.getElem?_eq_some_iff.mp e).1] at hn
      injection hn with hn
      subst hn
      exact ⟨_, e, rfl⟩
    · rw [List.getElem?_set_ne e2] at hn
      exact ⟨q, hn, rfl⟩
  refine ⟨(hb.set 0 x2).belowSet (hb.belowSet h.below 0 x2) 1 y2, h.typ.keep (hb.keeps2 x2 y2), fun q hq => ?_, fun n m p q hne hn hm => ?_⟩
  · obtain ⟨n, hn⟩ := List.getElem?_of_mem hq
    by_cases e2 : n = i
    · subst e2
      rw [List.getElem?_set_self (List.getElem?_eq_some_iff.mp e).1] at hn
      injection hn with hn
      subst hn
      exact (hb.set 0 x2).set 1 y2
    · rw [List.getElem?_set_ne (Ne.symm e2)] at hn
      exact (h.box q (List.mem_of_getElem? hn)).apart (h.apart i n _ q (Ne.symm e2) e hn) x2 y2
  · obtain ⟨r1, h1, e1⟩ := hget n p hn
    obtain ⟨r2, h2, e2⟩ := hget m q hm
    rw [← e1, ← e2]
    exact h.apart n m r1 r2 hne h1 h2
theorem seq_storeNum (Z : Zt w0 W ts bs) (k : Nat) {g : Nat} {x y z u : Value} (e : bs[k]? = some (g, 29, #[x, y, z, u])) {b : Bool} {A : Option Addr} {n i : Nat} (hg : o.guard = none) (ho : o.op = .store 24 p q) (he : a.eval p = .pointer (some ⟨g, 0, none⟩)) (hv : a.eval q = .agg #[.bool b, .slice A n i])
    (hk : ∀ W', Zt w0 W' ts (bs.set k (g, 29, #[.bool b, .slice A n i, z, u])) → wpList Try.prog ops Q r (a.put o.dst undef) W') : wpList Try.prog ops Q (o :: r) a W :=
  list_op hg (wp_mute (run_storeNum ho he hv (Z.bx k e)) (hk _ (Z.putN k e _ _)))
end
end Go.Proofs.Ytndopanohhdfgaa.PA


/- The walk of the document's Make of layer 3. -/
namespace Go.Proofs.Ytndopanohhdfgaa.PA
open Go Go.Proofs.Ytndopanohhdfgaa.Nums Go.RowKit Go.Proofs.YtndopanohhdfgaaW.PrintWords Go.Proofs.YtndopanohhdfgaaW.PrintLast Go.Proofs.YtndopanohhdfgaaW.PrintMore
set_option linter.unusedVariables false
set_option linter.unusedSimpArgs false
theorem zdiv {X g : Int} (hg : 0 < g) (hd : g ∣ X) : zof (decide (X < 0)) (((X.natAbs : Nat) : Int) / g) = X / g := by
  obtain ⟨k, rfl⟩ := hd
  have e : ((g * k).natAbs : Int) = g * ((k.natAbs : Nat) : Int) := by
    rw [Int.natAbs_mul, Int.natCast_mul, show ((g.natAbs : Nat) : Int) = g by omega]
  rw [e, Int.mul_ediv_cancel_left _ (by omega), Int.mul_ediv_cancel_left _ (by omega)]
  have hs : decide (g * k < 0) = decide (k < 0) := by
    refine decide_eq_decide.mpr ⟨fun h => ?_, fun h => ?_⟩
    · rcases Int.lt_or_le k 0 with h1 | h1
      · exact h1
      · have := Int.mul_nonneg (Int.le_of_lt hg) h1
        omega
    · have := Int.mul_pos hg (show 0 < -k by omega)
      rw [Int.mul_neg] at this
      omega
  rw [hs]
  exact zof_self k
theorem mg_nn {z : Int} (h : 0 ≤ z) : mg z = lm z := by
  unfold mg
  rw [show ((z.natAbs : Nat) : Int) = z by omega]
theorem sgn_abs (y : Int) : sgn y y = ((y.natAbs : Nat) : Int) := by
  unfold sgn
  split <;> omega
theorem rden {y g : Int} (hg : 0 < g) : false = decide (sgn y y / g < 0) ∧ lm (((y.natAbs : Nat) : Int) / g) = mg (sgn y y / g) := by
  have h : (0 : Int) ≤ ((y.natAbs : Nat) : Int) / g := Int.ediv_nonneg (by omega) (by omega)
  rw [sgn_abs]
  exact ⟨(decide_eq_false (by omega)).symm, (mg_nn h).symm⟩
theorem rnum_p {x y : Int} (h0 : y ≠ 0) (hn : ¬ y < 0) : zof (decide (x < 0)) (((x.natAbs : Nat) : Int) / gg x y) = sgn x y / gg x y := by
  unfold sgn
  rw [if_neg hn]
  exact zdiv (gg_pos h0) (gg_dvd x y).1
theorem rnum_n {x y : Int} (h0 : y ≠ 0) (hn : y < 0) : zof (decide (-x < 0)) ((((-x).natAbs : Nat) : Int) / gg x y) = sgn x y / gg x y := by
  unfold sgn
  rw [if_pos hn]
  exact zdiv (gg_pos h0) (Int.dvd_neg.mpr (gg_dvd x y).1)
set_option maxHeartbeats 4000000 in
set_option maxRecDepth 100000 in
theorem trammelref03_Make.semN {w : World} {b1 : Bool} {v1 : Value} {z1 : Int} {b2 : Bool} {v2 : Value} {z2 : Int} (m1 : NumV w b1 v1 z1) (m2 : NumV w b2 v2 z2) (hb1 : Bd 150000000 z1) (hb2 : Bd 150000000 z2) (h0 : z2 ≠ 0) (hn : z2 < 0) : Calls Try.prog 17 #[.agg #[.bool b1, v1], .agg #[.bool b2, v2]] w (ResQ w (sgn z1 z2 / gg z1 z2) (sgn z2 z2 / gg z1 z2)) := by
  obtain ⟨A1, n1, c1, rfl⟩ := m1.form
  obtain ⟨A2, n2, c2, rfl⟩ := m2.form
  have Z := Zt.begin2 m1 m2
  have hs : decide (((z2).sign) < (0)) = true := sign_lt hn
  have hgp := gg_pos (x := z1) h0
  have hg0 : ¬ gg z1 z2 = 0 := by omega
  have hbg : Bd 150000000 (gg z1 z2) := (Bd.gcd hb1.abs hb2.abs).mono (by decide)
  have hgc : gcdI (((-z1).natAbs : Nat)) (((-z2).natAbs : Nat)) = gg z1 z2 := gg_neg z1 z2
  go_enter Try.func17, Try.ntmps17
  refine wp_seq ?_
  refine wp_region_list ?_
  refine seq_box Z rfl rfl rfl ?_; clear Z; intro g1 W Z
  (try simp only [Act.put, List.setIfInBounds_toArray, List.set_cons_zero, List.set_cons_succ])
  refine seq_box Z rfl rfl rfl ?_; clear Z; intro g2 W Z
  (try simp only [Act.put, List.setIfInBounds_toArray, List.set_cons_zero, List.set_cons_succ])
  refine seq_alloc4 Z rfl rfl ?_; clear Z; intro g3 W Z
  (try simp only [Act.put, List.setIfInBounds_toArray, List.set_cons_zero, List.set_cons_succ])
  show Code.wp _ _ _ _ _
  refine wp_seq ?_
  refine wp_region_list ?_
  refine seq_is (v := .agg #[.bool (b1), .slice A1 n1 c1]) rfl (run_load2 rfl rfl (Z.bx 2 rfl)) ?_
  (try simp only [Act.put, List.setIfInBounds_toArray, List.set_cons_zero, List.set_cons_succ])
  refine seq_call Z rfl rfl Try.func47 rfl rfl (args1 rfl) (Z.callI (trammelref02_Norm.sem (Z.num 0 rfl)  )) ?_; clear Z; intro x4 W Z
  (try simp only [Act.put, List.setIfInBounds_toArray, List.set_cons_zero, List.set_cons_succ])
  refine seq_alloc Z rfl rfl ?_; clear Z; intro g5 W Z
  (try simp only [Act.put, List.setIfInBounds_toArray, List.set_cons_zero, List.set_cons_succ])
  refine seq_store Z 0 rfl rfl rfl rfl rfl ?_; clear Z; intro W Z
  (try simp only [Act.put, List.setIfInBounds_toArray, List.set_cons_zero, List.set_cons_succ])
  show Code.wp _ _ _ _ _
  refine wp_seq ?_
  refine wp_region_list ?_
  refine seq_is (v := .agg #[.bool (b2), .slice A2 n2 c2]) rfl (run_load2 rfl rfl (Z.bx 2 rfl)) ?_
  (try simp only [Act.put, List.setIfInBounds_toArray, List.set_cons_zero, List.set_cons_succ])
  refine seq_call Z rfl rfl Try.func47 rfl rfl (args1 rfl) (Z.callI (trammelref02_Norm.sem (Z.num 2 rfl)  )) ?_; clear Z; intro x6 W Z
  (try simp only [Act.put, List.setIfInBounds_toArray, List.set_cons_zero, List.set_cons_succ])
  refine seq_alloc Z rfl rfl ?_; clear Z; intro g7 W Z
  (try simp only [Act.put, List.setIfInBounds_toArray, List.set_cons_zero, List.set_cons_succ])
  refine seq_store Z 0 rfl rfl rfl rfl rfl ?_; clear Z; intro W Z
  (try simp only [Act.put, List.setIfInBounds_toArray, List.set_cons_zero, List.set_cons_succ])
  show Code.wp _ _ _ _ _
  refine wp_seq ?_
  refine wp_seq ?_
  refine wp_region_list ?_
  refine seq_is (v := .agg #[.bool (decide ((z2) < 0)), x6.v]) rfl (run_load2 rfl rfl (Z.bx 0 rfl)) ?_
  (try simp only [Act.put, List.setIfInBounds_toArray, List.set_cons_zero, List.set_cons_succ])
  refine seq_call Z rfl rfl Try.func14 rfl rfl (args1 rfl) (Z.callV (trammelref02_Sign.sem (Z.own 0 rfl (Bd.fm (Bd.abs hb2) (by decide))) (Bd.fm (Bd.abs hb2) (by decide)) )) ?_; clear Z; intro x8 W Z
  (try simp only [Act.put, List.setIfInBounds_toArray, List.set_cons_zero, List.set_cons_succ])
  refine seq_is (v := .bool (decide ((((z2)).sign) < (0)))) rfl (run_lss rfl rfl rfl) ?_
  (try simp only [Act.put, List.setIfInBounds_toArray, List.set_cons_zero, List.set_cons_succ])
  show Code.wp _ _ _ _ _
  refine wp_cond_true ((show _ = Value.bool (decide ((((z2)).sign) < (0))) from rfl).trans (congrArg Value.bool hs)) ?_
  refine wp_seq ?_
  refine wp_region_list ?_
  refine seq_is (v := .agg #[.bool (decide ((z1) < 0)), x4.v]) rfl (run_load2 rfl rfl (Z.bx 1 rfl)) ?_
  (try simp only [Act.put, List.setIfInBounds_toArray, List.set_cons_zero, List.set_cons_succ])
  refine seq_call Z rfl rfl Try.func48 rfl rfl (args1 rfl) (Z.callI (trammelref02_Neg.sem (Z.own 1 rfl (Bd.fm (Bd.abs hb1) (by decide)))  )) ?_; clear Z; intro x9 W Z
  (try simp only [Act.put, List.setIfInBounds_toArray, List.set_cons_zero, List.set_cons_succ])
  refine seq_store Z 1 rfl rfl rfl rfl rfl ?_; clear Z; intro W Z
  (try simp only [Act.put, List.setIfInBounds_toArray, List.set_cons_zero, List.set_cons_succ])
  show Code.wp _ _ _ _ _
  refine wp_region_list ?_
  refine seq_is (v := .agg #[.bool (decide ((z2) < 0)), x6.v]) rfl (run_load2 rfl rfl (Z.bx 0 rfl)) ?_
  (try simp only [Act.put, List.setIfInBounds_toArray, List.set_cons_zero, List.set_cons_succ])
  refine seq_call Z rfl rfl Try.func48 rfl rfl (args1 rfl) (Z.callI (trammelref02_Neg.sem (Z.own 1 rfl (Bd.fm (Bd.abs hb2) (by decide)))  )) ?_; clear Z; intro x10 W Z
  (try simp only [Act.put, List.setIfInBounds_toArray, List.set_cons_zero, List.set_cons_succ])
  refine seq_store Z 0 rfl rfl rfl rfl rfl ?_; clear Z; intro W Z
  (try simp only [Act.put, List.setIfInBounds_toArray, List.set_cons_zero, List.set_cons_succ])
  show Code.wp _ _ _ _ _
  refine wp_seq ?_
  refine wp_region_list ?_
  refine seq_is (v := .pointer (some ⟨g5, 1, none⟩)) rfl (run_field1 rfl rfl) ?_
  (try simp only [Act.put, List.setIfInBounds_toArray, List.set_cons_zero, List.set_cons_succ])
  refine seq_is (v := x9.v) rfl (run_loadM rfl rfl (Z.bx 1 rfl)) ?_
  (try simp only [Act.put, List.setIfInBounds_toArray, List.set_cons_zero, List.set_cons_succ])
  refine seq_is (v := .pointer (some ⟨g7, 1, none⟩)) rfl (run_field1 rfl rfl) ?_
  (try simp only [Act.put, List.setIfInBounds_toArray, List.set_cons_zero, List.set_cons_succ])
  refine seq_is (v := x10.v) rfl (run_loadM rfl rfl (Z.bx 0 rfl)) ?_
  (try simp only [Act.put, List.setIfInBounds_toArray, List.set_cons_zero, List.set_cons_succ])
  refine seq_call Z rfl rfl Try.func49 rfl rfl (args2 rfl rfl) (Z.callM (hgc ▸ trammelref01_Gcd.sem (Z.own 1 rfl (Bd.fm (Bd.abs (Bd.neg hb1)) (by decide))).mag (Z.own 0 rfl (Bd.fm (Bd.abs (Bd.neg hb2)) (by decide))).mag)) ?_; clear Z; intro x11 W Z
  (try simp only [Act.put, List.setIfInBounds_toArray, List.set_cons_zero, List.set_cons_succ])
  refine seq_is (v := x11.v) rfl (run_assign rfl rfl) ?_
  (try simp only [Act.put, List.setIfInBounds_toArray, List.set_cons_zero, List.set_cons_succ])
  show Code.wp _ _ _ _ _
  refine wp_seq ?_
  refine wp_region_list ?_
  refine seq_is (v := .pointer (some ⟨g5, 1, none⟩)) rfl (run_field1 rfl rfl) ?_
  (try simp only [Act.put, List.setIfInBounds_toArray, List.set_cons_zero, List.set_cons_succ])
  refine seq_is (v := x9.v) rfl (run_loadM rfl rfl (Z.bx 1 rfl)) ?_
  (try simp only [Act.put, List.setIfInBounds_toArray, List.set_cons_zero, List.set_cons_succ])
  refine seq_is (v := x11.v) rfl (run_move rfl rfl) ?_
  (try simp only [Act.put, List.setIfInBounds_toArray, List.set_cons_zero, List.set_cons_succ])
  refine seq_call Z rfl rfl Try.func50 rfl rfl (args2 rfl rfl) (Z.callMMi (trammelref01_Div.semN (Z.own 2 rfl (Bd.fm (Bd.abs (Bd.neg hb1)) (by decide))).mag (Z.ownM 0 rfl (Int.le_of_lt hgp) (Bd.fm hbg (by decide))) hg0)) ?_; clear Z; intro x12 W Z
  (try simp only [Act.put, List.setIfInBounds_toArray, List.set_cons_zero, List.set_cons_succ])
  refine seq_is (v := .tuple #[x12.1.v, x12.2.v, .int .i64 (0)]) rfl (run_move rfl rfl) ?_
  (try simp only [Act.put, List.setIfInBounds_toArray, List.set_cons_zero, List.set_cons_succ])
  refine seq_is (v := x12.1.v) rfl (run_extract rfl rfl rfl) ?_
  (try simp only [Act.put, List.setIfInBounds_toArray, List.set_cons_zero, List.set_cons_succ])
  refine seq_is (v := x12.2.v) rfl (run_extract rfl rfl rfl) ?_
  (try simp only [Act.put, List.setIfInBounds_toArray, List.set_cons_zero, List.set_cons_succ])
  refine seq_is (v := .int .i64 (0)) rfl (run_extract rfl rfl rfl) ?_
  (try simp only [Act.put, List.setIfInBounds_toArray, List.set_cons_zero, List.set_cons_succ])
  refine seq_is (v := x12.1.v) rfl (run_assign rfl rfl) ?_
  (try simp only [Act.put, List.setIfInBounds_toArray, List.set_cons_zero, List.set_cons_succ])
  refine seq_is (v := x12.2.v) rfl (run_assign rfl rfl) ?_
  (try simp only [Act.put, List.setIfInBounds_toArray, List.set_cons_zero, List.set_cons_succ])
  refine seq_is (v := .int .i64 (0)) rfl (run_assign rfl rfl) ?_
  (try simp only [Act.put, List.setIfInBounds_toArray, List.set_cons_zero, List.set_cons_succ])
  show Code.wp _ _ _ _ _
  refine wp_seq ?_
  refine wp_region_list ?_
  refine seq_is (v := .pointer (some ⟨g7, 1, none⟩)) rfl (run_field1 rfl rfl) ?_
  (try simp only [Act.put, List.setIfInBounds_toArray, List.set_cons_zero, List.set_cons_succ])
  refine seq_is (v := x10.v) rfl (run_loadM rfl rfl (Z.bx 0 rfl)) ?_
  (try simp only [Act.put, List.setIfInBounds_toArray, List.set_cons_zero, List.set_cons_succ])
  refine seq_is (v := x11.v) rfl (run_move rfl rfl) ?_
  (try simp only [Act.put, List.setIfInBounds_toArray, List.set_cons_zero, List.set_cons_succ])
  refine seq_call Z rfl rfl Try.func50 rfl rfl (args2 rfl rfl) (Z.callMMi (trammelref01_Div.semN (Z.own 3 rfl (Bd.fm (Bd.abs (Bd.neg hb2)) (by decide))).mag (Z.ownM 2 rfl (Int.le_of_lt hgp) (Bd.fm hbg (by decide))) hg0)) ?_; clear Z; intro x13 W Z
  (try simp only [Act.put, List.setIfInBounds_toArray, List.set_cons_zero, List.set_cons_succ])
  refine seq_is (v := .tuple #[x13.1.v, x13.2.v, .int .i64 (0)]) rfl (run_move rfl rfl) ?_
  (try simp only [Act.put, List.setIfInBounds_toArray, List.set_cons_zero, List.set_cons_succ])
  refine seq_is (v := x13.1.v) rfl (run_extract rfl rfl rfl) ?_
  (try simp only [Act.put, List.setIfInBounds_toArray, List.set_cons_zero, List.set_cons_succ])
  refine seq_is (v := x13.2.v) rfl (run_extract rfl rfl rfl) ?_
  (try simp only [Act.put, List.setIfInBounds_toArray, List.set_cons_zero, List.set_cons_succ])
  refine seq_is (v := .int .i64 (0)) rfl (run_extract rfl rfl rfl) ?_
  (try simp only [Act.put, List.setIfInBounds_toArray, List.set_cons_zero, List.set_cons_succ])
  refine seq_is (v := x13.1.v) rfl (run_assign rfl rfl) ?_
  (try simp only [Act.put, List.setIfInBounds_toArray, List.set_cons_zero, List.set_cons_succ])
  refine seq_is (v := x13.2.v) rfl (run_assign rfl rfl) ?_
  (try simp only [Act.put, List.setIfInBounds_toArray, List.set_cons_zero, List.set_cons_succ])
  refine seq_is (v := .int .i64 (0)) rfl (run_assign rfl rfl) ?_
  (try simp only [Act.put, List.setIfInBounds_toArray, List.set_cons_zero, List.set_cons_succ])
  show Code.wp _ _ _ _ _
  refine wp_seq ?_
  refine wp_region_list ?_
  refine seq_is (v := .pointer (some ⟨g5, 0, none⟩)) rfl (run_field0 rfl rfl) ?_
  (try simp only [Act.put, List.setIfInBounds_toArray, List.set_cons_zero, List.set_cons_succ])
  refine seq_is (v := .bool (decide (-((z1)) < 0))) rfl (run_loadN rfl rfl (Z.bx 1 rfl)) ?_
  (try simp only [Act.put, List.setIfInBounds_toArray, List.set_cons_zero, List.set_cons_succ])
  refine seq_is (v := x12.1.v) rfl (run_move rfl rfl) ?_
  (try simp only [Act.put, List.setIfInBounds_toArray, List.set_cons_zero, List.set_cons_succ])
  refine seq_is (v := .agg #[.bool (decide (-((z1)) < 0)), x12.1.v]) rfl (run_build2 rfl rfl rfl) ?_
  (try simp only [Act.put, List.setIfInBounds_toArray, List.set_cons_zero, List.set_cons_succ])
  refine seq_call Z rfl rfl Try.func47 rfl rfl (args1 rfl) (Z.callI (trammelref02_Norm.sem (NumV.of_mag (Z.ownM 2 rfl (Int.ediv_nonneg (by omega) (Int.le_of_lt hgp)) (Bd.fm (Bd.div (Bd.abs (Bd.neg hb1)) hbg) (by decide))))  )) ?_; clear Z; intro x14 W Z
  (try simp only [Act.put, List.setIfInBounds_toArray, List.set_cons_zero, List.set_cons_succ])
  refine seq_is (v := x13.1.v) rfl (run_move rfl rfl) ?_
  (try simp only [Act.put, List.setIfInBounds_toArray, List.set_cons_zero, List.set_cons_succ])
  refine seq_is (v := .agg #[.bool (false), x13.1.v]) rfl (run_build1 rfl rfl) ?_
  (try simp only [Act.put, List.setIfInBounds_toArray, List.set_cons_zero, List.set_cons_succ])
  refine seq_is (v := .agg #[.bool (decide ((zof (decide (-((z1)) < 0)) (((-((z1))).natAbs : Nat) / gg z1 z2)) < 0)), x14.v, .bool (false), x13.1.v]) rfl (run_buildR rfl rfl rfl) ?_
  (try simp only [Act.put, List.setIfInBounds_toArray, List.set_cons_zero, List.set_cons_succ])
  refine seq_store4 Z 2 rfl rfl rfl rfl rfl ?_; clear Z; intro W Z
  (try simp only [Act.put, List.setIfInBounds_toArray, List.set_cons_zero, List.set_cons_succ])
  show Code.wp _ _ _ _ _
  refine wp_ret ?_
  exact Z.endsQ' 2 0 1 rfl rfl rfl rfl rfl rfl (by rw [rnum_n h0 hn]) (by rw [rnum_n h0 hn]) (by exact (rden hgp).1) (by rw [Int.natAbs_neg]; exact (rden hgp).2)
set_option maxHeartbeats 4000000 in
set_option maxRecDepth 100000 in
theorem trammelref03_Make.semP {w : World} {b1 : Bool} {v1 : Value} {z1 : Int} {b2 : Bool} {v2 : Value} {z2 : Int} (m1 : NumV w b1 v1 z1) (m2 : NumV w b2 v2 z2) (hb1 : Bd 150000000 z1) (hb2 : Bd 150000000 z2) (h0 : z2 ≠ 0) (hn : ¬ z2 < 0) : Calls Try.prog 17 #[.agg #[.bool b1, v1], .agg #[.bool b2, v2]] w (ResQ w (sgn z1 z2 / gg z1 z2) (sgn z2 z2 / gg z1 z2)) := by
  obtain ⟨A1, n1, c1, rfl⟩ := m1.form
  obtain ⟨A2, n2, c2, rfl⟩ := m2.form
  have Z := Zt.begin2 m1 m2
  have hs : decide (((z2).sign) < (0)) = false := sign_lt' hn
  have hgp := gg_pos (x := z1) h0
  have hg0 : ¬ gg z1 z2 = 0 := by omega
  have hbg : Bd 150000000 (gg z1 z2) := (Bd.gcd hb1.abs hb2.abs).mono (by decide)
  have hgc : gcdI (((z1).natAbs : Nat)) (((z2).natAbs : Nat)) = gg z1 z2 := rfl
  go_enter Try.func17, Try.ntmps17
  refine wp_seq ?_
  refine wp_region_list ?_
  refine seq_box Z rfl rfl rfl ?_; clear Z; intro g1 W Z
  (try simp only [Act.put, List.setIfInBounds_toArray, List.set_cons_zero, List.set_cons_succ])
  refine seq_box Z rfl rfl rfl ?_; clear Z; intro g2 W Z
  (try simp only [Act.put, List.setIfInBounds_toArray, List.set_cons_zero, List.set_cons_succ])
  refine seq_alloc4 Z rfl rfl ?_; clear Z; intro g3 W Z
  (try simp only [Act.put, List.setIfInBounds_toArray, List.set_cons_zero, List.set_cons_succ])
  show Code.wp _ _ _ _ _
  refine wp_seq ?_
  refine wp_region_list ?_
  refine seq_is (v := .agg #[.bool (b1), .slice A1 n1 c1]) rfl (run_load2 rfl rfl (Z.bx 2 rfl)) ?_
  (try simp only [Act.put, List.setIfInBounds_toArray, List.set_cons_zero, List.set_cons_succ])
  refine seq_call Z rfl rfl Try.func47 rfl rfl (args1 rfl) (Z.callI (trammelref02_Norm.sem (Z.num 0 rfl)  )) ?_; clear Z; intro x4 W Z
  (try simp only [Act.put, List.setIfInBounds_toArray, List.set_cons_zero, List.set_cons_succ])
  refine seq_alloc Z rfl rfl ?_; clear Z; intro g5 W Z
  (try simp only [Act.put, List.setIfInBounds_toArray, List.set_cons_zero, List.set_cons_succ])
  refine seq_store Z 0 rfl rfl rfl rfl rfl ?_; clear Z; intro W Z
  (try simp only [Act.put, List.setIfInBounds_toArray, List.set_cons_zero, List.set_cons_succ])
  show Code.wp _ _ _ _ _
  refine wp_seq ?_
  refine wp_region_list ?_
  refine seq_is (v := .agg #[.bool (b2), .slice A2 n2 c2]) rfl (run_load2 rfl rfl (Z.bx 2 rfl)) ?_
  (try simp only [Act.put, List.setIfInBounds_toArray, List.set_cons_zero, List.set_cons_succ])
  refine seq_call Z rfl rfl Try.func47 rfl rfl (args1 rfl) (Z.callI (trammelref02_Norm.sem (Z.num 2 rfl)  )) ?_; clear Z; intro x6 W Z
  (try simp only [Act.put, List.setIfInBounds_toArray, List.set_cons_zero, List.set_cons_succ])
  refine seq_alloc Z rfl rfl ?_; clear Z; intro g7 W Z
  (try simp only [Act.put, List.setIfInBounds_toArray, List.set_cons_zero, List.set_cons_succ])
  refine seq_store Z 0 rfl rfl rfl rfl rfl ?_; clear Z; intro W Z
  (try simp only [Act.put, List.setIfInBounds_toArray, List.set_cons_zero, List.set_cons_succ])
  show Code.wp _ _ _ _ _
  refine wp_seq ?_
  refine wp_seq ?_
  refine wp_region_list ?_
  refine seq_is (v := .agg #[.bool (decide ((z2) < 0)), x6.v]) rfl (run_load2 rfl rfl (Z.bx 0 rfl)) ?_
  (try simp only [Act.put, List.setIfInBounds_toArray, List.set_cons_zero, List.set_cons_succ])
  refine seq_call Z rfl rfl Try.func14 rfl rfl (args1 rfl) (Z.callV (trammelref02_Sign.sem (Z.own 0 rfl (Bd.fm (Bd.abs hb2) (by decide))) (Bd.fm (Bd.abs hb2) (by decide)) )) ?_; clear Z; intro x8 W Z
  (try simp only [Act.put, List.setIfInBounds_toArray, List.set_cons_zero, List.set_cons_succ])
  refine seq_is (v := .bool (decide ((((z2)).sign) < (0)))) rfl (run_lss rfl rfl rfl) ?_
  (try simp only [Act.put, List.setIfInBounds_toArray, List.set_cons_zero, List.set_cons_succ])
  show Code.wp _ _ _ _ _
  refine wp_cond_false ((show _ = Value.bool (decide ((((z2)).sign) < (0))) from rfl).trans (congrArg Value.bool hs)) ?_
  refine wp_skip ?_
  show Code.wp _ _ _ _ _
  refine wp_seq ?_
  refine wp_region_list ?_
  refine seq_is (v := .pointer (some ⟨g5, 1, none⟩)) rfl (run_field1 rfl rfl) ?_
  (try simp only [Act.put, List.setIfInBounds_toArray, List.set_cons_zero, List.set_cons_succ])
  refine seq_is (v := x4.v) rfl (run_loadM rfl rfl (Z.bx 1 rfl)) ?_
  (try simp only [Act.put, List.setIfInBounds_toArray, List.set_cons_zero, List.set_cons_succ])
  refine seq_is (v := .pointer (some ⟨g7, 1, none⟩)) rfl (run_field1 rfl rfl) ?_
  (try simp only [Act.put, List.setIfInBounds_toArray, List.set_cons_zero, List.set_cons_succ])
  refine seq_is (v := x6.v) rfl (run_loadM rfl rfl (Z.bx 0 rfl)) ?_
  (try simp only [Act.put, List.setIfInBounds_toArray, List.set_cons_zero, List.set_cons_succ])
  refine seq_call Z rfl rfl Try.func49 rfl rfl (args2 rfl rfl) (Z.callM (hgc ▸ trammelref01_Gcd.sem (Z.own 1 rfl (Bd.fm (Bd.abs hb1) (by decide))).mag (Z.own 0 rfl (Bd.fm (Bd.abs hb2) (by decide))).mag)) ?_; clear Z; intro x9 W Z
  (try simp only [Act.put, List.setIfInBounds_toArray, List.set_cons_zero, List.set_cons_succ])
  refine seq_is (v := x9.v) rfl (run_assign rfl rfl) ?_
  (try simp only [Act.put, List.setIfInBounds_toArray, List.set_cons_zero, List.set_cons_succ])
  show Code.wp _ _ _ _ _
  refine wp_seq ?_
  refine wp_region_list ?_
  refine seq_is (v := .pointer (some ⟨g5, 1, none⟩)) rfl (run_field1 rfl rfl) ?_
  (try simp only [Act.put, List.setIfInBounds_toArray, List.set_cons_zero, List.set_cons_succ])
  refine seq_is (v := x4.v) rfl (run_loadM rfl rfl (Z.bx 1 rfl)) ?_
  (try simp only [Act.put, List.setIfInBounds_toArray, List.set_cons_zero, List.set_cons_succ])
  refine seq_is (v := x9.v) rfl (run_move rfl rfl) ?_
  (try simp only [Act.put, List.setIfInBounds_toArray, List.set_cons_zero, List.set_cons_succ])
  refine seq_call Z rfl rfl Try.func50 rfl rfl (args2 rfl rfl) (Z.callMMi (trammelref01_Div.semN (Z.own 2 rfl (Bd.fm (Bd.abs hb1) (by decide))).mag (Z.ownM 0 rfl (Int.le_of_lt hgp) (Bd.fm hbg (by decide))) hg0)) ?_; clear Z; intro x10 W Z
  (try simp only [Act.put, List.setIfInBounds_toArray, List.set_cons_zero, List.set_cons_succ])
  refine seq_is (v := .tuple #[x10.1.v, x10.2.v, .int .i64 (0)]) rfl (run_move rfl rfl) ?_
  (try simp only [Act.put, List.setIfInBounds_toArray, List.set_cons_zero, List.set_cons_succ])
  refine seq_is (v := x10.1.v) rfl (run_extract rfl rfl rfl) ?_
  (try simp only [Act.put, List.setIfInBounds_toArray, List.set_cons_zero, List.set_cons_succ])
  refine seq_is (v := x10.2.v) rfl (run_extract rfl rfl rfl) ?_
  (try simp only [Act.put, List.setIfInBounds_toArray, List.set_cons_zero, List.set_cons_succ])
  refine seq_is (v := .int .i64 (0)) rfl (run_extract rfl rfl rfl) ?_
  (try simp only [Act.put, List.setIfInBounds_toArray, List.set_cons_zero, List.set_cons_succ])
  refine seq_is (v := x10.1.v) rfl (run_assign rfl rfl) ?_
  (try simp only [Act.put, List.setIfInBounds_toArray, List.set_cons_zero, List.set_cons_succ])
  refine seq_is (v := x10.2.v) rfl (run_assign rfl rfl) ?_
  (try simp only [Act.put, List.setIfInBounds_toArray, List.set_cons_zero, List.set_cons_succ])
  refine seq_is (v := .int .i64 (0)) rfl (run_assign rfl rfl) ?_
  (try simp only [Act.put, List.setIfInBounds_toArray, List.set_cons_zero, List.set_cons_succ])
  show Code.wp _ _ _ _ _
  refine wp_seq ?_
  refine wp_region_list ?_
  refine seq_is (v := .pointer (some ⟨g7, 1, none⟩)) rfl (run_field1 rfl rfl) ?_
  (try simp only [Act.put, List.setIfInBounds_toArray, List.set_cons_zero, List.set_cons_succ])
  refine seq_is (v := x6.v) rfl (run_loadM rfl rfl (Z.bx 0 rfl)) ?_
  (try simp only [Act.put, List.setIfInBounds_toArray, List.set_cons_zero, List.set_cons_succ])
  refine seq_is (v := x9.v) rfl (run_move rfl rfl) ?_
  (try simp only [Act.put, List.setIfInBounds_toArray, List.set_cons_zero, List.set_cons_succ])
  refine seq_call Z rfl rfl Try.func50 rfl rfl (args2 rfl rfl) (Z.callMMi (trammelref01_Div.semN (Z.own 3 rfl (Bd.fm (Bd.abs hb2) (by decide))).mag (Z.ownM 2 rfl (Int.le_of_lt hgp) (Bd.fm hbg (by decide))) hg0)) ?_; clear Z; intro x11 W Z
  (try simp only [Act.put, List.setIfInBounds_toArray, List.set_cons_zero, List.set_cons_succ])
  refine seq_is (v := .tuple #[x11.1.v, x11.2.v, .int .i64 (0)]) rfl (run_move rfl rfl) ?_
  (try simp only [Act.put, List.setIfInBounds_toArray, List.set_cons_zero, List.set_cons_succ])
  refine seq_is (v := x11.1.v) rfl (run_extract rfl rfl rfl) ?_
  (try simp only [Act.put, List.setIfInBounds_toArray, List.set_cons_zero, List.set_cons_succ])
  refine seq_is (v := x11.2.v) rfl (run_extract rfl rfl rfl) ?_
  (try simp only [Act.put, List.setIfInBounds_toArray, List.set_cons_zero, List.set_cons_succ])
  refine seq_is (v := .int .i64 (0)) rfl (run_extract rfl rfl rfl) ?_
  (try simp only [Act.put, List.setIfInBounds_toArray, List.set_cons_zero, List.set_cons_succ])
  refine seq_is (v := x11.1.v) rfl (run_assign rfl rfl) ?_
  (try simp only [Act.put, List.setIfInBounds_toArray, List.set_cons_zero, List.set_cons_succ])
  refine seq_is (v := x11.2.v) rfl (run_assign rfl rfl) ?_
  (try simp only [Act.put, List.setIfInBounds_toArray, List.set_cons_zero, List.set_cons_succ])
  refine seq_is (v := .int .i64 (0)) rfl (run_assign rfl rfl) ?_
  (try simp only [Act.put, List.setIfInBounds_toArray, List.set_cons_zero, List.set_cons_succ])
  show Code.wp _ _ _ _ _
  refine wp_seq ?_
  refine wp_region_list ?_
  refine seq_is (v := .pointer (some ⟨g5, 0, none⟩)) rfl (run_field0 rfl rfl) ?_
  (try simp only [Act.put, List.setIfInBounds_toArray, List.set_cons_zero, List.set_cons_succ])
  refine seq_is (v := .bool (decide ((z1) < 0))) rfl (run_loadN rfl rfl (Z.bx 1 rfl)) ?_
  (try simp only [Act.put, List.setIfInBounds_toArray, List.set_cons_zero, List.set_cons_succ])
  refine seq_is (v := x10.1.v) rfl (run_move rfl rfl) ?_
  (try simp only [Act.put, List.setIfInBounds_toArray, List.set_cons_zero, List.set_cons_succ])
  refine seq_is (v := .agg #[.bool (decide ((z1) < 0)), x10.1.v]) rfl (run_build2 rfl rfl rfl) ?_
  (try simp only [Act.put, List.setIfInBounds_toArray, List.set_cons_zero, List.set_cons_succ])
  refine seq_call Z rfl rfl Try.func47 rfl rfl (args1 rfl) (Z.callI (trammelref02_Norm.sem (NumV.of_mag (Z.ownM 2 rfl (Int.ediv_nonneg (by omega) (Int.le_of_lt hgp)) (Bd.fm (Bd.div (Bd.abs hb1) hbg) (by decide))))  )) ?_; clear Z; intro x12 W Z
  (try simp only [Act.put, List.setIfInBounds_toArray, List.set_cons_zero, List.set_cons_succ])
  refine seq_is (v := x11.1.v) rfl (run_move rfl rfl) ?_
  (try simp only [Act.put, List.setIfInBounds_toArray, List.set_cons_zero, List.set_cons_succ])
  refine seq_is (v := .agg #[.bool (false), x11.1.v]) rfl (run_build1 rfl rfl) ?_
  (try simp only [Act.put, List.setIfInBounds_toArray, List.set_cons_zero, List.set_cons_succ])
  refine seq_is (v := .agg #[.bool (decide ((zof (decide ((z1) < 0)) ((((z1)).natAbs : Nat) / gg z1 z2)) < 0)), x12.v, .bool (false), x11.1.v]) rfl (run_buildR rfl rfl rfl) ?_
  (try simp only [Act.put, List.setIfInBounds_toArray, List.set_cons_zero, List.set_cons_succ])
  refine seq_store4 Z 2 rfl rfl rfl rfl rfl ?_; clear Z; intro W Z
  (try simp only [Act.put, List.setIfInBounds_toArray, List.set_cons_zero, List.set_cons_succ])
  show Code.wp _ _ _ _ _
  refine wp_ret ?_
  exact Z.endsQ' 2 0 1 rfl rfl rfl rfl rfl rfl (by rw [rnum_p h0 hn]) (by rw [rnum_p h0 hn]) (by exact (rden hgp).1) (by exact (rden hgp).2)
theorem trammelref03_Make.sem {w : World} {b1 : Bool} {v1 : Value} {z1 : Int} {b2 : Bool} {v2 : Value} {z2 : Int} (m1 : NumV w b1 v1 z1) (m2 : NumV w b2 v2 z2) (hb1 : Bd 150000000 z1) (hb2 : Bd 150000000 z2) (h0 : z2 ≠ 0) : Calls Try.prog 17 #[.agg #[.bool b1, v1], .agg #[.bool b2, v2]] w (ResQ w (sgn z1 z2 / gg z1 z2) (sgn z2 z2 / gg z1 z2)) := by
  by_cases hn : z2 < 0
  · exact trammelref03_Make.semN m1 m2 hb1 hb2 h0 hn
  · exact trammelref03_Make.semP m1 m2 hb1 hb2 h0 hn
end Go.Proofs.Ytndopanohhdfgaa.PA


/- The walk of rat.valid over one or two rationals. -/
namespace Go.Proofs.Ytndopanohhdfgaa.PA
open Go Go.Proofs.Ytndopanohhdfgaa.Nums Go.RowKit Go.Proofs.YtndopanohhdfgaaW.PrintWords Go.Proofs.YtndopanohhdfgaaW.PrintLast Go.Proofs.YtndopanohhdfgaaW.PrintMore
set_option linter.unusedVariables false
set_option linter.unusedSimpArgs false
theorem pos_ne {z : Int} (h : 0 < z) : z ≠ 0 := by omega
theorem Bd.qn {k : Nat} {x y : Int} (h : Bd k x) : Bd k (qn x y) := by
  refine h.of_le ?_
  unfold Go.Proofs.Ytndopanohhdfgaa.PA.qn
  have h1 := Int.natAbs_ediv_le_natAbs (sgn x y) (gg x y)
  have h2 : (sgn x y).natAbs = x.natAbs := by unfold sgn; split <;> omega
  omega
theorem Bd.qd {k : Nat} {x y : Int} (h : Bd k y) : Bd k (qd x y) := by
  refine h.of_le ?_
  unfold Go.Proofs.Ytndopanohhdfgaa.PA.qd
  have h1 := Int.natAbs_ediv_le_natAbs (sgn y y) (gg x y)
  have h2 : (sgn y y).natAbs = y.natAbs := by unfold sgn; split <;> omega
  omega
theorem rat_made.semq {w : World} {b1 : Bool} {v1 : Value} {z1 : Int} {b2 : Bool} {v2 : Value} {z2 : Int} (m1 : NumV w b1 v1 z1) (m2 : NumV w b2 v2 z2) (hb1 : Bd 150000000 z1) (hb2 : Bd 150000000 z2) (h0 : z2 ≠ 0) : Calls Try.prog 44 #[.agg #[.bool b1, v1], .agg #[.bool b2, v2]] w (ResQ w (qn z1 z2) (qd z1 z2)) := rat_made.sem m1 m2 hb1 hb2 h0
theorem trammelref03_Make.semq {w : World} {b1 : Bool} {v1 : Value} {z1 : Int} {b2 : Bool} {v2 : Value} {z2 : Int} (m1 : NumV w b1 v1 z1) (m2 : NumV w b2 v2 z2) (hb1 : Bd 150000000 z1) (hb2 : Bd 150000000 z2) (h0 : z2 ≠ 0) : Calls Try.prog 17 #[.agg #[.bool b1, v1], .agg #[.bool b2, v2]] w (ResQ w (qn z1 z2) (qd z1 z2)) := trammelref03_Make.sem m1 m2 hb1 hb2 h0
set_option maxHeartbeats 4000000 in
set_option maxRecDepth 100000 in
theorem rat_valid.sem1 {w : World} {b1 : Bool} {v1 : Value} {z1 : Int} {b2 : Bool} {v2 : Value} {z2 : Int} {g : Nat} (m1 : NumV w b1 v1 z1) (m2 : NumV w b2 v2 z2) (hg : w.heap[g]? = some (.cells #[.bool b1, v1, .bool b2, v2] 29 (0, 0))) : Calls Try.prog 41 #[.slice (some ⟨g, 0, none⟩) 1 1] w (RetV w (.int .i64 (okE1 z2))) := by
  obtain ⟨A1, n1, c1, rfl⟩ := m1.form
  obtain ⟨A2, n2, c2, rfl⟩ := m2.form
  have Z := Zt.start w (m1.has.append (m2.has.append (tyH.has (.slice (some ⟨g, 0, none⟩) 1 1) hg)))
  go_enter Try.func41, Try.ntmps41
  refine wp_seq ?_
  refine wp_region_list ?_
  refine seq_is (v := .int .i64 (0)) rfl (run_assign rfl rfl) ?_
  (try simp only [Act.put, List.setIfInBounds_toArray, List.set_cons_zero, List.set_cons_succ])
  show Code.wp _ _ _ _ _
  refine wp_seq ?_
  refine wp_seq ?_
  refine wp_region_list ?_
  refine seq_is (v := .slice (some ⟨g, 0, none⟩) 1 1) rfl (run_move rfl rfl) ?_
  (try simp only [Act.put, List.setIfInBounds_toArray, List.set_cons_zero, List.set_cons_succ])
  refine seq_is (v := .int .i64 (1)) rfl (run_lenR rfl rfl) ?_
  (try simp only [Act.put, List.setIfInBounds_toArray, List.set_cons_zero, List.set_cons_succ])
  refine seq_is (v := .int .i64 (0)) rfl (run_move rfl rfl) ?_
  (try simp only [Act.put, List.setIfInBounds_toArray, List.set_cons_zero, List.set_cons_succ])
  show Code.wp _ _ _ _ _
  refine wp_block ?_
  refine wp_loop_rounds 2 ?_
  show Code.wp _ _ _ _ _
  refine wp_seq ?_
  refine wp_region_list ?_
  refine seq_is (v := .bool (decide ((0 : Int) < (1)))) rfl (run_lss rfl rfl rfl) ?_
  (try simp only [Act.put, List.setIfInBounds_toArray, List.set_cons_zero, List.set_cons_succ])
  show Code.wp _ _ _ _ _
  refine wp_seq ?_
  refine wp_cond_true rfl ?_
  refine wp_skip ?_
  show Code.wp _ _ _ _ _
  refine wp_seq ?_
  refine wp_block ?_
  refine wp_seq ?_
  refine wp_region_list ?_
  refine seq_is (v := .pointer (some ⟨g, 0, none⟩)) rfl (run_indexR0 rfl rfl rfl) ?_
  (try simp only [Act.put, List.setIfInBounds_toArray, List.set_cons_zero, List.set_cons_succ])
  refine seq_is (v := .agg #[.bool (b1), .slice A1 n1 c1, .bool (b2), .slice A2 n2 c2]) rfl (run_loadR0 rfl rfl (Z.get 2 rfl)) ?_
  (try simp only [Act.put, List.setIfInBounds_toArray, List.set_cons_zero, List.set_cons_succ])
  refine seq_alloc4 Z rfl rfl ?_; clear Z; intro g1 W Z
  (try simp only [Act.put, List.setIfInBounds_toArray, List.set_cons_zero, List.set_cons_succ])
  refine seq_store4 Z 0 rfl rfl rfl rfl rfl ?_; clear Z; intro W Z
  (try simp only [Act.put, List.setIfInBounds_toArray, List.set_cons_zero, List.set_cons_succ])
  show Code.wp _ _ _ _ _
  refine wp_seq ?_
  refine wp_region_list ?_
  refine seq_is (v := .pointer (some ⟨g1, 2, none⟩)) rfl (run_fieldR1 rfl rfl) ?_
  (try simp only [Act.put, List.setIfInBounds_toArray, List.set_cons_zero, List.set_cons_succ])
  refine seq_is (v := .agg #[.bool (b2), .slice A2 n2 c2]) rfl (run_loadDen rfl rfl (Z.bx 0 rfl)) ?_
  (try simp only [Act.put, List.setIfInBounds_toArray, List.set_cons_zero, List.set_cons_succ])
  refine seq_call Z rfl rfl Try.func43 rfl rfl (args1 rfl) (Z.callV (zint_Sign.sem (Z.num 1 rfl)  )) ?_; clear Z; intro x2 W Z
  (try simp only [Act.put, List.setIfInBounds_toArray, List.set_cons_zero, List.set_cons_succ])
  refine seq_is (v := .bool (decide (((z2).sign) ≤ (0)))) rfl (run_leq rfl rfl rfl) ?_
  (try simp only [Act.put, List.setIfInBounds_toArray, List.set_cons_zero, List.set_cons_succ])
  show Code.wp _ _ _ _ _
  refine wp_cond_split (t := decide (((z2).sign) ≤ (0))) rfl ?_ ?_
  · intro hc3
    refine wp_seq ?_
    refine wp_region_list ?_
    refine seq_is (v := .int .i64 (30)) rfl (run_assign rfl rfl) ?_
    (try simp only [Act.put, List.setIfInBounds_toArray, List.set_cons_zero, List.set_cons_succ])
    show Code.wp _ _ _ _ _
    refine wp_ret ?_
    exact Z.endsV (u := .int .i64 30) rfl rfl rfl (congrArg (Value.int .i64) (okE1_30 (sign_le hc3)).symm)
  · intro hc3
    refine wp_skip ?_
    show Code.wp _ _ _ _ _
    refine wp_region_list ?_
    refine seq_is (v := .int .i64 (1)) rfl (run_addc (z := 1) (by exact w64 (by omega) (by omega)) rfl rfl rfl) ?_
    (try simp only [Act.put, List.setIfInBounds_toArray, List.set_cons_zero, List.set_cons_succ])
    refine seq_is (v := .int .i64 (1)) rfl (run_move rfl rfl) ?_
    (try simp only [Act.put, List.setIfInBounds_toArray, List.set_cons_zero, List.set_cons_succ])
    show Code.wp _ _ _ _ _
    refine wp_seq ?_
    refine wp_region_list ?_
    refine seq_is (v := .bool (decide ((1 : Int) < (1)))) rfl (run_lss rfl rfl rfl) ?_
    (try simp only [Act.put, List.setIfInBounds_toArray, List.set_cons_zero, List.set_cons_succ])
    show Code.wp _ _ _ _ _
    refine wp_seq ?_
    refine wp_cond_false rfl ?_
    refine wp_exit ?_
    show Code.wp _ _ _ _ _
    refine wp_seq ?_
    refine wp_region_list ?_
    refine seq_is (v := .int .i64 (0)) rfl (run_assign rfl rfl) ?_
    (try simp only [Act.put, List.setIfInBounds_toArray, List.set_cons_zero, List.set_cons_succ])
    show Code.wp _ _ _ _ _
    refine wp_ret ?_
    exact Z.endsV (u := .int .i64 0) rfl rfl rfl (congrArg (Value.int .i64) (okE1_0 (sign_gt hc3)).symm)
set_option maxHeartbeats 4000000 in
set_option maxRecDepth 100000 in
theorem rat_valid.sem2 {w : World} {b1 : Bool} {v1 : Value} {z1 : Int} {b2 : Bool} {v2 : Value} {z2 : Int} {b3 : Bool} {v3 : Value} {z3 : Int} {b4 : Bool} {v4 : Value} {z4 : Int} {g : Nat} (m1 : NumV w b1 v1 z1) (m2 : NumV w b2 v2 z2) (m3 : NumV w b3 v3 z3) (m4 : NumV w b4 v4 z4) (hg : w.heap[g]? = some (.cells #[.bool b1, v1, .bool b2, v2, .bool b3, v3, .bool b4, v4] 29 (0, 0))) : Calls Try.prog 41 #[.slice (some ⟨g, 0, none⟩) 2 2] w (RetV w (.int .i64 (okE2 z2 z4))) := by
  obtain ⟨A1, n1, c1, rfl⟩ := m1.form
  obtain ⟨A2, n2, c2, rfl⟩ := m2.form
  obtain ⟨A3, n3, c3, rfl⟩ := m3.form
  obtain ⟨A4, n4, c4, rfl⟩ := m4.form
  have Z := Zt.start w (m1.has.append (m2.has.append (m3.has.append (m4.has.append (tyH.has (.slice (some ⟨g, 0, none⟩) 2 2) hg)))))
  go_enter Try.func41, Try.ntmps41
  refine wp_seq ?_
  refine wp_region_list ?_
  refine seq_is (v := .int .i64 (0)) rfl (run_assign rfl rfl) ?_
  (try simp only [Act.put, List.setIfInBounds_toArray, List.set_cons_zero, List.set_cons_succ])
  show Code.wp _ _ _ _ _
  refine wp_seq ?_
  refine wp_seq ?_
  refine wp_region_list ?_
  refine seq_is (v := .slice (some ⟨g, 0, none⟩) 2 2) rfl (run_move rfl rfl) ?_
  (try simp only [Act.put, List.setIfInBounds_toArray, List.set_cons_zero, List.set_cons_succ])
  refine seq_is (v := .int .i64 (2)) rfl (run_lenR rfl rfl) ?_
  (try simp only [Act.put, List.setIfInBounds_toArray, List.set_cons_zero, List.set_cons_succ])
  refine seq_is (v := .int .i64 (0)) rfl (run_move rfl rfl) ?_
  (try simp only [Act.put, List.setIfInBounds_toArray, List.set_cons_zero, List.set_cons_succ])
  show Code.wp _ _ _ _ _
  refine wp_block ?_
  refine wp_loop_rounds 3 ?_
  show Code.wp _ _ _ _ _
  refine wp_seq ?_
  refine wp_region_list ?_
  refine seq_is (v := .bool (decide ((0 : Int) < (2)))) rfl (run_lss rfl rfl rfl) ?_
  (try simp only [Act.put, List.setIfInBounds_toArray, List.set_cons_zero, List.set_cons_succ])
  show Code.wp _ _ _ _ _
  refine wp_seq ?_
  refine wp_cond_true rfl ?_
  refine wp_skip ?_
  show Code.wp _ _ _ _ _
  refine wp_seq ?_
  refine wp_block ?_
  refine wp_seq ?_
  refine wp_region_list ?_
  refine seq_is (v := .pointer (some ⟨g, 0, none⟩)) rfl (run_indexR0 rfl rfl rfl) ?_
  (try simp only [Act.put, List.setIfInBounds_toArray, List.set_cons_zero, List.set_cons_succ])
  refine seq_is (v := .agg #[.bool (b1), .slice A1 n1 c1, .bool (b2), .slice A2 n2 c2]) rfl (run_loadR0 rfl rfl (Z.get 4 rfl)) ?_
  (try simp only [Act.put, List.setIfInBounds_toArray, List.set_cons_zero, List.set_cons_succ])
  refine seq_alloc4 Z rfl rfl ?_; clear Z; intro g1 W Z
  (try simp only [Act.put, List.setIfInBounds_toArray, List.set_cons_zero, List.set_cons_succ])
  refine seq_store4 Z 0 rfl rfl rfl rfl rfl ?_; clear Z; intro W Z
  (try simp only [Act.put, List.setIfInBounds_toArray, List.set_cons_zero, List.set_cons_succ])
  show Code.wp _ _ _ _ _
  refine wp_seq ?_
  refine wp_region_list ?_
  refine seq_is (v := .pointer (some ⟨g1, 2, none⟩)) rfl (run_fieldR1 rfl rfl) ?_
  (try simp only [Act.put, List.setIfInBounds_toArray, List.set_cons_zero, List.set_cons_succ])
  refine seq_is (v := .agg #[.bool (b2), .slice A2 n2 c2]) rfl (run_loadDen rfl rfl (Z.bx 0 rfl)) ?_
  (try simp only [Act.put, List.setIfInBounds_toArray, List.set_cons_zero, List.set_cons_succ])
  refine seq_call Z rfl rfl Try.func43 rfl rfl (args1 rfl) (Z.callV (zint_Sign.sem (Z.num 1 rfl)  )) ?_; clear Z; intro x2 W Z
  (try simp only [Act.put, List.setIfInBounds_toArray, List.set_cons_zero, List.set_cons_succ])
  refine seq_is (v := .bool (decide (((z2).sign) ≤ (0)))) rfl (run_leq rfl rfl rfl) ?_
  (try simp only [Act.put, List.setIfInBounds_toArray, List.set_cons_zero, List.set_cons_succ])
  show Code.wp _ _ _ _ _
  refine wp_cond_split (t := decide (((z2).sign) ≤ (0))) rfl ?_ ?_
  · intro hc3
    refine wp_seq ?_
    refine wp_region_list ?_
    refine seq_is (v := .int .i64 (30)) rfl (run_assign rfl rfl) ?_
    (try simp only [Act.put, List.setIfInBounds_toArray, List.set_cons_zero, List.set_cons_succ])
    show Code.wp _ _ _ _ _
    refine wp_ret ?_
    exact Z.endsV (u := .int .i64 30) rfl rfl rfl (congrArg (Value.int .i64) (okE2_30 (fun h => sign_le hc3 h.1)).symm)
  · intro hc3
    refine wp_skip ?_
    show Code.wp _ _ _ _ _
    refine wp_region_list ?_
    refine seq_is (v := .int .i64 (1)) rfl (run_addc (z := 1) (by exact w64 (by omega) (by omega)) rfl rfl rfl) ?_
    (try simp only [Act.put, List.setIfInBounds_toArray, List.set_cons_zero, List.set_cons_succ])
    refine seq_is (v := .int .i64 (1)) rfl (run_move rfl rfl) ?_
    (try simp only [Act.put, List.setIfInBounds_toArray, List.set_cons_zero, List.set_cons_succ])
    show Code.wp _ _ _ _ _
    refine wp_seq ?_
    refine wp_region_list ?_
    refine seq_is (v := .bool (decide ((1 : Int) < (2)))) rfl (run_lss rfl rfl rfl) ?_
    (try simp only [Act.put, List.setIfInBounds_toArray, List.set_cons_zero, List.set_cons_succ])
    show Code.wp _ _ _ _ _
    refine wp_seq ?_
    refine wp_cond_true rfl ?_
    refine wp_skip ?_
    show Code.wp _ _ _ _ _
    refine wp_seq ?_
    refine wp_block ?_
    refine wp_seq ?_
    refine wp_region_list ?_
    refine seq_is (v := .pointer (some ⟨g, 4, none⟩)) rfl (run_indexR1 rfl rfl rfl) ?_
    (try simp only [Act.put, List.setIfInBounds_toArray, List.set_cons_zero, List.set_cons_succ])
    refine seq_is (v := .agg #[.bool (b3), .slice A3 n3 c3, .bool (b4), .slice A4 n4 c4]) rfl (run_loadR1 rfl rfl (Z.get 4 rfl)) ?_
    (try simp only [Act.put, List.setIfInBounds_toArray, List.set_cons_zero, List.set_cons_succ])
    refine seq_alloc4 Z rfl rfl ?_; clear Z; intro g4 W Z
    (try simp only [Act.put, List.setIfInBounds_toArray, List.set_cons_zero, List.set_cons_succ])
    refine seq_store4 Z 0 rfl rfl rfl rfl rfl ?_; clear Z; intro W Z
    (try simp only [Act.put, List.setIfInBounds_toArray, List.set_cons_zero, List.set_cons_succ])
    show Code.wp _ _ _ _ _
    refine wp_seq ?_
    refine wp_region_list ?_
    refine seq_is (v := .pointer (some ⟨g4, 2, none⟩)) rfl (run_fieldR1 rfl rfl) ?_
    (try simp only [Act.put, List.setIfInBounds_toArray, List.set_cons_zero, List.set_cons_succ])
    refine seq_is (v := .agg #[.bool (b4), .slice A4 n4 c4]) rfl (run_loadDen rfl rfl (Z.bx 0 rfl)) ?_
    (try simp only [Act.put, List.setIfInBounds_toArray, List.set_cons_zero, List.set_cons_succ])
    refine seq_call Z rfl rfl Try.func43 rfl rfl (args1 rfl) (Z.callV (zint_Sign.sem (Z.num 3 rfl)  )) ?_; clear Z; intro x5 W Z
    (try simp only [Act.put, List.setIfInBounds_toArray, List.set_cons_zero, List.set_cons_succ])
    refine seq_is (v := .bool (decide (((z4).sign) ≤ (0)))) rfl (run_leq rfl rfl rfl) ?_
    (try simp only [Act.put, List.setIfInBounds_toArray, List.set_cons_zero, List.set_cons_succ])
    show Code.wp _ _ _ _ _
    refine wp_cond_split (t := decide (((z4).sign) ≤ (0))) rfl ?_ ?_
    · intro hc6
      refine wp_seq ?_
      refine wp_region_list ?_
      refine seq_is (v := .int .i64 (30)) rfl (run_assign rfl rfl) ?_
      (try simp only [Act.put, List.setIfInBounds_toArray, List.set_cons_zero, List.set_cons_succ])
      show Code.wp _ _ _ _ _
      refine wp_ret ?_
      exact Z.endsV (u := .int .i64 30) rfl rfl rfl (congrArg (Value.int .i64) (okE2_30 (fun h => sign_le hc6 h.2)).symm)
    · intro hc6
      refine wp_skip ?_
      show Code.wp _ _ _ _ _
      refine wp_region_list ?_
      refine seq_is (v := .int .i64 (2)) rfl (run_addc (z := 2) (by exact w64 (by omega) (by omega)) rfl rfl rfl) ?_
      (try simp only [Act.put, List.setIfInBounds_toArray, List.set_cons_zero, List.set_cons_succ])
      refine seq_is (v := .int .i64 (2)) rfl (run_move rfl rfl) ?_
      (try simp only [Act.put, List.setIfInBounds_toArray, List.set_cons_zero, List.set_cons_succ])
      show Code.wp _ _ _ _ _
      refine wp_seq ?_
      refine wp_region_list ?_
      refine seq_is (v := .bool (decide ((2 : Int) < (2)))) rfl (run_lss rfl rfl rfl) ?_
      (try simp only [Act.put, List.setIfInBounds_toArray, List.set_cons_zero, List.set_cons_succ])
      show Code.wp _ _ _ _ _
      refine wp_seq ?_
      refine wp_cond_false rfl ?_
      refine wp_exit ?_
      show Code.wp _ _ _ _ _
      refine wp_seq ?_
      refine wp_region_list ?_
      refine seq_is (v := .int .i64 (0)) rfl (run_assign rfl rfl) ?_
      (try simp only [Act.put, List.setIfInBounds_toArray, List.set_cons_zero, List.set_cons_succ])
      show Code.wp _ _ _ _ _
      refine wp_ret ?_
      exact Z.endsV (u := .int .i64 0) rfl rfl rfl (congrArg (Value.int .i64) (okE2_0 ⟨sign_gt hc3, sign_gt hc6⟩).symm)
end Go.Proofs.Ytndopanohhdfgaa.PA

