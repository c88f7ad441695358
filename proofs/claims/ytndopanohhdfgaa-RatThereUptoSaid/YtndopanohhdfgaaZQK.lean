/- A row of one or two rationals as an argument; answers that are a rational and an error; no program's code is named. -/
import Derived.Outline
import Derived.LoopN
import Derived.Test.YtndopanohhdfgaaZPK
import Derived.Test.YtndopanohhdfgaaPAx0K
namespace Go.Proofs.Ytndopanohhdfgaa.PA
open Go Go.Proofs.Ytndopanohhdfgaa.Nums Go.RowKit Go.Proofs.YtndopanohhdfgaaW.PrintWords Go.Proofs.YtndopanohhdfgaaW.PrintLast Go.Proofs.YtndopanohhdfgaaW.PrintMore
set_option linter.unusedVariables false
set_option linter.unusedSimpArgs false
/-- a row of rationals, as it lies -/
def tyH (g : Nat) (cs : Array Value) : World → Value → Prop := fun w _ => w.heap[g]? = some (.cells cs 29 (0, 0))
theorem tyH.has {w : World} {g : Nat} {cs : Array Value} (v : Value) (h : w.heap[g]? = some (.cells cs 29 (0, 0))) : Has w w [(v, tyH g cs)] :=
  has_one fun w' k => k.blk g _ h (.inl (blk_lt h))
def okE1 (d : Int) : Int := if 0 < d then 0 else 30
theorem okE1_t {d : Int} (h : 0 < d) : decide ((okE1 d) ≠ 0) = false := by unfold okE1; rw [if_pos h]; rfl
theorem okE1_f {d : Int} (h : ¬ 0 < d) : decide ((okE1 d) ≠ 0) = true := by unfold okE1; rw [if_neg h]; rfl
theorem okE1_30 {d : Int} (h : ¬ 0 < d) : okE1 d = 30 := by unfold okE1; rw [if_neg h]
theorem okE1_0 {d : Int} (h : 0 < d) : okE1 d = 0 := by unfold okE1; rw [if_pos h]
theorem sign_le {z : Int} (h : decide (z.sign ≤ 0) = true) : ¬ 0 < z := by
  have h := of_decide_eq_true h
  intro h1
  rw [Int.sign_eq_one_of_pos h1] at h
  omega
theorem sign_gt {z : Int} (h : decide (z.sign ≤ 0) = false) : 0 < z := by
  have h := of_decide_eq_false h
  rcases Int.lt_trichotomy 0 z with h1 | h1 | h1
  · exact h1
  · subst h1; exact absurd (by decide) h
  · rw [Int.sign_eq_neg_one_of_neg h1] at h; exact absurd (by decide) h
section
variable {a : Act} {o : Oper} {W w0 : World} {p q : Operand}
theorem run_addc {x y z : Int} (h : wrap64 (x + y) = z) (ho : o.op = .binOp .add 3 p q 3) (he : a.eval p = .int .i64 x) (he2 : a.eval q = .int .i64 y) : (execOp a.eval o).run Try.prog W = .ok (.value (.int .i64 z)) W := by
  subst h
  exact run_add ho he he2
theorem run_lenR {A : Option Addr} {n c : Nat} (ho : o.op = .call { callee := .builtin .len, args := #[p], argTypes := #[76] }) (he : a.eval p = .slice A n c) : (execOp a.eval o).run Try.prog W = .ok (.value (.int .i64 n)) W := by
  unfold execOp
  simp only [ho, resolve, List.map_toArray, List.map_cons, List.map_nil, he]
  go_simp
theorem run_indexR0 {g n c : Nat} (ho : o.op = .indexAddr 76 p q) (he : a.eval p = .slice (some ⟨g, 0, none⟩) (n + 1) c) (he2 : a.eval q = .int .i64 0) : (execOp a.eval o).run Try.prog W = .ok (.value (.pointer (some ⟨g, 0, none⟩))) W := by
  have e2 : (0 : Int) < ((n + 1 : Nat) : Int) := by omega
  unfold execOp
  simp only [ho, he, he2]
  go_simp
theorem run_load4at {g k : Nat} {x y z u : Value} (ho : o.op = .load 29 p) (he : a.eval p = .pointer (some ⟨g, k, none⟩)) (c0 : W.cell? ⟨g, k, none⟩ = some x) (c1 : W.cell? ⟨g, k + 1, none⟩ = some y) (c2 : W.cell? ⟨g, k + 2, none⟩ = some z) (c3 : W.cell? ⟨g, k + 3, none⟩ = some u) : (execOp a.eval o).run Try.prog W = .ok (.value (.agg #[x, y, z, u])) W := by
  unfold execOp
  simp only [ho, he]
  go_simp
theorem run_loadR0 {g : Nat} {x y z u : Value} {r : List Value} (ho : o.op = .load 29 p) (he : a.eval p = .pointer (some ⟨g, 0, none⟩)) (h : W.heap[g]? = some (.cells ⟨x :: y :: z :: u :: r⟩ 29 (0, 0))) : (execOp a.eval o).run Try.prog W = .ok (.value (.agg #[x, y, z, u])) W :=
  run_load4at ho he (blk_cell h 0) (blk_cell h 1) (blk_cell h 2) (blk_cell h 3)
theorem run_rowR1 {b c : Bool} {A B : Option Addr} {n m i j : Nat} (ho : o.op = .buildSlice 76 1 #[(0, p)]) (he : a.eval p = .agg #[.bool b, .slice A n i, .bool c, .slice B m j]) : (execOp a.eval o).run Try.prog W = .ok (.value (.slice (some ⟨W.heap.size, 0, none⟩) 1 1)) (W.alloc (.cells #[.bool b, .slice A n i, .bool c, .slice B m j] 29 (0, 0))) := by
  unfold execOp
  simp only [ho, List.map_toArray, List.map_cons, List.map_nil, he]
  first | (go_simp; done) | (go_simp; rfl)
end
section
variable {w0 w W : World} {ts : List (Value × (World → Value → Prop))} {bs : List (Nat × TypeId × Array Value)} {a : Act} {o : Oper} {ops : Array Oper} {r : List Oper} {Q : Exit → Act → World → Prop} {p q : Operand}
theorem seq_rowR1 (Z : Zt w0 W ts bs) {b c : Bool} {A B : Option Addr} {n m i j : Nat} (hg : o.guard = none) (ho : o.op = .buildSlice 76 1 #[(0, p)]) (he : a.eval p = .agg #[.bool b, .slice A n i, .bool c, .slice B m j]) (hk : ∀ g W', Zt w0 W' ts ((g, 29, #[.bool b, .slice A n i, .bool c, .slice B m j]) :: bs) → wpList Try.prog ops Q r (a.put o.dst (.slice (some ⟨g, 0, none⟩) 1 1)) W') : wpList Try.prog ops Q (o :: r) a W :=
  list_op hg (wp_run (run_rowR1 ho he) (hk _ _ (Z.alloc 29 (by decide) _)))
def spQi (w0 : World) (z y : Int) (u : Value) : Sp := .val (Sl × Sl) (fun s => .tuple #[.agg #[.bool (decide (z < 0)), s.1.v, .bool (decide (y < 0)), s.2.v], u]) (fun s => [(s.1.v, tyO w0 (mg z)), (s.2.v, tyO w0 (mg y))])
theorem Zt.callQi {P : Program} {f : FuncId} {args : Array Value} {z y : Int} {u : Value} (Z : Zt w0 w ts bs) (h : Calls P f args w (ResQi w z y u)) : Calls P f args w fun e W' => ∃ v, e = .returned v ∧ Below w.heap.size w W' ∧ (spQi w0 z y u).New w0 w W' v :=
  h.mono fun _ _ ⟨v, v2, he, hr, hr2, hb⟩ => by
    have ho := (has_row hr Z.below.size).append (has_row hr2 Z.below.size)
    obtain ⟨A, c, rfl, -, -⟩ := Rd.of_row hr
    obtain ⟨A2, c2, rfl, -, -⟩ := Rd.of_row hr2
    exact ⟨_, he, hb, ⟨⟨A, _, c⟩, ⟨A2, _, c2⟩⟩, rfl, ho⟩
end
theorem Zt.endsV2 {w0 W : World} {ts : List (Value × (World → Value → Prop))} {bs : List (Nat × TypeId × Array Value)} {a : Act} {fn : Func} {p q : Tmp} {u v t : Value} {P : Program} (Z : Zt w0 W ts bs) (h : fn.results = #[.tmp p, .tmp q]) (hd : a.defers = []) (hp : a.tmps.getD p undef = u) (hq : a.tmps.getD q undef = v) (hu : .tuple #[u, v] = t) : bodyPost P fn (RetV w0 t) .ret a W := by
  refine bodyPost_ret (v := .tuple #[a.tmps.getD p undef, a.tmps.getD q undef]) ?_ hd ⟨by rw [hp, hq, hu], Z.below⟩
  clear hp hq hu
  unfold results
  rw [h]
  go_simp
end Go.Proofs.Ytndopanohhdfgaa.PA


/- Boxes of rationals that another call's frame holds; a number stored into a rational; no program's code is named. -/
namespace Go.Proofs.Ytndopanohhdfgaa.PA
open Go Go.Proofs.Ytndopanohhdfgaa.Nums Go.RowKit Go.Proofs.YtndopanohhdfgaaW.PrintWords Go.Proofs.YtndopanohhdfgaaW.PrintLast Go.Proofs.YtndopanohhdfgaaW.PrintMore
set_option linter.unusedVariables false
set_option linter.unusedSimpArgs false
section
variable {a : Act} {o : Oper} {W w0 : World} {p q : Operand}
theorem run_castR {P : Program} {v v' : Bool} (h : (execOp a.eval o).run P W = .ok (.value (.bool v)) W) (e : v = v') : (execOp a.eval o).run P W = .ok (.value (.bool v')) W := e ▸ h
end
section
variable {w0 w W : World} {ts : List (Value × (World → Value → Prop))} {bs : List (Nat × TypeId × Array Value)} {a : Act} {o : Oper} {ops : Array Oper} {r : List Oper} {Q : Exit → Act → World → Prop} {p q : Operand}
end
end Go.Proofs.Ytndopanohhdfgaa.PA


/- The walk of the document's Make of layer 3. -/
namespace Go.Proofs.Ytndopanohhdfgaa.PA
open Go Go.Proofs.Ytndopanohhdfgaa.Nums Go.RowKit Go.Proofs.YtndopanohhdfgaaW.PrintWords Go.Proofs.YtndopanohhdfgaaW.PrintLast Go.Proofs.YtndopanohhdfgaaW.PrintMore
set_option linter.unusedVariables false
set_option linter.unusedSimpArgs false
end Go.Proofs.Ytndopanohhdfgaa.PA


/- The walk of rat.valid over one or two rationals. -/
namespace Go.Proofs.Ytndopanohhdfgaa.PA
open Go Go.Proofs.Ytndopanohhdfgaa.Nums Go.RowKit Go.Proofs.YtndopanohhdfgaaW.PrintWords Go.Proofs.YtndopanohhdfgaaW.PrintLast Go.Proofs.YtndopanohhdfgaaW.PrintMore
set_option linter.unusedVariables false
set_option linter.unusedSimpArgs false
theorem pos_ne {z : Int} (h : 0 < z) : z ≠ 0 := by omega
theorem Bd.qn {k : Nat} {x y : Int} (h : Bd k x) : Bd k (qn x y) := by
  refine h.of_le ?_
  unfold Go.Proofs.Ytndopanohhdfgaa.PA.qn
  have h1 := Int.natAbs_ediv_le_natAbs (sgn x y) (gg x y)
  have h2 : (sgn x y).natAbs = x.natAbs := by unfold sgn; split <;> omega
  omega
theorem Bd.qd {k : Nat} {x y : Int} (h : Bd k y) : Bd k (qd x y) := by
  refine h.of_le ?_
  unfold Go.Proofs.Ytndopanohhdfgaa.PA.qd
  have h1 := Int.natAbs_ediv_le_natAbs (sgn y y) (gg x y)
  have h2 : (sgn y y).natAbs = y.natAbs := by unfold sgn; split <;> omega
  omega
theorem rat_made.semq {w : World} {b1 : Bool} {v1 : Value} {z1 : Int} {b2 : Bool} {v2 : Value} {z2 : Int} (m1 : NumV w b1 v1 z1) (m2 : NumV w b2 v2 z2) (hb1 : Bd 150000000 z1) (hb2 : Bd 150000000 z2) (h0 : z2 ≠ 0) : Calls Try.prog 44 #[.agg #[.bool b1, v1], .agg #[.bool b2, v2]] w (ResQ w (qn z1 z2) (qd z1 z2)) := rat_made.sem m1 m2 hb1 hb2 h0
theorem rat_Make.semq {w : World} {b1 : Bool} {v1 : Value} {z1 : Int} {b2 : Bool} {v2 : Value} {z2 : Int} (m1 : NumV w b1 v1 z1) (m2 : NumV w b2 v2 z2) (hb1 : Bd 150000000 z1) (hb2 : Bd 150000000 z2) (h0 : z2 ≠ 0) : Calls Try.prog 13 #[.agg #[.bool b1, v1], .agg #[.bool b2, v2]] w (ResQi w (qn z1 z2) (qd z1 z2) (.int .i64 0)) := rat_Make.semN m1 m2 hb1 hb2 h0
set_option maxHeartbeats 4000000 in
set_option maxRecDepth 100000 in
theorem rat_valid.sem1 {w : World} {b1 : Bool} {v1 : Value} {z1 : Int} {b2 : Bool} {v2 : Value} {z2 : Int} {g : Nat} (m1 : NumV w b1 v1 z1) (m2 : NumV w b2 v2 z2) (hg : w.heap[g]? = some (.cells #[.bool b1, v1, .bool b2, v2] 29 (0, 0))) : Calls Try.prog 41 #[.slice (some ⟨g, 0, none⟩) 1 1] w (RetV w (.int .i64 (okE1 z2))) := by
  obtain ⟨A1, n1, c1, rfl⟩ := m1.form
  obtain ⟨A2, n2, c2, rfl⟩ := m2.form
  have Z := Zt.start w (m1.has.append (m2.has.append (tyH.has (.slice (some ⟨g, 0, none⟩) 1 1) hg)))
  go_enter Try.func41, Try.ntmps41
  refine wp_seq ?_
  refine wp_region_list ?_
  refine seq_is (v := .int .i64 (0)) rfl (run_assign rfl rfl) ?_
  (try simp only [Act.put, List.setIfInBounds_toArray, List.set_cons_zero, List.set_cons_succ])
  show Code.wp _ _ _ _ _
  refine wp_seq ?_
  refine wp_seq ?_
  refine wp_region_list ?_
  refine seq_is (v := .slice (some ⟨g, 0, none⟩) 1 1) rfl (run_move rfl rfl) ?_
  (try simp only [Act.put, List.setIfInBounds_toArray, List.set_cons_zero, List.set_cons_succ])
  refine seq_is (v := .int .i64 (1)) rfl (run_lenR rfl rfl) ?_
  (try simp only [Act.put, List.setIfInBounds_toArray, List.set_cons_zero, List.set_cons_succ])
  refine seq_is (v := .int .i64 (0)) rfl (run_move rfl rfl) ?_
  (try simp only [Act.put, List.setIfInBounds_toArray, List.set_cons_zero, List.set_cons_succ])
  show Code.wp _ _ _ _ _
  refine wp_block ?_
  refine wp_loop_rounds 2 ?_
  show Code.wp _ _ _ _ _
  refine wp_seq ?_
  refine wp_region_list ?_
  refine seq_is (v := .bool (decide ((0 : Int) < (1)))) rfl (run_lss rfl rfl rfl) ?_
  (try simp only [Act.put, List.setIfInBounds_toArray, List.set_cons_zero, List.set_cons_succ])
  show Code.wp _ _ _ _ _
  refine wp_seq ?_
  refine wp_cond_true rfl ?_
  refine wp_skip ?_
  show Code.wp _ _ _ _ _
  refine wp_seq ?_
  refine wp_block ?_
  refine wp_seq ?_
  refine wp_region_list ?_
  refine seq_is (v := .pointer (some ⟨g, 0, none⟩)) rfl (run_indexR0 rfl rfl rfl) ?_
  (try simp only [Act.put, List.setIfInBounds_toArray, List.set_cons_zero, List.set_cons_succ])
  refine seq_is (v := .agg #[.bool (b1), .slice A1 n1 c1, .bool (b2), .slice A2 n2 c2]) rfl (run_loadR0 rfl rfl (Z.get 2 rfl)) ?_
  (try simp only [Act.put, List.setIfInBounds_toArray, List.set_cons_zero, List.set_cons_succ])
  refine seq_alloc4 Z rfl rfl ?_; clear Z; intro g1 W Z
  (try simp only [Act.put, List.setIfInBounds_toArray, List.set_cons_zero, List.set_cons_succ])
  refine seq_store4 Z 0 rfl rfl rfl rfl rfl ?_; clear Z; intro W Z
  (try simp only [Act.put, List.setIfInBounds_toArray, List.set_cons_zero, List.set_cons_succ])
  show Code.wp _ _ _ _ _
  refine wp_seq ?_
  refine wp_region_list ?_
  refine seq_is (v := .pointer (some ⟨g1, 2, none⟩)) rfl (run_fieldR1 rfl rfl) ?_
  (try simp only [Act.put, List.setIfInBounds_toArray, List.set_cons_zero, List.set_cons_succ])
  refine seq_is (v := .agg #[.bool (b2), .slice A2 n2 c2]) rfl (run_loadDen rfl rfl (Z.bx 0 rfl)) ?_
  (try simp only [Act.put, List.setIfInBounds_toArray, List.set_cons_zero, List.set_cons_succ])
  refine seq_call Z rfl rfl Try.func43 rfl rfl (args1 rfl) (Z.callV (zint_Sign.sem (Z.num 1 rfl)  )) ?_; clear Z; intro x2 W Z
  (try simp only [Act.put, List.setIfInBounds_toArray, List.set_cons_zero, List.set_cons_succ])
  refine seq_is (v := .bool (decide (((z2).sign) ≤ (0)))) rfl (run_leq rfl rfl rfl) ?_
  (try simp only [Act.put, List.setIfInBounds_toArray, List.set_cons_zero, List.set_cons_succ])
  show Code.wp _ _ _ _ _
  refine wp_cond_split (t := decide (((z2).sign) ≤ (0))) rfl ?_ ?_
  · intro hc3
    refine wp_seq ?_
    refine wp_region_list ?_
    refine seq_is (v := .int .i64 (30)) rfl (run_assign rfl rfl) ?_
    (try simp only [Act.put, List.setIfInBounds_toArray, List.set_cons_zero, List.set_cons_succ])
    show Code.wp _ _ _ _ _
    refine wp_ret ?_
    exact Z.endsV (u := .int .i64 30) rfl rfl rfl (congrArg (Value.int .i64) (okE1_30 (sign_le hc3)).symm)
  · intro hc3
    refine wp_skip ?_
    show Code.wp _ _ _ _ _
    refine wp_region_list ?_
    refine seq_is (v := .int .i64 (1)) rfl (run_addc (z := 1) (by exact w64 (by omega) (by omega)) rfl rfl rfl) ?_
    (try simp only [Act.put, List.setIfInBounds_toArray, List.set_cons_zero, List.set_cons_succ])
    refine seq_is (v := .int .i64 (1)) rfl (run_move rfl rfl) ?_
    (try simp only [Act.put, List.setIfInBounds_toArray, List.set_cons_zero, List.set_cons_succ])
    show Code.wp _ _ _ _ _
    refine wp_seq ?_
    refine wp_region_list ?_
    refine seq_is (v := .bool (decide ((1 : Int) < (1)))) rfl (run_lss rfl rfl rfl) ?_
    (try simp only [Act.put, List.setIfInBounds_toArray, List.set_cons_zero, List.set_cons_succ])
    show Code.wp _ _ _ _ _
    refine wp_seq ?_
    refine wp_cond_false rfl ?_
    refine wp_exit ?_
    show Code.wp _ _ _ _ _
    refine wp_seq ?_
    refine wp_region_list ?_
    refine seq_is (v := .int .i64 (0)) rfl (run_assign rfl rfl) ?_
    (try simp only [Act.put, List.setIfInBounds_toArray, List.set_cons_zero, List.set_cons_succ])
    show Code.wp _ _ _ _ _
    refine wp_ret ?_
    exact Z.endsV (u := .int .i64 0) rfl rfl rfl (congrArg (Value.int .i64) (okE1_0 (sign_gt hc3)).symm)
end Go.Proofs.Ytndopanohhdfgaa.PA

