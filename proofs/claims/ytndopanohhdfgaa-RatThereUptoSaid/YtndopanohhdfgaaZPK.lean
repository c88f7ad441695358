/- Boxes of four cells (api.Rat): single operations; no program's code is named. -/
import Derived.Outline
import Derived.Test.YtndopanohhdfgaaZEK
import Derived.Test.YtndopanohhdfgaaPAx0K
import Derived.Test.YtndopanohhdfgaaZFK
namespace Go.Proofs.Ytndopanohhdfgaa.PA
open Go Go.Proofs.Ytndopanohhdfgaa.Nums Go.RowKit Go.Proofs.YtndopanohhdfgaaW.PrintWords Go.Proofs.YtndopanohhdfgaaW.PrintLast Go.Proofs.YtndopanohhdfgaaW.PrintMore
set_option linter.unusedVariables false
set_option linter.unusedSimpArgs false
def set4 (w : World) (g : Nat) (x y z u : Value) : World := (((w.setCell ⟨g, 0, none⟩ x).setCell ⟨g, 1, none⟩ y).setCell ⟨g, 2, none⟩ z).setCell ⟨g, 3, none⟩ u
theorem Bx.four {w0 w : World} {g : Nat} {t : TypeId} {x y z u : Value} (h : Bx w0 w g t #[x, y, z, u]) : (w.cell? ⟨g, 0, none⟩ = some x ∧ w.cell? ⟨g, 1, none⟩ = some y ∧ w.cell? ⟨g, 2, none⟩ = some z ∧ w.cell? ⟨g, 3, none⟩ = some u) ∧ w.frozen? ⟨g, 0, none⟩ = false ∧ w.frozen? ⟨g, 1, none⟩ = false ∧ w.frozen? ⟨g, 2, none⟩ = false ∧ w.frozen? ⟨g, 3, none⟩ = false :=
  ⟨⟨blk_cell h.2.2 0, blk_cell h.2.2 1, blk_cell h.2.2 2, blk_cell h.2.2 3⟩, blk_frozen h.2.2 0, blk_frozen h.2.2 1, blk_frozen h.2.2 2, blk_frozen h.2.2 3⟩
theorem Bx.put4 {w0 w : World} {g : Nat} {t : TypeId} {x y z u : Value} (h : Bx w0 w g t #[x, y, z, u]) (x2 y2 z2 u2 : Value) : Bx w0 (set4 w g x2 y2 z2 u2) g t #[x2, y2, z2, u2] := (((h.set 0 x2).set 1 y2).set 2 z2).set 3 u2
theorem Bx.apart4 {w0 w : World} {g g2 : Nat} {t : TypeId} {cs : Array Value} (h : Bx w0 w g t cs) (hne : g ≠ g2) (x y z u : Value) : Bx w0 (set4 w g2 x y z u) g t cs := (((h.far hne 0 x).far hne 1 y).far hne 2 z).far hne 3 u
theorem Bx.keeps4 {w0 w : World} {g : Nat} {t : TypeId} {cs : Array Value} (h : Bx w0 w g t cs) (x y z u : Value) : Keeps w0 w (set4 w g x y z u) :=
  (((h.keeps 0 x).trans ((h.set 0 x).keeps 1 y)).trans (((h.set 0 x).set 1 y).keeps 2 z)).trans ((((h.set 0 x).set 1 y).set 2 z).keeps 3 u)
theorem Bx.below4 {w0 w : World} {g : Nat} {t : TypeId} {cs : Array Value} (h : Bx w0 w g t cs) (hb : Below w0.heap.size w0 w) (x y z u : Value) : Below w0.heap.size w0 (set4 w g x y z u) :=
  (((h.set 0 x).set 1 y).set 2 z).belowSet (((h.set 0 x).set 1 y).belowSet ((h.set 0 x).belowSet (h.belowSet hb 0 x) 1 y) 2 z) 3 u
section
variable {a : Act} {o : Oper} {W w0 : World} {p q : Operand}
theorem run_load4 {g : Nat} {x y z u : Value} (ho : o.op = .load 29 p) (he : a.eval p = .pointer (some ⟨g, 0, none⟩)) (hb : Bx w0 W g 29 #[x, y, z, u]) : (execOp a.eval o).run Try.prog W = .ok (.value (.agg #[x, y, z, u])) W := by
  obtain ⟨⟨c0, c1, c2, c3⟩, f0, f1, f2, f3⟩ := hb.four
  unfold execOp
  simp only [ho, he]
  go_simp
theorem run_fieldR0 {g : Nat} (ho : o.op = .fieldAddr 29 p 0) (he : a.eval p = .pointer (some ⟨g, 0, none⟩)) : (execOp a.eval o).run Try.prog W = .ok (.value (.pointer (some ⟨g, 0, none⟩))) W := by
  unfold execOp
  simp only [ho, he]
  go_simp
theorem run_fieldR1 {g : Nat} (ho : o.op = .fieldAddr 29 p 1) (he : a.eval p = .pointer (some ⟨g, 0, none⟩)) : (execOp a.eval o).run Try.prog W = .ok (.value (.pointer (some ⟨g, 2, none⟩))) W := by
  unfold execOp
  simp only [ho, he]
  go_simp
theorem run_loadNum {g : Nat} {x y z u : Value} (ho : o.op = .load 24 p) (he : a.eval p = .pointer (some ⟨g, 0, none⟩)) (hb : Bx w0 W g 29 #[x, y, z, u]) : (execOp a.eval o).run Try.prog W = .ok (.value (.agg #[x, y])) W := by
  obtain ⟨⟨c0, c1, c2, c3⟩, f0, f1, f2, f3⟩ := hb.four
  unfold execOp
  simp only [ho, he]
  go_simp
theorem run_loadDen {g : Nat} {x y z u : Value} (ho : o.op = .load 24 p) (he : a.eval p = .pointer (some ⟨g, 2, none⟩)) (hb : Bx w0 W g 29 #[x, y, z, u]) : (execOp a.eval o).run Try.prog W = .ok (.value (.agg #[z, u])) W := by
  obtain ⟨⟨c0, c1, c2, c3⟩, f0, f1, f2, f3⟩ := hb.four
  unfold execOp
  simp only [ho, he]
  go_simp
theorem run_alloc4 (ho : o.op = .alloc 29) : (execOp a.eval o).run Try.prog W = .ok (.value (.pointer (some ⟨W.heap.size, 0, none⟩))) (W.alloc (.cells #[.bool false, .slice none 0 0, .bool false, .slice none 0 0] 29 (0, 0))) := by
  unfold execOp
  simp only [ho]
  go_simp
theorem run_box4 {b c : Bool} {A B : Option Addr} {n m i j : Nat} (ho : o.op = .box 29 p) (he : a.eval p = .agg #[.bool b, .slice A n i, .bool c, .slice B m j]) : (execOp a.eval o).run Try.prog W = .ok (.value (.pointer (some ⟨W.heap.size, 0, none⟩))) (W.alloc (.cells #[.bool b, .slice A n i, .bool c, .slice B m j] 29 (0, 0))) := by
  unfold execOp
  simp only [ho, he]
  go_simp
theorem run_buildR {b c : Bool} {A B : Option Addr} {n m i j : Nat} (ho : o.op = .build 29 #[(0, p), (1, q)]) (he : a.eval p = .agg #[.bool b, .slice A n i]) (he2 : a.eval q = .agg #[.bool c, .slice B m j]) : (execOp a.eval o).run Try.prog W = .ok (.value (.agg #[.bool b, .slice A n i, .bool c, .slice B m j])) W := by
  unfold execOp
  simp only [ho, List.map_toArray, List.map_cons, List.map_nil, he, he2]
  go_simp
theorem run_store4 {g : Nat} {x y z u : Value} {b c : Bool} {A B : Option Addr} {n m i j : Nat} (ho : o.op = .store 29 p q) (he : a.eval p = .pointer (some ⟨g, 0, none⟩)) (hv : a.eval q = .agg #[.bool b, .slice A n i, .bool c, .slice B m j]) (hb : Bx w0 W g 29 #[x, y, z, u]) : (execOp a.eval o).run Try.prog W = .ok .skip (set4 W g (.bool b) (.slice A n i) (.bool c) (.slice B m j)) := by
  obtain ⟨⟨c0, c1, c2, c3⟩, f0, f1, f2, f3⟩ := hb.four
  have d1 : ∀ u', (W.setCell ⟨g, 0, none⟩ u').cell? ⟨g, 1, none⟩ = some y := fun u' => blk_cell (hb.set 0 u').2.2 1
  have e1 : ∀ u', (W.setCell ⟨g, 0, none⟩ u').frozen? ⟨g, 1, none⟩ = false := fun u' => blk_frozen (hb.set 0 u').2.2 1
  have d2 : ∀ u' v', ((W.setCell ⟨g, 0, none⟩ u').setCell ⟨g, 1, none⟩ v').cell? ⟨g, 2, none⟩ = some z := fun u' v' => blk_cell ((hb.set 0 u').set 1 v').2.2 2
  have e2 : ∀ u' v', ((W.setCell ⟨g, 0, none⟩ u').setCell ⟨g, 1, none⟩ v').frozen? ⟨g, 2, none⟩ = false := fun u' v' => blk_frozen ((hb.set 0 u').set 1 v').2.2 2
  have d3 : ∀ u' v' w', (((W.setCell ⟨g, 0, none⟩ u').setCell ⟨g, 1, none⟩ v').setCell ⟨g, 2, none⟩ w').cell? ⟨g, 3, none⟩ = some u := fun u' v' w' => blk_cell (((hb.set 0 u').set 1 v').set 2 w').2.2 3
  have e3 : ∀ u' v' w', (((W.setCell ⟨g, 0, none⟩ u').setCell ⟨g, 1, none⟩ v').setCell ⟨g, 2, none⟩ w').frozen? ⟨g, 3, none⟩ = false := fun u' v' w' => blk_frozen (((hb.set 0 u').set 1 v').set 2 w').2.2 3
  unfold execOp
  simp only [ho, he, hv]
  go_simp
  rfl
end
section
variable {w0 w W : World} {ts : List (Value × (World → Value → Prop))} {bs : List (Nat × TypeId × Array Value)} {a : Act} {o : Oper} {ops : Array Oper} {r : List Oper} {Q : Exit → Act → World → Prop} {p q : Operand}
theorem Zt.put4 (h : Zt w0 w ts bs) (i : Nat) {g : Nat} {t : TypeId} {x y z u : Value} (e : bs[i]? = some (g, t, #[x, y, z, u])) (x2 y2 z2 u2 : Value) :
    Zt w0 (set4 w g x2 y2 z2 u2) ts (bs.set i (g, t, #[x2, y2, z2, u2])) := by
  have hb := h.bx i e
  have hget : ∀ (n : Nat) (q : Nat × TypeId × Array Value), (bs.set i (g, t, #[x2, y2, z2, u2]))[n]? = some q → ∃ r : Nat × TypeId × Array Value, bs[n]? = some r ∧ r.1 = q.1 := by
    intro n q hn
    by_cases e2 : i = n
    · subst e2
      rw [List.getElem?_set_self (List.getElem?_eq_some_iff.mp e).1] at hn
      injection hn with hn
      subst hn
      exact ⟨_, e, rfl⟩
    · rw [List.getElem?_set_ne e2] at hn
      exact ⟨q, hn, rfl⟩
  refine ⟨hb.below4 h.below x2 y2 z2 u2, h.typ.keep (hb.keeps4 x2 y2 z2 u2), fun q hq => ?_, fun n m p q hne hn hm => ?_⟩
  · obtain ⟨n, hn⟩ := List.getElem?_of_mem hq
    by_cases e2 : n = i
    · subst e2
      rw [List.getElem?_set_self (List.getElem?_eq_some_iff.mp e).1] at hn
      injection hn with hn
      subst hn
      exact hb.put4 x2 y2 z2 u2
    · rw [List.getElem?_set_ne (Ne.symm e2)] at hn
      exact (h.box q (List.mem_of_getElem? hn)).apart4 (h.apart i n _ q (Ne.symm e2) e hn) x2 y2 z2 u2
  · obtain ⟨r1, h1, e1⟩ := hget n p hn
    obtain ⟨r2, h2, e2⟩ := hget m q hm
    rw [← e1, ← e2]
    exact h.apart n m r1 r2 hne h1 h2
theorem seq_alloc4 (Z : Zt w0 W ts bs) (hg : o.guard = none) (ho : o.op = .alloc 29) (hk : ∀ g W', Zt w0 W' ts ((g, 29, #[.bool false, .slice none 0 0, .bool false, .slice none 0 0]) :: bs) → wpList Try.prog ops Q r (a.put o.dst (.pointer (some ⟨g, 0, none⟩))) W') : wpList Try.prog ops Q (o :: r) a W :=
  list_op hg (wp_run (run_alloc4 ho) (hk _ _ (Z.alloc 29 (by decide) _)))
theorem seq_box4 (Z : Zt w0 W ts bs) {b c : Bool} {A B : Option Addr} {n m i j : Nat} (hg : o.guard = none) (ho : o.op = .box 29 p) (he : a.eval p = .agg #[.bool b, .slice A n i, .bool c, .slice B m j]) (hk : ∀ g W', Zt w0 W' ts ((g, 29, #[.bool b, .slice A n i, .bool c, .slice B m j]) :: bs) → wpList Try.prog ops Q r (a.put o.dst (.pointer (some ⟨g, 0, none⟩))) W') : wpList Try.prog ops Q (o :: r) a W :=
  list_op hg (wp_run (run_box4 ho he) (hk _ _ (Z.alloc 29 (by decide) _)))
theorem seq_store4 (Z : Zt w0 W ts bs) (k : Nat) {g : Nat} {x y z u : Value} (e : bs[k]? = some (g, 29, #[x, y, z, u])) {b c : Bool} {A B : Option Addr} {n m i j : Nat} (hg : o.guard = none) (ho : o.op = .store 29 p q) (he : a.eval p = .pointer (some ⟨g, 0, none⟩)) (hv : a.eval q = .agg #[.bool b, .slice A n i, .bool c, .slice B m j])
    (hk : ∀ W', Zt w0 W' ts (bs.set k (g, 29, #[.bool b, .slice A n i, .bool c, .slice B m j])) → wpList Try.prog ops Q r (a.put o.dst undef) W') : wpList Try.prog ops Q (o :: r) a W :=
  list_op hg (wp_mute (run_store4 ho he hv (Z.bx k e)) (hk _ (Z.put4 k e _ _ _ _)))
/-- a call's end: a rational of two numbers in their one form -/
def ResQ (w : World) (z y : Int) (e : Ending) (w' : World) : Prop := ∃ v v2, e = .returned (.agg #[.bool (decide (z < 0)), v, .bool (decide (y < 0)), v2]) ∧ Kd.R (Kd.int .u32) 68 w' w.heap.size (fun _ => True) v (mg z) ∧ Kd.R (Kd.int .u32) 68 w' w.heap.size (fun _ => True) v2 (mg y) ∧ Below w.heap.size w w'
def spQ (w0 : World) (z y : Int) : Sp := .val (Sl × Sl) (fun s => .agg #[.bool (decide (z < 0)), s.1.v, .bool (decide (y < 0)), s.2.v]) (fun s => [(s.1.v, tyO w0 (mg z)), (s.2.v, tyO w0 (mg y))])
theorem Zt.callQ {P : Program} {f : FuncId} {args : Array Value} {z y : Int} (Z : Zt w0 w ts bs) (h : Calls P f args w (ResQ w z y)) : Calls P f args w fun e W' => ∃ v, e = .returned v ∧ Below w.heap.size w W' ∧ (spQ w0 z y).New w0 w W' v :=
  h.mono fun _ _ ⟨v, v2, he, hr, hr2, hb⟩ => by
    have ho := (has_row hr Z.below.size).append (has_row hr2 Z.below.size)
    obtain ⟨A, c, rfl, -, -⟩ := Rd.of_row hr
    obtain ⟨A2, c2, rfl, -, -⟩ := Rd.of_row hr2
    exact ⟨_, he, hb, ⟨⟨A, _, c⟩, ⟨A2, _, c2⟩⟩, rfl, ho⟩
theorem Zt.endsQ {fn : Func} {t : Tmp} {g : Nat} {z y z' y' : Int} {v v2 : Value} (Z : Zt w0 W ts bs) (i j k : Nat) (h : fn.results = #[.cell t 29]) (hd : a.defers = []) (hp : a.tmps.getD t undef = .pointer (some ⟨g, 0, none⟩))
    (e : bs[i]? = some (g, 29, #[.bool (decide (z < 0)), v, .bool (decide (y < 0)), v2])) (O : ts[j]? = some (v, tyO w0 (mg z))) (O2 : ts[k]? = some (v2, tyO w0 (mg y))) (hz : z = z') (hy : y = y') : bodyPost Try.prog fn (ResQ w0 z' y') .ret a W := by
  subst hz
  subst hy
  refine bodyPost_ret (v := .agg #[.bool (decide (z < 0)), v, .bool (decide (y < 0)), v2]) ?_ hd ⟨v, v2, rfl, Z.row j O, Z.row k O2, Z.below⟩
  obtain ⟨⟨c0, c1, c2, c3⟩, -⟩ := (Z.bx i e).four
  have hp' : a.tmps[t]?.getD undef = .pointer (some ⟨g, 0, none⟩) := by simpa using hp
  unfold results
  rw [h]
  go_simp
end
end Go.Proofs.Ytndopanohhdfgaa.PA


/- Rationals in lowest terms, plain. -/
namespace Go.Proofs.Ytndopanohhdfgaa.PA
open Go Go.Proofs.Ytndopanohhdfgaa.Nums Go.RowKit Go.Proofs.YtndopanohhdfgaaW.PrintWords Go.Proofs.YtndopanohhdfgaaW.PrintLast Go.Proofs.YtndopanohhdfgaaW.PrintMore
set_option linter.unusedVariables false
/-- the sign in front -/
def sgn (x y : Int) : Int := if y < 0 then -x else x
def gg (x y : Int) : Int := gcdI ((x.natAbs : Nat)) ((y.natAbs : Nat))
theorem gg_neg (x y : Int) : gg (-x) (-y) = gg x y := by unfold gg; rw [Int.natAbs_neg, Int.natAbs_neg]
theorem gg_pos {x y : Int} (h : y ≠ 0) : 0 < gg x y := gcd_pos (by omega)
theorem gg_dvd (x y : Int) : gg x y ∣ x ∧ gg x y ∣ y := by
  unfold gg gcdI
  rw [Int.toNat_natCast, Int.toNat_natCast]
  exact ⟨Int.dvd_natAbs.mp (Int.natCast_dvd_natCast.mpr (Nat.gcd_dvd_left ..)), Int.dvd_natAbs.mp (Int.natCast_dvd_natCast.mpr (Nat.gcd_dvd_right ..))⟩
theorem ex_div {x g : Int} (hg : 0 < g) (h : g ∣ x) : exZ x g = x / g := by
  unfold exZ
  obtain ⟨k, rfl⟩ := h
  rw [if_neg (by omega), if_pos (Int.mul_fmod_right _ _), Int.mul_fdiv_cancel_left _ (by omega), Int.mul_ediv_cancel_left _ (by omega)]
theorem sign_lt {z : Int} (h : z < 0) : decide (((z).sign) < (0)) = true := by rw [Int.sign_eq_neg_one_of_neg h]; rfl
theorem sign_lt' {z : Int} (h : ¬ z < 0) : decide (((z).sign) < (0)) = false := by
  refine decide_eq_false (fun h1 => ?_)
  have := Int.sign_nonneg_iff.mpr (show 0 ≤ z by omega)
  omega
theorem made_p1 {x y : Int} (h0 : y ≠ 0) (hn : ¬ y < 0) : exZ x (gcdI ((x.natAbs : Nat)) ((y.natAbs : Nat))) = sgn x y / gg x y := by
  unfold sgn
  rw [if_neg hn]
  exact ex_div (gg_pos h0) (gg_dvd x y).1
theorem made_p2 {x y : Int} (h0 : y ≠ 0) (hn : ¬ y < 0) : exZ y (gcdI ((x.natAbs : Nat)) ((y.natAbs : Nat))) = sgn y y / gg x y := by
  unfold sgn
  rw [if_neg hn]
  exact ex_div (gg_pos h0) (gg_dvd x y).2
theorem made_n1 {x y : Int} (h0 : y ≠ 0) (hn : y < 0) : exZ (-x) (gcdI (((-x).natAbs : Nat)) (((-y).natAbs : Nat))) = sgn x y / gg x y := by
  unfold sgn
  rw [if_pos hn, Int.natAbs_neg, Int.natAbs_neg]
  exact ex_div (gg_pos h0) (Int.dvd_neg.mpr (gg_dvd x y).1)
theorem made_n2 {x y : Int} (h0 : y ≠ 0) (hn : y < 0) : exZ (-y) (gcdI (((-x).natAbs : Nat)) (((-y).natAbs : Nat))) = sgn y y / gg x y := by
  unfold sgn
  rw [if_pos hn, Int.natAbs_neg, Int.natAbs_neg]
  exact ex_div (gg_pos h0) (Int.dvd_neg.mpr (gg_dvd x y).2)
end Go.Proofs.Ytndopanohhdfgaa.PA


/- Rationals in lowest terms: equal values have equal terms; plain. -/
namespace Go.Proofs.Ytndopanohhdfgaa.PA
open Go Go.Proofs.Ytndopanohhdfgaa.Nums Go.RowKit Go.Proofs.YtndopanohhdfgaaW.PrintWords Go.Proofs.YtndopanohhdfgaaW.PrintLast Go.Proofs.YtndopanohhdfgaaW.PrintMore
set_option linter.unusedVariables false
/-- the numerator and the denominator in lowest terms -/
def qn (x y : Int) : Int := sgn x y / gg x y
def qd (x y : Int) : Int := sgn y y / gg x y
theorem gg_gcd (x y : Int) : gg x y = ((Nat.gcd x.natAbs y.natAbs : Nat) : Int) := by
  unfold gg gcdI
  rw [Int.toNat_natCast, Int.toNat_natCast]
theorem sgn_pos {x y : Int} (h : 0 < y) : sgn x y = x := by unfold sgn; rw [if_neg (by omega)]
theorem gg_sgn (x y z : Int) : gg (sgn x z) (sgn y z) = gg x y := by
  unfold sgn gg
  split
  · rw [Int.natAbs_neg, Int.natAbs_neg]
  · rfl
theorem sgn_self_pos {y : Int} (h : y ≠ 0) : 0 < sgn y y := by unfold sgn; split <;> omega
theorem qn_mul {x y : Int} : qn x y * gg x y = sgn x y := by
  have h := (gg_dvd (sgn x y) (sgn y y)).1
  rw [gg_sgn] at h
  exact Int.ediv_mul_cancel h
theorem qd_mul {x y : Int} : qd x y * gg x y = sgn y y := by
  have h := (gg_dvd (sgn x y) (sgn y y)).2
  rw [gg_sgn] at h
  exact Int.ediv_mul_cancel h
theorem qd_pos {x y : Int} (h : y ≠ 0) : 0 < qd x y := by
  have h1 := gg_pos (x := x) h
  have h2 := sgn_self_pos h
  have h3 := qd_mul (x := x) (y := y)
  rcases Int.lt_or_le 0 (qd x y) with h4 | h4
  · exact h4
  · have := Int.mul_nonpos_of_nonpos_of_nonneg h4 (Int.le_of_lt h1)
    omega
theorem sgn_cross (x y : Int) : sgn x y * y = x * sgn y y := by unfold sgn; split <;> simp [Int.neg_mul, Int.mul_neg]
theorem q_cross {x y : Int} (h : y ≠ 0) : qn x y * y = x * qd x y := by
  have hg := gg_pos (x := x) h
  have h1 := qn_mul (x := x) (y := y)
  have h2 := qd_mul (x := x) (y := y)
  have h3 := sgn_cross x y
  rw [← h1, ← h2] at h3
  have h4 : (qn x y * y) * gg x y = (x * qd x y) * gg x y := by
    rw [Int.mul_right_comm, h3, Int.mul_assoc]
  exact Int.eq_of_mul_eq_mul_right (by omega) h4
theorem q_eq_pos {x y u v : Int} (hy : 0 < y) (hv : 0 < v) (e : x * v = u * y) : qn x y = qn u v ∧ qd x y = qd u v := by
  have g1 := gg_pos (x := x) (show y ≠ 0 by omega)
  have g2 := gg_pos (x := u) (show v ≠ 0 by omega)
  have n1 := qn_mul (x := x) (y := y)
  have n2 := qn_mul (x := u) (y := v)
  have d1 := qd_mul (x := x) (y := y)
  have d2 := qd_mul (x := u) (y := v)
  rw [sgn_pos hy] at n1 d1
  rw [sgn_pos hv] at n2 d2
  have k : gg x y * v = gg u v * y := by
    rw [gg_gcd, gg_gcd]
    have e1 : (v.natAbs : Int) = v := by omega
    have e2 : (y.natAbs : Int) = y := by omega
    have e3 : x.natAbs * v.natAbs = u.natAbs * y.natAbs := by
      have := congrArg Int.natAbs e
      rwa [Int.natAbs_mul, Int.natAbs_mul] at this
    have e4 : Nat.gcd x.natAbs y.natAbs * v.natAbs = Nat.gcd u.natAbs v.natAbs * y.natAbs := by
      rw [← Nat.gcd_mul_right, ← Nat.gcd_mul_right, e3, Nat.mul_comm y.natAbs v.natAbs]
    have := congrArg (fun n : Nat => (n : Int)) e4
    simp only [Int.natCast_mul, e1, e2] at this
    exact this
  have p : 0 < gg x y * v := Int.mul_pos g1 hv
  have q1 : qn x y * (gg x y * v) = qn u v * (gg x y * v) := by
    rw [← Int.mul_assoc, n1, e, k, ← Int.mul_assoc, n2]
  have q2 : qd x y * (gg x y * v) = qd u v * (gg x y * v) := by
    rw [← Int.mul_assoc, d1, k, ← Int.mul_assoc, d2, Int.mul_comm]
  exact ⟨Int.eq_of_mul_eq_mul_right (by omega) q1, Int.eq_of_mul_eq_mul_right (by omega) q2⟩
theorem qn_neg (x y : Int) : qn (-x) (-y) = qn x y ∧ qd (-x) (-y) = qd x y ∨ y = 0 := by
  rcases Int.lt_trichotomy y 0 with h | h | h
  · left
    unfold qn qd
    rw [gg_neg]
    unfold sgn
    rw [if_neg (by omega), if_pos h, if_neg (by omega), if_pos h]
    exact ⟨rfl, rfl⟩
  · exact .inr h
  · left
    unfold qn qd
    rw [gg_neg]
    unfold sgn
    rw [if_pos (by omega), if_neg (by omega), if_pos (by omega), if_neg (by omega), Int.neg_neg, Int.neg_neg]
    exact ⟨rfl, rfl⟩
theorem q_sgn {x y : Int} : qn (sgn x y) (sgn y y) = qn x y ∧ qd (sgn x y) (sgn y y) = qd x y := by
  by_cases h : y < 0
  · have := qn_neg x y
    rw [show sgn x y = -x by unfold sgn; rw [if_pos h], show sgn y y = -y by unfold sgn; rw [if_pos h]]
    rcases this with h1 | h1
    · exact h1
    · omega
  · rw [show sgn x y = x by unfold sgn; rw [if_neg h], show sgn y y = y by unfold sgn; rw [if_neg h]]
    exact ⟨rfl, rfl⟩
/-- the same value, the same lowest terms -/
theorem q_eq {x y u v : Int} (hy : y ≠ 0) (hv : v ≠ 0) (e : x * v = u * y) : qn x y = qn u v ∧ qd x y = qd u v := by
  have h := q_eq_pos (x := sgn x y) (u := sgn u v) (sgn_self_pos hy) (sgn_self_pos hv) (by
    unfold sgn
    split <;> split <;> simp [Int.neg_mul, Int.mul_neg, e])
  rw [q_sgn.1, q_sgn.2, q_sgn.1, q_sgn.2] at h
  exact h
theorem gg_one (x : Int) : gg x 1 = 1 := by rw [gg_gcd]; simp
theorem qn_one (x : Int) : qn x 1 = x ∧ qd x 1 = 1 := by
  unfold qn qd
  rw [gg_one]
  unfold sgn
  simp
end Go.Proofs.Ytndopanohhdfgaa.PA


/- The walk of rat.made. -/
namespace Go.Proofs.Ytndopanohhdfgaa.PA
open Go Go.Proofs.Ytndopanohhdfgaa.Nums Go.RowKit Go.Proofs.YtndopanohhdfgaaW.PrintWords Go.Proofs.YtndopanohhdfgaaW.PrintLast Go.Proofs.YtndopanohhdfgaaW.PrintMore
set_option linter.unusedVariables false
set_option linter.unusedSimpArgs false
set_option maxHeartbeats 4000000 in
set_option maxRecDepth 100000 in
theorem rat_made.semN {w : World} {b1 : Bool} {v1 : Value} {z1 : Int} {b2 : Bool} {v2 : Value} {z2 : Int} (m1 : NumV w b1 v1 z1) (m2 : NumV w b2 v2 z2) (hb1 : Bd 150000000 z1) (hb2 : Bd 150000000 z2) (h0 : z2 ≠ 0) (hn : z2 < 0) : Calls Try.prog 44 #[.agg #[.bool b1, v1], .agg #[.bool b2, v2]] w (ResQ w (sgn z1 z2 / gg z1 z2) (sgn z2 z2 / gg z1 z2)) := by
  obtain ⟨A1, n1, c1, rfl⟩ := m1.form
  obtain ⟨A2, n2, c2, rfl⟩ := m2.form
  have Z := Zt.begin2 m1 m2
  have hs : decide (((z2).sign) < (0)) = true := sign_lt hn
  go_enter Try.func44, Try.ntmps44
  refine wp_seq ?_
  refine wp_region_list ?_
  refine seq_box Z rfl rfl rfl ?_; clear Z; intro g1 W Z
  (try simp only [Act.put, List.setIfInBounds_toArray, List.set_cons_zero, List.set_cons_succ])
  refine seq_box Z rfl rfl rfl ?_; clear Z; intro g2 W Z
  (try simp only [Act.put, List.setIfInBounds_toArray, List.set_cons_zero, List.set_cons_succ])
  refine seq_alloc4 Z rfl rfl ?_; clear Z; intro g3 W Z
  (try simp only [Act.put, List.setIfInBounds_toArray, List.set_cons_zero, List.set_cons_succ])
  show Code.wp _ _ _ _ _
  refine wp_seq ?_
  refine wp_seq ?_
  refine wp_region_list ?_
  refine seq_is (v := .agg #[.bool (b2), .slice A2 n2 c2]) rfl (run_load2 rfl rfl (Z.bx 1 rfl)) ?_
  (try simp only [Act.put, List.setIfInBounds_toArray, List.set_cons_zero, List.set_cons_succ])
  refine seq_call Z rfl rfl Try.func43 rfl rfl (args1 rfl) (Z.callV (zint_Sign.sem (Z.num 1 rfl)  )) ?_; clear Z; intro x4 W Z
  (try simp only [Act.put, List.setIfInBounds_toArray, List.set_cons_zero, List.set_cons_succ])
  refine seq_is (v := .bool (decide (((z2).sign) < (0)))) rfl (run_lss rfl rfl rfl) ?_
  (try simp only [Act.put, List.setIfInBounds_toArray, List.set_cons_zero, List.set_cons_succ])
  show Code.wp _ _ _ _ _
  refine wp_cond_true ((show _ = Value.bool (decide (((z2).sign) < (0))) from rfl).trans (congrArg Value.bool hs)) ?_
  refine wp_dag (pre := [_, _, _, _]) (sps := [.is (.agg #[.bool (b1), .slice A1 n1 c1]), spI w (-(z1)), .is (.agg #[.bool (b2), .slice A2 n2 c2]), spI w (-(z2))]) Z (by kernel_rfl) _ rfl (by kernel_rfl) (by kernel_rfl) rfl ⟨?_, ?_, ?_, ?_, trivial⟩ ?_
  · intro a e5 W Q Z; exact step_is (fun _ h => op_plain rfl rfl h) (run_load2 rfl (ev e5) (Z.bx 2 rfl))
  · intro a x7 e8 W Q Z; exact step_call (fun _ h => op_plain rfl rfl h) rfl Try.func78 rfl rfl (args1 (ev e8)) (Z.callI (zint_Neg.sem (Z.num 0 rfl)  ))
  · intro a e10 W Q Z; exact step_is (fun _ h => op_plain rfl rfl h) (run_load2 rfl (ev e10) (Z.bx 1 rfl))
  · intro a x12 e13 W Q Z; exact step_call (fun _ h => op_plain rfl rfl h) rfl Try.func78 rfl rfl (args1 (ev e13)) (Z.callI (zint_Neg.sem (Z.num 1 rfl)  ))
  clear Z; intro x6 x9 x11 x14 W Z
  (try simp only [Act.put, List.setIfInBounds_toArray, List.set_cons_zero, List.set_cons_succ])
  refine seq_store Z 2 rfl rfl rfl rfl rfl ?_; clear Z; intro W Z
  (try simp only [Act.put, List.setIfInBounds_toArray, List.set_cons_zero, List.set_cons_succ])
  refine seq_store Z 1 rfl rfl rfl rfl rfl ?_; clear Z; intro W Z
  (try simp only [Act.put, List.setIfInBounds_toArray, List.set_cons_zero, List.set_cons_succ])
  show Code.wp _ _ _ _ _
  refine wp_seq ?_
  refine wp_region_list ?_
  refine seq_is (v := .agg #[.bool (decide (-(z1) < 0)), x9.v]) rfl (run_load2 rfl rfl (Z.bx 2 rfl)) ?_
  (try simp only [Act.put, List.setIfInBounds_toArray, List.set_cons_zero, List.set_cons_succ])
  refine seq_is (v := .agg #[.bool (decide (-(z2) < 0)), x14.v]) rfl (run_load2 rfl rfl (Z.bx 1 rfl)) ?_
  (try simp only [Act.put, List.setIfInBounds_toArray, List.set_cons_zero, List.set_cons_succ])
  refine seq_call Z rfl rfl Try.func79 rfl rfl (args2 rfl rfl) (Z.callI (zint_Gcd.sem (Z.own 1 rfl (Bd.fm (Bd.abs (Bd.neg hb1)) (by decide))) (Z.own 0 rfl (Bd.fm (Bd.abs (Bd.neg hb2)) (by decide))) (Bd.fm (Bd.gcd (Bd.abs (Bd.neg hb1)) (Bd.abs (Bd.neg hb2))) (by decide)) )) ?_; clear Z; intro x15 W Z
  (try simp only [Act.put, List.setIfInBounds_toArray, List.set_cons_zero, List.set_cons_succ])
  refine seq_alloc Z rfl rfl ?_; clear Z; intro g16 W Z
  (try simp only [Act.put, List.setIfInBounds_toArray, List.set_cons_zero, List.set_cons_succ])
  refine seq_store Z 0 rfl rfl rfl rfl rfl ?_; clear Z; intro W Z
  (try simp only [Act.put, List.setIfInBounds_toArray, List.set_cons_zero, List.set_cons_succ])
  show Code.wp _ _ _ _ _
  refine wp_seq ?_
  refine wp_region_list ?_
  refine seq_is (v := .agg #[.bool (decide (-(z1) < 0)), x9.v]) rfl (run_load2 rfl rfl (Z.bx 3 rfl)) ?_
  (try simp only [Act.put, List.setIfInBounds_toArray, List.set_cons_zero, List.set_cons_succ])
  refine seq_is (v := .agg #[.bool (decide (gcdI ((((-(z1))).natAbs : Nat)) ((((-(z2))).natAbs : Nat)) < 0)), x15.v]) rfl (run_load2 rfl rfl (Z.bx 0 rfl)) ?_
  (try simp only [Act.put, List.setIfInBounds_toArray, List.set_cons_zero, List.set_cons_succ])
  refine seq_call Z rfl rfl Try.func80 rfl rfl (args2 rfl rfl) (Z.callIi (zint_Exact.sem (Z.own 2 rfl (Bd.fm (Bd.abs (Bd.neg hb1)) (by decide))) (Z.own 0 rfl (Bd.fm (Bd.abs (Bd.gcd (Bd.abs (Bd.neg hb1)) (Bd.abs (Bd.neg hb2)))) (by decide)))  (Bd.mono (Bd.neg hb1) (by decide)) (Bd.mono (Bd.gcd (Bd.abs (Bd.neg hb1)) (Bd.abs (Bd.neg hb2))) (by decide)))) ?_; clear Z; intro x17 W Z
  (try simp only [Act.put, List.setIfInBounds_toArray, List.set_cons_zero, List.set_cons_succ])
  refine seq_is (v := .tuple #[.agg #[.bool (decide (exZ (-(z1)) (gcdI ((((-(z1))).natAbs : Nat)) ((((-(z2))).natAbs : Nat))) < 0)), x17.v], .int .i64 (exE (-(z1)) (gcdI ((((-(z1))).natAbs : Nat)) ((((-(z2))).natAbs : Nat))))]) rfl (run_move rfl rfl) ?_
  (try simp only [Act.put, List.setIfInBounds_toArray, List.set_cons_zero, List.set_cons_succ])
  refine seq_is (v := .agg #[.bool (decide (exZ (-(z1)) (gcdI ((((-(z1))).natAbs : Nat)) ((((-(z2))).natAbs : Nat))) < 0)), x17.v]) rfl (run_extract rfl rfl rfl) ?_
  (try simp only [Act.put, List.setIfInBounds_toArray, List.set_cons_zero, List.set_cons_succ])
  refine seq_is (v := .int .i64 (exE (-(z1)) (gcdI ((((-(z1))).natAbs : Nat)) ((((-(z2))).natAbs : Nat))))) rfl (run_extract rfl rfl rfl) ?_
  (try simp only [Act.put, List.setIfInBounds_toArray, List.set_cons_zero, List.set_cons_succ])
  refine seq_alloc Z rfl rfl ?_; clear Z; intro g18 W Z
  (try simp only [Act.put, List.setIfInBounds_toArray, List.set_cons_zero, List.set_cons_succ])
  refine seq_store Z 0 rfl rfl rfl rfl rfl ?_; clear Z; intro W Z
  (try simp only [Act.put, List.setIfInBounds_toArray, List.set_cons_zero, List.set_cons_succ])
  refine seq_is (v := .int .i64 (exE (-(z1)) (gcdI ((((-(z1))).natAbs : Nat)) ((((-(z2))).natAbs : Nat))))) rfl (run_assign rfl rfl) ?_
  (try simp only [Act.put, List.setIfInBounds_toArray, List.set_cons_zero, List.set_cons_succ])
  show Code.wp _ _ _ _ _
  refine wp_seq ?_
  refine wp_region_list ?_
  refine seq_is (v := .agg #[.bool (decide (-(z2) < 0)), x14.v]) rfl (run_load2 rfl rfl (Z.bx 3 rfl)) ?_
  (try simp only [Act.put, List.setIfInBounds_toArray, List.set_cons_zero, List.set_cons_succ])
  refine seq_is (v := .agg #[.bool (decide (gcdI ((((-(z1))).natAbs : Nat)) ((((-(z2))).natAbs : Nat)) < 0)), x15.v]) rfl (run_load2 rfl rfl (Z.bx 1 rfl)) ?_
  (try simp only [Act.put, List.setIfInBounds_toArray, List.set_cons_zero, List.set_cons_succ])
  refine seq_call Z rfl rfl Try.func80 rfl rfl (args2 rfl rfl) (Z.callIi (zint_Exact.sem (Z.own 2 rfl (Bd.fm (Bd.abs (Bd.neg hb2)) (by decide))) (Z.own 1 rfl (Bd.fm (Bd.abs (Bd.gcd (Bd.abs (Bd.neg hb1)) (Bd.abs (Bd.neg hb2)))) (by decide)))  (Bd.mono (Bd.neg hb2) (by decide)) (Bd.mono (Bd.gcd (Bd.abs (Bd.neg hb1)) (Bd.abs (Bd.neg hb2))) (by decide)))) ?_; clear Z; intro x19 W Z
  (try simp only [Act.put, List.setIfInBounds_toArray, List.set_cons_zero, List.set_cons_succ])
  refine seq_is (v := .tuple #[.agg #[.bool (decide (exZ (-(z2)) (gcdI ((((-(z1))).natAbs : Nat)) ((((-(z2))).natAbs : Nat))) < 0)), x19.v], .int .i64 (exE (-(z2)) (gcdI ((((-(z1))).natAbs : Nat)) ((((-(z2))).natAbs : Nat))))]) rfl (run_move rfl rfl) ?_
  (try simp only [Act.put, List.setIfInBounds_toArray, List.set_cons_zero, List.set_cons_succ])
  refine seq_is (v := .agg #[.bool (decide (exZ (-(z2)) (gcdI ((((-(z1))).natAbs : Nat)) ((((-(z2))).natAbs : Nat))) < 0)), x19.v]) rfl (run_extract rfl rfl rfl) ?_
  (try simp only [Act.put, List.setIfInBounds_toArray, List.set_cons_zero, List.set_cons_succ])
  refine seq_is (v := .int .i64 (exE (-(z2)) (gcdI ((((-(z1))).natAbs : Nat)) ((((-(z2))).natAbs : Nat))))) rfl (run_extract rfl rfl rfl) ?_
  (try simp only [Act.put, List.setIfInBounds_toArray, List.set_cons_zero, List.set_cons_succ])
  refine seq_alloc Z rfl rfl ?_; clear Z; intro g20 W Z
  (try simp only [Act.put, List.setIfInBounds_toArray, List.set_cons_zero, List.set_cons_succ])
  refine seq_store Z 0 rfl rfl rfl rfl rfl ?_; clear Z; intro W Z
  (try simp only [Act.put, List.setIfInBounds_toArray, List.set_cons_zero, List.set_cons_succ])
  refine seq_is (v := .int .i64 (exE (-(z2)) (gcdI ((((-(z1))).natAbs : Nat)) ((((-(z2))).natAbs : Nat))))) rfl (run_assign rfl rfl) ?_
  (try simp only [Act.put, List.setIfInBounds_toArray, List.set_cons_zero, List.set_cons_succ])
  show Code.wp _ _ _ _ _
  refine wp_seq ?_
  refine wp_region_list ?_
  refine seq_is (v := .agg #[.bool (decide (exZ (-(z1)) (gcdI ((((-(z1))).natAbs : Nat)) ((((-(z2))).natAbs : Nat))) < 0)), x17.v]) rfl (run_load2 rfl rfl (Z.bx 1 rfl)) ?_
  (try simp only [Act.put, List.setIfInBounds_toArray, List.set_cons_zero, List.set_cons_succ])
  refine seq_is (v := .agg #[.bool (decide (exZ (-(z2)) (gcdI ((((-(z1))).natAbs : Nat)) ((((-(z2))).natAbs : Nat))) < 0)), x19.v]) rfl (run_load2 rfl rfl (Z.bx 0 rfl)) ?_
  (try simp only [Act.put, List.setIfInBounds_toArray, List.set_cons_zero, List.set_cons_succ])
  refine seq_is (v := .agg #[.bool (decide (exZ (-(z1)) (gcdI ((((-(z1))).natAbs : Nat)) ((((-(z2))).natAbs : Nat))) < 0)), x17.v, .bool (decide (exZ (-(z2)) (gcdI ((((-(z1))).natAbs : Nat)) ((((-(z2))).natAbs : Nat))) < 0)), x19.v]) rfl (run_buildR rfl rfl rfl) ?_
  (try simp only [Act.put, List.setIfInBounds_toArray, List.set_cons_zero, List.set_cons_succ])
  refine seq_store4 Z 3 rfl rfl rfl rfl rfl ?_; clear Z; intro W Z
  (try simp only [Act.put, List.setIfInBounds_toArray, List.set_cons_zero, List.set_cons_succ])
  show Code.wp _ _ _ _ _
  refine wp_ret ?_
  exact Z.endsQ 3 1 0 rfl rfl rfl rfl rfl rfl (by exact made_n1 h0 hn) (by exact made_n2 h0 hn)
set_option maxHeartbeats 4000000 in
set_option maxRecDepth 100000 in
theorem rat_made.semP {w : World} {b1 : Bool} {v1 : Value} {z1 : Int} {b2 : Bool} {v2 : Value} {z2 : Int} (m1 : NumV w b1 v1 z1) (m2 : NumV w b2 v2 z2) (hb1 : Bd 150000000 z1) (hb2 : Bd 150000000 z2) (h0 : z2 ≠ 0) (hn : ¬ z2 < 0) : Calls Try.prog 44 #[.agg #[.bool b1, v1], .agg #[.bool b2, v2]] w (ResQ w (sgn z1 z2 / gg z1 z2) (sgn z2 z2 / gg z1 z2)) := by
  obtain ⟨A1, n1, c1, rfl⟩ := m1.form
  obtain ⟨A2, n2, c2, rfl⟩ := m2.form
  have Z := Zt.begin2 m1 m2
  have hs : decide (((z2).sign) < (0)) = false := sign_lt' hn
  go_enter Try.func44, Try.ntmps44
  refine wp_seq ?_
  refine wp_region_list ?_
  refine seq_box Z rfl rfl rfl ?_; clear Z; intro g1 W Z
  (try simp only [Act.put, List.setIfInBounds_toArray, List.set_cons_zero, List.set_cons_succ])
  refine seq_box Z rfl rfl rfl ?_; clear Z; intro g2 W Z
  (try simp only [Act.put, List.setIfInBounds_toArray, List.set_cons_zero, List.set_cons_succ])
  refine seq_alloc4 Z rfl rfl ?_; clear Z; intro g3 W Z
  (try simp only [Act.put, List.setIfInBounds_toArray, List.set_cons_zero, List.set_cons_succ])
  show Code.wp _ _ _ _ _
  refine wp_seq ?_
  refine wp_seq ?_
  refine wp_region_list ?_
  refine seq_is (v := .agg #[.bool (b2), .slice A2 n2 c2]) rfl (run_load2 rfl rfl (Z.bx 1 rfl)) ?_
  (try simp only [Act.put, List.setIfInBounds_toArray, List.set_cons_zero, List.set_cons_succ])
  refine seq_call Z rfl rfl Try.func43 rfl rfl (args1 rfl) (Z.callV (zint_Sign.sem (Z.num 1 rfl)  )) ?_; clear Z; intro x4 W Z
  (try simp only [Act.put, List.setIfInBounds_toArray, List.set_cons_zero, List.set_cons_succ])
  refine seq_is (v := .bool (decide (((z2).sign) < (0)))) rfl (run_lss rfl rfl rfl) ?_
  (try simp only [Act.put, List.setIfInBounds_toArray, List.set_cons_zero, List.set_cons_succ])
  show Code.wp _ _ _ _ _
  refine wp_cond_false ((show _ = Value.bool (decide (((z2).sign) < (0))) from rfl).trans (congrArg Value.bool hs)) ?_
  refine wp_skip ?_
  show Code.wp _ _ _ _ _
  refine wp_seq ?_
  refine wp_region_list ?_
  refine seq_is (v := .agg #[.bool (b1), .slice A1 n1 c1]) rfl (run_load2 rfl rfl (Z.bx 2 rfl)) ?_
  (try simp only [Act.put, List.setIfInBounds_toArray, List.set_cons_zero, List.set_cons_succ])
  refine seq_is (v := .agg #[.bool (b2), .slice A2 n2 c2]) rfl (run_load2 rfl rfl (Z.bx 1 rfl)) ?_
  (try simp only [Act.put, List.setIfInBounds_toArray, List.set_cons_zero, List.set_cons_succ])
  refine seq_call Z rfl rfl Try.func79 rfl rfl (args2 rfl rfl) (Z.callI (zint_Gcd.sem (Z.num 0 rfl) (Z.num 1 rfl) (Bd.fm (Bd.gcd (Bd.abs hb1) (Bd.abs hb2)) (by decide)) )) ?_; clear Z; intro x5 W Z
  (try simp only [Act.put, List.setIfInBounds_toArray, List.set_cons_zero, List.set_cons_succ])
  refine seq_alloc Z rfl rfl ?_; clear Z; intro g6 W Z
  (try simp only [Act.put, List.setIfInBounds_toArray, List.set_cons_zero, List.set_cons_succ])
  refine seq_store Z 0 rfl rfl rfl rfl rfl ?_; clear Z; intro W Z
  (try simp only [Act.put, List.setIfInBounds_toArray, List.set_cons_zero, List.set_cons_succ])
  show Code.wp _ _ _ _ _
  refine wp_seq ?_
  refine wp_region_list ?_
  refine seq_is (v := .agg #[.bool (b1), .slice A1 n1 c1]) rfl (run_load2 rfl rfl (Z.bx 3 rfl)) ?_
  (try simp only [Act.put, List.setIfInBounds_toArray, List.set_cons_zero, List.set_cons_succ])
  refine seq_is (v := .agg #[.bool (decide (gcdI ((((z1)).natAbs : Nat)) ((((z2)).natAbs : Nat)) < 0)), x5.v]) rfl (run_load2 rfl rfl (Z.bx 0 rfl)) ?_
  (try simp only [Act.put, List.setIfInBounds_toArray, List.set_cons_zero, List.set_cons_succ])
  refine seq_call Z rfl rfl Try.func80 rfl rfl (args2 rfl rfl) (Z.callIi (zint_Exact.sem (Z.num 1 rfl) (Z.own 0 rfl (Bd.fm (Bd.abs (Bd.gcd (Bd.abs hb1) (Bd.abs hb2))) (by decide)))  (Bd.mono hb1 (by decide)) (Bd.mono (Bd.gcd (Bd.abs hb1) (Bd.abs hb2)) (by decide)))) ?_; clear Z; intro x7 W Z
  (try simp only [Act.put, List.setIfInBounds_toArray, List.set_cons_zero, List.set_cons_succ])
  refine seq_is (v := .tuple #[.agg #[.bool (decide (exZ (z1) (gcdI ((((z1)).natAbs : Nat)) ((((z2)).natAbs : Nat))) < 0)), x7.v], .int .i64 (exE (z1) (gcdI ((((z1)).natAbs : Nat)) ((((z2)).natAbs : Nat))))]) rfl (run_move rfl rfl) ?_
  (try simp only [Act.put, List.setIfInBounds_toArray, List.set_cons_zero, List.set_cons_succ])
  refine seq_is (v := .agg #[.bool (decide (exZ (z1) (gcdI ((((z1)).natAbs : Nat)) ((((z2)).natAbs : Nat))) < 0)), x7.v]) rfl (run_extract rfl rfl rfl) ?_
  (try simp only [Act.put, List.setIfInBounds_toArray, List.set_cons_zero, List.set_cons_succ])
  refine seq_is (v := .int .i64 (exE (z1) (gcdI ((((z1)).natAbs : Nat)) ((((z2)).natAbs : Nat))))) rfl (run_extract rfl rfl rfl) ?_
  (try simp only [Act.put, List.setIfInBounds_toArray, List.set_cons_zero, List.set_cons_succ])
  refine seq_alloc Z rfl rfl ?_; clear Z; intro g8 W Z
  (try simp only [Act.put, List.setIfInBounds_toArray, List.set_cons_zero, List.set_cons_succ])
  refine seq_store Z 0 rfl rfl rfl rfl rfl ?_; clear Z; intro W Z
  (try simp only [Act.put, List.setIfInBounds_toArray, List.set_cons_zero, List.set_cons_succ])
  refine seq_is (v := .int .i64 (exE (z1) (gcdI ((((z1)).natAbs : Nat)) ((((z2)).natAbs : Nat))))) rfl (run_assign rfl rfl) ?_
  (try simp only [Act.put, List.setIfInBounds_toArray, List.set_cons_zero, List.set_cons_succ])
  show Code.wp _ _ _ _ _
  refine wp_seq ?_
  refine wp_region_list ?_
  refine seq_is (v := .agg #[.bool (b2), .slice A2 n2 c2]) rfl (run_load2 rfl rfl (Z.bx 3 rfl)) ?_
  (try simp only [Act.put, List.setIfInBounds_toArray, List.set_cons_zero, List.set_cons_succ])
  refine seq_is (v := .agg #[.bool (decide (gcdI ((((z1)).natAbs : Nat)) ((((z2)).natAbs : Nat)) < 0)), x5.v]) rfl (run_load2 rfl rfl (Z.bx 1 rfl)) ?_
  (try simp only [Act.put, List.setIfInBounds_toArray, List.set_cons_zero, List.set_cons_succ])
  refine seq_call Z rfl rfl Try.func80 rfl rfl (args2 rfl rfl) (Z.callIi (zint_Exact.sem (Z.num 3 rfl) (Z.own 1 rfl (Bd.fm (Bd.abs (Bd.gcd (Bd.abs hb1) (Bd.abs hb2))) (by decide)))  (Bd.mono hb2 (by decide)) (Bd.mono (Bd.gcd (Bd.abs hb1) (Bd.abs hb2)) (by decide)))) ?_; clear Z; intro x9 W Z
  (try simp only [Act.put, List.setIfInBounds_toArray, List.set_cons_zero, List.set_cons_succ])
  refine seq_is (v := .tuple #[.agg #[.bool (decide (exZ (z2) (gcdI ((((z1)).natAbs : Nat)) ((((z2)).natAbs : Nat))) < 0)), x9.v], .int .i64 (exE (z2) (gcdI ((((z1)).natAbs : Nat)) ((((z2)).natAbs : Nat))))]) rfl (run_move rfl rfl) ?_
  (try simp only [Act.put, List.setIfInBounds_toArray, List.set_cons_zero, List.set_cons_succ])
  refine seq_is (v := .agg #[.bool (decide (exZ (z2) (gcdI ((((z1)).natAbs : Nat)) ((((z2)).natAbs : Nat))) < 0)), x9.v]) rfl (run_extract rfl rfl rfl) ?_
  (try simp only [Act.put, List.setIfInBounds_toArray, List.set_cons_zero, List.set_cons_succ])
  refine seq_is (v := .int .i64 (exE (z2) (gcdI ((((z1)).natAbs : Nat)) ((((z2)).natAbs : Nat))))) rfl (run_extract rfl rfl rfl) ?_
  (try simp only [Act.put, List.setIfInBounds_toArray, List.set_cons_zero, List.set_cons_succ])
  refine seq_alloc Z rfl rfl ?_; clear Z; intro g10 W Z
  (try simp only [Act.put, List.setIfInBounds_toArray, List.set_cons_zero, List.set_cons_succ])
  refine seq_store Z 0 rfl rfl rfl rfl rfl ?_; clear Z; intro W Z
  (try simp only [Act.put, List.setIfInBounds_toArray, List.set_cons_zero, List.set_cons_succ])
  refine seq_is (v := .int .i64 (exE (z2) (gcdI ((((z1)).natAbs : Nat)) ((((z2)).natAbs : Nat))))) rfl (run_assign rfl rfl) ?_
  (try simp only [Act.put, List.setIfInBounds_toArray, List.set_cons_zero, List.set_cons_succ])
  show Code.wp _ _ _ _ _
  refine wp_seq ?_
  refine wp_region_list ?_
  refine seq_is (v := .agg #[.bool (decide (exZ (z1) (gcdI ((((z1)).natAbs : Nat)) ((((z2)).natAbs : Nat))) < 0)), x7.v]) rfl (run_load2 rfl rfl (Z.bx 1 rfl)) ?_
  (try simp only [Act.put, List.setIfInBounds_toArray, List.set_cons_zero, List.set_cons_succ])
  refine seq_is (v := .agg #[.bool (decide (exZ (z2) (gcdI ((((z1)).natAbs : Nat)) ((((z2)).natAbs : Nat))) < 0)), x9.v]) rfl (run_load2 rfl rfl (Z.bx 0 rfl)) ?_
  (try simp only [Act.put, List.setIfInBounds_toArray, List.set_cons_zero, List.set_cons_succ])
  refine seq_is (v := .agg #[.bool (decide (exZ (z1) (gcdI ((((z1)).natAbs : Nat)) ((((z2)).natAbs : Nat))) < 0)), x7.v, .bool (decide (exZ (z2) (gcdI ((((z1)).natAbs : Nat)) ((((z2)).natAbs : Nat))) < 0)), x9.v]) rfl (run_buildR rfl rfl rfl) ?_
  (try simp only [Act.put, List.setIfInBounds_toArray, List.set_cons_zero, List.set_cons_succ])
  refine seq_store4 Z 3 rfl rfl rfl rfl rfl ?_; clear Z; intro W Z
  (try simp only [Act.put, List.setIfInBounds_toArray, List.set_cons_zero, List.set_cons_succ])
  show Code.wp _ _ _ _ _
  refine wp_ret ?_
  exact Z.endsQ 3 1 0 rfl rfl rfl rfl rfl rfl (by exact made_p1 h0 hn) (by exact made_p2 h0 hn)
end Go.Proofs.Ytndopanohhdfgaa.PA


/- Walks of Make and Of of layer 3. -/
namespace Go.Proofs.Ytndopanohhdfgaa.PA
open Go Go.Proofs.Ytndopanohhdfgaa.Nums Go.RowKit Go.Proofs.YtndopanohhdfgaaW.PrintWords Go.Proofs.YtndopanohhdfgaaW.PrintLast Go.Proofs.YtndopanohhdfgaaW.PrintMore
set_option linter.unusedVariables false
set_option linter.unusedSimpArgs false
theorem rat_made.sem {w : World} {b1 : Bool} {v1 : Value} {z1 : Int} {b2 : Bool} {v2 : Value} {z2 : Int} (m1 : NumV w b1 v1 z1) (m2 : NumV w b2 v2 z2) (hb1 : Bd 150000000 z1) (hb2 : Bd 150000000 z2) (h0 : z2 ≠ 0) : Calls Try.prog 44 #[.agg #[.bool b1, v1], .agg #[.bool b2, v2]] w (ResQ w (sgn z1 z2 / gg z1 z2) (sgn z2 z2 / gg z1 z2)) := by
  by_cases hn : z2 < 0
  · exact rat_made.semN m1 m2 hb1 hb2 h0 hn
  · exact rat_made.semP m1 m2 hb1 hb2 h0 hn
def ResQi (w : World) (z y : Int) (u : Value) (e : Ending) (w' : World) : Prop := ∃ v v2, e = .returned (.tuple #[.agg #[.bool (decide (z < 0)), v, .bool (decide (y < 0)), v2], u]) ∧ Kd.R (Kd.int .u32) 68 w' w.heap.size (fun _ => True) v (mg z) ∧ Kd.R (Kd.int .u32) 68 w' w.heap.size (fun _ => True) v2 (mg y) ∧ Below w.heap.size w w'
theorem Zt.endsQ' {w0 W : World} {ts : List (Value × (World → Value → Prop))} {bs : List (Nat × TypeId × Array Value)} {a : Act} {fn : Func} {t : Tmp} {g : Nat} {z y : Int} {b b2 : Bool} {l l2 : List Int} {v v2 : Value} (Z : Zt w0 W ts bs) (i j k : Nat) (h : fn.results = #[.cell t 29]) (hd : a.defers = []) (hp : a.tmps.getD t undef = .pointer (some ⟨g, 0, none⟩))
    (e : bs[i]? = some (g, 29, #[.bool b, v, .bool b2, v2])) (O : ts[j]? = some (v, tyO w0 l)) (O2 : ts[k]? = some (v2, tyO w0 l2)) (hb : b = decide (z < 0)) (hl : l = mg z) (hb2 : b2 = decide (y < 0)) (hl2 : l2 = mg y) : bodyPost Try.prog fn (ResQ w0 z y) .ret a W := by
  subst hb hl hb2 hl2
  exact Z.endsQ i j k h hd hp e O O2 rfl rfl
theorem Zt.endsQi' {w0 W : World} {ts : List (Value × (World → Value → Prop))} {bs : List (Nat × TypeId × Array Value)} {a : Act} {fn : Func} {t d : Tmp} {g : Nat} {z y : Int} {b b2 : Bool} {l l2 : List Int} {v v2 u u' : Value} (Z : Zt w0 W ts bs) (i j k : Nat) (h : fn.results = #[.cell t 29, .tmp d]) (hd : a.defers = []) (hp : a.tmps.getD t undef = .pointer (some ⟨g, 0, none⟩)) (hd2 : a.tmps.getD d undef = u)
    (e : bs[i]? = some (g, 29, #[.bool b, v, .bool b2, v2])) (O : ts[j]? = some (v, tyO w0 l)) (O2 : ts[k]? = some (v2, tyO w0 l2)) (hb : b = decide (z < 0)) (hl : l = mg z) (hb2 : b2 = decide (y < 0)) (hl2 : l2 = mg y) (hu : u = u') : bodyPost Try.prog fn (ResQi w0 z y u') .ret a W := by
  subst hb hl hb2 hl2 hu
  refine bodyPost_ret (v := .tuple #[.agg #[.bool (decide (z < 0)), v, .bool (decide (y < 0)), v2], u]) ?_ hd ⟨v, v2, rfl, Z.row j O, Z.row k O2, Z.below⟩
  obtain ⟨⟨c0, c1, c2, c3⟩, -⟩ := (Z.bx i e).four
  have hp' : a.tmps[t]?.getD undef = .pointer (some ⟨g, 0, none⟩) := by simpa using hp
  have hd2' : a.tmps[d]?.getD undef = u := by simpa using hd2
  unfold results
  rw [h]
  go_simp
set_option maxHeartbeats 4000000 in
set_option maxRecDepth 100000 in
theorem rat_Make.semN {w : World} {b1 : Bool} {v1 : Value} {z1 : Int} {b2 : Bool} {v2 : Value} {z2 : Int} (m1 : NumV w b1 v1 z1) (m2 : NumV w b2 v2 z2) (hb1 : Bd 150000000 z1) (hb2 : Bd 150000000 z2) (h0 : z2 ≠ 0) : Calls Try.prog 13 #[.agg #[.bool b1, v1], .agg #[.bool b2, v2]] w (ResQi w (sgn z1 z2 / gg z1 z2) (sgn z2 z2 / gg z1 z2) (.int .i64 0)) := by
  obtain ⟨A1, n1, c1, rfl⟩ := m1.form
  obtain ⟨A2, n2, c2, rfl⟩ := m2.form
  have Z := Zt.begin2 m1 m2
  have hs := sign0_f h0
  go_enter Try.func13, Try.ntmps13
  refine wp_seq ?_
  refine wp_region_list ?_
  refine seq_box Z rfl rfl rfl ?_; clear Z; intro g1 W Z
  (try simp only [Act.put, List.setIfInBounds_toArray, List.set_cons_zero, List.set_cons_succ])
  refine seq_box Z rfl rfl rfl ?_; clear Z; intro g2 W Z
  (try simp only [Act.put, List.setIfInBounds_toArray, List.set_cons_zero, List.set_cons_succ])
  refine seq_alloc4 Z rfl rfl ?_; clear Z; intro g3 W Z
  (try simp only [Act.put, List.setIfInBounds_toArray, List.set_cons_zero, List.set_cons_succ])
  refine seq_is (v := .int .i64 (0)) rfl (run_assign rfl rfl) ?_
  (try simp only [Act.put, List.setIfInBounds_toArray, List.set_cons_zero, List.set_cons_succ])
  show Code.wp _ _ _ _ _
  refine wp_seq ?_
  refine wp_seq ?_
  refine wp_region_list ?_
  refine seq_is (v := .agg #[.bool (b2), .slice A2 n2 c2]) rfl (run_load2 rfl rfl (Z.bx 1 rfl)) ?_
  (try simp only [Act.put, List.setIfInBounds_toArray, List.set_cons_zero, List.set_cons_succ])
  refine seq_call Z rfl rfl Try.func43 rfl rfl (args1 rfl) (Z.callV (zint_Sign.sem (Z.num 1 rfl)  )) ?_; clear Z; intro x4 W Z
  (try simp only [Act.put, List.setIfInBounds_toArray, List.set_cons_zero, List.set_cons_succ])
  refine seq_is (v := .bool (decide (((z2).sign) = (0)))) rfl (run_eql rfl rfl rfl) ?_
  (try simp only [Act.put, List.setIfInBounds_toArray, List.set_cons_zero, List.set_cons_succ])
  show Code.wp _ _ _ _ _
  refine wp_cond_false ((show _ = Value.bool (decide (((z2).sign) = (0))) from rfl).trans (congrArg Value.bool hs)) ?_
  refine wp_skip ?_
  show Code.wp _ _ _ _ _
  refine wp_seq ?_
  refine wp_region_list ?_
  refine seq_is (v := .agg #[.bool (b1), .slice A1 n1 c1]) rfl (run_load2 rfl rfl (Z.bx 2 rfl)) ?_
  (try simp only [Act.put, List.setIfInBounds_toArray, List.set_cons_zero, List.set_cons_succ])
  refine seq_is (v := .agg #[.bool (b2), .slice A2 n2 c2]) rfl (run_load2 rfl rfl (Z.bx 1 rfl)) ?_
  (try simp only [Act.put, List.setIfInBounds_toArray, List.set_cons_zero, List.set_cons_succ])
  refine seq_call Z rfl rfl Try.func44 rfl rfl (args2 rfl rfl) (Z.callQ (rat_made.sem (Z.num 0 rfl) (Z.num 1 rfl)  (Bd.mono hb1 (by decide)) (Bd.mono hb2 (by decide)) h0)) ?_; clear Z; intro x5 W Z
  (try simp only [Act.put, List.setIfInBounds_toArray, List.set_cons_zero, List.set_cons_succ])
  refine seq_store4 Z 0 rfl rfl rfl rfl rfl ?_; clear Z; intro W Z
  (try simp only [Act.put, List.setIfInBounds_toArray, List.set_cons_zero, List.set_cons_succ])
  refine seq_is (v := .int .i64 (0)) rfl (run_assign rfl rfl) ?_
  (try simp only [Act.put, List.setIfInBounds_toArray, List.set_cons_zero, List.set_cons_succ])
  show Code.wp _ _ _ _ _
  refine wp_ret ?_
  exact Z.endsQi' (u := .int .i64 (0)) 0 0 1 rfl rfl rfl rfl rfl rfl rfl (by rfl) (by rfl) (by rfl) (by rfl) (by rfl)
end Go.Proofs.Ytndopanohhdfgaa.PA

