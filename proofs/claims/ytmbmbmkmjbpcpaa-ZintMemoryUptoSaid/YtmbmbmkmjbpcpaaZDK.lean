/- The laws' own helpers: a number with limbs of its own; the same number; and a loop by a state. -/
import Derived.Outline
import Derived.LoopN
import Derived.Test.YtmbmbmkmjbpcpaaZCK
import Derived.Test.YtmbmbmkmjbpcpaaZBK
import Derived.Test.YtmbmbmkmjbpcpaaPAx0K
import Derived.WalkKit
import Derived.ProofKit
import Derived.OpenShut
import Derived.ChangeSlices
import Derived.Test.YtmbmbmkmjbpcpaaRows
import Derived.ChangeSame
import Derived.RowKit
namespace Go.Proofs.Ytmbmbmkmjbpcpaa.PA
open Go Go.Proofs.Ytmbmbmkmjbpcpaa.Nums Go.RowKit Go.Proofs.YtmbmbmkmjbpcpaaW.PrintWords Go.Proofs.YtmbmbmkmjbpcpaaW.PrintLast Go.Proofs.YtmbmbmkmjbpcpaaW.PrintMore
set_option linter.unusedVariables false
set_option linter.unusedSimpArgs false
/-- a loop by a state and how far it still has to go -/
theorem wp_loop_s {P : Program} {Q : Exit → Act → World → Prop} {a : Act} {w : World} {c : Code} {α : Type} (S : α → Act → World → Prop) (m : α → Nat) (x0 : α) (h0 : S x0 a w)
    (round : ∀ x a w, S x a w → c.wp P (Exit.then (fun a' w' => ∃ y, m y < m x ∧ S y a' w') Q) a w) : (Code.loop c).wp P Q a w := by
  have key : ∀ n x a w, m x < n → S x a w → Code.rounds P c Q n a w := by
    intro n
    induction n with
    | zero => intro x a w h; omega
    | succ n ih =>
      intro x a w hm hS
      refine wp_mono (round x a w hS) ?_
      intro e a' w' h
      cases e with
      | normal =>
        obtain ⟨y, hy, hS'⟩ := h
        exact ih y a' w' (by omega) hS'
      | _ => exact h
  exact wp_loop_rounds (m x0 + 1) (key _ x0 a w (by omega) h0)
/-- a slice of words that reads as l -/
def tyR (l : List Int) : World → Value → Prop := fun w v => Rd w v l
theorem Rd.has {w : World} {v : Value} {l : List Int} (h : Rd w v l) : Has w w [(v, tyR l)] := has_one fun w' k => h.came w' k
theorem Rd.num {w : World} {b : Bool} {v : Value} {l : List Int} (h : Rd w v l) (ho : Ok l) (hl : l.length ≤ 10000000) : NumV w b v (zof b (val l)) := ⟨val l, ⟨l, h, ho, hl, rfl⟩, rfl⟩
section
variable {w0 w W : World} {ts : List (Value × (World → Value → Prop))} {bs : List (Nat × TypeId × Array Value)} {P : Program} {f : FuncId} {args : Array Value} {b : Bool} {l : List Int} {a : Act} {fn : Func} {p g : Nat} {v : Value}
theorem Zt.rd (Z : Zt w0 w ts bs) (i : Nat) (e : ts[i]? = some (v, tyR l)) : Rd w v l := Z.get i e
theorem Zt.rdO (Z : Zt w0 w ts bs) (i : Nat) (e : ts[i]? = some (v, tyO w0 l)) : Rd w v l := Rd.of_row (Z.row i e)
end
theorem run_cut {a : Act} {o : Oper} {W : World} {p q : Operand} {A : Option Addr} {n c m : Nat} (ho : o.op = .slice 23 p none (some q) none) (he : a.eval p = .slice A n c) (he2 : a.eval q = .int .i64 m) (hm : m ≤ n) (hc : n ≤ c) : (execOp a.eval o).run Try.prog W = .ok (.value (.slice A m c)) W := by
  obtain ⟨i0, hi, -, hsz, -⟩ := info_parts info68
  have h := cut_to (P := Try.prog) 23 68 .i64 Try.underlying23 hi A n c (m : Int) (by omega) (by omega) hc W
  unfold execOp
  simp only [ho, he, he2, Option.map_some, Option.map_none]
  simp only [Int.toNat_natCast] at h
  go_simp
theorem has_cons {w0 W : World} {v : Value} {T : World → Value → Prop} {ts : List (Value × (World → Value → Prop))} (h : ∀ w', Keeps w0 W w' → T w' v) (k : Has w0 W ts) : Has w0 W ((v, T) :: ts) := (has_one h).append k
theorem Zt.retype {w0 W : World} {ts ts' : List (Value × (World → Value → Prop))} {bs : List (Nat × TypeId × Array Value)} (Z : Zt w0 W ts bs) (h : Has w0 W ts') : Zt w0 W ts' bs := ⟨Z.below, h, Z.box, Z.apart⟩
theorem Rd.cell {w : World} {ad : Addr} {n c i : Nat} {l : List Int} (h : Rd w (.slice (some ad) n c) l) (hi : i < l.length) : w.cell? (ad.add i) = some (.int .u32 (l.getD i 0)) := by
  obtain ⟨A, c', e, h1, h2⟩ := h
  injection e with e1 e2 e3
  subst e1
  obtain ⟨-, -, h5⟩ := Kd.reads_of_C (d := (0 : Int)) h2
  obtain ⟨ad2, e, h6⟩ := h5 (by omega)
  injection e with e
  subst e
  exact h6 i hi
theorem Rd.nonnil {w : World} {A : Option Addr} {n c i : Nat} {l : List Int} (h : Rd w (.slice A n c) l) (hi : i < l.length) : ∃ ad, A = some ad := by
  obtain ⟨A', c', e, h1, h2⟩ := h
  injection e with e1 e2 e3
  subst e1
  obtain ⟨-, -, h5⟩ := Kd.reads_of_C (d := (0 : Int)) h2
  obtain ⟨ad2, e, h6⟩ := h5 (by omega)
  exact ⟨ad2, e⟩
section
variable {a : Act} {o : Oper} {W : World} {p q : Operand}
theorem run_index {ad : Addr} {n c i : Nat} (ho : o.op = .indexAddr 23 p q) (he : a.eval p = .slice (some ad) n c) (he2 : a.eval q = .int .i64 i) (hi : i < n) : (execOp a.eval o).run Try.prog W = .ok (.value (.pointer (some (ad.add i)))) W := by
  obtain ⟨i0, hi0, -, hsz, -⟩ := info_parts info68
  have e1 : (0 : Int) ≤ (i : Int) := by omega
  have e2 : (i : Int) < (n : Int) := by omega
  unfold execOp
  simp only [ho, he, he2]
  go_simp
theorem run_loadU {ad : Addr} {x : Int} (ho : o.op = .load 68 p) (he : a.eval p = .pointer (some ad)) (hc : W.cell? ad = some (.int .u32 x)) : (execOp a.eval o).run Try.prog W = .ok (.value (.int .u32 x)) W := by
  unfold execOp
  simp only [ho, he]
  go_simp
theorem run_neqU {x y : Int} (ho : o.op = .binOp .neq 68 p q 68) (he : a.eval p = .int .u32 x) (he2 : a.eval q = .int .u32 y) : (execOp a.eval o).run Try.prog W = .ok (.value (.bool (decide (x ≠ y)))) W := by
  unfold execOp
  simp only [ho, he, he2]
  go_simp
  try (first | rfl | (by_cases h : x = y <;> simp [h]))
end
end Go.Proofs.Ytmbmbmkmjbpcpaa.PA


/- Two numbers are the same, limb by limb. -/
namespace Go.Proofs.Ytmbmbmkmjbpcpaa.PA
open Go Go.Proofs.Ytmbmbmkmjbpcpaa.Nums Go.RowKit Go.Proofs.YtmbmbmkmjbpcpaaW.PrintWords Go.Proofs.YtmbmbmkmjbpcpaaW.PrintLast Go.Proofs.YtmbmbmkmjbpcpaaW.PrintMore
set_option linter.unusedVariables false
set_option linter.unusedSimpArgs false
theorem eq_yes {b1 b2 : Bool} {l1 l2 : List Int} {i : Nat} (h1 : (b1 != b2) = false) (h2 : decide ((l1.length : Int) ≠ (l2.length : Int)) = false) (h3 : decide ((i : Int) < (l1.length : Int)) = false) (hI : i ≤ l1.length ∧ ∀ j, j < i → l1.getD j 0 = l2.getD j 0) : Value.bool true = .bool (decide (b1 = b2 ∧ l1 = l2)) := by
  have h2' := of_decide_eq_false h2
  have h3' := of_decide_eq_false h3
  have hb : b1 = b2 := by simpa using h1
  have hl : l1 = l2 := by
    refine List.ext_getElem (by omega) fun j hj hj2 => ?_
    have := hI.2 j (by omega)
    simpa [List.getD, hj, hj2] using this
  simp [hb, hl]
theorem eq_no1 {b1 b2 : Bool} {l1 l2 : List Int} (h1 : (b1 != b2) = true) : Value.bool false = .bool (decide (b1 = b2 ∧ l1 = l2)) := by
  have : ¬ b1 = b2 := by simpa using h1
  simp [this]
theorem eq_no2 {b1 b2 : Bool} {l1 l2 : List Int} (h2 : decide ((l1.length : Int) ≠ (l2.length : Int)) = true) : Value.bool false = .bool (decide (b1 = b2 ∧ l1 = l2)) := by
  have h := of_decide_eq_true h2
  have : ¬ l1 = l2 := by rintro rfl; exact h rfl
  simp [this]
theorem eq_no3 {b1 b2 : Bool} {l1 l2 : List Int} {i : Nat} (h2 : decide (l1.getD i 0 ≠ l2.getD i 0) = true) : Value.bool false = .bool (decide (b1 = b2 ∧ l1 = l2)) := by
  have h := of_decide_eq_true h2
  have : ¬ l1 = l2 := by rintro rfl; exact h rfl
  simp [this]
theorem eq_more {l1 l2 : List Int} {i : Nat} (h : ∀ j, j < i → l1.getD j 0 = l2.getD j 0) (h2 : decide (l1.getD i 0 ≠ l2.getD i 0) = false) : ∀ j, j < i + 1 → l1.getD j 0 = l2.getD j 0 := by
  intro j hj
  rcases Nat.lt_or_ge j i with hji | hji
  · exact h j hji
  · have : j = i := by omega
    subst this
    have := of_decide_eq_false h2
    exact Classical.not_not.mp this
theorem run_inc {a : Act} {o : Oper} {W : World} {p : Operand} {i : Nat} (ho : o.op = .binOp .add 3 p (.const (.int .i64 1)) 3) (he : a.eval p = .int .i64 i) (hi : i < 4611686018427387904) : (execOp a.eval o).run Try.prog W = .ok (.value (.int .i64 ((i + 1 : Nat) : Int))) W := by
  have h := run_add (W := W) ho he (show a.eval (.const (.int .i64 1)) = .int .i64 1 from rfl)
  rw [w64 (by omega) (by omega)] at h
  exact h
set_option maxHeartbeats 4000000 in
set_option maxRecDepth 100000 in
theorem trammellaw02_eq.sem {w : World} {b1 b2 : Bool} {v1 v2 : Value} {l1 l2 : List Int} (m1 : Rd w v1 l1) (m2 : Rd w v2 l2) (hl : l1.length ≤ 4611686018427387903) : Calls Try.prog 16 #[.agg #[.bool b1, v1], .agg #[.bool b2, v2]] w (RetV w (.bool (decide (b1 = b2 ∧ l1 = l2)))) := by
  obtain ⟨A1, c1, rfl, hc1, hC1⟩ := id m1
  obtain ⟨A2, c2, rfl, hc2, hC2⟩ := id m2
  have Z := Zt.start w (m1.has.append m2.has)
  clear hC1 hC2
  go_enter Try.func16, Try.ntmps16
  refine wp_seq ?_
  refine wp_region_list ?_
  refine seq_box Z rfl rfl rfl ?_; clear Z; intro g1 W Z
  (try simp only [Act.put, List.setIfInBounds_toArray, List.set_cons_zero, List.set_cons_succ])
  refine seq_box Z rfl rfl rfl ?_; clear Z; intro g2 W Z
  (try simp only [Act.put, List.setIfInBounds_toArray, List.set_cons_zero, List.set_cons_succ])
  refine seq_is (v := .bool (false)) rfl (run_assign rfl rfl) ?_
  (try simp only [Act.put, List.setIfInBounds_toArray, List.set_cons_zero, List.set_cons_succ])
  show Code.wp _ _ _ _ _
  refine wp_seq ?_
  refine wp_seq ?_
  rcases Bool.eq_false_or_eq_true ((b1) != (b2)) with hk3 | hk3
  · refine wp_region_list ?_
    refine seq_is (v := .pointer (some ⟨g1, 0, none⟩)) rfl (run_field0 rfl rfl) ?_
    (try simp only [Act.put, List.setIfInBounds_toArray, List.set_cons_zero, List.set_cons_succ])
    refine seq_is (v := .bool (b1)) rfl (run_loadN rfl rfl (Z.bx 1 rfl)) ?_
    (try simp only [Act.put, List.setIfInBounds_toArray, List.set_cons_zero, List.set_cons_succ])
    refine seq_is (v := .pointer (some ⟨g2, 0, none⟩)) rfl (run_field0 rfl rfl) ?_
    (try simp only [Act.put, List.setIfInBounds_toArray, List.set_cons_zero, List.set_cons_succ])
    refine seq_is (v := .bool (b2)) rfl (run_loadN rfl rfl (Z.bx 0 rfl)) ?_
    (try simp only [Act.put, List.setIfInBounds_toArray, List.set_cons_zero, List.set_cons_succ])
    refine seq_is (v := .bool ((b1) != (b2))) rfl (run_neqB rfl rfl rfl) ?_
    (try simp only [Act.put, List.setIfInBounds_toArray, List.set_cons_zero, List.set_cons_succ])
    refine seq_is (v := .bool ((b1) != (b2))) rfl (run_move rfl rfl) ?_
    (try simp only [Act.put, List.setIfInBounds_toArray, List.set_cons_zero, List.set_cons_succ])
    refine list_unwant rfl rfl (congrArg some (congrArg Value.bool hk3)) (by decide) ?_
    refine list_unwant rfl rfl (congrArg some (congrArg Value.bool hk3)) (by decide) ?_
    refine list_unwant rfl rfl (congrArg some (congrArg Value.bool hk3)) (by decide) ?_
    refine list_unwant rfl rfl (congrArg some (congrArg Value.bool hk3)) (by decide) ?_
    refine list_unwant rfl rfl (congrArg some (congrArg Value.bool hk3)) (by decide) ?_
    refine list_unwant rfl rfl (congrArg some (congrArg Value.bool hk3)) (by decide) ?_
    refine list_unwant rfl rfl (congrArg some (congrArg Value.bool hk3)) (by decide) ?_
    refine seq_is (v := .bool (true)) rfl (run_pickT rfl ((show _ = Value.bool ((b1) != (b2)) from rfl).trans (congrArg Value.bool hk3)) rfl) ?_
    (try simp only [Act.put, List.setIfInBounds_toArray, List.set_cons_zero, List.set_cons_succ])
    show Code.wp _ _ _ _ _
    refine wp_cond_true rfl ?_
    refine wp_seq ?_
    refine wp_region_list ?_
    refine seq_is (v := .bool (false)) rfl (run_assign rfl rfl) ?_
    (try simp only [Act.put, List.setIfInBounds_toArray, List.set_cons_zero, List.set_cons_succ])
    show Code.wp _ _ _ _ _
    refine wp_ret ?_
    exact Z.endsV (u := .bool false) rfl rfl rfl (eq_no1 hk3)
  · refine wp_region_list ?_
    refine seq_is (v := .pointer (some ⟨g1, 0, none⟩)) rfl (run_field0 rfl rfl) ?_
    (try simp only [Act.put, List.setIfInBounds_toArray, List.set_cons_zero, List.set_cons_succ])
    refine seq_is (v := .bool (b1)) rfl (run_loadN rfl rfl (Z.bx 1 rfl)) ?_
    (try simp only [Act.put, List.setIfInBounds_toArray, List.set_cons_zero, List.set_cons_succ])
    refine seq_is (v := .pointer (some ⟨g2, 0, none⟩)) rfl (run_field0 rfl rfl) ?_
    (try simp only [Act.put, List.setIfInBounds_toArray, List.set_cons_zero, List.set_cons_succ])
    refine seq_is (v := .bool (b2)) rfl (run_loadN rfl rfl (Z.bx 0 rfl)) ?_
    (try simp only [Act.put, List.setIfInBounds_toArray, List.set_cons_zero, List.set_cons_succ])
    refine seq_is (v := .bool ((b1) != (b2))) rfl (run_neqB rfl rfl rfl) ?_
    (try simp only [Act.put, List.setIfInBounds_toArray, List.set_cons_zero, List.set_cons_succ])
    refine seq_is (v := .bool ((b1) != (b2))) rfl (run_move rfl rfl) ?_
    (try simp only [Act.put, List.setIfInBounds_toArray, List.set_cons_zero, List.set_cons_succ])
    refine list_want rfl rfl (congrArg some (congrArg Value.bool hk3)) (wp_run (v := .pointer (some ⟨g1, 1, none⟩)) (run_field1 rfl rfl) ?_)
    (try simp only [Act.put, List.setIfInBounds_toArray, List.set_cons_zero, List.set_cons_succ])
    refine list_want rfl rfl (congrArg some (congrArg Value.bool hk3)) (wp_run (v := .slice A1 l1.length c1) (run_loadM rfl rfl (Z.bx 1 rfl)) ?_)
    (try simp only [Act.put, List.setIfInBounds_toArray, List.set_cons_zero, List.set_cons_succ])
    refine list_want rfl rfl (congrArg some (congrArg Value.bool hk3)) (wp_run (v := .int .i64 (((l1.length : Nat) : Int))) (run_len rfl rfl) ?_)
    (try simp only [Act.put, List.setIfInBounds_toArray, List.set_cons_zero, List.set_cons_succ])
    refine list_want rfl rfl (congrArg some (congrArg Value.bool hk3)) (wp_run (v := .pointer (some ⟨g2, 1, none⟩)) (run_field1 rfl rfl) ?_)
    (try simp only [Act.put, List.setIfInBounds_toArray, List.set_cons_zero, List.set_cons_succ])
    refine list_want rfl rfl (congrArg some (congrArg Value.bool hk3)) (wp_run (v := .slice A2 l2.length c2) (run_loadM rfl rfl (Z.bx 0 rfl)) ?_)
    (try simp only [Act.put, List.setIfInBounds_toArray, List.set_cons_zero, List.set_cons_succ])
    refine list_want rfl rfl (congrArg some (congrArg Value.bool hk3)) (wp_run (v := .int .i64 (((l2.length : Nat) : Int))) (run_len rfl rfl) ?_)
    (try simp only [Act.put, List.setIfInBounds_toArray, List.set_cons_zero, List.set_cons_succ])
    refine list_want rfl rfl (congrArg some (congrArg Value.bool hk3)) (wp_run (v := .bool (decide ((((l1.length : Nat) : Int)) ≠ (((l2.length : Nat) : Int))))) (run_neq rfl rfl rfl) ?_)
    (try simp only [Act.put, List.setIfInBounds_toArray, List.set_cons_zero, List.set_cons_succ])
    refine seq_is (v := .bool (decide ((((l1.length : Nat) : Int)) ≠ (((l2.length : Nat) : Int))))) rfl (run_pickF rfl ((show _ = Value.bool ((b1) != (b2)) from rfl).trans (congrArg Value.bool hk3)) rfl) ?_
    (try simp only [Act.put, List.setIfInBounds_toArray, List.set_cons_zero, List.set_cons_succ])
    show Code.wp _ _ _ _ _
    refine wp_cond_split (t := decide ((((l1.length : Nat) : Int)) ≠ (((l2.length : Nat) : Int)))) rfl ?_ ?_
    · intro hc4
      refine wp_seq ?_
      refine wp_region_list ?_
      refine seq_is (v := .bool (false)) rfl (run_assign rfl rfl) ?_
      (try simp only [Act.put, List.setIfInBounds_toArray, List.set_cons_zero, List.set_cons_succ])
      show Code.wp _ _ _ _ _
      refine wp_ret ?_
      exact Z.endsV (u := .bool false) rfl rfl rfl (eq_no2 hc4)
    · intro hc4
      refine wp_skip ?_
      show Code.wp _ _ _ _ _
      refine wp_seq ?_
      refine wp_seq ?_
      refine wp_region_list ?_
      refine seq_is (v := .int .i64 (0)) rfl (run_assign rfl rfl) ?_
      (try simp only [Act.put, List.setIfInBounds_toArray, List.set_cons_zero, List.set_cons_succ])
      show Code.wp _ _ _ _ _
      refine wp_block ?_
      refine wp_loop_s (α := Nat) (fun i a W => ∃ (j4_4 j20_4 j21_4 j22_4 j23_4 j24_4 j25_4 j26_4 j27_4 j28_4 j29_4 j30_4 j31_4 j32_4 j33_4 j34_4 j35_4 j36_4 j37_4 : Value), a = { tmps := #[.agg #[.bool (b1), .slice A1 l1.length c1], .agg #[.bool (b2), .slice A2 l2.length c2], .pointer (some ⟨g1, 0, none⟩), .pointer (some ⟨g2, 0, none⟩), j4_4, .int .i64 ((i : Nat) : Int), .pointer (some ⟨g1, 0, none⟩), .bool (b1), .pointer (some ⟨g2, 0, none⟩), .bool (b2), .bool ((b1) != (b2)), .bool ((b1) != (b2)), .pointer (some ⟨g1, 1, none⟩), .slice A1 l1.length c1, .int .i64 (((l1.length : Nat) : Int)), .pointer (some ⟨g2, 1, none⟩), .slice A2 l2.length c2, .int .i64 (((l2.length : Nat) : Int)), .bool (decide ((((l1.length : Nat) : Int)) ≠ (((l2.length : Nat) : Int)))), .bool (decide ((((l1.length : Nat) : Int)) ≠ (((l2.length : Nat) : Int)))), j20_4, j21_4, j22_4, j23_4, j24_4, j25_4, j26_4, j27_4, j28_4, j29_4, j30_4, j31_4, j32_4, j33_4, j34_4, j35_4, j36_4, j37_4], defers := [] } ∧ Zt w W [(.slice A1 l1.length c1, tyR l1), (.slice A2 l2.length c2, tyR l2)] [(g2, 25, #[.bool (b2), .slice A2 l2.length c2]), (g1, 25, #[.bool (b1), .slice A1 l1.length c1])] ∧ (i ≤ l1.length ∧ ∀ j, j < i → l1.getD j 0 = l2.getD j 0)) (fun i => l1.length - i) 0 ⟨_, _, _, _, _, _, _, _, _, _, _, _, _, _, _, _, _, _, _, rfl, (Z.retype (has_cons (Z.has 0 rfl) (has_cons (Z.has 1 rfl) (Has.nil _ _)))), ⟨Nat.zero_le _, fun j h => absurd h (Nat.not_lt_zero j)⟩⟩ ?_
      clear Z; rintro i a W ⟨j4_4, j20_4, j21_4, j22_4, j23_4, j24_4, j25_4, j26_4, j27_4, j28_4, j29_4, j30_4, j31_4, j32_4, j33_4, j34_4, j35_4, j36_4, j37_4, rfl, Z, hI⟩
      refine wp_seq ?_
      refine wp_seq ?_
      refine wp_region_list ?_
      refine seq_is (v := .int .i64 ((i : Nat) : Int)) rfl (run_move rfl rfl) ?_
      (try simp only [Act.put, List.setIfInBounds_toArray, List.set_cons_zero, List.set_cons_succ])
      refine seq_is (v := .pointer (some ⟨g1, 1, none⟩)) rfl (run_field1 rfl rfl) ?_
      (try simp only [Act.put, List.setIfInBounds_toArray, List.set_cons_zero, List.set_cons_succ])
      refine seq_is (v := .slice A1 l1.length c1) rfl (run_loadM rfl rfl (Z.bx 1 rfl)) ?_
      (try simp only [Act.put, List.setIfInBounds_toArray, List.set_cons_zero, List.set_cons_succ])
      refine seq_is (v := .int .i64 (((l1.length : Nat) : Int))) rfl (run_len rfl rfl) ?_
      (try simp only [Act.put, List.setIfInBounds_toArray, List.set_cons_zero, List.set_cons_succ])
      refine seq_is (v := .bool (decide ((((i : Nat) : Int)) < (((l1.length : Nat) : Int))))) rfl (run_lss rfl rfl rfl) ?_
      (try simp only [Act.put, List.setIfInBounds_toArray, List.set_cons_zero, List.set_cons_succ])
      show Code.wp _ _ _ _ _
      refine wp_cond_split (t := decide ((((i : Nat) : Int)) < (((l1.length : Nat) : Int)))) rfl ?_ ?_
      · intro hc5
        refine wp_skip ?_
        show Code.wp _ _ _ _ _
        refine wp_seq ?_
        have hlt : i < l1.length := by have := of_decide_eq_true hc5; omega
        have hlt2 : i < l2.length := by have := of_decide_eq_false hc4; omega
        obtain ⟨ad1, rfl⟩ := (Z.rd 0 rfl).nonnil hlt
        obtain ⟨ad2, rfl⟩ := (Z.rd 1 rfl).nonnil hlt2
        refine wp_block ?_
        refine wp_seq ?_
        refine wp_dag (pre := [_, _, _, _, _, _, _, _, _, _, _]) (sps := [.is (.pointer (some ⟨g1, 1, none⟩)), .is (.slice (some ad1) l1.length c1), .is (.int .i64 ((i : Nat) : Int)), .is (.pointer (some (ad1.add i))), .is (.int .u32 (l1.getD i 0)), .is (.pointer (some ⟨g2, 1, none⟩)), .is (.slice (some ad2) l2.length c2), .is (.int .i64 ((i : Nat) : Int)), .is (.pointer (some (ad2.add i))), .is (.int .u32 (l2.getD i 0)), .is (.bool (decide ((l1.getD i 0) ≠ (l2.getD i 0))))]) Z (by kernel_rfl) _ rfl (by kernel_rfl) (by kernel_rfl) rfl ⟨?_, ?_, ?_, ?_, ?_, ?_, ?_, ?_, ?_, ?_, ?_, trivial⟩ ?_
        · intro a e6 W Q Z; exact step_is (fun _ h => op_plain rfl rfl h) (run_field1 rfl (ev e6))
        · intro a x8 e9 W Q Z; exact step_is (fun _ h => op_plain rfl rfl h) (run_loadM rfl (ev e9) (Z.bx 1 rfl))
        · intro a e11 W Q Z; exact step_is (fun _ h => op_plain rfl rfl h) (run_move rfl (ev e11))
        · intro a x13 e14 x15 e16 W Q Z; exact step_is (fun _ h => op_plain rfl rfl h) (run_index rfl (ev e14) (ev e16) hlt)
        · intro a x18 e19 W Q Z; exact step_is (fun _ h => op_plain rfl rfl h) (run_loadU rfl (ev e19) ((Z.rd 0 rfl).cell hlt))
        · intro a e21 W Q Z; exact step_is (fun _ h => op_plain rfl rfl h) (run_field1 rfl (ev e21))
        · intro a x23 e24 W Q Z; exact step_is (fun _ h => op_plain rfl rfl h) (run_loadM rfl (ev e24) (Z.bx 0 rfl))
        · intro a e26 W Q Z; exact step_is (fun _ h => op_plain rfl rfl h) (run_move rfl (ev e26))
        · intro a x28 e29 x30 e31 W Q Z; exact step_is (fun _ h => op_plain rfl rfl h) (run_index rfl (ev e29) (ev e31) hlt2)
        · intro a x33 e34 W Q Z; exact step_is (fun _ h => op_plain rfl rfl h) (run_loadU rfl (ev e34) ((Z.rd 1 rfl).cell hlt2))
        · intro a x36 e37 x38 e39 W Q Z; exact step_is (fun _ h => op_plain rfl rfl h) (run_neqU rfl (ev e37) (ev e39))
        clear Z; intro x7 x10 x12 x17 x20 x22 x25 x27 x32 x35 x40 W Z
        (try simp only [Act.put, List.setIfInBounds_toArray, List.set_cons_zero, List.set_cons_succ])
        show Code.wp _ _ _ _ _
        refine wp_cond_split (t := decide ((l1.getD i 0) ≠ (l2.getD i 0))) rfl ?_ ?_
        · intro hc41
          refine wp_seq ?_
          refine wp_region_list ?_
          refine seq_is (v := .bool (false)) rfl (run_assign rfl rfl) ?_
          (try simp only [Act.put, List.setIfInBounds_toArray, List.set_cons_zero, List.set_cons_succ])
          show Code.wp _ _ _ _ _
          refine wp_ret ?_
          exact Z.endsV (u := .bool false) rfl rfl rfl (eq_no3 hc41)
        · intro hc41
          refine wp_skip ?_
          show Code.wp _ _ _ _ _
          refine wp_region_list ?_
          refine seq_is (v := .int .i64 ((i : Nat) : Int)) rfl (run_move rfl rfl) ?_
          (try simp only [Act.put, List.setIfInBounds_toArray, List.set_cons_zero, List.set_cons_succ])
          refine seq_is (v := .int .i64 (((i + 1 : Nat) : Int))) rfl (run_inc rfl rfl (by have := hlt; omega)) ?_
          (try simp only [Act.put, List.setIfInBounds_toArray, List.set_cons_zero, List.set_cons_succ])
          refine seq_is (v := .int .i64 (((i + 1 : Nat) : Int))) rfl (run_assign rfl rfl) ?_
          (try simp only [Act.put, List.setIfInBounds_toArray, List.set_cons_zero, List.set_cons_succ])
          exact ⟨i + 1, (show l1.length - (i + 1) < l1.length - i by have := hlt; omega), _, _, _, _, _, _, _, _, _, _, _, _, _, _, _, _, _, _, _, rfl, (Z.retype (has_cons (Z.has 0 rfl) (has_cons (Z.has 1 rfl) (Has.nil _ _)))), ⟨hlt, eq_more hI.2 hc41⟩⟩
      · intro hc5
        refine wp_exit ?_
        show Code.wp _ _ _ _ _
        refine wp_seq ?_
        refine wp_region_list ?_
        refine seq_is (v := .bool (true)) rfl (run_assign rfl rfl) ?_
        (try simp only [Act.put, List.setIfInBounds_toArray, List.set_cons_zero, List.set_cons_succ])
        show Code.wp _ _ _ _ _
        refine wp_ret ?_
        exact Z.endsV (u := .bool true) rfl rfl rfl (eq_yes hk3 hc4 hc5 hI)
end Go.Proofs.Ytmbmbmkmjbpcpaa.PA


/- What the bound of an Upto statement gives: the lengths of slices and texts that come in; no further condition. (Its first lemmas began as the given UptoLemmas.lean.) -/
namespace Go.Proofs.Ytmbmbmkmjbpcpaa.bulks
open Go.ChangeShapes Go.WideShapes Go.ChangeAt Go.RowKit
theorem one_le {H : Type} (d : DataW H) : 1 ≤ Rows.uptoBulk d := by
  cases d with
  | lit l => cases l <;> simp [Rows.uptoBulk]
  | nil => simp [Rows.uptoBulk]
  | ptr d => simp [Rows.uptoBulk]
  | slice elems spare => simp [Rows.uptoBulk]
  | agg parts => simp [Rows.uptoBulk]
  | iface t d => simp [Rows.uptoBulk]
  | map entries => simp [Rows.uptoBulk]
  | held h => simp [Rows.uptoBulk]
theorem part_le {H : Type} {d : DataW H} {l : List (DataW H)} (h : d ∈ l) : Rows.uptoBulk d ≤ Rows.uptoBulkAll l := by
  induction l with
  | nil => cases h
  | cons x r ih =>
    simp only [Rows.uptoBulkAll]
    cases List.mem_cons.1 h with
    | inl e => subst e; omega
    | inr e => have := ih e; omega
theorem length_le {H : Type} (l : List (DataW H)) : l.length ≤ Rows.uptoBulkAll l := by
  induction l with
  | nil => simp [Rows.uptoBulkAll]
  | cons x r ih => have := one_le x; simp only [Rows.uptoBulkAll, List.length_cons]; omega
theorem slice_le {H : Type} (elems spare : List (DataW H)) : elems.length + spare.length + 1 ≤ Rows.uptoBulk (.slice elems spare) := by
  have h1 := length_le elems
  have h2 := length_le spare
  simp only [Rows.uptoBulk]
  omega
theorem bound {H : Type} {l : List (DataW H)} (hk : Rows.uptoSmall H l = true) : Rows.uptoBulkAll l ≤ 1048576 := of_decide_eq_true hk
def IsRow (k : IntKind) (w : World) (a : Option Addr) (len cap : Nat) (zs : List Int) : Prop :=
  (a = none ∧ len = 0 ∧ cap = 0 ∧ zs = []) ∨
  ∃ x, a = some x ∧ len ≤ cap ∧ cap ≤ maxLen ∧ zs.length = cap ∧ (∀ i, i < zs.length → w.cell? (x.add i) = some (.int k (zs.getD i 0))) ∧ ∀ n ∈ zs, (Lit.int k n).wf = true
end Go.Proofs.Ytmbmbmkmjbpcpaa.bulks


/- What a row gives of an argument that is a whole number: its sign, its limbs, their bound; no further condition. -/
namespace Go.Proofs.Ytmbmbmkmjbpcpaa.bulks
open Go.ChangeShapes Go.WideShapes Go.ChangeAt Go.RowKit
theorem open_num {H : Type} {enc : TypeId × Value → H} {P : Program} {W : World} {r : Reach} {b0 : Nat} {held : Bool} {t e : TypeId} {f0 f1 : Field} {v : Value} {d : DataW H} {ps : List MemPlace}
    (hu : P.underlying t = some (.struct #[f0, f1])) (h0 : f0.offset = 0) (h1 : f1.offset = 1) (c0 : P.cellsOf f0.type = 1) (c1 : P.cellsOf f1.type = 1) (ct : P.cellsOf t = 2)
    (u0 : P.underlying f0.type = some .bool) (u1 : P.underlying f1.type = some (.slice e)) (he : P.underlying e = some (.int .u32)) (hc : P.cellsOf e = 1)
    (hval : Value.okWide P W r b0 t v) (h : DataW.Trod enc P W 0 (fun _ => true) held t v d ps) :
    ∃ (b : Bool) (a : Option Addr) (len cap : Nat) (zs : List Int), v = .agg #[.bool b, .slice a len cap] ∧ IsRow .u32 W a len cap zs ∧ len ≤ Rows.uptoBulk d := by
  obtain ⟨cs, rfl, hs⟩ := okWide_struct hu hval
  obtain ⟨fuel, hf⟩ := h
  obtain ⟨y0, y1, n, hx, hl, hp0, hp1⟩ := trod_struct2 hu hf
  rw [ct] at hs
  obtain ⟨x, y, rfl⟩ : ∃ x y, cs = #[x, y] := by
    obtain ⟨l⟩ := cs
    match l, hs with
    | [x, y], _ => exact ⟨x, y, rfl⟩
  have e0 : ((Value.cells (.agg #[x, y])).toList.drop f0.offset).take (P.cellsOf f0.type) = [x] := by rw [h0, c0]; rfl
  have e1 : ((Value.cells (.agg #[x, y])).toList.drop f1.offset).take (P.cellsOf f1.type) = [y] := by rw [h1, c1]; rfl
  rw [e0] at hp0
  rw [e1] at hp1
  obtain ⟨b, hb, -⟩ := DataW.trod_bool u0 hp0
  injection hb with hb
  subst hb
  obtain ⟨hd, -⟩ := Prod.mk.inj hx
  subst hd
  have hle : Rows.uptoBulk y1.1 ≤ Rows.uptoBulk (.agg [y0.1, y1.1]) := by
    simp [Rows.uptoBulk, Rows.uptoBulkAll]
    omega
  rcases open_ints u1 he hc hp1 with ⟨hcs, _⟩ | ⟨ad, len, cap, zs, hcs, _, hl2, hm, hz, hx2, hcell, hwz⟩
  · injection hcs with hcs
    subst hcs
    exact ⟨b, none, 0, 0, [], rfl, .inl ⟨rfl, rfl, rfl, rfl⟩, Nat.zero_le _⟩
  · injection hcs with hcs
    subst hcs
    refine ⟨b, some ad, len, cap, zs, rfl, .inr ⟨ad, rfl, hl2, hm, by simpa using hz, hcell, hwz⟩, Nat.le_trans ?_ hle⟩
    subst hx2
    have h3 := slice_le (H := H) (lits .u32 (zs.take len)) (lits .u32 (zs.drop len))
    have h4 : (lits (H := H) .u32 (zs.take len)).length + (lits (H := H) .u32 (zs.drop len)).length = zs.length := by
      simp [lits]
      omega
    have h5 : len ≤ zs.length := by
      have : zs.length = cap := by simpa using hz
      omega
    show len ≤ Rows.uptoBulk (.slice (lits .u32 (zs.take len)) (lits .u32 (zs.drop len)))
    omega
theorem num_small {H : Type} {d : DataW H} {ds : List (DataW H)} {len : Nat} (hk : Rows.uptoSmall H ds = true) (hd : d ∈ ds) (h : len ≤ Rows.uptoBulk d) : len ≤ 1048576 := by
  have h1 := part_le hd
  have h2 := bound hk
  omega
end Go.Proofs.Ytmbmbmkmjbpcpaa.bulks
namespace Go.Proofs.Ytmbmbmkmjbpcpaa.PA
open Go Go.Proofs.Ytmbmbmkmjbpcpaa.Nums Go.RowKit Go.Proofs.YtmbmbmkmjbpcpaaW.PrintWords Go.Proofs.YtmbmbmkmjbpcpaaW.PrintLast Go.Proofs.YtmbmbmkmjbpcpaaW.PrintMore
theorem row_rd {w : World} {a : Option Addr} {len cap : Nat} {z : List Int} (h : bulks.IsRow .u32 w a len cap z) (hb : len ≤ 1048576) : ∃ l, Rd w (.slice a len cap) l ∧ Ok l ∧ l.length ≤ 1048576 := by
  obtain ⟨l, rfl, hr, hm, hw, hc⟩ := ReadsInt.ofRowC h
  exact ⟨l, ⟨a, cap, rfl, hc, C_ints hr⟩, ok_of hw, hb⟩
/-- an argument's number -/
theorem arg_num {b : Bool} {l : List Int} (ho : Ok l) (hl : l.length ≤ 1048576) : ∃ z, (∀ (W : World) (v : Value), Rd W v l → NumV W b v z) ∧ Bd 33554432 z ∧ z = zof b (val l) := by
  refine ⟨zof b (val l), fun W v h => h.num ho (by omega), ?_, rfl⟩
  have h1 := bl_len ho hl
  have h2 := bl_lt (val l).toNat
  have h3 := val_nonneg ho
  refine Bd.zof ?_
  have h4 : Bd (bl (val l).toNat) (val l) := by
    unfold Bd
    rw [show (val l).natAbs = (val l).toNat by omega]
    exact h2
  exact h4.mono h1
theorem eqI_same {w : World} {v1 v2 : Value} {z1 z2 : Int} (m1 : Rd w v1 (mg z1)) (m2 : Rd w v2 (mg z2)) (hf : Fm ((z1.natAbs : Nat))) (hz : z1 = z2) : Calls Try.prog 16 #[.agg #[.bool (decide (z1 < 0)), v1], .agg #[.bool (decide (z2 < 0)), v2]] w (RetV w (.bool true)) := by
  subst hz
  have h := trammellaw02_eq.sem (b1 := decide (z1 < 0)) (b2 := decide (z1 < 0)) m1 m2 (by have : (mg z1).length ≤ 10000000 := hf; omega)
  simpa using h
end Go.Proofs.Ytmbmbmkmjbpcpaa.PA

