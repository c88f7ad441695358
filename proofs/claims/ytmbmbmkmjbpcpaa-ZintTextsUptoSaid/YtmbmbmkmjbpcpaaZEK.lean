/- More of single operations: 64-bit words, texts, a literal of two words. -/
import Derived.Outline
import Derived.Test.YtmbmbmkmjbpcpaaZDK
import Derived.Test.YtmbmbmkmjbpcpaaPAx0K
namespace Go.Proofs.Ytmbmbmkmjbpcpaa.PA
open Go Go.Proofs.Ytmbmbmkmjbpcpaa.Nums Go.RowKit Go.Proofs.YtmbmbmkmjbpcpaaW.PrintWords Go.Proofs.YtmbmbmkmjbpcpaaW.PrintLast Go.Proofs.YtmbmbmkmjbpcpaaW.PrintMore
section
variable {a : Act} {o : Oper} {W : World} {p q : Operand}
theorem run_addS {x y : ByteArray} (hs : x.size + y.size ≤ 9223372036854775807) (ho : o.op = .binOp .add 9 p q 9) (he : a.eval p = .string x) (he2 : a.eval q = .string y) : (execOp a.eval o).run Try.prog W = .ok (.value (.string (x ++ y))) W := by
  unfold execOp
  simp only [ho, he, he2]
  go_simp
  try exact hs
theorem run_neqS {x y : ByteArray} (h : x = y) (ho : o.op = .binOp .neq 9 p q 9) (he : a.eval p = .string x) (he2 : a.eval q = .string y) : (execOp a.eval o).run Try.prog W = .ok (.value (.bool false)) W := by
  subst h
  unfold execOp
  simp only [ho, he, he2]
  go_simp
end
theorem Zt.magL {w0 w : World} {ts : List (Value × (World → Value → Prop))} {bs : List (Nat × TypeId × Array Value)} {v : Value} {l : List Int} {x : Int} (Z : Zt w0 w ts bs) (i : Nat) (e : ts[i]? = some (v, tyO w0 l)) (ho : Ok l) (hl : l.length ≤ 10000000) (hx : val l = x) : MagV w v x := ⟨l, Rd.of_row (Z.row i e), ho, hl, hx⟩
end Go.Proofs.Ytmbmbmkmjbpcpaa.PA


/- The number of a machine word. -/
namespace Go.Proofs.Ytmbmbmkmjbpcpaa.PA
open Go Go.Proofs.Ytmbmbmkmjbpcpaa.Nums Go.RowKit Go.Proofs.YtmbmbmkmjbpcpaaW.PrintWords Go.Proofs.YtmbmbmkmjbpcpaaW.PrintLast Go.Proofs.YtmbmbmkmjbpcpaaW.PrintMore
set_option linter.unusedVariables false
set_option linter.unusedSimpArgs false
end Go.Proofs.Ytmbmbmkmjbpcpaa.PA


/- Walks of Text, Root and alive. -/
namespace Go.Proofs.Ytmbmbmkmjbpcpaa.PA
open Go Go.Proofs.Ytmbmbmkmjbpcpaa.Nums Go.RowKit Go.Proofs.YtmbmbmkmjbpcpaaW.PrintWords Go.Proofs.YtmbmbmkmjbpcpaaW.PrintLast Go.Proofs.YtmbmbmkmjbpcpaaW.PrintMore
set_option linter.unusedVariables false
set_option linter.unusedSimpArgs false
/-- a number's text -/
def textZ (z : Int) : ByteArray := if z < 0 then ⟨#[45]⟩ ++ textOf ((z.natAbs : Nat) : Int) else textOf ((z.natAbs : Nat) : Int)
theorem textOf_size {x : Int} (h0 : 0 ≤ x) {L : Nat} (h : x < Bp L) : (textOf x).size ≤ 10 * L + 1 := by
  unfold textOf
  split
  · show 1 ≤ 10 * L + 1
    omega
  · rw [str_size, List.length_reverse]
    have := digs_small h0 h
    omega
theorem NumV.below_Bp {w : World} {b : Bool} {v : Value} {z : Int} (h : NumV w b v z) : ((z.natAbs : Nat) : Int) < Bp 10000000 := by
  have h1 := h.fit
  have h2 := val_lt (lm_ok ((z.natAbs : Nat) : Int))
  rw [lm_val (by omega)] at h2
  exact Int.lt_of_lt_of_le h2 (Bp_le h1)
theorem text_size {w : World} {b : Bool} {v : Value} {z : Int} (h : NumV w b v z) : (⟨#[45]⟩ : ByteArray).size + (textOf ((z.natAbs : Nat) : Int)).size ≤ 9223372036854775807 := by
  have := textOf_size (by omega) h.below_Bp
  show 1 + _ ≤ _
  omega
theorem sign_neg {z : Int} (h : decide (z.sign < 0) = true) : z < 0 := by
  have h := of_decide_eq_true h
  rcases Int.lt_trichotomy z 0 with h1 | h1 | h1
  · exact h1
  · subst h1; simp at h
  · rw [Int.sign_eq_one_of_pos h1] at h; omega
theorem sign_nn {z : Int} (h : decide (z.sign < 0) = false) : ¬ z < 0 := by
  have h := of_decide_eq_false h
  intro h1
  rw [Int.sign_eq_neg_one_of_neg h1] at h
  exact h (by decide)
set_option maxHeartbeats 4000000 in
set_option maxRecDepth 100000 in
theorem zint_Text.sem {w : World} {b1 : Bool} {v1 : Value} {z1 : Int} (m1 : NumV w b1 v1 z1) : Calls Try.prog 40 #[.agg #[.bool b1, v1]] w (RetV w (.string (textZ z1))) := by
  obtain ⟨A1, n1, c1, rfl⟩ := m1.form
  have Z := Zt.begin1 m1
  go_enter Try.func40, Try.ntmps40
  refine wp_seq ?_
  refine wp_region_list ?_
  refine seq_box Z rfl rfl rfl ?_; clear Z; intro g1 W Z
  (try simp only [Act.put, List.setIfInBounds_toArray, List.set_cons_zero, List.set_cons_succ])
  refine seq_is (v := .string (⟨#[]⟩ : ByteArray)) rfl (run_assign rfl rfl) ?_
  (try simp only [Act.put, List.setIfInBounds_toArray, List.set_cons_zero, List.set_cons_succ])
  show Code.wp _ _ _ _ _
  refine wp_seq ?_
  refine wp_seq ?_
  refine wp_region_list ?_
  refine seq_is (v := .agg #[.bool (b1), .slice A1 n1 c1]) rfl (run_load2 rfl rfl (Z.bx 0 rfl)) ?_
  (try simp only [Act.put, List.setIfInBounds_toArray, List.set_cons_zero, List.set_cons_succ])
  refine seq_call Z rfl rfl Try.func36 rfl rfl (args1 rfl) (Z.callV (zint_Sign.sem (Z.num 0 rfl)  )) ?_; clear Z; intro x2 W Z
  (try simp only [Act.put, List.setIfInBounds_toArray, List.set_cons_zero, List.set_cons_succ])
  refine seq_is (v := .bool (decide (((z1).sign) < (0)))) rfl (run_lss rfl rfl rfl) ?_
  (try simp only [Act.put, List.setIfInBounds_toArray, List.set_cons_zero, List.set_cons_succ])
  show Code.wp _ _ _ _ _
  refine wp_cond_split (t := decide (((z1).sign) < (0))) rfl ?_ ?_
  · intro hc3
    refine wp_seq ?_
    refine wp_region_list ?_
    refine seq_is (v := .pointer (some ⟨g1, 1, none⟩)) rfl (run_field1 rfl rfl) ?_
    (try simp only [Act.put, List.setIfInBounds_toArray, List.set_cons_zero, List.set_cons_succ])
    refine seq_is (v := .slice A1 n1 c1) rfl (run_loadM rfl rfl (Z.bx 0 rfl)) ?_
    (try simp only [Act.put, List.setIfInBounds_toArray, List.set_cons_zero, List.set_cons_succ])
    refine seq_call Z rfl rfl Try.func82 rfl rfl (args1 rfl) (Z.callV (nat_Text.sem (Z.num 0 rfl).mag)) ?_; clear Z; intro x4 W Z
    (try simp only [Act.put, List.setIfInBounds_toArray, List.set_cons_zero, List.set_cons_succ])
    refine seq_is (v := .string ((⟨#[45]⟩ : ByteArray) ++ textOf (((z1).natAbs : Nat)))) rfl (run_addS (text_size m1) rfl rfl rfl) ?_
    (try simp only [Act.put, List.setIfInBounds_toArray, List.set_cons_zero, List.set_cons_succ])
    refine seq_is (v := .string ((⟨#[45]⟩ : ByteArray) ++ textOf (((z1).natAbs : Nat)))) rfl (run_assign rfl rfl) ?_
    (try simp only [Act.put, List.setIfInBounds_toArray, List.set_cons_zero, List.set_cons_succ])
    show Code.wp _ _ _ _ _
    refine wp_ret ?_
    exact Z.endsV (u := .string ((⟨#[45]⟩ : ByteArray) ++ textOf (((z1).natAbs : Nat)))) rfl rfl rfl (by unfold textZ; rw [if_pos (sign_neg hc3)])
  · intro hc3
    refine wp_skip ?_
    show Code.wp _ _ _ _ _
    refine wp_seq ?_
    refine wp_region_list ?_
    refine seq_is (v := .pointer (some ⟨g1, 1, none⟩)) rfl (run_field1 rfl rfl) ?_
    (try simp only [Act.put, List.setIfInBounds_toArray, List.set_cons_zero, List.set_cons_succ])
    refine seq_is (v := .slice A1 n1 c1) rfl (run_loadM rfl rfl (Z.bx 0 rfl)) ?_
    (try simp only [Act.put, List.setIfInBounds_toArray, List.set_cons_zero, List.set_cons_succ])
    refine seq_call Z rfl rfl Try.func82 rfl rfl (args1 rfl) (Z.callV (nat_Text.sem (Z.num 0 rfl).mag)) ?_; clear Z; intro x5 W Z
    (try simp only [Act.put, List.setIfInBounds_toArray, List.set_cons_zero, List.set_cons_succ])
    refine seq_is (v := .string (textOf (((z1).natAbs : Nat)))) rfl (run_assign rfl rfl) ?_
    (try simp only [Act.put, List.setIfInBounds_toArray, List.set_cons_zero, List.set_cons_succ])
    show Code.wp _ _ _ _ _
    refine wp_ret ?_
    exact Z.endsV (u := .string (textOf (((z1).natAbs : Nat)))) rfl rfl rfl (by unfold textZ; rw [if_neg (sign_nn hc3)])
set_option maxHeartbeats 4000000 in
set_option maxRecDepth 100000 in
theorem trammelref02_Text.sem {w : World} {b1 : Bool} {v1 : Value} {z1 : Int} (m1 : NumV w b1 v1 z1) (hf0 : Fm ((((z1)).natAbs : Nat))) : Calls Try.prog 41 #[.agg #[.bool b1, v1]] w (RetV w (.string (textZ z1))) := by
  obtain ⟨A1, n1, c1, rfl⟩ := m1.form
  have Z := Zt.begin1 m1
  go_enter Try.func41, Try.ntmps41
  refine wp_seq ?_
  refine wp_region_list ?_
  refine seq_box Z rfl rfl rfl ?_; clear Z; intro g1 W Z
  (try simp only [Act.put, List.setIfInBounds_toArray, List.set_cons_zero, List.set_cons_succ])
  refine seq_is (v := .string (⟨#[]⟩ : ByteArray)) rfl (run_assign rfl rfl) ?_
  (try simp only [Act.put, List.setIfInBounds_toArray, List.set_cons_zero, List.set_cons_succ])
  show Code.wp _ _ _ _ _
  refine wp_seq ?_
  refine wp_region_list ?_
  refine seq_is (v := .pointer (some ⟨g1, 1, none⟩)) rfl (run_field1 rfl rfl) ?_
  (try simp only [Act.put, List.setIfInBounds_toArray, List.set_cons_zero, List.set_cons_succ])
  refine seq_is (v := .slice A1 n1 c1) rfl (run_loadM rfl rfl (Z.bx 0 rfl)) ?_
  (try simp only [Act.put, List.setIfInBounds_toArray, List.set_cons_zero, List.set_cons_succ])
  refine seq_call Z rfl rfl Try.func83 rfl rfl (args1 rfl) (Z.callV (trammelref01_Text.sem (Z.num 0 rfl).mag)) ?_; clear Z; intro x2 W Z
  (try simp only [Act.put, List.setIfInBounds_toArray, List.set_cons_zero, List.set_cons_succ])
  refine seq_is (v := .string (textOf (((z1).natAbs : Nat)))) rfl (run_assign rfl rfl) ?_
  (try simp only [Act.put, List.setIfInBounds_toArray, List.set_cons_zero, List.set_cons_succ])
  show Code.wp _ _ _ _ _
  refine wp_seq ?_
  refine wp_seq ?_
  refine wp_region_list ?_
  refine seq_is (v := .agg #[.bool (b1), .slice A1 n1 c1]) rfl (run_load2 rfl rfl (Z.bx 0 rfl)) ?_
  (try simp only [Act.put, List.setIfInBounds_toArray, List.set_cons_zero, List.set_cons_succ])
  refine seq_call Z rfl rfl Try.func37 rfl rfl (args1 rfl) (Z.callV (trammelref02_Sign.sem (Z.num 0 rfl) hf0 )) ?_; clear Z; intro x3 W Z
  (try simp only [Act.put, List.setIfInBounds_toArray, List.set_cons_zero, List.set_cons_succ])
  refine seq_is (v := .bool (decide (((z1).sign) < (0)))) rfl (run_lss rfl rfl rfl) ?_
  (try simp only [Act.put, List.setIfInBounds_toArray, List.set_cons_zero, List.set_cons_succ])
  show Code.wp _ _ _ _ _
  refine wp_cond_split (t := decide (((z1).sign) < (0))) rfl ?_ ?_
  · intro hc4
    refine wp_seq ?_
    refine wp_region_list ?_
    refine seq_is (v := .string (textOf (((z1).natAbs : Nat)))) rfl (run_move rfl rfl) ?_
    (try simp only [Act.put, List.setIfInBounds_toArray, List.set_cons_zero, List.set_cons_succ])
    refine seq_is (v := .string ((⟨#[45]⟩ : ByteArray) ++ textOf (((z1).natAbs : Nat)))) rfl (run_addS (text_size m1) rfl rfl rfl) ?_
    (try simp only [Act.put, List.setIfInBounds_toArray, List.set_cons_zero, List.set_cons_succ])
    refine seq_is (v := .string ((⟨#[45]⟩ : ByteArray) ++ textOf (((z1).natAbs : Nat)))) rfl (run_assign rfl rfl) ?_
    (try simp only [Act.put, List.setIfInBounds_toArray, List.set_cons_zero, List.set_cons_succ])
    show Code.wp _ _ _ _ _
    refine wp_ret ?_
    exact Z.endsV (u := .string ((⟨#[45]⟩ : ByteArray) ++ textOf (((z1).natAbs : Nat)))) rfl rfl rfl (by unfold textZ; rw [if_pos (sign_neg hc4)])
  · intro hc4
    refine wp_skip ?_
    show Code.wp _ _ _ _ _
    refine wp_seq ?_
    refine wp_region_list ?_
    refine seq_is (v := .string (textOf (((z1).natAbs : Nat)))) rfl (run_move rfl rfl) ?_
    (try simp only [Act.put, List.setIfInBounds_toArray, List.set_cons_zero, List.set_cons_succ])
    refine seq_is (v := .string (textOf (((z1).natAbs : Nat)))) rfl (run_assign rfl rfl) ?_
    (try simp only [Act.put, List.setIfInBounds_toArray, List.set_cons_zero, List.set_cons_succ])
    show Code.wp _ _ _ _ _
    refine wp_ret ?_
    exact Z.endsV (u := .string (textOf (((z1).natAbs : Nat)))) rfl rfl rfl (by unfold textZ; rw [if_neg (sign_nn hc4)])
end Go.Proofs.Ytmbmbmkmjbpcpaa.PA

