/- More of single operations: 64-bit words, texts, a literal of two words. -/
import Derived.Outline
import Derived.Test.YtmbmbmkmjbpcpaaZDK
import Derived.Test.YtmbmbmkmjbpcpaaPAx0K
namespace Go.Proofs.Ytmbmbmkmjbpcpaa.PA
open Go Go.Proofs.Ytmbmbmkmjbpcpaa.Nums Go.RowKit Go.Proofs.YtmbmbmkmjbpcpaaW.PrintWords Go.Proofs.YtmbmbmkmjbpcpaaW.PrintLast Go.Proofs.YtmbmbmkmjbpcpaaW.PrintMore
section
variable {a : Act} {o : Oper} {W : World} {p q : Operand}
theorem run_convU {x : Int} (ho : o.op = .convert 2 50 p) (he : a.eval p = .int .i64 x) : (execOp a.eval o).run Try.prog W = .ok (.value (.int .u64 (IntKind.u64.wrap x))) W := by
  unfold execOp
  simp only [ho, he]
  go_simp
theorem run_convW {x : Int} (ho : o.op = .convert 50 68 p) (he : a.eval p = .int .u64 x) : (execOp a.eval o).run Try.prog W = .ok (.value (.int .u32 (IntKind.u32.wrap x))) W := by
  unfold execOp
  simp only [ho, he]
  go_simp
theorem run_negU {x : Int} (ho : o.op = .unOp .neg 50 p) (he : a.eval p = .int .u64 x) : (execOp a.eval o).run Try.prog W = .ok (.value (.int .u64 (IntKind.u64.wrap (-x)))) W := by
  unfold execOp
  simp only [ho, he]
  go_simp
theorem run_shrU {x : Int} (ho : o.op = .binOp .shr 50 p (.const (.int .u64 32)) 77) (he : a.eval p = .int .u64 x) : (execOp a.eval o).run Try.prog W = .ok (.value (.int .u64 (x / 4294967296))) W := by
  have e2 : a.eval (.const (.int .u64 32)) = .int .u64 32 := rfl
  unfold execOp
  simp only [ho, he, e2]
  go_simp
theorem run_lssL {x y : Int} (ho : o.op = .binOp .lss 2 p q 2) (he : a.eval p = .int .i64 x) (he2 : a.eval q = .int .i64 y) : (execOp a.eval o).run Try.prog W = .ok (.value (.bool (decide (x < y)))) W := by
  unfold execOp
  simp only [ho, he, he2]
  go_simp
theorem run_addS {x y : ByteArray} (hs : x.size + y.size ≤ 9223372036854775807) (ho : o.op = .binOp .add 9 p q 9) (he : a.eval p = .string x) (he2 : a.eval q = .string y) : (execOp a.eval o).run Try.prog W = .ok (.value (.string (x ++ y))) W := by
  unfold execOp
  simp only [ho, he, he2]
  go_simp
  try exact hs
theorem run_eqlS {x y : ByteArray} (h : x = y) (ho : o.op = .binOp .eql 9 p q 9) (he : a.eval p = .string x) (he2 : a.eval q = .string y) : (execOp a.eval o).run Try.prog W = .ok (.value (.bool true)) W := by
  subst h
  unfold execOp
  simp only [ho, he, he2]
  go_simp
theorem run_convU' {x y : Int} (h : IntKind.u64.wrap x = y) (ho : o.op = .convert 2 50 p) (he : a.eval p = .int .i64 x) : (execOp a.eval o).run Try.prog W = .ok (.value (.int .u64 y)) W := by
  subst h
  exact run_convU ho he
theorem run_convW' {x y : Int} (h : IntKind.u32.wrap x = y) (ho : o.op = .convert 50 68 p) (he : a.eval p = .int .u64 x) : (execOp a.eval o).run Try.prog W = .ok (.value (.int .u32 y)) W := by
  subst h
  exact run_convW ho he
theorem run_negU' {x y : Int} (h : IntKind.u64.wrap (-x) = y) (ho : o.op = .unOp .neg 50 p) (he : a.eval p = .int .u64 x) : (execOp a.eval o).run Try.prog W = .ok (.value (.int .u64 y)) W := by
  subst h
  exact run_negU ho he
end
theorem seq_pair {w0 W : World} {ts : List (Value × (World → Value → Prop))} {bs : List (Nat × TypeId × Array Value)} {a : Act} {o : Oper} {ops : Array Oper} {r : List Oper} {Q : Exit → Act → World → Prop} {p q : Operand} {N : Tmp} (Z : Zt w0 W ts bs) {x y : Int} (hg : o.guard = none) (hd : o.dst = some N) (ho : o.op = .buildSlice 23 2 #[(0, p), (1, q)]) (he : a.eval p = .int .u32 x) (he2 : a.eval q = .int .u32 y)
    (hk : ∀ s : Sl, ∀ W', Zt w0 W' ((s.v, tyO w0 [x, y]) :: ts) bs → wpList Try.prog ops Q r (a.put o.dst s.v) W') : wpList Try.prog ops Q (o :: r) a W := by
  refine Kd.R_lit (Kd.int .u32) (w0 := W) W.heap.size 68 hg (N := N) hd (xs := ([x, y] : List Int)) (inner := [.int .u32 x, .int .u32 y]) (ok := fun _ => True) (okp := fun _ => True) ?_ ?_ (fun _ hk => hk) trivial (Below.refl _ _) (Nat.le_refl _) (by simp) ?_
  · unfold execOp
    simp only [ho, List.map_toArray, List.map_cons, List.map_nil, he, he2]
    first | (go_simp; done) | (go_simp; rfl)
  · exact (Reps.one (show Kd.M (Kd.int .u32) _ _ _ x [.int .u32 x] from rfl) (Reps.one (show Kd.M (Kd.int .u32) _ _ _ y [.int .u32 y] from rfl) (Reps.none _ _)))
  intro v3 W3 ho3 hb3 hg3 hnew3
  obtain ⟨A3, c3, rfl⟩ := Kd.R_slice ho3
  exact hk ⟨A3, _, c3⟩ W3 ((Z.step hb3).more (has_row ho3 Z.below.size))
theorem Zt.magL {w0 w : World} {ts : List (Value × (World → Value → Prop))} {bs : List (Nat × TypeId × Array Value)} {v : Value} {l : List Int} {x : Int} (Z : Zt w0 w ts bs) (i : Nat) (e : ts[i]? = some (v, tyO w0 l)) (ho : Ok l) (hl : l.length ≤ 10000000) (hx : val l = x) : MagV w v x := ⟨l, Rd.of_row (Z.row i e), ho, hl, hx⟩
theorem ok_pair {U : Int} (h0 : 0 ≤ U) (h1 : U < 18446744073709551616) : Ok [U % 4294967296, U / 4294967296] ∧ val [U % 4294967296, U / 4294967296] = U := by
  constructor
  · intro x hx
    rcases List.mem_cons.mp hx with rfl | hx
    · omega
    · rcases List.mem_singleton.mp hx with rfl
      omega
  · simp [val]
    omega
end Go.Proofs.Ytmbmbmkmjbpcpaa.PA


/- The number of a machine word. -/
namespace Go.Proofs.Ytmbmbmkmjbpcpaa.PA
open Go Go.Proofs.Ytmbmbmkmjbpcpaa.Nums Go.RowKit Go.Proofs.YtmbmbmkmjbpcpaaW.PrintWords Go.Proofs.YtmbmbmkmjbpcpaaW.PrintLast Go.Proofs.YtmbmbmkmjbpcpaaW.PrintMore
set_option linter.unusedVariables false
set_option linter.unusedSimpArgs false
set_option maxHeartbeats 4000000 in
set_option maxRecDepth 100000 in
theorem zint_Of.sem {w : World} {a1 : Int} (h1 : -9223372036854775808 ≤ a1) (h2 : a1 ≤ 9223372036854775807) : Calls Try.prog 30 #[.int .i64 a1] w (ResI w a1) := by
  have Z := Zt.start w (Has.nil w w)
  rcases Bool.eq_false_or_eq_true (decide ((a1) < (0))) with hn | hn
  · have hn' := of_decide_eq_true hn
    have hU1 : IntKind.u64.wrap a1 = a1 + 18446744073709551616 := by rw [u64_def]; omega
    have hU2 : IntKind.u64.wrap (-(a1 + 18446744073709551616)) = -a1 := by rw [u64_def]; omega
    have hlo : IntKind.u32.wrap (-a1) = (-a1) % 4294967296 := by rw [IntKind.wrap_u32]
    have hhi : IntKind.u32.wrap ((-a1) / 4294967296) = (-a1) / 4294967296 := by rw [IntKind.wrap_u32]; omega
    have hok := ok_pair (U := -a1) (by omega) (by omega)
    go_enter Try.func30, Try.ntmps30
    refine wp_seq ?_
    refine wp_region_list ?_
    refine seq_alloc Z rfl rfl ?_; clear Z; intro g1 W Z
    (try simp only [Act.put, List.setIfInBounds_toArray, List.set_cons_zero, List.set_cons_succ])
    show Code.wp _ _ _ _ _
    refine wp_seq ?_
    refine wp_region_list ?_
    refine seq_is (v := .int .i64 a1) rfl (run_move rfl rfl) ?_
    (try simp only [Act.put, List.setIfInBounds_toArray, List.set_cons_zero, List.set_cons_succ])
    refine seq_is (v := .int .u64 (a1 + 18446744073709551616)) rfl (run_convU' hU1 rfl rfl) ?_
    (try simp only [Act.put, List.setIfInBounds_toArray, List.set_cons_zero, List.set_cons_succ])
    refine seq_is (v := .int .u64 (a1 + 18446744073709551616)) rfl (run_assign rfl rfl) ?_
    (try simp only [Act.put, List.setIfInBounds_toArray, List.set_cons_zero, List.set_cons_succ])
    show Code.wp _ _ _ _ _
    refine wp_seq ?_
    refine wp_seq ?_
    refine wp_region_list ?_
    refine seq_is (v := .int .i64 a1) rfl (run_move rfl rfl) ?_
    (try simp only [Act.put, List.setIfInBounds_toArray, List.set_cons_zero, List.set_cons_succ])
    refine seq_is (v := .bool (decide ((a1) < (0)))) rfl (run_lssL rfl rfl rfl) ?_
    (try simp only [Act.put, List.setIfInBounds_toArray, List.set_cons_zero, List.set_cons_succ])
    show Code.wp _ _ _ _ _
    refine wp_cond_true ((show _ = Value.bool (decide ((a1) < (0))) from rfl).trans (congrArg Value.bool hn)) ?_
    refine wp_region_list ?_
    refine seq_is (v := .int .u64 (a1 + 18446744073709551616)) rfl (run_move rfl rfl) ?_
    (try simp only [Act.put, List.setIfInBounds_toArray, List.set_cons_zero, List.set_cons_succ])
    refine seq_is (v := .int .u64 (-a1)) rfl (run_negU' hU2 rfl rfl) ?_
    (try simp only [Act.put, List.setIfInBounds_toArray, List.set_cons_zero, List.set_cons_succ])
    refine seq_is (v := .int .u64 (-a1)) rfl (run_assign rfl rfl) ?_
    (try simp only [Act.put, List.setIfInBounds_toArray, List.set_cons_zero, List.set_cons_succ])
    show Code.wp _ _ _ _ _
    refine wp_seq ?_
    refine wp_region_list ?_
    refine seq_is (v := .int .i64 a1) rfl (run_move rfl rfl) ?_
    (try simp only [Act.put, List.setIfInBounds_toArray, List.set_cons_zero, List.set_cons_succ])
    refine seq_is (v := .bool (decide ((a1) < (0)))) rfl (run_lssL rfl rfl rfl) ?_
    (try simp only [Act.put, List.setIfInBounds_toArray, List.set_cons_zero, List.set_cons_succ])
    refine seq_is (v := .int .u64 (-a1)) rfl (run_move rfl rfl) ?_
    (try simp only [Act.put, List.setIfInBounds_toArray, List.set_cons_zero, List.set_cons_succ])
    refine seq_is (v := .int .u32 ((-a1) % 4294967296)) rfl (run_convW' hlo rfl rfl) ?_
    (try simp only [Act.put, List.setIfInBounds_toArray, List.set_cons_zero, List.set_cons_succ])
    refine seq_is (v := .int .u64 (-a1)) rfl (run_move rfl rfl) ?_
    (try simp only [Act.put, List.setIfInBounds_toArray, List.set_cons_zero, List.set_cons_succ])
    refine seq_is (v := .int .u64 ((-a1) / 4294967296)) rfl (run_shrU rfl rfl) ?_
    (try simp only [Act.put, List.setIfInBounds_toArray, List.set_cons_zero, List.set_cons_succ])
    refine seq_is (v := .int .u32 ((-a1) / 4294967296)) rfl (run_convW' hhi rfl rfl) ?_
    (try simp only [Act.put, List.setIfInBounds_toArray, List.set_cons_zero, List.set_cons_succ])
    refine seq_pair Z rfl rfl rfl rfl rfl ?_; clear Z; intro x2 W Z
    (try simp only [Act.put, List.setIfInBounds_toArray, List.set_cons_zero, List.set_cons_succ])
    refine seq_call Z rfl rfl Try.func69 rfl rfl (args2 rfl rfl) (Z.callI (zint_made.res (Z.magL 0 rfl hok.1 (by simp) hok.2))) ?_; clear Z; intro x3 W Z
    (try simp only [Act.put, List.setIfInBounds_toArray, List.set_cons_zero, List.set_cons_succ])
    refine seq_store Z 0 rfl rfl rfl rfl rfl ?_; clear Z; intro W Z
    (try simp only [Act.put, List.setIfInBounds_toArray, List.set_cons_zero, List.set_cons_succ])
    show Code.wp _ _ _ _ _
    refine wp_ret ?_
    exact Z.ends1 0 0 rfl rfl rfl rfl rfl (by rw [hn]; unfold zof; simp)
  · have hn' := of_decide_eq_false hn
    have hU1 : IntKind.u64.wrap a1 = a1 := by rw [u64_def]; omega
    have hlo : IntKind.u32.wrap (a1) = (a1) % 4294967296 := by rw [IntKind.wrap_u32]
    have hhi : IntKind.u32.wrap ((a1) / 4294967296) = (a1) / 4294967296 := by rw [IntKind.wrap_u32]; omega
    have hok := ok_pair (U := a1) (by omega) (by omega)
    go_enter Try.func30, Try.ntmps30
    refine wp_seq ?_
    refine wp_region_list ?_
    refine seq_alloc Z rfl rfl ?_; clear Z; intro g1 W Z
    (try simp only [Act.put, List.setIfInBounds_toArray, List.set_cons_zero, List.set_cons_succ])
    show Code.wp _ _ _ _ _
    refine wp_seq ?_
    refine wp_region_list ?_
    refine seq_is (v := .int .i64 a1) rfl (run_move rfl rfl) ?_
    (try simp only [Act.put, List.setIfInBounds_toArray, List.set_cons_zero, List.set_cons_succ])
    refine seq_is (v := .int .u64 (a1)) rfl (run_convU' hU1 rfl rfl) ?_
    (try simp only [Act.put, List.setIfInBounds_toArray, List.set_cons_zero, List.set_cons_succ])
    refine seq_is (v := .int .u64 (a1)) rfl (run_assign rfl rfl) ?_
    (try simp only [Act.put, List.setIfInBounds_toArray, List.set_cons_zero, List.set_cons_succ])
    show Code.wp _ _ _ _ _
    refine wp_seq ?_
    refine wp_seq ?_
    refine wp_region_list ?_
    refine seq_is (v := .int .i64 a1) rfl (run_move rfl rfl) ?_
    (try simp only [Act.put, List.setIfInBounds_toArray, List.set_cons_zero, List.set_cons_succ])
    refine seq_is (v := .bool (decide ((a1) < (0)))) rfl (run_lssL rfl rfl rfl) ?_
    (try simp only [Act.put, List.setIfInBounds_toArray, List.set_cons_zero, List.set_cons_succ])
    show Code.wp _ _ _ _ _
    refine wp_cond_false ((show _ = Value.bool (decide ((a1) < (0))) from rfl).trans (congrArg Value.bool hn)) ?_
    refine wp_skip ?_
    show Code.wp _ _ _ _ _
    refine wp_seq ?_
    refine wp_region_list ?_
    refine seq_is (v := .int .i64 a1) rfl (run_move rfl rfl) ?_
    (try simp only [Act.put, List.setIfInBounds_toArray, List.set_cons_zero, List.set_cons_succ])
    refine seq_is (v := .bool (decide ((a1) < (0)))) rfl (run_lssL rfl rfl rfl) ?_
    (try simp only [Act.put, List.setIfInBounds_toArray, List.set_cons_zero, List.set_cons_succ])
    refine seq_is (v := .int .u64 (a1)) rfl (run_move rfl rfl) ?_
    (try simp only [Act.put, List.setIfInBounds_toArray, List.set_cons_zero, List.set_cons_succ])
    refine seq_is (v := .int .u32 ((a1) % 4294967296)) rfl (run_convW' hlo rfl rfl) ?_
    (try simp only [Act.put, List.setIfInBounds_toArray, List.set_cons_zero, List.set_cons_succ])
    refine seq_is (v := .int .u64 (a1)) rfl (run_move rfl rfl) ?_
    (try simp only [Act.put, List.setIfInBounds_toArray, List.set_cons_zero, List.set_cons_succ])
    refine seq_is (v := .int .u64 ((a1) / 4294967296)) rfl (run_shrU rfl rfl) ?_
    (try simp only [Act.put, List.setIfInBounds_toArray, List.set_cons_zero, List.set_cons_succ])
    refine seq_is (v := .int .u32 ((a1) / 4294967296)) rfl (run_convW' hhi rfl rfl) ?_
    (try simp only [Act.put, List.setIfInBounds_toArray, List.set_cons_zero, List.set_cons_succ])
    refine seq_pair Z rfl rfl rfl rfl rfl ?_; clear Z; intro x2 W Z
    (try simp only [Act.put, List.setIfInBounds_toArray, List.set_cons_zero, List.set_cons_succ])
    refine seq_call Z rfl rfl Try.func69 rfl rfl (args2 rfl rfl) (Z.callI (zint_made.res (Z.magL 0 rfl hok.1 (by simp) hok.2))) ?_; clear Z; intro x3 W Z
    (try simp only [Act.put, List.setIfInBounds_toArray, List.set_cons_zero, List.set_cons_succ])
    refine seq_store Z 0 rfl rfl rfl rfl rfl ?_; clear Z; intro W Z
    (try simp only [Act.put, List.setIfInBounds_toArray, List.set_cons_zero, List.set_cons_succ])
    show Code.wp _ _ _ _ _
    refine wp_ret ?_
    exact Z.ends1 0 0 rfl rfl rfl rfl rfl (by rw [hn]; unfold zof; simp)
end Go.Proofs.Ytmbmbmkmjbpcpaa.PA


/- Walks of Text, Root and alive. -/
namespace Go.Proofs.Ytmbmbmkmjbpcpaa.PA
open Go Go.Proofs.Ytmbmbmkmjbpcpaa.Nums Go.RowKit Go.Proofs.YtmbmbmkmjbpcpaaW.PrintWords Go.Proofs.YtmbmbmkmjbpcpaaW.PrintLast Go.Proofs.YtmbmbmkmjbpcpaaW.PrintMore
set_option linter.unusedVariables false
set_option linter.unusedSimpArgs false
/-- a number's text -/
def textZ (z : Int) : ByteArray := if z < 0 then ⟨#[45]⟩ ++ textOf ((z.natAbs : Nat) : Int) else textOf ((z.natAbs : Nat) : Int)
theorem textOf_size {x : Int} (h0 : 0 ≤ x) {L : Nat} (h : x < Bp L) : (textOf x).size ≤ 10 * L + 1 := by
  unfold textOf
  split
  · show 1 ≤ 10 * L + 1
    omega
  · rw [str_size, List.length_reverse]
    have := digs_small h0 h
    omega
theorem NumV.below_Bp {w : World} {b : Bool} {v : Value} {z : Int} (h : NumV w b v z) : ((z.natAbs : Nat) : Int) < Bp 10000000 := by
  have h1 := h.fit
  have h2 := val_lt (lm_ok ((z.natAbs : Nat) : Int))
  rw [lm_val (by omega)] at h2
  exact Int.lt_of_lt_of_le h2 (Bp_le h1)
theorem text_size {w : World} {b : Bool} {v : Value} {z : Int} (h : NumV w b v z) : (⟨#[45]⟩ : ByteArray).size + (textOf ((z.natAbs : Nat) : Int)).size ≤ 9223372036854775807 := by
  have := textOf_size (by omega) h.below_Bp
  show 1 + _ ≤ _
  omega
theorem sign_neg {z : Int} (h : decide (z.sign < 0) = true) : z < 0 := by
  have h := of_decide_eq_true h
  rcases Int.lt_trichotomy z 0 with h1 | h1 | h1
  · exact h1
  · subst h1; simp at h
  · rw [Int.sign_eq_one_of_pos h1] at h; omega
theorem sign_nn {z : Int} (h : decide (z.sign < 0) = false) : ¬ z < 0 := by
  have h := of_decide_eq_false h
  intro h1
  rw [Int.sign_eq_neg_one_of_neg h1] at h
  exact h (by decide)
set_option maxHeartbeats 4000000 in
set_option maxRecDepth 100000 in
theorem zint_Text.sem {w : World} {b1 : Bool} {v1 : Value} {z1 : Int} (m1 : NumV w b1 v1 z1) : Calls Try.prog 40 #[.agg #[.bool b1, v1]] w (RetV w (.string (textZ z1))) := by
  obtain ⟨A1, n1, c1, rfl⟩ := m1.form
  have Z := Zt.begin1 m1
  go_enter Try.func40, Try.ntmps40
  refine wp_seq ?_
  refine wp_region_list ?_
  refine seq_box Z rfl rfl rfl ?_; clear Z; intro g1 W Z
  (try simp only [Act.put, List.setIfInBounds_toArray, List.set_cons_zero, List.set_cons_succ])
  refine seq_is (v := .string (⟨#[]⟩ : ByteArray)) rfl (run_assign rfl rfl) ?_
  (try simp only [Act.put, List.setIfInBounds_toArray, List.set_cons_zero, List.set_cons_succ])
  show Code.wp _ _ _ _ _
  refine wp_seq ?_
  refine wp_seq ?_
  refine wp_region_list ?_
  refine seq_is (v := .agg #[.bool (b1), .slice A1 n1 c1]) rfl (run_load2 rfl rfl (Z.bx 0 rfl)) ?_
  (try simp only [Act.put, List.setIfInBounds_toArray, List.set_cons_zero, List.set_cons_succ])
  refine seq_call Z rfl rfl Try.func36 rfl rfl (args1 rfl) (Z.callV (zint_Sign.sem (Z.num 0 rfl)  )) ?_; clear Z; intro x2 W Z
  (try simp only [Act.put, List.setIfInBounds_toArray, List.set_cons_zero, List.set_cons_succ])
  refine seq_is (v := .bool (decide (((z1).sign) < (0)))) rfl (run_lss rfl rfl rfl) ?_
  (try simp only [Act.put, List.setIfInBounds_toArray, List.set_cons_zero, List.set_cons_succ])
  show Code.wp _ _ _ _ _
  refine wp_cond_split (t := decide (((z1).sign) < (0))) rfl ?_ ?_
  · intro hc3
    refine wp_seq ?_
    refine wp_region_list ?_
    refine seq_is (v := .pointer (some ⟨g1, 1, none⟩)) rfl (run_field1 rfl rfl) ?_
    (try simp only [Act.put, List.setIfInBounds_toArray, List.set_cons_zero, List.set_cons_succ])
    refine seq_is (v := .slice A1 n1 c1) rfl (run_loadM rfl rfl (Z.bx 0 rfl)) ?_
    (try simp only [Act.put, List.setIfInBounds_toArray, List.set_cons_zero, List.set_cons_succ])
    refine seq_call Z rfl rfl Try.func82 rfl rfl (args1 rfl) (Z.callV (nat_Text.sem (Z.num 0 rfl).mag)) ?_; clear Z; intro x4 W Z
    (try simp only [Act.put, List.setIfInBounds_toArray, List.set_cons_zero, List.set_cons_succ])
    refine seq_is (v := .string ((⟨#[45]⟩ : ByteArray) ++ textOf (((z1).natAbs : Nat)))) rfl (run_addS (text_size m1) rfl rfl rfl) ?_
    (try simp only [Act.put, List.setIfInBounds_toArray, List.set_cons_zero, List.set_cons_succ])
    refine seq_is (v := .string ((⟨#[45]⟩ : ByteArray) ++ textOf (((z1).natAbs : Nat)))) rfl (run_assign rfl rfl) ?_
    (try simp only [Act.put, List.setIfInBounds_toArray, List.set_cons_zero, List.set_cons_succ])
    show Code.wp _ _ _ _ _
    refine wp_ret ?_
    exact Z.endsV (u := .string ((⟨#[45]⟩ : ByteArray) ++ textOf (((z1).natAbs : Nat)))) rfl rfl rfl (by unfold textZ; rw [if_pos (sign_neg hc3)])
  · intro hc3
    refine wp_skip ?_
    show Code.wp _ _ _ _ _
    refine wp_seq ?_
    refine wp_region_list ?_
    refine seq_is (v := .pointer (some ⟨g1, 1, none⟩)) rfl (run_field1 rfl rfl) ?_
    (try simp only [Act.put, List.setIfInBounds_toArray, List.set_cons_zero, List.set_cons_succ])
    refine seq_is (v := .slice A1 n1 c1) rfl (run_loadM rfl rfl (Z.bx 0 rfl)) ?_
    (try simp only [Act.put, List.setIfInBounds_toArray, List.set_cons_zero, List.set_cons_succ])
    refine seq_call Z rfl rfl Try.func82 rfl rfl (args1 rfl) (Z.callV (nat_Text.sem (Z.num 0 rfl).mag)) ?_; clear Z; intro x5 W Z
    (try simp only [Act.put, List.setIfInBounds_toArray, List.set_cons_zero, List.set_cons_succ])
    refine seq_is (v := .string (textOf (((z1).natAbs : Nat)))) rfl (run_assign rfl rfl) ?_
    (try simp only [Act.put, List.setIfInBounds_toArray, List.set_cons_zero, List.set_cons_succ])
    show Code.wp _ _ _ _ _
    refine wp_ret ?_
    exact Z.endsV (u := .string (textOf (((z1).natAbs : Nat)))) rfl rfl rfl (by unfold textZ; rw [if_neg (sign_nn hc3)])
theorem text_42 : textZ (-7 * 6) = ⟨#[45, 52, 50]⟩ := by
  kernel_rfl
set_option maxHeartbeats 4000000 in
set_option maxRecDepth 100000 in
theorem trammellaw02_alive.sem (w : World) : Calls Try.prog 44 #[] w (RetV w (.bool true)) := by
  have Z := Zt.start w (Has.nil w w)
  go_enter Try.func44, Try.ntmps44
  refine wp_seq ?_
  refine wp_region_list ?_
  refine seq_is (v := .bool (false)) rfl (run_assign rfl rfl) ?_
  (try simp only [Act.put, List.setIfInBounds_toArray, List.set_cons_zero, List.set_cons_succ])
  show Code.wp _ _ _ _ _
  refine wp_seq ?_
  refine wp_region_list ?_
  refine seq_call Z rfl rfl Try.func30 rfl rfl (args1 rfl) (Z.callI (zint_Of.sem (by omega) (by omega))) ?_; clear Z; intro x1 W Z
  (try simp only [Act.put, List.setIfInBounds_toArray, List.set_cons_zero, List.set_cons_succ])
  refine seq_call Z rfl rfl Try.func30 rfl rfl (args1 rfl) (Z.callI (zint_Of.sem (by omega) (by omega))) ?_; clear Z; intro x2 W Z
  (try simp only [Act.put, List.setIfInBounds_toArray, List.set_cons_zero, List.set_cons_succ])
  refine seq_call Z rfl rfl Try.func23 rfl rfl (args2 rfl rfl) (Z.callI (zint_Mul.sem (Z.own 1 rfl (Bd.fm (Bd.abs (Bd.neg (Bd.lit (k := 64) (by decide)))) (by decide))) (Z.own 0 rfl (Bd.fm (Bd.abs (Bd.lit (k := 64) (by decide))) (by decide))) (Bd.fm (Bd.mul (Bd.abs (Bd.neg (Bd.lit (k := 64) (by decide)))) (Bd.abs (Bd.lit (k := 64) (by decide)))) (by decide)) )) ?_; clear Z; intro x3 W Z
  (try simp only [Act.put, List.setIfInBounds_toArray, List.set_cons_zero, List.set_cons_succ])
  refine seq_call Z rfl rfl Try.func40 rfl rfl (args1 rfl) (Z.callV (zint_Text.sem (Z.own 0 rfl (Bd.fm (Bd.abs (Bd.mul (Bd.neg (Bd.lit (k := 64) (by decide))) (Bd.lit (k := 64) (by decide)))) (by decide)))  )) ?_; clear Z; intro x4 W Z
  (try simp only [Act.put, List.setIfInBounds_toArray, List.set_cons_zero, List.set_cons_succ])
  refine seq_is (v := .string (textZ ((-7) * (6)))) rfl (run_assign rfl rfl) ?_
  (try simp only [Act.put, List.setIfInBounds_toArray, List.set_cons_zero, List.set_cons_succ])
  show Code.wp _ _ _ _ _
  refine wp_seq ?_
  refine wp_region_list ?_
  refine seq_is (v := .string (textZ ((-7) * (6)))) rfl (run_move rfl rfl) ?_
  (try simp only [Act.put, List.setIfInBounds_toArray, List.set_cons_zero, List.set_cons_succ])
  refine seq_is (v := .bool (true)) rfl (run_eqlS text_42 rfl rfl rfl) ?_
  (try simp only [Act.put, List.setIfInBounds_toArray, List.set_cons_zero, List.set_cons_succ])
  refine seq_is (v := .bool (true)) rfl (run_assign rfl rfl) ?_
  (try simp only [Act.put, List.setIfInBounds_toArray, List.set_cons_zero, List.set_cons_succ])
  show Code.wp _ _ _ _ _
  refine wp_ret ?_
  exact Z.endsV rfl rfl rfl rfl
end Go.Proofs.Ytmbmbmkmjbpcpaa.PA

