/- More of single operations: 64-bit words, texts, a literal of two words. -/
import Derived.Outline
import Derived.Test.YtmbmbmkmjbpcpaaZDK
import Derived.Test.YtmbmbmkmjbpcpaaPAx0K
namespace Go.Proofs.Ytmbmbmkmjbpcpaa.PA
open Go Go.Proofs.Ytmbmbmkmjbpcpaa.Nums Go.RowKit Go.Proofs.YtmbmbmkmjbpcpaaW.PrintWords Go.Proofs.YtmbmbmkmjbpcpaaW.PrintLast Go.Proofs.YtmbmbmkmjbpcpaaW.PrintMore
section
variable {a : Act} {o : Oper} {W : World} {p q : Operand}
theorem run_convU {x : Int} (ho : o.op = .convert 2 50 p) (he : a.eval p = .int .i64 x) : (execOp a.eval o).run Try.prog W = .ok (.value (.int .u64 (IntKind.u64.wrap x))) W := by
  unfold execOp
  simp only [ho, he]
  go_simp
theorem run_convW {x : Int} (ho : o.op = .convert 50 68 p) (he : a.eval p = .int .u64 x) : (execOp a.eval o).run Try.prog W = .ok (.value (.int .u32 (IntKind.u32.wrap x))) W := by
  unfold execOp
  simp only [ho, he]
  go_simp
theorem run_negU {x : Int} (ho : o.op = .unOp .neg 50 p) (he : a.eval p = .int .u64 x) : (execOp a.eval o).run Try.prog W = .ok (.value (.int .u64 (IntKind.u64.wrap (-x)))) W := by
  unfold execOp
  simp only [ho, he]
  go_simp
theorem run_shrU {x : Int} (ho : o.op = .binOp .shr 50 p (.const (.int .u64 32)) 77) (he : a.eval p = .int .u64 x) : (execOp a.eval o).run Try.prog W = .ok (.value (.int .u64 (x / 4294967296))) W := by
  have e2 : a.eval (.const (.int .u64 32)) = .int .u64 32 := rfl
  unfold execOp
  simp only [ho, he, e2]
  go_simp
theorem run_lssL {x y : Int} (ho : o.op = .binOp .lss 2 p q 2) (he : a.eval p = .int .i64 x) (he2 : a.eval q = .int .i64 y) : (execOp a.eval o).run Try.prog W = .ok (.value (.bool (decide (x < y)))) W := by
  unfold execOp
  simp only [ho, he, he2]
  go_simp
theorem run_convU' {x y : Int} (h : IntKind.u64.wrap x = y) (ho : o.op = .convert 2 50 p) (he : a.eval p = .int .i64 x) : (execOp a.eval o).run Try.prog W = .ok (.value (.int .u64 y)) W := by
  subst h
  exact run_convU ho he
theorem run_convW' {x y : Int} (h : IntKind.u32.wrap x = y) (ho : o.op = .convert 50 68 p) (he : a.eval p = .int .u64 x) : (execOp a.eval o).run Try.prog W = .ok (.value (.int .u32 y)) W := by
  subst h
  exact run_convW ho he
theorem run_negU' {x y : Int} (h : IntKind.u64.wrap (-x) = y) (ho : o.op = .unOp .neg 50 p) (he : a.eval p = .int .u64 x) : (execOp a.eval o).run Try.prog W = .ok (.value (.int .u64 y)) W := by
  subst h
  exact run_negU ho he
end
theorem seq_pair {w0 W : World} {ts : List (Value × (World → Value → Prop))} {bs : List (Nat × TypeId × Array Value)} {a : Act} {o : Oper} {ops : Array Oper} {r : List Oper} {Q : Exit → Act → World → Prop} {p q : Operand} {N : Tmp} (Z : Zt w0 W ts bs) {x y : Int} (hg : o.guard = none) (hd : o.dst = some N) (ho : o.op = .buildSlice 23 2 #[(0, p), (1, q)]) (he : a.eval p = .int .u32 x) (he2 : a.eval q = .int .u32 y)
    (hk : ∀ s : Sl, ∀ W', Zt w0 W' ((s.v, tyO w0 [x, y]) :: ts) bs → wpList Try.prog ops Q r (a.put o.dst s.v) W') : wpList Try.prog ops Q (o :: r) a W := by
  refine Kd.R_lit (Kd.int .u32) (w0 := W) W.heap.size 68 hg (N := N) hd (xs := ([x, y] : List Int)) (inner := [.int .u32 x, .int .u32 y]) (ok := fun _ => True) (okp := fun _ => True) ?_ ?_ (fun _ hk => hk) trivial (Below.refl _ _) (Nat.le_refl _) (by simp) ?_
  · unfold execOp
    simp only [ho, List.map_toArray, List.map_cons, List.map_nil, he, he2]
    first | (go_simp; done) | (go_simp; rfl)
  · exact (Reps.one (show Kd.M (Kd.int .u32) _ _ _ x [.int .u32 x] from rfl) (Reps.one (show Kd.M (Kd.int .u32) _ _ _ y [.int .u32 y] from rfl) (Reps.none _ _)))
  intro v3 W3 ho3 hb3 hg3 hnew3
  obtain ⟨A3, c3, rfl⟩ := Kd.R_slice ho3
  exact hk ⟨A3, _, c3⟩ W3 ((Z.step hb3).more (has_row ho3 Z.below.size))
theorem Zt.magL {w0 w : World} {ts : List (Value × (World → Value → Prop))} {bs : List (Nat × TypeId × Array Value)} {v : Value} {l : List Int} {x : Int} (Z : Zt w0 w ts bs) (i : Nat) (e : ts[i]? = some (v, tyO w0 l)) (ho : Ok l) (hl : l.length ≤ 10000000) (hx : val l = x) : MagV w v x := ⟨l, Rd.of_row (Z.row i e), ho, hl, hx⟩
theorem ok_pair {U : Int} (h0 : 0 ≤ U) (h1 : U < 18446744073709551616) : Ok [U % 4294967296, U / 4294967296] ∧ val [U % 4294967296, U / 4294967296] = U := by
  constructor
  · intro x hx
    rcases List.mem_cons.mp hx with rfl | hx
    · omega
    · rcases List.mem_singleton.mp hx with rfl
      omega
  · simp [val]
    omega
end Go.Proofs.Ytmbmbmkmjbpcpaa.PA


/- The number of a machine word. -/
namespace Go.Proofs.Ytmbmbmkmjbpcpaa.PA
open Go Go.Proofs.Ytmbmbmkmjbpcpaa.Nums Go.RowKit Go.Proofs.YtmbmbmkmjbpcpaaW.PrintWords Go.Proofs.YtmbmbmkmjbpcpaaW.PrintLast Go.Proofs.YtmbmbmkmjbpcpaaW.PrintMore
set_option linter.unusedVariables false
set_option linter.unusedSimpArgs false
set_option maxHeartbeats 4000000 in
set_option maxRecDepth 100000 in
theorem trammelref02_Of.sem {w : World} {a1 : Int} (h1 : -9223372036854775808 ≤ a1) (h2 : a1 ≤ 9223372036854775807) : Calls Try.prog 31 #[.int .i64 a1] w (ResI w a1) := by
  have Z := Zt.start w (Has.nil w w)
  rcases Bool.eq_false_or_eq_true (decide ((a1) < (0))) with hn | hn
  · have hn' := of_decide_eq_true hn
    have hU1 : IntKind.u64.wrap a1 = a1 + 18446744073709551616 := by rw [u64_def]; omega
    have hU2 : IntKind.u64.wrap (-(a1 + 18446744073709551616)) = -a1 := by rw [u64_def]; omega
    have hlo : IntKind.u32.wrap (-a1) = (-a1) % 4294967296 := by rw [IntKind.wrap_u32]
    have hhi : IntKind.u32.wrap ((-a1) / 4294967296) = (-a1) / 4294967296 := by rw [IntKind.wrap_u32]; omega
    have hok := ok_pair (U := -a1) (by omega) (by omega)
    go_enter Try.func31, Try.ntmps31
    refine wp_seq ?_
    refine wp_region_list ?_
    refine seq_alloc Z rfl rfl ?_; clear Z; intro g1 W Z
    (try simp only [Act.put, List.setIfInBounds_toArray, List.set_cons_zero, List.set_cons_succ])
    show Code.wp _ _ _ _ _
    refine wp_seq ?_
    refine wp_region_list ?_
    refine seq_is (v := .int .i64 a1) rfl (run_move rfl rfl) ?_
    (try simp only [Act.put, List.setIfInBounds_toArray, List.set_cons_zero, List.set_cons_succ])
    refine seq_is (v := .int .u64 (a1 + 18446744073709551616)) rfl (run_convU' hU1 rfl rfl) ?_
    (try simp only [Act.put, List.setIfInBounds_toArray, List.set_cons_zero, List.set_cons_succ])
    refine seq_is (v := .int .u64 (a1 + 18446744073709551616)) rfl (run_assign rfl rfl) ?_
    (try simp only [Act.put, List.setIfInBounds_toArray, List.set_cons_zero, List.set_cons_succ])
    show Code.wp _ _ _ _ _
    refine wp_seq ?_
    refine wp_seq ?_
    refine wp_region_list ?_
    refine seq_is (v := .int .i64 a1) rfl (run_move rfl rfl) ?_
    (try simp only [Act.put, List.setIfInBounds_toArray, List.set_cons_zero, List.set_cons_succ])
    refine seq_is (v := .bool (decide ((a1) < (0)))) rfl (run_lssL rfl rfl rfl) ?_
    (try simp only [Act.put, List.setIfInBounds_toArray, List.set_cons_zero, List.set_cons_succ])
    show Code.wp _ _ _ _ _
    refine wp_cond_true ((show _ = Value.bool (decide ((a1) < (0))) from rfl).trans (congrArg Value.bool hn)) ?_
    refine wp_region_list ?_
    refine seq_is (v := .int .u64 (a1 + 18446744073709551616)) rfl (run_move rfl rfl) ?_
    (try simp only [Act.put, List.setIfInBounds_toArray, List.set_cons_zero, List.set_cons_succ])
    refine seq_is (v := .int .u64 (-a1)) rfl (run_negU' hU2 rfl rfl) ?_
    (try simp only [Act.put, List.setIfInBounds_toArray, List.set_cons_zero, List.set_cons_succ])
    refine seq_is (v := .int .u64 (-a1)) rfl (run_assign rfl rfl) ?_
    (try simp only [Act.put, List.setIfInBounds_toArray, List.set_cons_zero, List.set_cons_succ])
    show Code.wp _ _ _ _ _
    refine wp_seq ?_
    refine wp_region_list ?_
    refine seq_is (v := .int .i64 a1) rfl (run_move rfl rfl) ?_
    (try simp only [Act.put, List.setIfInBounds_toArray, List.set_cons_zero, List.set_cons_succ])
    refine seq_is (v := .bool (decide ((a1) < (0)))) rfl (run_lssL rfl rfl rfl) ?_
    (try simp only [Act.put, List.setIfInBounds_toArray, List.set_cons_zero, List.set_cons_succ])
    refine seq_is (v := .int .u64 (-a1)) rfl (run_move rfl rfl) ?_
    (try simp only [Act.put, List.setIfInBounds_toArray, List.set_cons_zero, List.set_cons_succ])
    refine seq_is (v := .int .u32 ((-a1) % 4294967296)) rfl (run_convW' hlo rfl rfl) ?_
    (try simp only [Act.put, List.setIfInBounds_toArray, List.set_cons_zero, List.set_cons_succ])
    refine seq_is (v := .int .u64 (-a1)) rfl (run_move rfl rfl) ?_
    (try simp only [Act.put, List.setIfInBounds_toArray, List.set_cons_zero, List.set_cons_succ])
    refine seq_is (v := .int .u64 ((-a1) / 4294967296)) rfl (run_shrU rfl rfl) ?_
    (try simp only [Act.put, List.setIfInBounds_toArray, List.set_cons_zero, List.set_cons_succ])
    refine seq_is (v := .int .u32 ((-a1) / 4294967296)) rfl (run_convW' hhi rfl rfl) ?_
    (try simp only [Act.put, List.setIfInBounds_toArray, List.set_cons_zero, List.set_cons_succ])
    refine seq_pair Z rfl rfl rfl rfl rfl ?_; clear Z; intro x2 W Z
    (try simp only [Act.put, List.setIfInBounds_toArray, List.set_cons_zero, List.set_cons_succ])
    refine seq_call Z rfl rfl Try.func73 rfl rfl (args2 rfl rfl) (Z.callI (trammelref02_made.res (Z.magL 0 rfl hok.1 (by simp) hok.2))) ?_; clear Z; intro x3 W Z
    (try simp only [Act.put, List.setIfInBounds_toArray, List.set_cons_zero, List.set_cons_succ])
    refine seq_store Z 0 rfl rfl rfl rfl rfl ?_; clear Z; intro W Z
    (try simp only [Act.put, List.setIfInBounds_toArray, List.set_cons_zero, List.set_cons_succ])
    show Code.wp _ _ _ _ _
    refine wp_ret ?_
    exact Z.ends1 0 0 rfl rfl rfl rfl rfl (by rw [hn]; unfold zof; simp)
  · have hn' := of_decide_eq_false hn
    have hU1 : IntKind.u64.wrap a1 = a1 := by rw [u64_def]; omega
    have hlo : IntKind.u32.wrap (a1) = (a1) % 4294967296 := by rw [IntKind.wrap_u32]
    have hhi : IntKind.u32.wrap ((a1) / 4294967296) = (a1) / 4294967296 := by rw [IntKind.wrap_u32]; omega
    have hok := ok_pair (U := a1) (by omega) (by omega)
    go_enter Try.func31, Try.ntmps31
    refine wp_seq ?_
    refine wp_region_list ?_
    refine seq_alloc Z rfl rfl ?_; clear Z; intro g1 W Z
    (try simp only [Act.put, List.setIfInBounds_toArray, List.set_cons_zero, List.set_cons_succ])
    show Code.wp _ _ _ _ _
    refine wp_seq ?_
    refine wp_region_list ?_
    refine seq_is (v := .int .i64 a1) rfl (run_move rfl rfl) ?_
    (try simp only [Act.put, List.setIfInBounds_toArray, List.set_cons_zero, List.set_cons_succ])
    refine seq_is (v := .int .u64 (a1)) rfl (run_convU' hU1 rfl rfl) ?_
    (try simp only [Act.put, List.setIfInBounds_toArray, List.set_cons_zero, List.set_cons_succ])
    refine seq_is (v := .int .u64 (a1)) rfl (run_assign rfl rfl) ?_
    (try simp only [Act.put, List.setIfInBounds_toArray, List.set_cons_zero, List.set_cons_succ])
    show Code.wp _ _ _ _ _
    refine wp_seq ?_
    refine wp_seq ?_
    refine wp_region_list ?_
    refine seq_is (v := .int .i64 a1) rfl (run_move rfl rfl) ?_
    (try simp only [Act.put, List.setIfInBounds_toArray, List.set_cons_zero, List.set_cons_succ])
    refine seq_is (v := .bool (decide ((a1) < (0)))) rfl (run_lssL rfl rfl rfl) ?_
    (try simp only [Act.put, List.setIfInBounds_toArray, List.set_cons_zero, List.set_cons_succ])
    show Code.wp _ _ _ _ _
    refine wp_cond_false ((show _ = Value.bool (decide ((a1) < (0))) from rfl).trans (congrArg Value.bool hn)) ?_
    refine wp_skip ?_
    show Code.wp _ _ _ _ _
    refine wp_seq ?_
    refine wp_region_list ?_
    refine seq_is (v := .int .i64 a1) rfl (run_move rfl rfl) ?_
    (try simp only [Act.put, List.setIfInBounds_toArray, List.set_cons_zero, List.set_cons_succ])
    refine seq_is (v := .bool (decide ((a1) < (0)))) rfl (run_lssL rfl rfl rfl) ?_
    (try simp only [Act.put, List.setIfInBounds_toArray, List.set_cons_zero, List.set_cons_succ])
    refine seq_is (v := .int .u64 (a1)) rfl (run_move rfl rfl) ?_
    (try simp only [Act.put, List.setIfInBounds_toArray, List.set_cons_zero, List.set_cons_succ])
    refine seq_is (v := .int .u32 ((a1) % 4294967296)) rfl (run_convW' hlo rfl rfl) ?_
    (try simp only [Act.put, List.setIfInBounds_toArray, List.set_cons_zero, List.set_cons_succ])
    refine seq_is (v := .int .u64 (a1)) rfl (run_move rfl rfl) ?_
    (try simp only [Act.put, List.setIfInBounds_toArray, List.set_cons_zero, List.set_cons_succ])
    refine seq_is (v := .int .u64 ((a1) / 4294967296)) rfl (run_shrU rfl rfl) ?_
    (try simp only [Act.put, List.setIfInBounds_toArray, List.set_cons_zero, List.set_cons_succ])
    refine seq_is (v := .int .u32 ((a1) / 4294967296)) rfl (run_convW' hhi rfl rfl) ?_
    (try simp only [Act.put, List.setIfInBounds_toArray, List.set_cons_zero, List.set_cons_succ])
    refine seq_pair Z rfl rfl rfl rfl rfl ?_; clear Z; intro x2 W Z
    (try simp only [Act.put, List.setIfInBounds_toArray, List.set_cons_zero, List.set_cons_succ])
    refine seq_call Z rfl rfl Try.func73 rfl rfl (args2 rfl rfl) (Z.callI (trammelref02_made.res (Z.magL 0 rfl hok.1 (by simp) hok.2))) ?_; clear Z; intro x3 W Z
    (try simp only [Act.put, List.setIfInBounds_toArray, List.set_cons_zero, List.set_cons_succ])
    refine seq_store Z 0 rfl rfl rfl rfl rfl ?_; clear Z; intro W Z
    (try simp only [Act.put, List.setIfInBounds_toArray, List.set_cons_zero, List.set_cons_succ])
    show Code.wp _ _ _ _ _
    refine wp_ret ?_
    exact Z.ends1 0 0 rfl rfl rfl rfl rfl (by rw [hn]; unfold zof; simp)
end Go.Proofs.Ytmbmbmkmjbpcpaa.PA

