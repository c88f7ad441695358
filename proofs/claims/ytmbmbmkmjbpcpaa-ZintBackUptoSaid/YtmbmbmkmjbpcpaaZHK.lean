/- zint.two: a power of 2 as words of its own. -/
import Derived.Outline
import Derived.Test.YtmbmbmkmjbpcpaaZGK
import Derived.Test.YtmbmbmkmjbpcpaaPAx0K
import Derived.Test.YtmbmbmkmjbpcpaaPAx13K
import Derived.Test.YtmbmbmkmjbpcpaaZFK
namespace Go.Proofs.Ytmbmbmkmjbpcpaa.PA
open Go Go.Proofs.Ytmbmbmkmjbpcpaa.Nums Go.RowKit Go.Proofs.YtmbmbmkmjbpcpaaW.PrintWords Go.Proofs.YtmbmbmkmjbpcpaaW.PrintLast Go.Proofs.YtmbmbmkmjbpcpaaW.PrintMore
set_option linter.unusedVariables false
section
variable {a : Act} {o : Oper} {W : World} {p q : Operand}
theorem run_quo32 {n : Nat} (hn : n ≤ 9223372036854775807) (ho : o.op = .binOp .quo 3 p (.const (.int .i64 32)) 3) (he : a.eval p = .int .i64 n) : (execOp a.eval o).run Try.prog W = .ok (.value (.int .i64 ((n / 32 : Nat) : Int))) W := by
  have e2 : a.eval (.const (.int .i64 32)) = .int .i64 32 := rfl
  have e3 : IntKind.i64.wrap (Int.tdiv (n : Int) 32) = ((n / 32 : Nat) : Int) := by
    rw [Int.tdiv_eq_ediv_of_nonneg (by omega), i64_w, w64 (by omega) (by omega)]
    omega
  unfold execOp
  simp only [ho, he, e2]
  go_simp
  exact e3
theorem run_rem32 {n : Nat} (hn : n ≤ 9223372036854775807) (ho : o.op = .binOp .rem 3 p (.const (.int .i64 32)) 3) (he : a.eval p = .int .i64 n) : (execOp a.eval o).run Try.prog W = .ok (.value (.int .i64 ((n % 32 : Nat) : Int))) W := by
  have e2 : a.eval (.const (.int .i64 32)) = .int .i64 32 := rfl
  have e3 : Int.tmod (n : Int) 32 = ((n % 32 : Nat) : Int) := by
    rw [Int.tmod_eq_emod_of_nonneg (by omega)]
    omega
  have e4 : IntKind.i64.wrap ((n % 32 : Nat) : Int) = ((n % 32 : Nat) : Int) := by rw [i64_w, w64 (by omega) (by omega)]
  unfold execOp
  simp only [ho, he, e2]
  go_simp
  all_goals first | exact e3 | (rw [e3]; exact e4)
theorem run_shl1 {n : Nat} (hn : n < 32) (ho : o.op = .binOp .shl 68 (.const (.int .u32 1)) p 3) (he : a.eval p = .int .i64 n) : (execOp a.eval o).run Try.prog W = .ok (.value (.int .u32 (2 ^ n))) W := by
  have e2 : a.eval (.const (.int .u32 1)) = .int .u32 1 := rfl
  have h0 : (0 : Int) ≤ (n : Int) := by omega
  have h1 : ¬ ((n : Int) < 0) := by omega
  unfold execOp
  simp only [ho, he, e2]
  go_simp
  rw [IntKind.wrap_u32]
  have h2 : 2 ^ n < 4294967296 := Nat.pow_lt_pow_right (a := 2) (n := 32) (by omega) hn
  have h3 : (2 : Int) ^ n = ((2 ^ n : Nat) : Int) := by rw [Int.natCast_pow]; rfl
  rw [h3]
  generalize 2 ^ n = m at *
  omega
theorem run_indexE {ad ad' : Addr} {n c i : Nat} (hv : ad.add i = ad') (ho : o.op = .indexAddr 23 p q) (he : a.eval p = .slice (some ad) n c) (he2 : a.eval q = .int .i64 i) (hi : i < n) : (execOp a.eval o).run Try.prog W = .ok (.value (.pointer (some ad'))) W := by
  subst hv
  exact run_index ho he he2 hi
end
theorem twoL_nrm (n : Nat) : Nrm (twoL n) := by
  intro x hx
  unfold twoL at hx
  rw [List.getLast?_append] at hx
  simp at hx
  subst hx
  have h := Nat.pow_pos (n := n % 32) (show 0 < 2 by decide)
  have e : (2 : Int) ^ (n % 32) = ((2 ^ (n % 32) : Nat) : Int) := by rw [Int.natCast_pow]; rfl
  rw [e]
  generalize 2 ^ (n % 32) = m at *
  omega
theorem set_last (k : Nat) (x : Int) : (List.replicate (k + 1) (0 : Int)).set k x = List.replicate k 0 ++ [x] := by
  rw [List.replicate_succ', List.set_append_right _ _ (by simp)]
  simp
set_option maxHeartbeats 4000000 in
set_option maxRecDepth 100000 in
theorem zint_two.sem {w : World} {n : Nat} (hn : n ≤ 1000000000) : Calls Try.prog 90 #[.int .i64 (n : Int)] w (ResM w (2 ^ n)) := by
  have Z := Zt.start w (Has.nil w w)
  have hl : lm (2 ^ n) = twoL n := by rw [← twoL_val, lm_of (twoL_ok n) (twoL_nrm n)]
  go_enter Try.func90, Try.ntmps90
  refine wp_seq ?_
  refine wp_region_list ?_
  refine seq_is (v := .slice none 0 0) rfl (run_assign rfl rfl) ?_
  (try simp only [Act.put, List.setIfInBounds_toArray, List.set_cons_zero, List.set_cons_succ])
  show Code.wp _ _ _ _ _
  refine wp_seq ?_
  refine wp_region_list ?_
  refine seq_is (v := .int .i64 (n : Int)) rfl (run_move rfl rfl) ?_
  (try simp only [Act.put, List.setIfInBounds_toArray, List.set_cons_zero, List.set_cons_succ])
  refine seq_is rfl (run_quo32 (n := n) (by omega) rfl rfl) ?_
  (try simp only [Act.put, List.setIfInBounds_toArray, List.set_cons_zero, List.set_cons_succ])
  refine seq_is rfl (run_inc (i := n / 32) rfl rfl (by omega)) ?_
  (try simp only [Act.put, List.setIfInBounds_toArray, List.set_cons_zero, List.set_cons_succ])
  refine Kd.R_make (Kd.int .u32) (w0 := w) w.heap.size 68 rfl (N := 7) rfl 23 _ _ rfl ((n / 32 + 1 : Nat) : Int) rfl rfl Try.underlying23 (.int .u32 0) 4 info68 rfl (by decide) (by omega) 0 (ok := fun _ => True) (okp := fun _ => True) rfl (fun _ hk => hk) trivial (by omega) (by rw [Int.toNat_natCast]; omega) Z.below Z.below.size ?_
  intro v1 W1 ho hb hg hnew
  rw [Int.toNat_natCast] at ho
  clear hg hnew
  obtain ⟨g, cap, rfl, -, -, -⟩ := Kd.R_form ho (by simp)
  (try simp only [Act.put, List.setIfInBounds_toArray, List.set_cons_zero, List.set_cons_succ])
  refine seq_is rfl (run_assign rfl rfl) ?_
  (try simp only [Act.put, List.setIfInBounds_toArray, List.set_cons_zero, List.set_cons_succ])
  show Code.wp _ _ _ _ _
  have hlen : (List.replicate (n / 32 + 1) (0 : Int)).length = n / 32 + 1 := List.length_replicate
  rw [hlen] at ho
  obtain ⟨-, -, -, q, hq, cells, hcells⟩ := (Kd.R_bound ho).1 g rfl
  obtain ⟨hx, hf⟩ := Kd.R_celln 0 ho ((n / 32 : Nat) : Int) (by omega) (by omega)
  have hp := Kd.R_putn ho ((n / 32 : Nat) : Int) ((2 : Int) ^ (n % 32))
  rw [Int.toNat_natCast] at hx hf hp
  rw [set_last] at hp
  have hg : w.heap.size ≤ g := Kd.R_base ho g rfl
  have hb2 : Below w.heap.size w (W1.setCell ⟨g, n / 32, none⟩ (.int .u32 (2 ^ (n % 32)))) := below_set hb hg
  refine wp_seq ?_
  refine wp_region_list ?_
  rw [hlen]
  refine seq_is rfl (run_move rfl rfl) ?_
  (try simp only [Act.put, List.setIfInBounds_toArray, List.set_cons_zero, List.set_cons_succ])
  refine seq_is (v := .int .i64 (n : Int)) rfl (run_move rfl rfl) ?_
  (try simp only [Act.put, List.setIfInBounds_toArray, List.set_cons_zero, List.set_cons_succ])
  refine seq_is rfl (run_quo32 (n := n) (by omega) rfl rfl) ?_
  (try simp only [Act.put, List.setIfInBounds_toArray, List.set_cons_zero, List.set_cons_succ])
  refine seq_is (v := .int .i64 (n : Int)) rfl (run_move rfl rfl) ?_
  (try simp only [Act.put, List.setIfInBounds_toArray, List.set_cons_zero, List.set_cons_succ])
  refine seq_is rfl (run_rem32 (n := n) (by omega) rfl rfl) ?_
  (try simp only [Act.put, List.setIfInBounds_toArray, List.set_cons_zero, List.set_cons_succ])
  refine seq_is rfl (run_shl1 (n := n % 32) (Nat.mod_lt _ (by omega)) rfl rfl) ?_
  (try simp only [Act.put, List.setIfInBounds_toArray, List.set_cons_zero, List.set_cons_succ])
  refine seq_is (v := .pointer (some ⟨g, n / 32, none⟩)) rfl (run_indexE (ad := ⟨g, 0, none⟩) (n := n / 32 + 1) (c := cap) (i := n / 32) (by simp [Addr.add]; try omega) rfl rfl rfl (by omega)) ?_
  (try simp only [Act.put, List.setIfInBounds_toArray, List.set_cons_zero, List.set_cons_succ])
  refine list_op rfl (wp_mute (W' := W1.setCell ⟨g, n / 32, none⟩ (.int .u32 (2 ^ (n % 32)))) ?_ ?_)
  · unfold execOp
    go_simp
  show Code.wp _ _ _ _ _
  refine wp_seq ?_
  refine wp_region_list ?_
  refine seq_is rfl (run_move rfl rfl) ?_
  (try simp only [Act.put, List.setIfInBounds_toArray, List.set_cons_zero, List.set_cons_succ])
  refine seq_is rfl (run_assign rfl rfl) ?_
  (try simp only [Act.put, List.setIfInBounds_toArray, List.set_cons_zero, List.set_cons_succ])
  show Code.wp _ _ _ _ _
  refine wp_ret ?_
  refine bodyPost_ret (v := .slice (some ⟨g, 0, none⟩) (n / 32 + 1) cap) (by unfold results; go_simp) rfl ⟨_, rfl, ?_, hb2⟩
  rw [hl]
  exact hp
theorem lm_two (n : Nat) : lm (2 ^ n) = twoL n := by rw [← twoL_val, lm_of (twoL_ok n) (twoL_nrm n)]
theorem Fm.le {x y : Int} (h : Fm x) (h0 : 0 ≤ y) (hxy : y ≤ x) : Fm y := by
  have h1 : bl (val (lm x)).toNat ≤ 32 * 10000000 := bl_len (lm_ok x) h
  rw [lm_val (by omega)] at h1
  exact lm_bl_len h0 (Nat.le_trans (bl_mono (by omega)) h1)
theorem two_pos (n : Nat) : (0 : Int) < 2 ^ n := Int.pow_pos (by decide)
theorem fm_two {n : Nat} (h : n < 320000000) : Fm (2 ^ n) := by
  unfold Fm
  rw [lm_two, twoL_len]
  omega
/-- where a number's first 53 bits end -/
def topE (z : Int) : Nat := bl z.natAbs - 53
def topM (z : Int) : Int := ((z.natAbs : Nat) : Int) / 2 ^ topE z
def topB (z : Int) : Bool := decide (((z.natAbs : Nat) : Int) % 2 ^ topE z = 0)
theorem topM_rng (z : Int) : 0 ≤ topM z ∧ topM z < 9007199254740992 := by
  have h := bl_lt z.natAbs
  have hp := two_pos (topE z)
  unfold topM
  refine ⟨Int.ediv_nonneg (by omega) (by omega), Int.ediv_lt_of_lt_mul hp ?_⟩
  have h2 : (2 : Nat) ^ bl z.natAbs ≤ 2 ^ (53 + topE z) := two_mono (by unfold topE; omega)
  have h3 : ((2 ^ (53 + topE z) : Nat) : Int) = 9007199254740992 * 2 ^ topE z := by
    rw [Nat.pow_add, Int.natCast_mul, Int.natCast_pow 2 (topE z)]
    rfl
  rw [← h3]
  omega
theorem topE_le {w : World} {b : Bool} {v : Value} {z : Int} (m : NumV w b v z) : topE z < 320000000 := by
  have h1 : bl (val (lm ((z.natAbs : Nat) : Int))).toNat ≤ 32 * 10000000 := bl_len (lm_ok _) m.fit
  rw [lm_val (by omega), show ((z.natAbs : Nat) : Int).toNat = z.natAbs by omega] at h1
  unfold topE
  omega
theorem max_top (z : Int) : max (0 : Int) (((bl (((z.natAbs : Nat) : Int)).toNat : Nat) : Int) - 53) = ((topE z : Nat) : Int) := by
  rw [show ((z.natAbs : Nat) : Int).toNat = z.natAbs by omega]
  unfold topE
  omega
section
variable {a : Act} {o : Oper} {W : World} {p q : Operand}
theorem run_maxE {x y z : Int} (h : max x y = z) (ho : o.op = .call { callee := .builtin .max, args := #[p, q], argTypes := #[3, 3] }) (he : a.eval p = .int .i64 x) (he2 : a.eval q = .int .i64 y) : (execOp a.eval o).run Try.prog W = .ok (.value (.int .i64 z)) W := by
  subst h
  exact run_max ho he he2
end
theorem Zt.endsVVV {w0 W : World} {ts : List (Value × (World → Value → Prop))} {bs : List (Nat × TypeId × Array Value)} {a : Act} {fn : Func} {p q r : Tmp} {u v x t : Value} {P : Program} (Z : Zt w0 W ts bs) (h : fn.results = #[.tmp p, .tmp q, .tmp r]) (hd : a.defers = []) (hp : a.tmps.getD p undef = u) (hq : a.tmps.getD q undef = v) (hr : a.tmps.getD r undef = x) (hu : .tuple #[u, v, x] = t) : bodyPost P fn (RetV w0 t) .ret a W := by
  refine bodyPost_ret (v := .tuple #[a.tmps.getD p undef, a.tmps.getD q undef, a.tmps.getD r undef]) ?_ hd ⟨by rw [hp, hq, hr, hu], Z.below⟩
  clear hp hq hr hu
  unfold results
  rw [h]
  go_simp
end Go.Proofs.Ytmbmbmkmjbpcpaa.PA


/- The walks of Top and of the reference's Two. -/
namespace Go.Proofs.Ytmbmbmkmjbpcpaa.PA
open Go Go.Proofs.Ytmbmbmkmjbpcpaa.Nums Go.RowKit Go.Proofs.YtmbmbmkmjbpcpaaW.PrintWords Go.Proofs.YtmbmbmkmjbpcpaaW.PrintLast Go.Proofs.YtmbmbmkmjbpcpaaW.PrintMore
set_option linter.unusedVariables false
set_option linter.unusedSimpArgs false
theorem top_sub {w : World} {b : Bool} {v : Value} {z : Int} (m : NumV w b v z) : wrap64 (((bl (((z.natAbs : Nat) : Int)).toNat : Nat) : Int) - 53) = ((bl (((z.natAbs : Nat) : Int)).toNat : Nat) : Int) - 53 := by
  have h := topE_le m
  unfold topE at h
  rw [show (((z.natAbs : Nat) : Int)).toNat = z.natAbs by omega]
  exact w64 (by omega) (by omega)
theorem zint_word.top {w : World} {v1 : Value} {z : Int} (m1 : MagV w v1 (topM z)) : Calls Try.prog 79 #[v1] w (RetV w (.tuple #[.int .u64 (topM z), .bool true])) := by
  have h := zint_word.sem m1
  have hr := topM_rng z
  have e1 : wordV (topM z) = topM z := by unfold wordV; rw [if_pos (by omega)]
  have e2 : wordB (topM z) = true := by unfold wordB; exact decide_eq_true (by omega)
  rw [e1, e2] at h
  exact h
theorem top_end {z : Int} {n : Nat} (h : n = (lm (((z.natAbs : Nat) : Int) % 2 ^ topE z)).length) : Value.tuple #[.int .u64 (topM z), .int .i64 ((topE z : Nat) : Int), .bool (decide (((n : Nat) : Int) = 0))] = .tuple #[.int .u64 (topM z), .int .i64 ((topE z : Nat) : Int), .bool (topB z)] := by
  have e : decide (((n : Nat) : Int) = 0) = topB z := by
    subst h
    unfold topB
    have h1 := lm_eq_nil (z := ((z.natAbs : Nat) : Int) % 2 ^ topE z) (Int.emod_nonneg _ (Int.ne_of_gt (two_pos _)))
    refine decide_eq_decide.mpr ⟨fun h => h1.mp (List.length_eq_zero_iff.mp (by omega)), fun h => ?_⟩
    rw [h1.mpr h]
    rfl
  rw [e]
theorem Bd.two {E k : Nat} (h : E < k) : Bd k (2 ^ E) := by
  unfold Bd
  rw [Int.natAbs_pow]
  exact Nat.pow_lt_pow_right (by decide) h
set_option maxHeartbeats 4000000 in
set_option maxRecDepth 100000 in
theorem zint_Top.sem {w : World} {b1 : Bool} {v1 : Value} {z1 : Int} (m1 : NumV w b1 v1 z1) (hb1 : Bd 100000000 z1) : Calls Try.prog 49 #[.agg #[.bool b1, v1]] w (RetV w (.tuple #[.int .u64 (topM z1), .int .i64 ((topE z1 : Nat) : Int), .bool (topB z1)])) := by
  obtain ⟨A1, n1, c1, rfl⟩ := m1.form
  have Z := Zt.begin1 m1
  have hE := topE_le m1
  have hq : Fm (topM z1) := Fm.le (x := ((z1.natAbs : Nat) : Int)) m1.fit (topM_rng z1).1 (Int.ediv_le_self _ (by omega))
  have hr : Fm (((z1.natAbs : Nat) : Int) % 2 ^ topE z1) := Fm.le (x := ((z1.natAbs : Nat) : Int)) m1.fit (Int.emod_nonneg _ (Int.ne_of_gt (two_pos _))) (by have := Int.emod_add_mul_ediv ((z1.natAbs : Nat) : Int) (2 ^ topE z1); have := Int.mul_nonneg (Int.le_of_lt (two_pos (topE z1))) (topM_rng z1).1; unfold topM at this; omega)
  go_enter Try.func49, Try.ntmps49
  refine wp_seq ?_
  refine wp_region_list ?_
  refine seq_box Z rfl rfl rfl ?_; clear Z; intro g1 W Z
  (try simp only [Act.put, List.setIfInBounds_toArray, List.set_cons_zero, List.set_cons_succ])
  refine seq_is (v := .int .u64 (0)) rfl (run_assign rfl rfl) ?_
  (try simp only [Act.put, List.setIfInBounds_toArray, List.set_cons_zero, List.set_cons_succ])
  refine seq_is (v := .int .i64 (0)) rfl (run_assign rfl rfl) ?_
  (try simp only [Act.put, List.setIfInBounds_toArray, List.set_cons_zero, List.set_cons_succ])
  refine seq_is (v := .bool (false)) rfl (run_assign rfl rfl) ?_
  (try simp only [Act.put, List.setIfInBounds_toArray, List.set_cons_zero, List.set_cons_succ])
  show Code.wp _ _ _ _ _
  refine wp_seq ?_
  refine wp_region_list ?_
  refine seq_is (v := .agg #[.bool (b1), .slice A1 n1 c1]) rfl (run_load2 rfl rfl (Z.bx 0 rfl)) ?_
  (try simp only [Act.put, List.setIfInBounds_toArray, List.set_cons_zero, List.set_cons_succ])
  refine seq_call Z rfl rfl Try.func47 rfl rfl (args1 rfl) (Z.callV (zint_Bits.sem (Z.num 0 rfl)  )) ?_; clear Z; intro x2 W Z
  (try simp only [Act.put, List.setIfInBounds_toArray, List.set_cons_zero, List.set_cons_succ])
  refine seq_is (v := .int .i64 (((bl ((((z1).natAbs : Nat) : Int)).toNat : Nat) : Int) - 53)) rfl (run_sub' (top_sub m1) rfl rfl rfl) ?_
  (try simp only [Act.put, List.setIfInBounds_toArray, List.set_cons_zero, List.set_cons_succ])
  refine seq_is (v := .int .i64 ((topE z1 : Nat) : Int)) rfl (run_maxE (max_top z1) rfl rfl rfl) ?_
  (try simp only [Act.put, List.setIfInBounds_toArray, List.set_cons_zero, List.set_cons_succ])
  refine seq_is (v := .int .i64 ((topE z1 : Nat) : Int)) rfl (run_assign rfl rfl) ?_
  (try simp only [Act.put, List.setIfInBounds_toArray, List.set_cons_zero, List.set_cons_succ])
  show Code.wp _ _ _ _ _
  refine wp_seq ?_
  refine wp_dag (pre := [_, _, _, _, _, _, _, _, _, _, _, _]) (sps := [.is (.pointer (some ⟨g1, 1, none⟩)), .is (.slice A1 n1 c1), .is (.int .i64 ((topE z1 : Nat) : Int)), spM w (2 ^ topE z1), spMMi w (topM z1) ((((z1).natAbs : Nat) : Int) % 2 ^ topE z1) (.int .i64 0), spMMi w (topM z1) ((((z1).natAbs : Nat) : Int) % 2 ^ topE z1) (.int .i64 0), spM w (topM z1), spM w ((((z1).natAbs : Nat) : Int) % 2 ^ topE z1), .is (.int .i64 (0)), spM w (topM z1), spM w ((((z1).natAbs : Nat) : Int) % 2 ^ topE z1), .is (.int .i64 (0))]) Z (by kernel_rfl) _ rfl (by kernel_rfl) (by kernel_rfl) rfl ⟨?_, ?_, ?_, ?_, ?_, ?_, ?_, ?_, ?_, ?_, ?_, ?_, trivial⟩ ?_
  · intro a e3 W Q Z; exact step_is (fun _ h => op_plain rfl rfl h) (run_field1 rfl (ev e3))
  · intro a x5 e6 W Q Z; exact step_is (fun _ h => op_plain rfl rfl h) (run_loadM rfl (ev e6) (Z.bx 0 rfl))
  · intro a e8 W Q Z; exact step_is (fun _ h => op_plain rfl rfl h) (run_move rfl (ev e8))
  · intro a x10 e11 W Q Z; exact step_call (fun _ h => op_plain rfl rfl h) rfl Try.func90 rfl rfl (args1 (ev e11)) (Z.callM (zint_two.sem (Nat.le_trans (Nat.le_of_lt hE) (by decide))))
  · intro a x13 e14 x15 e16 W Q Z; exact step_call (fun _ h => op_plain rfl rfl h) rfl Try.func89 rfl rfl (args2 (ev e14) (ev e16)) (Z.callMMi (nat_Div.semN (Z.num 1 rfl).mag (Z.ownM 0 rfl (Int.le_of_lt (two_pos _)) (fm_two hE)) (Int.ne_of_gt (two_pos _))))
  · intro a x18 e19 W Q Z; exact step_val x18 (fun _ h => op_plain rfl rfl h) (run_move rfl (ev e19)) (has_two (Z.has 0 rfl) (Z.has 1 rfl))
  · intro a x21 e22 W Q Z; exact step_val x21.1 (fun _ h => op_plain rfl rfl h) (run_extract rfl (ev e22) rfl) (has_one (Z.has 0 rfl))
  · intro a x24 e25 W Q Z; exact step_val x24.2 (fun _ h => op_plain rfl rfl h) (run_extract rfl (ev e25) rfl) (has_one (Z.has 1 rfl))
  · intro a x27 e28 W Q Z; exact step_is (fun _ h => op_plain rfl rfl h) (run_extract rfl (ev e28) rfl)
  · intro a x30 e31 W Q Z; exact step_val x30 (fun _ h => op_plain rfl rfl h) (run_assign rfl (ev e31)) (has_one (Z.has 0 rfl))
  · intro a x33 e34 W Q Z; exact step_val x33 (fun _ h => op_plain rfl rfl h) (run_assign rfl (ev e34)) (has_one (Z.has 0 rfl))
  · intro a x36 e37 W Q Z; exact step_is (fun _ h => op_plain rfl rfl h) (run_assign rfl (ev e37))
  clear Z; intro x4 x7 x9 x12 x17 x20 x23 x26 x29 x32 x35 x38 W Z
  (try simp only [Act.put, List.setIfInBounds_toArray, List.set_cons_zero, List.set_cons_succ])
  show Code.wp _ _ _ _ _
  refine wp_seq ?_
  refine wp_region_list ?_
  refine seq_is (v := x32.v) rfl (run_move rfl rfl) ?_
  (try simp only [Act.put, List.setIfInBounds_toArray, List.set_cons_zero, List.set_cons_succ])
  refine seq_call Z rfl rfl Try.func79 rfl rfl (args1 rfl) (Z.callV (zint_word.top (Z.ownM 1 rfl (topM_rng z1).1 hq))) ?_; clear Z; intro x39 W Z
  (try simp only [Act.put, List.setIfInBounds_toArray, List.set_cons_zero, List.set_cons_succ])
  refine seq_is (v := .tuple #[.int .u64 (topM z1), .bool (true)]) rfl (run_move rfl rfl) ?_
  (try simp only [Act.put, List.setIfInBounds_toArray, List.set_cons_zero, List.set_cons_succ])
  refine seq_is (v := .int .u64 (topM z1)) rfl (run_extract rfl rfl rfl) ?_
  (try simp only [Act.put, List.setIfInBounds_toArray, List.set_cons_zero, List.set_cons_succ])
  refine seq_is (v := .bool (true)) rfl (run_extract rfl rfl rfl) ?_
  (try simp only [Act.put, List.setIfInBounds_toArray, List.set_cons_zero, List.set_cons_succ])
  refine seq_is (v := .int .u64 (topM z1)) rfl (run_assign rfl rfl) ?_
  (try simp only [Act.put, List.setIfInBounds_toArray, List.set_cons_zero, List.set_cons_succ])
  refine seq_is (v := .bool (true)) rfl (run_assign rfl rfl) ?_
  (try simp only [Act.put, List.setIfInBounds_toArray, List.set_cons_zero, List.set_cons_succ])
  show Code.wp _ _ _ _ _
  refine wp_seq ?_
  refine wp_region_list ?_
  refine seq_is (v := .int .u64 (topM z1)) rfl (run_move rfl rfl) ?_
  (try simp only [Act.put, List.setIfInBounds_toArray, List.set_cons_zero, List.set_cons_succ])
  refine seq_is (v := .int .i64 ((topE z1 : Nat) : Int)) rfl (run_move rfl rfl) ?_
  (try simp only [Act.put, List.setIfInBounds_toArray, List.set_cons_zero, List.set_cons_succ])
  refine seq_is (v := x35.v) rfl (run_move rfl rfl) ?_
  (try simp only [Act.put, List.setIfInBounds_toArray, List.set_cons_zero, List.set_cons_succ])
  refine seq_is (v := .int .i64 (((x35.2.1 : Nat) : Int))) rfl (run_len rfl rfl) ?_
  (try simp only [Act.put, List.setIfInBounds_toArray, List.set_cons_zero, List.set_cons_succ])
  refine seq_is (v := .bool (decide ((((x35.2.1 : Nat) : Int)) = (0)))) rfl (run_eql rfl rfl rfl) ?_
  (try simp only [Act.put, List.setIfInBounds_toArray, List.set_cons_zero, List.set_cons_succ])
  refine seq_is (v := .int .u64 (topM z1)) rfl (run_assign rfl rfl) ?_
  (try simp only [Act.put, List.setIfInBounds_toArray, List.set_cons_zero, List.set_cons_succ])
  refine seq_is (v := .int .i64 ((topE z1 : Nat) : Int)) rfl (run_assign rfl rfl) ?_
  (try simp only [Act.put, List.setIfInBounds_toArray, List.set_cons_zero, List.set_cons_succ])
  refine seq_is (v := .bool (decide ((((x35.2.1 : Nat) : Int)) = (0)))) rfl (run_assign rfl rfl) ?_
  (try simp only [Act.put, List.setIfInBounds_toArray, List.set_cons_zero, List.set_cons_succ])
  show Code.wp _ _ _ _ _
  refine wp_ret ?_
  have hl := (Kd.R_reads' (Z.row 0 rfl)).1
  exact Z.endsVVV (u := .int .u64 (topM z1)) (v := .int .i64 ((topE z1 : Nat) : Int)) (x := .bool (decide ((((x35.2.1 : Nat) : Int)) = (0)))) rfl rfl rfl rfl rfl (top_end hl)
end Go.Proofs.Ytmbmbmkmjbpcpaa.PA

