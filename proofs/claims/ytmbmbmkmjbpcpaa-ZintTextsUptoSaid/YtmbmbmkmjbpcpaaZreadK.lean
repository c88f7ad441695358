/- The walk of the document's Read. -/
import Derived.Outline
import Derived.Test.YtmbmbmkmjbpcpaaZMK
import Derived.Test.YtmbmbmkmjbpcpaaPAx10K
namespace Go.Proofs.Ytmbmbmkmjbpcpaa.PA
open Go Go.Proofs.Ytmbmbmkmjbpcpaa.Nums Go.RowKit Go.Proofs.YtmbmbmkmjbpcpaaW.PrintWords Go.Proofs.YtmbmbmkmjbpcpaaW.PrintLast Go.Proofs.YtmbmbmkmjbpcpaaW.PrintMore
set_option linter.unusedVariables false
set_option linter.unusedSimpArgs false
theorem run_cast {P : Program} {a : Act} {o : Oper} {W : World} {b b' : Bool} (h : (execOp a.eval o).run P W = .ok (.value (.bool b)) W) (e : b = b') : (execOp a.eval o).run P W = .ok (.value (.bool b')) W := e ▸ h
def chunk (s : ByteArray) (k i : Nat) : Nat := min 9 (s.size - (i + k))
theorem chunk_min {s : ByteArray} {k i : Nat} {z : Int} (h : z = (s.size : Int) - ((i + k : Nat) : Int)) (h0 : 0 ≤ z) : min (9 : Int) z = ((chunk s k i : Nat) : Int) := by
  unfold chunk
  omega
theorem chunk_rng {s : ByteArray} {k i : Nat} (h : i + k < s.size) : chunk s k i ≤ 9 ∧ 1 ≤ chunk s k i ∧ i + k + chunk s k i ≤ s.size := by
  unfold chunk
  omega
theorem w8 {x : Int} (h0 : 0 ≤ x) (h1 : x < 256) : IntKind.u8.wrap x = x := by
  rw [IntKind.wrap_u8]
  omega
theorem w32 {x : Int} (h0 : 0 ≤ x) (h1 : x < 4294967296) : IntKind.u32.wrap x = x := by
  rw [IntKind.wrap_u32]
  omega
theorem bad_lo {s : ByteArray} {k i : Nat} (h : decide ((bt s ((i + k : Nat) : Int)) < (48)) = true) : badAt (tlS s k) i = true := by
  rw [bad_tl, h]
  rfl
theorem bad_hi {s : ByteArray} {k i : Nat} (h : decide ((57) < (bt s ((i + k : Nat) : Int))) = true) : badAt (tlS s k) i = true := by
  rw [bad_tl]
  have e : decide (bt s ((i + k : Nat) : Int) > 57) = true := h
  rw [e, Bool.or_true, Bool.true_or]
theorem bad_no {s : ByteArray} {k i : Nat} (h : i = 1) (h2 : bt s (k : Int) = 48) : badAt (tlS s k) i = true := by
  rw [bad_tl, h2, h]
  simp
theorem good_at {s : ByteArray} {k i : Nat} (h1 : ¬ bt s ((i + k : Nat) : Int) < 48) (h2 : ¬ 57 < bt s ((i + k : Nat) : Int)) (h3 : i = 1 → ¬ bt s (k : Int) = 48) : badAt (tlS s k) i = false := by
  rw [bad_tl, decide_eq_false h1, decide_eq_false h2]
  by_cases e : i = 1
  · rw [beq_eq_false_iff_ne.mpr (h3 e), Bool.and_false]
    rfl
  · rw [beq_eq_false_iff_ne.mpr e]
    rfl
theorem dig_at {s : ByteArray} {k i : Nat} (h : badAt (tlS s k) i = false) : 48 ≤ bt s ((i + k : Nat) : Int) ∧ bt s ((i + k : Nat) : Int) ≤ 57 := by
  rw [bad_tl] at h
  simp only [Bool.or_eq_false_iff, decide_eq_false_iff_not] at h
  omega
theorem rdAt_no {s : ByteArray} (h : ¬ 0 < s.size) : rdAt s = 0 := by
  unfold rdAt
  rw [if_neg (fun x => h x.1)]
theorem rdAt_no' {s : ByteArray} (h : ¬ bt s 0 = 45) : rdAt s = 0 := by
  unfold rdAt
  rw [if_neg (fun x => h x.2)]
theorem rdAt_yes {s : ByteArray} (h : 0 < s.size) (h2 : bt s 0 = 45) : rdAt s = 1 := by
  unfold rdAt
  rw [if_pos ⟨h, h2⟩]
theorem readZ_err' {s : ByteArray} {A p : Nat} (h : ¬ 65536 < s.size) (hA : rdAt s = A) (hz : ¬ (A = 1 ∧ 1 < s.size ∧ bt s 1 = 48)) (he : rdN (tlS s A) = 0 ∧ rdP (tlS s A) = (p : Int) ∧ rdE (tlS s A) = 4) : readZ s = (0, A + (p : Int), 4) := by
  rw [readZ_err h hA hz he.2.2, he.2.1]
theorem readZ_ok' {s : ByteArray} {A i : Nat} (h : ¬ 65536 < s.size) (hA : rdAt s = A) (hz : ¬ (A = 1 ∧ 1 < s.size ∧ bt s 1 = 48)) (he : rdN (tlS s A) = numv (tlS s A) (tlS s A).size ∧ rdP (tlS s A) = 0 ∧ rdE (tlS s A) = 0) (hi : i = (tlS s A).size) : readZ s = (zof (A == 1) (numv (tlS s A) i), 0, 0) := by
  rw [readZ_ok h hA hz he.2.2, he.1, hi]
theorem rdE_four {s : ByteArray} (h : ¬ rdE s = 0) : rdE s = 4 := by
  unfold rdE at *
  split
  · rfl
  · rename_i h0
    rw [if_neg h0] at h
    cases e : scan s s.size 0 with
    | some p => rfl
    | none => rw [e] at h; exact absurd rfl h
theorem zint_nines.at {w : World} {m : Int} {n c : Nat} (h : m = (n : Int)) (hc : n = c) (h9 : c ≤ 9) : Calls Try.prog 84 #[.int .i64 m] w (RetV w (.int .u32 (10 ^ c))) := by
  subst h
  subst hc
  exact zint_nines.sem h9
theorem ten_bd {x : Int} {n : Nat} (h0 : 0 ≤ x) (h : x < 10 ^ n) (hn : n ≤ 65536) : Bd 262144 x := by
  have h1 : (10 : Nat) ^ n ≤ 16 ^ n := Nat.pow_le_pow_left (by decide) n
  have h2 : (16 : Nat) ^ n = 2 ^ (4 * n) := by rw [Nat.pow_mul]
  have h3 : (10 : Int) ^ n = ((10 ^ n : Nat) : Int) := by rw [Int.natCast_pow]; rfl
  have h4 : Bd (4 * n) x := by
    unfold Bd
    omega
  exact h4.mono (by omega)
theorem rdN_bd {s : ByteArray} (h : s.size ≤ 65536) : Bd 262144 (rdN s) := ten_bd rdN_rng.1 rdN_rng.2 h
theorem RC.fms {t : ByteArray} {i c : Nat} {v : Int} (h0 : 0 ≤ numv t i) (h1 : numv t i < 10 ^ i) (h : RC t i c v) (ht : t.size ≤ 65536) : 0 ≤ numv t i * 10 ^ c ∧ Fm (numv t i * 10 ^ c) ∧ 0 ≤ numv t i * 10 ^ c + v ∧ Fm (numv t i * 10 ^ c + v) := by
  have h2 := ten9 h.nine
  have h3 := h.v0
  have h4 := h.v1
  have h5 := h.le
  have h6 : 0 ≤ numv t i * 10 ^ c := Int.mul_nonneg h0 h2.1
  have h7 : numv t i * 10 ^ c + v < 10 ^ (i + c) := by
    rw [Int.pow_add]
    have : (numv t i + 1) * 10 ^ c ≤ 10 ^ i * 10 ^ c := Int.mul_le_mul_of_nonneg_right (by omega) h2.1
    rw [Int.add_mul, Int.one_mul] at this
    omega
  exact ⟨h6, fm_ten h6 (by omega) (show i + c ≤ 10000000 by omega), by omega, fm_ten (by omega) h7 (by omega)⟩
def spMii (w0 : World) (x : Int) (u u2 : Value) : Sp := .val Sl (fun s => .tuple #[s.v, u, u2]) (fun s => [(s.v, tyO w0 (lm x))])
def ResMii (w : World) (x : Int) (u u2 : Value) (e : Ending) (w' : World) : Prop := ∃ v, e = .returned (.tuple #[v, u, u2]) ∧ Kd.R (Kd.int .u32) 68 w' w.heap.size (fun _ => True) v (lm x) ∧ Below w.heap.size w w'
def spIii (w0 : World) (z : Int) (u u2 : Value) : Sp := .val Sl (fun s => .tuple #[ag z s.v, u, u2]) (fun s => [(s.v, tyO w0 (mg z))])
def ResIii (w : World) (z : Int) (u u2 : Value) (e : Ending) (w' : World) : Prop := ∃ v, e = .returned (.tuple #[ag z v, u, u2]) ∧ Kd.R (Kd.int .u32) 68 w' w.heap.size (fun _ => True) v (mg z) ∧ Below w.heap.size w w'
section
variable {w0 w : World} {ts : List (Value × (World → Value → Prop))} {bs : List (Nat × TypeId × Array Value)} {P : Program} {f : FuncId} {args : Array Value} {x y z : Int} {u u2 : Value}
theorem Zt.callMii (Z : Zt w0 w ts bs) (h : Calls P f args w (ResMii w x u u2)) : Calls P f args w fun e W' => ∃ v, e = .returned v ∧ Below w.heap.size w W' ∧ (spMii w0 x u u2).New w0 w W' v :=
  h.mono fun _ _ ⟨v, he, hr, hb⟩ => by
    have ho := has_row hr Z.below.size
    obtain ⟨A, c, rfl, -, -⟩ := Rd.of_row hr
    exact ⟨_, he, hb, ⟨A, _, c⟩, rfl, ho⟩
theorem Zt.callIii (Z : Zt w0 w ts bs) (h : Calls P f args w (ResIii w z u u2)) : Calls P f args w fun e W' => ∃ v, e = .returned v ∧ Below w.heap.size w W' ∧ (spIii w0 z u u2).New w0 w W' v :=
  h.mono fun _ _ ⟨v, he, hr, hb⟩ => by
    have ho := has_row hr Z.below.size
    obtain ⟨A, c, rfl, -, -⟩ := Rd.of_row hr
    exact ⟨_, he, hb, ⟨A, _, c⟩, rfl, ho⟩
end
theorem Zt.endsIii {w0 W : World} {ts : List (Value × (World → Value → Prop))} {bs : List (Nat × TypeId × Array Value)} {a : Act} {fn : Func} {p d d2 : Tmp} {g : Nat} {z z' : Int} {v u u2 u' u2' : Value} (Z : Zt w0 W ts bs) (ip jp : Nat) (h : fn.results = #[.cell p 25, .tmp d, .tmp d2]) (hd : a.defers = []) (hp : a.tmps.getD p undef = .pointer (some ⟨g, 0, none⟩)) (hd2 : a.tmps.getD d undef = u) (hd3 : a.tmps.getD d2 undef = u2) (ep : bs[ip]? = some (g, 25, #[.bool (decide (z < 0)), v])) (Op : ts[jp]? = some (v, tyO w0 (mg z))) (hzp : z = z') (hu : u = u') (hu2 : u2 = u2') : bodyPost Try.prog fn (ResIii w0 z' u' u2') .ret a W := by
  subst hzp
  subst hu
  subst hu2
  refine bodyPost_ret (v := .tuple #[ag z v, u, u2]) ?_ hd ⟨v, rfl, Z.row jp Op, Z.below⟩
  obtain ⟨c0p, c1p, -, -⟩ := (Z.bx ip ep).two
  have hp' : a.tmps[p]?.getD undef = .pointer (some ⟨g, 0, none⟩) := by simpa using hp
  have hd2' : a.tmps[d]?.getD undef = u := by simpa using hd2
  have hd3' : a.tmps[d2]?.getD undef = u2 := by simpa using hd3
  unfold results
  rw [h]
  go_simp
theorem trammelref01_Read.sem {w : World} {s : ByteArray} (hs : s.size ≤ 65536) : Calls Try.prog 85 #[.string s] w (ResMii w (rdN s) (.int .i64 (rdP s)) (.int .i64 (rdE s))) := by
  obtain ⟨k, e⟩ := (rread_f s).rounds
  rw [readR_eq hs] at e
  exact (trammelref01_Read.calls k s _ _ _ w e).mono fun e w' ⟨v, he, hr, hb⟩ => ⟨v, he, Kd.R_mono hr (fun _ _ => trivial), hb⟩
set_option maxHeartbeats 16000000 in
set_option maxRecDepth 100000 in
theorem trammelref02_Read.sem {w : World} {a0 : ByteArray} (hs : a0.size ≤ 4611686018427387903) : Calls Try.prog 43 #[.string a0] w (ResIii w (readZ a0).1 (.int .i64 (readZ a0).2.1) (.int .i64 (readZ a0).2.2)) := by
  obtain ⟨tt, htt⟩ : ∃ b : Bool, b = true := ⟨true, rfl⟩
  obtain ⟨ff, hff⟩ : ∃ b : Bool, b = false := ⟨false, rfl⟩
  have Z := Zt.start w (Has.nil w w)
  go_enter Try.func43, Try.ntmps43
  refine wp_seq ?_
  refine wp_region_list ?_
  refine seq_alloc Z rfl rfl ?_; clear Z; intro g1 W Z
  (try simp only [Act.put, List.setIfInBounds_toArray, List.set_cons_zero, List.set_cons_succ])
  refine seq_is (v := .int .i64 (0)) rfl (run_assign rfl rfl) ?_
  (try simp only [Act.put, List.setIfInBounds_toArray, List.set_cons_zero, List.set_cons_succ])
  refine seq_is (v := .int .i64 (0)) rfl (run_assign rfl rfl) ?_
  (try simp only [Act.put, List.setIfInBounds_toArray, List.set_cons_zero, List.set_cons_succ])
  show Code.wp _ _ _ _ _
  refine wp_seq ?_
  refine wp_seq ?_
  refine wp_region_list ?_
  refine seq_is (v := .string a0) rfl (run_move rfl rfl) ?_
  (try simp only [Act.put, List.setIfInBounds_toArray, List.set_cons_zero, List.set_cons_succ])
  refine seq_is (v := .int .i64 (((a0.size : Nat) : Int))) rfl (run_lenS rfl rfl) ?_
  (try simp only [Act.put, List.setIfInBounds_toArray, List.set_cons_zero, List.set_cons_succ])
  refine seq_is (v := .bool (decide ((65536) < (((a0.size : Nat) : Int))))) rfl (run_gtr rfl rfl rfl) ?_
  (try simp only [Act.put, List.setIfInBounds_toArray, List.set_cons_zero, List.set_cons_succ])
  show Code.wp _ _ _ _ _
  refine wp_cond_split (t := decide ((65536) < (((a0.size : Nat) : Int)))) rfl ?_ ?_
  · intro hc2
    have p_hc2 := of_decide_eq_true hc2
    refine wp_seq ?_
    refine wp_region_list ?_
    refine seq_is (v := .agg #[.bool (false), .slice none 0 0]) rfl (run_build0 rfl) ?_
    (try simp only [Act.put, List.setIfInBounds_toArray, List.set_cons_zero, List.set_cons_succ])
    refine seq_store Z 0 rfl rfl rfl rfl rfl ?_; clear Z; intro W Z
    (try simp only [Act.put, List.setIfInBounds_toArray, List.set_cons_zero, List.set_cons_succ])
    refine seq_is (v := .int .i64 (0)) rfl (run_assign rfl rfl) ?_
    (try simp only [Act.put, List.setIfInBounds_toArray, List.set_cons_zero, List.set_cons_succ])
    refine seq_is (v := .int .i64 (2)) rfl (run_assign rfl rfl) ?_
    (try simp only [Act.put, List.setIfInBounds_toArray, List.set_cons_zero, List.set_cons_succ])
    show Code.wp _ _ _ _ _
    refine wp_ret ?_
    have hR := readZ_long (s := a0) (by omega)
    exact Z.nought.endsIii (u := .int .i64 (0)) (u2 := .int .i64 (2)) 0 0 rfl rfl rfl rfl rfl rfl rfl (by rw [hR]; try rfl) (by rw [hR]; try rfl) (by rw [hR]; try rfl)
  · intro hc2
    have p_hc2 := of_decide_eq_false hc2
    refine wp_skip ?_
    show Code.wp _ _ _ _ _
    refine wp_seq ?_
    refine wp_region_list ?_
    refine seq_is (v := .int .i64 (0)) rfl (run_assign rfl rfl) ?_
    (try simp only [Act.put, List.setIfInBounds_toArray, List.set_cons_zero, List.set_cons_succ])
    show Code.wp _ _ _ _ _
    refine wp_seq ?_
    refine wp_seq ?_
    rcases Bool.eq_false_or_eq_true (decide ((0) < (((a0.size : Nat) : Int)))) with hk3 | hk3
    · have p_hk3 := of_decide_eq_true hk3
      refine wp_region_list ?_
      refine seq_is (v := .string a0) rfl (run_move rfl rfl) ?_
      (try simp only [Act.put, List.setIfInBounds_toArray, List.set_cons_zero, List.set_cons_succ])
      refine seq_is (v := .int .i64 (((a0.size : Nat) : Int))) rfl (run_lenS rfl rfl) ?_
      (try simp only [Act.put, List.setIfInBounds_toArray, List.set_cons_zero, List.set_cons_succ])
      refine seq_is (v := .bool (decide ((0) < (((a0.size : Nat) : Int))))) rfl (run_gtr rfl rfl rfl) ?_
      (try simp only [Act.put, List.setIfInBounds_toArray, List.set_cons_zero, List.set_cons_succ])
      refine seq_is (v := .bool (decide ((0) < (((a0.size : Nat) : Int))))) rfl (run_move rfl rfl) ?_
      (try simp only [Act.put, List.setIfInBounds_toArray, List.set_cons_zero, List.set_cons_succ])
      refine list_want rfl rfl (congrArg some (congrArg Value.bool hk3)) (wp_run (v := .string a0) (run_move rfl rfl) ?_)
      (try simp only [Act.put, List.setIfInBounds_toArray, List.set_cons_zero, List.set_cons_succ])
      refine list_want rfl rfl (congrArg some (congrArg Value.bool hk3)) (wp_run (v := .int .u8 (bt a0 (0))) (run_idxS (by omega) (by omega) rfl rfl rfl) ?_)
      (try simp only [Act.put, List.setIfInBounds_toArray, List.set_cons_zero, List.set_cons_succ])
      refine list_want rfl rfl (congrArg some (congrArg Value.bool hk3)) (wp_run (v := .bool (decide ((bt a0 (0)) = (45)))) (run_eqlY rfl rfl rfl) ?_)
      (try simp only [Act.put, List.setIfInBounds_toArray, List.set_cons_zero, List.set_cons_succ])
      refine seq_is (v := .bool (decide ((bt a0 (0)) = (45)))) rfl (run_pickT rfl ((show _ = Value.bool (decide ((0) < (((a0.size : Nat) : Int)))) from rfl).trans (congrArg Value.bool hk3)) rfl) ?_
      (try simp only [Act.put, List.setIfInBounds_toArray, List.set_cons_zero, List.set_cons_succ])
      show Code.wp _ _ _ _ _
      refine wp_cond_split (t := decide ((bt a0 (0)) = (45))) rfl ?_ ?_
      · intro hc4
        have p_hc4 := of_decide_eq_true hc4
        refine wp_region_list ?_
        refine seq_is (v := .int .i64 (1)) rfl (run_assign rfl rfl) ?_
        (try simp only [Act.put, List.setIfInBounds_toArray, List.set_cons_zero, List.set_cons_succ])
        show Code.wp _ _ _ _ _
        refine wp_seq ?_
        refine wp_seq ?_
        have hA : rdAt a0 = 1 := rdAt_yes (by omega) p_hc4
        have hT := tlS_size (s := a0) (k := 1)
        rcases Bool.eq_false_or_eq_true (decide ((1) < (((a0.size : Nat) : Int)))) with hk5 | hk5
        · have p_hk5 := of_decide_eq_true hk5
          have hA : rdAt a0 = 1 := rdAt_yes (by omega) p_hc4
          have hT := tlS_size (s := a0) (k := 1)
          refine wp_region_list ?_
          refine seq_is (v := .int .i64 (1)) rfl (run_move rfl rfl) ?_
          (try simp only [Act.put, List.setIfInBounds_toArray, List.set_cons_zero, List.set_cons_succ])
          refine seq_is (v := .bool (decide ((1 : Int) = (1)))) rfl (run_eql rfl rfl rfl) ?_
          (try simp only [Act.put, List.setIfInBounds_toArray, List.set_cons_zero, List.set_cons_succ])
          refine seq_is (v := .bool (decide ((1 : Int) = (1)))) rfl (run_move rfl rfl) ?_
          (try simp only [Act.put, List.setIfInBounds_toArray, List.set_cons_zero, List.set_cons_succ])
          refine list_want rfl rfl (congrArg some (congrArg Value.bool (Eq.refl true))) (wp_run (v := .string a0) (run_move rfl rfl) ?_)
          (try simp only [Act.put, List.setIfInBounds_toArray, List.set_cons_zero, List.set_cons_succ])
          refine list_want rfl rfl (congrArg some (congrArg Value.bool (Eq.refl true))) (wp_run (v := .int .i64 (((a0.size : Nat) : Int))) (run_lenS rfl rfl) ?_)
          (try simp only [Act.put, List.setIfInBounds_toArray, List.set_cons_zero, List.set_cons_succ])
          refine list_want rfl rfl (congrArg some (congrArg Value.bool (Eq.refl true))) (wp_run (v := .bool (decide ((1) < (((a0.size : Nat) : Int))))) (run_gtr rfl rfl rfl) ?_)
          (try simp only [Act.put, List.setIfInBounds_toArray, List.set_cons_zero, List.set_cons_succ])
          refine seq_is (v := .bool (decide ((1) < (((a0.size : Nat) : Int))))) rfl (run_pickT rfl rfl rfl) ?_
          (try simp only [Act.put, List.setIfInBounds_toArray, List.set_cons_zero, List.set_cons_succ])
          refine seq_is (v := .bool (decide ((1) < (((a0.size : Nat) : Int))))) rfl (run_move rfl rfl) ?_
          (try simp only [Act.put, List.setIfInBounds_toArray, List.set_cons_zero, List.set_cons_succ])
          refine list_want rfl rfl (congrArg some (congrArg Value.bool hk5)) (wp_run (v := .string a0) (run_move rfl rfl) ?_)
          (try simp only [Act.put, List.setIfInBounds_toArray, List.set_cons_zero, List.set_cons_succ])
          refine list_want rfl rfl (congrArg some (congrArg Value.bool hk5)) (wp_run (v := .int .u8 (bt a0 (1))) (run_idxS (by omega) (by omega) rfl rfl rfl) ?_)
          (try simp only [Act.put, List.setIfInBounds_toArray, List.set_cons_zero, List.set_cons_succ])
          refine list_want rfl rfl (congrArg some (congrArg Value.bool hk5)) (wp_run (v := .bool (decide ((bt a0 (1)) = (48)))) (run_eqlY rfl rfl rfl) ?_)
          (try simp only [Act.put, List.setIfInBounds_toArray, List.set_cons_zero, List.set_cons_succ])
          refine seq_is (v := .bool (decide ((bt a0 (1)) = (48)))) rfl (run_pickT rfl ((show _ = Value.bool (decide ((1) < (((a0.size : Nat) : Int)))) from rfl).trans (congrArg Value.bool hk5)) rfl) ?_
          (try simp only [Act.put, List.setIfInBounds_toArray, List.set_cons_zero, List.set_cons_succ])
          show Code.wp _ _ _ _ _
          refine wp_cond_split (t := decide ((bt a0 (1)) = (48))) rfl ?_ ?_
          · intro hc6
            have p_hc6 := of_decide_eq_true hc6
            refine wp_seq ?_
            refine wp_region_list ?_
            refine seq_is (v := .agg #[.bool (false), .slice none 0 0]) rfl (run_build0 rfl) ?_
            (try simp only [Act.put, List.setIfInBounds_toArray, List.set_cons_zero, List.set_cons_succ])
            refine seq_store Z 0 rfl rfl rfl rfl rfl ?_; clear Z; intro W Z
            (try simp only [Act.put, List.setIfInBounds_toArray, List.set_cons_zero, List.set_cons_succ])
            refine seq_is (v := .int .i64 (1)) rfl (run_assign rfl rfl) ?_
            (try simp only [Act.put, List.setIfInBounds_toArray, List.set_cons_zero, List.set_cons_succ])
            refine seq_is (v := .int .i64 (4)) rfl (run_assign rfl rfl) ?_
            (try simp only [Act.put, List.setIfInBounds_toArray, List.set_cons_zero, List.set_cons_succ])
            show Code.wp _ _ _ _ _
            refine wp_ret ?_
            have hR := readZ_zero (by omega) hA (by omega) p_hc6
            exact Z.nought.endsIii (u := .int .i64 (1)) (u2 := .int .i64 (4)) 0 0 rfl rfl rfl rfl rfl rfl rfl (by rw [hR]; try rfl) (by rw [hR]; try rfl) (by rw [hR]; try rfl)
          · intro hc6
            have p_hc6 := of_decide_eq_false hc6
            refine wp_skip ?_
            show Code.wp _ _ _ _ _
            refine wp_seq ?_
            have hz : ¬ (1 = 1 ∧ 1 < a0.size ∧ bt a0 1 = 48) := by intro h; exact p_hc6 h.2.2
            refine wp_region_list ?_
            refine seq_is (v := .string a0) rfl (run_move rfl rfl) ?_
            (try simp only [Act.put, List.setIfInBounds_toArray, List.set_cons_zero, List.set_cons_succ])
            refine seq_is (v := .int .i64 (1)) rfl (run_move rfl rfl) ?_
            (try simp only [Act.put, List.setIfInBounds_toArray, List.set_cons_zero, List.set_cons_succ])
            refine seq_is (v := .string (tlS a0 1)) rfl (run_cutS (i := 1) (by omega) rfl rfl rfl) ?_
            (try simp only [Act.put, List.setIfInBounds_toArray, List.set_cons_zero, List.set_cons_succ])
            refine seq_call Z rfl rfl Try.func85 rfl rfl (args1 rfl) (Z.callMii (trammelref01_Read.sem (s := (tlS a0 1)) (by omega))) ?_; clear Z; intro x7 W Z
            (try simp only [Act.put, List.setIfInBounds_toArray, List.set_cons_zero, List.set_cons_succ])
            refine seq_is (v := .tuple #[x7.v, .int .i64 (rdP (tlS a0 1)), .int .i64 (rdE (tlS a0 1))]) rfl (run_move rfl rfl) ?_
            (try simp only [Act.put, List.setIfInBounds_toArray, List.set_cons_zero, List.set_cons_succ])
            refine seq_is (v := x7.v) rfl (run_extract rfl rfl rfl) ?_
            (try simp only [Act.put, List.setIfInBounds_toArray, List.set_cons_zero, List.set_cons_succ])
            refine seq_is (v := .int .i64 (rdP (tlS a0 1))) rfl (run_extract rfl rfl rfl) ?_
            (try simp only [Act.put, List.setIfInBounds_toArray, List.set_cons_zero, List.set_cons_succ])
            refine seq_is (v := .int .i64 (rdE (tlS a0 1))) rfl (run_extract rfl rfl rfl) ?_
            (try simp only [Act.put, List.setIfInBounds_toArray, List.set_cons_zero, List.set_cons_succ])
            refine seq_is (v := x7.v) rfl (run_assign rfl rfl) ?_
            (try simp only [Act.put, List.setIfInBounds_toArray, List.set_cons_zero, List.set_cons_succ])
            refine seq_is (v := .int .i64 (rdP (tlS a0 1))) rfl (run_assign rfl rfl) ?_
            (try simp only [Act.put, List.setIfInBounds_toArray, List.set_cons_zero, List.set_cons_succ])
            refine seq_is (v := .int .i64 (rdE (tlS a0 1))) rfl (run_assign rfl rfl) ?_
            (try simp only [Act.put, List.setIfInBounds_toArray, List.set_cons_zero, List.set_cons_succ])
            show Code.wp _ _ _ _ _
            refine wp_seq ?_
            refine wp_seq ?_
            have hPr := rdP_rng (tlS a0 1)
            refine wp_region_list ?_
            refine seq_is (v := .int .i64 (rdE (tlS a0 1))) rfl (run_move rfl rfl) ?_
            (try simp only [Act.put, List.setIfInBounds_toArray, List.set_cons_zero, List.set_cons_succ])
            refine seq_is (v := .bool (decide ((rdE (tlS a0 1)) ≠ (0)))) rfl (run_neq rfl rfl rfl) ?_
            (try simp only [Act.put, List.setIfInBounds_toArray, List.set_cons_zero, List.set_cons_succ])
            show Code.wp _ _ _ _ _
            refine wp_cond_split (t := decide ((rdE (tlS a0 1)) ≠ (0))) rfl ?_ ?_
            · intro hc8
              have p_hc8 := of_decide_eq_true hc8
              refine wp_seq ?_
              refine wp_region_list ?_
              refine seq_is (v := .agg #[.bool (false), .slice none 0 0]) rfl (run_build0 rfl) ?_
              (try simp only [Act.put, List.setIfInBounds_toArray, List.set_cons_zero, List.set_cons_succ])
              refine seq_is (v := .int .i64 (1)) rfl (run_move rfl rfl) ?_
              (try simp only [Act.put, List.setIfInBounds_toArray, List.set_cons_zero, List.set_cons_succ])
              refine seq_is (v := .int .i64 (rdP (tlS a0 1))) rfl (run_move rfl rfl) ?_
              (try simp only [Act.put, List.setIfInBounds_toArray, List.set_cons_zero, List.set_cons_succ])
              refine seq_is (v := .int .i64 (1 + rdP (tlS a0 1))) rfl (run_add' (w64 (by omega) (by omega)) rfl rfl rfl) ?_
              (try simp only [Act.put, List.setIfInBounds_toArray, List.set_cons_zero, List.set_cons_succ])
              refine seq_store Z 0 rfl rfl rfl rfl rfl ?_; clear Z; intro W Z
              (try simp only [Act.put, List.setIfInBounds_toArray, List.set_cons_zero, List.set_cons_succ])
              refine seq_is (v := .int .i64 (1 + rdP (tlS a0 1))) rfl (run_assign rfl rfl) ?_
              (try simp only [Act.put, List.setIfInBounds_toArray, List.set_cons_zero, List.set_cons_succ])
              refine seq_is (v := .int .i64 (4)) rfl (run_assign rfl rfl) ?_
              (try simp only [Act.put, List.setIfInBounds_toArray, List.set_cons_zero, List.set_cons_succ])
              show Code.wp _ _ _ _ _
              refine wp_ret ?_
              have hR := (readZ_err (by omega) hA hz (rdE_four p_hc8))
              exact Z.nought.endsIii (u := .int .i64 (1 + rdP (tlS a0 1))) (u2 := .int .i64 (4)) 0 0 rfl rfl rfl rfl rfl rfl rfl (by rw [hR]; try rfl) (by rw [hR]; refine congrArg (Value.int .i64) ?_; dsimp only; omega) (by rw [hR]; try rfl)
            · intro hc8
              have p_hc8 := of_decide_eq_false hc8
              refine wp_skip ?_
              show Code.wp _ _ _ _ _
              refine wp_seq ?_
              refine wp_region_list ?_
              refine seq_is (v := .int .i64 (1)) rfl (run_move rfl rfl) ?_
              (try simp only [Act.put, List.setIfInBounds_toArray, List.set_cons_zero, List.set_cons_succ])
              refine seq_is (v := .bool (decide ((1 : Int) = (1)))) rfl (run_eql rfl rfl rfl) ?_
              (try simp only [Act.put, List.setIfInBounds_toArray, List.set_cons_zero, List.set_cons_succ])
              refine seq_is (v := x7.v) rfl (run_move rfl rfl) ?_
              (try simp only [Act.put, List.setIfInBounds_toArray, List.set_cons_zero, List.set_cons_succ])
              refine seq_call Z rfl rfl Try.func73 rfl rfl (args2 rfl rfl) (Z.callI (trammelref02_made.res (Z.ownM 0 rfl rdN_rng.1 (fm_ten rdN_rng.1 rdN_rng.2 (by omega))))) ?_; clear Z; intro x9 W Z
              (try simp only [Act.put, List.setIfInBounds_toArray, List.set_cons_zero, List.set_cons_succ])
              refine seq_store Z 0 rfl rfl rfl rfl rfl ?_; clear Z; intro W Z
              (try simp only [Act.put, List.setIfInBounds_toArray, List.set_cons_zero, List.set_cons_succ])
              refine seq_is (v := .int .i64 (0)) rfl (run_assign rfl rfl) ?_
              (try simp only [Act.put, List.setIfInBounds_toArray, List.set_cons_zero, List.set_cons_succ])
              refine seq_is (v := .int .i64 (0)) rfl (run_assign rfl rfl) ?_
              (try simp only [Act.put, List.setIfInBounds_toArray, List.set_cons_zero, List.set_cons_succ])
              show Code.wp _ _ _ _ _
              refine wp_ret ?_
              have hR := (readZ_ok (by omega) hA hz (Classical.not_not.mp p_hc8))
              exact Z.endsIii (u := .int .i64 (0)) (u2 := .int .i64 (0)) 0 0 rfl rfl rfl rfl rfl rfl rfl (by rw [hR]; try rfl) (by rw [hR]; try rfl) (by rw [hR]; try rfl)
        · have p_hk5 := of_decide_eq_false hk5
          have hA : rdAt a0 = 1 := rdAt_yes (by omega) p_hc4
          have hT := tlS_size (s := a0) (k := 1)
          refine wp_region_list ?_
          refine seq_is (v := .int .i64 (1)) rfl (run_move rfl rfl) ?_
          (try simp only [Act.put, List.setIfInBounds_toArray, List.set_cons_zero, List.set_cons_succ])
          refine seq_is (v := .bool (decide ((1 : Int) = (1)))) rfl (run_eql rfl rfl rfl) ?_
          (try simp only [Act.put, List.setIfInBounds_toArray, List.set_cons_zero, List.set_cons_succ])
          refine seq_is (v := .bool (decide ((1 : Int) = (1)))) rfl (run_move rfl rfl) ?_
          (try simp only [Act.put, List.setIfInBounds_toArray, List.set_cons_zero, List.set_cons_succ])
          refine list_want rfl rfl (congrArg some (congrArg Value.bool (Eq.refl true))) (wp_run (v := .string a0) (run_move rfl rfl) ?_)
          (try simp only [Act.put, List.setIfInBounds_toArray, List.set_cons_zero, List.set_cons_succ])
          refine list_want rfl rfl (congrArg some (congrArg Value.bool (Eq.refl true))) (wp_run (v := .int .i64 (((a0.size : Nat) : Int))) (run_lenS rfl rfl) ?_)
          (try simp only [Act.put, List.setIfInBounds_toArray, List.set_cons_zero, List.set_cons_succ])
          refine list_want rfl rfl (congrArg some (congrArg Value.bool (Eq.refl true))) (wp_run (v := .bool (decide ((1) < (((a0.size : Nat) : Int))))) (run_gtr rfl rfl rfl) ?_)
          (try simp only [Act.put, List.setIfInBounds_toArray, List.set_cons_zero, List.set_cons_succ])
          refine seq_is (v := .bool (decide ((1) < (((a0.size : Nat) : Int))))) rfl (run_pickT rfl rfl rfl) ?_
          (try simp only [Act.put, List.setIfInBounds_toArray, List.set_cons_zero, List.set_cons_succ])
          refine seq_is (v := .bool (decide ((1) < (((a0.size : Nat) : Int))))) rfl (run_move rfl rfl) ?_
          (try simp only [Act.put, List.setIfInBounds_toArray, List.set_cons_zero, List.set_cons_succ])
          refine list_unwant rfl rfl (congrArg some (congrArg Value.bool hk5)) (by decide) ?_
          (try simp only [Act.put, List.setIfInBounds_toArray, List.set_cons_zero, List.set_cons_succ])
          refine list_unwant rfl rfl (congrArg some (congrArg Value.bool hk5)) (by decide) ?_
          (try simp only [Act.put, List.setIfInBounds_toArray, List.set_cons_zero, List.set_cons_succ])
          refine list_unwant rfl rfl (congrArg some (congrArg Value.bool hk5)) (by decide) ?_
          (try simp only [Act.put, List.setIfInBounds_toArray, List.set_cons_zero, List.set_cons_succ])
          refine seq_is (v := .bool (ff)) rfl (run_cast (run_pickF rfl ((show _ = Value.bool (decide ((1) < (((a0.size : Nat) : Int)))) from rfl).trans (congrArg Value.bool hk5)) rfl) hff.symm) ?_
          (try simp only [Act.put, List.setIfInBounds_toArray, List.set_cons_zero, List.set_cons_succ])
          show Code.wp _ _ _ _ _
          refine wp_cond_false ((show _ = Value.bool (ff) from rfl).trans (congrArg Value.bool hff)) ?_
          refine wp_skip ?_
          show Code.wp _ _ _ _ _
          refine wp_seq ?_
          have hz : ¬ (1 = 1 ∧ 1 < a0.size ∧ bt a0 1 = 48) := by omega
          refine wp_region_list ?_
          refine seq_is (v := .string a0) rfl (run_move rfl rfl) ?_
          (try simp only [Act.put, List.setIfInBounds_toArray, List.set_cons_zero, List.set_cons_succ])
          refine seq_is (v := .int .i64 (1)) rfl (run_move rfl rfl) ?_
          (try simp only [Act.put, List.setIfInBounds_toArray, List.set_cons_zero, List.set_cons_succ])
          refine seq_is (v := .string (tlS a0 1)) rfl (run_cutS (i := 1) (by omega) rfl rfl rfl) ?_
          (try simp only [Act.put, List.setIfInBounds_toArray, List.set_cons_zero, List.set_cons_succ])
          refine seq_call Z rfl rfl Try.func85 rfl rfl (args1 rfl) (Z.callMii (trammelref01_Read.sem (s := (tlS a0 1)) (by omega))) ?_; clear Z; intro x10 W Z
          (try simp only [Act.put, List.setIfInBounds_toArray, List.set_cons_zero, List.set_cons_succ])
          refine seq_is (v := .tuple #[x10.v, .int .i64 (rdP (tlS a0 1)), .int .i64 (rdE (tlS a0 1))]) rfl (run_move rfl rfl) ?_
          (try simp only [Act.put, List.setIfInBounds_toArray, List.set_cons_zero, List.set_cons_succ])
          refine seq_is (v := x10.v) rfl (run_extract rfl rfl rfl) ?_
          (try simp only [Act.put, List.setIfInBounds_toArray, List.set_cons_zero, List.set_cons_succ])
          refine seq_is (v := .int .i64 (rdP (tlS a0 1))) rfl (run_extract rfl rfl rfl) ?_
          (try simp only [Act.put, List.setIfInBounds_toArray, List.set_cons_zero, List.set_cons_succ])
          refine seq_is (v := .int .i64 (rdE (tlS a0 1))) rfl (run_extract rfl rfl rfl) ?_
          (try simp only [Act.put, List.setIfInBounds_toArray, List.set_cons_zero, List.set_cons_succ])
          refine seq_is (v := x10.v) rfl (run_assign rfl rfl) ?_
          (try simp only [Act.put, List.setIfInBounds_toArray, List.set_cons_zero, List.set_cons_succ])
          refine seq_is (v := .int .i64 (rdP (tlS a0 1))) rfl (run_assign rfl rfl) ?_
          (try simp only [Act.put, List.setIfInBounds_toArray, List.set_cons_zero, List.set_cons_succ])
          refine seq_is (v := .int .i64 (rdE (tlS a0 1))) rfl (run_assign rfl rfl) ?_
          (try simp only [Act.put, List.setIfInBounds_toArray, List.set_cons_zero, List.set_cons_succ])
          show Code.wp _ _ _ _ _
          refine wp_seq ?_
          refine wp_seq ?_
          have hPr := rdP_rng (tlS a0 1)
          refine wp_region_list ?_
          refine seq_is (v := .int .i64 (rdE (tlS a0 1))) rfl (run_move rfl rfl) ?_
          (try simp only [Act.put, List.setIfInBounds_toArray, List.set_cons_zero, List.set_cons_succ])
          refine seq_is (v := .bool (decide ((rdE (tlS a0 1)) ≠ (0)))) rfl (run_neq rfl rfl rfl) ?_
          (try simp only [Act.put, List.setIfInBounds_toArray, List.set_cons_zero, List.set_cons_succ])
          show Code.wp _ _ _ _ _
          refine wp_cond_split (t := decide ((rdE (tlS a0 1)) ≠ (0))) rfl ?_ ?_
          · intro hc11
            have p_hc11 := of_decide_eq_true hc11
            refine wp_seq ?_
            refine wp_region_list ?_
            refine seq_is (v := .agg #[.bool (false), .slice none 0 0]) rfl (run_build0 rfl) ?_
            (try simp only [Act.put, List.setIfInBounds_toArray, List.set_cons_zero, List.set_cons_succ])
            refine seq_is (v := .int .i64 (1)) rfl (run_move rfl rfl) ?_
            (try simp only [Act.put, List.setIfInBounds_toArray, List.set_cons_zero, List.set_cons_succ])
            refine seq_is (v := .int .i64 (rdP (tlS a0 1))) rfl (run_move rfl rfl) ?_
            (try simp only [Act.put, List.setIfInBounds_toArray, List.set_cons_zero, List.set_cons_succ])
            refine seq_is (v := .int .i64 (1 + rdP (tlS a0 1))) rfl (run_add' (w64 (by omega) (by omega)) rfl rfl rfl) ?_
            (try simp only [Act.put, List.setIfInBounds_toArray, List.set_cons_zero, List.set_cons_succ])
            refine seq_store Z 0 rfl rfl rfl rfl rfl ?_; clear Z; intro W Z
            (try simp only [Act.put, List.setIfInBounds_toArray, List.set_cons_zero, List.set_cons_succ])
            refine seq_is (v := .int .i64 (1 + rdP (tlS a0 1))) rfl (run_assign rfl rfl) ?_
            (try simp only [Act.put, List.setIfInBounds_toArray, List.set_cons_zero, List.set_cons_succ])
            refine seq_is (v := .int .i64 (4)) rfl (run_assign rfl rfl) ?_
            (try simp only [Act.put, List.setIfInBounds_toArray, List.set_cons_zero, List.set_cons_succ])
            show Code.wp _ _ _ _ _
            refine wp_ret ?_
            have hR := (readZ_err (by omega) hA hz (rdE_four p_hc11))
            exact Z.nought.endsIii (u := .int .i64 (1 + rdP (tlS a0 1))) (u2 := .int .i64 (4)) 0 0 rfl rfl rfl rfl rfl rfl rfl (by rw [hR]; try rfl) (by rw [hR]; refine congrArg (Value.int .i64) ?_; dsimp only; omega) (by rw [hR]; try rfl)
          · intro hc11
            have p_hc11 := of_decide_eq_false hc11
            refine wp_skip ?_
            show Code.wp _ _ _ _ _
            refine wp_seq ?_
            refine wp_region_list ?_
            refine seq_is (v := .int .i64 (1)) rfl (run_move rfl rfl) ?_
            (try simp only [Act.put, List.setIfInBounds_toArray, List.set_cons_zero, List.set_cons_succ])
            refine seq_is (v := .bool (decide ((1 : Int) = (1)))) rfl (run_eql rfl rfl rfl) ?_
            (try simp only [Act.put, List.setIfInBounds_toArray, List.set_cons_zero, List.set_cons_succ])
            refine seq_is (v := x10.v) rfl (run_move rfl rfl) ?_
            (try simp only [Act.put, List.setIfInBounds_toArray, List.set_cons_zero, List.set_cons_succ])
            refine seq_call Z rfl rfl Try.func73 rfl rfl (args2 rfl rfl) (Z.callI (trammelref02_made.res (Z.ownM 0 rfl rdN_rng.1 (fm_ten rdN_rng.1 rdN_rng.2 (by omega))))) ?_; clear Z; intro x12 W Z
            (try simp only [Act.put, List.setIfInBounds_toArray, List.set_cons_zero, List.set_cons_succ])
            refine seq_store Z 0 rfl rfl rfl rfl rfl ?_; clear Z; intro W Z
            (try simp only [Act.put, List.setIfInBounds_toArray, List.set_cons_zero, List.set_cons_succ])
            refine seq_is (v := .int .i64 (0)) rfl (run_assign rfl rfl) ?_
            (try simp only [Act.put, List.setIfInBounds_toArray, List.set_cons_zero, List.set_cons_succ])
            refine seq_is (v := .int .i64 (0)) rfl (run_assign rfl rfl) ?_
            (try simp only [Act.put, List.setIfInBounds_toArray, List.set_cons_zero, List.set_cons_succ])
            show Code.wp _ _ _ _ _
            refine wp_ret ?_
            have hR := (readZ_ok (by omega) hA hz (Classical.not_not.mp p_hc11))
            exact Z.endsIii (u := .int .i64 (0)) (u2 := .int .i64 (0)) 0 0 rfl rfl rfl rfl rfl rfl rfl (by rw [hR]; try rfl) (by rw [hR]; try rfl) (by rw [hR]; try rfl)
      · intro hc4
        have p_hc4 := of_decide_eq_false hc4
        refine wp_skip ?_
        show Code.wp _ _ _ _ _
        refine wp_seq ?_
        refine wp_seq ?_
        have hA : rdAt a0 = 0 := rdAt_no' p_hc4
        have hT := tlS_size (s := a0) (k := 0)
        refine wp_region_list ?_
        refine seq_is (v := .int .i64 (0)) rfl (run_move rfl rfl) ?_
        (try simp only [Act.put, List.setIfInBounds_toArray, List.set_cons_zero, List.set_cons_succ])
        refine seq_is (v := .bool (decide ((0 : Int) = (1)))) rfl (run_eql rfl rfl rfl) ?_
        (try simp only [Act.put, List.setIfInBounds_toArray, List.set_cons_zero, List.set_cons_succ])
        refine seq_is (v := .bool (decide ((0 : Int) = (1)))) rfl (run_move rfl rfl) ?_
        (try simp only [Act.put, List.setIfInBounds_toArray, List.set_cons_zero, List.set_cons_succ])
        refine list_unwant rfl rfl (congrArg some (congrArg Value.bool (Eq.refl false))) (by decide) ?_
        (try simp only [Act.put, List.setIfInBounds_toArray, List.set_cons_zero, List.set_cons_succ])
        refine list_unwant rfl rfl (congrArg some (congrArg Value.bool (Eq.refl false))) (by decide) ?_
        (try simp only [Act.put, List.setIfInBounds_toArray, List.set_cons_zero, List.set_cons_succ])
        refine list_unwant rfl rfl (congrArg some (congrArg Value.bool (Eq.refl false))) (by decide) ?_
        (try simp only [Act.put, List.setIfInBounds_toArray, List.set_cons_zero, List.set_cons_succ])
        refine seq_is (v := .bool (ff)) rfl (run_cast (run_pickF rfl rfl rfl) hff.symm) ?_
        (try simp only [Act.put, List.setIfInBounds_toArray, List.set_cons_zero, List.set_cons_succ])
        refine seq_is (v := .bool (ff)) rfl (run_move rfl rfl) ?_
        (try simp only [Act.put, List.setIfInBounds_toArray, List.set_cons_zero, List.set_cons_succ])
        refine list_unwant rfl rfl (congrArg some (congrArg Value.bool hff)) (by decide) ?_
        (try simp only [Act.put, List.setIfInBounds_toArray, List.set_cons_zero, List.set_cons_succ])
        refine list_unwant rfl rfl (congrArg some (congrArg Value.bool hff)) (by decide) ?_
        (try simp only [Act.put, List.setIfInBounds_toArray, List.set_cons_zero, List.set_cons_succ])
        refine list_unwant rfl rfl (congrArg some (congrArg Value.bool hff)) (by decide) ?_
        (try simp only [Act.put, List.setIfInBounds_toArray, List.set_cons_zero, List.set_cons_succ])
        refine seq_is (v := .bool (ff)) rfl (run_cast (run_pickF rfl ((show _ = Value.bool (ff) from rfl).trans (congrArg Value.bool hff)) rfl) hff.symm) ?_
        (try simp only [Act.put, List.setIfInBounds_toArray, List.set_cons_zero, List.set_cons_succ])
        show Code.wp _ _ _ _ _
        refine wp_cond_false ((show _ = Value.bool (ff) from rfl).trans (congrArg Value.bool hff)) ?_
        refine wp_skip ?_
        show Code.wp _ _ _ _ _
        refine wp_seq ?_
        have hz : ¬ (0 = 1 ∧ 1 < a0.size ∧ bt a0 1 = 48) := by omega
        refine wp_region_list ?_
        refine seq_is (v := .string a0) rfl (run_move rfl rfl) ?_
        (try simp only [Act.put, List.setIfInBounds_toArray, List.set_cons_zero, List.set_cons_succ])
        refine seq_is (v := .int .i64 (0)) rfl (run_move rfl rfl) ?_
        (try simp only [Act.put, List.setIfInBounds_toArray, List.set_cons_zero, List.set_cons_succ])
        refine seq_is (v := .string (tlS a0 0)) rfl (run_cutS (i := 0) (by omega) rfl rfl rfl) ?_
        (try simp only [Act.put, List.setIfInBounds_toArray, List.set_cons_zero, List.set_cons_succ])
        refine seq_call Z rfl rfl Try.func85 rfl rfl (args1 rfl) (Z.callMii (trammelref01_Read.sem (s := (tlS a0 0)) (by omega))) ?_; clear Z; intro x13 W Z
        (try simp only [Act.put, List.setIfInBounds_toArray, List.set_cons_zero, List.set_cons_succ])
        refine seq_is (v := .tuple #[x13.v, .int .i64 (rdP (tlS a0 0)), .int .i64 (rdE (tlS a0 0))]) rfl (run_move rfl rfl) ?_
        (try simp only [Act.put, List.setIfInBounds_toArray, List.set_cons_zero, List.set_cons_succ])
        refine seq_is (v := x13.v) rfl (run_extract rfl rfl rfl) ?_
        (try simp only [Act.put, List.setIfInBounds_toArray, List.set_cons_zero, List.set_cons_succ])
        refine seq_is (v := .int .i64 (rdP (tlS a0 0))) rfl (run_extract rfl rfl rfl) ?_
        (try simp only [Act.put, List.setIfInBounds_toArray, List.set_cons_zero, List.set_cons_succ])
        refine seq_is (v := .int .i64 (rdE (tlS a0 0))) rfl (run_extract rfl rfl rfl) ?_
        (try simp only [Act.put, List.setIfInBounds_toArray, List.set_cons_zero, List.set_cons_succ])
        refine seq_is (v := x13.v) rfl (run_assign rfl rfl) ?_
        (try simp only [Act.put, List.setIfInBounds_toArray, List.set_cons_zero, List.set_cons_succ])
        refine seq_is (v := .int .i64 (rdP (tlS a0 0))) rfl (run_assign rfl rfl) ?_
        (try simp only [Act.put, List.setIfInBounds_toArray, List.set_cons_zero, List.set_cons_succ])
        refine seq_is (v := .int .i64 (rdE (tlS a0 0))) rfl (run_assign rfl rfl) ?_
        (try simp only [Act.put, List.setIfInBounds_toArray, List.set_cons_zero, List.set_cons_succ])
        show Code.wp _ _ _ _ _
        refine wp_seq ?_
        refine wp_seq ?_
        have hPr := rdP_rng (tlS a0 0)
        refine wp_region_list ?_
        refine seq_is (v := .int .i64 (rdE (tlS a0 0))) rfl (run_move rfl rfl) ?_
        (try simp only [Act.put, List.setIfInBounds_toArray, List.set_cons_zero, List.set_cons_succ])
        refine seq_is (v := .bool (decide ((rdE (tlS a0 0)) ≠ (0)))) rfl (run_neq rfl rfl rfl) ?_
        (try simp only [Act.put, List.setIfInBounds_toArray, List.set_cons_zero, List.set_cons_succ])
        show Code.wp _ _ _ _ _
        refine wp_cond_split (t := decide ((rdE (tlS a0 0)) ≠ (0))) rfl ?_ ?_
        · intro hc14
          have p_hc14 := of_decide_eq_true hc14
          refine wp_seq ?_
          refine wp_region_list ?_
          refine seq_is (v := .agg #[.bool (false), .slice none 0 0]) rfl (run_build0 rfl) ?_
          (try simp only [Act.put, List.setIfInBounds_toArray, List.set_cons_zero, List.set_cons_succ])
          refine seq_is (v := .int .i64 (0)) rfl (run_move rfl rfl) ?_
          (try simp only [Act.put, List.setIfInBounds_toArray, List.set_cons_zero, List.set_cons_succ])
          refine seq_is (v := .int .i64 (rdP (tlS a0 0))) rfl (run_move rfl rfl) ?_
          (try simp only [Act.put, List.setIfInBounds_toArray, List.set_cons_zero, List.set_cons_succ])
          refine seq_is (v := .int .i64 (0 + rdP (tlS a0 0))) rfl (run_add' (w64 (by omega) (by omega)) rfl rfl rfl) ?_
          (try simp only [Act.put, List.setIfInBounds_toArray, List.set_cons_zero, List.set_cons_succ])
          refine seq_store Z 0 rfl rfl rfl rfl rfl ?_; clear Z; intro W Z
          (try simp only [Act.put, List.setIfInBounds_toArray, List.set_cons_zero, List.set_cons_succ])
          refine seq_is (v := .int .i64 (0 + rdP (tlS a0 0))) rfl (run_assign rfl rfl) ?_
          (try simp only [Act.put, List.setIfInBounds_toArray, List.set_cons_zero, List.set_cons_succ])
          refine seq_is (v := .int .i64 (4)) rfl (run_assign rfl rfl) ?_
          (try simp only [Act.put, List.setIfInBounds_toArray, List.set_cons_zero, List.set_cons_succ])
          show Code.wp _ _ _ _ _
          refine wp_ret ?_
          have hR := (readZ_err (by omega) hA hz (rdE_four p_hc14))
          exact Z.nought.endsIii (u := .int .i64 (0 + rdP (tlS a0 0))) (u2 := .int .i64 (4)) 0 0 rfl rfl rfl rfl rfl rfl rfl (by rw [hR]; try rfl) (by rw [hR]; refine congrArg (Value.int .i64) ?_; dsimp only; omega) (by rw [hR]; try rfl)
        · intro hc14
          have p_hc14 := of_decide_eq_false hc14
          refine wp_skip ?_
          show Code.wp _ _ _ _ _
          refine wp_seq ?_
          refine wp_region_list ?_
          refine seq_is (v := .int .i64 (0)) rfl (run_move rfl rfl) ?_
          (try simp only [Act.put, List.setIfInBounds_toArray, List.set_cons_zero, List.set_cons_succ])
          refine seq_is (v := .bool (decide ((0 : Int) = (1)))) rfl (run_eql rfl rfl rfl) ?_
          (try simp only [Act.put, List.setIfInBounds_toArray, List.set_cons_zero, List.set_cons_succ])
          refine seq_is (v := x13.v) rfl (run_move rfl rfl) ?_
          (try simp only [Act.put, List.setIfInBounds_toArray, List.set_cons_zero, List.set_cons_succ])
          refine seq_call Z rfl rfl Try.func73 rfl rfl (args2 rfl rfl) (Z.callI (trammelref02_made.res (Z.ownM 0 rfl rdN_rng.1 (fm_ten rdN_rng.1 rdN_rng.2 (by omega))))) ?_; clear Z; intro x15 W Z
          (try simp only [Act.put, List.setIfInBounds_toArray, List.set_cons_zero, List.set_cons_succ])
          refine seq_store Z 0 rfl rfl rfl rfl rfl ?_; clear Z; intro W Z
          (try simp only [Act.put, List.setIfInBounds_toArray, List.set_cons_zero, List.set_cons_succ])
          refine seq_is (v := .int .i64 (0)) rfl (run_assign rfl rfl) ?_
          (try simp only [Act.put, List.setIfInBounds_toArray, List.set_cons_zero, List.set_cons_succ])
          refine seq_is (v := .int .i64 (0)) rfl (run_assign rfl rfl) ?_
          (try simp only [Act.put, List.setIfInBounds_toArray, List.set_cons_zero, List.set_cons_succ])
          show Code.wp _ _ _ _ _
          refine wp_ret ?_
          have hR := (readZ_ok (by omega) hA hz (Classical.not_not.mp p_hc14))
          exact Z.endsIii (u := .int .i64 (0)) (u2 := .int .i64 (0)) 0 0 rfl rfl rfl rfl rfl rfl rfl (by rw [hR]; try rfl) (by rw [hR]; try rfl) (by rw [hR]; try rfl)
    · have p_hk3 := of_decide_eq_false hk3
      refine wp_region_list ?_
      refine seq_is (v := .string a0) rfl (run_move rfl rfl) ?_
      (try simp only [Act.put, List.setIfInBounds_toArray, List.set_cons_zero, List.set_cons_succ])
      refine seq_is (v := .int .i64 (((a0.size : Nat) : Int))) rfl (run_lenS rfl rfl) ?_
      (try simp only [Act.put, List.setIfInBounds_toArray, List.set_cons_zero, List.set_cons_succ])
      refine seq_is (v := .bool (decide ((0) < (((a0.size : Nat) : Int))))) rfl (run_gtr rfl rfl rfl) ?_
      (try simp only [Act.put, List.setIfInBounds_toArray, List.set_cons_zero, List.set_cons_succ])
      refine seq_is (v := .bool (decide ((0) < (((a0.size : Nat) : Int))))) rfl (run_move rfl rfl) ?_
      (try simp only [Act.put, List.setIfInBounds_toArray, List.set_cons_zero, List.set_cons_succ])
      refine list_unwant rfl rfl (congrArg some (congrArg Value.bool hk3)) (by decide) ?_
      (try simp only [Act.put, List.setIfInBounds_toArray, List.set_cons_zero, List.set_cons_succ])
      refine list_unwant rfl rfl (congrArg some (congrArg Value.bool hk3)) (by decide) ?_
      (try simp only [Act.put, List.setIfInBounds_toArray, List.set_cons_zero, List.set_cons_succ])
      refine list_unwant rfl rfl (congrArg some (congrArg Value.bool hk3)) (by decide) ?_
      (try simp only [Act.put, List.setIfInBounds_toArray, List.set_cons_zero, List.set_cons_succ])
      refine seq_is (v := .bool (ff)) rfl (run_cast (run_pickF rfl ((show _ = Value.bool (decide ((0) < (((a0.size : Nat) : Int)))) from rfl).trans (congrArg Value.bool hk3)) rfl) hff.symm) ?_
      (try simp only [Act.put, List.setIfInBounds_toArray, List.set_cons_zero, List.set_cons_succ])
      show Code.wp _ _ _ _ _
      refine wp_cond_false ((show _ = Value.bool (ff) from rfl).trans (congrArg Value.bool hff)) ?_
      refine wp_skip ?_
      show Code.wp _ _ _ _ _
      refine wp_seq ?_
      refine wp_seq ?_
      have hA : rdAt a0 = 0 := rdAt_no (by omega)
      have hT := tlS_size (s := a0) (k := 0)
      refine wp_region_list ?_
      refine seq_is (v := .int .i64 (0)) rfl (run_move rfl rfl) ?_
      (try simp only [Act.put, List.setIfInBounds_toArray, List.set_cons_zero, List.set_cons_succ])
      refine seq_is (v := .bool (decide ((0 : Int) = (1)))) rfl (run_eql rfl rfl rfl) ?_
      (try simp only [Act.put, List.setIfInBounds_toArray, List.set_cons_zero, List.set_cons_succ])
      refine seq_is (v := .bool (decide ((0 : Int) = (1)))) rfl (run_move rfl rfl) ?_
      (try simp only [Act.put, List.setIfInBounds_toArray, List.set_cons_zero, List.set_cons_succ])
      refine list_unwant rfl rfl (congrArg some (congrArg Value.bool (Eq.refl false))) (by decide) ?_
      (try simp only [Act.put, List.setIfInBounds_toArray, List.set_cons_zero, List.set_cons_succ])
      refine list_unwant rfl rfl (congrArg some (congrArg Value.bool (Eq.refl false))) (by decide) ?_
      (try simp only [Act.put, List.setIfInBounds_toArray, List.set_cons_zero, List.set_cons_succ])
      refine list_unwant rfl rfl (congrArg some (congrArg Value.bool (Eq.refl false))) (by decide) ?_
      (try simp only [Act.put, List.setIfInBounds_toArray, List.set_cons_zero, List.set_cons_succ])
      refine seq_is (v := .bool (ff)) rfl (run_cast (run_pickF rfl rfl rfl) hff.symm) ?_
      (try simp only [Act.put, List.setIfInBounds_toArray, List.set_cons_zero, List.set_cons_succ])
      refine seq_is (v := .bool (ff)) rfl (run_move rfl rfl) ?_
      (try simp only [Act.put, List.setIfInBounds_toArray, List.set_cons_zero, List.set_cons_succ])
      refine list_unwant rfl rfl (congrArg some (congrArg Value.bool hff)) (by decide) ?_
      (try simp only [Act.put, List.setIfInBounds_toArray, List.set_cons_zero, List.set_cons_succ])
      refine list_unwant rfl rfl (congrArg some (congrArg Value.bool hff)) (by decide) ?_
      (try simp only [Act.put, List.setIfInBounds_toArray, List.set_cons_zero, List.set_cons_succ])
      refine list_unwant rfl rfl (congrArg some (congrArg Value.bool hff)) (by decide) ?_
      (try simp only [Act.put, List.setIfInBounds_toArray, List.set_cons_zero, List.set_cons_succ])
      refine seq_is (v := .bool (ff)) rfl (run_cast (run_pickF rfl ((show _ = Value.bool (ff) from rfl).trans (congrArg Value.bool hff)) rfl) hff.symm) ?_
      (try simp only [Act.put, List.setIfInBounds_toArray, List.set_cons_zero, List.set_cons_succ])
      show Code.wp _ _ _ _ _
      refine wp_cond_false ((show _ = Value.bool (ff) from rfl).trans (congrArg Value.bool hff)) ?_
      refine wp_skip ?_
      show Code.wp _ _ _ _ _
      refine wp_seq ?_
      have hz : ¬ (0 = 1 ∧ 1 < a0.size ∧ bt a0 1 = 48) := by omega
      refine wp_region_list ?_
      refine seq_is (v := .string a0) rfl (run_move rfl rfl) ?_
      (try simp only [Act.put, List.setIfInBounds_toArray, List.set_cons_zero, List.set_cons_succ])
      refine seq_is (v := .int .i64 (0)) rfl (run_move rfl rfl) ?_
      (try simp only [Act.put, List.setIfInBounds_toArray, List.set_cons_zero, List.set_cons_succ])
      refine seq_is (v := .string (tlS a0 0)) rfl (run_cutS (i := 0) (by omega) rfl rfl rfl) ?_
      (try simp only [Act.put, List.setIfInBounds_toArray, List.set_cons_zero, List.set_cons_succ])
      refine seq_call Z rfl rfl Try.func85 rfl rfl (args1 rfl) (Z.callMii (trammelref01_Read.sem (s := (tlS a0 0)) (by omega))) ?_; clear Z; intro x16 W Z
      (try simp only [Act.put, List.setIfInBounds_toArray, List.set_cons_zero, List.set_cons_succ])
      refine seq_is (v := .tuple #[x16.v, .int .i64 (rdP (tlS a0 0)), .int .i64 (rdE (tlS a0 0))]) rfl (run_move rfl rfl) ?_
      (try simp only [Act.put, List.setIfInBounds_toArray, List.set_cons_zero, List.set_cons_succ])
      refine seq_is (v := x16.v) rfl (run_extract rfl rfl rfl) ?_
      (try simp only [Act.put, List.setIfInBounds_toArray, List.set_cons_zero, List.set_cons_succ])
      refine seq_is (v := .int .i64 (rdP (tlS a0 0))) rfl (run_extract rfl rfl rfl) ?_
      (try simp only [Act.put, List.setIfInBounds_toArray, List.set_cons_zero, List.set_cons_succ])
      refine seq_is (v := .int .i64 (rdE (tlS a0 0))) rfl (run_extract rfl rfl rfl) ?_
      (try simp only [Act.put, List.setIfInBounds_toArray, List.set_cons_zero, List.set_cons_succ])
      refine seq_is (v := x16.v) rfl (run_assign rfl rfl) ?_
      (try simp only [Act.put, List.setIfInBounds_toArray, List.set_cons_zero, List.set_cons_succ])
      refine seq_is (v := .int .i64 (rdP (tlS a0 0))) rfl (run_assign rfl rfl) ?_
      (try simp only [Act.put, List.setIfInBounds_toArray, List.set_cons_zero, List.set_cons_succ])
      refine seq_is (v := .int .i64 (rdE (tlS a0 0))) rfl (run_assign rfl rfl) ?_
      (try simp only [Act.put, List.setIfInBounds_toArray, List.set_cons_zero, List.set_cons_succ])
      show Code.wp _ _ _ _ _
      refine wp_seq ?_
      refine wp_seq ?_
      have hPr := rdP_rng (tlS a0 0)
      refine wp_region_list ?_
      refine seq_is (v := .int .i64 (rdE (tlS a0 0))) rfl (run_move rfl rfl) ?_
      (try simp only [Act.put, List.setIfInBounds_toArray, List.set_cons_zero, List.set_cons_succ])
      refine seq_is (v := .bool (decide ((rdE (tlS a0 0)) ≠ (0)))) rfl (run_neq rfl rfl rfl) ?_
      (try simp only [Act.put, List.setIfInBounds_toArray, List.set_cons_zero, List.set_cons_succ])
      show Code.wp _ _ _ _ _
      refine wp_cond_split (t := decide ((rdE (tlS a0 0)) ≠ (0))) rfl ?_ ?_
      · intro hc17
        have p_hc17 := of_decide_eq_true hc17
        refine wp_seq ?_
        refine wp_region_list ?_
        refine seq_is (v := .agg #[.bool (false), .slice none 0 0]) rfl (run_build0 rfl) ?_
        (try simp only [Act.put, List.setIfInBounds_toArray, List.set_cons_zero, List.set_cons_succ])
        refine seq_is (v := .int .i64 (0)) rfl (run_move rfl rfl) ?_
        (try simp only [Act.put, List.setIfInBounds_toArray, List.set_cons_zero, List.set_cons_succ])
        refine seq_is (v := .int .i64 (rdP (tlS a0 0))) rfl (run_move rfl rfl) ?_
        (try simp only [Act.put, List.setIfInBounds_toArray, List.set_cons_zero, List.set_cons_succ])
        refine seq_is (v := .int .i64 (0 + rdP (tlS a0 0))) rfl (run_add' (w64 (by omega) (by omega)) rfl rfl rfl) ?_
        (try simp only [Act.put, List.setIfInBounds_toArray, List.set_cons_zero, List.set_cons_succ])
        refine seq_store Z 0 rfl rfl rfl rfl rfl ?_; clear Z; intro W Z
        (try simp only [Act.put, List.setIfInBounds_toArray, List.set_cons_zero, List.set_cons_succ])
        refine seq_is (v := .int .i64 (0 + rdP (tlS a0 0))) rfl (run_assign rfl rfl) ?_
        (try simp only [Act.put, List.setIfInBounds_toArray, List.set_cons_zero, List.set_cons_succ])
        refine seq_is (v := .int .i64 (4)) rfl (run_assign rfl rfl) ?_
        (try simp only [Act.put, List.setIfInBounds_toArray, List.set_cons_zero, List.set_cons_succ])
        show Code.wp _ _ _ _ _
        refine wp_ret ?_
        have hR := (readZ_err (by omega) hA hz (rdE_four p_hc17))
        exact Z.nought.endsIii (u := .int .i64 (0 + rdP (tlS a0 0))) (u2 := .int .i64 (4)) 0 0 rfl rfl rfl rfl rfl rfl rfl (by rw [hR]; try rfl) (by rw [hR]; refine congrArg (Value.int .i64) ?_; dsimp only; omega) (by rw [hR]; try rfl)
      · intro hc17
        have p_hc17 := of_decide_eq_false hc17
        refine wp_skip ?_
        show Code.wp _ _ _ _ _
        refine wp_seq ?_
        refine wp_region_list ?_
        refine seq_is (v := .int .i64 (0)) rfl (run_move rfl rfl) ?_
        (try simp only [Act.put, List.setIfInBounds_toArray, List.set_cons_zero, List.set_cons_succ])
        refine seq_is (v := .bool (decide ((0 : Int) = (1)))) rfl (run_eql rfl rfl rfl) ?_
        (try simp only [Act.put, List.setIfInBounds_toArray, List.set_cons_zero, List.set_cons_succ])
        refine seq_is (v := x16.v) rfl (run_move rfl rfl) ?_
        (try simp only [Act.put, List.setIfInBounds_toArray, List.set_cons_zero, List.set_cons_succ])
        refine seq_call Z rfl rfl Try.func73 rfl rfl (args2 rfl rfl) (Z.callI (trammelref02_made.res (Z.ownM 0 rfl rdN_rng.1 (fm_ten rdN_rng.1 rdN_rng.2 (by omega))))) ?_; clear Z; intro x18 W Z
        (try simp only [Act.put, List.setIfInBounds_toArray, List.set_cons_zero, List.set_cons_succ])
        refine seq_store Z 0 rfl rfl rfl rfl rfl ?_; clear Z; intro W Z
        (try simp only [Act.put, List.setIfInBounds_toArray, List.set_cons_zero, List.set_cons_succ])
        refine seq_is (v := .int .i64 (0)) rfl (run_assign rfl rfl) ?_
        (try simp only [Act.put, List.setIfInBounds_toArray, List.set_cons_zero, List.set_cons_succ])
        refine seq_is (v := .int .i64 (0)) rfl (run_assign rfl rfl) ?_
        (try simp only [Act.put, List.setIfInBounds_toArray, List.set_cons_zero, List.set_cons_succ])
        show Code.wp _ _ _ _ _
        refine wp_ret ?_
        have hR := (readZ_ok (by omega) hA hz (Classical.not_not.mp p_hc17))
        exact Z.endsIii (u := .int .i64 (0)) (u2 := .int .i64 (0)) 0 0 rfl rfl rfl rfl rfl rfl rfl (by rw [hR]; try rfl) (by rw [hR]; try rfl) (by rw [hR]; try rfl)
end Go.Proofs.Ytmbmbmkmjbpcpaa.PA

