-- printed by a program of this session
import Derived.Test.YtmbmbmkmjbpcpaaPAx0K
import Derived.Test.YtmbmbmkmjbpcpaaPAx3K
import Derived.Test.YtmbmbmkmjbpcpaaPAx6K
namespace Go.Proofs.Ytmbmbmkmjbpcpaa.PA
open Go.RowKit Go.Proofs.YtmbmbmkmjbpcpaaW.PrintWords Go.Proofs.YtmbmbmkmjbpcpaaW.PrintLast Go.Proofs.YtmbmbmkmjbpcpaaW.PrintMore
attribute [local go_sem] max2_int min2_int max_two min_two max_three min_three max_four min_four   -- for this text's walks alone
set_option linter.unusedVariables false
set_option linter.unusedSimpArgs false

/-! ### trammelref01_Read: function 85 -/
mutual
def trammelref01_Read.l0 : Nat → ByteArray → List Int → Int → Option (List Int × Int × Int)
  | 0, _, _, _ => none
  | k + 1, x0, x5, x6 => if x6 < (x0.size : Int) then (if 0 ≤ x6 then (if (bt x0 x6) < 48 then (trammelref01_Read.j1 k x0 x5 x6 true) else (if (bt x0 x6) > 57 then (trammelref01_Read.j1 k x0 x5 x6 true) else (if x6 = 1 then (if 0 < (x0.size : Int) then (trammelref01_Read.j1 k x0 x5 x6 ((bt x0 0) == 48)) else (none)) else (trammelref01_Read.j1 k x0 x5 x6 false)))) else (none)) else (some (x5, 0, 0))
def trammelref01_Read.j1 : Nat → ByteArray → List Int → Int → Bool → Option (List Int × Int × Int)
  | 0, _, _, _, _ => none
  | k + 1, x0, x5, x6, x37 => if x37 = true then (some (([] : List Int), x6, 4)) else ((trammelref01_Mul.f k x5 (([10] : List Int))).bind fun t280 => (if 0 ≤ x6 then (if x6 < (x0.size : Int) then ((trammelref01_Add.f k t280 (([((bt x0 x6) - 48) % 256] : List Int))).bind fun t286 => (trammelref01_Read.l0 k x0 t286 (wrap64 (x6 + 1)))) else (none)) else (none)))
end
def trammelref01_Read.f (k : Nat) (a0 : ByteArray) : Option (List Int × Int × Int) := if (a0.size : Int) > 65536 then (some (([] : List Int), 0, 2)) else (if (a0.size : Int) = 0 then (some (([] : List Int), 0, 4)) else (trammelref01_Read.l0 k a0 ([] : List Int) 0))
def trammelref01_Read.T11 : Bool × List (List Nat × List Nat) := (true, [([], []), ([], []), ([0, 1], [0, 1]), ([], []), ([], []), ([3, 4], [3, 4]), ([5], [5]), ([6], [6]), ([7], [7]), ([2, 8, 2], [2, 8]), ([9, 9, 0, 1, 2, 3, 4, 5, 6, 7, 8, 9], [0, 9])])
def trammelref01_Read.B11 : List Nat := [0, 0, 3, 0, 0, 24, 56, 120, 248, 511, 1023]
theorem trammelref01_Read.tab11 : rtab .any (opsOf Try.f85 11) = trammelref01_Read.T11 := by kernel_rfl
theorem trammelref01_Read.bits11 : waitsOk trammelref01_Read.T11.2 trammelref01_Read.B11 = true := by kernel_rfl
set_option maxHeartbeats 8000000 in
set_option maxRecDepth 100000 in
theorem trammelref01_Read.calls (k : Nat) (a0 : ByteArray) (r1 : List Int) (r2 : Int) (r3 : Int) (w : World) (h : trammelref01_Read.f k a0 = some (r1, r2, r3)) :
    Calls Try.prog 85 #[.string a0] w fun e w' => ∃ v0_ : Value, e = .returned (.tuple #[v0_, .int .i64 r2, .int .i64 r3]) ∧ Kd.R (Kd.int .u32) 68 w' w.heap.size (fun _ => True) v0_ r1 ∧ Below w.heap.size w w' := by
  have HB := Aside0.mk (Below.refl w.heap.size w)
  have H : (if (a0.size : Int) > 65536 then (some (([] : List Int), 0, 2)) else (if (a0.size : Int) = 0 then (some (([] : List Int), 0, 4)) else (trammelref01_Read.l0 k a0 ([] : List Int) 0))) = some (r1, r2, r3) := h
  clear h
  by_cases c2 : (a0.size : Int) > 65536
  · rw [if_pos c2] at H
    have c2b0 : decide (65536 < (a0.size : Int)) = true := decide_eq_true c2
    have c2b1 : decide (65536 < a0.size) = true := decide_eq_true (by omega)
    clear c2
    simp only [Option.some.injEq, Prod.mk.injEq] at H
    obtain ⟨rfl, rfl, rfl⟩ := H
    go_enter Try.func85, Try.ntmps85
    go_wp2
    go_ret3
    exact ⟨_, by rfl, by exact Kd.R_nil _ _ _ _ _, by repeat ((with_reducible exact HB.out))⟩
  · rw [if_neg c2] at H
    have c2b0 : decide (65536 < (a0.size : Int)) = false := decide_eq_false c2
    have c2b1 : decide (65536 < a0.size) = false := decide_eq_false (by omega)
    clear c2
    by_cases c3 : (a0.size : Int) = 0
    · rw [if_pos c3] at H
      have c3b0 : ((a0.size : Int) == 0) = true := beq_iff_eq.mpr c3
      have c3b1 : ((a0.size : Int) != 0) = false := bne_eq_false_iff_eq.mpr c3
      clear c3
      simp only [Option.some.injEq, Prod.mk.injEq] at H
      obtain ⟨rfl, rfl, rfl⟩ := H
      go_enter Try.func85, Try.ntmps85
      go_wp2
      go_ret3
      exact ⟨_, by rfl, by exact Kd.R_nil _ _ _ _ _, by repeat ((with_reducible exact HB.out))⟩
    · rw [if_neg c3] at H
      have c3b0 : ((a0.size : Int) == 0) = false := beq_eq_false_iff_ne.mpr c3
      have c3b1 : ((a0.size : Int) != 0) = true := bne_iff_ne.mpr c3
      have H' := Aside0.mk H
      clear H
      go_enter Try.func85, Try.ntmps85
      go_wp2
      go_loopg [5, 6] k (fun kq v5 v6 w' => ∃ (x5_1 : List Int) (x6_1 : Int), v6 = .int .i64 x6_1 ∧ Aside0 (trammelref01_Read.l0 kq a0 x5_1 x6_1 = some (r1, r2, r3)) ∧ Aside0 (kq ≤ k) ∧ Aside0 (Kd.R (Kd.int .u32) 68 w' w.heap.size (fun _ => True) v5 x5_1) ∧ Aside0 (Below w.heap.size w w'))
      case atStart => exact ⟨(([] : List Int)), (0), (by rfl), H', ⟨Nat.le_refl _⟩, ⟨by exact Kd.R_nil _ _ _ _ _⟩, ⟨by repeat ((with_reducible exact HB.out))⟩⟩
      case round =>
        clear H'
        skip
        try clear c2b0
        try clear c2b1
        skip
        try clear c3
        try clear c3b0
        try clear c3b1
        obtain ⟨x5_1, x6_1, rfl, HA, HK1, HO_5, HB⟩ := hrel
        cases gk with
        | zero => exact absurd HA.out (by simp [trammelref01_Read.l0])
        | succ k1 =>
          have H := HA.out
          clear HA
          simp only [trammelref01_Read.l0] at H
          by_cases c4 : x6_1 < (a0.size : Int)
          · rw [if_pos c4] at H
            have c4b0 : decide (x6_1 < (a0.size : Int)) = true := decide_eq_true c4
            clear c4
            have HC5 := Aside0.mk H
            clear H
            go_upto_region 9 with (fail)
            go_cut [37] (fun v37 wc => ∃ (kq : Nat) (x37_4 : Bool), v37 = .bool x37_4 ∧ Aside0 (trammelref01_Read.j1 kq a0 x5_1 x6_1 x37_4 = some (r1, r2, r3)) ∧ Aside0 (kq ≤ k1) ∧ Aside0 (Kd.R (Kd.int .u32) 68 wc w.heap.size (fun _ => True) u5 x5_1) ∧ Aside0 (Below w.heap.size w wc))
            case first =>
              have H := HC5.out
              clear HC5
              by_cases c6 : 0 ≤ x6_1
              · rw [if_pos c6] at H
                have c6b0 : decide (0 ≤ x6_1) = true := decide_eq_true c6
                clear c6
                by_cases c8 : (bt a0 x6_1) < 48
                · rw [if_pos c8] at H
                  have c8b0 : decide ((bt a0 x6_1) < 48) = true := decide_eq_true c8
                  clear c8
                  have H' := Aside0.mk H
                  clear H
                  have p7 : 0 ≤ (x6_1 : Int) := of_decide_eq_true (by (with_reducible assumption))
                  have q7 : x6_1 < (a0.size : Int) := of_decide_eq_true (by (with_reducible assumption))
                  have hx7 := bt_at a0 x6_1
                  replace p7 := eq_true p7
                  replace q7 := eq_true q7
                  go_wp2
                  go_meet
                  case rel => exact ⟨_, (true), (by rfl), (by with_reducible exact H'), ⟨by have := HK1.out; omega⟩, ⟨by exact HO_5.out⟩, ⟨by repeat ((with_reducible exact HB.out))⟩⟩
                · rw [if_neg c8] at H
                  have c8b0 : decide ((bt a0 x6_1) < 48) = false := decide_eq_false c8
                  clear c8
                  by_cases c10 : (bt a0 x6_1) > 57
                  · rw [if_pos c10] at H
                    have c10b0 : decide (57 < (bt a0 x6_1)) = true := decide_eq_true c10
                    clear c10
                    have H' := Aside0.mk H
                    clear H
                    have p7 : 0 ≤ (x6_1 : Int) := of_decide_eq_true (by (with_reducible assumption))
                    have q7 : x6_1 < (a0.size : Int) := of_decide_eq_true (by (with_reducible assumption))
                    have hx7 := bt_at a0 x6_1
                    replace p7 := eq_true p7
                    replace q7 := eq_true q7
                    have p9 : 0 ≤ (x6_1 : Int) := of_decide_eq_true (by (with_reducible assumption))
                    have q9 : x6_1 < (a0.size : Int) := of_decide_eq_true (by (with_reducible assumption))
                    have hx9 := bt_at a0 x6_1
                    replace p9 := eq_true p9
                    replace q9 := eq_true q9
                    go_wp2
                    go_meet
                    case rel => exact ⟨_, (true), (by rfl), (by with_reducible exact H'), ⟨by have := HK1.out; omega⟩, ⟨by exact HO_5.out⟩, ⟨by repeat ((with_reducible exact HB.out))⟩⟩
                  · rw [if_neg c10] at H
                    have c10b0 : decide (57 < (bt a0 x6_1)) = false := decide_eq_false c10
                    clear c10
                    by_cases c11 : x6_1 = 1
                    · rw [if_pos c11] at H
                      have c11b0 : (x6_1 == 1) = true := beq_iff_eq.mpr c11
                      have c11b1 : (x6_1 != 1) = false := bne_eq_false_iff_eq.mpr c11
                      clear c11
                      by_cases c12 : 0 < (a0.size : Int)
                      · rw [if_pos c12] at H
                        have c12b0 : decide (0 < (a0.size : Int)) = true := decide_eq_true c12
                        have c12b1 : decide (0 < a0.size) = true := decide_eq_true (by omega)
                        clear c12
                        have H' := Aside0.mk H
                        clear H
                        have p7 : 0 ≤ (x6_1 : Int) := of_decide_eq_true (by (with_reducible assumption))
                        have q7 : x6_1 < (a0.size : Int) := of_decide_eq_true (by (with_reducible assumption))
                        have hx7 := bt_at a0 x6_1
                        replace p7 := eq_true p7
                        replace q7 := eq_true q7
                        have p9 : 0 ≤ (x6_1 : Int) := of_decide_eq_true (by (with_reducible assumption))
                        have q9 : x6_1 < (a0.size : Int) := of_decide_eq_true (by (with_reducible assumption))
                        have hx9 := bt_at a0 x6_1
                        replace p9 := eq_true p9
                        replace q9 := eq_true q9
                        have p13 : 0 ≤ (0 : Int) := (by omega)
                        have q13 : 0 < a0.size := (by have : (0 : Int) < (a0.size : Int) := of_decide_eq_true (by (with_reducible assumption)); omega)
                        have hx13 : ∀ h : 0 < a0.size, ((a0[0]'h).toNat : Int) = bt a0 0 := bt_at a0 0
                        clear p13
                        have qi13 : (0 < (a0.size : Int)) = True := eq_true (of_decide_eq_true (by (with_reducible assumption)))
                        replace q13 := eq_true q13
                        go_wp2
                        go_meet
                        case rel => exact ⟨_, (((bt a0 0) == 48)), (by rfl), (by with_reducible exact H'), ⟨by have := HK1.out; omega⟩, ⟨by exact HO_5.out⟩, ⟨by repeat ((with_reducible exact HB.out))⟩⟩
                      · rw [if_neg c12] at H
                        exact absurd H (by simp)
                    · rw [if_neg c11] at H
                      have c11b0 : (x6_1 == 1) = false := beq_eq_false_iff_ne.mpr c11
                      have c11b1 : (x6_1 != 1) = true := bne_iff_ne.mpr c11
                      have H' := Aside0.mk H
                      clear H
                      have p7 : 0 ≤ (x6_1 : Int) := of_decide_eq_true (by (with_reducible assumption))
                      have q7 : x6_1 < (a0.size : Int) := of_decide_eq_true (by (with_reducible assumption))
                      have hx7 := bt_at a0 x6_1
                      replace p7 := eq_true p7
                      replace q7 := eq_true q7
                      have p9 : 0 ≤ (x6_1 : Int) := of_decide_eq_true (by (with_reducible assumption))
                      have q9 : x6_1 < (a0.size : Int) := of_decide_eq_true (by (with_reducible assumption))
                      have hx9 := bt_at a0 x6_1
                      replace p9 := eq_true p9
                      replace q9 := eq_true q9
                      go_wp2
                      go_meet
                      case rel => exact ⟨_, (false), (by rfl), (by with_reducible exact H'), ⟨by have := HK1.out; omega⟩, ⟨by exact HO_5.out⟩, ⟨by repeat ((with_reducible exact HB.out))⟩⟩
              · rw [if_neg c6] at H
                exact absurd H (by simp)
            case rest =>
              clear HC5
              skip
              skip
              skip
              skip
              skip
              skip
              skip
              skip
              skip
              skip
              skip
              skip
              skip
              try clear c4b0
              skip
              skip
              skip
              skip
              skip
              skip
              skip
              skip
              skip
              skip
              skip
              skip
              skip
              skip
              skip
              skip
              skip
              skip
              skip
              skip
              skip
              skip
              skip
              skip
              skip
              skip
              skip
              skip
              skip
              obtain ⟨kq, x37_4, rfl, HA, HJ4, HO_5, HB⟩ := hcut
              cases kq with
              | zero => exact absurd HA.out (by simp [trammelref01_Read.j1])
              | succ kj4 =>
                have H := HA.out
                clear HA
                simp only [trammelref01_Read.j1] at H
                by_cases c14 : x37_4 = true
                · subst c14
                  have H1 : (some (([] : List Int), x6_1, 4)) = some (r1, r2, r3) := by rw [if_pos rfl] at H; exact H
                  clear H
                  have H := H1
                  clear H1
                  simp only [Option.some.injEq, Prod.mk.injEq] at H
                  obtain ⟨rfl, rfl, rfl⟩ := H
                  go_wp2
                  go_ret3
                  exact ⟨_, by rfl, by exact Kd.R_nil _ _ _ _ _, by repeat ((with_reducible exact HB.out))⟩
                · replace c14 := Bool.eq_false_iff.mpr c14
                  subst c14
                  have H1 : ((trammelref01_Mul.f kj4 x5_1 (([10] : List Int))).bind fun t280 => (if 0 ≤ x6_1 then (if x6_1 < (a0.size : Int) then ((trammelref01_Add.f kj4 t280 (([((bt a0 x6_1) - 48) % 256] : List Int))).bind fun t286 => (trammelref01_Read.l0 kj4 a0 t286 (wrap64 (x6_1 + 1)))) else (none)) else (none))) = some (r1, r2, r3) := by rw [if_neg (show ¬ (false = true) by decide)] at H; exact H
                  clear H
                  have H := H1
                  clear H1
                  obtain ⟨y277, hy277⟩ : ∃ y_ : List Int, y_ = (([10] : List Int)) := ⟨_, rfl⟩
                  replace H : ((trammelref01_Mul.f kj4 x5_1 y277).bind fun t280 => (if 0 ≤ x6_1 then (if x6_1 < (a0.size : Int) then ((trammelref01_Add.f kj4 t280 (([((bt a0 x6_1) - 48) % 256] : List Int))).bind fun t286 => (trammelref01_Read.l0 kj4 a0 t286 (wrap64 (x6_1 + 1)))) else (none)) else (none))) = some (r1, r2, r3) := by (rw [hy277]; with_reducible exact H)
                  have Ny277 := Aside0.mk hy277
                  clear hy277
                  replace H := Option.bind_eq_some_iff.mp H
                  obtain ⟨t280, A150, H⟩ := H
                  replace H : (if 0 ≤ x6_1 then (if x6_1 < (a0.size : Int) then ((trammelref01_Add.f kj4 t280 (([((bt a0 x6_1) - 48) % 256] : List Int))).bind fun t286 => (trammelref01_Read.l0 kj4 a0 t286 (wrap64 (x6_1 + 1)))) else (none)) else (none)) = some (r1, r2, r3) := H
                  have A15 := Aside0.mk A150
                  clear A150
                  by_cases c16 : 0 ≤ x6_1
                  · rw [if_pos c16] at H
                    have c16b0 : decide (0 ≤ x6_1) = true := decide_eq_true c16
                    clear c16
                    by_cases c17 : x6_1 < (a0.size : Int)
                    · rw [if_pos c17] at H
                      have c17b0 : decide (x6_1 < (a0.size : Int)) = true := decide_eq_true c17
                      clear c17
                      obtain ⟨y283, hy283⟩ : ∃ y_ : List Int, y_ = (([((bt a0 x6_1) - 48) % 256] : List Int)) := ⟨_, rfl⟩
                      replace H : ((trammelref01_Add.f kj4 t280 y283).bind fun t286 => (trammelref01_Read.l0 kj4 a0 t286 (wrap64 (x6_1 + 1)))) = some (r1, r2, r3) := by (rw [hy283]; with_reducible exact H)
                      have Ny283 := Aside0.mk hy283
                      clear hy283
                      replace H := Option.bind_eq_some_iff.mp H
                      obtain ⟨t286, A190, H⟩ := H
                      replace H : (trammelref01_Read.l0 kj4 a0 t286 (wrap64 (x6_1 + 1))) = some (r1, r2, r3) := H
                      have A19 := Aside0.mk A190
                      clear A190
                      have H' := Aside0.mk H
                      clear H
                      obtain ⟨Ao20, co20, eo20⟩ := Kd.R_slice HO_5.out
                      subst eo20
                      try go_wp2
                      have n0_ := Aside0.mk (Kd.R_drew HO_5.out)
                      have n1_ := Aside0.mk (below_drew1 HB.out)
                      clear HO_5
                      clear HB
                      have HO_5 := n0_
                      have HB := n1_
                      clear n0_ n1_
                      have p18 : 0 ≤ (x6_1 : Int) := of_decide_eq_true (by (with_reducible assumption))
                      have q18 : x6_1 < (a0.size : Int) := of_decide_eq_true (by (with_reducible assumption))
                      have hx18 := bt_at a0 x6_1
                      replace p18 := eq_true p18
                      replace q18 := eq_true q18
                      refine start_ (n := 11) (S := fun w' => True) (ds := []) #[false, false, false, false, false, false, false, false, false, false, false] (by kernel_rfl) rfl rfl trivial (fun hHeld => ?_); refine with_tabW trammelref01_Read.tab11 trammelref01_Read.bits11 (fun HT_ HW_ => ?_)
                      generalize wc.drew = w21 at HO_5 HB hHeld ⊢
                      refine pure_ (i := 0) (N := some 39) (v := ?_) (a' := ?_) #[true, false, false, false, false, false, false, false, false, false, false] rfl rfl (any_of HT_.out (by kernel_rfl)) (fun _ _ _ h => h) (Or.inl ⟨by rfl, ?_⟩) ?_ ?_
                      rotate_left
                      · intro w'
                        go_simp
                        with_reducible rfl
                      rotate_left
                      · simp only [Act.put, List.setIfInBounds_toArray, List.set_cons_zero, List.set_cons_succ, i64_w, i32_w]
                        rfl
                      refine pure_ (i := 3) (N := some 42) (v := ?_) (a' := ?_) #[true, false, false, true, false, false, false, false, false, false, false] rfl rfl (any_of HT_.out (by kernel_rfl)) (fun _ _ _ h => h) (Or.inl ⟨by rfl, ?_⟩) ?_ ?_
                      rotate_left
                      · intro w'
                        go_simp
                        with_reducible rfl
                      rotate_left
                      · simp only [Act.put, List.setIfInBounds_toArray, List.set_cons_zero, List.set_cons_succ, i64_w, i32_w]
                        rfl
                      refine pure_ (i := 4) (N := some 43) (v := ?_) (a' := ?_) #[true, false, false, true, true, false, false, false, false, false, false] rfl rfl (any_of HT_.out (by kernel_rfl)) (fun _ _ _ h => h) (Or.inl ⟨by rfl, ?_⟩) ?_ ?_
                      rotate_left
                      · intro w'
                        go_simp
                        with_reducible rfl
                      rotate_left
                      · simp only [Act.put, List.setIfInBounds_toArray, List.set_cons_zero, List.set_cons_succ, i64_w, i32_w]
                        rfl
                      refine take_ (i := 5) (N := some 44) (v := ?_) (a' := ?_) #[true, false, false, true, true, true, false, false, false, false, false] rfl rfl (take_ofW HT_.out HW_.out (by kernel_rfl)) (fun _ _ _ h => h) (Or.inl ⟨by rfl, ?_⟩) hHeld ?_ ?_
                      rotate_left
                      · intro w' _
                        go_simp
                        with_reducible rfl
                      rotate_left
                      · simp only [Act.put, List.setIfInBounds_toArray, List.set_cons_zero, List.set_cons_succ, i64_w, i32_w]
                        rfl
                      refine pure_ (i := 6) (N := some 45) (v := ?_) (a' := ?_) #[true, false, false, true, true, true, true, false, false, false, false] rfl rfl (any_of HT_.out (by kernel_rfl)) (fun _ _ _ h => h) (Or.inl ⟨by rfl, ?_⟩) ?_ ?_
                      rotate_left
                      · intro w'
                        go_simp
                        with_reducible rfl
                      rotate_left
                      · simp only [Act.put, List.setIfInBounds_toArray, List.set_cons_zero, List.set_cons_succ, i64_w, i32_w]
                        rfl
                      refine pure_ (i := 7) (N := some 46) (v := ?_) (a' := ?_) #[true, false, false, true, true, true, true, true, false, false, false] rfl rfl (any_of HT_.out (by kernel_rfl)) (fun _ _ _ h => h) (Or.inl ⟨by rfl, ?_⟩) ?_ ?_
                      rotate_left
                      · intro w'
                        go_simp
                        with_reducible rfl
                      rotate_left
                      · simp only [Act.put, List.setIfInBounds_toArray, List.set_cons_zero, List.set_cons_succ, i64_w, i32_w]
                        rfl
                      refine join_ (σ := Value × Value × Value) 2 #[true, true, true, true, true, true, true, true, true, false, false] (fun s_ => [(40, s_.1), (41, s_.2.1), (47, s_.2.2)]) (fun s_ w' => (Kd.R (Kd.int .u32) 68 w' w.heap.size (fun k_ => some k_ ≠ (s_.2.1 : Value).ownBlock ∧ some k_ ≠ (s_.2.2 : Value).ownBlock ∧ some k_ ≠ (.slice Ao20 x5_1.length co20 : Value).ownBlock) s_.1 y277) ∧ (Kd.R (Kd.int .u32) 68 w' w.heap.size (fun k_ => some k_ ≠ (s_.1 : Value).ownBlock ∧ some k_ ≠ (s_.2.2 : Value).ownBlock ∧ some k_ ≠ (.slice Ao20 x5_1.length co20 : Value).ownBlock) s_.2.1 t280) ∧ (Kd.R (Kd.int .u32) 68 w' w.heap.size (fun k_ => some k_ ≠ (s_.1 : Value).ownBlock ∧ some k_ ≠ (s_.2.1 : Value).ownBlock ∧ some k_ ≠ (.slice Ao20 x5_1.length co20 : Value).ownBlock) s_.2.2 y283) ∧ (Kd.R (Kd.int .u32) 68 w' w.heap.size (fun k_ => some k_ ≠ (s_.1 : Value).ownBlock ∧ some k_ ≠ (s_.2.1 : Value).ownBlock ∧ some k_ ≠ (s_.2.2 : Value).ownBlock) (.slice Ao20 x5_1.length co20) x5_1) ∧ (Below w.heap.size w w')) ?_ ?_
                      rotate_left
                      · intro hCont
                        refine two_ (i := 1) (j := 8) (Ni := some 40) (Nj := some 47) #[true, true, false, true, true, true, true, true, false, false, false] #[true, false, false, true, true, true, true, true, true, false, false] rfl rfl rfl rfl (two_of HT_.out (by kernel_rfl)) (by decide) (by decide) (fun K hK => ?_) (fun K hK => ?_)
                        · skip
                          refine Kd.R_lit_step (Kd.int .u32) _ 68 ?hg (N := 40) ?hd (xs := ([10] : List Int)) (inner := [.int .u32 10]) (ok := fun _ => True) (okp := fun _ => True) ?hr ?hp (fun _ hk => hk) trivial (Below.refl _ _) (Nat.le_refl _) (by simp) ?_; (case hd => rfl); (case hg => rfl); (case hr => (go_simp; done)); (case hp => exact (Reps.one (show Kd.M (Kd.int .u32) _ _ _ 10 [.int .u32 10] from rfl) (Reps.none _ _)))
                          intro v278 w22 ho23 hb hg_ hnew_
                          clear hg_ hnew_
                          (rw [← Ny277.out] at ho23)
                          have n0_ := Aside0.mk (Kd.R_elder' (by exact HO_5.out) (Kd.R_base ho23) hb)
                          have n1_ := Aside0.mk (Kd.R_lower (Kd.R_new' ho23 (Kd.R_lt (by exact HO_5.out))) (below_size (by repeat ((with_reducible exact HB.out)))))
                          have n2_ := Aside0.mk (below_step (by repeat ((with_reducible exact HB.out))) hb)
                          clear HO_5
                          clear HB
                          have HO_5 := n0_
                          have HO279 := n1_
                          have HB := n2_
                          clear n0_ n1_ n2_
                          clear hb ho23
                          obtain ⟨Ao24, co24, eo24⟩ := Kd.R_slice HO279.out
                          (subst eo24)
                          refine hK.out _ _ trivial (fun hHeld => ?_)
                          clear hK K
                          refine norm_ (a' := ?_) ?_ ?_
                          rotate_left
                          · show Act.put _ (some 40) _ = _
                            simp only [Act.put, List.setIfInBounds_toArray, List.set_cons_zero, List.set_cons_succ, i64_w, i32_w]
                            rfl
                          refine two_ (i := 2) (j := 8) (Ni := some 41) (Nj := some 47) #[true, true, true, true, true, true, true, true, false, false, false] #[true, true, false, true, true, true, true, true, true, false, false] rfl rfl rfl rfl (two_of HT_.out (by kernel_rfl)) (by decide) (by decide) (fun K hK => ?_) (fun K hK => ?_)
                          · skip
                            refine goes_ Try.func78 (by kernel_rfl) rfl #[.slice Ao20 x5_1.length co20, .slice Ao24 y277.length co24] (by rfl) rfl rfl (by (try simp only [List.map_toArray, List.map_cons, List.map_nil]); rfl) ?_
                            with_reducible refine (trammelref01_Mul.calls kj4 _ _ x5_1 _ _ y277 t280 _ ?side1 ?side2 ?side3 ?side4 A15.out).mono ?_
                            (case side1 => repeat (exact (Kd.R_reads' HO_5.out).2.2))
                            (case side2 => exact (Kd.R_reads' HO_5.out).2.1)
                            (case side3 => repeat (exact (Kd.R_reads' HO279.out).2.2))
                            (case side4 => exact (Kd.R_reads' HO279.out).2.1)
                            rintro e w25 ⟨v281, rfl, ho0, hb⟩
                            refine ⟨_, rfl, ?_⟩
                            have n0_ := Aside0.mk (Kd.R_elder' (by exact HO_5.out) (Kd.R_base ho0) hb)
                            have n1_ := Aside0.mk (Kd.R_elder' (by exact HO279.out) (Kd.R_base ho0) hb)
                            have n2_ := Aside0.mk (Kd.R_lower (Kd.R_new' (Kd.R_new' ho0 (Kd.R_lt (by exact HO_5.out))) (Kd.R_lt (by exact HO279.out))) (below_size (by repeat ((with_reducible exact HB.out)))))
                            have n3_ := Aside0.mk (below_step (by repeat ((with_reducible exact HB.out))) hb)
                            clear HO_5
                            clear HO279
                            clear HB
                            have HO_5 := n0_
                            have HO279 := n1_
                            have HO282 := n2_
                            have HB := n3_
                            clear n0_ n1_ n2_ n3_
                            (try clear hb)
                            (try clear ho0)
                            refine hK.out _ _ trivial (fun hHeld => ?_)
                            clear hK K
                            refine norm_ (a' := ?_) ?_ ?_
                            rotate_left
                            · show Act.put _ (some 41) _ = _
                              simp only [Act.put, List.setIfInBounds_toArray, List.set_cons_zero, List.set_cons_succ, i64_w, i32_w]
                              rfl
                            refine one_ (i := 8) (N := some 47) #[true, true, true, true, true, true, true, true, true, false, false] rfl rfl (one_of HT_.out (by kernel_rfl)) (by decide) (fun K hK => ?_)
                            refine Kd.R_lit_step (Kd.int .u32) _ 68 ?hg (N := 47) ?hd (xs := ([((bt a0 x6_1) - 48) % 256] : List Int)) (inner := [.int .u32 (((bt a0 x6_1) - 48) % 256)]) (ok := fun _ => True) (okp := fun _ => True) ?hr ?hp (fun _ hk => hk) trivial (Below.refl _ _) (Nat.le_refl _) (by simp) ?_; (case hd => rfl); (case hg => rfl); (case hr => (go_simp; simp only [u32_u8]; done)); (case hp => exact (Reps.one (show Kd.M (Kd.int .u32) _ _ _ (((bt a0 x6_1) - 48) % 256) [.int .u32 (((bt a0 x6_1) - 48) % 256)] from rfl) (Reps.none _ _)))
                            intro v284 w26 ho27 hb hg_ hnew_
                            clear hg_ hnew_
                            (rw [← Ny283.out] at ho27)
                            have n0_ := Aside0.mk (Kd.R_elder' (by exact HO_5.out) (Kd.R_base ho27) hb)
                            have n1_ := Aside0.mk (Kd.R_elder' (by exact HO279.out) (Kd.R_base ho27) hb)
                            have n2_ := Aside0.mk (Kd.R_elder' (by exact HO282.out) (Kd.R_base ho27) hb)
                            have n3_ := Aside0.mk (Kd.R_lower (Kd.R_new' (Kd.R_new' (Kd.R_new' ho27 (Kd.R_lt (by exact HO_5.out))) (Kd.R_lt (by exact HO279.out))) (Kd.R_lt (by exact HO282.out))) (below_size (by repeat ((with_reducible exact HB.out)))))
                            have n4_ := Aside0.mk (below_step (by repeat ((with_reducible exact HB.out))) hb)
                            clear HO_5
                            clear HO279
                            clear HO282
                            clear HB
                            have HO_5 := n0_
                            have HO279 := n1_
                            have HO282 := n2_
                            have HO285 := n3_
                            have HB := n4_
                            clear n0_ n1_ n2_ n3_ n4_
                            clear hb ho27
                            refine hK.out _ _ trivial (fun hHeld => ?_)
                            clear hK K
                            refine norm_ (a' := ?_) ?_ ?_
                            rotate_left
                            · show Act.put _ (some 47) _ = _
                              simp only [Act.put, List.setIfInBounds_toArray, List.set_cons_zero, List.set_cons_succ, i64_w, i32_w]
                              rfl
                            exact norm_ (by simp only [putAll, Act.put, List.setIfInBounds_toArray, List.set_cons_zero, List.set_cons_succ]) (hCont (.slice Ao24 y277.length co24, v281, v284) _ ⟨(by exact Kd.R_mono HO279.out (fun _ hk => ⟨hk.1.2, ⟨hk.2, hk.1.1.2⟩⟩)), (by exact Kd.R_mono HO282.out (fun _ hk => ⟨hk.1.2, ⟨hk.2, hk.1.1.2⟩⟩)), (by exact Kd.R_mono HO285.out (fun _ hk => ⟨hk.1.2, ⟨hk.2, hk.1.1.2⟩⟩)), (by exact Kd.R_mono HO_5.out (fun _ hk => ⟨hk.1.1.2, ⟨hk.1.2, hk.2⟩⟩)), (by repeat ((with_reducible exact HB.out)))⟩)
                          · skip
                            refine Kd.R_lit_step (Kd.int .u32) _ 68 ?hg (N := 47) ?hd (xs := ([((bt a0 x6_1) - 48) % 256] : List Int)) (inner := [.int .u32 (((bt a0 x6_1) - 48) % 256)]) (ok := fun _ => True) (okp := fun _ => True) ?hr ?hp (fun _ hk => hk) trivial (Below.refl _ _) (Nat.le_refl _) (by simp) ?_; (case hd => rfl); (case hg => rfl); (case hr => (go_simp; simp only [u32_u8]; done)); (case hp => exact (Reps.one (show Kd.M (Kd.int .u32) _ _ _ (((bt a0 x6_1) - 48) % 256) [.int .u32 (((bt a0 x6_1) - 48) % 256)] from rfl) (Reps.none _ _)))
                            intro v284 w24 ho25 hb hg_ hnew_
                            clear hg_ hnew_
                            (rw [← Ny283.out] at ho25)
                            have n0_ := Aside0.mk (Kd.R_elder' (by exact HO_5.out) (Kd.R_base ho25) hb)
                            have n1_ := Aside0.mk (Kd.R_elder' (by exact HO279.out) (Kd.R_base ho25) hb)
                            have n2_ := Aside0.mk (Kd.R_lower (Kd.R_new' (Kd.R_new' ho25 (Kd.R_lt (by exact HO_5.out))) (Kd.R_lt (by exact HO279.out))) (below_size (by repeat ((with_reducible exact HB.out)))))
                            have n3_ := Aside0.mk (below_step (by repeat ((with_reducible exact HB.out))) hb)
                            clear HO_5
                            clear HO279
                            clear HB
                            have HO_5 := n0_
                            have HO279 := n1_
                            have HO285 := n2_
                            have HB := n3_
                            clear n0_ n1_ n2_ n3_
                            clear hb ho25
                            obtain ⟨Ao26, co26, eo26⟩ := Kd.R_slice HO279.out
                            ((injection eo26 with f1_ f2_ f3_; have f4_ := f1_.symm; have f5_ := f3_.symm; clear f1_ f2_ f3_; subst f4_; subst f5_))
                            refine hK.out _ _ trivial (fun hHeld => ?_)
                            clear hK K
                            refine norm_ (a' := ?_) ?_ ?_
                            rotate_left
                            · show Act.put _ (some 47) _ = _
                              simp only [Act.put, List.setIfInBounds_toArray, List.set_cons_zero, List.set_cons_succ, i64_w, i32_w]
                              rfl
                            refine one_ (i := 2) (N := some 41) #[true, true, true, true, true, true, true, true, true, false, false] rfl rfl (one_of HT_.out (by kernel_rfl)) (by decide) (fun K hK => ?_)
                            refine goes_ Try.func78 (by kernel_rfl) rfl #[.slice Ao20 x5_1.length co20, .slice Ao26 y277.length co26] (by rfl) rfl rfl (by (try simp only [List.map_toArray, List.map_cons, List.map_nil]); rfl) ?_
                            with_reducible refine (trammelref01_Mul.calls kj4 _ _ x5_1 _ _ y277 t280 _ ?side1 ?side2 ?side3 ?side4 A15.out).mono ?_
                            (case side1 => repeat (exact (Kd.R_reads' HO_5.out).2.2))
                            (case side2 => exact (Kd.R_reads' HO_5.out).2.1)
                            (case side3 => repeat (exact (Kd.R_reads' HO279.out).2.2))
                            (case side4 => exact (Kd.R_reads' HO279.out).2.1)
                            rintro e w27 ⟨v281, rfl, ho0, hb⟩
                            refine ⟨_, rfl, ?_⟩
                            have n0_ := Aside0.mk (Kd.R_elder' (by exact HO_5.out) (Kd.R_base ho0) hb)
                            have n1_ := Aside0.mk (Kd.R_elder' (by exact HO279.out) (Kd.R_base ho0) hb)
                            have n2_ := Aside0.mk (Kd.R_elder' (by exact HO285.out) (Kd.R_base ho0) hb)
                            have n3_ := Aside0.mk (Kd.R_lower (Kd.R_new' (Kd.R_new' (Kd.R_new' ho0 (Kd.R_lt (by exact HO_5.out))) (Kd.R_lt (by exact HO279.out))) (Kd.R_lt (by exact HO285.out))) (below_size (by repeat ((with_reducible exact HB.out)))))
                            have n4_ := Aside0.mk (below_step (by repeat ((with_reducible exact HB.out))) hb)
                            clear HO_5
                            clear HO279
                            clear HO285
                            clear HB
                            have HO_5 := n0_
                            have HO279 := n1_
                            have HO285 := n2_
                            have HO282 := n3_
                            have HB := n4_
                            clear n0_ n1_ n2_ n3_ n4_
                            (try clear hb)
                            (try clear ho0)
                            refine hK.out _ _ trivial (fun hHeld => ?_)
                            clear hK K
                            refine norm_ (a' := ?_) ?_ ?_
                            rotate_left
                            · show Act.put _ (some 41) _ = _
                              simp only [Act.put, List.setIfInBounds_toArray, List.set_cons_zero, List.set_cons_succ, i64_w, i32_w]
                              rfl
                            exact norm_ (by simp only [putAll, Act.put, List.setIfInBounds_toArray, List.set_cons_zero, List.set_cons_succ]) (hCont (.slice Ao26 y277.length co26, v281, v284) _ ⟨(by exact Kd.R_mono HO279.out (fun _ hk => ⟨hk.2, ⟨hk.1.2, hk.1.1.2⟩⟩)), (by exact Kd.R_mono HO282.out (fun _ hk => ⟨hk.1.2, ⟨hk.2, hk.1.1.2⟩⟩)), (by exact Kd.R_mono HO285.out (fun _ hk => ⟨hk.1.2, ⟨hk.2, hk.1.1.2⟩⟩)), (by exact Kd.R_mono HO_5.out (fun _ hk => ⟨hk.1.1.2, ⟨hk.2, hk.1.2⟩⟩)), (by repeat ((with_reducible exact HB.out)))⟩)
                        · skip
                          refine Kd.R_lit_step (Kd.int .u32) _ 68 ?hg (N := 47) ?hd (xs := ([((bt a0 x6_1) - 48) % 256] : List Int)) (inner := [.int .u32 (((bt a0 x6_1) - 48) % 256)]) (ok := fun _ => True) (okp := fun _ => True) ?hr ?hp (fun _ hk => hk) trivial (Below.refl _ _) (Nat.le_refl _) (by simp) ?_; (case hd => rfl); (case hg => rfl); (case hr => (go_simp; simp only [u32_u8]; done)); (case hp => exact (Reps.one (show Kd.M (Kd.int .u32) _ _ _ (((bt a0 x6_1) - 48) % 256) [.int .u32 (((bt a0 x6_1) - 48) % 256)] from rfl) (Reps.none _ _)))
                          intro v284 w22 ho23 hb hg_ hnew_
                          clear hg_ hnew_
                          (rw [← Ny283.out] at ho23)
                          have n0_ := Aside0.mk (Kd.R_elder' (by exact HO_5.out) (Kd.R_base ho23) hb)
                          have n1_ := Aside0.mk (Kd.R_lower (Kd.R_new' ho23 (Kd.R_lt (by exact HO_5.out))) (below_size (by repeat ((with_reducible exact HB.out)))))
                          have n2_ := Aside0.mk (below_step (by repeat ((with_reducible exact HB.out))) hb)
                          clear HO_5
                          clear HB
                          have HO_5 := n0_
                          have HO285 := n1_
                          have HB := n2_
                          clear n0_ n1_ n2_
                          clear hb ho23
                          refine hK.out _ _ trivial (fun hHeld => ?_)
                          clear hK K
                          refine norm_ (a' := ?_) ?_ ?_
                          rotate_left
                          · show Act.put _ (some 47) _ = _
                            simp only [Act.put, List.setIfInBounds_toArray, List.set_cons_zero, List.set_cons_succ, i64_w, i32_w]
                            rfl
                          refine one_ (i := 1) (N := some 40) #[true, true, false, true, true, true, true, true, true, false, false] rfl rfl (one_of HT_.out (by kernel_rfl)) (by decide) (fun K hK => ?_)
                          refine Kd.R_lit_step (Kd.int .u32) _ 68 ?hg (N := 40) ?hd (xs := ([10] : List Int)) (inner := [.int .u32 10]) (ok := fun _ => True) (okp := fun _ => True) ?hr ?hp (fun _ hk => hk) trivial (Below.refl _ _) (Nat.le_refl _) (by simp) ?_; (case hd => rfl); (case hg => rfl); (case hr => (go_simp; done)); (case hp => exact (Reps.one (show Kd.M (Kd.int .u32) _ _ _ 10 [.int .u32 10] from rfl) (Reps.none _ _)))
                          intro v278 w24 ho25 hb hg_ hnew_
                          clear hg_ hnew_
                          (rw [← Ny277.out] at ho25)
                          have n0_ := Aside0.mk (Kd.R_elder' (by exact HO_5.out) (Kd.R_base ho25) hb)
                          have n1_ := Aside0.mk (Kd.R_elder' (by exact HO285.out) (Kd.R_base ho25) hb)
                          have n2_ := Aside0.mk (Kd.R_lower (Kd.R_new' (Kd.R_new' ho25 (Kd.R_lt (by exact HO_5.out))) (Kd.R_lt (by exact HO285.out))) (below_size (by repeat ((with_reducible exact HB.out)))))
                          have n3_ := Aside0.mk (below_step (by repeat ((with_reducible exact HB.out))) hb)
                          clear HO_5
                          clear HO285
                          clear HB
                          have HO_5 := n0_
                          have HO285 := n1_
                          have HO279 := n2_
                          have HB := n3_
                          clear n0_ n1_ n2_ n3_
                          clear hb ho25
                          obtain ⟨Ao26, co26, eo26⟩ := Kd.R_slice HO279.out
                          (subst eo26)
                          refine hK.out _ _ trivial (fun hHeld => ?_)
                          clear hK K
                          refine norm_ (a' := ?_) ?_ ?_
                          rotate_left
                          · show Act.put _ (some 40) _ = _
                            simp only [Act.put, List.setIfInBounds_toArray, List.set_cons_zero, List.set_cons_succ, i64_w, i32_w]
                            rfl
                          refine one_ (i := 2) (N := some 41) #[true, true, true, true, true, true, true, true, true, false, false] rfl rfl (one_of HT_.out (by kernel_rfl)) (by decide) (fun K hK => ?_)
                          refine goes_ Try.func78 (by kernel_rfl) rfl #[.slice Ao20 x5_1.length co20, .slice Ao26 y277.length co26] (by rfl) rfl rfl (by (try simp only [List.map_toArray, List.map_cons, List.map_nil]); rfl) ?_
                          with_reducible refine (trammelref01_Mul.calls kj4 _ _ x5_1 _ _ y277 t280 _ ?side1 ?side2 ?side3 ?side4 A15.out).mono ?_
                          (case side1 => repeat (exact (Kd.R_reads' HO_5.out).2.2))
                          (case side2 => exact (Kd.R_reads' HO_5.out).2.1)
                          (case side3 => repeat (exact (Kd.R_reads' HO279.out).2.2))
                          (case side4 => exact (Kd.R_reads' HO279.out).2.1)
                          rintro e w27 ⟨v281, rfl, ho0, hb⟩
                          refine ⟨_, rfl, ?_⟩
                          have n0_ := Aside0.mk (Kd.R_elder' (by exact HO_5.out) (Kd.R_base ho0) hb)
                          have n1_ := Aside0.mk (Kd.R_elder' (by exact HO285.out) (Kd.R_base ho0) hb)
                          have n2_ := Aside0.mk (Kd.R_elder' (by exact HO279.out) (Kd.R_base ho0) hb)
                          have n3_ := Aside0.mk (Kd.R_lower (Kd.R_new' (Kd.R_new' (Kd.R_new' ho0 (Kd.R_lt (by exact HO_5.out))) (Kd.R_lt (by exact HO285.out))) (Kd.R_lt (by exact HO279.out))) (below_size (by repeat ((with_reducible exact HB.out)))))
                          have n4_ := Aside0.mk (below_step (by repeat ((with_reducible exact HB.out))) hb)
                          clear HO_5
                          clear HO285
                          clear HO279
                          clear HB
                          have HO_5 := n0_
                          have HO285 := n1_
                          have HO279 := n2_
                          have HO282 := n3_
                          have HB := n4_
                          clear n0_ n1_ n2_ n3_ n4_
                          (try clear hb)
                          (try clear ho0)
                          refine hK.out _ _ trivial (fun hHeld => ?_)
                          clear hK K
                          refine norm_ (a' := ?_) ?_ ?_
                          rotate_left
                          · show Act.put _ (some 41) _ = _
                            simp only [Act.put, List.setIfInBounds_toArray, List.set_cons_zero, List.set_cons_succ, i64_w, i32_w]
                            rfl
                          exact norm_ (by simp only [putAll, Act.put, List.setIfInBounds_toArray, List.set_cons_zero, List.set_cons_succ]) (hCont (.slice Ao26 y277.length co26, v281, v284) _ ⟨(by exact Kd.R_mono HO279.out (fun _ hk => ⟨hk.2, ⟨hk.1.2, hk.1.1.2⟩⟩)), (by exact Kd.R_mono HO282.out (fun _ hk => ⟨hk.2, ⟨hk.1.2, hk.1.1.2⟩⟩)), (by exact Kd.R_mono HO285.out (fun _ hk => ⟨hk.1.2, ⟨hk.2, hk.1.1.2⟩⟩)), (by exact Kd.R_mono HO_5.out (fun _ hk => ⟨hk.1.2, ⟨hk.2, hk.1.1.2⟩⟩)), (by repeat ((with_reducible exact HB.out)))⟩)
                      rintro ⟨v278, v281, v284⟩ w28 ⟨h0_, h1_, h2_, h3_, h4_⟩
                      have n0_ : Aside0 (Kd.R (Kd.int .u32) 68 w28 w.heap.size (fun k_ => some k_ ≠ (v281 : Value).ownBlock ∧ some k_ ≠ (v284 : Value).ownBlock ∧ some k_ ≠ (.slice Ao20 x5_1.length co20 : Value).ownBlock) v278 y277) := ⟨h0_⟩
                      have n1_ : Aside0 (Kd.R (Kd.int .u32) 68 w28 w.heap.size (fun k_ => some k_ ≠ (v278 : Value).ownBlock ∧ some k_ ≠ (v284 : Value).ownBlock ∧ some k_ ≠ (.slice Ao20 x5_1.length co20 : Value).ownBlock) v281 t280) := ⟨h1_⟩
                      have n2_ : Aside0 (Kd.R (Kd.int .u32) 68 w28 w.heap.size (fun k_ => some k_ ≠ (v278 : Value).ownBlock ∧ some k_ ≠ (v281 : Value).ownBlock ∧ some k_ ≠ (.slice Ao20 x5_1.length co20 : Value).ownBlock) v284 y283) := ⟨h2_⟩
                      have n3_ : Aside0 (Kd.R (Kd.int .u32) 68 w28 w.heap.size (fun k_ => some k_ ≠ (v278 : Value).ownBlock ∧ some k_ ≠ (v281 : Value).ownBlock ∧ some k_ ≠ (v284 : Value).ownBlock) (.slice Ao20 x5_1.length co20) x5_1) := ⟨h3_⟩
                      have n4_ : Aside0 (Below w.heap.size w w28) := ⟨h4_⟩
                      clear HO_5
                      clear HB
                      clear h0_ h1_ h2_ h3_ h4_
                      have HO279 := n0_
                      have HO282 := n1_
                      have HO285 := n2_
                      have HO_5 := n3_
                      have HB := n4_
                      clear n0_ n1_ n2_ n3_ n4_
                      have hHeld := trivial
                      obtain ⟨Ao29, co29, eo29⟩ := Kd.R_slice HO282.out
                      (subst eo29)
                      obtain ⟨Ao30, co30, eo30⟩ := Kd.R_slice HO285.out
                      (subst eo30)
                      refine norm_ (a' := ?_) ?_ ?_
                      rotate_left
                      · simp only [putAll, Act.put, List.setIfInBounds_toArray, List.set_cons_zero, List.set_cons_succ]
                        rfl
                      refine one_ (i := 9) (N := some 48) #[true, true, true, true, true, true, true, true, true, true, false] rfl rfl (one_of HT_.out (by kernel_rfl)) (by decide) (fun K hK => ?_)
                      refine goes_ Try.func74 (by kernel_rfl) rfl #[.slice Ao29 t280.length co29, .slice Ao30 y283.length co30] (by rfl) rfl rfl (by (try simp only [List.map_toArray, List.map_cons, List.map_nil]); rfl) ?_
                      with_reducible refine (trammelref01_Add.calls kj4 _ _ t280 _ _ y283 t286 _ ?side1 ?side2 ?side3 ?side4 A19.out).mono ?_
                      (case side1 => repeat (exact (Kd.R_reads' HO282.out).2.2))
                      (case side2 => exact (Kd.R_reads' HO282.out).2.1)
                      (case side3 => repeat (exact (Kd.R_reads' HO285.out).2.2))
                      (case side4 => exact (Kd.R_reads' HO285.out).2.1)
                      rintro e w31 ⟨v287, rfl, ho0, hb⟩
                      refine ⟨_, rfl, ?_⟩
                      have n0_ := Aside0.mk (Kd.R_elder' (by exact HO_5.out) (Kd.R_base ho0) hb)
                      have n1_ := Aside0.mk (Kd.R_elder' (by exact HO279.out) (Kd.R_base ho0) hb)
                      have n2_ := Aside0.mk (Kd.R_elder' (by exact HO282.out) (Kd.R_base ho0) hb)
                      have n3_ := Aside0.mk (Kd.R_elder' (by exact HO285.out) (Kd.R_base ho0) hb)
                      have n4_ := Aside0.mk (Kd.R_lower (Kd.R_new' (Kd.R_new' (Kd.R_new' (Kd.R_new' ho0 (Kd.R_lt (by exact HO_5.out))) (Kd.R_lt (by exact HO279.out))) (Kd.R_lt (by exact HO282.out))) (Kd.R_lt (by exact HO285.out))) (below_size (by repeat ((with_reducible exact HB.out)))))
                      have n5_ := Aside0.mk (below_step (by repeat ((with_reducible exact HB.out))) hb)
                      clear HO_5
                      clear HO279
                      clear HO282
                      clear HO285
                      clear HB
                      have HO_5 := n0_
                      have HO279 := n1_
                      have HO282 := n2_
                      have HO285 := n3_
                      have HO288 := n4_
                      have HB := n5_
                      clear n0_ n1_ n2_ n3_ n4_ n5_
                      (try clear hb)
                      (try clear ho0)
                      refine hK.out _ _ trivial (fun hHeld => ?_)
                      clear hK K
                      refine norm_ (a' := ?_) ?_ ?_
                      rotate_left
                      · show Act.put _ (some 48) _ = _
                        simp only [Act.put, List.setIfInBounds_toArray, List.set_cons_zero, List.set_cons_succ, i64_w, i32_w]
                        rfl
                      refine pure_ (i := 10) (N := some 5) (v := ?_) (a' := ?_) #[true, true, true, true, true, true, true, true, true, true, true] rfl rfl (any_of HT_.out (by kernel_rfl)) (fun _ _ _ h => h) (Or.inl ⟨by rfl, ?_⟩) ?_ ?_
                      rotate_left
                      · intro w'
                        go_simp
                        with_reducible rfl
                      rotate_left
                      · simp only [Act.put, List.setIfInBounds_toArray, List.set_cons_zero, List.set_cons_succ, i64_w, i32_w]
                        rfl
                      refine done_ (done_of HT_.out (by kernel_rfl)) ?_
                      try go_wp2
                      go_roundg kj4
                      case measure => have := HK1.out; have := HJ4.out; omega
                      case rel => exact ⟨(t286), (wrap64 (x6_1 + 1)), (by rfl), (by with_reducible exact H'), ⟨by have := HK1.out; have := HJ4.out; omega⟩, ⟨by exact Kd.R_mono HO288.out (fun _ hk => trivial)⟩, ⟨by repeat ((with_reducible exact HB.out))⟩⟩
                    · rw [if_neg c17] at H
                      exact absurd H (by simp)
                  · rw [if_neg c16] at H
                    exact absurd H (by simp)
          · rw [if_neg c4] at H
            have c4b0 : decide (x6_1 < (a0.size : Int)) = false := decide_eq_false c4
            clear c4
            simp only [Option.some.injEq, Prod.mk.injEq] at H
            obtain ⟨rfl, rfl, rfl⟩ := H
            go_wp2
            go_ret3
            exact ⟨_, by rfl, by exact HO_5.out, by repeat ((with_reducible exact HB.out))⟩

end Go.Proofs.Ytmbmbmkmjbpcpaa.PA

