-- printed by a program of this session
import Derived.Test.YtnlkafjhbjlhaaaPAx0K
import Derived.Test.YtnlkafjhbjlhaaaPAx3K
import Derived.Test.YtnlkafjhbjlhaaaPAx4K
import Derived.Test.YtnlkafjhbjlhaaaPAx5K
import Derived.Test.YtnlkafjhbjlhaaaPAx6K
import Derived.Test.YtnlkafjhbjlhaaaPAx7K
import Derived.Test.YtnlkafjhbjlhaaaPAx11K
namespace Go.Proofs.Ytnlkafjhbjlhaaa.PA
open Go.RowKit Go.Proofs.YtnlkafjhbjlhaaaW.PrintWords Go.Proofs.YtnlkafjhbjlhaaaW.PrintLast Go.Proofs.YtnlkafjhbjlhaaaW.PrintMore
attribute [local go_sem] max2_int min2_int max_two min_two max_three min_three max_four min_four   -- for this text's walks alone
set_option linter.unusedVariables false
set_option linter.unusedSimpArgs false

/-! ### nat_Shl: function 28 -/
def nat_Shl.f (k : Nat) (l0 : List Int) (a1 : Int) : Option (List Int × Int) := if a1 < 0 then (some (([] : List Int), 1)) else ((nat_Bits.f k l0).bind fun t366 => (if t366 > 0 then (if a1 > (wrap64 (1048576 - t366)) then (some (([] : List Int), 2)) else ((nat_shl.f k l0 a1).bind fun t367 => (some (t367, 0)))) else ((nat_shl.f k l0 a1).bind fun t370 => (some (t370, 0)))))
theorem nat_Shl.mono : ∀ a0 a1 k, LeO (nat_Shl.f k a0 a1) (nat_Shl.f (k + 1) a0 a1) := by
  intro a0 a1 k
  unfold nat_Shl.f
  repeat' first | (with_reducible exact nat_Bits.mono _ _) | (with_reducible exact nat_shl.mono _ _ _) | (with_reducible exact LeO.refl _) | (with_reducible refine LeO.ite ?_ ?_) | (with_reducible refine LeO.bind ?_ (fun _ => ?_))
set_option maxHeartbeats 8000000 in
set_option maxRecDepth 100000 in
theorem nat_Shl.calls (k : Nat) (A0 : Option Addr) (c0 : Nat) (l0 : List Int) (a1 : Int) (r1 : List Int) (r2 : Int) (w : World) (hr0 : Kd.C (Kd.int .u32) w A0 l0.length l0) (hc0 : l0.length ≤ c0) (h : nat_Shl.f k l0 a1 = some (r1, r2)) :
    Calls Try.prog 28 #[.slice A0 l0.length c0, .int .i64 a1] w fun e w' => ∃ v0_ : Value, e = .returned (.tuple #[v0_, .int .i64 r2]) ∧ Kd.R (Kd.int .u32) 31 w' w.heap.size (fun _ => True) v0_ r1 ∧ Below w.heap.size w w' := by
  have HR0 := Aside0.mk hr0
  have HC0 := Aside0.mk hc0
  clear hr0 hc0
  have HB := Aside0.mk (Below.refl w.heap.size w)
  have H : (if a1 < 0 then (some (([] : List Int), 1)) else ((nat_Bits.f k l0).bind fun t366 => (if t366 > 0 then (if a1 > (wrap64 (1048576 - t366)) then (some (([] : List Int), 2)) else ((nat_shl.f k l0 a1).bind fun t367 => (some (t367, 0)))) else ((nat_shl.f k l0 a1).bind fun t370 => (some (t370, 0)))))) = some (r1, r2) := h
  clear h
  by_cases c3 : a1 < 0
  · rw [if_pos c3] at H
    have c3b0 : decide (a1 < 0) = true := decide_eq_true c3
    clear c3
    simp only [Option.some.injEq, Prod.mk.injEq] at H
    obtain ⟨rfl, rfl⟩ := H
    go_enter Try.func28, Try.ntmps28
    go_wp2
    go_ret2
    exact ⟨_, by rfl, by exact Kd.R_nil _ _ _ _ _, by repeat ((with_reducible exact HB.out))⟩
  · rw [if_neg c3] at H
    have c3b0 : decide (a1 < 0) = false := decide_eq_false c3
    clear c3
    replace H := Option.bind_eq_some_iff.mp H
    obtain ⟨t366, A40, H⟩ := H
    replace H : (if t366 > 0 then (if a1 > (wrap64 (1048576 - t366)) then (some (([] : List Int), 2)) else ((nat_shl.f k l0 a1).bind fun t367 => (some (t367, 0)))) else ((nat_shl.f k l0 a1).bind fun t370 => (some (t370, 0)))) = some (r1, r2) := H
    have A4 := Aside0.mk A40
    clear A40
    by_cases c5 : t366 > 0
    · rw [if_pos c5] at H
      have c5b0 : decide (0 < t366) = true := decide_eq_true c5
      clear c5
      by_cases c6 : a1 > (wrap64 (1048576 - t366))
      · rw [if_pos c6] at H
        have c6b0 : decide ((wrap64 (1048576 - t366)) < a1) = true := decide_eq_true c6
        clear c6
        simp only [Option.some.injEq, Prod.mk.injEq] at H
        obtain ⟨rfl, rfl⟩ := H
        go_enter Try.func28, Try.ntmps28
        go_wp2_with (((with_reducible refine gate_callee (f := 24) rfl ?_); refine goesL_ (some 10) rfl rfl Try.func24 (by kernel_rfl) rfl #[.slice A0 l0.length c0] rfl (by (try simp only [List.map_toArray, List.map_cons, List.map_nil]); rfl) ?_; (with_reducible refine (nat_Bits.calls k _ _ l0 t366 _ ?side1 ?side2 A4.out).mono ?_); (case side1 => repeat (exact HR0.out)); (case side2 => exact HC0.out); rintro e w7 ⟨rfl, hb⟩; refine ⟨_, rfl, ?_⟩; have n0_ := Aside0.mk (below_step (by repeat ((with_reducible exact HB.out))) hb); clear HB; have HB := n0_; clear n0_; (try clear hb)))
        go_ret2
        exact ⟨_, by rfl, by exact Kd.R_nil _ _ _ _ _, by repeat ((with_reducible exact HB.out))⟩
      · rw [if_neg c6] at H
        have c6b0 : decide ((wrap64 (1048576 - t366)) < a1) = false := decide_eq_false c6
        clear c6
        replace H := Option.bind_eq_some_iff.mp H
        obtain ⟨t367, A80, H⟩ := H
        replace H : (some (t367, 0)) = some (r1, r2) := H
        have A8 := Aside0.mk A80
        clear A80
        simp only [Option.some.injEq, Prod.mk.injEq] at H
        obtain ⟨rfl, rfl⟩ := H
        go_enter Try.func28, Try.ntmps28
        go_wp2_with (first | ((with_reducible refine gate_callee (f := 24) rfl ?_); refine goesL_ (some 10) rfl rfl Try.func24 (by kernel_rfl) rfl #[.slice A0 l0.length c0] rfl (by (try simp only [List.map_toArray, List.map_cons, List.map_nil]); rfl) ?_; (with_reducible refine (nat_Bits.calls k _ _ l0 t366 _ ?side1 ?side2 A4.out).mono ?_); (case side1 => repeat (exact HR0.out)); (case side2 => exact HC0.out); rintro e w9 ⟨rfl, hb⟩; refine ⟨_, rfl, ?_⟩; have n0_ := Aside0.mk (below_step (by repeat ((with_reducible exact HB.out))) hb); clear HB; have HB := n0_; clear n0_; (try clear hb)) | ((with_reducible refine gate_callee (f := 49) rfl ?_); refine goesL_ (some 21) rfl rfl Try.func49 (by kernel_rfl) rfl #[.slice A0 l0.length c0, .int .i64 a1] rfl (by (try simp only [List.map_toArray, List.map_cons, List.map_nil]); rfl) ?_; (with_reducible refine (nat_shl.calls k _ _ l0 a1 t367 _ ?side1 ?side2 A8.out).mono ?_); (case side1 => repeat (exact (Kd.C_below HR0.out HB.out))); (case side2 => exact HC0.out); rintro e w10 ⟨v368, rfl, ho0, hb⟩; refine ⟨_, rfl, ?_⟩; have n0_ := Aside0.mk (Kd.R_lower ho0 (below_size (by repeat ((with_reducible exact HB.out))))); have n1_ := Aside0.mk (below_step (by repeat ((with_reducible exact HB.out))) hb); clear HB; have HO369 := n0_; have HB := n1_; clear n0_ n1_; (try clear hb); (try clear ho0)))
        go_ret2
        exact ⟨_, by rfl, by exact HO369.out, by repeat ((with_reducible exact HB.out))⟩
    · rw [if_neg c5] at H
      have c5b0 : decide (0 < t366) = false := decide_eq_false c5
      clear c5
      replace H := Option.bind_eq_some_iff.mp H
      obtain ⟨t370, A110, H⟩ := H
      replace H : (some (t370, 0)) = some (r1, r2) := H
      have A11 := Aside0.mk A110
      clear A110
      simp only [Option.some.injEq, Prod.mk.injEq] at H
      obtain ⟨rfl, rfl⟩ := H
      go_enter Try.func28, Try.ntmps28
      go_wp2_with (first | ((with_reducible refine gate_callee (f := 24) rfl ?_); refine goesL_ (some 10) rfl rfl Try.func24 (by kernel_rfl) rfl #[.slice A0 l0.length c0] rfl (by (try simp only [List.map_toArray, List.map_cons, List.map_nil]); rfl) ?_; (with_reducible refine (nat_Bits.calls k _ _ l0 t366 _ ?side1 ?side2 A4.out).mono ?_); (case side1 => repeat (exact HR0.out)); (case side2 => exact HC0.out); rintro e w12 ⟨rfl, hb⟩; refine ⟨_, rfl, ?_⟩; have n0_ := Aside0.mk (below_step (by repeat ((with_reducible exact HB.out))) hb); clear HB; have HB := n0_; clear n0_; (try clear hb)) | ((with_reducible refine gate_callee (f := 49) rfl ?_); refine goesL_ (some 21) rfl rfl Try.func49 (by kernel_rfl) rfl #[.slice A0 l0.length c0, .int .i64 a1] rfl (by (try simp only [List.map_toArray, List.map_cons, List.map_nil]); rfl) ?_; (with_reducible refine (nat_shl.calls k _ _ l0 a1 t370 _ ?side1 ?side2 A11.out).mono ?_); (case side1 => repeat (exact (Kd.C_below HR0.out HB.out))); (case side2 => exact HC0.out); rintro e w13 ⟨v371, rfl, ho0, hb⟩; refine ⟨_, rfl, ?_⟩; have n0_ := Aside0.mk (Kd.R_lower ho0 (below_size (by repeat ((with_reducible exact HB.out))))); have n1_ := Aside0.mk (below_step (by repeat ((with_reducible exact HB.out))) hb); clear HB; have HO372 := n0_; have HB := n1_; clear n0_ n1_; (try clear hb); (try clear ho0)))
      go_ret2
      exact ⟨_, by rfl, by exact HO372.out, by repeat ((with_reducible exact HB.out))⟩

/-! ### nat_Shr: function 29 -/
def nat_Shr.f (k : Nat) (l0 : List Int) (a1 : Int) : Option (List Int × Int) := if a1 < 0 then (some (([] : List Int), 1)) else ((nat_shr.f k l0 a1).bind fun t373 => (some (t373, 0)))
theorem nat_Shr.mono : ∀ a0 a1 k, LeO (nat_Shr.f k a0 a1) (nat_Shr.f (k + 1) a0 a1) := by
  intro a0 a1 k
  unfold nat_Shr.f
  repeat' first | (with_reducible exact nat_shr.mono _ _ _) | (with_reducible exact LeO.refl _) | (with_reducible refine LeO.ite ?_ ?_) | (with_reducible refine LeO.bind ?_ (fun _ => ?_))
set_option maxHeartbeats 8000000 in
set_option maxRecDepth 100000 in
theorem nat_Shr.calls (k : Nat) (A0 : Option Addr) (c0 : Nat) (l0 : List Int) (a1 : Int) (r1 : List Int) (r2 : Int) (w : World) (hr0 : Kd.C (Kd.int .u32) w A0 l0.length l0) (hc0 : l0.length ≤ c0) (h : nat_Shr.f k l0 a1 = some (r1, r2)) :
    Calls Try.prog 29 #[.slice A0 l0.length c0, .int .i64 a1] w fun e w' => ∃ v0_ : Value, e = .returned (.tuple #[v0_, .int .i64 r2]) ∧ Kd.R (Kd.int .u32) 31 w' w.heap.size (fun _ => True) v0_ r1 ∧ Below w.heap.size w w' := by
  have HR0 := Aside0.mk hr0
  have HC0 := Aside0.mk hc0
  clear hr0 hc0
  have HB := Aside0.mk (Below.refl w.heap.size w)
  have H : (if a1 < 0 then (some (([] : List Int), 1)) else ((nat_shr.f k l0 a1).bind fun t373 => (some (t373, 0)))) = some (r1, r2) := h
  clear h
  by_cases c3 : a1 < 0
  · rw [if_pos c3] at H
    have c3b0 : decide (a1 < 0) = true := decide_eq_true c3
    clear c3
    simp only [Option.some.injEq, Prod.mk.injEq] at H
    obtain ⟨rfl, rfl⟩ := H
    go_enter Try.func29, Try.ntmps29
    go_wp2
    go_ret2
    exact ⟨_, by rfl, by exact Kd.R_nil _ _ _ _ _, by repeat ((with_reducible exact HB.out))⟩
  · rw [if_neg c3] at H
    have c3b0 : decide (a1 < 0) = false := decide_eq_false c3
    clear c3
    replace H := Option.bind_eq_some_iff.mp H
    obtain ⟨t373, A40, H⟩ := H
    replace H : (some (t373, 0)) = some (r1, r2) := H
    have A4 := Aside0.mk A40
    clear A40
    simp only [Option.some.injEq, Prod.mk.injEq] at H
    obtain ⟨rfl, rfl⟩ := H
    go_enter Try.func29, Try.ntmps29
    go_wp2_with (((with_reducible refine gate_callee (f := 51) rfl ?_); refine goesL_ (some 10) rfl rfl Try.func51 (by kernel_rfl) rfl #[.slice A0 l0.length c0, .int .i64 a1] rfl (by (try simp only [List.map_toArray, List.map_cons, List.map_nil]); rfl) ?_; (with_reducible refine (nat_shr.calls k _ _ l0 a1 t373 _ ?side1 ?side2 A4.out).mono ?_); (case side1 => repeat (exact HR0.out)); (case side2 => exact HC0.out); rintro e w5 ⟨v374, rfl, ho0, hb⟩; refine ⟨_, rfl, ?_⟩; have n0_ := Aside0.mk (Kd.R_lower ho0 (below_size (by repeat ((with_reducible exact HB.out))))); have n1_ := Aside0.mk (below_step (by repeat ((with_reducible exact HB.out))) hb); clear HB; have HO375 := n0_; have HB := n1_; clear n0_ n1_; (try clear hb); (try clear ho0)))
    go_ret2
    exact ⟨_, by rfl, by exact HO375.out, by repeat ((with_reducible exact HB.out))⟩

/-! ### trammelref01_Shl: function 30 -/
def trammelref01_Shl.j0 : Nat → Int → List Int → Bool → Option (List Int × Int)
  | 0, _, _, _ => none
  | k + 1, x1, x6, x22 => if x22 = true then (some (([] : List Int), 2)) else ((trammelref01_Two.f k x1).bind fun t380 => ((trammelref01_Mul.f k x6 t380).bind fun t383 => (some (t383, 0))))
def trammelref01_Shl.f (k : Nat) (l0 : List Int) (a1 : Int) : Option (List Int × Int) := if a1 < 0 then (some (([] : List Int), 1)) else ((trammelref01_Norm.f k l0).bind fun t376 => (if (t376.length : Int) = 0 then (some (([] : List Int), 0)) else (if a1 > 1048576 then (trammelref01_Shl.j0 k a1 t376 true) else ((trammelref01_Bits.f k t376).bind fun t379 => (trammelref01_Shl.j0 k a1 t376 (decide ((wrap64 (a1 + t379)) > 1048576)))))))
theorem trammelref01_Shl.mono_l : ∀ k, (∀ y0 y1 y2, LeO (trammelref01_Shl.j0 k y0 y1 y2) (trammelref01_Shl.j0 (k + 1) y0 y1 y2))
  | 0 => fun _ _ _ r h => by simp [trammelref01_Shl.j0] at h
  | k + 1 => by
    have ih0 := trammelref01_Shl.mono_l k
    · intro y0 y1 y2
      unfold trammelref01_Shl.j0
      repeat' first | (with_reducible exact trammelref01_Mul.mono _ _ _) | (with_reducible exact trammelref01_Two.mono _ _) | (with_reducible exact LeO.refl _) | (with_reducible refine LeO.ite ?_ ?_) | (with_reducible refine LeO.bind ?_ (fun _ => ?_))
theorem trammelref01_Shl.mono : ∀ a0 a1 k, LeO (trammelref01_Shl.f k a0 a1) (trammelref01_Shl.f (k + 1) a0 a1) := by
  intro a0 a1 k
  have ih0 := trammelref01_Shl.mono_l k
  unfold trammelref01_Shl.f
  repeat' first | (with_reducible exact ih0 _ _ _) | (with_reducible exact trammelref01_Bits.mono _ _) | (with_reducible exact trammelref01_Norm.mono _ _) | (with_reducible exact LeO.refl _) | (with_reducible refine LeO.ite ?_ ?_) | (with_reducible refine LeO.bind ?_ (fun _ => ?_))
set_option maxHeartbeats 8000000 in
set_option maxRecDepth 100000 in
theorem trammelref01_Shl.calls (k : Nat) (A0 : Option Addr) (c0 : Nat) (l0 : List Int) (a1 : Int) (r1 : List Int) (r2 : Int) (w : World) (hr0 : Kd.C (Kd.int .u32) w A0 l0.length l0) (hc0 : l0.length ≤ c0) (h : trammelref01_Shl.f k l0 a1 = some (r1, r2)) :
    Calls Try.prog 30 #[.slice A0 l0.length c0, .int .i64 a1] w fun e w' => ∃ v0_ : Value, e = .returned (.tuple #[v0_, .int .i64 r2]) ∧ Kd.R (Kd.int .u32) 31 w' w.heap.size (fun _ => True) v0_ r1 ∧ Below w.heap.size w w' := by
  have HR0 := Aside0.mk hr0
  have HC0 := Aside0.mk hc0
  clear hr0 hc0
  have HB := Aside0.mk (Below.refl w.heap.size w)
  have H : (if a1 < 0 then (some (([] : List Int), 1)) else ((trammelref01_Norm.f k l0).bind fun t376 => (if (t376.length : Int) = 0 then (some (([] : List Int), 0)) else (if a1 > 1048576 then (trammelref01_Shl.j0 k a1 t376 true) else ((trammelref01_Bits.f k t376).bind fun t379 => (trammelref01_Shl.j0 k a1 t376 (decide ((wrap64 (a1 + t379)) > 1048576)))))))) = some (r1, r2) := h
  clear h
  by_cases c3 : a1 < 0
  · rw [if_pos c3] at H
    have c3b0 : decide (a1 < 0) = true := decide_eq_true c3
    clear c3
    simp only [Option.some.injEq, Prod.mk.injEq] at H
    obtain ⟨rfl, rfl⟩ := H
    go_enter Try.func30, Try.ntmps30
    go_wp2
    go_ret2
    exact ⟨_, by rfl, by exact Kd.R_nil _ _ _ _ _, by repeat ((with_reducible exact HB.out))⟩
  · rw [if_neg c3] at H
    have c3b0 : decide (a1 < 0) = false := decide_eq_false c3
    clear c3
    replace H := Option.bind_eq_some_iff.mp H
    obtain ⟨t376, A40, H⟩ := H
    replace H : (if (t376.length : Int) = 0 then (some (([] : List Int), 0)) else (if a1 > 1048576 then (trammelref01_Shl.j0 k a1 t376 true) else ((trammelref01_Bits.f k t376).bind fun t379 => (trammelref01_Shl.j0 k a1 t376 (decide ((wrap64 (a1 + t379)) > 1048576)))))) = some (r1, r2) := H
    have A4 := Aside0.mk A40
    clear A40
    by_cases c5 : (t376.length : Int) = 0
    · rw [if_pos c5] at H
      have c5b0 : ((t376.length : Int) == 0) = true := beq_iff_eq.mpr c5
      have c5b1 : ((t376.length : Int) != 0) = false := bne_eq_false_iff_eq.mpr c5
      clear c5
      simp only [Option.some.injEq, Prod.mk.injEq] at H
      obtain ⟨rfl, rfl⟩ := H
      go_enter Try.func30, Try.ntmps30
      go_wp2_with (((with_reducible refine gate_callee (f := 21) rfl ?_); refine goesL_ (some 10) rfl rfl Try.func21 (by kernel_rfl) rfl #[.slice A0 l0.length c0] rfl (by (try simp only [List.map_toArray, List.map_cons, List.map_nil]); rfl) ?_; (with_reducible refine (trammelref01_Norm.calls k _ _ l0 t376 _ ?side1 ?side2 A4.out).mono ?_); (case side1 => repeat (exact HR0.out)); (case side2 => exact HC0.out); rintro e w6 ⟨v377, rfl, ho0, hb⟩; refine ⟨_, rfl, ?_⟩; have n0_ := Aside0.mk (Kd.R_lower ho0 (below_size (by repeat ((with_reducible exact HB.out))))); have n1_ := Aside0.mk (below_step (by repeat ((with_reducible exact HB.out))) hb); clear HB; have HO378 := n0_; have HB := n1_; clear n0_ n1_; (try clear hb); (try clear ho0); obtain ⟨Ao7, co7, eo7⟩ := Kd.R_slice HO378.out; subst eo7))
      go_ret2
      exact ⟨_, by rfl, by exact Kd.R_nil _ _ _ _ _, by repeat ((with_reducible exact HB.out))⟩
    · rw [if_neg c5] at H
      have c5b0 : ((t376.length : Int) == 0) = false := beq_eq_false_iff_ne.mpr c5
      have c5b1 : ((t376.length : Int) != 0) = true := bne_iff_ne.mpr c5
      have c5b2 : ¬ (t376 = []) := fun h_ => c5 (by rw [h_]; rfl)
      have HC8 := Aside0.mk H
      clear H
      go_enter Try.func30, Try.ntmps30
      go_upto_region 6 with (((with_reducible refine gate_callee (f := 21) rfl ?_); refine goesL_ (some 10) rfl rfl Try.func21 (by kernel_rfl) rfl #[.slice A0 l0.length c0] rfl (by (try simp only [List.map_toArray, List.map_cons, List.map_nil]); rfl) ?_; (with_reducible refine (trammelref01_Norm.calls k _ _ l0 t376 _ ?side1 ?side2 A4.out).mono ?_); (case side1 => repeat (exact HR0.out)); (case side2 => exact HC0.out); rintro e w9 ⟨v377, rfl, ho0, hb⟩; refine ⟨_, rfl, ?_⟩; have n0_ := Aside0.mk (Kd.R_lower ho0 (below_size (by repeat ((with_reducible exact HB.out))))); have n1_ := Aside0.mk (below_step (by repeat ((with_reducible exact HB.out))) hb); clear HB; have HO378 := n0_; have HB := n1_; clear n0_ n1_; (try clear hb); (try clear ho0); obtain ⟨Ao10, co10, eo10⟩ := Kd.R_slice HO378.out; subst eo10))
      go_cut [22] (fun v22 wc => ∃ (kq : Nat) (x22_7 : Bool), v22 = .bool x22_7 ∧ Aside0 (trammelref01_Shl.j0 kq a1 t376 x22_7 = some (r1, r2)) ∧ Aside0 (kq ≤ k) ∧ Aside0 (Kd.R (Kd.int .u32) 31 wc w.heap.size (fun _ => True) (.slice Ao10 t376.length co10) t376) ∧ Aside0 (Below w.heap.size w wc))
      case first =>
        have H := HC8.out
        clear HC8
        by_cases c11 : a1 > 1048576
        · rw [if_pos c11] at H
          have c11b0 : decide (1048576 < a1) = true := decide_eq_true c11
          clear c11
          have H' := Aside0.mk H
          clear H
          go_wp2
          go_meet
          case rel => exact ⟨_, (true), (by rfl), (by with_reducible exact H'), ⟨by omega⟩, ⟨by exact HO378.out⟩, ⟨by repeat ((with_reducible exact HB.out))⟩⟩
        · rw [if_neg c11] at H
          have c11b0 : decide (1048576 < a1) = false := decide_eq_false c11
          clear c11
          replace H := Option.bind_eq_some_iff.mp H
          obtain ⟨t379, A120, H⟩ := H
          replace H : (trammelref01_Shl.j0 k a1 t376 (decide ((wrap64 (a1 + t379)) > 1048576))) = some (r1, r2) := H
          have A12 := Aside0.mk A120
          clear A120
          have H' := Aside0.mk H
          clear H
          go_wp2_with ((go_at_call 25; (with_reducible refine (trammelref01_Bits.calls k _ _ t376 t379 _ ?side1 ?side2 A12.out).mono ?_); (case side1 => repeat (exact (Kd.R_reads' HO378.out).2.2)); (case side2 => exact (Kd.R_reads' HO378.out).2.1); rintro e w' ⟨rfl, ⟨nd, rfl⟩⟩))
          go_meet
          case rel => exact ⟨_, (decide ((wrap64 (a1 + t379)) > 1048576)), (by rfl), (by with_reducible exact H'), ⟨by omega⟩, ⟨by (with_reducible repeat (apply Kd.R_drewN)); exact HO378.out⟩, ⟨by repeat ((with_reducible first | exact HB.out | apply pw_below_drewN))⟩⟩
      case rest =>
        clear HC8
        skip
        skip
        skip
        skip
        try clear c3b0
        try clear c5
        try clear c5b0
        try clear c5b1
        try clear c5b2
        skip
        skip
        skip
        obtain ⟨kq, x22_7, rfl, HA, HJ7, HO_6, HB⟩ := hcut
        cases kq with
        | zero => exact absurd HA.out (by simp [trammelref01_Shl.j0])
        | succ kj7 =>
          have H := HA.out
          clear HA
          simp only [trammelref01_Shl.j0] at H
          by_cases c13 : x22_7 = true
          · subst c13
            have H1 : (some (([] : List Int), 2)) = some (r1, r2) := by rw [if_pos rfl] at H; exact H
            clear H
            have H := H1
            clear H1
            simp only [Option.some.injEq, Prod.mk.injEq] at H
            obtain ⟨rfl, rfl⟩ := H
            go_wp2
            go_ret2
            exact ⟨_, by rfl, by exact Kd.R_nil _ _ _ _ _, by repeat ((with_reducible exact HB.out))⟩
          · replace c13 := Bool.eq_false_iff.mpr c13
            subst c13
            have H1 : ((trammelref01_Two.f kj7 a1).bind fun t380 => ((trammelref01_Mul.f kj7 t376 t380).bind fun t383 => (some (t383, 0)))) = some (r1, r2) := by rw [if_neg (show ¬ (false = true) by decide)] at H; exact H
            clear H
            have H := H1
            clear H1
            replace H := Option.bind_eq_some_iff.mp H
            obtain ⟨t380, A140, H⟩ := H
            replace H : ((trammelref01_Mul.f kj7 t376 t380).bind fun t383 => (some (t383, 0))) = some (r1, r2) := H
            have A14 := Aside0.mk A140
            clear A140
            replace H := Option.bind_eq_some_iff.mp H
            obtain ⟨t383, A150, H⟩ := H
            replace H : (some (t383, 0)) = some (r1, r2) := H
            have A15 := Aside0.mk A150
            clear A150
            simp only [Option.some.injEq, Prod.mk.injEq] at H
            obtain ⟨rfl, rfl⟩ := H
            go_wp2_with (first | ((with_reducible refine gate_callee (f := 53) rfl ?_); refine goesL_ (some 25) rfl rfl Try.func53 (by kernel_rfl) rfl #[.int .i64 a1] rfl (by (try simp only [List.map_toArray, List.map_cons, List.map_nil]); rfl) ?_; (with_reducible refine (trammelref01_Two.calls kj7 a1 t380 _ A14.out).mono ?_); rintro e w16 ⟨v381, rfl, ho0, hb⟩; refine ⟨_, rfl, ?_⟩; have n0_ := Aside0.mk (Kd.R_elder' (by exact HO_6.out) (Kd.R_base ho0) hb); have n1_ := Aside0.mk (Kd.R_lower (Kd.R_new' ho0 (Kd.R_lt (by exact HO_6.out))) (below_size (by repeat ((with_reducible exact HB.out))))); have n2_ := Aside0.mk (below_step (by repeat ((with_reducible exact HB.out))) hb); clear HO_6; clear HB; have HO_6 := n0_; have HO382 := n1_; have HB := n2_; clear n0_ n1_ n2_; (try clear hb); (try clear ho0); obtain ⟨Ao17, co17, eo17⟩ := Kd.R_slice HO382.out; subst eo17) | ((with_reducible refine gate_callee (f := 27) rfl ?_); refine goesL_ (some 26) rfl rfl Try.func27 (by kernel_rfl) rfl #[.slice Ao10 t376.length co10, .slice Ao17 t380.length co17] rfl (by (try simp only [List.map_toArray, List.map_cons, List.map_nil]); rfl) ?_; (with_reducible refine (trammelref01_Mul.calls kj7 _ _ t376 _ _ t380 t383 _ ?side1 ?side2 ?side3 ?side4 A15.out).mono ?_); (case side1 => repeat (exact (Kd.R_reads' HO_6.out).2.2)); (case side2 => exact (Kd.R_reads' HO_6.out).2.1); (case side3 => repeat (exact (Kd.R_reads' HO382.out).2.2)); (case side4 => exact (Kd.R_reads' HO382.out).2.1); rintro e w18 ⟨v384, rfl, ho0, hb⟩; refine ⟨_, rfl, ?_⟩; have n0_ := Aside0.mk (Kd.R_elder' (by exact HO_6.out) (Kd.R_base ho0) hb); have n1_ := Aside0.mk (Kd.R_elder' (by exact HO382.out) (Kd.R_base ho0) hb); have n2_ := Aside0.mk (Kd.R_lower (Kd.R_new' (Kd.R_new' ho0 (Kd.R_lt (by exact HO_6.out))) (Kd.R_lt (by exact HO382.out))) (below_size (by repeat ((with_reducible exact HB.out))))); have n3_ := Aside0.mk (below_step (by repeat ((with_reducible exact HB.out))) hb); clear HO_6; clear HO382; clear HB; have HO_6 := n0_; have HO382 := n1_; have HO385 := n2_; have HB := n3_; clear n0_ n1_ n2_ n3_; (try clear hb); (try clear ho0)))
            go_ret2
            exact ⟨_, by rfl, by exact Kd.R_mono HO385.out (fun _ hk => trivial), by repeat ((with_reducible exact HB.out))⟩

-- NOT PRINTED: function 6 (trammellaw01_NatShifts)

/-! ### nat_grow: function 58 -/
def nat_grow.l0 : Nat → List Int → Int → Int → Int → Int → Option (List Int)
  | 0, _, _, _, _, _ => none
  | k + 1, x0, x1, x7, x12, x13 => if x13 < x12 then (if 0 ≤ x13 then (if x13 < (x0.length : Int) then (nat_grow.l0 k (x0.set (x13 : Int).toNat ((IntKind.u64.wrap (x7 + (IntKind.u64.wrap ((IntKind.u64.wrap (rd x0 x13)) * (IntKind.u64.wrap (x1)))))) % 4294967296)) x1 ((IntKind.u64.wrap (x7 + (IntKind.u64.wrap ((IntKind.u64.wrap (rd x0 x13)) * (IntKind.u64.wrap (x1)))))) / 4294967296) x12 (wrap64 (x13 + 1))) else (none)) else (none)) else (if x7 > 0 then (if x0.length < 35184372088832 then (some (x0 ++ [(x7) % 4294967296])) else (none)) else (some x0))
def nat_grow.f (k : Nat) (l0 : List Int) (a1 : Int) (a2 : Int) : Option (List Int) := nat_grow.l0 k l0 a1 (IntKind.u64.wrap (a2)) (l0.length : Int) 0
theorem nat_grow.mono_l : ∀ k, (∀ y0 y1 y2 y3 y4, LeO (nat_grow.l0 k y0 y1 y2 y3 y4) (nat_grow.l0 (k + 1) y0 y1 y2 y3 y4))
  | 0 => fun _ _ _ _ _ r h => by simp [nat_grow.l0] at h
  | k + 1 => by
    have ih0 := nat_grow.mono_l k
    · intro y0 y1 y2 y3 y4
      unfold nat_grow.l0
      repeat' first | (with_reducible exact ih0 _ _ _ _ _) | (with_reducible exact LeO.refl _) | (with_reducible refine LeO.ite ?_ ?_)
theorem nat_grow.mono : ∀ a0 a1 a2 k, LeO (nat_grow.f k a0 a1 a2) (nat_grow.f (k + 1) a0 a1 a2) := by
  intro a0 a1 a2 k
  have ih0 := nat_grow.mono_l k
  unfold nat_grow.f
  repeat' (with_reducible exact ih0 _ _ _ _ _)
set_option maxHeartbeats 8000000 in
set_option maxRecDepth 100000 in
theorem nat_grow.calls (k : Nat) (P0_ : Nat → Prop) (u9000_ : Value) (l0 : List Int) (a1 : Int) (a2 : Int) (r : List Int) (w0 w : World) (hB : Below w0.heap.size w0 w) (ho0 : Kd.R (Kd.int .u32) 31 w w0.heap.size P0_ u9000_ l0) (h : nat_grow.f k l0 a1 a2 = some r) :
    Calls Try.prog 58 #[u9000_, .int .u32 a1, .int .u32 a2] w fun e w' => ∃ v0_ : Value, e = .returned (v0_) ∧ Kd.R (Kd.int .u32) 31 w' w0.heap.size (fun k_ => (P0_ k_ ∨ w.heap.size ≤ k_)) v0_ r ∧ Below w0.heap.size w0 w' ∧ Kept w w' (fun k_ => P0_ k_) := by
  have HO0 := Aside0.mk (show Kd.R (Kd.int .u32) 31 w w0.heap.size (fun k_ => (P0_ k_ ∨ w.heap.size ≤ k_)) u9000_ l0 from Kd.R_mono ho0 (fun k_ hk => (.inl hk)))
  have HK := Aside0.mk (Kept.refl w (fun k_ => P0_ k_))
  have HW0 := Aside0.mk hB.size
  have HB := Aside0.mk hB
  clear hB
  have H : (nat_grow.l0 k l0 a1 (IntKind.u64.wrap (a2)) (l0.length : Int) 0) = some r := h
  clear h
  have H' := Aside0.mk H
  clear H
  obtain ⟨Ao4, co4, eo4⟩ := Kd.R_slice HO0.out
  subst eo4
  go_enter Try.func58, Try.ntmps58
  go_wp2
  go_loopg [7, 13] k (fun kq v7 v13 w' => ∃ (x0_1 : List Int) (x7_1 : Int) (x13_1 : Int), v7 = .int .u64 x7_1 ∧ v13 = .int .i64 x13_1 ∧ Aside0 (nat_grow.l0 kq x0_1 a1 x7_1 (l0.length : Int) x13_1 = some r) ∧ Aside0 (kq ≤ k) ∧ Aside0 (Kd.R (Kd.int .u32) 31 w' w0.heap.size (fun k_ => (P0_ k_ ∨ w.heap.size ≤ k_)) (.slice Ao4 l0.length co4) x0_1) ∧ Aside0 (Kept w w' (fun k_ => P0_ k_)) ∧ Aside0 (Below w0.heap.size w0 w'))
  case atStart => exact ⟨(l0), (IntKind.u64.wrap (a2)), (0), (by rfl), (by rfl), H', ⟨Nat.le_refl _⟩, ⟨by exact HO0.out⟩, ⟨by repeat ((with_reducible exact HK.out))⟩, ⟨by repeat ((with_reducible exact HB.out))⟩⟩
  case round =>
    clear H'
    skip
    obtain ⟨x0_1, x7_1, x13_1, rfl, rfl, HA, HK1, HO_0, HK, HB⟩ := hrel
    have hl0_1 := (Kd.R_reads' HO_0.out).1
    rw [hl0_1] at HO_0
    (try simp only [hl0_1])
    cases gk with
    | zero => exact absurd HA.out (by simp [nat_grow.l0])
    | succ k1 =>
      have H := HA.out
      clear HA
      simp only [nat_grow.l0] at H
      by_cases c5 : x13_1 < (l0.length : Int)
      · rw [if_pos c5] at H
        have c5b0 : decide (x13_1 < (l0.length : Int)) = true := decide_eq_true c5
        (try (have c5b0z0 := c5b0; rw [hl0_1] at c5b0z0))
        clear c5
        by_cases c6 : 0 ≤ x13_1
        · rw [if_pos c6] at H
          have c6b0 : decide (0 ≤ x13_1) = true := decide_eq_true c6
          clear c6
          by_cases c7 : x13_1 < (x0_1.length : Int)
          · rw [if_pos c7] at H
            have c7b0 : decide (x13_1 < (x0_1.length : Int)) = true := decide_eq_true c7
            clear c7
            obtain ⟨y387, hy387⟩ : ∃ y_ : List Int, y_ = (x0_1.set (x13_1 : Int).toNat ((IntKind.u64.wrap (x7_1 + (IntKind.u64.wrap ((IntKind.u64.wrap (rd x0_1 x13_1)) * (IntKind.u64.wrap (a1)))))) % 4294967296)) := ⟨_, rfl⟩
            replace H : (nat_grow.l0 k1 y387 a1 ((IntKind.u64.wrap (x7_1 + (IntKind.u64.wrap ((IntKind.u64.wrap (rd x0_1 x13_1)) * (IntKind.u64.wrap (a1)))))) / 4294967296) (l0.length : Int) (wrap64 (x13_1 + 1))) = some r := by (rw [hy387]; with_reducible exact H)
            have Ny387 := Aside0.mk hy387
            clear hy387
            have H' := Aside0.mk H
            clear H
            have p386 : 0 ≤ (x13_1 : Int) := of_decide_eq_true (by (with_reducible assumption))
            have q386 : x13_1 < (x0_1.length : Int) := of_decide_eq_true (by (with_reducible assumption))
            obtain ⟨ad386, e386, hx386_0⟩ := Kd.at_int (Kd.R_reads' HO_0.out).2.2 x13_1 p386 q386
            cases e386
            replace p386 := eq_true p386
            replace q386 := eq_true q386
            have p8 : 0 ≤ (x13_1 : Int) := of_decide_eq_true (by (with_reducible assumption))
            have q8 : (x13_1 : Int) < ((x0_1.length : Int) : Int) := of_decide_eq_true (by (with_reducible assumption))
            obtain ⟨go8, co8, eo8, gb8, gl8, cl8, HG8⟩ := Kd.R_form HO_0.out (by omega)
            (cases eo8)
            have GB8 := Aside0.mk gb8
            have GG8 := Aside0.mk HG8
            clear gb8 gl8 HG8
            have HMgo8 := Aside0.mk (show (P0_ go8 ∨ w.heap.size ≤ go8) from (HO_0.out.1 _ rfl))
            (simp only [add_plain] at hx386_0)
            obtain ⟨hx8_0, hf8_0⟩ := Kd.R_celln 0 HO_0.out (x13_1 : Int) p8 q8
            replace p8 := eq_true p8
            replace q8 := eq_true q8
            have HP9 := Kd.R_putg HO_0.out (x13_1 : Int) ((IntKind.u64.wrap (x7_1 + (IntKind.u64.wrap ((IntKind.u64.wrap (rd x0_1 x13_1)) * (IntKind.u64.wrap (a1)))))) % 4294967296)
            go_wp2_with (((with_reducible refine gate_store (t := 31) (p := 30) rfl ?_); refine store_event (t := 31) (p := 30) (v := ?vo_w10) (w1 := (wr.setCell ⟨go8, (x13_1 : Int).toNat, none⟩ (.int .u32 ((IntKind.u64.wrap (x7_1 + (IntKind.u64.wrap ((IntKind.u64.wrap (rd x0_1 x13_1)) * (IntKind.u64.wrap (a1)))))) % 4294967296)))) ?hg ?ho ?hn ?hr ?_; (case ho => rfl); (case hg => rfl); (case hn => rfl); (case hr => (go_simp; done)); intro w10 hw; have hg : wr.grownBy w10 (some go8) := (by rw [hw]; exact HP9.2); have hp_ : Kd.R (Kd.int .u32) 31 w10 w0.heap.size (fun k_ => (P0_ k_ ∨ w.heap.size ≤ k_)) (.slice (some ⟨go8, 0, none⟩) x0_1.length co4) y387 := (by rw [hw, Ny387.out]; exact HP9.1); clear HP9; have n0_ := Aside0.mk (hp_); have n1_ := Aside0.mk ((by rw [hw]; exact below_set (HB.out) GB8.out : Below w0.heap.size w0 w10)); have n2_ := Aside0.mk (Kept.of_grown (S := (fun k_ => P0_ k_)) hg (by repeat ((with_reducible exact HK.out))) (fun k_ e_ => (HO_0.out.1 k_ e_))); clear HO_0; clear HB; clear HK; have HO_0 := n0_; have HB := n1_; have HK := n2_; clear n0_ n1_ n2_; clear hg hw hp_))
            (try simp only [← hl0_1])
            go_roundg k1
            case measure => have := HK1.out; omega
            case rel => exact ⟨(y387), ((IntKind.u64.wrap (x7_1 + (IntKind.u64.wrap ((IntKind.u64.wrap (rd x0_1 x13_1)) * (IntKind.u64.wrap (a1)))))) / 4294967296), (wrap64 (x13_1 + 1)), (by rfl), (by rfl), (by with_reducible exact H'), ⟨by have := HK1.out; omega⟩, ⟨by (try simp only [hl0_1]); exact HO_0.out⟩, ⟨by repeat ((with_reducible exact HK.out))⟩, ⟨by repeat ((with_reducible exact HB.out))⟩⟩
          · rw [if_neg c7] at H
            exact absurd H (by simp)
        · rw [if_neg c6] at H
          exact absurd H (by simp)
      · rw [if_neg c5] at H
        have c5b0 : decide (x13_1 < (l0.length : Int)) = false := decide_eq_false c5
        (try (have c5b0z0 := c5b0; rw [hl0_1] at c5b0z0))
        clear c5
        by_cases c11 : x7_1 > 0
        · rw [if_pos c11] at H
          have c11b0 : decide (0 < x7_1) = true := decide_eq_true c11
          clear c11
          by_cases c12 : x0_1.length < 35184372088832
          · rw [if_pos c12] at H
            have LMc12 := Aside0.mk c12
            clear c12
            obtain ⟨y388, hy388⟩ : ∃ y_ : List Int, y_ = (x0_1 ++ [(x7_1) % 4294967296]) := ⟨_, rfl⟩
            replace H : (some y388) = some r := by (rw [hy388]; with_reducible exact H)
            have Ny388 := Aside0.mk hy388
            clear hy388
            obtain rfl := Option.some.inj H
            go_wp2_with (((with_reducible refine gate_builtin (b := .append) (xs := #[.tmp 36, .tmp 39]) rfl ?_); at_builtin; refine Kd.R_append (Kd.int .u32) (w0 := w0) w0.heap.size rfl (.tmp 36) (.tmp 39) 22 31 (.int .u32 0) 4 rfl Try.underlying22 info31 rfl (by decide) (by omega) (.slice Ao4 x0_1.length co4) x0_1 ((x7_1) % 4294967296) [.int .u32 ((x7_1) % 4294967296)] (fun k_ => (P0_ k_ ∨ w.heap.size ≤ k_)) (fun _ => False) rfl rfl ?aP (fun _ hk => hk.elim) ?aF ?aO ?aB ?aS ?aL ?_; (case aP => exact rfl); (case aB => exact (by repeat ((with_reducible exact HB.out)))); (case aF => exact (fun k_ hk => (.inr (Nat.le_trans (by exact HK.out.1) hk)))); (case aO => exact (by exact HO_0.out)); (case aS => exact (below_size (by repeat ((with_reducible exact HB.out))))); (case aL => have := LMc12.out; omega); intro v389 w13 ho hb hg hat; rw [← Ny388.out] at ho; have n0_ := Aside0.mk (hb); have n1_ := Aside0.mk (Kept.of_grown (S := (fun k_ => P0_ k_)) hg (by repeat ((with_reducible exact HK.out))) (fun k_ e_ => (HO_0.out.1 k_ e_))); have n2_ := Aside0.mk (ho); clear HB; clear HK; clear HO_0; have HB := n0_; have HK := n1_; have HO390 := n2_; clear n0_ n1_ n2_; clear ho hb hg hat))
            go_ret
            exact ⟨_, by rfl, by exact HO390.out, by repeat ((with_reducible exact HB.out)), by repeat ((with_reducible exact HK.out))⟩
          · rw [if_neg c12] at H
            exact absurd H (by simp)
        · rw [if_neg c11] at H
          have c11b0 : decide (0 < x7_1) = false := decide_eq_false c11
          clear c11
          obtain rfl := Option.some.inj H
          go_wp2
          go_ret
          exact ⟨_, by rfl, by exact HO_0.out, by repeat ((with_reducible exact HB.out)), by repeat ((with_reducible exact HK.out))⟩

end Go.Proofs.Ytnlkafjhbjlhaaa.PA
