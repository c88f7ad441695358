-- printed by a program of this session
import Derived.Test.YtmbmbmkmjbpcpaaPAx0K
import Derived.Test.YtmbmbmkmjbpcpaaPAx1K
import Derived.Test.YtmbmbmkmjbpcpaaPAx3K
namespace Go.Proofs.Ytmbmbmkmjbpcpaa.PA
open Go.RowKit Go.Proofs.YtmbmbmkmjbpcpaaW.PrintWords Go.Proofs.YtmbmbmkmjbpcpaaW.PrintLast Go.Proofs.YtmbmbmkmjbpcpaaW.PrintMore
attribute [local go_sem] max2_int min2_int max_two min_two max_three min_three max_four min_four   -- for this text's walks alone
set_option linter.unusedVariables false
set_option linter.unusedSimpArgs false

-- NOT PRINTED: function 24 (trammelref02_Mul)

-- NOT PRINTED: function 27 (zint_Abs)

-- NOT PRINTED: function 28 (trammelref02_Abs)

-- NOT PRINTED: function 29 (trammellaw02_kept)

-- NOT PRINTED: function 4 (trammellaw02_ZintSums)

-- NOT PRINTED: function 30 (zint_Of)

-- NOT PRINTED: function 32 (zint_Form)

-- NOT PRINTED: function 33 (trammelref02_Norm)

/-! ### bits_Len32: function 101 -/
def bits_Len32.f (a0 : Int) : Option (Int) := if 0 ≤ a0 ∧ a0 ≤ 4294967295 then some (Lib.bitLen a0.toNat : Int) else none
theorem bits_Len32.end_ {a b : Int} {w : World} (h : a = b) : (Ending.returned (Value.int IntKind.i64 a) = Ending.returned (Value.int IntKind.i64 b)) ∧ Drawn0 w w := ⟨by rw [h], Drawn0.refl _⟩
theorem bits_Len32.wrap {a : Int} (h0 : 0 ≤ a) (h1 : a ≤ 1000) : wrap64 a = a := by unfold wrap64; omega
set_option maxHeartbeats 8000000 in
set_option maxRecDepth 100000 in
theorem bits_Len32.calls (a0 : Int) (r : Int) (w : World) (h : bits_Len32.f a0 = some r) :
    Calls Try.prog 101 #[.int .u32 a0] w fun e w' => e = .returned (.int .i64 r) ∧ Drawn0 w w' := by
  unfold bits_Len32.f at h
  split at h
  · rename_i hx
    obtain ⟨h0, h1⟩ := hx
    obtain rfl := Option.some.inj h
    clear h
    rcases (show 16777216 ≤ a0 ∨ (65536 ≤ a0 ∧ a0 ≤ 16777215) ∨ (256 ≤ a0 ∧ a0 ≤ 65535) ∨ a0 ≤ 255 from by omega) with c | ⟨c, c'⟩ | ⟨c, c'⟩ | c
    · have t1 : 65536 ≤ a0 := by omega
      have t2 : 256 ≤ a0 / 65536 := by omega
      have t3 : 0 ≤ a0 / 65536 / 256 := by omega
      have t4 : a0 / 65536 / 256 ≤ 255 := by omega
      have l := Lib.bitLen_le8' (a0 / 65536 / 256) (by omega) (by omega)
      have s := Lib.bitLen_shift24 a0.toNat (by omega) (by omega)
      have e : (a0 / 65536 / 256).toNat = a0.toNat / 16777216 := by omega
      have L8 := Lib.len8_of (a0 / 65536 / 256) (by omega) (by omega)
      rw [e] at l L8
      have S := Lib.hid s
      have E := Lib.hid L8
      clear s L8 e c
      go_enter Try.func101, Try.ntmps101
      go_wp2
      go_ret
      refine bits_Len32.end_ ?_
      rw [E.out, bits_Len32.wrap (a := ((Lib.bitLen (a0.toNat / 16777216) : Nat) : Int)) (by omega) (by omega), bits_Len32.wrap (by omega) (by omega), S.out]
      omega
    · have t1 : 65536 ≤ a0 := by omega
      have t2 : a0 / 65536 < 256 := by omega
      have t3 : 0 ≤ a0 / 65536 := by omega
      have t4 : a0 / 65536 ≤ 255 := by omega
      have l := Lib.bitLen_le8' (a0 / 65536) (by omega) (by omega)
      have s := Lib.bitLen_shift16 a0.toNat (by omega) (by omega)
      have e : (a0 / 65536).toNat = a0.toNat / 65536 := by omega
      have L8 := Lib.len8_of (a0 / 65536) (by omega) (by omega)
      rw [e] at l L8
      have S := Lib.hid s
      have E := Lib.hid L8
      clear s L8 e c
      go_enter Try.func101, Try.ntmps101
      go_wp2
      go_ret
      refine bits_Len32.end_ ?_
      rw [E.out, bits_Len32.wrap (a := ((Lib.bitLen (a0.toNat / 65536) : Nat) : Int)) (by omega) (by omega), bits_Len32.wrap (by omega) (by omega), S.out]
      omega
    · have t1 : a0 < 65536 := by omega
      have t2 : 256 ≤ a0 := by omega
      have t3 : 0 ≤ a0 / 256 := by omega
      have t4 : a0 / 256 ≤ 255 := by omega
      have l := Lib.bitLen_le8' (a0 / 256) (by omega) (by omega)
      have s := Lib.bitLen_shift8 a0.toNat (by omega) (by omega)
      have e : (a0 / 256).toNat = a0.toNat / 256 := by omega
      have L8 := Lib.len8_of (a0 / 256) (by omega) (by omega)
      rw [e] at l L8
      have S := Lib.hid s
      have E := Lib.hid L8
      clear s L8 e c
      go_enter Try.func101, Try.ntmps101
      go_wp2
      go_ret
      refine bits_Len32.end_ ?_
      rw [E.out, bits_Len32.wrap (a := ((Lib.bitLen (a0.toNat / 256) : Nat) : Int)) (by omega) (by omega), bits_Len32.wrap (by omega) (by omega), S.out]
      omega
    · have t1 : a0 < 65536 := by omega
      have t2 : a0 < 256 := by omega
      have l := Lib.bitLen_le8' a0 (by omega) (by omega)
      have L8 := Lib.len8_of a0 (by omega) (by omega)
      have E := Lib.hid L8
      clear L8
      go_enter Try.func101, Try.ntmps101
      go_wp2
      go_ret
      refine bits_Len32.end_ ?_
      rw [E.out, bits_Len32.wrap (a := ((Lib.bitLen a0.toNat : Nat) : Int)) (by omega) (by omega), bits_Len32.wrap (by omega) (by omega)]
  · cases h

/-! ### nat_Bits: function 81 -/
def nat_Bits.f (k : Nat) (l0 : List Int) : Option (Int) := (nat_trim.f k l0).bind fun t216 => (if (t216.length : Int) = 0 then (some 0) else (if 0 ≤ (wrap64 ((t216.length : Int) - 1)) then (if (wrap64 ((t216.length : Int) - 1)) < (t216.length : Int) then ((bits_Len32.f (rd t216 (wrap64 ((t216.length : Int) - 1)))).bind fun t220 => (some (wrap64 ((wrap64 (32 * (wrap64 ((t216.length : Int) - 1)))) + t220)))) else (none)) else (none)))
set_option maxHeartbeats 8000000 in
set_option maxRecDepth 100000 in
theorem nat_Bits.calls (k : Nat) (A0 : Option Addr) (c0 : Nat) (l0 : List Int) (r : Int) (w : World) (hr0 : Kd.C (Kd.int .u32) w A0 l0.length l0) (hc0 : l0.length ≤ c0) (h : nat_Bits.f k l0 = some r) :
    Calls Try.prog 81 #[.slice A0 l0.length c0] w fun e w' => e = .returned (.int .i64 r) ∧ Below w.heap.size w w' := by
  have HR0 := Aside0.mk hr0
  have HC0 := Aside0.mk hc0
  clear hr0 hc0
  have HB := Aside0.mk (Below.refl w.heap.size w)
  have H : ((nat_trim.f k l0).bind fun t216 => (if (t216.length : Int) = 0 then (some 0) else (if 0 ≤ (wrap64 ((t216.length : Int) - 1)) then (if (wrap64 ((t216.length : Int) - 1)) < (t216.length : Int) then ((bits_Len32.f (rd t216 (wrap64 ((t216.length : Int) - 1)))).bind fun t220 => (some (wrap64 ((wrap64 (32 * (wrap64 ((t216.length : Int) - 1)))) + t220)))) else (none)) else (none)))) = some r := h
  clear h
  replace H := Option.bind_eq_some_iff.mp H
  obtain ⟨t216, A20, H⟩ := H
  replace H : (if (t216.length : Int) = 0 then (some 0) else (if 0 ≤ (wrap64 ((t216.length : Int) - 1)) then (if (wrap64 ((t216.length : Int) - 1)) < (t216.length : Int) then ((bits_Len32.f (rd t216 (wrap64 ((t216.length : Int) - 1)))).bind fun t220 => (some (wrap64 ((wrap64 (32 * (wrap64 ((t216.length : Int) - 1)))) + t220)))) else (none)) else (none))) = some r := H
  have A2 := Aside0.mk A20
  clear A20
  by_cases c3 : (t216.length : Int) = 0
  · rw [if_pos c3] at H
    have c3b0 : ((t216.length : Int) == 0) = true := beq_iff_eq.mpr c3
    have c3b1 : ((t216.length : Int) != 0) = false := bne_eq_false_iff_eq.mpr c3
    clear c3
    obtain rfl := Option.some.inj H
    go_enter Try.func81, Try.ntmps81
    go_wp2_with (((with_reducible refine gate_callee (f := 95) rfl ?_); refine goesL_ (some 4) rfl rfl Try.func95 (by kernel_rfl) rfl #[.slice A0 l0.length c0] rfl (by (try simp only [List.map_toArray, List.map_cons, List.map_nil]); rfl) ?_; (with_reducible refine (nat_trim.calls k (fun k_ => k_ < w.heap.size) _ _ l0 t216 _ ?side1 A2.out).mono ?_); (case side1 => exact Kd.V_mk HC0.out (Kd.F_below (Kd.C_F (Kd.heap_int .u32) HR0.out) (by repeat ((with_reducible exact HB.out))))); rintro e w4 ⟨v217, rfl, ho0, hb⟩; refine ⟨_, rfl, ?_⟩; have n0_ := Aside0.mk (Kd.V_lower (Kd.V_mono (ok' := fun k_ => True) ho0 (fun k_ hk_ => trivial)) (below_size (by repeat ((with_reducible exact HB.out))))); have n1_ := Aside0.mk (below_step (by repeat ((with_reducible exact HB.out))) hb); clear HB; have HO218 := n0_; have HB := n1_; clear n0_ n1_; (try clear hb); (try clear ho0); obtain ⟨Ao5, co5, eo5⟩ := Kd.V_slice HO218.out; subst eo5))
    go_ret
    exact ⟨by rfl, by repeat ((with_reducible exact HB.out))⟩
  · rw [if_neg c3] at H
    have c3b0 : ((t216.length : Int) == 0) = false := beq_eq_false_iff_ne.mpr c3
    have c3b1 : ((t216.length : Int) != 0) = true := bne_iff_ne.mpr c3
    have c3b2 : ¬ (t216 = []) := fun h_ => c3 (by rw [h_]; rfl)
    obtain ⟨ji6, hji6⟩ : ∃ j_ : Int, (wrap64 ((t216.length : Int) - 1)) = j_ := ⟨_, rfl⟩
    replace H : (if 0 ≤ (ji6) then (if (ji6) < (t216.length : Int) then ((bits_Len32.f (rd t216 (ji6))).bind fun t220 => (some (wrap64 ((wrap64 (32 * (ji6))) + t220)))) else (none)) else (none)) = some r := by (rw [hji6] at H; exact H)
    have hji6w : (IntKind.i64.wrap ((t216.length : Int) - 1)) = ji6 := (i64_w _).trans hji6
    by_cases c7 : 0 ≤ (ji6)
    · rw [if_pos c7] at H
      have c7b0 : decide (0 ≤ (ji6)) = true := decide_eq_true c7
      clear c7
      by_cases c8 : (ji6) < (t216.length : Int)
      · rw [if_pos c8] at H
        have c8b0 : decide ((ji6) < (t216.length : Int)) = true := decide_eq_true c8
        clear c8
        replace H := Option.bind_eq_some_iff.mp H
        obtain ⟨t220, A90, H⟩ := H
        replace H : (some (wrap64 ((wrap64 (32 * (ji6))) + t220))) = some r := H
        have A9 := Aside0.mk A90
        clear A90
        obtain rfl := Option.some.inj H
        go_enter Try.func81, Try.ntmps81
        go_wp2_with (first | ((with_reducible refine gate_callee (f := 95) rfl ?_); refine goesL_ (some 4) rfl rfl Try.func95 (by kernel_rfl) rfl #[.slice A0 l0.length c0] rfl (by (try simp only [List.map_toArray, List.map_cons, List.map_nil]); rfl) ?_; (with_reducible refine (nat_trim.calls k (fun k_ => k_ < w.heap.size) _ _ l0 t216 _ ?side1 A2.out).mono ?_); (case side1 => exact Kd.V_mk HC0.out (Kd.F_below (Kd.C_F (Kd.heap_int .u32) HR0.out) (by repeat ((with_reducible exact HB.out))))); rintro e w10 ⟨v217, rfl, ho0, hb⟩; refine ⟨_, rfl, ?_⟩; have n0_ := Aside0.mk (Kd.V_lower (Kd.V_mono (ok' := fun k_ => True) ho0 (fun k_ hk_ => trivial)) (below_size (by repeat ((with_reducible exact HB.out))))); have n1_ := Aside0.mk (below_step (by repeat ((with_reducible exact HB.out))) hb); clear HB; have HO218 := n0_; have HB := n1_; clear n0_ n1_; (try clear hb); (try clear ho0); obtain ⟨Ao11, co11, eo11⟩ := Kd.V_slice HO218.out; subst eo11; have p219 : 0 ≤ ((ji6) : Int) := of_decide_eq_true (by (with_reducible assumption)); have q219 : (ji6) < (t216.length : Int) := of_decide_eq_true (by (with_reducible assumption)); obtain ⟨ad219, e219, hx219_0⟩ := Kd.at_int (Kd.V_reads' HO218.out).2.2 (ji6) p219 q219; cases e219; replace p219 := eq_true p219; replace q219 := eq_true q219) | ((with_reducible refine gate_callee (f := 101) rfl ?_); refine goesL_ (some 18) rfl rfl Try.func101 (by kernel_rfl) rfl #[.int .u32 (rd t216 (ji6))] rfl (by (try simp only [List.map_toArray, List.map_cons, List.map_nil]); rfl) ?_; (with_reducible refine (bits_Len32.calls (rd t216 (ji6)) t220 _ A9.out).mono ?_); rintro e w' ⟨rfl, ⟨nd, rfl⟩⟩; refine ⟨_, rfl, ?_⟩))
        go_ret
        exact ⟨by rfl, by repeat ((with_reducible first | exact HB.out | apply pw_below_drewN))⟩
      · rw [if_neg c8] at H
        exact absurd H (by simp)
    · rw [if_neg c7] at H
      exact absurd H (by simp)

-- NOT PRINTED: function 36 (zint_Sign)

/-! ### nat_Norm: function 100 -/
def nat_Norm.f (k : Nat) (l0 : List Int) : Option (List Int) := (nat_trim.f k l0).bind fun t221 => (if ([] : List Int).length + t221.length < 35184372088832 then (some (([] : List Int) ++ t221)) else (none))
set_option maxHeartbeats 8000000 in
set_option maxRecDepth 100000 in
theorem nat_Norm.calls (k : Nat) (A0 : Option Addr) (c0 : Nat) (l0 : List Int) (r : List Int) (w : World) (hr0 : Kd.C (Kd.int .u32) w A0 l0.length l0) (hc0 : l0.length ≤ c0) (h : nat_Norm.f k l0 = some r) :
    Calls Try.prog 100 #[.slice A0 l0.length c0] w fun e w' => ∃ v0_ : Value, e = .returned (v0_) ∧ Kd.R (Kd.int .u32) 68 w' w.heap.size (fun _ => True) v0_ r ∧ Below w.heap.size w w' := by
  have HR0 := Aside0.mk hr0
  have HC0 := Aside0.mk hc0
  clear hr0 hc0
  have HB := Aside0.mk (Below.refl w.heap.size w)
  have H : ((nat_trim.f k l0).bind fun t221 => (if ([] : List Int).length + t221.length < 35184372088832 then (some (([] : List Int) ++ t221)) else (none))) = some r := h
  clear h
  replace H := Option.bind_eq_some_iff.mp H
  obtain ⟨t221, A20, H⟩ := H
  replace H : (if ([] : List Int).length + t221.length < 35184372088832 then (some (([] : List Int) ++ t221)) else (none)) = some r := H
  have A2 := Aside0.mk A20
  clear A20
  by_cases c3 : ([] : List Int).length + t221.length < 35184372088832
  · rw [if_pos c3] at H
    have LMc3 := Aside0.mk c3
    clear c3
    obtain ⟨y224, hy224⟩ : ∃ y_ : List Int, y_ = (([] : List Int) ++ t221) := ⟨_, rfl⟩
    replace H : (some y224) = some r := by (rw [hy224]; with_reducible exact H)
    have Ny224 := Aside0.mk hy224
    clear hy224
    obtain rfl := Option.some.inj H
    go_enter Try.func100, Try.ntmps100
    go_wp2_with (first | ((with_reducible refine gate_callee (f := 95) rfl ?_); refine goesL_ (some 4) rfl rfl Try.func95 (by kernel_rfl) rfl #[.slice A0 l0.length c0] rfl (by (try simp only [List.map_toArray, List.map_cons, List.map_nil]); rfl) ?_; (with_reducible refine (nat_trim.calls k (fun k_ => k_ < w.heap.size) _ _ l0 t221 _ ?side1 A2.out).mono ?_); (case side1 => exact Kd.V_mk HC0.out (Kd.F_below (Kd.C_F (Kd.heap_int .u32) HR0.out) (by repeat ((with_reducible exact HB.out))))); rintro e w4 ⟨v222, rfl, ho0, hb⟩; refine ⟨_, rfl, ?_⟩; have n0_ := Aside0.mk (Kd.V_lower (Kd.V_mono (ok' := fun k_ => True) ho0 (fun k_ hk_ => trivial)) (below_size (by repeat ((with_reducible exact HB.out))))); have n1_ := Aside0.mk (below_step (by repeat ((with_reducible exact HB.out))) hb); clear HB; have HO223 := n0_; have HB := n1_; clear n0_ n1_; (try clear hb); (try clear ho0); obtain ⟨Ao6, co6, eo6⟩ := Kd.V_slice HO223.out; subst eo6) | ((with_reducible refine gate_builtin (b := .append) (xs := #[.const (.slice none 0 0), .tmp 4]) rfl ?_); at_builtin; refine Kd.R_append_rows (Kd.int .u32) (w0 := w) w.heap.size rfl (.const (.slice none 0 0)) (.tmp 4) 23 68 (.int .u32 0) 4 rfl Try.underlying23 info68 rfl (by decide) (by omega) (.slice none 0 0) ([] : List Int) t221 _ _ _ (fun _ => True) (fun _ => False) rfl rfl ?aO ?aR (fun _ _ h => h) (fun _ h => h.elim) ?aF ?aB ?aS ?aL ?_; (case aR => repeat (exact (Kd.V_reads' HO223.out).2.2)); (case aB => exact (by repeat ((with_reducible exact HB.out)))); (case aF => exact (fun _ _ => trivial)); (case aO => exact ((Kd.R_nil _ _ _ _ (fun _ => True)))); (case aS => exact (below_size (by repeat ((with_reducible exact HB.out))))); (case aL => have := LMc3.out; omega); intro v225 w5 ho hb hg hat; rw [← Ny224.out] at ho; have n0_ := Aside0.mk (Kd.V_afterv (Kd.V_apart_nil (by exact HO223.out)) hg hat); have n1_ := Aside0.mk (hb); have n2_ := Aside0.mk (ho); clear HO223; clear HB; have HO223 := n0_; have HB := n1_; have HO226 := n2_; clear n0_ n1_ n2_; clear ho hb hg hat))
    go_ret
    exact ⟨_, by rfl, by exact HO226.out, by repeat ((with_reducible exact HB.out))⟩
  · rw [if_neg c3] at H
    exact absurd H (by simp)

end Go.Proofs.Ytmbmbmkmjbpcpaa.PA

