-- printed by a program of this session
import Derived.Test.YtmbmbmkmjbpcpaaPAx0K
import Derived.Test.YtmbmbmkmjbpcpaaPAx3K
import Derived.Test.YtmbmbmkmjbpcpaaPAx6K
import Derived.Test.YtmbmbmkmjbpcpaaPAx13K
namespace Go.Proofs.Ytmbmbmkmjbpcpaa.PA
open Go.RowKit Go.Proofs.YtmbmbmkmjbpcpaaW.PrintWords Go.Proofs.YtmbmbmkmjbpcpaaW.PrintLast Go.Proofs.YtmbmbmkmjbpcpaaW.PrintMore
attribute [local go_sem] max2_int min2_int max_two min_two max_three min_three max_four min_four   -- for this text's walks alone
set_option linter.unusedVariables false
set_option linter.unusedSimpArgs false

-- NOT PRINTED: function 46 (trammelref02_Root)

-- NOT PRINTED: function 47 (zint_Bits)

-- NOT PRINTED: function 48 (trammelref02_Bits)

-- NOT PRINTED: function 90 (zint_two)

-- NOT PRINTED: function 49 (zint_Top)

/-! ### trammelref01_Shr: function 109 -/
def trammelref01_Shr.l0 : Nat → List Int → Int → List Int → Int → Option (List Int × Int)
  | 0, _, _, _, _ => none
  | k + 1, x0, x1, x6, x7 => if x7 < (x0.length : Int) then ((trammelref01_limb.f x0 x7).bind fun t380 => ((trammelref01_limb.f x0 (wrap64 (x7 + 1))).bind fun t381 => (if 0 ≤ (IntKind.u64.wrap (Int.tmod x1 32)) then (if x6.length < 35184372088832 then (trammelref01_Shr.l0 k x0 x1 (x6 ++ [(Int.tmod (shr .u64 (IntKind.u64.wrap (t380 + (IntKind.u64.wrap (t381 * 4294967296)))) (IntKind.u64.wrap (Int.tmod x1 32))) 4294967296) % 4294967296]) (wrap64 (x7 + 1))) else (none)) else (none)))) else ((trammelref01_Norm.f k x6).bind fun t385 => (some (t385, 0)))
def trammelref01_Shr.f (k : Nat) (l0 : List Int) (a1 : Int) : Option (List Int × Int) := if a1 < 0 then (some (([] : List Int), 1)) else ((trammelref01_Bits.f k l0).bind fun t379 => (if a1 ≥ t379 then (some (([] : List Int), 0)) else (trammelref01_Shr.l0 k l0 a1 ([] : List Int) (wrap64 (Int.tdiv a1 32)))))
set_option maxHeartbeats 8000000 in
set_option maxRecDepth 100000 in
theorem trammelref01_Shr.calls (k : Nat) (A0 : Option Addr) (c0 : Nat) (l0 : List Int) (a1 : Int) (r1 : List Int) (r2 : Int) (w : World) (hr0 : Kd.C (Kd.int .u32) w A0 l0.length l0) (hc0 : l0.length ≤ c0) (h : trammelref01_Shr.f k l0 a1 = some (r1, r2)) :
    Calls Try.prog 109 #[.slice A0 l0.length c0, .int .i64 a1] w fun e w' => ∃ v0_ : Value, e = .returned (.tuple #[v0_, .int .i64 r2]) ∧ Kd.R (Kd.int .u32) 68 w' w.heap.size (fun _ => True) v0_ r1 ∧ Below w.heap.size w w' := by
  have HR0 := Aside0.mk hr0
  have HC0 := Aside0.mk hc0
  clear hr0 hc0
  have HB := Aside0.mk (Below.refl w.heap.size w)
  have H : (if a1 < 0 then (some (([] : List Int), 1)) else ((trammelref01_Bits.f k l0).bind fun t379 => (if a1 ≥ t379 then (some (([] : List Int), 0)) else (trammelref01_Shr.l0 k l0 a1 ([] : List Int) (wrap64 (Int.tdiv a1 32)))))) = some (r1, r2) := h
  clear h
  by_cases c3 : a1 < 0
  · rw [if_pos c3] at H
    have c3b0 : decide (a1 < 0) = true := decide_eq_true c3
    clear c3
    simp only [Option.some.injEq, Prod.mk.injEq] at H
    obtain ⟨rfl, rfl⟩ := H
    go_enter Try.func109, Try.ntmps109
    go_wp2
    go_ret2
    exact ⟨_, by rfl, by exact Kd.R_nil _ _ _ _ _, by repeat ((with_reducible exact HB.out))⟩
  · rw [if_neg c3] at H
    have c3b0 : decide (a1 < 0) = false := decide_eq_false c3
    clear c3
    replace H := Option.bind_eq_some_iff.mp H
    obtain ⟨t379, A40, H⟩ := H
    replace H : (if a1 ≥ t379 then (some (([] : List Int), 0)) else (trammelref01_Shr.l0 k l0 a1 ([] : List Int) (wrap64 (Int.tdiv a1 32)))) = some (r1, r2) := H
    have A4 := Aside0.mk A40
    clear A40
    by_cases c5 : a1 ≥ t379
    · rw [if_pos c5] at H
      have c5b0 : decide (t379 ≤ a1) = true := decide_eq_true c5
      clear c5
      simp only [Option.some.injEq, Prod.mk.injEq] at H
      obtain ⟨rfl, rfl⟩ := H
      go_enter Try.func109, Try.ntmps109
      go_wp2_with (((with_reducible refine gate_callee (f := 88) rfl ?_); refine goesL_ (some 13) rfl rfl Try.func88 (by kernel_rfl) rfl #[.slice A0 l0.length c0] rfl (by (try simp only [List.map_toArray, List.map_cons, List.map_nil]); rfl) ?_; (with_reducible refine (trammelref01_Bits.calls k _ _ l0 t379 _ ?side1 ?side2 A4.out).mono ?_); (case side1 => repeat (exact HR0.out)); (case side2 => exact HC0.out); rintro e w' ⟨rfl, ⟨nd, rfl⟩⟩; refine ⟨_, rfl, ?_⟩))
      go_ret2
      exact ⟨_, by rfl, by exact Kd.R_nil _ _ _ _ _, by repeat ((with_reducible first | exact HB.out | apply pw_below_drewN))⟩
    · rw [if_neg c5] at H
      have c5b0 : decide (t379 ≤ a1) = false := decide_eq_false c5
      clear c5
      have H' := Aside0.mk H
      clear H
      go_enter Try.func109, Try.ntmps109
      go_wp2_with (((with_reducible refine gate_callee (f := 88) rfl ?_); refine goesL_ (some 13) rfl rfl Try.func88 (by kernel_rfl) rfl #[.slice A0 l0.length c0] rfl (by (try simp only [List.map_toArray, List.map_cons, List.map_nil]); rfl) ?_; (with_reducible refine (trammelref01_Bits.calls k _ _ l0 t379 _ ?side1 ?side2 A4.out).mono ?_); (case side1 => repeat (exact HR0.out)); (case side2 => exact HC0.out); rintro e w' ⟨rfl, ⟨nd, rfl⟩⟩; refine ⟨_, rfl, ?_⟩))
      go_loopg [6, 7] k (fun kq v6 v7 w' => ∃ (x6_1 : List Int) (x7_1 : Int), v7 = .int .i64 x7_1 ∧ Aside0 (trammelref01_Shr.l0 kq l0 a1 x6_1 x7_1 = some (r1, r2)) ∧ Aside0 (kq ≤ k) ∧ Aside0 (Kd.R (Kd.int .u32) 68 w' w.heap.size (fun _ => True) v6 x6_1) ∧ Aside0 (Below w.heap.size w w'))
      case atStart => exact ⟨(([] : List Int)), (wrap64 (Int.tdiv a1 32)), (by rfl), H', ⟨Nat.le_refl _⟩, ⟨by exact Kd.R_nil _ _ _ _ _⟩, ⟨by repeat ((with_reducible first | exact HB.out | apply pw_below_drewN))⟩⟩
      case round =>
        clear H'
        skip
        skip
        skip
        try clear c3b0
        skip
        try clear c5b0
        obtain ⟨x6_1, x7_1, rfl, HA, HK1, HO_6, HB⟩ := hrel
        cases gk with
        | zero => exact absurd HA.out (by simp [trammelref01_Shr.l0])
        | succ k1 =>
          have H := HA.out
          clear HA
          simp only [trammelref01_Shr.l0] at H
          by_cases c6 : x7_1 < (l0.length : Int)
          · rw [if_pos c6] at H
            have c6b0 : decide (x7_1 < (l0.length : Int)) = true := decide_eq_true c6
            clear c6
            replace H := Option.bind_eq_some_iff.mp H
            obtain ⟨t380, A70, H⟩ := H
            replace H : ((trammelref01_limb.f l0 (wrap64 (x7_1 + 1))).bind fun t381 => (if 0 ≤ (IntKind.u64.wrap (Int.tmod a1 32)) then (if x6_1.length < 35184372088832 then (trammelref01_Shr.l0 k1 l0 a1 (x6_1 ++ [(Int.tmod (shr .u64 (IntKind.u64.wrap (t380 + (IntKind.u64.wrap (t381 * 4294967296)))) (IntKind.u64.wrap (Int.tmod a1 32))) 4294967296) % 4294967296]) (wrap64 (x7_1 + 1))) else (none)) else (none))) = some (r1, r2) := H
            have A7 := Aside0.mk A70
            clear A70
            replace H := Option.bind_eq_some_iff.mp H
            obtain ⟨t381, A80, H⟩ := H
            replace H : (if 0 ≤ (IntKind.u64.wrap (Int.tmod a1 32)) then (if x6_1.length < 35184372088832 then (trammelref01_Shr.l0 k1 l0 a1 (x6_1 ++ [(Int.tmod (shr .u64 (IntKind.u64.wrap (t380 + (IntKind.u64.wrap (t381 * 4294967296)))) (IntKind.u64.wrap (Int.tmod a1 32))) 4294967296) % 4294967296]) (wrap64 (x7_1 + 1))) else (none)) else (none)) = some (r1, r2) := H
            have A8 := Aside0.mk A80
            clear A80
            obtain ⟨ji9, hji9⟩ : ∃ j_ : Int, (IntKind.u64.wrap (Int.tmod a1 32)) = j_ := ⟨_, rfl⟩
            replace H : (if 0 ≤ (ji9) then (if x6_1.length < 35184372088832 then (trammelref01_Shr.l0 k1 l0 a1 (x6_1 ++ [(Int.tmod (shr .u64 (IntKind.u64.wrap (t380 + (IntKind.u64.wrap (t381 * 4294967296)))) (ji9)) 4294967296) % 4294967296]) (wrap64 (x7_1 + 1))) else (none)) else (none)) = some (r1, r2) := by (rw [hji9] at H; exact H)
            by_cases c10 : 0 ≤ (ji9)
            · rw [if_pos c10] at H
              have c10b0 := eq_true c10
              have c10b1 : decide (0 ≤ (ji9)) = true := decide_eq_true c10
              clear c10
              obtain ⟨ji11, hji11⟩ : ∃ j_ : Int, (shr .u64 (IntKind.u64.wrap (t380 + (IntKind.u64.wrap (t381 * 4294967296)))) (ji9)) = j_ := ⟨_, rfl⟩
              replace H : (if x6_1.length < 35184372088832 then (trammelref01_Shr.l0 k1 l0 a1 (x6_1 ++ [(Int.tmod (ji11) 4294967296) % 4294967296]) (wrap64 (x7_1 + 1))) else (none)) = some (r1, r2) := by (rw [hji11] at H; exact H)
              have hji11_ : ((IntKind.u64.wrap (t380 + (IntKind.u64.wrap (t381 * 4294967296)))) / 2 ^ min (ji9).toNat 64) = ji11 := hji11
              have hji11z : (ji9) ≤ 64 → ((IntKind.u64.wrap (t380 + (IntKind.u64.wrap (t381 * 4294967296)))) / 2 ^ (ji9).toNat) = ji11 := shr_small hji11
              by_cases c12 : x6_1.length < 35184372088832
              · rw [if_pos c12] at H
                have LMc12 := Aside0.mk c12
                clear c12
                obtain ⟨y382, hy382⟩ : ∃ y_ : List Int, y_ = (x6_1 ++ [(Int.tmod (ji11) 4294967296) % 4294967296]) := ⟨_, rfl⟩
                replace H : (trammelref01_Shr.l0 k1 l0 a1 y382 (wrap64 (x7_1 + 1))) = some (r1, r2) := by (rw [hy382]; with_reducible exact H)
                have Ny382 := Aside0.mk hy382
                clear hy382
                have H' := Aside0.mk H
                clear H
                go_wp2_with (first | ((with_reducible refine gate_callee (f := 98) rfl ?_); refine goesL_ (some 25) rfl rfl Try.func98 (by kernel_rfl) rfl #[.slice A0 l0.length c0, .int .i64 x7_1] rfl (by (try simp only [List.map_toArray, List.map_cons, List.map_nil]); rfl) ?_; (with_reducible refine (trammelref01_limb.calls _ _ l0 x7_1 t380 _ ?side1 ?side2 A7.out).mono ?_); (case side1 => repeat (exact (Kd.C_below HR0.out HB.out))); (case side2 => exact HC0.out); rintro e w' ⟨rfl, ⟨nd, rfl⟩⟩; refine ⟨_, rfl, ?_⟩) | ((with_reducible refine gate_callee (f := 98) rfl ?_); refine goesL_ (some 29) rfl rfl Try.func98 (by kernel_rfl) rfl #[.slice A0 l0.length c0, .int .i64 (wrap64 (x7_1 + 1))] rfl (by (try simp only [List.map_toArray, List.map_cons, List.map_nil]); rfl) ?_; (with_reducible refine (trammelref01_limb.calls _ _ l0 (wrap64 (x7_1 + 1)) t381 _ ?side1 ?side2 A8.out).mono ?_); (case side1 => repeat (exact (Kd.C_below HR0.out (by repeat ((with_reducible first | exact HB.out | apply pw_below_drewN)))))); (case side2 => exact HC0.out); rintro e w' ⟨rfl, ⟨nd, rfl⟩⟩; refine ⟨_, rfl, ?_⟩) | ((with_reducible refine gate_builtin (b := .append) (xs := #[.tmp 32, .tmp 40]) rfl ?_); at_builtin; refine Kd.R_append (Kd.int .u32) (w0 := w) w.heap.size rfl (.tmp 32) (.tmp 40) 23 68 (.int .u32 0) 4 rfl Try.underlying23 info68 rfl (by decide) (by omega) u6 x6_1 ((Int.tmod (ji11) 4294967296) % 4294967296) [.int .u32 ((Int.tmod (ji11) 4294967296) % 4294967296)] (fun _ => True) (fun _ => False) rfl rfl ?aP (fun _ hk => hk.elim) ?aF ?aO ?aB ?aS ?aL ?_; (case aP => exact rfl); (case aB => exact (by repeat ((with_reducible first | exact HB.out | apply pw_below_drewN)))); (case aF => exact (fun _ _ => trivial)); (case aO => exact (by (with_reducible repeat (apply Kd.R_drewN)); exact HO_6.out)); (case aS => exact (below_size (by repeat ((with_reducible first | exact HB.out | apply pw_below_drewN))))); (case aL => have := LMc12.out; omega); intro v383 w13 ho hb hg hat; rw [← Ny382.out] at ho; have n0_ := Aside0.mk (hb); have n1_ := Aside0.mk (ho); clear HB; clear HO_6; have HB := n0_; have HO384 := n1_; clear n0_ n1_; clear ho hb hg hat))
                (try subst hji9)
                (try subst hji11)
                go_roundg k1
                case measure => have := HK1.out; omega
                case rel => exact ⟨(y382), (wrap64 (x7_1 + 1)), (by rfl), (by with_reducible exact H'), ⟨by have := HK1.out; omega⟩, ⟨by exact HO384.out⟩, ⟨by repeat ((with_reducible exact HB.out))⟩⟩
              · rw [if_neg c12] at H
                exact absurd H (by simp)
            · rw [if_neg c10] at H
              exact absurd H (by simp)
          · rw [if_neg c6] at H
            have c6b0 : decide (x7_1 < (l0.length : Int)) = false := decide_eq_false c6
            clear c6
            replace H := Option.bind_eq_some_iff.mp H
            obtain ⟨t385, A140, H⟩ := H
            replace H : (some (t385, 0)) = some (r1, r2) := H
            have A14 := Aside0.mk A140
            clear A140
            simp only [Option.some.injEq, Prod.mk.injEq] at H
            obtain ⟨rfl, rfl⟩ := H
            obtain ⟨Ao15, co15, eo15⟩ := Kd.R_slice HO_6.out
            subst eo15
            go_wp2_with (((with_reducible refine gate_callee (f := 80) rfl ?_); refine goesL_ (some 43) rfl rfl Try.func80 (by kernel_rfl) rfl #[.slice Ao15 x6_1.length co15] rfl (by (try simp only [List.map_toArray, List.map_cons, List.map_nil]); rfl) ?_; (with_reducible refine (trammelref01_Norm.calls k1 _ _ x6_1 t385 _ ?side1 ?side2 A14.out).mono ?_); (case side1 => repeat (exact (Kd.R_reads' HO_6.out).2.2)); (case side2 => exact (Kd.R_reads' HO_6.out).2.1); rintro e w16 ⟨v386, rfl, ho0, hb⟩; refine ⟨_, rfl, ?_⟩; have n0_ := Aside0.mk (Kd.R_elder' (by exact HO_6.out) (Kd.R_base ho0) hb); have n1_ := Aside0.mk (Kd.R_lower (Kd.R_new' ho0 (Kd.R_lt (by exact HO_6.out))) (below_size (by repeat ((with_reducible exact HB.out))))); have n2_ := Aside0.mk (below_step (by repeat ((with_reducible exact HB.out))) hb); clear HO_6; clear HB; have HO_6 := n0_; have HO387 := n1_; have HB := n2_; clear n0_ n1_ n2_; (try clear hb); (try clear ho0)))
            go_ret2
            exact ⟨_, by rfl, by exact Kd.R_mono HO387.out (fun _ hk => trivial), by repeat ((with_reducible exact HB.out))⟩

end Go.Proofs.Ytmbmbmkmjbpcpaa.PA

