-- printed by a program of this session
import Derived.Test.YtndopanohhdfgaaPAx0K
import Derived.Test.YtndopanohhdfgaaPAx9K
import Derived.Test.YtndopanohhdfgaaPAx11K
import Derived.Test.YtndopanohhdfgaaPAx12K
namespace Go.Proofs.Ytndopanohhdfgaa.PA
open Go.RowKit Go.Proofs.YtndopanohhdfgaaW.PrintWords Go.Proofs.YtndopanohhdfgaaW.PrintLast Go.Proofs.YtndopanohhdfgaaW.PrintMore
attribute [local go_sem] max2_int min2_int max_two min_two max_three min_three max_four min_four   -- for this text's walks alone
set_option linter.unusedVariables false
set_option linter.unusedSimpArgs false

/-! ### trammelref01_less: function 88 -/
def trammelref01_less.l0 : Nat → List Int → List Int → List Int → Int → Int → Option (List Int)
  | 0, _, _, _, _, _ => none
  | k + 1, x0, x1, x5, x6, x7 => if x7 < (x0.length : Int) then ((trammelref01_limb.f x0 x7).bind fun t306 => ((trammelref01_limb.f x1 x7).bind fun t307 => (if t306 < (IntKind.u64.wrap (t307 + x6)) then (if x5.length < 35184372088832 then (trammelref01_less.l0 k x0 x1 (x5 ++ [(IntKind.u64.wrap ((IntKind.u64.wrap (t306 + 4294967296)) - (IntKind.u64.wrap (t307 + x6)))) % 4294967296]) 1 (wrap64 (x7 + 1))) else (none)) else (if x5.length < 35184372088832 then (trammelref01_less.l0 k x0 x1 (x5 ++ [(IntKind.u64.wrap (t306 - (IntKind.u64.wrap (t307 + x6)))) % 4294967296]) 0 (wrap64 (x7 + 1))) else (none))))) else ((trammelref01_Norm.f k x5).bind fun t303 => (some t303))
def trammelref01_less.f (k : Nat) (l0 : List Int) (l1 : List Int) : Option (List Int) := trammelref01_less.l0 k l0 l1 ([] : List Int) 0 0
set_option maxHeartbeats 8000000 in
set_option maxRecDepth 100000 in
theorem trammelref01_less.calls (k : Nat) (A0 : Option Addr) (c0 : Nat) (l0 : List Int) (A1 : Option Addr) (c1 : Nat) (l1 : List Int) (r : List Int) (w : World) (hr0 : Kd.C (Kd.int .u32) w A0 l0.length l0) (hc0 : l0.length ≤ c0) (hr1 : Kd.C (Kd.int .u32) w A1 l1.length l1) (hc1 : l1.length ≤ c1) (h : trammelref01_less.f k l0 l1 = some r) :
    Calls Try.prog 88 #[.slice A0 l0.length c0, .slice A1 l1.length c1] w fun e w' => ∃ v0_ : Value, e = .returned (v0_) ∧ Kd.R (Kd.int .u32) 68 w' w.heap.size (fun _ => True) v0_ r ∧ Below w.heap.size w w' := by
  have HR0 := Aside0.mk hr0
  have HC0 := Aside0.mk hc0
  clear hr0 hc0
  have HR1 := Aside0.mk hr1
  have HC1 := Aside0.mk hc1
  clear hr1 hc1
  have HB := Aside0.mk (Below.refl w.heap.size w)
  have H : (trammelref01_less.l0 k l0 l1 ([] : List Int) 0 0) = some r := h
  clear h
  have H' := Aside0.mk H
  clear H
  go_enter Try.func88, Try.ntmps88
  go_wp2
  go_loopg [5, 6, 7] k (fun kq v5 v6 v7 w' => ∃ (x5_1 : List Int) (x6_1 : Int) (x7_1 : Int), v6 = .int .u64 x6_1 ∧ v7 = .int .i64 x7_1 ∧ Aside0 (trammelref01_less.l0 kq l0 l1 x5_1 x6_1 x7_1 = some r) ∧ Aside0 (kq ≤ k) ∧ Aside0 (Kd.R (Kd.int .u32) 68 w' w.heap.size (fun _ => True) v5 x5_1) ∧ Aside0 (Below w.heap.size w w'))
  case atStart => exact ⟨(([] : List Int)), (0), (0), (by rfl), (by rfl), H', ⟨Nat.le_refl _⟩, ⟨by exact Kd.R_nil _ _ _ _ _⟩, ⟨by repeat ((with_reducible exact HB.out))⟩⟩
  case round =>
    clear H'
    skip
    skip
    obtain ⟨x5_1, x6_1, x7_1, rfl, rfl, HA, HK1, HO_5, HB⟩ := hrel
    cases gk with
    | zero => exact absurd HA.out (by simp [trammelref01_less.l0])
    | succ k1 =>
      have H := HA.out
      clear HA
      simp only [trammelref01_less.l0] at H
      by_cases c3 : x7_1 < (l0.length : Int)
      · rw [if_pos c3] at H
        have c3b0 : decide (x7_1 < (l0.length : Int)) = true := decide_eq_true c3
        clear c3
        replace H := Option.bind_eq_some_iff.mp H
        obtain ⟨t306, A40, H⟩ := H
        replace H : ((trammelref01_limb.f l1 x7_1).bind fun t307 => (if t306 < (IntKind.u64.wrap (t307 + x6_1)) then (if x5_1.length < 35184372088832 then (trammelref01_less.l0 k1 l0 l1 (x5_1 ++ [(IntKind.u64.wrap ((IntKind.u64.wrap (t306 + 4294967296)) - (IntKind.u64.wrap (t307 + x6_1)))) % 4294967296]) 1 (wrap64 (x7_1 + 1))) else (none)) else (if x5_1.length < 35184372088832 then (trammelref01_less.l0 k1 l0 l1 (x5_1 ++ [(IntKind.u64.wrap (t306 - (IntKind.u64.wrap (t307 + x6_1)))) % 4294967296]) 0 (wrap64 (x7_1 + 1))) else (none)))) = some r := H
        have A4 := Aside0.mk A40
        clear A40
        replace H := Option.bind_eq_some_iff.mp H
        obtain ⟨t307, A50, H⟩ := H
        replace H : (if t306 < (IntKind.u64.wrap (t307 + x6_1)) then (if x5_1.length < 35184372088832 then (trammelref01_less.l0 k1 l0 l1 (x5_1 ++ [(IntKind.u64.wrap ((IntKind.u64.wrap (t306 + 4294967296)) - (IntKind.u64.wrap (t307 + x6_1)))) % 4294967296]) 1 (wrap64 (x7_1 + 1))) else (none)) else (if x5_1.length < 35184372088832 then (trammelref01_less.l0 k1 l0 l1 (x5_1 ++ [(IntKind.u64.wrap (t306 - (IntKind.u64.wrap (t307 + x6_1)))) % 4294967296]) 0 (wrap64 (x7_1 + 1))) else (none))) = some r := H
        have A5 := Aside0.mk A50
        clear A50
        by_cases c6 : t306 < (IntKind.u64.wrap (t307 + x6_1))
        · rw [if_pos c6] at H
          have c6b0 : decide (t306 < (IntKind.u64.wrap (t307 + x6_1))) = true := decide_eq_true c6
          clear c6
          by_cases c7 : x5_1.length < 35184372088832
          · rw [if_pos c7] at H
            have LMc7 := Aside0.mk c7
            clear c7
            obtain ⟨y308, hy308⟩ : ∃ y_ : List Int, y_ = (x5_1 ++ [(IntKind.u64.wrap ((IntKind.u64.wrap (t306 + 4294967296)) - (IntKind.u64.wrap (t307 + x6_1)))) % 4294967296]) := ⟨_, rfl⟩
            replace H : (trammelref01_less.l0 k1 l0 l1 y308 1 (wrap64 (x7_1 + 1))) = some r := by (rw [hy308]; with_reducible exact H)
            have Ny308 := Aside0.mk hy308
            clear hy308
            have H' := Aside0.mk H
            clear H
            go_wp2_with (first | ((with_reducible refine gate_callee (f := 87) rfl ?_); refine goesL_ (some 18) rfl rfl Try.func87 (by kernel_rfl) rfl #[.slice A0 l0.length c0, .int .i64 x7_1] rfl (by (try simp only [List.map_toArray, List.map_cons, List.map_nil]); rfl) ?_; (with_reducible refine (trammelref01_limb.calls _ _ l0 x7_1 t306 _ ?side1 ?side2 A4.out).mono ?_); (case side1 => repeat (exact (Kd.C_below HR0.out HB.out))); (case side2 => exact HC0.out); rintro e w' ⟨rfl, ⟨nd, rfl⟩⟩; refine ⟨_, rfl, ?_⟩) | ((with_reducible refine gate_callee (f := 87) rfl ?_); refine goesL_ (some 21) rfl rfl Try.func87 (by kernel_rfl) rfl #[.slice A1 l1.length c1, .int .i64 x7_1] rfl (by (try simp only [List.map_toArray, List.map_cons, List.map_nil]); rfl) ?_; (with_reducible refine (trammelref01_limb.calls _ _ l1 x7_1 t307 _ ?side1 ?side2 A5.out).mono ?_); (case side1 => repeat (exact (Kd.C_below HR1.out (by repeat ((with_reducible first | exact HB.out | apply pw_below_drewN)))))); (case side2 => exact HC1.out); rintro e w' ⟨rfl, ⟨nd, rfl⟩⟩; refine ⟨_, rfl, ?_⟩) | ((with_reducible refine gate_builtin (b := .append) (xs := #[.tmp 29, .tmp 34]) rfl ?_); at_builtin; refine Kd.R_append (Kd.int .u32) (w0 := w) w.heap.size rfl (.tmp 29) (.tmp 34) 22 68 (.int .u32 0) 4 rfl Try.underlying22 info68 rfl (by decide) (by omega) u5 x5_1 ((IntKind.u64.wrap ((IntKind.u64.wrap (t306 + 4294967296)) - (IntKind.u64.wrap (t307 + x6_1)))) % 4294967296) [.int .u32 ((IntKind.u64.wrap ((IntKind.u64.wrap (t306 + 4294967296)) - (IntKind.u64.wrap (t307 + x6_1)))) % 4294967296)] (fun _ => True) (fun _ => False) rfl rfl ?aP (fun _ hk => hk.elim) ?aF ?aO ?aB ?aS ?aL ?_; (case aP => exact rfl); (case aB => exact (by repeat ((with_reducible first | exact HB.out | apply pw_below_drewN)))); (case aF => exact (fun _ _ => trivial)); (case aO => exact (by (with_reducible repeat (apply Kd.R_drewN)); exact HO_5.out)); (case aS => exact (below_size (by repeat ((with_reducible first | exact HB.out | apply pw_below_drewN))))); (case aL => have := LMc7.out; omega); intro v309 w8 ho hb hg hat; rw [← Ny308.out] at ho; have n0_ := Aside0.mk (hb); have n1_ := Aside0.mk (ho); clear HB; clear HO_5; have HB := n0_; have HO310 := n1_; clear n0_ n1_; clear ho hb hg hat))
            go_roundg k1
            case measure => have := HK1.out; omega
            case rel => exact ⟨(y308), (1), (wrap64 (x7_1 + 1)), (by rfl), (by rfl), (by with_reducible exact H'), ⟨by have := HK1.out; omega⟩, ⟨by exact HO310.out⟩, ⟨by repeat ((with_reducible exact HB.out))⟩⟩
          · rw [if_neg c7] at H
            exact absurd H (by simp)
        · rw [if_neg c6] at H
          have c6b0 : decide (t306 < (IntKind.u64.wrap (t307 + x6_1))) = false := decide_eq_false c6
          clear c6
          by_cases c9 : x5_1.length < 35184372088832
          · rw [if_pos c9] at H
            have LMc9 := Aside0.mk c9
            clear c9
            obtain ⟨y311, hy311⟩ : ∃ y_ : List Int, y_ = (x5_1 ++ [(IntKind.u64.wrap (t306 - (IntKind.u64.wrap (t307 + x6_1)))) % 4294967296]) := ⟨_, rfl⟩
            replace H : (trammelref01_less.l0 k1 l0 l1 y311 0 (wrap64 (x7_1 + 1))) = some r := by (rw [hy311]; with_reducible exact H)
            have Ny311 := Aside0.mk hy311
            clear hy311
            have H' := Aside0.mk H
            clear H
            go_wp2_with (first | ((with_reducible refine gate_callee (f := 87) rfl ?_); refine goesL_ (some 18) rfl rfl Try.func87 (by kernel_rfl) rfl #[.slice A0 l0.length c0, .int .i64 x7_1] rfl (by (try simp only [List.map_toArray, List.map_cons, List.map_nil]); rfl) ?_; (with_reducible refine (trammelref01_limb.calls _ _ l0 x7_1 t306 _ ?side1 ?side2 A4.out).mono ?_); (case side1 => repeat (exact (Kd.C_below HR0.out HB.out))); (case side2 => exact HC0.out); rintro e w' ⟨rfl, ⟨nd, rfl⟩⟩; refine ⟨_, rfl, ?_⟩) | ((with_reducible refine gate_callee (f := 87) rfl ?_); refine goesL_ (some 21) rfl rfl Try.func87 (by kernel_rfl) rfl #[.slice A1 l1.length c1, .int .i64 x7_1] rfl (by (try simp only [List.map_toArray, List.map_cons, List.map_nil]); rfl) ?_; (with_reducible refine (trammelref01_limb.calls _ _ l1 x7_1 t307 _ ?side1 ?side2 A5.out).mono ?_); (case side1 => repeat (exact (Kd.C_below HR1.out (by repeat ((with_reducible first | exact HB.out | apply pw_below_drewN)))))); (case side2 => exact HC1.out); rintro e w' ⟨rfl, ⟨nd, rfl⟩⟩; refine ⟨_, rfl, ?_⟩) | ((with_reducible refine gate_builtin (b := .append) (xs := #[.tmp 29, .tmp 34]) rfl ?_); at_builtin; refine Kd.R_append (Kd.int .u32) (w0 := w) w.heap.size rfl (.tmp 29) (.tmp 34) 22 68 (.int .u32 0) 4 rfl Try.underlying22 info68 rfl (by decide) (by omega) u5 x5_1 ((IntKind.u64.wrap (t306 - (IntKind.u64.wrap (t307 + x6_1)))) % 4294967296) [.int .u32 ((IntKind.u64.wrap (t306 - (IntKind.u64.wrap (t307 + x6_1)))) % 4294967296)] (fun _ => True) (fun _ => False) rfl rfl ?aP (fun _ hk => hk.elim) ?aF ?aO ?aB ?aS ?aL ?_; (case aP => exact rfl); (case aB => exact (by repeat ((with_reducible first | exact HB.out | apply pw_below_drewN)))); (case aF => exact (fun _ _ => trivial)); (case aO => exact (by (with_reducible repeat (apply Kd.R_drewN)); exact HO_5.out)); (case aS => exact (below_size (by repeat ((with_reducible first | exact HB.out | apply pw_below_drewN))))); (case aL => have := LMc9.out; omega); intro v312 w10 ho hb hg hat; rw [← Ny311.out] at ho; have n0_ := Aside0.mk (hb); have n1_ := Aside0.mk (ho); clear HB; clear HO_5; have HB := n0_; have HO313 := n1_; clear n0_ n1_; clear ho hb hg hat))
            go_roundg k1
            case measure => have := HK1.out; omega
            case rel => exact ⟨(y311), (0), (wrap64 (x7_1 + 1)), (by rfl), (by rfl), (by with_reducible exact H'), ⟨by have := HK1.out; omega⟩, ⟨by exact HO313.out⟩, ⟨by repeat ((with_reducible exact HB.out))⟩⟩
          · rw [if_neg c9] at H
            exact absurd H (by simp)
      · rw [if_neg c3] at H
        have c3b0 : decide (x7_1 < (l0.length : Int)) = false := decide_eq_false c3
        clear c3
        replace H := Option.bind_eq_some_iff.mp H
        obtain ⟨t303, A110, H⟩ := H
        replace H : (some t303) = some r := H
        have A11 := Aside0.mk A110
        clear A110
        obtain rfl := Option.some.inj H
        obtain ⟨Ao12, co12, eo12⟩ := Kd.R_slice HO_5.out
        subst eo12
        go_wp2_with (((with_reducible refine gate_callee (f := 45) rfl ?_); refine goesL_ (some 37) rfl rfl Try.func45 (by kernel_rfl) rfl #[.slice Ao12 x5_1.length co12] rfl (by (try simp only [List.map_toArray, List.map_cons, List.map_nil]); rfl) ?_; (with_reducible refine (trammelref01_Norm.calls k1 _ _ x5_1 t303 _ ?side1 ?side2 A11.out).mono ?_); (case side1 => repeat (exact (Kd.R_reads' HO_5.out).2.2)); (case side2 => exact (Kd.R_reads' HO_5.out).2.1); rintro e w13 ⟨v304, rfl, ho0, hb⟩; refine ⟨_, rfl, ?_⟩; have n0_ := Aside0.mk (Kd.R_elder' (by exact HO_5.out) (Kd.R_base ho0) hb); have n1_ := Aside0.mk (Kd.R_lower (Kd.R_new' ho0 (Kd.R_lt (by exact HO_5.out))) (below_size (by repeat ((with_reducible exact HB.out))))); have n2_ := Aside0.mk (below_step (by repeat ((with_reducible exact HB.out))) hb); clear HO_5; clear HB; have HO_5 := n0_; have HO305 := n1_; have HB := n2_; clear n0_ n1_ n2_; (try clear hb); (try clear ho0)))
        go_ret
        exact ⟨_, by rfl, by exact Kd.R_mono HO305.out (fun _ hk => trivial), by repeat ((with_reducible exact HB.out))⟩

/-! ### trammelref01_Shr: function 89 -/
def trammelref01_Shr.l0 : Nat → List Int → Int → List Int → Int → Option (List Int × Int)
  | 0, _, _, _, _ => none
  | k + 1, x0, x1, x6, x7 => if x7 < (x0.length : Int) then ((trammelref01_limb.f x0 x7).bind fun t315 => ((trammelref01_limb.f x0 (wrap64 (x7 + 1))).bind fun t316 => (if 0 ≤ (IntKind.u64.wrap (Int.tmod x1 32)) then (if x6.length < 35184372088832 then (trammelref01_Shr.l0 k x0 x1 (x6 ++ [(Int.tmod (shr .u64 (IntKind.u64.wrap (t315 + (IntKind.u64.wrap (t316 * 4294967296)))) (IntKind.u64.wrap (Int.tmod x1 32))) 4294967296) % 4294967296]) (wrap64 (x7 + 1))) else (none)) else (none)))) else ((trammelref01_Norm.f k x6).bind fun t320 => (some (t320, 0)))
def trammelref01_Shr.f (k : Nat) (l0 : List Int) (a1 : Int) : Option (List Int × Int) := if a1 < 0 then (some (([] : List Int), 1)) else ((trammelref01_Bits.f k l0).bind fun t314 => (if a1 ≥ t314 then (some (([] : List Int), 0)) else (trammelref01_Shr.l0 k l0 a1 ([] : List Int) (wrap64 (Int.tdiv a1 32)))))
set_option maxHeartbeats 8000000 in
set_option maxRecDepth 100000 in
theorem trammelref01_Shr.calls (k : Nat) (A0 : Option Addr) (c0 : Nat) (l0 : List Int) (a1 : Int) (r1 : List Int) (r2 : Int) (w : World) (hr0 : Kd.C (Kd.int .u32) w A0 l0.length l0) (hc0 : l0.length ≤ c0) (h : trammelref01_Shr.f k l0 a1 = some (r1, r2)) :
    Calls Try.prog 89 #[.slice A0 l0.length c0, .int .i64 a1] w fun e w' => ∃ v0_ : Value, e = .returned (.tuple #[v0_, .int .i64 r2]) ∧ Kd.R (Kd.int .u32) 68 w' w.heap.size (fun _ => True) v0_ r1 ∧ Below w.heap.size w w' := by
  have HR0 := Aside0.mk hr0
  have HC0 := Aside0.mk hc0
  clear hr0 hc0
  have HB := Aside0.mk (Below.refl w.heap.size w)
  have H : (if a1 < 0 then (some (([] : List Int), 1)) else ((trammelref01_Bits.f k l0).bind fun t314 => (if a1 ≥ t314 then (some (([] : List Int), 0)) else (trammelref01_Shr.l0 k l0 a1 ([] : List Int) (wrap64 (Int.tdiv a1 32)))))) = some (r1, r2) := h
  clear h
  by_cases c3 : a1 < 0
  · rw [if_pos c3] at H
    have c3b0 : decide (a1 < 0) = true := decide_eq_true c3
    clear c3
    simp only [Option.some.injEq, Prod.mk.injEq] at H
    obtain ⟨rfl, rfl⟩ := H
    go_enter Try.func89, Try.ntmps89
    go_wp2
    go_ret2
    exact ⟨_, by rfl, by exact Kd.R_nil _ _ _ _ _, by repeat ((with_reducible exact HB.out))⟩
  · rw [if_neg c3] at H
    have c3b0 : decide (a1 < 0) = false := decide_eq_false c3
    clear c3
    replace H := Option.bind_eq_some_iff.mp H
    obtain ⟨t314, A40, H⟩ := H
    replace H : (if a1 ≥ t314 then (some (([] : List Int), 0)) else (trammelref01_Shr.l0 k l0 a1 ([] : List Int) (wrap64 (Int.tdiv a1 32)))) = some (r1, r2) := H
    have A4 := Aside0.mk A40
    clear A40
    by_cases c5 : a1 ≥ t314
    · rw [if_pos c5] at H
      have c5b0 : decide (t314 ≤ a1) = true := decide_eq_true c5
      clear c5
      simp only [Option.some.injEq, Prod.mk.injEq] at H
      obtain ⟨rfl, rfl⟩ := H
      go_enter Try.func89, Try.ntmps89
      go_wp2_with (((with_reducible refine gate_callee (f := 84) rfl ?_); refine goesL_ (some 13) rfl rfl Try.func84 (by kernel_rfl) rfl #[.slice A0 l0.length c0] rfl (by (try simp only [List.map_toArray, List.map_cons, List.map_nil]); rfl) ?_; (with_reducible refine (trammelref01_Bits.calls k _ _ l0 t314 _ ?side1 ?side2 A4.out).mono ?_); (case side1 => repeat (exact HR0.out)); (case side2 => exact HC0.out); rintro e w' ⟨rfl, ⟨nd, rfl⟩⟩; refine ⟨_, rfl, ?_⟩))
      go_ret2
      exact ⟨_, by rfl, by exact Kd.R_nil _ _ _ _ _, by repeat ((with_reducible first | exact HB.out | apply pw_below_drewN))⟩
    · rw [if_neg c5] at H
      have c5b0 : decide (t314 ≤ a1) = false := decide_eq_false c5
      clear c5
      have H' := Aside0.mk H
      clear H
      go_enter Try.func89, Try.ntmps89
      go_wp2_with (((with_reducible refine gate_callee (f := 84) rfl ?_); refine goesL_ (some 13) rfl rfl Try.func84 (by kernel_rfl) rfl #[.slice A0 l0.length c0] rfl (by (try simp only [List.map_toArray, List.map_cons, List.map_nil]); rfl) ?_; (with_reducible refine (trammelref01_Bits.calls k _ _ l0 t314 _ ?side1 ?side2 A4.out).mono ?_); (case side1 => repeat (exact HR0.out)); (case side2 => exact HC0.out); rintro e w' ⟨rfl, ⟨nd, rfl⟩⟩; refine ⟨_, rfl, ?_⟩))
      go_loopg [6, 7] k (fun kq v6 v7 w' => ∃ (x6_1 : List Int) (x7_1 : Int), v7 = .int .i64 x7_1 ∧ Aside0 (trammelref01_Shr.l0 kq l0 a1 x6_1 x7_1 = some (r1, r2)) ∧ Aside0 (kq ≤ k) ∧ Aside0 (Kd.R (Kd.int .u32) 68 w' w.heap.size (fun _ => True) v6 x6_1) ∧ Aside0 (Below w.heap.size w w'))
      case atStart => exact ⟨(([] : List Int)), (wrap64 (Int.tdiv a1 32)), (by rfl), H', ⟨Nat.le_refl _⟩, ⟨by exact Kd.R_nil _ _ _ _ _⟩, ⟨by repeat ((with_reducible first | exact HB.out | apply pw_below_drewN))⟩⟩
      case round =>
        clear H'
        skip
        skip
        try clear c3b0
        skip
        try clear c5b0
        obtain ⟨x6_1, x7_1, rfl, HA, HK1, HO_6, HB⟩ := hrel
        cases gk with
        | zero => exact absurd HA.out (by simp [trammelref01_Shr.l0])
        | succ k1 =>
          have H := HA.out
          clear HA
          simp only [trammelref01_Shr.l0] at H
          by_cases c6 : x7_1 < (l0.length : Int)
          · rw [if_pos c6] at H
            have c6b0 : decide (x7_1 < (l0.length : Int)) = true := decide_eq_true c6
            clear c6
            replace H := Option.bind_eq_some_iff.mp H
            obtain ⟨t315, A70, H⟩ := H
            replace H : ((trammelref01_limb.f l0 (wrap64 (x7_1 + 1))).bind fun t316 => (if 0 ≤ (IntKind.u64.wrap (Int.tmod a1 32)) then (if x6_1.length < 35184372088832 then (trammelref01_Shr.l0 k1 l0 a1 (x6_1 ++ [(Int.tmod (shr .u64 (IntKind.u64.wrap (t315 + (IntKind.u64.wrap (t316 * 4294967296)))) (IntKind.u64.wrap (Int.tmod a1 32))) 4294967296) % 4294967296]) (wrap64 (x7_1 + 1))) else (none)) else (none))) = some (r1, r2) := H
            have A7 := Aside0.mk A70
            clear A70
            replace H := Option.bind_eq_some_iff.mp H
            obtain ⟨t316, A80, H⟩ := H
            replace H : (if 0 ≤ (IntKind.u64.wrap (Int.tmod a1 32)) then (if x6_1.length < 35184372088832 then (trammelref01_Shr.l0 k1 l0 a1 (x6_1 ++ [(Int.tmod (shr .u64 (IntKind.u64.wrap (t315 + (IntKind.u64.wrap (t316 * 4294967296)))) (IntKind.u64.wrap (Int.tmod a1 32))) 4294967296) % 4294967296]) (wrap64 (x7_1 + 1))) else (none)) else (none)) = some (r1, r2) := H
            have A8 := Aside0.mk A80
            clear A80
            obtain ⟨ji9, hji9⟩ : ∃ j_ : Int, (IntKind.u64.wrap (Int.tmod a1 32)) = j_ := ⟨_, rfl⟩
            replace H : (if 0 ≤ (ji9) then (if x6_1.length < 35184372088832 then (trammelref01_Shr.l0 k1 l0 a1 (x6_1 ++ [(Int.tmod (shr .u64 (IntKind.u64.wrap (t315 + (IntKind.u64.wrap (t316 * 4294967296)))) (ji9)) 4294967296) % 4294967296]) (wrap64 (x7_1 + 1))) else (none)) else (none)) = some (r1, r2) := by (rw [hji9] at H; exact H)
            by_cases c10 : 0 ≤ (ji9)
            · rw [if_pos c10] at H
              have c10b0 := eq_true c10
              have c10b1 : decide (0 ≤ (ji9)) = true := decide_eq_true c10
              clear c10
              obtain ⟨ji11, hji11⟩ : ∃ j_ : Int, (shr .u64 (IntKind.u64.wrap (t315 + (IntKind.u64.wrap (t316 * 4294967296)))) (ji9)) = j_ := ⟨_, rfl⟩
              replace H : (if x6_1.length < 35184372088832 then (trammelref01_Shr.l0 k1 l0 a1 (x6_1 ++ [(Int.tmod (ji11) 4294967296) % 4294967296]) (wrap64 (x7_1 + 1))) else (none)) = some (r1, r2) := by (rw [hji11] at H; exact H)
              have hji11_ : ((IntKind.u64.wrap (t315 + (IntKind.u64.wrap (t316 * 4294967296)))) / 2 ^ min (ji9).toNat 64) = ji11 := hji11
              have hji11z : (ji9) ≤ 64 → ((IntKind.u64.wrap (t315 + (IntKind.u64.wrap (t316 * 4294967296)))) / 2 ^ (ji9).toNat) = ji11 := shr_small hji11
              by_cases c12 : x6_1.length < 35184372088832
              · rw [if_pos c12] at H
                have LMc12 := Aside0.mk c12
                clear c12
                obtain ⟨y317, hy317⟩ : ∃ y_ : List Int, y_ = (x6_1 ++ [(Int.tmod (ji11) 4294967296) % 4294967296]) := ⟨_, rfl⟩
                replace H : (trammelref01_Shr.l0 k1 l0 a1 y317 (wrap64 (x7_1 + 1))) = some (r1, r2) := by (rw [hy317]; with_reducible exact H)
                have Ny317 := Aside0.mk hy317
                clear hy317
                have H' := Aside0.mk H
                clear H
                go_wp2_with (first | ((with_reducible refine gate_callee (f := 87) rfl ?_); refine goesL_ (some 25) rfl rfl Try.func87 (by kernel_rfl) rfl #[.slice A0 l0.length c0, .int .i64 x7_1] rfl (by (try simp only [List.map_toArray, List.map_cons, List.map_nil]); rfl) ?_; (with_reducible refine (trammelref01_limb.calls _ _ l0 x7_1 t315 _ ?side1 ?side2 A7.out).mono ?_); (case side1 => repeat (exact (Kd.C_below HR0.out HB.out))); (case side2 => exact HC0.out); rintro e w' ⟨rfl, ⟨nd, rfl⟩⟩; refine ⟨_, rfl, ?_⟩) | ((with_reducible refine gate_callee (f := 87) rfl ?_); refine goesL_ (some 29) rfl rfl Try.func87 (by kernel_rfl) rfl #[.slice A0 l0.length c0, .int .i64 (wrap64 (x7_1 + 1))] rfl (by (try simp only [List.map_toArray, List.map_cons, List.map_nil]); rfl) ?_; (with_reducible refine (trammelref01_limb.calls _ _ l0 (wrap64 (x7_1 + 1)) t316 _ ?side1 ?side2 A8.out).mono ?_); (case side1 => repeat (exact (Kd.C_below HR0.out (by repeat ((with_reducible first | exact HB.out | apply pw_below_drewN)))))); (case side2 => exact HC0.out); rintro e w' ⟨rfl, ⟨nd, rfl⟩⟩; refine ⟨_, rfl, ?_⟩) | ((with_reducible refine gate_builtin (b := .append) (xs := #[.tmp 32, .tmp 40]) rfl ?_); at_builtin; refine Kd.R_append (Kd.int .u32) (w0 := w) w.heap.size rfl (.tmp 32) (.tmp 40) 22 68 (.int .u32 0) 4 rfl Try.underlying22 info68 rfl (by decide) (by omega) u6 x6_1 ((Int.tmod (ji11) 4294967296) % 4294967296) [.int .u32 ((Int.tmod (ji11) 4294967296) % 4294967296)] (fun _ => True) (fun _ => False) rfl rfl ?aP (fun _ hk => hk.elim) ?aF ?aO ?aB ?aS ?aL ?_; (case aP => exact rfl); (case aB => exact (by repeat ((with_reducible first | exact HB.out | apply pw_below_drewN)))); (case aF => exact (fun _ _ => trivial)); (case aO => exact (by (with_reducible repeat (apply Kd.R_drewN)); exact HO_6.out)); (case aS => exact (below_size (by repeat ((with_reducible first | exact HB.out | apply pw_below_drewN))))); (case aL => have := LMc12.out; omega); intro v318 w13 ho hb hg hat; rw [← Ny317.out] at ho; have n0_ := Aside0.mk (hb); have n1_ := Aside0.mk (ho); clear HB; clear HO_6; have HB := n0_; have HO319 := n1_; clear n0_ n1_; clear ho hb hg hat))
                (try subst hji9)
                (try subst hji11)
                go_roundg k1
                case measure => have := HK1.out; omega
                case rel => exact ⟨(y317), (wrap64 (x7_1 + 1)), (by rfl), (by with_reducible exact H'), ⟨by have := HK1.out; omega⟩, ⟨by exact HO319.out⟩, ⟨by repeat ((with_reducible exact HB.out))⟩⟩
              · rw [if_neg c12] at H
                exact absurd H (by simp)
            · rw [if_neg c10] at H
              exact absurd H (by simp)
          · rw [if_neg c6] at H
            have c6b0 : decide (x7_1 < (l0.length : Int)) = false := decide_eq_false c6
            clear c6
            replace H := Option.bind_eq_some_iff.mp H
            obtain ⟨t320, A140, H⟩ := H
            replace H : (some (t320, 0)) = some (r1, r2) := H
            have A14 := Aside0.mk A140
            clear A140
            simp only [Option.some.injEq, Prod.mk.injEq] at H
            obtain ⟨rfl, rfl⟩ := H
            obtain ⟨Ao15, co15, eo15⟩ := Kd.R_slice HO_6.out
            subst eo15
            go_wp2_with (((with_reducible refine gate_callee (f := 45) rfl ?_); refine goesL_ (some 43) rfl rfl Try.func45 (by kernel_rfl) rfl #[.slice Ao15 x6_1.length co15] rfl (by (try simp only [List.map_toArray, List.map_cons, List.map_nil]); rfl) ?_; (with_reducible refine (trammelref01_Norm.calls k1 _ _ x6_1 t320 _ ?side1 ?side2 A14.out).mono ?_); (case side1 => repeat (exact (Kd.R_reads' HO_6.out).2.2)); (case side2 => exact (Kd.R_reads' HO_6.out).2.1); rintro e w16 ⟨v321, rfl, ho0, hb⟩; refine ⟨_, rfl, ?_⟩; have n0_ := Aside0.mk (Kd.R_elder' (by exact HO_6.out) (Kd.R_base ho0) hb); have n1_ := Aside0.mk (Kd.R_lower (Kd.R_new' ho0 (Kd.R_lt (by exact HO_6.out))) (below_size (by repeat ((with_reducible exact HB.out))))); have n2_ := Aside0.mk (below_step (by repeat ((with_reducible exact HB.out))) hb); clear HO_6; clear HB; have HO_6 := n0_; have HO322 := n1_; have HB := n2_; clear n0_ n1_ n2_; (try clear hb); (try clear ho0)))
            go_ret2
            exact ⟨_, by rfl, by exact Kd.R_mono HO322.out (fun _ hk => trivial), by repeat ((with_reducible exact HB.out))⟩

end Go.Proofs.Ytndopanohhdfgaa.PA

