-- printed by a program of this session
import Derived.Test.YtmbmbmkmjbpcpaaPAx0K
import Derived.Test.YtmbmbmkmjbpcpaaPAx1K
import Derived.Test.YtmbmbmkmjbpcpaaPAx2K
import Derived.Test.YtmbmbmkmjbpcpaaPAx6K
import Derived.Test.YtmbmbmkmjbpcpaaPAx7K
namespace Go.Proofs.Ytmbmbmkmjbpcpaa.PA
open Go.RowKit Go.Proofs.YtmbmbmkmjbpcpaaW.PrintWords Go.Proofs.YtmbmbmkmjbpcpaaW.PrintLast Go.Proofs.YtmbmbmkmjbpcpaaW.PrintMore
attribute [local go_sem] max2_int min2_int max_two min_two max_three min_three max_four min_four   -- for this text's walks alone
set_option linter.unusedVariables false
set_option linter.unusedSimpArgs false

/-! ### nat_DivP: function 89 -/
def nat_DivP.f (k : Nat) (l0 : List Int) (l1 : List Int) : Option (List Int × List Int × Int) := (nat_trim.f k l0).bind fun t316 => ((nat_trim.f k l1).bind fun t319 => (if (t319.length : Int) = 0 then (some (([] : List Int), ([] : List Int), 11)) else ((nat_Cmp.f k t316 t319).bind fun t322 => (if t322 < 0 then ((nat_Norm.f k t316).bind fun t323 => (some (([] : List Int), t323, 0))) else (if (t319.length : Int) = 1 then (if 0 < (t319.length : Int) then ((nat_short.f k t316 (rd t319 0)).bind fun bt327 => ((nat_trim_own.f k (([bt327.2] : List Int))).bind fun t334 => (some (bt327.1, t334, 0)))) else (none)) else (if 0 ≤ (wrap64 ((t319.length : Int) - 1)) then (if (wrap64 ((t319.length : Int) - 1)) < (t319.length : Int) then (none) else (none)) else (none)))))))
set_option maxHeartbeats 8000000 in
set_option maxRecDepth 100000 in
theorem nat_DivP.calls (k : Nat) (A0 : Option Addr) (c0 : Nat) (l0 : List Int) (A1 : Option Addr) (c1 : Nat) (l1 : List Int) (r1 : List Int) (r2 : List Int) (r3 : Int) (w : World) (hr0 : Kd.C (Kd.int .u32) w A0 l0.length l0) (hc0 : l0.length ≤ c0) (hr1 : Kd.C (Kd.int .u32) w A1 l1.length l1) (hc1 : l1.length ≤ c1) (h : nat_DivP.f k l0 l1 = some (r1, r2, r3)) :
    Calls Try.prog 89 #[.slice A0 l0.length c0, .slice A1 l1.length c1] w fun e w' => ∃ v0_ v1_ : Value, e = .returned (.tuple #[v0_, v1_, .int .i64 r3]) ∧ Kd.R (Kd.int .u32) 68 w' w.heap.size (fun k_ => some k_ ≠ (v1_ : Value).ownBlock) v0_ r1 ∧ Kd.R (Kd.int .u32) 68 w' w.heap.size (fun k_ => some k_ ≠ (v0_ : Value).ownBlock) v1_ r2 ∧ Below w.heap.size w w' := by
  have HR0 := Aside0.mk hr0
  have HC0 := Aside0.mk hc0
  clear hr0 hc0
  have HR1 := Aside0.mk hr1
  have HC1 := Aside0.mk hc1
  clear hr1 hc1
  have HB := Aside0.mk (Below.refl w.heap.size w)
  have H : ((nat_trim.f k l0).bind fun t316 => ((nat_trim.f k l1).bind fun t319 => (if (t319.length : Int) = 0 then (some (([] : List Int), ([] : List Int), 11)) else ((nat_Cmp.f k t316 t319).bind fun t322 => (if t322 < 0 then ((nat_Norm.f k t316).bind fun t323 => (some (([] : List Int), t323, 0))) else (if (t319.length : Int) = 1 then (if 0 < (t319.length : Int) then ((nat_short.f k t316 (rd t319 0)).bind fun bt327 => ((nat_trim_own.f k (([bt327.2] : List Int))).bind fun t334 => (some (bt327.1, t334, 0)))) else (none)) else (if 0 ≤ (wrap64 ((t319.length : Int) - 1)) then (if (wrap64 ((t319.length : Int) - 1)) < (t319.length : Int) then (none) else (none)) else (none)))))))) = some (r1, r2, r3) := h
  clear h
  replace H := Option.bind_eq_some_iff.mp H
  obtain ⟨t316, A30, H⟩ := H
  replace H : ((nat_trim.f k l1).bind fun t319 => (if (t319.length : Int) = 0 then (some (([] : List Int), ([] : List Int), 11)) else ((nat_Cmp.f k t316 t319).bind fun t322 => (if t322 < 0 then ((nat_Norm.f k t316).bind fun t323 => (some (([] : List Int), t323, 0))) else (if (t319.length : Int) = 1 then (if 0 < (t319.length : Int) then ((nat_short.f k t316 (rd t319 0)).bind fun bt327 => ((nat_trim_own.f k (([bt327.2] : List Int))).bind fun t334 => (some (bt327.1, t334, 0)))) else (none)) else (if 0 ≤ (wrap64 ((t319.length : Int) - 1)) then (if (wrap64 ((t319.length : Int) - 1)) < (t319.length : Int) then (none) else (none)) else (none))))))) = some (r1, r2, r3) := H
  have A3 := Aside0.mk A30
  clear A30
  replace H := Option.bind_eq_some_iff.mp H
  obtain ⟨t319, A40, H⟩ := H
  replace H : (if (t319.length : Int) = 0 then (some (([] : List Int), ([] : List Int), 11)) else ((nat_Cmp.f k t316 t319).bind fun t322 => (if t322 < 0 then ((nat_Norm.f k t316).bind fun t323 => (some (([] : List Int), t323, 0))) else (if (t319.length : Int) = 1 then (if 0 < (t319.length : Int) then ((nat_short.f k t316 (rd t319 0)).bind fun bt327 => ((nat_trim_own.f k (([bt327.2] : List Int))).bind fun t334 => (some (bt327.1, t334, 0)))) else (none)) else (if 0 ≤ (wrap64 ((t319.length : Int) - 1)) then (if (wrap64 ((t319.length : Int) - 1)) < (t319.length : Int) then (none) else (none)) else (none)))))) = some (r1, r2, r3) := H
  have A4 := Aside0.mk A40
  clear A40
  by_cases c5 : (t319.length : Int) = 0
  · rw [if_pos c5] at H
    have c5b0 : ((t319.length : Int) == 0) = true := beq_iff_eq.mpr c5
    have c5b1 : ((t319.length : Int) != 0) = false := bne_eq_false_iff_eq.mpr c5
    clear c5
    simp only [Option.some.injEq, Prod.mk.injEq] at H
    obtain ⟨rfl, rfl, rfl⟩ := H
    go_enter Try.func89, Try.ntmps89
    go_wp2_with (first | ((with_reducible refine gate_callee (f := 95) rfl ?_); refine goesL_ (some 15) rfl rfl Try.func95 (by kernel_rfl) rfl #[.slice A0 l0.length c0] rfl (by (try simp only [List.map_toArray, List.map_cons, List.map_nil]); rfl) ?_; (with_reducible refine (nat_trim.calls k (fun k_ => k_ < w.heap.size) _ _ l0 t316 _ ?side1 A3.out).mono ?_); (case side1 => exact Kd.V_mk HC0.out (Kd.F_below (Kd.C_F (Kd.heap_int .u32) HR0.out) (by repeat ((with_reducible exact HB.out))))); rintro e w6 ⟨v317, rfl, ho0, hb⟩; refine ⟨_, rfl, ?_⟩; have n0_ := Aside0.mk (Kd.V_lower (Kd.V_mono (ok' := fun k_ => True) ho0 (fun k_ hk_ => trivial)) (below_size (by repeat ((with_reducible exact HB.out))))); have n1_ := Aside0.mk (below_step (by repeat ((with_reducible exact HB.out))) hb); clear HB; have HO318 := n0_; have HB := n1_; clear n0_ n1_; (try clear hb); (try clear ho0)) | ((with_reducible refine gate_callee (f := 95) rfl ?_); refine goesL_ (some 17) rfl rfl Try.func95 (by kernel_rfl) rfl #[.slice A1 l1.length c1] rfl (by (try simp only [List.map_toArray, List.map_cons, List.map_nil]); rfl) ?_; (with_reducible refine (nat_trim.calls k (fun k_ => k_ < w.heap.size) _ _ l1 t319 _ ?side1 A4.out).mono ?_); (case side1 => exact Kd.V_mk HC1.out (Kd.F_below (Kd.C_F (Kd.heap_int .u32) HR1.out) (by repeat ((with_reducible exact HB.out))))); rintro e w7 ⟨v320, rfl, ho0, hb⟩; refine ⟨_, rfl, ?_⟩; have n0_ := Aside0.mk (Kd.V_below (by exact HO318.out) hb); have n1_ := Aside0.mk (Kd.V_lower (Kd.V_mono (ok' := fun k_ => True) ho0 (fun k_ hk_ => trivial)) (below_size (by repeat ((with_reducible exact HB.out))))); have n2_ := Aside0.mk (below_step (by repeat ((with_reducible exact HB.out))) hb); clear HO318; clear HB; have HO318 := n0_; have HO321 := n1_; have HB := n2_; clear n0_ n1_ n2_; (try clear hb); (try clear ho0); obtain ⟨Ao8, co8, eo8⟩ := Kd.V_slice HO321.out; subst eo8))
    go_ret3
    exact ⟨_, _, by rfl, by exact Kd.R_nil _ _ _ _ _, by exact Kd.R_nil _ _ _ _ _, by repeat ((with_reducible exact HB.out))⟩
  · rw [if_neg c5] at H
    have c5b0 : ((t319.length : Int) == 0) = false := beq_eq_false_iff_ne.mpr c5
    have c5b1 : ((t319.length : Int) != 0) = true := bne_iff_ne.mpr c5
    have c5b2 : ¬ (t319 = []) := fun h_ => c5 (by rw [h_]; rfl)
    replace H := Option.bind_eq_some_iff.mp H
    obtain ⟨t322, A90, H⟩ := H
    replace H : (if t322 < 0 then ((nat_Norm.f k t316).bind fun t323 => (some (([] : List Int), t323, 0))) else (if (t319.length : Int) = 1 then (if 0 < (t319.length : Int) then ((nat_short.f k t316 (rd t319 0)).bind fun bt327 => ((nat_trim_own.f k (([bt327.2] : List Int))).bind fun t334 => (some (bt327.1, t334, 0)))) else (none)) else (if 0 ≤ (wrap64 ((t319.length : Int) - 1)) then (if (wrap64 ((t319.length : Int) - 1)) < (t319.length : Int) then (none) else (none)) else (none)))) = some (r1, r2, r3) := H
    have A9 := Aside0.mk A90
    clear A90
    by_cases c10 : t322 < 0
    · rw [if_pos c10] at H
      have c10b0 : decide (t322 < 0) = true := decide_eq_true c10
      clear c10
      replace H := Option.bind_eq_some_iff.mp H
      obtain ⟨t323, A110, H⟩ := H
      replace H : (some (([] : List Int), t323, 0)) = some (r1, r2, r3) := H
      have A11 := Aside0.mk A110
      clear A110
      simp only [Option.some.injEq, Prod.mk.injEq] at H
      obtain ⟨rfl, rfl, rfl⟩ := H
      go_enter Try.func89, Try.ntmps89
      go_wp2_with (first | ((with_reducible refine gate_callee (f := 95) rfl ?_); refine goesL_ (some 15) rfl rfl Try.func95 (by kernel_rfl) rfl #[.slice A0 l0.length c0] rfl (by (try simp only [List.map_toArray, List.map_cons, List.map_nil]); rfl) ?_; (with_reducible refine (nat_trim.calls k (fun k_ => k_ < w.heap.size) _ _ l0 t316 _ ?side1 A3.out).mono ?_); (case side1 => exact Kd.V_mk HC0.out (Kd.F_below (Kd.C_F (Kd.heap_int .u32) HR0.out) (by repeat ((with_reducible exact HB.out))))); rintro e w12 ⟨v317, rfl, ho0, hb⟩; refine ⟨_, rfl, ?_⟩; have n0_ := Aside0.mk (Kd.V_lower (Kd.V_mono (ok' := fun k_ => True) ho0 (fun k_ hk_ => trivial)) (below_size (by repeat ((with_reducible exact HB.out))))); have n1_ := Aside0.mk (below_step (by repeat ((with_reducible exact HB.out))) hb); clear HB; have HO318 := n0_; have HB := n1_; clear n0_ n1_; (try clear hb); (try clear ho0)) | ((with_reducible refine gate_callee (f := 95) rfl ?_); refine goesL_ (some 17) rfl rfl Try.func95 (by kernel_rfl) rfl #[.slice A1 l1.length c1] rfl (by (try simp only [List.map_toArray, List.map_cons, List.map_nil]); rfl) ?_; (with_reducible refine (nat_trim.calls k (fun k_ => k_ < w.heap.size) _ _ l1 t319 _ ?side1 A4.out).mono ?_); (case side1 => exact Kd.V_mk HC1.out (Kd.F_below (Kd.C_F (Kd.heap_int .u32) HR1.out) (by repeat ((with_reducible exact HB.out))))); rintro e w13 ⟨v320, rfl, ho0, hb⟩; refine ⟨_, rfl, ?_⟩; have n0_ := Aside0.mk (Kd.V_below (by exact HO318.out) hb); have n1_ := Aside0.mk (Kd.V_lower (Kd.V_mono (ok' := fun k_ => True) ho0 (fun k_ hk_ => trivial)) (below_size (by repeat ((with_reducible exact HB.out))))); have n2_ := Aside0.mk (below_step (by repeat ((with_reducible exact HB.out))) hb); clear HO318; clear HB; have HO318 := n0_; have HO321 := n1_; have HB := n2_; clear n0_ n1_ n2_; (try clear hb); (try clear ho0); obtain ⟨Ao14, co14, eo14⟩ := Kd.V_slice HO321.out; subst eo14; obtain ⟨Ao15, co15, eo15⟩ := Kd.V_slice HO318.out; subst eo15) | ((with_reducible refine gate_callee (f := 71) rfl ?_); refine goesL_ (some 25) rfl rfl Try.func71 (by kernel_rfl) rfl #[.slice Ao15 t316.length co15, .slice Ao14 t319.length co14] rfl (by (try simp only [List.map_toArray, List.map_cons, List.map_nil]); rfl) ?_; (with_reducible refine (nat_Cmp.calls k _ _ t316 _ _ t319 t322 _ ?side1 ?side2 ?side3 ?side4 A9.out).mono ?_); (case side1 => repeat (exact (Kd.V_reads' HO318.out).2.2)); (case side2 => exact (Kd.V_reads' HO318.out).2.1); (case side3 => repeat (exact (Kd.V_reads' HO321.out).2.2)); (case side4 => exact (Kd.V_reads' HO321.out).2.1); rintro e w16 ⟨rfl, hb⟩; refine ⟨_, rfl, ?_⟩; have n0_ := Aside0.mk (Kd.V_below (by exact HO318.out) hb); have n1_ := Aside0.mk (Kd.V_below (by exact HO321.out) hb); have n2_ := Aside0.mk (below_step (by repeat ((with_reducible exact HB.out))) hb); clear HO318; clear HO321; clear HB; have HO318 := n0_; have HO321 := n1_; have HB := n2_; clear n0_ n1_ n2_; (try clear hb)) | ((with_reducible refine gate_callee (f := 100) rfl ?_); refine goesL_ (some 28) rfl rfl Try.func100 (by kernel_rfl) rfl #[.slice Ao15 t316.length co15] rfl (by (try simp only [List.map_toArray, List.map_cons, List.map_nil]); rfl) ?_; (with_reducible refine (nat_Norm.calls k _ _ t316 t323 _ ?side1 ?side2 A11.out).mono ?_); (case side1 => repeat (exact (Kd.V_reads' HO318.out).2.2)); (case side2 => exact (Kd.V_reads' HO318.out).2.1); rintro e w17 ⟨v324, rfl, ho0, hb⟩; refine ⟨_, rfl, ?_⟩; have n0_ := Aside0.mk (Kd.V_elder' (by exact HO318.out) (Kd.R_base ho0) hb); have n1_ := Aside0.mk (Kd.V_elder' (by exact HO321.out) (Kd.R_base ho0) hb); have n2_ := Aside0.mk (Kd.R_lower ho0 (below_size (by repeat ((with_reducible exact HB.out))))); have n3_ := Aside0.mk (below_step (by repeat ((with_reducible exact HB.out))) hb); clear HO318; clear HO321; clear HB; have HO318 := n0_; have HO321 := n1_; have HO325 := n2_; have HB := n3_; clear n0_ n1_ n2_ n3_; (try clear hb); (try clear ho0)))
      go_ret3
      exact ⟨_, _, by rfl, by exact Kd.R_nil _ _ _ _ _, by exact Kd.R_mono HO325.out (fun _ hk => (by simp [Value.ownBlock])), by repeat ((with_reducible exact HB.out))⟩
    · rw [if_neg c10] at H
      have c10b0 : decide (t322 < 0) = false := decide_eq_false c10
      clear c10
      by_cases c18 : (t319.length : Int) = 1
      · rw [if_pos c18] at H
        have c18b0 : ((t319.length : Int) == 1) = true := beq_iff_eq.mpr c18
        have c18b1 : ((t319.length : Int) != 1) = false := bne_eq_false_iff_eq.mpr c18
        clear c18
        by_cases c19 : 0 < (t319.length : Int)
        · rw [if_pos c19] at H
          have c19b0 : decide (0 < (t319.length : Int)) = true := decide_eq_true c19
          have c19b1 : decide (0 < t319.length) = true := decide_eq_true (by omega)
          clear c19
          replace H := Option.bind_eq_some_iff.mp H
          obtain ⟨⟨t327, t328⟩, A200, H⟩ := H
          replace H : ((nat_trim_own.f k (([t328] : List Int))).bind fun t334 => (some (t327, t334, 0))) = some (r1, r2, r3) := H
          have A20 := Aside0.mk A200
          clear A200
          obtain ⟨y331, hy331⟩ : ∃ y_ : List Int, y_ = (([t328] : List Int)) := ⟨_, rfl⟩
          replace H : ((nat_trim_own.f k y331).bind fun t334 => (some (t327, t334, 0))) = some (r1, r2, r3) := by (rw [hy331]; with_reducible exact H)
          have Ny331 := Aside0.mk hy331
          clear hy331
          replace H := Option.bind_eq_some_iff.mp H
          obtain ⟨t334, A210, H⟩ := H
          replace H : (some (t327, t334, 0)) = some (r1, r2, r3) := H
          have A21 := Aside0.mk A210
          clear A210
          simp only [Option.some.injEq, Prod.mk.injEq] at H
          obtain ⟨rfl, rfl, rfl⟩ := H
          go_enter Try.func89, Try.ntmps89
          go_wp2_with (first | ((with_reducible refine gate_callee (f := 95) rfl ?_); refine goesL_ (some 15) rfl rfl Try.func95 (by kernel_rfl) rfl #[.slice A0 l0.length c0] rfl (by (try simp only [List.map_toArray, List.map_cons, List.map_nil]); rfl) ?_; (with_reducible refine (nat_trim.calls k (fun k_ => k_ < w.heap.size) _ _ l0 t316 _ ?side1 A3.out).mono ?_); (case side1 => exact Kd.V_mk HC0.out (Kd.F_below (Kd.C_F (Kd.heap_int .u32) HR0.out) (by repeat ((with_reducible exact HB.out))))); rintro e w22 ⟨v317, rfl, ho0, hb⟩; refine ⟨_, rfl, ?_⟩; have n0_ := Aside0.mk (Kd.V_lower (Kd.V_mono (ok' := fun k_ => True) ho0 (fun k_ hk_ => trivial)) (below_size (by repeat ((with_reducible exact HB.out))))); have n1_ := Aside0.mk (below_step (by repeat ((with_reducible exact HB.out))) hb); clear HB; have HO318 := n0_; have HB := n1_; clear n0_ n1_; (try clear hb); (try clear ho0)) | ((with_reducible refine gate_callee (f := 95) rfl ?_); refine goesL_ (some 17) rfl rfl Try.func95 (by kernel_rfl) rfl #[.slice A1 l1.length c1] rfl (by (try simp only [List.map_toArray, List.map_cons, List.map_nil]); rfl) ?_; (with_reducible refine (nat_trim.calls k (fun k_ => k_ < w.heap.size) _ _ l1 t319 _ ?side1 A4.out).mono ?_); (case side1 => exact Kd.V_mk HC1.out (Kd.F_below (Kd.C_F (Kd.heap_int .u32) HR1.out) (by repeat ((with_reducible exact HB.out))))); rintro e w23 ⟨v320, rfl, ho0, hb⟩; refine ⟨_, rfl, ?_⟩; have n0_ := Aside0.mk (Kd.V_below (by exact HO318.out) hb); have n1_ := Aside0.mk (Kd.V_lower (Kd.V_mono (ok' := fun k_ => True) ho0 (fun k_ hk_ => trivial)) (below_size (by repeat ((with_reducible exact HB.out))))); have n2_ := Aside0.mk (below_step (by repeat ((with_reducible exact HB.out))) hb); clear HO318; clear HB; have HO318 := n0_; have HO321 := n1_; have HB := n2_; clear n0_ n1_ n2_; (try clear hb); (try clear ho0); obtain ⟨Ao24, co24, eo24⟩ := Kd.V_slice HO321.out; subst eo24; obtain ⟨Ao25, co25, eo25⟩ := Kd.V_slice HO318.out; subst eo25) | ((with_reducible refine gate_callee (f := 71) rfl ?_); refine goesL_ (some 25) rfl rfl Try.func71 (by kernel_rfl) rfl #[.slice Ao25 t316.length co25, .slice Ao24 t319.length co24] rfl (by (try simp only [List.map_toArray, List.map_cons, List.map_nil]); rfl) ?_; (with_reducible refine (nat_Cmp.calls k _ _ t316 _ _ t319 t322 _ ?side1 ?side2 ?side3 ?side4 A9.out).mono ?_); (case side1 => repeat (exact (Kd.V_reads' HO318.out).2.2)); (case side2 => exact (Kd.V_reads' HO318.out).2.1); (case side3 => repeat (exact (Kd.V_reads' HO321.out).2.2)); (case side4 => exact (Kd.V_reads' HO321.out).2.1); rintro e w26 ⟨rfl, hb⟩; refine ⟨_, rfl, ?_⟩; have n0_ := Aside0.mk (Kd.V_below (by exact HO318.out) hb); have n1_ := Aside0.mk (Kd.V_below (by exact HO321.out) hb); have n2_ := Aside0.mk (below_step (by repeat ((with_reducible exact HB.out))) hb); clear HO318; clear HO321; clear HB; have HO318 := n0_; have HO321 := n1_; have HB := n2_; clear n0_ n1_ n2_; (try clear hb); have p326 : 0 ≤ (0 : Int) := (by omega); have q326 : 0 < (t319.length : Int) := of_decide_eq_true (by (with_reducible assumption)); obtain ⟨ad326, e326, hx326_0⟩ := Kd.at_int (Kd.V_reads' HO321.out).2.2 0 p326 q326; cases e326; have qi326 : (0 < t319.length) = True := eq_true (by omega); (try rw [show ((0 : Int)).toNat = 0 from rfl] at hx326_0); (try rw [Addr.add_zero'] at hx326_0); replace p326 := eq_true p326; replace q326 := eq_true q326) | ((with_reducible refine gate_callee (f := 102) rfl ?_); refine goesL_ (some 38) rfl rfl Try.func102 (by kernel_rfl) rfl #[.slice Ao25 t316.length co25, .int .u32 (rd t319 0)] rfl (by (try simp only [List.map_toArray, List.map_cons, List.map_nil]); rfl) ?_; (with_reducible refine (nat_short.calls k _ _ t316 (rd t319 0) t327 t328 _ ?side1 ?side2 A20.out).mono ?_); (case side1 => repeat (exact (Kd.V_reads' HO318.out).2.2)); (case side2 => exact (Kd.V_reads' HO318.out).2.1); rintro e w27 ⟨v329, rfl, ho0, hb⟩; refine ⟨_, rfl, ?_⟩; have n0_ := Aside0.mk (Kd.V_elder' (by exact HO318.out) (Kd.R_base ho0) hb); have n1_ := Aside0.mk (Kd.V_elder' (by exact HO321.out) (Kd.R_base ho0) hb); have n2_ := Aside0.mk (Kd.R_lower ho0 (below_size (by repeat ((with_reducible exact HB.out))))); have n3_ := Aside0.mk (below_step (by repeat ((with_reducible exact HB.out))) hb); clear HO318; clear HO321; clear HB; have HO318 := n0_; have HO321 := n1_; have HO330 := n2_; have HB := n3_; clear n0_ n1_ n2_ n3_; (try clear hb); (try clear ho0)) | ((with_reducible refine gate_dst (N := 43) rfl ?_); refine Kd.R_lit (Kd.int .u32) _ 68 ?hg (N := 43) ?hd (xs := ([t328] : List Int)) (inner := [.int .u32 t328]) (ok := fun _ => True) (okp := fun _ => True) ?hr ?hp (fun _ hk => hk) trivial (Below.refl _ _) (Nat.le_refl _) (by simp) ?_; (case hd => rfl); (case hg => rfl); (case hr => (go_simp; done)); (case hp => exact (Reps.one (show Kd.M (Kd.int .u32) _ _ _ t328 [.int .u32 t328] from rfl) (Reps.none _ _))); intro v332 w28 ho29 hb hg_ hnew_; clear hg_ hnew_; (rw [← Ny331.out] at ho29); have n0_ := Aside0.mk (Kd.V_elder' (by exact HO318.out) (Kd.R_base ho29) hb); have n1_ := Aside0.mk (Kd.V_elder' (by exact HO321.out) (Kd.R_base ho29) hb); have n2_ := Aside0.mk (Kd.R_elder' (by exact HO330.out) (Kd.R_base ho29) hb); have n3_ := Aside0.mk (Kd.R_lower (Kd.R_new' ho29 (Kd.R_lt (by exact HO330.out))) (below_size (by repeat ((with_reducible exact HB.out))))); have n4_ := Aside0.mk (below_step (by repeat ((with_reducible exact HB.out))) hb); clear HO318; clear HO321; clear HO330; clear HB; have HO318 := n0_; have HO321 := n1_; have HO330 := n2_; have HO333 := n3_; have HB := n4_; clear n0_ n1_ n2_ n3_ n4_; clear hb ho29; obtain ⟨Ao30, co30, eo30⟩ := Kd.R_slice HO333.out; subst eo30) | ((with_reducible refine gate_callee (f := 95) rfl ?_); refine goesL_ (some 44) rfl rfl Try.func95 (by kernel_rfl) rfl #[.slice Ao30 y331.length co30] rfl (by (try simp only [List.map_toArray, List.map_cons, List.map_nil]); rfl) ?_; (with_reducible refine (nat_trim_own.calls k (fun k_ => some k_ = (.slice Ao30 y331.length co30 : Value).ownBlock) (.slice Ao30 y331.length co30) y331 t334 w _ ?side1 ?side2 A21.out).mono ?_); (case side1 => repeat ((with_reducible exact HB.out))); (case side2 => exact Kd.R_tight rfl HO333.out); rintro e w31 ⟨v335, rfl, ho0, hb, hkp⟩; refine ⟨_, rfl, ?_⟩; have n0_ := Aside0.mk (Kd.V_mono (ok' := fun k_ => some k_ ≠ (v329 : Value).ownBlock ∧ some k_ ≠ (v335 : Value).ownBlock) (Kd.V_keptB (HO318.out) hkp (fun k_ hk_ hs_ => (hk_.2) hs_)) (fun k_ hk_ => ⟨hk_.1.1.2, fun e_ => Or.elim (ho0.1 k_ e_.symm) (fun hs_ => hk_.2.1 hs_) (fun hn_ => Nat.not_le.2 hk_.2.2 hn_)⟩)); have n1_ := Aside0.mk (Kd.V_mono (ok' := fun k_ => some k_ ≠ (v329 : Value).ownBlock ∧ some k_ ≠ (v335 : Value).ownBlock) (Kd.V_keptB (HO321.out) hkp (fun k_ hk_ hs_ => (hk_.2) hs_)) (fun k_ hk_ => ⟨hk_.1.1.2, fun e_ => Or.elim (ho0.1 k_ e_.symm) (fun hs_ => hk_.2.1 hs_) (fun hn_ => Nat.not_le.2 hk_.2.2 hn_)⟩)); have n2_ := Aside0.mk (Kd.R_mono (ok' := fun k_ => some k_ ≠ (v335 : Value).ownBlock) (Kd.R_keptB (HO330.out) hkp (fun k_ hk_ hs_ => (hk_.2) hs_)) (fun k_ hk_ => fun e_ => Or.elim (ho0.1 k_ e_.symm) (fun hs_ => hk_.2.1 hs_) (fun hn_ => Nat.not_le.2 hk_.2.2 hn_))); have n3_ := Aside0.mk (Kd.R_mono (ok' := fun k_ => some k_ ≠ (v329 : Value).ownBlock) ho0 (fun k_ hk_ => Or.elim hk_ (fun hs_ => fun e_ => (((HO330.out).1 k_ e_.symm).2) hs_) (fun hn_ => (Kd.fresh' (Kd.R_lt (by exact HO330.out)) k_ hn_)))); have n4_ := Aside0.mk (hb); clear HO318; clear HO321; clear HO330; clear HB; clear HO333; have HO318 := n0_; have HO321 := n1_; have HO330 := n2_; have HO336 := n3_; have HB := n4_; clear n0_ n1_ n2_ n3_ n4_; (try clear hb); (try clear hkp); (try clear ho0)))
          go_ret3
          exact ⟨_, _, by rfl, by exact HO330.out, by exact HO336.out, by repeat ((with_reducible exact HB.out))⟩
        · rw [if_neg c19] at H
          exact absurd H (by simp)
      · rw [if_neg c18] at H
        have c18b0 : ((t319.length : Int) == 1) = false := beq_eq_false_iff_ne.mpr c18
        have c18b1 : ((t319.length : Int) != 1) = true := bne_iff_ne.mpr c18
        obtain ⟨ji32, hji32⟩ : ∃ j_ : Int, (wrap64 ((t319.length : Int) - 1)) = j_ := ⟨_, rfl⟩
        replace H : (if 0 ≤ (ji32) then (if (ji32) < (t319.length : Int) then (none) else (none)) else (none)) = some (r1, r2, r3) := by (rw [hji32] at H; exact H)
        have hji32w : (IntKind.i64.wrap ((t319.length : Int) - 1)) = ji32 := (i64_w _).trans hji32
        by_cases c33 : 0 ≤ (ji32)
        · rw [if_pos c33] at H
          have c33b0 : decide (0 ≤ (ji32)) = true := decide_eq_true c33
          clear c33
          by_cases c34 : (ji32) < (t319.length : Int)
          · rw [if_pos c34] at H
            have c34b0 : decide ((ji32) < (t319.length : Int)) = true := decide_eq_true c34
            clear c34
            exact absurd H (by simp)
          · rw [if_neg c34] at H
            exact absurd H (by simp)
        · rw [if_neg c33] at H
          exact absurd H (by simp)

-- NOT PRINTED: function 45 (zint_Root)

/-! ### trammelref01_Bits: function 88 -/
mutual
def trammelref01_Bits.l0 : Nat → List Int → Int → Option (Int)
  | 0, _, _ => none
  | k + 1, x0, x3 => if x3 ≥ 0 then (if 0 ≤ x3 then (if x3 < (x0.length : Int) then (if (rd x0 x3) = 0 then (trammelref01_Bits.l0 k x0 (wrap64 (x3 - 1))) else (trammelref01_Bits.l1 k (wrap64 (32 * x3)) (rd x0 x3))) else (none)) else (none)) else (some 0)
def trammelref01_Bits.l1 : Nat → Int → Int → Option (Int)
  | 0, _, _ => none
  | k + 1, x4, x5 => if x5 > 0 then (trammelref01_Bits.l1 k (wrap64 (x4 + 1)) ((Int.tdiv x5 2) % 4294967296)) else (some x4)
end
def trammelref01_Bits.f (k : Nat) (l0 : List Int) : Option (Int) := trammelref01_Bits.l0 k l0 (wrap64 ((l0.length : Int) - 1))
set_option maxHeartbeats 8000000 in
set_option maxRecDepth 100000 in
theorem trammelref01_Bits.calls (k : Nat) (A0 : Option Addr) (c0 : Nat) (l0 : List Int) (r : Int) (w : World) (hr0 : Kd.C (Kd.int .u32) w A0 l0.length l0) (hc0 : l0.length ≤ c0) (h : trammelref01_Bits.f k l0 = some r) :
    Calls Try.prog 88 #[.slice A0 l0.length c0] w fun e w' => e = .returned (.int .i64 r) ∧ Drawn0 w w' := by
  have HR0 := Aside0.mk hr0
  have HC0 := Aside0.mk hc0
  clear hr0 hc0
  have H : (trammelref01_Bits.l0 k l0 (wrap64 ((l0.length : Int) - 1))) = some r := h
  clear h
  have H' := Aside0.mk H
  clear H
  go_enter Try.func88, Try.ntmps88
  go_wp2
  go_loopg [3] k (fun kq v3 w' => ∃ (x3_1 : Int), v3 = .int .i64 x3_1 ∧ Aside0 (trammelref01_Bits.l0 kq l0 x3_1 = some r) ∧ Aside0 (kq ≤ k) ∧ Drawn0 w w')
  case atStart => exact ⟨(wrap64 ((l0.length : Int) - 1)), (by rfl), H', ⟨Nat.le_refl _⟩, by repeat (exact Drawn0.refl _)⟩
  case round =>
    clear H'
    obtain ⟨x3_1, rfl, HA, HK1, ⟨m1, rfl⟩⟩ := hrel
    cases gk with
    | zero => exact absurd HA.out (by simp [trammelref01_Bits.l0])
    | succ k1 =>
      have H := HA.out
      clear HA
      simp only [trammelref01_Bits.l0] at H
      by_cases c2 : x3_1 ≥ 0
      · rw [if_pos c2] at H
        have c2b0 : decide (0 ≤ x3_1) = true := decide_eq_true c2
        clear c2
        by_cases c3 : 0 ≤ x3_1
        · rw [if_pos c3] at H
          have c3b0 : decide (0 ≤ x3_1) = true := decide_eq_true c3
          clear c3
          by_cases c4 : x3_1 < (l0.length : Int)
          · rw [if_pos c4] at H
            have c4b0 : decide (x3_1 < (l0.length : Int)) = true := decide_eq_true c4
            clear c4
            by_cases c5 : (rd l0 x3_1) = 0
            · rw [if_pos c5] at H
              have c5b0 : ((rd l0 x3_1) == 0) = true := beq_iff_eq.mpr c5
              have c5b1 : ((rd l0 x3_1) != 0) = false := bne_eq_false_iff_eq.mpr c5
              clear c5
              have H' := Aside0.mk H
              clear H
              have p360 : 0 ≤ (x3_1 : Int) := of_decide_eq_true (by (with_reducible assumption))
              have q360 : x3_1 < (l0.length : Int) := of_decide_eq_true (by (with_reducible assumption))
              obtain ⟨ad360, e360, hx360_0⟩ := Kd.at_int HR0.out x3_1 p360 q360
              cases e360
              replace p360 := eq_true p360
              replace q360 := eq_true q360
              go_wp2
              go_roundg k1
              case measure => have := HK1.out; omega
              case rel => exact ⟨(wrap64 (x3_1 - 1)), (by rfl), (by with_reducible exact H'), ⟨by have := HK1.out; omega⟩, by repeat (first | exact Drawn0.refl _ | apply Drawn0.step)⟩
            · rw [if_neg c5] at H
              have c5b0 : ((rd l0 x3_1) == 0) = false := beq_eq_false_iff_ne.mpr c5
              have c5b1 : ((rd l0 x3_1) != 0) = true := bne_iff_ne.mpr c5
              have H' := Aside0.mk H
              clear H
              have p360 : 0 ≤ (x3_1 : Int) := of_decide_eq_true (by (with_reducible assumption))
              have q360 : x3_1 < (l0.length : Int) := of_decide_eq_true (by (with_reducible assumption))
              obtain ⟨ad360, e360, hx360_0⟩ := Kd.at_int HR0.out x3_1 p360 q360
              cases e360
              replace p360 := eq_true p360
              replace q360 := eq_true q360
              have p361 : 0 ≤ (x3_1 : Int) := of_decide_eq_true (by (with_reducible assumption))
              have q361 : x3_1 < (l0.length : Int) := of_decide_eq_true (by (with_reducible assumption))
              obtain ⟨ad361, e361, hx361_0⟩ := Kd.at_int HR0.out x3_1 p361 q361
              obtain rfl : ad360 = ad361 := (by injection e361)
              replace p361 := eq_true p361
              replace q361 := eq_true q361
              go_wp2
              go_loopg [4, 5] k1 (fun kq v4 v5 w' => ∃ (x4_2 : Int) (x5_2 : Int), v4 = .int .i64 x4_2 ∧ v5 = .int .u32 x5_2 ∧ Aside0 (trammelref01_Bits.l1 kq x4_2 x5_2 = some r) ∧ Aside0 (kq ≤ k1) ∧ Drawn0 w w')
              case atStart => exact ⟨(wrap64 (32 * x3_1)), (rd l0 x3_1), (by rfl), (by rfl), H', ⟨Nat.le_refl _⟩, by repeat (first | exact Drawn0.refl _ | apply Drawn0.step)⟩
              case round =>
                clear H'
                skip
                try clear c2b0
                skip
                skip
                try clear c3b0
                skip
                skip
                skip
                skip
                try clear c4b0
                try clear c5
                try clear c5b0
                try clear c5b1
                try clear hx360_0
                try clear hx361_0
                try clear p360
                try clear p361
                try clear q360
                try clear q361
                obtain ⟨x4_2, x5_2, rfl, rfl, HA, HK2, ⟨m2, rfl⟩⟩ := hrel
                cases gk with
                | zero => exact absurd HA.out (by simp [trammelref01_Bits.l1])
                | succ k2 =>
                  have H := HA.out
                  clear HA
                  simp only [trammelref01_Bits.l1] at H
                  by_cases c6 : x5_2 > 0
                  · rw [if_pos c6] at H
                    have c6b0 : decide (0 < x5_2) = true := decide_eq_true c6
                    clear c6
                    have H' := Aside0.mk H
                    clear H
                    go_wp2
                    go_roundg k2
                    case measure => have := HK1.out; have := HK2.out; omega
                    case rel => exact ⟨(wrap64 (x4_2 + 1)), ((Int.tdiv x5_2 2) % 4294967296), (by rfl), (by rfl), (by with_reducible exact H'), ⟨by have := HK1.out; have := HK2.out; omega⟩, by repeat (first | exact Drawn0.refl _ | apply Drawn0.step)⟩
                  · rw [if_neg c6] at H
                    have c6b0 : decide (0 < x5_2) = false := decide_eq_false c6
                    clear c6
                    obtain rfl := Option.some.inj H
                    go_wp2
                    go_ret
                    exact ⟨by rfl, by repeat (first | exact Drawn0.refl _ | apply Drawn0.step)⟩
          · rw [if_neg c4] at H
            exact absurd H (by simp)
        · rw [if_neg c3] at H
          exact absurd H (by simp)
      · rw [if_neg c2] at H
        have c2b0 : decide (0 ≤ x3_1) = false := decide_eq_false c2
        clear c2
        obtain rfl := Option.some.inj H
        go_wp2
        go_ret
        exact ⟨by rfl, by repeat (first | exact Drawn0.refl _ | apply Drawn0.step)⟩

/-! ### trammelref01_Two: function 106 -/
def trammelref01_Two.l0 : Nat → Int → List Int → Int → Option (List Int)
  | 0, _, _, _ => none
  | k + 1, x0, x3, x4 => if x4 < (wrap64 (Int.tdiv x0 32)) then (if x3.length < 35184372088832 then (trammelref01_Two.l0 k x0 (x3 ++ [0]) (wrap64 (x4 + 1))) else (none)) else (if 0 ≤ (IntKind.u64.wrap (Int.tmod x0 32)) then (if x3.length < 35184372088832 then (some (x3 ++ [shl .u32 1 (IntKind.u64.wrap (Int.tmod x0 32))])) else (none)) else (none))
def trammelref01_Two.f (k : Nat) (a0 : Int) : Option (List Int) := trammelref01_Two.l0 k a0 ([] : List Int) 0
set_option maxHeartbeats 8000000 in
set_option maxRecDepth 100000 in
theorem trammelref01_Two.calls (k : Nat) (a0 : Int) (r : List Int) (w : World) (h : trammelref01_Two.f k a0 = some r) :
    Calls Try.prog 106 #[.int .i64 a0] w fun e w' => ∃ v0_ : Value, e = .returned (v0_) ∧ Kd.R (Kd.int .u32) 68 w' w.heap.size (fun _ => True) v0_ r ∧ Below w.heap.size w w' := by
  have HB := Aside0.mk (Below.refl w.heap.size w)
  have H : (trammelref01_Two.l0 k a0 ([] : List Int) 0) = some r := h
  clear h
  have H' := Aside0.mk H
  clear H
  go_enter Try.func106, Try.ntmps106
  go_wp2
  go_loopg [3, 4] k (fun kq v3 v4 w' => ∃ (x3_1 : List Int) (x4_1 : Int), v4 = .int .i64 x4_1 ∧ Aside0 (trammelref01_Two.l0 kq a0 x3_1 x4_1 = some r) ∧ Aside0 (kq ≤ k) ∧ Aside0 (Kd.R (Kd.int .u32) 68 w' w.heap.size (fun _ => True) v3 x3_1) ∧ Aside0 (Below w.heap.size w w'))
  case atStart => exact ⟨(([] : List Int)), (0), (by rfl), H', ⟨Nat.le_refl _⟩, ⟨by exact Kd.R_nil _ _ _ _ _⟩, ⟨by repeat ((with_reducible exact HB.out))⟩⟩
  case round =>
    clear H'
    skip
    obtain ⟨x3_1, x4_1, rfl, HA, HK1, HO_3, HB⟩ := hrel
    cases gk with
    | zero => exact absurd HA.out (by simp [trammelref01_Two.l0])
    | succ k1 =>
      have H := HA.out
      clear HA
      simp only [trammelref01_Two.l0] at H
      by_cases c2 : x4_1 < (wrap64 (Int.tdiv a0 32))
      · rw [if_pos c2] at H
        have c2b0 : decide (x4_1 < (wrap64 (Int.tdiv a0 32))) = true := decide_eq_true c2
        clear c2
        by_cases c3 : x3_1.length < 35184372088832
        · rw [if_pos c3] at H
          have LMc3 := Aside0.mk c3
          clear c3
          obtain ⟨y362, hy362⟩ : ∃ y_ : List Int, y_ = (x3_1 ++ [0]) := ⟨_, rfl⟩
          replace H : (trammelref01_Two.l0 k1 a0 y362 (wrap64 (x4_1 + 1))) = some r := by (rw [hy362]; with_reducible exact H)
          have Ny362 := Aside0.mk hy362
          clear hy362
          have H' := Aside0.mk H
          clear H
          go_wp2_with (((with_reducible refine gate_builtin (b := .append) (xs := #[.tmp 11, .tmp 12]) rfl ?_); at_builtin; refine Kd.R_append (Kd.int .u32) (w0 := w) w.heap.size rfl (.tmp 11) (.tmp 12) 23 68 (.int .u32 0) 4 rfl Try.underlying23 info68 rfl (by decide) (by omega) u3 x3_1 0 [.int .u32 0] (fun _ => True) (fun _ => False) rfl rfl ?aP (fun _ hk => hk.elim) ?aF ?aO ?aB ?aS ?aL ?_; (case aP => exact rfl); (case aB => exact (by repeat ((with_reducible exact HB.out)))); (case aF => exact (fun _ _ => trivial)); (case aO => exact (by exact HO_3.out)); (case aS => exact (below_size (by repeat ((with_reducible exact HB.out))))); (case aL => have := LMc3.out; omega); intro v363 w4 ho hb hg hat; rw [← Ny362.out] at ho; have n0_ := Aside0.mk (hb); have n1_ := Aside0.mk (ho); clear HB; clear HO_3; have HB := n0_; have HO364 := n1_; clear n0_ n1_; clear ho hb hg hat))
          go_roundg k1
          case measure => have := HK1.out; omega
          case rel => exact ⟨(y362), (wrap64 (x4_1 + 1)), (by rfl), (by with_reducible exact H'), ⟨by have := HK1.out; omega⟩, ⟨by exact HO364.out⟩, ⟨by repeat ((with_reducible exact HB.out))⟩⟩
        · rw [if_neg c3] at H
          exact absurd H (by simp)
      · rw [if_neg c2] at H
        have c2b0 : decide (x4_1 < (wrap64 (Int.tdiv a0 32))) = false := decide_eq_false c2
        clear c2
        obtain ⟨ji5, hji5⟩ : ∃ j_ : Int, (IntKind.u64.wrap (Int.tmod a0 32)) = j_ := ⟨_, rfl⟩
        replace H : (if 0 ≤ (ji5) then (if x3_1.length < 35184372088832 then (some (x3_1 ++ [shl .u32 1 (ji5)])) else (none)) else (none)) = some r := by (rw [hji5] at H; exact H)
        by_cases c6 : 0 ≤ (ji5)
        · rw [if_pos c6] at H
          have c6b0 := eq_true c6
          have c6b1 : decide (0 ≤ (ji5)) = true := decide_eq_true c6
          clear c6
          obtain ⟨ji7, hji7⟩ : ∃ j_ : Int, (shl .u32 1 (ji5)) = j_ := ⟨_, rfl⟩
          replace H : (if x3_1.length < 35184372088832 then (some (x3_1 ++ [ji7])) else (none)) = some r := by (rw [hji7] at H; exact H)
          have hji7_ : (IntKind.u32.wrap (1 * 2 ^ min (ji5).toNat 32)) = ji7 := hji7
          have hji7z : (ji5) ≤ 32 → (IntKind.u32.wrap (1 * 2 ^ (ji5).toNat)) = ji7 := shl_small hji7
          have hji7u : (IntKind.u32.wrap (2 ^ min (ji5).toNat 32)) = ji7 := by have h_ := hji7_; rw [Int.one_mul] at h_; exact h_
          have hji7v : (ji5) ≤ 32 → (IntKind.u32.wrap (2 ^ (ji5).toNat)) = ji7 := fun hle_ => by have h_ := hji7z hle_; rw [Int.one_mul] at h_; exact h_
          by_cases c8 : x3_1.length < 35184372088832
          · rw [if_pos c8] at H
            have LMc8 := Aside0.mk c8
            clear c8
            obtain ⟨y365, hy365⟩ : ∃ y_ : List Int, y_ = (x3_1 ++ [ji7]) := ⟨_, rfl⟩
            replace H : (some y365) = some r := by (rw [hy365]; with_reducible exact H)
            have Ny365 := Aside0.mk hy365
            clear hy365
            obtain rfl := Option.some.inj H
            go_wp2_with (((with_reducible refine gate_builtin (b := .append) (xs := #[.tmp 14, .tmp 19]) rfl ?_); at_builtin; refine Kd.R_append (Kd.int .u32) (w0 := w) w.heap.size rfl (.tmp 14) (.tmp 19) 23 68 (.int .u32 0) 4 rfl Try.underlying23 info68 rfl (by decide) (by omega) u3 x3_1 ji7 [.int .u32 ji7] (fun _ => True) (fun _ => False) rfl rfl ?aP (fun _ hk => hk.elim) ?aF ?aO ?aB ?aS ?aL ?_; (case aP => exact rfl); (case aB => exact (by repeat ((with_reducible exact HB.out)))); (case aF => exact (fun _ _ => trivial)); (case aO => exact (by exact HO_3.out)); (case aS => exact (below_size (by repeat ((with_reducible exact HB.out))))); (case aL => have := LMc8.out; omega); intro v366 w9 ho hb hg hat; rw [← Ny365.out] at ho; have n0_ := Aside0.mk (hb); have n1_ := Aside0.mk (ho); clear HB; clear HO_3; have HB := n0_; have HO367 := n1_; clear n0_ n1_; clear ho hb hg hat))
            go_ret
            exact ⟨_, by rfl, by exact HO367.out, by repeat ((with_reducible exact HB.out))⟩
          · rw [if_neg c8] at H
            exact absurd H (by simp)
        · rw [if_neg c6] at H
          exact absurd H (by simp)

end Go.Proofs.Ytmbmbmkmjbpcpaa.PA

