-- printed by a program of this session
import Derived.Test.YtndopanohhdfgaaPAx0K
import Derived.Test.YtndopanohhdfgaaPAx9K
import Derived.Test.YtndopanohhdfgaaPAx11K
import Derived.Test.YtndopanohhdfgaaPAx12K
import Derived.Test.YtndopanohhdfgaaPAx13K
namespace Go.Proofs.Ytndopanohhdfgaa.PA
open Go.RowKit Go.Proofs.YtndopanohhdfgaaW.PrintWords Go.Proofs.YtndopanohhdfgaaW.PrintLast Go.Proofs.YtndopanohhdfgaaW.PrintMore
attribute [local go_sem] max2_int min2_int max_two min_two max_three min_three max_four min_four   -- for this text's walks alone
set_option linter.unusedVariables false
set_option linter.unusedSimpArgs false

/-! ### trammelref01_Div: function 50 -/
mutual
def trammelref01_Div.l0 : Nat → List Int → List Int → List Int → List Int → List Int → Int → Option (List Int × List Int × Int)
  | 0, _, _, _, _, _, _ => none
  | k + 1, x7, x11, x12, x13, x14, x15 => if x15 ≥ 0 then (if 0 ≤ x15 then (if x15 < (x11.length : Int) then ((some (([rd x11 x15] : List Int) : List Int)).bind fun y359 => (if y359.length + x14.length < 35184372088832 then ((trammelref01_Norm.f k (y359 ++ x14)).bind fun t365 => ((trammelref01_Cmp.f k t365 x12).bind fun t368 => (if t368 < 0 then (trammelref01_Div.l0 k x7 x11 x12 x13 t365 (wrap64 (x15 - 1))) else ((trammelref01_limb.f t365 (x12.length : Int)).bind fun t369 => ((trammelref01_limb.f t365 (wrap64 ((x12.length : Int) - 1))).bind fun t370 => ((trammelref01_limb.f x12 (wrap64 ((x12.length : Int) - 1))).bind fun t371 => (if t371 = 0 then (none) else (if (IntKind.u64.wrap (Int.tdiv (IntKind.u64.wrap ((IntKind.u64.wrap (t369 * 4294967296)) + t370)) t371)) ≥ 4294967296 then (trammelref01_Div.j1 k x7 x11 x12 x13 t365 x15 4294967295) else (trammelref01_Div.j1 k x7 x11 x12 x13 t365 x15 (IntKind.u64.wrap (Int.tdiv (IntKind.u64.wrap ((IntKind.u64.wrap (t369 * 4294967296)) + t370)) t371))))))))))) else (none))) else (none)) else (none)) else ((trammelref01_Bits.f k x7).bind fun t350 => ((trammelref01_Shr.f k x14 (wrap64 ((wrap64 (32 * (x7.length : Int))) - t350))).bind fun bt351 => ((trammelref01_Norm.f k x13).bind fun t355 => (some (t355, bt351.1, 0)))))
def trammelref01_Div.j1 : Nat → List Int → List Int → List Int → List Int → List Int → Int → Int → Option (List Int × List Int × Int)
  | 0, _, _, _, _, _, _, _ => none
  | k + 1, x7, x11, x12, x13, x14, x15, x16 => (trammelref01_Mul.f k x12 (([(x16) % 4294967296] : List Int))).bind fun t375 => (trammelref01_Div.l1 k x7 x11 x12 x13 x14 x15 x16 t375)
def trammelref01_Div.l1 : Nat → List Int → List Int → List Int → List Int → List Int → Int → Int → List Int → Option (List Int × List Int × Int)
  | 0, _, _, _, _, _, _, _, _ => none
  | k + 1, x7, x11, x12, x13, x14, x15, x16, x17 => (trammelref01_Cmp.f k x17 x14).bind fun t378 => (if t378 > 0 then ((trammelref01_less.f k x17 x12).bind fun t379 => (trammelref01_Div.l1 k x7 x11 x12 x13 x14 x15 (IntKind.u64.wrap (x16 - 1)) t379)) else (if 0 ≤ x15 then (if x15 < (x13.length : Int) then ((trammelref01_less.f k x14 x17).bind fun t383 => (trammelref01_Div.l0 k x7 x11 x12 (x13.set (x15 : Int).toNat ((x16) % 4294967296)) t383 (wrap64 (x15 - 1)))) else (none)) else (none)))
end
def trammelref01_Div.f (k : Nat) (l0 : List Int) (l1 : List Int) : Option (List Int × List Int × Int) := (trammelref01_Norm.f k l1).bind fun t323 => (if (t323.length : Int) = 0 then (some (([] : List Int), ([] : List Int), 11)) else (if (t323.length : Int) = 1 then (if 0 < (t323.length : Int) then ((trammelref01_small.f k l0 (IntKind.u64.wrap (rd t323 0))).bind fun bt327 => ((trammelref01_Norm.f k (([(bt327.2) % 4294967296] : List Int))).bind fun t334 => (some (bt327.1, t334, 0)))) else (none)) else ((trammelref01_Bits.f k t323).bind fun t337 => ((trammelref01_Two.f k (wrap64 ((wrap64 (32 * (t323.length : Int))) - t337))).bind fun t338 => ((trammelref01_Mul.f k l0 t338).bind fun t341 => ((trammelref01_Mul.f k t323 t338).bind fun t344 => (if 0 ≤ (t341.length : Int) then (if ((t341.length : Int) : Int).toNat ≤ 70368744177664 then (trammelref01_Div.l0 k t323 t341 t344 (List.replicate ((t341.length : Int) : Int).toNat 0) ([] : List Int) (wrap64 ((t341.length : Int) - 1))) else (none)) else (none))))))))
set_option maxHeartbeats 8000000 in
set_option maxRecDepth 100000 in
theorem trammelref01_Div.calls (k : Nat) (A0 : Option Addr) (c0 : Nat) (l0 : List Int) (A1 : Option Addr) (c1 : Nat) (l1 : List Int) (r1 : List Int) (r2 : List Int) (r3 : Int) (w : World) (hr0 : Kd.C (Kd.int .u32) w A0 l0.length l0) (hc0 : l0.length ≤ c0) (hr1 : Kd.C (Kd.int .u32) w A1 l1.length l1) (hc1 : l1.length ≤ c1) (h : trammelref01_Div.f k l0 l1 = some (r1, r2, r3)) :
    Calls Try.prog 50 #[.slice A0 l0.length c0, .slice A1 l1.length c1] w fun e w' => ∃ v0_ v1_ : Value, e = .returned (.tuple #[v0_, v1_, .int .i64 r3]) ∧ Kd.R (Kd.int .u32) 68 w' w.heap.size (fun k_ => some k_ ≠ (v1_ : Value).ownBlock) v0_ r1 ∧ Kd.R (Kd.int .u32) 68 w' w.heap.size (fun k_ => some k_ ≠ (v0_ : Value).ownBlock) v1_ r2 ∧ Below w.heap.size w w' := by
  have HR0 := Aside0.mk hr0
  have HC0 := Aside0.mk hc0
  clear hr0 hc0
  have HR1 := Aside0.mk hr1
  have HC1 := Aside0.mk hc1
  clear hr1 hc1
  have HB := Aside0.mk (Below.refl w.heap.size w)
  have H : ((trammelref01_Norm.f k l1).bind fun t323 => (if (t323.length : Int) = 0 then (some (([] : List Int), ([] : List Int), 11)) else (if (t323.length : Int) = 1 then (if 0 < (t323.length : Int) then ((trammelref01_small.f k l0 (IntKind.u64.wrap (rd t323 0))).bind fun bt327 => ((trammelref01_Norm.f k (([(bt327.2) % 4294967296] : List Int))).bind fun t334 => (some (bt327.1, t334, 0)))) else (none)) else ((trammelref01_Bits.f k t323).bind fun t337 => ((trammelref01_Two.f k (wrap64 ((wrap64 (32 * (t323.length : Int))) - t337))).bind fun t338 => ((trammelref01_Mul.f k l0 t338).bind fun t341 => ((trammelref01_Mul.f k t323 t338).bind fun t344 => (if 0 ≤ (t341.length : Int) then (if ((t341.length : Int) : Int).toNat ≤ 70368744177664 then (trammelref01_Div.l0 k t323 t341 t344 (List.replicate ((t341.length : Int) : Int).toNat 0) ([] : List Int) (wrap64 ((t341.length : Int) - 1))) else (none)) else (none))))))))) = some (r1, r2, r3) := h
  clear h
  replace H := Option.bind_eq_some_iff.mp H
  obtain ⟨t323, A30, H⟩ := H
  replace H : (if (t323.length : Int) = 0 then (some (([] : List Int), ([] : List Int), 11)) else (if (t323.length : Int) = 1 then (if 0 < (t323.length : Int) then ((trammelref01_small.f k l0 (IntKind.u64.wrap (rd t323 0))).bind fun bt327 => ((trammelref01_Norm.f k (([(bt327.2) % 4294967296] : List Int))).bind fun t334 => (some (bt327.1, t334, 0)))) else (none)) else ((trammelref01_Bits.f k t323).bind fun t337 => ((trammelref01_Two.f k (wrap64 ((wrap64 (32 * (t323.length : Int))) - t337))).bind fun t338 => ((trammelref01_Mul.f k l0 t338).bind fun t341 => ((trammelref01_Mul.f k t323 t338).bind fun t344 => (if 0 ≤ (t341.length : Int) then (if ((t341.length : Int) : Int).toNat ≤ 70368744177664 then (trammelref01_Div.l0 k t323 t341 t344 (List.replicate ((t341.length : Int) : Int).toNat 0) ([] : List Int) (wrap64 ((t341.length : Int) - 1))) else (none)) else (none)))))))) = some (r1, r2, r3) := H
  have A3 := Aside0.mk A30
  clear A30
  by_cases c4 : (t323.length : Int) = 0
  · rw [if_pos c4] at H
    have c4b0 : ((t323.length : Int) == 0) = true := beq_iff_eq.mpr c4
    have c4b1 : ((t323.length : Int) != 0) = false := bne_eq_false_iff_eq.mpr c4
    clear c4
    simp only [Option.some.injEq, Prod.mk.injEq] at H
    obtain ⟨rfl, rfl, rfl⟩ := H
    go_enter Try.func50, Try.ntmps50
    go_wp2_with (((with_reducible refine gate_callee (f := 45) rfl ?_); refine goesL_ (some 21) rfl rfl Try.func45 (by kernel_rfl) rfl #[.slice A1 l1.length c1] rfl (by (try simp only [List.map_toArray, List.map_cons, List.map_nil]); rfl) ?_; (with_reducible refine (trammelref01_Norm.calls k _ _ l1 t323 _ ?side1 ?side2 A3.out).mono ?_); (case side1 => repeat (exact HR1.out)); (case side2 => exact HC1.out); rintro e w5 ⟨v324, rfl, ho0, hb⟩; refine ⟨_, rfl, ?_⟩; have n0_ := Aside0.mk (Kd.R_lower ho0 (below_size (by repeat ((with_reducible exact HB.out))))); have n1_ := Aside0.mk (below_step (by repeat ((with_reducible exact HB.out))) hb); clear HB; have HO325 := n0_; have HB := n1_; clear n0_ n1_; (try clear hb); (try clear ho0); obtain ⟨Ao6, co6, eo6⟩ := Kd.R_slice HO325.out; subst eo6))
    go_ret3
    exact ⟨_, _, by rfl, by exact Kd.R_nil _ _ _ _ _, by exact Kd.R_nil _ _ _ _ _, by repeat ((with_reducible exact HB.out))⟩
  · rw [if_neg c4] at H
    have c4b0 : ((t323.length : Int) == 0) = false := beq_eq_false_iff_ne.mpr c4
    have c4b1 : ((t323.length : Int) != 0) = true := bne_iff_ne.mpr c4
    have c4b2 : ¬ (t323 = []) := fun h_ => c4 (by rw [h_]; rfl)
    by_cases c7 : (t323.length : Int) = 1
    · rw [if_pos c7] at H
      have c7b0 : ((t323.length : Int) == 1) = true := beq_iff_eq.mpr c7
      have c7b1 : ((t323.length : Int) != 1) = false := bne_eq_false_iff_eq.mpr c7
      clear c7
      by_cases c8 : 0 < (t323.length : Int)
      · rw [if_pos c8] at H
        have c8b0 : decide (0 < (t323.length : Int)) = true := decide_eq_true c8
        have c8b1 : decide (0 < t323.length) = true := decide_eq_true (by omega)
        clear c8
        replace H := Option.bind_eq_some_iff.mp H
        obtain ⟨⟨t327, t328⟩, A90, H⟩ := H
        replace H : ((trammelref01_Norm.f k (([(t328) % 4294967296] : List Int))).bind fun t334 => (some (t327, t334, 0))) = some (r1, r2, r3) := H
        have A9 := Aside0.mk A90
        clear A90
        obtain ⟨y331, hy331⟩ : ∃ y_ : List Int, y_ = (([(t328) % 4294967296] : List Int)) := ⟨_, rfl⟩
        replace H : ((trammelref01_Norm.f k y331).bind fun t334 => (some (t327, t334, 0))) = some (r1, r2, r3) := by (rw [hy331]; with_reducible exact H)
        have Ny331 := Aside0.mk hy331
        clear hy331
        replace H := Option.bind_eq_some_iff.mp H
        obtain ⟨t334, A100, H⟩ := H
        replace H : (some (t327, t334, 0)) = some (r1, r2, r3) := H
        have A10 := Aside0.mk A100
        clear A100
        simp only [Option.some.injEq, Prod.mk.injEq] at H
        obtain ⟨rfl, rfl, rfl⟩ := H
        go_enter Try.func50, Try.ntmps50
        go_wp2_with (first | ((with_reducible refine gate_callee (f := 45) rfl ?_); refine goesL_ (some 21) rfl rfl Try.func45 (by kernel_rfl) rfl #[.slice A1 l1.length c1] rfl (by (try simp only [List.map_toArray, List.map_cons, List.map_nil]); rfl) ?_; (with_reducible refine (trammelref01_Norm.calls k _ _ l1 t323 _ ?side1 ?side2 A3.out).mono ?_); (case side1 => repeat (exact HR1.out)); (case side2 => exact HC1.out); rintro e w11 ⟨v324, rfl, ho0, hb⟩; refine ⟨_, rfl, ?_⟩; have n0_ := Aside0.mk (Kd.R_lower ho0 (below_size (by repeat ((with_reducible exact HB.out))))); have n1_ := Aside0.mk (below_step (by repeat ((with_reducible exact HB.out))) hb); clear HB; have HO325 := n0_; have HB := n1_; clear n0_ n1_; (try clear hb); (try clear ho0); obtain ⟨Ao12, co12, eo12⟩ := Kd.R_slice HO325.out; subst eo12; have p326 : 0 ≤ (0 : Int) := (by omega); have q326 : 0 < (t323.length : Int) := of_decide_eq_true (by (with_reducible assumption)); obtain ⟨ad326, e326, hx326_0⟩ := Kd.at_int (Kd.R_reads' HO325.out).2.2 0 p326 q326; cases e326; have qi326 : (0 < t323.length) = True := eq_true (by omega); (try rw [show ((0 : Int)).toNat = 0 from rfl] at hx326_0); (try rw [Addr.add_zero'] at hx326_0); replace p326 := eq_true p326; replace q326 := eq_true q326) | ((with_reducible refine gate_callee (f := 82) rfl ?_); refine goesL_ (some 34) rfl rfl Try.func82 (by kernel_rfl) rfl #[.slice A0 l0.length c0, .int .u64 (IntKind.u64.wrap (rd t323 0))] rfl (by (try simp only [List.map_toArray, List.map_cons, List.map_nil]); rfl) ?_; (with_reducible refine (trammelref01_small.calls k _ _ l0 (IntKind.u64.wrap (rd t323 0)) t327 t328 _ ?side1 ?side2 A9.out).mono ?_); (case side1 => repeat (exact (Kd.C_below HR0.out HB.out))); (case side2 => exact HC0.out); rintro e w13 ⟨v329, rfl, ho0, hb⟩; refine ⟨_, rfl, ?_⟩; have n0_ := Aside0.mk (Kd.R_elder' (by exact HO325.out) (Kd.R_base ho0) hb); have n1_ := Aside0.mk (Kd.R_lower (Kd.R_new' ho0 (Kd.R_lt (by exact HO325.out))) (below_size (by repeat ((with_reducible exact HB.out))))); have n2_ := Aside0.mk (below_step (by repeat ((with_reducible exact HB.out))) hb); clear HO325; clear HB; have HO325 := n0_; have HO330 := n1_; have HB := n2_; clear n0_ n1_ n2_; (try clear hb); (try clear ho0)) | ((with_reducible refine gate_dst (N := 40) rfl ?_); refine Kd.R_lit (Kd.int .u32) _ 68 ?hg (N := 40) ?hd (xs := ([(t328) % 4294967296] : List Int)) (inner := [.int .u32 ((t328) % 4294967296)]) (ok := fun _ => True) (okp := fun _ => True) ?hr ?hp (fun _ hk => hk) trivial (Below.refl _ _) (Nat.le_refl _) (by simp) ?_; (case hd => rfl); (case hg => rfl); (case hr => (go_simp; done)); (case hp => exact (Reps.one (show Kd.M (Kd.int .u32) _ _ _ ((t328) % 4294967296) [.int .u32 ((t328) % 4294967296)] from rfl) (Reps.none _ _))); intro v332 w14 ho15 hb hg_ hnew_; clear hg_ hnew_; (rw [← Ny331.out] at ho15); have n0_ := Aside0.mk (Kd.R_elder' (by exact HO325.out) (Kd.R_base ho15) hb); have n1_ := Aside0.mk (Kd.R_elder' (by exact HO330.out) (Kd.R_base ho15) hb); have n2_ := Aside0.mk (Kd.R_lower (Kd.R_new' (Kd.R_new' ho15 (Kd.R_lt (by exact HO325.out))) (Kd.R_lt (by exact HO330.out))) (below_size (by repeat ((with_reducible exact HB.out))))); have n3_ := Aside0.mk (below_step (by repeat ((with_reducible exact HB.out))) hb); clear HO325; clear HO330; clear HB; have HO325 := n0_; have HO330 := n1_; have HO333 := n2_; have HB := n3_; clear n0_ n1_ n2_ n3_; clear hb ho15; obtain ⟨Ao16, co16, eo16⟩ := Kd.R_slice HO333.out; subst eo16) | ((with_reducible refine gate_callee (f := 45) rfl ?_); refine goesL_ (some 41) rfl rfl Try.func45 (by kernel_rfl) rfl #[.slice Ao16 y331.length co16] rfl (by (try simp only [List.map_toArray, List.map_cons, List.map_nil]); rfl) ?_; (with_reducible refine (trammelref01_Norm.calls k _ _ y331 t334 _ ?side1 ?side2 A10.out).mono ?_); (case side1 => repeat (exact (Kd.R_reads' HO333.out).2.2)); (case side2 => exact (Kd.R_reads' HO333.out).2.1); rintro e w17 ⟨v335, rfl, ho0, hb⟩; refine ⟨_, rfl, ?_⟩; have n0_ := Aside0.mk (Kd.R_elder' (by exact HO325.out) (Kd.R_base ho0) hb); have n1_ := Aside0.mk (Kd.R_elder' (by exact HO330.out) (Kd.R_base ho0) hb); have n2_ := Aside0.mk (Kd.R_elder' (by exact HO333.out) (Kd.R_base ho0) hb); have n3_ := Aside0.mk (Kd.R_lower (Kd.R_new' (Kd.R_new' (Kd.R_new' ho0 (Kd.R_lt (by exact HO325.out))) (Kd.R_lt (by exact HO330.out))) (Kd.R_lt (by exact HO333.out))) (below_size (by repeat ((with_reducible exact HB.out))))); have n4_ := Aside0.mk (below_step (by repeat ((with_reducible exact HB.out))) hb); clear HO325; clear HO330; clear HO333; clear HB; have HO325 := n0_; have HO330 := n1_; have HO333 := n2_; have HO336 := n3_; have HB := n4_; clear n0_ n1_ n2_ n3_ n4_; (try clear hb); (try clear ho0)))
        go_ret3
        exact ⟨_, _, by rfl, by exact Kd.R_mono HO330.out (fun _ hk => hk.2), by exact Kd.R_mono HO336.out (fun _ hk => hk.1.2), by repeat ((with_reducible exact HB.out))⟩
      · rw [if_neg c8] at H
        exact absurd H (by simp)
    · rw [if_neg c7] at H
      have c7b0 : ((t323.length : Int) == 1) = false := beq_eq_false_iff_ne.mpr c7
      have c7b1 : ((t323.length : Int) != 1) = true := bne_iff_ne.mpr c7
      replace H := Option.bind_eq_some_iff.mp H
      obtain ⟨t337, A180, H⟩ := H
      replace H : ((trammelref01_Two.f k (wrap64 ((wrap64 (32 * (t323.length : Int))) - t337))).bind fun t338 => ((trammelref01_Mul.f k l0 t338).bind fun t341 => ((trammelref01_Mul.f k t323 t338).bind fun t344 => (if 0 ≤ (t341.length : Int) then (if ((t341.length : Int) : Int).toNat ≤ 70368744177664 then (trammelref01_Div.l0 k t323 t341 t344 (List.replicate ((t341.length : Int) : Int).toNat 0) ([] : List Int) (wrap64 ((t341.length : Int) - 1))) else (none)) else (none))))) = some (r1, r2, r3) := H
      have A18 := Aside0.mk A180
      clear A180
      replace H := Option.bind_eq_some_iff.mp H
      obtain ⟨t338, A190, H⟩ := H
      replace H : ((trammelref01_Mul.f k l0 t338).bind fun t341 => ((trammelref01_Mul.f k t323 t338).bind fun t344 => (if 0 ≤ (t341.length : Int) then (if ((t341.length : Int) : Int).toNat ≤ 70368744177664 then (trammelref01_Div.l0 k t323 t341 t344 (List.replicate ((t341.length : Int) : Int).toNat 0) ([] : List Int) (wrap64 ((t341.length : Int) - 1))) else (none)) else (none)))) = some (r1, r2, r3) := H
      have A19 := Aside0.mk A190
      clear A190
      replace H := Option.bind_eq_some_iff.mp H
      obtain ⟨t341, A200, H⟩ := H
      replace H : ((trammelref01_Mul.f k t323 t338).bind fun t344 => (if 0 ≤ (t341.length : Int) then (if ((t341.length : Int) : Int).toNat ≤ 70368744177664 then (trammelref01_Div.l0 k t323 t341 t344 (List.replicate ((t341.length : Int) : Int).toNat 0) ([] : List Int) (wrap64 ((t341.length : Int) - 1))) else (none)) else (none))) = some (r1, r2, r3) := H
      have A20 := Aside0.mk A200
      clear A200
      replace H := Option.bind_eq_some_iff.mp H
      obtain ⟨t344, A210, H⟩ := H
      replace H : (if 0 ≤ (t341.length : Int) then (if ((t341.length : Int) : Int).toNat ≤ 70368744177664 then (trammelref01_Div.l0 k t323 t341 t344 (List.replicate ((t341.length : Int) : Int).toNat 0) ([] : List Int) (wrap64 ((t341.length : Int) - 1))) else (none)) else (none)) = some (r1, r2, r3) := H
      have A21 := Aside0.mk A210
      clear A210
      by_cases c22 : 0 ≤ (t341.length : Int)
      · rw [if_pos c22] at H
        have c22b0 := eq_true c22
        have c22b1 : decide (0 ≤ (t341.length : Int)) = true := decide_eq_true c22
        clear c22
        by_cases c23 : ((t341.length : Int) : Int).toNat ≤ 70368744177664
        · rw [if_pos c23] at H
          have c23b0 := eq_true c23
          have c23b1 : decide (((t341.length : Int) : Int).toNat ≤ 70368744177664) = true := decide_eq_true c23
          clear c23
          obtain ⟨y347, hy347⟩ : ∃ y_ : List Int, y_ = (List.replicate ((t341.length : Int) : Int).toNat 0) := ⟨_, rfl⟩
          replace H : (trammelref01_Div.l0 k t323 t341 t344 y347 ([] : List Int) (wrap64 ((t341.length : Int) - 1))) = some (r1, r2, r3) := by (rw [hy347]; with_reducible exact H)
          have Ny347 := Aside0.mk hy347
          clear hy347
          have H' := Aside0.mk H
          clear H
          go_enter Try.func50, Try.ntmps50
          go_wp2_with (first | ((with_reducible refine gate_callee (f := 45) rfl ?_); refine goesL_ (some 21) rfl rfl Try.func45 (by kernel_rfl) rfl #[.slice A1 l1.length c1] rfl (by (try simp only [List.map_toArray, List.map_cons, List.map_nil]); rfl) ?_; (with_reducible refine (trammelref01_Norm.calls k _ _ l1 t323 _ ?side1 ?side2 A3.out).mono ?_); (case side1 => repeat (exact HR1.out)); (case side2 => exact HC1.out); rintro e w24 ⟨v324, rfl, ho0, hb⟩; refine ⟨_, rfl, ?_⟩; have n0_ := Aside0.mk (Kd.R_lower ho0 (below_size (by repeat ((with_reducible exact HB.out))))); have n1_ := Aside0.mk (below_step (by repeat ((with_reducible exact HB.out))) hb); clear HB; have HO325 := n0_; have HB := n1_; clear n0_ n1_; (try clear hb); (try clear ho0); obtain ⟨Ao25, co25, eo25⟩ := Kd.R_slice HO325.out; subst eo25) | ((with_reducible refine gate_callee (f := 84) rfl ?_); refine goesL_ (some 46) rfl rfl Try.func84 (by kernel_rfl) rfl #[.slice Ao25 t323.length co25] rfl (by (try simp only [List.map_toArray, List.map_cons, List.map_nil]); rfl) ?_; (with_reducible refine (trammelref01_Bits.calls k _ _ t323 t337 _ ?side1 ?side2 A18.out).mono ?_); (case side1 => repeat (exact (Kd.R_reads' HO325.out).2.2)); (case side2 => exact (Kd.R_reads' HO325.out).2.1); rintro e w' ⟨rfl, ⟨nd, rfl⟩⟩; refine ⟨_, rfl, ?_⟩) | ((with_reducible refine gate_callee (f := 83) rfl ?_); refine goesL_ (some 48) rfl rfl Try.func83 (by kernel_rfl) rfl #[.int .i64 (wrap64 ((wrap64 (32 * (t323.length : Int))) - t337))] rfl (by (try simp only [List.map_toArray, List.map_cons, List.map_nil]); rfl) ?_; (with_reducible refine (trammelref01_Two.calls k (wrap64 ((wrap64 (32 * (t323.length : Int))) - t337)) t338 _ A19.out).mono ?_); rintro e w26 ⟨v339, rfl, ho0, hb⟩; refine ⟨_, rfl, ?_⟩; have n0_ := Aside0.mk (Kd.R_elder' (by (with_reducible repeat (apply Kd.R_drewN)); exact HO325.out) (Kd.R_base ho0) hb); have n1_ := Aside0.mk (Kd.R_lower (Kd.R_new' ho0 (Kd.R_lt (by (with_reducible repeat (apply Kd.R_drewN)); exact HO325.out))) (below_size (by repeat ((with_reducible first | exact HB.out | apply pw_below_drewN))))); have n2_ := Aside0.mk (below_step (by repeat ((with_reducible first | exact HB.out | apply pw_below_drewN))) hb); clear HO325; clear HB; have HO325 := n0_; have HO340 := n1_; have HB := n2_; clear n0_ n1_ n2_; (try clear hb); (try clear ho0); obtain ⟨Ao27, co27, eo27⟩ := Kd.R_slice HO340.out; subst eo27) | ((with_reducible refine gate_callee (f := 85) rfl ?_); refine goesL_ (some 51) rfl rfl Try.func85 (by kernel_rfl) rfl #[.slice A0 l0.length c0, .slice Ao27 t338.length co27] rfl (by (try simp only [List.map_toArray, List.map_cons, List.map_nil]); rfl) ?_; (with_reducible refine (trammelref01_Mul.calls k _ _ l0 _ _ t338 t341 _ ?side1 ?side2 ?side3 ?side4 A20.out).mono ?_); (case side1 => repeat (exact (Kd.C_below HR0.out HB.out))); (case side2 => exact HC0.out); (case side3 => repeat (exact (Kd.R_reads' HO340.out).2.2)); (case side4 => exact (Kd.R_reads' HO340.out).2.1); rintro e w28 ⟨v342, rfl, ho0, hb⟩; refine ⟨_, rfl, ?_⟩; have n0_ := Aside0.mk (Kd.R_elder' (by exact HO325.out) (Kd.R_base ho0) hb); have n1_ := Aside0.mk (Kd.R_elder' (by exact HO340.out) (Kd.R_base ho0) hb); have n2_ := Aside0.mk (Kd.R_lower (Kd.R_new' (Kd.R_new' ho0 (Kd.R_lt (by exact HO325.out))) (Kd.R_lt (by exact HO340.out))) (below_size (by repeat ((with_reducible exact HB.out))))); have n3_ := Aside0.mk (below_step (by repeat ((with_reducible exact HB.out))) hb); clear HO325; clear HO340; clear HB; have HO325 := n0_; have HO340 := n1_; have HO343 := n2_; have HB := n3_; clear n0_ n1_ n2_ n3_; (try clear hb); (try clear ho0)) | ((with_reducible refine gate_callee (f := 85) rfl ?_); refine goesL_ (some 54) rfl rfl Try.func85 (by kernel_rfl) rfl #[.slice Ao25 t323.length co25, .slice Ao27 t338.length co27] rfl (by (try simp only [List.map_toArray, List.map_cons, List.map_nil]); rfl) ?_; (with_reducible refine (trammelref01_Mul.calls k _ _ t323 _ _ t338 t344 _ ?side1 ?side2 ?side3 ?side4 A21.out).mono ?_); (case side1 => repeat (exact (Kd.R_reads' HO325.out).2.2)); (case side2 => exact (Kd.R_reads' HO325.out).2.1); (case side3 => repeat (exact (Kd.R_reads' HO340.out).2.2)); (case side4 => exact (Kd.R_reads' HO340.out).2.1); rintro e w29 ⟨v345, rfl, ho0, hb⟩; refine ⟨_, rfl, ?_⟩; have n0_ := Aside0.mk (Kd.R_elder' (by exact HO325.out) (Kd.R_base ho0) hb); have n1_ := Aside0.mk (Kd.R_elder' (by exact HO340.out) (Kd.R_base ho0) hb); have n2_ := Aside0.mk (Kd.R_elder' (by exact HO343.out) (Kd.R_base ho0) hb); have n3_ := Aside0.mk (Kd.R_lower (Kd.R_new' (Kd.R_new' (Kd.R_new' ho0 (Kd.R_lt (by exact HO325.out))) (Kd.R_lt (by exact HO340.out))) (Kd.R_lt (by exact HO343.out))) (below_size (by repeat ((with_reducible exact HB.out))))); have n4_ := Aside0.mk (below_step (by repeat ((with_reducible exact HB.out))) hb); clear HO325; clear HO340; clear HO343; clear HB; have HO325 := n0_; have HO340 := n1_; have HO343 := n2_; have HO346 := n3_; have HB := n4_; clear n0_ n1_ n2_ n3_ n4_; (try clear hb); (try clear ho0); obtain ⟨Ao30, co30, eo30⟩ := Kd.R_slice HO343.out; subst eo30) | ((with_reducible refine gate_dst (N := 57) rfl ?_); refine Kd.R_make (Kd.int .u32) _ 68 rfl (N := 57) rfl 22 _ _ rfl (t341.length : Int) rfl rfl Try.underlying22 (.int .u32 0) 4 info68 rfl (by decide) (by omega) 0 (ok := fun _ => True) (okp := fun _ => True) rfl (fun _ hk => hk) trivial (of_decide_eq_true (by (with_reducible assumption))) (Nat.le_trans (Nat.mul_le_mul_right _ (of_decide_eq_true (by (with_reducible assumption)) : (t341.length : Int).toNat ≤ 70368744177664)) (by omega)) (Below.refl _ _) (Nat.le_refl _) ?_; intro v348 w31 ho32 hb hg_ hnew_; clear hg_ hnew_; (rw [← Ny347.out] at ho32); have n0_ := Aside0.mk (Kd.R_elder' (by exact HO325.out) (Kd.R_base ho32) hb); have n1_ := Aside0.mk (Kd.R_elder' (by exact HO340.out) (Kd.R_base ho32) hb); have n2_ := Aside0.mk (Kd.R_elder' (by exact HO343.out) (Kd.R_base ho32) hb); have n3_ := Aside0.mk (Kd.R_elder' (by exact HO346.out) (Kd.R_base ho32) hb); have n4_ := Aside0.mk (Kd.R_lower (Kd.R_new' (Kd.R_new' (Kd.R_new' (Kd.R_new' ho32 (Kd.R_lt (by exact HO325.out))) (Kd.R_lt (by exact HO340.out))) (Kd.R_lt (by exact HO343.out))) (Kd.R_lt (by exact HO346.out))) (below_size (by repeat ((with_reducible exact HB.out))))); have n5_ := Aside0.mk (below_step (by repeat ((with_reducible exact HB.out))) hb); clear HO325; clear HO340; clear HO343; clear HO346; clear HB; have HO325 := n0_; have HO340 := n1_; have HO343 := n2_; have HO346 := n3_; have HO349 := n4_; have HB := n5_; clear n0_ n1_ n2_ n3_ n4_ n5_; clear hb ho32))
          go_loopg [14, 15] k (fun kq v14 v15 w' => ∃ (x13_1 : List Int) (x14_1 : List Int) (x15_1 : Int), v15 = .int .i64 x15_1 ∧ Aside0 (trammelref01_Div.l0 kq t323 t341 t344 x13_1 x14_1 x15_1 = some (r1, r2, r3)) ∧ Aside0 (kq ≤ k) ∧ Aside0 (Kd.R (Kd.int .u32) 68 w' w.heap.size (fun k_ => some k_ ≠ ((.slice Ao30 t341.length co30) : Value).ownBlock ∧ some k_ ≠ (v345 : Value).ownBlock ∧ some k_ ≠ (v348 : Value).ownBlock ∧ some k_ ≠ (v14 : Value).ownBlock) (.slice Ao25 t323.length co25) t323) ∧ Aside0 (Kd.R (Kd.int .u32) 68 w' w.heap.size (fun k_ => some k_ ≠ ((.slice Ao25 t323.length co25) : Value).ownBlock ∧ some k_ ≠ (v345 : Value).ownBlock ∧ some k_ ≠ (v348 : Value).ownBlock ∧ some k_ ≠ (v14 : Value).ownBlock) (.slice Ao30 t341.length co30) t341) ∧ Aside0 (Kd.R (Kd.int .u32) 68 w' w.heap.size (fun k_ => some k_ ≠ ((.slice Ao25 t323.length co25) : Value).ownBlock ∧ some k_ ≠ ((.slice Ao30 t341.length co30) : Value).ownBlock ∧ some k_ ≠ (v348 : Value).ownBlock ∧ some k_ ≠ (v14 : Value).ownBlock) v345 t344) ∧ Aside0 (Kd.R (Kd.int .u32) 68 w' w.heap.size (fun k_ => some k_ ≠ ((.slice Ao25 t323.length co25) : Value).ownBlock ∧ some k_ ≠ ((.slice Ao30 t341.length co30) : Value).ownBlock ∧ some k_ ≠ (v345 : Value).ownBlock ∧ some k_ ≠ (v14 : Value).ownBlock) v348 x13_1) ∧ Aside0 (Kd.R (Kd.int .u32) 68 w' w.heap.size (fun k_ => some k_ ≠ ((.slice Ao25 t323.length co25) : Value).ownBlock ∧ some k_ ≠ ((.slice Ao30 t341.length co30) : Value).ownBlock ∧ some k_ ≠ (v345 : Value).ownBlock ∧ some k_ ≠ (v348 : Value).ownBlock) v14 x14_1) ∧ Aside0 (Below w.heap.size w w'))
          case atStart => exact ⟨(y347), (([] : List Int)), (wrap64 ((t341.length : Int) - 1)), (by rfl), H', ⟨Nat.le_refl _⟩, ⟨by exact Kd.R_mono HO325.out (fun _ hk => ⟨hk.1.1.2, ⟨hk.1.2, ⟨hk.2, (by simp [Value.ownBlock])⟩⟩⟩)⟩, ⟨by exact Kd.R_mono HO343.out (fun _ hk => ⟨hk.1.1.1.2, ⟨hk.1.2, ⟨hk.2, (by simp [Value.ownBlock])⟩⟩⟩)⟩, ⟨by exact Kd.R_mono HO346.out (fun _ hk => ⟨hk.1.1.1.2, ⟨hk.1.2, ⟨hk.2, (by simp [Value.ownBlock])⟩⟩⟩)⟩, ⟨by exact Kd.R_mono HO349.out (fun _ hk => ⟨hk.1.1.1.2, ⟨hk.1.2, ⟨hk.2, (by simp [Value.ownBlock])⟩⟩⟩)⟩, ⟨by exact Kd.R_nil _ _ _ _ _⟩, ⟨by repeat ((with_reducible exact HB.out))⟩⟩
          case round =>
            clear H'
            skip
            skip
            skip
            skip
            skip
            skip
            skip
            try clear c4
            try clear c4b0
            try clear c4b1
            try clear c4b2
            skip
            skip
            try clear c7
            try clear c7b0
            try clear c7b1
            skip
            skip
            skip
            skip
            try clear c22b0
            try clear c22b1
            skip
            try clear c23b0
            try clear c23b1
            skip
            skip
            skip
            skip
            skip
            skip
            skip
            obtain ⟨x13_1, x14_1, x15_1, rfl, HA, HK1, HO_7, HO_11, HO_12, HO_13, HO_14, HB⟩ := hrel
            cases gk with
            | zero => exact absurd HA.out (by simp [trammelref01_Div.l0])
            | succ k1 =>
              have H := HA.out
              clear HA
              simp only [trammelref01_Div.l0] at H
              by_cases c33 : x15_1 ≥ 0
              · rw [if_pos c33] at H
                have c33b0 : decide (0 ≤ x15_1) = true := decide_eq_true c33
                clear c33
                by_cases c34 : 0 ≤ x15_1
                · rw [if_pos c34] at H
                  have c34b0 : decide (0 ≤ x15_1) = true := decide_eq_true c34
                  clear c34
                  by_cases c35 : x15_1 < (t341.length : Int)
                  · rw [if_pos c35] at H
                    have c35b0 : decide (x15_1 < (t341.length : Int)) = true := decide_eq_true c35
                    clear c35
                    obtain ⟨y359, hy359⟩ : ∃ y_ : List Int, y_ = (([rd t341 x15_1] : List Int)) := ⟨_, rfl⟩
                    replace H : (if y359.length + x14_1.length < 35184372088832 then ((trammelref01_Norm.f k1 (y359 ++ x14_1)).bind fun t365 => ((trammelref01_Cmp.f k1 t365 t344).bind fun t368 => (if t368 < 0 then (trammelref01_Div.l0 k1 t323 t341 t344 x13_1 t365 (wrap64 (x15_1 - 1))) else ((trammelref01_limb.f t365 (t344.length : Int)).bind fun t369 => ((trammelref01_limb.f t365 (wrap64 ((t344.length : Int) - 1))).bind fun t370 => ((trammelref01_limb.f t344 (wrap64 ((t344.length : Int) - 1))).bind fun t371 => (if t371 = 0 then (none) else (if (IntKind.u64.wrap (Int.tdiv (IntKind.u64.wrap ((IntKind.u64.wrap (t369 * 4294967296)) + t370)) t371)) ≥ 4294967296 then (trammelref01_Div.j1 k1 t323 t341 t344 x13_1 t365 x15_1 4294967295) else (trammelref01_Div.j1 k1 t323 t341 t344 x13_1 t365 x15_1 (IntKind.u64.wrap (Int.tdiv (IntKind.u64.wrap ((IntKind.u64.wrap (t369 * 4294967296)) + t370)) t371))))))))))) else (none)) = some (r1, r2, r3) := by (have H2_ := (Option.bind_some _ _).symm.trans H; rw [hy359]; with_reducible exact H2_)
                    have Ny359 := Aside0.mk hy359
                    clear hy359
                    by_cases c36 : y359.length + x14_1.length < 35184372088832
                    · rw [if_pos c36] at H
                      have LMc36 := Aside0.mk c36
                      clear c36
                      obtain ⟨y362, hy362⟩ : ∃ y_ : List Int, y_ = (y359 ++ x14_1) := ⟨_, rfl⟩
                      replace H : ((trammelref01_Norm.f k1 y362).bind fun t365 => ((trammelref01_Cmp.f k1 t365 t344).bind fun t368 => (if t368 < 0 then (trammelref01_Div.l0 k1 t323 t341 t344 x13_1 t365 (wrap64 (x15_1 - 1))) else ((trammelref01_limb.f t365 (t344.length : Int)).bind fun t369 => ((trammelref01_limb.f t365 (wrap64 ((t344.length : Int) - 1))).bind fun t370 => ((trammelref01_limb.f t344 (wrap64 ((t344.length : Int) - 1))).bind fun t371 => (if t371 = 0 then (none) else (if (IntKind.u64.wrap (Int.tdiv (IntKind.u64.wrap ((IntKind.u64.wrap (t369 * 4294967296)) + t370)) t371)) ≥ 4294967296 then (trammelref01_Div.j1 k1 t323 t341 t344 x13_1 t365 x15_1 4294967295) else (trammelref01_Div.j1 k1 t323 t341 t344 x13_1 t365 x15_1 (IntKind.u64.wrap (Int.tdiv (IntKind.u64.wrap ((IntKind.u64.wrap (t369 * 4294967296)) + t370)) t371))))))))))) = some (r1, r2, r3) := by (rw [hy362]; with_reducible exact H)
                      have Ny362 := Aside0.mk hy362
                      clear hy362
                      replace H := Option.bind_eq_some_iff.mp H
                      obtain ⟨t365, A370, H⟩ := H
                      replace H : ((trammelref01_Cmp.f k1 t365 t344).bind fun t368 => (if t368 < 0 then (trammelref01_Div.l0 k1 t323 t341 t344 x13_1 t365 (wrap64 (x15_1 - 1))) else ((trammelref01_limb.f t365 (t344.length : Int)).bind fun t369 => ((trammelref01_limb.f t365 (wrap64 ((t344.length : Int) - 1))).bind fun t370 => ((trammelref01_limb.f t344 (wrap64 ((t344.length : Int) - 1))).bind fun t371 => (if t371 = 0 then (none) else (if (IntKind.u64.wrap (Int.tdiv (IntKind.u64.wrap ((IntKind.u64.wrap (t369 * 4294967296)) + t370)) t371)) ≥ 4294967296 then (trammelref01_Div.j1 k1 t323 t341 t344 x13_1 t365 x15_1 4294967295) else (trammelref01_Div.j1 k1 t323 t341 t344 x13_1 t365 x15_1 (IntKind.u64.wrap (Int.tdiv (IntKind.u64.wrap ((IntKind.u64.wrap (t369 * 4294967296)) + t370)) t371)))))))))) = some (r1, r2, r3) := H
                      have A37 := Aside0.mk A370
                      clear A370
                      replace H := Option.bind_eq_some_iff.mp H
                      obtain ⟨t368, A380, H⟩ := H
                      replace H : (if t368 < 0 then (trammelref01_Div.l0 k1 t323 t341 t344 x13_1 t365 (wrap64 (x15_1 - 1))) else ((trammelref01_limb.f t365 (t344.length : Int)).bind fun t369 => ((trammelref01_limb.f t365 (wrap64 ((t344.length : Int) - 1))).bind fun t370 => ((trammelref01_limb.f t344 (wrap64 ((t344.length : Int) - 1))).bind fun t371 => (if t371 = 0 then (none) else (if (IntKind.u64.wrap (Int.tdiv (IntKind.u64.wrap ((IntKind.u64.wrap (t369 * 4294967296)) + t370)) t371)) ≥ 4294967296 then (trammelref01_Div.j1 k1 t323 t341 t344 x13_1 t365 x15_1 4294967295) else (trammelref01_Div.j1 k1 t323 t341 t344 x13_1 t365 x15_1 (IntKind.u64.wrap (Int.tdiv (IntKind.u64.wrap ((IntKind.u64.wrap (t369 * 4294967296)) + t370)) t371))))))))) = some (r1, r2, r3) := H
                      have A38 := Aside0.mk A380
                      clear A380
                      by_cases c39 : t368 < 0
                      · rw [if_pos c39] at H
                        have c39b0 : decide (t368 < 0) = true := decide_eq_true c39
                        clear c39
                        have H' := Aside0.mk H
                        clear H
                        have p358 : 0 ≤ (x15_1 : Int) := of_decide_eq_true (by (with_reducible assumption))
                        have q358 : x15_1 < (t341.length : Int) := of_decide_eq_true (by (with_reducible assumption))
                        obtain ⟨ad358, e358, hx358_0⟩ := Kd.at_int (Kd.R_reads' HO_11.out).2.2 x15_1 p358 q358
                        cases e358
                        replace p358 := eq_true p358
                        replace q358 := eq_true q358
                        go_wp2_with (first | ((with_reducible refine gate_dst (N := 69) rfl ?_); refine Kd.R_lit (Kd.int .u32) _ 68 ?hg (N := 69) ?hd (xs := ([rd t341 x15_1] : List Int)) (inner := [.int .u32 (rd t341 x15_1)]) (ok := fun _ => True) (okp := fun _ => True) ?hr ?hp (fun _ hk => hk) trivial (Below.refl _ _) (Nat.le_refl _) (by simp) ?_; (case hd => rfl); (case hg => rfl); (case hr => (go_simp; done)); (case hp => exact (Reps.one (show Kd.M (Kd.int .u32) _ _ _ (rd t341 x15_1) [.int .u32 (rd t341 x15_1)] from rfl) (Reps.none _ _))); intro v360 w40 ho41 hb hg_ hnew_; clear hg_ hnew_; (rw [← Ny359.out] at ho41); have n0_ := Aside0.mk (Kd.R_elder' (by exact HO_7.out) (Kd.R_base ho41) hb); have n1_ := Aside0.mk (Kd.R_elder' (by exact HO_11.out) (Kd.R_base ho41) hb); have n2_ := Aside0.mk (Kd.R_elder' (by exact HO_12.out) (Kd.R_base ho41) hb); have n3_ := Aside0.mk (Kd.R_elder' (by exact HO_13.out) (Kd.R_base ho41) hb); have n4_ := Aside0.mk (Kd.R_elder' (by exact HO_14.out) (Kd.R_base ho41) hb); have n5_ := Aside0.mk (Kd.R_lower (Kd.R_new' (Kd.R_new' (Kd.R_new' (Kd.R_new' (Kd.R_new' ho41 (Kd.R_lt (by exact HO_7.out))) (Kd.R_lt (by exact HO_11.out))) (Kd.R_lt (by exact HO_12.out))) (Kd.R_lt (by exact HO_13.out))) (Kd.R_lt (by exact HO_14.out))) (below_size (by repeat ((with_reducible exact HB.out))))); have n6_ := Aside0.mk (below_step (by repeat ((with_reducible exact HB.out))) hb); clear HO_7; clear HO_11; clear HO_12; clear HO_13; clear HO_14; clear HB; have HO_7 := n0_; have HO_11 := n1_; have HO_12 := n2_; have HO_13 := n3_; have HO_14 := n4_; have HO361 := n5_; have HB := n6_; clear n0_ n1_ n2_ n3_ n4_ n5_ n6_; clear hb ho41; obtain ⟨Ao43, co43, eo43⟩ := Kd.R_slice HO_14.out; subst eo43) | ((with_reducible refine gate_builtin (b := .append) (xs := #[.tmp 69, .tmp 70]) rfl ?_); at_builtin; refine Kd.R_append_rows (Kd.int .u32) (w0 := w) w.heap.size rfl (.tmp 69) (.tmp 70) 22 68 (.int .u32 0) 4 rfl Try.underlying22 info68 rfl (by decide) (by omega) v360 y359 x14_1 _ _ _ (fun k_ => some k_ ≠ (.slice Ao25 t323.length co25 : Value).ownBlock ∧ some k_ ≠ (.slice (some ad358) t341.length co30 : Value).ownBlock ∧ some k_ ≠ (v345 : Value).ownBlock ∧ some k_ ≠ (v348 : Value).ownBlock ∧ some k_ ≠ (.slice Ao43 x14_1.length co43 : Value).ownBlock) (fun _ => False) rfl rfl ?aO ?aR (fun _ _ h => h) (fun _ h => h.elim) ?aF ?aB ?aS ?aL ?_; (case aR => repeat (exact (Kd.R_reads' HO_14.out).2.2)); (case aB => exact (by repeat ((with_reducible exact HB.out)))); (case aF => exact (fun k_ hk => ⟨Kd.fresh' (Kd.R_lt (by exact HO_7.out)) k_ hk, Kd.fresh' (Kd.R_lt (by exact HO_11.out)) k_ hk, Kd.fresh' (Kd.R_lt (by exact HO_12.out)) k_ hk, Kd.fresh' (Kd.R_lt (by exact HO_13.out)) k_ hk, Kd.fresh' (Kd.R_lt (by exact HO_14.out)) k_ hk⟩)); (case aO => exact (by exact Kd.R_mono HO361.out (fun _ hk => ⟨hk.1.1.1.1.2, ⟨hk.1.1.1.2, ⟨hk.1.1.2, ⟨hk.1.2, hk.2⟩⟩⟩⟩))); (case aS => exact (below_size (by repeat ((with_reducible exact HB.out))))); (case aL => have := LMc36.out; omega); intro v363 w42 ho hb hg hat; rw [← Ny362.out] at ho; have n0_ := Aside0.mk (Kd.R_after (ok := (fun k_ => some k_ ≠ (.slice (some ad358) t341.length co30 : Value).ownBlock ∧ some k_ ≠ (v345 : Value).ownBlock ∧ some k_ ≠ (v348 : Value).ownBlock ∧ some k_ ≠ (.slice Ao43 x14_1.length co43 : Value).ownBlock)) (by exact HO_7.out) hg hat); have n1_ := Aside0.mk (Kd.R_after (ok := (fun k_ => some k_ ≠ (.slice Ao25 t323.length co25 : Value).ownBlock ∧ some k_ ≠ (v345 : Value).ownBlock ∧ some k_ ≠ (v348 : Value).ownBlock ∧ some k_ ≠ (.slice Ao43 x14_1.length co43 : Value).ownBlock)) (by exact HO_11.out) hg hat); have n2_ := Aside0.mk (Kd.R_after (ok := (fun k_ => some k_ ≠ (.slice Ao25 t323.length co25 : Value).ownBlock ∧ some k_ ≠ (.slice (some ad358) t341.length co30 : Value).ownBlock ∧ some k_ ≠ (v348 : Value).ownBlock ∧ some k_ ≠ (.slice Ao43 x14_1.length co43 : Value).ownBlock)) (by exact HO_12.out) hg hat); have n3_ := Aside0.mk (Kd.R_after (ok := (fun k_ => some k_ ≠ (.slice Ao25 t323.length co25 : Value).ownBlock ∧ some k_ ≠ (.slice (some ad358) t341.length co30 : Value).ownBlock ∧ some k_ ≠ (v345 : Value).ownBlock ∧ some k_ ≠ (.slice Ao43 x14_1.length co43 : Value).ownBlock)) (by exact HO_13.out) hg hat); have n4_ := Aside0.mk (Kd.R_after (ok := (fun k_ => some k_ ≠ (.slice Ao25 t323.length co25 : Value).ownBlock ∧ some k_ ≠ (.slice (some ad358) t341.length co30 : Value).ownBlock ∧ some k_ ≠ (v345 : Value).ownBlock ∧ some k_ ≠ (v348 : Value).ownBlock)) (by exact HO_14.out) hg hat); have n5_ := Aside0.mk (hb); have n6_ := Aside0.mk (ho); clear HO_7; clear HO_11; clear HO_12; clear HO_13; clear HO_14; clear HB; clear HO361; have HO_7 := n0_; have HO_11 := n1_; have HO_12 := n2_; have HO_13 := n3_; have HO_14 := n4_; have HB := n5_; have HO364 := n6_; clear n0_ n1_ n2_ n3_ n4_ n5_ n6_; clear ho hb hg hat; obtain ⟨Ao44, co44, eo44⟩ := Kd.R_slice HO364.out; subst eo44) | ((with_reducible refine gate_callee (f := 45) rfl ?_); refine goesL_ (some 72) rfl rfl Try.func45 (by kernel_rfl) rfl #[.slice Ao44 y362.length co44] rfl (by (try simp only [List.map_toArray, List.map_cons, List.map_nil]); rfl) ?_; (with_reducible refine (trammelref01_Norm.calls k1 _ _ y362 t365 _ ?side1 ?side2 A37.out).mono ?_); (case side1 => repeat (exact (Kd.R_reads' HO364.out).2.2)); (case side2 => exact (Kd.R_reads' HO364.out).2.1); rintro e w45 ⟨v366, rfl, ho0, hb⟩; refine ⟨_, rfl, ?_⟩; have n0_ := Aside0.mk (Kd.R_elder' (by exact HO_7.out) (Kd.R_base ho0) hb); have n1_ := Aside0.mk (Kd.R_elder' (by exact HO_11.out) (Kd.R_base ho0) hb); have n2_ := Aside0.mk (Kd.R_elder' (by exact HO_12.out) (Kd.R_base ho0) hb); have n3_ := Aside0.mk (Kd.R_elder' (by exact HO_13.out) (Kd.R_base ho0) hb); have n4_ := Aside0.mk (Kd.R_elder' (by exact HO_14.out) (Kd.R_base ho0) hb); have n5_ := Aside0.mk (Kd.R_elder' (by exact HO364.out) (Kd.R_base ho0) hb); have n6_ := Aside0.mk (Kd.R_lower (Kd.R_new' (Kd.R_new' (Kd.R_new' (Kd.R_new' (Kd.R_new' (Kd.R_new' ho0 (Kd.R_lt (by exact HO_7.out))) (Kd.R_lt (by exact HO_11.out))) (Kd.R_lt (by exact HO_12.out))) (Kd.R_lt (by exact HO_13.out))) (Kd.R_lt (by exact HO_14.out))) (Kd.R_lt (by exact HO364.out))) (below_size (by repeat ((with_reducible exact HB.out))))); have n7_ := Aside0.mk (below_step (by repeat ((with_reducible exact HB.out))) hb); clear HO_7; clear HO_11; clear HO_12; clear HO_13; clear HO_14; clear HO364; clear HB; have HO_7 := n0_; have HO_11 := n1_; have HO_12 := n2_; have HO_13 := n3_; have HO_14 := n4_; have HO364 := n5_; have HO367 := n6_; have HB := n7_; clear n0_ n1_ n2_ n3_ n4_ n5_ n6_ n7_; (try clear hb); (try clear ho0); obtain ⟨Ao46, co46, eo46⟩ := Kd.R_slice HO367.out; subst eo46; obtain ⟨Ao47, co47, eo47⟩ := Kd.R_slice HO_12.out; subst eo47) | ((with_reducible refine gate_callee (f := 86) rfl ?_); refine goesL_ (some 75) rfl rfl Try.func86 (by kernel_rfl) rfl #[.slice Ao46 t365.length co46, .slice Ao47 t344.length co47] rfl (by (try simp only [List.map_toArray, List.map_cons, List.map_nil]); rfl) ?_; (with_reducible refine (trammelref01_Cmp.calls k1 _ _ t365 _ _ t344 t368 _ ?side1 ?side2 ?side3 ?side4 A38.out).mono ?_); (case side1 => repeat (exact (Kd.R_reads' HO367.out).2.2)); (case side2 => exact (Kd.R_reads' HO367.out).2.1); (case side3 => repeat (exact (Kd.R_reads' HO_12.out).2.2)); (case side4 => exact (Kd.R_reads' HO_12.out).2.1); rintro e w' ⟨rfl, ⟨nd, rfl⟩⟩; refine ⟨_, rfl, ?_⟩))
                        go_roundg k1
                        case measure => have := HK1.out; omega
                        case rel => exact ⟨(x13_1), (t365), (wrap64 (x15_1 - 1)), (by rfl), (by with_reducible exact H'), ⟨by have := HK1.out; omega⟩, ⟨by (with_reducible repeat (apply Kd.R_drewN)); exact Kd.R_mono HO_7.out (fun _ hk => ⟨hk.1.1.1, ⟨hk.1.1.2.1, ⟨hk.1.1.2.2.1, hk.2⟩⟩⟩)⟩, ⟨by (with_reducible repeat (apply Kd.R_drewN)); exact Kd.R_mono HO_11.out (fun _ hk => ⟨hk.1.1.1, ⟨hk.1.1.2.1, ⟨hk.1.1.2.2.1, hk.2⟩⟩⟩)⟩, ⟨by (with_reducible repeat (apply Kd.R_drewN)); exact Kd.R_mono HO_12.out (fun _ hk => ⟨hk.1.1.1, ⟨hk.1.1.2.1, ⟨hk.1.1.2.2.1, hk.2⟩⟩⟩)⟩, ⟨by (with_reducible repeat (apply Kd.R_drewN)); exact Kd.R_mono HO_13.out (fun _ hk => ⟨hk.1.1.1, ⟨hk.1.1.2.1, ⟨hk.1.1.2.2.1, hk.2⟩⟩⟩)⟩, ⟨by (with_reducible repeat (apply Kd.R_drewN)); exact Kd.R_mono HO367.out (fun _ hk => ⟨hk.1.1.1.1.1.2, ⟨hk.1.1.1.1.2, ⟨hk.1.1.1.2, hk.1.1.2⟩⟩⟩)⟩, ⟨by repeat ((with_reducible first | exact HB.out | apply pw_below_drewN))⟩⟩
                      · rw [if_neg c39] at H
                        have c39b0 : decide (t368 < 0) = false := decide_eq_false c39
                        clear c39
                        replace H := Option.bind_eq_some_iff.mp H
                        obtain ⟨t369, A480, H⟩ := H
                        replace H : ((trammelref01_limb.f t365 (wrap64 ((t344.length : Int) - 1))).bind fun t370 => ((trammelref01_limb.f t344 (wrap64 ((t344.length : Int) - 1))).bind fun t371 => (if t371 = 0 then (none) else (if (IntKind.u64.wrap (Int.tdiv (IntKind.u64.wrap ((IntKind.u64.wrap (t369 * 4294967296)) + t370)) t371)) ≥ 4294967296 then (trammelref01_Div.j1 k1 t323 t341 t344 x13_1 t365 x15_1 4294967295) else (trammelref01_Div.j1 k1 t323 t341 t344 x13_1 t365 x15_1 (IntKind.u64.wrap (Int.tdiv (IntKind.u64.wrap ((IntKind.u64.wrap (t369 * 4294967296)) + t370)) t371))))))) = some (r1, r2, r3) := H
                        have A48 := Aside0.mk A480
                        clear A480
                        replace H := Option.bind_eq_some_iff.mp H
                        obtain ⟨t370, A490, H⟩ := H
                        replace H : ((trammelref01_limb.f t344 (wrap64 ((t344.length : Int) - 1))).bind fun t371 => (if t371 = 0 then (none) else (if (IntKind.u64.wrap (Int.tdiv (IntKind.u64.wrap ((IntKind.u64.wrap (t369 * 4294967296)) + t370)) t371)) ≥ 4294967296 then (trammelref01_Div.j1 k1 t323 t341 t344 x13_1 t365 x15_1 4294967295) else (trammelref01_Div.j1 k1 t323 t341 t344 x13_1 t365 x15_1 (IntKind.u64.wrap (Int.tdiv (IntKind.u64.wrap ((IntKind.u64.wrap (t369 * 4294967296)) + t370)) t371)))))) = some (r1, r2, r3) := H
                        have A49 := Aside0.mk A490
                        clear A490
                        replace H := Option.bind_eq_some_iff.mp H
                        obtain ⟨t371, A500, H⟩ := H
                        replace H : (if t371 = 0 then (none) else (if (IntKind.u64.wrap (Int.tdiv (IntKind.u64.wrap ((IntKind.u64.wrap (t369 * 4294967296)) + t370)) t371)) ≥ 4294967296 then (trammelref01_Div.j1 k1 t323 t341 t344 x13_1 t365 x15_1 4294967295) else (trammelref01_Div.j1 k1 t323 t341 t344 x13_1 t365 x15_1 (IntKind.u64.wrap (Int.tdiv (IntKind.u64.wrap ((IntKind.u64.wrap (t369 * 4294967296)) + t370)) t371))))) = some (r1, r2, r3) := H
                        have A50 := Aside0.mk A500
                        clear A500
                        by_cases c51 : t371 = 0
                        · rw [if_pos c51] at H
                          exact absurd H (by simp)
                        · rw [if_neg c51] at H
                          have c51b0 : (t371 == 0) = false := beq_eq_false_iff_ne.mpr c51
                          have c51b1 : (t371 != 0) = true := bne_iff_ne.mpr c51
                          have HC52 := Aside0.mk H
                          clear H
                          have p358 : 0 ≤ (x15_1 : Int) := of_decide_eq_true (by (with_reducible assumption))
                          have q358 : x15_1 < (t341.length : Int) := of_decide_eq_true (by (with_reducible assumption))
                          obtain ⟨ad358, e358, hx358_0⟩ := Kd.at_int (Kd.R_reads' HO_11.out).2.2 x15_1 p358 q358
                          cases e358
                          replace p358 := eq_true p358
                          replace q358 := eq_true q358
                          go_upto_if 95 with (first | ((with_reducible refine gate_dst (N := 69) rfl ?_); refine Kd.R_lit (Kd.int .u32) _ 68 ?hg (N := 69) ?hd (xs := ([rd t341 x15_1] : List Int)) (inner := [.int .u32 (rd t341 x15_1)]) (ok := fun _ => True) (okp := fun _ => True) ?hr ?hp (fun _ hk => hk) trivial (Below.refl _ _) (Nat.le_refl _) (by simp) ?_; (case hd => rfl); (case hg => rfl); (case hr => (go_simp; done)); (case hp => exact (Reps.one (show Kd.M (Kd.int .u32) _ _ _ (rd t341 x15_1) [.int .u32 (rd t341 x15_1)] from rfl) (Reps.none _ _))); intro v360 w53 ho54 hb hg_ hnew_; clear hg_ hnew_; (rw [← Ny359.out] at ho54); have n0_ := Aside0.mk (Kd.R_elder' (by exact HO_7.out) (Kd.R_base ho54) hb); have n1_ := Aside0.mk (Kd.R_elder' (by exact HO_11.out) (Kd.R_base ho54) hb); have n2_ := Aside0.mk (Kd.R_elder' (by exact HO_12.out) (Kd.R_base ho54) hb); have n3_ := Aside0.mk (Kd.R_elder' (by exact HO_13.out) (Kd.R_base ho54) hb); have n4_ := Aside0.mk (Kd.R_elder' (by exact HO_14.out) (Kd.R_base ho54) hb); have n5_ := Aside0.mk (Kd.R_lower (Kd.R_new' (Kd.R_new' (Kd.R_new' (Kd.R_new' (Kd.R_new' ho54 (Kd.R_lt (by exact HO_7.out))) (Kd.R_lt (by exact HO_11.out))) (Kd.R_lt (by exact HO_12.out))) (Kd.R_lt (by exact HO_13.out))) (Kd.R_lt (by exact HO_14.out))) (below_size (by repeat ((with_reducible exact HB.out))))); have n6_ := Aside0.mk (below_step (by repeat ((with_reducible exact HB.out))) hb); clear HO_7; clear HO_11; clear HO_12; clear HO_13; clear HO_14; clear HB; have HO_7 := n0_; have HO_11 := n1_; have HO_12 := n2_; have HO_13 := n3_; have HO_14 := n4_; have HO361 := n5_; have HB := n6_; clear n0_ n1_ n2_ n3_ n4_ n5_ n6_; clear hb ho54; obtain ⟨Ao56, co56, eo56⟩ := Kd.R_slice HO_14.out; subst eo56) | ((with_reducible refine gate_builtin (b := .append) (xs := #[.tmp 69, .tmp 70]) rfl ?_); at_builtin; refine Kd.R_append_rows (Kd.int .u32) (w0 := w) w.heap.size rfl (.tmp 69) (.tmp 70) 22 68 (.int .u32 0) 4 rfl Try.underlying22 info68 rfl (by decide) (by omega) v360 y359 x14_1 _ _ _ (fun k_ => some k_ ≠ (.slice Ao25 t323.length co25 : Value).ownBlock ∧ some k_ ≠ (.slice (some ad358) t341.length co30 : Value).ownBlock ∧ some k_ ≠ (v345 : Value).ownBlock ∧ some k_ ≠ (v348 : Value).ownBlock ∧ some k_ ≠ (.slice Ao56 x14_1.length co56 : Value).ownBlock) (fun _ => False) rfl rfl ?aO ?aR (fun _ _ h => h) (fun _ h => h.elim) ?aF ?aB ?aS ?aL ?_; (case aR => repeat (exact (Kd.R_reads' HO_14.out).2.2)); (case aB => exact (by repeat ((with_reducible exact HB.out)))); (case aF => exact (fun k_ hk => ⟨Kd.fresh' (Kd.R_lt (by exact HO_7.out)) k_ hk, Kd.fresh' (Kd.R_lt (by exact HO_11.out)) k_ hk, Kd.fresh' (Kd.R_lt (by exact HO_12.out)) k_ hk, Kd.fresh' (Kd.R_lt (by exact HO_13.out)) k_ hk, Kd.fresh' (Kd.R_lt (by exact HO_14.out)) k_ hk⟩)); (case aO => exact (by exact Kd.R_mono HO361.out (fun _ hk => ⟨hk.1.1.1.1.2, ⟨hk.1.1.1.2, ⟨hk.1.1.2, ⟨hk.1.2, hk.2⟩⟩⟩⟩))); (case aS => exact (below_size (by repeat ((with_reducible exact HB.out))))); (case aL => have := LMc36.out; omega); intro v363 w55 ho hb hg hat; rw [← Ny362.out] at ho; have n0_ := Aside0.mk (Kd.R_after (ok := (fun k_ => some k_ ≠ (.slice (some ad358) t341.length co30 : Value).ownBlock ∧ some k_ ≠ (v345 : Value).ownBlock ∧ some k_ ≠ (v348 : Value).ownBlock ∧ some k_ ≠ (.slice Ao56 x14_1.length co56 : Value).ownBlock)) (by exact HO_7.out) hg hat); have n1_ := Aside0.mk (Kd.R_after (ok := (fun k_ => some k_ ≠ (.slice Ao25 t323.length co25 : Value).ownBlock ∧ some k_ ≠ (v345 : Value).ownBlock ∧ some k_ ≠ (v348 : Value).ownBlock ∧ some k_ ≠ (.slice Ao56 x14_1.length co56 : Value).ownBlock)) (by exact HO_11.out) hg hat); have n2_ := Aside0.mk (Kd.R_after (ok := (fun k_ => some k_ ≠ (.slice Ao25 t323.length co25 : Value).ownBlock ∧ some k_ ≠ (.slice (some ad358) t341.length co30 : Value).ownBlock ∧ some k_ ≠ (v348 : Value).ownBlock ∧ some k_ ≠ (.slice Ao56 x14_1.length co56 : Value).ownBlock)) (by exact HO_12.out) hg hat); have n3_ := Aside0.mk (Kd.R_after (ok := (fun k_ => some k_ ≠ (.slice Ao25 t323.length co25 : Value).ownBlock ∧ some k_ ≠ (.slice (some ad358) t341.length co30 : Value).ownBlock ∧ some k_ ≠ (v345 : Value).ownBlock ∧ some k_ ≠ (.slice Ao56 x14_1.length co56 : Value).ownBlock)) (by exact HO_13.out) hg hat); have n4_ := Aside0.mk (Kd.R_after (ok := (fun k_ => some k_ ≠ (.slice Ao25 t323.length co25 : Value).ownBlock ∧ some k_ ≠ (.slice (some ad358) t341.length co30 : Value).ownBlock ∧ some k_ ≠ (v345 : Value).ownBlock ∧ some k_ ≠ (v348 : Value).ownBlock)) (by exact HO_14.out) hg hat); have n5_ := Aside0.mk (hb); have n6_ := Aside0.mk (ho); clear HO_7; clear HO_11; clear HO_12; clear HO_13; clear HO_14; clear HB; clear HO361; have HO_7 := n0_; have HO_11 := n1_; have HO_12 := n2_; have HO_13 := n3_; have HO_14 := n4_; have HB := n5_; have HO364 := n6_; clear n0_ n1_ n2_ n3_ n4_ n5_ n6_; clear ho hb hg hat; obtain ⟨Ao57, co57, eo57⟩ := Kd.R_slice HO364.out; subst eo57) | ((with_reducible refine gate_callee (f := 45) rfl ?_); refine goesL_ (some 72) rfl rfl Try.func45 (by kernel_rfl) rfl #[.slice Ao57 y362.length co57] rfl (by (try simp only [List.map_toArray, List.map_cons, List.map_nil]); rfl) ?_; (with_reducible refine (trammelref01_Norm.calls k1 _ _ y362 t365 _ ?side1 ?side2 A37.out).mono ?_); (case side1 => repeat (exact (Kd.R_reads' HO364.out).2.2)); (case side2 => exact (Kd.R_reads' HO364.out).2.1); rintro e w58 ⟨v366, rfl, ho0, hb⟩; refine ⟨_, rfl, ?_⟩; have n0_ := Aside0.mk (Kd.R_elder' (by exact HO_7.out) (Kd.R_base ho0) hb); have n1_ := Aside0.mk (Kd.R_elder' (by exact HO_11.out) (Kd.R_base ho0) hb); have n2_ := Aside0.mk (Kd.R_elder' (by exact HO_12.out) (Kd.R_base ho0) hb); have n3_ := Aside0.mk (Kd.R_elder' (by exact HO_13.out) (Kd.R_base ho0) hb); have n4_ := Aside0.mk (Kd.R_elder' (by exact HO_14.out) (Kd.R_base ho0) hb); have n5_ := Aside0.mk (Kd.R_elder' (by exact HO364.out) (Kd.R_base ho0) hb); have n6_ := Aside0.mk (Kd.R_lower (Kd.R_new' (Kd.R_new' (Kd.R_new' (Kd.R_new' (Kd.R_new' (Kd.R_new' ho0 (Kd.R_lt (by exact HO_7.out))) (Kd.R_lt (by exact HO_11.out))) (Kd.R_lt (by exact HO_12.out))) (Kd.R_lt (by exact HO_13.out))) (Kd.R_lt (by exact HO_14.out))) (Kd.R_lt (by exact HO364.out))) (below_size (by repeat ((with_reducible exact HB.out))))); have n7_ := Aside0.mk (below_step (by repeat ((with_reducible exact HB.out))) hb); clear HO_7; clear HO_11; clear HO_12; clear HO_13; clear HO_14; clear HO364; clear HB; have HO_7 := n0_; have HO_11 := n1_; have HO_12 := n2_; have HO_13 := n3_; have HO_14 := n4_; have HO364 := n5_; have HO367 := n6_; have HB := n7_; clear n0_ n1_ n2_ n3_ n4_ n5_ n6_ n7_; (try clear hb); (try clear ho0); obtain ⟨Ao59, co59, eo59⟩ := Kd.R_slice HO367.out; subst eo59; obtain ⟨Ao60, co60, eo60⟩ := Kd.R_slice HO_12.out; subst eo60) | ((with_reducible refine gate_callee (f := 86) rfl ?_); refine goesL_ (some 75) rfl rfl Try.func86 (by kernel_rfl) rfl #[.slice Ao59 t365.length co59, .slice Ao60 t344.length co60] rfl (by (try simp only [List.map_toArray, List.map_cons, List.map_nil]); rfl) ?_; (with_reducible refine (trammelref01_Cmp.calls k1 _ _ t365 _ _ t344 t368 _ ?side1 ?side2 ?side3 ?side4 A38.out).mono ?_); (case side1 => repeat (exact (Kd.R_reads' HO367.out).2.2)); (case side2 => exact (Kd.R_reads' HO367.out).2.1); (case side3 => repeat (exact (Kd.R_reads' HO_12.out).2.2)); (case side4 => exact (Kd.R_reads' HO_12.out).2.1); rintro e w' ⟨rfl, ⟨nd, rfl⟩⟩; refine ⟨_, rfl, ?_⟩) | ((with_reducible refine gate_callee (f := 87) rfl ?_); refine goesL_ (some 80) rfl rfl Try.func87 (by kernel_rfl) rfl #[.slice Ao59 t365.length co59, .int .i64 (t344.length : Int)] rfl (by (try simp only [List.map_toArray, List.map_cons, List.map_nil]); rfl) ?_; (with_reducible refine (trammelref01_limb.calls _ _ t365 (t344.length : Int) t369 _ ?side1 ?side2 A48.out).mono ?_); (case side1 => repeat (exact (Kd.R_reads' HO367.out).2.2)); (case side2 => exact (Kd.R_reads' HO367.out).2.1); rintro e w' ⟨rfl, ⟨nd, rfl⟩⟩; refine ⟨_, rfl, ?_⟩) | ((with_reducible refine gate_callee (f := 87) rfl ?_); refine goesL_ (some 86) rfl rfl Try.func87 (by kernel_rfl) rfl #[.slice Ao59 t365.length co59, .int .i64 (wrap64 ((t344.length : Int) - 1))] rfl (by (try simp only [List.map_toArray, List.map_cons, List.map_nil]); rfl) ?_; (with_reducible refine (trammelref01_limb.calls _ _ t365 (wrap64 ((t344.length : Int) - 1)) t370 _ ?side1 ?side2 A49.out).mono ?_); (case side1 => repeat (exact (Kd.R_reads' HO367.out).2.2)); (case side2 => exact (Kd.R_reads' HO367.out).2.1); rintro e w' ⟨rfl, ⟨nd, rfl⟩⟩; refine ⟨_, rfl, ?_⟩) | ((with_reducible refine gate_callee (f := 87) rfl ?_); refine goesL_ (some 92) rfl rfl Try.func87 (by kernel_rfl) rfl #[.slice Ao60 t344.length co60, .int .i64 (wrap64 ((t344.length : Int) - 1))] rfl (by (try simp only [List.map_toArray, List.map_cons, List.map_nil]); rfl) ?_; (with_reducible refine (trammelref01_limb.calls _ _ t344 (wrap64 ((t344.length : Int) - 1)) t371 _ ?side1 ?side2 A50.out).mono ?_); (case side1 => repeat (exact (Kd.R_reads' HO_12.out).2.2)); (case side2 => exact (Kd.R_reads' HO_12.out).2.1); rintro e w' ⟨rfl, ⟨nd, rfl⟩⟩; refine ⟨_, rfl, ?_⟩))
                          go_cut [16] (fun v16 wc => ∃ (kq : Nat) (x16_51 : Int), v16 = .int .u64 x16_51 ∧ Aside0 (trammelref01_Div.j1 kq t323 t341 t344 x13_1 t365 x15_1 x16_51 = some (r1, r2, r3)) ∧ Aside0 (kq ≤ k1) ∧ Aside0 (Kd.R (Kd.int .u32) 68 wc w.heap.size (fun k_ => some k_ ≠ ((.slice (some ad358) t341.length co30) : Value).ownBlock ∧ some k_ ≠ ((.slice Ao60 t344.length co60) : Value).ownBlock ∧ some k_ ≠ (v348 : Value).ownBlock ∧ some k_ ≠ ((.slice Ao59 t365.length co59) : Value).ownBlock) (.slice Ao25 t323.length co25) t323) ∧ Aside0 (Kd.R (Kd.int .u32) 68 wc w.heap.size (fun k_ => some k_ ≠ ((.slice Ao25 t323.length co25) : Value).ownBlock ∧ some k_ ≠ ((.slice Ao60 t344.length co60) : Value).ownBlock ∧ some k_ ≠ (v348 : Value).ownBlock ∧ some k_ ≠ ((.slice Ao59 t365.length co59) : Value).ownBlock) (.slice (some ad358) t341.length co30) t341) ∧ Aside0 (Kd.R (Kd.int .u32) 68 wc w.heap.size (fun k_ => some k_ ≠ ((.slice Ao25 t323.length co25) : Value).ownBlock ∧ some k_ ≠ ((.slice (some ad358) t341.length co30) : Value).ownBlock ∧ some k_ ≠ (v348 : Value).ownBlock ∧ some k_ ≠ ((.slice Ao59 t365.length co59) : Value).ownBlock) (.slice Ao60 t344.length co60) t344) ∧ Aside0 (Kd.R (Kd.int .u32) 68 wc w.heap.size (fun k_ => some k_ ≠ ((.slice Ao25 t323.length co25) : Value).ownBlock ∧ some k_ ≠ ((.slice (some ad358) t341.length co30) : Value).ownBlock ∧ some k_ ≠ ((.slice Ao60 t344.length co60) : Value).ownBlock ∧ some k_ ≠ ((.slice Ao59 t365.length co59) : Value).ownBlock) v348 x13_1) ∧ Aside0 (Kd.R (Kd.int .u32) 68 wc w.heap.size (fun k_ => some k_ ≠ ((.slice Ao25 t323.length co25) : Value).ownBlock ∧ some k_ ≠ ((.slice (some ad358) t341.length co30) : Value).ownBlock ∧ some k_ ≠ ((.slice Ao60 t344.length co60) : Value).ownBlock ∧ some k_ ≠ (v348 : Value).ownBlock) (.slice Ao59 t365.length co59) t365) ∧ Aside0 (Below w.heap.size w wc))
                          case first =>
                            have H := HC52.out
                            clear HC52
                            by_cases c61 : (IntKind.u64.wrap (Int.tdiv (IntKind.u64.wrap ((IntKind.u64.wrap (t369 * 4294967296)) + t370)) t371)) ≥ 4294967296
                            · rw [if_pos c61] at H
                              have c61b0 : decide (4294967296 ≤ (IntKind.u64.wrap (Int.tdiv (IntKind.u64.wrap ((IntKind.u64.wrap (t369 * 4294967296)) + t370)) t371))) = true := decide_eq_true c61
                              clear c61
                              (rw [c61b0])
                              have H' := Aside0.mk H
                              clear H
                              go_wp2
                              go_meet
                              case rel => exact ⟨_, (4294967295), (by rfl), (by with_reducible exact H'), ⟨by have := HK1.out; omega⟩, ⟨by (with_reducible repeat (apply Kd.R_drewN)); exact Kd.R_mono HO_7.out (fun _ hk => ⟨hk.1.1.1, ⟨hk.1.1.2.1, ⟨hk.1.1.2.2.1, hk.2⟩⟩⟩)⟩, ⟨by (with_reducible repeat (apply Kd.R_drewN)); exact Kd.R_mono HO_11.out (fun _ hk => ⟨hk.1.1.1, ⟨hk.1.1.2.1, ⟨hk.1.1.2.2.1, hk.2⟩⟩⟩)⟩, ⟨by (with_reducible repeat (apply Kd.R_drewN)); exact Kd.R_mono HO_12.out (fun _ hk => ⟨hk.1.1.1, ⟨hk.1.1.2.1, ⟨hk.1.1.2.2.1, hk.2⟩⟩⟩)⟩, ⟨by (with_reducible repeat (apply Kd.R_drewN)); exact Kd.R_mono HO_13.out (fun _ hk => ⟨hk.1.1.1, ⟨hk.1.1.2.1, ⟨hk.1.1.2.2.1, hk.2⟩⟩⟩)⟩, ⟨by (with_reducible repeat (apply Kd.R_drewN)); exact Kd.R_mono HO367.out (fun _ hk => ⟨hk.1.1.1.1.1.2, ⟨hk.1.1.1.1.2, ⟨hk.1.1.1.2, hk.1.1.2⟩⟩⟩)⟩, ⟨by repeat ((with_reducible first | exact HB.out | apply pw_below_drewN))⟩⟩
                            · rw [if_neg c61] at H
                              have c61b0 : decide (4294967296 ≤ (IntKind.u64.wrap (Int.tdiv (IntKind.u64.wrap ((IntKind.u64.wrap (t369 * 4294967296)) + t370)) t371))) = false := decide_eq_false c61
                              clear c61
                              (rw [c61b0])
                              have H' := Aside0.mk H
                              clear H
                              go_wp2
                              go_meet
                              case rel => exact ⟨_, (IntKind.u64.wrap (Int.tdiv (IntKind.u64.wrap ((IntKind.u64.wrap (t369 * 4294967296)) + t370)) t371)), (by rfl), (by with_reducible exact H'), ⟨by have := HK1.out; omega⟩, ⟨by (with_reducible repeat (apply Kd.R_drewN)); exact Kd.R_mono HO_7.out (fun _ hk => ⟨hk.1.1.1, ⟨hk.1.1.2.1, ⟨hk.1.1.2.2.1, hk.2⟩⟩⟩)⟩, ⟨by (with_reducible repeat (apply Kd.R_drewN)); exact Kd.R_mono HO_11.out (fun _ hk => ⟨hk.1.1.1, ⟨hk.1.1.2.1, ⟨hk.1.1.2.2.1, hk.2⟩⟩⟩)⟩, ⟨by (with_reducible repeat (apply Kd.R_drewN)); exact Kd.R_mono HO_12.out (fun _ hk => ⟨hk.1.1.1, ⟨hk.1.1.2.1, ⟨hk.1.1.2.2.1, hk.2⟩⟩⟩)⟩, ⟨by (with_reducible repeat (apply Kd.R_drewN)); exact Kd.R_mono HO_13.out (fun _ hk => ⟨hk.1.1.1, ⟨hk.1.1.2.1, ⟨hk.1.1.2.2.1, hk.2⟩⟩⟩)⟩, ⟨by (with_reducible repeat (apply Kd.R_drewN)); exact Kd.R_mono HO367.out (fun _ hk => ⟨hk.1.1.1.1.1.2, ⟨hk.1.1.1.1.2, ⟨hk.1.1.1.2, hk.1.1.2⟩⟩⟩)⟩, ⟨by repeat ((with_reducible first | exact HB.out | apply pw_below_drewN))⟩⟩
                          case rest =>
                            clear HC52
                            skip
                            skip
                            skip
                            skip
                            skip
                            skip
                            skip
                            skip
                            skip
                            skip
                            skip
                            skip
                            skip
                            skip
                            skip
                            skip
                            skip
                            skip
                            skip
                            skip
                            skip
                            skip
                            skip
                            skip
                            skip
                            skip
                            skip
                            skip
                            skip
                            skip
                            skip
                            skip
                            try clear c33b0
                            skip
                            try clear c34b0
                            skip
                            try clear c35b0
                            skip
                            skip
                            skip
                            skip
                            skip
                            try clear c39b0
                            skip
                            skip
                            try clear c51
                            try clear c51b0
                            try clear c51b1
                            skip
                            skip
                            skip
                            try clear hx358_0
                            skip
                            skip
                            skip
                            skip
                            try clear p358
                            skip
                            skip
                            skip
                            skip
                            try clear q358
                            obtain ⟨kq, x16_51, rfl, HA, HJ51, HO_7, HO_11, HO_12, HO_13, HO_14, HB⟩ := hcut
                            cases kq with
                            | zero => exact absurd HA.out (by simp [trammelref01_Div.j1])
                            | succ kj51 =>
                              have H := HA.out
                              clear HA
                              simp only [trammelref01_Div.j1] at H
                              obtain ⟨y372, hy372⟩ : ∃ y_ : List Int, y_ = (([(x16_51) % 4294967296] : List Int)) := ⟨_, rfl⟩
                              replace H : ((trammelref01_Mul.f kj51 t344 y372).bind fun t375 => (trammelref01_Div.l1 kj51 t323 t341 t344 x13_1 t365 x15_1 x16_51 t375)) = some (r1, r2, r3) := by (rw [hy372]; with_reducible exact H)
                              have Ny372 := Aside0.mk hy372
                              clear hy372
                              replace H := Option.bind_eq_some_iff.mp H
                              obtain ⟨t375, A620, H⟩ := H
                              replace H : (trammelref01_Div.l1 kj51 t323 t341 t344 x13_1 t365 x15_1 x16_51 t375) = some (r1, r2, r3) := H
                              have A62 := Aside0.mk A620
                              clear A620
                              have H' := Aside0.mk H
                              clear H
                              go_wp2_with (first | ((with_reducible refine gate_dst (N := 99) rfl ?_); refine Kd.R_lit (Kd.int .u32) _ 68 ?hg (N := 99) ?hd (xs := ([(x16_51) % 4294967296] : List Int)) (inner := [.int .u32 ((x16_51) % 4294967296)]) (ok := fun _ => True) (okp := fun _ => True) ?hr ?hp (fun _ hk => hk) trivial (Below.refl _ _) (Nat.le_refl _) (by simp) ?_; (case hd => rfl); (case hg => rfl); (case hr => (go_simp; done)); (case hp => exact (Reps.one (show Kd.M (Kd.int .u32) _ _ _ ((x16_51) % 4294967296) [.int .u32 ((x16_51) % 4294967296)] from rfl) (Reps.none _ _))); intro v373 w63 ho64 hb hg_ hnew_; clear hg_ hnew_; (rw [← Ny372.out] at ho64); have n0_ := Aside0.mk (Kd.R_elder' (by exact HO_7.out) (Kd.R_base ho64) hb); have n1_ := Aside0.mk (Kd.R_elder' (by exact HO_11.out) (Kd.R_base ho64) hb); have n2_ := Aside0.mk (Kd.R_elder' (by exact HO_12.out) (Kd.R_base ho64) hb); have n3_ := Aside0.mk (Kd.R_elder' (by exact HO_13.out) (Kd.R_base ho64) hb); have n4_ := Aside0.mk (Kd.R_elder' (by exact HO_14.out) (Kd.R_base ho64) hb); have n5_ := Aside0.mk (Kd.R_lower (Kd.R_new' (Kd.R_new' (Kd.R_new' (Kd.R_new' (Kd.R_new' ho64 (Kd.R_lt (by exact HO_7.out))) (Kd.R_lt (by exact HO_11.out))) (Kd.R_lt (by exact HO_12.out))) (Kd.R_lt (by exact HO_13.out))) (Kd.R_lt (by exact HO_14.out))) (below_size (by repeat ((with_reducible exact HB.out))))); have n6_ := Aside0.mk (below_step (by repeat ((with_reducible exact HB.out))) hb); clear HO_7; clear HO_11; clear HO_12; clear HO_13; clear HO_14; clear HB; have HO_7 := n0_; have HO_11 := n1_; have HO_12 := n2_; have HO_13 := n3_; have HO_14 := n4_; have HO374 := n5_; have HB := n6_; clear n0_ n1_ n2_ n3_ n4_ n5_ n6_; clear hb ho64; obtain ⟨Ao65, co65, eo65⟩ := Kd.R_slice HO374.out; subst eo65) | ((with_reducible refine gate_callee (f := 85) rfl ?_); refine goesL_ (some 100) rfl rfl Try.func85 (by kernel_rfl) rfl #[.slice Ao60 t344.length co60, .slice Ao65 y372.length co65] rfl (by (try simp only [List.map_toArray, List.map_cons, List.map_nil]); rfl) ?_; (with_reducible refine (trammelref01_Mul.calls kj51 _ _ t344 _ _ y372 t375 _ ?side1 ?side2 ?side3 ?side4 A62.out).mono ?_); (case side1 => repeat (exact (Kd.R_reads' HO_12.out).2.2)); (case side2 => exact (Kd.R_reads' HO_12.out).2.1); (case side3 => repeat (exact (Kd.R_reads' HO374.out).2.2)); (case side4 => exact (Kd.R_reads' HO374.out).2.1); rintro e w66 ⟨v376, rfl, ho0, hb⟩; refine ⟨_, rfl, ?_⟩; have n0_ := Aside0.mk (Kd.R_elder' (by exact HO_7.out) (Kd.R_base ho0) hb); have n1_ := Aside0.mk (Kd.R_elder' (by exact HO_11.out) (Kd.R_base ho0) hb); have n2_ := Aside0.mk (Kd.R_elder' (by exact HO_12.out) (Kd.R_base ho0) hb); have n3_ := Aside0.mk (Kd.R_elder' (by exact HO_13.out) (Kd.R_base ho0) hb); have n4_ := Aside0.mk (Kd.R_elder' (by exact HO_14.out) (Kd.R_base ho0) hb); have n5_ := Aside0.mk (Kd.R_elder' (by exact HO374.out) (Kd.R_base ho0) hb); have n6_ := Aside0.mk (Kd.R_lower (Kd.R_new' (Kd.R_new' (Kd.R_new' (Kd.R_new' (Kd.R_new' (Kd.R_new' ho0 (Kd.R_lt (by exact HO_7.out))) (Kd.R_lt (by exact HO_11.out))) (Kd.R_lt (by exact HO_12.out))) (Kd.R_lt (by exact HO_13.out))) (Kd.R_lt (by exact HO_14.out))) (Kd.R_lt (by exact HO374.out))) (below_size (by repeat ((with_reducible exact HB.out))))); have n7_ := Aside0.mk (below_step (by repeat ((with_reducible exact HB.out))) hb); clear HO_7; clear HO_11; clear HO_12; clear HO_13; clear HO_14; clear HO374; clear HB; have HO_7 := n0_; have HO_11 := n1_; have HO_12 := n2_; have HO_13 := n3_; have HO_14 := n4_; have HO374 := n5_; have HO377 := n6_; have HB := n7_; clear n0_ n1_ n2_ n3_ n4_ n5_ n6_ n7_; (try clear hb); (try clear ho0)))
                              go_loopg [16, 17] kj51 (fun kq v16 v17 w' => ∃ (x16_3 : Int) (x17_3 : List Int), v16 = .int .u64 x16_3 ∧ Aside0 (trammelref01_Div.l1 kq t323 t341 t344 x13_1 t365 x15_1 x16_3 x17_3 = some (r1, r2, r3)) ∧ Aside0 (kq ≤ kj51) ∧ Aside0 (Kd.R (Kd.int .u32) 68 w' w.heap.size (fun k_ => some k_ ≠ ((.slice (some ad358) t341.length co30) : Value).ownBlock ∧ some k_ ≠ ((.slice Ao60 t344.length co60) : Value).ownBlock ∧ some k_ ≠ (v348 : Value).ownBlock ∧ some k_ ≠ ((.slice Ao59 t365.length co59) : Value).ownBlock ∧ some k_ ≠ (v17 : Value).ownBlock) (.slice Ao25 t323.length co25) t323) ∧ Aside0 (Kd.R (Kd.int .u32) 68 w' w.heap.size (fun k_ => some k_ ≠ ((.slice Ao25 t323.length co25) : Value).ownBlock ∧ some k_ ≠ ((.slice Ao60 t344.length co60) : Value).ownBlock ∧ some k_ ≠ (v348 : Value).ownBlock ∧ some k_ ≠ ((.slice Ao59 t365.length co59) : Value).ownBlock ∧ some k_ ≠ (v17 : Value).ownBlock) (.slice (some ad358) t341.length co30) t341) ∧ Aside0 (Kd.R (Kd.int .u32) 68 w' w.heap.size (fun k_ => some k_ ≠ ((.slice Ao25 t323.length co25) : Value).ownBlock ∧ some k_ ≠ ((.slice (some ad358) t341.length co30) : Value).ownBlock ∧ some k_ ≠ (v348 : Value).ownBlock ∧ some k_ ≠ ((.slice Ao59 t365.length co59) : Value).ownBlock ∧ some k_ ≠ (v17 : Value).ownBlock) (.slice Ao60 t344.length co60) t344) ∧ Aside0 (Kd.R (Kd.int .u32) 68 w' w.heap.size (fun k_ => some k_ ≠ ((.slice Ao25 t323.length co25) : Value).ownBlock ∧ some k_ ≠ ((.slice (some ad358) t341.length co30) : Value).ownBlock ∧ some k_ ≠ ((.slice Ao60 t344.length co60) : Value).ownBlock ∧ some k_ ≠ ((.slice Ao59 t365.length co59) : Value).ownBlock ∧ some k_ ≠ (v17 : Value).ownBlock) v348 x13_1) ∧ Aside0 (Kd.R (Kd.int .u32) 68 w' w.heap.size (fun k_ => some k_ ≠ ((.slice Ao25 t323.length co25) : Value).ownBlock ∧ some k_ ≠ ((.slice (some ad358) t341.length co30) : Value).ownBlock ∧ some k_ ≠ ((.slice Ao60 t344.length co60) : Value).ownBlock ∧ some k_ ≠ (v348 : Value).ownBlock ∧ some k_ ≠ (v17 : Value).ownBlock) (.slice Ao59 t365.length co59) t365) ∧ Aside0 (Kd.R (Kd.int .u32) 68 w' w.heap.size (fun k_ => some k_ ≠ ((.slice Ao25 t323.length co25) : Value).ownBlock ∧ some k_ ≠ ((.slice (some ad358) t341.length co30) : Value).ownBlock ∧ some k_ ≠ ((.slice Ao60 t344.length co60) : Value).ownBlock ∧ some k_ ≠ (v348 : Value).ownBlock ∧ some k_ ≠ ((.slice Ao59 t365.length co59) : Value).ownBlock) v17 x17_3) ∧ Aside0 (Below w.heap.size w w'))
                              case atStart => exact ⟨(x16_51), (t375), (by rfl), H', ⟨Nat.le_refl _⟩, ⟨by exact Kd.R_mono HO_7.out (fun _ hk => ⟨hk.1.1.1, ⟨hk.1.1.2.1, ⟨hk.1.1.2.2.1, ⟨hk.1.1.2.2.2, hk.2⟩⟩⟩⟩)⟩, ⟨by exact Kd.R_mono HO_11.out (fun _ hk => ⟨hk.1.1.1, ⟨hk.1.1.2.1, ⟨hk.1.1.2.2.1, ⟨hk.1.1.2.2.2, hk.2⟩⟩⟩⟩)⟩, ⟨by exact Kd.R_mono HO_12.out (fun _ hk => ⟨hk.1.1.1, ⟨hk.1.1.2.1, ⟨hk.1.1.2.2.1, ⟨hk.1.1.2.2.2, hk.2⟩⟩⟩⟩)⟩, ⟨by exact Kd.R_mono HO_13.out (fun _ hk => ⟨hk.1.1.1, ⟨hk.1.1.2.1, ⟨hk.1.1.2.2.1, ⟨hk.1.1.2.2.2, hk.2⟩⟩⟩⟩)⟩, ⟨by exact Kd.R_mono HO_14.out (fun _ hk => ⟨hk.1.1.1, ⟨hk.1.1.2.1, ⟨hk.1.1.2.2.1, ⟨hk.1.1.2.2.2, hk.2⟩⟩⟩⟩)⟩, ⟨by exact Kd.R_mono HO377.out (fun _ hk => ⟨hk.1.1.1.1.1.2, ⟨hk.1.1.1.1.2, ⟨hk.1.1.1.2, ⟨hk.1.1.2, hk.1.2⟩⟩⟩⟩)⟩, ⟨by repeat ((with_reducible exact HB.out))⟩⟩
                              case round =>
                                clear H'
                                skip
                                skip
                                skip
                                skip
                                skip
                                skip
                                skip
                                skip
                                skip
                                skip
                                skip
                                skip
                                skip
                                skip
                                skip
                                skip
                                skip
                                skip
                                skip
                                skip
                                skip
                                skip
                                skip
                                skip
                                skip
                                skip
                                skip
                                skip
                                skip
                                skip
                                skip
                                skip
                                skip
                                skip
                                skip
                                skip
                                skip
                                skip
                                skip
                                skip
                                skip
                                skip
                                skip
                                skip
                                skip
                                skip
                                skip
                                skip
                                skip
                                skip
                                skip
                                skip
                                skip
                                skip
                                skip
                                skip
                                skip
                                skip
                                skip
                                skip
                                skip
                                skip
                                skip
                                skip
                                skip
                                obtain ⟨x16_3, x17_3, rfl, HA, HK3, HO_7, HO_11, HO_12, HO_13, HO_14, HO_17, HB⟩ := hrel
                                cases gk with
                                | zero => exact absurd HA.out (by simp [trammelref01_Div.l1])
                                | succ k3 =>
                                  have H := HA.out
                                  clear HA
                                  simp only [trammelref01_Div.l1] at H
                                  replace H := Option.bind_eq_some_iff.mp H
                                  obtain ⟨t378, A670, H⟩ := H
                                  replace H : (if t378 > 0 then ((trammelref01_less.f k3 x17_3 t344).bind fun t379 => (trammelref01_Div.l1 k3 t323 t341 t344 x13_1 t365 x15_1 (IntKind.u64.wrap (x16_3 - 1)) t379)) else (if 0 ≤ x15_1 then (if x15_1 < (x13_1.length : Int) then ((trammelref01_less.f k3 t365 x17_3).bind fun t383 => (trammelref01_Div.l0 k3 t323 t341 t344 (x13_1.set (x15_1 : Int).toNat ((x16_3) % 4294967296)) t383 (wrap64 (x15_1 - 1)))) else (none)) else (none))) = some (r1, r2, r3) := H
                                  have A67 := Aside0.mk A670
                                  clear A670
                                  by_cases c68 : t378 > 0
                                  · rw [if_pos c68] at H
                                    have c68b0 : decide (0 < t378) = true := decide_eq_true c68
                                    clear c68
                                    replace H := Option.bind_eq_some_iff.mp H
                                    obtain ⟨t379, A690, H⟩ := H
                                    replace H : (trammelref01_Div.l1 k3 t323 t341 t344 x13_1 t365 x15_1 (IntKind.u64.wrap (x16_3 - 1)) t379) = some (r1, r2, r3) := H
                                    have A69 := Aside0.mk A690
                                    clear A690
                                    have H' := Aside0.mk H
                                    clear H
                                    obtain ⟨Ao70, co70, eo70⟩ := Kd.R_slice HO_17.out
                                    subst eo70
                                    go_wp2_with (first | ((with_reducible refine gate_callee (f := 86) rfl ?_); refine goesL_ (some 103) rfl rfl Try.func86 (by kernel_rfl) rfl #[.slice Ao70 x17_3.length co70, .slice Ao59 t365.length co59] rfl (by (try simp only [List.map_toArray, List.map_cons, List.map_nil]); rfl) ?_; (with_reducible refine (trammelref01_Cmp.calls k3 _ _ x17_3 _ _ t365 t378 _ ?side1 ?side2 ?side3 ?side4 A67.out).mono ?_); (case side1 => repeat (exact (Kd.R_reads' HO_17.out).2.2)); (case side2 => exact (Kd.R_reads' HO_17.out).2.1); (case side3 => repeat (exact (Kd.R_reads' HO_14.out).2.2)); (case side4 => exact (Kd.R_reads' HO_14.out).2.1); rintro e w' ⟨rfl, ⟨nd, rfl⟩⟩; refine ⟨_, rfl, ?_⟩) | ((with_reducible refine gate_callee (f := 88) rfl ?_); refine goesL_ (some 109) rfl rfl Try.func88 (by kernel_rfl) rfl #[.slice Ao70 x17_3.length co70, .slice Ao60 t344.length co60] rfl (by (try simp only [List.map_toArray, List.map_cons, List.map_nil]); rfl) ?_; (with_reducible refine (trammelref01_less.calls k3 _ _ x17_3 _ _ t344 t379 _ ?side1 ?side2 ?side3 ?side4 A69.out).mono ?_); (case side1 => repeat (exact (Kd.R_reads' HO_17.out).2.2)); (case side2 => exact (Kd.R_reads' HO_17.out).2.1); (case side3 => repeat (exact (Kd.R_reads' HO_12.out).2.2)); (case side4 => exact (Kd.R_reads' HO_12.out).2.1); rintro e w71 ⟨v380, rfl, ho0, hb⟩; refine ⟨_, rfl, ?_⟩; have n0_ := Aside0.mk (Kd.R_elder' (by (with_reducible repeat (apply Kd.R_drewN)); exact HO_7.out) (Kd.R_base ho0) hb); have n1_ := Aside0.mk (Kd.R_elder' (by (with_reducible repeat (apply Kd.R_drewN)); exact HO_11.out) (Kd.R_base ho0) hb); have n2_ := Aside0.mk (Kd.R_elder' (by (with_reducible repeat (apply Kd.R_drewN)); exact HO_12.out) (Kd.R_base ho0) hb); have n3_ := Aside0.mk (Kd.R_elder' (by (with_reducible repeat (apply Kd.R_drewN)); exact HO_13.out) (Kd.R_base ho0) hb); have n4_ := Aside0.mk (Kd.R_elder' (by (with_reducible repeat (apply Kd.R_drewN)); exact HO_14.out) (Kd.R_base ho0) hb); have n5_ := Aside0.mk (Kd.R_elder' (by (with_reducible repeat (apply Kd.R_drewN)); exact HO_17.out) (Kd.R_base ho0) hb); have n6_ := Aside0.mk (Kd.R_lower (Kd.R_new' (Kd.R_new' (Kd.R_new' (Kd.R_new' (Kd.R_new' (Kd.R_new' ho0 (Kd.R_lt (by (with_reducible repeat (apply Kd.R_drewN)); exact HO_7.out))) (Kd.R_lt (by (with_reducible repeat (apply Kd.R_drewN)); exact HO_11.out))) (Kd.R_lt (by (with_reducible repeat (apply Kd.R_drewN)); exact HO_12.out))) (Kd.R_lt (by (with_reducible repeat (apply Kd.R_drewN)); exact HO_13.out))) (Kd.R_lt (by (with_reducible repeat (apply Kd.R_drewN)); exact HO_14.out))) (Kd.R_lt (by (with_reducible repeat (apply Kd.R_drewN)); exact HO_17.out))) (below_size (by repeat ((with_reducible first | exact HB.out | apply pw_below_drewN))))); have n7_ := Aside0.mk (below_step (by repeat ((with_reducible first | exact HB.out | apply pw_below_drewN))) hb); clear HO_7; clear HO_11; clear HO_12; clear HO_13; clear HO_14; clear HO_17; clear HB; have HO_7 := n0_; have HO_11 := n1_; have HO_12 := n2_; have HO_13 := n3_; have HO_14 := n4_; have HO_17 := n5_; have HO381 := n6_; have HB := n7_; clear n0_ n1_ n2_ n3_ n4_ n5_ n6_ n7_; (try clear hb); (try clear ho0)))
                                    go_roundg k3
                                    case measure => have := HK1.out; have := HJ51.out; have := HK3.out; omega
                                    case rel => exact ⟨(IntKind.u64.wrap (x16_3 - 1)), (t379), (by rfl), (by with_reducible exact H'), ⟨by have := HK1.out; have := HJ51.out; have := HK3.out; omega⟩, ⟨by exact Kd.R_mono HO_7.out (fun _ hk => ⟨hk.1.1, ⟨hk.1.2.1, ⟨hk.1.2.2.1, ⟨hk.1.2.2.2.1, hk.2⟩⟩⟩⟩)⟩, ⟨by exact Kd.R_mono HO_11.out (fun _ hk => ⟨hk.1.1, ⟨hk.1.2.1, ⟨hk.1.2.2.1, ⟨hk.1.2.2.2.1, hk.2⟩⟩⟩⟩)⟩, ⟨by exact Kd.R_mono HO_12.out (fun _ hk => ⟨hk.1.1, ⟨hk.1.2.1, ⟨hk.1.2.2.1, ⟨hk.1.2.2.2.1, hk.2⟩⟩⟩⟩)⟩, ⟨by exact Kd.R_mono HO_13.out (fun _ hk => ⟨hk.1.1, ⟨hk.1.2.1, ⟨hk.1.2.2.1, ⟨hk.1.2.2.2.1, hk.2⟩⟩⟩⟩)⟩, ⟨by exact Kd.R_mono HO_14.out (fun _ hk => ⟨hk.1.1, ⟨hk.1.2.1, ⟨hk.1.2.2.1, ⟨hk.1.2.2.2.1, hk.2⟩⟩⟩⟩)⟩, ⟨by exact Kd.R_mono HO381.out (fun _ hk => ⟨hk.1.1.1.1.1.2, ⟨hk.1.1.1.1.2, ⟨hk.1.1.1.2, ⟨hk.1.1.2, hk.1.2⟩⟩⟩⟩)⟩, ⟨by repeat ((with_reducible exact HB.out))⟩⟩
                                  · rw [if_neg c68] at H
                                    have c68b0 : decide (0 < t378) = false := decide_eq_false c68
                                    clear c68
                                    by_cases c72 : 0 ≤ x15_1
                                    · rw [if_pos c72] at H
                                      have c72b0 : decide (0 ≤ x15_1) = true := decide_eq_true c72
                                      clear c72
                                      by_cases c73 : x15_1 < (x13_1.length : Int)
                                      · rw [if_pos c73] at H
                                        have c73b0 : decide (x15_1 < (x13_1.length : Int)) = true := decide_eq_true c73
                                        clear c73
                                        obtain ⟨y382, hy382⟩ : ∃ y_ : List Int, y_ = (x13_1.set (x15_1 : Int).toNat ((x16_3) % 4294967296)) := ⟨_, rfl⟩
                                        replace H : ((trammelref01_less.f k3 t365 x17_3).bind fun t383 => (trammelref01_Div.l0 k3 t323 t341 t344 y382 t383 (wrap64 (x15_1 - 1)))) = some (r1, r2, r3) := by (rw [hy382]; with_reducible exact H)
                                        have Ny382 := Aside0.mk hy382
                                        clear hy382
                                        replace H := Option.bind_eq_some_iff.mp H
                                        obtain ⟨t383, A750, H⟩ := H
                                        replace H : (trammelref01_Div.l0 k3 t323 t341 t344 y382 t383 (wrap64 (x15_1 - 1))) = some (r1, r2, r3) := H
                                        have A75 := Aside0.mk A750
                                        clear A750
                                        have H' := Aside0.mk H
                                        clear H
                                        obtain ⟨Ao76, co76, eo76⟩ := Kd.R_slice HO_17.out
                                        subst eo76
                                        go_wp2_with (first | ((with_reducible refine gate_callee (f := 86) rfl ?_); refine goesL_ (some 103) rfl rfl Try.func86 (by kernel_rfl) rfl #[.slice Ao76 x17_3.length co76, .slice Ao59 t365.length co59] rfl (by (try simp only [List.map_toArray, List.map_cons, List.map_nil]); rfl) ?_; (with_reducible refine (trammelref01_Cmp.calls k3 _ _ x17_3 _ _ t365 t378 _ ?side1 ?side2 ?side3 ?side4 A67.out).mono ?_); (case side1 => repeat (exact (Kd.R_reads' HO_17.out).2.2)); (case side2 => exact (Kd.R_reads' HO_17.out).2.1); (case side3 => repeat (exact (Kd.R_reads' HO_14.out).2.2)); (case side4 => exact (Kd.R_reads' HO_14.out).2.1); rintro e w' ⟨rfl, ⟨nd, rfl⟩⟩; refine ⟨_, rfl, ?_⟩; (try (rw [drewN_self wr]; generalize hq_ : World.drewN wr _ = wr; have n0_ : Aside0 (Kd.R (Kd.int .u32) 68 wr w.heap.size (fun k_ => some k_ ≠ (.slice Ao60 t344.length co60 : Value).ownBlock ∧ some k_ ≠ (v348 : Value).ownBlock ∧ some k_ ≠ (.slice Ao59 t365.length co59 : Value).ownBlock ∧ some k_ ≠ (.slice Ao76 x17_3.length co76 : Value).ownBlock ∧ some k_ ≠ (.slice Ao25 t323.length co25 : Value).ownBlock) (.slice (some ad358) t341.length co30) t341) := ⟨by rw [← hq_]; exact (by (with_reducible repeat (apply Kd.R_drewN)); exact Kd.R_mono HO_11.out (fun _ hk => by exact ⟨hk.2.1, ⟨hk.2.2.1, ⟨hk.2.2.2.1, ⟨hk.2.2.2.2, hk.1⟩⟩⟩⟩))⟩; have n1_ : Aside0 (Kd.R (Kd.int .u32) 68 wr w.heap.size (fun k_ => some k_ ≠ (.slice (some ad358) t341.length co30 : Value).ownBlock ∧ some k_ ≠ (v348 : Value).ownBlock ∧ some k_ ≠ (.slice Ao59 t365.length co59 : Value).ownBlock ∧ some k_ ≠ (.slice Ao76 x17_3.length co76 : Value).ownBlock ∧ some k_ ≠ (.slice Ao25 t323.length co25 : Value).ownBlock) (.slice Ao60 t344.length co60) t344) := ⟨by rw [← hq_]; exact (by (with_reducible repeat (apply Kd.R_drewN)); exact Kd.R_mono HO_12.out (fun _ hk => by exact ⟨hk.2.1, ⟨hk.2.2.1, ⟨hk.2.2.2.1, ⟨hk.2.2.2.2, hk.1⟩⟩⟩⟩))⟩; have n2_ : Aside0 (Kd.R (Kd.int .u32) 68 wr w.heap.size (fun k_ => some k_ ≠ (.slice (some ad358) t341.length co30 : Value).ownBlock ∧ some k_ ≠ (.slice Ao60 t344.length co60 : Value).ownBlock ∧ some k_ ≠ (.slice Ao59 t365.length co59 : Value).ownBlock ∧ some k_ ≠ (.slice Ao76 x17_3.length co76 : Value).ownBlock ∧ some k_ ≠ (.slice Ao25 t323.length co25 : Value).ownBlock) v348 x13_1) := ⟨by rw [← hq_]; exact (by (with_reducible repeat (apply Kd.R_drewN)); exact Kd.R_mono HO_13.out (fun _ hk => by exact ⟨hk.2.1, ⟨hk.2.2.1, ⟨hk.2.2.2.1, ⟨hk.2.2.2.2, hk.1⟩⟩⟩⟩))⟩; have n3_ : Aside0 (Kd.R (Kd.int .u32) 68 wr w.heap.size (fun k_ => some k_ ≠ (.slice (some ad358) t341.length co30 : Value).ownBlock ∧ some k_ ≠ (.slice Ao60 t344.length co60 : Value).ownBlock ∧ some k_ ≠ (v348 : Value).ownBlock ∧ some k_ ≠ (.slice Ao76 x17_3.length co76 : Value).ownBlock ∧ some k_ ≠ (.slice Ao25 t323.length co25 : Value).ownBlock) (.slice Ao59 t365.length co59) t365) := ⟨by rw [← hq_]; exact (by (with_reducible repeat (apply Kd.R_drewN)); exact Kd.R_mono HO_14.out (fun _ hk => by exact ⟨hk.2.1, ⟨hk.2.2.1, ⟨hk.2.2.2.1, ⟨hk.2.2.2.2, hk.1⟩⟩⟩⟩))⟩; have n4_ : Aside0 (Kd.R (Kd.int .u32) 68 wr w.heap.size (fun k_ => some k_ ≠ (.slice (some ad358) t341.length co30 : Value).ownBlock ∧ some k_ ≠ (.slice Ao60 t344.length co60 : Value).ownBlock ∧ some k_ ≠ (v348 : Value).ownBlock ∧ some k_ ≠ (.slice Ao59 t365.length co59 : Value).ownBlock ∧ some k_ ≠ (.slice Ao25 t323.length co25 : Value).ownBlock) (.slice Ao76 x17_3.length co76) x17_3) := ⟨by rw [← hq_]; exact (by (with_reducible repeat (apply Kd.R_drewN)); exact Kd.R_mono HO_17.out (fun _ hk => by exact ⟨hk.2.1, ⟨hk.2.2.1, ⟨hk.2.2.2.1, ⟨hk.2.2.2.2, hk.1⟩⟩⟩⟩))⟩; have n5_ : Aside0 (Kd.R (Kd.int .u32) 68 wr w.heap.size (fun k_ => some k_ ≠ (.slice (some ad358) t341.length co30 : Value).ownBlock ∧ some k_ ≠ (.slice Ao60 t344.length co60 : Value).ownBlock ∧ some k_ ≠ (v348 : Value).ownBlock ∧ some k_ ≠ (.slice Ao59 t365.length co59 : Value).ownBlock ∧ some k_ ≠ (.slice Ao76 x17_3.length co76 : Value).ownBlock) (.slice Ao25 t323.length co25) t323) := ⟨by rw [← hq_]; exact (by (with_reducible repeat (apply Kd.R_drewN)); exact HO_7.out)⟩; have n6_ : Aside0 (Below w.heap.size w wr) := ⟨by rw [← hq_]; exact (by repeat ((with_reducible first | exact HB.out | apply pw_below_drewN)))⟩; clear HO_11 HO_12 HO_13 HO_14 HO_17 HO_7 HB hq_; have HO_11 := n0_; have HO_12 := n1_; have HO_13 := n2_; have HO_14 := n3_; have HO_17 := n4_; have HO_7 := n5_; have HB := n6_; clear n0_ n1_ n2_ n3_ n4_ n5_ n6_)); have p74 : 0 ≤ (x15_1 : Int) := of_decide_eq_true (by (with_reducible assumption)); have q74 : (x15_1 : Int) < ((x13_1.length : Int) : Int) := of_decide_eq_true (by (with_reducible assumption)); obtain ⟨go74, co74, eo74, gb74, gl74, cl74, HG74⟩ := Kd.R_form HO_13.out (by omega); (cases eo74); have GB74 := Aside0.mk gb74; have GG74 := Aside0.mk HG74; clear gb74 gl74 HG74; obtain ⟨hx74_0, hf74_0⟩ := Kd.R_celln 0 HO_13.out (x15_1 : Int) p74 q74; replace p74 := eq_true p74; replace q74 := eq_true q74; obtain ⟨hy77_, hz77_⟩ := Kd.R_celln 0 HO_13.out (x15_1 : Int) (of_decide_eq_true (by (with_reducible assumption))) (of_decide_eq_true (by (with_reducible assumption))); have HP77 := Kd.R_putg HO_13.out (x15_1 : Int) ((x16_3) % 4294967296)) | ((with_reducible refine gate_store (t := 68) (p := 114) rfl ?_); refine store_event (t := 68) (p := 114) (v := ?vo_w78) (w1 := (wr.setCell ⟨go74, (x15_1 : Int).toNat, none⟩ (.int .u32 ((x16_3) % 4294967296)))) ?hg ?ho ?hn ?hr ?_; (case ho => rfl); (case hg => rfl); (case hn => rfl); (case hr => (go_simp; done)); intro w78 hw; have hg : wr.grownBy w78 (some go74) := (by rw [hw]; exact HP77.2); have hp_ : Kd.R (Kd.int .u32) 68 w78 w.heap.size (fun k_ => some k_ ≠ (.slice Ao25 t323.length co25 : Value).ownBlock ∧ some k_ ≠ (.slice (some ad358) t341.length co30 : Value).ownBlock ∧ some k_ ≠ (.slice Ao60 t344.length co60 : Value).ownBlock ∧ some k_ ≠ (.slice Ao59 t365.length co59 : Value).ownBlock ∧ some k_ ≠ (.slice Ao76 x17_3.length co76 : Value).ownBlock) (.slice (some ⟨go74, 0, none⟩) x13_1.length co74) y382 := (by rw [hw, Ny382.out]; exact Kd.R_mono HP77.1 (fun k_ hk => by and_intros <;> (first | exact hk.1 | exact hk.2.1 | exact hk.2.2.1 | exact hk.2.2.2.1 | exact hk.2.2.2.2))); clear HP77; have n0_ := Aside0.mk (Kd.R_after (v := (.slice (some ⟨go74, 0, none⟩) x13_1.length co74)) (v1 := (.slice (some ⟨go74, 0, none⟩) x13_1.length co74)) (ok := (fun k_ => some k_ ≠ (.slice (some ad358) t341.length co30 : Value).ownBlock ∧ some k_ ≠ (.slice Ao60 t344.length co60 : Value).ownBlock ∧ some k_ ≠ (.slice Ao59 t365.length co59 : Value).ownBlock ∧ some k_ ≠ (.slice Ao76 x17_3.length co76 : Value).ownBlock)) (by exact Kd.R_mono HO_7.out (fun _ hk => by exact ⟨⟨hk.1, ⟨hk.2.1, ⟨hk.2.2.2.1, hk.2.2.2.2⟩⟩⟩, hk.2.2.1⟩)) hg (.inl rfl)); have n1_ := Aside0.mk (Kd.R_after (v := (.slice (some ⟨go74, 0, none⟩) x13_1.length co74)) (v1 := (.slice (some ⟨go74, 0, none⟩) x13_1.length co74)) (ok := (fun k_ => some k_ ≠ (.slice Ao25 t323.length co25 : Value).ownBlock ∧ some k_ ≠ (.slice Ao60 t344.length co60 : Value).ownBlock ∧ some k_ ≠ (.slice Ao59 t365.length co59 : Value).ownBlock ∧ some k_ ≠ (.slice Ao76 x17_3.length co76 : Value).ownBlock)) (by exact Kd.R_mono HO_11.out (fun _ hk => by (and_intros <;> (first | exact hk.1 | exact hk.2.1 | exact hk.2.2.1 | exact hk.2.2.2.1 | exact hk.2.2.2.2)))) hg (.inl rfl)); have n2_ := Aside0.mk (Kd.R_after (v := (.slice (some ⟨go74, 0, none⟩) x13_1.length co74)) (v1 := (.slice (some ⟨go74, 0, none⟩) x13_1.length co74)) (ok := (fun k_ => some k_ ≠ (.slice Ao25 t323.length co25 : Value).ownBlock ∧ some k_ ≠ (.slice (some ad358) t341.length co30 : Value).ownBlock ∧ some k_ ≠ (.slice Ao59 t365.length co59 : Value).ownBlock ∧ some k_ ≠ (.slice Ao76 x17_3.length co76 : Value).ownBlock)) (by exact Kd.R_mono HO_12.out (fun _ hk => by (and_intros <;> (first | exact hk.1 | exact hk.2.1 | exact hk.2.2.1 | exact hk.2.2.2.1 | exact hk.2.2.2.2)))) hg (.inl rfl)); have n3_ := Aside0.mk (hp_); have n4_ := Aside0.mk (Kd.R_after (v := (.slice (some ⟨go74, 0, none⟩) x13_1.length co74)) (v1 := (.slice (some ⟨go74, 0, none⟩) x13_1.length co74)) (ok := (fun k_ => some k_ ≠ (.slice Ao25 t323.length co25 : Value).ownBlock ∧ some k_ ≠ (.slice (some ad358) t341.length co30 : Value).ownBlock ∧ some k_ ≠ (.slice Ao60 t344.length co60 : Value).ownBlock ∧ some k_ ≠ (.slice Ao76 x17_3.length co76 : Value).ownBlock)) (by exact Kd.R_mono HO_14.out (fun _ hk => by (and_intros <;> (first | exact hk.1 | exact hk.2.1 | exact hk.2.2.1 | exact hk.2.2.2.1 | exact hk.2.2.2.2)))) hg (.inl rfl)); have n5_ := Aside0.mk (Kd.R_after (v := (.slice (some ⟨go74, 0, none⟩) x13_1.length co74)) (v1 := (.slice (some ⟨go74, 0, none⟩) x13_1.length co74)) (ok := (fun k_ => some k_ ≠ (.slice Ao25 t323.length co25 : Value).ownBlock ∧ some k_ ≠ (.slice (some ad358) t341.length co30 : Value).ownBlock ∧ some k_ ≠ (.slice Ao60 t344.length co60 : Value).ownBlock ∧ some k_ ≠ (.slice Ao59 t365.length co59 : Value).ownBlock)) (by exact Kd.R_mono HO_17.out (fun _ hk => by (and_intros <;> (first | exact hk.1 | exact hk.2.1 | exact hk.2.2.1 | exact hk.2.2.2.1 | exact hk.2.2.2.2)))) hg (.inl rfl)); have n6_ := Aside0.mk ((by rw [hw]; exact below_set (HB.out) GB74.out : Below w.heap.size w w78)); clear HO_7; clear HO_11; clear HO_12; clear HO_13; clear HO_14; clear HO_17; clear HB; have HO_7 := n0_; have HO_11 := n1_; have HO_12 := n2_; have HO_13 := n3_; have HO_14 := n4_; have HO_17 := n5_; have HB := n6_; clear n0_ n1_ n2_ n3_ n4_ n5_ n6_; clear hg hw hp_) | ((with_reducible refine gate_callee (f := 88) rfl ?_); refine goesL_ (some 117) rfl rfl Try.func88 (by kernel_rfl) rfl #[.slice Ao59 t365.length co59, .slice Ao76 x17_3.length co76] rfl (by (try simp only [List.map_toArray, List.map_cons, List.map_nil]); rfl) ?_; (with_reducible refine (trammelref01_less.calls k3 _ _ t365 _ _ x17_3 t383 _ ?side1 ?side2 ?side3 ?side4 A75.out).mono ?_); (case side1 => repeat (exact (Kd.R_reads' HO_14.out).2.2)); (case side2 => exact (Kd.R_reads' HO_14.out).2.1); (case side3 => repeat (exact (Kd.R_reads' HO_17.out).2.2)); (case side4 => exact (Kd.R_reads' HO_17.out).2.1); rintro e w79 ⟨v384, rfl, ho0, hb⟩; refine ⟨_, rfl, ?_⟩; have n0_ := Aside0.mk (Kd.R_elder' (by exact HO_7.out) (Kd.R_base ho0) hb); have n1_ := Aside0.mk (Kd.R_elder' (by exact HO_11.out) (Kd.R_base ho0) hb); have n2_ := Aside0.mk (Kd.R_elder' (by exact HO_12.out) (Kd.R_base ho0) hb); have n3_ := Aside0.mk (Kd.R_elder' (by exact HO_13.out) (Kd.R_base ho0) hb); have n4_ := Aside0.mk (Kd.R_elder' (by exact HO_14.out) (Kd.R_base ho0) hb); have n5_ := Aside0.mk (Kd.R_elder' (by exact HO_17.out) (Kd.R_base ho0) hb); have n6_ := Aside0.mk (Kd.R_lower (Kd.R_new' (Kd.R_new' (Kd.R_new' (Kd.R_new' (Kd.R_new' (Kd.R_new' ho0 (Kd.R_lt (by exact HO_7.out))) (Kd.R_lt (by exact HO_11.out))) (Kd.R_lt (by exact HO_12.out))) (Kd.R_lt (by exact HO_13.out))) (Kd.R_lt (by exact HO_14.out))) (Kd.R_lt (by exact HO_17.out))) (below_size (by repeat ((with_reducible exact HB.out))))); have n7_ := Aside0.mk (below_step (by repeat ((with_reducible exact HB.out))) hb); clear HO_7; clear HO_11; clear HO_12; clear HO_13; clear HO_14; clear HO_17; clear HB; have HO_7 := n0_; have HO_11 := n1_; have HO_12 := n2_; have HO_13 := n3_; have HO_14 := n4_; have HO_17 := n5_; have HO385 := n6_; have HB := n7_; clear n0_ n1_ n2_ n3_ n4_ n5_ n6_ n7_; (try clear hb); (try clear ho0)))
                                        go_roundg k3
                                        case measure => have := HK1.out; have := HJ51.out; have := HK3.out; omega
                                        case rel => exact ⟨(y382), (t383), (wrap64 (x15_1 - 1)), (by rfl), (by with_reducible exact H'), ⟨by have := HK1.out; have := HJ51.out; have := HK3.out; omega⟩, ⟨by exact Kd.R_mono HO_7.out (fun _ hk => ⟨hk.1.1.1, ⟨hk.1.1.2.1, ⟨hk.1.2, hk.2⟩⟩⟩)⟩, ⟨by exact Kd.R_mono HO_11.out (fun _ hk => ⟨hk.1.1.1, ⟨hk.1.1.2.1, ⟨hk.1.2, hk.2⟩⟩⟩)⟩, ⟨by exact Kd.R_mono HO_12.out (fun _ hk => ⟨hk.1.1.1, ⟨hk.1.1.2.1, ⟨hk.1.2, hk.2⟩⟩⟩)⟩, ⟨by exact Kd.R_mono HO_13.out (fun _ hk => ⟨hk.1.1, ⟨hk.1.2.1, ⟨hk.1.2.2.1, hk.2⟩⟩⟩)⟩, ⟨by exact Kd.R_mono HO385.out (fun _ hk => ⟨hk.1.1.1.1.1.2, ⟨hk.1.1.1.1.2, ⟨hk.1.1.1.2, hk.1.1.2⟩⟩⟩)⟩, ⟨by repeat ((with_reducible exact HB.out))⟩⟩
                                      · rw [if_neg c73] at H
                                        exact absurd H (by simp)
                                    · rw [if_neg c72] at H
                                      exact absurd H (by simp)
                    · rw [if_neg c36] at H
                      exact absurd H (by simp)
                  · rw [if_neg c35] at H
                    exact absurd H (by simp)
                · rw [if_neg c34] at H
                  exact absurd H (by simp)
              · rw [if_neg c33] at H
                have c33b0 : decide (0 ≤ x15_1) = false := decide_eq_false c33
                clear c33
                replace H := Option.bind_eq_some_iff.mp H
                obtain ⟨t350, A800, H⟩ := H
                replace H : ((trammelref01_Shr.f k1 x14_1 (wrap64 ((wrap64 (32 * (t323.length : Int))) - t350))).bind fun bt351 => ((trammelref01_Norm.f k1 x13_1).bind fun t355 => (some (t355, bt351.1, 0)))) = some (r1, r2, r3) := H
                have A80 := Aside0.mk A800
                clear A800
                replace H := Option.bind_eq_some_iff.mp H
                obtain ⟨⟨t351, t352⟩, A810, H⟩ := H
                replace H : ((trammelref01_Norm.f k1 x13_1).bind fun t355 => (some (t355, t351, 0))) = some (r1, r2, r3) := H
                have A81 := Aside0.mk A810
                clear A810
                replace H := Option.bind_eq_some_iff.mp H
                obtain ⟨t355, A820, H⟩ := H
                replace H : (some (t355, t351, 0)) = some (r1, r2, r3) := H
                have A82 := Aside0.mk A820
                clear A820
                simp only [Option.some.injEq, Prod.mk.injEq] at H
                obtain ⟨rfl, rfl, rfl⟩ := H
                go_wp2_with (first | ((with_reducible refine gate_callee (f := 84) rfl ?_); refine goesL_ (some 124) rfl rfl Try.func84 (by kernel_rfl) rfl #[.slice Ao25 t323.length co25] rfl (by (try simp only [List.map_toArray, List.map_cons, List.map_nil]); rfl) ?_; (with_reducible refine (trammelref01_Bits.calls k1 _ _ t323 t350 _ ?side1 ?side2 A80.out).mono ?_); (case side1 => repeat (exact (Kd.R_reads' HO_7.out).2.2)); (case side2 => exact (Kd.R_reads' HO_7.out).2.1); rintro e w' ⟨rfl, ⟨nd, rfl⟩⟩; refine ⟨_, rfl, ?_⟩; obtain ⟨Ao83, co83, eo83⟩ := Kd.R_slice HO_14.out; subst eo83) | ((with_reducible refine gate_callee (f := 89) rfl ?_); refine goesL_ (some 126) rfl rfl Try.func89 (by kernel_rfl) rfl #[.slice Ao83 x14_1.length co83, .int .i64 (wrap64 ((wrap64 (32 * (t323.length : Int))) - t350))] rfl (by (try simp only [List.map_toArray, List.map_cons, List.map_nil]); rfl) ?_; (with_reducible refine (trammelref01_Shr.calls k1 _ _ x14_1 (wrap64 ((wrap64 (32 * (t323.length : Int))) - t350)) t351 t352 _ ?side1 ?side2 A81.out).mono ?_); (case side1 => repeat (exact (Kd.R_reads' HO_14.out).2.2)); (case side2 => exact (Kd.R_reads' HO_14.out).2.1); rintro e w84 ⟨v353, rfl, ho0, hb⟩; refine ⟨_, rfl, ?_⟩; have n0_ := Aside0.mk (Kd.R_elder' (by (with_reducible repeat (apply Kd.R_drewN)); exact HO_7.out) (Kd.R_base ho0) hb); have n1_ := Aside0.mk (Kd.R_elder' (by (with_reducible repeat (apply Kd.R_drewN)); exact HO_11.out) (Kd.R_base ho0) hb); have n2_ := Aside0.mk (Kd.R_elder' (by (with_reducible repeat (apply Kd.R_drewN)); exact HO_12.out) (Kd.R_base ho0) hb); have n3_ := Aside0.mk (Kd.R_elder' (by (with_reducible repeat (apply Kd.R_drewN)); exact HO_13.out) (Kd.R_base ho0) hb); have n4_ := Aside0.mk (Kd.R_elder' (by (with_reducible repeat (apply Kd.R_drewN)); exact HO_14.out) (Kd.R_base ho0) hb); have n5_ := Aside0.mk (Kd.R_lower (Kd.R_new' (Kd.R_new' (Kd.R_new' (Kd.R_new' (Kd.R_new' ho0 (Kd.R_lt (by (with_reducible repeat (apply Kd.R_drewN)); exact HO_7.out))) (Kd.R_lt (by (with_reducible repeat (apply Kd.R_drewN)); exact HO_11.out))) (Kd.R_lt (by (with_reducible repeat (apply Kd.R_drewN)); exact HO_12.out))) (Kd.R_lt (by (with_reducible repeat (apply Kd.R_drewN)); exact HO_13.out))) (Kd.R_lt (by (with_reducible repeat (apply Kd.R_drewN)); exact HO_14.out))) (below_size (by repeat ((with_reducible first | exact HB.out | apply pw_below_drewN))))); have n6_ := Aside0.mk (below_step (by repeat ((with_reducible first | exact HB.out | apply pw_below_drewN))) hb); clear HO_7; clear HO_11; clear HO_12; clear HO_13; clear HO_14; clear HB; have HO_7 := n0_; have HO_11 := n1_; have HO_12 := n2_; have HO_13 := n3_; have HO_14 := n4_; have HO354 := n5_; have HB := n6_; clear n0_ n1_ n2_ n3_ n4_ n5_ n6_; (try clear hb); (try clear ho0); obtain ⟨Ao85, co85, eo85⟩ := Kd.R_slice HO_13.out; subst eo85) | ((with_reducible refine gate_callee (f := 45) rfl ?_); refine goesL_ (some 130) rfl rfl Try.func45 (by kernel_rfl) rfl #[.slice Ao85 x13_1.length co85] rfl (by (try simp only [List.map_toArray, List.map_cons, List.map_nil]); rfl) ?_; (with_reducible refine (trammelref01_Norm.calls k1 _ _ x13_1 t355 _ ?side1 ?side2 A82.out).mono ?_); (case side1 => repeat (exact (Kd.R_reads' HO_13.out).2.2)); (case side2 => exact (Kd.R_reads' HO_13.out).2.1); rintro e w86 ⟨v356, rfl, ho0, hb⟩; refine ⟨_, rfl, ?_⟩; have n0_ := Aside0.mk (Kd.R_elder' (by exact HO_7.out) (Kd.R_base ho0) hb); have n1_ := Aside0.mk (Kd.R_elder' (by exact HO_11.out) (Kd.R_base ho0) hb); have n2_ := Aside0.mk (Kd.R_elder' (by exact HO_12.out) (Kd.R_base ho0) hb); have n3_ := Aside0.mk (Kd.R_elder' (by exact HO_13.out) (Kd.R_base ho0) hb); have n4_ := Aside0.mk (Kd.R_elder' (by exact HO_14.out) (Kd.R_base ho0) hb); have n5_ := Aside0.mk (Kd.R_elder' (by exact HO354.out) (Kd.R_base ho0) hb); have n6_ := Aside0.mk (Kd.R_lower (Kd.R_new' (Kd.R_new' (Kd.R_new' (Kd.R_new' (Kd.R_new' (Kd.R_new' ho0 (Kd.R_lt (by exact HO_7.out))) (Kd.R_lt (by exact HO_11.out))) (Kd.R_lt (by exact HO_12.out))) (Kd.R_lt (by exact HO_13.out))) (Kd.R_lt (by exact HO_14.out))) (Kd.R_lt (by exact HO354.out))) (below_size (by repeat ((with_reducible exact HB.out))))); have n7_ := Aside0.mk (below_step (by repeat ((with_reducible exact HB.out))) hb); clear HO_7; clear HO_11; clear HO_12; clear HO_13; clear HO_14; clear HO354; clear HB; have HO_7 := n0_; have HO_11 := n1_; have HO_12 := n2_; have HO_13 := n3_; have HO_14 := n4_; have HO354 := n5_; have HO357 := n6_; have HB := n7_; clear n0_ n1_ n2_ n3_ n4_ n5_ n6_ n7_; (try clear hb); (try clear ho0)))
                go_ret3
                exact ⟨_, _, by rfl, by exact Kd.R_mono HO357.out (fun _ hk => hk.2), by exact Kd.R_mono HO354.out (fun _ hk => hk.2), by repeat ((with_reducible exact HB.out))⟩
        · rw [if_neg c23] at H
          exact absurd H (by simp)
      · rw [if_neg c22] at H
        exact absurd H (by simp)

end Go.Proofs.Ytndopanohhdfgaa.PA

