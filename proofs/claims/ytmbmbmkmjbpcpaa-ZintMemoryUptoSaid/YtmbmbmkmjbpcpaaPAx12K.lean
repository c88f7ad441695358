-- printed by a program of this session
import Derived.Test.YtmbmbmkmjbpcpaaPAx0K
import Derived.Test.YtmbmbmkmjbpcpaaPAx1K
import Derived.Test.YtmbmbmkmjbpcpaaPAx6K
namespace Go.Proofs.Ytmbmbmkmjbpcpaa.PA
open Go.RowKit Go.Proofs.YtmbmbmkmjbpcpaaW.PrintWords Go.Proofs.YtmbmbmkmjbpcpaaW.PrintLast Go.Proofs.YtmbmbmkmjbpcpaaW.PrintMore
attribute [local go_sem] max2_int min2_int max_two min_two max_three min_three max_four min_four   -- for this text's walks alone
set_option linter.unusedVariables false
set_option linter.unusedSimpArgs false

/-! ### nat_shr: function 105 -/
def nat_shr.l0 : Nat → List Int → Int → Int → List Int → Int → Int → Option (List Int)
  | 0, _, _, _, _, _, _ => none
  | k + 1, x0, x5, x6, x7, x27, x28 => if x28 < x27 then (if 0 ≤ (wrap64 (x28 + x5)) then (if (wrap64 (x28 + x5)) < (x0.length : Int) then (if (wrap64 ((wrap64 (x28 + x5)) + 1)) < (x0.length : Int) then (if 0 ≤ (wrap64 ((wrap64 (x28 + x5)) + 1)) then (if 0 ≤ x6 then (if 0 ≤ x28 then (if x28 < (x7.length : Int) then (nat_shr.l0 k x0 x5 x6 (x7.set (x28 : Int).toNat ((shr .u64 (Go.bits .or .u64 (IntKind.u64.wrap (rd x0 (wrap64 (x28 + x5)))) (IntKind.u64.wrap ((IntKind.u64.wrap (rd x0 (wrap64 ((wrap64 (x28 + x5)) + 1)))) * 4294967296))) x6) % 4294967296)) x27 (wrap64 (x28 + 1))) else (none)) else (none)) else (none)) else (none)) else (if 0 ≤ x6 then (if 0 ≤ x28 then (if x28 < (x7.length : Int) then (nat_shr.l0 k x0 x5 x6 (x7.set (x28 : Int).toNat ((shr .u64 (IntKind.u64.wrap (rd x0 (wrap64 (x28 + x5)))) x6) % 4294967296)) x27 (wrap64 (x28 + 1))) else (none)) else (none)) else (none))) else (none)) else (none)) else ((nat_trim_own.f k x7).bind fun t312 => (some t312))
def nat_shr.f (k : Nat) (l0 : List Int) (a1 : Int) : Option (List Int) := (nat_trim.f k l0).bind fun t302 => (if (wrap64 (Int.tdiv a1 32)) ≥ (t302.length : Int) then (some ([] : List Int)) else (if 0 ≤ (wrap64 ((t302.length : Int) - (wrap64 (Int.tdiv a1 32)))) then (if (wrap64 ((t302.length : Int) - (wrap64 (Int.tdiv a1 32))) : Int).toNat ≤ 70368744177664 then ((some (List.replicate (wrap64 ((t302.length : Int) - (wrap64 (Int.tdiv a1 32))) : Int).toNat 0 : List Int)).bind fun y305 => (nat_shr.l0 k t302 (wrap64 (Int.tdiv a1 32)) (IntKind.u64.wrap (Int.tmod a1 32)) y305 (y305.length : Int) 0)) else (none)) else (none)))
set_option maxHeartbeats 8000000 in
set_option maxRecDepth 100000 in
theorem nat_shr.calls (k : Nat) (A0 : Option Addr) (c0 : Nat) (l0 : List Int) (a1 : Int) (r : List Int) (w : World) (hr0 : Kd.C (Kd.int .u32) w A0 l0.length l0) (hc0 : l0.length ≤ c0) (h : nat_shr.f k l0 a1 = some r) :
    Calls Try.prog 105 #[.slice A0 l0.length c0, .int .i64 a1] w fun e w' => ∃ v0_ : Value, e = .returned (v0_) ∧ Kd.R (Kd.int .u32) 68 w' w.heap.size (fun _ => True) v0_ r ∧ Below w.heap.size w w' := by
  have HR0 := Aside0.mk hr0
  have HC0 := Aside0.mk hc0
  clear hr0 hc0
  have HB := Aside0.mk (Below.refl w.heap.size w)
  have H : ((nat_trim.f k l0).bind fun t302 => (if (wrap64 (Int.tdiv a1 32)) ≥ (t302.length : Int) then (some ([] : List Int)) else (if 0 ≤ (wrap64 ((t302.length : Int) - (wrap64 (Int.tdiv a1 32)))) then (if (wrap64 ((t302.length : Int) - (wrap64 (Int.tdiv a1 32))) : Int).toNat ≤ 70368744177664 then ((some (List.replicate (wrap64 ((t302.length : Int) - (wrap64 (Int.tdiv a1 32))) : Int).toNat 0 : List Int)).bind fun y305 => (nat_shr.l0 k t302 (wrap64 (Int.tdiv a1 32)) (IntKind.u64.wrap (Int.tmod a1 32)) y305 (y305.length : Int) 0)) else (none)) else (none)))) = some r := h
  clear h
  replace H := Option.bind_eq_some_iff.mp H
  obtain ⟨t302, A30, H⟩ := H
  replace H : (if (wrap64 (Int.tdiv a1 32)) ≥ (t302.length : Int) then (some ([] : List Int)) else (if 0 ≤ (wrap64 ((t302.length : Int) - (wrap64 (Int.tdiv a1 32)))) then (if (wrap64 ((t302.length : Int) - (wrap64 (Int.tdiv a1 32))) : Int).toNat ≤ 70368744177664 then ((some (List.replicate (wrap64 ((t302.length : Int) - (wrap64 (Int.tdiv a1 32))) : Int).toNat 0 : List Int)).bind fun y305 => (nat_shr.l0 k t302 (wrap64 (Int.tdiv a1 32)) (IntKind.u64.wrap (Int.tmod a1 32)) y305 (y305.length : Int) 0)) else (none)) else (none))) = some r := H
  have A3 := Aside0.mk A30
  clear A30
  by_cases c4 : (wrap64 (Int.tdiv a1 32)) ≥ (t302.length : Int)
  · rw [if_pos c4] at H
    have c4b0 : decide ((t302.length : Int) ≤ (wrap64 (Int.tdiv a1 32))) = true := decide_eq_true c4
    clear c4
    obtain rfl := Option.some.inj H
    go_enter Try.func105, Try.ntmps105
    go_wp2_with (((with_reducible refine gate_callee (f := 95) rfl ?_); refine goesL_ (some 11) rfl rfl Try.func95 (by kernel_rfl) rfl #[.slice A0 l0.length c0] rfl (by (try simp only [List.map_toArray, List.map_cons, List.map_nil]); rfl) ?_; (with_reducible refine (nat_trim.calls k (fun k_ => k_ < w.heap.size) _ _ l0 t302 _ ?side1 A3.out).mono ?_); (case side1 => exact Kd.V_mk HC0.out (Kd.F_below (Kd.C_F (Kd.heap_int .u32) HR0.out) (by repeat ((with_reducible exact HB.out))))); rintro e w5 ⟨v303, rfl, ho0, hb⟩; refine ⟨_, rfl, ?_⟩; have n0_ := Aside0.mk (Kd.V_lower (Kd.V_mono (ok' := fun k_ => True) ho0 (fun k_ hk_ => trivial)) (below_size (by repeat ((with_reducible exact HB.out))))); have n1_ := Aside0.mk (below_step (by repeat ((with_reducible exact HB.out))) hb); clear HB; have HO304 := n0_; have HB := n1_; clear n0_ n1_; (try clear hb); (try clear ho0); obtain ⟨Ao6, co6, eo6⟩ := Kd.V_slice HO304.out; subst eo6))
    go_ret
    exact ⟨_, by rfl, by exact Kd.R_nil _ _ _ _ _, by repeat ((with_reducible exact HB.out))⟩
  · rw [if_neg c4] at H
    have c4b0 : decide ((t302.length : Int) ≤ (wrap64 (Int.tdiv a1 32))) = false := decide_eq_false c4
    clear c4
    obtain ⟨ji7, hji7⟩ : ∃ j_ : Int, (wrap64 ((t302.length : Int) - (wrap64 (Int.tdiv a1 32)))) = j_ := ⟨_, rfl⟩
    replace H : (if 0 ≤ (ji7) then (if (ji7 : Int).toNat ≤ 70368744177664 then ((some (List.replicate (ji7 : Int).toNat 0 : List Int)).bind fun y305 => (nat_shr.l0 k t302 (wrap64 (Int.tdiv a1 32)) (IntKind.u64.wrap (Int.tmod a1 32)) y305 (y305.length : Int) 0)) else (none)) else (none)) = some r := by (rw [hji7] at H; exact H)
    have hji7w : (IntKind.i64.wrap ((t302.length : Int) - (wrap64 (Int.tdiv a1 32)))) = ji7 := (i64_w _).trans hji7
    by_cases c8 : 0 ≤ (ji7)
    · rw [if_pos c8] at H
      have c8b0 := eq_true c8
      have c8b1 : decide (0 ≤ (ji7)) = true := decide_eq_true c8
      clear c8
      by_cases c9 : (ji7 : Int).toNat ≤ 70368744177664
      · rw [if_pos c9] at H
        have c9b0 := eq_true c9
        have c9b1 : decide ((ji7 : Int).toNat ≤ 70368744177664) = true := decide_eq_true c9
        clear c9
        obtain ⟨y305, hy305⟩ : ∃ y_ : List Int, y_ = (List.replicate (ji7 : Int).toNat 0) := ⟨_, rfl⟩
        replace H : (nat_shr.l0 k t302 (wrap64 (Int.tdiv a1 32)) (IntKind.u64.wrap (Int.tmod a1 32)) y305 (y305.length : Int) 0) = some r := by (have H2_ := (Option.bind_some _ _).symm.trans H; rw [hy305]; with_reducible exact H2_)
        have Ny305 := Aside0.mk hy305
        clear hy305
        have H' := Aside0.mk H
        clear H
        go_enter Try.func105, Try.ntmps105
        go_wp2_with (first | ((with_reducible refine gate_callee (f := 95) rfl ?_); refine goesL_ (some 11) rfl rfl Try.func95 (by kernel_rfl) rfl #[.slice A0 l0.length c0] rfl (by (try simp only [List.map_toArray, List.map_cons, List.map_nil]); rfl) ?_; (with_reducible refine (nat_trim.calls k (fun k_ => k_ < w.heap.size) _ _ l0 t302 _ ?side1 A3.out).mono ?_); (case side1 => exact Kd.V_mk HC0.out (Kd.F_below (Kd.C_F (Kd.heap_int .u32) HR0.out) (by repeat ((with_reducible exact HB.out))))); rintro e w10 ⟨v303, rfl, ho0, hb⟩; refine ⟨_, rfl, ?_⟩; have n0_ := Aside0.mk (Kd.V_lower (Kd.V_mono (ok' := fun k_ => True) ho0 (fun k_ hk_ => trivial)) (below_size (by repeat ((with_reducible exact HB.out))))); have n1_ := Aside0.mk (below_step (by repeat ((with_reducible exact HB.out))) hb); clear HB; have HO304 := n0_; have HB := n1_; clear n0_ n1_; (try clear hb); (try clear ho0); obtain ⟨Ao11, co11, eo11⟩ := Kd.V_slice HO304.out; subst eo11) | ((with_reducible refine gate_dst (N := 25) rfl ?_); refine Kd.R_make (Kd.int .u32) _ 68 rfl (N := 25) rfl 23 _ _ rfl ji7 rfl rfl Try.underlying23 (.int .u32 0) 4 info68 rfl (by decide) (by omega) 0 (ok := fun _ => True) (okp := fun _ => True) rfl (fun _ hk => hk) trivial (of_decide_eq_true (by (with_reducible assumption))) (Nat.le_trans (Nat.mul_le_mul_right _ (of_decide_eq_true (by (with_reducible assumption)) : ji7.toNat ≤ 70368744177664)) (by omega)) (Below.refl _ _) (Nat.le_refl _) ?_; intro v306 w12 ho13 hb hg_ hnew_; clear hg_ hnew_; (rw [← Ny305.out] at ho13); have n0_ := Aside0.mk (Kd.V_elder' (by exact HO304.out) (Kd.R_base ho13) hb); have n1_ := Aside0.mk (Kd.R_lower ho13 (below_size (by repeat ((with_reducible exact HB.out))))); have n2_ := Aside0.mk (below_step (by repeat ((with_reducible exact HB.out))) hb); clear HO304; clear HB; have HO304 := n0_; have HO307 := n1_; have HB := n2_; clear n0_ n1_ n2_; clear hb ho13; obtain ⟨Ao14, co14, eo14⟩ := Kd.R_slice HO307.out; subst eo14))
        go_loopg [28] k (fun kq v28 w' => ∃ (x7_1 : List Int) (x28_1 : Int), v28 = .int .i64 x28_1 ∧ Aside0 (nat_shr.l0 kq t302 (wrap64 (Int.tdiv a1 32)) (IntKind.u64.wrap (Int.tmod a1 32)) x7_1 (y305.length : Int) x28_1 = some r) ∧ Aside0 (kq ≤ k) ∧ Aside0 (Kd.V (Kd.int .u32) 68 w' w.heap.size (fun k_ => some k_ ≠ ((.slice Ao14 y305.length co14) : Value).ownBlock) (.slice Ao11 t302.length co11) t302) ∧ Aside0 (Kd.R (Kd.int .u32) 68 w' w.heap.size (fun _ => True) (.slice Ao14 y305.length co14) x7_1) ∧ Aside0 (Below w.heap.size w w'))
        case atStart => exact ⟨(y305), (0), (by rfl), H', ⟨Nat.le_refl _⟩, ⟨by exact Kd.V_mono HO304.out (fun _ hk => hk.2)⟩, ⟨by exact HO307.out⟩, ⟨by repeat ((with_reducible exact HB.out))⟩⟩
        case round =>
          clear H'
          skip
          skip
          skip
          try clear c4b0
          skip
          skip
          try clear c8b0
          try clear c8b1
          skip
          try clear c9b0
          try clear c9b1
          skip
          obtain ⟨x7_1, x28_1, rfl, HA, HK1, HO_0, HO_7, HB⟩ := hrel
          have hl7_1 := (Kd.R_reads' HO_7.out).1
          rw [hl7_1] at HO_7
          (try simp only [hl7_1])
          (try simp only [hl7_1] at HO_0)
          cases gk with
          | zero => exact absurd HA.out (by simp [nat_shr.l0])
          | succ k1 =>
            have H := HA.out
            clear HA
            simp only [nat_shr.l0] at H
            by_cases c15 : x28_1 < (y305.length : Int)
            · rw [if_pos c15] at H
              have c15b0 : decide (x28_1 < (y305.length : Int)) = true := decide_eq_true c15
              (try (have c15b0z0 := c15b0; rw [hl7_1] at c15b0z0))
              clear c15
              obtain ⟨ji16, hji16⟩ : ∃ j_ : Int, (wrap64 (x28_1 + (wrap64 (Int.tdiv a1 32)))) = j_ := ⟨_, rfl⟩
              replace H : (if 0 ≤ (ji16) then (if (ji16) < (t302.length : Int) then (if (wrap64 ((ji16) + 1)) < (t302.length : Int) then (if 0 ≤ (wrap64 ((ji16) + 1)) then (if 0 ≤ (IntKind.u64.wrap (Int.tmod a1 32)) then (if 0 ≤ x28_1 then (if x28_1 < (x7_1.length : Int) then (nat_shr.l0 k1 t302 (wrap64 (Int.tdiv a1 32)) (IntKind.u64.wrap (Int.tmod a1 32)) (x7_1.set (x28_1 : Int).toNat ((shr .u64 (Go.bits .or .u64 (IntKind.u64.wrap (rd t302 (ji16))) (IntKind.u64.wrap ((IntKind.u64.wrap (rd t302 (wrap64 ((ji16) + 1)))) * 4294967296))) (IntKind.u64.wrap (Int.tmod a1 32))) % 4294967296)) (y305.length : Int) (wrap64 (x28_1 + 1))) else (none)) else (none)) else (none)) else (none)) else (if 0 ≤ (IntKind.u64.wrap (Int.tmod a1 32)) then (if 0 ≤ x28_1 then (if x28_1 < (x7_1.length : Int) then (nat_shr.l0 k1 t302 (wrap64 (Int.tdiv a1 32)) (IntKind.u64.wrap (Int.tmod a1 32)) (x7_1.set (x28_1 : Int).toNat ((shr .u64 (IntKind.u64.wrap (rd t302 (ji16))) (IntKind.u64.wrap (Int.tmod a1 32))) % 4294967296)) (y305.length : Int) (wrap64 (x28_1 + 1))) else (none)) else (none)) else (none))) else (none)) else (none)) = some r := by (rw [hji16] at H; exact H)
              have hji16w : (IntKind.i64.wrap (x28_1 + (wrap64 (Int.tdiv a1 32)))) = ji16 := (i64_w _).trans hji16
              by_cases c17 : 0 ≤ (ji16)
              · rw [if_pos c17] at H
                have c17b0 : decide (0 ≤ (ji16)) = true := decide_eq_true c17
                clear c17
                by_cases c18 : (ji16) < (t302.length : Int)
                · rw [if_pos c18] at H
                  have c18b0 : decide ((ji16) < (t302.length : Int)) = true := decide_eq_true c18
                  clear c18
                  by_cases c19 : (wrap64 ((ji16) + 1)) < (t302.length : Int)
                  · rw [if_pos c19] at H
                    have c19b0 : decide ((wrap64 ((ji16) + 1)) < (t302.length : Int)) = true := decide_eq_true c19
                    clear c19
                    obtain ⟨ji20, hji20⟩ : ∃ j_ : Int, (wrap64 ((ji16) + 1)) = j_ := ⟨_, rfl⟩
                    replace H : (if 0 ≤ (ji20) then (if 0 ≤ (IntKind.u64.wrap (Int.tmod a1 32)) then (if 0 ≤ x28_1 then (if x28_1 < (x7_1.length : Int) then (nat_shr.l0 k1 t302 (wrap64 (Int.tdiv a1 32)) (IntKind.u64.wrap (Int.tmod a1 32)) (x7_1.set (x28_1 : Int).toNat ((shr .u64 (Go.bits .or .u64 (IntKind.u64.wrap (rd t302 (ji16))) (IntKind.u64.wrap ((IntKind.u64.wrap (rd t302 (ji20))) * 4294967296))) (IntKind.u64.wrap (Int.tmod a1 32))) % 4294967296)) (y305.length : Int) (wrap64 (x28_1 + 1))) else (none)) else (none)) else (none)) else (none)) = some r := by (rw [hji20] at H; exact H)
                    (try rw [hji20] at c19b0)
                    have hji20w : (IntKind.i64.wrap ((ji16) + 1)) = ji20 := (i64_w _).trans hji20
                    by_cases c21 : 0 ≤ (ji20)
                    · rw [if_pos c21] at H
                      have c21b0 : decide (0 ≤ (ji20)) = true := decide_eq_true c21
                      clear c21
                      obtain ⟨ji22, hji22⟩ : ∃ j_ : Int, (IntKind.u64.wrap (Int.tmod a1 32)) = j_ := ⟨_, rfl⟩
                      replace H : (if 0 ≤ (ji22) then (if 0 ≤ x28_1 then (if x28_1 < (x7_1.length : Int) then (nat_shr.l0 k1 t302 (wrap64 (Int.tdiv a1 32)) (ji22) (x7_1.set (x28_1 : Int).toNat ((shr .u64 (Go.bits .or .u64 (IntKind.u64.wrap (rd t302 (ji16))) (IntKind.u64.wrap ((IntKind.u64.wrap (rd t302 (ji20))) * 4294967296))) (ji22)) % 4294967296)) (y305.length : Int) (wrap64 (x28_1 + 1))) else (none)) else (none)) else (none)) = some r := by (rw [hji22] at H; exact H)
                      by_cases c23 : 0 ≤ (ji22)
                      · rw [if_pos c23] at H
                        have c23b0 := eq_true c23
                        have c23b1 : decide (0 ≤ (ji22)) = true := decide_eq_true c23
                        clear c23
                        obtain ⟨ji24, hji24⟩ : ∃ j_ : Int, (shr .u64 (Go.bits .or .u64 (IntKind.u64.wrap (rd t302 (ji16))) (IntKind.u64.wrap ((IntKind.u64.wrap (rd t302 (ji20))) * 4294967296))) (ji22)) = j_ := ⟨_, rfl⟩
                        replace H : (if 0 ≤ x28_1 then (if x28_1 < (x7_1.length : Int) then (nat_shr.l0 k1 t302 (wrap64 (Int.tdiv a1 32)) (ji22) (x7_1.set (x28_1 : Int).toNat ((ji24) % 4294967296)) (y305.length : Int) (wrap64 (x28_1 + 1))) else (none)) else (none)) = some r := by (rw [hji24] at H; exact H)
                        have hji24_ : ((Go.bits .or .u64 (IntKind.u64.wrap (rd t302 (ji16))) (IntKind.u64.wrap ((IntKind.u64.wrap (rd t302 (ji20))) * 4294967296))) / 2 ^ min (ji22).toNat 64) = ji24 := hji24
                        have hji24z : (ji22) ≤ 64 → ((Go.bits .or .u64 (IntKind.u64.wrap (rd t302 (ji16))) (IntKind.u64.wrap ((IntKind.u64.wrap (rd t302 (ji20))) * 4294967296))) / 2 ^ (ji22).toNat) = ji24 := shr_small hji24
                        by_cases c25 : 0 ≤ x28_1
                        · rw [if_pos c25] at H
                          have c25b0 : decide (0 ≤ x28_1) = true := decide_eq_true c25
                          clear c25
                          by_cases c26 : x28_1 < (x7_1.length : Int)
                          · rw [if_pos c26] at H
                            have c26b0 : decide (x28_1 < (x7_1.length : Int)) = true := decide_eq_true c26
                            clear c26
                            obtain ⟨y310, hy310⟩ : ∃ y_ : List Int, y_ = (x7_1.set (x28_1 : Int).toNat ((ji24) % 4294967296)) := ⟨_, rfl⟩
                            replace H : (nat_shr.l0 k1 t302 (wrap64 (Int.tdiv a1 32)) (ji22) y310 (y305.length : Int) (wrap64 (x28_1 + 1))) = some r := by (rw [hy310]; with_reducible exact H)
                            have Ny310 := Aside0.mk hy310
                            clear hy310
                            have H' := Aside0.mk H
                            clear H
                            have p308 : 0 ≤ ((ji16) : Int) := of_decide_eq_true (by (with_reducible assumption))
                            have q308 : (ji16) < (t302.length : Int) := of_decide_eq_true (by (with_reducible assumption))
                            obtain ⟨ad308, e308, hx308_0⟩ := Kd.at_int (Kd.V_reads' HO_0.out).2.2 (ji16) p308 q308
                            cases e308
                            replace p308 := eq_true p308
                            replace q308 := eq_true q308
                            have p309 : 0 ≤ ((ji20) : Int) := of_decide_eq_true (by (with_reducible assumption))
                            have q309 : (ji20) < (t302.length : Int) := of_decide_eq_true (by (with_reducible assumption))
                            obtain ⟨ad309, e309, hx309_0⟩ := Kd.at_int (Kd.V_reads' HO_0.out).2.2 (ji20) p309 q309
                            obtain rfl : ad308 = ad309 := (by injection e309)
                            replace p309 := eq_true p309
                            replace q309 := eq_true q309
                            have p27 : 0 ≤ (x28_1 : Int) := of_decide_eq_true (by (with_reducible assumption))
                            have q27 : (x28_1 : Int) < ((x7_1.length : Int) : Int) := of_decide_eq_true (by (with_reducible assumption))
                            obtain ⟨go27, co27, eo27, gb27, gl27, cl27, HG27⟩ := Kd.R_form HO_7.out (by omega)
                            (cases eo27)
                            have GB27 := Aside0.mk gb27
                            have GG27 := Aside0.mk HG27
                            clear gb27 gl27 HG27
                            obtain ⟨hx27_0, hf27_0⟩ := Kd.R_celln 0 HO_7.out (x28_1 : Int) p27 q27
                            replace p27 := eq_true p27
                            replace q27 := eq_true q27
                            have HP28 := Kd.R_putg HO_7.out (x28_1 : Int) ((ji24) % 4294967296)
                            go_wp2_with (((with_reducible refine gate_store (t := 68) (p := 62) rfl ?_); refine store_event (t := 68) (p := 62) (v := ?vo_w29) (w1 := (wr.setCell ⟨go27, (x28_1 : Int).toNat, none⟩ (.int .u32 ((ji24) % 4294967296)))) ?hg ?ho ?hn ?hr ?_; (case ho => rfl); (case hg => rfl); (case hn => rfl); (case hr => (go_simp; done)); intro w29 hw; have hg : wr.grownBy w29 (some go27) := (by rw [hw]; exact HP28.2); have hp_ : Kd.R (Kd.int .u32) 68 w29 w.heap.size (fun _ => True) (.slice (some ⟨go27, 0, none⟩) x7_1.length co14) y310 := (by rw [hw, Ny310.out]; exact HP28.1); clear HP28; have n0_ := Aside0.mk (Kd.V_afterv (v := (.slice (some ⟨go27, 0, none⟩) x7_1.length co14)) (v1 := (.slice (some ⟨go27, 0, none⟩) x7_1.length co14)) (ok := (fun _ => True)) (by exact Kd.V_mono HO_0.out (fun _ hk => ⟨trivial, hk⟩)) hg (.inl rfl)); have n1_ := Aside0.mk (hp_); have n2_ := Aside0.mk ((by rw [hw]; exact below_set (HB.out) GB27.out : Below w.heap.size w w29)); clear HO_0; clear HO_7; clear HB; have HO_0 := n0_; have HO_7 := n1_; have HB := n2_; clear n0_ n1_ n2_; clear hg hw hp_))
                            (try simp only [← hl7_1])
                            (try subst hji7)
                            (try subst hji20)
                            (try subst hji22)
                            (try subst hji24)
                            go_roundg k1
                            case measure => have := HK1.out; omega
                            case rel => exact ⟨(y310), (wrap64 (x28_1 + 1)), (by rfl), (by with_reducible exact H'), ⟨by have := HK1.out; omega⟩, ⟨by (try simp only [hl7_1]); exact Kd.V_mono HO_0.out (fun _ hk => hk.2)⟩, ⟨by (try simp only [hl7_1]); exact HO_7.out⟩, ⟨by repeat ((with_reducible exact HB.out))⟩⟩
                          · rw [if_neg c26] at H
                            exact absurd H (by simp)
                        · rw [if_neg c25] at H
                          exact absurd H (by simp)
                      · rw [if_neg c23] at H
                        exact absurd H (by simp)
                    · rw [if_neg c21] at H
                      exact absurd H (by simp)
                  · rw [if_neg c19] at H
                    have c19b0 : decide ((wrap64 ((ji16) + 1)) < (t302.length : Int)) = false := decide_eq_false c19
                    clear c19
                    obtain ⟨ji30, hji30⟩ : ∃ j_ : Int, (IntKind.u64.wrap (Int.tmod a1 32)) = j_ := ⟨_, rfl⟩
                    replace H : (if 0 ≤ (ji30) then (if 0 ≤ x28_1 then (if x28_1 < (x7_1.length : Int) then (nat_shr.l0 k1 t302 (wrap64 (Int.tdiv a1 32)) (ji30) (x7_1.set (x28_1 : Int).toNat ((shr .u64 (IntKind.u64.wrap (rd t302 (ji16))) (ji30)) % 4294967296)) (y305.length : Int) (wrap64 (x28_1 + 1))) else (none)) else (none)) else (none)) = some r := by (rw [hji30] at H; exact H)
                    by_cases c31 : 0 ≤ (ji30)
                    · rw [if_pos c31] at H
                      have c31b0 := eq_true c31
                      have c31b1 : decide (0 ≤ (ji30)) = true := decide_eq_true c31
                      clear c31
                      obtain ⟨ji32, hji32⟩ : ∃ j_ : Int, (shr .u64 (IntKind.u64.wrap (rd t302 (ji16))) (ji30)) = j_ := ⟨_, rfl⟩
                      replace H : (if 0 ≤ x28_1 then (if x28_1 < (x7_1.length : Int) then (nat_shr.l0 k1 t302 (wrap64 (Int.tdiv a1 32)) (ji30) (x7_1.set (x28_1 : Int).toNat ((ji32) % 4294967296)) (y305.length : Int) (wrap64 (x28_1 + 1))) else (none)) else (none)) = some r := by (rw [hji32] at H; exact H)
                      have hji32_ : ((IntKind.u64.wrap (rd t302 (ji16))) / 2 ^ min (ji30).toNat 64) = ji32 := hji32
                      have hji32z : (ji30) ≤ 64 → ((IntKind.u64.wrap (rd t302 (ji16))) / 2 ^ (ji30).toNat) = ji32 := shr_small hji32
                      by_cases c33 : 0 ≤ x28_1
                      · rw [if_pos c33] at H
                        have c33b0 : decide (0 ≤ x28_1) = true := decide_eq_true c33
                        clear c33
                        by_cases c34 : x28_1 < (x7_1.length : Int)
                        · rw [if_pos c34] at H
                          have c34b0 : decide (x28_1 < (x7_1.length : Int)) = true := decide_eq_true c34
                          clear c34
                          obtain ⟨y311, hy311⟩ : ∃ y_ : List Int, y_ = (x7_1.set (x28_1 : Int).toNat ((ji32) % 4294967296)) := ⟨_, rfl⟩
                          replace H : (nat_shr.l0 k1 t302 (wrap64 (Int.tdiv a1 32)) (ji30) y311 (y305.length : Int) (wrap64 (x28_1 + 1))) = some r := by (rw [hy311]; with_reducible exact H)
                          have Ny311 := Aside0.mk hy311
                          clear hy311
                          have H' := Aside0.mk H
                          clear H
                          have p308 : 0 ≤ ((ji16) : Int) := of_decide_eq_true (by (with_reducible assumption))
                          have q308 : (ji16) < (t302.length : Int) := of_decide_eq_true (by (with_reducible assumption))
                          obtain ⟨ad308, e308, hx308_0⟩ := Kd.at_int (Kd.V_reads' HO_0.out).2.2 (ji16) p308 q308
                          cases e308
                          replace p308 := eq_true p308
                          replace q308 := eq_true q308
                          have p35 : 0 ≤ (x28_1 : Int) := of_decide_eq_true (by (with_reducible assumption))
                          have q35 : (x28_1 : Int) < ((x7_1.length : Int) : Int) := of_decide_eq_true (by (with_reducible assumption))
                          obtain ⟨go35, co35, eo35, gb35, gl35, cl35, HG35⟩ := Kd.R_form HO_7.out (by omega)
                          (cases eo35)
                          have GB35 := Aside0.mk gb35
                          have GG35 := Aside0.mk HG35
                          clear gb35 gl35 HG35
                          obtain ⟨hx35_0, hf35_0⟩ := Kd.R_celln 0 HO_7.out (x28_1 : Int) p35 q35
                          replace p35 := eq_true p35
                          replace q35 := eq_true q35
                          have HP36 := Kd.R_putg HO_7.out (x28_1 : Int) ((ji32) % 4294967296)
                          go_wp2_with (((with_reducible refine gate_store (t := 68) (p := 62) rfl ?_); refine store_event (t := 68) (p := 62) (v := ?vo_w37) (w1 := (wr.setCell ⟨go35, (x28_1 : Int).toNat, none⟩ (.int .u32 ((ji32) % 4294967296)))) ?hg ?ho ?hn ?hr ?_; (case ho => rfl); (case hg => rfl); (case hn => rfl); (case hr => (go_simp; done)); intro w37 hw; have hg : wr.grownBy w37 (some go35) := (by rw [hw]; exact HP36.2); have hp_ : Kd.R (Kd.int .u32) 68 w37 w.heap.size (fun _ => True) (.slice (some ⟨go35, 0, none⟩) x7_1.length co14) y311 := (by rw [hw, Ny311.out]; exact HP36.1); clear HP36; have n0_ := Aside0.mk (Kd.V_afterv (v := (.slice (some ⟨go35, 0, none⟩) x7_1.length co14)) (v1 := (.slice (some ⟨go35, 0, none⟩) x7_1.length co14)) (ok := (fun _ => True)) (by exact Kd.V_mono HO_0.out (fun _ hk => ⟨trivial, hk⟩)) hg (.inl rfl)); have n1_ := Aside0.mk (hp_); have n2_ := Aside0.mk ((by rw [hw]; exact below_set (HB.out) GB35.out : Below w.heap.size w w37)); clear HO_0; clear HO_7; clear HB; have HO_0 := n0_; have HO_7 := n1_; have HB := n2_; clear n0_ n1_ n2_; clear hg hw hp_))
                          (try simp only [← hl7_1])
                          (try subst hji7)
                          (try subst hji30)
                          (try subst hji32)
                          go_roundg k1
                          case measure => have := HK1.out; omega
                          case rel => exact ⟨(y311), (wrap64 (x28_1 + 1)), (by rfl), (by with_reducible exact H'), ⟨by have := HK1.out; omega⟩, ⟨by (try simp only [hl7_1]); exact Kd.V_mono HO_0.out (fun _ hk => hk.2)⟩, ⟨by (try simp only [hl7_1]); exact HO_7.out⟩, ⟨by repeat ((with_reducible exact HB.out))⟩⟩
                        · rw [if_neg c34] at H
                          exact absurd H (by simp)
                      · rw [if_neg c33] at H
                        exact absurd H (by simp)
                    · rw [if_neg c31] at H
                      exact absurd H (by simp)
                · rw [if_neg c18] at H
                  exact absurd H (by simp)
              · rw [if_neg c17] at H
                exact absurd H (by simp)
            · rw [if_neg c15] at H
              have c15b0 : decide (x28_1 < (y305.length : Int)) = false := decide_eq_false c15
              (try (have c15b0z0 := c15b0; rw [hl7_1] at c15b0z0))
              clear c15
              replace H := Option.bind_eq_some_iff.mp H
              obtain ⟨t312, A380, H⟩ := H
              replace H : (some t312) = some r := H
              have A38 := Aside0.mk A380
              clear A380
              obtain rfl := Option.some.inj H
              (try (have HL_ := Aside0.mk (Kd.R_reads' HO_7.out).1; replace HO_7 := Aside0.mk (r_relen HO_7.out)))
              go_wp2_with (((with_reducible refine gate_callee (f := 95) rfl ?_); refine goesL_ (some 65) rfl rfl Try.func95 (by kernel_rfl) rfl #[.slice Ao14 x7_1.length co14] rfl (by (try simp only [List.map_toArray, List.map_cons, List.map_nil]); rfl) ?_; (with_reducible refine (nat_trim_own.calls k1 (fun k_ => some k_ = (.slice Ao14 x7_1.length co14 : Value).ownBlock) (.slice Ao14 x7_1.length co14) x7_1 t312 w _ ?side1 ?side2 A38.out).mono ?_); (case side1 => repeat ((with_reducible exact HB.out))); (case side2 => exact Kd.R_tight rfl HO_7.out); rintro e w39 ⟨v313, rfl, ho0, hb, hkp⟩; refine ⟨_, rfl, ?_⟩; have n0_ := Aside0.mk (Kd.V_mono (ok' := fun k_ => some k_ ≠ (v313 : Value).ownBlock) (Kd.V_keptB (HO_0.out) hkp (fun k_ hk_ hs_ => (hk_) hs_)) (fun k_ hk_ => fun e_ => Or.elim (ho0.1 k_ e_.symm) (fun hs_ => hk_.2.1 hs_) (fun hn_ => Nat.not_le.2 hk_.2.2 hn_))); have n1_ := Aside0.mk (Kd.R_mono (ok' := fun k_ => True) ho0 (fun k_ hk_ => trivial)); have n2_ := Aside0.mk (hb); clear HO_0; clear HB; clear HO_7; have HO_0 := n0_; have HO314 := n1_; have HB := n2_; clear n0_ n1_ n2_; (try clear hb); (try clear hkp); (try clear ho0)))
              go_ret
              exact ⟨_, by rfl, by exact HO314.out, by repeat ((with_reducible exact HB.out))⟩
      · rw [if_neg c9] at H
        exact absurd H (by simp)
    · rw [if_neg c8] at H
      exact absurd H (by simp)

/-! ### bits_LeadingZeros32: function 107 -/
def bits_LeadingZeros32.f (a0 : Int) : Option (Int) := (bits_Len32.f a0).bind fun t315 => (some (wrap64 (32 - t315)))
set_option maxHeartbeats 8000000 in
set_option maxRecDepth 100000 in
theorem bits_LeadingZeros32.calls (a0 : Int) (r : Int) (w : World) (h : bits_LeadingZeros32.f a0 = some r) :
    Calls Try.prog 107 #[.int .u32 a0] w fun e w' => e = .returned (.int .i64 r) ∧ Drawn0 w w' := by
  have H : ((bits_Len32.f a0).bind fun t315 => (some (wrap64 (32 - t315)))) = some r := h
  clear h
  replace H := Option.bind_eq_some_iff.mp H
  obtain ⟨t315, A20, H⟩ := H
  replace H : (some (wrap64 (32 - t315))) = some r := H
  have A2 := Aside0.mk A20
  clear A20
  obtain rfl := Option.some.inj H
  go_enter Try.func107, Try.ntmps107
  go_wp2_with (((with_reducible refine gate_callee (f := 101) rfl ?_); refine goesL_ (some 4) rfl rfl Try.func101 (by kernel_rfl) rfl #[.int .u32 a0] rfl (by (try simp only [List.map_toArray, List.map_cons, List.map_nil]); rfl) ?_; (with_reducible refine (bits_Len32.calls a0 t315 _ A2.out).mono ?_); rintro e w' ⟨rfl, ⟨nd, rfl⟩⟩; refine ⟨_, rfl, ?_⟩))
  go_ret
  exact ⟨by rfl, by repeat (first | exact Drawn0.refl _ | apply Drawn0.step)⟩

-- NOT PRINTED: function 108 (nat_digit)

end Go.Proofs.Ytmbmbmkmjbpcpaa.PA

