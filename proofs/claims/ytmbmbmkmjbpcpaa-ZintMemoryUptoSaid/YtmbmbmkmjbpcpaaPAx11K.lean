-- printed by a program of this session
import Derived.Test.YtmbmbmkmjbpcpaaPAx0K
import Derived.Test.YtmbmbmkmjbpcpaaPAx1K
namespace Go.Proofs.Ytmbmbmkmjbpcpaa.PA
open Go.RowKit Go.Proofs.YtmbmbmkmjbpcpaaW.PrintWords Go.Proofs.YtmbmbmkmjbpcpaaW.PrintLast Go.Proofs.YtmbmbmkmjbpcpaaW.PrintMore
attribute [local go_sem] max2_int min2_int max_two min_two max_three min_three max_four min_four   -- for this text's walks alone
set_option linter.unusedVariables false
set_option linter.unusedSimpArgs false

-- NOT PRINTED: function 43 (trammelref02_Read)

-- NOT PRINTED: function 6 (trammellaw02_ZintTexts)

-- NOT PRINTED: function 44 (trammellaw02_alive)

-- NOT PRINTED: function 7 (trammellaw02_ZintRing)

/-! ### nat_shl: function 104 -/
def nat_shl.l0 : Nat → List Int → Int → Int → List Int → Int → Int → Option (List Int)
  | 0, _, _, _, _, _, _ => none
  | k + 1, x0, x5, x6, x7, x27, x28 => if x28 < x27 then (if 0 ≤ x28 then (if x28 < (x0.length : Int) then (if 0 ≤ x6 then (if 0 ≤ (wrap64 (x28 + x5)) then (if (wrap64 (x28 + x5)) < (x7.length : Int) then (if 0 ≤ (wrap64 ((wrap64 (x28 + x5)) + 1)) then (if (wrap64 ((wrap64 (x28 + x5)) + 1)) < (x7.length : Int) then (nat_shl.l0 k x0 x5 x6 ((x7.set ((wrap64 (x28 + x5)) : Int).toNat (Go.bits .or .u32 (rd x7 (wrap64 (x28 + x5))) ((shl .u64 (IntKind.u64.wrap (rd x0 x28)) x6) % 4294967296))).set ((wrap64 ((wrap64 (x28 + x5)) + 1)) : Int).toNat (((shl .u64 (IntKind.u64.wrap (rd x0 x28)) x6) / 4294967296) % 4294967296)) x27 (wrap64 (x28 + 1))) else (none)) else (none)) else (none)) else (none)) else (none)) else (none)) else (none)) else ((nat_trim_own.f k x7).bind fun t299 => (some t299))
def nat_shl.f (k : Nat) (l0 : List Int) (a1 : Int) : Option (List Int) := (nat_trim.f k l0).bind fun t289 => (if (t289.length : Int) = 0 then (some ([] : List Int)) else (if 0 ≤ (wrap64 ((wrap64 ((t289.length : Int) + (wrap64 (Int.tdiv a1 32)))) + 1)) then (if (wrap64 ((wrap64 ((t289.length : Int) + (wrap64 (Int.tdiv a1 32)))) + 1) : Int).toNat ≤ 70368744177664 then (nat_shl.l0 k t289 (wrap64 (Int.tdiv a1 32)) (IntKind.u64.wrap (Int.tmod a1 32)) (List.replicate (wrap64 ((wrap64 ((t289.length : Int) + (wrap64 (Int.tdiv a1 32)))) + 1) : Int).toNat 0) (t289.length : Int) 0) else (none)) else (none)))
set_option maxHeartbeats 8000000 in
set_option maxRecDepth 100000 in
theorem nat_shl.calls (k : Nat) (A0 : Option Addr) (c0 : Nat) (l0 : List Int) (a1 : Int) (r : List Int) (w : World) (hr0 : Kd.C (Kd.int .u32) w A0 l0.length l0) (hc0 : l0.length ≤ c0) (h : nat_shl.f k l0 a1 = some r) :
    Calls Try.prog 104 #[.slice A0 l0.length c0, .int .i64 a1] w fun e w' => ∃ v0_ : Value, e = .returned (v0_) ∧ Kd.R (Kd.int .u32) 68 w' w.heap.size (fun _ => True) v0_ r ∧ Below w.heap.size w w' := by
  have HR0 := Aside0.mk hr0
  have HC0 := Aside0.mk hc0
  clear hr0 hc0
  have HB := Aside0.mk (Below.refl w.heap.size w)
  have H : ((nat_trim.f k l0).bind fun t289 => (if (t289.length : Int) = 0 then (some ([] : List Int)) else (if 0 ≤ (wrap64 ((wrap64 ((t289.length : Int) + (wrap64 (Int.tdiv a1 32)))) + 1)) then (if (wrap64 ((wrap64 ((t289.length : Int) + (wrap64 (Int.tdiv a1 32)))) + 1) : Int).toNat ≤ 70368744177664 then (nat_shl.l0 k t289 (wrap64 (Int.tdiv a1 32)) (IntKind.u64.wrap (Int.tmod a1 32)) (List.replicate (wrap64 ((wrap64 ((t289.length : Int) + (wrap64 (Int.tdiv a1 32)))) + 1) : Int).toNat 0) (t289.length : Int) 0) else (none)) else (none)))) = some r := h
  clear h
  replace H := Option.bind_eq_some_iff.mp H
  obtain ⟨t289, A30, H⟩ := H
  replace H : (if (t289.length : Int) = 0 then (some ([] : List Int)) else (if 0 ≤ (wrap64 ((wrap64 ((t289.length : Int) + (wrap64 (Int.tdiv a1 32)))) + 1)) then (if (wrap64 ((wrap64 ((t289.length : Int) + (wrap64 (Int.tdiv a1 32)))) + 1) : Int).toNat ≤ 70368744177664 then (nat_shl.l0 k t289 (wrap64 (Int.tdiv a1 32)) (IntKind.u64.wrap (Int.tmod a1 32)) (List.replicate (wrap64 ((wrap64 ((t289.length : Int) + (wrap64 (Int.tdiv a1 32)))) + 1) : Int).toNat 0) (t289.length : Int) 0) else (none)) else (none))) = some r := H
  have A3 := Aside0.mk A30
  clear A30
  by_cases c4 : (t289.length : Int) = 0
  · rw [if_pos c4] at H
    have c4b0 : ((t289.length : Int) == 0) = true := beq_iff_eq.mpr c4
    have c4b1 : ((t289.length : Int) != 0) = false := bne_eq_false_iff_eq.mpr c4
    clear c4
    obtain rfl := Option.some.inj H
    go_enter Try.func104, Try.ntmps104
    go_wp2_with (((with_reducible refine gate_callee (f := 95) rfl ?_); refine goesL_ (some 11) rfl rfl Try.func95 (by kernel_rfl) rfl #[.slice A0 l0.length c0] rfl (by (try simp only [List.map_toArray, List.map_cons, List.map_nil]); rfl) ?_; (with_reducible refine (nat_trim.calls k (fun k_ => k_ < w.heap.size) _ _ l0 t289 _ ?side1 A3.out).mono ?_); (case side1 => exact Kd.V_mk HC0.out (Kd.F_below (Kd.C_F (Kd.heap_int .u32) HR0.out) (by repeat ((with_reducible exact HB.out))))); rintro e w5 ⟨v290, rfl, ho0, hb⟩; refine ⟨_, rfl, ?_⟩; have n0_ := Aside0.mk (Kd.V_lower (Kd.V_mono (ok' := fun k_ => True) ho0 (fun k_ hk_ => trivial)) (below_size (by repeat ((with_reducible exact HB.out))))); have n1_ := Aside0.mk (below_step (by repeat ((with_reducible exact HB.out))) hb); clear HB; have HO291 := n0_; have HB := n1_; clear n0_ n1_; (try clear hb); (try clear ho0); obtain ⟨Ao6, co6, eo6⟩ := Kd.V_slice HO291.out; subst eo6))
    go_ret
    exact ⟨_, by rfl, by exact Kd.R_nil _ _ _ _ _, by repeat ((with_reducible exact HB.out))⟩
  · rw [if_neg c4] at H
    have c4b0 : ((t289.length : Int) == 0) = false := beq_eq_false_iff_ne.mpr c4
    have c4b1 : ((t289.length : Int) != 0) = true := bne_iff_ne.mpr c4
    have c4b2 : ¬ (t289 = []) := fun h_ => c4 (by rw [h_]; rfl)
    obtain ⟨ji7, hji7⟩ : ∃ j_ : Int, (wrap64 ((wrap64 ((t289.length : Int) + (wrap64 (Int.tdiv a1 32)))) + 1)) = j_ := ⟨_, rfl⟩
    replace H : (if 0 ≤ (ji7) then (if (ji7 : Int).toNat ≤ 70368744177664 then (nat_shl.l0 k t289 (wrap64 (Int.tdiv a1 32)) (IntKind.u64.wrap (Int.tmod a1 32)) (List.replicate (ji7 : Int).toNat 0) (t289.length : Int) 0) else (none)) else (none)) = some r := by (rw [hji7] at H; exact H)
    have hji7w : (IntKind.i64.wrap ((wrap64 ((t289.length : Int) + (wrap64 (Int.tdiv a1 32)))) + 1)) = ji7 := (i64_w _).trans hji7
    by_cases c8 : 0 ≤ (ji7)
    · rw [if_pos c8] at H
      have c8b0 := eq_true c8
      have c8b1 : decide (0 ≤ (ji7)) = true := decide_eq_true c8
      clear c8
      by_cases c9 : (ji7 : Int).toNat ≤ 70368744177664
      · rw [if_pos c9] at H
        have c9b0 := eq_true c9
        have c9b1 : decide ((ji7 : Int).toNat ≤ 70368744177664) = true := decide_eq_true c9
        clear c9
        obtain ⟨y292, hy292⟩ : ∃ y_ : List Int, y_ = (List.replicate (ji7 : Int).toNat 0) := ⟨_, rfl⟩
        replace H : (nat_shl.l0 k t289 (wrap64 (Int.tdiv a1 32)) (IntKind.u64.wrap (Int.tmod a1 32)) y292 (t289.length : Int) 0) = some r := by (rw [hy292]; with_reducible exact H)
        have Ny292 := Aside0.mk hy292
        clear hy292
        have H' := Aside0.mk H
        clear H
        go_enter Try.func104, Try.ntmps104
        go_wp2_with (first | ((with_reducible refine gate_callee (f := 95) rfl ?_); refine goesL_ (some 11) rfl rfl Try.func95 (by kernel_rfl) rfl #[.slice A0 l0.length c0] rfl (by (try simp only [List.map_toArray, List.map_cons, List.map_nil]); rfl) ?_; (with_reducible refine (nat_trim.calls k (fun k_ => k_ < w.heap.size) _ _ l0 t289 _ ?side1 A3.out).mono ?_); (case side1 => exact Kd.V_mk HC0.out (Kd.F_below (Kd.C_F (Kd.heap_int .u32) HR0.out) (by repeat ((with_reducible exact HB.out))))); rintro e w10 ⟨v290, rfl, ho0, hb⟩; refine ⟨_, rfl, ?_⟩; have n0_ := Aside0.mk (Kd.V_lower (Kd.V_mono (ok' := fun k_ => True) ho0 (fun k_ hk_ => trivial)) (below_size (by repeat ((with_reducible exact HB.out))))); have n1_ := Aside0.mk (below_step (by repeat ((with_reducible exact HB.out))) hb); clear HB; have HO291 := n0_; have HB := n1_; clear n0_ n1_; (try clear hb); (try clear ho0); obtain ⟨Ao11, co11, eo11⟩ := Kd.V_slice HO291.out; subst eo11) | ((with_reducible refine gate_dst (N := 25) rfl ?_); refine Kd.R_make (Kd.int .u32) _ 68 rfl (N := 25) rfl 23 _ _ rfl ji7 rfl rfl Try.underlying23 (.int .u32 0) 4 info68 rfl (by decide) (by omega) 0 (ok := fun _ => True) (okp := fun _ => True) rfl (fun _ hk => hk) trivial (of_decide_eq_true (by (with_reducible assumption))) (Nat.le_trans (Nat.mul_le_mul_right _ (of_decide_eq_true (by (with_reducible assumption)) : ji7.toNat ≤ 70368744177664)) (by omega)) (Below.refl _ _) (Nat.le_refl _) ?_; intro v293 w12 ho13 hb hg_ hnew_; clear hg_ hnew_; (rw [← Ny292.out] at ho13); have n0_ := Aside0.mk (Kd.V_elder' (by exact HO291.out) (Kd.R_base ho13) hb); have n1_ := Aside0.mk (Kd.R_lower ho13 (below_size (by repeat ((with_reducible exact HB.out))))); have n2_ := Aside0.mk (below_step (by repeat ((with_reducible exact HB.out))) hb); clear HO291; clear HB; have HO291 := n0_; have HO294 := n1_; have HB := n2_; clear n0_ n1_ n2_; clear hb ho13))
        go_loopg [28] k (fun kq v28 w' => ∃ (x7_1 : List Int) (x28_1 : Int), v28 = .int .i64 x28_1 ∧ Aside0 (nat_shl.l0 kq t289 (wrap64 (Int.tdiv a1 32)) (IntKind.u64.wrap (Int.tmod a1 32)) x7_1 (t289.length : Int) x28_1 = some r) ∧ Aside0 (kq ≤ k) ∧ Aside0 (Kd.V (Kd.int .u32) 68 w' w.heap.size (fun k_ => some k_ ≠ (v293 : Value).ownBlock) (.slice Ao11 t289.length co11) t289) ∧ Aside0 (Kd.R (Kd.int .u32) 68 w' w.heap.size (fun _ => True) v293 x7_1) ∧ Aside0 (Below w.heap.size w w'))
        case atStart => exact ⟨(y292), (0), (by rfl), H', ⟨Nat.le_refl _⟩, ⟨by exact Kd.V_mono HO291.out (fun _ hk => hk.2)⟩, ⟨by exact HO294.out⟩, ⟨by repeat ((with_reducible exact HB.out))⟩⟩
        case round =>
          clear H'
          skip
          skip
          try clear c4
          try clear c4b0
          try clear c4b1
          try clear c4b2
          skip
          skip
          try clear c8b0
          try clear c8b1
          skip
          try clear c9b0
          try clear c9b1
          skip
          obtain ⟨x7_1, x28_1, rfl, HA, HK1, HO_0, HO_7, HB⟩ := hrel
          cases gk with
          | zero => exact absurd HA.out (by simp [nat_shl.l0])
          | succ k1 =>
            have H := HA.out
            clear HA
            simp only [nat_shl.l0] at H
            by_cases c14 : x28_1 < (t289.length : Int)
            · rw [if_pos c14] at H
              have c14b0 : decide (x28_1 < (t289.length : Int)) = true := decide_eq_true c14
              clear c14
              by_cases c15 : 0 ≤ x28_1
              · rw [if_pos c15] at H
                have c15b0 : decide (0 ≤ x28_1) = true := decide_eq_true c15
                clear c15
                by_cases c16 : x28_1 < (t289.length : Int)
                · rw [if_pos c16] at H
                  have c16b0 : decide (x28_1 < (t289.length : Int)) = true := decide_eq_true c16
                  clear c16
                  obtain ⟨ji17, hji17⟩ : ∃ j_ : Int, (IntKind.u64.wrap (Int.tmod a1 32)) = j_ := ⟨_, rfl⟩
                  replace H : (if 0 ≤ (ji17) then (if 0 ≤ (wrap64 (x28_1 + (wrap64 (Int.tdiv a1 32)))) then (if (wrap64 (x28_1 + (wrap64 (Int.tdiv a1 32)))) < (x7_1.length : Int) then (if 0 ≤ (wrap64 ((wrap64 (x28_1 + (wrap64 (Int.tdiv a1 32)))) + 1)) then (if (wrap64 ((wrap64 (x28_1 + (wrap64 (Int.tdiv a1 32)))) + 1)) < (x7_1.length : Int) then (nat_shl.l0 k1 t289 (wrap64 (Int.tdiv a1 32)) (ji17) ((x7_1.set ((wrap64 (x28_1 + (wrap64 (Int.tdiv a1 32)))) : Int).toNat (Go.bits .or .u32 (rd x7_1 (wrap64 (x28_1 + (wrap64 (Int.tdiv a1 32))))) ((shl .u64 (IntKind.u64.wrap (rd t289 x28_1)) (ji17)) % 4294967296))).set ((wrap64 ((wrap64 (x28_1 + (wrap64 (Int.tdiv a1 32)))) + 1)) : Int).toNat (((shl .u64 (IntKind.u64.wrap (rd t289 x28_1)) (ji17)) / 4294967296) % 4294967296)) (t289.length : Int) (wrap64 (x28_1 + 1))) else (none)) else (none)) else (none)) else (none)) else (none)) = some r := by (rw [hji17] at H; exact H)
                  by_cases c18 : 0 ≤ (ji17)
                  · rw [if_pos c18] at H
                    have c18b0 := eq_true c18
                    have c18b1 : decide (0 ≤ (ji17)) = true := decide_eq_true c18
                    clear c18
                    obtain ⟨ji19, hji19⟩ : ∃ j_ : Int, (shl .u64 (IntKind.u64.wrap (rd t289 x28_1)) (ji17)) = j_ := ⟨_, rfl⟩
                    replace H : (if 0 ≤ (wrap64 (x28_1 + (wrap64 (Int.tdiv a1 32)))) then (if (wrap64 (x28_1 + (wrap64 (Int.tdiv a1 32)))) < (x7_1.length : Int) then (if 0 ≤ (wrap64 ((wrap64 (x28_1 + (wrap64 (Int.tdiv a1 32)))) + 1)) then (if (wrap64 ((wrap64 (x28_1 + (wrap64 (Int.tdiv a1 32)))) + 1)) < (x7_1.length : Int) then (nat_shl.l0 k1 t289 (wrap64 (Int.tdiv a1 32)) (ji17) ((x7_1.set ((wrap64 (x28_1 + (wrap64 (Int.tdiv a1 32)))) : Int).toNat (Go.bits .or .u32 (rd x7_1 (wrap64 (x28_1 + (wrap64 (Int.tdiv a1 32))))) ((ji19) % 4294967296))).set ((wrap64 ((wrap64 (x28_1 + (wrap64 (Int.tdiv a1 32)))) + 1)) : Int).toNat (((ji19) / 4294967296) % 4294967296)) (t289.length : Int) (wrap64 (x28_1 + 1))) else (none)) else (none)) else (none)) else (none)) = some r := by (rw [hji19] at H; exact H)
                    have hji19_ : (IntKind.u64.wrap ((IntKind.u64.wrap (rd t289 x28_1)) * 2 ^ min (ji17).toNat 64)) = ji19 := hji19
                    have hji19z : (ji17) ≤ 64 → (IntKind.u64.wrap ((IntKind.u64.wrap (rd t289 x28_1)) * 2 ^ (ji17).toNat)) = ji19 := shl_small hji19
                    obtain ⟨ji20, hji20⟩ : ∃ j_ : Int, (wrap64 (x28_1 + (wrap64 (Int.tdiv a1 32)))) = j_ := ⟨_, rfl⟩
                    replace H : (if 0 ≤ (ji20) then (if (ji20) < (x7_1.length : Int) then (if 0 ≤ (wrap64 ((ji20) + 1)) then (if (wrap64 ((ji20) + 1)) < (x7_1.length : Int) then (nat_shl.l0 k1 t289 (wrap64 (Int.tdiv a1 32)) (ji17) ((x7_1.set ((ji20) : Int).toNat (Go.bits .or .u32 (rd x7_1 (ji20)) ((ji19) % 4294967296))).set ((wrap64 ((ji20) + 1)) : Int).toNat (((ji19) / 4294967296) % 4294967296)) (t289.length : Int) (wrap64 (x28_1 + 1))) else (none)) else (none)) else (none)) else (none)) = some r := by (rw [hji20] at H; exact H)
                    have hji20w : (IntKind.i64.wrap (x28_1 + (wrap64 (Int.tdiv a1 32)))) = ji20 := (i64_w _).trans hji20
                    by_cases c21 : 0 ≤ (ji20)
                    · rw [if_pos c21] at H
                      have c21b0 : decide (0 ≤ (ji20)) = true := decide_eq_true c21
                      clear c21
                      by_cases c22 : (ji20) < (x7_1.length : Int)
                      · rw [if_pos c22] at H
                        have c22b0 : decide ((ji20) < (x7_1.length : Int)) = true := decide_eq_true c22
                        clear c22
                        obtain ⟨y297, hy297⟩ : ∃ y_ : List Int, y_ = (x7_1.set ((ji20) : Int).toNat (Go.bits .or .u32 (rd x7_1 (ji20)) ((ji19) % 4294967296))) := ⟨_, rfl⟩
                        replace H : (if 0 ≤ (wrap64 ((ji20) + 1)) then (if (wrap64 ((ji20) + 1)) < (x7_1.length : Int) then (nat_shl.l0 k1 t289 (wrap64 (Int.tdiv a1 32)) (ji17) (y297.set ((wrap64 ((ji20) + 1)) : Int).toNat (((ji19) / 4294967296) % 4294967296)) (t289.length : Int) (wrap64 (x28_1 + 1))) else (none)) else (none)) = some r := by (rw [hy297]; with_reducible exact H)
                        have Ny297 := Aside0.mk hy297
                        clear hy297
                        obtain ⟨ji24, hji24⟩ : ∃ j_ : Int, (wrap64 ((ji20) + 1)) = j_ := ⟨_, rfl⟩
                        replace H : (if 0 ≤ (ji24) then (if (ji24) < (x7_1.length : Int) then (nat_shl.l0 k1 t289 (wrap64 (Int.tdiv a1 32)) (ji17) (y297.set ((ji24) : Int).toNat (((ji19) / 4294967296) % 4294967296)) (t289.length : Int) (wrap64 (x28_1 + 1))) else (none)) else (none)) = some r := by (rw [hji24] at H; exact H)
                        have hji24w : (IntKind.i64.wrap ((ji20) + 1)) = ji24 := (i64_w _).trans hji24
                        by_cases c25 : 0 ≤ (ji24)
                        · rw [if_pos c25] at H
                          have c25b0 : decide (0 ≤ (ji24)) = true := decide_eq_true c25
                          clear c25
                          by_cases c26 : (ji24) < (x7_1.length : Int)
                          · rw [if_pos c26] at H
                            have c26b0 : decide ((ji24) < (x7_1.length : Int)) = true := decide_eq_true c26
                            clear c26
                            obtain ⟨y298, hy298⟩ : ∃ y_ : List Int, y_ = (y297.set ((ji24) : Int).toNat (((ji19) / 4294967296) % 4294967296)) := ⟨_, rfl⟩
                            replace H : (nat_shl.l0 k1 t289 (wrap64 (Int.tdiv a1 32)) (ji17) y298 (t289.length : Int) (wrap64 (x28_1 + 1))) = some r := by (rw [hy298]; with_reducible exact H)
                            have Ny298 := Aside0.mk hy298
                            clear hy298
                            have H' := Aside0.mk H
                            clear H
                            have p295 : 0 ≤ (x28_1 : Int) := of_decide_eq_true (by (with_reducible assumption))
                            have q295 : x28_1 < (t289.length : Int) := of_decide_eq_true (by (with_reducible assumption))
                            obtain ⟨ad295, e295, hx295_0⟩ := Kd.at_int (Kd.V_reads' HO_0.out).2.2 x28_1 p295 q295
                            cases e295
                            replace p295 := eq_true p295
                            replace q295 := eq_true q295
                            obtain ⟨Ao28, co28, eo28⟩ := Kd.R_slice HO_7.out
                            subst eo28
                            have p296 : 0 ≤ ((ji20) : Int) := of_decide_eq_true (by (with_reducible assumption))
                            have q296 : (ji20) < (x7_1.length : Int) := of_decide_eq_true (by (with_reducible assumption))
                            obtain ⟨ad296, e296, hx296_0⟩ := Kd.at_int (Kd.R_reads' HO_7.out).2.2 (ji20) p296 q296
                            cases e296
                            replace p296 := eq_true p296
                            replace q296 := eq_true q296
                            have p23 : 0 ≤ ((ji20) : Int) := of_decide_eq_true (by (with_reducible assumption))
                            have q23 : ((ji20) : Int) < ((x7_1.length : Int) : Int) := of_decide_eq_true (by (with_reducible assumption))
                            obtain ⟨go23, co23, eo23, gb23, gl23, cl23, HG23⟩ := Kd.R_form HO_7.out (by omega)
                            (cases eo23)
                            have GB23 := Aside0.mk gb23
                            have GG23 := Aside0.mk HG23
                            clear gb23 gl23 HG23
                            (simp only [add_plain] at hx296_0)
                            obtain ⟨hx23_0, hf23_0⟩ := Kd.R_celln 0 HO_7.out ((ji20) : Int) p23 q23
                            replace p23 := eq_true p23
                            replace q23 := eq_true q23
                            have HP29 := Kd.R_putg HO_7.out ((ji20) : Int) (Go.bits .or .u32 (rd x7_1 (ji20)) ((ji19) % 4294967296))
                            go_wp2_with (first | ((with_reducible refine gate_store (t := 68) (p := 47) rfl ?_); refine store_event (t := 68) (p := 47) (v := ?vo_w30) (w1 := (wr.setCell ⟨go23, ((ji20) : Int).toNat, none⟩ (.int .u32 (Go.bits .or .u32 (rd x7_1 (ji20)) ((ji19) % 4294967296))))) ?hg ?ho ?hn ?hr ?_; (case ho => rfl); (case hg => rfl); (case hn => rfl); (case hr => (go_simp; done)); intro w30 hw; have hg : wr.grownBy w30 (some go23) := (by rw [hw]; exact HP29.2); have hp_ : Kd.R (Kd.int .u32) 68 w30 w.heap.size (fun _ => True) (.slice (some ⟨go23, 0, none⟩) x7_1.length co28) y297 := (by rw [hw, Ny297.out]; exact HP29.1); clear HP29; have n0_ := Aside0.mk (Kd.V_afterv (v := (.slice (some ⟨go23, 0, none⟩) x7_1.length co28)) (v1 := (.slice (some ⟨go23, 0, none⟩) x7_1.length co28)) (ok := (fun _ => True)) (by exact Kd.V_mono HO_0.out (fun _ hk => ⟨trivial, hk⟩)) hg (.inl rfl)); have n1_ := Aside0.mk (hp_); have n2_ := Aside0.mk ((by rw [hw]; exact below_set (HB.out) GB23.out : Below w.heap.size w w30)); clear HO_0; clear HO_7; clear HB; have HO_0 := n0_; have HO_7 := n1_; have HB := n2_; clear n0_ n1_ n2_; clear hg hw hp_; have p27 : 0 ≤ ((ji24) : Int) := of_decide_eq_true (by (with_reducible assumption)); have q27 : ((ji24) : Int) < ((x7_1.length : Int) : Int) := of_decide_eq_true (by (with_reducible assumption)); obtain ⟨hx27_0, hf27_0⟩ := Kd.R_celln 0 HO_7.out ((ji24) : Int) p27 q27; replace p27 := eq_true p27; replace q27 := eq_true q27; obtain ⟨hy31_, hz31_⟩ := Kd.R_celln 0 HO_7.out ((ji24) : Int) (of_decide_eq_true (by (with_reducible assumption))) (of_decide_eq_true (by (with_reducible assumption))); have HP31 := Kd.R_putg HO_7.out ((ji24) : Int) (((ji19) / 4294967296) % 4294967296)) | ((with_reducible refine gate_store (t := 68) (p := 56) rfl ?_); refine store_event (t := 68) (p := 56) (v := ?vo_w32) (w1 := (w30.setCell ⟨go23, ((ji24) : Int).toNat, none⟩ (.int .u32 (((ji19) / 4294967296) % 4294967296)))) ?hg ?ho ?hn ?hr ?_; (case ho => rfl); (case hg => rfl); (case hn => rfl); (case hr => (go_simp; done)); intro w32 hw; have hg : w30.grownBy w32 (some go23) := (by rw [hw]; exact HP31.2); have hp_ : Kd.R (Kd.int .u32) 68 w32 w.heap.size (fun _ => True) (.slice (some ⟨go23, 0, none⟩) x7_1.length co28) y298 := (by rw [hw, Ny298.out]; exact HP31.1); clear HP31; have n0_ := Aside0.mk (Kd.V_afterv (v := (.slice (some ⟨go23, 0, none⟩) x7_1.length co28)) (v1 := (.slice (some ⟨go23, 0, none⟩) x7_1.length co28)) (ok := (fun _ => True)) (by exact HO_0.out) hg (.inl rfl)); have n1_ := Aside0.mk (hp_); have n2_ := Aside0.mk ((by rw [hw]; exact below_set (HB.out) GB23.out : Below w.heap.size w w32)); clear HO_0; clear HO_7; clear HB; have HO_0 := n0_; have HO_7 := n1_; have HB := n2_; clear n0_ n1_ n2_; clear hg hw hp_))
                            (try subst hji7)
                            (try subst hji17)
                            (try subst hji24)
                            go_roundg k1
                            case measure => have := HK1.out; omega
                            case rel => exact ⟨(y298), (wrap64 (x28_1 + 1)), (by rfl), (by with_reducible exact H'), ⟨by have := HK1.out; omega⟩, ⟨by exact Kd.V_mono HO_0.out (fun _ hk => hk.2)⟩, ⟨by exact HO_7.out⟩, ⟨by repeat ((with_reducible exact HB.out))⟩⟩
                          · rw [if_neg c26] at H
                            exact absurd H (by simp)
                        · rw [if_neg c25] at H
                          exact absurd H (by simp)
                      · rw [if_neg c22] at H
                        exact absurd H (by simp)
                    · rw [if_neg c21] at H
                      exact absurd H (by simp)
                  · rw [if_neg c18] at H
                    exact absurd H (by simp)
                · rw [if_neg c16] at H
                  exact absurd H (by simp)
              · rw [if_neg c15] at H
                exact absurd H (by simp)
            · rw [if_neg c14] at H
              have c14b0 : decide (x28_1 < (t289.length : Int)) = false := decide_eq_false c14
              clear c14
              replace H := Option.bind_eq_some_iff.mp H
              obtain ⟨t299, A330, H⟩ := H
              replace H : (some t299) = some r := H
              have A33 := Aside0.mk A330
              clear A330
              obtain rfl := Option.some.inj H
              obtain ⟨Ao34, co34, eo34⟩ := Kd.R_slice HO_7.out
              subst eo34
              (try (have HL_ := Aside0.mk (Kd.R_reads' HO_7.out).1; replace HO_7 := Aside0.mk (r_relen HO_7.out)))
              go_wp2_with (((with_reducible refine gate_callee (f := 95) rfl ?_); refine goesL_ (some 59) rfl rfl Try.func95 (by kernel_rfl) rfl #[.slice Ao34 x7_1.length co34] rfl (by (try simp only [List.map_toArray, List.map_cons, List.map_nil]); rfl) ?_; (with_reducible refine (nat_trim_own.calls k1 (fun k_ => some k_ = (.slice Ao34 x7_1.length co34 : Value).ownBlock) (.slice Ao34 x7_1.length co34) x7_1 t299 w _ ?side1 ?side2 A33.out).mono ?_); (case side1 => repeat ((with_reducible exact HB.out))); (case side2 => exact Kd.R_tight rfl HO_7.out); rintro e w35 ⟨v300, rfl, ho0, hb, hkp⟩; refine ⟨_, rfl, ?_⟩; have n0_ := Aside0.mk (Kd.V_mono (ok' := fun k_ => some k_ ≠ (v300 : Value).ownBlock) (Kd.V_keptB (HO_0.out) hkp (fun k_ hk_ hs_ => (hk_) hs_)) (fun k_ hk_ => fun e_ => Or.elim (ho0.1 k_ e_.symm) (fun hs_ => hk_.2.1 hs_) (fun hn_ => Nat.not_le.2 hk_.2.2 hn_))); have n1_ := Aside0.mk (Kd.R_mono (ok' := fun k_ => True) ho0 (fun k_ hk_ => trivial)); have n2_ := Aside0.mk (hb); clear HO_0; clear HB; clear HO_7; have HO_0 := n0_; have HO301 := n1_; have HB := n2_; clear n0_ n1_ n2_; (try clear hb); (try clear hkp); (try clear ho0)))
              go_ret
              exact ⟨_, by rfl, by exact HO301.out, by repeat ((with_reducible exact HB.out))⟩
      · rw [if_neg c9] at H
        exact absurd H (by simp)
    · rw [if_neg c8] at H
      exact absurd H (by simp)

end Go.Proofs.Ytmbmbmkmjbpcpaa.PA

