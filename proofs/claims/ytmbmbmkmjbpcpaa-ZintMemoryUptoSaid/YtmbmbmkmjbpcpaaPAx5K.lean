-- printed by a program of this session
import Derived.Test.YtmbmbmkmjbpcpaaPAx0K
import Derived.Test.YtmbmbmkmjbpcpaaPAx1K
namespace Go.Proofs.Ytmbmbmkmjbpcpaa.PA
open Go.RowKit Go.Proofs.YtmbmbmkmjbpcpaaW.PrintWords Go.Proofs.YtmbmbmkmjbpcpaaW.PrintLast Go.Proofs.YtmbmbmkmjbpcpaaW.PrintMore
attribute [local go_sem] max2_int min2_int max_two min_two max_three min_three max_four min_four   -- for this text's walks alone
set_option linter.unusedVariables false
set_option linter.unusedSimpArgs false

/-! ### nat_Mul: function 77 -/
mutual
def nat_Mul.l0 : Nat → List Int → List Int → List Int → Int → Int → Option (List Int)
  | 0, _, _, _, _, _ => none
  | k + 1, x0, x1, x5, x20, x21 => if x21 < x20 then (nat_Mul.l1 k x0 x1 x5 x21 0 x20 x21 (x1.length : Int) 0) else ((nat_trim_own.f k x5).bind fun t197 => (some t197))
def nat_Mul.l1 : Nat → List Int → List Int → List Int → Int → Int → Int → Int → Int → Int → Option (List Int)
  | 0, _, _, _, _, _, _, _, _, _ => none
  | k + 1, x0, x1, x5, x6, x7, x20, x21, x25, x26 => if x26 < x25 then (if 0 ≤ x6 then (if x6 < (x0.length : Int) then (if 0 ≤ x26 then (if x26 < (x1.length : Int) then (if 0 ≤ (wrap64 (x6 + x26)) then (if (wrap64 (x6 + x26)) < (x5.length : Int) then (nat_Mul.l1 k x0 x1 (x5.set ((wrap64 (x6 + x26)) : Int).toNat ((IntKind.u64.wrap (x7 + (IntKind.u64.wrap ((IntKind.u64.wrap ((IntKind.u64.wrap (rd x0 x6)) * (IntKind.u64.wrap (rd x1 x26)))) + (IntKind.u64.wrap (rd x5 (wrap64 (x6 + x26)))))))) % 4294967296)) x6 ((IntKind.u64.wrap (x7 + (IntKind.u64.wrap ((IntKind.u64.wrap ((IntKind.u64.wrap (rd x0 x6)) * (IntKind.u64.wrap (rd x1 x26)))) + (IntKind.u64.wrap (rd x5 (wrap64 (x6 + x26)))))))) / 4294967296) x20 x21 x25 (wrap64 (x26 + 1))) else (none)) else (none)) else (none)) else (none)) else (none)) else (none)) else (if 0 ≤ (wrap64 (x6 + (x1.length : Int))) then (if (wrap64 (x6 + (x1.length : Int))) < (x5.length : Int) then (nat_Mul.l0 k x0 x1 (x5.set ((wrap64 (x6 + (x1.length : Int))) : Int).toNat ((x7) % 4294967296)) x20 (wrap64 (x21 + 1))) else (none)) else (none))
end
def nat_Mul.f (k : Nat) (l0 : List Int) (l1 : List Int) : Option (List Int) := (nat_trim.f k l0).bind fun t188 => ((nat_trim.f k l1).bind fun t191 => (if 0 ≤ (wrap64 ((t188.length : Int) + (t191.length : Int))) then (if (wrap64 ((t188.length : Int) + (t191.length : Int)) : Int).toNat ≤ 70368744177664 then (nat_Mul.l0 k t188 t191 (List.replicate (wrap64 ((t188.length : Int) + (t191.length : Int)) : Int).toNat 0) (t188.length : Int) 0) else (none)) else (none)))
set_option maxHeartbeats 8000000 in
set_option maxRecDepth 100000 in
theorem nat_Mul.calls (k : Nat) (A0 : Option Addr) (c0 : Nat) (l0 : List Int) (A1 : Option Addr) (c1 : Nat) (l1 : List Int) (r : List Int) (w : World) (hr0 : Kd.C (Kd.int .u32) w A0 l0.length l0) (hc0 : l0.length ≤ c0) (hr1 : Kd.C (Kd.int .u32) w A1 l1.length l1) (hc1 : l1.length ≤ c1) (h : nat_Mul.f k l0 l1 = some r) :
    Calls Try.prog 77 #[.slice A0 l0.length c0, .slice A1 l1.length c1] w fun e w' => ∃ v0_ : Value, e = .returned (v0_) ∧ Kd.R (Kd.int .u32) 68 w' w.heap.size (fun _ => True) v0_ r ∧ Below w.heap.size w w' := by
  have HR0 := Aside0.mk hr0
  have HC0 := Aside0.mk hc0
  clear hr0 hc0
  have HR1 := Aside0.mk hr1
  have HC1 := Aside0.mk hc1
  clear hr1 hc1
  have HB := Aside0.mk (Below.refl w.heap.size w)
  have H : ((nat_trim.f k l0).bind fun t188 => ((nat_trim.f k l1).bind fun t191 => (if 0 ≤ (wrap64 ((t188.length : Int) + (t191.length : Int))) then (if (wrap64 ((t188.length : Int) + (t191.length : Int)) : Int).toNat ≤ 70368744177664 then (nat_Mul.l0 k t188 t191 (List.replicate (wrap64 ((t188.length : Int) + (t191.length : Int)) : Int).toNat 0) (t188.length : Int) 0) else (none)) else (none)))) = some r := h
  clear h
  replace H := Option.bind_eq_some_iff.mp H
  obtain ⟨t188, A30, H⟩ := H
  replace H : ((nat_trim.f k l1).bind fun t191 => (if 0 ≤ (wrap64 ((t188.length : Int) + (t191.length : Int))) then (if (wrap64 ((t188.length : Int) + (t191.length : Int)) : Int).toNat ≤ 70368744177664 then (nat_Mul.l0 k t188 t191 (List.replicate (wrap64 ((t188.length : Int) + (t191.length : Int)) : Int).toNat 0) (t188.length : Int) 0) else (none)) else (none))) = some r := H
  have A3 := Aside0.mk A30
  clear A30
  replace H := Option.bind_eq_some_iff.mp H
  obtain ⟨t191, A40, H⟩ := H
  replace H : (if 0 ≤ (wrap64 ((t188.length : Int) + (t191.length : Int))) then (if (wrap64 ((t188.length : Int) + (t191.length : Int)) : Int).toNat ≤ 70368744177664 then (nat_Mul.l0 k t188 t191 (List.replicate (wrap64 ((t188.length : Int) + (t191.length : Int)) : Int).toNat 0) (t188.length : Int) 0) else (none)) else (none)) = some r := H
  have A4 := Aside0.mk A40
  clear A40
  obtain ⟨ji5, hji5⟩ : ∃ j_ : Int, (wrap64 ((t188.length : Int) + (t191.length : Int))) = j_ := ⟨_, rfl⟩
  replace H : (if 0 ≤ (ji5) then (if (ji5 : Int).toNat ≤ 70368744177664 then (nat_Mul.l0 k t188 t191 (List.replicate (ji5 : Int).toNat 0) (t188.length : Int) 0) else (none)) else (none)) = some r := by (rw [hji5] at H; exact H)
  have hji5w : (IntKind.i64.wrap ((t188.length : Int) + (t191.length : Int))) = ji5 := (i64_w _).trans hji5
  by_cases c6 : 0 ≤ (ji5)
  · rw [if_pos c6] at H
    have c6b0 := eq_true c6
    have c6b1 : decide (0 ≤ (ji5)) = true := decide_eq_true c6
    clear c6
    by_cases c7 : (ji5 : Int).toNat ≤ 70368744177664
    · rw [if_pos c7] at H
      have c7b0 := eq_true c7
      have c7b1 : decide ((ji5 : Int).toNat ≤ 70368744177664) = true := decide_eq_true c7
      clear c7
      obtain ⟨y194, hy194⟩ : ∃ y_ : List Int, y_ = (List.replicate (ji5 : Int).toNat 0) := ⟨_, rfl⟩
      replace H : (nat_Mul.l0 k t188 t191 y194 (t188.length : Int) 0) = some r := by (rw [hy194]; with_reducible exact H)
      have Ny194 := Aside0.mk hy194
      clear hy194
      have H' := Aside0.mk H
      clear H
      go_enter Try.func77, Try.ntmps77
      go_wp2_with (first | (go_at_call 95; (with_reducible refine (nat_trim.calls k (fun k_ => k_ < w.heap.size) _ _ l0 t188 _ ?side1 A3.out).mono ?_); (case side1 => exact Kd.V_mk HC0.out (Kd.F_below (Kd.C_F (Kd.heap_int .u32) HR0.out) (by repeat ((with_reducible exact HB.out))))); rintro e w8 ⟨v189, rfl, ho0, hb⟩; have n0_ := Aside0.mk (Kd.V_lower (Kd.V_mono (ok' := fun k_ => True) ho0 (fun k_ hk_ => trivial)) (below_size (by repeat ((with_reducible exact HB.out))))); have n1_ := Aside0.mk (below_step (by repeat ((with_reducible exact HB.out))) hb); clear HB; have HO190 := n0_; have HB := n1_; clear n0_ n1_; (try clear hb); (try clear ho0)) | (go_at_call 95; (with_reducible refine (nat_trim.calls k (fun k_ => k_ < w.heap.size) _ _ l1 t191 _ ?side1 A4.out).mono ?_); (case side1 => exact Kd.V_mk HC1.out (Kd.F_below (Kd.C_F (Kd.heap_int .u32) HR1.out) (by repeat ((with_reducible exact HB.out))))); rintro e w9 ⟨v192, rfl, ho0, hb⟩; have n0_ := Aside0.mk (Kd.V_below (by exact HO190.out) hb); have n1_ := Aside0.mk (Kd.V_lower (Kd.V_mono (ok' := fun k_ => True) ho0 (fun k_ hk_ => trivial)) (below_size (by repeat ((with_reducible exact HB.out))))); have n2_ := Aside0.mk (below_step (by repeat ((with_reducible exact HB.out))) hb); clear HO190; clear HB; have HO190 := n0_; have HO193 := n1_; have HB := n2_; clear n0_ n1_ n2_; (try clear hb); (try clear ho0); obtain ⟨Ao10, co10, eo10⟩ := Kd.V_slice HO190.out; subst eo10; obtain ⟨Ao11, co11, eo11⟩ := Kd.V_slice HO193.out; subst eo11) | ((with_reducible refine gate_dst (N := 18) rfl ?_); refine Kd.R_make (Kd.int .u32) _ 68 rfl (N := 18) rfl 23 _ _ rfl ji5 rfl rfl Try.underlying23 (.int .u32 0) 4 info68 rfl (by decide) (by omega) 0 (ok := fun _ => True) (okp := fun _ => True) rfl (fun _ hk => hk) trivial (of_decide_eq_true (by (with_reducible assumption))) (Nat.le_trans (Nat.mul_le_mul_right _ (of_decide_eq_true (by (with_reducible assumption)) : ji5.toNat ≤ 70368744177664)) (by omega)) (Below.refl _ _) (Nat.le_refl _) ?_; intro v195 w12 ho13 hb hg_ hnew_; clear hg_ hnew_; (rw [← Ny194.out] at ho13); have n0_ := Aside0.mk (Kd.V_elder' (by exact HO190.out) (Kd.R_base ho13) hb); have n1_ := Aside0.mk (Kd.V_elder' (by exact HO193.out) (Kd.R_base ho13) hb); have n2_ := Aside0.mk (Kd.R_lower ho13 (below_size (by repeat ((with_reducible exact HB.out))))); have n3_ := Aside0.mk (below_step (by repeat ((with_reducible exact HB.out))) hb); clear HO190; clear HO193; clear HB; have HO190 := n0_; have HO193 := n1_; have HO196 := n2_; have HB := n3_; clear n0_ n1_ n2_ n3_; clear hb ho13))
      repeat (go_quiet (fail); skip)
      go_loopg [21] k (fun kq v21 w' => ∃ (x5_1 : List Int) (x21_1 : Int), v21 = .int .i64 x21_1 ∧ Aside0 (nat_Mul.l0 kq t188 t191 x5_1 (t188.length : Int) x21_1 = some r) ∧ Aside0 (kq ≤ k) ∧ Aside0 (Kd.V (Kd.int .u32) 68 w' w.heap.size (fun k_ => some k_ ≠ (v195 : Value).ownBlock) (.slice Ao10 t188.length co10) t188) ∧ Aside0 (Kd.V (Kd.int .u32) 68 w' w.heap.size (fun k_ => some k_ ≠ (v195 : Value).ownBlock) (.slice Ao11 t191.length co11) t191) ∧ Aside0 (Kd.R (Kd.int .u32) 68 w' w.heap.size (fun _ => True) v195 x5_1) ∧ Aside0 (Below w.heap.size w w'))
      case atStart => exact ⟨(y194), (0), (by rfl), H', ⟨Nat.le_refl _⟩, ⟨by exact Kd.V_mono HO190.out (fun _ hk => hk.2)⟩, ⟨by exact Kd.V_mono HO193.out (fun _ hk => hk.2)⟩, ⟨by exact HO196.out⟩, ⟨by repeat ((with_reducible exact HB.out))⟩⟩
      case round =>
        clear H'
        skip
        skip
        skip
        try clear c6b0
        try clear c6b1
        skip
        skip
        try clear c7b0
        try clear c7b1
        obtain ⟨x5_1, x21_1, rfl, HA, HK1, HO_0, HO_1, HO_5, HB⟩ := hrel
        cases gk with
        | zero => exact absurd HA.out (by simp [nat_Mul.l0])
        | succ k1 =>
          have H := HA.out
          clear HA
          simp only [nat_Mul.l0] at H
          by_cases c14 : x21_1 < (t188.length : Int)
          · rw [if_pos c14] at H
            have c14b0 : decide (x21_1 < (t188.length : Int)) = true := decide_eq_true c14
            clear c14
            have H' := Aside0.mk H
            clear H
            go_wp2
            repeat (go_quiet (fail); skip)
            go_loopg [7, 26] k1 (fun kq v7 v26 w' => ∃ (x5_2 : List Int) (x7_2 : Int) (x26_2 : Int), v7 = .int .u64 x7_2 ∧ v26 = .int .i64 x26_2 ∧ Aside0 (nat_Mul.l1 kq t188 t191 x5_2 x21_1 x7_2 (t188.length : Int) x21_1 (t191.length : Int) x26_2 = some r) ∧ Aside0 (kq ≤ k1) ∧ Aside0 (Kd.V (Kd.int .u32) 68 w' w.heap.size (fun k_ => some k_ ≠ (v195 : Value).ownBlock) (.slice Ao10 t188.length co10) t188) ∧ Aside0 (Kd.V (Kd.int .u32) 68 w' w.heap.size (fun k_ => some k_ ≠ (v195 : Value).ownBlock) (.slice Ao11 t191.length co11) t191) ∧ Aside0 (Kd.R (Kd.int .u32) 68 w' w.heap.size (fun _ => True) v195 x5_2) ∧ Aside0 (Below w.heap.size w w'))
            case atStart => exact ⟨(x5_1), (0), (0), (by rfl), (by rfl), H', ⟨Nat.le_refl _⟩, ⟨by exact HO_0.out⟩, ⟨by exact HO_1.out⟩, ⟨by exact HO_5.out⟩, ⟨by repeat ((with_reducible exact HB.out))⟩⟩
            case round =>
              clear H'
              skip
              skip
              skip
              skip
              skip
              skip
              skip
              skip
              skip
              skip
              try clear c14b0
              skip
              skip
              obtain ⟨x5_2, x7_2, x26_2, rfl, rfl, HA, HK2, HO_0, HO_1, HO_5, HB⟩ := hrel
              cases gk with
              | zero => exact absurd HA.out (by simp [nat_Mul.l1])
              | succ k2 =>
                have H := HA.out
                clear HA
                simp only [nat_Mul.l1] at H
                by_cases c15 : x26_2 < (t191.length : Int)
                · rw [if_pos c15] at H
                  have c15b0 : decide (x26_2 < (t191.length : Int)) = true := decide_eq_true c15
                  clear c15
                  by_cases c16 : 0 ≤ x21_1
                  · rw [if_pos c16] at H
                    have c16b0 : decide (0 ≤ x21_1) = true := decide_eq_true c16
                    clear c16
                    by_cases c17 : x21_1 < (t188.length : Int)
                    · rw [if_pos c17] at H
                      have c17b0 : decide (x21_1 < (t188.length : Int)) = true := decide_eq_true c17
                      clear c17
                      by_cases c18 : 0 ≤ x26_2
                      · rw [if_pos c18] at H
                        have c18b0 : decide (0 ≤ x26_2) = true := decide_eq_true c18
                        clear c18
                        by_cases c19 : x26_2 < (t191.length : Int)
                        · rw [if_pos c19] at H
                          have c19b0 : decide (x26_2 < (t191.length : Int)) = true := decide_eq_true c19
                          clear c19
                          obtain ⟨ji20, hji20⟩ : ∃ j_ : Int, (wrap64 (x21_1 + x26_2)) = j_ := ⟨_, rfl⟩
                          replace H : (if 0 ≤ (ji20) then (if (ji20) < (x5_2.length : Int) then (nat_Mul.l1 k2 t188 t191 (x5_2.set ((ji20) : Int).toNat ((IntKind.u64.wrap (x7_2 + (IntKind.u64.wrap ((IntKind.u64.wrap ((IntKind.u64.wrap (rd t188 x21_1)) * (IntKind.u64.wrap (rd t191 x26_2)))) + (IntKind.u64.wrap (rd x5_2 (ji20))))))) % 4294967296)) x21_1 ((IntKind.u64.wrap (x7_2 + (IntKind.u64.wrap ((IntKind.u64.wrap ((IntKind.u64.wrap (rd t188 x21_1)) * (IntKind.u64.wrap (rd t191 x26_2)))) + (IntKind.u64.wrap (rd x5_2 (ji20))))))) / 4294967296) (t188.length : Int) x21_1 (t191.length : Int) (wrap64 (x26_2 + 1))) else (none)) else (none)) = some r := by (rw [hji20] at H; exact H)
                          have hji20w : (IntKind.i64.wrap (x21_1 + x26_2)) = ji20 := (i64_w _).trans hji20
                          by_cases c21 : 0 ≤ (ji20)
                          · rw [if_pos c21] at H
                            have c21b0 : decide (0 ≤ (ji20)) = true := decide_eq_true c21
                            clear c21
                            by_cases c22 : (ji20) < (x5_2.length : Int)
                            · rw [if_pos c22] at H
                              have c22b0 : decide ((ji20) < (x5_2.length : Int)) = true := decide_eq_true c22
                              clear c22
                              obtain ⟨y203, hy203⟩ : ∃ y_ : List Int, y_ = (x5_2.set ((ji20) : Int).toNat ((IntKind.u64.wrap (x7_2 + (IntKind.u64.wrap ((IntKind.u64.wrap ((IntKind.u64.wrap (rd t188 x21_1)) * (IntKind.u64.wrap (rd t191 x26_2)))) + (IntKind.u64.wrap (rd x5_2 (ji20))))))) % 4294967296)) := ⟨_, rfl⟩
                              replace H : (nat_Mul.l1 k2 t188 t191 y203 x21_1 ((IntKind.u64.wrap (x7_2 + (IntKind.u64.wrap ((IntKind.u64.wrap ((IntKind.u64.wrap (rd t188 x21_1)) * (IntKind.u64.wrap (rd t191 x26_2)))) + (IntKind.u64.wrap (rd x5_2 (ji20))))))) / 4294967296) (t188.length : Int) x21_1 (t191.length : Int) (wrap64 (x26_2 + 1))) = some r := by (rw [hy203]; with_reducible exact H)
                              have Ny203 := Aside0.mk hy203
                              clear hy203
                              have H' := Aside0.mk H
                              clear H
                              have p200 : 0 ≤ (x21_1 : Int) := of_decide_eq_true (by (with_reducible assumption))
                              have q200 : x21_1 < (t188.length : Int) := of_decide_eq_true (by (with_reducible assumption))
                              obtain ⟨ad200, e200, hx200_0⟩ := Kd.at_int (Kd.V_reads' HO_0.out).2.2 x21_1 p200 q200
                              cases e200
                              replace p200 := eq_true p200
                              replace q200 := eq_true q200
                              have p201 : 0 ≤ (x26_2 : Int) := of_decide_eq_true (by (with_reducible assumption))
                              have q201 : x26_2 < (t191.length : Int) := of_decide_eq_true (by (with_reducible assumption))
                              obtain ⟨ad201, e201, hx201_0⟩ := Kd.at_int (Kd.V_reads' HO_1.out).2.2 x26_2 p201 q201
                              cases e201
                              replace p201 := eq_true p201
                              replace q201 := eq_true q201
                              obtain ⟨Ao24, co24, eo24⟩ := Kd.R_slice HO_5.out
                              subst eo24
                              have p202 : 0 ≤ ((ji20) : Int) := of_decide_eq_true (by (with_reducible assumption))
                              have q202 : (ji20) < (x5_2.length : Int) := of_decide_eq_true (by (with_reducible assumption))
                              obtain ⟨ad202, e202, hx202_0⟩ := Kd.at_int (Kd.R_reads' HO_5.out).2.2 (ji20) p202 q202
                              cases e202
                              replace p202 := eq_true p202
                              replace q202 := eq_true q202
                              have p23 : 0 ≤ ((ji20) : Int) := of_decide_eq_true (by (with_reducible assumption))
                              have q23 : ((ji20) : Int) < ((x5_2.length : Int) : Int) := of_decide_eq_true (by (with_reducible assumption))
                              obtain ⟨go23, co23, eo23, gb23, gl23, cl23, HG23⟩ := Kd.R_form HO_5.out (by omega)
                              (cases eo23)
                              have GB23 := Aside0.mk gb23
                              have GG23 := Aside0.mk HG23
                              clear gb23 gl23 HG23
                              (simp only [add_plain] at hx202_0)
                              obtain ⟨hx23_0, hf23_0⟩ := Kd.R_celln 0 HO_5.out ((ji20) : Int) p23 q23
                              replace p23 := eq_true p23
                              replace q23 := eq_true q23
                              have HP25 := Kd.R_putg HO_5.out ((ji20) : Int) ((IntKind.u64.wrap (x7_2 + (IntKind.u64.wrap ((IntKind.u64.wrap ((IntKind.u64.wrap (rd t188 x21_1)) * (IntKind.u64.wrap (rd t191 x26_2)))) + (IntKind.u64.wrap (rd x5_2 (ji20))))))) % 4294967296)
                              go_wp2_with (fail)
                              repeat (go_quiet (fail); try go_wp2_with (((with_reducible refine gate_store (t := 68) (p := 56) rfl ?_); (try (rw [drewN_self wr]; generalize hq_ : World.drewN wr _ = wr; have n0_ := Aside0.mk (vq_at hq_ HO_0.out); have n1_ := Aside0.mk (vq_at hq_ HO_1.out); have n2_ := Aside0.mk (Kd.R_at hq_ HO_5.out); have n3_ := Aside0.mk (below_at hq_ HB.out); clear hq_ HO_0 HO_1 HO_5 HB; have HO_0 := n0_; have HO_1 := n1_; have HO_5 := n2_; have HB := n3_; clear n0_ n1_ n2_ n3_; (try (have HP25 := Kd.R_putg HO_5.out ((ji20) : Int) ((IntKind.u64.wrap (x7_2 + (IntKind.u64.wrap ((IntKind.u64.wrap ((IntKind.u64.wrap (rd t188 x21_1)) * (IntKind.u64.wrap (rd t191 x26_2)))) + (IntKind.u64.wrap (rd x5_2 (ji20))))))) % 4294967296))); (try (obtain ⟨hx23_0, hf23_0⟩ := Kd.R_celln 0 HO_5.out ((ji20) : Int) (of_eq_true p23) (of_eq_true q23))))); refine store_event (t := 68) (p := 56) (v := ?vo_w26) (w1 := (wr.setCell ⟨go23, ((ji20) : Int).toNat, none⟩ (.int .u32 ((IntKind.u64.wrap (x7_2 + (IntKind.u64.wrap ((IntKind.u64.wrap ((IntKind.u64.wrap (rd t188 x21_1)) * (IntKind.u64.wrap (rd t191 x26_2)))) + (IntKind.u64.wrap (rd x5_2 (ji20))))))) % 4294967296)))) ?hg ?ho ?hn ?hr ?_; (case ho => rfl); (case hg => rfl); (case hn => rfl); (case hr => (go_simp; done)); intro w26 hw; have hg : wr.grownBy w26 (some go23) := (by rw [hw]; exact HP25.2); have hp_ : Kd.R (Kd.int .u32) 68 w26 w.heap.size (fun _ => True) (.slice (some ⟨go23, 0, none⟩) x5_2.length co24) y203 := (by rw [hw, Ny203.out]; exact HP25.1); clear HP25; have n0_ := Aside0.mk (Kd.V_afterv (v := (.slice (some ⟨go23, 0, none⟩) x5_2.length co24)) (v1 := (.slice (some ⟨go23, 0, none⟩) x5_2.length co24)) (ok := (fun _ => True)) (by exact Kd.V_mono HO_0.out (fun _ hk => ⟨trivial, hk⟩)) hg (.inl rfl)); have n1_ := Aside0.mk (Kd.V_afterv (v := (.slice (some ⟨go23, 0, none⟩) x5_2.length co24)) (v1 := (.slice (some ⟨go23, 0, none⟩) x5_2.length co24)) (ok := (fun _ => True)) (by exact Kd.V_mono HO_1.out (fun _ hk => ⟨trivial, hk⟩)) hg (.inl rfl)); have n2_ := Aside0.mk (hp_); have n3_ := Aside0.mk ((by rw [hw]; exact below_set (HB.out) GB23.out : Below w.heap.size w w26)); clear HO_0; clear HO_1; clear HO_5; clear HB; have HO_0 := n0_; have HO_1 := n1_; have HO_5 := n2_; have HB := n3_; clear n0_ n1_ n2_ n3_; clear hg hw hp_)))
                              (try subst hji5)
                              go_roundg k2
                              case measure => have := HK1.out; have := HK2.out; omega
                              case rel => exact ⟨(y203), ((IntKind.u64.wrap (x7_2 + (IntKind.u64.wrap ((IntKind.u64.wrap ((IntKind.u64.wrap (rd t188 x21_1)) * (IntKind.u64.wrap (rd t191 x26_2)))) + (IntKind.u64.wrap (rd x5_2 (ji20))))))) / 4294967296), (wrap64 (x26_2 + 1)), (by rfl), (by rfl), (by with_reducible exact H'), ⟨by have := HK1.out; have := HK2.out; omega⟩, ⟨by exact Kd.V_mono HO_0.out (fun _ hk => hk.2)⟩, ⟨by exact Kd.V_mono HO_1.out (fun _ hk => hk.2)⟩, ⟨by exact HO_5.out⟩, ⟨by repeat ((with_reducible exact HB.out))⟩⟩
                            · rw [if_neg c22] at H
                              exact absurd H (by simp)
                          · rw [if_neg c21] at H
                            exact absurd H (by simp)
                        · rw [if_neg c19] at H
                          exact absurd H (by simp)
                      · rw [if_neg c18] at H
                        exact absurd H (by simp)
                    · rw [if_neg c17] at H
                      exact absurd H (by simp)
                  · rw [if_neg c16] at H
                    exact absurd H (by simp)
                · rw [if_neg c15] at H
                  have c15b0 : decide (x26_2 < (t191.length : Int)) = false := decide_eq_false c15
                  clear c15
                  obtain ⟨ji27, hji27⟩ : ∃ j_ : Int, (wrap64 (x21_1 + (t191.length : Int))) = j_ := ⟨_, rfl⟩
                  replace H : (if 0 ≤ (ji27) then (if (ji27) < (x5_2.length : Int) then (nat_Mul.l0 k2 t188 t191 (x5_2.set ((ji27) : Int).toNat ((x7_2) % 4294967296)) (t188.length : Int) (wrap64 (x21_1 + 1))) else (none)) else (none)) = some r := by (rw [hji27] at H; exact H)
                  have hji27w : (IntKind.i64.wrap (x21_1 + (t191.length : Int))) = ji27 := (i64_w _).trans hji27
                  by_cases c28 : 0 ≤ (ji27)
                  · rw [if_pos c28] at H
                    have c28b0 : decide (0 ≤ (ji27)) = true := decide_eq_true c28
                    clear c28
                    by_cases c29 : (ji27) < (x5_2.length : Int)
                    · rw [if_pos c29] at H
                      have c29b0 : decide ((ji27) < (x5_2.length : Int)) = true := decide_eq_true c29
                      clear c29
                      obtain ⟨y204, hy204⟩ : ∃ y_ : List Int, y_ = (x5_2.set ((ji27) : Int).toNat ((x7_2) % 4294967296)) := ⟨_, rfl⟩
                      replace H : (nat_Mul.l0 k2 t188 t191 y204 (t188.length : Int) (wrap64 (x21_1 + 1))) = some r := by (rw [hy204]; with_reducible exact H)
                      have Ny204 := Aside0.mk hy204
                      clear hy204
                      have H' := Aside0.mk H
                      clear H
                      have p30 : 0 ≤ ((ji27) : Int) := of_decide_eq_true (by (with_reducible assumption))
                      have q30 : ((ji27) : Int) < ((x5_2.length : Int) : Int) := of_decide_eq_true (by (with_reducible assumption))
                      obtain ⟨go30, co30, eo30, gb30, gl30, cl30, HG30⟩ := Kd.R_form HO_5.out (by omega)
                      (cases eo30)
                      have GB30 := Aside0.mk gb30
                      have GG30 := Aside0.mk HG30
                      clear gb30 gl30 HG30
                      obtain ⟨hx30_0, hf30_0⟩ := Kd.R_celln 0 HO_5.out ((ji27) : Int) p30 q30
                      replace p30 := eq_true p30
                      replace q30 := eq_true q30
                      have HP31 := Kd.R_putg HO_5.out ((ji27) : Int) ((x7_2) % 4294967296)
                      go_wp2_with (((with_reducible refine gate_store (t := 68) (p := 67) rfl ?_); refine store_event (t := 68) (p := 67) (v := ?vo_w32) (w1 := (wr.setCell ⟨go30, ((ji27) : Int).toNat, none⟩ (.int .u32 ((x7_2) % 4294967296)))) ?hg ?ho ?hn ?hr ?_; (case ho => rfl); (case hg => rfl); (case hn => rfl); (case hr => (go_simp; done)); intro w32 hw; have hg : wr.grownBy w32 (some go30) := (by rw [hw]; exact HP31.2); have hp_ : Kd.R (Kd.int .u32) 68 w32 w.heap.size (fun _ => True) (.slice (some ⟨go30, 0, none⟩) x5_2.length co30) y204 := (by rw [hw, Ny204.out]; exact HP31.1); clear HP31; have n0_ := Aside0.mk (Kd.V_afterv (v := (.slice (some ⟨go30, 0, none⟩) x5_2.length co30)) (v1 := (.slice (some ⟨go30, 0, none⟩) x5_2.length co30)) (ok := (fun _ => True)) (by exact Kd.V_mono HO_0.out (fun _ hk => ⟨trivial, hk⟩)) hg (.inl rfl)); have n1_ := Aside0.mk (Kd.V_afterv (v := (.slice (some ⟨go30, 0, none⟩) x5_2.length co30)) (v1 := (.slice (some ⟨go30, 0, none⟩) x5_2.length co30)) (ok := (fun _ => True)) (by exact Kd.V_mono HO_1.out (fun _ hk => ⟨trivial, hk⟩)) hg (.inl rfl)); have n2_ := Aside0.mk (hp_); have n3_ := Aside0.mk ((by rw [hw]; exact below_set (HB.out) GB30.out : Below w.heap.size w w32)); clear HO_0; clear HO_1; clear HO_5; clear HB; have HO_0 := n0_; have HO_1 := n1_; have HO_5 := n2_; have HB := n3_; clear n0_ n1_ n2_ n3_; clear hg hw hp_))
                      repeat (go_quiet (fail); skip)
                      (try subst hji5)
                      go_roundg k2
                      case measure => have := HK1.out; have := HK2.out; omega
                      case rel => exact ⟨(y204), (wrap64 (x21_1 + 1)), (by rfl), (by with_reducible exact H'), ⟨by have := HK1.out; have := HK2.out; omega⟩, ⟨by exact Kd.V_mono HO_0.out (fun _ hk => hk.2)⟩, ⟨by exact Kd.V_mono HO_1.out (fun _ hk => hk.2)⟩, ⟨by exact HO_5.out⟩, ⟨by repeat ((with_reducible exact HB.out))⟩⟩
                    · rw [if_neg c29] at H
                      exact absurd H (by simp)
                  · rw [if_neg c28] at H
                    exact absurd H (by simp)
          · rw [if_neg c14] at H
            have c14b0 : decide (x21_1 < (t188.length : Int)) = false := decide_eq_false c14
            clear c14
            replace H := Option.bind_eq_some_iff.mp H
            obtain ⟨t197, A330, H⟩ := H
            replace H : (some t197) = some r := H
            have A33 := Aside0.mk A330
            clear A330
            obtain rfl := Option.some.inj H
            obtain ⟨Ao34, co34, eo34⟩ := Kd.R_slice HO_5.out
            subst eo34
            go_wp2_with ((go_at_call 95; (with_reducible refine (nat_trim_own.calls k1 (fun k_ => some k_ = (.slice Ao34 x5_1.length co34 : Value).ownBlock) (.slice Ao34 x5_1.length co34) x5_1 t197 w _ ?side1 ?side2 A33.out).mono ?_); (case side1 => repeat ((with_reducible exact HB.out))); (case side2 => exact Kd.R_tight rfl HO_5.out); rintro e w35 ⟨v198, rfl, ho0, hb, hkp⟩; have n0_ := Aside0.mk (Kd.V_mono (ok' := fun k_ => some k_ ≠ (v198 : Value).ownBlock) (Kd.V_keptB (HO_0.out) hkp (fun k_ hk_ hs_ => (hk_) hs_)) (fun k_ hk_ => fun e_ => Or.elim (ho0.1 k_ e_.symm) (fun hs_ => hk_.2.1 hs_) (fun hn_ => Nat.not_le.2 hk_.2.2 hn_))); have n1_ := Aside0.mk (Kd.V_mono (ok' := fun k_ => some k_ ≠ (v198 : Value).ownBlock) (Kd.V_keptB (HO_1.out) hkp (fun k_ hk_ hs_ => (hk_) hs_)) (fun k_ hk_ => fun e_ => Or.elim (ho0.1 k_ e_.symm) (fun hs_ => hk_.2.1 hs_) (fun hn_ => Nat.not_le.2 hk_.2.2 hn_))); have n2_ := Aside0.mk (Kd.R_mono (ok' := fun k_ => True) ho0 (fun k_ hk_ => trivial)); have n3_ := Aside0.mk (hb); clear HO_0; clear HO_1; clear HB; clear HO_5; have HO_0 := n0_; have HO_1 := n1_; have HO199 := n2_; have HB := n3_; clear n0_ n1_ n2_ n3_; (try clear hb); (try clear hkp); (try clear ho0)))
            repeat (go_quiet (fail); skip)
            go_ret
            exact ⟨_, by rfl, by exact HO199.out, by repeat ((with_reducible exact HB.out))⟩
    · rw [if_neg c7] at H
      exact absurd H (by simp)
  · rw [if_neg c6] at H
    exact absurd H (by simp)

-- NOT PRINTED: function 23 (zint_Mul)

end Go.Proofs.Ytmbmbmkmjbpcpaa.PA

