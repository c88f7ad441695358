-- printed by a program of this session
import Derived.Test.YtnlkafjhbjlhaaaPAx0K
import Derived.Test.YtnlkafjhbjlhaaaPAx1K
import Derived.Test.YtnlkafjhbjlhaaaPAx5K
import Derived.Test.YtnlkafjhbjlhaaaPAx7K
namespace Go.Proofs.Ytnlkafjhbjlhaaa.PA
open Go.RowKit Go.Proofs.YtnlkafjhbjlhaaaW.PrintWords Go.Proofs.YtnlkafjhbjlhaaaW.PrintLast Go.Proofs.YtnlkafjhbjlhaaaW.PrintMore
attribute [local go_sem] max2_int min2_int max_two min_two max_three min_three max_four min_four   -- for this text's walks alone
set_option linter.unusedVariables false
set_option linter.unusedSimpArgs false

/-! ### trammelref01_Text: function 35 -/
mutual
def trammelref01_Text.l0 : Nat → List Int → ByteArray → Option (ByteArray)
  | 0, _, _ => none
  | k + 1, x3, x4 => if (x3.length : Int) > 0 then ((trammelref01_small.f k x3 1000000000).bind fun bt418 => (trammelref01_Text.l1 k bt418.1 x4 bt418.2 (⟨#[]⟩ : ByteArray) 0)) else (some x4)
def trammelref01_Text.l1 : Nat → List Int → ByteArray → Int → ByteArray → Int → Option (ByteArray)
  | 0, _, _, _, _, _ => none
  | k + 1, x3, x4, x6, x7, x8 => if x8 < 9 then (if x6 > 0 then ((some (([(IntKind.u64.wrap (48 + (Int.tmod x6 10))) % 256] : List Int) : List Int)).bind fun y422 => (if (strOfNums y422).size + x7.size ≤ 9223372036854775807 then (trammelref01_Text.l1 k x3 x4 (IntKind.u64.wrap (Int.tdiv x6 10)) ((strOfNums y422) ++ x7) (wrap64 (x8 + 1))) else (none))) else (if (x3.length : Int) > 0 then ((some (([(IntKind.u64.wrap (48 + (Int.tmod x6 10))) % 256] : List Int) : List Int)).bind fun y425 => (if (strOfNums y425).size + x7.size ≤ 9223372036854775807 then (trammelref01_Text.l1 k x3 x4 (IntKind.u64.wrap (Int.tdiv x6 10)) ((strOfNums y425) ++ x7) (wrap64 (x8 + 1))) else (none))) else (if x7.size + x4.size ≤ 9223372036854775807 then (trammelref01_Text.l0 k x3 (x7 ++ x4)) else (none)))) else (if x7.size + x4.size ≤ 9223372036854775807 then (trammelref01_Text.l0 k x3 (x7 ++ x4)) else (none))
end
def trammelref01_Text.f (k : Nat) (l0 : List Int) : Option (ByteArray) := (trammelref01_Norm.f k l0).bind fun t415 => (if (t415.length : Int) = 0 then (some (⟨#[48]⟩ : ByteArray)) else (trammelref01_Text.l0 k t415 (⟨#[]⟩ : ByteArray)))
theorem trammelref01_Text.mono_l : ∀ k, (∀ y0 y1, LeO (trammelref01_Text.l0 k y0 y1) (trammelref01_Text.l0 (k + 1) y0 y1)) ∧ (∀ y0 y1 y2 y3 y4, LeO (trammelref01_Text.l1 k y0 y1 y2 y3 y4) (trammelref01_Text.l1 (k + 1) y0 y1 y2 y3 y4))
  | 0 => ⟨fun _ _ r h => by simp [trammelref01_Text.l0] at h, fun _ _ _ _ _ r h => by simp [trammelref01_Text.l1] at h⟩
  | k + 1 => by
    obtain ⟨ih0, ih1⟩ := trammelref01_Text.mono_l k
    refine ⟨?_, ?_⟩
    · intro y0 y1
      unfold trammelref01_Text.l0
      repeat' first | (with_reducible exact ih1 _ _ _ _ _) | (with_reducible exact trammelref01_small.mono _ _ _) | (with_reducible exact LeO.refl _) | (with_reducible refine LeO.ite ?_ ?_) | (with_reducible refine LeO.bind ?_ (fun _ => ?_))
    · intro y0 y1 y2 y3 y4
      unfold trammelref01_Text.l1
      repeat' first | (with_reducible exact ih0 _ _) | (with_reducible exact ih1 _ _ _ _ _) | (with_reducible exact LeO.refl _) | (with_reducible refine LeO.ite ?_ ?_) | (with_reducible refine LeO.bind ?_ (fun _ => ?_))
theorem trammelref01_Text.mono : ∀ a0 k, LeO (trammelref01_Text.f k a0) (trammelref01_Text.f (k + 1) a0) := by
  intro a0 k
  obtain ⟨ih0, ih1⟩ := trammelref01_Text.mono_l k
  unfold trammelref01_Text.f
  repeat' first | (with_reducible exact ih0 _ _) | (with_reducible exact trammelref01_Norm.mono _ _) | (with_reducible exact LeO.refl _) | (with_reducible refine LeO.ite ?_ ?_) | (with_reducible refine LeO.bind ?_ (fun _ => ?_))
set_option maxHeartbeats 8000000 in
set_option maxRecDepth 100000 in
theorem trammelref01_Text.calls (k : Nat) (A0 : Option Addr) (c0 : Nat) (l0 : List Int) (r : ByteArray) (w : World) (hr0 : Kd.C (Kd.int .u32) w A0 l0.length l0) (hc0 : l0.length ≤ c0) (h : trammelref01_Text.f k l0 = some r) :
    Calls Try.prog 35 #[.slice A0 l0.length c0] w fun e w' => e = .returned (.string r) ∧ Below w.heap.size w w' := by
  have HR0 := Aside0.mk hr0
  have HC0 := Aside0.mk hc0
  clear hr0 hc0
  have HB := Aside0.mk (Below.refl w.heap.size w)
  have H : ((trammelref01_Norm.f k l0).bind fun t415 => (if (t415.length : Int) = 0 then (some (⟨#[48]⟩ : ByteArray)) else (trammelref01_Text.l0 k t415 (⟨#[]⟩ : ByteArray)))) = some r := h
  clear h
  replace H := Option.bind_eq_some_iff.mp H
  obtain ⟨t415, A20, H⟩ := H
  replace H : (if (t415.length : Int) = 0 then (some (⟨#[48]⟩ : ByteArray)) else (trammelref01_Text.l0 k t415 (⟨#[]⟩ : ByteArray))) = some r := H
  have A2 := Aside0.mk A20
  clear A20
  by_cases c3 : (t415.length : Int) = 0
  · rw [if_pos c3] at H
    have c3b0 : ((t415.length : Int) == 0) = true := beq_iff_eq.mpr c3
    have c3b1 : ((t415.length : Int) != 0) = false := bne_eq_false_iff_eq.mpr c3
    clear c3
    obtain rfl := Option.some.inj H
    go_enter Try.func35, Try.ntmps35
    go_wp2_with (((with_reducible refine gate_callee (f := 21) rfl ?_); refine goesL_ (some 10) rfl rfl Try.func21 (by kernel_rfl) rfl #[.slice A0 l0.length c0] rfl (by (try simp only [List.map_toArray, List.map_cons, List.map_nil]); rfl) ?_; (with_reducible refine (trammelref01_Norm.calls k _ _ l0 t415 _ ?side1 ?side2 A2.out).mono ?_); (case side1 => repeat (exact HR0.out)); (case side2 => exact HC0.out); rintro e w4 ⟨v416, rfl, ho0, hb⟩; refine ⟨_, rfl, ?_⟩; have n0_ := Aside0.mk (Kd.R_lower ho0 (below_size (by repeat ((with_reducible exact HB.out))))); have n1_ := Aside0.mk (below_step (by repeat ((with_reducible exact HB.out))) hb); clear HB; have HO417 := n0_; have HB := n1_; clear n0_ n1_; (try clear hb); (try clear ho0); obtain ⟨Ao5, co5, eo5⟩ := Kd.R_slice HO417.out; subst eo5))
    go_ret
    exact ⟨by rfl, by repeat ((with_reducible exact HB.out))⟩
  · rw [if_neg c3] at H
    have c3b0 : ((t415.length : Int) == 0) = false := beq_eq_false_iff_ne.mpr c3
    have c3b1 : ((t415.length : Int) != 0) = true := bne_iff_ne.mpr c3
    have c3b2 : ¬ (t415 = []) := fun h_ => c3 (by rw [h_]; rfl)
    have H' := Aside0.mk H
    clear H
    go_enter Try.func35, Try.ntmps35
    go_wp2_with (((with_reducible refine gate_callee (f := 21) rfl ?_); refine goesL_ (some 10) rfl rfl Try.func21 (by kernel_rfl) rfl #[.slice A0 l0.length c0] rfl (by (try simp only [List.map_toArray, List.map_cons, List.map_nil]); rfl) ?_; (with_reducible refine (trammelref01_Norm.calls k _ _ l0 t415 _ ?side1 ?side2 A2.out).mono ?_); (case side1 => repeat (exact HR0.out)); (case side2 => exact HC0.out); rintro e w6 ⟨v416, rfl, ho0, hb⟩; refine ⟨_, rfl, ?_⟩; have n0_ := Aside0.mk (Kd.R_lower ho0 (below_size (by repeat ((with_reducible exact HB.out))))); have n1_ := Aside0.mk (below_step (by repeat ((with_reducible exact HB.out))) hb); clear HB; have HO417 := n0_; have HB := n1_; clear n0_ n1_; (try clear hb); (try clear ho0); obtain ⟨Ao7, co7, eo7⟩ := Kd.R_slice HO417.out; subst eo7))
    go_loopg [3, 4] k (fun kq v3 v4 w' => ∃ (x3_1 : List Int) (x4_1 : ByteArray), v4 = .string x4_1 ∧ Aside0 (trammelref01_Text.l0 kq x3_1 x4_1 = some r) ∧ Aside0 (kq ≤ k) ∧ Aside0 (Kd.R (Kd.int .u32) 31 w' w.heap.size (fun _ => True) v3 x3_1) ∧ Aside0 (Below w.heap.size w w'))
    case atStart => exact ⟨(t415), ((⟨#[]⟩ : ByteArray)), (by rfl), H', ⟨Nat.le_refl _⟩, ⟨by exact HO417.out⟩, ⟨by repeat ((with_reducible exact HB.out))⟩⟩
    case round =>
      clear H'
      skip
      skip
      try clear c3
      try clear c3b0
      try clear c3b1
      try clear c3b2
      obtain ⟨x3_1, x4_1, rfl, HA, HK1, HO_3, HB⟩ := hrel
      cases gk with
      | zero => exact absurd HA.out (by simp [trammelref01_Text.l0])
      | succ k1 =>
        have H := HA.out
        clear HA
        simp only [trammelref01_Text.l0] at H
        by_cases c8 : (x3_1.length : Int) > 0
        · rw [if_pos c8] at H
          have c8b0 : decide (0 < (x3_1.length : Int)) = true := decide_eq_true c8
          have c8b1 : decide (0 < x3_1.length) = true := decide_eq_true (by omega)
          clear c8
          replace H := Option.bind_eq_some_iff.mp H
          obtain ⟨⟨t418, t419⟩, A90, H⟩ := H
          replace H : (trammelref01_Text.l1 k1 t418 x4_1 t419 (⟨#[]⟩ : ByteArray) 0) = some r := H
          have A9 := Aside0.mk A90
          clear A90
          have H' := Aside0.mk H
          clear H
          obtain ⟨Ao10, co10, eo10⟩ := Kd.R_slice HO_3.out
          subst eo10
          go_wp2_with (((with_reducible refine gate_callee (f := 52) rfl ?_); refine goesL_ (some 19) rfl rfl Try.func52 (by kernel_rfl) rfl #[.slice Ao10 x3_1.length co10, .int .u64 1000000000] rfl (by (try simp only [List.map_toArray, List.map_cons, List.map_nil]); rfl) ?_; (with_reducible refine (trammelref01_small.calls k1 _ _ x3_1 1000000000 t418 t419 _ ?side1 ?side2 A9.out).mono ?_); (case side1 => repeat (exact (Kd.R_reads' HO_3.out).2.2)); (case side2 => exact (Kd.R_reads' HO_3.out).2.1); rintro e w11 ⟨v420, rfl, ho0, hb⟩; refine ⟨_, rfl, ?_⟩; have n0_ := Aside0.mk (Kd.R_elder' (by exact HO_3.out) (Kd.R_base ho0) hb); have n1_ := Aside0.mk (Kd.R_lower (Kd.R_new' ho0 (Kd.R_lt (by exact HO_3.out))) (below_size (by repeat ((with_reducible exact HB.out))))); have n2_ := Aside0.mk (below_step (by repeat ((with_reducible exact HB.out))) hb); clear HO_3; clear HB; have HO_3 := n0_; have HO421 := n1_; have HB := n2_; clear n0_ n1_ n2_; (try clear hb); (try clear ho0)))
          go_loopg [6, 7, 8] k1 (fun kq v6 v7 v8 w' => ∃ (x6_2 : Int) (x7_2 : ByteArray) (x8_2 : Int), v6 = .int .u64 x6_2 ∧ v7 = .string x7_2 ∧ v8 = .int .i64 x8_2 ∧ Aside0 (trammelref01_Text.l1 kq t418 x4_1 x6_2 x7_2 x8_2 = some r) ∧ Aside0 (kq ≤ k1) ∧ Aside0 (Kd.R (Kd.int .u32) 31 w' w.heap.size (fun _ => True) v420 t418) ∧ Aside0 (Below w.heap.size w w'))
          case atStart => exact ⟨(t419), ((⟨#[]⟩ : ByteArray)), (0), (by rfl), (by rfl), (by rfl), H', ⟨Nat.le_refl _⟩, ⟨by exact Kd.R_mono HO421.out (fun _ hk => trivial)⟩, ⟨by repeat ((with_reducible exact HB.out))⟩⟩
          case round =>
            clear H'
            skip
            skip
            skip
            skip
            skip
            skip
            skip
            skip
            try clear c8b0
            try clear c8b1
            skip
            obtain ⟨x6_2, x7_2, x8_2, rfl, rfl, rfl, HA, HK2, HO_3, HB⟩ := hrel
            cases gk with
            | zero => exact absurd HA.out (by simp [trammelref01_Text.l1])
            | succ k2 =>
              have H := HA.out
              clear HA
              simp only [trammelref01_Text.l1] at H
              by_cases c12 : x8_2 < 9
              · rw [if_pos c12] at H
                have c12b0 : decide (x8_2 < 9) = true := decide_eq_true c12
                clear c12
                by_cases c13 : x6_2 > 0
                · rw [if_pos c13] at H
                  have c13b0 : decide (0 < x6_2) = true := decide_eq_true c13
                  clear c13
                  obtain ⟨y422, hy422⟩ : ∃ y_ : List Int, y_ = (([(IntKind.u64.wrap (48 + (Int.tmod x6_2 10))) % 256] : List Int)) := ⟨_, rfl⟩
                  replace H : (if (strOfNums y422).size + x7_2.size ≤ 9223372036854775807 then (trammelref01_Text.l1 k2 t418 x4_1 (IntKind.u64.wrap (Int.tdiv x6_2 10)) ((strOfNums y422) ++ x7_2) (wrap64 (x8_2 + 1))) else (none)) = some r := by (have H2_ := (Option.bind_some _ _).symm.trans H; rw [hy422]; with_reducible exact H2_)
                  have Ny422 := Aside0.mk hy422
                  clear hy422
                  by_cases c14 : (strOfNums y422).size + x7_2.size ≤ 9223372036854775807
                  · rw [if_pos c14] at H
                    have c14b0 := eq_true c14
                    have c14b1 : decide ((strOfNums y422).size + x7_2.size ≤ 9223372036854775807) = true := decide_eq_true c14
                    try have c14b2 : (9223372036854775807 < (strOfNums y422).size + x7_2.size) = False := eq_false (Nat.not_lt.2 c14)
                    have H' := Aside0.mk H
                    clear H
                    go_wp2_with (((with_reducible refine gate_dst (N := 40) rfl ?_); (try (refine gate_guard (by rfl) ?_; dsimp only)); refine Kd.R_lit (Kd.int .u8) _ 5 ?hg (N := 40) ?hd (xs := ([(IntKind.u64.wrap (48 + (Int.tmod x6_2 10))) % 256] : List Int)) (inner := [.int .u8 ((IntKind.u64.wrap (48 + (Int.tmod x6_2 10))) % 256)]) (ok := fun _ => True) (okp := fun _ => True) ?hr ?hp (fun _ hk => hk) trivial (Below.refl _ _) (Nat.le_refl _) (by simp) ?_; (case hd => rfl); (case hg => rfl); (case hr => (go_simp; done)); (case hp => exact (Reps.one (show Kd.M (Kd.int .u8) _ _ _ ((IntKind.u64.wrap (48 + (Int.tmod x6_2 10))) % 256) [.int .u8 ((IntKind.u64.wrap (48 + (Int.tmod x6_2 10))) % 256)] from rfl) (Reps.none _ _))); intro v423 w15 ho16 hb hg_ hnew_; clear hg_ hnew_; (rw [← Ny422.out] at ho16); have n0_ := Aside0.mk (Kd.R_below (by exact HO_3.out) hb); have n1_ := Aside0.mk (Kd.R_lower ho16 (below_size (by repeat ((with_reducible exact HB.out))))); have n2_ := Aside0.mk (below_step (by repeat ((with_reducible exact HB.out))) hb); clear HO_3; clear HB; have HO_3 := n0_; have HO424 := n1_; have HB := n2_; clear n0_ n1_ n2_; clear hb ho16; have hcv17 := own_string (P := Try.prog) Try.underlying63 Try.underlying5 Try.underlying9 (Kd.own_of_R HO424.out)))
                    go_roundg k2
                    case measure => have := HK1.out; have := HK2.out; omega
                    case rel => exact ⟨(IntKind.u64.wrap (Int.tdiv x6_2 10)), ((strOfNums y422) ++ x7_2), (wrap64 (x8_2 + 1)), (by rfl), (by rfl), (by rfl), (by with_reducible exact H'), ⟨by have := HK1.out; have := HK2.out; omega⟩, ⟨by exact HO_3.out⟩, ⟨by repeat ((with_reducible exact HB.out))⟩⟩
                  · rw [if_neg c14] at H
                    exact absurd H (by simp)
                · rw [if_neg c13] at H
                  have c13b0 : decide (0 < x6_2) = false := decide_eq_false c13
                  clear c13
                  by_cases c18 : (t418.length : Int) > 0
                  · rw [if_pos c18] at H
                    have c18b0 : decide (0 < (t418.length : Int)) = true := decide_eq_true c18
                    have c18b1 : decide (0 < t418.length) = true := decide_eq_true (by omega)
                    clear c18
                    obtain ⟨y425, hy425⟩ : ∃ y_ : List Int, y_ = (([(IntKind.u64.wrap (48 + (Int.tmod x6_2 10))) % 256] : List Int)) := ⟨_, rfl⟩
                    replace H : (if (strOfNums y425).size + x7_2.size ≤ 9223372036854775807 then (trammelref01_Text.l1 k2 t418 x4_1 (IntKind.u64.wrap (Int.tdiv x6_2 10)) ((strOfNums y425) ++ x7_2) (wrap64 (x8_2 + 1))) else (none)) = some r := by (have H2_ := (Option.bind_some _ _).symm.trans H; rw [hy425]; with_reducible exact H2_)
                    have Ny425 := Aside0.mk hy425
                    clear hy425
                    by_cases c19 : (strOfNums y425).size + x7_2.size ≤ 9223372036854775807
                    · rw [if_pos c19] at H
                      have c19b0 := eq_true c19
                      have c19b1 : decide ((strOfNums y425).size + x7_2.size ≤ 9223372036854775807) = true := decide_eq_true c19
                      try have c19b2 : (9223372036854775807 < (strOfNums y425).size + x7_2.size) = False := eq_false (Nat.not_lt.2 c19)
                      have H' := Aside0.mk H
                      clear H
                      obtain ⟨Ao20, co20, eo20⟩ := Kd.R_slice HO_3.out
                      subst eo20
                      go_wp2_with (((with_reducible refine gate_dst (N := 40) rfl ?_); (try (refine gate_guard (by rfl) ?_; dsimp only)); refine Kd.R_lit (Kd.int .u8) _ 5 ?hg (N := 40) ?hd (xs := ([(IntKind.u64.wrap (48 + (Int.tmod x6_2 10))) % 256] : List Int)) (inner := [.int .u8 ((IntKind.u64.wrap (48 + (Int.tmod x6_2 10))) % 256)]) (ok := fun _ => True) (okp := fun _ => True) ?hr ?hp (fun _ hk => hk) trivial (Below.refl _ _) (Nat.le_refl _) (by simp) ?_; (case hd => rfl); (case hg => rfl); (case hr => (go_simp; done)); (case hp => exact (Reps.one (show Kd.M (Kd.int .u8) _ _ _ ((IntKind.u64.wrap (48 + (Int.tmod x6_2 10))) % 256) [.int .u8 ((IntKind.u64.wrap (48 + (Int.tmod x6_2 10))) % 256)] from rfl) (Reps.none _ _))); intro v426 w21 ho22 hb hg_ hnew_; clear hg_ hnew_; (rw [← Ny425.out] at ho22); have n0_ := Aside0.mk (Kd.R_below (by exact HO_3.out) hb); have n1_ := Aside0.mk (Kd.R_lower ho22 (below_size (by repeat ((with_reducible exact HB.out))))); have n2_ := Aside0.mk (below_step (by repeat ((with_reducible exact HB.out))) hb); clear HO_3; clear HB; have HO_3 := n0_; have HO427 := n1_; have HB := n2_; clear n0_ n1_ n2_; clear hb ho22; have hcv23 := own_string (P := Try.prog) Try.underlying63 Try.underlying5 Try.underlying9 (Kd.own_of_R HO427.out)))
                      go_roundg k2
                      case measure => have := HK1.out; have := HK2.out; omega
                      case rel => exact ⟨(IntKind.u64.wrap (Int.tdiv x6_2 10)), ((strOfNums y425) ++ x7_2), (wrap64 (x8_2 + 1)), (by rfl), (by rfl), (by rfl), (by with_reducible exact H'), ⟨by have := HK1.out; have := HK2.out; omega⟩, ⟨by exact HO_3.out⟩, ⟨by repeat ((with_reducible exact HB.out))⟩⟩
                    · rw [if_neg c19] at H
                      exact absurd H (by simp)
                  · rw [if_neg c18] at H
                    have c18b0 : decide (0 < (t418.length : Int)) = false := decide_eq_false c18
                    have c18b1 : decide (0 < t418.length) = false := decide_eq_false (by omega)
                    clear c18
                    by_cases c24 : x7_2.size + x4_1.size ≤ 9223372036854775807
                    · rw [if_pos c24] at H
                      have c24b0 := eq_true c24
                      have c24b1 : decide (x7_2.size + x4_1.size ≤ 9223372036854775807) = true := decide_eq_true c24
                      try have c24b2 : (9223372036854775807 < x7_2.size + x4_1.size) = False := eq_false (Nat.not_lt.2 c24)
                      have H' := Aside0.mk H
                      clear H
                      obtain ⟨Ao25, co25, eo25⟩ := Kd.R_slice HO_3.out
                      subst eo25
                      go_wp2
                      go_roundg k2
                      case measure => have := HK1.out; have := HK2.out; omega
                      case rel => exact ⟨(t418), (x7_2 ++ x4_1), (by rfl), (by with_reducible exact H'), ⟨by have := HK1.out; have := HK2.out; omega⟩, ⟨by exact HO_3.out⟩, ⟨by repeat ((with_reducible exact HB.out))⟩⟩
                    · rw [if_neg c24] at H
                      exact absurd H (by simp)
              · rw [if_neg c12] at H
                have c12b0 : decide (x8_2 < 9) = false := decide_eq_false c12
                clear c12
                by_cases c26 : x7_2.size + x4_1.size ≤ 9223372036854775807
                · rw [if_pos c26] at H
                  have c26b0 := eq_true c26
                  have c26b1 : decide (x7_2.size + x4_1.size ≤ 9223372036854775807) = true := decide_eq_true c26
                  try have c26b2 : (9223372036854775807 < x7_2.size + x4_1.size) = False := eq_false (Nat.not_lt.2 c26)
                  have H' := Aside0.mk H
                  clear H
                  go_wp2
                  go_roundg k2
                  case measure => have := HK1.out; have := HK2.out; omega
                  case rel => exact ⟨(t418), (x7_2 ++ x4_1), (by rfl), (by with_reducible exact H'), ⟨by have := HK1.out; have := HK2.out; omega⟩, ⟨by exact HO_3.out⟩, ⟨by repeat ((with_reducible exact HB.out))⟩⟩
                · rw [if_neg c26] at H
                  exact absurd H (by simp)
        · rw [if_neg c8] at H
          have c8b0 : decide (0 < (x3_1.length : Int)) = false := decide_eq_false c8
          have c8b1 : decide (0 < x3_1.length) = false := decide_eq_false (by omega)
          clear c8
          obtain rfl := Option.some.inj H
          obtain ⟨Ao27, co27, eo27⟩ := Kd.R_slice HO_3.out
          subst eo27
          go_wp2
          go_ret
          exact ⟨by rfl, by repeat ((with_reducible exact HB.out))⟩

/-! ### nat_Add: function 36 -/
mutual
def nat_Add.j0 : Nat → List Int → List Int → Option (List Int)
  | 0, _, _ => none
  | k + 1, x0, x1 => if 0 ≤ (wrap64 ((x0.length : Int) + 1)) then (if (wrap64 ((x0.length : Int) + 1) : Int).toNat ≤ 70368744177664 then (nat_Add.l0 k x0 x1 (List.replicate (wrap64 ((x0.length : Int) + 1) : Int).toNat 0) 0 (x0.length : Int) 0) else (none)) else (none)
def nat_Add.l0 : Nat → List Int → List Int → List Int → Int → Int → Int → Option (List Int)
  | 0, _, _, _, _, _, _ => none
  | k + 1, x0, x1, x5, x6, x20, x21 => if x21 < x20 then (if 0 ≤ x21 then (if x21 < (x0.length : Int) then (if x21 < (x1.length : Int) then (if x21 < (x5.length : Int) then (nat_Add.l0 k x0 x1 (x5.set (x21 : Int).toNat ((IntKind.u64.wrap ((IntKind.u64.wrap (x6 + (IntKind.u64.wrap (rd x0 x21)))) + (IntKind.u64.wrap (rd x1 x21)))) % 4294967296)) ((IntKind.u64.wrap ((IntKind.u64.wrap (x6 + (IntKind.u64.wrap (rd x0 x21)))) + (IntKind.u64.wrap (rd x1 x21)))) / 4294967296) x20 (wrap64 (x21 + 1))) else (none)) else (if x21 < (x5.length : Int) then (nat_Add.l0 k x0 x1 (x5.set (x21 : Int).toNat ((IntKind.u64.wrap (x6 + (IntKind.u64.wrap (rd x0 x21)))) % 4294967296)) ((IntKind.u64.wrap (x6 + (IntKind.u64.wrap (rd x0 x21)))) / 4294967296) x20 (wrap64 (x21 + 1))) else (none))) else (none)) else (none)) else (if 0 ≤ (x0.length : Int) then (if (x0.length : Int) < (x5.length : Int) then ((nat_trim_own.f k (x5.set ((x0.length : Int) : Int).toNat ((x6) % 4294967296))).bind fun t450 => (some t450)) else (none)) else (none))
end
def nat_Add.f (k : Nat) (l0 : List Int) (l1 : List Int) : Option (List Int) := if (l0.length : Int) < (l1.length : Int) then (nat_Add.j0 k l1 l0) else (nat_Add.j0 k l0 l1)
theorem nat_Add.mono_l : ∀ k, (∀ y0 y1, LeO (nat_Add.j0 k y0 y1) (nat_Add.j0 (k + 1) y0 y1)) ∧ (∀ y0 y1 y2 y3 y4 y5, LeO (nat_Add.l0 k y0 y1 y2 y3 y4 y5) (nat_Add.l0 (k + 1) y0 y1 y2 y3 y4 y5))
  | 0 => ⟨fun _ _ r h => by simp [nat_Add.j0] at h, fun _ _ _ _ _ _ r h => by simp [nat_Add.l0] at h⟩
  | k + 1 => by
    obtain ⟨ih0, ih1⟩ := nat_Add.mono_l k
    refine ⟨?_, ?_⟩
    · intro y0 y1
      unfold nat_Add.j0
      repeat' first | (with_reducible exact ih1 _ _ _ _ _ _) | (with_reducible exact LeO.refl _) | (with_reducible refine LeO.ite ?_ ?_)
    · intro y0 y1 y2 y3 y4 y5
      unfold nat_Add.l0
      repeat' first | (with_reducible exact ih1 _ _ _ _ _ _) | (with_reducible exact nat_trim_own.mono _ _) | (with_reducible exact LeO.refl _) | (with_reducible refine LeO.ite ?_ ?_) | (with_reducible refine LeO.bind ?_ (fun _ => ?_))
theorem nat_Add.mono : ∀ a0 a1 k, LeO (nat_Add.f k a0 a1) (nat_Add.f (k + 1) a0 a1) := by
  intro a0 a1 k
  obtain ⟨ih0, ih1⟩ := nat_Add.mono_l k
  unfold nat_Add.f
  repeat' first | (with_reducible exact ih0 _ _) | (with_reducible refine LeO.ite ?_ ?_)
set_option maxHeartbeats 8000000 in
set_option maxRecDepth 100000 in
theorem nat_Add.calls (k : Nat) (P0_ : Nat → Prop) (A0 : Option Addr) (c0 : Nat) (l0 : List Int) (P1_ : Nat → Prop) (A1 : Option Addr) (c1 : Nat) (l1 : List Int) (r : List Int) (w : World) (hs0 : Kd.V (Kd.int .u32) 31 w w.heap.size (fun k_ => P0_ k_) (.slice A0 l0.length c0) l0) (hs1 : Kd.V (Kd.int .u32) 31 w w.heap.size (fun k_ => P1_ k_) (.slice A1 l1.length c1) l1) (h : nat_Add.f k l0 l1 = some r) :
    Calls Try.prog 36 #[.slice A0 l0.length c0, .slice A1 l1.length c1] w fun e w' => ∃ v0_ : Value, e = .returned (v0_) ∧ Kd.R (Kd.int .u32) 31 w' w.heap.size (fun k_ => (w.heap.size ≤ k_)) v0_ r ∧ Below w.heap.size w w' := by
  have HO0 := Aside0.mk (show Kd.V (Kd.int .u32) 31 w w.heap.size (fun k_ => ((P0_ k_ ∨ P1_ k_) ∨ w.heap.size ≤ k_)) (.slice A0 l0.length c0) l0 from Kd.V_mono hs0 (fun k_ hk => .inl (.inl hk)))
  have HO1 := Aside0.mk (show Kd.V (Kd.int .u32) 31 w w.heap.size (fun k_ => ((P0_ k_ ∨ P1_ k_) ∨ w.heap.size ≤ k_)) (.slice A1 l1.length c1) l1 from Kd.V_mono hs1 (fun k_ hk => .inl (.inr hk)))
  have HB := Aside0.mk (Below.refl w.heap.size w)
  have H : (if (l0.length : Int) < (l1.length : Int) then (nat_Add.j0 k l1 l0) else (nat_Add.j0 k l0 l1)) = some r := h
  clear h
  have HC3 := Aside0.mk H
  clear H
  go_enter Try.func36, Try.ntmps36
  go_upto_if 12 with (fail)
  go_cut [0, 1] (fun v0 v1 wc => ∃ (kq : Nat) (x0_2 : List Int) (x1_2 : List Int), Aside0 (nat_Add.j0 kq x0_2 x1_2 = some r) ∧ Aside0 (kq ≤ k) ∧ Aside0 (Kd.V (Kd.int .u32) 31 wc w.heap.size (fun k_ => ((P0_ k_ ∨ P1_ k_) ∨ w.heap.size ≤ k_)) v0 x0_2) ∧ Aside0 (Kd.V (Kd.int .u32) 31 wc w.heap.size (fun k_ => ((P0_ k_ ∨ P1_ k_) ∨ w.heap.size ≤ k_)) v1 x1_2) ∧ Aside0 (Below w.heap.size w wc))
  case first =>
    have H := HC3.out
    clear HC3
    by_cases c4 : (l0.length : Int) < (l1.length : Int)
    · rw [if_pos c4] at H
      have c4b0 : decide ((l0.length : Int) < (l1.length : Int)) = true := decide_eq_true c4
      have c4b1 : decide (l0.length < l1.length) = true := decide_eq_true (Int.ofNat_lt.mp c4)
      clear c4
      (rw [c4b1])
      have H' := Aside0.mk H
      clear H
      go_wp2
      go_meet
      case rel => exact ⟨_, (l1), (l0), (by with_reducible exact H'), ⟨by omega⟩, ⟨by exact HO1.out⟩, ⟨by exact HO0.out⟩, ⟨by repeat ((with_reducible exact HB.out))⟩⟩
    · rw [if_neg c4] at H
      have c4b0 : decide ((l0.length : Int) < (l1.length : Int)) = false := decide_eq_false c4
      have c4b1 : decide (l0.length < l1.length) = false := decide_eq_false (fun h => c4 (Int.ofNat_lt.mpr h))
      clear c4
      (rw [c4b1])
      have H' := Aside0.mk H
      clear H
      go_wp2
      go_meet
      case rel => exact ⟨_, (l0), (l1), (by with_reducible exact H'), ⟨by omega⟩, ⟨by exact HO0.out⟩, ⟨by exact HO1.out⟩, ⟨by repeat ((with_reducible exact HB.out))⟩⟩
  case rest =>
    clear HC3
    skip
    skip
    skip
    skip
    skip
    skip
    obtain ⟨kq, x0_2, x1_2, HA, HJ2, HO_0, HO_1, HB⟩ := hcut
    cases kq with
    | zero => exact absurd HA.out (by simp [nat_Add.j0])
    | succ kj2 =>
      have H := HA.out
      clear HA
      simp only [nat_Add.j0] at H
      obtain ⟨ji5, hji5⟩ : ∃ j_ : Int, (wrap64 ((x0_2.length : Int) + 1)) = j_ := ⟨_, rfl⟩
      replace H : (if 0 ≤ (ji5) then (if (ji5 : Int).toNat ≤ 70368744177664 then (nat_Add.l0 kj2 x0_2 x1_2 (List.replicate (ji5 : Int).toNat 0) 0 (x0_2.length : Int) 0) else (none)) else (none)) = some r := by (rw [hji5] at H; exact H)
      have hji5w : (IntKind.i64.wrap ((x0_2.length : Int) + 1)) = ji5 := (i64_w _).trans hji5
      by_cases c6 : 0 ≤ (ji5)
      · rw [if_pos c6] at H
        have c6b0 := eq_true c6
        have c6b1 : decide (0 ≤ (ji5)) = true := decide_eq_true c6
        clear c6
        by_cases c7 : (ji5 : Int).toNat ≤ 70368744177664
        · rw [if_pos c7] at H
          have c7b0 := eq_true c7
          have c7b1 : decide ((ji5 : Int).toNat ≤ 70368744177664) = true := decide_eq_true c7
          clear c7
          obtain ⟨y442, hy442⟩ : ∃ y_ : List Int, y_ = (List.replicate (ji5 : Int).toNat 0) := ⟨_, rfl⟩
          replace H : (nat_Add.l0 kj2 x0_2 x1_2 y442 0 (x0_2.length : Int) 0) = some r := by (rw [hy442]; with_reducible exact H)
          have Ny442 := Aside0.mk hy442
          clear hy442
          have H' := Aside0.mk H
          clear H
          obtain ⟨Ao8, co8, eo8⟩ := Kd.V_slice HO_0.out
          subst eo8
          go_wp2_with (((with_reducible refine gate_dst (N := 18) rfl ?_); refine Kd.R_make (Kd.int .u32) _ 31 rfl (N := 18) rfl 22 _ _ rfl ji5 rfl rfl Try.underlying22 (.int .u32 0) 4 info31 rfl (by decide) (by omega) 0 (ok := fun _ => True) (okp := fun _ => True) rfl (fun _ hk => hk) trivial (of_decide_eq_true (by (with_reducible assumption))) (Nat.le_trans (Nat.mul_le_mul_right _ (of_decide_eq_true (by (with_reducible assumption)) : ji5.toNat ≤ 70368744177664)) (by omega)) (Below.refl _ _) (Nat.le_refl _) ?_; intro v443 w9 ho10 hb hg_ hnew_; clear hg_ hnew_; (rw [← Ny442.out] at ho10); have n0_ := Aside0.mk (Kd.V_elder' (by exact HO_0.out) (Kd.R_base ho10) hb); have n1_ := Aside0.mk (Kd.V_elder' (by exact HO_1.out) (Kd.R_base ho10) hb); have n2_ := Aside0.mk (Kd.R_lower (Kd.R_newM (M := fun k_ => (w.heap.size ≤ k_)) ho10 (below_size (by repeat ((with_reducible exact HB.out)))) (fun k_ h_ => h_)) (below_size (by repeat ((with_reducible exact HB.out))))); have n3_ := Aside0.mk (below_step (by repeat ((with_reducible exact HB.out))) hb); clear HO_0; clear HO_1; clear HB; have HO_0 := n0_; have HO_1 := n1_; have HO444 := n2_; have HB := n3_; clear n0_ n1_ n2_ n3_; clear hb ho10))
          go_loopg [6, 21] kj2 (fun kq v6 v21 w' => ∃ (x5_2 : List Int) (x6_2 : Int) (x21_2 : Int), v6 = .int .u64 x6_2 ∧ v21 = .int .i64 x21_2 ∧ Aside0 (nat_Add.l0 kq x0_2 x1_2 x5_2 x6_2 (x0_2.length : Int) x21_2 = some r) ∧ Aside0 (kq ≤ kj2) ∧ Aside0 (Kd.V (Kd.int .u32) 31 w' w.heap.size (fun k_ => ((P0_ k_ ∨ P1_ k_) ∨ w.heap.size ≤ k_) ∧ some k_ ≠ (v443 : Value).ownBlock) (.slice Ao8 x0_2.length co8) x0_2) ∧ Aside0 (Kd.V (Kd.int .u32) 31 w' w.heap.size (fun k_ => ((P0_ k_ ∨ P1_ k_) ∨ w.heap.size ≤ k_) ∧ some k_ ≠ (v443 : Value).ownBlock) u1 x1_2) ∧ Aside0 (Kd.R (Kd.int .u32) 31 w' w.heap.size (fun k_ => (w.heap.size ≤ k_)) v443 x5_2) ∧ Aside0 (Below w.heap.size w w'))
          case atStart => exact ⟨(y442), (0), (0), (by rfl), (by rfl), H', ⟨Nat.le_refl _⟩, ⟨by exact HO_0.out⟩, ⟨by exact HO_1.out⟩, ⟨by exact Kd.R_mono HO444.out (fun _ hk => hk.1)⟩, ⟨by repeat ((with_reducible exact HB.out))⟩⟩
          case round =>
            clear H'
            skip
            skip
            skip
            skip
            skip
            skip
            skip
            try clear c6b0
            try clear c6b1
            skip
            skip
            try clear c7b0
            try clear c7b1
            skip
            obtain ⟨x5_2, x6_2, x21_2, rfl, rfl, HA, HK2, HO_0, HO_1, HO_5, HB⟩ := hrel
            cases gk with
            | zero => exact absurd HA.out (by simp [nat_Add.l0])
            | succ k2 =>
              have H := HA.out
              clear HA
              simp only [nat_Add.l0] at H
              by_cases c11 : x21_2 < (x0_2.length : Int)
              · rw [if_pos c11] at H
                have c11b0 : decide (x21_2 < (x0_2.length : Int)) = true := decide_eq_true c11
                clear c11
                by_cases c12 : 0 ≤ x21_2
                · rw [if_pos c12] at H
                  have c12b0 : decide (0 ≤ x21_2) = true := decide_eq_true c12
                  clear c12
                  by_cases c13 : x21_2 < (x0_2.length : Int)
                  · rw [if_pos c13] at H
                    have c13b0 : decide (x21_2 < (x0_2.length : Int)) = true := decide_eq_true c13
                    clear c13
                    by_cases c14 : x21_2 < (x1_2.length : Int)
                    · rw [if_pos c14] at H
                      have c14b0 : decide (x21_2 < (x1_2.length : Int)) = true := decide_eq_true c14
                      clear c14
                      by_cases c15 : x21_2 < (x5_2.length : Int)
                      · rw [if_pos c15] at H
                        have c15b0 : decide (x21_2 < (x5_2.length : Int)) = true := decide_eq_true c15
                        clear c15
                        obtain ⟨y447, hy447⟩ : ∃ y_ : List Int, y_ = (x5_2.set (x21_2 : Int).toNat ((IntKind.u64.wrap ((IntKind.u64.wrap (x6_2 + (IntKind.u64.wrap (rd x0_2 x21_2)))) + (IntKind.u64.wrap (rd x1_2 x21_2)))) % 4294967296)) := ⟨_, rfl⟩
                        replace H : (nat_Add.l0 k2 x0_2 x1_2 y447 ((IntKind.u64.wrap ((IntKind.u64.wrap (x6_2 + (IntKind.u64.wrap (rd x0_2 x21_2)))) + (IntKind.u64.wrap (rd x1_2 x21_2)))) / 4294967296) (x0_2.length : Int) (wrap64 (x21_2 + 1))) = some r := by (rw [hy447]; with_reducible exact H)
                        have Ny447 := Aside0.mk hy447
                        clear hy447
                        have H' := Aside0.mk H
                        clear H
                        have p445 : 0 ≤ (x21_2 : Int) := of_decide_eq_true (by (with_reducible assumption))
                        have q445 : x21_2 < (x0_2.length : Int) := of_decide_eq_true (by (with_reducible assumption))
                        obtain ⟨ad445, e445, hx445_0⟩ := Kd.at_int (Kd.V_reads' HO_0.out).2.2 x21_2 p445 q445
                        cases e445
                        replace p445 := eq_true p445
                        replace q445 := eq_true q445
                        obtain ⟨Ao17, co17, eo17⟩ := Kd.V_slice HO_1.out
                        subst eo17
                        have p446 : 0 ≤ (x21_2 : Int) := of_decide_eq_true (by (with_reducible assumption))
                        have q446 : x21_2 < (x1_2.length : Int) := of_decide_eq_true (by (with_reducible assumption))
                        obtain ⟨ad446, e446, hx446_0⟩ := Kd.at_int (Kd.V_reads' HO_1.out).2.2 x21_2 p446 q446
                        cases e446
                        replace p446 := eq_true p446
                        replace q446 := eq_true q446
                        have p16 : 0 ≤ (x21_2 : Int) := of_decide_eq_true (by (with_reducible assumption))
                        have q16 : (x21_2 : Int) < ((x5_2.length : Int) : Int) := of_decide_eq_true (by (with_reducible assumption))
                        obtain ⟨go16, co16, eo16, gb16, gl16, cl16, HG16⟩ := Kd.R_form HO_5.out (by omega)
                        (cases eo16)
                        have GB16 := Aside0.mk gb16
                        have GG16 := Aside0.mk HG16
                        clear gb16 gl16 HG16
                        obtain ⟨hx16_0, hf16_0⟩ := Kd.R_celln 0 HO_5.out (x21_2 : Int) p16 q16
                        replace p16 := eq_true p16
                        replace q16 := eq_true q16
                        have HP18 := Kd.R_putg HO_5.out (x21_2 : Int) ((IntKind.u64.wrap ((IntKind.u64.wrap (x6_2 + (IntKind.u64.wrap (rd x0_2 x21_2)))) + (IntKind.u64.wrap (rd x1_2 x21_2)))) % 4294967296)
                        go_wp2_with (((with_reducible refine gate_store (t := 31) (p := 46) rfl ?_); refine store_event (t := 31) (p := 46) (v := ?vo_w19) (w1 := (wr.setCell ⟨go16, (x21_2 : Int).toNat, none⟩ (.int .u32 ((IntKind.u64.wrap ((IntKind.u64.wrap (x6_2 + (IntKind.u64.wrap (rd x0_2 x21_2)))) + (IntKind.u64.wrap (rd x1_2 x21_2)))) % 4294967296)))) ?hg ?ho ?hn ?hr ?_; (case ho => rfl); (case hg => rfl); (case hn => rfl); (case hr => (go_simp; done)); intro w19 hw; have hg : wr.grownBy w19 (some go16) := (by rw [hw]; exact HP18.2); have hp_ : Kd.R (Kd.int .u32) 31 w19 w.heap.size (fun k_ => (w.heap.size ≤ k_)) (.slice (some ⟨go16, 0, none⟩) x5_2.length co16) y447 := (by rw [hw, Ny447.out]; exact HP18.1); clear HP18; have n0_ := Aside0.mk (Kd.V_afterv (v := (.slice (some ⟨go16, 0, none⟩) x5_2.length co16)) (v1 := (.slice (some ⟨go16, 0, none⟩) x5_2.length co16)) (ok := (fun k_ => ((P0_ k_ ∨ P1_ k_) ∨ w.heap.size ≤ k_))) (by exact HO_0.out) hg (.inl rfl)); have n1_ := Aside0.mk (Kd.V_afterv (v := (.slice (some ⟨go16, 0, none⟩) x5_2.length co16)) (v1 := (.slice (some ⟨go16, 0, none⟩) x5_2.length co16)) (ok := (fun k_ => ((P0_ k_ ∨ P1_ k_) ∨ w.heap.size ≤ k_))) (by exact HO_1.out) hg (.inl rfl)); have n2_ := Aside0.mk (hp_); have n3_ := Aside0.mk ((by rw [hw]; exact below_set (HB.out) GB16.out : Below w.heap.size w w19)); clear HO_0; clear HO_1; clear HO_5; clear HB; have HO_0 := n0_; have HO_1 := n1_; have HO_5 := n2_; have HB := n3_; clear n0_ n1_ n2_ n3_; clear hg hw hp_))
                        go_roundg k2
                        case measure => have := HJ2.out; have := HK2.out; omega
                        case rel => exact ⟨(y447), ((IntKind.u64.wrap ((IntKind.u64.wrap (x6_2 + (IntKind.u64.wrap (rd x0_2 x21_2)))) + (IntKind.u64.wrap (rd x1_2 x21_2)))) / 4294967296), (wrap64 (x21_2 + 1)), (by rfl), (by rfl), (by with_reducible exact H'), ⟨by have := HJ2.out; have := HK2.out; omega⟩, ⟨by exact HO_0.out⟩, ⟨by exact HO_1.out⟩, ⟨by exact HO_5.out⟩, ⟨by repeat ((with_reducible exact HB.out))⟩⟩
                      · rw [if_neg c15] at H
                        exact absurd H (by simp)
                    · rw [if_neg c14] at H
                      have c14b0 : decide (x21_2 < (x1_2.length : Int)) = false := decide_eq_false c14
                      clear c14
                      by_cases c20 : x21_2 < (x5_2.length : Int)
                      · rw [if_pos c20] at H
                        have c20b0 : decide (x21_2 < (x5_2.length : Int)) = true := decide_eq_true c20
                        clear c20
                        obtain ⟨y448, hy448⟩ : ∃ y_ : List Int, y_ = (x5_2.set (x21_2 : Int).toNat ((IntKind.u64.wrap (x6_2 + (IntKind.u64.wrap (rd x0_2 x21_2)))) % 4294967296)) := ⟨_, rfl⟩
                        replace H : (nat_Add.l0 k2 x0_2 x1_2 y448 ((IntKind.u64.wrap (x6_2 + (IntKind.u64.wrap (rd x0_2 x21_2)))) / 4294967296) (x0_2.length : Int) (wrap64 (x21_2 + 1))) = some r := by (rw [hy448]; with_reducible exact H)
                        have Ny448 := Aside0.mk hy448
                        clear hy448
                        have H' := Aside0.mk H
                        clear H
                        have p445 : 0 ≤ (x21_2 : Int) := of_decide_eq_true (by (with_reducible assumption))
                        have q445 : x21_2 < (x0_2.length : Int) := of_decide_eq_true (by (with_reducible assumption))
                        obtain ⟨ad445, e445, hx445_0⟩ := Kd.at_int (Kd.V_reads' HO_0.out).2.2 x21_2 p445 q445
                        cases e445
                        replace p445 := eq_true p445
                        replace q445 := eq_true q445
                        obtain ⟨Ao22, co22, eo22⟩ := Kd.V_slice HO_1.out
                        subst eo22
                        have p21 : 0 ≤ (x21_2 : Int) := of_decide_eq_true (by (with_reducible assumption))
                        have q21 : (x21_2 : Int) < ((x5_2.length : Int) : Int) := of_decide_eq_true (by (with_reducible assumption))
                        obtain ⟨go21, co21, eo21, gb21, gl21, cl21, HG21⟩ := Kd.R_form HO_5.out (by omega)
                        (cases eo21)
                        have GB21 := Aside0.mk gb21
                        have GG21 := Aside0.mk HG21
                        clear gb21 gl21 HG21
                        obtain ⟨hx21_0, hf21_0⟩ := Kd.R_celln 0 HO_5.out (x21_2 : Int) p21 q21
                        replace p21 := eq_true p21
                        replace q21 := eq_true q21
                        have HP23 := Kd.R_putg HO_5.out (x21_2 : Int) ((IntKind.u64.wrap (x6_2 + (IntKind.u64.wrap (rd x0_2 x21_2)))) % 4294967296)
                        go_wp2_with (((with_reducible refine gate_store (t := 31) (p := 46) rfl ?_); refine store_event (t := 31) (p := 46) (v := ?vo_w24) (w1 := (wr.setCell ⟨go21, (x21_2 : Int).toNat, none⟩ (.int .u32 ((IntKind.u64.wrap (x6_2 + (IntKind.u64.wrap (rd x0_2 x21_2)))) % 4294967296)))) ?hg ?ho ?hn ?hr ?_; (case ho => rfl); (case hg => rfl); (case hn => rfl); (case hr => (go_simp; done)); intro w24 hw; have hg : wr.grownBy w24 (some go21) := (by rw [hw]; exact HP23.2); have hp_ : Kd.R (Kd.int .u32) 31 w24 w.heap.size (fun k_ => (w.heap.size ≤ k_)) (.slice (some ⟨go21, 0, none⟩) x5_2.length co21) y448 := (by rw [hw, Ny448.out]; exact HP23.1); clear HP23; have n0_ := Aside0.mk (Kd.V_afterv (v := (.slice (some ⟨go21, 0, none⟩) x5_2.length co21)) (v1 := (.slice (some ⟨go21, 0, none⟩) x5_2.length co21)) (ok := (fun k_ => ((P0_ k_ ∨ P1_ k_) ∨ w.heap.size ≤ k_))) (by exact HO_0.out) hg (.inl rfl)); have n1_ := Aside0.mk (Kd.V_afterv (v := (.slice (some ⟨go21, 0, none⟩) x5_2.length co21)) (v1 := (.slice (some ⟨go21, 0, none⟩) x5_2.length co21)) (ok := (fun k_ => ((P0_ k_ ∨ P1_ k_) ∨ w.heap.size ≤ k_))) (by exact HO_1.out) hg (.inl rfl)); have n2_ := Aside0.mk (hp_); have n3_ := Aside0.mk ((by rw [hw]; exact below_set (HB.out) GB21.out : Below w.heap.size w w24)); clear HO_0; clear HO_1; clear HO_5; clear HB; have HO_0 := n0_; have HO_1 := n1_; have HO_5 := n2_; have HB := n3_; clear n0_ n1_ n2_ n3_; clear hg hw hp_))
                        go_roundg k2
                        case measure => have := HJ2.out; have := HK2.out; omega
                        case rel => exact ⟨(y448), ((IntKind.u64.wrap (x6_2 + (IntKind.u64.wrap (rd x0_2 x21_2)))) / 4294967296), (wrap64 (x21_2 + 1)), (by rfl), (by rfl), (by with_reducible exact H'), ⟨by have := HJ2.out; have := HK2.out; omega⟩, ⟨by exact HO_0.out⟩, ⟨by exact HO_1.out⟩, ⟨by exact HO_5.out⟩, ⟨by repeat ((with_reducible exact HB.out))⟩⟩
                      · rw [if_neg c20] at H
                        exact absurd H (by simp)
                  · rw [if_neg c13] at H
                    exact absurd H (by simp)
                · rw [if_neg c12] at H
                  exact absurd H (by simp)
              · rw [if_neg c11] at H
                have c11b0 : decide (x21_2 < (x0_2.length : Int)) = false := decide_eq_false c11
                clear c11
                by_cases c25 : 0 ≤ (x0_2.length : Int)
                · rw [if_pos c25] at H
                  have c25b0 : decide (0 ≤ (x0_2.length : Int)) = true := decide_eq_true c25
                  have c25b1 : decide (0 ≤ x0_2.length) = true := decide_eq_true (by omega)
                  clear c25
                  by_cases c26 : (x0_2.length : Int) < (x5_2.length : Int)
                  · rw [if_pos c26] at H
                    have c26b0 : decide ((x0_2.length : Int) < (x5_2.length : Int)) = true := decide_eq_true c26
                    have c26b1 : decide (x0_2.length < x5_2.length) = true := decide_eq_true (Int.ofNat_lt.mp c26)
                    clear c26
                    obtain ⟨y449, hy449⟩ : ∃ y_ : List Int, y_ = (x5_2.set ((x0_2.length : Int) : Int).toNat ((x6_2) % 4294967296)) := ⟨_, rfl⟩
                    replace H : ((nat_trim_own.f k2 y449).bind fun t450 => (some t450)) = some r := by (rw [hy449]; with_reducible exact H)
                    have Ny449 := Aside0.mk hy449
                    clear hy449
                    replace H := Option.bind_eq_some_iff.mp H
                    obtain ⟨t450, A280, H⟩ := H
                    replace H : (some t450) = some r := H
                    have A28 := Aside0.mk A280
                    clear A280
                    obtain rfl := Option.some.inj H
                    have p27 : 0 ≤ ((x0_2.length : Int) : Int) := of_decide_eq_true (by (with_reducible assumption))
                    have q27 : ((x0_2.length : Int) : Int) < ((x5_2.length : Int) : Int) := of_decide_eq_true (by (with_reducible assumption))
                    obtain ⟨go27, co27, eo27, gb27, gl27, cl27, HG27⟩ := Kd.R_form HO_5.out (by omega)
                    (cases eo27)
                    have GB27 := Aside0.mk gb27
                    have GG27 := Aside0.mk HG27
                    clear gb27 gl27 HG27
                    obtain ⟨hx27_0, hf27_0⟩ := Kd.R_celln 0 HO_5.out ((x0_2.length : Int) : Int) p27 q27
                    (try simp only [Int.toNat_natCast] at hx27_0 hf27_0)
                    replace p27 := eq_true p27
                    replace q27 := eq_true q27
                    have HP29 := Kd.R_putg HO_5.out ((x0_2.length : Int) : Int) ((x6_2) % 4294967296)
                    (try (have HL_ := Aside0.mk (Kd.R_reads' HO_5.out).1; replace HO_5 := Aside0.mk (r_relen HO_5.out)))
                    go_wp2_with (first | ((with_reducible refine gate_store (t := 31) (p := 55) rfl ?_); refine store_event (t := 31) (p := 55) (v := ?vo_w30) (w1 := (wr.setCell ⟨go27, ((x0_2.length : Int) : Int).toNat, none⟩ (.int .u32 ((x6_2) % 4294967296)))) ?hg ?ho ?hn ?hr ?_; (case ho => rfl); (case hg => rfl); (case hn => rfl); (case hr => (go_simp; done)); intro w30 hw; have hg : wr.grownBy w30 (some go27) := (by rw [hw]; exact HP29.2); have hp_ : Kd.R (Kd.int .u32) 31 w30 w.heap.size (fun k_ => (w.heap.size ≤ k_)) (.slice (some ⟨go27, 0, none⟩) x5_2.length co27) y449 := (by rw [hw, Ny449.out]; exact HP29.1); clear HP29; have n0_ := Aside0.mk (Kd.V_afterv (v := (.slice (some ⟨go27, 0, none⟩) x5_2.length co27)) (v1 := (.slice (some ⟨go27, 0, none⟩) x5_2.length co27)) (ok := (fun k_ => ((P0_ k_ ∨ P1_ k_) ∨ w.heap.size ≤ k_))) (by exact HO_0.out) hg (.inl rfl)); have n1_ := Aside0.mk (Kd.V_afterv (v := (.slice (some ⟨go27, 0, none⟩) x5_2.length co27)) (v1 := (.slice (some ⟨go27, 0, none⟩) x5_2.length co27)) (ok := (fun k_ => ((P0_ k_ ∨ P1_ k_) ∨ w.heap.size ≤ k_))) (by exact HO_1.out) hg (.inl rfl)); have n2_ := Aside0.mk (hp_); have n3_ := Aside0.mk ((by rw [hw]; exact below_set (HB.out) GB27.out : Below w.heap.size w w30)); clear HO_0; clear HO_1; clear HO_5; clear HB; have HO_0 := n0_; have HO_1 := n1_; have HO_5 := n2_; have HB := n3_; clear n0_ n1_ n2_ n3_; clear hg hw hp_) | ((with_reducible refine gate_callee (f := 46) rfl ?_); refine goesL_ (some 57) rfl rfl Try.func46 (by kernel_rfl) rfl #[.slice (some ⟨go27, 0, none⟩) x5_2.length co27] rfl (by (try simp only [List.map_toArray, List.map_cons, List.map_nil]); rfl) ?_; (with_reducible refine (nat_trim_own.calls k2 (fun k_ => some k_ = (.slice (some ⟨go27, 0, none⟩) x5_2.length co27 : Value).ownBlock) (.slice (some ⟨go27, 0, none⟩) x5_2.length co27) y449 t450 w _ ?side1 ?side2 A28.out).mono ?_); (case side1 => repeat ((with_reducible exact HB.out))); (case side2 => exact Kd.R_tight rfl HO_5.out); rintro e w31 ⟨v451, rfl, ho0, hb, hkp⟩; refine ⟨_, rfl, ?_⟩; have n0_ := Aside0.mk (Kd.V_mono (ok' := fun k_ => ((P0_ k_ ∨ P1_ k_) ∨ w.heap.size ≤ k_) ∧ some k_ ≠ (v451 : Value).ownBlock) (Kd.V_keptB (HO_0.out) hkp (fun k_ hk_ hs_ => (hk_.2) hs_)) (fun k_ hk_ => ⟨hk_.1.1, fun e_ => Or.elim (ho0.1 k_ e_.symm) (fun hs_ => hk_.2.1 hs_) (fun hn_ => Nat.not_le.2 hk_.2.2 hn_)⟩)); have n1_ := Aside0.mk (Kd.V_mono (ok' := fun k_ => ((P0_ k_ ∨ P1_ k_) ∨ w.heap.size ≤ k_) ∧ some k_ ≠ (v451 : Value).ownBlock) (Kd.V_keptB (HO_1.out) hkp (fun k_ hk_ hs_ => (hk_.2) hs_)) (fun k_ hk_ => ⟨hk_.1.1, fun e_ => Or.elim (ho0.1 k_ e_.symm) (fun hs_ => hk_.2.1 hs_) (fun hn_ => Nat.not_le.2 hk_.2.2 hn_)⟩)); have n2_ := Aside0.mk (Kd.R_mono (ok' := fun k_ => (w.heap.size ≤ k_)) ho0 (fun k_ hk_ => Or.elim hk_ (fun hs_ => (HO_5.out.1 k_ (hs_).symm)) (fun hn_ => (Nat.le_trans (below_size (by repeat ((with_reducible exact HB.out)))) hn_)))); have n3_ := Aside0.mk (hb); clear HO_0; clear HO_1; clear HB; clear HO_5; have HO_0 := n0_; have HO_1 := n1_; have HO452 := n2_; have HB := n3_; clear n0_ n1_ n2_ n3_; (try clear hb); (try clear hkp); (try clear ho0)))
                    go_ret
                    exact ⟨_, by rfl, by exact HO452.out, by repeat ((with_reducible exact HB.out))⟩
                  · rw [if_neg c26] at H
                    exact absurd H (by simp)
                · rw [if_neg c25] at H
                  exact absurd H (by simp)
        · rw [if_neg c7] at H
          exact absurd H (by simp)
      · rw [if_neg c6] at H
        exact absurd H (by simp)

end Go.Proofs.Ytnlkafjhbjlhaaa.PA
