-- printed by a program of this session
import Derived.Test.YtnlkafjhbjlhaaaPAx0K
import Derived.Test.YtnlkafjhbjlhaaaPAx1K
import Derived.Test.YtnlkafjhbjlhaaaPAx10K
import Derived.Test.YtnlkafjhbjlhaaaPAx11K
import Derived.Test.YtnlkafjhbjlhaaaPAx13K
import Derived.Test.YtnlkafjhbjlhaaaPAx16K
import Derived.Test.YtnlkafjhbjlhaaaReadCK
namespace Go.Proofs.Ytnlkafjhbjlhaaa.PA
open Go.RowKit Go.Proofs.YtnlkafjhbjlhaaaW.PrintWords Go.Proofs.YtnlkafjhbjlhaaaW.PrintLast Go.Proofs.YtnlkafjhbjlhaaaW.PrintMore
attribute [local go_sem] max2_int min2_int max_two min_two max_three min_three max_four min_four   -- for this text's walks alone
set_option linter.unusedVariables false
set_option linter.unusedSimpArgs false

/-! ### trammellaw01_NatThere: function 12 -/
def trammellaw01_NatThere.j0 : Nat → List Int → Int → Bool → Option (Bool)
  | 0, _, _, _ => none
  | k + 1, x0, x1, x39 => if x39 = true then (some false) else ((nat_Shl.f k x0 (wrap64 (x1))).bind fun bt657 => ((nat_Bits.f k x0).bind fun t661 => (if t661 > 1048320 then (some true) else ((nat_Shr.f k bt657.1 (wrap64 (x1))).bind fun bt662 => (if bt657.2 = 0 then (if bt662.2 = 0 then ((nat_Norm.f k x0).bind fun t666 => ((trammellaw01_same.f k bt662.1 t666).bind fun t669 => (if t669 = true then ((nat_Bits.f k x0).bind fun t670 => (if t670 = 0 then (some true) else ((nat_Bits.f k bt657.1).bind fun t671 => ((nat_Bits.f k x0).bind fun t672 => (some (t671 == (wrap64 (t672 + (wrap64 (x1)))))))))) else (some false)))) else (some false)) else (some false))))))
def trammellaw01_NatThere.f (k : Nat) (l0 : List Int) (a1 : Int) : Option (Bool) := (trammellaw01_awake.f k).bind fun t645 => (if t645 = true then ((nat_Text.f k l0).bind fun t646 => ((nat_Read.f t646).bind fun bt647 => ((nat_Text.f k l0).bind fun t652 => (if (t652.size : Int) ≤ 65536 then (if bt647.2.2 = 0 then (if bt647.2.1 = 0 then ((nat_Norm.f k l0).bind fun t653 => ((trammellaw01_same.f k bt647.1 t653).bind fun t656 => (trammellaw01_NatThere.j0 k l0 a1 (!t656)))) else (trammellaw01_NatThere.j0 k l0 a1 true)) else (trammellaw01_NatThere.j0 k l0 a1 true)) else (trammellaw01_NatThere.j0 k l0 a1 false))))) else (some false))
theorem trammellaw01_NatThere.mono_l : ∀ k, (∀ y0 y1 y2, LeO (trammellaw01_NatThere.j0 k y0 y1 y2) (trammellaw01_NatThere.j0 (k + 1) y0 y1 y2))
  | 0 => fun _ _ _ r h => by simp [trammellaw01_NatThere.j0] at h
  | k + 1 => by
    have ih0 := trammellaw01_NatThere.mono_l k
    · intro y0 y1 y2
      unfold trammellaw01_NatThere.j0
      repeat' first | (with_reducible exact nat_Bits.mono _ _) | (with_reducible exact nat_Norm.mono _ _) | (with_reducible exact nat_Shl.mono _ _ _) | (with_reducible exact nat_Shr.mono _ _ _) | (with_reducible exact trammellaw01_same.mono _ _ _) | (with_reducible exact LeO.refl _) | (with_reducible refine LeO.ite ?_ ?_) | (with_reducible refine LeO.bind ?_ (fun _ => ?_))
theorem trammellaw01_NatThere.mono : ∀ a0 a1 k, LeO (trammellaw01_NatThere.f k a0 a1) (trammellaw01_NatThere.f (k + 1) a0 a1) := by
  intro a0 a1 k
  have ih0 := trammellaw01_NatThere.mono_l k
  unfold trammellaw01_NatThere.f
  repeat' first | (with_reducible exact ih0 _ _ _) | (with_reducible exact nat_Norm.mono _ _) | (with_reducible exact nat_Text.mono _ _) | (with_reducible exact trammellaw01_awake.mono _) | (with_reducible exact trammellaw01_same.mono _ _ _) | (with_reducible exact LeO.refl _) | (with_reducible refine LeO.ite ?_ ?_) | (with_reducible refine LeO.bind ?_ (fun _ => ?_))
set_option maxHeartbeats 8000000 in
set_option maxRecDepth 100000 in
theorem trammellaw01_NatThere.calls (k : Nat) (A0 : Option Addr) (c0 : Nat) (l0 : List Int) (a1 : Int) (r : Bool) (w : World) (hr0 : Kd.C (Kd.int .u32) w A0 l0.length l0) (hc0 : l0.length ≤ c0) (h : trammellaw01_NatThere.f k l0 a1 = some r) :
    Calls Try.prog 12 #[.slice A0 l0.length c0, .int .u8 a1] w fun e w' => e = .returned (.bool r) ∧ Below w.heap.size w w' := by
  have HR0 := Aside0.mk hr0
  have HC0 := Aside0.mk hc0
  clear hr0 hc0
  have HB := Aside0.mk (Below.refl w.heap.size w)
  have H : ((trammellaw01_awake.f k).bind fun t645 => (if t645 = true then ((nat_Text.f k l0).bind fun t646 => ((nat_Read.f t646).bind fun bt647 => ((nat_Text.f k l0).bind fun t652 => (if (t652.size : Int) ≤ 65536 then (if bt647.2.2 = 0 then (if bt647.2.1 = 0 then ((nat_Norm.f k l0).bind fun t653 => ((trammellaw01_same.f k bt647.1 t653).bind fun t656 => (trammellaw01_NatThere.j0 k l0 a1 (!t656)))) else (trammellaw01_NatThere.j0 k l0 a1 true)) else (trammellaw01_NatThere.j0 k l0 a1 true)) else (trammellaw01_NatThere.j0 k l0 a1 false))))) else (some false))) = some r := h
  clear h
  replace H := Option.bind_eq_some_iff.mp H
  obtain ⟨t645, A30, H⟩ := H
  replace H : (if t645 = true then ((nat_Text.f k l0).bind fun t646 => ((nat_Read.f t646).bind fun bt647 => ((nat_Text.f k l0).bind fun t652 => (if (t652.size : Int) ≤ 65536 then (if bt647.2.2 = 0 then (if bt647.2.1 = 0 then ((nat_Norm.f k l0).bind fun t653 => ((trammellaw01_same.f k bt647.1 t653).bind fun t656 => (trammellaw01_NatThere.j0 k l0 a1 (!t656)))) else (trammellaw01_NatThere.j0 k l0 a1 true)) else (trammellaw01_NatThere.j0 k l0 a1 true)) else (trammellaw01_NatThere.j0 k l0 a1 false))))) else (some false)) = some r := H
  have A3 := Aside0.mk A30
  clear A30
  by_cases c4 : t645 = true
  · subst c4
    have H1 : ((nat_Text.f k l0).bind fun t646 => ((nat_Read.f t646).bind fun bt647 => ((nat_Text.f k l0).bind fun t652 => (if (t652.size : Int) ≤ 65536 then (if bt647.2.2 = 0 then (if bt647.2.1 = 0 then ((nat_Norm.f k l0).bind fun t653 => ((trammellaw01_same.f k bt647.1 t653).bind fun t656 => (trammellaw01_NatThere.j0 k l0 a1 (!t656)))) else (trammellaw01_NatThere.j0 k l0 a1 true)) else (trammellaw01_NatThere.j0 k l0 a1 true)) else (trammellaw01_NatThere.j0 k l0 a1 false))))) = some r := by rw [if_pos rfl] at H; exact H
    clear H
    have H := H1
    clear H1
    replace H := Option.bind_eq_some_iff.mp H
    obtain ⟨t646, A50, H⟩ := H
    replace H : ((nat_Read.f t646).bind fun bt647 => ((nat_Text.f k l0).bind fun t652 => (if (t652.size : Int) ≤ 65536 then (if bt647.2.2 = 0 then (if bt647.2.1 = 0 then ((nat_Norm.f k l0).bind fun t653 => ((trammellaw01_same.f k bt647.1 t653).bind fun t656 => (trammellaw01_NatThere.j0 k l0 a1 (!t656)))) else (trammellaw01_NatThere.j0 k l0 a1 true)) else (trammellaw01_NatThere.j0 k l0 a1 true)) else (trammellaw01_NatThere.j0 k l0 a1 false)))) = some r := H
    have A5 := Aside0.mk A50
    clear A50
    replace H := Option.bind_eq_some_iff.mp H
    obtain ⟨⟨t647, t648, t649⟩, A60, H⟩ := H
    replace H : ((nat_Text.f k l0).bind fun t652 => (if (t652.size : Int) ≤ 65536 then (if t649 = 0 then (if t648 = 0 then ((nat_Norm.f k l0).bind fun t653 => ((trammellaw01_same.f k t647 t653).bind fun t656 => (trammellaw01_NatThere.j0 k l0 a1 (!t656)))) else (trammellaw01_NatThere.j0 k l0 a1 true)) else (trammellaw01_NatThere.j0 k l0 a1 true)) else (trammellaw01_NatThere.j0 k l0 a1 false))) = some r := H
    have A6 := Aside0.mk A60
    clear A60
    have HC7 := Aside0.mk H
    clear H
    go_enter Try.func12, Try.ntmps12
    go_upto_region 4 with (first | ((with_reducible refine gate_callee (f := 18) rfl ?_); refine goesL_ (some 12) rfl rfl Try.func18 (by kernel_rfl) rfl #[] rfl (by (try simp only [List.map_toArray, List.map_cons, List.map_nil]); done) ?_; (with_reducible refine (trammellaw01_awake.calls k  true _ A3.out).mono ?_); rintro e w8 ⟨rfl, hb⟩; refine ⟨_, rfl, ?_⟩; have n0_ := Aside0.mk (below_step (by repeat ((with_reducible exact HB.out))) hb); clear HB; have HB := n0_; clear n0_; (try clear hb)) | ((with_reducible refine gate_callee (f := 34) rfl ?_); refine goesL_ (some 16) rfl rfl Try.func34 (by kernel_rfl) rfl #[.slice A0 l0.length c0] rfl (by (try simp only [List.map_toArray, List.map_cons, List.map_nil]); rfl) ?_; (with_reducible refine (nat_Text.calls k _ _ l0 t646 _ ?side1 ?side2 A5.out).mono ?_); (case side1 => repeat (exact (Kd.C_below HR0.out HB.out))); (case side2 => exact HC0.out); rintro e w9 ⟨rfl, hb⟩; refine ⟨_, rfl, ?_⟩; have n0_ := Aside0.mk (below_step (by repeat ((with_reducible exact HB.out))) hb); clear HB; have HB := n0_; clear n0_; (try clear hb)) | ((with_reducible refine gate_callee (f := 32) rfl ?_); refine goesL_ (some 17) rfl rfl Try.func32 (by kernel_rfl) rfl #[.string t646] rfl (by (try simp only [List.map_toArray, List.map_cons, List.map_nil]); rfl) ?_; (with_reducible refine (nat_Read.calls t646 t647 t648 t649 _ A6.out).mono ?_); rintro e w10 ⟨v650, rfl, ho0, hb⟩; refine ⟨_, rfl, ?_⟩; have n0_ := Aside0.mk (Kd.R_lower ho0 (below_size (by repeat ((with_reducible exact HB.out))))); have n1_ := Aside0.mk (below_step (by repeat ((with_reducible exact HB.out))) hb); clear HB; have HO651 := n0_; have HB := n1_; clear n0_ n1_; (try clear hb); (try clear ho0)))
    go_cut [39] (fun v39 wc => ∃ (kq : Nat) (x39_6 : Bool), v39 = .bool x39_6 ∧ Aside0 (trammellaw01_NatThere.j0 kq l0 a1 x39_6 = some r) ∧ Aside0 (kq ≤ k) ∧ Aside0 (Below w.heap.size w wc))
    case first =>
      have H := HC7.out
      clear HC7
      replace H := Option.bind_eq_some_iff.mp H
      obtain ⟨t652, A110, H⟩ := H
      replace H : (if (t652.size : Int) ≤ 65536 then (if t649 = 0 then (if t648 = 0 then ((nat_Norm.f k l0).bind fun t653 => ((trammellaw01_same.f k t647 t653).bind fun t656 => (trammellaw01_NatThere.j0 k l0 a1 (!t656)))) else (trammellaw01_NatThere.j0 k l0 a1 true)) else (trammellaw01_NatThere.j0 k l0 a1 true)) else (trammellaw01_NatThere.j0 k l0 a1 false)) = some r := H
      have A11 := Aside0.mk A110
      clear A110
      by_cases c12 : (t652.size : Int) ≤ 65536
      · rw [if_pos c12] at H
        have c12b0 : decide ((t652.size : Int) ≤ 65536) = true := decide_eq_true c12
        have c12b1 : decide (t652.size ≤ 65536) = true := decide_eq_true (by omega)
        clear c12
        by_cases c13 : t649 = 0
        · rw [if_pos c13] at H
          have c13b0 : (t649 == 0) = true := beq_iff_eq.mpr c13
          have c13b1 : (t649 != 0) = false := bne_eq_false_iff_eq.mpr c13
          clear c13
          by_cases c14 : t648 = 0
          · rw [if_pos c14] at H
            have c14b0 : (t648 == 0) = true := beq_iff_eq.mpr c14
            have c14b1 : (t648 != 0) = false := bne_eq_false_iff_eq.mpr c14
            clear c14
            replace H := Option.bind_eq_some_iff.mp H
            obtain ⟨t653, A150, H⟩ := H
            replace H : ((trammellaw01_same.f k t647 t653).bind fun t656 => (trammellaw01_NatThere.j0 k l0 a1 (!t656))) = some r := H
            have A15 := Aside0.mk A150
            clear A150
            replace H := Option.bind_eq_some_iff.mp H
            obtain ⟨t656, A160, H⟩ := H
            replace H : (trammellaw01_NatThere.j0 k l0 a1 (!t656)) = some r := H
            have A16 := Aside0.mk A160
            clear A160
            have H' := Aside0.mk H
            clear H
            go_wp2_with (first | ((with_reducible refine gate_callee (f := 34) rfl ?_); refine goesL_ (some 22) rfl rfl Try.func34 (by kernel_rfl) rfl #[.slice A0 l0.length c0] rfl (by (try simp only [List.map_toArray, List.map_cons, List.map_nil]); rfl) ?_; (with_reducible refine (nat_Text.calls k _ _ l0 t652 _ ?side1 ?side2 A11.out).mono ?_); (case side1 => repeat (exact (Kd.C_below HR0.out HB.out))); (case side2 => exact HC0.out); rintro e w17 ⟨rfl, hb⟩; refine ⟨_, rfl, ?_⟩; have n0_ := Aside0.mk (Kd.R_below (by exact HO651.out) hb); have n1_ := Aside0.mk (below_step (by repeat ((with_reducible exact HB.out))) hb); clear HO651; clear HB; have HO651 := n0_; have HB := n1_; clear n0_ n1_; (try clear hb)) | (go_at_call 20; (with_reducible refine (nat_Norm.calls k _ _ l0 t653 _ ?side1 ?side2 A15.out).mono ?_); (case side1 => repeat (exact (Kd.C_below HR0.out HB.out))); (case side2 => exact HC0.out); rintro e w18 ⟨v654, rfl, ho0, hb⟩; have n0_ := Aside0.mk (Kd.R_elder' (by exact HO651.out) (Kd.R_base ho0) hb); have n1_ := Aside0.mk (Kd.R_lower (Kd.R_new' ho0 (Kd.R_lt (by exact HO651.out))) (below_size (by repeat ((with_reducible exact HB.out))))); have n2_ := Aside0.mk (below_step (by repeat ((with_reducible exact HB.out))) hb); clear HO651; clear HB; have HO651 := n0_; have HO655 := n1_; have HB := n2_; clear n0_ n1_ n2_; (try clear hb); (try clear ho0); obtain ⟨Ao19, co19, eo19⟩ := Kd.R_slice HO651.out; subst eo19; obtain ⟨Ao20, co20, eo20⟩ := Kd.R_slice HO655.out; subst eo20) | (go_at_call 17; (with_reducible refine (trammellaw01_same.calls k _ _ t647 _ _ t653 t656 _ ?side1 ?side2 ?side3 ?side4 A16.out).mono ?_); (case side1 => repeat (exact (Kd.R_reads' HO651.out).2.2)); (case side2 => exact (Kd.R_reads' HO651.out).2.1); (case side3 => repeat (exact (Kd.R_reads' HO655.out).2.2)); (case side4 => exact (Kd.R_reads' HO655.out).2.1); rintro e w' ⟨rfl, ⟨nd, rfl⟩⟩))
            go_meet
            case rel => exact ⟨_, (!t656), (by rfl), (by with_reducible exact H'), ⟨by omega⟩, ⟨by repeat ((with_reducible first | exact HB.out | apply pw_below_drewN))⟩⟩
          · rw [if_neg c14] at H
            have c14b0 : (t648 == 0) = false := beq_eq_false_iff_ne.mpr c14
            have c14b1 : (t648 != 0) = true := bne_iff_ne.mpr c14
            have H' := Aside0.mk H
            clear H
            go_wp2_with (((with_reducible refine gate_callee (f := 34) rfl ?_); refine goesL_ (some 22) rfl rfl Try.func34 (by kernel_rfl) rfl #[.slice A0 l0.length c0] rfl (by (try simp only [List.map_toArray, List.map_cons, List.map_nil]); rfl) ?_; (with_reducible refine (nat_Text.calls k _ _ l0 t652 _ ?side1 ?side2 A11.out).mono ?_); (case side1 => repeat (exact (Kd.C_below HR0.out HB.out))); (case side2 => exact HC0.out); rintro e w21 ⟨rfl, hb⟩; refine ⟨_, rfl, ?_⟩; have n0_ := Aside0.mk (Kd.R_below (by exact HO651.out) hb); have n1_ := Aside0.mk (below_step (by repeat ((with_reducible exact HB.out))) hb); clear HO651; clear HB; have HO651 := n0_; have HB := n1_; clear n0_ n1_; (try clear hb)))
            go_meet
            case rel => exact ⟨_, (true), (by rfl), (by with_reducible exact H'), ⟨by omega⟩, ⟨by repeat ((with_reducible exact HB.out))⟩⟩
        · rw [if_neg c13] at H
          have c13b0 : (t649 == 0) = false := beq_eq_false_iff_ne.mpr c13
          have c13b1 : (t649 != 0) = true := bne_iff_ne.mpr c13
          have H' := Aside0.mk H
          clear H
          go_wp2_with (((with_reducible refine gate_callee (f := 34) rfl ?_); refine goesL_ (some 22) rfl rfl Try.func34 (by kernel_rfl) rfl #[.slice A0 l0.length c0] rfl (by (try simp only [List.map_toArray, List.map_cons, List.map_nil]); rfl) ?_; (with_reducible refine (nat_Text.calls k _ _ l0 t652 _ ?side1 ?side2 A11.out).mono ?_); (case side1 => repeat (exact (Kd.C_below HR0.out HB.out))); (case side2 => exact HC0.out); rintro e w22 ⟨rfl, hb⟩; refine ⟨_, rfl, ?_⟩; have n0_ := Aside0.mk (Kd.R_below (by exact HO651.out) hb); have n1_ := Aside0.mk (below_step (by repeat ((with_reducible exact HB.out))) hb); clear HO651; clear HB; have HO651 := n0_; have HB := n1_; clear n0_ n1_; (try clear hb)))
          go_meet
          case rel => exact ⟨_, (true), (by rfl), (by with_reducible exact H'), ⟨by omega⟩, ⟨by repeat ((with_reducible exact HB.out))⟩⟩
      · rw [if_neg c12] at H
        have c12b0 : decide ((t652.size : Int) ≤ 65536) = false := decide_eq_false c12
        have c12b1 : decide (t652.size ≤ 65536) = false := decide_eq_false (by omega)
        clear c12
        have H' := Aside0.mk H
        clear H
        go_wp2_with (((with_reducible refine gate_callee (f := 34) rfl ?_); refine goesL_ (some 22) rfl rfl Try.func34 (by kernel_rfl) rfl #[.slice A0 l0.length c0] rfl (by (try simp only [List.map_toArray, List.map_cons, List.map_nil]); rfl) ?_; (with_reducible refine (nat_Text.calls k _ _ l0 t652 _ ?side1 ?side2 A11.out).mono ?_); (case side1 => repeat (exact (Kd.C_below HR0.out HB.out))); (case side2 => exact HC0.out); rintro e w23 ⟨rfl, hb⟩; refine ⟨_, rfl, ?_⟩; have n0_ := Aside0.mk (Kd.R_below (by exact HO651.out) hb); have n1_ := Aside0.mk (below_step (by repeat ((with_reducible exact HB.out))) hb); clear HO651; clear HB; have HO651 := n0_; have HB := n1_; clear n0_ n1_; (try clear hb)))
        go_meet
        case rel => exact ⟨_, (false), (by rfl), (by with_reducible exact H'), ⟨by omega⟩, ⟨by repeat ((with_reducible exact HB.out))⟩⟩
    case rest =>
      clear HC7
      skip
      skip
      skip
      skip
      skip
      skip
      skip
      skip
      skip
      skip
      skip
      skip
      skip
      skip
      obtain ⟨kq, x39_6, rfl, HA, HJ6, HB⟩ := hcut
      cases kq with
      | zero => exact absurd HA.out (by simp [trammellaw01_NatThere.j0])
      | succ kj6 =>
        have H := HA.out
        clear HA
        simp only [trammellaw01_NatThere.j0] at H
        by_cases c24 : x39_6 = true
        · subst c24
          have H1 : (some false) = some r := by rw [if_pos rfl] at H; exact H
          clear H
          have H := H1
          clear H1
          obtain rfl := Option.some.inj H
          go_wp2
          go_ret
          exact ⟨by rfl, by repeat ((with_reducible exact HB.out))⟩
        · replace c24 := Bool.eq_false_iff.mpr c24
          subst c24
          have H1 : ((nat_Shl.f kj6 l0 (wrap64 (a1))).bind fun bt657 => ((nat_Bits.f kj6 l0).bind fun t661 => (if t661 > 1048320 then (some true) else ((nat_Shr.f kj6 bt657.1 (wrap64 (a1))).bind fun bt662 => (if bt657.2 = 0 then (if bt662.2 = 0 then ((nat_Norm.f kj6 l0).bind fun t666 => ((trammellaw01_same.f kj6 bt662.1 t666).bind fun t669 => (if t669 = true then ((nat_Bits.f kj6 l0).bind fun t670 => (if t670 = 0 then (some true) else ((nat_Bits.f kj6 bt657.1).bind fun t671 => ((nat_Bits.f kj6 l0).bind fun t672 => (some (t671 == (wrap64 (t672 + (wrap64 (a1)))))))))) else (some false)))) else (some false)) else (some false)))))) = some r := by rw [if_neg (show ¬ (false = true) by decide)] at H; exact H
          clear H
          have H := H1
          clear H1
          replace H := Option.bind_eq_some_iff.mp H
          obtain ⟨⟨t657, t658⟩, A250, H⟩ := H
          replace H : ((nat_Bits.f kj6 l0).bind fun t661 => (if t661 > 1048320 then (some true) else ((nat_Shr.f kj6 t657 (wrap64 (a1))).bind fun bt662 => (if t658 = 0 then (if bt662.2 = 0 then ((nat_Norm.f kj6 l0).bind fun t666 => ((trammellaw01_same.f kj6 bt662.1 t666).bind fun t669 => (if t669 = true then ((nat_Bits.f kj6 l0).bind fun t670 => (if t670 = 0 then (some true) else ((nat_Bits.f kj6 t657).bind fun t671 => ((nat_Bits.f kj6 l0).bind fun t672 => (some (t671 == (wrap64 (t672 + (wrap64 (a1)))))))))) else (some false)))) else (some false)) else (some false))))) = some r := H
          have A25 := Aside0.mk A250
          clear A250
          replace H := Option.bind_eq_some_iff.mp H
          obtain ⟨t661, A260, H⟩ := H
          replace H : (if t661 > 1048320 then (some true) else ((nat_Shr.f kj6 t657 (wrap64 (a1))).bind fun bt662 => (if t658 = 0 then (if bt662.2 = 0 then ((nat_Norm.f kj6 l0).bind fun t666 => ((trammellaw01_same.f kj6 bt662.1 t666).bind fun t669 => (if t669 = true then ((nat_Bits.f kj6 l0).bind fun t670 => (if t670 = 0 then (some true) else ((nat_Bits.f kj6 t657).bind fun t671 => ((nat_Bits.f kj6 l0).bind fun t672 => (some (t671 == (wrap64 (t672 + (wrap64 (a1)))))))))) else (some false)))) else (some false)) else (some false)))) = some r := H
          have A26 := Aside0.mk A260
          clear A260
          by_cases c27 : t661 > 1048320
          · rw [if_pos c27] at H
            have c27b0 : decide (1048320 < t661) = true := decide_eq_true c27
            clear c27
            obtain rfl := Option.some.inj H
            go_wp2_with (first | ((with_reducible refine gate_callee (f := 28) rfl ?_); refine goesL_ (some 44) rfl rfl Try.func28 (by kernel_rfl) rfl #[.slice A0 l0.length c0, .int .i64 (wrap64 (a1))] rfl (by (try simp only [List.map_toArray, List.map_cons, List.map_nil]); rfl) ?_; (with_reducible refine (nat_Shl.calls kj6 _ _ l0 (wrap64 (a1)) t657 t658 _ ?side1 ?side2 A25.out).mono ?_); (case side1 => repeat (exact (Kd.C_below HR0.out HB.out))); (case side2 => exact HC0.out); rintro e w28 ⟨v659, rfl, ho0, hb⟩; refine ⟨_, rfl, ?_⟩; have n0_ := Aside0.mk (Kd.R_lower ho0 (below_size (by repeat ((with_reducible exact HB.out))))); have n1_ := Aside0.mk (below_step (by repeat ((with_reducible exact HB.out))) hb); clear HB; have HO660 := n0_; have HB := n1_; clear n0_ n1_; (try clear hb); (try clear ho0)) | ((with_reducible refine gate_callee (f := 24) rfl ?_); refine goesL_ (some 48) rfl rfl Try.func24 (by kernel_rfl) rfl #[.slice A0 l0.length c0] rfl (by (try simp only [List.map_toArray, List.map_cons, List.map_nil]); rfl) ?_; (with_reducible refine (nat_Bits.calls kj6 _ _ l0 t661 _ ?side1 ?side2 A26.out).mono ?_); (case side1 => repeat (exact (Kd.C_below HR0.out HB.out))); (case side2 => exact HC0.out); rintro e w29 ⟨rfl, hb⟩; refine ⟨_, rfl, ?_⟩; have n0_ := Aside0.mk (Kd.R_below (by exact HO660.out) hb); have n1_ := Aside0.mk (below_step (by repeat ((with_reducible exact HB.out))) hb); clear HO660; clear HB; have HO660 := n0_; have HB := n1_; clear n0_ n1_; (try clear hb)))
            go_ret
            exact ⟨by rfl, by repeat ((with_reducible exact HB.out))⟩
          · rw [if_neg c27] at H
            have c27b0 : decide (1048320 < t661) = false := decide_eq_false c27
            clear c27
            replace H := Option.bind_eq_some_iff.mp H
            obtain ⟨⟨t662, t663⟩, A300, H⟩ := H
            replace H : (if t658 = 0 then (if t663 = 0 then ((nat_Norm.f kj6 l0).bind fun t666 => ((trammellaw01_same.f kj6 t662 t666).bind fun t669 => (if t669 = true then ((nat_Bits.f kj6 l0).bind fun t670 => (if t670 = 0 then (some true) else ((nat_Bits.f kj6 t657).bind fun t671 => ((nat_Bits.f kj6 l0).bind fun t672 => (some (t671 == (wrap64 (t672 + (wrap64 (a1)))))))))) else (some false)))) else (some false)) else (some false)) = some r := H
            have A30 := Aside0.mk A300
            clear A300
            by_cases c31 : t658 = 0
            · rw [if_pos c31] at H
              have c31b0 : (t658 == 0) = true := beq_iff_eq.mpr c31
              have c31b1 : (t658 != 0) = false := bne_eq_false_iff_eq.mpr c31
              clear c31
              by_cases c32 : t663 = 0
              · rw [if_pos c32] at H
                have c32b0 : (t663 == 0) = true := beq_iff_eq.mpr c32
                have c32b1 : (t663 != 0) = false := bne_eq_false_iff_eq.mpr c32
                clear c32
                replace H := Option.bind_eq_some_iff.mp H
                obtain ⟨t666, A330, H⟩ := H
                replace H : ((trammellaw01_same.f kj6 t662 t666).bind fun t669 => (if t669 = true then ((nat_Bits.f kj6 l0).bind fun t670 => (if t670 = 0 then (some true) else ((nat_Bits.f kj6 t657).bind fun t671 => ((nat_Bits.f kj6 l0).bind fun t672 => (some (t671 == (wrap64 (t672 + (wrap64 (a1)))))))))) else (some false))) = some r := H
                have A33 := Aside0.mk A330
                clear A330
                replace H := Option.bind_eq_some_iff.mp H
                obtain ⟨t669, A340, H⟩ := H
                replace H : (if t669 = true then ((nat_Bits.f kj6 l0).bind fun t670 => (if t670 = 0 then (some true) else ((nat_Bits.f kj6 t657).bind fun t671 => ((nat_Bits.f kj6 l0).bind fun t672 => (some (t671 == (wrap64 (t672 + (wrap64 (a1)))))))))) else (some false)) = some r := H
                have A34 := Aside0.mk A340
                clear A340
                by_cases c35 : t669 = true
                · subst c35
                  have H1 : ((nat_Bits.f kj6 l0).bind fun t670 => (if t670 = 0 then (some true) else ((nat_Bits.f kj6 t657).bind fun t671 => ((nat_Bits.f kj6 l0).bind fun t672 => (some (t671 == (wrap64 (t672 + (wrap64 (a1)))))))))) = some r := by rw [if_pos rfl] at H; exact H
                  clear H
                  have H := H1
                  clear H1
                  replace H := Option.bind_eq_some_iff.mp H
                  obtain ⟨t670, A360, H⟩ := H
                  replace H : (if t670 = 0 then (some true) else ((nat_Bits.f kj6 t657).bind fun t671 => ((nat_Bits.f kj6 l0).bind fun t672 => (some (t671 == (wrap64 (t672 + (wrap64 (a1))))))))) = some r := H
                  have A36 := Aside0.mk A360
                  clear A360
                  by_cases c37 : t670 = 0
                  · rw [if_pos c37] at H
                    have c37b0 : (t670 == 0) = true := beq_iff_eq.mpr c37
                    have c37b1 : (t670 != 0) = false := bne_eq_false_iff_eq.mpr c37
                    clear c37
                    obtain rfl := Option.some.inj H
                    go_wp2_with (first | ((with_reducible refine gate_callee (f := 28) rfl ?_); refine goesL_ (some 44) rfl rfl Try.func28 (by kernel_rfl) rfl #[.slice A0 l0.length c0, .int .i64 (wrap64 (a1))] rfl (by (try simp only [List.map_toArray, List.map_cons, List.map_nil]); rfl) ?_; (with_reducible refine (nat_Shl.calls kj6 _ _ l0 (wrap64 (a1)) t657 t658 _ ?side1 ?side2 A25.out).mono ?_); (case side1 => repeat (exact (Kd.C_below HR0.out HB.out))); (case side2 => exact HC0.out); rintro e w38 ⟨v659, rfl, ho0, hb⟩; refine ⟨_, rfl, ?_⟩; have n0_ := Aside0.mk (Kd.R_lower ho0 (below_size (by repeat ((with_reducible exact HB.out))))); have n1_ := Aside0.mk (below_step (by repeat ((with_reducible exact HB.out))) hb); clear HB; have HO660 := n0_; have HB := n1_; clear n0_ n1_; (try clear hb); (try clear ho0)) | ((with_reducible refine gate_callee (f := 24) rfl ?_); refine goesL_ (some 48) rfl rfl Try.func24 (by kernel_rfl) rfl #[.slice A0 l0.length c0] rfl (by (try simp only [List.map_toArray, List.map_cons, List.map_nil]); rfl) ?_; (with_reducible refine (nat_Bits.calls kj6 _ _ l0 t661 _ ?side1 ?side2 A26.out).mono ?_); (case side1 => repeat (exact (Kd.C_below HR0.out HB.out))); (case side2 => exact HC0.out); rintro e w39 ⟨rfl, hb⟩; refine ⟨_, rfl, ?_⟩; have n0_ := Aside0.mk (Kd.R_below (by exact HO660.out) hb); have n1_ := Aside0.mk (below_step (by repeat ((with_reducible exact HB.out))) hb); clear HO660; clear HB; have HO660 := n0_; have HB := n1_; clear n0_ n1_; (try clear hb); obtain ⟨Ao40, co40, eo40⟩ := Kd.R_slice HO660.out; subst eo40) | ((with_reducible refine gate_callee (f := 29) rfl ?_); refine goesL_ (some 54) rfl rfl Try.func29 (by kernel_rfl) rfl #[.slice Ao40 t657.length co40, .int .i64 (wrap64 (a1))] rfl (by (try simp only [List.map_toArray, List.map_cons, List.map_nil]); rfl) ?_; (with_reducible refine (nat_Shr.calls kj6 _ _ t657 (wrap64 (a1)) t662 t663 _ ?side1 ?side2 A30.out).mono ?_); (case side1 => repeat (exact (Kd.R_reads' HO660.out).2.2)); (case side2 => exact (Kd.R_reads' HO660.out).2.1); rintro e w41 ⟨v664, rfl, ho0, hb⟩; refine ⟨_, rfl, ?_⟩; have n0_ := Aside0.mk (Kd.R_elder' (by exact HO660.out) (Kd.R_base ho0) hb); have n1_ := Aside0.mk (Kd.R_lower (Kd.R_new' ho0 (Kd.R_lt (by exact HO660.out))) (below_size (by repeat ((with_reducible exact HB.out))))); have n2_ := Aside0.mk (below_step (by repeat ((with_reducible exact HB.out))) hb); clear HO660; clear HB; have HO660 := n0_; have HO665 := n1_; have HB := n2_; clear n0_ n1_ n2_; (try clear hb); (try clear ho0)) | (go_at_call 20; (with_reducible refine (nat_Norm.calls kj6 _ _ l0 t666 _ ?side1 ?side2 A33.out).mono ?_); (case side1 => repeat (exact (Kd.C_below HR0.out HB.out))); (case side2 => exact HC0.out); rintro e w42 ⟨v667, rfl, ho0, hb⟩; have n0_ := Aside0.mk (Kd.R_elder' (by exact HO660.out) (Kd.R_base ho0) hb); have n1_ := Aside0.mk (Kd.R_elder' (by exact HO665.out) (Kd.R_base ho0) hb); have n2_ := Aside0.mk (Kd.R_lower (Kd.R_new' (Kd.R_new' ho0 (Kd.R_lt (by exact HO660.out))) (Kd.R_lt (by exact HO665.out))) (below_size (by repeat ((with_reducible exact HB.out))))); have n3_ := Aside0.mk (below_step (by repeat ((with_reducible exact HB.out))) hb); clear HO660; clear HO665; clear HB; have HO660 := n0_; have HO665 := n1_; have HO668 := n2_; have HB := n3_; clear n0_ n1_ n2_ n3_; (try clear hb); (try clear ho0); obtain ⟨Ao43, co43, eo43⟩ := Kd.R_slice HO665.out; subst eo43; obtain ⟨Ao44, co44, eo44⟩ := Kd.R_slice HO668.out; subst eo44) | (go_at_call 17; (with_reducible refine (trammellaw01_same.calls kj6 _ _ t662 _ _ t666 true _ ?side1 ?side2 ?side3 ?side4 A34.out).mono ?_); (case side1 => repeat (exact (Kd.R_reads' HO665.out).2.2)); (case side2 => exact (Kd.R_reads' HO665.out).2.1); (case side3 => repeat (exact (Kd.R_reads' HO668.out).2.2)); (case side4 => exact (Kd.R_reads' HO668.out).2.1); rintro e w' ⟨rfl, ⟨nd, rfl⟩⟩) | (go_at_call 24; (with_reducible refine (nat_Bits.calls kj6 _ _ l0 t670 _ ?side1 ?side2 A36.out).mono ?_); (case side1 => repeat (exact (Kd.C_below HR0.out (by repeat ((with_reducible first | exact HB.out | apply pw_below_drewN)))))); (case side2 => exact HC0.out); rintro e w45 ⟨rfl, hb⟩; have n0_ := Aside0.mk (Kd.R_below (by (with_reducible repeat (apply Kd.R_drewN)); exact HO660.out) hb); have n1_ := Aside0.mk (Kd.R_below (by (with_reducible repeat (apply Kd.R_drewN)); exact HO665.out) hb); have n2_ := Aside0.mk (Kd.R_below (by (with_reducible repeat (apply Kd.R_drewN)); exact HO668.out) hb); have n3_ := Aside0.mk (below_step (by repeat ((with_reducible first | exact HB.out | apply pw_below_drewN))) hb); clear HO660; clear HO665; clear HO668; clear HB; have HO660 := n0_; have HO665 := n1_; have HO668 := n2_; have HB := n3_; clear n0_ n1_ n2_ n3_; (try clear hb)))
                    go_ret
                    (try have et670_ := Option.some.inj (A36.out.symm.trans A26.out))
                    exact ⟨by rfl, by repeat ((with_reducible exact HB.out))⟩
                  · rw [if_neg c37] at H
                    have c37b0 : (t670 == 0) = false := beq_eq_false_iff_ne.mpr c37
                    have c37b1 : (t670 != 0) = true := bne_iff_ne.mpr c37
                    replace H := Option.bind_eq_some_iff.mp H
                    obtain ⟨t671, A460, H⟩ := H
                    replace H : ((nat_Bits.f kj6 l0).bind fun t672 => (some (t671 == (wrap64 (t672 + (wrap64 (a1))))))) = some r := H
                    have A46 := Aside0.mk A460
                    clear A460
                    replace H := Option.bind_eq_some_iff.mp H
                    obtain ⟨t672, A470, H⟩ := H
                    replace H : (some (t671 == (wrap64 (t672 + (wrap64 (a1)))))) = some r := H
                    have A47 := Aside0.mk A470
                    clear A470
                    obtain rfl := Option.some.inj H
                    go_wp2_with (first | ((with_reducible refine gate_callee (f := 28) rfl ?_); refine goesL_ (some 44) rfl rfl Try.func28 (by kernel_rfl) rfl #[.slice A0 l0.length c0, .int .i64 (wrap64 (a1))] rfl (by (try simp only [List.map_toArray, List.map_cons, List.map_nil]); rfl) ?_; (with_reducible refine (nat_Shl.calls kj6 _ _ l0 (wrap64 (a1)) t657 t658 _ ?side1 ?side2 A25.out).mono ?_); (case side1 => repeat (exact (Kd.C_below HR0.out HB.out))); (case side2 => exact HC0.out); rintro e w48 ⟨v659, rfl, ho0, hb⟩; refine ⟨_, rfl, ?_⟩; have n0_ := Aside0.mk (Kd.R_lower ho0 (below_size (by repeat ((with_reducible exact HB.out))))); have n1_ := Aside0.mk (below_step (by repeat ((with_reducible exact HB.out))) hb); clear HB; have HO660 := n0_; have HB := n1_; clear n0_ n1_; (try clear hb); (try clear ho0)) | ((with_reducible refine gate_callee (f := 24) rfl ?_); refine goesL_ (some 48) rfl rfl Try.func24 (by kernel_rfl) rfl #[.slice A0 l0.length c0] rfl (by (try simp only [List.map_toArray, List.map_cons, List.map_nil]); rfl) ?_; (with_reducible refine (nat_Bits.calls kj6 _ _ l0 t661 _ ?side1 ?side2 A26.out).mono ?_); (case side1 => repeat (exact (Kd.C_below HR0.out HB.out))); (case side2 => exact HC0.out); rintro e w49 ⟨rfl, hb⟩; refine ⟨_, rfl, ?_⟩; have n0_ := Aside0.mk (Kd.R_below (by exact HO660.out) hb); have n1_ := Aside0.mk (below_step (by repeat ((with_reducible exact HB.out))) hb); clear HO660; clear HB; have HO660 := n0_; have HB := n1_; clear n0_ n1_; (try clear hb); obtain ⟨Ao50, co50, eo50⟩ := Kd.R_slice HO660.out; subst eo50) | ((with_reducible refine gate_callee (f := 29) rfl ?_); refine goesL_ (some 54) rfl rfl Try.func29 (by kernel_rfl) rfl #[.slice Ao50 t657.length co50, .int .i64 (wrap64 (a1))] rfl (by (try simp only [List.map_toArray, List.map_cons, List.map_nil]); rfl) ?_; (with_reducible refine (nat_Shr.calls kj6 _ _ t657 (wrap64 (a1)) t662 t663 _ ?side1 ?side2 A30.out).mono ?_); (case side1 => repeat (exact (Kd.R_reads' HO660.out).2.2)); (case side2 => exact (Kd.R_reads' HO660.out).2.1); rintro e w51 ⟨v664, rfl, ho0, hb⟩; refine ⟨_, rfl, ?_⟩; have n0_ := Aside0.mk (Kd.R_elder' (by exact HO660.out) (Kd.R_base ho0) hb); have n1_ := Aside0.mk (Kd.R_lower (Kd.R_new' ho0 (Kd.R_lt (by exact HO660.out))) (below_size (by repeat ((with_reducible exact HB.out))))); have n2_ := Aside0.mk (below_step (by repeat ((with_reducible exact HB.out))) hb); clear HO660; clear HB; have HO660 := n0_; have HO665 := n1_; have HB := n2_; clear n0_ n1_ n2_; (try clear hb); (try clear ho0)) | (go_at_call 20; (with_reducible refine (nat_Norm.calls kj6 _ _ l0 t666 _ ?side1 ?side2 A33.out).mono ?_); (case side1 => repeat (exact (Kd.C_below HR0.out HB.out))); (case side2 => exact HC0.out); rintro e w52 ⟨v667, rfl, ho0, hb⟩; have n0_ := Aside0.mk (Kd.R_elder' (by exact HO660.out) (Kd.R_base ho0) hb); have n1_ := Aside0.mk (Kd.R_elder' (by exact HO665.out) (Kd.R_base ho0) hb); have n2_ := Aside0.mk (Kd.R_lower (Kd.R_new' (Kd.R_new' ho0 (Kd.R_lt (by exact HO660.out))) (Kd.R_lt (by exact HO665.out))) (below_size (by repeat ((with_reducible exact HB.out))))); have n3_ := Aside0.mk (below_step (by repeat ((with_reducible exact HB.out))) hb); clear HO660; clear HO665; clear HB; have HO660 := n0_; have HO665 := n1_; have HO668 := n2_; have HB := n3_; clear n0_ n1_ n2_ n3_; (try clear hb); (try clear ho0); obtain ⟨Ao53, co53, eo53⟩ := Kd.R_slice HO665.out; subst eo53; obtain ⟨Ao54, co54, eo54⟩ := Kd.R_slice HO668.out; subst eo54) | (go_at_call 17; (with_reducible refine (trammellaw01_same.calls kj6 _ _ t662 _ _ t666 true _ ?side1 ?side2 ?side3 ?side4 A34.out).mono ?_); (case side1 => repeat (exact (Kd.R_reads' HO665.out).2.2)); (case side2 => exact (Kd.R_reads' HO665.out).2.1); (case side3 => repeat (exact (Kd.R_reads' HO668.out).2.2)); (case side4 => exact (Kd.R_reads' HO668.out).2.1); rintro e w' ⟨rfl, ⟨nd, rfl⟩⟩) | (go_at_call 24; (with_reducible refine (nat_Bits.calls kj6 _ _ l0 t670 _ ?side1 ?side2 A36.out).mono ?_); (case side1 => repeat (exact (Kd.C_below HR0.out (by repeat ((with_reducible first | exact HB.out | apply pw_below_drewN)))))); (case side2 => exact HC0.out); rintro e w55 ⟨rfl, hb⟩; have n0_ := Aside0.mk (Kd.R_below (by (with_reducible repeat (apply Kd.R_drewN)); exact HO660.out) hb); have n1_ := Aside0.mk (Kd.R_below (by (with_reducible repeat (apply Kd.R_drewN)); exact HO665.out) hb); have n2_ := Aside0.mk (Kd.R_below (by (with_reducible repeat (apply Kd.R_drewN)); exact HO668.out) hb); have n3_ := Aside0.mk (below_step (by repeat ((with_reducible first | exact HB.out | apply pw_below_drewN))) hb); clear HO660; clear HO665; clear HO668; clear HB; have HO660 := n0_; have HO665 := n1_; have HO668 := n2_; have HB := n3_; clear n0_ n1_ n2_ n3_; (try clear hb)) | (go_at_call 24; (with_reducible refine (nat_Bits.calls kj6 _ _ t657 t671 _ ?side1 ?side2 A46.out).mono ?_); (case side1 => repeat (exact (Kd.R_reads' HO660.out).2.2)); (case side2 => exact (Kd.R_reads' HO660.out).2.1); rintro e w56 ⟨rfl, hb⟩; have n0_ := Aside0.mk (Kd.R_below (by exact HO660.out) hb); have n1_ := Aside0.mk (Kd.R_below (by exact HO665.out) hb); have n2_ := Aside0.mk (Kd.R_below (by exact HO668.out) hb); have n3_ := Aside0.mk (below_step (by repeat ((with_reducible exact HB.out))) hb); clear HO660; clear HO665; clear HO668; clear HB; have HO660 := n0_; have HO665 := n1_; have HO668 := n2_; have HB := n3_; clear n0_ n1_ n2_ n3_; (try clear hb)))
                    go_ret
                    (try have et670_ := Option.some.inj (A36.out.symm.trans A26.out))
                    (try have et672_ := Option.some.inj (A47.out.symm.trans A26.out))
                    (try have et672_ := Option.some.inj (A47.out.symm.trans A36.out))
                    exact ⟨by (simp [*, errW_none, errW_some] <;> rfl), by repeat ((with_reducible exact HB.out))⟩
                · replace c35 := Bool.eq_false_iff.mpr c35
                  subst c35
                  have H1 : (some false) = some r := by rw [if_neg (show ¬ (false = true) by decide)] at H; exact H
                  clear H
                  have H := H1
                  clear H1
                  obtain rfl := Option.some.inj H
                  go_wp2_with (first | ((with_reducible refine gate_callee (f := 28) rfl ?_); refine goesL_ (some 44) rfl rfl Try.func28 (by kernel_rfl) rfl #[.slice A0 l0.length c0, .int .i64 (wrap64 (a1))] rfl (by (try simp only [List.map_toArray, List.map_cons, List.map_nil]); rfl) ?_; (with_reducible refine (nat_Shl.calls kj6 _ _ l0 (wrap64 (a1)) t657 t658 _ ?side1 ?side2 A25.out).mono ?_); (case side1 => repeat (exact (Kd.C_below HR0.out HB.out))); (case side2 => exact HC0.out); rintro e w58 ⟨v659, rfl, ho0, hb⟩; refine ⟨_, rfl, ?_⟩; have n0_ := Aside0.mk (Kd.R_lower ho0 (below_size (by repeat ((with_reducible exact HB.out))))); have n1_ := Aside0.mk (below_step (by repeat ((with_reducible exact HB.out))) hb); clear HB; have HO660 := n0_; have HB := n1_; clear n0_ n1_; (try clear hb); (try clear ho0)) | ((with_reducible refine gate_callee (f := 24) rfl ?_); refine goesL_ (some 48) rfl rfl Try.func24 (by kernel_rfl) rfl #[.slice A0 l0.length c0] rfl (by (try simp only [List.map_toArray, List.map_cons, List.map_nil]); rfl) ?_; (with_reducible refine (nat_Bits.calls kj6 _ _ l0 t661 _ ?side1 ?side2 A26.out).mono ?_); (case side1 => repeat (exact (Kd.C_below HR0.out HB.out))); (case side2 => exact HC0.out); rintro e w59 ⟨rfl, hb⟩; refine ⟨_, rfl, ?_⟩; have n0_ := Aside0.mk (Kd.R_below (by exact HO660.out) hb); have n1_ := Aside0.mk (below_step (by repeat ((with_reducible exact HB.out))) hb); clear HO660; clear HB; have HO660 := n0_; have HB := n1_; clear n0_ n1_; (try clear hb); obtain ⟨Ao60, co60, eo60⟩ := Kd.R_slice HO660.out; subst eo60) | ((with_reducible refine gate_callee (f := 29) rfl ?_); refine goesL_ (some 54) rfl rfl Try.func29 (by kernel_rfl) rfl #[.slice Ao60 t657.length co60, .int .i64 (wrap64 (a1))] rfl (by (try simp only [List.map_toArray, List.map_cons, List.map_nil]); rfl) ?_; (with_reducible refine (nat_Shr.calls kj6 _ _ t657 (wrap64 (a1)) t662 t663 _ ?side1 ?side2 A30.out).mono ?_); (case side1 => repeat (exact (Kd.R_reads' HO660.out).2.2)); (case side2 => exact (Kd.R_reads' HO660.out).2.1); rintro e w61 ⟨v664, rfl, ho0, hb⟩; refine ⟨_, rfl, ?_⟩; have n0_ := Aside0.mk (Kd.R_elder' (by exact HO660.out) (Kd.R_base ho0) hb); have n1_ := Aside0.mk (Kd.R_lower (Kd.R_new' ho0 (Kd.R_lt (by exact HO660.out))) (below_size (by repeat ((with_reducible exact HB.out))))); have n2_ := Aside0.mk (below_step (by repeat ((with_reducible exact HB.out))) hb); clear HO660; clear HB; have HO660 := n0_; have HO665 := n1_; have HB := n2_; clear n0_ n1_ n2_; (try clear hb); (try clear ho0)) | (go_at_call 20; (with_reducible refine (nat_Norm.calls kj6 _ _ l0 t666 _ ?side1 ?side2 A33.out).mono ?_); (case side1 => repeat (exact (Kd.C_below HR0.out HB.out))); (case side2 => exact HC0.out); rintro e w62 ⟨v667, rfl, ho0, hb⟩; have n0_ := Aside0.mk (Kd.R_elder' (by exact HO660.out) (Kd.R_base ho0) hb); have n1_ := Aside0.mk (Kd.R_elder' (by exact HO665.out) (Kd.R_base ho0) hb); have n2_ := Aside0.mk (Kd.R_lower (Kd.R_new' (Kd.R_new' ho0 (Kd.R_lt (by exact HO660.out))) (Kd.R_lt (by exact HO665.out))) (below_size (by repeat ((with_reducible exact HB.out))))); have n3_ := Aside0.mk (below_step (by repeat ((with_reducible exact HB.out))) hb); clear HO660; clear HO665; clear HB; have HO660 := n0_; have HO665 := n1_; have HO668 := n2_; have HB := n3_; clear n0_ n1_ n2_ n3_; (try clear hb); (try clear ho0); obtain ⟨Ao63, co63, eo63⟩ := Kd.R_slice HO665.out; subst eo63; obtain ⟨Ao64, co64, eo64⟩ := Kd.R_slice HO668.out; subst eo64) | (go_at_call 17; (with_reducible refine (trammellaw01_same.calls kj6 _ _ t662 _ _ t666 false _ ?side1 ?side2 ?side3 ?side4 A34.out).mono ?_); (case side1 => repeat (exact (Kd.R_reads' HO665.out).2.2)); (case side2 => exact (Kd.R_reads' HO665.out).2.1); (case side3 => repeat (exact (Kd.R_reads' HO668.out).2.2)); (case side4 => exact (Kd.R_reads' HO668.out).2.1); rintro e w' ⟨rfl, ⟨nd, rfl⟩⟩))
                  go_ret
                  exact ⟨by rfl, by repeat ((with_reducible first | exact HB.out | apply pw_below_drewN))⟩
              · rw [if_neg c32] at H
                have c32b0 : (t663 == 0) = false := beq_eq_false_iff_ne.mpr c32
                have c32b1 : (t663 != 0) = true := bne_iff_ne.mpr c32
                obtain rfl := Option.some.inj H
                go_wp2_with (first | ((with_reducible refine gate_callee (f := 28) rfl ?_); refine goesL_ (some 44) rfl rfl Try.func28 (by kernel_rfl) rfl #[.slice A0 l0.length c0, .int .i64 (wrap64 (a1))] rfl (by (try simp only [List.map_toArray, List.map_cons, List.map_nil]); rfl) ?_; (with_reducible refine (nat_Shl.calls kj6 _ _ l0 (wrap64 (a1)) t657 t658 _ ?side1 ?side2 A25.out).mono ?_); (case side1 => repeat (exact (Kd.C_below HR0.out HB.out))); (case side2 => exact HC0.out); rintro e w65 ⟨v659, rfl, ho0, hb⟩; refine ⟨_, rfl, ?_⟩; have n0_ := Aside0.mk (Kd.R_lower ho0 (below_size (by repeat ((with_reducible exact HB.out))))); have n1_ := Aside0.mk (below_step (by repeat ((with_reducible exact HB.out))) hb); clear HB; have HO660 := n0_; have HB := n1_; clear n0_ n1_; (try clear hb); (try clear ho0)) | ((with_reducible refine gate_callee (f := 24) rfl ?_); refine goesL_ (some 48) rfl rfl Try.func24 (by kernel_rfl) rfl #[.slice A0 l0.length c0] rfl (by (try simp only [List.map_toArray, List.map_cons, List.map_nil]); rfl) ?_; (with_reducible refine (nat_Bits.calls kj6 _ _ l0 t661 _ ?side1 ?side2 A26.out).mono ?_); (case side1 => repeat (exact (Kd.C_below HR0.out HB.out))); (case side2 => exact HC0.out); rintro e w66 ⟨rfl, hb⟩; refine ⟨_, rfl, ?_⟩; have n0_ := Aside0.mk (Kd.R_below (by exact HO660.out) hb); have n1_ := Aside0.mk (below_step (by repeat ((with_reducible exact HB.out))) hb); clear HO660; clear HB; have HO660 := n0_; have HB := n1_; clear n0_ n1_; (try clear hb); obtain ⟨Ao67, co67, eo67⟩ := Kd.R_slice HO660.out; subst eo67) | ((with_reducible refine gate_callee (f := 29) rfl ?_); refine goesL_ (some 54) rfl rfl Try.func29 (by kernel_rfl) rfl #[.slice Ao67 t657.length co67, .int .i64 (wrap64 (a1))] rfl (by (try simp only [List.map_toArray, List.map_cons, List.map_nil]); rfl) ?_; (with_reducible refine (nat_Shr.calls kj6 _ _ t657 (wrap64 (a1)) t662 t663 _ ?side1 ?side2 A30.out).mono ?_); (case side1 => repeat (exact (Kd.R_reads' HO660.out).2.2)); (case side2 => exact (Kd.R_reads' HO660.out).2.1); rintro e w68 ⟨v664, rfl, ho0, hb⟩; refine ⟨_, rfl, ?_⟩; have n0_ := Aside0.mk (Kd.R_elder' (by exact HO660.out) (Kd.R_base ho0) hb); have n1_ := Aside0.mk (Kd.R_lower (Kd.R_new' ho0 (Kd.R_lt (by exact HO660.out))) (below_size (by repeat ((with_reducible exact HB.out))))); have n2_ := Aside0.mk (below_step (by repeat ((with_reducible exact HB.out))) hb); clear HO660; clear HB; have HO660 := n0_; have HO665 := n1_; have HB := n2_; clear n0_ n1_ n2_; (try clear hb); (try clear ho0)))
                go_ret
                exact ⟨by rfl, by repeat ((with_reducible exact HB.out))⟩
            · rw [if_neg c31] at H
              have c31b0 : (t658 == 0) = false := beq_eq_false_iff_ne.mpr c31
              have c31b1 : (t658 != 0) = true := bne_iff_ne.mpr c31
              obtain rfl := Option.some.inj H
              go_wp2_with (first | ((with_reducible refine gate_callee (f := 28) rfl ?_); refine goesL_ (some 44) rfl rfl Try.func28 (by kernel_rfl) rfl #[.slice A0 l0.length c0, .int .i64 (wrap64 (a1))] rfl (by (try simp only [List.map_toArray, List.map_cons, List.map_nil]); rfl) ?_; (with_reducible refine (nat_Shl.calls kj6 _ _ l0 (wrap64 (a1)) t657 t658 _ ?side1 ?side2 A25.out).mono ?_); (case side1 => repeat (exact (Kd.C_below HR0.out HB.out))); (case side2 => exact HC0.out); rintro e w69 ⟨v659, rfl, ho0, hb⟩; refine ⟨_, rfl, ?_⟩; have n0_ := Aside0.mk (Kd.R_lower ho0 (below_size (by repeat ((with_reducible exact HB.out))))); have n1_ := Aside0.mk (below_step (by repeat ((with_reducible exact HB.out))) hb); clear HB; have HO660 := n0_; have HB := n1_; clear n0_ n1_; (try clear hb); (try clear ho0)) | ((with_reducible refine gate_callee (f := 24) rfl ?_); refine goesL_ (some 48) rfl rfl Try.func24 (by kernel_rfl) rfl #[.slice A0 l0.length c0] rfl (by (try simp only [List.map_toArray, List.map_cons, List.map_nil]); rfl) ?_; (with_reducible refine (nat_Bits.calls kj6 _ _ l0 t661 _ ?side1 ?side2 A26.out).mono ?_); (case side1 => repeat (exact (Kd.C_below HR0.out HB.out))); (case side2 => exact HC0.out); rintro e w70 ⟨rfl, hb⟩; refine ⟨_, rfl, ?_⟩; have n0_ := Aside0.mk (Kd.R_below (by exact HO660.out) hb); have n1_ := Aside0.mk (below_step (by repeat ((with_reducible exact HB.out))) hb); clear HO660; clear HB; have HO660 := n0_; have HB := n1_; clear n0_ n1_; (try clear hb); obtain ⟨Ao71, co71, eo71⟩ := Kd.R_slice HO660.out; subst eo71) | ((with_reducible refine gate_callee (f := 29) rfl ?_); refine goesL_ (some 54) rfl rfl Try.func29 (by kernel_rfl) rfl #[.slice Ao71 t657.length co71, .int .i64 (wrap64 (a1))] rfl (by (try simp only [List.map_toArray, List.map_cons, List.map_nil]); rfl) ?_; (with_reducible refine (nat_Shr.calls kj6 _ _ t657 (wrap64 (a1)) t662 t663 _ ?side1 ?side2 A30.out).mono ?_); (case side1 => repeat (exact (Kd.R_reads' HO660.out).2.2)); (case side2 => exact (Kd.R_reads' HO660.out).2.1); rintro e w72 ⟨v664, rfl, ho0, hb⟩; refine ⟨_, rfl, ?_⟩; have n0_ := Aside0.mk (Kd.R_elder' (by exact HO660.out) (Kd.R_base ho0) hb); have n1_ := Aside0.mk (Kd.R_lower (Kd.R_new' ho0 (Kd.R_lt (by exact HO660.out))) (below_size (by repeat ((with_reducible exact HB.out))))); have n2_ := Aside0.mk (below_step (by repeat ((with_reducible exact HB.out))) hb); clear HO660; clear HB; have HO660 := n0_; have HO665 := n1_; have HB := n2_; clear n0_ n1_ n2_; (try clear hb); (try clear ho0)))
              go_ret
              exact ⟨by rfl, by repeat ((with_reducible exact HB.out))⟩
  · replace c4 := Bool.eq_false_iff.mpr c4
    subst c4
    have H1 : (some false) = some r := by rw [if_neg (show ¬ (false = true) by decide)] at H; exact H
    clear H
    have H := H1
    clear H1
    obtain rfl := Option.some.inj H
    go_enter Try.func12, Try.ntmps12
    go_wp2_with (((with_reducible refine gate_callee (f := 18) rfl ?_); refine goesL_ (some 12) rfl rfl Try.func18 (by kernel_rfl) rfl #[] rfl (by (try simp only [List.map_toArray, List.map_cons, List.map_nil]); done) ?_; (with_reducible refine (trammellaw01_awake.calls k  false _ A3.out).mono ?_); rintro e w73 ⟨rfl, hb⟩; refine ⟨_, rfl, ?_⟩; have n0_ := Aside0.mk (below_step (by repeat ((with_reducible exact HB.out))) hb); clear HB; have HB := n0_; clear n0_; (try clear hb)))
    go_ret
    exact ⟨by rfl, by repeat ((with_reducible exact HB.out))⟩

/-- THE ONE PURE STATEMENT of trammellaw01_NatThere: yours. -/
def trammellaw01_NatThere.Pure : Prop := ∀ (l0 : List Int) (a1 : Int), l0.length ≤ maxLen → l0.length ≤ 1048576 → (∀ x ∈ l0, (Lit.int .u32 x).wf = true) → (Lit.int .u8 a1).wf = true → ∃ k, trammellaw01_NatThere.f k l0 a1 = some true
theorem trammellaw01_NatThere.walk (P : trammellaw01_NatThere.Pure) (a0 : Option Addr) (len0 cap0 : Nat) (z0 : List Int) (a1 : Int) (w : World) (w0 : (a0 = none ∧ len0 = 0 ∧ cap0 = 0 ∧ z0 = []) ∨ ∃ x, a0 = some x ∧ len0 ≤ cap0 ∧ cap0 ≤ maxLen ∧ z0.length = cap0 ∧ (∀ i, i < z0.length → w.cell? (x.add i) = some (.int .u32 (z0.getD i 0))) ∧ ∀ n ∈ z0, (Lit.int .u32 n).wf = true) (y0 : len0 ≤ 1048576) (w1 : (Lit.int .u8 a1).wf = true) :
    Calls Try.prog 12 #[.slice a0 len0 cap0, .int .u8 a1] w fun e w' => e = .returned (.bool true) ∧ Below w.heap.size w w' := by
  obtain ⟨l0, rfl, hr0, hm0, hw0, hc0⟩ := ReadsInt.ofRowC w0
  obtain ⟨k, h⟩ := P l0 a1 hm0 y0 hw0 w1
  refine (trammellaw01_NatThere.calls k _ _ l0 a1 true w (Kd.C_of_reads (d := (0 : Int)) (h1 := fun _ => rfl) hr0) hc0 h).mono ?_
  rintro e w' ⟨rfl, hd⟩
  exact ⟨rfl, hd⟩

end Go.Proofs.Ytnlkafjhbjlhaaa.PA
