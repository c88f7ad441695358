/- The walk of the law NatRoots over its callees' contracts: it answers true; for arguments of a bulk of at most 1048576. -/
import Derived.Test.YtnlkafjhbjlhaaaRoomK
import Derived.Test.YtnlkafjhbjlhaaaNatAwakeK
import Derived.Test.YtnlkafjhbjlhaaaNatRootK
import Derived.Test.YtnlkafjhbjlhaaaPAx10K
import Derived.Test.YtnlkafjhbjlhaaaPAx19K
import Derived.Test.YtnlkafjhbjlhaaaPAx21K
import Derived.Test.YtnlkafjhbjlhaaaPAx22K
import Derived.Test.YtnlkafjhbjlhaaaPAx24K
namespace Go.Proofs.Ytnlkafjhbjlhaaa.PA
open Go Go.Proofs.Ytnlkafjhbjlhaaa.Nums Go.RowKit Go.Proofs.YtnlkafjhbjlhaaaW.PrintWords Go.Proofs.YtnlkafjhbjlhaaaW.PrintLast Go.Proofs.YtnlkafjhbjlhaaaW.PrintMore
attribute [local go_sem] max2_int min2_int max_two min_two max_three min_three max_four min_four
set_option linter.unusedVariables false
set_option linter.unusedSimpArgs false
theorem gcd_len {a b : List Int} (oa : Ok a) (ob : Ok b) (la : a.length ≤ 1048576) (lb : b.length ≤ 1048576) : (lm (gcdI (val a) (val b))).length ≤ 1048576 := by
  have ha := val_nonneg oa
  have hb := val_nonneg ob
  have h1 := val_lt oa
  have h2 := val_lt ob
  have h3 := Bp_le la
  have h4 := Bp_le lb
  refine lm_len_le (gcdI_nonneg _ _) ?_
  unfold gcdI
  by_cases h : val a = 0
  · have e : (val a).toNat = 0 := by omega
    rw [e, Nat.gcd_zero_left]; omega
  · have := Nat.gcd_le_left (val b).toNat (show 0 < (val a).toNat by omega)
    omega
set_option maxHeartbeats 8000000 in
set_option maxRecDepth 100000 in
theorem trammellaw01_NatRoots.walk (a0 : Option Addr) (len0 cap0 : Nat) (z0 : List Int) (a1 : Option Addr) (len1 cap1 : Nat) (z1 : List Int) (w : World) (w0 : ((a0 = none ∧ len0 = 0 ∧ cap0 = 0 ∧ z0 = []) ∨ ∃ x, a0 = some x ∧ len0 ≤ cap0 ∧ cap0 ≤ maxLen ∧ z0.length = cap0 ∧ (∀ i, i < z0.length → w.cell? (x.add i) = some (.int .u32 (z0.getD i 0))) ∧ ∀ n ∈ z0, (Lit.int .u32 n).wf = true)) (y0 : len0 ≤ 1048576) (w1 : ((a1 = none ∧ len1 = 0 ∧ cap1 = 0 ∧ z1 = []) ∨ ∃ x, a1 = some x ∧ len1 ≤ cap1 ∧ cap1 ≤ maxLen ∧ z1.length = cap1 ∧ (∀ i, i < z1.length → w.cell? (x.add i) = some (.int .u32 (z1.getD i 0))) ∧ ∀ n ∈ z1, (Lit.int .u32 n).wf = true)) (y1 : len1 ≤ 1048576) :
    Calls Try.prog 10 #[.slice a0 len0 cap0, .slice a1 len1 cap1] w fun e w' => e = .returned (.bool true) ∧ Below w.heap.size w w' := by
  obtain ⟨l0, rfl, hr0, hm0, hw0, hc0⟩ := ReadsInt.ofRowC w0
  have o0 := ok_of hw0
  have C0 := Aside0.mk (C_ints hr0)
  have L0 := Aside0.mk hc0
  have Y0 := Aside0.mk y0
  obtain ⟨l1, rfl, hr1, hm1, hw1, hc1⟩ := ReadsInt.ofRowC w1
  have o1 := ok_of hw1
  have C1 := Aside0.mk (C_ints hr1)
  have L1 := Aside0.mk hc1
  have Y1 := Aside0.mk y1
  obtain ⟨k1, e1⟩ := (gcd_f l0 l1 o0 o1 (by omega) (by omega)).rounds
  obtain ⟨k2, e2⟩ := (rgcd_f l0 l1 o0 o1 (by omega) (by omega)).rounds
  obtain ⟨r, hr, f3⟩ := root_f l0 o0 (by omega)
  obtain ⟨r2, hr2, f4⟩ := rroot_f l0 o0 (by omega)
  obtain rfl := hr.unique hr2
  obtain ⟨k3, e3⟩ := f3.rounds
  obtain ⟨k4, e4⟩ := f4.rounds
  have gl := gcd_len (b := l1) o0 o1 y0 y1
  have rl := lm_len_mono hr.1 hr.le
  have tl := trim_len l0
  rw [trim_lm o0] at tl
  obtain ⟨g, hg⟩ : ∃ g, g = lm (gcdI (val l0) (val l1)) := ⟨_, rfl⟩
  obtain ⟨p, hp⟩ : ∃ p, p = lm r := ⟨_, rfl⟩
  rw [← hg] at e1 e2 gl
  rw [← hp] at e3 e4 rl
  obtain ⟨k5, e5⟩ := same_rounds g (by omega)
  obtain ⟨k6, e6⟩ := same_rounds p (by omega)
  obtain ⟨k8, e8⟩ := awake_ev.rounds
  have s0 := same_rounds l0 (by omega)
  have s1 := same_rounds l1 (by omega)
  have E1 := Aside0.mk e1
  have E2 := Aside0.mk e2
  have E3 := Aside0.mk e3
  have E4 := Aside0.mk e4
  have E5 := Aside0.mk e5
  have E6 := Aside0.mk e6
  have E8 := Aside0.mk e8
  have E9 := Aside0.mk s0
  have E10 := Aside0.mk s1
  clear e1 e2 e3 e4 e5 e6 e8 s0 s1 f3 f4 hr hr2 hg hp gl rl tl
  clear o1 y1 w1 hc1 hw1 hm1 hr1 o0 y0 w0 hc0 hw0 hm0 hr0
  go_enter Try.func10, Try.ntmps10
  go_wp2_with (fail)
  refine (copied_calls a0 cap0 l0 l0 _ C0.out L0.out (copied_some l0 Y0.out)).mono ?_
  rintro e u1 ⟨A2, cp2, rfl, hR, hB⟩
  have R2 := Aside0.mk hR
  have B1 := Aside0.mk hB
  replace C0 := Aside0.mk (Kd.C_below C0.out hB)
  replace C1 := Aside0.mk (Kd.C_below C1.out hB)
  clear hR hB
  go_wp2_with (fail)
  refine (copied_calls a1 cap1 l1 l1 _ C1.out L1.out (copied_some l1 Y1.out)).mono ?_
  rintro e u2 ⟨A3, cp3, rfl, hR, hB⟩
  have R3 := Aside0.mk hR
  have B2 := Aside0.mk (below_then B1.out B1.out.size hB)
  replace C0 := Aside0.mk (Kd.C_below C0.out hB)
  replace C1 := Aside0.mk (Kd.C_below C1.out hB)
  replace R2 := Aside0.mk (Kd.R_below R2.out hB)
  clear hR hB B1
  go_wp2_with (fail)
  refine (nat_Gcd.calls k1 A2 cp2 l0 A3 cp3 l1 g _ (room_read R2.out).2.1 (room_read R2.out).1 (room_read R3.out).2.1 (room_read R3.out).1 E1.out).mono ?_
  rintro e u3 ⟨v_4, rfl, hR4, hB⟩
  obtain ⟨A4, cp4, rfl⟩ := Kd.R_slice hR4
  have R4 := Aside0.mk hR4
  have S4 := Aside0.mk (Kd.R_base hR4)
  have B3 := Aside0.mk (below_then B2.out B2.out.size hB)
  replace C0 := Aside0.mk (Kd.C_below C0.out hB)
  replace C1 := Aside0.mk (Kd.C_below C1.out hB)
  replace R2 := Aside0.mk (Kd.R_below R2.out hB)
  replace R3 := Aside0.mk (Kd.R_below R3.out hB)
  clear hB hR4 B2
  go_wp2_with (fail)
  refine (trammelref01_Gcd.calls k2 a0 cap0 l0 a1 cap1 l1 g _ C0.out L0.out C1.out L1.out E2.out).mono ?_
  rintro e u4 ⟨v_5, rfl, hR5, hB⟩
  obtain ⟨A5, cp5, rfl⟩ := Kd.R_slice hR5
  have R5 := Aside0.mk hR5
  have S5 := Aside0.mk (Kd.R_base hR5)
  have B4 := Aside0.mk (below_then B3.out B3.out.size hB)
  replace C0 := Aside0.mk (Kd.C_below C0.out hB)
  replace C1 := Aside0.mk (Kd.C_below C1.out hB)
  replace R2 := Aside0.mk (Kd.R_below R2.out hB)
  replace R3 := Aside0.mk (Kd.R_below R3.out hB)
  replace R4 := Aside0.mk (Kd.R_below R4.out hB)
  clear hB hR5 B3
  go_wp2_with (fail)
  refine (trammellaw01_same.calls k5 A4 cp4 g A5 cp5 g true _ (Kd.R_reads' R4.out).2.2 (Kd.R_reads' R4.out).2.1 (Kd.R_reads' R5.out).2.2 (Kd.R_reads' R5.out).2.1 E5.out).mono ?_
  rintro e u5 ⟨rfl, hD⟩
  have hB := hD.below
  have B5 := Aside0.mk (below_then B4.out B4.out.size hB)
  replace C0 := Aside0.mk (Kd.C_below C0.out hB)
  replace C1 := Aside0.mk (Kd.C_below C1.out hB)
  replace R2 := Aside0.mk (Kd.R_below R2.out hB)
  replace R3 := Aside0.mk (Kd.R_below R3.out hB)
  replace R4 := Aside0.mk (Kd.R_below R4.out hB)
  replace R5 := Aside0.mk (Kd.R_below R5.out hB)
  clear hB hD B4
  go_wp2_with (fail)
  refine (nat_Root.calls k3 A2 cp2 l0 p _ (room_read R2.out).2.1 (room_read R2.out).1 E3.out).mono ?_
  rintro e u6 ⟨v_6, rfl, hR6, hB⟩
  obtain ⟨A6, cp6, rfl⟩ := Kd.R_slice hR6
  have R6 := Aside0.mk hR6
  have S6 := Aside0.mk (Kd.R_base hR6)
  have B6 := Aside0.mk (below_then B5.out B5.out.size hB)
  replace C0 := Aside0.mk (Kd.C_below C0.out hB)
  replace C1 := Aside0.mk (Kd.C_below C1.out hB)
  replace R2 := Aside0.mk (Kd.R_below R2.out hB)
  replace R3 := Aside0.mk (Kd.R_below R3.out hB)
  replace R4 := Aside0.mk (Kd.R_below R4.out hB)
  replace R5 := Aside0.mk (Kd.R_below R5.out hB)
  clear hB hR6 B5
  go_wp2_with (fail)
  refine (trammelref01_Root.calls k4 a0 cap0 l0 p _ C0.out L0.out E4.out).mono ?_
  rintro e u7 ⟨v_7, rfl, hR7, hB⟩
  obtain ⟨A7, cp7, rfl⟩ := Kd.R_slice hR7
  have R7 := Aside0.mk hR7
  have S7 := Aside0.mk (Kd.R_base hR7)
  have B7 := Aside0.mk (below_then B6.out B6.out.size hB)
  replace C0 := Aside0.mk (Kd.C_below C0.out hB)
  replace C1 := Aside0.mk (Kd.C_below C1.out hB)
  replace R2 := Aside0.mk (Kd.R_below R2.out hB)
  replace R3 := Aside0.mk (Kd.R_below R3.out hB)
  replace R4 := Aside0.mk (Kd.R_below R4.out hB)
  replace R5 := Aside0.mk (Kd.R_below R5.out hB)
  replace R6 := Aside0.mk (Kd.R_below R6.out hB)
  clear hB hR7 B6
  go_wp2_with (fail)
  refine (trammellaw01_same.calls k6 A6 cp6 p A7 cp7 p true _ (Kd.R_reads' R6.out).2.2 (Kd.R_reads' R6.out).2.1 (Kd.R_reads' R7.out).2.2 (Kd.R_reads' R7.out).2.1 E6.out).mono ?_
  rintro e u8 ⟨rfl, hD⟩
  have hB := hD.below
  have B8 := Aside0.mk (below_then B7.out B7.out.size hB)
  replace C0 := Aside0.mk (Kd.C_below C0.out hB)
  replace C1 := Aside0.mk (Kd.C_below C1.out hB)
  replace R2 := Aside0.mk (Kd.R_below R2.out hB)
  replace R3 := Aside0.mk (Kd.R_below R3.out hB)
  replace R4 := Aside0.mk (Kd.R_below R4.out hB)
  replace R5 := Aside0.mk (Kd.R_below R5.out hB)
  replace R6 := Aside0.mk (Kd.R_below R6.out hB)
  replace R7 := Aside0.mk (Kd.R_below R7.out hB)
  clear hB hD B7
  go_wp2_with (fail)
  refine (kept_true A2 cp2 l0 a0 cap0 _ Y0.out (room_read R2.out).2.2.2 (room_read R2.out).2.2.1 C0.out L0.out (room_read R2.out).2.1 E9.out).mono ?_
  rintro e u9 ⟨rfl, hD⟩
  have hB := hD.below
  have B9 := Aside0.mk (below_then B8.out B8.out.size hB)
  replace C0 := Aside0.mk (Kd.C_below C0.out hB)
  replace C1 := Aside0.mk (Kd.C_below C1.out hB)
  replace R2 := Aside0.mk (Kd.R_below R2.out hB)
  replace R3 := Aside0.mk (Kd.R_below R3.out hB)
  replace R4 := Aside0.mk (Kd.R_below R4.out hB)
  replace R5 := Aside0.mk (Kd.R_below R5.out hB)
  replace R6 := Aside0.mk (Kd.R_below R6.out hB)
  replace R7 := Aside0.mk (Kd.R_below R7.out hB)
  clear hB hD B8
  go_wp2_with (fail)
  refine (kept_true A3 cp3 l1 a1 cap1 _ Y1.out (room_read R3.out).2.2.2 (room_read R3.out).2.2.1 C1.out L1.out (room_read R3.out).2.1 E10.out).mono ?_
  rintro e u10 ⟨rfl, hD⟩
  have hB := hD.below
  have B10 := Aside0.mk (below_then B9.out B9.out.size hB)
  replace C0 := Aside0.mk (Kd.C_below C0.out hB)
  replace C1 := Aside0.mk (Kd.C_below C1.out hB)
  replace R2 := Aside0.mk (Kd.R_below R2.out hB)
  replace R3 := Aside0.mk (Kd.R_below R3.out hB)
  replace R4 := Aside0.mk (Kd.R_below R4.out hB)
  replace R5 := Aside0.mk (Kd.R_below R5.out hB)
  replace R6 := Aside0.mk (Kd.R_below R6.out hB)
  replace R7 := Aside0.mk (Kd.R_below R7.out hB)
  clear hB hD B9
  go_wp2_with (fail)
  refine (trammellaw01_awake.calls k8 true _ E8.out).mono ?_
  rintro e u11 ⟨rfl, hB⟩
  have B11 := Aside0.mk (below_then B10.out B10.out.size hB)
  replace C0 := Aside0.mk (Kd.C_below C0.out hB)
  replace C1 := Aside0.mk (Kd.C_below C1.out hB)
  replace R2 := Aside0.mk (Kd.R_below R2.out hB)
  replace R3 := Aside0.mk (Kd.R_below R3.out hB)
  replace R4 := Aside0.mk (Kd.R_below R4.out hB)
  replace R5 := Aside0.mk (Kd.R_below R5.out hB)
  replace R6 := Aside0.mk (Kd.R_below R6.out hB)
  replace R7 := Aside0.mk (Kd.R_below R7.out hB)
  clear hB B10
  go_wp2_with (fail)
  go_ret
  exact ⟨rfl, by repeat (first | exact B11.out | apply below_drew1 | apply pw_below_drewN)⟩
end Go.Proofs.Ytnlkafjhbjlhaaa.PA
