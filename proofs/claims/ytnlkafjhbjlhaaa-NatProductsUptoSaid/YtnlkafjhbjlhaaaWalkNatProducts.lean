/- The walk of the law NatProducts over its callees' contracts: it answers true; for arguments of a bulk of at most 1048576. -/
import Derived.Test.YtnlkafjhbjlhaaaRoom
import Derived.Test.YtnlkafjhbjlhaaaNatAwake
import Derived.Test.YtnlkafjhbjlhaaaNatR3
import Derived.Test.YtnlkafjhbjlhaaaNatB
import Derived.Test.YtnlkafjhbjlhaaaPAx10
import Derived.Test.YtnlkafjhbjlhaaaPAx11
import Derived.Test.YtnlkafjhbjlhaaaPAx12
import Derived.Test.YtnlkafjhbjlhaaaPAx6
namespace Go.Proofs.Ytnlkafjhbjlhaaa.PA
open Go Go.Proofs.Ytnlkafjhbjlhaaa.Nums Go.RowKit Go.Proofs.YtnlkafjhbjlhaaaW.PrintWords Go.Proofs.YtnlkafjhbjlhaaaW.PrintLast Go.Proofs.YtnlkafjhbjlhaaaW.PrintMore
attribute [local go_sem] max2_int min2_int max_two min_two max_three min_three max_four min_four
set_option linter.unusedVariables false
set_option linter.unusedSimpArgs false
set_option maxHeartbeats 8000000 in
set_option maxRecDepth 100000 in
theorem trammellaw01_NatProducts.walk (a0 : Option Addr) (len0 cap0 : Nat) (z0 : List Int) (a1 : Option Addr) (len1 cap1 : Nat) (z1 : List Int) (w : World)
    (w0 : (a0 = none ∧ len0 = 0 ∧ cap0 = 0 ∧ z0 = []) ∨ ∃ x, a0 = some x ∧ len0 ≤ cap0 ∧ cap0 ≤ maxLen ∧ z0.length = cap0 ∧ (∀ i, i < z0.length → w.cell? (x.add i) = some (.int .u32 (z0.getD i 0))) ∧ ∀ n ∈ z0, (Lit.int .u32 n).wf = true) (y0 : len0 ≤ 1048576)
    (w1 : (a1 = none ∧ len1 = 0 ∧ cap1 = 0 ∧ z1 = []) ∨ ∃ x, a1 = some x ∧ len1 ≤ cap1 ∧ cap1 ≤ maxLen ∧ z1.length = cap1 ∧ (∀ i, i < z1.length → w.cell? (x.add i) = some (.int .u32 (z1.getD i 0))) ∧ ∀ n ∈ z1, (Lit.int .u32 n).wf = true) (y1 : len1 ≤ 1048576) :
    Calls Try.prog 5 #[.slice a0 len0 cap0, .slice a1 len1 cap1] w fun e w' => e = .returned (.bool true) ∧ Below w.heap.size w w' := by
  obtain ⟨l0, rfl, hr0, hm0, hw0, hc0⟩ := ReadsInt.ofRowC w0
  obtain ⟨l1, rfl, hr1, hm1, hw1, hc1⟩ := ReadsInt.ofRowC w1
  have o0 := ok_of hw0
  have o1 := ok_of hw1
  have C0 := Aside0.mk (C_ints hr0)
  have C1 := Aside0.mk (C_ints hr1)
  have L0 := Aside0.mk hc0
  have L1 := Aside0.mk hc1
  have hlen := lm_mul_len o0 o1
  obtain ⟨k1, e1⟩ := (mul_f l0 l1 o0 o1 (by omega)).rounds
  obtain ⟨k2, e2⟩ := (rmul_f l0 l1 o0 o1 (by omega)).rounds
  obtain ⟨p, hp⟩ : ∃ p, p = lm (val l0 * val l1) := ⟨_, rfl⟩
  rw [← hp] at e1 e2 hlen
  obtain ⟨k3, e3⟩ := same_rounds p (by omega)
  have s0 := same_rounds l0 (by omega)
  have s1 := same_rounds l1 (by omega)
  obtain ⟨k6, e6⟩ := awake_ev.rounds
  have E1 := Aside0.mk e1
  have E2 := Aside0.mk e2
  have E3 := Aside0.mk e3
  have E4 := Aside0.mk s0
  have E5 := Aside0.mk s1
  have E6 := Aside0.mk e6
  have Y0 := Aside0.mk y0
  have Y1 := Aside0.mk y1
  clear e1 e2 e3 e6 s0 s1 hp hlen o0 o1 hw0 hw1 hm0 hm1 hr0 hr1 hc0 hc1 w0 w1 y0 y1
  go_enter Try.func5, Try.ntmps5
  go_wp2_with (fail)
  refine (copied_calls a0 cap0 l0 l0 _ C0.out L0.out (copied_some l0 Y0.out)).mono ?_
  rintro e u1 ⟨A2, cp2, rfl, hR2, hB1⟩
  have R2 := Aside0.mk hR2
  have B1 := Aside0.mk hB1
  replace C0 := Aside0.mk (Kd.C_below C0.out hB1)
  replace C1 := Aside0.mk (Kd.C_below C1.out hB1)
  clear hR2 hB1
  go_wp2_with (fail)
  refine (copied_calls a1 cap1 l1 l1 _ C1.out L1.out (copied_some l1 Y1.out)).mono ?_
  rintro e u2 ⟨A3, cp3, rfl, hR3, hB2⟩
  have R3 := Aside0.mk hR3
  have B2 := Aside0.mk (below_then B1.out B1.out.size hB2)
  replace R2 := Aside0.mk (Kd.R_below R2.out hB2)
  replace C0 := Aside0.mk (Kd.C_below C0.out hB2)
  replace C1 := Aside0.mk (Kd.C_below C1.out hB2)
  clear hR3 hB2 B1
  go_wp2_with (fail)
  refine (nat_Mul.calls k1 A2 cp2 l0 A3 cp3 l1 p _ (room_read R2.out).2.1 (room_read R2.out).1 (room_read R3.out).2.1 (room_read R3.out).1 E1.out).mono ?_
  rintro e u3 ⟨v4, rfl, hR4, hB3⟩
  obtain ⟨A4, cp4, rfl⟩ := Kd.R_slice hR4
  have R4 := Aside0.mk hR4
  have B3 := Aside0.mk (below_then B2.out B2.out.size hB3)
  replace R2 := Aside0.mk (Kd.R_below R2.out hB3)
  replace R3 := Aside0.mk (Kd.R_below R3.out hB3)
  replace C0 := Aside0.mk (Kd.C_below C0.out hB3)
  replace C1 := Aside0.mk (Kd.C_below C1.out hB3)
  clear hR4 hB3 B2
  go_wp2_with (fail)
  refine (trammelref01_Mul.calls k2 a0 cap0 l0 a1 cap1 l1 p _ C0.out L0.out C1.out L1.out E2.out).mono ?_
  rintro e u4 ⟨v5, rfl, hR5, hB4⟩
  obtain ⟨A5, cp5, rfl⟩ := Kd.R_slice hR5
  have R5 := Aside0.mk hR5
  have B4 := Aside0.mk (below_then B3.out B3.out.size hB4)
  replace R2 := Aside0.mk (Kd.R_below R2.out hB4)
  replace R3 := Aside0.mk (Kd.R_below R3.out hB4)
  replace R4 := Aside0.mk (Kd.R_below R4.out hB4)
  replace C0 := Aside0.mk (Kd.C_below C0.out hB4)
  replace C1 := Aside0.mk (Kd.C_below C1.out hB4)
  clear hR5 hB4 B3
  go_wp2_with (fail)
  refine (trammellaw01_same.calls k3 A4 cp4 p A5 cp5 p true _ (Kd.R_reads' R4.out).2.2 (Kd.R_reads' R4.out).2.1 (Kd.R_reads' R5.out).2.2 (Kd.R_reads' R5.out).2.1 E3.out).mono ?_
  rintro e u5 ⟨rfl, hD5⟩
  have hB5 := hD5.below
  have B5 := Aside0.mk (below_then B4.out B4.out.size hB5)
  replace R2 := Aside0.mk (Kd.R_below R2.out hB5)
  replace R3 := Aside0.mk (Kd.R_below R3.out hB5)
  replace C0 := Aside0.mk (Kd.C_below C0.out hB5)
  replace C1 := Aside0.mk (Kd.C_below C1.out hB5)
  clear hB5 hD5 B4
  go_wp2_with (fail)
  refine (kept_true A2 cp2 l0 a0 cap0 _ Y0.out (room_read R2.out).2.2.2 (room_read R2.out).2.2.1 C0.out L0.out (room_read R2.out).2.1 E4.out).mono ?_
  rintro e u6 ⟨rfl, hD6⟩
  have hB6 := hD6.below
  have B6 := Aside0.mk (below_then B5.out B5.out.size hB6)
  replace R3 := Aside0.mk (Kd.R_below R3.out hB6)
  replace C1 := Aside0.mk (Kd.C_below C1.out hB6)
  clear hB6 hD6 B5
  go_wp2_with (fail)
  refine (kept_true A3 cp3 l1 a1 cap1 _ Y1.out (room_read R3.out).2.2.2 (room_read R3.out).2.2.1 C1.out L1.out (room_read R3.out).2.1 E5.out).mono ?_
  rintro e u7 ⟨rfl, hD7⟩
  have hB7 := hD7.below
  have B7 := Aside0.mk (below_then B6.out B6.out.size hB7)
  clear hB7 hD7 B6
  go_wp2_with (fail)
  refine (trammellaw01_awake.calls k6 true _ E6.out).mono ?_
  rintro e u8 ⟨rfl, hB8⟩
  have B8 := Aside0.mk (below_then B7.out B7.out.size hB8)
  clear hB8 B7
  go_wp2_with (fail)
  go_ret
  exact ⟨rfl, by repeat (first | exact B8.out | apply below_drew1 | apply pw_below_drewN)⟩
end Go.Proofs.Ytnlkafjhbjlhaaa.PA
