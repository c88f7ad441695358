/- The walk of the law NatShifts over its callees' contracts: it answers true; for arguments of a bulk of at most 1048576. -/
import Derived.Test.YtnlkafjhbjlhaaaRoom
import Derived.Test.YtnlkafjhbjlhaaaNatAwake
import Derived.Test.YtnlkafjhbjlhaaaNatShift
import Derived.Test.YtnlkafjhbjlhaaaNatB
import Derived.Test.YtnlkafjhbjlhaaaPAx10
import Derived.Test.YtnlkafjhbjlhaaaPAx11
import Derived.Test.YtnlkafjhbjlhaaaPAx13
import Derived.Test.YtnlkafjhbjlhaaaPAx7
namespace Go.Proofs.Ytnlkafjhbjlhaaa.PA
open Go Go.Proofs.Ytnlkafjhbjlhaaa.Nums Go.RowKit Go.Proofs.YtnlkafjhbjlhaaaW.PrintWords Go.Proofs.YtnlkafjhbjlhaaaW.PrintLast Go.Proofs.YtnlkafjhbjlhaaaW.PrintMore
attribute [local go_sem] max2_int min2_int max_two min_two max_three min_three max_four min_four
set_option linter.unusedVariables false
set_option linter.unusedSimpArgs false
set_option maxHeartbeats 8000000 in
set_option maxRecDepth 100000 in
theorem trammellaw01_NatShifts.walk (a0 : Option Addr) (len0 cap0 : Nat) (z0 : List Int) (a1 : Int) (w : World)
    (w0 : ((a0 = none ∧ len0 = 0 ∧ cap0 = 0 ∧ z0 = []) ∨ ∃ x, a0 = some x ∧ len0 ≤ cap0 ∧ cap0 ≤ maxLen ∧ z0.length = cap0 ∧ (∀ i, i < z0.length → w.cell? (x.add i) = some (.int .u32 (z0.getD i 0))) ∧ ∀ n ∈ z0, (Lit.int .u32 n).wf = true)) (y0 : len0 ≤ 1048576) (w1 : (Lit.int .i64 a1).wf = true) :
    Calls Try.prog 6 #[.slice a0 len0 cap0, .int .i64 a1] w fun e w' => e = .returned (.bool true) ∧ Below w.heap.size w w' := by
  obtain ⟨l0, rfl, hr0, hm0, hw0, hc0⟩ := ReadsInt.ofRowC w0
  have o0 := ok_of hw0
  have hn : a1 < 9223372036854775808 := by
    have h := w1
    simp [Lit.wf, IntKind.min, IntKind.max, IntKind.signed, IntKind.bits] at h
    omega
  have C0 := Aside0.mk (C_ints hr0)
  have L0 := Aside0.mk hc0
  have tl := shlR_len l0 o0 y0 a1
  have dl := shrR_len l0 o0 y0 a1
  obtain ⟨k1, e1⟩ := (Shl_f l0 o0 (by omega) a1 hn).rounds
  obtain ⟨k2, e2⟩ := (Shr_f l0 o0 (by omega) a1 hn).rounds
  obtain ⟨k3, e3⟩ := (rShl_f l0 o0 (by omega) a1 hn).rounds
  obtain ⟨k4, e4⟩ := (rShr_f l0 o0 (by omega) a1 hn).rounds
  obtain ⟨⟨p, pe⟩, hp⟩ : ∃ d, d = shlR l0 a1 := ⟨_, rfl⟩
  obtain ⟨⟨d, de⟩, hd⟩ : ∃ d, d = shrR l0 a1 := ⟨_, rfl⟩
  rw [← hp] at e1 e3 tl
  rw [← hd] at e2 e4 dl
  have tl2 : p.length ≤ 1048576 := tl
  have dl2 : d.length ≤ 1048576 := dl
  obtain ⟨k5, e5⟩ := same_rounds p (by omega)
  obtain ⟨k6, e6⟩ := same_rounds d (by omega)
  obtain ⟨k8, e8⟩ := awake_ev.rounds
  have s0 := same_rounds l0 (by omega)
  have E1 := Aside0.mk e1
  have E2 := Aside0.mk e2
  have E3 := Aside0.mk e3
  have E4 := Aside0.mk e4
  have E5 := Aside0.mk e5
  have E6 := Aside0.mk e6
  have E8 := Aside0.mk e8
  have E9 := Aside0.mk s0
  have Y0 := Aside0.mk y0
  clear e1 e2 e3 e4 e5 e6 e8 s0 hp hd tl tl2 dl dl2 o0 hw0 hm0 hr0 hc0 w0 w1 y0 hn
  go_enter Try.func6, Try.ntmps6
  go_wp2_with (fail)
  refine (copied_calls a0 cap0 l0 l0 _ C0.out L0.out (copied_some l0 Y0.out)).mono ?_
  rintro e u1 ⟨A2, cp2, rfl, hR2, hB⟩
  have R2 := Aside0.mk hR2
  have B1 := Aside0.mk hB
  replace C0 := Aside0.mk (Kd.C_below C0.out hB)
  clear hB hR2
  go_wp2_with (fail)
  refine (nat_Shl.calls k1 A2 cp2 l0 a1 p pe _ (room_read R2.out).2.1 (room_read R2.out).1 E1.out).mono ?_
  rintro e u2 ⟨v3, rfl, hR3, hB⟩
  obtain ⟨A3, cp3, rfl⟩ := Kd.R_slice hR3
  have R3 := Aside0.mk hR3
  have B2 := Aside0.mk (below_then B1.out B1.out.size hB)
  replace R2 := Aside0.mk (Kd.R_below R2.out hB)
  replace C0 := Aside0.mk (Kd.C_below C0.out hB)
  clear hB B1 hR3
  go_wp2_with (fail)
  refine (nat_Shr.calls k2 A2 cp2 l0 a1 d de _ (room_read R2.out).2.1 (room_read R2.out).1 E2.out).mono ?_
  rintro e u3 ⟨v4, rfl, hR4, hB⟩
  obtain ⟨A4, cp4, rfl⟩ := Kd.R_slice hR4
  have R4 := Aside0.mk hR4
  have B3 := Aside0.mk (below_then B2.out B2.out.size hB)
  replace R2 := Aside0.mk (Kd.R_below R2.out hB)
  replace R3 := Aside0.mk (Kd.R_below R3.out hB)
  replace C0 := Aside0.mk (Kd.C_below C0.out hB)
  clear hB B2 hR4
  go_wp2_with (fail)
  refine (trammelref01_Shl.calls k3 a0 cap0 l0 a1 p pe _ C0.out L0.out E3.out).mono ?_
  rintro e u4 ⟨v5, rfl, hR5, hB⟩
  obtain ⟨A5, cp5, rfl⟩ := Kd.R_slice hR5
  have R5 := Aside0.mk hR5
  have B4 := Aside0.mk (below_then B3.out B3.out.size hB)
  replace R2 := Aside0.mk (Kd.R_below R2.out hB)
  replace R3 := Aside0.mk (Kd.R_below R3.out hB)
  replace R4 := Aside0.mk (Kd.R_below R4.out hB)
  replace C0 := Aside0.mk (Kd.C_below C0.out hB)
  clear hB B3 hR5
  go_wp2_with (fail)
  refine (trammelref01_Shr.calls k4 a0 cap0 l0 a1 d de _ C0.out L0.out E4.out).mono ?_
  rintro e u5 ⟨v6, rfl, hR6, hB⟩
  obtain ⟨A6, cp6, rfl⟩ := Kd.R_slice hR6
  have R6 := Aside0.mk hR6
  have B5 := Aside0.mk (below_then B4.out B4.out.size hB)
  replace R2 := Aside0.mk (Kd.R_below R2.out hB)
  replace R3 := Aside0.mk (Kd.R_below R3.out hB)
  replace R4 := Aside0.mk (Kd.R_below R4.out hB)
  replace R5 := Aside0.mk (Kd.R_below R5.out hB)
  replace C0 := Aside0.mk (Kd.C_below C0.out hB)
  clear hB B4 hR6
  go_wp2_with (fail)
  refine (trammellaw01_same.calls k5 A3 cp3 p A5 cp5 p true _ (Kd.R_reads' R3.out).2.2 (Kd.R_reads' R3.out).2.1 (Kd.R_reads' R5.out).2.2 (Kd.R_reads' R5.out).2.1 E5.out).mono ?_
  rintro e u6 ⟨rfl, hD⟩
  have hB := hD.below
  have B6 := Aside0.mk (below_then B5.out B5.out.size hB)
  replace R2 := Aside0.mk (Kd.R_below R2.out hB)
  replace R4 := Aside0.mk (Kd.R_below R4.out hB)
  replace R6 := Aside0.mk (Kd.R_below R6.out hB)
  replace C0 := Aside0.mk (Kd.C_below C0.out hB)
  clear hB hD B5 R3 R5
  go_wp2_with (fail)
  refine (trammellaw01_same.calls k6 A4 cp4 d A6 cp6 d true _ (Kd.R_reads' R4.out).2.2 (Kd.R_reads' R4.out).2.1 (Kd.R_reads' R6.out).2.2 (Kd.R_reads' R6.out).2.1 E6.out).mono ?_
  rintro e u7 ⟨rfl, hD⟩
  have hB := hD.below
  have B7 := Aside0.mk (below_then B6.out B6.out.size hB)
  replace R2 := Aside0.mk (Kd.R_below R2.out hB)
  replace C0 := Aside0.mk (Kd.C_below C0.out hB)
  clear hB hD B6 R4 R6
  go_wp2_with (fail)
  refine (kept_true A2 cp2 l0 a0 cap0 _ Y0.out (room_read R2.out).2.2.2 (room_read R2.out).2.2.1 C0.out L0.out (room_read R2.out).2.1 E9.out).mono ?_
  rintro e u8 ⟨rfl, hD⟩
  have hB := hD.below
  have B8 := Aside0.mk (below_then B7.out B7.out.size hB)
  clear hB hD B7 R2 C0
  go_wp2_with (fail)
  refine (trammellaw01_awake.calls k8 true _ E8.out).mono ?_
  rintro e u9 ⟨rfl, hB⟩
  have B9 := Aside0.mk (below_then B8.out B8.out.size hB)
  clear hB B8
  go_wp2_with (fail)
  go_ret
  exact ⟨rfl, by repeat (first | exact B9.out | apply below_drew1 | apply pw_below_drewN)⟩
end Go.Proofs.Ytnlkafjhbjlhaaa.PA
