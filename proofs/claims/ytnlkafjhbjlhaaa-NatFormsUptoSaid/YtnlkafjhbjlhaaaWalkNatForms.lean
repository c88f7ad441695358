/- The walk of the law NatForms over its callees' contracts: it answers true; for arguments of a bulk of at most 1048576. -/
import Derived.Test.YtnlkafjhbjlhaaaRoom
import Derived.Test.YtnlkafjhbjlhaaaNatAwake
import Derived.Test.YtnlkafjhbjlhaaaNatBits
import Derived.Test.YtnlkafjhbjlhaaaNatR2
import Derived.Test.YtnlkafjhbjlhaaaNatB
import Derived.Test.YtnlkafjhbjlhaaaPAx1
import Derived.Test.YtnlkafjhbjlhaaaPAx10
import Derived.Test.YtnlkafjhbjlhaaaPAx11
import Derived.Test.YtnlkafjhbjlhaaaPAx2
import Derived.Test.YtnlkafjhbjlhaaaPAx5
import Derived.Test.YtnlkafjhbjlhaaaPAx6
namespace Go.Proofs.Ytnlkafjhbjlhaaa.PA
open Go Go.Proofs.Ytnlkafjhbjlhaaa.Nums Go.RowKit Go.Proofs.YtnlkafjhbjlhaaaW.PrintWords Go.Proofs.YtnlkafjhbjlhaaaW.PrintLast Go.Proofs.YtnlkafjhbjlhaaaW.PrintMore
attribute [local go_sem] max2_int min2_int max_two min_two max_three min_three max_four min_four
set_option linter.unusedVariables false
set_option linter.unusedSimpArgs false
set_option maxHeartbeats 8000000 in
set_option maxRecDepth 100000 in
theorem trammellaw01_NatForms.walk (a0 : Option Addr) (len0 cap0 : Nat) (z0 : List Int) (a1 : Option Addr) (len1 cap1 : Nat) (z1 : List Int) (w : World)
    (w0 : (a0 = none ∧ len0 = 0 ∧ cap0 = 0 ∧ z0 = []) ∨ ∃ x, a0 = some x ∧ len0 ≤ cap0 ∧ cap0 ≤ maxLen ∧ z0.length = cap0 ∧ (∀ i, i < z0.length → w.cell? (x.add i) = some (.int .u32 (z0.getD i 0))) ∧ ∀ n ∈ z0, (Lit.int .u32 n).wf = true) (y0 : len0 ≤ 1048576)
    (w1 : (a1 = none ∧ len1 = 0 ∧ cap1 = 0 ∧ z1 = []) ∨ ∃ x, a1 = some x ∧ len1 ≤ cap1 ∧ cap1 ≤ maxLen ∧ z1.length = cap1 ∧ (∀ i, i < z1.length → w.cell? (x.add i) = some (.int .u32 (z1.getD i 0))) ∧ ∀ n ∈ z1, (Lit.int .u32 n).wf = true) (y1 : len1 ≤ 1048576) :
    Calls Try.prog 4 #[.slice a0 len0 cap0, .slice a1 len1 cap1] w fun e w' => e = .returned (.bool true) ∧ Below w.heap.size w w' := by
  obtain ⟨l0, rfl, hr0, hm0, hw0, hc0⟩ := ReadsInt.ofRowC w0
  obtain ⟨l1, rfl, hr1, hm1, hw1, hc1⟩ := ReadsInt.ofRowC w1
  have o0 := ok_of hw0
  have o1 := ok_of hw1
  have C0 := Aside0.mk (C_ints hr0)
  have CW := Aside0.mk (C_ints hr0)
  have C1 := Aside0.mk (C_ints hr1)
  have L0 := Aside0.mk hc0
  have L1 := Aside0.mk hc1
  have tl := trim_len l0
  obtain ⟨k1, e1⟩ := (norm_f l0 (by omega)).rounds
  obtain ⟨k2, e2⟩ := (rnorm_f l0 (by omega)).rounds
  obtain ⟨k3, e3⟩ := same_rounds (trim l0) (by omega)
  obtain ⟨k4, e4⟩ := (cmp_f l0 l1 o0 o1 (by omega) (by omega)).rounds
  obtain ⟨k5, e5⟩ := (rcmp_f l0 l1 o0 o1 (by omega) (by omega)).rounds
  obtain ⟨k6, e6⟩ := (bits_f l0 o0 (by omega)).rounds
  obtain ⟨k7, e7⟩ := (rbits_f l0 o0 (by omega)).rounds
  obtain ⟨k8, e8⟩ := awake_ev.rounds
  have s0 := same_rounds l0 (by omega)
  obtain ⟨p, hp⟩ : ∃ p, p = trim l0 := ⟨_, rfl⟩
  obtain ⟨c, hc⟩ : ∃ c, c = cmp (val l0) (val l1) := ⟨_, rfl⟩
  obtain ⟨b, hb⟩ : ∃ b, b = ((bl (val l0).toNat : Nat) : Int) := ⟨_, rfl⟩
  rw [← hp] at e1 e2 e3 tl
  rw [← hc] at e4 e5
  rw [← hb] at e6 e7
  have E1 := Aside0.mk e1
  have E2 := Aside0.mk e2
  have E3 := Aside0.mk e3
  have E4 := Aside0.mk e4
  have E5 := Aside0.mk e5
  have E6 := Aside0.mk e6
  have E7 := Aside0.mk e7
  have E8 := Aside0.mk e8
  have E9 := Aside0.mk s0
  have Y0 := Aside0.mk y0
  have Y1 := Aside0.mk y1
  have hpl : p.length ≤ 1048576 := by omega
  clear e1 e2 e3 e4 e5 e6 e7 e8 s0 hp hc hb tl o0 o1 hw0 hw1 hm0 hm1 hr0 hr1 hc0 hc1 w0 w1 y0 y1
  go_enter Try.func4, Try.ntmps4
  go_wp2_with (fail)
  refine (copied_calls a0 cap0 l0 l0 _ C0.out L0.out (copied_some l0 Y0.out)).mono ?_
  rintro e u1 ⟨A2, cp2, rfl, hR2, hB⟩
  have R2 := Aside0.mk hR2
  have B1 := Aside0.mk hB
  replace C0 := Aside0.mk (Kd.C_below C0.out hB)
  replace C1 := Aside0.mk (Kd.C_below C1.out hB)
  clear hR2 hB
  go_wp2_with (fail)
  refine (nat_Norm.calls k1 A2 cp2 l0 p _ (room_read R2.out).2.1 (room_read R2.out).1 E1.out).mono ?_
  rintro e u2 ⟨v4, rfl, hR4, hB⟩
  obtain ⟨A4, cp4, rfl⟩ := Kd.R_slice hR4
  have R4 := Aside0.mk hR4
  have B2 := Aside0.mk (below_then B1.out B1.out.size hB)
  have S2 := Aside0.mk (Kd.R_below (row_lt R2.out (Nat.le_refl _)) hB)
  have T2 := Aside0.mk (show w.heap.size ≤ u1.heap.size from B1.out.size)
  replace C0 := Aside0.mk (Kd.C_below C0.out hB)
  replace C1 := Aside0.mk (Kd.C_below C1.out hB)
  clear hR4 hB B1 R2
  go_wp2_with (fail)
  refine (trammelref01_Norm.calls k2 a0 cap0 l0 p _ C0.out L0.out E2.out).mono ?_
  rintro e u3 ⟨v5, rfl, hR5, hB⟩
  obtain ⟨A5, cp5, rfl⟩ := Kd.R_slice hR5
  have R5 := Aside0.mk hR5
  have B3 := Aside0.mk (below_then B2.out B2.out.size hB)
  replace S2 := Aside0.mk (Kd.R_below S2.out hB)
  replace R4 := Aside0.mk (Kd.R_below R4.out hB)
  replace C0 := Aside0.mk (Kd.C_below C0.out hB)
  replace C1 := Aside0.mk (Kd.C_below C1.out hB)
  clear hR5 hB B2
  go_wp2_with (fail)
  refine (trammellaw01_same.calls k3 A4 cp4 p A5 cp5 p true _ (Kd.R_reads' R4.out).2.2 (Kd.R_reads' R4.out).2.1 (Kd.R_reads' R5.out).2.2 (Kd.R_reads' R5.out).2.1 E3.out).mono ?_
  rintro e u4 ⟨rfl, hD⟩
  have hB := hD.below
  have B4 := Aside0.mk (below_then B3.out B3.out.size hB)
  replace S2 := Aside0.mk (Kd.R_below S2.out hB)
  replace R4 := Aside0.mk (Kd.R_below R4.out hB)
  replace C0 := Aside0.mk (Kd.C_below C0.out hB)
  replace C1 := Aside0.mk (Kd.C_below C1.out hB)
  clear hB hD B3 R5
  go_wp2_with (fail)
  refine (nat_Cmp.calls k4 A2 cp2 l0 a1 cap1 l1 c _ (room_read (row_any S2.out)).2.1 (room_read (row_any S2.out)).1 C1.out L1.out E4.out).mono ?_
  rintro e u5 ⟨rfl, hB⟩
  have B5 := Aside0.mk (below_then B4.out B4.out.size hB)
  replace S2 := Aside0.mk (Kd.R_below S2.out hB)
  replace R4 := Aside0.mk (Kd.R_below R4.out hB)
  replace C0 := Aside0.mk (Kd.C_below C0.out hB)
  replace C1 := Aside0.mk (Kd.C_below C1.out hB)
  clear hB B4
  go_wp2_with (fail)
  refine (trammelref01_Cmp.calls k5 a0 cap0 l0 a1 cap1 l1 c _ C0.out L0.out C1.out L1.out E5.out).mono ?_
  rintro e u6 ⟨rfl, hD⟩
  have hB := hD.below
  have B6 := Aside0.mk (below_then B5.out B5.out.size hB)
  replace S2 := Aside0.mk (Kd.R_below S2.out hB)
  replace R4 := Aside0.mk (Kd.R_below R4.out hB)
  replace C0 := Aside0.mk (Kd.C_below C0.out hB)
  clear hB hD B5 C1
  go_wp2_with (fail)
  refine (nat_Bits.calls k6 A2 cp2 l0 b _ (room_read (row_any S2.out)).2.1 (room_read (row_any S2.out)).1 E6.out).mono ?_
  rintro e u7 ⟨rfl, hB⟩
  have B7 := Aside0.mk (below_then B6.out B6.out.size hB)
  replace S2 := Aside0.mk (Kd.R_below S2.out hB)
  replace R4 := Aside0.mk (Kd.R_below R4.out hB)
  replace C0 := Aside0.mk (Kd.C_below C0.out hB)
  clear hB B6
  go_wp2_with (fail)
  refine (trammelref01_Bits.calls k7 a0 cap0 l0 b _ C0.out L0.out E7.out).mono ?_
  rintro e u8 ⟨rfl, hD⟩
  have hB := hD.below
  have B8 := Aside0.mk (below_then B7.out B7.out.size hB)
  replace S2 := Aside0.mk (Kd.R_below S2.out hB)
  replace R4 := Aside0.mk (Kd.R_below R4.out hB)
  replace C0 := Aside0.mk (Kd.C_below C0.out hB)
  clear hB hD B7
  go_wp2_with (fail)
  refine (trammellaw01_awake.calls k8 true _ E8.out).mono ?_
  rintro e u9 ⟨rfl, hB⟩
  have B9 := Aside0.mk (below_then B8.out B8.out.size hB)
  replace S2 := Aside0.mk (Kd.R_below S2.out hB)
  replace R4 := Aside0.mk (Kd.R_below R4.out hB)
  replace C0 := Aside0.mk (Kd.C_below C0.out hB)
  clear hB B8
  go_wp2_with (fail)
  go_loopw [38] (fun v38 wr => ∃ (n : Nat) (ys : List Int), n ≤ p.length ∧ v38 = .int .i64 n ∧ Aside0 (Kd.R (Kd.int .u32) 31 wr w.heap.size (fun k => k < u1.heap.size) (.slice A2 (l0.length + 3) cp2) (l0 ++ [77, 78, 79])) ∧ Aside0 (Kd.R (Kd.int .u32) 31 wr u1.heap.size (fun _ => True) (.slice A4 p.length cp4) ys) ∧ Aside0 (Below w.heap.size w wr)) (fun v38 _ => p.length - (intOf v38).toNat)
  case atStart => exact ⟨0, p, Nat.zero_le _, rfl, ⟨by (with_reducible repeat (first | apply Kd.R_drewN | apply Kd.R_drew)); exact S2.out⟩, ⟨by (with_reducible repeat (first | apply Kd.R_drewN | apply Kd.R_drew)); exact R4.out⟩, ⟨by repeat (first | exact B9.out | apply below_drew1 | apply pw_below_drewN)⟩⟩
  case round =>
    obtain ⟨n, ys, hn, rfl, S, R, B⟩ := hrel
    by_cases hlt : n < p.length
    · obtain ⟨g, hA, hg, ⟨v, hcell⟩, hfr, hst⟩ := fill_step R.out n hlt
      subst hA
      have F := Aside0.mk (hst 5)
      have G := Aside0.mk hg
      clear hst hg
      go_wp2
      go_roundw
      case rel => exact ⟨n + 1, ys.set n 5, hlt, by go_num, ⟨row_grown S.out F.out.2 G.out⟩, ⟨F.out.1⟩, ⟨below_fill B.out G.out T2.out⟩⟩
      case measure => simp [intOf]; omega
    · go_wp2_with (fail)
      refine (kept_true A2 cp2 l0 a0 cap0 _ Y0.out (room_read (row_any S.out)).2.2.2 (room_read (row_any S.out)).2.2.1 (Kd.C_below CW.out B.out) L0.out (room_read (row_any S.out)).2.1 E9.out).mono ?_
      rintro e u10 ⟨rfl, hD⟩
      have B10 := Aside0.mk (below_then B.out B.out.size hD.below)
      clear hD
      go_wp2_with (fail)
      go_ret
      exact ⟨rfl, by repeat (first | exact B10.out | apply below_drew1 | apply pw_below_drewN)⟩
end Go.Proofs.Ytnlkafjhbjlhaaa.PA
