/- The walk of the law NatQuotients over its callees' contracts: it answers true; for arguments of a bulk of at most 1048576. -/
import Derived.Test.YtnlkafjhbjlhaaaRoomK
import Derived.Test.YtnlkafjhbjlhaaaNatAwakeK
import Derived.Test.YtnlkafjhbjlhaaaNatDivK
import Derived.Test.YtnlkafjhbjlhaaaPAx10K
import Derived.Test.YtnlkafjhbjlhaaaPAx19K
import Derived.Test.YtnlkafjhbjlhaaaPAx9K
namespace Go.Proofs.Ytnlkafjhbjlhaaa.PA
open Go Go.Proofs.Ytnlkafjhbjlhaaa.Nums Go.RowKit Go.Proofs.YtnlkafjhbjlhaaaW.PrintWords Go.Proofs.YtnlkafjhbjlhaaaW.PrintLast Go.Proofs.YtnlkafjhbjlhaaaW.PrintMore
attribute [local go_sem] max2_int min2_int max_two min_two max_three min_three max_four min_four
set_option linter.unusedVariables false
set_option linter.unusedSimpArgs false
theorem div_lens {a b : List Int} (oa : Ok a) (ob : Ok b) (la : a.length ≤ 1048576) (lb : b.length ≤ 1048576) : (divR a b).1.length ≤ 1048576 ∧ (divR a b).2.1.length ≤ 1048576 := by
  unfold divR
  by_cases h : val b = 0
  · rw [if_pos h]; simp
  · rw [if_neg h]
    have ha := val_nonneg oa
    have hb := val_nonneg ob
    have h1 := val_lt oa
    have h2 := val_lt ob
    have h3 := Bp_le la
    have h4 := Bp_le lb
    have q0 : 0 ≤ val a / val b := Int.ediv_nonneg ha hb
    have q1 : val a / val b ≤ val a := Int.ediv_le_self _ ha
    have m0 := Int.emod_nonneg (val a) h
    have m1 := Int.emod_lt_of_pos (val a) (show 0 < val b by omega)
    exact ⟨lm_len_le q0 (by omega), lm_len_le m0 (by omega)⟩
set_option maxHeartbeats 8000000 in
set_option maxRecDepth 100000 in
theorem trammellaw01_NatQuotients.walk (a0 : Option Addr) (len0 cap0 : Nat) (z0 : List Int) (a1 : Option Addr) (len1 cap1 : Nat) (z1 : List Int) (w : World)
    (w0 : ((a0 = none ∧ len0 = 0 ∧ cap0 = 0 ∧ z0 = []) ∨ ∃ x, a0 = some x ∧ len0 ≤ cap0 ∧ cap0 ≤ maxLen ∧ z0.length = cap0 ∧ (∀ i, i < z0.length → w.cell? (x.add i) = some (.int .u32 (z0.getD i 0))) ∧ ∀ n ∈ z0, (Lit.int .u32 n).wf = true)) (y0 : len0 ≤ 1048576)
    (w1 : ((a1 = none ∧ len1 = 0 ∧ cap1 = 0 ∧ z1 = []) ∨ ∃ x, a1 = some x ∧ len1 ≤ cap1 ∧ cap1 ≤ maxLen ∧ z1.length = cap1 ∧ (∀ i, i < z1.length → w.cell? (x.add i) = some (.int .u32 (z1.getD i 0))) ∧ ∀ n ∈ z1, (Lit.int .u32 n).wf = true)) (y1 : len1 ≤ 1048576) :
    Calls Try.prog 3 #[.slice a0 len0 cap0, .slice a1 len1 cap1] w fun e w' => e = .returned (.bool true) ∧ Below w.heap.size w w' := by
  obtain ⟨l0, rfl, hr0, hm0, hw0, hc0⟩ := ReadsInt.ofRowC w0
  obtain ⟨l1, rfl, hr1, hm1, hw1, hc1⟩ := ReadsInt.ofRowC w1
  have o0 := ok_of hw0
  have o1 := ok_of hw1
  have C0 := Aside0.mk (C_ints hr0)
  have C1 := Aside0.mk (C_ints hr1)
  have CW0 := Aside0.mk (C_ints hr0)
  have CW1 := Aside0.mk (C_ints hr1)
  have L0 := Aside0.mk hc0
  have L1 := Aside0.mk hc1
  obtain ⟨k1, e1⟩ := (div_f l0 l1 o0 o1 (by omega) (by omega)).rounds
  obtain ⟨k2, e2⟩ := (rdiv_f l0 l1 o0 o1 (by omega) (by omega)).rounds
  have dl := div_lens o0 o1 y0 y1
  obtain ⟨⟨p, d, er⟩, hd⟩ : ∃ d, d = divR l0 l1 := ⟨_, rfl⟩
  rw [← hd] at e1 e2 dl
  obtain ⟨pl, dl2⟩ := dl
  have pl : p.length ≤ 1048576 := pl
  have dl2 : d.length ≤ 1048576 := dl2
  obtain ⟨k5, e5⟩ := same_rounds p (by omega)
  obtain ⟨k6, e6⟩ := same_rounds d (by omega)
  obtain ⟨k8, e8⟩ := awake_ev.rounds
  have s0 := same_rounds l0 (by omega)
  have s1 := same_rounds l1 (by omega)
  have E1 := Aside0.mk e1
  have E2 := Aside0.mk e2
  have E5 := Aside0.mk e5
  have E6 := Aside0.mk e6
  have E8 := Aside0.mk e8
  have E9 := Aside0.mk s0
  have E10 := Aside0.mk s1
  have Y0 := Aside0.mk y0
  have Y1 := Aside0.mk y1
  clear e1 e2 e5 e6 e8 s0 s1 hd o0 o1 hw0 hw1 hm0 hm1 hr0 hr1 hc0 hc1 w0 w1 y0 y1
  go_enter Try.func3, Try.ntmps3
  go_wp2_with (fail)
  refine (copied_calls a0 cap0 l0 l0 _ C0.out L0.out (copied_some l0 Y0.out)).mono ?_
  rintro e u1 ⟨A2, cp2, rfl, hR2, hB⟩
  have R2 := Aside0.mk hR2
  have B1 := Aside0.mk hB
  replace C0 := Aside0.mk (Kd.C_below C0.out hB)
  replace C1 := Aside0.mk (Kd.C_below C1.out hB)
  clear hB hR2
  go_wp2_with (fail)
  refine (copied_calls a1 cap1 l1 l1 _ C1.out L1.out (copied_some l1 Y1.out)).mono ?_
  rintro e u2 ⟨A3, cp3, rfl, hR3, hB⟩
  have R3 := Aside0.mk hR3
  have B2 := Aside0.mk (below_then B1.out B1.out.size hB)
  replace R2 := Aside0.mk (Kd.R_below R2.out hB)
  replace C0 := Aside0.mk (Kd.C_below C0.out hB)
  replace C1 := Aside0.mk (Kd.C_below C1.out hB)
  clear hB B1 hR3
  replace R2 := Aside0.mk (row_lt R2.out (Nat.le_refl _))
  replace R3 := Aside0.mk (row_lt R3.out (Nat.le_refl _))
  have T := Aside0.mk (show w.heap.size ≤ u2.heap.size from B2.out.size)
  go_wp2_with (fail)
  refine (nat_Div.calls k1 A2 cp2 l0 A3 cp3 l1 p d er _ (room_read (row_any R2.out)).2.1 (room_read (row_any R2.out)).1 (room_read (row_any R3.out)).2.1 (room_read (row_any R3.out)).1 E1.out).mono ?_
  rintro e u3 ⟨v4, v5, rfl, hR4, hR5, hB⟩
  obtain ⟨A4, cp4, rfl⟩ := Kd.R_slice hR4
  obtain ⟨A5, cp5, rfl⟩ := Kd.R_slice hR5
  have R4 := Aside0.mk (Kd.R_mono (Kd.R_bound hR4) (ok' := fun k => u2.heap.size ≤ k ∧ k < u3.heap.size) (fun k hk => ⟨hk.2.1, hk.2.2.1⟩))
  have R5 := Aside0.mk hR5
  have T3 := Aside0.mk (show u2.heap.size ≤ u3.heap.size from hB.size)
  have B3 := Aside0.mk (below_then B2.out B2.out.size hB)
  replace R2 := Aside0.mk (Kd.R_below R2.out hB)
  replace R3 := Aside0.mk (Kd.R_below R3.out hB)
  replace C0 := Aside0.mk (Kd.C_below C0.out hB)
  replace C1 := Aside0.mk (Kd.C_below C1.out hB)
  clear hB B2 hR4 hR5
  go_wp2_with (fail)
  refine (trammelref01_Div.calls k2 a0 cap0 l0 a1 cap1 l1 p d er _ C0.out L0.out C1.out L1.out E2.out).mono ?_
  rintro e u4 ⟨v6, v7, rfl, hR6, hR7, hB⟩
  obtain ⟨A6, cp6, rfl⟩ := Kd.R_slice hR6
  obtain ⟨A7, cp7, rfl⟩ := Kd.R_slice hR7
  have R6 := Aside0.mk (row_any hR6)
  have R7 := Aside0.mk (row_ge hR7)
  have B4 := Aside0.mk (below_then B3.out B3.out.size hB)
  replace R2 := Aside0.mk (Kd.R_below R2.out hB)
  replace R3 := Aside0.mk (Kd.R_below R3.out hB)
  replace R4 := Aside0.mk (Kd.R_below R4.out hB)
  replace R5 := Aside0.mk (Kd.R_below R5.out hB)
  replace C0 := Aside0.mk (Kd.C_below C0.out hB)
  replace C1 := Aside0.mk (Kd.C_below C1.out hB)
  clear hB B3 hR6 hR7
  go_wp2_with (fail)
  refine (trammellaw01_same.calls k5 A4 cp4 p A6 cp6 p true _ (Kd.R_reads' R4.out).2.2 (Kd.R_reads' R4.out).2.1 (Kd.R_reads' R6.out).2.2 (Kd.R_reads' R6.out).2.1 E5.out).mono ?_
  rintro e u5 ⟨rfl, hD⟩
  have hB := hD.below
  have B5 := Aside0.mk (below_then B4.out B4.out.size hB)
  replace R2 := Aside0.mk (Kd.R_below R2.out hB)
  replace R3 := Aside0.mk (Kd.R_below R3.out hB)
  replace R4 := Aside0.mk (Kd.R_below R4.out hB)
  replace R5 := Aside0.mk (Kd.R_below R5.out hB)
  replace R7 := Aside0.mk (Kd.R_below R7.out hB)
  clear hB hD B4 R6 C0 C1
  go_wp2_with (fail)
  refine (trammellaw01_same.calls k6 A5 cp5 d A7 cp7 d true _ (Kd.R_reads' R5.out).2.2 (Kd.R_reads' R5.out).2.1 (Kd.R_reads' R7.out).2.2 (Kd.R_reads' R7.out).2.1 E6.out).mono ?_
  rintro e u6 ⟨rfl, hD⟩
  have hB := hD.below
  have B6 := Aside0.mk (below_then B5.out B5.out.size hB)
  replace R2 := Aside0.mk (Kd.R_below R2.out hB)
  replace R3 := Aside0.mk (Kd.R_below R3.out hB)
  replace R4 := Aside0.mk (Kd.R_below R4.out hB)
  replace R5 := Aside0.mk (Kd.R_below R5.out hB)
  replace R7 := Aside0.mk (Kd.R_below R7.out hB)
  clear hB hD B5
  go_wp2_with (fail)
  refine (trammellaw01_awake.calls k8 true _ E8.out).mono ?_
  rintro e u7 ⟨rfl, hB⟩
  have B7 := Aside0.mk (below_then B6.out B6.out.size hB)
  replace R2 := Aside0.mk (Kd.R_below R2.out hB)
  replace R3 := Aside0.mk (Kd.R_below R3.out hB)
  replace R4 := Aside0.mk (Kd.R_below R4.out hB)
  replace R5 := Aside0.mk (Kd.R_below R5.out hB)
  replace R7 := Aside0.mk (Kd.R_below R7.out hB)
  clear hB B6
  go_wp2_with (fail)
  go_loopw [51] (fun v1 wr => ∃ (n : Nat) (ys : List Int), n ≤ p.length ∧ v1 = .int .i64 n ∧ Aside0 (Kd.R (Kd.int .u32) 31 wr w.heap.size (fun k => k < u2.heap.size) (.slice A2 (l0.length + 3) cp2) (l0 ++ [77, 78, 79])) ∧ Aside0 (Kd.R (Kd.int .u32) 31 wr u1.heap.size (fun k => k < u2.heap.size) (.slice A3 (l1.length + 3) cp3) (l1 ++ [77, 78, 79])) ∧ Aside0 (Kd.R (Kd.int .u32) 31 wr u2.heap.size (fun k => u2.heap.size ≤ k ∧ k < u3.heap.size) (.slice A4 p.length cp4) ys) ∧ Aside0 (Kd.R (Kd.int .u32) 31 wr u2.heap.size (fun k => some k ≠ (Value.slice A4 p.length cp4).ownBlock) (.slice A5 d.length cp5) d) ∧ Aside0 (Kd.R (Kd.int .u32) 31 wr u3.heap.size (fun k => u3.heap.size ≤ k) (.slice A7 d.length cp7) d) ∧ Aside0 (Below w.heap.size w wr)) (fun v1 _ => p.length - (intOf v1).toNat)
  case atStart => exact ⟨0, p, Nat.zero_le _, rfl, ⟨by (with_reducible repeat (first | apply Kd.R_drewN | apply Kd.R_drew)); exact R2.out⟩, ⟨by (with_reducible repeat (first | apply Kd.R_drewN | apply Kd.R_drew)); exact R3.out⟩, ⟨by (with_reducible repeat (first | apply Kd.R_drewN | apply Kd.R_drew)); exact R4.out⟩, ⟨by (with_reducible repeat (first | apply Kd.R_drewN | apply Kd.R_drew)); exact R5.out⟩, ⟨by (with_reducible repeat (first | apply Kd.R_drewN | apply Kd.R_drew)); exact R7.out⟩, ⟨by repeat (first | exact B7.out | apply below_drew1 | apply pw_below_drewN)⟩⟩
  case round =>
    clear R2 R3 R4 R5 R7 B7
    obtain ⟨n, ys, hn, rfl, R2, R3, R4, R5, R7, B⟩ := hrel
    by_cases hlt : n < p.length
    · obtain ⟨g, hA, hg, ⟨v, hcell⟩, hfr, hst⟩ := fill_ok R4.out n hlt
      subst hA
      have F := Aside0.mk (hst 5)
      have G := Aside0.mk hg
      clear hst hg
      go_wp2
      go_roundw
      case rel => exact ⟨n + 1, ys.set n 5, hlt, by go_num, ⟨row_grown R2.out F.out.2 G.out.1⟩, ⟨row_grown R3.out F.out.2 G.out.1⟩, ⟨F.out.1⟩, ⟨Kd.R_grown R5.out F.out.2 (fun k hk e => hk e)⟩, ⟨row_up R7.out F.out.2 G.out.2.2⟩, ⟨below_fill B.out G.out.1 T.out⟩⟩
      case measure => simp [intOf]; omega
    · clear R4
      go_wp2_with (fail)
      refine (trammellaw01_same.calls k6 A5 cp5 d A7 cp7 d true _ (Kd.R_reads' R5.out).2.2 (Kd.R_reads' R5.out).2.1 (Kd.R_reads' R7.out).2.2 (Kd.R_reads' R7.out).2.1 E6.out).mono ?_
      rintro e u19 ⟨rfl, hD⟩
      have hB := hD.below
      have B19 := Aside0.mk (below_then B.out B.out.size hB)
      replace R2 := Aside0.mk (Kd.R_below R2.out hB)
      replace R3 := Aside0.mk (Kd.R_below R3.out hB)
      clear hD hB
      go_wp2_with (fail)
      refine (kept_true A2 cp2 l0 a0 cap0 _ Y0.out (room_read (row_any R2.out)).2.2.2 (room_read (row_any R2.out)).2.2.1 (Kd.C_below CW0.out B19.out) L0.out (room_read (row_any R2.out)).2.1 E9.out).mono ?_
      rintro e u20 ⟨rfl, hD⟩
      have hB := hD.below
      have B20 := Aside0.mk (below_then B19.out B19.out.size hB)
      replace R3 := Aside0.mk (Kd.R_below R3.out hB)
      clear hD hB
      go_wp2_with (fail)
      refine (kept_true A3 cp3 l1 a1 cap1 _ Y1.out (room_read (row_any R3.out)).2.2.2 (room_read (row_any R3.out)).2.2.1 (Kd.C_below CW1.out B20.out) L1.out (room_read (row_any R3.out)).2.1 E10.out).mono ?_
      rintro e u21 ⟨rfl, hD⟩
      have B21 := Aside0.mk (below_then B20.out B20.out.size hD.below)
      clear hD
      go_wp2_with (fail)
      go_ret
      exact ⟨rfl, by repeat (first | exact B21.out | apply below_drew1 | apply pw_below_drewN)⟩
end Go.Proofs.Ytnlkafjhbjlhaaa.PA
