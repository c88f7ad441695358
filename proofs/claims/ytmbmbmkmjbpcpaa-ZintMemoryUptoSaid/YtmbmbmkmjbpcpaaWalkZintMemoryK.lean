/- The walk of the law ZintMemory: what its code answers for arguments of a bulk of at most 1048576. -/
import Derived.Outline
import Derived.Test.YtmbmbmkmjbpcpaaZMem5K
import Derived.Test.YtmbmbmkmjbpcpaaZIK
import Derived.Test.YtmbmbmkmjbpcpaaZEK
import Derived.Test.YtmbmbmkmjbpcpaaZDK
import Derived.Test.YtmbmbmkmjbpcpaaPAx0K
namespace Go.Proofs.Ytmbmbmkmjbpcpaa.PA
open Go Go.Proofs.Ytmbmbmkmjbpcpaa.Nums Go.RowKit Go.Proofs.YtmbmbmkmjbpcpaaW.PrintWords Go.Proofs.YtmbmbmkmjbpcpaaW.PrintLast Go.Proofs.YtmbmbmkmjbpcpaaW.PrintMore
set_option linter.unusedVariables false
set_option linter.unusedSimpArgs false
theorem run_cast {P : Program} {a : Act} {o : Oper} {W : World} {b b' : Bool} (h : (execOp a.eval o).run P W = .ok (.value (.bool b)) W) (e : b = b') : (execOp a.eval o).run P W = .ok (.value (.bool b')) W := e ▸ h
theorem Bd.pow {z n : Int} : Bd 65537 (powZ z n) := by
  have h0 : Bd 65537 0 := (Bd.lit (k := 1) (z := 0) (by decide)).mono (by omega)
  unfold powZ
  split
  · exact h0
  · split
    · exact h0
    · rename_i h1 h2
      by_cases hz : z = 0
      · subst hz
        by_cases hn : n.toNat = 0
        · rw [hn, Int.pow_zero]
          exact (Bd.lit (k := 1) (z := 1) (by decide)).mono (by omega)
        · rw [show n.toNat = (n.toNat - 1) + 1 by omega, Int.pow_succ, Int.mul_zero]
          exact h0
      · exact pow_bd hz (by simpa using h2) (by omega)
theorem Bd.shift {k : Nat} {z n : Int} (h : Bd k z) : Bd (k + 65537) (shiftZ z n) := by
  unfold shiftZ
  split
  · exact (Bd.lit (k := 1) (z := 0) (by decide)).mono (by omega)
  · split
    · exact h.mul (Bd.two (by omega))
    · exact (fdiv_bd h).mono (by omega)
theorem zint_Power.sem {w : World} {b1 : Bool} {v1 : Value} {z1 n : Int} (m1 : NumV w b1 v1 z1) (hb1 : Bd 100000000 z1) (hn : n ≤ 9223372036854775807) : Calls Try.prog 61 #[.agg #[.bool b1, v1], .int .i64 n] w (ResIi w (powZ z1 n) (.int .i64 (powE z1 n))) := by
  by_cases h0 : z1 = 0
  · exact zint_Power.sem0 m1 hb1 hn h0
  · exact zint_Power.semN m1 hb1 hn h0
set_option maxHeartbeats 8000000 in
set_option maxRecDepth 100000 in
theorem trammellaw02_ZintMemory.walk (b0 : Bool) (a0 : Option Addr) (len0 cap0 : Nat) (q0 : List Int) (b1 : Bool) (a1 : Option Addr) (len1 cap1 : Nat) (q1 : List Int) (w : World) (w0 : bulks.IsRow .u32 w a0 len0 cap0 q0) (y0 : len0 ≤ 1048576) (w1 : bulks.IsRow .u32 w a1 len1 cap1 q1) (y1 : len1 ≤ 1048576) : Calls Try.prog 13 #[.agg #[.bool b0, .slice a0 len0 cap0], .agg #[.bool b1, .slice a1 len1 cap1]] w (RetV w (.bool true)) := by
  obtain ⟨l0, r0, o0, hl0⟩ := row_rd w0 y0
  obtain ⟨x0, N0, F0, hx0⟩ := arg_num (b := b0) o0 hl0
  obtain ⟨l1, r1, o1, hl1⟩ := row_rd w1 y1
  obtain ⟨x1, N1, F1, hx1⟩ := arg_num (b := b1) o1 hl1
  have hq0 : len0 = l0.length := by
    obtain ⟨A', c', e', -⟩ := id r0
    injection e'
  have hq1 : len1 = l1.length := by
    obtain ⟨A', c', e', -⟩ := id r1
    injection e'
  have Z := Zt.start w (r0.has.append r1.has)
  obtain ⟨tt, htt⟩ : ∃ b : Bool, b = true := ⟨true, rfl⟩
  obtain ⟨ff, hff⟩ : ∃ b : Bool, b = false := ⟨false, rfl⟩
  go_enter Try.func13, Try.ntmps13
  refine wp_seq ?_
  refine wp_region_list ?_
  refine seq_box Z rfl rfl rfl ?_; clear Z; intro g1 W Z
  (try simp only [Act.put, List.setIfInBounds_toArray, List.set_cons_zero, List.set_cons_succ])
  refine seq_box Z rfl rfl rfl ?_; clear Z; intro g2 W Z
  (try simp only [Act.put, List.setIfInBounds_toArray, List.set_cons_zero, List.set_cons_succ])
  refine seq_is (v := .bool (false)) rfl (run_assign rfl rfl) ?_
  (try simp only [Act.put, List.setIfInBounds_toArray, List.set_cons_zero, List.set_cons_succ])
  show Code.wp _ _ _ _ _
  refine wp_seq ?_
  refine wp_seq ?_
  refine wp_region_list ?_
  refine seq_call Z rfl rfl Try.func44 rfl rfl (show Array.map _ #[] = #[] by simp) (Z.callV (trammellaw02_alive.sem _)) ?_; clear Z; intro x3 W Z
  (try simp only [Act.put, List.setIfInBounds_toArray, List.set_cons_zero, List.set_cons_succ])
  refine seq_is (v := .bool (!(true))) rfl (run_not rfl rfl) ?_
  (try simp only [Act.put, List.setIfInBounds_toArray, List.set_cons_zero, List.set_cons_succ])
  show Code.wp _ _ _ _ _
  refine wp_cond_false rfl ?_
  refine wp_skip ?_
  show Code.wp _ _ _ _ _
  refine wp_seq ?_
  refine wp_dag (pre := [_, _, _, _, _, _]) (sps := [.is (.agg #[.bool (b0), .slice a0 len0 cap0]), spL w (l0 ++ mks 40), .is (.agg #[.bool (b1), .slice a1 len1 cap1]), spL w (l1 ++ mks 40), spL w (l0 ++ mks 40), spL w (l1 ++ mks 40)]) Z (by kernel_rfl) _ rfl (by kernel_rfl) (by kernel_rfl) rfl ⟨?_, ?_, ?_, ?_, ?_, ?_, trivial⟩ ?_
  · intro a e4 W Q Z; exact step_is (fun _ h => op_plain rfl rfl h) (run_load2 rfl (ev e4) (Z.bx 1 rfl))
  · intro a x6 e7 W Q Z; exact step_call (fun _ h => op_plain rfl rfl h) rfl Try.func65 rfl rfl (args1 (ev e7)) (Z.callL (room_walk (Z.rd 0 rfl) hl0))
  · intro a e9 W Q Z; exact step_is (fun _ h => op_plain rfl rfl h) (run_load2 rfl (ev e9) (Z.bx 0 rfl))
  · intro a x11 e12 W Q Z; exact step_call (fun _ h => op_plain rfl rfl h) rfl Try.func65 rfl rfl (args1 (ev e12)) (Z.callL (room_walk (Z.rd 1 rfl) hl1))
  · intro a x14 e15 W Q Z; exact step_val x14 (fun _ h => op_plain rfl rfl h) (run_assign rfl (ev e15)) (has_one (Z.has 0 rfl))
  · intro a x17 e18 W Q Z; exact step_val x17 (fun _ h => op_plain rfl rfl h) (run_assign rfl (ev e18)) (has_one (Z.has 0 rfl))
  clear Z; intro x5 x8 x10 x13 x16 x19 W Z
  (try simp only [Act.put, List.setIfInBounds_toArray, List.set_cons_zero, List.set_cons_succ])
  show Code.wp _ _ _ _ _
  refine wp_seq ?_
  have hR0 := Z.row 1 rfl
  obtain ⟨hu0, hc0, -⟩ := Kd.R_reads' hR0
  have hl0' : len0 ≤ x16.2.1 := by rw [hu0, List.length_append, mk_len]; omega
  have hT0 := Kd.R_take (m := len0) hR0 (by rw [List.length_append]; omega)
  rw [show List.take len0 (l0 ++ mks 40) = l0 by rw [hq0]; exact List.take_left] at hT0
  replace Z := Z.more (has_row hT0 (Nat.le_refl _))
  have hR1 := Z.row 1 rfl
  obtain ⟨hu1, hc1, -⟩ := Kd.R_reads' hR1
  have hl1' : len1 ≤ x19.2.1 := by rw [hu1, List.length_append, mk_len]; omega
  have hT1 := Kd.R_take (m := len1) hR1 (by rw [List.length_append]; omega)
  rw [show List.take len1 (l1 ++ mks 40) = l1 by rw [hq1]; exact List.take_left] at hT1
  replace Z := Z.more (has_row hT1 (Nat.le_refl _))
  refine wp_dag (pre := [_, _, _, _, _, _, _, _, _]) (sps := [.is (.pointer (some ⟨g1, 0, none⟩)), .is (.bool (b0)), .is (x16.v), .is (.pointer (some ⟨g1, 1, none⟩)), .is (.slice a0 len0 cap0), .is (.int .i64 (((len0 : Nat) : Int))), .is (.slice x16.1 len0 x16.2.2), .is (.agg #[.bool (b0), .slice x16.1 len0 x16.2.2]), .box 25 #[.bool false, .slice none 0 0]]) Z (by kernel_rfl) _ rfl (by kernel_rfl) (by kernel_rfl) rfl ⟨?_, ?_, ?_, ?_, ?_, ?_, ?_, ?_, ?_, trivial⟩ ?_
  · intro a e20 W Q Z; exact step_is (fun _ h => op_plain rfl rfl h) (run_field0 rfl (ev e20))
  · intro a x22 e23 W Q Z; exact step_is (fun _ h => op_plain rfl rfl h) (run_loadN rfl (ev e23) (Z.bx 1 rfl))
  · intro a e25 W Q Z; exact step_is (fun _ h => op_plain rfl rfl h) (run_move rfl (ev e25))
  · intro a e27 W Q Z; exact step_is (fun _ h => op_plain rfl rfl h) (run_field1 rfl (ev e27))
  · intro a x29 e30 W Q Z; exact step_is (fun _ h => op_plain rfl rfl h) (run_loadM rfl (ev e30) (Z.bx 1 rfl))
  · intro a x32 e33 W Q Z; exact step_is (fun _ h => op_plain rfl rfl h) (run_len rfl (ev e33))
  · intro a x35 e36 x37 e38 W Q Z; exact step_is (fun _ h => op_plain rfl rfl h) (run_cut rfl (ev e36) (ev e38) hl0' hc0)
  · intro a x40 e41 x42 e43 W Q Z; exact step_is (fun _ h => op_plain rfl rfl h) (run_build2 rfl (ev e41) (ev e43))
  · intro a W Q Z; exact step_box (fun _ h => op_plain rfl rfl h) (by decide) (run_alloc2 rfl)
  clear Z; intro x21 x24 x26 x28 x31 x34 x39 x44 g45 W Z
  (try simp only [Act.put, List.setIfInBounds_toArray, List.set_cons_zero, List.set_cons_succ])
  refine seq_store Z 0 rfl rfl rfl rfl rfl ?_; clear Z; intro W Z
  (try simp only [Act.put, List.setIfInBounds_toArray, List.set_cons_zero, List.set_cons_succ])
  show Code.wp _ _ _ _ _
  refine wp_seq ?_
  refine wp_dag (pre := [_, _, _, _, _, _, _, _, _]) (sps := [.is (.pointer (some ⟨g2, 0, none⟩)), .is (.bool (b1)), .is (x19.v), .is (.pointer (some ⟨g2, 1, none⟩)), .is (.slice a1 len1 cap1), .is (.int .i64 (((len1 : Nat) : Int))), .is (.slice x19.1 len1 x19.2.2), .is (.agg #[.bool (b1), .slice x19.1 len1 x19.2.2]), .box 25 #[.bool false, .slice none 0 0]]) Z (by kernel_rfl) _ rfl (by kernel_rfl) (by kernel_rfl) rfl ⟨?_, ?_, ?_, ?_, ?_, ?_, ?_, ?_, ?_, trivial⟩ ?_
  · intro a e46 W Q Z; exact step_is (fun _ h => op_plain rfl rfl h) (run_field0 rfl (ev e46))
  · intro a x48 e49 W Q Z; exact step_is (fun _ h => op_plain rfl rfl h) (run_loadN rfl (ev e49) (Z.bx 1 rfl))
  · intro a e51 W Q Z; exact step_is (fun _ h => op_plain rfl rfl h) (run_move rfl (ev e51))
  · intro a e53 W Q Z; exact step_is (fun _ h => op_plain rfl rfl h) (run_field1 rfl (ev e53))
  · intro a x55 e56 W Q Z; exact step_is (fun _ h => op_plain rfl rfl h) (run_loadM rfl (ev e56) (Z.bx 1 rfl))
  · intro a x58 e59 W Q Z; exact step_is (fun _ h => op_plain rfl rfl h) (run_len rfl (ev e59))
  · intro a x61 e62 x63 e64 W Q Z; exact step_is (fun _ h => op_plain rfl rfl h) (run_cut rfl (ev e62) (ev e64) hl1' hc1)
  · intro a x66 e67 x68 e69 W Q Z; exact step_is (fun _ h => op_plain rfl rfl h) (run_build2 rfl (ev e67) (ev e69))
  · intro a W Q Z; exact step_box (fun _ h => op_plain rfl rfl h) (by decide) (run_alloc2 rfl)
  clear Z; intro x47 x50 x52 x54 x57 x60 x65 x70 g71 W Z
  (try simp only [Act.put, List.setIfInBounds_toArray, List.set_cons_zero, List.set_cons_succ])
  refine seq_store Z 0 rfl rfl rfl rfl rfl ?_; clear Z; intro w5 Z
  (try simp only [Act.put, List.setIfInBounds_toArray, List.set_cons_zero, List.set_cons_succ])
  show Code.wp _ _ _ _ _
  refine wp_seq ?_
  have hB0 := Z.below
  have kA := (Z.rd 6 rfl)
  have kB := (Z.rd 7 rfl)
  have kM := (Z.rdO 3 rfl)
  have kN := (Z.rdO 2 rfl)
  have kX := (Z.rdO 1 rfl)
  have kY := (Z.rdO 0 rfl)
  have gkA := (Z.bx 3 rfl).2.2
  have gkB := (Z.bx 2 rfl).2.2
  have gkX := (Z.bx 1 rfl).2.2
  have gkY := (Z.bx 0 rfl).2.2
  have hS := (kA.has.append (kB.has.append (kM.has.append (kN.has.append (kX.has.append (kY.has.append ((tyG.has (.pointer (some ⟨g1, 0, none⟩)) gkA).append ((tyG.has (.pointer (some ⟨g2, 0, none⟩)) gkB).append ((tyG.has (.pointer (some ⟨g45, 0, none⟩)) gkX).append (tyG.has (.pointer (some ⟨g71, 0, none⟩)) gkY))))))))))
  clear Z
  have Z := Zt.start w5 hS
  refine wp_dag (pre := [_, _, _, _, _, _, _, _, _, _, _, _, _, _, _, _, _, _, _, _, _]) (sps := [.is (.agg #[.bool (b0), .slice x16.1 len0 x16.2.2]), spI w5 ((x0)), .is (.agg #[.bool (b0), .slice x16.1 len0 x16.2.2]), spI w5 (-(x0)), .is (.agg #[.bool (b0), .slice x16.1 len0 x16.2.2]), spI w5 ((((x0)).natAbs : Nat)), .is (.agg #[.bool (b0), .slice x16.1 len0 x16.2.2]), .is (.agg #[.bool (b1), .slice x19.1 len1 x19.2.2]), spI w5 ((x0) + (x1)), .is (.agg #[.bool (b0), .slice x16.1 len0 x16.2.2]), .is (.agg #[.bool (b1), .slice x19.1 len1 x19.2.2]), spI w5 ((x0) - (x1)), .is (.agg #[.bool (b0), .slice x16.1 len0 x16.2.2]), .is (.agg #[.bool (b1), .slice x19.1 len1 x19.2.2]), spI w5 ((x0) * (x1)), .is (.agg #[.bool (b0), .slice x16.1 len0 x16.2.2]), .boxv true (fun g => .slice (some ⟨g, 0, none⟩) 1 1) (fun _ => rfl) 25 #[.bool (b0), .slice x16.1 len0 x16.2.2], spI w5 (x0), .is (.agg #[.bool (b0), .slice x16.1 len0 x16.2.2]), .is (.agg #[.bool (b1), .slice x19.1 len1 x19.2.2]), spI w5 (gcdI ((((x0)).natAbs : Nat)) ((((x1)).natAbs : Nat)))]) Z (by kernel_rfl) _ rfl (by kernel_rfl) (by kernel_rfl) rfl ⟨?_, ?_, ?_, ?_, ?_, ?_, ?_, ?_, ?_, ?_, ?_, ?_, ?_, ?_, ?_, ?_, ?_, ?_, ?_, ?_, ?_, trivial⟩ ?_
  · intro a e72 W Q Z; exact step_is (fun _ h => op_plain rfl rfl h) (run_load2H rfl (ev e72) (Z.get 8 rfl))
  · intro a x74 e75 W Q Z; exact step_call (fun _ h => op_plain rfl rfl h) rfl Try.func32 rfl rfl (args1 (ev e75)) (Z.callI (zint_Form.sem (N0 _ _ (Z.rd 4 rfl))  ))
  · intro a e77 W Q Z; exact step_is (fun _ h => op_plain rfl rfl h) (run_load2H rfl (ev e77) (Z.get 8 rfl))
  · intro a x79 e80 W Q Z; exact step_call (fun _ h => op_plain rfl rfl h) rfl Try.func25 rfl rfl (args1 (ev e80)) (Z.callI (zint_Neg.sem (N0 _ _ (Z.rd 4 rfl))  ))
  · intro a e82 W Q Z; exact step_is (fun _ h => op_plain rfl rfl h) (run_load2H rfl (ev e82) (Z.get 8 rfl))
  · intro a x84 e85 W Q Z; exact step_call (fun _ h => op_plain rfl rfl h) rfl Try.func27 rfl rfl (args1 (ev e85)) (Z.callI (zint_Abs.sem (N0 _ _ (Z.rd 4 rfl))  ))
  · intro a e87 W Q Z; exact step_is (fun _ h => op_plain rfl rfl h) (run_load2H rfl (ev e87) (Z.get 8 rfl))
  · intro a e89 W Q Z; exact step_is (fun _ h => op_plain rfl rfl h) (run_load2H rfl (ev e89) (Z.get 9 rfl))
  · intro a x91 e92 x93 e94 W Q Z; exact step_call (fun _ h => op_plain rfl rfl h) rfl Try.func19 rfl rfl (args2 (ev e92) (ev e94)) (Z.callI (zint_Add.sem (N0 _ _ (Z.rd 4 rfl)) (N1 _ _ (Z.rd 5 rfl)) (Bd.fm (Bd.add (Bd.abs F0) (Bd.abs F1)) (by decide)) (Bd.fm (Bd.sub (Bd.abs F1) (Bd.abs F0)) (by decide)) (Bd.fm (Bd.sub (Bd.abs F0) (Bd.abs F1)) (by decide)) ))
  · intro a e96 W Q Z; exact step_is (fun _ h => op_plain rfl rfl h) (run_load2H rfl (ev e96) (Z.get 8 rfl))
  · intro a e98 W Q Z; exact step_is (fun _ h => op_plain rfl rfl h) (run_load2H rfl (ev e98) (Z.get 9 rfl))
  · intro a x100 e101 x102 e103 W Q Z; exact step_call (fun _ h => op_plain rfl rfl h) rfl Try.func21 rfl rfl (args2 (ev e101) (ev e103)) (Z.callI (zint_Sub.sem (N0 _ _ (Z.rd 4 rfl)) (N1 _ _ (Z.rd 5 rfl)) (Bd.fm (Bd.abs (Bd.neg F1)) (by decide)) (Bd.fm (Bd.add (Bd.abs F0) (Bd.abs (Bd.neg F1))) (by decide)) (Bd.fm (Bd.sub (Bd.abs (Bd.neg F1)) (Bd.abs F0)) (by decide)) (Bd.fm (Bd.sub (Bd.abs F0) (Bd.abs (Bd.neg F1))) (by decide)) ))
  · intro a e105 W Q Z; exact step_is (fun _ h => op_plain rfl rfl h) (run_load2H rfl (ev e105) (Z.get 8 rfl))
  · intro a e107 W Q Z; exact step_is (fun _ h => op_plain rfl rfl h) (run_load2H rfl (ev e107) (Z.get 9 rfl))
  · intro a x109 e110 x111 e112 W Q Z; exact step_call (fun _ h => op_plain rfl rfl h) rfl Try.func23 rfl rfl (args2 (ev e110) (ev e112)) (Z.callI (zint_Mul.sem (N0 _ _ (Z.rd 4 rfl)) (N1 _ _ (Z.rd 5 rfl)) (Bd.fm (Bd.mul (Bd.abs F0) (Bd.abs F1)) (by decide)) ))
  · intro a e114 W Q Z; exact step_is (fun _ h => op_plain rfl rfl h) (run_load2H rfl (ev e114) (Z.get 8 rfl))
  · intro a x116 e117 W Q Z; exact step_rowv (fun _ h => op_plain rfl rfl h) rfl (ev e117)
  · intro a; refine ⟨rfl, ?_⟩; intro x119 e120 W Q Z; exact step_call (fun _ h => op_plain rfl rfl h) rfl Try.func17 rfl rfl (args1 (ev e120)) (Z.callI (zint_Sum.sem1 (N0 _ _ (Z.rd 4 rfl)) (Z.bx 0 rfl).2.2 (Bd.mono F0 (by decide))))
  · intro a e122 W Q Z; exact step_is (fun _ h => op_plain rfl rfl h) (run_load2H rfl (ev e122) (Z.get 8 rfl))
  · intro a e124 W Q Z; exact step_is (fun _ h => op_plain rfl rfl h) (run_load2H rfl (ev e124) (Z.get 9 rfl))
  · intro a x126 e127 x128 e129 W Q Z; exact step_call (fun _ h => op_plain rfl rfl h) rfl Try.func57 rfl rfl (args2 (ev e127) (ev e129)) (Z.callI (zint_Gcd.sem (N0 _ _ (Z.rd 4 rfl)) (N1 _ _ (Z.rd 5 rfl)) (Bd.fm (Bd.gcd (Bd.abs F0) (Bd.abs F1)) (by decide)) ))
  clear Z; intro x73 x76 x78 x81 x83 x86 x88 x90 x95 x97 x99 x104 x106 x108 x113 x115 g118 x121 x123 x125 x130 W Z
  (try simp only [Act.put, List.setIfInBounds_toArray, List.set_cons_zero, List.set_cons_succ])
  refine seq_rowI8 Z rfl rfl rfl rfl rfl rfl rfl rfl rfl rfl ?_; clear Z; intro g131 W Z
  (try simp only [Act.put, List.setIfInBounds_toArray, List.set_cons_zero, List.set_cons_succ])
  refine seq_is (v := .slice (some ⟨g131, 0, none⟩) 8 8) rfl (run_assign rfl rfl) ?_
  (try simp only [Act.put, List.setIfInBounds_toArray, List.set_cons_zero, List.set_cons_succ])
  show Code.wp _ _ _ _ _
  refine wp_seq ?_
  refine wp_region_list ?_
  refine seq_is (v := .agg #[.bool (b0), .slice x16.1 len0 x16.2.2]) rfl (run_load2H rfl rfl (Z.get 16 rfl)) ?_
  (try simp only [Act.put, List.setIfInBounds_toArray, List.set_cons_zero, List.set_cons_succ])
  refine seq_call Z rfl rfl Try.func61 rfl rfl (args2 rfl rfl) (Z.callIi (zint_Power.sem (N0 _ _ (Z.rd 12 rfl)) (Bd.mono F0 (by decide)) (by decide))) ?_; clear Z; intro x132 W Z
  (try simp only [Act.put, List.setIfInBounds_toArray, List.set_cons_zero, List.set_cons_succ])
  refine seq_is (v := .tuple #[.agg #[.bool (decide (powZ (x0) (1) < 0)), x132.v], .int .i64 (powE (x0) (1))]) rfl (run_move rfl rfl) ?_
  (try simp only [Act.put, List.setIfInBounds_toArray, List.set_cons_zero, List.set_cons_succ])
  refine seq_is (v := .agg #[.bool (decide (powZ (x0) (1) < 0)), x132.v]) rfl (run_extract rfl rfl rfl) ?_
  (try simp only [Act.put, List.setIfInBounds_toArray, List.set_cons_zero, List.set_cons_succ])
  refine seq_is (v := .int .i64 (powE (x0) (1))) rfl (run_extract rfl rfl rfl) ?_
  (try simp only [Act.put, List.setIfInBounds_toArray, List.set_cons_zero, List.set_cons_succ])
  refine seq_alloc Z rfl rfl ?_; clear Z; intro g133 W Z
  (try simp only [Act.put, List.setIfInBounds_toArray, List.set_cons_zero, List.set_cons_succ])
  refine seq_store Z 0 rfl rfl rfl rfl rfl ?_; clear Z; intro W Z
  (try simp only [Act.put, List.setIfInBounds_toArray, List.set_cons_zero, List.set_cons_succ])
  refine seq_is (v := .int .i64 (powE (x0) (1))) rfl (run_assign rfl rfl) ?_
  (try simp only [Act.put, List.setIfInBounds_toArray, List.set_cons_zero, List.set_cons_succ])
  show Code.wp _ _ _ _ _
  refine wp_seq ?_
  refine wp_region_list ?_
  refine seq_is (v := .agg #[.bool (b0), .slice x16.1 len0 x16.2.2]) rfl (run_load2H rfl rfl (Z.get 17 rfl)) ?_
  (try simp only [Act.put, List.setIfInBounds_toArray, List.set_cons_zero, List.set_cons_succ])
  refine seq_call Z rfl rfl Try.func63 rfl rfl (args2 rfl rfl) (Z.callIi (zint_Shift.sem (N0 _ _ (Z.rd 13 rfl)) (Bd.mono F0 (by decide)))) ?_; clear Z; intro x134 W Z
  (try simp only [Act.put, List.setIfInBounds_toArray, List.set_cons_zero, List.set_cons_succ])
  refine seq_is (v := .tuple #[.agg #[.bool (decide (shiftZ (x0) (0) < 0)), x134.v], .int .i64 (shiftE (0))]) rfl (run_move rfl rfl) ?_
  (try simp only [Act.put, List.setIfInBounds_toArray, List.set_cons_zero, List.set_cons_succ])
  refine seq_is (v := .agg #[.bool (decide (shiftZ (x0) (0) < 0)), x134.v]) rfl (run_extract rfl rfl rfl) ?_
  (try simp only [Act.put, List.setIfInBounds_toArray, List.set_cons_zero, List.set_cons_succ])
  refine seq_is (v := .int .i64 (shiftE (0))) rfl (run_extract rfl rfl rfl) ?_
  (try simp only [Act.put, List.setIfInBounds_toArray, List.set_cons_zero, List.set_cons_succ])
  refine seq_alloc Z rfl rfl ?_; clear Z; intro g135 W Z
  (try simp only [Act.put, List.setIfInBounds_toArray, List.set_cons_zero, List.set_cons_succ])
  refine seq_store Z 0 rfl rfl rfl rfl rfl ?_; clear Z; intro W Z
  (try simp only [Act.put, List.setIfInBounds_toArray, List.set_cons_zero, List.set_cons_succ])
  refine seq_is (v := .int .i64 (shiftE (0))) rfl (run_assign rfl rfl) ?_
  (try simp only [Act.put, List.setIfInBounds_toArray, List.set_cons_zero, List.set_cons_succ])
  show Code.wp _ _ _ _ _
  refine wp_seq ?_
  refine wp_region_list ?_
  refine seq_is (v := .slice (some ⟨g131, 0, none⟩) 8 8) rfl (run_move rfl rfl) ?_
  (try simp only [Act.put, List.setIfInBounds_toArray, List.set_cons_zero, List.set_cons_succ])
  refine seq_is (v := .agg #[.bool (decide (powZ (x0) (1) < 0)), x132.v]) rfl (run_load2 rfl rfl (Z.bx 1 rfl)) ?_
  (try simp only [Act.put, List.setIfInBounds_toArray, List.set_cons_zero, List.set_cons_succ])
  refine seq_is (v := .agg #[.bool (decide (shiftZ (x0) (0) < 0)), x134.v]) rfl (run_load2 rfl rfl (Z.bx 0 rfl)) ?_
  (try simp only [Act.put, List.setIfInBounds_toArray, List.set_cons_zero, List.set_cons_succ])
  refine seq_rowI2 Z rfl rfl rfl rfl ?_; clear Z; intro g136 W Z
  (try simp only [Act.put, List.setIfInBounds_toArray, List.set_cons_zero, List.set_cons_succ])
  refine seq_app10 Z 3 0 rfl rfl rfl rfl rfl rfl rfl rfl ?_; clear Z; intro gN capN zsN W Z
  (try simp only [Act.put, List.setIfInBounds_toArray, List.set_cons_zero, List.set_cons_succ])
  refine seq_is (v := .slice (some ⟨gN, 0, none⟩) 10 capN) rfl (run_assign rfl rfl) ?_
  (try simp only [Act.put, List.setIfInBounds_toArray, List.set_cons_zero, List.set_cons_succ])
  show Code.wp _ _ _ _ _
  refine wp_seq ?_
  refine wp_seq ?_
  refine wp_region_list ?_
  refine seq_is (v := .int .i64 (0)) rfl (run_assign rfl rfl) ?_
  (try simp only [Act.put, List.setIfInBounds_toArray, List.set_cons_zero, List.set_cons_succ])
  show Code.wp _ _ _ _ _
  refine wp_block ?_
  have LI : Li w5 W gN (([.bool (decide ((x0) < 0)), x76.v, .bool (decide (-(x0) < 0)), x81.v, .bool (decide ((((x0)).natAbs : Nat) < 0)), x86.v, .bool (decide ((x0) + (x1) < 0)), x95.v, .bool (decide ((x0) - (x1) < 0)), x104.v, .bool (decide ((x0) * (x1) < 0)), x113.v, .bool (decide (x0 < 0)), x121.v, .bool (decide (gcdI ((((x0)).natAbs : Nat)) ((((x1)).natAbs : Nat)) < 0)), x130.v] ++ [.bool (decide (powZ (x0) (1) < 0)), x132.v, .bool (decide (shiftZ (x0) (0) < 0)), x134.v]).toArray ++ zsN) := by
    refine ⟨Z.below, (Z.bx 0 rfl).2.2, fun k hk => ?_⟩
    obtain rfl | rfl | rfl | rfl | rfl | rfl | rfl | rfl | rfl | rfl : k = 0 ∨ k = 1 ∨ k = 2 ∨ k = 3 ∨ k = 4 ∨ k = 5 ∨ k = 6 ∨ k = 7 ∨ k = 8 ∨ k = 9 := by omega
    · exact ⟨_, _, _, _, app_get rfl, app_get rfl, _, Z.row 9 rfl, (Bd.fm (Bd.abs F0) (by decide))⟩
    · exact ⟨_, _, _, _, app_get rfl, app_get rfl, _, Z.row 8 rfl, (Bd.fm (Bd.abs (Bd.neg F0)) (by decide))⟩
    · exact ⟨_, _, _, _, app_get rfl, app_get rfl, _, Z.row 7 rfl, (Bd.fm (Bd.abs (Bd.abs F0)) (by decide))⟩
    · exact ⟨_, _, _, _, app_get rfl, app_get rfl, _, Z.row 6 rfl, (Bd.fm (Bd.abs (Bd.add F0 F1)) (by decide))⟩
    · exact ⟨_, _, _, _, app_get rfl, app_get rfl, _, Z.row 5 rfl, (Bd.fm (Bd.abs (Bd.sub F0 F1)) (by decide))⟩
    · exact ⟨_, _, _, _, app_get rfl, app_get rfl, _, Z.row 4 rfl, (Bd.fm (Bd.abs (Bd.mul F0 F1)) (by decide))⟩
    · exact ⟨_, _, _, _, app_get rfl, app_get rfl, _, Z.row 3 rfl, (Bd.fm (Bd.abs F0) (by decide))⟩
    · exact ⟨_, _, _, _, app_get rfl, app_get rfl, _, Z.row 2 rfl, (Bd.fm (Bd.abs (Bd.gcd (Bd.abs F0) (Bd.abs F1))) (by decide))⟩
    · exact ⟨_, _, _, _, app_get rfl, app_get rfl, _, Z.row 1 rfl, (Bd.fm (Bd.abs Bd.pow) (by decide))⟩
    · exact ⟨_, _, _, _, app_get rfl, app_get rfl, _, Z.row 0 rfl, (Bd.fm (Bd.abs (Bd.shift F0)) (by decide))⟩
  refine wp_loop_s (α := Nat) (fun i a W => ∃ (j74 j75 j76 j77 j78 j79 j80 j81 j82 j83 j84 : Value), a = { tmps := #[.agg #[.bool (b0), .slice a0 len0 cap0], .agg #[.bool (b1), .slice a1 len1 cap1], .pointer (some ⟨g1, 0, none⟩), .pointer (some ⟨g2, 0, none⟩), .bool (false), x16.v, x19.v, .pointer (some ⟨g45, 0, none⟩), .pointer (some ⟨g71, 0, none⟩), .slice (some ⟨gN, 0, none⟩) 10 capN, .pointer (some ⟨g133, 0, none⟩), .int .i64 (powE (x0) (1)), .pointer (some ⟨g135, 0, none⟩), .int .i64 (shiftE (0)), .int .i64 ((i : Nat) : Int), .bool (true), .bool (!(true)), .agg #[.bool (b0), .slice a0 len0 cap0], x8.v, .agg #[.bool (b1), .slice a1 len1 cap1], x13.v, .pointer (some ⟨g1, 0, none⟩), .bool (b0), x16.v, .pointer (some ⟨g1, 1, none⟩), .slice a0 len0 cap0, .int .i64 (((len0 : Nat) : Int)), .slice x16.1 len0 x16.2.2, .agg #[.bool (b0), .slice x16.1 len0 x16.2.2], .pointer (some ⟨g2, 0, none⟩), .bool (b1), x19.v, .pointer (some ⟨g2, 1, none⟩), .slice a1 len1 cap1, .int .i64 (((len1 : Nat) : Int)), .slice x19.1 len1 x19.2.2, .agg #[.bool (b1), .slice x19.1 len1 x19.2.2], .agg #[.bool (b0), .slice x16.1 len0 x16.2.2], .agg #[.bool (decide ((x0) < 0)), x76.v], .agg #[.bool (b0), .slice x16.1 len0 x16.2.2], .agg #[.bool (decide (-(x0) < 0)), x81.v], .agg #[.bool (b0), .slice x16.1 len0 x16.2.2], .agg #[.bool (decide ((((x0)).natAbs : Nat) < 0)), x86.v], .agg #[.bool (b0), .slice x16.1 len0 x16.2.2], .agg #[.bool (b1), .slice x19.1 len1 x19.2.2], .agg #[.bool (decide ((x0) + (x1) < 0)), x95.v], .agg #[.bool (b0), .slice x16.1 len0 x16.2.2], .agg #[.bool (b1), .slice x19.1 len1 x19.2.2], .agg #[.bool (decide ((x0) - (x1) < 0)), x104.v], .agg #[.bool (b0), .slice x16.1 len0 x16.2.2], .agg #[.bool (b1), .slice x19.1 len1 x19.2.2], .agg #[.bool (decide ((x0) * (x1) < 0)), x113.v], .agg #[.bool (b0), .slice x16.1 len0 x16.2.2], .slice (some ⟨g118, 0, none⟩) 1 1, .agg #[.bool (decide (x0 < 0)), x121.v], .agg #[.bool (b0), .slice x16.1 len0 x16.2.2], .agg #[.bool (b1), .slice x19.1 len1 x19.2.2], .agg #[.bool (decide (gcdI ((((x0)).natAbs : Nat)) ((((x1)).natAbs : Nat)) < 0)), x130.v], .slice (some ⟨g131, 0, none⟩) 8 8, .tuple #[.agg #[.bool (decide (powZ (x0) (1) < 0)), x132.v], .int .i64 (powE (x0) (1))], .agg #[.bool (b0), .slice x16.1 len0 x16.2.2], .tuple #[.agg #[.bool (decide (powZ (x0) (1) < 0)), x132.v], .int .i64 (powE (x0) (1))], .agg #[.bool (decide (powZ (x0) (1) < 0)), x132.v], .int .i64 (powE (x0) (1)), .tuple #[.agg #[.bool (decide (shiftZ (x0) (0) < 0)), x134.v], .int .i64 (shiftE (0))], .agg #[.bool (b0), .slice x16.1 len0 x16.2.2], .tuple #[.agg #[.bool (decide (shiftZ (x0) (0) < 0)), x134.v], .int .i64 (shiftE (0))], .agg #[.bool (decide (shiftZ (x0) (0) < 0)), x134.v], .int .i64 (shiftE (0)), .slice (some ⟨g131, 0, none⟩) 8 8, .agg #[.bool (decide (powZ (x0) (1) < 0)), x132.v], .agg #[.bool (decide (shiftZ (x0) (0) < 0)), x134.v], .slice (some ⟨g136, 0, none⟩) 2 2, .slice (some ⟨gN, 0, none⟩) 10 capN, j74, j75, j76, j77, j78, j79, j80, j81, j82, j83, j84, undef, undef, undef, undef, undef, undef, undef, undef, undef, undef, undef, undef, undef, undef, undef, undef, undef, undef, undef, undef, undef, undef, undef, undef, undef, undef, undef, undef, undef, undef, undef], defers := [] } ∧ Li w5 W gN (([.bool (decide ((x0) < 0)), x76.v, .bool (decide (-(x0) < 0)), x81.v, .bool (decide ((((x0)).natAbs : Nat) < 0)), x86.v, .bool (decide ((x0) + (x1) < 0)), x95.v, .bool (decide ((x0) - (x1) < 0)), x104.v, .bool (decide ((x0) * (x1) < 0)), x113.v, .bool (decide (x0 < 0)), x121.v, .bool (decide (gcdI ((((x0)).natAbs : Nat)) ((((x1)).natAbs : Nat)) < 0)), x130.v] ++ [.bool (decide (powZ (x0) (1) < 0)), x132.v, .bool (decide (shiftZ (x0) (0) < 0)), x134.v]).toArray ++ zsN) ∧ i ≤ 10) (fun i => 10 - i) 0 ⟨_, _, _, _, _, _, _, _, _, _, _, rfl, LI, by omega⟩ ?_
  clear LI Z; rintro i a W ⟨j74, j75, j76, j77, j78, j79, j80, j81, j82, j83, j84, rfl, L, hI⟩
  refine wp_seq ?_
  refine wp_seq ?_
  refine wp_region_list ?_
  refine seq_is (v := .int .i64 ((i : Nat) : Int)) rfl (run_move rfl rfl) ?_
  (try simp only [Act.put, List.setIfInBounds_toArray, List.set_cons_zero, List.set_cons_succ])
  refine seq_is (v := .slice (some ⟨gN, 0, none⟩) 10 capN) rfl (run_move rfl rfl) ?_
  (try simp only [Act.put, List.setIfInBounds_toArray, List.set_cons_zero, List.set_cons_succ])
  refine seq_is (v := .int .i64 (10)) rfl (run_lenI rfl rfl) ?_
  (try simp only [Act.put, List.setIfInBounds_toArray, List.set_cons_zero, List.set_cons_succ])
  refine seq_is (v := .bool (decide ((((i : Nat) : Int)) < (10)))) rfl (run_lss rfl rfl rfl) ?_
  (try simp only [Act.put, List.setIfInBounds_toArray, List.set_cons_zero, List.set_cons_succ])
  show Code.wp _ _ _ _ _
  refine wp_cond_split (t := decide ((((i : Nat) : Int)) < (10))) rfl ?_ ?_
  · intro hc137
    have p_hc137 := of_decide_eq_true hc137
    refine wp_skip ?_
    show Code.wp _ _ _ _ _
    refine wp_seq ?_
    refine wp_block ?_
    refine wp_region_list ?_
    obtain ⟨bq, Aq, nq, cq, hq1, hq2, lq, hrq, hlq⟩ := L.rows i (by omega)
    refine seq_is (v := .slice (some ⟨gN, 0, none⟩) 10 capN) rfl (run_move rfl rfl) ?_
    (try simp only [Act.put, List.setIfInBounds_toArray, List.set_cons_zero, List.set_cons_succ])
    refine seq_is (v := .int .i64 ((i : Nat) : Int)) rfl (run_move rfl rfl) ?_
    (try simp only [Act.put, List.setIfInBounds_toArray, List.set_cons_zero, List.set_cons_succ])
    refine seq_is (v := .pointer (some ⟨gN, 2 * i, none⟩)) rfl (run_indexI (k := i) rfl rfl rfl (by omega)) ?_
    (try simp only [Act.put, List.setIfInBounds_toArray, List.set_cons_zero, List.set_cons_succ])
    refine seq_is (v := .agg #[.bool bq, .slice Aq nq cq]) rfl (run_loadI (k := i) rfl rfl L.box hq1 hq2) ?_
    (try simp only [Act.put, List.setIfInBounds_toArray, List.set_cons_zero, List.set_cons_succ])
    refine list_op rfl (wp_enter rfl Try.func66 rfl rfl (args1 rfl) (spoil_walk ⟨lq, hrq, hlq⟩ L.bel.size) fun e W' ⟨he, hb2, hs2⟩ => ⟨_, he, ?_⟩)
    (try simp only [Act.put, List.setIfInBounds_toArray, List.set_cons_zero, List.set_cons_succ])
    replace L := L.next hb2 hs2 hrq
    show Code.wp _ _ _ _ _
    refine wp_region_list ?_
    refine seq_is (v := .int .i64 ((i : Nat) : Int)) rfl (run_move rfl rfl) ?_
    (try simp only [Act.put, List.setIfInBounds_toArray, List.set_cons_zero, List.set_cons_succ])
    refine seq_is (v := .int .i64 ((i + 1 : Nat) : Int)) rfl (run_inc rfl rfl (by omega)) ?_
    (try simp only [Act.put, List.setIfInBounds_toArray, List.set_cons_zero, List.set_cons_succ])
    refine seq_is (v := .int .i64 ((i + 1 : Nat) : Int)) rfl (run_assign rfl rfl) ?_
    (try simp only [Act.put, List.setIfInBounds_toArray, List.set_cons_zero, List.set_cons_succ])
    exact ⟨i + 1, (show 10 - (i + 1) < 10 - i by omega), _, _, _, _, _, _, _, _, _, _, _, rfl, L, by omega⟩
  · intro hc137
    have p_hc137 := of_decide_eq_false hc137
    refine wp_exit ?_
    show Code.wp _ _ _ _ _
    refine wp_seq ?_
    have Z := (Zt.start w5 hS).step L.bel
    refine wp_dag (pre := [_, _, _, _, _, _, _, _, _, _, _, _, _, _, _, _, _, _, _, _, _, _, _, _, _, _, _, _, _, _, _, _]) (sps := [.is (x16.v), .is (.agg #[.bool (b0), .slice a0 len0 cap0]), .is (.bool (true)), .is (.bool (true)), .is (x19.v), .is (.agg #[.bool (b1), .slice a1 len1 cap1]), .is (.bool (true)), .is (.bool (tt)), .is (.bool (tt)), .is (.agg #[.bool (b0), .slice x16.1 len0 x16.2.2]), spI w5 ((x0)), .is (.agg #[.bool (b0), .slice a0 len0 cap0]), spI w5 ((x0)), .is (.bool (true)), .is (.bool (tt)), .is (.bool (tt)), .is (.agg #[.bool (b0), .slice x16.1 len0 x16.2.2]), .is (.agg #[.bool (b1), .slice x19.1 len1 x19.2.2]), spI w5 ((x0) + (x1)), .is (.agg #[.bool (b0), .slice a0 len0 cap0]), .is (.agg #[.bool (b1), .slice a1 len1 cap1]), spI w5 ((x0) + (x1)), .is (.bool (true)), .is (.bool (tt)), .is (.bool (tt)), .is (.agg #[.bool (b0), .slice x16.1 len0 x16.2.2]), spI w5 ((((x0)).natAbs : Nat)), .is (.agg #[.bool (b0), .slice a0 len0 cap0]), spI w5 ((((x0)).natAbs : Nat)), .is (.bool (true)), .is (.bool (tt)), .is (.bool (tt))]) Z (by kernel_rfl) _ rfl (by kernel_rfl) (by kernel_rfl) rfl ⟨?_, ?_, ?_, ?_, ?_, ?_, ?_, ?_, ?_, ?_, ?_, ?_, ?_, ?_, ?_, ?_, ?_, ?_, ?_, ?_, ?_, ?_, ?_, ?_, ?_, ?_, ?_, ?_, ?_, ?_, ?_, ?_, trivial⟩ ?_
    · intro a e138 W Q Z; exact step_is (fun _ h => op_plain rfl rfl h) (run_move rfl (ev e138))
    · intro a e140 W Q Z; exact step_is (fun _ h => op_plain rfl rfl h) (run_load2H rfl (ev e140) (Z.get 6 rfl))
    · intro a x142 e143 x144 e145 W Q Z; exact step_call (fun _ h => op_plain rfl rfl h) rfl Try.func67 rfl rfl (args2 (ev e143) (ev e145)) (Z.callV (quiet_walk (Z.rd 2 rfl) (Z.rd 0 rfl) hl0))
    · intro a x147 e148 W Q Z; exact step_is (fun _ h => op_plain rfl rfl h) (run_move rfl (ev e148))
    · intro a x150 e151 e152 W Q Z; exact step_is (fun _ h => op_want rfl rfl rfl e151 h) (run_move rfl (ev e152))
    · intro a x154 e155 e156 W Q Z; exact step_is (fun _ h => op_want rfl rfl rfl e155 h) (run_load2H rfl (ev e156) (Z.get 7 rfl))
    · intro a x158 e159 x160 e161 x162 e163 W Q Z; exact step_call (fun _ h => op_want rfl rfl rfl e159 h) rfl Try.func67 rfl rfl (args2 (ev e161) (ev e163)) (Z.callV (quiet_walk (Z.rd 3 rfl) (Z.rd 1 rfl) hl1))
    · intro a x165 e166 x167 e168 W Q Z; exact step_is (fun _ h => op_plain rfl rfl h) (run_cast (run_pickT rfl (ev e166) (ev e168)) htt.symm)
    · intro a x170 e171 W Q Z; exact step_is (fun _ h => op_plain rfl rfl h) (run_move rfl (ev e171))
    · intro a x173 e174 e175 W Q Z; exact step_is (fun _ h => op_want rfl rfl rfl (e174.trans (congrArg some (congrArg Value.bool htt))) h) (run_load2H rfl (ev e175) (Z.get 8 rfl))
    · intro a x177 e178 x179 e180 W Q Z; exact step_call (fun _ h => op_want rfl rfl rfl (e178.trans (congrArg some (congrArg Value.bool htt))) h) rfl Try.func32 rfl rfl (args1 (ev e180)) (Z.callI (zint_Form.sem (N0 _ _ (Z.rd 4 rfl))  ))
    · intro a x182 e183 e184 W Q Z; exact step_is (fun _ h => op_want rfl rfl rfl (e183.trans (congrArg some (congrArg Value.bool htt))) h) (run_load2H rfl (ev e184) (Z.get 6 rfl))
    · intro a x186 e187 x188 e189 W Q Z; exact step_call (fun _ h => op_want rfl rfl rfl (e187.trans (congrArg some (congrArg Value.bool htt))) h) rfl Try.func33 rfl rfl (args1 (ev e189)) (Z.callI (trammelref02_Norm.sem (N0 _ _ (Z.rd 0 rfl))  ))
    · intro a x191 e192 x193 e194 x195 e196 W Q Z; exact step_call (fun _ h => op_want rfl rfl rfl (e192.trans (congrArg some (congrArg Value.bool htt))) h) rfl Try.func16 rfl rfl (args2 (ev e194) (ev e196)) (Z.callV (eqI_same (z1 := (x0)) (z2 := (x0)) (Z.rdO 1 rfl) (Z.rdO 0 rfl) (Bd.fm (Bd.abs F0) (by decide)) rfl))
    · intro a x198 e199 x200 e201 W Q Z; exact step_is (fun _ h => op_plain rfl rfl h) (run_cast (run_pickT rfl ((show _ = Value.bool (tt) from (ev e199)).trans (congrArg Value.bool htt)) (ev e201)) htt.symm)
    · intro a x203 e204 W Q Z; exact step_is (fun _ h => op_plain rfl rfl h) (run_move rfl (ev e204))
    · intro a x206 e207 e208 W Q Z; exact step_is (fun _ h => op_want rfl rfl rfl (e207.trans (congrArg some (congrArg Value.bool htt))) h) (run_load2H rfl (ev e208) (Z.get 8 rfl))
    · intro a x210 e211 e212 W Q Z; exact step_is (fun _ h => op_want rfl rfl rfl (e211.trans (congrArg some (congrArg Value.bool htt))) h) (run_load2H rfl (ev e212) (Z.get 9 rfl))
    · intro a x214 e215 x216 e217 x218 e219 W Q Z; exact step_call (fun _ h => op_want rfl rfl rfl (e215.trans (congrArg some (congrArg Value.bool htt))) h) rfl Try.func19 rfl rfl (args2 (ev e217) (ev e219)) (Z.callI (zint_Add.sem (N0 _ _ (Z.rd 4 rfl)) (N1 _ _ (Z.rd 5 rfl)) (Bd.fm (Bd.add (Bd.abs F0) (Bd.abs F1)) (by decide)) (Bd.fm (Bd.sub (Bd.abs F1) (Bd.abs F0)) (by decide)) (Bd.fm (Bd.sub (Bd.abs F0) (Bd.abs F1)) (by decide)) ))
    · intro a x221 e222 e223 W Q Z; exact step_is (fun _ h => op_want rfl rfl rfl (e222.trans (congrArg some (congrArg Value.bool htt))) h) (run_load2H rfl (ev e223) (Z.get 6 rfl))
    · intro a x225 e226 e227 W Q Z; exact step_is (fun _ h => op_want rfl rfl rfl (e226.trans (congrArg some (congrArg Value.bool htt))) h) (run_load2H rfl (ev e227) (Z.get 7 rfl))
    · intro a x229 e230 x231 e232 x233 e234 W Q Z; exact step_call (fun _ h => op_want rfl rfl rfl (e230.trans (congrArg some (congrArg Value.bool htt))) h) rfl Try.func20 rfl rfl (args2 (ev e232) (ev e234)) (Z.callI (trammelref02_Add.sem (N0 _ _ (Z.rd 0 rfl)) (N1 _ _ (Z.rd 1 rfl)) (Bd.fm (Bd.add (Bd.abs F0) (Bd.abs F1)) (by decide)) (Bd.fm (Bd.sub (Bd.abs F0) (Bd.abs F1)) (by decide)) (Bd.fm (Bd.sub (Bd.abs F1) (Bd.abs F0)) (by decide)) ))
    · intro a x236 e237 x238 e239 x240 e241 W Q Z; exact step_call (fun _ h => op_want rfl rfl rfl (e237.trans (congrArg some (congrArg Value.bool htt))) h) rfl Try.func16 rfl rfl (args2 (ev e239) (ev e241)) (Z.callV (eqI_same (z1 := (x0) + (x1)) (z2 := (x0) + (x1)) (Z.rdO 1 rfl) (Z.rdO 0 rfl) (Bd.fm (Bd.abs (Bd.add F0 F1)) (by decide)) rfl))
    · intro a x243 e244 x245 e246 W Q Z; exact step_is (fun _ h => op_plain rfl rfl h) (run_cast (run_pickT rfl ((show _ = Value.bool (tt) from (ev e244)).trans (congrArg Value.bool htt)) (ev e246)) htt.symm)
    · intro a x248 e249 W Q Z; exact step_is (fun _ h => op_plain rfl rfl h) (run_move rfl (ev e249))
    · intro a x251 e252 e253 W Q Z; exact step_is (fun _ h => op_want rfl rfl rfl (e252.trans (congrArg some (congrArg Value.bool htt))) h) (run_load2H rfl (ev e253) (Z.get 8 rfl))
    · intro a x255 e256 x257 e258 W Q Z; exact step_call (fun _ h => op_want rfl rfl rfl (e256.trans (congrArg some (congrArg Value.bool htt))) h) rfl Try.func27 rfl rfl (args1 (ev e258)) (Z.callI (zint_Abs.sem (N0 _ _ (Z.rd 4 rfl))  ))
    · intro a x260 e261 e262 W Q Z; exact step_is (fun _ h => op_want rfl rfl rfl (e261.trans (congrArg some (congrArg Value.bool htt))) h) (run_load2H rfl (ev e262) (Z.get 6 rfl))
    · intro a x264 e265 x266 e267 W Q Z; exact step_call (fun _ h => op_want rfl rfl rfl (e265.trans (congrArg some (congrArg Value.bool htt))) h) rfl Try.func28 rfl rfl (args1 (ev e267)) (Z.callI (trammelref02_Abs.sem (N0 _ _ (Z.rd 0 rfl))  ))
    · intro a x269 e270 x271 e272 x273 e274 W Q Z; exact step_call (fun _ h => op_want rfl rfl rfl (e270.trans (congrArg some (congrArg Value.bool htt))) h) rfl Try.func16 rfl rfl (args2 (ev e272) (ev e274)) (Z.callV (eqI_same (z1 := (((x0)).natAbs : Nat)) (z2 := (((x0)).natAbs : Nat)) (Z.rdO 1 rfl) (Z.rdO 0 rfl) (Bd.fm (Bd.abs (Bd.abs F0)) (by decide)) rfl))
    · intro a x276 e277 x278 e279 W Q Z; exact step_is (fun _ h => op_plain rfl rfl h) (run_cast (run_pickT rfl ((show _ = Value.bool (tt) from (ev e277)).trans (congrArg Value.bool htt)) (ev e279)) htt.symm)
    · intro a x281 e282 W Q Z; exact step_is (fun _ h => op_plain rfl rfl h) (run_assign rfl (ev e282))
    clear Z; intro x139 x141 x146 x149 x153 x157 x164 x169 x172 x176 x181 x185 x190 x197 x202 x205 x209 x213 x220 x224 x228 x235 x242 x247 x250 x254 x259 x263 x268 x275 x280 x283 W Z
    (try simp only [Act.put, List.setIfInBounds_toArray, List.set_cons_zero, List.set_cons_succ])
    show Code.wp _ _ _ _ _
    refine wp_ret ?_
    exact ret_more hB0 (Z.endsV rfl rfl rfl (congrArg Value.bool htt))

end Go.Proofs.Ytmbmbmkmjbpcpaa.PA

