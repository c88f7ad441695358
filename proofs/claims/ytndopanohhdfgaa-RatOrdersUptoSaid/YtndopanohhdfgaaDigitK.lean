/- The contract of one digit of a quotient (nat.digit): on a window of a row of the caller's own; for rows of at most 70368744177664 words, the divisor's top word not 0, the window below the divisor times 2^32. -/
import Derived.Test.YtndopanohhdfgaaRowkK
import Derived.Test.YtndopanohhdfgaaNatDigK
import Derived.Test.YtndopanohhdfgaaPAx0K
namespace Go.Proofs.Ytndopanohhdfgaa.PA
open Go Go.Proofs.Ytndopanohhdfgaa.Nums Go.RowKit Go.Proofs.YtndopanohhdfgaaW.PrintWords Go.Proofs.YtndopanohhdfgaaW.PrintLast Go.Proofs.YtndopanohhdfgaaW.PrintMore
theorem min2_mn (k k' : IntKind) (x y : Int) : Builtin.min2 (.int k x) (.int k' y) = pure (.int k (mn x y)) := by rw [min2_int]; rfl
attribute [local go_sem] min2_mn min_two
set_option linter.unusedVariables false
set_option linter.unusedSimpArgs false
theorem digit_prep {n n1 m : Nat} (hn1 : n = n1 + 1) (hm : m = n + 1) (hL : m ≤ 70368744177664) :
    (0 ≤ (n : Int)) = True ∧ ((n : Int) < (m : Int)) = True ∧ wrap64 ((n : Int) - 1) = (n1 : Int) ∧ IntKind.i64.wrap ((n : Int) - 1) = (n1 : Int) ∧ wrap64 ((n : Int) + 1) = (m : Int) ∧ IntKind.i64.wrap ((n : Int) + 1) = (m : Int) ∧ (0 ≤ (n1 : Int)) = True ∧ ((n1 : Int) < (m : Int)) = True ∧ ((n1 : Int) < (n : Int)) = True := by
  have h1 : wrap64 ((n : Int) - 1) = (n1 : Int) := by rw [w64 (by omega) (by omega)]; omega
  have h2 : wrap64 ((n : Int) + 1) = (m : Int) := by rw [w64 (by omega) (by omega)]; omega
  refine ⟨eq_true (by omega), eq_true (by omega), h1, (i64_w _).trans h1, h2, (i64_w _).trans h2, eq_true (by omega), ?_, ?_⟩
  · clear h1 h2; exact eq_true (by omega)
  · clear h1 h2; exact eq_true (by omega)
theorem guess_machine {a b c : Int} (ga : 0 ≤ a ∧ a < 4294967296) (gb : 0 ≤ b ∧ b < 4294967296) (gc : 0 < c ∧ c < 4294967296) :
    mn (IntKind.u64.wrap ((Go.bits .or .u64 (IntKind.u64.wrap (IntKind.u64.wrap a * 4294967296)) (IntKind.u64.wrap b)).tdiv (IntKind.u64.wrap c))) 4294967295 = mn ((a * 4294967296 + b) / c) 4294967295 := by
  have h1 : 0 ≤ (a * 4294967296 + b) / c := Int.ediv_nonneg (by omega) (by omega)
  have h2 : (a * 4294967296 + b) / c ≤ a * 4294967296 + b := Int.ediv_le_self _ (by omega)
  rw [u64w (n := a) (by omega) (by omega), u64w (n := a * 4294967296) (by omega) (by omega), u64w (n := b) (by omega) (by omega), u64w (n := c) (by omega) (by omega), or_hi ga.1 ga.2 gb.1 gb.2, Int.tdiv_eq_ediv_of_nonneg (by omega), u64w h1 (by omega)]
theorem digit_guess {j n n1 : Nat} {xs vs : List Int} (hn1 : n = n1 + 1) (hx : Ok xs) (hv : Ok vs) (hl : vs.length = n) (ht : 0 < vs.getD n1 0) (hlt : val ((xs.drop j).take (n + 1)) < val vs * 4294967296) :
    ∃ q, mn (IntKind.u64.wrap ((Go.bits .or .u64 (IntKind.u64.wrap (IntKind.u64.wrap (xs.getD (j + n) 0) * 4294967296)) (IntKind.u64.wrap (xs.getD (j + n1) 0))).tdiv (IntKind.u64.wrap (vs.getD n1 0)))) 4294967295 = q ∧
      0 ≤ q ∧ q < 4294967296 ∧ val ((xs.drop j).take (n + 1)) - q * val vs < val vs := by
  subst hn1
  refine ⟨_, rfl, ?_⟩
  rw [guess_machine (ok_getD hx _) (ok_getD hx _) ⟨ht, (ok_getD hv _).2⟩]
  exact guess_val hx hv hl rfl rfl rfl ht hlt
theorem u64_ne {c : Int} (h0 : 0 < c) (h1 : c < 4294967296) : ¬ (IntKind.u64.wrap c = 0) := by rw [u64w (by omega) (by omega)]; omega
theorem round_facts {i n m : Nat} (hi : i < m) (hm : m ≤ 70368744177664) : (0 ≤ (i : Int)) = True ∧ ((i : Int) < (m : Int)) = True ∧ wrap64 ((i : Int) + 1) = ((i + 1 : Nat) : Int) ∧ IntKind.i64.wrap ((i : Int) + 1) = ((i + 1 : Nat) : Int) := by
  have h : wrap64 ((i : Int) + 1) = ((i + 1 : Nat) : Int) := by rw [w64 (by omega) (by omega)]; omega
  exact ⟨eq_true (by omega), eq_true (by omega), h, (i64_w _).trans h⟩
theorem da_p {q cy y : Int} (c0 : 0 ≤ cy) (c1 : cy < 4294967296) (q0 : 0 ≤ q) (q1 : q < 4294967296) (y0 : 0 ≤ y) (y1 : y < 4294967296) : IntKind.u64.wrap (cy + IntKind.u64.wrap (q * IntKind.u64.wrap y)) = cy + q * y := by
  have h := mul_fits c0 c1 q0 q1 y0 y1
  rw [u64w (n := y) y0 (by omega), u64w (n := q * y) h.1 (by omega), u64w (by omega) (by omega)]
theorem da_d {x p bw : Int} (x0 : 0 ≤ x) (x1 : x < 4294967296) : IntKind.u64.wrap (IntKind.u64.wrap (IntKind.u64.wrap x - p % 4294967296) - bw) = (x - p % 4294967296 - bw) % 18446744073709551616 := by
  rw [u64w (n := x) x0 (by omega), u64_def, u64_def, Int.emod_sub_emod]
theorem gt_true {b : Int} (h : 0 < b) : (b > 0) = True := eq_true h
theorem gt_false {b : Int} (h : ¬ 0 < b) : (b > 0) = False := eq_false h
theorem db_s {c x y : Int} (c0 : 0 ≤ c) (c1 : c ≤ 1) (x0 : 0 ≤ x) (x1 : x < 4294967296) (y0 : 0 ≤ y) (y1 : y < 4294967296) : IntKind.u64.wrap (IntKind.u64.wrap (c + IntKind.u64.wrap x) + IntKind.u64.wrap y) = c + x + y := by
  rw [u64w (n := x) x0 (by omega), u64w (n := c + x) (by omega) (by omega), u64w (n := y) y0 (by omega), u64w (by omega) (by omega)]
theorem db_s1 {c x : Int} (c0 : 0 ≤ c) (c1 : c ≤ 1) (x0 : 0 ≤ x) (x1 : x < 4294967296) : IntKind.u64.wrap (c + IntKind.u64.wrap x) = c + x := by
  rw [u64w (n := x) x0 (by omega), u64w (by omega) (by omega)]
theorem lt_true {i n : Nat} (h : i < n) : ((i : Int) < (n : Int)) = True := eq_true (by omega)
theorem lt_false {i n : Nat} (h : ¬ i < n) : ((i : Int) < (n : Int)) = False := eq_false (by omega)
set_option maxHeartbeats 8000000 in
set_option maxRecDepth 100000 in
theorem digit_calls (g gv j n n1 m L cap c' cv base baseV B : Nat) (ok : Nat → Prop) (hok : ∀ k, ok k → B ≤ k) (xs vs : List Int) (w : World)
    (hR : Kd.R (Kd.int .u32) 68 w base ok (.slice (some ⟨g, 0, none⟩) L cap) xs)
    (hV : Kd.R (Kd.int .u32) 68 w baseV (fun k => k < B) (.slice (some ⟨gv, 0, none⟩) n cv) vs)
    (hn1 : n = n1 + 1) (hm : m = n + 1) (hj : j + m ≤ L) (hx : Ok xs) (hv : Ok vs) (hL : L ≤ 70368744177664)
    (ht : 0 < vs.getD n1 0) (hlt : val ((xs.drop j).take (n + 1)) < val vs * 4294967296) :
    Calls Try.prog 105 #[.slice (some ⟨g, j, none⟩) m c', .slice (some ⟨gv, 0, none⟩) n cv] w fun e w' => ∃ q zs, e = .returned (.int .u32 q) ∧ DC j n xs vs zs q 0 ∧ Kd.R (Kd.int .u32) 68 w' base ok (.slice (some ⟨g, 0, none⟩) L cap) zs ∧ w.grownBy w' (some g) := by
  have hvl : vs.length = n := (Kd.R_reads' hV).1.symm
  have hxl : xs.length = L := (Kd.R_reads' hR).1.symm
  have hu1 := (cell_at hR (j + n) (by omega)).1
  have hu2 := (cell_at hR (j + n1) (by omega)).1
  have hv1 := (cell_at hV n1 (by omega)).1
  obtain ⟨q, hq, q0, qq1, qlt⟩ := digit_guess hn1 hx hv hvl ht hlt
  have c1 := u64_ne ht (ok_getD hv _).2
  have c0b0 : ((IntKind.u64.wrap (vs.getD n1 0)) == 0) = false := beq_eq_false_iff_ne.mpr c1
  have c0b1 : ((IntKind.u64.wrap (vs.getD n1 0)) != 0) = true := bne_iff_ne.mpr c1
  obtain ⟨p1, q1, hji, hjw, hm1, hm1w, p2, q2, q3⟩ := digit_prep hn1 hm (by omega)
  generalize xs.getD (j + n) 0 = a at hu1 hq
  generalize xs.getD (j + n1) 0 = b at hu2 hq
  generalize vs.getD n1 0 = c at hv1 hq c1 c0b0 c0b1
  have HR := Aside0.mk hR
  have HV := Aside0.mk hV
  have HM := Aside0.mk hm
  have HN := Aside0.mk hn1
  have HJ := Aside0.mk hj
  have QLT := Aside0.mk qlt
  have HVL := Aside0.mk hvl
  have HXL := Aside0.mk hxl
  have HL := Aside0.mk hL
  have HQ := Aside0.mk hq
  clear hR hV hm hn1 hj qlt hvl hxl hL hq hlt ht
  go_enter Try.func105, Try.ntmps105
  go_wp2
  go_quiet (fail)
  go_wp2
  rw [HQ.out]
  clear hu1 hu2 hv1 c1 c0b0 c0b1 p2 q2 q3 hji hjw
  go_loopw [8, 9, 41] (fun v8 v9 v41 wr => ∃ (i : Nat) (zs : List Int) (cy bw : Int), i ≤ m ∧ v8 = .int .u64 cy ∧ v9 = .int .u64 bw ∧ v41 = .int .i64 i ∧ Aside0 (DA j n xs vs q i zs cy bw) ∧ Aside0 (Kd.R (Kd.int .u32) 68 wr base ok (.slice (some ⟨g, 0, none⟩) L cap) zs) ∧ Aside0 (Kd.R (Kd.int .u32) 68 wr baseV (fun k => k < B) (.slice (some ⟨gv, 0, none⟩) n cv) vs) ∧ Aside0 (w.grownBy wr (some g))) (fun _ _ v41 _ => m - (intOf v41).toNat)
  case atStart => exact ⟨0, xs, 0, 0, Nat.zero_le _, rfl, rfl, rfl, ⟨DA.start hx⟩, ⟨Kd.R_drewN HR.out _⟩, ⟨Kd.R_drewN HV.out _⟩, ⟨grown_drewN _ _ _⟩⟩
  case round =>
    clear HR HV HQ
    obtain ⟨i, zs, cy, bw, hi, rfl, rfl, rfl, D, R, V, G⟩ := hrel
    by_cases him : i < m
    · obtain ⟨r1, r2, r3, r3w⟩ := round_facts (n := n) him (by have := HJ.out; have := HL.out; omega)
      obtain ⟨x1, x2, x3⟩ := cell_at R.out (j + i) (by have := HJ.out; omega)
      have X := Aside0.mk x3
      clear x3
      generalize hx0 : zs.getD (j + i) 0 = x at x1
      have HX := Aside0.mk hx0
      clear hx0
      by_cases hin : i < n
      · have r4 := lt_true hin
        obtain ⟨y1, -, -⟩ := cell_at V.out i hin
        generalize hy0 : vs.getD i 0 = y at y1
        have HY := Aside0.mk hy0
        clear hy0
        go_wp2
        go_roundw
        case rel =>
          have D' := D.out
          have gy := ok_getD hv i
          have gx := ok_getD D'.ok (j + i)
          rw [HX.out] at gx
          rw [HY.out] at gy
          rw [da_p D'.cy0 D'.cy1 q0 qq1 gy.1 gy.2, da_d gx.1 gx.2]
          exact ⟨i + 1, zs.set (j + i) _, _, _, him, rfl, rfl, by go_num, ⟨DA.step D' (Nat.le_of_lt hin) (by have := HJ.out; have := HM.out; have := HXL.out; omega) HVL.out hv q0 qq1 (by rw [HY.out]) (by rw [HX.out])⟩, ⟨(X.out _).1⟩, ⟨Kd.R_grown V.out (X.out _).2 (far_of hok R.out)⟩, ⟨World.grownBy.trans G.out (X.out _).2⟩⟩
        case measure => simp [intOf]; omega
      · have r4 := lt_false hin
        have hie := Aside0.mk (show i = n by have := HM.out; omega)
        go_wp2
        go_roundw
        case rel =>
          have D' := D.out
          have gx := ok_getD D'.ok (j + i)
          rw [HX.out] at gx
          rw [da_d gx.1 gx.2]
          exact ⟨i + 1, zs.set (j + i) _, _, _, him, rfl, rfl, by go_num, ⟨DA.step D' (Nat.le_of_eq hie.out) (by have := HJ.out; have := HM.out; have := HXL.out; omega) HVL.out hv q0 qq1 (by rw [getD_ge vs i (by rw [HVL.out, hie.out]; exact Nat.le_refl _)]; simp) (by rw [HX.out])⟩, ⟨(X.out _).1⟩, ⟨Kd.R_grown V.out (X.out _).2 (far_of hok R.out)⟩, ⟨World.grownBy.trans G.out (X.out _).2⟩⟩
        case measure => simp [intOf]; omega
    · have r2 := lt_false him
      have C := Aside0.mk (by
        have h := D.out
        have hie : i = n + 1 := by have := HM.out; omega
        rw [hie] at h
        exact DC.start h HVL.out q0 qq1 QLT.out)
      clear D QLT
      go_wp2
      go_loopw [7, 9] (fun v7 v9 wr => ∃ (q1 bw : Int) (zs : List Int), v7 = .int .u64 q1 ∧ v9 = .int .u64 bw ∧ Aside0 (DC j n xs vs zs q1 bw) ∧ Aside0 (Kd.R (Kd.int .u32) 68 wr base ok (.slice (some ⟨g, 0, none⟩) L cap) zs) ∧ Aside0 (Kd.R (Kd.int .u32) 68 wr baseV (fun k => k < B) (.slice (some ⟨gv, 0, none⟩) n cv) vs) ∧ Aside0 (w.grownBy wr (some g))) (fun v7 _ _ => (intOf v7).toNat)
      case atStart => exact ⟨q, bw, zs, rfl, rfl, C, R, V, G⟩
      case round =>
        clear C R V G q0 qq1 hi him
        obtain ⟨q2, bw2, zs2, rfl, rfl, C, R, V, G⟩ := hrel
        by_cases hb : 0 < bw2
        · have b1 := gt_true hb
          have HBW := Aside0.mk hb
          clear hb
          obtain ⟨wo, hwo⟩ : ∃ wo : World, wo = wr := ⟨_, rfl⟩
          subst hwo
          go_wp2
          go_loopw [13, 84] (fun v13 v84 wr => ∃ (i : Nat) (ys : List Int) (c : Int), i ≤ m ∧ v13 = .int .u64 c ∧ v84 = .int .i64 i ∧ Aside0 (DB j zs2 vs i ys c) ∧ Aside0 (Kd.R (Kd.int .u32) 68 wr base ok (.slice (some ⟨g, 0, none⟩) L cap) ys) ∧ Aside0 (Kd.R (Kd.int .u32) 68 wr baseV (fun k => k < B) (.slice (some ⟨gv, 0, none⟩) n cv) vs) ∧ Aside0 (w.grownBy wr (some g))) (fun _ v84 _ => m - (intOf v84).toNat)
          case atStart => exact ⟨0, zs2, 0, Nat.zero_le _, rfl, rfl, ⟨DB.start C.out.ok⟩, R, V, G⟩
          case round =>
            clear R V G
            obtain ⟨i, ys, c2, hi, rfl, rfl, D, R, V, G⟩ := hrel
            by_cases him : i < m
            · obtain ⟨r1, r2, r3, r3w⟩ := round_facts (n := n) him (by have := HJ.out; have := HL.out; omega)
              obtain ⟨x1, x2, x3⟩ := cell_at R.out (j + i) (by have := HJ.out; omega)
              have X := Aside0.mk x3
              clear x3
              generalize hx0 : ys.getD (j + i) 0 = x at x1
              have HX := Aside0.mk hx0
              clear hx0
              by_cases hin : i < n
              · have r4 := lt_true hin
                obtain ⟨y1, -, -⟩ := cell_at V.out i hin
                generalize hy0 : vs.getD i 0 = y at y1
                have HY := Aside0.mk hy0
                clear hy0
                go_wp2
                go_roundw
                case rel =>
                  have D' := D.out
                  have gy := ok_getD hv i
                  have gx := ok_getD D'.ok (j + i)
                  rw [HX.out] at gx
                  rw [HY.out] at gy
                  rw [db_s D'.c0 D'.c1 gx.1 gx.2 gy.1 gy.2]
                  exact ⟨i + 1, ys.set (j + i) _, _, him, rfl, by go_num, ⟨DB.step (n := n) D' (Nat.le_of_lt hin) (by have := HJ.out; have := HM.out; have := HXL.out; have := C.out.len; omega) hv (by rw [HY.out, HX.out])⟩, ⟨(X.out _).1⟩, ⟨Kd.R_grown V.out (X.out _).2 (far_of hok R.out)⟩, ⟨World.grownBy.trans G.out (X.out _).2⟩⟩
                case measure => simp [intOf]; omega
              · have r4 := lt_false hin
                have hie := Aside0.mk (show i = n by have := HM.out; omega)
                go_wp2
                go_roundw
                case rel =>
                  have D' := D.out
                  have gx := ok_getD D'.ok (j + i)
                  rw [HX.out] at gx
                  rw [db_s1 D'.c0 D'.c1 gx.1 gx.2]
                  exact ⟨i + 1, ys.set (j + i) _, _, him, rfl, by go_num, ⟨DB.step (n := n) D' (Nat.le_of_eq hie.out) (by have := HJ.out; have := HM.out; have := HXL.out; have := C.out.len; omega) hv (by rw [HX.out, getD_ge vs i (by rw [HVL.out, hie.out]; exact Nat.le_refl _)]; simp)⟩, ⟨(X.out _).1⟩, ⟨Kd.R_grown V.out (X.out _).2 (far_of hok R.out)⟩, ⟨World.grownBy.trans G.out (X.out _).2⟩⟩
                case measure => simp [intOf]; omega
            · have r2 := lt_false him
              have D2 := Aside0.mk (by
                have h := D.out
                have hie : i = n + 1 := by have := HM.out; omega
                rw [hie] at h
                exact DC.step C.out hx hv HVL.out HBW.out h)
              have hq2 := C.out.neg hx hv HBW.out
              have HQ2 := Aside0.mk hq2.1
              have HB := Aside0.mk D.out.c0
              clear D
              go_wp2
              go_roundw
              case rel =>
                have h2 := D2.out
                rw [u64w (n := q2 - 1) h2.q0 (by have := h2.q1; omega), u64w (n := bw2 - c2) h2.bw0 (by have := h2.bw1; omega)]
                exact ⟨_, _, ys, rfl, rfl, D2, R, V, G⟩
              case measure =>
                have h2 := D2.out
                rw [u64w (n := q2 - 1) h2.q0 (by have := h2.q1; omega)]
                have := HQ2.out
                simp [intOf]; omega
        · have b1 := gt_false hb
          have HBW := Aside0.mk hb
          clear hb
          have h := C.out
          have hbw : bw2 = 0 := by have := h.bw0; have := HBW.out; omega
          have hqm : q2 % 4294967296 = q2 := by have := h.q0; have := h.q1; omega
          rw [hbw] at h
          have H := Aside0.mk h
          have QM := Aside0.mk hqm
          clear h hbw hqm
          go_wp2
          go_ret
          exact ⟨q2, by (rw [QM.out]; rfl), zs2, H.out, R.out, G.out⟩
end Go.Proofs.Ytndopanohhdfgaa.PA

