/- The contract of nat.Div: quotient and rest of numbers of words. -/
import Derived.Test.YtmbmbmkmjbpcpaaZVK
import Derived.Test.YtmbmbmkmjbpcpaaPAx0K
import Derived.Test.YtmbmbmkmjbpcpaaPAx1K
import Derived.Test.YtmbmbmkmjbpcpaaPAx11K
import Derived.Test.YtmbmbmkmjbpcpaaPAx12K
import Derived.Test.YtmbmbmkmjbpcpaaPAx13K
import Derived.Test.YtmbmbmkmjbpcpaaPAx2K
namespace Go.Proofs.Ytmbmbmkmjbpcpaa.PA
open Go Go.Proofs.Ytmbmbmkmjbpcpaa.Nums Go.RowKit Go.Proofs.YtmbmbmkmjbpcpaaW.PrintWords Go.Proofs.YtmbmbmkmjbpcpaaW.PrintLast Go.Proofs.YtmbmbmkmjbpcpaaW.PrintMore
attribute [local go_sem] max2_int min2_int max_two min_two max_three min_three max_four min_four
set_option linter.unusedVariables false
set_option linter.unusedSimpArgs false
theorem div_prep {l n1 : Nat} (h : l = n1 + 1) (hl : l ≤ 70368744177664) (h1 : 1 ≤ n1) : ((l : Int) == 0) = false ∧ ((l : Int) == 1) = false ∧ wrap64 ((l : Int) - 1) = (n1 : Int) ∧ IntKind.i64.wrap ((l : Int) - 1) = (n1 : Int) ∧ (0 ≤ (n1 : Int)) = True ∧ ((n1 : Int) < (l : Int)) = True := by
  have h3 : wrap64 ((l : Int) - 1) = (n1 : Int) := by rw [w64 (by omega) (by omega)]; omega
  refine ⟨beq_eq_false_iff_ne.mpr (by omega), beq_eq_false_iff_ne.mpr (by omega), h3, (i64_w _).trans h3, eq_true (by omega), ?_⟩
  clear h3; exact eq_true (by omega)
theorem div_prep3 {la lb m1 : Nat} (h : la = m1 + lb) (hl : la ≤ 70368744177664) : wrap64 ((la : Int) - (lb : Int)) = (m1 : Int) := by
  rw [w64 (by omega) (by omega)]; omega
theorem div_prep2 {la lb n1 m : Nat} (h1 : la + 1 = m + (n1 + 1)) (h2 : lb = n1 + 1) (hm : 1 ≤ m) (hl : la ≤ 70368744177000) : ∃ m1 kk : Nat, m = m1 + 1 ∧ kk = m + (n1 + 1) ∧ wrap64 ((la : Int) + 1) = (kk : Int) ∧ IntKind.i64.wrap ((la : Int) + 1) = (kk : Int) ∧ wrap64 ((la : Int) - (lb : Int)) = (m1 : Int) ∧ IntKind.i64.wrap ((la : Int) - (lb : Int)) = (m1 : Int) ∧ wrap64 ((m1 : Int) + 1) = (m : Int) ∧ IntKind.i64.wrap ((m1 : Int) + 1) = (m : Int) := by
  obtain ⟨m1, rfl⟩ : ∃ m1, m = m1 + 1 := ⟨m - 1, by omega⟩
  refine ⟨m1, m1 + 1 + (n1 + 1), rfl, rfl, ?_⟩
  have e1 := idx2 (n := la) (by omega)
  have e2 : wrap64 ((la : Int) - (lb : Int)) = (m1 : Int) := div_prep3 (by omega) (by omega)
  have e3 := idx2 (n := m1) (by omega)
  have e0 : la + 1 = m1 + 1 + (n1 + 1) := h1
  rw [e0] at e1
  exact ⟨e1, (i64_w _).trans e1, e2, (i64_w _).trans e2, e3, (i64_w _).trans e3⟩
theorem div_round {j m n1 kk c9 : Nat} {vs : List Int} (hv : vs.length = n1 + 1) (hk : kk = m + (n1 + 1)) (hj : j + 1 ≤ m) (hc : kk ≤ c9) (hb : kk ≤ 70368744177000) :
    ∃ t1 t mm : Nat, t1 = j + vs.length ∧ t = j + mm ∧ mm = vs.length + 1 ∧ wrap64 ((j : Int) + (vs.length : Int)) = (t1 : Int) ∧ wrap64 ((t1 : Int) + 1) = (t : Int) ∧ t - j = mm ∧ (0 ≤ (t : Int)) = True ∧ ((t : Int) ≤ (c9 : Int)) = True ∧ (j ≤ t) = True ∧ (c9 = j) = False ∧ (0 ≤ (j : Int)) = True ∧ ((j : Int) < (m : Int)) = True ∧ wrap64 ((j : Int) - 1) = (j : Int) - 1 := by
  refine ⟨j + vs.length, j + (vs.length + 1), vs.length + 1, rfl, rfl, rfl, ?_, ?_, by omega, eq_true (by omega), eq_true (by omega), eq_true (by omega), eq_false (by omega), eq_true (by omega), eq_true (by omega), w64 (by omega) (by omega)⟩
  · rw [w64 (by omega) (by omega)]; omega
  · rw [w64 (by omega) (by omega)]; omega
theorem ml_bound {la m n1 : Nat} (h : la + 1 = m + (n1 + 1)) (hl : la ≤ 70368744177000) : (m : Int).toNat * 4 ≤ 281474976710656 := by rw [Int.toNat_natCast]; omega
theorem div_done {a b vs us zs qs : List Int} {s n1 m : Nat} (S : LongSet a b s vs us n1 m) (D : DD m (n1 + 1) (val a * 2 ^ s) (val vs) 0 zs qs) (ob : Ok b) : val qs = val a / val b ∧ val zs / 2 ^ s = val a % val b := by
  have hp : (0 : Int) < 2 ^ s := Int.pow_pos (by omega)
  have h0 := val_nonneg ob
  have hv : val vs = val b * 2 ^ s := by rw [S.vsd, lm_val (Int.mul_nonneg h0 (by omega))]
  have hb : 0 < val b := by
    rcases Int.lt_or_le 0 (val b) with h | h
    · exact h
    · have e : val b = 0 := by omega
      have h1 := D.lt
      rw [List.drop_zero, hv, e, Int.zero_mul] at h1
      have h2 := val_nonneg D.oku
      omega
  exact D.done hv hp hb
theorem cmp_ge {x y : Int} (h : y ≤ x) : (cmp x y < 0) = False := eq_false (by unfold cmp; rw [if_neg (by omega)]; split <;> omega)
set_option maxHeartbeats 8000000 in
set_option maxRecDepth 100000 in
theorem nat_Div_long (A0 : Option Addr) (c0 : Nat) (l0 : List Int) (A1 : Option Addr) (c1 : Nat) (l1 : List Int) (w : World) (hr0 : Kd.C (Kd.int .u32) w A0 l0.length l0) (hc0 : l0.length ≤ c0) (hr1 : Kd.C (Kd.int .u32) w A1 l1.length l1) (hc1 : l1.length ≤ c1) (hL : LongCond l0 l1) :
    Calls Try.prog 89 #[.slice A0 l0.length c0, .slice A1 l1.length c1] w fun e w' => ∃ v0_ v1_ : Value, e = .returned (.tuple #[v0_, v1_, .int .i64 0]) ∧ Kd.R (Kd.int .u32) 68 w' w.heap.size (fun k_ => some k_ ≠ (v1_ : Value).ownBlock) v0_ (lm (val l0 / val l1)) ∧ Kd.R (Kd.int .u32) 68 w' w.heap.size (fun k_ => some k_ ≠ (v0_ : Value).ownBlock) v1_ (lm (val l0 % val l1)) ∧ Below w.heap.size w w' := by
  obtain ⟨s, vs, us, n1, m, S⟩ := long_set hL
  obtain ⟨oa, ob, hla, hlb, h2, hle⟩ := hL
  have oa : Ok l0 := oa
  have ob : Ok l1 := ob
  have h2l := S.lb
  have t0 := trim_len l0
  have t1 := trim_len l1
  obtain ⟨k1, e1⟩ := (trim_f l0 (by omega)).rounds
  obtain ⟨k2, e2⟩ := (trim_f l1 (by omega)).rounds
  obtain ⟨k3, e3⟩ := (cmp_f (trim l0) (trim l1) (trim_ok oa) (trim_ok ob) (by omega) (by omega)).rounds
  have hsm := S.s32
  obtain ⟨k4, e4⟩ := (shl_f (trim l1) (trim_ok ob) s (by omega)).rounds
  obtain ⟨k5, e5⟩ := (shl_f (trim l0) (trim_ok oa) s (by omega)).rounds
  rw [trim_val] at e4 e5
  rw [← S.vsd] at e4
  have z1 := cmp_ge (x := val (trim l0)) (y := val (trim l1)) (by rw [trim_val, trim_val]; exact hle)
  generalize cmp (val (trim l0)) (val (trim l1)) = cc at e3 z1
  have z1b : decide (cc < 0) = false := by simp only [z1]; rfl
  have UL := Aside0.mk (show ((lm (val l0 * 2 ^ s)).length + ([0, 0] : List Int).length) * 4 ≤ 140737488355328 by
    have h1 := S.uup
    simp only [List.length_cons, List.length_nil]; omega)
  have hla3 : (trim l0).length ≤ 70368744177000 := by omega
  obtain ⟨p1, p2, p3, p4, p5, p6⟩ := div_prep h2l (by omega) (by omega)
  obtain ⟨ya, hya⟩ : ∃ y : List Int, y = lm (val l0 * 2 ^ s) ++ [0, 0] := ⟨_, rfl⟩
  have hul : m + (n1 + 1) ≤ ya.length := by rw [hya]; exact S.ulen
  obtain ⟨m1, kk, hmm, hkk, f1, f2, f3, f4, f5, f6⟩ := div_prep2 S.la S.lb S.m1 hla3
  have KL := Aside0.mk (show (kk : Int) ≤ (ya.length : Int) by rw [hkk]; exact Int.ofNat_le.mpr hul)
  clear hul
  have YA := Aside0.mk hya
  have MM := Aside0.mk hmm
  have ML := Aside0.mk (ml_bound S.la hla3)
  have KK := Aside0.mk hkk
  clear hya hmm hkk
  have E1 := Aside0.mk e1
  have E2 := Aside0.mk e2
  have E3 := Aside0.mk e3
  have E4 := Aside0.mk e4
  have E5 := Aside0.mk e5
  have SS := Aside0.mk S
  have LE := Aside0.mk hle
  have OA := Aside0.mk oa
  have OB := Aside0.mk ob
  have LZ := Aside0.mk S.lz
  have LA := Aside0.mk (show l0.length ≤ 35184372088000 from hla)
  have LB := Aside0.mk (show l1.length ≤ 35184372088000 from hlb)
  have C0 := Aside0.mk hr0
  have C1 := Aside0.mk hr1
  clear hla3
  clear e1 e2 e3 e4 e5 S hle oa ob hla hlb h2 hr0 hr1 t0 t1 h2l hsm
  generalize hta : trim l0 = ta at *
  generalize htb : trim l1 = tb at *
  have HTA := Aside0.mk hta
  have HTB := Aside0.mk htb
  clear hta htb
  go_enter Try.func89, Try.ntmps89
  go_wp2_with (fail)
  refine (nat_trim.calls k1 (fun k_ => k_ < w.heap.size) A0 c0 l0 ta _ (Kd.V_mk hc0 (Kd.C_F (Kd.heap_int .u32) C0.out)) E1.out).mono ?_
  rintro e u1 ⟨v2, rfl, hV, hB⟩
  obtain ⟨A2, cp2, rfl⟩ := Kd.V_slice hV
  have D0 := Aside0.mk (Kd.V_reads' hV).2.2
  have hd0 := (Kd.V_reads' hV).2.1
  have B1 := Aside0.mk hB
  replace C1 := Aside0.mk (Kd.C_below C1.out hB)
  clear hB hV C0
  go_wp2_with (fail)
  refine (nat_trim.calls k2 (fun k_ => k_ < u1.heap.size) A1 c1 l1 tb _ (Kd.V_mk hc1 (Kd.C_F (Kd.heap_int .u32) C1.out)) E2.out).mono ?_
  rintro e u2 ⟨v3, rfl, hV, hB⟩
  obtain ⟨A3, cp3, rfl⟩ := Kd.V_slice hV
  have D1 := Aside0.mk (Kd.V_reads' hV).2.2
  have hd1 := (Kd.V_reads' hV).2.1
  have B2 := Aside0.mk (below_then B1.out B1.out.size hB)
  replace D0 := Aside0.mk (Kd.C_below D0.out hB)
  clear hB hV C1 B1
  go_wp2_with (fail)
  refine (nat_Cmp.calls k3 A2 cp2 ta A3 cp3 tb cc _ D0.out hd0 D1.out hd1 E3.out).mono ?_
  rintro e u3 ⟨rfl, hB⟩
  have B3 := Aside0.mk (below_then B2.out B2.out.size hB)
  replace D0 := Aside0.mk (Kd.C_below D0.out hB)
  replace D1 := Aside0.mk (Kd.C_below D1.out hB)
  clear hB B2
  obtain ⟨ad3, rfl, hx⟩ := Kd.at_int D1.out (n1 : Int) (of_eq_true p5) (of_eq_true p6)
  rw [rd_getD, Int.toNat_natCast] at hx
  generalize tb.getD n1 0 = c at hx LZ
  go_wp2_with (fail)
  refine (bits_LeadingZeros32.calls c s _ LZ.out).mono ?_
  rintro e u4 ⟨rfl, hD⟩
  have hB := hD.below
  have B4 := Aside0.mk (below_then B3.out B3.out.size hB)
  replace D0 := Aside0.mk (Kd.C_below D0.out hB)
  replace D1 := Aside0.mk (Kd.C_below D1.out hB)
  clear hB hD B3 hx LZ
  go_wp2_with (fail)
  refine (nat_shl.calls k4 _ cp3 tb s vs _ D1.out hd1 E4.out).mono ?_
  rintro e u5 ⟨v4, rfl, hR, hB⟩
  have RV := Aside0.mk hR
  have B5 := Aside0.mk (below_then B4.out B4.out.size hB)
  replace D0 := Aside0.mk (Kd.C_below D0.out hB)
  clear hB hR B4 D1
  go_wp2_with (fail)
  refine (nat_shl.calls k5 A2 cp2 ta s _ _ D0.out hd0 E5.out).mono ?_
  rintro e u6 ⟨v5, rfl, hR, hB⟩
  have RU := Aside0.mk hR
  have B6 := Aside0.mk (below_then B5.out B5.out.size hB)
  replace RV := Aside0.mk (Kd.R_below (row_lt RV.out (Nat.le_refl _)) hB)
  have T := Aside0.mk (show w.heap.size ≤ u5.heap.size from B5.out.size)
  have S6 := Aside0.mk hB.size
  clear hB hR B5 D0
  replace RU := Aside0.mk (Kd.R_lower (row_ge RU.out) T.out)
  have NE := Aside0.mk (show ∀ k, v5.ownBlock = some k → some k ≠ v4.ownBlock from fun k hk e => by
    have h1 := RU.out.1 k hk
    have h2 := RV.out.1 k e.symm
    omega)
  have T6 := Aside0.mk (show u5.heap.size ≤ u6.heap.size by first | exact S6.out)
  go_wp2_with (first
   | ((with_reducible refine gate_dst (N := 58) rfl ?_); refine Kd.R_lit (Kd.int .u32) _ 68 ?hg (N := 58) ?hd (xs := ([0, 0] : List Int)) (inner := [.int .u32 0, .int .u32 0]) (ok := fun _ => True) (okp := fun _ => True) ?hr ?hp (fun _ hk => hk) trivial (Below.refl _ _) (Nat.le_refl _) (by simp) ?_; (case hd => rfl); (case hg => rfl); (case hr => first | (go_simp; done) | (go_simp; rfl)); (case hp => exact (Reps.one (show Kd.M (Kd.int .u32) _ _ _ 0 [.int .u32 0] from rfl) (Reps.one (show Kd.M (Kd.int .u32) _ _ _ 0 [.int .u32 0] from rfl) (Reps.none _ _)))); intro v6 u7 ho8 hb hg_ hnew_; have n0_ := Aside0.mk (Kd.R_below RV.out hb); have n1_ := Aside0.mk (Kd.R_below RU.out hb); have n2_ := Aside0.mk (below_then B6.out B6.out.size hb); have n3_ := Aside0.mk (Nat.le_trans T6.out hb.size); have RL := Aside0.mk ho8; clear RV RU B6 T6; have RV := n0_; have RU := n1_; have B7 := n2_; have T7 := n3_; clear n0_ n1_ n2_ n3_ hb hg_ hnew_ ho8; obtain ⟨A8, c8, e8⟩ := Kd.R_slice RL.out; subst e8)
   | ((with_reducible refine gate_builtin (b := .append) (xs := #[.tmp 57, .tmp 58]) rfl ?_); at_builtin; refine Kd.R_append_rows (Kd.int .u32) (w0 := w) w.heap.size rfl (.tmp 57) (.tmp 58) 23 68 (.int .u32 0) 4 rfl Try.underlying23 info68 rfl (by decide) (by omega) v5 (lm (val l0 * 2 ^ s)) ([0, 0] : List Int) _ _ _ (fun k => u5.heap.size ≤ k) (fun _ => False) rfl rfl RU.out (Kd.R_reads' RL.out).2.2 (fun _ _ h => h) (fun _ h => h.elim) (fun k hk => Nat.le_trans T7.out hk) B7.out B7.out.size UL.out ?_; intro v9 u8 ho hb hg hat; rw [← YA.out] at ho; have n0_ := Aside0.mk (Kd.R_grown2 RV.out rfl hg NE.out); have n1_ := Aside0.mk ho; have n2_ := Aside0.mk hb; clear RV RU B7 RL NE; have RV := n0_; have RU := n1_; have B8 := n2_; clear n0_ n1_ n2_ hb hg hat ho; obtain ⟨A9, c9, e9⟩ := Kd.R_slice RU.out; subst e9; obtain ⟨i0, hi0, _, hsz, _⟩ := info_parts info68; have hcut := cut_to (P := Try.prog) 23 68 .i64 Try.underlying23 hi0 A9 ya.length c9 (kk : Int) (Int.natCast_nonneg _) KL.out (Kd.R_reads' RU.out).2.1; rw [Int.toNat_natCast] at hcut; clear hi0 hsz)
   | ((with_reducible refine gate_dst (N := 70) rfl ?_); refine Kd.R_make (Kd.int .u32) _ 68 rfl (N := 70) rfl 23 _ _ rfl (m : Int) rfl rfl Try.underlying23 (.int .u32 0) 4 info68 rfl (by decide) (by omega) 0 (ok := fun _ => True) (okp := fun _ => True) rfl (fun _ hk => hk) trivial (Int.natCast_nonneg _) ML.out (Below.refl _ _) (Nat.le_refl _) ?_; intro v10 u9 ho6 hb hg_ hnew_; rw [Int.toNat_natCast] at ho6; have n0_ := Aside0.mk (Kd.R_below RV.out hb); have n1_ := Aside0.mk (Kd.R_below (Kd.R_mono (Kd.R_bound RU.out) (ok' := fun k => u5.heap.size ≤ k ∧ k < u8.heap.size) (fun k hk => ⟨hk.1, hk.2.2.1⟩)) hb); have n2_ := Aside0.mk (below_then B8.out B8.out.size hb); have RQ := Aside0.mk (row_ge ho6); clear RV RU B8; have RV := n0_; have RU := n1_; have B9 := n2_; clear n0_ n1_ n2_ hb hg_ hnew_ ho6))
  have RU2 := Aside0.mk (Kd.R_take (m := kk) RU.out (Int.ofNat_le.mp KL.out))
  clear RU
  have hu : ya.take kk = us := by rw [YA.out, KK.out]; exact SS.out.usd.symm
  rw [hu] at RU2
  have ul := (Kd.R_reads' RU2.out).1
  have vl := SS.out.vlen
  obtain ⟨gv, cv, rfl, -, -, -⟩ := Kd.R_form RV.out (by rw [vl]; omega)
  have hkk := KK.out
  obtain ⟨g, cu, eg, -, -, -⟩ := Kd.R_form RU2.out (by rw [← ul, hkk]; omega)
  have hm1 := SS.out.m1
  obtain ⟨gq, cq, rfl, -, -, -⟩ := Kd.R_form RQ.out (by simp; omega)
  injection eg with ea en ec
  subst ea
  subst ec
  have VL := Aside0.mk vl
  rw [List.length_replicate] at RQ
  have UL2 := Aside0.mk ul
  clear en ul vl hkk hm1 hu
  have DS := Aside0.mk SS.out.start
  have MJ : (m1 : Int) = (m : Int) - 1 := by have := MM.out; omega
  rw [MJ, List.length_replicate]
  go_loopw [13] (fun v13 wr => ∃ (j : Nat) (zs qs : List Int), v13 = .int .i64 ((j : Int) - 1) ∧ Aside0 (DD m (n1 + 1) (val l0 * 2 ^ s) (val vs) j zs qs) ∧ Aside0 (Kd.R (Kd.int .u32) 68 wr w.heap.size (fun k => u5.heap.size ≤ k ∧ k < u8.heap.size) (.slice (some ⟨g, 0, none⟩) kk c9) zs) ∧ Aside0 (Kd.R (Kd.int .u32) 68 wr u4.heap.size (fun k => k < u5.heap.size) (.slice (some ⟨gv, 0, none⟩) vs.length cv) vs) ∧ Aside0 (Kd.R (Kd.int .u32) 68 wr u8.heap.size (fun k => u8.heap.size ≤ k) (.slice (some ⟨gq, 0, none⟩) m cq) qs) ∧ Aside0 (Below w.heap.size w wr)) (fun v13 _ => (intOf v13 + 1).toNat)
  case atStart => exact ⟨m, us, List.replicate m 0, rfl, DS, RU2, RV, RQ, B9⟩
  case round =>
    clear DS RU2 RV RQ B9
    obtain ⟨j, zs, qs, rfl, D, RU, RV, RQ, B⟩ := hrel
    rcases j with _ | j
    · obtain ⟨k6, e6⟩ := (trim_own_f qs (by have h1 := D.out.lenq; have h2 := SS.out.la; have h3 := trim_len l0; have h4 := LA.out; omega)).rounds
      have T8 := Aside0.mk (show u5.heap.size ≤ u8.heap.size by have := RU.out.1 g rfl; omega)
      have S8 := Aside0.mk (show u8.heap.size ≤ wr.heap.size by have h1 := RQ.out.1 gq rfl; have h2 := Kd.R_lt RQ.out gq rfl; omega)
      have ST := Aside0.mk (Nat.le_trans T.out T8.out)
      obtain ⟨k7, e7⟩ := (trim_own_f zs (by have h1 := D.out.lenu; have h2 := SS.out.la; have h3 := trim_len l0; have h4 := LA.out; omega)).rounds
      obtain ⟨k8, e8⟩ := (shr_f (trim zs) (trim_ok D.out.oku) (by have h1 := D.out.lenu; have h2 := SS.out.la; have h3 := trim_len l0; have h4 := LA.out; have h5 := trim_len zs; omega) s (by have := SS.out.s32; omega)).rounds
      rw [trim_val] at e8
      have hd := div_done SS.out D.out OB.out
      rw [hd.2] at e8
      rw [trim_lm D.out.okq, hd.1] at e6
      have E6 := Aside0.mk e6
      have E7 := Aside0.mk e7
      have E8 := Aside0.mk e8
      clear e6 e7 e8 hd D
      generalize trim zs = uu at E7 E8
      obtain ⟨qq, hqq⟩ : ∃ q, q = lm (val l0 / val l1) := ⟨_, rfl⟩
      obtain ⟨rr, hrr⟩ : ∃ q, q = lm (val l0 % val l1) := ⟨_, rfl⟩
      rw [← hqq] at E6
      rw [← hrr] at E8
      have QQ := Aside0.mk hqq
      have RRE := Aside0.mk hrr
      clear hqq hrr
      go_wp2_with (fail)
      refine (nat_trim_own.calls k6 (fun k => u8.heap.size ≤ k) _ qs qq w _ B.out (Kd.R_lower RQ.out ST.out) E6.out).mono ?_
      rintro e w2 ⟨v20, rfl, hq, hb, hk⟩
      have RQ2 := Aside0.mk (Kd.R_mono hq (ok' := fun k => u8.heap.size ≤ k) (fun k h => h.elim id (fun h => Nat.le_trans S8.out h)))
      have RU2 := Aside0.mk (Kd.R_kept RU.out hk (fun k h h2 => by omega))
      have B2 := Aside0.mk hb
      have S9 := Aside0.mk (Nat.le_trans S8.out hk.1)
      clear hq hb hk RQ RU RV B S8 E6
      go_wp2_with (fail)
      refine (nat_trim_own.calls k7 (fun k => u5.heap.size ≤ k ∧ k < u8.heap.size) _ zs uu w _ B2.out RU2.out E7.out).mono ?_
      rintro e w3 ⟨v21, rfl, hu, hb, hk⟩
      have RQ3 := Aside0.mk (Kd.R_kept RQ2.out hk (fun k h h2 => by omega))
      have RU3 := Aside0.mk hu
      have B3 := Aside0.mk hb
      obtain ⟨A22, c22, e22⟩ := Kd.R_slice hu
      subst e22
      clear hu hb hk RQ2 RU2 B2 E7
      go_wp2_with (fail)
      refine (nat_shr.calls k8 A22 c22 uu s rr _ (Kd.R_reads' RU3.out).2.2 (Kd.R_reads' RU3.out).2.1 E8.out).mono ?_
      rintro e w4 ⟨v23, rfl, hr, hb⟩
      have RR := Aside0.mk hr
      have RQ4 := Aside0.mk (Kd.R_below (Kd.R_mono (Kd.R_bound RQ3.out) (ok' := fun k => k < w3.heap.size) (fun k h => h.2.2.1)) hb)
      have LQ := Aside0.mk (Kd.R_lt RQ3.out)
      have B4 := Aside0.mk (below_then B3.out B3.out.size hb)
      clear hr hb RQ3 RU3 E8
      go_wp2_with (fail)
      go_ret3
      rw [← QQ.out, ← RRE.out]
      exact ⟨v20, v23, rfl, Kd.R_mono RQ4.out (fun k hk e => by have h1 := Kd.R_base RR.out k e.symm; omega), Kd.R_lower (Kd.R_mono (Kd.R_bound RR.out) (fun k hk e => by have h1 := LQ.out k e.symm; omega)) B3.out.size, B4.out⟩
    · rw [show (((j + 1 : Nat) : Int) - 1) = (j : Int) from by omega]
      obtain ⟨t1, t, mm, h1, h2, h3, e1, e2, e3, q1, q2, q3, q4, q5, q6, e4⟩ := div_round (j := j) (m := m) (n1 := n1) (kk := kk) (c9 := c9) VL.out KK.out D.out.jm (Kd.R_reads' RU.out).2.1 (by have h1 := KK.out; have h2 := SS.out.la; have h3 := trim_len l0; have h4 := LA.out; omega)
      have T1 := Aside0.mk h1
      have T2 := Aside0.mk h2
      have T3 := Aside0.mk h3
      have E3' := Aside0.mk e3
      have E4' := Aside0.mk e4
      clear h1 h2 h3 e4
      go_wp2_with (fail)
      refine (digit_calls g gv j vs.length n1 mm kk c9 _ cv w.heap.size u4.heap.size u5.heap.size (fun k => u5.heap.size ≤ k ∧ k < u8.heap.size) (fun _ h => h.1) zs vs wr RU.out RV.out VL.out T3.out (by have h1 := KK.out; have h2 := D.out.jm; have h3 := T3.out; have h4 := VL.out; omega) D.out.oku SS.out.vok (by have h1 := KK.out; have h2 := SS.out.la; have h3 := trim_len l0; have h4 := LA.out; omega) SS.out.vtop (by rw [VL.out]; exact D.out.window)).mono ?_
      rintro e wd ⟨q, ys, rfl, DQ, hU, hg⟩
      rw [VL.out] at DQ
      have D2 := Aside0.mk (D.out.step SS.out.vok VL.out DQ)
      have RV2 := Aside0.mk (Kd.R_grown RV.out hg (far_of (fun _ h => h.1) RU.out))
      have RQ2 := Aside0.mk (Kd.R_grown RQ.out hg (up_of (fun _ h => h.2) RU.out))
      have RU2 := Aside0.mk hU
      have B2 := Aside0.mk (pw_below_grown B.out (some g) B.out.size hg (fun k hk => by injection hk with hk; have := (RU.out.1 g rfl).1; have := T.out; omega))
      clear D RV RQ RU B hg hU DQ
      obtain ⟨x1, x2, x3⟩ := cell_at RQ2.out j (by have := D2.out.jm; have := of_eq_true q6; omega)
      have X := Aside0.mk x3
      clear x3
      generalize qs.getD j 0 = qo at x1
      go_wp2_with (fail)
      go_roundw
      case rel => exact ⟨j, ys, qs.set j q, by rw [E4'.out], D2, ⟨Kd.R_grown RU2.out (X.out q).2 (up_of2 RQ2.out)⟩, ⟨Kd.R_grown RV2.out (X.out q).2 (far_of (fun _ h => by have := (RU2.out.1 g rfl); omega) RQ2.out)⟩, ⟨(X.out q).1⟩, ⟨pw_below_grown B2.out (some gq) B2.out.size (X.out q).2 (fun k hk => by injection hk with hk; have := RQ2.out.1 gq rfl; have := (RU2.out.1 g rfl); have := T.out; omega)⟩⟩
      case measure => rw [E4'.out]; simp [intOf]
def nat_Div.f (k : Nat) (l0 : List Int) (l1 : List Int) : Option (List Int × List Int × Int) := if LongCond l0 l1 then some (lm (val l0 / val l1), lm (val l0 % val l1), 0) else nat_DivP.f k l0 l1
theorem nat_Div.calls (k : Nat) (A0 : Option Addr) (c0 : Nat) (l0 : List Int) (A1 : Option Addr) (c1 : Nat) (l1 : List Int) (r1 : List Int) (r2 : List Int) (r3 : Int) (w : World) (hr0 : Kd.C (Kd.int .u32) w A0 l0.length l0) (hc0 : l0.length ≤ c0) (hr1 : Kd.C (Kd.int .u32) w A1 l1.length l1) (hc1 : l1.length ≤ c1) (h : nat_Div.f k l0 l1 = some (r1, r2, r3)) :
    Calls Try.prog 89 #[.slice A0 l0.length c0, .slice A1 l1.length c1] w fun e w' => ∃ v0_ v1_ : Value, e = .returned (.tuple #[v0_, v1_, .int .i64 r3]) ∧ Kd.R (Kd.int .u32) 68 w' w.heap.size (fun k_ => some k_ ≠ (v1_ : Value).ownBlock) v0_ r1 ∧ Kd.R (Kd.int .u32) 68 w' w.heap.size (fun k_ => some k_ ≠ (v0_ : Value).ownBlock) v1_ r2 ∧ Below w.heap.size w w' := by
  unfold nat_Div.f at h
  by_cases hL : LongCond l0 l1
  · rw [if_pos hL] at h
    simp only [Option.some.injEq, Prod.mk.injEq] at h
    obtain ⟨rfl, rfl, rfl⟩ := h
    exact nat_Div_long A0 c0 l0 A1 c1 l1 w hr0 hc0 hr1 hc1 hL
  · rw [if_neg hL] at h
    exact nat_DivP.calls k A0 c0 l0 A1 c1 l1 r1 r2 r3 w hr0 hc0 hr1 hc1 h
end Go.Proofs.Ytmbmbmkmjbpcpaa.PA

