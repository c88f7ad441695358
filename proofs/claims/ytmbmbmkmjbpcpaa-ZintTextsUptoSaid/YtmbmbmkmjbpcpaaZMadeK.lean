/- The contract of zint.made: a number in its one form, its limbs copied. -/
import Derived.Laws.CopyOwn
import Derived.Test.YtmbmbmkmjbpcpaaZkitK
import Derived.Test.YtmbmbmkmjbpcpaaNatR1K
import Derived.Test.YtmbmbmkmjbpcpaaPAx0K
namespace Go.Proofs.Ytmbmbmkmjbpcpaa.PA
open Go Go.Proofs.Ytmbmbmkmjbpcpaa.Nums Go.RowKit Go.Proofs.YtmbmbmkmjbpcpaaW.PrintWords Go.Proofs.YtmbmbmkmjbpcpaaW.PrintLast Go.Proofs.YtmbmbmkmjbpcpaaW.PrintMore
set_option linter.unusedVariables false
set_option linter.unusedSimpArgs false
/-- the sign of a number in its one form -/
def sg (neg : Bool) (v : Int) : Bool := neg && decide (v ≠ 0)
theorem made_dec {n m : Nat} (hm : m = n + 1) (hn : n ≤ 70368744177664) : wrap64 ((m : Int) - 1) = (n : Int) ∧ IntKind.i64.wrap ((m : Int) - 1) = (n : Int) := by
  have h : wrap64 ((m : Int) - 1) = (n : Int) := by rw [w64 (by omega) (by omega)]; omega
  exact ⟨h, (i64_w _).trans h⟩
theorem made_less {l : List Int} {n : Nat} (hn : n < l.length) (hz : l.getD n 0 = 0) (h : trim (l.take (n + 1)) = trim l) : trim (l.take n) = trim l := by
  rw [take_succ' l n hn, hz, trim_snoc_zero] at h; exact h
theorem made_stop {l : List Int} {n : Nat} (hn : n < l.length) (hz : ¬ l.getD n 0 = 0) (h : trim (l.take (n + 1)) = trim l) : l.take (n + 1) = trim l := by
  rw [take_succ' l n hn, trim_snoc_ne _ hz] at h; rw [take_succ' l n hn]; exact h
theorem Below.of_grown {w w1 : World} (h : w.grownBy w1 none) : Below w.heap.size w w1 := ⟨h.os, h.tape, h.output, h.size, fun k hk => h.block k hk (by simp)⟩
/-- a row of the call's own, opened -/
theorem own_open {w : World} {base g n c : Nat} {ok : Nat → Prop} {zs : List Int} (h : Kd.R (Kd.int .u32) 68 w base ok (.slice (some ⟨g, 0, none⟩) n c) zs) :
    ∃ cur, w.heap[g]? = some (.cells cur 68 (0, 0)) ∧ n ≤ c ∧ c ≤ maxLen ∧ cur.size = c ∧ n = zs.length ∧ base ≤ g := by
  have hn := (Kd.R_reads' h).1
  subst hn
  obtain ⟨h1, h2⟩ := Kd.own_of_R h
  rcases h2 with ⟨h2, -⟩ | ⟨g', cap, cur, e, hb, hc, hle, hm, hs, ht⟩
  · cases h2
  · injection e with e1 e2 e3
    injection e1 with e1
    injection e1 with e1
    subst e1
    subst e3
    exact ⟨cur, hc, hle, hm, by omega, rfl, hb⟩
theorem info1_68 : (Try.prog.info? 68).map (·.size) = some 1 := by
  obtain ⟨i, hi, h⟩ := Option.map_eq_some_iff.1 info68
  rw [hi]
  simp only [Prod.mk.injEq] at h
  simp [h.2.1]
theorem nums_one (k : IntKind) (xs : List Int) : ∀ v ∈ nums k xs, v.oneCell' = true := by
  intro v hv
  obtain ⟨x, -, rfl⟩ := List.mem_map.mp hv
  rfl
theorem made_src {w : World} {ad : Addr} {l : List Int} {m : Nat} (h : Kd.C (Kd.int .u32) w (some ad) l.length l) (hm : m ≤ l.length) : ∀ j v, (nums .u32 (l.take m))[j]? = some v → w.cell? (ad.add j) = some v := by
  intro j v hj
  obtain ⟨-, -, h5⟩ := Kd.reads_of_C (d := (0 : Int)) h
  simp only [nums, List.getElem?_map, Option.map_eq_some_iff] at hj
  obtain ⟨x, hx, rfl⟩ := hj
  have hlt := (List.getElem?_eq_some_iff.mp hx).1
  rw [List.length_take] at hlt
  obtain ⟨ad2, e, h6⟩ := h5 (by omega)
  injection e with e
  subst e
  rw [h6 j (by omega)]
  rw [List.getElem?_take_of_lt (by omega)] at hx
  simp [List.getD, hx]
theorem made_copied {w : World} {base g n c : Nat} {ok : Nat → Prop} {zs xs : List Int} (h : Kd.R (Kd.int .u32) 68 w base ok (.slice (some ⟨g, 0, none⟩) n c) zs) (hx : xs.length = n) {cur : Array Value} (hc : w.heap[g]? = some (.cells cur 68 (0, 0))) :
    Kd.R (Kd.int .u32) 68 (w.setRow g (cur.toList.take 0 ++ (nums .u32 xs ++ cur.toList.drop (0 + (nums .u32 xs).length))).toArray) base ok (.slice (some ⟨g, 0, none⟩) n c) xs := by
  obtain ⟨cur2, hc2, h1, h2, h3, -, h4⟩ := own_open h
  rw [hc] at hc2
  injection hc2 with hc2
  injection hc2 with hc2
  subst hc2
  subst hx
  have hl : (nums .u32 xs).length = xs.length := nums_length _ _
  refine Kd.R_of_own ⟨by simp [encs], .inr ⟨g, c, _, rfl, h4, setRow_heap w g cur _ _ _ hc, h1, h2, ?_, ?_⟩⟩ (fun k hk => h.1 k hk)
  · simp [hl]; omega
  · simp [hl, encs, nums]
theorem made_box {w0 w : World} {T : TypeId} {cs : Array Value} {a g : Nat} (h : St w0 w [(a, T, cs)]) (hg : a < g) (cs2 : Array Value) : St w0 (w.setRow g cs2) [(a, T, cs)] := by
  obtain ⟨h1, h2, h3⟩ := h.box _ (List.mem_singleton.mpr rfl)
  refine ⟨below_setRow h.below (by have : w0.heap.size ≤ a := h1; omega) cs2, fun p hp => ?_⟩
  have := List.mem_singleton.mp hp
  subst this
  exact ⟨h1, h2, (setRow_other w g a cs2 (by omega)).trans h3⟩
theorem made_apart {w0 w : World} {T : TypeId} {cs cur : Array Value} {g : Nat} (h : St w0 w [(w0.heap.size, T, cs)]) (hg : w0.heap.size ≤ g) (hc : w.heap[g]? = some (.cells cur 68 (0, 0))) : w0.heap.size < g := by
  obtain ⟨-, h2, h1⟩ := h.box _ (List.mem_singleton.mpr rfl)
  rcases Nat.lt_or_eq_of_le hg with h | h
  · exact h
  · have h1 : w.heap[w0.heap.size]? = some (.cells cs T (0, 0)) := h1
    rw [h, hc] at h1
    injection h1 with h3
    injection h3 with h3 h4
    exact absurd h4.symm h2
theorem made_far {w : World} {base g n c B : Nat} {xs : List Int} (h : Kd.R (Kd.int .u32) 68 w base (fun k => some k = (Value.slice (some ⟨g, 0, none⟩) n c).ownBlock) (.slice (some ⟨g, 0, none⟩) n c) xs) (hg : B < g) (u1 u2 : Value) :
    Kd.R (Kd.int .u32) 68 ((w.setCell ⟨B, 0, none⟩ u1).setCell ⟨B, 1, none⟩ u2) base (fun k => some k = (Value.slice (some ⟨g, 0, none⟩) n c).ownBlock) (.slice (some ⟨g, 0, none⟩) n c) xs := by
  have hne : ∀ k, some k = (Value.slice (some ⟨g, 0, none⟩) n c).ownBlock → k ≠ B := by
    intro k hk
    injection hk with hk
    have hk : k = g := hk
    omega
  exact Kd.R_far (p := ⟨B, 1, none⟩) (Kd.R_far (p := ⟨B, 0, none⟩) h hne u1) hne u2
set_option maxHeartbeats 8000000 in
set_option maxRecDepth 100000 in
theorem zint_made.sem (neg : Bool) (v : Value) (l : List Int) (w : World) (hv : Rd w v l) (ol : Ok l) (hl : l.length ≤ 70368744177664) :
    Calls Try.prog 69 #[.bool neg, v] w fun e w' => ∃ v', e = .returned (.agg #[.bool (sg neg (val l)), v']) ∧ Kd.R (Kd.int .u32) 68 w' w.heap.size (fun _ => True) v' (lm (val l)) ∧ Below w.heap.size w w' := by
  obtain ⟨A, c, rfl, hc, hC⟩ := hv
  have C := Aside0.mk hC
  have OL := Aside0.mk ol
  have HL := Aside0.mk hl
  clear hC ol hl
  go_enter Try.func69, Try.ntmps69
  go_wp2
  go_loopw [5] (fun v5 wr => ∃ n : Nat, v5 = .int .i64 n ∧ Aside0 (n ≤ l.length ∧ trim (l.take n) = trim l) ∧ Aside0 (St w wr [(w.heap.size, 25, #[.bool false, .slice none 0 0])]) ∧ Aside0 (Kd.C (Kd.int .u32) wr A l.length l)) (fun v5 _ => (intOf v5).toNat)
  case atStart => exact ⟨l.length, rfl, ⟨Nat.le_refl _, by rw [List.take_of_length_le (Nat.le_refl _)]⟩, ⟨(St.start w).alloc _ (by decide) _⟩, ⟨Kd.C_alloc C.out _⟩⟩
  case round =>
    clear C
    obtain ⟨n, rfl, N, S, C⟩ := hrel
    rcases n with _ | n
    · obtain ⟨c0, c1, f0, f1⟩ := S.out.box2 (List.mem_singleton.mpr rfl)
      go_wp2
      have S2 := ((S.out.set 0 _ rfl (fun j q hj hq => by simp [hj] at hq) 0 (.bool false)).set 0 _ rfl (fun j q hj hq => by simp [hj] at hq) 1 (.slice none 0 0))
      refine bodyPost_ret (results_cell_row rfl _ _ w.heap.size 25 #[.bool false, .slice none 0 0] (0, 0) _ rfl (S2.box _ (List.mem_singleton.mpr rfl)).2.2 Try.underlying25 rfl (by kernel_rfl)) rfl ?_
      have hz : val l = 0 := by rw [← trim_val, ← N.out.2, List.take_zero, trim_val, val_nil]
      rw [hz, lm_zero]
      exact ⟨.slice none 0 0, by simp [sg], Kd.R_nil _ _ _ _ _, S2.below⟩
    · obtain ⟨m, hm⟩ : ∃ m, m = n + 1 := ⟨_, rfl⟩
      rw [← hm] at N ⊢
      obtain ⟨d1, d2⟩ := made_dec (n := n) (m := m) hm (by have := N.out.1; have := HL.out; omega)
      have t1 : (0 ≤ (n : Int)) = True := eq_true (by omega)
      have t2 : ((n : Int) < (l.length : Int)) = True := eq_true (by have := N.out.1; omega)
      have t3 : (0 < m) = True := eq_true (by omega)
      have t4 : ((m : Int) == 0) = false := beq_eq_false_iff_ne.mpr (by omega)
      obtain ⟨ad, rfl, hx⟩ := Kd.at_int C.out (n : Int) (by omega) (by have := N.out.1; omega)
      rw [rd_getD, Int.toNat_natCast] at hx
      have M := Aside0.mk hm
      clear hm
      obtain ⟨x, hxd⟩ : ∃ x, x = l.getD n 0 := ⟨_, rfl⟩
      rw [← hxd] at hx
      have X := Aside0.mk hxd
      clear hxd
      by_cases hz : x = 0
      · have z1 : (x == 0) = true := beq_iff_eq.mpr hz
        have Z := Aside0.mk hz
        clear hz
        go_wp2
        go_roundw
        case rel => exact ⟨n, rfl, ⟨by have := N.out.1; have := M.out; omega, made_less (by have := N.out.1; have := M.out; omega) (by rw [← X.out]; exact Z.out) (by rw [← M.out]; exact N.out.2)⟩, S, C⟩
        case measure => have := M.out; simp [intOf]; omega
      · have z1 : (x == 0) = false := beq_eq_false_iff_ne.mpr hz
        have TR := Aside0.mk (made_stop (l := l) (n := n) (by have := N.out.1; have := M.out; omega) (by rw [← X.out]; exact hz) (by rw [← M.out]; exact N.out.2))
        clear hz
        have LT := Aside0.mk (show (l.take m).length = m by rw [List.length_take]; have := N.out.1; omega)
        have ML := Aside0.mk (show (m : Int).toNat * 4 ≤ 281474976710656 by have := HL.out; have := N.out.1; rw [Int.toNat_natCast]; omega)
        go_wp2_with (first
          | ((with_reducible refine gate_dst (N := 25) rfl ?_); refine Kd.R_make (Kd.int .u32) w.heap.size 68 rfl (N := 25) rfl 23 _ _ rfl (m : Int) rfl rfl Try.underlying23 (.int .u32 0) 4 info68 rfl (by decide) (by omega) 0 (ok := fun _ => True) (okp := fun _ => True) rfl (fun _ hk => hk) trivial (Int.natCast_nonneg _) ML.out S.out.below S.out.below.size ?_; intro v10 u9 ho6 hb hg_ hnew_; rw [Int.toNat_natCast] at ho6; have n0_ := Aside0.mk (S.out.call (Below.of_grown hg_)); have RQ := Aside0.mk ho6; have n1_ := Aside0.mk (Kd.C_below C.out (Below.of_grown hg_)); clear S C hx; have S := n0_; have C := n1_; clear n0_ n1_ hb hg_ hnew_ ho6; obtain ⟨g, cap, e10, -, -, -⟩ := Kd.R_form RQ.out (by rw [List.length_replicate]; have := M.out; omega); rw [List.length_replicate] at e10; subst e10; obtain ⟨cur, hcur, hmc, hcx, hcs, -, hgb⟩ := own_open RQ.out; have HS := Aside0.mk (made_src (m := m) C.out N.out.1); have HC := Aside0.mk hcur; have HF := Aside0.mk (show 0 + (nums .u32 (l.take m)).length ≤ cur.size by simp [nums]; omega); have HN := Aside0.mk (show (nums .u32 (l.take m)).length = Nat.min l.length m by simp [nums]; exact Nat.min_comm _ _); have HG := Aside0.mk (made_apart S.out hgb hcur); clear hcur hmc hcx hcs hgb)
          | ((with_reducible refine gate_builtin (b := .copy) (xs := #[.tmp 26, .tmp 27]) rfl ?_); refine wpList_copy_own rfl (.tmp 26) (.tmp 27) 23 23 rfl 68 Try.underlying23 info1_68 g 0 m cap ad l.length c rfl rfl cur 68 HC.out (nums .u32 (l.take m)) HN.out HS.out HF.out (nums_one _ _) ?_; have n0_ := Aside0.mk (made_copied RQ.out LT.out HC.out); have n1_ := Aside0.mk (made_box S.out HG.out (cur.toList.take 0 ++ (nums .u32 (l.take m) ++ cur.toList.drop (0 + (nums .u32 (l.take m)).length))).toArray); clear S C RQ HC HS HF HN; have RQ := n0_; have S := n1_; clear n0_ n1_; generalize World.setRow _ _ _ = w2 at RQ S ⊢; obtain ⟨c0, c1, f0, f1⟩ := St.box2 S.out (g := w.heap.size) (t := 25) (x := .bool false) (y := .slice none 0 0) (List.mem_singleton.mpr rfl)))
        have S2 := ((S.out.set 0 _ rfl (fun j q hj hq => by simp [hj] at hq) 0 (.bool neg)).set 0 _ rfl (fun j q hj hq => by simp [hj] at hq) 1 (.slice (some ⟨g, 0, none⟩) m cap))
        refine bodyPost_ret (results_cell_row rfl _ _ w.heap.size 25 #[.bool neg, .slice (some ⟨g, 0, none⟩) m cap] (0, 0) _ rfl (S2.box _ (List.mem_singleton.mpr rfl)).2.2 Try.underlying25 rfl (by kernel_rfl)) rfl ?_
        have e : l.take m = lm (val l) := by rw [M.out, TR.out, trim_lm OL.out]
        have hz : val l ≠ 0 := by
          intro h0
          have h1 := LT.out
          rw [e, h0, lm_zero] at h1
          have := M.out
          simp at h1; omega
        have RF := Aside0.mk (made_far (Kd.R_tight rfl RQ.out) HG.out)
        rw [e] at RF
        refine ⟨.slice (some ⟨g, 0, none⟩) m cap, by simp [sg, hz], Kd.R_mono (RF.out _ _) (fun _ _ => trivial), S2.below⟩
end Go.Proofs.Ytmbmbmkmjbpcpaa.PA

