/- The contract of nat.Read: the number of a text, or the place of its first fault. -/
import Derived.Laws.RangeAny
import Derived.Lib.OthersKept
import Derived.Test.YtnlkafjhbjlhaaaNatReadK
import Derived.Test.YtnlkafjhbjlhaaaNatGrowK
import Derived.Test.YtnlkafjhbjlhaaaRowkK
import Derived.Test.YtnlkafjhbjlhaaaPAx1K
import Derived.Test.YtnlkafjhbjlhaaaPAx13K
namespace Go.Proofs.Ytnlkafjhbjlhaaa.PA
open Go Go.Proofs.Ytnlkafjhbjlhaaa.Nums Go.RowKit Go.Proofs.YtnlkafjhbjlhaaaW.PrintWords Go.Proofs.YtnlkafjhbjlhaaaW.PrintLast Go.Proofs.YtnlkafjhbjlhaaaW.PrintMore
attribute [local go_sem] max2_int min2_int max_two min_two max_three min_three max_four min_four
set_option linter.unusedVariables false
set_option linter.unusedSimpArgs false
def nat_Read.f (s : ByteArray) : Option (List Int × Int × Int) := some (readR s)
theorem scan_at {s : ByteArray} (p : Nat) : ∀ d i, i + d = s.size → i ≤ p → p ≤ s.size → (∀ j, i ≤ j → j < p → badAt s j = false) → scan s d i = scan s (s.size - p) p := by
  intro d
  induction d with
  | zero =>
    intro i h h1 h2 _
    have : i = p := by omega
    subst this
    have : s.size - i = 0 := by omega
    rw [this]
  | succ d ih =>
    intro i h h1 h2 hg
    by_cases e : i = p
    · subst e
      have : s.size - i = d + 1 := by omega
      rw [this]
    · have := hg i (Nat.le_refl _) (by omega)
      have e2 : scan s (d + 1) i = scan s d (i + 1) := by rw [scan, this]; rfl
      rw [e2]
      exact ih (i + 1) (by omega) (by omega) h2 (fun j h3 h4 => hg j (by omega) h4)
theorem scan_bad {s : ByteArray} {p : Nat} (hp : p < s.size) (hg : ∀ j, j < p → badAt s j = false) (hb : badAt s p = true) : scanR s (scan s s.size 0) = ([], (p : Int), 4) := by
  rw [scan_at p s.size 0 (by omega) (by omega) (by omega) (fun j _ h => hg j h)]
  obtain ⟨d, hd⟩ : ∃ d, s.size - p = d + 1 := ⟨s.size - p - 1, by omega⟩
  rw [hd]
  unfold scan
  rw [hb]; rfl
theorem scan_good {s : ByteArray} (hg : ∀ j, j < s.size → badAt s j = false) : scanR s (scan s s.size 0) = (lm (numv s s.size), 0, 0) := by
  rw [scan_at s.size s.size 0 (by omega) (by omega) (by omega) (fun j _ h => hg j h), Nat.sub_self]; rfl
theorem bt_byte {s : ByteArray} {p : Nat} (h : p < s.size) : ((s[p]'h).toNat : Int) = bt s p := by unfold bt; simp [h]
theorem read_bad {s : ByteArray} {p : Nat} (hp : p < s.size) (hg : ∀ j, j < p → badAt s j = false) (hb : badAt s p = true) : (if s.size = 0 then (([] : List Int), (0 : Int), (4 : Int)) else scanR s (scan s s.size 0)) = ([], (p : Int), 4) := by
  rw [if_neg (by omega)]; exact scan_bad hp hg hb
theorem read_end {r1 : List Int} {r2 r3 p : Int} (h : (r1, r2, r3) = (([] : List Int), p, (4 : Int))) (w : World) (s : ByteArray) (pos : Nat) :
    ∃ v0_ : Value, Ending.returned (.tuple #[.slice none 0 0, .int .i64 p, .int .i64 4]) = .returned (.tuple #[v0_, .int .i64 r2, .int .i64 r3]) ∧ Kd.R (Kd.int .u32) 31 (w.iter s pos) w.heap.size (fun _ => True) v0_ r1 ∧ Below w.heap.size w (w.iter s pos) := by
  injection h with h1 h2
  injection h2 with h2 h3
  subst h1; subst h2; subst h3
  exact ⟨_, rfl, Kd.R_nil _ _ _ _ _, below_alloc (Below.refl _ _) _⟩
theorem read_end0 {r1 : List Int} {r2 r3 : Int} (h : (([] : List Int), (0 : Int), (4 : Int)) = (r1, r2, r3)) (w : World) (s : ByteArray) (pos : Nat) :
    ∃ v0_ : Value, Ending.returned (.tuple #[.slice none 0 0, .int .i64 0, .int .i64 4]) = .returned (.tuple #[v0_, .int .i64 r2, .int .i64 r3]) ∧ Kd.R (Kd.int .u32) 31 (w.iter s pos) w.heap.size (fun _ => True) v0_ r1 ∧ Below w.heap.size w (w.iter s pos) := read_end h.symm w s pos
theorem em_of (s : ByteArray) : s.toList.isEmpty = decide (s.size = 0) := by
  rw [ByteArray.toList_eq]
  have h : s.data.toList.length = s.size := by rw [Array.length_toList]; rfl
  rw [← h]
  cases s.data.toList <;> simp
theorem digits_num {s : ByteArray} (hg : ∀ j, j < s.size → badAt s j = false) : ∀ i, i ≤ s.size → 0 ≤ numv s i ∧ numv s i < 10 ^ i := by
  intro i
  induction i with
  | zero => intro _; simp [numv]
  | succ i ih =>
    intro hi
    obtain ⟨h0, h1⟩ := ih (by omega)
    exact numv_lt h1 (hg i (by omega)) h0
/-- the digits before p are read, the next chunk begins at q -/
structure RD (s : ByteArray) (q p : Nat) (out : List Int) : Prop where
  at_ : p = q ∨ (p = s.size ∧ s.size ≤ q)
  le : p ≤ s.size
  ok : Ok out
  num : val out = numv s p
  len : out.length ≤ p
theorem RD.start (s : ByteArray) : RD s 0 0 [] := ⟨.inl rfl, Nat.zero_le _, ok_nil, by rw [val_nil]; rfl, Nat.le_refl _⟩
/-- the digits from q on to i make v, m is ten to their number -/
structure RE (s : ByteArray) (q i : Nat) (m v : Int) : Prop where
  q_le : q ≤ i
  i_le : i ≤ s.size
  nine : i ≤ q + 9
  m_is : m = 10 ^ (i - q)
  v0 : 0 ≤ v
  v1 : v < m
  num : numv s i = numv s q * m + v
theorem RE.start {s : ByteArray} {q : Nat} (h : q ≤ s.size) : RE s q q 1 0 := ⟨Nat.le_refl _, h, by omega, by simp, by omega, by omega, by simp⟩
theorem RE.m_le {s : ByteArray} {q i : Nat} {m v : Int} (h : RE s q i m v) : 1 ≤ m ∧ m ≤ 1000000000 := by
  obtain ⟨a, b, c, d, -⟩ := h
  have h1 : (10 : Nat) ^ (i - q) ≤ 10 ^ 9 := Nat.pow_le_pow_right (by omega) (by omega)
  have h2 : 0 < (10 : Nat) ^ (i - q) := Nat.pow_pos (by omega)
  have h3 : m = ((10 ^ (i - q) : Nat) : Int) := by rw [d, Int.natCast_pow]; rfl
  omega
theorem RE.m_lt {s : ByteArray} {q i : Nat} {m v : Int} (h : RE s q i m v) (hi : i < q + 9) : m ≤ 100000000 := by
  obtain ⟨a, b, c, d, -⟩ := h
  have h1 : (10 : Nat) ^ (i - q) ≤ 10 ^ 8 := Nat.pow_le_pow_right (by omega) (by omega)
  have h3 : m = ((10 ^ (i - q) : Nat) : Int) := by rw [d, Int.natCast_pow]; rfl
  omega
theorem RE.step {s : ByteArray} {q i : Nat} {m v : Int} (h : RE s q i m v) (hi : i < s.size) (h9 : i < q + 9) (hb : badAt s i = false) : RE s q (i + 1) (m * 10) (10 * v + (bt s i - 48)) := by
  obtain ⟨a, b, c, d, e, f, g⟩ := h
  unfold badAt at hb
  simp only [Bool.or_eq_false_iff, decide_eq_false_iff_not] at hb
  have hs : i + 1 - q = (i - q) + 1 := by omega
  refine ⟨by omega, by omega, by omega, by rw [hs, Int.pow_succ, d], by omega, by omega, ?_⟩
  show 10 * numv s i + (bt s i - 48) = _
  rw [g]
  grind
theorem RD.step {s : ByteArray} {q p i : Nat} {m v : Int} {out r : List Int} (D : RD s q p out) (h : RE s q i m v) (hq : q < s.size) (hend : i = s.size ∨ i = q + 9) (or : Ok r) (hv : val r = val out * m + v) (hl : r.length ≤ out.length + 1) (hi : q < i) : RD s (q + 9) i r := by
  have hp : p = q := by have := D.at_; omega
  subst hp
  refine ⟨?_, h.i_le, or, by rw [hv, D.num, h.num], by have := D.len; omega⟩
  rcases hend with e | e
  · by_cases h9 : i = p + 9
    · exact .inl h9
    · exact .inr ⟨e, by have := h.nine; omega⟩
  · exact .inl e
theorem grow_road {s : ByteArray} {q p i : Nat} {m v : Int} {out : List Int} (D : RD s q p out) (h : RE s q i m v) (hs : s.size ≤ 65536) (hend : i = s.size ∨ i = q + 9) (hi : q < i) (hq : q < s.size) :
    ∃ k r, nat_grow.f k out m v = some r ∧ RD s (q + 9) i r := by
  have hm := h.m_le
  have := D.len
  have := D.le
  obtain ⟨r, or, hv, hl, e⟩ := grow_f out D.ok (by omega) m v (by omega) (by omega) h.v0 (by have := h.v1; omega)
  obtain ⟨k, e⟩ := e.rounds
  exact ⟨k, r, e, D.step h hq hend or hv hl hi⟩
theorem digit_rng {s : ByteArray} {i : Nat} (h : badAt s i = false) : 48 ≤ bt s i ∧ bt s i ≤ 57 := by
  unfold badAt at h
  simp only [Bool.or_eq_false_iff, decide_eq_false_iff_not] at h
  omega
theorem read_m {m : Int} (h0 : 0 ≤ m) (h : m ≤ 100000000) : m * 10 % 4294967296 = m * 10 := by omega
theorem read_v {v b : Int} (h0 : 0 ≤ v) (h : v < 100000000) (b0 : 48 ≤ b) (b1 : b ≤ 57) : (10 * v % 4294967296 + (b - 48) % 256) % 4294967296 = 10 * v + (b - 48) := by omega
set_option maxHeartbeats 8000000 in
set_option maxRecDepth 100000 in
theorem nat_Read.calls (a0 : ByteArray) (r1 : List Int) (r2 : Int) (r3 : Int) (w : World) (h : nat_Read.f a0 = some (r1, r2, r3)) :
    Calls Try.prog 32 #[.string a0] w fun e w' => ∃ v0_ : Value, e = .returned (.tuple #[v0_, .int .i64 r2, .int .i64 r3]) ∧ Kd.R (Kd.int .u32) 31 w' w.heap.size (fun _ => True) v0_ r1 ∧ Below w.heap.size w w' := by
  unfold nat_Read.f at h
  simp only [Option.some.injEq] at h
  unfold readR at h
  by_cases c1 : a0.size > 65536
  · rw [if_pos c1] at h
    simp only [Prod.mk.injEq] at h
    obtain ⟨rfl, rfl, rfl⟩ := h
    have c1b : decide ((65536 : Int) < (a0.size : Int)) = true := decide_eq_true (by omega)
    go_enter Try.func32, Try.ntmps32
    go_wp2_with (fail)
    go_ret3
    exact ⟨.slice none 0 0, rfl, Kd.R_nil _ _ _ _ _, Below.refl _ _⟩
  · rw [if_neg c1] at h
    have c1b : decide ((65536 : Int) < (a0.size : Int)) = false := decide_eq_false (by omega)
    have H := Aside0.mk h
    have S := Aside0.mk c1
    clear h c1
    go_enter Try.func32, Try.ntmps32
    go_wp2_with (fail)
    go_loopw [5] (fun _ w' => ∃ pos : Nat, w' = w.iter a0 pos ∧ pos ≤ a0.size ∧ Aside0 (∀ j, j < pos → badAt a0 j = false)) (fun _ w' => a0.size - w'.iterPos w.heap.size)
    case atStart => exact ⟨0, rfl, Nat.zero_le _, ⟨fun j h => by omega⟩⟩
    case round =>
      obtain ⟨pos, rfl, hp, G⟩ := hrel
      by_cases hlt : pos < a0.size
      · have hr := bt_range a0 pos
        by_cases ha : (a0[pos]'hlt).toNat < 128
        · have hnx := fun ty => run_next_ascii (P := Try.prog) w a0 pos ty hlt ha
          rw [bt_byte hlt] at hnx
          have HP := Aside0.mk (And.intro hp hlt)
          clear ha hp hlt
          by_cases b1 : bt a0 pos < 48
          · have E := Aside0.mk (H.out.symm.trans (read_bad HP.out.2 G.out (by unfold badAt; simp [b1])))
            have t1 : decide (bt a0 pos < 48) = true := decide_eq_true b1
            clear b1
            go_wp2
            go_ret3
            exact read_end E.out w a0 _
          · by_cases b2 : 57 < bt a0 pos
            · have E := Aside0.mk (H.out.symm.trans (read_bad HP.out.2 G.out (by unfold badAt; simp [b2])))
              have t1 : decide (bt a0 pos < 48) = false := decide_eq_false b1
              have t2 : decide (57 < bt a0 pos) = true := decide_eq_true b2
              clear b1 b2
              go_wp2
              go_ret3
              exact read_end E.out w a0 _
            · have e : badAt a0 pos = (pos == 1 && bt a0 0 == 48) := by unfold badAt; simp [b1, b2]
              have t1 : decide (bt a0 pos < 48) = false := decide_eq_false b1
              have t2 : decide (57 < bt a0 pos) = false := decide_eq_false b2
              clear b1 b2
              by_cases b3 : pos = 1
              · have t3 : ((pos : Int) == 1) = true := beq_iff_eq.mpr (by omega)
                have t4 : 0 < a0.size := by have := HP.out.2; omega
                have hz := bt_byte t4
                have N3 := Aside0.mk b3
                have e2 : badAt a0 pos = (bt a0 0 == 48) := by rw [e, beq_iff_eq.mpr b3]; rfl
                clear b3 e
                by_cases b4 : bt a0 0 = 48
                · have E := Aside0.mk (H.out.symm.trans (read_bad HP.out.2 G.out (by rw [e2]; exact beq_iff_eq.mpr b4)))
                  have t5 : (bt a0 0 == 48) = true := beq_iff_eq.mpr b4
                  clear b4 e2
                  go_wp2
                  go_ret3
                  exact read_end E.out w a0 _
                · have t5 : (bt a0 0 == 48) = false := beq_eq_false_iff_ne.mpr b4
                  have E := Aside0.mk (show badAt a0 pos = false by rw [e2, t5])
                  clear b4 e2
                  go_wp2
                  go_roundw
                  case rel => exact ⟨pos + 1, rfl, HP.out.2, ⟨fun j hj => by
                    by_cases ej : j = pos
                    · rw [ej]; exact E.out
                    · exact G.out j (by omega)⟩⟩
                  case measure => have := HP.out.2; simp; omega
              · have E := Aside0.mk (show badAt a0 pos = false by rw [e, beq_eq_false_iff_ne.mpr b3]; rfl)
                have t3 : ((pos : Int) == 1) = false := beq_eq_false_iff_ne.mpr (by omega)
                have N3 := Aside0.mk b3
                clear b3 e
                go_wp2
                go_roundw
                case rel => exact ⟨pos + 1, rfl, HP.out.2, ⟨fun j hj => by
                  by_cases ej : j = pos
                  · rw [ej]; exact E.out
                  · exact G.out j (by omega)⟩⟩
                case measure => have := HP.out.2; simp; omega
        · have hnx := fun ty => run_next_any (P := Try.prog) w a0 pos ty hlt
          have hd := decode_high a0 pos hlt (by omega)
          have hb : 57 < bt a0 pos := by rw [← bt_byte hlt]; omega
          have E := Aside0.mk (H.out.symm.trans (read_bad hlt G.out (by unfold badAt; simp [hb])))
          generalize (Utf8.decode a0 pos).1 = c at hnx hd
          have t1 : decide ((c : Int) < 48) = false := decide_eq_false (by omega)
          have t2 : decide (57 < (c : Int)) = true := decide_eq_true (by omega)
          clear hd hb ha hlt
          go_wp2
          go_ret3
          exact read_end E.out w a0 _
      · have e : pos = a0.size := by omega
        subst e
        have hnx := fun ty => run_next_end (P := Try.prog) w a0 a0.size ty hlt
        clear hp hlt
        have EM := Aside0.mk (em_of a0)
        have B := Aside0.mk (show Below w.heap.size w (w.iter a0 a0.size) from below_alloc (Below.refl _ _) _)
        by_cases hz : a0.size = 0
        · have h := H.out
          rw [if_pos hz] at h
          have E := Aside0.mk h
          have em : a0.toList.isEmpty = true := by rw [EM.out]; exact decide_eq_true hz
          clear hz h H EM
          go_wp2
          go_ret3
          exact read_end0 E.out w a0 _
        · have h := H.out
          rw [if_neg hz, scan_good G.out] at h
          have E := Aside0.mk h
          have em : a0.toList.isEmpty = false := by rw [EM.out]; exact decide_eq_false hz
          have Z := Aside0.mk (digits_num G.out)
          have SZ := Aside0.mk (show a0.size ≤ 65536 by have := S.out; omega)
          clear hz h H EM
          go_wp2
          go_loopw [7, 8] (fun v7 v8 wr => ∃ (q p : Nat) (out : List Int), v8 = .int .i64 q ∧ Aside0 (RD a0 q p out) ∧ Aside0 (Kd.R (Kd.int .u32) 31 wr w.heap.size (fun _ => True) v7 out) ∧ Aside0 (Below w.heap.size w wr)) (fun _ v8 _ => a0.size - (intOf v8).toNat)
          case atStart => exact ⟨0, 0, [], rfl, ⟨RD.start a0⟩, ⟨Kd.R_nil _ _ _ _ _⟩, B⟩
          case round =>
            clear B hnx
            obtain ⟨q, p, out, rfl, D, R, B⟩ := hrel
            by_cases hq : q < a0.size
            · have tq : ((q : Int) < (a0.size : Int)) = True := eq_true (by omega)
              obtain ⟨q9, e9⟩ : ∃ q9, q9 = q + 9 := ⟨_, rfl⟩
              have w9 : wrap64 ((q : Int) + 9) = (q9 : Int) := by have := SZ.out; rw [w64 (by omega) (by omega)]; omega
              have E9 := Aside0.mk e9
              have HQ := Aside0.mk hq
              clear hq e9
              obtain ⟨wo, hwo⟩ : ∃ wo : World, wo = wr := ⟨_, rfl⟩
              subst hwo
              go_wp2
              go_loopw [9, 10, 11] (fun v9 v10 v11 wr => ∃ (i : Nat) (m v : Int), v9 = .int .u32 m ∧ v10 = .int .u32 v ∧ v11 = .int .i64 i ∧ Aside0 (RE a0 q i m v) ∧ Aside0 (Kd.R (Kd.int .u32) 31 wr w.heap.size (fun _ => True) u7 out) ∧ Aside0 (Below w.heap.size w wr)) (fun _ _ v11 _ => a0.size - (intOf v11).toNat)
              case atStart => exact ⟨q, 1, 0, rfl, rfl, rfl, ⟨RE.start (by have := HQ.out; omega)⟩, R, B⟩
              case round =>
                clear R B
                obtain ⟨i, m, v, rfl, rfl, rfl, F, R, B⟩ := hrel
                have gr := fun h => grow_road (i := i) D.out F.out SZ.out h
                by_cases hi : i < a0.size
                · have t1 : ((i : Int) < (a0.size : Int)) = True := eq_true (by omega)
                  have hbr := bt_range a0 i
                  have w1 : wrap64 ((i : Int) + 1) = ((i + 1 : Nat) : Int) := by have := SZ.out; rw [w64 (by omega) (by omega)]; omega
                  have HI := Aside0.mk hi
                  clear hi
                  by_cases h9 : i < q9
                  · have t2 : ((i : Int) < (q9 : Int)) = True := eq_true (by omega)
                    have F2 := Aside0.mk (F.out.step HI.out (by have := E9.out; omega) (G.out i HI.out))
                    have ML := Aside0.mk (F.out.m_lt (by have := E9.out; omega))
                    have M1 := Aside0.mk F.out.m_le
                    clear h9 gr
                    go_wp2
                    go_roundw
                    case rel =>
                      have hg := digit_rng (G.out i HI.out)
                      have hv := F.out.v1
                      have hv0 := F.out.v0
                      have hm := ML.out
                      have hm1 := M1.out
                      rw [bt_byte HI.out, read_m (by omega) hm, read_v hv0 (by omega) hg.1 hg.2, w1]
                      exact ⟨i + 1, _, _, rfl, rfl, rfl, F2, R, B⟩
                    case measure => rw [w1]; have := HI.out; simp [intOf]; omega
                  · have t2 : ((i : Int) < (q9 : Int)) = False := eq_false (by omega)
                    obtain ⟨k, r, e, D2⟩ := gr (.inr (by have := F.out.nine; have := E9.out; omega)) (by have := F.out.q_le; have := E9.out; omega) HQ.out
                    have EG := Aside0.mk e
                    have DD2 := Aside0.mk D2
                    clear gr e D2 h9
                    go_wp2_with (fail)
                    refine (nat_grow.calls k (fun _ => True) u7 out m v r w _ B.out R.out EG.out).mono ?_
                    rintro e w2 ⟨v7, rfl, hR, hB, -⟩
                    have R2 := Aside0.mk (Kd.R_mono hR (ok' := fun _ => True) (fun _ _ => trivial))
                    have B2 := Aside0.mk hB
                    clear hR hB R B EG
                    go_wp2
                    go_roundw
                    case rel => exact ⟨q9, i, r, by rw [w9], ⟨by rw [E9.out]; exact DD2.out⟩, R2, B2⟩
                    case measure => rw [w9]; have := E9.out; have := HQ.out; simp [intOf]; omega
                · have t1 : ((i : Int) < (a0.size : Int)) = False := eq_false (by omega)
                  obtain ⟨k, r, e, D2⟩ := gr (.inl (by have := F.out.i_le; omega)) (by have := F.out.i_le; have := HQ.out; omega) HQ.out
                  have EG := Aside0.mk e
                  have DD2 := Aside0.mk D2
                  clear gr e D2 hi
                  go_wp2_with (fail)
                  refine (nat_grow.calls k (fun _ => True) u7 out m v r w _ B.out R.out EG.out).mono ?_
                  rintro e w2 ⟨v7, rfl, hR, hB, -⟩
                  have R2 := Aside0.mk (Kd.R_mono hR (ok' := fun _ => True) (fun _ _ => trivial))
                  have B2 := Aside0.mk hB
                  clear hR hB R B EG
                  go_wp2
                  go_roundw
                  case rel => exact ⟨q9, i, r, by rw [w9], ⟨by rw [E9.out]; exact DD2.out⟩, R2, B2⟩
                  case measure => rw [w9]; have := E9.out; have := HQ.out; simp [intOf]; omega
            · have tq : ((q : Int) < (a0.size : Int)) = False := eq_false (by omega)
              have hp : p = a0.size := by have := D.out.at_; have := D.out.le; omega
              have hn := D.out.num
              rw [hp] at hn
              obtain ⟨k, e⟩ := (trim_own_f out (by have := D.out.len; have := D.out.le; have := SZ.out; omega)).rounds
              rw [trim_lm D.out.ok, hn] at e
              have h := E.out
              simp only [Prod.mk.injEq] at h
              obtain ⟨h1, h2, h3⟩ := h
              rw [h1] at e
              subst h2
              subst h3
              have EG := Aside0.mk e
              clear e h1 hn hp hq D E
              go_wp2_with (fail)
              refine (nat_trim_own.calls k (fun _ => True) u7 out r1 w _ B.out R.out EG.out).mono ?_
              rintro e w2 ⟨v7, rfl, hR, hB, -⟩
              have R2 := Aside0.mk (Kd.R_mono hR (ok' := fun _ => True) (fun _ _ => trivial))
              have B2 := Aside0.mk hB
              clear hR hB R B EG
              go_wp2
              go_ret3
              exact ⟨v7, rfl, R2.out, B2.out⟩
end Go.Proofs.Ytnlkafjhbjlhaaa.PA
