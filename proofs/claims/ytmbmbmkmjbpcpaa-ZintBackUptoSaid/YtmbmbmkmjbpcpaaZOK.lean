/- A number is read from its own text: the digits' number is the number. -/
import Derived.Test.YtmbmbmkmjbpcpaaNatTextK
import Derived.Test.YtmbmbmkmjbpcpaaZMK
import Derived.Test.YtmbmbmkmjbpcpaaPAx0K
import Derived.Outline
namespace Go.Proofs.Ytmbmbmkmjbpcpaa.PA
open Go Go.RowKit Go.Proofs.YtmbmbmkmjbpcpaaW.PrintWords Go.Proofs.YtmbmbmkmjbpcpaaW.PrintLast Go.Proofs.YtmbmbmkmjbpcpaaW.PrintMore
open Go.Proofs.Ytmbmbmkmjbpcpaa.Nums
set_option linter.unusedVariables false
theorem digs_at (j : Nat) : ∀ n, j < (digs n).length → (digs n).getD j 0 = ((48 + n / 10 ^ j % 10 : Nat) : Int) := by
  induction j with
  | zero =>
    intro n h
    rcases Nat.eq_zero_or_pos n with h0 | h0
    · subst h0; rw [digs_zero] at h; simp at h
    · rw [digs_pos h0]; simp
  | succ j ih =>
    intro n h
    rcases Nat.eq_zero_or_pos n with h0 | h0
    · subst h0; rw [digs_zero] at h; simp at h
    · rw [digs_pos h0] at h ⊢
      have h1 : j < (digs (n / 10)).length := by simpa using h
      have := ih (n / 10) h1
      rw [Nat.div_div_eq_div_mul, ← Nat.pow_succ'] at this
      simpa using this
theorem digs_lt (n : Nat) : n < 10 ^ (digs n).length := by
  induction n using Nat.strongRecOn with
  | ind n ih =>
    rcases Nat.eq_zero_or_pos n with h0 | h0
    · subst h0; rw [digs_zero]; simp
    · have := ih (n / 10) (by omega)
      rw [digs_pos h0, List.length_cons, Nat.pow_succ]
      omega
theorem digs_ge {n : Nat} (h : 0 < n) : 10 ^ ((digs n).length - 1) ≤ n := by
  induction n using Nat.strongRecOn with
  | ind n ih =>
    rw [digs_pos h, List.length_cons, Nat.add_sub_cancel]
    rcases Nat.eq_zero_or_pos (n / 10) with h0 | h0
    · rw [h0, digs_zero]; simp; omega
    · have h1 := ih (n / 10) (by omega) h0
      have h2 : (digs (n / 10)).length = (digs (n / 10)).length - 1 + 1 := by
        rw [digs_pos h0]; simp
      rw [h2, Nat.pow_succ]
      omega
theorem bt_str (L : List Int) (hL : ∀ x ∈ L, 0 ≤ x ∧ x < 256) (i : Nat) (hi : i < L.length) : bt (strOfNums L) (i : Int) = L.getD i 0 := by
  have hs : i < (strOfNums L).size := by rw [str_size]; exact hi
  unfold bt
  rw [dif_pos (by simpa using hs)]
  have h := hL L[i] (List.getElem_mem hi)
  simp [strOfNums, ByteArray.getElem_eq_getElem_data, List.getD, hi]
  omega
theorem digs_rng (n : Nat) : ∀ x ∈ digs n, 48 ≤ x ∧ x ≤ 57 := by
  induction n using Nat.strongRecOn with
  | ind n ih =>
    rcases Nat.eq_zero_or_pos n with h0 | h0
    · subst h0; rw [digs_zero]; simp
    · rw [digs_pos h0]
      intro x hx
      rcases List.mem_cons.mp hx with e | e
      · subst e; omega
      · exact ih (n / 10) (by omega) x e
theorem text_at {n i : Nat} (h : i < (digs n).length) : bt (strOfNums (digs n).reverse) (i : Int) = ((48 + n / 10 ^ ((digs n).length - 1 - i) % 10 : Nat) : Int) := by
  rw [bt_str _ (fun x hx => by have := digs_rng n x (List.mem_reverse.mp hx); omega) i (by simpa using h), ← digs_at _ n (by omega)]
  simp only [List.getD, List.getElem?_reverse h]
theorem numv_text {n : Nat} : ∀ i, i ≤ (digs n).length → numv (strOfNums (digs n).reverse) i = ((n / 10 ^ ((digs n).length - i) : Nat) : Int) := by
  intro i
  induction i with
  | zero =>
    intro _
    rw [Nat.sub_zero, Nat.div_eq_of_lt (digs_lt n)]; rfl
  | succ i ih =>
    intro hi
    have h1 := ih (by omega)
    show 10 * numv (strOfNums (digs n).reverse) i + (bt (strOfNums (digs n).reverse) i - 48) = _
    rw [h1, text_at (by omega)]
    have e1 : (digs n).length - i = ((digs n).length - (i + 1)) + 1 := by omega
    have e2 : (digs n).length - 1 - i = (digs n).length - (i + 1) := by omega
    rw [e1, e2, Nat.pow_succ, ← Nat.div_div_eq_div_mul]
    omega
theorem scan_none {s : ByteArray} : ∀ d i, i + d = s.size → (∀ j, i ≤ j → j < s.size → badAt s j = false) → scan s d i = none := by
  intro d
  induction d with
  | zero => intro i _ _; rfl
  | succ d ih =>
    intro i h hg
    have e2 : scan s (d + 1) i = scan s d (i + 1) := by rw [scan, hg i (Nat.le_refl _) (by omega)]; rfl
    rw [e2]
    exact ih (i + 1) (by omega) (fun j h3 h4 => hg j (by omega) h4)
theorem read_text {v : Int} (h0 : 0 ≤ v) (hs : (textOf v).size ≤ 65536) : readR (textOf v) = (lm v, 0, 0) := by
  unfold textOf at *
  by_cases hz : v = 0
  · subst hz
    rw [if_pos rfl, lm_zero]
    have e : readR ⟨#[48]⟩ = (lm (numv ⟨#[48]⟩ 1), 0, 0) := by
      unfold readR
      have h1 : (⟨#[48]⟩ : ByteArray).size = 1 := rfl
      rw [if_neg (by rw [h1]; omega), if_neg (by rw [h1]; omega), h1]
      rfl
    rw [e]
    have : numv ⟨#[48]⟩ 1 = 0 := by decide
    rw [this, lm_zero]
  · rw [if_neg hz] at hs ⊢
    obtain ⟨n, rfl⟩ := Int.eq_ofNat_of_zero_le h0
    rw [Int.toNat_natCast] at hs ⊢
    have hn : 0 < n := by omega
    have sz : (strOfNums (digs n).reverse).size = (digs n).length := by rw [str_size]; simp
    have hl : 0 < (digs n).length := by rw [digs_pos hn]; simp
    unfold readR
    rw [if_neg (by omega), if_neg (by omega)]
    rw [scan_none _ 0 (by omega) ?_]
    · show (lm (numv _ _), 0, 0) = _
      rw [sz, numv_text _ (Nat.le_refl _), Nat.sub_self, Nat.pow_zero, Nat.div_one]
    · intro j _ hj
      rw [sz] at hj
      unfold badAt
      rw [text_at hj]
      have t0 := text_at (n := n) (i := 0) hl
      have hge := digs_ge hn
      have hlt := digs_lt n
      have e : n / 10 ^ ((digs n).length - 1 - 0) % 10 ≠ 0 := by
        rw [Nat.sub_zero]
        have h1 : 1 ≤ n / 10 ^ ((digs n).length - 1) := (Nat.le_div_iff_mul_le (Nat.pow_pos (by omega))).mpr (by omega)
        have h2 : n / 10 ^ ((digs n).length - 1) < 10 := by
          apply Nat.div_lt_of_lt_mul
          rw [← Nat.pow_succ]
          have : (digs n).length - 1 + 1 = (digs n).length := by omega
          rw [Nat.succ_eq_add_one, this]; exact hlt
        omega
      have t1 : (bt (strOfNums (digs n).reverse) 0 == 48) = false := by
        apply beq_eq_false_iff_ne.mpr
        rw [show (0 : Int) = ((0 : Nat) : Int) from rfl, t0]
        omega
      rw [t1]
      simp only [Bool.and_false, Bool.or_false, Bool.or_eq_false_iff, decide_eq_false_iff_not]
      omega
end Go.Proofs.Ytmbmbmkmjbpcpaa.PA


/- A number and its text, there and back: plain. -/
namespace Go.Proofs.Ytmbmbmkmjbpcpaa.PA
open Go Go.Proofs.Ytmbmbmkmjbpcpaa.Nums Go.RowKit Go.Proofs.YtmbmbmkmjbpcpaaW.PrintWords Go.Proofs.YtmbmbmkmjbpcpaaW.PrintLast Go.Proofs.YtmbmbmkmjbpcpaaW.PrintMore
set_option linter.unusedVariables false
set_option linter.unusedSimpArgs false
theorem bytes_ext {s t : ByteArray} (h : s.size = t.size) (hb : ∀ i : Nat, i < s.size → bt s (i : Int) = bt t (i : Int)) : s = t := by
  refine ByteArray.ext_getElem h (fun i h1 h2 => ?_)
  have e := hb i h1
  unfold bt at e
  rw [dif_pos (show ((i : Int)).toNat < s.size by omega), dif_pos (show ((i : Int)).toNat < t.size by omega)] at e
  have e2 : (s[i]'h1).toNat = (t[i]'h2).toNat := by
    have e : (((s[i]'h1).toNat : Nat) : Int) = (((t[i]'h2).toNat : Nat) : Int) := e
    omega
  exact UInt8.toNat_inj.mp e2
theorem tlS_zero (s : ByteArray) : tlS s 0 = s := by
  refine bytes_ext (by rw [tlS_size]; omega) (fun i _ => ?_)
  rw [bt_tl, Nat.add_zero]
theorem rdE_good {s : ByteArray} (h : rdE s = 0) : s.size ≠ 0 ∧ (∀ j, j < s.size → badAt s j = false) ∧ rdN s = numv s s.size ∧ rdP s = 0 := by
  have h0 : s.size ≠ 0 := by
    intro h0
    rw [(rd_none h0).2.2] at h
    exact absurd h (by decide)
  have hg : ∀ j, j < s.size → badAt s j = false := by
    intro j
    induction j using Nat.strongRecOn with
    | ind j ih =>
      intro hj
      cases hb : badAt s j with
      | false => rfl
      | true =>
        have := (rd_bad hj (fun k hk => ih k hk (by omega)) hb).2.2
        omega
  exact ⟨h0, hg, (rd_good h0 hg).1, (rd_good h0 hg).2.1⟩
theorem good_rng {s : ByteArray} {j : Nat} (h : badAt s j = false) : 48 ≤ bt s (j : Int) ∧ bt s (j : Int) ≤ 57 ∧ (j = 1 → bt s 0 ≠ 48) := by
  unfold badAt at h
  simp only [Bool.or_eq_false_iff, decide_eq_false_iff_not] at h
  refine ⟨by omega, by omega, fun e e2 => ?_⟩
  have h3 := h.2
  rw [e, e2] at h3
  simp at h3
/-- a number of digits whose first is no nought -/
theorem numv_big {s : ByteArray} (hg : ∀ j, j < s.size → badAt s j = false) (h1 : bt s 0 ≠ 48) : ∀ i, 0 < i → i ≤ s.size → (10 : Int) ^ (i - 1) ≤ numv s i := by
  intro i
  induction i with
  | zero => intro h; omega
  | succ i ih =>
    intro _ hi
    have e : numv s (i + 1) = 10 * numv s i + (bt s i - 48) := rfl
    obtain ⟨g1, g2, g3⟩ := good_rng (hg i (by omega))
    rw [e, Nat.add_sub_cancel]
    by_cases h0 : i = 0
    · subst h0
      have : numv s 0 = 0 := rfl
      have h2 : bt s ((0 : Nat) : Int) ≠ 48 := h1
      rw [this, Int.pow_zero]
      omega
    · have := ih (by omega) (by omega)
      have e2 : (10 : Int) ^ i = 10 * 10 ^ (i - 1) := by
        rw [show i = (i - 1) + 1 by omega, Int.pow_succ, Int.mul_comm]
        simp
      omega
theorem numv_digit {s : ByteArray} (hg : ∀ j, j < s.size → badAt s j = false) : ∀ k i, i + k = s.size → numv s i = numv s s.size / 10 ^ k := by
  intro k
  induction k with
  | zero => intro i h; rw [Int.pow_zero, Int.ediv_one, show i = s.size by omega]
  | succ k ih =>
    intro i h
    have h1 := ih (i + 1) (by omega)
    have e : numv s (i + 1) = 10 * numv s i + (bt s i - 48) := rfl
    obtain ⟨g1, g2, -⟩ := good_rng (hg i (by omega))
    have h2 : numv s i = numv s (i + 1) / 10 := by omega
    rw [h2, h1, Int.pow_succ, Int.ediv_ediv_of_nonneg (Int.le_of_lt (Int.pow_pos (by decide)))]
theorem textOf_read {s : ByteArray} (h : rdE s = 0) : textOf (rdN s) = s := by
  obtain ⟨h0, hg, hN, -⟩ := rdE_good h
  rw [hN]
  obtain ⟨r1, r2⟩ := numv_rng hg s.size (Nat.le_refl _)
  obtain ⟨g1, g2, -⟩ := good_rng (hg 0 (by omega))
  by_cases hf : bt s 0 = 48
  · -- the text is a single nought
    have hs : s.size = 1 := by
      rcases Nat.lt_or_ge 1 s.size with h1 | h1
      · exact absurd hf ((good_rng (hg 1 h1)).2.2 rfl)
      · omega
    have hz : numv s s.size = 0 := by
      rw [hs]
      show 10 * (0 : Int) + (bt s ((0 : Nat) : Int) - 48) = 0
      have : bt s ((0 : Nat) : Int) = 48 := hf
      omega
    rw [hz]
    refine bytes_ext (by rw [hs]; rfl) (fun i hi => ?_)
    have hi0 : i = 0 := by
      have : (textOf 0).size = 1 := rfl
      omega
    subst hi0
    have : bt (textOf 0) ((0 : Nat) : Int) = 48 := by decide
    rw [this]
    exact hf.symm
  · have hb := numv_big hg hf s.size (by omega) (Nat.le_refl _)
    have hp : (0 : Int) < 10 ^ (s.size - 1) := Int.pow_pos (by decide)
    obtain ⟨n, hn⟩ : ∃ n : Nat, numv s s.size = (n : Int) := ⟨(numv s s.size).toNat, by omega⟩
    have c1 : (10 : Int) ^ (s.size - 1) = ((10 ^ (s.size - 1) : Nat) : Int) := by rw [Int.natCast_pow]; rfl
    have c2 : (10 : Int) ^ s.size = ((10 ^ s.size : Nat) : Int) := by rw [Int.natCast_pow]; rfl
    have hn1 : 10 ^ (s.size - 1) ≤ n := by omega
    have hn2 : n < 10 ^ s.size := by omega
    have hn0 : 0 < n := by
      have : 0 < 10 ^ (s.size - 1) := Nat.pow_pos (by decide)
      omega
    have d1 := digs_lt n
    have d2 := digs_ge hn0
    have hl : (digs n).length = s.size := by
      have a1 : s.size - 1 < (digs n).length := (Nat.pow_lt_pow_iff_right (a := 10) (by decide)).mp (Nat.lt_of_le_of_lt hn1 d1)
      have a2 : (digs n).length - 1 < s.size := (Nat.pow_lt_pow_iff_right (a := 10) (by decide)).mp (Nat.lt_of_le_of_lt d2 hn2)
      omega
    have ht : textOf (numv s s.size) = strOfNums (digs n).reverse := by
      unfold textOf
      rw [if_neg (by omega), hn]
      rfl
    rw [ht]
    have hsz : (strOfNums (digs n).reverse).size = s.size := by rw [str_size, List.length_reverse, hl]
    refine bytes_ext hsz (fun i hi => ?_)
    rw [hsz] at hi
    rw [text_at (by omega), hl]
    have e1 := numv_digit hg (s.size - 1 - i) (i + 1) (by omega)
    have e2 := numv_digit hg (s.size - i) i (by omega)
    have e : numv s (i + 1) = 10 * numv s i + (bt s i - 48) := rfl
    obtain ⟨q1, q2, -⟩ := good_rng (hg i hi)
    have e3 : numv s i = numv s (i + 1) / 10 := by omega
    have e4 : bt s (i : Int) - 48 = numv s (i + 1) % 10 := by omega
    rw [hn] at e1
    have c3 : (n : Int) / 10 ^ (s.size - 1 - i) = ((n / 10 ^ (s.size - 1 - i) : Nat) : Int) := by
      rw [Int.natCast_ediv, Int.natCast_pow]
      rfl
    rw [c3] at e1
    omega
set_option maxHeartbeats 1000000 in
/-- a text that is read: it is the number's text -/
theorem textZ_read {s : ByteArray} (h : (readZ s).2.2 = 0) : textZ (readZ s).1 = s := by
  unfold readZ at *
  by_cases h1 : s.size > 65536
  · rw [if_pos h1] at h
    exact absurd h (by decide)
  rw [if_neg h1] at h ⊢
  by_cases h2 : rdAt s = 1 ∧ 1 < s.size ∧ bt s 1 = 48
  · rw [if_pos h2] at h
    exact absurd h (by decide)
  rw [if_neg h2] at h ⊢
  by_cases h3 : rdE (tlS s (rdAt s)) = 0
  · rw [if_pos h3]
    have ht := textOf_read h3
    obtain ⟨k0, kg, kN, -⟩ := rdE_good h3
    have hr := rdN_rng (s := tlS s (rdAt s))
    by_cases hA : 0 < s.size ∧ bt s 0 = 45
    · have hA1 : rdAt s = 1 := by unfold rdAt; rw [if_pos hA]
      rw [hA1] at h2 h3 ht k0 kg kN hr ⊢
      have hne : bt (tlS s 1) 0 ≠ 48 := by
        rw [show (0 : Int) = ((0 : Nat) : Int) from rfl, bt_tl]
        intro e
        have := tlS_size (s := s) (k := 1)
        exact h2 ⟨rfl, by omega, e⟩
      have hb := numv_big kg hne (tlS s 1).size (by omega) (Nat.le_refl _)
      rw [← kN] at hb
      have hp : (0 : Int) < 10 ^ ((tlS s 1).size - 1) := Int.pow_pos (by decide)
      have hz : ∀ x : Int, zof (1 == 1) x = - x := fun _ => rfl
      dsimp only
      rw [hz]
      unfold textZ
      rw [if_pos (by omega), show (((-rdN (tlS s 1)).natAbs : Nat) : Int) = rdN (tlS s 1) by omega, ht]
      have hsz := tlS_size (s := s) (k := 1)
      refine bytes_ext (by rw [ByteArray.size_append, hsz]; show 1 + _ = _; omega) (fun i hi => ?_)
      rw [ByteArray.size_append, hsz] at hi
      have hi : i < 1 + (s.size - 1) := hi
      by_cases hi0 : i = 0
      · subst hi0
        rw [show bt s ((0 : Nat) : Int) = 45 from hA.2]
        unfold bt
        rw [dif_pos (by rw [ByteArray.size_append]; show _ < 1 + _; omega)]
        rw [ByteArray.getElem_append_left (by show (0 : Nat) < 1; omega)]
        rfl
      · have e := bt_tl (s := s) (k := 1) (i := i - 1)
        rw [show i - 1 + 1 = i by omega] at e
        rw [← e]
        unfold bt
        rw [dif_pos (by rw [ByteArray.size_append]; show _ < 1 + _; omega), dif_pos (by omega)]
        rw [ByteArray.getElem_append_right (by show 1 ≤ ((i : Int)).toNat; omega)]
        congr 2
    · have hA0 : rdAt s = 0 := by unfold rdAt; rw [if_neg hA]
      rw [hA0, tlS_zero] at ht hr ⊢
      show textZ (zof (0 == 1) (rdN s)) = s
      have hz : ∀ x : Int, zof (0 == 1) x = x := fun _ => rfl
      rw [hz]
      unfold textZ
      rw [if_neg (by omega), show (((rdN s).natAbs : Nat) : Int) = rdN s by omega]
      exact ht
  · rw [if_neg h3] at h
    have h : (4 : Int) = 0 := h
    omega
theorem rd_text {v : Int} (h0 : 0 ≤ v) (hs : (textOf v).size ≤ 65536) : rdE (textOf v) = 0 ∧ rdN (textOf v) = v := by
  have h := read_text h0 hs
  rw [readR_eq hs] at h
  simp only [Prod.mk.injEq] at h
  refine ⟨h.2.2, ?_⟩
  have h1 := congrArg val h.1
  rwa [lm_val rdN_rng.1, lm_val h0] at h1
/-- a number is read from its text -/
theorem readZ_text {z : Int} (hs : (textOf ((z.natAbs : Nat) : Int)).size ≤ 65535) : readZ (textZ z) = (z, 0, 0) := by
  obtain ⟨e1, e2⟩ := rd_text (v := ((z.natAbs : Nat) : Int)) (by omega) (by omega)
  obtain ⟨k0, kg, kN, -⟩ := rdE_good e1
  obtain ⟨g1, g2, -⟩ := good_rng (kg 0 (by omega))
  have g1 : 48 ≤ bt (textOf ((z.natAbs : Nat) : Int)) 0 := g1
  unfold textZ
  generalize textOf ((z.natAbs : Nat) : Int) = t at *
  by_cases hz : z < 0
  · rw [if_pos hz]
    have hsz : ((⟨#[45]⟩ : ByteArray) ++ t).size = 1 + t.size := by rw [ByteArray.size_append]; rfl
    have b0 : bt ((⟨#[45]⟩ : ByteArray) ++ t) 0 = 45 := by
      unfold bt
      rw [dif_pos (by rw [hsz]; show 0 < 1 + _; omega)]
      rw [ByteArray.getElem_append_left (by show (0 : Nat) < 1; omega)]
      rfl
    have bs : ∀ i : Nat, bt ((⟨#[45]⟩ : ByteArray) ++ t) ((i + 1 : Nat) : Int) = bt t (i : Int) := by
      intro i
      unfold bt
      by_cases hi : i < t.size
      · rw [dif_pos (by rw [hsz]; omega), dif_pos (by omega)]
        rw [ByteArray.getElem_append_right (by show 1 ≤ (((i + 1 : Nat) : Int)).toNat; omega)]
        congr 2
      · rw [dif_neg (by rw [hsz]; omega), dif_neg (by omega)]
    have hA : rdAt ((⟨#[45]⟩ : ByteArray) ++ t) = 1 := by
      unfold rdAt
      rw [if_pos ⟨by rw [hsz]; omega, b0⟩]
    have ht : tlS ((⟨#[45]⟩ : ByteArray) ++ t) 1 = t := by
      refine bytes_ext (by rw [tlS_size, hsz]; omega) (fun i _ => ?_)
      rw [bt_tl, bs]
    have hne : bt t 0 ≠ 48 := by
      intro e
      have h1 : t.size = 1 := by
        rcases Nat.lt_or_ge 1 t.size with h1 | h1
        · exact absurd e ((good_rng (kg 1 h1)).2.2 rfl)
        · omega
      rw [kN, h1] at e2
      have e2 : 10 * (0 : Int) + (bt t ((0 : Nat) : Int) - 48) = ((z.natAbs : Nat) : Int) := e2
      have : bt t ((0 : Nat) : Int) = 48 := e
      omega
    unfold readZ
    rw [if_neg (by rw [hsz]; omega), hA, if_neg (by
      rintro ⟨-, -, e⟩
      have := bs 0
      rw [show (((0 + 1 : Nat)) : Int) = 1 from rfl] at this
      rw [this] at e
      exact hne e), ht, if_pos e1, e2]
    have : zof (1 == 1) ((z.natAbs : Nat) : Int) = z := by
      show -((z.natAbs : Nat) : Int) = z
      omega
    rw [this]
  · rw [if_neg hz]
    have hA : rdAt t = 0 := by
      unfold rdAt
      rw [if_neg (fun h => by have := h.2; omega)]
    unfold readZ
    rw [if_neg (by omega), hA, if_neg (by omega), tlS_zero, if_pos e1, e2]
    have : zof (0 == 1) ((z.natAbs : Nat) : Int) = z := by
      show ((z.natAbs : Nat) : Int) = z
      omega
    rw [this]
end Go.Proofs.Ytmbmbmkmjbpcpaa.PA

