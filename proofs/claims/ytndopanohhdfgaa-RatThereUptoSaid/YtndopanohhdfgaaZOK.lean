/- A number is read from its own text: the digits' number is the number. -/
import Derived.Test.YtndopanohhdfgaaNatTextK
import Derived.Test.YtndopanohhdfgaaZMK
import Derived.Test.YtndopanohhdfgaaPAx0K
import Derived.Outline
namespace Go.Proofs.Ytndopanohhdfgaa.PA
open Go Go.RowKit Go.Proofs.YtndopanohhdfgaaW.PrintWords Go.Proofs.YtndopanohhdfgaaW.PrintLast Go.Proofs.YtndopanohhdfgaaW.PrintMore
open Go.Proofs.Ytndopanohhdfgaa.Nums
set_option linter.unusedVariables false
theorem digs_at (j : Nat) : ∀ n, j < (digs n).length → (digs n).getD j 0 = ((48 + n / 10 ^ j % 10 : Nat) : Int) := by
  induction j with
  | zero =>
    intro n h
    rcases Nat.eq_zero_or_pos n with h0 | h0
    · subst h0; rw [digs_zero] at h; simp at h
    · rw [digs_pos h0]; simp
  | succ j ih =>
    intro n h
    rcases Nat.eq_zero_or_pos n with h0 | h0
    · subst h0; rw [digs_zero] at h; simp at h
    · rw [digs_pos h0] at h ⊢
      have h1 : j < (digs (n / 10)).length := by simpa using h
      have := ih (n / 10) h1
      rw [Nat.div_div_eq_div_mul, ← Nat.pow_succ'] at this
      simpa using this
theorem digs_lt (n : Nat) : n < 10 ^ (digs n).length := by
  induction n using Nat.strongRecOn with
  | ind n ih =>
    rcases Nat.eq_zero_or_pos n with h0 | h0
    · subst h0; rw [digs_zero]; simp
    · have := ih (n / 10) (by omega)
      rw [digs_pos h0, List.length_cons, Nat.pow_succ]
      omega
theorem digs_ge {n : Nat} (h : 0 < n) : 10 ^ ((digs n).length - 1) ≤ n := by
  induction n using Nat.strongRecOn with
  | ind n ih =>
    rw [digs_pos h, List.length_cons, Nat.add_sub_cancel]
    rcases Nat.eq_zero_or_pos (n / 10) with h0 | h0
    · rw [h0, digs_zero]; simp; omega
    · have h1 := ih (n / 10) (by omega) h0
      have h2 : (digs (n / 10)).length = (digs (n / 10)).length - 1 + 1 := by
        rw [digs_pos h0]; simp
      rw [h2, Nat.pow_succ]
      omega
theorem bt_str (L : List Int) (hL : ∀ x ∈ L, 0 ≤ x ∧ x < 256) (i : Nat) (hi : i < L.length) : bt (strOfNums L) (i : Int) = L.getD i 0 := by
  have hs : i < (strOfNums L).size := by rw [str_size]; exact hi
  unfold bt
  rw [dif_pos (by simpa using hs)]
  have h := hL L[i] (List.getElem_mem hi)
  simp [strOfNums, ByteArray.getElem_eq_getElem_data, List.getD, hi]
  omega
theorem digs_rng (n : Nat) : ∀ x ∈ digs n, 48 ≤ x ∧ x ≤ 57 := by
  induction n using Nat.strongRecOn with
  | ind n ih =>
    rcases Nat.eq_zero_or_pos n with h0 | h0
    · subst h0; rw [digs_zero]; simp
    · rw [digs_pos h0]
      intro x hx
      rcases List.mem_cons.mp hx with e | e
      · subst e; omega
      · exact ih (n / 10) (by omega) x e
theorem text_at {n i : Nat} (h : i < (digs n).length) : bt (strOfNums (digs n).reverse) (i : Int) = ((48 + n / 10 ^ ((digs n).length - 1 - i) % 10 : Nat) : Int) := by
  rw [bt_str _ (fun x hx => by have := digs_rng n x (List.mem_reverse.mp hx); omega) i (by simpa using h), ← digs_at _ n (by omega)]
  simp only [List.getD, List.getElem?_reverse h]
theorem numv_text {n : Nat} : ∀ i, i ≤ (digs n).length → numv (strOfNums (digs n).reverse) i = ((n / 10 ^ ((digs n).length - i) : Nat) : Int) := by
  intro i
  induction i with
  | zero =>
    intro _
    rw [Nat.sub_zero, Nat.div_eq_of_lt (digs_lt n)]; rfl
  | succ i ih =>
    intro hi
    have h1 := ih (by omega)
    show 10 * numv (strOfNums (digs n).reverse) i + (bt (strOfNums (digs n).reverse) i - 48) = _
    rw [h1, text_at (by omega)]
    have e1 : (digs n).length - i = ((digs n).length - (i + 1)) + 1 := by omega
    have e2 : (digs n).length - 1 - i = (digs n).length - (i + 1) := by omega
    rw [e1, e2, Nat.pow_succ, ← Nat.div_div_eq_div_mul]
    omega
theorem scan_none {s : ByteArray} : ∀ d i, i + d = s.size → (∀ j, i ≤ j → j < s.size → badAt s j = false) → scan s d i = none := by
  intro d
  induction d with
  | zero => intro i _ _; rfl
  | succ d ih =>
    intro i h hg
    have e2 : scan s (d + 1) i = scan s d (i + 1) := by rw [scan, hg i (Nat.le_refl _) (by omega)]; rfl
    rw [e2]
    exact ih (i + 1) (by omega) (fun j h3 h4 => hg j (by omega) h4)
theorem read_text {v : Int} (h0 : 0 ≤ v) (hs : (textOf v).size ≤ 65536) : readR (textOf v) = (lm v, 0, 0) := by
  unfold textOf at *
  by_cases hz : v = 0
  · subst hz
    rw [if_pos rfl, lm_zero]
    have e : readR ⟨#[48]⟩ = (lm (numv ⟨#[48]⟩ 1), 0, 0) := by
      unfold readR
      have h1 : (⟨#[48]⟩ : ByteArray).size = 1 := rfl
      rw [if_neg (by rw [h1]; omega), if_neg (by rw [h1]; omega), h1]
      rfl
    rw [e]
    have : numv ⟨#[48]⟩ 1 = 0 := by decide
    rw [this, lm_zero]
  · rw [if_neg hz] at hs ⊢
    obtain ⟨n, rfl⟩ := Int.eq_ofNat_of_zero_le h0
    rw [Int.toNat_natCast] at hs ⊢
    have hn : 0 < n := by omega
    have sz : (strOfNums (digs n).reverse).size = (digs n).length := by rw [str_size]; simp
    have hl : 0 < (digs n).length := by rw [digs_pos hn]; simp
    unfold readR
    rw [if_neg (by omega), if_neg (by omega)]
    rw [scan_none _ 0 (by omega) ?_]
    · show (lm (numv _ _), 0, 0) = _
      rw [sz, numv_text _ (Nat.le_refl _), Nat.sub_self, Nat.pow_zero, Nat.div_one]
    · intro j _ hj
      rw [sz] at hj
      unfold badAt
      rw [text_at hj]
      have t0 := text_at (n := n) (i := 0) hl
      have hge := digs_ge hn
      have hlt := digs_lt n
      have e : n / 10 ^ ((digs n).length - 1 - 0) % 10 ≠ 0 := by
        rw [Nat.sub_zero]
        have h1 : 1 ≤ n / 10 ^ ((digs n).length - 1) := (Nat.le_div_iff_mul_le (Nat.pow_pos (by omega))).mpr (by omega)
        have h2 : n / 10 ^ ((digs n).length - 1) < 10 := by
          apply Nat.div_lt_of_lt_mul
          rw [← Nat.pow_succ]
          have : (digs n).length - 1 + 1 = (digs n).length := by omega
          rw [Nat.succ_eq_add_one, this]; exact hlt
        omega
      have t1 : (bt (strOfNums (digs n).reverse) 0 == 48) = false := by
        apply beq_eq_false_iff_ne.mpr
        rw [show (0 : Int) = ((0 : Nat) : Int) from rfl, t0]
        omega
      rw [t1]
      simp only [Bool.and_false, Bool.or_false, Bool.or_eq_false_iff, decide_eq_false_iff_not]
      omega
end Go.Proofs.Ytndopanohhdfgaa.PA


/- A number and its text, there and back: plain. -/
namespace Go.Proofs.Ytndopanohhdfgaa.PA
open Go Go.Proofs.Ytndopanohhdfgaa.Nums Go.RowKit Go.Proofs.YtndopanohhdfgaaW.PrintWords Go.Proofs.YtndopanohhdfgaaW.PrintLast Go.Proofs.YtndopanohhdfgaaW.PrintMore
set_option linter.unusedVariables false
set_option linter.unusedSimpArgs false
theorem bytes_ext {s t : ByteArray} (h : s.size = t.size) (hb : ∀ i : Nat, i < s.size → bt s (i : Int) = bt t (i : Int)) : s = t := by
  refine ByteArray.ext_getElem h (fun i h1 h2 => ?_)
  have e := hb i h1
  unfold bt at e
  rw [dif_pos (show ((i : Int)).toNat < s.size by omega), dif_pos (show ((i : Int)).toNat < t.size by omega)] at e
  have e2 : (s[i]'h1).toNat = (t[i]'h2).toNat := by
    have e : (((s[i]'h1).toNat : Nat) : Int) = (((t[i]'h2).toNat : Nat) : Int) := e
    omega
  exact UInt8.toNat_inj.mp e2
theorem tlS_zero (s : ByteArray) : tlS s 0 = s := by
  refine bytes_ext (by rw [tlS_size]; omega) (fun i _ => ?_)
  rw [bt_tl, Nat.add_zero]
theorem rdE_good {s : ByteArray} (h : rdE s = 0) : s.size ≠ 0 ∧ (∀ j, j < s.size → badAt s j = false) ∧ rdN s = numv s s.size ∧ rdP s = 0 := by
  have h0 : s.size ≠ 0 := by
    intro h0
    rw [(rd_none h0).2.2] at h
    exact absurd h (by decide)
  have hg : ∀ j, j < s.size → badAt s j = false := by
    intro j
    induction j using Nat.strongRecOn with
    | ind j ih =>
      intro hj
      cases hb : badAt s j with
      | false => rfl
      | true =>
        have := (rd_bad hj (fun k hk => ih k hk (by omega)) hb).2.2
        omega
  exact ⟨h0, hg, (rd_good h0 hg).1, (rd_good h0 hg).2.1⟩
theorem good_rng {s : ByteArray} {j : Nat} (h : badAt s j = false) : 48 ≤ bt s (j : Int) ∧ bt s (j : Int) ≤ 57 ∧ (j = 1 → bt s 0 ≠ 48) := by
  unfold badAt at h
  simp only [Bool.or_eq_false_iff, decide_eq_false_iff_not] at h
  refine ⟨by omega, by omega, fun e e2 => ?_⟩
  have h3 := h.2
  rw [e, e2] at h3
  simp at h3
set_option maxHeartbeats 1000000 in
theorem rd_text {v : Int} (h0 : 0 ≤ v) (hs : (textOf v).size ≤ 65536) : rdE (textOf v) = 0 ∧ rdN (textOf v) = v := by
  have h := read_text h0 hs
  rw [readR_eq hs] at h
  simp only [Prod.mk.injEq] at h
  refine ⟨h.2.2, ?_⟩
  have h1 := congrArg val h.1
  rwa [lm_val rdN_rng.1, lm_val h0] at h1
/-- a number is read from its text -/
theorem readZ_text {z : Int} (hs : (textOf ((z.natAbs : Nat) : Int)).size ≤ 65535) : readZ (textZ z) = (z, 0, 0) := by
  obtain ⟨e1, e2⟩ := rd_text (v := ((z.natAbs : Nat) : Int)) (by omega) (by omega)
  obtain ⟨k0, kg, kN, -⟩ := rdE_good e1
  obtain ⟨g1, g2, -⟩ := good_rng (kg 0 (by omega))
  have g1 : 48 ≤ bt (textOf ((z.natAbs : Nat) : Int)) 0 := g1
  unfold textZ
  generalize textOf ((z.natAbs : Nat) : Int) = t at *
  by_cases hz : z < 0
  · rw [if_pos hz]
    have hsz : ((⟨#[45]⟩ : ByteArray) ++ t).size = 1 + t.size := by rw [ByteArray.size_append]; rfl
    have b0 : bt ((⟨#[45]⟩ : ByteArray) ++ t) 0 = 45 := by
      unfold bt
      rw [dif_pos (by rw [hsz]; show 0 < 1 + _; omega)]
      rw [ByteArray.getElem_append_left (by show (0 : Nat) < 1; omega)]
      rfl
    have bs : ∀ i : Nat, bt ((⟨#[45]⟩ : ByteArray) ++ t) ((i + 1 : Nat) : Int) = bt t (i : Int) := by
      intro i
      unfold bt
      by_cases hi : i < t.size
      · rw [dif_pos (by rw [hsz]; omega), dif_pos (by omega)]
        rw [ByteArray.getElem_append_right (by show 1 ≤ (((i + 1 : Nat) : Int)).toNat; omega)]
        congr 2
      · rw [dif_neg (by rw [hsz]; omega), dif_neg (by omega)]
    have hA : rdAt ((⟨#[45]⟩ : ByteArray) ++ t) = 1 := by
      unfold rdAt
      rw [if_pos ⟨by rw [hsz]; omega, b0⟩]
    have ht : tlS ((⟨#[45]⟩ : ByteArray) ++ t) 1 = t := by
      refine bytes_ext (by rw [tlS_size, hsz]; omega) (fun i _ => ?_)
      rw [bt_tl, bs]
    have hne : bt t 0 ≠ 48 := by
      intro e
      have h1 : t.size = 1 := by
        rcases Nat.lt_or_ge 1 t.size with h1 | h1
        · exact absurd e ((good_rng (kg 1 h1)).2.2 rfl)
        · omega
      rw [kN, h1] at e2
      have e2 : 10 * (0 : Int) + (bt t ((0 : Nat) : Int) - 48) = ((z.natAbs : Nat) : Int) := e2
      have : bt t ((0 : Nat) : Int) = 48 := e
      omega
    unfold readZ
    rw [if_neg (by rw [hsz]; omega), hA, if_neg (by
      rintro ⟨-, -, e⟩
      have := bs 0
      rw [show (((0 + 1 : Nat)) : Int) = 1 from rfl] at this
      rw [this] at e
      exact hne e), ht, if_pos e1, e2]
    have : zof (1 == 1) ((z.natAbs : Nat) : Int) = z := by
      show -((z.natAbs : Nat) : Int) = z
      omega
    rw [this]
  · rw [if_neg hz]
    have hA : rdAt t = 0 := by
      unfold rdAt
      rw [if_neg (fun h => by have := h.2; omega)]
    unfold readZ
    rw [if_neg (by omega), hA, if_neg (by omega), tlS_zero, if_pos e1, e2]
    have : zof (0 == 1) ((z.natAbs : Nat) : Int) = z := by
      show ((z.natAbs : Nat) : Int) = z
      omega
    rw [this]
end Go.Proofs.Ytndopanohhdfgaa.PA

