/- Plain lemmas on limbs of 32 bits: what numbers lists of limbs stand for, and how numbers are written as limbs; no program is named. -/
namespace Go.Proofs.Ytmbmbmkmjbpcpaa.Nums

def val : List Int → Int
  | [] => 0
  | x :: xs => x + 4294967296 * val xs

def Ok (l : List Int) : Prop := ∀ x ∈ l, 0 ≤ x ∧ x < 4294967296

def Bp (n : Nat) : Int := 4294967296 ^ n

theorem Bp_zero : Bp 0 = 1 := by simp [Bp]
theorem Bp_succ (n : Nat) : Bp (n + 1) = 4294967296 * Bp n := by unfold Bp; rw [Int.pow_succ, Int.mul_comm]
theorem Bp_pos (n : Nat) : 0 < Bp n := by unfold Bp; exact Int.pow_pos (by decide)
theorem Bp_add (m n : Nat) : Bp (m + n) = Bp m * Bp n := by unfold Bp; exact Int.pow_add _ _ _

theorem ok_nil : Ok [] := by intro x h; cases h
theorem ok_cons {x : Int} {l : List Int} : Ok (x :: l) ↔ (0 ≤ x ∧ x < 4294967296) ∧ Ok l := by
  constructor
  · intro h; exact ⟨h x (by simp), fun y hy => h y (by simp [hy])⟩
  · intro ⟨h1, h2⟩ y hy
    cases List.mem_cons.1 hy with
    | inl e => subst e; exact h1
    | inr e => exact h2 y e
theorem ok_append {a b : List Int} : Ok (a ++ b) ↔ Ok a ∧ Ok b := by
  unfold Ok; constructor
  · intro h; exact ⟨fun x hx => h x (by simp [hx]), fun x hx => h x (by simp [hx])⟩
  · intro ⟨h1, h2⟩ x hx
    cases List.mem_append.1 hx with
    | inl e => exact h1 x e
    | inr e => exact h2 x e
theorem ok_take {a : List Int} (h : Ok a) (n : Nat) : Ok (a.take n) := fun x hx => h x (List.mem_of_mem_take hx)
theorem ok_drop {a : List Int} (h : Ok a) (n : Nat) : Ok (a.drop n) := fun x hx => h x (List.mem_of_mem_drop hx)
theorem ok_getD {a : List Int} (h : Ok a) (n : Nat) : 0 ≤ a.getD n 0 ∧ a.getD n 0 < 4294967296 := by
  by_cases hn : n < a.length
  · have : a.getD n 0 = a[n] := by simp [List.getD, hn]
    rw [this]; exact h _ (List.getElem_mem hn)
  · have : a.getD n 0 = 0 := by simp [List.getD, Nat.le_of_not_lt hn]
    rw [this]; decide
theorem ok_set {a : List Int} (h : Ok a) (n : Nat) {v : Int} (h0 : 0 ≤ v) (h1 : v < 4294967296) : Ok (a.set n v) := by
  intro x hx
  cases List.mem_or_eq_of_mem_set hx with
  | inl e => exact h x e
  | inr e => subst e; exact ⟨h0, h1⟩
theorem ok_replicate (n : Nat) : Ok (List.replicate n 0) := by
  intro x hx; rw [List.mem_replicate] at hx; rw [hx.2]; decide

theorem val_nil : val [] = 0 := rfl
theorem val_cons (x : Int) (l : List Int) : val (x :: l) = x + 4294967296 * val l := rfl
theorem val_append (a b : List Int) : val (a ++ b) = val a + Bp a.length * val b := by
  induction a with
  | nil => simp [val, Bp]
  | cons x xs ih =>
    simp only [List.cons_append, val_cons, List.length_cons, ih, Bp_succ]
    rw [Int.mul_add, Int.mul_assoc, Int.add_assoc]
theorem val_single (x : Int) : val [x] = x := by simp [val]
theorem val_snoc (a : List Int) (x : Int) : val (a ++ [x]) = val a + Bp a.length * x := by rw [val_append, val_single]
theorem val_zeros (n : Nat) : val (List.replicate n 0) = 0 := by
  induction n with
  | zero => rfl
  | succ n ih => rw [List.replicate_succ, val_cons, ih]; rfl
theorem val_nonneg {l : List Int} (h : Ok l) : 0 ≤ val l := by
  induction l with
  | nil => decide
  | cons x xs ih => obtain ⟨h1, h2⟩ := ok_cons.1 h; have := ih h2; simp only [val_cons]; omega
theorem val_lt {l : List Int} (h : Ok l) : val l < Bp l.length := by
  induction l with
  | nil => decide
  | cons x xs ih => obtain ⟨h1, h2⟩ := ok_cons.1 h; have := ih h2; simp only [val_cons, List.length_cons, Bp_succ]; omega
theorem take_succ' (a : List Int) (n : Nat) (h : n < a.length) : a.take (n + 1) = a.take n ++ [a.getD n 0] := by
  rw [List.take_succ_eq_append_getElem h]; simp [List.getD, h]
theorem val_take_succ (a : List Int) (n : Nat) (h : n < a.length) : val (a.take (n + 1)) = val (a.take n) + Bp n * a.getD n 0 := by
  rw [take_succ' a n h, val_snoc, List.length_take, Nat.min_eq_left (by omega)]
theorem val_take_drop (a : List Int) (n : Nat) (h : n ≤ a.length) : val a = val (a.take n) + Bp n * val (a.drop n) := by
  have := val_append (a.take n) (a.drop n)
  rw [List.take_append_drop, List.length_take, Nat.min_eq_left h] at this
  exact this
theorem val_drop_cons (a : List Int) (n : Nat) (h : n < a.length) : val (a.drop n) = a.getD n 0 + 4294967296 * val (a.drop (n + 1)) := by
  rw [List.drop_eq_getElem_cons h, val_cons]; simp [List.getD, h]

/-- one number has one list without noughts at its end -/
def Nrm (l : List Int) : Prop := ∀ x, l.getLast? = some x → x ≠ 0
theorem nrm_nil : Nrm [] := by intro x h; simp at h
theorem val_eq_zero {l : List Int} (h : Ok l) (h0 : val l = 0) : ∀ x ∈ l, x = 0 := by
  induction l with
  | nil => intro x hx; cases hx
  | cons y ys ih =>
    obtain ⟨h1, h2⟩ := ok_cons.1 h
    have hv := val_nonneg h2
    simp only [val_cons] at h0
    have hy : y = 0 := by omega
    have hz : val ys = 0 := by omega
    intro x hx
    cases List.mem_cons.1 hx with
    | inl e => omega
    | inr e => exact ih h2 hz x e
theorem nrm_zero {l : List Int} (h : Ok l) (hn : Nrm l) (h0 : val l = 0) : l = [] := by
  cases hl : l.getLast? with
  | none => simpa using hl
  | some x => exact absurd (val_eq_zero h h0 x (List.mem_of_getLast? hl)) (hn x hl)
theorem nrm_tail {x : Int} {l : List Int} (h : Nrm (x :: l)) : Nrm l := by
  intro y hy
  apply h
  cases l with
  | nil => simp at hy
  | cons z zs => rw [List.getLast?_cons_cons]; exact hy
theorem same {a b : List Int} (ha : Ok a) (hb : Ok b) (na : Nrm a) (nb : Nrm b) (h : val a = val b) : a = b := by
  induction a generalizing b with
  | nil => exact (nrm_zero hb nb (by rw [← h]; rfl)).symm
  | cons x xs ih =>
    cases b with
    | nil => exact nrm_zero ha na (by rw [h]; rfl)
    | cons y ys =>
      obtain ⟨h1, h2⟩ := ok_cons.1 ha
      obtain ⟨h3, h4⟩ := ok_cons.1 hb
      simp only [val_cons] at h
      have e1 : x = y := by omega
      have e2 : val xs = val ys := by omega
      rw [e1, ih h2 h4 (nrm_tail na) (nrm_tail nb) e2]

/-- without noughts at the end -/
def trim : List Int → List Int
  | [] => []
  | x :: xs => if x = 0 ∧ trim xs = [] then [] else x :: trim xs
theorem trim_val (l : List Int) : val (trim l) = val l := by
  induction l with
  | nil => rfl
  | cons x xs ih =>
    unfold trim
    by_cases h : x = 0 ∧ trim xs = []
    · rw [if_pos h, val_cons, ← ih, h.2, h.1]; rfl
    · rw [if_neg h, val_cons, val_cons, ih]
theorem trim_ok {l : List Int} (h : Ok l) : Ok (trim l) := by
  induction l with
  | nil => exact ok_nil
  | cons x xs ih =>
    obtain ⟨h1, h2⟩ := ok_cons.1 h
    unfold trim
    by_cases c : x = 0 ∧ trim xs = []
    · rw [if_pos c]; exact ok_nil
    · rw [if_neg c]; exact ok_cons.2 ⟨h1, ih h2⟩
theorem trim_nrm (l : List Int) : Nrm (trim l) := by
  induction l with
  | nil => exact nrm_nil
  | cons x xs ih =>
    unfold trim
    by_cases c : x = 0 ∧ trim xs = []
    · rw [if_pos c]; exact nrm_nil
    · rw [if_neg c]
      intro y hy
      cases ht : trim xs with
      | nil => rw [ht] at hy; simp at hy; intro h0; exact c ⟨by omega, ht⟩
      | cons z zs => rw [ht, List.getLast?_cons_cons] at hy; rw [ht] at ih; exact ih y hy
theorem trim_snoc_zero (l : List Int) : trim (l ++ [0]) = trim l := by
  induction l with
  | nil => simp [trim]
  | cons x xs ih => simp only [List.cons_append, trim, ih]
theorem trim_of_nrm {l : List Int} (h : Ok l) (hn : Nrm l) : trim l = l := same (trim_ok h) h (trim_nrm l) hn (trim_val l)
theorem trim_len (l : List Int) : (trim l).length ≤ l.length := by
  induction l with
  | nil => simp [trim]
  | cons x xs ih =>
    unfold trim
    split
    · simp
    · simp; omega
/-- the top limb of a list that ends without nought -/
theorem nrm_top {l : List Int} (ho : Ok l) (hn : Nrm l) (h : l ≠ []) : Bp (l.length - 1) ≤ val l := by
  obtain ⟨a, x, rfl⟩ : ∃ a x, l = a ++ [x] := by
    refine ⟨l.dropLast, l.getLast h, ?_⟩
    exact (List.dropLast_concat_getLast h).symm
  rw [val_snoc]
  have hx : x ≠ 0 := hn x (by simp)
  have h2 := (ok_append.1 ho)
  have hx2 := h2.2 x (by simp)
  have := val_nonneg h2.1
  have hb := Bp_pos a.length
  simp only [List.length_append, List.length_cons, List.length_nil, Nat.zero_add, Nat.add_sub_cancel]
  have : Bp a.length * 1 ≤ Bp a.length * x := Int.mul_le_mul_of_nonneg_left (by omega) (by omega)
  omega
attribute [irreducible] val Bp trim
/-- the limbs of a number -/
def limbs (n : Nat) : List Int := if h : n = 0 then [] else ((n % 4294967296 : Nat) : Int) :: limbs (n / 4294967296)
termination_by n
decreasing_by omega
def lm (z : Int) : List Int := limbs z.toNat
theorem limbs_ok (n : Nat) : Ok (limbs n) := by
  induction n using Nat.strongRecOn with
  | ind n ih =>
    unfold limbs
    split
    · exact ok_nil
    · exact ok_cons.2 ⟨by omega, ih _ (by omega)⟩
theorem limbs_val (n : Nat) : val (limbs n) = n := by
  induction n using Nat.strongRecOn with
  | ind n ih =>
    unfold limbs
    split
    · simp [val]; omega
    · rw [val_cons, ih _ (by omega)]; omega
theorem limbs_nrm (n : Nat) : Nrm (limbs n) := by
  induction n using Nat.strongRecOn with
  | ind n ih =>
    unfold limbs
    split
    · exact nrm_nil
    · have h1 := ih (n / 4294967296) (by omega)
      intro x hx
      cases hl : limbs (n / 4294967296) with
      | nil =>
        rw [hl] at hx
        have h2 := limbs_val (n / 4294967296)
        rw [hl] at h2
        simp only [val] at h2
        simp at hx
        omega
      | cons y ys => rw [hl, List.getLast?_cons_cons] at hx; rw [hl] at h1; exact h1 x hx
theorem lm_ok (z : Int) : Ok (lm z) := limbs_ok _
theorem lm_nrm (z : Int) : Nrm (lm z) := limbs_nrm _
theorem lm_val {z : Int} (h : 0 ≤ z) : val (lm z) = z := by unfold lm; rw [limbs_val]; omega
theorem lm_of {l : List Int} (h : Ok l) (hn : Nrm l) : lm (val l) = l := same (lm_ok _) h (lm_nrm _) hn (lm_val (val_nonneg h))
theorem trim_lm {l : List Int} (h : Ok l) : trim l = lm (val l) := same (trim_ok h) (lm_ok _) (trim_nrm l) (lm_nrm _) (by rw [trim_val, lm_val (val_nonneg h)])
theorem lm_zero : lm 0 = [] := by unfold lm; unfold limbs; simp
theorem lm_eq_nil {z : Int} (h : 0 ≤ z) : lm z = [] ↔ z = 0 := by
  constructor
  · intro e; have := lm_val h; rw [e, val_nil] at this; exact this.symm
  · intro e; subst e; exact lm_zero
theorem Bp_le {m n : Nat} (h : m ≤ n) : Bp m ≤ Bp n := by
  obtain ⟨k, rfl⟩ : ∃ k, n = m + k := ⟨n - m, by omega⟩
  rw [Bp_add]
  have h1 := Bp_pos m
  have h2 := Bp_pos k
  have : Bp m * 1 ≤ Bp m * Bp k := Int.mul_le_mul_of_nonneg_left (by omega) (by omega)
  omega
/-- how many limbs -/
theorem lm_len_le {z : Int} (h : 0 ≤ z) {n : Nat} (hz : z < Bp n) : (lm z).length ≤ n := by
  apply Nat.le_of_not_lt
  intro hlt
  have hne : lm z ≠ [] := by intro e; rw [e] at hlt; simp at hlt
  have h1 := nrm_top (lm_ok z) (lm_nrm z) hne
  rw [lm_val h] at h1
  have h2 := Bp_le (show n ≤ (lm z).length - 1 by omega)
  omega
attribute [irreducible] lm
/-- how many binary digits -/
def bl (n : Nat) : Nat := if h : n = 0 then 0 else bl (n / 2) + 1
termination_by n
decreasing_by omega
theorem bl_zero : bl 0 = 0 := by unfold bl; simp
theorem bl_pos {n : Nat} (h : 0 < n) : bl n = bl (n / 2) + 1 := by rw [bl, dif_neg (by omega)]
theorem bl_lt (n : Nat) : n < 2 ^ bl n := by
  induction n using Nat.strongRecOn with
  | ind n ih =>
    by_cases h : n = 0
    · subst h; simp [bl_zero]
    · rw [bl_pos (by omega), Nat.pow_succ]; have := ih (n / 2) (by omega); omega
theorem bl_le {n k : Nat} (h : n < 2 ^ k) : bl n ≤ k := by
  induction k generalizing n with
  | zero => have : n = 0 := by simpa using h
            subst this; simp [bl_zero]
  | succ k ih =>
    by_cases h0 : n = 0
    · subst h0; simp [bl_zero]
    · rw [bl_pos (by omega)]; rw [Nat.pow_succ] at h; have := @ih (n / 2) (by omega); omega
theorem le_bl {n k : Nat} (h : k < bl n) : 2 ^ k ≤ n := by
  apply Nat.le_of_not_lt; intro h1; have := bl_le h1; omega
theorem bl_unique {n k : Nat} (h1 : n < 2 ^ k) (h2 : k = 0 ∨ 2 ^ (k - 1) ≤ n) : bl n = k := by
  have h3 := bl_le h1
  rcases h2 with h2 | h2
  · omega
  · apply Nat.le_antisymm h3
    apply Nat.le_of_not_lt; intro h4
    have h5 := bl_lt n
    have h6 : 2 ^ bl n ≤ 2 ^ (k - 1) := Nat.pow_le_pow_right (by omega) (by omega)
    omega
theorem bl_eq_zero {n : Nat} : bl n = 0 ↔ n = 0 := by
  constructor
  · intro h; have := bl_lt n; rw [h] at this; simpa using this
  · intro h; subst h; exact bl_zero
/-- shifted -/
theorem bl_shift {n : Nat} (h : 0 < n) (k : Nat) : bl (n * 2 ^ k) = bl n + k := by
  apply bl_unique
  · rw [Nat.pow_add]; exact Nat.mul_lt_mul_of_pos_right (bl_lt n) (Nat.two_pow_pos k)
  · right
    have hb : 0 < bl n := by have := @bl_eq_zero n; omega
    rw [show bl n + k - 1 = (bl n - 1) + k from by omega, Nat.pow_add]
    exact Nat.mul_le_mul_right _ (le_bl (by omega))
theorem pow32 (n : Nat) : (2 : Nat) ^ (32 * n) = 4294967296 ^ n := by rw [Nat.pow_mul]
/-- the bits of limbs with a top limb -/
theorem bl_top {m t n : Nat} (hm : m < 4294967296 ^ n) (ht : 0 < t) : bl (m + 4294967296 ^ n * t) = 32 * n + bl t := by
  apply bl_unique
  · rw [Nat.pow_add, pow32]
    have h1 := bl_lt t
    have h2 : 4294967296 ^ n * (t + 1) ≤ 4294967296 ^ n * 2 ^ bl t := Nat.mul_le_mul_left _ (by omega)
    rw [Nat.mul_add] at h2
    omega
  · right
    have hb : 0 < bl t := by have := @bl_eq_zero t; omega
    rw [show 32 * n + bl t - 1 = 32 * n + (bl t - 1) from by omega, Nat.pow_add, pow32]
    have h1 : 2 ^ (bl t - 1) ≤ t := le_bl (by omega)
    have h2 : 4294967296 ^ n * 2 ^ (bl t - 1) ≤ 4294967296 ^ n * t := Nat.mul_le_mul_left _ h1
    omega
/-! numbers alone -/
theorem div_mul_le (a b : Int) (hb : 0 < b) : a / b * b ≤ a ∧ a < (a / b + 1) * b := by
  have h1 := Int.emod_add_mul_ediv a b
  have h2 := Int.emod_nonneg a (show b ≠ 0 by omega)
  have h3 := Int.emod_lt_of_pos a hb
  have h4 : (a / b + 1) * b = a / b * b + b := by rw [Int.add_mul]; omega
  have h5 : b * (a / b) = a / b * b := Int.mul_comm _ _
  omega
theorem div_eq {a b q r : Int} (h : a = q * b + r) (h0 : 0 ≤ r) (h1 : r < b) : a / b = q ∧ a % b = r := by
  subst h
  have hb : b ≠ 0 := by omega
  constructor
  · rw [Int.add_comm, Int.add_mul_ediv_right _ _ hb, Int.ediv_eq_zero_of_lt h0 h1]; omega
  · rw [Int.add_comm, Int.add_mul_emod_self_right, Int.emod_eq_of_lt h0 h1]
/-- a guessed digit is not below the true one -/
theorem guess_ge {U V vt vl top ul E : Int} (hE : 0 < E) (hvt : 0 < vt) (hvl : 0 ≤ vl) (hV : V = vt * E + vl) (hU : U = top * E + ul) (hul : ul < E) (q : Int) (hq0 : 0 ≤ q) (hq : q * V ≤ U) : q ≤ top / vt := by
  rw [Int.le_ediv_iff_mul_le hvt]
  have h1 : q * vt * E + q * vl ≤ top * E + ul := by rw [hV, hU] at hq; rw [Int.mul_add, ← Int.mul_assoc] at hq; exact hq
  have h2 : 0 ≤ q * vl := Int.mul_nonneg hq0 hvl
  have h3 : q * vt * E < (top + 1) * E := by rw [Int.add_mul]; omega
  have := Int.lt_of_mul_lt_mul_right h3 (by omega)
  omega
end Go.Proofs.Ytmbmbmkmjbpcpaa.Nums

